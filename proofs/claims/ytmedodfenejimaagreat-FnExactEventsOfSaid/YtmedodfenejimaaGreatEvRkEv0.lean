import Derived.Test.YtmedodfenejimaaGreatEvRkEd
namespace Go.Proofs.YtmedodfenejimaaGreat
set_option linter.unusedVariables false
set_option linter.unusedSimpArgs false
open Go.RowKit
def frD (r:Fr):List Dat:=[.bool (decide (r.z<0)),.sl (L r.z.natAbs),.sl (L r.d)]
def AG (l:List Fr):List (List Dat):=l.map frD
theorem AH (l:List Fr):(AG l).length=l.length:=List.length_map ..
theorem IZ (a b:List Fr):AG (a++b)=AG a++AG b:=List.map_append ..
abbrev Cnd:Type:=Fr×Bool
def cV (v:List V2) (n:Nat):List Cnd:=(v.take n).map λ p=>(Fr.ofInt p.1,true)
def cA (ls:List (List V2)):Nat->List Cnd
 | 0=>[]
 | k+1=>cA ls k++cV (ls.getD k []) (ls.getD k []).length
def cC (es:List Edg) (i n:Nat):List Cnd:=((es.take i).take n).map λ f=>(Cb (es.getD i noE) f,DD (es.getD i noE) f)
def cL (e:Edg) (y:Int):List Cnd:=[(As e y,Bm e y)]
def cE (es:List Edg) (ly hy:Int):Nat->List Cnd
 | 0=>[]
 | i+1=>cE es ly hy i++(cC es i i++(cL (es.getD i noE) ly++cL (es.getD i noE) hy))
def evP (lo hi:Fr) (c:Cnd):Bool:=c.2 && (decide (Fr.cmp c.1 lo>0) && decide (Fr.cmp c.1 hi<0))
def evF (lo hi:Fr) (cs:List Cnd):List Fr:=(cs.filter (evP lo hi)).map (·.1)
theorem Q4 (lo hi:Fr) (a b:List Cnd):evF lo hi (a++b)=evF lo hi a++evF lo hi b:=by unfold evF;rw [List.filter_append,List.map_append]
theorem VH {lo hi:Fr} {cs:List Cnd} {x:Fr} {b:Bool} (h:evP lo hi (x,b)=true):AG (evF lo hi cs)++[frD x]=AG (evF lo hi (cs++[(x,b)])):=by
 rw [Q4,IZ];unfold evF;simp [h,AG]
theorem WN {lo hi:Fr} {cs:List Cnd} {x:Fr} {b:Bool} (h:evP lo hi (x,b)=false):AG (evF lo hi cs)=AG (evF lo hi (cs++[(x,b)])):=by
 rw [Q4];unfold evF;simp [h]
theorem MW {lo hi x:Fr} {b:Bool} (h:b=false):evP lo hi (x,b)=false:=by unfold evP;rw [h];rfl
theorem Hr {lo hi x:Fr} {b:Bool} (h:Fr.cmp x lo<=0):evP lo hi (x,b)=false:=by unfold evP;rw [decide_eq_false (show ¬ Fr.cmp (x,b).1 lo>0 by show ¬ Fr.cmp x lo>0;omega)];simp
theorem Hs {lo hi x:Fr} {b:Bool} (h:0<=Fr.cmp x hi):evP lo hi (x,b)=false:=by unfold evP;rw [decide_eq_false (show ¬ Fr.cmp (x,b).1 hi<0 by show ¬ Fr.cmp x hi<0;omega)];simp
theorem LO {lo hi x:Fr} {b:Bool} (hb:b=true) (h1:0<Fr.cmp x lo) (h2:Fr.cmp x hi<0):evP lo hi (x,b)=true:=by unfold evP;simp [hb,h1,h2]
theorem JB {lo hi:Fr} {cs cs' : List Cnd} {x:Fr} {b:Bool} (e:cs'=cs++[(x,b)]) (h:evP lo hi (x,b)=true):AG (evF lo hi cs)++[frD x]=AG (evF lo hi cs'):=by rw [e,VH h]
theorem Ia {lo hi:Fr} {cs cs' : List Cnd} {x:Fr} {b:Bool} (e:cs'=cs++[(x,b)]) (h:evP lo hi (x,b)=false):AG (evF lo hi cs)=AG (evF lo hi cs'):=by rw [e,WN h]
theorem J4 {v:List V2} {n:Nat} (h:n<v.length) (A:List Cnd):A++cV v (n+1)=(A++cV v n)++[(Fr.ofInt (v.getD n (0,0)).1,true)]:=by
 unfold cV
 rw [List.append_assoc]
 congr 1
 rw [List.take_add_one,List.map_append]
 simp [List.getD,h]
theorem Q5 {ls:List (List V2)} {k n:Nat} (h:n=(ls.getD k []).length):cA ls (k+1)=cA ls k++cV (ls.getD k []) n:=by rw [h];rfl
theorem HL {es:List Edg} {i n:Nat} (h:n<i) (hi:i<=es.length) (A B:List Cnd):A++(B++cC es i (n+1))=(A++(B++cC es i n))++[(Cb (es.getD i noE) ((es.take i).getD n noE),DD (es.getD i noE) ((es.take i).getD n noE))]:=by
 unfold cC
 rw [List.append_assoc,List.append_assoc]
 congr 2
 have hl:n<(es.take i).length:=by rw [List.length_take];omega
 rw [List.take_add_one (l:=es.take i)]
 simp only [List.getD,List.getElem?_eq_getElem hl,Option.toList_some,List.map_append,List.map_cons,List.map_nil,Option.getD_some]
theorem AC {es:List Edg} {ly hy:Int} {i n:Nat} (h:n=i) (A:List Cnd):A++cE es ly hy (i+1)=((A++(cE es ly hy i++cC es i n))++[(As (es.getD i noE) ly,Bm (es.getD i noE) ly)])++[(As (es.getD i noE) hy,Bm (es.getD i noE) hy)]:=by
 subst h;simp [cE,cL]
section
variable {lo hi : Fr} {cs cs' : List Cnd} {x y : Fr} {b c : Bool}
theorem Bd (e:cs'=(cs++[(x,b)])++[(y,c)]) (p:evP lo hi (x,b)=true) (q:evP lo hi (y,c)=true):(AG (evF lo hi cs)++[frD x])++[frD y]=AG (evF lo hi cs'):=by rw [JB rfl p,JB e q]
theorem Be (e:cs'=(cs++[(x,b)])++[(y,c)]) (p:evP lo hi (x,b)=true) (q:evP lo hi (y,c)=false):AG (evF lo hi cs)++[frD x]=AG (evF lo hi cs'):=by rw [JB rfl p,Ia e q]
theorem Bf (e:cs'=(cs++[(x,b)])++[(y,c)]) (p:evP lo hi (x,b)=false) (q:evP lo hi (y,c)=true):AG (evF lo hi cs)++[frD y]=AG (evF lo hi cs'):=by rw [Ia rfl p,JB e q]
theorem Bg (e:cs'=(cs++[(x,b)])++[(y,c)]) (p:evP lo hi (x,b)=false) (q:evP lo hi (y,c)=false):AG (evF lo hi cs)=AG (evF lo hi cs'):=by rw [Ia rfl p,Ia e q]
end
theorem NQ (lo hi:Fr) (cs:List Cnd):(evF lo hi cs).length<=cs.length:=by unfold evF;rw [List.length_map];exact List.length_filter_le _ _
theorem P2 (v:List V2) (n:Nat):(cV v n).length<=v.length:=by unfold cV;rw [List.length_map,List.length_take];omega
theorem LP (ls:List (List V2)):∀ k,(cA ls k).length<=E6 ls k
 | 0=>Nat.le_refl _
 | k+1=>by
  have h1:=LP ls k
  have h2:=P2 (ls.getD k []) (ls.getD k []).length
  rw [cA,List.length_append,E6];omega
theorem P3 (es:List Edg) (i n:Nat):(cC es i n).length<=i:=by unfold cC;rw [List.length_map,List.length_take,List.length_take];omega
theorem P4 (es:List Edg) (ly hy:Int):∀ i,i<=es.length->(cE es ly hy i).length<=i*(es.length+2)
 | 0,_=>Nat.zero_le _
 | i+1,h=>by
  have h1:=P4 es ly hy i (by omega)
  have h2:=P3 es i i
  rw [Nat.succ_mul]
  simp only [cE,List.length_append,cL,List.length_cons,List.length_nil];omega
def NR (ls:List (List V2)):Prop:=BZ ls=true/\ls.length<=1048576/\E6 ls ls.length<=1048576
theorem B6 {ls:List (List V2)} (h:NR ls) {lo hi:Fr} {k n:Nat} (hk:k<ls.length):(AG (evF lo hi (cA ls k++cV (ls.getD k []) n))).length<=1048576:=by
 have h1:=NQ lo hi (cA ls k++cV (ls.getD k []) n)
 have h2:=LP ls k
 have h3:=P2 (ls.getD k []) n
 have h4:=NO ls (k+1) (ls.length-(k+1))
 rw [show k+1+(ls.length-(k+1))=ls.length by omega] at h4
 have h5:E6 ls (k+1)=E6 ls k+(ls.getD k []).length:=rfl
 have h6:=h.2.2
 rw [List.length_append] at h1
 rw [AH];omega
theorem Q6 {ls:List (List V2)} (h:NR ls):(edA ls).length<=1048576:=Nat.le_trans (LM ls ls.length) h.2.2
theorem NS {ls:List (List V2)} (h:NR ls) {lo hi:Fr} {ly hy:Int} {i:Nat} (hi' : i<=(edA ls).length) (n:Nat):(AG (evF lo hi (cA ls ls.length++(cE (edA ls) ly hy i++cC (edA ls) i n)))).length<=1200000000000/\(AG (evF lo hi (cA ls ls.length++cE (edA ls) ly hy i))).length<=1200000000000:=by
 have h1:=NQ lo hi (cA ls ls.length++(cE (edA ls) ly hy i++cC (edA ls) i n))
 have h1':=NQ lo hi (cA ls ls.length++cE (edA ls) ly hy i)
 have h2:=LP ls ls.length
 have h3:=P3 (edA ls) i n
 have h4:=P4 (edA ls) ly hy i hi'
 have h5:=Q6 h
 have h6:=h.2.2
 have h7:=Nat.mul_le_mul (show i<=1048576 by omega) (show (edA ls).length+2<=1048578 by omega)
 rw [List.length_append,List.length_append] at h1
 rw [List.length_append] at h1'
 rw [AH,AH]
 constructor <;> omega
def Cy:List Fr->Fr->List Fr
 | [],r=>[r]
 | a::l,r=>if Fr.cmp a r<0 then a::Cy l r else if Fr.cmp a r=0 then a::l else r::a::l
def CA (acc l:List Fr):List Fr:=l.foldl Cy acc
theorem Q7 {n:Int} (h:-9223372036854775808<=n/\n<=9223372036854775807):(Fr.ofInt n).d≠0:=by rw [(Ef (BR h)).2];decide
def Da (l:List Fr):Prop:=∀ x ∈ l,x.d≠0
theorem Ov (lo hi:Fr) (cs:List Cnd):Da (evF lo hi cs):=λ x hx hd=>by
 unfold evF at hx
 obtain ⟨c,hc,rfl⟩:=List.mem_map.1 hx
 have h:=(List.mem_filter.1 hc).2
 unfold evP at h
 rw [Fr.cmp_bad (.inl hd)] at h
 simp at h
theorem UG {lo hi:Fr} (cs:List Cnd) (h1:lo.d≠0) (h2:hi.d≠0):Da (evF lo hi cs++[lo,hi]):=λ x hx=>by
 rcases List.mem_append.1 hx with h|h
 ·exact Ov _ _ _ x h
 ·simp only [List.mem_cons,List.not_mem_nil,or_false] at h
  rcases h with rfl|rfl
  ·exact h1
  ·exact h2
theorem Cp {l:List Fr} {k:Nat} (h:k<l.length):(AG l).getD k []=frD (l.getD k Fr.none):=by simp [AG,List.getD,h]
theorem MX {r:Fr} : ∀ {l:List Fr} {k:Nat},k<l.length->(∀ j,j<k->Fr.cmp (l.getD j Fr.none) r<0)->Fr.cmp (l.getD k Fr.none) r=0->Cy l r=l
 | [],k,hk,_,_=>by simp at hk
 | a::l,0,_,_,h0=>by
  have h0:Fr.cmp a r=0:=by simpa using h0
  rw [Cy,if_neg (by omega),if_pos h0]
 | a::l,k+1,hk,h,h0=>by
  have ha:Fr.cmp a r<0:=by simpa using h 0 (by omega)
  rw [Cy,if_pos ha,MX (k:=k) (by simpa using hk) (λ j hj=>by simpa using h (j+1) (by omega)) (by simpa using h0)]
theorem LQ {r:Fr} : ∀ {l:List Fr} {k:Nat},k<=l.length->(∀ j,j<k->Fr.cmp (l.getD j Fr.none) r<0)->(k<l.length->0<Fr.cmp (l.getD k Fr.none) r)->Cy l r=l.take k++r::l.drop k
 | [],k,hk,_,_=>by simp [Cy]
 | a::l,0,_,_,h0=>by
  have h0:0<Fr.cmp a r:=by simpa using h0 (by simp)
  rw [Cy,if_neg (by omega),if_neg (by omega)];rfl
 | a::l,k+1,hk,h,h0=>by
  have ha:Fr.cmp a r<0:=by simpa using h 0 (by omega)
  rw [Cy,if_pos ha,LQ (k:=k) (by simpa using hk) (λ j hj=>by simpa using h (j+1) (by omega)) (λ hk2=>by simpa using h0 (by simpa using hk2))];rfl
theorem MY (l:List Fr) (r:Fr) (k:Nat):((([]:List (List Dat))++(AG l).take k)++[frD r])++(AG l).drop k=AG (l.take k++r::l.drop k):=by
 unfold AG
 rw [List.nil_append,List.map_append,List.map_cons,List.map_take,List.map_drop,List.append_assoc];rfl
theorem Ht {r s:Fr} {p q:Rat} (hr:r.v=some p) (hs:s.v=some q):Fr.cmp r s<0↔p<q:=by
 unfold Fr.cmp Pg
 rw [hr,hs]
 simp only
 split
 ·rename_i h;simp [h]
 ·rename_i h
  split <;> simp [h]
theorem P5 {r s:Fr} (hr:r.d≠0) (hs:s.d≠0):Fr.cmp s r=- Fr.cmp r s:=by
 obtain ⟨p,hp,_⟩:=Fr.some_d hr
 obtain ⟨q,hq,_⟩:=Fr.some_d hs
 unfold Fr.cmp Pg
 rw [hp,hq]
 simp only
 by_cases h1:p<q
 ·have h2:¬ q<p:=by grind
  have h3:¬ q=p:=by grind
  simp [h1,h2,h3]
 ·by_cases h2:p=q
  ·subst h2;simp [h1]
  ·have h3:q<p:=by grind
   simp [h1,h2,h3]
theorem NT {a b c:Fr} (h1:Fr.cmp a b<0) (h2:Fr.cmp b c<0):Fr.cmp a c<0:=by
 have nz:∀ {x y:Fr},Fr.cmp x y<0->x.d≠0/\y.d≠0:=λ {x y} h=>⟨λ e=>by rw [Fr.cmp_bad (.inl e)] at h;omega,λ e=>by rw [Fr.cmp_bad (.inr e)] at h;omega⟩
 obtain ⟨p,hp,_⟩:=Fr.some_d (nz h1).1
 obtain ⟨q,hq,_⟩:=Fr.some_d (nz h1).2
 obtain ⟨r,hr,_⟩:=Fr.some_d (nz h2).2
 rw [Ht hp hq] at h1
 rw [Ht hq hr] at h2
 rw [Ht hp hr]
 grind
theorem Ow (a:Fr):Fr.cmp a a=0:=by
 by_cases h:a.d=0
 ·exact Fr.cmp_bad (.inl h)
 ·obtain ⟨p,hp,_⟩:=Fr.some_d h
  unfold Fr.cmp Pg;rw [hp];simp
def asc (l:List Fr):Prop:=l.Pairwise λ a b=>Fr.cmp a b<0
theorem Ib {r x:Fr} (hr:r.d≠0):∀ {l:List Fr},Da l->(x ∈ Cy l r↔x=r∨x ∈ l)
 | [],_=>by simp [Cy]
 | a::l,h=>by
  have ha:=h a (by simp)
  have ih:=Ib (x:=x) hr (l:=l) λ y hy=>h y (by simp [hy])
  rw [Cy]
  split
  ·simp only [List.mem_cons,ih];grind
  ·split
   ·rename_i h0
    have:=J3 ha hr h0
    subst this;simp
   ·simp
theorem SN {r:Fr} (hr:r.d≠0) {l:List Fr} (h:Da l):Da (Cy l r):=λ x hx=>by
 rcases (Ib hr h).1 hx with rfl|hx
 ·exact hr
 ·exact h x hx
theorem Ox {r:Fr} (hr:r.d≠0):∀ {l:List Fr},Da l->asc l->asc (Cy l r)
 | [],_,_=>by unfold Cy asc;exact List.pairwise_singleton _ _
 | a::l,h,hs=>by
  have ha:=h a (by simp)
  have hg:Da l:=λ y hy=>h y (by simp [hy])
  obtain ⟨h1,h2⟩:=List.pairwise_cons.1 hs
  rw [Cy]
  split
  ·rename_i hlt
   refine List.pairwise_cons.2 ⟨λ b hb=>?_,Ox hr hg h2⟩
   rcases (Ib hr hg).1 hb with rfl|hb
   ·exact hlt
   ·exact h1 b hb
  ·split
   ·exact hs
   ·rename_i hn h0
    have hra:Fr.cmp r a<0:=by rw [P5 ha hr];omega
    refine List.pairwise_cons.2 ⟨λ b hb=>?_,hs⟩
    rcases List.mem_cons.1 hb with rfl|hb
    ·exact hra
    ·exact NT hra (h1 b hb)
theorem JC {l:List Fr} (hl:Da l):∀ {acc:List Fr},Da acc->asc acc->Da (CA acc l)/\asc (CA acc l)/\∀ x,x ∈ CA acc l↔x ∈ acc∨x ∈ l:=by
 induction l with
 | nil=>intro acc h1 h2;exact ⟨h1,h2,λ x=>by simp [CA]⟩
 | cons a l ih=>
  intro acc h1 h2
  have ha:=hl a (by simp)
  obtain ⟨g1,g2,g3⟩:=ih (λ y hy=>hl y (by simp [hy])) (SN ha h1) (Ox ha h1 h2)
  refine ⟨g1,g2,λ x=>?_⟩
  show x ∈ CA (Cy acc a) l↔_
  rw [g3 x,Ib ha h1]
  simp only [List.mem_cons];grind
theorem NU:∀ {a b:List Fr},asc a->asc b->(∀ x,x ∈ a↔x ∈ b)->a=b
 | [],[],_,_,_=>rfl
 | [],b::bs,_,_,h=>by have:=(h b).2 (by simp);simp at this
 | a::t,[],_,_,h=>by have:=(h a).1 (by simp);simp at this
 | a::t,b::bs,ha,hb,h=>by
  obtain ⟨a1,a2⟩:=List.pairwise_cons.1 ha
  obtain ⟨b1,b2⟩:=List.pairwise_cons.1 hb
  have irr:∀ x:Fr,¬ Fr.cmp x x<0:=λ x h=>by rw [Ow] at h;omega
  have e:a=b:=by
   rcases List.mem_cons.1 ((h a).1 (by simp)) with e|e
   ·exact e
   ·rcases List.mem_cons.1 ((h b).2 (by simp)) with e' | e'
    ·exact e'.symm
    ·exact absurd (NT (a1 b e') (b1 a e)) (irr a)
  subst e
  congr 1
  refine NU a2 b2 λ x=>⟨λ hx=>?_,λ hx=>?_⟩
  ·rcases List.mem_cons.1 ((h x).1 (by simp [hx])) with e|e
   ·subst e;exact absurd (a1 x hx) (irr x)
   ·exact e
  ·rcases List.mem_cons.1 ((h x).2 (by simp [hx])) with e|e
   ·subst e;exact absurd (b1 x hx) (irr x)
   ·exact e
theorem SO {lo hi:Fr} (hlt:Fr.cmp lo hi<0) (h1:lo.d≠0) (h2:hi.d≠0) {l:List Fr} (hl:Da l):CA [] (l++[lo,hi])=CA [lo,hi] l:=by
 have hg:Da (l++[lo,hi]):=λ x hx=>by
  rcases List.mem_append.1 hx with h|h
  ·exact hl x h
  ·simp only [List.mem_cons,List.not_mem_nil,or_false] at h
   rcases h with rfl|rfl
   ·exact h1
   ·exact h2
 have hg2:Da [lo,hi]:=λ x hx=>hg x (List.mem_append.2 (.inr hx))
 obtain ⟨_,a2,a3⟩:=JC hg (acc:=[]) (λ x hx=>by simp at hx) List.Pairwise.nil
 obtain ⟨_,b2,b3⟩:=JC hl (acc:=[lo,hi]) hg2 (List.pairwise_cons.2 ⟨λ b hb=>by simp at hb;subst hb;exact hlt,List.pairwise_singleton _ _⟩)
 refine NU a2 b2 λ x=>?_
 rw [a3,b3,List.mem_append];simp [or_comm]
theorem WO {a b:Int} (ha:-9223372036854775808<=a/\a<=9223372036854775807) (hb:-9223372036854775808<=b/\b<=9223372036854775807) (h:a<b):Fr.cmp (Fr.ofInt a) (Fr.ofInt b)<0:=by
 rw [Ht (IK (BR ha)) (IK (BR hb))]
 exact Rat.intCast_lt_intCast.2 h
def okF (cs:List Cnd):List Fr:=(cs.filter (·.2)).map (·.1)
def inP (lo hi x:Fr):Bool:=decide (Fr.cmp x lo>0) && decide (Fr.cmp x hi<0)
theorem Q8 (a b:List Cnd):okF (a++b)=okF a++okF b:=by unfold okF;rw [List.filter_append,List.map_append]
theorem P6 {cs cs' : List Cnd} {x:Fr} {b:Bool} (e:cs'=cs++[(x,b)]) (h:b=true):AG (okF cs)++[frD x]=AG (okF cs'):=by rw [e,Q8,IZ];unfold okF;simp [h,AG]
theorem Vk {cs cs' : List Cnd} {x:Fr} {b:Bool} (e:cs'=cs++[(x,b)]) (h:b=false):AG (okF cs)=AG (okF cs'):=by rw [e,Q8];unfold okF;simp [h]
theorem Aj (cs:List Cnd):(okF cs).length<=cs.length:=by unfold okF;rw [List.length_map];exact List.length_filter_le _ _
theorem UH (lo hi:Fr):∀ cs:List Cnd,evF lo hi cs=(okF cs).filter (inP lo hi)
 | []=>rfl
 | (x,b)::cs=>by
  have ih:=UH lo hi cs
  unfold evF okF at *
  cases b with
  | false=>simp [evP,ih]
  | true=>
   by_cases h:inP lo hi x=true
   ·have h' : evP lo hi (x,true)=true:=by unfold evP;unfold inP at h;simpa using h
    simp [h,h',ih]
   ·have h' : ¬ evP lo hi (x,true)=true:=by unfold evP;unfold inP at h;simpa using h
    simp [h,h',ih]
theorem UI (l:List Fr) (r:Fr):(Cy l r).length<=l.length+1:=by
 induction l with
 | nil=>simp [Cy]
 | cons a l ih=>
  rw [Cy]
  split
  ·simp only [List.length_cons];omega
  ·split <;> simp only [List.length_cons] <;> omega
theorem JD (l:List Fr):∀ acc:List Fr,(CA acc l).length<=acc.length+l.length:=by
 induction l with
 | nil=>intro acc;simp [CA]
 | cons a l ih=>
  intro acc
  have h1:=ih (Cy acc a)
  have h2:=UI acc a
  show (CA (Cy acc a) l).length<=_
  simp only [List.length_cons];omega
def Cz (lo hi:Fr) (l:List Fr) (q:Nat):List Fr:=CA [lo,hi] ((l.take q).filter (inP lo hi))
theorem SP {lo hi:Fr} {l:List Fr} {q:Nat} (hq:q<l.length) (h:inP lo hi (l.getD q Fr.none)=true):Cy (Cz lo hi l q) (l.getD q Fr.none)=Cz lo hi l (q+1):=by
 unfold Cz CA
 have e:l.getD q Fr.none=l[q]:=by simp [List.getD,hq]
 rw [e] at h ⊢
 rw [List.take_add_one,List.getElem?_eq_getElem hq]
 simp only [Option.toList_some,List.filter_append,List.foldl_append,List.filter_cons,h,if_true,List.filter_nil,List.foldl_cons,List.foldl_nil]
theorem Oy {lo hi:Fr} {l:List Fr} {q:Nat} (hq:q<l.length) (h:inP lo hi (l.getD q Fr.none)=false):Cz lo hi l q=Cz lo hi l (q+1):=by
 unfold Cz CA
 have e:l.getD q Fr.none=l[q]:=by simp [List.getD,hq]
 rw [e] at h
 rw [List.take_add_one,List.getElem?_eq_getElem hq]
 simp only [Option.toList_some,List.filter_append,List.foldl_append,List.filter_cons,h,List.filter_nil,List.foldl_nil]
 rfl
theorem SQ (lo hi:Fr) (l:List Fr) (q:Nat):(Cz lo hi l q).length<=2+l.length:=by
 have h1:=JD ((l.take q).filter (inP lo hi)) [lo,hi]
 have h2:=List.length_filter_le (inP lo hi) (l.take q)
 rw [List.length_take] at h2
 unfold Cz
 simp only [List.length_cons,List.length_nil] at h1;omega
def evR (lx ly hx hy:Int) (ls:List (List V2)):List Fr:=if BZ ls=true/\lx<hx then CA [Fr.ofInt lx,Fr.ofInt hx] (evF (Fr.ofInt lx) (Fr.ofInt hx) (cA ls ls.length++cE (edA ls) ly hy (edA ls).length)) else []
section
variable {lx ly hx hy : Int} {ls : List (List V2)}
theorem NV (h:¬ (BZ ls=true/\lx<hx)):evR lx ly hx hy ls=[]:=by unfold evR;rw [if_neg h]
theorem VI (h:BZ ls=true) (h2:lx<hx):evR lx ly hx hy ls=Cz (Fr.ofInt lx) (Fr.ofInt hx) (okF (cA ls ls.length++cE (edA ls) ly hy (edA ls).length)) (okF (cA ls ls.length++cE (edA ls) ly hy (edA ls).length)).length:=by
 unfold evR Cz
 rw [if_pos ⟨h,h2⟩,UH,List.take_length]
theorem VJ (h:BZ ls=true) (h2:lx<hx) (hl:-9223372036854775808<=lx/\lx<=9223372036854775807) (hh:-9223372036854775808<=hx/\hx<=9223372036854775807):CA [] (evF (Fr.ofInt lx) (Fr.ofInt hx) (cA ls ls.length++cE (edA ls) ly hy (edA ls).length)++[Fr.ofInt lx,Fr.ofInt hx])=evR lx ly hx hy ls:=by
 unfold evR
 rw [if_pos ⟨h,h2⟩]
 exact SO (WO hl hh h2) (Q7 hl) (Q7 hh) (Ov _ _ _)
end
theorem UJ {ls:List (List V2)} {k:Nat} (hk:k<ls.length) (h:Ae (ls.getD k [])=false):BZ ls=false:=by
 cases hp:BZ ls with
 | false=>rfl
 | true=>rw [FU hp hk] at h;cases h
theorem UK {ls:List (List V2)} (h:∀ k,k<ls.length->Ae (ls.getD k [])=true):BZ ls=true:=by
 unfold BZ
 rw [List.all_eq_true];intro x hx
 obtain ⟨j,hj,rfl⟩:=List.getElem_of_mem hx
 simpa [List.getD,hj] using h j hj
end Go.Proofs.YtmedodfenejimaaGreat
