import Derived.Test.YthoidhehmmcgnaaGreatWtRkEd
import Derived.Test.YthoidhehmmcgnaaGreatProg
import Derived.Shelf.SlGeneric
import Derived.Shelf.SlLaysF0
import Derived.Shelf.SlSortCmp.NoneTotal
import Derived.Deep.LoopGhost
import Derived.WalkKit
import Derived.RegionTactic
import Derived.Deep.RegionHeld3
namespace Go.Proofs.YthoidhehmmcgnaaGreat
set_option linter.unusedVariables false
set_option linter.unusedSimpArgs false
open Go.RowKit
def frD(r:Fr):List Dat:=[.bool (decide (r.z<0)),.sl (L r.z.natAbs),.sl (L r.d)]
def AC(l:List Fr):List (List Dat):=l.map frD
theorem Ao(l:List Fr):(AC l).length=l.length:=List.length_map ..
theorem Jj(a b:List Fr):AC (a++b)=AC a++AC b:=List.map_append ..
abbrev Cnd:Type:=Fr×Bool
def cV(v:List V2)(n:Nat):List Cnd:=(v.take n).map λp=>(Fr.ofInt p.1,true)
def cA(ls:List (List V2)):Nat->List Cnd
 | 0=>[]|k+1=>cA ls k++cV (ls.getD k []) (ls.getD k []).length
def cC(es:List Edg)(i n:Nat):List Cnd:=((es.take i).take n).map λf=>(FH (es.getD i noE) f,C4 (es.getD i noE) f)
def cL(e:Edg)(y:Int):List Cnd:=[(CH e y,Bh e y)]
def cE(es:List Edg)(ly hy:Int):Nat->List Cnd
 | 0=>[]|i+1=>cE es ly hy i++(cC es i i++(cL (es.getD i noE) ly++cL (es.getD i noE) hy))
def evP(lo hi:Fr)(c:Cnd):Bool:=c.2 && (decide (Fr.cmp c.1 lo>0) && decide (Fr.cmp c.1 hi<0))
def evF(lo hi:Fr)(cs:List Cnd):List Fr:=(cs.filter (evP lo hi)).map (·.1)
theorem Uq(lo hi:Fr)(a b:List Cnd):evF lo hi (a++b)=evF lo hi a++evF lo hi b:=by unfold evF;rw[List.filter_append,List.map_append]
theorem ZW{lo hi:Fr}{cs:List Cnd}{x:Fr}{b:Bool}(h:evP lo hi (x,b)=true):AC (evF lo hi cs)++[frD x]=AC (evF lo hi (cs++[(x,b)])):=by rw[Uq,Jj];unfold evF;simp[h,AC]
theorem AA9{lo hi:Fr}{cs:List Cnd}{x:Fr}{b:Bool}(h:evP lo hi (x,b)=false):AC (evF lo hi cs)=AC (evF lo hi (cs++[(x,b)])):=by rw[Uq];unfold evF;simp[h]
theorem Oe{lo hi x:Fr}{b:Bool}(h:b=false):evP lo hi (x,b)=false:=by unfold evP;rw[h];rfl
theorem Iy{lo hi x:Fr}{b:Bool}(h:Fr.cmp x lo<=0):evP lo hi (x,b)=false:=by unfold evP;rw[decide_eq_false (show ¬Fr.cmp (x,b).1 lo>0 by show ¬Fr.cmp x lo>0;omega)];simp
theorem Iz{lo hi x:Fr}{b:Bool}(h:0<=Fr.cmp x hi):evP lo hi (x,b)=false:=by unfold evP;rw[decide_eq_false (show ¬Fr.cmp (x,b).1 hi<0 by show ¬Fr.cmp x hi<0;omega)];simp
theorem NH{lo hi x:Fr}{b:Bool}(hb:b=true)(h1:0<Fr.cmp x lo)(h2:Fr.cmp x hi<0):evP lo hi (x,b)=true:=by unfold evP;simp[hb,h1,h2]
theorem KY{lo hi:Fr}{cs cs' : List Cnd}{x:Fr}{b:Bool}(e:cs'=cs++[(x,b)])(h:evP lo hi (x,b)=true):AC (evF lo hi cs)++[frD x]=AC (evF lo hi cs'):=by rw[e,ZW h]
theorem Jk{lo hi:Fr}{cs cs' : List Cnd}{x:Fr}{b:Bool}(e:cs'=cs++[(x,b)])(h:evP lo hi (x,b)=false):AC (evF lo hi cs)=AC (evF lo hi cs'):=by rw[e,AA9 h]
theorem Ln{v:List V2}{n:Nat}(h:n<v.length)(A:List Cnd):A++cV v (n+1)=(A++cV v n)++[(Fr.ofInt (v.getD n (0,0)).1,true)]:=by unfold cV;rw[List.append_assoc];congr 1;rw[List.take_add_one,List.map_append];simp[List.getD,h]
theorem Ur{ls:List (List V2)}{k n:Nat}(h:n=(ls.getD k []).length):cA ls (k+1)=cA ls k++cV (ls.getD k []) n:=by rw[h];rfl
theorem IU{es:List Edg}{i n:Nat}(h:n<i)(hi:i<=es.length)(A B:List Cnd):A++(B++cC es i (n+1))=(A++(B++cC es i n))++[(FH (es.getD i noE) ((es.take i).getD n noE),C4 (es.getD i noE) ((es.take i).getD n noE))]:=by
 unfold cC;rw[List.append_assoc,List.append_assoc];congr 2;have hl:n<(es.take i).length:=by rw[List.length_take];omega
 rw[List.take_add_one (l:=es.take i)];simp only[List.getD,List.getElem?_eq_getElem hl,Option.toList_some,List.map_append,List.map_cons,List.map_nil,Option.getD_some]
theorem CC{es:List Edg}{ly hy:Int}{i n:Nat}(h:n=i)(A:List Cnd):A++cE es ly hy (i+1)=((A++(cE es ly hy i++cC es i n))++[(CH (es.getD i noE) ly,Bh (es.getD i noE) ly)])++[(CH (es.getD i noE) hy,Bh (es.getD i noE) hy)]:=by subst h;simp[cE,cL]
section
variable {lo hi : Fr} {cs cs' : List Cnd} {x y : Fr} {b c : Bool}
theorem ABw(e:cs'=(cs++[(x,b)])++[(y,c)])(p:evP lo hi (x,b)=true)(q:evP lo hi (y,c)=true):(AC (evF lo hi cs)++[frD x])++[frD y]=AC (evF lo hi cs'):=by rw[KY rfl p,KY e q]
theorem YE(e:cs'=(cs++[(x,b)])++[(y,c)])(p:evP lo hi (x,b)=true)(q:evP lo hi (y,c)=false):AC (evF lo hi cs)++[frD x]=AC (evF lo hi cs'):=by rw[KY rfl p,Jk e q]
theorem YF(e:cs'=(cs++[(x,b)])++[(y,c)])(p:evP lo hi (x,b)=false)(q:evP lo hi (y,c)=true):AC (evF lo hi cs)++[frD y]=AC (evF lo hi cs'):=by rw[Jk rfl p,KY e q]
theorem Jl(e:cs'=(cs++[(x,b)])++[(y,c)])(p:evP lo hi (x,b)=false)(q:evP lo hi (y,c)=false):AC (evF lo hi cs)=AC (evF lo hi cs'):=by rw[Jk rfl p,Jk e q]
end
theorem Pi(lo hi:Fr)(cs:List Cnd):(evF lo hi cs).length<=cs.length:=by unfold evF;rw[List.length_map];exact List.length_filter_le _ _
theorem TN(v:List V2)(n:Nat):(cV v n).length<=v.length:=by unfold cV;rw[List.length_map,List.length_take];omega
theorem NI(ls:List (List V2)):∀k,(cA ls k).length<=ER ls k
 | 0=>Nat.le_refl _|k+1=>by have h1:=NI ls k;have h2:=TN (ls.getD k []) (ls.getD k []).length;rw[cA,List.length_append,ER];omega
theorem TO(es:List Edg)(i n:Nat):(cC es i n).length<=i:=by unfold cC;rw[List.length_map,List.length_take,List.length_take];omega
theorem TP(es:List Edg)(ly hy:Int):∀i,i<=es.length->(cE es ly hy i).length<=i*(es.length+2)
 | 0,_=>Nat.zero_le _|i+1,h=>by have h1:=TP es ly hy i (by omega);have h2:=TO es i i;rw[Nat.succ_mul];simp only[cE,List.length_append,cL,List.length_cons,List.length_nil];omega
def Pj(ls:List (List V2)):Prop:=A0 ls=true/\ls.length<=1048576/\ER ls ls.length<=1048576
theorem ABA{ls:List (List V2)}(h:Pj ls){lo hi:Fr}{k n:Nat}(hk:k<ls.length):(AC (evF lo hi (cA ls k++cV (ls.getD k []) n))).length<=1048576:=by have h1:=Pi lo hi (cA ls k++cV (ls.getD k []) n);have h2:=NI ls k;have h3:=TN (ls.getD k []) n;have h4:=Pg ls (k+1) (ls.length-(k+1));rw[show k+1+(ls.length-(k+1))=ls.length by omega]at h4;have h5:ER ls (k+1)=ER ls k+(ls.getD k []).length:=rfl;have h6:=h.2.2;rw[List.length_append]at h1;rw[Ao];omega
theorem Us{ls:List (List V2)}(h:Pj ls):(edA ls).length<=1048576:=Nat.le_trans (NF ls ls.length) h.2.2
theorem Pk{ls:List (List V2)}(h:Pj ls){lo hi:Fr}{ly hy:Int}{i:Nat}(hi' : i<=(edA ls).length)(n:Nat):(AC (evF lo hi (cA ls ls.length++(cE (edA ls) ly hy i++cC (edA ls) i n)))).length<=1200000000000/\(AC (evF lo hi (cA ls ls.length++cE (edA ls) ly hy i))).length<=1200000000000:=by have h1:=Pi lo hi (cA ls ls.length++(cE (edA ls) ly hy i++cC (edA ls) i n));have h1':=Pi lo hi (cA ls ls.length++cE (edA ls) ly hy i);have h2:=NI ls ls.length;have h3:=TO (edA ls) i n;have h4:=TP (edA ls) ly hy i hi';have h5:=Us h;have h6:=h.2.2;have h7:=Nat.mul_le_mul (show i<=1048576 by omega) (show(edA ls).length+2<=1048578 by omega);rw[List.length_append,List.length_append]at h1;rw[List.length_append]at h1';rw[Ao,Ao];constructor <;> omega
def Ct:List Fr->Fr->List Fr
 | [],r=>[r]|a::l,r=>if Fr.cmp a r<0 then a::Ct l r else if Fr.cmp a r=0 then a::l else r::a::l
def CM(acc l:List Fr):List Fr:=l.foldl Ct acc
theorem LQ{n:Int}(h:-9223372036854775808<=n/\n<=9223372036854775807):(Fr.ofInt n).d≠0:=by rw[(E7 (Cd h)).2];decide
def CA(l:List Fr):Prop:=∀x ∈ l,x.d≠0
theorem NJ(lo hi:Fr)(cs:List Cnd):CA (evF lo hi cs):=λx hx hd=>by unfold evF at hx;obtain⟨c,hc,rfl⟩:=List.mem_map.1 hx;have h:=(List.mem_filter.1 hc).2;unfold evP at h;rw[Fr.cmp_bad (.inl hd)]at h;simp at h
theorem YG{lo hi:Fr}(cs:List Cnd)(h1:lo.d≠0)(h2:hi.d≠0):CA (evF lo hi cs++[lo,hi]):=λx hx=>by rcases List.mem_append.1 hx with h|h;exact NJ _ _ _ x h;simp only[List.mem_cons,List.not_mem_nil,or_false]at h;rcases h with rfl|rfl;exact h1;exact h2
theorem B0{l:List Fr}{k:Nat}(h:k<l.length):(AC l).getD k []=frD (l.getD k Fr.none):=by simp[AC,List.getD,h]
theorem Of{r:Fr} : ∀{l:List Fr}{k:Nat},k<l.length->(∀j,j<k->Fr.cmp (l.getD j Fr.none) r<0)->Fr.cmp (l.getD k Fr.none) r=0->Ct l r=l
 | [],k,hk,_,_=>by simp at hk|a::l,0,_,_,h0=>by
  have h0:Fr.cmp a r=0:=by simpa using h0
  rw[Ct,if_neg (by omega),if_pos h0]
 |a::l,k+1,hk,h,h0=>by
  have ha:Fr.cmp a r<0:=by simpa using h 0 (by omega)
  rw[Ct,if_pos ha,Of (k:=k) (by simpa using hk) (λj hj=>by simpa using h (j+1) (by omega)) (by simpa using h0)]
theorem NK{r:Fr} : ∀{l:List Fr}{k:Nat},k<=l.length->(∀j,j<k->Fr.cmp (l.getD j Fr.none) r<0)->(k<l.length->0<Fr.cmp (l.getD k Fr.none) r)->Ct l r=l.take k++r::l.drop k
 | [],k,hk,_,_=>by simp[Ct]|a::l,0,_,_,h0=>by
  have h0:0<Fr.cmp a r:=by simpa using h0 (by simp)
  rw[Ct,if_neg (by omega),if_neg (by omega)];rfl
 |a::l,k+1,hk,h,h0=>by
  have ha:Fr.cmp a r<0:=by simpa using h 0 (by omega)
  rw[Ct,if_pos ha,NK (k:=k) (by simpa using hk) (λj hj=>by simpa using h (j+1) (by omega)) (λhk2=>by simpa using h0 (by simpa using hk2))];rfl
theorem Og(l:List Fr)(r:Fr)(k:Nat):((([]:List (List Dat))++(AC l).take k)++[frD r])++(AC l).drop k=AC (l.take k++r::l.drop k):=by unfold AC;rw[List.nil_append,List.map_append,List.map_cons,List.map_take,List.map_drop,List.append_assoc];rfl
theorem Fm{r s:Fr}{p q:Rat}(hr:r.v=some p)(hs:s.v=some q):Fr.cmp r s<0<->p<q:=by unfold Fr.cmp LZ;rw[hr,hs];simp only;split;rename_i h;simp[h];rename_i h;split <;> simp[h]
theorem ES{r s:Fr}(hr:r.d≠0)(hs:s.d≠0):Fr.cmp s r=- Fr.cmp r s:=by
 obtain⟨p,hp,_⟩:=Fr.some_d hr;obtain⟨q,hq,_⟩:=Fr.some_d hs;unfold Fr.cmp LZ;rw[hp,hq];simp only;by_cases h1:p<q;have h2:¬q<p:=by grind
 have h3:¬q=p:=by grind
 simp[h1,h2,h3];by_cases h2:p=q;subst h2;simp[h1];have h3:q<p:=by grind
 simp[h1,h2,h3]
theorem NL{a b c:Fr}(h1:Fr.cmp a b<0)(h2:Fr.cmp b c<0):Fr.cmp a c<0:=by have nz:∀{x y:Fr},Fr.cmp x y<0->x.d≠0/\y.d≠0:=λ{x y} h=>⟨λe=>by rw[Fr.cmp_bad (.inl e)]at h;omega,λe=>by rw[Fr.cmp_bad (.inr e)]at h;omega⟩;obtain⟨p,hp,_⟩:=Fr.some_d (nz h1).1;obtain⟨q,hq,_⟩:=Fr.some_d (nz h1).2;obtain⟨r,hr,_⟩:=Fr.some_d (nz h2).2;rw[Fm hp hq]at h1;rw[Fm hq hr]at h2;rw[Fm hp hr];grind
theorem Dp(a:Fr):Fr.cmp a a=0:=by by_cases h:a.d=0;exact Fr.cmp_bad (.inl h);obtain⟨p,hp,_⟩:=Fr.some_d h;unfold Fr.cmp LZ;rw[hp];simp
def asc(l:List Fr):Prop:=l.Pairwise λa b=>Fr.cmp a b<0
theorem GE{r x:Fr}(hr:r.d≠0):∀{l:List Fr},CA l->(x ∈ Ct l r<->x=r\/x ∈ l)
 | [],_=>by simp[Ct]|a::l,h=>by have ha:=h a (by simp);have ih:=GE (x:=x) hr (l:=l) λy hy=>h y (by simp[hy]);rw[Ct];split;simp only[List.mem_cons,ih];grind;split;rename_i h0;have:=FX ha hr h0;subst this;simp;simp
theorem KZ{r:Fr}(hr:r.d≠0){l:List Fr}(h:CA l):CA (Ct l r):=λx hx=>by rcases(GE hr h).1 hx with rfl|hx;exact hr;exact h x hx
theorem Jm{r:Fr}(hr:r.d≠0):∀{l:List Fr},CA l->asc l->asc (Ct l r)
 | [],_,_=>by unfold Ct asc;exact List.pairwise_singleton _ _|a::l,h,hs=>by
  have ha:=h a (by simp);have hg:CA l:=λy hy=>h y (by simp[hy]);obtain⟨h1,h2⟩:=List.pairwise_cons.1 hs;rw[Ct];split;rename_i a1;refine List.pairwise_cons.2 ⟨λb hb=>?_,Jm hr hg h2⟩;rcases(GE hr hg).1 hb with rfl|hb;exact a1;exact h1 b hb;split;exact hs;rename_i hn h0;have a0:Fr.cmp r a<0:=by rw[ES ha hr];omega
  refine List.pairwise_cons.2 ⟨λb hb=>?_,hs⟩;rcases List.mem_cons.1 hb with rfl|hb;exact a0;exact NL a0 (h1 b hb)
theorem IV{l:List Fr}(hl:CA l):∀{acc:List Fr},CA acc->asc acc->CA (CM acc l)/\asc (CM acc l)/\∀x,x ∈ CM acc l<->x ∈ acc\/x ∈ l:=by
 induction l with|nil=>intro acc h1 h2;exact⟨h1,h2,λx=>by simp[CM]⟩|cons a l ih=>intro acc h1 h2;have ha:=hl a (by simp);obtain⟨g1,g2,g3⟩:=ih (λy hy=>hl y (by simp[hy])) (KZ ha h1) (Jm ha h1 h2);refine⟨g1,g2,λx=>?_⟩;show x ∈ CM (Ct acc a) l<->_;rw[g3 x,GE ha h1];simp only[List.mem_cons];grind
theorem Pm:∀{a b:List Fr},asc a->asc b->(∀x,x ∈ a<->x ∈ b)->a=b
 | [],[],_,_,_=>rfl| [],b::bs,_,_,h=>by have:=(h b).2 (by simp);simp at this|a::t,[],_,_,h=>by have:=(h a).1 (by simp);simp at this|a::t,b::bs,ha,hb,h=>by
  obtain⟨a1,a2⟩:=List.pairwise_cons.1 ha;obtain⟨b1,b2⟩:=List.pairwise_cons.1 hb;have irr:∀x:Fr,¬Fr.cmp x x<0:=λx h=>by rw[Dp]at h;omega
  have e:a=b:=by rcases List.mem_cons.1 ((h a).1 (by simp))with e|e;exact e;rcases List.mem_cons.1 ((h b).2 (by simp))with e' | e';exact e'.symm;exact absurd (NL (a1 b e') (b1 a e)) (irr a)
  subst e;congr 1;refine Pm a2 b2 λx=>⟨λhx=>?_,λhx=>?_⟩;rcases List.mem_cons.1 ((h x).1 (by simp[hx]))with e|e;subst e;exact absurd (a1 x hx) (irr x);exact e;rcases List.mem_cons.1 ((h x).2 (by simp[hx]))with e|e;subst e;exact absurd (b1 x hx) (irr x);exact e
theorem WL{lo hi:Fr}(a0:Fr.cmp lo hi<0)(h1:lo.d≠0)(h2:hi.d≠0){l:List Fr}(hl:CA l):CM [] (l++[lo,hi])=CM [lo,hi] l:=by
 have hg:CA (l++[lo,hi]):=λx hx=>by rcases List.mem_append.1 hx with h|h;exact hl x h;simp only[List.mem_cons,List.not_mem_nil,or_false]at h;rcases h with rfl|rfl;exact h1;exact h2
 have hg2:CA [lo,hi]:=λx hx=>hg x (List.mem_append.2 (.inr hx));obtain⟨_,a2,a3⟩:=IV hg (acc:=[]) (λx hx=>by simp at hx) List.Pairwise.nil;obtain⟨_,b2,b3⟩:=IV hl (acc:=[lo,hi]) hg2 (List.pairwise_cons.2 ⟨λb hb=>by simp at hb;subst hb;exact a0,List.pairwise_singleton _ _⟩);refine Pm a2 b2 λx=>?_;rw[a3,b3,List.mem_append];simp[or_comm]
theorem Pn{a b:Int}(ha:-9223372036854775808<=a/\a<=9223372036854775807)(hb:-9223372036854775808<=b/\b<=9223372036854775807)(h:a<b):Fr.cmp (Fr.ofInt a) (Fr.ofInt b)<0:=by rw[Fm (JS (Cd ha)) (JS (Cd hb))];exact Rat.intCast_lt_intCast.2 h
def okF(cs:List Cnd):List Fr:=(cs.filter (·.2)).map (·.1)
def inP(lo hi x:Fr):Bool:=decide (Fr.cmp x lo>0) && decide (Fr.cmp x hi<0)
theorem Ut(a b:List Cnd):okF (a++b)=okF a++okF b:=by unfold okF;rw[List.filter_append,List.map_append]
theorem TQ{cs cs' : List Cnd}{x:Fr}{b:Bool}(e:cs'=cs++[(x,b)])(h:b=true):AC (okF cs)++[frD x]=AC (okF cs'):=by rw[e,Ut,Jj];unfold okF;simp[h,AC]
theorem AAM{cs cs' : List Cnd}{x:Fr}{b:Bool}(e:cs'=cs++[(x,b)])(h:b=false):AC (okF cs)=AC (okF cs'):=by rw[e,Ut];unfold okF;simp[h]
theorem Lo(cs:List Cnd):(okF cs).length<=cs.length:=by unfold okF;rw[List.length_map];exact List.length_filter_le _ _
theorem YH(lo hi:Fr):∀cs:List Cnd,evF lo hi cs=(okF cs).filter (inP lo hi)
 | []=>rfl|(x,b)::cs=>by
  have ih:=YH lo hi cs;unfold evF okF at *;cases b with
  |false=>simp[evP,ih]|true=>
   by_cases h:inP lo hi x=true;have h' : evP lo hi (x,true)=true:=by unfold evP;unfold inP at h;simpa using h
   simp[h,h',ih];have h' : ¬evP lo hi (x,true)=true:=by unfold evP;unfold inP at h;simpa using h
   simp[h,h',ih]
theorem NM(l:List Fr)(r:Fr):(Ct l r).length<=l.length+1:=by
 induction l with|nil=>simp[Ct]|cons a l ih=>rw[Ct];split;simp only[List.length_cons];omega;split <;> simp only[List.length_cons] <;> omega
theorem Ka(l:List Fr):∀acc:List Fr,(CM acc l).length<=acc.length+l.length:=by
 induction l with|nil=>intro acc;simp[CM]|cons a l ih=>intro acc;have h1:=ih (Ct acc a);have h2:=NM acc a;show(CM (Ct acc a) l).length<=_;simp only[List.length_cons];omega
def Dq(lo hi:Fr)(l:List Fr)(q:Nat):List Fr:=CM [lo,hi] ((l.take q).filter (inP lo hi))
theorem WM{lo hi:Fr}{l:List Fr}{q:Nat}(hq:q<l.length)(h:inP lo hi (l.getD q Fr.none)=true):Ct (Dq lo hi l q) (l.getD q Fr.none)=Dq lo hi l (q+1):=by
 unfold Dq CM;have e:l.getD q Fr.none=l[q]:=by simp[List.getD,hq]
 rw[e]at h ⊢;rw[List.take_add_one,List.getElem?_eq_getElem hq];simp only[Option.toList_some,List.filter_append,List.foldl_append,List.filter_cons,h,if_true,List.filter_nil,List.foldl_cons,List.foldl_nil]
theorem RV{lo hi:Fr}{l:List Fr}{q:Nat}(hq:q<l.length)(h:inP lo hi (l.getD q Fr.none)=false):Dq lo hi l q=Dq lo hi l (q+1):=by
 unfold Dq CM;have e:l.getD q Fr.none=l[q]:=by simp[List.getD,hq]
 rw[e]at h;rw[List.take_add_one,List.getElem?_eq_getElem hq];simp only[Option.toList_some,List.filter_append,List.foldl_append,List.filter_cons,h,List.filter_nil,List.foldl_nil];rfl
theorem WN(lo hi:Fr)(l:List Fr)(q:Nat):(Dq lo hi l q).length<=2+l.length:=by have h1:=Ka ((l.take q).filter (inP lo hi)) [lo,hi];have h2:=List.length_filter_le (inP lo hi) (l.take q);rw[List.length_take]at h2;unfold Dq;simp only[List.length_cons,List.length_nil]at h1;omega
def evR(lx ly hx hy:Int)(ls:List (List V2)):List Fr:=if A0 ls=true/\lx<hx then CM [Fr.ofInt lx,Fr.ofInt hx] (evF (Fr.ofInt lx) (Fr.ofInt hx) (cA ls ls.length++cE (edA ls) ly hy (edA ls).length))else[]
section
variable {lx ly hx hy : Int} {ls : List (List V2)}
theorem NN(h:¬(A0 ls=true/\lx<hx)):evR lx ly hx hy ls=[]:=by unfold evR;rw[if_neg h]
theorem ZX(h:A0 ls=true)(h2:lx<hx):evR lx ly hx hy ls=Dq (Fr.ofInt lx) (Fr.ofInt hx) (okF (cA ls ls.length++cE (edA ls) ly hy (edA ls).length)) (okF (cA ls ls.length++cE (edA ls) ly hy (edA ls).length)).length:=by unfold evR Dq;rw[if_pos ⟨h,h2⟩,YH,List.take_length]
theorem ZY(h:A0 ls=true)(h2:lx<hx)(hl:-9223372036854775808<=lx/\lx<=9223372036854775807)(hh:-9223372036854775808<=hx/\hx<=9223372036854775807):CM [] (evF (Fr.ofInt lx) (Fr.ofInt hx) (cA ls ls.length++cE (edA ls) ly hy (edA ls).length)++[Fr.ofInt lx,Fr.ofInt hx])=evR lx ly hx hy ls:=by unfold evR;rw[if_pos ⟨h,h2⟩];exact WL (Pn hl hh h2) (LQ hl) (LQ hh) (NJ _ _ _)
end
theorem YI{ls:List (List V2)}{k:Nat}(hk:k<ls.length)(h:AV (ls.getD k [])=false):A0 ls=false:=by
 cases hp:A0 ls with|false=>rfl|true=>rw[Cp hp hk]at h;cases h
theorem YJ{ls:List (List V2)}(h:∀k,k<ls.length->AV (ls.getD k [])=true):A0 ls=true:=by unfold A0;rw[List.all_eq_true];intro x hx;obtain⟨j,hj,rfl⟩:=List.getElem_of_mem hx;simpa[List.getD,hj]using h j hj
open Go.Shelf
def YK:Go.Shelf.Ren:=⟨fun|6=>145|15=>172|14=>171|28=>199|29=>200|20=>191|21=>192|22=>193|23=>194|24=>195|25=>196|26=>197|27=>198|46=>207|47=>208|48=>209|49=>210|50=>211|57=>214|n=>n,fun|22=>62|24=>44|25=>91|3=>3|39=>164|0=>0|53=>180|55=>182|4=>4|46=>174|45=>173|50=>157|5=>5|9=>9|66=>184|70=>188|76=>191|77=>192|n=>n,fun|n=>n⟩
theorem ABB:Go.Proofs.SlLaysF0.n6 Tryz.prog YK:={
 mixed:=by kernel_rfl,
 f6:=⟨ "slices.SortFunc[[]loop.example/g00811/impl.Rat,loop.example/g00811/impl.Rat]",by decide,Tryz.func145.trans (congrArg some (by kernel_rfl))⟩,
 f14:=⟨ "slices.pdqsortCmpFunc[loop.example/g00811/impl.Rat]",by decide,Tryz.func171.trans (congrArg some (by kernel_rfl))⟩,
 f15:=Tryz.func172.trans (congrArg some (by kernel_rfl)),
 f20:=⟨ "slices.insertionSortCmpFunc[loop.example/g00811/impl.Rat]",by decide,Tryz.func191.trans (congrArg some (by kernel_rfl))⟩,
 f21:=⟨ "slices.heapSortCmpFunc[loop.example/g00811/impl.Rat]",by decide,Tryz.func192.trans (congrArg some (by kernel_rfl))⟩,
 f22:=⟨ "slices.breakPatternsCmpFunc[loop.example/g00811/impl.Rat]",by decide,Tryz.func193.trans (congrArg some (by kernel_rfl))⟩,
 f23:=⟨ "slices.choosePivotCmpFunc[loop.example/g00811/impl.Rat]",by decide,Tryz.func194.trans (congrArg some (by kernel_rfl))⟩,
 f24:=⟨ "slices.reverseRangeCmpFunc[loop.example/g00811/impl.Rat]",by decide,Tryz.func195.trans (congrArg some (by kernel_rfl))⟩,
 f25:=⟨ "slices.partialInsertionSortCmpFunc[loop.example/g00811/impl.Rat]",by decide,Tryz.func196.trans (congrArg some (by kernel_rfl))⟩,
 f26:=⟨ "slices.partitionEqualCmpFunc[loop.example/g00811/impl.Rat]",by decide,Tryz.func197.trans (congrArg some (by kernel_rfl))⟩,
 f27:=⟨ "slices.partitionCmpFunc[loop.example/g00811/impl.Rat]",by decide,Tryz.func198.trans (congrArg some (by kernel_rfl))⟩,
 f28:=Tryz.func199.trans (congrArg some (by kernel_rfl)),
 f29:=Tryz.func200.trans (congrArg some (by kernel_rfl)),
 f46:=⟨ "slices.siftDownCmpFunc[loop.example/g00811/impl.Rat]",by decide,Tryz.func207.trans (congrArg some (by kernel_rfl))⟩,
 f47:=Tryz.func208.trans (congrArg some (by kernel_rfl)),
 f48:=Tryz.func209.trans (congrArg some (by kernel_rfl)),
 f49:=⟨ "slices.medianAdjacentCmpFunc[loop.example/g00811/impl.Rat]",by decide,Tryz.func210.trans (congrArg some (by kernel_rfl))⟩,
 f50:=⟨ "slices.medianCmpFunc[loop.example/g00811/impl.Rat]",by decide,Tryz.func211.trans (congrArg some (by kernel_rfl))⟩,
 f57:=⟨ "slices.order2CmpFunc[loop.example/g00811/impl.Rat]",by decide,Tryz.func214.trans (congrArg some (by kernel_rfl))⟩,
 t0:=Tryz.underlying0,
 a0:=Tryz.isAgg0,
 z0:=Tryz.sizeOf0,
 v0:=Tryz.zeroValue0,
 t3:=Tryz.underlying3,
 a3:=Tryz.isAgg3,
 z3:=Tryz.sizeOf3,
 v3:=Tryz.zeroValue3,
 t4:=Tryz.underlying4,
 a4:=Tryz.isAgg4,
 z4:=Tryz.sizeOf4,
 v4:=Tryz.zeroValue4,
 t5:=Tryz.underlying5,
 a5:=Tryz.isAgg5,
 z5:=Tryz.sizeOf5,
 v5:=Tryz.zeroValue5,
 t9:=Tryz.underlying9,
 a9:=Tryz.isAgg9,
 z9:=Tryz.sizeOf9,
 v9:=Tryz.zeroValue9,
 t22:=Tryz.underlying62,
 a22:=Tryz.isAgg62,
 z22:=Tryz.sizeOf62,
 v22:=Tryz.zeroValue62,
 t25:=Tryz.underlying91,
 a25:=Tryz.isAgg91,
 z25:=Tryz.sizeOf91,
 v25:=Tryz.zeroValue91,
 t39:=Tryz.underlying164,
 a39:=Tryz.isAgg164,
 z39:=Tryz.sizeOf164,
 v39:=Tryz.zeroValue164,
 t45:=Tryz.underlying173,
 a45:=Tryz.isAgg173,
 z45:=Tryz.sizeOf173,
 v45:=Tryz.zeroValue173,
 t46:=Tryz.underlying174,
 a46:=Tryz.isAgg174,
 z46:=Tryz.sizeOf174,
 v46:=Tryz.zeroValue174,
 t50:=Tryz.underlying157,
 a50:=Tryz.isAgg157,
 z50:=Tryz.sizeOf157,
 v50:=Tryz.zeroValue157,
 t53:=Tryz.underlying180,
 a53:=Tryz.isAgg180,
 z53:=Tryz.sizeOf180,
 v53:=Tryz.zeroValue180,
 t55:=Tryz.underlying182,
 a55:=Tryz.isAgg182,
 z55:=Tryz.sizeOf182,
 v55:=Tryz.zeroValue182,
 t66:=Tryz.underlying184,
 a66:=Tryz.isAgg184,
 z66:=Tryz.sizeOf184,
 v66:=Tryz.zeroValue184,
 t70:=Tryz.underlying188,
 a70:=Tryz.isAgg188,
 z70:=Tryz.sizeOf188,
 v70:=Tryz.zeroValue188,
 t76:=Tryz.underlying191,
 a76:=Tryz.isAgg191,
 z76:=Tryz.sizeOf191,
 v76:=Tryz.zeroValue191,
 t77:=Tryz.underlying192,
 a77:=Tryz.isAgg192,
 z77:=Tryz.sizeOf192,
 v77:=Tryz.zeroValue192}
open Go.RowKit Go.Sort Go.Shelf
theorem ZZ{w w' : World}(hb:Below w.heap.size w w')(hd:w.drawn<=w'.drawn):∃q os,w'=grow (w.drewN q) os:=by
 refine⟨w'.drawn-w.drawn,w'.heap.extract w.heap.size w'.heap.size,?_⟩;have hs:=hb.size;have e:w.heap++w'.heap.extract w.heap.size w'.heap.size=w'.heap:=by apply Array.ext_getElem?;intro i;by_cases hi:i<w.heap.size;rw[Array.getElem?_append_left hi,← hb.block i hi];rw[Array.getElem?_append_right (by omega),Array.getElem?_extract];by_cases h2:i<w'.heap.size;rw[if_pos (by omega),show w.heap.size+(i-w.heap.size)=i by omega];rw[if_neg (by omega),Array.getElem?_eq_none (by omega)]
 have e1:=hb.os;have e2:=hb.tape;have e3:=hb.output;cases w;cases w';simp only[grow,World.drewN]at *;subst e1 e2 e3;rw[e];congr 1;omega
theorem NO{P:Program}{c:Con}{f:Nat}(hc:c.Ok P f)(hm:c.mono=true)(a2:c.mu=[])(i:c.ι)(hp:c.pre i){v:Value}(a1:c.res i=⟨false,[none],[.im v]⟩){ts:List Ty}{ds:List Dat}{us:List Value}{w:World}(h:RdRow w ts ds us)
  (a3:Ty.eras ts=Ty.eras (((c.args i).flatMap DA.cells).map DC.ty)) (a4:ds=((c.args i).flatMap DA.cells).map DC.dat) (a5:((c.args i).flatMap DA.cells).all DC.ok=true) (hst:Stood w:=by exact⟨λ_ hb=>(List.not_mem_nil hb).elim,trivial⟩) :
  Calls P f (Be (c.args i) us).toArray w λe w'=>e=.returned v/\∃q os,w'=grow (w.drewN q) os:=by
 subst a4;obtain⟨h1,h2⟩:=FQ (h.cast a3) a5;refine(hc.quiet hm i hp (λb=>b<w.heap.size) w us (λ_=>[]) ⟨h1,λ_ h=>h,λp d u hd hu _=>h2 p d u hd hu,λj p hj=>?_,λa b x _ _ _ hx=>by simp at hx,λj b _ hb=>by simp at hb,hst,λj b _ hb=>by simp at hb⟩).mono ?_;rw[a2]at hj;simp at hj;rintro e w' ⟨rs,bs,rfl,a0,hd⟩;have hr:=a0.res;rw[a1]at hr;refine⟨?_,ZZ ⟨a0.os,a0.tape,a0.output,a0.size,λb hb=>a0.keep b hb (λj hj=>by rw[a2]at hj;simp at hj)⟩ hd⟩;rw[a1];cases rs with|nil=>simp[BU]at hr|cons r rs=>obtain⟨rfl,hr⟩:=(by simpa only[BU]using hr:r=_/\_);rfl
abbrev rTy:List Ty:=[.bool,.sl 3 [.int],.sl 3 [.int]]
theorem YL{r s:Fr}{xs ys:List Value}{w:World}(h1:RdRow w rTy (frD r) xs)(h2:RdRow w rTy (frD s) ys):Calls Tryz.prog 81 #[.agg xs.toArray,.agg ys.toArray] w λe w'=>e=.returned (.int .i64 (Fr.cmp r s))/\∃q os,w'=grow (w.drewN q) os:=by
 have h:=NO D0 rfl rfl (r,s) trivial (v:=.int .i64 (Fr.cmp r s)) rfl (RdRow.app _ _ _ h1 h2) rfl rfl rfl;have l1:=(RdRow.lens _ _ _ h1).2;have l2:=(RdRow.lens _ _ _ h2).2;have hv:Be (AI.args (r,s)) (xs++ys)=[.agg xs.toArray,.agg ys.toArray]:=by simp only[AI];rw[JV (by exact l1),EU (by exact l2)]
 rw[hv]at h;exact h
theorem Za{r s:Fr}{xs ys:List Value}{w:World}(h1:RdRow w rTy (frD r) xs)(h2:RdRow w rTy (frD s) ys):Calls Tryz.prog 36 #[.agg xs.toArray,.agg ys.toArray] w λe w'=>e=.returned (.bool (eqF r s))/\∃q os,w'=grow (w.drewN q) os:=by
 have h:=NO RP rfl rfl (r,s) trivial (v:=.bool (eqF r s)) rfl (RdRow.app _ _ _ h1 h2) rfl rfl rfl;have l1:=(RdRow.lens _ _ _ h1).2;have l2:=(RdRow.lens _ _ _ h2).2;have hv:Be (Gl.args (r,s)) (xs++ys)=[.agg xs.toArray,.agg ys.toArray]:=by simp only[Gl];rw[JV (by exact l1),EU (by exact l2)]
 rw[hv]at h;exact h
abbrev SR(G:Nat->Prop)(w:World)(g:Nat):Type:={x:List Value×Fr // RdRowS (λb=>(G b/\b≠g)/\b<w.heap.size) w rTy (frD x.2) x.1/\x.2.d≠0}
def Jn{G:Nat->Prop}{w:World}{g:Nat}(x:SR G w g):List Value:=x.1.1
def cfR{G:Nat->Prop}{w:World}{g:Nat}(x y:SR G w g):Int:=Fr.cmp x.1.2 y.1.2
theorem ACw{G:Nat->Prop}{w:World}{g:Nat} : SWO (ltOf (cfR (G:=G) (w:=w) (g:=g))) where
 irrefl x:=by unfold ltOf cfR;rw[Dp];rfl
 trans x y z h1 h2:=by unfold ltOf cfR at *;exact decide_eq_true (NL (of_decide_eq_true h1) (of_decide_eq_true h2))
 ntrans x y z h1 h2:=by unfold ltOf cfR at *;have h1:=of_decide_eq_false h1;have h2:=of_decide_eq_false h2;refine decide_eq_false λh3=>?_;obtain⟨p,hp,_⟩:=Fr.some_d x.2.2;obtain⟨q,hq,_⟩:=Fr.some_d y.2.2;obtain⟨r,hr,_⟩:=Fr.some_d z.2.2;rw[Fm hp hq]at h1;rw[Fm hq hr]at h2;rw[Fm hp hr]at h3;grind
theorem RW{G:Nat->Prop}{w:World}{g:Nat}(x:SR G w g):(Jn x).length=3:=(RdRow.lens _ _ _ (RdRowS.rd _ _ _ x.2.1)).2
theorem YM{G:Nat->Prop}{w:World}{g:Nat}(x:SR G w g):∀v ∈ Jn x,v.oneCell'=true:=RdRow.one _ _ _ (RdRowS.rd _ _ _ x.2.1)
theorem YN{α:Type}[Inhabited α](enc:α->List Value)(w:World)(g n:Nat)(D:Array α)(os:Array Obj){cur:Array Value}{e:Nat}{fr:Nat×Nat}(h1:w.heap[g]?=some (.cells cur e fr)) :
  (∃cur',(grow (putRowK enc 3 (Sort.ahead w n) g 0 D) os).heap[g]?=some (.cells cur' e fr)/\cur'.size=cur.size)/\(∀b,b<w.heap.size->b≠g->(grow (putRowK enc 3 (Sort.ahead w n) g 0 D) os).heap[b]?=w.heap[b]?)/\w.heap.size<=(grow (putRowK enc 3 (Sort.ahead w n) g 0 D) os).heap.size:=by
 have hs:(putRowK enc 3 (Sort.ahead w n) g 0 D).heap.size=w.heap.size:=by simp[putRowK,putRow,mapBlock,Sort.ahead]
 have hg:g<w.heap.size:=(Array.getElem?_eq_some_iff.1 h1).1;have a0:∀b,b<w.heap.size->(grow (putRowK enc 3 (Sort.ahead w n) g 0 D) os).heap[b]?=(w.heap.modify g (onCells (putCells id 0 (flatK enc 3 D))))[b]?:=by intro b hb;rw[Sort.heap_grow_old _ _ (by rw[hs];exact hb)];rfl
 refine⟨⟨putCells id 0 (flatK enc 3 D) cur,?_,?_⟩,?_,?_⟩;rw[a0 g hg,Array.getElem?_modify,if_pos rfl,h1];rfl;simp[putCells];intro b hb a1;rw[a0 b hb,Array.getElem?_modify,if_neg (λe=>a1 e.symm)];rw[Sort.size_grow,hs];omega
theorem WO{G:Nat->Prop}{w:World}{g n:Nat}{e:Nat}{fr:Nat×Nat}{cur:Array Value}(h1:w.heap[g]?=some (.cells cur e fr))[Inhabited (SR G w g)]:CmpLays Tryz.prog 81 #[] (Jn (G:=G) (w:=w) (g:=g)) 3 cfR g 0 n w:=by intro m os dk _ x y;obtain⟨-,p2,p3⟩:=YN Jn w g m dk os h1;have rd:∀z:SR G w g,RdRow (sortWorldK Jn 3 w g 0 m dk os) rTy (frD z.1.2) (Jn z):=λz=>RdRowS.rd _ _ _ (RdRowS.step p3 (λb hb hG=>p2 b hb hG.1.2) _ _ _ z.2.1);exact YL (rd x) (rd y)
structure SortedW(G:Nat->Prop)(w w' : World)(g e:Nat)(fr:Nat×Nat)(n:Nat)(ls:List Fr)(ls' : List Fr)(rv' : List (List Value)):Prop where
 perm:ls'.Perm ls
 asc:∀i j,i<j->j<n->¬Fr.cmp (ls'.getD j Fr.none) (ls'.getD i Fr.none)<0
 len:ls'.length=n/\rv'.length=n
 rd:∀k,k<n->RdRowS (λb=>(G b/\b≠g)/\b<w.heap.size) w rTy (frD (ls'.getD k Fr.none)) (rv'.getD k [])
 cells:∀k i,k<n->i<3->w'.cell? ⟨g,k*3+i,none⟩=(rv'.getD k [])[i]?/\w'.frozen? ⟨g,k*3+i,none⟩=false
 block:∃cur' : Array Value,w'.heap[g]?=some (.cells cur' e fr)
 old:∀b,b<w.heap.size->b≠g->w'.heap[b]?=w.heap[b]?
 size:w.heap.size<=w'.heap.size
 os:w'.os=w.os
 tape:w'.tape=w.tape
 output:w'.output=w.output
def YO(G:Nat->Prop)(w:World)(g e:Nat)(fr:Nat×Nat)(n:Nat)(ls:List Fr)(w' : World):Prop:=∃ls' rv',SortedW G w w' g e fr n ls ls' rv'
theorem ABC{G:Nat->Prop}{w:World}{g e cap:Nat}{fr:Nat×Nat}{cur:Array Value}{ls:List Fr}{rv:List (List Value)}(h1:w.heap[g]?=some (.cells cur e fr))(hl:rv.length=ls.length)(a3:CA ls)(hn:ls.length<=4000000000000)
  (a7:∀k,k<ls.length->RdRowS (λb=>(G b/\b≠g)/\b<w.heap.size) w rTy (frD (ls.getD k Fr.none)) (rv.getD k []))
  (hc:∀k i,k<ls.length->i<3->w.cell? ⟨g,k*3+i,none⟩=(rv.getD k [])[i]?/\w.frozen? ⟨g,k*3+i,none⟩=false) :
  Calls Tryz.prog 145 #[.slice (some ⟨g,0,none⟩) ls.length cap,.func (.func 81) #[] #[]] w λen w'=>en=.returned (.tuple #[])/\YO G w g e fr ls.length ls w':=by
 by_cases h0:ls.length=0;rw[h0];refine(AnyF.slices_SortFunc_none ABB (some ⟨g,0,none⟩) cap (.func (.func 81) #[] #[]) w).mono ?_;rintro en w' ⟨rfl,rfl⟩;exact⟨rfl,ls,rv,List.Perm.refl _,λi j _ hj=>by omega,⟨h0,by omega⟩,λk hk=>by omega,λk i hk=>by omega,⟨cur,h1⟩,λ_ _ _=>rfl,Nat.le_refl _,rfl,rfl,rfl⟩;have a5:0<ls.length:=by omega
 have mk:∀k,k<ls.length->RdRowS (λb=>(G b/\b≠g)/\b<w.heap.size) w rTy (frD (rv.getD k [],ls.getD k Fr.none).2) (rv.getD k [],ls.getD k Fr.none).1/\(rv.getD k [],ls.getD k Fr.none).2.d≠0:=λk hk=>⟨a7 k hk,a3 _ (by simp[List.getD,hk])⟩;letI:Inhabited (SR G w g):=⟨⟨_,mk 0 a5⟩⟩;let D:List (SR G w g):=List.pmap (λk hk=>(⟨(rv.getD k [],ls.getD k Fr.none),mk k hk⟩:SR G w g)) (List.range ls.length) (λk hk=>List.mem_range.1 hk)
 have hD:D.length=ls.length:=by simp[D]
 have hDk:∀k (hk:k<ls.length),(D.toArray)[k]! = (⟨(rv.getD k [],ls.getD k Fr.none),mk k hk⟩:SR G w g):=λk hk=>by simp[D,hk]
 have hg:g<w.heap.size:=(Array.getElem?_eq_some_iff.1 h1).1
 have hH:HoldsK (Jn (G:=G) (w:=w) (g:=g)) 3 w g 0 D.toArray:=by
  intro j hj;have hj2:j<ls.length*3:=by simpa[hD]using hj
  have hk:j/3<ls.length:=by omega
  obtain⟨c1,c2⟩:=hc (j/3) (j%3) hk (by omega);have e3:j/3*3+j%3=j:=by omega
  rw[e3]at c1 c2;refine⟨?_,by rw[Nat.zero_add];exact c2⟩;rw[Nat.zero_add,c1,get_flatK _ _ _ _ (by simpa using hj),hDk _ hk];have a6:=(RdRow.lens _ _ _ (RdRowS.rd _ _ _ (a7 _ hk))).2;have h3:j%3<(rv.getD (j/3) []).length:=by rw[a6];show j%3<3;omega
  show _=some ((rv.getD (j/3) [])[j%3]!);rw[List.getElem?_eq_getElem h3,getElem!_pos (rv.getD (j/3) []) (j%3) h3]
 have eg:∀args w,(callFunc 81 args).run Tryz.prog w=.ok (.enter 81 args) w:=enters_of Tryz.func81 (by kernel_rfl) rfl;have a4:=AnyQ.slices_SortFunc ABB 3 Tryz.isAgg44 Tryz.sizeOf44 Jn RW YM cfR ACw 81 #[] g 0 cap D.toArray w eg (WO h1) hH hg (by simp only[List.size_toArray,hD];omega);have hs2:D.toArray.size=ls.length:=by rw[List.size_toArray,hD]
 rw[hs2]at a4;refine Calls.mono (P:=Tryz.prog) a4 ?_;rintro en w' ⟨rfl,d',n,os,hp,a8,rfl⟩;refine⟨rfl,?_⟩;obtain⟨⟨cur',p1,p2⟩,p3,p4⟩:=YN Jn w g n d' os h1;have a2:d'.size=ls.length:=by rw[hp.1];exact hs2
 have hHK:=holdsK_sortWorldK_c Jn 3 w g 0 D.toArray d' n os hH hg (by rw[a2,hs2]);have a1:∀k,k<ls.length->(d'.toList.map (·.1.2)).getD k Fr.none=d'[k]!.1.2:=λk hk=>by simp[List.getD,show k<d'.size by omega]
 have a0:∀k,k<ls.length->(d'.toList.map (·.1.1)).getD k []=d'[k]!.1.1:=λk hk=>by simp[List.getD,show k<d'.size by omega]
 refine⟨d'.toList.map (·.1.2),d'.toList.map (·.1.1),?_,λi j a9 hj=>?_,⟨by simp[a2],by simp[a2]⟩,λk hk=>?_,λk i hk hi=>?_,⟨cur',p1⟩,p3,p4,rfl,rfl,rfl⟩;have h2:=hp.2.2;have e1:(d'.extract 0 ls.length).toList=d'.toList:=by rw[← a2];simp
 have e2:(D.toArray.extract 0 ls.length).toList=D:=by rw[← hs2];simp
 rw[e1,e2]at h2;have h3:=h2.map (·.1.2);have e3:D.map (·.1.2)=ls:=by apply List.ext_getElem;rw[List.length_map,hD];intro k hk hk2;simp[D,List.getD,hk2]
 rw[e3]at h3;exact h3;rw[a1 j hj,a1 i (by omega)];exact of_decide_eq_false (a8 i j (Nat.zero_le _) a9 hj);rw[a1 k hk,a0 k hk];exact d'[k]!.2.1;have h2:=hHK (k*3+i) (by rw[size_flatK,a2];omega);rw[Nat.zero_add,get_flatK _ _ _ _ (by rw[a2];omega),show(k*3+i)/3=k by omega,show(k*3+i)%3=i by omega]at h2;rw[a0 k hk];refine⟨?_,h2.2⟩;rw[h2.1];have h3:i<(Jn d'[k]!).length:=by rw[RW];exact hi
 show some ((Jn d'[k]!)[i]!)=(Jn d'[k]!)[i]?;rw[List.getElem?_eq_getElem h3,getElem!_pos (Jn d'[k]!) i h3]
open Go.RowKit Go.Sort Go.Shelf Go.Lib
structure R3 where
 b:Bool
 p:Option Addr
 m:Nat
 c:Nat
 q:Option Addr
 n:Nat
 e:Nat
 f:Fr
instance:Inhabited R3:=⟨⟨false,none,0,0,none,0,0,Fr.none⟩⟩
def rE(x:R3):List Value:=[.bool x.b,.slice x.p x.m x.c,.slice x.q x.n x.e]
theorem TS{P:Program}(w:World)(t e ty:TypeId)(ht:P.underlying t=some (.slice e))(hv:∀w,(zeroValue e).run P w=.ok (.agg #[.bool false,.slice none 0 0,.slice none 0 0]) w)(b o n c:Nat)(hn:0<n)
  (hc:∀j,j<n*3->(w.cell? ⟨b,o+j,none⟩).isSome=true) (hf:∀j,j<n*3->w.frozen? ⟨b,o+j,none⟩=false) :
  (Builtin.clear_ #[t] ty #[.slice (some ⟨b,o,none⟩) n c]).run P w=.ok (.tuple #[]) (w.setCells b o (Builtin.zeroCells (Value.agg #[.bool false,.slice none 0 0,.slice none 0 0]).cells n).toList):=by
 have hs:(Value.agg #[.bool false,.slice none 0 0,.slice none 0 0]).cells=#[.bool false,.slice none 0 0,.slice none 0 0]:=rfl;have hl:(Builtin.zeroCells (Value.agg #[.bool false,.slice none 0 0,.slice none 0 0]).cells n).toList.length=n*3:=by rw[hs];simp[Builtin.zeroCells]
 have hst:=run_storeCells_cells (P:=P) b o (Builtin.zeroCells (Value.agg #[.bool false,.slice none 0 0,.slice none 0 0]).cells n).toList 0 w (by rw[hl];simpa using hc) (by rw[hl];simpa using hf) (by
  intro v hv';simp only[Builtin.zeroCells,Array.toList_map,List.mem_map]at hv';obtain⟨i,_,rfl⟩:=hv';rw[hs];have:i%3=0\/i%3=1\/i%3=2:=by omega
  show(#[Value.bool false,Value.slice none 0 0,Value.slice none 0 0][i%3]!).oneCell'=true;rcases this with e|e|e <;> rw[e] <;> rfl)
 simp only[Nat.add_zero]at hst;obtain⟨m,rfl⟩:∃m,n=m+1:=⟨n-1,by omega⟩;simp[Builtin.clear_,run_underlying ht,hv,hst]
theorem Hr(g:Nat):∀(cs:List Value)(w:World)(o:Nat),OnlyIn (λb=>b=g) w (w.setCells g o cs)
 | [],w,o=>OnlyIn.refl _ _|c::cs,w,o=>by have h1:OnlyIn (λb=>b=g) w (w.setCell ⟨g,o,none⟩ c):=OnlyIn.setCell (OnlyIn.refl _ _) (show(⟨g,o,none⟩:Addr).block=g from rfl) c;exact h1.trans (Hr g cs (w.setCell ⟨g,o,none⟩ c) (o+1))
theorem EE(g:Nat):∀(cs:List Value)(w:World)(o a:Nat),a<o->(w.setCells g o cs).cell? ⟨g,a,none⟩=w.cell? ⟨g,a,none⟩
 | [],w,o,a,_=>rfl|c::cs,w,o,a,h=>by show((w.setCell ⟨g,o,none⟩ c).setCells g (o+1) cs).cell? ⟨g,a,none⟩=_;rw[EE g cs _ (o+1) a (by omega)];go_simp
def Row3(w:World)(g off:Nat)(d:Array R3):Prop:=∀j,j<d.size->(w.cell? ⟨g,off+j*3,none⟩=some (.bool (d[j]!).b)/\w.cell? ⟨g,off+j*3+1,none⟩=some (.slice (d[j]!).p (d[j]!).m (d[j]!).c)/\w.cell? ⟨g,off+j*3+2,none⟩=some (.slice (d[j]!).q (d[j]!).n (d[j]!).e))/\w.frozen? ⟨g,off+j*3,none⟩=false/\w.frozen? ⟨g,off+j*3+1,none⟩=false/\w.frozen? ⟨g,off+j*3+2,none⟩=false
theorem Row3.below{w w' : World}{g off:Nat}{d:Array R3}(h:Row3 w g off d)(hb:Below w.heap.size w w')(hg:g<w.heap.size):Row3 w' g off d:=λj hj=>by have e:=hb.block g hg;have h:=h j hj;simp only[World.cell?,World.frozen?,e]at h ⊢;exact h
theorem Row3.set{w:World}{g off i:Nat}{d:Array R3}(h:Row3 w g off d)(hi:i<d.size)(x:R3):Row3 (((w.setCell ⟨g,off+i*3,none⟩ (.bool x.b)).setCell ⟨g,off+i*3+1,none⟩ (.slice x.p x.m x.c)).setCell ⟨g,off+i*3+2,none⟩ (.slice x.q x.n x.e)) g off (d.setIfInBounds i x):=λj hj=>by
 have hj2:j<d.size:=by simpa using hj
 obtain⟨⟨c0,c1,c2⟩,f0,f1,f2⟩:=h j hj2;by_cases e:j=i
 ·subst e
  rw[getElem!_set_same d j _ hi];exact⟨⟨by go_simp,by go_simp,by go_simp⟩,by go_simp,by go_simp,by go_simp⟩
 ·rw[getElem!_set_other d i j _ e]
  have n1:¬off+j*3=off+i*3:=by omega
  have n2:¬off+j*3=off+i*3+1:=by omega
  have n3:¬off+j*3=off+i*3+2:=by omega
  have n4:¬off+j*3+1=off+i*3:=by omega
  have n5:¬off+j*3+1=off+i*3+1:=by omega
  have n6:¬off+j*3+1=off+i*3+2:=by omega
  have n7:¬off+j*3+2=off+i*3:=by omega
  have n8:¬off+j*3+2=off+i*3+1:=by omega
  have n9:¬off+j*3+2=off+i*3+2:=by omega
  exact⟨⟨by go_simp,by go_simp,by go_simp⟩,by go_simp,by go_simp,by go_simp⟩
structure CI(d:Array R3)(m k:Nat)(dk:Array R3):Prop where
 size:dk.size=d.size
 le:k<=m
 sub:∀j,j<k->∃i,i<d.size/\dk[j]! = d[i]!
 asc:∀i j,i<j->j<k->Fr.cmp (dk[i]!).f (dk[j]!).f<0
 mem:∀x,(∃j,j<k/\(dk[j]!).f=x)<->∃j,j<m/\(d[j]!).f=x
 high:∀j,k<=j->dk[j]! = d[j]!
structure Inc(d:Array R3):Prop where
 good:∀j,j<d.size->(d[j]!).f.d≠0
 inc:∀i j,i<j->j<d.size->¬Fr.cmp (d[j]!).f (d[i]!).f<0
theorem CI.one{d:Array R3}(h:0<d.size):CI d 1 1 d where
 size:=rfl
 le:=Nat.le_refl _
 sub:=λj hj=>⟨j,by omega,rfl⟩
 asc:=λi j hij hj=>by omega
 mem:=λx=>Iff.rfl
 high:=λ_ _=>rfl
theorem Inc.lt{d:Array R3}(h:Inc d){m p:Nat}(hm:m<d.size)(hp:p<m)(a0:eqF (d[m]!).f (d[m-1]!).f=false):Fr.cmp (d[p]!).f (d[m]!).f<0:=by
 have g1:=h.good m hm;have g2:=h.good (m-1) (by omega);have g3:=h.good p (by omega);have c1:=h.inc (m-1) m (by omega) hm;have s1:=ES g1 g2;have l1:Fr.cmp (d[m-1]!).f (d[m]!).f<0:=by by_cases e:Fr.cmp (d[m]!).f (d[m-1]!).f=0;have:=FX g1 g2 e;rw[Uk.2 this]at a0;cases a0;omega
 by_cases e:p=m-1;rw[e];exact l1;have c2:=h.inc p (m-1) (by omega) (by omega);have s2:=ES g2 g3;by_cases e2:Fr.cmp (d[p]!).f (d[m-1]!).f=0;rw[FX g3 g2 e2];exact l1;exact NL (by omega) l1
theorem CI.keep{d dk dk' : Array R3}{m k:Nat}(h:CI d m k dk)(hd:Inc d)(hm:m<d.size)(a1:eqF (d[m]!).f (d[m-1]!).f=false)(hs:dk'.size=d.size)(hl:∀j,j<k->dk'[j]! = dk[j]!)(hk:dk'[k]! = d[m]!)(hh:∀j,k+1<=j->dk'[j]! = d[j]!):CI d (m+1) (k+1) dk' where
 size:=hs
 le:=by have:=h.le;omega
 sub:=λj hj=>by by_cases e:j=k;subst e;exact⟨m,hm,hk⟩;rw[hl j (by omega)];exact h.sub j (by omega)
 asc:=λi j a0 hj=>by by_cases e:j=k;subst e;rw[hk,hl i a0];obtain⟨p,hp,e⟩:=(h.mem (dk[i]!).f).1 ⟨i,a0,rfl⟩;rw[← e];exact hd.lt hm hp a1;rw[hl i (by omega),hl j (by omega)];exact h.asc i j a0 (by omega)
 mem:=λx=>by constructor;rintro⟨j,hj,e⟩;by_cases e2:j=k;subst e2;rw[hk]at e;exact⟨m,by omega,e⟩;rw[hl j (by omega)]at e;obtain⟨p,hp,e⟩:=(h.mem x).1 ⟨j,by omega,e⟩;exact⟨p,by omega,e⟩;rintro⟨j,hj,e⟩;by_cases e2:j=m;subst e2;exact⟨k,by omega,by rw[hk];exact e⟩;obtain⟨p,hp,e⟩:=(h.mem x).2 ⟨j,by omega,e⟩;exact⟨p,by omega,by rw[hl p hp];exact e⟩
 high:=hh
theorem CI.skip{d dk:Array R3}{m k:Nat}(h:CI d m k dk)(hm0:0<m)(he:eqF (d[m]!).f (d[m-1]!).f=true):CI d (m+1) k dk where
 size:=h.size
 le:=by have:=h.le;omega
 sub:=h.sub
 asc:=h.asc
 mem:=λx=>by rw[h.mem x];constructor;rintro⟨j,hj,e⟩;exact⟨j,by omega,e⟩;rintro⟨j,hj,e⟩;by_cases e2:j=m;subst e2;rw[Uk.1 he]at e;exact⟨j-1,by omega,e⟩;exact⟨j,by omega,e⟩
 high:=h.high
theorem CI.set{d dk:Array R3}{m k:Nat}(h:CI d m k dk)(hd:Inc d)(hm:m<d.size)(a0:eqF (d[m]!).f (d[m-1]!).f=false):CI d (m+1) (k+1) (dk.setIfInBounds k d[m]!):=
 h.keep hd hm a0 (by simp[h.size]) (λj hj=>getElem!_set_other dk k j _ (by omega)) (getElem!_set_same dk k _ (by have:=h.le;have:=h.size;omega)) (λj hj=>by rw[getElem!_set_other dk k j _ (by omega)];exact h.high j (by omega))
theorem CI.next{d:Array R3}{k:Nat}(h:CI d k k d)(hd:Inc d)(hm:k<d.size)(a0:eqF (d[k]!).f (d[k-1]!).f=false):CI d (k+1) (k+1) d:=
 h.keep hd hm a0 rfl (λ_ _=>rfl) rfl (λ_ _=>rfl)
def Rd3(G:Nat->Prop)(w:World)(g:Nat)(d:Array R3):Prop:=∀j,j<d.size->RdRowS (λb=>(G b/\b≠g)/\b<w.heap.size) w rTy (frD (d[j]!).f) (rE d[j]!)
theorem Rd3.at{G:Nat->Prop}{w w' : World}{g:Nat}{d:Array R3}(h:Rd3 G w g d)(ho:OnlyIn (λb=>b=g) w w'){j:Nat}(hj:j<d.size){x:R3}(hx:d[j]! = x):RdRow w' rTy (frD x.f) (rE x):=by have h:=h j hj;rw[hx]at h;exact RdRowS.rd _ _ _ (RdRowS.step ho.size (λb hb hG=>ho.block b hb hG.1.2) _ _ _ h)
theorem RX(w:World)(q:Nat)(os:Array Obj):Below w.heap.size w (grow (w.drewN q) os):=⟨rfl,rfl,rfl,by rw[Sort.size_grow];exact Nat.le_add_right _ _,λk hk=>Sort.heap_grow_old _ _ hk⟩
theorem Lp{r s:Fr}{x0 y0:Bool}{x1 x2 y1 y2:Value}{w:World}(h1:RdRow w rTy (frD r) [.bool x0,x1,x2])(h2:RdRow w rTy (frD s) [.bool y0,y1,y2]):Calls Tryz.prog 36 #[.agg #[.bool x0,x1,x2],.agg #[.bool y0,y1,y2]] w λe w'=>e=.returned (.bool (eqF r s))/\Below w.heap.size w w':=
 (Za h1 h2).mono λe w' ⟨h,q,os,e2⟩=>⟨h,by subst e2;exact RX w q os⟩
def ABD(w:World)(g off cap:Nat)(d:Array R3)(e:Ending)(w' : World):Prop:=∃(m:Nat)(d' : Array R3),e=.returned (.slice (some ⟨g,off,none⟩) m cap)/\CI d d.size m d'/\OnlyIn (λb=>b=g) w w'/\∀j,j<m->w'.cell? ⟨g,off+j*3,none⟩=some (.bool (d'[j]!).b)/\w'.cell? ⟨g,off+j*3+1,none⟩=some (.slice (d'[j]!).p (d'[j]!).m (d'[j]!).c)/\w'.cell? ⟨g,off+j*3+2,none⟩=some (.slice (d'[j]!).q (d'[j]!).n (d'[j]!).e)
set_option maxHeartbeats 4000000 in
theorem TU{G:Nat->Prop}(g off cap:Nat)(d:Array R3)(w:World)(hH:Row3 w g off d)(hR:Rd3 G w g d)(hI:Inc d)(hg:g<w.heap.size)(hsz:d.size<=4000000000000)(hpos:0<d.size)(hcap:d.size<=cap)(hcm:cap<=9223372036854775807) :
 Calls Tryz.prog 146 #[.slice (some ⟨g,off,none⟩) d.size cap,.func (.func 36) #[] #[]] w (ABD w g off cap d):=by
 have HH:=Lib.hid hH;have HR:=Lib.hid hR;have HI:=Lib.hid hI;clear hH hR hI;have eg:∀args w,(callFunc 36 args).run Tryz.prog w=.ok (.enter 36 args) w:=enters_of Tryz.func36 (by kernel_rfl) rfl;by_cases h2:d.size<2
 ·go_enter Tryz.func146,Tryz.ntmps146
  go_wp2;go_ret;have e1:d.size=1:=by omega
  refine⟨d.size,d,rfl,?_,OnlyIn.refl _ _,λj hj=>(HH.out j hj).1⟩;rw[e1];exact CI.one (by omega)
 ·go_enter Tryz.func146,Tryz.ntmps146
  go_wp2;go_loopw [5] (λs3 wr=>∃k:Nat,1<=k/\k<=d.size/\s3=.int .i64 k/\Below w.heap.size w wr/\CI d k k d) (λi _=>d.size-(intOf i).toNat);case atStart=>exact⟨1,Nat.le_refl _,by omega,rfl,Below.refl _ _,CI.one (by omega)⟩
  case round=>
   obtain⟨k,hk1,hk,rfl,hb,a3⟩:=hrel;by_cases a5:k<d.size
   ·have HA:=Lib.hid a3;clear a3
    obtain⟨a0,a1,a2⟩:=(HH.out k a5).1;obtain⟨p0,p1,p2⟩:=(HH.out (k-1) (by omega)).1;have c0:=(hb.cell (p:=⟨g,off+k*3,none⟩) hg).trans a0;have c1:=(hb.cell (p:=⟨g,off+k*3+1,none⟩) hg).trans a1;have c2:=(hb.cell (p:=⟨g,off+k*3+2,none⟩) hg).trans a2;have r0:=(hb.cell (p:=⟨g,off+(k-1)*3,none⟩) hg).trans p0;have r1:=(hb.cell (p:=⟨g,off+(k-1)*3+1,none⟩) hg).trans p1;have r2:=(hb.cell (p:=⟨g,off+(k-1)*3+2,none⟩) hg).trans p2;clear a0 a1 a2 p0 p1 p2;obtain⟨x,hx⟩:∃x,d[k]! = x:=⟨_,rfl⟩;obtain⟨y,hy⟩:∃y,d[k-1]! = y:=⟨_,rfl⟩;have HX:=Lib.hid (And.intro hx hy);rw[hx]at c0 c1 c2;rw[hy]at r0 r1 r2;clear hx hy;obtain⟨x1,x2,x3,x4,x5,x6,x7,xf⟩:=x;obtain⟨y1,y2,y3,y4,y5,y6,y7,yf⟩:=y;simp only at c0 c1 c2 r0 r1 r2;have HB:=Lib.hid hb;have a7:=hb.size;clear hb;have aC:IntKind.i64.wrap (((k:Nat):Int)-1)=((k-1:Nat):Int):=by rw[AB (by omega) (by omega)];omega
    have mixed:Tryz.prog.follows Departure.mixedOrders=true:=(by kernel_rfl);have hA:=HX.out.1;have hB:=HX.out.2;have rx:=Lib.hid (HR.out.at (OnlyIn.of_below (Below.drew HB.out)) a5 hA);have ry:=Lib.hid (HR.out.at (OnlyIn.of_below (Below.drew HB.out)) (show k-1<d.size by omega) hB);clear hA hB;have l1:k-1<d.size:=(by omega);have l2:(0:Int)<=((k-1:Nat):Int):=(by omega);have l3:((k-1:Nat):Int)<((d.size:Nat):Int):=(by omega);cases hq:eqF xf yf with
    |false=>
     have HQ:=Lib.hid hq;clear hq;go_wp2_with fail;go_region_held3 (λw'=>w'.cell? ⟨g,off+k*3,none⟩=some (.bool x1)/\w'.cell? ⟨g,off+k*3+1,none⟩=some (.slice x2 x3 x4)/\w'.cell? ⟨g,off+k*3+2,none⟩=some (.slice x5 x6 x7)/\w'.cell? ⟨g,off+(k-1)*3,none⟩=some (.bool y1)/\w'.cell? ⟨g,off+(k-1)*3+1,none⟩=some (.slice y2 y3 y4)/\w'.cell? ⟨g,off+(k-1)*3+2,none⟩=some (.slice y5 y6 y7)) ((first|exact⟨c0,c1,c2,r0,r1,r2⟩|exact⟨K0,K1,K2,K3,K4,K5⟩)) (first|(go_at_fn 36;refine(Lp rx.out ry.out).mono ?_;rw[HQ.out];rintro e w2 ⟨rfl,hb⟩;have K0:=(hb.cell (p:=⟨g,off+k*3,none⟩) (show g<wr.heap.size by omega)).trans c0;have K1:=(hb.cell (p:=⟨g,off+k*3+1,none⟩) (show g<wr.heap.size by omega)).trans c1;have K2:=(hb.cell (p:=⟨g,off+k*3+2,none⟩) (show g<wr.heap.size by omega)).trans c2;have K3:=(hb.cell (p:=⟨g,off+(k-1)*3,none⟩) (show g<wr.heap.size by omega)).trans r0;have K4:=(hb.cell (p:=⟨g,off+(k-1)*3+1,none⟩) (show g<wr.heap.size by omega)).trans r1;have K5:=(hb.cell (p:=⟨g,off+(k-1)*3+2,none⟩) (show g<wr.heap.size by omega)).trans r2));have HB2:=Lib.hid ((Below.drew HB.out).trans (hb.mono a7));clear hb K0 K1 K2 K3 K4 K5;go_wp2;go_roundw;case rel=>exact⟨k+1,by omega,by omega,by go_num,HB2.out,HA.out.next HI.out a5 (by rw[HX.out.1,HX.out.2];exact HQ.out)⟩
     case measure=>simp[intOf];omega
    |true=>
     have HQ:=Lib.hid hq;clear hq;go_wp2_with fail;go_region_held3 (λw'=>w'.cell? ⟨g,off+k*3,none⟩=some (.bool x1)/\w'.cell? ⟨g,off+k*3+1,none⟩=some (.slice x2 x3 x4)/\w'.cell? ⟨g,off+k*3+2,none⟩=some (.slice x5 x6 x7)/\w'.cell? ⟨g,off+(k-1)*3,none⟩=some (.bool y1)/\w'.cell? ⟨g,off+(k-1)*3+1,none⟩=some (.slice y2 y3 y4)/\w'.cell? ⟨g,off+(k-1)*3+2,none⟩=some (.slice y5 y6 y7)) ((first|exact⟨c0,c1,c2,r0,r1,r2⟩|exact⟨K0,K1,K2,K3,K4,K5⟩)) (first|(go_at_fn 36;refine(Lp rx.out ry.out).mono ?_;rw[HQ.out];rintro e w2 ⟨rfl,hb⟩;have K0:=(hb.cell (p:=⟨g,off+k*3,none⟩) (show g<wr.heap.size by omega)).trans c0;have K1:=(hb.cell (p:=⟨g,off+k*3+1,none⟩) (show g<wr.heap.size by omega)).trans c1;have K2:=(hb.cell (p:=⟨g,off+k*3+2,none⟩) (show g<wr.heap.size by omega)).trans c2;have K3:=(hb.cell (p:=⟨g,off+(k-1)*3,none⟩) (show g<wr.heap.size by omega)).trans r0;have K4:=(hb.cell (p:=⟨g,off+(k-1)*3+1,none⟩) (show g<wr.heap.size by omega)).trans r1;have K5:=(hb.cell (p:=⟨g,off+(k-1)*3+2,none⟩) (show g<wr.heap.size by omega)).trans r2));have HB2:=Lib.hid ((Below.drew HB.out).trans (hb.mono a7));have hws2:=HB2.out.size;clear hb K0 K1 K2 K3 K4 K5 c0 c1 c2 r0 r1 r2 aC;go_wp2;go_loopw [5,7] (λs3 s5 wr'=>∃(kk k2:Nat)(dk:Array R3),s3=.int .i64 kk/\s5=.int .i64 k2/\1<=k2/\k+k2<=d.size/\kk<k+k2/\OnlyIn (λb=>b=g) w wr'/\Row3 wr' g off dk/\CI d (k+k2) kk dk) (λ_ i _=>d.size-k-(intOf i).toNat);case atStart=>exact⟨k,1,d,rfl,rfl,Nat.le_refl _,by omega,by omega,OnlyIn.of_below HB2.out,HH.out.below HB2.out hg,HA.out.skip (by omega) (by rw[HX.out.1,HX.out.2];exact HQ.out)⟩
     case round=>
      obtain⟨kk,k2,dk,rfl,rfl,h1,hle,hkk,ho,a8,hI⟩:=hrel;have hds:=hI.size;have hsz2:=ho.size;have HO:=Lib.hid ho;clear ho;have HJ:=Lib.hid hI;clear hI;have HS:=Lib.hid a8;clear a8;by_cases a4:k+k2<d.size
      ·obtain⟨m0,m1,m2⟩:=(HS.out (k+k2) (by omega)).1
       obtain⟨p0,p1,p2⟩:=(HS.out (k+k2-1) (by omega)).1;have e1:off+(k+k2)*3=off+k*3+k2*3:=by omega
       have e2:off+(k+k2-1)*3=off+k*3+(k2-1)*3:=(by omega);rw[HJ.out.high (k+k2) (by omega),e1]at m0 m1 m2;rw[HJ.out.high (k+k2-1) (by omega),e2]at p0 p1 p2;obtain⟨u,hu⟩:∃u,d[k+k2]! = u:=⟨_,rfl⟩;obtain⟨v,hv⟩:∃v,d[k+k2-1]! = v:=⟨_,rfl⟩;have HU:=Lib.hid (And.intro hu hv);rw[hu]at m0 m1 m2;rw[hv]at p0 p1 p2;clear hu hv;obtain⟨u1,u2,u3,u4,u5,u6,u7,uf⟩:=u;obtain⟨v1,v2,v3,v4,v5,v6,v7,vf⟩:=v;simp only at m0 m1 m2 p0 p1 p2;have hk2m:IntKind.i64.wrap (((k2:Nat):Int)-1)=((k2-1:Nat):Int):=(by rw[AB (by omega) (by omega)];omega);have hA:=HU.out.1;have hB:=HU.out.2;have BD:Below wr.heap.size wr wr.drew:=Below.drew (Below.refl _ _);have HOD:=Lib.hid (HO.out.trans (OnlyIn.of_below (Below.drew (Below.refl _ _))));have rx:=Lib.hid (HR.out.at HOD.out a4 hA);have ry:=Lib.hid (HR.out.at HOD.out (show k+k2-1<d.size by omega) hB);clear hA hB BD;have l4:k2-1<d.size-k:=(by omega);have l5:(0:Int)<=((k2-1:Nat):Int):=(by omega);have l6:((k2-1:Nat):Int)<((d.size-k:Nat):Int):=(by omega);cases hq:eqF uf vf with
       |true=>
        have HQ2:=Lib.hid hq;clear hq e1 e2;go_wp2_with fail;go_region_held3 (λw'=>w'.cell? ⟨g,off+k*3+k2*3,none⟩=some (.bool u1)/\w'.cell? ⟨g,off+k*3+k2*3+1,none⟩=some (.slice u2 u3 u4)/\w'.cell? ⟨g,off+k*3+k2*3+2,none⟩=some (.slice u5 u6 u7)/\w'.cell? ⟨g,off+k*3+(k2-1)*3,none⟩=some (.bool v1)/\w'.cell? ⟨g,off+k*3+(k2-1)*3+1,none⟩=some (.slice v2 v3 v4)/\w'.cell? ⟨g,off+k*3+(k2-1)*3+2,none⟩=some (.slice v5 v6 v7)) ((first|exact⟨m0,m1,m2,p0,p1,p2⟩|exact⟨K0,K1,K2,K3,K4,K5⟩)) (first|(go_at_fn 36;refine(Lp rx.out ry.out).mono ?_;rw[HQ2.out];rintro e w3 ⟨rfl,hb⟩;have K0:=(hb.cell (p:=⟨g,off+k*3+k2*3,none⟩) (show g<wr.heap.size by omega)).trans m0;have K1:=(hb.cell (p:=⟨g,off+k*3+k2*3+1,none⟩) (show g<wr.heap.size by omega)).trans m1;have K2:=(hb.cell (p:=⟨g,off+k*3+k2*3+2,none⟩) (show g<wr.heap.size by omega)).trans m2;have K3:=(hb.cell (p:=⟨g,off+k*3+(k2-1)*3,none⟩) (show g<wr.heap.size by omega)).trans p0;have K4:=(hb.cell (p:=⟨g,off+k*3+(k2-1)*3+1,none⟩) (show g<wr.heap.size by omega)).trans p1;have K5:=(hb.cell (p:=⟨g,off+k*3+(k2-1)*3+2,none⟩) (show g<wr.heap.size by omega)).trans p2));have HB3:=Lib.hid ((Below.drew (Below.refl wr.heap.size wr)).trans hb);clear hb K0 K1 K2 K3 K4 K5;go_wp2;go_roundw;case rel=>exact⟨kk,k2+1,dk,rfl,by go_num,by omega,by omega,by omega,HO.out.trans (OnlyIn.of_below HB3.out),HS.out.below HB3.out (by omega),HJ.out.skip (by omega) (by rw[HU.out.1,HU.out.2];exact HQ2.out)⟩
        case measure=>simp[intOf];omega
       |false=>
        have HQ2:=Lib.hid hq;clear hq;have HE1:=Lib.hid e1;clear e1 e2;go_wp2_with fail;go_region_held3 (λw'=>w'.cell? ⟨g,off+k*3+k2*3,none⟩=some (.bool u1)/\w'.cell? ⟨g,off+k*3+k2*3+1,none⟩=some (.slice u2 u3 u4)/\w'.cell? ⟨g,off+k*3+k2*3+2,none⟩=some (.slice u5 u6 u7)/\w'.cell? ⟨g,off+k*3+(k2-1)*3,none⟩=some (.bool v1)/\w'.cell? ⟨g,off+k*3+(k2-1)*3+1,none⟩=some (.slice v2 v3 v4)/\w'.cell? ⟨g,off+k*3+(k2-1)*3+2,none⟩=some (.slice v5 v6 v7)) ((first|exact⟨m0,m1,m2,p0,p1,p2⟩|exact⟨K0,K1,K2,K3,K4,K5⟩)) (first|(go_at_fn 36;refine(Lp rx.out ry.out).mono ?_;rw[HQ2.out];rintro e w3 ⟨rfl,hb⟩;have K0:=(hb.cell (p:=⟨g,off+k*3+k2*3,none⟩) (show g<wr.heap.size by omega)).trans m0;have K1:=(hb.cell (p:=⟨g,off+k*3+k2*3+1,none⟩) (show g<wr.heap.size by omega)).trans m1;have K2:=(hb.cell (p:=⟨g,off+k*3+k2*3+2,none⟩) (show g<wr.heap.size by omega)).trans m2;have K3:=(hb.cell (p:=⟨g,off+k*3+(k2-1)*3,none⟩) (show g<wr.heap.size by omega)).trans p0;have K4:=(hb.cell (p:=⟨g,off+k*3+(k2-1)*3+1,none⟩) (show g<wr.heap.size by omega)).trans p1;have K5:=(hb.cell (p:=⟨g,off+k*3+(k2-1)*3+2,none⟩) (show g<wr.heap.size by omega)).trans p2));have HB3:=Lib.hid ((Below.drew (Below.refl wr.heap.size wr)).trans hb);clear hb K0 K1 K2 K3 K4 K5 m0 m1 m2 p0 p1 p2 hk2m;have HS3:=Lib.hid (HS.out.below HB3.out (by omega));obtain⟨m0,m1,m2⟩:=(HS3.out (k+k2) (by omega)).1;rw[HJ.out.high (k+k2) (by omega),HE1.out,HU.out.1]at m0 m1 m2;simp only at m0 m1 m2;obtain⟨⟨s0,s1,s2⟩,sf0,sf1,sf2⟩:=HS3.out kk (by omega);go_wp2;go_roundw;case rel=>have a9:=HJ.out.set HI.out a4 (by rw[HU.out.1,HU.out.2];exact HQ2.out);have aA:=HS3.out.set (show kk<dk.size by omega) (d[k+k2]!);rw[HU.out.1]at a9 aA;exact⟨kk+1,k2+1,_,by go_num,by go_num,by omega,by omega,by omega,OnlyIn.setCell (OnlyIn.setCell (OnlyIn.setCell (HO.out.trans (OnlyIn.of_below HB3.out)) rfl _) rfl _) rfl _,aA,a9⟩
        case measure=>simp[intOf];omega
      ·have a6:k+k2=d.size:=by omega
       have aD:∀ty,(Builtin.clear_ #[62] ty #[.slice (some ⟨g,off+kk*3,none⟩) (d.size-kk) (cap-kk)]).run Tryz.prog wr=.ok (.tuple #[]) (wr.setCells g (off+kk*3) (Builtin.zeroCells (Value.agg #[.bool false,.slice none 0 0,.slice none 0 0]).cells (d.size-kk)).toList):=λty=>
        TS wr _ _ ty Tryz.underlying62 Tryz.zeroValue44 g (off+kk*3) (d.size-kk) (cap-kk) (by omega) (λj hj=>by
         obtain⟨⟨q0,q1,q2⟩,-⟩:=HS.out (kk+j/3) (by omega);have:j%3=0\/j%3=1\/j%3=2:=by omega
         rcases this with e|e|e;·rw[show off+kk*3+j=off+(kk+j/3)*3 by omega,q0];rfl
         ·rw[show off+kk*3+j=off+(kk+j/3)*3+1 by omega,q1];rfl
         ·rw[show off+kk*3+j=off+(kk+j/3)*3+2 by omega,q2];rfl) (λj hj=>by
         obtain⟨-,q0,q1,q2⟩:=HS.out (kk+j/3) (by omega);have:j%3=0\/j%3=1\/j%3=2:=by omega
         rcases this with e|e|e;·rw[show off+kk*3+j=off+(kk+j/3)*3 by omega,q0]
         ·rw[show off+kk*3+j=off+(kk+j/3)*3+1 by omega,q1]
         ·rw[show off+kk*3+j=off+(kk+j/3)*3+2 by omega,q2])
       obtain⟨zs,aB⟩:∃zs,(Builtin.zeroCells (Value.agg #[.bool false,.slice none 0 0,.slice none 0 0]).cells (d.size-kk)).toList=zs:=⟨_,rfl⟩;rw[aB]at aD;clear aB;go_wp2;go_ret;have hI:=HJ.out;rw[a6]at hI;refine⟨kk,dk,rfl,hI,HO.out.trans (Hr g zs _ _),λj hj=>?_⟩;obtain⟨⟨q0,q1,q2⟩,-⟩:=HS.out j (by omega);exact⟨by rw[EE g zs _ _ _ (by omega)];exact q0,by rw[EE g zs _ _ _ (by omega)];exact q1,by rw[EE g zs _ _ _ (by omega)];exact q2⟩
   ·have aE:k=d.size:=by omega
    have HB:=Lib.hid hb;clear hb;have HA:=Lib.hid a3;clear a3;go_wp2;go_ret;have hA:=HA.out;rw[aE]at hA;exact⟨d.size,d,rfl,hA,OnlyIn.of_below HB.out,λj hj=>(HH.out.below HB.out hg j hj).1⟩
end Go.Proofs.YthoidhehmmcgnaaGreat
