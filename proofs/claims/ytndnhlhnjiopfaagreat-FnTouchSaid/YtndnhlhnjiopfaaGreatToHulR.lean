import Derived.Test.YtndnhlhnjiopfaaGreatToHulP
import Derived.Test.YtndnhlhnjiopfaaGreatToHus
import Derived.Test.YtndnhlhnjiopfaaGreatToArea
namespace Go.Proofs.YtndnhlhnjiopfaaGreat
set_option linter.unusedVariables false
set_option linter.unusedSimpArgs false
def crI (a b:V2):Int:=a.1*b.2-a.2*b.1
def fan (o:V2):List V2->Int
 | a::b::r=>AC o a b+fan o (b::r)
 | _=>0
theorem P9 (o:V2):∀ (a:V2) (l:List V2),fan o (a::l)=-An (a::l)+(((a::l).getLast (by simp)).1*((a::l).getLast (by simp)).2-a.1*a.2)+crI o a-crI o ((a::l).getLast (by simp))
 | a,[]=>by simp [fan,An]
 | a,b::r=>by
  have ih:=P9 o b r
  rw [List.getLast_cons (by simp)]
  simp only [fan,An,ih]
  unfold AC trI crI
  grind
theorem L7 (o x:V2):∀ (l r:List V2),fan o (l++x::r)=fan o (l++[x])+fan o (x::r)
 | [],r=>by simp [fan]
 | [a],r=>by simp [fan]
 | a::b::l,r=>by
  have:=L7 o x (b::l) r
  simp only [List.cons_append,fan] at this ⊢
  omega
theorem L8 (x:V2):∀ l:List V2,fan x (l++[x])=fan x l
 | []=>by simp [fan]
 | [a]=>by simp only [List.cons_append,List.nil_append,fan];unfold AC;grind
 | a::b::l=>by
  have:=L8 x (b::l)
  simp only [List.cons_append,fan] at this ⊢
  omega
theorem It (a b:V2):∀ l:List V2,An (l++[a,b])=An (l++[a])+trI a b
 | []=>by simp [An]
 | [c]=>by simp [An]
 | c::d::l=>by
  have:=It a b (d::l)
  simp only [List.cons_append,An] at this ⊢
  omega
theorem Ka:∀ l:List V2,An l.reverse=-An l
 | []=>by simp [An]
 | [a]=>by simp [An]
 | a::b::r=>by
  have ih:=Ka (b::r)
  rw [List.reverse_cons] at ih
  rw [List.reverse_cons,List.reverse_cons,List.append_assoc,List.singleton_append,It,ih]
  simp only [An]
  unfold trI;grind
theorem Iu {R:V2->V2->Prop} {a b:V2} (h:R a b):∀ {l:List V2},pairsP R (l++[a])->pairsP R (l++[a,b])
 | [],_=>⟨h,trivial⟩
 | [c],hl=>⟨hl.1,h,trivial⟩
 | c::d::l,hl=>⟨hl.1,Iu h (l:=d::l) hl.2⟩
theorem Kb {R:V2->V2->Prop} : ∀ {st:List V2},Dx R st->pairsP R st.reverse
 | [],_=>trivial
 | [a],_=>trivial
 | b::a::t,h=>by
  have ih:=Kb (st:=a::t) h.2
  rw [List.reverse_cons] at ih
  rw [List.reverse_cons,List.reverse_cons,List.append_assoc,List.singleton_append]
  exact Iu h.1 ih
theorem FW {R Q:V2->V2->Prop} (h:∀ a b,R a b->Q b a):∀ {st:List V2},Dx R st->pairsP Q st
 | [],_=>trivial
 | [a],_=>trivial
 | b::a::t,hs=>⟨h a b hs.1,FW h (st:=a::t) hs.2⟩
theorem Sa (a b x:V2):AC b a x=-AC a b x:=by unfold AC;grind
theorem Sb {s:List V2} (hs:upV s) (h1:1<=s.length):∃ p q lo up,Band (λ x=>x ∈ s) p q lo up/\fan p (AQ s++AQ s.reverse)=E4 p lo up/\(2<=s.length->(∃ t,AQ s++AQ s.reverse=p::t)/\(∀ x ∈ p::lo,x ∈ AQ s++AQ s.reverse)/\∀ x ∈ p::up,x ∈ AQ s++AQ s.reverse):=by
 obtain ⟨m,hm⟩:∃ m,s.length=m+1:=⟨s.length-1,by omega⟩
 obtain ⟨A,hA⟩:=Gk AP hs m (by omega)
 obtain ⟨B,hB⟩:=Gk D9 (l:=s.reverse) (by rw [List.pairwise_reverse];exact hs) m (by simp;omega)
 have tA:s.take (m+1)=s:=by rw [← hm,List.take_length]
 have tB:s.reverse.take (m+1)=s.reverse:=by rw [← hm,← List.length_reverse,List.take_length]
 rw [tA] at A
 rw [tB] at B
 simp only [List.mem_reverse] at B
 have e1:AQ s=Dw (chT s (m+1)):=by unfold AQ;rw [hm]
 have e2:AQ s.reverse=Dw (chT s.reverse (m+1)):=by unfold AQ;rw [List.length_reverse,hm]
 obtain ⟨L,hL⟩:∃ L,chT s (m+1)=L:=⟨_,rfl⟩
 obtain ⟨V,hV⟩:∃ V,(chT s.reverse (m+1)).reverse=V:=⟨_,rfl⟩
 have hU:chT s.reverse (m+1)=V.reverse:=by rw [← hV,List.reverse_reverse]
 rw [hL] at A hA e1
 rw [hV] at B hB
 rw [hU] at e2
 have rg:s.reverse.getD m (0,0)=s.getD 0 (0,0):=by rw [Db s (by omega),hm];simp
 rw [rg] at hB
 obtain ⟨p,hp⟩:∃ p,s.getD 0 (0,0)=p:=⟨_,rfl⟩
 obtain ⟨q,hq⟩:∃ q,s.getD m (0,0)=q:=⟨_,rfl⟩
 rw [hp] at hB
 rw [hq] at hA
 -- the lower path
 have hLne:L≠[]:=λ e=>by subst e;simp at hA
 obtain ⟨p',lo,rfl⟩:∃ p' lo,L=p'::lo:=by
  cases L with
  | nil=>exact absurd rfl hLne
  | cons a t=>exact ⟨a,t,rfl⟩
 have lowL:=A.low p' (by rw [List.getLast?_reverse];rfl)
 have mem0:p ∈ s:=by rw [← hp];simp [List.getD,show 0<s.length by omega]
 have memm:q ∈ s:=by rw [← hq];simp [List.getD,show m<s.length by omega]
 have sorted:∀ i j,i<j->j<s.length->AO (s.getD i (0,0)) (s.getD j (0,0))=true:=λ i j hij hj=>by
  have:=List.pairwise_iff_getElem.1 hs i j (by omega) hj hij
  simpa [List.getD,hj,show i<s.length by omega] using this
 have memp' : p' ∈ s:=A.mem p' (by simp)
 have idx:∀ x,x ∈ s->∃ i,i<s.length/\x=s.getD i (0,0):=λ x hx=>by
  obtain ⟨i,hi,rfl⟩:=List.getElem_of_mem hx
  exact ⟨i,hi,by simp [List.getD,hi]⟩
 have hpp:p'=p:=by
  rcases lowL p mem0 with h|h
  ·exact h.symm
  ·obtain ⟨i,hi,e⟩:=idx p' memp'
   by_cases h0:i=0
   ·subst h0;rw [e,hp]
   ·have:=sorted 0 i (by omega) hi
    rw [hp,← e] at this
    rw [Aa] at h this;omega
 subst hpp
 have lastL:(p'::lo).getLast (by simp)=q:=by
  have h:=hA
  rw [List.head?_reverse,List.getLast?_eq_some_getLast (by simp)] at h
  exact Option.some.inj h
 -- the upper path
 obtain ⟨up,rfl⟩:∃ up,V=p'::up:=by
  cases V with
  | nil=>simp at hB
  | cons a t=>exact ⟨t,by rw [List.head?_cons] at hB;rw [Option.some.inj hB]⟩
 have lastU:(p'::up).getLast (by simp)=q:=by
  have h:=B.low ((p'::up).getLast (by simp)) (List.getLast?_eq_some_getLast (by simp))
  have hmem:(p'::up).getLast (by simp) ∈ s:=B.mem _ (List.getLast_mem _)
  rcases h q memm with h|h
  ·exact h.symm
  ·obtain ⟨i,hi,e⟩:=idx _ hmem
   rw [e] at h ⊢
   by_cases h0:i=m
   ·subst h0;exact hq
   ·have:=sorted i m (by omega) (by omega)
    rw [hq] at this
    rw [Aa] at h this;omega
 have hlow:∀ x,x ∈ s->p'.1<=x.1:=λ x hx=>by
  rcases lowL x hx with rfl|h
  ·exact Int.le_refl _
  ·rw [Aa] at h;omega
 have hhigh:∀ x,x ∈ s->x.1<=q.1:=λ x hx=>by
  obtain ⟨i,hi,e⟩:=idx x hx
  by_cases h0:i=m
  ·subst h0;rw [e,hq];exact Int.le_refl _
  ·have:=sorted i m (by omega) (by omega)
   rw [hq,← e] at this
   rw [Aa] at this;omega
 have edA:=Kb A.edge
 rw [List.reverse_reverse] at edA
 have band:Band (λ x=>x ∈ s) p' q lo up:=by
  refine ⟨hlow q memm,edA.imp λ a b h=>?_,lastL,λ x hx=>A.mem x (List.mem_reverse.2 hx),edA.imp λ a b h=>h.2,FW (λ a b h=>?_) B.edge,lastU,λ x hx=>B.mem x hx,FW (λ a b h=>?_) B.edge,hlow,hhigh⟩
  ·have:AO a b=true:=h.1
   rw [Aa] at this
   unfold up1;omega
  ·have:AO b a=true:=h.1
   rw [Aa] at this
   unfold up1;omega
  ·intro x hx
   have:=h.2 x hx
   rw [Sa a b];omega
 have ecL:Dw (p'::lo)++[q]=p'::lo:=by
  unfold Dw
  rw [← List.dropLast_eq_take,← lastL]
  exact List.dropLast_concat_getLast (by simp)
 have ecU:Dw (p'::up).reverse++[p']=(p'::up).reverse:=by
  unfold Dw
  rw [← List.dropLast_eq_take]
  have:(p'::up).reverse.getLast (by simp)=p':=by simp
  conv=>lhs;rw [← this]
  rw [this]
  have h:=List.dropLast_concat_getLast (l:=(p'::up).reverse) (by simp)
  rwa [this] at h
 refine ⟨p',q,lo,up,band,?_,λ h2=>?_⟩
 ·rw [e1,e2,← L8,List.append_assoc,ecU]
  obtain ⟨u',hu'⟩:∃ u',(p'::up).reverse=q::u':=by
   have hne:(p'::up).reverse≠[]:=by simp
   refine ⟨(p'::up).reverse.tail,?_⟩
   have hh:(p'::up).reverse.head hne=q:=by rw [List.head_reverse];exact lastU
   conv=>lhs;rw [← List.cons_head_tail hne]
   rw [hh]
  rw [hu',L7,ecL,← hu',P9]
  have h2:=P9 p' q u'
  have h3:(q::u').getLast (by simp)=p':=by
   have:(p'::up).reverse.getLast (by simp)=p':=by simp
   simp only [hu'] at this
   exact this
  rw [hu',h2,h3,lastL,← hu',Ka]
  unfold E4
  omega
 ·have hpq:p'≠q:=λ e=>by
   have:=sorted 0 m (by omega) (by omega)
   rw [hp,hq,← e] at this
   rw [Aa] at this;omega
  have hhead:∃ t,AQ s++AQ s.reverse=p'::t:=by
   rw [e1]
   cases lo with
   | nil=>exact absurd (by simpa using lastL) hpq
   | cons a t=>exact ⟨(Dw (p'::a::t)).tail++AQ s.reverse,by simp [Dw]⟩
  have pin:p' ∈ AQ s++AQ s.reverse:=by obtain ⟨t,ht⟩:=hhead;rw [ht];simp
  have qin:q ∈ AQ s++AQ s.reverse:=by
   rw [List.mem_append];right
   rw [e2]
   obtain ⟨u',hu'⟩:∃ u',(p'::up).reverse=q::u':=by
    have hne:(p'::up).reverse≠[]:=by simp
    refine ⟨(p'::up).reverse.tail,?_⟩
    have hh:(p'::up).reverse.head hne=q:=by rw [List.head_reverse];exact lastU
    conv=>lhs;rw [← List.cons_head_tail hne]
    rw [hh]
   have h3:(q::u').getLast (by simp)=p':=by
    have:(p'::up).reverse.getLast (by simp)=p':=by simp
    simp only [hu'] at this
    exact this
   rw [hu']
   cases u' with
   | nil=>exact absurd (by simpa using h3.symm) hpq
   | cons a t=>simp [Dw]
  refine ⟨hhead,λ x hx=>?_,λ x hx=>?_⟩
  ·rw [← ecL] at hx
   rcases List.mem_append.1 hx with hx|hx
   ·rw [List.mem_append,e1];exact .inl hx
   ·rw [List.mem_singleton.1 hx];exact qin
  ·have hx:x ∈ (p'::up).reverse:=List.mem_reverse.2 hx
   rw [← ecU] at hx
   rcases List.mem_append.1 hx with hx|hx
   ·rw [List.mem_append,e2];exact .inr hx
   ·rw [List.mem_singleton.1 hx];exact pin
theorem Ring.congr {S T:V2->Prop} {h:List V2} (r:Ring S h) (e:∀ x,S x↔T x):Ring T h where
 mem:=λ i hi=>(e _).1 (r.mem i hi)
 ext:=λ i hi x y hx hy h1 h2 h3=>r.ext i hi x y ((e _).2 hx) ((e _).2 hy) h1 h2 h3
 side:=λ i hi x hx=>r.side i hi x ((e _).2 hx)
 inj:=r.inj
theorem Band.congr {S T:V2->Prop} {p q:V2} {lo up:List V2} (B:Band S p q lo up) (e:∀ x,S x↔T x):Band T p q lo up where
 ends:=B.ends
 lo1:=B.lo1
 lo2:=B.lo2
 lo3:=λ x hx=>(e _).1 (B.lo3 x hx)
 lo4:=B.lo4.imp λ a b h x hx=>h x ((e _).2 hx)
 up1':=B.up1'
 up2:=B.up2
 up3:=λ x hx=>(e _).1 (B.up3 x hx)
 up4:=B.up4.imp λ a b h x hx=>h x ((e _).2 hx)
 low:=λ x hx=>B.low x ((e _).2 hx)
 high:=λ x hx=>B.high x ((e _).2 hx)
def Xc (h:List V2):Int:=fan (h.getD 0 (0,0)) h
structure HullOk (S:V2->Prop) (h:List V2):Prop where
 ring:Ring S h
 three:3<=h.length
 band:∃ p q lo up,Band S p q lo up/\Xc h=E4 p lo up/\(∀ x ∈ p::lo,x ∈ h)/\∀ x ∈ p::up,x ∈ h
theorem Up {l:List V2} (hv:l.all AB=true) (h64:l.length<=64) {x y z:V2} (hx:x ∈ l) (hy:y ∈ l) (hz:z ∈ l) (ht:0<AC x y z):HullOk (λ v=>v ∈ l) (At l):=by
 have e:At l=JV (AW l l.length):=FY h64 hv
 obtain ⟨s,hs⟩:∃ s,AW l l.length=s:=⟨_,rfl⟩
 have up:upV s:=by rw [← hs];exact I5 _ _
 have mem:∀ v,v ∈ s↔v ∈ l:=λ v=>by rw [← hs,D7 _ v _ (Nat.le_refl _),List.take_length]
 have nxy:x≠y:=by rintro rfl;unfold AC at ht;grind
 have nxz:x≠z:=by rintro rfl;unfold AC at ht;grind
 have nyz:y≠z:=by rintro rfl;unfold AC at ht;grind
 have h3:3<=s.length:=by
  have:=List.Nodup.length_le_of_subset (l₁:=[x,y,z]) (l₂:=s) (by simp [nxy,nxz,nyz]) (λ v hv=>by
   simp only [List.mem_cons,List.not_mem_nil,or_false] at hv
   rcases hv with rfl|rfl|rfl
   ·exact (mem _).2 hx
   ·exact (mem _).2 hy
   ·exact (mem _).2 hz)
  simpa using this
 rw [e,hs,FZ (by omega)]
 obtain ⟨r,r2,r3⟩:=K9 up (by omega)
 obtain ⟨p,q,lo,u,B,hf,hhd⟩:=Sb up (by omega)
 obtain ⟨⟨t,ht'⟩,m1,m2⟩:=hhd (by omega)
 refine ⟨r.congr mem,?_,p,q,lo,u,B.congr mem,?_,m1,m2⟩
 ·by_cases h2:(AQ s++AQ s.reverse).length=2
  ·have hh:=r3 h2
   have hne:s.getD 0 (0,0)≠s.getD (s.length-1) (0,0):=by
    have:=List.pairwise_iff_getElem.1 up 0 (s.length-1) (by omega) (by omega) (by omega)
    have e1:s.getD 0 (0,0)=s[0]:=by simp [List.getD,show 0<s.length by omega]
    have e2:s.getD (s.length-1) (0,0)=s[s.length-1]:=by simp [List.getD,show s.length-1<s.length by omega]
    rw [e1,e2]
    exact Ce this
   have:=Jb hne (hh x ((mem _).2 hx)) (hh y ((mem _).2 hy)) (hh z ((mem _).2 hz))
   omega
  ·omega
 ·unfold Xc
  rw [← hf,ht']
  rfl
theorem DW {R Q:V2->V2->Prop} {f:V2->V2} (h:∀ a b,R a b->Q (f a) (f b)):∀ {l:List V2},pairsP R l->pairsP Q (l.map f)
 | [],_=>trivial
 | [_],_=>trivial
 | a::b::r,⟨h1,h2⟩=>⟨h a b h1,DW h (l:=b::r) h2⟩
theorem IP (t a b x:V2):AC (AY t a) (AY t b) (AY t x)=AC a b x:=by unfold AC AY;grind
theorem GZ (t:V2):∀ (a:V2) (l:List V2),An ((a::l).map (AY t))=An (a::l)+2*t.2*(((a::l).getLast (by simp)).1-a.1)
 | a,[]=>by simp [An]
 | a,b::r=>by
  have ih:=GZ t b r
  rw [List.getLast_cons (by simp)]
  simp only [List.map_cons,An] at ih ⊢
  rw [ih]
  unfold trI AY
  grind
theorem Band.shift {S T:V2->Prop} {p q:V2} {lo up:List V2} (B:Band S p q lo up) (t:V2) (e:∀ x,T x↔∃ y,S y/\x=AY t y):Band T (AY t p) (AY t q) (lo.map (AY t)) (up.map (AY t))/\E4 (AY t p) (lo.map (AY t)) (up.map (AY t))=E4 p lo up:=by
 have cm:∀ l:List V2,AY t p::l.map (AY t)=(p::l).map (AY t):=λ l=>rfl
 have gl:∀ l:List V2,(AY t p::l.map (AY t)).getLast (by simp)=AY t ((p::l).getLast (by simp)):=λ l=>by
  have:=List.getLast_map (f:=AY t) (l:=p::l) (by simp)
  simpa using this
 refine ⟨⟨?_,DW (λ a b h=>?_) B.lo1,?_,λ x hx=>?_,DW (λ a b h=>?_) B.lo4,DW (λ a b h=>?_) B.up1',?_,λ x hx=>?_,DW (λ a b h=>?_) B.up4,λ x hx=>?_,λ x hx=>?_⟩,?_⟩
 ·have:=B.ends;simp only [AY];omega
 ·unfold up1 at h ⊢;simp only [AY];omega
 ·rw [gl,B.lo2]
 ·rw [cm] at hx
  obtain ⟨y,hy,rfl⟩:=List.mem_map.1 hx
  exact (e _).2 ⟨y,B.lo3 y hy,rfl⟩
 ·intro x hx
  obtain ⟨y,hy,rfl⟩:=(e _).1 hx
  rw [IP];exact h y hy
 ·unfold up1 at h ⊢;simp only [AY];omega
 ·rw [gl,B.up2]
 ·rw [cm] at hx
  obtain ⟨y,hy,rfl⟩:=List.mem_map.1 hx
  exact (e _).2 ⟨y,B.up3 y hy,rfl⟩
 ·intro x hx
  obtain ⟨y,hy,rfl⟩:=(e _).1 hx
  rw [IP];exact h y hy
 ·obtain ⟨y,hy,rfl⟩:=(e _).1 hx
  have:=B.low y hy;simp only [AY];omega
 ·obtain ⟨y,hy,rfl⟩:=(e _).1 hx
  have:=B.high y hy;simp only [AY];omega
 ·unfold E4
  rw [cm,cm,GZ,GZ,B.lo2,B.up2]
  omega
end Go.Proofs.YtndnhlhnjiopfaaGreat
