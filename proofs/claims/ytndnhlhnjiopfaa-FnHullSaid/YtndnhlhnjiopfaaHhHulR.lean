import Derived.Test.YtndnhlhnjiopfaaHhHulP
import Derived.Test.YtndnhlhnjiopfaaHhHus
import Derived.Test.YtndnhlhnjiopfaaHhArea
namespace Go.Proofs.Ytndnhlhnjiopfaa
set_option linter.unusedVariables false
set_option linter.unusedSimpArgs false
def crI (a b:V2):Int:=a.1*b.2-a.2*b.1
def fan (o:V2):List V2->Int
 | a::b::r=>AC o a b+fan o (b::r)
 | _=>0
theorem PB (o:V2):∀ (a:V2) (l:List V2),fan o (a::l)=-Ap (a::l)+(((a::l).getLast (by simp)).1*((a::l).getLast (by simp)).2-a.1*a.2)+crI o a-crI o ((a::l).getLast (by simp))
 | a,[]=>by simp [fan,Ap]
 | a,b::r=>by
  have ih:=PB o b r
  rw [List.getLast_cons (by simp)]
  simp only [fan,Ap,ih]
  unfold AC trI crI
  grind
theorem LJ (o x:V2):∀ (l r:List V2),fan o (l++x::r)=fan o (l++[x])+fan o (x::r)
 | [],r=>by simp [fan]
 | [a],r=>by simp [fan]
 | a::b::l,r=>by
  have:=LJ o x (b::l) r
  simp only [List.cons_append,fan] at this ⊢
  omega
theorem LK (x:V2):∀ l:List V2,fan x (l++[x])=fan x l
 | []=>by simp [fan]
 | [a]=>by simp only [List.cons_append,List.nil_append,fan];unfold AC;grind
 | a::b::l=>by
  have:=LK x (b::l)
  simp only [List.cons_append,fan] at this ⊢
  omega
theorem IF (a b:V2):∀ l:List V2,Ap (l++[a,b])=Ap (l++[a])+trI a b
 | []=>by simp [Ap]
 | [c]=>by simp [Ap]
 | c::d::l=>by
  have:=IF a b (d::l)
  simp only [List.cons_append,Ap] at this ⊢
  omega
theorem Ju:∀ l:List V2,Ap l.reverse=-Ap l
 | []=>by simp [Ap]
 | [a]=>by simp [Ap]
 | a::b::r=>by
  have ih:=Ju (b::r)
  rw [List.reverse_cons] at ih
  rw [List.reverse_cons,List.reverse_cons,List.append_assoc,List.singleton_append,IF,ih]
  simp only [Ap]
  unfold trI;grind
theorem IG {R:V2->V2->Prop} {a b:V2} (h:R a b):∀ {l:List V2},pairsP R (l++[a])->pairsP R (l++[a,b])
 | [],_=>⟨h,trivial⟩
 | [c],hl=>⟨hl.1,h,trivial⟩
 | c::d::l,hl=>⟨hl.1,IG h (l:=d::l) hl.2⟩
theorem Jv {R:V2->V2->Prop} : ∀ {st:List V2},Dd R st->pairsP R st.reverse
 | [],_=>trivial
 | [a],_=>trivial
 | b::a::t,h=>by
  have ih:=Jv (st:=a::t) h.2
  rw [List.reverse_cons] at ih
  rw [List.reverse_cons,List.reverse_cons,List.append_assoc,List.singleton_append]
  exact IG h.1 ih
theorem FB {R Q:V2->V2->Prop} (h:∀ a b,R a b->Q b a):∀ {st:List V2},Dd R st->pairsP Q st
 | [],_=>trivial
 | [a],_=>trivial
 | b::a::t,hs=>⟨h a b hs.1,FB h (st:=a::t) hs.2⟩
theorem RU (a b x:V2):AC b a x=-AC a b x:=by unfold AC;grind
theorem RV {s:List V2} (hs:upV s) (h1:1<=s.length):∃ p q lo up,Band (λ x=>x ∈ s) p q lo up/\fan p (AP s++AP s.reverse)=D8 p lo up/\(2<=s.length->(∃ t,AP s++AP s.reverse=p::t)/\(∀ x ∈ p::lo,x ∈ AP s++AP s.reverse)/\∀ x ∈ p::up,x ∈ AP s++AP s.reverse):=by
 obtain ⟨m,hm⟩:∃ m,s.length=m+1:=⟨s.length-1,by omega⟩
 obtain ⟨A,hA⟩:=GI AN hs m (by omega)
 obtain ⟨B,hB⟩:=GI Do (l:=s.reverse) (by rw [List.pairwise_reverse];exact hs) m (by simp;omega)
 have tA:s.take (m+1)=s:=by rw [← hm,List.take_length]
 have tB:s.reverse.take (m+1)=s.reverse:=by rw [← hm,← List.length_reverse,List.take_length]
 rw [tA] at A
 rw [tB] at B
 simp only [List.mem_reverse] at B
 have e1:AP s=Dc (chT s (m+1)):=by unfold AP;rw [hm]
 have e2:AP s.reverse=Dc (chT s.reverse (m+1)):=by unfold AP;rw [List.length_reverse,hm]
 obtain ⟨L,hL⟩:∃ L,chT s (m+1)=L:=⟨_,rfl⟩
 obtain ⟨V,hV⟩:∃ V,(chT s.reverse (m+1)).reverse=V:=⟨_,rfl⟩
 have hU:chT s.reverse (m+1)=V.reverse:=by rw [← hV,List.reverse_reverse]
 rw [hL] at A hA e1
 rw [hV] at B hB
 rw [hU] at e2
 have rg:s.reverse.getD m (0,0)=s.getD 0 (0,0):=by rw [DK s (by omega),hm];simp
 rw [rg] at hB
 obtain ⟨p,hp⟩:∃ p,s.getD 0 (0,0)=p:=⟨_,rfl⟩
 obtain ⟨q,hq⟩:∃ q,s.getD m (0,0)=q:=⟨_,rfl⟩
 rw [hp] at hB
 rw [hq] at hA
 -- the lower path
 have hLne:L≠[]:=λ e=>by subst e;simp at hA
 obtain ⟨p',lo,rfl⟩:∃ p' lo,L=p'::lo:=by
  cases L with
  | nil=>exact absurd rfl hLne
  | cons a t=>exact ⟨a,t,rfl⟩
 have lowL:=A.low p' (by rw [List.getLast?_reverse];rfl)
 have mem0:p ∈ s:=by rw [← hp];simp [List.getD,show 0<s.length by omega]
 have memm:q ∈ s:=by rw [← hq];simp [List.getD,show m<s.length by omega]
 have sorted:∀ i j,i<j->j<s.length->AO (s.getD i (0,0)) (s.getD j (0,0))=true:=λ i j hij hj=>by
  have:=List.pairwise_iff_getElem.1 hs i j (by omega) hj hij
  simpa [List.getD,hj,show i<s.length by omega] using this
 have memp' : p' ∈ s:=A.mem p' (by simp)
 have idx:∀ x,x ∈ s->∃ i,i<s.length/\x=s.getD i (0,0):=λ x hx=>by
  obtain ⟨i,hi,rfl⟩:=List.getElem_of_mem hx
  exact ⟨i,hi,by simp [List.getD,hi]⟩
 have hpp:p'=p:=by
  rcases lowL p mem0 with h|h
  ·exact h.symm
  ·obtain ⟨i,hi,e⟩:=idx p' memp'
   by_cases h0:i=0
   ·subst h0;rw [e,hp]
   ·have:=sorted 0 i (by omega) hi
    rw [hp,← e] at this
    rw [Ad] at h this;omega
 subst hpp
 have lastL:(p'::lo).getLast (by simp)=q:=by
  have h:=hA
  rw [List.head?_reverse,List.getLast?_eq_some_getLast (by simp)] at h
  exact Option.some.inj h
 -- the upper path
 obtain ⟨up,rfl⟩:∃ up,V=p'::up:=by
  cases V with
  | nil=>simp at hB
  | cons a t=>exact ⟨t,by rw [List.head?_cons] at hB;rw [Option.some.inj hB]⟩
 have lastU:(p'::up).getLast (by simp)=q:=by
  have h:=B.low ((p'::up).getLast (by simp)) (List.getLast?_eq_some_getLast (by simp))
  have hmem:(p'::up).getLast (by simp) ∈ s:=B.mem _ (List.getLast_mem _)
  rcases h q memm with h|h
  ·exact h.symm
  ·obtain ⟨i,hi,e⟩:=idx _ hmem
   rw [e] at h ⊢
   by_cases h0:i=m
   ·subst h0;exact hq
   ·have:=sorted i m (by omega) (by omega)
    rw [hq] at this
    rw [Ad] at h this;omega
 have hlow:∀ x,x ∈ s->p'.1<=x.1:=λ x hx=>by
  rcases lowL x hx with rfl|h
  ·exact Int.le_refl _
  ·rw [Ad] at h;omega
 have hhigh:∀ x,x ∈ s->x.1<=q.1:=λ x hx=>by
  obtain ⟨i,hi,e⟩:=idx x hx
  by_cases h0:i=m
  ·subst h0;rw [e,hq];exact Int.le_refl _
  ·have:=sorted i m (by omega) (by omega)
   rw [hq,← e] at this
   rw [Ad] at this;omega
 have edA:=Jv A.edge
 rw [List.reverse_reverse] at edA
 have band:Band (λ x=>x ∈ s) p' q lo up:=by
  refine ⟨hlow q memm,edA.imp λ a b h=>?_,lastL,λ x hx=>A.mem x (List.mem_reverse.2 hx),edA.imp λ a b h=>h.2,FB (λ a b h=>?_) B.edge,lastU,λ x hx=>B.mem x hx,FB (λ a b h=>?_) B.edge,hlow,hhigh⟩
  ·have:AO a b=true:=h.1
   rw [Ad] at this
   unfold up1;omega
  ·have:AO b a=true:=h.1
   rw [Ad] at this
   unfold up1;omega
  ·intro x hx
   have:=h.2 x hx
   rw [RU a b];omega
 have ecL:Dc (p'::lo)++[q]=p'::lo:=by
  unfold Dc
  rw [← List.dropLast_eq_take,← lastL]
  exact List.dropLast_concat_getLast (by simp)
 have ecU:Dc (p'::up).reverse++[p']=(p'::up).reverse:=by
  unfold Dc
  rw [← List.dropLast_eq_take]
  have:(p'::up).reverse.getLast (by simp)=p':=by simp
  conv=>lhs;rw [← this]
  rw [this]
  have h:=List.dropLast_concat_getLast (l:=(p'::up).reverse) (by simp)
  rwa [this] at h
 refine ⟨p',q,lo,up,band,?_,λ h2=>?_⟩
 ·rw [e1,e2,← LK,List.append_assoc,ecU]
  obtain ⟨u',hu'⟩:∃ u',(p'::up).reverse=q::u':=by
   have hne:(p'::up).reverse≠[]:=by simp
   refine ⟨(p'::up).reverse.tail,?_⟩
   have hh:(p'::up).reverse.head hne=q:=by rw [List.head_reverse];exact lastU
   conv=>lhs;rw [← List.cons_head_tail hne]
   rw [hh]
  rw [hu',LJ,ecL,← hu',PB]
  have h2:=PB p' q u'
  have h3:(q::u').getLast (by simp)=p':=by
   have:(p'::up).reverse.getLast (by simp)=p':=by simp
   simp only [hu'] at this
   exact this
  rw [hu',h2,h3,lastL,← hu',Ju]
  unfold D8
  omega
 ·have hpq:p'≠q:=λ e=>by
   have:=sorted 0 m (by omega) (by omega)
   rw [hp,hq,← e] at this
   rw [Ad] at this;omega
  have hhead:∃ t,AP s++AP s.reverse=p'::t:=by
   rw [e1]
   cases lo with
   | nil=>exact absurd (by simpa using lastL) hpq
   | cons a t=>exact ⟨(Dc (p'::a::t)).tail++AP s.reverse,by simp [Dc]⟩
  have pin:p' ∈ AP s++AP s.reverse:=by obtain ⟨t,ht⟩:=hhead;rw [ht];simp
  have qin:q ∈ AP s++AP s.reverse:=by
   rw [List.mem_append];right
   rw [e2]
   obtain ⟨u',hu'⟩:∃ u',(p'::up).reverse=q::u':=by
    have hne:(p'::up).reverse≠[]:=by simp
    refine ⟨(p'::up).reverse.tail,?_⟩
    have hh:(p'::up).reverse.head hne=q:=by rw [List.head_reverse];exact lastU
    conv=>lhs;rw [← List.cons_head_tail hne]
    rw [hh]
   have h3:(q::u').getLast (by simp)=p':=by
    have:(p'::up).reverse.getLast (by simp)=p':=by simp
    simp only [hu'] at this
    exact this
   rw [hu']
   cases u' with
   | nil=>exact absurd (by simpa using h3.symm) hpq
   | cons a t=>simp [Dc]
  refine ⟨hhead,λ x hx=>?_,λ x hx=>?_⟩
  ·rw [← ecL] at hx
   rcases List.mem_append.1 hx with hx|hx
   ·rw [List.mem_append,e1];exact .inl hx
   ·rw [List.mem_singleton.1 hx];exact qin
  ·have hx:x ∈ (p'::up).reverse:=List.mem_reverse.2 hx
   rw [← ecU] at hx
   rcases List.mem_append.1 hx with hx|hx
   ·rw [List.mem_append,e2];exact .inr hx
   ·rw [List.mem_singleton.1 hx];exact pin
theorem Ring.congr {S T:V2->Prop} {h:List V2} (r:Ring S h) (e:∀ x,S x↔T x):Ring T h where
 mem:=λ i hi=>(e _).1 (r.mem i hi)
 ext:=λ i hi x y hx hy h1 h2 h3=>r.ext i hi x y ((e _).2 hx) ((e _).2 hy) h1 h2 h3
 side:=λ i hi x hx=>r.side i hi x ((e _).2 hx)
 inj:=r.inj
theorem Band.congr {S T:V2->Prop} {p q:V2} {lo up:List V2} (B:Band S p q lo up) (e:∀ x,S x↔T x):Band T p q lo up where
 ends:=B.ends
 lo1:=B.lo1
 lo2:=B.lo2
 lo3:=λ x hx=>(e _).1 (B.lo3 x hx)
 lo4:=B.lo4.imp λ a b h x hx=>h x ((e _).2 hx)
 up1':=B.up1'
 up2:=B.up2
 up3:=λ x hx=>(e _).1 (B.up3 x hx)
 up4:=B.up4.imp λ a b h x hx=>h x ((e _).2 hx)
 low:=λ x hx=>B.low x ((e _).2 hx)
 high:=λ x hx=>B.high x ((e _).2 hx)
def Jw (h:List V2):Int:=fan (h.getD 0 (0,0)) h
structure HullOk (S:V2->Prop) (h:List V2):Prop where
 ring:Ring S h
 three:3<=h.length
 band:∃ p q lo up,Band S p q lo up/\Jw h=D8 p lo up/\(∀ x ∈ p::lo,x ∈ h)/\∀ x ∈ p::up,x ∈ h
theorem Gp {l:List V2} (hv:l.all AE=true) (h64:l.length<=64) {x y z:V2} (hx:x ∈ l) (hy:y ∈ l) (hz:z ∈ l) (ht:0<AC x y z):HullOk (λ v=>v ∈ l) (Ak l):=by
 have e:Ak l=J2 (AZ l l.length):=Gt h64 hv
 obtain ⟨s,hs⟩:∃ s,AZ l l.length=s:=⟨_,rfl⟩
 have up:upV s:=by rw [← hs];exact LV _ _
 have mem:∀ v,v ∈ s↔v ∈ l:=λ v=>by rw [← hs,Ef _ v _ (Nat.le_refl _),List.take_length]
 have nxy:x≠y:=by rintro rfl;unfold AC at ht;grind
 have nxz:x≠z:=by rintro rfl;unfold AC at ht;grind
 have nyz:y≠z:=by rintro rfl;unfold AC at ht;grind
 have h3:3<=s.length:=by
  have:=List.Nodup.length_le_of_subset (l₁:=[x,y,z]) (l₂:=s) (by simp [nxy,nxz,nyz]) (λ v hv=>by
   simp only [List.mem_cons,List.not_mem_nil,or_false] at hv
   rcases hv with rfl|rfl|rfl
   ·exact (mem _).2 hx
   ·exact (mem _).2 hy
   ·exact (mem _).2 hz)
  simpa using this
 rw [e,hs,Gu (by omega)]
 obtain ⟨r,r2,r3⟩:=QR up (by omega)
 obtain ⟨p,q,lo,u,B,hf,hhd⟩:=RV up (by omega)
 obtain ⟨⟨t,ht'⟩,m1,m2⟩:=hhd (by omega)
 refine ⟨r.congr mem,?_,p,q,lo,u,B.congr mem,?_,m1,m2⟩
 ·by_cases h2:(AP s++AP s.reverse).length=2
  ·have hh:=r3 h2
   have hne:s.getD 0 (0,0)≠s.getD (s.length-1) (0,0):=by
    have:=List.pairwise_iff_getElem.1 up 0 (s.length-1) (by omega) (by omega) (by omega)
    have e1:s.getD 0 (0,0)=s[0]:=by simp [List.getD,show 0<s.length by omega]
    have e2:s.getD (s.length-1) (0,0)=s[s.length-1]:=by simp [List.getD,show s.length-1<s.length by omega]
    rw [e1,e2]
    exact Ch this
   have:=N1 hne (hh x ((mem _).2 hx)) (hh y ((mem _).2 hy)) (hh z ((mem _).2 hz))
   omega
  ·omega
 ·unfold Jw
  rw [← hf,ht']
  rfl
theorem Band.restrict {S T:V2->Prop} {p q:V2} {lo up:List V2} (B:Band S p q lo up) (e:∀ x,T x->S x) (h1:∀ x ∈ p::lo,T x) (h2:∀ x ∈ p::up,T x):Band T p q lo up where
 ends:=B.ends
 lo1:=B.lo1
 lo2:=B.lo2
 lo3:=h1
 lo4:=B.lo4.imp λ a b h x hx=>h x (e _ hx)
 up1':=B.up1'
 up2:=B.up2
 up3:=h2
 up4:=B.up4.imp λ a b h x hx=>h x (e _ hx)
 low:=λ x hx=>B.low x (e _ hx)
 high:=λ x hx=>B.high x (e _ hx)
theorem DH {R Q:V2->V2->Prop} {f:V2->V2} (h:∀ a b,R a b->Q (f a) (f b)):∀ {l:List V2},pairsP R l->pairsP Q (l.map f)
 | [],_=>trivial
 | [_],_=>trivial
 | a::b::r,⟨h1,h2⟩=>⟨h a b h1,DH h (l:=b::r) h2⟩
theorem LL (t a b x:V2):AC (CU t a) (CU t b) (CU t x)=AC a b x:=by unfold AC CU;grind
theorem F8 (t:V2):∀ (a:V2) (l:List V2),Ap ((a::l).map (CU t))=Ap (a::l)+2*t.2*(((a::l).getLast (by simp)).1-a.1)
 | a,[]=>by simp [Ap]
 | a,b::r=>by
  have ih:=F8 t b r
  rw [List.getLast_cons (by simp)]
  simp only [List.map_cons,Ap] at ih ⊢
  rw [ih]
  unfold trI CU
  grind
theorem Band.shift {S T:V2->Prop} {p q:V2} {lo up:List V2} (B:Band S p q lo up) (t:V2) (e:∀ x,T x↔∃ y,S y/\x=CU t y):Band T (CU t p) (CU t q) (lo.map (CU t)) (up.map (CU t))/\D8 (CU t p) (lo.map (CU t)) (up.map (CU t))=D8 p lo up:=by
 have cm:∀ l:List V2,CU t p::l.map (CU t)=(p::l).map (CU t):=λ l=>rfl
 have gl:∀ l:List V2,(CU t p::l.map (CU t)).getLast (by simp)=CU t ((p::l).getLast (by simp)):=λ l=>by
  have:=List.getLast_map (f:=CU t) (l:=p::l) (by simp)
  simpa using this
 refine ⟨⟨?_,DH (λ a b h=>?_) B.lo1,?_,λ x hx=>?_,DH (λ a b h=>?_) B.lo4,DH (λ a b h=>?_) B.up1',?_,λ x hx=>?_,DH (λ a b h=>?_) B.up4,λ x hx=>?_,λ x hx=>?_⟩,?_⟩
 ·have:=B.ends;simp only [CU];omega
 ·unfold up1 at h ⊢;simp only [CU];omega
 ·rw [gl,B.lo2]
 ·rw [cm] at hx
  obtain ⟨y,hy,rfl⟩:=List.mem_map.1 hx
  exact (e _).2 ⟨y,B.lo3 y hy,rfl⟩
 ·intro x hx
  obtain ⟨y,hy,rfl⟩:=(e _).1 hx
  rw [LL];exact h y hy
 ·unfold up1 at h ⊢;simp only [CU];omega
 ·rw [gl,B.up2]
 ·rw [cm] at hx
  obtain ⟨y,hy,rfl⟩:=List.mem_map.1 hx
  exact (e _).2 ⟨y,B.up3 y hy,rfl⟩
 ·intro x hx
  obtain ⟨y,hy,rfl⟩:=(e _).1 hx
  rw [LL];exact h y hy
 ·obtain ⟨y,hy,rfl⟩:=(e _).1 hx
  have:=B.low y hy;simp only [CU];omega
 ·obtain ⟨y,hy,rfl⟩:=(e _).1 hx
  have:=B.high y hy;simp only [CU];omega
 ·unfold D8
  rw [cm,cm,F8,F8,B.lo2,B.up2]
  omega
theorem Band.area {S:V2->Prop} {h:List V2} (H:HullOk S h) {T:V2->Prop} (e:∀ x,T x->S x) (e2:∀ x ∈ h,T x):∃ p q lo up,Band T p q lo up/\Jw h=D8 p lo up:=by
 obtain ⟨p,q,lo,up,B,hd,m1,m2⟩:=H.band
 exact ⟨p,q,lo,up,B.restrict e (λ x hx=>e2 x (m1 x hx)) (λ x hx=>e2 x (m2 x hx)),hd⟩
theorem RW {S S' : V2->Prop} {h h' : List V2} (H:HullOk S h) (H' : HullOk S' h') (e:∀ x ∈ h',S x):Jw h'<=Jw h:=by
 obtain ⟨p,q,lo,up,B,hd,-,-⟩:=H.band
 obtain ⟨p',q',lo',up',B',hd'⟩:=Band.area H' (T:=λ x=>x ∈ h') (λ x hx=>by
  obtain ⟨i,hi,rfl⟩:=List.getElem_of_mem hx
  have:=H'.ring.mem i hi
  simpa [List.getD,hi] using this) (λ x hx=>hx)
 rw [hd,hd']
 exact B.mono B' e
theorem L8 (o:V2):∀ l:List V2,∀ n,n+1=l.length->fan o l=((List.range n).map λ i=>AC o (l.getD i (0,0)) (l.getD (i+1) (0,0))).sum
 | [],n,h=>by simp at h
 | [a],n,h=>by
  obtain rfl:n=0:=by simpa using h
  simp [fan]
 | a::b::r,0,h=>by simp at h
 | a::b::r,n+1,h=>by
  have ih:=L8 o (b::r) n (by simpa using h)
  rw [List.range_succ_eq_map,List.map_cons,List.sum_cons,List.map_map]
  simp only [fan,ih]
  rfl
theorem Un {l:List V2} (h:AJ l=true):0<Jw l:=by
 obtain ⟨⟨h3,-⟩,-,hs⟩:=BT.1 h
 match l,h3,hs with
 | a::b::c::r,h3,hs=>
  have e:=L8 a (a::b::c::r) (r.length+2) (by simp)
  unfold Jw
  simp only [List.getD_cons_zero]
  rw [e]
  have hpos:∀ i,i<r.length+2->0<=AC a ((a::b::c::r).getD i (0,0)) ((a::b::c::r).getD (i+1) (0,0))/\(i=1->0<AC a ((a::b::c::r).getD i (0,0)) ((a::b::c::r).getD (i+1) (0,0))):=by
   intro i hi
   have hm:(i+1)%(a::b::c::r).length=i+1:=Nat.mod_eq_of_lt (by simp;omega)
   by_cases h0:i=0
   ·subst h0
    refine ⟨?_,by omega⟩
    simp only [List.getD_cons_zero]
    rw [show AC a a _=0 by unfold AC;grind]
    exact Int.le_refl _
   ·have:=hs i 0 (by simp;omega) (by simp) (by omega) (by rw [hm];omega)
    rw [hm] at this
    simp only [List.getD_cons_zero] at this
    have e2:∀ u v:V2,AC a u v=AC u v a:=λ u v=>by unfold AC;grind
    rw [e2]
    exact ⟨Int.le_of_lt this,λ _=>this⟩
  have sum_nn:∀ (n:Nat) (f:Nat->Int),(∀ i,i<n->0<=f i)->∀ j,j<n->f j<=((List.range n).map f).sum:=by
   intro n
   induction n with
   | zero=>intro f _ j hj;omega
   | succ n ih=>
    intro f hf j hj
    rw [List.range_succ,List.map_append,List.sum_append]
    simp only [List.map_cons,List.map_nil,List.sum_cons,List.sum_nil,Int.add_zero]
    have hn:=hf n (by omega)
    by_cases e:j=n
    ·subst e
     have:0<=((List.range j).map f).sum:=by
      by_cases h0:j=0
      ·subst h0;simp
      ·have:=ih f (λ i hi=>hf i (by omega)) 0 (by omega)
       have:=hf 0 (by omega)
       omega
     omega
    ·have:=ih f (λ i hi=>hf i (by omega)) j (by omega)
     omega
  have:=sum_nn (r.length+2) (λ i=>AC a ((a::b::c::r).getD i (0,0)) ((a::b::c::r).getD (i+1) (0,0))) (λ i hi=>(hpos i hi).1) 1 (by omega)
  have h1:=(hpos 1 (by omega)).2 rfl
  exact Int.lt_of_lt_of_le h1 this
end Go.Proofs.Ytndnhlhnjiopfaa
