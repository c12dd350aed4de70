import Derived.Test.YtkffpiaagjcmpaaGreatEvHus
namespace Go.Proofs.YtkffpiaagjcmpaaGreat
set_option linter.unusedVariables false
set_option linter.unusedSimpArgs false
theorem Te {u1 u2 w1 w2 z1 z2:Int} (hu:0<u1∨(u1=0/\0<u2)) (hw:0<w1∨(w1=0/\0<w2)) (hz:0<z1∨(z1=0/\0<=z2)) (h1:0<=u1*w2-u2*w1) (h2:0<=w1*z2-w2*z1):0<=u1*z2-u2*z1:=by
 have hu0:0<=u1:=by omega
 have hz0:0<=z1:=by omega
 rcases hw with hw|⟨rfl,hw⟩
 ·have e:w1*(u1*z2-u2*z1)=z1*(u1*w2-u2*w1)+u1*(w1*z2-w2*z1):=by grind
  have h3:0<=w1*(u1*z2-u2*z1):=by rw [e];exact Int.add_nonneg (Int.mul_nonneg hz0 h1) (Int.mul_nonneg hu0 h2)
  exact Int.nonneg_of_mul_nonneg_right h3 hw
 ·have hz1:z1=0:=by
   rcases hz with hz|hz
   ·have:=Int.mul_pos hw hz;omega
   ·exact hz.1
  subst hz1
  have:0<=u1*z2:=Int.mul_nonneg hu0 (by omega)
  omega
theorem Of {z a b v:V2} (h1:Ac z a=true) (h2:Ac a b=true) (h3:Ac b v=true) (h4:0<AH z a b) (h5:0<AH a b v):0<AH z a v:=by
 rw [BV] at h1 h2 h3
 have:=Te (u1:=a.1-z.1) (u2:=a.2-z.2) (w1:=b.1-a.1) (w2:=b.2-a.2) (z1:=v.1-b.1) (z2:=v.2-b.2) (by omega) (by omega) (by omega) (by unfold AH at h4;grind) (by unfold AH at h5;grind)
 unfold AH at *
 grind
structure OrdG (lt:V2->V2->Prop):Prop where
 trans:∀ {a b c},lt a b->lt b c->lt a c
 irr:∀ a,¬ lt a a
 tri:∀ a b,lt a b∨a=b∨lt b a
 high:∀ {c b v x},lt c b->lt c v->(x=c∨lt c x)->AH c b v<=0->0<=AH c b x->0<=AH c v x
 next:∀ {z a b v},lt z a->lt a b->lt b v->0<AH z a b->0<AH a b v->0<AH z a v
 low:∀ {a b v x},lt a b->lt b v->lt x b->0<=AH a b x->0<AH a b v->0<=AH b v x
theorem Ab:OrdG (λ a b=>Ac a b=true) where
 trans:=λ h h'=>by rw [BV] at *;omega
 irr:=λ a h=>by rw [BV] at h;omega
 tri:=λ a b=>by
  simp only [BV]
  rcases a with ⟨a1,a2⟩;rcases b with ⟨b1,b2⟩
  simp only [Prod.mk.injEq]
  omega
 high:=λ {c b v x} h1 h2 h3 h4 h5=>by
  have h3:0<x.1-c.1∨(x.1-c.1=0/\0<=x.2-c.2):=by
   rcases h3 with rfl|h3
   ·omega
   ·rw [BV] at h3;omega
  rw [BV] at h1 h2
  exact Te (u1:=v.1-c.1) (u2:=v.2-c.2) (w1:=b.1-c.1) (w2:=b.2-c.2) (by omega) (by omega) h3 (by unfold AH at h4;grind) h5
 next:=Of
 low:=λ {a b v x} h1 h2 h3 h4 h5=>by
  rw [BV] at h1 h2 h3
  have:=Te (u1:=b.1-x.1) (u2:=b.2-x.2) (w1:=b.1-a.1) (w2:=b.2-a.2) (z1:=v.1-b.1) (z2:=v.2-b.2) (by omega) (by omega) (by omega) (by unfold AH at h4;grind) (by unfold AH at h5;grind)
  unfold AH
  grind
theorem Hw:OrdG (λ a b=>Ac b a=true):=by
 have hn:∀ a b:V2,Ac b a=true↔Ac (-a.1,-a.2) (-b.1,-b.2)=true:=λ a b=>by simp only [BV];omega
 have ht:∀ a b c:V2,AH (-a.1,-a.2) (-b.1,-b.2) (-c.1,-c.2)=AH a b c:=λ a b c=>by simp only [AH];grind
 refine ⟨λ h h'=>Ab.trans h' h,λ a h=>Ab.irr a h,λ a b=>?_,λ h1 h2 h3 h4 h5=>?_,λ h1 h2 h3 h4 h5=>?_,λ h1 h2 h3 h4 h5=>?_⟩
 ·rcases Ab.tri a b with h|h|h
  ·exact .inr (.inr h)
  ·exact .inr (.inl h)
  ·exact .inl h
 ·rw [hn] at h1 h2
  rw [← ht] at h4 h5 ⊢
  refine Ab.high h1 h2 ?_ h4 h5
  rcases h3 with rfl|h3
  ·exact .inl rfl
  ·exact .inr ((hn _ _).1 h3)
 ·rw [hn] at h1 h2 h3
  rw [← ht] at h4 h5 ⊢
  exact Of h1 h2 h3 h4 h5
 ·rw [hn] at h1 h2 h3
  rw [← ht] at h4 h5 ⊢
  exact Ab.low h1 h2 h3 h4 h5
def KM (v:V2):List V2->List V2
 | b::a::t=>if AH a b v<=0 then KM v (a::t) else b::a::t
 | l=>l
theorem Rq (v:V2):∀ st:List V2,B0 st.reverse v=(KM v st).reverse
 | []=>by rw [Cp (by simp)];rfl
 | [b]=>by rw [Cp (by simp)];rfl
 | b::a::t=>by
  have e1:(b::a::t).reverse.getD ((b::a::t).reverse.length-2) (0,0)=a:=by
   simp [List.getD]
  have e2:(b::a::t).reverse.getD ((b::a::t).reverse.length-1) (0,0)=b:=by
   simp [List.getD]
  have e3:(b::a::t).reverse.take ((b::a::t).reverse.length-1)=(a::t).reverse:=by
   have:t.reverse.length=t.length:=List.length_reverse
   simp [List.take_append,List.take_of_length_le]
  unfold KM
  by_cases h:AH a b v<=0
  ·rw [if_pos h,← JF (by simp) (by rw [e1,e2];exact h),e3,Rq v (a::t)]
  ·rw [if_neg h,Cp (by rw [e1,e2];exact λ q=>h q.2)]
def Yl (lt:V2->V2->Prop) (S:V2->Prop) (a b:V2):Prop:=lt a b/\∀ x,S x->0<=AH a b x
def G4 (R:V2->V2->Prop):List V2->Prop
 | b::a::t=>R a b/\G4 R (a::t)
 | _=>True
def KN:List V2->Prop
 | b::a::z::t=>0<AH z a b/\KN (a::z::t)
 | _=>True
theorem Rr {b:V2} {t:List V2} (h:KN (b::t)):KN t:=by
 match t,h with
 | [],_=>trivial
 | [a],_=>trivial
 | a::z::t,h=>exact h.2
structure Stk (lt:V2->V2->Prop) (S:V2->Prop) (st:List V2):Prop where
 ne:st≠[]
 mem:∀ v ∈ st,S v
 edge:G4 (Yl lt S) st
 left:KN st
 low:∀ b,st.getLast?=some b->∀ x,S x->x=b∨lt b x
theorem Stk.pop {lt:V2->V2->Prop} (G:OrdG lt) {S:V2->Prop} {v:V2} (hv:∀ x,S x->lt x v):∀ st:List V2,Stk lt S st->(∀ b t,st=b::t->∀ x,S x->(x=b∨lt b x)->0<=AH b v x) ->
  Stk lt S (KM v st)/\(∀ b t,KM v st=b::t->∀ x,S x->(x=b∨lt b x)->0<=AH b v x)/\(∀ b a t,KM v st=b::a::t->0<AH a b v)
 | [],h,hH=>⟨h,hH,λ b a t e=>by simp [KM] at e⟩
 | [b],h,hH=>⟨h,hH,λ b a t e=>by simp [KM] at e⟩
 | b::a::t,h,hH=>by
  unfold KM
  by_cases hc:AH a b v<=0
  ·rw [if_pos hc]
   refine Stk.pop G hv (a::t) ⟨by simp,λ x hx=>h.mem x (List.mem_cons_of_mem _ hx),h.edge.2,Rr h.left,λ q hq=>h.low q (by rw [List.getLast?_cons_cons];exact hq)⟩ ?_
   intro a' t' e x hx hle
   cases e
   exact G.high h.edge.1.1 (hv _ (h.mem _ (by simp))) hle hc (h.edge.1.2 x hx)
  ·rw [if_neg hc]
   refine ⟨h,hH,λ b' a' t' e=>?_⟩
   cases e
   omega
theorem Ur {lt:V2->V2->Prop} (G:OrdG lt) {S:V2->Prop} {v:V2} : ∀ (t:List V2) (a b:V2),G4 (Yl lt S) (b::a::t)->KN (b::a::t)->lt b v->0<AH a b v->G4 (λ a b=>0<=AH a b v) (b::a::t)
 | [],a,b,h1,h2,h3,h4=>⟨by omega,trivial⟩
 | z::t,a,b,h1,h2,h3,h4=>by
  refine ⟨by omega,Ur G t z a h1.2 h2.2 (G.trans h1.1.1 h3) (G.next h1.2.1.1 h1.1.1 h3 h2.1 h4)⟩
theorem Og {R Q T:V2->V2->Prop} (h:∀ a b,R a b->Q a b->T a b):∀ st,G4 R st->G4 Q st->G4 T st
 | [],_,_=>trivial
 | [b],_,_=>trivial
 | b::a::t,h1,h2=>⟨h a b h1.1 h2.1,Og h (a::t) h1.2 h2.2⟩
theorem WF (b v:V2):AH b v b=0:=by unfold AH;grind
theorem M6 (b v:V2):AH b v v=0:=by unfold AH;grind
theorem Stk.push {lt:V2->V2->Prop} (G:OrdG lt) {S:V2->Prop} {v:V2} (hv:∀ x,S x->lt x v) {st:List V2} (h:Stk lt S st) (hm:∀ b t,st=b::t->∀ x,S x->x=b∨lt x b):Stk lt (λ x=>S x∨x=v) (v::KM v st):=by
 obtain ⟨h1,h2,h3⟩:=h.pop G hv st (λ b t e x hx hle=>by
  have hxb:x=b:=by
   rcases hle with e' | hl
   ·exact e'
   ·rcases hm b t e x hx with e' | hl'
    ·exact e'
    ·exact absurd (G.trans hl hl') (G.irr _)
  rw [hxb,WF];exact Int.le_refl 0)
 have hall:∀ b t,KM v st=b::t->∀ x,S x->0<=AH b v x:=by
  intro b t e x hx
  rcases G.tri x b with hl|he|hl
  ·cases t with
   | nil=>
    exfalso
    rcases h1.low b (by rw [e];rfl) x hx with e' | hl'
    ·exact G.irr _ (e' ▸ hl)
    ·exact G.irr _ (G.trans hl hl')
   | cons a t=>
    have he:=h1.edge
    rw [e] at he
    exact G.low he.1.1 (hv b (h1.mem b (by rw [e];simp))) hl (he.1.2 x hx) (h3 b a t e)
  ·exact h2 b t e x hx (.inl he)
  ·exact h2 b t e x hx (.inr hl)
 match hs:KM v st,h1,h2,h3,hall with
 | [],h1,_,_,_=>exact absurd rfl h1.ne
 | [b],h1,_,_,hall=>
  have hlt:=hv b (h1.mem b (by simp))
  refine ⟨by simp,λ x hx=>?_,⟨⟨hlt,λ x hx=>?_⟩,trivial⟩,trivial,λ q hq x hx=>?_⟩
  ·rcases List.mem_cons.1 hx with e|hx
   ·exact .inr e
   ·exact .inl (h1.mem x hx)
  ·rcases hx with hx|rfl
   ·exact hall b [] rfl x hx
   ·rw [M6];exact Int.le_refl 0
  ·rcases hx with hx|rfl
   ·exact h1.low q hq x hx
   ·have:b=q:=by simpa using hq
    exact .inr (this ▸ hlt)
 | b::a::t,h1,h2,h3,hall=>
  have hlt:=hv b (h1.mem b (by simp))
  have hp:=Ur G t a b h1.edge h1.left hlt (h3 b a t rfl)
  refine ⟨by simp,λ x hx=>?_,⟨⟨hlt,λ x hx=>?_⟩,?_⟩,⟨h3 b a t rfl,h1.left⟩,λ q hq x hx=>?_⟩
  ·rcases List.mem_cons.1 hx with e|hx
   ·exact .inr e
   ·exact .inl (h1.mem x hx)
  ·rcases hx with hx|rfl
   ·exact hall b _ rfl x hx
   ·rw [M6];exact Int.le_refl 0
  ·refine Og (λ a b h h'=>⟨h.1,λ x hx=>?_⟩) _ h1.edge hp
   rcases hx with hx|rfl
   ·exact h.2 x hx
   ·exact h'
  ·rcases hx with hx|rfl
   ·exact h1.low q (by rw [List.getLast?_cons_cons] at hq;exact hq) x hx
   ·rw [List.getLast?_cons_cons] at hq
    have hq:=List.mem_of_getLast? hq
    exact .inr (hv q (h1.mem q (by first|exact hq|(rw [hs];exact hq))))
theorem Pn {lt : V2 → V2 → Prop} (G : OrdG lt) {l : List V2} (hl : l.Pairwise lt) : ∀ k, k + 1 ≤ l.length → Stk lt (fun x => x ∈ l.take (k + 1)) (chT l (k + 1)).reverse ∧ (chT l (k + 1)).reverse.head? = some (l.getD k (0, 0))
  | 0, hk => by
    have e : l.take 1 = [l.getD 0 (0, 0)] := by
      cases l with
      | nil => simp at hk
      | cons a t => simp
    have e1 : chT l 1 = [l.getD 0 (0, 0)] := by
      show B0 [] _ ++ _ = _
      rw [Cp (by simp)]; rfl
    rw [e, e1]
    refine ⟨⟨by simp, fun v hv => by simpa using hv, trivial, trivial, fun b hb x hx => .inl ?_⟩, rfl⟩
    have hb : l.getD 0 (0, 0) = b := by simpa using hb
    have hx : x = l.getD 0 (0, 0) := by simpa using hx
    rw [hx, hb]
  | k + 1, hk => by
    obtain ⟨ih, hd⟩ := Pn G hl k (by omega)
    have e : (chT l (k + 1 + 1)).reverse = l.getD (k + 1) (0, 0) :: KM (l.getD (k + 1) (0, 0)) (chT l (k + 1)).reverse := by
      have : chT l (k + 1) = (chT l (k + 1)).reverse.reverse := by simp
      show (B0 (chT l (k + 1)) _ ++ [_]).reverse = _
      rw [List.reverse_append]
      conv => lhs; rw [this, Rq]
      simp
    have hg : ∀ j, j < l.length → l[j]? = some (l.getD j (0, 0)) := fun j hj => by simp [List.getD, hj]
    have hlt : ∀ i j, i < j → j < l.length → lt (l.getD i (0, 0)) (l.getD j (0, 0)) := fun i j hij hj => by
      have := List.pairwise_iff_getElem.1 hl i j (by omega) hj hij
      simpa [List.getD, hj, show i < l.length by omega] using this
    have hmem : ∀ x m, x ∈ l.take m → m ≤ l.length → ∃ i, i < m ∧ x = l.getD i (0, 0) := fun x m hx hm => by
      obtain ⟨i, hi, rfl⟩ := List.getElem_of_mem hx
      have : i < m := by simp only [List.length_take] at hi; omega
      exact ⟨i, this, by simp [List.getD, show i < l.length by omega]⟩
    rw [e]
    refine ⟨?_, rfl⟩
    have := ih.push G (v := l.getD (k + 1) (0, 0)) (fun x hx => by
        obtain ⟨i, hi, rfl⟩ := hmem x _ hx (by omega)
        exact hlt i (k + 1) hi (by omega)) (fun b t e x hx => by
        rw [e] at hd
        have hd : b = l.getD k (0, 0) := by simpa using hd
        obtain ⟨i, hi, rfl⟩ := hmem x _ hx (by omega)
        by_cases hik : i = k
        · exact .inl (by rw [hd, hik])
        · exact .inr (hd ▸ hlt i k (by omega) (by omega)))
    have hS : (fun x => x ∈ l.take (k + 1 + 1)) = fun x => x ∈ l.take (k + 1) ∨ x = l.getD (k + 1) (0, 0) := by
      funext x
      have : l.take (k + 1 + 1) = l.take (k + 1) ++ [l.getD (k + 1) (0, 0)] := by
        rw [List.take_add_one (i := k + 1), hg _ (by omega)]; rfl
      rw [this]; simp
    rw [hS]; exact this
theorem M7 {R:V2->V2->Prop} : ∀ {st:List V2},G4 R st->∀ i,i+1<st.length->R (st.getD (i+1) (0,0)) (st.getD i (0,0))
 | [],_,i,hi=>absurd hi (by simp)
 | [b],_,i,hi=>absurd hi (by simp)
 | b::a::t,h,0,hi=>h.1
 | b::a::t,h,i+1,hi=>by
  have:=M7 h.2 i (by simpa using hi)
  simpa only [List.getD_cons_succ] using this
theorem M8:∀ {st:List V2},KN st->∀ i,i+2<st.length->0<AH (st.getD (i+2) (0,0)) (st.getD (i+1) (0,0)) (st.getD i (0,0))
 | [],_,i,hi=>absurd hi (by simp)
 | [b],_,i,hi=>absurd hi (by simp)
 | [b,a],_,i,hi=>absurd hi (by simp)
 | b::a::z::t,h,0,hi=>h.1
 | b::a::z::t,h,i+1,hi=>by
  have:=M8 (st:=a::z::t) h.2 i (by simpa using hi)
  simpa only [List.getD_cons_succ] using this
structure Chn (lt:V2->V2->Prop) (S:V2->Prop) (c:List V2):Prop where
 mem:∀ i,i<c.length->S (c.getD i (0,0))
 edge:∀ i,i+1<c.length->Yl lt S (c.getD i (0,0)) (c.getD (i+1) (0,0))
 left:∀ i,i+2<c.length->0<AH (c.getD i (0,0)) (c.getD (i+1) (0,0)) (c.getD (i+2) (0,0))
theorem GG (st:List V2) {i:Nat} (hi:i<st.length):st.reverse.getD i (0,0)=st.getD (st.length-1-i) (0,0):=by
 simp [List.getD,hi,show st.length-1-i<st.length by omega]
theorem Stk.chn {lt:V2->V2->Prop} {S:V2->Prop} {st:List V2} (h:Stk lt S st):Chn lt S st.reverse where
 mem:=λ i hi=>by
  rw [List.length_reverse] at hi
  rw [GG st hi]
  exact h.mem _ (by simp [List.getD,show st.length-1-i<st.length by omega])
 edge:=λ i hi=>by
  rw [List.length_reverse] at hi
  rw [GG st (by omega),GG st (by omega)]
  have:=M7 h.edge (st.length-1-(i+1)) (by omega)
  rwa [show st.length-1-(i+1)+1=st.length-1-i by omega] at this
 left:=λ i hi=>by
  rw [List.length_reverse] at hi
  rw [GG st (by omega),GG st (by omega),GG st (by omega)]
  have:=M8 h.left (st.length-1-(i+2)) (by omega)
  rwa [show st.length-1-(i+2)+1=st.length-1-(i+1) by omega,show st.length-1-(i+2)+2=st.length-1-i by omega] at this
theorem Chn.lt {lt:V2->V2->Prop} (G:OrdG lt) {S:V2->Prop} {c:List V2} (h:Chn lt S c) (i:Nat):∀ d,i+d+1<c.length->lt (c.getD i (0,0)) (c.getD (i+d+1) (0,0))
 | 0,hd=>(h.edge i hd).1
 | d+1,hd=>G.trans (h.lt G i d (by omega)) (h.edge (i+d+1) hd).1
theorem Chn.lt' {lt:V2->V2->Prop} (G:OrdG lt) {S:V2->Prop} {c:List V2} (h:Chn lt S c) {i j:Nat} (hij:i<j) (hj:j<c.length):lt (c.getD i (0,0)) (c.getD j (0,0)):=by
 have:=h.lt G i (j-i-1) (by omega)
 rwa [show i+(j-i-1)+1=j by omega] at this
theorem WG {u1 u2 w1 w2 p1 p2 q1 q2:Int} (h1:0<=u1*p2-u2*p1) (h2:0<=u1*q2-u2*q1) (h3:0<=w1*p2-w2*p1) (h4:0<=w1*q2-w2*q1) (h5:0<u1*w2-u2*w1) (h6:p1*q2=p2*q1) (hp:p1<0∨(p1=0/\p2<0)) (hq:0<q1∨(q1=0/\0<q2)):False:=by
 rcases hp with hp|⟨rfl,hp⟩
 ·have hq1:0<q1:=by
   rcases hq with h|⟨h,h'⟩
   ·exact h
   ·subst h
    have:=Int.mul_neg_of_neg_of_pos hp h'
    omega
  have key:∀ a b:Int,0<=a*p2-b*p1->0<=a*q2-b*q1->a*p2-b*p1=0:=λ a b k1 k2=>by
   have e:(a*q2-b*q1)*p1=q1*(a*p2-b*p1):=by grind
   have k3:(a*q2-b*q1)*p1<=0:=Int.mul_nonpos_of_nonneg_of_nonpos k2 (by omega)
   rw [e] at k3
   by_cases hz:0<a*p2-b*p1
   ·have:=Int.mul_pos hq1 hz;omega
   ·omega
  have k1:=key _ _ h1 h2
  have k2:=key _ _ h3 h4
  have e:(u1*w2-u2*w1)*p1=(u1*p2-u2*p1)*w1-(w1*p2-w2*p1)*u1:=by grind
  rw [k1,k2] at e
  have:=Int.mul_neg_of_pos_of_neg h5 hp
  omega
 ·have hq1:q1=0:=by
   have h6:p2*q1=0:=by omega
   rcases Int.mul_eq_zero.1 h6 with h|h
   ·omega
   ·exact h
  subst hq1
  have hq2:0<q2:=by omega
  have key:∀ a:Int,0<=a*p2->0<=a*q2->a=0:=λ a k1 k2=>by
   by_cases ha:0<a
   ·have:=Int.mul_neg_of_pos_of_neg ha hp;omega
   ·by_cases ha' : a<0
    ·have:=Int.mul_neg_of_neg_of_pos ha' hq2;omega
    ·omega
  have k1:=key u1 (by omega) (by omega)
  have k2:=key w1 (by omega) (by omega)
  subst k1;subst k2
  omega
def M9 (S:V2->Prop) (r:V2):Prop:=∀ x y,S x->S y->Ac x r=true->Ac r y=true->AH x r y=0->False
theorem AAS {S:V2->Prop} {a r b:V2} (h1:∀ x,S x->0<=AH a r x) (h2:∀ x,S x->0<=AH r b x) (h3:0<AH a r b):M9 S r:=by
 intro x y hx hy hl hr h0
 rw [BV] at hl hr
 have a1:=h1 x hx
 have a2:=h1 y hy
 have a3:=h2 x hx
 have a4:=h2 y hy
 unfold AH at *
 exact WG (u1:=r.1-a.1) (u2:=r.2-a.2) (w1:=b.1-r.1) (w2:=b.2-r.2) (p1:=x.1-r.1) (p2:=x.2-r.2) (q1:=y.1-r.1) (q2:=y.2-r.2)
  (by grind) (by grind) a3 a4 (by grind) (by grind) (by omega) (by omega)
theorem AAT {S:V2->Prop} {r:V2} (h:∀ x,S x->x=r∨Ac r x=true):M9 S r:=by
 intro x y hx hy hl hr h0
 rcases h x hx with rfl|h
 ·exact Ab.irr _ hl
 ·exact Ab.irr _ (Ab.trans hl h)
theorem Ym {S:V2->Prop} {r:V2} (h:∀ x,S x->x=r∨Ac x r=true):M9 S r:=by
 intro x y hx hy hl hr h0
 rcases h y hy with rfl|h
 ·exact Ab.irr _ hr
 ·exact Ab.irr _ (Ab.trans hr h)
theorem Chn.ext {lt:V2->V2->Prop} {S:V2->Prop} {c:List V2} (h:Chn lt S c) {i:Nat} (h0:0<i) (h1:i+1<c.length):M9 S (c.getD i (0,0)):=by
 have e1:=h.edge (i-1) (by omega)
 have e2:=h.edge i h1
 have e3:=h.left (i-1) (by omega)
 rw [show i-1+1=i by omega] at e1
 rw [show i-1+1=i by omega,show i-1+2=i+1 by omega] at e3
 exact AAS e1.2 e2.2 e3
theorem Yn {S:V2->Prop} {p q r:V2} (hp:S p) (hq:S q) (hr:S r) (ep:M9 S p) (eq:M9 S q) (er:M9 S r) (n1:p≠q) (n2:p≠r) (n3:q≠r) (h0:AH p q r=0):False:=by
 have T:∀ a b:V2,a≠b->Ac a b=true∨Ac b a=true:=λ a b hab=>by
  rcases Ab.tri a b with h|h|h
  ·exact .inl h
  ·exact absurd h hab
  ·exact .inr h
 unfold AH at h0
 have z1:AH p r q=0:=by unfold AH;grind
 have z2:AH q p r=0:=by unfold AH;grind
 have z3:AH q r p=0:=by unfold AH;grind
 have z4:AH r p q=0:=by unfold AH;grind
 have z5:AH r q p=0:=by unfold AH;grind
 have z6:AH p q r=0:=h0
 rcases T p q n1 with a|a <;> rcases T p r n2 with b|b <;> rcases T q r n3 with c|c
 ·exact eq p r hp hr a c z6
 ·exact er p q hp hq b c z1
 ·exact absurd (Ab.trans (Ab.trans a c) b) (Ab.irr _)
 ·exact ep r q hr hq b a z4
 ·exact ep q r hq hr a b z2
 ·exact absurd (Ab.trans (Ab.trans b c) a) (Ab.irr _)
 ·exact er q p hq hp c b z3
 ·exact eq r p hr hp c a z5
theorem WH {a v w:V2} (h1:0<=AH a v w) (h2:0<=AH w v a):AH a v w=0:=by
 have e:AH w v a=-AH a v w:=by unfold AH;grind
 omega
theorem WI {a b x:V2} (h1:0<=AH a b x) (h2:0<=AH b a x):AH a b x=0:=by
 have e:AH b a x=-AH a b x:=by unfold AH;grind
 omega
theorem Yo {a b:List V2} {i:Nat} (hi:i<a.length):(a++b).getD i (0,0)=a.getD i (0,0):=by
 simp [List.getD,List.getElem?_append,hi]
theorem Yp {a b:List V2} {i:Nat} (hi:a.length<=i):(a++b).getD i (0,0)=b.getD (i-a.length) (0,0):=by
 simp [List.getD,List.getElem?_append,show ¬ i<a.length by omega]
theorem Us (l:List V2):(LB l).length=l.length-1:=by simp [LB]
theorem Ut {l:List V2} {i:Nat} (hi:i+1<l.length):(LB l).getD i (0,0)=l.getD i (0,0):=by
 simp [LB,List.getD,show i<l.length-1 by omega,show i<l.length by omega]
theorem EC {a b:V2} (h:Ac a b=true):a≠b:=λ e=>Ab.irr _ (e ▸ h)
structure Ring (S:V2->Prop) (h:List V2):Prop where
 mem:∀ i,i<h.length->S (h.getD i (0,0))
 ext:∀ i,i<h.length->M9 S (h.getD i (0,0))
 side:∀ i,i<h.length->∀ x,S x->0<=AH (h.getD i (0,0)) (h.getD ((i+1)%h.length) (0,0)) x
 inj:∀ i j,i<h.length->j<h.length->i≠j->h.getD i (0,0)≠h.getD j (0,0)
theorem WJ {s:List V2} (hs:upV s) (h2:2<=s.length):Ring (λ x=>x ∈ s) (A1 s++A1 s.reverse)/\2<=(A1 s++A1 s.reverse).length /\
  ((A1 s++A1 s.reverse).length=2->∀ x,x ∈ s->AH (s.getD 0 (0,0)) (s.getD (s.length-1) (0,0)) x=0):=by
 obtain ⟨m,hm⟩:∃ m,s.length=m+1:=⟨s.length-1,by omega⟩
 obtain ⟨A,hA⟩:=Pn Ab hs m (by omega)
 obtain ⟨B,hB⟩:=Pn Hw (l:=s.reverse) (by rw [List.pairwise_reverse];exact hs) m (by simp;omega)
 have tA:s.take (m+1)=s:=by rw [← hm,List.take_length]
 have tB:s.reverse.take (m+1)=s.reverse:=by rw [← hm,← List.length_reverse,List.take_length]
 rw [tA] at A
 rw [tB] at B
 simp only [List.mem_reverse] at B
 obtain ⟨L,hL⟩:∃ L,chT s (m+1)=L:=⟨_,rfl⟩
 obtain ⟨U,hU⟩:∃ U,chT s.reverse (m+1)=U:=⟨_,rfl⟩
 have cA:Chn (λ a b=>Ac a b=true) (λ x=>x ∈ s) L:=by have:=A.chn;rwa [List.reverse_reverse,hL] at this
 have cB:Chn (λ a b=>Ac b a=true) (λ x=>x ∈ s) U:=by have:=B.chn;rwa [List.reverse_reverse,hU] at this
 have e1:A1 s=LB L:=by unfold A1;rw [hm,hL]
 have e2:A1 s.reverse=LB U:=by unfold A1;rw [List.length_reverse,hm,hU]
 rw [hL] at A hA
 rw [hU] at B hB
 have lowL:=A.low
 have lowU:=B.low
 have last:∀ c:List V2,∀ v,c.reverse.head?=some v->0<c.length/\c.getD (c.length-1) (0,0)=v:=λ c v h=>by
  rw [List.head?_reverse] at h
  have h0:c≠[]:=λ e=>by subst e;simp at h
  have hl:=List.length_pos_iff.2 h0
  refine ⟨hl,?_⟩
  rw [List.getLast?_eq_getElem?] at h
  rw [List.getD,h];rfl
 have first:∀ c:List V2,0<c.length->c.reverse.getLast?=some (c.getD 0 (0,0)):=λ c hc=>by
  rw [List.getLast?_reverse]
  cases c with
  | nil=>simp at hc
  | cons a t=>rfl
 obtain ⟨pL,topL⟩:=last L _ hA
 obtain ⟨pU,topU⟩:=last U _ hB
 have botL:=lowL _ (first L pL)
 have botU:=lowU _ (first U pU)
 have rg:∀ i,i<s.length->s.reverse.getD i (0,0)=s.getD (s.length-1-i) (0,0):=λ i hi=>GG s hi
 rw [rg m (by omega),hm,show m+1-1-m=0 by omega] at topU
 have mem0:s.getD 0 (0,0) ∈ s:=by simp [List.getD,show 0<s.length by omega]
 have memm:s.getD m (0,0) ∈ s:=by simp [List.getD,show m<s.length by omega]
 have sorted:∀ i j,i<j->j<s.length->Ac (s.getD i (0,0)) (s.getD j (0,0))=true:=λ i j hij hj=>by
  have:=List.pairwise_iff_getElem.1 hs i j (by omega) hj hij
  simpa [List.getD,hj,show i<s.length by omega] using this
 have lt0:=sorted 0 m (by omega) (by omega)
 have memL0:L.getD 0 (0,0) ∈ s:=cA.mem 0 pL
 have memU0:U.getD 0 (0,0) ∈ s:=cB.mem 0 pU
 have idx:∀ x,x ∈ s->∃ i,i<s.length/\x=s.getD i (0,0):=λ x hx=>by
  obtain ⟨i,hi,rfl⟩:=List.getElem_of_mem hx
  exact ⟨i,hi,by simp [List.getD,hi]⟩
 have zL:L.getD 0 (0,0)=s.getD 0 (0,0):=by
  rcases botL _ mem0 with e|e
  ·exact e.symm
  ·obtain ⟨i,hi,q⟩:=idx _ memL0
   by_cases hi0:i=0
   ·rw [q,hi0]
   ·exact absurd (Ab.trans e (q ▸ sorted 0 i (by omega) hi)) (Ab.irr _)
 have zU:U.getD 0 (0,0)=s.getD m (0,0):=by
  rcases botU _ memm with e|e
  ·exact e.symm
  ·obtain ⟨i,hi,q⟩:=idx _ memU0
   by_cases him:i=m
   ·rw [q,him]
   ·have e:Ac (U.getD 0 (0,0)) (s.getD m (0,0))=true->False:=λ h=>by
     exact absurd (Ab.trans e h) (Ab.irr _)
    exact absurd (q ▸ sorted i m (by omega) (by omega)) e
 have lenL:2<=L.length:=by
  by_cases h:L.length=1
  ·rw [h,zL] at topL
   exact absurd topL (EC lt0)
  ·omega
 have lenU:2<=U.length:=by
  by_cases h:U.length=1
  ·rw [h,zU] at topU
   exact absurd topU.symm (EC lt0)
  ·omega
 have n1:(A1 s).length=L.length-1:=by rw [e1,Us]
 have n2:(A1 s.reverse).length=U.length-1:=by rw [e2,Us]
 have nn:(A1 s++A1 s.reverse).length=(L.length-1)+(U.length-1):=by rw [List.length_append,n1,n2]
 have g1:∀ i,i<L.length-1->(A1 s++A1 s.reverse).getD i (0,0)=L.getD i (0,0):=λ i hi=>by
  rw [Yo (by omega),e1,Ut (by omega)]
 have g2:∀ j,j<U.length-1->(A1 s++A1 s.reverse).getD (L.length-1+j) (0,0)=U.getD j (0,0):=λ j hj=>by
  rw [Yp (by omega),n1,show L.length-1+j-(L.length-1)=j by omega,e2,Ut (by omega)]
 obtain ⟨H,hH⟩:∃ H,A1 s++A1 s.reverse=H:=⟨_,rfl⟩
 rw [hH] at g1 g2 nn ⊢
 have cas:∀ i,i<H.length->i<L.length-1∨∃ j,j<U.length-1/\i=L.length-1+j:=λ i hi=>by
  by_cases h:i<L.length-1
  ·exact .inl h
  ·exact .inr ⟨i-(L.length-1),by omega,by omega⟩
 have exL:∀ i,i<L.length-1->M9 (λ x=>x ∈ s) (L.getD i (0,0)):=λ i hi=>by
  by_cases h:i=0
  ·subst h
   exact AAT λ x hx=>botL x hx
  ·exact cA.ext (by omega) (by omega)
 have exU:∀ i,i<U.length-1->M9 (λ x=>x ∈ s) (U.getD i (0,0)):=λ i hi=>by
  by_cases h:i=0
  ·subst h
   exact Ym λ x hx=>botU x hx
  ·exact cB.ext (by omega) (by omega)
 have ex:∀ i,i<H.length->M9 (λ x=>x ∈ s) (H.getD i (0,0)):=λ i hi=>by
  rcases cas i hi with h|⟨j,hj,rfl⟩
  ·rw [g1 i h];exact exL i h
  ·rw [g2 j hj];exact exU j hj
 have ne:∀ i j,i<L.length-1->j<U.length-1->L.getD i (0,0)≠U.getD j (0,0):=λ i j hi hj e=>by
  by_cases hi0:i=0
  ·subst hi0
   rw [zL,← topU] at e
   exact EC (cB.lt' Hw (i:=j) (j:=U.length-1) (by omega) (by omega)) e
  ·by_cases hj0:j=0
   ·subst hj0
    rw [zU,show s.getD m (0,0)=L.getD (L.length-1) (0,0) from topL.symm] at e
    exact EC (cA.lt' Ab (i:=i) (j:=L.length-1) (by omega) (by omega)) e
   ·have ea:=cA.edge (i-1) (by omega)
    have eb:=cB.edge (j-1) (by omega)
    rw [show i-1+1=i by omega] at ea
    rw [show j-1+1=j by omega,← e] at eb
    have ma:=cA.mem (i-1) (by omega)
    have mb:=cB.mem (j-1) (by omega)
    have t1:=ea.2 _ mb
    have t2:=eb.2 _ ma
    exact exL i hi _ _ ma mb ea.1 eb.1 (WH t1 t2)
 refine ⟨⟨λ i hi=>?_,ex,λ i hi x hx=>?_,λ i j hi hj hij=>?_⟩,by omega,λ h x hx=>?_⟩
 ·rcases cas i hi with h|⟨j,hj,rfl⟩
  ·rw [g1 i h];exact cA.mem i (by omega)
  ·rw [g2 j hj];exact cB.mem j (by omega)
 ·rcases cas i hi with h|⟨j,hj,rfl⟩
  ·have hmod:(i+1)%H.length=i+1:=Nat.mod_eq_of_lt (by omega)
   have e:H.getD (i+1) (0,0)=L.getD (i+1) (0,0):=by
    by_cases hl:i+1<L.length-1
    ·exact g1 _ hl
    ·have:=g2 0 (by omega)
     rw [show L.length-1+0=i+1 by omega,zU] at this
     rw [this,show i+1=L.length-1 by omega,topL]
   rw [hmod,g1 i h,e]
   exact (cA.edge i (by omega)).2 x hx
  ·rw [g2 j hj]
   have e:H.getD ((L.length-1+j+1)%H.length) (0,0)=U.getD (j+1) (0,0):=by
    by_cases hl:j+1<U.length-1
    ·rw [Nat.mod_eq_of_lt (by omega),show L.length-1+j+1=L.length-1+(j+1) by omega,g2 _ hl]
    ·rw [show L.length-1+j+1=H.length by omega,Nat.mod_self,g1 0 (by omega),zL,show j+1=U.length-1 by omega,topU]
   rw [e]
   exact (cB.edge j (by omega)).2 x hx
 ·rcases cas i hi with h|⟨i',hi',rfl⟩
  ·rcases cas j hj with h' | ⟨j',hj',rfl⟩
   ·rw [g1 i h,g1 j h']
    rcases Nat.lt_or_gt_of_ne hij with q|q
    ·exact EC (cA.lt' Ab q (by omega))
    ·exact (EC (cA.lt' Ab q (by omega))).symm
   ·rw [g1 i h,g2 j' hj'];exact ne i j' h hj'
  ·rcases cas j hj with h' | ⟨j',hj',rfl⟩
   ·rw [g1 j h',g2 i' hi'];exact (ne j i' h' hi').symm
   ·rw [g2 i' hi',g2 j' hj']
    rcases Nat.lt_or_gt_of_ne (show i'≠j' by omega) with q|q
    ·exact (EC (cB.lt' Hw q (by omega))).symm
    ·exact EC (cB.lt' Hw q (by omega))
 ·have l1:L.length=2:=by omega
  have l2:U.length=2:=by omega
  have t1:=(cA.edge 0 (by omega)).2 x hx
  have t2:=(cB.edge 0 (by omega)).2 x hx
  rw [l1] at topL
  rw [l2] at topU
  rw [zL,show L.getD (0+1) (0,0)=s.getD m (0,0) from topL] at t1
  rw [zU,show U.getD (0+1) (0,0)=s.getD 0 (0,0) from topU] at t2
  rw [show s.length-1=m by omega]
  exact WI t1 t2
theorem Tf {p q x y z:V2} (h:p≠q) (h1:AH p q x=0) (h2:AH p q y=0) (h3:AH p q z=0):AH x y z=0:=by
 have hd:q.1-p.1≠0∨q.2-p.2≠0:=by
  by_cases h' : q.1-p.1=0
  ·refine .inr λ h''=>h ?_
   rcases p with ⟨p1,p2⟩;rcases q with ⟨q1,q2⟩
   simp only [Prod.mk.injEq] at *
   omega
  ·exact .inl h'
 have e1:(q.1-p.1)*AH x y z=0:=by unfold AH at *;grind
 have e2:(q.2-p.2)*AH x y z=0:=by unfold AH at *;grind
 rcases hd with hd|hd
 ·exact (Int.mul_eq_zero.1 e1).resolve_left hd
 ·exact (Int.mul_eq_zero.1 e2).resolve_left hd
theorem CA {l:List V2} : AK l=true↔(3<=l.length/\l.length<=16)/\l.all AE=true/\∀ i j,i<l.length->j<l.length->j≠i->j≠(i+1)%l.length->0<AH (l.getD i (0,0)) (l.getD ((i+1)%l.length) (0,0)) (l.getD j (0,0)):=by
 unfold AK
 rw [Bool.and_eq_true,Bool.and_eq_true,BK]
 simp only [List.all_eq_true,List.mem_range,GO,C7,Bool.or_eq_true,decide_eq_true_eq]
 constructor
 ·rintro ⟨⟨h1,h2⟩,h3⟩
  exact ⟨⟨by omega,by omega⟩,h2,λ i j hi hj n1 n2=>by rcases h3 i hi j hj with (h|h)|h <;> first|exact absurd h n1|exact absurd h n2|exact h⟩
 ·rintro ⟨⟨h1,h1'⟩,h2,h3⟩
  refine ⟨⟨⟨by omega,by omega⟩,h2⟩,λ i hi j hj=>?_⟩
  by_cases n1:j=i
  ·exact .inl (.inl n1)
  ·by_cases n2:j=(i+1)%l.length
   ·exact .inl (.inr n2)
   ·exact .inr (h3 i j hi hj n1 n2)
theorem NA {i n:Nat} (h:i<n):(i+1)%n<n:=Nat.mod_lt _ (by omega)
theorem AA4 {i n:Nat} (h:i<n) (h2:2<=n):(i+1)%n≠i:=by
 by_cases e:i+1=n
 ·rw [e,Nat.mod_self];omega
 ·rw [Nat.mod_eq_of_lt (by omega)];omega
theorem AAU {i j n:Nat} (hi:i<n) (hj:j<n) (h3:3<=n) (e1:j=(i+1)%n) (e2:i=(j+1)%n):False:=by
 by_cases e:i+1=n
 ·rw [e,Nat.mod_self] at e1
  subst e1
  rw [Nat.mod_eq_of_lt (by omega)] at e2
  omega
 ·rw [Nat.mod_eq_of_lt (by omega)] at e1
  subst e1
  by_cases e' : i+1+1=n
  ·rw [e',Nat.mod_self] at e2;omega
  ·rw [Nat.mod_eq_of_lt (by omega)] at e2;omega
theorem Ring.strict {S:V2->Prop} {h:List V2} (r:Ring S h) (h3:3<=h.length) {i k:Nat} (hi:i<h.length) (hk:k<h.length) (n1:k≠i) (n2:k≠(i+1)%h.length):0<AH (h.getD i (0,0)) (h.getD ((i+1)%h.length) (0,0)) (h.getD k (0,0)):=by
 have h0:=r.side i hi _ (r.mem k hk)
 by_cases hz:AH (h.getD i (0,0)) (h.getD ((i+1)%h.length) (0,0)) (h.getD k (0,0))=0
 ·exact (Yn (r.mem i hi) (r.mem _ (NA hi)) (r.mem k hk) (r.ext i hi) (r.ext _ (NA hi)) (r.ext k hk) (r.inj _ _ hi (NA hi) (AA4 hi (by omega)).symm) (r.inj _ _ hi hk n1.symm) (r.inj _ _ (NA hi) hk n2.symm) hz).elim
 ·omega
theorem Ring.poly {S:V2->Prop} {h:List V2} (r:Ring S h) (h3:3<=h.length) (h16:h.length<=16) (hv:h.all AE=true):AK h=true:=
 CA.2 ⟨⟨h3,h16⟩,hv,λ i j hi hj n1 n2=>r.strict h3 hi hj n1 n2⟩
def JM (d e:V2):Prop:=d.1*e.2-d.2*e.1=0/\0<d.1*e.1+d.2*e.2
def DO (a b:V2):V2:=(b.1-a.1,b.2-a.2)
theorem Po {d:V2} (h:d≠(0,0)):0<d.1*d.1+d.2*d.2:=by
 have h1:∀ a:Int,0<=a*a:=λ a=>by
  rcases Int.le_total 0 a with h|h
  ·exact Int.mul_nonneg h h
  ·exact Int.mul_nonneg_of_nonpos_of_nonpos h h
 have h2:=h1 d.1
 have h3:=h1 d.2
 by_cases hz:d.1*d.1+d.2*d.2=0
 ·exfalso
  apply h
  have e1:d.1*d.1=0:=by omega
  have e2:d.2*d.2=0:=by omega
  have e1:d.1=0:=by rcases Int.mul_eq_zero.1 e1 with e|e <;> exact e
  have e2:d.2=0:=by rcases Int.mul_eq_zero.1 e2 with e|e <;> exact e
  exact Prod.ext e1 e2
 ·omega
theorem KO {d e:V2} (h:JM d e) (z:V2) (hz:0<=d.1*z.2-d.2*z.1):0<=e.1*z.2-e.2*z.1:=by
 obtain ⟨h1,h2⟩:=h
 have hd:d≠(0,0):=λ q=>by rw [q] at h2;simp at h2
 have key:(d.1*d.1+d.2*d.2)*(e.1*z.2-e.2*z.1)=(d.1*e.1+d.2*e.2)*(d.1*z.2-d.2*z.1):=by grind
 have h3:0<=(d.1*d.1+d.2*d.2)*(e.1*z.2-e.2*z.1):=by rw [key];exact Int.mul_nonneg (by omega) hz
 exact Int.nonneg_of_mul_nonneg_right h3 (Po hd)
theorem Oh {d e f:V2} (h:JM d e) (h' : JM f e):JM d f:=by
 obtain ⟨h1,h2⟩:=h
 obtain ⟨h3,h4⟩:=h'
 have he:e≠(0,0):=λ q=>by rw [q] at h2;simp at h2
 have hp:=Po he
 have k1:(e.1*e.1+e.2*e.2)*(d.1*f.2-d.2*f.1)=0:=by grind
 have k2:(e.1*e.1+e.2*e.2)*(d.1*f.1+d.2*f.2)=(d.1*e.1+d.2*e.2)*(f.1*e.1+f.2*e.2):=by grind
 refine ⟨(Int.mul_eq_zero.1 k1).resolve_left (by omega),?_⟩
 have k3:=Int.mul_pos h2 h4
 rw [← k2] at k3
 exact Int.pos_of_mul_pos_right k3 (by omega)
theorem Yq {d e:V2} (h:JM d e):JM e d:=⟨by have:=h.1;grind,by have:=h.2;grind⟩
theorem Ring.edges {S:V2->Prop} {h:List V2} (r:Ring S h) (h3:3<=h.length) {i k:Nat} (hi:i<h.length) (hk:k<h.length)
  (hp:JM (DO (h.getD i (0,0)) (h.getD ((i+1)%h.length) (0,0))) (DO (h.getD k (0,0)) (h.getD ((k+1)%h.length) (0,0)))):i=k:=by
 by_cases hik:i=k
 ·exact hik
 exfalso
 have a1:=r.side i hi _ (r.mem k hk)
 have a2:=r.side k hk _ (r.mem i hi)
 have b1:=KO hp (DO (h.getD i (0,0)) (h.getD k (0,0))) a1
 have b2:=KO (Yq hp) (DO (h.getD k (0,0)) (h.getD i (0,0))) a2
 have c1:AH (h.getD i (0,0)) (h.getD ((i+1)%h.length) (0,0)) (h.getD k (0,0))=0:=by
  generalize h.getD i (0,0)=p at *
  generalize h.getD ((i+1)%h.length) (0,0)=q at *
  generalize h.getD k (0,0)=s at *
  unfold AH at *
  simp only [DO] at *
  clear a2 b1 hp r hi hk
  have:(q.1-p.1)*(p.2-s.2)-(q.2-p.2)*(p.1-s.1)=-((q.1-p.1)*(s.2-p.2)-(q.2-p.2)*(s.1-p.1)):=by grind
  omega
 have c2:AH (h.getD k (0,0)) (h.getD ((k+1)%h.length) (0,0)) (h.getD i (0,0))=0:=by
  generalize h.getD k (0,0)=p at *
  generalize h.getD ((k+1)%h.length) (0,0)=q at *
  generalize h.getD i (0,0)=s at *
  unfold AH at *
  simp only [DO] at *
  clear a1 b2 hp r hi hk c1
  have:(q.1-p.1)*(p.2-s.2)-(q.2-p.2)*(p.1-s.1)=-((q.1-p.1)*(s.2-p.2)-(q.2-p.2)*(s.1-p.1)):=by grind
  omega
 have e1:k=(i+1)%h.length:=Classical.byContradiction λ hn=>by have:=r.strict h3 hi hk (λ e=>hik e.symm) hn;omega
 have e2:i=(k+1)%h.length:=Classical.byContradiction λ hn=>by have:=r.strict h3 hk hi hik hn;omega
 exact AAU hi hk h3 e1 e2
theorem JN:∀ (M:Nat) (l:List Nat),l.Nodup->(∀ x ∈ l,x<M)->l.length<=M
 | 0,l,_,h=>by
  cases l with
  | nil=>exact Nat.le_refl _
  | cons a t=>exact absurd (h a (by simp)) (by omega)
 | M+1,l,hn,h=>by
  by_cases hm:M ∈ l
  ·have:=JN M (l.erase M) (hn.erase M) (λ x hx=>by
    have hx:=(hn.mem_erase_iff).1 hx
    have:=h x hx.2
    omega)
   rw [List.length_erase_of_mem hm] at this
   have:=List.length_pos_of_mem hm
   omega
  ·have:=JN M l hn (λ x hx=>by
    have:=h x hx
    have:x≠M:=λ e=>hm (e ▸ hx)
    omega)
   omega
theorem ABp {N M:Nat} {R:Nat->Nat->Prop} (h1:∀ k,k<N->∃ c,c<M/\R k c) (h2:∀ k k' c,k<N->k' < N->R k c->R k' c->k=k'):N<=M:=by
 have:∃ f:Nat->Nat,∀ k,k<N->f k<M/\R k (f k):=by
  refine ⟨λ k=>if h:k<N then Classical.choose (h1 k h) else 0,λ k hk=>?_⟩
  simp only [dif_pos hk]
  exact Classical.choose_spec (h1 k hk)
 obtain ⟨f,hf⟩:=this
 have:=JN M ((List.range N).map f) (by
  rw [List.Nodup,List.pairwise_map]
  refine List.Pairwise.imp_of_mem ?_ List.nodup_range
  intro a b ha hb hab e
  have ha:=List.mem_range.1 ha
  have hb:=List.mem_range.1 hb
  exact hab (h2 a b (f a) ha hb (hf a ha).2 (e ▸ (hf b hb).2))) (λ x hx=>by
  obtain ⟨k,hk,rfl⟩:=List.mem_map.1 hx
  exact (hf k (List.mem_range.1 hk)).1)
 simpa using this
def Cg (p q:V2):V2:=(p.1+q.1,p.2+q.2)
theorem Oi {l:List V2} (hl:AK l=true) {i i' : Nat} (hi:i<l.length) (hi' : i' < l.length) {d:V2} (hd:∀ j,j<l.length->0<=d.1*((l.getD j (0,0)).2-(l.getD i (0,0)).2)-d.2*((l.getD j (0,0)).1-(l.getD i (0,0)).1)) (hp:JM d (DO (l.getD i (0,0)) (l.getD i' (0,0)))):JM d (DO (l.getD i (0,0)) (l.getD ((i+1)%l.length) (0,0))):=by
 obtain ⟨⟨h3,_⟩,_,hs⟩:=CA.1 hl
 by_cases e:i'=(i+1)%l.length
 ·rw [← e];exact hp
 exfalso
 have hne:i'≠i:=by
  rintro rfl
  have:=hp.2
  simp [DO] at this
 have h1:=hs i i' hi hi' hne e
 have h2:=KO hp (DO (l.getD i (0,0)) (l.getD ((i+1)%l.length) (0,0))) (hd _ (NA hi))
 generalize l.getD i (0,0)=p at *
 generalize l.getD ((i+1)%l.length) (0,0)=q at *
 generalize l.getD i' (0,0)=s at *
 unfold AH at h1
 simp only [DO] at h2
 clear hp hd hs hi hi' hl
 have:(s.1-p.1)*(q.2-p.2)-(s.2-p.2)*(q.1-p.1)=-((q.1-p.1)*(s.2-p.2)-(q.2-p.2)*(s.1-p.1)):=by grind
 omega
def Rs (a b:List V2) (x:V2):Prop:=∃ i j,i<a.length/\j<b.length/\x=Cg (a.getD i (0,0)) (b.getD j (0,0))
theorem AAV {a1 a2 b1 b2:Int} (hd:0<(a1+b1)*(a1+b1)+(a2+b2)*(a2+b2)) (h1:0<=(a1+b1)*a2-(a2+b2)*a1) (h2:0<=(a1+b1)*b2-(a2+b2)*b1) :
  ((a1+b1)*a2-(a2+b2)*a1=0/\0<(a1+b1)*a1+(a2+b2)*a2)∨((a1+b1)*b2-(a2+b2)*b1=0/\0<(a1+b1)*b1+(a2+b2)*b2):=by
 have e:(a1+b1)*a2-(a2+b2)*a1=-((a1+b1)*b2-(a2+b2)*b1):=by grind
 have e2:(a1+b1)*(a1+b1)+(a2+b2)*(a2+b2)=((a1+b1)*a1+(a2+b2)*a2)+((a1+b1)*b1+(a2+b2)*b2):=by grind
 by_cases hc:0<(a1+b1)*a1+(a2+b2)*a2
 ·exact .inl ⟨by omega,hc⟩
 ·exact .inr ⟨by omega,by omega⟩
theorem Yr {P Q p q p' q' : V2} (hP:P=Cg p q) (hQ:Q=Cg p' q') (hne:P≠Q) (h1:0<=AH P Q (Cg p' q)) (h2:0<=AH P Q (Cg p q')):JM (DO P Q) (DO p p')∨JM (DO P Q) (DO q q'):=by
 have hd:DO P Q≠(0,0):=λ e=>hne (by
  simp only [DO,Prod.mk.injEq] at e
  exact Prod.ext (by omega) (by omega))
 have hpos:=Po hd
 subst hP;subst hQ
 simp only [AH,Cg,DO,JM] at *
 have a1:p'.1+q'.1-(p.1+q.1)=(p'.1-p.1)+(q'.1-q.1):=by omega
 have a2:p'.2+q'.2-(p.2+q.2)=(p'.2-p.2)+(q'.2-q.2):=by omega
 rw [a1,a2] at hpos h1 h2 ⊢
 rw [show p'.2+q.2-(p.2+q.2)=p'.2-p.2 by omega,show p'.1+q.1-(p.1+q.1)=p'.1-p.1 by omega] at h1
 rw [show p.2+q'.2-(p.2+q.2)=q'.2-q.2 by omega,show p.1+q'.1-(p.1+q.1)=q'.1-q.1 by omega] at h2
 exact AAV hpos h1 h2
theorem Ys {P Q p q x:V2} (hP:P=Cg p q):AH P Q (Cg x q)=(DO P Q).1*(x.2-p.2)-(DO P Q).2*(x.1-p.1):=by
 subst hP;simp only [AH,Cg,DO];grind
theorem Yt {P Q p q x:V2} (hP:P=Cg p q):AH P Q (Cg p x)=(DO P Q).1*(x.2-q.2)-(DO P Q).2*(x.1-q.1):=by
 subst hP;simp only [AH,Cg,DO];grind
theorem Ring.few {a b h:List V2} (ha:AK a=true) (hb:AK b=true) (r:Ring (Rs a b) h) (h3:3<=h.length):h.length<=a.length+b.length:=by
 refine ABp (R:=λ k c=>c<a.length/\JM (DO (h.getD k (0,0)) (h.getD ((k+1)%h.length) (0,0))) (DO (a.getD c (0,0)) (a.getD ((c+1)%a.length) (0,0)))∨a.length<=c/\JM (DO (h.getD k (0,0)) (h.getD ((k+1)%h.length) (0,0))) (DO (b.getD (c-a.length) (0,0)) (b.getD ((c-a.length+1)%b.length) (0,0)))) ?_ ?_
 ·intro k hk
  obtain ⟨i,j,hi,hj,eP⟩:=r.mem k hk
  obtain ⟨i',j',hi',hj',eQ⟩:=r.mem _ (NA hk)
  have hs:=r.side k hk
  have hne:=r.inj _ _ hk (NA hk) (AA4 hk (by omega)).symm
  rcases Yr eP eQ hne (hs _ ⟨i',j,hi',hj,rfl⟩) (hs _ ⟨i,j',hi,hj',rfl⟩) with hp|hp
  ·exact ⟨i,by omega,.inl ⟨hi,Oi ha hi hi' (λ l hl=>by rw [← Ys eP];exact hs _ ⟨l,j,hl,hj,rfl⟩) hp⟩⟩
  ·refine ⟨a.length+j,by omega,.inr ⟨by omega,?_⟩⟩
   rw [show a.length+j-a.length=j by omega]
   exact Oi hb hj hj' (λ l hl=>by rw [← Yt eP];exact hs _ ⟨i,l,hi,hl,rfl⟩) hp
 ·intro k k' c hk hk' h1 h2
  rcases h1 with ⟨q1,p1⟩|⟨q1,p1⟩
  ·rcases h2 with ⟨q2,p2⟩|⟨q2,p2⟩
   ·exact r.edges h3 hk hk' (Oh p1 p2)
   ·omega
  ·rcases h2 with ⟨q2,p2⟩|⟨q2,p2⟩
   ·omega
   ·exact r.edges h3 hk hk' (Oh p1 p2)
end Go.Proofs.YtkffpiaagjcmpaaGreat
