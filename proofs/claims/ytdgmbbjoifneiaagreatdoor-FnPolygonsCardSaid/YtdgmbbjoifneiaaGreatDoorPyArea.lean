import Derived.Test.YtdgmbbjoifneiaaGreatDoorPyHul
namespace Go.Proofs.YtdgmbbjoifneiaaGreatDoor
set_option linter.unusedVariables false
set_option linter.unusedSimpArgs false
def trI (a b:V2):Int:=(b.1-a.1)*(a.2+b.2)
def Bp:List V2->Int
 | a::b::r=>trI a b+Bp (b::r)
 | _=>0
def pairsP (R:V2->V2->Prop):List V2->Prop
 | a::b::r=>R a b/\pairsP R (b::r)
 | _=>True
theorem pairsP.imp {R Q:V2->V2->Prop} (h:∀ a b,R a b->Q a b):∀ {l:List V2},pairsP R l->pairsP Q l
 | [],_=>trivial
 | [_],_=>trivial
 | a::b::r,⟨h1,h2⟩=>⟨h a b h1,pairsP.imp h h2⟩
theorem pairsP.and {R Q:V2->V2->Prop} : ∀ {l:List V2},pairsP R l->pairsP Q l->pairsP (λ a b=>R a b/\Q a b) l
 | [],_,_=>trivial
 | [_],_,_=>trivial
 | a::b::r,⟨h1,h2⟩,⟨k1,k2⟩=>⟨⟨h1,k1⟩,pairsP.and h2 k2⟩
theorem pairsP.mem {S:V2->Prop} : ∀ {l:List V2},(∀ x ∈ l,S x)->pairsP (λ a b=>S a/\S b) l
 | [],_=>trivial
 | [_],_=>trivial
 | a::b::r,h=>⟨⟨h a (by simp),h b (by simp)⟩,pairsP.mem λ x hx=>h x (List.mem_cons_of_mem _ hx)⟩
def BQ (a b:V2) (k:Int):Rat:=((a.2*(b.1-k)+b.2*(k-a.1):Int):Rat)/((b.1-a.1:Int):Rat)
def BK (f:Int->Rat) (a:Int):Nat->Rat
 | 0=>0
 | n+1=>BK f a n+(f (a+n)+f (a+n+1))
theorem Ec (f:Int->Rat) (a:Int) (m:Nat):∀ n,BK f a (m+n)=BK f a m+BK f (a+m) n
 | 0=>by simp only [BK,Nat.add_zero];grind
 | n+1=>by
  have ih:=Ec f a m n
  show BK f a (m+n)+(f (a+((m+n:Nat):Int))+f (a+((m+n:Nat):Int)+1))=BK f a m+(BK f (a+m) n+(f (a+m+n)+f (a+m+n+1)))
  rw [ih,show a+((m+n:Nat):Int)=a+m+n by omega]
  grind
theorem HY {f g:Int->Rat} {a:Int} : ∀ {n:Nat},(∀ k,a<=k->k<=a+n->f k<=g k)->BK f a n<=BK g a n
 | 0,_=>by simp only [BK];grind
 | n+1,h=>by
  have ih:=HY (f:=f) (g:=g) (a:=a) (n:=n) λ k h1 h2=>h k h1 (by omega)
  have h1:=h (a+n) (by omega) (by omega)
  have h2:=h (a+n+1) (by omega) (by omega)
  simp only [BK]
  grind
theorem Pi {f g:Int->Rat} {a:Int} {n:Nat} (h:∀ k,a<=k->k<=a+n->f k=g k):BK f a n=BK g a n:=by
 have h1:=HY (f:=f) (g:=g) (a:=a) (n:=n) λ k p q=>by rw [h k p q];grind
 have h2:=HY (f:=g) (g:=f) (a:=a) (n:=n) λ k p q=>by rw [h k p q];grind
 grind
theorem Fb {f:Int->Rat} {a:Int} : ∀ {n:Nat},(∀ k,a<=k->k<=a+n->0<=f k)->0<=BK f a n
 | 0,_=>by simp only [BK];grind
 | n+1,h=>by
  have ih:=Fb (f:=f) (a:=a) (n:=n) λ k h1 h2=>h k h1 (by omega)
  have h1:=h (a+n) (by omega) (by omega)
  have h2:=h (a+n+1) (by omega) (by omega)
  simp only [BK]
  grind
theorem KM (f g:Int->Rat) (a:Int):∀ n,BK (λ k=>f k-g k) a n=BK f a n-BK g a n
 | 0=>by simp only [BK];grind
 | n+1=>by
  have:=KM f g a n
  simp only [BK,this]
  grind
theorem Lf (a b:V2) (h:a.1<b.1):∀ n:Nat,BK (BQ a b) a.1 n*((b.1-a.1:Int):Rat)=((n:Int):Rat)*((a.2*(b.1-a.1)+(a.2*(b.1-(a.1+n))+b.2*n):Int):Rat)
 | 0=>by simp only [BK];grind
 | n+1=>by
  have ih:=Lf a b h n
  have hd:((b.1-a.1:Int):Rat)≠0:=by
   intro e
   have:b.1-a.1=0:=by exact_mod_cast e
   omega
  have e1:BQ a b (a.1+n)*((b.1-a.1:Int):Rat)=((a.2*(b.1-(a.1+n))+b.2*((a.1+n)-a.1):Int):Rat):=by
   unfold BQ;grind
  have e2:BQ a b (a.1+n+1)*((b.1-a.1:Int):Rat)=((a.2*(b.1-(a.1+n+1))+b.2*((a.1+n+1)-a.1):Int):Rat):=by
   unfold BQ;grind
  simp only [BK]
  have e3:(BK (BQ a b) a.1 n+(BQ a b (a.1+n)+BQ a b (a.1+n+1)))*((b.1-a.1:Int):Rat)=BK (BQ a b) a.1 n*((b.1-a.1:Int):Rat)+(BQ a b (a.1+n)*((b.1-a.1:Int):Rat)+BQ a b (a.1+n+1)*((b.1-a.1:Int):Rat)):=by grind
  rw [e3,ih,e1,e2]
  push_cast
  grind
theorem MT (a b:V2) (h:a.1<b.1):((trI a b:Int):Rat)=BK (BQ a b) a.1 (b.1-a.1).toNat:=by
 have hl:=Lf a b h (b.1-a.1).toNat
 have hn:(((b.1-a.1).toNat:Nat):Int)=b.1-a.1:=by omega
 rw [hn] at hl
 have hd:(0:Rat)<((b.1-a.1:Int):Rat):=by exact_mod_cast (show 0<b.1-a.1 by omega)
 have e:((a.2*(b.1-a.1)+(a.2*(b.1-(a.1+(b.1-a.1)))+b.2*(b.1-a.1)):Int))=trI a b:=by unfold trI;grind
 rw [e] at hl
 have hd0:((b.1-a.1:Int):Rat)≠0:=by grind
 grind
theorem Lg {x y c d:Rat} (hc:0<c) (hd:0<d) (h:x*d<=y*c):x/c<=y/d:=by
 have h1:x/c*(c*d)<=y/d*(c*d):=by
  have e1:x/c*(c*d)=x*d:=by
   have:c≠0:=by grind
   grind
  have e2:y/d*(c*d)=y*c:=by
   have:d≠0:=by grind
   grind
  rw [e1,e2];exact h
 exact Rat.le_of_mul_le_mul_right h1 (Rat.mul_pos hc hd)
theorem I6 {a b u v:V2} {k:Int} (hg:a.1<b.1) (he:u.1<v.1) (h1:u.1<=k) (h2:k<=v.1) (hu:0<=AM a b u) (hv:0<=AM a b v):BQ a b k<=BQ u v k:=by
 unfold BQ
 have p1:(0:Rat)<((b.1-a.1:Int):Rat):=by exact_mod_cast (show 0<b.1-a.1 by omega)
 have p2:(0:Rat)<((v.1-u.1:Int):Rat):=by exact_mod_cast (show 0<v.1-u.1 by omega)
 refine Lg p1 p2 ?_
 rw [← Rat.intCast_mul,← Rat.intCast_mul,Rat.intCast_le_intCast]
 have q1:=Int.mul_nonneg (show 0<=v.1-k by omega) hu
 have q2:=Int.mul_nonneg (show 0<=k-u.1 by omega) hv
 unfold AM at q1 q2
 grind
theorem MU {a b u v:V2} {k:Int} (hg:a.1<b.1) (he:u.1<v.1) (h1:u.1<=k) (h2:k<=v.1) (hu:AM a b u<=0) (hv:AM a b v<=0):BQ u v k<=BQ a b k:=by
 unfold BQ
 have p1:(0:Rat)<((b.1-a.1:Int):Rat):=by exact_mod_cast (show 0<b.1-a.1 by omega)
 have p2:(0:Rat)<((v.1-u.1:Int):Rat):=by exact_mod_cast (show 0<v.1-u.1 by omega)
 refine Lg p2 p1 ?_
 rw [← Rat.intCast_mul,← Rat.intCast_mul,Rat.intCast_le_intCast]
 have q1:=Int.mul_nonneg (show 0<=v.1-k by omega) (show 0<=- AM a b u by omega)
 have q2:=Int.mul_nonneg (show 0<=k-u.1 by omega) (show 0<=- AM a b v by omega)
 unfold AM at q1 q2
 grind
def up1 (a b:V2):Prop:=a.1<=b.1
theorem FA {p:V2} : ∀ {l:List V2},pairsP up1 (p::l)->p.1<=((p::l).getLast (by simp)).1
 | [],_=>by simp
 | b::r,⟨h1,h2⟩=>by
  have:=FA h2
  rw [List.getLast_cons (by simp)]
  unfold up1 at h1;omega
theorem Gg {p:V2} {k:Int} : ∀ {l:List V2},pairsP up1 (p::l)->p.1<=k->k<=((p::l).getLast (by simp)).1->p.1<((p::l).getLast (by simp)).1->∃ a b,a.1<b.1/\a.1<=k/\k<=b.1/\∀ R:V2->V2->Prop,pairsP R (p::l)->R a b
 | [],_,_,_,h=>by simp at h
 | b::r,⟨h1,h2⟩,q1,q2,q3=>by
  rw [List.getLast_cons (by simp)] at q2 q3
  unfold up1 at h1
  by_cases hk:k<=b.1/\p.1<b.1
  ·exact ⟨p,b,hk.2,q1,hk.1,λ R hR=>hR.1⟩
  ·obtain ⟨a,c,c1,c2,c3,c4⟩:=Gg h2 (by omega) q2 (by omega)
   exact ⟨a,c,c1,c2,c3,λ R hR=>c4 R hR.2⟩
theorem MV {f:Int->Rat} {p:V2} : ∀ {l:List V2},pairsP up1 (p::l)->pairsP (λ a b=>a.1<b.1->∀ k,a.1<=k->k<=b.1->f k=BQ a b k) (p::l)->((Bp (p::l):Int):Rat)=BK f p.1 (((p::l).getLast (by simp)).1-p.1).toNat
 | [],_,_=>by simp [Bp,BK]
 | b::r,⟨h1,h2⟩,⟨f1,f2⟩=>by
  have ih:=MV h2 f2
  have hl:=FA h2
  unfold up1 at h1
  have e:(((p::b::r).getLast (by simp)).1-p.1).toNat=(b.1-p.1).toNat+(((b::r).getLast (by simp)).1-b.1).toNat:=by
   rw [List.getLast_cons (by simp)];omega
  rw [e,Ec,show p.1+(((b.1-p.1).toNat:Nat):Int)=b.1 by omega,← ih]
  simp only [Bp]
  rw [Rat.intCast_add]
  congr 1
  by_cases hlt:p.1<b.1
  ·rw [MT p b hlt]
   exact (Pi λ k k1 k2=>f1 hlt k k1 (by omega)).symm
  ·have:p.1=b.1:=by omega
   have e0:trI p b=0:=by unfold trI;rw [this,Int.sub_self,Int.zero_mul]
   rw [e0,this,Int.sub_self];rfl
theorem Qn {f:Int->Rat} {p:V2} : ∀ {l:List V2},pairsP up1 (p::l)->pairsP (λ a b=>a.1<b.1->∀ k,a.1<=k->k<=b.1->f k<=BQ a b k) (p::l)->BK f p.1 (((p::l).getLast (by simp)).1-p.1).toNat<=((Bp (p::l):Int):Rat)
 | [],_,_=>by simp [Bp,BK]
 | b::r,⟨h1,h2⟩,⟨f1,f2⟩=>by
  have ih:=Qn h2 f2
  have hl:=FA h2
  unfold up1 at h1
  have e:(((p::b::r).getLast (by simp)).1-p.1).toNat=(b.1-p.1).toNat+(((b::r).getLast (by simp)).1-b.1).toNat:=by
   rw [List.getLast_cons (by simp)];omega
  rw [e,Ec,show p.1+(((b.1-p.1).toNat:Nat):Int)=b.1 by omega]
  simp only [Bp]
  rw [Rat.intCast_add]
  have h0:BK f p.1 (b.1-p.1).toNat<=((trI p b:Int):Rat):=by
   by_cases hlt:p.1<b.1
   ·rw [MT p b hlt]
    exact HY λ k k1 k2=>f1 hlt k k1 (by omega)
   ·have:p.1=b.1:=by omega
    have e0:trI p b=0:=by unfold trI;rw [this,Int.sub_self,Int.zero_mul]
    rw [e0,this,Int.sub_self]
    simp [BK]
  grind
theorem Qo {f:Int->Rat} {p:V2} : ∀ {l:List V2},pairsP up1 (p::l)->pairsP (λ a b=>a.1<b.1->∀ k,a.1<=k->k<=b.1->BQ a b k<=f k) (p::l)->((Bp (p::l):Int):Rat)<=BK f p.1 (((p::l).getLast (by simp)).1-p.1).toNat
 | [],_,_=>by simp [Bp,BK]
 | b::r,⟨h1,h2⟩,⟨f1,f2⟩=>by
  have ih:=Qo h2 f2
  have hl:=FA h2
  unfold up1 at h1
  have e:(((p::b::r).getLast (by simp)).1-p.1).toNat=(b.1-p.1).toNat+(((b::r).getLast (by simp)).1-b.1).toNat:=by
   rw [List.getLast_cons (by simp)];omega
  rw [e,Ec,show p.1+(((b.1-p.1).toNat:Nat):Int)=b.1 by omega]
  simp only [Bp]
  rw [Rat.intCast_add]
  have h0:((trI p b:Int):Rat)<=BK f p.1 (b.1-p.1).toNat:=by
   by_cases hlt:p.1<b.1
   ·rw [MT p b hlt]
    exact HY λ k k1 k2=>f1 hlt k k1 (by omega)
   ·have:p.1=b.1:=by omega
    have e0:trI p b=0:=by unfold trI;rw [this,Int.sub_self,Int.zero_mul]
    rw [e0,this,Int.sub_self]
    simp [BK]
  grind
structure Band (S:V2->Prop) (p q:V2) (lo up:List V2):Prop where
 ends:p.1<=q.1
 lo1:pairsP up1 (p::lo)
 lo2:(p::lo).getLast (by simp)=q
 lo3:∀ x ∈ p::lo,S x
 lo4:pairsP (λ a b=>∀ x,S x->0<=AM a b x) (p::lo)
 up1' : pairsP up1 (p::up)
 up2:(p::up).getLast (by simp)=q
 up3:∀ x ∈ p::up,S x
 up4:pairsP (λ a b=>∀ x,S x->AM a b x<=0) (p::up)
 low:∀ x,S x->p.1<=x.1
 high:∀ x,S x->x.1<=q.1
def Fc (p:V2) (lo up:List V2):Int:=Bp (p::up)-Bp (p::lo)
theorem Ed {R:V2->V2->Prop} : ∀ {l:List V2},pairsP R l->∀ {Q:V2->V2->Prop},(∀ a b,R a b->(∀ T:V2->V2->Prop,pairsP T l->T a b)->Q a b)->pairsP Q l
 | [],_,_,_=>trivial
 | [_],_,_,_=>trivial
 | a::b::r,⟨h1,h2⟩,Q,h=>⟨h a b h1 λ T hT=>hT.1,Ed h2 λ c d hc hT=>h c d hc λ T hq=>hT T hq.2⟩
theorem Lh {E:V2->V2->Prop} (h:∀ a b c d k,E a b->E c d->a.1<b.1->c.1<d.1->a.1<=k->k<=b.1->c.1<=k->k<=d.1->BQ a b k=BQ c d k):∃ f:Int->Rat,∀ a b k,E a b->a.1<b.1->a.1<=k->k<=b.1->f k=BQ a b k:=by
 classical
 refine ⟨λ k=>if hk:∃ e:V2×V2,E e.1 e.2/\e.1.1<e.2.1/\e.1.1<=k/\k<=e.2.1 then BQ (Classical.choose hk).1 (Classical.choose hk).2 k else 0,λ a b k hE h1 h2 h3=>?_⟩
 have hk:∃ e:V2×V2,E e.1 e.2/\e.1.1<e.2.1/\e.1.1<=k/\k<=e.2.1:=⟨(a,b),hE,h1,h2,h3⟩
 simp only [dif_pos hk]
 have hs:=Classical.choose_spec hk
 exact h _ _ _ _ k hs.1 hE hs.2.1 h1 hs.2.2.1 hs.2.2.2 h2 h3
theorem Band.width {S:V2->Prop} {p q:V2} {lo up:List V2} (B:Band S p q lo up):∃ w:Int->Rat,(∀ k,p.1<=k->k<=q.1->p.1<q.1->0<=w k)/\((Fc p lo up:Int):Rat)=BK w p.1 (q.1-p.1).toNat /\
  ∀ (S' : V2->Prop) p' q' lo' up',Band S' p' q' lo' up'->(∀ x,S' x->S x)->((Fc p' lo' up' : Int):Rat)<=BK w p'.1 (q'.1-p'.1).toNat:=by
 have eL:∀ a b,(∀ T:V2->V2->Prop,pairsP T (p::lo)->T a b)->(S a/\S b)/\∀ x,S x->0<=AM a b x:=λ a b h=>⟨h _ (pairsP.mem B.lo3),h _ B.lo4⟩
 have eU:∀ a b,(∀ T:V2->V2->Prop,pairsP T (p::up)->T a b)->(S a/\S b)/\∀ x,S x->AM a b x<=0:=λ a b h=>⟨h _ (pairsP.mem B.up3),h _ B.up4⟩
 obtain ⟨f,hf⟩:=Lh (E:=λ a b=>∀ T:V2->V2->Prop,pairsP T (p::lo)->T a b) (by
  intro a b c d k h1 h2 l1 l2 k1 k2 k3 k4
  have x1:=eL a b h1
  have x2:=eL c d h2
  have y1:=I6 (k:=k) l1 l2 k3 k4 (x1.2 c x2.1.1) (x1.2 d x2.1.2)
  have y2:=I6 (k:=k) l2 l1 k1 k2 (x2.2 a x1.1.1) (x2.2 b x1.1.2)
  grind)
 obtain ⟨g,hg⟩:=Lh (E:=λ a b=>∀ T:V2->V2->Prop,pairsP T (p::up)->T a b) (by
  intro a b c d k h1 h2 l1 l2 k1 k2 k3 k4
  have x1:=eU a b h1
  have x2:=eU c d h2
  have y1:=MU (k:=k) l1 l2 k3 k4 (x1.2 c x2.1.1) (x1.2 d x2.1.2)
  have y2:=MU (k:=k) l2 l1 k1 k2 (x2.2 a x1.1.1) (x2.2 b x1.1.2)
  grind)
 have cL:∀ k,p.1<=k->k<=q.1->p.1<q.1->∃ a b,a.1<b.1/\a.1<=k/\k<=b.1/\f k=BQ a b k/\∀ x,S x->0<=AM a b x:=λ k h1 h2 h3=>by
  obtain ⟨a,b,c1,c2,c3,c4⟩:=Gg B.lo1 h1 (by rw [B.lo2];exact h2) (by rw [B.lo2];exact h3)
  exact ⟨a,b,c1,c2,c3,hf a b k c4 c1 c2 c3,(eL a b c4).2⟩
 have cU:∀ k,p.1<=k->k<=q.1->p.1<q.1->∃ a b,a.1<b.1/\a.1<=k/\k<=b.1/\g k=BQ a b k/\(S a/\S b)/\∀ x,S x->AM a b x<=0:=λ k h1 h2 h3=>by
  obtain ⟨a,b,c1,c2,c3,c4⟩:=Gg B.up1' h1 (by rw [B.up2];exact h2) (by rw [B.up2];exact h3)
  exact ⟨a,b,c1,c2,c3,hg a b k c4 c1 c2 c3,eU a b c4⟩
 refine ⟨λ k=>g k-f k,λ k h1 h2 h3=>?_,?_,λ S' p' q' lo' up' B' hS=>?_⟩
 ·obtain ⟨a,b,a1,a2,a3,a4,a5⟩:=cL k h1 h2 h3
  obtain ⟨c,d,c1,c2,c3,c4,c5,c6⟩:=cU k h1 h2 h3
  have:=I6 (k:=k) a1 c1 c2 c3 (a5 c c5.1) (a5 d c5.2)
  grind
 ·have h1:=MV (f:=f) B.lo1 (Ed B.lo1 λ a b _ hT hlt k k1 k2=>hf a b k hT hlt k1 k2)
  have h2:=MV (f:=g) B.up1' (Ed B.up1' λ a b _ hT hlt k k1 k2=>hg a b k hT hlt k1 k2)
  rw [B.lo2] at h1
  rw [B.up2] at h2
  unfold Fc
  rw [KM,Rat.intCast_sub,h1,h2]
 ·have h1:=Qn (f:=f) B'.lo1 (Ed B'.lo1 λ a b _ hT hlt k k1 k2=>by
   have hm:=hT _ (pairsP.mem B'.lo3)
   have r1:=B.low a (hS a hm.1)
   have r2:=B.high b (hS b hm.2)
   obtain ⟨u,v,u1,u2,u3,u4,u5⟩:=cL k (by omega) (by omega) (by omega)
   rw [u4]
   exact I6 u1 hlt k1 k2 (u5 a (hS a hm.1)) (u5 b (hS b hm.2)))
  have h2:=Qo (f:=g) B'.up1' (Ed B'.up1' λ a b _ hT hlt k k1 k2=>by
   have hm:=hT _ (pairsP.mem B'.up3)
   have r1:=B.low a (hS a hm.1)
   have r2:=B.high b (hS b hm.2)
   obtain ⟨u,v,u1,u2,u3,u4,-,u5⟩:=cU k (by omega) (by omega) (by omega)
   rw [u4]
   exact MU u1 hlt k1 k2 (u5 a (hS a hm.1)) (u5 b (hS b hm.2)))
  rw [B'.lo2] at h1
  rw [B'.up2] at h2
  unfold Fc
  rw [KM,Rat.intCast_sub]
  grind
theorem Band.mem_p {S:V2->Prop} {p q:V2} {lo up:List V2} (B:Band S p q lo up):S p/\S q:=⟨B.lo3 p (by simp),by rw [← B.lo2];exact B.lo3 _ (List.getLast_mem _)⟩
theorem Band.mono {S S' : V2->Prop} {p q p' q' : V2} {lo up lo' up' : List V2} (B:Band S p q lo up) (B' : Band S' p' q' lo' up') (hS:∀ x,S' x->S x):Fc p' lo' up'<=Fc p lo up:=by
 obtain ⟨w,w1,w2,w3⟩:=B.width
 have h:=w3 S' p' q' lo' up' B' hS
 have hp:=B.low _ (hS _ B'.mem_p.1)
 have hq:=B.high _ (hS _ B'.mem_p.2)
 have he:=B'.ends
 rw [← Rat.intCast_le_intCast,w2]
 have e:(q.1-p.1).toNat=(p'.1-p.1).toNat+((q'.1-p'.1).toNat+(q.1-q'.1).toNat):=by omega
 rw [e,Ec,Ec,show p.1+(((p'.1-p.1).toNat:Nat):Int)=p'.1 by omega,show p'.1+(((q'.1-p'.1).toNat:Nat):Int)=q'.1 by omega]
 have n1:0<=BK w p.1 (p'.1-p.1).toNat:=by
  by_cases h0:p.1<p'.1
  ·exact Fb λ k k1 k2=>w1 k k1 (by omega) (by omega)
  ·rw [show (p'.1-p.1).toNat=0 by omega];simp [BK]
 have n2:0<=BK w q'.1 (q.1-q'.1).toNat:=by
  by_cases h0:q'.1<q.1
  ·exact Fb λ k k1 k2=>w1 k (by omega) (by omega) (by omega)
  ·rw [show (q.1-q'.1).toNat=0 by omega];simp [BK]
 grind
end Go.Proofs.YtdgmbbjoifneiaaGreatDoor
