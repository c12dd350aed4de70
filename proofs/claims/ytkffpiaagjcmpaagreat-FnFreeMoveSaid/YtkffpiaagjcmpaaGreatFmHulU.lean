import Derived.Test.YtkffpiaagjcmpaaGreatFmHus
namespace Go.Proofs.YtkffpiaagjcmpaaGreat
set_option linter.unusedVariables false
set_option linter.unusedSimpArgs false
def trI (a b:V2):Int:=(b.1-a.1)*(a.2+b.2)
def DG:List V2->Int
 | a::b::r=>trI a b+DG (b::r)
 | _=>0
def pairsP (R:V2->V2->Prop):List V2->Prop
 | a::b::r=>R a b/\pairsP R (b::r)
 | _=>True
theorem pairsP.imp {R Q:V2->V2->Prop} (h:∀ a b,R a b->Q a b):∀ {l:List V2},pairsP R l->pairsP Q l
 | [],_=>trivial
 | [_],_=>trivial
 | a::b::r,⟨h1,h2⟩=>⟨h a b h1,pairsP.imp h h2⟩
theorem pairsP.and {R Q:V2->V2->Prop} : ∀ {l:List V2},pairsP R l->pairsP Q l->pairsP (λ a b=>R a b/\Q a b) l
 | [],_,_=>trivial
 | [_],_,_=>trivial
 | a::b::r,⟨h1,h2⟩,⟨k1,k2⟩=>⟨⟨h1,k1⟩,pairsP.and h2 k2⟩
theorem pairsP.mem {S:V2->Prop} : ∀ {l:List V2},(∀ x ∈ l,S x)->pairsP (λ a b=>S a/\S b) l
 | [],_=>trivial
 | [_],_=>trivial
 | a::b::r,h=>⟨⟨h a (by simp),h b (by simp)⟩,pairsP.mem λ x hx=>h x (List.mem_cons_of_mem _ hx)⟩
def CT (a b:V2) (k:Int):Rat:=((a.2*(b.1-k)+b.2*(k-a.1):Int):Rat)/((b.1-a.1:Int):Rat)
def Bz (f:Int->Rat) (a:Int):Nat->Rat
 | 0=>0
 | n+1=>Bz f a n+(f (a+n)+f (a+n+1))
theorem DL (f:Int->Rat) (a:Int) (m:Nat):∀ n,Bz f a (m+n)=Bz f a m+Bz f (a+m) n
 | 0=>by simp only [Bz,Nat.add_zero];grind
 | n+1=>by
  have ih:=DL f a m n
  show Bz f a (m+n)+(f (a+((m+n:Nat):Int))+f (a+((m+n:Nat):Int)+1))=Bz f a m+(Bz f (a+m) n+(f (a+m+n)+f (a+m+n+1)))
  rw [ih,show a+((m+n:Nat):Int)=a+m+n by omega]
  grind
theorem J6 {f g:Int->Rat} {a:Int} : ∀ {n:Nat},(∀ k,a<=k->k<=a+n->f k<=g k)->Bz f a n<=Bz g a n
 | 0,_=>by simp only [Bz];grind
 | n+1,h=>by
  have ih:=J6 (f:=f) (g:=g) (a:=a) (n:=n) λ k h1 h2=>h k h1 (by omega)
  have h1:=h (a+n) (by omega) (by omega)
  have h2:=h (a+n+1) (by omega) (by omega)
  simp only [Bz]
  grind
theorem Ug {f g:Int->Rat} {a:Int} {n:Nat} (h:∀ k,a<=k->k<=a+n->f k=g k):Bz f a n=Bz g a n:=by
 have h1:=J6 (f:=f) (g:=g) (a:=a) (n:=n) λ k p q=>by rw [h k p q];grind
 have h2:=J6 (f:=g) (g:=f) (a:=a) (n:=n) λ k p q=>by rw [h k p q];grind
 grind
theorem Fi {f:Int->Rat} {a:Int} : ∀ {n:Nat},(∀ k,a<=k->k<=a+n->0<=f k)->0<=Bz f a n
 | 0,_=>by simp only [Bz];grind
 | n+1,h=>by
  have ih:=Fi (f:=f) (a:=a) (n:=n) λ k h1 h2=>h k h1 (by omega)
  have h1:=h (a+n) (by omega) (by omega)
  have h2:=h (a+n+1) (by omega) (by omega)
  simp only [Bz]
  grind
theorem Nw (f g:Int->Rat) (a:Int):∀ n,Bz (λ k=>f k-g k) a n=Bz f a n-Bz g a n
 | 0=>by simp only [Bz];grind
 | n+1=>by
  have:=Nw f g a n
  simp only [Bz,this]
  grind
theorem Pj (a b:V2) (h:a.1<b.1):∀ n:Nat,Bz (CT a b) a.1 n*((b.1-a.1:Int):Rat)=((n:Int):Rat)*((a.2*(b.1-a.1)+(a.2*(b.1-(a.1+n))+b.2*n):Int):Rat)
 | 0=>by simp only [Bz];grind
 | n+1=>by
  have ih:=Pj a b h n
  have hd:((b.1-a.1:Int):Rat)≠0:=by
   intro e
   have:b.1-a.1=0:=by exact_mod_cast e
   omega
  have e1:CT a b (a.1+n)*((b.1-a.1:Int):Rat)=((a.2*(b.1-(a.1+n))+b.2*((a.1+n)-a.1):Int):Rat):=by
   unfold CT;grind
  have e2:CT a b (a.1+n+1)*((b.1-a.1:Int):Rat)=((a.2*(b.1-(a.1+n+1))+b.2*((a.1+n+1)-a.1):Int):Rat):=by
   unfold CT;grind
  simp only [Bz]
  have e3:(Bz (CT a b) a.1 n+(CT a b (a.1+n)+CT a b (a.1+n+1)))*((b.1-a.1:Int):Rat)=Bz (CT a b) a.1 n*((b.1-a.1:Int):Rat)+(CT a b (a.1+n)*((b.1-a.1:Int):Rat)+CT a b (a.1+n+1)*((b.1-a.1:Int):Rat)):=by grind
  rw [e3,ih,e1,e2]
  push_cast
  grind
theorem Qd (a b:V2) (h:a.1<b.1):((trI a b:Int):Rat)=Bz (CT a b) a.1 (b.1-a.1).toNat:=by
 have hl:=Pj a b h (b.1-a.1).toNat
 have hn:(((b.1-a.1).toNat:Nat):Int)=b.1-a.1:=by omega
 rw [hn] at hl
 have hd:(0:Rat)<((b.1-a.1:Int):Rat):=by exact_mod_cast (show 0<b.1-a.1 by omega)
 have e:((a.2*(b.1-a.1)+(a.2*(b.1-(a.1+(b.1-a.1)))+b.2*(b.1-a.1)):Int))=trI a b:=by unfold trI;grind
 rw [e] at hl
 have hd0:((b.1-a.1:Int):Rat)≠0:=by grind
 grind
theorem Pk {x y c d:Rat} (hc:0<c) (hd:0<d) (h:x*d<=y*c):x/c<=y/d:=by
 have h1:x/c*(c*d)<=y/d*(c*d):=by
  have e1:x/c*(c*d)=x*d:=by
   have:c≠0:=by grind
   grind
  have e2:y/d*(c*d)=y*c:=by
   have:d≠0:=by grind
   grind
  rw [e1,e2];exact h
 exact Rat.le_of_mul_le_mul_right h1 (Rat.mul_pos hc hd)
theorem MY {a b u v:V2} {k:Int} (hg:a.1<b.1) (he:u.1<v.1) (h1:u.1<=k) (h2:k<=v.1) (hu:0<=AG a b u) (hv:0<=AG a b v):CT a b k<=CT u v k:=by
 unfold CT
 have p1:(0:Rat)<((b.1-a.1:Int):Rat):=by exact_mod_cast (show 0<b.1-a.1 by omega)
 have p2:(0:Rat)<((v.1-u.1:Int):Rat):=by exact_mod_cast (show 0<v.1-u.1 by omega)
 refine Pk p1 p2 ?_
 rw [← Rat.intCast_mul,← Rat.intCast_mul,Rat.intCast_le_intCast]
 have q1:=Int.mul_nonneg (show 0<=v.1-k by omega) hu
 have q2:=Int.mul_nonneg (show 0<=k-u.1 by omega) hv
 unfold AG at q1 q2
 grind
theorem Qe {a b u v:V2} {k:Int} (hg:a.1<b.1) (he:u.1<v.1) (h1:u.1<=k) (h2:k<=v.1) (hu:AG a b u<=0) (hv:AG a b v<=0):CT u v k<=CT a b k:=by
 unfold CT
 have p1:(0:Rat)<((b.1-a.1:Int):Rat):=by exact_mod_cast (show 0<b.1-a.1 by omega)
 have p2:(0:Rat)<((v.1-u.1:Int):Rat):=by exact_mod_cast (show 0<v.1-u.1 by omega)
 refine Pk p2 p1 ?_
 rw [← Rat.intCast_mul,← Rat.intCast_mul,Rat.intCast_le_intCast]
 have q1:=Int.mul_nonneg (show 0<=v.1-k by omega) (show 0<=- AG a b u by omega)
 have q2:=Int.mul_nonneg (show 0<=k-u.1 by omega) (show 0<=- AG a b v by omega)
 unfold AG at q1 q2
 grind
def up1 (a b:V2):Prop:=a.1<=b.1
theorem G3 {p:V2} : ∀ {l:List V2},pairsP up1 (p::l)->p.1<=((p::l).getLast (by simp)).1
 | [],_=>by simp
 | b::r,⟨h1,h2⟩=>by
  have:=G3 h2
  rw [List.getLast_cons (by simp)]
  unfold up1 at h1;omega
theorem JI {p:V2} {k:Int} : ∀ {l:List V2},pairsP up1 (p::l)->p.1<=k->k<=((p::l).getLast (by simp)).1->p.1<((p::l).getLast (by simp)).1->∃ a b,a.1<b.1/\a.1<=k/\k<=b.1/\∀ R:V2->V2->Prop,pairsP R (p::l)->R a b
 | [],_,_,_,h=>by simp at h
 | b::r,⟨h1,h2⟩,q1,q2,q3=>by
  rw [List.getLast_cons (by simp)] at q2 q3
  unfold up1 at h1
  by_cases hk:k<=b.1/\p.1<b.1
  ·exact ⟨p,b,hk.2,q1,hk.1,λ R hR=>hR.1⟩
  ·obtain ⟨a,c,c1,c2,c3,c4⟩:=JI h2 (by omega) q2 (by omega)
   exact ⟨a,c,c1,c2,c3,λ R hR=>c4 R hR.2⟩
theorem Qf {f:Int->Rat} {p:V2} : ∀ {l:List V2},pairsP up1 (p::l)->pairsP (λ a b=>a.1<b.1->∀ k,a.1<=k->k<=b.1->f k=CT a b k) (p::l)->((DG (p::l):Int):Rat)=Bz f p.1 (((p::l).getLast (by simp)).1-p.1).toNat
 | [],_,_=>by simp [DG,Bz]
 | b::r,⟨h1,h2⟩,⟨f1,f2⟩=>by
  have ih:=Qf h2 f2
  have hl:=G3 h2
  unfold up1 at h1
  have e:(((p::b::r).getLast (by simp)).1-p.1).toNat=(b.1-p.1).toNat+(((b::r).getLast (by simp)).1-b.1).toNat:=by
   rw [List.getLast_cons (by simp)];omega
  rw [e,DL,show p.1+(((b.1-p.1).toNat:Nat):Int)=b.1 by omega,← ih]
  simp only [DG]
  rw [Rat.intCast_add]
  congr 1
  by_cases hlt:p.1<b.1
  ·rw [Qd p b hlt]
   exact (Ug λ k k1 k2=>f1 hlt k k1 (by omega)).symm
  ·have:p.1=b.1:=by omega
   have e0:trI p b=0:=by unfold trI;rw [this,Int.sub_self,Int.zero_mul]
   rw [e0,this,Int.sub_self];rfl
theorem Vt {f:Int->Rat} {p:V2} : ∀ {l:List V2},pairsP up1 (p::l)->pairsP (λ a b=>a.1<b.1->∀ k,a.1<=k->k<=b.1->f k<=CT a b k) (p::l)->Bz f p.1 (((p::l).getLast (by simp)).1-p.1).toNat<=((DG (p::l):Int):Rat)
 | [],_,_=>by simp [DG,Bz]
 | b::r,⟨h1,h2⟩,⟨f1,f2⟩=>by
  have ih:=Vt h2 f2
  have hl:=G3 h2
  unfold up1 at h1
  have e:(((p::b::r).getLast (by simp)).1-p.1).toNat=(b.1-p.1).toNat+(((b::r).getLast (by simp)).1-b.1).toNat:=by
   rw [List.getLast_cons (by simp)];omega
  rw [e,DL,show p.1+(((b.1-p.1).toNat:Nat):Int)=b.1 by omega]
  simp only [DG]
  rw [Rat.intCast_add]
  have h0:Bz f p.1 (b.1-p.1).toNat<=((trI p b:Int):Rat):=by
   by_cases hlt:p.1<b.1
   ·rw [Qd p b hlt]
    exact J6 λ k k1 k2=>f1 hlt k k1 (by omega)
   ·have:p.1=b.1:=by omega
    have e0:trI p b=0:=by unfold trI;rw [this,Int.sub_self,Int.zero_mul]
    rw [e0,this,Int.sub_self]
    simp [Bz]
  grind
theorem Vu {f:Int->Rat} {p:V2} : ∀ {l:List V2},pairsP up1 (p::l)->pairsP (λ a b=>a.1<b.1->∀ k,a.1<=k->k<=b.1->CT a b k<=f k) (p::l)->((DG (p::l):Int):Rat)<=Bz f p.1 (((p::l).getLast (by simp)).1-p.1).toNat
 | [],_,_=>by simp [DG,Bz]
 | b::r,⟨h1,h2⟩,⟨f1,f2⟩=>by
  have ih:=Vu h2 f2
  have hl:=G3 h2
  unfold up1 at h1
  have e:(((p::b::r).getLast (by simp)).1-p.1).toNat=(b.1-p.1).toNat+(((b::r).getLast (by simp)).1-b.1).toNat:=by
   rw [List.getLast_cons (by simp)];omega
  rw [e,DL,show p.1+(((b.1-p.1).toNat:Nat):Int)=b.1 by omega]
  simp only [DG]
  rw [Rat.intCast_add]
  have h0:((trI p b:Int):Rat)<=Bz f p.1 (b.1-p.1).toNat:=by
   by_cases hlt:p.1<b.1
   ·rw [Qd p b hlt]
    exact J6 λ k k1 k2=>f1 hlt k k1 (by omega)
   ·have:p.1=b.1:=by omega
    have e0:trI p b=0:=by unfold trI;rw [this,Int.sub_self,Int.zero_mul]
    rw [e0,this,Int.sub_self]
    simp [Bz]
  grind
structure Band (S:V2->Prop) (p q:V2) (lo up:List V2):Prop where
 ends:p.1<=q.1
 lo1:pairsP up1 (p::lo)
 lo2:(p::lo).getLast (by simp)=q
 lo3:∀ x ∈ p::lo,S x
 lo4:pairsP (λ a b=>∀ x,S x->0<=AG a b x) (p::lo)
 up1' : pairsP up1 (p::up)
 up2:(p::up).getLast (by simp)=q
 up3:∀ x ∈ p::up,S x
 up4:pairsP (λ a b=>∀ x,S x->AG a b x<=0) (p::up)
 low:∀ x,S x->p.1<=x.1
 high:∀ x,S x->x.1<=q.1
def GQ (p:V2) (lo up:List V2):Int:=DG (p::up)-DG (p::lo)
theorem GR {R:V2->V2->Prop} : ∀ {l:List V2},pairsP R l->∀ {Q:V2->V2->Prop},(∀ a b,R a b->(∀ T:V2->V2->Prop,pairsP T l->T a b)->Q a b)->pairsP Q l
 | [],_,_,_=>trivial
 | [_],_,_,_=>trivial
 | a::b::r,⟨h1,h2⟩,Q,h=>⟨h a b h1 λ T hT=>hT.1,GR h2 λ c d hc hT=>h c d hc λ T hq=>hT T hq.2⟩
theorem Pm {E:V2->V2->Prop} (h:∀ a b c d k,E a b->E c d->a.1<b.1->c.1<d.1->a.1<=k->k<=b.1->c.1<=k->k<=d.1->CT a b k=CT c d k):∃ f:Int->Rat,∀ a b k,E a b->a.1<b.1->a.1<=k->k<=b.1->f k=CT a b k:=by
 classical
 refine ⟨λ k=>if hk:∃ e:V2×V2,E e.1 e.2/\e.1.1<e.2.1/\e.1.1<=k/\k<=e.2.1 then CT (Classical.choose hk).1 (Classical.choose hk).2 k else 0,λ a b k hE h1 h2 h3=>?_⟩
 have hk:∃ e:V2×V2,E e.1 e.2/\e.1.1<e.2.1/\e.1.1<=k/\k<=e.2.1:=⟨(a,b),hE,h1,h2,h3⟩
 simp only [dif_pos hk]
 have hs:=Classical.choose_spec hk
 exact h _ _ _ _ k hs.1 hE hs.2.1 h1 hs.2.2.1 hs.2.2.2 h2 h3
theorem Band.width {S:V2->Prop} {p q:V2} {lo up:List V2} (B:Band S p q lo up):∃ w:Int->Rat,(∀ k,p.1<=k->k<=q.1->p.1<q.1->0<=w k)/\((GQ p lo up:Int):Rat)=Bz w p.1 (q.1-p.1).toNat /\
  ∀ (S' : V2->Prop) p' q' lo' up',Band S' p' q' lo' up'->(∀ x,S' x->S x)->((GQ p' lo' up' : Int):Rat)<=Bz w p'.1 (q'.1-p'.1).toNat:=by
 have eL:∀ a b,(∀ T:V2->V2->Prop,pairsP T (p::lo)->T a b)->(S a/\S b)/\∀ x,S x->0<=AG a b x:=λ a b h=>⟨h _ (pairsP.mem B.lo3),h _ B.lo4⟩
 have eU:∀ a b,(∀ T:V2->V2->Prop,pairsP T (p::up)->T a b)->(S a/\S b)/\∀ x,S x->AG a b x<=0:=λ a b h=>⟨h _ (pairsP.mem B.up3),h _ B.up4⟩
 obtain ⟨f,hf⟩:=Pm (E:=λ a b=>∀ T:V2->V2->Prop,pairsP T (p::lo)->T a b) (by
  intro a b c d k h1 h2 l1 l2 k1 k2 k3 k4
  have x1:=eL a b h1
  have x2:=eL c d h2
  have y1:=MY (k:=k) l1 l2 k3 k4 (x1.2 c x2.1.1) (x1.2 d x2.1.2)
  have y2:=MY (k:=k) l2 l1 k1 k2 (x2.2 a x1.1.1) (x2.2 b x1.1.2)
  grind)
 obtain ⟨g,hg⟩:=Pm (E:=λ a b=>∀ T:V2->V2->Prop,pairsP T (p::up)->T a b) (by
  intro a b c d k h1 h2 l1 l2 k1 k2 k3 k4
  have x1:=eU a b h1
  have x2:=eU c d h2
  have y1:=Qe (k:=k) l1 l2 k3 k4 (x1.2 c x2.1.1) (x1.2 d x2.1.2)
  have y2:=Qe (k:=k) l2 l1 k1 k2 (x2.2 a x1.1.1) (x2.2 b x1.1.2)
  grind)
 have cL:∀ k,p.1<=k->k<=q.1->p.1<q.1->∃ a b,a.1<b.1/\a.1<=k/\k<=b.1/\f k=CT a b k/\∀ x,S x->0<=AG a b x:=λ k h1 h2 h3=>by
  obtain ⟨a,b,c1,c2,c3,c4⟩:=JI B.lo1 h1 (by rw [B.lo2];exact h2) (by rw [B.lo2];exact h3)
  exact ⟨a,b,c1,c2,c3,hf a b k c4 c1 c2 c3,(eL a b c4).2⟩
 have cU:∀ k,p.1<=k->k<=q.1->p.1<q.1->∃ a b,a.1<b.1/\a.1<=k/\k<=b.1/\g k=CT a b k/\(S a/\S b)/\∀ x,S x->AG a b x<=0:=λ k h1 h2 h3=>by
  obtain ⟨a,b,c1,c2,c3,c4⟩:=JI B.up1' h1 (by rw [B.up2];exact h2) (by rw [B.up2];exact h3)
  exact ⟨a,b,c1,c2,c3,hg a b k c4 c1 c2 c3,eU a b c4⟩
 refine ⟨λ k=>g k-f k,λ k h1 h2 h3=>?_,?_,λ S' p' q' lo' up' B' hS=>?_⟩
 ·obtain ⟨a,b,a1,a2,a3,a4,a5⟩:=cL k h1 h2 h3
  obtain ⟨c,d,c1,c2,c3,c4,c5,c6⟩:=cU k h1 h2 h3
  have:=MY (k:=k) a1 c1 c2 c3 (a5 c c5.1) (a5 d c5.2)
  grind
 ·have h1:=Qf (f:=f) B.lo1 (GR B.lo1 λ a b _ hT hlt k k1 k2=>hf a b k hT hlt k1 k2)
  have h2:=Qf (f:=g) B.up1' (GR B.up1' λ a b _ hT hlt k k1 k2=>hg a b k hT hlt k1 k2)
  rw [B.lo2] at h1
  rw [B.up2] at h2
  unfold GQ
  rw [Nw,Rat.intCast_sub,h1,h2]
 ·have h1:=Vt (f:=f) B'.lo1 (GR B'.lo1 λ a b _ hT hlt k k1 k2=>by
   have hm:=hT _ (pairsP.mem B'.lo3)
   have r1:=B.low a (hS a hm.1)
   have r2:=B.high b (hS b hm.2)
   obtain ⟨u,v,u1,u2,u3,u4,u5⟩:=cL k (by omega) (by omega) (by omega)
   rw [u4]
   exact MY u1 hlt k1 k2 (u5 a (hS a hm.1)) (u5 b (hS b hm.2)))
  have h2:=Vu (f:=g) B'.up1' (GR B'.up1' λ a b _ hT hlt k k1 k2=>by
   have hm:=hT _ (pairsP.mem B'.up3)
   have r1:=B.low a (hS a hm.1)
   have r2:=B.high b (hS b hm.2)
   obtain ⟨u,v,u1,u2,u3,u4,-,u5⟩:=cU k (by omega) (by omega) (by omega)
   rw [u4]
   exact Qe u1 hlt k1 k2 (u5 a (hS a hm.1)) (u5 b (hS b hm.2)))
  rw [B'.lo2] at h1
  rw [B'.up2] at h2
  unfold GQ
  rw [Nw,Rat.intCast_sub]
  grind
theorem Band.mem_p {S:V2->Prop} {p q:V2} {lo up:List V2} (B:Band S p q lo up):S p/\S q:=⟨B.lo3 p (by simp),by rw [← B.lo2];exact B.lo3 _ (List.getLast_mem _)⟩
theorem Band.mono {S S' : V2->Prop} {p q p' q' : V2} {lo up lo' up' : List V2} (B:Band S p q lo up) (B' : Band S' p' q' lo' up') (hS:∀ x,S' x->S x):GQ p' lo' up'<=GQ p lo up:=by
 obtain ⟨w,w1,w2,w3⟩:=B.width
 have h:=w3 S' p' q' lo' up' B' hS
 have hp:=B.low _ (hS _ B'.mem_p.1)
 have hq:=B.high _ (hS _ B'.mem_p.2)
 have he:=B'.ends
 rw [← Rat.intCast_le_intCast,w2]
 have e:(q.1-p.1).toNat=(p'.1-p.1).toNat+((q'.1-p'.1).toNat+(q.1-q'.1).toNat):=by omega
 rw [e,DL,DL,show p.1+(((p'.1-p.1).toNat:Nat):Int)=p'.1 by omega,show p'.1+(((q'.1-p'.1).toNat:Nat):Int)=q'.1 by omega]
 have n1:0<=Bz w p.1 (p'.1-p.1).toNat:=by
  by_cases h0:p.1<p'.1
  ·exact Fi λ k k1 k2=>w1 k k1 (by omega) (by omega)
  ·rw [show (p'.1-p.1).toNat=0 by omega];simp [Bz]
 have n2:0<=Bz w q'.1 (q.1-q'.1).toNat:=by
  by_cases h0:q'.1<q.1
  ·exact Fi λ k k1 k2=>w1 k (by omega) (by omega) (by omega)
  ·rw [show (q.1-q'.1).toNat=0 by omega];simp [Bz]
 grind
theorem Band.two {S S1 S2:V2->Prop} {p q p1 q1 p2 q2:V2} {lo up lo1 up1 lo2 up2:List V2} (B:Band S p q lo up) (B1:Band S1 p1 q1 lo1 up1) (B2:Band S2 p2 q2 lo2 up2) (h1:∀ x,S1 x->S x) (h2:∀ x,S2 x->S x) (h12:q1.1<=p2.1):GQ p1 lo1 up1+GQ p2 lo2 up2<=GQ p lo up:=by
 obtain ⟨w,w1,w2,w3⟩:=B.width
 have k1:=w3 S1 p1 q1 lo1 up1 B1 h1
 have k2:=w3 S2 p2 q2 lo2 up2 B2 h2
 have a1:=B.low _ (h1 _ B1.mem_p.1)
 have a2:=B.high _ (h2 _ B2.mem_p.2)
 have a3:=B1.ends
 have a4:=B2.ends
 rw [← Rat.intCast_le_intCast,w2,Rat.intCast_add]
 have e:(q.1-p.1).toNat=(p1.1-p.1).toNat+((q1.1-p1.1).toNat+((p2.1-q1.1).toNat+((q2.1-p2.1).toNat+(q.1-q2.1).toNat))):=by omega
 rw [e,DL,DL,DL,DL,show p.1+(((p1.1-p.1).toNat:Nat):Int)=p1.1 by omega,show p1.1+(((q1.1-p1.1).toNat:Nat):Int)=q1.1 by omega,show q1.1+(((p2.1-q1.1).toNat:Nat):Int)=p2.1 by omega,show p2.1+(((q2.1-p2.1).toNat:Nat):Int)=q2.1 by omega]
 have nn:∀ a b:Int,p.1<=a->b<=q.1->0<=Bz w a (b-a).toNat:=λ a b ha hb=>by
  by_cases h0:a<b
  ·exact Fi λ k k1 k2=>w1 k (by omega) (by omega) (by omega)
  ·rw [show (b-a).toNat=0 by omega];simp [Bz]
 have n1:=nn p.1 p1.1 (by omega) (by omega)
 have n2:=nn q1.1 p2.1 (by omega) (by omega)
 have n3:=nn q2.1 q.1 (by omega) (by omega)
 grind
end Go.Proofs.YtkffpiaagjcmpaaGreat
namespace Go.Proofs.YtkffpiaagjcmpaaGreat
set_option linter.unusedVariables false
set_option linter.unusedSimpArgs false
def fan (o:V2):List V2->Int
 | a::b::r=>AG o a b+fan o (b::r)
 | _=>0
theorem Ring.congr {S T:V2->Prop} {h:List V2} (r:Ring S h) (e:∀ x,S x↔T x):Ring T h where
 mem:=λ i hi=>(e _).1 (r.mem i hi)
 ext:=λ i hi x y hx hy h1 h2 h3=>r.ext i hi x y ((e _).2 hx) ((e _).2 hy) h1 h2 h3
 side:=λ i hi x hx=>r.side i hi x ((e _).2 hx)
 inj:=r.inj
theorem Band.congr {S T:V2->Prop} {p q:V2} {lo up:List V2} (B:Band S p q lo up) (e:∀ x,S x↔T x):Band T p q lo up where
 ends:=B.ends
 lo1:=B.lo1
 lo2:=B.lo2
 lo3:=λ x hx=>(e _).1 (B.lo3 x hx)
 lo4:=B.lo4.imp λ a b h x hx=>h x ((e _).2 hx)
 up1':=B.up1'
 up2:=B.up2
 up3:=λ x hx=>(e _).1 (B.up3 x hx)
 up4:=B.up4.imp λ a b h x hx=>h x ((e _).2 hx)
 low:=λ x hx=>B.low x ((e _).2 hx)
 high:=λ x hx=>B.high x ((e _).2 hx)
def AEE (h:List V2):Int:=fan (h.getD 0 (0,0)) h
structure HullOk (S:V2->Prop) (h:List V2):Prop where
 ring:Ring S h
 three:3<=h.length
 band:∃ p q lo up,Band S p q lo up/\AEE h=GQ p lo up/\(∀ x ∈ p::lo,x ∈ h)/\∀ x ∈ p::up,x ∈ h
theorem FL {R Q:V2->V2->Prop} {f:V2->V2} (h:∀ a b,R a b->Q (f a) (f b)):∀ {l:List V2},pairsP R l->pairsP Q (l.map f)
 | [],_=>trivial
 | [_],_=>trivial
 | a::b::r,⟨h1,h2⟩=>⟨h a b h1,FL h (l:=b::r) h2⟩
theorem Pn (t a b x:V2):AG (BU t a) (BU t b) (BU t x)=AG a b x:=by unfold AG BU;grind
theorem JJ (t:V2):∀ (a:V2) (l:List V2),DG ((a::l).map (BU t))=DG (a::l)+2*t.2*(((a::l).getLast (by simp)).1-a.1)
 | a,[]=>by simp [DG]
 | a,b::r=>by
  have ih:=JJ t b r
  rw [List.getLast_cons (by simp)]
  simp only [List.map_cons,DG] at ih ⊢
  rw [ih]
  unfold trI BU
  grind
theorem Band.shift {S T:V2->Prop} {p q:V2} {lo up:List V2} (B:Band S p q lo up) (t:V2) (e:∀ x,T x↔∃ y,S y/\x=BU t y):Band T (BU t p) (BU t q) (lo.map (BU t)) (up.map (BU t))/\GQ (BU t p) (lo.map (BU t)) (up.map (BU t))=GQ p lo up:=by
 have cm:∀ l:List V2,BU t p::l.map (BU t)=(p::l).map (BU t):=λ l=>rfl
 have gl:∀ l:List V2,(BU t p::l.map (BU t)).getLast (by simp)=BU t ((p::l).getLast (by simp)):=λ l=>by
  have:=List.getLast_map (f:=BU t) (l:=p::l) (by simp)
  simpa using this
 refine ⟨⟨?_,FL (λ a b h=>?_) B.lo1,?_,λ x hx=>?_,FL (λ a b h=>?_) B.lo4,FL (λ a b h=>?_) B.up1',?_,λ x hx=>?_,FL (λ a b h=>?_) B.up4,λ x hx=>?_,λ x hx=>?_⟩,?_⟩
 ·have:=B.ends;simp only [BU];omega
 ·unfold up1 at h ⊢;simp only [BU];omega
 ·rw [gl,B.lo2]
 ·rw [cm] at hx
  obtain ⟨y,hy,rfl⟩:=List.mem_map.1 hx
  exact (e _).2 ⟨y,B.lo3 y hy,rfl⟩
 ·intro x hx
  obtain ⟨y,hy,rfl⟩:=(e _).1 hx
  rw [Pn];exact h y hy
 ·unfold up1 at h ⊢;simp only [BU];omega
 ·rw [gl,B.up2]
 ·rw [cm] at hx
  obtain ⟨y,hy,rfl⟩:=List.mem_map.1 hx
  exact (e _).2 ⟨y,B.up3 y hy,rfl⟩
 ·intro x hx
  obtain ⟨y,hy,rfl⟩:=(e _).1 hx
  rw [Pn];exact h y hy
 ·obtain ⟨y,hy,rfl⟩:=(e _).1 hx
  have:=B.low y hy;simp only [BU];omega
 ·obtain ⟨y,hy,rfl⟩:=(e _).1 hx
  have:=B.high y hy;simp only [BU];omega
 ·unfold GQ
  rw [cm,cm,JJ,JJ,B.lo2,B.up2]
  omega
end Go.Proofs.YtkffpiaagjcmpaaGreat
namespace Go.Proofs.YtkffpiaagjcmpaaGreat
set_option linter.unusedVariables false
set_option linter.unusedSimpArgs false
theorem Po {l:List V2} (h:AJ l=true) {i j:Nat} (hi:i<l.length) (hj:j<l.length):0<=AG (l.getD i (0,0)) (l.getD ((i+1)%l.length) (0,0)) (l.getD j (0,0)):=by
 obtain ⟨⟨h3,-⟩,-,hs⟩:=Bx.1 h
 by_cases h1:j=i
 ·subst h1;rw [Pe];exact Int.le_refl _
 ·by_cases h2:j=(i+1)%l.length
  ·rw [← h2,JH];exact Int.le_refl _
  ·exact Int.le_of_lt (hs i j hi hj h1 h2)
theorem ABM {i n:Nat} (hi:i<n) (h3:3<=n):∃ j,j<n/\(j+1)%n=i/\(i+1)%n≠j/\(i+1)%n≠i:=by
 by_cases h0:i=0
 ·subst h0
  refine ⟨n-1,by omega,by rw [show n-1+1=n by omega,Nat.mod_self],?_,Vr hi (by omega)⟩
  rw [Nat.mod_eq_of_lt (by omega)];omega
 ·refine ⟨i-1,by omega,by rw [show i-1+1=i by omega,Nat.mod_eq_of_lt hi],?_,Vr hi (by omega)⟩
  by_cases h1:i+1<n
  ·rw [Nat.mod_eq_of_lt h1];omega
  ·rw [show i+1=n by omega,Nat.mod_self];omega
end Go.Proofs.YtkffpiaagjcmpaaGreat
