import Derived.Test.YtdgmbbjoifneiaaGreatDoorPyHul
namespace Go.Proofs.YtdgmbbjoifneiaaGreatDoor
set_option linter.unusedVariables false
set_option linter.unusedSimpArgs false
structure OrdG (lt:V2->V2->Prop):Prop where
 trans:∀ {a b c},lt a b->lt b c->lt a c
 irr:∀ a,¬ lt a a
 tri:∀ a b,lt a b∨a=b∨lt b a
 high:∀ {c b v x},lt c b->lt c v->(x=c∨lt c x)->AM c b v<=0->0<=AM c b x->0<=AM c v x
 next:∀ {z a b v},lt z a->lt a b->lt b v->0<AM z a b->0<AM a b v->0<AM z a v
 low:∀ {a b v x},lt a b->lt b v->lt x b->0<=AM a b x->0<AM a b v->0<=AM b v x
def XX (lt:V2->V2->Prop) (S:V2->Prop) (a b:V2):Prop:=lt a b/\∀ x,S x->0<=AM a b x
theorem R5 (b v:V2):AM b v b=0:=by unfold AM;grind
theorem Ph (b v:V2):AM b v v=0:=by unfold AM;grind
structure Chn (lt:V2->V2->Prop) (S:V2->Prop) (c:List V2):Prop where
 mem:∀ i,i<c.length->S (c.getD i (0,0))
 edge:∀ i,i+1<c.length->XX lt S (c.getD i (0,0)) (c.getD (i+1) (0,0))
 left:∀ i,i+2<c.length->0<AM (c.getD i (0,0)) (c.getD (i+1) (0,0)) (c.getD (i+2) (0,0))
theorem Chn.lt {lt:V2->V2->Prop} (G:OrdG lt) {S:V2->Prop} {c:List V2} (h:Chn lt S c) (i:Nat):∀ d,i+d+1<c.length->lt (c.getD i (0,0)) (c.getD (i+d+1) (0,0))
 | 0,hd=>(h.edge i hd).1
 | d+1,hd=>G.trans (h.lt G i d (by omega)) (h.edge (i+d+1) hd).1
theorem R6 {u1 u2 w1 w2 p1 p2 q1 q2:Int} (h1:0<=u1*p2-u2*p1) (h2:0<=u1*q2-u2*q1) (h3:0<=w1*p2-w2*p1) (h4:0<=w1*q2-w2*q1) (h5:0<u1*w2-u2*w1) (h6:p1*q2=p2*q1) (hp:p1<0∨(p1=0/\p2<0)) (hq:0<q1∨(q1=0/\0<q2)):False:=by
 rcases hp with hp|⟨rfl,hp⟩
 ·have hq1:0<q1:=by
   rcases hq with h|⟨h,h'⟩
   ·exact h
   ·subst h
    have:=Int.mul_neg_of_neg_of_pos hp h'
    omega
  have key:∀ a b:Int,0<=a*p2-b*p1->0<=a*q2-b*q1->a*p2-b*p1=0:=λ a b k1 k2=>by
   have e:(a*q2-b*q1)*p1=q1*(a*p2-b*p1):=by grind
   have k3:(a*q2-b*q1)*p1<=0:=Int.mul_nonpos_of_nonneg_of_nonpos k2 (by omega)
   rw [e] at k3
   by_cases hz:0<a*p2-b*p1
   ·have:=Int.mul_pos hq1 hz;omega
   ·omega
  have k1:=key _ _ h1 h2
  have k2:=key _ _ h3 h4
  have e:(u1*w2-u2*w1)*p1=(u1*p2-u2*p1)*w1-(w1*p2-w2*p1)*u1:=by grind
  rw [k1,k2] at e
  have:=Int.mul_neg_of_pos_of_neg h5 hp
  omega
 ·have hq1:q1=0:=by
   have h6:p2*q1=0:=by omega
   rcases Int.mul_eq_zero.1 h6 with h|h
   ·omega
   ·exact h
  subst hq1
  have hq2:0<q2:=by omega
  have key:∀ a:Int,0<=a*p2->0<=a*q2->a=0:=λ a k1 k2=>by
   by_cases ha:0<a
   ·have:=Int.mul_neg_of_pos_of_neg ha hp;omega
   ·by_cases ha' : a<0
    ·have:=Int.mul_neg_of_neg_of_pos ha' hq2;omega
    ·omega
  have k1:=key u1 (by omega) (by omega)
  have k2:=key w1 (by omega) (by omega)
  subst k1;subst k2
  omega
def W1 (S:V2->Prop) (r:V2):Prop:=∀ x y,S x->S y->Au x r=true->Au r y=true->AM x r y=0->False
theorem Vm {S:V2->Prop} {a r b:V2} (h1:∀ x,S x->0<=AM a r x) (h2:∀ x,S x->0<=AM r b x) (h3:0<AM a r b):W1 S r:=by
 intro x y hx hy hl hr h0
 rw [TH] at hl hr
 have a1:=h1 x hx
 have a2:=h1 y hy
 have a3:=h2 x hx
 have a4:=h2 y hy
 unfold AM at *
 exact R6 (u1:=r.1-a.1) (u2:=r.2-a.2) (w1:=b.1-r.1) (w2:=b.2-r.2) (p1:=x.1-r.1) (p2:=x.2-r.2) (q1:=y.1-r.1) (q2:=y.2-r.2)
  (by grind) (by grind) a3 a4 (by grind) (by grind) (by omega) (by omega)
theorem Chn.ext {lt:V2->V2->Prop} {S:V2->Prop} {c:List V2} (h:Chn lt S c) {i:Nat} (h0:0<i) (h1:i+1<c.length):W1 S (c.getD i (0,0)):=by
 have e1:=h.edge (i-1) (by omega)
 have e2:=h.edge i h1
 have e3:=h.left (i-1) (by omega)
 rw [show i-1+1=i by omega] at e1
 rw [show i-1+1=i by omega,show i-1+2=i+1 by omega] at e3
 exact Vm e1.2 e2.2 e3
structure Ring (S:V2->Prop) (h:List V2):Prop where
 mem:∀ i,i<h.length->S (h.getD i (0,0))
 ext:∀ i,i<h.length->W1 S (h.getD i (0,0))
 side:∀ i,i<h.length->∀ x,S x->0<=AM (h.getD i (0,0)) (h.getD ((i+1)%h.length) (0,0)) x
 inj:∀ i j,i<h.length->j<h.length->i≠j->h.getD i (0,0)≠h.getD j (0,0)
theorem E9 {l:List V2} : AI l=true↔(3<=l.length/\l.length<=16)/\l.all AE=true/\∀ i j,i<l.length->j<l.length->j≠i->j≠(i+1)%l.length->0<AM (l.getD i (0,0)) (l.getD ((i+1)%l.length) (0,0)) (l.getD j (0,0)):=by
 unfold AI
 rw [Bool.and_eq_true,Bool.and_eq_true,Dm]
 simp only [List.all_eq_true,List.mem_range,Gi,ED,Bool.or_eq_true,decide_eq_true_eq]
 constructor
 ·rintro ⟨⟨h1,h2⟩,h3⟩
  exact ⟨⟨by omega,by omega⟩,h2,λ i j hi hj n1 n2=>by rcases h3 i hi j hj with (h|h)|h <;> first|exact absurd h n1|exact absurd h n2|exact h⟩
 ·rintro ⟨⟨h1,h1'⟩,h2,h3⟩
  refine ⟨⟨⟨by omega,by omega⟩,h2⟩,λ i hi j hj=>?_⟩
  by_cases n1:j=i
  ·exact .inl (.inl n1)
  ·by_cases n2:j=(i+1)%l.length
   ·exact .inl (.inr n2)
   ·exact .inr (h3 i j hi hj n1 n2)
def A9 (p q:V2):V2:=(p.1+q.1,p.2+q.2)
end Go.Proofs.YtdgmbbjoifneiaaGreatDoor
