import Derived.Test.YtmedodfenejimaaGreatTpNum3
namespace Go.Proofs.YtmedodfenejimaaGreat
set_option linter.unusedVariables false
set_option linter.unusedSimpArgs false
theorem Xd (q:Rat):K7 (-q)=K7 q:=by unfold K7;rw [Rat.neg_num,Rat.neg_den,Int.natAbs_neg]
theorem Fr.sub_v {r s:Fr} {a b:Rat} (hr:r.v=some a) (hs:s.v=some b):Fr.sub r s=Dt (a-b):=by unfold Fr.sub Fr.bin;rw [hr,hs]
theorem Fr.add_v {r s:Fr} {a b:Rat} (hr:r.v=some a) (hs:s.v=some b):Fr.add r s=Dt (a+b):=by unfold Fr.add Fr.bin;rw [hr,hs]
theorem Fr.mul_v {r s:Fr} {a b:Rat} (hr:r.v=some a) (hs:s.v=some b):Fr.mul r s=Dt (a*b):=by unfold Fr.mul Fr.bin;rw [hr,hs]
theorem Fr.v_cases (r:Fr):r=Fr.none∨∃ q,r.v=some q:=by
 rcases Fr.cases r with h|⟨q,h,_⟩
 ·exact .inl h
 ·exact .inr ⟨q,h⟩
theorem LH {q a:Rat} (h:(Dt q).v=some a):a=q:=by
 rw [UP] at h
 split at h
 ·exact (Option.some.inj h).symm
 ·cases h
theorem Fr.add_inv {r s:Fr} {q:Rat} (h:(Fr.add r s).v=some q):∃ a b,r.v=some a/\s.v=some b/\q=a+b:=by
 rcases Fr.v_cases r with rfl|⟨a,ha⟩
 ·cases h
 ·rcases Fr.v_cases s with rfl|⟨b,hb⟩
  ·unfold Fr.add at h;rw [Fr.bin_none2] at h;cases h
  ·rw [Fr.add_v ha hb] at h;exact ⟨a,b,ha,hb,LH h⟩
theorem Fr.mul_inv {r s:Fr} {q:Rat} (h:(Fr.mul r s).v=some q):∃ a b,r.v=some a/\s.v=some b/\q=a*b:=by
 rcases Fr.v_cases r with rfl|⟨a,ha⟩
 ·cases h
 ·rcases Fr.v_cases s with rfl|⟨b,hb⟩
  ·unfold Fr.mul at h;rw [Fr.bin_none2] at h;cases h
  ·rw [Fr.mul_v ha hb] at h;exact ⟨a,b,ha,hb,LH h⟩
theorem Fr.sub_inv {r s:Fr} {q:Rat} (h:(Fr.sub r s).v=some q):∃ a b,r.v=some a/\s.v=some b/\q=a-b:=by
 rcases Fr.v_cases r with rfl|⟨a,ha⟩
 ·cases h
 ·rcases Fr.v_cases s with rfl|⟨b,hb⟩
  ·unfold Fr.sub at h;rw [Fr.bin_none2] at h;cases h
  ·rw [Fr.sub_v ha hb] at h;exact ⟨a,b,ha,hb,LH h⟩
theorem Fr.sub_swap (r s:Fr):Fr.sub s r=(Fr.sub r s).opp:=by
 rcases Fr.v_cases r with rfl|⟨a,ha⟩
 ·unfold Fr.sub;rw [Fr.bin_none2];rfl
 ·rcases Fr.v_cases s with rfl|⟨b,hb⟩
  ·unfold Fr.sub;rw [Fr.bin_none2];rfl
  ·rw [Fr.sub_v hb ha,Fr.sub_v ha hb]
   have e:b-a=-(a-b):=by grind
   by_cases h:K7 (a-b)=true
   ·rw [Fr.of_some (Fr.opp_v (BM h)),e]
   ·rw [NR h,NR (by rw [e,Xd];exact h)];rfl
theorem Fr.mul_opp (r s:Fr):Fr.mul r.opp s.opp=Fr.mul r s:=by
 rcases Fr.v_cases r with rfl|⟨a,ha⟩
 ·rfl
 ·rcases Fr.v_cases s with rfl|⟨b,hb⟩
  ·have:Fr.none.opp=Fr.none:=rfl
   rw [this];unfold Fr.mul;rw [Fr.bin_none2,Fr.bin_none2]
  ·rw [Fr.mul_v (Fr.opp_v ha) (Fr.opp_v hb),Fr.mul_v ha hb];congr 1;grind
theorem Fr.mul_com (r s:Fr):Fr.mul r s=Fr.mul s r:=by
 rcases Fr.v_cases r with rfl|⟨a,ha⟩
 ·unfold Fr.mul;rw [Fr.bin_none2];rfl
 ·rcases Fr.v_cases s with rfl|⟨b,hb⟩
  ·unfold Fr.mul;rw [Fr.bin_none2];rfl
  ·rw [Fr.mul_v ha hb,Fr.mul_v hb ha,Rat.mul_comm]
theorem Fr.min_v {r s:Fr} {a b:Rat} (hr:r.v=some a) (hs:s.v=some b):Fr.min r s=if a<=b then r else s:=by unfold Fr.min Fr.bin;rw [hr,hs]
theorem Fr.max_v {r s:Fr} {a b:Rat} (hr:r.v=some a) (hs:s.v=some b):Fr.max r s=if b<=a then r else s:=by unfold Fr.max Fr.bin;rw [hr,hs]
theorem Fr.min_n (r:Fr):Fr.min r Fr.none=Fr.none:=Fr.bin_none2 _ _
theorem Fr.max_n (r:Fr):Fr.max r Fr.none=Fr.none:=Fr.bin_none2 _ _
theorem Fr.min_com (r s:Fr):Fr.min r s=Fr.min s r:=by
 rcases Fr.v_cases r with rfl|⟨a,ha⟩
 ·rw [Fr.min_n];rfl
 ·rcases Fr.v_cases s with rfl|⟨b,hb⟩
  ·rw [Fr.min_n];rfl
  ·rw [Fr.min_v ha hb,Fr.min_v hb ha]
   by_cases h1:a<=b <;> by_cases h2:b<=a
   ·rw [if_pos h1,if_pos h2]
    exact Fr.ext (by rw [ha,hb,show a=b by grind])
   ·rw [if_pos h1,if_neg h2]
   ·rw [if_neg h1,if_pos h2]
   ·exfalso;grind
theorem Fr.max_com (r s:Fr):Fr.max r s=Fr.max s r:=by
 rcases Fr.v_cases r with rfl|⟨a,ha⟩
 ·rw [Fr.max_n];rfl
 ·rcases Fr.v_cases s with rfl|⟨b,hb⟩
  ·rw [Fr.max_n];rfl
  ·rw [Fr.max_v ha hb,Fr.max_v hb ha]
   by_cases h1:a<=b <;> by_cases h2:b<=a
   ·rw [if_pos h1,if_pos h2]
    exact Fr.ext (by rw [ha,hb,show a=b by grind])
   ·rw [if_pos h1,if_neg h2]
   ·rw [if_neg h1,if_pos h2]
   ·exfalso;grind
theorem Fr.min_self (r:Fr):Fr.min r r=r:=by
 rcases Fr.v_cases r with rfl|⟨a,ha⟩
 ·rfl
 ·rw [Fr.min_v ha ha];split <;> rfl
theorem Fr.min_assoc (r s t:Fr):Fr.min (Fr.min r s) t=Fr.min r (Fr.min s t):=by
 rcases Fr.v_cases r with rfl|⟨a,ha⟩
 ·rfl
 ·rcases Fr.v_cases s with rfl|⟨b,hb⟩
  ·rw [Fr.min_n]
   show Fr.none=Fr.min r Fr.none
   rw [Fr.min_n]
  ·rcases Fr.v_cases t with rfl|⟨c,hc⟩
   ·rw [Fr.min_n,Fr.min_n,Fr.min_n]
   ·rw [Fr.min_v ha hb,Fr.min_v hb hc]
    by_cases h1:a<=b <;> by_cases h2:b<=c
    ·rw [if_pos h1,if_pos h2,Fr.min_v ha hc,Fr.min_v ha hb,if_pos h1,if_pos (by grind)]
    ·rw [if_pos h1,if_neg h2]
    ·rw [if_neg h1,if_pos h2,Fr.min_v hb hc,Fr.min_v ha hb,if_pos h2,if_neg h1]
    ·rw [if_neg h1,if_neg h2,Fr.min_v hb hc,Fr.min_v ha hc,if_neg h2,if_neg (by grind)]
theorem Pt:K7 0=true:=by
 refine Ev.2 ⟨?_,?_⟩
 ·show nl 0<=24;rw [Cc];omega
 ·show nl 1<=24;rw [Sp (by decide) (by decide)];decide
theorem Fr.add_0 (r:Fr):Fr.add (Dt 0) r=r:=by
 rcases Fr.v_cases r with rfl|⟨a,ha⟩
 ·exact Fr.bin_none2 _ _
 ·rw [Fr.add_v (BM Pt) ha,Rat.zero_add,← Fr.of_some ha]
def sdQ (p q:Pq):Fr:=Fr.add (Fr.mul (Fr.sub p.x q.x) (Fr.sub p.x q.x)) (Fr.mul (Fr.sub p.y q.y) (Fr.sub p.y q.y))
def Dm (a b c:Pq):Fr:=Fr.add (Fr.mul (Fr.sub b.x a.x) (Fr.sub c.x a.x)) (Fr.mul (Fr.sub b.y a.y) (Fr.sub c.y a.y))
def Ns (a b:Pq) (t:Fr):Pq:=⟨Fr.add a.x (Fr.mul t (Fr.sub b.x a.x)),Fr.add a.y (Fr.mul t (Fr.sub b.y a.y))⟩
def tQ (p a b:Pq):Fr:=Fr.min (Fr.ofInt 1) (Fr.max (Fr.ofInt 0) (Fr.div (Dm a p b) (sdQ a b)))
def eqF (r s:Fr):Bool:=decide (r.z=s.z) && decide (r.d=s.d)
def eqP (p q:Pq):Bool:=eqF p.x q.x && eqF p.y q.y
theorem Uf {r s:Fr} : eqF r s=true↔r=s:=by
 unfold eqF
 rw [Bool.and_eq_true,decide_eq_true_iff,decide_eq_true_iff]
 exact ⟨λ h=>Fr.zd_ext h.1 h.2,λ h=>by subst h;exact ⟨rfl,rfl⟩⟩
theorem Pu {p q:Pq} : eqP p q=true↔p=q:=by
 unfold eqP
 rw [Bool.and_eq_true,Uf,Uf]
 exact ⟨λ h=>by cases p;cases q;simp only at h;rw [h.1,h.2],λ h=>by subst h;exact ⟨rfl,rfl⟩⟩
def Dn (p a b:Pq):Fr:=if eqP a b=true then sdQ p a else sdQ p (Ns a b (tQ p a b))
theorem Yj (p q:Pq):sdQ q p=sdQ p q:=by
 unfold sdQ
 rw [Fr.sub_swap p.x q.x,Fr.sub_swap p.y q.y,Fr.mul_opp,Fr.mul_opp]
theorem Xe (a b c:Pq):Dm a c b=Dm a b c:=by
 unfold Dm
 rw [Fr.mul_com (Fr.sub c.x a.x),Fr.mul_com (Fr.sub c.y a.y)]
theorem Pq.good_v {p:Pq} (h:p.good=true):∃ x y,p.x.v=some x/\p.y.v=some y:=by
 unfold Pq.good at h
 rw [Bool.and_eq_true] at h
 obtain ⟨x,hx,_⟩:=Fr.good_inv h.1
 obtain ⟨y,hy,_⟩:=Fr.good_inv h.2
 exact ⟨x,y,hx,hy⟩
theorem Pv {a:Pq} (h:a.good=true):sdQ a a=Dt 0:=by
 obtain ⟨x,y,hx,hy⟩:=Pq.good_v h
 unfold sdQ
 rw [Fr.sub_v hx hx,Fr.sub_v hy hy,show x-x=0 by grind,show y-y=0 by grind,Fr.mul_v (BM Pt) (BM Pt),Rat.zero_mul,Fr.add_v (BM Pt) (BM Pt),Rat.zero_add]
theorem O3 (x:Rat):0<=x*x:=by
 by_cases h:0<=x
 ·exact Rat.mul_nonneg h h
 ·have h2:0<=-x:=by grind
  have:=Rat.mul_nonneg h2 h2
  grind
theorem Ug {x:Rat} (h:x*x=0):x=0:=by
 rcases Rat.mul_eq_zero.1 h with h|h <;> exact h
theorem Yk {a b:Pq} (h:(sdQ a b).v=some 0):a=b:=by
 unfold sdQ at h
 obtain ⟨u,v,hu,hv,e⟩:=Fr.add_inv h
 obtain ⟨m,n,hm,hn,e1⟩:=Fr.mul_inv hu
 obtain ⟨s,t,hs,ht,e2⟩:=Fr.mul_inv hv
 rw [hm] at hn
 rw [hs] at ht
 obtain rfl:=Option.some.inj hn
 obtain rfl:=Option.some.inj ht
 have h1:=O3 m
 have h2:=O3 s
 have hm0:=Ug (x:=m) (by grind)
 have hs0:=Ug (x:=s) (by grind)
 obtain ⟨x1,x2,k1,k2,k3⟩:=Fr.sub_inv hm
 obtain ⟨y1,y2,l1,l2,l3⟩:=Fr.sub_inv hs
 have ex:a.x=b.x:=Fr.ext (by rw [k1,k2,show x1=x2 by grind])
 have ey:a.y=b.y:=Fr.ext (by rw [l1,l2,show y1=y2 by grind])
 cases a;cases b;simp only at ex ey;rw [ex,ey]
theorem Rc {r:Fr} : r.sgn=0↔r=Fr.none∨r.v=some 0:=by
 rcases Fr.v_cases r with rfl|⟨a,ha⟩
 ·exact ⟨λ _=>.inl rfl,λ _=>rfl⟩
 ·unfold Fr.sgn RH
  rw [ha]
  simp only
  constructor
  ·intro h
   right
   by_cases h1:a<0
   ·rw [if_pos h1] at h;cases h
   ·rw [if_neg h1] at h
    by_cases h2:a=0
    ·rw [h2]
    ·rw [if_neg h2] at h;cases h
  ·rintro (h|h)
   ·rw [h] at ha;cases ha
   ·obtain rfl:=Option.some.inj h
    rfl
theorem Xf {p a b:Pq} (h:sdQ a b=Fr.none):sdQ p (Ns a b (tQ p a b))=Fr.none:=by
 have ht:tQ p a b=Fr.none:=by
  unfold tQ
  rw [h,show Fr.div (Dm a p b) Fr.none=Fr.none from Fr.bin_none2 _ _,Fr.max_n,Fr.min_n]
 rw [ht]
 have hx:(Ns a b Fr.none).x=Fr.none:=Fr.bin_none2 _ _
 unfold sdQ
 rw [hx,show Fr.sub p.x Fr.none=Fr.none from Fr.bin_none2 _ _]
 rfl
theorem Xg {p a b:Pq} (ha:a.good=true) (h:(sdQ a b).sgn=0):Fr.add (Fr.mul (sdQ a b) (sdQ a b)) (sdQ p a)=Dn p a b:=by
 unfold Dn
 rcases Rc.1 h with h|h
 ·rw [if_neg,Xf h,h]
  ·rfl
  ·intro e
   rw [Pu] at e
   rw [← e,Pv ha] at h
   have:=BM Pt
   rw [h] at this;cases this
 ·have e:=Yk h
  rw [if_pos (Pu.2 e),← e,Pv ha,Fr.mul_v (BM Pt) (BM Pt),Rat.zero_mul,Fr.add_0]
theorem Xh {p a b:Pq} (ha:a.good=true) (h:(sdQ a b).sgn≠0) :
  sdQ p (Ns a b (Fr.min (Fr.max (Fr.div (Dm a b p) (sdQ a b)) (Fr.ofInt 0)) (Fr.ofInt 1)))=Dn p a b:=by
 unfold Dn
 rw [if_neg]
 ·unfold tQ
  rw [Fr.min_com,Fr.max_com,Xe a p b]
 ·intro e
  rw [Pu] at e
  apply h
  rw [← e,Pv ha]
  exact Rc.2 (.inr (BM Pt))
theorem Vr {a b:Nat} (h:nl a=nl b) (hd:AS (nl a) a=AS (nl a) b):a=b:=by
 have h1:=C1 (nl a) a
 have h2:=C1 (nl b) b
 rw [Hi (Nat.le_refl _)] at h1 h2
 rw [← h1,← h2,hd,h]
end Go.Proofs.YtmedodfenejimaaGreat
