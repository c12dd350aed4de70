import Derived.Test.YtndnhlhnjiopfaaGreatDi2Num3
namespace Go.Proofs.YtndnhlhnjiopfaaGreat
set_option linter.unusedVariables false
set_option linter.unusedSimpArgs false
theorem Fr.sub_v {r s:Fr} {a b:Rat} (hr:r.v=some a) (hs:s.v=some b):Fr.sub r s=clamp (a-b):=by unfold Fr.sub Fr.bin;rw [hr,hs]
theorem Fr.add_v {r s:Fr} {a b:Rat} (hr:r.v=some a) (hs:s.v=some b):Fr.add r s=clamp (a+b):=by unfold Fr.add Fr.bin;rw [hr,hs]
theorem Fr.mul_v {r s:Fr} {a b:Rat} (hr:r.v=some a) (hs:s.v=some b):Fr.mul r s=clamp (a*b):=by unfold Fr.mul Fr.bin;rw [hr,hs]
theorem Fr.v_cases (r:Fr):r=Fr.none∨∃ q,r.v=some q:=by
 rcases Fr.cases r with h|⟨q,h,_⟩
 ·exact .inl h
 ·exact .inr ⟨q,h⟩
theorem Jl {q a:Rat} (h:(clamp q).v=some a):a=q:=by
 rw [R5] at h
 split at h
 ·exact (Option.some.inj h).symm
 ·cases h
theorem Fr.add_inv {r s:Fr} {q:Rat} (h:(Fr.add r s).v=some q):∃ a b,r.v=some a/\s.v=some b/\q=a+b:=by
 rcases Fr.v_cases r with rfl|⟨a,ha⟩
 ·cases h
 ·rcases Fr.v_cases s with rfl|⟨b,hb⟩
  ·unfold Fr.add at h;rw [Fr.bin_none2] at h;cases h
  ·rw [Fr.add_v ha hb] at h;exact ⟨a,b,ha,hb,Jl h⟩
theorem Fr.mul_inv {r s:Fr} {q:Rat} (h:(Fr.mul r s).v=some q):∃ a b,r.v=some a/\s.v=some b/\q=a*b:=by
 rcases Fr.v_cases r with rfl|⟨a,ha⟩
 ·cases h
 ·rcases Fr.v_cases s with rfl|⟨b,hb⟩
  ·unfold Fr.mul at h;rw [Fr.bin_none2] at h;cases h
  ·rw [Fr.mul_v ha hb] at h;exact ⟨a,b,ha,hb,Jl h⟩
theorem Fr.sub_inv {r s:Fr} {q:Rat} (h:(Fr.sub r s).v=some q):∃ a b,r.v=some a/\s.v=some b/\q=a-b:=by
 rcases Fr.v_cases r with rfl|⟨a,ha⟩
 ·cases h
 ·rcases Fr.v_cases s with rfl|⟨b,hb⟩
  ·unfold Fr.sub at h;rw [Fr.bin_none2] at h;cases h
  ·rw [Fr.sub_v ha hb] at h;exact ⟨a,b,ha,hb,Jl h⟩
def sdQ (p q:Pq):Fr:=Fr.add (Fr.mul (Fr.sub p.x q.x) (Fr.sub p.x q.x)) (Fr.mul (Fr.sub p.y q.y) (Fr.sub p.y q.y))
def Cq (a b c:Pq):Fr:=Fr.add (Fr.mul (Fr.sub b.x a.x) (Fr.sub c.x a.x)) (Fr.mul (Fr.sub b.y a.y) (Fr.sub c.y a.y))
def SX (a b:Pq) (t:Fr):Pq:=⟨Fr.add a.x (Fr.mul t (Fr.sub b.x a.x)),Fr.add a.y (Fr.mul t (Fr.sub b.y a.y))⟩
def tQ (p a b:Pq):Fr:=Fr.min (Fr.ofInt 1) (Fr.max (Fr.ofInt 0) (Fr.div (Cq a p b) (sdQ a b)))
def eqF (r s:Fr):Bool:=decide (r.z=s.z) && decide (r.d=s.d)
def eqP (p q:Pq):Bool:=eqF p.x q.x && eqF p.y q.y
theorem OC {r s:Fr} : eqF r s=true↔r=s:=by
 unfold eqF
 rw [Bool.and_eq_true,decide_eq_true_iff,decide_eq_true_iff]
 exact ⟨λ h=>Fr.zd_ext h.1 h.2,λ h=>by subst h;exact ⟨rfl,rfl⟩⟩
theorem SY {p q:Pq} : eqP p q=true↔p=q:=by
 unfold eqP
 rw [Bool.and_eq_true,OC,OC]
 exact ⟨λ h=>by cases p;cases q;simp only at h;rw [h.1,h.2],λ h=>by subst h;exact ⟨rfl,rfl⟩⟩
def BL (p a b:Pq):Fr:=if eqP a b=true then sdQ p a else sdQ p (SX a b (tQ p a b))
theorem Cr (x:Rat):0<=x*x:=by
 by_cases h:0<=x
 ·exact Rat.mul_nonneg h h
 ·have h2:0<=-x:=by grind
  have:=Rat.mul_nonneg h2 h2
  grind
theorem Hq {x:Rat} (h:x*x=0):x=0:=by
 rcases Rat.mul_eq_zero.1 h with h|h <;> exact h
theorem Wu {a b:Pq} (h:(sdQ a b).v=some 0):a=b:=by
 unfold sdQ at h
 obtain ⟨u,v,hu,hv,e⟩:=Fr.add_inv h
 obtain ⟨m,n,hm,hn,e1⟩:=Fr.mul_inv hu
 obtain ⟨s,t,hs,ht,e2⟩:=Fr.mul_inv hv
 rw [hm] at hn
 rw [hs] at ht
 obtain rfl:=Option.some.inj hn
 obtain rfl:=Option.some.inj ht
 have h1:=Cr m
 have h2:=Cr s
 have hm0:=Hq (x:=m) (by grind)
 have hs0:=Hq (x:=s) (by grind)
 obtain ⟨x1,x2,k1,k2,k3⟩:=Fr.sub_inv hm
 obtain ⟨y1,y2,l1,l2,l3⟩:=Fr.sub_inv hs
 have ex:a.x=b.x:=Fr.ext (by rw [k1,k2,show x1=x2 by grind])
 have ey:a.y=b.y:=Fr.ext (by rw [l1,l2,show y1=y2 by grind])
 cases a;cases b;simp only at ex ey;rw [ex,ey]
theorem Tn {a b:Nat} (h:nl a=nl b) (hd:AJ (nl a) a=AJ (nl a) b):a=b:=by
 have h1:=Cc (nl a) a
 have h2:=Cc (nl b) b
 rw [GG (Nat.le_refl _)] at h1 h2
 rw [← h1,← h2,hd,h]
end Go.Proofs.YtndnhlhnjiopfaaGreat
