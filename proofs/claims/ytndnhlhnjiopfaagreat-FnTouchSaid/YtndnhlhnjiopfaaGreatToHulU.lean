import Derived.Test.YtndnhlhnjiopfaaGreatToHulR
namespace Go.Proofs.YtndnhlhnjiopfaaGreat
set_option linter.unusedVariables false
set_option linter.unusedSimpArgs false
theorem Oe {l:List V2} {x:V2} (h:x ∈ l):∃ i,i<l.length/\l.getD i (0,0)=x:=by
 obtain ⟨i,hi,rfl⟩:=List.getElem_of_mem h
 exact ⟨i,hi,by simp [List.getD,hi]⟩
theorem CL {l:List V2} {i:Nat} (h:i<l.length):l.getD i (0,0) ∈ l:=by simp [List.getD,h]
theorem L9 {l:List V2} (h:AG l=true) {i j:Nat} (hi:i<l.length) (hj:j<l.length):0<=AC (l.getD i (0,0)) (l.getD ((i+1)%l.length) (0,0)) (l.getD j (0,0)):=by
 obtain ⟨⟨h3,-⟩,-,hs⟩:=BI.1 h
 by_cases h1:j=i
 ·subst h1;rw [Hl];exact Int.le_refl _
 ·by_cases h2:j=(i+1)%l.length
  ·rw [← h2,GH];exact Int.le_refl _
  ·exact Int.le_of_lt (hs i j hi hj h1 h2)
theorem QA {n:Nat} (h:0<n) (f:Nat->Int):∃ i,i<n/\∀ j,j<n->f i<=f j:=by
 induction n with
 | zero=>omega
 | succ n ih=>
  by_cases h0:n=0
  ·subst h0;exact ⟨0,by omega,λ j hj=>by rw [show j=0 by omega];exact Int.le_refl _⟩
  ·obtain ⟨i,hi,hm⟩:=ih (by omega)
   by_cases hc:f i<=f n
   ·refine ⟨i,by omega,λ j hj=>?_⟩
    by_cases e:j=n
    ·subst e;exact hc
    ·exact hm j (by omega)
   ·refine ⟨n,by omega,λ j hj=>?_⟩
    by_cases e:j=n
    ·subst e;exact Int.le_refl _
    ·have:=hm j (by omega);omega
theorem Uq {A B:Int} {p u w v:V2} (hD:0<AC w p u) (h1:0<=AC p u v) (h2:0<=AC w p v) (hu:A*p.1+B*p.2<=A*u.1+B*u.2) (hw:A*p.1+B*p.2<=A*w.1+B*w.2):A*p.1+B*p.2<=A*v.1+B*v.2:=by
 have e:AC w p u*(A*v.1+B*v.2-(A*p.1+B*p.2))=AC w p v*(A*u.1+B*u.2-(A*p.1+B*p.2))+AC p u v*(A*w.1+B*w.2-(A*p.1+B*p.2)):=by
  unfold AC;grind
 have k1:=Int.mul_nonneg h2 (show 0<=A*u.1+B*u.2-(A*p.1+B*p.2) by omega)
 have k2:=Int.mul_nonneg h1 (show 0<=A*w.1+B*w.2-(A*p.1+B*p.2) by omega)
 have:0<=A*v.1+B*v.2-(A*p.1+B*p.2):=Int.nonneg_of_mul_nonneg_right (by rw [e];exact Int.add_nonneg k1 k2) hD
 omega
theorem Vy {i n:Nat} (hi:i<n) (h3:3<=n):∃ j,j<n/\(j+1)%n=i/\(i+1)%n≠j/\(i+1)%n≠i:=by
 by_cases h0:i=0
 ·subst h0
  refine ⟨n-1,by omega,by rw [show n-1+1=n by omega,Nat.mod_self],?_,NB hi (by omega)⟩
  rw [Nat.mod_eq_of_lt (by omega)];omega
 ·refine ⟨i-1,by omega,by rw [show i-1+1=i by omega,Nat.mod_eq_of_lt hi],?_,NB hi (by omega)⟩
  by_cases h1:i+1<n
  ·rw [Nat.mod_eq_of_lt h1];omega
  ·rw [show i+1=n by omega,Nat.mod_self];omega
theorem Of {P:List V2} (h3:3<=P.length) (hs:∀ i j,i<P.length->j<P.length->j≠i->j≠(i+1)%P.length->0<AC (P.getD i (0,0)) (P.getD ((i+1)%P.length) (0,0)) (P.getD j (0,0))) {v:V2} (hv:∀ i,i<P.length->0<=AC (P.getD i (0,0)) (P.getD ((i+1)%P.length) (0,0)) v) (A B:Int) :
  ∃ i,i<P.length/\A*(P.getD i (0,0)).1+B*(P.getD i (0,0)).2<=A*v.1+B*v.2:=by
 obtain ⟨i,hi,hm⟩:=QA (n:=P.length) (by omega) λ i=>A*(P.getD i (0,0)).1+B*(P.getD i (0,0)).2
 refine ⟨i,hi,?_⟩
 obtain ⟨j,hj,ej,n1,n2⟩:=Vy hi h3
 have hD:=hs j ((i+1)%P.length) hj (Cw hi) n1 (by rw [ej];exact n2)
 have q1:=hv i hi
 have q2:=hv j hj
 rw [ej] at hD q2
 exact Uq hD q1 q2 (hm _ (Cw hi)) (hm _ hj)
end Go.Proofs.YtndnhlhnjiopfaaGreat
