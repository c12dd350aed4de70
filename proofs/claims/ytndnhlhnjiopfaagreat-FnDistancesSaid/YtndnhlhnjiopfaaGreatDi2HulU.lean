import Derived.Test.YtndnhlhnjiopfaaGreatDi2HulR
namespace Go.Proofs.YtndnhlhnjiopfaaGreat
set_option linter.unusedVariables false
set_option linter.unusedSimpArgs false
theorem Pn {l:List V2} {i:Nat} (h:i<l.length):l.getD i (0,0) ∈ l:=by simp [List.getD,h]
theorem NT {l:List V2} (h:AU l=true) {i j:Nat} (hi:i<l.length) (hj:j<l.length):0<=Aa (l.getD i (0,0)) (l.getD ((i+1)%l.length) (0,0)) (l.getD j (0,0)):=by
 obtain ⟨⟨h3,-⟩,-,hs⟩:=L5.1 h
 by_cases h1:j=i
 ·subst h1;rw [Tj];exact Int.le_refl _
 ·by_cases h2:j=(i+1)%l.length
  ·rw [← h2,RG];exact Int.le_refl _
  ·exact Int.le_of_lt (hs i j hi hj h1 h2)
theorem Wn {i n:Nat} (hi:i<n) (h3:3<=n):∃ j,j<n/\(j+1)%n=i/\(i+1)%n≠j/\(i+1)%n≠i:=by
 by_cases h0:i=0
 ·subst h0
  refine ⟨n-1,by omega,by rw [show n-1+1=n by omega,Nat.mod_self],?_,XV hi (by omega)⟩
  rw [Nat.mod_eq_of_lt (by omega)];omega
 ·refine ⟨i-1,by omega,by rw [show i-1+1=i by omega,Nat.mod_eq_of_lt hi],?_,XV hi (by omega)⟩
  by_cases h1:i+1<n
  ·rw [Nat.mod_eq_of_lt h1];omega
  ·rw [show i+1=n by omega,Nat.mod_self];omega
end Go.Proofs.YtndnhlhnjiopfaaGreat
