import Derived.Test.YtndnhlhnjiopfaaGreatDiHulR
namespace Go.Proofs.YtndnhlhnjiopfaaGreat
set_option linter.unusedVariables false
set_option linter.unusedSimpArgs false
theorem Tt {l:List V2} {i:Nat} (h:i<l.length):l.getD i (0,0) ∈ l:=by simp [List.getD,h]
theorem Rw {l:List V2} (h:Ai l=true) {i j:Nat} (hi:i<l.length) (hj:j<l.length):0<=AW (l.getD i (0,0)) (l.getD ((i+1)%l.length) (0,0)) (l.getD j (0,0)):=by
 obtain ⟨⟨h3,-⟩,-,hs⟩:=Pf.1 h
 by_cases h1:j=i
 ·subst h1;rw [Rt];exact Int.le_refl _
 ·by_cases h2:j=(i+1)%l.length
  ·rw [← h2,Pe];exact Int.le_refl _
  ·exact Int.le_of_lt (hs i j hi hj h1 h2)
end Go.Proofs.YtndnhlhnjiopfaaGreat
