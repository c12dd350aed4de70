import Derived.Test.YtdgmbbjoifneiaaGreatDoorPyHulR
namespace Go.Proofs.YtdgmbbjoifneiaaGreatDoor
set_option linter.unusedVariables false
set_option linter.unusedSimpArgs false
theorem UZ {l:List V2} {x:V2} (h:x ∈ l):∃ i,i<l.length/\l.getD i (0,0)=x:=by
 obtain ⟨i,hi,rfl⟩:=List.getElem_of_mem h
 exact ⟨i,hi,by simp [List.getD,hi]⟩
theorem Fd {l:List V2} {i:Nat} (h:i<l.length):l.getD i (0,0) ∈ l:=by simp [List.getD,h]
theorem R7 {l:List V2} (h:AI l=true) {i j:Nat} (hi:i<l.length) (hj:j<l.length):0<=AM (l.getD i (0,0)) (l.getD ((i+1)%l.length) (0,0)) (l.getD j (0,0)):=by
 obtain ⟨⟨h3,-⟩,-,hs⟩:=E9.1 h
 by_cases h1:j=i
 ·subst h1;rw [R5];exact Int.le_refl _
 ·by_cases h2:j=(i+1)%l.length
  ·rw [← h2,Ph];exact Int.le_refl _
  ·exact Int.le_of_lt (hs i j hi hj h1 h2)
end Go.Proofs.YtdgmbbjoifneiaaGreatDoor
