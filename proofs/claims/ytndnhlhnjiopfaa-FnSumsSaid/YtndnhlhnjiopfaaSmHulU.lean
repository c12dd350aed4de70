import Derived.Test.YtndnhlhnjiopfaaSmHulR
namespace Go.Proofs.Ytndnhlhnjiopfaa
set_option linter.unusedVariables false
set_option linter.unusedSimpArgs false
theorem UF {l:List V2} {x:V2} (h:x ∈ l):∃ i,i<l.length/\l.getD i (0,0)=x:=by
 obtain ⟨i,hi,rfl⟩:=List.getElem_of_mem h
 exact ⟨i,hi,by simp [List.getD,hi]⟩
theorem FM {l:List V2} {i:Nat} (h:i<l.length):l.getD i (0,0) ∈ l:=by simp [List.getD,h]
end Go.Proofs.Ytndnhlhnjiopfaa
