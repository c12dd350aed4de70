import Derived.Test.YtndnhlhnjiopfaaGreatDiRkHu
namespace Go.Proofs.YtndnhlhnjiopfaaGreat
set_option linter.unusedVariables false
set_option linter.unusedSimpArgs false
open Go.RowKit
theorem OU {l:List V2} (h:Ai l=true):3<=l.length/\l.length<=16/\l.all AO=true:=by
 simp only [Ai,Bool.and_eq_true,FA] at h
 exact ⟨by omega,by omega,h.1.2⟩
end Go.Proofs.YtndnhlhnjiopfaaGreat
