import Derived.Test.YtndnhlhnjiopfaaGreatSgRkHu
namespace Go.Proofs.YtndnhlhnjiopfaaGreat
set_option linter.unusedVariables false
set_option linter.unusedSimpArgs false
open Go.RowKit
theorem O5 {l:List V2} (h:Af l=true):3<=l.length/\l.length<=16/\l.all AP=true:=by
 simp only [Af,Bool.and_eq_true,FP] at h
 exact ⟨by omega,by omega,h.1.2⟩
end Go.Proofs.YtndnhlhnjiopfaaGreat
