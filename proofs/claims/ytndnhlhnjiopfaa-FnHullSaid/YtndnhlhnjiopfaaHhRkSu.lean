import Derived.Test.YtndnhlhnjiopfaaHhRkHu
namespace Go.Proofs.Ytndnhlhnjiopfaa
set_option linter.unusedVariables false
set_option linter.unusedSimpArgs false
open Go.RowKit
theorem Gk {l:List V2} (h:AJ l=true):3<=l.length/\l.length<=16/\l.all AE=true:=by
 simp only [AJ,Bool.and_eq_true,DI] at h
 exact ⟨by omega,by omega,h.1.2⟩
end Go.Proofs.Ytndnhlhnjiopfaa
