import Derived.Test.YtndnhlhnjiopfaaGreatDi2RkHu
namespace Go.Proofs.YtndnhlhnjiopfaaGreat
set_option linter.unusedVariables false
set_option linter.unusedSimpArgs false
open Go.RowKit
theorem G6 {l:List V2} (h:AU l=true):3<=l.length/\l.length<=16/\l.all AQ=true:=by
 simp only [AU,Bool.and_eq_true,F6] at h
 exact ⟨by omega,by omega,h.1.2⟩
end Go.Proofs.YtndnhlhnjiopfaaGreat
