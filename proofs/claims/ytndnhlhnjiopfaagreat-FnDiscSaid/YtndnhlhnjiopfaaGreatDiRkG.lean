import Derived.Test.YtndnhlhnjiopfaaGreatDiRkF
namespace Go.Proofs.YtndnhlhnjiopfaaGreat
set_option linter.unusedVariables false
set_option linter.unusedSimpArgs false
open Go.RowKit
theorem Rx {l:List V2} (h:l.all AO=true) {k:Nat} (hk:k<l.length):(CN l k).good=true:=by
 have hv:=QY h hk
 unfold Pq.good CN ptV
 rw [Fr.good_some (Jg (CS hv.1)),Fr.good_some (Jg (CS hv.2))];rfl
end Go.Proofs.YtndnhlhnjiopfaaGreat
