import Derived.Test.YtmedodfenejimaaGreatTpRkF
namespace Go.Proofs.YtmedodfenejimaaGreat
set_option linter.unusedVariables false
set_option linter.unusedSimpArgs false
open Go.RowKit
theorem O0 {l:List V2} (h:l.all A2=true) {k:Nat} (hk:k<l.length):(Cm l k).good=true:=by
 have hv:=F7 h hk
 unfold Pq.good Cm ptV
 rw [Fr.good_some (JD (E3 hv.1)),Fr.good_some (JD (E3 hv.2))];rfl
end Go.Proofs.YtmedodfenejimaaGreat
