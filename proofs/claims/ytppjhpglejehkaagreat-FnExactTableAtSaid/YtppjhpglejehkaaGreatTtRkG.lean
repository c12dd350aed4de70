import Derived.Test.YtppjhpglejehkaaGreatTtRkF
namespace Go.Proofs.YtppjhpglejehkaaGreat
set_option linter.unusedVariables false
set_option linter.unusedSimpArgs false
open Go.RowKit
theorem ptAt_good {l:List V2} (h:l.all isVec=true) {k:Nat} (hk:k < l.length):(ptAt l k).good=true:=by
 have hv:=vec_i64 h hk
 unfold Pq.good ptAt ptV
 rw [Fr.good_some (ofInt_v (int_nl hv.1)),Fr.good_some (ofInt_v (int_nl hv.2))];rfl
end Go.Proofs.YtppjhpglejehkaaGreat
