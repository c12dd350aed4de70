import Derived.Test.YtppjhpglejehkaaGreatProg
import Derived.Test.YtppjhpglejehkaaGreatTsTyB
import Derived.Outline
import Derived.Laws.MakeOwn
import Derived.RegionTactic
import Derived.BigRegion
import Derived.Deep.RegionHeld3
import Derived.Deep.DrawnRows
namespace Go.Proofs.YtppjhpglejehkaaGreat
set_option linter.unusedVariables false
set_option linter.unusedSimpArgs false
open Go.RowKit
attribute [local go_sem ↓] Go.wp_at_zero Go.wp_at_succ
end Go.Proofs.YtppjhpglejehkaaGreat
