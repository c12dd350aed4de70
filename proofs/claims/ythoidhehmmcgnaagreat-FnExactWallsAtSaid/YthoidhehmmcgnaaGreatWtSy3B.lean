import Derived.Test.YthoidhehmmcgnaaGreatWtSyn
import Derived.Test.YthoidhehmmcgnaaGreatProg
import Derived.Shelf.SlSortCmp.KitK
import Derived.Sort.WalkB2
import Derived.Sort.WalkB12
import Derived.Deep.LoopGhost
namespace Go.Proofs.YthoidhehmmcgnaaGreat
set_option linter.unusedVariables false
set_option linter.unusedSimpArgs false
open Go.RowKit Go.Sort Go.Shelf Go.Lib
end Go.Proofs.YthoidhehmmcgnaaGreat
