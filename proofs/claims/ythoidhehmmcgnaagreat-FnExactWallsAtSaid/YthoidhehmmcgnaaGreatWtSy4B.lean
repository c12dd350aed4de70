import Derived.Test.YthoidhehmmcgnaaGreatWtSy3B
import Derived.Test.YthoidhehmmcgnaaGreatWtSyb
import Derived.Shelf.SlSortCmp.PdqK
namespace Go.Proofs.YthoidhehmmcgnaaGreat
set_option linter.unusedVariables false
set_option linter.unusedSimpArgs false
open Go.RowKit Go.Sort Go.Shelf Go.Lib
end Go.Proofs.YthoidhehmmcgnaaGreat
