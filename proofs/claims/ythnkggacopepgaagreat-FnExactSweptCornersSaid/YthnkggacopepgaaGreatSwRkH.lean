import Derived.Test.YthnkggacopepgaaGreatSwRkG
import Derived.Test.YthnkggacopepgaaGreatSwNum4
namespace Go.Proofs.YthnkggacopepgaaGreat
set_option linter.unusedVariables false
set_option linter.unusedSimpArgs false
open Go.RowKit
end Go.Proofs.YthnkggacopepgaaGreat
