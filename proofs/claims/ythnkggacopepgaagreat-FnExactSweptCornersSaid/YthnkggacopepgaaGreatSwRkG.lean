import Derived.Test.YthnkggacopepgaaGreatSwRkF
namespace Go.Proofs.YthnkggacopepgaaGreat
set_option linter.unusedVariables false
set_option linter.unusedSimpArgs false
open Go.RowKit
end Go.Proofs.YthnkggacopepgaaGreat
