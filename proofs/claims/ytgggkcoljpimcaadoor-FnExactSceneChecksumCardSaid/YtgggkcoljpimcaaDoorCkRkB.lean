import Derived.Test.YtgggkcoljpimcaaDoorCkRkT
namespace Go.Proofs.YtgggkcoljpimcaaDoor
set_option linter.unusedVariables false
set_option linter.unusedSimpArgs false
open Go.RowKit
end Go.Proofs.YtgggkcoljpimcaaDoor
