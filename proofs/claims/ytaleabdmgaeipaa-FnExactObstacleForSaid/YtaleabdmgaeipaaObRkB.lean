import Derived.Test.YtaleabdmgaeipaaObRkT
namespace Go.Proofs.Ytaleabdmgaeipaa
set_option linter.unusedVariables false
set_option linter.unusedSimpArgs false
open Go.RowKit
end Go.Proofs.Ytaleabdmgaeipaa
