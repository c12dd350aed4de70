import Derived.Test.YtblmlkdefjoebaaGreatFaRkG
import Derived.Test.YtblmlkdefjoebaaGreatFaNum4
namespace Go.Proofs.YtblmlkdefjoebaaGreat
set_option linter.unusedVariables false
set_option linter.unusedSimpArgs false
open Go.RowKit
end Go.Proofs.YtblmlkdefjoebaaGreat
