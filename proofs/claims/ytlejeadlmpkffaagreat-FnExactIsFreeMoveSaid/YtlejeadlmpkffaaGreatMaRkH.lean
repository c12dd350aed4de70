import Derived.Test.YtlejeadlmpkffaaGreatMaRkG
import Derived.Test.YtlejeadlmpkffaaGreatMaNum4
namespace Go.Proofs.YtlejeadlmpkffaaGreat
set_option linter.unusedVariables false
set_option linter.unusedSimpArgs false
open Go.RowKit
end Go.Proofs.YtlejeadlmpkffaaGreat
