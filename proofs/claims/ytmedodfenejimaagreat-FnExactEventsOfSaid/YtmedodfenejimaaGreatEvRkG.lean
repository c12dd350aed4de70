import Derived.Test.YtmedodfenejimaaGreatEvRkF
namespace Go.Proofs.YtmedodfenejimaaGreat
set_option linter.unusedVariables false
set_option linter.unusedSimpArgs false
open Go.RowKit
end Go.Proofs.YtmedodfenejimaaGreat
