import Derived.Test.YtcpjekkiejhgpaaDoorPpRkT
namespace Go.Proofs.YtcpjekkiejhgpaaDoor
set_option linter.unusedVariables false
set_option linter.unusedSimpArgs false
open Go.RowKit
end Go.Proofs.YtcpjekkiejhgpaaDoor
