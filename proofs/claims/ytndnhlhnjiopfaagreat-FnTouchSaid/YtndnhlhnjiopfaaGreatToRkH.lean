import Derived.Test.YtndnhlhnjiopfaaGreatToRkG
import Derived.Test.YtndnhlhnjiopfaaGreatToNum4
namespace Go.Proofs.YtndnhlhnjiopfaaGreat
set_option linter.unusedVariables false
set_option linter.unusedSimpArgs false
open Go.RowKit
end Go.Proofs.YtndnhlhnjiopfaaGreat
