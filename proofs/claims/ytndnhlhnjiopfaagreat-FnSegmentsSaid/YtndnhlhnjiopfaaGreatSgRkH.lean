import Derived.Test.YtndnhlhnjiopfaaGreatSgRkG
import Derived.Test.YtndnhlhnjiopfaaGreatSgNum4
namespace Go.Proofs.YtndnhlhnjiopfaaGreat
set_option linter.unusedVariables false
set_option linter.unusedSimpArgs false
open Go.RowKit
end Go.Proofs.YtndnhlhnjiopfaaGreat
