import Derived.Test.YtndnhlhnjiopfaaHhRkG
import Derived.Test.YtndnhlhnjiopfaaHhNum4
namespace Go.Proofs.Ytndnhlhnjiopfaa
set_option linter.unusedVariables false
set_option linter.unusedSimpArgs false
open Go.RowKit
end Go.Proofs.Ytndnhlhnjiopfaa
