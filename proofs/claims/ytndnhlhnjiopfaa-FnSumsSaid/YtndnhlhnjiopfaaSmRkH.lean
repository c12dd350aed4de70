import Derived.Test.YtndnhlhnjiopfaaSmRkG
import Derived.Test.YtndnhlhnjiopfaaSmNum4
namespace Go.Proofs.Ytndnhlhnjiopfaa
set_option linter.unusedVariables false
set_option linter.unusedSimpArgs false
open Go.RowKit
end Go.Proofs.Ytndnhlhnjiopfaa
