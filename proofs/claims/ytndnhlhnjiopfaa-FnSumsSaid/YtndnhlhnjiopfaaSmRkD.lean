import Derived.Test.YtndnhlhnjiopfaaSmRkC
namespace Go.Proofs.Ytndnhlhnjiopfaa
set_option linter.unusedVariables false
set_option linter.unusedSimpArgs false
open Go.RowKit
end Go.Proofs.Ytndnhlhnjiopfaa
