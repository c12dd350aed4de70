import Derived.Test.YtndnhlhnjiopfaaSmHulU
namespace Go.Proofs.Ytndnhlhnjiopfaa
set_option linter.unusedVariables false
set_option linter.unusedSimpArgs false
end Go.Proofs.Ytndnhlhnjiopfaa
