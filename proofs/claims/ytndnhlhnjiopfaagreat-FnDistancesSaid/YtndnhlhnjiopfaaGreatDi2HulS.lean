import Derived.Test.YtndnhlhnjiopfaaGreatProg
import Derived.Shelf.SlGeneric
import Derived.Shelf.SlLaysE0
import Derived.Shelf.SlLaysF0
namespace Go.Proofs.YtndnhlhnjiopfaaGreat
set_option linter.unusedVariables false
open Go.Shelf
end Go.Proofs.YtndnhlhnjiopfaaGreat
