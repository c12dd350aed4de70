import Derived.Test.YtmedodfenejimaaGreatProg
import Derived.Shelf.SlGeneric
import Derived.Shelf.Lays
import Derived.Shelf.Lays2
namespace Go.Proofs.YtmedodfenejimaaGreat
set_option linter.unusedVariables false
open Go.Shelf
end Go.Proofs.YtmedodfenejimaaGreat
