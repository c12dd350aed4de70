import Derived.Test.YtmedodfenejimaaGreatTpRkSt
import Derived.Test.YtmedodfenejimaaGreatTpIntw
import Derived.Test.YtmedodfenejimaaGreatTpIntS
import Derived.Test.YtmedodfenejimaaGreatTpNum
import Derived.Test.YtmedodfenejimaaGreatTpRkH
namespace Go.Proofs.YtmedodfenejimaaGreat
set_option linter.unusedVariables false
set_option linter.unusedSimpArgs false
open Go.RowKit Go.Sort Go.Shelf
end Go.Proofs.YtmedodfenejimaaGreat
