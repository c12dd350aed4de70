import Derived.Test.YtndnhlhnjiopfaaGreatDi2Hul
import Derived.Test.YtndnhlhnjiopfaaGreatDi2ScW
import Derived.Shelf.SlSortCmp.NoneTotal
import Derived.Shelf.SlicesQ.Reverse
import Derived.Lib.SlicesCompact
namespace Go.Proofs.YtndnhlhnjiopfaaGreat
set_option linter.unusedVariables false
set_option linter.unusedSimpArgs false
open Go.RowKit Go.Sort Go.Shelf
abbrev VV:Type:={ v:V2 // AQ v=true }
instance:Inhabited VV:=⟨⟨(0,0),by decide⟩⟩
end Go.Proofs.YtndnhlhnjiopfaaGreat
