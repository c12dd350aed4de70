import Derived.Test.YtndnhlhnjiopfaaGreatDi2HulQ
import Derived.Test.YtndnhlhnjiopfaaGreatDi2HulR
import Derived.Test.YtndnhlhnjiopfaaGreatDi2HulU
import Derived.Test.YtndnhlhnjiopfaaGreatDi2RkD2
namespace Go.Proofs.YtndnhlhnjiopfaaGreat
set_option linter.unusedVariables false
set_option linter.unusedSimpArgs false
theorem HullOk.congr {S T:V2->Prop} {h:List V2} (H:HullOk S h) (e:∀ x,S x↔T x):HullOk T h:=by
 obtain ⟨p,q,lo,up,B,h1,h2,h3⟩:=H.band
 exact ⟨H.ring.congr e,H.three,p,q,lo,up,B.congr e,h1,h2,h3⟩
end Go.Proofs.YtndnhlhnjiopfaaGreat
