import Derived.Test.YtcpjekkiejhgpaaDoorPpExD
import Derived.Test.YtcpjekkiejhgpaaDoorPpScB
namespace Go.Proofs.YtcpjekkiejhgpaaDoor
set_option linter.unusedVariables false
set_option linter.unusedSimpArgs false
open Go.RowKit
theorem Kf {e:Nat} {l:List V2} (h:l.length<=9223372036854775807):Dat.has (.sl e [.int,.int]) (.sl (AL l)):=by
 simp only [Dat.has,AO]
 refine ⟨h,λ k hk=>?_⟩
 have:(AL l).getD k []=It (l.getD k (0,0)):=by simp [AL,List.getD,hk]
 rw [this]
 simp [It,hasRow,Dat.has]
end Go.Proofs.YtcpjekkiejhgpaaDoor
namespace Go.Proofs.YtcpjekkiejhgpaaDoor
set_option linter.unusedVariables false
set_option linter.unusedSimpArgs false
open Go.RowKit
end Go.Proofs.YtcpjekkiejhgpaaDoor
namespace Go.Proofs.YtcpjekkiejhgpaaDoor
set_option linter.unusedVariables false
set_option linter.unusedSimpArgs false
open Go.RowKit
end Go.Proofs.YtcpjekkiejhgpaaDoor
