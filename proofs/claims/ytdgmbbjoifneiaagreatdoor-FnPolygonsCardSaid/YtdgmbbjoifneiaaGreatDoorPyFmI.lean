import Derived.Test.YtdgmbbjoifneiaaGreatDoorPyRkB
import Derived.Test.YtdgmbbjoifneiaaGreatDoorPyStr
import Derived.Lib.ItoaLen
namespace Go.Proofs.YtdgmbbjoifneiaaGreatDoor
set_option linter.unusedVariables false
set_option linter.unusedSimpArgs false
open Go.RowKit
theorem G8 {n:Int} (h:-9223372036854775808<=n/\n<=9223372036854775807):(Bs n).size<=21:=by
 have:=Lib.itoa_length_le n h.1 h.2
 simpa [Bs,ByteArray.size] using this
theorem w8 {x:Int} (h0:0<=x) (h1:x<256):IntKind.u8.wrap (IntKind.i64.wrap x)=x:=by
 rw [AF (by omega) (by omega),IntKind.wrap]
 simp [IntKind.signed,IntKind.bits]
 omega
end Go.Proofs.YtdgmbbjoifneiaaGreatDoor
