import Derived.Test.YtmekciknfocmmaaGreatDoorScRkS3
namespace Go.Proofs.YtmekciknfocmmaaGreatDoor
set_option linter.unusedVariables false
set_option linter.unusedSimpArgs false
open Go.RowKit
theorem D6 {a b:ByteArray} (h:¬ a.toList=b.toList):a≠b:=λ e=>h (by rw [e])
theorem KL {a b:ByteArray} (h:a.toList=b.toList):a=b:=by
 rw [ByteArray.toList_eq,ByteArray.toList_eq] at h;exact bx h
end Go.Proofs.YtmekciknfocmmaaGreatDoor
