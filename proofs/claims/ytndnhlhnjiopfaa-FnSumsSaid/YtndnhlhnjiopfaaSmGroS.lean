import Derived.Test.YtndnhlhnjiopfaaProg
import Derived.Shelf.SlGeneric
import Derived.Shelf.Lays8
namespace Go.Proofs.Ytndnhlhnjiopfaa
set_option linter.unusedVariables false
open Go.Shelf
def UB:Go.Shelf.Ren:=⟨fun|4=>46|n=>n,fun|22=>23|25=>27|3=>3|4=>4|9=>9|20=>20|0=>0|2=>3|n=>n,fun|n=>n⟩
theorem XS:Go.Proofs.Lays8.n4 Try.prog UB:={
 mixed:=by kernel_rfl,
 f4:=⟨ "slices.Grow[[]loop.example/g00811/impl.Vec,loop.example/g00811/impl.Vec]",by decide,Try.func46.trans (congrArg some (by kernel_rfl))⟩,
 t0:=Try.underlying0,
 a0:=Try.isAgg0,
 z0:=Try.sizeOf0,
 v0:=Try.zeroValue0,
 t3:=Try.underlying3,
 a3:=Try.isAgg3,
 z3:=Try.sizeOf3,
 v3:=Try.zeroValue3,
 t4:=Try.underlying4,
 a4:=Try.isAgg4,
 z4:=Try.sizeOf4,
 v4:=Try.zeroValue4,
 t9:=Try.underlying9,
 a9:=Try.isAgg9,
 z9:=Try.sizeOf9,
 v9:=Try.zeroValue9,
 t20:=Try.underlying20,
 a20:=Try.isAgg20,
 z20:=Try.sizeOf20,
 v20:=Try.zeroValue20,
 t22:=Try.underlying23,
 a22:=Try.isAgg23,
 z22:=Try.sizeOf23,
 v22:=Try.zeroValue23 }
end Go.Proofs.Ytndnhlhnjiopfaa
