import Derived.Test.YtdgmbbjoifneiaaGreatDoorPyBas
import Derived.Lib.ItoaNum
namespace Go.Proofs.YtdgmbbjoifneiaaGreatDoor
def stB:List Nat:=[0,3,4,5]
def stP (l:List (Option Obj)):Prop:=∃ m t0 f0 u1 p1 t1 f1 u2 p2 t2 f2 t fr,l=[some (.cells #[.int .i64 m] t0 f0),some (.cells #[.iface u1 p1] t1 f1),some (.cells #[.iface u2 p2] t2 f2),some (.cells (Lib.pow10Tab.map λ z=>Value.int .u64 z).toArray t fr)]
end Go.Proofs.YtdgmbbjoifneiaaGreatDoor
