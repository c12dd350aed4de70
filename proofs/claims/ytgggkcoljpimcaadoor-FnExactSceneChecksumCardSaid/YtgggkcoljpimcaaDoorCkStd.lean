import Derived.Test.YtgggkcoljpimcaaDoorCkBas
import Derived.Lib.ItoaNum
namespace Go.Proofs.YtgggkcoljpimcaaDoor
def stB:List Nat:=[1]
def stP (l:List (Option Obj)):Prop:=∃ t fr,l=[some (.cells (Lib.pow10Tab.map λ z=>Value.int .u64 z).toArray t fr)]
end Go.Proofs.YtgggkcoljpimcaaDoor
