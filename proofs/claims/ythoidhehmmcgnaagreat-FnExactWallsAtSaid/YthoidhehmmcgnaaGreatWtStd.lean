import Derived.Test.YthoidhehmmcgnaaGreatWtBas
namespace Go.Proofs.YthoidhehmmcgnaaGreat
def stB:List Nat:=[]
def stP(_:List (Option Obj)):Prop:=True
end Go.Proofs.YthoidhehmmcgnaaGreat
