import Derived.Test.YtkffpiaagjcmpaaGreatEvBas
namespace Go.Proofs.YtkffpiaagjcmpaaGreat
def stB:List Nat:=[]
def stP (_:List (Option Obj)):Prop:=True
end Go.Proofs.YtkffpiaagjcmpaaGreat
