import Derived.Test.YtndnhlhnjiopfaaSmBas
namespace Go.Proofs.Ytndnhlhnjiopfaa
def stB:List Nat:=[]
def stP (_:List (Option Obj)):Prop:=True
end Go.Proofs.Ytndnhlhnjiopfaa
