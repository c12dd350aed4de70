import Derived.Test.YtndnhlhnjiopfaaGreatDi2Bas
namespace Go.Proofs.YtndnhlhnjiopfaaGreat
def stB:List Nat:=[]
def stP (_:List (Option Obj)):Prop:=True
end Go.Proofs.YtndnhlhnjiopfaaGreat
