import Derived.Test.YtmedodfenejimaaBwExC
namespace Go.Proofs.Ytmedodfenejimaa
set_option linter.unusedVariables false
set_option linter.unusedSimpArgs false
def BB:Nat:=1000000000
def dig (n:Nat):List Nat:=if h:n=0 then [] else n%BB::dig (n/BB)
termination_by n
decreasing_by exact Nat.div_lt_self (Nat.pos_of_ne_zero h) (by decide)
def hi (q i:Nat):Nat:=q/BB^i*BB^i
def rowsN (l:List Nat):List (List Dat):=l.map λ (d:Nat)=>[Dat.int (d:Int)]
def L (n:Nat):List (List Dat):=rowsN (dig n)
end Go.Proofs.Ytmedodfenejimaa
