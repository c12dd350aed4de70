import Derived.Test.YtndnhlhnjiopfaaGreatSgCon
import Derived.Test.YtndnhlhnjiopfaaGreatSgSml
import Derived.Test.YtndnhlhnjiopfaaGreatSgDrp
import Derived.Test.YtndnhlhnjiopfaaGreatSgRkH
namespace Go.Proofs.YtndnhlhnjiopfaaGreat
set_option linter.unusedVariables false
set_option linter.unusedSimpArgs false
def PqS (k:Nat) (p:Pq):Prop:=∃ x y,FrS k p.x x/\FrS k p.y y
theorem PqS.good {k:Nat} {p:Pq} (h:PqS k p):p.good=true:=by
 obtain ⟨x,y,hx,hy⟩:=h
 unfold Pq.good
 rw [hx.good,hy.good];rfl
end Go.Proofs.YtndnhlhnjiopfaaGreat
