import Derived.Test.YtndnhlhnjiopfaaGreatDi2Con
import Derived.Test.YtndnhlhnjiopfaaGreatDi2Sml
import Derived.Test.YtndnhlhnjiopfaaGreatDi2Drp
import Derived.Test.YtndnhlhnjiopfaaGreatDi2RkH
namespace Go.Proofs.YtndnhlhnjiopfaaGreat
set_option linter.unusedVariables false
set_option linter.unusedSimpArgs false
def PqS (k:Nat) (p:Pq):Prop:=∃ x y,FrS k p.x x/\FrS k p.y y
theorem PqS.good {k:Nat} {p:Pq} (h:PqS k p):p.good=true:=by
 obtain ⟨x,y,hx,hy⟩:=h
 unfold Pq.good
 rw [hx.good,hy.good];rfl
theorem XY {l:List V2} {p:Pq} (hl:AU l=true) (h:p.good=true):spR l (ptQ p)=A7 l p:=by
 rw [SZ hl (by rw [ID];exact h)]
 have hg:p.x.good=true/\p.y.good=true:=by unfold Pq.good at h;rwa [Bool.and_eq_true] at h
 have e:pqR (ptQ p)=p:=by
  show (⟨Fr.mk' (zOf (decide (p.x.z<0)) (EO (L p.x.z.natAbs))) (EO (L p.x.d)),Fr.mk' (zOf (decide (p.y.z<0)) (EO (L p.y.z.natAbs))) (EO (L p.y.d))⟩:Pq)=p
  rw [BJ,BJ,BJ,BJ,Bd,Bd,ET (Fr.d_good.1 hg.1),ET (Fr.d_good.1 hg.2)]
 rw [e]
end Go.Proofs.YtndnhlhnjiopfaaGreat
