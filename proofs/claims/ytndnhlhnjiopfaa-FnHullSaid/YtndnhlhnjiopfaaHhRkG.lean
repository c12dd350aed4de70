import Derived.Test.YtndnhlhnjiopfaaHhRkF
namespace Go.Proofs.Ytndnhlhnjiopfaa
set_option linter.unusedVariables false
set_option linter.unusedSimpArgs false
open Go.RowKit
theorem RG {l:List V2} (h:l.all AE=true) {k:Nat} (hk:k<l.length):(E3 l k).good=true:=by
 have hv:=P8 h hk
 unfold Pq.good E3 ptV
 rw [Fr.good_some (Ia (Jh hv.1)),Fr.good_some (Ia (Jh hv.2))];rfl
theorem WE {l:List V2} {p:Pq} (hl:AJ l=true) (h:p.good=true):cpZ l (ptQ p)=Lz l p:=by
 rw [QA hl (by rw [Vg];exact h)]
 have hg:p.x.good=true/\p.y.good=true:=by unfold Pq.good at h;rwa [Bool.and_eq_true] at h
 have e:pqR (ptQ p)=p:=by
  show (⟨Fr.mk' (zOf (decide (p.x.z<0)) (IN (L p.x.z.natAbs))) (IN (L p.x.d)),Fr.mk' (zOf (decide (p.y.z<0)) (IN (L p.y.z.natAbs))) (IN (L p.y.d))⟩:Pq)=p
  rw [B9,B9,B9,B9,Je,Je,Ly (Fr.d_good.1 hg.1),Ly (Fr.d_good.1 hg.2)]
 rw [e]
end Go.Proofs.Ytndnhlhnjiopfaa
