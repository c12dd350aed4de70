import Derived.Test.YtndnhlhnjiopfaaSmRkF
namespace Go.Proofs.Ytndnhlhnjiopfaa
set_option linter.unusedVariables false
set_option linter.unusedSimpArgs false
open Go.RowKit
theorem Rf {l:List V2} (h:l.all AE=true) {k:Nat} (hk:k<l.length):(FE l k).good=true:=by
 have hv:=QQ h hk
 unfold Pq.good FE ptV
 rw [Fr.good_some (In (Jz hv.1)),Fr.good_some (In (Jz hv.2))];rfl
theorem Wn {l:List V2} {p:Pq} (hl:AI l=true) (h:p.good=true):cpZ l (ptQ p)=MF l p:=by
 rw [QS hl (by rw [WG];exact h)]
 have hg:p.x.good=true/\p.y.good=true:=by unfold Pq.good at h;rwa [Bool.and_eq_true] at h
 have e:pqR (ptQ p)=p:=by
  show (⟨Fr.mk' (zOf (decide (p.x.z<0)) (Ia (L p.x.z.natAbs))) (Ia (L p.x.d)),Fr.mk' (zOf (decide (p.y.z<0)) (Ia (L p.y.z.natAbs))) (Ia (L p.y.d))⟩:Pq)=p
  rw [CC,CC,CC,CC,Jw,Jw,ME (Fr.d_good.1 hg.1),ME (Fr.d_good.1 hg.2)]
 rw [e]
end Go.Proofs.Ytndnhlhnjiopfaa
