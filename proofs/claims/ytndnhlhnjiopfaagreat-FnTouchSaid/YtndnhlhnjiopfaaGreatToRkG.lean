import Derived.Test.YtndnhlhnjiopfaaGreatToRkF
namespace Go.Proofs.YtndnhlhnjiopfaaGreat
set_option linter.unusedVariables false
set_option linter.unusedSimpArgs false
open Go.RowKit
theorem ST {l:List V2} (h:l.all AB=true) {k:Nat} (hk:k<l.length):(FS l k).good=true:=by
 have hv:=Q9 h hk
 unfold Pq.good FS ptV
 rw [Fr.good_some (JH (KS hv.1)),Fr.good_some (JH (KS hv.2))];rfl
theorem XY {l:List V2} {p:Pq} (hl:AG l=true) (h:p.good=true):cpZ l (ptQ p)=Mi l p:=by
 rw [RB hl (by rw [Wx];exact h)]
 have hg:p.x.good=true/\p.y.good=true:=by unfold Pq.good at h;rwa [Bool.and_eq_true] at h
 have e:pqR (ptQ p)=p:=by
  show (⟨Fr.mk' (zOf (decide (p.x.z<0)) (I2 (L p.x.z.natAbs))) (I2 (L p.x.d)),Fr.mk' (zOf (decide (p.y.z<0)) (I2 (L p.y.z.natAbs))) (I2 (L p.y.d))⟩:Pq)=p
  rw [CJ,CJ,CJ,CJ,KP,KP,Mh (Fr.d_good.1 hg.1),Mh (Fr.d_good.1 hg.2)]
 rw [e]
end Go.Proofs.YtndnhlhnjiopfaaGreat
