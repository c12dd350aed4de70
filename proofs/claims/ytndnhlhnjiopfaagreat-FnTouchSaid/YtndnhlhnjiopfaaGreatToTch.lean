import Derived.Test.YtndnhlhnjiopfaaGreatToDrp
import Derived.Test.YtndnhlhnjiopfaaGreatToCon
import Derived.Test.YtndnhlhnjiopfaaGreatToSat
import Derived.Test.YtndnhlhnjiopfaaGreatToRkT1
namespace Go.Proofs.YtndnhlhnjiopfaaGreat
set_option linter.unusedVariables false
set_option linter.unusedSimpArgs false
theorem O0 {α:Type} (p:α->Bool) (l:List α):CN p l<0↔∀ x ∈ l,p x=false:=by
 have h:=Ow p l
 constructor
 ·intro hn
  rw [decide_eq_false (by omega)] at h
  have:=List.any_eq_false.1 h.symm
  exact λ x hx=>by simpa using this x hx
 ·intro ha
  have:l.any p=false:=by
   rw [List.any_eq_false]
   exact λ x hx=>by rw [ha x hx];simp
  rw [this] at h
  have:=of_decide_eq_false h
  omega
theorem Kk {a b:List V2} : DZ a b<0↔¬ QI a b:=by
 unfold DZ
 rw [O0]
 unfold QI
 constructor
 ·rintro h ⟨i,hi,hs⟩
  have:=h i (List.mem_range.2 hi)
  unfold CP at this
  rw [Bool.not_eq_false',List.any_eq_true] at this
  obtain ⟨x,hx,h2⟩:=this
  have:=hs x hx
  unfold Bi at h2
  have:=of_decide_eq_true h2
  omega
 ·intro h i hi
  have hi:=List.mem_range.1 hi
  unfold CP
  rw [Bool.not_eq_false',List.any_eq_true]
  apply Classical.byContradiction
  intro hn
  refine h ⟨i,hi,λ x hx=>?_⟩
  apply Classical.byContradiction
  intro h2
  exact hn ⟨x,hx,decide_eq_true (by omega)⟩
theorem Kl {a b:List V2} (ha:AG a=true) (hb:AG b=true):Ba a b=true↔¬ QI a b/\¬ QI b a:=by
 unfold Ba
 rw [ha,hb,Bool.true_and,Bool.true_and,Bool.and_eq_true,decide_eq_true_eq,decide_eq_true_eq,Kk,Kk]
structure TouchLaw (a b:List V2) (v:V2):Prop where
 veca:a.all AB=true
 len:a.length<=16/\b.length<=16/\(CO a v.1 v.2).length<=16
 t1:Ba (CO a v.1 v.2) b=decide (cpZ (HT a b) (ptQ (ptV v))≥0)
 t2:Ba b (CO a v.1 v.2)=decide (cpZ (HT a b) (ptQ (ptV v))≥0)
 t3:Ba a a=true
 t4:Eu a a=-1
theorem RQ {a:List V2} {v:V2} (ha:AG a=true) (h:∀ x ∈ a,AB (AY v x)=true):AG (mvV v a)=true:=by
 obtain ⟨h1,h2,h3⟩:=BI.1 ha
 refine BI.2 ⟨by rw [He];exact h1,?_,λ i j hi hj n1 n2=>?_⟩
 ·rw [List.all_eq_true]
  intro x hx
  obtain ⟨y,hy,rfl⟩:=List.mem_map.1 hx
  exact h y hy
 ·rw [He] at hi hj n2 ⊢
  rw [Gb hi,Gb hj,Gb (Cw hi),IP]
  exact h3 i j hi hj n1 n2
theorem Sn {a b:List V2} {v:V2} (ha:AG a=true) (hb:AG b=true) (h1:a.length<=8) (h2:b.length<=8) (hv:AB v=true) (hm:∀ x ∈ a,AB (AY v x)=true) (hn:RE b (IS a)):TouchLaw a b v:=by
 have hva:=(Bh ha).2.2
 have hna:=U1 ha
 have e0:HN a=IS a:=RD hva
 have hmv:CO a v.1 v.2=mvV v a:=by
  have e:Bb a v.1 v.2=mvV v a:=Ob λ j hj=>hm _ (CL hj)
  rw [Hf hv (by rw [e];exact (Bh (RQ ha hm)).2.2),e]
 have hmp:=RQ ha hm
 have h64:b.length*(IS a).length<=64:=by rw [Bt];exact Nat.mul_le_mul h2 h1
 obtain ⟨r,h3,hvs⟩:=Od hb hna h64 hn
 have hp:=P7 hb hna h64 (by rw [Bt];omega) hn
 have eo:HT a b=E5 b (IS a):=by
  unfold HT
  rw [e0]
  unfold HL
  rw [if_pos ⟨hb,hna,h64,hp⟩]
 have hs:=sat ha hb hna r h3 v
 have hc:=V7 hvs hv
 have hg:(ptV v).good=true:=ST (l:=[v]) (k:=0) (by rw [List.all_cons,hv];rfl) (by simp)
 have ec:cpZ (HT a b) (ptQ (ptV v))=Mi (E5 b (IS a)) (ptV v):=by rw [eo];exact XY hp hg
 have hl:=(Bh hmp).2.1
 refine ⟨hva,⟨by omega,by omega,by rw [hmv];exact hl⟩,?_,?_,?_,?_⟩
 ·rw [ec,hmv,Bool.eq_iff_iff,Kl hmp hb,decide_eq_true_eq,ge_iff_le,hc,hs]
 ·rw [ec,hmv,Bool.eq_iff_iff,Kl hb hmp,decide_eq_true_eq,ge_iff_le,hc,hs,And.comm]
 ·exact (Kl ha ha).2 ⟨Kj ha,Kj ha⟩
 ·unfold Eu
  rw [if_pos ⟨ha,ha⟩]
  unfold DZ
  refine IT (d:=0) λ j hj=>?_
  have:=(O0 _ _).1 (Kk.2 (Kj ha))
  exact this _ (by simp [List.getD,List.length_range] at hj ⊢;simp [hj])
end Go.Proofs.YtndnhlhnjiopfaaGreat
