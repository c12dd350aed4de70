import Derived.Test.YtdgmbbjoifneiaaGreatDoorPyPar
import Derived.Test.YtdgmbbjoifneiaaGreatDoorPyRkS1
namespace Go.Proofs.YtdgmbbjoifneiaaGreatDoor
set_option linter.unusedVariables false
set_option linter.unusedSimpArgs false
theorem Uh {v:V2} {c:UInt8} (h:¬ isD c) (h1:c.toNat≠45) (h2:c≠44):c ∉ (E4 v).data.toList:=by
 unfold E4
 rw [H5,H5]
 simp only [List.mem_append,not_or]
 refine ⟨⟨IE h1 h,?_⟩,IE h1 h⟩
 show c ∉ [44]
 simpa using h2
theorem Ui:¬ isD (32:UInt8)/\(32:UInt8).toNat≠45/\(32:UInt8)≠44:=by unfold isD;decide
theorem Qs {v:V2} (h:AE v=true):okV (E4 v)=true/\vOf (E4 v)=v:=Aa (T9.2 ⟨h,rfl⟩)
theorem Pk {l:List V2} (h:l≠[]):AH 32 (EX l)=BM l:=by
 unfold AH
 have e:(EX l).data.toList=Lib.join ((BM l).map (·.data.toList)) [32]:=by
  show (Id (BM l) ⟨#[32]⟩).toArray.toList=_
  rw [List.toList_toArray];rfl
 rw [e,KG (by simpa [BM] using h) (λ w hw=>by
  obtain ⟨x,hx,rfl⟩:=List.mem_map.1 hw
  obtain ⟨v,-,rfl⟩:=List.mem_map.1 hx
  exact Uh Ui.1 Ui.2.1 Ui.2.2),List.map_map]
 have:(ofB∘λ x:ByteArray=>x.data.toList)=id:=by funext x;exact KI x
 rw [this];simp
theorem Uj {l:List V2} (h:AI l=true):Bj (EX l)=true/\Cy (EX l)=l:=by
 obtain ⟨h1,-,h3⟩:=Cu h
 have hw:=Pk (l:=l) (by intro e;subst e;simp at h1)
 have hm:(BM l).map vOf=l:=by
  unfold BM
  rw [List.map_map]
  conv=>rhs;rw [← List.map_id l]
  refine List.map_congr_left λ v hv=>?_
  exact (Qs (List.all_eq_true.1 h3 v hv)).2
 have ha:(BM l).all okV=true:=by
  rw [List.all_eq_true]
  intro x hx
  obtain ⟨v,hv,rfl⟩:=List.mem_map.1 hx
  exact (Qs (List.all_eq_true.1 h3 v hv)).1
 have ho:Bj (EX l)=true:=by unfold Bj;rw [hw,ha,hm,h];rfl
 exact ⟨ho,by rw [CP ho,hw,hm]⟩
end Go.Proofs.YtdgmbbjoifneiaaGreatDoor
