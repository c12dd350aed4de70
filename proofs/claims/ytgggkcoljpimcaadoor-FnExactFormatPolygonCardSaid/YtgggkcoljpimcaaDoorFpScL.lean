import Derived.Test.YtgggkcoljpimcaaDoorFpExD
import Derived.Test.YtgggkcoljpimcaaDoorFpScB
namespace Go.Proofs.YtgggkcoljpimcaaDoor
set_option linter.unusedVariables false
set_option linter.unusedSimpArgs false
open Go.RowKit
theorem HU {e:Nat} {l:List (List Dat)} (h:Dat.has (.sl e [.int,.int]) (.sl l)):∃ vs:List V2,l=AD vs:=by
 refine ⟨l.map λ r=>((r.getD 0 (.int 0)).n,(r.getD 1 (.int 0)).n),?_⟩
 have hr:=KI h
 unfold AD
 rw [List.map_map]
 conv=>lhs;rw [← List.map_id l]
 refine List.map_congr_left λ r hm=>?_
 obtain ⟨k,hk,e1⟩:=List.getElem_of_mem hm
 have:=hr k hk
 simp only [List.getD,List.getElem?_eq_getElem hk,Option.getD_some,e1] at this
 obtain ⟨_,_,rfl,q0,h1⟩:=hasRow.cons this
 obtain ⟨_,rfl⟩:=Dat.has_int q0
 obtain ⟨_,_,rfl,q1,h2⟩:=h1.cons
 obtain ⟨_,rfl⟩:=Dat.has_int q1
 obtain rfl:=h2.nil
 rfl
end Go.Proofs.YtgggkcoljpimcaaDoor
namespace Go.Proofs.YtgggkcoljpimcaaDoor
set_option linter.unusedVariables false
set_option linter.unusedSimpArgs false
open Go.RowKit
theorem HW {l:List V2} {k:Nat} (hk:k<l.length):(AD l).getD k []=JQ (l.getD k (0,0)):=by simp [AD,List.getD,hk]
theorem KP {l:List V2} {k:Nat} (hk:k<l.length):(((AD l).getD k []).getD 0 (.int 0)).n=(l.getD k (0,0)).1:=by rw [HW hk];rfl
theorem KQ {l:List V2} {k:Nat} (hk:k<l.length):(((AD l).getD k []).getD 1 (.int 0)).n=(l.getD k (0,0)).2:=by rw [HW hk];rfl
theorem CM {l:List V2} {k:Nat} (h:l.all AI=true) (hk:k<l.length):AI (l.getD k (0,0))=true:=by
 simp only [List.getD,List.getElem?_eq_getElem hk,Option.getD_some]
 exact List.all_eq_true.1 h _ (List.getElem_mem hk)
end Go.Proofs.YtgggkcoljpimcaaDoor
namespace Go.Proofs.YtgggkcoljpimcaaDoor
set_option linter.unusedVariables false
set_option linter.unusedSimpArgs false
open Go.RowKit
end Go.Proofs.YtgggkcoljpimcaaDoor
