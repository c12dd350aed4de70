import Derived.Test.YtdgmbbjoifneiaaGreatDoorPyGroS
import Derived.Test.YtdgmbbjoifneiaaGreatDoorPyScA
import Derived.Shelf.Spec.SlicesGrow
namespace Go.Proofs.YtdgmbbjoifneiaaGreatDoor
set_option linter.unusedVariables false
set_option linter.unusedSimpArgs false
open Go.RowKit Go.Lib
theorem Wu (n:Int) (h0:0<n) (h1:n<=1048576) (w:World) :
  Calls Tryz.prog 46 #[.slice none 0 0,.int .i64 n] w λ e w'=>∃ cap,e=.returned (.slice (some ⟨w.heap.size,0,none⟩) 0 cap)/\w'.ownsRow w.heap.size 26 2 (.slice (some ⟨w.heap.size,0,none⟩) 0 cap) 0 []/\Below w.heap.size w w':=by
 obtain ⟨i,z,hi',hz,h2,h3,h4⟩:=VD.info
 obtain ⟨k,rfl⟩:∃ k:Nat,n=(k:Int):=⟨n.toNat,by omega⟩
 have h:=Any8.slices_Grow_grow X1 i z hi' hz (by rw [h2];omega) none 0 0 k [] w (Nat.le_refl _) (by omega) (by rw [h3];omega) (by omega) (by simp) (λ _=>rfl) (λ a h=>by cases h)
 refine (show Calls Tryz.prog 46 #[.slice none 0 0,.int .i64 (k:Int)] w _ from h).mono ?_
 rintro e w' ⟨rfl,rfl⟩
 have hge:=grownCap_ge w (0+k) 0 26
 have hgm:=grownCap_le_maxLen w (0+k) 0 26 (by unfold maxLen;omega)
 refine ⟨_,rfl,?_,(Below.refl _ _).drew.alloc (by simp) _⟩
 refine World.ownsRow_made (w:=w.drew) (base:=w.heap.size) _ _ (Nat.le_refl _) hgm ?_
 simp only [Array.size_append,List.size_toArray,List.length_nil,size_zeroCells,h4]
 show 0+(0+k-0)*2+(grownCap w (0+k) 0 26-(0+k))*2=grownCap w (0+k) 0 26*2
 omega
end Go.Proofs.YtdgmbbjoifneiaaGreatDoor
