import Derived.Test.YtdgmbbjoifneiaaGreatDoorPyHulR
import Derived.Test.YtdgmbbjoifneiaaGreatDoorPyHulU
import Derived.Test.YtdgmbbjoifneiaaGreatDoorPyRkD2
namespace Go.Proofs.YtdgmbbjoifneiaaGreatDoor
set_option linter.unusedVariables false
set_option linter.unusedSimpArgs false
theorem HullOk.congr {S T:V2->Prop} {h:List V2} (H:HullOk S h) (e:∀ x,S x↔T x):HullOk T h:=by
 obtain ⟨p,q,lo,up,B,h1,h2,h3⟩:=H.band
 exact ⟨H.ring.congr e,H.three,p,q,lo,up,B.congr e,h1,h2,h3⟩
theorem Uk {l:List V2} (h:AI l=true):∃ x y z,x ∈ l/\y ∈ l/\z ∈ l/\0<AM x y z:=by
 obtain ⟨⟨h3,-⟩,-,hs⟩:=E9.1 h
 have e:(0+1)%l.length=1:=Nat.mod_eq_of_lt (by omega)
 have:=hs 0 2 (by omega) (by omega) (by omega) (by omega)
 rw [e] at this
 exact ⟨_,_,_,Fd (by omega),Fd (by omega),Fd (by omega),this⟩
theorem Ul {z:Int} (hz:z<=1000) {x:V2} (h:(-z<=x.1/\x.1<=z)/\-z<=x.2/\x.2<=z):AE x=true:=by
 simp only [AE,SG,Bool.and_eq_true,Dm];omega
end Go.Proofs.YtdgmbbjoifneiaaGreatDoor
