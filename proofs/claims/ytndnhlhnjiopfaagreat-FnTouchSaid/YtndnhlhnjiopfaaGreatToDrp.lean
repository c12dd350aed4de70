import Derived.Test.YtndnhlhnjiopfaaGreatToHulQ
import Derived.Test.YtndnhlhnjiopfaaGreatToHulR
import Derived.Test.YtndnhlhnjiopfaaGreatToHulU
import Derived.Test.YtndnhlhnjiopfaaGreatToRkD2
namespace Go.Proofs.YtndnhlhnjiopfaaGreat
set_option linter.unusedVariables false
set_option linter.unusedSimpArgs false
theorem Ring.nodup {S:V2->Prop} {h:List V2} (r:Ring S h):h.Nodup:=
 List.pairwise_iff_getElem.2 λ i j hi hj hij=>by
  have:=r.inj i j hi hj (by omega)
  simpa [List.getD,hi,hj] using this
theorem HullOk.congr {S T:V2->Prop} {h:List V2} (H:HullOk S h) (e:∀ x,S x↔T x):HullOk T h:=by
 obtain ⟨p,q,lo,up,B,h1,h2,h3⟩:=H.band
 exact ⟨H.ring.congr e,H.three,p,q,lo,up,B.congr e,h1,h2,h3⟩
theorem Ux {l:List V2} (h:AG l=true):∃ x y z,x ∈ l/\y ∈ l/\z ∈ l/\0<AC x y z:=by
 obtain ⟨⟨h3,-⟩,-,hs⟩:=BI.1 h
 have e:(0+1)%l.length=1:=Nat.mod_eq_of_lt (by omega)
 have:=hs 0 2 (by omega) (by omega) (by omega) (by omega)
 rw [e] at this
 exact ⟨_,_,_,CL (by omega),CL (by omega),CL (by omega),this⟩
theorem Hd {z:Int} (hz:z<=1000) {x:V2} (h:(-z<=x.1/\x.1<=z)/\-z<=x.2/\x.2<=z):AB x=true:=by
 simp only [AB,RR,Bool.and_eq_true,Cy];omega
theorem Oq {b:List UInt8} {z:Int} (h1:1<=z) (hz:z<=1000):∀ k c,∃ p:List V2,(drF b z k c).1=At p/\p.length<=5/\p.all AB=true
 | 0,c=>⟨[(-1,-1),(1,-1),(0,1)],by show [(-1,-1),(1,-1),(0,1)]=_;decide +kernel,by simp,by decide⟩
 | k+1,c=>by
  unfold drF
  split
  ·refine ⟨(att b z c).1,rfl,?_,?_⟩
   ·have:=Oj b c
    unfold att;rw [Dq];omega
   ·rw [List.all_eq_true]
    exact λ v hv=>Hd hz (QF (by omega) _ _ v hv)
  ·exact Oq h1 hz k _
theorem Ot {b:List UInt8} {z:Int} (h1:1<=z) (hz:z<=1000) (c:Cur):∃ p:List V2,HullOk (λ v=>v ∈ p) (drP b z c).1/\(drP b z c).1.length<=5:=by
 obtain ⟨p,e,h5,hv⟩:=Oq (b:=b) h1 hz 8 c
 have hp:=(QG (b:=b) h1 c).1
 obtain ⟨x,y,w,hx,hy,hw,ht⟩:=Ux hp
 have e' : (drP b z c).1=At p:=e
 rw [e'] at hx hy hw ⊢
 have H:=Up hv (by omega) (ER hx) (ER hy) (ER hw) ht
 exact ⟨p,H,Nat.le_trans (List.Nodup.length_le_of_subset H.ring.nodup λ v hv=>ER hv) h5⟩
end Go.Proofs.YtndnhlhnjiopfaaGreat
