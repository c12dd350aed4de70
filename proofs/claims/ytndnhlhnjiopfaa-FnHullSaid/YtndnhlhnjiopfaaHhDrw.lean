import Derived.Test.YtndnhlhnjiopfaaHhHulQ
import Derived.Test.YtndnhlhnjiopfaaHhRkP2
import Derived.Test.YtndnhlhnjiopfaaHhHulR
namespace Go.Proofs.Ytndnhlhnjiopfaa
set_option linter.unusedVariables false
set_option linter.unusedSimpArgs false
theorem Ring.nodup {S:V2->Prop} {h:List V2} (r:Ring S h):h.Nodup:=
 List.pairwise_iff_getElem.2 λ i j hi hj hij=>by
  have:=r.inj i j hi hj (by omega)
  simpa [List.getD,hi,hj] using this
theorem HullOk.congr {S T:V2->Prop} {h:List V2} (H:HullOk S h) (e:∀ x,S x↔T x):HullOk T h:=by
 obtain ⟨p,q,lo,up,B,h1,h2,h3⟩:=H.band
 exact ⟨H.ring.congr e,H.three,p,q,lo,up,B.congr e,h1,h2,h3⟩
theorem LQ {l:List V2} (hv:l.all AE=true) (h16:l.length<=16) {x y z:V2} (hx:x ∈ l) (hy:y ∈ l) (hz:z ∈ l) (ht:0<AC x y z):AJ (Ak l)=true/\(Ak l).length<=l.length:=by
 have H:=Gp hv (by omega) hx hy hz ht
 have hle:(Ak l).length<=l.length:=List.Nodup.length_le_of_subset H.ring.nodup λ v hv=>CP hv
 refine ⟨H.ring.poly H.three (by omega) ?_,hle⟩
 rw [List.all_eq_true] at hv ⊢
 exact λ v h=>hv v (CP h)
theorem Jx {l:List V2} (h:AJ l=true):∃ x y z,x ∈ l/\y ∈ l/\z ∈ l/\0<AC x y z:=by
 obtain ⟨⟨h3,-⟩,-,hs⟩:=BT.1 h
 have e:(0+1)%l.length=1:=Nat.mod_eq_of_lt (by omega)
 have:=hs 0 2 (by omega) (by omega) (by omega) (by omega)
 rw [e] at this
 exact ⟨_,_,_,CB (by omega),CB (by omega),CB (by omega),this⟩
theorem Tp {z:Int} (hz:z<=1000) {x:V2} (h:(-z<=x.1/\x.1<=z)/\-z<=x.2/\x.2<=z):AE x=true:=by
 simp only [AE,Rb,Bool.and_eq_true,DI];omega
theorem Nu {b:List UInt8} {z:Int} (h1:1<=z) (hz:z<=1000):∀ k c,∃ p:List V2,(drF b z k c).1=Ak p/\p.length<=5/\p.all AE=true
 | 0,c=>⟨[(-1,-1),(1,-1),(0,1)],by show [(-1,-1),(1,-1),(0,1)]=_;decide +kernel,by simp,by decide⟩
 | k+1,c=>by
  unfold drF
  split
  ·refine ⟨(att b z c).1,rfl,?_,?_⟩
   ·have:=Nn b c
    unfold att;rw [Da];omega
   ·rw [List.all_eq_true]
    exact λ v hv=>Tp hz (O8 (by omega) _ _ v hv)
  ·exact Nu h1 hz k _
theorem Nv {b:List UInt8} {z:Int} (h1:1<=z) (hz:z<=1000) (c:Cur):∃ p:List V2,HullOk (λ v=>v ∈ p) (drP b z c).1/\(drP b z c).1.length<=5:=by
 obtain ⟨p,e,h5,hv⟩:=Nu (b:=b) h1 hz 8 c
 have hp:=(O9 (b:=b) h1 c).1
 obtain ⟨x,y,w,hx,hy,hw,ht⟩:=Jx hp
 have e' : (drP b z c).1=Ak p:=e
 rw [e'] at hx hy hw ⊢
 have H:=Gp hv (by omega) (CP hx) (CP hy) (CP hw) ht
 exact ⟨p,H,Nat.le_trans (List.Nodup.length_le_of_subset H.ring.nodup λ v hv=>CP hv) h5⟩
theorem Jy {l:List V2} (h:AJ l=true):FC l=Jw l:=by unfold FC;rw [if_pos h]
structure HullLaw (a b:List V2) (h:List V2):Prop where
 poly:AJ h=true
 vec:(a++b).all AE=true
 len:h.length<=16/\(Ak h).length<=16
 con:∀ k,k<(a++b).length->0<=Lz h (ptV ((a++b).getD k (0,0)))
 same:CE (Ak h) h=true
 area:FC a<=FC h
 pos:0<FC h
theorem Tq {a b:List V2} {p:List V2} (ha:AJ a=true) (hb:AJ b=true) (h1:a.length<=8) (h2:b.length<=8) (Ha:HullOk (λ v=>v ∈ p) a):HullLaw a b (Ak (a++b)):=by
 obtain ⟨ha3,-,hva⟩:=Gk ha
 obtain ⟨hb3,-,hvb⟩:=Gk hb
 have hv:(a++b).all AE=true:=by rw [List.all_append,hva,hvb];rfl
 have h16:(a++b).length<=16:=by rw [List.length_append];omega
 obtain ⟨x,y,w,hx,hy,hw,ht⟩:=Jx ha
 have H:=Gp hv (by omega) (List.mem_append_left b hx) (List.mem_append_left b hy) (List.mem_append_left b hw) ht
 obtain ⟨hp,hle⟩:=LQ hv h16 (List.mem_append_left b hx) (List.mem_append_left b hy) (List.mem_append_left b hw) ht
 obtain ⟨h3,hl16,hvh⟩:=Gk hp
 obtain ⟨x',y',w',hx',hy',hw',ht'⟩:=Jx hp
 have H':=Gp hvh (by omega) hx' hy' hw' ht'
 obtain ⟨hp',hle'⟩:=LQ hvh hl16 hx' hy' hw' ht'
 obtain ⟨k,hk,hlen,hrot⟩:=Te hp' hp λ v=>PE hp H'.ring H'.three v
 refine ⟨hp,hv,⟨hl16,by omega⟩,λ i hi=>?_,Nt hlen hk hrot,?_,?_⟩
 ·exact (Up hvh (AY hv hi)).2 λ j hj=>H.ring.side j hj _ (CB hi)
 ·rw [Jy ha,Jy hp]
  exact RW H Ha λ v hv=>List.mem_append_left b hv
 ·rw [Jy hp];exact Un hp
end Go.Proofs.Ytndnhlhnjiopfaa
