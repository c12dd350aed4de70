import Derived.Test.YtndnhlhnjiopfaaGreatDiCon
import Derived.Test.YtndnhlhnjiopfaaGreatDiSml
import Derived.Test.YtndnhlhnjiopfaaGreatDiDrp
import Derived.Test.YtndnhlhnjiopfaaGreatDiRkH
namespace Go.Proofs.YtndnhlhnjiopfaaGreat
set_option linter.unusedVariables false
set_option linter.unusedSimpArgs false
def PqS (k:Nat) (p:Pq):Prop:=∃ x y,FrS k p.x x/\FrS k p.y y
theorem UE {p q:Pq} {j k:Nat} (hp:PqS j p) (hq:PqS k q) (h:4*(j+k+1)+1<=700):∃ z,FrS (4*(j+k+1)+1) (sdQ p q) z:=by
 obtain ⟨x,y,hx,hy⟩:=hp
 obtain ⟨u,v,hu,hv⟩:=hq
 have h1:=hx.sub hu (by omega)
 have h2:=hy.sub hv (by omega)
 have:=(h1.mul h1 (by omega)).add (h2.mul h2 (by omega)) (by omega)
 exact ⟨_,this.mono (by omega)⟩
theorem WA {a b c:Pq} {i j k:Nat} (ha:PqS i a) (hb:PqS j b) (hc:PqS k c) (h:2*(2*i+j+k+2)+1<=700):∃ z,FrS (2*(2*i+j+k+2)+1) (Hz a b c) z:=by
 obtain ⟨x,y,hx,hy⟩:=ha
 obtain ⟨u,v,hu,hv⟩:=hb
 obtain ⟨s,t,hs,ht⟩:=hc
 have:=((hu.sub hx (by omega)).mul (hs.sub hx (by omega)) (by omega)).add ((hv.sub hy (by omega)).mul (ht.sub hy (by omega)) (by omega)) (by omega)
 exact ⟨_,this.mono (by omega)⟩
theorem UF {p a b:Pq} (hp:PqS 7 p) (ha:PqS 3 a) (hb:PqS 3 b):∃ z,FrS 400 (Fd p a b) z:=by
 unfold Fd
 split
 ·obtain ⟨z,hz⟩:=UE hp ha (by omega)
  exact ⟨z,hz.mono (by omega)⟩
 ·rename_i hne
  obtain ⟨d,hd⟩:=UE ha hb (by omega)
  obtain ⟨n,hn⟩:=WA ha hp hb (by omega)
  have d0:d≠0:=by
   rintro rfl
   exact hne (Uz.2 (U0 hd.1))
  have ht:=(FrS.int (n:=1) (k:=0) (by decide) (by omega)).min ((FrS.int (n:=0) (k:=0) (by decide) (by omega)).max (hn.div hd d0 (by omega)))
  have ht:=ht.mono (k:=70) (by simp only [Nat.zero_max,Nat.max_eq_right (Nat.zero_le _)];omega)
  have hq:PqS 82 (Qi a b (tQ p a b)):=by
   obtain ⟨x,y,hx,hy⟩:=ha
   obtain ⟨u,v,hu,hv⟩:=hb
   exact ⟨_,_,(hx.add (ht.mul (hu.sub hx (by omega)) (by omega)) (by omega)).mono (by omega),(hy.add (ht.mul (hv.sub hy (by omega)) (by omega)) (by omega)).mono (by omega)⟩
  obtain ⟨z,hz⟩:=UE hp hq (by omega)
  exact ⟨z,hz.mono (by omega)⟩
theorem Qr {l:List V2} (h:∀ x ∈ l,(-8<=x.1/\x.1<=8)/\-8<=x.2/\x.2<=8) {k:Nat} (hk:k<l.length):PqS 3 (CN l k):=by
 have:=h _ (Tt hk)
 exact ⟨_,_,FrS.int (n:=(l.getD k (0,0)).1) (k:=3) (by omega) (by omega),FrS.int (n:=(l.getD k (0,0)).2) (k:=3) (by omega) (by omega)⟩
theorem UG {l:List V2} (h:∀ x ∈ l,(-8<=x.1/\x.1<=8)/\-8<=x.2/\x.2<=8) {p:Pq} (hp:PqS 7 p) (h0:0<l.length):∀ k,k<l.length->∃ z,FrS 400 (H0 l p k) z
 | 0,hk=>UF hp (Qr h (by omega)) (Qr h (Nat.mod_lt _ h0))
 | k+1,hk=>by
  obtain ⟨z,hz⟩:=UG h hp h0 k (by omega)
  obtain ⟨y,hy⟩:=UF hp (Qr h (show k<l.length by omega)) (Qr h (Nat.mod_lt (k+1) h0))
  exact ⟨_,(hz.min hy).mono (by decide)⟩
theorem U7 {l:List V2} (hl:Ai l=true) (h:∀ x ∈ l,(-8<=x.1/\x.1<=8)/\-8<=x.2/\x.2<=8) {p:Pq} (hp:PqS 7 p):∃ z,FrS 400 (Bi l p) z:=by
 have h3:=(OU hl).1
 by_cases hc:LM l p≥0
 ·rw [Ky hc]
  exact ⟨_,(FrS.int (n:=0) (k:=0) (by decide) (by omega)).mono (by omega)⟩
 ·rw [OS hc]
  exact UG h hp (by omega) _ (by omega)
theorem PqS.good {k:Nat} {p:Pq} (h:PqS k p):p.good=true:=by
 obtain ⟨x,y,hx,hy⟩:=h
 unfold Pq.good
 rw [hx.good,hy.good];rfl
theorem VR {l:List V2} {p:Pq} (hl:Ai l=true) (h:p.good=true):spR l (ptQ p)=Bi l p:=by
 rw [Mx hl (by rw [Vx];exact h)]
 have hg:p.x.good=true/\p.y.good=true:=by unfold Pq.good at h;rwa [Bool.and_eq_true] at h
 have e:pqR (ptQ p)=p:=by
  show (⟨Fr.mk' (zOf (decide (p.x.z<0)) (JT (L p.x.z.natAbs))) (JT (L p.x.d)),Fr.mk' (zOf (decide (p.y.z<0)) (JT (L p.y.z.natAbs))) (JT (L p.y.d))⟩:Pq)=p
  rw [CR,CR,CR,CR,C5,C5,Ms (Fr.d_good.1 hg.1),Ms (Fr.d_good.1 hg.2)]
 rw [e]
structure DiscLaw (l:List V2) (p:Pq) (n:Int):Prop where
 vec:AO (l.getD 0 (0,0))=true/\0<l.length/\l.length<=16
 good:(spR l (ptQ p)).good=true
 at0:dtB l (ptQ (ptV (l.getD 0 (0,0)))) 0=true
 eq:dtB l (ptQ p) n=decide (Fr.cmp (spR l (ptQ p)) (Fr.ofInt n)<=0)
 mono:dtB l (ptQ p) n=true->dtB l (ptQ p) (n+1)=true
theorem UH {l:List V2} {p:Pq} {n:Int} (hl:Ai l=true) (h:∀ x ∈ l,(-8<=x.1/\x.1<=8)/\-8<=x.2/\x.2<=8) (hp:PqS 7 p) (h0:0<=n) (h1:n<=1000):DiscLaw l p n:=by
 obtain ⟨h3,h16,hall⟩:=OU hl
 obtain ⟨z,hz⟩:=U7 hl h hp
 have e:=VR hl hp.good
 have hv:=CD hall (show 0<l.length by omega)
 have hg:(ptV (l.getD 0 (0,0))).good=true:=Rx hall (show 0<l.length by omega)
 refine ⟨⟨hv,by omega,h16⟩,by rw [e];exact hz.good,?_,?_,?_⟩
 ·unfold dtB
  rw [VR hl hg,Ky (show LM l (ptV (l.getD 0 (0,0)))≥0 from (Uy hall hv).2 λ i hi=>Rw hl hi (by omega))]
  decide +kernel
 ·unfold dtB
  rw [decide_eq_true h0,Bool.true_and,e,hz.good,Bool.true_and]
 ·unfold dtB
  rw [e,hz.good,decide_eq_true h0,decide_eq_true (show n+1≥0 by omega),Bool.true_and,Bool.true_and,Bool.true_and,Bool.true_and,decide_eq_true_eq,decide_eq_true_eq,
   hz.cmp (FrS.int (n:=n) (k:=20) (by omega) (by omega)),hz.cmp (FrS.int (n:=n+1) (k:=20) (by omega) (by omega))]
  have hn:((n+1:Int):Rat)=(n:Rat)+1:=by push_cast;rfl
  rw [hn]
  unfold JS
  intro hc
  by_cases c1:z<(n:Rat)+1
  ·rw [if_pos c1];decide
  ·by_cases c2:z=(n:Rat)+1
   ·rw [if_neg c1,if_pos c2];decide
   ·rw [if_neg (by grind),if_neg (by grind)] at hc
    exact absurd hc (by decide)
end Go.Proofs.YtndnhlhnjiopfaaGreat
