import Derived.Test.YtndnhlhnjiopfaaGreatToHulU
namespace Go.Proofs.YtndnhlhnjiopfaaGreat
set_option linter.unusedVariables false
set_option linter.unusedSimpArgs false
theorem RM {d e:V2} (h:GI d e) (z:V2) (hz:d.1*z.2-d.2*z.1<0):e.1*z.2-e.2*z.1<0:=by
 obtain ⟨h1,h2⟩:=h
 have hd:d≠(0,0):=by rintro rfl;simp at h2
 have hq:=I7 hd
 have e1:(d.1*d.1+d.2*d.2)*(e.1*z.2-e.2*z.1)=(d.1*e.1+d.2*e.2)*(d.1*z.2-d.2*z.1):=by grind
 have k:=Int.mul_pos h2 (show 0 < -(d.1*z.2-d.2*z.1) by omega)
 have k2:(d.1*d.1+d.2*d.2)*(e.1*z.2-e.2*z.1)<0:=by rw [e1];grind
 apply Classical.byContradiction
 intro hc
 have:=Int.mul_nonneg (Int.le_of_lt hq) (show 0<=e.1*z.2-e.2*z.1 by omega)
 omega
def Ki (p:V2):V2:=(-p.1,-p.2)
def IS (l:List V2):List V2:=l.map Ki
theorem Bt (l:List V2):(IS l).length=l.length:=by simp [IS]
theorem C8 {l:List V2} {i:Nat} (h:i<l.length):(IS l).getD i (0,0)=Ki (l.getD i (0,0)):=by simp [IS,List.getD,h]
def QI (a b:List V2):Prop:=∃ i,i<a.length/\∀ x ∈ b,AC (a.getD i (0,0)) (a.getD ((i+1)%a.length) (0,0)) x<0
def mvV (v:V2) (a:List V2):List V2:=a.map (AY v)
theorem He (v:V2) (a:List V2):(mvV v a).length=a.length:=by simp [mvV]
theorem Gb {v:V2} {a:List V2} {i:Nat} (h:i<a.length):(mvV v a).getD i (0,0)=AY v (a.getD i (0,0)):=by simp [mvV,List.getD,h]
theorem sat {a b H:List V2} (ha:AG a=true) (hb:AG b=true) (hna:AG (IS a)=true) (r:Ring (Kp b (IS a)) H) (h3:3<=H.length) (v:V2) :
  (∀ k,k<H.length->0<=AC (H.getD k (0,0)) (H.getD ((k+1)%H.length) (0,0)) v)↔¬ QI (mvV v a) b/\¬ QI b (mvV v a):=by
 have hS:∀ i j,i<b.length->j<a.length->Kp b (IS a) (AY (b.getD i (0,0)) (Ki (a.getD j (0,0)))):=λ i j hi hj=>⟨i,j,hi,by rw [Bt];exact hj,by rw [C8 hj]⟩
 constructor
 ·intro hv
  refine ⟨?_,?_⟩
  ·rintro ⟨i,hi,hsep⟩
   rw [He] at hi hsep
   rw [Gb hi,Gb (Cw hi)] at hsep
   obtain ⟨p,ep⟩:∃ p,a.getD i (0,0)=p:=⟨_,rfl⟩
   obtain ⟨q,eq⟩:∃ q,a.getD ((i+1)%a.length) (0,0)=q:=⟨_,rfl⟩
   obtain ⟨k,hk,hle⟩:=Of h3 (λ i j h1 h2 h3' h4=>r.strict h3 h1 h2 h3' h4) hv (q.2-p.2) (-(q.1-p.1))
   obtain ⟨s,t,hs,ht,e⟩:=r.mem k hk
   rw [Bt] at ht
   rw [C8 ht] at e
   have h1:=hsep _ (CL hs)
   have h2:=L9 ha hi ht
   rw [ep,eq] at h1 h2
   rw [e] at hle
   unfold AC at h1 h2
   simp only [AY,Ki] at hle h1 h2
   grind
  ·rintro ⟨i,hi,hsep⟩
   obtain ⟨p,ep⟩:∃ p,b.getD i (0,0)=p:=⟨_,rfl⟩
   obtain ⟨q,eq⟩:∃ q,b.getD ((i+1)%b.length) (0,0)=q:=⟨_,rfl⟩
   obtain ⟨k,hk,hle⟩:=Of h3 (λ i j h1 h2 h3' h4=>r.strict h3 h1 h2 h3' h4) hv (-(q.2-p.2)) (q.1-p.1)
   obtain ⟨s,t,hs,ht,e⟩:=r.mem k hk
   rw [Bt] at ht
   rw [C8 ht] at e
   have h1:=hsep (AY v (a.getD t (0,0))) (List.mem_map_of_mem (CL ht))
   have h2:=L9 hb hi hs
   rw [ep,eq] at h1 h2
   rw [e] at hle
   unfold AC at h1 h2
   simp only [AY,Ki] at hle h1 h2
   grind
 ·rintro ⟨n1,n2⟩ k hk
  apply Classical.byContradiction
  intro hc
  have hv:AC (H.getD k (0,0)) (H.getD ((k+1)%H.length) (0,0)) v<0:=by omega
  obtain ⟨i,j,hi,hj,eP⟩:=r.mem k hk
  obtain ⟨i',j',hi',hj',eQ⟩:=r.mem _ (Cw hk)
  have hs:=r.side k hk
  have hne:=r.inj _ _ hk (Cw hk) (NB hk (by omega)).symm
  obtain ⟨P,hP⟩:∃ P,H.getD k (0,0)=P:=⟨_,rfl⟩
  obtain ⟨Q,hQ⟩:∃ Q,H.getD ((k+1)%H.length) (0,0)=Q:=⟨_,rfl⟩
  rw [hP,hQ] at hv hs hne
  rw [hP] at eP
  rw [hQ] at eQ
  rcases NC eP eQ hne (hs _ ⟨i',j,hi',hj,rfl⟩) (hs _ ⟨i,j',hi,hj',rfl⟩) with hp|hp
  ·have hd:=Fb hb hi hi' (λ l hl=>by rw [← ND eP];exact hs _ ⟨l,j,hl,hj,rfl⟩) hp
   apply n2
   refine ⟨i,hi,λ x hx=>?_⟩
   obtain ⟨y,hy,rfl⟩:=List.mem_map.1 hx
   obtain ⟨t,ht,rfl⟩:=Oe hy
   have g1:=hs _ (hS i t hi ht)
   have:=RM hd (z:=Bm (b.getD i (0,0)) (AY v (a.getD t (0,0)))) (by
    unfold AC at g1 hv
    simp only [Bm,AY,Ki] at g1 ⊢
    grind)
   unfold AC
   simp only [Bm] at this
   exact this
  ·have hd:=Fb hna hj hj' (λ l hl=>by rw [← NE eP];exact hs _ ⟨i,l,hi,hl,rfl⟩) hp
   have hj2:j<a.length:=by rw [← Bt a];exact hj
   rw [Bt,C8 hj2,C8 (Cw hj2)] at hd
   apply n1
   refine ⟨j,by rw [He];exact hj2,λ x hx=>?_⟩
   rw [He,Gb hj2,Gb (Cw hj2)]
   obtain ⟨t,ht,rfl⟩:=Oe hx
   have g1:=hs _ (hS t j ht hj2)
   have:=RM hd (z:=Bm (b.getD t (0,0)) (AY v (a.getD j (0,0)))) (by
    unfold AC at g1 hv
    simp only [Bm,AY,Ki] at g1 ⊢
    grind)
   unfold AC
   simp only [Bm,AY,Ki] at this ⊢
   grind
theorem Kj {a:List V2} (ha:AG a=true):¬ QI a a:=by
 rintro ⟨i,hi,h⟩
 have:=h _ (CL hi)
 rw [Hl] at this
 omega
theorem U1 {a:List V2} (ha:AG a=true):AG (IS a)=true:=by
 obtain ⟨h1,h2,h3⟩:=BI.1 ha
 refine BI.2 ⟨by rw [Bt];exact h1,?_,λ i j hi hj n1 n2=>?_⟩
 ·rw [List.all_eq_true] at h2 ⊢
  intro x hx
  obtain ⟨y,hy,rfl⟩:=List.mem_map.1 hx
  have:=BL (h2 y hy)
  simp only [AB,RR,Ki,Bool.and_eq_true,Cy];omega
 ·rw [Bt] at hi hj n2 ⊢
  rw [C8 hi,C8 hj,C8 (Cw hi)]
  have:=h3 i j hi hj n1 n2
  unfold AC at this ⊢
  simp only [Ki]
  grind
end Go.Proofs.YtndnhlhnjiopfaaGreat
