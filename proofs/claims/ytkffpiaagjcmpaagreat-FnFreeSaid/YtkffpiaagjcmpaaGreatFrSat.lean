import Derived.Test.YtkffpiaagjcmpaaGreatFrStd
namespace Go.Proofs.YtkffpiaagjcmpaaGreat
set_option linter.unusedVariables false
set_option linter.unusedSimpArgs false
theorem Uc {d e:V2} (h:Hp d e) (z:V2) (hz:d.1*z.2-d.2*z.1<0):e.1*z.2-e.2*z.1<0:=by
 obtain ⟨h1,h2⟩:=h
 have hd:d≠(0,0):=by rintro rfl;simp at h2
 have hq:=Kf hd
 have e1:(d.1*d.1+d.2*d.2)*(e.1*z.2-e.2*z.1)=(d.1*e.1+d.2*e.2)*(d.1*z.2-d.2*z.1):=by grind
 have k:=Int.mul_pos h2 (show 0 < -(d.1*z.2-d.2*z.1) by omega)
 have k2:(d.1*d.1+d.2*d.2)*(e.1*z.2-e.2*z.1)<0:=by rw [e1];grind
 apply Classical.byContradiction
 intro hc
 have:=Int.mul_nonneg (Int.le_of_lt hq) (show 0<=e.1*z.2-e.2*z.1 by omega)
 omega
def MX (p:V2):V2:=(-p.1,-p.2)
def Jx (l:List V2):List V2:=l.map MX
theorem CL (l:List V2):(Jx l).length=l.length:=by simp [Jx]
theorem Dl {l:List V2} {i:Nat} (h:i<l.length):(Jx l).getD i (0,0)=MX (l.getD i (0,0)):=by simp [Jx,List.getD,h]
def TE (a b:List V2):Prop:=∃ i,i<a.length/\∀ x ∈ b,AF (a.getD i (0,0)) (a.getD ((i+1)%a.length) (0,0)) x<0
def mvV (v:V2) (a:List V2):List V2:=a.map (Af v)
theorem HL (v:V2) (a:List V2):(mvV v a).length=a.length:=by simp [mvV]
theorem IE {v:V2} {a:List V2} {i:Nat} (h:i<a.length):(mvV v a).getD i (0,0)=Af v (a.getD i (0,0)):=by simp [mvV,List.getD,h]
theorem sat {a b H:List V2} (ha:AG a=true) (hb:AG b=true) (hna:AG (Jx a)=true) (r:Ring (Ml b (Jx a)) H) (h3:3<=H.length) (v:V2) :
  (∀ k,k<H.length->0<=AF (H.getD k (0,0)) (H.getD ((k+1)%H.length) (0,0)) v)↔¬ TE (mvV v a) b/\¬ TE b (mvV v a):=by
 have hS:∀ i j,i<b.length->j<a.length->Ml b (Jx a) (Af (b.getD i (0,0)) (MX (a.getD j (0,0)))):=λ i j hi hj=>⟨i,j,hi,by rw [CL];exact hj,by rw [Dl hj]⟩
 constructor
 ·intro hv
  refine ⟨?_,?_⟩
  ·rintro ⟨i,hi,hsep⟩
   rw [HL] at hi hsep
   rw [IE hi,IE (DX hi)] at hsep
   obtain ⟨p,ep⟩:∃ p,a.getD i (0,0)=p:=⟨_,rfl⟩
   obtain ⟨q,eq⟩:∃ q,a.getD ((i+1)%a.length) (0,0)=q:=⟨_,rfl⟩
   obtain ⟨k,hk,hle⟩:=Pa h3 (λ i j h1 h2 h3' h4=>r.strict h3 h1 h2 h3' h4) hv (q.2-p.2) (-(q.1-p.1))
   obtain ⟨s,t,hs,ht,e⟩:=r.mem k hk
   rw [CL] at ht
   rw [Dl ht] at e
   have h1:=hsep _ (Dx hs)
   have h2:=NI ha hi ht
   rw [ep,eq] at h1 h2
   rw [e] at hle
   unfold AF at h1 h2
   simp only [Af,MX] at hle h1 h2
   grind
  ·rintro ⟨i,hi,hsep⟩
   obtain ⟨p,ep⟩:∃ p,b.getD i (0,0)=p:=⟨_,rfl⟩
   obtain ⟨q,eq⟩:∃ q,b.getD ((i+1)%b.length) (0,0)=q:=⟨_,rfl⟩
   obtain ⟨k,hk,hle⟩:=Pa h3 (λ i j h1 h2 h3' h4=>r.strict h3 h1 h2 h3' h4) hv (-(q.2-p.2)) (q.1-p.1)
   obtain ⟨s,t,hs,ht,e⟩:=r.mem k hk
   rw [CL] at ht
   rw [Dl ht] at e
   have h1:=hsep (Af v (a.getD t (0,0))) (List.mem_map_of_mem (Dx ht))
   have h2:=NI hb hi hs
   rw [ep,eq] at h1 h2
   rw [e] at hle
   unfold AF at h1 h2
   simp only [Af,MX] at hle h1 h2
   grind
 ·rintro ⟨n1,n2⟩ k hk
  apply Classical.byContradiction
  intro hc
  have hv:AF (H.getD k (0,0)) (H.getD ((k+1)%H.length) (0,0)) v<0:=by omega
  obtain ⟨i,j,hi,hj,eP⟩:=r.mem k hk
  obtain ⟨i',j',hi',hj',eQ⟩:=r.mem _ (DX hk)
  have hs:=r.side k hk
  have hne:=r.inj _ _ hk (DX hk) (PV hk (by omega)).symm
  obtain ⟨P,hP⟩:∃ P,H.getD k (0,0)=P:=⟨_,rfl⟩
  obtain ⟨Q,hQ⟩:∃ Q,H.getD ((k+1)%H.length) (0,0)=Q:=⟨_,rfl⟩
  rw [hP,hQ] at hv hs hne
  rw [hP] at eP
  rw [hQ] at eQ
  rcases PW eP eQ hne (hs _ ⟨i',j,hi',hj,rfl⟩) (hs _ ⟨i,j',hi,hj',rfl⟩) with hp|hp
  ·have hd:=Gg hb hi hi' (λ l hl=>by rw [← PX eP];exact hs _ ⟨l,j,hl,hj,rfl⟩) hp
   apply n2
   refine ⟨i,hi,λ x hx=>?_⟩
   obtain ⟨y,hy,rfl⟩:=List.mem_map.1 hx
   obtain ⟨t,ht,rfl⟩:=PZ hy
   have g1:=hs _ (hS i t hi ht)
   have:=Uc hd (z:=CC (b.getD i (0,0)) (Af v (a.getD t (0,0)))) (by
    unfold AF at g1 hv
    simp only [CC,Af,MX] at g1 ⊢
    grind)
   unfold AF
   simp only [CC] at this
   exact this
  ·have hd:=Gg hna hj hj' (λ l hl=>by rw [← PY eP];exact hs _ ⟨i,l,hi,hl,rfl⟩) hp
   have hj2:j<a.length:=by rw [← CL a];exact hj
   rw [CL,Dl hj2,Dl (DX hj2)] at hd
   apply n1
   refine ⟨j,by rw [HL];exact hj2,λ x hx=>?_⟩
   rw [HL,IE hj2,IE (DX hj2)]
   obtain ⟨t,ht,rfl⟩:=PZ hx
   have g1:=hs _ (hS t j ht hj2)
   have:=Uc hd (z:=CC (b.getD t (0,0)) (Af v (a.getD j (0,0)))) (by
    unfold AF at g1 hv
    simp only [CC,Af,MX] at g1 ⊢
    grind)
   unfold AF
   simp only [CC,Af,MX] at this ⊢
   grind
theorem MY {a:List V2} (ha:AG a=true):¬ TE a a:=by
 rintro ⟨i,hi,h⟩
 have:=h _ (Dx hi)
 rw [JD] at this
 omega
theorem YO {a:List V2} (ha:AG a=true):AG (Jx a)=true:=by
 obtain ⟨h1,h2,h3⟩:=A5.1 ha
 refine A5.2 ⟨by rw [CL];exact h1,?_,λ i j hi hj n1 n2=>?_⟩
 ·rw [List.all_eq_true] at h2 ⊢
  intro x hx
  obtain ⟨y,hy,rfl⟩:=List.mem_map.1 hx
  have:=BW (h2 y hy)
  simp only [AD,B0,MX,Bool.and_eq_true,Az];omega
 ·rw [CL] at hi hj n2 ⊢
  rw [Dl hi,Dl hj,Dl (DX hi)]
  have:=h3 i j hi hj n1 n2
  unfold AF at this ⊢
  simp only [MX]
  grind
end Go.Proofs.YtkffpiaagjcmpaaGreat
