import Derived.Test.YtndnhlhnjiopfaaHhHulR
namespace Go.Proofs.Ytndnhlhnjiopfaa
set_option linter.unusedVariables false
set_option linter.unusedSimpArgs false
theorem IH {l:List V2} (h:AJ l=true):l.Nodup:=by
 obtain ⟨⟨h3,-⟩,-,hs⟩:=BT.1 h
 rw [List.nodup_iff_pairwise_ne,List.pairwise_iff_getElem]
 intro i j hi hj hij e
 have e:l.getD i (0,0)=l.getD j (0,0):=by simp [List.getD,hi,hj,e]
 by_cases hj1:j=(i+1)%l.length
 ·have hk:(j+1)%l.length<l.length:=Fi hj
  have n2:(j+1)%l.length≠j:=MM hj (by omega)
  have n1:(j+1)%l.length≠i:=λ e'=>Tw hi hj h3 hj1 e'.symm
  have:=hs i _ hi hk n1 (by rw [← hj1];exact n2)
  rw [← hj1,← e] at this
  unfold AC at this
  grind
 ·have:=hs i j hi hj (by omega) hj1
  rw [← e] at this
  unfold AC at this
  grind
theorem EA {l:List V2} {x:V2} (h:x ∈ l):∃ i,i<l.length/\l.getD i (0,0)=x:=by
 obtain ⟨i,hi,rfl⟩:=List.getElem_of_mem h
 exact ⟨i,hi,by simp [List.getD,hi]⟩
theorem CB {l:List V2} {i:Nat} (h:i<l.length):l.getD i (0,0) ∈ l:=by simp [List.getD,h]
theorem LM {l:List V2} (h:AJ l=true) {i j:Nat} (hi:i<l.length) (hj:j<l.length):0<=AC (l.getD i (0,0)) (l.getD ((i+1)%l.length) (0,0)) (l.getD j (0,0)):=by
 obtain ⟨⟨h3,-⟩,-,hs⟩:=BT.1 h
 by_cases h1:j=i
 ·subst h1;rw [KL];exact Int.le_refl _
 ·by_cases h2:j=(i+1)%l.length
  ·rw [← h2,Fm];exact Int.le_refl _
  ·exact Int.le_of_lt (hs i j hi hj h1 h2)
theorem F9 {l:List V2} (h:l.Nodup) {i j:Nat} (hi:i<l.length) (hj:j<l.length) (e:l.getD i (0,0)=l.getD j (0,0)):i=j:=by
 simp only [List.getD,List.getElem?_eq_getElem hi,List.getElem?_eq_getElem hj,Option.getD_some] at e
 rw [List.nodup_iff_pairwise_ne,List.pairwise_iff_getElem] at h
 rcases Nat.lt_trichotomy i j with c|c|c
 ·exact absurd e (h i j hi hj c)
 ·exact c
 ·exact absurd e.symm (h j i hj hi c)
theorem Te {A B:List V2} (hA:AJ A=true) (hB:AJ B=true) (h:∀ x,x ∈ A↔x ∈ B):∃ k,k<A.length/\A.length=B.length/\A=B.drop k++B.take k:=by
 have nA:=IH hA
 have nB:=IH hB
 obtain ⟨⟨a3,-⟩,-,sA⟩:=BT.1 hA
 obtain ⟨⟨b3,-⟩,-,sB⟩:=BT.1 hB
 have hlen:A.length=B.length:=by
  have h1:=List.Nodup.length_le_of_subset nA (λ x hx=>(h x).1 hx)
  have h2:=List.Nodup.length_le_of_subset nB (λ x hx=>(h x).2 hx)
  omega
 obtain ⟨k,hk,ek⟩:=EA ((h _).1 (CB (l:=A) (i:=0) (by omega)))
 have key:∀ i,i<A.length->A.getD i (0,0)=B.getD ((k+i)%B.length) (0,0):=by
  intro i
  induction i with
  | zero=>intro _;rw [Nat.add_zero,Nat.mod_eq_of_lt hk];exact ek.symm
  | succ i ih=>
   intro hi
   have e:=ih (by omega)
   obtain ⟨j,hj⟩:∃ j,j=(k+i)%B.length:=⟨_,rfl⟩
   have hjl:j<B.length:=by rw [hj];exact Nat.mod_lt _ (by omega)
   rw [← hj] at e
   have ej:(k+(i+1))%B.length=(j+1)%B.length:=by rw [hj,Nat.mod_add_mod];rfl
   rw [ej]
   obtain ⟨m,hm,em⟩:=EA ((h _).1 (CB (l:=A) (i:=i+1) hi))
   by_cases hc:m=(j+1)%B.length
   ·rw [← em,hc]
   ·exfalso
    have hmj:m≠j:=λ e'=>by
     subst e'
     rw [← e] at em
     have:=F9 nA (by omega) hi em
     omega
    have t1:=sB j m hjl hm hmj hc
    obtain ⟨t,ht,et⟩:=EA ((h _).2 (CB (l:=B) (i:=(j+1)%B.length) (Fi hjl)))
    have hti:t≠i:=λ e'=>by
     subst e'
     rw [e] at et
     exact MM hjl (by omega) (F9 nB hjl (Fi hjl) et).symm
    have hm1:(i+1)%A.length=i+1:=Nat.mod_eq_of_lt hi
    have hti1:t≠(i+1)%A.length:=λ e'=>by
     rw [hm1] at e'
     subst e'
     rw [← em] at et
     exact hc (F9 nB hm (Fi hjl) et)
    have t2:=sA i t (by omega) ht hti hti1
    rw [hm1,e,← em,et] at t2
    unfold AC at t1 t2
    grind
 refine ⟨k,by omega,hlen,List.ext_getElem (by simp;omega) λ i h1 h2=>?_⟩
 have e:=key i h1
 have e1:A.getD i (0,0)=A[i]:=by simp [List.getD,h1]
 rw [e1] at e
 rw [e]
 by_cases hc:k+i<B.length
 ·rw [Nat.mod_eq_of_lt hc,List.getElem_append_left (by simp;omega)]
  simp [List.getD,hc]
 ·have hlt:k+i-B.length<B.length:=by omega
  have hm:(k+i)%B.length=k+i-B.length:=by rw [Nat.mod_eq_sub_mod (by omega),Nat.mod_eq_of_lt hlt]
  rw [hm,List.getElem_append_right (by simp;omega)]
  simp [List.getD,hlt]
  congr 1
  omega
theorem PD {n:Nat} (h:0<n) (f:Nat->Int):∃ i,i<n/\∀ j,j<n->f i<=f j:=by
 induction n with
 | zero=>omega
 | succ n ih=>
  by_cases h0:n=0
  ·subst h0;exact ⟨0,by omega,λ j hj=>by rw [show j=0 by omega];exact Int.le_refl _⟩
  ·obtain ⟨i,hi,hm⟩:=ih (by omega)
   by_cases hc:f i<=f n
   ·refine ⟨i,by omega,λ j hj=>?_⟩
    by_cases e:j=n
    ·subst e;exact hc
    ·exact hm j (by omega)
   ·refine ⟨n,by omega,λ j hj=>?_⟩
    by_cases e:j=n
    ·subst e;exact Int.le_refl _
    ·have:=hm j (by omega);omega
theorem Tf {A B:Int} {p u w v:V2} (hD:0<AC w p u) (h1:0<=AC p u v) (h2:0<=AC w p v) (hu:A*p.1+B*p.2<=A*u.1+B*u.2) (hw:A*p.1+B*p.2<=A*w.1+B*w.2):A*p.1+B*p.2<=A*v.1+B*v.2:=by
 have e:AC w p u*(A*v.1+B*v.2-(A*p.1+B*p.2))=AC w p v*(A*u.1+B*u.2-(A*p.1+B*p.2))+AC p u v*(A*w.1+B*w.2-(A*p.1+B*p.2)):=by
  unfold AC;grind
 have k1:=Int.mul_nonneg h2 (show 0<=A*u.1+B*u.2-(A*p.1+B*p.2) by omega)
 have k2:=Int.mul_nonneg h1 (show 0<=A*w.1+B*w.2-(A*p.1+B*p.2) by omega)
 have:0<=A*v.1+B*v.2-(A*p.1+B*p.2):=Int.nonneg_of_mul_nonneg_right (by rw [e];exact Int.add_nonneg k1 k2) hD
 omega
theorem QG {i n:Nat} (hi:i<n) (h3:3<=n):∃ j,j<n/\(j+1)%n=i/\(i+1)%n≠j/\(i+1)%n≠i:=by
 by_cases h0:i=0
 ·subst h0
  refine ⟨n-1,by omega,by rw [show n-1+1=n by omega,Nat.mod_self],?_,MM hi (by omega)⟩
  rw [Nat.mod_eq_of_lt (by omega)];omega
 ·refine ⟨i-1,by omega,by rw [show i-1+1=i by omega,Nat.mod_eq_of_lt hi],?_,MM hi (by omega)⟩
  by_cases h1:i+1<n
  ·rw [Nat.mod_eq_of_lt h1];omega
  ·rw [show i+1=n by omega,Nat.mod_self];omega
theorem Tg {P:List V2} (h3:3<=P.length) (hs:∀ i j,i<P.length->j<P.length->j≠i->j≠(i+1)%P.length->0<AC (P.getD i (0,0)) (P.getD ((i+1)%P.length) (0,0)) (P.getD j (0,0))) {v:V2} (hv:∀ i,i<P.length->0<=AC (P.getD i (0,0)) (P.getD ((i+1)%P.length) (0,0)) v) (A B:Int) :
  ∃ i,i<P.length/\A*(P.getD i (0,0)).1+B*(P.getD i (0,0)).2<=A*v.1+B*v.2:=by
 obtain ⟨i,hi,hm⟩:=PD (n:=P.length) (by omega) λ i=>A*(P.getD i (0,0)).1+B*(P.getD i (0,0)).2
 refine ⟨i,hi,?_⟩
 obtain ⟨j,hj,ej,n1,n2⟩:=QG hi h3
 have hD:=hs j ((i+1)%P.length) hj (Fi hi) n1 (by rw [ej];exact n2)
 have q1:=hv i hi
 have q2:=hv j hj
 rw [ej] at hD q2
 exact Tf hD q1 q2 (hm _ (Fi hi)) (hm _ hj)
theorem PE {h k:List V2} (hh:AJ h=true) (r:Ring (λ v=>v ∈ h) k) (k3:3<=k.length) (x:V2):x ∈ k↔x ∈ h:=by
 constructor
 ·intro hx
  obtain ⟨i,hi,rfl⟩:=EA hx
  exact r.mem i hi
 ·intro hx
  apply Classical.byContradiction
  intro hn
  obtain ⟨⟨h3,-⟩,-,hs⟩:=BT.1 hh
  obtain ⟨i,hi,rfl⟩:=EA hx
  obtain ⟨j,hj,ej,n1,n2⟩:=QG hi h3
  -- a linear function that is least at this corner alone
  obtain ⟨a,ea⟩:∃ a,h.getD j (0,0)=a:=⟨_,rfl⟩
  obtain ⟨b,eb⟩:∃ b,h.getD i (0,0)=b:=⟨_,rfl⟩
  obtain ⟨c,ec⟩:∃ c,h.getD ((i+1)%h.length) (0,0)=c:=⟨_,rfl⟩
  obtain ⟨m,hm,hle⟩:=Tg k3 (λ i j h1 h2 h3' h4=>r.strict k3 h1 h2 h3' h4) (v:=b) (λ t ht=>r.side t ht b (by rw [← eb];exact CB hi)) (-(b.2-a.2)-(c.2-b.2)) ((b.1-a.1)+(c.1-b.1))
  have hmem:=r.mem m hm
  obtain ⟨t,ht,et⟩:=EA hmem
  rw [← et] at hle
  have hti:t≠i:=λ e=>by
   subst e
   rw [et] at hn
   exact hn (CB hm)
  have s1:=LM hh hj ht
  have s2:=LM hh hi ht
  rw [ej,ea,eb] at s1
  rw [eb,ec] at s2
  by_cases c1:t=j
  ·have s2':=hs i t hi ht hti (by rw [c1];exact λ e=>n1 e.symm)
   rw [eb,ec] at s2'
   unfold AC at s1 s2'
   grind
  ·have s1':=hs j t hj ht c1 (by rw [ej];exact hti)
   rw [ej,ea,eb] at s1'
   unfold AC at s1' s2
   grind
end Go.Proofs.Ytndnhlhnjiopfaa
