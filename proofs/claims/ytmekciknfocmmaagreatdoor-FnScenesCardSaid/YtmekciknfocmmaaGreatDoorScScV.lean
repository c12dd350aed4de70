import Derived.Test.YtmekciknfocmmaaGreatDoorScRkD2
import Derived.Test.YtmekciknfocmmaaGreatDoorScHulP
namespace Go.Proofs.YtmekciknfocmmaaGreatDoor
set_option linter.unusedVariables false
set_option linter.unusedSimpArgs false
theorem N2 {l:List V2} (h:AX l=true):l.Nodup:=by
 obtain ⟨⟨h3,-⟩,-,hs⟩:=FV.1 h
 rw [List.nodup_iff_pairwise_ne,List.pairwise_iff_getElem]
 intro i j hi hj hij e
 have e:l.getD i (0,0)=l.getD j (0,0):=by simp [List.getD,hi,hj,e]
 by_cases hj1:j=i+1
 ·subst hj1
  have hm:(i+1)%l.length=i+1:=Nat.mod_eq_of_lt hj
  have hk:(i+2)%l.length<l.length:=Nat.mod_lt _ (by omega)
  have n1:(i+2)%l.length≠i:=by
   by_cases hc:i+2<l.length
   ·rw [Nat.mod_eq_of_lt hc];omega
   ·rw [show i+2=l.length by omega,Nat.mod_self];omega
  have n2:(i+2)%l.length≠i+1:=by
   by_cases hc:i+2<l.length
   ·rw [Nat.mod_eq_of_lt hc];omega
   ·rw [show i+2=l.length by omega,Nat.mod_self];omega
  have:=hs i _ hi hk n1 (by rw [hm];exact n2)
  rw [hm,← e] at this
  unfold Al at this
  grind
 ·have hm:(i+1)%l.length=i+1:=Nat.mod_eq_of_lt (by omega)
  have:=hs i j hi hj (by omega) (by rw [hm];omega)
  rw [hm,← e] at this
  unfold Al at this
  grind
theorem JJ {b:List UInt8} {z:Int} : ∀ k c,(drF b z k c).1.length<=5
 | 0,c=>by simp [drF]
 | k+1,c=>by
  unfold drF
  split
  ·rename_i h
   have h1:=List.Nodup.length_le_of_subset (N2 h) (λ x hx=>KG hx)
   have h2:(att b z c).1.length=D8 b c:=DO _ _ _ _
   have h3:=Me b c
   simp only;omega
  ·exact JJ k _
theorem Mn {m:Int} {l:List V2} (h:AX l=true) (h5:l.length<=5) (hm:∀ x ∈ l,(-m<=x.1/\x.1<=m)/\-m<=x.2/\x.2<=m):shape m l=true:=by
 simp only [shape,Bool.and_eq_true,decide_eq_true_eq,List.all_eq_true]
 refine ⟨⟨h,h5⟩,λ x hx=>?_⟩
 have:=hm x hx
 simp only [CH,Bool.and_eq_true,BM]
 omega
theorem KU {b:List UInt8} {z m:Int} (hz:1<=z) (hm:z<=m) (c:Cur):shape m (drP b z c).1=true:=by
 obtain ⟨h1,-,h3⟩:=N1 (b:=b) hz c
 exact Mn h1 (JJ 8 c) λ x hx=>by have:=h3 x hx;omega
theorem Pr (a b c:V2) (x y:Int):Al (a.1+x,a.2+y) (b.1+x,b.2+y) (c.1+x,c.2+y)=Al a b c:=by
 unfold Al;grind
theorem Rf {l:List V2} {dx dy:Int} (hm:∀ x ∈ l,(-100<=x.1/\x.1<=100)/\-100<=x.2/\x.2<=100) (hx:-100<=dx/\dx<=100) (hy:-100<=dy/\dy<=100):B0 l dx dy=l.map λ p=>(p.1+dx,p.2+dy):=by
 have e:Cx l dx dy=l.map λ p=>(p.1+dx,p.2+dy):=by
  unfold Cx
  refine List.map_congr_left λ p hp=>?_
  have:=hm p hp
  unfold PU
  rw [AE (by omega) (by omega),AE (by omega) (by omega)]
 refine (Du ?_ ?_).trans e
 ·simp only [AH,CH,Bool.and_eq_true,BM];omega
 ·rw [e,List.all_eq_true]
  intro p hp
  obtain ⟨q,hq,rfl⟩:=List.mem_map.1 hp
  have:=hm q hq
  simp only [AH,CH,Bool.and_eq_true,BM];omega
theorem Ps {l:List V2} (h:AX l=true) {dx dy:Int} (hm:∀ x ∈ l,(-100<=x.1/\x.1<=100)/\-100<=x.2/\x.2<=100) (hx:-100<=dx/\dx<=100) (hy:-100<=dy/\dy<=100):AX (l.map λ p=>(p.1+dx,p.2+dy))=true:=by
 obtain ⟨h1,h2,h3⟩:=FV.1 h
 refine FV.2 ⟨by simpa using h1,?_,λ i j hi hj n1 n2=>?_⟩
 ·rw [List.all_eq_true]
  intro p hp
  obtain ⟨q,hq,rfl⟩:=List.mem_map.1 hp
  have:=hm q hq
  simp only [AH,CH,Bool.and_eq_true,BM];omega
 ·simp only [List.length_map] at hi hj n2 ⊢
  have hn:(i+1)%l.length<l.length:=Nat.mod_lt _ (by omega)
  have at_:∀ k,k<l.length->(l.map λ p=>(p.1+dx,p.2+dy)).getD k (0,0)=((l.getD k (0,0)).1+dx,(l.getD k (0,0)).2+dy):=λ k hk=>by simp [List.getD,hk]
  rw [at_ _ hi,at_ _ hj,at_ _ hn,Pr]
  exact h3 i j hi hj n1 n2
theorem N3 {b:List UInt8} {c:Cur} {dx dy:Int} (hx:0<=dx/\dx<=100) (hy:0<=dy/\dy<=100):shape 200 (B0 (drP b 4 c).1 dx dy)=true:=by
 obtain ⟨h1,-,h3⟩:=N1 (b:=b) (z:=4) (by omega) c
 have hm:∀ x ∈ (drP b 4 c).1,(-100<=x.1/\x.1<=100)/\-100<=x.2/\x.2<=100:=λ x hx=>by have:=h3 x hx;omega
 rw [Rf hm (by omega) (by omega)]
 refine Mn (Ps h1 hm (by omega) (by omega)) (by rw [List.length_map];exact JJ 8 c) λ p hp=>?_
 obtain ⟨q,hq,rfl⟩:=List.mem_map.1 hp
 have:=h3 q hq
 simp only;omega
theorem Pt {x:Int} (h:6<=x/\x<=13):shape 200 (SI x)=true:=by
 have:x=6∨x=7∨x=8∨x=9∨x=10∨x=11∨x=12∨x=13:=by omega
 rcases this with rfl|rfl|rfl|rfl|rfl|rfl|rfl|rfl <;> decide
theorem Gp {b:List UInt8} {c:Cur} : ∀ k,∀ l ∈ (obN b c k).1,shape 200 l=true
 | 0,l,hl=>by simp [obN] at hl
 | k+1,l,hl=>by
  rw [Mm] at hl
  rcases List.mem_append.1 hl with hl|hl
  ·exact Gp k l hl
  ·rw [List.mem_singleton.1 hl]
   have q1:=Ak b (drP b 4 (obN b c k).2).2 (n:=16) (by omega)
   have q2:=Ak b (blC b (drP b 4 (obN b c k).2).2 16) (n:=12) (by omega)
   exact N3 (by omega) (by omega)
theorem N4 {b:List UInt8} {c:Cur} : (∀ l ∈ (Ad b c).1,shape 200 l=true)/\(Ad b c).1.length<=3:=by
 have hl:(D9 b c).1.length=EW b c:=Ev _ _ _
 have hn:=Hx b c
 by_cases h:blV b (D9 b c).2 6=0
 ·rw [Ml h]
  refine ⟨λ l hl=>?_,by simp only [List.length_append,List.length_cons,List.length_nil];omega⟩
  rcases List.mem_append.1 hl with hl|hl
  ·exact Gp _ l hl
  ·rw [List.mem_singleton.1 hl]
   have q1:=Ak b (blC b (D9 b c).2 6) (n:=8) (by omega)
   exact Pt (by omega)
 ·rw [Og h]
  exact ⟨λ l hl=>Gp _ l hl,by simp only;omega⟩
theorem Rg {b:List UInt8} {c:Cur} : ∀ k,∀ v ∈ (tbN b c k).1,(0<=v.1/\v.1<=30)/\0<=v.2/\v.2<=30
 | 0,l,hl=>by simp [tbN] at hl
 | k+1,v,hl=>by
  rw [JI] at hl
  rcases List.mem_append.1 hl with hl|hl
  ·exact Rg k v hl
  ·rw [List.mem_singleton.1 hl]
   have q1:=Ak b (tbN b c k).2 (n:=18) (by omega)
   have q2:=Ak b (blC b (tbN b c k).2 18) (n:=14) (by omega)
   simp only;omega
theorem JK (b:List UInt8) (c:Cur):AG (Ay b c)=true/\(Ay b c).obst.length<=3:=by
 obtain ⟨w1,w2⟩:=N4 (b:=b) (c:=c)
 refine ⟨?_,w2⟩
 have q1:=Ak b c (n:=12) (by omega)
 have q2:=Ak b (blC b c 12) (n:=10) (by omega)
 have ht:(Mk b c).1.length=CW b c:=Ew _ _ _
 have hn:=D1 b c
 simp only [AG,Bool.and_eq_true,decide_eq_true_eq,List.all_eq_true]
 refine ⟨⟨⟨⟨λ x hx=>?_,?_⟩,?_⟩,?_⟩,⟨⟨w1,?_⟩,?_⟩,λ v hv=>?_⟩
 ·simp only [List.mem_cons,List.not_mem_nil,or_false] at hx
  simp only [CH,Bool.and_eq_true,BM]
  rcases hx with rfl|rfl
  ·simp only [Ay];omega
  ·simp only [Ay];omega
 ·show (0:Int)<14+blV b c 12
  omega
 ·show (0:Int)<12+blV b (blC b c 12) 10
  omega
 ·exact KU (by omega) (by omega) _
 ·show (Ad b c).1.length<=4
  omega
 ·show (Mk b c).1.length<=3
  omega
 ·have:=Rg _ v hv
  simp only [CH,Bool.and_eq_true,BM]
  omega
theorem Pu {s:Scn} (h:AG s=true) (h3:s.obst.length<=3) {l:List V2} (hl:shape 200 l=true):AG (AQ s (s.obst++[l]))=true:=by
 simp only [AG,Bool.and_eq_true,AQ] at h ⊢
 refine ⟨h.1,⟨⟨?_,?_⟩,h.2.1.2⟩,h.2.2⟩
 ·rw [List.all_eq_true] at *
  have:=h.2.1.1.1
  intro x hx
  rcases List.mem_append.1 hx with hx|hx
  ·exact List.all_eq_true.1 this x hx
  ·rw [List.mem_singleton.1 hx];exact hl
 ·simp only [List.length_append,List.length_cons,List.length_nil,decide_eq_true_eq];omega
theorem Mo {s:Scn} (h:AG s=true):Cw s/\s.obst.length<=4:=by
 simp only [AG,Bool.and_eq_true,shape,decide_eq_true_eq,List.all_eq_true] at h
 refine ⟨⟨by omega,by omega,λ x hx=>?_,by omega⟩,by omega⟩
 have:=h.2.1.1.1 x hx
 omega
end Go.Proofs.YtmekciknfocmmaaGreatDoor
