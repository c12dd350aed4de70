import Derived.Test.YtdgmbbjoifneiaaGreatDoorPyRkP2
import Derived.Test.YtdgmbbjoifneiaaGreatDoorPyPpo
import Derived.Test.YtdgmbbjoifneiaaGreatDoorPyDrp
namespace Go.Proofs.YtdgmbbjoifneiaaGreatDoor
set_option linter.unusedVariables false
set_option linter.unusedSimpArgs false
theorem W2 {l:List V2} {p:Pq} (hl:AI l=true) (h:p.good=true):cpZ l (ptQ p)=Kc l p:=by
 rw [Qg hl (by rw [Wp];exact h)]
 have hg:p.x.good=true/\p.y.good=true:=by unfold Pq.good at h;rwa [Bool.and_eq_true] at h
 have e:pqR (ptQ p)=p:=by
  show (⟨Fr.mk' (zOf (decide (p.x.z<0)) (Io (L p.x.z.natAbs))) (Io (L p.x.d)),Fr.mk' (zOf (decide (p.y.z<0)) (Io (L p.y.z.natAbs))) (Io (L p.y.d))⟩:Pq)=p
  rw [CN,CN,CN,CN,J8,J8,MK (Fr.d_good.1 hg.1),MK (Fr.d_good.1 hg.2)]
 rw [e]
theorem SC {a b:V2} (ha:AE a=true) (hb:AE b=true):EW (ptV a) (ptV b) (ptV a)=0:=by
 obtain ⟨a1,a2⟩:=IG ha
 obtain ⟨b1,b2⟩:=IG hb
 have h:=((b1.sub a1 (by omega)).mul (a2.sub a2 (by omega)) (by omega)).sub ((b2.sub a2 (by omega)).mul (a1.sub a1 (by omega)) (by omega)) (by omega)
 unfold EW
 rw [h.sgn,show ((b.1:Rat)-(a.1:Rat))*((a.2:Rat)-(a.2:Rat))-((b.2:Rat)-(a.2:Rat))*((a.1:Rat)-(a.1:Rat))=0 by grind]
 decide +kernel
theorem Qt {l:List V2} {p:Pq} {i:Nat} : ∀ k,i<k->HL l p k<=EW (Ey l i) (Ey l ((i+1)%l.length)) p
 | 0,h=>by omega
 | k+1,h=>by
  unfold HL
  by_cases e:i=k
  ·subst e;omega
  ·have:=Qt (l:=l) (p:=p) (i:=i) k (by omega)
   omega
theorem Pm {l:List V2} (hl:AI l=true):cpZ l (ptQ (ptV (l.getD 0 (0,0))))=0:=by
 obtain ⟨h3,-,hv⟩:=Cu hl
 have h0:=AW hv (show 0<l.length by omega)
 have hg:(ptV (l.getD 0 (0,0))).good=true:=by
  obtain ⟨a1,a2⟩:=IG h0
  unfold Pq.good;rw [a1.good,a2.good];rfl
 rw [W2 hl hg]
 have k1:0<=Kc l (ptV (l.getD 0 (0,0))):=(Vo hv h0).2 λ i hi=>R7 hl hi (by omega)
 have k2:Kc l (ptV (l.getD 0 (0,0)))<=0:=by
  have:=Qt (l:=l) (p:=ptV (l.getD 0 (0,0))) (i:=0) l.length (by omega)
  rw [show EW (Ey l 0) (Ey l ((0+1)%l.length)) (ptV (l.getD 0 (0,0)))=0 from SC h0 (AW hv (Nat.mod_lt _ (by omega)))] at this
  exact this
 omega
theorem KO {l:List V2} {dx dy:Int} (h:∀ x ∈ l,(-1000000<=x.1+dx/\x.1+dx<=1000000)/\-1000000<=x.2+dy/\x.2+dy<=1000000):Al l dx dy=l.map (A9 (dx,dy)):=by
 unfold Al
 refine List.map_congr_left λ x hx=>?_
 have:=h x hx
 unfold VE A9
 rw [AF (by omega) (by omega),AF (by omega) (by omega),Int.add_comm x.1,Int.add_comm x.2]
theorem Um {a:List V2} {v:V2} (ha:AI a=true) (h:∀ x ∈ a,AE (A9 v x)=true):AI (a.map (A9 v))=true:=by
 have at_:∀ {i},i<a.length->(a.map (A9 v)).getD i (0,0)=A9 v (a.getD i (0,0)):=λ {i} h=>by simp [List.getD,h]
 obtain ⟨h1,h2,h3⟩:=E9.1 ha
 refine E9.2 ⟨by rw [List.length_map];exact h1,?_,λ i j hi hj n1 n2=>?_⟩
 ·rw [List.all_eq_true]
  intro x hx
  obtain ⟨y,hy,rfl⟩:=List.mem_map.1 hx
  exact h y hy
 ·rw [List.length_map] at hi hj n2 ⊢
  rw [at_ hi,at_ hj,at_ (Nat.mod_lt _ (by omega)),GE]
  exact h3 i j hi hj n1 n2
theorem Un {l:List V2} {v:V2} (h:1<=l.length):Pj (l.map (A9 v))=Pj l:=by
 have at_:∀ {i},i<l.length->(l.map (A9 v)).getD i (0,0)=A9 v (l.getD i (0,0)):=λ {i} h=>by simp [List.getD,h]
 rw [← KN (l:=l.map (A9 v)) (by rw [List.length_map];exact h),← KN h,List.length_map]
 unfold Dl
 congr 1
 refine List.map_congr_left λ i hi=>?_
 have:=List.mem_range.1 hi
 rw [at_ (by omega),at_ (by omega),at_ (by omega),GE]
theorem WF {l:List V2} {i:Nat} : ∀ k,i<k->(loV l k).1<=(l.getD i (0,0)).1/\(loV l k).2<=(l.getD i (0,0)).2
 | 0,h=>by omega
 | k+1,h=>by
  by_cases e:i=k
  ·subst e;exact ⟨Int.min_le_right _ _,Int.min_le_right _ _⟩
  ·have:=WF (l:=l) (i:=i) k (by omega)
   exact ⟨Int.le_trans (Int.min_le_left _ _) this.1,Int.le_trans (Int.min_le_left _ _) this.2⟩
theorem WG {l:List V2} {i:Nat} : ∀ k,i<k->(l.getD i (0,0)).1<=(hiV l k).1/\(l.getD i (0,0)).2<=(hiV l k).2
 | 0,h=>by omega
 | k+1,h=>by
  by_cases e:i=k
  ·subst e;exact ⟨Int.le_max_right _ _,Int.le_max_right _ _⟩
  ·have:=WG (l:=l) (i:=i) k (by omega)
   exact ⟨Int.le_trans this.1 (Int.le_max_left _ _),Int.le_trans this.2 (Int.le_max_left _ _)⟩
theorem WH {l:List V2} {z:Int} (h:∀ x ∈ l,(-z<=x.1/\x.1<=z)/\-z<=x.2/\x.2<=z) (h0:0<l.length):∀ k,k<=l.length->(-z<=(loV l k).1/\(loV l k).1<=z)/\-z<=(loV l k).2/\(loV l k).2<=z
 | 0,_=>h _ (Fd h0)
 | k+1,hk=>by
  have h1:=WH h h0 k (by omega)
  have h2:=h _ (Fd (show k<l.length by omega))
  unfold loV
  simp only
  omega
theorem Uo {x y w:V2} (h1:x.1=y.1) (h2:w.1=y.1):AM x y w=0:=by
 unfold AM;rw [h1,h2];grind
theorem Up {x y w:V2} (h1:x.2=y.2) (h2:w.2=y.2):AM x y w=0:=by
 unfold AM;rw [h1,h2];grind
structure PlyLaw (l:List V2) (v:V2):Prop where
 vec:l.all AE=true
 len:0<l.length/\l.length<=16
 ok:Bj (A8 l)=true
 res:Cy (A8 l)=l
 same:A1 l l=true
 area:DD (CQ l v.1 v.2)=DD l
 neg:Bk (Bk l)=l
 negl:(Bk l).length<=16
 con:cpZ l (ptQ (ptV (l.getD 0 (0,0))))=0
 wx:(loV l l.length).1<(hiV l l.length).1
 wy:(loV l l.length).2<(hiV l l.length).2
 orgv:(B9 l).all AE=true/\(B9 l).length<=16
 org:CQ (B9 l) (loV l l.length).1 (loV l l.length).2=l
theorem Vs {l:List V2} {v:V2} (hl:AI l=true) (h:∀ x ∈ l,(-8<=x.1/\x.1<=8)/\-8<=x.2/\x.2<=8) (hv:(-10<=v.1/\v.1<=10)/\-10<=v.2/\v.2<=10):PlyLaw l v:=by
 obtain ⟨h3,h16,hall⟩:=Cu hl
 have hp:=Uj hl
 have iv:∀ {x:V2},(-100<=x.1/\x.1<=100)/\-100<=x.2/\x.2<=100->AE x=true:=λ {x} h=>Ul (z:=100) (by omega) h
 have em:CQ l v.1 v.2=l.map (A9 v):=by
  have e:Al l v.1 v.2=l.map (A9 v):=KO λ x hx=>by have:=h x hx;omega
  rw [Fa (iv (by omega)) (by rw [e,List.all_eq_true];intro x hx;obtain ⟨y,hy,rfl⟩:=List.mem_map.1 hx;have:=h y hy;exact iv (by simp only [A9];omega)),e]
 have hm:AI (l.map (A9 v))=true:=Um hl λ x hx=>by have:=h x hx;exact iv (by simp only [A9];omega)
 have hneg:Bk l=C0 l:=MR hall
 have hnall:(C0 l).all AE=true:=by
  rw [List.all_eq_true]
  intro x hx
  obtain ⟨y,hy,rfl⟩:=List.mem_map.1 hx
  have:=h y hy
  exact iv (by simp only;omega)
 have lo:=WH h (by omega) l.length (Nat.le_refl _)
 obtain ⟨x,y,w,hx,hy,hw,ht⟩:=Uk hl
 have cmpX:∀ u ∈ l,((loV l l.length).1<=u.1/\(loV l l.length).2<=u.2)/\u.1<=(hiV l l.length).1/\u.2<=(hiV l l.length).2:=λ u hu=>by
  obtain ⟨i,hi,rfl⟩:=UZ hu
  exact ⟨WF _ hi,WG _ hi⟩
 have kx:=cmpX x hx
 have ky:=cmpX y hy
 have kw:=cmpX w hw
 have eo:Al l (-(loV l l.length).1) (-(loV l l.length).2)=l.map (A9 (-(loV l l.length).1,-(loV l l.length).2)):=KO λ x hx=>by have:=h x hx;omega
 have oall:(l.map (A9 (-(loV l l.length).1,-(loV l l.length).2))).all AE=true:=by
  rw [List.all_eq_true];intro x hx;obtain ⟨y,hy,rfl⟩:=List.mem_map.1 hx;have:=h y hy;exact iv (by simp only [A9];omega)
 have eg:B9 l=l.map (A9 (-(loV l l.length).1,-(loV l l.length).2)):=by
  unfold B9
  rw [eo,if_pos ⟨hl,oall⟩]
 refine ⟨hall,⟨by omega,h16⟩,?_,?_,OP rfl (show 0<l.length by omega) (by simp),?_,?_,?_,Pm hl,?_,?_,⟨by rw [eg];exact oall,by rw [eg,List.length_map];exact h16⟩,?_⟩
 ·rw [De hl];exact hp.1
 ·rw [De hl];exact hp.2
 ·rw [em];unfold DD;rw [if_pos hm,if_pos hl,Un (by omega)]
 ·rw [hneg,MR hnall]
  unfold C0
  rw [List.map_map]
  conv=>rhs;rw [← List.map_id l]
  exact List.map_congr_left λ x _=>by simp
 ·rw [hneg,Di];exact h16
 ·apply Classical.byContradiction
  intro hn
  have e1:x.1=y.1:=by omega
  have e2:w.1=y.1:=by omega
  have:=Uo e1 e2
  omega
 ·apply Classical.byContradiction
  intro hn
  have e1:x.2=y.2:=by omega
  have e2:w.2=y.2:=by omega
  have:=Up e1 e2
  omega
 ·have e:Al (B9 l) (loV l l.length).1 (loV l l.length).2=l:=by
   rw [eg,KO λ x hx=>by obtain ⟨y,hy,rfl⟩:=List.mem_map.1 hx;have:=h y hy;simp only [A9];omega,List.map_map]
   conv=>rhs;rw [← List.map_id l]
   exact List.map_congr_left λ x _=>by
    simp only [Function.comp,A9,id]
    ext <;> simp <;> omega
  rw [Fa (iv (by omega)) (by rw [e];exact hall),e]
end Go.Proofs.YtdgmbbjoifneiaaGreatDoor
