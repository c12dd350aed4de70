import Derived.Test.YtkffpiaagjcmpaaGreatFmNum2
import Derived.Test.YtkffpiaagjcmpaaGreatFmExD
namespace Go.Proofs.YtkffpiaagjcmpaaGreat
set_option linter.unusedVariables false
set_option linter.unusedSimpArgs false
def zOf (neg:Bool) (m:Nat):Int:=if neg=true then -(m:Int) else (m:Int)
theorem C5 (n:Bool) (m:Nat):(zOf n m).natAbs=m:=by unfold zOf;cases n <;> simp
theorem Y2 (n:Bool) (m:Nat):decide (zOf n m<0)=(n && decide ((L m).length>0)):=by
 rw [AV]
 have h:nl m>0↔m≠0:=⟨λ h e=>by rw [Cq.2 e] at h;omega,Hu⟩
 unfold zOf
 cases n
 ·simp
 ·simp only [if_true,Bool.true_and]
  congr 1
  apply propext
  rw [h];omega
theorem FI (z:Int):zOf (decide (z<0)) z.natAbs=z:=by
 unfold zOf
 by_cases h:z<0
 ·simp only [h,decide_true,if_true];omega
 ·simp only [h,decide_false];simp;omega
theorem Vc (z:Int):zOf (!decide (z<0)) z.natAbs=-z:=by
 unfold zOf
 by_cases h:z<0
 ·simp only [h,decide_true];simp;omega
 ·simp only [h,decide_false];simp;omega
theorem Nb {x y:Int} (h:decide (x<0)=decide (y<0)):zOf (decide (x<0)) (x.natAbs+y.natAbs)=x+y:=by
 unfold zOf
 by_cases hx:x<0
 ·have hy:y<0:=by rw [decide_eq_true hx] at h;exact of_decide_eq_true h.symm
  simp only [hx,decide_true,if_true];omega
 ·have hy:¬ y<0:=by rw [decide_eq_false hx] at h;exact of_decide_eq_false h.symm
  simp only [hx,decide_false];simp;omega
theorem Js {x y:Int} (h:decide (x<0)≠decide (y<0)) (hle:y.natAbs<=x.natAbs):zOf (decide (x<0)) (x.natAbs-y.natAbs)=x+y:=by
 unfold zOf
 by_cases hx:x<0
 ·have hy:¬ y<0:=λ hy=>h (by rw [decide_eq_true hx,decide_eq_true hy])
  simp only [hx,decide_true,if_true];omega
 ·have hy:y<0:=by
   apply Classical.byContradiction;intro hy
   exact h (by rw [decide_eq_false hx,decide_eq_false hy])
  simp only [hx,decide_false];simp;omega
theorem Nc {x y:Int} (h:decide (x<0)≠decide (y<0)) (hle:x.natAbs<=y.natAbs):zOf (decide (y<0)) (y.natAbs-x.natAbs)=x+y:=by
 rw [Int.add_comm];exact Js (λ e=>h e.symm) hle
theorem QT (x y:Int):zOf (decide (x<0) != decide (y<0)) (x.natAbs*y.natAbs)=x*y:=by
 unfold zOf
 rw [Int.natCast_mul]
 by_cases hx:x<0 <;> by_cases hy:y<0
 ·have e1:(x.natAbs:Int)=-x:=by omega
  have e2:(y.natAbs:Int)=-y:=by omega
  simp only [hx,hy,decide_true,e1,e2];simp [Int.neg_mul_neg]
 ·have e1:(x.natAbs:Int)=-x:=by omega
  have e2:(y.natAbs:Int)=y:=by omega
  simp only [hx,hy,decide_true,decide_false,e1,e2];simp [Int.neg_mul]
 ·have e1:(x.natAbs:Int)=x:=by omega
  have e2:(y.natAbs:Int)=-y:=by omega
  simp only [hx,hy,decide_true,decide_false,e1,e2];simp [Int.mul_neg]
 ·have e1:(x.natAbs:Int)=x:=by omega
  have e2:(y.natAbs:Int)=y:=by omega
  simp only [hx,hy,decide_false,e1,e2];simp
theorem Y3 {a b:Nat} : Ch a b=DE a b:=by
 unfold Ch DE
 simp only [Int.ofNat_lt,Int.natCast_inj]
theorem AA5 {x y:Int} (hx:x<0) (hy:y<0):Ch y.natAbs x.natAbs=DE x y:=by
 rw [Y3];unfold DE
 by_cases h:x<y
 ·rw [if_pos h,if_pos (by omega)]
 ·rw [if_neg h,if_neg (by omega)]
  by_cases h2:x=y
  ·rw [if_pos h2,if_pos (by omega)]
  ·rw [if_neg h2,if_neg (by omega)]
theorem AA6 {x y:Int} (hx:¬ x<0) (hy:¬ y<0):Ch x.natAbs y.natAbs=DE x y:=by
 rw [Y3];unfold DE
 by_cases h:x<y
 ·rw [if_pos h,if_pos (by omega)]
 ·rw [if_neg h,if_neg (by omega)]
  by_cases h2:x=y
  ·rw [if_pos h2,if_pos (by omega)]
  ·rw [if_neg h2,if_neg (by omega)]
theorem AA7 {x y:Int} (hx:x<0) (hy:¬ y<0):(-1:Int)=DE x y:=by unfold DE;rw [if_pos (by omega)]
theorem AA8 {x y:Int} (hx:¬ x<0) (hy:y<0):(1:Int)=DE x y:=by unfold DE;rw [if_neg (by omega),if_neg (by omega)]
theorem JF (x y:Int):nl (x+y).natAbs<=max (nl x.natAbs) (nl y.natAbs)+1:=by
 have h1:(x+y).natAbs<=x.natAbs+y.natAbs:=Int.natAbs_add_le x y
 exact Nat.le_trans (C2 h1) (Kx _ _)
theorem DX (x y:Int):nl (x*y).natAbs<=nl x.natAbs+nl y.natAbs:=by rw [Int.natAbs_mul];exact Br _ _
theorem Gj (n:Nat):nl ((n:Int)).natAbs=nl n:=by rw [Int.natAbs_natCast]
theorem FJ {z:Int} {d:Nat} (hd:d≠0) (h:¬ (nl (z.natAbs/z.natAbs.gcd d)<=24/\nl (d/z.natAbs.gcd d)<=24)):Fr.mk' z d=Fr.none:=
 Ys λ hf=>h (by have:=Dq.1 hf;rw [Dr hd,(D7 hd).2] at this;exact this)
def Fr.z (r:Fr):Int:=match r.v with|.none=>0|some q=>q.num
def Fr.d (r:Fr):Nat:=match r.v with|.none=>0|some q=>q.den
theorem Fr.z_some {r:Fr} {q:Rat} (h:r.v=some q):r.z=q.num:=by unfold Fr.z;rw [h]
theorem Fr.d_some {r:Fr} {q:Rat} (h:r.v=some q):r.d=q.den:=by unfold Fr.d;rw [h]
theorem Fr.neg_z (r:Fr):r.neg=decide (r.z<0):=by
 rcases Fr.cases r with rfl|⟨q,hq,_⟩
 ·rfl
 ·rw [Fr.neg_some hq,Fr.z_some hq]
theorem Fr.num_z (r:Fr):r.num=L r.z.natAbs:=by
 rcases Fr.cases r with rfl|⟨q,hq,_⟩
 ·exact D5.symm
 ·rw [Fr.num_some hq,Fr.z_some hq]
theorem Fr.den_d (r:Fr):r.den=L r.d:=by
 rcases Fr.cases r with rfl|⟨q,hq,_⟩
 ·exact D5.symm
 ·rw [Fr.den_some hq,Fr.d_some hq]
theorem Fr.nlz (r:Fr):nl r.z.natAbs<=24:=by
 rcases Fr.cases r with rfl|⟨q,hq,h,_⟩
 ·show nl 0<=24;rw [Ca];omega
 ·rw [Fr.z_some hq];exact h
theorem Fr.nld (r:Fr):nl r.d<=24:=by
 rcases Fr.cases r with rfl|⟨q,hq,_,h⟩
 ·show nl 0<=24;rw [Ca];omega
 ·rw [Fr.d_some hq];exact h
theorem Fr.d_good {r:Fr} : r.good=true↔r.d≠0:=by
 rcases Fr.cases r with rfl|⟨q,hq,_⟩
 ·exact ⟨(λ h=>by cases h),(λ h=>absurd rfl h)⟩
 ·rw [Fr.good_some hq,Fr.d_some hq]
  simp [q.den_nz]
theorem Fr.d_good' {r:Fr} : decide ((L r.d).length>0)=r.good:=by
 have:=@Fr.d_good r
 rw [AV]
 cases h:r.good
 ·have:r.d=0:=by
   apply Classical.byContradiction;intro h2
   rw [this.2 h2] at h;cases h
  rw [this,Ca];rfl
 ·exact decide_eq_true (Hu (this.1 h))
theorem Fr.bad_z {r:Fr} (h:r.d=0):r=Fr.none:=by
 apply Fr.bad_inv
 cases hg:r.good
 ·rfl
 ·exact absurd h (Fr.d_good.1 hg)
theorem Fr.some_d {r:Fr} (h:r.d≠0):∃ q,r.v=some q/\r.z=q.num/\r.d=q.den:=by
 obtain ⟨q,hq,_⟩:=Fr.good_inv (Fr.d_good.2 h)
 exact ⟨q,hq,Fr.z_some hq,Fr.d_some hq⟩
theorem Fr.add_zd {r s:Fr} (hr:r.d≠0) (hs:s.d≠0):Fr.add r s=Fr.mk' (r.z*s.d+s.z*r.d) (r.d*s.d):=by
 obtain ⟨a,ha,e1,e2⟩:=Fr.some_d hr
 obtain ⟨b,hb,e3,e4⟩:=Fr.some_d hs
 rw [e1,e2,e3,e4];exact Fr.add_mk ha hb
theorem Fr.mul_zd {r s:Fr} (hr:r.d≠0) (hs:s.d≠0):Fr.mul r s=Fr.mk' (r.z*s.z) (r.d*s.d):=by
 obtain ⟨a,ha,e1,e2⟩:=Fr.some_d hr
 obtain ⟨b,hb,e3,e4⟩:=Fr.some_d hs
 rw [e1,e2,e3,e4];exact Fr.mul_mk ha hb
theorem Fr.bin_bad (f:Rat->Rat->Fr) {r s:Fr} (h:r.d=0∨s.d=0):Fr.bin f r s=Fr.none:=by
 rcases h with h|h
 ·rw [Fr.bad_z h];rfl
 ·rw [Fr.bad_z h];exact Fr.bin_none2 _ _
theorem Fr.cmp_zd {r s:Fr} (hr:r.d≠0) (hs:s.d≠0):Fr.cmp r s=DE (r.z*s.d) (s.z*r.d):=by
 obtain ⟨a,ha,e1,e2⟩:=Fr.some_d hr
 obtain ⟨b,hb,e3,e4⟩:=Fr.some_d hs
 rw [e1,e2,e3,e4];exact Fr.cmp_mk ha hb
theorem Fr.cmp_bad {r s:Fr} (h:r.d=0∨s.d=0):Fr.cmp r s=0:=by
 rcases h with h|h
 ·rw [Fr.bad_z h];rfl
 ·rw [Fr.bad_z h];exact Fr.cmp_none2 _
theorem Fr.sgn_z (r:Fr):r.sgn=DE r.z 0:=by
 rcases Fr.cases r with rfl|⟨q,hq,_⟩
 ·rfl
 ·rw [Fr.z_some hq];unfold Fr.sgn;rw [hq];exact Wm q
theorem Fr.opp_z (r:Fr):r.opp.z=-r.z:=by
 rcases Fr.cases r with rfl|⟨q,hq,_⟩
 ·rfl
 ·rw [Fr.z_some hq,Fr.z_some (Fr.opp_v hq),Rat.neg_num]
theorem Fr.opp_d (r:Fr):r.opp.d=r.d:=by
 rcases Fr.cases r with rfl|⟨q,hq,_⟩
 ·rfl
 ·rw [Fr.d_some hq,Fr.d_some (Fr.opp_v hq),Rat.neg_den]
theorem Fr.cop (r:Fr) (h:r.d≠0):r.z.natAbs.gcd r.d=1:=by
 obtain ⟨a,ha,e1,e2⟩:=Fr.some_d h
 rw [e1,e2];exact a.reduced
theorem Fr.min_pick (r s:Fr):Fr.min r s=if r.d=0∨s.d=0 then Fr.none else if Fr.cmp r s<=0 then r else s:=by
 split
 ·rename_i h;exact Fr.bin_bad _ h
 ·rename_i h
  obtain ⟨a,ha,e1,e2⟩:=Fr.some_d (λ e=>h (.inl e))
  obtain ⟨b,hb,e3,e4⟩:=Fr.some_d (λ e=>h (.inr e))
  unfold Fr.min Fr.bin Fr.cmp EY
  rw [ha,hb]
  simp only
  by_cases h1:a<b
  ·have h3:a<=b:=by grind
   simp [h1,h3]
  ·by_cases h2:a=b
   ·subst h2;simp
   ·have h3:¬ a<=b:=by grind
    simp [h1,h2,h3]
theorem Fr.max_pick (r s:Fr):Fr.max r s=if r.d=0∨s.d=0 then Fr.none else if 0<=Fr.cmp r s then r else s:=by
 split
 ·rename_i h;exact Fr.bin_bad _ h
 ·rename_i h
  obtain ⟨a,ha,e1,e2⟩:=Fr.some_d (λ e=>h (.inl e))
  obtain ⟨b,hb,e3,e4⟩:=Fr.some_d (λ e=>h (.inr e))
  unfold Fr.max Fr.bin Fr.cmp EY
  rw [ha,hb]
  simp only
  by_cases h1:a<b
  ·have h3:¬ b<=a:=by grind
   simp [h1,h3]
  ·by_cases h2:a=b
   ·subst h2;simp
   ·have h3:b<=a:=by grind
    simp [h1,h2,h3]
def MA (l:List (List Dat)):Nat:=Ac (l.map λ r=>(rn r).toNat)
theorem DF (n:Nat):MA (L n)=n:=by
 unfold MA L AE
 rw [List.map_map]
 have:(λ r=>(rn r).toNat)∘(λ (d:Nat)=>[Dat.int (d:Int)])=id:=by funext d;simp [UB]
 rw [this,List.map_id];exact GB n
def BX (neg:Bool) (m:List (List Dat)):Bool:=BA m && !(neg && decide (m.length=0))
def Bh (neg:Bool) (m d:List (List Dat)):Bool:=BX neg m && (BA d && (!decide (d.length=0) && (decide (m.length<=24) && (decide (d.length<=24) && decide ((MA m).gcd (MA d)=1)))))
theorem SB (z:Int):BX (decide (z<0)) (L z.natAbs)=decide (nl z.natAbs<=60):=by
 unfold BX
 rw [NW,AV]
 have:(!(decide (z<0) && decide (nl z.natAbs=0)))=true:=by
  by_cases h:z<0
  ·have:nl z.natAbs≠0:=λ e=>by have:=Cq.1 e;omega
   simp [this]
  ·simp [h]
 rw [this,Bool.and_true]
theorem Ws (r:Fr):Bh r.neg r.num r.den=r.good:=by
 rw [Fr.neg_z,Fr.num_z,Fr.den_d]
 unfold Bh
 rw [SB,NW,AV,AV,DF,DF]
 have h1:=Fr.nlz r
 have h2:=Fr.nld r
 rw [decide_eq_true (show nl r.z.natAbs<=60 by omega),decide_eq_true (show nl r.d<=60 by omega),decide_eq_true h1,decide_eq_true h2]
 simp only [Bool.true_and]
 cases hg:r.good
 ·have:r.d=0:=by
   apply Classical.byContradiction;intro h
   rw [Fr.d_good.2 h] at hg;cases hg
  simp [this,Ca]
 ·have:=Fr.d_good.1 hg
  have h0:nl r.d≠0:=λ e=>this (Cq.1 e)
  simp [h0,Fr.cop r this]
theorem UH {e1 e2:Nat} {neg:Bool} {m d:List (List Dat)} (hm:Dat.has (.sl e1 [.int]) (.sl m)) (hd:Dat.has (.sl e2 [.int]) (.sl d)) (h:Bh neg m d=true) :
  ∃ r:Fr,r.d≠0/\neg=r.neg/\m=r.num/\d=r.den:=by
 simp only [Bh,BX,Bool.and_eq_true,decide_eq_true_eq] at h
 obtain ⟨⟨h1,h2⟩,h3,h4,h5,h6,h7⟩:=h
 obtain ⟨a,rfl,ha⟩:=D6 hm h1
 obtain ⟨b,rfl,hb⟩:=D6 hd h3
 rw [DF,DF] at h7
 rw [AV] at *
 have hb0:b≠0:=by rintro rfl;rw [Ca] at h4;simp at h4
 have hz:decide (zOf neg a<0)=neg:=by
  rw [Y2,AV]
  cases neg
  ·rfl
  ·have:nl a≠0:=λ e=>by rw [e] at h2;simp at h2
   simp;omega
 have hred:(zOf neg a).natAbs.Coprime b:=by rw [C5];exact h7
 have hf:OS ⟨zOf neg a,b,hb0,hred⟩=true:=Dq.2 ⟨by show nl (zOf neg a).natAbs<=24;rw [C5];exact h5,h6⟩
 refine ⟨clamp ⟨zOf neg a,b,hb0,hred⟩,?_,?_,?_,?_⟩
 ·rw [Fr.d_some (Cj hf)];exact hb0
 ·rw [Fr.neg_some (Cj hf)];exact hz.symm
 ·rw [Fr.num_some (Cj hf)];show L a=L (zOf neg a).natAbs;rw [C5]
 ·rw [Fr.den_some (Cj hf)]
abbrev dB (z:Int):DA:=.agg [cB (decide (z<0)),cS (L z.natAbs)]
abbrev dF (r:Fr):DA:=.agg [cB (decide (r.z<0)),cS (L r.z.natAbs),cS (L r.d)]
abbrev dP (p:Pq):DA:=.agg [cB (decide (p.x.z<0)),cS (L p.x.z.natAbs),cS (L p.x.d),cB (decide (p.y.z<0)),cS (L p.y.z.natAbs),cS (L p.y.d)]
def eqC (r s:Fr):Prop:=(Value.bool (decide (r.z<0))=Value.bool (decide (s.z<0)))/\(L r.z.natAbs=L s.z.natAbs)/\(L r.d=L s.d)
def eqN (r:Fr):Prop:=(Value.bool false=Value.bool (decide (r.z<0)))/\(([]:List (List Dat))=L r.z.natAbs)/\(([]:List (List Dat))=L r.d)
def eqD (r s:Fr) (q:Prop):Prop:=(Value.bool (decide (r.z<0))=Value.bool (decide (s.z<0)))/\(L r.z.natAbs=L s.z.natAbs)/\(L r.d=L s.d)/\q
def eqM (r:Fr) (q:Prop):Prop:=(Value.bool false=Value.bool (decide (r.z<0)))/\(([]:List (List Dat))=L r.z.natAbs)/\(([]:List (List Dat))=L r.d)/\q
theorem Gk {r s:Fr} {q:Prop} (h:r=s) (hq:q):eqD r s q:=by subst h;exact ⟨rfl,rfl,rfl,hq⟩
theorem ACe {r:Fr} {q:Prop} (h:r=Fr.none) (hq:q):eqM r q:=by subst h;exact ⟨rfl,D5.symm,D5.symm,hq⟩
theorem CG {r s:Fr} (h:r=s):eqC r s:=by subst h;exact ⟨rfl,rfl,rfl⟩
theorem Bd {r:Fr} (h:r=Fr.none):eqN r:=by subst h;exact ⟨rfl,D5.symm,D5.symm⟩
end Go.Proofs.YtkffpiaagjcmpaaGreat
