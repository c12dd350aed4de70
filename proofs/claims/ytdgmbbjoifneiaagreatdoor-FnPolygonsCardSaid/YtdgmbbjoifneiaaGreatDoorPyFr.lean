import Derived.Test.YtdgmbbjoifneiaaGreatDoorPyNum
namespace Go.Proofs.YtdgmbbjoifneiaaGreatDoor
set_option linter.unusedVariables false
set_option linter.unusedSimpArgs false
def MD (q:Rat):Bool:=decide (nl q.num.natAbs<=24) && decide (nl q.den<=24)
structure Fr where
 v:Option Rat
 ok:∀ q,v=some q->MD q=true
theorem Fr.ext {r s:Fr} (h:r.v=s.v):r=s:=by cases r;cases s;simp only at h;subst h;rfl
def Fr.neg (r:Fr):Bool:=match r.v with|none=>false|some q=>decide (q.num<0)
def Fr.num (r:Fr):List (List Dat):=match r.v with|none=>[]|some q=>L q.num.natAbs
def Fr.den (r:Fr):List (List Dat):=match r.v with|none=>[]|some q=>L q.den
def Fr.good (r:Fr):Bool:=r.v.isSome
def Fr.none:Fr:=⟨.none,by simp⟩
def clamp (q:Rat):Fr:=if h:MD q=true then ⟨some q,λ _ e=>by rw [← Option.some.inj e];exact h⟩ else Fr.none
def Fr.bin (f:Rat->Rat->Fr) (r s:Fr):Fr:=match r.v,s.v with|some a,some b=>f a b|_,_=>Fr.none
def Fr.add (r s:Fr):Fr:=Fr.bin (λ a b=>clamp (a+b)) r s
def Fr.sub (r s:Fr):Fr:=Fr.bin (λ a b=>clamp (a-b)) r s
def Fr.mul (r s:Fr):Fr:=Fr.bin (λ a b=>clamp (a*b)) r s
def Fr.div (r s:Fr):Fr:=Fr.bin (λ a b=>if b=0 then Fr.none else clamp (a/b)) r s
def Fr.opp (r:Fr):Fr:=match r.v with|some a=>clamp (-a)|_=>Fr.none
def PM (a b:Rat):Int:=if a<b then -1 else if a=b then 0 else 1
def Fr.sgn (r:Fr):Int:=match r.v with|some a=>PM a 0|_=>0
def Fr.min (r s:Fr):Fr:=Fr.bin (λ a b=>if a<=b then r else s) r s
def Fr.max (r s:Fr):Fr:=Fr.bin (λ a b=>if b<=a then r else s) r s
def Fr.ofInt (n:Int):Fr:=clamp (n:Rat)
theorem Cq {q:Rat} : MD q=true↔nl q.num.natAbs<=24/\nl q.den<=24:=by simp [MD]
theorem VP (q:Rat):(clamp q).v=if MD q=true then some q else .none:=by unfold clamp;split <;> rfl
theorem Bi {q:Rat} (h:MD q=true):(clamp q).v=some q:=by rw [VP,if_pos h]
theorem Te {q:Rat} (h:¬ MD q=true):clamp q=Fr.none:=by unfold clamp;rw [dif_neg h]
theorem Fr.none_v:Fr.none.v=.none:=rfl
theorem Fr.of_none {r:Fr} (h:r.v=.none):r=Fr.none:=Fr.ext h
theorem Fr.of_some {r:Fr} {q:Rat} (h:r.v=some q):r=clamp q:=Fr.ext (by rw [Bi (r.ok q h),h])
theorem Fr.num_some {r:Fr} {q:Rat} (h:r.v=some q):r.num=L q.num.natAbs:=by unfold Fr.num;rw [h]
theorem Fr.den_some {r:Fr} {q:Rat} (h:r.v=some q):r.den=L q.den:=by unfold Fr.den;rw [h]
theorem Fr.neg_some {r:Fr} {q:Rat} (h:r.v=some q):r.neg=decide (q.num<0):=by unfold Fr.neg;rw [h]
theorem Fr.good_some {r:Fr} {q:Rat} (h:r.v=some q):r.good=true:=by unfold Fr.good;rw [h];rfl
theorem Fr.good_inv {r:Fr} (h:r.good=true):∃ q,r.v=some q/\nl q.num.natAbs<=24/\nl q.den<=24:=by
 unfold Fr.good at h
 obtain ⟨q,hq⟩:=Option.isSome_iff_exists.1 h
 exact ⟨q,hq,Cq.1 (r.ok q hq)⟩
theorem Fr.bad_inv {r:Fr} (h:r.good=false):r=Fr.none:=by
 apply Fr.of_none
 unfold Fr.good at h
 cases hv:r.v with
 | none=>rfl
 | some q=>rw [hv] at h;cases h
theorem Fr.cases (r:Fr):r=Fr.none∨∃ q,r.v=some q/\nl q.num.natAbs<=24/\nl q.den<=24:=by
 cases h:r.good with
 | false=>exact .inl (Fr.bad_inv h)
 | true=>exact .inr (Fr.good_inv h)
def Fr.mk' (z:Int) (d:Nat):Fr:=clamp (mkRat z d)
theorem DH {z:Int} {d:Nat} (hd:d≠0):(mkRat z d).num=z/((z.natAbs.gcd d:Nat):Int)/\(mkRat z d).den=d/z.natAbs.gcd d:=by
 have e:mkRat z d=Rat.normalize z d hd:=by unfold mkRat;simp [hd]
 rw [e,Rat.normalize_eq hd]
 exact ⟨rfl,rfl⟩
theorem C5 {z:Int} {d:Nat} (hd:d≠0):(mkRat z d).num.natAbs=z.natAbs/z.natAbs.gcd d:=by
 rw [(DH hd).1]
 have hg:((z.natAbs.gcd d:Nat):Int) ∣ z:=by
  exact Int.ofNat_dvd_left.2 (Nat.gcd_dvd_left _ _)
 obtain ⟨c,hc⟩:=hg
 have hg0:z.natAbs.gcd d≠0:=λ e=>hd (Nat.eq_zero_of_gcd_eq_zero_right e)
 generalize z.natAbs.gcd d=g at *
 subst hc
 rw [Int.mul_ediv_cancel_left _ (by omega),Int.natAbs_mul,Int.natAbs_natCast,Nat.mul_div_cancel_left _ (by omega)]
theorem Rf {z:Int} {d:Nat} (hd:d≠0):decide ((mkRat z d).num<0)=decide (z<0):=by
 rw [(DH hd).1]
 have hg:((z.natAbs.gcd d:Nat):Int) ∣ z:=by
  exact Int.ofNat_dvd_left.2 (Nat.gcd_dvd_left _ _)
 obtain ⟨c,hc⟩:=hg
 have hg0:z.natAbs.gcd d≠0:=λ e=>hd (Nat.eq_zero_of_gcd_eq_zero_right e)
 generalize z.natAbs.gcd d=g at *
 subst hc
 rw [Int.mul_ediv_cancel_left _ (by omega)]
 have hgp:(0:Int)<(g:Int):=by omega
 congr 1
 apply propext
 constructor
 ·intro h;exact Int.mul_neg_of_pos_of_neg hgp h
 ·intro h
  apply Int.lt_of_not_ge
  intro h2
  have:=Int.mul_nonneg (Int.le_of_lt hgp) h2
  omega
theorem Tf (a b:Rat):PM a b=FU (a.num*b.den) (b.num*a.den):=by
 unfold PM FU
 simp only [Rat.lt_iff]
 have:a=b↔a.num*b.den=b.num*a.den:=by
  constructor
  ·intro h;subst h;rfl
  ·intro h
   have h1:¬ a<b:=by rw [Rat.lt_iff];omega
   have h2:¬ b<a:=by rw [Rat.lt_iff];omega
   grind
 simp only [this]
theorem Rg (a:Rat):PM a 0=FU a.num 0:=by rw [Tf];simp
theorem WZ {b:Rat} (hb:b≠0):b⁻¹=mkRat (if b.num<0 then -(b.den:Int) else b.den) b.num.natAbs:=by
 rw [Rat.inv_def]
 have h0:b.num≠0:=λ h=>hb (Rat.num_eq_zero.1 h)
 generalize b.num=n at *
 generalize b.den=d
 cases n with
 | ofNat k=>
  rw [if_neg (by simp)]
  exact Rat.divInt_ofNat _ _
 | negSucc k=>
  rw [if_pos (Int.negSucc_lt_zero k)]
  show Rat.normalize (-(d:Int)) (k+1) (Nat.succ_ne_zero k)=_
  rw [Rat.normalize_eq_mkRat]
  rfl
theorem div_mk {a b:Rat} (hb:b≠0):a/b=mkRat (if b.num<0 then -(a.num*b.den) else a.num*b.den) (a.den*b.num.natAbs):=by
 rw [Rat.div_def,WZ hb]
 conv=>lhs;rw [← Rat.mkRat_self a]
 rw [Rat.mkRat_mul_mkRat]
 congr 1
 by_cases h:b.num<0
 ·rw [if_pos h,if_pos h,Int.mul_neg]
 ·rw [if_neg h,if_neg h]
theorem Fr.add_mk {r s:Fr} {a b:Rat} (hr:r.v=some a) (hs:s.v=some b):Fr.add r s=Fr.mk' (a.num*b.den+b.num*a.den) (a.den*b.den):=by
 unfold Fr.add Fr.bin Fr.mk';rw [hr,hs];simp only;rw [Rat.add_def']
theorem Fr.mul_mk {r s:Fr} {a b:Rat} (hr:r.v=some a) (hs:s.v=some b):Fr.mul r s=Fr.mk' (a.num*b.num) (a.den*b.den):=by
 unfold Fr.mul Fr.bin Fr.mk';rw [hr,hs];simp only;rw [Rat.mul_def']
theorem Fr.div_mk {r s:Fr} {a b:Rat} (hr:r.v=some a) (hs:s.v=some b) (hb:b≠0):Fr.div r s=Fr.mk' (if b.num<0 then -(a.num*b.den) else a.num*b.den) (a.den*b.num.natAbs):=by
 unfold Fr.div Fr.bin Fr.mk';rw [hr,hs];simp only;rw [if_neg hb,_root_.Go.Proofs.YtdgmbbjoifneiaaGreatDoor.div_mk hb]
theorem Fr.bin_none2 (f:Rat->Rat->Fr) (r:Fr):Fr.bin f r Fr.none=Fr.none:=by
 unfold Fr.bin;rw [Fr.none_v];cases r.v <;> rfl
theorem Fr.opp_v {r:Fr} {a:Rat} (hr:r.v=some a):r.opp.v=some (-a):=by
 unfold Fr.opp;rw [hr]
 refine Bi ?_
 have:=Cq.1 (r.ok a hr)
 refine Cq.2 ?_
 rw [Rat.neg_num,Rat.neg_den,Int.natAbs_neg];exact this
theorem Fr.sub_opp (r s:Fr):Fr.add r s.opp=Fr.sub r s:=by
 rcases Fr.cases s with rfl|⟨b,hb,_⟩
 ·have:Fr.none.opp=Fr.none:=rfl
  rw [this];unfold Fr.add Fr.sub;rw [Fr.bin_none2,Fr.bin_none2]
 ·rcases Fr.cases r with rfl|⟨a,ha,_⟩
  ·rfl
  ·unfold Fr.add Fr.sub Fr.bin
   rw [ha,hb,Fr.opp_v hb]
   simp only
   congr 1
   grind
structure Pq where
 x:Fr
 y:Fr
def Pq.good (p:Pq):Bool:=p.x.good && p.y.good
def Pq.none:Pq:=⟨Fr.none,Fr.none⟩
theorem QT {n:Int} (h:nl n.natAbs<=24):(Fr.ofInt n).v=some (n:Rat):=by
 unfold Fr.ofInt
 refine Bi (Cq.2 ⟨by rw [Rat.num_intCast];exact h,?_⟩)
 rw [Rat.den_intCast,Tb (by decide) (by decide)];decide
end Go.Proofs.YtdgmbbjoifneiaaGreatDoor
