import Derived.Test.YtndnhlhnjiopfaaGreatDi2RkG
import Derived.Test.YtndnhlhnjiopfaaGreatDi2RkD3
namespace Go.Proofs.YtndnhlhnjiopfaaGreat
set_option maxRecDepth 100000
set_option linter.unusedVariables false
set_option linter.unusedSimpArgs false
open Go.RowKit
def orQ (p:Pq):Pq:=if p.good=true then p else ⟨Fr.none,Fr.none⟩
def Du:Con:={ ι:=Pq,pre:=λ i=>True,args:=λ i=>[.agg [.im (.bool (decide (i.x.z<0))),.sl 3 [.int] (L i.x.z.natAbs),.sl 3 [.int] (L i.x.d),.im (.bool (decide (i.y.z<0))),.sl 3 [.int] (L i.y.z.natAbs),.sl 3 [.int] (L i.y.d)]],mono:=true,res:=λ i=>⟨false,[none],[.im (Value.bool i.good)]⟩ }
theorem T7:Du.Ok Tryz.prog 115:=by
 refine fok (X:=⟨tt,[(47,AN)],[],11,[]⟩) AG AH (CTok.cons DL (CTok.nil _)) Tryz.func115 (λ _=>[]) ?_
 intro (p:Pq) hpre
 have hpre:True:=hpre
 refine AF (q:=∃ i1:Fr,[dF p.x]=AN.args i1/\AN.pre i1/\((i1.good=true->(∃ i2:Fr,[dF p.y]=AN.args i2/\AN.pre i2/\((Value.bool i2.good=Value.bool p.good))))/\(i1.good=false->((Value.bool false=Value.bool p.good))))) (by kernel_rfl) ?_
 -- w1: isGood [DA.agg [DC.im (Value.bool (decide (p.x.z < 0))), DC.sl 3 [.int] (L p.x.z.natAbs), DC.sl 3 [.int] (L p.x.d)]]
 refine ⟨p.x,by
  rfl,by
  first|trivial|(first|omega|assumption|exact hpre.1|exact hpre.2|(simp;done)),?_⟩
 refine And.symm ⟨λ c4=>?_,λ c4=>?_⟩
 ·-- c4f: p.x.good = false
  replace c4:p.x.good=false:=c4
  try simp only [nrm] at c4
  -- l9: Value.bool false = Value.bool p.good
  show Value.bool false=Value.bool p.good
  exact congrArg Value.bool (by unfold Pq.good;rw [c4];first|rfl|(rw [Bool.true_and]))
 -- c4t: p.x.good = true
 replace c4:p.x.good=true:=c4
 try simp only [nrm] at c4
 -- w5: isGood [DA.agg [DC.im (Value.bool (decide (p.y.z < 0))), DC.sl 3 [.int] (L p.y.z.natAbs), DC.sl 3 [.int] (L p.y.d)]]
 refine ⟨p.y,by
  rfl,by
  first|trivial|(first|omega|assumption|exact hpre.1|exact hpre.2|(simp;done)),?_⟩
 -- l8: Value.bool p.y.good = Value.bool p.good
 show Value.bool p.y.good=Value.bool p.good
 exact congrArg Value.bool (by unfold Pq.good;rw [c4];first|rfl|(rw [Bool.true_and]))
def Ap:Con:={ ι:=Pq,pre:=λ i=>True,args:=λ i=>[.agg [.im (.bool (decide (i.x.z<0))),.sl 3 [.int] (L i.x.z.natAbs),.sl 3 [.int] (L i.x.d),.im (.bool (decide (i.y.z<0))),.sl 3 [.int] (L i.y.z.natAbs),.sl 3 [.int] (L i.y.d)]],mu:=[1,2,4,5],gone:=[0,1,2,3],new:=λ i=>[],res:=λ i=>⟨false,[some 6],[.im (Value.bool (decide ((orQ i).x.z<0))),.own 3 [.int] (L (orQ i).x.z.natAbs),.own 3 [.int] (L (orQ i).x.d),.im (Value.bool (decide ((orQ i).y.z<0))),.own 3 [.int] (L (orQ i).y.z.natAbs),.own 3 [.int] (L (orQ i).y.d)]⟩ }
set_option maxHeartbeats 1000000 in
theorem T8 (b0 b3 : Bool) (a1 a2 a4 a5 : Option Addr) (n1 n2 n4 n5 c1 c2 c4 c5 : Nat) (g : Bool) (w : World)
    (hg : ∀ w1, Below w.heap.size w w1 → Calls Tryz.prog 115 #[.agg #[.bool b0, .slice a1 n1 c1, .slice a2 n2 c2, .bool b3, .slice a4 n4 c4, .slice a5 n5 c5]] w1 fun e w' => e = .returned (.bool g) ∧ Below w1.heap.size w1 w') :
    Calls Tryz.prog 75 #[.agg #[.bool b0, .slice a1 n1 c1, .slice a2 n2 c2, .bool b3, .slice a4 n4 c4, .slice a5 n5 c5]] w fun e w' =>
      e = .returned (if g = true then .agg #[.bool b0, .slice a1 n1 c1, .slice a2 n2 c2, .bool b3, .slice a4 n4 c4, .slice a5 n5 c5] else .agg #[.bool false, .slice none 0 0, .slice none 0 0, .bool false, .slice none 0 0, .slice none 0 0]) ∧ Below w.heap.size w w' := by
  have HG := Lib.hid hg
  clear hg
  go_enter Tryz.func75, Tryz.ntmps75
  go_wp2_with fail
  refine (HG.out _ (by (repeat (first | with_reducible exact Below.refl _ _ | with_reducible assumption | with_reducible refine Below.drew ?_ | with_reducible refine Below.setCell ?_ ?_ _ | with_reducible refine Below.alloc ?_ ?_ _)); all_goals first | (simp; done) | (simp; omega) | omega)).mono ?_
  rintro e w1 ⟨rfl, h1⟩
  have B1 : Below w.heap.size w w1 := Below.trans (by (repeat (first | with_reducible exact Below.refl _ _ | with_reducible assumption | with_reducible refine Below.drew ?_ | with_reducible refine Below.setCell ?_ ?_ _ | with_reducible refine Below.alloc ?_ ?_ _)); all_goals first | (simp; done) | (simp; omega) | omega) (h1.mono (by first | (simp; done) | (simp; omega) | omega))
  have S1 := h1.size
  have T1 := B1.size
  try simp at S1
  obtain ⟨k1, f1⟩ := MU h1
  try simp at k1
  try simp at f1
  have Hc1 := Lib.hid h1
  clear h1
  have u1_0 : w.heap.size < w1.heap.size := by omega
  have u1_1 : w.heap.size + 1 < w1.heap.size := by omega
  cases g
  · have qs : ∀ i, i < 6 → (w1.cell? ⟨w.heap.size + 1, 0 + i, none⟩).isSome = true := fun i hi => by
      have : i = 0 ∨ i = 1 ∨ i = 2 ∨ i = 3 ∨ i = 4 ∨ i = 5 := by omega
      rcases this with rfl | rfl | rfl | rfl | rfl | rfl <;> go_simp
    have q0 : ((((((w1.setCell ⟨w.heap.size + 1, 0, none⟩ (.bool false)).setCell ⟨w.heap.size + 1, 1, none⟩ (.slice none 0 0)).setCell ⟨w.heap.size + 1, 2, none⟩ (.slice none 0 0)).setCell ⟨w.heap.size + 1, 3, none⟩ (.bool false)).setCell ⟨w.heap.size + 1, 4, none⟩ (.slice none 0 0)).setCell ⟨w.heap.size + 1, 5, none⟩ (.slice none 0 0)).cell? ⟨w.heap.size + 1, 0, none⟩ = some (.bool false) := (by have q := CB (w.heap.size + 1) [.bool false, .slice none 0 0, .slice none 0 0, .bool false, .slice none 0 0, .slice none 0 0] w1 0 qs 0 (by simp); rw [Nat.zero_add] at q; exact q); have q1 : ((((((w1.setCell ⟨w.heap.size + 1, 0, none⟩ (.bool false)).setCell ⟨w.heap.size + 1, 1, none⟩ (.slice none 0 0)).setCell ⟨w.heap.size + 1, 2, none⟩ (.slice none 0 0)).setCell ⟨w.heap.size + 1, 3, none⟩ (.bool false)).setCell ⟨w.heap.size + 1, 4, none⟩ (.slice none 0 0)).setCell ⟨w.heap.size + 1, 5, none⟩ (.slice none 0 0)).cell? ⟨w.heap.size + 1, 1, none⟩ = some (.slice none 0 0) := (by have q := CB (w.heap.size + 1) [.bool false, .slice none 0 0, .slice none 0 0, .bool false, .slice none 0 0, .slice none 0 0] w1 0 qs 1 (by simp); rw [Nat.zero_add] at q; exact q); have q2 : ((((((w1.setCell ⟨w.heap.size + 1, 0, none⟩ (.bool false)).setCell ⟨w.heap.size + 1, 1, none⟩ (.slice none 0 0)).setCell ⟨w.heap.size + 1, 2, none⟩ (.slice none 0 0)).setCell ⟨w.heap.size + 1, 3, none⟩ (.bool false)).setCell ⟨w.heap.size + 1, 4, none⟩ (.slice none 0 0)).setCell ⟨w.heap.size + 1, 5, none⟩ (.slice none 0 0)).cell? ⟨w.heap.size + 1, 2, none⟩ = some (.slice none 0 0) := (by have q := CB (w.heap.size + 1) [.bool false, .slice none 0 0, .slice none 0 0, .bool false, .slice none 0 0, .slice none 0 0] w1 0 qs 2 (by simp); rw [Nat.zero_add] at q; exact q); have q3 : ((((((w1.setCell ⟨w.heap.size + 1, 0, none⟩ (.bool false)).setCell ⟨w.heap.size + 1, 1, none⟩ (.slice none 0 0)).setCell ⟨w.heap.size + 1, 2, none⟩ (.slice none 0 0)).setCell ⟨w.heap.size + 1, 3, none⟩ (.bool false)).setCell ⟨w.heap.size + 1, 4, none⟩ (.slice none 0 0)).setCell ⟨w.heap.size + 1, 5, none⟩ (.slice none 0 0)).cell? ⟨w.heap.size + 1, 3, none⟩ = some (.bool false) := (by have q := CB (w.heap.size + 1) [.bool false, .slice none 0 0, .slice none 0 0, .bool false, .slice none 0 0, .slice none 0 0] w1 0 qs 3 (by simp); rw [Nat.zero_add] at q; exact q); have q4 : ((((((w1.setCell ⟨w.heap.size + 1, 0, none⟩ (.bool false)).setCell ⟨w.heap.size + 1, 1, none⟩ (.slice none 0 0)).setCell ⟨w.heap.size + 1, 2, none⟩ (.slice none 0 0)).setCell ⟨w.heap.size + 1, 3, none⟩ (.bool false)).setCell ⟨w.heap.size + 1, 4, none⟩ (.slice none 0 0)).setCell ⟨w.heap.size + 1, 5, none⟩ (.slice none 0 0)).cell? ⟨w.heap.size + 1, 4, none⟩ = some (.slice none 0 0) := (by have q := CB (w.heap.size + 1) [.bool false, .slice none 0 0, .slice none 0 0, .bool false, .slice none 0 0, .slice none 0 0] w1 0 qs 4 (by simp); rw [Nat.zero_add] at q; exact q); have q5 : ((((((w1.setCell ⟨w.heap.size + 1, 0, none⟩ (.bool false)).setCell ⟨w.heap.size + 1, 1, none⟩ (.slice none 0 0)).setCell ⟨w.heap.size + 1, 2, none⟩ (.slice none 0 0)).setCell ⟨w.heap.size + 1, 3, none⟩ (.bool false)).setCell ⟨w.heap.size + 1, 4, none⟩ (.slice none 0 0)).setCell ⟨w.heap.size + 1, 5, none⟩ (.slice none 0 0)).cell? ⟨w.heap.size + 1, 5, none⟩ = some (.slice none 0 0) := (by have q := CB (w.heap.size + 1) [.bool false, .slice none 0 0, .slice none 0 0, .bool false, .slice none 0 0, .slice none 0 0] w1 0 qs 5 (by simp); rw [Nat.zero_add] at q; exact q)
    have HQ := Lib.hid (And.intro q0 (And.intro q1 (And.intro q2 (And.intro q3 (And.intro q4 q5)))))
    clear q0 q1 q2 q3 q4 q5 qs
    go_wp2
    obtain ⟨q0, q1, q2, q3, q4, q5⟩ := HQ.out
    exact bodyPost_ret (v := .agg #[.bool false, .slice none 0 0, .slice none 0 0, .bool false, .slice none 0 0, .slice none 0 0]) (by simp [results, Tryz.results75, go_sem, q0, q1, q2, q3, q4, q5]) rfl ⟨rfl, (by (repeat (first | with_reducible exact Below.refl _ _ | with_reducible assumption | with_reducible refine Below.drew ?_ | with_reducible refine Below.setCell ?_ ?_ _ | with_reducible refine Below.alloc ?_ ?_ _)); all_goals first | (simp; done) | (simp; omega) | omega)⟩
  · have qs : ∀ i, i < 6 → (w1.cell? ⟨w.heap.size + 1, 0 + i, none⟩).isSome = true := fun i hi => by
      have : i = 0 ∨ i = 1 ∨ i = 2 ∨ i = 3 ∨ i = 4 ∨ i = 5 := by omega
      rcases this with rfl | rfl | rfl | rfl | rfl | rfl <;> go_simp
    have q0 : ((((((w1.setCell ⟨w.heap.size + 1, 0, none⟩ (.bool b0)).setCell ⟨w.heap.size + 1, 1, none⟩ (.slice a1 n1 c1)).setCell ⟨w.heap.size + 1, 2, none⟩ (.slice a2 n2 c2)).setCell ⟨w.heap.size + 1, 3, none⟩ (.bool b3)).setCell ⟨w.heap.size + 1, 4, none⟩ (.slice a4 n4 c4)).setCell ⟨w.heap.size + 1, 5, none⟩ (.slice a5 n5 c5)).cell? ⟨w.heap.size + 1, 0, none⟩ = some (.bool b0) := (by have q := CB (w.heap.size + 1) [.bool b0, .slice a1 n1 c1, .slice a2 n2 c2, .bool b3, .slice a4 n4 c4, .slice a5 n5 c5] w1 0 qs 0 (by simp); rw [Nat.zero_add] at q; exact q); have q1 : ((((((w1.setCell ⟨w.heap.size + 1, 0, none⟩ (.bool b0)).setCell ⟨w.heap.size + 1, 1, none⟩ (.slice a1 n1 c1)).setCell ⟨w.heap.size + 1, 2, none⟩ (.slice a2 n2 c2)).setCell ⟨w.heap.size + 1, 3, none⟩ (.bool b3)).setCell ⟨w.heap.size + 1, 4, none⟩ (.slice a4 n4 c4)).setCell ⟨w.heap.size + 1, 5, none⟩ (.slice a5 n5 c5)).cell? ⟨w.heap.size + 1, 1, none⟩ = some (.slice a1 n1 c1) := (by have q := CB (w.heap.size + 1) [.bool b0, .slice a1 n1 c1, .slice a2 n2 c2, .bool b3, .slice a4 n4 c4, .slice a5 n5 c5] w1 0 qs 1 (by simp); rw [Nat.zero_add] at q; exact q); have q2 : ((((((w1.setCell ⟨w.heap.size + 1, 0, none⟩ (.bool b0)).setCell ⟨w.heap.size + 1, 1, none⟩ (.slice a1 n1 c1)).setCell ⟨w.heap.size + 1, 2, none⟩ (.slice a2 n2 c2)).setCell ⟨w.heap.size + 1, 3, none⟩ (.bool b3)).setCell ⟨w.heap.size + 1, 4, none⟩ (.slice a4 n4 c4)).setCell ⟨w.heap.size + 1, 5, none⟩ (.slice a5 n5 c5)).cell? ⟨w.heap.size + 1, 2, none⟩ = some (.slice a2 n2 c2) := (by have q := CB (w.heap.size + 1) [.bool b0, .slice a1 n1 c1, .slice a2 n2 c2, .bool b3, .slice a4 n4 c4, .slice a5 n5 c5] w1 0 qs 2 (by simp); rw [Nat.zero_add] at q; exact q); have q3 : ((((((w1.setCell ⟨w.heap.size + 1, 0, none⟩ (.bool b0)).setCell ⟨w.heap.size + 1, 1, none⟩ (.slice a1 n1 c1)).setCell ⟨w.heap.size + 1, 2, none⟩ (.slice a2 n2 c2)).setCell ⟨w.heap.size + 1, 3, none⟩ (.bool b3)).setCell ⟨w.heap.size + 1, 4, none⟩ (.slice a4 n4 c4)).setCell ⟨w.heap.size + 1, 5, none⟩ (.slice a5 n5 c5)).cell? ⟨w.heap.size + 1, 3, none⟩ = some (.bool b3) := (by have q := CB (w.heap.size + 1) [.bool b0, .slice a1 n1 c1, .slice a2 n2 c2, .bool b3, .slice a4 n4 c4, .slice a5 n5 c5] w1 0 qs 3 (by simp); rw [Nat.zero_add] at q; exact q); have q4 : ((((((w1.setCell ⟨w.heap.size + 1, 0, none⟩ (.bool b0)).setCell ⟨w.heap.size + 1, 1, none⟩ (.slice a1 n1 c1)).setCell ⟨w.heap.size + 1, 2, none⟩ (.slice a2 n2 c2)).setCell ⟨w.heap.size + 1, 3, none⟩ (.bool b3)).setCell ⟨w.heap.size + 1, 4, none⟩ (.slice a4 n4 c4)).setCell ⟨w.heap.size + 1, 5, none⟩ (.slice a5 n5 c5)).cell? ⟨w.heap.size + 1, 4, none⟩ = some (.slice a4 n4 c4) := (by have q := CB (w.heap.size + 1) [.bool b0, .slice a1 n1 c1, .slice a2 n2 c2, .bool b3, .slice a4 n4 c4, .slice a5 n5 c5] w1 0 qs 4 (by simp); rw [Nat.zero_add] at q; exact q); have q5 : ((((((w1.setCell ⟨w.heap.size + 1, 0, none⟩ (.bool b0)).setCell ⟨w.heap.size + 1, 1, none⟩ (.slice a1 n1 c1)).setCell ⟨w.heap.size + 1, 2, none⟩ (.slice a2 n2 c2)).setCell ⟨w.heap.size + 1, 3, none⟩ (.bool b3)).setCell ⟨w.heap.size + 1, 4, none⟩ (.slice a4 n4 c4)).setCell ⟨w.heap.size + 1, 5, none⟩ (.slice a5 n5 c5)).cell? ⟨w.heap.size + 1, 5, none⟩ = some (.slice a5 n5 c5) := (by have q := CB (w.heap.size + 1) [.bool b0, .slice a1 n1 c1, .slice a2 n2 c2, .bool b3, .slice a4 n4 c4, .slice a5 n5 c5] w1 0 qs 5 (by simp); rw [Nat.zero_add] at q; exact q)
    have HQ := Lib.hid (And.intro q0 (And.intro q1 (And.intro q2 (And.intro q3 (And.intro q4 q5)))))
    clear q0 q1 q2 q3 q4 q5 qs
    go_wp2
    obtain ⟨q0, q1, q2, q3, q4, q5⟩ := HQ.out
    exact bodyPost_ret (v := .agg #[.bool b0, .slice a1 n1 c1, .slice a2 n2 c2, .bool b3, .slice a4 n4 c4, .slice a5 n5 c5]) (by simp [results, Tryz.results75, go_sem, q0, q1, q2, q3, q4, q5]) rfl ⟨rfl, (by (repeat (first | with_reducible exact Below.refl _ _ | with_reducible assumption | with_reducible refine Below.drew ?_ | with_reducible refine Below.setCell ?_ ?_ _ | with_reducible refine Below.alloc ?_ ?_ _)); all_goals first | (simp; done) | (simp; omega) | omega)⟩
theorem ZS {us:List Value} (h:us.length=6):∃ u0 u1 u2 u3 u4 u5,us=[u0,u1,u2,u3,u4,u5]:=
 match us,h with
 | [_,_,_,_,_,_],_=>⟨_,_,_,_,_,_,rfl⟩
theorem QD (p : Pq) (us : List Value) (mb : Nat → List Nat) (F : Nat → Prop) (w : World) (h : ArgsAt F w Ap.mu mb ((Ap.args p).flatMap DA.cells) us) (w1 : World) (hb : Below w.heap.size w w1) :
    Calls Tryz.prog 115 #[.agg us.toArray] w1 fun e w' => e = .returned (.bool p.good) ∧ Below w1.heap.size w1 w' := by
  have hrow : ArgsAt (fun b => b < w.heap.size) w1 [] mb ((Du.args p).flatMap DA.cells) us := by
    refine ⟨h.len, fun b hb' => Nat.lt_of_lt_of_le hb' hb.size, fun q d u hd hu _ => ?_, fun j q hj => by simp at hj, fun i j b _ hi => by simp at hi, fun j b hj => by simp at hj, h.st.keep hb.size (fun b hm => hb.block b (h.st.1 b hm)), fun j b hj => by simp at hj⟩
    by_cases hq : q ∈ Ap.mu
    · obtain ⟨j, hj, hjq⟩ := List.getElem_of_mem hq
      obtain ⟨e, ts, rows, u', e1, e2, f1, _⟩ := h.own j q (by rw [← hjq]; exact List.getElem?_eq_getElem hj)
      have e1' : d = .sl e ts rows := Option.some.inj (hd.symm.trans e1)
      have e2' : u = u' := Option.some.inj (hu.symm.trans e2)
      subst e1' e2'
      exact (RdS.of_fp _ _ _ _ (f1.below hb)).mono (fun b hb' => Fp.lt _ _ _ _ f1 b hb')
    · have := h.rd q d u hd hu hq
      cases d with
      | im v => exact this
      | sl e ts rows =>
        have hc : q = 0 ∨ q = 3 := by
          have hlt := (List.getElem?_eq_some_iff.1 hd).1
          have h6 : ((Ap.args p).flatMap DA.cells).length = 6 := rfl
          have : ((Du.args p).flatMap DA.cells).length = 6 := rfl
          have hm : Ap.mu = [1, 2, 4, 5] := rfl
          rw [hm] at hq
          simp only [List.mem_cons, List.not_mem_nil, or_false, not_or] at hq
          omega
        rcases hc with rfl | rfl <;> cases hd
      | ro d => exact absurd hd (by
          have hlt := (List.getElem?_eq_some_iff.1 hd).1
          intro hd
          have : ((Du.args p).flatMap DA.cells).all (fun d => match d with | .ro _ => false | _ => true) = true := rfl
          have := List.all_eq_true.1 this _ (List.mem_of_getElem? hd)
          simp at this)
  have hv : BV (Du.args p) us = [.agg us.toArray] := Ig (cells := (Du.args p).flatMap DA.cells) h.len
  have := T7.calls p trivial _ w1 us mb hrow
  rw [hv] at this
  refine this.mono ?_
  rintro e w' ⟨rs, bs, rfl, hp⟩
  have hr := hp.res
  match rs, hr with
  | [u], hr =>
    obtain ⟨rfl, _⟩ := hr
    exact ⟨rfl, hp.os, hp.tape, hp.output, hp.size, fun k hk => hp.keep k hk fun j hj => absurd hj (Nat.not_lt_zero j)⟩
set_option maxHeartbeats 400000 in
theorem RX:Ap.Ok Tryz.prog 75 where
 enter:=⟨_,Tryz.func75,by decide,rfl⟩
 small:=λ _=>Nat.le_of_ble_eq_true rfl
 calls:=by
  intro p _ F w us mb h
  have hg:=QD p us mb F w h
  have hv:BV (Ap.args p) us=[.agg us.toArray]:=Ig (cells:=(Ap.args p).flatMap DA.cells) h.len
  rw [hv]
  obtain ⟨u0,u1,u2,u3,u4,u5,rfl⟩:∃ u0 u1 u2 u3 u4 u5,us=[u0,u1,u2,u3,u4,u5]:=ZS h.len
  have r0:u0=.bool (decide (p.x.z<0)):=h.rd 0 _ _ rfl rfl (by decide)
  have r3:u3=.bool (decide (p.y.z<0)):=h.rd 3 _ _ rfl rfl (by decide)
  obtain ⟨_,_,_,_,e1,e2,f1,m1⟩:=h.own 0 1 rfl
  cases e1;cases e2
  obtain ⟨_,_,_,_,e1,e2,f2,m2⟩:=h.own 1 2 rfl
  cases e1;cases e2
  obtain ⟨_,_,_,_,e1,e2,f4,m4⟩:=h.own 2 4 rfl
  cases e1;cases e2
  obtain ⟨_,_,_,_,e1,e2,f5,m5⟩:=h.own 3 5 rfl
  cases e1;cases e2
  have dis:=h.dis
  have hl:Ap.mu.length=4:=rfl
  obtain ⟨_,a1,c1,hd1,rfl,-⟩:=Rd.sl_inv (Fp.rd _ _ _ _ f1)
  cases hd1
  obtain ⟨_,a2,c2,hd2,rfl,-⟩:=Rd.sl_inv (Fp.rd _ _ _ _ f2)
  cases hd2
  obtain ⟨_,a4,c4,hd4,rfl,-⟩:=Rd.sl_inv (Fp.rd _ _ _ _ f4)
  cases hd4
  obtain ⟨_,a5,c5,hd5,rfl,-⟩:=Rd.sl_inv (Fp.rd _ _ _ _ f5)
  cases hd5
  subst r0 r3
  refine (T8 _ _ a1 a2 a4 a5 _ _ _ _ c1 c2 c4 c5 p.good w hg).mono ?_
  rintro e w' ⟨rfl,hb⟩
  cases hgd:p.good with
  | true=>
   have hE:orQ p=p:=by unfold orQ;rw [hgd];rfl
   refine ⟨[.bool (decide (p.x.z<0)),.slice a1 _ c1,.slice a2 _ c2,.bool (decide (p.y.z<0)),.slice a4 _ c4,.slice a5 _ c5],mb 0++(mb 1++(mb 2++(mb 3++[]))),rfl,⟨?_,?_,?_,?_,hb.os,hb.tape,hb.output,hb.size,λ b hb' _=>hb.block b hb'⟩⟩
   ·show BG F w w' _ (Ap.res p).cells _ _
    simp only [Ap,hE]
    exact ⟨rfl,_,_,rfl,f1.below hb,_,_,rfl,f2.below hb,rfl,_,_,rfl,f4.below hb,_,_,rfl,f5.below hb,rfl⟩
   ·rw [List.append_nil]
    rw [List.nodup_append,List.nodup_append,List.nodup_append]
    refine ⟨m1,⟨m2,⟨m4,m5,λ x hx y hy e=>?_⟩,λ x hx y hy e=>?_⟩,λ x hx y hy e=>?_⟩
    ·subst e;exact dis 2 3 x (by decide) (by decide) (by decide) hx hy
    ·subst e
     rw [List.mem_append] at hy
     rcases hy with hy|hy
     ·exact dis 1 2 x (by decide) (by decide) (by decide) hx hy
     ·exact dis 1 3 x (by decide) (by decide) (by decide) hx hy
    ·subst e
     rw [List.mem_append,List.mem_append] at hy
     rcases hy with hy|hy|hy
     ·exact dis 0 1 x (by decide) (by decide) (by decide) hx hy
     ·exact dis 0 2 x (by decide) (by decide) (by decide) hx hy
     ·exact dis 0 3 x (by decide) (by decide) (by decide) hx hy
   ·intro b hb'
    simp only [List.mem_append,List.not_mem_nil,or_false] at hb'
    rcases hb' with hb' | hb' | hb' | hb'
    ·exact .inr ⟨0,by decide,by decide,hb'⟩
    ·exact .inr ⟨1,by decide,by decide,hb'⟩
    ·exact .inr ⟨2,by decide,by decide,hb'⟩
    ·exact .inr ⟨3,by decide,by decide,hb'⟩
   ·intro j q e ts rows u hj hq
    exfalso
    have hlt:=(List.getElem?_eq_some_iff.1 hq).1
    rw [hl] at hlt
    have:j=0∨j=1∨j=2∨j=3:=by omega
    rcases this with rfl|rfl|rfl|rfl <;> exact hj (by decide)
  | false=>
   have hE:orQ p=⟨Fr.none,Fr.none⟩:=by unfold orQ;rw [hgd];rfl
   have hL:L (Fr.none).z.natAbs=[]:=Dj
   have hL2:L (Fr.none).d=[]:=Dj
   refine ⟨[.bool false,.slice none 0 0,.slice none 0 0,.bool false,.slice none 0 0,.slice none 0 0],[]++([]++([]++([]++[]))),rfl,⟨?_,by simp,by simp,?_,hb.os,hb.tape,hb.output,hb.size,λ b hb' _=>hb.block b hb'⟩⟩
   ·show BG F w w' _ (Ap.res p).cells _ _
    simp only [Ap,hE,hL,hL2]
    have hn:∀ e:Nat,Fp w' (.sl e [.int]) (.sl []) (.slice none 0 0) []:=λ e=>by
     simp only [Fp]
     exact ⟨[],[],World.ownsRow_nil _ _ _ _,rfl,rfl,by simp,by simp,by simp [Value.ownBlock]⟩
    exact ⟨rfl,_,_,rfl,hn _,_,_,rfl,hn _,rfl,_,_,rfl,hn _,_,_,rfl,hn _,rfl⟩
   ·intro j q e ts rows u hj hq
    exfalso
    have hlt:=(List.getElem?_eq_some_iff.1 hq).1
    rw [hl] at hlt
    have:j=0∨j=1∨j=2∨j=3:=by omega
    rcases this with rfl|rfl|rfl|rfl <;> exact hj (by decide)
def Gf:Con:={ ι:=Int×Int,pre:=λ i=>nl i.1.natAbs<=60/\nl i.2.natAbs<=60,args:=λ i=>[.agg [.im (.bool (decide (i.1<0))),.sl 3 [.int] (L i.1.natAbs)],.agg [.im (.bool (decide (i.2<0))),.sl 3 [.int] (L i.2.natAbs)]],mono:=true,res:=λ i=>⟨false,[none],[.im (Value.bool true)]⟩ }
theorem T9:Gf.Ok Tryz.prog 160:=by
 refine fok (X:=⟨tt,[(43,BX)],[],11,[]⟩) AG AH (CTok.cons KI (CTok.nil _)) Tryz.func160 (λ _=>[]) ?_
 rintro ⟨x,y⟩ hpre
 have hpre:nl x.natAbs<=60/\nl y.natAbs<=60:=hpre
 refine AF (q:=∃ i1:Bool×(List (List Dat)),[dB x]=BX.args i1/\BX.pre i1/\(((Ai i1.1 i1.2)=true->(∃ i2:Bool×(List (List Dat)),[dB y]=BX.args i2/\BX.pre i2/\((Value.bool (Ai i2.1 i2.2)=Value.bool true))))/\((Ai i1.1 i1.2)=false->((Value.bool false=Value.bool true))))) (by kernel_rfl) ?_
 have e1:=Ku (x:=x) hpre.1
 have e2:=Ku (x:=y) hpre.2
 -- w1: BigIntOk [DA.agg [DC.im (Value.bool (decide (x < 0))), DC.sl 3 [.int] (L x.natAbs)]]
 refine ⟨(decide (x<0),(L x.natAbs)),by
  rfl,by
  show (L x.natAbs).length<=9223372036854775807
  rw [AL];omega,?_⟩
 refine And.symm ⟨λ c4=>?_,λ c4=>?_⟩
 ·-- c4f: (Ai (decide (x < 0)) (L x.natAbs)) = false
  replace c4:(Ai (decide (x<0)) (L x.natAbs))=false:=c4
  try simp only [nrm] at c4
  -- l9: Value.bool false = Value.bool true
  show Value.bool false=Value.bool true
  first|rfl|(rw [e2];done)|(rw [e1] at c4;cases c4)
 -- c4t: (Ai (decide (x < 0)) (L x.natAbs)) = true
 replace c4:(Ai (decide (x<0)) (L x.natAbs))=true:=c4
 try simp only [nrm] at c4
 -- w5: BigIntOk [DA.agg [DC.im (Value.bool (decide (y < 0))), DC.sl 3 [.int] (L y.natAbs)]]
 refine ⟨(decide (y<0),(L y.natAbs)),by
  rfl,by
  show (L y.natAbs).length<=9223372036854775807
  rw [AL];omega,?_⟩
 -- l8: Value.bool (Ai (decide (y < 0)) (L y.natAbs)) = Value.bool true
 show Value.bool (Ai (decide (y<0)) (L y.natAbs))=Value.bool true
 first|rfl|(rw [e2];done)|(rw [e1] at c4;cases c4)
def EW:Con:={ ι:=Int×Int,pre:=λ i=>nl i.1.natAbs<=24/\nl i.2.natAbs<=24,args:=λ i=>[.agg [.im (.bool (decide (i.1<0))),.sl 3 [.int] (L i.1.natAbs)],.agg [.im (.bool (decide (i.2<0))),.sl 3 [.int] (L i.2.natAbs)]],mono:=true,res:=λ i=>⟨false,[some 3],[.im (Value.bool (decide ((rOf i.1 i.2).z<0))),.own 3 [.int] (L (rOf i.1 i.2).z.natAbs),.own 3 [.int] (L (rOf i.1 i.2).d)]⟩ }
theorem QE:EW.Ok Tryz.prog 145:=by
 refine fok (X:=⟨tt,[(160,Gf),(126,Ac),(118,BE)],[],27,[]⟩) AG AH (CTok.cons T9 (CTok.cons Er (CTok.cons GM (CTok.nil _)))) Tryz.func145 (λ _=>[]) ?_
 rintro ⟨x,y⟩ hpre
 have hpre:nl x.natAbs<=24/\nl y.natAbs<=24:=hpre
 refine AF (q:=∃ i1:Int×Int,[dB x,dB y]=Gf.args i1/\Gf.pre i1/\(((!(!true))=true->((((((L y.natAbs).length:Nat):Int) == (0:Int))=true->((eqN (rOf x y))))/\(((((L y.natAbs).length:Nat):Int) == (0:Int))=false->(∃ i2:Bool×Nat,[DA.one (cB ((decide (x<0)) != (decide (y<0)))),DA.one (cS (L x.natAbs))]=Ac.args i2/\Ac.pre i2/\(∃ i3:Int×Nat,[dB (zOf i2.1 i2.2),DA.one (cS (L y.natAbs))]=BE.args i3/\BE.pre i3/\((eqC (Fr.mk' i3.1 i3.2) (rOf x y))))))))/\((!(!true))=false->((eqN (rOf x y)))))) (by kernel_rfl) ?_
 have ly:=AL y.natAbs
 have lx:=AL x.natAbs
 -- w1: areBig [DA.agg [DC.im (Value.bool (decide (x < 0))), DC.sl 3 [.int] (L x.natAbs)], DA.agg [DC.im (Value.bool (decide (y < 0))), DC.sl 3 [.int] (L y.natAbs)]]
 refine ⟨(x,y),by
  rfl,by
  show nl x.natAbs<=60/\nl y.natAbs<=60
  first|trivial|exact ⟨by omega,by omega⟩|exact ⟨by omega,by rw [CZ];omega,by omega⟩,?_⟩
 refine And.symm ⟨λ c4=>?_,λ c4=>?_⟩
 ·-- c4f: (!(!true)) = false
  replace c4:(!(!true))=false:=c4
  try simp only [nrm] at c4
  refine Ar ?_
  -- l18: rOf x y = Fr.none
  show rOf x y=Fr.none
  first|contradiction|(rw [OM hy];done)|(rw [I1 hy];done)
 -- c4t: (!(!true)) = true
 replace c4:(!(!true))=true:=c4
 try simp only [nrm] at c4
 refine ⟨λ c5=>?_,λ c5=>?_⟩
 ·-- c5t: ((((L y.natAbs).length : Nat) : Int) == (0 : Int)) = true
  replace c5:((((L y.natAbs).length:Nat):Int) == (0:Int))=true:=c5
  try simp only [nrm] at c5
  have hy:y=0:=by have:=Cd.1 (show nl y.natAbs=0 by omega);omega
  refine Ar ?_
  -- l6: rOf x y = Fr.none
  show rOf x y=Fr.none
  first|contradiction|(rw [OM hy];done)|(rw [I1 hy];done)
 -- c5f: ((((L y.natAbs).length : Nat) : Int) == (0 : Int)) = false
 replace c5:((((L y.natAbs).length:Nat):Int) == (0:Int))=false:=c5
 try simp only [nrm] at c5
 have hy:y≠0:=by
  rintro rfl
  exact c5 (by rw [ly];simp [CN])
 -- w9: bigMake [DA.one (DC.im (Value.bool ((decide (x < 0)) != (decide (y < 0))))), DA.one (DC.sl 3 [.int] (L x.natAbs))]
 refine ⟨(((decide (x<0)) != (decide (y<0))),x.natAbs),by
  rfl,by
  first|trivial|exact ⟨by omega,by omega⟩|exact ⟨by omega,by rw [CZ];omega,by omega⟩,?_⟩
 -- w12: ratMake [DA.agg [DC.im (Value.bool (decide ((zOf ((decide (x < 0)) != (decide (y < 0))) x.natAbs) < 0))), DC.sl 3 [.int] (L (zOf ((decide (x < 0)) != (decide (y < 0))) x.natAbs).natAbs)], DA.one (DC.sl 3 [.int] (L y.natAbs))]
 refine ⟨((zOf ((decide (x<0)) != (decide (y<0))) x.natAbs),y.natAbs),by
  rfl,by
  show y.natAbs≠0/\nl (zOf ((decide (x<0)) != (decide (y<0))) x.natAbs).natAbs<=1000/\nl y.natAbs<=1000
  first|trivial|exact ⟨by omega,by omega⟩|exact ⟨by omega,by rw [CZ];omega,by omega⟩,?_⟩
 refine A6 ?_
 -- l15: Fr.mk' (zOf ((decide (x < 0)) != (decide (y < 0))) x.natAbs) y.natAbs = rOf x y
 show Fr.mk' (zOf ((decide (x<0)) != (decide (y<0))) x.natAbs) y.natAbs=rOf x y
 first|contradiction|(rw [OM hy];done)|(rw [I1 hy];done)
def Hv:Con:={ ι:=Int×Int,pre:=λ i=>(-9223372036854775808<=i.1/\i.1<=9223372036854775807)/\(-9223372036854775808<=i.2/\i.2<=9223372036854775807),args:=λ i=>[.one (.im (.int .i64 i.1)),.one (.im (.int .i64 i.2))],mono:=true,res:=λ i=>⟨false,[some 3],[.im (Value.bool (decide ((rOf i.1 i.2).z<0))),.own 3 [.int] (L (rOf i.1 i.2).z.natAbs),.own 3 [.int] (L (rOf i.1 i.2).d)]⟩ }
theorem V6:Hv.Ok Tryz.prog 116:=by
 refine fok (X:=⟨tt,[(91,Cn),(145,EW)],[],10,[]⟩) AG AH (CTok.cons PW (CTok.cons QE (CTok.nil _))) Tryz.func116 (λ _=>[]) ?_
 rintro ⟨n,d⟩ hpre
 have hpre:(-9223372036854775808<=n/\n<=9223372036854775807)/\(-9223372036854775808<=d/\d<=9223372036854775807):=hpre
 refine AF (q:=∃ i1:Int,[DA.one (cI n)]=Cn.args i1/\Cn.pre i1/\(∃ i2:Int,[DA.one (cI d)]=Cn.args i2/\Cn.pre i2/\(∃ i3:Int×Int,[dB i1,dB i2]=EW.args i3/\EW.pre i3/\((eqC (rOf i3.1 i3.2) (rOf n d)))))) (by kernel_rfl) ?_
 -- w1: bigOf [DA.one (DC.im (Value.int .i64 n))]
 refine ⟨n,by
  rfl,by
  show -9223372036854775808<=n/\n<=9223372036854775807
  first|exact hpre.1|exact hpre.2|exact ⟨Nat.le_trans (Bk hpre.1) (by decide),Nat.le_trans (Bk hpre.2) (by decide)⟩,?_⟩
 -- w4: bigOf [DA.one (DC.im (Value.int .i64 d))]
 refine ⟨d,by
  rfl,by
  show -9223372036854775808<=d/\d<=9223372036854775807
  first|exact hpre.1|exact hpre.2|exact ⟨Nat.le_trans (Bk hpre.1) (by decide),Nat.le_trans (Bk hpre.2) (by decide)⟩,?_⟩
 -- w7: ratMakeB [DA.agg [DC.im (Value.bool (decide (n < 0))), DC.sl 3 [.int] (L n.natAbs)], DA.agg [DC.im (Value.bool (decide (d < 0))), DC.sl 3 [.int] (L d.natAbs)]]
 refine ⟨(n,d),by
  rfl,by
  show nl n.natAbs<=24/\nl d.natAbs<=24
  first|exact hpre.1|exact hpre.2|exact ⟨Nat.le_trans (Bk hpre.1) (by decide),Nat.le_trans (Bk hpre.2) (by decide)⟩,?_⟩
 exact A6 rfl
theorem I2:∀ (l:List Pq),(∀ p ∈ l,p.good=true)->((l.map λ p=>ptD (ptQ p)).any λ r=>!(okP (BK r)))=false
 | [],_=>rfl
 | p::l,h=>by
  rw [List.map_cons,List.any_cons,I2 l λ q hq=>h q (List.mem_cons_of_mem _ hq),show okP (BK (ptD (ptQ p)))=p.good from ID p,h p (List.mem_cons_self ..)];rfl
theorem De (l:List Pq):∀ k,k<(l.map λ p=>ptD (ptQ p)).length->(BK ((l.map λ p=>ptD (ptQ p)).getD k [])).has:=λ k hk=>by
 rw [List.length_map] at hk
 have:(l.map λ p=>ptD (ptQ p)).getD k []=ptD (ptQ l[k]):=by simp [List.getD,hk]
 rw [this]
 exact FB _
def Aq (p q:Pq):Pq:=orQ ⟨Fr.mul (Fr.add p.x q.x) (rOf 1 2),Fr.mul (Fr.add p.y q.y) (rOf 1 2)⟩
def DO:Con:={ ι:=Fr,pre:=λ i=>True,args:=λ i=>[.agg [.im (.bool (decide (i.z<0))),.sl 3 [.int] (L i.z.natAbs),.sl 3 [.int] (L i.d)]],mono:=true,res:=λ i=>⟨false,[some 3],[.im (Value.bool (decide ((Fr.mul i (rOf 1 2)).z<0))),.own 3 [.int] (L (Fr.mul i (rOf 1 2)).z.natAbs),.own 3 [.int] (L (Fr.mul i (rOf 1 2)).d)]⟩ }
theorem RY:DO.Ok Tryz.prog 76:=by
 refine fok (X:=⟨tt,[(116,Hv),(95,AW)],[],6,[]⟩) AG AH (CTok.cons V6 (CTok.cons Fw (CTok.nil _))) Tryz.func76 (λ _=>[]) ?_
 intro (r:Fr) hpre
 have hpre:True:=hpre
 refine AF (q:=∃ i1:Int×Int,[DA.one (cI (1:Int)),DA.one (cI (2:Int))]=Hv.args i1/\Hv.pre i1/\(∃ i2:Fr×Fr,[dF r,dF (rOf i1.1 i1.2)]=AW.args i2/\AW.pre i2/\((eqC (Fr.mul i2.1 i2.2) (Fr.mul r (rOf 1 2)))))) (by kernel_rfl) ?_
 -- w1: ratOf [DA.one (DC.im (Value.int .i64 (1 : Int))), DA.one (DC.im (Value.int .i64 (2 : Int)))]
 refine ⟨((1:Int),(2:Int)),by
  rfl,by
  show (-9223372036854775808<=(1:Int)/\(1:Int)<=9223372036854775807)/\(-9223372036854775808<=(2:Int)/\(2:Int)<=9223372036854775807)
  first|trivial|omega|decide,?_⟩
 -- w4: ratMul [DA.agg [DC.im (Value.bool (decide (r.z < 0))), DC.sl 3 [.int] (L r.z.natAbs), DC.sl 3 [.int] (L r.d)], DA.agg [DC.im (Value.bool (decide ((rOf (1 : Int) (2 : Int)).z < 0))), DC.sl 3 [.int] (L (rOf (1 : Int) (2 : Int)).z.natAbs), DC.sl 3 [.int] (L (rOf (1 : Int) (2 : Int)).d)]]
 refine ⟨(r,(rOf (1:Int) (2:Int))),by
  rfl,by
  first|trivial|omega|decide,?_⟩
 refine A6 ?_
 -- l7: Fr.mul r (rOf (1 : Int) (2 : Int)) = Fr.mul r (rOf 1 2)
 show Fr.mul r (rOf (1:Int) (2:Int))=Fr.mul r (rOf 1 2)
 rfl
def I3:Con:={ ι:=Pq×Pq,pre:=λ i=>True,args:=λ i=>[.agg [.im (.bool (decide (i.1.x.z<0))),.sl 3 [.int] (L i.1.x.z.natAbs),.sl 3 [.int] (L i.1.x.d),.im (.bool (decide (i.1.y.z<0))),.sl 3 [.int] (L i.1.y.z.natAbs),.sl 3 [.int] (L i.1.y.d)],.agg [.im (.bool (decide (i.2.x.z<0))),.sl 3 [.int] (L i.2.x.z.natAbs),.sl 3 [.int] (L i.2.x.d),.im (.bool (decide (i.2.y.z<0))),.sl 3 [.int] (L i.2.y.z.natAbs),.sl 3 [.int] (L i.2.y.d)]],res:=λ i=>⟨false,[some 6],[.im (Value.bool (decide ((Aq i.1 i.2).x.z<0))),.own 3 [.int] (L (Aq i.1 i.2).x.z.natAbs),.own 3 [.int] (L (Aq i.1 i.2).x.d),.im (Value.bool (decide ((Aq i.1 i.2).y.z<0))),.own 3 [.int] (L (Aq i.1 i.2).y.z.natAbs),.own 3 [.int] (L (Aq i.1 i.2).y.d)]⟩ }
theorem XB:I3.Ok Tryz.prog 35:=by
 refine fok (X:=⟨tt,[(77,Ak),(76,DO),(75,Ap)],[],19,[]⟩) AG AH (CTok.cons Fu (CTok.cons RY (CTok.cons RX (CTok.nil _)))) Tryz.func35 (λ _=>[]) ?_
 rintro ⟨p,q⟩ hpre
 have hpre:True:=hpre
 refine AF (q:=∃ i1:Fr×Fr,[dF p.x,dF q.x]=Ak.args i1/\Ak.pre i1/\(∃ i2:Fr,[dF (Fr.add i1.1 i1.2)]=DO.args i2/\DO.pre i2/\(∃ i3:Fr×Fr,[dF p.y,dF q.y]=Ak.args i3/\Ak.pre i3/\(∃ i4:Fr,[dF (Fr.add i3.1 i3.2)]=DO.args i4/\DO.pre i4/\(∃ i5:Pq,[DA.agg [cB (decide ((Fr.mul i2 (rOf 1 2)).z<0)),cS (L (Fr.mul i2 (rOf 1 2)).z.natAbs),cS (L (Fr.mul i2 (rOf 1 2)).d),cB (decide ((Fr.mul i4 (rOf 1 2)).z<0)),cS (L (Fr.mul i4 (rOf 1 2)).z.natAbs),cS (L (Fr.mul i4 (rOf 1 2)).d)]]=Ap.args i5/\Ap.pre i5/\((eqD ((orQ i5).x) ((Aq p q).x) ((eqC ((orQ i5).y) ((Aq p q).y)))))))))) (by kernel_rfl) ?_
 -- w1: ratAdd [DA.agg [DC.im (Value.bool (decide (p.x.z < 0))), DC.sl 3 [.int] (L p.x.z.natAbs), DC.sl 3 [.int] (L p.x.d)], DA.agg [DC.im (Value.bool (decide (q.x.z < 0))), DC.sl 3 [.int] (L q.x.z.natAbs), DC.sl 3 [.int] (L q.x.d)]]
 refine ⟨(p.x,q.x),by
  rfl,by
  first|trivial|(first|omega|assumption|exact hpre.1|exact hpre.2|(simp;done)),?_⟩
 -- w4: ratHalf [DA.agg [DC.im (Value.bool (decide ((Fr.add p.x q.x).z < 0))), DC.sl 3 [.int] (L (Fr.add p.x q.x).z.natAbs), DC.sl 3 [.int] (L (Fr.add p.x q.x).d)]]
 refine ⟨(Fr.add p.x q.x),by
  rfl,by
  first|trivial|(first|omega|assumption|exact hpre.1|exact hpre.2|(simp;done)),?_⟩
 -- w7: ratAdd [DA.agg [DC.im (Value.bool (decide (p.y.z < 0))), DC.sl 3 [.int] (L p.y.z.natAbs), DC.sl 3 [.int] (L p.y.d)], DA.agg [DC.im (Value.bool (decide (q.y.z < 0))), DC.sl 3 [.int] (L q.y.z.natAbs), DC.sl 3 [.int] (L q.y.d)]]
 refine ⟨(p.y,q.y),by
  rfl,by
  first|trivial|(first|omega|assumption|exact hpre.1|exact hpre.2|(simp;done)),?_⟩
 -- w10: ratHalf [DA.agg [DC.im (Value.bool (decide ((Fr.add p.y q.y).z < 0))), DC.sl 3 [.int] (L (Fr.add p.y q.y).z.natAbs), DC.sl 3 [.int] (L (Fr.add p.y q.y).d)]]
 refine ⟨(Fr.add p.y q.y),by
  rfl,by
  first|trivial|(first|omega|assumption|exact hpre.1|exact hpre.2|(simp;done)),?_⟩
 -- w13: pointOr [DA.agg [DC.im (Value.bool (decide ((Fr.mul (Fr.add p.x q.x) (rOf 1 2)).z < 0))), DC.sl 3 [.int] (L (Fr.mul (Fr.add p.x q.x) (rOf 1 2)).z.natAbs), DC.sl 3 [.int] (L (Fr.mul (Fr.add p.x q.x) (rOf 1 2)).d), DC.im (Value.bool (decide ((Fr.mul (Fr.add p.y q.y) (rOf 1 2)).z < 0))), DC.sl 3 [.int] (L (Fr.
 refine ⟨(⟨Fr.mul (Fr.add p.x q.x) (rOf 1 2),Fr.mul (Fr.add p.y q.y) (rOf 1 2)⟩:Pq),by
  rfl,by
  first|trivial|(first|omega|assumption|exact hpre.1|exact hpre.2|(simp;done)),?_⟩
 refine GH ?_ (A6 ?_)
 ·-- l16: (orQ (⟨Fr.mul (Fr.add p.x q.x) (rOf 1 2), Fr.mul (Fr.add p.y q.y) (rOf 1 2)⟩ : Pq)).x = (Aq p q).x
  show (orQ (⟨Fr.mul (Fr.add p.x q.x) (rOf 1 2),Fr.mul (Fr.add p.y q.y) (rOf 1 2)⟩:Pq)).x=(Aq p q).x
  rfl
 -- l19: (orQ (⟨Fr.mul (Fr.add p.x q.x) (rOf 1 2), Fr.mul (Fr.add p.y q.y) (rOf 1 2)⟩ : Pq)).y = (Aq p q).y
 show (orQ (⟨Fr.mul (Fr.add p.x q.x) (rOf 1 2),Fr.mul (Fr.add p.y q.y) (rOf 1 2)⟩:Pq)).y=(Aq p q).y
 rfl
def F5:Con:={ ι:=Pq×Pq,pre:=λ i=>i.1.good=true/\i.2.good=true,args:=λ i=>[.agg [.im (.bool (decide (i.1.x.z<0))),.sl 3 [.int] (L i.1.x.z.natAbs),.sl 3 [.int] (L i.1.x.d),.im (.bool (decide (i.1.y.z<0))),.sl 3 [.int] (L i.1.y.z.natAbs),.sl 3 [.int] (L i.1.y.d)],.agg [.im (.bool (decide (i.2.x.z<0))),.sl 3 [.int] (L i.2.x.z.natAbs),.sl 3 [.int] (L i.2.x.d),.im (.bool (decide (i.2.y.z<0))),.sl 3 [.int] (L i.2.y.z.natAbs),.sl 3 [.int] (L i.2.y.d)]],res:=λ i=>⟨false,[some 6],[.im (Value.bool (decide ((Aq i.1 i.2).x.z<0))),.own 3 [.int] (L (Aq i.1 i.2).x.z.natAbs),.own 3 [.int] (L (Aq i.1 i.2).x.d),.im (Value.bool (decide ((Aq i.1 i.2).y.z<0))),.own 3 [.int] (L (Aq i.1 i.2).y.z.natAbs),.own 3 [.int] (L (Aq i.1 i.2).y.d)]⟩ }
theorem XC:F5.Ok Tryz.prog 9:=by
 refine fok (X:=⟨tt,[(34,AE),(35,I3)],[],14,[]⟩) AG AH (CTok.cons B4 (CTok.cons XB (CTok.nil _))) Tryz.func9 (λ _=>[]) ?_
 rintro ⟨p,q⟩ hpre
 have hpre:p.good=true/\q.good=true:=hpre
 refine AF (q:=∃ i1:(List (List Dat)),[DA.one (DC.sl 29 [.bool,.sl 3 [.int],.sl 3 [.int],.bool,.sl 3 [.int],.sl 3 [.int]] ([[Dat.bool (decide (p.x.z<0)),Dat.sl (L p.x.z.natAbs),Dat.sl (L p.x.d),Dat.bool (decide (p.y.z<0)),Dat.sl (L p.y.z.natAbs),Dat.sl (L p.y.d)],[Dat.bool (decide (q.x.z<0)),Dat.sl (L q.x.z.natAbs),Dat.sl (L q.x.d),Dat.bool (decide (q.y.z<0)),Dat.sl (L q.y.z.natAbs),Dat.sl (L q.y.d)]]:List (List Dat)))]=AE.args i1/\AE.pre i1/\(((!(!(i1.any (λ r=>!(okP (BK r))))))=true->((eqM ((Aq p q).x) ((eqN ((Aq p q).y))))))/\((!(!(i1.any (λ r=>!(okP (BK r))))))=false->(∃ i2:Pq×Pq,[dP p,dP q]=I3.args i2/\I3.pre i2/\((eqD ((Aq i2.1 i2.2).x) ((Aq p q).x) ((eqC ((Aq i2.1 i2.2).y) ((Aq p q).y))))))))) (by kernel_rfl) ?_
 have hR:=I2 [p,q] (λ x hx=>by simp only [List.mem_cons,List.not_mem_nil,or_false] at hx;rcases hx with rfl|rfl <;> simp_all)
 -- w1: arePoints [DA.one (DC.sl 29 [.bool, .sl 3 [.int], .sl 3 [.int], .bool, .sl 3 [.int], .sl 3 [.int]] ([[Dat.bool (decide (p.x.z < 0)), Dat.sl (L p.x.z.natAbs), Dat.sl (L p.x.d), Dat.bool (decide (p.y.z < 0)), Dat.sl (L p.y.z.natAbs), Dat.sl (L p.y.d)], [Dat.bool (decide (q.x.z < 0)), Dat.sl (L q.x.z.natAbs), Da
 refine ⟨(([p,q]:List Pq).map λ p=>ptD (ptQ p)),by
  rfl,by
  try dsimp only [AE]
  first|trivial|exact ⟨by show 2<=_;decide,De [p,q]⟩,?_⟩
 refine And.symm ⟨λ c4=>?_,λ c4=>?_⟩
 ·-- c4f: (!(!((([p, q] : List Pq).map fun p => ptD (ptQ p)).any (fun r => !(okP (BK r)))))) = false
  replace c4:(!(!((([p,q]:List Pq).map λ p=>ptD (ptQ p)).any (λ r=>!(okP (BK r))))))=false:=c4
  try simp only [nrm] at c4
  -- w11: midF [DA.agg [DC.im (Value.bool (decide (p.x.z < 0))), DC.sl 3 [.int] (L p.x.z.natAbs), DC.sl 3 [.int] (L p.x.d), DC.im (Value.bool (decide (p.y.z < 0))), DC.sl 3 [.int] (L p.y.z.natAbs), DC.sl 3 [.int] (L p.y.d)], DA.agg [DC.im (Value.bool (decide (q.x.z < 0))), DC.sl 3 [.int] (L q.x.z.natAbs), DC.sl 3 
  refine ⟨(p,q),by
   rfl,by
   first|trivial|exact ⟨by show 2<=_;decide,De [p,q]⟩,?_⟩
  exact GH rfl (A6 rfl)
 -- c4t: (!(!((([p, q] : List Pq).map fun p => ptD (ptQ p)).any (fun r => !(okP (BK r)))))) = true
 replace c4:(!(!((([p,q]:List Pq).map λ p=>ptD (ptQ p)).any (λ r=>!(okP (BK r))))))=true:=c4
 try simp only [nrm] at c4
 refine X3 ?_ (Ar ?_)
 ·-- l5: (Aq p q).x = Fr.none
  show (Aq p q).x=Fr.none
  first|rfl|(rw [hR] at c4;cases c4)
 -- l8: (Aq p q).y = Fr.none
 show (Aq p q).y=Fr.none
 first|rfl|(rw [hR] at c4;cases c4)
end Go.Proofs.YtndnhlhnjiopfaaGreat
