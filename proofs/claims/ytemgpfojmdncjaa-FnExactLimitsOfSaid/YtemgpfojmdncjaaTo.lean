/-
  Contracts of the law's own copies: vectors, lists of vectors, lists of lists, scenes, each in memory of its own.
-/
import Derived.Test.YtemgpfojmdncjaaTurn
import Derived.Laws.MakeOwn
namespace Go.Proofs.Ytemgpfojmdncjaa
open Go.RowKit

theorem owns_store2 {w : World} {base e g n cap k : Nat} {xs L : List Value} (h : w.ownsRow base e 2 (.slice (some ⟨g, 0, none⟩) n cap) n xs) (hk : k < n) (hx : xs.take (k * 2) = L) (x y : Value) :
    ∃ xs', ((w.setCell ⟨g, k * 2, none⟩ x).setCell ⟨g, k * 2 + 1, none⟩ y).ownsRow base e 2 (.slice (some ⟨g, 0, none⟩) n cap) n xs' ∧ xs'.take ((k + 1) * 2) = L ++ [x, y] := by
  have h1 := (h.stored (k * 2) x).1
  have h2 := (h1.stored (k * 2 + 1) y).1
  refine ⟨_, h2, ?_⟩
  have hl : xs.length = n * 2 := h.1
  subst hx
  apply List.ext_getElem?
  intro i
  have hkl : (xs.take (k * 2)).length = k * 2 := by rw [List.length_take]; omega
  rw [List.getElem?_take]
  by_cases hi : i < k * 2
  · rw [if_pos (by omega), List.getElem?_append_left (by omega), List.getElem?_take, if_pos hi, List.getElem?_set, if_neg (by omega), List.getElem?_set, if_neg (by omega)]
  · by_cases hi2 : i < (k + 1) * 2
    · rw [if_pos hi2, List.getElem?_append_right (by omega), hkl]
      have : i = k * 2 ∨ i = k * 2 + 1 := by omega
      rcases this with rfl | rfl
      · rw [List.getElem?_set, if_neg (by omega), List.getElem?_set, if_pos rfl, if_pos (by omega)]
        simp
      · rw [List.getElem?_set, if_pos rfl, if_pos (by simp; omega)]
        simp
    · rw [if_neg hi2, List.getElem?_append_right (by omega), hkl]
      rw [List.getElem?_eq_none (by simp; omega)]

theorem owns_store1 {w : World} {base e g n cap k : Nat} {xs L : List Value} (h : w.ownsRow base e 1 (.slice (some ⟨g, 0, none⟩) n cap) n xs) (hk : k < n) (hx : xs.take k = L) (x : Value) :
    ∃ xs', (w.setCell ⟨g, k, none⟩ x).ownsRow base e 1 (.slice (some ⟨g, 0, none⟩) n cap) n xs' ∧ xs'.take (k + 1) = L ++ [x] := by
  have h1 := (h.stored k x).1
  refine ⟨_, h1, ?_⟩
  have hl : xs.length = n * 1 := h.1
  subst hx
  rw [List.take_succ_eq_append_getElem (by simp; omega)]
  simp [List.take_set_of_le]

theorem toVec_c (x y : Int) (w : World) : Calls Try.prog 36 #[.agg #[.int .i64 x, .int .i64 y]] w fun e w' => e = .returned (.agg #[.int .i64 x, .int .i64 y]) ∧ Below w.heap.size w w' := by
  go_enter Try.func36, Try.ntmps36
  go_wp2
  exact bodyPost_ret (v := .agg #[.int .i64 x, .int .i64 y]) (by simp [results, Try.results36, go_sem]) rfl ⟨rfl, (by repeat (first | exact Below.refl _ _ | assumption | refine Below.drew ?_ | refine Below.setCell ?_ (by first | (simp; done) | (simp; omega) | omega) _ | refine Below.alloc ?_ (by first | (simp; done) | (simp; omega) | omega) _))⟩

theorem flatten_take_snoc (l : List V2) (k : Nat) (x y : Int) (hk : k < l.length) (h : l.getD k (0, 0) = (x, y)) : ((l.take (k + 1)).map vecRow).flatten = ((l.take k).map vecRow).flatten ++ [.int .i64 x, .int .i64 y] := by
  rw [take_map_snoc vecRow l (0, 0) k hk, h]
  simp [vecRow]

set_option maxRecDepth 100000 in
set_option maxHeartbeats 2000000 in
theorem toVecS_c (l : List V2) (hlen : l.length ≤ 1048576) (v : Value) (w : World) (hv : VecsAt w v l) :
    Calls Try.prog 43 #[v] w fun e w' => ∃ v', e = .returned v' ∧ ownsVecs w' w.heap.size 31 v' l ∧ Below w.heap.size w w' := by
  obtain ⟨a, cap, rfl, hl, hc, hcell⟩ := hv.open
  have HC := Lib.hid hcell; clear hcell hv
  obtain ⟨i, z, hi, hz, hsz, hby, hzc⟩ := elemVec.info
  obtain ⟨C, hCs, hmk⟩ : ∃ C : Array Value, C.size = l.length * 2 ∧ ∀ W : World, (Instr.makeSlice 36 (.int .i64 (l.length : Int)) (.int .i64 (l.length : Int))).run Try.prog W = .ok (.slice (some ⟨W.heap.size, 0, none⟩) l.length l.length) (W.alloc (.cells C 31)) := by
    refine ⟨madeCells z.cells (l.length * i.size), by rw [size_madeCells, hsz], fun W => ?_⟩
    have := run_make (P := Try.prog) W 36 31 i z elemVec.slice hi hz .i64 .i64 l.length l.length (by omega) (Int.le_refl _) (by rw [hby]; omega) (by omega)
    simpa using this
  have hown0 : (w.alloc (.cells C 31)).ownsRow w.heap.size 31 2 (.slice (some ⟨w.heap.size, 0, none⟩) l.length l.length) l.length C.toList :=
    World.ownsRow_lit w _ l.length (Nat.le_refl _) (by unfold maxLen; omega) hCs
  have HO0 := Lib.hid hown0
  clear hown0 hi hz hsz hby hzc hCs
  go_enter Try.func43, Try.ntmps43
  go_wp2
  clear hmk
  go_loopw [4] (fun i wr => ∃ (k : Nat) (xs : List Value), k ≤ l.length ∧ i = .int .i64 k ∧ wr.ownsRow w.heap.size 31 2 (.slice (some ⟨w.heap.size, 0, none⟩) l.length l.length) l.length xs ∧ xs.take (k * 2) = ((l.take k).map vecRow).flatten ∧ Below w.heap.size w wr) (fun i _ => l.length - (intOf i).toNat)
  case atStart => exact ⟨0, _, Nat.zero_le _, rfl, HO0.out, by simp, (Below.refl _ _).alloc (Nat.le_refl _) _⟩
  case round =>
    clear HO0
    obtain ⟨k, xs, hk, rfl, hown, htk, hb⟩ := hrel
    have HT := Lib.hid htk; clear htk
    by_cases hlt : k < l.length
    · obtain ⟨b, off, rfl, hbs, c0, c1⟩ := HC.out k hlt
      have d0 := (hb.cell (p := ⟨b, off + k * 2, none⟩) hbs).trans c0
      have d1 := (hb.cell (p := ⟨b, off + k * 2 + 1, none⟩) hbs).trans c1
      obtain ⟨x, y, hxy⟩ : ∃ x y, l.getD k (0, 0) = (x, y) := ⟨_, _, rfl⟩
      have hfl := flatten_take_snoc l k x y hlt hxy
      rw [hxy] at d0 d1
      simp only at d0 d1
      have HF := Lib.hid hfl
      have HO := Lib.hid hown
      have HB := Lib.hid hb
      have T9 := hb.size
      clear hfl hown hxy c0 c1 hb
      go_wp2_with fail
      refine (toVec_c _ _ _).mono ?_
      rintro e w1 ⟨rfl, h1⟩
      have B1 : Below wr.heap.size wr w1 := Below.trans (by repeat (first | exact Below.refl _ _ | assumption | refine Below.drew ?_ | refine Below.setCell ?_ (by first | (simp; done) | (simp; omega) | omega) _ | refine Below.alloc ?_ (by first | (simp; done) | (simp; omega) | omega) _)) (h1.mono (by first | (simp; done) | (simp; omega) | omega))
      have S1 := h1.size
      have T1 := B1.size
      try simp at S1
      obtain ⟨k1, f1⟩ := bcell h1
      try simp at k1
      try simp at f1
      have Hc1 := Lib.hid h1
      clear h1
      have hown1 := ownsRow_below HO.out B1
      have HB1 := Lib.hid (HB.out.trans (B1.mono T9))
      obtain ⟨old0, ho0⟩ : ∃ u, w1.cell? ⟨w.heap.size, k * 2, none⟩ = some u := by
        rw [hown1.cellAt (k * 2) (by omega)]
        exact ⟨_, List.getElem?_eq_getElem (by have := hown1.1; omega)⟩
      obtain ⟨old1, ho1⟩ : ∃ u, w1.cell? ⟨w.heap.size, k * 2 + 1, none⟩ = some u := by
        rw [hown1.cellAt (k * 2 + 1) (by omega)]
        exact ⟨_, List.getElem?_eq_getElem (by have := hown1.1; omega)⟩
      have hf0 := hown1.frozenAt (k * 2)
      have hf1 := hown1.frozenAt (k * 2 + 1)
      obtain ⟨xs', hs1, hs2⟩ := owns_store2 hown1 hlt HT.out (.int .i64 x) (.int .i64 y)
      have HS := Lib.hid (And.intro hs1 hs2)
      clear hown1 hs1 hs2 k1 f1 B1
      go_wp2
      go_roundw
      case rel => exact ⟨k + 1, xs', by omega, by go_num, HS.out.1, by rw [HS.out.2, HF.out], (HB1.out.setCell (by simp) _).setCell (by simp) _⟩
      case measure => simp [intOf]; omega
    · have hke : k = l.length := by omega
      have HB := Lib.hid hb
      have HO : Hid (ownsVecs wr w.heap.size 31 (.slice (some ⟨w.heap.size, 0, none⟩) l.length l.length) l) := by
        have h := HT.out
        rw [hke, List.take_length, List.take_of_length_le (by have := hown.1; omega)] at h
        rw [h] at hown
        exact hown
      clear hown hb hke
      go_wp2
      go_ret
      exact ⟨_, rfl, HO.out, HB.out⟩

/-- No two of the values lead into one block. -/
def Apart (vs : List Value) : Prop := vs.Pairwise fun a b => ∀ k, a.ownBlock = some k → b.ownBlock ≠ some k

/-- A slice of slices of vectors in memory of the call's own, each in a block of its own. -/
def ownsVS (w : World) (base e o : Nat) (v : Value) (ll : List (List V2)) : Prop :=
  ∃ vs : List Value, w.ownsRow base o 1 v vs.length vs ∧ vs.length = ll.length ∧ (∀ k, k < ll.length → ownsVecs w base e (vs.getD k undef) (ll.getD k [])) ∧ Apart (v :: vs)

theorem flatten_single (vs : List Value) : (vs.map fun x => [x]).flatten = vs := by
  induction vs with
  | nil => rfl
  | cons x r ih => rw [List.map_cons, List.flatten_cons, ih]; rfl

theorem ownsVS.at {w : World} {base e o : Nat} {v : Value} {ll : List (List V2)} (h : ownsVS w base e o v ll) : VecSSAt w v ll := by
  obtain ⟨vs, h1, h2, h3, _⟩ := h
  refine ⟨vs, owns_SlAt (base := base) (e := o) ?_ (by intro x hx; simp at hx; obtain ⟨a, _, rfl⟩ := hx; rfl), h2, fun k hk => (h3 k hk).at⟩
  rw [List.length_map]
  rw [flatten_single]; exact h1

theorem ownsVS.below {w w' : World} {base e o : Nat} {v : Value} {ll : List (List V2)} (h : ownsVS w base e o v ll) (hb : Below w.heap.size w w') : ownsVS w' base e o v ll := by
  obtain ⟨vs, h1, h2, h3, h4⟩ := h
  exact ⟨vs, ownsRow_below h1 hb, h2, fun k hk => (h3 k hk).below hb, h4⟩

theorem ownsRow_mono {w : World} {base base' : Nat} {e : TypeId} {size : Nat} {v : Value} {n : Nat} {xs : List Value} (h : w.ownsRow base e size v n xs) (hb : base' ≤ base) : w.ownsRow base' e size v n xs := by
  obtain ⟨g1, g2⟩ := h
  refine ⟨g1, ?_⟩
  rcases g2 with g2 | ⟨g, cap, cur, q1, q2, q3⟩
  · exact .inl g2
  · exact .inr ⟨g, cap, cur, q1, Nat.le_trans hb q2, q3⟩
theorem ownsVecs.mono {w : World} {base base' e : Nat} {v : Value} {l : List V2} (h : ownsVecs w base e v l) (hb : base' ≤ base) : ownsVecs w base' e v l := ownsRow_mono h hb
theorem ownsVS.mono {w : World} {base base' e o : Nat} {v : Value} {ll : List (List V2)} (h : ownsVS w base e o v ll) (hb : base' ≤ base) : ownsVS w base' e o v ll := by
  obtain ⟨vs, h1, h2, h3, h4⟩ := h
  exact ⟨vs, ownsRow_mono h1 hb, h2, fun k hk => (h3 k hk).mono hb, h4⟩

theorem elemVecS : ElemT Try.prog 37 36 1 24 := ElemT.mk' (.slice none 0 0) Try.underlying37 (by kernel_rfl) rfl (by decide)

theorem Apart_snoc {vs : List Value} {v : Value} {B : Nat} (h : Apart vs) (hB : ∀ a ∈ vs, ∀ k, a.ownBlock = some k → k < B) (hv : ∀ k, v.ownBlock = some k → B ≤ k) : Apart (vs ++ [v]) := by
  unfold Apart at h ⊢
  rw [List.pairwise_append]
  refine ⟨h, by simp, fun a ha b hb k hk hk' => ?_⟩
  simp at hb
  subst hb
  have := hB a ha k hk
  have := hv k hk'
  omega

set_option maxRecDepth 100000 in
set_option maxHeartbeats 2000000 in
theorem toVecSS_c (l : List (List V2)) (hlen : l.length ≤ 1048576) (hin : ∀ x ∈ l, x.length ≤ 1048576) (v : Value) (w : World) (hv : VecSSAt w v l) :
    Calls Try.prog 57 #[v] w fun e w' => ∃ v', e = .returned v' ∧ ownsVS w' w.heap.size 31 36 v' l ∧ Below w.heap.size w w' := by
  obtain ⟨a, cap, rfl, hl, hc, hcell⟩ := hv.open
  have HC := Lib.hid hcell; clear hcell hv
  have HIN := Lib.hid hin; clear hin
  obtain ⟨i, z, hi, hz, hsz, hby, hzc⟩ := elemVecS.info
  obtain ⟨C, hCs, hmk⟩ : ∃ C : Array Value, C.size = l.length * 1 ∧ ∀ W : World, (Instr.makeSlice 37 (.int .i64 (l.length : Int)) (.int .i64 (l.length : Int))).run Try.prog W = .ok (.slice (some ⟨W.heap.size, 0, none⟩) l.length l.length) (W.alloc (.cells C 36)) := by
    refine ⟨madeCells z.cells (l.length * i.size), by rw [size_madeCells, hsz], fun W => ?_⟩
    have := run_make (P := Try.prog) W 37 36 i z elemVecS.slice hi hz .i64 .i64 l.length l.length (by omega) (Int.le_refl _) (by rw [hby]; omega) (by omega)
    simpa using this
  have hown0 : (w.alloc (.cells C 36)).ownsRow w.heap.size 36 1 (.slice (some ⟨w.heap.size, 0, none⟩) l.length l.length) l.length C.toList :=
    World.ownsRow_lit w _ l.length (Nat.le_refl _) (by unfold maxLen; omega) hCs
  have HO0 := Lib.hid hown0
  clear hown0 hi hz hsz hby hzc hCs
  go_enter Try.func57, Try.ntmps57
  go_wp2
  clear hmk
  go_loopw [4] (fun i wr => ∃ (k : Nat) (xs vs : List Value), k ≤ l.length ∧ i = .int .i64 k ∧ wr.ownsRow w.heap.size 36 1 (.slice (some ⟨w.heap.size, 0, none⟩) l.length l.length) l.length xs ∧ xs.take k = vs ∧ vs.length = k ∧ (∀ j, j < k → ownsVecs wr (w.heap.size + 1) 31 (vs.getD j undef) (l.getD j [])) ∧ Apart (.slice (some ⟨w.heap.size, 0, none⟩) l.length l.length :: vs) ∧ Below w.heap.size w wr ∧ w.heap.size < wr.heap.size) (fun i _ => l.length - (intOf i).toNat)
  case atStart => exact ⟨0, _, [], Nat.zero_le _, rfl, HO0.out, by simp, rfl, by intro j hj; omega, by simp [Apart], (Below.refl _ _).alloc (Nat.le_refl _) _, by simp⟩
  case round =>
    clear HO0
    obtain ⟨k, xs, vs, hk, rfl, hown, htk, hvl, hvs, hap, hb, hbz⟩ := hrel
    have HT := Lib.hid htk; clear htk
    have HV := Lib.hid (And.intro hvl (And.intro hvs hap)); clear hvl hvs hap
    by_cases hlt : k < l.length
    · obtain ⟨b, off, u, rfl, hbs, c0, hu⟩ := HC.out k hlt
      have d0 := (hb.cell (p := ⟨b, off + k, none⟩) hbs).trans c0
      obtain ⟨P, hP⟩ : ∃ P, l.getD k [] = P := ⟨_, rfl⟩
      have hPl : P.length ≤ 1048576 := by
        rw [← hP]
        have := HIN.out l[k] (List.getElem_mem hlt)
        simpa [List.getD, List.getElem?_eq_getElem hlt] using this
      rw [hP] at hu
      have HU := Lib.hid (hu.below hb)
      have HP := Lib.hid hP
      have HO := Lib.hid hown
      have HB := Lib.hid hb
      have T9 := hb.size
      clear hown hP c0 hb hu
      go_wp2_with fail
      refine (toVecS_c P hPl _ _ HU.out).mono ?_
      rintro e w1 ⟨q, rfl, hq, hb1⟩
      have hown1 := ownsRow_below HO.out hb1
      have HB1 := Lib.hid (HB.out.trans (hb1.mono T9))
      have S1 := hb1.size
      obtain ⟨old0, ho0⟩ : ∃ u, w1.cell? ⟨w.heap.size, k, none⟩ = some u := by
        rw [hown1.cellAt k (by omega)]
        exact ⟨_, List.getElem?_eq_getElem (by have := hown1.1; omega)⟩
      have hf0 := hown1.frozenAt k
      obtain ⟨qa, qn, qc, hqv⟩ : ∃ a n c, q = .slice a n c := by
        rcases hq.2 with ⟨h, _⟩ | ⟨_, _, _, h, _⟩ <;> exact ⟨_, _, _, h⟩
      subst hqv
      obtain ⟨xs', hs1, hs2⟩ := owns_store1 hown1 hlt HT.out (.slice qa qn qc)
      have hqk : ∀ j, (Value.slice qa qn qc).ownBlock = some j → wr.heap.size ≤ j := fun j hj => (World.ownsRow.lt hq j hj).1
      have hkeep : ∀ (base e' n : Nat) (v' : Value) (L : List V2), ownsVecs w1 base e' v' L → (∀ j, v'.ownBlock = some j → j ≠ w.heap.size) → ownsVecs (w1.setCell ⟨w.heap.size, k, none⟩ (.slice qa qn qc)) base e' v' L := fun base e' n v' L h hne => by
        refine World.ownsRow.kept h (hown1.stored k (.slice qa qn qc)).2 ?_
        cases hvb : v'.ownBlock with
        | none => exact .inl rfl
        | some j => exact .inr (by simp; exact hne j hvb)
      have hrel' : (vs ++ [Value.slice qa qn qc]).length = k + 1 ∧ (∀ j, j < k + 1 → ownsVecs (w1.setCell ⟨w.heap.size, k, none⟩ (.slice qa qn qc)) (w.heap.size + 1) 31 ((vs ++ [Value.slice qa qn qc]).getD j undef) (l.getD j [])) ∧ Apart (.slice (some ⟨w.heap.size, 0, none⟩) l.length l.length :: (vs ++ [Value.slice qa qn qc])) := by
        obtain ⟨hvl, hvs, hap⟩ := HV.out
        refine ⟨by simp [hvl], fun j hj => ?_, ?_⟩
        · by_cases hjk : j < k
          · have h0 := (hvs j hjk).below hb1
            have e0 : (vs ++ [Value.slice qa qn qc]).getD j undef = vs.getD j undef := by simp [List.getD, List.getElem?_append_left (show j < vs.length by omega)]
            rw [e0]
            exact hkeep _ _ 0 _ _ h0 fun m hm hm' => by
              have := (World.ownsRow.lt h0 m hm).1
              omega
          · obtain rfl : j = k := by omega
            have e0 : (vs ++ [Value.slice qa qn qc]).getD j undef = .slice qa qn qc := by simp [List.getD, hvl]
            rw [e0, HP.out]
            refine hkeep _ _ 0 _ _ (hq.mono (by omega)) fun m hm hm' => ?_
            have := hqk m hm
            omega
        · rw [← List.cons_append]
          refine Apart_snoc (B := wr.heap.size) hap ?_ hqk
          intro a ha m hm
          rcases List.mem_cons.1 ha with rfl | ha
          · simp [Value.ownBlock] at hm; omega
          · obtain ⟨j, hj, rfl⟩ := List.mem_iff_getElem.1 ha
            have := hvs j (by omega)
            have e0 : vs.getD j undef = vs[j] := by simp [List.getD, List.getElem?_eq_getElem hj]
            rw [e0] at this
            exact (World.ownsRow.lt this m hm).2
      have HS := Lib.hid (And.intro hs1 (And.intro hs2 hrel'))
      clear hown1 hs1 hs2 hrel' hkeep hqk hq hb1
      go_wp2
      go_roundw
      case rel => exact ⟨k + 1, xs', _, by omega, by go_num, HS.out.1, HS.out.2.1, HS.out.2.2.1, HS.out.2.2.2.1, HS.out.2.2.2.2, HB1.out.setCell (by simp) _, by simp; omega⟩
      case measure => simp [intOf]; omega
    · have hke : k = l.length := by omega
      have HB := Lib.hid hb
      have HO : Hid (ownsVS wr w.heap.size 31 36 (.slice (some ⟨w.heap.size, 0, none⟩) l.length l.length) l) := by
        obtain ⟨hvl, hvs, hap⟩ := HV.out
        have hx : xs = vs := by
          have h := HT.out
          rwa [List.take_of_length_le (by have := hown.1; omega)] at h
        subst hx
        refine ⟨xs, ?_, by omega, fun j hj => (hvs j (by omega)).mono (by omega), hap⟩
        rw [show xs.length = l.length by omega]
        exact hown
      clear hown hb hke
      go_wp2
      go_ret
      exact ⟨_, rfl, HO.out, HB.out⟩

/-- A scene in memory of the call's own, its slices in blocks of their own. -/
def ownsScene (w : World) (base : Nat) (v : Value) (s : Scn) : Prop :=
  ∃ (r o t : Value) (vs : List Value), v = .agg #[.int .i64 s.low.1, .int .i64 s.low.2, .int .i64 s.high.1, .int .i64 s.high.2, r, o, t] ∧
    ownsVecs w base 31 r s.robot ∧ ownsVecs w base 31 t s.tables ∧
    w.ownsRow base 36 1 o vs.length vs ∧ vs.length = s.obst.length ∧ (∀ k, k < s.obst.length → ownsVecs w base 31 (vs.getD k undef) (s.obst.getD k [])) ∧ Apart ([r] ++ (o :: vs) ++ [t])

theorem ownsScene.at {w : World} {base : Nat} {v : Value} {s : Scn} (h : ownsScene w base v s) : SceneAt w v s := by
  obtain ⟨r, o, t, vs, h1, h2, h3, h4, h5, h6, h7⟩ := h
  refine ⟨r, o, t, h1, h2.at, ownsVS.at (base := base) (e := 31) (o := 36) ⟨vs, h4, h5, h6, ?_⟩, h3.at⟩
  unfold Apart at h7 ⊢
  exact (List.pairwise_append.1 (List.pairwise_append.1 h7).1).2.1
theorem ownsScene.below {w w' : World} {base : Nat} {v : Value} {s : Scn} (h : ownsScene w base v s) (hb : Below w.heap.size w w') : ownsScene w' base v s := by
  obtain ⟨r, o, t, vs, h1, h2, h3, h4, h5, h6, h7⟩ := h
  exact ⟨r, o, t, vs, h1, h2.below hb, h3.below hb, ownsRow_below h4 hb, h5, fun k hk => (h6 k hk).below hb, h7⟩

theorem ownsVecs.setLow {w : World} {base e : Nat} {v : Value} {l : List V2} (h : ownsVecs w base e v l) {a : Addr} (ha : a.block < base) (u : Value) : ownsVecs (w.setCell a u) base e v l := ownsRow_setCell_below h ha u

theorem Apart_cons {vs : List Value} {v : Value} {B : Nat} (h : Apart vs) (hB : ∀ a ∈ vs, ∀ k, a.ownBlock = some k → B ≤ k) (hv : ∀ k, v.ownBlock = some k → k < B) : Apart (v :: vs) := by
  unfold Apart at h ⊢
  rw [List.pairwise_cons]
  refine ⟨fun b hb k hk hk' => ?_, h⟩
  have := hB b hb k hk'
  have := hv k hk
  omega

/-- The blocks of a list of lists of the call's own lie between its base and the heap's end. -/
theorem ownsVS_blocks {w : World} {base e o : Nat} {v : Value} {ll : List (List V2)} {vs : List Value} (h1 : w.ownsRow base o 1 v vs.length vs) (h2 : vs.length = ll.length) (h3 : ∀ k, k < ll.length → ownsVecs w base e (vs.getD k undef) (ll.getD k [])) :
    ∀ a ∈ v :: vs, ∀ k, a.ownBlock = some k → base ≤ k ∧ k < w.heap.size := by
  intro a ha k hk
  rcases List.mem_cons.1 ha with rfl | ha
  · exact World.ownsRow.lt h1 k hk
  · obtain ⟨j, hj, rfl⟩ := List.mem_iff_getElem.1 ha
    have := h3 j (by omega)
    have e0 : vs.getD j undef = vs[j] := by simp [List.getD, List.getElem?_eq_getElem hj]
    rw [e0] at this
    exact World.ownsRow.lt this k hk

theorem owns_slice {w : World} {base : Nat} {e : TypeId} {size : Nat} {v : Value} {n : Nat} {xs : List Value} (h : w.ownsRow base e size v n xs) : ∃ a c, v = .slice a n c := by
  rcases h.2 with ⟨h', h0⟩ | ⟨_, _, _, h', _⟩
  · subst h0; exact ⟨_, _, h'⟩
  · exact ⟨_, _, h'⟩

set_option maxRecDepth 100000 in
set_option maxHeartbeats 2000000 in
theorem toScene_c (s : Scn) (h1 : s.robot.length ≤ 1048576) (h2 : s.obst.length ≤ 1048576) (h3 : ∀ x ∈ s.obst, x.length ≤ 1048576) (h4 : s.tables.length ≤ 1048576) (v : Value) (w : World) (hv : SceneAt w v s) :
    Calls Try.prog 16 #[v] w fun e w' => ∃ v', e = .returned v' ∧ ownsScene w' w.heap.size v' s ∧ Below w.heap.size w w' := by
  obtain ⟨r, o, t, rfl, hr, ho, ht⟩ := hv
  have HA := Lib.hid (And.intro hr (And.intro ho ht))
  obtain ⟨ra, rcap, rfl, _, _, _⟩ := hr.open
  obtain ⟨oa, ocap, rfl, _, _, _⟩ := ho.open
  obtain ⟨ta, tcap, rfl, _, _, _⟩ := ht.open
  clear hr ho ht
  have H3 := Lib.hid h3; clear h3
  go_enter Try.func16, Try.ntmps16
  go_wp2_with fail
  refine (toVec_c _ _ _).mono ?_
  rintro e w1 ⟨rfl, h1⟩
  have B1 : Below w.heap.size w w1 := Below.trans (by repeat (first | exact Below.refl _ _ | assumption | refine Below.drew ?_ | refine Below.setCell ?_ (by first | (simp; done) | (simp; omega) | omega) _ | refine Below.alloc ?_ (by first | (simp; done) | (simp; omega) | omega) _)) (h1.mono (by first | (simp; done) | (simp; omega) | omega))
  have S1 := h1.size
  have T1 := B1.size
  try simp at S1
  obtain ⟨k1, f1⟩ := bcell h1
  try simp at k1
  try simp at f1
  have Hc1 := Lib.hid h1
  clear h1
  have u1_0 : w.heap.size < w1.heap.size := by omega
  have u1_1 : w.heap.size + 1 < w1.heap.size := by omega
  have u1_2 : w.heap.size + 1 + 1 < w1.heap.size := by omega
  go_wp2_with fail
  refine (toVec_c _ _ _).mono ?_
  rintro e w2 ⟨rfl, h2⟩
  have B2 : Below w.heap.size w w2 := Below.trans (by repeat (first | exact Below.refl _ _ | assumption | refine Below.drew ?_ | refine Below.setCell ?_ (by first | (simp; done) | (simp; omega) | omega) _ | refine Below.alloc ?_ (by first | (simp; done) | (simp; omega) | omega) _)) (h2.mono (by first | (simp; done) | (simp; omega) | omega))
  have S2 := h2.size
  have T2 := B2.size
  try simp at S2
  obtain ⟨k2, f2⟩ := bcell h2
  try simp at k2
  try simp at f2
  have Hc2 := Lib.hid h2
  clear h2
  have u2_0 : w.heap.size < w2.heap.size := by omega
  have u2_1 : w.heap.size + 1 < w2.heap.size := by omega
  have u2_2 : w.heap.size + 1 + 1 < w2.heap.size := by omega
  go_wp2_with fail
  have HR := Lib.hid (HA.out.1.below (w' := (w2.setCell ⟨w.heap.size + 1 + 1, 2, none⟩ (.int .i64 s.high.1)).setCell ⟨w.heap.size + 1 + 1, 3, none⟩ (.int .i64 s.high.2)) (by repeat (first | exact Below.refl _ _ | assumption | refine Below.drew ?_ | refine Below.setCell ?_ (by first | (simp; done) | (simp; omega) | omega) _ | refine Below.alloc ?_ (by first | (simp; done) | (simp; omega) | omega) _)))
  refine (toVecS_c s.robot h1 _ _ HR.out).mono ?_
  rintro e w3 ⟨q1, rfl, hq1, h3⟩
  have B3 : Below w.heap.size w w3 := Below.trans (by repeat (first | exact Below.refl _ _ | assumption | refine Below.drew ?_ | refine Below.setCell ?_ (by first | (simp; done) | (simp; omega) | omega) _ | refine Below.alloc ?_ (by first | (simp; done) | (simp; omega) | omega) _)) (h3.mono (by first | (simp; done) | (simp; omega) | omega))
  have S3 := h3.size
  have T3 := B3.size
  try simp at S3
  obtain ⟨k3, f3⟩ := bcell h3
  try simp at k3
  try simp at f3
  have Hc3 := Lib.hid h3
  clear h3
  have u3_0 : w.heap.size < w3.heap.size := by omega
  have u3_1 : w.heap.size + 1 < w3.heap.size := by omega
  have u3_2 : w.heap.size + 1 + 1 < w3.heap.size := by omega
  obtain ⟨a1, c1, rfl⟩ := owns_slice hq1
  have Q1 := Lib.hid hq1
  clear hq1
  go_wp2_with fail
  have HO := Lib.hid (HA.out.2.1.below (w' := w3.setCell ⟨w.heap.size + 1 + 1, 4, none⟩ (.slice a1 s.robot.length c1)) (by repeat (first | exact Below.refl _ _ | assumption | refine Below.drew ?_ | refine Below.setCell ?_ (by first | (simp; done) | (simp; omega) | omega) _ | refine Below.alloc ?_ (by first | (simp; done) | (simp; omega) | omega) _)))
  refine (toVecSS_c s.obst h2 H3.out _ _ HO.out).mono ?_
  rintro e w4 ⟨q2, rfl, hq2, h4⟩
  have B4 : Below w.heap.size w w4 := Below.trans (by repeat (first | exact Below.refl _ _ | assumption | refine Below.drew ?_ | refine Below.setCell ?_ (by first | (simp; done) | (simp; omega) | omega) _ | refine Below.alloc ?_ (by first | (simp; done) | (simp; omega) | omega) _)) (h4.mono (by first | (simp; done) | (simp; omega) | omega))
  have S4 := h4.size
  have T4 := B4.size
  try simp at S4
  obtain ⟨k4, f4⟩ := bcell h4
  try simp at k4
  try simp at f4
  have Hc4 := Lib.hid h4
  clear h4
  have u4_0 : w.heap.size < w4.heap.size := by omega
  have u4_1 : w.heap.size + 1 < w4.heap.size := by omega
  have u4_2 : w.heap.size + 1 + 1 < w4.heap.size := by omega
  obtain ⟨vs, g1, g2, g3, g4⟩ := hq2
  obtain ⟨a2, c2, rfl⟩ := owns_slice g1
  have Q2 := Lib.hid (And.intro g1 (And.intro g2 (And.intro g3 g4)))
  clear g1 g2 g3 g4
  go_wp2_with fail
  have HT := Lib.hid (HA.out.2.2.below (w' := w4.setCell ⟨w.heap.size + 1 + 1, 5, none⟩ (.slice a2 vs.length c2)) (by repeat (first | exact Below.refl _ _ | assumption | refine Below.drew ?_ | refine Below.setCell ?_ (by first | (simp; done) | (simp; omega) | omega) _ | refine Below.alloc ?_ (by first | (simp; done) | (simp; omega) | omega) _)))
  refine (toVecS_c s.tables h4 _ _ HT.out).mono ?_
  rintro e w5 ⟨q3, rfl, hq3, h5⟩
  have B5 : Below w.heap.size w w5 := Below.trans (by repeat (first | exact Below.refl _ _ | assumption | refine Below.drew ?_ | refine Below.setCell ?_ (by first | (simp; done) | (simp; omega) | omega) _ | refine Below.alloc ?_ (by first | (simp; done) | (simp; omega) | omega) _)) (h5.mono (by first | (simp; done) | (simp; omega) | omega))
  have S5 := h5.size
  have T5 := B5.size
  try simp at S5
  obtain ⟨k5, f5⟩ := bcell h5
  try simp at k5
  try simp at f5
  have Hc5 := Lib.hid h5
  clear h5
  have u5_0 : w.heap.size < w5.heap.size := by omega
  have u5_1 : w.heap.size + 1 < w5.heap.size := by omega
  have u5_2 : w.heap.size + 1 + 1 < w5.heap.size := by omega
  obtain ⟨a3, c3, rfl⟩ := owns_slice hq3
  have Q3 := Lib.hid hq3
  clear hq3
  have r0 : w5.cell? ⟨w.heap.size + 1 + 1, 0, none⟩ = some (.int .i64 s.low.1) := by go_simp
  have r1 : w5.cell? ⟨w.heap.size + 1 + 1, 1, none⟩ = some (.int .i64 s.low.2) := by go_simp
  have r2 : w5.cell? ⟨w.heap.size + 1 + 1, 2, none⟩ = some (.int .i64 s.high.1) := by go_simp
  have r3 : w5.cell? ⟨w.heap.size + 1 + 1, 3, none⟩ = some (.int .i64 s.high.2) := by go_simp
  have r4 : w5.cell? ⟨w.heap.size + 1 + 1, 4, none⟩ = some (.slice a1 s.robot.length c1) := by go_simp
  have r5 : w5.cell? ⟨w.heap.size + 1 + 1, 5, none⟩ = some (.slice a2 vs.length c2) := by go_simp
  have r6 : w5.cell? ⟨w.heap.size + 1 + 1, 6, none⟩ = some (.slice none 0 0) := by go_simp
  have p0 : w5.cell? ⟨w.heap.size + 1, 0, none⟩ = some (.int .i64 0) := by go_simp
  have p1 : w5.cell? ⟨w.heap.size + 1, 1, none⟩ = some (.int .i64 0) := by go_simp
  have p2 : w5.cell? ⟨w.heap.size + 1, 2, none⟩ = some (.int .i64 0) := by go_simp
  have p3 : w5.cell? ⟨w.heap.size + 1, 3, none⟩ = some (.int .i64 0) := by go_simp
  have p4 : w5.cell? ⟨w.heap.size + 1, 4, none⟩ = some (.slice none 0 0) := by go_simp
  have p5 : w5.cell? ⟨w.heap.size + 1, 5, none⟩ = some (.slice none 0 0) := by go_simp
  have p6 : w5.cell? ⟨w.heap.size + 1, 6, none⟩ = some (.slice none 0 0) := by go_simp
  have fz0 : w5.frozen? ⟨w.heap.size + 1, 0, none⟩ = false := by go_simp
  have fz1 : w5.frozen? ⟨w.heap.size + 1, 1, none⟩ = false := by go_simp
  have fz2 : w5.frozen? ⟨w.heap.size + 1, 2, none⟩ = false := by go_simp
  have fz3 : w5.frozen? ⟨w.heap.size + 1, 3, none⟩ = false := by go_simp
  have fz4 : w5.frozen? ⟨w.heap.size + 1, 4, none⟩ = false := by go_simp
  have fz5 : w5.frozen? ⟨w.heap.size + 1, 5, none⟩ = false := by go_simp
  have fz6 : w5.frozen? ⟨w.heap.size + 1, 6, none⟩ = false := by go_simp
  have fy6 : w5.frozen? ⟨w.heap.size + 1 + 1, 6, none⟩ = false := by go_simp
  clear k1 f1 k2 f2 k3 f3 k4 f4 k5 f5
  have q0 : ((((((((w5.setCell ⟨w.heap.size + 1 + 1, 6, none⟩ (.slice a3 s.tables.length c3)).setCell ⟨w.heap.size + 1, 0, none⟩ (.int .i64 s.low.1)).setCell ⟨w.heap.size + 1, 1, none⟩ (.int .i64 s.low.2)).setCell ⟨w.heap.size + 1, 2, none⟩ (.int .i64 s.high.1)).setCell ⟨w.heap.size + 1, 3, none⟩ (.int .i64 s.high.2)).setCell ⟨w.heap.size + 1, 4, none⟩ (.slice a1 s.robot.length c1)).setCell ⟨w.heap.size + 1, 5, none⟩ (.slice a2 vs.length c2)).setCell ⟨w.heap.size + 1, 6, none⟩ (.slice a3 s.tables.length c3)).cell? ⟨w.heap.size + 1, 0, none⟩ = some (.int .i64 s.low.1) := by go_simp
  have q1 : ((((((((w5.setCell ⟨w.heap.size + 1 + 1, 6, none⟩ (.slice a3 s.tables.length c3)).setCell ⟨w.heap.size + 1, 0, none⟩ (.int .i64 s.low.1)).setCell ⟨w.heap.size + 1, 1, none⟩ (.int .i64 s.low.2)).setCell ⟨w.heap.size + 1, 2, none⟩ (.int .i64 s.high.1)).setCell ⟨w.heap.size + 1, 3, none⟩ (.int .i64 s.high.2)).setCell ⟨w.heap.size + 1, 4, none⟩ (.slice a1 s.robot.length c1)).setCell ⟨w.heap.size + 1, 5, none⟩ (.slice a2 vs.length c2)).setCell ⟨w.heap.size + 1, 6, none⟩ (.slice a3 s.tables.length c3)).cell? ⟨w.heap.size + 1, 1, none⟩ = some (.int .i64 s.low.2) := by go_simp
  have q2 : ((((((((w5.setCell ⟨w.heap.size + 1 + 1, 6, none⟩ (.slice a3 s.tables.length c3)).setCell ⟨w.heap.size + 1, 0, none⟩ (.int .i64 s.low.1)).setCell ⟨w.heap.size + 1, 1, none⟩ (.int .i64 s.low.2)).setCell ⟨w.heap.size + 1, 2, none⟩ (.int .i64 s.high.1)).setCell ⟨w.heap.size + 1, 3, none⟩ (.int .i64 s.high.2)).setCell ⟨w.heap.size + 1, 4, none⟩ (.slice a1 s.robot.length c1)).setCell ⟨w.heap.size + 1, 5, none⟩ (.slice a2 vs.length c2)).setCell ⟨w.heap.size + 1, 6, none⟩ (.slice a3 s.tables.length c3)).cell? ⟨w.heap.size + 1, 2, none⟩ = some (.int .i64 s.high.1) := by go_simp
  have q3 : ((((((((w5.setCell ⟨w.heap.size + 1 + 1, 6, none⟩ (.slice a3 s.tables.length c3)).setCell ⟨w.heap.size + 1, 0, none⟩ (.int .i64 s.low.1)).setCell ⟨w.heap.size + 1, 1, none⟩ (.int .i64 s.low.2)).setCell ⟨w.heap.size + 1, 2, none⟩ (.int .i64 s.high.1)).setCell ⟨w.heap.size + 1, 3, none⟩ (.int .i64 s.high.2)).setCell ⟨w.heap.size + 1, 4, none⟩ (.slice a1 s.robot.length c1)).setCell ⟨w.heap.size + 1, 5, none⟩ (.slice a2 vs.length c2)).setCell ⟨w.heap.size + 1, 6, none⟩ (.slice a3 s.tables.length c3)).cell? ⟨w.heap.size + 1, 3, none⟩ = some (.int .i64 s.high.2) := by go_simp
  have q4 : ((((((((w5.setCell ⟨w.heap.size + 1 + 1, 6, none⟩ (.slice a3 s.tables.length c3)).setCell ⟨w.heap.size + 1, 0, none⟩ (.int .i64 s.low.1)).setCell ⟨w.heap.size + 1, 1, none⟩ (.int .i64 s.low.2)).setCell ⟨w.heap.size + 1, 2, none⟩ (.int .i64 s.high.1)).setCell ⟨w.heap.size + 1, 3, none⟩ (.int .i64 s.high.2)).setCell ⟨w.heap.size + 1, 4, none⟩ (.slice a1 s.robot.length c1)).setCell ⟨w.heap.size + 1, 5, none⟩ (.slice a2 vs.length c2)).setCell ⟨w.heap.size + 1, 6, none⟩ (.slice a3 s.tables.length c3)).cell? ⟨w.heap.size + 1, 4, none⟩ = some (.slice a1 s.robot.length c1) := by go_simp
  have q5 : ((((((((w5.setCell ⟨w.heap.size + 1 + 1, 6, none⟩ (.slice a3 s.tables.length c3)).setCell ⟨w.heap.size + 1, 0, none⟩ (.int .i64 s.low.1)).setCell ⟨w.heap.size + 1, 1, none⟩ (.int .i64 s.low.2)).setCell ⟨w.heap.size + 1, 2, none⟩ (.int .i64 s.high.1)).setCell ⟨w.heap.size + 1, 3, none⟩ (.int .i64 s.high.2)).setCell ⟨w.heap.size + 1, 4, none⟩ (.slice a1 s.robot.length c1)).setCell ⟨w.heap.size + 1, 5, none⟩ (.slice a2 vs.length c2)).setCell ⟨w.heap.size + 1, 6, none⟩ (.slice a3 s.tables.length c3)).cell? ⟨w.heap.size + 1, 5, none⟩ = some (.slice a2 vs.length c2) := by go_simp
  have q6 : ((((((((w5.setCell ⟨w.heap.size + 1 + 1, 6, none⟩ (.slice a3 s.tables.length c3)).setCell ⟨w.heap.size + 1, 0, none⟩ (.int .i64 s.low.1)).setCell ⟨w.heap.size + 1, 1, none⟩ (.int .i64 s.low.2)).setCell ⟨w.heap.size + 1, 2, none⟩ (.int .i64 s.high.1)).setCell ⟨w.heap.size + 1, 3, none⟩ (.int .i64 s.high.2)).setCell ⟨w.heap.size + 1, 4, none⟩ (.slice a1 s.robot.length c1)).setCell ⟨w.heap.size + 1, 5, none⟩ (.slice a2 vs.length c2)).setCell ⟨w.heap.size + 1, 6, none⟩ (.slice a3 s.tables.length c3)).cell? ⟨w.heap.size + 1, 6, none⟩ = some (.slice a3 s.tables.length c3) := by go_simp
  have QQ := Lib.hid (And.intro q0 (And.intro q1 (And.intro q2 (And.intro q3 (And.intro q4 (And.intro q5 q6))))))
  clear q0 q1 q2 q3 q4 q5 q6
  have z2 : w.heap.size + 1 + 1 < w2.heap.size := u2_2
  have z3 : w.heap.size + 1 + 1 < w3.heap.size := u3_2
  have z4 : w.heap.size + 1 + 1 < w4.heap.size := u4_2
  have R5 : ownsVecs w5 w2.heap.size 31 (.slice a1 s.robot.length c1) s.robot := by
    have a := Q1.out
    simp only [World.size_setCell] at a
    exact ((a.setLow (by show _ < _; omega) _).below Hc4.out |>.setLow (by show _ < _; omega) _).below Hc5.out
  have O5 : w5.ownsRow w3.heap.size 36 1 (.slice a2 vs.length c2) vs.length vs := by
    have a := Q2.out.1
    simp only [World.size_setCell] at a
    exact ownsRow_below (ownsRow_setCell_below a (by show _ < _; omega) _) Hc5.out
  have V5 : ∀ k, k < s.obst.length → ownsVecs w5 w3.heap.size 31 (vs.getD k undef) (s.obst.getD k []) := fun k hk => by
    have a := Q2.out.2.2.1 k hk
    simp only [World.size_setCell] at a
    exact (a.setLow (by show _ < _; omega) _).below Hc5.out
  have T5 : ownsVecs w5 w4.heap.size 31 (.slice a3 s.tables.length c3) s.tables := by
    have a := Q3.out
    simpa only [World.size_setCell] using a
  have AP : Apart ([.slice a1 s.robot.length c1] ++ (.slice a2 vs.length c2 :: vs) ++ [.slice a3 s.tables.length c3]) := by
    have b1 : ∀ k, (Value.slice a1 s.robot.length c1).ownBlock = some k → w2.heap.size ≤ k ∧ k < w3.heap.size := fun k hk => by
      have a := Q1.out
      simp only [World.size_setCell] at a
      exact World.ownsRow.lt a k hk
    have b2 : ∀ a ∈ (.slice a2 vs.length c2 :: vs), ∀ k, a.ownBlock = some k → w3.heap.size ≤ k ∧ k < w4.heap.size := by
      have a := Q2.out
      simp only [World.size_setCell] at a
      exact ownsVS_blocks a.1 a.2.1 a.2.2.1
    have b3 : ∀ k, (Value.slice a3 s.tables.length c3).ownBlock = some k → w4.heap.size ≤ k := fun k hk => (World.ownsRow.lt T5 k hk).1
    refine Apart_snoc (B := w4.heap.size) (Apart_cons (B := w3.heap.size) Q2.out.2.2.2 (fun a ha k hk => (b2 a ha k hk).1) (fun k hk => (b1 k hk).2)) ?_ b3
    intro a ha k hk
    rcases List.mem_cons.1 ha with rfl | ha
    · have := (b1 k hk).2; omega
    · exact (b2 a ha k hk).2
  have FIN := Lib.hid (And.intro R5 (And.intro O5 (And.intro V5 (And.intro T5 AP))))
  clear R5 O5 V5 T5 AP
  go_wp2
  obtain ⟨q0, q1, q2, q3, q4, q5, q6⟩ := QQ.out
  refine bodyPost_ret (v := .agg #[.int .i64 s.low.1, .int .i64 s.low.2, .int .i64 s.high.1, .int .i64 s.high.2, .slice a1 s.robot.length c1, .slice a2 vs.length c2, .slice a3 s.tables.length c3]) (by simp [results, Try.results16, go_sem, q0, q1, q2, q3, q4, q5, q6]) rfl ⟨_, rfl, ?_, ((((((((B5.setCell (by simp; try omega) _).setCell (by simp; try omega) _).setCell (by simp; try omega) _).setCell (by simp; try omega) _).setCell (by simp; try omega) _).setCell (by simp; try omega) _).setCell (by simp; try omega) _).setCell (by simp; try omega) _)⟩
  obtain ⟨R5, O5, V5, T5, AP⟩ := FIN.out
  refine ⟨_, _, _, vs, rfl, ?_, ?_, ?_, Q2.out.2.1, ?_, AP⟩
  · exact ownsVecs.mono (base := w2.heap.size) (ownsVecs.setLow (ownsVecs.setLow (ownsVecs.setLow (ownsVecs.setLow (ownsVecs.setLow (ownsVecs.setLow (ownsVecs.setLow (ownsVecs.setLow R5 z2 _) u2_1 _) u2_1 _) u2_1 _) u2_1 _) u2_1 _) u2_1 _) u2_1 _) (by omega)
  · exact ownsVecs.mono (base := w4.heap.size) (ownsVecs.setLow (ownsVecs.setLow (ownsVecs.setLow (ownsVecs.setLow (ownsVecs.setLow (ownsVecs.setLow (ownsVecs.setLow (ownsVecs.setLow T5 z4 _) u4_1 _) u4_1 _) u4_1 _) u4_1 _) u4_1 _) u4_1 _) u4_1 _) (by omega)
  · exact ownsRow_mono (base := w3.heap.size) (ownsRow_setCell_below (ownsRow_setCell_below (ownsRow_setCell_below (ownsRow_setCell_below (ownsRow_setCell_below (ownsRow_setCell_below (ownsRow_setCell_below (ownsRow_setCell_below O5 z3 _) u3_1 _) u3_1 _) u3_1 _) u3_1 _) u3_1 _) u3_1 _) u3_1 _) (by omega)
  · intro k hk
    exact ownsVecs.mono (base := w3.heap.size) (ownsVecs.setLow (ownsVecs.setLow (ownsVecs.setLow (ownsVecs.setLow (ownsVecs.setLow (ownsVecs.setLow (ownsVecs.setLow (ownsVecs.setLow (V5 k hk) z3 _) u3_1 _) u3_1 _) u3_1 _) u3_1 _) u3_1 _) u3_1 _) u3_1 _) (by omega)
end Go.Proofs.Ytemgpfojmdncjaa
