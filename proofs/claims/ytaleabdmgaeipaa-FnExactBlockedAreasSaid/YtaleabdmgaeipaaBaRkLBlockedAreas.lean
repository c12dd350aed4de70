import Derived.Test.YtaleabdmgaeipaaBaRkBl
import Derived.Test.YtaleabdmgaeipaaBaTyI
namespace Go.Proofs.Ytaleabdmgaeipaa
set_option linter.unusedVariables false
set_option linter.unusedSimpArgs false
open Go.RowKit
def szVecS_con : Con := { ι := (List (List Dat)) × Int, pre := fun i => Dat.has (.sl 40 [.int, .int]) (.sl i.1) ∧ 0 ≤ i.2 ∧ i.2 ≤ 1048576, args := fun i => [.one (.sl 33 [.int, .int] i.1), .one (.im (.int .i64 i.2))], res := fun i => ⟨false, [none], [.im (Value.int .i64 (szR (i.1.length + szRows i.1) i.2))]⟩ }
set_option maxRecDepth 100000 in
theorem szVecS_ok : szVecS_con.Ok Try.prog 7 := by
  refine fn_ok (X := ⟨tt, [], [], 12⟩) mixed tt_ok (CTok.nil _) Try.func7 (by decide) rfl rfl rfl (fun _ => Nat.le_of_ble_eq_true rfl) (fun _ => Nat.le_of_ble_eq_true rfl) (fun _ => []) ?_
  rintro ⟨l, n⟩ hpre
  have hpre : Dat.has (.sl 40 [.int, .int]) (.sl l) ∧ 0 ≤ n ∧ n ≤ 1048576 := hpre
  refine by_nf (q := ((decide ((IntKind.i64.wrap (n - ((l.length : Nat) : Int))) < (0 : Int))) = true → ((Value.int .i64 (-1 : Int) = Value.int .i64 (szR (l.length + szRows l) n)))) ∧ ((decide ((IntKind.i64.wrap (n - ((l.length : Nat) : Int))) < (0 : Int))) = false → ((Value.int .i64 (IntKind.i64.wrap (n - ((l.length : Nat) : Int))) = Value.int .i64 (szR (l.length + szRows l) n))))) (by kernel_rfl) ?_
  obtain ⟨hh, h0, h1⟩ := hpre
  have hz := has_leaf (by decide) hh
  simp only [Dat.has] at hh
  obtain ⟨hl, -⟩ := hh
  have hw : IntKind.i64.wrap (n - (l.length : Int)) = n - l.length := wrap64 (by omega) (by omega)
  refine ⟨fun c1 => ?_, fun c1 => ?_⟩
  · skip
    try simp only [nrm] at c1
    refine vint ?_; try rw [hw] at *; grind [szR]
  · skip
    try simp only [nrm] at c1
    refine vint ?_; try rw [hw] at *; grind [szR]
def szVecSS_con : Con := { ι := (List (List Dat)) × Int, pre := fun i => Dat.has (.sl 24 [.sl 40 [.int, .int]]) (.sl i.1) ∧ 0 ≤ i.2 ∧ i.2 ≤ 1048576, args := fun i => [.one (.sl 22 [.sl 33 [.int, .int]] i.1), .one (.im (.int .i64 i.2))], res := fun i => ⟨false, [none], [.im (Value.int .i64 (szR (i.1.length + szRows i.1) i.2))]⟩ }
set_option maxRecDepth 100000 in
theorem szVecSS_ok : szVecSS_con.Ok Try.prog 44 := by
  refine fn_ok (X := ⟨tt, [(7, szVecS_con)], [], 27⟩) mixed tt_ok (CTok.cons szVecS_ok (CTok.nil _)) Try.func44 (by decide) rfl rfl rfl (fun _ => Nat.le_of_ble_eq_true rfl) (fun _ => Nat.le_of_ble_eq_true rfl) (fun (i : (List (List Dat)) × Int) => [(5, .mk 2 (Nat × Int) (fun x1 => { tm := [(0, .one (.one (.ext 1))), (4, .one (.one (.im (Value.int .i64 (0 : Int))))), (5, .one (.one (.im (Value.int .i64 (x1.1 : Int))))), (1, .one (.one (.im (Value.int .i64 x1.2))))], en := [(1, .view 22 [.sl 33 [.int, .int]] i.1 [])] }) (fun x1 => x1.1 ≤ i.1.length ∧ 0 ≤ x1.2 ∧ x1.2 + i.1.length + szRows (i.1.take x1.1) = i.2) (fun x1 => i.1.length - x1.1) (fun _ => []))]) ?_
  rintro ⟨l, n⟩ hpre
  have hpre : Dat.has (.sl 24 [.sl 40 [.int, .int]]) (.sl l) ∧ 0 ≤ n ∧ n ≤ 1048576 := hpre
  refine by_nf (q := ((decide ((IntKind.i64.wrap (n - ((l.length : Nat) : Int))) < (0 : Int))) = true → ((Value.int .i64 (-1 : Int) = Value.int .i64 (szR (l.length + szRows l) n)))) ∧ ((decide ((IntKind.i64.wrap (n - ((l.length : Nat) : Int))) < (0 : Int))) = false → ((∃ x1 : Nat × Int, (x1.1 ≤ l.length ∧ 0 ≤ x1.2 ∧ x1.2 + l.length + szRows (l.take x1.1) = n) ∧ ((rf (Value.int .i64 (0 : Int))) ∧ (Value.int .i64 (0 : Int) = Value.int .i64 (x1.1 : Int)) ∧ (Value.int .i64 (IntKind.i64.wrap (n - ((l.length : Nat) : Int))) = Value.int .i64 x1.2) ∧ (rf (l)))) ∧ ∀ x1 : Nat × Int, (x1.1 ≤ l.length ∧ 0 ≤ x1.2 ∧ x1.2 + l.length + szRows (l.take x1.1) = n) → (((decide ((x1.1 : Int) < ((l.length : Nat) : Int))) = true → ((0 ≤ (x1.1 : Int) ∧ (x1.1 : Int) < (l.length : Int)) ∧ ((x1.1 < l.length) ∧ (∃ i1 : (List (List Dat)) × Int, [DA.one (DC.sl 33 [.int, .int] ((((l.getD x1.1 []).getD 0 (.int 0))).r)), DA.one (cI x1.2)] = szVecS_con.args i1 ∧ szVecS_con.pre i1 ∧ (((decide ((szR (i1.1.length + szRows i1.1) i1.2) < (0 : Int))) = true → ((Value.int .i64 (-1 : Int) = Value.int .i64 (szR (l.length + szRows l) n)))) ∧ ((decide ((szR (i1.1.length + szRows i1.1) i1.2) < (0 : Int))) = false → (∃ y2 : Nat × Int, (y2.1 ≤ l.length ∧ 0 ≤ y2.2 ∧ y2.2 + l.length + szRows (l.take y2.1) = n) ∧ (l.length - y2.1 < l.length - x1.1) ∧ ((rf (Value.int .i64 (0 : Int))) ∧ (Value.int .i64 (IntKind.i64.wrap ((x1.1 : Int) + (1 : Int))) = Value.int .i64 (y2.1 : Int)) ∧ (Value.int .i64 (szR (i1.1.length + szRows i1.1) i1.2) = Value.int .i64 y2.2) ∧ (rf (l)))))))))) ∧ ((decide ((x1.1 : Int) < ((l.length : Nat) : Int))) = false → ((Value.int .i64 x1.2 = Value.int .i64 (szR (l.length + szRows l) n)))))))) (by kernel_rfl) ?_
  obtain ⟨hh, h0, h1⟩ := hpre
  have hh2 := has_rows hh
  have hl := has_len hh
  have hw : IntKind.i64.wrap (n - (l.length : Int)) = n - l.length := wrap64 (by omega) (by omega)
  refine ⟨fun c1 => ?_, fun c1 => ?_⟩
  · skip
    try simp only [nrm] at c1
    refine vint ?_; try rw [hw] at *; grind [szR]
  · skip
    try simp only [nrm] at c1
    refine ⟨⟨(0, n - l.length), by
      first | omega | (rw [hw] at c1; simp [szRows]; omega) | (unfold szR at *; grind), ?_⟩, ?_⟩
    · skip
      refine ⟨rfl, rfl, ?_, rfl⟩
      show Value.int .i64 (IntKind.i64.wrap (n - ((l.length : Nat) : Int))) = Value.int .i64 (n - l.length)
      first | rfl | exact vint hw
    rintro ⟨k, m⟩ hki3
    have hki3 : k ≤ l.length ∧ 0 ≤ m ∧ m + l.length + szRows (l.take k) = n := hki3
    have hle := szRows_take_le l k
    refine ⟨fun c9 => ?_, fun c9 => ?_⟩
    · skip
      replace c9 : (decide ((k : Int) < ((l.length : Nat) : Int))) = true := c9
      try simp only [nrm] at c9
      have o10 : 0 ≤ (k : Int) ∧ (k : Int) < (l.length : Int) := by
        first | rfl | omega | (simp; done) | (simp; omega)
      refine ⟨o10, ?_⟩
      have o11 : k < l.length := by
        first | rfl | omega | (simp; done) | (simp; omega)
      refine ⟨o11, ?_⟩
      refine ⟨(((l.getD k []).getD 0 (.int 0)).r, m), by
        rfl, by
        show Dat.has (.sl 40 [.int, .int]) (.sl (((l.getD k []).getD 0 (.int 0)).r)) ∧ 0 ≤ m ∧ m ≤ 1048576
        refine ⟨?_, by omega, by omega⟩
        have := hh2 k (by omega)
        rw [← one_row this] at this
        first | exact this | exact this.1, ?_⟩
      have hle := szRows_take_le l (k + 1)
      have hts := szRows_take l k (by omega)
      have hrow := hh2 k (by omega)
      rw [← one_row hrow] at hts
      have hts : szRows (l.take (k + 1)) = szRows (l.take k) + ((((l.getD k []).getD 0 (.int 0)).r).length + szRows (((l.getD k []).getD 0 (.int 0)).r)) := by first | exact hts | simpa only [szRow, Dat.sz, Nat.add_zero] using hts
      refine ⟨fun c15 => ?_, fun c15 => ?_⟩
      · skip
        replace c15 : (decide ((szR ((((l.getD k []).getD 0 (.int 0)).r).length + szRows (((l.getD k []).getD 0 (.int 0)).r)) m) < (0 : Int))) = true := c15
        try simp only [nrm] at c15
        refine vint ?_; try rw [hw] at *; grind [szR]
      · skip
        replace c15 : (decide ((szR ((((l.getD k []).getD 0 (.int 0)).r).length + szRows (((l.getD k []).getD 0 (.int 0)).r)) m) < (0 : Int))) = false := c15
        try simp only [nrm] at c15
        refine ⟨(k + 1, szR ((((l.getD k []).getD 0 (.int 0)).r).length + szRows (((l.getD k []).getD 0 (.int 0)).r)) m), by
          first | omega | (rw [hw] at c1; simp [szRows]; omega) | (unfold szR at *; grind), by
          first | omega | (simp; omega), ?_⟩
        refine ⟨rfl, ?_, rfl, rfl⟩
        show Value.int .i64 (IntKind.i64.wrap ((k : Int) + (1 : Int))) = Value.int .i64 ((k + 1) : Int)
        first | rfl | exact vint (wrap64 (by omega) (by omega))
    · skip
      replace c9 : (decide ((k : Int) < ((l.length : Nat) : Int))) = false := c9
      try simp only [nrm] at c9
      obtain rfl : k = l.length := by omega
      rw [List.take_length] at hki3
      show Value.int .i64 m = Value.int .i64 (szR (l.length + szRows l) n)
      refine vint ?_; try rw [hw] at *; grind [szR]
def szScene_con : Con := { ι := Scn × Int, pre := fun i => hasRow [.int, .int, .int, .int, .sl 40 [.int, .int], .sl 24 [.sl 40 [.int, .int]], .sl 40 [.int, .int]] [.int i.1.low.1, .int i.1.low.2, .int i.1.high.1, .int i.1.high.2, .sl (vecsD i.1.robot), .sl (areasD i.1.obst), .sl (vecsD i.1.tables)] ∧ 0 ≤ i.2 ∧ i.2 ≤ 1048576, args := fun i => [.agg [.im (.int .i64 i.1.low.1), .im (.int .i64 i.1.low.2), .im (.int .i64 i.1.high.1), .im (.int .i64 i.1.high.2), .sl 33 [.int, .int] (vecsD i.1.robot), .sl 22 [.sl 33 [.int, .int]] (areasD i.1.obst), .sl 33 [.int, .int] (vecsD i.1.tables)], .one (.im (.int .i64 i.2))], res := fun i => ⟨false, [none], [.im (Value.int .i64 (szR (szRow [.int i.1.low.1, .int i.1.low.2, .int i.1.high.1, .int i.1.high.2, .sl (vecsD i.1.robot), .sl (areasD i.1.obst), .sl (vecsD i.1.tables)]) i.2))]⟩ }
set_option maxRecDepth 100000 in
theorem szScene_ok : szScene_con.Ok Try.prog 18 := by
  refine fn_ok (X := ⟨tt, [(7, szVecS_con), (44, szVecSS_con)], [], 24⟩) mixed tt_ok (CTok.cons szVecS_ok (CTok.cons szVecSS_ok (CTok.nil _))) Try.func18 (by decide) rfl rfl rfl (fun _ => Nat.le_of_ble_eq_true rfl) (fun _ => Nat.le_of_ble_eq_true rfl) (fun _ => []) ?_
  rintro ⟨s, n⟩ hpre
  have hpre : hasRow [.int, .int, .int, .int, .sl 40 [.int, .int], .sl 24 [.sl 40 [.int, .int]], .sl 40 [.int, .int]] [.int s.low.1, .int s.low.2, .int s.high.1, .int s.high.2, .sl (vecsD s.robot), .sl (areasD s.obst), .sl (vecsD s.tables)] ∧ 0 ≤ n ∧ n ≤ 1048576 := hpre
  refine by_nf (q := ∃ i1 : (List (List Dat)) × Int, [DA.one (DC.sl 33 [.int, .int] (vecsD s.robot)), DA.one (cI n)] = szVecS_con.args i1 ∧ szVecS_con.pre i1 ∧ (((decide ((szR (i1.1.length + szRows i1.1) i1.2) < (0 : Int))) = true → ((Value.int .i64 (-1 : Int) = Value.int .i64 (szR (szRow [.int s.low.1, .int s.low.2, .int s.high.1, .int s.high.2, .sl (vecsD s.robot), .sl (areasD s.obst), .sl (vecsD s.tables)]) n)))) ∧ ((decide ((szR (i1.1.length + szRows i1.1) i1.2) < (0 : Int))) = false → (∃ i2 : (List (List Dat)) × Int, [DA.one (DC.sl 22 [.sl 33 [.int, .int]] (areasD s.obst)), DA.one (cI (szR (i1.1.length + szRows i1.1) i1.2))] = szVecSS_con.args i2 ∧ szVecSS_con.pre i2 ∧ (((decide ((szR (i2.1.length + szRows i2.1) i2.2) < (0 : Int))) = true → ((Value.int .i64 (-1 : Int) = Value.int .i64 (szR (szRow [.int s.low.1, .int s.low.2, .int s.high.1, .int s.high.2, .sl (vecsD s.robot), .sl (areasD s.obst), .sl (vecsD s.tables)]) n)))) ∧ ((decide ((szR (i2.1.length + szRows i2.1) i2.2) < (0 : Int))) = false → (∃ i3 : (List (List Dat)) × Int, [DA.one (DC.sl 33 [.int, .int] (vecsD s.tables)), DA.one (cI (szR (i2.1.length + szRows i2.1) i2.2))] = szVecS_con.args i3 ∧ szVecS_con.pre i3 ∧ (((decide ((szR (i3.1.length + szRows i3.1) i3.2) < (0 : Int))) = true → ((Value.int .i64 (-1 : Int) = Value.int .i64 (szR (szRow [.int s.low.1, .int s.low.2, .int s.high.1, .int s.high.2, .sl (vecsD s.robot), .sl (areasD s.obst), .sl (vecsD s.tables)]) n)))) ∧ ((decide ((szR (i3.1.length + szRows i3.1) i3.2) < (0 : Int))) = false → ((Value.int .i64 (szR (i3.1.length + szRows i3.1) i3.2) = Value.int .i64 (szR (szRow [.int s.low.1, .int s.low.2, .int s.high.1, .int s.high.2, .sl (vecsD s.robot), .sl (areasD s.obst), .sl (vecsD s.tables)]) n)))))))))))) (by kernel_rfl) ?_
  obtain ⟨hh, h0, h1⟩ := hpre
  simp only [hasRow] at hh
  refine ⟨((vecsD s.robot), n), by
    rfl, by
    show Dat.has (.sl 40 [.int, .int]) (.sl (vecsD s.robot)) ∧ 0 ≤ n ∧ n ≤ 1048576
    refine ⟨?_, ?_, ?_⟩ <;> first | (simp only [hasRow]; simp only [hh, and_self]; done) | exact hh.1 | exact hh.2.1 | exact hh.2.2.1 | exact hh.2.2.2.1 | exact hh.2.2.2.2.1 | exact hh.2.2.2.2.2.1 | exact hh.2.2.2.2.2.2.1 | omega | (unfold szR; grind) | (simp [hh]; done), ?_⟩
  refine ⟨fun c4 => ?_, fun c4 => ?_⟩
  · skip
    replace c4 : (decide ((szR ((vecsD s.robot).length + szRows (vecsD s.robot)) n) < (0 : Int))) = true := c4
    try simp only [nrm] at c4
    show Value.int .i64 (-1 : Int) = Value.int .i64 (szR (szRow [.int s.low.1, .int s.low.2, .int s.high.1, .int s.high.2, .sl (vecsD s.robot), .sl (areasD s.obst), .sl (vecsD s.tables)]) n)
    first | rfl | (refine vint ?_; try simp only [szRow, Dat.sz, Nat.add_zero, Nat.zero_add] at *; all_goals grind [szR])
  · skip
    replace c4 : (decide ((szR ((vecsD s.robot).length + szRows (vecsD s.robot)) n) < (0 : Int))) = false := c4
    try simp only [nrm] at c4
    refine ⟨((areasD s.obst), (szR ((vecsD s.robot).length + szRows (vecsD s.robot)) n)), by
      rfl, by
      show Dat.has (.sl 24 [.sl 40 [.int, .int]]) (.sl (areasD s.obst)) ∧ 0 ≤ (szR ((vecsD s.robot).length + szRows (vecsD s.robot)) n) ∧ (szR ((vecsD s.robot).length + szRows (vecsD s.robot)) n) ≤ 1048576
      refine ⟨?_, ?_, ?_⟩ <;> first | (simp only [hasRow]; simp only [hh, and_self]; done) | exact hh.1 | exact hh.2.1 | exact hh.2.2.1 | exact hh.2.2.2.1 | exact hh.2.2.2.2.1 | exact hh.2.2.2.2.2.1 | exact hh.2.2.2.2.2.2.1 | omega | (unfold szR; grind) | (simp [hh]; done), ?_⟩
    refine ⟨fun c9 => ?_, fun c9 => ?_⟩
    · skip
      replace c9 : (decide ((szR ((areasD s.obst).length + szRows (areasD s.obst)) (szR ((vecsD s.robot).length + szRows (vecsD s.robot)) n)) < (0 : Int))) = true := c9
      try simp only [nrm] at c9
      show Value.int .i64 (-1 : Int) = Value.int .i64 (szR (szRow [.int s.low.1, .int s.low.2, .int s.high.1, .int s.high.2, .sl (vecsD s.robot), .sl (areasD s.obst), .sl (vecsD s.tables)]) n)
      first | rfl | (refine vint ?_; try simp only [szRow, Dat.sz, Nat.add_zero, Nat.zero_add] at *; all_goals grind [szR])
    · skip
      replace c9 : (decide ((szR ((areasD s.obst).length + szRows (areasD s.obst)) (szR ((vecsD s.robot).length + szRows (vecsD s.robot)) n)) < (0 : Int))) = false := c9
      try simp only [nrm] at c9
      refine ⟨((vecsD s.tables), (szR ((areasD s.obst).length + szRows (areasD s.obst)) (szR ((vecsD s.robot).length + szRows (vecsD s.robot)) n))), by
        rfl, by
        show Dat.has (.sl 40 [.int, .int]) (.sl (vecsD s.tables)) ∧ 0 ≤ (szR ((areasD s.obst).length + szRows (areasD s.obst)) (szR ((vecsD s.robot).length + szRows (vecsD s.robot)) n)) ∧ (szR ((areasD s.obst).length + szRows (areasD s.obst)) (szR ((vecsD s.robot).length + szRows (vecsD s.robot)) n)) ≤ 1048576
        refine ⟨?_, ?_, ?_⟩ <;> first | (simp only [hasRow]; simp only [hh, and_self]; done) | exact hh.1 | exact hh.2.1 | exact hh.2.2.1 | exact hh.2.2.2.1 | exact hh.2.2.2.2.1 | exact hh.2.2.2.2.2.1 | exact hh.2.2.2.2.2.2.1 | omega | (unfold szR; grind) | (simp [hh]; done), ?_⟩
      refine ⟨fun c14 => ?_, fun c14 => ?_⟩
      · skip
        replace c14 : (decide ((szR ((vecsD s.tables).length + szRows (vecsD s.tables)) (szR ((areasD s.obst).length + szRows (areasD s.obst)) (szR ((vecsD s.robot).length + szRows (vecsD s.robot)) n))) < (0 : Int))) = true := c14
        try simp only [nrm] at c14
        show Value.int .i64 (-1 : Int) = Value.int .i64 (szR (szRow [.int s.low.1, .int s.low.2, .int s.high.1, .int s.high.2, .sl (vecsD s.robot), .sl (areasD s.obst), .sl (vecsD s.tables)]) n)
        first | rfl | (refine vint ?_; try simp only [szRow, Dat.sz, Nat.add_zero, Nat.zero_add] at *; all_goals grind [szR])
      · skip
        replace c14 : (decide ((szR ((vecsD s.tables).length + szRows (vecsD s.tables)) (szR ((areasD s.obst).length + szRows (areasD s.obst)) (szR ((vecsD s.robot).length + szRows (vecsD s.robot)) n))) < (0 : Int))) = false := c14
        try simp only [nrm] at c14
        show Value.int .i64 (szR ((vecsD s.tables).length + szRows (vecsD s.tables)) (szR ((areasD s.obst).length + szRows (areasD s.obst)) (szR ((vecsD s.robot).length + szRows (vecsD s.robot)) n))) = Value.int .i64 (szR (szRow [.int s.low.1, .int s.low.2, .int s.high.1, .int s.high.2, .sl (vecsD s.robot), .sl (areasD s.obst), .sl (vecsD s.tables)]) n)
        first | rfl | (refine vint ?_; try simp only [szRow, Dat.sz, Nat.add_zero, Nat.zero_add] at *; all_goals grind [szR])
def eqScene_con : Con := { ι := Scn, pre := fun i => True, args := fun i => [.agg [.im (.int .i64 i.low.1), .im (.int .i64 i.low.2), .im (.int .i64 i.high.1), .im (.int .i64 i.high.2), .sl 40 [.int, .int] (vecsD i.robot), .sl 24 [.sl 40 [.int, .int]] (areasD i.obst), .sl 40 [.int, .int] (vecsD i.tables)], .agg [.im (.int .i64 i.low.1), .im (.int .i64 i.low.2), .im (.int .i64 i.high.1), .im (.int .i64 i.high.2), .sl 40 [.int, .int] (vecsD i.robot), .sl 24 [.sl 40 [.int, .int]] (areasD i.obst), .sl 40 [.int, .int] (vecsD i.tables)]], res := fun i => ⟨false, [none], [.im (Value.bool true)]⟩ }
theorem eqScene_ok : eqScene_con.Ok Try.prog 23 := eqA_ok [.int, .int, .int, .int, .sl 40 [.int, .int], .sl 24 [.sl 40 [.int, .int]], .sl 40 [.int, .int]] ⟨_, Try.func23, by decide, rfl⟩ (fun _ => rfl) (fun _ => rfl) (fun ds vs us w => eqScene_c ds vs us w)
def toScene_con : Con := { ι := Scn, pre := fun i => szRow [.int i.low.1, .int i.low.2, .int i.high.1, .int i.high.2, .sl (vecsD i.robot), .sl (areasD i.obst), .sl (vecsD i.tables)] ≤ 1048576, args := fun i => [.agg [.im (.int .i64 i.low.1), .im (.int .i64 i.low.2), .im (.int .i64 i.high.1), .im (.int .i64 i.high.2), .sl 33 [.int, .int] (vecsD i.robot), .sl 22 [.sl 33 [.int, .int]] (areasD i.obst), .sl 33 [.int, .int] (vecsD i.tables)]], res := fun i => ⟨false, [some 7], [.im (Value.int .i64 i.low.1), .im (Value.int .i64 i.low.2), .im (Value.int .i64 i.high.1), .im (Value.int .i64 i.high.2), .own 40 [.int, .int] (vecsD i.robot), .own 24 [.sl 40 [.int, .int]] (areasD i.obst), .own 40 [.int, .int] (vecsD i.tables)]⟩ }
theorem toScene_ok : toScene_con.Ok Try.prog 20 := toA_ok (out := fun s => [.im (.int .i64 s.low.1), .im (.int .i64 s.low.2), .im (.int .i64 s.high.1), .im (.int .i64 s.high.2), .sl 40 [.int, .int] (vecsD s.robot), .sl 24 [.sl 40 [.int, .int]] (areasD s.obst), .sl 40 [.int, .int] (vecsD s.tables)]) [.int, .int, .int, .int, .sl 40 [.int, .int], .sl 24 [.sl 40 [.int, .int]], .sl 40 [.int, .int]] ⟨_, Try.func20, by decide, rfl⟩ (fun _ => rfl) (fun _ => rfl) (fun _ => rfl) (fun _ => rfl) (fun _ => rfl) (fun _ => rfl) (fun _ => rfl) (fun _ => Nat.le_of_ble_eq_true rfl) (fun _ h => h) (fun ds h vs w => toScene_c ds h vs w)
def markScene_con : Con := { ι := Scn × Int, pre := fun i => 0 ≤ i.2 ∧ i.2 + (cntV [.int i.1.low.1, .int i.1.low.2, .int i.1.high.1, .int i.1.high.2, .sl (vecsD i.1.robot), .sl (areasD i.1.obst), .sl (vecsD i.1.tables)] : Int) ≤ 4611686018427387904, args := fun i => [.agg [.im (.int .i64 i.1.low.1), .im (.int .i64 i.1.low.2), .im (.int .i64 i.1.high.1), .im (.int .i64 i.1.high.2), .sl 40 [.int, .int] (vecsD i.1.robot), .sl 24 [.sl 40 [.int, .int]] (areasD i.1.obst), .sl 40 [.int, .int] (vecsD i.1.tables)], .one (.im (.int .i64 i.2))], mu := [4, 5, 6], new := fun i => [mkRows (i.2 + ((0 : Nat) : Int) + ((0 : Nat) : Int) + ((0 : Nat) : Int) + ((0 : Nat) : Int)) (vecsD i.1.robot), mkRows (i.2 + ((0 : Nat) : Int) + ((0 : Nat) : Int) + ((0 : Nat) : Int) + ((0 : Nat) : Int) + (cntRows (vecsD i.1.robot) : Int)) (areasD i.1.obst), mkRows (i.2 + ((0 : Nat) : Int) + ((0 : Nat) : Int) + ((0 : Nat) : Int) + ((0 : Nat) : Int) + (cntRows (vecsD i.1.robot) : Int) + (cntRows (areasD i.1.obst) : Int)) (vecsD i.1.tables)], res := fun i => ⟨false, [none], [.im (Value.int .i64 (i.2 + (cntV [.int i.1.low.1, .int i.1.low.2, .int i.1.high.1, .int i.1.high.2, .sl (vecsD i.1.robot), .sl (areasD i.1.obst), .sl (vecsD i.1.tables)] : Int)))]⟩ }
theorem markScene_ok : markScene_con.Ok Try.prog 24 := markA_ok [.int, .int, .int, .int, .sl 40 [.int, .int], .sl 24 [.sl 40 [.int, .int]], .sl 40 [.int, .int]] ⟨_, Try.func24, by decide, rfl⟩ (fun _ => rfl) (fun _ => rfl) rfl (fun _ => rfl) (fun _ => rfl) (fun _ => rfl) (fun _ h => h) (fun ds k h0 h1 bs hn vs w => markScene_c ds k h0 h1 bs hn vs w)
def eqVecSS_con : Con := { ι := (List (List Dat)), pre := fun i => True, args := fun i => [.one (.sl 24 [.sl 40 [.int, .int]] i), .one (.sl 24 [.sl 40 [.int, .int]] i)], res := fun i => ⟨false, [none], [.im (Value.bool true)]⟩ }
theorem eqVecSS_ok : eqVecSS_con.Ok Try.prog 22 := eqO_ok (.sl 24 [.sl 40 [.int, .int]]) ⟨_, Try.func22, by decide, rfl⟩ (fun _ => rfl) (fun _ => rfl) (fun d v u w h h' => by obtain ⟨l, _, _, rfl, _⟩ := Rd.sl_inv h; exact eqVecSS_c l v u w h h')
def markVecSS_con : Con := { ι := (List (List Dat)) × Int, pre := fun i => 0 ≤ i.2 ∧ i.2 + (cntRows i.1 : Int) ≤ 4611686018427387904, args := fun i => [.one (.sl 24 [.sl 40 [.int, .int]] i.1), .one (.im (.int .i64 i.2))], mu := [0], new := fun i => [mkRows i.2 i.1], res := fun i => ⟨false, [none], [.im (Value.int .i64 (i.2 + (cntRows i.1 : Int)))]⟩ }
theorem markVecSS_ok : markVecSS_con.Ok Try.prog 25 := markO_ok 24 [.sl 40 [.int, .int]] ⟨_, Try.func25, by decide, rfl⟩ (fun _ => rfl) (fun _ h => h) (fun ls k h0 h1 bs hn v w => markVecSS_c ls k h0 h1 bs hn v w)
def heldVecSS_con : Con := { ι := (List (List Dat)) × Int, pre := fun i => 0 ≤ i.2 ∧ i.2 + (cntRows i.1 : Int) ≤ 4611686018427387904 ∧ Dat.has (.sl 24 [.sl 40 [.int, .int]]) (.sl i.1), args := fun i => [.one (.sl 24 [.sl 40 [.int, .int]] (mkRows i.2 i.1)), .one (.im (.int .i64 i.2))], res := fun i => ⟨false, [none], [.im (Value.int .i64 (i.2 + (cntRows i.1 : Int)))]⟩ }
theorem heldVecSS_ok : heldVecSS_con.Ok Try.prog 26 := heldO_ok (.sl 24 [.sl 40 [.int, .int]]) ⟨_, Try.func26, by decide, rfl⟩ (fun _ => rfl) (fun _ => rfl) (fun i => i.1) (fun _ => rfl) (fun _ => rfl) (fun _ h => h) (fun ls k h0 h1 w0 v0 hr v w h => heldVecSS_c ls k h0 h1 w0 v0 hr v w h)
theorem hul_len (s : List V2) (h : s.all isVec = true) : (hulL s).length ≤ 2 * s.length := by
  unfold hulL
  split
  · omega
  · have h1 := (chain_vec h).2
    have h2 := (chain_vec (rev_all h)).2
    rw [List.length_reverse] at h2
    rw [List.length_append]; omega
theorem hullV_len (l : List V2) : (hullV l).length ≤ 128 := by
  unfold hullV
  split
  · next h =>
    have h1 := hul_len _ (srtU_vec h.2 (Nat.le_refl l.length))
    have h2 := srtU_len l l.length
    omega
  · simp
theorem areas_has {l : List (List V2)} (h : l.length ≤ 1000) (h2 : ∀ x ∈ l, x.length ≤ 1000) : Dat.has (.sl 24 [.sl 40 [.int, .int]]) (.sl (areasD l)) := by
  refine ⟨by rw [areasD_length]; omega, fun k hk => ?_⟩
  rw [areasD_length] at hk
  have e : (areasD l).getD k [] = [.sl (vecsD (l.getD k []))] := by simp [areasD, List.getD, hk]
  rw [e]
  have hx := h2 (l.getD k []) (by simp [List.getD, hk])
  exact ⟨vecsD_has (by omega), by simp [hasRow]⟩
theorem areas_sz : ∀ (l : List (List V2)) (m : Nat), (∀ x ∈ l, x.length ≤ m) → szRows (areasD l) ≤ l.length * m
  | [], m, _ => by simp [areasD, szRows]
  | x :: l, m, h => by
    have ih := areas_sz l m fun y hy => h y (List.mem_cons_of_mem _ hy)
    have h0 := h x (List.mem_cons_self ..)
    simp only [areasD, List.map_cons, szRows, szRow, Dat.sz, vecsD_length, szRows_vecs, List.length_cons, Nat.add_mul, Nat.one_mul] at ih ⊢
    omega
theorem blk_few (s : Scn) (h : Int) : (blk s h).length ≤ 4 ∧ ∀ x ∈ blk s h, x.length ≤ 128 := by
  unfold blk
  split
  · exact ⟨by simp, fun x hx => by simp at hx⟩
  · next hne =>
    have hv : validScn s = true := by
      cases hv : validScn s with
      | true => rfl
      | false => exact absurd (by rw [robotAt_no (.inl hv)]; rfl) hne
    have ho : s.obst.length ≤ 4 := by
      simp only [validScn, Bool.and_eq_true, decide_eq_true_eq] at hv
      exact hv.2.1.1.2
    refine ⟨by unfold blkT; rw [List.length_map, List.length_take]; omega, fun x hx => ?_⟩
    unfold blkT at hx
    rw [List.mem_map] at hx
    obtain ⟨y, _, rfl⟩ := hx
    unfold obsV sumV
    split
    · exact hullV_len _
    · simp
theorem blk_has (s : Scn) (h : Int) : Dat.has (.sl 24 [.sl 40 [.int, .int]]) (.sl (areasD (blk s h))) ∧ (cntRows (areasD (blk s h)) : Int) ≤ 2000000000 := by
  have hf := blk_few s h
  have h1 := areas_has (l := blk s h) (by omega) (fun x hx => by have := hf.2 x hx; omega)
  refine ⟨h1, cntRows_small h1 ?_ (by simp [KRow, Ty.K])⟩
  have := areas_sz (blk s h) 128 hf.2
  rw [areasD_length]
  omega
def lawBlockedAreas_con : Con := { ι := Scn × Int, pre := fun i => hasRow [.int, .int, .int, .int, .sl 40 [.int, .int], .sl 24 [.sl 40 [.int, .int]], .sl 40 [.int, .int]] (scnD i.1), args := fun i => [.agg [.im (.int .i64 i.1.low.1), .im (.int .i64 i.1.low.2), .im (.int .i64 i.1.high.1), .im (.int .i64 i.1.high.2), .sl 33 [.int, .int] (vecsD i.1.robot), .sl 22 [.sl 33 [.int, .int]] (areasD i.1.obst), .sl 33 [.int, .int] (vecsD i.1.tables)], .one (.im (.int .i64 i.2))], res := fun i => ⟨false, [none], [.im (Value.bool true)]⟩ }
set_option maxRecDepth 100000 in
set_option maxHeartbeats 4000000 in
theorem lawBlockedAreas_ok : lawBlockedAreas_con.Ok Try.prog 6 := by
  refine fn_ok (X := ⟨tt, [(18, szScene_con), (20, toScene_con), (19, sBlk_con), (21, iBlk_con), (22, eqVecSS_con), (23, eqScene_con), (24, markScene_con), (25, markVecSS_con), (26, heldVecSS_con)], [], 74⟩) mixed tt_ok (CTok.cons szScene_ok (CTok.cons toScene_ok (CTok.cons sBlk_ok (CTok.cons iBlk_ok (CTok.cons eqVecSS_ok (CTok.cons eqScene_ok (CTok.cons markScene_ok (CTok.cons markVecSS_ok (CTok.cons heldVecSS_ok (CTok.nil _)))))))))) Try.func6 (by decide) rfl rfl rfl (fun _ => Nat.le_of_ble_eq_true rfl) (fun _ => Nat.le_of_ble_eq_true rfl) (fun _ => []) ?_
  rintro ⟨s, h⟩ hpre
  have hpre : hasRow [.int, .int, .int, .int, .sl 40 [.int, .int], .sl 24 [.sl 40 [.int, .int]], .sl 40 [.int, .int]] (scnD s) := hpre
  refine by_nf (q := ∃ i1 : Scn × Int, [DA.agg [cI s.low.1, cI s.low.2, cI s.high.1, cI s.high.2, DC.sl 33 [.int, .int] (vecsD s.robot), DC.sl 22 [.sl 33 [.int, .int]] (areasD s.obst), DC.sl 33 [.int, .int] (vecsD s.tables)], DA.one (cI (1048576 : Int))] = szScene_con.args i1 ∧ szScene_con.pre i1 ∧ (((decide ((szR (szRow [.int i1.1.low.1, .int i1.1.low.2, .int i1.1.high.1, .int i1.1.high.2, .sl (vecsD i1.1.robot), .sl (areasD i1.1.obst), .sl (vecsD i1.1.tables)]) i1.2) < (0 : Int))) = true → ((Value.bool true = Value.bool true))) ∧ ((decide ((szR (szRow [.int i1.1.low.1, .int i1.1.low.2, .int i1.1.high.1, .int i1.1.high.2, .sl (vecsD i1.1.robot), .sl (areasD i1.1.obst), .sl (vecsD i1.1.tables)]) i1.2) < (0 : Int))) = false → (∃ i2 : Scn, [DA.agg [cI s.low.1, cI s.low.2, cI s.high.1, cI s.high.2, DC.sl 33 [.int, .int] (vecsD s.robot), DC.sl 22 [.sl 33 [.int, .int]] (areasD s.obst), DC.sl 33 [.int, .int] (vecsD s.tables)]] = toScene_con.args i2 ∧ toScene_con.pre i2 ∧ (∃ i3 : Scn × Int, [DA.agg [cI i2.low.1, cI i2.low.2, cI i2.high.1, cI i2.high.2, DC.sl 40 [.int, .int] (vecsD i2.robot), DC.sl 24 [.sl 40 [.int, .int]] (areasD i2.obst), DC.sl 40 [.int, .int] (vecsD i2.tables)], DA.one (cI h)] = sBlk_con.args i3 ∧ sBlk_con.pre i3 ∧ (∃ i4 : Scn, [DA.agg [cI s.low.1, cI s.low.2, cI s.high.1, cI s.high.2, DC.sl 33 [.int, .int] (vecsD s.robot), DC.sl 22 [.sl 33 [.int, .int]] (areasD s.obst), DC.sl 33 [.int, .int] (vecsD s.tables)]] = toScene_con.args i4 ∧ toScene_con.pre i4 ∧ (∃ i5 : Scn × Int, [DA.agg [cI i4.low.1, cI i4.low.2, cI i4.high.1, cI i4.high.2, DC.sl 40 [.int, .int] (vecsD i4.robot), DC.sl 24 [.sl 40 [.int, .int]] (areasD i4.obst), DC.sl 40 [.int, .int] (vecsD i4.tables)], DA.one (cI h)] = iBlk_con.args i5 ∧ iBlk_con.pre i5 ∧ (∃ i6 : (List (List Dat)), [DA.one (DC.sl 24 [.sl 40 [.int, .int]] (areasD (blk i5.1 i5.2))), DA.one (DC.sl 24 [.sl 40 [.int, .int]] (areasD (blk i3.1 i3.2)))] = eqVecSS_con.args i6 ∧ eqVecSS_con.pre i6 ∧ (((!true) = true → ((Value.bool false = Value.bool true))) ∧ ((!true) = false → (∃ i7 : Scn, [DA.agg [cI s.low.1, cI s.low.2, cI s.high.1, cI s.high.2, DC.sl 33 [.int, .int] (vecsD s.robot), DC.sl 22 [.sl 33 [.int, .int]] (areasD s.obst), DC.sl 33 [.int, .int] (vecsD s.tables)]] = toScene_con.args i7 ∧ toScene_con.pre i7 ∧ (∃ i8 : Scn, [DA.agg [cI i4.low.1, cI i4.low.2, cI i4.high.1, cI i4.high.2, DC.sl 40 [.int, .int] (vecsD i4.robot), DC.sl 24 [.sl 40 [.int, .int]] (areasD i4.obst), DC.sl 40 [.int, .int] (vecsD i4.tables)], DA.agg [cI i7.low.1, cI i7.low.2, cI i7.high.1, cI i7.high.2, DC.sl 40 [.int, .int] (vecsD i7.robot), DC.sl 24 [.sl 40 [.int, .int]] (areasD i7.obst), DC.sl 40 [.int, .int] (vecsD i7.tables)]] = eqScene_con.args i8 ∧ eqScene_con.pre i8 ∧ (((!true) = true → ((Value.bool false = Value.bool true))) ∧ ((!true) = false → (∃ i9 : Scn × Int, [DA.agg [cI i4.low.1, cI i4.low.2, cI i4.high.1, cI i4.high.2, DC.sl 40 [.int, .int] (vecsD i4.robot), DC.sl 24 [.sl 40 [.int, .int]] (areasD i4.obst), DC.sl 40 [.int, .int] (vecsD i4.tables)], DA.one (cI (1 : Int))] = markScene_con.args i9 ∧ markScene_con.pre i9 ∧ (((!(decide ((i9.2 + (cntV [.int i9.1.low.1, .int i9.1.low.2, .int i9.1.high.1, .int i9.1.high.2, .sl (vecsD i9.1.robot), .sl (areasD i9.1.obst), .sl (vecsD i9.1.tables)] : Int)) < (0 : Int)))) = true → (∃ i10 : (List (List Dat)), [DA.one (DC.sl 24 [.sl 40 [.int, .int]] (areasD (blk i5.1 i5.2))), DA.one (DC.sl 24 [.sl 40 [.int, .int]] (areasD (blk i3.1 i3.2)))] = eqVecSS_con.args i10 ∧ eqVecSS_con.pre i10 ∧ (((!true) = true → ((Value.bool false = Value.bool true))) ∧ ((!true) = false → (∃ i11 : (List (List Dat)) × Int, [DA.one (DC.sl 24 [.sl 40 [.int, .int]] (areasD (blk i5.1 i5.2))), DA.one (cI (1 : Int))] = markVecSS_con.args i11 ∧ markVecSS_con.pre i11 ∧ (∃ i12 : (List (List Dat)) × Int, [DA.one (DC.sl 24 [.sl 40 [.int, .int]] (mkRows i11.2 i11.1)), DA.one (cI (1 : Int))] = heldVecSS_con.args i12 ∧ heldVecSS_con.pre i12 ∧ (((decide ((i12.2 + (cntRows i12.1 : Int)) < (0 : Int))) = true → ((Value.bool false = Value.bool true))) ∧ ((decide ((i12.2 + (cntRows i12.1 : Int)) < (0 : Int))) = false → ((((i12.2 + (cntRows i12.1 : Int)) != (i11.2 + (cntRows i11.1 : Int))) = true → ((Value.bool false = Value.bool true))) ∧ (((i12.2 + (cntRows i12.1 : Int)) != (i11.2 + (cntRows i11.1 : Int))) = false → (∃ i13 : Scn, [DA.agg [cI s.low.1, cI s.low.2, cI s.high.1, cI s.high.2, DC.sl 33 [.int, .int] (vecsD s.robot), DC.sl 22 [.sl 33 [.int, .int]] (areasD s.obst), DC.sl 33 [.int, .int] (vecsD s.tables)]] = toScene_con.args i13 ∧ toScene_con.pre i13 ∧ (∃ i14 : Scn × Int, [DA.agg [cI i13.low.1, cI i13.low.2, cI i13.high.1, cI i13.high.2, DC.sl 40 [.int, .int] (vecsD i13.robot), DC.sl 24 [.sl 40 [.int, .int]] (areasD i13.obst), DC.sl 40 [.int, .int] (vecsD i13.tables)], DA.one (cI h)] = iBlk_con.args i14 ∧ iBlk_con.pre i14 ∧ (∃ i15 : (List (List Dat)), [DA.one (DC.sl 24 [.sl 40 [.int, .int]] (areasD (blk i14.1 i14.2))), DA.one (DC.sl 24 [.sl 40 [.int, .int]] (areasD (blk i3.1 i3.2)))] = eqVecSS_con.args i15 ∧ eqVecSS_con.pre i15 ∧ (((!true) = true → ((Value.bool false = Value.bool true))) ∧ ((!true) = false → (∃ i16 : (List (List Dat)) × Int, [DA.one (DC.sl 24 [.sl 40 [.int, .int]] (mkRows i11.2 i11.1)), DA.one (cI (1 : Int))] = heldVecSS_con.args i16 ∧ heldVecSS_con.pre i16 ∧ (((decide ((i16.2 + (cntRows i16.1 : Int)) < (0 : Int))) = true → ((Value.bool false = Value.bool true))) ∧ ((decide ((i16.2 + (cntRows i16.1 : Int)) < (0 : Int))) = false → ((((i16.2 + (cntRows i16.1 : Int)) != (i11.2 + (cntRows i11.1 : Int))) = true → ((Value.bool false = Value.bool true))) ∧ (((i16.2 + (cntRows i16.1 : Int)) != (i11.2 + (cntRows i11.1 : Int))) = false → ((Value.bool true = Value.bool true)))))))))))))))))))))) ∧ ((!(decide ((i9.2 + (cntV [.int i9.1.low.1, .int i9.1.low.2, .int i9.1.high.1, .int i9.1.high.2, .sl (vecsD i9.1.robot), .sl (areasD i9.1.obst), .sl (vecsD i9.1.tables)] : Int)) < (0 : Int)))) = false → ((Value.bool false = Value.bool true))))))))))))))))))) (by kernel_rfl) ?_
  refine ⟨(s, (1048576 : Int)), by
    rfl, by
    show hasRow [.int, .int, .int, .int, .sl 40 [.int, .int], .sl 24 [.sl 40 [.int, .int]], .sl 40 [.int, .int]] [.int s.low.1, .int s.low.2, .int s.high.1, .int s.high.2, .sl (vecsD s.robot), .sl (areasD s.obst), .sl (vecsD s.tables)] ∧ 0 ≤ (1048576 : Int) ∧ (1048576 : Int) ≤ 1048576
    first | trivial | exact ⟨hpre, by omega, by omega⟩ | exact gs | exact hz | exact ⟨by omega, by omega, hoh⟩ | (refine ⟨?_, ?_⟩ <;> omega), ?_⟩
  refine ⟨fun c4 => ?_, fun c4 => ?_⟩
  · skip
    replace c4 : (decide ((szR (szRow [.int s.low.1, .int s.low.2, .int s.high.1, .int s.high.2, .sl (vecsD s.robot), .sl (areasD s.obst), .sl (vecsD s.tables)]) (1048576 : Int)) < (0 : Int))) = true := c4
    try simp only [nrm] at c4
    exact rfl
  · skip
    replace c4 : (decide ((szR (szRow [.int s.low.1, .int s.low.2, .int s.high.1, .int s.high.2, .sl (vecsD s.robot), .sl (areasD s.obst), .sl (vecsD s.tables)]) (1048576 : Int)) < (0 : Int))) = false := c4
    try simp only [nrm] at c4
    have z1 := szR_ge c4
    have gs : szRow [.int s.low.1, .int s.low.2, .int s.high.1, .int s.high.2, .sl (vecsD s.robot), .sl (areasD s.obst), .sl (vecsD s.tables)] ≤ 1048576 := Int.ofNat_le.1 z1.2
    have hz : scnSz s := scnD_sz gs
    have hcs : (cntV [.int s.low.1, .int s.low.2, .int s.high.1, .int s.high.2, .sl (vecsD s.robot), .sl (areasD s.obst), .sl (vecsD s.tables)] : Int) ≤ 2000000000 := cntV_small hpre gs (by simp [KRow, Ty.K])
    have hb := blk_has s h
    have hoh := hb.1
    have hoc := hb.2
    refine ⟨s, by
      rfl, by
      show szRow [.int s.low.1, .int s.low.2, .int s.high.1, .int s.high.2, .sl (vecsD s.robot), .sl (areasD s.obst), .sl (vecsD s.tables)] ≤ 1048576
      first | trivial | exact ⟨hpre, by omega, by omega⟩ | exact gs | exact hz | exact ⟨by omega, by omega, hoh⟩ | (refine ⟨?_, ?_⟩ <;> omega), ?_⟩
    refine ⟨(s, h), by
      rfl, by
      show scnSz s
      first | trivial | exact ⟨hpre, by omega, by omega⟩ | exact gs | exact hz | exact ⟨by omega, by omega, hoh⟩ | (refine ⟨?_, ?_⟩ <;> omega), ?_⟩
    refine ⟨s, by
      rfl, by
      show szRow [.int s.low.1, .int s.low.2, .int s.high.1, .int s.high.2, .sl (vecsD s.robot), .sl (areasD s.obst), .sl (vecsD s.tables)] ≤ 1048576
      first | trivial | exact ⟨hpre, by omega, by omega⟩ | exact gs | exact hz | exact ⟨by omega, by omega, hoh⟩ | (refine ⟨?_, ?_⟩ <;> omega), ?_⟩
    refine ⟨(s, h), by
      rfl, by
      show scnSz s
      first | trivial | exact ⟨hpre, by omega, by omega⟩ | exact gs | exact hz | exact ⟨by omega, by omega, hoh⟩ | (refine ⟨?_, ?_⟩ <;> omega), ?_⟩
    refine ⟨areasD (blk s h), by
      rfl, by
      first | trivial | exact ⟨hpre, by omega, by omega⟩ | exact gs | exact hz | exact ⟨by omega, by omega, hoh⟩ | (refine ⟨?_, ?_⟩ <;> omega), ?_⟩
    refine ⟨fun c21 => ?_, fun c21 => ?_⟩
    · skip
      try simp only [nrm] at c21
      show Value.bool false = Value.bool true
      first | rfl | contradiction | (exfalso; omega) | simp_all
    · skip
      try simp only [nrm] at c21
      refine ⟨s, by
        rfl, by
        show szRow [.int s.low.1, .int s.low.2, .int s.high.1, .int s.high.2, .sl (vecsD s.robot), .sl (areasD s.obst), .sl (vecsD s.tables)] ≤ 1048576
        first | trivial | exact ⟨hpre, by omega, by omega⟩ | exact gs | exact hz | exact ⟨by omega, by omega, hoh⟩ | (refine ⟨?_, ?_⟩ <;> omega), ?_⟩
      refine ⟨s, by
        rfl, by
        first | trivial | exact ⟨hpre, by omega, by omega⟩ | exact gs | exact hz | exact ⟨by omega, by omega, hoh⟩ | (refine ⟨?_, ?_⟩ <;> omega), ?_⟩
      refine ⟨fun c29 => ?_, fun c29 => ?_⟩
      · skip
        try simp only [nrm] at c29
        show Value.bool false = Value.bool true
        first | rfl | contradiction | (exfalso; omega) | simp_all
      · skip
        try simp only [nrm] at c29
        refine ⟨(s, (1 : Int)), by
          rfl, by
          show 0 ≤ (1 : Int) ∧ (1 : Int) + (cntV [.int s.low.1, .int s.low.2, .int s.high.1, .int s.high.2, .sl (vecsD s.robot), .sl (areasD s.obst), .sl (vecsD s.tables)] : Int) ≤ 4611686018427387904
          first | trivial | exact ⟨hpre, by omega, by omega⟩ | exact gs | exact hz | exact ⟨by omega, by omega, hoh⟩ | (refine ⟨?_, ?_⟩ <;> omega), ?_⟩
        refine ⟨fun c34 => ?_, fun c34 => ?_⟩
        · skip
          replace c34 : (!(decide (((1 : Int) + (cntV [.int s.low.1, .int s.low.2, .int s.high.1, .int s.high.2, .sl (vecsD s.robot), .sl (areasD s.obst), .sl (vecsD s.tables)] : Int)) < (0 : Int)))) = true := c34
          try simp only [nrm] at c34
          refine ⟨areasD (blk s h), by
            rfl, by
            first | trivial | exact ⟨hpre, by omega, by omega⟩ | exact gs | exact hz | exact ⟨by omega, by omega, hoh⟩ | (refine ⟨?_, ?_⟩ <;> omega), ?_⟩
          refine ⟨fun c38 => ?_, fun c38 => ?_⟩
          · skip
            try simp only [nrm] at c38
            show Value.bool false = Value.bool true
            first | rfl | contradiction | (exfalso; omega) | simp_all
          · skip
            try simp only [nrm] at c38
            refine ⟨(areasD (blk s h), (1 : Int)), by
              rfl, by
              show 0 ≤ (1 : Int) ∧ (1 : Int) + (cntRows (areasD (blk s h)) : Int) ≤ 4611686018427387904
              first | trivial | exact ⟨hpre, by omega, by omega⟩ | exact gs | exact hz | exact ⟨by omega, by omega, hoh⟩ | (refine ⟨?_, ?_⟩ <;> omega), ?_⟩
            refine ⟨((areasD (blk s h)), (1 : Int)), by
              rfl, by
              show 0 ≤ (1 : Int) ∧ (1 : Int) + (cntRows (areasD (blk s h)) : Int) ≤ 4611686018427387904 ∧ Dat.has (.sl 24 [.sl 40 [.int, .int]]) (.sl (areasD (blk s h)))
              first | trivial | exact ⟨hpre, by omega, by omega⟩ | exact gs | exact hz | exact ⟨by omega, by omega, hoh⟩ | (refine ⟨?_, ?_⟩ <;> omega), ?_⟩
            refine ⟨fun c46 => ?_, fun c46 => ?_⟩
            · skip
              replace c46 : (decide (((1 : Int) + (cntRows (areasD (blk s h)) : Int)) < (0 : Int))) = true := c46
              try simp only [nrm] at c46
              show Value.bool false = Value.bool true
              first | rfl | contradiction | (exfalso; omega) | simp_all
            · skip
              replace c46 : (decide (((1 : Int) + (cntRows (areasD (blk s h)) : Int)) < (0 : Int))) = false := c46
              try simp only [nrm] at c46
              refine ⟨fun c48 => ?_, fun c48 => ?_⟩
              · skip
                replace c48 : (((1 : Int) + (cntRows (areasD (blk s h)) : Int)) != ((1 : Int) + (cntRows (areasD (blk s h)) : Int))) = true := c48
                try simp only [nrm] at c48
                show Value.bool false = Value.bool true
                first | rfl | contradiction | (exfalso; omega) | simp_all
              · skip
                replace c48 : (((1 : Int) + (cntRows (areasD (blk s h)) : Int)) != ((1 : Int) + (cntRows (areasD (blk s h)) : Int))) = false := c48
                try simp only [nrm] at c48
                refine ⟨s, by
                  rfl, by
                  show szRow [.int s.low.1, .int s.low.2, .int s.high.1, .int s.high.2, .sl (vecsD s.robot), .sl (areasD s.obst), .sl (vecsD s.tables)] ≤ 1048576
                  first | trivial | exact ⟨hpre, by omega, by omega⟩ | exact gs | exact hz | exact ⟨by omega, by omega, hoh⟩ | (refine ⟨?_, ?_⟩ <;> omega), ?_⟩
                refine ⟨(s, h), by
                  rfl, by
                  show scnSz s
                  first | trivial | exact ⟨hpre, by omega, by omega⟩ | exact gs | exact hz | exact ⟨by omega, by omega, hoh⟩ | (refine ⟨?_, ?_⟩ <;> omega), ?_⟩
                refine ⟨areasD (blk s h), by
                  rfl, by
                  first | trivial | exact ⟨hpre, by omega, by omega⟩ | exact gs | exact hz | exact ⟨by omega, by omega, hoh⟩ | (refine ⟨?_, ?_⟩ <;> omega), ?_⟩
                refine ⟨fun c59 => ?_, fun c59 => ?_⟩
                · skip
                  try simp only [nrm] at c59
                  show Value.bool false = Value.bool true
                  first | rfl | contradiction | (exfalso; omega) | simp_all
                · skip
                  try simp only [nrm] at c59
                  refine ⟨((areasD (blk s h)), (1 : Int)), by
                    rfl, by
                    show 0 ≤ (1 : Int) ∧ (1 : Int) + (cntRows (areasD (blk s h)) : Int) ≤ 4611686018427387904 ∧ Dat.has (.sl 24 [.sl 40 [.int, .int]]) (.sl (areasD (blk s h)))
                    first | trivial | exact ⟨hpre, by omega, by omega⟩ | exact gs | exact hz | exact ⟨by omega, by omega, hoh⟩ | (refine ⟨?_, ?_⟩ <;> omega), ?_⟩
                  refine ⟨fun c64 => ?_, fun c64 => ?_⟩
                  · skip
                    replace c64 : (decide (((1 : Int) + (cntRows (areasD (blk s h)) : Int)) < (0 : Int))) = true := c64
                    try simp only [nrm] at c64
                    show Value.bool false = Value.bool true
                    first | rfl | contradiction | (exfalso; omega) | simp_all
                  · skip
                    replace c64 : (decide (((1 : Int) + (cntRows (areasD (blk s h)) : Int)) < (0 : Int))) = false := c64
                    try simp only [nrm] at c64
                    refine ⟨fun c66 => ?_, fun c66 => ?_⟩
                    · skip
                      replace c66 : (((1 : Int) + (cntRows (areasD (blk s h)) : Int)) != ((1 : Int) + (cntRows (areasD (blk s h)) : Int))) = true := c66
                      try simp only [nrm] at c66
                      show Value.bool false = Value.bool true
                      first | rfl | contradiction | (exfalso; omega) | simp_all
                    · skip
                      replace c66 : (((1 : Int) + (cntRows (areasD (blk s h)) : Int)) != ((1 : Int) + (cntRows (areasD (blk s h)) : Int))) = false := c66
                      try simp only [nrm] at c66
                      exact rfl
        · skip
          replace c34 : (!(decide (((1 : Int) + (cntV [.int s.low.1, .int s.low.2, .int s.high.1, .int s.high.2, .sl (vecsD s.robot), .sl (areasD s.obst), .sl (vecsD s.tables)] : Int)) < (0 : Int)))) = false := c34
          try simp only [nrm] at c34
          show Value.bool false = Value.bool true
          first | rfl | contradiction | (exfalso; omega) | simp_all
end Go.Proofs.Ytaleabdmgaeipaa
