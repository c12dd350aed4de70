/-
  The Go law FnExactCheckText returns true for every code and leaves its argument as it was. No condition.
-/
import Derived.Test.YtemgpfojmdncjaaRows
import Derived.WalkKit
import Derived.ProofKit
import Derived.OpenShut
namespace Go.Proofs.Ytemgpfojmdncjaa.fnExactCheckText
open Go.ChangeShapes Go.WideShapes Go.ChangeAt Go.RowKit
set_option linter.unusedVariables false      -- a walk need not use every 'w<i>' (that an integer argument fits its kind)

theorem own : ownKnob Try.prog.godebug = none := by kernel_rfl

/-- The words by their codes. -/
def words (n : Int) : ByteArray :=
  if n = 0 then ⟨#[111, 107]⟩ else if n = 1 then ⟨#[115, 99, 101, 110, 101]⟩ else if n = 2 then ⟨#[115, 116, 97, 114, 116]⟩
  else if n = 3 then ⟨#[115, 116, 101, 112]⟩ else if n = 4 then ⟨#[109, 111, 118, 101]⟩ else if n = 5 then ⟨#[116, 97, 98, 108, 101]⟩
  else if n = 6 then ⟨#[103, 111, 97, 108]⟩ else ⟨#[]⟩
theorem words_out (n : Int) (h : n < 0 ∨ 6 < n) : words n = ⟨#[]⟩ := by
  unfold words
  rw [if_neg (by omega), if_neg (by omega), if_neg (by omega), if_neg (by omega), if_neg (by omega), if_neg (by omega), if_neg (by omega)]
theorem words_0 : words 0 = ⟨#[111, 107]⟩ := by simp [words]
theorem words_1 : words 1 = ⟨#[115, 99, 101, 110, 101]⟩ := by simp [words]
theorem words_2 : words 2 = ⟨#[115, 116, 97, 114, 116]⟩ := by simp [words]
theorem words_3 : words 3 = ⟨#[115, 116, 101, 112]⟩ := by simp [words]
theorem words_4 : words 4 = ⟨#[109, 111, 118, 101]⟩ := by simp [words]
theorem words_5 : words 5 = ⟨#[116, 97, 98, 108, 101]⟩ := by simp [words]
theorem words_6 : words 6 = ⟨#[103, 111, 97, 108]⟩ := by simp [words]
/-- Whether a number lies in a range. -/
def inR (n lo hi : Int) : Bool := decide (lo ≤ n) && decide (n ≤ hi)
theorem inR_true {n lo hi : Int} (h1 : lo ≤ n) (h2 : n ≤ hi) : inR n lo hi = true := by simp [inR, h1, h2]
theorem inR_low {n lo hi : Int} (h : n < lo) : inR n lo hi = false := by simp [inR]; omega
theorem inR_high {n lo hi : Int} (h : hi < n) : inR n lo hi = false := by simp [inR]; omega
theorem spec_in (n lo hi : Int) (w : World) : Calls Try.prog 52 #[.int .i64 n, .int .i64 lo, .int .i64 hi] w fun e w' => e = .returned (.bool (inR n lo hi)) ∧ w = w' := by
  by_cases h1 : lo ≤ n
  · by_cases h2 : n ≤ hi
    · rw [inR_true h1 h2]
      go_enter Try.func52, Try.ntmps52
      go_wp2
      go_ret
      exact ⟨rfl, rfl⟩
    · rw [inR_high (by omega)]
      go_enter Try.func52, Try.ntmps52
      go_wp2
      go_ret
      exact ⟨rfl, rfl⟩
  · rw [inR_low (by omega)]
    go_enter Try.func52, Try.ntmps52
    go_wp2
    go_ret
    exact ⟨rfl, rfl⟩
theorem impl_in (n lo hi : Int) (w : World) : Calls Try.prog 53 #[.int .i64 n, .int .i64 lo, .int .i64 hi] w fun e w' => e = .returned (.bool (inR n lo hi)) ∧ w = w' := by
  by_cases h1 : lo ≤ n
  · by_cases h2 : n ≤ hi
    · rw [inR_true h1 h2]
      go_enter Try.func53, Try.ntmps53
      go_wp2
      go_ret
      exact ⟨rfl, rfl⟩
    · rw [inR_high (by omega)]
      go_enter Try.func53, Try.ntmps53
      go_wp2
      go_ret
      exact ⟨rfl, rfl⟩
  · rw [inR_low (by omega)]
    go_enter Try.func53, Try.ntmps53
    go_wp2
    go_ret
    exact ⟨rfl, rfl⟩
theorem spec_text_out (n : Int) (h : inR n 0 6 = false) (w : World) : Calls Try.prog 12 #[.int .i64 n] w fun e w' => e = .returned (.string ⟨#[]⟩) ∧ Grown w w' := by
  go_enter Try.func12, Try.ntmps12
  go_wp2_with (go_at_call 52; refine (spec_in _ _ _ _).mono ?_; rintro e w' ⟨rfl, rfl⟩)
  go_ret
  exact ⟨rfl, by repeat (first | exact Grown.refl _ | apply Grown.drew | apply Grown.alloc)⟩
theorem spec_text_0 (w : World) : Calls Try.prog 12 #[.int .i64 0] w fun e w' => e = .returned (.string (words 0)) ∧ Grown w w' := by
  rw [words_0]
  go_enter Try.func12, Try.ntmps12
  go_wp2
  go_ret
  exact ⟨rfl, by repeat (first | exact Grown.refl _ | apply Grown.drew | apply Grown.alloc)⟩
theorem spec_text_1 (w : World) : Calls Try.prog 12 #[.int .i64 1] w fun e w' => e = .returned (.string (words 1)) ∧ Grown w w' := by
  rw [words_1]
  go_enter Try.func12, Try.ntmps12
  go_wp2
  go_ret
  exact ⟨rfl, by repeat (first | exact Grown.refl _ | apply Grown.drew | apply Grown.alloc)⟩
theorem spec_text_2 (w : World) : Calls Try.prog 12 #[.int .i64 2] w fun e w' => e = .returned (.string (words 2)) ∧ Grown w w' := by
  rw [words_2]
  go_enter Try.func12, Try.ntmps12
  go_wp2
  go_ret
  exact ⟨rfl, by repeat (first | exact Grown.refl _ | apply Grown.drew | apply Grown.alloc)⟩
theorem spec_text_3 (w : World) : Calls Try.prog 12 #[.int .i64 3] w fun e w' => e = .returned (.string (words 3)) ∧ Grown w w' := by
  rw [words_3]
  go_enter Try.func12, Try.ntmps12
  go_wp2
  go_ret
  exact ⟨rfl, by repeat (first | exact Grown.refl _ | apply Grown.drew | apply Grown.alloc)⟩
theorem spec_text_4 (w : World) : Calls Try.prog 12 #[.int .i64 4] w fun e w' => e = .returned (.string (words 4)) ∧ Grown w w' := by
  rw [words_4]
  go_enter Try.func12, Try.ntmps12
  go_wp2
  go_ret
  exact ⟨rfl, by repeat (first | exact Grown.refl _ | apply Grown.drew | apply Grown.alloc)⟩
theorem spec_text_5 (w : World) : Calls Try.prog 12 #[.int .i64 5] w fun e w' => e = .returned (.string (words 5)) ∧ Grown w w' := by
  rw [words_5]
  go_enter Try.func12, Try.ntmps12
  go_wp2
  go_ret
  exact ⟨rfl, by repeat (first | exact Grown.refl _ | apply Grown.drew | apply Grown.alloc)⟩
theorem spec_text_6 (w : World) : Calls Try.prog 12 #[.int .i64 6] w fun e w' => e = .returned (.string (words 6)) ∧ Grown w w' := by
  rw [words_6]
  go_enter Try.func12, Try.ntmps12
  go_wp2
  go_ret
  exact ⟨rfl, by repeat (first | exact Grown.refl _ | apply Grown.drew | apply Grown.alloc)⟩
theorem spec_text (n : Int) (w : World) : Calls Try.prog 12 #[.int .i64 n] w fun e w' => e = .returned (.string (words n)) ∧ Grown w w' := by
  by_cases h0 : 0 ≤ n
  · by_cases h6 : n ≤ 6
    · have hc : n = 0 ∨ n = 1 ∨ n = 2 ∨ n = 3 ∨ n = 4 ∨ n = 5 ∨ n = 6 := by omega
      rcases hc with rfl | rfl | rfl | rfl | rfl | rfl | rfl
      · exact spec_text_0 w
      · exact spec_text_1 w
      · exact spec_text_2 w
      · exact spec_text_3 w
      · exact spec_text_4 w
      · exact spec_text_5 w
      · exact spec_text_6 w
    · rw [words_out n (Or.inr (by omega))]
      exact spec_text_out n (inR_high (by omega)) w
  · rw [words_out n (Or.inl (by omega))]
    exact spec_text_out n (inR_low (by omega)) w
theorem impl_text_out (n : Int) (h : inR n 0 6 = false) (w : World) : Calls Try.prog 13 #[.int .i64 n] w fun e w' => e = .returned (.string ⟨#[]⟩) ∧ Grown w w' := by
  go_enter Try.func13, Try.ntmps13
  go_wp2_with (go_at_call 53; refine (impl_in _ _ _ _).mono ?_; rintro e w' ⟨rfl, rfl⟩)
  go_ret
  exact ⟨rfl, by repeat (first | exact Grown.refl _ | apply Grown.drew | apply Grown.alloc)⟩
theorem impl_text_0 (w : World) : Calls Try.prog 13 #[.int .i64 0] w fun e w' => e = .returned (.string (words 0)) ∧ Grown w w' := by
  rw [words_0]
  go_enter Try.func13, Try.ntmps13
  go_wp2
  go_ret
  exact ⟨rfl, by repeat (first | exact Grown.refl _ | apply Grown.drew | apply Grown.alloc)⟩
theorem impl_text_1 (w : World) : Calls Try.prog 13 #[.int .i64 1] w fun e w' => e = .returned (.string (words 1)) ∧ Grown w w' := by
  rw [words_1]
  go_enter Try.func13, Try.ntmps13
  go_wp2
  go_ret
  exact ⟨rfl, by repeat (first | exact Grown.refl _ | apply Grown.drew | apply Grown.alloc)⟩
theorem impl_text_2 (w : World) : Calls Try.prog 13 #[.int .i64 2] w fun e w' => e = .returned (.string (words 2)) ∧ Grown w w' := by
  rw [words_2]
  go_enter Try.func13, Try.ntmps13
  go_wp2
  go_ret
  exact ⟨rfl, by repeat (first | exact Grown.refl _ | apply Grown.drew | apply Grown.alloc)⟩
theorem impl_text_3 (w : World) : Calls Try.prog 13 #[.int .i64 3] w fun e w' => e = .returned (.string (words 3)) ∧ Grown w w' := by
  rw [words_3]
  go_enter Try.func13, Try.ntmps13
  go_wp2
  go_ret
  exact ⟨rfl, by repeat (first | exact Grown.refl _ | apply Grown.drew | apply Grown.alloc)⟩
theorem impl_text_4 (w : World) : Calls Try.prog 13 #[.int .i64 4] w fun e w' => e = .returned (.string (words 4)) ∧ Grown w w' := by
  rw [words_4]
  go_enter Try.func13, Try.ntmps13
  go_wp2
  go_ret
  exact ⟨rfl, by repeat (first | exact Grown.refl _ | apply Grown.drew | apply Grown.alloc)⟩
theorem impl_text_5 (w : World) : Calls Try.prog 13 #[.int .i64 5] w fun e w' => e = .returned (.string (words 5)) ∧ Grown w w' := by
  rw [words_5]
  go_enter Try.func13, Try.ntmps13
  go_wp2
  go_ret
  exact ⟨rfl, by repeat (first | exact Grown.refl _ | apply Grown.drew | apply Grown.alloc)⟩
theorem impl_text_6 (w : World) : Calls Try.prog 13 #[.int .i64 6] w fun e w' => e = .returned (.string (words 6)) ∧ Grown w w' := by
  rw [words_6]
  go_enter Try.func13, Try.ntmps13
  go_wp2
  go_ret
  exact ⟨rfl, by repeat (first | exact Grown.refl _ | apply Grown.drew | apply Grown.alloc)⟩
theorem impl_text (n : Int) (w : World) : Calls Try.prog 13 #[.int .i64 n] w fun e w' => e = .returned (.string (words n)) ∧ Grown w w' := by
  by_cases h0 : 0 ≤ n
  · by_cases h6 : n ≤ 6
    · have hc : n = 0 ∨ n = 1 ∨ n = 2 ∨ n = 3 ∨ n = 4 ∨ n = 5 ∨ n = 6 := by omega
      rcases hc with rfl | rfl | rfl | rfl | rfl | rfl | rfl
      · exact impl_text_0 w
      · exact impl_text_1 w
      · exact impl_text_2 w
      · exact impl_text_3 w
      · exact impl_text_4 w
      · exact impl_text_5 w
      · exact impl_text_6 w
    · rw [words_out n (Or.inr (by omega))]
      exact impl_text_out n (inR_high (by omega)) w
  · rw [words_out n (Or.inl (by omega))]
    exact impl_text_out n (inR_low (by omega)) w
/-! ### STEP 1: THE WALK: the Go text returns true. 'Grown w w'': the world has at most new blocks (Derived/RowKit3.lean). Part the cases AHEAD of 'go_enter' where a test parts the walk; take each callee by a contract of your own. -/
theorem walk (a0 : Int) (w0 : (Lit.int .i64 a0).wf = true) (w : World) :
    Calls Try.prog 3 #[.int .i64 a0] w fun e w' => e = .returned (.bool true) ∧ Grown w w' := by
  go_enter Try.func3, Try.ntmps3
  go_wp2_with fail
  refine (spec_text a0 _).mono ?_
  rintro e w1 ⟨rfl, h1⟩
  go_wp2_with fail
  refine (impl_text a0 _).mono ?_
  rintro e w2 ⟨rfl, h2⟩
  go_wp2
  go_ret
  exact ⟨rfl, World.keptBut_trans h1.1 h2.1, fun a => (h2.2.1 a).trans (h1.2.1 a), Nat.le_trans h1.2.2 h2.2.2⟩

/-! ### THE ROW's STEP: WRITTEN OUT: LEAVE IT -/
set_option maxRecDepth 100000 in
theorem lifted (os : Os) (started : os.Started) (H : Type) (enc : TypeId × Value → H) :
    ReturnsInHanded {} Try.checked os 3 .any (Rows.fnExactCheckTextSpec.pre6 enc Try.prog Try.f3 Rows.fnExactCheckTextRow.domain false) (Rows.fnExactCheckTextSpec.post enc Try.prog Try.f3 false true false false) := by
  refine returnsInHanded_of_change (C := Try.checked) own started (by kernel_rfl) Try.func3
    (ChangeSpec.witness6 (enc := enc) (C := Try.checked) false ⟨#[], #[.int .i64 0], []⟩ 8 (by kernel_rfl) (by kernel_rfl) (by kernel_rfl) (by kernel_rfl)) ?_
  intro W base args ds gs before hval0 hW hcnd _
  have hval : ∀ (j : Nat) t v, Try.f3.params[j]? = some t → args[j]? = some v → Value.okWide Try.prog W .any base t v := hval0
  have hW' := hW
  obtain ⟨p, q, hA0, hV, rfl, hfz, hnd⟩ := hW
  have hA : DataW.TrodAll enc Try.prog W 0 (fun _ => true) true Try.f3.params.toList args.toList ds p := hA0
  rw [Try.params3] at hA hval
  obtain ⟨v0, vs0, d0, ds0, p0, q0, hargs, rfl, rfl, h0, r0⟩ := trodAll_cons hA
  obtain ⟨rfl, rfl, rfl⟩ := trodAll_nil r0
  obtain rfl : args = #[v0] := by cases args; simp_all
  obtain ⟨rfl, rfl⟩ := trodVars_none hV
  obtain ⟨a0, rfl, rfl, rfl, w0⟩ := open_int Try.underlying3 (hval 0 3 v0 rfl rfl) h0
  clear hA0 hval0
  simp only [List.append_nil] at hW'
  refine (walk a0 w0 W).mono fun e W' ⟨he, hg⟩ => ?_
  subst he
  exact ⟨_, rfl, post_of_same (pa := []) (pv := []) hW' (fun _ _ _ => (trodAll_cons_mk (shut_bool Try.underlying4 _) trodAll_mk0)) (fun sp _ => (trodAll_cons_mk (shut_int Try.underlying3 w0) trodAll_mk0)) (fun _ _ => rfl) rfl
    (hg.frame _) hg.2.1 (ok_one (by kernel_rfl) rfl (okWide_bool_mk Try.underlying4 _))⟩

theorem over : Rows.fnExactCheckTextRow.holds Try.pinned (OpenSpec.ofChange Rows.fnExactCheckTextSpec) :=
  OpenClaim.holds_of_wide 3 Try.f3 rfl rfl rfl rfl rfl rfl rfl ⟨rfl, rfl, rfl, rfl, rfl⟩ rfl rfl rfl rfl rfl (by kernel_rfl) Try.func3 (by kernel_rfl)
    (of_decide_eq_true (by kernel_rfl)) (by unfold Func.isWrapper; first | (rw [if_pos (by decide +kernel)]; kernel_rfl) | (rw [if_neg (by decide +kernel)]; exact ⟨rfl, rfl⟩))
    (fun os started H enc _ => lifted os started H enc)

/-- ████ THE STATEMENT ████ -/
theorem proved : Rows.FnExactCheckTextSaid :=
  over
#print axioms proved
end Go.Proofs.Ytemgpfojmdncjaa.fnExactCheckText
