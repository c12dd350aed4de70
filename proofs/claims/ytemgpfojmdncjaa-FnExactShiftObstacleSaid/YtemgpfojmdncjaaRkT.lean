/-
  The types of this seat, for the reckoner.
-/
import Derived.Test.YtemgpfojmdncjaaExC
import Derived.Test.YtemgpfojmdncjaaProg
import Derived.KernelRfl
namespace Go.Proofs.Ytemgpfojmdncjaa
set_option linter.unusedVariables false
set_option linter.unusedSimpArgs false
open Go.RowKit

theorem TIok.mk' {P : Program} {t : Nat} {i : TI} (h1 : (P.info? t).map (fun i => (i.size, i.bytes, i.zero.map (·.cells))) = some (i.size, i.bytes, some i.zero.toArray)) (h2 : i.d.fits P t) (h3 : i.eqn ≠ 0 → EqOk P t i.eqn := by intro h; exact absurd rfl h) : TIok P t i := by
  refine ⟨?_, h2, h3⟩
  cases h : P.info? t with
  | none => rw [h] at h1; cases h1
  | some inf =>
    rw [h] at h1
    simp only [Option.map_some, Option.some.injEq, Prod.mk.injEq] at h1
    exact ⟨inf, rfl, h1.1, h1.2.1, h1.2.2⟩
theorem fits_struct {P : Program} {t : Nat} {fs : List (Nat × Nat × Nat)} (h : (match P.underlying t with | some (.struct fl) => some (fl.toList.map (fun f => (f.offset, f.type)), fl.toList.mapM (fun f => (P.info? f.type).map fun i => (f.offset, i.size))) | _ => none) = some (fs.map (fun x => (x.1, x.2.1)), some (fs.map fun x => (x.1, x.2.2)))) : TD.fits P t (.struct fs) := by
  simp only [TD.fits]
  split at h
  · rename_i fl hu
    simp only [Option.some.injEq, Prod.mk.injEq] at h
    exact ⟨fl, hu, h.1, h.2⟩
  · cases h
/-- A struct of two ints is compared field by field. -/
theorem eqOk2 {P : Program} {t ti : Nat} (h : (match P.underlying t with | some (.struct fl) => some (fl.toList.map fun f => (f.offset, f.type, f.name == "_")) | _ => none) = some [(0, ti, false), (1, ti, false)])
    (hi : P.underlying ti = some (.int .i64)) (hs : (P.eqGuardType P.depth t, P.stoodInHeld t) = (false, false)) : EqOk P t 2 := by
  simp only [Prod.mk.injEq] at hs
  obtain ⟨g1, g2⟩ := hs
  refine ⟨g1, fun w xs ys hx hy => ?_⟩
  split at h
  · rename_i fl hu
    simp only [Option.some.injEq] at h
    obtain ⟨f0, f1, hfl⟩ : ∃ f0 f1, fl.toList = [f0, f1] := by
      have hl := congrArg List.length h
      simp only [List.length_map, List.length_cons, List.length_nil] at hl
      match hq : fl.toList, hl with
      | [a, b], _ => exact ⟨a, b, rfl⟩
    rw [hfl] at h
    simp only [List.map_cons, List.map_nil, List.cons.injEq, Prod.mk.injEq, and_true] at h
    obtain ⟨⟨a1, a2, a3⟩, b1, b2, b3⟩ := h
    match xs, hx, ys, hy with
    | [x0, x1], _, [y0, y1], _ =>
    have hag : (Go.isAgg ti).run P w = .ok false w := by simp [Go.isAgg, Go.underlying, program, Sem.run, hi]
    have hp0 : ∀ (u v : Int), (Go.part ti #[Value.int .i64 u, Value.int .i64 v] 0).run P w = .ok (.int .i64 u) w := by intro u v; simp [Go.part, hag]
    have hp1 : ∀ (u v : Int), (Go.part ti #[Value.int .i64 u, Value.int .i64 v] 1).run P w = .ok (.int .i64 v) w := by intro u v; simp [Go.part, hag]
    have he : ∀ a b : Int, (Op.equalIn 9999 ti (.int .i64 a) (.int .i64 b)).run P w = .ok (a == b) w := by
      intro a b
      show (Op.equalIn (9998 + 1) ti (.int .i64 a) (.int .i64 b)).run P w = _
      rw [Op.equalIn]
      simp only [Sem.run_bind, underlying_run hi, Result.andThen_ok]
      simp
    have n0 : ¬ f0.name = "_" := by simpa using a3
    have n1 : ¬ f1.name = "_" := by simpa using b3
    have hfa : fl = #[f0, f1] := Array.ext' hfl
    show (Op.equalIn (9999 + 1) t _ _).run P w = _
    rw [Op.equalIn]
    subst hfa
    simp only [Sem.run_bind, underlying_run hu, Result.andThen_ok]
    by_cases e0 : x0 = y0
    · by_cases e1 : x1 = y1
      · simp [program, Sem.run, g2, n0, n1, a1, a2, b1, b2, hp0, hp1, he, e0, e1]
      · simp [program, Sem.run, g2, n0, n1, a1, a2, b1, b2, hp0, hp1, he, e0, e1]
    · simp [program, Sem.run, g2, n0, n1, a1, a2, b1, b2, hp0, hp1, he, e0]
  · cases h

/-- The types. -/
def tt : TT := [(2, { d := .int .i64, size := 1, bytes := 8, zero := [.int .i64 0] }),
  (3, { d := .int .i64, size := 1, bytes := 8, zero := [.int .i64 0] }),
  (4, { d := .bool, size := 1, bytes := 1, zero := [.bool false] }),
  (5, { d := .int .u8, size := 1, bytes := 1, zero := [.int .u8 0] }),
  (9, { d := .str, size := 1, bytes := 16, zero := [.string ⟨#[]⟩] }),
  (21, { d := .int .i32, size := 1, bytes := 4, zero := [.int .i32 0] }),
  (24, { d := .struct [(0, 3, 1), (1, 3, 1)], size := 2, bytes := 16, zero := [.int .i64 0, .int .i64 0], eqn := 2 }),
  (25, { d := .struct [(0, 3, 1), (1, 3, 1)], size := 2, bytes := 16, zero := [.int .i64 0, .int .i64 0], eqn := 2 }),
  (26, { d := .slice 25, size := 1, bytes := 24, zero := [.slice none 0 0] }),
  (27, { d := .slice 26, size := 1, bytes := 24, zero := [.slice none 0 0] }),
  (28, { d := .struct [(0, 25, 2), (2, 25, 2), (4, 26, 1), (5, 27, 1), (6, 26, 1)], size := 7, bytes := 104, zero := [.int .i64 0, .int .i64 0, .int .i64 0, .int .i64 0, .slice none 0 0, .slice none 0 0, .slice none 0 0] }),
  (29, { d := .struct [(0, 25, 2), (2, 25, 2), (4, 26, 1), (5, 27, 1), (6, 26, 1)], size := 7, bytes := 104, zero := [.int .i64 0, .int .i64 0, .int .i64 0, .int .i64 0, .slice none 0 0, .slice none 0 0, .slice none 0 0] }),
  (31, { d := .struct [(0, 3, 1), (1, 3, 1)], size := 2, bytes := 16, zero := [.int .i64 0, .int .i64 0], eqn := 2 }),
  (32, { d := .struct [(0, 31, 2), (2, 31, 2)], size := 4, bytes := 32, zero := [.int .i64 0, .int .i64 0, .int .i64 0, .int .i64 0] }),
  (33, { d := .struct [(0, 31, 2), (2, 31, 2)], size := 4, bytes := 32, zero := [.int .i64 0, .int .i64 0, .int .i64 0, .int .i64 0] }),
  (36, { d := .slice 31, size := 1, bytes := 24, zero := [.slice none 0 0] }),
  (37, { d := .slice 36, size := 1, bytes := 24, zero := [.slice none 0 0] }),
  (38, { d := .struct [(0, 31, 2), (2, 31, 2), (4, 36, 1), (5, 37, 1), (6, 36, 1)], size := 7, bytes := 104, zero := [.int .i64 0, .int .i64 0, .int .i64 0, .int .i64 0, .slice none 0 0, .slice none 0 0, .slice none 0 0] }),
  (39, { d := .struct [(0, 31, 2), (2, 31, 2), (4, 36, 1), (5, 37, 1), (6, 36, 1)], size := 7, bytes := 104, zero := [.int .i64 0, .int .i64 0, .int .i64 0, .int .i64 0, .slice none 0 0, .slice none 0 0, .slice none 0 0] }),
  (44, { d := .slice 3, size := 1, bytes := 24, zero := [.slice none 0 0] }),
  (45, { d := .struct [(0, 4, 1), (1, 44, 1)], size := 2, bytes := 32, zero := [.bool false, .slice none 0 0] }),
  (46, { d := .struct [(0, 4, 1), (1, 44, 1)], size := 2, bytes := 32, zero := [.bool false, .slice none 0 0] }),
  (47, { d := .struct [(0, 46, 2), (2, 44, 1)], size := 3, bytes := 56, zero := [.bool false, .slice none 0 0, .slice none 0 0] }),
  (48, { d := .struct [(0, 46, 2), (2, 44, 1)], size := 3, bytes := 56, zero := [.bool false, .slice none 0 0, .slice none 0 0] }),
  (49, { d := .struct [(0, 48, 3), (3, 48, 3)], size := 6, bytes := 112, zero := [.bool false, .slice none 0 0, .slice none 0 0, .bool false, .slice none 0 0, .slice none 0 0] }),
  (50, { d := .struct [(0, 48, 3), (3, 48, 3)], size := 6, bytes := 112, zero := [.bool false, .slice none 0 0, .slice none 0 0, .bool false, .slice none 0 0, .slice none 0 0] }),
  (51, { d := .struct [(0, 3, 1), (1, 50, 6)], size := 7, bytes := 120, zero := [.int .i64 0, .bool false, .slice none 0 0, .slice none 0 0, .bool false, .slice none 0 0, .slice none 0 0] }),
  (52, { d := .struct [(0, 3, 1), (1, 50, 6)], size := 7, bytes := 120, zero := [.int .i64 0, .bool false, .slice none 0 0, .slice none 0 0, .bool false, .slice none 0 0, .slice none 0 0] }),
  (53, { d := .slice 102, size := 1, bytes := 24, zero := [.slice none 0 0] }),
  (56, { d := .struct [(0, 4, 1), (1, 44, 1)], size := 2, bytes := 32, zero := [.bool false, .slice none 0 0] }),
  (57, { d := .struct [(0, 56, 2), (2, 44, 1)], size := 3, bytes := 56, zero := [.bool false, .slice none 0 0, .slice none 0 0] }),
  (58, { d := .struct [(0, 56, 2), (2, 44, 1)], size := 3, bytes := 56, zero := [.bool false, .slice none 0 0, .slice none 0 0] }),
  (59, { d := .struct [(0, 58, 3), (3, 58, 3)], size := 6, bytes := 112, zero := [.bool false, .slice none 0 0, .slice none 0 0, .bool false, .slice none 0 0, .slice none 0 0] }),
  (60, { d := .struct [(0, 58, 3), (3, 58, 3)], size := 6, bytes := 112, zero := [.bool false, .slice none 0 0, .slice none 0 0, .bool false, .slice none 0 0, .slice none 0 0] }),
  (61, { d := .struct [(0, 3, 1), (1, 60, 6)], size := 7, bytes := 120, zero := [.int .i64 0, .bool false, .slice none 0 0, .slice none 0 0, .bool false, .slice none 0 0, .slice none 0 0] }),
  (62, { d := .struct [(0, 3, 1), (1, 60, 6)], size := 7, bytes := 120, zero := [.int .i64 0, .bool false, .slice none 0 0, .slice none 0 0, .bool false, .slice none 0 0, .slice none 0 0] }),
  (65, { d := .slice 104, size := 1, bytes := 24, zero := [.slice none 0 0] }),
  (89, { d := .slice 9, size := 1, bytes := 24, zero := [.slice none 0 0] }),
  (101, { d := .struct [(0, 3, 1), (1, 50, 6)], size := 7, bytes := 120, zero := [.int .i64 0, .bool false, .slice none 0 0, .slice none 0 0, .bool false, .slice none 0 0, .slice none 0 0] }),
  (102, { d := .struct [(0, 3, 1), (1, 50, 6)], size := 7, bytes := 120, zero := [.int .i64 0, .bool false, .slice none 0 0, .slice none 0 0, .bool false, .slice none 0 0, .slice none 0 0] }),
  (103, { d := .struct [(0, 3, 1), (1, 60, 6)], size := 7, bytes := 120, zero := [.int .i64 0, .bool false, .slice none 0 0, .slice none 0 0, .bool false, .slice none 0 0, .slice none 0 0] }),
  (104, { d := .struct [(0, 3, 1), (1, 60, 6)], size := 7, bytes := 120, zero := [.int .i64 0, .bool false, .slice none 0 0, .slice none 0 0, .bool false, .slice none 0 0, .slice none 0 0] }),
  (141, { d := .int .u64, size := 1, bytes := 8, zero := [.int .u64 0] }),
  (161, { d := .int .u32, size := 1, bytes := 4, zero := [.int .u32 0] }),
  (163, { d := .int .u64, size := 1, bytes := 8, zero := [.int .u64 0] })]
theorem mixed : Try.prog.follows .mixedOrders = true := by kernel_rfl
theorem tt2 : TIok Try.prog 2 { d := .int .i64, size := 1, bytes := 8, zero := [.int .i64 0] } := .mk' (by kernel_rfl) (by show Program.underlying _ _ = _; kernel_rfl)
theorem tt3 : TIok Try.prog 3 { d := .int .i64, size := 1, bytes := 8, zero := [.int .i64 0] } := .mk' (by kernel_rfl) (by show Program.underlying _ _ = _; kernel_rfl)
theorem tt4 : TIok Try.prog 4 { d := .bool, size := 1, bytes := 1, zero := [.bool false] } := .mk' (by kernel_rfl) (by show Program.underlying _ _ = _; kernel_rfl)
theorem tt5 : TIok Try.prog 5 { d := .int .u8, size := 1, bytes := 1, zero := [.int .u8 0] } := .mk' (by kernel_rfl) (by show Program.underlying _ _ = _; kernel_rfl)
theorem tt9 : TIok Try.prog 9 { d := .str, size := 1, bytes := 16, zero := [.string ⟨#[]⟩] } := .mk' (by kernel_rfl) (by show Program.underlying _ _ = _; kernel_rfl)
theorem tt21 : TIok Try.prog 21 { d := .int .i32, size := 1, bytes := 4, zero := [.int .i32 0] } := .mk' (by kernel_rfl) (by show Program.underlying _ _ = _; kernel_rfl)
theorem tt24 : TIok Try.prog 24 { d := .struct [(0, 3, 1), (1, 3, 1)], size := 2, bytes := 16, zero := [.int .i64 0, .int .i64 0], eqn := 2 } := .mk' (by kernel_rfl) (by exact fits_struct (by kernel_rfl)) (fun _ => eqOk2 (ti := 3) (by kernel_rfl) (by kernel_rfl) (by kernel_rfl))
theorem tt25 : TIok Try.prog 25 { d := .struct [(0, 3, 1), (1, 3, 1)], size := 2, bytes := 16, zero := [.int .i64 0, .int .i64 0], eqn := 2 } := .mk' (by kernel_rfl) (by exact fits_struct (by kernel_rfl)) (fun _ => eqOk2 (ti := 3) (by kernel_rfl) (by kernel_rfl) (by kernel_rfl))
theorem tt26 : TIok Try.prog 26 { d := .slice 25, size := 1, bytes := 24, zero := [.slice none 0 0] } := .mk' (by kernel_rfl) (by show Program.underlying _ _ = _; kernel_rfl)
theorem tt27 : TIok Try.prog 27 { d := .slice 26, size := 1, bytes := 24, zero := [.slice none 0 0] } := .mk' (by kernel_rfl) (by show Program.underlying _ _ = _; kernel_rfl)
theorem tt28 : TIok Try.prog 28 { d := .struct [(0, 25, 2), (2, 25, 2), (4, 26, 1), (5, 27, 1), (6, 26, 1)], size := 7, bytes := 104, zero := [.int .i64 0, .int .i64 0, .int .i64 0, .int .i64 0, .slice none 0 0, .slice none 0 0, .slice none 0 0] } := .mk' (by kernel_rfl) (by exact fits_struct (by kernel_rfl))
theorem tt29 : TIok Try.prog 29 { d := .struct [(0, 25, 2), (2, 25, 2), (4, 26, 1), (5, 27, 1), (6, 26, 1)], size := 7, bytes := 104, zero := [.int .i64 0, .int .i64 0, .int .i64 0, .int .i64 0, .slice none 0 0, .slice none 0 0, .slice none 0 0] } := .mk' (by kernel_rfl) (by exact fits_struct (by kernel_rfl))
theorem tt31 : TIok Try.prog 31 { d := .struct [(0, 3, 1), (1, 3, 1)], size := 2, bytes := 16, zero := [.int .i64 0, .int .i64 0], eqn := 2 } := .mk' (by kernel_rfl) (by exact fits_struct (by kernel_rfl)) (fun _ => eqOk2 (ti := 3) (by kernel_rfl) (by kernel_rfl) (by kernel_rfl))
theorem tt32 : TIok Try.prog 32 { d := .struct [(0, 31, 2), (2, 31, 2)], size := 4, bytes := 32, zero := [.int .i64 0, .int .i64 0, .int .i64 0, .int .i64 0] } := .mk' (by kernel_rfl) (by exact fits_struct (by kernel_rfl))
theorem tt33 : TIok Try.prog 33 { d := .struct [(0, 31, 2), (2, 31, 2)], size := 4, bytes := 32, zero := [.int .i64 0, .int .i64 0, .int .i64 0, .int .i64 0] } := .mk' (by kernel_rfl) (by exact fits_struct (by kernel_rfl))
theorem tt36 : TIok Try.prog 36 { d := .slice 31, size := 1, bytes := 24, zero := [.slice none 0 0] } := .mk' (by kernel_rfl) (by show Program.underlying _ _ = _; kernel_rfl)
theorem tt37 : TIok Try.prog 37 { d := .slice 36, size := 1, bytes := 24, zero := [.slice none 0 0] } := .mk' (by kernel_rfl) (by show Program.underlying _ _ = _; kernel_rfl)
theorem tt38 : TIok Try.prog 38 { d := .struct [(0, 31, 2), (2, 31, 2), (4, 36, 1), (5, 37, 1), (6, 36, 1)], size := 7, bytes := 104, zero := [.int .i64 0, .int .i64 0, .int .i64 0, .int .i64 0, .slice none 0 0, .slice none 0 0, .slice none 0 0] } := .mk' (by kernel_rfl) (by exact fits_struct (by kernel_rfl))
theorem tt39 : TIok Try.prog 39 { d := .struct [(0, 31, 2), (2, 31, 2), (4, 36, 1), (5, 37, 1), (6, 36, 1)], size := 7, bytes := 104, zero := [.int .i64 0, .int .i64 0, .int .i64 0, .int .i64 0, .slice none 0 0, .slice none 0 0, .slice none 0 0] } := .mk' (by kernel_rfl) (by exact fits_struct (by kernel_rfl))
theorem tt44 : TIok Try.prog 44 { d := .slice 3, size := 1, bytes := 24, zero := [.slice none 0 0] } := .mk' (by kernel_rfl) (by show Program.underlying _ _ = _; kernel_rfl)
theorem tt45 : TIok Try.prog 45 { d := .struct [(0, 4, 1), (1, 44, 1)], size := 2, bytes := 32, zero := [.bool false, .slice none 0 0] } := .mk' (by kernel_rfl) (by exact fits_struct (by kernel_rfl))
theorem tt46 : TIok Try.prog 46 { d := .struct [(0, 4, 1), (1, 44, 1)], size := 2, bytes := 32, zero := [.bool false, .slice none 0 0] } := .mk' (by kernel_rfl) (by exact fits_struct (by kernel_rfl))
theorem tt47 : TIok Try.prog 47 { d := .struct [(0, 46, 2), (2, 44, 1)], size := 3, bytes := 56, zero := [.bool false, .slice none 0 0, .slice none 0 0] } := .mk' (by kernel_rfl) (by exact fits_struct (by kernel_rfl))
theorem tt48 : TIok Try.prog 48 { d := .struct [(0, 46, 2), (2, 44, 1)], size := 3, bytes := 56, zero := [.bool false, .slice none 0 0, .slice none 0 0] } := .mk' (by kernel_rfl) (by exact fits_struct (by kernel_rfl))
theorem tt49 : TIok Try.prog 49 { d := .struct [(0, 48, 3), (3, 48, 3)], size := 6, bytes := 112, zero := [.bool false, .slice none 0 0, .slice none 0 0, .bool false, .slice none 0 0, .slice none 0 0] } := .mk' (by kernel_rfl) (by exact fits_struct (by kernel_rfl))
theorem tt50 : TIok Try.prog 50 { d := .struct [(0, 48, 3), (3, 48, 3)], size := 6, bytes := 112, zero := [.bool false, .slice none 0 0, .slice none 0 0, .bool false, .slice none 0 0, .slice none 0 0] } := .mk' (by kernel_rfl) (by exact fits_struct (by kernel_rfl))
theorem tt51 : TIok Try.prog 51 { d := .struct [(0, 3, 1), (1, 50, 6)], size := 7, bytes := 120, zero := [.int .i64 0, .bool false, .slice none 0 0, .slice none 0 0, .bool false, .slice none 0 0, .slice none 0 0] } := .mk' (by kernel_rfl) (by exact fits_struct (by kernel_rfl))
theorem tt52 : TIok Try.prog 52 { d := .struct [(0, 3, 1), (1, 50, 6)], size := 7, bytes := 120, zero := [.int .i64 0, .bool false, .slice none 0 0, .slice none 0 0, .bool false, .slice none 0 0, .slice none 0 0] } := .mk' (by kernel_rfl) (by exact fits_struct (by kernel_rfl))
theorem tt53 : TIok Try.prog 53 { d := .slice 102, size := 1, bytes := 24, zero := [.slice none 0 0] } := .mk' (by kernel_rfl) (by show Program.underlying _ _ = _; kernel_rfl)
theorem tt56 : TIok Try.prog 56 { d := .struct [(0, 4, 1), (1, 44, 1)], size := 2, bytes := 32, zero := [.bool false, .slice none 0 0] } := .mk' (by kernel_rfl) (by exact fits_struct (by kernel_rfl))
theorem tt57 : TIok Try.prog 57 { d := .struct [(0, 56, 2), (2, 44, 1)], size := 3, bytes := 56, zero := [.bool false, .slice none 0 0, .slice none 0 0] } := .mk' (by kernel_rfl) (by exact fits_struct (by kernel_rfl))
theorem tt58 : TIok Try.prog 58 { d := .struct [(0, 56, 2), (2, 44, 1)], size := 3, bytes := 56, zero := [.bool false, .slice none 0 0, .slice none 0 0] } := .mk' (by kernel_rfl) (by exact fits_struct (by kernel_rfl))
theorem tt59 : TIok Try.prog 59 { d := .struct [(0, 58, 3), (3, 58, 3)], size := 6, bytes := 112, zero := [.bool false, .slice none 0 0, .slice none 0 0, .bool false, .slice none 0 0, .slice none 0 0] } := .mk' (by kernel_rfl) (by exact fits_struct (by kernel_rfl))
theorem tt60 : TIok Try.prog 60 { d := .struct [(0, 58, 3), (3, 58, 3)], size := 6, bytes := 112, zero := [.bool false, .slice none 0 0, .slice none 0 0, .bool false, .slice none 0 0, .slice none 0 0] } := .mk' (by kernel_rfl) (by exact fits_struct (by kernel_rfl))
theorem tt61 : TIok Try.prog 61 { d := .struct [(0, 3, 1), (1, 60, 6)], size := 7, bytes := 120, zero := [.int .i64 0, .bool false, .slice none 0 0, .slice none 0 0, .bool false, .slice none 0 0, .slice none 0 0] } := .mk' (by kernel_rfl) (by exact fits_struct (by kernel_rfl))
theorem tt62 : TIok Try.prog 62 { d := .struct [(0, 3, 1), (1, 60, 6)], size := 7, bytes := 120, zero := [.int .i64 0, .bool false, .slice none 0 0, .slice none 0 0, .bool false, .slice none 0 0, .slice none 0 0] } := .mk' (by kernel_rfl) (by exact fits_struct (by kernel_rfl))
theorem tt65 : TIok Try.prog 65 { d := .slice 104, size := 1, bytes := 24, zero := [.slice none 0 0] } := .mk' (by kernel_rfl) (by show Program.underlying _ _ = _; kernel_rfl)
theorem tt89 : TIok Try.prog 89 { d := .slice 9, size := 1, bytes := 24, zero := [.slice none 0 0] } := .mk' (by kernel_rfl) (by show Program.underlying _ _ = _; kernel_rfl)
theorem tt101 : TIok Try.prog 101 { d := .struct [(0, 3, 1), (1, 50, 6)], size := 7, bytes := 120, zero := [.int .i64 0, .bool false, .slice none 0 0, .slice none 0 0, .bool false, .slice none 0 0, .slice none 0 0] } := .mk' (by kernel_rfl) (by exact fits_struct (by kernel_rfl))
theorem tt102 : TIok Try.prog 102 { d := .struct [(0, 3, 1), (1, 50, 6)], size := 7, bytes := 120, zero := [.int .i64 0, .bool false, .slice none 0 0, .slice none 0 0, .bool false, .slice none 0 0, .slice none 0 0] } := .mk' (by kernel_rfl) (by exact fits_struct (by kernel_rfl))
theorem tt103 : TIok Try.prog 103 { d := .struct [(0, 3, 1), (1, 60, 6)], size := 7, bytes := 120, zero := [.int .i64 0, .bool false, .slice none 0 0, .slice none 0 0, .bool false, .slice none 0 0, .slice none 0 0] } := .mk' (by kernel_rfl) (by exact fits_struct (by kernel_rfl))
theorem tt104 : TIok Try.prog 104 { d := .struct [(0, 3, 1), (1, 60, 6)], size := 7, bytes := 120, zero := [.int .i64 0, .bool false, .slice none 0 0, .slice none 0 0, .bool false, .slice none 0 0, .slice none 0 0] } := .mk' (by kernel_rfl) (by exact fits_struct (by kernel_rfl))
theorem tt141 : TIok Try.prog 141 { d := .int .u64, size := 1, bytes := 8, zero := [.int .u64 0] } := .mk' (by kernel_rfl) (by show Program.underlying _ _ = _; kernel_rfl)
theorem tt161 : TIok Try.prog 161 { d := .int .u32, size := 1, bytes := 4, zero := [.int .u32 0] } := .mk' (by kernel_rfl) (by show Program.underlying _ _ = _; kernel_rfl)
theorem tt163 : TIok Try.prog 163 { d := .int .u64, size := 1, bytes := 8, zero := [.int .u64 0] } := .mk' (by kernel_rfl) (by show Program.underlying _ _ = _; kernel_rfl)
theorem tt_ok : TTok Try.prog tt := (TTok.cons tt2 (TTok.cons tt3 (TTok.cons tt4 (TTok.cons tt5 (TTok.cons tt9 (TTok.cons tt21 (TTok.cons tt24 (TTok.cons tt25 (TTok.cons tt26 (TTok.cons tt27 (TTok.cons tt28 (TTok.cons tt29 (TTok.cons tt31 (TTok.cons tt32 (TTok.cons tt33 (TTok.cons tt36 (TTok.cons tt37 (TTok.cons tt38 (TTok.cons tt39 (TTok.cons tt44 (TTok.cons tt45 (TTok.cons tt46 (TTok.cons tt47 (TTok.cons tt48 (TTok.cons tt49 (TTok.cons tt50 (TTok.cons tt51 (TTok.cons tt52 (TTok.cons tt53 (TTok.cons tt56 (TTok.cons tt57 (TTok.cons tt58 (TTok.cons tt59 (TTok.cons tt60 (TTok.cons tt61 (TTok.cons tt62 (TTok.cons tt65 (TTok.cons tt89 (TTok.cons tt101 (TTok.cons tt102 (TTok.cons tt103 (TTok.cons tt104 (TTok.cons tt141 (TTok.cons tt161 (TTok.cons tt163 (TTok.nil _))))))))))))))))))))))))))))))))))))))))))))))
end Go.Proofs.Ytemgpfojmdncjaa
