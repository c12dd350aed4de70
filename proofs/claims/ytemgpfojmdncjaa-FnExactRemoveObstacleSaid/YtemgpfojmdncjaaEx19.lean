/-
  The laws' own helpers as promises: their contracts over data, wrapped. Over any program.
-/
import Derived.Test.YtemgpfojmdncjaaExB
namespace Go.Proofs.Ytemgpfojmdncjaa
set_option linter.unusedVariables false
set_option linter.unusedSimpArgs false
open Go.RowKit

/-! ## Shapes -/
mutual
def Ty.era : Ty → Ty
  | .sl _ ts => .sl 0 (Ty.eras ts)
  | .int => .int
  | .bool => .bool
  | .str => .str
def Ty.eras : List Ty → List Ty
  | [] => []
  | t :: ts => t.era :: Ty.eras ts
end
theorem Ty.eras_len : ∀ ts : List Ty, (Ty.eras ts).length = ts.length
  | [] => rfl
  | _ :: ts => by simp [Ty.eras, Ty.eras_len ts]
mutual
theorem Rd.era {w : World} : ∀ (t : Ty) (d : Dat) (v : Value), Rd w t.era d v ↔ Rd w t d v
  | .int, d, v => Iff.rfl
  | .bool, d, v => Iff.rfl
  | .str, d, v => Iff.rfl
  | .sl e ts, d, v => by
    cases d with
    | sl ls =>
      simp only [Ty.era, Rd, Ty.eras_len]
      constructor
      · rintro ⟨rows, h1, h2, h3⟩; exact ⟨rows, h1, h2, fun k hk => (RdRow.era ts _ _).1 (h3 k hk)⟩
      · rintro ⟨rows, h1, h2, h3⟩; exact ⟨rows, h1, h2, fun k hk => (RdRow.era ts _ _).2 (h3 k hk)⟩
    | _ => simp [Ty.era, Rd]
theorem RdRow.era {w : World} : ∀ (ts : List Ty) (ds : List Dat) (vs : List Value), RdRow w (Ty.eras ts) ds vs ↔ RdRow w ts ds vs
  | [], ds, vs => Iff.rfl
  | t :: ts, [], vs => by simp [Ty.eras, RdRow]
  | t :: ts, d :: ds, [] => by simp [Ty.eras, RdRow]
  | t :: ts, d :: ds, v :: vs => by simp only [Ty.eras, RdRow, Rd.era t d v, RdRow.era ts ds vs]
end
theorem RdRow.cast {w : World} {ts ts' : List Ty} {ds : List Dat} {vs : List Value} (h : RdRow w ts ds vs) (e : Ty.eras ts = Ty.eras ts') : RdRow w ts' ds vs :=
  (RdRow.era _ _ _).1 (e ▸ (RdRow.era _ _ _).2 h)

mutual
/-- A datum of the shape; every slice in it fits into memory. -/
def Dat.has : Ty → Dat → Prop
  | .int, .int _ => True
  | .bool, .bool _ => True
  | .str, .str _ => True
  | .sl _ ts, .sl ls => ls.length ≤ 9223372036854775807 ∧ ∀ k, k < ls.length → hasRow ts (ls.getD k [])
  | _, _ => False
def hasRow : List Ty → List Dat → Prop
  | [], [] => True
  | t :: ts, d :: ds => Dat.has t d ∧ hasRow ts ds
  | _, _ => False
end
mutual
theorem Rd.has {w : World} : ∀ (t : Ty) (d : Dat) (v : Value), Rd w t d v → Dat.has t d
  | .int, d, v => fun h => by cases d <;> simp [Rd, Dat.has] at h ⊢
  | .bool, d, v => fun h => by cases d <;> simp [Rd, Dat.has] at h ⊢
  | .str, d, v => fun h => by cases d <;> simp [Rd, Dat.has] at h ⊢
  | .sl e ts, d, v => fun h => by
    cases d with
    | sl ls =>
      obtain ⟨a, c, -, h1, h2, -⟩ := h.open
      simp only [Rd, Dat.has] at h ⊢
      obtain ⟨rows, _, _, h3⟩ := h
      exact ⟨by omega, fun k hk => RdRow.has ts _ _ (h3 k hk)⟩
    | _ => simp [Rd] at h
theorem RdRow.has {w : World} : ∀ (ts : List Ty) (ds : List Dat) (vs : List Value), RdRow w ts ds vs → hasRow ts ds
  | [], ds, vs => fun h => by cases ds <;> cases vs <;> simp [RdRow, hasRow] at h ⊢
  | t :: ts, [], vs => fun h => by simp [RdRow] at h
  | t :: ts, d :: ds, [] => fun h => by simp [RdRow] at h
  | t :: ts, d :: ds, v :: vs => fun h => by
    simp only [RdRow, hasRow] at h ⊢
    exact ⟨Rd.has t d v h.1, RdRow.has ts ds vs h.2⟩
end

/-! ## Every datum of a shape lies in some world -/
theorem alloc_below' {w : World} (o : Obj) : Below w.heap.size w (w.alloc o) := Below.alloc (Below.refl _ _) (Nat.le_refl _) _
mutual
theorem mk_rd : ∀ (t : Ty) (d : Dat) (w : World), Dat.has t d → ∃ (w' : World) (v : Value), Below w.heap.size w w' ∧ Rd w' t d v
  | .int, d, w, h => by
    cases d <;> simp [Dat.has] at h
    exact ⟨w, _, Below.refl _ _, Rd.mk_int _⟩
  | .bool, d, w, h => by
    cases d <;> simp [Dat.has] at h
    exact ⟨w, _, Below.refl _ _, Rd.mk_bool _⟩
  | .str, d, w, h => by
    cases d <;> simp [Dat.has] at h
    exact ⟨w, _, Below.refl _ _, Rd.mk_str _⟩
  | .sl e ts, d, w, h => by
    cases d with
    | sl ls =>
      simp only [Dat.has] at h
      obtain ⟨hl, hk⟩ := h
      have key : ∀ (ls : List (List Dat)) (w : World), (∀ k, k < ls.length → hasRow ts (ls.getD k [])) → ∃ (w' : World) (rows : List (List Value)), Below w.heap.size w w' ∧ rows.length = ls.length ∧ ∀ k, k < ls.length → RdRow w' ts (ls.getD k []) (rows.getD k []) := by
        intro ls
        induction ls with
        | nil => intro w _; exact ⟨w, [], Below.refl _ _, rfl, by simp⟩
        | cons r ls ih =>
          intro w hk
          obtain ⟨w1, vs, b1, r1⟩ := mk_row ts r w (by simpa using hk 0 (by simp))
          obtain ⟨w2, rows, b2, l2, r2⟩ := ih w1 (fun k hk' => by simpa using hk (k + 1) (by simpa using hk'))
          refine ⟨w2, vs :: rows, b1.trans (b2.mono b1.size), by simp [l2], fun k hk' => ?_⟩
          cases k with
          | zero => simpa using RdRow.below b2 _ _ _ r1
          | succ k => simpa using r2 k (by simpa using hk')
      obtain ⟨w1, rows, b1, l1, r1⟩ := key ls w hk
      have hrl : ∀ r ∈ rows, r.length = ts.length := fun r hr => by
        obtain ⟨k, hk, e⟩ := List.getElem_of_mem hr
        have := (RdRow.lens _ _ _ (r1 k (by omega))).2
        simp [List.getD, hk, e] at this
        have h3 := (RdRow.lens _ _ _ (r1 k (by omega))).1
        simp [List.getD, hk, e] at h3
        omega
      refine ⟨w1.alloc (.cells rows.flatten.toArray e), .slice (some ⟨w1.heap.size, 0, none⟩) ls.length ls.length, b1.trans ((alloc_below' _).mono b1.size), ?_⟩
      simp only [Rd]
      refine ⟨rows, ⟨some ⟨w1.heap.size, 0, none⟩, ls.length, by rw [l1], by omega, by unfold maxLen; omega, hrl, .inr ⟨w1.heap.size, 0, rfl, by simp, fun j hj i hi => ?_⟩⟩, l1, fun k hk => RdRow.below (alloc_below' _) _ _ _ (r1 k hk)⟩
      rw [box_cells, Nat.zero_add]
      have e1 : (j * ts.length + i) / ts.length = j := by
        rw [Nat.mul_comm, Nat.mul_add_div (by omega), Nat.div_eq_of_lt hi, Nat.add_zero]
      have e2 : (j * ts.length + i) % ts.length = i := by
        rw [Nat.mul_comm, Nat.mul_add_mod, Nat.mod_eq_of_lt hi]
      have := flatten_get rows ts.length hrl (j * ts.length + i) (by rw [e1]; exact hj) (by rw [e2]; exact hi)
      rw [e1, e2] at this
      exact this
    | _ => simp [Dat.has] at h
theorem mk_row : ∀ (ts : List Ty) (ds : List Dat) (w : World), hasRow ts ds → ∃ (w' : World) (vs : List Value), Below w.heap.size w w' ∧ RdRow w' ts ds vs
  | [], ds, w, h => by
    cases ds with
    | nil => exact ⟨w, [], Below.refl _ _, RdRow.mk_nil⟩
    | cons d ds => simp [hasRow] at h
  | t :: ts, [], w, h => by simp [hasRow] at h
  | t :: ts, d :: ds, w, h => by
    simp only [hasRow] at h
    obtain ⟨w1, v, b1, r1⟩ := mk_rd t d w h.1
    obtain ⟨w2, vs, b2, r2⟩ := mk_row ts ds w1 h.2
    exact ⟨w2, v :: vs, b1.trans (b2.mono b1.size), RdRow.mk_cons (Rd.below b2 _ _ _ r1) r2⟩
end

/-! ## Arguments -/
def DC.ty : DC → Ty
  | .im (.int _ _) => .int
  | .im (.bool _) => .bool
  | .im (.string _) => .str
  | .im _ => .int
  | .sl e ts _ => .sl e ts
def DC.dat : DC → Dat
  | .im (.int _ n) => .int n
  | .im (.bool b) => .bool b
  | .im (.string s) => .str s
  | .im _ => .sl []
  | .sl _ _ rows => .sl rows
def DC.ok : DC → Bool
  | .im (.int .i64 _) => true
  | .im (.bool _) => true
  | .im (.string _) => true
  | .im _ => false
  | .sl _ _ _ => true
def DC.rc : DC → RC
  | .im v => .im v
  | .sl e ts rows => .own e ts rows
theorem DC.im_ok {v : Value} (h : DC.ok (.im v) = true) (w : World) : Fp w (DC.ty (.im v)) (DC.dat (.im v)) v [] := by
  unfold DC.ok at h
  split at h <;> first | cases h | skip
  all_goals simp_all [DC.ty, DC.dat, Fp]
theorem args_rd {F : Nat → Prop} {w : World} {d : DC} {u : Value} (h : CellAt F w d u) (hok : d.ok = true) : Rd w d.ty d.dat u := by
  cases d with
  | im v => obtain rfl := h; exact Fp.rd _ _ _ _ (DC.im_ok hok w)
  | sl e ts rows => exact RdS.rd _ _ _ h
theorem args_row' {F : Nat → Prop} {w : World} : ∀ {dcs : List DC} {us : List Value}, us.length = dcs.length → (∀ (p : Nat) (d : DC) (u : Value), dcs[p]? = some d → us[p]? = some u → CellAt F w d u) → dcs.all DC.ok = true → RdRow w (dcs.map DC.ty) (dcs.map DC.dat) us
  | [], us, hl, _, _ => by obtain rfl := List.eq_nil_of_length_eq_zero (by simpa using hl); simp [RdRow]
  | d :: ds, [], hl, _, _ => by simp at hl
  | d :: ds, u :: us, hl, h, hok => by
    simp only [List.all_cons, Bool.and_eq_true] at hok
    simp only [List.map_cons, RdRow]
    exact ⟨args_rd (h 0 d u (by simp) (by simp)) hok.1, args_row' (by simpa using hl) (fun p d' u' hp hu => h (p + 1) d' u' (by simpa using hp) (by simpa using hu)) hok.2⟩
theorem args_row {F : Nat → Prop} {w : World} {mb : Nat → List Nat} {dcs : List DC} {us : List Value} (h : ArgsAt F w [] mb dcs us) (hok : dcs.all DC.ok = true) : RdRow w (dcs.map DC.ty) (dcs.map DC.dat) us :=
  args_row' h.len (fun p d u hp hu => h.rd p d u hp hu (by simp)) hok
theorem RdRow.split {w : World} : ∀ {t1 t2 : List Ty} {d1 d2 : List Dat} {us : List Value}, t1.length = d1.length → RdRow w (t1 ++ t2) (d1 ++ d2) us → RdRow w t1 d1 (us.take d1.length) ∧ RdRow w t2 d2 (us.drop d1.length)
  | [], t2, [], d2, us, _, h => ⟨by simp [RdRow], h⟩
  | [], _, _ :: _, _, _, hl, _ => by simp at hl
  | _ :: _, _, [], _, _, hl, _ => by simp at hl
  | t :: t1, t2, d :: d1, d2, us, hl, h => by
    obtain ⟨v, vs, rfl, h1, h2⟩ := RdRow.cons2 (by simpa using h)
    obtain ⟨i1, i2⟩ := RdRow.split (by simpa using hl) h2
    exact ⟨by simp only [List.length_cons, List.take_succ_cons, RdRow]; exact ⟨h1, i1⟩, by simpa using i2⟩

/-! ## What comes back -/
theorem own_rcs {F : Nat → Prop} {w w' : World} {all : List Nat} : ∀ {ts : List Ty} {dcs : List DC} {us : List Value} {bs : List Nat}, FpRow w' ts (dcs.map DC.dat) us bs → dcs.map DC.ty = ts → dcs.all DC.ok = true → RCsAt F w w' all (dcs.map DC.rc) us bs
  | _, [], us, bs, h, e, _ => by subst e; cases us <;> simp [FpRow, RCsAt] at h ⊢; exact h
  | _, d :: ds, [], bs, h, e, _ => by subst e; simp [FpRow] at h
  | _, d :: ds, u :: us, bs, h, e, hok => by
    subst e
    simp only [List.map_cons, FpRow] at h
    obtain ⟨b1, b2, rfl, h1, h2⟩ := h
    simp only [List.all_cons, Bool.and_eq_true] at hok
    have ih := own_rcs (F := F) (w := w) (all := all) h2 rfl hok.2
    cases d with
    | im v =>
      simp only [List.map_cons, DC.rc, RCsAt]
      have hok := hok.1
      unfold DC.ok at hok
      split at hok <;> first | cases hok | skip
      all_goals simp_all [DC.ty, DC.dat, Fp]
    | sl e ts rows =>
      simp only [List.map_cons, DC.rc, RCsAt]
      exact ⟨b1, b2, rfl, h1, ih⟩
theorem post_im {c : Con} {i : c.ι} {F : Nat → Prop} {w w' : World} {us : List Value} {mb : Nat → List Nat} {v : Value} (hmu : c.mu = []) (hr : (c.res i).cells = [.im v]) (h : Below w.heap.size w w') : c.Post i F w us mb [v] [] w' where
  res := by rw [hr]; simp [RCsAt]
  nd := List.nodup_nil
  fresh := by simp
  turned := fun j p e ts rows u hj => by rw [hmu] at hj; simp at hj
  os := h.os
  tape := h.tape
  output := h.output
  size := h.size
  keep := fun b hb _ => h.block b hb
theorem post_own {c : Con} {i : c.ι} {F : Nat → Prop} {w w' : World} {us : List Value} {mb : Nat → List Nat} {ts : List Ty} {dcs : List DC} {rs : List Value} (hmu : c.mu = []) (hr : (c.res i).cells = dcs.map DC.rc) (h : Below w.heap.size w w')
    (ho : Own w' w.heap.size w'.heap.size ts (dcs.map DC.dat) rs) (hts : dcs.map DC.ty = ts) (hok : dcs.all DC.ok = true) : ∃ bs, c.Post i F w us mb rs bs w' := by
  obtain ⟨bs, h1, h2, h3⟩ := ho
  exact ⟨bs, by rw [hr]; exact own_rcs h1 hts hok, h2, fun b hb => (h3 b hb).1, fun j p e ts rows u hj => by rw [hmu] at hj; simp at hj, h.os, h.tape, h.output, h.size, fun b hb _ => h.block b hb⟩

/-! ## The wraps -/
section
variable {P : Program} {f : Nat} {ι : Type} {pre : ι → Prop}
abbrev Enter (P : Program) (f : Nat) : Prop := ∃ fn, P.funcs[f]? = some fn ∧ fn.name ≠ "runtime.NumGoroutine" ∧ fn.body.isNone = false

theorem eqA_ok {cells : ι → List DC} (ts : List Ty) (en : Enter P f) (hok : ∀ i, (cells i).all DC.ok = true) (hts : ∀ i, Ty.eras ((cells i).map DC.ty) = Ty.eras ts)
    (hc : ∀ ds vs us w, RdRow w ts ds vs → RdRow w ts ds us → Calls P f #[.agg vs.toArray, .agg us.toArray] w fun e w' => e = .returned (.bool true) ∧ Below w.heap.size w w') :
    Con.Ok P f { ι := ι, pre := pre, args := fun i => [.agg (cells i), .agg (cells i)], res := fun _ => ⟨false, [none], [.im (.bool true)]⟩ } where
  enter := en
  small := fun _ => by simp
  calls := by
    intro i _ F w us mb h
    have hr := args_row h (by simp [DA.cells, hok])
    simp only [List.flatMap_cons, List.flatMap_nil, DA.cells, List.append_nil, List.map_append] at hr
    obtain ⟨h1, h2⟩ := RdRow.split (by simp) hr
    have hl := (RdRow.lens _ _ _ h2).2
    simp only [List.length_map] at h1 h2 hl
    simp only [valD]
    rw [List.take_of_length_le (by rw [List.length_drop] at hl ⊢; omega : ((us.drop (cells i).length)).length ≤ _)]
    refine (hc _ _ _ _ (h1.cast (hts i)) (h2.cast (hts i))).mono ?_
    rintro e w' ⟨rfl, hb⟩
    exact ⟨[.bool true], [], rfl, post_im rfl rfl hb⟩
theorem eqO_ok {cell : ι → DC} (t : Ty) (en : Enter P f) (hok : ∀ i, (cell i).ok = true) (hts : ∀ i, (cell i).ty.era = t.era)
    (hc : ∀ d v u w, Rd w t d v → Rd w t d u → Calls P f #[v, u] w fun e w' => e = .returned (.bool true) ∧ Below w.heap.size w w') :
    Con.Ok P f { ι := ι, pre := pre, args := fun i => [.one (cell i), .one (cell i)], res := fun _ => ⟨false, [none], [.im (.bool true)]⟩ } where
  enter := en
  small := fun _ => by simp
  calls := by
    intro i _ F w us mb h
    have hr := args_row h (by simp [DA.cells, hok])
    simp only [List.flatMap_cons, List.flatMap_nil, DA.cells, List.append_nil, List.map_append, List.map_cons, List.map_nil, List.cons_append, List.nil_append] at hr
    obtain ⟨v, vs, rfl, h1, hr⟩ := RdRow.cons2 hr
    obtain ⟨u, vs, rfl, h2, hr⟩ := RdRow.cons2 hr
    obtain ⟨-, rfl⟩ := RdRow.nil_inv hr
    refine (hc _ _ _ _ ((Rd.era _ _ _).1 (hts i ▸ (Rd.era _ _ _).2 h1)) ((Rd.era _ _ _).1 (hts i ▸ (Rd.era _ _ _).2 h2))).mono ?_
    rintro e w' ⟨rfl, hb⟩
    exact ⟨[.bool true], [], rfl, post_im rfl rfl hb⟩
theorem heldA_ok {cells : ι → List DC} {k : ι → Int} {r : ι → Int} (ts : List Ty) (en : Enter P f) (hok : ∀ i, (cells i).all DC.ok = true) (hts : ∀ i, Ty.eras ((cells i).map DC.ty) = Ty.eras ts)
    (src : ι → List Dat) (hsrc : ∀ i, (cells i).map DC.dat = mkV (k i) (src i)) (hr : ∀ i, r i = k i + (cntV (src i) : Int)) (hpre : ∀ i, pre i → 0 ≤ k i ∧ k i + (cntV (src i) : Int) ≤ 4611686018427387904 ∧ hasRow ts (src i))
    (hc : ∀ ds k, 0 ≤ k → k + (cntV ds : Int) ≤ 4611686018427387904 → ∀ w0 vs0, RdRow w0 ts ds vs0 → ∀ vs w, RdRow w ts (mkV k ds) vs → Calls P f #[.agg vs.toArray, .int .i64 k] w fun e w' => e = .returned (.int .i64 (k + (cntV ds : Int))) ∧ Below w.heap.size w w') :
    Con.Ok P f { ι := ι, pre := pre, args := fun i => [.agg (cells i), .one (.im (.int .i64 (k i)))], res := fun i => ⟨false, [none], [.im (.int .i64 (r i))]⟩ } where
  enter := en
  small := fun _ => by simp
  calls := by
    intro i hp F w us mb h
    obtain ⟨k0, k1, h0⟩ := hpre i hp
    obtain ⟨w0, vs0, -, h0⟩ := mk_row _ _ w h0
    have hr' := args_row h (by simp [DA.cells, hok, DC.ok])
    simp only [List.flatMap_cons, List.flatMap_nil, DA.cells, List.append_nil, List.map_append] at hr'
    obtain ⟨h1, h2⟩ := RdRow.split (by simp) hr'
    simp only [List.length_map, List.map_cons, List.map_nil] at h1 h2
    obtain ⟨v, vs, e1, h3, h4⟩ := RdRow.cons2 h2
    simp only [DC.ty, DC.dat, Rd] at h3
    simp only [valD, e1, List.headD_cons]
    subst h3
    refine (hc _ _ k0 k1 w0 vs0 h0 _ _ (by rw [← hsrc]; exact h1.cast (hts i))).mono ?_
    rintro e w' ⟨rfl, hb⟩
    refine ⟨[.int .i64 (r i)], [], ?_, post_im rfl rfl hb⟩
    rw [hr]; rfl
theorem heldO_ok {cell : ι → DC} {k : ι → Int} {r : ι → Int} (t : Ty) (en : Enter P f) (hok : ∀ i, (cell i).ok = true) (hts : ∀ i, (cell i).ty.era = t.era)
    (src : ι → List (List Dat)) (hsrc : ∀ i, (cell i).dat = .sl (mkRows (k i) (src i))) (hr : ∀ i, r i = k i + (cntRows (src i) : Int)) (hpre : ∀ i, pre i → 0 ≤ k i ∧ k i + (cntRows (src i) : Int) ≤ 4611686018427387904 ∧ Dat.has t (.sl (src i)))
    (hc : ∀ ls k, 0 ≤ k → k + (cntRows ls : Int) ≤ 4611686018427387904 → ∀ w0 v0, Rd w0 t (.sl ls) v0 → ∀ v w, Rd w t (.sl (mkRows k ls)) v → Calls P f #[v, .int .i64 k] w fun e w' => e = .returned (.int .i64 (k + (cntRows ls : Int))) ∧ Below w.heap.size w w') :
    Con.Ok P f { ι := ι, pre := pre, args := fun i => [.one (cell i), .one (.im (.int .i64 (k i)))], res := fun i => ⟨false, [none], [.im (.int .i64 (r i))]⟩ } where
  enter := en
  small := fun _ => by simp
  calls := by
    intro i hp F w us mb h
    obtain ⟨k0, k1, h0⟩ := hpre i hp
    obtain ⟨w0, vs0, -, h0⟩ := mk_rd _ _ w h0
    have hr' := args_row h (by simp [DA.cells, hok]; rfl)
    simp only [List.flatMap_cons, List.flatMap_nil, DA.cells, List.append_nil, List.map_append, List.map_cons, List.map_nil, List.cons_append, List.nil_append] at hr'
    obtain ⟨v, vs, rfl, h1, hr'⟩ := RdRow.cons2 hr'
    obtain ⟨u, vs, rfl, h2, hr'⟩ := RdRow.cons2 hr'
    obtain ⟨-, rfl⟩ := RdRow.nil_inv hr'
    simp only [DC.ty, DC.dat, Rd] at h2
    subst h2
    refine (hc _ _ k0 k1 w0 vs0 h0 _ _ (by rw [← hsrc]; exact (Rd.era _ _ _).1 (hts i ▸ (Rd.era _ _ _).2 h1))).mono ?_
    rintro e w' ⟨rfl, hb⟩
    refine ⟨[.int .i64 (r i)], [], ?_, post_im rfl rfl hb⟩
    rw [hr]; rfl
theorem toA_ok {cells out : ι → List DC} {sh : ι → List (Option Nat)} {rc : ι → List RC} (ts : List Ty) (en : Enter P f) (hok : ∀ i, (cells i).all DC.ok = true) (hts : ∀ i, Ty.eras ((cells i).map DC.ty) = Ty.eras ts)
    (hd : ∀ i, (out i).map DC.dat = (cells i).map DC.dat) (hto : ∀ i, (out i).map DC.ty = ts) (hoo : ∀ i, (out i).all DC.ok = true) (hrc : ∀ i, rc i = (out i).map DC.rc) (hsh : ∀ i, sh i = [some (rc i).length]) (hsm : ∀ i, (rc i).length ≤ 32)
    (hpre : ∀ i, pre i → szRow ((cells i).map DC.dat) ≤ 1048576)
    (hc : ∀ ds, szRow ds ≤ 1048576 → ∀ vs w, RdRow w ts ds vs → Calls P f #[.agg vs.toArray] w fun e w' => ∃ us : List Value, e = .returned (.agg us.toArray) ∧ Own w' w.heap.size w'.heap.size ts ds us ∧ Below w.heap.size w w') :
    Con.Ok P f { ι := ι, pre := pre, args := fun i => [.agg (cells i)], res := fun i => ⟨false, sh i, rc i⟩ } where
  enter := en
  small := hsm
  calls := by
    intro i hp F w us mb h
    have hr := args_row h (by simp [DA.cells, hok])
    have hr := hr.cast (ts' := ts) (by simpa [DA.cells] using hts i)
    simp only [List.flatMap_cons, List.flatMap_nil, DA.cells, List.append_nil] at hr
    have hl := (RdRow.lens _ _ _ hr).2
    have hld := RdRow.lens _ _ _ hr
    simp only [valD]
    have hl2 : us.length = (cells i).length := by simpa [DA.cells] using h.len
    rw [List.take_of_length_le (by omega)]
    refine (hc _ (hpre i hp) _ _ hr).mono ?_
    rintro e w' ⟨rs, rfl, ho, hb⟩
    rw [← hd i] at ho
    obtain ⟨bs, hpost⟩ := post_own (c := { ι := ι, pre := pre, args := fun i => [.agg (cells i)], res := fun i => ⟨false, sh i, rc i⟩ }) (i := i) (F := F) (us := us) (mb := mb) rfl (hrc i) hb ho (hto i) (hoo i)
    refine ⟨rs, bs, ?_, hpost⟩
    have hlo := (RdRow.lens _ _ _ ho.rd).1
    have hlo2 := (RdRow.lens _ _ _ ho.rd).2
    simp only [RT.val, hsh, valA]
    rw [List.take_of_length_le (by rw [hrc]; simp at hlo hlo2 ⊢; omega)]
    rfl
theorem toO_ok {cell : ι → DC} {rows : ι → List (List Dat)} (e : Nat) (ts : List Ty) (en : Enter P f) (hok : ∀ i, (cell i).ok = true) (hts : ∀ i, (cell i).ty.era = Ty.era (.sl e ts))
    (hd : ∀ i, (cell i).dat = .sl (rows i))
    (hpre : ∀ i, pre i → (rows i).length + szRows (rows i) ≤ 1048576)
    (hc : ∀ ls, ls.length + szRows ls ≤ 1048576 → ∀ v w, Rd w (.sl e ts) (.sl ls) v → Calls P f #[v] w fun en w' => ∃ u : Value, en = .returned u ∧ Own w' w.heap.size w'.heap.size [.sl e ts] [.sl ls] [u] ∧ Below w.heap.size w w') :
    Con.Ok P f { ι := ι, pre := pre, args := fun i => [.one (cell i)], res := fun i => ⟨false, [none], [.own e ts (rows i)]⟩ } where
  enter := en
  small := fun _ => by simp
  calls := by
    intro i hp F w us mb h
    have hr := args_row h (by simp [DA.cells, hok])
    simp only [List.flatMap_cons, List.flatMap_nil, DA.cells, List.append_nil, List.map_cons, List.map_nil] at hr
    obtain ⟨v, vs, rfl, h1, hr⟩ := RdRow.cons2 hr
    obtain ⟨-, rfl⟩ := RdRow.nil_inv hr
    rw [hd] at h1
    refine (hc _ (hpre i hp) _ _ ((Rd.era _ _ _).1 (hts i ▸ (Rd.era _ _ _).2 h1))).mono ?_
    rintro e' w' ⟨u, rfl, ho, hb⟩
    obtain ⟨bs, hpost⟩ := post_own (c := { ι := ι, pre := pre, args := fun i => [.one (cell i)], res := fun i => ⟨false, [none], [.own e ts (rows i)]⟩ }) (i := i) (F := F) (us := [v]) (mb := mb) (dcs := [.sl e ts (rows i)]) rfl rfl hb ho rfl rfl
    exact ⟨[u], bs, rfl, hpost⟩
end

/-! ## Marks -/
/-- No slice lies in what the slice holds. -/
def Ty.flat : Ty → Bool
  | .sl _ ts => ts.all Ty.leaf
  | _ => true
def oneNest : List Ty → Bool
  | [] => true
  | t :: r => if t.flat = true then oneNest r else r.all Ty.flat
theorem oneNest_flat : ∀ {l : List Ty}, l.all Ty.flat = true → oneNest l = true
  | [], _ => rfl
  | t :: l, hn => by
    simp only [List.all_cons, Bool.and_eq_true] at hn
    simp only [oneNest, hn.1, if_true]
    exact oneNest_flat hn.2
theorem FpRow.leaf_nil {w : World} : ∀ {ts : List Ty} {ds : List Dat} {vs : List Value} {bs : List Nat}, FpRow w ts ds vs bs → ts.all Ty.leaf = true → bs = []
  | [], ds, vs, bs, h, _ => by cases ds <;> cases vs <;> simp [FpRow] at h; exact h
  | t :: ts, [], vs, bs, h, _ => by simp [FpRow] at h
  | t :: ts, d :: ds, [], bs, h, _ => by simp [FpRow] at h
  | t :: ts, d :: ds, v :: vs, bs, h, hl => by
    simp only [FpRow] at h
    obtain ⟨b1, b2, rfl, h1, h2⟩ := h
    simp only [List.all_cons, Bool.and_eq_true] at hl
    rw [h1.leaf_nil hl.1, FpRow.leaf_nil h2 hl.2]; rfl
def Ty.top (t : Ty) (v : Value) : List Nat :=
  match t with
  | .sl _ _ => v.ownBlock.toList
  | _ => []
theorem Fp.flat_eq {w : World} {t : Ty} {d : Dat} {v : Value} {bs : List Nat} (h : Fp w t d v bs) (hl : t.flat = true) : bs = t.top v := by
  cases t with
  | sl e ts =>
    cases d with
    | sl ls =>
      simp only [Fp] at h
      obtain ⟨rows, bss, h1, h2, h3, h4, h5, rfl⟩ := h
      have : bss.flatten = [] := by
        rw [List.flatten_eq_nil_iff]
        intro l hl'
        obtain ⟨k, hk, rfl⟩ := List.getElem_of_mem hl'
        have := FpRow.leaf_nil (h5 k (by omega)) hl
        simpa [List.getD, hk] using this
      simp [this, Ty.top]
    | _ => simp [Fp] at h
  | _ => exact h.leaf_nil rfl
theorem FpRow.flat_eq {w w' : World} : ∀ {ts : List Ty} {ds ds' : List Dat} {vs : List Value} {bs bs' : List Nat}, FpRow w ts ds vs bs → FpRow w' ts ds' vs bs' → ts.all Ty.flat = true → bs = bs'
  | [], ds, ds', vs, bs, bs', h, h', _ => by cases ds <;> cases ds' <;> cases vs <;> simp [FpRow] at h h'; rw [h, h']
  | t :: ts, [], _, vs, bs, _, h, _, _ => by simp [FpRow] at h
  | t :: ts, _ :: _, [], vs, bs, _, h, h', _ => by cases vs <;> simp [FpRow] at h'
  | t :: ts, d :: ds, d' :: ds', [], bs, _, h, _, _ => by simp [FpRow] at h
  | t :: ts, d :: ds, d' :: ds', v :: vs, bs, bs', h, h', hl => by
    simp only [FpRow] at h h'
    obtain ⟨b1, b2, rfl, h1, h2⟩ := h
    obtain ⟨c1, c2, rfl, g1, g2⟩ := h'
    simp only [List.all_cons, Bool.and_eq_true] at hl
    rw [FpRow.flat_eq h2 g2 hl.2, h1.flat_eq hl.1, g1.flat_eq hl.1]
def slPos : List DC → Nat → List Nat
  | [], _ => []
  | .im _ :: r, p => slPos r (p + 1)
  | .sl _ _ _ :: r, p => p :: slPos r (p + 1)
theorem slPos_ge : ∀ {dcs : List DC} {p0 j p : Nat}, (slPos dcs p0)[j]? = some p → p0 ≤ p
  | [], p0, j, p, h => by simp [slPos] at h
  | .im _ :: r, p0, j, p, h => by have := slPos_ge (dcs := r) (p0 := p0 + 1) (by simpa [slPos] using h); omega
  | .sl _ _ _ :: r, p0, 0, p, h => by simp [slPos] at h; omega
  | .sl _ _ _ :: r, p0, j + 1, p, h => by have := slPos_ge (dcs := r) (p0 := p0 + 1) (j := j) (by simpa [slPos] using h); omega
def mbs (mb : Nat → List Nat) (j0 n : Nat) : List Nat := (List.range n).flatMap fun j => mb (j0 + j)
theorem mbs_succ (mb : Nat → List Nat) (j0 n : Nat) : mbs mb j0 (n + 1) = mb j0 ++ mbs mb (j0 + 1) n := by
  unfold mbs
  rw [List.range_succ_eq_map]
  simp [List.flatMap_map, Nat.add_assoc, Nat.add_comm 1]
theorem mbs_mem {mb : Nat → List Nat} {j0 n b : Nat} : b ∈ mbs mb j0 n ↔ ∃ j, j < n ∧ b ∈ mb (j0 + j) := by simp [mbs]
theorem mbs_nodup {mb : Nat → List Nat} : ∀ {n j0 : Nat}, (∀ j, j < n → (mb (j0 + j)).Nodup) → (∀ i j b, i ≠ j → i < n → j < n → b ∈ mb (j0 + i) → b ∉ mb (j0 + j)) → (mbs mb j0 n).Nodup
  | 0, j0, _, _ => by simp [mbs]
  | n + 1, j0, h1, h2 => by
    rw [mbs_succ]
    refine List.nodup_append.2 ⟨h1 0 (by omega), mbs_nodup (fun j hj => by have := h1 (j + 1) (by omega); rwa [show j0 + (j + 1) = j0 + 1 + j by omega] at this) (fun i j b hij hi hj hb => by
      have := h2 (i + 1) (j + 1) b (by omega) (by omega) (by omega); rw [show j0 + (i + 1) = j0 + 1 + i by omega, show j0 + (j + 1) = j0 + 1 + j by omega] at this; exact this hb), fun a ha b hb e => ?_⟩
    subst e
    obtain ⟨j, hj, hb⟩ := mbs_mem.1 hb
    exact h2 0 (j + 1) a (by omega) (by omega) (by omega) ha (by rwa [show j0 + (j + 1) = j0 + 1 + j by omega])
theorem marks_row {F : Nat → Prop} {w : World} {mb : Nat → List Nat} : ∀ {dcs : List DC} {us : List Value} {p0 j0 : Nat}, us.length = dcs.length → dcs.all DC.ok = true → (∀ (p : Nat) (v u : Value), dcs[p]? = some (DC.im v) → us[p]? = some u → u = v) →
    (∀ (j p : Nat), (slPos dcs p0)[j]? = some p → ∃ (e : Nat) (ts : List Ty) (rows : List (List Dat)) (u : Value), dcs[p - p0]? = some (.sl e ts rows) ∧ us[p - p0]? = some u ∧ Fp w (.sl e ts) (.sl rows) u (mb (j0 + j))) → FpRow w (dcs.map DC.ty) (dcs.map DC.dat) us (mbs mb j0 (slPos dcs p0).length)
  | [], us, p0, j0, hl, _, _, _ => by obtain rfl := List.eq_nil_of_length_eq_zero (by simpa using hl); simp [FpRow, slPos, mbs]
  | d :: ds, [], _, _, hl, _, _, _ => by simp at hl
  | .im v :: ds, u :: us, p0, j0, hl, hok, hi, hs => by
    simp only [List.all_cons, Bool.and_eq_true] at hok
    obtain rfl := hi 0 v u (by simp) (by simp)
    simp only [List.map_cons, FpRow, slPos]
    refine ⟨[], _, rfl, DC.im_ok hok.1 w, marks_row (F := F) (by simpa using hl) hok.2 (fun p v' u' hp hu => hi (p + 1) v' u' (by simpa using hp) (by simpa using hu)) fun j p hj => ?_⟩
    obtain ⟨e, ts, rows, u', h1, h2, h3⟩ := hs j p (by simpa [slPos] using hj)
    have hge := slPos_ge hj
    rw [show p - p0 = p - (p0 + 1) + 1 by omega] at h1 h2
    exact ⟨e, ts, rows, u', by simpa using h1, by simpa using h2, h3⟩
  | .sl e ts rows :: ds, u :: us, p0, j0, hl, hok, hi, hs => by
    simp only [List.all_cons, Bool.and_eq_true] at hok
    simp only [List.map_cons, FpRow, slPos, List.length_cons, mbs_succ]
    obtain ⟨e', ts', rows', u', h1, h2, h3⟩ := hs 0 p0 (by simp [slPos])
    simp only [Nat.sub_self, List.getElem?_cons_zero, Option.some.injEq, DC.sl.injEq] at h1 h2
    obtain ⟨rfl, rfl, rfl⟩ := h1
    subst h2
    refine ⟨_, _, rfl, h3, marks_row (F := F) (by simpa using hl) hok.2 (fun p v' u' hp hu => hi (p + 1) v' u' (by simpa using hp) (by simpa using hu)) fun j p hj => ?_⟩
    obtain ⟨e, ts, rows, u', h1, h2, h3⟩ := hs (j + 1) p (by simpa [slPos] using hj)
    have hge := slPos_ge hj
    rw [show p - p0 = p - (p0 + 1) + 1 by omega] at h1 h2
    exact ⟨e, ts, rows, u', by simpa using h1, by simpa using h2, by rwa [show j0 + (j + 1) = j0 + 1 + j by omega] at h3⟩
/-- The rows of the slices. -/
def slRows : List Dat → List (List (List Dat))
  | [] => []
  | .sl r :: ds => r :: slRows ds
  | _ :: ds => slRows ds
theorem marks_back {w w' : World} {mb : Nat → List Nat} : ∀ {dcs : List DC} {ds' : List Dat} {us : List Value} {p0 j0 : Nat}, FpRow w (dcs.map DC.ty) (dcs.map DC.dat) us (mbs mb j0 (slPos dcs p0).length) → FpRow w' (dcs.map DC.ty) ds' us (mbs mb j0 (slPos dcs p0).length) → oneNest (dcs.map DC.ty) = true → dcs.all DC.ok = true →
    (∀ (j p e : Nat) (ts : List Ty) (rows : List (List Dat)) (u : Value), (slPos dcs p0)[j]? = some p → dcs[p - p0]? = some (.sl e ts rows) → us[p - p0]? = some u → Fp w (.sl e ts) (.sl rows) u (mb (j0 + j))) →
    ∀ (j p e : Nat) (ts : List Ty) (rows : List (List Dat)) (u : Value), (slPos dcs p0)[j]? = some p → dcs[p - p0]? = some (.sl e ts rows) → us[p - p0]? = some u → Fp w' (.sl e ts) (.sl ((slRows ds').getD j [])) u (mb (j0 + j))
  | [], ds', us, p0, j0, _, _, _, _, _, j, p, e, ts, rows, u, hj, _, _ => by simp [slPos] at hj
  | d :: dcs, [], us, p0, j0, _, h', _, _, _, j, p, e, ts, rows, u, hj, _, _ => by cases us <;> simp [FpRow] at h'
  | d :: dcs, _ :: _, [], p0, j0, h, _, _, _, _, j, p, e, ts, rows, u, hj, _, _ => by simp [FpRow] at h
  | .im v :: dcs, d' :: ds', u0 :: us, p0, j0, h, h', hn, hok, hm, j, p, e, ts, rows, u, hj, hd, hu => by
    simp only [List.all_cons, Bool.and_eq_true] at hok
    simp only [List.map_cons, FpRow, slPos] at h h' hj hm
    obtain ⟨b1, b2, e1, h1, h2⟩ := h
    obtain ⟨c1, c2, e2, g1, g2⟩ := h'
    have hleaf : (DC.ty (.im v)).leaf = true := by unfold DC.ty; split <;> simp_all [Ty.leaf]
    have hflat : (DC.ty (.im v)).flat = true := by unfold DC.ty; split <;> simp_all [Ty.flat]
    rw [h1.leaf_nil hleaf, List.nil_append] at e1
    rw [g1.leaf_nil hleaf, List.nil_append] at e2
    rw [← e1] at h2
    rw [← e2] at g2
    have hge := slPos_ge hj
    have hnosl : slRows (d' :: ds') = slRows ds' := by
      cases d' with
      | sl l => exfalso; unfold DC.ty at g1; split at g1 <;> simp_all [Fp]
      | _ => rfl
    rw [hnosl]
    rw [show p - p0 = p - (p0 + 1) + 1 by omega] at hd hu
    simp only [List.map_cons, oneNest, hflat, if_true] at hn
    refine marks_back h2 g2 hn hok.2 (fun j p e ts rows u hj hd hu => ?_) j p e ts rows u hj (by simpa using hd) (by simpa using hu)
    have hge := slPos_ge hj
    exact hm j p e ts rows u hj (by rw [show p - p0 = p - (p0 + 1) + 1 by omega]; simpa using hd) (by rw [show p - p0 = p - (p0 + 1) + 1 by omega]; simpa using hu)
  | .sl e0 ts0 rows0 :: dcs, d' :: ds', u0 :: us, p0, j0, h, h', hn, hok, hm, j, p, e, ts, rows, u, hj, hd, hu => by
    simp only [List.all_cons, Bool.and_eq_true] at hok
    have hm0 := hm 0 p0 e0 ts0 rows0 u0 (by simp [slPos]) (by simp) (by simp)
    simp only [List.map_cons, FpRow, slPos, List.length_cons, mbs_succ, DC.ty] at h h' hj hm hn
    obtain ⟨b1, b2, e1, h1, h2⟩ := h
    obtain ⟨c1, c2, e2, g1, g2⟩ := h'
    have key : b1 = mb j0 ∧ c1 = mb j0 ∧ b2 = mbs mb (j0 + 1) (slPos dcs (p0 + 1)).length ∧ c2 = mbs mb (j0 + 1) (slPos dcs (p0 + 1)).length ∧ oneNest (dcs.map DC.ty) = true := by
      simp only [oneNest] at hn
      split at hn
      · rename_i hf
        have q1 := h1.flat_eq hf
        have q2 := g1.flat_eq hf
        have q3 := hm0.flat_eq hf
        rw [Nat.add_zero] at q3
        rw [q1, q3] at e1
        rw [q2, q3] at e2
        exact ⟨by rw [q1, q3], by rw [q2, q3], (List.append_cancel_left e1).symm, (List.append_cancel_left e2).symm, hn⟩
      · have q1 : b2 = c2 := h2.flat_eq g2 hn
        have q0 : FpRow w (dcs.map DC.ty) (dcs.map DC.dat) us (mbs mb (j0 + 1) (slPos dcs (p0 + 1)).length) := by
          have hlen : us.length = dcs.length := by have := RdRow.lens _ _ _ (FpRow.rd _ _ _ _ h2); simp at this; omega
          refine marks_row (F := fun _ => True) hlen hok.2 (fun p v u hp hu => ?_) fun j p hj => ?_
          · -- the numbers
            have key2 : ∀ {dcs : List DC} {us : List Value} {bs : List Nat}, FpRow w (dcs.map DC.ty) (dcs.map DC.dat) us bs → dcs.all DC.ok = true → ∀ (p : Nat) (v u : Value), dcs[p]? = some (DC.im v) → us[p]? = some u → u = v := by
              intro dcs
              induction dcs with
              | nil => intro us bs _ _ p v u hp; simp at hp
              | cons d dcs ih =>
                intro us bs h hok p v u hp hu
                cases us with
                | nil => simp at hu
                | cons u0 us =>
                  simp only [List.map_cons, FpRow] at h
                  obtain ⟨b1, b2, rfl, h1, h2⟩ := h
                  simp only [List.all_cons, Bool.and_eq_true] at hok
                  cases p with
                  | zero =>
                    simp only [List.getElem?_cons_zero, Option.some.injEq] at hp hu
                    subst hp; subst hu
                    have := DC.im_ok hok.1 w
                    have a1 := Fp.rd _ _ _ _ h1
                    have a2 := Fp.rd _ _ _ _ this
                    have hok := hok.1
                    unfold DC.ok at hok
                    split at hok <;> first | cases hok | skip
                    all_goals simp_all [DC.ty, DC.dat, Rd]
                  | succ p => exact ih h2 hok.2 p v u (by simpa using hp) (by simpa using hu)
            exact key2 h2 hok.2 p v u hp hu
          · have hge := slPos_ge hj
            have hmem : ∀ {dcs : List DC} {p0 j p : Nat}, (slPos dcs p0)[j]? = some p → ∃ e ts rows, dcs[p - p0]? = some (.sl e ts rows) := by
              intro dcs
              induction dcs with
              | nil => intro p0 j p h; simp [slPos] at h
              | cons d dcs ih =>
                intro p0 j p h
                cases d with
                | im v =>
                  have h := (by simpa [slPos] using h : (slPos dcs (p0 + 1))[j]? = some p)
                  have := slPos_ge h
                  obtain ⟨e, ts, rows, q⟩ := ih h
                  exact ⟨e, ts, rows, by rw [show p - p0 = p - (p0 + 1) + 1 by omega]; simpa using q⟩
                | sl e ts rows =>
                  cases j with
                  | zero => simp [slPos] at h; subst h; exact ⟨e, ts, rows, by simp⟩
                  | succ j =>
                    have h := (by simpa [slPos] using h : (slPos dcs (p0 + 1))[j]? = some p)
                    have := slPos_ge h
                    obtain ⟨e, ts, rows, q⟩ := ih h
                    exact ⟨e, ts, rows, by rw [show p - p0 = p - (p0 + 1) + 1 by omega]; simpa using q⟩
            obtain ⟨e, ts, rows, q⟩ := hmem hj
            have hlt : p - (p0 + 1) < us.length := by
              have := (List.getElem?_eq_some_iff.1 q).1
              omega
            refine ⟨e, ts, rows, us[p - (p0 + 1)], q, by simp [hlt], ?_⟩
            have := hm (j + 1) p e ts rows us[p - (p0 + 1)] (by simpa using hj) (by rw [show p - p0 = p - (p0 + 1) + 1 by omega]; simpa using q) (by rw [show p - p0 = p - (p0 + 1) + 1 by omega]; simp [hlt])
            rwa [show j0 + (j + 1) = j0 + 1 + j by omega] at this
        have q2 : b2 = mbs mb (j0 + 1) (slPos dcs (p0 + 1)).length := h2.flat_eq q0 hn
        have q3 : c2 = mbs mb (j0 + 1) (slPos dcs (p0 + 1)).length := q1 ▸ q2
        rw [q2] at e1
        rw [q3] at e2
        refine ⟨(List.append_cancel_right e1).symm, (List.append_cancel_right e2).symm, q2, q3, ?_⟩
        exact oneNest_flat hn
    obtain ⟨rfl, rfl, rfl, rfl, hn2⟩ := key
    cases d' with
    | sl l =>
      cases j with
      | zero =>
        simp only [List.getElem?_cons_zero, Option.some.injEq] at hj
        subst hj
        simp only [Nat.sub_self, List.getElem?_cons_zero, Option.some.injEq, DC.sl.injEq] at hd hu
        obtain ⟨rfl, rfl, rfl⟩ := hd
        subst hu
        simpa [slRows] using g1
      | succ j =>
        have hj := (by simpa using hj : (slPos dcs (p0 + 1))[j]? = some p)
        have hge := slPos_ge hj
        rw [show p - p0 = p - (p0 + 1) + 1 by omega] at hd hu
        have := marks_back h2 g2 hn2 hok.2 (fun j p e ts rows u hj hd hu => ?_) j p e ts rows u hj (by simpa using hd) (by simpa using hu)
        · rw [show j0 + (j + 1) = j0 + 1 + j by omega]; simpa [slRows] using this
        · have hge := slPos_ge hj
          have := hm (j + 1) p e ts rows u (by simpa using hj) (by rw [show p - p0 = p - (p0 + 1) + 1 by omega]; simpa using hd) (by rw [show p - p0 = p - (p0 + 1) + 1 by omega]; simpa using hu)
          rwa [show j0 + (j + 1) = j0 + 1 + j by omega] at this
    | _ => simp [Fp] at g1
theorem slPos_len_lt {dcs : List DC} : ∀ {p0 j p : Nat}, (slPos dcs p0)[j]? = some p → p < p0 + dcs.length := by
  induction dcs with
  | nil => intro p0 j p h; simp [slPos] at h
  | cons d dcs ih =>
    intro p0 j p h
    cases d with
    | im v => have := ih (p0 := p0 + 1) (by simpa [slPos] using h); simp; omega
    | sl e ts rows =>
      cases j with
      | zero => simp [slPos] at h; simp; omega
      | succ j => have := ih (p0 := p0 + 1) (j := j) (by simpa [slPos] using h); simp; omega

section
variable {P : Program} {f : Nat} {ι : Type} {pre : ι → Prop}
theorem markA_ok {cells : ι → List DC} {k r : ι → Int} {mu : List Nat} {new : ι → List (List (List Dat))} (ts : List Ty) (en : Enter P f) (hok : ∀ i, (cells i).all DC.ok = true) (hts : ∀ i, (cells i).map DC.ty = ts) (hn : oneNest ts = true)
    (hmu : ∀ i, slPos (cells i) 0 = mu) (hnew : ∀ i, slRows (mkV (k i) ((cells i).map DC.dat)) = new i) (hr : ∀ i, r i = k i + (cntV ((cells i).map DC.dat) : Int)) (hpre : ∀ i, pre i → 0 ≤ k i ∧ k i + (cntV ((cells i).map DC.dat) : Int) ≤ 4611686018427387904)
    (hc : ∀ ds k, 0 ≤ k → k + (cntV ds : Int) ≤ 4611686018427387904 → ∀ bs : List Nat, bs.Nodup → ∀ vs w, FpRow w ts ds vs bs → Calls P f #[.agg vs.toArray, .int .i64 k] w fun e w' => e = .returned (.int .i64 (k + (cntV ds : Int))) ∧ FpRow w' ts (mkV k ds) vs bs ∧ OnlyIn (fun b => b ∈ bs) w w') :
    Con.Ok P f { ι := ι, pre := pre, args := fun i => [.agg (cells i), .one (.im (.int .i64 (k i)))], mu := mu, new := new, res := fun i => ⟨false, [none], [.im (.int .i64 (r i))]⟩ } where
  enter := en
  small := fun _ => by simp
  calls := by
    intro i hp F w us mb h
    obtain ⟨k0, k1⟩ := hpre i hp
    have hlen : us.length = (cells i).length + 1 := by simpa [DA.cells] using h.len
    have hcell : ∀ {p : Nat}, p < (cells i).length → ((([DA.agg (cells i), .one (.im (.int .i64 (k i)))] : List DA).flatMap DA.cells)[p]? = (cells i)[p]? ∧ us[p]? = (us.take (cells i).length)[p]?) := by
      intro p hp
      simp only [List.flatMap_cons, List.flatMap_nil, DA.cells, List.append_nil]
      exact ⟨by rw [List.getElem?_append_left hp], by rw [List.getElem?_take_of_lt hp]⟩
    have hmu' : ∀ p ∈ mu, p < (cells i).length := fun p hp => by
      rw [← hmu i] at hp
      obtain ⟨j, hj, e⟩ := List.getElem_of_mem hp
      have := slPos_len_lt (dcs := cells i) (p0 := 0) (j := j) (p := p) (by rw [← e]; simp [hj])
      omega
    have hlast : us[(cells i).length]? = some (.int .i64 (k i)) := by
      have h1 := h.rd (cells i).length (.im (.int .i64 (k i))) us[(cells i).length] (by simp [DA.cells]) (by simp [hlen]) (fun hm => by have := hmu' _ hm; omega)
      rw [List.getElem?_eq_getElem (by omega)]
      exact congrArg some h1
    have hown : ∀ (j p e : Nat) (ts : List Ty) (rows : List (List Dat)) (u : Value), (slPos (cells i) 0)[j]? = some p → (cells i)[p - 0]? = some (.sl e ts rows) → (us.take (cells i).length)[p - 0]? = some u → Fp w (.sl e ts) (.sl rows) u (mb (0 + j)) := by
      intro j p e ts rows u hj hd hu
      rw [hmu] at hj
      have hlt := hmu' p (List.mem_of_getElem? hj)
      obtain ⟨e', ts', rows', u', g1, g2, g3, _⟩ := h.own j p hj
      simp only [Nat.sub_zero] at hd hu
      rw [(hcell hlt).1, hd] at g1
      rw [(hcell hlt).2, hu] at g2
      simp only [Option.some.injEq, DC.sl.injEq] at g1 g2
      obtain ⟨rfl, rfl, rfl⟩ := g1
      subst g2
      rw [Nat.zero_add]; exact g3
    have hfp : FpRow w ((cells i).map DC.ty) ((cells i).map DC.dat) (us.take (cells i).length) (mbs mb 0 (slPos (cells i) 0).length) := by
      refine marks_row (F := F) (by simp; omega) (hok i) (fun p v u hp hu => ?_) fun j p hj => ?_
      · have hlt := (List.getElem?_eq_some_iff.1 hp).1
        refine h.rd p (.im v) u (by rw [(hcell hlt).1, hp]) (by rw [(hcell hlt).2, hu]) (fun hm => ?_)
        obtain ⟨j, hj, e⟩ := List.getElem_of_mem hm
        obtain ⟨e', ts', rows', u', g1, _⟩ := h.own j p (by rw [← e]; simp [hj])
        rw [(hcell hlt).1, hp] at g1
        cases g1
      · have hj' := hj
        rw [hmu] at hj'
        have hlt := hmu' p (List.mem_of_getElem? hj')
        obtain ⟨e', ts', rows', u', g1, g2, g3, _⟩ := h.own j p hj'
        rw [(hcell hlt).1] at g1
        rw [(hcell hlt).2] at g2
        exact ⟨e', ts', rows', u', by simpa using g1, by simpa using g2, by rw [Nat.zero_add]; exact g3⟩
    have hnd : (mbs mb 0 (slPos (cells i) 0).length).Nodup := by
      rw [hmu]
      refine mbs_nodup (fun j hj => ?_) (fun a b x hab ha hb hx => ?_)
      · obtain ⟨_, _, _, _, _, _, _, g⟩ := h.own j mu[j] (by simp [hj])
        rwa [Nat.zero_add]
      · rw [Nat.zero_add] at hx ⊢; exact h.dis a b x hab ha hb hx
    have hvd : valD [.agg (cells i), .one (.im (.int .i64 (k i)))] us = [.agg (us.take (cells i).length).toArray, .int .i64 (k i)] := by
      simp only [valD]
      congr 2
      have : us.drop (cells i).length = [.int .i64 (k i)] := by
        rw [List.drop_eq_getElem_cons (by omega)]
        rw [List.getElem?_eq_getElem (by omega)] at hlast
        rw [Option.some.inj hlast]
        congr 1
        exact List.eq_nil_of_length_eq_zero (by simp; omega)
      rw [this]; rfl
    simp only [hvd]
    refine (hc _ _ k0 k1 _ hnd _ _ (hts i ▸ hfp)).mono ?_
    rintro e w' ⟨rfl, hf', ho⟩
    refine ⟨[.int .i64 (r i)], [], by rw [hr]; rfl, ⟨by simp [RCsAt], List.nodup_nil, by simp, fun j p e ts' rows u hj hd hu => ?_, ho.os, ho.tape, ho.output, ho.size, fun b hb hm => ho.block b hb (fun hmem => ?_)⟩⟩
    · have hj := (hj : mu[j]? = some p)
      have hlt := hmu' p (List.mem_of_getElem? hj)
      rw [(hcell hlt).2] at hu
      have hd := (hd : (([DA.agg (cells i), .one (.im (.int .i64 (k i)))] : List DA).flatMap DA.cells)[p]? = _)
      rw [(hcell hlt).1] at hd
      have := marks_back hfp ((hts i).symm ▸ hf') ((hts i).symm ▸ hn) (hok i) hown j p e ts' rows u (by rw [hmu]; exact hj) (by simpa using hd) (by simpa using hu)
      rw [hnew, Nat.zero_add] at this
      exact this
    · obtain ⟨j, hj, hb'⟩ := mbs_mem.1 hmem
      rw [hmu] at hj
      exact hm j hj (by rwa [Nat.zero_add] at hb')
theorem markO_ok {rows : ι → List (List Dat)} {k r : ι → Int} (e : Nat) (ts : List Ty) (en : Enter P f) (hr : ∀ i, r i = k i + (cntRows (rows i) : Int)) (hpre : ∀ i, pre i → 0 ≤ k i ∧ k i + (cntRows (rows i) : Int) ≤ 4611686018427387904)
    (hc : ∀ ls k, 0 ≤ k → k + (cntRows ls : Int) ≤ 4611686018427387904 → ∀ bs : List Nat, bs.Nodup → ∀ v w, Fp w (.sl e ts) (.sl ls) v bs → Calls P f #[v, .int .i64 k] w fun en w' => en = .returned (.int .i64 (k + (cntRows ls : Int))) ∧ Fp w' (.sl e ts) (.sl (mkRows k ls)) v bs ∧ OnlyIn (fun b => b ∈ bs) w w') :
    Con.Ok P f { ι := ι, pre := pre, args := fun i => [.one (.sl e ts (rows i)), .one (.im (.int .i64 (k i)))], mu := [0], new := fun i => [mkRows (k i) (rows i)], res := fun i => ⟨false, [none], [.im (.int .i64 (r i))]⟩ } where
  enter := en
  small := fun _ => by simp
  calls := by
    intro i hp F w us mb h
    obtain ⟨k0, k1⟩ := hpre i hp
    have hlen : us.length = 2 := by simpa [DA.cells] using h.len
    obtain ⟨v, u, rfl⟩ : ∃ v u, us = [v, u] := by
      match us, hlen with
      | [v, u], _ => exact ⟨v, u, rfl⟩
    obtain rfl : u = .int .i64 (k i) := h.rd 1 (.im (.int .i64 (k i))) u (by simp [DA.cells]) (by simp) (by simp)
    obtain ⟨e', ts', rows', u', g1, g2, g3, g4⟩ := h.own 0 0 (by simp)
    simp only [List.flatMap_cons, DA.cells, List.cons_append, List.getElem?_cons_zero, Option.some.injEq, DC.sl.injEq] at g1 g2
    obtain ⟨rfl, rfl, rfl⟩ := g1
    subst g2
    refine (hc _ _ k0 k1 _ g4 _ _ g3).mono ?_
    rintro en w' ⟨rfl, hf, ho⟩
    refine ⟨[.int .i64 (r i)], [], by rw [hr]; rfl, ⟨by simp [RCsAt], List.nodup_nil, by simp, fun j p e' ts' rows' u hj hd hu => ?_, ho.os, ho.tape, ho.output, ho.size, fun b hb hm => ho.block b hb (hm 0 (by simp))⟩⟩
    cases j with
    | succ j => simp at hj
    | zero =>
      simp only [List.getElem?_cons_zero, Option.some.injEq] at hj
      subst hj
      simp only [List.flatMap_cons, DA.cells, List.cons_append, List.getElem?_cons_zero, Option.some.injEq, DC.sl.injEq] at hd hu
      obtain ⟨rfl, rfl, rfl⟩ := hd
      subst hu
      exact hf
end
end Go.Proofs.Ytemgpfojmdncjaa
