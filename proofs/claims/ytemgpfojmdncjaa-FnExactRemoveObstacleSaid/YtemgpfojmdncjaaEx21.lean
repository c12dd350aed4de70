/-
  From a law's promise to its row. Over any program.
-/
import Derived.Test.YtemgpfojmdncjaaEx20
namespace Go.Proofs.Ytemgpfojmdncjaa
set_option linter.unusedVariables false
set_option linter.unusedSimpArgs false
open Go.RowKit Go.Deep Go.ChangeShapes Go.WideShapes

section
variable {P : Program}
theorem okWide_sl {w : World} {r : Reach} {base : Nat} {t e : TypeId} {v : Value} (ht : P.underlying t = some (.slice e)) (h : Value.okWide P w r base t v) : v.cells.toList = [v] := by
  simp only [Value.okWide, ht, Cell.okWide] at h
  cases v <;> simp_all [Cell.ok, Value.cells]
theorem args_of_rd {w : World} {d : DC} {u : Value} (h : Rd w d.ty d.dat u) (hok : d.ok = true) : CellAt (fun b => b < w.heap.size) w d u := by
  cases d with
  | sl e ts rows => exact RdS.of_rd _ _ _ h
  | im v =>
    have h2 := Fp.rd _ _ _ _ (DC.im_ok hok w)
    simp only [CellAt]
    unfold DC.ok at hok
    split at hok <;> first | cases hok | skip
    all_goals simp_all [DC.ty, DC.dat, Rd]
theorem args_of_row {w : World} : ∀ {dcs : List DC} {us : List Value}, RdRow w (dcs.map DC.ty) (dcs.map DC.dat) us → dcs.all DC.ok = true → us.length = dcs.length ∧ ∀ (p : Nat) (d : DC) (u : Value), dcs[p]? = some d → us[p]? = some u → CellAt (fun b => b < w.heap.size) w d u
  | [], us, h, _ => by obtain ⟨-, rfl⟩ := RdRow.nil_inv h; simp
  | d :: ds, us, h, hok => by
    simp only [List.all_cons, Bool.and_eq_true] at hok
    obtain ⟨u, us, rfl, h1, h2⟩ := RdRow.cons2 (by simpa using h)
    obtain ⟨i1, i2⟩ := args_of_row h2 hok.2
    refine ⟨by simp [i1], fun p d' u' hp hu => ?_⟩
    cases p with
    | zero => simp only [List.getElem?_cons_zero, Option.some.injEq] at hp hu; subst hp; subst hu; exact args_of_rd h1 hok.1
    | succ p => exact i2 p d' u' (by simpa using hp) (by simpa using hu)
theorem valD_agg {cs : List DC} {r : List DA} {l us : List Value} (h : l.length = cs.length) : valD (.agg cs :: r) (l ++ us) = .agg l.toArray :: valD r us := by
  simp only [valD]
  rw [List.take_left' h, List.drop_left' h]
theorem valD_one {c : DC} {r : List DA} {u : Value} {us : List Value} : valD (.one c :: r) (u :: us) = u :: valD r us := rfl
/-- A law that keeps its promise answers true, and leaves what there was. -/
theorem law_calls {c : Con} {f : Nat} (hc : c.Ok P f) (hmu : c.mu = []) (i : c.ι) (hp : c.pre i) (hres : c.res i = ⟨false, [none], [.im (.bool true)]⟩) {ts : List Ty} {ds : List Dat} {us : List Value} {w : World} (h : RdRow w ts ds us)
    (hts : Ty.eras ts = Ty.eras (((c.args i).flatMap DA.cells).map DC.ty)) (hds : ds = ((c.args i).flatMap DA.cells).map DC.dat) (hok : ((c.args i).flatMap DA.cells).all DC.ok = true) :
    Calls P f (valD (c.args i) us).toArray w fun e w' => e = .returned (.bool true) ∧ Below w.heap.size w w' := by
  subst hds
  obtain ⟨h1, h2⟩ := args_of_row (h.cast hts) hok
  refine (hc.calls i hp (fun b => b < w.heap.size) w us (fun _ => []) ⟨h1, fun _ h => h, fun p d u hd hu _ => h2 p d u hd hu, fun j p hj => ?_, fun a b x _ _ _ hx => by simp at hx, fun j b _ hb => by simp at hb⟩).mono ?_
  · rw [hmu] at hj; simp at hj
  · rintro e w' ⟨rs, bs, rfl, hpost⟩
    have hr := hpost.res
    rw [hres] at hr
    refine ⟨?_, hpost.os, hpost.tape, hpost.output, hpost.size, fun b hb => hpost.keep b hb (fun j hj => by rw [hmu] at hj; simp at hj)⟩
    rw [hres]
    cases rs with
    | nil => simp [RCsAt] at hr
    | cons r rs =>
      obtain ⟨rfl, hr⟩ := (by simpa only [RCsAt] using hr : r = _ ∧ _)
      rfl
end
end Go.Proofs.Ytemgpfojmdncjaa
