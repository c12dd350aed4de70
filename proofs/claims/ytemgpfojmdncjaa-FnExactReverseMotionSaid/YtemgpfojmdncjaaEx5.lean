/-
  The reckoner's operations on variables: new ones, read, written. Over any program.
-/
import Derived.Test.YtemgpfojmdncjaaEx4
namespace Go.Proofs.Ytemgpfojmdncjaa
set_option linter.unusedVariables false
set_option linter.unusedSimpArgs false
open Go.RowKit

/-- A value that must be there, and what must hold. -/
def xp (X : Option (Option Prop × T)) (k : Eff → Prop) : Prop :=
  match X with
  | some (p, v) => ob p (k ⟨v, []⟩)
  | none => False
/-- The operation does what its effect says. -/
def Snd (P : Program) (Γ : Env) (al fr : Nat → Prop) (m : Maps) (a : Act) (w : World) (o : Oper) (X : (Eff → Prop) → Prop) : Prop :=
  ∀ k : Eff → Prop, X k → ∀ Q, o.wp P a w (fun a' w' => ∃ e m', k e ∧ Stp Γ al fr o.dst m a w e m' a' w') Q

def upd {α : Type} (f : Nat → α) (i : Nat) (x : α) (j : Nat) : α := if j = i then x else f j
theorem upd_same {α : Type} (f : Nat → α) (i : Nat) (x : α) : upd f i x i = x := if_pos rfl
theorem upd_other {α : Type} (f : Nat → α) (i : Nat) (x : α) {j : Nat} (h : j ≠ i) : upd f i x j = f j := if_neg h

section
variable {P : Program} {tt : TT} {Γ : Env} {n : Nat} {w0 : World} {al fr : Nat → Prop} {s : St} {m : Maps} {a : Act} {w : World} {nx : Nat} {o : Oper}

theorem snd_pure (h : R Γ n w0 al s m a w) {X : Option (Option Prop × T)} (hx : ∀ p v, X = some (p, v) → (∀ q, p = some q → q) → (execOp a.eval o).run P w = .ok (.value (v.den m)) w ∧ ∀ i ∈ v.ids, al i) :
    Snd P Γ al fr m a w o (xp X) := by
  intro k hk Q
  cases hX : X with
  | none => rw [hX] at hk; exact hk.elim
  | some pv =>
    obtain ⟨p, v⟩ := pv
    rw [hX] at hk
    obtain ⟨h1, h2⟩ := ob_elim hk
    obtain ⟨h3, h4⟩ := hx p v hX h1
    exact Oper.wp_value h3 ⟨_, m, h2, Stp.pure h v h4⟩

/-! ## A new variable -/
theorem newVar_run {t : Nat} {v : Value} : (newVar t v).run P w = .ok ⟨w.heap.size, 0, none⟩ (w.alloc (.cells v.cells t)) := by
  simp [newVar, newRow, newObj, Sem.run]
theorem Stp.newBox (h : R Γ n w0 al s m a w) {dst : Option Tmp} {t : Nat} {cs : List C} (hnx : ¬ al nx) (hf : fr nx) (hcs : ∀ c ∈ cs, ∀ i ∈ c.ids, al i) :
    ∃ m', Stp Γ al fr dst m a w ⟨.one (.one (.bp nx 0)), [(nx, .box cs)]⟩ m' (a.put dst (.pointer (some ⟨w.heap.size, 0, none⟩))) (w.alloc (.cells (cs.map (C.den m)).toArray t)) := by
  have hsame : Maps.same al m ⟨upd m.β nx w.heap.size, m.ε, upd m.π w.heap.size nx⟩ := fun i hi => ⟨upd_other _ _ _ (fun e => hnx (e ▸ hi)), rfl⟩
  refine ⟨⟨upd m.β nx w.heap.size, m.ε, upd m.π w.heap.size nx⟩, ?_, hsame, ?_, ?_, ?_, ?_, ?_⟩
  · simp [T.den, A.den, C.den, upd_same]
  · exact (Below.refl _ _).alloc h.old _
  · intro b hb _; exact Below.heap_alloc _ _ _ hb
  · intro b hb _; exact upd_other _ _ _ (by omega)
  · intro i E hE
    rw [lkp_cons] at hE
    split at hE
    · rename_i e
      subst e
      obtain rfl := Option.some.inj hE
      refine ⟨⟨by simp only [upd_same]; exact h.old, by simp only [upd_same], t, ?_⟩, .inr hf, fun j hj => ?_⟩
      · simp only [upd_same]
        rw [heap_alloc_new]
        have : cs.map (C.den ⟨upd m.β nx w.heap.size, m.ε, upd m.π w.heap.size nx⟩) = cs.map (C.den m) := List.map_congr_left fun c hc => C.den_same hsame (hcs c hc)
        rw [this]
      · simp only [En.ids, List.mem_flatMap] at hj
        obtain ⟨c, hc, hj⟩ := hj
        exact .inl (hcs c hc j hj)
    · simp [lkp] at hE
  · intro i hi
    simp [T.ids, A.ids, C.ids] at hi
    subst hi; exact .inr hf

def xbox (s : St) (nx : Nat) (x : Operand) (k : Eff → Prop) : Prop :=
  match ev s x with
  | some v =>
    match v.cs with
    | some cs => if cs.all (C.fit s) = true then k ⟨.one (.one (.bp nx 0)), [(nx, .box cs)]⟩ else False
    | none => False
  | none => False
theorem snd_box (h : R Γ n w0 al s m a w) {t : Nat} {x : Operand} (ho : o.op = .box t x) (hnx : ¬ al nx) (hf : fr nx) : Snd P Γ al fr m a w o (xbox s nx x) := by
  intro k hk Q
  unfold xbox at hk
  split at hk
  · rename_i v hv
    split at hk
    · rename_i cs hcs
      split at hk
      · rename_i hfit
        obtain ⟨e1, e2⟩ := h.ev hv
        have hfit := fun c hc => List.all_eq_true.1 hfit c hc
        have hc := T.cs_cells hcs fun c hc => h.fit (hfit c hc)
        rw [T.cs_ids hcs] at e2
        obtain ⟨m', hs⟩ := Stp.newBox h (dst := o.dst) (t := t) hnx hf fun c hc i hi => e2 i (List.mem_flatMap.2 ⟨c, hc, hi⟩)
        refine Oper.wp_value (v := .pointer (some ⟨w.heap.size, 0, none⟩)) (w' := w.alloc (.cells (cs.map (C.den m)).toArray t)) ?_ ⟨_, m', hk, hs⟩
        simp only [execOp, ho, Instr.box, Sem.run_bind, Sem.run_pure, e1]
        simp only [newVar_run, Result.andThen_ok, hc]
      · exact hk.elim
    · exact hk.elim
  · exact hk.elim

def xalloc (tt : TT) (nx : Nat) (t : Nat) (k : Eff → Prop) : Prop :=
  match lkp tt t with
  | some i => k ⟨.one (.one (.bp nx 0)), [(nx, .box (zeroC i))]⟩
  | none => False
theorem snd_alloc (hT : TTok P tt) (h : R Γ n w0 al s m a w) {t : Nat} (ho : o.op = .alloc t) (hnx : ¬ al nx) (hf : fr nx) : Snd P Γ al fr m a w o (xalloc tt nx t) := by
  intro k hk Q
  unfold xalloc at hk
  split at hk
  · rename_i i hi
    obtain ⟨z, hz, hc⟩ := (hT _ _ hi).zeroValue (w := w)
    obtain ⟨m', hs⟩ := Stp.newBox h (dst := o.dst) (t := t) (cs := zeroC i) hnx hf fun c hc j hj => by rw [zeroC_ids i c hc] at hj; cases hj
    refine Oper.wp_value (v := .pointer (some ⟨w.heap.size, 0, none⟩)) (w' := w.alloc (.cells ((zeroC i).map (C.den m)).toArray t)) ?_ ⟨_, m', hk, hs⟩
    simp only [execOp, ho, Instr.alloc, Sem.run_bind, Sem.run_pure, hz, Result.andThen_ok]
    simp only [newVar_run, Result.andThen_ok, hc, zeroC_den]
  · exact hk.elim

/-! ## A variable read -/
def xloadB (tt : TT) (s : St) (t i off : Nat) : Option T :=
  match lkp tt t, lkp s.en i with
  | some ti, some (.box cs) =>
    match sub cs off ti.size with
    | some c => T.ofCs ti.d.agg c
    | none => none
  | _, _ => none
theorem add_none (b o j : Nat) : (⟨b, o, none⟩ : Addr).add j = ⟨b, o + j, none⟩ := by
  unfold Addr.add; split
  · subst_vars; rfl
  · rfl
theorem load_run {t : Nat} {ti : TI} (ht : TIok P t ti) {b : Addr} {vs : List Value} (hl : vs.length = ti.size) (hs : ti.d.agg = false → ti.size = 1) (hc : ∀ j v, vs[j]? = some v → w.cell? (b.add j) = some v) :
    (Instr.loadAt t (.pointer (some b))).run P w = .ok (valOf ti.d.agg vs) w := by
  have h0 : (Instr.loadAt t (.pointer (some b))) = loadVar t b := by simp [Instr.loadAt, Instr.sureAddr]
  rw [h0]
  simp only [loadVar, Sem.run_bind, ht.isAgg, Result.andThen_ok]
  cases hg : ti.d.agg with
  | true =>
    have := run_loadCells_list (P := P) w b vs hc
    rw [hl] at this
    simp [ht.sizeOf, this, valOf]
  | false =>
    have h1 := hs hg
    have hv : vs[0]? = some (vs.getD 0 undef) := by
      cases vs with
      | nil => simp at hl; omega
      | cons x r => simp
    have h2 := hc 0 _ hv
    have h3 : b.add 0 = b := by simp [Addr.add]
    rw [h3] at h2
    simp [valOf, h2]
theorem xloadB_run (hT : TTok P tt) (h : R Γ n w0 al s m a w) {t i off : Nat} {v : T} (hx : xloadB tt s t i off = some v) :
    (Instr.loadAt t (.pointer (some ⟨m.β i, off, none⟩))).run P w = .ok (v.den m) w ∧ ∀ j ∈ v.ids, al j := by
  unfold xloadB at hx
  split at hx
  · rename_i ti cs hti hcs
    split at hx
    · rename_i c hc
      obtain ⟨h1, h2⟩ := T.ofCs_den m hx
      obtain ⟨⟨b1, b2, e, b3⟩, b4, b5⟩ := h.en _ _ hcs
      refine ⟨?_, fun j hj => ?_⟩
      · rw [h1]
        refine load_run (hT _ _ hti) (by simp [sub_len hc]) (fun hg => by rw [← sub_len hc]; exact h2 hg) fun j u hj => ?_
        rw [add_none]
        unfold World.cell?
        rw [b3]
        have hjl : j < ti.size := by
          have := (List.getElem?_eq_some_iff.1 hj).1
          simp [sub_len hc] at this; exact this
        simp only [List.getElem?_map, ← sub_get hc j hjl] at hj
        simpa using hj
      · rw [T.ofCs_ids hx] at hj
        obtain ⟨x, hx', hj⟩ := List.mem_flatMap.1 hj
        exact b5 j (List.mem_flatMap.2 ⟨x, sub_mem hc x hx', hj⟩)
    · cases hx
  · cases hx

/-! ## A variable written -/
def xstoreB (tt : TT) (s : St) (t i off : Nat) (v : T) (k : Eff → Prop) : Prop :=
  match lkp tt t, lkp s.en i, v.cs with
  | some ti, some (.box cs), some c =>
    if (c.all (C.fit s) && Nat.beq c.length ti.size && Nat.ble (off + ti.size) cs.length) = true then k ⟨T.ofV undef, [(i, .box (cs.take off ++ c ++ cs.drop (off + ti.size)))]⟩ else False
  | _, _, _ => False
theorem snd_storeB (hT : TTok P tt) (h : R Γ n w0 al s m a w) {t i off : Nat} {x y : Operand} {v : T} (ho : o.op = .store t x y) (hx : a.eval x = .pointer (some ⟨m.β i, off, none⟩)) (hy : a.eval y = v.den m) (hv : ∀ j ∈ v.ids, al j) :
    Snd P Γ al fr m a w o (xstoreB tt s t i off v) := by
  intro k hk Q
  unfold xstoreB at hk
  split at hk
  · rename_i ti cs c hti hcs hc
    split at hk
    · rename_i hcond
      simp only [Bool.and_eq_true, Nat.beq_eq, Nat.ble_eq] at hcond
      obtain ⟨⟨hfit, hlen⟩, hle⟩ := hcond
      have hfit := fun x hx => List.all_eq_true.1 hfit x hx
      obtain ⟨⟨b1, b2, e, b3⟩, b4, b5⟩ := h.en _ _ hcs
      have h1 : ∀ u ∈ c.map (C.den m), u.oneCell' = true := fun u hu => by
        obtain ⟨x, hx, rfl⟩ := List.mem_map.1 hu
        exact h.fit (hfit x hx)
      have hcells := T.cs_cells hc fun x hx => h.fit (hfit x hx)
      have hst := run_storeCells_at P (m.β i) off e (c.map (C.den m)) 0 _ w b3 (by simp; omega) h1
      rw [T.cs_ids hc] at hv
      refine Oper.wp_skip (w' := w.setRow (m.β i) ((cs.take off ++ c ++ cs.drop (off + ti.size)).map (C.den m)).toArray) ?_ ⟨_, m, hk, ?_⟩
      · simp only [execOp, ho, Sem.run_bind, Sem.run_pure, hx, hy, Instr.storeAt, Instr.sureAddr, storeVar, Result.andThen_ok, (hT _ _ hti).sizeOf, hcells]
        rw [if_neg (by simp [hlen])]
        rw [hst]
        simp [hlen]
      · refine ⟨rfl, fun _ _ => ⟨rfl, rfl⟩, ?_, ?_, fun _ _ _ => rfl, ?_, by simp [T.ofV, T.ids, A.ids, C.ids]⟩
        · refine ⟨rfl, rfl, rfl, by simp [World.setRow], fun b hb => ?_⟩
          simp only [World.setRow, Array.getElem?_modify]
          rw [if_neg (by omega)]
        · intro b hb hb2
          simp only [World.setRow, Array.getElem?_modify]
          by_cases e : m.β i = b
          · subst e
            rcases hb2 with hb2 | hb2
            · omega
            · exact absurd (by rw [b2]; simp [Eff.us]) hb2
          · rw [if_neg e]
        · intro j E hE
          rw [lkp_cons] at hE
          split at hE
          · rename_i e'
            subst e'
            obtain rfl := Option.some.inj hE
            refine ⟨⟨b1, b2, e, setRow_heap w _ _ _ _ _ b3⟩, .inl b4, fun j hj => ?_⟩
            simp only [En.ids, List.mem_flatMap] at hj
            obtain ⟨x, hx, hj⟩ := hj
            rcases List.mem_append.1 hx with hx | hx
            · rcases List.mem_append.1 hx with hx | hx
              · exact .inl (b5 j (List.mem_flatMap.2 ⟨x, List.mem_of_mem_take hx, hj⟩))
              · exact .inl (hv j (List.mem_flatMap.2 ⟨x, hx, hj⟩))
            · exact .inl (b5 j (List.mem_flatMap.2 ⟨x, List.mem_of_mem_drop hx, hj⟩))
          · simp [lkp] at hE
    · exact hk.elim
  · exact hk.elim
end
end Go.Proofs.Ytemgpfojmdncjaa
