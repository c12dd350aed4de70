/-
  The reckoner's operations on variables, and on values by parts. Over any program.
-/
import Derived.Test.YtemgpfojmdncjaaEx3
import Derived.Laws.Tables
import Derived.Laws.Cells
import Derived.Laws.CopyRow
namespace Go.Proofs.Ytemgpfojmdncjaa
set_option linter.unusedVariables false
set_option linter.unusedSimpArgs false
open Go.RowKit

/-- The slice that a number stands for, if it is known: its element's type, its cells' shapes, its rows, and what it hangs on. -/
def En.sl : En → Nat → Option (Nat × List Ty × List (List Dat) × List Nat)
  | .own e ts rows, k => some (e, ts, rows, [k])
  | .top e ts rows deps, k => some (e, ts, rows, k :: deps)
  | .view e ts rows deps, _ => some (e, ts, rows, deps)
  | _, _ => none
def alive (s : St) (k : Nat) : Bool :=
  match lkp s.en k with
  | some E => (En.sl E k).isSome
  | none => false
/-- May it be a cell of a variable, of a struct? -/
def C.fit (s : St) : C → Bool
  | .im v => v.oneCell'
  | .ext k => alive s k
  | .ep _ _ _ _ => false
  | _ => true

theorem EnAt.rd {Γ : Env} {m : Maps} {w : World} {k : Nat} {E : En} {e : Nat} {ts : List Ty} {rows : List (List Dat)} {deps : List Nat} (h : EnAt Γ m w k E) (hs : En.sl E k = some (e, ts, rows, deps)) :
    ∃ F, RdS F w (.sl e ts) (.sl rows) (m.ε k) ∧ ∀ b, F b → Γ.may m deps b := by
  cases E with
  | own e' ts' rows' =>
    simp only [En.sl, Option.some.injEq, Prod.mk.injEq] at hs
    obtain ⟨rfl, rfl, rfl, rfl⟩ := hs
    obtain ⟨bs, h1, h2, h3⟩ := h
    exact ⟨_, RdS.of_fp _ _ _ _ h1, fun b hb => .inr (.inr ⟨(h3 b hb).1, by rw [(h3 b hb).2]; simp⟩)⟩
  | view e' ts' rows' deps' =>
    simp only [En.sl, Option.some.injEq, Prod.mk.injEq] at hs
    obtain ⟨rfl, rfl, rfl, rfl⟩ := hs
    exact h
  | top e' ts' rows' deps' =>
    simp only [En.sl, Option.some.injEq, Prod.mk.injEq] at hs
    obtain ⟨rfl, rfl, rfl, rfl⟩ := hs
    obtain ⟨rv, h1, h2, h3, h4, h5⟩ := h
    refine ⟨fun b => (m.ε k).ownBlock = some b ∨ Γ.may m deps' b, ?_, fun b hb => ?_⟩
    · simp only [RdS]
      refine ⟨rv, owns_SlAt h1 h3, fun _ b hv => .inl hv, h2, fun j hj => ?_⟩
      obtain ⟨F, f1, f2⟩ := h4 j hj
      exact RdRowS.mono (fun b hb => .inr (f2 b hb)) _ _ _ f1
    · rcases hb with hb | hb
      · exact .inr (.inr ⟨(h5 b hb).1, by rw [(h5 b hb).2]; simp⟩)
      · rcases hb with h | h | h
        · exact .inl h
        · exact .inr (.inl h)
        · exact .inr (.inr ⟨h.1, List.mem_cons_of_mem _ h.2⟩)
  | _ => simp [En.sl] at hs
theorem alive_sl {s : St} {k : Nat} (h : alive s k = true) : ∃ E e ts rows deps, lkp s.en k = some E ∧ En.sl E k = some (e, ts, rows, deps) := by
  unfold alive at h
  split at h
  · rename_i E hE
    obtain ⟨⟨e, ts, rows, deps⟩, hx⟩ := Option.isSome_iff_exists.1 h
    exact ⟨E, e, ts, rows, deps, hE, hx⟩
  · cases h
section
variable {Γ : Env} {n : Nat} {w0 : World} {al : Nat → Prop} {s : St} {m : Maps} {a : Act} {w : World}
theorem R.fit (h : R Γ n w0 al s m a w) {c : C} (hc : c.fit s = true) : (c.den m).oneCell' = true := by
  cases c with
  | im v => exact hc
  | bp i o => rfl
  | ep k sz i j => cases hc
  | ext k =>
    obtain ⟨E, e, ts, rows, deps, h1, h2⟩ := alive_sl hc
    obtain ⟨F, f1, _⟩ := (h.en _ _ h1).1.rd h2
    exact (RdS.rd _ _ _ f1).one
  | clo f caps => rfl
end
theorem oneCell_cells {v : Value} (h : v.oneCell' = true) : v.cells = #[v] := by
  cases v <;> first | rfl | cases h

/-- A part's cells. -/
theorem T.cs_cells {m : Maps} {v : T} {cs : List C} (h : v.cs = some cs) (h1 : ∀ c ∈ cs, (c.den m).oneCell' = true) : (v.den m).cells = (cs.map (C.den m)).toArray := by
  unfold T.cs at h
  split at h
  · simp only [Option.some.injEq] at h
    subst h
    simp only [T.den, A.den, List.map_cons, List.map_nil]
    rw [oneCell_cells (h1 _ (by simp))]
  · simp only [Option.some.injEq] at h
    subst h
    rfl
  · cases h
theorem T.cs_agg {m : Maps} {v : T} {cs : List C} (h : v.cs = some cs) : v = .one (.agg cs) ∨ ∃ c, cs = [c] ∧ v = .one (.one c) := by
  unfold T.cs at h
  split at h <;> simp only [Option.some.injEq, reduceCtorEq] at h <;> subst h
  · exact .inr ⟨_, rfl, rfl⟩
  · exact .inl rfl

/-! ## A struct by parts -/
inductive All2 {α β : Type} (p : α → β → Prop) : List α → List β → Prop where
  | nil : All2 p [] []
  | cons {x : α} {y : β} {l : List α} {r : List β} : p x y → All2 p l r → All2 p (x :: l) (y :: r)

def fillC (place : List (Nat × Nat)) : List C → List (Nat × List C) → Option (List C)
  | cells, [] => some cells
  | cells, (i, cs) :: rest =>
    match place[i]? with
    | none => none
    | some (off, size) =>
      if (Nat.beq cs.length size && Nat.ble (off + size) cells.length) = true then fillC place (cells.take off ++ cs ++ cells.drop (off + size)) rest else none
theorem foldl_set (off : Nat) : ∀ (vs : List Value) (i : Nat) (cells : Array Value), off + i + vs.length ≤ cells.size →
    ((vs.zipIdx i).foldl (fun cs x => cs.setIfInBounds (off + x.2) x.1) cells).toList = cells.toList.take (off + i) ++ vs ++ cells.toList.drop (off + i + vs.length)
  | [], i, cells, _ => by simp
  | v :: r, i, cells, h => by
    simp only [List.zipIdx_cons, List.foldl_cons]
    rw [foldl_set off r (i + 1) _ (by simp at h ⊢; omega)]
    have e := list_seg_step cells.toList (off + i) v r (by simp at h ⊢; omega)
    simpa [Array.toList_setIfInBounds, Nat.add_assoc] using e
theorem zipIdx_fold (off : Nat) (v : Array Value) (cells : Array Value) (h : off + v.size ≤ cells.size) :
    v.zipIdx.foldl (fun cs x => cs.setIfInBounds (off + x.2) x.1) cells = (cells.toList.take off ++ v.toList ++ cells.toList.drop (off + v.size)).toArray := by
  have := foldl_set off v.toList 0 cells (by simpa using h)
  apply Array.ext'
  rw [← Array.foldl_toList]
  simpa using this
theorem fillC_den (m : Maps) (place : List (Nat × Nat)) (pl : Nat → Option (Nat × Nat)) (hpl : ∀ i, pl i = place[i]?) : ∀ (parts : List (Nat × List C)) (vals : List (Nat × Value)) (cells out : List C),
    All2 (fun p v => p.1 = v.1 ∧ v.2.cells = (p.2.map (C.den m)).toArray) parts vals → fillC place cells parts = some out →
    Instr.fill pl (cells.map (C.den m)).toArray vals = some (out.map (C.den m)).toArray
  | [], _, cells, out, hp, h => by
    cases hp
    simp only [fillC, Option.some.injEq] at h
    subst h
    rfl
  | (i, cs) :: rest, _, cells, out, hp, h => by
    cases hp with
    | @cons _ v _ vs h1 h2 =>
    obtain ⟨j, v⟩ := v
    simp only at h1
    obtain ⟨rfl, hv⟩ := h1
    simp only [fillC] at h
    cases hi : place[i]? with
    | none => rw [hi] at h; cases h
    | some os =>
      obtain ⟨off, size⟩ := os
      rw [hi] at h
      simp only at h
      split at h
      · rename_i hc
        simp only [Bool.and_eq_true, Nat.beq_eq, Nat.ble_eq] at hc
        have ih := fillC_den m place pl hpl rest vs _ out h2 h
        simp only [Instr.fill, hpl, hi]
        rw [if_neg (by rw [hv]; simp; omega)]
        have e := zipIdx_fold off v.cells (cells.map (C.den m)).toArray (by rw [hv]; simp; omega)
        simp only [e]
        rw [← ih]
        congr 1
        rw [hv]
        simp [hc.1]
      · cases h
def partsOf (s : St) : List (Nat × Operand) → Option (List (Nat × List C))
  | [] => some []
  | (i, x) :: r =>
    match ev s x with
    | some v =>
      match v.cs with
      | some cs => if cs.all (C.fit s) = true then (partsOf s r).map ((i, cs) :: ·) else none
      | none => none
    | none => none
section
variable {Γ : Env} {n : Nat} {w0 : World} {al : Nat → Prop} {s : St} {m : Maps} {a : Act} {w : World}
theorem partsOf_den (h : R Γ n w0 al s m a w) : ∀ (ps : List (Nat × Operand)) (parts : List (Nat × List C)), partsOf s ps = some parts →
    All2 (fun p v => p.1 = v.1 ∧ v.2.cells = (p.2.map (C.den m)).toArray) parts (ps.map fun (i, x) => (i, a.eval x)) ∧ (∀ p ∈ parts, ∀ c ∈ p.2, c.fit s = true ∧ ∀ i ∈ c.ids, al i)
  | [], parts, hp => by simp only [partsOf, Option.some.injEq] at hp; subst hp; exact ⟨.nil, by simp⟩
  | (i, x) :: r, parts, hp => by
    simp only [partsOf] at hp
    split at hp
    · rename_i v hv
      split at hp
      · rename_i cs hcs
        split at hp
        · rename_i hf
          cases hr : partsOf s r with
          | none => rw [hr] at hp; cases hp
          | some rest =>
            rw [hr] at hp
            simp only [Option.map_some, Option.some.injEq] at hp
            subst hp
            obtain ⟨h1, h2⟩ := partsOf_den h r rest hr
            obtain ⟨e1, e2⟩ := h.ev hv
            have hf' := fun c hc => List.all_eq_true.1 hf c hc
            refine ⟨.cons ⟨rfl, ?_⟩ h1, fun p hp => ?_⟩
            · show (a.eval x).cells = _
              rw [e1]
              exact T.cs_cells hcs fun c hc => h.fit (hf' c hc)
            · rcases List.mem_cons.1 hp with rfl | hp
              · rw [T.cs_ids hcs] at e2
                exact fun c hc => ⟨hf' c hc, fun i hi => e2 i (List.mem_flatMap.2 ⟨c, hc, hi⟩)⟩
              · exact h2 p hp
        · cases hp
      · cases hp
    · cases hp
end
theorem fillC_mem (place : List (Nat × Nat)) : ∀ (parts : List (Nat × List C)) (cells out : List C), fillC place cells parts = some out → ∀ c ∈ out, c ∈ cells ∨ ∃ p ∈ parts, c ∈ p.2
  | [], cells, out, h => by simp only [fillC, Option.some.injEq] at h; subst h; exact fun c hc => .inl hc
  | (i, cs) :: rest, cells, out, h => by
    simp only [fillC] at h
    split at h
    · cases h
    · split at h
      · intro c hc
        rcases fillC_mem place rest _ _ h c hc with h1 | ⟨p, hp, h1⟩
        · rcases List.mem_append.1 h1 with h1 | h1
          · rcases List.mem_append.1 h1 with h1 | h1
            · exact .inl (List.mem_of_mem_take h1)
            · exact .inr ⟨(i, cs), by simp, h1⟩
          · exact .inl (List.mem_of_mem_drop h1)
        · exact .inr ⟨p, by simp [hp], h1⟩
      · cases h
def zeroC (i : TI) : List C := i.zero.map .im
theorem zeroC_den (m : Maps) (i : TI) : (zeroC i).map (C.den m) = i.zero := by simp [zeroC, Function.comp_def, C.den]
theorem zeroC_ids (i : TI) : ∀ c ∈ zeroC i, c.ids = [] := by
  intro c hc
  obtain ⟨v, _, rfl⟩ := List.mem_map.1 hc
  rfl
def xbuild (tt : TT) (s : St) (t : Nat) (ps : List (Nat × Operand)) : Option T :=
  match lkp tt t with
  | some i =>
    match i.d with
    | .struct fs =>
      match partsOf s ps with
      | some parts => (fillC (fs.map fun x => (x.1, x.2.2)) (zeroC i) parts).map fun cs => .one (.agg cs)
      | none => none
    | _ => none
  | none => none
section
variable {P : Program} {tt : TT} {Γ : Env} {n : Nat} {w0 : World} {al : Nat → Prop} {s : St} {m : Maps} {a : Act} {w : World}
theorem xbuild_run (hT : TTok P tt) (h : R Γ n w0 al s m a w) {t : Nat} {ps : Array (Nat × Operand)} {v : T} (hx : xbuild tt s t ps.toList = some v) :
    (Instr.build t (ps.map fun (i, x) => (i, a.eval x))).run P w = .ok (v.den m) w ∧ ∀ i ∈ v.ids, al i := by
  unfold xbuild at hx
  split at hx
  · rename_i i hi
    split at hx
    · rename_i fs hd
      split at hx
      · rename_i parts hps
        cases hf : fillC (fs.map fun x => (x.1, x.2.2)) (zeroC i) parts with
        | none => rw [hf] at hx; cases hx
        | some cs =>
          rw [hf] at hx
          simp only [Option.map_some, Option.some.injEq] at hx
          subst hx
          obtain ⟨inf, i1, i2, i3, i4⟩ := (hT _ _ hi).info
          have hfit := (hT _ _ hi).d
          rw [hd] at hfit
          obtain ⟨fl, d1, d2, d3⟩ := hfit
          obtain ⟨p1, p2⟩ := partsOf_den h _ _ hps
          have hfill := fillC_den m (fs.map fun x => (x.1, x.2.2)) ((fs.map fun x => (x.1, x.2.2)).toArray[·]?) (fun i => by simp) parts _ (zeroC i) cs p1 hf
          rw [zeroC_den] at hfill
          refine ⟨?_, fun j hj => ?_⟩
          · refine run_build w t _ _ ?_
            unfold Program.built
            cases hz : inf.zero with
            | none => rw [hz] at i4; cases i4
            | some z =>
              rw [hz] at i4
              simp only [Option.map_some, Option.some.injEq] at i4
              simp only [i1, d1, hz, d3, i4]
              simpa using hfill
          · simp only [T.ids, A.ids, List.mem_flatMap] at hj
            obtain ⟨c, hc, hj⟩ := hj
            rcases fillC_mem _ _ _ _ hf c hc with h1 | ⟨p, hp, h1⟩
            · rw [zeroC_ids i c h1] at hj; cases hj
            · exact (p2 p hp c h1).2 j hj
      · cases hx
    · cases hx
  · cases hx
end
end Go.Proofs.Ytemgpfojmdncjaa
