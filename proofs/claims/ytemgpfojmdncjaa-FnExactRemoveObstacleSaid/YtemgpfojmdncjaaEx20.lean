/-
  From the row's reading of an argument to data: any type of numbers, texts, slices and structs. Over any program.
-/
import Derived.Test.YtemgpfojmdncjaaEx19
import Derived.Deep.Slices
import Derived.OpenShut
namespace Go.Proofs.Ytemgpfojmdncjaa
set_option linter.unusedVariables false
set_option linter.unusedSimpArgs false
open Go.RowKit Go.Deep Go.ChangeShapes Go.WideShapes

def trodRow (tr : Nat → Option (List Ty)) : List (Nat × Nat × Nat) → Nat → Option (List Ty)
  | [], _ => some []
  | (off, t, sz) :: r, acc =>
    if Nat.beq off acc = true then
      match tr t, trodRow tr r (acc + sz) with
      | some a, some b => if Nat.beq a.length sz = true then some (a ++ b) else none
      | _, _ => none
    else none
/-- The shape of a type whose values the rows of a law may bring in. -/
def trodTy (tt : TT) : Nat → Nat → Option (List Ty)
  | 0, _ => none
  | f + 1, t =>
    match lkp tt t with
    | some { d := .int .i64, .. } => some [.int]
    | some { d := .bool, .. } => some [.bool]
    | some { d := .str, .. } => some [.str]
    | some { d := .slice e, .. } =>
      match trodTy tt f e, lkp tt e with
      | some ts, some i => if (Nat.beq ts.length i.size && Nat.blt 0 ts.length) = true then some [.sl e ts] else none
      | _, _ => none
    | some { d := .struct fs, size := sz, .. } =>
      match trodRow (trodTy tt f) fs 0 with
      | some ts => if Nat.beq ts.length sz = true then some ts else none
      | none => none
    | _ => none

section
variable {P : Program} {tt : TT} {H : Type} {enc : TypeId × Value → H} {w : World} {spare : Nat → Bool} {held : Bool}
theorem TIok.cellsOf {t : Nat} {i : TI} (h : TIok P t i) : P.cellsOf t = i.size := by
  obtain ⟨inf, h1, h2, _⟩ := h.info
  simp [Program.cellsOf, h1, h2]
theorem rows_of' {n : Nat} {p : Nat → List Value → Prop} (h : ∀ i, i < n → ∃ r, p i r) : ∃ rows : List (List Value), rows.length = n ∧ ∀ i, i < n → p i (rows.getD i []) := by
  obtain ⟨f, hf⟩ := choose_lt h
  refine ⟨(List.range n).map f, by simp, fun i hi => ?_⟩
  have : ((List.range n).map f).getD i [] = f i := by simp [List.getD, hi]
  rw [this]; exact hf i hi
theorem addr_split' {a : Addr} {v : Value} (h : w.cell? a = some v) : ∃ b off, a = ⟨b, off, none⟩ ∧ b < w.heap.size := by
  obtain ⟨b, off, s⟩ := a
  have := World.cell?_spot h
  simp at this
  subst this
  exact ⟨b, off, rfl, World.block_lt_of_cell? w ⟨b, off, none⟩ h⟩
theorem get?_getD {α : Type} {l : List α} {i : Nat} {d : α} (h : i < l.length) : l[i]? = some (l.getD i d) := by simp [List.getD, h]
theorem mapM_get {α β : Type} {g : α → Option β} : ∀ {l : List α} {r : List β}, l.mapM g = some r → ∀ {i : Nat} (h : i < l.length) (h' : i < r.length), g l[i] = some r[i]
  | [], r, _, i, h, _ => by simp at h
  | a :: l, r, e, i, h, h' => by
    simp only [List.mapM_cons, Option.bind_eq_bind, Option.bind_eq_some_iff, Option.pure_def, Option.some.injEq] at e
    obtain ⟨b, h1, bs, h2, rfl⟩ := e
    cases i with
    | zero => simpa using h1
    | succ i => simpa using mapM_get h2 (i := i) (by simpa using h) (by simpa using h')
theorem addr_at {b off n : Nat} : (⟨b, off, none⟩ : Addr).add n = ⟨b, off + n, none⟩ := by
  unfold Addr.add
  split
  · rename_i h; subst h; rfl
  · rfl
theorem trodRow_ok {tr : Nat → Option (List Ty)} {n : Nat} {cs : List Value} (ih : ∀ t ts cs (x : DataW H × List MemPlace), tr t = some ts → DataW.trod enc P w 0 spare held n t cs = some x → ∃ ds, RdRow w ts ds cs) :
    ∀ {fs : List (Nat × Nat × Nat)} {acc : Nat} {ts : List Ty}, trodRow tr fs acc = some ts → (∀ x ∈ fs, ∃ d, DataW.trod enc P w 0 spare held n x.2.1 ((cs.drop x.1).take x.2.2) = some d) → ∃ ds, RdRow w ts ds ((cs.drop acc).take ts.length)
  | [], acc, ts, h, _ => by
    simp only [trodRow, Option.some.injEq] at h
    subst h
    exact ⟨[], by simp [RdRow]⟩
  | (off, t, sz) :: r, acc, ts, h, hf => by
    simp only [trodRow] at h
    split at h
    · rename_i ho
      simp only [Nat.beq_eq] at ho
      subst ho
      split at h
      · rename_i a b h1 h2
        split at h
        · rename_i hs
          simp only [Nat.beq_eq] at hs
          simp only [Option.some.injEq] at h
          subst h
          obtain ⟨d, hd⟩ := hf (off, t, sz) (by simp)
          obtain ⟨d1, q1⟩ := ih _ _ _ _ h1 hd
          obtain ⟨d2, q2⟩ := trodRow_ok ih h2 (fun x hx => hf x (List.mem_cons_of_mem _ hx))
          refine ⟨d1 ++ d2, ?_⟩
          have e : (cs.drop off).take (a ++ b).length = (cs.drop off).take a.length ++ (cs.drop (off + sz)).take b.length := by
            rw [List.length_append, List.take_add, List.drop_drop, hs]
          rw [e]
          refine RdRow.app _ _ _ ?_ q2
          rw [hs]; exact q1
        · cases h
      · cases h
    · cases h
theorem trod_rd (hT : TTok P tt) : ∀ (f t : Nat) (ts : List Ty) (fuel : Nat) (cs : List Value) (x : DataW H × List MemPlace), trodTy tt f t = some ts → DataW.trod enc P w 0 spare held fuel t cs = some x → ∃ ds, RdRow w ts ds cs
  | 0, t, ts, fuel, cs, x, h, _ => by simp [trodTy] at h
  | f + 1, t, ts, fuel, cs, x, h, hx => by
    simp only [trodTy] at h
    split at h
    · rename_i z b zz hl
      simp only [Option.some.injEq] at h; subst h
      have hk := (hT _ _ hl).d
      obtain ⟨n, e, _⟩ := DataW.trod_int hk hx
      subst e
      exact ⟨[.int n], RdRow.mk_cons (Rd.mk_int n) RdRow.mk_nil⟩
    · rename_i z b zz hl
      simp only [Option.some.injEq] at h; subst h
      have hk := (hT _ _ hl).d
      obtain ⟨n, e, _⟩ := DataW.trod_bool hk hx
      subst e
      exact ⟨[.bool n], RdRow.mk_cons (Rd.mk_bool n) RdRow.mk_nil⟩
    · rename_i z b zz hl
      simp only [Option.some.injEq] at h; subst h
      have hk := (hT _ _ hl).d
      obtain ⟨n, e, _⟩ := DataW.trod_string hk hx
      subst e
      exact ⟨[.str n], RdRow.mk_cons (Rd.mk_str n) RdRow.mk_nil⟩
    · rename_i e z b zz hl
      split at h
      · rename_i ts' i h1 h2
        split at h
        · rename_i hs
          simp only [Bool.and_eq_true, Nat.beq_eq, Nat.blt_eq] at hs
          simp only [Option.some.injEq] at h; subst h
          have hk := (hT _ _ hl).d
          have hc := (hT _ _ h2).cellsOf
          rcases open_slice hk hx with ⟨hcs, _⟩ | ⟨a, len, cap, m, n, D, Pl, hcs, _, hle, hm, hmm, _, hel⟩
          · subst hcs
            refine ⟨[.sl []], RdRow.mk_cons ?_ RdRow.mk_nil⟩
            simp only [Rd]
            exact ⟨[], ⟨none, 0, rfl, by simp, by decide, by simp, .inl ⟨rfl, fun _ => rfl⟩⟩, rfl, by simp⟩
          · subst hcs
            have hlm : len ≤ m := by rw [hmm]; split <;> omega
            obtain ⟨rows, hr, hp⟩ := rows_of' (n := len) (p := fun i r => w.cells? 0 (a.add (i * P.cellsOf e)) (P.cellsOf e) = some r ∧ DataW.trod enc P w 0 spare held n e r = some (D i, Pl i)) fun i hi => hel i (by omega)
            obtain ⟨g, hg⟩ := choose_lt (n := len) (p := fun i (ds : List Dat) => RdRow w ts' ds (rows.getD i [])) fun i hi => trod_rd hT f e ts' n _ _ h1 (hp i hi).2
            have hgl : ∀ i, i < len → (((List.range len).map g).getD i []) = g i := fun i hi => by simp [List.getD, hi]
            refine ⟨[.sl ((List.range len).map g)], RdRow.mk_cons ?_ RdRow.mk_nil⟩
            simp only [Rd]
            have hrl : ∀ i, i < len → (rows.getD i []).length = ts'.length := fun i hi => by
              have := RdRow.lens _ _ _ (hg i hi); omega
            refine ⟨rows, ⟨some a, cap, by rw [hr], by omega, hm, fun r hmem => ?_, ?_⟩, by simp [hr], fun k hk => ?_⟩
            · obtain ⟨i, hi, e⟩ := List.getElem_of_mem hmem
              have := hrl i (by omega)
              simpa [List.getD, hi, e] using this
            · by_cases h0 : len = 0
              · left; exact ⟨List.eq_nil_of_length_eq_zero (by omega), by simp⟩
              · right
                have c0 := World.cells?_some (hp 0 (by omega)).1
                have c0' := c0.2.2 0 (by omega)
                have hlt0 : 0 < (rows.getD 0 []).length := by rw [hrl 0 (by omega)]; omega
                rw [List.getElem?_eq_getElem hlt0] at c0'
                obtain ⟨b, off, e1, hb⟩ := addr_split' (by rw [Nat.zero_mul] at c0'; simpa [Addr.add] using c0')
                subst e1
                refine ⟨b, off, rfl, hb, fun j hj i hi => ?_⟩
                have cj := (World.cells?_some (hp j (by omega)).1).2.2 i (by omega)
                rw [addr_at, addr_at, hc, ← hs.1] at cj
                rw [← Nat.add_assoc, cj]
                have := hrl j (by omega)
                exact get?_getD (by omega)
            · have hk := (by simpa using hk : k < len)
              rw [hgl k hk]; exact hg k hk
        · cases h
      · cases h
    · rename_i fs z b zz hl
      split at h
      · rename_i ts' h1
        split at h
        · rename_i hs
          simp only [Nat.beq_eq] at hs
          simp only [Option.some.injEq] at h; subst h
          obtain ⟨fl, k1, k2, k3⟩ := (hT _ _ hl).d
          have hc : P.cellsOf t = z := (hT _ _ hl).cellsOf
          obtain ⟨xs, n, rfl, rfl, hlen, hxl, hf⟩ := DataW.trod_struct k1 hx
          have key : ∀ x ∈ fs, ∃ d, DataW.trod enc P w 0 spare held n x.2.1 ((cs.drop x.1).take x.2.2) = some d := by
            intro x hmem
            obtain ⟨i, hi, e⟩ := List.getElem_of_mem hmem
            have hsz : fl.size = fs.length := by have := congrArg List.length k2; simpa using this
            have hfi : fl[i]? = some fl[i] := by simp [show i < fl.size by omega]
            have := hf i fl[i] hfi
            have k2' : (fl[i].offset, fl[i].type) = (fs[i].1, fs[i].2.1) := by
              have := congrArg (fun l => l[i]?) k2
              simpa [hi, show i < fl.size by omega] using this
            have k3' : P.cellsOf fl[i].type = fs[i].2.2 := by
              have h3 := mapM_get k3 (i := i) (by simp; omega) (by simp; omega)
              simp only [Option.map_eq_some_iff] at h3
              obtain ⟨inf, q1, q2⟩ := h3
              simp at q2
              simp at q1
              simp [Program.cellsOf, q1, q2]
            simp only [Prod.mk.injEq] at k2'
            rw [← e]
            rw [k2'.1, k2'.2] at this
            rw [k2'.2] at k3'
            rw [k3'] at this
            exact ⟨xs[i]'(by omega), by rw [this]; simp⟩
          obtain ⟨ds, hds⟩ := trodRow_ok (fun t ts cs x h hx => trod_rd hT f t ts n cs x h hx) h1 key
          refine ⟨ds, ?_⟩
          rw [List.drop_zero, List.take_of_length_le (by omega)] at hds
          exact hds
        · cases h
      · cases h
    · cases h
end
end Go.Proofs.Ytemgpfojmdncjaa
