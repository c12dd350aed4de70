/-
  The reckoner's operations that make slices of the call's own. Over any program.
-/
import Derived.Test.YtemgpfojmdncjaaEx7
namespace Go.Proofs.Ytemgpfojmdncjaa
set_option linter.unusedVariables false
set_option linter.unusedSimpArgs false
open Go.RowKit

/-! ## Cells that are taken into a slice of the call's own -/
def toOwn (s : St) (t : Ty) (c : C) : Option (Dat × List Nat) :=
  match t, c with
  | .int, .im (.int .i64 n) => some (.int n, [])
  | .bool, .im (.bool b) => some (.bool b, [])
  | .str, .im (.string b) => some (.str b, [])
  | .sl _ _, .im (.slice none 0 0) => some (.sl [], [])
  | .sl e ts, .ext k =>
    match lkp s.en k with
    | some (.own e' ts' rows) => if (Nat.beq e e' && Ty.beqs ts ts') = true then some (.sl rows, [k]) else none
    | _ => none
  | _, _ => none
def rowOwn (s : St) : List Ty → List C → Option (List Dat × List Nat)
  | [], [] => some ([], [])
  | t :: ts, c :: cs =>
    match toOwn s t c, rowOwn s ts cs with
    | some (d, k), some (ds, ks) => some (d :: ds, k ++ ks)
    | _, _ => none
  | _, _ => none
def rowsOwn (s : St) (ts : List Ty) : List (List C) → Option (List (List Dat) × List Nat)
  | [] => some ([], [])
  | r :: rs =>
    match rowOwn s ts r, rowsOwn s ts rs with
    | some (d, k), some (ds, ks) => some (d :: ds, k ++ ks)
    | _, _ => none
/-- The same, only read. -/
def toRd (s : St) (t : Ty) (c : C) : Option (Dat × List Nat) :=
  match t, c with
  | .int, .im (.int .i64 n) => some (.int n, [])
  | .bool, .im (.bool b) => some (.bool b, [])
  | .str, .im (.string b) => some (.str b, [])
  | .sl _ _, .im (.slice none 0 0) => some (.sl [], [])
  | .sl e ts, .ext k =>
    match slOf s k with
    | some (e', ts', rows, deps) => if (Nat.beq e e' && Ty.beqs ts ts') = true then some (.sl rows, deps) else none
    | _ => none
  | _, _ => none
def rowRd (s : St) : List Ty → List C → Option (List Dat × List Nat)
  | [], [] => some ([], [])
  | t :: ts, c :: cs =>
    match toRd s t c, rowRd s ts cs with
    | some (d, k), some (ds, ks) => some (d :: ds, k ++ ks)
    | _, _ => none
  | _, _ => none
def rowsRd (s : St) (ts : List Ty) : List (List C) → Option (List (List Dat) × List Nat)
  | [] => some ([], [])
  | r :: rs =>
    match rowRd s ts r, rowsRd s ts rs with
    | some (d, k), some (ds, ks) => some (d :: ds, k ++ ks)
    | _, _ => none
def nodupB : List Nat → Bool
  | [] => true
  | x :: r => !(r.any (Nat.beq x)) && nodupB r
theorem nodupB_ok : ∀ {l : List Nat}, nodupB l = true → l.Nodup
  | [], _ => List.nodup_nil
  | x :: r, h => by
    simp only [nodupB, Bool.and_eq_true, Bool.not_eq_true'] at h
    refine List.nodup_cons.2 ⟨fun hx => ?_, nodupB_ok h.2⟩
    have := List.any_eq_false.1 h.1 x hx
    simp at this

/-- The rows of a literal, in order, each of its full size. -/
def seqOk (size : Nat) : Nat → List (Nat × List C) → Bool
  | _, [] => true
  | k, (i, cs) :: r => Nat.beq i k && Nat.beq cs.length size && seqOk size (k + 1) r
theorem fill_all (m : Maps) (size : Nat) : ∀ (parts : List (Nat × List C)) (vals : List (Nat × Value)) (k : Nat) (bef tl : List Value), All2 (fun p v => p.1 = v.1 ∧ v.2.cells = (p.2.map (C.den m)).toArray) parts vals →
    seqOk size k parts = true → bef.length = k * size → tl.length = parts.length * size →
    Instr.fill (fun i => some (i * size, size)) (bef ++ tl).toArray vals = some (bef ++ (parts.map fun p => p.2.map (C.den m)).flatten).toArray
  | [], _, k, bef, tl, h, _, _, ht => by
    cases h
    obtain rfl := List.eq_nil_of_length_eq_zero (by simpa using ht)
    rfl
  | (i, cs) :: r, _, k, bef, tl, h, hs, hb, ht => by
    cases h with
    | @cons _ v _ vs h1 h2 =>
    obtain ⟨j, v⟩ := v
    simp only at h1
    obtain ⟨rfl, hv⟩ := h1
    simp only [seqOk, Bool.and_eq_true, Nat.beq_eq] at hs
    obtain ⟨⟨rfl, hl⟩, hs⟩ := hs
    have hcl : v.cells.size = size := by rw [hv]; simp [hl]
    simp only [List.length_cons, Nat.add_mul, Nat.one_mul] at ht
    simp only [Instr.fill]
    rw [if_neg (by rw [hcl]; simp; omega)]
    have e := zipIdx_fold (i * size) v.cells (bef ++ tl).toArray (by simp; omega)
    simp only [e]
    have ih := fill_all m size r vs (i + 1) (bef ++ cs.map (C.den m)) (tl.drop size) h2 hs (by simp [hl, hb, Nat.add_mul]) (by simp; omega)
    have e2 : List.take (i * size) (bef ++ tl) ++ v.cells.toList ++ List.drop (i * size + v.cells.size) (bef ++ tl) = bef ++ cs.map (C.den m) ++ tl.drop size := by
      rw [← hb, List.take_left, hv, List.drop_append]
      simp [hl]
    rw [e2, ih]
    simp
section
variable {P : Program} {tt : TT} {Γ : Env} {n : Nat} {w0 : World} {al fr : Nat → Prop} {s : St} {m : Maps} {a : Act} {w : World} {nx : Nat} {o : Oper}

theorem toOwn_ok (h : R Γ n w0 al s m a w) {t : Ty} {c : C} {d : Dat} {ks : List Nat} (hx : toOwn s t c = some (d, ks)) : (∃ bs, Fp w t d (c.den m) bs ∧ bs.Nodup ∧ ∀ b ∈ bs, Γ.base ≤ b ∧ m.π b ∈ ks) ∧ ∀ i ∈ ks, al i := by
  unfold toOwn at hx
  split at hx
  · simp only [Option.some.injEq, Prod.mk.injEq] at hx; obtain ⟨rfl, rfl⟩ := hx; exact ⟨⟨[], by simp [Fp, C.den], List.nodup_nil, by simp⟩, by simp⟩
  · simp only [Option.some.injEq, Prod.mk.injEq] at hx; obtain ⟨rfl, rfl⟩ := hx; exact ⟨⟨[], by simp [Fp, C.den], List.nodup_nil, by simp⟩, by simp⟩
  · simp only [Option.some.injEq, Prod.mk.injEq] at hx; obtain ⟨rfl, rfl⟩ := hx; exact ⟨⟨[], by simp [Fp, C.den], List.nodup_nil, by simp⟩, by simp⟩
  · simp only [Option.some.injEq, Prod.mk.injEq] at hx
    obtain ⟨rfl, rfl⟩ := hx
    refine ⟨⟨[], ?_, List.nodup_nil, by simp⟩, by simp⟩
    simp only [Fp, C.den]
    exact ⟨[], [], World.ownsRow_nil _ _ _ _, rfl, rfl, by simp, by simp, by simp [Value.ownBlock]⟩
  · split at hx
    · rename_i hk
      split at hx
      · rename_i hc
        simp only [Bool.and_eq_true, Nat.beq_eq] at hc
        obtain ⟨rfl, hc⟩ := hc
        have hc := Ty.beqs_ok _ _ hc
        subst hc
        simp only [Option.some.injEq, Prod.mk.injEq] at hx
        obtain ⟨rfl, rfl⟩ := hx
        obtain ⟨⟨bs, b1, b2, b3⟩, hak, -⟩ := h.en _ _ hk
        exact ⟨⟨bs, b1, b2, fun b hb => ⟨(b3 b hb).1, by rw [(b3 b hb).2]; simp⟩⟩, by simp [hak]⟩
      · cases hx
    · cases hx
  · cases hx
theorem rowOwn_ok (h : R Γ n w0 al s m a w) : ∀ {ts : List Ty} {cs : List C} {ds : List Dat} {ks : List Nat}, rowOwn s ts cs = some (ds, ks) → ks.Nodup → (∃ bs, FpRow w ts ds (cs.map (C.den m)) bs ∧ bs.Nodup ∧ ∀ b ∈ bs, Γ.base ≤ b ∧ m.π b ∈ ks) ∧ ∀ i ∈ ks, al i
  | [], [], ds, ks, hx, _ => by
    simp only [rowOwn, Option.some.injEq, Prod.mk.injEq] at hx
    obtain ⟨rfl, rfl⟩ := hx
    exact ⟨⟨[], rfl, List.nodup_nil, by simp⟩, by simp⟩
  | [], _ :: _, _, _, hx, _ => by simp [rowOwn] at hx
  | _ :: _, [], _, _, hx, _ => by simp [rowOwn] at hx
  | t :: ts, c :: cs, ds, ks, hx, hn => by
    simp only [rowOwn] at hx
    split at hx
    · rename_i d k ds' ks' h1 h2
      simp only [Option.some.injEq, Prod.mk.injEq] at hx
      obtain ⟨rfl, rfl⟩ := hx
      obtain ⟨n1, n2, n3⟩ := List.nodup_append.1 hn
      obtain ⟨⟨b1, p1, p2, p3⟩, p4⟩ := toOwn_ok h h1
      obtain ⟨⟨b2, q1, q2, q3⟩, q4⟩ := rowOwn_ok h h2 n2
      refine ⟨⟨b1 ++ b2, by simp only [List.map_cons, FpRow]; exact ⟨b1, b2, rfl, p1, q1⟩, List.nodup_append.2 ⟨p2, q2, fun x hx y hy e => ?_⟩, fun b hb => ?_⟩, fun i hi => ?_⟩
      · subst e; exact n3 _ (p3 x hx).2 _ (q3 x hy).2 rfl
      · rcases List.mem_append.1 hb with hb | hb
        · exact ⟨(p3 b hb).1, List.mem_append.2 (.inl (p3 b hb).2)⟩
        · exact ⟨(q3 b hb).1, List.mem_append.2 (.inr (q3 b hb).2)⟩
      · rcases List.mem_append.1 hi with hi | hi
        · exact p4 i hi
        · exact q4 i hi
    · cases hx
theorem rowsOwn_ok (h : R Γ n w0 al s m a w) {ts : List Ty} : ∀ {rs : List (List C)} {ds : List (List Dat)} {ks : List Nat}, rowsOwn s ts rs = some (ds, ks) → ks.Nodup →
    (∃ bss : List (List Nat), ds.length = rs.length ∧ bss.length = rs.length ∧ (∀ k, k < rs.length → FpRow w ts (ds.getD k []) ((rs.getD k []).map (C.den m)) (bss.getD k [])) ∧ bss.flatten.Nodup ∧ ∀ b ∈ bss.flatten, Γ.base ≤ b ∧ m.π b ∈ ks) ∧ ∀ i ∈ ks, al i
  | [], ds, ks, hx, _ => by
    simp only [rowsOwn, Option.some.injEq, Prod.mk.injEq] at hx
    obtain ⟨rfl, rfl⟩ := hx
    exact ⟨⟨[], rfl, rfl, by simp, by simp, by simp⟩, by simp⟩
  | r :: rs, ds, ks, hx, hn => by
    simp only [rowsOwn] at hx
    split at hx
    · rename_i d k ds' ks' h1 h2
      simp only [Option.some.injEq, Prod.mk.injEq] at hx
      obtain ⟨rfl, rfl⟩ := hx
      obtain ⟨n1, n2, n3⟩ := List.nodup_append.1 hn
      obtain ⟨⟨b1, p1, p2, p3⟩, p4⟩ := rowOwn_ok h h1 n1
      obtain ⟨⟨bss, q0, q1, q2, q3, q5⟩, q4⟩ := rowsOwn_ok h h2 n2
      refine ⟨⟨b1 :: bss, by simp [q0], by simp [q1], fun j hj => ?_, ?_, fun b hb => ?_⟩, fun i hi => ?_⟩
      · cases j with
        | zero => simpa using p1
        | succ j => simpa using q2 j (by simpa using hj)
      · rw [List.flatten_cons]
        exact List.nodup_append.2 ⟨p2, q3, fun x hx y hy e => by subst e; exact n3 _ (p3 x hx).2 _ (q5 x hy).2 rfl⟩
      · rw [List.flatten_cons] at hb
        rcases List.mem_append.1 hb with hb | hb
        · exact ⟨(p3 b hb).1, List.mem_append.2 (.inl (p3 b hb).2)⟩
        · exact ⟨(q5 b hb).1, List.mem_append.2 (.inr (q5 b hb).2)⟩
      · rcases List.mem_append.1 hi with hi | hi
        · exact p4 i hi
        · exact q4 i hi
    · cases hx
theorem may_mono {deps deps' : List Nat} (h : ∀ i ∈ deps, i ∈ deps') {b : Nat} (hb : Γ.may m deps b) : Γ.may m deps' b := by
  rcases hb with hb | hb | hb
  · exact .inl hb
  · exact .inr (.inl hb)
  · exact .inr (.inr ⟨hb.1, h _ hb.2⟩)
theorem toRd_ok (h : R Γ n w0 al s m a w) {t : Ty} {c : C} {d : Dat} {ks : List Nat} (hx : toRd s t c = some (d, ks)) : RdS (Γ.may m ks) w t d (c.den m) ∧ ∀ i ∈ ks, al i := by
  unfold toRd at hx
  split at hx
  · simp only [Option.some.injEq, Prod.mk.injEq] at hx; obtain ⟨rfl, rfl⟩ := hx; exact ⟨by simp [RdS, C.den], by simp⟩
  · simp only [Option.some.injEq, Prod.mk.injEq] at hx; obtain ⟨rfl, rfl⟩ := hx; exact ⟨by simp [RdS, C.den], by simp⟩
  · simp only [Option.some.injEq, Prod.mk.injEq] at hx; obtain ⟨rfl, rfl⟩ := hx; exact ⟨by simp [RdS, C.den], by simp⟩
  · simp only [Option.some.injEq, Prod.mk.injEq] at hx
    obtain ⟨rfl, rfl⟩ := hx
    refine ⟨?_, by simp⟩
    simp only [RdS, C.den]
    exact ⟨[], ⟨none, 0, rfl, Nat.le_refl _, by unfold maxLen; omega, by simp, .inl ⟨rfl, fun _ => rfl⟩⟩, by simp, rfl, by simp⟩
  · split at hx
    · rename_i hk
      split at hx
      · rename_i hc
        simp only [Bool.and_eq_true, Nat.beq_eq] at hc
        obtain ⟨rfl, hc⟩ := hc
        have hc := Ty.beqs_ok _ _ hc
        subst hc
        simp only [Option.some.injEq, Prod.mk.injEq] at hx
        obtain ⟨rfl, rfl⟩ := hx
        obtain ⟨⟨F, f1, f2⟩, -, hd⟩ := h.sl hk
        exact ⟨RdS.mono f2 _ _ _ f1, hd⟩
      · cases hx
    · cases hx
  · cases hx
theorem rowRd_ok (h : R Γ n w0 al s m a w) : ∀ {ts : List Ty} {cs : List C} {ds : List Dat} {ks : List Nat}, rowRd s ts cs = some (ds, ks) → RdRowS (Γ.may m ks) w ts ds (cs.map (C.den m)) ∧ ∀ i ∈ ks, al i
  | [], [], ds, ks, hx => by
    simp only [rowRd, Option.some.injEq, Prod.mk.injEq] at hx
    obtain ⟨rfl, rfl⟩ := hx
    exact ⟨by simp [RdRowS], by simp⟩
  | [], _ :: _, _, _, hx => by simp [rowRd] at hx
  | _ :: _, [], _, _, hx => by simp [rowRd] at hx
  | t :: ts, c :: cs, ds, ks, hx => by
    simp only [rowRd] at hx
    split at hx
    · rename_i d k ds' ks' h1 h2
      simp only [Option.some.injEq, Prod.mk.injEq] at hx
      obtain ⟨rfl, rfl⟩ := hx
      obtain ⟨p1, p4⟩ := toRd_ok h h1
      obtain ⟨q1, q4⟩ := rowRd_ok h h2
      refine ⟨?_, fun i hi => ?_⟩
      · simp only [List.map_cons, RdRowS]
        exact ⟨RdS.mono (fun b hb => may_mono (fun i hi => List.mem_append.2 (.inl hi)) hb) _ _ _ p1, RdRowS.mono (fun b hb => may_mono (fun i hi => List.mem_append.2 (.inr hi)) hb) _ _ _ q1⟩
      · rcases List.mem_append.1 hi with hi | hi
        · exact p4 i hi
        · exact q4 i hi
    · cases hx
theorem rowsRd_ok (h : R Γ n w0 al s m a w) {ts : List Ty} : ∀ {rs : List (List C)} {ds : List (List Dat)} {ks : List Nat}, rowsRd s ts rs = some (ds, ks) → (ds.length = rs.length ∧ ∀ k, k < rs.length → RdRowS (Γ.may m ks) w ts (ds.getD k []) ((rs.getD k []).map (C.den m))) ∧ ∀ i ∈ ks, al i
  | [], ds, ks, hx => by
    simp only [rowsRd, Option.some.injEq, Prod.mk.injEq] at hx
    obtain ⟨rfl, rfl⟩ := hx
    exact ⟨⟨rfl, by simp⟩, by simp⟩
  | r :: rs, ds, ks, hx => by
    simp only [rowsRd] at hx
    split at hx
    · rename_i d k ds' ks' h1 h2
      simp only [Option.some.injEq, Prod.mk.injEq] at hx
      obtain ⟨rfl, rfl⟩ := hx
      obtain ⟨p1, p4⟩ := rowRd_ok h h1
      obtain ⟨⟨q0, q1⟩, q4⟩ := rowsRd_ok h h2
      refine ⟨⟨by simp [q0], fun j hj => ?_⟩, fun i hi => ?_⟩
      · cases j with
        | zero => simpa using RdRowS.mono (fun b hb => may_mono (fun i hi => List.mem_append.2 (.inl hi)) hb) _ _ _ p1
        | succ j => simpa using RdRowS.mono (fun b hb => may_mono (fun i hi => List.mem_append.2 (.inr hi)) hb) _ _ _ (q1 j (by simpa using hj))
      · rcases List.mem_append.1 hi with hi | hi
        · exact p4 i hi
        · exact q4 i hi
    · cases hx

/-- A new slice of the call's own, to the bottom. -/
theorem Stp.newOwn (h : R Γ n w0 al s m a w) {dst : Option Tmp} {e : Nat} {ts : List Ty} {rows : List (List Dat)} {cons : List Nat} {v' : Value} {w' : World} {bs : List Nat} (hb : Below Γ.base w w')
    (hk : ∀ b, b < w.heap.size → (b < Γ.base ∨ m.π b ∉ cons) → w'.heap[b]? = w.heap[b]?) (hf : Fp w' (.sl e ts) (.sl rows) v' bs) (hn : bs.Nodup) (hbs : ∀ b ∈ bs, Γ.base ≤ b ∧ (w.heap.size ≤ b ∨ m.π b ∈ cons))
    (hc : ∀ j ∈ cons, al j) (hnx : ¬ al nx) (hfr : fr nx) :
    ∃ m', Stp Γ al fr dst m a w ⟨.one (.one (.ext nx)), (nx, .own e ts rows) :: cons.map fun i => (i, .dead)⟩ m' (a.put dst v') w' :=
  ⟨_, Stp.newSl h (cons := cons) (π' := fun b => if b ∈ bs then nx else m.π b) hb hk (fun b hlt hb => if_neg fun hm => by
      rcases (hbs b hm).2 with h1 | h1
      · omega
      · exact hb h1) ⟨bs, by simp only [upd_same]; exact hf, hn, fun b hb => ⟨(hbs b hb).1, if_pos hb⟩⟩ (by simp [En.ids]) hc hnx hfr⟩

/-! ## A literal -/
def xbuildSlice (tt : TT) (s : St) (nx t len : Nat) (shape : List Ty) (ps : List (Nat × Operand)) (q : Eff → Prop) : Prop :=
  match eltOf tt t, partsOf s ps with
  | some (e, ei), some parts =>
    if (Nat.beq parts.length len && seqOk ei.size 0 parts && Nat.ble (len * ei.size) 4096 && Nat.beq ei.zero.length ei.size && Nat.beq shape.length ei.size && Nat.ble 1 ei.size) = true then
      match rowsOwn s shape (parts.map (·.2)) with
      | some (ds, ks) => if nodupB ks = true then q ⟨.one (.one (.ext nx)), (nx, .own e shape ds) :: ks.map fun i => (i, .dead)⟩ else False
      | none =>
        match rowsRd s shape (parts.map (·.2)) with
        | some (ds, ks) => q ⟨.one (.one (.ext nx)), [(nx, .top e shape ds ks)]⟩
        | none => False
    else False
  | _, _ => False
theorem zeros_len (z : Array Value) (k : Nat) : ((Array.range k).map (z[· % z.size]!)).size = k := by simp

theorem buildSlice_run (hT : TTok P tt) (h : R Γ n w0 al s m a w) {t len e : Nat} {ps : Array (Nat × Operand)} {parts : List (Nat × List C)} {ei : TI} (hel : eltOf tt t = some (e, ei)) (hps : partsOf s ps.toList = some parts)
    (h1 : parts.length = len) (h2 : seqOk ei.size 0 parts = true) (h3 : len * ei.size ≤ 4096) :
    (Instr.buildSlice t len (ps.map fun (i, x) => (i, a.eval x))).run P w = .ok (.slice (some ⟨w.heap.size, 0, none⟩) len len) (w.alloc (.cells (parts.map fun p => p.2.map (C.den m)).flatten.toArray e)) := by
  obtain ⟨u1, u2⟩ := eltOf_ok hT hel
  obtain ⟨z, hz, hzc⟩ := u2.zeroValue (w := w)
  obtain ⟨p1, p2⟩ := partsOf_den h _ _ hps
  unfold Instr.buildSlice
  simp only [Sem.run_bind, underlying_run u1, Result.andThen_ok, u2.sizeOf]
  rw [if_neg (by omega)]
  have key : ∀ zs : Array Value, zs.size = len * ei.size → Instr.fill (fun i => some (i * ei.size, ei.size)) zs (ps.map fun (i, x) => (i, a.eval x)).toList = some (parts.map fun p => p.2.map (C.den m)).flatten.toArray := by
    intro zs hzs
    have := fill_all m ei.size parts _ 0 [] zs.toList p1 h2 (by simp) (by simp [hzs, h1])
    simpa using this
  by_cases h0 : len * ei.size = 0
  · simp only [h0, if_true, Sem.run_bind, Sem.run_pure, Result.andThen_ok]
    rw [key _ (by simp [h0])]
    simp [newRow]
  · simp only [h0, if_false, Sem.run_bind, hz, Sem.run_pure, Result.andThen_ok]
    rw [key _ (by simp)]
    simp [newRow]
theorem seqOk_len {size : Nat} : ∀ {parts : List (Nat × List C)} {k : Nat}, seqOk size k parts = true → ∀ r ∈ parts.map (·.2), r.length = size
  | [], _, _ => by simp
  | (i, cs) :: r, k, h => by
    simp only [seqOk, Bool.and_eq_true, Nat.beq_eq] at h
    intro x hx
    rcases List.mem_cons.1 hx with rfl | hx
    · exact h.1.2
    · exact seqOk_len h.2 x hx
theorem flatten_len {α : Type} {size : Nat} : ∀ {rows : List (List α)}, (∀ r ∈ rows, r.length = size) → rows.flatten.length = rows.length * size
  | [], _ => by simp
  | r :: rs, h => by
    rw [List.flatten_cons, List.length_append, h r (by simp), flatten_len fun q hq => h q (by simp [hq]), List.length_cons, Nat.add_mul]
    omega
theorem snd_buildSlice (hT : TTok P tt) (h : R Γ n w0 al s m a w) {t len : Nat} {shape : List Ty} {ps : Array (Nat × Operand)} (ho : o.op = .buildSlice t len ps) (hnx : ¬ al nx) (hf : fr nx) : Snd P Γ al fr m a w o (xbuildSlice tt s nx t len shape ps.toList) := by
  intro q hk Q
  unfold xbuildSlice at hk
  split at hk
  · rename_i e ei parts hel hps
    split at hk
    · rename_i hc
      simp only [Bool.and_eq_true, Nat.beq_eq, Nat.ble_eq] at hc
      obtain ⟨⟨⟨⟨⟨c1, c2⟩, c3⟩, c4⟩, c5⟩, c6⟩ := hc
      have hrun := buildSlice_run hT h hel hps c1 c2 c3
      have hexec : (execOp a.eval o).run P w = .ok (.value (.slice (some ⟨w.heap.size, 0, none⟩) len len)) (w.alloc (.cells (parts.map fun p => p.2.map (C.den m)).flatten.toArray e)) := by
        simp only [execOp, ho, Sem.run_bind, hrun, Result.andThen_ok, Sem.run_pure]
      have hrl := seqOk_len c2
      have hvl : ∀ r ∈ parts.map fun p => p.2.map (C.den m), r.length = shape.length := fun r hr => by
        obtain ⟨p, hp, rfl⟩ := List.mem_map.1 hr
        rw [List.length_map, c5]
        exact hrl _ (List.mem_map.2 ⟨p, hp, rfl⟩)
      have hown : (w.alloc (.cells (parts.map fun p => p.2.map (C.den m)).flatten.toArray e)).ownsRow 0 e shape.length (.slice (some ⟨w.heap.size, 0, none⟩) len len) (parts.map fun p => p.2.map (C.den m)).length (parts.map fun p => p.2.map (C.den m)).flatten := by
        have hfl := flatten_len hvl
        have hll : (parts.map fun p => p.2.map (C.den m)).length = len := by simp [c1]
        refine ⟨hfl, .inr ⟨w.heap.size, len, _, by rw [hll], Nat.zero_le _, heap_alloc_new w _, by omega, ?_, ?_, ?_⟩⟩
        · unfold maxLen; have := Nat.le_mul_of_pos_right len c6; omega
        · simp only [List.size_toArray, hfl, hll]
        · rw [List.take_of_length_le (by simp only [hfl]; exact Nat.le_refl _)]
      have hsame : ∀ b, b < w.heap.size → (w.alloc (.cells (parts.map fun p => p.2.map (C.den m)).flatten.toArray e)).heap[b]? = w.heap[b]? := fun b hb => Below.heap_alloc _ _ _ hb
      have hg : ∀ k, k < parts.length → (parts.map fun p => p.2.map (C.den m)).getD k [] = ((parts.map (·.2)).getD k []).map (C.den m) := fun k hk => by simp [List.getD, hk]
      split at hk
      · rename_i ds ks hro
        split at hk
        · rename_i hnd
          obtain ⟨⟨bss, r0, r1, r2, r3, r4⟩, r5⟩ := rowsOwn_ok h hro (nodupB_ok hnd)
          simp only [List.length_map] at r0 r1 r2
          have hlt : ∀ b ∈ bss.flatten, b < w.heap.size := fun b hb => by
            obtain ⟨k, hk, hb⟩ := mem_flatten_getD hb
            exact FpRow.lt _ _ _ _ (r2 k (by omega)) b hb
          have hfp : Fp (w.alloc (.cells (parts.map fun p => p.2.map (C.den m)).flatten.toArray e)) (.sl e shape) (.sl ds) (.slice (some ⟨w.heap.size, 0, none⟩) len len) (w.heap.size :: bss.flatten) := by
            simp only [Fp]
            refine ⟨parts.map fun p => p.2.map (C.den m), bss, hown, by simp [r0], by simp [r0, r1], hvl, fun k hk => ?_, rfl⟩
            rw [r0] at hk
            rw [hg k hk]
            exact FpRow.same _ _ _ _ (r2 k hk) fun b hb => hsame b (hlt b (getD_mem_flatten hb))
          obtain ⟨m', hs⟩ := Stp.newOwn h (dst := o.dst) (cons := ks) ((Below.refl _ _).alloc h.old _) (fun b hb _ => hsame b hb) hfp (List.nodup_cons.2 ⟨fun hb => by have := hlt _ hb; omega, r3⟩) (fun b hb => by
            rcases List.mem_cons.1 hb with rfl | hb
            · exact ⟨h.old, .inl (Nat.le_refl _)⟩
            · exact ⟨(r4 b hb).1, .inr (r4 b hb).2⟩) r5 hnx hf
          exact Oper.wp_value hexec ⟨_, m', hk, hs⟩
        · exact hk.elim
      · split at hk
        · rename_i ds ks hrd
          obtain ⟨⟨r0, r1⟩, r2⟩ := rowsRd_ok h hrd
          simp only [List.length_map] at r0 r1
          have hnb : ∀ b, b < w.heap.size → (fun b => if b = w.heap.size then nx else m.π b) b = m.π b := fun b hb => if_neg (by omega)
          refine Oper.wp_value hexec ⟨_, _, hk, Stp.newSl h (cons := []) (π' := fun b => if b = w.heap.size then nx else m.π b) ((Below.refl _ _).alloc h.old _) (fun b hb _ => hsame b hb) (fun b hb _ => hnb b hb)
            ⟨parts.map fun p => p.2.map (C.den m), by simp only [upd_same]; exact hown, by simp [r0], hvl, fun k hk => ?_, fun b hb => ?_⟩ (fun j hj => r2 j hj) (by simp) hnx hf⟩
          · rw [r0] at hk
            rw [hg k hk]
            refine ⟨_, RdRowS.step (by simp) (fun b hb _ => hsame b hb) _ _ _ (r1 k hk), fun b hb => ?_⟩
            rcases hb.1 with h1 | h1 | h1
            · exact .inl h1
            · exact .inr (.inl ⟨h1.1, by show (if b = w.heap.size then nx else m.π b) = 0; rw [if_neg (by have := hb.2; omega)]; exact h1.2⟩)
            · exact .inr (.inr ⟨h1.1, by show (if b = w.heap.size then nx else m.π b) ∈ ks; rw [if_neg (by have := hb.2; omega)]; exact h1.2⟩)
          · simp only [upd_same, Value.ownBlock, Option.some.injEq] at hb
            subst hb
            exact ⟨h.old, if_pos rfl⟩
        · exact hk.elim
    · exact hk.elim
  · exact hk.elim
end
end Go.Proofs.Ytemgpfojmdncjaa
