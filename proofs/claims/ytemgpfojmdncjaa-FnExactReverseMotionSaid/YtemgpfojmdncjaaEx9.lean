/-
  The reckoner's append. Over any program.
-/
import Derived.Test.YtemgpfojmdncjaaEx8
import Derived.Maps.AppendAt
namespace Go.Proofs.Ytemgpfojmdncjaa
set_option linter.unusedVariables false
set_option linter.unusedSimpArgs false
open Go.RowKit

/-- Append at a slice of the call's own: what the machine does. -/
theorem append_run {P : Program} {w : World} {t e : Nat} {ei : TI} {a : Act} {o : Oper} {x y : Operand} (hu : P.underlying t = some (.slice e)) (hi : TIok P e ei) (hz : ei.zero.length = ei.size) (hs : 1 ≤ ei.size) (hby : ei.bytes ≤ 1024)
    (ho : o.op = .call { callee := .builtin .append, args := #[x, y], argTypes := #[t, t] }) {v : Value} {n : Nat} {xs : List Value} (hx : a.eval x = v) (hown : w.ownsRow 0 e ei.size v n xs)
    {u : Value} {rows : List (List Value)} (hy : a.eval y = u) (hat : SlAt ei.size w u rows) (h1 : ∀ r ∈ rows, ∀ q ∈ r, q.oneCell' = true) (hlen : n + rows.length ≤ 1073741824) :
    ∃ v' w', (execOp a.eval o).run P w = .ok (.value v') w' ∧ w'.ownsRow 0 e ei.size v' (n + rows.length) (xs ++ rows.flatten) ∧ w.grownBy w' v.ownBlock ∧ (v'.ownBlock = v.ownBlock ∨ v'.ownBlock = some w.heap.size) := by
  obtain ⟨inf, i1, i2, i3, i4⟩ := hi.info
  cases hzz : inf.zero with
  | none => rw [hzz] at i4; cases i4
  | some z =>
  rw [hzz] at i4
  simp only [Option.map_some, Option.some.injEq] at i4
  obtain ⟨ad, cap, rfl, hl, hc, hsz, hcell⟩ := hat
  have hlf := flatten_len hsz
  have hex : ∀ r : Sem Value, (execOp a.eval o) = (do pure (.value (← r))) → ∀ v' w', r.run P w = .ok v' w' → (execOp a.eval o).run P w = .ok (.value v') w' := fun r hr v' w' h => by rw [hr]; simp [h]
  have hexec : (execOp a.eval o).run P w = ((do pure (Next.value (← Builtin.append_ #[t, t] o.type #[v, .slice ad rows.length cap])) : Sem Next)).run P w := by
    unfold execOp
    simp only [ho, resolve, invoke, builtin, Sem.run_bind, Sem.run_pure, Result.andThen_ok, List.map_toArray, List.map_cons, List.map_nil, hx, hy]
  cases ad with
  | none =>
    rcases hcell with ⟨rfl, hcap⟩ | ⟨b, off, hb, _⟩
    · have hcap := hcap rfl
      subst hcap
      have hr := run_append_owned_none (P := P) (w := w) 0 t o.type e inf ei.size hu i1 v n xs hown
      refine ⟨v, w, ?_, by simpa using hown, ⟨rfl, rfl, rfl, Nat.le_refl _, fun _ _ _ => rfl⟩, .inl rfl⟩
      rw [hexec]
      simp only [List.length_nil] at hr ⊢
      simp [hr]
    · cases hb
  | some ad =>
    have a1 : ∀ j q, rows.flatten[j]? = some q → w.cell? (ad.add j) = some q := fun j q hj => by
      have hjl : j < rows.length * ei.size := by rw [← hlf]; exact (List.getElem?_eq_some_iff.1 hj).1
      rcases hcell with ⟨rfl, _⟩ | ⟨b, off, hb, _, hcl⟩
      · simp at hjl
      · simp only [Option.some.injEq] at hb
        subst hb
        have hj1 : j / ei.size < rows.length := Nat.div_lt_of_lt_mul (by rw [Nat.mul_comm]; exact hjl)
        have hj2 : j % ei.size < ei.size := Nat.mod_lt _ (by omega)
        have e0 := hcl (j / ei.size) hj1 (j % ei.size) hj2
        have e1 : j / ei.size * ei.size + j % ei.size = j := by rw [Nat.mul_comm]; exact Nat.div_add_mod j ei.size
        rw [e1] at e0
        rw [add_none, e0]
        rw [flatten_get rows ei.size hsz j hj1 hj2] at hj
        exact hj
    have a2 : ∀ q ∈ rows.flatten, q.oneCell' = true := by
      intro q hq
      obtain ⟨r, hr, hq⟩ := List.mem_flatten.1 hq
      exact h1 r hr q hq
    have a3 : n + rows.length ≤ maxLen := by unfold maxLen; omega
    have a4 : (n + rows.length) * ei.bytes ≤ 140737488355328 := by
      have : (n + rows.length) * ei.bytes ≤ 1073741824 * 1024 := Nat.mul_le_mul (by omega) hby
      omega
    obtain ⟨v', w', hr, p1, p2, _, p4⟩ := run_append_own_at (P := P) w 0 t o.type e inf z ei.size ei.bytes hu i1 hzz i2 i3 (by rw [i4]; simp [hz]) (by omega) v n xs hown ad rows.length cap rows.flatten hlf a1 a2 a3 a4 (Nat.zero_le _)
    exact ⟨v', w', by rw [hexec]; simp [hr], p1, p2, p4⟩

theorem ownsRow_nodup {w w' : World} {v v' : Value} (_ : v'.ownBlock = v.ownBlock ∨ v'.ownBlock = some w.heap.size) : v'.ownBlock.toList.Nodup := by cases v'.ownBlock <;> simp
theorem getD_app_left {α : Type} (A B : List α) (d : α) {k : Nat} (h : k < A.length) : (A ++ B).getD k d = A.getD k d := by simp [List.getD, List.getElem?_append_left h]
theorem getD_app_right {α : Type} (A B : List α) (d : α) {k : Nat} (h : A.length ≤ k) : (A ++ B).getD k d = B.getD (k - A.length) d := by simp [List.getD, List.getElem?_append_right h]

/-- Rows appended, with what they lead to. -/
theorem Fp.appended {w w' : World} {e : Nat} {ts : List Ty} {ls ls2 : List (List Dat)} {v v' : Value} {rows rows2 : List (List Value)} {bss bss2 : List (List Nat)}
    (q2 : rows.length = ls.length) (q3 : bss.length = ls.length) (q4 : ∀ r ∈ rows, r.length = ts.length) (q5 : ∀ k, k < ls.length → FpRow w ts (ls.getD k []) (rows.getD k []) (bss.getD k []))
    (hl2 : rows2.length = ls2.length) (hb2 : bss2.length = ls2.length) (hr2 : ∀ r ∈ rows2, r.length = ts.length) (hf2 : ∀ k, k < ls2.length → FpRow w ts (ls2.getD k []) (rows2.getD k []) (bss2.getD k []))
    (hn : (v.ownBlock.toList ++ (bss.flatten ++ bss2.flatten)).Nodup)
    (hown : w'.ownsRow 0 e ts.length v' (ls.length + rows2.length) (rows.flatten ++ rows2.flatten)) (hg : w.grownBy w' v.ownBlock) (hat : v'.ownBlock = v.ownBlock ∨ v'.ownBlock = some w.heap.size) :
    Fp w' (.sl e ts) (.sl (ls ++ ls2)) v' (v'.ownBlock.toList ++ (bss ++ bss2).flatten) ∧ (v'.ownBlock.toList ++ (bss ++ bss2).flatten).Nodup := by
  have hp := List.nodup_append.1 hn
  have hlt : ∀ b ∈ bss.flatten ++ bss2.flatten, b < w.heap.size := fun b hb => by
    rcases List.mem_append.1 hb with hb | hb
    · obtain ⟨k, hk, hb⟩ := mem_flatten_getD hb
      exact FpRow.lt _ _ _ _ (q5 k (by omega)) b hb
    · obtain ⟨k, hk, hb⟩ := mem_flatten_getD hb
      exact FpRow.lt _ _ _ _ (hf2 k (by omega)) b hb
  have hsame : ∀ b ∈ bss.flatten ++ bss2.flatten, w'.heap[b]? = w.heap[b]? := fun b hb => hg.block b (hlt b hb) fun e => hp.2.2 b (by simp [← e]) b hb rfl
  refine ⟨?_, ?_⟩
  · simp only [Fp]
    refine ⟨rows ++ rows2, bss ++ bss2, ?_, by simp [q2, hl2], by simp [q3, hb2], ?_, ?_, rfl⟩
    · rw [List.flatten_append, List.length_append, q2]; exact hown
    · intro r hr
      rcases List.mem_append.1 hr with hr | hr
      · exact q4 r hr
      · exact hr2 r hr
    · intro k hk
      by_cases hkl : k < ls.length
      · rw [getD_app_left _ _ _ hkl, getD_app_left _ _ _ (by omega), getD_app_left _ _ _ (by omega)]
        exact FpRow.same _ _ _ _ (q5 k hkl) fun b hb => hsame b (List.mem_append.2 (.inl (getD_mem_flatten hb)))
      · simp only [List.length_append] at hk
        rw [getD_app_right _ _ _ (by omega), getD_app_right _ _ _ (by omega), getD_app_right _ _ _ (by omega), q2, q3]
        exact FpRow.same _ _ _ _ (hf2 (k - ls.length) (by omega)) fun b hb => hsame b (List.mem_append.2 (.inr (getD_mem_flatten hb)))
  · rw [List.flatten_append]
    refine List.nodup_append.2 ⟨by cases v'.ownBlock <;> simp, hp.2.1, fun x hx y hy e => ?_⟩
    subst e
    have hv : v'.ownBlock = some x := by simpa using hx
    rcases hat with hat | hat
    · rw [hat] at hv; exact hp.2.2 x (by simp [hv]) x hy rfl
    · rw [hat] at hv; simp at hv; have := hlt x hy; omega

/-- Is no memory behind these cells? -/
def leafs : List Ty → Bool
  | [] => true
  | t :: ts => t.leaf && leafs ts
theorem leafs_ok : ∀ {ts : List Ty}, leafs ts = true → ∀ t ∈ ts, t.leaf = true
  | [], _ => by simp
  | t :: ts, h => by
    simp only [leafs, Bool.and_eq_true] at h
    intro x hx
    rcases List.mem_cons.1 hx with rfl | hx
    · exact h.1
    · exact leafs_ok h.2 x hx

/-- The slice that is appended to: its number (none: nil), its rows, does it own them to the bottom, what the others hang on. -/
def appTo (s : St) (ts : List Ty) (e : Nat) (c : C) : Option (List Nat × List (List Dat) × Bool × List Nat) :=
  match c with
  | .im (.slice none 0 0) => some ([], [], true, [])
  | .ext k =>
    match lkp s.en k with
    | some (.own e' ts' rows) => if (Nat.beq e e' && Ty.beqs ts ts') = true then some ([k], rows, true, []) else none
    | some (.top e' ts' rows deps) => if (Nat.beq e e' && Ty.beqs ts ts') = true then some ([k], rows, false, deps) else none
    | _ => none
  | _ => none
/-- The slice whose elements are appended. -/
def appOf (s : St) (c : C) : Option (Option Nat × Nat × List Ty × List (List Dat) × List Nat) :=
  match c with
  | .ext k =>
    match lkp s.en k with
    | some (.own e ts rows) => some (some k, e, ts, rows, [k])
    | some E => (En.sl E k).map fun x => (none, x)
    | none => none
  | _ => none

def xappend (tt : TT) (s : St) (nx t : Nat) (x y : Option T) (q : Eff → Prop) : Prop :=
  match x.bind T.c?, y.bind T.c? with
  | some cx, some cy =>
    match appOf s cy, eltOf tt t with
    | some (own2, e, ts, rows2, deps2), some (e', ei) =>
      match appTo s ts e cx with
      | some (ks, rows, own1, deps1) =>
        if (Nat.beq e e' && Nat.beq ts.length ei.size && Nat.beq ei.zero.length ei.size && Nat.ble 1 ei.size && Nat.ble ei.bytes 1024) = true then
          rows.length + rows2.length ≤ 1073741824 ∧
          match own1, leafs ts, own2 with
          | true, true, _ => q ⟨.one (.one (.ext nx)), (nx, .own e ts (rows ++ rows2)) :: ks.map fun i => (i, .dead)⟩
          | true, false, some k2 => if (ks.any (Nat.beq k2)) = true then False else q ⟨.one (.one (.ext nx)), (nx, .own e ts (rows ++ rows2)) :: (k2 :: ks).map fun i => (i, .dead)⟩
          | _, _, _ => if (ks.any fun k => (deps1 ++ deps2).any (Nat.beq k)) = true then False else q ⟨.one (.one (.ext nx)), (nx, .top e ts (rows ++ rows2) (deps1 ++ deps2)) :: ks.map fun i => (i, .dead)⟩
        else False
      | none => False
    | _, _ => False
  | _, _ => False

section
variable {P : Program} {tt : TT} {Γ : Env} {n : Nat} {w0 : World} {al fr : Nat → Prop} {s : St} {m : Maps} {a : Act} {w : World} {nx : Nat} {o : Oper}

theorem appOf_ok (h : R Γ n w0 al s m a w) {c : C} {own2 : Option Nat} {e : Nat} {ts : List Ty} {rows : List (List Dat)} {deps : List Nat} (hx : appOf s c = some (own2, e, ts, rows, deps)) :
    ∃ k, c = .ext k ∧ slOf s k = some (e, ts, rows, deps) ∧ (∀ k2, own2 = some k2 → k2 = k ∧ lkp s.en k = some (.own e ts rows)) := by
  unfold appOf at hx
  split at hx
  · rename_i k
    split at hx
    · rename_i e' ts' rows' hk
      simp only [Option.some.injEq, Prod.mk.injEq] at hx
      obtain ⟨rfl, rfl, rfl, rfl, rfl⟩ := hx
      exact ⟨k, rfl, by simp [slOf, hk, En.sl], fun k2 hk2 => ⟨(Option.some.inj hk2).symm, hk⟩⟩
    · rename_i E hne hk
      cases hE : En.sl E k with
      | none => rw [hE] at hx; cases hx
      | some y =>
        rw [hE] at hx
        simp only [Option.map_some, Option.some.injEq, Prod.mk.injEq] at hx
        obtain ⟨rfl, rfl⟩ := hx
        exact ⟨k, rfl, by simp [slOf, hk, hE], by simp⟩
    · cases hx
  · cases hx
/-- What is appended to, in pieces: owned to the bottom, or its own row alone. -/
theorem appTo_ok (h : R Γ n w0 al s m a w) {c : C} {e : Nat} {ts : List Ty} {ks : List Nat} {rows : List (List Dat)} {own1 : Bool} {deps : List Nat} (hx : appTo s ts e c = some (ks, rows, own1, deps)) :
    ∃ rv : List (List Value), w.ownsRow 0 e ts.length (c.den m) rows.length rv.flatten ∧ rv.length = rows.length ∧ (∀ r ∈ rv, r.length = ts.length) ∧ (∀ i ∈ ks, al i) ∧ (∀ i ∈ deps, al i) ∧ (∀ b, (c.den m).ownBlock = some b → Γ.base ≤ b ∧ m.π b ∈ ks) ∧
      (own1 = true → ∃ bss : List (List Nat), bss.length = rows.length ∧ (∀ k, k < rows.length → FpRow w ts (rows.getD k []) (rv.getD k []) (bss.getD k [])) ∧ ((c.den m).ownBlock.toList ++ bss.flatten).Nodup ∧ ∀ b ∈ bss.flatten, Γ.base ≤ b ∧ m.π b ∈ ks) ∧
      (own1 = false → ∀ k, k < rows.length → ∃ F, RdRowS F w ts (rows.getD k []) (rv.getD k []) ∧ ∀ b, F b → Γ.may m deps b) := by
  unfold appTo at hx
  split at hx
  · simp only [Option.some.injEq, Prod.mk.injEq] at hx
    obtain ⟨rfl, rfl, rfl, rfl⟩ := hx
    exact ⟨[], World.ownsRow_nil _ _ _ _, rfl, by simp, by simp, by simp, by simp [C.den, Value.ownBlock], fun _ => ⟨[], rfl, by simp, by simp [C.den, Value.ownBlock], by simp⟩, by simp⟩
  · split at hx
    · rename_i k e' ts' rows' hk
      split at hx
      · rename_i hc
        simp only [Bool.and_eq_true, Nat.beq_eq] at hc
        obtain ⟨rfl, hc⟩ := hc
        have hc := Ty.beqs_ok _ _ hc
        subst hc
        simp only [Option.some.injEq, Prod.mk.injEq] at hx
        obtain ⟨rfl, rfl, rfl, rfl⟩ := hx
        obtain ⟨⟨bs, b1, b2, b3⟩, hak, -⟩ := h.en _ _ hk
        simp only [Fp] at b1
        obtain ⟨rv, bss, q1, q2, q3, q4, q5, rfl⟩ := b1
        refine ⟨rv, by rw [← q2]; exact q1, q2, q4, by simp [hak], by simp, fun b hb => ?_, fun _ => ⟨bss, q3, q5, b2, fun b hb => ?_⟩, by simp⟩
        · have := b3 b (List.mem_append.2 (.inl (by simp only [C.den] at hb; simp [hb])))
          exact ⟨this.1, by rw [this.2]; simp⟩
        · have := b3 b (List.mem_append.2 (.inr hb))
          exact ⟨this.1, by rw [this.2]; simp⟩
      · cases hx
    · rename_i k e' ts' rows' deps' hk
      split at hx
      · rename_i hc
        simp only [Bool.and_eq_true, Nat.beq_eq] at hc
        obtain ⟨rfl, hc⟩ := hc
        have hc := Ty.beqs_ok _ _ hc
        subst hc
        simp only [Option.some.injEq, Prod.mk.injEq] at hx
        obtain ⟨rfl, rfl, rfl, rfl⟩ := hx
        obtain ⟨⟨rv, q1, q2, q3, q4, q5⟩, hak, hd⟩ := h.en _ _ hk
        refine ⟨rv, by rw [← q2]; exact q1, q2, q3, by simp [hak], fun i hi => hd i hi, fun b hb => ?_, by simp, fun _ => q4⟩
        have := q5 b (by simpa [C.den] using hb)
        exact ⟨this.1, by rw [this.2]; simp⟩
      · cases hx
    · cases hx
  · cases hx

theorem snd_append (hT : TTok P tt) (h : R Γ n w0 al s m a w) {t : Nat} {x y : Operand} (ho : o.op = .call { callee := .builtin .append, args := #[x, y], argTypes := #[t, t] }) (hnx : ¬ al nx) (hf : fr nx) : Snd P Γ al fr m a w o (xappend tt s nx t (ev s x) (ev s y)) := by
  intro q hk Q
  unfold xappend at hk
  split at hk
  · rename_i cx cy hcx hcy
    obtain ⟨tx, etx, hcx⟩ := Option.bind_eq_some_iff.1 hcx
    obtain ⟨ty, ety, hcy⟩ := Option.bind_eq_some_iff.1 hcy
    obtain ⟨x1, -⟩ := h.ev etx
    obtain ⟨y1, -⟩ := h.ev ety
    rw [T.c?_some hcx] at x1
    rw [T.c?_some hcy] at y1
    split at hk
    · rename_i own2 e ts rows2 deps2 e' ei hof hel
      split at hk
      · rename_i ks rows own1 deps1 hto
        split at hk
        · rename_i hc
          simp only [Bool.and_eq_true, Nat.beq_eq, Nat.ble_eq] at hc
          obtain ⟨⟨⟨⟨rfl, c2⟩, c3⟩, c4⟩, c5⟩ := hc
          obtain ⟨hlen, hk⟩ := hk
          obtain ⟨u1, u2⟩ := eltOf_ok hT hel
          obtain ⟨k2, rfl, hsl2, hown2⟩ := appOf_ok h hof
          obtain ⟨rv, t1, t2, t3, t4, t5, t6, t7, t8⟩ := appTo_ok h hto
          obtain ⟨⟨F2, f1, f2⟩, hak2, hdeps2⟩ := h.sl hsl2
          have x1 : a.eval x = cx.den m := x1
          have y1 : a.eval y = m.ε k2 := y1
          have key : ∀ (rv2 : List (List Value)), SlAt ts.length w (m.ε k2) rv2 → rv2.length = rows2.length → (∀ r ∈ rv2, ∀ q ∈ r, q.oneCell' = true) →
              ∃ v' w', (execOp a.eval o).run P w = .ok (.value v') w' ∧ w'.ownsRow 0 e ts.length v' (rows.length + rv2.length) (rv.flatten ++ rv2.flatten) ∧ w.grownBy w' (cx.den m).ownBlock ∧ (v'.ownBlock = (cx.den m).ownBlock ∨ v'.ownBlock = some w.heap.size) ∧
                Below Γ.base w w' ∧ (∀ cons : List Nat, (∀ i ∈ ks, i ∈ cons) → ∀ b, b < w.heap.size → (b < Γ.base ∨ m.π b ∉ cons) → w'.heap[b]? = w.heap[b]?) := by
            intro rv2 hat hl2 h1
            rw [c2] at hat t1 ⊢
            obtain ⟨v', w', r1, r2, r3, r4⟩ := append_run u1 u2 c3 c4 c5 ho x1 t1 y1 hat h1 (by omega)
            refine ⟨v', w', r1, r2, r3, r4, ⟨r3.os, r3.tape, r3.output, r3.size, fun b hb => r3.block b (Nat.lt_of_lt_of_le hb h.old) fun e => ?_⟩, fun cons hcons b hb h2 => r3.block b hb fun e => ?_⟩
            · have := (t6 b e.symm).1; omega
            · have := t6 b e.symm
              rcases h2 with h2 | h2
              · omega
              · exact h2 (hcons _ this.2)
          have own_case : ∀ (rv2 : List (List Value)) (bss2 : List (List Nat)) (cons : List Nat), SlAt ts.length w (m.ε k2) rv2 → rv2.length = rows2.length → bss2.length = rows2.length → (∀ j, j < rows2.length → FpRow w ts (rows2.getD j []) (rv2.getD j []) (bss2.getD j [])) →
              own1 = true → (∀ i ∈ ks, i ∈ cons) → (∀ i ∈ cons, al i) → bss2.flatten.Nodup → (∀ b ∈ bss2.flatten, Γ.base ≤ b ∧ m.π b ∈ cons ∧ m.π b ∉ ks) → q ⟨.one (.one (.ext nx)), (nx, .own e ts (rows ++ rows2)) :: cons.map fun i => (i, .dead)⟩ →
              o.wp P a w (fun a' w' => ∃ e m', q e ∧ Stp Γ al fr o.dst m a w e m' a' w') Q := by
            intro rv2 bss2 cons hat hl2 hb2 hf2 ho1 hks hcal hn2 hi2 hq
            have hrl : ∀ r ∈ rv2, r.length = ts.length := by obtain ⟨_, _, _, _, _, q, _⟩ := hat; exact q
            obtain ⟨v', w', r1, r2, r3, r4, r5, r6⟩ := key rv2 hat hl2 fun r hr => by
              obtain ⟨j, hj, rfl⟩ := List.mem_iff_getElem.1 hr
              have := hf2 j (by omega)
              have e0 : rv2.getD j [] = rv2[j] := by simp [List.getD, hj]
              rw [e0] at this
              exact RdRow.one _ _ _ (FpRow.rd _ _ _ _ this)
            obtain ⟨bss, p1, p2, p3, p4⟩ := t7 ho1
            have hn : ((cx.den m).ownBlock.toList ++ (bss.flatten ++ bss2.flatten)).Nodup := by
              rw [← List.append_assoc]
              refine List.nodup_append.2 ⟨p3, hn2, fun b hb b' hb' e => ?_⟩
              subst e
              rcases List.mem_append.1 hb with hb | hb
              · exact (hi2 b hb').2.2 (t6 b (by simpa using hb)).2
              · exact (hi2 b hb').2.2 (p4 b hb).2
            obtain ⟨g1, g2⟩ := Fp.appended t2 p1 t3 p2 hl2 hb2 hrl hf2 hn r2 r3 r4
            obtain ⟨m', hs⟩ := Stp.newOwn h (dst := o.dst) (cons := cons) r5 (r6 cons hks) g1 g2 (fun b hb => by
              rw [List.flatten_append] at hb
              rcases List.mem_append.1 hb with hb | hb
              · rcases r4 with r4 | r4
                · rw [r4] at hb
                  have := t6 b (by simpa using hb)
                  exact ⟨this.1, .inr (hks _ this.2)⟩
                · rw [r4] at hb
                  simp at hb
                  subst hb
                  exact ⟨h.old, .inl (Nat.le_refl _)⟩
              · rcases List.mem_append.1 hb with hb | hb
                · exact ⟨(p4 b hb).1, .inr (hks _ (p4 b hb).2)⟩
                · exact ⟨(hi2 b hb).1, .inr (hi2 b hb).2.1⟩) hcal hnx hf
            exact Oper.wp_value r1 ⟨_, m', hq, hs⟩
          have top_case : ((ks.any fun k => (deps1 ++ deps2).any (Nat.beq k)) = false) → q ⟨.one (.one (.ext nx)), (nx, .top e ts (rows ++ rows2) (deps1 ++ deps2)) :: ks.map fun i => (i, .dead)⟩ → o.wp P a w (fun a' w' => ∃ e m', q e ∧ Stp Γ al fr o.dst m a w e m' a' w') Q := by
            intro hdis hk
            have hdis0 : ∀ i ∈ ks, i ∉ deps1 ++ deps2 := fun i hi hd => by
              have := List.any_eq_false.1 hdis i hi
              exact this (List.any_eq_true.2 ⟨i, hd, by simp⟩)
            have hdis : ∀ i ∈ ks, i ∉ deps2 := fun i hi hd => hdis0 i hi (List.mem_append.2 (.inr hd))
            have hdis1 : ∀ i ∈ ks, i ∉ deps1 := fun i hi hd => hdis0 i hi (List.mem_append.2 (.inl hd))
            have f1' := f1
            simp only [RdS] at f1'
            obtain ⟨rv2, s1, s2, s3, s4⟩ := f1'
            obtain ⟨v', w', r1, r2, r3, r4, r5, r6⟩ := key rv2 s1 s3 fun r hr => by
              obtain ⟨j, hj, rfl⟩ := List.mem_iff_getElem.1 hr
              have := s4 j (by omega)
              have e0 : rv2.getD j [] = rv2[j] := by simp [List.getD, hj]
              rw [e0] at this
              exact RdRow.one _ _ _ (RdRowS.rd _ _ _ this)
            have hrl : ∀ r ∈ rv2, r.length = ts.length := by obtain ⟨_, _, _, _, _, q, _⟩ := s1; exact q
            let π' : Nat → Nat := fun b => if v'.ownBlock = some b then nx else if m.π b ∈ ks then 0 else m.π b
            have hπ : ∀ b, b < w.heap.size → m.π b ∉ ks → π' b = m.π b := by
              intro b hb hb2
              have : v'.ownBlock ≠ some b := by
                intro hv
                rcases r4 with r4 | r4
                · rw [r4] at hv; exact hb2 (t6 b hv).2
                · rw [r4] at hv; simp at hv; omega
              simp only [π', if_neg this, if_neg hb2]
            have hold : ∀ b, b < w.heap.size → (b < Γ.base ∨ m.π b ∉ ks) → w'.heap[b]? = w.heap[b]? := r6 ks fun i hi => hi
            have rdmay : ∀ (deps : List Nat), (∀ i ∈ deps, al i) → (∀ i ∈ ks, i ∉ deps) → ∀ (d : List Dat) (vs : List Value) (F : Nat → Prop), RdRowS F w ts d vs → (∀ b, F b → Γ.may m deps b) → RdRowS (fun b => F b ∧ b < w.heap.size) w' ts d vs ∧ ∀ b, F b ∧ b < w.heap.size → Γ.may ⟨m.β, upd m.ε nx v', π'⟩ deps b := by
              intro deps hdal hd d vs F hF hFm
              have hnk : ∀ b, F b → b < Γ.base ∨ m.π b ∉ ks := fun b hb => by
                rcases hFm b hb with hb | hb | hb
                · exact .inl (Γ.hG b hb)
                · exact .inr (by rw [hb.2]; exact fun h0 => h.pos (t4 0 h0))
                · exact .inr fun hks => hd _ hks hb.2
              refine ⟨RdRowS.step r3.size (fun b hb hFb => hold b hb (hnk b hFb)) _ _ _ hF, fun b hb => ?_⟩
              have hne : Γ.base ≤ b → m.π b ∉ ks := fun hbb => (hnk b hb.1).resolve_left (by omega)
              rcases hFm b hb.1 with hb' | hb' | hb'
              · exact .inl hb'
              · exact .inr (.inl ⟨hb'.1, by show π' b = 0; rw [hπ b hb.2 (hne hb'.1)]; exact hb'.2⟩)
              · exact .inr (.inr ⟨hb'.1, by show π' b ∈ deps; rw [hπ b hb.2 (hne hb'.1)]; exact hb'.2⟩)
            have h1rows : ∀ j, j < rows.length → ∃ F, RdRowS F w' ts (rows.getD j []) (rv.getD j []) ∧ ∀ b, F b → Γ.may ⟨m.β, upd m.ε nx v', π'⟩ (deps1 ++ deps2) b := by
              intro j hj
              cases ho1 : own1 with
              | true =>
                obtain ⟨bss, p1, p2, p3, p4⟩ := t7 ho1
                have pp := List.nodup_append.1 p3
                have hfr2 := p2 j hj
                have hlt := FpRow.lt _ _ _ _ hfr2
                have hnb : ∀ b ∈ bss.getD j [], (cx.den m).ownBlock ≠ some b := fun b hb hv => pp.2.2 b (by simp [hv]) b (getD_mem_flatten hb) rfl
                refine ⟨fun b => b ∈ bss.getD j [], RdRowS.of_fp _ _ _ _ (FpRow.same _ _ _ _ hfr2 fun b hb => r3.block b (hlt b hb) fun e => hnb b hb e.symm), fun b hb => .inr (.inl ⟨(p4 b (getD_mem_flatten hb)).1, ?_⟩)⟩
                show π' b = 0
                have hv : v'.ownBlock ≠ some b := by
                  intro hv
                  rcases r4 with r4 | r4
                  · rw [r4] at hv; exact hnb b hb hv
                  · rw [r4] at hv; simp at hv; have := hlt b hb; omega
                simp only [π', if_neg hv, if_pos (p4 b (getD_mem_flatten hb)).2]
              | false =>
                obtain ⟨F, g1, g2⟩ := t8 ho1 j hj
                obtain ⟨e1, e2⟩ := rdmay deps1 t5 hdis1 _ _ F g1 g2
                exact ⟨_, e1, fun b hb => may_mono (fun i hi => List.mem_append.2 (.inl hi)) (e2 b hb)⟩
            refine Oper.wp_value r1 ⟨_, _, hk, Stp.newSl h (cons := ks) (π' := π') r5 hold hπ ⟨rv ++ rv2, ?_, by simp [t2, s3], ?_, fun j hj => ?_, fun b hb => ?_⟩ (fun i hi => ?_) t4 hnx hf⟩
            · simp only [upd_same]
              rw [List.flatten_append, List.length_append, t2]; exact r2
            · intro r hr
              rcases List.mem_append.1 hr with hr | hr
              · exact t3 r hr
              · exact hrl r hr
            · simp only [List.length_append] at hj
              by_cases hjl : j < rows.length
              · rw [getD_app_left _ _ _ hjl, getD_app_left _ _ _ (by omega)]
                exact h1rows j hjl
              · rw [getD_app_right _ _ _ (by omega), getD_app_right _ _ _ (by omega), t2]
                obtain ⟨e1, e2⟩ := rdmay deps2 hdeps2 hdis _ _ _ (s4 (j - rows.length) (by omega)) f2
                exact ⟨_, e1, fun b hb => may_mono (fun i hi => List.mem_append.2 (.inr hi)) (e2 b hb)⟩
            · simp only [upd_same] at hb
              refine ⟨?_, by show π' b = nx; simp only [π', if_pos hb]⟩
              rcases r4 with r4 | r4
              · rw [r4] at hb; exact (t6 b hb).1
              · rw [r4] at hb; simp at hb; have := h.old; omega
            · rcases List.mem_append.1 hi with hi | hi
              · exact t5 i hi
              · exact hdeps2 i hi
          have top_case' : (if (ks.any fun k => (deps1 ++ deps2).any (Nat.beq k)) = true then False else q ⟨.one (.one (.ext nx)), (nx, .top e ts (rows ++ rows2) (deps1 ++ deps2)) :: ks.map fun i => (i, .dead)⟩) → o.wp P a w (fun a' w' => ∃ e m', q e ∧ Stp Γ al fr o.dst m a w e m' a' w') Q := by
            intro hk
            split at hk
            · exact hk.elim
            · rename_i hne; exact top_case (by simpa using hne) hk
          cases own1 with
          | false => exact top_case' hk
          | true =>
            cases hlf : leafs ts with
            | true =>
              rw [hlf] at hk
              obtain ⟨rv2, bss2, l1, l2, l3, l4, l5⟩ := leaf_rows (leafs_ok hlf) (RdS.rd _ _ _ f1)
              exact own_case rv2 bss2 ks l1 l2 l3 l4 rfl (fun i hi => hi) t4 (by rw [l5]; simp) (by rw [l5]; simp) hk
            | false =>
              rw [hlf] at hk
              cases own2 with
              | none => exact top_case' hk
              | some k2' =>
                simp only at hk
                split at hk
                · exact hk.elim
                · rename_i hne
                  obtain ⟨rfl, hk2⟩ := hown2 _ rfl
                  have hne : k2' ∉ ks := fun hm => hne (List.any_eq_true.2 ⟨k2', hm, by simp⟩)
                  obtain ⟨⟨bs, b1, b2, b3⟩, -, -⟩ := h.en _ _ hk2
                  simp only [Fp] at b1
                  obtain ⟨rv2, bss2, q1, q2, q3, q4, q5, rfl⟩ := b1
                  have hb : ∀ b ∈ bss2.flatten, Γ.base ≤ b ∧ m.π b = k2' := fun b hb => b3 b (List.mem_append.2 (.inr hb))
                  exact own_case rv2 bss2 (k2' :: ks) (owns_SlAt q1 q4) q2 q3 q5 rfl (fun i hi => List.mem_cons_of_mem _ hi) (fun i hi => by
                    rcases List.mem_cons.1 hi with rfl | hi
                    · exact hak2
                    · exact t4 i hi) (List.nodup_append.1 b2).2.1 (fun b hb' => ⟨(hb b hb').1, by rw [(hb b hb').2]; simp, by rw [(hb b hb').2]; exact hne⟩) hk
        · exact hk.elim
      · exact hk.elim
    · exact hk.elim
  · exact hk.elim
end
end Go.Proofs.Ytemgpfojmdncjaa
