/-
  The reckoner's regions that draw their order: what is reckoned in the order of the text holds in every order. Over any program.
-/
import Derived.Test.YtemgpfojmdncjaaEx13
namespace Go.Proofs.Ytemgpfojmdncjaa
set_option linter.unusedVariables false
set_option linter.unusedSimpArgs false
open Go.RowKit

theorem setVal_self {tr : Tr} {j : Nat} {b want : Bool} (h : valB tr j = some b) (e : b = want) : setVal tr j (T.ofV (.bool want)) = tr := by
  subst e
  unfold valB at h
  unfold setVal
  split at h
  · rename_i o b' u hj
    simp only [Option.some.injEq] at h
    subst h
    rw [hj]
    simp only
    have hl := (List.getElem?_eq_some_iff.1 hj)
    obtain ⟨h1, h2⟩ := hl
    have e3 : (o, ({ val := T.ofV (.bool b'), upd := u } : Eff)) = tr[j] := h2.symm
    rw [e3, List.set_getElem_self]
  · cases h
theorem valB_app {tr suf : Tr} {j : Nat} {b : Bool} (h : valB tr j = some b) : valB (tr ++ suf) j = some b := by
  unfold valB at h ⊢
  split at h
  · rename_i o b' u hj
    rw [List.getElem?_append_left (List.getElem?_eq_some_iff.1 hj).1, hj]
    exact h
  · cases h

theorem valU_app {tr suf : Tr} {j : Nat} (h : valU tr j = true) : valU (tr ++ suf) j = true := by
  unfold valU at h ⊢
  split at h
  · rename_i o b' u hj
    rw [List.getElem?_append_left (List.getElem?_eq_some_iff.1 hj).1, hj]
  · cases h
/-- What is known of the operation number i of the whole trace. -/
def OpOk (tt : TT) (ct : CTs) (hints : List Nat) (n : Nat) (all : List Oper) (A : List (List Nat)) (s0 : St) (nx : Nat) (TR : Tr) (i : Nat) : Prop :=
  ∃ o e lit, TR[i]? = some (o, e) ∧ all[i]? = some o ∧ dstOk n o = true ∧
    match o.guard with
    | none => xop tt ct hints o (visOf A all s0 TR i lit) (nx + 32 * i) (· = e)
    | some (j, want) => anc A i j = true ∧ ∃ t, guardTmp all j = some t ∧ ((valU TR j = true ∧ e = skipE) ∨ ∃ b, valB TR j = some b ∧ ((b = want ∧ xop tt ct hints o (visOf A all s0 TR i lit) (nx + 32 * i) (· = e)) ∨ (b ≠ want ∧ e = skipE)))

theorem ancChk_get {A : List (List Nat)} : ∀ {l : List Oper} {k i : Nat} {o : Oper}, ancChk A l k = true → l[i]? = some o →
    (∀ j ∈ onsOf o, j < k + i ∧ anc A (k + i) j = true ∧ ∀ q, anc A j q = true → anc A (k + i) q = true) ∧ (∀ q, anc A (k + i) q = true → q < k + i ∧ ∃ j ∈ onsOf o, j = q ∨ anc A j q = true)
  | [], _, _, _, _, h => by simp at h
  | o0 :: r, k, 0, o, hc, h => by
    simp at h
    subst h
    simp only [ancChk, Bool.and_eq_true] at hc
    obtain ⟨⟨h1, h2⟩, -⟩ := hc
    refine ⟨fun j hj => ?_, fun q hq => ?_⟩
    · have := List.all_eq_true.1 h1 j hj
      simp only [Bool.and_eq_true, Nat.ble_eq] at this
      exact ⟨by omega, this.1.2, fun q hq => List.all_eq_true.1 this.2 q (mem_iff.1 hq)⟩
    · have := List.all_eq_true.1 h2 q (mem_iff.1 hq)
      simp only [Bool.and_eq_true, Nat.ble_eq] at this
      obtain ⟨j, hj, e⟩ := List.any_eq_true.1 this.2
      simp only [Bool.or_eq_true, Nat.beq_eq] at e
      exact ⟨by omega, j, hj, e⟩
  | o0 :: r, k, i + 1, o, hc, h => by
    simp only [ancChk, Bool.and_eq_true] at hc
    have := ancChk_get (i := i) hc.2 (by simpa using h)
    rwa [show k + 1 + i = k + (i + 1) by omega] at this

theorem xdraw_trace {tt : TT} {ct : CTs} {hints : List Nat} {n : Nat} {all : List Oper} {A : List (List Nat)} {s0 : St} {nx : Nat} (hA : ancChk A all 0 = true) : ∀ (r : List Oper) (i : Nat) (tr : Tr) (lit : List Nat) (q : Tr → List Nat → Prop),
    xdraw tt ct hints n all A s0 nx r i tr lit q → tr.length = i → (∀ k, r[k]? = all[i + k]?) → ∃ suf lit', q (tr ++ suf) lit' ∧ suf.length = r.length ∧ ∀ k, k < r.length → OpOk tt ct hints n all A s0 nx (tr ++ suf) (i + k)
  | [], i, tr, lit, q, h, _, _ => ⟨[], lit, by simpa [xdraw] using h, rfl, by simp⟩
  | o :: r, i, tr, lit, q, h, hl, hall => by
    have ho : all[i]? = some o := by simpa using (hall 0).symm
    have hall' : ∀ k, r[k]? = all[i + 1 + k]? := fun k => by
      have := hall (k + 1)
      simpa [show i + (k + 1) = i + 1 + k by omega] using this
    have hfr : ∀ q, i ≤ q → anc A i q = false := fun q hq => by
      cases ha : anc A i q with
      | false => rfl
      | true =>
        have := ((ancChk_get hA ho).2 q (by simpa using ha)).1
        omega
    have hvis : ∀ (e : Eff) (suf : Tr) (lit : List Nat), visOf A all s0 (tr ++ [(o, e)] ++ suf) i lit = visOf A all s0 tr i lit := fun e suf lit => by
      unfold visOf
      rw [List.append_assoc, fold_prefix tr _ 0 s0 (fun q hq => hfr q (by omega))]
    -- one way on
    have go : ∀ (e : Eff) (lit1 : List Nat), xdraw tt ct hints n all A s0 nx r (i + 1) (tr ++ [(o, e)]) lit1 q → (∀ suf, OpOk tt ct hints n all A s0 nx (tr ++ [(o, e)] ++ suf) i) →
        ∃ suf lit', q (tr ++ suf) lit' ∧ suf.length = (o :: r).length ∧ ∀ k, k < (o :: r).length → OpOk tt ct hints n all A s0 nx (tr ++ suf) (i + k) := by
      intro e lit1 hx hop
      obtain ⟨suf, lit', q1, q2, q3⟩ := xdraw_trace hA r (i + 1) _ _ q hx (by simp [hl]) hall'
      refine ⟨(o, e) :: suf, lit', by simpa using q1, by simp [q2], fun k hk => ?_⟩
      cases k with
      | zero => simpa using hop suf
      | succ k => simpa [show i + (k + 1) = i + 1 + k by omega] using q3 k (by simpa using hk)
    have hget : ∀ (e : Eff) (suf : Tr), (tr ++ [(o, e)] ++ suf)[i]? = some (o, e) := fun e suf => by
      rw [List.append_assoc, List.getElem?_append_right (by omega)]
      simp [hl]
    simp only [xdraw] at h
    split at h
    · exact h.elim
    · rename_i hd
      split at h
      · rename_i hg
        obtain ⟨e, he1, he2⟩ := xop_wit h
        refine go e _ he1 fun suf => ⟨o, e, lit, hget e suf, ho, hd, ?_⟩
        rw [hg]
        simp only
        rw [hvis]; exact he2
      · rename_i j want hg
        split at h
        · rename_i t b ha ht hv
          obtain ⟨g1, g2⟩ := gcase_elim h
          by_cases hbw : b = want
          · have hx := g1 (by subst hbw; cases b <;> rfl)
            rw [setVal_self hv hbw] at hx
            obtain ⟨e, he1, he2⟩ := xop_wit hx
            refine go e _ he1 fun suf => ⟨o, e, t :: lit, hget e suf, ho, hd, ?_⟩
            rw [hg]
            simp only
            refine ⟨ha, t, ht, .inr ⟨b, ?_, .inl ⟨hbw, by rw [hvis]; exact he2⟩⟩⟩
            rw [List.append_assoc]; exact valB_app hv
          · have hbw' : b = !want := by cases b <;> cases want <;> simp at hbw ⊢
            have hx := g2 (by subst hbw'; cases want <;> rfl)
            rw [setVal_self hv hbw'] at hx
            refine go skipE _ hx fun suf => ⟨o, skipE, lit, hget _ suf, ho, hd, ?_⟩
            rw [hg]
            simp only
            refine ⟨ha, t, ht, .inr ⟨b, ?_, .inr ⟨hbw, trivial⟩⟩⟩
            rw [List.append_assoc]; exact valB_app hv
        · rename_i t ha ht hv
          split at h
          · rename_i hu
            refine go skipE _ h fun suf => ⟨o, skipE, lit, hget _ suf, ho, hd, ?_⟩
            rw [hg]
            simp only
            refine ⟨ha, t, ht, .inl ⟨?_, trivial⟩⟩
            rw [List.append_assoc]; exact valU_app hu
          · exact h.elim
        · exact h.elim

theorem lkp_filter {α : Type} {p : Nat → Bool} : ∀ {l : List (Nat × α)} {t : Nat} {v : α}, lkp (l.filter fun x => p x.1) t = some v → p t = true ∧ lkp l t = some v
  | [], t, v, h => by simp [lkp] at h
  | (i, x) :: r, t, v, h => by
    rw [List.filter_cons] at h
    split at h
    · rename_i hp
      rw [lkp_cons] at h ⊢
      split at h
      · rename_i e; subst e; rw [if_pos rfl]; exact ⟨hp, h⟩
      · rename_i e; rw [if_neg e]; exact lkp_filter h
    · rename_i hp
      obtain ⟨h1, h2⟩ := lkp_filter h
      refine ⟨h1, ?_⟩
      rw [lkp_cons, if_neg]
      · exact h2
      · intro e; subst e; exact hp h1
theorem dstsUn_mem {A : List (List Nat)} {i : Nat} : ∀ {l : List Oper} {k q : Nat} {o : Oper} {t : Nat}, l[q]? = some o → o.dst = some t → k + q ≠ i → anc A i (k + q) = false → anc A (k + q) i = false → t ∈ dstsUn A i l k
  | [], _, _, _, _, h, _, _, _, _ => by simp at h
  | o0 :: r, k, 0, o, t, h, ht, h1, h2, h3 => by
    simp at h
    subst h
    simp only [dstsUn]
    simp only [Nat.add_zero] at h1 h2 h3
    rw [h2, h3, beq_ne h1]
    exact List.mem_append.2 (.inl (by simp [ht]))
  | o0 :: r, k, q + 1, o, t, h, ht, h1, h2, h3 => by
    simp only [dstsUn]
    refine List.mem_append.2 (.inr (dstsUn_mem (q := q) (by simpa using h) ht ?_ ?_ ?_)) <;> rw [show k + 1 + q = k + (q + 1) by omega] <;> assumption
theorem dstsOf_mem : ∀ {l : List Oper} {q : Nat} {o : Oper} {t : Nat}, l[q]? = some o → o.dst = some t → t ∈ dstsOf l
  | [], _, _, _, h, _ => by simp at h
  | o0 :: r, 0, o, t, h, ht => by simp at h; subst h; simp [dstsOf, ht]
  | o0 :: r, q + 1, o, t, h, ht => by simp only [dstsOf]; exact List.mem_append.2 (.inr (dstsOf_mem (q := q) (by simpa using h) ht))
/-- No two operations have one temporary: the value stands. -/
theorem fold_dst {D : Nat → Bool} : ∀ {tr : Tr} {k q : Nat} {X : St} {o : Oper} {e : Eff} {t : Nat}, (dstsOf (tr.map (·.1))).Nodup → tr[q]? = some (o, e) → o.dst = some t → D (k + q) = true → lkp (fold D tr k X).tm t = some e.val
  | [], _, _, _, _, _, _, _, h, _, _ => by simp at h
  | (o0, e0) :: r, k, 0, X, o, e, t, hn, h, ht, hD => by
    simp at h
    obtain ⟨rfl, rfl⟩ := h
    simp only [fold]
    rw [show D k = true by simpa using hD]
    simp only [List.map_cons, dstsOf, ht, Option.toList_some, List.singleton_append, List.nodup_cons] at hn
    have key : ∀ (r : Tr) (k : Nat) (Y : St), t ∉ dstsOf (r.map (·.1)) → lkp (fold D r k Y).tm t = lkp Y.tm t := by
      intro r
      induction r with
      | nil => intro k Y _; rfl
      | cons y r ih =>
        intro k Y hn
        obtain ⟨o', e'⟩ := y
        simp only [List.map_cons, dstsOf, List.mem_append, not_or] at hn
        simp only [fold]
        rw [ih (k + 1) _ hn.2]
        cases D k with
        | false => rfl
        | true => simp only; rw [app_tm, if_neg (fun e => hn.1 (by simp [e]))]
    rw [key r (k + 1) _ hn.1, app_tm, if_pos ht]
  | (o0, e0) :: r, k, q + 1, X, o, e, t, hn, h, ht, hD => by
    simp only [fold]
    simp only [List.map_cons, dstsOf] at hn
    exact fold_dst (q := q) (List.nodup_append.1 hn).2.1 (by simpa using h) ht (by rwa [show k + 1 + q = k + (q + 1) by omega])
theorem drawChk_get {A : List (List Nat)} {s0 : St} {TR : Tr} : ∀ {l : Tr} {k i : Nat} {x : Oper × Eff}, drawChk A s0 TR l k = true → l[i]? = some x → visChk A (k + i) TR 0 s0 = true ∧ commChk A (k + i) x TR 0 = true
  | [], _, _, _, _, h => by simp at h
  | x0 :: r, k, 0, x, hc, h => by
    simp at h
    subst h
    simp only [drawChk, Bool.and_eq_true] at hc
    exact hc.1
  | x0 :: r, k, i + 1, x, hc, h => by
    simp only [drawChk, Bool.and_eq_true] at hc
    have := drawChk_get (i := i) hc.2 (by simpa using h)
    rwa [show k + 1 + i = k + (i + 1) by omega] at this
theorem commChk_get {A : List (List Nat)} {i : Nat} {x : Oper × Eff} : ∀ {l : Tr} {k q : Nat} {y : Oper × Eff}, commChk A i x l k = true → l[q]? = some y → i < k + q → anc A i (k + q) = false → anc A (k + q) i = false → commOk x y = true
  | [], _, _, _, _, h, _, _, _ => by simp at h
  | y0 :: r, k, 0, y, hc, h, h1, h2, h3 => by
    simp at h
    subst h
    simp only [commChk, Bool.and_eq_true, Bool.or_eq_true, Nat.ble_eq] at hc
    simp only [Nat.add_zero] at h1 h2 h3
    rw [h3] at hc
    rcases hc.1 with (h | h) | h
    · omega
    · cases h
    · exact h
  | y0 :: r, k, q + 1, y, hc, h, h1, h2, h3 => by
    simp only [commChk, Bool.and_eq_true] at hc
    refine commChk_get (q := q) hc.2 (by simpa using h) ?_ ?_ ?_ <;> rw [show k + 1 + q = k + (q + 1) by omega] <;> assumption

section
variable {P : Program} {tt : TT} {ct : CTs} {Γ : Env} {n : Nat} {w0 : World} {s : St} {m : Maps} {a : Act} {w : World} {nx : Nat}

theorem R.drew {al : Nat → Prop} (h : R Γ n w0 al s m a w) : R Γ n w0 al s m a { w with drawn := w.drawn + 1 } where
  size := h.size
  defers := h.defers
  old := h.old
  below := h.below.drew
  tm := h.tm
  en := fun i E hE => by
    obtain ⟨h1, h2, h3⟩ := h.en i E hE
    exact ⟨h1.keep (S := al) (us := []) h2 h3 (fun _ _ => ⟨rfl, rfl⟩) (by simp) (by simp) (hangs_nil E) (Nat.le_refl _) (fun _ _ _ => rfl) (fun _ _ _ => rfl), h2, h3⟩
  pos := h.pos

def alD (nx N : Nat) (D : Nat → Bool) (i : Nat) : Prop := alN nx i ∨ ∃ j, j < N ∧ D j = true ∧ nx + 32 * j ≤ i ∧ i < nx + 32 * j + 32
def doneOf (listed : Array Bool) (k : Nat) : Bool := listed.getD k false

/-- One operation, picked whenever it may be. -/
theorem draw_step (hT : TTok P tt) (hct : CTok P ct) {hints : List Nat} {ops : Array Oper} {A : List (List Nat)} {TR : Tr} (hA : ancChk A ops.toList 0 = true) (hN : (dstsOf ops.toList).Nodup) (hTR : TR.map (·.1) = ops.toList) (h0 : 0 < nx)
    (hok : ∀ i, i < ops.size → OpOk tt ct hints n ops.toList A s nx TR i) (hck : drawChk A s TR TR 0 = true) {D D' : Nat → Bool} {i : Nat} (hi : i < ops.size) (hDi : D i = false) (hD' : ∀ k, D' k = (D k || Nat.beq k i))
    (hcl : ∀ k, D k = true → ∀ q, anc A k q = true → D q = true) (hanc : ∀ q, anc A i q = true → D q = true) (hDN : ∀ k, D k = true → k < ops.size) (h : R Γ n w0 (alD nx ops.size D) (fold D TR 0 s) m a w) {Q : Exit → Act → World → Prop} :
    wpOp P ops Q i (fun a' w' => ∃ m', R Γ n w0 (alD nx ops.size D') (fold D' TR 0 s) m' a' w') a w := by
  obtain ⟨o, e, lit, hTi, hoi, hd, hrest⟩ := hok i hi
  have hoi' : ops[i]? = some o := by simpa using hoi
  have hlen : TR.length = ops.size := by have := congrArg List.length hTR; simpa using this
  obtain ⟨hvc, hcc⟩ := drawChk_get hck hTi
  simp only [Nat.zero_add] at hvc hcc
  have hnanc : ∀ k, D k = true → anc A k i = false := fun k hk => by
    cases ha : anc A k i with
    | false => rfl
    | true => have := hcl k hk i ha; rw [hDi] at this; cases this
  have hdst : ∀ {q : Nat} {o' : Oper} {e' : Eff}, TR[q]? = some (o', e') → ops.toList[q]? = some o' := fun {q o' e'} hq => by
    rw [← hTR, List.getElem?_map, hq]; rfl
  -- the small state lies in the big one
  have hvis : Vis (dstsUn A i ops.toList 0) (fold (anc A i) TR 0 s) (fold D TR 0 s) := by
    refine fold_vis (D := D) hanc hDi hnanc TR 0 s s (fun q o' e' hq hDq hna t ht => ?_) hvc (Vis.refl _ _)
    simp only [Nat.zero_add] at hDq hna
    refine dstsUn_mem (hdst hq) ht ?_ ?_ ?_ <;> simp only [Nat.zero_add]
    · intro e; subst e; rw [hDi] at hDq; cases hDq
    · exact hna
    · exact hnanc q hDq
  have hsmall : ∀ lit, R Γ n w0 (alD nx ops.size D) (visOf A ops.toList s TR i lit) m a w := fun lit => by
    refine h.less ?_ ?_
    · intro t v hv
      simp only [visOf, hideTm] at hv
      obtain ⟨p1, p2⟩ := lkp_filter (p := fun t => !(mem (dstsUn A i ops.toList 0) t)) hv
      rw [← hvis.1 t (mem_false.1 (by simpa using p1))]; exact p2
    · intro j E hE
      rcases hvis.2 j E hE with ⟨h1, E', h2⟩ | h1
      · exact .inl ⟨h1, (h.en _ _ h2).2.1⟩
      · exact .inr h1
  have hend : ∀ (e : Eff) (m' : Maps) (a' : Act) (w' : World), TR[i]? = some (o, e) → Stp Γ (alD nx ops.size D) (fun j => nx + 32 * i ≤ j ∧ j < nx + 32 * i + 32) o.dst m a w e m' a' w' → ∃ m', R Γ n w0 (alD nx ops.size D') (fold D' TR 0 s) m' a' w' := by
    intro e m' a' w' hTi' hs
    have hr := Stp.r h hs (by omega) (dstOk_ok hd)
    have heq := fold_last (D := D) (D' := D') (i := i) (x := (o, e)) hDi hD' TR 0 s (Nat.zero_le _) (by simpa using hTi') (fun q y hq hlt hDq => by
      simp only [Nat.zero_add] at hlt hDq
      have hcc' := (drawChk_get hck hTi').2
      simp only [Nat.zero_add] at hcc'
      exact commChk_get hcc' hq (by omega) (by
        cases ha : anc A i (0 + q) with
        | false => rfl
        | true =>
          have := ((ancChk_get hA hoi).2 (0 + q) (by simpa using ha)).1
          omega) (by simpa using hnanc q hDq))
    refine ⟨m', (hr.more (al' := alD nx ops.size D') ?_ ?_).less (fun t v hv => by rw [← heq.1]; exact hv) (fun j E hE => .inr (by rw [← heq.2]; exact hE))⟩
    · intro j hj
      rcases hj with (hj | ⟨k, h1, h2, h3⟩) | hj
      · exact .inl hj
      · exact .inr ⟨k, h1, by rw [hD', h2]; rfl, h3⟩
      · exact .inr ⟨i, hi, by rw [hD']; simp, hj⟩
    · rintro (hj | ⟨k, _, _, h3, _⟩)
      · exact absurd hj.1 (by omega)
      · omega
  have hal : ∀ j, alD nx ops.size D j → ¬ (nx + 32 * i ≤ j ∧ j < nx + 32 * i + 32) := by
    rintro j (hj | ⟨k, h1, h2, h3, h4⟩) hx
    · have := hj.2; omega
    · have : k = i := by omega
      subst this; rw [hDi] at h2; cases h2
  have hrun : ∀ lit, xop tt ct hints o (visOf A ops.toList s TR i lit) (nx + 32 * i) (· = e) → o.wp P a w (fun a' w' => ∃ m', R Γ n w0 (alD nx ops.size D') (fold D' TR 0 s) m' a' w') Q := fun lit hx => by
    have hs := snd_op (o := o) (fr := fun j => nx + 32 * i ≤ j ∧ j < nx + 32 * i + 32) hT hct (hsmall lit) hints hal (fun j h1 h2 => ⟨h1, h2⟩) _ hx Q
    refine Oper.wp_mono ?_ hs
    rintro a' w' ⟨e', m', rfl, hstp⟩
    exact hend _ m' a' w' hTi hstp
  unfold wpOp
  simp only [hoi']
  cases hg : o.guard with
  | none =>
    rw [hg] at hrest
    rw [if_pos (by simp [Region.wanted, hg])]
    exact .inl (hrun lit hrest)
  | some jw =>
    obtain ⟨j, want⟩ := jw
    rw [hg] at hrest
    obtain ⟨ha, t, ht, hrest⟩ := hrest
    have hDj := hanc j ha
    rcases hrest with ⟨hu, rfl⟩ | ⟨b, hv, hcase⟩
    · have hbv : ∃ x, a.tmps.getD t undef = .tuple x := by
        unfold valU at hu
        split at hu
        · rename_i oj x u hj
          have hdj : oj.dst = some t := by
            unfold guardTmp at ht
            rw [hdst hj] at ht
            simpa using ht
          have := fold_dst (D := D) (k := 0) (X := s) (by rw [hTR]; exact hN) hj hdj (by simpa using hDj)
          exact ⟨x, (h.tm _ _ this).1⟩
        · cases hu
      obtain ⟨x, hbv⟩ := hbv
      rw [not_wanted rfl hg ht hbv]
      simp only [Bool.false_eq_true, if_false]
      exact hend _ m _ _ hTi (Stp.skip h)
    have hbv : a.tmps.getD t undef = .bool b := by
      unfold valB at hv
      split at hv
      · rename_i oj b' u hj
        simp only [Option.some.injEq] at hv
        subst hv
        have hdj : oj.dst = some t := by
          unfold guardTmp at ht
          rw [hdst hj] at ht
          simpa using ht
        have := fold_dst (D := D) (k := 0) (X := s) (by rw [hTR]; exact hN) hj hdj (by simpa using hDj)
        exact (h.tm _ _ this).1
      · cases hv
    rw [wanted_of rfl hg ht hbv]
    rcases hcase with ⟨hbw, hx⟩ | ⟨hbw, rfl⟩
    · subst hbw
      simp only [beq_self_eq_true, if_true]
      exact .inl (hrun lit hx)
    · have hne : (b == want) = false := by simpa using hbw
      rw [hne]
      simp only [Bool.false_eq_true, if_false]
      exact hend _ m _ _ hTi (Stp.skip h)
end
end Go.Proofs.Ytemgpfojmdncjaa
