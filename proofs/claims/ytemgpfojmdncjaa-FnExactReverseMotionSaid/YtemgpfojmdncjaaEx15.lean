/-
  The reckoner's regions, whole. Over any program.
-/
import Derived.Test.YtemgpfojmdncjaaEx14
namespace Go.Proofs.Ytemgpfojmdncjaa
set_option linter.unusedVariables false
set_option linter.unusedSimpArgs false
open Go.RowKit

def cnt (l : List Bool) : Nat := (l.filter (!·)).length
theorem cnt_set : ∀ {l : List Bool} {i : Nat}, l[i]? = some false → cnt (l.set i true) + 1 = cnt l
  | [], _, h => by simp at h
  | x :: r, 0, h => by simp at h; subst h; simp [cnt]
  | x :: r, i + 1, h => by
    have := cnt_set (l := r) (i := i) (by simpa using h)
    cases x <;> simp [cnt] at this ⊢ <;> omega
theorem cnt_pos : ∀ {l : List Bool} {i : Nat}, l[i]? = some false → 0 < cnt l
  | [], _, h => by simp at h
  | x :: r, 0, h => by simp at h; subst h; simp [cnt]
  | x :: r, i + 1, h => by
    have := cnt_pos (l := r) (i := i) (by simpa using h)
    cases x <;> simp [cnt] at this ⊢ <;> omega

section
variable {P : Program} {tt : TT} {ct : CTs} {Γ : Env} {n : Nat} {w0 : World} {s : St} {m : Maps} {a : Act} {w : World} {nx : Nat}

theorem ready_mem {ops : Array Oper} {listed : Array Bool} (hs : listed.size = ops.size) {i : Nat} (h : i ∈ Region.ready .any ops listed) :
    i < ops.size ∧ doneOf listed i = false ∧ ∀ o, ops[i]? = some o → ∀ j ∈ onsOf o, doneOf listed j = true := by
  simp only [Region.ready, List.mem_filter, List.mem_range, Bool.and_eq_true, Bool.not_eq_true'] at h
  obtain ⟨h1, h2, h3⟩ := h
  refine ⟨h1, ?_, fun o ho j hj => ?_⟩
  · unfold doneOf
    rw [Array.getD_eq_getD_getElem?] at h2 ⊢
    rw [Array.getElem?_eq_getElem (by omega)] at h2 ⊢
    simpa using h2
  · rw [ho] at h3
    simp only [Option.map_some, Option.getD_some] at h3
    obtain ⟨e, he, rfl⟩ := List.mem_map.1 hj
    obtain ⟨he1, he2⟩ := List.mem_filter.1 he
    have := Array.all_eq_true_iff_forall_mem.1 h3 e (by simpa using he1)
    simp only [Bool.or_eq_true, Bool.not_eq_true'] at this
    rcases this with h | h
    · rw [he2] at h; cases h
    · exact h
theorem ready_of {ops : Array Oper} {listed : Array Bool} (hs : listed.size = ops.size) {i : Nat} {o : Oper} (hi : ops[i]? = some o) (hd : doneOf listed i = false) (h : ∀ j ∈ onsOf o, doneOf listed j = true) : i ∈ Region.ready .any ops listed := by
  have hlt : i < ops.size := (Array.getElem?_eq_some_iff.1 hi).1
  simp only [Region.ready, List.mem_filter, List.mem_range, Bool.and_eq_true, Bool.not_eq_true']
  refine ⟨hlt, ?_, ?_⟩
  · unfold doneOf at hd
    rw [Array.getD_eq_getD_getElem?] at hd ⊢
    rw [Array.getElem?_eq_getElem (by omega)] at hd ⊢
    simpa using hd
  · rw [hi]
    simp only [Option.map_some, Option.getD_some]
    refine Array.all_eq_true_iff_forall_mem.2 fun e he => ?_
    simp only [Bool.or_eq_true, Bool.not_eq_true']
    cases hb : Region.binds .any e with
    | false => exact .inl rfl
    | true => exact .inr (h _ (List.mem_map.2 ⟨e, List.mem_filter.2 ⟨by simpa using he, hb⟩, rfl⟩))

theorem draw_any (hT : TTok P tt) (hct : CTok P ct) {hints : List Nat} {ops : Array Oper} {A : List (List Nat)} {TR : Tr} (hA : ancChk A ops.toList 0 = true) (hN : (dstsOf ops.toList).Nodup) (hTR : TR.map (·.1) = ops.toList) (h0 : 0 < nx)
    (hok : ∀ i, i < ops.size → OpOk tt ct hints n ops.toList A s nx TR i) (hck : drawChk A s TR TR 0 = true) {Q : Exit → Act → World → Prop} (hQ : ∀ m a w, R Γ n w0 (alN (nx + 32 * ops.size)) (fold (fun _ => true) TR 0 s) m a w → Q .normal a w) :
    ∀ (fuel : Nat) (listed : Array Bool) {m : Maps} {a : Act} {w : World}, listed.size = ops.size → cnt listed.toList ≤ fuel → (∀ k, doneOf listed k = true → ∀ q, anc A k q = true → doneOf listed q = true) →
      R Γ n w0 (alD nx ops.size (doneOf listed)) (fold (doneOf listed) TR 0 s) m a w → wpAny P .any ops Q fuel listed a w := by
  have hlen : TR.length = ops.size := by have := congrArg List.length hTR; simpa using this
  have hfin : ∀ (listed : Array Bool) (m : Maps) (a : Act) (w : World), listed.size = ops.size → Region.ready .any ops listed = [] → R Γ n w0 (alD nx ops.size (doneOf listed)) (fold (doneOf listed) TR 0 s) m a w → Q .normal a w := by
    intro listed m a w hs hr h
    have hall : ∀ i, i < ops.size → doneOf listed i = true := by
      intro i
      induction i using Nat.strongRecOn with
      | _ i ih =>
        intro hi
        cases hd : doneOf listed i with
        | true => rfl
        | false =>
          have ho : ops[i]? = some ops[i] := Array.getElem?_eq_getElem hi
          have := ready_of hs ho hd fun j hj => by
            have hj' := ((ancChk_get (i := i) (o := ops[i]) hA (by rw [Array.getElem?_toList]; exact ho)).1 j hj).1
            exact ih j (by omega) (by omega)
          rw [hr] at this
          cases this
    have hf : ∀ (tr : Tr) (k : Nat) (X : St), k + tr.length ≤ ops.size → fold (doneOf listed) tr k X = fold (fun _ => true) tr k X := by
      intro tr
      induction tr with
      | nil => intro k X _; rfl
      | cons y r ih =>
        intro k X hk
        obtain ⟨o, e⟩ := y
        simp only [List.length_cons] at hk
        simp only [fold, hall k (by omega)]
        exact ih (k + 1) _ (by omega)
    rw [hf TR 0 s (by omega)] at h
    refine hQ m a w (h.more ?_ ?_)
    · rintro j (hj | ⟨k, h1, _, h3, h4⟩)
      · unfold alN at *; omega
      · unfold alN; omega
    · unfold alN; omega
  intro fuel
  induction fuel with
  | zero =>
    intro listed m a w hs hc hcl h
    have hr : Region.ready .any ops listed = [] := by
      cases hr : Region.ready .any ops listed with
      | nil => rfl
      | cons i r =>
        obtain ⟨h1, h2, -⟩ := ready_mem hs (i := i) (by rw [hr]; simp)
        have : listed.toList[i]? = some false := by
          unfold doneOf at h2
          rw [Array.getD_eq_getD_getElem?, Array.getElem?_eq_getElem (by omega)] at h2
          rw [Array.getElem?_toList, Array.getElem?_eq_getElem (by omega)]
          simpa using h2
        have := cnt_pos this
        omega
    exact ⟨hr, hfin listed m a w hs hr h⟩
  | succ fuel ih =>
    intro listed m a w hs hc hcl h
    refine ⟨fun hr => hfin listed m a w hs hr h, fun i hi => ?_⟩
    obtain ⟨h1, h2, h3⟩ := ready_mem hs hi
    have ho : ops[i]? = some ops[i] := Array.getElem?_eq_getElem h1
    have hanc : ∀ q, anc A i q = true → doneOf listed q = true := fun q hq => by
      obtain ⟨-, j, hj, e⟩ := (ancChk_get (i := i) (o := ops[i]) hA (by rw [Array.getElem?_toList]; exact ho)).2 q (by simpa using hq)
      have hdj := h3 _ ho j hj
      rcases e with rfl | e
      · exact hdj
      · exact hcl j hdj q e
    have hset : ∀ k, doneOf (listed.setIfInBounds i true) k = (doneOf listed k || Nat.beq k i) := fun k => by
      unfold doneOf
      rw [Array.getD_eq_getD_getElem?, Array.getD_eq_getD_getElem?]
      by_cases hk : k = i
      · subst hk
        rw [Array.getElem?_setIfInBounds_self_of_lt (by omega)]; simp
      · rw [Array.getElem?_setIfInBounds_ne (fun e => hk e.symm), beq_ne hk, Bool.or_false]
    have hDN : ∀ k, doneOf listed k = true → k < ops.size := fun k hk => by
      rcases Nat.lt_or_ge k ops.size with h | h
      · exact h
      · unfold doneOf at hk
        rw [Array.getD_eq_getD_getElem?, Array.getElem?_eq_none (by omega)] at hk
        cases hk
    have hstep := draw_step (D := doneOf listed) (D' := doneOf (listed.setIfInBounds i true)) (Q := Q) hT hct hA hN hTR h0 hok hck h1 h2 hset hcl hanc hDN h
    refine wpOp_mono ?_ hstep
    rintro a' w' ⟨m', h'⟩
    refine ih _ (by simp [hs]) ?_ ?_ h'
    · have : listed.toList[i]? = some false := by
        unfold doneOf at h2
        rw [Array.getD_eq_getD_getElem?, Array.getElem?_eq_getElem (by omega)] at h2
        rw [Array.getElem?_toList, Array.getElem?_eq_getElem (by omega)]
        simpa using h2
      have := cnt_set this
      rw [Array.toList_setIfInBounds]
      omega
    · intro k hk q hq
      rw [hset, Bool.or_eq_true] at hk ⊢
      rcases hk with hk | hk
      · exact .inl (hcl k hk q hq)
      · obtain rfl := Nat.eq_of_beq_eq_true hk
        exact .inl (hanc q hq)

theorem R.lits {al : Nat → Prop} (h : R Γ n w0 al s m a w) (lit : List Nat) : R Γ n w0 al { s with lit := lit } m a w := h.eq rfl rfl

theorem xdrawn_sound (hm : P.follows .mixedOrders = true) (hT : TTok P tt) (hct : CTok P ct) {hints : List Nat} {id : Nat} {ops : Array Oper} {q : St → Nat → Prop} (hx : xdrawn tt ct hints n ops.toList s nx q) (h0 : 0 < nx) (h : R Γ n w0 (alN nx) s m a w) {Q : Exit → Act → World → Prop}
    (hQ : ∀ s' nx' m' a' w', 0 < nx' → q s' nx' → R Γ n w0 (alN nx') s' m' a' w' → Q .normal a' w') : (Code.region id ops true).wp P Q a w := by
  unfold xdrawn at hx
  split at hx
  · exact hx.elim
  · rename_i hc
    simp only [Bool.and_eq_true] at hc
    obtain ⟨hA, hN⟩ := hc
    obtain ⟨TR, lit, hq, hl, hok⟩ := xdraw_trace hA _ 0 [] _ _ hx rfl (fun k => by simp)
    simp only [List.nil_append, Nat.zero_add] at hq hok
    split at hq
    · exact hq.elim
    · rename_i hck
      have hTR : TR.map (·.1) = ops.toList := by
        apply List.ext_getElem?
        intro i
        by_cases hi : i < ops.toList.length
        · obtain ⟨o, e, lit, h1, h2, -⟩ := hok i hi
          rw [List.getElem?_map, h1, h2]; rfl
        · rw [List.getElem?_eq_none (by simp [hl] at hi ⊢; omega), List.getElem?_eq_none (by omega)]
      refine wp_region_any hm (draw_any hT hct hA (nodupB_ok hN) hTR h0 (fun i hi => hok i (by simpa using hi)) hck (fun m' a' w' h' => hQ _ _ m' a' w' (by omega) hq (by rw [Array.length_toList]; exact h'.lits lit)) ops.size _ (by simp) ?_ ?_ (m := m) ?_)
      · have : ∀ l : List Bool, cnt l ≤ l.length := fun l => List.length_filter_le _ _
        exact Nat.le_trans (this _) (by simp)
      · intro k hk
        exfalso
        unfold doneOf at hk
        rw [Array.getD_eq_getD_getElem?] at hk
        rw [Array.getElem?_replicate] at hk
        split at hk <;> cases hk
      · have hf : ∀ (tr : Tr) (k : Nat) (X : St), fold (doneOf (Array.replicate ops.size false)) tr k X = X := by
          intro tr
          induction tr with
          | nil => intro k X; rfl
          | cons y r ih =>
            intro k X
            obtain ⟨o, e⟩ := y
            have : doneOf (Array.replicate ops.size false) k = false := by
              unfold doneOf
              rw [Array.getD_eq_getD_getElem?]
              rw [Array.getElem?_replicate]
              split <;> rfl
            simp only [fold, this]
            exact ih _ _
        rw [hf]
        exact h.drew.more (fun i hi => .inl hi) (by
          rintro (hj | ⟨k, _, _, h3, _⟩)
          · exact absurd hj.1 (by omega)
          · omega)
end
end Go.Proofs.Ytemgpfojmdncjaa
