/-
  The reckoner's functions: a promise kept by a function's text. Over any program.
-/
import Derived.Test.YtemgpfojmdncjaaEx17
namespace Go.Proofs.Ytemgpfojmdncjaa
set_option linter.unusedVariables false
set_option linter.unusedSimpArgs false
open Go.RowKit

/-! ## What is known at the beginning -/
def iniC (id : Nat) : DC → C
  | .im v => .im v
  | .sl _ _ _ => .ext id
def iniCs : List DC → Nat → List C
  | [], _ => []
  | d :: ds, id => iniC id d :: iniCs ds (id + 1)
def iniEn : List DC → Nat → List (Nat × En)
  | [], _ => []
  | .im _ :: ds, id => iniEn ds (id + 1)
  | .sl e ts rows :: ds, id => (id, .view e ts rows []) :: iniEn ds (id + 1)
def iniTm : List DA → Nat → Nat → List (Nat × T)
  | [], _, _ => []
  | .one d :: r, p, id => (p, .one (.one (iniC id d))) :: iniTm r (p + 1) (id + 1)
  | .agg ds :: r, p, id => (p, .one (.agg (iniCs ds id))) :: iniTm r (p + 1) (id + ds.length)
def iniSt (as : List DA) : St := { tm := iniTm as 0 1, en := iniEn (as.flatMap DA.cells) 1, lit := [] }

/-! ## What comes back -/
def resA (tt : TT) (s : St) : ResultVar → Option A
  | .tmp t =>
    match lkp s.tm t with
    | some (.one a) => some a
    | _ => none
  | .cell t ty =>
    match (lkp s.tm t).bind T.c? with
    | some (.bp i off) =>
      match xloadB tt s ty i off with
      | some (.one a) => some a
      | _ => none
    | _ => none
def resAs (tt : TT) (s : St) : List ResultVar → Option (List A)
  | [] => some []
  | r :: rs =>
    match resA tt s r, resAs tt s rs with
    | some a, some as => some (a :: as)
    | _, _ => none
def A.cells : A → List C
  | .one c => [c]
  | .agg cs => cs
def A.sh : A → Option Nat
  | .one _ => none
  | .agg cs => some cs.length
def shEq : List (Option Nat) → List (Option Nat) → Bool
  | [], [] => true
  | none :: r, none :: s => shEq r s
  | some a :: r, some b :: s => Nat.beq a b && shEq r s
  | _, _ => false
/-- The things that go back as the caller's own. -/
def ownIds : List RC → List C → List Nat
  | .own _ _ _ :: r, .ext k :: cs => k :: ownIds r cs
  | _ :: r, _ :: cs => ownIds r cs
  | _, _ => []
def retC (s : St) (owns : List Nat) (rc : RC) (c : C) : Option Prop :=
  match rc, c with
  | .im v, .im u => some (u = v)
  | .own e ts rows, .ext k =>
    match lkp s.en k with
    | some (.own e' ts' rows') => if (Nat.beq e e' && Ty.beqs ts ts') = true then some (rows' = rows) else none
    | _ => none
  | .own _ _ rows, .im (.slice none 0 0) => some ([] = rows)
  | .view e ts rows, .ext k =>
    match slOf s k with
    | some (e', ts', rows', deps) => if (Nat.beq e e' && Ty.beqs ts ts' && disj deps owns) = true then some (rows' = rows) else none
    | none => none
  | .view _ _ rows, .im (.slice none 0 0) => some ([] = rows)
  | _, _ => none
def retCs (s : St) (owns : List Nat) : List RC → List C → Option (List Prop)
  | [], [] => some []
  | r :: rs, c :: cs =>
    match retC s owns r c, retCs s owns rs cs with
    | some p, some ps => some (p :: ps)
    | _, _ => none
  | _, _ => none
def retOk (tt : TT) (rvs : List ResultVar) (s : St) (r : RT) : Prop :=
  match resAs tt s rvs with
  | none => False
  | some as =>
    match shEq (as.map A.sh) r.sh && nodupB (ownIds r.cells (as.flatMap A.cells)) && (match r.tup with | true => !(Nat.beq as.length 1) | false => Nat.beq as.length 1) with
    | false => False
    | true =>
      match retCs s (ownIds r.cells (as.flatMap A.cells)) r.cells (as.flatMap A.cells) with
      | none => False
      | some ps => conj ps

def rvSem (tmps : Array Value) : ResultVar → Sem Value
  | .tmp t => pure (tmps.getD t undef)
  | .cell a t => do loadVar t (← asAddr (tmps.getD a undef))

section
variable {P : Program} {tt : TT} {Γ : Env} {n : Nat} {w0 : World} {al : Nat → Prop} {s : St} {m : Maps} {a : Act} {w : World}

theorem shEq_ok : ∀ {a b : List (Option Nat)}, shEq a b = true → a = b
  | [], [], _ => rfl
  | none :: r, none :: s, h => by rw [shEq_ok (a := r) (b := s) h]
  | some a :: r, some b :: s, h => by
    simp only [shEq, Bool.and_eq_true, Nat.beq_eq] at h
    rw [h.1, shEq_ok h.2]
  | [], none :: _, h => by simp [shEq] at h
  | [], some _ :: _, h => by simp [shEq] at h
  | none :: _, [], h => by simp [shEq] at h
  | some _ :: _, [], h => by simp [shEq] at h
  | none :: _, some _ :: _, h => by simp [shEq] at h
  | some _ :: _, none :: _, h => by simp [shEq] at h
theorem valA_as (m : Maps) : ∀ (as : List A), valA (as.map A.sh) ((as.flatMap A.cells).map (C.den m)) = as.map (A.den m)
  | [] => rfl
  | .one c :: r => by simp [A.sh, A.cells, valA, A.den, valA_as m r]
  | .agg cs :: r => by
    simp only [List.map_cons, A.sh, valA, List.flatMap_cons, A.cells, List.map_append, A.den]
    rw [List.take_left' (by simp), List.drop_left' (by simp), valA_as m r]
theorem resA_run (hT : TTok P tt) (h : R Γ n w0 al s m a w) {rv : ResultVar} {x : A} (hx : resA tt s rv = some x) :
    (rvSem a.tmps rv).run P w = .ok (x.den m) w := by
  unfold resA at hx
  split at hx
  · rename_i t
    split at hx
    · rename_i y hy
      simp only [Option.some.injEq] at hx
      subst hx
      have := (h.tm _ _ hy).1
      simp only [rvSem, this, T.den, Sem.run_pure]
    · cases hx
  · rename_i t ty
    split at hx
    · rename_i i off hb
      split at hx
      · rename_i y hy
        simp only [Option.some.injEq] at hx
        subst hx
        obtain ⟨v, e1, e2⟩ := Option.bind_eq_some_iff.1 hb
        have e3 := (h.tm _ _ e1).1
        rw [T.c?_some e2] at e3
        simp only [T.den, A.den, C.den] at e3
        have hl := (xloadB_run hT h hy).1
        simp only [rvSem, e3, asAddr, Sem.run_bind, Sem.run_pure, Result.andThen_ok]
        have e4 : (T.one y).den m = y.den m := rfl
        rw [← e4]
        simpa [Instr.loadAt, Instr.sureAddr] using hl
      · cases hx
    · cases hx
theorem resAs_run (hT : TTok P tt) (h : R Γ n w0 al s m a w) : ∀ {rvs : List ResultVar} {as : List A}, resAs tt s rvs = some as →
    (rvs.mapM (rvSem a.tmps)).run P w = .ok (as.map (A.den m)) w
  | [], as, hx => by
    simp only [resAs, Option.some.injEq] at hx
    subst hx
    simp
  | rv :: rvs, as, hx => by
    simp only [resAs] at hx
    split at hx
    · rename_i x xs h1 h2
      simp only [Option.some.injEq] at hx
      subst hx
      have e1 := resA_run hT h h1
      have e2 := resAs_run hT h h2
      simp only [List.mapM_cons, Sem.run_bind, e1, Result.andThen_ok, e2, Sem.run_pure, List.map_cons]
    · cases hx

theorem retCs_ok (h : R Γ n w0 al s m a w) {owns : List Nat} {w1 : World} (hbase : Γ.base = w1.heap.size) (hoal : ∀ i ∈ owns, al i) : ∀ {rcs : List RC} {cs : List C} {ps : List Prop}, retCs s owns rcs cs = some ps → (∀ p ∈ ps, p) → (ownIds rcs cs).Nodup → (∀ k ∈ ownIds rcs cs, k ∈ owns) →
    ∃ bs : List Nat, bs.Nodup ∧ (∀ b ∈ bs, Γ.base ≤ b ∧ m.π b ∈ ownIds rcs cs) ∧ (∀ all : List Nat, (∀ b ∈ all, m.π b ∈ owns) → RCsAt Γ.G w1 w all rcs (cs.map (C.den m)) bs)
  | [], [], ps, _, _, _, _ => ⟨[], List.nodup_nil, by simp, fun _ _ => rfl⟩
  | [], _ :: _, _, h, _, _, _ => by simp [retCs] at h
  | _ :: _, [], _, h, _, _, _ => by simp [retCs] at h
  | rc :: rcs, c :: cs, ps, hx, hp, hn, hk => by
    simp only [retCs] at hx
    split at hx
    · rename_i p ps' h1 h2
      simp only [Option.some.injEq] at hx
      subst hx
      have hp1 := hp p (by simp)
      have hp2 : ∀ p ∈ ps', p := fun q hq => hp q (List.mem_cons_of_mem _ hq)
      unfold retC at h1
      split at h1
      · rename_i v u
        simp only [Option.some.injEq] at h1
        rw [← h1] at hp1
        obtain ⟨bs, b1, b2, b3⟩ := retCs_ok h hbase hoal h2 hp2 (by simpa [ownIds] using hn) (by simpa [ownIds] using hk)
        exact ⟨bs, b1, by simpa [ownIds] using b2, fun all hall => by simp only [List.map_cons, RCsAt, C.den]; exact ⟨hp1, b3 all hall⟩⟩
      · rename_i e ts rows k
        split at h1
        · rename_i e' ts' rows' he
          split at h1
          · rename_i hc
            simp only [Bool.and_eq_true, Nat.beq_eq] at hc
            obtain ⟨rfl, hc⟩ := hc
            have hc := Ty.beqs_ok _ _ hc
            subst hc
            simp only [Option.some.injEq] at h1
            rw [← h1] at hp1
            simp only [ownIds, List.nodup_cons] at hn
            simp only [ownIds] at hk
            obtain ⟨bs, b1, b2, b3⟩ := retCs_ok h hbase hoal h2 hp2 hn.2 (fun k' hk' => hk k' (List.mem_cons_of_mem _ hk'))
            obtain ⟨q, q1, q2, q3⟩ := (h.en _ _ he).1
            rw [hp1] at q1
            refine ⟨q ++ bs, List.nodup_append.2 ⟨q2, b1, fun x hx y hy e => ?_⟩, fun b hb => ?_, fun all hall => ?_⟩
            · subst e
              have := (b2 x hy).2
              rw [(q3 x hx).2] at this
              exact hn.1 this
            · rcases List.mem_append.1 hb with hb | hb
              · exact ⟨(q3 b hb).1, by rw [(q3 b hb).2]; simp [ownIds]⟩
              · exact ⟨(b2 b hb).1, by simp only [ownIds]; exact List.mem_cons_of_mem _ (b2 b hb).2⟩
            · simp only [List.map_cons, RCsAt, C.den]
              exact ⟨q, bs, rfl, q1, b3 all hall⟩
          · cases h1
        · cases h1
      · rename_i rows
        simp only [Option.some.injEq] at h1
        rw [← h1] at hp1
        obtain ⟨bs, b1, b2, b3⟩ := retCs_ok h hbase hoal h2 hp2 (by simpa [ownIds] using hn) (by simpa [ownIds] using hk)
        refine ⟨bs, b1, by simpa [ownIds] using b2, fun all hall => ?_⟩
        simp only [List.map_cons, RCsAt, C.den]
        refine ⟨[], bs, rfl, ?_, b3 all hall⟩
        rw [← hp1]
        simp only [Fp]
        exact ⟨[], [], World.ownsRow_nil _ _ _ _, rfl, rfl, by simp, by simp, by simp [Value.ownBlock]⟩
      · rename_i e ts rows k
        split at h1
        · rename_i e' ts' rows' deps he
          split at h1
          · rename_i hc
            simp only [Bool.and_eq_true, Nat.beq_eq] at hc
            obtain ⟨⟨rfl, hc⟩, hd⟩ := hc
            have hc := Ty.beqs_ok _ _ hc
            subst hc
            simp only [Option.some.injEq] at h1
            rw [← h1] at hp1
            obtain ⟨bs, b1, b2, b3⟩ := retCs_ok h hbase hoal h2 hp2 (by simpa [ownIds] using hn) (by simpa [ownIds] using hk)
            obtain ⟨⟨F, f1, f2⟩, -, -⟩ := h.sl he
            refine ⟨bs, b1, by simpa [ownIds] using b2, fun all hall => ?_⟩
            simp only [List.map_cons, RCsAt, C.den]
            refine ⟨RdS.mono (fun b hb => ?_) _ _ _ (by rw [← hp1]; exact f1), b3 all hall⟩
            rcases f2 b hb with hb | ⟨hb0, hb⟩ | ⟨hb0, hb⟩
            · exact .inl hb
            · exact .inr ⟨by rw [← hbase]; exact hb0, fun hm => h.pos (by have := hall b hm; rw [hb] at this; exact hoal 0 this)⟩
            · refine .inr ⟨by rw [← hbase]; exact hb0, fun hm => ?_⟩
              have h3 := hall b hm
              have := List.all_eq_true.1 hd _ hb
              exact mem_false.1 (by simpa using this) h3
          · cases h1
        · cases h1
      · rename_i rows
        simp only [Option.some.injEq] at h1
        rw [← h1] at hp1
        obtain ⟨bs, b1, b2, b3⟩ := retCs_ok h hbase hoal h2 hp2 (by simpa [ownIds] using hn) (by simpa [ownIds] using hk)
        refine ⟨bs, b1, by simpa [ownIds] using b2, fun all hall => ?_⟩
        simp only [List.map_cons, RCsAt, C.den]
        refine ⟨?_, b3 all hall⟩
        rw [← hp1]
        simp only [RdS]
        exact ⟨[], ⟨none, 0, rfl, Nat.le_refl _, by unfold maxLen; omega, by simp, .inl ⟨rfl, fun _ => rfl⟩⟩, by simp, rfl, by simp⟩
      · cases h1
    · cases hx

/-- The first state tells of the arguments. -/
theorem ini_ok {F : Nat → Prop} {w : World} {as : List DA} {us : List Value} {mb : Nat → List Nat} {N : Nat} (h : ArgsAt F w [] mb (as.flatMap DA.cells) us) (hN : as.length ≤ N) :
    R ⟨w.heap.size, F, h.lt⟩ N w (alN (1 + (as.flatMap DA.cells).length)) (iniSt as) ⟨fun _ => 0, fun i => us.getD (i - 1) undef, fun _ => 0⟩ { tmps := (valD as us).toArray ++ Array.replicate (N - (valD as us).toArray.size) undef, defers := [] } w := by
  have hvl : ∀ (as : List DA) (us : List Value), (valD as us).length = as.length := by
    intro as
    induction as with
    | nil => intro us; rfl
    | cons x r ih => intro us; cases x <;> simp [valD, ih]
  let m : Maps := ⟨fun _ => 0, fun i => us.getD (i - 1) undef, fun _ => 0⟩
  -- the cells
  have hC : ∀ (ds : List DC) (id : Nat) (vs : List Value), vs.length = ds.length → (∀ p d u, ds[p]? = some d → vs[p]? = some u → CellAt F w d u ∧ m.ε (id + p) = u) → (iniCs ds id).map (C.den m) = vs ∧ ∀ c ∈ iniCs ds id, ∀ i ∈ c.ids, id ≤ i ∧ i < id + ds.length := by
    intro ds
    induction ds with
    | nil => intro id vs hl _; obtain rfl := List.eq_nil_of_length_eq_zero (by simpa using hl); simp [iniCs]
    | cons d r ih =>
      intro id vs hl hd
      cases vs with
      | nil => simp at hl
      | cons v vs =>
        obtain ⟨i1, i2⟩ := ih (id + 1) vs (by simpa using hl) (fun p d' u hp hu => by
          have := hd (p + 1) d' u (by simpa using hp) (by simpa using hu)
          rwa [show id + (p + 1) = id + 1 + p by omega] at this)
        obtain ⟨h0, h1⟩ := hd 0 d v (by simp) (by simp)
        refine ⟨?_, fun c hc i hi => ?_⟩
        · simp only [iniCs, List.map_cons, i1]
          congr 1
          cases d with
          | im x => simp only [iniC, C.den]; exact h0.symm
          | sl e ts rows => simpa [iniC, C.den] using h1
        · simp only [iniCs, List.mem_cons] at hc
          rcases hc with rfl | hc
          · cases d <;> simp [iniC, C.ids] at hi
            subst hi; simp
          · have := i2 c hc i hi; simp; omega
  have hTm : ∀ (as : List DA) (p id : Nat) (vs : List Value), vs.length = (as.flatMap DA.cells).length → (∀ q d u, (as.flatMap DA.cells)[q]? = some d → vs[q]? = some u → CellAt F w d u ∧ m.ε (id + q) = u) →
      ∀ t v, lkp (iniTm as p id) t = some v → p ≤ t ∧ (valD as vs)[t - p]? = some (v.den m) ∧ ∀ i ∈ v.ids, id ≤ i ∧ i < id + (as.flatMap DA.cells).length := by
    intro as
    induction as with
    | nil => intro p id vs _ _ t v hv; simp [iniTm, lkp] at hv
    | cons x r ih =>
      intro p id vs hl hd t v hv
      cases x with
      | one d =>
        simp only [List.flatMap_cons, DA.cells, List.singleton_append, List.length_cons] at hl hd ⊢
        cases vs with
        | nil => simp at hl
        | cons u us =>
          have hd' := fun q d' u' hq hu => hd (q + 1) d' u' (by simpa using hq) (by simpa using hu)
          simp only [iniTm, lkp_cons] at hv
          split at hv
          · rename_i e
            subst e
            obtain rfl := Option.some.inj hv
            obtain ⟨i1, i2⟩ := hC [d] id [u] rfl (fun q d' u' hq hu => by
              cases q with
              | zero => simp at hq hu; subst hq; subst hu; exact hd 0 d u (by simp) (by simp)
              | succ q => simp at hq)
            simp only [iniCs, List.map_cons, List.map_nil, List.cons.injEq, and_true] at i1
            refine ⟨Nat.le_refl _, by simp [valD, T.den, A.den, i1], fun i hi => ?_⟩
            have := i2 (iniC id d) (by simp [iniCs]) i (by simpa [T.ids, A.ids] using hi)
            simp at this; omega
          · obtain ⟨j1, j2, j3⟩ := ih (p + 1) (id + 1) us (by simpa using hl) (fun q d' u' hq hu => by
              have := hd' q d' u' hq hu
              rwa [show id + (q + 1) = id + 1 + q by omega] at this) t v hv
            refine ⟨by omega, ?_, fun i hi => by have := j3 i hi; omega⟩
            rw [show t - p = (t - (p + 1)) + 1 by omega]
            simpa [valD] using j2
      | agg ds =>
        simp only [List.flatMap_cons, DA.cells, List.length_append] at hl hd ⊢
        simp only [iniTm, lkp_cons] at hv
        have hds : ∀ q d u, ds[q]? = some d → (vs.take ds.length)[q]? = some u → CellAt F w d u ∧ m.ε (id + q) = u := fun q d u hq hu => by
          have hql : q < ds.length := (List.getElem?_eq_some_iff.1 hq).1
          refine hd q d u (by rw [List.getElem?_append_left hql]; exact hq) ?_
          rw [List.getElem?_take, if_pos hql] at hu; exact hu
        split at hv
        · rename_i e
          subst e
          obtain rfl := Option.some.inj hv
          obtain ⟨i1, i2⟩ := hC ds id (vs.take ds.length) (by simp; omega) hds
          refine ⟨Nat.le_refl _, by simp [valD, T.den, A.den, i1], fun i hi => ?_⟩
          simp only [T.ids, A.ids, List.mem_flatMap] at hi
          obtain ⟨c, hc, hi⟩ := hi
          have := i2 c hc i hi; omega
        · obtain ⟨j1, j2, j3⟩ := ih (p + 1) (id + ds.length) (vs.drop ds.length) (by rw [List.length_drop, hl]; omega) (fun q d u hq hu => by
            have := hd (ds.length + q) d u (by rw [List.getElem?_append_right (by omega)]; simpa using hq) (by simpa using hu)
            rwa [← Nat.add_assoc] at this) t v hv
          refine ⟨by omega, ?_, fun i hi => by have := j3 i hi; omega⟩
          rw [show t - p = (t - (p + 1)) + 1 by omega]
          simpa [valD] using j2
  have hmε : ∀ q (d : DC) u, (as.flatMap DA.cells)[q]? = some d → us[q]? = some u → CellAt F w d u ∧ m.ε (1 + q) = u := fun q d u hq hu =>
    ⟨h.rd q d u hq hu (by simp), by simp [m, List.getD, Nat.add_sub_cancel_left, hu]⟩
  have hsz : ((valD as us).toArray ++ Array.replicate (N - (valD as us).toArray.size) undef).size = N := by simp [hvl]; omega
  refine ⟨hsz, rfl, Nat.le_refl _, Below.refl _ _, fun t v hv => ?_, fun i E hE => ?_, by unfold alN; omega⟩
  · obtain ⟨j1, j2, j3⟩ := hTm as 0 1 us h.len hmε t v hv
    refine ⟨?_, fun i hi => by have := j3 i hi; unfold alN; omega⟩
    have hlt : t < (valD as us).length := (List.getElem?_eq_some_iff.1 (by simpa using j2)).1
    rw [Array.getD_eq_getD_getElem?, Array.getElem?_append_left (by simpa using hlt)]
    simp only [Nat.sub_zero] at j2
    simp [j2, m]
  · have hEn : ∀ (ds : List DC) (id i : Nat) (E : En), lkp (iniEn ds id) i = some E → id ≤ i ∧ i < id + ds.length ∧ ∃ e ts rows, ds[i - id]? = some (.sl e ts rows) ∧ E = .view e ts rows [] := by
      intro ds
      induction ds with
      | nil => intro id i E hq; simp [iniEn, lkp] at hq
      | cons d r ih =>
        intro id i E hq
        cases d with
        | im x =>
          simp only [iniEn] at hq
          obtain ⟨a1, a2, e, ts, rows, a3, a4⟩ := ih (id + 1) i E hq
          refine ⟨by omega, by simp; omega, e, ts, rows, ?_, a4⟩
          rw [show i - id = (i - (id + 1)) + 1 by omega]; simpa using a3
        | sl e ts rows =>
          simp only [iniEn, lkp_cons] at hq
          split at hq
          · rename_i e'
            subst e'
            exact ⟨Nat.le_refl _, by simp, e, ts, rows, by simp, (Option.some.inj hq).symm⟩
          · obtain ⟨a1, a2, e, ts, rows, a3, a4⟩ := ih (id + 1) i E hq
            refine ⟨by omega, by simp; omega, e, ts, rows, ?_, a4⟩
            rw [show i - id = (i - (id + 1)) + 1 by omega]; simpa using a3
    obtain ⟨a1, a2, e, ts, rows, a3, rfl⟩ := hEn _ 1 i E hE
    have hlu : i - 1 < us.length := by rw [h.len]; omega
    have hu : us[i - 1]? = some us[i - 1] := List.getElem?_eq_getElem hlu
    have hc := h.rd _ _ _ a3 hu (by simp)
    refine ⟨⟨F, ?_, fun b hb => .inl hb⟩, by unfold alN; omega, by simp [En.ids]⟩
    simp only [CellAt] at hc
    simpa [List.getD, hu] using hc

/-- A function keeps its promise: its text, reckoned. -/
theorem fn_ok {X : Ctx} {f : Nat} {fn : Func} {body : Code} {c : Con} (hm : P.follows .mixedOrders = true) (hT : TTok P X.tt) (hct : CTok P X.ct) (hf : P.funcs[f]? = some fn) (hname : fn.name ≠ "runtime.NumGoroutine") (hb : fn.body = some body) (hn : fn.ntmps = X.n) (hmu : c.mu = [])
    (hsmall : ∀ i, (c.res i).cells.length ≤ 32) (hlen : ∀ i, (c.args i).length ≤ X.n) (iv : c.ι → List (Nat × Inv))
    (h : ∀ i, c.pre i → xcode X body (iv i) (iniSt (c.args i)) (1 + ((c.args i).flatMap DA.cells).length) fun e s _ =>
      match e with
      | .exit _ => False
      | _ => retOk X.tt fn.results.toList s (c.res i)) : c.Ok P f := by
  refine ⟨⟨fn, hf, hname, by rw [hb]; rfl⟩, hsmall, fun i hi F w us mb hargs => ?_⟩
  rw [hmu] at hargs
  have hini := ini_ok (N := X.n) hargs (hlen i)
  refine calls_of_wp hf hb ?_
  rw [hn]
  refine xcode_sound hm hT hct body (al := fun _ => True) (h i hi) (by omega) hini ?_
  intro e s' nx' m' a' w' h1 h2 h3
  have fin : retOk X.tt fn.results.toList s' (c.res i) → a'.defers = [] ∧ ∃ v, (results fn a'.tmps).run P w' = .ok v w' ∧ ∃ rs bs, Ending.returned v = .returned ((c.res i).val rs) ∧ c.Post i F w us mb rs bs w' := by
    intro hr
    refine ⟨h3.defers, ?_⟩
    unfold retOk at hr
    split at hr
    · exact hr.elim
    · rename_i as has
      split at hr
      · exact hr.elim
      · rename_i hchk
        simp only [Bool.and_eq_true] at hchk
        obtain ⟨⟨hsh, hnd⟩, htup⟩ := hchk
        split at hr
        · exact hr.elim
        · rename_i ps hps
          have hp := conj_mem hr
          have hnd := nodupB_ok hnd
          have hsh := shEq_ok hsh
          let cs := as.flatMap A.cells
          have howns : ∀ k ∈ ownIds (c.res i).cells cs, alN nx' k := by
            have key : ∀ {rcs : List RC} {cs : List C} {ps : List Prop} {owns : List Nat}, retCs s' owns rcs cs = some ps → ∀ k ∈ ownIds rcs cs, alN nx' k := by
              intro rcs
              induction rcs with
              | nil => intro cs ps owns _ k hk; cases cs <;> simp [ownIds] at hk
              | cons r rs ih =>
                intro cs ps owns hx k hk
                cases cs with
                | nil => cases r <;> simp [ownIds] at hk
                | cons c cs =>
                  simp only [retCs] at hx
                  split at hx
                  · rename_i p ps' q1 q2
                    cases r with
                    | own e ts rows =>
                      cases c with
                      | ext k' =>
                        simp only [ownIds, List.mem_cons] at hk
                        rcases hk with rfl | hk
                        · simp only [retC] at q1
                          split at q1
                          · rename_i he
                            exact (h3.en _ _ he).2.1
                          · cases q1
                        · exact ih q2 k hk
                      | _ => simp only [ownIds] at hk; exact ih q2 k hk
                    | _ => simp only [ownIds] at hk; exact ih q2 k hk
                  · cases hx
            exact key hps
          have hvals : (results fn a'.tmps).run P w' = .ok ((c.res i).val (cs.map (C.den m'))) w' := by
            have e1 := resAs_run hT h3 has
            have e2 : results fn a'.tmps = (do let vs ← fn.results.mapM (rvSem a'.tmps); pure (if h : vs.size = 1 then vs[0] else .tuple vs)) := by
              unfold results
              congr 1
            rw [e2]
            have e3 : (fn.results.mapM (rvSem a'.tmps)).run P w' = .ok (as.map (A.den m')).toArray w' := by
              rw [Array.mapM_eq_mapM_toList, Sem.run_map]
              rw [e1]
              rfl
            simp only [Sem.run_bind, e3, Result.andThen_ok, Sem.run_pure]
            congr 1
            have hva := valA_as m' as
            rw [hsh] at hva
            unfold RT.val
            cases ht : (c.res i).tup with
            | true =>
              rw [ht] at htup
              simp only [Bool.not_eq_true'] at htup
              have hne : as.length ≠ 1 := fun e => by rw [e] at htup; simp at htup
              rw [dif_neg (by simp [hne])]
              simp [cs, hva]
            | false =>
              rw [ht] at htup
              have h1 := Nat.eq_of_beq_eq_true htup
              rw [dif_pos (by simp [h1])]
              obtain ⟨x, rfl⟩ : ∃ x, as = [x] := by
                match as, h1 with
                | [x], _ => exact ⟨x, rfl⟩
              simp only [cs, hva]
              rfl
          -- the blocks of what goes back
          obtain ⟨bs, c1, c2, c3⟩ := retCs_ok (w1 := w) h3 rfl (fun i hi => howns i hi) hps hp hnd (fun k hk => hk)
          have c3 := c3 bs fun b hb => (c2 b hb).2
          refine ⟨_, hvals, cs.map (C.den m'), bs, rfl, ⟨c3, c1, fun b hb => (c2 b hb).1, fun j p e ts rows u hj => by rw [hmu] at hj; simp at hj, h3.below.os, h3.below.tape, h3.below.output, h3.below.size, fun b hb _ => h3.below.block b hb⟩⟩
  cases e with
  | normal => exact fin h2
  | ret => exact fin h2
  | exit id => exact h2.elim
end
end Go.Proofs.Ytemgpfojmdncjaa
