/-
  The reckoner's operations that read slices. Over any program.
-/
import Derived.Test.YtemgpfojmdncjaaEx5
namespace Go.Proofs.Ytemgpfojmdncjaa
set_option linter.unusedVariables false
set_option linter.unusedSimpArgs false
open Go.RowKit

def Dat.n : Dat → Int
  | .int n => n
  | _ => 0
def Dat.b : Dat → Bool
  | .bool b => b
  | _ => false
def Dat.s : Dat → ByteArray
  | .str s => s
  | _ => ByteArray.empty
def Dat.r : Dat → List (List Dat)
  | .sl r => r
  | _ => []

/-- A cell of a row as it is read; a slice in it gets the number nx. -/
def cellOf (deps : List Nat) (nx : Nat) (d : Dat) : Ty → C × List (Nat × En)
  | .int => (.im (.int .i64 d.n), [])
  | .bool => (.im (.bool d.b), [])
  | .str => (.im (.string d.s), [])
  | .sl e ts => (.ext nx, [(nx, .view e ts d.r deps)])
def cellsOf (deps : List Nat) (row : List Dat) : List Ty → Nat → Nat → List C × List (Nat × En)
  | [], _, _ => ([], [])
  | t :: ts, j, nx => ((cellOf deps nx (row.getD j (.int 0)) t).1 :: (cellsOf deps row ts (j + 1) (nx + 1)).1, (cellOf deps nx (row.getD j (.int 0)) t).2 ++ (cellsOf deps row ts (j + 1) (nx + 1)).2)

theorem RdRowS.getD {F : Nat → Prop} {w : World} : ∀ {ts : List Ty} {ds : List Dat} {vs : List Value}, RdRowS F w ts ds vs → ds.length = ts.length ∧ vs.length = ts.length ∧ ∀ q, q < ts.length → RdS F w (ts.getD q .int) (ds.getD q (.int 0)) (vs.getD q undef)
  | [], ds, vs, h => by cases ds <;> cases vs <;> simp [RdRowS] at h ⊢
  | t :: ts, [], vs, h => by simp [RdRowS] at h
  | t :: ts, d :: ds, [], h => by simp [RdRowS] at h
  | t :: ts, d :: ds, v :: vs, h => by
    simp only [RdRowS] at h
    obtain ⟨h1, h2, h3⟩ := RdRowS.getD h.2
    refine ⟨by simp [h1], by simp [h2], fun q hq => ?_⟩
    cases q with
    | zero => simpa using h.1
    | succ q => simpa using h3 q (by simpa using hq)

/-- The values of new numbers. -/
def newE (m : Maps) (nx : Nat) (vs : List Value) : Maps := ⟨m.β, fun i => if nx ≤ i ∧ i < nx + vs.length then vs.getD (i - nx) undef else m.ε i, m.π⟩

section
variable {P : Program} {tt : TT} {Γ : Env} {n : Nat} {w0 : World} {al fr : Nat → Prop} {s : St} {m : Maps} {a : Act} {w : World} {nx : Nat} {o : Oper}

theorem cellOf_ok {F : Nat → Prop} {deps : List Nat} {d : Dat} {t : Ty} {v : Value} {i : Nat} (h : RdS F w t d v) (hm : m.ε i = v) (hF : ∀ b, F b → Γ.may m deps b) :
    (cellOf deps i d t).1.den m = v ∧ (∀ j ∈ (cellOf deps i d t).1.ids, j = i) ∧ ∀ j E, lkp (cellOf deps i d t).2 j = some E → j = i ∧ EnAt Γ m w i E ∧ E.ids = deps := by
  cases t with
  | int => cases d <;> simp only [RdS] at h; subst h; exact ⟨rfl, by simp [cellOf, C.ids], by simp [cellOf, lkp]⟩
  | bool => cases d <;> simp only [RdS] at h; subst h; exact ⟨rfl, by simp [cellOf, C.ids], by simp [cellOf, lkp]⟩
  | str => cases d <;> simp only [RdS] at h; subst h; exact ⟨rfl, by simp [cellOf, C.ids], by simp [cellOf, lkp]⟩
  | sl e ts =>
    cases d with
    | sl ls =>
      refine ⟨hm, by simp [cellOf, C.ids], fun j E hE => ?_⟩
      simp only [cellOf] at hE
      rw [lkp_cons] at hE
      split at hE
      · rename_i e'
        obtain rfl := Option.some.inj hE
        exact ⟨e'.symm, ⟨F, by rw [hm]; exact h, hF⟩, rfl⟩
      · simp [lkp] at hE
    | _ => simp [RdS] at h
theorem cellsOf_ok {F : Nat → Prop} {deps : List Nat} {row : List Dat} (hF : ∀ b, F b → Γ.may m deps b) : ∀ (ts : List Ty) (j nx : Nat) (vs : List Value), vs.length = ts.length → (∀ q, q < ts.length → RdS F w (ts.getD q .int) (row.getD (j + q) (.int 0)) (vs.getD q undef)) →
    (∀ q, q < ts.length → m.ε (nx + q) = vs.getD q undef) → (cellsOf deps row ts j nx).1.map (C.den m) = vs ∧ (∀ c ∈ (cellsOf deps row ts j nx).1, ∀ i ∈ c.ids, nx ≤ i ∧ i < nx + ts.length) ∧ ∀ i E, lkp (cellsOf deps row ts j nx).2 i = some E → (nx ≤ i ∧ i < nx + ts.length) ∧ EnAt Γ m w i E ∧ E.ids = deps
  | [], j, nx, vs, hl, _, _ => by
    obtain rfl := List.eq_nil_of_length_eq_zero hl
    simp [cellsOf, lkp]
  | t :: ts, j, nx, [], hl, _, _ => by simp at hl
  | t :: ts, j, nx, v :: vs, hl, h, hm => by
    have h0 := h 0 (by simp)
    have m0 := hm 0 (by simp)
    simp only [List.getD_cons_zero, Nat.add_zero] at h0 m0
    obtain ⟨c1, c2, c3⟩ := cellOf_ok (i := nx) h0 m0 hF
    obtain ⟨d1, d2, d3⟩ := cellsOf_ok hF ts (j + 1) (nx + 1) vs (by simpa using hl) (fun q hq => by
      have := h (q + 1) (by simpa using hq)
      simpa [Nat.add_assoc, Nat.add_comm 1] using this) (fun q hq => by
      have := hm (q + 1) (by simpa using hq)
      simpa [Nat.add_assoc, Nat.add_comm 1] using this)
    refine ⟨by simp only [cellsOf, List.map_cons, c1, d1], fun c hc i hi => ?_, fun i E hE => ?_⟩
    · simp only [cellsOf, List.mem_cons] at hc
      rcases hc with rfl | hc
      · have := c2 i hi; simp; omega
      · have := d2 c hc i hi; simp; omega
    · simp only [cellsOf, lkp_append] at hE
      cases hl : lkp (cellOf deps nx (row.getD j (.int 0)) t).2 i with
      | some E' =>
        rw [hl] at hE
        obtain rfl := Option.some.inj hE
        obtain ⟨rfl, e2, e3⟩ := c3 i E' hl
        exact ⟨by simp, e2, e3⟩
      | none =>
        rw [hl, Option.none_or] at hE
        obtain ⟨e1, e2⟩ := d3 i E hE
        exact ⟨by simp; omega, e2⟩

/-! ## A slice's cell: its address, what it holds -/
def slOf (s : St) (k : Nat) : Option (Nat × List Ty × List (List Dat) × List Nat) := (lkp s.en k).bind (En.sl · k)
theorem slOf_some {k : Nat} {x : Nat × List Ty × List (List Dat) × List Nat} (h : slOf s k = some x) : ∃ E, lkp s.en k = some E ∧ En.sl E k = some x := by
  unfold slOf at h
  cases hl : lkp s.en k with
  | none => rw [hl] at h; cases h
  | some E => rw [hl] at h; exact ⟨E, rfl, h⟩
theorem R.sl (h : R Γ n w0 al s m a w) {k e : Nat} {ts : List Ty} {rows : List (List Dat)} {deps : List Nat} (hk : slOf s k = some (e, ts, rows, deps)) :
    (∃ F, RdS F w (.sl e ts) (.sl rows) (m.ε k) ∧ ∀ b, F b → Γ.may m deps b) ∧ al k ∧ ∀ j ∈ deps, al j := by
  obtain ⟨E, h1, h2⟩ := slOf_some hk
  obtain ⟨a1, a2, a3⟩ := h.en _ _ h1
  refine ⟨a1.rd h2, a2, fun j hj => ?_⟩
  cases E with
  | own e' ts' rows' => simp only [En.sl, Option.some.injEq, Prod.mk.injEq] at h2; obtain ⟨-, -, -, rfl⟩ := h2; simp at hj; subst hj; exact a2
  | top e' ts' rows' deps' =>
    simp only [En.sl, Option.some.injEq, Prod.mk.injEq] at h2
    obtain ⟨-, -, -, rfl⟩ := h2
    rcases List.mem_cons.1 hj with rfl | hj
    · exact a2
    · exact a3 j hj
  | view e' ts' rows' deps' => simp only [En.sl, Option.some.injEq, Prod.mk.injEq] at h2; obtain ⟨-, -, -, rfl⟩ := h2; exact a3 j hj
  | _ => simp [En.sl] at h2

/-- The shape of what is read. -/
theorem RdS.open {F : Nat → Prop} {e : Nat} {ts : List Ty} {ls : List (List Dat)} {v : Value} (h : RdS F w (.sl e ts) (.sl ls) v) : ∃ (a : Option Addr) (cap : Nat), v = .slice a ls.length cap ∧ ls.length ≤ cap ∧ cap ≤ maxLen ∧ (a = none → ls = [] ∧ cap = 0) ∧
    ∀ k, k < ls.length → ∃ b off row, a = some ⟨b, off, none⟩ ∧ b < w.heap.size ∧ (∀ i, i < ts.length → w.cell? ⟨b, off + (k * ts.length + i), none⟩ = some (row.getD i undef)) ∧ RdRowS F w ts (ls.getD k []) row := by
  simp only [RdS] at h
  obtain ⟨rows, ⟨a, cap, h1, h2, h3, h4, h5⟩, -, hl, hr⟩ := h
  rw [hl] at h1 h2
  refine ⟨a, cap, h1, h2, h3, fun ha => ?_, fun k hk => ?_⟩
  · rcases h5 with ⟨h5, h6⟩ | ⟨b, off, h5, _⟩
    · subst h5; exact ⟨List.eq_nil_of_length_eq_zero (by simpa using hl.symm), h6 ha⟩
    · rw [ha] at h5; cases h5
  · rcases h5 with ⟨h5, _⟩ | ⟨b, off, h5, h6, h7⟩
    · subst h5; simp at hl; omega
    · exact ⟨b, off, rows.getD k [], h5, h6, fun i hi => h7 k (by omega) i hi, hr k hk⟩

def T.c? : T → Option C
  | .one (.one c) => some c
  | _ => none
theorem T.c?_some {t : T} {c : C} (h : t.c? = some c) : t = .one (.one c) := by
  unfold T.c? at h; split at h <;> simp at h; rw [h]

def eltOf (tt : TT) (t : Nat) : Option (Nat × TI) :=
  match lkp tt t with
  | some { d := .slice e, .. } => (lkp tt e).map (e, ·)
  | _ => none
theorem eltOf_ok (hT : TTok P tt) {t e : Nat} {i : TI} (h : eltOf tt t = some (e, i)) : P.underlying t = some (.slice e) ∧ TIok P e i := by
  unfold eltOf at h
  split at h
  · rename_i e' _ _ _ hl
    cases he : lkp tt e' with
    | none => rw [he] at h; cases h
    | some j =>
      rw [he] at h
      simp only [Option.map_some, Option.some.injEq, Prod.mk.injEq] at h
      obtain ⟨rfl, rfl⟩ := h
      exact ⟨(hT _ _ hl).d, hT _ _ he⟩
  · cases h

def xindexAddr (tt : TT) (s : St) (t : Nat) (x i : Option T) : Option (Option Prop × T) :=
  match x.bind T.c?, i.bind T.im, eltOf tt t with
  | some (.ext k), some (.int _ i), some (_, ei) =>
    match slOf s k with
    | some (_, ts, rows, _) => if Nat.beq ts.length ei.size = true then some (some (0 ≤ i ∧ i < (rows.length : Int)), .one (.one (.ep k ei.size i.toNat 0))) else none
    | none => none
  | _, _, _ => none
theorem xindexAddr_run (hT : TTok P tt) (h : R Γ n w0 al s m a w) {t : Nat} {x i : Operand} {p : Option Prop} {v : T} (hx : xindexAddr tt s t (ev s x) (ev s i) = some (p, v)) (hp : ∀ q, p = some q → q) :
    (Instr.indexAt t (a.eval x) (a.eval i)).run P w = .ok (v.den m) w ∧ ∀ j ∈ v.ids, al j := by
  unfold xindexAddr at hx
  split at hx
  · rename_i k kk iv e ei hxk hik hel
    split at hx
    · rename_i e' ts rows deps hsl
      split at hx
      · rename_i hsz
        simp only [Option.some.injEq, Prod.mk.injEq] at hx
        obtain ⟨rfl, rfl⟩ := hx
        obtain ⟨h0, h1⟩ := hp _ rfl
        obtain ⟨tx, etx, hxk⟩ := Option.bind_eq_some_iff.1 hxk
        obtain ⟨ti, eti, hik⟩ := Option.bind_eq_some_iff.1 hik
        obtain ⟨x1, x2⟩ := h.ev etx
        obtain ⟨i1, -⟩ := h.ev eti
        rw [T.c?_some hxk] at x1 x2
        rw [(T.im_den m hik).1] at i1
        obtain ⟨⟨F, f1, f2⟩, hal, -⟩ := h.sl hsl
        obtain ⟨ad, cap, hv, hlc, hcm, hnil, hk⟩ := f1.open
        obtain ⟨u1, u2⟩ := eltOf_ok hT hel
        obtain ⟨b, off, row, had, hb, -, -⟩ := hk iv.toNat (by omega)
        subst had
        refine ⟨?_, by simp [T.ids, A.ids, C.ids, hal]⟩
        have x1' : a.eval x = .slice (some ⟨b, off, none⟩) rows.length cap := by rw [x1]; exact hv
        simp only [Instr.indexAt, Sem.run_bind, i1, asIntOf, Sem.run_pure, Result.andThen_ok, underlying_run u1, x1']
        rw [if_pos ⟨h0, by omega⟩]
        simp only [Sem.run_bind, u2.sizeOf, Result.andThen_ok, Sem.run_pure, T.den, A.den, C.den, elemAddr, hv, Nat.add_zero]
      · cases hx
    · cases hx
  · cases hx

theorem addr_add (ad : Addr) (x y : Nat) : (ad.add x).add y = ad.add (x + y) := by
  unfold Addr.add
  by_cases hx : x = 0
  · subst hx; simp
  · by_cases hy : y = 0
    · subst hy; simp
    · rw [if_neg hx, if_neg hy, if_neg (by omega)]
      simp [Nat.add_assoc]

def xfieldAddr (tt : TT) (t : Nat) (x : Option T) (f : Nat) : Option (Option Prop × T) :=
  match x.bind T.c?, fldOf tt t f with
  | some (.bp i off), some (o, ti) => if Nat.ble 1 ti.size = true then some (none, .one (.one (.bp i (off + o)))) else none
  | some (.ep k sz i j), some (o, ti) => if Nat.ble 1 ti.size = true then some (none, .one (.one (.ep k sz i (j + o)))) else none
  | _, _ => none
theorem fieldAt_run {t f : Nat} {fl : Array Field} {fd : Field} {ti : TI} (hu : P.underlying t = some (.struct fl)) (hf : fl[f]? = some fd) (ht : TIok P fd.type ti) (hs : 1 ≤ ti.size) (b : Addr) :
    (Instr.fieldAt t (.pointer (some b)) f).run P w = .ok (.pointer (some (b.add fd.offset))) w := by
  simp only [Instr.fieldAt, Sem.run_bind, underlying_run hu, Result.andThen_ok, hf, Instr.sureAddr, Sem.run_pure, fieldPlace, ht.sizeOf]
  rw [if_neg (by omega)]
  simp
theorem xfieldAddr_run (hT : TTok P tt) (h : R Γ n w0 al s m a w) {t f : Nat} {x : Operand} {p : Option Prop} {v : T} (hx : xfieldAddr tt t (ev s x) f = some (p, v)) (hd : ∀ k sz i j, (ev s x).bind T.c? = some (.ep k sz i j) → ∃ ad nn cc, m.ε k = .slice (some ad) nn cc) :
    (Instr.fieldAt t (a.eval x) f).run P w = .ok (v.den m) w ∧ ∀ j ∈ v.ids, al j := by
  unfold xfieldAddr at hx
  split at hx
  · rename_i i off o ti hxk hf
    split at hx
    · rename_i hs
      simp only [Option.some.injEq, Prod.mk.injEq] at hx
      obtain ⟨rfl, rfl⟩ := hx
      obtain ⟨tx, etx, hxk⟩ := Option.bind_eq_some_iff.1 hxk
      obtain ⟨x1, x2⟩ := h.ev etx
      rw [T.c?_some hxk] at x1 x2
      obtain ⟨fl, fd, u1, u2, rfl, u3⟩ := fldOf_ok hT hf
      refine ⟨?_, x2⟩
      rw [x1]
      simp only [T.den, A.den, C.den]
      rw [fieldAt_run u1 u2 u3 (Nat.le_of_ble_eq_true hs), add_none]
    · cases hx
  · rename_i k sz i j o ti hxk hf
    split at hx
    · rename_i hs
      simp only [Option.some.injEq, Prod.mk.injEq] at hx
      obtain ⟨rfl, rfl⟩ := hx
      obtain ⟨ad, nn, cc, hk⟩ := hd _ _ _ _ hxk
      obtain ⟨tx, etx, hxk⟩ := Option.bind_eq_some_iff.1 hxk
      obtain ⟨x1, x2⟩ := h.ev etx
      rw [T.c?_some hxk] at x1 x2
      obtain ⟨fl, fd, u1, u2, rfl, u3⟩ := fldOf_ok hT hf
      refine ⟨?_, x2⟩
      rw [x1]
      simp only [T.den, A.den, C.den, elemAddr, hk]
      rw [fieldAt_run u1 u2 u3 (Nat.le_of_ble_eq_true hs), addr_add, Nat.add_assoc]
    · cases hx
  · cases hx

/-- A struct or a number read out of a slice. -/
def xloadE (tt : TT) (s : St) (nx t k sz i j : Nat) (q : Eff → Prop) : Prop :=
  match lkp tt t, slOf s k with
  | some ti, some (_, ts, rows, deps) =>
    if (Nat.beq ts.length sz && Nat.ble ti.size 32) = true then
      match sub ts j ti.size with
      | some us =>
        match T.ofCs ti.d.agg (cellsOf deps (rows.getD i []) us j nx).1 with
        | some v => i < rows.length ∧ q ⟨v, (cellsOf deps (rows.getD i []) us j nx).2⟩
        | none => False
      | none => False
    else False
  | _, _ => False
theorem snd_loadE (hT : TTok P tt) (h : R Γ n w0 al s m a w) {t k sz i j : Nat} {x : Operand} (ho : o.op = .load t x) (hx : a.eval x = C.den m (.ep k sz i j)) (hal : ∀ i, al i → ¬ (nx ≤ i ∧ i < nx + 32)) (hfr : ∀ i, nx ≤ i → i < nx + 32 → fr i) :
    Snd P Γ al fr m a w o (xloadE tt s nx t k sz i j) := by
  intro q hk Q
  unfold xloadE at hk
  split at hk
  · rename_i ti e ts rows deps hti hsl
    split at hk
    · rename_i hc
      simp only [Bool.and_eq_true, Nat.beq_eq, Nat.ble_eq] at hc
      obtain ⟨rfl, hle⟩ := hc
      split at hk
      · rename_i us hus
        split at hk
        · rename_i v hv
          obtain ⟨hi, hk⟩ := hk
          obtain ⟨⟨F, f1, f2⟩, hak, had⟩ := h.sl hsl
          obtain ⟨ad, cap, hval, -, -, -, hrow⟩ := f1.open
          obtain ⟨b, off, row, rfl, hb, hcell, hr⟩ := hrow i hi
          obtain ⟨r1, r2, r3⟩ := hr.getD
          obtain ⟨s1, s2⟩ := sub_some hus
          have s3 := sub_len hus
          let vs := (row.drop j).take ti.size
          have hvl : vs.length = us.length := by simp [vs, s3]; omega
          have hsame : Maps.same al m (newE m nx vs) := fun i hi => ⟨rfl, by simp only [newE]; rw [if_neg (by have := hal i hi; omega)]⟩
          have hvq : ∀ q, q < us.length → vs.getD q undef = row.getD (j + q) undef := fun q hq => by
            simp [vs, List.getD, show q < ti.size by omega]
          have huq : ∀ q, q < us.length → us.getD q .int = ts.getD (j + q) .int := fun q hq => by
            subst s2
            simp [List.getD, show q < ti.size by omega]
          have F2 : ∀ b, F b → Γ.may (newE m nx vs) deps b := f2
          obtain ⟨c1, c2, c3⟩ := cellsOf_ok (Γ := Γ) (w := w) (F := F) (m := newE m nx vs) (deps := deps) (row := rows.getD i []) F2 us j nx vs hvl (fun q hq => by
            rw [hvq q hq, huq q hq]; exact r3 (j + q) (by omega)) (fun q hq => by simp only [newE]; rw [if_pos (by omega)]; congr 1; omega)
          obtain ⟨d1, d2⟩ := T.ofCs_den (newE m nx vs) hv
          rw [c1] at d1
          have hlc : (cellsOf deps (rows.getD i []) us j nx).1.length = us.length := by
            have := congrArg List.length c1; rw [List.length_map] at this; omega
          have hrun : (Instr.loadAt t (a.eval x)).run P w = .ok (v.den (newE m nx vs)) w := by
            rw [hx, d1]
            simp only [C.den, elemAddr, hval, add_none]
            refine load_run (hT _ _ hti) (by omega) (fun hg => by have := d2 hg; omega) fun p u hp => ?_
            have hpl : p < us.length := by rw [← hvl]; exact (List.getElem?_eq_some_iff.1 hp).1
            rw [add_none, Nat.add_assoc, Nat.add_assoc, hcell (j + p) (by omega), ← hvq p hpl]
            simp [List.getD, hp]
          refine Oper.wp_value (v := v.den (newE m nx vs)) (w' := w) (by simp only [execOp, ho, Sem.run_bind, hrun, Result.andThen_ok, Sem.run_pure]) ⟨_, newE m nx vs, hk, ⟨rfl, hsame, Below.refl _ _, fun _ _ _ => rfl, fun _ _ _ => rfl, fun p E hE => ?_, fun p hp => ?_⟩⟩
          · obtain ⟨e1, e2, e3⟩ := c3 p E hE
            exact ⟨e2, .inr (hfr p e1.1 (by omega)), fun q hq => .inl (had q (by rw [e3] at hq; exact hq))⟩
          · rw [T.ofCs_ids hv] at hp
            obtain ⟨c, hc, hp⟩ := List.mem_flatMap.1 hp
            have := c2 c hc p hp
            exact .inr (hfr p this.1 (by omega))
        · exact hk.elim
      · exact hk.elim
    · exact hk.elim
  · exact hk.elim
end
end Go.Proofs.Ytemgpfojmdncjaa
