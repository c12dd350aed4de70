/-
  The reckoner's operations, all of them, and a region in the order of the text. Over any program.
-/
import Derived.Test.YtemgpfojmdncjaaEx10
namespace Go.Proofs.Ytemgpfojmdncjaa
set_option linter.unusedVariables false
set_option linter.unusedSimpArgs false
open Go.RowKit

def imOf (s : St) (x : Operand) : Option Value := (ev s x).bind T.im
def cOf (s : St) (x : Operand) : Option C := (ev s x).bind T.c?
def xpick (s : St) (c a b : Operand) : Option (Option Prop × T) :=
  match imOf s c, imOf s a, imOf s b with
  | some (.bool t), some va, some vb => some (none, T.ofV (match t with | true => va | false => vb))
  | _, _, _ => none
def xbinOp (s : St) (op : BinOp) (x y : Operand) : Option (Option Prop × T) :=
  match imOf s x, imOf s y with
  | some a, some b => (xbin op a b).map fun r => (r.1, T.ofV r.2)
  | _, _ => none
def xunOp (s : St) (op : UnOp) (x : Operand) : Option (Option Prop × T) :=
  match imOf s x with
  | some a => (xun op a).map fun r => (none, T.ofV r)
  | none => none
def xextract (s : St) (x : Operand) (i : Nat) : Option (Option Prop × T) :=
  match ev s x with
  | some (.tup as) => (as[i]?).map fun a => (none, .one a)
  | _ => none
def xfield (tt : TT) (s : St) (t : Nat) (x : Operand) (f : Nat) : Option (Option Prop × T) :=
  match ev s x, fldOf tt t f with
  | some (.one (.agg cs)), some (o, ti) =>
    match sub cs o ti.size with
    | some c => (T.ofCs ti.d.agg c).map (none, ·)
    | none => none
  | _, _ => none
def xfa (tt : TT) (s : St) (t : Nat) (x : Operand) (f : Nat) : Option (Option Prop × T) :=
  match cOf s x with
  | some (.ep k _ i _) =>
    match slOf s k, xfieldAddr tt t (ev s x) f with
    | some (_, _, rows, _), some (none, v) => some (some (i < rows.length), v)
    | _, _ => none
  | _ => xfieldAddr tt t (ev s x) f
def xnil (s : St) (x : Operand) : Option (Option Prop × T) :=
  match cOf s x with
  | some (.bp i o) => some (none, .one (.one (.bp i o)))
  | _ => none
def xlen (tt : TT) (s : St) (t : Nat) (x : Operand) : Option (Option Prop × T) :=
  match cOf s x, lkp tt t with
  | some (.ext k), some { d := .slice _, .. } =>
    match slOf s k with
    | some (_, _, rows, _) => some (none, T.ofV (.int .i64 (rows.length : Nat)))
    | none => none
  | some (.im (.slice _ n _)), some { d := .slice _, .. } => some (none, T.ofV (.int .i64 (n : Nat)))
  | some (.im (.string b)), some { d := .str, .. } => some (none, T.ofV (.int .i64 (b.size : Nat)))
  | _, _ => none
def xindex (tt : TT) (s : St) (t : Nat) (x i : Operand) : Option (Option Prop × T) :=
  match imOf s x, imOf s i, lkp tt t with
  | some (.string b), some (.int _ i), some { d := .str, .. } => some (some (0 ≤ i ∧ i < (b.size : Int)), T.ofV (.int .u8 (b.get! i.toNat).toNat))
  | _, _, _ => none
def evs (s : St) : List Operand → Option (List T)
  | [] => some []
  | x :: r =>
    match ev s x, evs s r with
    | some v, some vs => some (v :: vs)
    | _, _ => none
def xmin2 (mx : Bool) (s : St) : List Operand → Option (Option Prop × T)
  | [x, y] =>
    match imOf s x, imOf s y with
    | some (.int k a), some (.int _ b) => some (none, T.ofV (.int k (match mx with | true => max a b | false => min a b)))
    | _, _ => none
  | _ => none

/-- One operation. 'hints': the temporaries whose cut takes the slice with it. -/
def xop (tt : TT) (ct : CTs) (hints : List Nat) (o : Oper) (s : St) (nx : Nat) (q : Eff → Prop) : Prop :=
  match o.op with
  | .move x => xp ((ev s x).map (none, ·)) q
  | .assign x => xp ((ev s x).map (none, ·)) q
  | .pick c a b => xp (xpick s c a b) q
  | .binOp op _ x y _ => xp (xbinOp s op x y) q
  | .unOp op _ x => xp (xunOp s op x) q
  | .extract x i => xp (xextract s x i) q
  | .field t x f => xp (xfield tt s t x f) q
  | .fieldAddr t x f => xp (xfa tt s t x f) q
  | .indexAddr t x i => xp (xindexAddr tt s t (ev s x) (ev s i)) q
  | .index t x i => xp (xindex tt s t x i) q
  | .nilCheck x => xp (xnil s x) q
  | .build t ps => xp ((xbuild tt s t ps.toList).map (none, ·)) q
  | .box _ x => xbox s nx x q
  | .alloc t => xalloc tt nx t q
  | .load t x =>
    match cOf s x with
    | some (.bp i off) => xp ((xloadB tt s t i off).map (none, ·)) q
    | some (.ep k sz i j) => xloadE tt s nx t k sz i j q
    | _ => False
  | .store t x y =>
    match cOf s x, ev s y with
    | some (.bp i off), some v => xstoreB tt s t i off v q
    | _, _ => False
  | .slice t x lo hi none =>
    match (match o.dst with | some d => hints.any (Nat.beq d) | none => false) with
    | true => xcut tt s nx t (ev s x) lo hi q
    | false => xslice tt s nx t (ev s x) lo hi q
  | .buildSlice t len ps =>
    match eltOf tt t with
    | some (e, _) => xbuildSlice tt s nx t len (shapeOf tt 9 e) ps.toList q
    | none => False
  | .call c =>
    match c.callee with
    | .builtin .append =>
      match c.args.toList, c.argTypes.toList with
      | [x, y], [t, u] => if Nat.beq t u = true then xappend tt s nx t (ev s x) (ev s y) q else False
      | _, _ => False
    | .builtin .len =>
      match c.args.toList, c.argTypes.toList with
      | [x], [t] => xp (xlen tt s t x) q
      | _, _ => False
    | .builtin .min => xp (xmin2 false s c.args.toList) q
    | .builtin .max => xp (xmin2 true s c.args.toList) q
    | .value f =>
      match ev s f, evs s c.args.toList with
      | some (.one (.one (.clo k []))), some ts => xcall tt ct s nx k c.argTypes.toList ts q
      | _, _ => False
    | _ => False
  | _ => False

section
variable {P : Program} {tt : TT} {ct : CTs} {Γ : Env} {n : Nat} {w0 : World} {al fr : Nat → Prop} {s : St} {m : Maps} {a : Act} {w : World} {nx : Nat} {o : Oper}

theorem R.im (h : R Γ n w0 al s m a w) {x : Operand} {v : Value} (hx : imOf s x = some v) : a.eval x = v := by
  obtain ⟨t, e1, e2⟩ := Option.bind_eq_some_iff.1 hx
  rw [(h.ev e1).1, (T.im_den m e2).1]
theorem R.cc (h : R Γ n w0 al s m a w) {x : Operand} {c : C} (hx : cOf s x = some c) : a.eval x = c.den m ∧ ∀ i ∈ c.ids, al i := by
  obtain ⟨t, e1, e2⟩ := Option.bind_eq_some_iff.1 hx
  have := h.ev e1
  rw [T.c?_some e2] at this
  exact this
theorem evs_ok : ∀ {l : List Operand} {ts : List T}, evs s l = some ts → All2 (fun x t => ev s x = some t) l ts
  | [], ts, h => by simp only [evs, Option.some.injEq] at h; subst h; exact .nil
  | x :: r, ts, h => by
    simp only [evs] at h
    split at h
    · rename_i v vs h1 h2
      simp only [Option.some.injEq] at h
      subst h
      exact .cons h1 (evs_ok h2)
    · cases h
theorem get!_get (b : ByteArray) (i : Nat) (h : i < b.size) : b[i]? = some (b.get! i) := by
  have e : b.get! i = b.data[i]! := rfl
  rw [e]
  have hd : i < b.data.size := h
  rw [getElem!_pos b.data i hd]
  simp [h]
  rfl
def exval (o : Op) (a : Act) (P : Program) (w : World) (v : Value) : Prop := ∀ oo : Oper, oo.op = o → (execOp a.eval oo).run P w = .ok (.value v) w

theorem snd_op (hT : TTok P tt) (hct : CTok P ct) (h : R Γ n w0 al s m a w) (hints : List Nat) (hal : ∀ i, al i → ¬ (nx ≤ i ∧ i < nx + 32)) (hfr : ∀ i, nx ≤ i → i < nx + 32 → fr i) : Snd P Γ al fr m a w o (xop tt ct hints o s nx) := by
  have hnx : ¬ al nx := fun hx => hal nx hx ⟨Nat.le_refl _, by omega⟩
  have hf : fr nx := hfr nx (Nat.le_refl _) (by omega)
  unfold xop
  cases ho : o.op with
  | move x =>
    refine snd_pure h (X := (ev s x).map (none, ·)) fun p v hx _ => ?_
    obtain ⟨t, e1, e2⟩ := Option.map_eq_some_iff.1 hx
    simp only [Prod.mk.injEq] at e2
    obtain ⟨rfl, rfl⟩ := e2
    exact ⟨by simp [execOp, ho, (h.ev e1).1], (h.ev e1).2⟩
  | assign x =>
    refine snd_pure h (X := (ev s x).map (none, ·)) fun p v hx _ => ?_
    obtain ⟨t, e1, e2⟩ := Option.map_eq_some_iff.1 hx
    simp only [Prod.mk.injEq] at e2
    obtain ⟨rfl, rfl⟩ := e2
    exact ⟨by simp [execOp, ho, (h.ev e1).1], (h.ev e1).2⟩
  | pick c x y =>
    refine snd_pure h (X := xpick s c x y) fun p v hx _ => ?_
    unfold xpick at hx
    split at hx
    · rename_i t va vb h1 h2 h3
      simp only [Option.some.injEq, Prod.mk.injEq] at hx
      obtain ⟨rfl, rfl⟩ := hx
      refine ⟨?_, by simp [T.ofV_ids]⟩
      simp only [execOp, ho, h.im h1, h.im h2, h.im h3, asBool, Sem.run_bind, Sem.run_pure, Result.andThen_ok, T.ofV_den]
      cases t <;> simp
    · cases hx
  | binOp op t x y t2 =>
    refine snd_pure h (X := xbinOp s op x y) fun p v hx hp => ?_
    unfold xbinOp at hx
    split at hx
    · rename_i va vb h1 h2
      obtain ⟨⟨p', r⟩, e1, e2⟩ := Option.map_eq_some_iff.1 hx
      simp only [Prod.mk.injEq] at e2
      obtain ⟨rfl, rfl⟩ := e2
      have := xbin_run (P := P) (w := w) (t := t) (a := x) (b := y) e1 hp
      refine ⟨?_, by simp [T.ofV_ids]⟩
      simp only [Sem.run_bind] at this
      simp only [execOp, ho, h.im h1, h.im h2, Sem.run_bind, this, Result.andThen_ok, Sem.run_pure, T.ofV_den]
    · cases hx
  | unOp op t x =>
    refine snd_pure h (X := xunOp s op x) fun p v hx _ => ?_
    unfold xunOp at hx
    split at hx
    · rename_i va h1
      obtain ⟨r, e1, e2⟩ := Option.map_eq_some_iff.1 hx
      simp only [Prod.mk.injEq] at e2
      obtain ⟨rfl, rfl⟩ := e2
      have := xun_run (P := P) (w := w) e1
      exact ⟨by simp [execOp, ho, h.im h1, this, T.ofV_den], by simp [T.ofV_ids]⟩
    · cases hx
  | extract x i =>
    refine snd_pure h (X := xextract s x i) fun p v hx _ => ?_
    unfold xextract at hx
    split at hx
    · rename_i as h1
      obtain ⟨r, e1, e2⟩ := Option.map_eq_some_iff.1 hx
      simp only [Prod.mk.injEq] at e2
      obtain ⟨rfl, rfl⟩ := e2
      obtain ⟨x1, x2⟩ := h.ev h1
      refine ⟨?_, fun j hj => x2 j (List.mem_flatMap.2 ⟨r, List.mem_of_getElem? e1, hj⟩)⟩
      have e3 : (as.map (A.den m)).toArray[i]? = some (r.den m) := by simp [e1]
      simp only [execOp, ho, x1, T.den, Instr.extract, e3]
      simp
    · cases hx
  | field t x f =>
    refine snd_pure h (X := xfield tt s t x f) fun p v hx _ => ?_
    unfold xfield at hx
    split at hx
    · rename_i cs off ti h1 h2
      split at hx
      · rename_i c hc
        obtain ⟨r, e1, e2⟩ := Option.map_eq_some_iff.1 hx
        simp only [Prod.mk.injEq] at e2
        obtain ⟨rfl, rfl⟩ := e2
        obtain ⟨x1, x2⟩ := h.ev h1
        obtain ⟨fl, fd, u1, u2, rfl, u3⟩ := fldOf_ok hT h2
        obtain ⟨d1, d2⟩ := T.ofCs_den m e1
        refine ⟨?_, fun j hj => ?_⟩
        · have x1' : a.eval x = .agg (cs.map (C.den m)).toArray := x1
          have hsl := sub_len hc
          obtain ⟨s1, s2⟩ := sub_some hc
          have hpart : (part fd.type (cs.map (C.den m)).toArray fd.offset).run P w = .ok (r.den m) w := by
            rw [d1]
            simp only [part, Sem.run_bind, u3.isAgg, Result.andThen_ok]
            cases hg : ti.d.agg with
            | true =>
              simp only [if_true, Sem.run_bind, u3.sizeOf, Result.andThen_ok, Sem.run_pure, valOf]
              rw [s2]
              simp [List.map_take, List.map_drop]
            | false =>
              have hl := d2 hg
              obtain ⟨c0, rfl⟩ : ∃ c0, c = [c0] := by
                match c, hl with
                | [c0], _ => exact ⟨c0, rfl⟩
              have := sub_get hc 0 (by simp at hsl; omega)
              simp at this
              simp [this, valOf]
          simp only [execOp, ho, x1', Instr.field, Sem.run_bind, underlying_run u1, Result.andThen_ok, u2, asAgg, Sem.run_pure, hpart]
        · rw [T.ofCs_ids e1] at hj
          obtain ⟨y, hy, hj⟩ := List.mem_flatMap.1 hj
          exact x2 j (List.mem_flatMap.2 ⟨y, sub_mem hc y hy, hj⟩)
      · cases hx
    · cases hx
  | fieldAddr t x f =>
    refine snd_pure h (X := xfa tt s t x f) fun p v hx hp => ?_
    have key : ∀ p', xfieldAddr tt t (ev s x) f = some (p', v) → (∀ k sz i j, cOf s x = some (.ep k sz i j) → ∃ ad nn cc, m.ε k = .slice (some ad) nn cc) → (execOp a.eval o).run P w = .ok (.value (v.den m)) w ∧ ∀ i ∈ v.ids, al i := by
      intro p' hx' hd
      obtain ⟨r1, r2⟩ := xfieldAddr_run hT h hx' hd
      exact ⟨by simp [execOp, ho, r1], r2⟩
    unfold xfa at hx
    split at hx
    · rename_i k sz i j hk
      split at hx
      · rename_i e ts rows deps v' hsl hfa
        simp only [Option.some.injEq, Prod.mk.injEq] at hx
        obtain ⟨rfl, rfl⟩ := hx
        refine key none hfa fun k' sz' i' j' hk' => ?_
        rw [hk] at hk'
        simp only [Option.some.injEq, C.ep.injEq] at hk'
        obtain ⟨rfl, -, rfl, -⟩ := hk'
        obtain ⟨⟨F, f1, f2⟩, -, -⟩ := h.sl hsl
        obtain ⟨ad, cap, hv, -, -, -, hrow⟩ := f1.open
        obtain ⟨b, off, row, rfl, -⟩ := hrow i (hp _ rfl)
        exact ⟨_, _, _, hv⟩
      · cases hx
    · rename_i hne
      exact key p hx fun k sz i j hk => absurd hk (hne k sz i j)
  | indexAddr t x i =>
    refine snd_pure h (X := xindexAddr tt s t (ev s x) (ev s i)) fun p v hx hp => ?_
    obtain ⟨r1, r2⟩ := xindexAddr_run hT h hx hp
    exact ⟨by simp [execOp, ho, r1], r2⟩
  | index t x i =>
    refine snd_pure h (X := xindex tt s t x i) fun p v hx hp => ?_
    unfold xindex at hx
    split at hx
    · rename_i b kk iv _ _ _ h1 h2 h3
      simp only [Option.some.injEq, Prod.mk.injEq] at hx
      obtain ⟨rfl, rfl⟩ := hx
      obtain ⟨p1, p2⟩ := hp _ rfl
      have hu := (hT _ _ h3).d
      simp only [TD.fits] at hu
      refine ⟨?_, by simp [T.ofV_ids]⟩
      have := get!_get b iv.toNat (by omega)
      simp [execOp, ho, h.im h1, h.im h2, Instr.index, asIntOf, underlying_run hu, p1, this, T.ofV_den]
    · cases hx
  | nilCheck x =>
    refine snd_pure h (X := xnil s x) fun p v hx _ => ?_
    unfold xnil at hx
    split at hx
    · rename_i i off h1
      simp only [Option.some.injEq, Prod.mk.injEq] at hx
      obtain ⟨rfl, rfl⟩ := hx
      obtain ⟨x1, x2⟩ := h.cc h1
      exact ⟨by simp [execOp, ho, x1, C.den, T.den, A.den], by simpa [T.ids, A.ids] using x2⟩
    · cases hx
  | build t ps =>
    refine snd_pure h (X := (xbuild tt s t ps.toList).map (none, ·)) fun p v hx _ => ?_
    obtain ⟨r, e1, e2⟩ := Option.map_eq_some_iff.1 hx
    simp only [Prod.mk.injEq] at e2
    obtain ⟨rfl, rfl⟩ := e2
    obtain ⟨r1, r2⟩ := xbuild_run hT h e1
    exact ⟨by simp only [execOp, ho, Sem.run_bind, r1, Result.andThen_ok, Sem.run_pure], r2⟩
  | box t x => exact snd_box h ho hnx hf
  | alloc t => exact snd_alloc hT h ho hnx hf
  | load t x =>
    simp only
    split
    · rename_i i off hc
      refine snd_pure h (X := (xloadB tt s t i off).map (none, ·)) fun p v hx _ => ?_
      obtain ⟨r, e1, e2⟩ := Option.map_eq_some_iff.1 hx
      simp only [Prod.mk.injEq] at e2
      obtain ⟨rfl, rfl⟩ := e2
      obtain ⟨r1, r2⟩ := xloadB_run hT h e1
      obtain ⟨x1, x2⟩ := h.cc hc
      exact ⟨by simp only [execOp, ho, x1, C.den, Sem.run_bind, r1, Result.andThen_ok, Sem.run_pure], r2⟩
    · rename_i k sz i j hc
      exact snd_loadE hT h ho (h.cc hc).1 hal hfr
    · intro k hk; exact hk.elim
  | store t x y =>
    simp only
    split
    · rename_i i off v hc hv
      exact snd_storeB hT h ho (h.cc hc).1 (h.ev hv).1 (h.ev hv).2
    · intro k hk; exact hk.elim
  | slice t x lo hi mx =>
    cases mx with
    | some _ => intro k hk; exact hk.elim
    | none =>
      simp only
      split
      · exact snd_cut hT h ho hnx hf
      · exact snd_slice hT h ho hnx hf
  | buildSlice t len ps =>
    simp only
    split
    · exact snd_buildSlice hT h ho hnx hf
    · intro k hk; exact hk.elim
  | call c =>
    obtain ⟨callee, args, argTypes⟩ := c
    simp only
    cases callee with
    | value f =>
      simp only
      split
      · rename_i k ts h1 h2
        exact snd_call hct h ho h1 (evs_ok h2) hal hfr
      · intro k hk; exact hk.elim
    | invoke r me => intro k hk; exact hk.elim
    | builtin b =>
      cases b with
      | append =>
        simp only
        split
        · rename_i x y t u h1 h2
          split
          · rename_i e
            have e := Nat.eq_of_beq_eq_true e
            subst e
            have h1 : args = #[x, y] := Array.ext' h1
            have h2 : argTypes = #[t, t] := Array.ext' h2
            subst h1 h2
            exact snd_append hT h ho hnx hf
          · intro k hk; exact hk.elim
        · intro k hk; exact hk.elim
      | len =>
        simp only
        split
        · rename_i x t h1 h2
          have h1 : args = #[x] := Array.ext' h1
          have h2 : argTypes = #[t] := Array.ext' h2
          subst h1 h2
          refine snd_pure h (X := xlen tt s t x) fun p v hx _ => ?_
          unfold xlen at hx
          split at hx
          · rename_i k _ _ _ _ hc hl
            have hu := (hT _ _ hl).d
            simp only [TD.fits] at hu
            split at hx
            · rename_i e' ts rows deps hsl
              simp only [Option.some.injEq, Prod.mk.injEq] at hx
              obtain ⟨rfl, rfl⟩ := hx
              obtain ⟨⟨F, f1, f2⟩, -, -⟩ := h.sl hsl
              obtain ⟨ad, cap, hv, -⟩ := f1.open
              refine ⟨?_, by simp [T.ofV_ids]⟩
              have hx1 : a.eval x = .slice ad rows.length cap := by rw [(h.cc hc).1]; exact hv
              simp [execOp, ho, resolve, invoke, builtin, Builtin.len_, hx1, underlying_run hu, T.ofV_den, goInt]
            · cases hx
          · rename_i ad nn cc _ _ _ _ hc hl
            have hu := (hT _ _ hl).d
            simp only [TD.fits] at hu
            simp only [Option.some.injEq, Prod.mk.injEq] at hx
            obtain ⟨rfl, rfl⟩ := hx
            have hx1 := (h.cc hc).1
            simp only [C.den] at hx1
            exact ⟨by simp [execOp, ho, resolve, invoke, builtin, Builtin.len_, hx1, underlying_run hu, T.ofV_den, goInt], by simp [T.ofV_ids]⟩
          · rename_i b _ _ _ hc hl
            have hu := (hT _ _ hl).d
            simp only [TD.fits] at hu
            simp only [Option.some.injEq, Prod.mk.injEq] at hx
            obtain ⟨rfl, rfl⟩ := hx
            have hx1 := (h.cc hc).1
            simp only [C.den] at hx1
            exact ⟨by simp [execOp, ho, resolve, invoke, builtin, Builtin.len_, hx1, underlying_run hu, T.ofV_den, goInt], by simp [T.ofV_ids]⟩
          · cases hx
        · intro k hk; exact hk.elim
      | min =>
        refine snd_pure h (X := xmin2 false s args.toList) fun p v hx _ => ?_
        unfold xmin2 at hx
        split at hx
        · rename_i x y h1
          split at hx
          · rename_i k av _ bv e1 e2
            simp only [Option.some.injEq, Prod.mk.injEq] at hx
            obtain ⟨rfl, rfl⟩ := hx
            have h1 : args = #[x, y] := Array.ext' h1
            subst h1
            refine ⟨?_, by simp [T.ofV_ids]⟩
            have e : (if bv < av then bv else av) = min av bv := by omega
            simp [execOp, ho, resolve, invoke, builtin, Builtin.min_, Builtin.min2, h.im e1, h.im e2, T.ofV_den, e]
          · cases hx
        · cases hx
      | max =>
        refine snd_pure h (X := xmin2 true s args.toList) fun p v hx _ => ?_
        unfold xmin2 at hx
        split at hx
        · rename_i x y h1
          split at hx
          · rename_i k av _ bv e1 e2
            simp only [Option.some.injEq, Prod.mk.injEq] at hx
            obtain ⟨rfl, rfl⟩ := hx
            have h1 : args = #[x, y] := Array.ext' h1
            subst h1
            refine ⟨?_, by simp [T.ofV_ids]⟩
            have e : (if bv > av then bv else av) = max av bv := by omega
            simp [execOp, ho, resolve, invoke, builtin, Builtin.max_, Builtin.max2, h.im e1, h.im e2, T.ofV_den]
            omega
          · cases hx
        · cases hx
      | _ => intro k hk; exact hk.elim
  | _ => intro k hk; exact hk.elim
end
end Go.Proofs.Ytemgpfojmdncjaa
