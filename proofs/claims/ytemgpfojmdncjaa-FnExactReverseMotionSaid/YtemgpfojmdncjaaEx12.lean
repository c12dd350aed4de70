/-
  The reckoner's regions in the order of the text; an operation's effect taken by itself. Over any program.
-/
import Derived.Test.YtemgpfojmdncjaaEx11
import Derived.Laws.Cover3
namespace Go.Proofs.Ytemgpfojmdncjaa
set_option linter.unusedVariables false
set_option linter.unusedSimpArgs false
open Go.RowKit

/-- A truth value's two ways; one alone where the value stands there as a constant. -/
def gcase (f b : Bool) (X Y : Prop) : Prop :=
  match f with
  | true => (match b with | true => X | false => Y)
  | false => (b = true → X) ∧ (b = false → Y)
theorem gcase_elim {f b : Bool} {X Y : Prop} (h : gcase f b X Y) : (b = true → X) ∧ (b = false → Y) := by
  unfold gcase at h
  cases f with
  | true => cases b <;> exact ⟨fun e => (by first | exact h | cases e), fun e => (by first | exact h | cases e)⟩
  | false => exact h

def St.know (s : St) (t : Nat) (b : Bool) : St := { s with tm := (t, T.ofV (.bool b)) :: s.tm, lit := t :: s.lit }
def litO (s : St) : Operand → Bool
  | .tmp t => s.lit.any (Nat.beq t)
  | .const (.bool _) => true
  | _ => false
def litOp (s : St) : Op → Bool
  | .move x => litO s x
  | .assign x => litO s x
  | .pick c a b =>
    match litO s c with
    | true =>
      match imOf s c with
      | some (.bool true) => litO s a
      | some (.bool false) => litO s b
      | _ => false
    | false => false
  | _ => false
def St.setLit (s : St) (f : Bool) (dst : Option Tmp) : St :=
  match f, dst with
  | true, some t => { s with lit := t :: s.lit }
  | _, _ => s
def St.put (s : St) (o : Oper) (e : Eff) : St := (s.app o.dst e).setLit (litOp s o.op) o.dst
def dstOk (n : Nat) (o : Oper) : Bool :=
  match o.dst with
  | some t => Nat.ble (t + 1) n
  | none => true
def alN (nx i : Nat) : Prop := 0 < i ∧ i < nx

section
variable {P : Program} {tt : TT} {ct : CTs} {Γ : Env} {n : Nat} {w0 : World} {al fr : Nat → Prop} {s : St} {m : Maps} {a : Act} {w : World} {nx : Nat} {o : Oper}

theorem R.eq (h : R Γ n w0 al s m a w) {s' : St} (ht : s'.tm = s.tm) (he : s'.en = s.en) : R Γ n w0 al s' m a w :=
  { h with tm := by rw [ht]; exact h.tm, en := by rw [he]; exact h.en }
theorem setLit_tm (s : St) (f : Bool) (dst : Option Tmp) : (s.setLit f dst).tm = s.tm ∧ (s.setLit f dst).en = s.en := by
  unfold St.setLit; split <;> exact ⟨rfl, rfl⟩
theorem R.know (h : R Γ n w0 al s m a w) {t : Nat} {b : Bool} (hb : a.tmps.getD t undef = .bool b) : R Γ n w0 al (s.know t b) m a w :=
  { h with
    tm := fun u v hv => by
      simp only [St.know, lkp_cons] at hv
      split at hv
      · rename_i e; subst e; obtain rfl := Option.some.inj hv; exact ⟨hb, by simp [T.ofV_ids]⟩
      · exact h.tm u v hv }
theorem dstOk_ok (h : dstOk n o = true) : ∀ t, o.dst = some t → t < n := by
  intro t ht
  unfold dstOk at h
  rw [ht] at h
  exact Nat.le_of_ble_eq_true h
/-- Behind an operation, its effect known. -/
theorem R.put (h : R Γ n w0 (alN nx) s m a w) {e : Eff} {m' : Maps} {a' : Act} {w' : World} (hnx : 0 < nx) (hs : Stp Γ (alN nx) (fun i => nx ≤ i ∧ i < nx + 32) o.dst m a w e m' a' w') (hd : dstOk n o = true) : R Γ n w0 (alN (nx + 32)) (s.put o e) m' a' w' := by
  have := (Stp.r h hs (by omega) (dstOk_ok hd)).more (al' := alN (nx + 32)) (fun i hi => by unfold alN at *; omega) (by unfold alN; omega)
  exact this.eq (setLit_tm _ _ _).1 (setLit_tm _ _ _).2
theorem Stp.skip (_ : R Γ n w0 al s m a w) {dst : Option Tmp} : Stp Γ al fr dst m a w ⟨T.ofV undef, []⟩ m (a.put dst undef) w :=
  ⟨rfl, fun _ _ => ⟨rfl, rfl⟩, Below.refl _ _, fun _ _ _ => rfl, fun _ _ _ => rfl, fun i E h => by simp [lkp] at h, by simp [T.ofV_ids]⟩
end

/-- Is it a comparison of a slice with nil? Its rows; is it '!='? -/
def nilEq (tt : TT) (s : St) : Op → Option (List (List Dat) × Bool)
  | .binOp op t x (.const (.slice none 0 0)) _ =>
    match op, cOf s x, lkp tt t with
    | .eql, some (.ext k), some { d := .slice _, .. } => (slOf s k).map fun y => (y.2.2.1, false)
    | .neq, some (.ext k), some { d := .slice _, .. } => (slOf s k).map fun y => (y.2.2.1, true)
    | _, _, _ => none
  | _ => none
/-- One operation where the order is the text's: what it yields may be open. -/
def xopL (tt : TT) (ct : CTs) (hints : List Nat) (o : Oper) (s : St) (nx : Nat) (q : Eff → Prop) : Prop :=
  match nilEq tt s o.op with
  | some (rows, neg) => ∀ b : Bool, (b = true → rows = []) → q ⟨T.ofV (.bool (match neg with | true => !b | false => b)), []⟩
  | none => xop tt ct hints o s nx q
theorem snd_opL {P : Program} {tt : TT} {ct : CTs} {Γ : Env} {n : Nat} {w0 : World} {al fr : Nat → Prop} {s : St} {m : Maps} {a : Act} {w : World} {nx : Nat} {o : Oper} (hT : TTok P tt) (hct : CTok P ct) (h : R Γ n w0 al s m a w) (hints : List Nat) (hal : ∀ i, al i → ¬ (nx ≤ i ∧ i < nx + 32)) (hfr : ∀ i, nx ≤ i → i < nx + 32 → fr i) : Snd P Γ al fr m a w o (xopL tt ct hints o s nx) := by
  intro k hk Q
  unfold xopL at hk
  split at hk
  · rename_i rows neg hn
    have key : ∀ (op : BinOp) (t : Nat) (x : Operand) (y : Nat) (i : Nat), o.op = .binOp op t x (.const (.slice none 0 0)) y → cOf s x = some (.ext i) → (∃ z, lkp tt t = some z ∧ ∃ e, z.d = .slice e) → (slOf s i).map (fun y => y.2.2.1) = some rows →
        ∃ b : Bool, (b = true → rows = []) ∧ (Op.equal t (a.eval x) (.slice none 0 0)).run P w = .ok b w ∧ (eqGuard op t x (.const (.slice none 0 0)) (a.eval x) (.slice none 0 0)).run P w = .ok () w ∧ ∃ ad n c, a.eval x = .slice ad n c := by
      intro op t x y i ho hc ⟨z, hz, e, he⟩ hs
      obtain ⟨⟨e', ts, rows', deps⟩, h1, h2⟩ := Option.map_eq_some_iff.1 hs
      simp only at h2
      subst h2
      obtain ⟨⟨F, f1, f2⟩, -, -⟩ := h.sl h1
      obtain ⟨ad, cap, hv, -, -, hnil, -⟩ := f1.open
      have hx : a.eval x = .slice ad rows'.length cap := by rw [(h.cc hc).1]; exact hv
      have hu := (hT _ _ hz).d
      rw [he] at hu
      simp only [TD.fits] at hu
      refine ⟨ad.isNone, fun hb => (hnil (by simpa using hb)).1, ?_, ?_, _, _, _, hx⟩
      · rw [hx]
        exact run_equalIn_slice_nil w 9999 t e ad rows'.length cap hu
      · rw [hx]
        cases op <;> simp [eqGuard]
    unfold nilEq at hn
    split at hn
    · rename_i op t x y ho
      split at hn
      · rename_i i _ _ _ _ hc hz
        obtain ⟨q1, q2, q3⟩ := Option.map_eq_some_iff.1 hn
        simp only [Prod.mk.injEq] at q3
        obtain ⟨rfl, rfl⟩ := q3
        obtain ⟨b, b1, b2, b3, ad, n', c, hx⟩ := key _ t x y i ho hc ⟨_, hz, _, rfl⟩ (by rw [q2]; rfl)
        rw [hx] at b2 b3
        have hb : (Go.binOp .eql t (.slice ad n' c) (.slice none 0 0)).run P w = .ok (.bool b) w := by simp [Go.binOp, b2]
        refine Oper.wp_value (v := .bool b) (w' := w) ?_ ⟨_, m, hk b b1, Stp.pure h (T.ofV (.bool b)) (by simp [T.ofV_ids])⟩
        simp only [execOp, ho, hx, show a.eval (.const (.slice none 0 0)) = .slice none 0 0 from rfl, Sem.run_bind, b3, Result.andThen_ok, hb, Sem.run_pure]
      · rename_i i _ _ _ _ hc hz
        obtain ⟨q1, q2, q3⟩ := Option.map_eq_some_iff.1 hn
        simp only [Prod.mk.injEq] at q3
        obtain ⟨rfl, rfl⟩ := q3
        obtain ⟨b, b1, b2, b3, ad, n', c, hx⟩ := key _ t x y i ho hc ⟨_, hz, _, rfl⟩ (by rw [q2]; rfl)
        rw [hx] at b2 b3
        have hb : (Go.binOp .neq t (.slice ad n' c) (.slice none 0 0)).run P w = .ok (.bool !b) w := by simp [Go.binOp, b2]
        refine Oper.wp_value (v := .bool !b) (w' := w) ?_ ⟨_, m, hk b b1, Stp.pure h (T.ofV (.bool !b)) (by simp [T.ofV_ids])⟩
        simp only [execOp, ho, hx, show a.eval (.const (.slice none 0 0)) = .slice none 0 0 from rfl, Sem.run_bind, b3, Result.andThen_ok, hb, Sem.run_pure]
      · cases hn
    · cases hn
  · exact snd_op hT hct h hints hal hfr k hk Q

def guardTmp (all : List Oper) (j : Nat) : Option Nat := (all[j]?).bind (·.dst)
def boolAt (s : St) (t : Nat) : Option Bool :=
  match (lkp s.tm t).bind T.im with
  | some (.bool b) => some b
  | _ => none
/-- Was it passed over? -/
def isUndef (s : St) (t : Nat) : Bool :=
  match (lkp s.tm t).bind T.im with
  | some (.tuple _) => true
  | _ => false
/-- Operations in the order of the text. -/
def xlist (tt : TT) (ct : CTs) (hints : List Nat) (n : Nat) (all : List Oper) : List Oper → St → Nat → (St → Nat → Prop) → Prop
  | [], s, nx, q => q s nx
  | o :: r, s, nx, q =>
    match dstOk n o with
    | false => False
    | true =>
      match o.guard with
      | none => xopL tt ct hints o s nx fun e => xlist tt ct hints n all r (s.put o e) (nx + 32) q
      | some (j, want) =>
        match guardTmp all j with
        | none => False
        | some t =>
          match boolAt s t with
          | none =>
            match isUndef s t with
            | true => xlist tt ct hints n all r (s.put o ⟨T.ofV undef, []⟩) (nx + 32) q
            | false => False
          | some b =>
            gcase (s.lit.any (Nat.beq t)) (match want with | true => b | false => !b)
              (xopL tt ct hints o (s.know t want) nx fun e => xlist tt ct hints n all r ((s.know t want).put o e) (nx + 32) q)
              (xlist tt ct hints n all r ((s.know t (!want)).put o ⟨T.ofV undef, []⟩) (nx + 32) q)
section
variable {P : Program} {tt : TT} {ct : CTs} {Γ : Env} {n : Nat} {w0 : World} {al fr : Nat → Prop} {s : St} {m : Maps} {a : Act} {w : World} {nx : Nat} {o : Oper}
theorem boolAt_ok (h : R Γ n w0 al s m a w) {t : Nat} {b : Bool} (hb : boolAt s t = some b) : a.tmps.getD t undef = .bool b := by
  unfold boolAt at hb
  split at hb
  · rename_i b' h1
    simp only [Option.some.injEq] at hb
    subst hb
    obtain ⟨v, e1, e2⟩ := Option.bind_eq_some_iff.1 h1
    rw [(h.tm t v e1).1, (T.im_den m e2).1]
  · cases hb
theorem wanted_of {ops : Array Oper} {all : List Oper} (hall : all = ops.toList) {j t : Nat} {want b : Bool} (hg : o.guard = some (j, want)) (ht : guardTmp all j = some t) (hb : a.tmps.getD t undef = .bool b) : Region.wanted o (yielded ops a.tmps) = (b == want) := by
  subst hall
  have h1 : (ops[j]?).bind (·.dst) = some t := by unfold guardTmp at ht; simpa using ht
  have h2 : a.tmps[t]? = some (.bool b) := by
    rw [Array.getD_eq_getD_getElem?] at hb
    cases hx : a.tmps[t]? with
    | none => rw [hx] at hb; simp [undef] at hb
    | some v => rw [hx] at hb; simpa using hb
  simp only [Region.wanted, hg, yielded, h1, Option.bind_some, h2]
  rfl
theorem not_wanted {ops : Array Oper} {all : List Oper} (hall : all = ops.toList) {j t : Nat} {want : Bool} (hg : o.guard = some (j, want)) (ht : guardTmp all j = some t) {x : Array Value} (hb : a.tmps.getD t undef = .tuple x) : Region.wanted o (yielded ops a.tmps) = false := by
  subst hall
  have h1 : (ops[j]?).bind (·.dst) = some t := by unfold guardTmp at ht; simpa using ht
  simp only [Region.wanted, hg, yielded, h1, Option.bind_some]
  rw [Array.getD_eq_getD_getElem?] at hb
  cases hx : a.tmps[t]? with
  | none => rfl
  | some v =>
    rw [hx] at hb
    simp only [Option.getD_some] at hb
    subst hb
    rfl
theorem isUndef_ok (h : R Γ n w0 al s m a w) {t : Nat} (hb : isUndef s t = true) : ∃ x, a.tmps.getD t undef = .tuple x := by
  unfold isUndef at hb
  split at hb
  · rename_i x h1
    obtain ⟨v, e1, e2⟩ := Option.bind_eq_some_iff.1 h1
    exact ⟨x, by rw [(h.tm t v e1).1, (T.im_den m e2).1]⟩
  · cases hb
theorem xlist_sound (hT : TTok P tt) (hct : CTok P ct) {hints : List Nat} {ops : Array Oper} {all : List Oper} (hall : all = ops.toList) {Q : Exit → Act → World → Prop} :
    ∀ (l : List Oper) {s : St} {nx : Nat} {m : Maps} {a : Act} {w : World} {q : St → Nat → Prop}, xlist tt ct hints n all l s nx q → 0 < nx → R Γ n w0 (alN nx) s m a w →
      (∀ s' nx' m' a' w', 0 < nx' → q s' nx' → R Γ n w0 (alN nx') s' m' a' w' → Q .normal a' w') → wpList P ops Q l a w
  | [], s, nx, m, a, w, q, hx, h0, h, hq => wpList_nil (hq _ _ _ _ _ h0 hx h)
  | o :: r, s, nx, m, a, w, q, hx, h0, h, hq => by
    refine wpList_step fun K hK => ?_
    simp only [xlist] at hx
    split at hx
    · exact hx.elim
    · rename_i hd
      have run : ∀ s2 : St, R Γ n w0 (alN nx) s2 m a w → (xopL tt ct hints o s2 nx fun e => xlist tt ct hints n all r (s2.put o e) (nx + 32) q) → o.wp P a w K Q := by
        intro s2 h2 hx2
        have hs := snd_opL (o := o) (fr := fun i => nx ≤ i ∧ i < nx + 32) hT hct h2 hints (fun i hi => by unfold alN at hi; omega) (fun i h1 h2 => ⟨h1, h2⟩) _ hx2 Q
        refine Oper.wp_mono ?_ hs
        rintro a' w' ⟨e, m', he, hstp⟩
        exact hK _ _ (xlist_sound hT hct hall r he (by omega) (h2.put h0 hstp hd) hq)
      split at hx
      · rename_i hg
        rw [if_pos (by simp [Region.wanted, hg])]
        exact run s h hx
      · rename_i j want hg
        split at hx
        · exact hx.elim
        · rename_i t ht
          split at hx
          · split at hx
            · rename_i hu
              obtain ⟨x, hu⟩ := isUndef_ok h hu
              rw [not_wanted hall hg ht hu]
              simp only [Bool.false_eq_true, if_false]
              exact hK _ _ (xlist_sound hT hct hall r hx (by omega) (h.put h0 (Stp.skip h) hd) hq)
            · exact hx.elim
          · rename_i b hb
            have hbv := boolAt_ok h hb
            rw [wanted_of hall hg ht hbv]
            obtain ⟨g1, g2⟩ := gcase_elim hx
            by_cases hbw : b = want
            · subst hbw
              have hk := g1 (by cases b <;> rfl)
              simp only [beq_self_eq_true, if_true]
              exact run _ (h.know hbv) hk
            · have hbw' : b = !want := by cases b <;> cases want <;> simp at hbw ⊢
              have hk := g2 (by subst hbw'; cases want <;> rfl)
              have hne : (b == want) = false := by simpa using hbw
              rw [hne]
              simp only [Bool.false_eq_true, if_false]
              have h2 := h.know (b := !want) (by rw [hbv, hbw'])
              exact hK _ _ (xlist_sound hT hct hall r hk (by omega) (h2.put h0 (Stp.skip h2) hd) hq)
end

/-! ## An effect by itself -/
theorem xp_wit {X : Option (Option Prop × T)} {q : Eff → Prop} (h : xp X q) : ∃ e, q e ∧ xp X (· = e) := by
  unfold xp at h ⊢
  split at h
  · rename_i p v
    cases p with
    | none => exact ⟨_, h, rfl⟩
    | some p => exact ⟨_, h.2, h.1, rfl⟩
  · exact h.elim
theorem xbox_wit {s : St} {nx : Nat} {x : Operand} {q : Eff → Prop} (h : xbox s nx x q) : ∃ e, q e ∧ xbox s nx x (· = e) := by
  unfold xbox at h ⊢
  split at h
  · split at h
    · split at h
      · rename_i hc; exact ⟨_, h, by rw [if_pos hc]⟩
      · exact h.elim
    · exact h.elim
  · exact h.elim
theorem xalloc_wit {tt : TT} {nx t : Nat} {q : Eff → Prop} (h : xalloc tt nx t q) : ∃ e, q e ∧ xalloc tt nx t (· = e) := by
  unfold xalloc at h ⊢
  split at h
  · exact ⟨_, h, rfl⟩
  · exact h.elim
theorem xloadE_wit {tt : TT} {s : St} {nx t k sz i j : Nat} {q : Eff → Prop} (h : xloadE tt s nx t k sz i j q) : ∃ e, q e ∧ xloadE tt s nx t k sz i j (· = e) := by
  unfold xloadE at h ⊢
  split at h
  · split at h
    · rename_i hc
      simp only [if_pos hc]
      split at h
      · split at h
        · exact ⟨_, h.2, h.1, rfl⟩
        · exact h.elim
      · exact h.elim
    · exact h.elim
  · exact h.elim
theorem xstoreB_wit {tt : TT} {s : St} {t i off : Nat} {v : T} {q : Eff → Prop} (h : xstoreB tt s t i off v q) : ∃ e, q e ∧ xstoreB tt s t i off v (· = e) := by
  unfold xstoreB at h ⊢
  split at h
  · split at h
    · rename_i hc; exact ⟨_, h, by rw [if_pos hc]⟩
    · exact h.elim
  · exact h.elim
theorem xslice_wit {tt : TT} {s : St} {nx t : Nat} {x : Option T} {lo hi : Option Operand} {q : Eff → Prop} (h : xslice tt s nx t x lo hi q) : ∃ e, q e ∧ xslice tt s nx t x lo hi (· = e) := by
  unfold xslice at h ⊢
  split at h
  · split at h
    · split at h
      · obtain ⟨h1, h2, h3, h4, h⟩ := h
        exact ⟨_, h, h1, h2, h3, h4, rfl⟩
      · exact h.elim
    · exact h.elim
  · split at h
    · split at h
      · obtain ⟨h1, h2, h3, h⟩ := h
        exact ⟨_, h, h1, h2, h3, rfl⟩
      · exact h.elim
    · exact h.elim
  · exact h.elim
theorem xcut_wit {tt : TT} {s : St} {nx t : Nat} {x : Option T} {lo hi : Option Operand} {q : Eff → Prop} (h : xcut tt s nx t x lo hi q) : ∃ e, q e ∧ xcut tt s nx t x lo hi (· = e) := by
  unfold xcut at h ⊢
  split at h
  · split at h
    · split at h
      · obtain ⟨h1, h2, h3, h4, h⟩ := h
        exact ⟨_, h, h1, h2, h3, h4, rfl⟩
      · exact h.elim
    · exact h.elim
  · exact h.elim
theorem xbuildSlice_wit {tt : TT} {s : St} {nx t len : Nat} {shape : List Ty} {ps : List (Nat × Operand)} {q : Eff → Prop} (h : xbuildSlice tt s nx t len shape ps q) : ∃ e, q e ∧ xbuildSlice tt s nx t len shape ps (· = e) := by
  unfold xbuildSlice at h ⊢
  split at h
  · split at h
    · rename_i hc
      simp only [if_pos hc]
      split at h
      · split at h
        · rename_i hn; exact ⟨_, h, by rw [if_pos hn]⟩
        · exact h.elim
      · split at h
        · exact ⟨_, h, rfl⟩
        · exact h.elim
    · exact h.elim
  · exact h.elim
theorem xappend_wit {tt : TT} {s : St} {nx t : Nat} {x y : Option T} {q : Eff → Prop} (h : xappend tt s nx t x y q) : ∃ e, q e ∧ xappend tt s nx t x y (· = e) := by
  unfold xappend at h ⊢
  split at h
  · split at h
    · split at h
      · split at h
        · rename_i hc
          simp only [if_pos hc]
          obtain ⟨hl, h⟩ := h
          split at h
          · exact ⟨_, h, hl, rfl⟩
          · split at h
            · exact h.elim
            · rename_i hn; exact ⟨_, h, hl, by rw [if_neg hn]⟩
          · split at h
            · exact h.elim
            · rename_i hn; exact ⟨_, h, hl, by rw [if_neg hn]⟩
        · exact h.elim
      · exact h.elim
    · exact h.elim
  · exact h.elim
theorem xcall_wit {tt : TT} {ct : CTs} {s : St} {nx f : Nat} {tys : List Nat} {as : List T} {q : Eff → Prop} (h : xcall tt ct s nx f tys as q) : ∃ e, q e ∧ xcall tt ct s nx f tys as (· = e) := by
  unfold xcall at h ⊢
  split at h
  · split at h
    · split at h
      · rename_i hc
        simp only [if_pos hc]
        obtain ⟨i, h1, h2, h⟩ := h
        exact ⟨_, h, i, h1, h2, rfl⟩
      · exact h.elim
    · exact h.elim
  · exact h.elim
theorem xop_wit {tt : TT} {ct : CTs} {hints : List Nat} {o : Oper} {s : St} {nx : Nat} {q : Eff → Prop} (h : xop tt ct hints o s nx q) : ∃ e, q e ∧ xop tt ct hints o s nx (· = e) := by
  unfold xop at h ⊢
  repeat' (first
    | exact xp_wit h
    | exact xbox_wit h
    | exact xalloc_wit h
    | exact xloadE_wit h
    | exact xstoreB_wit h
    | exact xslice_wit h
    | exact xcut_wit h
    | exact xbuildSlice_wit h
    | exact xappend_wit h
    | exact xcall_wit h
    | exact h.elim
    | (split at h <;> simp only [*])
    | split at h)
end Go.Proofs.Ytemgpfojmdncjaa
