/-
  The reckoner's operations that cut slices, and that make them. Over any program.
-/
import Derived.Test.YtemgpfojmdncjaaEx6
import Derived.Great.BuildSlice
namespace Go.Proofs.Ytemgpfojmdncjaa
set_option linter.unusedVariables false
set_option linter.unusedSimpArgs false
open Go.RowKit

mutual
def Ty.beq : Ty → Ty → Bool
  | .int, .int => true
  | .bool, .bool => true
  | .str, .str => true
  | .sl e ts, .sl e' ts' => Nat.beq e e' && Ty.beqs ts ts'
  | _, _ => false
def Ty.beqs : List Ty → List Ty → Bool
  | [], [] => true
  | t :: ts, u :: us => Ty.beq t u && Ty.beqs ts us
  | _, _ => false
end
mutual
theorem Ty.beq_ok : ∀ (t u : Ty), Ty.beq t u = true → t = u
  | .int, u, h => by cases u <;> simp [Ty.beq] at h ⊢
  | .bool, u, h => by cases u <;> simp [Ty.beq] at h ⊢
  | .str, u, h => by cases u <;> simp [Ty.beq] at h ⊢
  | .sl e ts, u, h => by
    cases u with
    | sl e' us =>
      simp only [Ty.beq, Bool.and_eq_true, Nat.beq_eq] at h
      obtain ⟨rfl, h⟩ := h
      rw [Ty.beqs_ok ts us h]
    | _ => simp [Ty.beq] at h
theorem Ty.beqs_ok : ∀ (t u : List Ty), Ty.beqs t u = true → t = u
  | [], [], _ => rfl
  | [], _ :: _, h => by simp [Ty.beqs] at h
  | _ :: _, [], h => by simp [Ty.beqs] at h
  | t :: ts, u :: us, h => by
    simp only [Ty.beqs, Bool.and_eq_true] at h
    rw [Ty.beq_ok t u h.1, Ty.beqs_ok ts us h.2]
end

theorem flatten_take {α : Type} (k : Nat) : ∀ (rows : List (List α)) (h : Nat), (∀ r ∈ rows, r.length = k) → (rows.take h).flatten = rows.flatten.take (h * k)
  | [], h, _ => by simp
  | r :: rs, 0, _ => by simp
  | r :: rs, h + 1, hr => by
    have hk := hr r (by simp)
    have e : r.take ((h + 1) * k) = r := List.take_of_length_le (by rw [hk, Nat.add_mul]; omega)
    have e2 : (h + 1) * k - r.length = h * k := by rw [hk, Nat.add_mul]; omega
    rw [List.take_succ_cons, List.flatten_cons, List.flatten_cons, flatten_take k rs h (fun q hq => hr q (by simp [hq])), List.take_append, e, e2]

/-- A part of what is read. -/
theorem RdS.cut {F : Nat → Prop} {w : World} {e : Nat} {ts : List Ty} {ls : List (List Dat)} {a : Option Addr} {n cap : Nat} (h : RdS F w (.sl e ts) (.sl ls) (.slice a n cap)) (l hh : Nat) (hlh : l ≤ hh) (hhl : hh ≤ ls.length) :
    RdS F w (.sl e ts) (.sl ((ls.take hh).drop l)) (.slice (if cap = l then a else a.map (·.add (l * ts.length))) (hh - l) (cap - l)) := by
  simp only [RdS] at h ⊢
  obtain ⟨rows, ⟨a', cap', h1, h2, h3, h4, h5⟩, hF, hl, hr⟩ := h
  simp only [Value.slice.injEq] at h1
  obtain ⟨rfl, rfl, rfl⟩ := h1
  have hlen : ((rows.take hh).drop l).length = hh - l := by simp; omega
  refine ⟨(rows.take hh).drop l, ⟨_, _, by rw [hlen], by rw [hlen]; omega, by omega, fun x hx => h4 x (List.mem_of_mem_take (List.mem_of_mem_drop hx)), ?_⟩, fun hne b hb => ?_, by rw [hlen]; simp; omega, fun k hk => ?_⟩
  · by_cases hc : cap = l
    · left
      refine ⟨List.eq_nil_of_length_eq_zero (by omega), fun ha => ?_⟩
      omega
    · rw [if_neg hc]
      rcases h5 with ⟨h5, h6⟩ | ⟨b, off, h5, h6, h7⟩
      · left
        refine ⟨by subst h5; simp, fun ha => ?_⟩
        simp at ha; rw [h6 ha]; omega
      · subst h5
        right
        refine ⟨b, off + l * ts.length, by simp [add_none], h6, fun j hj i hi => ?_⟩
        rw [hlen] at hj
        have := h7 (l + j) (by omega) i hi
        rw [show off + l * ts.length + (j * ts.length + i) = off + ((l + j) * ts.length + i) by rw [Nat.add_mul]; omega, this]
        simp [List.getD, show l + j < hh by omega]
  · have hne' : rows ≠ [] := fun e => by subst e; simp at hne
    refine hF hne' b ?_
    cases a with
    | none => simp [Value.ownBlock] at hb
    | some x =>
      split at hb
      · exact hb
      · simp only [Option.map_some, Value.ownBlock] at hb ⊢; rw [← hb]; unfold Addr.add; split <;> rfl
  · simp at hk
    have e1 : ((ls.take hh).drop l).getD k [] = ls.getD (l + k) [] := by simp [List.getD, show l + k < hh by omega]
    have e2 : ((rows.take hh).drop l).getD k [] = rows.getD (l + k) [] := by simp [List.getD, show l + k < hh by omega]
    rw [e1, e2]
    exact hr _ (by omega)

section
variable {P : Program} {tt : TT} {Γ : Env} {n : Nat} {w0 : World} {al fr : Nat → Prop} {s : St} {m : Maps} {a : Act} {w : World} {nx : Nat} {o : Oper}

/-- A new slice; the things that it took in are known no more. -/
theorem Stp.newSl (h : R Γ n w0 al s m a w) {dst : Option Tmp} {E : En} {cons : List Nat} {v' : Value} {w' : World} {π' : Nat → Nat} (hb : Below Γ.base w w')
    (hk : ∀ b, b < w.heap.size → (b < Γ.base ∨ m.π b ∉ cons) → w'.heap[b]? = w.heap[b]?) (hπ : ∀ b, b < w.heap.size → m.π b ∉ cons → π' b = m.π b)
    (hE : EnAt Γ ⟨m.β, upd m.ε nx v', π'⟩ w' nx E) (hids : ∀ j ∈ E.ids, al j) (hc : ∀ j ∈ cons, al j) (hnx : ¬ al nx) (hf : fr nx) :
    Stp Γ al fr dst m a w ⟨.one (.one (.ext nx)), (nx, E) :: cons.map fun i => (i, .dead)⟩ ⟨m.β, upd m.ε nx v', π'⟩ (a.put dst v') w' where
  act := by simp [T.den, A.den, C.den, upd_same]
  same := fun i hi => ⟨rfl, upd_other _ _ _ (fun e => hnx (e ▸ hi))⟩
  below := hb
  keep := fun b hb h2 => hk b hb (h2.imp id fun hx hy => hx (List.mem_cons_of_mem _ (List.mem_map.2 ⟨(m.π b, .dead), List.mem_map.2 ⟨_, hy, rfl⟩, rfl⟩)))
  own := fun b hb h2 => hπ b hb fun hy => h2 (List.mem_cons_of_mem _ (List.mem_map.2 ⟨(m.π b, .dead), List.mem_map.2 ⟨_, hy, rfl⟩, rfl⟩))
  en := by
    intro i E' hE'
    rw [lkp_cons] at hE'
    split at hE'
    · rename_i e
      subst e
      obtain rfl := Option.some.inj hE'
      exact ⟨hE, .inr hf, fun j hj => .inl (hids j hj)⟩
    · obtain ⟨j, hj, he⟩ := List.mem_map.1 (lkp_mem hE')
      simp only [Prod.mk.injEq] at he
      obtain ⟨rfl, rfl⟩ := he
      exact ⟨trivial, .inl (hc j hj), by simp [En.ids]⟩
  val := fun i hi => by simp [T.ids, A.ids, C.ids] at hi; subst hi; exact .inr hf

/-! ## Bounds -/
def bnd (s : St) (x : Option Operand) (d : Int) : Option Int :=
  match x with
  | none => some d
  | some x =>
    match (ev s x).bind T.im with
    | some (.int _ i) => some i
    | _ => none
theorem bnd_val (h : R Γ n w0 al s m a w) {x : Operand} {d i : Int} (hx : bnd s (some x) d = some i) : ∃ kk, a.eval x = .int kk i := by
  unfold bnd at hx
  simp only at hx
  split at hx
  · rename_i kk j hj
    obtain ⟨t, e1, e2⟩ := Option.bind_eq_some_iff.1 hj
    obtain ⟨x1, -⟩ := h.ev e1
    rw [(T.im_den m e2).1] at x1
    simp only [Option.some.injEq] at hx
    subst hx
    exact ⟨kk, x1⟩
  · cases hx
theorem bounds_run (h : R Γ n w0 al s m a w) {isS : Bool} {len cap : Nat} {lo hi : Option Operand} {l hh : Int} (hl : bnd s lo 0 = some l) (hh' : bnd s hi (len : Int) = some hh) (h0 : 0 ≤ l) (h1 : l ≤ hh) (h2 : hh ≤ (cap : Int)) :
    (Instr.sliceBounds isS len cap (lo.map a.eval) (hi.map a.eval) none).run P w = .ok (l.toNat, hh.toNat, cap) w := by
  have hlo : ∀ (y : Nat), hh.toNat = y → ∀ x, lo = some x → (Instr.sliceBound (a.eval x) y .sliceB).run P w = .ok l.toNat w := by
    intro y hy x hx
    subst hx
    obtain ⟨kk, e⟩ := bnd_val h hl
    simp only [e, Instr.sliceBound, Sem.run_bind, asIntOf, Sem.run_pure, Result.andThen_ok]
    rw [if_pos ⟨h0, by omega⟩]; simp
  have hhi : ∀ x, hi = some x → ∀ c, (Instr.sliceBound (a.eval x) cap c).run P w = .ok hh.toNat w := by
    intro x hx c
    subst hx
    obtain ⟨kk, e⟩ := bnd_val h hh'
    simp only [e, Instr.sliceBound, Sem.run_bind, asIntOf, Sem.run_pure, Result.andThen_ok]
    rw [if_pos ⟨by omega, h2⟩]; simp
  unfold Instr.sliceBounds
  cases hi with
  | none =>
    simp [bnd] at hh'
    subst hh'
    cases lo with
    | none => simp [bnd] at hl; subst hl; simp
    | some x => have := hlo len (by omega) x rfl; simp [this]
  | some x =>
    have e1 := hhi x rfl
    cases lo with
    | none => simp [bnd] at hl; subst hl; simp [e1]
    | some y => have := hlo hh.toNat rfl y rfl; simp [e1, this]

def xslice (tt : TT) (s : St) (nx t : Nat) (x : Option T) (lo hi : Option Operand) (q : Eff → Prop) : Prop :=
  match x.bind T.c? with
  | some (.ext k) =>
    match slOf s k, eltOf tt t with
    | some (e, ts, rows, deps), some (_, ei) =>
      match bnd s lo 0, bnd s hi (rows.length : Int) with
      | some l, some h => Nat.beq ts.length ei.size = true ∧ 0 ≤ l ∧ l ≤ h ∧ h ≤ (rows.length : Int) ∧ q ⟨.one (.one (.ext nx)), [(nx, .view e ts ((rows.take h.toNat).drop l.toNat) deps)]⟩
      | _, _ => False
    | _, _ => False
  | some (.im (.string b)) =>
    match lkp tt t with
    | some { d := .str, .. } =>
      match bnd s lo 0, bnd s hi (b.size : Int) with
      | some l, some h => 0 ≤ l ∧ l ≤ h ∧ h ≤ (b.size : Int) ∧ q ⟨T.ofV (.string (b.extract l.toNat h.toNat)), []⟩
      | _, _ => False
    | _ => False
  | _ => False
theorem snd_slice (hT : TTok P tt) (h : R Γ n w0 al s m a w) {t : Nat} {x : Operand} {lo hi : Option Operand} (ho : o.op = .slice t x lo hi none) (hnx : ¬ al nx) (hf : fr nx) : Snd P Γ al fr m a w o (xslice tt s nx t (ev s x) lo hi) := by
  intro q hk Q
  unfold xslice at hk
  split at hk
  · rename_i k hxk
    obtain ⟨tx, etx, hxk⟩ := Option.bind_eq_some_iff.1 hxk
    obtain ⟨x1, x2⟩ := h.ev etx
    rw [T.c?_some hxk] at x1
    split at hk
    · rename_i e ts rows deps e' ei hsl hel
      split at hk
      · rename_i l hh hl hh'
        obtain ⟨hsz, h0, h1, h2, hk⟩ := hk
        have hsz := Nat.eq_of_beq_eq_true hsz
        obtain ⟨⟨F, f1, f2⟩, hak, had⟩ := h.sl hsl
        obtain ⟨ad, cap, hval, hlc, -, -, -⟩ := f1.open
        obtain ⟨u1, u2⟩ := eltOf_ok hT hel
        rw [hval] at f1
        have hcut := f1.cut l.toNat hh.toNat (by omega) (by omega)
        have x1' : a.eval x = .slice ad rows.length cap := by rw [x1]; exact hval
        refine Oper.wp_value (v := .slice (if cap = l.toNat then ad else ad.map (·.add (l.toNat * ts.length))) (hh.toNat - l.toNat) (cap - l.toNat)) (w' := w) ?_
          ⟨_, _, hk, Stp.newSl h (cons := []) (π' := m.π) (Below.refl _ _) (fun _ _ _ => rfl) (fun _ _ _ => rfl) ⟨F, by simp only [upd_same]; exact hcut, f2⟩ (fun j hj => had j hj) (by simp) hnx hf⟩
        have hbr := bounds_run (P := P) (isS := true) (len := rows.length) (cap := cap) h hl hh' h0 h1 (by omega)
        simp only [execOp, ho, Sem.run_bind, Option.map_none, Instr.sliceAt, underlying_run u1, Result.andThen_ok, Instr.slice, x1', hbr, u2.sizeOf, Sem.run_pure, hsz]
      · exact hk.elim
    · exact hk.elim
  · rename_i b hxk
    obtain ⟨tx, etx, hxk⟩ := Option.bind_eq_some_iff.1 hxk
    obtain ⟨x1, x2⟩ := h.ev etx
    rw [T.c?_some hxk] at x1
    split at hk
    · rename_i hl
      have hu := (hT _ _ hl).d
      simp only [TD.fits] at hu
      split at hk
      · rename_i l hh hl hh'
        obtain ⟨h0, h1, h2, hk⟩ := hk
        have hbr := bounds_run (P := P) (isS := false) (len := b.size) (cap := b.size) h hl hh' h0 h1 h2
        have x1' : a.eval x = .string b := x1
        refine Oper.wp_value (v := .string (b.extract l.toNat hh.toNat)) (w' := w) ?_ ⟨_, m, hk, Stp.pure h (T.ofV _) (by simp [T.ofV, T.ids, A.ids, C.ids])⟩
        simp [execOp, ho, Instr.sliceAt, underlying_run hu, Instr.slice, x1', hbr]
      · exact hk.elim
    · exact hk.elim
  · exact hk.elim

/-- A slice of the call's own made shorter; the longer one is known no more. -/
def xcut (tt : TT) (s : St) (nx t : Nat) (x : Option T) (lo hi : Option Operand) (q : Eff → Prop) : Prop :=
  match x.bind T.c? with
  | some (.ext k) =>
    match lkp s.en k, eltOf tt t with
    | some (.own e ts rows), some (_, ei) =>
      match bnd s lo 0, bnd s hi (rows.length : Int) with
      | some l, some h => Nat.beq ts.length ei.size = true ∧ l = 0 ∧ 0 ≤ h ∧ h ≤ (rows.length : Int) ∧ q ⟨.one (.one (.ext nx)), [(nx, .own e ts (rows.take h.toNat)), (k, .dead)]⟩
      | _, _ => False
    | _, _ => False
  | _ => False
theorem Fp.cut {e : Nat} {ts : List Ty} {ls : List (List Dat)} {ad : Option Addr} {k cap : Nat} {bs : List Nat} (h : Fp w (.sl e ts) (.sl ls) (.slice ad k cap) bs) (hh : Nat) (hl : hh ≤ ls.length) :
    ∃ bs', Fp w (.sl e ts) (.sl (ls.take hh)) (.slice ad hh cap) bs' ∧ bs'.Sublist bs := by
  simp only [Fp] at h ⊢
  obtain ⟨rows, bss, h1, h2, h3, h4, h5, rfl⟩ := h
  have hk : k = rows.length := by
    rcases h1.2 with ⟨hv, hn⟩ | ⟨g, cap, cur, hv, _⟩
    · simp at hv; omega
    · simp at hv; exact hv.2.1
  have hb : (bss.take hh).flatten.Sublist bss.flatten := by
    conv => rhs; rw [← List.take_append_drop hh bss, List.flatten_append]
    exact List.sublist_append_left _ _
  refine ⟨(Value.slice ad hh cap).ownBlock.toList ++ (bss.take hh).flatten, ⟨rows.take hh, bss.take hh, ?_, by simp [h2], by simp [h3], fun r hr => h4 r (List.mem_of_mem_take hr), fun j hj => ?_, rfl⟩, ?_⟩
  · have e1 : (rows.take hh).length = hh := by simp; omega
    rw [e1, flatten_take ts.length rows hh h4]
    refine ⟨?_, ?_⟩
    · simp only [List.length_take, h1.1]
      have := Nat.mul_le_mul_right ts.length (show hh ≤ rows.length by omega)
      omega
    · rcases h1.2 with ⟨hv, hn⟩ | ⟨g, cap', cur, hv, hg, hh', hc1, hc2, hc3, hc4⟩
      · simp at hv
        left
        obtain ⟨rfl, -, rfl⟩ := hv
        have : hh = 0 := by omega
        subst this; simp
      · simp only [Value.slice.injEq] at hv
        obtain ⟨rfl, -, rfl⟩ := hv
        right
        refine ⟨g, cap, cur, rfl, hg, hh', by omega, hc2, hc3, ?_⟩
        rw [← hc4, List.take_take, Nat.min_eq_left (Nat.mul_le_mul_right ts.length (by omega))]
  · simp at hj
    have e1 : (ls.take hh).getD j [] = ls.getD j [] := by simp [List.getD, show j < hh by omega]
    have e2 : (rows.take hh).getD j [] = rows.getD j [] := by simp [List.getD, show j < hh by omega]
    have e3 : (bss.take hh).getD j [] = bss.getD j [] := by simp [List.getD, show j < hh by omega]
    rw [e1, e2, e3]
    exact h5 j (by omega)
  · have e0 : (Value.slice ad hh cap).ownBlock = (Value.slice ad k cap).ownBlock := by cases ad <;> rfl
    rw [e0]
    exact List.Sublist.append (List.Sublist.refl _) hb
theorem snd_cut (hT : TTok P tt) (h : R Γ n w0 al s m a w) {t : Nat} {x : Operand} {lo hi : Option Operand} (ho : o.op = .slice t x lo hi none) (hnx : ¬ al nx) (hf : fr nx) : Snd P Γ al fr m a w o (xcut tt s nx t (ev s x) lo hi) := by
  intro q hk Q
  unfold xcut at hk
  split at hk
  · rename_i k hxk
    obtain ⟨tx, etx, hxk⟩ := Option.bind_eq_some_iff.1 hxk
    obtain ⟨x1, x2⟩ := h.ev etx
    rw [T.c?_some hxk] at x1
    split at hk
    · rename_i e ts rows e' ei hsl hel
      split at hk
      · rename_i l hh hl hh'
        obtain ⟨hsz, rfl, h1, h2, hk⟩ := hk
        have hsz := Nat.eq_of_beq_eq_true hsz
        obtain ⟨⟨bs, b1, b2, b3⟩, hak, -⟩ := h.en _ _ hsl
        obtain ⟨ad, cap, hval, hlc, -, -, -⟩ := (RdS.of_fp _ _ _ _ b1).open
        obtain ⟨u1, u2⟩ := eltOf_ok hT hel
        rw [hval] at b1
        obtain ⟨bs', c1, c2⟩ := b1.cut hh.toNat (by omega)
        have x1' : a.eval x = .slice ad rows.length cap := by rw [x1]; exact hval
        have hval2 : (if cap = 0 then ad else ad.map (·.add (0 * ts.length))) = ad := by
          split
          · rfl
          · cases ad <;> simp [Addr.add]
        refine Oper.wp_value (v := .slice ad hh.toNat cap) (w' := w) ?_
          ⟨_, _, hk, Stp.newSl h (cons := [k]) (π' := fun b => if b ∈ bs' then nx else m.π b) (Below.refl _ _) (fun _ _ _ => rfl) (fun b _ hb => if_neg fun hbs => hb (by rw [(b3 b (c2.subset hbs)).2]; simp)) ⟨bs', by simp only [upd_same]; exact c1, List.Nodup.sublist c2 b2, fun b hb => ⟨(b3 b (c2.subset hb)).1, if_pos hb⟩⟩ (by simp [En.ids]) (by simp [hak]) hnx hf⟩
        have hbr := bounds_run (P := P) (isS := true) (len := rows.length) (cap := cap) h hl hh' (by omega) (by omega) (by omega)
        simp only [execOp, ho, Sem.run_bind, Option.map_none, Instr.sliceAt, underlying_run u1, Result.andThen_ok, Instr.slice, x1', hbr, u2.sizeOf, Sem.run_pure, ← hsz]
        simp only [Int.toNat_zero, hval2, Nat.sub_zero]
      · exact hk.elim
    · exact hk.elim
  · exact hk.elim
end
end Go.Proofs.Ytemgpfojmdncjaa
