/-
  The reckoner's texts: sequences, ways, blocks, loops; a whole function. Over any program.
-/
import Derived.Test.YtemgpfojmdncjaaEx16
import Derived.Deep.LoopGhost
namespace Go.Proofs.Ytemgpfojmdncjaa
set_option linter.unusedVariables false
set_option linter.unusedSimpArgs false
open Go.RowKit

/-- What a loop, or a join, hands on: the states, by an index; which index is meant; a number that falls; what is said of the loops inside. -/
inductive Inv : Type 1 where
  | mk (nx : Nat) (ι : Type) (st : ι → St) (ok : ι → Prop) (μ : ι → Nat) (inner : ι → List (Nat × Inv)) : Inv
inductive XE where
  | normal
  | exit (id : Nat)
  | ret
def keyOf : Code → Nat
  | .region id _ _ => id
  | .seq a _ => keyOf a
  | .block _ b => keyOf b
  | .loop b => keyOf b
  | .cond _ a _ => keyOf a
  | _ => 1000000
structure Ctx where
  tt : TT
  ct : CTs
  hints : List Nat
  n : Nat
def xcode (X : Ctx) : Code → List (Nat × Inv) → St → Nat → (XE → St → Nat → Prop) → Prop
  | .skip, _, s, nx, k => k .normal s nx
  | .region _ ops false, _, s, nx, k => xlist X.tt X.ct X.hints X.n ops.toList ops.toList s nx (k .normal)
  | .region _ ops true, _, s, nx, k => xdrawn X.tt X.ct X.hints X.n ops.toList s nx (k .normal)
  | .seq a b, iv, s, nx, k => xcode X a iv s nx fun e s' nx' =>
    match e with
    | .normal =>
      match lkp iv (100000 + keyOf b) with
      | none => xcode X b iv s' nx' k
      | some (.mk nx2 ι st ok _ inner) => (∃ i : ι, ok i ∧ covers nx2 s' (st i)) ∧ ∀ i : ι, ok i → xcode X b (inner i) (st i) nx2 k
    | e => k e s' nx'
  | .cond (.tmp t) a b, iv, s, nx, k =>
    match boolAt s t with
    | some v => gcase (mem s.lit t) v (xcode X a iv (s.know t true) nx k) (xcode X b iv (s.know t false) nx k)
    | none => False
  | .block id body, iv, s, nx, k => xcode X body iv s nx fun e s' nx' =>
    match e with
    | .exit j => match Nat.beq j id with | true => k .normal s' nx' | false => k (.exit j) s' nx'
    | e => k e s' nx'
  | .loop body, iv, s, _, k =>
    match lkp iv (keyOf body) with
    | some (.mk nx2 ι st ok μ inner) => (∃ i : ι, ok i ∧ covers nx2 s (st i)) ∧ ∀ i : ι, ok i → xcode X body (inner i) (st i) nx2 fun e s' nx' =>
      match e with
      | .normal => ∃ j : ι, ok j ∧ μ j < μ i ∧ covers nx2 s' (st j)
      | e => k e s' nx'
    | none => False
  | .exit id, _, s, nx, k => k (.exit id) s nx
  | .ret, _, s, nx, k => k .ret s nx
  | _, _, _, _, _ => False
def XE.out : XE → Exit
  | .normal => .normal
  | .exit id => .exit id
  | .ret => .ret

section
variable {P : Program} {X : Ctx} {Γ : Env} {w0 : World}
theorem xcode_sound (hm : P.follows .mixedOrders = true) (hT : TTok P X.tt) (hct : CTok P X.ct) : ∀ (c : Code) {iv : List (Nat × Inv)} {s : St} {nx : Nat} {k : XE → St → Nat → Prop} {al : Nat → Prop} {m : Maps} {a : Act} {w : World} {Q : Exit → Act → World → Prop},
    xcode X c iv s nx k → 0 < nx → R Γ X.n w0 (alN nx) s m a w → (∀ e s' nx' m' a' w', 0 < nx' → k e s' nx' → R Γ X.n w0 (alN nx') s' m' a' w' → Q e.out a' w') → c.wp P Q a w
  | .skip, iv, s, nx, k, al, m, a, w, Q, hx, h0, h, hq => wp_skip (hq .normal _ _ _ _ _ h0 hx h)
  | .region id ops false, iv, s, nx, k, al, m, a, w, Q, hx, h0, h, hq =>
    wp_region_list (xlist_sound hT hct rfl _ hx h0 h fun s' nx' m' a' w' h1 h2 h3 => hq .normal _ _ _ _ _ h1 h2 h3)
  | .region id ops true, iv, s, nx, k, al, m, a, w, Q, hx, h0, h, hq =>
    xdrawn_sound hm hT hct hx h0 h fun s' nx' m' a' w' h1 h2 h3 => hq .normal _ _ _ _ _ h1 h2 h3
  | .seq x y, iv, s, nx, k, al, m, a, w, Q, hx, h0, h, hq => by
    refine wp_seq (xcode_sound hm hT hct x (al := al) hx h0 h fun e s' nx' m' a' w' h1 h2 h3 => ?_)
    cases e with
    | normal =>
      simp only at h2
      show y.wp P Q a' w'
      split at h2
      · exact xcode_sound hm hT hct y (al := al) h2 h1 h3 hq
      · rename_i nx2 ι st ok μ inner hl
        obtain ⟨⟨i, hi, hc⟩, h2⟩ := h2
        obtain ⟨h5, m2, h4⟩ := h3.cover hc
        exact xcode_sound hm hT hct y (al := al) (h2 i hi) h5 h4 hq
    | exit id => exact hq (.exit id) _ _ _ _ _ h1 h2 h3
    | ret => exact hq .ret _ _ _ _ _ h1 h2 h3
  | .cond (.tmp t) x y, iv, s, nx, k, al, m, a, w, Q, hx, h0, h, hq => by
    simp only [xcode] at hx
    split at hx
    · rename_i v hv
      have hb := boolAt_ok h hv
      obtain ⟨g1, g2⟩ := gcase_elim hx
      refine wp_cond_split (t := v) hb (fun e => ?_) (fun e => ?_)
      · exact xcode_sound hm hT hct x (al := al) (g1 e) h0 (h.know (by rw [hb, e])) hq
      · exact xcode_sound hm hT hct y (al := al) (g2 e) h0 (h.know (by rw [hb, e])) hq
    · exact hx.elim
  | .block id c, iv, s, nx, k, al, m, a, w, Q, hx, h0, h, hq => by
    refine wp_block (xcode_sound hm hT hct c (al := al) hx h0 h fun e s' nx' m' a' w' h1 h2 h3 => ?_)
    cases e with
    | normal => exact hq .normal _ _ _ _ _ h1 h2 h3
    | ret => exact hq .ret _ _ _ _ _ h1 h2 h3
    | exit j =>
      simp only at h2
      simp only [XE.out, Exit.inBlock]
      split at h2
      · rename_i e
        rw [if_pos (Nat.eq_of_beq_eq_true e)]
        exact hq .normal _ _ _ _ _ h1 h2 h3
      · rename_i e
        rw [if_neg (fun e' => by subst e'; simp at e)]
        exact hq (.exit j) _ _ _ _ _ h1 h2 h3
  | .loop c, iv, s, nx, k, al, m, a, w, Q, hx, h0, h, hq => by
    simp only [xcode] at hx
    split at hx
    · rename_i nx2 ι st ok μ inner hl
      obtain ⟨⟨i, hi, hc⟩, hround⟩ := hx
      obtain ⟨h5, m2, h4⟩ := h.cover hc
      refine wp_loop_ghost (fun N a w => ∃ i m, ok i ∧ μ i = N ∧ R Γ X.n w0 (alN nx2) (st i) m a w) (μ i) ⟨i, m2, hi, rfl, h4⟩ ?_
      rintro N a w ⟨i, m, hi, rfl, h⟩
      refine xcode_sound hm hT hct c (al := al) (hround i hi) h5 h fun e s' nx' m' a' w' h1 h2 h3 => ?_
      cases e with
      | normal =>
        obtain ⟨j, hj, hlt, hc⟩ := h2
        obtain ⟨-, m2, h4⟩ := h3.cover hc
        exact ⟨μ j, hlt, j, m2, hj, rfl, h4⟩
      | exit id => exact hq (.exit id) _ _ _ _ _ h1 h2 h3
      | ret => exact hq .ret _ _ _ _ _ h1 h2 h3
    · exact hx.elim
  | .exit id, iv, s, nx, k, al, m, a, w, Q, hx, h0, h, hq => wp_exit (hq (.exit id) _ _ _ _ _ h0 hx h)
  | .ret, iv, s, nx, k, al, m, a, w, Q, hx, h0, h, hq => wp_ret (hq .ret _ _ _ _ _ h0 hx h)
  | .cond (.const _) _ _, _, _, _, _, _, _, _, _, _, hx, _, _, _ => hx.elim
  | .cond (.global _) _ _, _, _, _, _, _, _, _, _, _, hx, _, _, _ => hx.elim
  | .cond (.func _) _ _, _, _, _, _, _, _, _, _, _, hx, _, _, _ => hx.elim
  | .rangeFunc _ _ _ _, _, _, _, _, _, _, _, _, _, hx, _, _, _ => hx.elim
  | .scope _, _, _, _, _, _, _, _, _, _, hx, _, _, _ => hx.elim
  | .label _, _, _, _, _, _, _, _, _, _, hx, _, _, _ => hx.elim
  | .goto _, _, _, _, _, _, _, _, _, _, hx, _, _, _ => hx.elim
  | .refuse _, _, _, _, _, _, _, _, _, _, hx, _, _, _ => hx.elim
end
end Go.Proofs.Ytemgpfojmdncjaa
