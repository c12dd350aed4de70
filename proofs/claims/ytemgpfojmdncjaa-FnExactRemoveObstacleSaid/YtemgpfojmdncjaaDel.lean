/-
  Contracts of the library's Clone and Delete at lists of lists of vectors.
-/
import Derived.Test.YtemgpfojmdncjaaCopyD
import Derived.Deep.RegionLaw
import Derived.Lib.SliceRun
namespace Go.Proofs.Ytemgpfojmdncjaa
open Go.RowKit

theorem setCells_only (g : Nat) : ∀ (cs : List Value) (w : World) (o : Nat), OnlyIn (fun b => b = g) w (w.setCells g o cs)
  | [], _, _ => OnlyIn.refl _ _
  | c :: cs, w, o => (OnlyIn.setCell (S := fun b => b = g) (OnlyIn.refl _ w) (p := ⟨g, o, none⟩) rfl c).trans (setCells_only g cs _ _)
/-- What a clone of a list of lists leaves: the headers in memory of the call's own. -/
def ClonedSS (w : World) (l : List (List V2)) (e : Ending) (w' : World) : Prop := ∃ (v' : Value) (vs : List Value), e = .returned v' ∧ w'.ownsRow w.heap.size 36 1 v' vs.length vs ∧ vs.length = l.length ∧ (∀ x ∈ vs, x.oneCell' = true) ∧ (∀ k, k < l.length → VecsAt w (vs.getD k undef) (l.getD k [])) ∧ Below w.heap.size w w'

set_option maxRecDepth 100000 in
set_option maxHeartbeats 1000000 in
theorem CloneSS_c (l : List (List V2)) (hlen : l.length ≤ 1048576) (v : Value) (w : World) (hv : VecSSAt w v l) :
    Calls Try.prog 82 #[v] w (ClonedSS w l) := by
  obtain ⟨vs, hs, hvl, hvs⟩ := hv
  have hone : ∀ x ∈ vs, x.oneCell' = true := fun x hx => by
    obtain ⟨k, hk, rfl⟩ := List.mem_iff_getElem.1 hx
    obtain ⟨a, c, e, _⟩ := hvs k (by omega)
    have e0 : vs.getD k undef = vs[k] := by simp [List.getD, hk]
    rw [e0] at e
    rw [e]; rfl
  have hnil : ∀ c, v = .slice none vs.length c → vs = [] := fun c hc => by
    obtain ⟨a, cap, h1, _, _, _, h5⟩ := hs
    rw [h1] at hc
    simp at hc
    rcases h5 with ⟨h5, _⟩ | ⟨b, off, h5, _⟩
    · simpa using h5
    · rw [hc.1] at h5; simp at h5
  have HS := Lib.hid (hs.below (w' := w.alloc (.cells #[] 36)) ((Below.refl _ _).alloc (Nat.le_refl _) _))
  obtain ⟨a, cap, rfl, hl, hc, _⟩ := hs
  simp only [List.length_map] at hl hnil HS ⊢
  have HV := Lib.hid (And.intro hone (And.intro hvl hvs))
  have hvl' : vs.length ≤ 1048576 := by omega
  clear hone hvl hvs
  have hsn := fun (w : World) (a : Option Addr) (n c n' c' : Nat) => Lib.run_eql_slice_nil (P := Try.prog) w 37 36 a n c n' c' Try.underlying37
  cases a with
  | none =>
    obtain rfl : vs = [] := hnil cap rfl
    clear hnil
    go_enter Try.func82, Try.ntmps82
    go_wp2
    go_ret
    exact ⟨_, [], rfl, World.ownsRow_nil _ _ _ _, HV.out.2.1, by simp, HV.out.2.2, Below.refl _ _⟩
  | some ad =>
    clear hnil
    have HO := Lib.hid (owns_empty w w.heap.size 36 1 (Nat.le_refl _))
    go_enter Try.func82, Try.ntmps82
    go_wp2_with (at_builtin; refine wp_appAll elemAreas rfl _ _ rfl w.heap.size _ 0 [] rfl HO.out _ (vs.map fun x => [x]) rfl HS.out ?c0 ?c1 (by decide) ?c2 ?_; rotate_left 3; intro v1 w3 hown3 hg3)
    case c0 =>
      intro r hr q hq
      simp at hr
      obtain ⟨x, hx, rfl⟩ := hr
      simp at hq
      subst hq
      exact HV.out.1 q hx
    case c1 => simp; omega
    case c2 => simp
    have hfl : (vs.map fun x => [x]).flatten = vs := by
      generalize vs = l
      induction l with
      | nil => rfl
      | cons x r ih => simp [ih]
    have HO3 := Lib.hid hown3
    have HF := Lib.hid hfl
    have HB3 := Lib.hid (below_own ((Below.refl w.heap.size w).alloc (Nat.le_refl _) _) HO.out hg3 (by simp) (Nat.le_refl _))
    clear hown3 hg3 hfl
    go_wp2
    go_ret
    refine ⟨_, vs, rfl, ?_, HV.out.2.1, HV.out.1, HV.out.2.2, HB3.out⟩
    have h := HO3.out
    rw [HF.out] at h
    simpa using h

set_option maxRecDepth 100000 in
set_option maxHeartbeats 2000000 in
theorem DeleteSS_c (vs : List Value) (g cap k base : Nat) (hk : k < vs.length) (hone : ∀ x ∈ vs, x.oneCell' = true) (w : World) (hown : w.ownsRow base 36 1 (.slice (some ⟨g, 0, none⟩) vs.length cap) vs.length vs) :
    Calls Try.prog 81 #[.slice (some ⟨g, 0, none⟩) vs.length cap, .int .i64 k, .int .i64 ((k : Int) + 1)] w fun e w' => e = .returned (.slice (some ⟨g, 0, none⟩) (k + (vs.length - (k + 1))) cap) ∧ (∀ j, j < vs.length - 1 → w'.cell? ⟨g, j, none⟩ = (vs.eraseIdx k)[j]?) ∧ OnlyIn (fun b => b = g) w w' := by
  have hcap : vs.length ≤ cap ∧ cap ≤ 9223372036854775807 := by
    rcases hown.2 with ⟨h, _⟩ | ⟨g', c', cur, h, _, _, h2, h3, _⟩
    · simp at h
    · simp at h; unfold maxLen at h3; omega
  obtain ⟨hc1, hc2⟩ := hcap
  have hcell : ∀ j, j < vs.length → w.cell? ⟨g, j, none⟩ = vs[j]? := fun j hj => hown.cellAt j (by omega)
  have hfz : ∀ j, w.frozen? ⟨g, j, none⟩ = false := fun j => hown.frozenAt j
  obtain ⟨i0, z0, hi0, hz0, hz1, hz2, hz3⟩ := elemAreas.info
  obtain ⟨A, hA, hnews⟩ : ∃ A : Addr, (if cap = k + 1 then some (⟨g, 0, none⟩ : Addr) else some ⟨g, k + 1, none⟩) = some A ∧ Hid (∀ j u, (vs.drop (k + 1))[j]? = some u → w.drew.cell? (A.add j) = some u) := by
    by_cases h : cap = k + 1
    · refine ⟨⟨g, 0, none⟩, by simp [h], fun j u hu => ?_⟩
      rw [List.drop_of_length_le (by omega)] at hu
      simp at hu
    · refine ⟨⟨g, k + 1, none⟩, by simp [h], fun j u hu => ?_⟩
      have hj : k + 1 + j < vs.length := by
        have := (List.getElem?_eq_some_iff.1 hu).1
        simp at this; omega
      rw [Addr.add_lit]
      rw [List.getElem?_drop] at hu
      exact (hcell _ hj).trans hu
  have s1 : Hid ((vs.drop (k + 1)).length = (vs.length - (k + 1)) * 1) := by rw [Nat.mul_one]; exact List.length_drop
  have s2 : Hid (∀ u ∈ vs.drop (k + 1), u.oneCell' = true) := fun u hu => hone u (List.mem_of_mem_drop hu)
  have s3 : Hid (∀ j, j < (vs.drop (k + 1)).length → (w.drew.cell? ⟨g, 0 + k * 1 + j, none⟩).isSome = true ∧ w.drew.frozen? ⟨g, 0 + k * 1 + j, none⟩ = false) := by
    intro j hj
    simp at hj
    refine ⟨?_, hfz _⟩
    show (w.cell? _).isSome = true
    rw [hcell _ (by omega)]
    simp; omega
  have hic : k ≤ cap := by omega
  have hwr : IntKind.i64.wrap ((k : Int) + 1) = (k : Int) + 1 := by rw [IntKind.wrap_i64]; omega
  have hp0 : (0 : Int) ≤ (k : Int) + 1 := by omega
  have hp1 : (k : Int) + 1 ≤ (vs.length : Int) := by omega
  have hp2 : ((k : Int) + 1).toNat = k + 1 := by omega
  have hp3 : ((k : Int) == (k : Int) + 1) = false := by simp; omega
  obtain ⟨W1, hW1⟩ : ∃ W1, w.drew.setCells g k (vs.drop (k + 1)) = W1 := ⟨_, rfl⟩
  have hdl : (vs.drop (k + 1)).length = vs.length - (k + 1) := List.length_drop
  have c1 : ∀ j, j < vs.length → W1.cell? ⟨g, j, none⟩ = if j < k then vs[j]? else if j < vs.length - 1 then vs[j + 1]? else vs[j]? := fun j hj => by
    rw [← hW1]
    by_cases h1 : j < k
    · rw [if_pos h1, World.cell?_setCells_out g _ _ _ _ (fun _ _ => .inl h1)]
      exact hcell j hj
    · rw [if_neg h1]
      by_cases h2 : j < vs.length - 1
      · rw [if_pos h2]
        have := World.cell?_setCells_in g (vs.drop (k + 1)) k w.drew (fun i hi => by
          show (w.cell? _).isSome = true
          rw [hcell _ (by omega)]; simp; omega) (j - k) (by omega)
        rw [show k + (j - k) = j by omega] at this
        rw [this, List.getElem_drop, List.getElem?_eq_getElem (by omega)]
        congr 2; omega
      · rw [if_neg h2, World.cell?_setCells_out g _ _ _ _ (fun _ _ => .inr (by rw [hdl]; show _ ≤ j; omega))]
        exact hcell j hj
  have z1 : W1.frozen? = w.frozen? := by
    funext a
    rw [← hW1, World.frozen?_setCells]; rfl
  have hcl := Lib.run_clear_slice (P := Try.prog) W1 37 36 0 (.slice none 0 0) Try.underlying37 Try.zeroValue36 rfl rfl g (k + (vs.length - (k + 1))) (vs.length - (k + (vs.length - (k + 1)))) (cap - (k + (vs.length - (k + 1)))) (by omega) (fun j hj => by rw [c1 _ (by omega), if_neg (by omega), if_neg (by omega)]; simp; omega) (fun j _ => by rw [z1]; exact hfz _)
  have fin1 : ∀ j, j < vs.length - 1 → (W1.setCells g (k + (vs.length - (k + 1))) (List.replicate (vs.length - (k + (vs.length - (k + 1)))) (.slice none 0 0))).cell? ⟨g, j, none⟩ = (vs.eraseIdx k)[j]? := fun j hj => by
    rw [World.cell?_setCells_out g _ _ _ _ (fun _ _ => .inl (by show j < _; omega)), c1 j (by omega), List.getElem?_eraseIdx]
    by_cases h1 : j < k
    · rw [if_pos h1, if_pos h1]
    · rw [if_neg h1, if_neg h1, if_pos hj]
  have fin2 : OnlyIn (fun b => b = g) w (W1.setCells g (k + (vs.length - (k + 1))) (List.replicate (vs.length - (k + (vs.length - (k + 1)))) (.slice none 0 0))) := by
    refine OnlyIn.trans (b := W1) ?_ (setCells_only g _ _ _)
    rw [← hW1]
    exact OnlyIn.trans (b := w.drew) ⟨rfl, rfl, rfl, Nat.le_refl _, fun _ _ _ => rfl⟩ (setCells_only g _ _ _)
  have FF := Lib.hid (And.intro fin1 fin2)
  have HW := Lib.hid hW1
  have HCL := Lib.hid hcl
  clear hcell hfz hown hone c1 z1 fin1 fin2 hcl hW1
  go_enter Try.func81, Try.ntmps81
  go_wp2_with fail
  go_region_law (refine step_append_room rfl (.tmp 22) (.tmp 25) 37 rfl 36 i0 1 Try.underlying37 hi0 hz1 g 0 k cap (by simp [Act.eval, Act.put]) A (vs.length - (k + 1)) (cap - (k + 1)) (vs.drop (k + 1)) (by simp [Act.eval, Act.put]) s1.out hnews.out s2.out (by omega) s3.out ?_)
  have hcl := HCL.out
  rw [← HW.out] at hcl
  go_wp2
  go_ret
  refine ⟨rfl, ?_⟩
  have h := FF.out
  rw [← HW.out] at h
  exact h
end Go.Proofs.Ytemgpfojmdncjaa
