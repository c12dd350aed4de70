/-
  Data of whatever shape: how they read in memory, which blocks they own, how they are marked. Over any program.
-/
import Derived.Test.YtemgpfojmdncjaaOwn
namespace Go.Proofs.Ytemgpfojmdncjaa
set_option linter.unusedVariables false
set_option linter.unusedSimpArgs false
open Go.RowKit

/-- Of the blocks that were there only those in S may have turned. -/
structure OnlyIn (S : Nat → Prop) (w w' : World) : Prop where
  os : w'.os = w.os
  tape : w'.tape = w.tape
  output : w'.output = w.output
  size : w.heap.size ≤ w'.heap.size
  block : ∀ k, k < w.heap.size → ¬ S k → w'.heap[k]? = w.heap[k]?

theorem OnlyIn.refl (S : Nat → Prop) (w : World) : OnlyIn S w w := ⟨rfl, rfl, rfl, Nat.le_refl _, fun _ _ _ => rfl⟩
theorem OnlyIn.trans {S : Nat → Prop} {a b c : World} (h : OnlyIn S a b) (k : OnlyIn S b c) : OnlyIn S a c :=
  ⟨k.os.trans h.os, k.tape.trans h.tape, k.output.trans h.output, Nat.le_trans h.size k.size, fun i hi hS => (k.block i (Nat.lt_of_lt_of_le hi h.size) hS).trans (h.block i hi hS)⟩
theorem OnlyIn.mono {S T : Nat → Prop} {w w' : World} (h : OnlyIn S w w') (hST : ∀ k, S k → T k) : OnlyIn T w w' :=
  ⟨h.os, h.tape, h.output, h.size, fun k hk hT => h.block k hk (fun hS => hT (hST k hS))⟩
theorem OnlyIn.below {S : Nat → Prop} {w w' : World} {B : Nat} (h : OnlyIn S w w') (hS : ∀ k, S k → B ≤ k) (hB : B ≤ w.heap.size) : Below B w w' :=
  ⟨h.os, h.tape, h.output, h.size, fun k hk => h.block k (by omega) (fun hs => by have := hS k hs; omega)⟩
theorem OnlyIn.of_below {S : Nat → Prop} {w w' : World} (h : Below w.heap.size w w') : OnlyIn S w w' :=
  ⟨h.os, h.tape, h.output, h.size, fun k hk _ => h.block k hk⟩
theorem OnlyIn.of_grown {S : Nat → Prop} {w w' : World} {row : Option Nat} (h : w.grownBy w' row) (hr : ∀ k, row = some k → S k) : OnlyIn S w w' :=
  ⟨h.os, h.tape, h.output, h.size, fun k hk hS => h.block k hk (fun e => hS (hr k e.symm))⟩
theorem OnlyIn.setCell {S : Nat → Prop} {a w : World} (h : OnlyIn S a w) {p : Addr} (hp : S p.block) (u : Value) : OnlyIn S a (w.setCell p u) :=
  h.trans ⟨rfl, rfl, rfl, by simp [World.setCell], fun k _ hk => Below.heap_setCell _ _ _ _ (fun e => hk (e ▸ hp))⟩
theorem OnlyIn.alloc {S : Nat → Prop} {a w : World} (h : OnlyIn S a w) (o : Obj) : OnlyIn S a (w.alloc o) :=
  h.trans ⟨rfl, rfl, rfl, by simp, fun k hk _ => Below.heap_alloc _ _ _ hk⟩

theorem owns_only {S : Nat → Prop} {w w' : World} {base : Nat} {e : TypeId} {size : Nat} {v : Value} {n : Nat} {xs : List Value} (h : w.ownsRow base e size v n xs) (ho : OnlyIn S w w') (hS : ∀ k, v.ownBlock = some k → ¬ S k) : w'.ownsRow base e size v n xs := by
  obtain ⟨h1, h2⟩ := h
  refine ⟨h1, ?_⟩
  rcases h2 with h2 | ⟨g, cap, cur, hv, hg, hh, r⟩
  · exact .inl h2
  · refine .inr ⟨g, cap, cur, hv, hg, ?_, r⟩
    rw [ho.block g (Array.getElem?_eq_some_iff.1 hh).1 (hS g (by rw [hv]; rfl))]; exact hh

/-- The shape of a datum: a slice bears its element's type and the shapes of the element's cells. -/
inductive Ty where
  | int | bool | str
  | sl (e : Nat) (fs : List Ty)

/-- A datum; a slice is told by its rows. -/
inductive Dat where
  | int (n : Int)
  | bool (b : Bool)
  | str (s : ByteArray)
  | sl (rows : List (List Dat))

mutual
/-- The value reads as the datum. -/
def Rd (w : World) : Ty → Dat → Value → Prop
  | .int, .int n, v => v = .int .i64 n
  | .bool, .bool b, v => v = .bool b
  | .str, .str s, v => v = .string s
  | .sl _ ts, .sl ls, v => ∃ rows : List (List Value), SlAt ts.length w v rows ∧ rows.length = ls.length ∧ ∀ k, k < ls.length → RdRow w ts (ls.getD k []) (rows.getD k [])
  | _, _, _ => False
def RdRow (w : World) : List Ty → List Dat → List Value → Prop
  | [], [], [] => True
  | t :: ts, d :: ds, v :: vs => Rd w t d v ∧ RdRow w ts ds vs
  | _, _, _ => False
end

mutual
/-- The value reads as the datum, in memory that nobody else holds: the blocks bs. -/
def Fp (w : World) : Ty → Dat → Value → List Nat → Prop
  | .int, .int n, v, bs => v = .int .i64 n ∧ bs = []
  | .bool, .bool b, v, bs => v = .bool b ∧ bs = []
  | .str, .str s, v, bs => v = .string s ∧ bs = []
  | .sl e ts, .sl ls, v, bs => ∃ (rows : List (List Value)) (bss : List (List Nat)), w.ownsRow 0 e ts.length v rows.length rows.flatten ∧ rows.length = ls.length ∧ bss.length = ls.length ∧ (∀ r ∈ rows, r.length = ts.length) ∧
      (∀ k, k < ls.length → FpRow w ts (ls.getD k []) (rows.getD k []) (bss.getD k [])) ∧ bs = v.ownBlock.toList ++ bss.flatten
  | _, _, _, _ => False
def FpRow (w : World) : List Ty → List Dat → List Value → List Nat → Prop
  | [], [], [], bs => bs = []
  | t :: ts, d :: ds, v :: vs, bs => ∃ b1 b2, bs = b1 ++ b2 ∧ Fp w t d v b1 ∧ FpRow w ts ds vs b2
  | _, _, _, _ => False
end

mutual
theorem Rd.below {w w' : World} (hb : Below w.heap.size w w') : ∀ (t : Ty) (d : Dat) (v : Value), Rd w t d v → Rd w' t d v
  | .int, d, v => fun h => by cases d <;> simp only [Rd] at h ⊢ <;> exact h
  | .bool, d, v => fun h => by cases d <;> simp only [Rd] at h ⊢ <;> exact h
  | .str, d, v => fun h => by cases d <;> simp only [Rd] at h ⊢ <;> exact h
  | .sl e ts, d, v => fun h => by
    cases d with
    | sl ls =>
      simp only [Rd] at h ⊢
      obtain ⟨rows, h1, h2, h3⟩ := h
      exact ⟨rows, h1.below hb, h2, fun k hk => RdRow.below hb ts _ _ (h3 k hk)⟩
    | _ => simp [Rd] at h
theorem RdRow.below {w w' : World} (hb : Below w.heap.size w w') : ∀ (ts : List Ty) (ds : List Dat) (vs : List Value), RdRow w ts ds vs → RdRow w' ts ds vs
  | [], ds, vs => fun h => by cases ds <;> cases vs <;> simp [RdRow] at h ⊢
  | t :: ts, [], vs => fun h => by simp [RdRow] at h
  | t :: ts, d :: ds, [] => fun h => by simp [RdRow] at h
  | t :: ts, d :: ds, v :: vs => fun h => by
    simp only [RdRow] at h ⊢
    exact ⟨Rd.below hb t d v h.1, RdRow.below hb ts ds vs h.2⟩
end

theorem RdRow.lens {w : World} : ∀ (ts : List Ty) (ds : List Dat) (vs : List Value), RdRow w ts ds vs → ds.length = ts.length ∧ vs.length = ts.length
  | [], ds, vs => fun h => by cases ds <;> cases vs <;> simp [RdRow] at h ⊢
  | t :: ts, [], vs => fun h => by simp [RdRow] at h
  | t :: ts, d :: ds, [] => fun h => by simp [RdRow] at h
  | t :: ts, d :: ds, v :: vs => fun h => by
    simp only [RdRow] at h
    have := RdRow.lens ts ds vs h.2
    simp [this]

theorem Rd.one {w : World} {t : Ty} {d : Dat} {v : Value} (h : Rd w t d v) : v.oneCell' = true := by
  cases t <;> cases d <;> simp only [Rd] at h
  · subst h; rfl
  · subst h; rfl
  · subst h; rfl
  · obtain ⟨rows, ⟨a, cap, rfl, _⟩, _⟩ := h; rfl

theorem RdRow.one {w : World} : ∀ (ts : List Ty) (ds : List Dat) (vs : List Value), RdRow w ts ds vs → ∀ v ∈ vs, v.oneCell' = true
  | [], ds, vs => fun h => by cases ds <;> cases vs <;> simp [RdRow] at h ⊢
  | t :: ts, [], vs => fun h => by simp [RdRow] at h
  | t :: ts, d :: ds, [] => fun h => by simp [RdRow] at h
  | t :: ts, d :: ds, v :: vs => fun h => by
    simp only [RdRow] at h
    intro x hx
    rcases List.mem_cons.1 hx with rfl | hx
    · exact h.1.one
    · exact RdRow.one ts ds vs h.2 x hx

mutual
theorem Fp.rd {w : World} : ∀ (t : Ty) (d : Dat) (v : Value) (bs : List Nat), Fp w t d v bs → Rd w t d v
  | .int, d, v, bs => fun h => by cases d <;> simp only [Fp, Rd] at h ⊢ <;> exact h.1
  | .bool, d, v, bs => fun h => by cases d <;> simp only [Fp, Rd] at h ⊢ <;> exact h.1
  | .str, d, v, bs => fun h => by cases d <;> simp only [Fp, Rd] at h ⊢ <;> exact h.1
  | .sl e ts, d, v, bs => fun h => by
    cases d with
    | sl ls =>
      simp only [Fp, Rd] at h ⊢
      obtain ⟨rows, bss, h1, h2, h3, h4, h5, _⟩ := h
      exact ⟨rows, owns_SlAt h1 h4, h2, fun k hk => FpRow.rd ts _ _ _ (h5 k hk)⟩
    | _ => simp [Fp] at h
theorem FpRow.rd {w : World} : ∀ (ts : List Ty) (ds : List Dat) (vs : List Value) (bs : List Nat), FpRow w ts ds vs bs → RdRow w ts ds vs
  | [], ds, vs, bs => fun h => by cases ds <;> cases vs <;> simp [FpRow, RdRow] at h ⊢
  | t :: ts, [], vs, bs => fun h => by simp [FpRow] at h
  | t :: ts, d :: ds, [], bs => fun h => by simp [FpRow] at h
  | t :: ts, d :: ds, v :: vs, bs => fun h => by
    simp only [FpRow, RdRow] at h ⊢
    obtain ⟨b1, b2, _, h1, h2⟩ := h
    exact ⟨Fp.rd t d v b1 h1, FpRow.rd ts ds vs b2 h2⟩
end

theorem mem_flatten_getD {bss : List (List Nat)} {b : Nat} (h : b ∈ bss.flatten) : ∃ k, k < bss.length ∧ b ∈ bss.getD k [] := by
  obtain ⟨l, hl, hb⟩ := List.mem_flatten.1 h
  obtain ⟨k, hk, rfl⟩ := List.mem_iff_getElem.1 hl
  exact ⟨k, hk, by simpa [List.getD, hk] using hb⟩
theorem getD_mem_flatten {bss : List (List Nat)} {b k : Nat} (h : b ∈ bss.getD k []) : b ∈ bss.flatten := by
  by_cases hk : k < bss.length
  · exact List.mem_flatten.2 ⟨bss[k], List.getElem_mem hk, by simpa [List.getD, hk] using h⟩
  · simp [List.getD, show bss[k]? = none from List.getElem?_eq_none (by omega)] at h

mutual
theorem Fp.lt {w : World} : ∀ (t : Ty) (d : Dat) (v : Value) (bs : List Nat), Fp w t d v bs → ∀ b ∈ bs, b < w.heap.size
  | .int, d, v, bs => fun h => by cases d <;> simp only [Fp] at h <;> simp [h.2]
  | .bool, d, v, bs => fun h => by cases d <;> simp only [Fp] at h <;> simp [h.2]
  | .str, d, v, bs => fun h => by cases d <;> simp only [Fp] at h <;> simp [h.2]
  | .sl e ts, d, v, bs => fun h => by
    cases d with
    | sl ls =>
      simp only [Fp] at h
      obtain ⟨rows, bss, h1, h2, h3, h4, h5, rfl⟩ := h
      intro b hb
      rcases List.mem_append.1 hb with hb | hb
      · exact (World.ownsRow.lt h1 b (by simpa using hb)).2
      · obtain ⟨k, hk, hb⟩ := mem_flatten_getD hb
        exact FpRow.lt ts _ _ _ (h5 k (by omega)) b hb
    | _ => simp [Fp] at h
theorem FpRow.lt {w : World} : ∀ (ts : List Ty) (ds : List Dat) (vs : List Value) (bs : List Nat), FpRow w ts ds vs bs → ∀ b ∈ bs, b < w.heap.size
  | [], ds, vs, bs => fun h => by cases ds <;> cases vs <;> simp [FpRow] at h ⊢; simp [h]
  | t :: ts, [], vs, bs => fun h => by simp [FpRow] at h
  | t :: ts, d :: ds, [], bs => fun h => by simp [FpRow] at h
  | t :: ts, d :: ds, v :: vs, bs => fun h => by
    simp only [FpRow] at h
    obtain ⟨b1, b2, rfl, h1, h2⟩ := h
    intro b hb
    rcases List.mem_append.1 hb with hb | hb
    · exact Fp.lt t d v b1 h1 b hb
    · exact FpRow.lt ts ds vs b2 h2 b hb
end

mutual
theorem Fp.only {S : Nat → Prop} {w w' : World} (ho : OnlyIn S w w') : ∀ (t : Ty) (d : Dat) (v : Value) (bs : List Nat), Fp w t d v bs → (∀ b ∈ bs, ¬ S b) → Fp w' t d v bs
  | .int, d, v, bs => fun h _ => by cases d <;> simp only [Fp] at h ⊢ <;> exact h
  | .bool, d, v, bs => fun h _ => by cases d <;> simp only [Fp] at h ⊢ <;> exact h
  | .str, d, v, bs => fun h _ => by cases d <;> simp only [Fp] at h ⊢ <;> exact h
  | .sl e ts, d, v, bs => fun h hS => by
    cases d with
    | sl ls =>
      simp only [Fp] at h ⊢
      obtain ⟨rows, bss, h1, h2, h3, h4, h5, rfl⟩ := h
      exact ⟨rows, bss, owns_only h1 ho (fun k hk => hS k (by simp [hk])), h2, h3, h4, fun k hk => FpRow.only ho ts _ _ _ (h5 k hk) (fun b hb => hS b (List.mem_append.2 (.inr (getD_mem_flatten hb)))), rfl⟩
    | _ => simp [Fp] at h
theorem FpRow.only {S : Nat → Prop} {w w' : World} (ho : OnlyIn S w w') : ∀ (ts : List Ty) (ds : List Dat) (vs : List Value) (bs : List Nat), FpRow w ts ds vs bs → (∀ b ∈ bs, ¬ S b) → FpRow w' ts ds vs bs
  | [], ds, vs, bs => fun h _ => by cases ds <;> cases vs <;> simp [FpRow] at h ⊢; exact h
  | t :: ts, [], vs, bs => fun h _ => by simp [FpRow] at h
  | t :: ts, d :: ds, [], bs => fun h _ => by simp [FpRow] at h
  | t :: ts, d :: ds, v :: vs, bs => fun h hS => by
    simp only [FpRow] at h ⊢
    obtain ⟨b1, b2, rfl, h1, h2⟩ := h
    exact ⟨b1, b2, rfl, Fp.only ho t d v b1 h1 (fun b hb => hS b (List.mem_append.2 (.inl hb))), FpRow.only ho ts ds vs b2 h2 (fun b hb => hS b (List.mem_append.2 (.inr hb)))⟩
end
theorem Fp.below {w w' : World} (hb : Below w.heap.size w w') {t : Ty} {d : Dat} {v : Value} {bs : List Nat} (h : Fp w t d v bs) : Fp w' t d v bs :=
  Fp.only (S := fun _ => False) (OnlyIn.of_below hb) t d v bs h (fun _ _ h => h)
theorem FpRow.below {w w' : World} (hb : Below w.heap.size w w') {ts : List Ty} {ds : List Dat} {vs : List Value} {bs : List Nat} (h : FpRow w ts ds vs bs) : FpRow w' ts ds vs bs :=
  FpRow.only (S := fun _ => False) (OnlyIn.of_below hb) ts ds vs bs h (fun _ _ h => h)

/-- Memory of its own, each block from lo on and below hi, no block twice. -/
def Own (w : World) (lo hi : Nat) (ts : List Ty) (ds : List Dat) (vs : List Value) : Prop := ∃ bs, FpRow w ts ds vs bs ∧ bs.Nodup ∧ ∀ b ∈ bs, lo ≤ b ∧ b < hi
theorem Own.rd {w : World} {lo hi : Nat} {ts : List Ty} {ds : List Dat} {vs : List Value} (h : Own w lo hi ts ds vs) : RdRow w ts ds vs := by
  obtain ⟨bs, h1, _⟩ := h; exact FpRow.rd _ _ _ _ h1
theorem Own.only {S : Nat → Prop} {w w' : World} {lo hi : Nat} {ts : List Ty} {ds : List Dat} {vs : List Value} (h : Own w lo hi ts ds vs) (ho : OnlyIn S w w') (hS : ∀ k, S k → k < lo ∨ hi ≤ k) : Own w' lo hi ts ds vs := by
  obtain ⟨bs, h1, h2, h3⟩ := h
  exact ⟨bs, FpRow.only ho _ _ _ _ h1 (fun b hb hs => by have := h3 b hb; have := hS b hs; omega), h2, h3⟩
theorem Own.below {w w' : World} {lo hi : Nat} {ts : List Ty} {ds : List Dat} {vs : List Value} (h : Own w lo hi ts ds vs) (hb : Below w.heap.size w w') : Own w' lo hi ts ds vs :=
  h.only (S := fun _ => False) (OnlyIn.of_below hb) (fun _ h => h.elim)
theorem Own.mono {w : World} {lo hi lo' hi' : Nat} {ts : List Ty} {ds : List Dat} {vs : List Value} (h : Own w lo hi ts ds vs) (h1 : lo' ≤ lo) (h2 : hi ≤ hi') : Own w lo' hi' ts ds vs := by
  obtain ⟨bs, p1, p2, p3⟩ := h
  exact ⟨bs, p1, p2, fun b hb => by have := p3 b hb; omega⟩
theorem Own.nil (w : World) (lo hi : Nat) : Own w lo hi [] [] [] := ⟨[], rfl, List.nodup_nil, by simp⟩

theorem FpRow.append {w : World} : ∀ (ts : List Ty) {ts' : List Ty} (ds : List Dat) {ds' : List Dat} (vs : List Value) {vs' : List Value} (bs : List Nat) {bs' : List Nat}, FpRow w ts ds vs bs → FpRow w ts' ds' vs' bs' → FpRow w (ts ++ ts') (ds ++ ds') (vs ++ vs') (bs ++ bs')
  | [], ts', ds, ds', vs, vs', bs, bs' => fun h h' => by
    cases ds <;> cases vs <;> simp [FpRow] at h ⊢
    subst h; simpa using h'
  | t :: ts, ts', [], ds', vs, vs', bs, bs' => fun h => by simp [FpRow] at h
  | t :: ts, ts', d :: ds, ds', [], vs', bs, bs' => fun h => by simp [FpRow] at h
  | t :: ts, ts', d :: ds, ds', v :: vs, vs', bs, bs' => fun h h' => by
    simp only [FpRow, List.cons_append] at h ⊢
    obtain ⟨b1, b2, rfl, h1, h2⟩ := h
    exact ⟨b1, b2 ++ bs', by simp, h1, FpRow.append ts ds vs b2 h2 h'⟩

/-- Two data side by side: the second's blocks behind the first's. -/
theorem Own.append {w : World} {lo mid hi : Nat} {ts ts' : List Ty} {ds ds' : List Dat} {vs vs' : List Value} (h : Own w lo mid ts ds vs) (h' : Own w mid hi ts' ds' vs') (h1 : lo ≤ mid) (h2 : mid ≤ hi) : Own w lo hi (ts ++ ts') (ds ++ ds') (vs ++ vs') := by
  obtain ⟨bs, p1, p2, p3⟩ := h
  obtain ⟨bs', q1, q2, q3⟩ := h'
  refine ⟨bs ++ bs', FpRow.append ts ds vs bs p1 q1, List.nodup_append.2 ⟨p2, q2, fun a ha b hb e => by have := p3 a ha; have := q3 b hb; omega⟩, fun b hb => ?_⟩
  rcases List.mem_append.1 hb with hb | hb
  · have := p3 b hb; omega
  · have := q3 b hb; omega

mutual
/-- How many numbers the marks of a datum that lies in memory take. -/
def Dat.cnt : Dat → Nat
  | .int _ => 1
  | .bool _ => 1
  | .str _ => 1
  | .sl ls => cntRows ls
def cntRow : List Dat → Nat
  | [] => 0
  | d :: ds => d.cnt + cntRow ds
def cntRows : List (List Dat) → Nat
  | [] => 0
  | r :: rs => cntRow r + cntRows rs
end

mutual
/-- A datum in memory, marked from k on. -/
def Dat.mk' : Int → Dat → Dat
  | k, .int _ => .int k
  | k, .bool _ => .bool (k % 3 == 0)
  | _, .str s => .str s
  | k, .sl ls => .sl (mkRows k ls)
def mkRow : Int → List Dat → List Dat
  | _, [] => []
  | k, d :: ds => d.mk' k :: mkRow (k + d.cnt) ds
def mkRows : Int → List (List Dat) → List (List Dat)
  | _, [] => []
  | k, r :: rs => mkRow k r :: mkRows (k + cntRow r) rs
end

/-- The same of a datum that is handed over by value: only what it leads to. -/
def Dat.cntV : Dat → Nat
  | .sl ls => cntRows ls
  | _ => 0
def Dat.mkV (k : Int) : Dat → Dat
  | .sl ls => .sl (mkRows k ls)
  | d => d
def cntV : List Dat → Nat
  | [] => 0
  | d :: ds => d.cntV + cntV ds
def mkV : Int → List Dat → List Dat
  | _, [] => []
  | k, d :: ds => d.mkV k :: mkV (k + d.cntV) ds

mutual
/-- The size that the laws count. -/
def Dat.sz : Dat → Nat
  | .sl ls => ls.length + szRows ls
  | .str s => s.size
  | _ => 0
def szRow : List Dat → Nat
  | [] => 0
  | d :: ds => d.sz + szRow ds
def szRows : List (List Dat) → Nat
  | [] => 0
  | r :: rs => szRow r + szRows rs
end

theorem szRows_append (a b : List (List Dat)) : szRows (a ++ b) = szRows a + szRows b := by
  induction a with
  | nil => simp [szRows]
  | cons x r ih => simp [szRows, ih]; omega
theorem cntRows_append (a b : List (List Dat)) : cntRows (a ++ b) = cntRows a + cntRows b := by
  induction a with
  | nil => simp [cntRows]
  | cons x r ih => simp [cntRows, ih]; omega
theorem mkRows_append (k : Int) (a b : List (List Dat)) : mkRows k (a ++ b) = mkRows k a ++ mkRows (k + cntRows a) b := by
  induction a generalizing k with
  | nil => simp [mkRows, cntRows]
  | cons x r ih => simp [mkRows, cntRows, ih, Int.add_assoc]
theorem mkRows_length (k : Int) (a : List (List Dat)) : (mkRows k a).length = a.length := by
  induction a generalizing k with
  | nil => simp [mkRows]
  | cons x r ih => simp [mkRows, ih]
theorem szRows_getD {a : List (List Dat)} {k : Nat} (hk : k < a.length) : szRow (a.getD k []) ≤ szRows a := by
  induction a generalizing k with
  | nil => simp at hk
  | cons x r ih =>
    cases k with
    | zero => simp [szRows]
    | succ k => have := ih (k := k) (by simpa using hk); simp [szRows] at this ⊢; omega
theorem take_snoc' {α : Type} (l : List α) (d : α) (k : Nat) (hk : k < l.length) : l.take (k + 1) = l.take k ++ [l.getD k d] := by
  rw [List.take_succ_eq_append_getElem hk]; simp [List.getD, hk]
theorem szRows_take (a : List (List Dat)) (k : Nat) (hk : k < a.length) : szRows (a.take (k + 1)) = szRows (a.take k) + szRow (a.getD k []) := by
  rw [take_snoc' a [] k hk, szRows_append]; simp [szRows]
theorem cntRows_take (a : List (List Dat)) (k : Nat) (hk : k < a.length) : cntRows (a.take (k + 1)) = cntRows (a.take k) + cntRow (a.getD k []) := by
  rw [take_snoc' a [] k hk, cntRows_append]; simp [cntRows]
theorem szRows_take_le (a : List (List Dat)) (k : Nat) : szRows (a.take k) ≤ szRows a := by
  have := szRows_append (a.take k) (a.drop k)
  rw [List.take_append_drop] at this; omega
theorem cntRows_take_le (a : List (List Dat)) (k : Nat) : cntRows (a.take k) ≤ cntRows a := by
  have := cntRows_append (a.take k) (a.drop k)
  rw [List.take_append_drop] at this; omega

/-- A list whose first j rows are marked. -/
def marked (k : Int) (j : Nat) (a : List (List Dat)) : List (List Dat) := mkRows k (a.take j) ++ a.drop j
theorem marked_zero (k : Int) (a : List (List Dat)) : marked k 0 a = a := by simp [marked, mkRows]
theorem marked_all (k : Int) (a : List (List Dat)) : marked k a.length a = mkRows k a := by simp [marked]
theorem marked_length (k : Int) (j : Nat) (a : List (List Dat)) : (marked k j a).length = a.length := by
  simp [marked, mkRows_length]; omega
theorem marked_getD (k : Int) (j : Nat) (a : List (List Dat)) (hj : j < a.length) : (marked k j a).getD j [] = a.getD j [] := by
  simp [marked, List.getD, List.getElem?_append_right, mkRows_length, Nat.min_eq_left (Nat.le_of_lt hj)]
theorem marked_succ (k : Int) (j : Nat) (a : List (List Dat)) (hj : j < a.length) : marked k (j + 1) a = (marked k j a).set j (mkRow (k + cntRows (a.take j)) (a.getD j [])) := by
  unfold marked
  rw [take_snoc' a [] j hj, mkRows_append, List.set_append_right _ _ (by simp [mkRows_length]; omega)]
  simp only [mkRows_length, List.length_take, Nat.min_eq_left (Nat.le_of_lt hj), Nat.sub_self, List.append_assoc]
  congr 1
  have : a.drop j = a.getD j [] :: a.drop (j + 1) := by
    rw [List.drop_eq_getElem_cons hj]; simp [List.getD, hj]
  rw [this]
  simp [mkRows]

/-- An answer of a size's count: too great, or what is left. -/
def szOk (size : Nat) (left r : Int) : Prop := r = -1 ∨ (0 ≤ r ∧ r + size = left)

end Go.Proofs.Ytemgpfojmdncjaa
