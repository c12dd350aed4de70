import Derived.Test.YtmekciknfocmmaaGreatDoorScScB
import Derived.RegionTactic
import Derived.BigRegion
import Derived.Deep.RegionHeld3
namespace Go.Proofs.YtmekciknfocmmaaGreatDoor
set_option maxRecDepth 100000
set_option linter.unusedVariables false
set_option linter.unusedSimpArgs false
open Go.RowKit
attribute [local go_sem ↓] Go.wp_at_zero Go.wp_at_succ
theorem Sv (oa:Option Addr) (n cap:Nat) (h1:n<=cap) (h2:cap<=9223372036854775807) (w:World) :
  Calls Tryz.prog 20 #[.slice oa n cap] w λ e w'=>e=.returned (.slice oa n n)/\w'=w:=by
 go_enter Tryz.func20,Tryz.ntmps20
 go_wp2
 exact bodyPost_ret (v:=.slice oa n n) (by simp [results,Tryz.results20,go_sem]) rfl ⟨rfl,rfl⟩
theorem SN {w w' : World} {l:List (List V2)} {p:List V2} {vs:List Value} {u:Value} {cap:Nat} (hl:vs.length=l.length) (hv:∀ k,k<l.length->VecsAt w (vs.getD k undef) (l.getD k [])) (hp:VecsAt w u p) (hb:Below w.heap.size w w')
  (cur:Array Value) (e:Nat) (fr:Nat×Nat) (hh:w'.heap[w.heap.size]?=some (.cells cur e fr)) (hc:∀ j,j<l.length+1->cur[j]?=(vs++[u])[j]?) (hcap:l.length+1<=cap) (hcm:cap<=maxLen) :
  VecSSAt w' (.slice (some ⟨w.heap.size,0,none⟩) (l.length+1) cap) (l++[p]):=by
 refine ⟨vs++[u],⟨some ⟨w.heap.size,0,none⟩,cap,?_,by simp [hl];omega,hcm,λ x hx=>by simp at hx;rcases hx with ⟨a,-,rfl⟩|rfl <;> rfl,.inr ⟨w.heap.size,0,rfl,(Array.getElem?_eq_some_iff.1 hh).1,λ j hj i hi=>?_⟩⟩,by simp [hl],λ k hk=>?_⟩
 ·simp [hl]
 ·obtain rfl:i=0:=by omega
  simp only [List.length_map,List.length_append,List.length_cons,List.length_nil,hl] at hj
  have h:=hc j (by omega)
  simp only [Nat.zero_add,Nat.mul_one,Nat.add_zero,World.cell?,hh]
  have hjl:j<(vs++[u]).length:=by simp [hl];omega
  rw [List.getElem?_eq_getElem hjl] at h
  simp only [List.getD,List.getElem?_map,List.getElem?_eq_getElem hjl,Option.map_some,Option.getD_some,List.getElem?_cons_zero]
  simp [h]
 ·simp only [List.length_append,List.length_cons,List.length_nil] at hk
  by_cases hk' : k<l.length
  ·have e1:(vs++[u]).getD k undef=vs.getD k undef:=by simp [List.getD,List.getElem?_append_left (show k<vs.length by omega)]
   have e2:(l++[p]).getD k []=l.getD k []:=by simp [List.getD,List.getElem?_append_left hk']
   rw [e1,e2]
   exact (hv k hk').below hb
  ·obtain rfl:k=l.length:=by omega
   have e1:(vs++[u]).getD l.length undef=u:=by rw [← hl];simp [List.getD]
   have e2:(l++[p]).getD l.length []=p:=by simp [List.getD]
   rw [e1,e2]
   exact hp.below hb
theorem N5 {w : World} {o : Oper} {a : Act} {K : Act → World → Prop} {Q : Exit → Act → World → Prop} (s x : Operand)
    (ho : o.op = .call { callee := .builtin .append, args := #[s, x], argTypes := #[26, 26] })
    (l : List (List V2)) (hlen : l.length ≤ 1048576) (oa : Option Addr) (c0 : Nat) (hs : a.eval s = .slice oa l.length l.length) (hv : VecSSAt w (.slice oa l.length c0) l)
    (b : Nat) (u : Value) (p : List V2) (hx : a.eval x = .slice (some ⟨b, 0, none⟩) 1 1) (hc : w.cell? ⟨b, 0, none⟩ = some u) (hp : VecsAt w u p)
    (h : ∀ v' w', VecSSAt w' v' (l ++ [p]) → Below w.heap.size w w' → K (a.put o.dst v') w') : o.wp Tryz.prog a w K Q := by
  obtain ⟨i, z, hi', hz, h2, h3, h4⟩ := Cd.info
  obtain ⟨vs, ⟨oa', c0', e0, -, -, -, hcell⟩, hl, hvs⟩ := hv
  simp only [List.length_map, hl, Value.slice.injEq] at e0
  obtain ⟨rfl, -, rfl⟩ := e0
  have hnew : ∀ j v, [u][j]? = some v → w.cell? ((⟨b, 0, none⟩ : Addr).add j) = some v := fun j v hj => by
    have : j = 0 := by have := (List.getElem?_eq_some_iff.1 hj).1; simp at this; omega
    subst this
    simp at hj
    subst hj
    rw [show (⟨b, 0, none⟩ : Addr).add 0 = ⟨b, 0, none⟩ by simp [Addr.add]]
    exact hc
  have hgc := grownCap_ge w (l.length + 1) l.length 25
  have hgm := grownCap_le_maxLen w (l.length + 1) l.length 25 (by unfold maxLen; omega)
  have fin : ∀ (xs : Array Value), xs.size = l.length + 1 → (∀ j, j < l.length + 1 → xs[j]? = (vs ++ [u])[j]?) → ∀ ys, K (a.put o.dst (.slice (some ⟨w.heap.size, 0, none⟩) (l.length + 1) (grownCap w (l.length + 1) l.length 25))) (w.drew.alloc (.cells (xs ++ ys) 25)) := fun xs hxs hj ys => by
    have hB : Below w.heap.size w (w.drew.alloc (.cells (xs ++ ys) 25)) := (Below.refl _ _).drew.alloc (by simp) _
    refine h _ _ (SN hl hvs hp hB (xs ++ ys) 25 (0, 0) (heap_alloc_new w.drew _) (fun j hj' => ?_) hgc hgm) hB
    rw [Array.getElem?_append_left (by omega)]
    exact hj j hj'
  unfold Oper.wp execOp
  simp only [ho, resolve, invoke, builtin, Sem.run_bind, Sem.run_pure, Result.andThen_ok, List.map_toArray, List.map_cons, List.map_nil, hs, hx]
  cases oa with
  | none =>
    have hn : l.length = 0 := by
      rcases hcell with ⟨h5, -⟩ | ⟨b', off, h5, -⟩
      · simp at h5; subst h5; simpa using hl.symm
      · cases h5
    have hvn : vs = [] := List.eq_nil_of_length_eq_zero (by omega)
    have hr := run_append_nil (P := Tryz.prog) w 26 o.type 25 i z Cd.slice hi' hz ⟨b, 0, none⟩ 1 1 [u] (by simp [h2]) hnew (by omega) (by omega) (by rw [h3]; omega)
    simp only [hn]
    simp only [hr, Result.andThen_ok, Oper.upon]
    have := fin #[u] (by simp [hn]) (fun j hj => by simp [hvn]) (Builtin.zeroCells z.cells (grownCap w 1 0 25 - 1))
    simp only [hn, Nat.zero_add] at this
    exact this
  | some ad =>
    have holds : ∀ j v, vs[j]? = some v → w.cell? (ad.add j) = some v := fun j v hj => by
      have hjl := (List.getElem?_eq_some_iff.1 hj).1
      rcases hcell with ⟨h5, -⟩ | ⟨b', off, h5, h6, h7⟩
      · simp at h5; subst h5; simp at hjl
      · obtain rfl := Option.some.inj h5
        have := h7 j (by simpa using hjl) 0 (by omega)
        have e2 : (⟨b', off, none⟩ : Addr).add j = ⟨b', off + j, none⟩ := by
          unfold Addr.add; split
          · subst_vars; rfl
          · rfl
        rw [e2]
        simp only [Nat.mul_one, Nat.add_zero, List.getD, List.getElem?_map, hj, Option.map_some, Option.getD_some, List.getElem?_cons_zero] at this
        exact this
    have hr := run_append_grow (P := Tryz.prog) w 26 o.type 25 i z Cd.slice hi' hz ad l.length l.length vs (by rw [h2, hl]; omega) holds ⟨b, 0, none⟩ 1 1 [u] (by simp [h2]) hnew (by omega) (by omega) (growslice_fits (by omega) (by rw [h3]; omega))
    simp only [hr, Result.andThen_ok, Oper.upon]
    rw [Array.append_assoc]
    have := fin (vs.toArray ++ #[u]) (by simp [hl]) (fun j hj => by simp) (Builtin.zeroCells z.cells (grownCap w (l.length + 1) l.length 25 - (l.length + 1)))
    rw [Array.append_assoc] at this
    exact this
theorem LG {w:World} {ops:Array Oper} {o:Oper} {a:Act} {K:Act->World->Prop} {Q:Exit->Act->World->Prop} {F:Prop} (hgd:o.guard=none) (s x:Operand)
  (ho:o.op=.call { callee:=.builtin .append,args:=#[s,x],argTypes:=#[26,26] })
  (l:List (List V2)) (hlen:l.length<=1048576) (oa:Option Addr) (c0:Nat) (hs:a.eval s=.slice oa l.length l.length) (hv:VecSSAt w (.slice oa l.length c0) l)
  (b:Nat) (u:Value) (p:List V2) (hx:a.eval x=.slice (some ⟨b,0,none⟩) 1 1) (hc:w.cell? ⟨b,0,none⟩=some u) (hp:VecsAt w u p)
  (h:∀ v' w',VecSSAt w' v' (l++[p])->Below w.heap.size w w'->K (a.put o.dst v') w'):if Region.wanted o (yielded ops a.tmps)=true then Oper.wp Tryz.prog o a w K Q else F:=by
 rw [if_pos (by simp [Region.wanted,hgd])]
 exact N5 s x ho l hlen oa c0 hs hv b u p hx hc hp h
set_option maxHeartbeats 4000000 in
theorem JZ (s : Scn) (h1 : s.robot.length ≤ 1048576) (h2 : s.obst.length ≤ 1048575) (h3 : ∀ x ∈ s.obst, x.length ≤ 1048576) (h4 : s.tables.length ≤ 1048576) (hval : AG s = true) (p : List V2) (hpl : p.length ≤ 1048576) (hok : AG (AQ s (s.obst ++ [p])) = true) (v u : Value) (w : World) (hv : SceneAt w v s) (hu : VecsAt w u p) :
    Calls Tryz.prog 7 #[v, u] w (Hq w (AQ s (s.obst ++ [p])) true) := by
  have HV := Lib.hid hv
  have HU := Lib.hid hu
  obtain ⟨r, o, t, rfl, hr, ho, ht⟩ := hv
  have HO := Lib.hid ho
  obtain ⟨ra, rcap, rfl, _, _, _⟩ := hr.open
  obtain ⟨oa, ocap, rfl, hoc1, hoc2, _⟩ := ho.open
  obtain ⟨ta, tcap, rfl, _, _, _⟩ := ht.open
  obtain ⟨ua, ucap, rfl, _, _, _⟩ := hu.open
  clear hr ho ht hu
  have H3 := Lib.hid h3
  clear h3
  obtain ⟨res, hres⟩ : ∃ r, AQ s (s.obst ++ [p]) = r := ⟨_, rfl⟩
  rw [hres]
  have HRES := Lib.hid hres
  clear hres
  have HOK := Lib.hid hok
  have HVAL := Lib.hid hval
  clear hok hval
  have HEL : Hid ((s.obst ++ [p]).length ≤ 1048576 ∧ ∀ x ∈ s.obst ++ [p], x.length ≤ 1048576) := ⟨by rw [List.length_append, List.length_cons, List.length_nil]; omega, fun x hx => (List.mem_append.1 hx).elim (H3.out x) fun hx => by rw [List.mem_singleton.1 hx]; exact hpl⟩
  have CLIP := Lib.hid (Sv oa s.obst.length ocap hoc1 hoc2)
  clear hoc1 hoc2
  go_enter Tryz.func7, Tryz.ntmps7
  go_wp2_with fail
  refine (BU s _ _ (HV.out.below (by (repeat (first | with_reducible exact Below.refl _ _ | with_reducible assumption | with_reducible refine Below.drew ?_ | with_reducible refine Below.setCell ?_ ?_ _ | with_reducible refine Below.alloc ?_ ?_ _)); all_goals first | (simp; done) | (simp; omega) | omega))).mono ?_
  rintro e w1 ⟨rfl, h1⟩
  have B1 : Below w.heap.size w w1 := Below.trans (by (repeat (first | with_reducible exact Below.refl _ _ | with_reducible assumption | with_reducible refine Below.drew ?_ | with_reducible refine Below.setCell ?_ ?_ _ | with_reducible refine Below.alloc ?_ ?_ _)); all_goals first | (simp; done) | (simp; omega) | omega) (h1.mono (by first | (simp; done) | (simp; omega) | omega))
  have S1 := h1.size
  have T1 := B1.size
  try simp at S1
  obtain ⟨k1, f1⟩ := A6 h1
  try simp at k1
  try simp at f1
  have Hc1 := Lib.hid h1
  clear h1
  have u1_0 : w.heap.size < w1.heap.size := by omega
  have u1_1 : w.heap.size + 1 < w1.heap.size := by omega
  rw [HVAL.out]
  go_wp2
  go_region_held3 (fun w' => w'.cell? ⟨w.heap.size, 0, none⟩ = some (.int .i64 s.low.1) ∧ w'.cell? ⟨w.heap.size, 1, none⟩ = some (.int .i64 s.low.2) ∧ w'.cell? ⟨w.heap.size, 2, none⟩ = some (.int .i64 s.high.1) ∧ w'.cell? ⟨w.heap.size, 3, none⟩ = some (.int .i64 s.high.2) ∧ w'.cell? ⟨w.heap.size, 4, none⟩ = some (.slice ra s.robot.length rcap) ∧ w'.cell? ⟨w.heap.size, 5, none⟩ = some (.slice oa s.obst.length ocap) ∧ w'.cell? ⟨w.heap.size, 6, none⟩ = some (.slice ta s.tables.length tcap)) ((refine ⟨?_, ?_, ?_, ?_, ?_, ?_, ?_⟩ <;> go_simp))
    (first
        | (go_at_call 20
           (with_reducible refine (CLIP.out _).mono ?_)
           rintro e w2 ⟨rfl, rfl⟩)
        | (refine LG (by rfl) _ _ (by rfl) s.obst (by omega) oa ocap (by simp [Act.eval, Act.put]) (HO.out.below (by (repeat (first | with_reducible exact Below.refl _ _ | with_reducible assumption | with_reducible refine Below.drew ?_ | with_reducible refine Below.setCell ?_ ?_ _ | with_reducible refine Below.alloc ?_ ?_ _)); all_goals first | (simp; done) | (simp; omega) | omega)) _ (.slice ua p.length ucap) p (by simp [Act.eval, Act.put]; rfl) ?_ (HU.out.below (by (repeat (first | with_reducible exact Below.refl _ _ | with_reducible assumption | with_reducible refine Below.drew ?_ | with_reducible refine Below.setCell ?_ ?_ _ | with_reducible refine Below.alloc ?_ ?_ _)); all_goals first | (simp; done) | (simp; omega) | omega)) ?_
           · go_simp
           intro v3 w3 hv3 hb3
           have B3 : Below w.heap.size w w3 := Below.trans (by (repeat (first | with_reducible exact Below.refl _ _ | with_reducible assumption | with_reducible refine Below.drew ?_ | with_reducible refine Below.setCell ?_ ?_ _ | with_reducible refine Below.alloc ?_ ?_ _)); all_goals first | (simp; done) | (simp; omega) | omega) (hb3.mono (by first | (simp; done) | (simp; omega) | omega))
           obtain ⟨k3, f3⟩ := A6 hb3
           (try simp at k3)
           (try simp at f3)
           have z3 := hb3.size
           (try simp at z3)
           have u3_0 : w.heap.size < w3.heap.size := by omega
           have u3_1 : w.heap.size + 1 < w3.heap.size := by omega
           have E3 := Lib.hid hv3
           have Q3 := Lib.hid hb3
           clear hv3 hb3)
        | (go_at_call 19
           (with_reducible refine (KC s h1 (by omega) H3.out h4 (s.obst ++ [p]) HEL.out.1 HEL.out.2 HOK.out _ _ _ ?_ ?_).mono ?_)
           · exact HV.out.below (by (repeat (first | with_reducible exact Below.refl _ _ | with_reducible assumption | with_reducible refine Below.drew ?_ | with_reducible refine Below.setCell ?_ ?_ _ | with_reducible refine Below.alloc ?_ ?_ _)); all_goals first | (simp; done) | (simp; omega) | omega)
           · exact E3.out
           rintro e w4 ⟨cs4, rfl, ho4, hb4⟩
           obtain ⟨x1, y1_, x2, y2_, x3, y3_, rfl⟩ : ∃ x1 y1_ x2 y2_ x3 y3_, cs4 = [.int .i64 s.low.1, .int .i64 s.low.2, .int .i64 s.high.1, .int .i64 s.high.2, .slice x1 (AA s.robot).length y1_, .slice x2 (AB (s.obst ++ [p])).length y2_, .slice x3 (AA s.tables).length y3_] := Di ho4.rd
           have B4 : Below w.heap.size w w4 := Below.trans (by (repeat (first | with_reducible exact Below.refl _ _ | with_reducible assumption | with_reducible refine Below.drew ?_ | with_reducible refine Below.setCell ?_ ?_ _ | with_reducible refine Below.alloc ?_ ?_ _)); all_goals first | (simp; done) | (simp; omega) | omega) (hb4.mono (by first | (simp; done) | (simp; omega) | omega))
           obtain ⟨k4, f4⟩ := A6 hb4
           (try simp at k4)
           (try simp at f4)
           have z4 := hb4.size
           (try simp at z4)
           have u4_0 : w.heap.size < w4.heap.size := by omega
           have u4_1 : w.heap.size + 1 < w4.heap.size := by omega
           have Q4 := Lib.hid (And.intro ho4 hb4)
           clear ho4 hb4))
  all_goals
    have qs : ∀ i, i < 7 → (w4.cell? ⟨w.heap.size + 1, 0 + i, none⟩).isSome = true := fun i hi => by
      have : i = 0 ∨ i = 1 ∨ i = 2 ∨ i = 3 ∨ i = 4 ∨ i = 5 ∨ i = 6 := by omega
      rcases this with rfl | rfl | rfl | rfl | rfl | rfl | rfl <;> go_simp
    have q0 : (((((((w4.setCell ⟨w.heap.size + 1, 0, none⟩ (.int .i64 s.low.1)).setCell ⟨w.heap.size + 1, 1, none⟩ (.int .i64 s.low.2)).setCell ⟨w.heap.size + 1, 2, none⟩ (.int .i64 s.high.1)).setCell ⟨w.heap.size + 1, 3, none⟩ (.int .i64 s.high.2)).setCell ⟨w.heap.size + 1, 4, none⟩ (.slice x1 (AA s.robot).length y1_)).setCell ⟨w.heap.size + 1, 5, none⟩ (.slice x2 (AB (s.obst ++ [p])).length y2_)).setCell ⟨w.heap.size + 1, 6, none⟩ (.slice x3 (AA s.tables).length y3_)).cell? ⟨w.heap.size + 1, 0, none⟩ = some (.int .i64 s.low.1) := (by have q := AN (w.heap.size + 1) [.int .i64 s.low.1, .int .i64 s.low.2, .int .i64 s.high.1, .int .i64 s.high.2, .slice x1 (AA s.robot).length y1_, .slice x2 (AB (s.obst ++ [p])).length y2_, .slice x3 (AA s.tables).length y3_] w4 0 qs 0 (by simp); rw [Nat.zero_add] at q; exact q); have q1 : (((((((w4.setCell ⟨w.heap.size + 1, 0, none⟩ (.int .i64 s.low.1)).setCell ⟨w.heap.size + 1, 1, none⟩ (.int .i64 s.low.2)).setCell ⟨w.heap.size + 1, 2, none⟩ (.int .i64 s.high.1)).setCell ⟨w.heap.size + 1, 3, none⟩ (.int .i64 s.high.2)).setCell ⟨w.heap.size + 1, 4, none⟩ (.slice x1 (AA s.robot).length y1_)).setCell ⟨w.heap.size + 1, 5, none⟩ (.slice x2 (AB (s.obst ++ [p])).length y2_)).setCell ⟨w.heap.size + 1, 6, none⟩ (.slice x3 (AA s.tables).length y3_)).cell? ⟨w.heap.size + 1, 1, none⟩ = some (.int .i64 s.low.2) := (by have q := AN (w.heap.size + 1) [.int .i64 s.low.1, .int .i64 s.low.2, .int .i64 s.high.1, .int .i64 s.high.2, .slice x1 (AA s.robot).length y1_, .slice x2 (AB (s.obst ++ [p])).length y2_, .slice x3 (AA s.tables).length y3_] w4 0 qs 1 (by simp); rw [Nat.zero_add] at q; exact q); have q2 : (((((((w4.setCell ⟨w.heap.size + 1, 0, none⟩ (.int .i64 s.low.1)).setCell ⟨w.heap.size + 1, 1, none⟩ (.int .i64 s.low.2)).setCell ⟨w.heap.size + 1, 2, none⟩ (.int .i64 s.high.1)).setCell ⟨w.heap.size + 1, 3, none⟩ (.int .i64 s.high.2)).setCell ⟨w.heap.size + 1, 4, none⟩ (.slice x1 (AA s.robot).length y1_)).setCell ⟨w.heap.size + 1, 5, none⟩ (.slice x2 (AB (s.obst ++ [p])).length y2_)).setCell ⟨w.heap.size + 1, 6, none⟩ (.slice x3 (AA s.tables).length y3_)).cell? ⟨w.heap.size + 1, 2, none⟩ = some (.int .i64 s.high.1) := (by have q := AN (w.heap.size + 1) [.int .i64 s.low.1, .int .i64 s.low.2, .int .i64 s.high.1, .int .i64 s.high.2, .slice x1 (AA s.robot).length y1_, .slice x2 (AB (s.obst ++ [p])).length y2_, .slice x3 (AA s.tables).length y3_] w4 0 qs 2 (by simp); rw [Nat.zero_add] at q; exact q); have q3 : (((((((w4.setCell ⟨w.heap.size + 1, 0, none⟩ (.int .i64 s.low.1)).setCell ⟨w.heap.size + 1, 1, none⟩ (.int .i64 s.low.2)).setCell ⟨w.heap.size + 1, 2, none⟩ (.int .i64 s.high.1)).setCell ⟨w.heap.size + 1, 3, none⟩ (.int .i64 s.high.2)).setCell ⟨w.heap.size + 1, 4, none⟩ (.slice x1 (AA s.robot).length y1_)).setCell ⟨w.heap.size + 1, 5, none⟩ (.slice x2 (AB (s.obst ++ [p])).length y2_)).setCell ⟨w.heap.size + 1, 6, none⟩ (.slice x3 (AA s.tables).length y3_)).cell? ⟨w.heap.size + 1, 3, none⟩ = some (.int .i64 s.high.2) := (by have q := AN (w.heap.size + 1) [.int .i64 s.low.1, .int .i64 s.low.2, .int .i64 s.high.1, .int .i64 s.high.2, .slice x1 (AA s.robot).length y1_, .slice x2 (AB (s.obst ++ [p])).length y2_, .slice x3 (AA s.tables).length y3_] w4 0 qs 3 (by simp); rw [Nat.zero_add] at q; exact q); have q4 : (((((((w4.setCell ⟨w.heap.size + 1, 0, none⟩ (.int .i64 s.low.1)).setCell ⟨w.heap.size + 1, 1, none⟩ (.int .i64 s.low.2)).setCell ⟨w.heap.size + 1, 2, none⟩ (.int .i64 s.high.1)).setCell ⟨w.heap.size + 1, 3, none⟩ (.int .i64 s.high.2)).setCell ⟨w.heap.size + 1, 4, none⟩ (.slice x1 (AA s.robot).length y1_)).setCell ⟨w.heap.size + 1, 5, none⟩ (.slice x2 (AB (s.obst ++ [p])).length y2_)).setCell ⟨w.heap.size + 1, 6, none⟩ (.slice x3 (AA s.tables).length y3_)).cell? ⟨w.heap.size + 1, 4, none⟩ = some (.slice x1 (AA s.robot).length y1_) := (by have q := AN (w.heap.size + 1) [.int .i64 s.low.1, .int .i64 s.low.2, .int .i64 s.high.1, .int .i64 s.high.2, .slice x1 (AA s.robot).length y1_, .slice x2 (AB (s.obst ++ [p])).length y2_, .slice x3 (AA s.tables).length y3_] w4 0 qs 4 (by simp); rw [Nat.zero_add] at q; exact q); have q5 : (((((((w4.setCell ⟨w.heap.size + 1, 0, none⟩ (.int .i64 s.low.1)).setCell ⟨w.heap.size + 1, 1, none⟩ (.int .i64 s.low.2)).setCell ⟨w.heap.size + 1, 2, none⟩ (.int .i64 s.high.1)).setCell ⟨w.heap.size + 1, 3, none⟩ (.int .i64 s.high.2)).setCell ⟨w.heap.size + 1, 4, none⟩ (.slice x1 (AA s.robot).length y1_)).setCell ⟨w.heap.size + 1, 5, none⟩ (.slice x2 (AB (s.obst ++ [p])).length y2_)).setCell ⟨w.heap.size + 1, 6, none⟩ (.slice x3 (AA s.tables).length y3_)).cell? ⟨w.heap.size + 1, 5, none⟩ = some (.slice x2 (AB (s.obst ++ [p])).length y2_) := (by have q := AN (w.heap.size + 1) [.int .i64 s.low.1, .int .i64 s.low.2, .int .i64 s.high.1, .int .i64 s.high.2, .slice x1 (AA s.robot).length y1_, .slice x2 (AB (s.obst ++ [p])).length y2_, .slice x3 (AA s.tables).length y3_] w4 0 qs 5 (by simp); rw [Nat.zero_add] at q; exact q); have q6 : (((((((w4.setCell ⟨w.heap.size + 1, 0, none⟩ (.int .i64 s.low.1)).setCell ⟨w.heap.size + 1, 1, none⟩ (.int .i64 s.low.2)).setCell ⟨w.heap.size + 1, 2, none⟩ (.int .i64 s.high.1)).setCell ⟨w.heap.size + 1, 3, none⟩ (.int .i64 s.high.2)).setCell ⟨w.heap.size + 1, 4, none⟩ (.slice x1 (AA s.robot).length y1_)).setCell ⟨w.heap.size + 1, 5, none⟩ (.slice x2 (AB (s.obst ++ [p])).length y2_)).setCell ⟨w.heap.size + 1, 6, none⟩ (.slice x3 (AA s.tables).length y3_)).cell? ⟨w.heap.size + 1, 6, none⟩ = some (.slice x3 (AA s.tables).length y3_) := (by have q := AN (w.heap.size + 1) [.int .i64 s.low.1, .int .i64 s.low.2, .int .i64 s.high.1, .int .i64 s.high.2, .slice x1 (AA s.robot).length y1_, .slice x2 (AB (s.obst ++ [p])).length y2_, .slice x3 (AA s.tables).length y3_] w4 0 qs 6 (by simp); rw [Nat.zero_add] at q; exact q)
    have HQ := Lib.hid (And.intro q0 (And.intro q1 (And.intro q2 (And.intro q3 (And.intro q4 (And.intro q5 q6))))))
    clear q0 q1 q2 q3 q4 q5 q6 qs
    go_wp2
    obtain ⟨q0, q1, q2, q3, q4, q5, q6⟩ := HQ.out
    refine bodyPost_ret (v := .tuple #[.agg #[.int .i64 s.low.1, .int .i64 s.low.2, .int .i64 s.high.1, .int .i64 s.high.2, .slice x1 (AA s.robot).length y1_, .slice x2 (AB (s.obst ++ [p])).length y2_, .slice x3 (AA s.tables).length y3_], .bool true]) (by simp [results, Tryz.results7, go_sem, q0, q1, q2, q3, q4, q5, q6]) rfl ⟨_, rfl, ?_, ?_⟩
    · have hr : res = AQ s (s.obst ++ [p]) := HRES.out.symm
      rw [hr]
      refine Own.mono (lo := w3.heap.size) (hi := w4.heap.size) ?_ (by omega) (by simp only [World.size_setCell]; omega)
      refine Q4.out.1.only (S := fun b => b = w.heap.size + 1) ?_ (fun k hk => .inl (by subst hk; exact u3_1))
      · repeat (first | with_reducible exact OnlyIn.refl _ _ | with_reducible refine OnlyIn.setCell ?_ ?_ _)
        all_goals rfl
    · exact (by (repeat (first | with_reducible exact Below.refl _ _ | with_reducible assumption | with_reducible refine Below.drew ?_ | with_reducible refine Below.setCell ?_ ?_ _ | with_reducible refine Below.alloc ?_ ?_ _)); all_goals first | (simp; done) | (simp; omega) | omega)
end Go.Proofs.YtmekciknfocmmaaGreatDoor
