import Derived.Test.YtmekciknfocmmaaGreatDoorScRkS1
import Derived.Test.YtmekciknfocmmaaGreatDoorScScB
import Derived.Outline
import Derived.RegionTactic
import Derived.BigRegion
import Derived.Deep.RegionHeld3
import Derived.Shelf.Strings.OnBuilder
namespace Go.Proofs.YtmekciknfocmmaaGreatDoor
set_option linter.unusedVariables false
set_option linter.unusedSimpArgs false
open Go.RowKit
theorem Stood.below {w w' : World} (h:Stood w) (hb:Below w.heap.size w w'):Stood w':=h.keep hb.size λ b hm=>hb.block b (h.1 b hm)
theorem JA (x y:Int) (h:(-9223372036854775808<=x/\x<=9223372036854775807)/\-9223372036854775808<=y/\y<=9223372036854775807) (w:World) (hst:Stood w) :
  Calls Tryz.prog 40 #[.agg #[.int .i64 x,.int .i64 y]] w λ e w'=>e=.returned (.string (Ai (x,y)))/\Below w.heap.size w w':=
 Con.Ok.rd I0 rfl (x,y) h (RdRow.mk_cons (Rd.mk_int x) (RdRow.mk_cons (Rd.mk_int y) RdRow.mk_nil):RdRow w [.int,.int] [.int x,.int y] [.int .i64 x,.int .i64 y]) hst rfl rfl rfl rfl
theorem KM (l:List V2) (h:l.all AH=true/\l.length<=1048576) (v:Value) (w:World) (hv:VecsAt w v l) (hst:Stood w) :
  Calls Tryz.prog 41 #[v] w λ e w'=>e=.returned (.string (A3 l))/\Below w.heap.size w w':=
 Con.Ok.rd MR rfl l h (RdRow.mk_cons (VecsAt.rd 24 hv) RdRow.mk_nil:RdRow w [.sl 24 [.int,.int]] [.sl (AA l)] [v]) hst rfl rfl rfl rfl
def Sc:ByteArray:=⟨#[114,111,111,109,32]⟩
def RQ:ByteArray:=⟨#[10,114,111,98,111,116,32]⟩
def MX:ByteArray:=⟨#[111,98,115,116,97,99,108,101,32]⟩
def JB:ByteArray:=⟨#[116,97,98,108,101,32]⟩
def nlS:ByteArray:=⟨#[10]⟩
def blS:ByteArray:=⟨#[32]⟩
def MY (s:Scn):ByteArray:=Sc++Ai s.low++blS++Ai s.high++RQ++A3 s.robot++nlS
def JY (s:Scn) (k:Nat):ByteArray:=(s.obst.take k).foldl (λ t p=>t++(MX++A3 p++nlS)) (MY s)
def MZ (s:Scn) (k:Nat):ByteArray:=(s.tables.take k).foldl (λ t v=>t++(JB++Ai v++nlS)) (JY s s.obst.length)
def Ab (s:Scn):ByteArray:=MZ s s.tables.length
theorem KN {s:Scn} {k:Nat} (hk:k<s.obst.length):JY s (k+1)=JY s k++(MX++A3 (s.obst.getD k [])++nlS):=by
 unfold JY
 rw [List.take_succ_eq_append_getElem hk,List.foldl_append]
 simp [List.getD,hk]
theorem KO {s:Scn} {k:Nat} (hk:k<s.tables.length):MZ s (k+1)=MZ s k++(JB++Ai (s.tables.getD k (0,0))++nlS):=by
 unfold MZ
 rw [List.take_succ_eq_append_getElem hk,List.foldl_append]
 simp [List.getD,hk]
theorem D7 (a b:ByteArray):Lib.strCells a++Lib.strCells b=Lib.strCells (a++b):=by
 unfold Lib.strCells
 rw [BN,List.map_append]
theorem Pe (s:Scn) {w:World} {T e B b:Nat} {p:Value} (h:Lib.BuilderAt T e B b p ([]++Lib.strCells (⟨#[114,111,111,109,32]⟩++Ai (s.low.1,s.low.2)++⟨#[32]⟩++Ai (s.high.1,s.high.2)++⟨#[10,114,111,98,111,116,32]⟩++A3 s.robot++⟨#[10]⟩:ByteArray)) w):Lib.BuilderAt T e B b p (Lib.strCells (JY s 0)) w:=h
theorem SA (p:ByteArray):MX++p++nlS=⟨#[111,98,115,116,97,99,108,101,32]⟩++p++⟨#[10]⟩:=rfl
theorem SB (p:ByteArray):JB++p++nlS=⟨#[116,97,98,108,101,32]⟩++p++⟨#[10]⟩:=rfl
theorem RR {T e B b:Nat} {p:Value} {bs:List Value} {w w' : World} (h:Lib.BuilderAt T e B b p bs w) (hb:Below w.heap.size w w'):Lib.BuilderAt T e B b p bs w':=by
 have hlt:=h.lt
 obtain ⟨h1,v,h2,h3,h4⟩:=h
 refine ⟨h1,v,(hb.block b hlt).trans h2,GE h3 λ k hk=>?_,h4⟩
 rcases h3.2 with ⟨rfl,-⟩|⟨g,cap,cur,rfl,-,hh,-⟩
 ·cases hk
 ·simp only [Value.ownBlock,Option.some.injEq] at hk
  subst hk
  exact hb.block _ (Array.getElem?_eq_some_iff.1 hh).1
theorem JC {s:Scn} (hl:AH s.low=true) (hh:AH s.high=true) (hr:s.robot.all AH=true/\s.robot.length<=16):(MY s).size<=1000:=by
 have z1:=Dv hl
 have z2:=Dv hh
 have z3:=F1 hr.1
 unfold MY
 rw [ByteArray.size_append,ByteArray.size_append,ByteArray.size_append,ByteArray.size_append,ByteArray.size_append,ByteArray.size_append];show 5+_+1+_+7+_+1<=_;omega
theorem Hv (s:Scn) (h0:(MY s).size<=1000) (ho:∀ k,k<s.obst.length->(s.obst.getD k []).all AH=true/\(s.obst.getD k []).length<=16):∀ {k:Nat},k<=s.obst.length->(JY s k).size<=1000+1000*k
 | 0,_=>h0
 | k+1,hk=>by
  have ih:=Hv s h0 ho (show k<=s.obst.length by omega)
  have z:=F1 (ho k hk).1
  have:=(ho k hk).2
  rw [KN hk,ByteArray.size_append,ByteArray.size_append,ByteArray.size_append]
  show _+(9+_+1)<=_
  omega
theorem K2 (s:Scn) (h0:(JY s s.obst.length).size<=5000) (ho:∀ k,k<s.tables.length->AH (s.tables.getD k (0,0))=true):∀ {k:Nat},k<=s.tables.length->(MZ s k).size<=5000+1000*k
 | 0,_=>h0
 | k+1,hk=>by
  have ih:=K2 s h0 ho (show k<=s.tables.length by omega)
  have z:=Dv (ho k hk)
  rw [KO hk,ByteArray.size_append,ByteArray.size_append,ByteArray.size_append]
  show _+(6+_+1)<=_
  omega
theorem Pf (s:Scn) {w:World} {T e B b:Nat} {p:Value} (h:Lib.BuilderAt T e B b p (Lib.strCells (JY s s.obst.length)) w):Lib.BuilderAt T e B b p (Lib.strCells (MZ s 0)) w:=h
theorem K3 {s:Scn} (h:AG s=true):AH s.low=true/\AH s.high=true/\(s.robot.all AH=true/\s.robot.length<=16)/\(s.obst.length<=4/\∀ k,k<s.obst.length->(s.obst.getD k []).all AH=true/\(s.obst.getD k []).length<=16)/\s.tables.length<=3/\∀ k,k<s.tables.length->AH (s.tables.getD k (0,0))=true:=by
 simp only [AG,Bool.and_eq_true,decide_eq_true_eq,List.all_cons,List.all_nil,and_true,shape] at h
 obtain ⟨⟨⟨⟨⟨h1,h2⟩,-⟩,-⟩,⟨h3,h4⟩,-⟩,⟨⟨h5,h6⟩,h7⟩,h8⟩:=h
 have hb:∀ {p:V2},CH 200 p=true->AH p=true:=λ {p} hp=>by
  simp only [AH,CH,Bool.and_eq_true,BM] at hp ⊢
  omega
 refine ⟨hb h1,hb h2,⟨(CQ h3).2.2,(CQ h3).2.1⟩,⟨h6,λ k hk=>?_⟩,h7,λ k hk=>?_⟩
 ·have hk':=List.all_eq_true.1 h5 (s.obst[k]) (List.getElem_mem hk)
  simp only [shape,Bool.and_eq_true] at hk'
  have e:s.obst.getD k []=s.obst[k]:=by simp [List.getD,hk]
  rw [e]
  exact ⟨(CQ hk'.1.1).2.2,(CQ hk'.1.1).2.1⟩
 ·have e:s.tables.getD k (0,0)=s.tables[k]:=by simp [List.getD,hk]
  rw [e]
  exact hb (List.all_eq_true.1 h8 _ (List.getElem_mem hk))
set_option maxRecDepth 100000 in
set_option maxHeartbeats 4000000 in
theorem Nu (s : Scn) (hval : AG s = true) (v : Value) (w : World) (hv : SceneAt w v s) (hst : Stood w) :
    Calls Tryz.prog 17 #[v] w fun e w' => e = .returned (.string (Ab s)) ∧ Below w.heap.size w w' := by
  obtain ⟨r, o, t, rfl, hr, ho, ht⟩ := hv
  have HA := Lib.hid (And.intro hr (And.intro ho ht))
  obtain ⟨ra, rcap, rfl, _, _, _⟩ := hr.open
  obtain ⟨oa, ocap, rfl, _, olen, hcell⟩ := ho.open
  obtain ⟨ta, tcap, rfl, _, tlen, htell⟩ := ht.open
  clear hr ho ht
  have HD := Lib.hid htell; clear htell
  have olen' : s.obst.length ≤ 9223372036854775807 := by omega
  have tlen' : s.tables.length ≤ 9223372036854775807 := by omega
  have HST := Lib.hid hst; clear hst
  obtain ⟨hl, hh, hrb, hob, htb⟩ := K3 hval
  have HV := Lib.hid (And.intro hl (And.intro hh (And.intro hrb (And.intro hob htb)))); clear hval
  have z1 : (Ai (s.low.1, s.low.2)).size ≤ 43 := Dv hl
  have z2 : (Ai (s.high.1, s.high.2)).size ≤ 43 := Dv hh
  have z3 := F1 hrb.1
  have z4 := hrb.2
  have hadd : ∀ (a b : ByteArray) (w : World), a.size + b.size ≤ 9223372036854775807 → (Op.stringOp .add a b).run Tryz.prog w = .ok (.string (a ++ b)) w := fun a b w h => run_string_add_sum w a b h
  have a1 := fun w => hadd ⟨#[114, 111, 111, 109, 32]⟩ (Ai (s.low.1, s.low.2)) w (by show 5 + _ ≤ _; omega)
  have a2 := fun w => hadd (⟨#[114, 111, 111, 109, 32]⟩ ++ Ai (s.low.1, s.low.2)) ⟨#[32]⟩ w (by rw [ByteArray.size_append]; show 5 + _ + 1 ≤ _; omega)
  have a3 := fun w => hadd (⟨#[114, 111, 111, 109, 32]⟩ ++ Ai (s.low.1, s.low.2) ++ ⟨#[32]⟩) (Ai (s.high.1, s.high.2)) w (by rw [ByteArray.size_append, ByteArray.size_append]; show 5 + _ + 1 + _ ≤ _; omega)
  have a4 := fun w => hadd (⟨#[114, 111, 111, 109, 32]⟩ ++ Ai (s.low.1, s.low.2) ++ ⟨#[32]⟩ ++ Ai (s.high.1, s.high.2)) ⟨#[10, 114, 111, 98, 111, 116, 32]⟩ w (by rw [ByteArray.size_append, ByteArray.size_append, ByteArray.size_append]; show 5 + _ + 1 + _ + 7 ≤ _; omega)
  have a5 := fun w => hadd (⟨#[114, 111, 111, 109, 32]⟩ ++ Ai (s.low.1, s.low.2) ++ ⟨#[32]⟩ ++ Ai (s.high.1, s.high.2) ++ ⟨#[10, 114, 111, 98, 111, 116, 32]⟩) (A3 s.robot) w (by rw [ByteArray.size_append, ByteArray.size_append, ByteArray.size_append, ByteArray.size_append]; show 5 + _ + 1 + _ + 7 + _ ≤ _; omega)
  have a6 := fun w => hadd (⟨#[114, 111, 111, 109, 32]⟩ ++ Ai (s.low.1, s.low.2) ++ ⟨#[32]⟩ ++ Ai (s.high.1, s.high.2) ++ ⟨#[10, 114, 111, 98, 111, 116, 32]⟩ ++ A3 s.robot) ⟨#[10]⟩ w (by rw [ByteArray.size_append, ByteArray.size_append, ByteArray.size_append, ByteArray.size_append, ByteArray.size_append]; show 5 + _ + 1 + _ + 7 + _ + 1 ≤ _; omega)
  have hS : ([] : List Value).length + (⟨#[114, 111, 111, 109, 32]⟩ ++ Ai (s.low.1, s.low.2) ++ ⟨#[32]⟩ ++ Ai (s.high.1, s.high.2) ++ ⟨#[10, 114, 111, 98, 111, 116, 32]⟩ ++ A3 s.robot ++ ⟨#[10]⟩ : ByteArray).size ≤ 140737488355328 := by
    rw [ByteArray.size_append, ByteArray.size_append, ByteArray.size_append, ByteArray.size_append, ByteArray.size_append, ByteArray.size_append]; show 0 + (5 + _ + 1 + _ + 7 + _ + 1) ≤ _; omega
  clear hadd
  have HC := Lib.hid hcell; clear hcell
  go_enter Tryz.func17, Tryz.ntmps17
  go_wp2
  go_region_held3 (fun w' => w'.cell? ⟨w.heap.size, 0, none⟩ = some (.int .i64 s.low.1) ∧ w'.cell? ⟨w.heap.size, 1, none⟩ = some (.int .i64 s.low.2) ∧ w'.cell? ⟨w.heap.size, 2, none⟩ = some (.int .i64 s.high.1) ∧ w'.cell? ⟨w.heap.size, 3, none⟩ = some (.int .i64 s.high.2) ∧ w'.cell? ⟨w.heap.size, 4, none⟩ = some (.slice ra s.robot.length rcap) ∧ w'.cell? ⟨w.heap.size, 5, none⟩ = some (.slice oa s.obst.length ocap) ∧ w'.cell? ⟨w.heap.size, 6, none⟩ = some (.slice ta s.tables.length tcap)) ((refine ⟨?_, ?_, ?_, ?_, ?_, ?_, ?_⟩ <;> go_simp))
    (first
      | (go_at_call 40;
         (with_reducible refine (JA s.low.1 s.low.2 (Iz HV.out.1) _ ?_).mono ?_)
         · exact HST.out.below (by (repeat (first | with_reducible exact Below.refl _ _ | with_reducible assumption | with_reducible refine Below.drew ?_ | with_reducible refine Below.setCell ?_ ?_ _ | with_reducible refine Below.alloc ?_ ?_ _)); all_goals first | (simp; done) | (simp; omega) | omega)
         rintro e w1 ⟨rfl, hb1⟩
         have B1 : Below w.heap.size w w1 := Below.trans (by (repeat (first | with_reducible exact Below.refl _ _ | with_reducible assumption | with_reducible refine Below.drew ?_ | with_reducible refine Below.setCell ?_ ?_ _ | with_reducible refine Below.alloc ?_ ?_ _)); all_goals first | (simp; done) | (simp; omega) | omega) (hb1.mono (by first | (simp; done) | (simp; omega) | omega))
         obtain ⟨k1, f1⟩ := A6 hb1
         (try simp at k1)
         (try simp at f1)
         have u1_1 : w.heap.size + 1 < w1.heap.size := Nat.lt_of_lt_of_le (by simp) hb1.size
         have u1_0 : w.heap.size < w1.heap.size := Nat.lt_of_succ_lt u1_1
         have Q1 := Lib.hid hb1
         clear hb1)
      | (go_at_call 40;
         (with_reducible refine (JA s.high.1 s.high.2 (Iz HV.out.2.1) _ ?_).mono ?_)
         · exact HST.out.below (by (repeat (first | with_reducible exact Below.refl _ _ | with_reducible assumption | with_reducible refine Below.drew ?_ | with_reducible refine Below.setCell ?_ ?_ _ | with_reducible refine Below.alloc ?_ ?_ _)); all_goals first | (simp; done) | (simp; omega) | omega)
         rintro e w2 ⟨rfl, hb2⟩
         have B2 : Below w.heap.size w w2 := Below.trans (by (repeat (first | with_reducible exact Below.refl _ _ | with_reducible assumption | with_reducible refine Below.drew ?_ | with_reducible refine Below.setCell ?_ ?_ _ | with_reducible refine Below.alloc ?_ ?_ _)); all_goals first | (simp; done) | (simp; omega) | omega) (hb2.mono (by first | (simp; done) | (simp; omega) | omega))
         obtain ⟨k2, f2⟩ := A6 hb2
         (try simp at k2)
         (try simp at f2)
         have u2_1 : w.heap.size + 1 < w2.heap.size := Nat.lt_of_lt_of_le (by (try simp); exact u1_1) hb2.size
         have u2_0 : w.heap.size < w2.heap.size := Nat.lt_of_succ_lt u2_1
         have Q2 := Lib.hid hb2
         clear hb2)
      | (go_at_call 41;
         (with_reducible refine (KM s.robot ⟨HV.out.2.2.1.1, by omega⟩ (.slice ra s.robot.length rcap) _ ?_ ?_).mono ?_)
         · exact HA.out.1.below (by (repeat (first | with_reducible exact Below.refl _ _ | with_reducible assumption | with_reducible refine Below.drew ?_ | with_reducible refine Below.setCell ?_ ?_ _ | with_reducible refine Below.alloc ?_ ?_ _)); all_goals first | (simp; done) | (simp; omega) | omega)
         · exact HST.out.below (by (repeat (first | with_reducible exact Below.refl _ _ | with_reducible assumption | with_reducible refine Below.drew ?_ | with_reducible refine Below.setCell ?_ ?_ _ | with_reducible refine Below.alloc ?_ ?_ _)); all_goals first | (simp; done) | (simp; omega) | omega)
         rintro e w3 ⟨rfl, hb3⟩
         have B3 : Below w.heap.size w w3 := Below.trans (by (repeat (first | with_reducible exact Below.refl _ _ | with_reducible assumption | with_reducible refine Below.drew ?_ | with_reducible refine Below.setCell ?_ ?_ _ | with_reducible refine Below.alloc ?_ ?_ _)); all_goals first | (simp; done) | (simp; omega) | omega) (hb3.mono (by first | (simp; done) | (simp; omega) | omega))
         obtain ⟨k3, f3⟩ := A6 hb3
         (try simp at k3)
         (try simp at f3)
         have u3_1 : w.heap.size + 1 < w3.heap.size := Nat.lt_of_lt_of_le (by (try simp); exact u2_1) hb3.size
         have u3_0 : w.heap.size < w3.heap.size := Nat.lt_of_succ_lt u3_1
         have Q3 := Lib.hid hb3
         clear hb3)
      | (go_at_call 39;
         (refine (Any.Builder_WriteString { El with } Au (w.heap.size + 1) (w.heap.size + 1) [] _ _ (.inl ⟨Nat.le_refl _, .slice none 0 0, ?_, ⟨rfl, .inl ⟨rfl, rfl⟩⟩, by simp [Value.ownBlock]⟩) ?_ ?_).mono ?_)
         · exact (HasObj.below (HasObj.below (HasObj.below (by repeat (first | with_reducible refine HasObj.drew ?_ | (refine HasObj.new ?_; (simp; done)) | with_reducible refine HasObj.old ?_)) Q1.out) Q2.out) Q3.out)
         · exact hS
         · omega
         rintro e w4 ⟨rfl, hI, hb4⟩
         have B4 : Below w.heap.size w w4 := B3.trans (hb4.mono (by omega))
         have k4 : ∀ o, w4.cell? ⟨w.heap.size, o, none⟩ = w3.cell? ⟨w.heap.size, o, none⟩ := fun o => CC (hb4.block _ (by show w.heap.size < w.heap.size + 1; omega))
         have f4 : ∀ o, w4.frozen? ⟨w.heap.size, o, none⟩ = w3.frozen? ⟨w.heap.size, o, none⟩ := fun o => by unfold World.frozen?; rw [hb4.block _ (by show w.heap.size < w.heap.size + 1; omega)]
         have u4_1 : w.heap.size + 1 < w4.heap.size := Nat.lt_of_lt_of_le u3_1 hb4.size
         have u4_0 : w.heap.size < w4.heap.size := Nat.lt_of_succ_lt u4_1
         have Q4 := Lib.hid hI
         clear hI hb4))
  have cS : ∀ o, w4.cell? ⟨w.heap.size, o, none⟩ = ((w.alloc (.cells #[.int .i64 s.low.1, .int .i64 s.low.2, .int .i64 s.high.1, .int .i64 s.high.2, .slice ra s.robot.length rcap, .slice oa s.obst.length ocap, .slice ta s.tables.length tcap] 28)).alloc (.cells #[.pointer none, .slice none 0 0] 74)).cell? ⟨w.heap.size, o, none⟩ := fun o => by
    rw [k4 o, k3 _ o u2_0, k2 _ o u1_0]
    exact CC (Q1.out.block _ (by simp; omega))
  have d5 : w4.cell? ⟨w.heap.size, 5, none⟩ = some (.slice oa s.obst.length ocap) := by rw [cS]; go_simp
  have d6 : w4.cell? ⟨w.heap.size, 6, none⟩ = some (.slice ta s.tables.length tcap) := by rw [cS]; go_simp
  clear k2 k3 k4 f2 f3 f4 a1 a2 a3 a4 a5 a6 hS cS
  have HB := Lib.hid (Pe s Q4.out)
  go_wp2
  obtain ⟨wo, rfl⟩ : ∃ wo : World, wo = w4 := ⟨_, rfl⟩
  go_loopw [27] (fun i wr => ∃ k : Nat, k ≤ s.obst.length ∧ i = .int .i64 k ∧ Lib.BuilderAt 74 5 (w.heap.size + 1) (w.heap.size + 1) (.pointer (some ⟨w.heap.size + 1, 0, none⟩)) (Lib.strCells (JY s k)) wr ∧ Below (w.heap.size + 1) wo wr) (fun i _ => s.obst.length - (intOf i).toNat)
  case atStart => exact ⟨0, Nat.zero_le _, rfl, HB.out, Below.refl _ _⟩
  case round =>
    obtain ⟨k, hk, rfl, hI, hb⟩ := hrel
    have B9 : Below w.heap.size w wr := B4.trans (hb.mono (by omega))
    have T9 := hb.size
    have d6r : wr.cell? ⟨w.heap.size, 6, none⟩ = some (.slice ta s.tables.length tcap) := (CC (hb.block _ (by show w.heap.size < w.heap.size + 1; omega))).trans d6
    have HBL := Lib.hid (And.intro hI hb)
    clear hI hb
    by_cases hlt : k < s.obst.length
    · obtain ⟨b, off, u, hoa, hbs, c0, hu⟩ := HC.out k hlt
      subst hoa
      have e0 := (B9.cell (p := ⟨b, off + k, none⟩) hbs).trans c0
      have hp := hob.2 k hlt
      have hsucc := KN hlt
      obtain ⟨P, hP⟩ : ∃ P, s.obst.getD k [] = P := ⟨_, rfl⟩
      rw [hP] at hu hp hsucc
      have HU := Lib.hid (hu.below B9); clear hu c0 hP
      have y1 := F1 hp.1
      have y2 := hp.2
      have HP := Lib.hid (And.intro hp hsucc); clear hp hsucc
      have b1 := fun w => run_string_add_sum (P := Tryz.prog) w ⟨#[111, 98, 115, 116, 97, 99, 108, 101, 32]⟩ (A3 P) (by show 9 + _ ≤ _; omega)
      have b2 := fun w => run_string_add_sum (P := Tryz.prog) w (⟨#[111, 98, 115, 116, 97, 99, 108, 101, 32]⟩ ++ A3 P) ⟨#[10]⟩ (by rw [ByteArray.size_append]; show 9 + _ + 1 ≤ _; omega)
      have n1 : ¬ 9223372036854775807 < 9 + (A3 P).size := by omega
      have n2 : ¬ 9223372036854775807 < 9 + (A3 P).size + 1 := by omega
      go_wp2_with fail
      refine (KM P ⟨HP.out.1.1, by have := HP.out.1.2; omega⟩ u _ HU.out (HST.out.below B9)).mono ?_
      rintro e w5 ⟨rfl, hb5⟩
      have S5 := hb5.size
      have B5 : Below (w.heap.size + 1) wo w5 := HBL.out.2.trans (hb5.mono (by omega))
      have I5 := Lib.hid (RR HBL.out.1 hb5)
      have hsz := Hv s (JC hl hh hrb) hob.2 (show k ≤ s.obst.length by omega)
      have hob4 := hob.1
      have d5r := (CC (a := ⟨w.heap.size, 5, none⟩) (B5.block _ (by show w.heap.size < w.heap.size + 1; omega))).trans d5
      have K5 := Lib.hid (And.intro hb5 B5)
      clear hb5 B5 e0
      go_wp2_with fail
      (refine (Any.Builder_WriteString { El with } Au (w.heap.size + 1) (w.heap.size + 1) _ _ _ (.inr I5.out) ?_ ?_).mono ?_)
      · rw [Lib.strCells_length, ByteArray.size_append, ByteArray.size_append]; show _ + (9 + _ + 1) ≤ _; omega
      · show w.heap.size + 1 ≤ w5.heap.size; omega
      rintro e w6 ⟨rfl, hI6, hb6⟩
      rw [D7, ← SA, ← HP.out.2] at hI6
      have B6 := Lib.hid (And.intro hI6 (K5.out.2.trans hb6))
      clear hI6 hb6
      go_wp2
      go_roundw
      case rel => exact ⟨k + 1, by omega, by go_num, B6.out.1, B6.out.2⟩
      case measure => simp [intOf]; omega
    · obtain rfl : k = s.obst.length := by omega
      have I7 := Lib.hid (Pf s HBL.out.1)
      have H7 := Lib.hid HBL.out.2
      clear hlt
      go_wp2
      obtain ⟨wp, rfl⟩ : ∃ wp : World, wp = wr := ⟨_, rfl⟩
      go_loopw [40] (fun i wr => ∃ k : Nat, k ≤ s.tables.length ∧ i = .int .i64 k ∧ Lib.BuilderAt 74 5 (w.heap.size + 1) (w.heap.size + 1) (.pointer (some ⟨w.heap.size + 1, 0, none⟩)) (Lib.strCells (MZ s k)) wr ∧ Below (w.heap.size + 1) wp wr) (fun i _ => s.tables.length - (intOf i).toNat)
      case atStart => exact ⟨0, Nat.zero_le _, rfl, I7.out, Below.refl _ _⟩
      case round =>
        obtain ⟨k, hk, rfl, hI, hb⟩ := hrel
        have B10 : Below w.heap.size w wr := B9.trans (hb.mono (by omega))
        have T10 := hb.size
        have HBL := Lib.hid (And.intro hI hb)
        clear hI hb
        by_cases hlt : k < s.tables.length
        · obtain ⟨b, off, hta, hbs, c0, c1⟩ := HD.out k hlt
          subst hta
          have e0 := (B10.cell (p := ⟨b, off + k * 2, none⟩) hbs).trans c0
          have e1 := (B10.cell (p := ⟨b, off + k * 2 + 1, none⟩) hbs).trans c1
          have hp := htb.2 k hlt
          have y1 := Dv hp
          obtain ⟨x, y, hxy⟩ : ∃ x y, s.tables.getD k (0, 0) = (x, y) := ⟨_, _, rfl⟩
          have hsucc := KO hlt
          rw [hxy] at e0 e1 hp y1 hsucc
          simp only at e0 e1
          have HP := Lib.hid (And.intro (Iz hp) hsucc); clear hp c0 c1 hsucc hxy
          have b1 := fun w => run_string_add_sum (P := Tryz.prog) w ⟨#[116, 97, 98, 108, 101, 32]⟩ (Ai (x, y)) (by show 6 + _ ≤ _; omega)
          have b2 := fun w => run_string_add_sum (P := Tryz.prog) w (⟨#[116, 97, 98, 108, 101, 32]⟩ ++ Ai (x, y)) ⟨#[10]⟩ (by rw [ByteArray.size_append]; show 6 + _ + 1 ≤ _; omega)
          have n1 : ¬ 9223372036854775807 < 6 + (Ai (x, y)).size := by omega
          have n2 : ¬ 9223372036854775807 < 6 + (Ai (x, y)).size + 1 := by omega
          go_wp2_with fail
          refine (JA x y HP.out.1 _ (HST.out.below (by (repeat (first | with_reducible exact Below.refl _ _ | with_reducible assumption | with_reducible refine Below.drew ?_ | with_reducible refine Below.setCell ?_ ?_ _ | with_reducible refine Below.alloc ?_ ?_ _)); all_goals first | (simp; done) | (simp; omega) | omega))).mono ?_
          rintro e w5 ⟨rfl, hb5⟩
          have hx := ((Below.refl wr.heap.size wr).alloc (Nat.le_refl _) (.cells #[.int .i64 x, .int .i64 y] 24)).trans (hb5.mono (by simp))
          have S5 := hx.size
          have B5 : Below (w.heap.size + 1) wp w5 := HBL.out.2.trans (hx.mono (by omega))
          have I5 := Lib.hid (RR HBL.out.1 hx)
          have hsz := K2 s (Nat.le_trans (Hv s (JC hl hh hrb) hob.2 (Nat.le_refl _)) (by have := hob.1; omega)) htb.2 (show k ≤ s.tables.length by omega)
          have htb3 := htb.1
          have K5 := Lib.hid (And.intro hx B5)
          clear hb5 hx B5 e0 e1
          go_wp2_with fail
          (refine (Any.Builder_WriteString { El with } Au (w.heap.size + 1) (w.heap.size + 1) _ _ _ (.inr I5.out) ?_ ?_).mono ?_)
          · rw [Lib.strCells_length, ByteArray.size_append, ByteArray.size_append]; show _ + (6 + _ + 1) ≤ _; omega
          · show w.heap.size + 1 ≤ w5.heap.size; omega
          rintro e w6 ⟨rfl, hI6, hb6⟩
          rw [D7, ← SB, ← HP.out.2] at hI6
          have B6 := Lib.hid (And.intro hI6 (K5.out.2.trans hb6))
          clear hI6 hb6
          go_wp2
          go_roundw
          case rel => exact ⟨k + 1, by omega, by go_num, B6.out.1, B6.out.2⟩
          case measure => simp [intOf]; omega
        · obtain rfl : k = s.tables.length := by omega
          have I8 := Lib.hid HBL.out
          clear hlt
          go_wp2_with fail
          refine (Any.Builder_String_any { El with } Au (w.heap.size + 1) (w.heap.size + 1) (Ab s).data.toList wr (.inr I8.out.1) (by omega)).mono ?_
          rintro e w9 ⟨rfl, hb9⟩
          have H9 := Lib.hid hb9; clear hb9
          go_wp2
          go_ret
          exact ⟨rfl, B10.trans (H9.out.mono (by omega))⟩
end Go.Proofs.YtmekciknfocmmaaGreatDoor
