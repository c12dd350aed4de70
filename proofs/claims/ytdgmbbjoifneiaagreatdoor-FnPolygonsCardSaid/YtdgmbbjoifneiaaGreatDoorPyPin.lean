import Derived.Test.YtdgmbbjoifneiaaGreatDoorPyPar
import Derived.Shelf.Strconv.AtoiAll
import Derived.Shelf.Strconv.ErrVarAll
import Derived.Shelf.Strings.Shaped
import Derived.Shelf.Strings.SplitShaped
import Derived.Outline
import Derived.RegionTactic
import Derived.BigRegion
import Derived.Deep.RegionHeld3
namespace Go.Proofs.YtdgmbbjoifneiaaGreatDoor
set_option linter.unusedVariables false
set_option linter.unusedSimpArgs false
open Go.RowKit
def FZ:Con:={ ι:=ByteArray×UInt8,pre:=λ i=>i.1.size<=1073741824,args:=λ i=>[.one (.im (.string i.1)),.one (.im (.string ⟨#[i.2]⟩))],res:=λ i=>⟨true,[none,none,none],[.im (.string (BW i.1 i.2)),.im (.string (Ba i.1 i.2)),.im (.bool (EY i.1 i.2))]⟩ }
theorem Vh:FZ.Ok Tryz.prog 42:=El rfl ⟨_,Tryz.func42,by decide,rfl⟩ (λ _=>Nat.le_of_ble_eq_true rfl) (λ _=>rfl) (λ i=>[.im (.string (BW i.1 i.2)),.im (.string (Ba i.1 i.2)),.im (.bool (EY i.1 i.2))]) (λ _=>rfl) (λ _=>rfl) (λ i hp w us hst h=>by
 obtain ⟨s,c⟩:=i
 have h:RdRow w [.str,.str] [.str s,.str ⟨#[c]⟩] us:=h
 obtain ⟨v,vs,rfl,h1,h2⟩:=RdRow.cons2 h
 obtain ⟨v2,vs,rfl,h3,h2⟩:=RdRow.cons2 h2
 obtain ⟨-,rfl⟩:=RdRow.nil_inv h2
 obtain rfl:=Rd.str2 h1
 obtain rfl:=Rd.str2 h3
 obtain ⟨m,hm⟩:=LJ hst
 refine (Any.strings_Cut VH s ⟨#[c]⟩ m w (by have:=hp;simp only [FZ] at this;omega) hm).mono ?_
 rintro e w' ⟨rfl,n,rfl⟩
 exact ⟨[.string (BW s c),.string (Ba s c),.bool (EY s c)],rfl,Own.append (ts:=[.str]) (ds:=[.str (BW s c)]) (vs:=[.string (BW s c)]) (Own.leaf (lo:=w.heap.size) (hi:=w.heap.size) (Fp.mk_str _)) (Own.append (ts:=[.str]) (ds:=[.str (Ba s c)]) (vs:=[.string (Ba s c)]) (Own.leaf (lo:=w.heap.size) (hi:=w.heap.size) (Fp.mk_str _)) (Own.leaf (lo:=w.heap.size) (hi:=w.heap.size) (Fp.mk_bool _)) (Nat.le_refl _) (Nat.le_refl _)) (Nat.le_refl _) (Nat.le_refl _),⟨rfl,rfl,rfl,Nat.le_refl _,λ _ _=>rfl⟩⟩)
def E6:Con:={ ι:=ByteArray×UInt8,pre:=λ i=>i.1.size<=1073741824,args:=λ i=>[.one (.im (.string i.1)),.one (.im (.string ⟨#[i.2]⟩))],res:=λ i=>⟨false,[none],[.own 9 [.str] (Ae (AH i.2 i.1))]⟩ }
theorem R1:E6.Ok Tryz.prog 22:=El rfl ⟨_,Tryz.func22,by decide,rfl⟩ (λ _=>Nat.le_of_ble_eq_true rfl) (λ _=>rfl) (λ i=>[.sl 9 [.str] (Ae (AH i.2 i.1))]) (λ _=>rfl) (λ _=>rfl) (λ i hp w us hst h=>by
 obtain ⟨s,c⟩:=i
 have h:RdRow w [.str,.str] [.str s,.str ⟨#[c]⟩] us:=h
 obtain ⟨v,vs,rfl,h1,h2⟩:=RdRow.cons2 h
 obtain ⟨v2,vs,rfl,h3,h2⟩:=RdRow.cons2 h2
 obtain ⟨-,rfl⟩:=RdRow.nil_inv h2
 obtain rfl:=Rd.str2 h1
 obtain rfl:=Rd.str2 h3
 obtain ⟨m,hm⟩:=LJ hst
 have hp:s.size<=1073741824:=hp
 refine (Any.strings_Split VI (by kernel_rfl) s ⟨#[c]⟩ m w (by omega) hm (Nat.le_refl 1)).mono ?_
 rintro e w' ⟨rfl,rfl⟩
 rw [HS]
 have hl:=KK c s
 have hn:Lib.countB s ⟨#[c]⟩+1=(AH c s).length:=by
  rw [← HS,Lib.splitB_all ⟨#[c]⟩ (Nat.le_refl 1) 0 _ s rfl]
 rw [hn]
 refine ⟨[.slice (some ⟨w.heap.size,0,none⟩) (AH c s).length (AH c s).length],rfl,?_,(Below.refl _ w).alloc (Nat.le_refl _) _⟩
 refine ⟨[w.heap.size],?_,by simp,λ b hb=>by rw [List.mem_singleton.1 hb];simp⟩
 simp only [FpRow,List.map_cons,List.map_nil,DC.ty,DC.dat]
 refine ⟨[w.heap.size],[],by simp,?_,rfl⟩
 simp only [Fp]
 have hfl:((AH c s).map λ x=>[Value.string x]).flatten=(AH c s).map Value.string:=by
  induction (AH c s) with
  | nil=>rfl
  | cons x r ih=>simp [ih]
 refine ⟨(AH c s).map λ x=>[.string x],(AH c s).map λ _=>[],⟨by rw [hfl];simp,.inr ⟨w.heap.size,(AH c s).length,((AH c s).map Value.string).toArray,by simp,Nat.zero_le _,heap_alloc_new w _,by simp,?_,by simp,?_⟩⟩,by simp [Ae],by simp [Ae],?_,λ k hk=>?_,by simp [Value.ownBlock]⟩
 ·unfold maxLen;simp;omega
 ·rw [hfl];simp only [List.length_map];exact List.take_of_length_le (by simp)
 ·intro r hr
  obtain ⟨x,-,rfl⟩:=List.mem_map.1 hr
  rfl
 ·rw [As] at hk
  rw [GY _ _ hk]
  have e1:((AH c s).map λ x=>[Value.string x]).getD k []=[.string ((AH c s).getD k ⟨#[]⟩)]:=by simp [List.getD,hk]
  have e2:((AH c s).map λ _=>([]:List Nat)).getD k []=[]:=by simp [List.getD,hk]
  rw [e1,e2]
  simp only [FpRow]
  exact ⟨[],[],rfl,Fp.mk_str _,rfl⟩)
theorem Stood.below {w w' : World} (h:Stood w) (hb:Below w.heap.size w w'):Stood w':=h.keep hb.size λ b hm=>hb.block b (h.1 b hm)
theorem XU {v:Int} {s:ByteArray} (h:(!Lib.itoa v == s.toList)=true):¬ Lib.itoa v=s.data.toList:=λ e=>by
 rw [ByteArray.toList_eq,e] at h;simp at h
theorem XV {v:Int} {s:ByteArray} (h:(!Lib.itoa v == s.toList)=false):Lib.itoa v=s.data.toList:=by
 rw [ByteArray.toList_eq] at h;simpa using h
set_option maxRecDepth 100000 in
theorem OF (s : ByteArray) (hs : s.size ≤ 1073741824) (w : World) (hst : Stood w) :
    Calls Tryz.prog 43 #[.string s] w fun e w' => e = .returned (.tuple #[.int .i64 ((Aj s).getD 0), .bool (Aj s).isSome]) ∧ Below w.heap.size w w' := by
  have HST := Lib.hid hst; clear hst
  cases h : Lib.atoiAll s.data.toList
  · rename_i v
    have hb := Lib.atoiAll_bounds h
    have HH := Lib.hid (And.intro h hb); clear h
    have hp : Aj s = if Lib.itoa v = s.data.toList then some v else none := by unfold Aj; rw [HH.out.1]
    obtain ⟨q, hq0⟩ : ∃ q, q = Aj s := ⟨_, rfl⟩
    rw [← hq0]
    rw [← hq0] at hp
    clear hq0
    have HP := Lib.hid hp; clear hp
    go_enter Tryz.func43, Tryz.ntmps43
    go_wp2_with fail
    refine (Any.strconv_Atoi_ok Jw s (by omega) v HH.out.1 _).mono ?_
    rintro e w1 ⟨rfl, hw1⟩
    have B1 : Below w.heap.size w w1 := by
      rcases hw1 with rfl | ⟨t, rfl⟩
      · exact Below.refl _ _
      · exact Lib.bytesWorld_below _ _ _
    have HB := Lib.hid B1
    clear hw1 B1
    go_wp2_with fail
    refine (Any.strconv_Itoa Ni v HH.out.2.1 HH.out.2.2 _ (LI (HST.out.below HB.out))).mono ?_
    rintro e w2 ⟨rfl, k, os, rfl⟩
    obtain ⟨w2, hw2⟩ : ∃ w2, w2 = Sort.grow (w1.drewN k) os := ⟨_, rfl⟩
    rw [← hw2]
    have B2 : Below w.heap.size w w2 := HB.out.trans ((hw2 ▸ Nj w1 k os : Below w1.heap.size w1 w2).mono HB.out.size)
    have HB2 := Lib.hid B2
    clear hw2 B2
    go_wp2
    · obtain rfl : q = none := by rw [HP.out, if_neg (XU (by assumption))]
      go_ret2
      exact ⟨rfl, HB2.out⟩
    · obtain rfl : q = some v := by rw [HP.out, if_pos (XV (by assumption))]
      go_ret2
      exact ⟨rfl, HB2.out⟩
  · obtain ⟨u, p, hv⟩ := RX HST.out
    have hp : Aj s = none := by unfold Aj; rw [h]
    rw [hp]
    have HH := Lib.hid (And.intro h hv); clear h hv hp
    go_enter Tryz.func43, Tryz.ntmps43
    go_wp2_with fail
    refine (Any.strconv_Atoi_syntax_var Jw s (by omega) HH.out.1 u p _ HH.out.2).mono ?_
    rintro e w1 ⟨N, rfl, -, -, hb⟩
    have HB := Lib.hid hb; clear hb
    go_wp2
    go_ret2
    exact ⟨rfl, HB.out⟩
  · obtain ⟨u, p, hv⟩ := RY HST.out
    have hp : Aj s = none := by unfold Aj; rw [h]
    rw [hp]
    have HH := Lib.hid (And.intro h hv); clear h hv hp
    go_enter Tryz.func43, Tryz.ntmps43
    go_wp2_with fail
    refine (Any.strconv_Atoi_range_var Jw s (by omega) HH.out.1 u p _ HH.out.2).mono ?_
    rintro e w1 ⟨N, rfl, -, -, hb⟩
    have HB := Lib.hid hb; clear hb
    go_wp2
    go_ret2
    exact ⟨rfl, HB.out⟩
end Go.Proofs.YtdgmbbjoifneiaaGreatDoor
