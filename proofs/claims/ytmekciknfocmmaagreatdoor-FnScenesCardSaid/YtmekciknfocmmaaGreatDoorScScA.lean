import Derived.Test.YtmekciknfocmmaaGreatDoorProg
import Derived.Test.YtmekciknfocmmaaGreatDoorScBas
import Derived.Outline
namespace Go.Proofs.YtmekciknfocmmaaGreatDoor
set_option maxRecDepth 100000
set_option linter.unusedVariables false
set_option linter.unusedSimpArgs false
open Go.RowKit
theorem Dh (n lo hi:Int) (w:World):Calls Tryz.prog 48 #[.int .i64 n,.int .i64 lo,.int .i64 hi] w λ e w'=>e=.returned (.bool (inR n lo hi))/\w=w':=by
 by_cases h1:lo<=n
 ·by_cases h2:n<=hi
  ·rw [LI h1 h2]
   go_enter Tryz.func48,Tryz.ntmps48
   go_wp2
   go_ret
   exact ⟨rfl,rfl⟩
  ·rw [LJ (by omega)]
   go_enter Tryz.func48,Tryz.ntmps48
   go_wp2
   go_ret
   exact ⟨rfl,rfl⟩
 ·rw [N7 (by omega)]
  go_enter Tryz.func48,Tryz.ntmps48
  go_wp2
  go_ret
  exact ⟨rfl,rfl⟩
theorem Ks (n lo hi:Int) (w:World):Calls Tryz.prog 65 #[.int .i64 n,.int .i64 lo,.int .i64 hi] w λ e w'=>e=.returned (.bool (inR n lo hi))/\w=w':=by
 by_cases h1:lo<=n
 ·by_cases h2:n<=hi
  ·rw [LI h1 h2]
   go_enter Tryz.func65,Tryz.ntmps65
   go_wp2
   go_ret
   exact ⟨rfl,rfl⟩
  ·rw [LJ (by omega)]
   go_enter Tryz.func65,Tryz.ntmps65
   go_wp2
   go_ret
   exact ⟨rfl,rfl⟩
 ·rw [N7 (by omega)]
  go_enter Tryz.func65,Tryz.ntmps65
  go_wp2
  go_ret
  exact ⟨rfl,rfl⟩
theorem OT (x y:Int) (w:World):Calls Tryz.prog 55 #[.agg #[.int .i64 x,.int .i64 y]] w λ e w'=>e=.returned (.bool (AH (x,y)))/\Below w.heap.size w w':=by
 have e:AH (x,y)=(inR x (-1000) 1000 && inR y (-1000) 1000):=rfl
 rw [e];clear e
 cases h1:inR x (-1000) 1000 <;> cases h2:inR y (-1000) 1000
 all_goals
  go_enter Tryz.func55,Tryz.ntmps55
  go_wp2_with (go_at_call 48;refine (Dh _ _ _ _).mono ?_;rintro e w' ⟨rfl,rfl⟩)
  go_ret
  exact ⟨rfl,(by (with_reducible repeat (first|exact Below.refl _ _|assumption|refine Below.drew ?_|refine Below.setCell ?_ ?_ _|refine Below.alloc ?_ ?_ _));all_goals first|(simp;done)|(simp;omega)|omega)⟩
theorem BA (x y:Int) (w:World):Calls Tryz.prog 51 #[.agg #[.int .i64 x,.int .i64 y]] w λ e w'=>e=.returned (.bool (AH (x,y)))/\Below w.heap.size w w':=by
 have e:AH (x,y)=(inR x (-1000) 1000 && inR y (-1000) 1000):=rfl
 rw [e];clear e
 cases h1:inR x (-1000) 1000 <;> cases h2:inR y (-1000) 1000
 all_goals
  go_enter Tryz.func51,Tryz.ntmps51
  go_wp2_with (go_at_call 65;refine (Ks _ _ _ _).mono ?_;rintro e w' ⟨rfl,rfl⟩)
  go_ret
  exact ⟨rfl,(by (with_reducible repeat (first|exact Below.refl _ _|assumption|refine Below.drew ?_|refine Below.setCell ?_ ?_ _|refine Below.alloc ?_ ?_ _));all_goals first|(simp;done)|(simp;omega)|omega)⟩
theorem Ss (a1 a2 b1 b2 c1 c2:Int) (ha:AH (a1,a2)=true) (hb:AH (b1,b2)=true) (hc:AH (c1,c2)=true) (w:World) :
  Calls Tryz.prog 74 #[.agg #[.int .i64 a1,.int .i64 a2],.agg #[.int .i64 b1,.int .i64 b2],.agg #[.int .i64 c1,.int .i64 c2]] w λ e w'=>e=.returned (.int .i64 (Al (a1,a2) (b1,b2) (c1,c2)))/\Below w.heap.size w w':=by
 have A:=Ci ha
 have B:=Ci hb
 have C:=Ci hc
 simp only at A B C
 obtain ⟨xa1,xa2,xa3,xa4⟩:=A
 obtain ⟨xb1,xb2,xb3,xb4⟩:=B
 obtain ⟨xc1,xc2,xc3,xc4⟩:=C
 clear ha hb hc
 have m1:=Ka (a:=b1-a1) (b:=c2-a2) (m:=2000) (n:=2000) (by omega) (by omega) (by omega) (by omega)
 have m2:=Ka (a:=b2-a2) (b:=c1-a1) (m:=2000) (n:=2000) (by omega) (by omega) (by omega) (by omega)
 simp only [Int.reduceMul,Int.reduceNeg] at m1 m2
 obtain ⟨M1,M2⟩:=m1
 obtain ⟨M3,M4⟩:=m2
 go_enter Tryz.func74,Tryz.ntmps74
 go_wp2
 go_ret
 exact ⟨rfl,(by (with_reducible repeat (first|exact Below.refl _ _|assumption|refine Below.drew ?_|refine Below.setCell ?_ ?_ _|refine Below.alloc ?_ ?_ _));all_goals first|(simp;done)|(simp;omega)|omega)⟩
theorem Qs (a1 a2 b1 b2 c1 c2:Int) (ha:AH (a1,a2)=true) (hb:AH (b1,b2)=true) (hc:AH (c1,c2)=true) (w:World) :
  Calls Tryz.prog 66 #[.agg #[.int .i64 a1,.int .i64 a2],.agg #[.int .i64 b1,.int .i64 b2],.agg #[.int .i64 c1,.int .i64 c2]] w λ e w'=>e=.returned (.int .i64 (Al (a1,a2) (b1,b2) (c1,c2)))/\Below w.heap.size w w':=by
 have A:=Ci ha
 have B:=Ci hb
 have C:=Ci hc
 simp only at A B C
 obtain ⟨xa1,xa2,xa3,xa4⟩:=A
 obtain ⟨xb1,xb2,xb3,xb4⟩:=B
 obtain ⟨xc1,xc2,xc3,xc4⟩:=C
 have m1:=Ka (a:=b1-a1) (b:=c2-a2) (m:=2000) (n:=2000) (by omega) (by omega) (by omega) (by omega)
 have m2:=Ka (a:=b2-a2) (b:=c1-a1) (m:=2000) (n:=2000) (by omega) (by omega) (by omega) (by omega)
 simp only [Int.reduceMul,Int.reduceNeg] at m1 m2
 obtain ⟨M1,M2⟩:=m1
 obtain ⟨M3,M4⟩:=m2
 go_enter Tryz.func66,Tryz.ntmps66
 go_wp2_with fail
 refine (BA _ _ _).mono ?_
 rintro e w1 ⟨rfl,h1⟩
 have B1:Below w.heap.size w w1:=Below.trans (by (with_reducible repeat (first|exact Below.refl _ _|assumption|refine Below.drew ?_|refine Below.setCell ?_ ?_ _|refine Below.alloc ?_ ?_ _));all_goals first|(simp;done)|(simp;omega)|omega) (h1.mono (by first|(simp;done)|(simp;omega)|omega))
 have S1:=h1.size
 have T1:=B1.size
 try simp at S1
 obtain ⟨k1,f1⟩:=A6 h1
 try simp at k1
 try simp at f1
 have Hc1:=Lib.hid h1
 clear h1
 have u1_0:w.heap.size<w1.heap.size:=by omega
 have u1_1:w.heap.size+1<w1.heap.size:=by omega
 have u1_2:w.heap.size+1+1<w1.heap.size:=by omega
 go_wp2_with fail
 refine (BA _ _ _).mono ?_
 rintro e w2 ⟨rfl,h2⟩
 have B2:Below w.heap.size w w2:=Below.trans (by (with_reducible repeat (first|exact Below.refl _ _|assumption|refine Below.drew ?_|refine Below.setCell ?_ ?_ _|refine Below.alloc ?_ ?_ _));all_goals first|(simp;done)|(simp;omega)|omega) (h2.mono (by first|(simp;done)|(simp;omega)|omega))
 have S2:=h2.size
 have T2:=B2.size
 try simp at S2
 obtain ⟨k2,f2⟩:=A6 h2
 try simp at k2
 try simp at f2
 have Hc2:=Lib.hid h2
 clear h2
 have u2_0:w.heap.size<w2.heap.size:=by omega
 have u2_1:w.heap.size+1<w2.heap.size:=by omega
 have u2_2:w.heap.size+1+1<w2.heap.size:=by omega
 go_wp2_with fail
 refine (BA _ _ _).mono ?_
 rintro e w3 ⟨rfl,h3⟩
 have B3:Below w.heap.size w w3:=Below.trans (by (with_reducible repeat (first|exact Below.refl _ _|assumption|refine Below.drew ?_|refine Below.setCell ?_ ?_ _|refine Below.alloc ?_ ?_ _));all_goals first|(simp;done)|(simp;omega)|omega) (h3.mono (by first|(simp;done)|(simp;omega)|omega))
 have S3:=h3.size
 have T3:=B3.size
 try simp at S3
 obtain ⟨k3,f3⟩:=A6 h3
 try simp at k3
 try simp at f3
 have Hc3:=Lib.hid h3
 clear h3
 have u3_0:w.heap.size<w3.heap.size:=by omega
 have u3_1:w.heap.size+1<w3.heap.size:=by omega
 have u3_2:w.heap.size+1+1<w3.heap.size:=by omega
 go_wp2
 go_ret
 exact ⟨rfl,(by (with_reducible repeat (first|exact Below.refl _ _|assumption|refine Below.drew ?_|refine Below.setCell ?_ ?_ _|refine Below.alloc ?_ ?_ _));all_goals first|(simp;done)|(simp;omega)|omega)⟩
end Go.Proofs.YtmekciknfocmmaaGreatDoor
namespace Go.Proofs.YtmekciknfocmmaaGreatDoor
set_option maxRecDepth 100000
set_option linter.unusedVariables false
set_option linter.unusedSimpArgs false
open Go.RowKit
structure PredVec (g:Nat) (caps:Array Value) (p:V2->Bool) (W:World):Prop where
 enter:∀ (args:Array Value) (w:World),(callFunc g args).run Tryz.prog w=.ok (.enter g args) w
 calls:∀ (x y:Int) (w:World),Below W.heap.size W w->Calls Tryz.prog g (#[.agg #[.int .i64 x,.int .i64 y]]++caps) w λ e w'=>e=.returned (.bool (p (x,y)))/\Below w.heap.size w w'
set_option maxHeartbeats 400000 in
theorem NY (g : Nat) (caps : Array Value) (p : V2 → Bool) (l : List V2) (v : Value) (w : World) (hv : VecsAt w v l) (hp : PredVec g caps p w) :
    Calls Tryz.prog 75 #[v, .func (.func g) #[] caps] w fun e w' => e = .returned (.int .i64 (C4 p l)) ∧ Below w.heap.size w w' := by
  obtain ⟨a, cap, rfl, hl, hc, hcell⟩ := hv.open
  have hent := hp.enter
  have HP := Lib.hid hp.calls; clear hp
  have HC := Lib.hid hcell; clear hcell hv
  go_enter Tryz.func75, Tryz.ntmps75
  go_wp2
  go_loopw [8] (fun i wr => ∃ k : Nat, k ≤ l.length ∧ i = .int .i64 k ∧ (l.take k).any p = false ∧ Below w.heap.size w wr) (fun i _ => l.length - (intOf i).toNat)
  case atStart => exact ⟨0, Nat.zero_le _, rfl, by simp, Below.refl _ _⟩
  case round =>
    obtain ⟨k, hk, rfl, hany, hb⟩ := hrel
    have HA := Lib.hid hany; clear hany
    by_cases hlt : k < l.length
    · obtain ⟨b, off, rfl, hbs, c0, c1⟩ := HC.out k hlt
      have d0 := (hb.cell (p := ⟨b, off + k * 2, none⟩) hbs).trans c0
      have d1 := (hb.cell (p := ⟨b, off + k * 2 + 1, none⟩) hbs).trans c1
      obtain ⟨x, y, hxy⟩ : ∃ x y, l.getD k (0, 0) = (x, y) := ⟨_, _, rfl⟩
      rw [hxy] at d0 d1
      simp only at d0 d1
      clear c0 c1
      have HX := Lib.hid hxy; clear hxy
      have HB := Lib.hid hb; clear hb
      go_wp2_with fail
      refine (HP.out x y _ HB.out).mono ?_
      rintro e w1 ⟨rfl, hb1⟩
      cases hpx : p (x, y)
      · go_wp2
        go_roundw
        case rel => exact ⟨k + 1, by omega, by go_num, by rw [Ez p l (0, 0) k hlt, HA.out, HX.out, hpx]; rfl, HB.out.trans (hb1.mono HB.out.size)⟩
        case measure => simp [intOf]; omega
      · go_wp2
        go_ret
        exact ⟨Hg (LK p l (0, 0) k hlt HA.out (by rw [HX.out]; exact hpx)).symm, HB.out.trans (hb1.mono HB.out.size)⟩
    · have HB := Lib.hid hb; clear hb
      go_wp2
      go_ret
      exact ⟨Hg (Hy p l (by have := HA.out; rwa [List.take_of_length_le (by omega)] at this)).symm, HB.out⟩
theorem E7 (g:Nat) (caps:Array Value) (p:V2->Bool) (l:List V2) (v:Value) (w:World) (hv:VecsAt w v l) (hp:PredVec g caps p w) :
  Calls Tryz.prog 57 #[v,.func (.func g) #[] caps] w λ e w'=>e=.returned (.bool (l.any p))/\Below w.heap.size w w':=by
 rw [← Jb]
 have HV:=Lib.hid hv;clear hv
 have HP:=Lib.hid hp;clear hp
 go_enter Tryz.func57,Tryz.ntmps57
 go_wp2_with fail
 refine (NY g caps p l _ _ HV.out HP.out).mono ?_
 rintro e w1 ⟨rfl,hb1⟩
 have HB:=Lib.hid hb1;clear hb1
 go_wp2
 go_ret
 exact ⟨rfl,HB.out⟩
theorem NZ (W:World):PredVec 88 #[] (λ p=>!AH p) W where
 enter:=λ args w=>by kernel_rfl
 calls:=λ x y w _=>by
  show Calls Tryz.prog 88 #[.agg #[.int .i64 x,.int .i64 y]] w _
  go_enter Tryz.func88,Tryz.ntmps88
  go_wp2_with fail
  refine (OT _ _ _).mono ?_
  rintro e w1 ⟨rfl,h1⟩
  have B1:Below w.heap.size w w1:=Below.trans (by (with_reducible repeat (first|exact Below.refl _ _|assumption|refine Below.drew ?_|refine Below.setCell ?_ ?_ _|refine Below.alloc ?_ ?_ _));all_goals first|(simp;done)|(simp;omega)|omega) (h1.mono (by first|(simp;done)|(simp;omega)|omega))
  have S1:=h1.size
  have T1:=B1.size
  try simp at S1
  obtain ⟨k1,f1⟩:=A6 h1
  try simp at k1
  try simp at f1
  have Hc1:=Lib.hid h1
  clear h1
  have u1_0:w.heap.size<w1.heap.size:=by omega
  go_wp2
  go_ret
  exact ⟨rfl,(by (with_reducible repeat (first|exact Below.refl _ _|assumption|refine Below.drew ?_|refine Below.setCell ?_ ?_ _|refine Below.alloc ?_ ?_ _));all_goals first|(simp;done)|(simp;omega)|omega)⟩
theorem KA (l:List V2) (v:Value) (w:World) (hv:VecsAt w v l) :
  Calls Tryz.prog 73 #[v] w λ e w'=>e=.returned (.bool (l.all AH))/\Below w.heap.size w w':=by
 have e:l.all AH=!(l.any λ p=>!AH p):=by simp [List.not_any_eq_all_not]
 rw [e];clear e
 have HV:=Lib.hid hv;clear hv
 go_enter Tryz.func73,Tryz.ntmps73
 go_wp2_with fail
 refine (E7 _ #[] _ l _ _ HV.out (NZ _)).mono ?_
 rintro e w1 ⟨rfl,hb1⟩
 have HB:=Lib.hid hb1;clear hb1
 go_wp2
 go_ret
 exact ⟨rfl,HB.out⟩
theorem Qt (m:Int) (hm0:0<=m) (hm1:m<=1000) (b0:Nat) (W:World) (hb0:b0<W.heap.size) (hcell:W.cell? ⟨b0,0,none⟩=some (.int .i64 m)) :
  PredVec 58 #[.pointer (some ⟨b0,0,none⟩)] (λ p=>!CH m p) W where
 enter:=λ args w=>by kernel_rfl
 calls:=λ x y w hbw=>by
  show Calls Tryz.prog 58 #[.agg #[.int .i64 x,.int .i64 y],.pointer (some ⟨b0,0,none⟩)] w _
  have d0:=(hbw.cell (p:=⟨b0,0,none⟩) hb0).trans hcell
  have e:CH m (x,y)=(inR x (-m) m && inR y (-m) m):=rfl
  simp only [e]
  have hz:b0<w.heap.size:=Nat.lt_of_lt_of_le hb0 hbw.size
  clear e hbw hcell hb0
  cases h1:inR x (-m) m <;> cases h2:inR y (-m) m
  all_goals
   go_enter Tryz.func58,Tryz.ntmps58
   go_wp2_with (go_at_call 48;refine (Dh _ _ _ _).mono ?_;rintro e w' ⟨rfl,rfl⟩)
   go_ret
   exact ⟨rfl,(by (with_reducible repeat (first|exact Below.refl _ _|assumption|refine Below.drew ?_|refine Below.setCell ?_ ?_ _|refine Below.alloc ?_ ?_ _));all_goals first|(simp;done)|(simp;omega)|omega)⟩
theorem Kt (m:Int) (hm0:0<=m) (hm1:m<=1000) (l:List V2) (v:Value) (w:World) (hv:VecsAt w v l) :
  Calls Tryz.prog 35 #[.int .i64 m,v] w λ e w'=>e=.returned (.bool (l.all (CH m)))/\Below w.heap.size w w':=by
 have e:l.all (CH m)=!(l.any λ p=>!CH m p):=by simp [List.not_any_eq_all_not]
 rw [e];clear e
 have HV:=Lib.hid hv;clear hv
 go_enter Tryz.func35,Tryz.ntmps35
 go_wp2_with fail
 refine (E7 _ _ _ l _ _ (HV.out.below ((Below.refl _ _).alloc (Nat.le_refl _) _)) (Qt m hm0 hm1 w.heap.size _ (by simp) (by go_simp))).mono ?_
 rintro e w1 ⟨rfl,hb1⟩
 have HB:=Lib.hid hb1;clear hb1
 go_wp2
 go_ret
 exact ⟨rfl,((Below.refl _ _).alloc (Nat.le_refl _) _).trans (HB.out.mono (by simp))⟩
end Go.Proofs.YtmekciknfocmmaaGreatDoor
namespace Go.Proofs.YtmekciknfocmmaaGreatDoor
set_option maxRecDepth 100000
set_option linter.unusedVariables false
set_option linter.unusedSimpArgs false
open Go.RowKit
theorem Fx (l:List V2) (h:inR l.length 3 16=false):AX l=false:=by simp [AX,h]
theorem Is (l:List V2) (h:l.all AH=false):AX l=false:=by simp only [AX,h];simp
theorem G9 (l:List V2) (h1:inR l.length 3 16=true) (h2:l.all AH=true):AX l=(List.range l.length).all (FW l):=by simp only [AX,h1,h2];rfl
theorem HE (l:List V2) (k j m:Nat) (hm:m=(k+1)%l.length) (pa pb pc:V2) (ha:l.getD k (0,0)=pa) (hb:l.getD m (0,0)=pb) (hc:l.getD j (0,0)=pc) :
  DU l k j=(decide (j=k) || decide (j=m) || decide (0<Al pa pb pc)):=by
 subst hm ha hb hc;rfl
set_option maxHeartbeats 2000000 in
theorem EO (l : List V2) (v : Value) (w : World) (hv : VecsAt w v l) :
    Calls Tryz.prog 56 #[v] w fun e w' => e = .returned (.bool (AX l)) ∧ Below w.heap.size w w' := by
  have HV := Lib.hid hv
  obtain ⟨a, cap, rfl, hl, hc, hcell⟩ := hv.open
  have HC := Lib.hid hcell; clear hcell hv
  cases h1 : inR l.length 3 16
  · rw [Fx l h1]
    go_enter Tryz.func56, Tryz.ntmps56
    go_wp2_with fail
    refine (Dh _ _ _ _).mono ?_
    rintro e w' ⟨rfl, rfl⟩
    go_wp2
    go_ret
    exact ⟨rfl, Below.refl _ _⟩
  · have hn := BM.1 h1
    obtain ⟨hn1, hn2⟩ := hn
    have hn3 : 3 ≤ l.length := by omega
    have hn4 : l.length ≤ 16 := by omega
    clear hn1 hn2
    cases h2 : l.all AH
    · rw [Is l h2]
      go_enter Tryz.func56, Tryz.ntmps56
      go_wp2_with fail
      refine (Dh _ _ _ _).mono ?_
      rintro e w' ⟨rfl, rfl⟩
      go_wp2_with fail
      refine (KA l _ _ HV.out).mono ?_
      rintro e w1 ⟨rfl, hb1⟩
      have HB := Lib.hid hb1; clear hb1
      go_wp2
      go_ret
      exact ⟨rfl, HB.out⟩
    · rw [G9 l h1 h2]
      have HI := Lib.hid h2
      go_enter Tryz.func56, Tryz.ntmps56
      go_wp2_with fail
      refine (Dh _ _ _ _).mono ?_
      rintro e w' ⟨rfl, rfl⟩
      go_wp2_with fail
      refine (KA l _ _ HV.out).mono ?_
      rintro e w1 ⟨rfl, hb1⟩
      have HB := Lib.hid hb1; clear hb1
      go_wp2
      clear h1 h2
      go_loopw [21] (fun i wr => ∃ k : Nat, k ≤ l.length ∧ i = .int .i64 k ∧ (List.range k).all (FW l) = true ∧ Below w.heap.size w wr) (fun i _ => l.length - (intOf i).toNat)
      case atStart => exact ⟨0, Nat.zero_le _, rfl, by simp, HB.out⟩
      case round =>
        obtain ⟨k, hk, rfl, hall, hb⟩ := hrel
        have HA := Lib.hid hall; clear hall
        by_cases hlt : k < l.length
        · obtain ⟨m, hm⟩ : ∃ m, m = (k + 1) % l.length := ⟨_, rfl⟩
          have hmlt : m < l.length := by rw [hm]; exact Nat.mod_lt _ (by omega)
          have hmi : ((k : Int) + 1) % (l.length : Int) = (m : Int) := by rw [hm]; simp
          obtain ⟨b, off, rfl, hbs, c0, c1⟩ := HC.out k hlt
          obtain ⟨b', off', he, _, c2, c3⟩ := HC.out m hmlt
          obtain ⟨rfl, rfl⟩ : b' = b ∧ off' = off := by simpa [eq_comm] using he
          clear he
          have d0 := (hb.cell (p := ⟨b', off' + k * 2, none⟩) hbs).trans c0
          have d1 := (hb.cell (p := ⟨b', off' + k * 2 + 1, none⟩) hbs).trans c1
          have d2 := (hb.cell (p := ⟨b', off' + m * 2, none⟩) hbs).trans c2
          have d3 := (hb.cell (p := ⟨b', off' + m * 2 + 1, none⟩) hbs).trans c3
          have va := Cj HI.out (0, 0) k hlt
          have vb := Cj HI.out (0, 0) m hmlt
          obtain ⟨x, y, hxy⟩ : ∃ x y, l.getD k (0, 0) = (x, y) := ⟨_, _, rfl⟩
          obtain ⟨x', y', hxy'⟩ : ∃ x y, l.getD m (0, 0) = (x, y) := ⟨_, _, rfl⟩
          rw [hxy] at d0 d1 va
          rw [hxy'] at d2 d3 vb
          simp only at d0 d1 d2 d3
          have hz : b' < wr.heap.size := Nat.lt_of_lt_of_le hbs hb.size
          have hws := hb.size
          clear c0 c1 c2 c3
          have HX := Lib.hid hxy; clear hxy
          have HX' := Lib.hid hxy'; clear hxy'
          have HM := Lib.hid hm; clear hm
          have HVA := Lib.hid va; clear va
          have HVB := Lib.hid vb; clear vb
          have HB' := Lib.hid hb; clear hb HB
          obtain ⟨wo, rfl⟩ : ∃ wo : World, wo = wr := ⟨_, rfl⟩
          go_wp2
          have HW1 : Below w.heap.size w ((wo.alloc (.cells #[.int .i64 x, .int .i64 y] 24)).alloc (.cells #[.int .i64 x', .int .i64 y'] 24)) := (HB'.out.alloc hws _).alloc (by simp; omega) _
          have HH := Lib.hid HW1; clear HW1 d0 d1 d2 d3
          rw [hmi]
          go_loopw [35] (fun i wr => ∃ j : Nat, j ≤ l.length ∧ i = .int .i64 j ∧ (List.range j).all (DU l k) = true ∧ Below (wo.heap.size + 2) ((wo.alloc (.cells #[.int .i64 x, .int .i64 y] 24)).alloc (.cells #[.int .i64 x', .int .i64 y'] 24)) wr) (fun i _ => l.length - (intOf i).toNat)
          case atStart => exact ⟨0, Nat.zero_le _, rfl, by simp, Below.refl _ _⟩
          case round =>
            obtain ⟨j, hj, rfl, hall, hb⟩ := hrel
            have HA2 := Lib.hid hall; clear hall
            have e0 : wr.cell? ⟨wo.heap.size, 0, none⟩ = some (.int .i64 x) := (hb.cell (p := ⟨wo.heap.size, 0, none⟩) (by simp)).trans (by go_simp)
            have e1 : wr.cell? ⟨wo.heap.size, 1, none⟩ = some (.int .i64 y) := (hb.cell (p := ⟨wo.heap.size, 1, none⟩) (by simp)).trans (by go_simp)
            have e2 : wr.cell? ⟨wo.heap.size + 1, 0, none⟩ = some (.int .i64 x') := (hb.cell (p := ⟨wo.heap.size + 1, 0, none⟩) (by simp)).trans (by go_simp)
            have e3 : wr.cell? ⟨wo.heap.size + 1, 1, none⟩ = some (.int .i64 y') := (hb.cell (p := ⟨wo.heap.size + 1, 1, none⟩) (by simp)).trans (by go_simp)
            have hsz := hb.size
            simp only [World.size_alloc] at hsz
            have z0 : wo.heap.size < wr.heap.size := by omega
            have z1 : wo.heap.size + 1 < wr.heap.size := by omega
            have z2 : b' < wr.heap.size := by omega
            have zw : w.heap.size ≤ wr.heap.size := by omega
            have HB2 := Lib.hid (HH.out.trans (hb.mono (by omega)))
            have hbb := hb.cell (p := ⟨b', off' + j * 2, none⟩) (by show b' < _; omega)
            have hbb' := hb.cell (p := ⟨b', off' + j * 2 + 1, none⟩) (by show b' < _; omega)
            have hbo := HH.out.cell (p := ⟨b', off' + j * 2, none⟩) hbs
            have hbo' := HH.out.cell (p := ⟨b', off' + j * 2 + 1, none⟩) hbs
            have HR := Lib.hid hb; clear hb
            by_cases hjlt : j < l.length
            · obtain ⟨b2, off2, he, _, c4, c5⟩ := HC.out j hjlt
              obtain ⟨rfl, rfl⟩ : b2 = b' ∧ off2 = off' := by simpa [eq_comm] using he
              clear he
              have d4 := hbb.trans (hbo.trans c4)
              have d5 := hbb'.trans (hbo'.trans c5)
              have vc := Cj HI.out (0, 0) j hjlt
              obtain ⟨px, py, hpp⟩ : ∃ x y, l.getD j (0, 0) = (x, y) := ⟨_, _, rfl⟩
              rw [hpp] at d4 d5 vc
              simp only at d4 d5
              clear hbb hbb' hbo hbo' c4 c5
              have HP := Lib.hid hpp; clear hpp
              have HVC := Lib.hid vc; clear vc
              have hst := HE l k j m HM.out _ _ _ HX.out HX'.out HP.out
              have HST := Lib.hid hst; clear hst
              by_cases hjk : j = k
              · have hn1 : ((j : Int) != (k : Int)) = false := by simp [hjk]
                have HJ := Lib.hid hjk; clear hjk
                go_wp2
                go_roundw
                case rel => exact ⟨j + 1, by omega, by go_num, by rw [As, HA2.out, HST.out, HJ.out]; simp, HR.out.alloc (by omega) _⟩
                case measure => simp [intOf]; omega
              · have hn1 : ((j : Int) != (k : Int)) = true := by simp; omega
                have HJ := Lib.hid hjk; clear hjk
                by_cases hjm : j = m
                · have hn2 : ((j : Int) != (m : Int)) = false := by simp [hjm]
                  have HJM := Lib.hid hjm; clear hjm
                  go_wp2
                  go_roundw
                  case rel => exact ⟨j + 1, by omega, by go_num, by rw [As, HA2.out, HST.out, HJM.out]; simp, HR.out.alloc (by omega) _⟩
                  case measure => simp [intOf]; omega
                · have hn2 : ((j : Int) != (m : Int)) = true := by simp; omega
                  have HJM := Lib.hid hjm; clear hjm
                  go_wp2_with fail
                  refine (Ss _ _ _ _ _ _ HVA.out HVB.out HVC.out _).mono ?_
                  rintro e w2 ⟨rfl, hb2⟩
                  have hb2s := hb2.size
                  simp only [World.size_alloc] at hb2s
                  have HB3 := Lib.hid hb2; clear hb2
                  by_cases ht : Al (x, y) (x', y') (px, py) ≤ 0
                  · go_wp2
                    go_ret
                    refine ⟨BD (Bk _ _ k hlt ?_).symm, (HB2.out.alloc zw _).trans (HB3.out.mono (by simp; omega))⟩
                    refine Bk _ _ j hjlt ?_
                    rw [HST.out]
                    simp [HJ.out, HJM.out, ht]
                  · go_wp2
                    go_roundw
                    case rel =>
                      refine ⟨j + 1, by omega, by go_num, ?_, (HR.out.alloc (by omega) _).trans (HB3.out.mono (by simp; omega))⟩
                      rw [As, HA2.out, HST.out]
                      have : 0 < Al (x, y) (x', y') (px, py) := by omega
                      simp [this]
                    case measure => simp [intOf]; omega
            · clear hbb hbb' hbo hbo'
              go_wp2
              go_roundw
              case rel =>
                refine ⟨k + 1, by omega, by go_num, ?_, HB2.out⟩
                rw [As, HA.out]
                have := HA2.out
                rw [show j = l.length by omega] at this
                simpa [FW] using this
              case measure => simp [intOf]; omega
        · have HB' := Lib.hid hb; clear hb HB
          go_wp2
          go_ret
          exact ⟨BD (by have := HA.out; rw [show k = l.length by omega] at this; exact this.symm), HB'.out⟩
theorem JV (l:List V2) (k j:Nat) (hk:k<l.length) (hj:j<l.length) (h:DU l k j=false):AX l=false:=by
 have h1:FW l k=false:=Bk _ _ j hj h
 have h2:(List.range l.length).all (FW l)=false:=Bk _ _ k hk h1
 simp only [AX,h2];simp
set_option maxHeartbeats 2000000 in
theorem Ku (l : List V2) (v : Value) (w : World) (hv : VecsAt w v l) :
    Calls Tryz.prog 46 #[v] w fun e w' => e = .returned (.bool (AX l)) ∧ Below w.heap.size w w' := by
  obtain ⟨a, cap, rfl, hl, hc, hcell⟩ := hv.open
  have HC := Lib.hid hcell; clear hcell hv
  cases h1 : inR l.length 3 16
  · rw [Fx l h1]
    go_enter Tryz.func46, Tryz.ntmps46
    go_wp2_with fail
    refine (Ks _ _ _ _).mono ?_
    rintro e w' ⟨rfl, rfl⟩
    go_wp2
    go_ret
    exact ⟨rfl, Below.refl _ _⟩
  · have hn := BM.1 h1
    obtain ⟨hn1, hn2⟩ := hn
    have hn3 : 3 ≤ l.length := by omega
    have hn4 : l.length ≤ 16 := by omega
    clear hn1 hn2
    have HH1 := Lib.hid h1
    go_enter Tryz.func46, Tryz.ntmps46
    go_wp2_with fail
    refine (Ks _ _ _ _).mono ?_
    rintro e w' ⟨rfl, rfl⟩
    go_wp2
    clear h1
    go_loopw [16] (fun i wr => ∃ k : Nat, k ≤ l.length ∧ i = .int .i64 k ∧ (k = 0 ∨ l.all AH = true) ∧ (List.range k).all (FW l) = true ∧ Below w.heap.size w wr) (fun i _ => l.length - (intOf i).toNat)
    case atStart => exact ⟨0, Nat.zero_le _, rfl, .inl rfl, by simp, Below.refl _ _⟩
    case round =>
      obtain ⟨k, hk, rfl, hkv, hall, hb⟩ := hrel
      have HA := Lib.hid hall; clear hall
      have HK := Lib.hid hkv; clear hkv
      by_cases hlt : k < l.length
      · obtain ⟨m, hm⟩ : ∃ m, m = (k + 1) % l.length := ⟨_, rfl⟩
        have hmlt : m < l.length := by rw [hm]; exact Nat.mod_lt _ (by omega)
        have hmi : ((k : Int) + 1) % (l.length : Int) = (m : Int) := by rw [hm]; simp
        obtain ⟨b, off, rfl, hbs, c0, c1⟩ := HC.out k hlt
        obtain ⟨b', off', he, _, c2, c3⟩ := HC.out m hmlt
        obtain ⟨rfl, rfl⟩ : b' = b ∧ off' = off := by simpa [eq_comm] using he
        clear he
        have d0 := (hb.cell (p := ⟨b', off' + k * 2, none⟩) hbs).trans c0
        have d1 := (hb.cell (p := ⟨b', off' + k * 2 + 1, none⟩) hbs).trans c1
        have d2 := (hb.cell (p := ⟨b', off' + m * 2, none⟩) hbs).trans c2
        have d3 := (hb.cell (p := ⟨b', off' + m * 2 + 1, none⟩) hbs).trans c3
        obtain ⟨x, y, hxy⟩ : ∃ x y, l.getD k (0, 0) = (x, y) := ⟨_, _, rfl⟩
        obtain ⟨x', y', hxy'⟩ : ∃ x y, l.getD m (0, 0) = (x, y) := ⟨_, _, rfl⟩
        rw [hxy] at d0 d1
        rw [hxy'] at d2 d3
        simp only at d0 d1 d2 d3
        have hz : b' < wr.heap.size := Nat.lt_of_lt_of_le hbs hb.size
        have hws := hb.size
        clear c0 c1 c2 c3
        have HX := Lib.hid hxy; clear hxy
        have HX' := Lib.hid hxy'; clear hxy'
        have HM := Lib.hid hm; clear hm
        have HB' := Lib.hid hb; clear hb
        obtain ⟨wo, rfl⟩ : ∃ wo : World, wo = wr := ⟨_, rfl⟩
        go_wp2
        have HW1 : Below w.heap.size w ((wo.alloc (.cells #[.int .i64 x, .int .i64 y] 24)).alloc (.cells #[.int .i64 x', .int .i64 y'] 24)) := (HB'.out.alloc hws _).alloc (by simp; omega) _
        have HH := Lib.hid HW1; clear HW1 d0 d1 d2 d3
        try rw [hmi]
        go_loopw [30] (fun i wr => ∃ j : Nat, j ≤ l.length ∧ i = .int .i64 j ∧ (l.take j).all AH = true ∧ (List.range j).all (DU l k) = true ∧ Below (wo.heap.size + 2) ((wo.alloc (.cells #[.int .i64 x, .int .i64 y] 24)).alloc (.cells #[.int .i64 x', .int .i64 y'] 24)) wr) (fun i _ => l.length - (intOf i).toNat)
        case atStart => exact ⟨0, Nat.zero_le _, rfl, by simp, by simp, Below.refl _ _⟩
        case round =>
          obtain ⟨j, hj, rfl, hjv, hall, hb⟩ := hrel
          have HA2 := Lib.hid hall; clear hall
          have HJV := Lib.hid hjv; clear hjv
          have e0 : wr.cell? ⟨wo.heap.size, 0, none⟩ = some (.int .i64 x) := (hb.cell (p := ⟨wo.heap.size, 0, none⟩) (by simp)).trans (by go_simp)
          have e1 : wr.cell? ⟨wo.heap.size, 1, none⟩ = some (.int .i64 y) := (hb.cell (p := ⟨wo.heap.size, 1, none⟩) (by simp)).trans (by go_simp)
          have e2 : wr.cell? ⟨wo.heap.size + 1, 0, none⟩ = some (.int .i64 x') := (hb.cell (p := ⟨wo.heap.size + 1, 0, none⟩) (by simp)).trans (by go_simp)
          have e3 : wr.cell? ⟨wo.heap.size + 1, 1, none⟩ = some (.int .i64 y') := (hb.cell (p := ⟨wo.heap.size + 1, 1, none⟩) (by simp)).trans (by go_simp)
          have hsz := hb.size
          simp only [World.size_alloc] at hsz
          have z0 : wo.heap.size < wr.heap.size := by omega
          have z1 : wo.heap.size + 1 < wr.heap.size := by omega
          have z2 : b' < wr.heap.size := by omega
          have zw : w.heap.size ≤ wr.heap.size := by omega
          have HB2 := Lib.hid (HH.out.trans (hb.mono (by omega)))
          have hbb := hb.cell (p := ⟨b', off' + j * 2, none⟩) (by show b' < _; omega)
          have hbb' := hb.cell (p := ⟨b', off' + j * 2 + 1, none⟩) (by show b' < _; omega)
          have hbo := HH.out.cell (p := ⟨b', off' + j * 2, none⟩) hbs
          have hbo' := HH.out.cell (p := ⟨b', off' + j * 2 + 1, none⟩) hbs
          have HR := Lib.hid hb; clear hb
          by_cases hjlt : j < l.length
          · obtain ⟨b2, off2, he, _, c4, c5⟩ := HC.out j hjlt
            obtain ⟨rfl, rfl⟩ : b2 = b' ∧ off2 = off' := by simpa [eq_comm] using he
            clear he
            have d4 := hbb.trans (hbo.trans c4)
            have d5 := hbb'.trans (hbo'.trans c5)
            obtain ⟨px, py, hpp⟩ : ∃ x y, l.getD j (0, 0) = (x, y) := ⟨_, _, rfl⟩
            rw [hpp] at d4 d5
            simp only at d4 d5
            clear hbb hbb' hbo hbo' c4 c5
            have HP := Lib.hid hpp; clear hpp
            have hst := HE l k j m HM.out _ _ _ HX.out HX'.out HP.out
            have HST := Lib.hid hst; clear hst
            cases hvc : AH (px, py)
            · go_wp2_with fail
              refine (BA _ _ _).mono ?_
              rintro e w2 ⟨rfl, hb2⟩
              have HB3 := Lib.hid hb2; clear hb2
              go_wp2
              go_ret
              refine ⟨BD (Is l (Hz _ l (0, 0) j hjlt (by rw [HP.out]; exact hvc))).symm, (HB2.out.alloc zw _).trans (HB3.out.mono (by simp; omega))⟩
            · have HVC := Lib.hid hvc
              have HJV' : Hid ((l.take (j + 1)).all AH = true) := by show _ = _; rw [JM _ l (0, 0) j hjlt, HJV.out, HP.out, hvc]; rfl
              by_cases hjk : j = k
              · have hn1 : ((j : Int) != (k : Int)) = false := by simp [hjk]
                have HJ := Lib.hid hjk; clear hjk
                go_wp2_with fail
                refine (BA _ _ _).mono ?_
                rintro e w2 ⟨rfl, hb2⟩
                have HB3 := Lib.hid hb2; clear hb2
                go_wp2
                go_roundw
                case rel => exact ⟨j + 1, by omega, by go_num, HJV'.out, by rw [As, HA2.out, HST.out, HJ.out]; simp, (HR.out.alloc (by omega) _).trans (HB3.out.mono (by simp; omega))⟩
                case measure => simp [intOf]; omega
              · have hn1 : ((j : Int) != (k : Int)) = true := by simp; omega
                have HJ := Lib.hid hjk; clear hjk
                by_cases hjm : j = m
                · have hn2 : ((j : Int) != (m : Int)) = false := by simp [hjm]
                  have HJM := Lib.hid hjm; clear hjm
                  go_wp2_with fail
                  refine (BA _ _ _).mono ?_
                  rintro e w2 ⟨rfl, hb2⟩
                  have HB3 := Lib.hid hb2; clear hb2
                  go_wp2
                  go_roundw
                  case rel => exact ⟨j + 1, by omega, by go_num, HJV'.out, by rw [As, HA2.out, HST.out, HJM.out]; simp, (HR.out.alloc (by omega) _).trans (HB3.out.mono (by simp; omega))⟩
                  case measure => simp [intOf]; omega
                · have hn2 : ((j : Int) != (m : Int)) = true := by simp; omega
                  have HJM := Lib.hid hjm; clear hjm
                  have hvab : AH (x, y) = true ∧ AH (x', y') = true := by
                    rw [← HX.out, ← HX'.out]
                    rcases HK.out with h0 | h0
                    · have hm1 : m = 1 := by have := HM.out; rw [h0, Nat.mod_eq_of_lt (by omega)] at this; omega
                      have hj1 := HJ.out
                      have hj2 := HJM.out
                      have g0 := Cj HJV.out (0, 0) k (by simp; omega)
                      have g1 := Cj HJV.out (0, 0) m (by simp; omega)
                      simp only [List.getD, List.getElem?_take] at g0 g1 ⊢
                      rw [if_pos (by omega)] at g0 g1
                      exact ⟨g0, g1⟩
                    · exact ⟨Cj h0 (0, 0) k hlt, Cj h0 (0, 0) m hmlt⟩
                  have HVAB := Lib.hid hvab; clear hvab
                  go_wp2_with fail
                  refine (BA _ _ _).mono ?_
                  rintro e w2 ⟨rfl, hb2⟩
                  have S2 := hb2.size
                  simp only [World.size_alloc] at S2
                  obtain ⟨k2, f2⟩ := A6 hb2
                  simp only [World.size_alloc] at k2 f2
                  have u0 : wo.heap.size < w2.heap.size := by omega
                  have u1 : wo.heap.size + 1 < w2.heap.size := by omega
                  have u2 : wr.heap.size < w2.heap.size := by omega
                  have v0 : wo.heap.size < wr.heap.size + 1 := by omega
                  have v1 : wo.heap.size + 1 < wr.heap.size + 1 := by omega
                  have HB3 := Lib.hid hb2; clear hb2
                  go_wp2_with fail
                  refine (Qs _ _ _ _ _ _ HVAB.out.1 HVAB.out.2 HVC.out _).mono ?_
                  rintro e w3 ⟨rfl, hb3⟩
                  have S3 := hb3.size
                  have HB4 := Lib.hid hb3; clear hb3
                  clear hvc
                  by_cases ht : Al (x, y) (x', y') (px, py) ≤ 0
                  · go_wp2
                    go_ret
                    refine ⟨BD (JV l k j hlt hjlt ?_).symm, ((HB2.out.alloc zw _).trans (HB3.out.mono (by simp; omega))).trans (HB4.out.mono (by omega))⟩
                    rw [HST.out]
                    simp [HJ.out, HJM.out, ht]
                  · go_wp2
                    go_roundw
                    case rel =>
                      refine ⟨j + 1, by omega, by go_num, HJV'.out, ?_, ((HR.out.alloc (by omega) _).trans (HB3.out.mono (by simp; omega))).trans (HB4.out.mono (by omega))⟩
                      rw [As, HA2.out, HST.out]
                      have : 0 < Al (x, y) (x', y') (px, py) := by omega
                      simp [this]
                    case measure => simp [intOf]; omega
          · clear hbb hbb' hbo hbo'
            go_wp2
            go_roundw
            case rel =>
              have hje : j = l.length := by omega
              refine ⟨k + 1, by omega, by go_num, .inr ?_, ?_, HB2.out⟩
              · have := HJV.out
                rw [hje, List.take_length] at this
                exact this
              · rw [As, HA.out]
                have := HA2.out
                rw [hje] at this
                simpa [FW] using this
            case measure => simp [intOf]; omega
      · have HB' := Lib.hid hb; clear hb
        go_wp2
        go_ret
        refine ⟨BD ?_, HB'.out⟩
        have hke : k = l.length := by omega
        have h3 := HA.out
        rw [hke] at h3
        rcases HK.out with h0 | h0
        · omega
        · rw [G9 l HH1.out h0, h3]
end Go.Proofs.YtmekciknfocmmaaGreatDoor
namespace Go.Proofs.YtmekciknfocmmaaGreatDoor
set_option maxRecDepth 100000
set_option linter.unusedVariables false
set_option linter.unusedSimpArgs false
open Go.RowKit
theorem KB (m:Int) (hm0:0<=m) (hm1:m<=1000) (l:List V2) (v:Value) (w:World) (hv:VecsAt w v l) :
  Calls Tryz.prog 36 #[v,.int .i64 m] w λ e w'=>e=.returned (.bool (shape m l))/\Below w.heap.size w w':=by
 have HV:=Lib.hid hv
 obtain ⟨a,cap,rfl,hl,hc,_⟩:=hv.open
 clear hv
 by_cases h5:l.length<=5
 ·cases hp:AX l
  ·have e:shape m l=false:=by simp [shape,hp]
   rw [e];clear e
   go_enter Tryz.func36,Tryz.ntmps36
   go_wp2_with fail
   refine (EO l _ _ HV.out).mono ?_
   rintro e w1 ⟨rfl,hb1⟩
   have HB:=Lib.hid hb1;clear hb1
   go_wp2
   go_ret
   exact ⟨rfl,HB.out⟩
  ·have e:shape m l=l.all (CH m):=by simp [shape,hp,h5]
   rw [e];clear e
   go_enter Tryz.func36,Tryz.ntmps36
   go_wp2_with fail
   refine (EO l _ _ HV.out).mono ?_
   rintro e w1 ⟨rfl,hb1⟩
   have HB:=Lib.hid hb1;clear hb1
   go_wp2_with fail
   refine (Kt m hm0 hm1 l _ _ (HV.out.below HB.out)).mono ?_
   rintro e w2 ⟨rfl,hb2⟩
   have HB2:=Lib.hid (HB.out.trans (hb2.mono HB.out.size));clear hb2
   go_wp2
   go_ret
   exact ⟨rfl,HB2.out⟩
 ·have e:shape m l=false:=by simp [shape,h5]
  rw [e];clear e
  go_enter Tryz.func36,Tryz.ntmps36
  go_wp2
  go_ret
  exact ⟨rfl,Below.refl _ _⟩
structure PredVS (g:Nat) (caps:Array Value) (p:List V2->Bool) (W:World):Prop where
 enter:∀ (args:Array Value) (w:World),(callFunc g args).run Tryz.prog w=.ok (.enter g args) w
 calls:∀ (l:List V2) (v:Value) (w:World),Below W.heap.size W w->VecsAt w v l->Calls Tryz.prog g (#[v]++caps) w λ e w'=>e=.returned (.bool (p l))/\Below w.heap.size w w'
set_option maxHeartbeats 400000 in
theorem PQ (g : Nat) (caps : Array Value) (p : List V2 → Bool) (l : List (List V2)) (v : Value) (w : World) (hv : VecSSAt w v l) (hp : PredVS g caps p w) :
    Calls Tryz.prog 59 #[v, .func (.func g) #[] caps] w fun e w' => e = .returned (.int .i64 (C4 p l)) ∧ Below w.heap.size w w' := by
  obtain ⟨a, cap, rfl, hl, hc, hcell⟩ := hv.open
  have hent := hp.enter
  have HP := Lib.hid hp.calls; clear hp
  have HC := Lib.hid hcell; clear hcell hv
  go_enter Tryz.func59, Tryz.ntmps59
  go_wp2
  go_loopw [8] (fun i wr => ∃ k : Nat, k ≤ l.length ∧ i = .int .i64 k ∧ (l.take k).any p = false ∧ Below w.heap.size w wr) (fun i _ => l.length - (intOf i).toNat)
  case atStart => exact ⟨0, Nat.zero_le _, rfl, by simp, Below.refl _ _⟩
  case round =>
    obtain ⟨k, hk, rfl, hany, hb⟩ := hrel
    have HA := Lib.hid hany; clear hany
    by_cases hlt : k < l.length
    · obtain ⟨b, off, u, rfl, hbs, c0, hu⟩ := HC.out k hlt
      have d0 := (hb.cell (p := ⟨b, off + k, none⟩) hbs).trans c0
      have HU := Lib.hid (hu.below hb); clear hu
      clear c0
      have HB := Lib.hid hb; clear hb
      go_wp2_with fail
      refine (HP.out _ u _ HB.out HU.out).mono ?_
      rintro e w1 ⟨rfl, hb1⟩
      cases hpx : p (l.getD k [])
      · have hpe : (l.take (k + 1)).any p = false := by rw [Ez p l [] k hlt, HA.out, hpx]; rfl
        have HPE := Lib.hid hpe; clear hpe
        go_wp2
        go_roundw
        case rel => exact ⟨k + 1, by omega, by go_num, HPE.out, HB.out.trans (hb1.mono HB.out.size)⟩
        case measure => simp [intOf]; omega
      · have hpe := LK p l [] k hlt HA.out hpx
        have HPE := Lib.hid hpe; clear hpe
        go_wp2
        go_ret
        exact ⟨Hg HPE.out.symm, HB.out.trans (hb1.mono HB.out.size)⟩
    · have HB := Lib.hid hb; clear hb
      go_wp2
      go_ret
      exact ⟨Hg (Hy p l (by have := HA.out; rwa [List.take_of_length_le (by omega)] at this)).symm, HB.out⟩
theorem Kv (g:Nat) (caps:Array Value) (p:List V2->Bool) (l:List (List V2)) (v:Value) (w:World) (hv:VecSSAt w v l) (hp:PredVS g caps p w) :
  Calls Tryz.prog 37 #[v,.func (.func g) #[] caps] w λ e w'=>e=.returned (.bool (l.any p))/\Below w.heap.size w w':=by
 rw [← Jb]
 have HV:=Lib.hid hv;clear hv
 have HP:=Lib.hid hp;clear hp
 go_enter Tryz.func37,Tryz.ntmps37
 go_wp2_with fail
 refine (PQ g caps p l _ _ HV.out HP.out).mono ?_
 rintro e w1 ⟨rfl,hb1⟩
 have HB:=Lib.hid hb1;clear hb1
 go_wp2
 go_ret
 exact ⟨rfl,HB.out⟩
theorem JW (W:World):PredVS 38 #[] (λ l=>!shape 200 l) W where
 enter:=λ args w=>by kernel_rfl
 calls:=λ l v w _ hv=>by
  show Calls Tryz.prog 38 #[v] w _
  have HV:=Lib.hid hv;clear hv
  go_enter Tryz.func38,Tryz.ntmps38
  go_wp2_with fail
  refine (KB 200 (by omega) (by omega) l _ _ HV.out).mono ?_
  rintro e w1 ⟨rfl,hb1⟩
  have HB:=Lib.hid hb1;clear hb1
  go_wp2
  go_ret
  exact ⟨rfl,HB.out⟩
theorem ME {w:World} {b:Nat} {x y u v:Int} (hb:b<w.heap.size) (h0:w.cell? ⟨b,0,none⟩=some (.int .i64 x)) (h1:w.cell? ⟨b,1,none⟩=some (.int .i64 y)) (h2:w.cell? ⟨b,2,none⟩=some (.int .i64 u)) (h3:w.cell? ⟨b,3,none⟩=some (.int .i64 v)) :
  VecsAt w (.slice (some ⟨b,0,none⟩) 2 2) [(x,y),(u,v)]:=by
 refine ⟨some ⟨b,0,none⟩,2,rfl,by simp,by decide,by simp [CS],.inr ⟨b,0,rfl,hb,?_⟩⟩
 intro j hj i hi
 simp at hj
 have hj' : j=0∨j=1:=by omega
 have hi' : i=0∨i=1:=by omega
 rcases hj' with rfl|rfl <;> rcases hi' with rfl|rfl <;> simp [CS,h0,h1,h2,h3]
theorem Na {lx ly hx hy:Int} {r:List V2} {o:List (List V2)} {t:List V2} (h:[(lx,ly),(hx,hy)].all (CH 200)=false):AG ⟨(lx,ly),(hx,hy),r,o,t⟩=false:=by simp only [AG,h];simp
theorem Nb {lx ly hx hy:Int} {r:List V2} {o:List (List V2)} {t:List V2} (h:¬ lx<hx):AG ⟨(lx,ly),(hx,hy),r,o,t⟩=false:=by simp [AG,h]
theorem Nc {lx ly hx hy:Int} {r:List V2} {o:List (List V2)} {t:List V2} (h:¬ ly<hy):AG ⟨(lx,ly),(hx,hy),r,o,t⟩=false:=by simp [AG,h]
theorem Nd {lx ly hx hy:Int} {r:List V2} {o:List (List V2)} {t:List V2} (h:shape 20 r=false):AG ⟨(lx,ly),(hx,hy),r,o,t⟩=false:=by simp [AG,h]
theorem Ne {lx ly hx hy:Int} {r:List V2} {o:List (List V2)} {t:List V2} (h:o.all (shape 200)=false):AG ⟨(lx,ly),(hx,hy),r,o,t⟩=false:=by simp only [AG,h];simp
theorem Nf {lx ly hx hy:Int} {r:List V2} {o:List (List V2)} {t:List V2} (h:¬ o.length<=4):AG ⟨(lx,ly),(hx,hy),r,o,t⟩=false:=by simp [AG,h]
theorem Ng {lx ly hx hy:Int} {r:List V2} {o:List (List V2)} {t:List V2} (h:¬ t.length<=3):AG ⟨(lx,ly),(hx,hy),r,o,t⟩=false:=by simp [AG,h]
theorem Nh {lx ly hx hy:Int} {r:List V2} {o:List (List V2)} {t:List V2} (h1:[(lx,ly),(hx,hy)].all (CH 200)=true) (h2:lx<hx) (h3:ly<hy) (h4:shape 20 r=true) (h5:o.all (shape 200)=true) (h6:o.length<=4) (h7:t.length<=3) :
  AG ⟨(lx,ly),(hx,hy),r,o,t⟩=t.all (CH 200):=by simp only [AG,h1,h2,h3,h4,h5,h6,h7];simp
set_option maxHeartbeats 1000000 in
theorem BU (s : Scn) (v : Value) (w : World) (hv : SceneAt w v s) :
    Calls Tryz.prog 16 #[v] w fun e w' => e = .returned (.bool (AG s)) ∧ Below w.heap.size w w' := by
  obtain ⟨⟨lx, ly⟩, ⟨hx, hy⟩, rob, obs, tabs⟩ := s
  obtain ⟨r, o, t, rfl, hr, ho, ht⟩ := hv
  simp only at hr ho ht
  have HR := Lib.hid hr
  have HO := Lib.hid ho
  have HT := Lib.hid ht
  obtain ⟨ra, rcap, rfl, _, _, _⟩ := hr.open
  obtain ⟨oa, ocap, rfl, _, olen, _⟩ := ho.open
  obtain ⟨ta, tcap, rfl, _, tlen, _⟩ := ht.open
  clear hr ho ht
  have olen' : obs.length ≤ 9223372036854775807 := by omega
  have tlen' : tabs.length ≤ 9223372036854775807 := by omega
  go_enter Tryz.func16, Tryz.ntmps16
  go_wp2_with fail
  refine (Kt 200 (by omega) (by omega) [(lx, ly), (hx, hy)] _ _ (ME (by simp) (by go_simp) (by go_simp) (by go_simp) (by go_simp))).mono ?_
  rintro e w1 ⟨rfl, h1⟩
  have B1 : Below w.heap.size w w1 := Below.trans (by (repeat (first | with_reducible exact Below.refl _ _ | with_reducible assumption | with_reducible refine Below.drew ?_ | with_reducible refine Below.setCell ?_ ?_ _ | with_reducible refine Below.alloc ?_ ?_ _)); all_goals first | (simp; done) | (simp; omega) | omega) (h1.mono (by first | (simp; done) | (simp; omega) | omega))
  have S1 := h1.size
  have T1 := B1.size
  try simp at S1
  obtain ⟨k1, f1⟩ := A6 h1
  try simp at k1
  try simp at f1
  have Hc1 := Lib.hid h1
  clear h1
  have u1_0 : w.heap.size < w1.heap.size := by omega
  have u1_1 : w.heap.size + 1 < w1.heap.size := by omega
  cases hA : [(lx, ly), (hx, hy)].all (CH 200)
  · go_wp2
    go_ret
    exact ⟨BD (Na hA).symm, (by (repeat (first | with_reducible exact Below.refl _ _ | with_reducible assumption | with_reducible refine Below.drew ?_ | with_reducible refine Below.setCell ?_ ?_ _ | with_reducible refine Below.alloc ?_ ?_ _)); all_goals first | (simp; done) | (simp; omega) | omega)⟩
  have HAL := Lib.hid hA
  by_cases h2 : lx < hx
  case neg =>
    go_wp2
    go_ret
    exact ⟨BD (Nb (by omega)).symm, (by (repeat (first | with_reducible exact Below.refl _ _ | with_reducible assumption | with_reducible refine Below.drew ?_ | with_reducible refine Below.setCell ?_ ?_ _ | with_reducible refine Below.alloc ?_ ?_ _)); all_goals first | (simp; done) | (simp; omega) | omega)⟩
  by_cases h3 : ly < hy
  case neg =>
    go_wp2
    go_ret
    exact ⟨BD (Nc (by omega)).symm, (by (repeat (first | with_reducible exact Below.refl _ _ | with_reducible assumption | with_reducible refine Below.drew ?_ | with_reducible refine Below.setCell ?_ ?_ _ | with_reducible refine Below.alloc ?_ ?_ _)); all_goals first | (simp; done) | (simp; omega) | omega)⟩
  go_wp2_with fail
  refine (KB 20 (by omega) (by omega) rob _ _ (HR.out.below B1)).mono ?_
  rintro e w2 ⟨rfl, h2⟩
  have B2 : Below w.heap.size w w2 := Below.trans (by (repeat (first | with_reducible exact Below.refl _ _ | with_reducible assumption | with_reducible refine Below.drew ?_ | with_reducible refine Below.setCell ?_ ?_ _ | with_reducible refine Below.alloc ?_ ?_ _)); all_goals first | (simp; done) | (simp; omega) | omega) (h2.mono (by first | (simp; done) | (simp; omega) | omega))
  have S2 := h2.size
  have T2 := B2.size
  try simp at S2
  obtain ⟨k2, f2⟩ := A6 h2
  try simp at k2
  try simp at f2
  have Hc2 := Lib.hid h2
  clear h2
  have u2_0 : w.heap.size < w2.heap.size := by omega
  have u2_1 : w.heap.size + 1 < w2.heap.size := by omega
  cases h4 : shape 20 rob
  · go_wp2
    go_ret
    exact ⟨BD (Nd h4).symm, (by (repeat (first | with_reducible exact Below.refl _ _ | with_reducible assumption | with_reducible refine Below.drew ?_ | with_reducible refine Below.setCell ?_ ?_ _ | with_reducible refine Below.alloc ?_ ?_ _)); all_goals first | (simp; done) | (simp; omega) | omega)⟩
  have H4 := Lib.hid h4
  by_cases h6 : obs.length ≤ 4
  case neg =>
    go_wp2
    go_ret
    exact ⟨BD (Nf (by omega)).symm, (by (repeat (first | with_reducible exact Below.refl _ _ | with_reducible assumption | with_reducible refine Below.drew ?_ | with_reducible refine Below.setCell ?_ ?_ _ | with_reducible refine Below.alloc ?_ ?_ _)); all_goals first | (simp; done) | (simp; omega) | omega)⟩
  go_wp2_with fail
  refine (Kv _ #[] _ obs _ _ (HO.out.below B2) (JW _)).mono ?_
  rintro e w3 ⟨rfl, h3⟩
  have B3 : Below w.heap.size w w3 := Below.trans (by (repeat (first | with_reducible exact Below.refl _ _ | with_reducible assumption | with_reducible refine Below.drew ?_ | with_reducible refine Below.setCell ?_ ?_ _ | with_reducible refine Below.alloc ?_ ?_ _)); all_goals first | (simp; done) | (simp; omega) | omega) (h3.mono (by first | (simp; done) | (simp; omega) | omega))
  have S3 := h3.size
  have T3 := B3.size
  try simp at S3
  obtain ⟨k3, f3⟩ := A6 h3
  try simp at k3
  try simp at f3
  have Hc3 := Lib.hid h3
  clear h3
  have u3_0 : w.heap.size < w3.heap.size := by omega
  have u3_1 : w.heap.size + 1 < w3.heap.size := by omega
  have e5 : (obs.any fun l => !shape 200 l) = !(obs.all (shape 200)) := by simp [List.not_all_eq_any_not]
  rw [e5]; clear e5
  cases h5 : obs.all (shape 200)
  · go_wp2
    go_ret
    exact ⟨BD (Ne h5).symm, (by (repeat (first | with_reducible exact Below.refl _ _ | with_reducible assumption | with_reducible refine Below.drew ?_ | with_reducible refine Below.setCell ?_ ?_ _ | with_reducible refine Below.alloc ?_ ?_ _)); all_goals first | (simp; done) | (simp; omega) | omega)⟩
  have H5 := Lib.hid h5
  by_cases h7 : tabs.length ≤ 3
  case neg =>
    go_wp2
    go_ret
    exact ⟨BD (Ng (by omega)).symm, (by (repeat (first | with_reducible exact Below.refl _ _ | with_reducible assumption | with_reducible refine Below.drew ?_ | with_reducible refine Below.setCell ?_ ?_ _ | with_reducible refine Below.alloc ?_ ?_ _)); all_goals first | (simp; done) | (simp; omega) | omega)⟩
  go_wp2_with fail
  refine (Kt 200 (by omega) (by omega) tabs _ _ (HT.out.below B3)).mono ?_
  rintro e w4 ⟨rfl, h4⟩
  have B4 : Below w.heap.size w w4 := Below.trans (by (repeat (first | with_reducible exact Below.refl _ _ | with_reducible assumption | with_reducible refine Below.drew ?_ | with_reducible refine Below.setCell ?_ ?_ _ | with_reducible refine Below.alloc ?_ ?_ _)); all_goals first | (simp; done) | (simp; omega) | omega) (h4.mono (by first | (simp; done) | (simp; omega) | omega))
  have S4 := h4.size
  have T4 := B4.size
  try simp at S4
  obtain ⟨k4, f4⟩ := A6 h4
  try simp at k4
  try simp at f4
  have Hc4 := Lib.hid h4
  clear h4
  have u4_0 : w.heap.size < w4.heap.size := by omega
  have u4_1 : w.heap.size + 1 < w4.heap.size := by omega
  go_wp2
  go_ret
  exact ⟨BD (Nh HAL.out (by omega) (by omega) H4.out H5.out (by omega) (by omega)).symm, (by (repeat (first | with_reducible exact Below.refl _ _ | with_reducible assumption | with_reducible refine Below.drew ?_ | with_reducible refine Below.setCell ?_ ?_ _ | with_reducible refine Below.alloc ?_ ?_ _)); all_goals first | (simp; done) | (simp; omega) | omega)⟩
end Go.Proofs.YtmekciknfocmmaaGreatDoor
namespace Go.Proofs.YtmekciknfocmmaaGreatDoor
set_option maxRecDepth 100000
set_option linter.unusedVariables false
set_option linter.unusedSimpArgs false
open Go.RowKit
theorem R4:ElemT Tryz.prog 25 24 2 16:=ElemT.mk' (.agg #[.int .i64 0,.int .i64 0]) Tryz.underlying25 (by kernel_rfl) rfl (by decide)
end Go.Proofs.YtmekciknfocmmaaGreatDoor
