import Derived.Test.YtdgmbbjoifneiaaGreatDoorProg
import Derived.Test.YtdgmbbjoifneiaaGreatDoorPyBas
import Derived.Outline
namespace Go.Proofs.YtdgmbbjoifneiaaGreatDoor
set_option maxRecDepth 100000
set_option linter.unusedVariables false
set_option linter.unusedSimpArgs false
open Go.RowKit
theorem G4 (n lo hi:Int) (w:World):Calls Tryz.prog 38 #[.int .i64 n,.int .i64 lo,.int .i64 hi] w λ e w'=>e=.returned (.bool (inR n lo hi))/\w=w':=by
 by_cases h1:lo<=n
 ·by_cases h2:n<=hi
  ·rw [MX h1 h2]
   go_enter Tryz.func38,Tryz.ntmps38
   go_wp2
   go_ret
   exact ⟨rfl,rfl⟩
  ·rw [MY (by omega)]
   go_enter Tryz.func38,Tryz.ntmps38
   go_wp2
   go_ret
   exact ⟨rfl,rfl⟩
 ·rw [Po (by omega)]
  go_enter Tryz.func38,Tryz.ntmps38
  go_wp2
  go_ret
  exact ⟨rfl,rfl⟩
theorem L5 (n lo hi:Int) (w:World):Calls Tryz.prog 56 #[.int .i64 n,.int .i64 lo,.int .i64 hi] w λ e w'=>e=.returned (.bool (inR n lo hi))/\w=w':=by
 by_cases h1:lo<=n
 ·by_cases h2:n<=hi
  ·rw [MX h1 h2]
   go_enter Tryz.func56,Tryz.ntmps56
   go_wp2
   go_ret
   exact ⟨rfl,rfl⟩
  ·rw [MY (by omega)]
   go_enter Tryz.func56,Tryz.ntmps56
   go_wp2
   go_ret
   exact ⟨rfl,rfl⟩
 ·rw [Po (by omega)]
  go_enter Tryz.func56,Tryz.ntmps56
  go_wp2
  go_ret
  exact ⟨rfl,rfl⟩
theorem QA (x y:Int) (w:World):Calls Tryz.prog 20 #[.agg #[.int .i64 x,.int .i64 y]] w λ e w'=>e=.returned (.bool (AE (x,y)))/\Below w.heap.size w w':=by
 have e:AE (x,y)=(inR x (-1000) 1000 && inR y (-1000) 1000):=rfl
 rw [e];clear e
 cases h1:inR x (-1000) 1000 <;> cases h2:inR y (-1000) 1000
 all_goals
  go_enter Tryz.func20,Tryz.ntmps20
  go_wp2_with (go_at_call 38;refine (G4 _ _ _ _).mono ?_;rintro e w' ⟨rfl,rfl⟩)
  go_ret
  exact ⟨rfl,(by (with_reducible repeat (first|exact Below.refl _ _|assumption|refine Below.drew ?_|refine Below.setCell ?_ ?_ _|refine Below.alloc ?_ ?_ _));all_goals first|(simp;done)|(simp;omega)|omega)⟩
theorem BI (x y:Int) (w:World):Calls Tryz.prog 53 #[.agg #[.int .i64 x,.int .i64 y]] w λ e w'=>e=.returned (.bool (AE (x,y)))/\Below w.heap.size w w':=by
 have e:AE (x,y)=(inR x (-1000) 1000 && inR y (-1000) 1000):=rfl
 rw [e];clear e
 cases h1:inR x (-1000) 1000 <;> cases h2:inR y (-1000) 1000
 all_goals
  go_enter Tryz.func53,Tryz.ntmps53
  go_wp2_with (go_at_call 56;refine (L5 _ _ _ _).mono ?_;rintro e w' ⟨rfl,rfl⟩)
  go_ret
  exact ⟨rfl,(by (with_reducible repeat (first|exact Below.refl _ _|assumption|refine Below.drew ?_|refine Below.setCell ?_ ?_ _|refine Below.alloc ?_ ?_ _));all_goals first|(simp;done)|(simp;omega)|omega)⟩
theorem TF (a1 a2 b1 b2 c1 c2:Int) (ha:AE (a1,a2)=true) (hb:AE (b1,b2)=true) (hc:AE (c1,c2)=true) (w:World) :
  Calls Tryz.prog 29 #[.agg #[.int .i64 a1,.int .i64 a2],.agg #[.int .i64 b1,.int .i64 b2],.agg #[.int .i64 c1,.int .i64 c2]] w λ e w'=>e=.returned (.int .i64 (AM (a1,a2) (b1,b2) (c1,c2)))/\Below w.heap.size w w':=by
 have A:=Ay ha
 have B:=Ay hb
 have C:=Ay hc
 simp only at A B C
 obtain ⟨xa1,xa2,xa3,xa4⟩:=A
 obtain ⟨xb1,xb2,xb3,xb4⟩:=B
 obtain ⟨xc1,xc2,xc3,xc4⟩:=C
 clear ha hb hc
 have m1:=Lm (a:=b1-a1) (b:=c2-a2) (m:=2000) (n:=2000) (by omega) (by omega) (by omega) (by omega)
 have m2:=Lm (a:=b2-a2) (b:=c1-a1) (m:=2000) (n:=2000) (by omega) (by omega) (by omega) (by omega)
 simp only [Int.reduceMul,Int.reduceNeg] at m1 m2
 obtain ⟨M1,M2⟩:=m1
 obtain ⟨M3,M4⟩:=m2
 go_enter Tryz.func29,Tryz.ntmps29
 go_wp2
 go_ret
 exact ⟨rfl,(by (with_reducible repeat (first|exact Below.refl _ _|assumption|refine Below.drew ?_|refine Below.setCell ?_ ?_ _|refine Below.alloc ?_ ?_ _));all_goals first|(simp;done)|(simp;omega)|omega)⟩
theorem TG (a1 a2 b1 b2 c1 c2:Int) (ha:AE (a1,a2)=true) (hb:AE (b1,b2)=true) (hc:AE (c1,c2)=true) (w:World) :
  Calls Tryz.prog 57 #[.agg #[.int .i64 a1,.int .i64 a2],.agg #[.int .i64 b1,.int .i64 b2],.agg #[.int .i64 c1,.int .i64 c2]] w λ e w'=>e=.returned (.int .i64 (AM (a1,a2) (b1,b2) (c1,c2)))/\Below w.heap.size w w':=by
 have A:=Ay ha
 have B:=Ay hb
 have C:=Ay hc
 simp only at A B C
 obtain ⟨xa1,xa2,xa3,xa4⟩:=A
 obtain ⟨xb1,xb2,xb3,xb4⟩:=B
 obtain ⟨xc1,xc2,xc3,xc4⟩:=C
 have m1:=Lm (a:=b1-a1) (b:=c2-a2) (m:=2000) (n:=2000) (by omega) (by omega) (by omega) (by omega)
 have m2:=Lm (a:=b2-a2) (b:=c1-a1) (m:=2000) (n:=2000) (by omega) (by omega) (by omega) (by omega)
 simp only [Int.reduceMul,Int.reduceNeg] at m1 m2
 obtain ⟨M1,M2⟩:=m1
 obtain ⟨M3,M4⟩:=m2
 go_enter Tryz.func57,Tryz.ntmps57
 go_wp2_with fail
 refine (BI _ _ _).mono ?_
 rintro e w1 ⟨rfl,h1⟩
 have B1:Below w.heap.size w w1:=Below.trans (by (with_reducible repeat (first|exact Below.refl _ _|assumption|refine Below.drew ?_|refine Below.setCell ?_ ?_ _|refine Below.alloc ?_ ?_ _));all_goals first|(simp;done)|(simp;omega)|omega) (h1.mono (by first|(simp;done)|(simp;omega)|omega))
 have S1:=h1.size
 have T1:=B1.size
 try simp at S1
 obtain ⟨k1,f1⟩:=MZ h1
 try simp at k1
 try simp at f1
 have Hc1:=Lib.hid h1
 clear h1
 have u1_0:w.heap.size<w1.heap.size:=by omega
 have u1_1:w.heap.size+1<w1.heap.size:=by omega
 have u1_2:w.heap.size+1+1<w1.heap.size:=by omega
 go_wp2_with fail
 refine (BI _ _ _).mono ?_
 rintro e w2 ⟨rfl,h2⟩
 have B2:Below w.heap.size w w2:=Below.trans (by (with_reducible repeat (first|exact Below.refl _ _|assumption|refine Below.drew ?_|refine Below.setCell ?_ ?_ _|refine Below.alloc ?_ ?_ _));all_goals first|(simp;done)|(simp;omega)|omega) (h2.mono (by first|(simp;done)|(simp;omega)|omega))
 have S2:=h2.size
 have T2:=B2.size
 try simp at S2
 obtain ⟨k2,f2⟩:=MZ h2
 try simp at k2
 try simp at f2
 have Hc2:=Lib.hid h2
 clear h2
 have u2_0:w.heap.size<w2.heap.size:=by omega
 have u2_1:w.heap.size+1<w2.heap.size:=by omega
 have u2_2:w.heap.size+1+1<w2.heap.size:=by omega
 go_wp2_with fail
 refine (BI _ _ _).mono ?_
 rintro e w3 ⟨rfl,h3⟩
 have B3:Below w.heap.size w w3:=Below.trans (by (with_reducible repeat (first|exact Below.refl _ _|assumption|refine Below.drew ?_|refine Below.setCell ?_ ?_ _|refine Below.alloc ?_ ?_ _));all_goals first|(simp;done)|(simp;omega)|omega) (h3.mono (by first|(simp;done)|(simp;omega)|omega))
 have S3:=h3.size
 have T3:=B3.size
 try simp at S3
 obtain ⟨k3,f3⟩:=MZ h3
 try simp at k3
 try simp at f3
 have Hc3:=Lib.hid h3
 clear h3
 have u3_0:w.heap.size<w3.heap.size:=by omega
 have u3_1:w.heap.size+1<w3.heap.size:=by omega
 have u3_2:w.heap.size+1+1<w3.heap.size:=by omega
 go_wp2
 go_ret
 exact ⟨rfl,(by (with_reducible repeat (first|exact Below.refl _ _|assumption|refine Below.drew ?_|refine Below.setCell ?_ ?_ _|refine Below.alloc ?_ ?_ _));all_goals first|(simp;done)|(simp;omega)|omega)⟩
end Go.Proofs.YtdgmbbjoifneiaaGreatDoor
namespace Go.Proofs.YtdgmbbjoifneiaaGreatDoor
set_option maxRecDepth 100000
set_option linter.unusedVariables false
set_option linter.unusedSimpArgs false
open Go.RowKit
structure PredVec (g:Nat) (caps:Array Value) (p:V2->Bool) (W:World):Prop where
 enter:∀ (args:Array Value) (w:World),(callFunc g args).run Tryz.prog w=.ok (.enter g args) w
 calls:∀ (x y:Int) (w:World),Below W.heap.size W w->Calls Tryz.prog g (#[.agg #[.int .i64 x,.int .i64 y]]++caps) w λ e w'=>e=.returned (.bool (p (x,y)))/\Below w.heap.size w w'
set_option maxHeartbeats 400000 in
theorem PA (g : Nat) (caps : Array Value) (p : V2 → Bool) (l : List V2) (v : Value) (w : World) (hv : VecsAt w v l) (hp : PredVec g caps p w) :
    Calls Tryz.prog 58 #[v, .func (.func g) #[] caps] w fun e w' => e = .returned (.int .i64 (EE p l)) ∧ Below w.heap.size w w' := by
  obtain ⟨a, cap, rfl, hl, hc, hcell⟩ := hv.open
  have hent := hp.enter
  have HP := Lib.hid hp.calls; clear hp
  have HC := Lib.hid hcell; clear hcell hv
  go_enter Tryz.func58, Tryz.ntmps58
  go_wp2
  go_loopw [8] (fun i wr => ∃ k : Nat, k ≤ l.length ∧ i = .int .i64 k ∧ (l.take k).any p = false ∧ Below w.heap.size w wr) (fun i _ => l.length - (intOf i).toNat)
  case atStart => exact ⟨0, Nat.zero_le _, rfl, by simp, Below.refl _ _⟩
  case round =>
    obtain ⟨k, hk, rfl, hany, hb⟩ := hrel
    have HA := Lib.hid hany; clear hany
    by_cases hlt : k < l.length
    · obtain ⟨b, off, rfl, hbs, c0, c1⟩ := HC.out k hlt
      have d0 := (hb.cell (p := ⟨b, off + k * 2, none⟩) hbs).trans c0
      have d1 := (hb.cell (p := ⟨b, off + k * 2 + 1, none⟩) hbs).trans c1
      obtain ⟨x, y, hxy⟩ : ∃ x y, l.getD k (0, 0) = (x, y) := ⟨_, _, rfl⟩
      rw [hxy] at d0 d1
      simp only at d0 d1
      clear c0 c1
      have HX := Lib.hid hxy; clear hxy
      have HB := Lib.hid hb; clear hb
      go_wp2_with fail
      refine (HP.out x y _ HB.out).mono ?_
      rintro e w1 ⟨rfl, hb1⟩
      cases hpx : p (x, y)
      · go_wp2
        go_roundw
        case rel => exact ⟨k + 1, by omega, by go_num, by rw [KQ p l (0, 0) k hlt, HA.out, HX.out, hpx]; rfl, HB.out.trans (hb1.mono HB.out.size)⟩
        case measure => simp [intOf]; omega
      · go_wp2
        go_ret
        exact ⟨Pp (SH p l (0, 0) k hlt HA.out (by rw [HX.out]; exact hpx)).symm, HB.out.trans (hb1.mono HB.out.size)⟩
    · have HB := Lib.hid hb; clear hb
      go_wp2
      go_ret
      exact ⟨Pp (OQ p l (by have := HA.out; rwa [List.take_of_length_le (by omega)] at this)).symm, HB.out⟩
theorem Ka (g:Nat) (caps:Array Value) (p:V2->Bool) (l:List V2) (v:Value) (w:World) (hv:VecsAt w v l) (hp:PredVec g caps p w) :
  Calls Tryz.prog 39 #[v,.func (.func g) #[] caps] w λ e w'=>e=.returned (.bool (l.any p))/\Below w.heap.size w w':=by
 rw [← Qu]
 have HV:=Lib.hid hv;clear hv
 have HP:=Lib.hid hp;clear hp
 go_enter Tryz.func39,Tryz.ntmps39
 go_wp2_with fail
 refine (PA g caps p l _ _ HV.out HP.out).mono ?_
 rintro e w1 ⟨rfl,hb1⟩
 have HB:=Lib.hid hb1;clear hb1
 go_wp2
 go_ret
 exact ⟨rfl,HB.out⟩
theorem PB (W:World):PredVec 40 #[] (λ p=>!AE p) W where
 enter:=λ args w=>by kernel_rfl
 calls:=λ x y w _=>by
  show Calls Tryz.prog 40 #[.agg #[.int .i64 x,.int .i64 y]] w _
  go_enter Tryz.func40,Tryz.ntmps40
  go_wp2_with fail
  refine (QA _ _ _).mono ?_
  rintro e w1 ⟨rfl,h1⟩
  have B1:Below w.heap.size w w1:=Below.trans (by (with_reducible repeat (first|exact Below.refl _ _|assumption|refine Below.drew ?_|refine Below.setCell ?_ ?_ _|refine Below.alloc ?_ ?_ _));all_goals first|(simp;done)|(simp;omega)|omega) (h1.mono (by first|(simp;done)|(simp;omega)|omega))
  have S1:=h1.size
  have T1:=B1.size
  try simp at S1
  obtain ⟨k1,f1⟩:=MZ h1
  try simp at k1
  try simp at f1
  have Hc1:=Lib.hid h1
  clear h1
  have u1_0:w.heap.size<w1.heap.size:=by omega
  go_wp2
  go_ret
  exact ⟨rfl,(by (with_reducible repeat (first|exact Below.refl _ _|assumption|refine Below.drew ?_|refine Below.setCell ?_ ?_ _|refine Below.alloc ?_ ?_ _));all_goals first|(simp;done)|(simp;omega)|omega)⟩
theorem H3 (l:List V2) (v:Value) (w:World) (hv:VecsAt w v l) :
  Calls Tryz.prog 21 #[v] w λ e w'=>e=.returned (.bool (l.all AE))/\Below w.heap.size w w':=by
 have e:l.all AE=!(l.any λ p=>!AE p):=by simp [List.not_any_eq_all_not]
 rw [e];clear e
 have HV:=Lib.hid hv;clear hv
 go_enter Tryz.func21,Tryz.ntmps21
 go_wp2_with fail
 refine (Ka _ #[] _ l _ _ HV.out (PB _)).mono ?_
 rintro e w1 ⟨rfl,hb1⟩
 have HB:=Lib.hid hb1;clear hb1
 go_wp2
 go_ret
 exact ⟨rfl,HB.out⟩
end Go.Proofs.YtdgmbbjoifneiaaGreatDoor
namespace Go.Proofs.YtdgmbbjoifneiaaGreatDoor
set_option maxRecDepth 100000
set_option linter.unusedVariables false
set_option linter.unusedSimpArgs false
open Go.RowKit
theorem G5 (l:List V2) (h:inR l.length 3 16=false):AI l=false:=by simp [AI,h]
theorem Js (l:List V2) (h:l.all AE=false):AI l=false:=by simp only [AI,h];simp
theorem Ia (l:List V2) (h1:inR l.length 3 16=true) (h2:l.all AE=true):AI l=(List.range l.length).all (Gi l):=by simp only [AI,h1,h2];rfl
theorem Ib (l:List V2) (k j m:Nat) (hm:m=(k+1)%l.length) (pa pb pc:V2) (ha:l.getD k (0,0)=pa) (hb:l.getD m (0,0)=pb) (hc:l.getD j (0,0)=pc) :
  ED l k j=(decide (j=k) || decide (j=m) || decide (0<AM pa pb pc)):=by
 subst hm ha hb hc;rfl
set_option maxHeartbeats 2000000 in
theorem NY (l : List V2) (v : Value) (w : World) (hv : VecsAt w v l) :
    Calls Tryz.prog 24 #[v] w fun e w' => e = .returned (.bool (AI l)) ∧ Below w.heap.size w w' := by
  have HV := Lib.hid hv
  obtain ⟨a, cap, rfl, hl, hc, hcell⟩ := hv.open
  have HC := Lib.hid hcell; clear hcell hv
  cases h1 : inR l.length 3 16
  · rw [G5 l h1]
    go_enter Tryz.func24, Tryz.ntmps24
    go_wp2_with fail
    refine (G4 _ _ _ _).mono ?_
    rintro e w' ⟨rfl, rfl⟩
    go_wp2
    go_ret
    exact ⟨rfl, Below.refl _ _⟩
  · have hn := Dm.1 h1
    obtain ⟨hn1, hn2⟩ := hn
    have hn3 : 3 ≤ l.length := by omega
    have hn4 : l.length ≤ 16 := by omega
    clear hn1 hn2
    cases h2 : l.all AE
    · rw [Js l h2]
      go_enter Tryz.func24, Tryz.ntmps24
      go_wp2_with fail
      refine (G4 _ _ _ _).mono ?_
      rintro e w' ⟨rfl, rfl⟩
      go_wp2_with fail
      refine (H3 l _ _ HV.out).mono ?_
      rintro e w1 ⟨rfl, hb1⟩
      have HB := Lib.hid hb1; clear hb1
      go_wp2
      go_ret
      exact ⟨rfl, HB.out⟩
    · rw [Ia l h1 h2]
      have HI := Lib.hid h2
      go_enter Tryz.func24, Tryz.ntmps24
      go_wp2_with fail
      refine (G4 _ _ _ _).mono ?_
      rintro e w' ⟨rfl, rfl⟩
      go_wp2_with fail
      refine (H3 l _ _ HV.out).mono ?_
      rintro e w1 ⟨rfl, hb1⟩
      have HB := Lib.hid hb1; clear hb1
      go_wp2
      clear h1 h2
      go_loopw [21] (fun i wr => ∃ k : Nat, k ≤ l.length ∧ i = .int .i64 k ∧ (List.range k).all (Gi l) = true ∧ Below w.heap.size w wr) (fun i _ => l.length - (intOf i).toNat)
      case atStart => exact ⟨0, Nat.zero_le _, rfl, by simp, HB.out⟩
      case round =>
        obtain ⟨k, hk, rfl, hall, hb⟩ := hrel
        have HA := Lib.hid hall; clear hall
        by_cases hlt : k < l.length
        · obtain ⟨m, hm⟩ : ∃ m, m = (k + 1) % l.length := ⟨_, rfl⟩
          have hmlt : m < l.length := by rw [hm]; exact Nat.mod_lt _ (by omega)
          have hmi : ((k : Int) + 1) % (l.length : Int) = (m : Int) := by rw [hm]; simp
          obtain ⟨b, off, rfl, hbs, c0, c1⟩ := HC.out k hlt
          obtain ⟨b', off', he, _, c2, c3⟩ := HC.out m hmlt
          obtain ⟨rfl, rfl⟩ : b' = b ∧ off' = off := by simpa [eq_comm] using he
          clear he
          have d0 := (hb.cell (p := ⟨b', off' + k * 2, none⟩) hbs).trans c0
          have d1 := (hb.cell (p := ⟨b', off' + k * 2 + 1, none⟩) hbs).trans c1
          have d2 := (hb.cell (p := ⟨b', off' + m * 2, none⟩) hbs).trans c2
          have d3 := (hb.cell (p := ⟨b', off' + m * 2 + 1, none⟩) hbs).trans c3
          have va := DN HI.out (0, 0) k hlt
          have vb := DN HI.out (0, 0) m hmlt
          obtain ⟨x, y, hxy⟩ : ∃ x y, l.getD k (0, 0) = (x, y) := ⟨_, _, rfl⟩
          obtain ⟨x', y', hxy'⟩ : ∃ x y, l.getD m (0, 0) = (x, y) := ⟨_, _, rfl⟩
          rw [hxy] at d0 d1 va
          rw [hxy'] at d2 d3 vb
          simp only at d0 d1 d2 d3
          have hz : b' < wr.heap.size := Nat.lt_of_lt_of_le hbs hb.size
          have hws := hb.size
          clear c0 c1 c2 c3
          have HX := Lib.hid hxy; clear hxy
          have HX' := Lib.hid hxy'; clear hxy'
          have HM := Lib.hid hm; clear hm
          have HVA := Lib.hid va; clear va
          have HVB := Lib.hid vb; clear vb
          have HB' := Lib.hid hb; clear hb HB
          obtain ⟨wo, rfl⟩ : ∃ wo : World, wo = wr := ⟨_, rfl⟩
          go_wp2
          have HW1 : Below w.heap.size w ((wo.alloc (.cells #[.int .i64 x, .int .i64 y] 26)).alloc (.cells #[.int .i64 x', .int .i64 y'] 26)) := (HB'.out.alloc hws _).alloc (by simp; omega) _
          have HH := Lib.hid HW1; clear HW1 d0 d1 d2 d3
          rw [hmi]
          go_loopw [35] (fun i wr => ∃ j : Nat, j ≤ l.length ∧ i = .int .i64 j ∧ (List.range j).all (ED l k) = true ∧ Below (wo.heap.size + 2) ((wo.alloc (.cells #[.int .i64 x, .int .i64 y] 26)).alloc (.cells #[.int .i64 x', .int .i64 y'] 26)) wr) (fun i _ => l.length - (intOf i).toNat)
          case atStart => exact ⟨0, Nat.zero_le _, rfl, by simp, Below.refl _ _⟩
          case round =>
            obtain ⟨j, hj, rfl, hall, hb⟩ := hrel
            have HA2 := Lib.hid hall; clear hall
            have e0 : wr.cell? ⟨wo.heap.size, 0, none⟩ = some (.int .i64 x) := (hb.cell (p := ⟨wo.heap.size, 0, none⟩) (by simp)).trans (by go_simp)
            have e1 : wr.cell? ⟨wo.heap.size, 1, none⟩ = some (.int .i64 y) := (hb.cell (p := ⟨wo.heap.size, 1, none⟩) (by simp)).trans (by go_simp)
            have e2 : wr.cell? ⟨wo.heap.size + 1, 0, none⟩ = some (.int .i64 x') := (hb.cell (p := ⟨wo.heap.size + 1, 0, none⟩) (by simp)).trans (by go_simp)
            have e3 : wr.cell? ⟨wo.heap.size + 1, 1, none⟩ = some (.int .i64 y') := (hb.cell (p := ⟨wo.heap.size + 1, 1, none⟩) (by simp)).trans (by go_simp)
            have hsz := hb.size
            simp only [World.size_alloc] at hsz
            have z0 : wo.heap.size < wr.heap.size := by omega
            have z1 : wo.heap.size + 1 < wr.heap.size := by omega
            have z2 : b' < wr.heap.size := by omega
            have zw : w.heap.size ≤ wr.heap.size := by omega
            have HB2 := Lib.hid (HH.out.trans (hb.mono (by omega)))
            have hbb := hb.cell (p := ⟨b', off' + j * 2, none⟩) (by show b' < _; omega)
            have hbb' := hb.cell (p := ⟨b', off' + j * 2 + 1, none⟩) (by show b' < _; omega)
            have hbo := HH.out.cell (p := ⟨b', off' + j * 2, none⟩) hbs
            have hbo' := HH.out.cell (p := ⟨b', off' + j * 2 + 1, none⟩) hbs
            have HR := Lib.hid hb; clear hb
            by_cases hjlt : j < l.length
            · obtain ⟨b2, off2, he, _, c4, c5⟩ := HC.out j hjlt
              obtain ⟨rfl, rfl⟩ : b2 = b' ∧ off2 = off' := by simpa [eq_comm] using he
              clear he
              have d4 := hbb.trans (hbo.trans c4)
              have d5 := hbb'.trans (hbo'.trans c5)
              have vc := DN HI.out (0, 0) j hjlt
              obtain ⟨px, py, hpp⟩ : ∃ x y, l.getD j (0, 0) = (x, y) := ⟨_, _, rfl⟩
              rw [hpp] at d4 d5 vc
              simp only at d4 d5
              clear hbb hbb' hbo hbo' c4 c5
              have HP := Lib.hid hpp; clear hpp
              have HVC := Lib.hid vc; clear vc
              have hst := Ib l k j m HM.out _ _ _ HX.out HX'.out HP.out
              have HST := Lib.hid hst; clear hst
              by_cases hjk : j = k
              · have hn1 : ((j : Int) != (k : Int)) = false := by simp [hjk]
                have HJ := Lib.hid hjk; clear hjk
                go_wp2
                go_roundw
                case rel => exact ⟨j + 1, by omega, by go_num, by rw [At, HA2.out, HST.out, HJ.out]; simp, HR.out.alloc (by omega) _⟩
                case measure => simp [intOf]; omega
              · have hn1 : ((j : Int) != (k : Int)) = true := by simp; omega
                have HJ := Lib.hid hjk; clear hjk
                by_cases hjm : j = m
                · have hn2 : ((j : Int) != (m : Int)) = false := by simp [hjm]
                  have HJM := Lib.hid hjm; clear hjm
                  go_wp2
                  go_roundw
                  case rel => exact ⟨j + 1, by omega, by go_num, by rw [At, HA2.out, HST.out, HJM.out]; simp, HR.out.alloc (by omega) _⟩
                  case measure => simp [intOf]; omega
                · have hn2 : ((j : Int) != (m : Int)) = true := by simp; omega
                  have HJM := Lib.hid hjm; clear hjm
                  go_wp2_with fail
                  refine (TF _ _ _ _ _ _ HVA.out HVB.out HVC.out _).mono ?_
                  rintro e w2 ⟨rfl, hb2⟩
                  have hb2s := hb2.size
                  simp only [World.size_alloc] at hb2s
                  have HB3 := Lib.hid hb2; clear hb2
                  by_cases ht : AM (x, y) (x', y') (px, py) ≤ 0
                  · go_wp2
                    go_ret
                    refine ⟨FF (Bv _ _ k hlt ?_).symm, (HB2.out.alloc zw _).trans (HB3.out.mono (by simp; omega))⟩
                    refine Bv _ _ j hjlt ?_
                    rw [HST.out]
                    simp [HJ.out, HJM.out, ht]
                  · go_wp2
                    go_roundw
                    case rel =>
                      refine ⟨j + 1, by omega, by go_num, ?_, (HR.out.alloc (by omega) _).trans (HB3.out.mono (by simp; omega))⟩
                      rw [At, HA2.out, HST.out]
                      have : 0 < AM (x, y) (x', y') (px, py) := by omega
                      simp [this]
                    case measure => simp [intOf]; omega
            · clear hbb hbb' hbo hbo'
              go_wp2
              go_roundw
              case rel =>
                refine ⟨k + 1, by omega, by go_num, ?_, HB2.out⟩
                rw [At, HA.out]
                have := HA2.out
                rw [show j = l.length by omega] at this
                simpa [Gi] using this
              case measure => simp [intOf]; omega
        · have HB' := Lib.hid hb; clear hb HB
          go_wp2
          go_ret
          exact ⟨FF (by have := HA.out; rw [show k = l.length by omega] at this; exact this.symm), HB'.out⟩
theorem Kb (l:List V2) (k j:Nat) (hk:k<l.length) (hj:j<l.length) (h:ED l k j=false):AI l=false:=by
 have h1:Gi l k=false:=Bv _ _ j hj h
 have h2:(List.range l.length).all (Gi l)=false:=Bv _ _ k hk h1
 simp only [AI,h2];simp
set_option maxHeartbeats 2000000 in
theorem L6 (l : List V2) (v : Value) (w : World) (hv : VecsAt w v l) :
    Calls Tryz.prog 35 #[v] w fun e w' => e = .returned (.bool (AI l)) ∧ Below w.heap.size w w' := by
  obtain ⟨a, cap, rfl, hl, hc, hcell⟩ := hv.open
  have HC := Lib.hid hcell; clear hcell hv
  cases h1 : inR l.length 3 16
  · rw [G5 l h1]
    go_enter Tryz.func35, Tryz.ntmps35
    go_wp2_with fail
    refine (L5 _ _ _ _).mono ?_
    rintro e w' ⟨rfl, rfl⟩
    go_wp2
    go_ret
    exact ⟨rfl, Below.refl _ _⟩
  · have hn := Dm.1 h1
    obtain ⟨hn1, hn2⟩ := hn
    have hn3 : 3 ≤ l.length := by omega
    have hn4 : l.length ≤ 16 := by omega
    clear hn1 hn2
    have HH1 := Lib.hid h1
    go_enter Tryz.func35, Tryz.ntmps35
    go_wp2_with fail
    refine (L5 _ _ _ _).mono ?_
    rintro e w' ⟨rfl, rfl⟩
    go_wp2
    clear h1
    go_loopw [16] (fun i wr => ∃ k : Nat, k ≤ l.length ∧ i = .int .i64 k ∧ (k = 0 ∨ l.all AE = true) ∧ (List.range k).all (Gi l) = true ∧ Below w.heap.size w wr) (fun i _ => l.length - (intOf i).toNat)
    case atStart => exact ⟨0, Nat.zero_le _, rfl, .inl rfl, by simp, Below.refl _ _⟩
    case round =>
      obtain ⟨k, hk, rfl, hkv, hall, hb⟩ := hrel
      have HA := Lib.hid hall; clear hall
      have HK := Lib.hid hkv; clear hkv
      by_cases hlt : k < l.length
      · obtain ⟨m, hm⟩ : ∃ m, m = (k + 1) % l.length := ⟨_, rfl⟩
        have hmlt : m < l.length := by rw [hm]; exact Nat.mod_lt _ (by omega)
        have hmi : ((k : Int) + 1) % (l.length : Int) = (m : Int) := by rw [hm]; simp
        obtain ⟨b, off, rfl, hbs, c0, c1⟩ := HC.out k hlt
        obtain ⟨b', off', he, _, c2, c3⟩ := HC.out m hmlt
        obtain ⟨rfl, rfl⟩ : b' = b ∧ off' = off := by simpa [eq_comm] using he
        clear he
        have d0 := (hb.cell (p := ⟨b', off' + k * 2, none⟩) hbs).trans c0
        have d1 := (hb.cell (p := ⟨b', off' + k * 2 + 1, none⟩) hbs).trans c1
        have d2 := (hb.cell (p := ⟨b', off' + m * 2, none⟩) hbs).trans c2
        have d3 := (hb.cell (p := ⟨b', off' + m * 2 + 1, none⟩) hbs).trans c3
        obtain ⟨x, y, hxy⟩ : ∃ x y, l.getD k (0, 0) = (x, y) := ⟨_, _, rfl⟩
        obtain ⟨x', y', hxy'⟩ : ∃ x y, l.getD m (0, 0) = (x, y) := ⟨_, _, rfl⟩
        rw [hxy] at d0 d1
        rw [hxy'] at d2 d3
        simp only at d0 d1 d2 d3
        have hz : b' < wr.heap.size := Nat.lt_of_lt_of_le hbs hb.size
        have hws := hb.size
        clear c0 c1 c2 c3
        have HX := Lib.hid hxy; clear hxy
        have HX' := Lib.hid hxy'; clear hxy'
        have HM := Lib.hid hm; clear hm
        have HB' := Lib.hid hb; clear hb
        obtain ⟨wo, rfl⟩ : ∃ wo : World, wo = wr := ⟨_, rfl⟩
        go_wp2
        have HW1 : Below w.heap.size w ((wo.alloc (.cells #[.int .i64 x, .int .i64 y] 26)).alloc (.cells #[.int .i64 x', .int .i64 y'] 26)) := (HB'.out.alloc hws _).alloc (by simp; omega) _
        have HH := Lib.hid HW1; clear HW1 d0 d1 d2 d3
        try rw [hmi]
        go_loopw [30] (fun i wr => ∃ j : Nat, j ≤ l.length ∧ i = .int .i64 j ∧ (l.take j).all AE = true ∧ (List.range j).all (ED l k) = true ∧ Below (wo.heap.size + 2) ((wo.alloc (.cells #[.int .i64 x, .int .i64 y] 26)).alloc (.cells #[.int .i64 x', .int .i64 y'] 26)) wr) (fun i _ => l.length - (intOf i).toNat)
        case atStart => exact ⟨0, Nat.zero_le _, rfl, by simp, by simp, Below.refl _ _⟩
        case round =>
          obtain ⟨j, hj, rfl, hjv, hall, hb⟩ := hrel
          have HA2 := Lib.hid hall; clear hall
          have HJV := Lib.hid hjv; clear hjv
          have e0 : wr.cell? ⟨wo.heap.size, 0, none⟩ = some (.int .i64 x) := (hb.cell (p := ⟨wo.heap.size, 0, none⟩) (by simp)).trans (by go_simp)
          have e1 : wr.cell? ⟨wo.heap.size, 1, none⟩ = some (.int .i64 y) := (hb.cell (p := ⟨wo.heap.size, 1, none⟩) (by simp)).trans (by go_simp)
          have e2 : wr.cell? ⟨wo.heap.size + 1, 0, none⟩ = some (.int .i64 x') := (hb.cell (p := ⟨wo.heap.size + 1, 0, none⟩) (by simp)).trans (by go_simp)
          have e3 : wr.cell? ⟨wo.heap.size + 1, 1, none⟩ = some (.int .i64 y') := (hb.cell (p := ⟨wo.heap.size + 1, 1, none⟩) (by simp)).trans (by go_simp)
          have hsz := hb.size
          simp only [World.size_alloc] at hsz
          have z0 : wo.heap.size < wr.heap.size := by omega
          have z1 : wo.heap.size + 1 < wr.heap.size := by omega
          have z2 : b' < wr.heap.size := by omega
          have zw : w.heap.size ≤ wr.heap.size := by omega
          have HB2 := Lib.hid (HH.out.trans (hb.mono (by omega)))
          have hbb := hb.cell (p := ⟨b', off' + j * 2, none⟩) (by show b' < _; omega)
          have hbb' := hb.cell (p := ⟨b', off' + j * 2 + 1, none⟩) (by show b' < _; omega)
          have hbo := HH.out.cell (p := ⟨b', off' + j * 2, none⟩) hbs
          have hbo' := HH.out.cell (p := ⟨b', off' + j * 2 + 1, none⟩) hbs
          have HR := Lib.hid hb; clear hb
          by_cases hjlt : j < l.length
          · obtain ⟨b2, off2, he, _, c4, c5⟩ := HC.out j hjlt
            obtain ⟨rfl, rfl⟩ : b2 = b' ∧ off2 = off' := by simpa [eq_comm] using he
            clear he
            have d4 := hbb.trans (hbo.trans c4)
            have d5 := hbb'.trans (hbo'.trans c5)
            obtain ⟨px, py, hpp⟩ : ∃ x y, l.getD j (0, 0) = (x, y) := ⟨_, _, rfl⟩
            rw [hpp] at d4 d5
            simp only at d4 d5
            clear hbb hbb' hbo hbo' c4 c5
            have HP := Lib.hid hpp; clear hpp
            have hst := Ib l k j m HM.out _ _ _ HX.out HX'.out HP.out
            have HST := Lib.hid hst; clear hst
            cases hvc : AE (px, py)
            · go_wp2_with fail
              refine (BI _ _ _).mono ?_
              rintro e w2 ⟨rfl, hb2⟩
              have HB3 := Lib.hid hb2; clear hb2
              go_wp2
              go_ret
              refine ⟨FF (Js l (I7 _ l (0, 0) j hjlt (by rw [HP.out]; exact hvc))).symm, (HB2.out.alloc zw _).trans (HB3.out.mono (by simp; omega))⟩
            · have HVC := Lib.hid hvc
              have HJV' : Hid ((l.take (j + 1)).all AE = true) := by show _ = _; rw [KR _ l (0, 0) j hjlt, HJV.out, HP.out, hvc]; rfl
              by_cases hjk : j = k
              · have hn1 : ((j : Int) != (k : Int)) = false := by simp [hjk]
                have HJ := Lib.hid hjk; clear hjk
                go_wp2_with fail
                refine (BI _ _ _).mono ?_
                rintro e w2 ⟨rfl, hb2⟩
                have HB3 := Lib.hid hb2; clear hb2
                go_wp2
                go_roundw
                case rel => exact ⟨j + 1, by omega, by go_num, HJV'.out, by rw [At, HA2.out, HST.out, HJ.out]; simp, (HR.out.alloc (by omega) _).trans (HB3.out.mono (by simp; omega))⟩
                case measure => simp [intOf]; omega
              · have hn1 : ((j : Int) != (k : Int)) = true := by simp; omega
                have HJ := Lib.hid hjk; clear hjk
                by_cases hjm : j = m
                · have hn2 : ((j : Int) != (m : Int)) = false := by simp [hjm]
                  have HJM := Lib.hid hjm; clear hjm
                  go_wp2_with fail
                  refine (BI _ _ _).mono ?_
                  rintro e w2 ⟨rfl, hb2⟩
                  have HB3 := Lib.hid hb2; clear hb2
                  go_wp2
                  go_roundw
                  case rel => exact ⟨j + 1, by omega, by go_num, HJV'.out, by rw [At, HA2.out, HST.out, HJM.out]; simp, (HR.out.alloc (by omega) _).trans (HB3.out.mono (by simp; omega))⟩
                  case measure => simp [intOf]; omega
                · have hn2 : ((j : Int) != (m : Int)) = true := by simp; omega
                  have HJM := Lib.hid hjm; clear hjm
                  have hvab : AE (x, y) = true ∧ AE (x', y') = true := by
                    rw [← HX.out, ← HX'.out]
                    rcases HK.out with h0 | h0
                    · have hm1 : m = 1 := by have := HM.out; rw [h0, Nat.mod_eq_of_lt (by omega)] at this; omega
                      have hj1 := HJ.out
                      have hj2 := HJM.out
                      have g0 := DN HJV.out (0, 0) k (by simp; omega)
                      have g1 := DN HJV.out (0, 0) m (by simp; omega)
                      simp only [List.getD, List.getElem?_take] at g0 g1 ⊢
                      rw [if_pos (by omega)] at g0 g1
                      exact ⟨g0, g1⟩
                    · exact ⟨DN h0 (0, 0) k hlt, DN h0 (0, 0) m hmlt⟩
                  have HVAB := Lib.hid hvab; clear hvab
                  go_wp2_with fail
                  refine (BI _ _ _).mono ?_
                  rintro e w2 ⟨rfl, hb2⟩
                  have S2 := hb2.size
                  simp only [World.size_alloc] at S2
                  obtain ⟨k2, f2⟩ := MZ hb2
                  simp only [World.size_alloc] at k2 f2
                  have u0 : wo.heap.size < w2.heap.size := by omega
                  have u1 : wo.heap.size + 1 < w2.heap.size := by omega
                  have u2 : wr.heap.size < w2.heap.size := by omega
                  have v0 : wo.heap.size < wr.heap.size + 1 := by omega
                  have v1 : wo.heap.size + 1 < wr.heap.size + 1 := by omega
                  have HB3 := Lib.hid hb2; clear hb2
                  go_wp2_with fail
                  refine (TG _ _ _ _ _ _ HVAB.out.1 HVAB.out.2 HVC.out _).mono ?_
                  rintro e w3 ⟨rfl, hb3⟩
                  have S3 := hb3.size
                  have HB4 := Lib.hid hb3; clear hb3
                  clear hvc
                  by_cases ht : AM (x, y) (x', y') (px, py) ≤ 0
                  · go_wp2
                    go_ret
                    refine ⟨FF (Kb l k j hlt hjlt ?_).symm, ((HB2.out.alloc zw _).trans (HB3.out.mono (by simp; omega))).trans (HB4.out.mono (by omega))⟩
                    rw [HST.out]
                    simp [HJ.out, HJM.out, ht]
                  · go_wp2
                    go_roundw
                    case rel =>
                      refine ⟨j + 1, by omega, by go_num, HJV'.out, ?_, ((HR.out.alloc (by omega) _).trans (HB3.out.mono (by simp; omega))).trans (HB4.out.mono (by omega))⟩
                      rw [At, HA2.out, HST.out]
                      have : 0 < AM (x, y) (x', y') (px, py) := by omega
                      simp [this]
                    case measure => simp [intOf]; omega
          · clear hbb hbb' hbo hbo'
            go_wp2
            go_roundw
            case rel =>
              have hje : j = l.length := by omega
              refine ⟨k + 1, by omega, by go_num, .inr ?_, ?_, HB2.out⟩
              · have := HJV.out
                rw [hje, List.take_length] at this
                exact this
              · rw [At, HA.out]
                have := HA2.out
                rw [hje] at this
                simpa [Gi] using this
            case measure => simp [intOf]; omega
      · have HB' := Lib.hid hb; clear hb
        go_wp2
        go_ret
        refine ⟨FF ?_, HB'.out⟩
        have hke : k = l.length := by omega
        have h3 := HA.out
        rw [hke] at h3
        rcases HK.out with h0 | h0
        · omega
        · rw [Ia l HH1.out h0, h3]
end Go.Proofs.YtdgmbbjoifneiaaGreatDoor
namespace Go.Proofs.YtdgmbbjoifneiaaGreatDoor
set_option maxRecDepth 100000
set_option linter.unusedVariables false
set_option linter.unusedSimpArgs false
open Go.RowKit
end Go.Proofs.YtdgmbbjoifneiaaGreatDoor
namespace Go.Proofs.YtdgmbbjoifneiaaGreatDoor
set_option maxRecDepth 100000
set_option linter.unusedVariables false
set_option linter.unusedSimpArgs false
open Go.RowKit
theorem VD:ElemT Tryz.prog 23 26 2 16:=ElemT.mk' (.agg #[.int .i64 0,.int .i64 0]) Tryz.underlying23 (by kernel_rfl) rfl (by decide)
end Go.Proofs.YtdgmbbjoifneiaaGreatDoor
