import Derived.Test.YtkffpiaagjcmpaaGreatProg
import Derived.Test.YtkffpiaagjcmpaaGreatEvBas
import Derived.Outline
import Derived.Test.YtkffpiaagjcmpaaGreatEvExD
import Derived.Test.YtkffpiaagjcmpaaGreatEvRkE
namespace Go.Proofs.YtkffpiaagjcmpaaGreat
set_option maxRecDepth 100000
set_option linter.unusedVariables false
set_option linter.unusedSimpArgs false
open Go.RowKit
theorem FZ (n lo hi:Int) (w:World):Calls Tryz.prog 40 #[.int .i64 n,.int .i64 lo,.int .i64 hi] w λ e w'=>e=.returned (.bool (inR n lo hi))/\w=w':=by
 by_cases h1:lo<=n
 ·by_cases h2:n<=hi
  ·rw [Pu h1 h2]
   go_enter Tryz.func40,Tryz.ntmps40
   go_wp2
   go_ret
   exact ⟨rfl,rfl⟩
  ·rw [Pv (by omega)]
   go_enter Tryz.func40,Tryz.ntmps40
   go_wp2
   go_ret
   exact ⟨rfl,rfl⟩
 ·rw [Ts (by omega)]
  go_enter Tryz.func40,Tryz.ntmps40
  go_wp2
  go_ret
  exact ⟨rfl,rfl⟩
theorem PI (n lo hi:Int) (w:World):Calls Tryz.prog 161 #[.int .i64 n,.int .i64 lo,.int .i64 hi] w λ e w'=>e=.returned (.bool (inR n lo hi))/\w=w':=by
 by_cases h1:lo<=n
 ·by_cases h2:n<=hi
  ·rw [Pu h1 h2]
   go_enter Tryz.func161,Tryz.ntmps161
   go_wp2
   go_ret
   exact ⟨rfl,rfl⟩
  ·rw [Pv (by omega)]
   go_enter Tryz.func161,Tryz.ntmps161
   go_wp2
   go_ret
   exact ⟨rfl,rfl⟩
 ·rw [Ts (by omega)]
  go_enter Tryz.func161,Tryz.ntmps161
  go_wp2
  go_ret
  exact ⟨rfl,rfl⟩
theorem Zr (x y:Int) (w:World):Calls Tryz.prog 35 #[.agg #[.int .i64 x,.int .i64 y]] w λ e w'=>e=.returned (.bool (AE (x,y)))/\Below w.heap.size w w':=by
 have e:AE (x,y)=(inR x (-1000) 1000 && inR y (-1000) 1000):=rfl
 rw [e];clear e
 cases h1:inR x (-1000) 1000 <;> cases h2:inR y (-1000) 1000
 all_goals
  go_enter Tryz.func35,Tryz.ntmps35
  go_wp2_with (go_at_call 40;refine (FZ _ _ _ _).mono ?_;rintro e w' ⟨rfl,rfl⟩)
  go_ret
  exact ⟨rfl,(by (with_reducible repeat (first|exact Below.refl _ _|assumption|refine Below.drew ?_|refine Below.setCell ?_ ?_ _|refine Below.alloc ?_ ?_ _));all_goals first|(simp;done)|(simp;omega)|omega)⟩
theorem Bo (x y:Int) (w:World):Calls Tryz.prog 126 #[.agg #[.int .i64 x,.int .i64 y]] w λ e w'=>e=.returned (.bool (AE (x,y)))/\Below w.heap.size w w':=by
 have e:AE (x,y)=(inR x (-1000) 1000 && inR y (-1000) 1000):=rfl
 rw [e];clear e
 cases h1:inR x (-1000) 1000 <;> cases h2:inR y (-1000) 1000
 all_goals
  go_enter Tryz.func126,Tryz.ntmps126
  go_wp2_with (go_at_call 161;refine (PI _ _ _ _).mono ?_;rintro e w' ⟨rfl,rfl⟩)
  go_ret
  exact ⟨rfl,(by (with_reducible repeat (first|exact Below.refl _ _|assumption|refine Below.drew ?_|refine Below.setCell ?_ ?_ _|refine Below.alloc ?_ ?_ _));all_goals first|(simp;done)|(simp;omega)|omega)⟩
theorem Xv (a1 a2 b1 b2 c1 c2:Int) (ha:AE (a1,a2)=true) (hb:AE (b1,b2)=true) (hc:AE (c1,c2)=true) (w:World) :
  Calls Tryz.prog 41 #[.agg #[.int .i64 a1,.int .i64 a2],.agg #[.int .i64 b1,.int .i64 b2],.agg #[.int .i64 c1,.int .i64 c2]] w λ e w'=>e=.returned (.int .i64 (AH (a1,a2) (b1,b2) (c1,c2)))/\Below w.heap.size w w':=by
 have A:=Bs ha
 have B:=Bs hb
 have C:=Bs hc
 simp only at A B C
 obtain ⟨xa1,xa2,xa3,xa4⟩:=A
 obtain ⟨xb1,xb2,xb3,xb4⟩:=B
 obtain ⟨xc1,xc2,xc3,xc4⟩:=C
 clear ha hb hc
 have m1:=Oo (a:=b1-a1) (b:=c2-a2) (m:=2000) (n:=2000) (by omega) (by omega) (by omega) (by omega)
 have m2:=Oo (a:=b2-a2) (b:=c1-a1) (m:=2000) (n:=2000) (by omega) (by omega) (by omega) (by omega)
 simp only [Int.reduceMul,Int.reduceNeg] at m1 m2
 obtain ⟨M1,M2⟩:=m1
 obtain ⟨M3,M4⟩:=m2
 go_enter Tryz.func41,Tryz.ntmps41
 go_wp2
 go_ret
 exact ⟨rfl,(by (with_reducible repeat (first|exact Below.refl _ _|assumption|refine Below.drew ?_|refine Below.setCell ?_ ?_ _|refine Below.alloc ?_ ?_ _));all_goals first|(simp;done)|(simp;omega)|omega)⟩
theorem Xw (a1 a2 b1 b2 c1 c2:Int) (ha:AE (a1,a2)=true) (hb:AE (b1,b2)=true) (hc:AE (c1,c2)=true) (w:World) :
  Calls Tryz.prog 162 #[.agg #[.int .i64 a1,.int .i64 a2],.agg #[.int .i64 b1,.int .i64 b2],.agg #[.int .i64 c1,.int .i64 c2]] w λ e w'=>e=.returned (.int .i64 (AH (a1,a2) (b1,b2) (c1,c2)))/\Below w.heap.size w w':=by
 have A:=Bs ha
 have B:=Bs hb
 have C:=Bs hc
 simp only at A B C
 obtain ⟨xa1,xa2,xa3,xa4⟩:=A
 obtain ⟨xb1,xb2,xb3,xb4⟩:=B
 obtain ⟨xc1,xc2,xc3,xc4⟩:=C
 have m1:=Oo (a:=b1-a1) (b:=c2-a2) (m:=2000) (n:=2000) (by omega) (by omega) (by omega) (by omega)
 have m2:=Oo (a:=b2-a2) (b:=c1-a1) (m:=2000) (n:=2000) (by omega) (by omega) (by omega) (by omega)
 simp only [Int.reduceMul,Int.reduceNeg] at m1 m2
 obtain ⟨M1,M2⟩:=m1
 obtain ⟨M3,M4⟩:=m2
 go_enter Tryz.func162,Tryz.ntmps162
 go_wp2_with fail
 refine (Bo _ _ _).mono ?_
 rintro e w1 ⟨rfl,h1⟩
 have B1:Below w.heap.size w w1:=Below.trans (by (with_reducible repeat (first|exact Below.refl _ _|assumption|refine Below.drew ?_|refine Below.setCell ?_ ?_ _|refine Below.alloc ?_ ?_ _));all_goals first|(simp;done)|(simp;omega)|omega) (h1.mono (by first|(simp;done)|(simp;omega)|omega))
 have S1:=h1.size
 have T1:=B1.size
 try simp at S1
 obtain ⟨k1,f1⟩:=FI h1
 try simp at k1
 try simp at f1
 have Hc1:=Lib.hid h1
 clear h1
 have u1_0:w.heap.size<w1.heap.size:=by omega
 have u1_1:w.heap.size+1<w1.heap.size:=by omega
 have u1_2:w.heap.size+1+1<w1.heap.size:=by omega
 go_wp2_with fail
 refine (Bo _ _ _).mono ?_
 rintro e w2 ⟨rfl,h2⟩
 have B2:Below w.heap.size w w2:=Below.trans (by (with_reducible repeat (first|exact Below.refl _ _|assumption|refine Below.drew ?_|refine Below.setCell ?_ ?_ _|refine Below.alloc ?_ ?_ _));all_goals first|(simp;done)|(simp;omega)|omega) (h2.mono (by first|(simp;done)|(simp;omega)|omega))
 have S2:=h2.size
 have T2:=B2.size
 try simp at S2
 obtain ⟨k2,f2⟩:=FI h2
 try simp at k2
 try simp at f2
 have Hc2:=Lib.hid h2
 clear h2
 have u2_0:w.heap.size<w2.heap.size:=by omega
 have u2_1:w.heap.size+1<w2.heap.size:=by omega
 have u2_2:w.heap.size+1+1<w2.heap.size:=by omega
 go_wp2_with fail
 refine (Bo _ _ _).mono ?_
 rintro e w3 ⟨rfl,h3⟩
 have B3:Below w.heap.size w w3:=Below.trans (by (with_reducible repeat (first|exact Below.refl _ _|assumption|refine Below.drew ?_|refine Below.setCell ?_ ?_ _|refine Below.alloc ?_ ?_ _));all_goals first|(simp;done)|(simp;omega)|omega) (h3.mono (by first|(simp;done)|(simp;omega)|omega))
 have S3:=h3.size
 have T3:=B3.size
 try simp at S3
 obtain ⟨k3,f3⟩:=FI h3
 try simp at k3
 try simp at f3
 have Hc3:=Lib.hid h3
 clear h3
 have u3_0:w.heap.size<w3.heap.size:=by omega
 have u3_1:w.heap.size+1<w3.heap.size:=by omega
 have u3_2:w.heap.size+1+1<w3.heap.size:=by omega
 go_wp2
 go_ret
 exact ⟨rfl,(by (with_reducible repeat (first|exact Below.refl _ _|assumption|refine Below.drew ?_|refine Below.setCell ?_ ?_ _|refine Below.alloc ?_ ?_ _));all_goals first|(simp;done)|(simp;omega)|omega)⟩
end Go.Proofs.YtkffpiaagjcmpaaGreat
namespace Go.Proofs.YtkffpiaagjcmpaaGreat
set_option maxRecDepth 100000
set_option linter.unusedVariables false
set_option linter.unusedSimpArgs false
open Go.RowKit
structure PredVec (g:Nat) (caps:Array Value) (p:V2->Bool) (W:World):Prop where
 enter:∀ (args:Array Value) (w:World),(callFunc g args).run Tryz.prog w=.ok (.enter g args) w
 calls:∀ (x y:Int) (w:World),Below W.heap.size W w->Calls Tryz.prog g (#[.agg #[.int .i64 x,.int .i64 y]]++caps) w λ e w'=>e=.returned (.bool (p (x,y)))/\Below w.heap.size w w'
set_option maxHeartbeats 400000 in
theorem S5 (g : Nat) (caps : Array Value) (p : V2 → Bool) (l : List V2) (v : Value) (w : World) (hv : VecsAt w v l) (hp : PredVec g caps p w) :
    Calls Tryz.prog 127 #[v, .func (.func g) #[] caps] w fun e w' => e = .returned (.int .i64 (Em p l)) ∧ Below w.heap.size w w' := by
  obtain ⟨a, cap, rfl, hl, hc, hcell⟩ := hv.open
  have hent := hp.enter
  have HP := Lib.hid hp.calls; clear hp
  have HC := Lib.hid hcell; clear hcell hv
  go_enter Tryz.func127, Tryz.ntmps127
  go_wp2
  go_loopw [8] (fun i wr => ∃ k : Nat, k ≤ l.length ∧ i = .int .i64 k ∧ (l.take k).any p = false ∧ Below w.heap.size w wr) (fun i _ => l.length - (intOf i).toNat)
  case atStart => exact ⟨0, Nat.zero_le _, rfl, by simp, Below.refl _ _⟩
  case round =>
    obtain ⟨k, hk, rfl, hany, hb⟩ := hrel
    have HA := Lib.hid hany; clear hany
    by_cases hlt : k < l.length
    · obtain ⟨b, off, rfl, hbs, c0, c1⟩ := HC.out k hlt
      have d0 := (hb.cell (p := ⟨b, off + k * 2, none⟩) hbs).trans c0
      have d1 := (hb.cell (p := ⟨b, off + k * 2 + 1, none⟩) hbs).trans c1
      obtain ⟨x, y, hxy⟩ : ∃ x y, l.getD k (0, 0) = (x, y) := ⟨_, _, rfl⟩
      rw [hxy] at d0 d1
      simp only at d0 d1
      clear c0 c1
      have HX := Lib.hid hxy; clear hxy
      have HB := Lib.hid hb; clear hb
      go_wp2_with fail
      refine (HP.out x y _ HB.out).mono ?_
      rintro e w1 ⟨rfl, hb1⟩
      cases hpx : p (x, y)
      · go_wp2
        go_roundw
        case rel => exact ⟨k + 1, by omega, by go_num, by rw [H0 p l (0, 0) k hlt, HA.out, HX.out, hpx]; rfl, HB.out.trans (hb1.mono HB.out.size)⟩
        case measure => simp [intOf]; omega
      · go_wp2
        go_ret
        exact ⟨LF (Pw p l (0, 0) k hlt HA.out (by rw [HX.out]; exact hpx)).symm, HB.out.trans (hb1.mono HB.out.size)⟩
    · have HB := Lib.hid hb; clear hb
      go_wp2
      go_ret
      exact ⟨LF (Lc p l (by have := HA.out; rwa [List.take_of_length_le (by omega)] at this)).symm, HB.out⟩
theorem H9 (g:Nat) (caps:Array Value) (p:V2->Bool) (l:List V2) (v:Value) (w:World) (hv:VecsAt w v l) (hp:PredVec g caps p w) :
  Calls Tryz.prog 73 #[v,.func (.func g) #[] caps] w λ e w'=>e=.returned (.bool (l.any p))/\Below w.heap.size w w':=by
 rw [← Na]
 have HV:=Lib.hid hv;clear hv
 have HP:=Lib.hid hp;clear hp
 go_enter Tryz.func73,Tryz.ntmps73
 go_wp2_with fail
 refine (S5 g caps p l _ _ HV.out HP.out).mono ?_
 rintro e w1 ⟨rfl,hb1⟩
 have HB:=Lib.hid hb1;clear hb1
 go_wp2
 go_ret
 exact ⟨rfl,HB.out⟩
theorem S6 (W:World):PredVec 74 #[] (λ p=>!AE p) W where
 enter:=λ args w=>by kernel_rfl
 calls:=λ x y w _=>by
  show Calls Tryz.prog 74 #[.agg #[.int .i64 x,.int .i64 y]] w _
  go_enter Tryz.func74,Tryz.ntmps74
  go_wp2_with fail
  refine (Zr _ _ _).mono ?_
  rintro e w1 ⟨rfl,h1⟩
  have B1:Below w.heap.size w w1:=Below.trans (by (with_reducible repeat (first|exact Below.refl _ _|assumption|refine Below.drew ?_|refine Below.setCell ?_ ?_ _|refine Below.alloc ?_ ?_ _));all_goals first|(simp;done)|(simp;omega)|omega) (h1.mono (by first|(simp;done)|(simp;omega)|omega))
  have S1:=h1.size
  have T1:=B1.size
  try simp at S1
  obtain ⟨k1,f1⟩:=FI h1
  try simp at k1
  try simp at f1
  have Hc1:=Lib.hid h1
  clear h1
  have u1_0:w.heap.size<w1.heap.size:=by omega
  go_wp2
  go_ret
  exact ⟨rfl,(by (with_reducible repeat (first|exact Below.refl _ _|assumption|refine Below.drew ?_|refine Below.setCell ?_ ?_ _|refine Below.alloc ?_ ?_ _));all_goals first|(simp;done)|(simp;omega)|omega)⟩
theorem J6 (l:List V2) (v:Value) (w:World) (hv:VecsAt w v l) :
  Calls Tryz.prog 36 #[v] w λ e w'=>e=.returned (.bool (l.all AE))/\Below w.heap.size w w':=by
 have e:l.all AE=!(l.any λ p=>!AE p):=by simp [List.not_any_eq_all_not]
 rw [e];clear e
 have HV:=Lib.hid hv;clear hv
 go_enter Tryz.func36,Tryz.ntmps36
 go_wp2_with fail
 refine (H9 _ #[] _ l _ _ HV.out (S6 _)).mono ?_
 rintro e w1 ⟨rfl,hb1⟩
 have HB:=Lib.hid hb1;clear hb1
 go_wp2
 go_ret
 exact ⟨rfl,HB.out⟩
theorem Xx (m:Int) (hm0:0<=m) (hm1:m<=1000) (b0:Nat) (W:World) (hb0:b0<W.heap.size) (hcell:W.cell? ⟨b0,0,none⟩=some (.int .i64 m)) :
  PredVec 128 #[.pointer (some ⟨b0,0,none⟩)] (λ p=>!CV m p) W where
 enter:=λ args w=>by kernel_rfl
 calls:=λ x y w hbw=>by
  show Calls Tryz.prog 128 #[.agg #[.int .i64 x,.int .i64 y],.pointer (some ⟨b0,0,none⟩)] w _
  have d0:=(hbw.cell (p:=⟨b0,0,none⟩) hb0).trans hcell
  have e:CV m (x,y)=(inR x (-m) m && inR y (-m) m):=rfl
  simp only [e]
  have hz:b0<w.heap.size:=Nat.lt_of_lt_of_le hb0 hbw.size
  clear e hbw hcell hb0
  cases h1:inR x (-m) m <;> cases h2:inR y (-m) m
  all_goals
   go_enter Tryz.func128,Tryz.ntmps128
   go_wp2_with (go_at_call 40;refine (FZ _ _ _ _).mono ?_;rintro e w' ⟨rfl,rfl⟩)
   go_ret
   exact ⟨rfl,(by (with_reducible repeat (first|exact Below.refl _ _|assumption|refine Below.drew ?_|refine Below.setCell ?_ ?_ _|refine Below.alloc ?_ ?_ _));all_goals first|(simp;done)|(simp;omega)|omega)⟩
theorem PJ (m:Int) (hm0:0<=m) (hm1:m<=1000) (l:List V2) (v:Value) (w:World) (hv:VecsAt w v l) :
  Calls Tryz.prog 75 #[.int .i64 m,v] w λ e w'=>e=.returned (.bool (l.all (CV m)))/\Below w.heap.size w w':=by
 have e:l.all (CV m)=!(l.any λ p=>!CV m p):=by simp [List.not_any_eq_all_not]
 rw [e];clear e
 have HV:=Lib.hid hv;clear hv
 go_enter Tryz.func75,Tryz.ntmps75
 go_wp2_with fail
 refine (H9 _ _ _ l _ _ (HV.out.below ((Below.refl _ _).alloc (Nat.le_refl _) _)) (Xx m hm0 hm1 w.heap.size _ (by simp) (by go_simp))).mono ?_
 rintro e w1 ⟨rfl,hb1⟩
 have HB:=Lib.hid hb1;clear hb1
 go_wp2
 go_ret
 exact ⟨rfl,((Below.refl _ _).alloc (Nat.le_refl _) _).trans (HB.out.mono (by simp))⟩
end Go.Proofs.YtkffpiaagjcmpaaGreat
namespace Go.Proofs.YtkffpiaagjcmpaaGreat
set_option maxRecDepth 100000
set_option linter.unusedVariables false
set_option linter.unusedSimpArgs false
open Go.RowKit
theorem I1 (l:List V2) (h:inR l.length 3 16=false):AK l=false:=by simp [AK,h]
theorem MX (l:List V2) (h:l.all AE=false):AK l=false:=by simp only [AK,h];simp
theorem Kr (l:List V2) (h1:inR l.length 3 16=true) (h2:l.all AE=true):AK l=(List.range l.length).all (GO l):=by simp only [AK,h1,h2];rfl
theorem Ks (l:List V2) (k j m:Nat) (hm:m=(k+1)%l.length) (pa pb pc:V2) (ha:l.getD k (0,0)=pa) (hb:l.getD m (0,0)=pb) (hc:l.getD j (0,0)=pc) :
  C7 l k j=(decide (j=k) || decide (j=m) || decide (0<AH pa pb pc)):=by
 subst hm ha hb hc;rfl
set_option maxHeartbeats 2000000 in
theorem Gv (l : List V2) (v : Value) (w : World) (hv : VecsAt w v l) :
    Calls Tryz.prog 10 #[v] w fun e w' => e = .returned (.bool (AK l)) ∧ Below w.heap.size w w' := by
  have HV := Lib.hid hv
  obtain ⟨a, cap, rfl, hl, hc, hcell⟩ := hv.open
  have HC := Lib.hid hcell; clear hcell hv
  cases h1 : inR l.length 3 16
  · rw [I1 l h1]
    go_enter Tryz.func10, Tryz.ntmps10
    go_wp2_with fail
    refine (FZ _ _ _ _).mono ?_
    rintro e w' ⟨rfl, rfl⟩
    go_wp2
    go_ret
    exact ⟨rfl, Below.refl _ _⟩
  · have hn := BK.1 h1
    obtain ⟨hn1, hn2⟩ := hn
    have hn3 : 3 ≤ l.length := by omega
    have hn4 : l.length ≤ 16 := by omega
    clear hn1 hn2
    cases h2 : l.all AE
    · rw [MX l h2]
      go_enter Tryz.func10, Tryz.ntmps10
      go_wp2_with fail
      refine (FZ _ _ _ _).mono ?_
      rintro e w' ⟨rfl, rfl⟩
      go_wp2_with fail
      refine (J6 l _ _ HV.out).mono ?_
      rintro e w1 ⟨rfl, hb1⟩
      have HB := Lib.hid hb1; clear hb1
      go_wp2
      go_ret
      exact ⟨rfl, HB.out⟩
    · rw [Kr l h1 h2]
      have HI := Lib.hid h2
      go_enter Tryz.func10, Tryz.ntmps10
      go_wp2_with fail
      refine (FZ _ _ _ _).mono ?_
      rintro e w' ⟨rfl, rfl⟩
      go_wp2_with fail
      refine (J6 l _ _ HV.out).mono ?_
      rintro e w1 ⟨rfl, hb1⟩
      have HB := Lib.hid hb1; clear hb1
      go_wp2
      clear h1 h2
      go_loopw [21] (fun i wr => ∃ k : Nat, k ≤ l.length ∧ i = .int .i64 k ∧ (List.range k).all (GO l) = true ∧ Below w.heap.size w wr) (fun i _ => l.length - (intOf i).toNat)
      case atStart => exact ⟨0, Nat.zero_le _, rfl, by simp, HB.out⟩
      case round =>
        obtain ⟨k, hk, rfl, hall, hb⟩ := hrel
        have HA := Lib.hid hall; clear hall
        by_cases hlt : k < l.length
        · obtain ⟨m, hm⟩ : ∃ m, m = (k + 1) % l.length := ⟨_, rfl⟩
          have hmlt : m < l.length := by rw [hm]; exact Nat.mod_lt _ (by omega)
          have hmi : ((k : Int) + 1) % (l.length : Int) = (m : Int) := by rw [hm]; simp
          obtain ⟨b, off, rfl, hbs, c0, c1⟩ := HC.out k hlt
          obtain ⟨b', off', he, _, c2, c3⟩ := HC.out m hmlt
          obtain ⟨rfl, rfl⟩ : b' = b ∧ off' = off := by simpa [eq_comm] using he
          clear he
          have d0 := (hb.cell (p := ⟨b', off' + k * 2, none⟩) hbs).trans c0
          have d1 := (hb.cell (p := ⟨b', off' + k * 2 + 1, none⟩) hbs).trans c1
          have d2 := (hb.cell (p := ⟨b', off' + m * 2, none⟩) hbs).trans c2
          have d3 := (hb.cell (p := ⟨b', off' + m * 2 + 1, none⟩) hbs).trans c3
          have va := EO HI.out (0, 0) k hlt
          have vb := EO HI.out (0, 0) m hmlt
          obtain ⟨x, y, hxy⟩ : ∃ x y, l.getD k (0, 0) = (x, y) := ⟨_, _, rfl⟩
          obtain ⟨x', y', hxy'⟩ : ∃ x y, l.getD m (0, 0) = (x, y) := ⟨_, _, rfl⟩
          rw [hxy] at d0 d1 va
          rw [hxy'] at d2 d3 vb
          simp only at d0 d1 d2 d3
          have hz : b' < wr.heap.size := Nat.lt_of_lt_of_le hbs hb.size
          have hws := hb.size
          clear c0 c1 c2 c3
          have HX := Lib.hid hxy; clear hxy
          have HX' := Lib.hid hxy'; clear hxy'
          have HM := Lib.hid hm; clear hm
          have HVA := Lib.hid va; clear va
          have HVB := Lib.hid vb; clear vb
          have HB' := Lib.hid hb; clear hb HB
          obtain ⟨wo, rfl⟩ : ∃ wo : World, wo = wr := ⟨_, rfl⟩
          go_wp2
          have HW1 : Below w.heap.size w ((wo.alloc (.cells #[.int .i64 x, .int .i64 y] 24)).alloc (.cells #[.int .i64 x', .int .i64 y'] 24)) := (HB'.out.alloc hws _).alloc (by simp; omega) _
          have HH := Lib.hid HW1; clear HW1 d0 d1 d2 d3
          rw [hmi]
          go_loopw [35] (fun i wr => ∃ j : Nat, j ≤ l.length ∧ i = .int .i64 j ∧ (List.range j).all (C7 l k) = true ∧ Below (wo.heap.size + 2) ((wo.alloc (.cells #[.int .i64 x, .int .i64 y] 24)).alloc (.cells #[.int .i64 x', .int .i64 y'] 24)) wr) (fun i _ => l.length - (intOf i).toNat)
          case atStart => exact ⟨0, Nat.zero_le _, rfl, by simp, Below.refl _ _⟩
          case round =>
            obtain ⟨j, hj, rfl, hall, hb⟩ := hrel
            have HA2 := Lib.hid hall; clear hall
            have e0 : wr.cell? ⟨wo.heap.size, 0, none⟩ = some (.int .i64 x) := (hb.cell (p := ⟨wo.heap.size, 0, none⟩) (by simp)).trans (by go_simp)
            have e1 : wr.cell? ⟨wo.heap.size, 1, none⟩ = some (.int .i64 y) := (hb.cell (p := ⟨wo.heap.size, 1, none⟩) (by simp)).trans (by go_simp)
            have e2 : wr.cell? ⟨wo.heap.size + 1, 0, none⟩ = some (.int .i64 x') := (hb.cell (p := ⟨wo.heap.size + 1, 0, none⟩) (by simp)).trans (by go_simp)
            have e3 : wr.cell? ⟨wo.heap.size + 1, 1, none⟩ = some (.int .i64 y') := (hb.cell (p := ⟨wo.heap.size + 1, 1, none⟩) (by simp)).trans (by go_simp)
            have hsz := hb.size
            simp only [World.size_alloc] at hsz
            have z0 : wo.heap.size < wr.heap.size := by omega
            have z1 : wo.heap.size + 1 < wr.heap.size := by omega
            have z2 : b' < wr.heap.size := by omega
            have zw : w.heap.size ≤ wr.heap.size := by omega
            have HB2 := Lib.hid (HH.out.trans (hb.mono (by omega)))
            have hbb := hb.cell (p := ⟨b', off' + j * 2, none⟩) (by show b' < _; omega)
            have hbb' := hb.cell (p := ⟨b', off' + j * 2 + 1, none⟩) (by show b' < _; omega)
            have hbo := HH.out.cell (p := ⟨b', off' + j * 2, none⟩) hbs
            have hbo' := HH.out.cell (p := ⟨b', off' + j * 2 + 1, none⟩) hbs
            have HR := Lib.hid hb; clear hb
            by_cases hjlt : j < l.length
            · obtain ⟨b2, off2, he, _, c4, c5⟩ := HC.out j hjlt
              obtain ⟨rfl, rfl⟩ : b2 = b' ∧ off2 = off' := by simpa [eq_comm] using he
              clear he
              have d4 := hbb.trans (hbo.trans c4)
              have d5 := hbb'.trans (hbo'.trans c5)
              have vc := EO HI.out (0, 0) j hjlt
              obtain ⟨px, py, hpp⟩ : ∃ x y, l.getD j (0, 0) = (x, y) := ⟨_, _, rfl⟩
              rw [hpp] at d4 d5 vc
              simp only at d4 d5
              clear hbb hbb' hbo hbo' c4 c5
              have HP := Lib.hid hpp; clear hpp
              have HVC := Lib.hid vc; clear vc
              have hst := Ks l k j m HM.out _ _ _ HX.out HX'.out HP.out
              have HST := Lib.hid hst; clear hst
              by_cases hjk : j = k
              · have hn1 : ((j : Int) != (k : Int)) = false := by simp [hjk]
                have HJ := Lib.hid hjk; clear hjk
                go_wp2
                go_roundw
                case rel => exact ⟨j + 1, by omega, by go_num, by rw [BQ, HA2.out, HST.out, HJ.out]; simp, HR.out.alloc (by omega) _⟩
                case measure => simp [intOf]; omega
              · have hn1 : ((j : Int) != (k : Int)) = true := by simp; omega
                have HJ := Lib.hid hjk; clear hjk
                by_cases hjm : j = m
                · have hn2 : ((j : Int) != (m : Int)) = false := by simp [hjm]
                  have HJM := Lib.hid hjm; clear hjm
                  go_wp2
                  go_roundw
                  case rel => exact ⟨j + 1, by omega, by go_num, by rw [BQ, HA2.out, HST.out, HJM.out]; simp, HR.out.alloc (by omega) _⟩
                  case measure => simp [intOf]; omega
                · have hn2 : ((j : Int) != (m : Int)) = true := by simp; omega
                  have HJM := Lib.hid hjm; clear hjm
                  go_wp2_with fail
                  refine (Xv _ _ _ _ _ _ HVA.out HVB.out HVC.out _).mono ?_
                  rintro e w2 ⟨rfl, hb2⟩
                  have hb2s := hb2.size
                  simp only [World.size_alloc] at hb2s
                  have HB3 := Lib.hid hb2; clear hb2
                  by_cases ht : AH (x, y) (x', y') (px, py) ≤ 0
                  · go_wp2
                    go_ret
                    refine ⟨Bt (Ck _ _ k hlt ?_).symm, (HB2.out.alloc zw _).trans (HB3.out.mono (by simp; omega))⟩
                    refine Ck _ _ j hjlt ?_
                    rw [HST.out]
                    simp [HJ.out, HJM.out, ht]
                  · go_wp2
                    go_roundw
                    case rel =>
                      refine ⟨j + 1, by omega, by go_num, ?_, (HR.out.alloc (by omega) _).trans (HB3.out.mono (by simp; omega))⟩
                      rw [BQ, HA2.out, HST.out]
                      have : 0 < AH (x, y) (x', y') (px, py) := by omega
                      simp [this]
                    case measure => simp [intOf]; omega
            · clear hbb hbb' hbo hbo'
              go_wp2
              go_roundw
              case rel =>
                refine ⟨k + 1, by omega, by go_num, ?_, HB2.out⟩
                rw [BQ, HA.out]
                have := HA2.out
                rw [show j = l.length by omega] at this
                simpa [GO] using this
              case measure => simp [intOf]; omega
        · have HB' := Lib.hid hb; clear hb HB
          go_wp2
          go_ret
          exact ⟨Bt (by have := HA.out; rw [show k = l.length by omega] at this; exact this.symm), HB'.out⟩
theorem NU (l:List V2) (k j:Nat) (hk:k<l.length) (hj:j<l.length) (h:C7 l k j=false):AK l=false:=by
 have h1:GO l k=false:=Ck _ _ j hj h
 have h2:(List.range l.length).all (GO l)=false:=Ck _ _ k hk h1
 simp only [AK,h2];simp
set_option maxHeartbeats 2000000 in
theorem PK (l : List V2) (v : Value) (w : World) (hv : VecsAt w v l) :
    Calls Tryz.prog 125 #[v] w fun e w' => e = .returned (.bool (AK l)) ∧ Below w.heap.size w w' := by
  obtain ⟨a, cap, rfl, hl, hc, hcell⟩ := hv.open
  have HC := Lib.hid hcell; clear hcell hv
  cases h1 : inR l.length 3 16
  · rw [I1 l h1]
    go_enter Tryz.func125, Tryz.ntmps125
    go_wp2_with fail
    refine (PI _ _ _ _).mono ?_
    rintro e w' ⟨rfl, rfl⟩
    go_wp2
    go_ret
    exact ⟨rfl, Below.refl _ _⟩
  · have hn := BK.1 h1
    obtain ⟨hn1, hn2⟩ := hn
    have hn3 : 3 ≤ l.length := by omega
    have hn4 : l.length ≤ 16 := by omega
    clear hn1 hn2
    have HH1 := Lib.hid h1
    go_enter Tryz.func125, Tryz.ntmps125
    go_wp2_with fail
    refine (PI _ _ _ _).mono ?_
    rintro e w' ⟨rfl, rfl⟩
    go_wp2
    clear h1
    go_loopw [16] (fun i wr => ∃ k : Nat, k ≤ l.length ∧ i = .int .i64 k ∧ (k = 0 ∨ l.all AE = true) ∧ (List.range k).all (GO l) = true ∧ Below w.heap.size w wr) (fun i _ => l.length - (intOf i).toNat)
    case atStart => exact ⟨0, Nat.zero_le _, rfl, .inl rfl, by simp, Below.refl _ _⟩
    case round =>
      obtain ⟨k, hk, rfl, hkv, hall, hb⟩ := hrel
      have HA := Lib.hid hall; clear hall
      have HK := Lib.hid hkv; clear hkv
      by_cases hlt : k < l.length
      · obtain ⟨m, hm⟩ : ∃ m, m = (k + 1) % l.length := ⟨_, rfl⟩
        have hmlt : m < l.length := by rw [hm]; exact Nat.mod_lt _ (by omega)
        have hmi : ((k : Int) + 1) % (l.length : Int) = (m : Int) := by rw [hm]; simp
        obtain ⟨b, off, rfl, hbs, c0, c1⟩ := HC.out k hlt
        obtain ⟨b', off', he, _, c2, c3⟩ := HC.out m hmlt
        obtain ⟨rfl, rfl⟩ : b' = b ∧ off' = off := by simpa [eq_comm] using he
        clear he
        have d0 := (hb.cell (p := ⟨b', off' + k * 2, none⟩) hbs).trans c0
        have d1 := (hb.cell (p := ⟨b', off' + k * 2 + 1, none⟩) hbs).trans c1
        have d2 := (hb.cell (p := ⟨b', off' + m * 2, none⟩) hbs).trans c2
        have d3 := (hb.cell (p := ⟨b', off' + m * 2 + 1, none⟩) hbs).trans c3
        obtain ⟨x, y, hxy⟩ : ∃ x y, l.getD k (0, 0) = (x, y) := ⟨_, _, rfl⟩
        obtain ⟨x', y', hxy'⟩ : ∃ x y, l.getD m (0, 0) = (x, y) := ⟨_, _, rfl⟩
        rw [hxy] at d0 d1
        rw [hxy'] at d2 d3
        simp only at d0 d1 d2 d3
        have hz : b' < wr.heap.size := Nat.lt_of_lt_of_le hbs hb.size
        have hws := hb.size
        clear c0 c1 c2 c3
        have HX := Lib.hid hxy; clear hxy
        have HX' := Lib.hid hxy'; clear hxy'
        have HM := Lib.hid hm; clear hm
        have HB' := Lib.hid hb; clear hb
        obtain ⟨wo, rfl⟩ : ∃ wo : World, wo = wr := ⟨_, rfl⟩
        go_wp2
        have HW1 : Below w.heap.size w ((wo.alloc (.cells #[.int .i64 x, .int .i64 y] 24)).alloc (.cells #[.int .i64 x', .int .i64 y'] 24)) := (HB'.out.alloc hws _).alloc (by simp; omega) _
        have HH := Lib.hid HW1; clear HW1 d0 d1 d2 d3
        try rw [hmi]
        go_loopw [30] (fun i wr => ∃ j : Nat, j ≤ l.length ∧ i = .int .i64 j ∧ (l.take j).all AE = true ∧ (List.range j).all (C7 l k) = true ∧ Below (wo.heap.size + 2) ((wo.alloc (.cells #[.int .i64 x, .int .i64 y] 24)).alloc (.cells #[.int .i64 x', .int .i64 y'] 24)) wr) (fun i _ => l.length - (intOf i).toNat)
        case atStart => exact ⟨0, Nat.zero_le _, rfl, by simp, by simp, Below.refl _ _⟩
        case round =>
          obtain ⟨j, hj, rfl, hjv, hall, hb⟩ := hrel
          have HA2 := Lib.hid hall; clear hall
          have HJV := Lib.hid hjv; clear hjv
          have e0 : wr.cell? ⟨wo.heap.size, 0, none⟩ = some (.int .i64 x) := (hb.cell (p := ⟨wo.heap.size, 0, none⟩) (by simp)).trans (by go_simp)
          have e1 : wr.cell? ⟨wo.heap.size, 1, none⟩ = some (.int .i64 y) := (hb.cell (p := ⟨wo.heap.size, 1, none⟩) (by simp)).trans (by go_simp)
          have e2 : wr.cell? ⟨wo.heap.size + 1, 0, none⟩ = some (.int .i64 x') := (hb.cell (p := ⟨wo.heap.size + 1, 0, none⟩) (by simp)).trans (by go_simp)
          have e3 : wr.cell? ⟨wo.heap.size + 1, 1, none⟩ = some (.int .i64 y') := (hb.cell (p := ⟨wo.heap.size + 1, 1, none⟩) (by simp)).trans (by go_simp)
          have hsz := hb.size
          simp only [World.size_alloc] at hsz
          have z0 : wo.heap.size < wr.heap.size := by omega
          have z1 : wo.heap.size + 1 < wr.heap.size := by omega
          have z2 : b' < wr.heap.size := by omega
          have zw : w.heap.size ≤ wr.heap.size := by omega
          have HB2 := Lib.hid (HH.out.trans (hb.mono (by omega)))
          have hbb := hb.cell (p := ⟨b', off' + j * 2, none⟩) (by show b' < _; omega)
          have hbb' := hb.cell (p := ⟨b', off' + j * 2 + 1, none⟩) (by show b' < _; omega)
          have hbo := HH.out.cell (p := ⟨b', off' + j * 2, none⟩) hbs
          have hbo' := HH.out.cell (p := ⟨b', off' + j * 2 + 1, none⟩) hbs
          have HR := Lib.hid hb; clear hb
          by_cases hjlt : j < l.length
          · obtain ⟨b2, off2, he, _, c4, c5⟩ := HC.out j hjlt
            obtain ⟨rfl, rfl⟩ : b2 = b' ∧ off2 = off' := by simpa [eq_comm] using he
            clear he
            have d4 := hbb.trans (hbo.trans c4)
            have d5 := hbb'.trans (hbo'.trans c5)
            obtain ⟨px, py, hpp⟩ : ∃ x y, l.getD j (0, 0) = (x, y) := ⟨_, _, rfl⟩
            rw [hpp] at d4 d5
            simp only at d4 d5
            clear hbb hbb' hbo hbo' c4 c5
            have HP := Lib.hid hpp; clear hpp
            have hst := Ks l k j m HM.out _ _ _ HX.out HX'.out HP.out
            have HST := Lib.hid hst; clear hst
            cases hvc : AE (px, py)
            · go_wp2_with fail
              refine (Bo _ _ _).mono ?_
              rintro e w2 ⟨rfl, hb2⟩
              have HB3 := Lib.hid hb2; clear hb2
              go_wp2
              go_ret
              refine ⟨Bt (MX l (Ld _ l (0, 0) j hjlt (by rw [HP.out]; exact hvc))).symm, (HB2.out.alloc zw _).trans (HB3.out.mono (by simp; omega))⟩
            · have HVC := Lib.hid hvc
              have HJV' : Hid ((l.take (j + 1)).all AE = true) := by show _ = _; rw [NG _ l (0, 0) j hjlt, HJV.out, HP.out, hvc]; rfl
              by_cases hjk : j = k
              · have hn1 : ((j : Int) != (k : Int)) = false := by simp [hjk]
                have HJ := Lib.hid hjk; clear hjk
                go_wp2_with fail
                refine (Bo _ _ _).mono ?_
                rintro e w2 ⟨rfl, hb2⟩
                have HB3 := Lib.hid hb2; clear hb2
                go_wp2
                go_roundw
                case rel => exact ⟨j + 1, by omega, by go_num, HJV'.out, by rw [BQ, HA2.out, HST.out, HJ.out]; simp, (HR.out.alloc (by omega) _).trans (HB3.out.mono (by simp; omega))⟩
                case measure => simp [intOf]; omega
              · have hn1 : ((j : Int) != (k : Int)) = true := by simp; omega
                have HJ := Lib.hid hjk; clear hjk
                by_cases hjm : j = m
                · have hn2 : ((j : Int) != (m : Int)) = false := by simp [hjm]
                  have HJM := Lib.hid hjm; clear hjm
                  go_wp2_with fail
                  refine (Bo _ _ _).mono ?_
                  rintro e w2 ⟨rfl, hb2⟩
                  have HB3 := Lib.hid hb2; clear hb2
                  go_wp2
                  go_roundw
                  case rel => exact ⟨j + 1, by omega, by go_num, HJV'.out, by rw [BQ, HA2.out, HST.out, HJM.out]; simp, (HR.out.alloc (by omega) _).trans (HB3.out.mono (by simp; omega))⟩
                  case measure => simp [intOf]; omega
                · have hn2 : ((j : Int) != (m : Int)) = true := by simp; omega
                  have HJM := Lib.hid hjm; clear hjm
                  have hvab : AE (x, y) = true ∧ AE (x', y') = true := by
                    rw [← HX.out, ← HX'.out]
                    rcases HK.out with h0 | h0
                    · have hm1 : m = 1 := by have := HM.out; rw [h0, Nat.mod_eq_of_lt (by omega)] at this; omega
                      have hj1 := HJ.out
                      have hj2 := HJM.out
                      have g0 := EO HJV.out (0, 0) k (by simp; omega)
                      have g1 := EO HJV.out (0, 0) m (by simp; omega)
                      simp only [List.getD, List.getElem?_take] at g0 g1 ⊢
                      rw [if_pos (by omega)] at g0 g1
                      exact ⟨g0, g1⟩
                    · exact ⟨EO h0 (0, 0) k hlt, EO h0 (0, 0) m hmlt⟩
                  have HVAB := Lib.hid hvab; clear hvab
                  go_wp2_with fail
                  refine (Bo _ _ _).mono ?_
                  rintro e w2 ⟨rfl, hb2⟩
                  have S2 := hb2.size
                  simp only [World.size_alloc] at S2
                  obtain ⟨k2, f2⟩ := FI hb2
                  simp only [World.size_alloc] at k2 f2
                  have u0 : wo.heap.size < w2.heap.size := by omega
                  have u1 : wo.heap.size + 1 < w2.heap.size := by omega
                  have u2 : wr.heap.size < w2.heap.size := by omega
                  have v0 : wo.heap.size < wr.heap.size + 1 := by omega
                  have v1 : wo.heap.size + 1 < wr.heap.size + 1 := by omega
                  have HB3 := Lib.hid hb2; clear hb2
                  go_wp2_with fail
                  refine (Xw _ _ _ _ _ _ HVAB.out.1 HVAB.out.2 HVC.out _).mono ?_
                  rintro e w3 ⟨rfl, hb3⟩
                  have S3 := hb3.size
                  have HB4 := Lib.hid hb3; clear hb3
                  clear hvc
                  by_cases ht : AH (x, y) (x', y') (px, py) ≤ 0
                  · go_wp2
                    go_ret
                    refine ⟨Bt (NU l k j hlt hjlt ?_).symm, ((HB2.out.alloc zw _).trans (HB3.out.mono (by simp; omega))).trans (HB4.out.mono (by omega))⟩
                    rw [HST.out]
                    simp [HJ.out, HJM.out, ht]
                  · go_wp2
                    go_roundw
                    case rel =>
                      refine ⟨j + 1, by omega, by go_num, HJV'.out, ?_, ((HR.out.alloc (by omega) _).trans (HB3.out.mono (by simp; omega))).trans (HB4.out.mono (by omega))⟩
                      rw [BQ, HA2.out, HST.out]
                      have : 0 < AH (x, y) (x', y') (px, py) := by omega
                      simp [this]
                    case measure => simp [intOf]; omega
          · clear hbb hbb' hbo hbo'
            go_wp2
            go_roundw
            case rel =>
              have hje : j = l.length := by omega
              refine ⟨k + 1, by omega, by go_num, .inr ?_, ?_, HB2.out⟩
              · have := HJV.out
                rw [hje, List.take_length] at this
                exact this
              · rw [BQ, HA.out]
                have := HA2.out
                rw [hje] at this
                simpa [GO] using this
            case measure => simp [intOf]; omega
      · have HB' := Lib.hid hb; clear hb
        go_wp2
        go_ret
        refine ⟨Bt ?_, HB'.out⟩
        have hke : k = l.length := by omega
        have h3 := HA.out
        rw [hke] at h3
        rcases HK.out with h0 | h0
        · omega
        · rw [Kr l HH1.out h0, h3]
end Go.Proofs.YtkffpiaagjcmpaaGreat
namespace Go.Proofs.YtkffpiaagjcmpaaGreat
set_option maxRecDepth 100000
set_option linter.unusedVariables false
set_option linter.unusedSimpArgs false
open Go.RowKit
theorem OR (m:Int) (hm0:0<=m) (hm1:m<=1000) (l:List V2) (v:Value) (w:World) (hv:VecsAt w v l) :
  Calls Tryz.prog 76 #[v,.int .i64 m] w λ e w'=>e=.returned (.bool (shape m l))/\Below w.heap.size w w':=by
 have HV:=Lib.hid hv
 obtain ⟨a,cap,rfl,hl,hc,_⟩:=hv.open
 clear hv
 by_cases h5:l.length<=5
 ·cases hp:AK l
  ·have e:shape m l=false:=by simp [shape,hp]
   rw [e];clear e
   go_enter Tryz.func76,Tryz.ntmps76
   go_wp2_with fail
   refine (Gv l _ _ HV.out).mono ?_
   rintro e w1 ⟨rfl,hb1⟩
   have HB:=Lib.hid hb1;clear hb1
   go_wp2
   go_ret
   exact ⟨rfl,HB.out⟩
  ·have e:shape m l=l.all (CV m):=by simp [shape,hp,h5]
   rw [e];clear e
   go_enter Tryz.func76,Tryz.ntmps76
   go_wp2_with fail
   refine (Gv l _ _ HV.out).mono ?_
   rintro e w1 ⟨rfl,hb1⟩
   have HB:=Lib.hid hb1;clear hb1
   go_wp2_with fail
   refine (PJ m hm0 hm1 l _ _ (HV.out.below HB.out)).mono ?_
   rintro e w2 ⟨rfl,hb2⟩
   have HB2:=Lib.hid (HB.out.trans (hb2.mono HB.out.size));clear hb2
   go_wp2
   go_ret
   exact ⟨rfl,HB2.out⟩
 ·have e:shape m l=false:=by simp [shape,h5]
  rw [e];clear e
  go_enter Tryz.func76,Tryz.ntmps76
  go_wp2
  go_ret
  exact ⟨rfl,Below.refl _ _⟩
structure PredVS (g:Nat) (caps:Array Value) (p:List V2->Bool) (W:World):Prop where
 enter:∀ (args:Array Value) (w:World),(callFunc g args).run Tryz.prog w=.ok (.enter g args) w
 calls:∀ (l:List V2) (v:Value) (w:World),Below W.heap.size W w->VecsAt w v l->Calls Tryz.prog g (#[v]++caps) w λ e w'=>e=.returned (.bool (p l))/\Below w.heap.size w w'
set_option maxHeartbeats 400000 in
theorem Vm (g : Nat) (caps : Array Value) (p : List V2 → Bool) (l : List (List V2)) (v : Value) (w : World) (hv : VecSSAt w v l) (hp : PredVS g caps p w) :
    Calls Tryz.prog 129 #[v, .func (.func g) #[] caps] w fun e w' => e = .returned (.int .i64 (Em p l)) ∧ Below w.heap.size w w' := by
  obtain ⟨a, cap, rfl, hl, hc, hcell⟩ := hv.open
  have hent := hp.enter
  have HP := Lib.hid hp.calls; clear hp
  have HC := Lib.hid hcell; clear hcell hv
  go_enter Tryz.func129, Tryz.ntmps129
  go_wp2
  go_loopw [8] (fun i wr => ∃ k : Nat, k ≤ l.length ∧ i = .int .i64 k ∧ (l.take k).any p = false ∧ Below w.heap.size w wr) (fun i _ => l.length - (intOf i).toNat)
  case atStart => exact ⟨0, Nat.zero_le _, rfl, by simp, Below.refl _ _⟩
  case round =>
    obtain ⟨k, hk, rfl, hany, hb⟩ := hrel
    have HA := Lib.hid hany; clear hany
    by_cases hlt : k < l.length
    · obtain ⟨b, off, u, rfl, hbs, c0, hu⟩ := HC.out k hlt
      have d0 := (hb.cell (p := ⟨b, off + k, none⟩) hbs).trans c0
      have HU := Lib.hid (hu.below hb); clear hu
      clear c0
      have HB := Lib.hid hb; clear hb
      go_wp2_with fail
      refine (HP.out _ u _ HB.out HU.out).mono ?_
      rintro e w1 ⟨rfl, hb1⟩
      cases hpx : p (l.getD k [])
      · have hpe : (l.take (k + 1)).any p = false := by rw [H0 p l [] k hlt, HA.out, hpx]; rfl
        have HPE := Lib.hid hpe; clear hpe
        go_wp2
        go_roundw
        case rel => exact ⟨k + 1, by omega, by go_num, HPE.out, HB.out.trans (hb1.mono HB.out.size)⟩
        case measure => simp [intOf]; omega
      · have hpe := Pw p l [] k hlt HA.out hpx
        have HPE := Lib.hid hpe; clear hpe
        go_wp2
        go_ret
        exact ⟨LF HPE.out.symm, HB.out.trans (hb1.mono HB.out.size)⟩
    · have HB := Lib.hid hb; clear hb
      go_wp2
      go_ret
      exact ⟨LF (Lc p l (by have := HA.out; rwa [List.take_of_length_le (by omega)] at this)).symm, HB.out⟩
theorem PL (g:Nat) (caps:Array Value) (p:List V2->Bool) (l:List (List V2)) (v:Value) (w:World) (hv:VecSSAt w v l) (hp:PredVS g caps p w) :
  Calls Tryz.prog 77 #[v,.func (.func g) #[] caps] w λ e w'=>e=.returned (.bool (l.any p))/\Below w.heap.size w w':=by
 rw [← Na]
 have HV:=Lib.hid hv;clear hv
 have HP:=Lib.hid hp;clear hp
 go_enter Tryz.func77,Tryz.ntmps77
 go_wp2_with fail
 refine (Vm g caps p l _ _ HV.out HP.out).mono ?_
 rintro e w1 ⟨rfl,hb1⟩
 have HB:=Lib.hid hb1;clear hb1
 go_wp2
 go_ret
 exact ⟨rfl,HB.out⟩
theorem NV (W:World):PredVS 78 #[] (λ l=>!shape 200 l) W where
 enter:=λ args w=>by kernel_rfl
 calls:=λ l v w _ hv=>by
  show Calls Tryz.prog 78 #[v] w _
  have HV:=Lib.hid hv;clear hv
  go_enter Tryz.func78,Tryz.ntmps78
  go_wp2_with fail
  refine (OR 200 (by omega) (by omega) l _ _ HV.out).mono ?_
  rintro e w1 ⟨rfl,hb1⟩
  have HB:=Lib.hid hb1;clear hb1
  go_wp2
  go_ret
  exact ⟨rfl,HB.out⟩
theorem RB {w:World} {b:Nat} {x y u v:Int} (hb:b<w.heap.size) (h0:w.cell? ⟨b,0,none⟩=some (.int .i64 x)) (h1:w.cell? ⟨b,1,none⟩=some (.int .i64 y)) (h2:w.cell? ⟨b,2,none⟩=some (.int .i64 u)) (h3:w.cell? ⟨b,3,none⟩=some (.int .i64 v)) :
  VecsAt w (.slice (some ⟨b,0,none⟩) 2 2) [(x,y),(u,v)]:=by
 refine ⟨some ⟨b,0,none⟩,2,rfl,by simp,by decide,by simp [Ag],.inr ⟨b,0,rfl,hb,?_⟩⟩
 intro j hj i hi
 simp at hj
 have hj' : j=0∨j=1:=by omega
 have hi' : i=0∨i=1:=by omega
 rcases hj' with rfl|rfl <;> rcases hi' with rfl|rfl <;> simp [Ag,h0,h1,h2,h3]
theorem S7 {lx ly hx hy:Int} {r:List V2} {o:List (List V2)} {t:List V2} (h:[(lx,ly),(hx,hy)].all (CV 200)=false):AI ⟨(lx,ly),(hx,hy),r,o,t⟩=false:=by simp only [AI,h];simp
theorem S8 {lx ly hx hy:Int} {r:List V2} {o:List (List V2)} {t:List V2} (h:¬ lx<hx):AI ⟨(lx,ly),(hx,hy),r,o,t⟩=false:=by simp [AI,h]
theorem S9 {lx ly hx hy:Int} {r:List V2} {o:List (List V2)} {t:List V2} (h:¬ ly<hy):AI ⟨(lx,ly),(hx,hy),r,o,t⟩=false:=by simp [AI,h]
theorem TA {lx ly hx hy:Int} {r:List V2} {o:List (List V2)} {t:List V2} (h:shape 20 r=false):AI ⟨(lx,ly),(hx,hy),r,o,t⟩=false:=by simp [AI,h]
theorem TB {lx ly hx hy:Int} {r:List V2} {o:List (List V2)} {t:List V2} (h:o.all (shape 200)=false):AI ⟨(lx,ly),(hx,hy),r,o,t⟩=false:=by simp only [AI,h];simp
theorem TC {lx ly hx hy:Int} {r:List V2} {o:List (List V2)} {t:List V2} (h:¬ o.length<=4):AI ⟨(lx,ly),(hx,hy),r,o,t⟩=false:=by simp [AI,h]
theorem TE {lx ly hx hy:Int} {r:List V2} {o:List (List V2)} {t:List V2} (h:¬ t.length<=3):AI ⟨(lx,ly),(hx,hy),r,o,t⟩=false:=by simp [AI,h]
theorem TF {lx ly hx hy:Int} {r:List V2} {o:List (List V2)} {t:List V2} (h1:[(lx,ly),(hx,hy)].all (CV 200)=true) (h2:lx<hx) (h3:ly<hy) (h4:shape 20 r=true) (h5:o.all (shape 200)=true) (h6:o.length<=4) (h7:t.length<=3) :
  AI ⟨(lx,ly),(hx,hy),r,o,t⟩=t.all (CV 200):=by simp only [AI,h1,h2,h3,h4,h5,h6,h7];simp
set_option maxHeartbeats 1000000 in
theorem Ed (s : Scn) (v : Value) (w : World) (hv : SceneAt w v s) :
    Calls Tryz.prog 37 #[v] w fun e w' => e = .returned (.bool (AI s)) ∧ Below w.heap.size w w' := by
  obtain ⟨⟨lx, ly⟩, ⟨hx, hy⟩, rob, obs, tabs⟩ := s
  obtain ⟨r, o, t, rfl, hr, ho, ht⟩ := hv
  simp only at hr ho ht
  have HR := Lib.hid hr
  have HO := Lib.hid ho
  have HT := Lib.hid ht
  obtain ⟨ra, rcap, rfl, _, _, _⟩ := hr.open
  obtain ⟨oa, ocap, rfl, _, olen, _⟩ := ho.open
  obtain ⟨ta, tcap, rfl, _, tlen, _⟩ := ht.open
  clear hr ho ht
  have olen' : obs.length ≤ 9223372036854775807 := by omega
  have tlen' : tabs.length ≤ 9223372036854775807 := by omega
  go_enter Tryz.func37, Tryz.ntmps37
  go_wp2_with fail
  refine (PJ 200 (by omega) (by omega) [(lx, ly), (hx, hy)] _ _ (RB (by simp) (by go_simp) (by go_simp) (by go_simp) (by go_simp))).mono ?_
  rintro e w1 ⟨rfl, h1⟩
  have B1 : Below w.heap.size w w1 := Below.trans (by (repeat (first | with_reducible exact Below.refl _ _ | with_reducible assumption | with_reducible refine Below.drew ?_ | with_reducible refine Below.setCell ?_ ?_ _ | with_reducible refine Below.alloc ?_ ?_ _)); all_goals first | (simp; done) | (simp; omega) | omega) (h1.mono (by first | (simp; done) | (simp; omega) | omega))
  have S1 := h1.size
  have T1 := B1.size
  try simp at S1
  obtain ⟨k1, f1⟩ := FI h1
  try simp at k1
  try simp at f1
  have Hc1 := Lib.hid h1
  clear h1
  have u1_0 : w.heap.size < w1.heap.size := by omega
  have u1_1 : w.heap.size + 1 < w1.heap.size := by omega
  cases hA : [(lx, ly), (hx, hy)].all (CV 200)
  · go_wp2
    go_ret
    exact ⟨Bt (S7 hA).symm, (by (repeat (first | with_reducible exact Below.refl _ _ | with_reducible assumption | with_reducible refine Below.drew ?_ | with_reducible refine Below.setCell ?_ ?_ _ | with_reducible refine Below.alloc ?_ ?_ _)); all_goals first | (simp; done) | (simp; omega) | omega)⟩
  have HAL := Lib.hid hA
  by_cases h2 : lx < hx
  case neg =>
    go_wp2
    go_ret
    exact ⟨Bt (S8 (by omega)).symm, (by (repeat (first | with_reducible exact Below.refl _ _ | with_reducible assumption | with_reducible refine Below.drew ?_ | with_reducible refine Below.setCell ?_ ?_ _ | with_reducible refine Below.alloc ?_ ?_ _)); all_goals first | (simp; done) | (simp; omega) | omega)⟩
  by_cases h3 : ly < hy
  case neg =>
    go_wp2
    go_ret
    exact ⟨Bt (S9 (by omega)).symm, (by (repeat (first | with_reducible exact Below.refl _ _ | with_reducible assumption | with_reducible refine Below.drew ?_ | with_reducible refine Below.setCell ?_ ?_ _ | with_reducible refine Below.alloc ?_ ?_ _)); all_goals first | (simp; done) | (simp; omega) | omega)⟩
  go_wp2_with fail
  refine (OR 20 (by omega) (by omega) rob _ _ (HR.out.below B1)).mono ?_
  rintro e w2 ⟨rfl, h2⟩
  have B2 : Below w.heap.size w w2 := Below.trans (by (repeat (first | with_reducible exact Below.refl _ _ | with_reducible assumption | with_reducible refine Below.drew ?_ | with_reducible refine Below.setCell ?_ ?_ _ | with_reducible refine Below.alloc ?_ ?_ _)); all_goals first | (simp; done) | (simp; omega) | omega) (h2.mono (by first | (simp; done) | (simp; omega) | omega))
  have S2 := h2.size
  have T2 := B2.size
  try simp at S2
  obtain ⟨k2, f2⟩ := FI h2
  try simp at k2
  try simp at f2
  have Hc2 := Lib.hid h2
  clear h2
  have u2_0 : w.heap.size < w2.heap.size := by omega
  have u2_1 : w.heap.size + 1 < w2.heap.size := by omega
  cases h4 : shape 20 rob
  · go_wp2
    go_ret
    exact ⟨Bt (TA h4).symm, (by (repeat (first | with_reducible exact Below.refl _ _ | with_reducible assumption | with_reducible refine Below.drew ?_ | with_reducible refine Below.setCell ?_ ?_ _ | with_reducible refine Below.alloc ?_ ?_ _)); all_goals first | (simp; done) | (simp; omega) | omega)⟩
  have H4 := Lib.hid h4
  by_cases h6 : obs.length ≤ 4
  case neg =>
    go_wp2
    go_ret
    exact ⟨Bt (TC (by omega)).symm, (by (repeat (first | with_reducible exact Below.refl _ _ | with_reducible assumption | with_reducible refine Below.drew ?_ | with_reducible refine Below.setCell ?_ ?_ _ | with_reducible refine Below.alloc ?_ ?_ _)); all_goals first | (simp; done) | (simp; omega) | omega)⟩
  go_wp2_with fail
  refine (PL _ #[] _ obs _ _ (HO.out.below B2) (NV _)).mono ?_
  rintro e w3 ⟨rfl, h3⟩
  have B3 : Below w.heap.size w w3 := Below.trans (by (repeat (first | with_reducible exact Below.refl _ _ | with_reducible assumption | with_reducible refine Below.drew ?_ | with_reducible refine Below.setCell ?_ ?_ _ | with_reducible refine Below.alloc ?_ ?_ _)); all_goals first | (simp; done) | (simp; omega) | omega) (h3.mono (by first | (simp; done) | (simp; omega) | omega))
  have S3 := h3.size
  have T3 := B3.size
  try simp at S3
  obtain ⟨k3, f3⟩ := FI h3
  try simp at k3
  try simp at f3
  have Hc3 := Lib.hid h3
  clear h3
  have u3_0 : w.heap.size < w3.heap.size := by omega
  have u3_1 : w.heap.size + 1 < w3.heap.size := by omega
  have e5 : (obs.any fun l => !shape 200 l) = !(obs.all (shape 200)) := by simp [List.not_all_eq_any_not]
  rw [e5]; clear e5
  cases h5 : obs.all (shape 200)
  · go_wp2
    go_ret
    exact ⟨Bt (TB h5).symm, (by (repeat (first | with_reducible exact Below.refl _ _ | with_reducible assumption | with_reducible refine Below.drew ?_ | with_reducible refine Below.setCell ?_ ?_ _ | with_reducible refine Below.alloc ?_ ?_ _)); all_goals first | (simp; done) | (simp; omega) | omega)⟩
  have H5 := Lib.hid h5
  by_cases h7 : tabs.length ≤ 3
  case neg =>
    go_wp2
    go_ret
    exact ⟨Bt (TE (by omega)).symm, (by (repeat (first | with_reducible exact Below.refl _ _ | with_reducible assumption | with_reducible refine Below.drew ?_ | with_reducible refine Below.setCell ?_ ?_ _ | with_reducible refine Below.alloc ?_ ?_ _)); all_goals first | (simp; done) | (simp; omega) | omega)⟩
  go_wp2_with fail
  refine (PJ 200 (by omega) (by omega) tabs _ _ (HT.out.below B3)).mono ?_
  rintro e w4 ⟨rfl, h4⟩
  have B4 : Below w.heap.size w w4 := Below.trans (by (repeat (first | with_reducible exact Below.refl _ _ | with_reducible assumption | with_reducible refine Below.drew ?_ | with_reducible refine Below.setCell ?_ ?_ _ | with_reducible refine Below.alloc ?_ ?_ _)); all_goals first | (simp; done) | (simp; omega) | omega) (h4.mono (by first | (simp; done) | (simp; omega) | omega))
  have S4 := h4.size
  have T4 := B4.size
  try simp at S4
  obtain ⟨k4, f4⟩ := FI h4
  try simp at k4
  try simp at f4
  have Hc4 := Lib.hid h4
  clear h4
  have u4_0 : w.heap.size < w4.heap.size := by omega
  have u4_1 : w.heap.size + 1 < w4.heap.size := by omega
  go_wp2
  go_ret
  exact ⟨Bt (TF HAL.out (by omega) (by omega) H4.out H5.out (by omega) (by omega)).symm, (by (repeat (first | with_reducible exact Below.refl _ _ | with_reducible assumption | with_reducible refine Below.drew ?_ | with_reducible refine Below.setCell ?_ ?_ _ | with_reducible refine Below.alloc ?_ ?_ _)); all_goals first | (simp; done) | (simp; omega) | omega)⟩
end Go.Proofs.YtkffpiaagjcmpaaGreat
namespace Go.Proofs.YtkffpiaagjcmpaaGreat
set_option maxRecDepth 100000
set_option linter.unusedVariables false
set_option linter.unusedSimpArgs false
open Go.RowKit
theorem RD (n:Int) (w:World):Calls Tryz.prog 38 #[.int .i64 n] w λ e w'=>e=.returned (.bool (inR n 0 3))/\w=w':=by
 go_enter Tryz.func38,Tryz.ntmps38
 go_wp2_with (go_at_call 40;refine (FZ _ _ _ _).mono ?_;rintro e w' ⟨rfl,rfl⟩)
 go_ret
 exact ⟨rfl,rfl⟩
end Go.Proofs.YtkffpiaagjcmpaaGreat
namespace Go.Proofs.YtkffpiaagjcmpaaGreat
set_option linter.unusedVariables false
set_option linter.unusedSimpArgs false
open Go.RowKit
def IA (s:Scn):Prop:=s.robot.length<=1048576/\s.obst.length<=1048576/\(∀ x ∈ s.obst,x.length<=1048576)/\s.tables.length<=1048576
def TG (dx dy:Int) (p:V2):V2:=(IntKind.i64.wrap (p.1+dx),IntKind.i64.wrap (p.2+dy))
def CK (l:List V2) (dx dy:Int):List V2:=l.map (TG dx dy)
def DH (l:List V2) (dx dy:Int):List V2:=if AE (dx,dy)=true/\(CK l dx dy).all AE=true then CK l dx dy else []
theorem I2 {l:List V2} {k:Nat} (hk:k<l.length):(AA l).getD k []=Hz (l.getD k (0,0)):=by simp [AA,List.getD,hk]
theorem Aj {l:List V2} {k:Nat} (hk:k<l.length):(((AA l).getD k []).getD 0 (.int 0)).n=(l.getD k (0,0)).1:=by rw [I2 hk];rfl
theorem Aw {l:List V2} {k:Nat} (hk:k<l.length):(((AA l).getD k []).getD 1 (.int 0)).n=(l.getD k (0,0)).2:=by rw [I2 hk];rfl
theorem J7 {l:List V2} {k:Nat} {dx dy:Int} (hk:k<l.length):CK (l.take (k+1)) dx dy=CK (l.take k) dx dy++[TG dx dy (l.getD k (0,0))]:=by
 unfold CK
 rw [EQ l (0,0) k hk,List.map_append]
 rfl
theorem J8 {l:List V2} {k:Nat} {dx dy:Int} (hk:k<l.length):AA (CK (l.take k) dx dy)++[[Dat.int (IntKind.i64.wrap ((((AA l).getD k []).getD 0 (.int 0)).n+dx)),Dat.int (IntKind.i64.wrap ((((AA l).getD k []).getD 1 (.int 0)).n+dy))]]=AA (CK (l.take (k+1)) dx dy):=by
 rw [Aj hk,Aw hk,J7 hk]
 simp [AA,TG,Hz]
theorem DI (l:List V2) (dx dy:Int):(CK l dx dy).length=l.length:=by simp [CK]
theorem EL {l:List V2} {dx dy:Int} (h:AE (dx,dy)=false∨(CK l dx dy).all AE=false):DH l dx dy=[]:=by
 unfold DH;rw [if_neg];rintro ⟨h1,h2⟩;rcases h with h|h <;> simp_all
theorem F5 {l:List V2} {dx dy:Int} (h:AE (dx,dy)=true) (h' : (CK l dx dy).all AE=true):DH l dx dy=CK l dx dy:=by
 unfold DH;rw [if_pos ⟨h,h'⟩]
theorem A7 {l:List V2} {k:Nat} (h:l.all AE=true) (hk:k<l.length):AE (l.getD k (0,0))=true:=by
 simp only [List.getD,List.getElem?_eq_getElem hk,Option.getD_some]
 exact List.all_eq_true.1 h _ (List.getElem_mem hk)
theorem MY {l:List V2} {k:Nat} {dx dy:Int} (hk:k<l.length) (h:AE (TG dx dy (l.getD k (0,0)))=false):(CK l dx dy).all AE=false:=by
 rw [Bool.eq_false_iff]
 intro ha
 have:=List.all_eq_true.1 ha (TG dx dy (l.getD k (0,0))) (by unfold CK;exact List.mem_map_of_mem (by simp [List.getD,hk]))
 rw [h] at this;cases this
end Go.Proofs.YtkffpiaagjcmpaaGreat
namespace Go.Proofs.YtkffpiaagjcmpaaGreat
set_option linter.unusedVariables false
set_option linter.unusedSimpArgs false
open Go.RowKit
theorem Aa {l:List (List V2)} {k:Nat} (hk:k<l.length):(((AM l).getD k []).getD 0 (.int 0)).r=AA (l.getD k []):=by simp [AM,List.getD,hk,Dat.r]
end Go.Proofs.YtkffpiaagjcmpaaGreat
namespace Go.Proofs.YtkffpiaagjcmpaaGreat
set_option linter.unusedVariables false
set_option linter.unusedSimpArgs false
open Go.RowKit
def Be:Con:={ ι:=Int×Int,pre:=λ i=>True,args:=λ i=>[DA.agg [cI i.1,cI i.2]],res:=λ i=>⟨false,[none],[rcB (AE (i.1,i.2))]⟩ }
theorem OS:Be.Ok Tryz.prog 126:=CY rfl ⟨_,Tryz.func126,by decide,rfl⟩ (λ _=>Nat.le_of_ble_eq_true rfl) (λ _=>rfl) (λ i=>[.im (.bool (AE (i.1,i.2)))]) (λ _=>rfl) (λ _=>rfl) (λ i hp w us h=>by
 obtain ⟨x,y⟩:=i
 have h:RdRow w [.int,.int] [.int x,.int y] us:=h
 obtain ⟨a,_,rfl,q1,h⟩:=RdRow.cons2 h
 obtain ⟨b,_,rfl,q2,h⟩:=RdRow.cons2 h
 obtain ⟨-,rfl⟩:=RdRow.nil_inv h
 obtain rfl:=Rd.int2 q1
 obtain rfl:=Rd.int2 q2
 refine (Bo x y w).mono ?_
 rintro e w' ⟨rfl,hb⟩
 exact ⟨[Value.bool (AE (x,y))],rfl,Own.leaf (Fp.mk_bool _),hb⟩)
def BR:Con:={ ι:=(List V2),pre:=λ i=>True,args:=λ i=>[.one (DC.sl 24 [.int,.int] (AA i))],res:=λ i=>⟨false,[none],[rcB (AK i)]⟩ }
theorem MZ:BR.Ok Tryz.prog 10:=CY rfl ⟨_,Tryz.func10,by decide,rfl⟩ (λ _=>Nat.le_of_ble_eq_true rfl) (λ _=>rfl) (λ l=>[.im (.bool (AK l))]) (λ _=>rfl) (λ _=>rfl) (λ i hp w us h=>by
 have h:RdRow w [.sl 24 [.int,.int]] [.sl (AA i)] us:=h
 obtain ⟨v,vs,rfl,h1,h2⟩:=RdRow.cons2 h
 obtain ⟨-,rfl⟩:=RdRow.nil_inv h2
 refine (Gv i v w (Rd.vecs h1)).mono ?_
 rintro e w' ⟨rfl,hb⟩
 exact ⟨[Value.bool (AK i)],rfl,Own.leaf (Fp.mk_bool _),hb⟩)
def E3:Con:={ ι:=(List V2),pre:=λ i=>True,args:=λ i=>[.one (DC.sl 24 [.int,.int] (AA i))],res:=λ i=>⟨false,[none],[rcB (AK i)]⟩ }
theorem TH:E3.Ok Tryz.prog 125:=CY rfl ⟨_,Tryz.func125,by decide,rfl⟩ (λ _=>Nat.le_of_ble_eq_true rfl) (λ _=>rfl) (λ l=>[.im (.bool (AK l))]) (λ _=>rfl) (λ _=>rfl) (λ i hp w us h=>by
 have h:RdRow w [.sl 24 [.int,.int]] [.sl (AA i)] us:=h
 obtain ⟨v,vs,rfl,h1,h2⟩:=RdRow.cons2 h
 obtain ⟨-,rfl⟩:=RdRow.nil_inv h2
 refine (PK i v w (Rd.vecs h1)).mono ?_
 rintro e w' ⟨rfl,hb⟩
 exact ⟨[Value.bool (AK i)],rfl,Own.leaf (Fp.mk_bool _),hb⟩)
theorem Da {l:List V2} (h:AK l=true):3<=l.length/\l.length<=16/\l.all AE=true:=by
 simp only [AK,Bool.and_eq_true,BK] at h
 exact ⟨by omega,by omega,h.1.2⟩
def RatD.has (r:RatD):Prop:=Dat.has (.sl 3 [.int]) (.sl r.num)/\Dat.has (.sl 3 [.int]) (.sl r.den)
def PtD.has (p:PtD):Prop:=p.x.has/\p.y.has
theorem Ma {k n:Nat} (hk:k<n) (hn:n<=1048576):(Int.tmod (IntKind.i64.wrap (((k:Nat):Int)+(1:Int))) ((n:Nat):Int)).toNat=(k+1)%n/\(k+1)%n<n/\Int.tmod (IntKind.i64.wrap (((k:Nat):Int)+(1:Int))) ((n:Nat):Int)=(((k+1)%n:Nat):Int):=by
 have e:Int.tmod (IntKind.i64.wrap (((k:Nat):Int)+(1:Int))) ((n:Nat):Int)=(((k+1)%n:Nat):Int):=by
  rw [AC (by omega) (by omega),show ((k:Nat):Int)+1=((k+1:Nat):Int) by omega,AAt]
 refine ⟨by rw [e];omega,Nat.mod_lt _ (by omega),e⟩
end Go.Proofs.YtkffpiaagjcmpaaGreat
namespace Go.Proofs.YtkffpiaagjcmpaaGreat
set_option linter.unusedVariables false
set_option linter.unusedSimpArgs false
open Go.RowKit
end Go.Proofs.YtkffpiaagjcmpaaGreat
