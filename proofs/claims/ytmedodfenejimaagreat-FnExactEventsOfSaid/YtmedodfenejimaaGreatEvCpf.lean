import Derived.Test.YtmedodfenejimaaGreatEvSrt
import Derived.Deep.LoopGhost
import Derived.WalkKit
import Derived.RegionTactic
import Derived.Deep.RegionHeld3
namespace Go.Proofs.YtmedodfenejimaaGreat
set_option linter.unusedVariables false
set_option linter.unusedSimpArgs false
open Go.RowKit Go.Sort Go.Shelf Go.Lib
structure R3 where
 b:Bool
 p:Option Addr
 m:Nat
 c:Nat
 q:Option Addr
 n:Nat
 e:Nat
 f:Fr
instance:Inhabited R3:=⟨⟨false,none,0,0,none,0,0,Fr.none⟩⟩
def rE (x:R3):List Value:=[.bool x.b,.slice x.p x.m x.c,.slice x.q x.n x.e]
theorem P7 {P:Program} (w:World) (t e ty:TypeId) (ht:P.underlying t=some (.slice e)) (hv:∀ w,(zeroValue e).run P w=.ok (.agg #[.bool false,.slice none 0 0,.slice none 0 0]) w) (b o n c:Nat) (hn:0<n)
  (hc:∀ j,j<n*3->(w.cell? ⟨b,o+j,none⟩).isSome=true) (hf:∀ j,j<n*3->w.frozen? ⟨b,o+j,none⟩=false) :
  (Builtin.clear_ #[t] ty #[.slice (some ⟨b,o,none⟩) n c]).run P w=.ok (.tuple #[]) (w.setCells b o (Builtin.zeroCells (Value.agg #[.bool false,.slice none 0 0,.slice none 0 0]).cells n).toList):=by
 have hs:(Value.agg #[.bool false,.slice none 0 0,.slice none 0 0]).cells=#[.bool false,.slice none 0 0,.slice none 0 0]:=rfl
 have hl:(Builtin.zeroCells (Value.agg #[.bool false,.slice none 0 0,.slice none 0 0]).cells n).toList.length=n*3:=by rw [hs];simp [Builtin.zeroCells]
 have hst:=run_storeCells_cells (P:=P) b o (Builtin.zeroCells (Value.agg #[.bool false,.slice none 0 0,.slice none 0 0]).cells n).toList 0 w (by rw [hl];simpa using hc) (by rw [hl];simpa using hf) (by
  intro v hv'
  simp only [Builtin.zeroCells,Array.toList_map,List.mem_map] at hv'
  obtain ⟨i,_,rfl⟩:=hv'
  rw [hs]
  have:i%3=0∨i%3=1∨i%3=2:=by omega
  show (#[Value.bool false,Value.slice none 0 0,Value.slice none 0 0][i%3]!).oneCell'=true
  rcases this with e|e|e <;> rw [e] <;> rfl)
 simp only [Nat.add_zero] at hst
 obtain ⟨m,rfl⟩:∃ m,n=m+1:=⟨n-1,by omega⟩
 simp [Builtin.clear_,run_underlying ht,hv,hst]
theorem Ge (g:Nat):∀ (cs:List Value) (w:World) (o:Nat),OnlyIn (λ b=>b=g) w (w.setCells g o cs)
 | [],w,o=>OnlyIn.refl _ _
 | c::cs,w,o=>by
  have h1:OnlyIn (λ b=>b=g) w (w.setCell ⟨g,o,none⟩ c):=OnlyIn.setCell (OnlyIn.refl _ _) (show (⟨g,o,none⟩:Addr).block=g from rfl) c
  exact h1.trans (Ge g cs (w.setCell ⟨g,o,none⟩ c) (o+1))
theorem Do (g:Nat):∀ (cs:List Value) (w:World) (o a:Nat),a<o->(w.setCells g o cs).cell? ⟨g,a,none⟩=w.cell? ⟨g,a,none⟩
 | [],w,o,a,_=>rfl
 | c::cs,w,o,a,h=>by
  show ((w.setCell ⟨g,o,none⟩ c).setCells g (o+1) cs).cell? ⟨g,a,none⟩=_
  rw [Do g cs _ (o+1) a (by omega)]
  go_simp
def Row3 (w:World) (g off:Nat) (d:Array R3):Prop:=∀ j,j<d.size->(w.cell? ⟨g,off+j*3,none⟩=some (.bool (d[j]!).b)/\w.cell? ⟨g,off+j*3+1,none⟩=some (.slice (d[j]!).p (d[j]!).m (d[j]!).c)/\w.cell? ⟨g,off+j*3+2,none⟩=some (.slice (d[j]!).q (d[j]!).n (d[j]!).e))/\w.frozen? ⟨g,off+j*3,none⟩=false/\w.frozen? ⟨g,off+j*3+1,none⟩=false/\w.frozen? ⟨g,off+j*3+2,none⟩=false
theorem Row3.below {w w' : World} {g off:Nat} {d:Array R3} (h:Row3 w g off d) (hb:Below w.heap.size w w') (hg:g<w.heap.size):Row3 w' g off d:=λ j hj=>by
 have e:=hb.block g hg
 have h:=h j hj
 simp only [World.cell?,World.frozen?,e] at h ⊢
 exact h
theorem Row3.set {w:World} {g off i:Nat} {d:Array R3} (h:Row3 w g off d) (hi:i<d.size) (x:R3):Row3 (((w.setCell ⟨g,off+i*3,none⟩ (.bool x.b)).setCell ⟨g,off+i*3+1,none⟩ (.slice x.p x.m x.c)).setCell ⟨g,off+i*3+2,none⟩ (.slice x.q x.n x.e)) g off (d.setIfInBounds i x):=λ j hj=>by
 have hj2:j<d.size:=by simpa using hj
 obtain ⟨⟨c0,c1,c2⟩,f0,f1,f2⟩:=h j hj2
 by_cases e:j=i
 ·subst e
  rw [getElem!_set_same d j _ hi]
  exact ⟨⟨by go_simp,by go_simp,by go_simp⟩,by go_simp,by go_simp,by go_simp⟩
 ·rw [getElem!_set_other d i j _ e]
  have n1:¬ off+j*3=off+i*3:=by omega
  have n2:¬ off+j*3=off+i*3+1:=by omega
  have n3:¬ off+j*3=off+i*3+2:=by omega
  have n4:¬ off+j*3+1=off+i*3:=by omega
  have n5:¬ off+j*3+1=off+i*3+1:=by omega
  have n6:¬ off+j*3+1=off+i*3+2:=by omega
  have n7:¬ off+j*3+2=off+i*3:=by omega
  have n8:¬ off+j*3+2=off+i*3+1:=by omega
  have n9:¬ off+j*3+2=off+i*3+2:=by omega
  exact ⟨⟨by go_simp,by go_simp,by go_simp⟩,by go_simp,by go_simp,by go_simp⟩
structure CI (d:Array R3) (m k:Nat) (dk:Array R3):Prop where
 size:dk.size=d.size
 le:k<=m
 sub:∀ j,j<k->∃ i,i<d.size/\dk[j]! = d[i]!
 asc:∀ i j,i<j->j<k->Fr.cmp (dk[i]!).f (dk[j]!).f<0
 mem:∀ x,(∃ j,j<k/\(dk[j]!).f=x)↔∃ j,j<m/\(d[j]!).f=x
 high:∀ j,k<=j->dk[j]! = d[j]!
structure Inc (d:Array R3):Prop where
 good:∀ j,j<d.size->(d[j]!).f.d≠0
 inc:∀ i j,i<j->j<d.size->¬ Fr.cmp (d[j]!).f (d[i]!).f<0
theorem CI.one {d:Array R3} (h:0<d.size):CI d 1 1 d where
 size:=rfl
 le:=Nat.le_refl _
 sub:=λ j hj=>⟨j,by omega,rfl⟩
 asc:=λ i j hij hj=>by omega
 mem:=λ x=>Iff.rfl
 high:=λ _ _=>rfl
theorem Inc.lt {d:Array R3} (h:Inc d) {m p:Nat} (hm:m<d.size) (hp:p<m) (hne:eqF (d[m]!).f (d[m-1]!).f=false):Fr.cmp (d[p]!).f (d[m]!).f<0:=by
 have g1:=h.good m hm
 have g2:=h.good (m-1) (by omega)
 have g3:=h.good p (by omega)
 have c1:=h.inc (m-1) m (by omega) hm
 have s1:=P5 g1 g2
 have l1:Fr.cmp (d[m-1]!).f (d[m]!).f<0:=by
  by_cases e:Fr.cmp (d[m]!).f (d[m-1]!).f=0
  ·have:=J3 g1 g2 e
   rw [Qy.2 this] at hne;cases hne
  ·omega
 by_cases e:p=m-1
 ·rw [e];exact l1
 ·have c2:=h.inc p (m-1) (by omega) (by omega)
  have s2:=P5 g2 g3
  by_cases e2:Fr.cmp (d[p]!).f (d[m-1]!).f=0
  ·rw [J3 g3 g2 e2];exact l1
  ·exact NT (by omega) l1
theorem CI.keep {d dk dk' : Array R3} {m k:Nat} (h:CI d m k dk) (hd:Inc d) (hm:m<d.size) (hne:eqF (d[m]!).f (d[m-1]!).f=false) (hs:dk'.size=d.size) (hl:∀ j,j<k->dk'[j]! = dk[j]!) (hk:dk'[k]! = d[m]!) (hh:∀ j,k+1<=j->dk'[j]! = d[j]!):CI d (m+1) (k+1) dk' where
 size:=hs
 le:=by have:=h.le;omega
 sub:=λ j hj=>by
  by_cases e:j=k
  ·subst e;exact ⟨m,hm,hk⟩
  ·rw [hl j (by omega)];exact h.sub j (by omega)
 asc:=λ i j hij hj=>by
  by_cases e:j=k
  ·subst e
   rw [hk,hl i hij]
   obtain ⟨p,hp,e⟩:=(h.mem (dk[i]!).f).1 ⟨i,hij,rfl⟩
   rw [← e]
   exact hd.lt hm hp hne
  ·rw [hl i (by omega),hl j (by omega)];exact h.asc i j hij (by omega)
 mem:=λ x=>by
  constructor
  ·rintro ⟨j,hj,e⟩
   by_cases e2:j=k
   ·subst e2;rw [hk] at e;exact ⟨m,by omega,e⟩
   ·rw [hl j (by omega)] at e
    obtain ⟨p,hp,e⟩:=(h.mem x).1 ⟨j,by omega,e⟩
    exact ⟨p,by omega,e⟩
  ·rintro ⟨j,hj,e⟩
   by_cases e2:j=m
   ·subst e2;exact ⟨k,by omega,by rw [hk];exact e⟩
   ·obtain ⟨p,hp,e⟩:=(h.mem x).2 ⟨j,by omega,e⟩
    exact ⟨p,by omega,by rw [hl p hp];exact e⟩
 high:=hh
theorem CI.skip {d dk:Array R3} {m k:Nat} (h:CI d m k dk) (hm0:0<m) (he:eqF (d[m]!).f (d[m-1]!).f=true):CI d (m+1) k dk where
 size:=h.size
 le:=by have:=h.le;omega
 sub:=h.sub
 asc:=h.asc
 mem:=λ x=>by
  rw [h.mem x]
  constructor
  ·rintro ⟨j,hj,e⟩;exact ⟨j,by omega,e⟩
  ·rintro ⟨j,hj,e⟩
   by_cases e2:j=m
   ·subst e2;rw [Qy.1 he] at e;exact ⟨j-1,by omega,e⟩
   ·exact ⟨j,by omega,e⟩
 high:=h.high
theorem CI.set {d dk:Array R3} {m k:Nat} (h:CI d m k dk) (hd:Inc d) (hm:m<d.size) (hne:eqF (d[m]!).f (d[m-1]!).f=false):CI d (m+1) (k+1) (dk.setIfInBounds k d[m]!):=
 h.keep hd hm hne (by simp [h.size]) (λ j hj=>getElem!_set_other dk k j _ (by omega)) (getElem!_set_same dk k _ (by have:=h.le;have:=h.size;omega)) (λ j hj=>by rw [getElem!_set_other dk k j _ (by omega)];exact h.high j (by omega))
theorem CI.next {d:Array R3} {k:Nat} (h:CI d k k d) (hd:Inc d) (hm:k<d.size) (hne:eqF (d[k]!).f (d[k-1]!).f=false):CI d (k+1) (k+1) d:=
 h.keep hd hm hne rfl (λ _ _=>rfl) rfl (λ _ _=>rfl)
def Rd3 (G:Nat->Prop) (w:World) (g:Nat) (d:Array R3):Prop:=∀ j,j<d.size->RdRowS (λ b=>(G b/\b≠g)/\b<w.heap.size) w rTy (frD (d[j]!).f) (rE d[j]!)
theorem Rd3.at {G:Nat->Prop} {w w' : World} {g:Nat} {d:Array R3} (h:Rd3 G w g d) (ho:OnlyIn (λ b=>b=g) w w') {j:Nat} (hj:j<d.size) {x:R3} (hx:d[j]! = x):RdRow w' rTy (frD x.f) (rE x):=by
 have h:=h j hj
 rw [hx] at h
 exact RdRowS.rd _ _ _ (RdRowS.step ho.size (λ b hb hG=>ho.block b hb hG.1.2) _ _ _ h)
theorem O1 (w:World) (q:Nat) (os:Array Obj):Below w.heap.size w (grow (w.drewN q) os):=⟨rfl,rfl,rfl,by rw [Sort.size_grow];exact Nat.le_add_right _ _,λ k hk=>Sort.heap_grow_old _ _ hk⟩
theorem J5 {r s:Fr} {x0 y0:Bool} {x1 x2 y1 y2:Value} {w:World} (h1:RdRow w rTy (frD r) [.bool x0,x1,x2]) (h2:RdRow w rTy (frD s) [.bool y0,y1,y2]):Calls Tryz.prog 109 #[.agg #[.bool x0,x1,x2],.agg #[.bool y0,y1,y2]] w λ e w'=>e=.returned (.bool (eqF r s))/\Below w.heap.size w w':=
 (VL h1 h2).mono λ e w' ⟨h,q,os,e2⟩=>⟨h,by subst e2;exact O1 w q os⟩
def WR (w:World) (g off cap:Nat) (d:Array R3) (e:Ending) (w' : World):Prop:=∃ (m:Nat) (d' : Array R3),e=.returned (.slice (some ⟨g,off,none⟩) m cap)/\CI d d.size m d'/\OnlyIn (λ b=>b=g) w w'/\∀ j,j<m->w'.cell? ⟨g,off+j*3,none⟩=some (.bool (d'[j]!).b)/\w'.cell? ⟨g,off+j*3+1,none⟩=some (.slice (d'[j]!).p (d'[j]!).m (d'[j]!).c)/\w'.cell? ⟨g,off+j*3+2,none⟩=some (.slice (d'[j]!).q (d'[j]!).n (d'[j]!).e)
set_option maxHeartbeats 4000000 in
theorem P8 {G : Nat → Prop} (g off cap : Nat) (d : Array R3) (w : World) (hH : Row3 w g off d) (hR : Rd3 G w g d) (hI : Inc d) (hg : g < w.heap.size) (hsz : d.size ≤ 4000000000000) (hpos : 0 < d.size) (hcap : d.size ≤ cap) (hcm : cap ≤ 9223372036854775807) :
    Calls Tryz.prog 227 #[.slice (some ⟨g, off, none⟩) d.size cap, .func (.func 109) #[] #[]] w (WR w g off cap d) := by
  have HH := Lib.hid hH
  have HR := Lib.hid hR
  have HI := Lib.hid hI
  clear hH hR hI
  have eg : ∀ args w, (callFunc 109 args).run Tryz.prog w = .ok (.enter 109 args) w := enters_of Tryz.func109 (by kernel_rfl) rfl
  by_cases h2 : d.size < 2
  · go_enter Tryz.func227, Tryz.ntmps227
    go_wp2
    go_ret
    have e1 : d.size = 1 := by omega
    refine ⟨d.size, d, rfl, ?_, OnlyIn.refl _ _, fun j hj => (HH.out j hj).1⟩
    rw [e1]; exact CI.one (by omega)
  · go_enter Tryz.func227, Tryz.ntmps227
    go_wp2
    go_loopw [5] (fun s3 wr => ∃ k : Nat, 1 ≤ k ∧ k ≤ d.size ∧ s3 = .int .i64 k ∧ Below w.heap.size w wr ∧ CI d k k d) (fun i _ => d.size - (intOf i).toNat)
    case atStart => exact ⟨1, Nat.le_refl _, by omega, rfl, Below.refl _ _, CI.one (by omega)⟩
    case round =>
      obtain ⟨k, hk1, hk, rfl, hb, hall⟩ := hrel
      by_cases hlt : k < d.size
      · have HA := Lib.hid hall; clear hall
        obtain ⟨a0, a1, a2⟩ := (HH.out k hlt).1
        obtain ⟨p0, p1, p2⟩ := (HH.out (k - 1) (by omega)).1
        have c0 := (hb.cell (p := ⟨g, off + k * 3, none⟩) hg).trans a0
        have c1 := (hb.cell (p := ⟨g, off + k * 3 + 1, none⟩) hg).trans a1
        have c2 := (hb.cell (p := ⟨g, off + k * 3 + 2, none⟩) hg).trans a2
        have r0 := (hb.cell (p := ⟨g, off + (k - 1) * 3, none⟩) hg).trans p0
        have r1 := (hb.cell (p := ⟨g, off + (k - 1) * 3 + 1, none⟩) hg).trans p1
        have r2 := (hb.cell (p := ⟨g, off + (k - 1) * 3 + 2, none⟩) hg).trans p2
        clear a0 a1 a2 p0 p1 p2
        obtain ⟨x, hx⟩ : ∃ x, d[k]! = x := ⟨_, rfl⟩
        obtain ⟨y, hy⟩ : ∃ y, d[k - 1]! = y := ⟨_, rfl⟩
        have HX := Lib.hid (And.intro hx hy)
        rw [hx] at c0 c1 c2
        rw [hy] at r0 r1 r2
        clear hx hy
        obtain ⟨x1, x2, x3, x4, x5, x6, x7, xf⟩ := x
        obtain ⟨y1, y2, y3, y4, y5, y6, y7, yf⟩ := y
        simp only at c0 c1 c2 r0 r1 r2
        have HB := Lib.hid hb
        have hws := hb.size
        clear hb
        have hkm : IntKind.i64.wrap (((k : Nat) : Int) - 1) = ((k - 1 : Nat) : Int) := by rw [AB (by omega) (by omega)]; omega
        have mixed : Tryz.prog.follows Departure.mixedOrders = true := by kernel_rfl
        have hA := HX.out.1
        have hB := HX.out.2
        have rx := Lib.hid (HR.out.at (OnlyIn.of_below (Below.drew HB.out)) hlt hA)
        have ry := Lib.hid (HR.out.at (OnlyIn.of_below (Below.drew HB.out)) (show k - 1 < d.size by omega) hB)
        clear hA hB
        have l1 : k - 1 < d.size := by omega
        have l2 : (0 : Int) ≤ ((k - 1 : Nat) : Int) := by omega
        have l3 : ((k - 1 : Nat) : Int) < ((d.size : Nat) : Int) := by omega
        cases hq : eqF xf yf with
        | false =>
          have HQ := Lib.hid hq; clear hq
          go_wp2_with fail
          go_region_held3 (fun w' => w'.cell? ⟨g, off + k * 3, none⟩ = some (.bool x1) ∧ w'.cell? ⟨g, off + k * 3 + 1, none⟩ = some (.slice x2 x3 x4) ∧ w'.cell? ⟨g, off + k * 3 + 2, none⟩ = some (.slice x5 x6 x7) ∧ w'.cell? ⟨g, off + (k - 1) * 3, none⟩ = some (.bool y1) ∧ w'.cell? ⟨g, off + (k - 1) * 3 + 1, none⟩ = some (.slice y2 y3 y4) ∧ w'.cell? ⟨g, off + (k - 1) * 3 + 2, none⟩ = some (.slice y5 y6 y7)) ((first | exact ⟨c0, c1, c2, r0, r1, r2⟩ | exact ⟨K0, K1, K2, K3, K4, K5⟩)) (first | (go_at_fn 109; refine (J5 rx.out ry.out).mono ?_; rw [HQ.out]; rintro e w2 ⟨rfl, hb⟩; have K0 := (hb.cell (p := ⟨g, off + k * 3, none⟩) (show g < wr.heap.size by omega)).trans c0; have K1 := (hb.cell (p := ⟨g, off + k * 3 + 1, none⟩) (show g < wr.heap.size by omega)).trans c1; have K2 := (hb.cell (p := ⟨g, off + k * 3 + 2, none⟩) (show g < wr.heap.size by omega)).trans c2; have K3 := (hb.cell (p := ⟨g, off + (k - 1) * 3, none⟩) (show g < wr.heap.size by omega)).trans r0; have K4 := (hb.cell (p := ⟨g, off + (k - 1) * 3 + 1, none⟩) (show g < wr.heap.size by omega)).trans r1; have K5 := (hb.cell (p := ⟨g, off + (k - 1) * 3 + 2, none⟩) (show g < wr.heap.size by omega)).trans r2))
          have HB2 := Lib.hid ((Below.drew HB.out).trans (hb.mono hws))
          clear hb K0 K1 K2 K3 K4 K5
          go_wp2
          go_roundw
          case rel => exact ⟨k + 1, by omega, by omega, by go_num, HB2.out, HA.out.next HI.out hlt (by rw [HX.out.1, HX.out.2]; exact HQ.out)⟩
          case measure => simp [intOf]; omega
        | true =>
          have HQ := Lib.hid hq; clear hq
          go_wp2_with fail
          go_region_held3 (fun w' => w'.cell? ⟨g, off + k * 3, none⟩ = some (.bool x1) ∧ w'.cell? ⟨g, off + k * 3 + 1, none⟩ = some (.slice x2 x3 x4) ∧ w'.cell? ⟨g, off + k * 3 + 2, none⟩ = some (.slice x5 x6 x7) ∧ w'.cell? ⟨g, off + (k - 1) * 3, none⟩ = some (.bool y1) ∧ w'.cell? ⟨g, off + (k - 1) * 3 + 1, none⟩ = some (.slice y2 y3 y4) ∧ w'.cell? ⟨g, off + (k - 1) * 3 + 2, none⟩ = some (.slice y5 y6 y7)) ((first | exact ⟨c0, c1, c2, r0, r1, r2⟩ | exact ⟨K0, K1, K2, K3, K4, K5⟩)) (first | (go_at_fn 109; refine (J5 rx.out ry.out).mono ?_; rw [HQ.out]; rintro e w2 ⟨rfl, hb⟩; have K0 := (hb.cell (p := ⟨g, off + k * 3, none⟩) (show g < wr.heap.size by omega)).trans c0; have K1 := (hb.cell (p := ⟨g, off + k * 3 + 1, none⟩) (show g < wr.heap.size by omega)).trans c1; have K2 := (hb.cell (p := ⟨g, off + k * 3 + 2, none⟩) (show g < wr.heap.size by omega)).trans c2; have K3 := (hb.cell (p := ⟨g, off + (k - 1) * 3, none⟩) (show g < wr.heap.size by omega)).trans r0; have K4 := (hb.cell (p := ⟨g, off + (k - 1) * 3 + 1, none⟩) (show g < wr.heap.size by omega)).trans r1; have K5 := (hb.cell (p := ⟨g, off + (k - 1) * 3 + 2, none⟩) (show g < wr.heap.size by omega)).trans r2))
          have HB2 := Lib.hid ((Below.drew HB.out).trans (hb.mono hws))
          have hws2 := HB2.out.size
          clear hb K0 K1 K2 K3 K4 K5 c0 c1 c2 r0 r1 r2 hkm
          go_wp2
          go_loopw [5, 7] (fun s3 s5 wr' => ∃ (kk k2 : Nat) (dk : Array R3), s3 = .int .i64 kk ∧ s5 = .int .i64 k2 ∧ 1 ≤ k2 ∧ k + k2 ≤ d.size ∧ kk < k + k2 ∧ OnlyIn (fun b => b = g) w wr' ∧ Row3 wr' g off dk ∧ CI d (k + k2) kk dk) (fun _ i _ => d.size - k - (intOf i).toNat)
          case atStart => exact ⟨k, 1, d, rfl, rfl, Nat.le_refl _, by omega, by omega, OnlyIn.of_below HB2.out, HH.out.below HB2.out hg, HA.out.skip (by omega) (by rw [HX.out.1, HX.out.2]; exact HQ.out)⟩
          case round =>
            obtain ⟨kk, k2, dk, rfl, rfl, h1, hle, hkk, ho, hsh, hI⟩ := hrel
            have hds := hI.size
            have hsz2 := ho.size
            have HO := Lib.hid ho; clear ho
            have HJ := Lib.hid hI; clear hI
            have HS := Lib.hid hsh; clear hsh
            by_cases hlt2 : k + k2 < d.size
            · obtain ⟨m0, m1, m2⟩ := (HS.out (k + k2) (by omega)).1
              obtain ⟨p0, p1, p2⟩ := (HS.out (k + k2 - 1) (by omega)).1
              have e1 : off + (k + k2) * 3 = off + k * 3 + k2 * 3 := by omega
              have e2 : off + (k + k2 - 1) * 3 = off + k * 3 + (k2 - 1) * 3 := by omega
              rw [HJ.out.high (k + k2) (by omega), e1] at m0 m1 m2
              rw [HJ.out.high (k + k2 - 1) (by omega), e2] at p0 p1 p2
              obtain ⟨u, hu⟩ : ∃ u, d[k + k2]! = u := ⟨_, rfl⟩
              obtain ⟨v, hv⟩ : ∃ v, d[k + k2 - 1]! = v := ⟨_, rfl⟩
              have HU := Lib.hid (And.intro hu hv)
              rw [hu] at m0 m1 m2
              rw [hv] at p0 p1 p2
              clear hu hv
              obtain ⟨u1, u2, u3, u4, u5, u6, u7, uf⟩ := u
              obtain ⟨v1, v2, v3, v4, v5, v6, v7, vf⟩ := v
              simp only at m0 m1 m2 p0 p1 p2
              have hk2m : IntKind.i64.wrap (((k2 : Nat) : Int) - 1) = ((k2 - 1 : Nat) : Int) := by rw [AB (by omega) (by omega)]; omega
              have hA := HU.out.1
              have hB := HU.out.2
              have BD : Below wr.heap.size wr wr.drew := Below.drew (Below.refl _ _)
              have HOD := Lib.hid (HO.out.trans (OnlyIn.of_below (Below.drew (Below.refl _ _))))
              have rx := Lib.hid (HR.out.at HOD.out hlt2 hA)
              have ry := Lib.hid (HR.out.at HOD.out (show k + k2 - 1 < d.size by omega) hB)
              clear hA hB BD
              have l4 : k2 - 1 < d.size - k := by omega
              have l5 : (0 : Int) ≤ ((k2 - 1 : Nat) : Int) := by omega
              have l6 : ((k2 - 1 : Nat) : Int) < ((d.size - k : Nat) : Int) := by omega
              cases hq : eqF uf vf with
              | true =>
                have HQ2 := Lib.hid hq; clear hq e1 e2
                go_wp2_with fail
                go_region_held3 (fun w' => w'.cell? ⟨g, off + k * 3 + k2 * 3, none⟩ = some (.bool u1) ∧ w'.cell? ⟨g, off + k * 3 + k2 * 3 + 1, none⟩ = some (.slice u2 u3 u4) ∧ w'.cell? ⟨g, off + k * 3 + k2 * 3 + 2, none⟩ = some (.slice u5 u6 u7) ∧ w'.cell? ⟨g, off + k * 3 + (k2 - 1) * 3, none⟩ = some (.bool v1) ∧ w'.cell? ⟨g, off + k * 3 + (k2 - 1) * 3 + 1, none⟩ = some (.slice v2 v3 v4) ∧ w'.cell? ⟨g, off + k * 3 + (k2 - 1) * 3 + 2, none⟩ = some (.slice v5 v6 v7)) ((first | exact ⟨m0, m1, m2, p0, p1, p2⟩ | exact ⟨K0, K1, K2, K3, K4, K5⟩)) (first | (go_at_fn 109; refine (J5 rx.out ry.out).mono ?_; rw [HQ2.out]; rintro e w3 ⟨rfl, hb⟩; have K0 := (hb.cell (p := ⟨g, off + k * 3 + k2 * 3, none⟩) (show g < wr.heap.size by omega)).trans m0; have K1 := (hb.cell (p := ⟨g, off + k * 3 + k2 * 3 + 1, none⟩) (show g < wr.heap.size by omega)).trans m1; have K2 := (hb.cell (p := ⟨g, off + k * 3 + k2 * 3 + 2, none⟩) (show g < wr.heap.size by omega)).trans m2; have K3 := (hb.cell (p := ⟨g, off + k * 3 + (k2 - 1) * 3, none⟩) (show g < wr.heap.size by omega)).trans p0; have K4 := (hb.cell (p := ⟨g, off + k * 3 + (k2 - 1) * 3 + 1, none⟩) (show g < wr.heap.size by omega)).trans p1; have K5 := (hb.cell (p := ⟨g, off + k * 3 + (k2 - 1) * 3 + 2, none⟩) (show g < wr.heap.size by omega)).trans p2))
                have HB3 := Lib.hid ((Below.drew (Below.refl wr.heap.size wr)).trans hb)
                clear hb K0 K1 K2 K3 K4 K5
                go_wp2
                go_roundw
                case rel => exact ⟨kk, k2 + 1, dk, rfl, by go_num, by omega, by omega, by omega, HO.out.trans (OnlyIn.of_below HB3.out), HS.out.below HB3.out (by omega), HJ.out.skip (by omega) (by rw [HU.out.1, HU.out.2]; exact HQ2.out)⟩
                case measure => simp [intOf]; omega
              | false =>
                have HQ2 := Lib.hid hq; clear hq
                have HE1 := Lib.hid e1; clear e1 e2
                go_wp2_with fail
                go_region_held3 (fun w' => w'.cell? ⟨g, off + k * 3 + k2 * 3, none⟩ = some (.bool u1) ∧ w'.cell? ⟨g, off + k * 3 + k2 * 3 + 1, none⟩ = some (.slice u2 u3 u4) ∧ w'.cell? ⟨g, off + k * 3 + k2 * 3 + 2, none⟩ = some (.slice u5 u6 u7) ∧ w'.cell? ⟨g, off + k * 3 + (k2 - 1) * 3, none⟩ = some (.bool v1) ∧ w'.cell? ⟨g, off + k * 3 + (k2 - 1) * 3 + 1, none⟩ = some (.slice v2 v3 v4) ∧ w'.cell? ⟨g, off + k * 3 + (k2 - 1) * 3 + 2, none⟩ = some (.slice v5 v6 v7)) ((first | exact ⟨m0, m1, m2, p0, p1, p2⟩ | exact ⟨K0, K1, K2, K3, K4, K5⟩)) (first | (go_at_fn 109; refine (J5 rx.out ry.out).mono ?_; rw [HQ2.out]; rintro e w3 ⟨rfl, hb⟩; have K0 := (hb.cell (p := ⟨g, off + k * 3 + k2 * 3, none⟩) (show g < wr.heap.size by omega)).trans m0; have K1 := (hb.cell (p := ⟨g, off + k * 3 + k2 * 3 + 1, none⟩) (show g < wr.heap.size by omega)).trans m1; have K2 := (hb.cell (p := ⟨g, off + k * 3 + k2 * 3 + 2, none⟩) (show g < wr.heap.size by omega)).trans m2; have K3 := (hb.cell (p := ⟨g, off + k * 3 + (k2 - 1) * 3, none⟩) (show g < wr.heap.size by omega)).trans p0; have K4 := (hb.cell (p := ⟨g, off + k * 3 + (k2 - 1) * 3 + 1, none⟩) (show g < wr.heap.size by omega)).trans p1; have K5 := (hb.cell (p := ⟨g, off + k * 3 + (k2 - 1) * 3 + 2, none⟩) (show g < wr.heap.size by omega)).trans p2))
                have HB3 := Lib.hid ((Below.drew (Below.refl wr.heap.size wr)).trans hb)
                clear hb K0 K1 K2 K3 K4 K5 m0 m1 m2 p0 p1 p2 hk2m
                have HS3 := Lib.hid (HS.out.below HB3.out (by omega))
                obtain ⟨m0, m1, m2⟩ := (HS3.out (k + k2) (by omega)).1
                rw [HJ.out.high (k + k2) (by omega), HE1.out, HU.out.1] at m0 m1 m2
                simp only at m0 m1 m2
                obtain ⟨⟨s0, s1, s2⟩, sf0, sf1, sf2⟩ := HS3.out kk (by omega)
                go_wp2
                go_roundw
                case rel =>
                  have hki := HJ.out.set HI.out hlt2 (by rw [HU.out.1, HU.out.2]; exact HQ2.out)
                  have hrw := HS3.out.set (show kk < dk.size by omega) (d[k + k2]!)
                  rw [HU.out.1] at hki hrw
                  exact ⟨kk + 1, k2 + 1, _, by go_num, by go_num, by omega, by omega, by omega, OnlyIn.setCell (OnlyIn.setCell (OnlyIn.setCell (HO.out.trans (OnlyIn.of_below HB3.out)) rfl _) rfl _) rfl _, hrw, hki⟩
                case measure => simp [intOf]; omega
            · have hend : k + k2 = d.size := by omega
              have hcl : ∀ ty, (Builtin.clear_ #[73] ty #[.slice (some ⟨g, off + kk * 3, none⟩) (d.size - kk) (cap - kk)]).run Tryz.prog wr = .ok (.tuple #[]) (wr.setCells g (off + kk * 3) (Builtin.zeroCells (Value.agg #[.bool false, .slice none 0 0, .slice none 0 0]).cells (d.size - kk)).toList) := fun ty =>
                P7 wr _ _ ty Tryz.underlying73 Tryz.zeroValue90 g (off + kk * 3) (d.size - kk) (cap - kk) (by omega) (fun j hj => by
                  obtain ⟨⟨q0, q1, q2⟩, -⟩ := HS.out (kk + j / 3) (by omega)
                  have : j % 3 = 0 ∨ j % 3 = 1 ∨ j % 3 = 2 := by omega
                  rcases this with e | e | e
                  · rw [show off + kk * 3 + j = off + (kk + j / 3) * 3 by omega, q0]; rfl
                  · rw [show off + kk * 3 + j = off + (kk + j / 3) * 3 + 1 by omega, q1]; rfl
                  · rw [show off + kk * 3 + j = off + (kk + j / 3) * 3 + 2 by omega, q2]; rfl) (fun j hj => by
                  obtain ⟨-, q0, q1, q2⟩ := HS.out (kk + j / 3) (by omega)
                  have : j % 3 = 0 ∨ j % 3 = 1 ∨ j % 3 = 2 := by omega
                  rcases this with e | e | e
                  · rw [show off + kk * 3 + j = off + (kk + j / 3) * 3 by omega, q0]
                  · rw [show off + kk * 3 + j = off + (kk + j / 3) * 3 + 1 by omega, q1]
                  · rw [show off + kk * 3 + j = off + (kk + j / 3) * 3 + 2 by omega, q2])
              obtain ⟨zs, hzs⟩ : ∃ zs, (Builtin.zeroCells (Value.agg #[.bool false, .slice none 0 0, .slice none 0 0]).cells (d.size - kk)).toList = zs := ⟨_, rfl⟩
              rw [hzs] at hcl
              clear hzs
              go_wp2
              go_ret
              have hI := HJ.out
              rw [hend] at hI
              refine ⟨kk, dk, rfl, hI, HO.out.trans (Ge g zs _ _), fun j hj => ?_⟩
              obtain ⟨⟨q0, q1, q2⟩, -⟩ := HS.out j (by omega)
              exact ⟨by rw [Do g zs _ _ _ (by omega)]; exact q0, by rw [Do g zs _ _ _ (by omega)]; exact q1, by rw [Do g zs _ _ _ (by omega)]; exact q2⟩
      · have hke : k = d.size := by omega
        have HB := Lib.hid hb; clear hb
        have HA := Lib.hid hall; clear hall
        go_wp2
        go_ret
        have hA := HA.out
        rw [hke] at hA
        exact ⟨d.size, d, rfl, hA, OnlyIn.of_below HB.out, fun j hj => (HH.out.below HB.out hg j hj).1⟩
end Go.Proofs.YtmedodfenejimaaGreat
