import Derived.Test.YtndnhlhnjiopfaaGreatDi2Huw
import Derived.Lib.SlicesCompact
import Derived.Deep.LoopGhost
import Derived.WalkKit
import Derived.RegionTactic
namespace Go.Proofs.YtndnhlhnjiopfaaGreat
set_option linter.unusedVariables false
set_option linter.unusedSimpArgs false
open Go.RowKit Go.Sort Go.Shelf Go.Lib
def Sh (w w' : World) (g:Nat):Prop:=∀ cur e fr,w.heap[g]?=some (.cells cur e fr)->∃ cur',w'.heap[g]?=some (.cells cur' e fr)/\cur'.size=cur.size
theorem Sh.refl (w:World) (g:Nat):Sh w w g:=λ cur e fr h=>⟨cur,h,rfl⟩
theorem Sh.trans {a b c:World} {g:Nat} (h:Sh a b g) (k:Sh b c g):Sh a c g:=λ cur e fr hx=>by
 obtain ⟨c1,h1,h2⟩:=h cur e fr hx
 obtain ⟨c2,h3,h4⟩:=k c1 e fr h1
 exact ⟨c2,h3,h4.trans h2⟩
theorem Sh.below {w w' : World} {g:Nat} (hb:Below w.heap.size w w') (hg:g<w.heap.size):Sh w w' g:=λ cur e fr h=>⟨cur,by rw [hb.block g hg];exact h,rfl⟩
theorem Sh.setCell (w:World) (g o:Nat) (v:Value):Sh w (w.setCell ⟨g,o,none⟩ v) g:=λ cur e fr h=>by
 rw [setCell_eq]
 refine ⟨cur.setIfInBounds o v,?_,by simp⟩
 simp only [mapBlock,Array.getElem?_modify,if_pos,h];rfl
theorem Sh.setCells (g:Nat):∀ (cs:List Value) (w:World) (o:Nat),Sh w (w.setCells g o cs) g
 | [],w,o=>Sh.refl _ _
 | c::cs,w,o=>(Sh.setCell w g o c).trans (Sh.setCells g cs (w.setCell ⟨g,o,none⟩ c) (o+1))
def RowA (w:World) (g off:Nat) (d:Array V2):Prop:=∀ j,j<d.size->w.cell? ⟨g,off+j*2,none⟩=some (.int .i64 (d[j]!).1)/\w.cell? ⟨g,off+j*2+1,none⟩=some (.int .i64 (d[j]!).2)/\w.frozen? ⟨g,off+j*2,none⟩=false/\w.frozen? ⟨g,off+j*2+1,none⟩=false
theorem RowA.below {w w' : World} {g off:Nat} {d:Array V2} (h:RowA w g off d) (hb:Below w.heap.size w w') (hg:g<w.heap.size):RowA w' g off d:=λ j hj=>by
 have e:=hb.block g hg
 have h:=h j hj
 simp only [World.cell?,World.frozen?,e] at h ⊢
 exact h
theorem RowA.set {w:World} {g off i:Nat} {d:Array V2} (h:RowA w g off d) (hi:i<d.size) (a b:Int):RowA ((w.setCell ⟨g,off+i*2,none⟩ (.int .i64 a)).setCell ⟨g,off+i*2+1,none⟩ (.int .i64 b)) g off (d.setIfInBounds i (a,b)):=λ j hj=>by
 have hj2:j<d.size:=by simpa using hj
 obtain ⟨c0,c1,f0,f1⟩:=h j hj2
 by_cases e:j=i
 ·subst e
  rw [getElem!_set_same d j _ hi]
  exact ⟨by go_simp,by go_simp,by go_simp,by go_simp⟩
 ·rw [getElem!_set_other d i j _ e]
  have n1:¬ off+j*2=off+i*2:=by omega
  have n2:¬ off+j*2=off+i*2+1:=by omega
  have n3:¬ off+j*2+1=off+i*2:=by omega
  have n4:¬ off+j*2+1=off+i*2+1:=by omega
  exact ⟨by go_simp,by go_simp,by go_simp,by go_simp⟩
end Go.Proofs.YtndnhlhnjiopfaaGreat
