import Derived.Test.YtkffpiaagjcmpaaGreatFmRkF
import Derived.Test.YtkffpiaagjcmpaaGreatFmHus
import Derived.Test.YtkffpiaagjcmpaaGreatFmHulU
namespace Go.Proofs.YtkffpiaagjcmpaaGreat
set_option linter.unusedVariables false
set_option linter.unusedSimpArgs false
theorem ZZ {v:V2} (h:AF v=true):FrS 10 (ptV v).x (v.1:Rat)/\FrS 10 (ptV v).y (v.2:Rat):=by
 have:=CJ h
 exact ⟨FrS.int (by omega) (by omega),FrS.int (by omega) (by omega)⟩
theorem ABN {a:Rat} : 0<=EY a 0↔0<=a:=by
 unfold EY
 split
 ·constructor
  ·intro h;omega
  ·intro h;grind
 ·split
  ·constructor
   ·intro _;grind
   ·intro _;omega
  ·constructor
   ·intro _;grind
   ·intro _;omega
theorem Vv {l:List V2} {p:Pq} : ∀ k,(∀ i,i<k->0<=CE (Gy l i) (Gy l ((i+1)%l.length)) p)->0<=MB l p k
 | 0,_=>by unfold MB;omega
 | k+1,h=>by
  have h1:=Vv k λ i hi=>h i (by omega)
  have h2:=h k (by omega)
  unfold MB;omega
theorem SX {l:List V2} {p:Pq} : ∀ k,0<=MB l p k->∀ i,i<k->0<=CE (Gy l i) (Gy l ((i+1)%l.length)) p
 | 0,_,i,hi=>by omega
 | k+1,h,i,hi=>by
  unfold MB at h
  by_cases e:i=k
  ·subst e;omega
  ·exact SX k (by omega) i (by omega)
end Go.Proofs.YtkffpiaagjcmpaaGreat
