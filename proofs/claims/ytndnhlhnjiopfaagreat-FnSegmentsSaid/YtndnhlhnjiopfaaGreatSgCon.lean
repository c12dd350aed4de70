import Derived.Test.YtndnhlhnjiopfaaGreatSgRkF
import Derived.Test.YtndnhlhnjiopfaaGreatSgSml
import Derived.Test.YtndnhlhnjiopfaaGreatSgHulU
namespace Go.Proofs.YtndnhlhnjiopfaaGreat
set_option linter.unusedVariables false
set_option linter.unusedSimpArgs false
theorem UZ {v:V2} (h:AP v=true):FrS 10 (ptV v).x (v.1:Rat)/\FrS 10 (ptV v).y (v.2:Rat):=by
 have:=Dc h
 exact ⟨FrS.int (by omega) (by omega),FrS.int (by omega) (by omega)⟩
theorem Vg {a:Rat} : 0<=Dr a 0↔0<=a:=by
 unfold Dr
 split
 ·constructor
  ·intro h;omega
  ·intro h;grind
 ·split
  ·constructor
   ·intro _;grind
   ·intro _;omega
  ·constructor
   ·intro _;grind
   ·intro _;omega
theorem RN {l:List V2} {p:Pq} : ∀ k,(∀ i,i<k->0<=Bh (Fo l i) (Fo l ((i+1)%l.length)) p)->0<=Jm l p k
 | 0,_=>by unfold Jm;omega
 | k+1,h=>by
  have h1:=RN k λ i hi=>h i (by omega)
  have h2:=h k (by omega)
  unfold Jm;omega
theorem Oy {l:List V2} {p:Pq} : ∀ k,0<=Jm l p k->∀ i,i<k->0<=Bh (Fo l i) (Fo l ((i+1)%l.length)) p
 | 0,_,i,hi=>by omega
 | k+1,h,i,hi=>by
  unfold Jm at h
  by_cases e:i=k
  ·subst e;omega
  ·exact Oy k (by omega) i (by omega)
end Go.Proofs.YtndnhlhnjiopfaaGreat
