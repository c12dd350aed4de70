import Derived.Test.YtndnhlhnjiopfaaGreatDi2RkF
import Derived.Test.YtndnhlhnjiopfaaGreatDi2Sml
import Derived.Test.YtndnhlhnjiopfaaGreatDi2HulU
namespace Go.Proofs.YtndnhlhnjiopfaaGreat
set_option linter.unusedVariables false
set_option linter.unusedSimpArgs false
theorem Vi {v:V2} (h:AQ v=true):FrS 10 (ptV v).x (v.1:Rat)/\FrS 10 (ptV v).y (v.2:Rat):=by
 have:=DQ h
 exact ⟨FrS.int (by omega) (by omega),FrS.int (by omega) (by omega)⟩
theorem Wo {a:Rat} : 0<=EM a 0↔0<=a:=by
 unfold EM
 split
 ·constructor
  ·intro h;omega
  ·intro h;grind
 ·split
  ·constructor
   ·intro _;grind
   ·intro _;omega
  ·constructor
   ·intro _;grind
   ·intro _;omega
theorem ST {l:List V2} {p:Pq} : ∀ k,(∀ i,i<k->0<=Bz (By l i) (By l ((i+1)%l.length)) p)->0<=KW l p k
 | 0,_=>by unfold KW;omega
 | k+1,h=>by
  have h1:=ST k λ i hi=>h i (by omega)
  have h2:=h k (by omega)
  unfold KW;omega
theorem Po {l:List V2} {p:Pq} : ∀ k,0<=KW l p k->∀ i,i<k->0<=Bz (By l i) (By l ((i+1)%l.length)) p
 | 0,_,i,hi=>by omega
 | k+1,h,i,hi=>by
  unfold KW at h
  by_cases e:i=k
  ·subst e;omega
  ·exact Po k (by omega) i (by omega)
end Go.Proofs.YtndnhlhnjiopfaaGreat
