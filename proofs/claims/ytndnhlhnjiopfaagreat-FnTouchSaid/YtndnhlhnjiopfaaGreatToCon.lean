import Derived.Test.YtndnhlhnjiopfaaGreatToRkF
import Derived.Test.YtndnhlhnjiopfaaGreatToSml
import Derived.Test.YtndnhlhnjiopfaaGreatToHulU
namespace Go.Proofs.YtndnhlhnjiopfaaGreat
set_option linter.unusedVariables false
set_option linter.unusedSimpArgs false
theorem QH {v:V2} (h:AB v=true):FrS 10 (ptV v).x (v.1:Rat)/\FrS 10 (ptV v).y (v.2:Rat):=by
 have:=BL h
 exact ⟨FrS.int (by omega) (by omega),FrS.int (by omega) (by omega)⟩
theorem V6 {a:Rat} : 0<=Pm a 0↔0<=a:=by
 unfold Pm
 split
 ·constructor
  ·intro h;omega
  ·intro h;grind
 ·split
  ·constructor
   ·intro _;grind
   ·intro _;omega
  ·constructor
   ·intro _;grind
   ·intro _;omega
theorem U0 {a b c:V2} (ha:AB a=true) (hb:AB b=true) (hc:AB c=true):0<=HE (ptV a) (ptV b) (ptV c)↔0<=AC a b c:=by
 obtain ⟨a1,a2⟩:=QH ha
 obtain ⟨b1,b2⟩:=QH hb
 obtain ⟨c1,c2⟩:=QH hc
 have h:=((b1.sub a1 (by omega)).mul (c2.sub a2 (by omega)) (by omega)).sub ((b2.sub a2 (by omega)).mul (c1.sub a1 (by omega)) (by omega)) (by omega)
 unfold HE
 rw [h.sgn,V6]
 have e:((b.1:Rat)-(a.1:Rat))*((c.2:Rat)-(a.2:Rat))-((b.2:Rat)-(a.2:Rat))*((c.1:Rat)-(a.1:Rat))=((AC a b c:Int):Rat):=by
  unfold AC
  push_cast
  grind
 rw [e]
 constructor
 ·intro h;exact_mod_cast h
 ·intro h;exact_mod_cast h
theorem RL {l:List V2} {p:Pq} : ∀ k,(∀ i,i<k->0<=HE (FS l i) (FS l ((i+1)%l.length)) p)->0<=I3 l p k
 | 0,_=>by unfold I3;omega
 | k+1,h=>by
  have h1:=RL k λ i hi=>h i (by omega)
  have h2:=h k (by omega)
  unfold I3;omega
theorem Ov {l:List V2} {p:Pq} : ∀ k,0<=I3 l p k->∀ i,i<k->0<=HE (FS l i) (FS l ((i+1)%l.length)) p
 | 0,_,i,hi=>by omega
 | k+1,h,i,hi=>by
  unfold I3 at h
  by_cases e:i=k
  ·subst e;omega
  ·exact Ov k (by omega) i (by omega)
theorem V7 {l:List V2} (hl:l.all AB=true) {v:V2} (hv:AB v=true):0<=Mi l (ptV v)↔∀ i,i<l.length->0<=AC (l.getD i (0,0)) (l.getD ((i+1)%l.length) (0,0)) v:=by
 unfold Mi
 have hs:∀ i,i<l.length->(0<=HE (FS l i) (FS l ((i+1)%l.length)) (ptV v)↔0<=AC (l.getD i (0,0)) (l.getD ((i+1)%l.length) (0,0)) v):=λ i hi=>by
  unfold FS
  exact U0 (Ai hl hi) (Ai hl (Nat.mod_lt _ (by omega))) hv
 constructor
 ·intro h i hi
  exact (hs i hi).1 (Ov _ h i hi)
 ·intro h
  exact RL _ λ i hi=>(hs i hi).2 (h i hi)
end Go.Proofs.YtndnhlhnjiopfaaGreat
