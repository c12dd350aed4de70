import Derived.Test.YtdgmbbjoifneiaaGreatDoorPyRkF
import Derived.Test.YtdgmbbjoifneiaaGreatDoorPySml
import Derived.Test.YtdgmbbjoifneiaaGreatDoorPyHulU
namespace Go.Proofs.YtdgmbbjoifneiaaGreatDoor
set_option linter.unusedVariables false
set_option linter.unusedSimpArgs false
theorem IG {v:V2} (h:AE v=true):FrS 10 (ptV v).x (v.1:Rat)/\FrS 10 (ptV v).y (v.2:Rat):=by
 have:=Ay h
 exact ⟨FrS.int (by omega) (by omega),FrS.int (by omega) (by omega)⟩
theorem Vn {a:Rat} : 0<=PM a 0↔0<=a:=by
 unfold PM
 split
 ·constructor
  ·intro h;omega
  ·intro h;grind
 ·split
  ·constructor
   ·intro _;grind
   ·intro _;omega
  ·constructor
   ·intro _;grind
   ·intro _;omega
theorem Ua {a b c:V2} (ha:AE a=true) (hb:AE b=true) (hc:AE c=true):0<=EW (ptV a) (ptV b) (ptV c)↔0<=AM a b c:=by
 obtain ⟨a1,a2⟩:=IG ha
 obtain ⟨b1,b2⟩:=IG hb
 obtain ⟨c1,c2⟩:=IG hc
 have h:=((b1.sub a1 (by omega)).mul (c2.sub a2 (by omega)) (by omega)).sub ((b2.sub a2 (by omega)).mul (c1.sub a1 (by omega)) (by omega)) (by omega)
 unfold EW
 rw [h.sgn,Vn]
 have e:((b.1:Rat)-(a.1:Rat))*((c.2:Rat)-(a.2:Rat))-((b.2:Rat)-(a.2:Rat))*((c.1:Rat)-(a.1:Rat))=((AM a b c:Int):Rat):=by
  unfold AM
  push_cast
  grind
 rw [e]
 constructor
 ·intro h;exact_mod_cast h
 ·intro h;exact_mod_cast h
theorem Qq {l:List V2} {p:Pq} : ∀ k,(∀ i,i<k->0<=EW (Ey l i) (Ey l ((i+1)%l.length)) p)->0<=HL l p k
 | 0,_=>by unfold HL;omega
 | k+1,h=>by
  have h1:=Qq k λ i hi=>h i (by omega)
  have h2:=h k (by omega)
  unfold HL;omega
theorem OO {l:List V2} {p:Pq} : ∀ k,0<=HL l p k->∀ i,i<k->0<=EW (Ey l i) (Ey l ((i+1)%l.length)) p
 | 0,_,i,hi=>by omega
 | k+1,h,i,hi=>by
  unfold HL at h
  by_cases e:i=k
  ·subst e;omega
  ·exact OO k (by omega) i (by omega)
theorem Vo {l:List V2} (hl:l.all AE=true) {v:V2} (hv:AE v=true):0<=Kc l (ptV v)↔∀ i,i<l.length->0<=AM (l.getD i (0,0)) (l.getD ((i+1)%l.length) (0,0)) v:=by
 unfold Kc
 have hs:∀ i,i<l.length->(0<=EW (Ey l i) (Ey l ((i+1)%l.length)) (ptV v)↔0<=AM (l.getD i (0,0)) (l.getD ((i+1)%l.length) (0,0)) v):=λ i hi=>by
  unfold Ey
  exact Ua (AW hl hi) (AW hl (Nat.mod_lt _ (by omega))) hv
 constructor
 ·intro h i hi
  exact (hs i hi).1 (OO _ h i hi)
 ·intro h
  exact Qq _ λ i hi=>(hs i hi).2 (h i hi)
end Go.Proofs.YtdgmbbjoifneiaaGreatDoor
