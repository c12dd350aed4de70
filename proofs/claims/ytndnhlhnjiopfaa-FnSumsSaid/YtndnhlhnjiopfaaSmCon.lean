import Derived.Test.YtndnhlhnjiopfaaSmRkF
import Derived.Test.YtndnhlhnjiopfaaSmSml
import Derived.Test.YtndnhlhnjiopfaaSmHulU
namespace Go.Proofs.Ytndnhlhnjiopfaa
set_option linter.unusedVariables false
set_option linter.unusedSimpArgs false
theorem PX {v:V2} (h:AE v=true):FrS 10 (ptV v).x (v.1:Rat)/\FrS 10 (ptV v).y (v.2:Rat):=by
 have:=A0 h
 exact ⟨FrS.int (by omega) (by omega),FrS.int (by omega) (by omega)⟩
theorem VL {a:Rat} : 0<=O3 a 0↔0<=a:=by
 unfold O3
 split
 ·constructor
  ·intro h;omega
  ·intro h;grind
 ·split
  ·constructor
   ·intro _;grind
   ·intro _;omega
  ·constructor
   ·intro _;grind
   ·intro _;omega
theorem UG {a b c:V2} (ha:AE a=true) (hb:AE b=true) (hc:AE c=true):0<=Gw (ptV a) (ptV b) (ptV c)↔0<=AD a b c:=by
 obtain ⟨a1,a2⟩:=PX ha
 obtain ⟨b1,b2⟩:=PX hb
 obtain ⟨c1,c2⟩:=PX hc
 have h:=((b1.sub a1 (by omega)).mul (c2.sub a2 (by omega)) (by omega)).sub ((b2.sub a2 (by omega)).mul (c1.sub a1 (by omega)) (by omega)) (by omega)
 unfold Gw
 rw [h.sgn,VL]
 have e:((b.1:Rat)-(a.1:Rat))*((c.2:Rat)-(a.2:Rat))-((b.2:Rat)-(a.2:Rat))*((c.1:Rat)-(a.1:Rat))=((AD a b c:Int):Rat):=by
  unfold AD
  push_cast
  grind
 rw [e]
 constructor
 ·intro h;exact_mod_cast h
 ·intro h;exact_mod_cast h
theorem QZ {l:List V2} {p:Pq} : ∀ k,(∀ i,i<k->0<=Gw (FE l i) (FE l ((i+1)%l.length)) p)->0<=Ib l p k
 | 0,_=>by unfold Ib;omega
 | k+1,h=>by
  have h1:=QZ k λ i hi=>h i (by omega)
  have h2:=h k (by omega)
  unfold Ib;omega
theorem N9 {l:List V2} {p:Pq} : ∀ k,0<=Ib l p k->∀ i,i<k->0<=Gw (FE l i) (FE l ((i+1)%l.length)) p
 | 0,_,i,hi=>by omega
 | k+1,h,i,hi=>by
  unfold Ib at h
  by_cases e:i=k
  ·subst e;omega
  ·exact N9 k (by omega) i (by omega)
theorem VM {l:List V2} (hl:l.all AE=true) {v:V2} (hv:AE v=true):0<=MF l (ptV v)↔∀ i,i<l.length->0<=AD (l.getD i (0,0)) (l.getD ((i+1)%l.length) (0,0)) v:=by
 unfold MF
 have hs:∀ i,i<l.length->(0<=Gw (FE l i) (FE l ((i+1)%l.length)) (ptV v)↔0<=AD (l.getD i (0,0)) (l.getD ((i+1)%l.length) (0,0)) v):=λ i hi=>by
  unfold FE
  exact UG (Ag hl hi) (Ag hl (Nat.mod_lt _ (by omega))) hv
 constructor
 ·intro h i hi
  exact (hs i hi).1 (N9 _ h i hi)
 ·intro h
  exact QZ _ λ i hi=>(hs i hi).2 (h i hi)
end Go.Proofs.Ytndnhlhnjiopfaa
