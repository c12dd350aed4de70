import Derived.Test.YtkffpiaagjcmpaaGreatFrRkG
import Derived.Test.YtkffpiaagjcmpaaGreatFrSml
import Derived.Test.YtkffpiaagjcmpaaGreatFrStd
namespace Go.Proofs.YtkffpiaagjcmpaaGreat
set_option linter.unusedVariables false
set_option linter.unusedSimpArgs false
theorem TC {v:V2} (h:AD v=true):FrS 10 (ptV v).x (v.1:Rat)/\FrS 10 (ptV v).y (v.2:Rat):=by
 have:=BW h
 exact ⟨FrS.int (by omega) (by omega),FrS.int (by omega) (by omega)⟩
theorem Zk {a:Rat} : 0<=Mw a 0↔0<=a:=by
 unfold Mw
 split
 ·constructor
  ·intro h;omega
  ·intro h;grind
 ·split
  ·constructor
   ·intro _;grind
   ·intro _;omega
  ·constructor
   ·intro _;grind
   ·intro _;omega
theorem YN {a b c:V2} (ha:AD a=true) (hb:AD b=true) (hc:AD c=true):0<=Io (ptV a) (ptV b) (ptV c)↔0<=AF a b c:=by
 obtain ⟨a1,a2⟩:=TC ha
 obtain ⟨b1,b2⟩:=TC hb
 obtain ⟨c1,c2⟩:=TC hc
 have h:=((b1.sub a1 (by omega)).mul (c2.sub a2 (by omega)) (by omega)).sub ((b2.sub a2 (by omega)).mul (c1.sub a1 (by omega)) (by omega)) (by omega)
 unfold Io
 rw [h.sgn,Zk]
 have e:((b.1:Rat)-(a.1:Rat))*((c.2:Rat)-(a.2:Rat))-((b.2:Rat)-(a.2:Rat))*((c.1:Rat)-(a.1:Rat))=((AF a b c:Int):Rat):=by
  unfold AF
  push_cast
  grind
 rw [e]
 constructor
 ·intro h;exact_mod_cast h
 ·intro h;exact_mod_cast h
theorem Ub {l:List V2} {p:Pq} : ∀ k,(∀ i,i<k->0<=Io (GU l i) (GU l ((i+1)%l.length)) p)->0<=KZ l p k
 | 0,_=>by unfold KZ;omega
 | k+1,h=>by
  have h1:=Ub k λ i hi=>h i (by omega)
  have h2:=h k (by omega)
  unfold KZ;omega
theorem RJ {l:List V2} {p:Pq} : ∀ k,0<=KZ l p k->∀ i,i<k->0<=Io (GU l i) (GU l ((i+1)%l.length)) p
 | 0,_,i,hi=>by omega
 | k+1,h,i,hi=>by
  unfold KZ at h
  by_cases e:i=k
  ·subst e;omega
  ·exact RJ k (by omega) i (by omega)
theorem Zl {l:List V2} (hl:l.all AD=true) {v:V2} (hv:AD v=true):0<=DS l (ptV v)↔∀ i,i<l.length->0<=AF (l.getD i (0,0)) (l.getD ((i+1)%l.length) (0,0)) v:=by
 unfold DS
 have hs:∀ i,i<l.length->(0<=Io (GU l i) (GU l ((i+1)%l.length)) (ptV v)↔0<=AF (l.getD i (0,0)) (l.getD ((i+1)%l.length) (0,0)) v):=λ i hi=>by
  unfold GU
  exact YN (Ak hl hi) (Ak hl (Nat.mod_lt _ (by omega))) hv
 constructor
 ·intro h i hi
  exact (hs i hi).1 (RJ _ h i hi)
 ·intro h
  exact Ub _ λ i hi=>(hs i hi).2 (h i hi)
end Go.Proofs.YtkffpiaagjcmpaaGreat
