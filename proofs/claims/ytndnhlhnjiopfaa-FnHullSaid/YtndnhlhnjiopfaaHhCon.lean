import Derived.Test.YtndnhlhnjiopfaaHhRkF
import Derived.Test.YtndnhlhnjiopfaaHhSml
import Derived.Test.YtndnhlhnjiopfaaHhHulU
namespace Go.Proofs.Ytndnhlhnjiopfaa
set_option linter.unusedVariables false
set_option linter.unusedSimpArgs false
theorem PF {v:V2} (h:AE v=true):FrS 10 (ptV v).x (v.1:Rat)/\FrS 10 (ptV v).y (v.2:Rat):=by
 have:=A4 h
 exact ⟨FrS.int (by omega) (by omega),FrS.int (by omega) (by omega)⟩
theorem Uo {a:Rat} : 0<=Of a 0↔0<=a:=by
 unfold Of
 split
 ·constructor
  ·intro h;omega
  ·intro h;grind
 ·split
  ·constructor
   ·intro _;grind
   ·intro _;omega
  ·constructor
   ·intro _;grind
   ·intro _;omega
theorem Th {a b c:V2} (ha:AE a=true) (hb:AE b=true) (hc:AE c=true):0<=Gh (ptV a) (ptV b) (ptV c)↔0<=AC a b c:=by
 obtain ⟨a1,a2⟩:=PF ha
 obtain ⟨b1,b2⟩:=PF hb
 obtain ⟨c1,c2⟩:=PF hc
 have h:=((b1.sub a1 (by omega)).mul (c2.sub a2 (by omega)) (by omega)).sub ((b2.sub a2 (by omega)).mul (c1.sub a1 (by omega)) (by omega)) (by omega)
 unfold Gh
 rw [h.sgn,Uo]
 have e:((b.1:Rat)-(a.1:Rat))*((c.2:Rat)-(a.2:Rat))-((b.2:Rat)-(a.2:Rat))*((c.1:Rat)-(a.1:Rat))=((AC a b c:Int):Rat):=by
  unfold AC
  push_cast
  grind
 rw [e]
 constructor
 ·intro h;exact_mod_cast h
 ·intro h;exact_mod_cast h
theorem QH {l:List V2} {p:Pq} : ∀ k,(∀ i,i<k->0<=Gh (E3 l i) (E3 l ((i+1)%l.length)) p)->0<=IO l p k
 | 0,_=>by unfold IO;omega
 | k+1,h=>by
  have h1:=QH k λ i hi=>h i (by omega)
  have h2:=h k (by omega)
  unfold IO;omega
theorem Ns {l:List V2} {p:Pq} : ∀ k,0<=IO l p k->∀ i,i<k->0<=Gh (E3 l i) (E3 l ((i+1)%l.length)) p
 | 0,_,i,hi=>by omega
 | k+1,h,i,hi=>by
  unfold IO at h
  by_cases e:i=k
  ·subst e;omega
  ·exact Ns k (by omega) i (by omega)
theorem Up {l:List V2} (hl:l.all AE=true) {v:V2} (hv:AE v=true):0<=Lz l (ptV v)↔∀ i,i<l.length->0<=AC (l.getD i (0,0)) (l.getD ((i+1)%l.length) (0,0)) v:=by
 unfold Lz
 have hs:∀ i,i<l.length->(0<=Gh (E3 l i) (E3 l ((i+1)%l.length)) (ptV v)↔0<=AC (l.getD i (0,0)) (l.getD ((i+1)%l.length) (0,0)) v):=λ i hi=>by
  unfold E3
  exact Th (AY hl hi) (AY hl (Nat.mod_lt _ (by omega))) hv
 constructor
 ·intro h i hi
  exact (hs i hi).1 (Ns _ h i hi)
 ·intro h
  exact QH _ λ i hi=>(hs i hi).2 (h i hi)
end Go.Proofs.Ytndnhlhnjiopfaa
