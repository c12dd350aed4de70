import Derived.Test.YtndnhlhnjiopfaaGreatDiRkF
import Derived.Test.YtndnhlhnjiopfaaGreatDiSml
import Derived.Test.YtndnhlhnjiopfaaGreatDiHulU
namespace Go.Proofs.YtndnhlhnjiopfaaGreat
set_option linter.unusedVariables false
set_option linter.unusedSimpArgs false
theorem Ph {v:V2} (h:AO v=true):FrS 10 (ptV v).x (v.1:Rat)/\FrS 10 (ptV v).y (v.2:Rat):=by
 have:=Ct h
 exact ⟨FrS.int (by omega) (by omega),FrS.int (by omega) (by omega)⟩
theorem Ux {a:Rat} : 0<=JS a 0↔0<=a:=by
 unfold JS
 split
 ·constructor
  ·intro h;omega
  ·intro h;grind
 ·split
  ·constructor
   ·intro _;grind
   ·intro _;omega
  ·constructor
   ·intro _;grind
   ·intro _;omega
theorem Tu {a b c:V2} (ha:AO a=true) (hb:AO b=true) (hc:AO c=true):0<=Hs (ptV a) (ptV b) (ptV c)↔0<=AW a b c:=by
 obtain ⟨a1,a2⟩:=Ph ha
 obtain ⟨b1,b2⟩:=Ph hb
 obtain ⟨c1,c2⟩:=Ph hc
 have h:=((b1.sub a1 (by omega)).mul (c2.sub a2 (by omega)) (by omega)).sub ((b2.sub a2 (by omega)).mul (c1.sub a1 (by omega)) (by omega)) (by omega)
 unfold Hs
 rw [h.sgn,Ux]
 have e:((b.1:Rat)-(a.1:Rat))*((c.2:Rat)-(a.2:Rat))-((b.2:Rat)-(a.2:Rat))*((c.1:Rat)-(a.1:Rat))=((AW a b c:Int):Rat):=by
  unfold AW
  push_cast
  grind
 rw [e]
 constructor
 ·intro h;exact_mod_cast h
 ·intro h;exact_mod_cast h
theorem Qh {l:List V2} {p:Pq} : ∀ k,(∀ i,i<k->0<=Hs (CN l i) (CN l ((i+1)%l.length)) p)->0<=JU l p k
 | 0,_=>by unfold JU;omega
 | k+1,h=>by
  have h1:=Qh k λ i hi=>h i (by omega)
  have h2:=h k (by omega)
  unfold JU;omega
theorem OR {l:List V2} {p:Pq} : ∀ k,0<=JU l p k->∀ i,i<k->0<=Hs (CN l i) (CN l ((i+1)%l.length)) p
 | 0,_,i,hi=>by omega
 | k+1,h,i,hi=>by
  unfold JU at h
  by_cases e:i=k
  ·subst e;omega
  ·exact OR k (by omega) i (by omega)
theorem Uy {l:List V2} (hl:l.all AO=true) {v:V2} (hv:AO v=true):0<=LM l (ptV v)↔∀ i,i<l.length->0<=AW (l.getD i (0,0)) (l.getD ((i+1)%l.length) (0,0)) v:=by
 unfold LM
 have hs:∀ i,i<l.length->(0<=Hs (CN l i) (CN l ((i+1)%l.length)) (ptV v)↔0<=AW (l.getD i (0,0)) (l.getD ((i+1)%l.length) (0,0)) v):=λ i hi=>by
  unfold CN
  exact Tu (CD hl hi) (CD hl (Nat.mod_lt _ (by omega))) hv
 constructor
 ·intro h i hi
  exact (hs i hi).1 (OR _ h i hi)
 ·intro h
  exact Qh _ λ i hi=>(hs i hi).2 (h i hi)
end Go.Proofs.YtndnhlhnjiopfaaGreat
