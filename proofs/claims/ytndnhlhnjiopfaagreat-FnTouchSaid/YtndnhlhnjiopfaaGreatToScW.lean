import Derived.Test.YtndnhlhnjiopfaaGreatToExD
import Derived.Test.YtndnhlhnjiopfaaGreatToScA
namespace Go.Proofs.YtndnhlhnjiopfaaGreat
set_option linter.unusedVariables false
set_option linter.unusedSimpArgs false
open Go.RowKit
def Vj (dx dy:Int) (p:V2):V2:=(IntKind.i64.wrap (p.1+dx),IntKind.i64.wrap (p.2+dy))
def Bb (l:List V2) (dx dy:Int):List V2:=l.map (Vj dx dy)
theorem G9 {l:List V2} {k:Nat} (hk:k<l.length):(AA l).getD k []=GG (l.getD k (0,0)):=by simp [AA,List.getD,hk]
theorem Ao {l:List V2} {k:Nat} (hk:k<l.length):(((AA l).getD k []).getD 0 (.int 0)).n=(l.getD k (0,0)).1:=by rw [G9 hk];rfl
theorem Ap {l:List V2} {k:Nat} (hk:k<l.length):(((AA l).getD k []).getD 1 (.int 0)).n=(l.getD k (0,0)).2:=by rw [G9 hk];rfl
theorem SL {l:List V2} {k:Nat} {dx dy:Int} (hk:k<l.length):Bb (l.take (k+1)) dx dy=Bb (l.take k) dx dy++[Vj dx dy (l.getD k (0,0))]:=by
 unfold Bb
 rw [EV l (0,0) k hk,List.map_append]
 rfl
theorem SM {l:List V2} {k:Nat} {dx dy:Int} (hk:k<l.length):AA (Bb (l.take k) dx dy)++[[Dat.int (IntKind.i64.wrap ((((AA l).getD k []).getD 0 (.int 0)).n+dx)),Dat.int (IntKind.i64.wrap ((((AA l).getD k []).getD 1 (.int 0)).n+dy))]]=AA (Bb (l.take (k+1)) dx dy):=by
 rw [Ao hk,Ap hk,SL hk]
 simp [AA,Vj,GG]
theorem FR (l:List V2) (dx dy:Int):(Bb l dx dy).length=l.length:=by simp [Bb]
theorem Ai {l:List V2} {k:Nat} (h:l.all AB=true) (hk:k<l.length):AB (l.getD k (0,0))=true:=by
 simp only [List.getD,List.getElem?_eq_getElem hk,Option.getD_some]
 exact List.all_eq_true.1 h _ (List.getElem_mem hk)
end Go.Proofs.YtndnhlhnjiopfaaGreat
namespace Go.Proofs.YtndnhlhnjiopfaaGreat
set_option linter.unusedVariables false
set_option linter.unusedSimpArgs false
open Go.RowKit
end Go.Proofs.YtndnhlhnjiopfaaGreat
