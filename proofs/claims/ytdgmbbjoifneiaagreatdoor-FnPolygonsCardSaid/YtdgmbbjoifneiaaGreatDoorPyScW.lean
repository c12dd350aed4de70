import Derived.Test.YtdgmbbjoifneiaaGreatDoorPyExD
import Derived.Test.YtdgmbbjoifneiaaGreatDoorPyScA
namespace Go.Proofs.YtdgmbbjoifneiaaGreatDoor
set_option linter.unusedVariables false
set_option linter.unusedSimpArgs false
open Go.RowKit
def VE (dx dy:Int) (p:V2):V2:=(IntKind.i64.wrap (p.1+dx),IntKind.i64.wrap (p.2+dy))
def Al (l:List V2) (dx dy:Int):List V2:=l.map (VE dx dy)
theorem NZ {l:List V2} {k:Nat} (hk:k<l.length):(AA l).getD k []=Ih (l.getD k (0,0)):=by simp [AA,List.getD,hk]
theorem AT {l:List V2} {k:Nat} (hk:k<l.length):(((AA l).getD k []).getD 0 (.int 0)).n=(l.getD k (0,0)).1:=by rw [NZ hk];rfl
theorem AU {l:List V2} {k:Nat} (hk:k<l.length):(((AA l).getD k []).getD 1 (.int 0)).n=(l.getD k (0,0)).2:=by rw [NZ hk];rfl
theorem RR {l:List V2} {k:Nat} {dx dy:Int} (hk:k<l.length):Al (l.take (k+1)) dx dy=Al (l.take k) dx dy++[VE dx dy (l.getD k (0,0))]:=by
 unfold Al
 rw [Bz l (0,0) k hk,List.map_append]
 rfl
theorem LG {l:List V2} {k:Nat} {dx dy:Int} (hk:k<l.length):AA (Al (l.take k) dx dy)++[[Dat.int (IntKind.i64.wrap ((((AA l).getD k []).getD 0 (.int 0)).n+dx)),Dat.int (IntKind.i64.wrap ((((AA l).getD k []).getD 1 (.int 0)).n+dy))]]=AA (Al (l.take (k+1)) dx dy):=by
 rw [AT hk,AU hk,RR hk]
 simp [AA,VE,Ih]
theorem DY (l:List V2) (dx dy:Int):(Al l dx dy).length=l.length:=by simp [Al]
theorem AW {l:List V2} {k:Nat} (h:l.all AE=true) (hk:k<l.length):AE (l.getD k (0,0))=true:=by
 simp only [List.getD,List.getElem?_eq_getElem hk,Option.getD_some]
 exact List.all_eq_true.1 h _ (List.getElem_mem hk)
end Go.Proofs.YtdgmbbjoifneiaaGreatDoor
namespace Go.Proofs.YtdgmbbjoifneiaaGreatDoor
set_option linter.unusedVariables false
set_option linter.unusedSimpArgs false
open Go.RowKit
end Go.Proofs.YtdgmbbjoifneiaaGreatDoor
