import Derived.Test.YtndnhlhnjiopfaaSmExD
import Derived.Test.YtndnhlhnjiopfaaSmScA
namespace Go.Proofs.Ytndnhlhnjiopfaa
set_option linter.unusedVariables false
set_option linter.unusedSimpArgs false
open Go.RowKit
def U4 (dx dy:Int) (p:V2):V2:=(IntKind.i64.wrap (p.1+dx),IntKind.i64.wrap (p.2+dy))
def EF (l:List V2) (dx dy:Int):List V2:=l.map (U4 dx dy)
theorem Gt {l:List V2} {k:Nat} (hk:k<l.length):(AA l).getD k []=GO (l.getD k (0,0)):=by simp [AA,List.getD,hk]
theorem AJ {l:List V2} {k:Nat} (hk:k<l.length):(((AA l).getD k []).getD 0 (.int 0)).n=(l.getD k (0,0)).1:=by rw [Gt hk];rfl
theorem AK {l:List V2} {k:Nat} (hk:k<l.length):(((AA l).getD k []).getD 1 (.int 0)).n=(l.getD k (0,0)).2:=by rw [Gt hk];rfl
theorem RY {l:List V2} {k:Nat} {dx dy:Int} (hk:k<l.length):EF (l.take (k+1)) dx dy=EF (l.take k) dx dy++[U4 dx dy (l.getD k (0,0))]:=by
 unfold EF
 rw [Bp l (0,0) k hk,List.map_append]
 rfl
theorem RZ {l:List V2} {k:Nat} {dx dy:Int} (hk:k<l.length):AA (EF (l.take k) dx dy)++[[Dat.int (IntKind.i64.wrap ((((AA l).getD k []).getD 0 (.int 0)).n+dx)),Dat.int (IntKind.i64.wrap ((((AA l).getD k []).getD 1 (.int 0)).n+dy))]]=AA (EF (l.take (k+1)) dx dy):=by
 rw [AJ hk,AK hk,RY hk]
 simp [AA,U4,GO]
theorem Gu (l:List V2) (dx dy:Int):(EF l dx dy).length=l.length:=by simp [EF]
theorem Ag {l:List V2} {k:Nat} (h:l.all AE=true) (hk:k<l.length):AE (l.getD k (0,0))=true:=by
 simp only [List.getD,List.getElem?_eq_getElem hk,Option.getD_some]
 exact List.all_eq_true.1 h _ (List.getElem_mem hk)
end Go.Proofs.Ytndnhlhnjiopfaa
namespace Go.Proofs.Ytndnhlhnjiopfaa
set_option linter.unusedVariables false
set_option linter.unusedSimpArgs false
open Go.RowKit
end Go.Proofs.Ytndnhlhnjiopfaa
