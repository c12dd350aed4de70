import Derived.Test.YtmekciknfocmmaaGreatDoorScExD
import Derived.Test.YtmekciknfocmmaaGreatDoorScScB
namespace Go.Proofs.YtmekciknfocmmaaGreatDoor
set_option linter.unusedVariables false
set_option linter.unusedSimpArgs false
open Go.RowKit
def Cw (s:Scn):Prop:=s.robot.length<=1048576/\s.obst.length<=1048576/\(∀ x ∈ s.obst,x.length<=1048576)/\s.tables.length<=1048576
theorem Nj {s:Scn} {k:Int} (h:CO s k=true):BP s k=AQ s (s.obst.eraseIdx k.toNat):=by unfold BP;rw [if_pos h]
theorem PT {s:Scn} {k:Int} (h:AG s=true) (h0:0<=k) (h1:k<=(s.obst.length:Int)-1):CO s k=true:=by
 unfold CO inR;simp [h];omega
end Go.Proofs.YtmekciknfocmmaaGreatDoor
namespace Go.Proofs.YtmekciknfocmmaaGreatDoor
set_option linter.unusedVariables false
set_option linter.unusedSimpArgs false
open Go.RowKit
def PU (dx dy:Int) (p:V2):V2:=(IntKind.i64.wrap (p.1+dx),IntKind.i64.wrap (p.2+dy))
def Cx (l:List V2) (dx dy:Int):List V2:=l.map (PU dx dy)
def B0 (l:List V2) (dx dy:Int):List V2:=if AH (dx,dy)=true/\(Cx l dx dy).all AH=true then Cx l dx dy else []
theorem MG {l:List V2} {k:Nat} (hk:k<l.length):(AA l).getD k []=HY (l.getD k (0,0)):=by simp [AA,List.getD,hk]
theorem Av {l:List V2} {k:Nat} (hk:k<l.length):(((AA l).getD k []).getD 0 (.int 0)).n=(l.getD k (0,0)).1:=by rw [MG hk];rfl
theorem Aw {l:List V2} {k:Nat} (hk:k<l.length):(((AA l).getD k []).getD 1 (.int 0)).n=(l.getD k (0,0)).2:=by rw [MG hk];rfl
theorem Gh {l:List V2} {k:Nat} {dx dy:Int} (hk:k<l.length):Cx (l.take (k+1)) dx dy=Cx (l.take k) dx dy++[PU dx dy (l.getD k (0,0))]:=by
 unfold Cx
 rw [Cl l (0,0) k hk,List.map_append]
 rfl
theorem KD {l:List V2} {k:Nat} {dx dy:Int} (hk:k<l.length):AA (Cx (l.take k) dx dy)++[[Dat.int (IntKind.i64.wrap ((((AA l).getD k []).getD 0 (.int 0)).n+dx)),Dat.int (IntKind.i64.wrap ((((AA l).getD k []).getD 1 (.int 0)).n+dy))]]=AA (Cx (l.take (k+1)) dx dy):=by
 rw [Av hk,Aw hk,Gh hk]
 simp [AA,PU,HY]
theorem Fy (l:List V2) (dx dy:Int):(Cx l dx dy).length=l.length:=by simp [Cx]
theorem Ce {l:List V2} {dx dy:Int} (h:AH (dx,dy)=false∨(Cx l dx dy).all AH=false):B0 l dx dy=[]:=by
 unfold B0;rw [if_neg];rintro ⟨h1,h2⟩;rcases h with h|h <;> simp_all
theorem Du {l:List V2} {dx dy:Int} (h:AH (dx,dy)=true) (h' : (Cx l dx dy).all AH=true):B0 l dx dy=Cx l dx dy:=by
 unfold B0;rw [if_pos ⟨h,h'⟩]
theorem Bt {l:List V2} {k:Nat} (h:l.all AH=true) (hk:k<l.length):AH (l.getD k (0,0))=true:=by
 simp only [List.getD,List.getElem?_eq_getElem hk,Option.getD_some]
 exact List.all_eq_true.1 h _ (List.getElem_mem hk)
theorem Iu {l:List V2} {k:Nat} {dx dy:Int} (hk:k<l.length) (h:AH (PU dx dy (l.getD k (0,0)))=false):(Cx l dx dy).all AH=false:=by
 rw [Bool.eq_false_iff]
 intro ha
 have:=List.all_eq_true.1 ha (PU dx dy (l.getD k (0,0))) (by unfold Cx;exact List.mem_map_of_mem (by simp [List.getD,hk]))
 rw [h] at this;cases this
end Go.Proofs.YtmekciknfocmmaaGreatDoor
namespace Go.Proofs.YtmekciknfocmmaaGreatDoor
set_option linter.unusedVariables false
set_option linter.unusedSimpArgs false
open Go.RowKit
end Go.Proofs.YtmekciknfocmmaaGreatDoor
