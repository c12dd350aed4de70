import Derived.Test.YtkffpiaagjcmpaaGreatFrExE
import Derived.Test.YtkffpiaagjcmpaaGreatFrScA
namespace Go.Proofs.YtkffpiaagjcmpaaGreat
set_option linter.unusedVariables false
set_option linter.unusedSimpArgs false
open Go.RowKit
def DY (s:Scn):Prop:=s.robot.length<=1048576/\s.obst.length<=1048576/\(∀ x ∈ s.obst,x.length<=1048576)/\s.tables.length<=1048576
def Sj (dx dy:Int) (p:V2):V2:=(IntKind.i64.wrap (p.1+dx),IntKind.i64.wrap (p.2+dy))
def BU (l:List V2) (dx dy:Int):List V2:=l.map (Sj dx dy)
def Co (l:List V2) (dx dy:Int):List V2:=if AD (dx,dy)=true/\(BU l dx dy).all AD=true then BU l dx dy else []
theorem Ii {l:List V2} {k:Nat} (hk:k<l.length):(AA l).getD k []=Hd (l.getD k (0,0)):=by simp [AA,List.getD,hk]
theorem Ai {l:List V2} {k:Nat} (hk:k<l.length):(((AA l).getD k []).getD 0 (.int 0)).n=(l.getD k (0,0)).1:=by rw [Ii hk];rfl
theorem Aj {l:List V2} {k:Nat} (hk:k<l.length):(((AA l).getD k []).getD 1 (.int 0)).n=(l.getD k (0,0)).2:=by rw [Ii hk];rfl
theorem Jl {l:List V2} {k:Nat} {dx dy:Int} (hk:k<l.length):BU (l.take (k+1)) dx dy=BU (l.take k) dx dy++[Sj dx dy (l.getD k (0,0))]:=by
 unfold BU
 rw [Bp l (0,0) k hk,List.map_append]
 rfl
theorem Jm {l:List V2} {k:Nat} {dx dy:Int} (hk:k<l.length):AA (BU (l.take k) dx dy)++[[Dat.int (IntKind.i64.wrap ((((AA l).getD k []).getD 0 (.int 0)).n+dx)),Dat.int (IntKind.i64.wrap ((((AA l).getD k []).getD 1 (.int 0)).n+dy))]]=AA (BU (l.take (k+1)) dx dy):=by
 rw [Ai hk,Aj hk,Jl hk]
 simp [AA,Sj,Hd]
theorem Cp (l:List V2) (dx dy:Int):(BU l dx dy).length=l.length:=by simp [BU]
theorem Do {l:List V2} {dx dy:Int} (h:AD (dx,dy)=false∨(BU l dx dy).all AD=false):Co l dx dy=[]:=by
 unfold Co;rw [if_neg];rintro ⟨h1,h2⟩;rcases h with h|h <;> simp_all
theorem FS {l:List V2} {dx dy:Int} (h:AD (dx,dy)=true) (h' : (BU l dx dy).all AD=true):Co l dx dy=BU l dx dy:=by
 unfold Co;rw [if_pos ⟨h,h'⟩]
theorem Ak {l:List V2} {k:Nat} (h:l.all AD=true) (hk:k<l.length):AD (l.getD k (0,0))=true:=by
 simp only [List.getD,List.getElem?_eq_getElem hk,Option.getD_some]
 exact List.all_eq_true.1 h _ (List.getElem_mem hk)
theorem L3 {l:List V2} {k:Nat} {dx dy:Int} (hk:k<l.length) (h:AD (Sj dx dy (l.getD k (0,0)))=false):(BU l dx dy).all AD=false:=by
 rw [Bool.eq_false_iff]
 intro ha
 have:=List.all_eq_true.1 ha (Sj dx dy (l.getD k (0,0))) (by unfold BU;exact List.mem_map_of_mem (by simp [List.getD,hk]))
 rw [h] at this;cases this
end Go.Proofs.YtkffpiaagjcmpaaGreat
namespace Go.Proofs.YtkffpiaagjcmpaaGreat
set_option linter.unusedVariables false
set_option linter.unusedSimpArgs false
open Go.RowKit
theorem Jn {l:List (List V2)} {k:Nat} (hk:k<l.length):(((AI l).getD k []).getD 0 (.int 0)).r=AA (l.getD k []):=by simp [AI,List.getD,hk,Dat.r]
end Go.Proofs.YtkffpiaagjcmpaaGreat
