import Derived.Test.YtcpjekkiejhgpaaGreatDoorPsExD
import Derived.Test.YtcpjekkiejhgpaaGreatDoorPsScB
namespace Go.Proofs.YtcpjekkiejhgpaaGreatDoor
set_option linter.unusedVariables false
set_option linter.unusedSimpArgs false
open Go.RowKit
def QW (s:Scn):Prop:=s.robot.length<=1048576/\s.obst.length<=1048576/\(∀ x ∈ s.obst,x.length<=1048576)/\s.tables.length<=1048576
theorem GI {e:Nat} {l:List V2} (h:l.length<=9223372036854775807):Dat.has (.sl e [.int,.int]) (.sl (AD l)):=by
 simp only [Dat.has,AE]
 refine ⟨h,λ k hk=>?_⟩
 have:(AD l).getD k []=I1 (l.getD k (0,0)):=by simp [AD,List.getD,hk]
 rw [this]
 simp [I1,hasRow,Dat.has]
theorem PM {e1 e2 e3 e4:Nat} {s:Scn} (h:QW s):hasRow [.int,.int,.int,.int,.sl e1 [.int,.int],.sl e2 [.sl e3 [.int,.int]],.sl e4 [.int,.int]] (Kg s):=by
 obtain ⟨h1,h2,h3,h4⟩:=h
 simp only [Kg,hasRow]
 refine ⟨trivial,trivial,trivial,trivial,GI (by omega),?_,GI (by omega),trivial⟩
 simp only [Dat.has,AH]
 refine ⟨by omega,λ k hk=>?_⟩
 have:(AM s.obst).getD k []=[.sl (AD (s.obst.getD k []))]:=by simp [AM,List.getD,hk]
 rw [this]
 simp only [hasRow,and_true]
 exact GI (by have:=h3 (s.obst.getD k []) (by simp [List.getD,hk]);omega)
end Go.Proofs.YtcpjekkiejhgpaaGreatDoor
namespace Go.Proofs.YtcpjekkiejhgpaaGreatDoor
set_option linter.unusedVariables false
set_option linter.unusedSimpArgs false
open Go.RowKit
theorem Ld {l:List V2} {k:Nat} (hk:k<l.length):(AD l).getD k []=I1 (l.getD k (0,0)):=by simp [AD,List.getD,hk]
theorem Md {l:List V2} {k:Nat} (hk:k<l.length):(((AD l).getD k []).getD 0 (.int 0)).n=(l.getD k (0,0)).1:=by rw [Ld hk];rfl
theorem Me {l:List V2} {k:Nat} (hk:k<l.length):(((AD l).getD k []).getD 1 (.int 0)).n=(l.getD k (0,0)).2:=by rw [Ld hk];rfl
theorem EJ {l:List V2} {k:Nat} (h:l.all AX=true) (hk:k<l.length):AX (l.getD k (0,0))=true:=by
 simp only [List.getD,List.getElem?_eq_getElem hk,Option.getD_some]
 exact List.all_eq_true.1 h _ (List.getElem_mem hk)
end Go.Proofs.YtcpjekkiejhgpaaGreatDoor
namespace Go.Proofs.YtcpjekkiejhgpaaGreatDoor
set_option linter.unusedVariables false
set_option linter.unusedSimpArgs false
open Go.RowKit
theorem N1 {l:List (List V2)} {k:Nat} (hk:k<l.length):(((AM l).getD k []).getD 0 (.int 0)).r=AD (l.getD k []):=by simp [AM,List.getD,hk,Dat.r]
end Go.Proofs.YtcpjekkiejhgpaaGreatDoor
