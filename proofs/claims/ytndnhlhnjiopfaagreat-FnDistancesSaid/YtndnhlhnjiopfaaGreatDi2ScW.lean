import Derived.Test.YtndnhlhnjiopfaaGreatDi2ExD
import Derived.Test.YtndnhlhnjiopfaaGreatDi2ScA
namespace Go.Proofs.YtndnhlhnjiopfaaGreat
set_option linter.unusedVariables false
set_option linter.unusedSimpArgs false
open Go.RowKit
theorem Pd {l:List V2} {k:Nat} (hk:k<l.length):(AC l).getD k []=Nb (l.getD k (0,0)):=by simp [AC,List.getD,hk]
theorem CX {l:List V2} {k:Nat} (hk:k<l.length):(((AC l).getD k []).getD 0 (.int 0)).n=(l.getD k (0,0)).1:=by rw [Pd hk];rfl
theorem CY {l:List V2} {k:Nat} (hk:k<l.length):(((AC l).getD k []).getD 1 (.int 0)).n=(l.getD k (0,0)).2:=by rw [Pd hk];rfl
theorem Bx {l:List V2} {k:Nat} (h:l.all AQ=true) (hk:k<l.length):AQ (l.getD k (0,0))=true:=by
 simp only [List.getD,List.getElem?_eq_getElem hk,Option.getD_some]
 exact List.all_eq_true.1 h _ (List.getElem_mem hk)
end Go.Proofs.YtndnhlhnjiopfaaGreat
namespace Go.Proofs.YtndnhlhnjiopfaaGreat
set_option linter.unusedVariables false
set_option linter.unusedSimpArgs false
open Go.RowKit
end Go.Proofs.YtndnhlhnjiopfaaGreat
