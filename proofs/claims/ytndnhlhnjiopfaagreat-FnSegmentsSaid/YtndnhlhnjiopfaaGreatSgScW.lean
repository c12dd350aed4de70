import Derived.Test.YtndnhlhnjiopfaaGreatSgExD
import Derived.Test.YtndnhlhnjiopfaaGreatSgScA
namespace Go.Proofs.YtndnhlhnjiopfaaGreat
set_option linter.unusedVariables false
set_option linter.unusedSimpArgs false
open Go.RowKit
theorem Oj {l:List V2} {k:Nat} (hk:k<l.length):(AD l).getD k []=Mm (l.getD k (0,0)):=by simp [AD,List.getD,hk]
theorem Cb {l:List V2} {k:Nat} (hk:k<l.length):(((AD l).getD k []).getD 0 (.int 0)).n=(l.getD k (0,0)).1:=by rw [Oj hk];rfl
theorem Cc {l:List V2} {k:Nat} (hk:k<l.length):(((AD l).getD k []).getD 1 (.int 0)).n=(l.getD k (0,0)).2:=by rw [Oj hk];rfl
theorem B0 {l:List V2} {k:Nat} (h:l.all AP=true) (hk:k<l.length):AP (l.getD k (0,0))=true:=by
 simp only [List.getD,List.getElem?_eq_getElem hk,Option.getD_some]
 exact List.all_eq_true.1 h _ (List.getElem_mem hk)
end Go.Proofs.YtndnhlhnjiopfaaGreat
namespace Go.Proofs.YtndnhlhnjiopfaaGreat
set_option linter.unusedVariables false
set_option linter.unusedSimpArgs false
open Go.RowKit
end Go.Proofs.YtndnhlhnjiopfaaGreat
