import Derived.Test.YtndnhlhnjiopfaaHhExD
import Derived.Test.YtndnhlhnjiopfaaHhScA
namespace Go.Proofs.Ytndnhlhnjiopfaa
set_option linter.unusedVariables false
set_option linter.unusedSimpArgs false
open Go.RowKit
theorem Gf {l:List V2} {k:Nat} (hk:k<l.length):(AA l).getD k []=Gq (l.getD k (0,0)):=by simp [AA,List.getD,hk]
theorem AL {l:List V2} {k:Nat} (hk:k<l.length):(((AA l).getD k []).getD 0 (.int 0)).n=(l.getD k (0,0)).1:=by rw [Gf hk];rfl
theorem AM {l:List V2} {k:Nat} (hk:k<l.length):(((AA l).getD k []).getD 1 (.int 0)).n=(l.getD k (0,0)).2:=by rw [Gf hk];rfl
theorem AY {l:List V2} {k:Nat} (h:l.all AE=true) (hk:k<l.length):AE (l.getD k (0,0))=true:=by
 simp only [List.getD,List.getElem?_eq_getElem hk,Option.getD_some]
 exact List.all_eq_true.1 h _ (List.getElem_mem hk)
end Go.Proofs.Ytndnhlhnjiopfaa
namespace Go.Proofs.Ytndnhlhnjiopfaa
set_option linter.unusedVariables false
set_option linter.unusedSimpArgs false
open Go.RowKit
end Go.Proofs.Ytndnhlhnjiopfaa
