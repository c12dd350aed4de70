import Derived.Test.YtcpjekkiejhgpaaDoorPpStrS
import Derived.Test.YtcpjekkiejhgpaaDoorPpExD
import Derived.Test.YtcpjekkiejhgpaaDoorPpStL
import Derived.Shelf.Strconv.Itoa3
import Derived.Shelf.Strings.OnBuilder
import Derived.Lib.LaidTab
namespace Go.Proofs.YtcpjekkiejhgpaaDoor
set_option linter.unusedVariables false
set_option linter.unusedSimpArgs false
open Go.RowKit
def AJ (n:Int):ByteArray:=⟨(Lib.itoa n).toArray⟩
def AR (l:List ByteArray):List (List Dat):=l.map λ s=>[.str s]
theorem AH (l:List ByteArray):(AR l).length=l.length:=by simp [AR]
theorem HT (l m:List ByteArray):AR (l++m)=AR l++AR m:=by simp [AR]
theorem Ft (l:List ByteArray) (k:Nat) (hk:k<l.length):(AR l).getD k []=[.str (l.getD k ⟨#[]⟩)]:=by simp [AR,List.getD,hk]
theorem bx {a b:ByteArray} (h:a.data.toList=b.data.toList):a=b:=by
 cases a;cases b;congr;exact Array.toList_inj.1 h
theorem Bk (a b:ByteArray):(a++b).data.toList=a.data.toList++b.data.toList:=by simp
theorem CI (b:ByteArray) (k:Nat) (hk:k<b.size):b.get! k=b.data.toList.getD k 0:=by
 have h1:=H9 b k hk
 have hk' : k<b.data.size:=hk
 have h2:b[k]?=some b.data[k]:=by simp [hk];rfl
 rw [h2] at h1
 rw [← Option.some.inj h1]
 rw [List.getD_eq_getElem?_getD,Array.getElem?_toList,Array.getElem?_eq_getElem hk']
 rfl
theorem Lp (w:World) (q:Nat) (os:Array Obj):Below w.heap.size w (Sort.grow (w.drewN q) os):=⟨rfl,rfl,rfl,by rw [Sort.size_grow];exact Nat.le_add_right _ _,λ k hk=>Sort.heap_grow_old _ _ hk⟩
def AI:Con:={ ι:=Int,pre:=λ n=>-9223372036854775808<=n/\n<=9223372036854775807,args:=λ n=>[.one (.im (.int .i64 n))],res:=λ n=>⟨false,[none],[.im (.string (AJ n))]⟩ }
end Go.Proofs.YtcpjekkiejhgpaaDoor
