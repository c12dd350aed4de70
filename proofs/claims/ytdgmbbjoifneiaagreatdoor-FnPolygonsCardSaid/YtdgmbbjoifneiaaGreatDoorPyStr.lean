import Derived.Test.YtdgmbbjoifneiaaGreatDoorPyStrS
import Derived.Test.YtdgmbbjoifneiaaGreatDoorPyExD
import Derived.Test.YtdgmbbjoifneiaaGreatDoorPyStL
import Derived.Shelf.Strconv.Itoa3
import Derived.Shelf.Strings.OnBuilder
import Derived.Lib.LaidTab
namespace Go.Proofs.YtdgmbbjoifneiaaGreatDoor
set_option linter.unusedVariables false
set_option linter.unusedSimpArgs false
open Go.RowKit
def Bs (n:Int):ByteArray:=⟨(Lib.itoa n).toArray⟩
def Ae (l:List ByteArray):List (List Dat):=l.map λ s=>[.str s]
def Id (l:List ByteArray) (s:ByteArray):List UInt8:=Lib.join (l.map (·.data.toList)) s.data.toList
def G7 (l:List ByteArray) (s:ByteArray):ByteArray:=⟨(Id l s).toArray⟩
theorem As (l:List ByteArray):(Ae l).length=l.length:=by simp [Ae]
theorem GY (l:List ByteArray) (k:Nat) (hk:k<l.length):(Ae l).getD k []=[.str (l.getD k ⟨#[]⟩)]:=by simp [Ae,List.getD,hk]
theorem bx {a b:ByteArray} (h:a.data.toList=b.data.toList):a=b:=by
 cases a;cases b;congr;exact Array.toList_inj.1 h
theorem H5 (a b:ByteArray):(a++b).data.toList=a.data.toList++b.data.toList:=by simp
theorem QG {m:Nat} : ∀ (xs:List (List UInt8)),(∀ x ∈ xs,x.length<=m)->Lib.lens xs<=m*xs.length
 | [],_=>by simp [Lib.lens]
 | x::r,h=>by
  have h1:=QG r λ y hy=>h y (List.mem_cons_of_mem _ hy)
  have h2:=h x (List.mem_cons_self ..)
  simp only [Lib.lens,List.map_cons,List.sum_cons,List.length_cons] at h1 ⊢
  rw [Nat.mul_succ];omega
theorem RZ {m:Nat} {l:List ByteArray} {s:ByteArray} (h:∀ x ∈ l,x.size<=m):(Id l s).length<=(m+s.size)*l.length:=by
 unfold Id
 match l,h with
 | [],_=>simp [Lib.join_nil]
 | x::r,h=>
  rw [List.map_cons,Lib.join_cons,List.length_append,Lib.joinTail_length]
  have h1:=QG (m:=m) (r.map (·.data.toList)) (λ y hy=>by obtain ⟨z,hz,rfl⟩:=List.mem_map.1 hy;have:=h z (List.mem_cons_of_mem _ hz);exact this)
  have h2:x.data.toList.length<=m:=h x (List.mem_cons_self ..)
  simp only [List.length_map,List.length_cons] at h1 ⊢
  have h3:s.data.toList.length=s.size:=rfl
  rw [h3,Nat.mul_succ,Nat.add_mul];omega
theorem PH (l:List ByteArray) (s:ByteArray):(G7 l s).size=(Id l s).length:=by simp [G7,ByteArray.size]
theorem Ra (b:ByteArray) (k:Nat) (hk:k<b.size):b.get! k=b.data.toList.getD k 0:=by
 have h1:=M7 b k hk
 have hk' : k<b.data.size:=hk
 have h2:b[k]?=some b.data[k]:=by simp [hk];rfl
 rw [h2] at h1
 rw [← Option.some.inj h1]
 rw [List.getD_eq_getElem?_getD,Array.getElem?_toList,Array.getElem?_eq_getElem hk']
 rfl
theorem Nj (w:World) (q:Nat) (os:Array Obj):Below w.heap.size w (Sort.grow (w.drewN q) os):=⟨rfl,rfl,rfl,by rw [Sort.size_grow];exact Nat.le_add_right _ _,λ k hk=>Sort.heap_grow_old _ _ hk⟩
def Fx:Con:={ ι:=Int,pre:=λ n=>-9223372036854775808<=n/\n<=9223372036854775807,args:=λ n=>[.one (.im (.int .i64 n))],res:=λ n=>⟨false,[none],[.im (.string (Bs n))]⟩ }
theorem TP:Fx.Ok Tryz.prog 64:=El rfl ⟨_,Tryz.func64,by decide,rfl⟩ (λ _=>Nat.le_of_ble_eq_true rfl) (λ _=>rfl) (λ n=>[.im (.string (Bs n))]) (λ _=>rfl) (λ _=>rfl) (λ n hp w us hst h=>by
 have h:RdRow w [.int] [.int n] us:=h
 obtain ⟨v,vs,rfl,h1,h2⟩:=RdRow.cons2 h
 obtain ⟨-,rfl⟩:=RdRow.nil_inv h2
 obtain rfl:=Rd.int2 h1
 refine (Any.strconv_Itoa Ni n hp.1 hp.2 w (LI hst)).mono ?_
 rintro e w' ⟨rfl,k,os,rfl⟩
 exact ⟨[.string (Bs n)],rfl,Own.leaf (Fp.mk_str _),Nj _ _ _⟩)
theorem Rd.strs {w:World} {e:Nat} {v:Value} {l:List ByteArray} (h:Rd w (.sl e [.str]) (.sl (Ae l)) v):SlAt 1 w v (l.map λ s=>[.string s]):=by
 simp only [Rd] at h
 obtain ⟨rows,h1,h2,h3⟩:=h
 rw [As] at h2
 have:rows=l.map λ s=>[.string s]:=by
  apply List.ext_getElem (by simp [h2])
  intro k hk1 hk2
  have hk:k<l.length:=by omega
  have:=h3 k (by rw [As];exact hk)
  rw [GY l k hk] at this
  obtain ⟨x,vs,e1,hx,this⟩:=RdRow.cons2 this
  obtain ⟨-,rfl⟩:=RdRow.nil_inv this
  obtain rfl:=Rd.str2 hx
  have e0:rows.getD k []=rows[k]:=by simp [List.getD,hk1]
  rw [← e0,e1]
  simp [List.getD,hk]
 subst this
 exact h1
def Fy:Con:={ ι:=List ByteArray×ByteArray,pre:=λ i=>i.1.length<=1073741824/\(Id i.1 i.2).length<=140737488355328,args:=λ i=>[.one (.sl 9 [.str] (Ae i.1)),.one (.im (.string i.2))],res:=λ i=>⟨false,[none],[.im (.string (G7 i.1 i.2))]⟩ }
theorem TQ:Fy.Ok Tryz.prog 45:=CF rfl ⟨_,Tryz.func45,by decide,rfl⟩ (λ _=>Nat.le_of_ble_eq_true rfl) (λ _=>rfl) (λ i=>[.im (.string (G7 i.1 i.2))]) (λ _=>rfl) (λ _=>rfl) (λ i hp w us h=>by
 obtain ⟨l,s⟩:=i
 have h:RdRow w [.sl 9 [.str],.str] [.sl (Ae l),.str s] us:=h
 obtain ⟨v,vs,rfl,h1,h2⟩:=RdRow.cons2 h
 obtain ⟨v2,vs,rfl,h3,h2⟩:=RdRow.cons2 h2
 obtain ⟨-,rfl⟩:=RdRow.nil_inv h2
 obtain rfl:=Rd.str2 h3
 obtain ⟨a,cap,rfl,q1,q2,q3,q4⟩:=Rd.strs h1
 have fin:Calls Tryz.prog 45 #[.slice a (l.map λ s=>[Value.string s]).length cap,.string s] w λ e w'=>e=.returned (.string (G7 l s))/\Below w.heap.size w w':=by
  rcases q4 with ⟨q4,-⟩|⟨b,off,rfl,q5,q6⟩
  ·obtain rfl:l=[]:=by simpa using q4
   refine (Any.strings_Join_none QF Dy a cap s w).mono ?_
   rintro e w' ⟨rfl,rfl⟩
   exact ⟨rfl,Below.refl _ _⟩
  ·rw [List.length_map] at *
   refine (Any.strings_Join QF Dy b off cap l s w (λ j x hx=>?_) q5 (by have:=hp.1;simp only at this;omega) q1 hp.2).mono λ e w' h=>h
   have hj:j<l.length:=(List.getElem?_eq_some_iff.1 hx).1
   have:=q6 j hj 0 (by omega)
   rw [show off+(j*1+0)=off+j by omega] at this
   rw [this]
   simp [List.getD,hx]
 refine fin.mono ?_
 rintro e w' ⟨rfl,hb⟩
 exact ⟨[.string (G7 l s)],rfl,Own.leaf (Fp.mk_str _),hb⟩)
end Go.Proofs.YtdgmbbjoifneiaaGreatDoor
