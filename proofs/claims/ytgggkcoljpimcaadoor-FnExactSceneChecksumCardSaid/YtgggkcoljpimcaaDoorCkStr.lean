import Derived.Test.YtgggkcoljpimcaaDoorCkStrS
import Derived.Test.YtgggkcoljpimcaaDoorCkExD
import Derived.Shelf.Strconv.Itoa3
import Derived.Shelf.Strings.OnBuilder
import Derived.Lib.LaidTab
namespace Go.Proofs.YtgggkcoljpimcaaDoor
set_option linter.unusedVariables false
set_option linter.unusedSimpArgs false
open Go.RowKit
theorem Kq {w:World} (h:Stood w):Lib.TabIs Tryd.prog w "internal/strconv.uint64pow10" .u64 Lib.pow10Tab:=by
 obtain ⟨-,t,fr,h⟩:=h
 have h:w.heap[(1:Nat)]?=some (.cells (Lib.pow10Tab.map λ z=>Value.int .u64 z).toArray t fr):=by
  simp only [stB,List.map_cons,List.map_nil,List.cons.injEq,and_true] at h
  exact h
 unfold Lib.TabIs World.var?
 rw [show Tryd.prog.globalNamed "internal/strconv.uint64pow10" = some 1 by kernel_rfl]
 simp only [Option.bind_some,h]
def AM (n:Int):ByteArray:=⟨(Lib.itoa n).toArray⟩
def AU (l:List ByteArray):List (List Dat):=l.map λ s=>[.str s]
def Dz (l:List ByteArray) (s:ByteArray):List UInt8:=Lib.join (l.map (·.data.toList)) s.data.toList
def An (l:List ByteArray) (s:ByteArray):ByteArray:=⟨(Dz l s).toArray⟩
theorem AR (l:List ByteArray):(AU l).length=l.length:=by simp [AU]
theorem F6 (l:List ByteArray) (k:Nat) (hk:k<l.length):(AU l).getD k []=[.str (l.getD k ⟨#[]⟩)]:=by simp [AU,List.getD,hk]
theorem bx {a b:ByteArray} (h:a.data.toList=b.data.toList):a=b:=by
 cases a;cases b;congr;exact Array.toList_inj.1 h
theorem Cr (a b:ByteArray):(a++b).data.toList=a.data.toList++b.data.toList:=by simp
theorem CR {l:List ByteArray} {s:ByteArray} {k:Nat} (hk:k<l.length):An (l.take (k+1)) s=(if k=0 then An (l.take k) s else An (l.take k) s++s)++l.getD k ⟨#[]⟩:=by
 apply bx
 rw [Cr]
 have hg:(l.getD k ⟨#[]⟩)=l[k]:=by simp [List.getD,hk]
 rw [hg]
 match l,k,hk with
 | x::r,0,_=>simp [An,Dz,Lib.join_one,Lib.join_nil]
 | x::r,k+1,hk=>
  rw [if_neg (by omega),Cr]
  simp only [An,Dz,List.take_succ_cons,List.map_cons,Lib.join_cons,List.getElem_cons_succ]
  have hk' : k<r.length:=by simpa using hk
  rw [List.map_take,List.map_take,Lib.joinTail_take_succ _ _ k (r[k].data.toList) (by simp [hk'])]
  simp [List.append_assoc]
theorem KN {m:Nat} : ∀ (xs:List (List UInt8)),(∀ x ∈ xs,x.length<=m)->Lib.lens xs<=m*xs.length
 | [],_=>by simp [Lib.lens]
 | x::r,h=>by
  have h1:=KN r λ y hy=>h y (List.mem_cons_of_mem _ hy)
  have h2:=h x (List.mem_cons_self ..)
  simp only [Lib.lens,List.map_cons,List.sum_cons,List.length_cons] at h1 ⊢
  rw [Nat.mul_succ];omega
theorem HG {m:Nat} {l:List ByteArray} {s:ByteArray} (h:∀ x ∈ l,x.size<=m):(Dz l s).length<=(m+s.size)*l.length:=by
 unfold Dz
 match l,h with
 | [],_=>simp [Lib.join_nil]
 | x::r,h=>
  rw [List.map_cons,Lib.join_cons,List.length_append,Lib.joinTail_length]
  have h1:=KN (m:=m) (r.map (·.data.toList)) (λ y hy=>by obtain ⟨z,hz,rfl⟩:=List.mem_map.1 hy;have:=h z (List.mem_cons_of_mem _ hz);exact this)
  have h2:x.data.toList.length<=m:=h x (List.mem_cons_self ..)
  simp only [List.length_map,List.length_cons] at h1 ⊢
  have h3:s.data.toList.length=s.size:=rfl
  rw [h3,Nat.mul_succ,Nat.add_mul];omega
theorem F7 (l:List ByteArray) (s:ByteArray):(An l s).size=(Dz l s).length:=by simp [An,ByteArray.size]
theorem L4 (w:World) (q:Nat) (os:Array Obj):Below w.heap.size w (Sort.grow (w.drewN q) os):=⟨rfl,rfl,rfl,by rw [Sort.size_grow];exact Nat.le_add_right _ _,λ k hk=>Sort.heap_grow_old _ _ hk⟩
def DI:Con:={ ι:=Int,pre:=λ n=>-9223372036854775808<=n/\n<=9223372036854775807,args:=λ n=>[.one (.im (.int .i64 n))],res:=λ n=>⟨false,[none],[.im (.string (AM n))]⟩ }
theorem L5:DI.Ok Tryd.prog 57:=F3 rfl ⟨_,Tryd.func57,by decide,rfl⟩ (λ _=>Nat.le_of_ble_eq_true rfl) (λ _=>rfl) (λ n=>[.im (.string (AM n))]) (λ _=>rfl) (λ _=>rfl) (λ n hp w us hst h=>by
 have h:RdRow w [.int] [.int n] us:=h
 obtain ⟨v,vs,rfl,h1,h2⟩:=RdRow.cons2 h
 obtain ⟨-,rfl⟩:=RdRow.nil_inv h2
 obtain rfl:=Rd.int2 h1
 refine (Any.strconv_Itoa L1 n hp.1 hp.2 w (Kq hst)).mono ?_
 rintro e w' ⟨rfl,k,os,rfl⟩
 exact ⟨[.string (AM n)],rfl,Own.leaf (Fp.mk_str _),L4 _ _ _⟩)
theorem Rd.strs {w:World} {e:Nat} {v:Value} {l:List ByteArray} (h:Rd w (.sl e [.str]) (.sl (AU l)) v):SlAt 1 w v (l.map λ s=>[.string s]):=by
 simp only [Rd] at h
 obtain ⟨rows,h1,h2,h3⟩:=h
 rw [AR] at h2
 have:rows=l.map λ s=>[.string s]:=by
  apply List.ext_getElem (by simp [h2])
  intro k hk1 hk2
  have hk:k<l.length:=by omega
  have:=h3 k (by rw [AR];exact hk)
  rw [F6 l k hk] at this
  obtain ⟨x,vs,e1,hx,this⟩:=RdRow.cons2 this
  obtain ⟨-,rfl⟩:=RdRow.nil_inv this
  obtain rfl:=Rd.str2 hx
  have e0:rows.getD k []=rows[k]:=by simp [List.getD,hk1]
  rw [← e0,e1]
  simp [List.getD,hk]
 subst this
 exact h1
def DJ:Con:={ ι:=List ByteArray×ByteArray,pre:=λ i=>i.1.length<=1073741824/\(Dz i.1 i.2).length<=140737488355328,args:=λ i=>[.one (.sl 9 [.str] (AU i.1)),.one (.im (.string i.2))],res:=λ i=>⟨false,[none],[.im (.string (An i.1 i.2))]⟩ }
theorem L6:DJ.Ok Tryd.prog 39:=CL rfl ⟨_,Tryd.func39,by decide,rfl⟩ (λ _=>Nat.le_of_ble_eq_true rfl) (λ _=>rfl) (λ i=>[.im (.string (An i.1 i.2))]) (λ _=>rfl) (λ _=>rfl) (λ i hp w us h=>by
 obtain ⟨l,s⟩:=i
 have h:RdRow w [.sl 9 [.str],.str] [.sl (AU l),.str s] us:=h
 obtain ⟨v,vs,rfl,h1,h2⟩:=RdRow.cons2 h
 obtain ⟨v2,vs,rfl,h3,h2⟩:=RdRow.cons2 h2
 obtain ⟨-,rfl⟩:=RdRow.nil_inv h2
 obtain rfl:=Rd.str2 h3
 obtain ⟨a,cap,rfl,q1,q2,q3,q4⟩:=Rd.strs h1
 have fin:Calls Tryd.prog 39 #[.slice a (l.map λ s=>[Value.string s]).length cap,.string s] w λ e w'=>e=.returned (.string (An l s))/\Below w.heap.size w w':=by
  rcases q4 with ⟨q4,-⟩|⟨b,off,rfl,q5,q6⟩
  ·obtain rfl:l=[]:=by simpa using q4
   refine (Any.strings_Join_none DG AW a cap s w).mono ?_
   rintro e w' ⟨rfl,rfl⟩
   exact ⟨rfl,Below.refl _ _⟩
  ·rw [List.length_map] at *
   refine (Any.strings_Join DG AW b off cap l s w (λ j x hx=>?_) q5 (by have:=hp.1;simp only at this;omega) q1 hp.2).mono λ e w' h=>h
   have hj:j<l.length:=(List.getElem?_eq_some_iff.1 hx).1
   have:=q6 j hj 0 (by omega)
   rw [show off+(j*1+0)=off+j by omega] at this
   rw [this]
   simp [List.getD,hx]
 refine fin.mono ?_
 rintro e w' ⟨rfl,hb⟩
 exact ⟨[.string (An l s)],rfl,Own.leaf (Fp.mk_str _),hb⟩)
def A8:Con:={ ι:=Int,pre:=λ n=>-9223372036854775808<=n/\n<=9223372036854775807,args:=λ n=>[.one (.im (.int .i64 n))],res:=λ n=>⟨false,[none],[.im (.string (AM n))]⟩ }
end Go.Proofs.YtgggkcoljpimcaaDoor
