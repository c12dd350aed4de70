import Derived.Test.YtcpjekkiejhgpaaGreatDoorPsStrS
import Derived.Test.YtcpjekkiejhgpaaGreatDoorPsExD
import Derived.Test.YtcpjekkiejhgpaaGreatDoorPsStL
import Derived.Shelf.Strconv.Itoa3
import Derived.Shelf.Strings.OnBuilder
import Derived.Lib.LaidTab
namespace Go.Proofs.YtcpjekkiejhgpaaGreatDoor
set_option linter.unusedVariables false
set_option linter.unusedSimpArgs false
open Go.RowKit
def AY (n:Int):ByteArray:=⟨(Lib.itoa n).toArray⟩
def AK (l:List ByteArray):List (List Dat):=l.map λ s=>[.str s]
def Cc (l:List ByteArray) (s:ByteArray):List UInt8:=Lib.join (l.map (·.data.toList)) s.data.toList
def A8 (l:List ByteArray) (s:ByteArray):ByteArray:=⟨(Cc l s).toArray⟩
theorem AO (l:List ByteArray):(AK l).length=l.length:=by simp [AK]
theorem KG (l m:List ByteArray):AK (l++m)=AK l++AK m:=by simp [AK]
theorem FA (l:List ByteArray) (k:Nat) (hk:k<l.length):(AK l).getD k []=[.str (l.getD k ⟨#[]⟩)]:=by simp [AK,List.getD,hk]
theorem bx {a b:ByteArray} (h:a.data.toList=b.data.toList):a=b:=by
 cases a;cases b;congr;exact Array.toList_inj.1 h
theorem Ar (a b:ByteArray):(a++b).data.toList=a.data.toList++b.data.toList:=by simp
theorem Dk {l:List ByteArray} {s:ByteArray} {k:Nat} (hk:k<l.length):A8 (l.take (k+1)) s=(if k=0 then A8 (l.take k) s else A8 (l.take k) s++s)++l.getD k ⟨#[]⟩:=by
 apply bx
 rw [Ar]
 have hg:(l.getD k ⟨#[]⟩)=l[k]:=by simp [List.getD,hk]
 rw [hg]
 match l,k,hk with
 | x::r,0,_=>simp [A8,Cc,Lib.join_one,Lib.join_nil]
 | x::r,k+1,hk=>
  rw [if_neg (by omega),Ar]
  simp only [A8,Cc,List.take_succ_cons,List.map_cons,Lib.join_cons,List.getElem_cons_succ]
  have hk' : k<r.length:=by simpa using hk
  rw [List.map_take,List.map_take,Lib.joinTail_take_succ _ _ k (r[k].data.toList) (by simp [hk'])]
  simp [List.append_assoc]
theorem NH {m:Nat} : ∀ (xs:List (List UInt8)),(∀ x ∈ xs,x.length<=m)->Lib.lens xs<=m*xs.length
 | [],_=>by simp [Lib.lens]
 | x::r,h=>by
  have h1:=NH r λ y hy=>h y (List.mem_cons_of_mem _ hy)
  have h2:=h x (List.mem_cons_self ..)
  simp only [Lib.lens,List.map_cons,List.sum_cons,List.length_cons] at h1 ⊢
  rw [Nat.mul_succ];omega
theorem Jj {m:Nat} {l:List ByteArray} {s:ByteArray} (h:∀ x ∈ l,x.size<=m):(Cc l s).length<=(m+s.size)*l.length:=by
 unfold Cc
 match l,h with
 | [],_=>simp [Lib.join_nil]
 | x::r,h=>
  rw [List.map_cons,Lib.join_cons,List.length_append,Lib.joinTail_length]
  have h1:=NH (m:=m) (r.map (·.data.toList)) (λ y hy=>by obtain ⟨z,hz,rfl⟩:=List.mem_map.1 hy;have:=h z (List.mem_cons_of_mem _ hz);exact this)
  have h2:x.data.toList.length<=m:=h x (List.mem_cons_self ..)
  simp only [List.length_map,List.length_cons] at h1 ⊢
  have h3:s.data.toList.length=s.size:=rfl
  rw [h3,Nat.mul_succ,Nat.add_mul];omega
theorem IO (l:List ByteArray) (s:ByteArray):(A8 l s).size=(Cc l s).length:=by simp [A8,ByteArray.size]
theorem DZ (b:ByteArray) (k:Nat) (hk:k<b.size):b.get! k=b.data.toList.getD k 0:=by
 have h1:=K6 b k hk
 have hk' : k<b.data.size:=hk
 have h2:b[k]?=some b.data[k]:=by simp [hk];rfl
 rw [h2] at h1
 rw [← Option.some.inj h1]
 rw [List.getD_eq_getElem?_getD,Array.getElem?_toList,Array.getElem?_eq_getElem hk']
 rfl
theorem Lc (w:World) (q:Nat) (os:Array Obj):Below w.heap.size w (Sort.grow (w.drewN q) os):=⟨rfl,rfl,rfl,by rw [Sort.size_grow];exact Nat.le_add_right _ _,λ k hk=>Sort.heap_grow_old _ _ hk⟩
def Ed:Con:={ ι:=Int,pre:=λ n=>-9223372036854775808<=n/\n<=9223372036854775807,args:=λ n=>[.one (.im (.int .i64 n))],res:=λ n=>⟨false,[none],[.im (.string (AY n))]⟩ }
theorem PH:Ed.Ok Tryz.prog 68:=Cz rfl ⟨_,Tryz.func68,by decide,rfl⟩ (λ _=>Nat.le_of_ble_eq_true rfl) (λ _=>rfl) (λ n=>[.im (.string (AY n))]) (λ _=>rfl) (λ _=>rfl) (λ n hp w us hst h=>by
 have h:RdRow w [.int] [.int n] us:=h
 obtain ⟨v,vs,rfl,h1,h2⟩:=RdRow.cons2 h
 obtain ⟨-,rfl⟩:=RdRow.nil_inv h2
 obtain rfl:=Rd.int2 h1
 refine (Any.strconv_Itoa Lb n hp.1 hp.2 w (Jh hst)).mono ?_
 rintro e w' ⟨rfl,k,os,rfl⟩
 exact ⟨[.string (AY n)],rfl,Own.leaf (Fp.mk_str _),Lc _ _ _⟩)
theorem Rd.strs {w:World} {e:Nat} {v:Value} {l:List ByteArray} (h:Rd w (.sl e [.str]) (.sl (AK l)) v):SlAt 1 w v (l.map λ s=>[.string s]):=by
 simp only [Rd] at h
 obtain ⟨rows,h1,h2,h3⟩:=h
 rw [AO] at h2
 have:rows=l.map λ s=>[.string s]:=by
  apply List.ext_getElem (by simp [h2])
  intro k hk1 hk2
  have hk:k<l.length:=by omega
  have:=h3 k (by rw [AO];exact hk)
  rw [FA l k hk] at this
  obtain ⟨x,vs,e1,hx,this⟩:=RdRow.cons2 this
  obtain ⟨-,rfl⟩:=RdRow.nil_inv this
  obtain rfl:=Rd.str2 hx
  have e0:rows.getD k []=rows[k]:=by simp [List.getD,hk1]
  rw [← e0,e1]
  simp [List.getD,hk]
 subst this
 exact h1
def Ee:Con:={ ι:=List ByteArray×ByteArray,pre:=λ i=>i.1.length<=1073741824/\(Cc i.1 i.2).length<=140737488355328,args:=λ i=>[.one (.sl 9 [.str] (AK i.1)),.one (.im (.string i.2))],res:=λ i=>⟨false,[none],[.im (.string (A8 i.1 i.2))]⟩ }
theorem PI:Ee.Ok Tryz.prog 59:=CF rfl ⟨_,Tryz.func59,by decide,rfl⟩ (λ _=>Nat.le_of_ble_eq_true rfl) (λ _=>rfl) (λ i=>[.im (.string (A8 i.1 i.2))]) (λ _=>rfl) (λ _=>rfl) (λ i hp w us h=>by
 obtain ⟨l,s⟩:=i
 have h:RdRow w [.sl 9 [.str],.str] [.sl (AK l),.str s] us:=h
 obtain ⟨v,vs,rfl,h1,h2⟩:=RdRow.cons2 h
 obtain ⟨v2,vs,rfl,h3,h2⟩:=RdRow.cons2 h2
 obtain ⟨-,rfl⟩:=RdRow.nil_inv h2
 obtain rfl:=Rd.str2 h3
 obtain ⟨a,cap,rfl,q1,q2,q3,q4⟩:=Rd.strs h1
 have fin:Calls Tryz.prog 59 #[.slice a (l.map λ s=>[Value.string s]).length cap,.string s] w λ e w'=>e=.returned (.string (A8 l s))/\Below w.heap.size w w':=by
  rcases q4 with ⟨q4,-⟩|⟨b,off,rfl,q5,q6⟩
  ·obtain rfl:l=[]:=by simpa using q4
   refine (Any.strings_Join_none Ec Ax a cap s w).mono ?_
   rintro e w' ⟨rfl,rfl⟩
   exact ⟨rfl,Below.refl _ _⟩
  ·rw [List.length_map] at *
   refine (Any.strings_Join Ec Ax b off cap l s w (λ j x hx=>?_) q5 (by have:=hp.1;simp only at this;omega) q1 hp.2).mono λ e w' h=>h
   have hj:j<l.length:=(List.getElem?_eq_some_iff.1 hx).1
   have:=q6 j hj 0 (by omega)
   rw [show off+(j*1+0)=off+j by omega] at this
   rw [this]
   simp [List.getD,hx]
 refine fin.mono ?_
 rintro e w' ⟨rfl,hb⟩
 exact ⟨[.string (A8 l s)],rfl,Own.leaf (Fp.mk_str _),hb⟩)
def AZ:Con:={ ι:=Int,pre:=λ n=>-9223372036854775808<=n/\n<=9223372036854775807,args:=λ n=>[.one (.im (.int .i64 n))],res:=λ n=>⟨false,[none],[.im (.string (AY n))]⟩ }
end Go.Proofs.YtcpjekkiejhgpaaGreatDoor
