import Derived.Test.YtcpjekkiejhgpaaDoorPpRkS1
import Derived.Test.YtcpjekkiejhgpaaDoorPpPin
namespace Go.Proofs.YtcpjekkiejhgpaaDoor
set_option maxRecDepth 100000
set_option linter.unusedVariables false
set_option linter.unusedSimpArgs false
open Go.RowKit
def BY:Con:={ ι:=ByteArray,pre:=λ i=>i.size<=1073741824,args:=λ i=>[.one (.im (.string i))],res:=λ i=>⟨true,[none,none],[.im (Value.int .i64 ((AC i).getD 0)),.im (Value.bool ((AC i).isSome))]⟩ }
theorem Lx:BY.Ok Tryd.prog 23:=DW rfl ⟨_,Tryd.func23,by decide,rfl⟩ (λ _=>Nat.le_of_ble_eq_true rfl) (λ _=>rfl) (λ s=>[.im (.int .i64 ((AC s).getD 0)),.im (.bool (AC s).isSome)]) (λ _=>rfl) (λ _=>rfl) (λ i hp w us hst h=>by
 have h:RdRow w [.str] [.str i] us:=h
 obtain ⟨v,vs,rfl,h1,h2⟩:=RdRow.cons2 h
 obtain ⟨-,rfl⟩:=RdRow.nil_inv h2
 obtain rfl:=Rd.str2 h1
 refine (Ij i hp w hst).mono ?_
 rintro e w' ⟨rfl,hb⟩
 exact ⟨[.int .i64 ((AC i).getD 0),.bool (AC i).isSome],rfl,Own.append (ts:=[.int]) (ds:=[.int ((AC i).getD 0)]) (vs:=[.int .i64 ((AC i).getD 0)]) (Own.leaf (lo:=w.heap.size) (hi:=w.heap.size) (Fp.mk_int _)) (Own.leaf (lo:=w.heap.size) (hi:=w'.heap.size) (Fp.mk_bool _)) (Nat.le_refl _) hb.size,hb⟩)
def CR:Con:={ ι:=Int×Int,pre:=λ i=>True,args:=λ i=>[.agg [.im (.int .i64 i.1),.im (.int .i64 i.2)]],res:=λ i=>⟨false,[none],[.im (Value.bool (AP (i.1,i.2)))]⟩ }
theorem Km:CR.Ok Tryd.prog 24:=C6 rfl ⟨_,Tryd.func24,by decide,rfl⟩ (λ _=>Nat.le_of_ble_eq_true rfl) (λ _=>rfl) (λ i=>[.im (.bool (AP (i.1,i.2)))]) (λ _=>rfl) (λ _=>rfl) (λ i hp w us h=>by
 obtain ⟨x,y⟩:=i
 have h:RdRow w [.int,.int] [.int x,.int y] us:=h
 obtain ⟨a,_,rfl,q1,h⟩:=RdRow.cons2 h
 obtain ⟨b,_,rfl,q2,h⟩:=RdRow.cons2 h
 obtain ⟨-,rfl⟩:=RdRow.nil_inv h
 obtain rfl:=Rd.int2 q1
 obtain rfl:=Rd.int2 q2
 refine (Jz x y w).mono ?_
 rintro e w' ⟨rfl,hb⟩
 exact ⟨[Value.bool (AP (x,y))],rfl,Own.leaf (Fp.mk_bool _),hb⟩)
theorem Ly (s:ByteArray) (c:UInt8):(Ai s c).size<=s.size/\(Al s c).size<=s.size:=by
 rcases If s c with ⟨-,-,h1,h2⟩|⟨-,h,-⟩
 ·rw [h1,h2];exact ⟨Nat.le_refl _,Nat.zero_le _⟩
 ·have:=congrArg ByteArray.size h
  rw [ByteArray.size_append,ByteArray.size_append] at this
  omega
theorem Lz {s:ByteArray} : (CK s 44=false->CU s=none)/\((AC (Ai s 44)).isSome=false->CU s=none)/\((AC (Al s 44)).isSome=false->CU s=none) /\
  (CK s 44=true->(AC (Ai s 44)).isSome=true->(AC (Al s 44)).isSome=true->(AP ((AC (Ai s 44)).getD 0,(AC (Al s 44)).getD 0)=true->CU s=some ((AC (Ai s 44)).getD 0,(AC (Al s 44)).getD 0))/\(AP ((AC (Ai s 44)).getD 0,(AC (Al s 44)).getD 0)=false->CU s=none)):=by
 unfold CU
 cases h1:AC (Ai s 44) <;> cases h2:AC (Al s 44) <;> cases CK s 44 <;> simp
def DB:Con:={ ι:=ByteArray,pre:=λ i=>i.size<=1073741824,args:=λ i=>[.one (.im (.string i))],res:=λ i=>⟨true,[some 2,none],[.im (Value.int .i64 ((vOf i).1)),.im (Value.int .i64 ((vOf i).2)),.im (Value.bool (okV i))]⟩ }
theorem L0:DB.Ok Tryd.prog 13:=by
 refine fok (X:=⟨tt,[(22,Cp),(23,BY),(24,CR)],[],48,[]⟩) mixed DK (CTok.cons Mb (CTok.cons Lx (CTok.cons Km (CTok.nil _)))) Tryd.func13 (λ _=>[]) ?_
 intro (s:ByteArray) hpre
 have hpre:s.size<=1073741824:=hpre
 refine DJ (q:=∃ i1:ByteArray×UInt8,[DA.one (DC.im (Value.string s)),DA.one (DC.im (Value.string (⟨#[44]⟩:ByteArray)))]=Cp.args i1/\Cp.pre i1/\(∃ i2:ByteArray,[DA.one (DC.im (Value.string (Ai i1.1 i1.2)))]=BY.args i2/\BY.pre i2/\(∃ i3:ByteArray,[DA.one (DC.im (Value.string (Al i1.1 i1.2)))]=BY.args i3/\BY.pre i3/\(((!(!(CK i1.1 i1.2)))=true->(((!(!((AC i2).isSome)))=true->(((!(!((AC i3).isSome)))=true->(∃ i4:Int×Int,[DA.agg [cI ((AC i2).getD 0),cI ((AC i3).getD 0)]]=CR.args i4/\CR.pre i4/\(((!(AP (i4.1,i4.2)))=true->((Value.int .i64 (0:Int)=Value.int .i64 ((vOf s).1))/\(Value.int .i64 (0:Int)=Value.int .i64 ((vOf s).2))/\(Value.bool false=Value.bool (okV s))))/\((!(AP (i4.1,i4.2)))=false->((Value.int .i64 ((AC i2).getD 0)=Value.int .i64 ((vOf s).1))/\(Value.int .i64 ((AC i3).getD 0)=Value.int .i64 ((vOf s).2))/\(Value.bool true=Value.bool (okV s)))))))/\((!(!((AC i3).isSome)))=false->((Value.int .i64 (0:Int)=Value.int .i64 ((vOf s).1))/\(Value.int .i64 (0:Int)=Value.int .i64 ((vOf s).2))/\(Value.bool false=Value.bool (okV s))))))/\((!(!((AC i2).isSome)))=false->((Value.int .i64 (0:Int)=Value.int .i64 ((vOf s).1))/\(Value.int .i64 (0:Int)=Value.int .i64 ((vOf s).2))/\(Value.bool false=Value.bool (okV s))))))/\((!(!(CK i1.1 i1.2)))=false->((Value.int .i64 (0:Int)=Value.int .i64 ((vOf s).1))/\(Value.int .i64 (0:Int)=Value.int .i64 ((vOf s).2))/\(Value.bool false=Value.bool (okV s)))))))) (by kernel_rfl) ?_
 have hcs:=Ly s 44
 obtain ⟨k1,k2,k3,k4⟩:=@Lz s
 -- w1: cutP [DA.one (DC.im (Value.string s)), DA.one (DC.im (Value.string (⟨#[44]⟩ : ByteArray)))]
 refine ⟨(s,44),by
  rfl,by
  show s.size<=1073741824
  first|trivial|exact hpre|(have:=hcs.1;omega)|(have:=hcs.2;omega),?_⟩
 -- w4: iParI [DA.one (DC.im (Value.string (Ai s 44)))]
 refine ⟨Ai s 44,by
  rfl,by
  show (Ai s 44).size<=1073741824
  first|trivial|exact hpre|(have:=hcs.1;omega)|(have:=hcs.2;omega),?_⟩
 -- w7: iParI [DA.one (DC.im (Value.string (Al s 44)))]
 refine ⟨Al s 44,by
  rfl,by
  show (Al s 44).size<=1073741824
  first|trivial|exact hpre|(have:=hcs.1;omega)|(have:=hcs.2;omega),?_⟩
 refine And.symm ⟨λ c10=>?_,λ c10=>?_⟩
 ·-- c10f: (!(!(CK s 44))) = false
  replace c10:(!(!(CK s 44)))=false:=c10
  try simp only [nrm] at c10
  refine ⟨?_,?_,?_⟩
  ·-- l29: Value.int .i64 (0 : Int) = Value.int .i64 ((vOf s).1)
   show Value.int .i64 (0:Int)=Value.int .i64 ((vOf s).1)
   first|(rw [(AD (k1 (by assumption))).2])|(rw [(AD (k1 (by assumption))).1])|(rw [(AD (k2 (by assumption))).2])|(rw [(AD (k2 (by assumption))).1])|(rw [(AD (k3 (by assumption))).2])|(rw [(AD (k3 (by assumption))).1])|(rw [(AD ((k4 (by assumption) (by assumption) (by assumption)).2 (by assumption))).2])|(rw [(AD ((k4 (by assumption) (by assumption) (by assumption)).2 (by assumption))).1])|(rw [(AO ((k4 (by assumption) (by assumption) (by assumption)).1 (by assumption))).2])|(rw [(AO ((k4 (by assumption) (by assumption) (by assumption)).1 (by assumption))).1])
  ·-- l30: Value.int .i64 (0 : Int) = Value.int .i64 ((vOf s).2)
   show Value.int .i64 (0:Int)=Value.int .i64 ((vOf s).2)
   first|(rw [(AD (k1 (by assumption))).2])|(rw [(AD (k1 (by assumption))).1])|(rw [(AD (k2 (by assumption))).2])|(rw [(AD (k2 (by assumption))).1])|(rw [(AD (k3 (by assumption))).2])|(rw [(AD (k3 (by assumption))).1])|(rw [(AD ((k4 (by assumption) (by assumption) (by assumption)).2 (by assumption))).2])|(rw [(AD ((k4 (by assumption) (by assumption) (by assumption)).2 (by assumption))).1])|(rw [(AO ((k4 (by assumption) (by assumption) (by assumption)).1 (by assumption))).2])|(rw [(AO ((k4 (by assumption) (by assumption) (by assumption)).1 (by assumption))).1])
  -- l31: Value.bool false = Value.bool (okV s)
  show Value.bool false=Value.bool (okV s)
  first|(rw [(AD (k1 (by assumption))).2])|(rw [(AD (k1 (by assumption))).1])|(rw [(AD (k2 (by assumption))).2])|(rw [(AD (k2 (by assumption))).1])|(rw [(AD (k3 (by assumption))).2])|(rw [(AD (k3 (by assumption))).1])|(rw [(AD ((k4 (by assumption) (by assumption) (by assumption)).2 (by assumption))).2])|(rw [(AD ((k4 (by assumption) (by assumption) (by assumption)).2 (by assumption))).1])|(rw [(AO ((k4 (by assumption) (by assumption) (by assumption)).1 (by assumption))).2])|(rw [(AO ((k4 (by assumption) (by assumption) (by assumption)).1 (by assumption))).1])
 -- c10t: (!(!(CK s 44))) = true
 replace c10:(!(!(CK s 44)))=true:=c10
 try simp only [nrm] at c10
 refine And.symm ⟨λ c11=>?_,λ c11=>?_⟩
 ·-- c11f: (!(!((AC (Ai s 44)).isSome))) = false
  replace c11:(!(!((AC (Ai s 44)).isSome)))=false:=c11
  try simp only [nrm] at c11
  refine ⟨?_,?_,?_⟩
  ·-- l26: Value.int .i64 (0 : Int) = Value.int .i64 ((vOf s).1)
   show Value.int .i64 (0:Int)=Value.int .i64 ((vOf s).1)
   first|(rw [(AD (k1 (by assumption))).2])|(rw [(AD (k1 (by assumption))).1])|(rw [(AD (k2 (by assumption))).2])|(rw [(AD (k2 (by assumption))).1])|(rw [(AD (k3 (by assumption))).2])|(rw [(AD (k3 (by assumption))).1])|(rw [(AD ((k4 (by assumption) (by assumption) (by assumption)).2 (by assumption))).2])|(rw [(AD ((k4 (by assumption) (by assumption) (by assumption)).2 (by assumption))).1])|(rw [(AO ((k4 (by assumption) (by assumption) (by assumption)).1 (by assumption))).2])|(rw [(AO ((k4 (by assumption) (by assumption) (by assumption)).1 (by assumption))).1])
  ·-- l27: Value.int .i64 (0 : Int) = Value.int .i64 ((vOf s).2)
   show Value.int .i64 (0:Int)=Value.int .i64 ((vOf s).2)
   first|(rw [(AD (k1 (by assumption))).2])|(rw [(AD (k1 (by assumption))).1])|(rw [(AD (k2 (by assumption))).2])|(rw [(AD (k2 (by assumption))).1])|(rw [(AD (k3 (by assumption))).2])|(rw [(AD (k3 (by assumption))).1])|(rw [(AD ((k4 (by assumption) (by assumption) (by assumption)).2 (by assumption))).2])|(rw [(AD ((k4 (by assumption) (by assumption) (by assumption)).2 (by assumption))).1])|(rw [(AO ((k4 (by assumption) (by assumption) (by assumption)).1 (by assumption))).2])|(rw [(AO ((k4 (by assumption) (by assumption) (by assumption)).1 (by assumption))).1])
  -- l28: Value.bool false = Value.bool (okV s)
  show Value.bool false=Value.bool (okV s)
  first|(rw [(AD (k1 (by assumption))).2])|(rw [(AD (k1 (by assumption))).1])|(rw [(AD (k2 (by assumption))).2])|(rw [(AD (k2 (by assumption))).1])|(rw [(AD (k3 (by assumption))).2])|(rw [(AD (k3 (by assumption))).1])|(rw [(AD ((k4 (by assumption) (by assumption) (by assumption)).2 (by assumption))).2])|(rw [(AD ((k4 (by assumption) (by assumption) (by assumption)).2 (by assumption))).1])|(rw [(AO ((k4 (by assumption) (by assumption) (by assumption)).1 (by assumption))).2])|(rw [(AO ((k4 (by assumption) (by assumption) (by assumption)).1 (by assumption))).1])
 -- c11t: (!(!((AC (Ai s 44)).isSome))) = true
 replace c11:(!(!((AC (Ai s 44)).isSome)))=true:=c11
 try simp only [nrm] at c11
 refine And.symm ⟨λ c12=>?_,λ c12=>?_⟩
 ·-- c12f: (!(!((AC (Al s 44)).isSome))) = false
  replace c12:(!(!((AC (Al s 44)).isSome)))=false:=c12
  try simp only [nrm] at c12
  refine ⟨?_,?_,?_⟩
  ·-- l23: Value.int .i64 (0 : Int) = Value.int .i64 ((vOf s).1)
   show Value.int .i64 (0:Int)=Value.int .i64 ((vOf s).1)
   first|(rw [(AD (k1 (by assumption))).2])|(rw [(AD (k1 (by assumption))).1])|(rw [(AD (k2 (by assumption))).2])|(rw [(AD (k2 (by assumption))).1])|(rw [(AD (k3 (by assumption))).2])|(rw [(AD (k3 (by assumption))).1])|(rw [(AD ((k4 (by assumption) (by assumption) (by assumption)).2 (by assumption))).2])|(rw [(AD ((k4 (by assumption) (by assumption) (by assumption)).2 (by assumption))).1])|(rw [(AO ((k4 (by assumption) (by assumption) (by assumption)).1 (by assumption))).2])|(rw [(AO ((k4 (by assumption) (by assumption) (by assumption)).1 (by assumption))).1])
  ·-- l24: Value.int .i64 (0 : Int) = Value.int .i64 ((vOf s).2)
   show Value.int .i64 (0:Int)=Value.int .i64 ((vOf s).2)
   first|(rw [(AD (k1 (by assumption))).2])|(rw [(AD (k1 (by assumption))).1])|(rw [(AD (k2 (by assumption))).2])|(rw [(AD (k2 (by assumption))).1])|(rw [(AD (k3 (by assumption))).2])|(rw [(AD (k3 (by assumption))).1])|(rw [(AD ((k4 (by assumption) (by assumption) (by assumption)).2 (by assumption))).2])|(rw [(AD ((k4 (by assumption) (by assumption) (by assumption)).2 (by assumption))).1])|(rw [(AO ((k4 (by assumption) (by assumption) (by assumption)).1 (by assumption))).2])|(rw [(AO ((k4 (by assumption) (by assumption) (by assumption)).1 (by assumption))).1])
  -- l25: Value.bool false = Value.bool (okV s)
  show Value.bool false=Value.bool (okV s)
  first|(rw [(AD (k1 (by assumption))).2])|(rw [(AD (k1 (by assumption))).1])|(rw [(AD (k2 (by assumption))).2])|(rw [(AD (k2 (by assumption))).1])|(rw [(AD (k3 (by assumption))).2])|(rw [(AD (k3 (by assumption))).1])|(rw [(AD ((k4 (by assumption) (by assumption) (by assumption)).2 (by assumption))).2])|(rw [(AD ((k4 (by assumption) (by assumption) (by assumption)).2 (by assumption))).1])|(rw [(AO ((k4 (by assumption) (by assumption) (by assumption)).1 (by assumption))).2])|(rw [(AO ((k4 (by assumption) (by assumption) (by assumption)).1 (by assumption))).1])
 -- c12t: (!(!((AC (Al s 44)).isSome))) = true
 replace c12:(!(!((AC (Al s 44)).isSome)))=true:=c12
 try simp only [nrm] at c12
 -- w13: iIsVec [DA.agg [DC.im (Value.int .i64 ((AC (Ai s 44)).getD 0)), DC.im (Value.int .i64 ((AC (Al s 44)).getD 0))]]
 refine ⟨(((AC (Ai s 44)).getD 0),((AC (Al s 44)).getD 0)),by
  rfl,by
  first|trivial|exact hpre|(have:=hcs.1;omega)|(have:=hcs.2;omega),?_⟩
 refine ⟨λ c16=>?_,λ c16=>?_⟩
 ·-- c16t: (!(AP (((AC (Ai s 44)).getD 0), ((AC (Al s 44)).getD 0)))) = true
  replace c16:(!(AP (((AC (Ai s 44)).getD 0),((AC (Al s 44)).getD 0))))=true:=c16
  try simp only [nrm] at c16
  refine ⟨?_,?_,?_⟩
  ·-- l17: Value.int .i64 (0 : Int) = Value.int .i64 ((vOf s).1)
   show Value.int .i64 (0:Int)=Value.int .i64 ((vOf s).1)
   first|(rw [(AD (k1 (by assumption))).2])|(rw [(AD (k1 (by assumption))).1])|(rw [(AD (k2 (by assumption))).2])|(rw [(AD (k2 (by assumption))).1])|(rw [(AD (k3 (by assumption))).2])|(rw [(AD (k3 (by assumption))).1])|(rw [(AD ((k4 (by assumption) (by assumption) (by assumption)).2 (by assumption))).2])|(rw [(AD ((k4 (by assumption) (by assumption) (by assumption)).2 (by assumption))).1])|(rw [(AO ((k4 (by assumption) (by assumption) (by assumption)).1 (by assumption))).2])|(rw [(AO ((k4 (by assumption) (by assumption) (by assumption)).1 (by assumption))).1])
  ·-- l18: Value.int .i64 (0 : Int) = Value.int .i64 ((vOf s).2)
   show Value.int .i64 (0:Int)=Value.int .i64 ((vOf s).2)
   first|(rw [(AD (k1 (by assumption))).2])|(rw [(AD (k1 (by assumption))).1])|(rw [(AD (k2 (by assumption))).2])|(rw [(AD (k2 (by assumption))).1])|(rw [(AD (k3 (by assumption))).2])|(rw [(AD (k3 (by assumption))).1])|(rw [(AD ((k4 (by assumption) (by assumption) (by assumption)).2 (by assumption))).2])|(rw [(AD ((k4 (by assumption) (by assumption) (by assumption)).2 (by assumption))).1])|(rw [(AO ((k4 (by assumption) (by assumption) (by assumption)).1 (by assumption))).2])|(rw [(AO ((k4 (by assumption) (by assumption) (by assumption)).1 (by assumption))).1])
  -- l19: Value.bool false = Value.bool (okV s)
  show Value.bool false=Value.bool (okV s)
  first|(rw [(AD (k1 (by assumption))).2])|(rw [(AD (k1 (by assumption))).1])|(rw [(AD (k2 (by assumption))).2])|(rw [(AD (k2 (by assumption))).1])|(rw [(AD (k3 (by assumption))).2])|(rw [(AD (k3 (by assumption))).1])|(rw [(AD ((k4 (by assumption) (by assumption) (by assumption)).2 (by assumption))).2])|(rw [(AD ((k4 (by assumption) (by assumption) (by assumption)).2 (by assumption))).1])|(rw [(AO ((k4 (by assumption) (by assumption) (by assumption)).1 (by assumption))).2])|(rw [(AO ((k4 (by assumption) (by assumption) (by assumption)).1 (by assumption))).1])
 -- c16f: (!(AP (((AC (Ai s 44)).getD 0), ((AC (Al s 44)).getD 0)))) = false
 replace c16:(!(AP (((AC (Ai s 44)).getD 0),((AC (Al s 44)).getD 0))))=false:=c16
 try simp only [nrm] at c16
 refine ⟨?_,?_,?_⟩
 ·-- l20: Value.int .i64 ((AC (Ai s 44)).getD 0) = Value.int .i64 ((vOf s).1)
  show Value.int .i64 ((AC (Ai s 44)).getD 0)=Value.int .i64 ((vOf s).1)
  first|(rw [(AD (k1 (by assumption))).2])|(rw [(AD (k1 (by assumption))).1])|(rw [(AD (k2 (by assumption))).2])|(rw [(AD (k2 (by assumption))).1])|(rw [(AD (k3 (by assumption))).2])|(rw [(AD (k3 (by assumption))).1])|(rw [(AD ((k4 (by assumption) (by assumption) (by assumption)).2 (by assumption))).2])|(rw [(AD ((k4 (by assumption) (by assumption) (by assumption)).2 (by assumption))).1])|(rw [(AO ((k4 (by assumption) (by assumption) (by assumption)).1 (by assumption))).2])|(rw [(AO ((k4 (by assumption) (by assumption) (by assumption)).1 (by assumption))).1])
 ·-- l21: Value.int .i64 ((AC (Al s 44)).getD 0) = Value.int .i64 ((vOf s).2)
  show Value.int .i64 ((AC (Al s 44)).getD 0)=Value.int .i64 ((vOf s).2)
  first|(rw [(AD (k1 (by assumption))).2])|(rw [(AD (k1 (by assumption))).1])|(rw [(AD (k2 (by assumption))).2])|(rw [(AD (k2 (by assumption))).1])|(rw [(AD (k3 (by assumption))).2])|(rw [(AD (k3 (by assumption))).1])|(rw [(AD ((k4 (by assumption) (by assumption) (by assumption)).2 (by assumption))).2])|(rw [(AD ((k4 (by assumption) (by assumption) (by assumption)).2 (by assumption))).1])|(rw [(AO ((k4 (by assumption) (by assumption) (by assumption)).1 (by assumption))).2])|(rw [(AO ((k4 (by assumption) (by assumption) (by assumption)).1 (by assumption))).1])
 -- l22: Value.bool true = Value.bool (okV s)
 show Value.bool true=Value.bool (okV s)
 first|(rw [(AD (k1 (by assumption))).2])|(rw [(AD (k1 (by assumption))).1])|(rw [(AD (k2 (by assumption))).2])|(rw [(AD (k2 (by assumption))).1])|(rw [(AD (k3 (by assumption))).2])|(rw [(AD (k3 (by assumption))).1])|(rw [(AD ((k4 (by assumption) (by assumption) (by assumption)).2 (by assumption))).2])|(rw [(AD ((k4 (by assumption) (by assumption) (by assumption)).2 (by assumption))).1])|(rw [(AO ((k4 (by assumption) (by assumption) (by assumption)).1 (by assumption))).2])|(rw [(AO ((k4 (by assumption) (by assumption) (by assumption)).1 (by assumption))).1])
theorem E7 {ws:List ByteArray} {k:Nat} (hk:k<ws.length):AG ((ws.take k).map vOf)++[[Dat.int (vOf (ws.getD k ⟨#[]⟩)).1,Dat.int (vOf (ws.getD k ⟨#[]⟩)).2]]=AG ((ws.take (k+1)).map vOf):=by
 rw [List.take_succ_eq_append_getElem hk,List.map_append]
 have e:ws.getD k ⟨#[]⟩=ws[k]:=by simp [List.getD,hk]
 rw [e]
 simp [AG,It]
theorem Ik {ws:List ByteArray} {k:Nat} (hk:k<ws.length):(ws.take (k+1)).all okV=((ws.take k).all okV && okV (ws.getD k ⟨#[]⟩)):=by
 rw [List.take_succ_eq_append_getElem hk,List.all_append]
 simp [List.getD,hk]
theorem Il {s:ByteArray} {k:Nat} (hk:k<(AA 32 s).length) (h:okV ((AA 32 s).getD k ⟨#[]⟩)=false):okP s=false:=by
 have h2:(AA 32 s).all okV=false:=by
  rw [List.all_eq_false]
  refine ⟨(AA 32 s)[k],List.getElem_mem hk,?_⟩
  have e:(AA 32 s).getD k ⟨#[]⟩=(AA 32 s)[k]:=by simp [List.getD,hk]
  rw [← e,h];simp
 unfold okP;rw [h2];rfl
theorem L1 {s:ByteArray} (h:16<(AA 32 s).length):okP s=false:=by
 have:AR ((AA 32 s).map vOf)=false:=by
  cases hp:AR ((AA 32 s).map vOf) with
  | false=>rfl
  | true=>have:=(Id hp).2.1;rw [List.length_map] at this;omega
 unfold okP;rw [this];simp
theorem D0 {s:ByteArray} (h:(AA 32 s).all okV=true):okP s=AR ((AA 32 s).map vOf):=by unfold okP;rw [h];rfl
def BZ:Con:={ ι:=ByteArray,pre:=λ i=>i.size<=1073741824,args:=λ i=>[.one (.im (.string i))],res:=λ i=>⟨true,[none,none],[.own 31 [.int,.int] (AG (Ad i)),.im (Value.bool (okP i))]⟩ }
theorem L2:BZ.Ok Tryd.prog 5:=by
 refine fok (X:=⟨tt,[(12,CQ),(13,DB),(14,Bv)],[],38,[]⟩) mixed DK (CTok.cons Kl (CTok.cons L0 (CTok.cons JS (CTok.nil _)))) Tryd.func5 (λ (i:ByteArray)=>[(3,.mk 3 (Nat) (λ x1=>{ tm:=[(11,.one (.one (.ext 1))),(12,.one (.one (.im (Value.int .i64 ((AE (AA 32 i)).length:Int))))),(13,.one (.one (.im (Value.int .i64 (x1:Int))))),(4,.one (.one (.ext 2)))],en:=[(1,.own 9 [.str] (AE (AA 32 i))),(2,.own 31 [.int,.int] (AG (((AA 32 i).take x1).map vOf)))] }) (λ x1=>x1<=(AA 32 i).length/\x1<=16/\((AA 32 i).take x1).all okV=true) (λ x1=>(AA 32 i).length-x1) (λ _=>[]))]) ?_
 intro (s:ByteArray) hpre
 have hpre:s.size<=1073741824:=hpre
 refine DJ (q:=∃ i1:ByteArray×UInt8,[DA.one (DC.im (Value.string s)),DA.one (DC.im (Value.string (⟨#[32]⟩:ByteArray)))]=CQ.args i1/\CQ.pre i1/\((∃ x1:Nat,(x1<=(AA 32 s).length/\x1<=16/\((AA 32 s).take x1).all okV=true)/\((Value.int .i64 (((AE (AA i1.2 i1.1)).length:Nat):Int)=Value.int .i64 ((AE (AA 32 s)).length:Int))/\(Value.int .i64 (0:Int)=Value.int .i64 (x1:Int))/\(AE (AA i1.2 i1.1)=(AE (AA 32 s)))/\(([]:List (List Dat))=(AG (((AA 32 s).take x1).map vOf)))))/\∀ x1:Nat,(x1<=(AA 32 s).length/\x1<=16/\((AA 32 s).take x1).all okV=true)->(((decide ((x1:Int)<((AE (AA 32 s)).length:Int)))=true->((0<=(x1:Int)/\(x1:Int)<((AE (AA 32 s)).length:Int))/\((x1<(AE (AA 32 s)).length)/\(∃ i2:ByteArray,[DA.one (DC.im (Value.string (((((AE (AA 32 s)).getD x1 []).getD 0 (.int 0))).s)))]=DB.args i2/\DB.pre i2/\(((!(!(okV i2)))=true->((((((AG (((AA 32 s).take x1).map vOf)).length:Nat):Int) == (16:Int))=true->((([]:List (List Dat))=AG (Ad s))/\(Value.bool false=Value.bool (okP s))))/\(((((AG (((AA 32 s).take x1).map vOf)).length:Nat):Int) == (16:Int))=false->(((AG (((AA 32 s).take x1).map vOf)).length+([[Dat.int ((vOf i2).1),Dat.int ((vOf i2).2)]]:List (List Dat)).length<=2199023255552)/\(∃ y2:Nat,(y2<=(AA 32 s).length/\y2<=16/\((AA 32 s).take y2).all okV=true)/\((AA 32 s).length-y2<(AA 32 s).length-x1)/\((rf (Value.int .i64 ((AE (AA 32 s)).length:Int)))/\(Value.int .i64 (IntKind.i64.wrap ((x1:Int)+(1:Int)))=Value.int .i64 (y2:Int))/\(rf (AE (AA 32 s)))/\(((AG (((AA 32 s).take x1).map vOf))++([[Dat.int ((vOf i2).1),Dat.int ((vOf i2).2)]]:List (List Dat)))=(AG (((AA 32 s).take y2).map vOf)))))))))/\((!(!(okV i2)))=false->((([]:List (List Dat))=AG (Ad s))/\(Value.bool false=Value.bool (okP s)))))))))/\((decide ((x1:Int)<((AE (AA 32 s)).length:Int)))=false->(∃ i3:(List V2),[DA.one (DC.sl 31 [.int,.int] (AG (((AA 32 s).take x1).map vOf)))]=Bv.args i3/\Bv.pre i3/\(((!(AR i3))=true->((([]:List (List Dat))=AG (Ad s))/\(Value.bool false=Value.bool (okP s))))/\((!(AR i3))=false->(((AG (((AA 32 s).take x1).map vOf))=AG (Ad s))/\(Value.bool true=Value.bool (okP s)))))))))) (by kernel_rfl) ?_
 have hwl:=Db 32 s
 have hsl:=AL (AA 32 s)
 -- w1: splitP [DA.one (DC.im (Value.string s)), DA.one (DC.im (Value.string (⟨#[32]⟩ : ByteArray)))]
 refine ⟨(s,32),by
  rfl,by
  show s.size<=1073741824
  first|trivial|exact hpre|exact Nat.le_trans (BD (λ x hx=>Ag hx) k) hpre,?_⟩
 -- i4
 refine ⟨⟨0,by
  exact ⟨Nat.zero_le _,Nat.zero_le _,rfl⟩,?_⟩,?_⟩
 ·-- the beginning
  refine ⟨?_,rfl,rfl,?_⟩
  ·-- b6: Value.int .i64 (((AE (AA 32 s)).length : Nat) : Int) = Value.int .i64 ((AE (AA 32 s)).length : Int)
   show Value.int .i64 (((AE (AA 32 s)).length:Nat):Int)=Value.int .i64 ((AE (AA 32 s)).length:Int)
   rfl
  -- b9: ([] : List (List Dat)) = (AG (((AA 32 s).take 0).map vOf))
  show ([]:List (List Dat))=(AG (((AA 32 s).take 0).map vOf))
  rfl
 intro (k:Nat) hki4
 have hki4:k<=(AA 32 s).length/\k<=16/\((AA 32 s).take k).all okV=true:=hki4
 refine And.symm ⟨λ c10=>?_,λ c10=>?_⟩
 ·-- c10f: (decide ((k : Int) < ((AE (AA 32 s)).length : Int))) = false
  replace c10:(decide ((k:Int)<((AE (AA 32 s)).length:Int)))=false:=c10
  try simp only [nrm] at c10
  have ht:(AA 32 s).take k=AA 32 s:=List.take_of_length_le (by omega)
  have hao:(AA 32 s).all okV=true:=by rw [← ht];exact hki4.2.2
  -- w30: iIsPoly [DA.one (DC.sl 31 [.int, .int] (AG (((AA 32 s).take k).map vOf)))]
  refine ⟨(((AA 32 s).take k).map vOf),by
   rfl,by
   first|trivial|exact hpre|exact Nat.le_trans (BD (λ x hx=>Ag hx) k) hpre,?_⟩
  refine ⟨λ c33=>?_,λ c33=>?_⟩
  ·-- c33t: (!(AR (((AA 32 s).take k).map vOf))) = true
   replace c33:(!(AR (((AA 32 s).take k).map vOf)))=true:=c33
   try simp only [nrm] at c33
   rw [ht] at c33
   have hno:okP s=false:=by rw [D0 hao];exact c33
   refine ⟨?_,?_⟩
   ·-- l34: ([] : List (List Dat)) = AG (Ad s)
    show ([]:List (List Dat))=AG (Ad s)
    first|(rw [Ak hno];rfl)|(rw [hno])|(rw [ht,Ac hyes])|(rw [hyes])
   -- l35: Value.bool false = Value.bool (okP s)
   show Value.bool false=Value.bool (okP s)
   first|(rw [Ak hno];rfl)|(rw [hno])|(rw [ht,Ac hyes])|(rw [hyes])
  -- c33f: (!(AR (((AA 32 s).take k).map vOf))) = false
  replace c33:(!(AR (((AA 32 s).take k).map vOf)))=false:=c33
  try simp only [nrm] at c33
  rw [ht] at c33
  have hyes:okP s=true:=by rw [D0 hao];exact c33
  refine ⟨?_,?_⟩
  ·-- l36: (AG (((AA 32 s).take k).map vOf)) = AG (Ad s)
   show (AG (((AA 32 s).take k).map vOf))=AG (Ad s)
   first|(rw [Ak hno];rfl)|(rw [hno])|(rw [ht,Ac hyes])|(rw [hyes])
  -- l37: Value.bool true = Value.bool (okP s)
  show Value.bool true=Value.bool (okP s)
  first|(rw [Ak hno];rfl)|(rw [hno])|(rw [ht,Ac hyes])|(rw [hyes])
 -- c10t: (decide ((k : Int) < ((AE (AA 32 s)).length : Int))) = true
 replace c10:(decide ((k:Int)<((AE (AA 32 s)).length:Int)))=true:=c10
 try simp only [nrm] at c10
 have hk:k<(AA 32 s).length:=by omega
 refine ao (a:=0<=(k:Int)/\(k:Int)<((AE (AA 32 s)).length:Int)) (by first|rfl|omega|(simp only [AL,AQ,List.length_map,List.length_take,List.length_cons,List.length_nil];omega)|(simp;omega)) λ o11=>?_
 refine ao (a:=k<(AE (AA 32 s)).length) (by first|rfl|omega|(simp only [AL,AQ,List.length_map,List.length_take,List.length_cons,List.length_nil];omega)|(simp;omega)) λ o12=>?_
 -- w13: iParV [DA.one (DC.im (Value.string (((((AE (AA 32 s)).getD k []).getD 0 (.int 0))).s)))]
 refine ⟨((AA 32 s).getD k ⟨#[]⟩),by
  exact congrArg (λ x=>[DA.one (DC.im (Value.string x))]) (E6 hk),by
  show ((AA 32 s).getD k ⟨#[]⟩).size<=1073741824
  first|trivial|exact hpre|exact Nat.le_trans (BD (λ x hx=>Ag hx) k) hpre,?_⟩
 refine And.symm ⟨λ c16=>?_,λ c16=>?_⟩
 ·-- c16f: (!(!(okV ((AA 32 s).getD k ⟨#[]⟩)))) = false
  replace c16:(!(!(okV ((AA 32 s).getD k ⟨#[]⟩))))=false:=c16
  try simp only [nrm] at c16
  have hno:=Il hk c16
  refine ⟨?_,?_⟩
  ·-- l28: ([] : List (List Dat)) = AG (Ad s)
   show ([]:List (List Dat))=AG (Ad s)
   first|(rw [Ak hno];rfl)|(rw [hno])|(rw [ht,Ac hyes])|(rw [hyes])
  -- l29: Value.bool false = Value.bool (okP s)
  show Value.bool false=Value.bool (okP s)
  first|(rw [Ak hno];rfl)|(rw [hno])|(rw [ht,Ac hyes])|(rw [hyes])
 -- c16t: (!(!(okV ((AA 32 s).getD k ⟨#[]⟩)))) = true
 replace c16:(!(!(okV ((AA 32 s).getD k ⟨#[]⟩))))=true:=c16
 try simp only [nrm] at c16
 refine ⟨λ c17=>?_,λ c17=>?_⟩
 ·-- c17t: ((((AG (((AA 32 s).take k).map vOf)).length : Nat) : Int) == (16 : Int)) = true
  replace c17:((((AG (((AA 32 s).take k).map vOf)).length:Nat):Int) == (16:Int))=true:=c17
  try simp only [nrm] at c17
  have hno:=L1 (s:=s) (by rw [AQ,List.length_map,List.length_take] at c17;omega)
  refine ⟨?_,?_⟩
  ·-- l18: ([] : List (List Dat)) = AG (Ad s)
   show ([]:List (List Dat))=AG (Ad s)
   first|(rw [Ak hno];rfl)|(rw [hno])|(rw [ht,Ac hyes])|(rw [hyes])
  -- l19: Value.bool false = Value.bool (okP s)
  show Value.bool false=Value.bool (okP s)
  first|(rw [Ak hno];rfl)|(rw [hno])|(rw [ht,Ac hyes])|(rw [hyes])
 -- c17f: ((((AG (((AA 32 s).take k).map vOf)).length : Nat) : Int) == (16 : Int)) = false
 replace c17:((((AG (((AA 32 s).take k).map vOf)).length:Nat):Int) == (16:Int))=false:=c17
 try simp only [nrm] at c17
 refine ao (a:=(AG (((AA 32 s).take k).map vOf)).length+([[Dat.int ((vOf ((AA 32 s).getD k ⟨#[]⟩)).1),Dat.int ((vOf ((AA 32 s).getD k ⟨#[]⟩)).2)]]:List (List Dat)).length<=2199023255552) (by first|rfl|omega|(simp only [AL,AQ,List.length_map,List.length_take,List.length_cons,List.length_nil];omega)|(simp;omega)) λ o20=>?_
 -- n21
 refine ⟨k+1,by
  exact ⟨by omega,by rw [AQ,List.length_map,List.length_take] at c17;omega,by rw [Ik hk,hki4.2.2,c16];rfl⟩,by
  first|omega|(simp;omega),?_⟩
 refine ⟨rfl,?_,rfl,?_⟩
 ·-- e25: Value.int .i64 (IntKind.i64.wrap ((k : Int) + (1 : Int))) = Value.int .i64 ((k + 1) : Int)
  show Value.int .i64 (IntKind.i64.wrap ((k:Int)+(1:Int)))=Value.int .i64 ((k+1):Int)
  first|exact B8 (AU (by omega) (by omega))|exact E7 hk
 -- e27: ((AG (((AA 32 s).take k).map vOf)) ++ ([[Dat.int ((vOf ((AA 32 s).getD k ⟨#[]⟩)).1), Dat.int ((vOf ((AA 32 s).getD k ⟨#[]⟩)).2)]] : List (List Dat))) = (AG (((AA 32 s).take (k + 1)).map vOf))
 show ((AG (((AA 32 s).take k).map vOf))++([[Dat.int ((vOf ((AA 32 s).getD k ⟨#[]⟩)).1),Dat.int ((vOf ((AA 32 s).getD k ⟨#[]⟩)).2)]]:List (List Dat)))=(AG (((AA 32 s).take (k+1)).map vOf))
 first|exact B8 (AU (by omega) (by omega))|exact E7 hk
end Go.Proofs.YtcpjekkiejhgpaaDoor
