import Derived.Test.YtdgmbbjoifneiaaGreatDoorPyRkS1
import Derived.Test.YtdgmbbjoifneiaaGreatDoorPyPin
namespace Go.Proofs.YtdgmbbjoifneiaaGreatDoor
set_option maxRecDepth 100000
set_option linter.unusedVariables false
set_option linter.unusedSimpArgs false
open Go.RowKit
def DK:Con:={ ι:=ByteArray,pre:=λ i=>i.size<=1073741824,args:=λ i=>[.one (.im (.string i))],res:=λ i=>⟨true,[none,none],[.im (Value.int .i64 ((Aj i).getD 0)),.im (Value.bool ((Aj i).isSome))]⟩ }
theorem UC:DK.Ok Tryz.prog 43:=El rfl ⟨_,Tryz.func43,by decide,rfl⟩ (λ _=>Nat.le_of_ble_eq_true rfl) (λ _=>rfl) (λ s=>[.im (.int .i64 ((Aj s).getD 0)),.im (.bool (Aj s).isSome)]) (λ _=>rfl) (λ _=>rfl) (λ i hp w us hst h=>by
 have h:RdRow w [.str] [.str i] us:=h
 obtain ⟨v,vs,rfl,h1,h2⟩:=RdRow.cons2 h
 obtain ⟨-,rfl⟩:=RdRow.nil_inv h2
 obtain rfl:=Rd.str2 h1
 refine (OF i hp w hst).mono ?_
 rintro e w' ⟨rfl,hb⟩
 exact ⟨[.int .i64 ((Aj i).getD 0),.bool (Aj i).isSome],rfl,Own.append (ts:=[.int]) (ds:=[.int ((Aj i).getD 0)]) (vs:=[.int .i64 ((Aj i).getD 0)]) (Own.leaf (lo:=w.heap.size) (hi:=w.heap.size) (Fp.mk_int _)) (Own.leaf (lo:=w.heap.size) (hi:=w'.heap.size) (Fp.mk_bool _)) (Nat.le_refl _) hb.size,hb⟩)
theorem UD (s:ByteArray) (c:UInt8):(BW s c).size<=s.size/\(Ba s c).size<=s.size:=by
 rcases OE s c with ⟨-,-,h1,h2⟩|⟨-,h,-⟩
 ·rw [h1,h2];exact ⟨Nat.le_refl _,Nat.zero_le _⟩
 ·have:=congrArg ByteArray.size h
  rw [ByteArray.size_append,ByteArray.size_append] at this
  omega
theorem UE {s:ByteArray} : (EY s 44=false->Ip s=none)/\((Aj (BW s 44)).isSome=false->Ip s=none)/\((Aj (Ba s 44)).isSome=false->Ip s=none) /\
  (EY s 44=true->(Aj (BW s 44)).isSome=true->(Aj (Ba s 44)).isSome=true->(AE ((Aj (BW s 44)).getD 0,(Aj (Ba s 44)).getD 0)=true->Ip s=some ((Aj (BW s 44)).getD 0,(Aj (Ba s 44)).getD 0))/\(AE ((Aj (BW s 44)).getD 0,(Aj (Ba s 44)).getD 0)=false->Ip s=none)):=by
 unfold Ip
 cases h1:Aj (BW s 44) <;> cases h2:Aj (Ba s 44) <;> cases EY s 44 <;> simp
def F8:Con:={ ι:=ByteArray,pre:=λ i=>i.size<=1073741824,args:=λ i=>[.one (.im (.string i))],res:=λ i=>⟨true,[some 2,none],[.im (Value.int .i64 ((vOf i).1)),.im (Value.int .i64 ((vOf i).2)),.im (Value.bool (okV i))]⟩ }
theorem UF:F8.Ok Tryz.prog 23:=by
 refine fok (X:=⟨tt,[(42,FZ),(43,DK),(20,B8)],[],48,[]⟩) mixed AP (CTok.cons Vh (CTok.cons UC (CTok.cons Ld (CTok.nil _)))) Tryz.func23 (λ _=>[]) ?_
 intro (s:ByteArray) hpre
 have hpre:s.size<=1073741824:=hpre
 refine AO (q:=∃ i1:ByteArray×UInt8,[DA.one (DC.im (Value.string s)),DA.one (DC.im (Value.string (⟨#[44]⟩:ByteArray)))]=FZ.args i1/\FZ.pre i1/\(∃ i2:ByteArray,[DA.one (DC.im (Value.string (BW i1.1 i1.2)))]=DK.args i2/\DK.pre i2/\(∃ i3:ByteArray,[DA.one (DC.im (Value.string (Ba i1.1 i1.2)))]=DK.args i3/\DK.pre i3/\(((!(!(EY i1.1 i1.2)))=true->(((!(!((Aj i2).isSome)))=true->(((!(!((Aj i3).isSome)))=true->(∃ i4:Int×Int,[DA.agg [cI ((Aj i2).getD 0),cI ((Aj i3).getD 0)]]=B8.args i4/\B8.pre i4/\(((!(AE (i4.1,i4.2)))=true->((Value.int .i64 (0:Int)=Value.int .i64 ((vOf s).1))/\(Value.int .i64 (0:Int)=Value.int .i64 ((vOf s).2))/\(Value.bool false=Value.bool (okV s))))/\((!(AE (i4.1,i4.2)))=false->((Value.int .i64 ((Aj i2).getD 0)=Value.int .i64 ((vOf s).1))/\(Value.int .i64 ((Aj i3).getD 0)=Value.int .i64 ((vOf s).2))/\(Value.bool true=Value.bool (okV s)))))))/\((!(!((Aj i3).isSome)))=false->((Value.int .i64 (0:Int)=Value.int .i64 ((vOf s).1))/\(Value.int .i64 (0:Int)=Value.int .i64 ((vOf s).2))/\(Value.bool false=Value.bool (okV s))))))/\((!(!((Aj i2).isSome)))=false->((Value.int .i64 (0:Int)=Value.int .i64 ((vOf s).1))/\(Value.int .i64 (0:Int)=Value.int .i64 ((vOf s).2))/\(Value.bool false=Value.bool (okV s))))))/\((!(!(EY i1.1 i1.2)))=false->((Value.int .i64 (0:Int)=Value.int .i64 ((vOf s).1))/\(Value.int .i64 (0:Int)=Value.int .i64 ((vOf s).2))/\(Value.bool false=Value.bool (okV s)))))))) (by kernel_rfl) ?_
 have hcs:=UD s 44
 obtain ⟨k1,k2,k3,k4⟩:=@UE s
 -- w1: cutP [DA.one (DC.im (Value.string s)), DA.one (DC.im (Value.string (⟨#[44]⟩ : ByteArray)))]
 refine ⟨(s,44),by
  rfl,by
  show s.size<=1073741824
  first|trivial|exact hpre|(have:=hcs.1;omega)|(have:=hcs.2;omega),?_⟩
 -- w4: iParI [DA.one (DC.im (Value.string (BW s 44)))]
 refine ⟨BW s 44,by
  rfl,by
  show (BW s 44).size<=1073741824
  first|trivial|exact hpre|(have:=hcs.1;omega)|(have:=hcs.2;omega),?_⟩
 -- w7: iParI [DA.one (DC.im (Value.string (Ba s 44)))]
 refine ⟨Ba s 44,by
  rfl,by
  show (Ba s 44).size<=1073741824
  first|trivial|exact hpre|(have:=hcs.1;omega)|(have:=hcs.2;omega),?_⟩
 refine And.symm ⟨λ c10=>?_,λ c10=>?_⟩
 ·-- c10f: (!(!(EY s 44))) = false
  replace c10:(!(!(EY s 44)))=false:=c10
  try simp only [nrm] at c10
  refine ⟨?_,?_,?_⟩
  ·-- l29: Value.int .i64 (0 : Int) = Value.int .i64 ((vOf s).1)
   show Value.int .i64 (0:Int)=Value.int .i64 ((vOf s).1)
   first|(rw [(AG (k1 (by assumption))).2])|(rw [(AG (k1 (by assumption))).1])|(rw [(AG (k2 (by assumption))).2])|(rw [(AG (k2 (by assumption))).1])|(rw [(AG (k3 (by assumption))).2])|(rw [(AG (k3 (by assumption))).1])|(rw [(AG ((k4 (by assumption) (by assumption) (by assumption)).2 (by assumption))).2])|(rw [(AG ((k4 (by assumption) (by assumption) (by assumption)).2 (by assumption))).1])|(rw [(Aa ((k4 (by assumption) (by assumption) (by assumption)).1 (by assumption))).2])|(rw [(Aa ((k4 (by assumption) (by assumption) (by assumption)).1 (by assumption))).1])
  ·-- l30: Value.int .i64 (0 : Int) = Value.int .i64 ((vOf s).2)
   show Value.int .i64 (0:Int)=Value.int .i64 ((vOf s).2)
   first|(rw [(AG (k1 (by assumption))).2])|(rw [(AG (k1 (by assumption))).1])|(rw [(AG (k2 (by assumption))).2])|(rw [(AG (k2 (by assumption))).1])|(rw [(AG (k3 (by assumption))).2])|(rw [(AG (k3 (by assumption))).1])|(rw [(AG ((k4 (by assumption) (by assumption) (by assumption)).2 (by assumption))).2])|(rw [(AG ((k4 (by assumption) (by assumption) (by assumption)).2 (by assumption))).1])|(rw [(Aa ((k4 (by assumption) (by assumption) (by assumption)).1 (by assumption))).2])|(rw [(Aa ((k4 (by assumption) (by assumption) (by assumption)).1 (by assumption))).1])
  -- l31: Value.bool false = Value.bool (okV s)
  show Value.bool false=Value.bool (okV s)
  first|(rw [(AG (k1 (by assumption))).2])|(rw [(AG (k1 (by assumption))).1])|(rw [(AG (k2 (by assumption))).2])|(rw [(AG (k2 (by assumption))).1])|(rw [(AG (k3 (by assumption))).2])|(rw [(AG (k3 (by assumption))).1])|(rw [(AG ((k4 (by assumption) (by assumption) (by assumption)).2 (by assumption))).2])|(rw [(AG ((k4 (by assumption) (by assumption) (by assumption)).2 (by assumption))).1])|(rw [(Aa ((k4 (by assumption) (by assumption) (by assumption)).1 (by assumption))).2])|(rw [(Aa ((k4 (by assumption) (by assumption) (by assumption)).1 (by assumption))).1])
 -- c10t: (!(!(EY s 44))) = true
 replace c10:(!(!(EY s 44)))=true:=c10
 try simp only [nrm] at c10
 refine And.symm ⟨λ c11=>?_,λ c11=>?_⟩
 ·-- c11f: (!(!((Aj (BW s 44)).isSome))) = false
  replace c11:(!(!((Aj (BW s 44)).isSome)))=false:=c11
  try simp only [nrm] at c11
  refine ⟨?_,?_,?_⟩
  ·-- l26: Value.int .i64 (0 : Int) = Value.int .i64 ((vOf s).1)
   show Value.int .i64 (0:Int)=Value.int .i64 ((vOf s).1)
   first|(rw [(AG (k1 (by assumption))).2])|(rw [(AG (k1 (by assumption))).1])|(rw [(AG (k2 (by assumption))).2])|(rw [(AG (k2 (by assumption))).1])|(rw [(AG (k3 (by assumption))).2])|(rw [(AG (k3 (by assumption))).1])|(rw [(AG ((k4 (by assumption) (by assumption) (by assumption)).2 (by assumption))).2])|(rw [(AG ((k4 (by assumption) (by assumption) (by assumption)).2 (by assumption))).1])|(rw [(Aa ((k4 (by assumption) (by assumption) (by assumption)).1 (by assumption))).2])|(rw [(Aa ((k4 (by assumption) (by assumption) (by assumption)).1 (by assumption))).1])
  ·-- l27: Value.int .i64 (0 : Int) = Value.int .i64 ((vOf s).2)
   show Value.int .i64 (0:Int)=Value.int .i64 ((vOf s).2)
   first|(rw [(AG (k1 (by assumption))).2])|(rw [(AG (k1 (by assumption))).1])|(rw [(AG (k2 (by assumption))).2])|(rw [(AG (k2 (by assumption))).1])|(rw [(AG (k3 (by assumption))).2])|(rw [(AG (k3 (by assumption))).1])|(rw [(AG ((k4 (by assumption) (by assumption) (by assumption)).2 (by assumption))).2])|(rw [(AG ((k4 (by assumption) (by assumption) (by assumption)).2 (by assumption))).1])|(rw [(Aa ((k4 (by assumption) (by assumption) (by assumption)).1 (by assumption))).2])|(rw [(Aa ((k4 (by assumption) (by assumption) (by assumption)).1 (by assumption))).1])
  -- l28: Value.bool false = Value.bool (okV s)
  show Value.bool false=Value.bool (okV s)
  first|(rw [(AG (k1 (by assumption))).2])|(rw [(AG (k1 (by assumption))).1])|(rw [(AG (k2 (by assumption))).2])|(rw [(AG (k2 (by assumption))).1])|(rw [(AG (k3 (by assumption))).2])|(rw [(AG (k3 (by assumption))).1])|(rw [(AG ((k4 (by assumption) (by assumption) (by assumption)).2 (by assumption))).2])|(rw [(AG ((k4 (by assumption) (by assumption) (by assumption)).2 (by assumption))).1])|(rw [(Aa ((k4 (by assumption) (by assumption) (by assumption)).1 (by assumption))).2])|(rw [(Aa ((k4 (by assumption) (by assumption) (by assumption)).1 (by assumption))).1])
 -- c11t: (!(!((Aj (BW s 44)).isSome))) = true
 replace c11:(!(!((Aj (BW s 44)).isSome)))=true:=c11
 try simp only [nrm] at c11
 refine And.symm ⟨λ c12=>?_,λ c12=>?_⟩
 ·-- c12f: (!(!((Aj (Ba s 44)).isSome))) = false
  replace c12:(!(!((Aj (Ba s 44)).isSome)))=false:=c12
  try simp only [nrm] at c12
  refine ⟨?_,?_,?_⟩
  ·-- l23: Value.int .i64 (0 : Int) = Value.int .i64 ((vOf s).1)
   show Value.int .i64 (0:Int)=Value.int .i64 ((vOf s).1)
   first|(rw [(AG (k1 (by assumption))).2])|(rw [(AG (k1 (by assumption))).1])|(rw [(AG (k2 (by assumption))).2])|(rw [(AG (k2 (by assumption))).1])|(rw [(AG (k3 (by assumption))).2])|(rw [(AG (k3 (by assumption))).1])|(rw [(AG ((k4 (by assumption) (by assumption) (by assumption)).2 (by assumption))).2])|(rw [(AG ((k4 (by assumption) (by assumption) (by assumption)).2 (by assumption))).1])|(rw [(Aa ((k4 (by assumption) (by assumption) (by assumption)).1 (by assumption))).2])|(rw [(Aa ((k4 (by assumption) (by assumption) (by assumption)).1 (by assumption))).1])
  ·-- l24: Value.int .i64 (0 : Int) = Value.int .i64 ((vOf s).2)
   show Value.int .i64 (0:Int)=Value.int .i64 ((vOf s).2)
   first|(rw [(AG (k1 (by assumption))).2])|(rw [(AG (k1 (by assumption))).1])|(rw [(AG (k2 (by assumption))).2])|(rw [(AG (k2 (by assumption))).1])|(rw [(AG (k3 (by assumption))).2])|(rw [(AG (k3 (by assumption))).1])|(rw [(AG ((k4 (by assumption) (by assumption) (by assumption)).2 (by assumption))).2])|(rw [(AG ((k4 (by assumption) (by assumption) (by assumption)).2 (by assumption))).1])|(rw [(Aa ((k4 (by assumption) (by assumption) (by assumption)).1 (by assumption))).2])|(rw [(Aa ((k4 (by assumption) (by assumption) (by assumption)).1 (by assumption))).1])
  -- l25: Value.bool false = Value.bool (okV s)
  show Value.bool false=Value.bool (okV s)
  first|(rw [(AG (k1 (by assumption))).2])|(rw [(AG (k1 (by assumption))).1])|(rw [(AG (k2 (by assumption))).2])|(rw [(AG (k2 (by assumption))).1])|(rw [(AG (k3 (by assumption))).2])|(rw [(AG (k3 (by assumption))).1])|(rw [(AG ((k4 (by assumption) (by assumption) (by assumption)).2 (by assumption))).2])|(rw [(AG ((k4 (by assumption) (by assumption) (by assumption)).2 (by assumption))).1])|(rw [(Aa ((k4 (by assumption) (by assumption) (by assumption)).1 (by assumption))).2])|(rw [(Aa ((k4 (by assumption) (by assumption) (by assumption)).1 (by assumption))).1])
 -- c12t: (!(!((Aj (Ba s 44)).isSome))) = true
 replace c12:(!(!((Aj (Ba s 44)).isSome)))=true:=c12
 try simp only [nrm] at c12
 -- w13: iIsVec [DA.agg [DC.im (Value.int .i64 ((Aj (BW s 44)).getD 0)), DC.im (Value.int .i64 ((Aj (Ba s 44)).getD 0))]]
 refine ⟨(((Aj (BW s 44)).getD 0),((Aj (Ba s 44)).getD 0)),by
  rfl,by
  first|trivial|exact hpre|(have:=hcs.1;omega)|(have:=hcs.2;omega),?_⟩
 refine ⟨λ c16=>?_,λ c16=>?_⟩
 ·-- c16t: (!(AE (((Aj (BW s 44)).getD 0), ((Aj (Ba s 44)).getD 0)))) = true
  replace c16:(!(AE (((Aj (BW s 44)).getD 0),((Aj (Ba s 44)).getD 0))))=true:=c16
  try simp only [nrm] at c16
  refine ⟨?_,?_,?_⟩
  ·-- l17: Value.int .i64 (0 : Int) = Value.int .i64 ((vOf s).1)
   show Value.int .i64 (0:Int)=Value.int .i64 ((vOf s).1)
   first|(rw [(AG (k1 (by assumption))).2])|(rw [(AG (k1 (by assumption))).1])|(rw [(AG (k2 (by assumption))).2])|(rw [(AG (k2 (by assumption))).1])|(rw [(AG (k3 (by assumption))).2])|(rw [(AG (k3 (by assumption))).1])|(rw [(AG ((k4 (by assumption) (by assumption) (by assumption)).2 (by assumption))).2])|(rw [(AG ((k4 (by assumption) (by assumption) (by assumption)).2 (by assumption))).1])|(rw [(Aa ((k4 (by assumption) (by assumption) (by assumption)).1 (by assumption))).2])|(rw [(Aa ((k4 (by assumption) (by assumption) (by assumption)).1 (by assumption))).1])
  ·-- l18: Value.int .i64 (0 : Int) = Value.int .i64 ((vOf s).2)
   show Value.int .i64 (0:Int)=Value.int .i64 ((vOf s).2)
   first|(rw [(AG (k1 (by assumption))).2])|(rw [(AG (k1 (by assumption))).1])|(rw [(AG (k2 (by assumption))).2])|(rw [(AG (k2 (by assumption))).1])|(rw [(AG (k3 (by assumption))).2])|(rw [(AG (k3 (by assumption))).1])|(rw [(AG ((k4 (by assumption) (by assumption) (by assumption)).2 (by assumption))).2])|(rw [(AG ((k4 (by assumption) (by assumption) (by assumption)).2 (by assumption))).1])|(rw [(Aa ((k4 (by assumption) (by assumption) (by assumption)).1 (by assumption))).2])|(rw [(Aa ((k4 (by assumption) (by assumption) (by assumption)).1 (by assumption))).1])
  -- l19: Value.bool false = Value.bool (okV s)
  show Value.bool false=Value.bool (okV s)
  first|(rw [(AG (k1 (by assumption))).2])|(rw [(AG (k1 (by assumption))).1])|(rw [(AG (k2 (by assumption))).2])|(rw [(AG (k2 (by assumption))).1])|(rw [(AG (k3 (by assumption))).2])|(rw [(AG (k3 (by assumption))).1])|(rw [(AG ((k4 (by assumption) (by assumption) (by assumption)).2 (by assumption))).2])|(rw [(AG ((k4 (by assumption) (by assumption) (by assumption)).2 (by assumption))).1])|(rw [(Aa ((k4 (by assumption) (by assumption) (by assumption)).1 (by assumption))).2])|(rw [(Aa ((k4 (by assumption) (by assumption) (by assumption)).1 (by assumption))).1])
 -- c16f: (!(AE (((Aj (BW s 44)).getD 0), ((Aj (Ba s 44)).getD 0)))) = false
 replace c16:(!(AE (((Aj (BW s 44)).getD 0),((Aj (Ba s 44)).getD 0))))=false:=c16
 try simp only [nrm] at c16
 refine ⟨?_,?_,?_⟩
 ·-- l20: Value.int .i64 ((Aj (BW s 44)).getD 0) = Value.int .i64 ((vOf s).1)
  show Value.int .i64 ((Aj (BW s 44)).getD 0)=Value.int .i64 ((vOf s).1)
  first|(rw [(AG (k1 (by assumption))).2])|(rw [(AG (k1 (by assumption))).1])|(rw [(AG (k2 (by assumption))).2])|(rw [(AG (k2 (by assumption))).1])|(rw [(AG (k3 (by assumption))).2])|(rw [(AG (k3 (by assumption))).1])|(rw [(AG ((k4 (by assumption) (by assumption) (by assumption)).2 (by assumption))).2])|(rw [(AG ((k4 (by assumption) (by assumption) (by assumption)).2 (by assumption))).1])|(rw [(Aa ((k4 (by assumption) (by assumption) (by assumption)).1 (by assumption))).2])|(rw [(Aa ((k4 (by assumption) (by assumption) (by assumption)).1 (by assumption))).1])
 ·-- l21: Value.int .i64 ((Aj (Ba s 44)).getD 0) = Value.int .i64 ((vOf s).2)
  show Value.int .i64 ((Aj (Ba s 44)).getD 0)=Value.int .i64 ((vOf s).2)
  first|(rw [(AG (k1 (by assumption))).2])|(rw [(AG (k1 (by assumption))).1])|(rw [(AG (k2 (by assumption))).2])|(rw [(AG (k2 (by assumption))).1])|(rw [(AG (k3 (by assumption))).2])|(rw [(AG (k3 (by assumption))).1])|(rw [(AG ((k4 (by assumption) (by assumption) (by assumption)).2 (by assumption))).2])|(rw [(AG ((k4 (by assumption) (by assumption) (by assumption)).2 (by assumption))).1])|(rw [(Aa ((k4 (by assumption) (by assumption) (by assumption)).1 (by assumption))).2])|(rw [(Aa ((k4 (by assumption) (by assumption) (by assumption)).1 (by assumption))).1])
 -- l22: Value.bool true = Value.bool (okV s)
 show Value.bool true=Value.bool (okV s)
 first|(rw [(AG (k1 (by assumption))).2])|(rw [(AG (k1 (by assumption))).1])|(rw [(AG (k2 (by assumption))).2])|(rw [(AG (k2 (by assumption))).1])|(rw [(AG (k3 (by assumption))).2])|(rw [(AG (k3 (by assumption))).1])|(rw [(AG ((k4 (by assumption) (by assumption) (by assumption)).2 (by assumption))).2])|(rw [(AG ((k4 (by assumption) (by assumption) (by assumption)).2 (by assumption))).1])|(rw [(Aa ((k4 (by assumption) (by assumption) (by assumption)).1 (by assumption))).2])|(rw [(Aa ((k4 (by assumption) (by assumption) (by assumption)).1 (by assumption))).1])
theorem Qk {ws:List ByteArray} {k:Nat} (hk:k<ws.length):AA ((ws.take k).map vOf)++[[Dat.int (vOf (ws.getD k ⟨#[]⟩)).1,Dat.int (vOf (ws.getD k ⟨#[]⟩)).2]]=AA ((ws.take (k+1)).map vOf):=by
 rw [List.take_succ_eq_append_getElem hk,List.map_append]
 have e:ws.getD k ⟨#[]⟩=ws[k]:=by simp [List.getD,hk]
 rw [e]
 simp [AA,Ih]
theorem UG {ws:List ByteArray} {k:Nat} (hk:k<ws.length):(ws.take (k+1)).all okV=((ws.take k).all okV && okV (ws.getD k ⟨#[]⟩)):=by
 rw [List.take_succ_eq_append_getElem hk,List.all_append]
 simp [List.getD,hk]
theorem UH {s:ByteArray} {k:Nat} (hk:k<(AH 32 s).length) (h:okV ((AH 32 s).getD k ⟨#[]⟩)=false):Bj s=false:=by
 have h2:(AH 32 s).all okV=false:=by
  rw [List.all_eq_false]
  refine ⟨(AH 32 s)[k],List.getElem_mem hk,?_⟩
  have e:(AH 32 s).getD k ⟨#[]⟩=(AH 32 s)[k]:=by simp [List.getD,hk]
  rw [← e,h];simp
 unfold Bj;rw [h2];rfl
theorem UI {s:ByteArray} (h:16<(AH 32 s).length):Bj s=false:=by
 have:AI ((AH 32 s).map vOf)=false:=by
  cases hp:AI ((AH 32 s).map vOf) with
  | false=>rfl
  | true=>have:=(Cu hp).2.1;rw [List.length_map] at this;omega
 unfold Bj;rw [this];simp
theorem OG {s:ByteArray} (h:(AH 32 s).all okV=true):Bj s=AI ((AH 32 s).map vOf):=by unfold Bj;rw [h];rfl
def F9:Con:={ ι:=ByteArray,pre:=λ i=>i.size<=1073741824,args:=λ i=>[.one (.im (.string i))],res:=λ i=>⟨true,[none,none],[.own 26 [.int,.int] (AA (Cy i)),.im (Value.bool (Bj i))]⟩ }
theorem UJ:F9.Ok Tryz.prog 7:=by
 refine fok (X:=⟨tt,[(22,E6),(23,F8),(24,AY)],[],38,[]⟩) mixed AP (CTok.cons R1 (CTok.cons UF (CTok.cons Ca (CTok.nil _)))) Tryz.func7 (λ (i:ByteArray)=>[(3,.mk 3 (Nat) (λ x1=>{ tm:=[(11,.one (.one (.ext 1))),(12,.one (.one (.im (Value.int .i64 ((Ae (AH 32 i)).length:Int))))),(13,.one (.one (.im (Value.int .i64 (x1:Int))))),(4,.one (.one (.ext 2)))],en:=[(1,.own 9 [.str] (Ae (AH 32 i))),(2,.own 26 [.int,.int] (AA (((AH 32 i).take x1).map vOf)))] }) (λ x1=>x1<=(AH 32 i).length/\x1<=16/\((AH 32 i).take x1).all okV=true) (λ x1=>(AH 32 i).length-x1) (λ _=>[]))]) ?_
 intro (s:ByteArray) hpre
 have hpre:s.size<=1073741824:=hpre
 refine AO (q:=∃ i1:ByteArray×UInt8,[DA.one (DC.im (Value.string s)),DA.one (DC.im (Value.string (⟨#[32]⟩:ByteArray)))]=E6.args i1/\E6.pre i1/\((∃ x1:Nat,(x1<=(AH 32 s).length/\x1<=16/\((AH 32 s).take x1).all okV=true)/\((Value.int .i64 (((Ae (AH i1.2 i1.1)).length:Nat):Int)=Value.int .i64 ((Ae (AH 32 s)).length:Int))/\(Value.int .i64 (0:Int)=Value.int .i64 (x1:Int))/\(Ae (AH i1.2 i1.1)=(Ae (AH 32 s)))/\(([]:List (List Dat))=(AA (((AH 32 s).take x1).map vOf)))))/\∀ x1:Nat,(x1<=(AH 32 s).length/\x1<=16/\((AH 32 s).take x1).all okV=true)->(((decide ((x1:Int)<((Ae (AH 32 s)).length:Int)))=true->((0<=(x1:Int)/\(x1:Int)<((Ae (AH 32 s)).length:Int))/\((x1<(Ae (AH 32 s)).length)/\(∃ i2:ByteArray,[DA.one (DC.im (Value.string (((((Ae (AH 32 s)).getD x1 []).getD 0 (.int 0))).s)))]=F8.args i2/\F8.pre i2/\(((!(!(okV i2)))=true->((((((AA (((AH 32 s).take x1).map vOf)).length:Nat):Int) == (16:Int))=true->((([]:List (List Dat))=AA (Cy s))/\(Value.bool false=Value.bool (Bj s))))/\(((((AA (((AH 32 s).take x1).map vOf)).length:Nat):Int) == (16:Int))=false->(((AA (((AH 32 s).take x1).map vOf)).length+([[Dat.int ((vOf i2).1),Dat.int ((vOf i2).2)]]:List (List Dat)).length<=2199023255552)/\(∃ y2:Nat,(y2<=(AH 32 s).length/\y2<=16/\((AH 32 s).take y2).all okV=true)/\((AH 32 s).length-y2<(AH 32 s).length-x1)/\((rf (Value.int .i64 ((Ae (AH 32 s)).length:Int)))/\(Value.int .i64 (IntKind.i64.wrap ((x1:Int)+(1:Int)))=Value.int .i64 (y2:Int))/\(rf (Ae (AH 32 s)))/\(((AA (((AH 32 s).take x1).map vOf))++([[Dat.int ((vOf i2).1),Dat.int ((vOf i2).2)]]:List (List Dat)))=(AA (((AH 32 s).take y2).map vOf)))))))))/\((!(!(okV i2)))=false->((([]:List (List Dat))=AA (Cy s))/\(Value.bool false=Value.bool (Bj s)))))))))/\((decide ((x1:Int)<((Ae (AH 32 s)).length:Int)))=false->(∃ i3:(List V2),[DA.one (DC.sl 26 [.int,.int] (AA (((AH 32 s).take x1).map vOf)))]=AY.args i3/\AY.pre i3/\(((!(AI i3))=true->((([]:List (List Dat))=AA (Cy s))/\(Value.bool false=Value.bool (Bj s))))/\((!(AI i3))=false->(((AA (((AH 32 s).take x1).map vOf))=AA (Cy s))/\(Value.bool true=Value.bool (Bj s)))))))))) (by kernel_rfl) ?_
 have hwl:=KK 32 s
 have hsl:=As (AH 32 s)
 -- w1: splitP [DA.one (DC.im (Value.string s)), DA.one (DC.im (Value.string (⟨#[32]⟩ : ByteArray)))]
 refine ⟨(s,32),by
  rfl,by
  show s.size<=1073741824
  first|trivial|exact hpre|exact Nat.le_trans (MN (λ x hx=>IF hx) k) hpre,?_⟩
 -- i4
 refine ⟨⟨0,by
  exact ⟨Nat.zero_le _,Nat.zero_le _,rfl⟩,?_⟩,?_⟩
 ·-- the beginning
  refine ⟨?_,rfl,rfl,?_⟩
  ·-- b6: Value.int .i64 (((Ae (AH 32 s)).length : Nat) : Int) = Value.int .i64 ((Ae (AH 32 s)).length : Int)
   show Value.int .i64 (((Ae (AH 32 s)).length:Nat):Int)=Value.int .i64 ((Ae (AH 32 s)).length:Int)
   rfl
  -- b9: ([] : List (List Dat)) = (AA (((AH 32 s).take 0).map vOf))
  show ([]:List (List Dat))=(AA (((AH 32 s).take 0).map vOf))
  rfl
 intro (k:Nat) hki4
 have hki4:k<=(AH 32 s).length/\k<=16/\((AH 32 s).take k).all okV=true:=hki4
 refine And.symm ⟨λ c10=>?_,λ c10=>?_⟩
 ·-- c10f: (decide ((k : Int) < ((Ae (AH 32 s)).length : Int))) = false
  replace c10:(decide ((k:Int)<((Ae (AH 32 s)).length:Int)))=false:=c10
  try simp only [nrm] at c10
  have ht:(AH 32 s).take k=AH 32 s:=List.take_of_length_le (by omega)
  have hao:(AH 32 s).all okV=true:=by rw [← ht];exact hki4.2.2
  -- w30: iIsPoly [DA.one (DC.sl 26 [.int, .int] (AA (((AH 32 s).take k).map vOf)))]
  refine ⟨(((AH 32 s).take k).map vOf),by
   rfl,by
   first|trivial|exact hpre|exact Nat.le_trans (MN (λ x hx=>IF hx) k) hpre,?_⟩
  refine ⟨λ c33=>?_,λ c33=>?_⟩
  ·-- c33t: (!(AI (((AH 32 s).take k).map vOf))) = true
   replace c33:(!(AI (((AH 32 s).take k).map vOf)))=true:=c33
   try simp only [nrm] at c33
   rw [ht] at c33
   have hno:Bj s=false:=by rw [OG hao];exact c33
   refine ⟨?_,?_⟩
   ·-- l34: ([] : List (List Dat)) = AA (Cy s)
    show ([]:List (List Dat))=AA (Cy s)
    first|(rw [D4 hno];rfl)|(rw [hno])|(rw [ht,CP hyes])|(rw [hyes])
   -- l35: Value.bool false = Value.bool (Bj s)
   show Value.bool false=Value.bool (Bj s)
   first|(rw [D4 hno];rfl)|(rw [hno])|(rw [ht,CP hyes])|(rw [hyes])
  -- c33f: (!(AI (((AH 32 s).take k).map vOf))) = false
  replace c33:(!(AI (((AH 32 s).take k).map vOf)))=false:=c33
  try simp only [nrm] at c33
  rw [ht] at c33
  have hyes:Bj s=true:=by rw [OG hao];exact c33
  refine ⟨?_,?_⟩
  ·-- l36: (AA (((AH 32 s).take k).map vOf)) = AA (Cy s)
   show (AA (((AH 32 s).take k).map vOf))=AA (Cy s)
   first|(rw [D4 hno];rfl)|(rw [hno])|(rw [ht,CP hyes])|(rw [hyes])
  -- l37: Value.bool true = Value.bool (Bj s)
  show Value.bool true=Value.bool (Bj s)
  first|(rw [D4 hno];rfl)|(rw [hno])|(rw [ht,CP hyes])|(rw [hyes])
 -- c10t: (decide ((k : Int) < ((Ae (AH 32 s)).length : Int))) = true
 replace c10:(decide ((k:Int)<((Ae (AH 32 s)).length:Int)))=true:=c10
 try simp only [nrm] at c10
 have hk:k<(AH 32 s).length:=by omega
 refine ao (a:=0<=(k:Int)/\(k:Int)<((Ae (AH 32 s)).length:Int)) (by first|rfl|omega|(simp only [As,AB,List.length_map,List.length_take,List.length_cons,List.length_nil];omega)|(simp;omega)) λ o11=>?_
 refine ao (a:=k<(Ae (AH 32 s)).length) (by first|rfl|omega|(simp only [As,AB,List.length_map,List.length_take,List.length_cons,List.length_nil];omega)|(simp;omega)) λ o12=>?_
 -- w13: iParV [DA.one (DC.im (Value.string (((((Ae (AH 32 s)).getD k []).getD 0 (.int 0))).s)))]
 refine ⟨((AH 32 s).getD k ⟨#[]⟩),by
  exact congrArg (λ x=>[DA.one (DC.im (Value.string x))]) (Vf hk),by
  show ((AH 32 s).getD k ⟨#[]⟩).size<=1073741824
  first|trivial|exact hpre|exact Nat.le_trans (MN (λ x hx=>IF hx) k) hpre,?_⟩
 refine And.symm ⟨λ c16=>?_,λ c16=>?_⟩
 ·-- c16f: (!(!(okV ((AH 32 s).getD k ⟨#[]⟩)))) = false
  replace c16:(!(!(okV ((AH 32 s).getD k ⟨#[]⟩))))=false:=c16
  try simp only [nrm] at c16
  have hno:=UH hk c16
  refine ⟨?_,?_⟩
  ·-- l28: ([] : List (List Dat)) = AA (Cy s)
   show ([]:List (List Dat))=AA (Cy s)
   first|(rw [D4 hno];rfl)|(rw [hno])|(rw [ht,CP hyes])|(rw [hyes])
  -- l29: Value.bool false = Value.bool (Bj s)
  show Value.bool false=Value.bool (Bj s)
  first|(rw [D4 hno];rfl)|(rw [hno])|(rw [ht,CP hyes])|(rw [hyes])
 -- c16t: (!(!(okV ((AH 32 s).getD k ⟨#[]⟩)))) = true
 replace c16:(!(!(okV ((AH 32 s).getD k ⟨#[]⟩))))=true:=c16
 try simp only [nrm] at c16
 refine ⟨λ c17=>?_,λ c17=>?_⟩
 ·-- c17t: ((((AA (((AH 32 s).take k).map vOf)).length : Nat) : Int) == (16 : Int)) = true
  replace c17:((((AA (((AH 32 s).take k).map vOf)).length:Nat):Int) == (16:Int))=true:=c17
  try simp only [nrm] at c17
  have hno:=UI (s:=s) (by rw [AB,List.length_map,List.length_take] at c17;omega)
  refine ⟨?_,?_⟩
  ·-- l18: ([] : List (List Dat)) = AA (Cy s)
   show ([]:List (List Dat))=AA (Cy s)
   first|(rw [D4 hno];rfl)|(rw [hno])|(rw [ht,CP hyes])|(rw [hyes])
  -- l19: Value.bool false = Value.bool (Bj s)
  show Value.bool false=Value.bool (Bj s)
  first|(rw [D4 hno];rfl)|(rw [hno])|(rw [ht,CP hyes])|(rw [hyes])
 -- c17f: ((((AA (((AH 32 s).take k).map vOf)).length : Nat) : Int) == (16 : Int)) = false
 replace c17:((((AA (((AH 32 s).take k).map vOf)).length:Nat):Int) == (16:Int))=false:=c17
 try simp only [nrm] at c17
 refine ao (a:=(AA (((AH 32 s).take k).map vOf)).length+([[Dat.int ((vOf ((AH 32 s).getD k ⟨#[]⟩)).1),Dat.int ((vOf ((AH 32 s).getD k ⟨#[]⟩)).2)]]:List (List Dat)).length<=2199023255552) (by first|rfl|omega|(simp only [As,AB,List.length_map,List.length_take,List.length_cons,List.length_nil];omega)|(simp;omega)) λ o20=>?_
 -- n21
 refine ⟨k+1,by
  exact ⟨by omega,by rw [AB,List.length_map,List.length_take] at c17;omega,by rw [UG hk,hki4.2.2,c16];rfl⟩,by
  first|omega|(simp;omega),?_⟩
 refine ⟨rfl,?_,rfl,?_⟩
 ·-- e25: Value.int .i64 (IntKind.i64.wrap ((k : Int) + (1 : Int))) = Value.int .i64 ((k + 1) : Int)
  show Value.int .i64 (IntKind.i64.wrap ((k:Int)+(1:Int)))=Value.int .i64 ((k+1):Int)
  first|exact AQ (AF (by omega) (by omega))|exact Qk hk
 -- e27: ((AA (((AH 32 s).take k).map vOf)) ++ ([[Dat.int ((vOf ((AH 32 s).getD k ⟨#[]⟩)).1), Dat.int ((vOf ((AH 32 s).getD k ⟨#[]⟩)).2)]] : List (List Dat))) = (AA (((AH 32 s).take (k + 1)).map vOf))
 show ((AA (((AH 32 s).take k).map vOf))++([[Dat.int ((vOf ((AH 32 s).getD k ⟨#[]⟩)).1),Dat.int ((vOf ((AH 32 s).getD k ⟨#[]⟩)).2)]]:List (List Dat)))=(AA (((AH 32 s).take (k+1)).map vOf))
 first|exact AQ (AF (by omega) (by omega))|exact Qk hk
end Go.Proofs.YtdgmbbjoifneiaaGreatDoor
