import Derived.Test.YtmekciknfocmmaaGreatDoorScRkS1
import Derived.Test.YtmekciknfocmmaaGreatDoorScPin
namespace Go.Proofs.YtmekciknfocmmaaGreatDoor
set_option maxRecDepth 100000
set_option linter.unusedVariables false
set_option linter.unusedSimpArgs false
open Go.RowKit
def Cg:Con:={ ι:=ByteArray,pre:=λ i=>i.size<=1073741824,args:=λ i=>[.one (.im (.string i))],res:=λ i=>⟨true,[none,none],[rcI ((BH i).getD 0),rcB ((BH i).isSome)]⟩ }
theorem RJ:Cg.Ok Tryz.prog 54:=Cv rfl ⟨_,Tryz.func54,by decide,rfl⟩ (λ _=>Nat.le_of_ble_eq_true rfl) (λ _=>rfl) (λ s=>[.im (.int .i64 ((BH s).getD 0)),.im (.bool (BH s).isSome)]) (λ _=>rfl) (λ _=>rfl) (λ i hp w us hst h=>by
 have h:RdRow w [.str] [.str i] us:=h
 obtain ⟨v,vs,rfl,h1,h2⟩:=RdRow.cons2 h
 obtain ⟨-,rfl⟩:=RdRow.nil_inv h2
 obtain rfl:=Rd.str2 h1
 refine (MU i hp w hst).mono ?_
 rintro e w' ⟨rfl,hb⟩
 exact ⟨[.int .i64 ((BH i).getD 0),.bool (BH i).isSome],rfl,Own.append (ts:=[.int]) (ds:=[.int ((BH i).getD 0)]) (vs:=[.int .i64 ((BH i).getD 0)]) (Own.leaf (lo:=w.heap.size) (hi:=w.heap.size) (Fp.mk_int _)) (Own.leaf (lo:=w.heap.size) (hi:=w'.heap.size) (Fp.mk_bool _)) (Nat.le_refl _) hb.size,hb⟩)
def Dy:Con:={ ι:=Int×Int,pre:=λ i=>True,args:=λ i=>[DA.agg [cI i.1,cI i.2]],res:=λ i=>⟨false,[none],[rcB (AH (i.1,i.2))]⟩ }
theorem Pd:Dy.Ok Tryz.prog 55:=BX rfl ⟨_,Tryz.func55,by decide,rfl⟩ (λ _=>Nat.le_of_ble_eq_true rfl) (λ _=>rfl) (λ i=>[.im (.bool (AH (i.1,i.2)))]) (λ _=>rfl) (λ _=>rfl) (λ i hp w us h=>by
 obtain ⟨x,y⟩:=i
 have h:RdRow w [.int,.int] [.int x,.int y] us:=h
 obtain ⟨a,_,rfl,q1,h⟩:=RdRow.cons2 h
 obtain ⟨b,_,rfl,q2,h⟩:=RdRow.cons2 h
 obtain ⟨-,rfl⟩:=RdRow.nil_inv h
 obtain rfl:=Rd.int2 q1
 obtain rfl:=Rd.int2 q2
 refine (OT x y w).mono ?_
 rintro e w' ⟨rfl,hb⟩
 exact ⟨[Value.bool (AH (x,y))],rfl,Own.leaf (Fp.mk_bool _),hb⟩)
theorem I9 (s:ByteArray) (c:UInt8):(Aq s c).size<=s.size/\(Ag s c).size<=s.size:=by
 rcases MT s c with ⟨-,-,h1,h2⟩|⟨-,h,-⟩
 ·rw [h1,h2];exact ⟨Nat.le_refl _,Nat.zero_le _⟩
 ·have:=congrArg ByteArray.size h
  rw [ByteArray.size_append,ByteArray.size_append] at this
  omega
theorem RK {s:ByteArray} : (FQ s 44=false->He s=none)/\((BH (Aq s 44)).isSome=false->He s=none)/\((BH (Ag s 44)).isSome=false->He s=none) /\
  (FQ s 44=true->(BH (Aq s 44)).isSome=true->(BH (Ag s 44)).isSome=true->(AH ((BH (Aq s 44)).getD 0,(BH (Ag s 44)).getD 0)=true->He s=some ((BH (Aq s 44)).getD 0,(BH (Ag s 44)).getD 0))/\(AH ((BH (Aq s 44)).getD 0,(BH (Ag s 44)).getD 0)=false->He s=none)):=by
 unfold He
 cases h1:BH (Aq s 44) <;> cases h2:BH (Ag s 44) <;> cases FQ s 44 <;> simp
def BI:Con:={ ι:=ByteArray,pre:=λ i=>i.size<=1073741824,args:=λ i=>[.one (.im (.string i))],res:=λ i=>⟨true,[some 2,none],[rcI ((vOf i).1),rcI ((vOf i).2),rcB (okV i)]⟩ }
theorem MV:BI.Ok Tryz.prog 33:=by
 refine fok (X:=⟨tt,[(32,Bj),(54,Cg),(55,Dy)],[],48,[]⟩) mixed BC (CTok.cons Ob (CTok.cons RJ (CTok.cons Pd (CTok.nil _)))) Tryz.func33 (λ _=>[]) ?_
 intro (s:ByteArray) hpre
 have hpre:s.size<=1073741824:=hpre
 refine BB (q:=let Z1:=(vI (0:Int)=vI ((vOf s).1))/\(vI (0:Int)=vI ((vOf s).2))/\(vB false=vB (okV s));∃ i1:ByteArray×UInt8,[DA.one (DC.im (Value.string s)),DA.one (DC.im (Value.string (⟨#[44]⟩:ByteArray)))]=Bj.args i1/\Bj.pre i1/\(∃ i2:ByteArray,[DA.one (DC.im (Value.string (Aq i1.1 i1.2)))]=Cg.args i2/\Cg.pre i2/\(∃ i3:ByteArray,[DA.one (DC.im (Value.string (Ag i1.1 i1.2)))]=Cg.args i3/\Cg.pre i3/\(ifB ((!(!(FQ i1.1 i1.2)))) (ifB ((!(!((BH i2).isSome)))) (ifB ((!(!((BH i3).isSome)))) (∃ i4:Int×Int,[DA.agg [cI ((BH i2).getD 0),cI ((BH i3).getD 0)]]=Dy.args i4/\Dy.pre i4/\(ifB ((!(AH (i4.1,i4.2)))) Z1 ((vI ((BH i2).getD 0)=vI ((vOf s).1))/\(vI ((BH i3).getD 0)=vI ((vOf s).2))/\(vB true=vB (okV s))))) Z1) Z1) Z1)))) (by kernel_rfl) ?_
 conv=>zeta
 delta ifB vB vI
 have hcs:=I9 s 44
 obtain ⟨k1,k2,k3,k4⟩:=@RK s
 refine ⟨(s,44),by
  rfl,by
  show s.size<=1073741824
  first|trivial|exact hpre|(have:=hcs.1;omega)|(have:=hcs.2;omega),?_⟩
 refine ⟨Aq s 44,by
  rfl,by
  show (Aq s 44).size<=1073741824
  first|trivial|exact hpre|(have:=hcs.1;omega)|(have:=hcs.2;omega),?_⟩
 refine ⟨Ag s 44,by
  rfl,by
  show (Ag s 44).size<=1073741824
  first|trivial|exact hpre|(have:=hcs.1;omega)|(have:=hcs.2;omega),?_⟩
 refine And.symm ⟨λ c10=>?_,λ c10=>?_⟩
 ·try simp only [nrm] at c10
  refine ⟨?_,?_,?_⟩
  ·first|(rw [(AD (k1 (by assumption))).2])|(rw [(AD (k1 (by assumption))).1])|(rw [(AD (k2 (by assumption))).2])|(rw [(AD (k2 (by assumption))).1])|(rw [(AD (k3 (by assumption))).2])|(rw [(AD (k3 (by assumption))).1])|(rw [(AD ((k4 (by assumption) (by assumption) (by assumption)).2 (by assumption))).2])|(rw [(AD ((k4 (by assumption) (by assumption) (by assumption)).2 (by assumption))).1])|(rw [(Aa ((k4 (by assumption) (by assumption) (by assumption)).1 (by assumption))).2])|(rw [(Aa ((k4 (by assumption) (by assumption) (by assumption)).1 (by assumption))).1])
  ·first|(rw [(AD (k1 (by assumption))).2])|(rw [(AD (k1 (by assumption))).1])|(rw [(AD (k2 (by assumption))).2])|(rw [(AD (k2 (by assumption))).1])|(rw [(AD (k3 (by assumption))).2])|(rw [(AD (k3 (by assumption))).1])|(rw [(AD ((k4 (by assumption) (by assumption) (by assumption)).2 (by assumption))).2])|(rw [(AD ((k4 (by assumption) (by assumption) (by assumption)).2 (by assumption))).1])|(rw [(Aa ((k4 (by assumption) (by assumption) (by assumption)).1 (by assumption))).2])|(rw [(Aa ((k4 (by assumption) (by assumption) (by assumption)).1 (by assumption))).1])
  first|(rw [(AD (k1 (by assumption))).2])|(rw [(AD (k1 (by assumption))).1])|(rw [(AD (k2 (by assumption))).2])|(rw [(AD (k2 (by assumption))).1])|(rw [(AD (k3 (by assumption))).2])|(rw [(AD (k3 (by assumption))).1])|(rw [(AD ((k4 (by assumption) (by assumption) (by assumption)).2 (by assumption))).2])|(rw [(AD ((k4 (by assumption) (by assumption) (by assumption)).2 (by assumption))).1])|(rw [(Aa ((k4 (by assumption) (by assumption) (by assumption)).1 (by assumption))).2])|(rw [(Aa ((k4 (by assumption) (by assumption) (by assumption)).1 (by assumption))).1])
 try simp only [nrm] at c10
 refine And.symm ⟨λ c11=>?_,λ c11=>?_⟩
 ·try simp only [nrm] at c11
  refine ⟨?_,?_,?_⟩
  ·first|(rw [(AD (k1 (by assumption))).2])|(rw [(AD (k1 (by assumption))).1])|(rw [(AD (k2 (by assumption))).2])|(rw [(AD (k2 (by assumption))).1])|(rw [(AD (k3 (by assumption))).2])|(rw [(AD (k3 (by assumption))).1])|(rw [(AD ((k4 (by assumption) (by assumption) (by assumption)).2 (by assumption))).2])|(rw [(AD ((k4 (by assumption) (by assumption) (by assumption)).2 (by assumption))).1])|(rw [(Aa ((k4 (by assumption) (by assumption) (by assumption)).1 (by assumption))).2])|(rw [(Aa ((k4 (by assumption) (by assumption) (by assumption)).1 (by assumption))).1])
  ·first|(rw [(AD (k1 (by assumption))).2])|(rw [(AD (k1 (by assumption))).1])|(rw [(AD (k2 (by assumption))).2])|(rw [(AD (k2 (by assumption))).1])|(rw [(AD (k3 (by assumption))).2])|(rw [(AD (k3 (by assumption))).1])|(rw [(AD ((k4 (by assumption) (by assumption) (by assumption)).2 (by assumption))).2])|(rw [(AD ((k4 (by assumption) (by assumption) (by assumption)).2 (by assumption))).1])|(rw [(Aa ((k4 (by assumption) (by assumption) (by assumption)).1 (by assumption))).2])|(rw [(Aa ((k4 (by assumption) (by assumption) (by assumption)).1 (by assumption))).1])
  first|(rw [(AD (k1 (by assumption))).2])|(rw [(AD (k1 (by assumption))).1])|(rw [(AD (k2 (by assumption))).2])|(rw [(AD (k2 (by assumption))).1])|(rw [(AD (k3 (by assumption))).2])|(rw [(AD (k3 (by assumption))).1])|(rw [(AD ((k4 (by assumption) (by assumption) (by assumption)).2 (by assumption))).2])|(rw [(AD ((k4 (by assumption) (by assumption) (by assumption)).2 (by assumption))).1])|(rw [(Aa ((k4 (by assumption) (by assumption) (by assumption)).1 (by assumption))).2])|(rw [(Aa ((k4 (by assumption) (by assumption) (by assumption)).1 (by assumption))).1])
 try simp only [nrm] at c11
 refine And.symm ⟨λ c12=>?_,λ c12=>?_⟩
 ·try simp only [nrm] at c12
  refine ⟨?_,?_,?_⟩
  ·first|(rw [(AD (k1 (by assumption))).2])|(rw [(AD (k1 (by assumption))).1])|(rw [(AD (k2 (by assumption))).2])|(rw [(AD (k2 (by assumption))).1])|(rw [(AD (k3 (by assumption))).2])|(rw [(AD (k3 (by assumption))).1])|(rw [(AD ((k4 (by assumption) (by assumption) (by assumption)).2 (by assumption))).2])|(rw [(AD ((k4 (by assumption) (by assumption) (by assumption)).2 (by assumption))).1])|(rw [(Aa ((k4 (by assumption) (by assumption) (by assumption)).1 (by assumption))).2])|(rw [(Aa ((k4 (by assumption) (by assumption) (by assumption)).1 (by assumption))).1])
  ·first|(rw [(AD (k1 (by assumption))).2])|(rw [(AD (k1 (by assumption))).1])|(rw [(AD (k2 (by assumption))).2])|(rw [(AD (k2 (by assumption))).1])|(rw [(AD (k3 (by assumption))).2])|(rw [(AD (k3 (by assumption))).1])|(rw [(AD ((k4 (by assumption) (by assumption) (by assumption)).2 (by assumption))).2])|(rw [(AD ((k4 (by assumption) (by assumption) (by assumption)).2 (by assumption))).1])|(rw [(Aa ((k4 (by assumption) (by assumption) (by assumption)).1 (by assumption))).2])|(rw [(Aa ((k4 (by assumption) (by assumption) (by assumption)).1 (by assumption))).1])
  first|(rw [(AD (k1 (by assumption))).2])|(rw [(AD (k1 (by assumption))).1])|(rw [(AD (k2 (by assumption))).2])|(rw [(AD (k2 (by assumption))).1])|(rw [(AD (k3 (by assumption))).2])|(rw [(AD (k3 (by assumption))).1])|(rw [(AD ((k4 (by assumption) (by assumption) (by assumption)).2 (by assumption))).2])|(rw [(AD ((k4 (by assumption) (by assumption) (by assumption)).2 (by assumption))).1])|(rw [(Aa ((k4 (by assumption) (by assumption) (by assumption)).1 (by assumption))).2])|(rw [(Aa ((k4 (by assumption) (by assumption) (by assumption)).1 (by assumption))).1])
 try simp only [nrm] at c12
 refine ⟨(((BH (Aq s 44)).getD 0),((BH (Ag s 44)).getD 0)),by
  rfl,by
  first|trivial|exact hpre|(have:=hcs.1;omega)|(have:=hcs.2;omega),?_⟩
 refine ⟨λ c16=>?_,λ c16=>?_⟩
 ·try simp only [nrm] at c16
  refine ⟨?_,?_,?_⟩
  ·first|(rw [(AD (k1 (by assumption))).2])|(rw [(AD (k1 (by assumption))).1])|(rw [(AD (k2 (by assumption))).2])|(rw [(AD (k2 (by assumption))).1])|(rw [(AD (k3 (by assumption))).2])|(rw [(AD (k3 (by assumption))).1])|(rw [(AD ((k4 (by assumption) (by assumption) (by assumption)).2 (by assumption))).2])|(rw [(AD ((k4 (by assumption) (by assumption) (by assumption)).2 (by assumption))).1])|(rw [(Aa ((k4 (by assumption) (by assumption) (by assumption)).1 (by assumption))).2])|(rw [(Aa ((k4 (by assumption) (by assumption) (by assumption)).1 (by assumption))).1])
  ·first|(rw [(AD (k1 (by assumption))).2])|(rw [(AD (k1 (by assumption))).1])|(rw [(AD (k2 (by assumption))).2])|(rw [(AD (k2 (by assumption))).1])|(rw [(AD (k3 (by assumption))).2])|(rw [(AD (k3 (by assumption))).1])|(rw [(AD ((k4 (by assumption) (by assumption) (by assumption)).2 (by assumption))).2])|(rw [(AD ((k4 (by assumption) (by assumption) (by assumption)).2 (by assumption))).1])|(rw [(Aa ((k4 (by assumption) (by assumption) (by assumption)).1 (by assumption))).2])|(rw [(Aa ((k4 (by assumption) (by assumption) (by assumption)).1 (by assumption))).1])
  first|(rw [(AD (k1 (by assumption))).2])|(rw [(AD (k1 (by assumption))).1])|(rw [(AD (k2 (by assumption))).2])|(rw [(AD (k2 (by assumption))).1])|(rw [(AD (k3 (by assumption))).2])|(rw [(AD (k3 (by assumption))).1])|(rw [(AD ((k4 (by assumption) (by assumption) (by assumption)).2 (by assumption))).2])|(rw [(AD ((k4 (by assumption) (by assumption) (by assumption)).2 (by assumption))).1])|(rw [(Aa ((k4 (by assumption) (by assumption) (by assumption)).1 (by assumption))).2])|(rw [(Aa ((k4 (by assumption) (by assumption) (by assumption)).1 (by assumption))).1])
 try simp only [nrm] at c16
 refine ⟨?_,?_,?_⟩
 ·first|(rw [(AD (k1 (by assumption))).2])|(rw [(AD (k1 (by assumption))).1])|(rw [(AD (k2 (by assumption))).2])|(rw [(AD (k2 (by assumption))).1])|(rw [(AD (k3 (by assumption))).2])|(rw [(AD (k3 (by assumption))).1])|(rw [(AD ((k4 (by assumption) (by assumption) (by assumption)).2 (by assumption))).2])|(rw [(AD ((k4 (by assumption) (by assumption) (by assumption)).2 (by assumption))).1])|(rw [(Aa ((k4 (by assumption) (by assumption) (by assumption)).1 (by assumption))).2])|(rw [(Aa ((k4 (by assumption) (by assumption) (by assumption)).1 (by assumption))).1])
 ·first|(rw [(AD (k1 (by assumption))).2])|(rw [(AD (k1 (by assumption))).1])|(rw [(AD (k2 (by assumption))).2])|(rw [(AD (k2 (by assumption))).1])|(rw [(AD (k3 (by assumption))).2])|(rw [(AD (k3 (by assumption))).1])|(rw [(AD ((k4 (by assumption) (by assumption) (by assumption)).2 (by assumption))).2])|(rw [(AD ((k4 (by assumption) (by assumption) (by assumption)).2 (by assumption))).1])|(rw [(Aa ((k4 (by assumption) (by assumption) (by assumption)).1 (by assumption))).2])|(rw [(Aa ((k4 (by assumption) (by assumption) (by assumption)).1 (by assumption))).1])
 first|(rw [(AD (k1 (by assumption))).2])|(rw [(AD (k1 (by assumption))).1])|(rw [(AD (k2 (by assumption))).2])|(rw [(AD (k2 (by assumption))).1])|(rw [(AD (k3 (by assumption))).2])|(rw [(AD (k3 (by assumption))).1])|(rw [(AD ((k4 (by assumption) (by assumption) (by assumption)).2 (by assumption))).2])|(rw [(AD ((k4 (by assumption) (by assumption) (by assumption)).2 (by assumption))).1])|(rw [(Aa ((k4 (by assumption) (by assumption) (by assumption)).1 (by assumption))).2])|(rw [(Aa ((k4 (by assumption) (by assumption) (by assumption)).1 (by assumption))).1])
theorem Oc {ws:List ByteArray} {k:Nat} (hk:k<ws.length):AA ((ws.take k).map vOf)++[[Dat.int (vOf (ws.getD k ⟨#[]⟩)).1,Dat.int (vOf (ws.getD k ⟨#[]⟩)).2]]=AA ((ws.take (k+1)).map vOf):=by
 rw [List.take_succ_eq_append_getElem hk,List.map_append]
 have e:ws.getD k ⟨#[]⟩=ws[k]:=by simp [List.getD,hk]
 rw [e]
 simp [AA,HY]
theorem RL {ws:List ByteArray} {k:Nat} (hk:k<ws.length):(ws.take (k+1)).all okV=((ws.take k).all okV && okV (ws.getD k ⟨#[]⟩)):=by
 rw [List.take_succ_eq_append_getElem hk,List.all_append]
 simp [List.getD,hk]
theorem RM {s:ByteArray} {k:Nat} (hk:k<(AI 32 s).length) (h:okV ((AI 32 s).getD k ⟨#[]⟩)=false):okP s=false:=by
 have h2:(AI 32 s).all okV=false:=by
  rw [List.all_eq_false]
  refine ⟨(AI 32 s)[k],List.getElem_mem hk,?_⟩
  have e:(AI 32 s).getD k ⟨#[]⟩=(AI 32 s)[k]:=by simp [List.getD,hk]
  rw [← e,h];simp
 unfold okP;rw [h2];rfl
theorem RN {s:ByteArray} (h:16<(AI 32 s).length):okP s=false:=by
 have:AX ((AI 32 s).map vOf)=false:=by
  cases hp:AX ((AI 32 s).map vOf) with
  | false=>rfl
  | true=>have:=(CQ hp).2.1;rw [List.length_map] at this;omega
 unfold okP;rw [this];simp
theorem MW {s:ByteArray} (h:(AI 32 s).all okV=true):okP s=AX ((AI 32 s).map vOf):=by unfold okP;rw [h];rfl
def Ch:Con:={ ι:=ByteArray,pre:=λ i=>i.size<=1073741824,args:=λ i=>[.one (.im (.string i))],res:=λ i=>⟨true,[none,none],[.own 24 [.int,.int] (AA (Ey i)),rcB (okP i)]⟩ }
theorem RP:Ch.Ok Tryz.prog 34:=by
 refine fok (X:=⟨tt,[(31,Bo),(33,BI),(56,DI)],[],38,[]⟩) mixed BC (CTok.cons KK (CTok.cons MV (CTok.cons Np (CTok.nil _)))) Tryz.func34 (λ (i:ByteArray)=>let Z1:=AI 32 i;[(3,.mk 3 (Nat) (λ x1=>{ tm:=[(11,tX 1),(12,tI ((AZ Z1).length:Int)),(13,tI (x1:Int)),(4,tX 2)],en:=[(1,.own 9 [.str] (AZ Z1)),(2,.own 24 [.int,.int] (AA ((Z1.take x1).map vOf)))] }) (λ x1=>x1<=Z1.length/\x1<=16/\(Z1.take x1).all okV=true) (λ x1=>Z1.length-x1) (λ _=>[]))]) ?_
 intro (s:ByteArray) hpre
 have hpre:s.size<=1073741824:=hpre
 refine BB (q:=let Z2:=(([]:List (List Dat))=AA (Ey s))/\(vB false=vB (okP s));let Z1:=AI 32 s;let Z5:=AZ Z1;let Z4:=(Z5.length:Int);∃ i1:ByteArray×UInt8,[DA.one (DC.im (Value.string s)),DA.one (DC.im (Value.string (⟨#[32]⟩:ByteArray)))]=Bo.args i1/\Bo.pre i1/\((∃ x1:Nat,(x1<=Z1.length/\x1<=16/\(Z1.take x1).all okV=true)/\((vI (nI ((AZ (AI i1.2 i1.1)).length))=vI Z4)/\(vI (0:Int)=vI (x1:Int))/\(AZ (AI i1.2 i1.1)=Z5)/\(([]:List (List Dat))=(AA ((Z1.take x1).map vOf)))))/\∀ x1:Nat,let Z3:=AA ((Z1.take x1).map vOf);(x1<=Z1.length/\x1<=16/\(Z1.take x1).all okV=true)->(ifB ((decide ((x1:Int)<Z4))) ((0<=(x1:Int)/\(x1:Int)<Z4)/\((x1<Z5.length)/\(∃ i2:ByteArray,[DA.one (DC.im (Value.string ((((Z5.getD x1 []).getD 0 (.int 0))).s)))]=BI.args i2/\BI.pre i2/\(ifB ((!(!(okV i2)))) (ifB (((nI (Z3.length)) == (16:Int))) Z2 ((Z3.length+([[Dat.int ((vOf i2).1),Dat.int ((vOf i2).2)]]:List (List Dat)).length<=2199023255552)/\(∃ y2:Nat,(y2<=Z1.length/\y2<=16/\(Z1.take y2).all okV=true)/\(Z1.length-y2<Z1.length-x1)/\((rf (vI Z4))/\(vI (wR ((x1:Int)+(1:Int)))=vI (y2:Int))/\(rf Z5)/\((Z3++([[Dat.int ((vOf i2).1),Dat.int ((vOf i2).2)]]:List (List Dat)))=(AA ((Z1.take y2).map vOf))))))) Z2)))) (∃ i3:(List V2),[DA.one (DC.sl 24 [.int,.int] Z3)]=DI.args i3/\DI.pre i3/\(ifB ((!(AX i3))) Z2 ((Z3=AA (Ey s))/\(vB true=vB (okP s)))))))) (by kernel_rfl) ?_
 conv=>zeta
 delta ifB vB vI wR nI
 have hwl:=Dx 32 s
 have hsl:=Ah (AI 32 s)
 refine ⟨(s,32),by
  rfl,by
  show s.size<=1073741824
  first|trivial|exact hpre|exact Nat.le_trans (Ht (λ x hx=>Dj hx) k) hpre,?_⟩
 refine ⟨⟨0,by
  exact ⟨Nat.zero_le _,Nat.zero_le _,rfl⟩,?_⟩,?_⟩
 ·refine ⟨?_,rfl,rfl,?_⟩
  ·show Value.int .i64 (((AZ (AI 32 s)).length:Nat):Int)=Value.int .i64 ((AZ (AI 32 s)).length:Int)
   rfl
  rfl
 intro (k:Nat) hki4
 have hki4:k<=(AI 32 s).length/\k<=16/\((AI 32 s).take k).all okV=true:=hki4
 refine And.symm ⟨λ c10=>?_,λ c10=>?_⟩
 ·try simp only [nrm] at c10
  have ht:(AI 32 s).take k=AI 32 s:=List.take_of_length_le (by omega)
  have hao:(AI 32 s).all okV=true:=by rw [← ht];exact hki4.2.2
  refine ⟨(((AI 32 s).take k).map vOf),by
   rfl,by
   first|trivial|exact hpre|exact Nat.le_trans (Ht (λ x hx=>Dj hx) k) hpre,?_⟩
  refine ⟨λ c33=>?_,λ c33=>?_⟩
  ·try simp only [nrm] at c33
   rw [ht] at c33
   have hno:okP s=false:=by rw [MW hao];exact c33
   refine ⟨?_,?_⟩
   ·first|(rw [DK hno];rfl)|(rw [hno])|(rw [ht,B7 hyes])|(rw [hyes])
   first|(rw [DK hno];rfl)|(rw [hno])|(rw [ht,B7 hyes])|(rw [hyes])
  try simp only [nrm] at c33
  rw [ht] at c33
  have hyes:okP s=true:=by rw [MW hao];exact c33
  refine ⟨?_,?_⟩
  ·first|(rw [DK hno];rfl)|(rw [hno])|(rw [ht,B7 hyes])|(rw [hyes])
  first|(rw [DK hno];rfl)|(rw [hno])|(rw [ht,B7 hyes])|(rw [hyes])
 try simp only [nrm] at c10
 have hk:k<(AI 32 s).length:=by omega
 refine ao (by first|rfl|omega|(simp only [Ah,AC,List.length_map,List.length_take,List.length_cons,List.length_nil];omega)|(simp;omega)) λ o11=>?_
 refine ao (by first|rfl|omega|(simp only [Ah,AC,List.length_map,List.length_take,List.length_cons,List.length_nil];omega)|(simp;omega)) λ o12=>?_
 refine ⟨((AI 32 s).getD k ⟨#[]⟩),by
  exact congrArg (λ x=>[DA.one (DC.im (Value.string x))]) (Hs hk),by
  show ((AI 32 s).getD k ⟨#[]⟩).size<=1073741824
  first|trivial|exact hpre|exact Nat.le_trans (Ht (λ x hx=>Dj hx) k) hpre,?_⟩
 refine And.symm ⟨λ c16=>?_,λ c16=>?_⟩
 ·try simp only [nrm] at c16
  have hno:=RM hk c16
  refine ⟨?_,?_⟩
  ·first|(rw [DK hno];rfl)|(rw [hno])|(rw [ht,B7 hyes])|(rw [hyes])
  first|(rw [DK hno];rfl)|(rw [hno])|(rw [ht,B7 hyes])|(rw [hyes])
 try simp only [nrm] at c16
 refine ⟨λ c17=>?_,λ c17=>?_⟩
 ·try simp only [nrm] at c17
  have hno:=RN (s:=s) (by rw [AC,List.length_map,List.length_take] at c17;omega)
  refine ⟨?_,?_⟩
  ·first|(rw [DK hno];rfl)|(rw [hno])|(rw [ht,B7 hyes])|(rw [hyes])
  first|(rw [DK hno];rfl)|(rw [hno])|(rw [ht,B7 hyes])|(rw [hyes])
 try simp only [nrm] at c17
 refine ao (by first|rfl|omega|(simp only [Ah,AC,List.length_map,List.length_take,List.length_cons,List.length_nil];omega)|(simp;omega)) λ o20=>?_
 refine ⟨k+1,by
  exact ⟨by omega,by rw [AC,List.length_map,List.length_take] at c17;omega,by rw [RL hk,hki4.2.2,c16];rfl⟩,by
  first|omega|(simp;omega),?_⟩
 refine ⟨rfl,?_,rfl,?_⟩
 ·first|exact AV (AE (by omega) (by omega))|exact Oc hk
 first|exact AV (AE (by omega) (by omega))|exact Oc hk
end Go.Proofs.YtmekciknfocmmaaGreatDoor
