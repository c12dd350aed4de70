import Derived.Test.YtcpjekkiejhgpaaGreatDoorPsRkS1
import Derived.Test.YtcpjekkiejhgpaaGreatDoorPsFsc
import Derived.Test.YtcpjekkiejhgpaaGreatDoorPsTyI
namespace Go.Proofs.YtcpjekkiejhgpaaGreatDoor
set_option linter.unusedVariables false
set_option linter.unusedSimpArgs false
open Go.RowKit
def Br:Con:={ ι:=Scn,pre:=λ i=>True,args:=λ i=>[DA.agg [cI i.low.1,cI i.low.2,cI i.high.1,cI i.high.2,DC.sl 23 [.int,.int] (AD i.robot),DC.sl 24 [.sl 23 [.int,.int]] (AM i.obst),DC.sl 23 [.int,.int] (AD i.tables)],DA.agg [cI i.low.1,cI i.low.2,cI i.high.1,cI i.high.2,DC.sl 23 [.int,.int] (AD i.robot),DC.sl 24 [.sl 23 [.int,.int]] (AM i.obst),DC.sl 23 [.int,.int] (AD i.tables)]],res:=λ i=>⟨false,[none],[rcB true]⟩ }
theorem Mm:Br.Ok Tryz.prog 6:=Qj [.int,.int,.int,.int,.sl 23 [.int,.int],.sl 24 [.sl 23 [.int,.int]],.sl 23 [.int,.int]] ⟨_,Tryz.func6,by decide,rfl⟩ (λ _=>rfl) (λ _=>rfl) (λ ds vs us w=>OC ds vs us w)
def C3:Con:={ ι:=Scn,pre:=λ i=>True,args:=λ i=>[DA.agg [cI i.low.1,cI i.low.2,cI i.high.1,cI i.high.2,DC.sl 23 [.int,.int] (AD i.robot),DC.sl 24 [.sl 23 [.int,.int]] (AM i.obst),DC.sl 23 [.int,.int] (AD i.tables)]],res:=λ i=>⟨false,[none],[rcB (AS i)]⟩ }
theorem OD:C3.Ok Tryz.prog 14:=CF rfl ⟨_,Tryz.func14,by decide,rfl⟩ (λ _=>Nat.le_of_ble_eq_true rfl) (λ _=>rfl) (λ s=>[.im (.bool (AS s))]) (λ _=>rfl) (λ _=>rfl) (λ i hp w us h=>by
 have h:RdRow w [.int,.int,.int,.int,.sl 23 [.int,.int],.sl 24 [.sl 23 [.int,.int]],.sl 23 [.int,.int]] (Kg i) us:=h
 have hl:=(RdRow.lens _ _ _ h).2
 rw [show BD (C3.args i) us=[.agg us.toArray] from Dj hl]
 refine (Ic i _ w (RdRow.scene h)).mono ?_
 rintro e w' ⟨rfl,hb⟩
 exact ⟨[.bool (AS i)],rfl,Own.leaf (Fp.mk_bool _),hb⟩)
def C4:Con:={ ι:=Scn,pre:=λ i=>True,args:=λ i=>[DA.agg [cI i.low.1,cI i.low.2,cI i.high.1,cI i.high.2,DC.sl 23 [.int,.int] (AD i.robot),DC.sl 24 [.sl 23 [.int,.int]] (AM i.obst),DC.sl 23 [.int,.int] (AD i.tables)]],res:=λ i=>⟨false,[none],[rcB (AS i)]⟩ }
theorem OE:C4.Ok Tryz.prog 27:=CF rfl ⟨_,Tryz.func27,by decide,rfl⟩ (λ _=>Nat.le_of_ble_eq_true rfl) (λ _=>rfl) (λ s=>[.im (.bool (AS s))]) (λ _=>rfl) (λ _=>rfl) (λ i hp w us h=>by
 have h:RdRow w [.int,.int,.int,.int,.sl 23 [.int,.int],.sl 24 [.sl 23 [.int,.int]],.sl 23 [.int,.int]] (Kg i) us:=h
 have hl:=(RdRow.lens _ _ _ h).2
 rw [show BD (C4.args i) us=[.agg us.toArray] from Dj hl]
 refine (Gx i _ w (RdRow.scene h)).mono ?_
 rintro e w' ⟨rfl,hb⟩
 exact ⟨[.bool (AS i)],rfl,Own.leaf (Fp.mk_bool _),hb⟩)
def CW:Con:={ ι:=Scn,pre:=λ i=>AS i=true,args:=λ i=>[DA.agg [cI i.low.1,cI i.low.2,cI i.high.1,cI i.high.2,DC.sl 23 [.int,.int] (AD i.robot),DC.sl 24 [.sl 23 [.int,.int]] (AM i.obst),DC.sl 23 [.int,.int] (AD i.tables)]],res:=λ i=>⟨false,[none],[.im (Value.string (A7 i))]⟩ }
theorem Mn:CW.Ok Tryz.prog 15:=Cz rfl ⟨_,Tryz.func15,by decide,rfl⟩ (λ _=>Nat.le_of_ble_eq_true rfl) (λ _=>rfl) (λ s=>[.im (.string (A7 s))]) (λ _=>rfl) (λ _=>rfl) (λ i hp w us hst h=>by
 have h:RdRow w [.int,.int,.int,.int,.sl 23 [.int,.int],.sl 24 [.sl 23 [.int,.int]],.sl 23 [.int,.int]] (Kg i) us:=h
 have hl:=(RdRow.lens _ _ _ h).2
 rw [show BD (CW.args i) us=[.agg us.toArray] from Dj hl]
 refine (Ml i hp _ w (RdRow.scene h) hst).mono ?_
 rintro e w' ⟨rfl,hb⟩
 exact ⟨[.string (A7 i)],rfl,Own.leaf (Fp.mk_str _),hb⟩)
def B8 (s:Scn):ByteArray:=if AS s=true then A7 s else ⟨#[]⟩
theorem EK {s:Scn} (h:AS s=true):B8 s=A7 s:=if_pos h
theorem Iq {s:Scn} (h:AS s=false):B8 s=⟨#[]⟩:=if_neg (by rw [h];simp)
theorem Lt {s:Scn} {k:Nat} (hk:k<s.obst.length):Dq s k++(⟨#[111,98,115,116,97,99,108,101,32]⟩:ByteArray)++Ay (s.obst.getD k [])++(⟨#[10]⟩:ByteArray)=Dq s (k+1):=by
 rw [GL hk]
 simp only [IQ]
 rfl
theorem Lu {s:Scn} {k:Nat} (hk:k<s.tables.length):Dd s k++(⟨#[116,97,98,108,101,32]⟩:ByteArray)++Ak (s.tables.getD k (0,0))++(⟨#[10]⟩:ByteArray)=Dd s (k+1):=by
 rw [GM hk]
 simp only [IQ]
 rfl
theorem Ir {s:Scn} (h:AS s=true):Ae s.robot=true/\∀ k,k<s.obst.length->Ae (s.obst.getD k [])=true:=by
 simp only [AS,Bool.and_eq_true,decide_eq_true_eq,List.all_cons,List.all_nil,and_true,shape] at h
 obtain ⟨⟨⟨⟨⟨h1,h2⟩,-⟩,-⟩,⟨h3,h4⟩,-⟩,⟨⟨h5,h6⟩,h7⟩,h8⟩:=h
 refine ⟨h3,λ k hk=>?_⟩
 have hk':=List.all_eq_true.1 h5 (s.obst[k]) (List.getElem_mem hk)
 simp only [shape,Bool.and_eq_true] at hk'
 have e:s.obst.getD k []=s.obst[k]:=by simp [List.getD,hk]
 rw [e]
 exact hk'.1.1
def Ck:Con:={ ι:=Scn,pre:=λ i=>True,args:=λ i=>[DA.agg [cI i.low.1,cI i.low.2,cI i.high.1,cI i.high.2,DC.sl 23 [.int,.int] (AD i.robot),DC.sl 24 [.sl 23 [.int,.int]] (AM i.obst),DC.sl 23 [.int,.int] (AD i.tables)]],res:=λ i=>⟨false,[none],[.im (Value.string (B8 i))]⟩ }
set_option maxRecDepth 100000 in
theorem Pd:Ck.Ok Tryz.prog 11:=by
 refine fok (X:=⟨tt,[(27,C4),(28,Ah),(29,CH)],[],55,[]⟩) mixed BG (CTok.cons OE (CTok.cons FB (CTok.cons N3 (CTok.nil _)))) Tryz.func11 (λ (i:Scn)=>let Z1:=AD i.tables;[(10,.mk 2 (Nat) (λ x3=>{ tm:=[(41,tX 1),(42,tI (nI (Z1.length))),(43,tI (x3:Int)),(3,.one (.one (.im (Value.string (Dd i x3)))))],en:=[(1,.view 23 [.int,.int] Z1 [])] }) (λ x3=>x3<=i.tables.length) (λ x3=>i.tables.length-x3) (λ _=>[])),(5,.mk 5 (Nat) (λ x1=>{ tm:=[(1,tP 1 0),(27,tX 3),(28,tI (nI ((AM i.obst).length))),(29,tI (x1:Int)),(3,.one (.one (.im (Value.string (Dq i x1)))))],en:=[(1,.box [kI i.low.1,kI i.low.2,kI i.high.1,kI i.high.2,.ext 2,.ext 3,.ext 4]),(2,.view 23 [.int,.int] (AD i.robot) []),(3,.view 24 [.sl 23 [.int,.int]] (AM i.obst) []),(4,.view 23 [.int,.int] Z1 [])] }) (λ x1=>x1<=i.obst.length) (λ x1=>i.obst.length-x1) (λ _=>[]))]) ?_
 intro (s:Scn) hpre
 have hpre:True:=hpre
 refine BF (q:=let Z8:=AD s.robot;let Z6:=AM s.obst;let Z9:=nI (Z6.length);let Z4:=AD s.tables;let Z10:=nI (Z4.length);∃ i1:Scn,[DA.agg [cI s.low.1,cI s.low.2,cI s.high.1,cI s.high.2,DC.sl 23 [.int,.int] Z8,DC.sl 24 [.sl 23 [.int,.int]] Z6,DC.sl 23 [.int,.int] Z4]]=C4.args i1/\C4.pre i1/\(ifB ((!(AS i1))) ((Value.string (⟨#[]⟩:ByteArray)=Value.string (B8 s))) (∃ i2:Int×Int,let Z7:=(⟨#[114,111,111,109,32]⟩:ByteArray)++Ap (i2.1,i2.2);let Z1:=Z7++(⟨#[32]⟩:ByteArray);[DA.agg [cI s.low.1,cI s.low.2]]=Ah.args i2/\Ah.pre i2/\(((⟨#[114,111,111,109,32]⟩:ByteArray).size+(Ap (i2.1,i2.2)).size<=1125899906842624)/\((Z7.size+(⟨#[32]⟩:ByteArray).size<=1125899906842624)/\(∃ i3:Int×Int,let Z11:=Z1++Ap (i3.1,i3.2);let Z2:=Z11++(⟨#[10,114,111,98,111,116,32]⟩:ByteArray);[DA.agg [cI s.high.1,cI s.high.2]]=Ah.args i3/\Ah.pre i3/\((Z1.size+(Ap (i3.1,i3.2)).size<=1125899906842624)/\((Z11.size+(⟨#[10,114,111,98,111,116,32]⟩:ByteArray).size<=1125899906842624)/\(∃ i4:(List V2),[DA.one (DC.sl 23 [.int,.int] Z8)]=CH.args i4/\CH.pre i4/\((Z2.size+(Bi i4).size<=1125899906842624)/\(((Z2++Bi i4).size+(⟨#[10]⟩:ByteArray).size<=1125899906842624)/\((∃ x1:Nat,(x1<=s.obst.length)/\((rf (vI Z9))/\(vI (0:Int)=vI (x1:Int))/\(Value.string ((Z2++Bi i4)++(⟨#[10]⟩:ByteArray))=Value.string (Dq s x1))/\(rf (vI s.low.1))/\(rf (vI s.low.2))/\(rf (vI s.high.1))/\(rf (vI s.high.2))/\(rf Z8)/\(rf Z6)/\(rf Z4)))/\∀ x1:Nat,let Z3:=(Dq s x1)++(⟨#[111,98,115,116,97,99,108,101,32]⟩:ByteArray);(x1<=s.obst.length)->(ifB ((decide ((x1:Int)<Z9))) ((0<=(x1:Int)/\(x1:Int)<(Z6.length:Int))/\((x1<Z6.length)/\(((Dq s x1).size+(⟨#[111,98,115,116,97,99,108,101,32]⟩:ByteArray).size<=1125899906842624)/\(∃ i5:(List V2),[DA.one (DC.sl 23 [.int,.int] ((((Z6.getD x1 []).getD 0 (.int 0))).r))]=CH.args i5/\CH.pre i5/\((Z3.size+(Bi i5).size<=1125899906842624)/\(((Z3++Bi i5).size+(⟨#[10]⟩:ByteArray).size<=1125899906842624)/\(∃ y2:Nat,(y2<=s.obst.length)/\(s.obst.length-y2<s.obst.length-x1)/\((rf (vI Z9))/\(vI (wR ((x1:Int)+(1:Int)))=vI (y2:Int))/\(Value.string ((Z3++Bi i5)++(⟨#[10]⟩:ByteArray))=Value.string (Dq s y2))/\(rf (vI s.low.1))/\(rf (vI s.low.2))/\(rf (vI s.high.1))/\(rf (vI s.high.2))/\(rf Z8)/\(rf Z6)/\(rf Z4))))))))) ((∃ x3:Nat,(x3<=s.tables.length)/\((rf (vI Z10))/\(vI (0:Int)=vI (x3:Int))/\(Value.string (Dq s x1)=Value.string (Dd s x3))/\(rf Z4)))/\∀ x3:Nat,let Z5:=(Dd s x3)++(⟨#[116,97,98,108,101,32]⟩:ByteArray);(x3<=s.tables.length)->(ifB ((decide ((x3:Int)<Z10))) ((0<=(x3:Int)/\(x3:Int)<(Z4.length:Int))/\((x3<Z4.length)/\(((Dd s x3).size+(⟨#[116,97,98,108,101,32]⟩:ByteArray).size<=1125899906842624)/\(∃ i6:Int×Int,let Z12:=Z5++Ap (i6.1,i6.2);[DA.agg [cI ((((Z4.getD x3 []).getD 0 (.int 0))).n),cI ((((Z4.getD x3 []).getD 1 (.int 0))).n)]]=Ah.args i6/\Ah.pre i6/\((Z5.size+(Ap (i6.1,i6.2)).size<=1125899906842624)/\((Z12.size+(⟨#[10]⟩:ByteArray).size<=1125899906842624)/\(∃ y4:Nat,(y4<=s.tables.length)/\(s.tables.length-y4<s.tables.length-x3)/\((rf (vI Z10))/\(vI (wR ((x3:Int)+(1:Int)))=vI (y4:Int))/\(Value.string (Z12++(⟨#[10]⟩:ByteArray))=Value.string (Dd s y4))/\(rf Z4))))))))) ((Value.string (Dd s x3)=Value.string (B8 s)))))))))))))))))) (by kernel_rfl) ?_
 conv=>zeta
 delta ifB vI wR nI
 have hvo:=AH s.obst
 have hvt:=AE s.tables
 refine ⟨s,by
  rfl,by
  first|trivial|(first|omega|assumption|exact hpre.1|exact hpre.2|(simp;done)),?_⟩
 refine ⟨λ c4=>?_,λ c4=>?_⟩
 ·try simp only [nrm] at c4
  rw [Iq c4]
 try simp only [nrm] at c4
 obtain ⟨hl,hh,hrb,hv4,hv5⟩:=HQ c4
 have hsp:=Ir c4
 have q1:Ap (s.low.1,s.low.2)=Ak (s.low.1,s.low.2):=BW hl
 have q2:Ap (s.high.1,s.high.2)=Ak (s.high.1,s.high.2):=BW hh
 have q3:=Dn hsp.1
 have z1:(Ak (s.low.1,s.low.2)).size<=43:=CM hl
 have z2:(Ak (s.high.1,s.high.2)).size<=43:=CM hh
 have z3:=Da hrb.1
 have z4:=hrb.2
 have zh:=Io hl hh hrb
 have e1:(⟨#[114,111,111,109,32]⟩:ByteArray).size=5:=rfl
 have e2:(⟨#[32]⟩:ByteArray).size=1:=rfl
 have e3:(⟨#[10,114,111,98,111,116,32]⟩:ByteArray).size=7:=rfl
 have e4:(⟨#[10]⟩:ByteArray).size=1:=rfl
 have e5:(⟨#[111,98,115,116,97,99,108,101,32]⟩:ByteArray).size=9:=rfl
 have e6:(⟨#[116,97,98,108,101,32]⟩:ByteArray).size=6:=rfl
 refine ⟨(s.low.1,s.low.2),by
  rfl,by
  first|trivial|(first|omega|assumption|exact hpre.1|exact hpre.2|(simp;done)),?_⟩
 refine ao (a:=(⟨#[114,111,111,109,32]⟩:ByteArray).size+(Ap (s.low.1,s.low.2)).size<=1125899906842624) (by first|rfl|omega|(simp only [AE,AH];omega)|(simp only [ByteArray.size_append,q1,q2,q3,e1,e2,e3,e4,e5,e6];omega)|(simp only [ByteArray.size_append,q1,q2,q3,e1,e2,e3,e4,e5,e6,hob];omega)|(simp only [ByteArray.size_append,q1,q2,q3,e1,e2,e3,e4,e5,e6,hvx,hvy,hvv];omega)) λ o9=>?_
 refine ao (a:=((⟨#[114,111,111,109,32]⟩:ByteArray)++Ap (s.low.1,s.low.2)).size+(⟨#[32]⟩:ByteArray).size<=1125899906842624) (by first|rfl|omega|(simp only [AE,AH];omega)|(simp only [ByteArray.size_append,q1,q2,q3,e1,e2,e3,e4,e5,e6];omega)|(simp only [ByteArray.size_append,q1,q2,q3,e1,e2,e3,e4,e5,e6,hob];omega)|(simp only [ByteArray.size_append,q1,q2,q3,e1,e2,e3,e4,e5,e6,hvx,hvy,hvv];omega)) λ o10=>?_
 refine ⟨(s.high.1,s.high.2),by
  rfl,by
  first|trivial|(first|omega|assumption|exact hpre.1|exact hpre.2|(simp;done)),?_⟩
 refine ao (a:=(((⟨#[114,111,111,109,32]⟩:ByteArray)++Ap (s.low.1,s.low.2))++(⟨#[32]⟩:ByteArray)).size+(Ap (s.high.1,s.high.2)).size<=1125899906842624) (by first|rfl|omega|(simp only [AE,AH];omega)|(simp only [ByteArray.size_append,q1,q2,q3,e1,e2,e3,e4,e5,e6];omega)|(simp only [ByteArray.size_append,q1,q2,q3,e1,e2,e3,e4,e5,e6,hob];omega)|(simp only [ByteArray.size_append,q1,q2,q3,e1,e2,e3,e4,e5,e6,hvx,hvy,hvv];omega)) λ o14=>?_
 refine ao (a:=((((⟨#[114,111,111,109,32]⟩:ByteArray)++Ap (s.low.1,s.low.2))++(⟨#[32]⟩:ByteArray))++Ap (s.high.1,s.high.2)).size+(⟨#[10,114,111,98,111,116,32]⟩:ByteArray).size<=1125899906842624) (by first|rfl|omega|(simp only [AE,AH];omega)|(simp only [ByteArray.size_append,q1,q2,q3,e1,e2,e3,e4,e5,e6];omega)|(simp only [ByteArray.size_append,q1,q2,q3,e1,e2,e3,e4,e5,e6,hob];omega)|(simp only [ByteArray.size_append,q1,q2,q3,e1,e2,e3,e4,e5,e6,hvx,hvy,hvv];omega)) λ o15=>?_
 refine ⟨s.robot,by
  rfl,by
  first|trivial|(first|omega|assumption|exact hpre.1|exact hpre.2|(simp;done)),?_⟩
 refine ao (a:=(((((⟨#[114,111,111,109,32]⟩:ByteArray)++Ap (s.low.1,s.low.2))++(⟨#[32]⟩:ByteArray))++Ap (s.high.1,s.high.2))++(⟨#[10,114,111,98,111,116,32]⟩:ByteArray)).size+(Bi s.robot).size<=1125899906842624) (by first|rfl|omega|(simp only [AE,AH];omega)|(simp only [ByteArray.size_append,q1,q2,q3,e1,e2,e3,e4,e5,e6];omega)|(simp only [ByteArray.size_append,q1,q2,q3,e1,e2,e3,e4,e5,e6,hob];omega)|(simp only [ByteArray.size_append,q1,q2,q3,e1,e2,e3,e4,e5,e6,hvx,hvy,hvv];omega)) λ o19=>?_
 refine ao (a:=((((((⟨#[114,111,111,109,32]⟩:ByteArray)++Ap (s.low.1,s.low.2))++(⟨#[32]⟩:ByteArray))++Ap (s.high.1,s.high.2))++(⟨#[10,114,111,98,111,116,32]⟩:ByteArray))++Bi s.robot).size+(⟨#[10]⟩:ByteArray).size<=1125899906842624) (by first|rfl|omega|(simp only [AE,AH];omega)|(simp only [ByteArray.size_append,q1,q2,q3,e1,e2,e3,e4,e5,e6];omega)|(simp only [ByteArray.size_append,q1,q2,q3,e1,e2,e3,e4,e5,e6,hob];omega)|(simp only [ByteArray.size_append,q1,q2,q3,e1,e2,e3,e4,e5,e6,hvx,hvy,hvv];omega)) λ o20=>?_
 refine ⟨⟨0,by
  first|trivial|omega|(simp;omega),?_⟩,?_⟩
 ·refine ⟨rfl,rfl,?_,rfl,rfl,rfl,rfl,rfl,rfl,rfl⟩
  show Value.string (((((((⟨#[114,111,111,109,32]⟩:ByteArray)++Ap (s.low.1,s.low.2))++(⟨#[32]⟩:ByteArray))++Ap (s.high.1,s.high.2))++(⟨#[10,114,111,98,111,116,32]⟩:ByteArray))++Bi s.robot)++(⟨#[10]⟩:ByteArray))=Value.string (Dq s 0)
  first|(rw [q1,q2,q3];rfl)|rfl
 intro (k:Nat) hki21
 have hki21:k<=s.obst.length:=hki21
 refine ⟨λ c33=>?_,λ c33=>?_⟩
 ·try simp only [nrm] at c33
  have hk:k<s.obst.length:=by omega
  have hob:=Dn (hsp.2 k hk)
  have zo:=Da (hv4.2 k hk).1
  have zl:=(hv4.2 k hk).2
  have zs:=Fk s zh hv4.2 (show k<=s.obst.length by omega)
  have z9:=hv4.1
  refine ao (by first|rfl|omega|(simp only [AE,AH];omega)|(simp only [ByteArray.size_append,q1,q2,q3,e1,e2,e3,e4,e5,e6];omega)|(simp only [ByteArray.size_append,q1,q2,q3,e1,e2,e3,e4,e5,e6,hob];omega)|(simp only [ByteArray.size_append,q1,q2,q3,e1,e2,e3,e4,e5,e6,hvx,hvy,hvv];omega)) λ o34=>?_
  refine ao (by first|rfl|omega|(simp only [AE,AH];omega)|(simp only [ByteArray.size_append,q1,q2,q3,e1,e2,e3,e4,e5,e6];omega)|(simp only [ByteArray.size_append,q1,q2,q3,e1,e2,e3,e4,e5,e6,hob];omega)|(simp only [ByteArray.size_append,q1,q2,q3,e1,e2,e3,e4,e5,e6,hvx,hvy,hvv];omega)) λ o35=>?_
  refine ao (by first|rfl|omega|(simp only [AE,AH];omega)|(simp only [ByteArray.size_append,q1,q2,q3,e1,e2,e3,e4,e5,e6];omega)|(simp only [ByteArray.size_append,q1,q2,q3,e1,e2,e3,e4,e5,e6,hob];omega)|(simp only [ByteArray.size_append,q1,q2,q3,e1,e2,e3,e4,e5,e6,hvx,hvy,hvv];omega)) λ o36=>?_
  refine ⟨(s.obst.getD k []),by
   exact congrArg (λ x=>[DA.one (DC.sl 23 [.int,.int] x)]) (N1 (by omega)),by
   first|trivial|(first|omega|assumption|exact hpre.1|exact hpre.2|(simp;done)),?_⟩
  refine ao (by first|rfl|omega|(simp only [AE,AH];omega)|(simp only [ByteArray.size_append,q1,q2,q3,e1,e2,e3,e4,e5,e6];omega)|(simp only [ByteArray.size_append,q1,q2,q3,e1,e2,e3,e4,e5,e6,hob];omega)|(simp only [ByteArray.size_append,q1,q2,q3,e1,e2,e3,e4,e5,e6,hvx,hvy,hvv];omega)) λ o40=>?_
  refine ao (by first|rfl|omega|(simp only [AE,AH];omega)|(simp only [ByteArray.size_append,q1,q2,q3,e1,e2,e3,e4,e5,e6];omega)|(simp only [ByteArray.size_append,q1,q2,q3,e1,e2,e3,e4,e5,e6,hob];omega)|(simp only [ByteArray.size_append,q1,q2,q3,e1,e2,e3,e4,e5,e6,hvx,hvy,hvv];omega)) λ o41=>?_
  refine ⟨k+1,by
   first|trivial|omega|(simp;omega),by
   first|omega|(simp;omega),?_⟩
  refine ⟨rfl,?_,?_,rfl,rfl,rfl,rfl,rfl,rfl,rfl⟩
  ·first|exact AP (AG (by omega) (by omega))|(rw [hob];exact congrArg Value.string (Lt hk))
  first|exact AP (AG (by omega) (by omega))|(rw [hob];exact congrArg Value.string (Lt hk))
 try simp only [nrm] at c33
 refine ⟨⟨0,by
  first|trivial|omega|(simp;omega),?_⟩,?_⟩
 ·refine ⟨rfl,rfl,?_,rfl⟩
  rw [show k=s.obst.length by omega];rfl
 intro (k:Nat) hki55
 have hki55:k<=s.tables.length:=hki55
 refine And.symm ⟨λ c61=>?_,λ c61=>?_⟩
 ·try simp only [nrm] at c61
  rw [EK c4,show k=s.tables.length by omega];rfl
 try simp only [nrm] at c61
 have hk:k<s.tables.length:=by omega
 have hvx:=Md hk
 have hvy:=Me hk
 have hvv:Ap ((s.tables.getD k (0,0)).1,(s.tables.getD k (0,0)).2)=Ak (s.tables.getD k (0,0)):=BW (hv5.2 k hk)
 have zo:=CM (hv5.2 k hk)
 have z8:=hv4.1
 have z9:=hv5.1
 have zs:=KO s (Nat.le_trans (Fk s zh hv4.2 (Nat.le_refl _)) (by omega)) hv5.2 (show k<=s.tables.length by omega)
 refine ao (by first|rfl|omega|(simp only [AE,AH];omega)|(simp only [ByteArray.size_append,q1,q2,q3,e1,e2,e3,e4,e5,e6];omega)|(simp only [ByteArray.size_append,q1,q2,q3,e1,e2,e3,e4,e5,e6,hob];omega)|(simp only [ByteArray.size_append,q1,q2,q3,e1,e2,e3,e4,e5,e6,hvx,hvy,hvv];omega)) λ o62=>?_
 refine ao (by first|rfl|omega|(simp only [AE,AH];omega)|(simp only [ByteArray.size_append,q1,q2,q3,e1,e2,e3,e4,e5,e6];omega)|(simp only [ByteArray.size_append,q1,q2,q3,e1,e2,e3,e4,e5,e6,hob];omega)|(simp only [ByteArray.size_append,q1,q2,q3,e1,e2,e3,e4,e5,e6,hvx,hvy,hvv];omega)) λ o63=>?_
 refine ao (by first|rfl|omega|(simp only [AE,AH];omega)|(simp only [ByteArray.size_append,q1,q2,q3,e1,e2,e3,e4,e5,e6];omega)|(simp only [ByteArray.size_append,q1,q2,q3,e1,e2,e3,e4,e5,e6,hob];omega)|(simp only [ByteArray.size_append,q1,q2,q3,e1,e2,e3,e4,e5,e6,hvx,hvy,hvv];omega)) λ o64=>?_
 refine ⟨(((((AD s.tables).getD k []).getD 0 (.int 0))).n,((((AD s.tables).getD k []).getD 1 (.int 0))).n),by
  rfl,by
  first|trivial|(first|omega|assumption|exact hpre.1|exact hpre.2|(simp;done)),?_⟩
 refine ao (a:=((Dd s k)++(⟨#[116,97,98,108,101,32]⟩:ByteArray)).size+(Ap ((((((AD s.tables).getD k []).getD 0 (.int 0))).n),(((((AD s.tables).getD k []).getD 1 (.int 0))).n))).size<=1125899906842624) (by first|rfl|omega|(simp only [AE,AH];omega)|(simp only [ByteArray.size_append,q1,q2,q3,e1,e2,e3,e4,e5,e6];omega)|(simp only [ByteArray.size_append,q1,q2,q3,e1,e2,e3,e4,e5,e6,hob];omega)|(simp only [ByteArray.size_append,q1,q2,q3,e1,e2,e3,e4,e5,e6,hvx,hvy,hvv];omega)) λ o68=>?_
 refine ao (a:=(((Dd s k)++(⟨#[116,97,98,108,101,32]⟩:ByteArray))++Ap ((((((AD s.tables).getD k []).getD 0 (.int 0))).n),(((((AD s.tables).getD k []).getD 1 (.int 0))).n))).size+(⟨#[10]⟩:ByteArray).size<=1125899906842624) (by first|rfl|omega|(simp only [AE,AH];omega)|(simp only [ByteArray.size_append,q1,q2,q3,e1,e2,e3,e4,e5,e6];omega)|(simp only [ByteArray.size_append,q1,q2,q3,e1,e2,e3,e4,e5,e6,hob];omega)|(simp only [ByteArray.size_append,q1,q2,q3,e1,e2,e3,e4,e5,e6,hvx,hvy,hvv];omega)) λ o69=>?_
 refine ⟨k+1,by
  first|trivial|omega|(simp;omega),by
  first|omega|(simp;omega),?_⟩
 refine ⟨rfl,?_,?_,rfl⟩
 ·first|exact AP (AG (by omega) (by omega))|(rw [hvx,hvy,hvv];exact congrArg Value.string (Lu hk))
 show Value.string ((((Dd s k)++(⟨#[116,97,98,108,101,32]⟩:ByteArray))++Ap ((((((AD s.tables).getD k []).getD 0 (.int 0))).n),(((((AD s.tables).getD k []).getD 1 (.int 0))).n)))++(⟨#[10]⟩:ByteArray))=Value.string (Dd s (k+1))
 first|exact AP (AG (by omega) (by omega))|(rw [hvx,hvy,hvv];exact congrArg Value.string (Lu hk))
end Go.Proofs.YtcpjekkiejhgpaaGreatDoor
