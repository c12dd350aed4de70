import Derived.Test.YtdgmbbjoifneiaaGreatDoorPyPly
namespace Go.Proofs.YtdgmbbjoifneiaaGreatDoor
set_option linter.unusedVariables false
set_option linter.unusedSimpArgs false
open Go.RowKit
def Pn:Con:={ ι:=(List UInt8),pre:=λ i=>True,args:=λ i=>[.one (.ro (.bytes i))],res:=λ i=>⟨false,[none],[.im (Value.bool true)]⟩ }
set_option maxRecDepth 100000 in
set_option maxHeartbeats 4000000 in
theorem SD:Pn.Ok Tryz.prog 3:=by
 refine fok (X:=⟨tt,[(4,E8),(5,GD),(6,DL),(8,E5),(7,F9),(9,HU),(10,HW),(11,Bl),(12,DM),(13,Eb),(15,BJ),(14,Ci)],[],89,[]⟩) mixed AP (CTok.cons R4 (CTok.cons US (CTok.cons UU (CTok.cons Rz (CTok.cons UJ (CTok.cons Vk (CTok.cons Vl (CTok.cons Uf (CTok.cons Ug (CTok.cons Vj (CTok.cons Ig (CTok.cons MM (CTok.nil _))))))))))))) Tryz.func3 (λ _=>[]) ?_
 intro (b:List UInt8) hpre
 have hpre:True:=hpre
 refine AO (q:=((decide (((b.length:Nat):Int)>(1048576:Int)))=true->((Value.bool true=Value.bool true)))/\((decide (((b.length:Nat):Int)>(1048576:Int)))=false->(∃ i1:(List UInt8)×Nat,[DA.one (DC.ro (.bytes b)),DA.one (cI (0:Int))]=E8.args i1/\E8.pre i1/\(∃ i2:(List UInt8)×Nat,[DA.one (DC.ro (.bytes b)),DA.one (cI (9:Int))]=GD.args i2/\GD.pre i2/\(∃ i3:(List V2)×Int×Int,[DA.one (DC.sl 26 [.int,.int] (AA (drP i1.1 5 (AD i1.1 (7*i1.2))).1)),DA.agg [cI ((Bn i2.1 (AD i2.1 (3*i2.2))).1),cI ((Bn i2.1 (AD i2.1 (3*i2.2))).2)]]=DL.args i3/\DL.pre i3/\(∃ i4:(List V2),[DA.one (DC.sl 26 [.int,.int] (AA (drP i1.1 5 (AD i1.1 (7*i1.2))).1))]=E5.args i4/\E5.pre i4/\(∃ i5:ByteArray,[DA.one (DC.im (Value.string (A8 i4)))]=F9.args i5/\F9.pre i5/\(∃ i6:(List V2),[DA.one (DC.sl 26 [.int,.int] (AA (drP i1.1 5 (AD i1.1 (7*i1.2))).1))]=HU.args i6/\HU.pre i6/\(∃ i7:(List V2),[DA.one (DC.sl 26 [.int,.int] (AA (drP i1.1 5 (AD i1.1 (7*i1.2))).1))]=HW.args i7/\HW.pre i7/\(((Bj i5)=true->((true=true->(∃ i8:(List V2)×(List V2),[DA.one (DC.sl 26 [.int,.int] (AA (Cy i5))),DA.one (DC.sl 26 [.int,.int] (AA (drP i1.1 5 (AD i1.1 (7*i1.2))).1))]=Bl.args i8/\Bl.pre i8/\(((A1 i8.1 i8.2)=true->(∃ i9:(List V2),[DA.one (DC.sl 26 [.int,.int] (AA (CQ i3.1 i3.2.1 i3.2.2)))]=DM.args i9/\DM.pre i9/\(∃ i10:(List V2),[DA.one (DC.sl 26 [.int,.int] (AA (drP i1.1 5 (AD i1.1 (7*i1.2))).1))]=DM.args i10/\DM.pre i10/\((((DD i9) == (DD i10))=true->(∃ i11:(List V2),[DA.one (DC.sl 26 [.int,.int] (AA (drP i1.1 5 (AD i1.1 (7*i1.2))).1))]=Eb.args i11/\Eb.pre i11/\(∃ i12:(List V2),[DA.one (DC.sl 26 [.int,.int] (AA (Bk i11)))]=Eb.args i12/\Eb.pre i12/\(∃ i13:(List V2)×(List V2),[DA.one (DC.sl 26 [.int,.int] (AA (Bk i12))),DA.one (DC.sl 26 [.int,.int] (AA (drP i1.1 5 (AD i1.1 (7*i1.2))).1))]=Bl.args i13/\Bl.pre i13/\(((A1 i13.1 i13.2)=true->((0<=(0:Int)/\(0:Int)<((AA (drP i1.1 5 (AD i1.1 (7*i1.2))).1).length:Int))/\((0<(AA (drP i1.1 5 (AD i1.1 (7*i1.2))).1).length)/\(∃ i14:Int×Int,[DA.agg [cI (((((AA (drP i1.1 5 (AD i1.1 (7*i1.2))).1).getD 0 []).getD 0 (.int 0))).n),cI (((((AA (drP i1.1 5 (AD i1.1 (7*i1.2))).1).getD 0 []).getD 1 (.int 0))).n)]]=BJ.args i14/\BJ.pre i14/\(∃ i15:(List V2)×PtD,[DA.one (DC.sl 26 [.int,.int] (AA (drP i1.1 5 (AD i1.1 (7*i1.2))).1)),DA.agg [cB (decide ((Fr.ofInt i14.1).z<0)),cS (L (Fr.ofInt i14.1).z.natAbs),cS (L (Fr.ofInt i14.1).d),cB (decide ((Fr.ofInt i14.2).z<0)),cS (L (Fr.ofInt i14.2).z.natAbs),cS (L (Fr.ofInt i14.2).d)]]=Ci.args i15/\Ci.pre i15/\((((cpZ i15.1 i15.2) == (0:Int))=true->(((decide (((loV i6 i6.length).1)<((hiV i6 i6.length).1)))=true->(((decide (((loV i6 i6.length).2)<((hiV i6 i6.length).2)))=true->(∃ i16:(List V2)×Int×Int,[DA.one (DC.sl 26 [.int,.int] (AA (B9 i7))),DA.agg [cI ((loV i6 i6.length).1),cI ((loV i6 i6.length).2)]]=DL.args i16/\DL.pre i16/\(∃ i17:(List V2)×(List V2),[DA.one (DC.sl 26 [.int,.int] (AA (CQ i16.1 i16.2.1 i16.2.2))),DA.one (DC.sl 26 [.int,.int] (AA (drP i1.1 5 (AD i1.1 (7*i1.2))).1))]=Bl.args i17/\Bl.pre i17/\((Value.bool (A1 i17.1 i17.2)=Value.bool true)))))/\((decide (((loV i6 i6.length).2)<((hiV i6 i6.length).2)))=false->((Value.bool false=Value.bool true)))))/\((decide (((loV i6 i6.length).1)<((hiV i6 i6.length).1)))=false->((Value.bool false=Value.bool true)))))/\(((cpZ i15.1 i15.2) == (0:Int))=false->((Value.bool false=Value.bool true)))))))))/\((A1 i13.1 i13.2)=false->((Value.bool false=Value.bool true))))))))/\(((DD i9) == (DD i10))=false->((Value.bool false=Value.bool true)))))))/\((A1 i8.1 i8.2)=false->((Value.bool false=Value.bool true))))))/\(true=false->((Value.bool false=Value.bool true)))))/\((Bj i5)=false->((Value.bool false=Value.bool true))))))))))))) (by kernel_rfl) ?_
 refine ⟨λ c1=>?_,λ c1=>?_⟩
 ·-- c1t: (decide (((b.length : Nat) : Int) > (1048576 : Int))) = true
  replace c1:(decide (((b.length:Nat):Int)>(1048576:Int)))=true:=c1
  try simp only [nrm] at c1
  exact rfl
 -- c1f: (decide (((b.length : Nat) : Int) > (1048576 : Int))) = false
 replace c1:(decide (((b.length:Nat):Int)>(1048576:Int)))=false:=c1
 try simp only [nrm] at c1
 have hlen:b.length<=1048576:=by omega
 have q1:=Ws (b:=b) (z:=5) (by omega) (AD b (7*0))
 have r1:=C4 b (AD b (3*9)) (n:=21) (by omega)
 have r2:=C4 b (blC b (AD b (3*9)) 21) (n:=21) (by omega)
 have Q:PlyLaw (drP b 5 (AD b (7*0))).1 (Bn b (AD b (3*9))):=Vs q1.1 (λ x hx=>by have:=q1.2.2 x hx;omega) ⟨⟨by show -10<=_-10;omega,by show _-10<=10;omega⟩,by show -10<=_-10;omega,by show _-10<=10;omega⟩
 obtain ⟨hl0,hl16⟩:=Q.len
 have hvl:=AB ((drP b 5 (AD b (7*0))).1)
 have hvc:=AW Q.vec hl0
 have hbc:=Ay hvc
 have hsz:(A8 ((drP b 5 (AD b (7*0))).1)).size<=1073741824:=by rw [De q1.1];have:=T5 Q.vec;omega
 -- w3: mkPoly [DA.one (DC.ro (.bytes b)), DA.one (DC.im (Value.int .i64 (0 : Int)))]
 refine ⟨(b,0),by
  rfl,by
  show b.length<=1048576/\0<=100
  exact ⟨hlen,by omega⟩,?_⟩
 -- w6: mkVec [DA.one (DC.ro (.bytes b)), DA.one (DC.im (Value.int .i64 (9 : Int)))]
 refine ⟨(b,9),by
  rfl,by
  show b.length<=1048576/\9<=100
  exact ⟨hlen,by omega⟩,?_⟩
 -- w9: iMovP [DA.one (DC.sl 26 [.int, .int] (AA (drP b 5 (AD b (7 * 0))).1)), DA.agg [DC.im (Value.int .i64 ((Bn b (AD b (3 * 9))).1)), DC.im (Value.int .i64 ((Bn b (AD b (3 * 9))).2))]]
 refine ⟨((drP b 5 (AD b (7*0))).1,((Bn b (AD b (3*9))).1),((Bn b (AD b (3*9))).2)),by
  rfl,by
  show ((drP b 5 (AD b (7*0))).1).length<=1048576/\((drP b 5 (AD b (7*0))).1).all AE=true
  exact ⟨by omega,Q.vec⟩,?_⟩
 -- w12: iFPoly [DA.one (DC.sl 26 [.int, .int] (AA (drP b 5 (AD b (7 * 0))).1))]
 refine ⟨(drP b 5 (AD b (7*0))).1,by
  rfl,by
  exact trivial,?_⟩
 -- w15: iParP [DA.one (DC.im (Value.string (A8 ((drP b 5 (AD b (7 * 0))).1))))]
 refine ⟨A8 ((drP b 5 (AD b (7*0))).1),by
  rfl,by
  show (A8 ((drP b 5 (AD b (7*0))).1)).size<=1073741824
  exact hsz,?_⟩
 -- w18: iWid [DA.one (DC.sl 26 [.int, .int] (AA (drP b 5 (AD b (7 * 0))).1))]
 refine ⟨(drP b 5 (AD b (7*0))).1,by
  rfl,by
  show AI ((drP b 5 (AD b (7*0))).1)=true
  exact q1.1,?_⟩
 -- w21: iOrg [DA.one (DC.sl 26 [.int, .int] (AA (drP b 5 (AD b (7 * 0))).1))]
 refine ⟨(drP b 5 (AD b (7*0))).1,by
  rfl,by
  show AI ((drP b 5 (AD b (7*0))).1)=true
  exact q1.1,?_⟩
 refine And.symm ⟨λ c24=>?_,λ c24=>?_⟩
 ·-- c24f: (Bj (A8 ((drP b 5 (AD b (7 * 0))).1))) = false
  replace c24:(Bj (A8 ((drP b 5 (AD b (7*0))).1)))=false:=c24
  try simp only [nrm] at c24
  rw [Q.ok] at c24;cases c24 -- done
 -- c24t: (Bj (A8 ((drP b 5 (AD b (7 * 0))).1))) = true
 replace c24:(Bj (A8 ((drP b 5 (AD b (7*0))).1)))=true:=c24
 try simp only [nrm] at c24
 refine And.symm ⟨λ c25=>?_,λ c25=>?_⟩
 ·-- c25f: true = false
  replace c25:true=false:=c25
  try simp only [nrm] at c25
  cases c25 -- done
 -- c25t: true = true
 replace c25:true=true:=c25
 try simp only [nrm] at c25
 -- w26: sameP [DA.one (DC.sl 26 [.int, .int] (AA (Cy (A8 ((drP b 5 (AD b (7 * 0))).1))))), DA.one (DC.sl 26 [.int, .int] (AA (drP b 5 (AD b (7 * 0))).1))]
 refine ⟨((Cy (A8 ((drP b 5 (AD b (7*0))).1))),(drP b 5 (AD b (7*0))).1),by
  rfl,by
  show (Cy (A8 ((drP b 5 (AD b (7*0))).1))).length<=1024/\((drP b 5 (AD b (7*0))).1).length<=1024
  rw [Q.res];omega,?_⟩
 refine And.symm ⟨λ c29=>?_,λ c29=>?_⟩
 ·-- c29f: (A1 (Cy (A8 ((drP b 5 (AD b (7 * 0))).1))) ((drP b 5 (AD b (7 * 0))).1)) = false
  replace c29:(A1 (Cy (A8 ((drP b 5 (AD b (7*0))).1))) ((drP b 5 (AD b (7*0))).1))=false:=c29
  try simp only [nrm] at c29
  rw [Q.res,Q.same] at c29;cases c29 -- done
 -- c29t: (A1 (Cy (A8 ((drP b 5 (AD b (7 * 0))).1))) ((drP b 5 (AD b (7 * 0))).1)) = true
 replace c29:(A1 (Cy (A8 ((drP b 5 (AD b (7*0))).1))) ((drP b 5 (AD b (7*0))).1))=true:=c29
 try simp only [nrm] at c29
 -- w30: dblAr [DA.one (DC.sl 26 [.int, .int] (AA (CQ ((drP b 5 (AD b (7 * 0))).1) ((Bn b (AD b (3 * 9))).1) ((Bn b (AD b (3 * 9))).2))))]
 refine ⟨(CQ ((drP b 5 (AD b (7*0))).1) ((Bn b (AD b (3*9))).1) ((Bn b (AD b (3*9))).2)),by
  rfl,by
  exact trivial,?_⟩
 -- w33: dblAr [DA.one (DC.sl 26 [.int, .int] (AA (drP b 5 (AD b (7 * 0))).1))]
 refine ⟨(drP b 5 (AD b (7*0))).1,by
  rfl,by
  exact trivial,?_⟩
 refine And.symm ⟨λ c36=>?_,λ c36=>?_⟩
 ·-- c36f: ((DD (CQ ((drP b 5 (AD b (7 * 0))).1) ((Bn b (AD b (3 * 9))).1) ((Bn b (AD b (3 * 9))).2))) == (DD ((drP b 5 (AD b (7 * 0))).1))) = false
  replace c36:((DD (CQ ((drP b 5 (AD b (7*0))).1) ((Bn b (AD b (3*9))).1) ((Bn b (AD b (3*9))).2))) == (DD ((drP b 5 (AD b (7*0))).1)))=false:=c36
  try simp only [nrm] at c36
  exact absurd Q.area c36 -- done
 -- c36t: ((DD (CQ ((drP b 5 (AD b (7 * 0))).1) ((Bn b (AD b (3 * 9))).1) ((Bn b (AD b (3 * 9))).2))) == (DD ((drP b 5 (AD b (7 * 0))).1))) = true
 replace c36:((DD (CQ ((drP b 5 (AD b (7*0))).1) ((Bn b (AD b (3*9))).1) ((Bn b (AD b (3*9))).2))) == (DD ((drP b 5 (AD b (7*0))).1)))=true:=c36
 try simp only [nrm] at c36
 -- w37: iNeg [DA.one (DC.sl 26 [.int, .int] (AA (drP b 5 (AD b (7 * 0))).1))]
 refine ⟨(drP b 5 (AD b (7*0))).1,by
  rfl,by
  show ((drP b 5 (AD b (7*0))).1).length<=1048576
  omega,?_⟩
 -- w40: iNeg [DA.one (DC.sl 26 [.int, .int] (AA (Bk ((drP b 5 (AD b (7 * 0))).1))))]
 refine ⟨(Bk ((drP b 5 (AD b (7*0))).1)),by
  rfl,by
  show (Bk ((drP b 5 (AD b (7*0))).1)).length<=1048576
  have:=Q.negl;omega,?_⟩
 -- w43: sameP [DA.one (DC.sl 26 [.int, .int] (AA (Bk (Bk ((drP b 5 (AD b (7 * 0))).1))))), DA.one (DC.sl 26 [.int, .int] (AA (drP b 5 (AD b (7 * 0))).1))]
 refine ⟨((Bk (Bk ((drP b 5 (AD b (7*0))).1))),(drP b 5 (AD b (7*0))).1),by
  rfl,by
  show (Bk (Bk ((drP b 5 (AD b (7*0))).1))).length<=1024/\((drP b 5 (AD b (7*0))).1).length<=1024
  rw [Q.neg];omega,?_⟩
 refine And.symm ⟨λ c46=>?_,λ c46=>?_⟩
 ·-- c46f: (A1 (Bk (Bk ((drP b 5 (AD b (7 * 0))).1))) ((drP b 5 (AD b (7 * 0))).1)) = false
  replace c46:(A1 (Bk (Bk ((drP b 5 (AD b (7*0))).1))) ((drP b 5 (AD b (7*0))).1))=false:=c46
  try simp only [nrm] at c46
  rw [Q.neg,Q.same] at c46;cases c46 -- done
 -- c46t: (A1 (Bk (Bk ((drP b 5 (AD b (7 * 0))).1))) ((drP b 5 (AD b (7 * 0))).1)) = true
 replace c46:(A1 (Bk (Bk ((drP b 5 (AD b (7*0))).1))) ((drP b 5 (AD b (7*0))).1))=true:=c46
 try simp only [nrm] at c46
 refine ao (a:=0<=(0:Int)/\(0:Int)<((AA (drP b 5 (AD b (7*0))).1).length:Int)) (by first|rfl|omega) λ o47=>?_
 refine ao (a:=0<(AA (drP b 5 (AD b (7*0))).1).length) (by first|rfl|omega) λ o48=>?_
 -- w49: iPointOf [DA.agg [DC.im (Value.int .i64 ((((AA (drP b 5 (AD b (7 * 0))).1).getD 0 []).getD 0 (.int 0))).n), DC.im (Value.int .i64 ((((AA (drP b 5 (AD b (7 * 0))).1).getD 0 []).getD 1 (.int 0))).n)]]
 refine ⟨(((((AA (drP b 5 (AD b (7*0))).1).getD 0 []).getD 0 (.int 0))).n,((((AA (drP b 5 (AD b (7*0))).1).getD 0 []).getD 1 (.int 0))).n),by
  rfl,by
  try dsimp only [BJ]
  rw [AT hl0,AU hl0];omega,?_⟩
 -- w52: iContains [DA.one (DC.sl 26 [.int, .int] (AA (drP b 5 (AD b (7 * 0))).1)), DA.agg [DC.im (Value.bool (decide ((Fr.ofInt (((((AA (drP b 5 (AD b (7 * 0))).1).getD 0 []).getD 0 (.int 0))).n)).z < 0))), DC.sl 3 [.int] (L (Fr.ofInt (((((AA (drP b 5 (AD b (7 * 0))).1).getD 0 []).getD 0 (.int 0))).
 refine ⟨((drP b 5 (AD b (7*0))).1,ptQ (ptV (((drP b 5 (AD b (7*0))).1).getD 0 (0,0)))),by
  rw [AT hl0,AU hl0];rfl,by
  show (ptQ (ptV (((drP b 5 (AD b (7*0))).1).getD 0 (0,0)))).has
  exact Va _,?_⟩
 refine And.symm ⟨λ c55=>?_,λ c55=>?_⟩
 ·-- c55f: ((cpZ ((drP b 5 (AD b (7 * 0))).1) (ptQ (ptV (((drP b 5 (AD b (7 * 0))).1).getD 0 (0, 0))))) == (0 : Int)) = false
  replace c55:((cpZ ((drP b 5 (AD b (7*0))).1) (ptQ (ptV (((drP b 5 (AD b (7*0))).1).getD 0 (0,0))))) == (0:Int))=false:=c55
  try simp only [nrm] at c55
  exact absurd Q.con c55 -- done
 -- c55t: ((cpZ ((drP b 5 (AD b (7 * 0))).1) (ptQ (ptV (((drP b 5 (AD b (7 * 0))).1).getD 0 (0, 0))))) == (0 : Int)) = true
 replace c55:((cpZ ((drP b 5 (AD b (7*0))).1) (ptQ (ptV (((drP b 5 (AD b (7*0))).1).getD 0 (0,0))))) == (0:Int))=true:=c55
 try simp only [nrm] at c55
 refine And.symm ⟨λ c56=>?_,λ c56=>?_⟩
 ·-- c56f: (decide (((loV ((drP b 5 (AD b (7 * 0))).1) ((drP b 5 (AD b (7 * 0))).1).length).1) < ((hiV ((drP b 5 (AD b (7 * 0))).1) ((drP b 5 (AD b (7 * 0))).1).length).1))) = false
  try dsimp only at c56
  try simp only [nrm] at c56
  exact absurd Q.wx (by omega) -- done
 -- c56t: (decide (((loV ((drP b 5 (AD b (7 * 0))).1) ((drP b 5 (AD b (7 * 0))).1).length).1) < ((hiV ((drP b 5 (AD b (7 * 0))).1) ((drP b 5 (AD b (7 * 0))).1).length).1))) = true
 try dsimp only at c56
 try simp only [nrm] at c56
 refine And.symm ⟨λ c57=>?_,λ c57=>?_⟩
 ·-- c57f: (decide (((loV ((drP b 5 (AD b (7 * 0))).1) ((drP b 5 (AD b (7 * 0))).1).length).2) < ((hiV ((drP b 5 (AD b (7 * 0))).1) ((drP b 5 (AD b (7 * 0))).1).length).2))) = false
  try dsimp only at c57
  try simp only [nrm] at c57
  exact absurd Q.wy (by omega) -- done
 -- c57t: (decide (((loV ((drP b 5 (AD b (7 * 0))).1) ((drP b 5 (AD b (7 * 0))).1).length).2) < ((hiV ((drP b 5 (AD b (7 * 0))).1) ((drP b 5 (AD b (7 * 0))).1).length).2))) = true
 try dsimp only at c57
 try simp only [nrm] at c57
 -- w58: iMovP [DA.one (DC.sl 26 [.int, .int] (AA (B9 ((drP b 5 (AD b (7 * 0))).1)))), DA.agg [DC.im (Value.int .i64 ((loV ((drP b 5 (AD b (7 * 0))).1) ((drP b 5 (AD b (7 * 0))).1).length).1)), DC.im (Value.int .i64 ((loV ((drP b 5 (AD b (7 * 0))).1) ((drP b 5 (AD b (7 * 0))).1).length).2))]]
 refine ⟨((B9 ((drP b 5 (AD b (7*0))).1)),((loV ((drP b 5 (AD b (7*0))).1) ((drP b 5 (AD b (7*0))).1).length).1),((loV ((drP b 5 (AD b (7*0))).1) ((drP b 5 (AD b (7*0))).1).length).2)),by
  rfl,by
  show (B9 ((drP b 5 (AD b (7*0))).1)).length<=1048576/\(B9 ((drP b 5 (AD b (7*0))).1)).all AE=true
  exact ⟨by have:=Q.orgv.2;omega,Q.orgv.1⟩,?_⟩
 -- w61: sameP [DA.one (DC.sl 26 [.int, .int] (AA (CQ (B9 ((drP b 5 (AD b (7 * 0))).1)) ((loV ((drP b 5 (AD b (7 * 0))).1) ((drP b 5 (AD b (7 * 0))).1).length).1) ((loV ((drP b 5 (AD b (7 * 0))).1) ((drP b 5 (AD b (7 * 0))).1).length).2)))), DA.one (DC.sl 26 [.int, .int] (AA (drP b 5 (skip
 refine ⟨((CQ (B9 ((drP b 5 (AD b (7*0))).1)) ((loV ((drP b 5 (AD b (7*0))).1) ((drP b 5 (AD b (7*0))).1).length).1) ((loV ((drP b 5 (AD b (7*0))).1) ((drP b 5 (AD b (7*0))).1).length).2)),(drP b 5 (AD b (7*0))).1),by
  rfl,by
  try dsimp only [Bl]
  rw [Q.org];omega,?_⟩
 -- l64: Value.bool (A1 (CQ (B9 ((drP b 5 (AD b (7 * 0))).1)) ((loV ((drP b 5 (AD b (7 * 0))).1) ((drP b 5 (AD b (7 * 0))).1).length).1) ((loV ((drP b 5 (AD b (7 * 0))).1) ((drP b 5 (AD b (7 * 0))).1).length).2)) ((drP b 5 (AD b (7 * 0))).1)) = Value.bool true
 show Value.bool (A1 (CQ (B9 ((drP b 5 (AD b (7*0))).1)) ((loV ((drP b 5 (AD b (7*0))).1) ((drP b 5 (AD b (7*0))).1).length).1) ((loV ((drP b 5 (AD b (7*0))).1) ((drP b 5 (AD b (7*0))).1).length).2)) ((drP b 5 (AD b (7*0))).1))=Value.bool true
 exact congrArg Value.bool (by rw [Q.org];exact Q.same)
end Go.Proofs.YtdgmbbjoifneiaaGreatDoor
