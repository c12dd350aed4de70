import Derived.Test.YtndnhlhnjiopfaaGreatToTch
namespace Go.Proofs.YtndnhlhnjiopfaaGreat
set_option linter.unusedVariables false
set_option linter.unusedSimpArgs false
open Go.RowKit
def hA (b:List UInt8) (n:Nat):List V2:=(drP b 5 (AF b (7*n))).1
def hV (b:List UInt8):V2:=BK b (AF b (3*9))
theorem XA {b:List UInt8} : (-10<=(hV b).1/\(hV b).1<=10)/\-10<=(hV b).2/\(hV b).2<=10:=by
 have q1:=C7 b (AF b (3*9)) (n:=21) (by omega)
 have q2:=C7 b (blC b (AF b (3*9)) 21) (n:=21) (by omega)
 refine ⟨⟨by show -10<=_-10;omega,by show _-10<=10;omega⟩,by show -10<=_-10;omega,by show _-10<=10;omega⟩
def Mu:Con:={ ι:=(List UInt8),pre:=λ i=>True,args:=λ i=>[.one (.ro (.bytes i))],res:=λ i=>⟨false,[none],[.im (Value.bool true)]⟩ }
set_option maxRecDepth 100000 in
set_option maxHeartbeats 2000000 in
theorem O1:Mu.Ok Tryz.prog 6:=by
 refine fok (X:=⟨tt,[(8,Cd),(26,F8),(27,GB),(28,HZ),(17,BG),(12,Ci),(29,Bj),(30,GA)],[],50,[]⟩) mixed AM (CTok.cons Sj (CTok.cons Uw (CTok.cons U4 (CTok.cons Vx (CTok.cons Ir (CTok.cons Mk (CTok.cons Sm (CTok.cons U3 (CTok.nil _))))))))) Tryz.func6 (λ _=>[]) ?_
 intro (b:List UInt8) hpre
 have hpre:True:=hpre
 refine AL (q:=((decide (((b.length:Nat):Int)>(1048576:Int)))=true->((Value.bool true=Value.bool true)))/\((decide (((b.length:Nat):Int)>(1048576:Int)))=false->(∃ i1:(List UInt8)×Nat,[DA.one (DC.ro (.bytes b)),DA.one (cI (0:Int))]=Cd.args i1/\Cd.pre i1/\(∃ i2:(List UInt8)×Nat,[DA.one (DC.ro (.bytes b)),DA.one (cI (1:Int))]=Cd.args i2/\Cd.pre i2/\(∃ i3:(List UInt8)×Nat,[DA.one (DC.ro (.bytes b)),DA.one (cI (9:Int))]=F8.args i3/\F8.pre i3/\(∃ i4:(List V2)×Int×Int,[DA.one (DC.sl 44 [.int,.int] (AA (drP i1.1 5 (AF i1.1 (7*i1.2))).1)),DA.agg [cI ((BK i3.1 (AF i3.1 (3*i3.2))).1),cI ((BK i3.1 (AF i3.1 (3*i3.2))).2)]]=GB.args i4/\GB.pre i4/\(∃ i5:(List V2)×(List V2),[DA.one (DC.sl 44 [.int,.int] (AA (drP i1.1 5 (AF i1.1 (7*i1.2))).1)),DA.one (DC.sl 44 [.int,.int] (AA (drP i2.1 5 (AF i2.1 (7*i2.2))).1))]=HZ.args i5/\HZ.pre i5/\(∃ i6:Int×Int,[DA.agg [cI ((BK i3.1 (AF i3.1 (3*i3.2))).1),cI ((BK i3.1 (AF i3.1 (3*i3.2))).2)]]=BG.args i6/\BG.pre i6/\(∃ i7:(List V2)×PtD,[DA.one (DC.sl 44 [.int,.int] (AA (HT i5.1 i5.2))),DA.agg [cB (decide ((Fr.ofInt i6.1).z<0)),cS (L (Fr.ofInt i6.1).z.natAbs),cS (L (Fr.ofInt i6.1).d),cB (decide ((Fr.ofInt i6.2).z<0)),cS (L (Fr.ofInt i6.2).z.natAbs),cS (L (Fr.ofInt i6.2).d)]]=Ci.args i7/\Ci.pre i7/\(∃ i8:(List V2)×(List V2),[DA.one (DC.sl 44 [.int,.int] (AA (CO i4.1 i4.2.1 i4.2.2))),DA.one (DC.sl 44 [.int,.int] (AA (drP i2.1 5 (AF i2.1 (7*i2.2))).1))]=Bj.args i8/\Bj.pre i8/\((((Ba i8.1 i8.2) == (decide ((cpZ i7.1 i7.2)≥(0:Int))))=true->(∃ i9:(List V2)×(List V2),[DA.one (DC.sl 44 [.int,.int] (AA (drP i2.1 5 (AF i2.1 (7*i2.2))).1)),DA.one (DC.sl 44 [.int,.int] (AA (CO i4.1 i4.2.1 i4.2.2)))]=Bj.args i9/\Bj.pre i9/\((((Ba i9.1 i9.2) == (decide ((cpZ i7.1 i7.2)≥(0:Int))))=true->(∃ i10:(List V2)×(List V2),[DA.one (DC.sl 44 [.int,.int] (AA (drP i1.1 5 (AF i1.1 (7*i1.2))).1)),DA.one (DC.sl 44 [.int,.int] (AA (drP i1.1 5 (AF i1.1 (7*i1.2))).1))]=Bj.args i10/\Bj.pre i10/\(((Ba i10.1 i10.2)=true->(∃ i11:(List V2)×(List V2),[DA.one (DC.sl 44 [.int,.int] (AA (drP i1.1 5 (AF i1.1 (7*i1.2))).1)),DA.one (DC.sl 44 [.int,.int] (AA (drP i1.1 5 (AF i1.1 (7*i1.2))).1))]=GA.args i11/\GA.pre i11/\((Value.bool ((Eu i11.1 i11.2) == (-1:Int))=Value.bool true))))/\((Ba i10.1 i10.2)=false->((Value.bool false=Value.bool true))))))/\(((Ba i9.1 i9.2) == (decide ((cpZ i7.1 i7.2)≥(0:Int))))=false->((Value.bool false=Value.bool true))))))/\(((Ba i8.1 i8.2) == (decide ((cpZ i7.1 i7.2)≥(0:Int))))=false->((Value.bool false=Value.bool true)))))))))))))) (by kernel_rfl) ?_
 refine ⟨λ c1=>?_,λ c1=>?_⟩
 ·-- c1t: (decide (((b.length : Nat) : Int) > (1048576 : Int))) = true
  replace c1:(decide (((b.length:Nat):Int)>(1048576:Int)))=true:=c1
  try simp only [nrm] at c1
  exact rfl
 -- c1f: (decide (((b.length : Nat) : Int) > (1048576 : Int))) = false
 replace c1:(decide (((b.length:Nat):Int)>(1048576:Int)))=false:=c1
 try simp only [nrm] at c1
 have hlen:b.length<=1048576:=by omega
 obtain ⟨p,Hp,p5⟩:=Ot (b:=b) (z:=5) (by omega) (by omega) (AF b (7*0))
 obtain ⟨p',Hp',p5'⟩:=Ot (b:=b) (z:=5) (by omega) (by omega) (AF b (7*1))
 have q1:=QG (b:=b) (z:=5) (by omega) (AF b (7*0))
 have q2:=QG (b:=b) (z:=5) (by omega) (AF b (7*1))
 have rv:=XA (b:=b)
 have Q:TouchLaw (hA b 0) (hA b 1) (hV b):=Sn q1.1 q2.1 (by show (drP b 5 (AF b (7*0))).1.length<=8;omega) (by show (drP b 5 (AF b (7*1))).1.length<=8;omega) (Hd (z:=10) (by omega) rv) (λ x hx=>Hd (z:=15) (by omega) (by have:=q1.2.2 x hx;simp only [AY];omega)) (λ i j hi hj=>Hd (z:=10) (by omega) (by rw [Bt] at hj;rw [C8 hj];have:=q2.2.2 _ (CL hi);have:=q1.2.2 _ (CL hj);simp only [AY,Ki,hA];omega))
 -- w3: mkPoly [DA.one (DC.ro (.bytes b)), DA.one (DC.im (Value.int .i64 (0 : Int)))]
 refine ⟨(b,0),by
  rfl,by
  show b.length<=1048576/\0<=100
  exact ⟨hlen,by omega⟩,?_⟩
 -- w6: mkPoly [DA.one (DC.ro (.bytes b)), DA.one (DC.im (Value.int .i64 (1 : Int)))]
 refine ⟨(b,1),by
  rfl,by
  show b.length<=1048576/\1<=100
  exact ⟨hlen,by omega⟩,?_⟩
 -- w9: mkVec [DA.one (DC.ro (.bytes b)), DA.one (DC.im (Value.int .i64 (9 : Int)))]
 refine ⟨(b,9),by
  rfl,by
  show b.length<=1048576/\9<=100
  exact ⟨hlen,by omega⟩,?_⟩
 -- w12: iMovP [DA.one (DC.sl 44 [.int, .int] (AA (drP b 5 (AF b (7 * 0))).1)), DA.agg [DC.im (Value.int .i64 ((BK b (AF b (3 * 9))).1)), DC.im (Value.int .i64 ((BK b (AF b (3 * 9))).2))]]
 refine ⟨((drP b 5 (AF b (7*0))).1,((BK b (AF b (3*9))).1),((BK b (AF b (3*9))).2)),by
  rfl,by
  show ((drP b 5 (AF b (7*0))).1).length<=1048576/\((drP b 5 (AF b (7*0))).1).all AB=true
  exact ⟨by omega,Q.veca⟩,?_⟩
 -- w15: iObs [DA.one (DC.sl 44 [.int, .int] (AA (drP b 5 (AF b (7 * 0))).1)), DA.one (DC.sl 44 [.int, .int] (AA (drP b 5 (AF b (7 * 1))).1))]
 refine ⟨((drP b 5 (AF b (7*0))).1,(drP b 5 (AF b (7*1))).1),by
  rfl,by
  show ((drP b 5 (AF b (7*0))).1).length<=1048576/\((drP b 5 (AF b (7*1))).1).length<=1048576
  omega,?_⟩
 -- w18: iPointOf [DA.agg [DC.im (Value.int .i64 ((BK b (AF b (3 * 9))).1)), DC.im (Value.int .i64 ((BK b (AF b (3 * 9))).2))]]
 refine ⟨(((BK b (AF b (3*9))).1),((BK b (AF b (3*9))).2)),by
  rfl,by
  try dsimp only [BG]
  have:=rv;simp only [hV] at this;omega,?_⟩
 -- w21: iContains [DA.one (DC.sl 44 [.int, .int] (AA (HT ((drP b 5 (AF b (7 * 0))).1) ((drP b 5 (AF b (7 * 1))).1)))), DA.agg [DC.im (Value.bool (decide ((Fr.ofInt ((BK b (AF b (3 * 9))).1)).z < 0))), DC.sl 3 [.int] (L (Fr.ofInt ((BK b (AF b (3 * 9))).1)).z.natAbs), DC.sl 3 [.int] (L (Fr.ofInt ((
 refine ⟨(HT (hA b 0) (hA b 1),ptQ (ptV (hV b))),by
  rfl,by
  show (ptQ (ptV (hV b))).has
  exact Vl _,?_⟩
 -- w24: iTouch [DA.one (DC.sl 44 [.int, .int] (AA (CO ((drP b 5 (AF b (7 * 0))).1) ((BK b (AF b (3 * 9))).1) ((BK b (AF b (3 * 9))).2)))), DA.one (DC.sl 44 [.int, .int] (AA (drP b 5 (AF b (7 * 1))).1))]
 refine ⟨((CO ((drP b 5 (AF b (7*0))).1) ((BK b (AF b (3*9))).1) ((BK b (AF b (3*9))).2)),(drP b 5 (AF b (7*1))).1),by
  rfl,by
  exact trivial,?_⟩
 refine And.symm ⟨λ c27=>?_,λ c27=>?_⟩
 ·-- c27f: ((Ba (CO ((drP b 5 (AF b (7 * 0))).1) ((BK b (AF b (3 * 9))).1) ((BK b (AF b (3 * 9))).2)) ((drP b 5 (AF b (7 * 1))).1)) == (decide ((cpZ (HT (hA b 0) (hA b 1)) (ptQ (ptV (hV b)))) ≥ (0 : Int)))) = false
  try dsimp only at c27
  try simp only [nrm] at c27
  exact absurd Q.t1 c27 -- done
 -- c27t: ((Ba (CO ((drP b 5 (AF b (7 * 0))).1) ((BK b (AF b (3 * 9))).1) ((BK b (AF b (3 * 9))).2)) ((drP b 5 (AF b (7 * 1))).1)) == (decide ((cpZ (HT (hA b 0) (hA b 1)) (ptQ (ptV (hV b)))) ≥ (0 : Int)))) = true
 try dsimp only at c27
 try simp only [nrm] at c27
 -- w28: iTouch [DA.one (DC.sl 44 [.int, .int] (AA (drP b 5 (AF b (7 * 1))).1)), DA.one (DC.sl 44 [.int, .int] (AA (CO ((drP b 5 (AF b (7 * 0))).1) ((BK b (AF b (3 * 9))).1) ((BK b (AF b (3 * 9))).2))))]
 refine ⟨((drP b 5 (AF b (7*1))).1,(CO ((drP b 5 (AF b (7*0))).1) ((BK b (AF b (3*9))).1) ((BK b (AF b (3*9))).2))),by
  rfl,by
  exact trivial,?_⟩
 refine And.symm ⟨λ c31=>?_,λ c31=>?_⟩
 ·-- c31f: ((Ba ((drP b 5 (AF b (7 * 1))).1) (CO ((drP b 5 (AF b (7 * 0))).1) ((BK b (AF b (3 * 9))).1) ((BK b (AF b (3 * 9))).2))) == (decide ((cpZ (HT (hA b 0) (hA b 1)) (ptQ (ptV (hV b)))) ≥ (0 : Int)))) = false
  try dsimp only at c31
  try simp only [nrm] at c31
  exact absurd Q.t2 c31 -- done
 -- c31t: ((Ba ((drP b 5 (AF b (7 * 1))).1) (CO ((drP b 5 (AF b (7 * 0))).1) ((BK b (AF b (3 * 9))).1) ((BK b (AF b (3 * 9))).2))) == (decide ((cpZ (HT (hA b 0) (hA b 1)) (ptQ (ptV (hV b)))) ≥ (0 : Int)))) = true
 try dsimp only at c31
 try simp only [nrm] at c31
 -- w32: iTouch [DA.one (DC.sl 44 [.int, .int] (AA (drP b 5 (AF b (7 * 0))).1)), DA.one (DC.sl 44 [.int, .int] (AA (drP b 5 (AF b (7 * 0))).1))]
 refine ⟨((drP b 5 (AF b (7*0))).1,(drP b 5 (AF b (7*0))).1),by
  rfl,by
  exact trivial,?_⟩
 refine And.symm ⟨λ c35=>?_,λ c35=>?_⟩
 ·-- c35f: (Ba ((drP b 5 (AF b (7 * 0))).1) ((drP b 5 (AF b (7 * 0))).1)) = false
  replace c35:(Ba ((drP b 5 (AF b (7*0))).1) ((drP b 5 (AF b (7*0))).1))=false:=c35
  try simp only [nrm] at c35
  exact absurd Q.t3 (by show ¬ Ba (drP b 5 (AF b (7*0))).1 (drP b 5 (AF b (7*0))).1=true;rw [c35];simp) -- done
 -- c35t: (Ba ((drP b 5 (AF b (7 * 0))).1) ((drP b 5 (AF b (7 * 0))).1)) = true
 replace c35:(Ba ((drP b 5 (AF b (7*0))).1) ((drP b 5 (AF b (7*0))).1))=true:=c35
 try simp only [nrm] at c35
 -- w36: iSepE [DA.one (DC.sl 44 [.int, .int] (AA (drP b 5 (AF b (7 * 0))).1)), DA.one (DC.sl 44 [.int, .int] (AA (drP b 5 (AF b (7 * 0))).1))]
 refine ⟨((drP b 5 (AF b (7*0))).1,(drP b 5 (AF b (7*0))).1),by
  rfl,by
  exact trivial,?_⟩
 -- l39: Value.bool ((Eu ((drP b 5 (AF b (7 * 0))).1) ((drP b 5 (AF b (7 * 0))).1)) == (-1 : Int)) = Value.bool true
 show Value.bool ((Eu ((drP b 5 (AF b (7*0))).1) ((drP b 5 (AF b (7*0))).1)) == (-1:Int))=Value.bool true
 exact congrArg Value.bool (by rw [show Eu (drP b 5 (AF b (7*0))).1 (drP b 5 (AF b (7*0))).1=-1 from Q.t4];rfl)
end Go.Proofs.YtndnhlhnjiopfaaGreat
