import Derived.Test.YtndnhlhnjiopfaaGreatDi2RkH
import Derived.Test.YtndnhlhnjiopfaaGreatDi2RkD2
namespace Go.Proofs.YtndnhlhnjiopfaaGreat
set_option maxRecDepth 100000
set_option linter.unusedVariables false
set_option linter.unusedSimpArgs false
open Go.RowKit
def rOf (n d:Int):Fr:=if d=0 then Fr.none else Fr.mk' (zOf (decide (n<0) != decide (d<0)) n.natAbs) d.natAbs
theorem OM {n d:Int} (h:d=0):rOf n d=Fr.none:=by unfold rOf;rw [if_pos h]
theorem I1 {n d:Int} (h:d≠0):rOf n d=Fr.mk' (zOf (decide (n<0) != decide (d<0)) n.natAbs) d.natAbs:=by unfold rOf;rw [if_neg h]
theorem Ku {x:Int} (h:nl x.natAbs<=60):Ai (decide (x<0)) (L x.natAbs)=true:=by rw [PU,decide_eq_true h]
theorem W9 (x y:Int):FT (zOf (decide (x<0) != decide (y<0)) x.natAbs) y.natAbs=rOf x y:=by
 by_cases h:y=0
 ·rw [OM h,VR (by omega)]
 ·rw [I1 h,Im (by omega)]
theorem ON {d:Int} (h:d≠0):(d:Rat)≠0:=λ e=>h (by have:=congrArg Rat.num e;simpa using this)
theorem YO (n d:Int) (h:d≠0):mkRat (zOf (decide (n<0) != decide (d<0)) n.natAbs) d.natAbs=(n:Rat)/(d:Rat):=by
 rw [div_mk (ON h)]
 have e1:((n:Int):Rat).num=n:=by simp
 have e2:((n:Int):Rat).den=1:=by simp
 have e3:((d:Int):Rat).num=d:=by simp
 have e4:((d:Int):Rat).den=1:=by simp
 rw [e1,e2,e3,e4]
 congr 1
 ·unfold zOf
  by_cases h1:n<0 <;> by_cases h2:d<0 <;> simp [h1,h2] <;> omega
 ·omega
theorem YP {z:Int} {d:Nat} (hd:d≠0) (h1:nl z.natAbs<=24) (h2:nl d<=24):MQ (mkRat z d)=true:=by
 rw [DY,DZ hd,(Dl hd).2]
 exact ⟨Nat.le_trans (Cl (Nat.div_le_self _ _)) h1,Nat.le_trans (Cl (Nat.div_le_self _ _)) h2⟩
theorem Xc {n d:Int} (h:d≠0) (h1:nl n.natAbs<=24) (h2:nl d.natAbs<=24):(rOf n d).v=some ((n:Rat)/(d:Rat)):=by
 rw [I1 h]
 unfold Fr.mk'
 rw [← YO n d h]
 exact CT (YP (by omega) (by rw [CZ];exact h1) h2)
def D7:Con:={ ι:=Int×Int,pre:=λ i=>nl i.1.natAbs<=24/\nl i.2.natAbs<=24,args:=λ i=>[.agg [.im (.bool (decide (i.1<0))),.sl 3 [.int] (L i.1.natAbs)],.agg [.im (.bool (decide (i.2<0))),.sl 3 [.int] (L i.2.natAbs)]],res:=λ i=>⟨false,[some 3],[.im (Value.bool (decide ((rOf i.1 i.2).z<0))),.own 3 [.int] (L (rOf i.1 i.2).z.natAbs),.own 3 [.int] (L (rOf i.1 i.2).d)]⟩ }
theorem OO:D7.Ok Tryz.prog 107:=by
 refine fok (X:=⟨tt,[(136,BO),(141,BN)],[],24,[]⟩) AG AH (CTok.cons Io (CTok.cons NK (CTok.nil _))) Tryz.func107 (λ _=>[]) ?_
 rintro ⟨x,y⟩ hpre
 have hpre:nl x.natAbs<=24/\nl y.natAbs<=24:=hpre
 refine AF (q:=∃ i1:Bool×(List (List Dat)),[dB x]=BO.args i1/\BO.pre i1/\(((!(!(Ai i1.1 i1.2)))=true->(∃ i2:Bool×(List (List Dat)),[dB y]=BO.args i2/\BO.pre i2/\(((!(Ai i2.1 i2.2))=true->((eqN (rOf x y))))/\((!(Ai i2.1 i2.2))=false->(∃ i3:Bool×Nat×Nat×Int,[DA.one (cB ((decide (x<0)) != (decide (y<0)))),DA.one (cS (L x.natAbs)),DA.one (cS (L y.natAbs))]=BN.args i3/\BN.pre i3/\((eqC (FT i3.2.2.2 i3.2.2.1) (rOf x y))))))))/\((!(!(Ai i1.1 i1.2)))=false->((eqN (rOf x y)))))) (by kernel_rfl) ?_
 have e1:=Ku (x:=x) (Nat.le_trans hpre.1 (by decide))
 have e2:=Ku (x:=y) (Nat.le_trans hpre.2 (by decide))
 have ly:=AL y.natAbs
 have lx:=AL x.natAbs
 -- w1: sBigIntOk [DA.agg [DC.im (Value.bool (decide (x < 0))), DC.sl 3 [.int] (L x.natAbs)]]
 refine ⟨(decide (x<0),(L x.natAbs)),by
  rfl,by
  show (L x.natAbs).length<=9223372036854775807
  first|trivial|(rw [AL];omega)|exact ⟨by omega,by omega,rfl⟩,?_⟩
 refine And.symm ⟨λ c4=>?_,λ c4=>?_⟩
 ·-- c4f: (!(!(Ai (decide (x < 0)) (L x.natAbs)))) = false
  replace c4:(!(!(Ai (decide (x<0)) (L x.natAbs))))=false:=c4
  try simp only [nrm] at c4
  rw [e1] at c4;cases c4 -- done
 -- c4t: (!(!(Ai (decide (x < 0)) (L x.natAbs)))) = true
 replace c4:(!(!(Ai (decide (x<0)) (L x.natAbs))))=true:=c4
 try simp only [nrm] at c4
 -- w5: sBigIntOk [DA.agg [DC.im (Value.bool (decide (y < 0))), DC.sl 3 [.int] (L y.natAbs)]]
 refine ⟨(decide (y<0),(L y.natAbs)),by
  rfl,by
  show (L y.natAbs).length<=9223372036854775807
  first|trivial|(rw [AL];omega)|exact ⟨by omega,by omega,rfl⟩,?_⟩
 refine ⟨λ c8=>?_,λ c8=>?_⟩
 ·-- c8t: (!(Ai (decide (y < 0)) (L y.natAbs))) = true
  replace c8:(!(Ai (decide (y<0)) (L y.natAbs)))=true:=c8
  try simp only [nrm] at c8
  rw [e2] at c8;cases c8 -- done
 -- c8f: (!(Ai (decide (y < 0)) (L y.natAbs))) = false
 replace c8:(!(Ai (decide (y<0)) (L y.natAbs)))=false:=c8
 try simp only [nrm] at c8
 -- w12: l04Low [DA.one (DC.im (Value.bool ((decide (x < 0)) != (decide (y < 0))))), DA.one (DC.sl 3 [.int] (L x.natAbs)), DA.one (DC.sl 3 [.int] (L y.natAbs))]
 refine ⟨(((decide (x<0)) != (decide (y<0))),x.natAbs,y.natAbs,(zOf ((decide (x<0)) != (decide (y<0))) x.natAbs)),by
  rfl,by
  show nl x.natAbs<=1000/\nl y.natAbs<=1000/\zOf ((decide (x<0)) != (decide (y<0))) x.natAbs=(zOf ((decide (x<0)) != (decide (y<0))) x.natAbs)
  first|trivial|(rw [AL];omega)|exact ⟨by omega,by omega,rfl⟩,?_⟩
 refine A6 ?_
 -- l15: FT (zOf ((decide (x < 0)) != (decide (y < 0))) x.natAbs) y.natAbs = rOf x y
 show FT (zOf ((decide (x<0)) != (decide (y<0))) x.natAbs) y.natAbs=rOf x y
 first|exact W9 _ _|contradiction
def Ex:Con:={ ι:=Int×Int,pre:=λ i=>(-9223372036854775808<=i.1/\i.1<=9223372036854775807)/\(-9223372036854775808<=i.2/\i.2<=9223372036854775807),args:=λ i=>[.one (.im (.int .i64 i.1)),.one (.im (.int .i64 i.2))],res:=λ i=>⟨false,[some 3],[.im (Value.bool (decide ((rOf i.1 i.2).z<0))),.own 3 [.int] (L (rOf i.1 i.2).z.natAbs),.own 3 [.int] (L (rOf i.1 i.2).d)]⟩ }
theorem T6:Ex.Ok Tryz.prog 67:=by
 refine fok (X:=⟨tt,[(108,BP),(107,D7)],[],10,[]⟩) AG AH (CTok.cons Ip (CTok.cons OO (CTok.nil _))) Tryz.func67 (λ _=>[]) ?_
 rintro ⟨n,d⟩ hpre
 have hpre:(-9223372036854775808<=n/\n<=9223372036854775807)/\(-9223372036854775808<=d/\d<=9223372036854775807):=hpre
 refine AF (q:=∃ i1:Int,[DA.one (cI n)]=BP.args i1/\BP.pre i1/\(∃ i2:Int,[DA.one (cI d)]=BP.args i2/\BP.pre i2/\(∃ i3:Int×Int,[dB i1,dB i2]=D7.args i3/\D7.pre i3/\((eqC (rOf i3.1 i3.2) (rOf n d)))))) (by kernel_rfl) ?_
 -- w1: sBigIntOf [DA.one (DC.im (Value.int .i64 n))]
 refine ⟨n,by
  rfl,by
  show -9223372036854775808<=n/\n<=9223372036854775807
  first|exact hpre.1|exact hpre.2|exact ⟨Nat.le_trans (Bk hpre.1) (by decide),Nat.le_trans (Bk hpre.2) (by decide)⟩,?_⟩
 -- w4: sBigIntOf [DA.one (DC.im (Value.int .i64 d))]
 refine ⟨d,by
  rfl,by
  show -9223372036854775808<=d/\d<=9223372036854775807
  first|exact hpre.1|exact hpre.2|exact ⟨Nat.le_trans (Bk hpre.1) (by decide),Nat.le_trans (Bk hpre.2) (by decide)⟩,?_⟩
 -- w7: sRatMakeB [DA.agg [DC.im (Value.bool (decide (n < 0))), DC.sl 3 [.int] (L n.natAbs)], DA.agg [DC.im (Value.bool (decide (d < 0))), DC.sl 3 [.int] (L d.natAbs)]]
 refine ⟨(n,d),by
  rfl,by
  show nl n.natAbs<=24/\nl d.natAbs<=24
  first|exact hpre.1|exact hpre.2|exact ⟨Nat.le_trans (Bk hpre.1) (by decide),Nat.le_trans (Bk hpre.2) (by decide)⟩,?_⟩
 exact A6 rfl
def ptC (b:List UInt8) (c:Cur):Pq:=⟨if blV b (BU b c) 3=0 then Fr.add (Fr.ofInt (CA b c).1) (rOf 1 (2+blV b (blC b (BU b c) 3) 3)) else Fr.ofInt (CA b c).1,Fr.ofInt (CA b c).2⟩
def ptE (b:List UInt8) (c:Cur):Cur:=if blV b (BU b c) 3=0 then blC b (blC b (BU b c) 3) 3 else blC b (BU b c) 3
theorem B5 {b:List UInt8} {c:Cur} (h:blV b (BU b c) 3=0):(ptC b c).x=Fr.add (Fr.ofInt (CA b c).1) (rOf 1 (2+blV b (blC b (BU b c) 3) 3))/\ptE b c=blC b (blC b (BU b c) 3) 3:=⟨if_pos h,if_pos h⟩
theorem Ci {b:List UInt8} {c:Cur} (h:¬ blV b (BU b c) 3=0):(ptC b c).x=Fr.ofInt (CA b c).1/\ptE b c=blC b (BU b c) 3:=⟨if_neg h,if_neg h⟩
theorem QC (b:List UInt8) (c:Cur):(-10<=(CA b c).1/\(CA b c).1<=10)/\-10<=(CA b c).2/\(CA b c).2<=10:=by
 have q1:=Dc b c (n:=21) (by omega)
 have q2:=Dc b (blC b c 21) (n:=21) (by omega)
 refine ⟨⟨by show -10<=_-10;omega,by show _-10<=10;omega⟩,by show -10<=_-10;omega,by show _-10<=10;omega⟩
def RU:(List UInt8)×Cur->List PC:=λ i=>[.bt i.1,.im (.int .i64 i.2.i),.im (.int .i64 i.2.h)]
def V5:(List UInt8)×Cur->List PC:=λ i=>[.bt i.1,.im (.int .i64 (((ptE i.1 i.2)).i)),.im (.int .i64 (((ptE i.1 i.2)).h))]
def Kv:Con:={ ι:=(List UInt8)×Cur,pre:=λ i=>A8 i.1 i.2,args:=λ i=>[],ptr:=some (RU,V5),res:=λ i=>⟨false,[some 6],[.im (Value.bool (decide (((ptC i.1 i.2)).x.z<0))),.own 3 [.int] (L ((ptC i.1 i.2)).x.z.natAbs),.own 3 [.int] (L ((ptC i.1 i.2)).x.d),.im (Value.bool (decide (((ptC i.1 i.2)).y.z<0))),.own 3 [.int] (L ((ptC i.1 i.2)).y.z.natAbs),.own 3 [.int] (L ((ptC i.1 i.2)).y.d)]⟩ }
theorem YQ:Kv.OkP Tryz.prog 31 RU V5:=by
 refine Tv (X:=⟨tt,[(57,Iy),(64,EV),(65,Iz),(68,A3),(67,Ex),(66,E9)],[4000000],18,[]⟩) AG AH (CTok.consP W1 (CTok.cons Pf (CTok.consP W2 (CTok.consP Ix (CTok.cons T6 (CTok.cons Q6 (CTok.nil _))))))) Tryz.func31 (λ _=>[]) ?_
 rintro ⟨b,c⟩ hpre
 have hpre:A8 b c:=hpre
 refine AF (q:=∃ i1:(List UInt8)×Cur,[]=Iy.args i1/\[PC.bt b,PC.im (Value.int .i64 c.i),PC.im (Value.int .i64 c.h)]=OF i1/\Iy.pre i1/\(∃ i2:Int×Int,[DA.agg [cI ((CA i1.1 i1.2).1),cI ((CA i1.1 i1.2).2)]]=EV.args i2/\EV.pre i2/\(∃ i3:(List UInt8)×Cur×Int,[DA.one (cI (3:Int))]=Iz.args i3/\[PC.bt b,PC.im (Value.int .i64 ((BU i1.1 i1.2).i)),PC.im (Value.int .i64 ((BU i1.1 i1.2).h))]=OG i3/\Iz.pre i3/\(((decide (blV i3.1 i3.2.1 i3.2.2=0))=true->(∃ i4:(List UInt8)×Cur×Int,[DA.one (cI (3:Int))]=A3.args i4/\[PC.bt b,PC.im (Value.int .i64 ((blC i3.1 i3.2.1 i3.2.2).i)),PC.im (Value.int .i64 ((blC i3.1 i3.2.1 i3.2.2).h))]=Dd i4/\A3.pre i4/\(∃ i5:Int×Int,[DA.one (cI (1:Int)),DA.one (cI (IntKind.i64.wrap ((2:Int)+(blV i4.1 i4.2.1 i4.2.2))))]=Ex.args i5/\Ex.pre i5/\(∃ i6:Fr×Fr,[dF (Fr.ofInt i2.1),dF (rOf i5.1 i5.2)]=E9.args i6/\E9.pre i6/\((eqD (Fr.add i6.1 i6.2) (((ptC b c)).x) ((eqD (Fr.ofInt i2.2) (((ptC b c)).y) ((Value.int .i64 ((blC i4.1 i4.2.1 i4.2.2).i)=Value.int .i64 (((ptE b c)).i))/\(Value.int .i64 ((blC i4.1 i4.2.1 i4.2.2).h)=Value.int .i64 (((ptE b c)).h)))))))))))/\((decide (blV i3.1 i3.2.1 i3.2.2=0))=false->((eqD (Fr.ofInt i2.1) (((ptC b c)).x) ((eqD (Fr.ofInt i2.2) (((ptC b c)).y) ((Value.int .i64 ((blC i3.1 i3.2.1 i3.2.2).i)=Value.int .i64 (((ptE b c)).i))/\(Value.int .i64 ((blC i3.1 i3.2.1 i3.2.2).h)=Value.int .i64 (((ptE b c)).h)))))))))))) (by kernel_rfl) ?_
 have k1:=Bl 21 hpre
 have k2:A8 b (BU b c):=Bl 21 k1
 have k3:=Bl 3 k2
 have rv:=QC b c
 have rb:=Dc b (blC b (BU b c) 3) (n:=3) (by omega)
 have hw2:IntKind.i64.wrap (2+blV b (blC b (BU b c) 3) 3)=2+blV b (blC b (BU b c) 3) 3:=AB (by omega) (by omega)
 -- w1: dVec []
 refine ⟨(b,c),by
  rfl,rfl,by
  show A8 b c
  first|exact hpre|exact k2|exact k3|trivial|omega|(rw [hw2];omega),?_⟩
 -- w4: sPointOf [DA.agg [DC.im (Value.int .i64 ((CA b c).1)), DC.im (Value.int .i64 ((CA b c).2))]]
 refine ⟨(((CA b c).1),((CA b c).2)),by
  rfl,by
  show (-9223372036854775808<=((CA b c).1)/\((CA b c).1)<=9223372036854775807)/\-9223372036854775808<=((CA b c).2)/\((CA b c).2)<=9223372036854775807
  first|exact hpre|exact k2|exact k3|trivial|omega|(rw [hw2];omega),?_⟩
 -- w7: once [DA.one (DC.im (Value.int .i64 (3 : Int)))]
 refine ⟨(b,(BU b c),(3:Int)),by
  rfl,rfl,by
  show A8 b (BU b c)
  first|exact hpre|exact k2|exact k3|trivial|omega|(rw [hw2];omega),?_⟩
 refine And.symm ⟨λ c10=>?_,λ c10=>?_⟩
 ·-- c10f: (decide (blV b (BU b c) (3 : Int) = 0)) = false
  replace c10:(decide (blV b (BU b c) (3:Int)=0))=false:=c10
  try simp only [nrm] at c10
  refine GH ?_ (GH ?_ ⟨?_,?_⟩)
  ·-- l28: Fr.ofInt ((CA b c).1) = ((ptC b c)).x
   show Fr.ofInt ((CA b c).1)=((ptC b c)).x
   first|rfl|(rw [(B5 c10).1,hw2];done)|(rw [(B5 c10).2];done)|(rw [(Ci c10).1];done)|(rw [(Ci c10).2];done)
  ·-- l31: Fr.ofInt ((CA b c).2) = ((ptC b c)).y
   show Fr.ofInt ((CA b c).2)=((ptC b c)).y
   first|rfl|(rw [(B5 c10).1,hw2];done)|(rw [(B5 c10).2];done)|(rw [(Ci c10).1];done)|(rw [(Ci c10).2];done)
  ·-- l34: Value.int .i64 ((blC b (BU b c) (3 : Int)).i) = Value.int .i64 (((ptE b c)).i)
   show Value.int .i64 ((blC b (BU b c) (3:Int)).i)=Value.int .i64 (((ptE b c)).i)
   first|rfl|(rw [(B5 c10).1,hw2];done)|(rw [(B5 c10).2];done)|(rw [(Ci c10).1];done)|(rw [(Ci c10).2];done)
  -- l35: Value.int .i64 ((blC b (BU b c) (3 : Int)).h) = Value.int .i64 (((ptE b c)).h)
  show Value.int .i64 ((blC b (BU b c) (3:Int)).h)=Value.int .i64 (((ptE b c)).h)
  first|rfl|(rw [(B5 c10).1,hw2];done)|(rw [(B5 c10).2];done)|(rw [(Ci c10).1];done)|(rw [(Ci c10).2];done)
 -- c10t: (decide (blV b (BU b c) (3 : Int) = 0)) = true
 replace c10:(decide (blV b (BU b c) (3:Int)=0))=true:=c10
 try simp only [nrm] at c10
 -- w11: below [DA.one (DC.im (Value.int .i64 (3 : Int)))]
 refine ⟨(b,(blC b (BU b c) (3:Int)),(3:Int)),by
  rfl,rfl,by
  show A8 b (blC b (BU b c) (3:Int))
  first|exact hpre|exact k2|exact k3|trivial|omega|(rw [hw2];omega),?_⟩
 -- w14: sRatOf [DA.one (DC.im (Value.int .i64 (1 : Int))), DA.one (DC.im (Value.int .i64 (IntKind.i64.wrap ((2 : Int) + (blV b (blC b (BU b c) (3 : Int)) (3 : Int))))))]
 refine ⟨((1:Int),(IntKind.i64.wrap ((2:Int)+(blV b (blC b (BU b c) (3:Int)) (3:Int))))),by
  rfl,by
  try dsimp only [Ex]
  first|exact hpre|exact k2|exact k3|trivial|omega|(rw [hw2];omega),?_⟩
 -- w17: sRatAdd [DA.agg [DC.im (Value.bool (decide ((Fr.ofInt ((CA b c).1)).z < 0))), DC.sl 3 [.int] (L (Fr.ofInt ((CA b c).1)).z.natAbs), DC.sl 3 [.int] (L (Fr.ofInt ((CA b c).1)).d)], DA.agg [DC.im (Value.bool (decide ((rOf (1 : Int) (IntKind.i64.wrap ((2 : Int) + (blV b (blC b (BU b c) (3 : Int)) (3 : In
 refine ⟨((Fr.ofInt ((CA b c).1)),(rOf (1:Int) (IntKind.i64.wrap ((2:Int)+(blV b (blC b (BU b c) (3:Int)) (3:Int)))))),by
  rfl,by
  first|exact hpre|exact k2|exact k3|trivial|omega|(rw [hw2];omega),?_⟩
 refine GH ?_ (GH ?_ ⟨?_,?_⟩)
 ·-- l20: Fr.add (Fr.ofInt ((CA b c).1)) (rOf (1 : Int) (IntKind.i64.wrap ((2 : Int) + (blV b (blC b (BU b c) (3 : Int)) (3 : Int))))) = ((ptC b c)).x
  show Fr.add (Fr.ofInt ((CA b c).1)) (rOf (1:Int) (IntKind.i64.wrap ((2:Int)+(blV b (blC b (BU b c) (3:Int)) (3:Int)))))=((ptC b c)).x
  first|rfl|(rw [(B5 c10).1,hw2];done)|(rw [(B5 c10).2];done)|(rw [(Ci c10).1];done)|(rw [(Ci c10).2];done)
 ·-- l23: Fr.ofInt ((CA b c).2) = ((ptC b c)).y
  show Fr.ofInt ((CA b c).2)=((ptC b c)).y
  first|rfl|(rw [(B5 c10).1,hw2];done)|(rw [(B5 c10).2];done)|(rw [(Ci c10).1];done)|(rw [(Ci c10).2];done)
 ·-- l26: Value.int .i64 ((blC b (blC b (BU b c) (3 : Int)) (3 : Int)).i) = Value.int .i64 (((ptE b c)).i)
  show Value.int .i64 ((blC b (blC b (BU b c) (3:Int)) (3:Int)).i)=Value.int .i64 (((ptE b c)).i)
  first|rfl|(rw [(B5 c10).1,hw2];done)|(rw [(B5 c10).2];done)|(rw [(Ci c10).1];done)|(rw [(Ci c10).2];done)
 -- l27: Value.int .i64 ((blC b (blC b (BU b c) (3 : Int)) (3 : Int)).h) = Value.int .i64 (((ptE b c)).h)
 show Value.int .i64 ((blC b (blC b (BU b c) (3:Int)) (3:Int)).h)=Value.int .i64 (((ptE b c)).h)
 first|rfl|(rw [(B5 c10).1,hw2];done)|(rw [(B5 c10).2];done)|(rw [(Ci c10).1];done)|(rw [(Ci c10).2];done)
def F4:Con:={ ι:=(List UInt8)×Nat,pre:=λ i=>i.1.length<=1048576/\i.2<=100,args:=λ i=>[.one (.ro (.bytes i.1)),.one (.im (.int .i64 (i.2:Int)))],res:=λ i=>⟨false,[some 6],[.im (Value.bool (decide (((ptC i.1 (AA i.1 (4*i.2)))).x.z<0))),.own 3 [.int] (L ((ptC i.1 (AA i.1 (4*i.2)))).x.z.natAbs),.own 3 [.int] (L ((ptC i.1 (AA i.1 (4*i.2)))).x.d),.im (Value.bool (decide (((ptC i.1 (AA i.1 (4*i.2)))).y.z<0))),.own 3 [.int] (L ((ptC i.1 (AA i.1 (4*i.2)))).y.z.natAbs),.own 3 [.int] (L ((ptC i.1 (AA i.1 (4*i.2)))).y.d)]⟩ }
theorem XA:F4.Ok Tryz.prog 7:=by
 refine fok (X:=⟨tt,[(32,Dt),(31,Kv)],[],10,[]⟩) AG AH (CTok.consN P6 (CTok.consP YQ (CTok.nil _))) Tryz.func7 (λ _=>[]) ?_
 rintro ⟨b,n⟩ hpre
 have hpre:b.length<=1048576/\n<=100:=hpre
 refine AF (q:=∃ i1:(List UInt8)×Nat,[DA.one (DC.ro (.bytes b)),DA.one (cI (IntKind.i64.wrap ((4:Int)*(n:Int))))]=Dt.args i1/\Dt.pre i1/\(∃ i2:(List UInt8)×Cur,[]=Kv.args i2/\[PC.bt b,PC.im (Value.int .i64 ((AA i1.1 i1.2).i)),PC.im (Value.int .i64 ((AA i1.1 i1.2).h))]=RU i2/\Kv.pre i2/\((eqD (((ptC i2.1 i2.2)).x) (((ptC b (AA b (4*n)))).x) ((eqC (((ptC i2.1 i2.2)).y) (((ptC b (AA b (4*n)))).y))))))) (by kernel_rfl) ?_
 have hw:IntKind.i64.wrap (4*(n:Int))=((4*n:Nat):Int):=by rw [AB (by omega) (by omega)];omega
 -- w1: new31 [DA.one (DC.ro (.bytes b)), DA.one (DC.im (Value.int .i64 (IntKind.i64.wrap ((4 : Int) * (n : Int)))))]
 refine ⟨(b,4*n),by
  first|rfl|(rw [hw];rfl),by
  show b.length<=1048576/\(4*n)<=1000
  first|exact ⟨hpre.1,by omega⟩|exact Ew hpre.1 _,?_⟩
 -- w4: dPt []
 refine ⟨(b,(AA b (4*n))),by
  first|rfl|(rw [hw];rfl),rfl,by
  show A8 b (AA b (4*n))
  first|exact ⟨hpre.1,by omega⟩|exact Ew hpre.1 _,?_⟩
 exact GH rfl (A6 rfl)
def FK:Con:={ ι:=Fr×Fr,pre:=λ i=>True,args:=λ i=>[.agg [.im (.bool (decide (i.1.z<0))),.sl 3 [.int] (L i.1.z.natAbs),.sl 3 [.int] (L i.1.d)],.agg [.im (.bool (decide (i.2.z<0))),.sl 3 [.int] (L i.2.z.natAbs),.sl 3 [.int] (L i.2.d)]],mono:=true,res:=λ i=>⟨false,[none],[.im (Value.bool (i.1.good && i.2.good))]⟩ }
theorem RV:FK.Ok Tryz.prog 50:=by
 refine fok (X:=⟨tt,[(15,Ao)],[],11,[]⟩) AG AH (CTok.cons Il (CTok.nil _)) Tryz.func50 (λ _=>[]) ?_
 rintro ⟨r,s⟩ hpre
 have hpre:True:=hpre
 refine AF (q:=∃ i1:Bool×(List (List Dat))×(List (List Dat)),[dF r]=Ao.args i1/\Ao.pre i1/\(((AZ i1.1 i1.2.1 i1.2.2)=true->(∃ i2:Bool×(List (List Dat))×(List (List Dat)),[dF s]=Ao.args i2/\Ao.pre i2/\((Value.bool (AZ i2.1 i2.2.1 i2.2.2)=Value.bool (r.good && s.good)))))/\((AZ i1.1 i1.2.1 i1.2.2)=false->((Value.bool false=Value.bool (r.good && s.good)))))) (by kernel_rfl) ?_
 have n1:=r.nlz
 have n2:=r.nld
 have l1:=AL r.z.natAbs
 have l2:=AL r.d
 have n3:=s.nlz
 have n4:=s.nld
 have l3:=AL s.z.natAbs
 have l4:=AL s.d
 -- w1: RatOk [DA.agg [DC.im (Value.bool (decide (r.z < 0))), DC.sl 3 [.int] (L r.z.natAbs), DC.sl 3 [.int] (L r.d)]]
 refine ⟨(decide (r.z<0),(L r.z.natAbs),(L r.d)),by
  rfl,by
  show Dat.has (.sl 3 [.int]) (.sl (L r.z.natAbs))/\Dat.has (.sl 3 [.int]) (.sl (L r.d))/\(L r.z.natAbs).length<=9223372036854775807/\(L r.d).length<=9223372036854775807
  exact ⟨Dg _ (by omega),Dg _ (by omega),by omega,by omega⟩,?_⟩
 refine And.symm ⟨λ c4=>?_,λ c4=>?_⟩
 ·-- c4f: (AZ (decide (r.z < 0)) (L r.z.natAbs) (L r.d)) = false
  replace c4:(AZ (decide (r.z<0)) (L r.z.natAbs) (L r.d))=false:=c4
  try simp only [nrm] at c4
  -- l9: Value.bool false = Value.bool (r.good && s.good)
  show Value.bool false=Value.bool (r.good && s.good)
  exact congrArg Value.bool (by rw [← CF r,← CF s,c4];simp)
 -- c4t: (AZ (decide (r.z < 0)) (L r.z.natAbs) (L r.d)) = true
 replace c4:(AZ (decide (r.z<0)) (L r.z.natAbs) (L r.d))=true:=c4
 try simp only [nrm] at c4
 -- w5: RatOk [DA.agg [DC.im (Value.bool (decide (s.z < 0))), DC.sl 3 [.int] (L s.z.natAbs), DC.sl 3 [.int] (L s.d)]]
 refine ⟨(decide (s.z<0),(L s.z.natAbs),(L s.d)),by
  rfl,by
  show Dat.has (.sl 3 [.int]) (.sl (L s.z.natAbs))/\Dat.has (.sl 3 [.int]) (.sl (L s.d))/\(L s.z.natAbs).length<=9223372036854775807/\(L s.d).length<=9223372036854775807
  exact ⟨Dg _ (by omega),Dg _ (by omega),by omega,by omega⟩,?_⟩
 -- l8: Value.bool (AZ (decide (s.z < 0)) (L s.z.natAbs) (L s.d)) = Value.bool (r.good && s.good)
 show Value.bool (AZ (decide (s.z<0)) (L s.z.natAbs) (L s.d))=Value.bool (r.good && s.good)
 exact congrArg Value.bool (by rw [← CF r,← CF s,c4];simp)
def CL:Con:={ ι:=Fr×Fr,pre:=λ i=>True,args:=λ i=>[.agg [.im (.bool (decide (i.1.z<0))),.sl 3 [.int] (L i.1.z.natAbs),.sl 3 [.int] (L i.1.d)],.agg [.im (.bool (decide (i.2.z<0))),.sl 3 [.int] (L i.2.z.natAbs),.sl 3 [.int] (L i.2.d)]],mono:=true,res:=λ i=>⟨false,[none],[.im (Value.int .i64 (if i.1.good=true/\i.2.good=true then Fr.cmp i.1 i.2 else 0))]⟩ }
theorem RW:CL.Ok Tryz.prog 18:=by
 refine fok (X:=⟨tt,[(50,FK),(48,BA)],[],12,[]⟩) AG AH (CTok.cons RV (CTok.cons Hj (CTok.nil _))) Tryz.func18 (λ _=>[]) ?_
 rintro ⟨r,s⟩ hpre
 have hpre:True:=hpre
 refine AF (q:=∃ i1:Fr×Fr,[dF r,dF s]=FK.args i1/\FK.pre i1/\(((!(i1.1.good && i1.2.good))=true->((Value.int .i64 (0:Int)=Value.int .i64 (if r.good=true/\s.good=true then Fr.cmp r s else 0))))/\((!(i1.1.good && i1.2.good))=false->(∃ i2:Fr×Fr,[dF r,dF s]=BA.args i2/\BA.pre i2/\((Value.int .i64 (Fr.cmp i2.1 i2.2)=Value.int .i64 (if r.good=true/\s.good=true then Fr.cmp r s else 0))))))) (by kernel_rfl) ?_
 -- w1: areRats [DA.agg [DC.im (Value.bool (decide (r.z < 0))), DC.sl 3 [.int] (L r.z.natAbs), DC.sl 3 [.int] (L r.d)], DA.agg [DC.im (Value.bool (decide (s.z < 0))), DC.sl 3 [.int] (L s.z.natAbs), DC.sl 3 [.int] (L s.d)]]
 refine ⟨(r,s),by
  rfl,by
  first|trivial|(first|omega|assumption|exact hpre.1|exact hpre.2|(simp;done)),?_⟩
 refine ⟨λ c4=>?_,λ c4=>?_⟩
 ·-- c4t: (!(r.good && s.good)) = true
  replace c4:(!(r.good && s.good))=true:=c4
  try simp only [nrm] at c4
  -- l5: Value.int .i64 (0 : Int) = Value.int .i64 (if r.good = true ∧ s.good = true then Fr.cmp r s else 0)
  show Value.int .i64 (0:Int)=Value.int .i64 (if r.good=true/\s.good=true then Fr.cmp r s else 0)
  first|exact Am (by rw [if_pos c4])|exact Am (by rcases c4 with h|h <;> simp [h])
 -- c4f: (!(r.good && s.good)) = false
 replace c4:(!(r.good && s.good))=false:=c4
 try simp only [nrm] at c4
 -- w6: ratCmp [DA.agg [DC.im (Value.bool (decide (r.z < 0))), DC.sl 3 [.int] (L r.z.natAbs), DC.sl 3 [.int] (L r.d)], DA.agg [DC.im (Value.bool (decide (s.z < 0))), DC.sl 3 [.int] (L s.z.natAbs), DC.sl 3 [.int] (L s.d)]]
 refine ⟨(r,s),by
  rfl,by
  first|trivial|(first|omega|assumption|exact hpre.1|exact hpre.2|(simp;done)),?_⟩
 -- l9: Value.int .i64 (Fr.cmp r s) = Value.int .i64 (if r.good = true ∧ s.good = true then Fr.cmp r s else 0)
 show Value.int .i64 (Fr.cmp r s)=Value.int .i64 (if r.good=true/\s.good=true then Fr.cmp r s else 0)
 first|exact Am (by rw [if_pos c4])|exact Am (by rcases c4 with h|h <;> simp [h])
end Go.Proofs.YtndnhlhnjiopfaaGreat
