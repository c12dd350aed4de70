import Derived.Test.YtndnhlhnjiopfaaGreatDiRkH
import Derived.Test.YtndnhlhnjiopfaaGreatDiRkD2
namespace Go.Proofs.YtndnhlhnjiopfaaGreat
set_option maxRecDepth 100000
set_option linter.unusedVariables false
set_option linter.unusedSimpArgs false
open Go.RowKit
def rOf (n d:Int):Fr:=if d=0 then Fr.none else Fr.mk' (zOf (decide (n<0) != decide (d<0)) n.natAbs) d.natAbs
theorem WB {n d:Int} (h:d=0):rOf n d=Fr.none:=by unfold rOf;rw [if_pos h]
theorem Qs {n d:Int} (h:d≠0):rOf n d=Fr.mk' (zOf (decide (n<0) != decide (d<0)) n.natAbs) d.natAbs:=by unfold rOf;rw [if_neg h]
theorem Qt {x:Int} (h:nl x.natAbs<=60):Aq (decide (x<0)) (L x.natAbs)=true:=by rw [N8,decide_eq_true h]
theorem U8 (x y:Int):Ed (zOf (decide (x<0) != decide (y<0)) x.natAbs) y.natAbs=rOf x y:=by
 by_cases h:y=0
 ·rw [WB h,Ta (by omega)]
 ·rw [Qs h,Hn (by omega)]
theorem Qu {d:Int} (h:d≠0):(d:Rat)≠0:=λ e=>h (by have:=congrArg Rat.num e;simpa using this)
theorem WC (n d:Int) (h:d≠0):mkRat (zOf (decide (n<0) != decide (d<0)) n.natAbs) d.natAbs=(n:Rat)/(d:Rat):=by
 rw [div_mk (Qu h)]
 have e1:((n:Int):Rat).num=n:=by simp
 have e2:((n:Int):Rat).den=1:=by simp
 have e3:((d:Int):Rat).num=d:=by simp
 have e4:((d:Int):Rat).den=1:=by simp
 rw [e1,e2,e3,e4]
 congr 1
 ·unfold zOf
  by_cases h1:n<0 <;> by_cases h2:d<0 <;> simp [h1,h2] <;> omega
 ·omega
theorem WD {z:Int} {d:Nat} (hd:d≠0) (h1:nl z.natAbs<=24) (h2:nl d<=24):LI (mkRat z d)=true:=by
 rw [C1,C2 hd,(DE hd).2]
 exact ⟨Nat.le_trans (CJ (Nat.div_le_self _ _)) h1,Nat.le_trans (CJ (Nat.div_le_self _ _)) h2⟩
theorem Wg {n d:Int} (h:d≠0) (h1:nl n.natAbs<=24) (h2:nl d.natAbs<=24):(rOf n d).v=some ((n:Rat)/(d:Rat)):=by
 rw [Qs h]
 unfold Fr.mk'
 rw [← WC n d h]
 exact Bw (WD (by omega) (by rw [C4];exact h1) h2)
def DR:Con:={ ι:=Int×Int,pre:=λ i=>nl i.1.natAbs<=24/\nl i.2.natAbs<=24,args:=λ i=>[.agg [.im (.bool (decide (i.1<0))),.sl 3 [.int] (L i.1.natAbs)],.agg [.im (.bool (decide (i.2<0))),.sl 3 [.int] (L i.2.natAbs)]],res:=λ i=>⟨false,[some 3],[.im (Value.bool (decide ((rOf i.1 i.2).z<0))),.own 3 [.int] (L (rOf i.1 i.2).z.natAbs),.own 3 [.int] (L (rOf i.1 i.2).d)]⟩ }
theorem M7:DR.Ok Tryz.prog 107:=by
 refine fok (X:=⟨tt,[(136,A6),(141,A5)],[],24,[]⟩) AH AI (CTok.cons Ho (CTok.cons L9 (CTok.nil _))) Tryz.func107 (λ _=>[]) ?_
 rintro ⟨x,y⟩ hpre
 have hpre:nl x.natAbs<=24/\nl y.natAbs<=24:=hpre
 refine AG (q:=∃ i1:Bool×(List (List Dat)),[dB x]=A6.args i1/\A6.pre i1/\(((!(!(Aq i1.1 i1.2)))=true->(∃ i2:Bool×(List (List Dat)),[dB y]=A6.args i2/\A6.pre i2/\(((!(Aq i2.1 i2.2))=true->((eqN (rOf x y))))/\((!(Aq i2.1 i2.2))=false->(∃ i3:Bool×Nat×Nat×Int,[DA.one (cB ((decide (x<0)) != (decide (y<0)))),DA.one (cS (L x.natAbs)),DA.one (cS (L y.natAbs))]=A5.args i3/\A5.pre i3/\((eqC (Ed i3.2.2.2 i3.2.2.1) (rOf x y))))))))/\((!(!(Aq i1.1 i1.2)))=false->((eqN (rOf x y)))))) (by kernel_rfl) ?_
 have e1:=Qt (x:=x) (Nat.le_trans hpre.1 (by decide))
 have e2:=Qt (x:=y) (Nat.le_trans hpre.2 (by decide))
 have ly:=AN y.natAbs
 have lx:=AN x.natAbs
 -- w1: sBigIntOk [DA.agg [DC.im (Value.bool (decide (x < 0))), DC.sl 3 [.int] (L x.natAbs)]]
 refine ⟨(decide (x<0),(L x.natAbs)),by
  rfl,by
  show (L x.natAbs).length<=9223372036854775807
  first|trivial|(rw [AN];omega)|exact ⟨by omega,by omega,rfl⟩,?_⟩
 refine And.symm ⟨λ c4=>?_,λ c4=>?_⟩
 ·-- c4f: (!(!(Aq (decide (x < 0)) (L x.natAbs)))) = false
  replace c4:(!(!(Aq (decide (x<0)) (L x.natAbs))))=false:=c4
  try simp only [nrm] at c4
  rw [e1] at c4;cases c4 -- done
 -- c4t: (!(!(Aq (decide (x < 0)) (L x.natAbs)))) = true
 replace c4:(!(!(Aq (decide (x<0)) (L x.natAbs))))=true:=c4
 try simp only [nrm] at c4
 -- w5: sBigIntOk [DA.agg [DC.im (Value.bool (decide (y < 0))), DC.sl 3 [.int] (L y.natAbs)]]
 refine ⟨(decide (y<0),(L y.natAbs)),by
  rfl,by
  show (L y.natAbs).length<=9223372036854775807
  first|trivial|(rw [AN];omega)|exact ⟨by omega,by omega,rfl⟩,?_⟩
 refine ⟨λ c8=>?_,λ c8=>?_⟩
 ·-- c8t: (!(Aq (decide (y < 0)) (L y.natAbs))) = true
  replace c8:(!(Aq (decide (y<0)) (L y.natAbs)))=true:=c8
  try simp only [nrm] at c8
  rw [e2] at c8;cases c8 -- done
 -- c8f: (!(Aq (decide (y < 0)) (L y.natAbs))) = false
 replace c8:(!(Aq (decide (y<0)) (L y.natAbs)))=false:=c8
 try simp only [nrm] at c8
 -- w12: l04Low [DA.one (DC.im (Value.bool ((decide (x < 0)) != (decide (y < 0))))), DA.one (DC.sl 3 [.int] (L x.natAbs)), DA.one (DC.sl 3 [.int] (L y.natAbs))]
 refine ⟨(((decide (x<0)) != (decide (y<0))),x.natAbs,y.natAbs,(zOf ((decide (x<0)) != (decide (y<0))) x.natAbs)),by
  rfl,by
  show nl x.natAbs<=1000/\nl y.natAbs<=1000/\zOf ((decide (x<0)) != (decide (y<0))) x.natAbs=(zOf ((decide (x<0)) != (decide (y<0))) x.natAbs)
  first|trivial|(rw [AN];omega)|exact ⟨by omega,by omega,rfl⟩,?_⟩
 refine BG ?_
 -- l15: Ed (zOf ((decide (x < 0)) != (decide (y < 0))) x.natAbs) y.natAbs = rOf x y
 show Ed (zOf ((decide (x<0)) != (decide (y<0))) x.natAbs) y.natAbs=rOf x y
 first|exact U8 _ _|contradiction
def EC:Con:={ ι:=Int×Int,pre:=λ i=>(-9223372036854775808<=i.1/\i.1<=9223372036854775807)/\(-9223372036854775808<=i.2/\i.2<=9223372036854775807),args:=λ i=>[.one (.im (.int .i64 i.1)),.one (.im (.int .i64 i.2))],res:=λ i=>⟨false,[some 3],[.im (Value.bool (decide ((rOf i.1 i.2).z<0))),.own 3 [.int] (L (rOf i.1 i.2).z.natAbs),.own 3 [.int] (L (rOf i.1 i.2).d)]⟩ }
theorem R9:EC.Ok Tryz.prog 67:=by
 refine fok (X:=⟨tt,[(108,A7),(107,DR)],[],10,[]⟩) AH AI (CTok.cons Hp (CTok.cons M7 (CTok.nil _))) Tryz.func67 (λ _=>[]) ?_
 rintro ⟨n,d⟩ hpre
 have hpre:(-9223372036854775808<=n/\n<=9223372036854775807)/\(-9223372036854775808<=d/\d<=9223372036854775807):=hpre
 refine AG (q:=∃ i1:Int,[DA.one (cI n)]=A7.args i1/\A7.pre i1/\(∃ i2:Int,[DA.one (cI d)]=A7.args i2/\A7.pre i2/\(∃ i3:Int×Int,[dB i1,dB i2]=DR.args i3/\DR.pre i3/\((eqC (rOf i3.1 i3.2) (rOf n d)))))) (by kernel_rfl) ?_
 -- w1: sBigIntOf [DA.one (DC.im (Value.int .i64 n))]
 refine ⟨n,by
  rfl,by
  show -9223372036854775808<=n/\n<=9223372036854775807
  first|exact hpre.1|exact hpre.2|exact ⟨Nat.le_trans (CS hpre.1) (by decide),Nat.le_trans (CS hpre.2) (by decide)⟩,?_⟩
 -- w4: sBigIntOf [DA.one (DC.im (Value.int .i64 d))]
 refine ⟨d,by
  rfl,by
  show -9223372036854775808<=d/\d<=9223372036854775807
  first|exact hpre.1|exact hpre.2|exact ⟨Nat.le_trans (CS hpre.1) (by decide),Nat.le_trans (CS hpre.2) (by decide)⟩,?_⟩
 -- w7: sRatMakeB [DA.agg [DC.im (Value.bool (decide (n < 0))), DC.sl 3 [.int] (L n.natAbs)], DA.agg [DC.im (Value.bool (decide (d < 0))), DC.sl 3 [.int] (L d.natAbs)]]
 refine ⟨(n,d),by
  rfl,by
  show nl n.natAbs<=24/\nl d.natAbs<=24
  first|exact hpre.1|exact hpre.2|exact ⟨Nat.le_trans (CS hpre.1) (by decide),Nat.le_trans (CS hpre.2) (by decide)⟩,?_⟩
 exact BG rfl
def ptC (b:List UInt8) (c:Cur):Pq:=⟨if blV b (BE b c) 3=0 then Fr.add (Fr.ofInt (Bj b c).1) (rOf 1 (2+blV b (blC b (BE b c) 3) 3)) else Fr.ofInt (Bj b c).1,Fr.ofInt (Bj b c).2⟩
def ptE (b:List UInt8) (c:Cur):Cur:=if blV b (BE b c) 3=0 then blC b (blC b (BE b c) 3) 3 else blC b (BE b c) 3
theorem Be {b:List UInt8} {c:Cur} (h:blV b (BE b c) 3=0):(ptC b c).x=Fr.add (Fr.ofInt (Bj b c).1) (rOf 1 (2+blV b (blC b (BE b c) 3) 3))/\ptE b c=blC b (blC b (BE b c) 3) 3:=⟨if_pos h,if_pos h⟩
theorem CG {b:List UInt8} {c:Cur} (h:¬ blV b (BE b c) 3=0):(ptC b c).x=Fr.ofInt (Bj b c).1/\ptE b c=blC b (BE b c) 3:=⟨if_neg h,if_neg h⟩
theorem Oa (b:List UInt8) (c:Cur):(-10<=(Bj b c).1/\(Bj b c).1<=10)/\-10<=(Bj b c).2/\(Bj b c).2<=10:=by
 have q1:=C6 b c (n:=21) (by omega)
 have q2:=C6 b (blC b c 21) (n:=21) (by omega)
 refine ⟨⟨by show -10<=_-10;omega,by show _-10<=10;omega⟩,by show -10<=_-10;omega,by show _-10<=10;omega⟩
def Pp:(List UInt8)×Cur->List PC:=λ i=>[.bt i.1,.im (.int .i64 i.2.i),.im (.int .i64 i.2.h)]
def UI:(List UInt8)×Cur->List PC:=λ i=>[.bt i.1,.im (.int .i64 (((ptE i.1 i.2)).i)),.im (.int .i64 (((ptE i.1 i.2)).h))]
def Jp:Con:={ ι:=(List UInt8)×Cur,pre:=λ i=>At i.1 i.2,args:=λ i=>[],ptr:=some (Pp,UI),res:=λ i=>⟨false,[some 6],[.im (Value.bool (decide (((ptC i.1 i.2)).x.z<0))),.own 3 [.int] (L ((ptC i.1 i.2)).x.z.natAbs),.own 3 [.int] (L ((ptC i.1 i.2)).x.d),.im (Value.bool (decide (((ptC i.1 i.2)).y.z<0))),.own 3 [.int] (L ((ptC i.1 i.2)).y.z.natAbs),.own 3 [.int] (L ((ptC i.1 i.2)).y.d)]⟩ }
theorem WE:Jp.OkP Tryz.prog 31 Pp UI:=by
 refine R5 (X:=⟨tt,[(57,H3),(64,Dn),(65,H4),(68,Ar),(67,EC),(66,EN)],[4000000],18,[]⟩) AH AI (CTok.consP U5 (CTok.cons OJ (CTok.consP U6 (CTok.consP H2 (CTok.cons R9 (CTok.cons PV (CTok.nil _))))))) Tryz.func31 (λ _=>[]) ?_
 rintro ⟨b,c⟩ hpre
 have hpre:At b c:=hpre
 refine AG (q:=∃ i1:(List UInt8)×Cur,[]=H3.args i1/\[PC.bt b,PC.im (Value.int .i64 c.i),PC.im (Value.int .i64 c.h)]=M5 i1/\H3.pre i1/\(∃ i2:Int×Int,[DA.agg [cI ((Bj i1.1 i1.2).1),cI ((Bj i1.1 i1.2).2)]]=Dn.args i2/\Dn.pre i2/\(∃ i3:(List UInt8)×Cur×Int,[DA.one (cI (3:Int))]=H4.args i3/\[PC.bt b,PC.im (Value.int .i64 ((BE i1.1 i1.2).i)),PC.im (Value.int .i64 ((BE i1.1 i1.2).h))]=M6 i3/\H4.pre i3/\(((decide (blV i3.1 i3.2.1 i3.2.2=0))=true->(∃ i4:(List UInt8)×Cur×Int,[DA.one (cI (3:Int))]=Ar.args i4/\[PC.bt b,PC.im (Value.int .i64 ((blC i3.1 i3.2.1 i3.2.2).i)),PC.im (Value.int .i64 ((blC i3.1 i3.2.1 i3.2.2).h))]=C7 i4/\Ar.pre i4/\(∃ i5:Int×Int,[DA.one (cI (1:Int)),DA.one (cI (IntKind.i64.wrap ((2:Int)+(blV i4.1 i4.2.1 i4.2.2))))]=EC.args i5/\EC.pre i5/\(∃ i6:Fr×Fr,[dF (Fr.ofInt i2.1),dF (rOf i5.1 i5.2)]=EN.args i6/\EN.pre i6/\((eqD (Fr.add i6.1 i6.2) (((ptC b c)).x) ((eqD (Fr.ofInt i2.2) (((ptC b c)).y) ((Value.int .i64 ((blC i4.1 i4.2.1 i4.2.2).i)=Value.int .i64 (((ptE b c)).i))/\(Value.int .i64 ((blC i4.1 i4.2.1 i4.2.2).h)=Value.int .i64 (((ptE b c)).h)))))))))))/\((decide (blV i3.1 i3.2.1 i3.2.2=0))=false->((eqD (Fr.ofInt i2.1) (((ptC b c)).x) ((eqD (Fr.ofInt i2.2) (((ptC b c)).y) ((Value.int .i64 ((blC i3.1 i3.2.1 i3.2.2).i)=Value.int .i64 (((ptE b c)).i))/\(Value.int .i64 ((blC i3.1 i3.2.1 i3.2.2).h)=Value.int .i64 (((ptE b c)).h)))))))))))) (by kernel_rfl) ?_
 have k1:=BR 21 hpre
 have k2:At b (BE b c):=BR 21 k1
 have k3:=BR 3 k2
 have rv:=Oa b c
 have rb:=C6 b (blC b (BE b c) 3) (n:=3) (by omega)
 have hw2:IntKind.i64.wrap (2+blV b (blC b (BE b c) 3) 3)=2+blV b (blC b (BE b c) 3) 3:=AA (by omega) (by omega)
 -- w1: dVec []
 refine ⟨(b,c),by
  rfl,rfl,by
  show At b c
  first|exact hpre|exact k2|exact k3|trivial|omega|(rw [hw2];omega),?_⟩
 -- w4: sPointOf [DA.agg [DC.im (Value.int .i64 ((Bj b c).1)), DC.im (Value.int .i64 ((Bj b c).2))]]
 refine ⟨(((Bj b c).1),((Bj b c).2)),by
  rfl,by
  show (-9223372036854775808<=((Bj b c).1)/\((Bj b c).1)<=9223372036854775807)/\-9223372036854775808<=((Bj b c).2)/\((Bj b c).2)<=9223372036854775807
  first|exact hpre|exact k2|exact k3|trivial|omega|(rw [hw2];omega),?_⟩
 -- w7: once [DA.one (DC.im (Value.int .i64 (3 : Int)))]
 refine ⟨(b,(BE b c),(3:Int)),by
  rfl,rfl,by
  show At b (BE b c)
  first|exact hpre|exact k2|exact k3|trivial|omega|(rw [hw2];omega),?_⟩
 refine And.symm ⟨λ c10=>?_,λ c10=>?_⟩
 ·-- c10f: (decide (blV b (BE b c) (3 : Int) = 0)) = false
  replace c10:(decide (blV b (BE b c) (3:Int)=0))=false:=c10
  try simp only [nrm] at c10
  refine G4 ?_ (G4 ?_ ⟨?_,?_⟩)
  ·-- l28: Fr.ofInt ((Bj b c).1) = ((ptC b c)).x
   show Fr.ofInt ((Bj b c).1)=((ptC b c)).x
   first|rfl|(rw [(Be c10).1,hw2];done)|(rw [(Be c10).2];done)|(rw [(CG c10).1];done)|(rw [(CG c10).2];done)
  ·-- l31: Fr.ofInt ((Bj b c).2) = ((ptC b c)).y
   show Fr.ofInt ((Bj b c).2)=((ptC b c)).y
   first|rfl|(rw [(Be c10).1,hw2];done)|(rw [(Be c10).2];done)|(rw [(CG c10).1];done)|(rw [(CG c10).2];done)
  ·-- l34: Value.int .i64 ((blC b (BE b c) (3 : Int)).i) = Value.int .i64 (((ptE b c)).i)
   show Value.int .i64 ((blC b (BE b c) (3:Int)).i)=Value.int .i64 (((ptE b c)).i)
   first|rfl|(rw [(Be c10).1,hw2];done)|(rw [(Be c10).2];done)|(rw [(CG c10).1];done)|(rw [(CG c10).2];done)
  -- l35: Value.int .i64 ((blC b (BE b c) (3 : Int)).h) = Value.int .i64 (((ptE b c)).h)
  show Value.int .i64 ((blC b (BE b c) (3:Int)).h)=Value.int .i64 (((ptE b c)).h)
  first|rfl|(rw [(Be c10).1,hw2];done)|(rw [(Be c10).2];done)|(rw [(CG c10).1];done)|(rw [(CG c10).2];done)
 -- c10t: (decide (blV b (BE b c) (3 : Int) = 0)) = true
 replace c10:(decide (blV b (BE b c) (3:Int)=0))=true:=c10
 try simp only [nrm] at c10
 -- w11: below [DA.one (DC.im (Value.int .i64 (3 : Int)))]
 refine ⟨(b,(blC b (BE b c) (3:Int)),(3:Int)),by
  rfl,rfl,by
  show At b (blC b (BE b c) (3:Int))
  first|exact hpre|exact k2|exact k3|trivial|omega|(rw [hw2];omega),?_⟩
 -- w14: sRatOf [DA.one (DC.im (Value.int .i64 (1 : Int))), DA.one (DC.im (Value.int .i64 (IntKind.i64.wrap ((2 : Int) + (blV b (blC b (BE b c) (3 : Int)) (3 : Int))))))]
 refine ⟨((1:Int),(IntKind.i64.wrap ((2:Int)+(blV b (blC b (BE b c) (3:Int)) (3:Int))))),by
  rfl,by
  try dsimp only [EC]
  first|exact hpre|exact k2|exact k3|trivial|omega|(rw [hw2];omega),?_⟩
 -- w17: sRatAdd [DA.agg [DC.im (Value.bool (decide ((Fr.ofInt ((Bj b c).1)).z < 0))), DC.sl 3 [.int] (L (Fr.ofInt ((Bj b c).1)).z.natAbs), DC.sl 3 [.int] (L (Fr.ofInt ((Bj b c).1)).d)], DA.agg [DC.im (Value.bool (decide ((rOf (1 : Int) (IntKind.i64.wrap ((2 : Int) + (blV b (blC b (BE b c) (3 : Int)) (3 : In
 refine ⟨((Fr.ofInt ((Bj b c).1)),(rOf (1:Int) (IntKind.i64.wrap ((2:Int)+(blV b (blC b (BE b c) (3:Int)) (3:Int)))))),by
  rfl,by
  first|exact hpre|exact k2|exact k3|trivial|omega|(rw [hw2];omega),?_⟩
 refine G4 ?_ (G4 ?_ ⟨?_,?_⟩)
 ·-- l20: Fr.add (Fr.ofInt ((Bj b c).1)) (rOf (1 : Int) (IntKind.i64.wrap ((2 : Int) + (blV b (blC b (BE b c) (3 : Int)) (3 : Int))))) = ((ptC b c)).x
  show Fr.add (Fr.ofInt ((Bj b c).1)) (rOf (1:Int) (IntKind.i64.wrap ((2:Int)+(blV b (blC b (BE b c) (3:Int)) (3:Int)))))=((ptC b c)).x
  first|rfl|(rw [(Be c10).1,hw2];done)|(rw [(Be c10).2];done)|(rw [(CG c10).1];done)|(rw [(CG c10).2];done)
 ·-- l23: Fr.ofInt ((Bj b c).2) = ((ptC b c)).y
  show Fr.ofInt ((Bj b c).2)=((ptC b c)).y
  first|rfl|(rw [(Be c10).1,hw2];done)|(rw [(Be c10).2];done)|(rw [(CG c10).1];done)|(rw [(CG c10).2];done)
 ·-- l26: Value.int .i64 ((blC b (blC b (BE b c) (3 : Int)) (3 : Int)).i) = Value.int .i64 (((ptE b c)).i)
  show Value.int .i64 ((blC b (blC b (BE b c) (3:Int)) (3:Int)).i)=Value.int .i64 (((ptE b c)).i)
  first|rfl|(rw [(Be c10).1,hw2];done)|(rw [(Be c10).2];done)|(rw [(CG c10).1];done)|(rw [(CG c10).2];done)
 -- l27: Value.int .i64 ((blC b (blC b (BE b c) (3 : Int)) (3 : Int)).h) = Value.int .i64 (((ptE b c)).h)
 show Value.int .i64 ((blC b (blC b (BE b c) (3:Int)) (3:Int)).h)=Value.int .i64 (((ptE b c)).h)
 first|rfl|(rw [(Be c10).1,hw2];done)|(rw [(Be c10).2];done)|(rw [(CG c10).1];done)|(rw [(CG c10).2];done)
def H5:Con:={ ι:=(List UInt8)×Nat,pre:=λ i=>i.1.length<=1048576/\i.2<=100,args:=λ i=>[.one (.ro (.bytes i.1)),.one (.im (.int .i64 (i.2:Int)))],res:=λ i=>⟨false,[some 6],[.im (Value.bool (decide (((ptC i.1 (AD i.1 (4*i.2)))).x.z<0))),.own 3 [.int] (L ((ptC i.1 (AD i.1 (4*i.2)))).x.z.natAbs),.own 3 [.int] (L ((ptC i.1 (AD i.1 (4*i.2)))).x.d),.im (Value.bool (decide (((ptC i.1 (AD i.1 (4*i.2)))).y.z<0))),.own 3 [.int] (L ((ptC i.1 (AD i.1 (4*i.2)))).y.z.natAbs),.own 3 [.int] (L ((ptC i.1 (AD i.1 (4*i.2)))).y.d)]⟩ }
theorem U9:H5.Ok Tryz.prog 7:=by
 refine fok (X:=⟨tt,[(32,B0),(31,Jp)],[],10,[]⟩) AH AI (CTok.consN K6 (CTok.consP WE (CTok.nil _))) Tryz.func7 (λ _=>[]) ?_
 rintro ⟨b,n⟩ hpre
 have hpre:b.length<=1048576/\n<=100:=hpre
 refine AG (q:=∃ i1:(List UInt8)×Nat,[DA.one (DC.ro (.bytes b)),DA.one (cI (IntKind.i64.wrap ((4:Int)*(n:Int))))]=B0.args i1/\B0.pre i1/\(∃ i2:(List UInt8)×Cur,[]=Jp.args i2/\[PC.bt b,PC.im (Value.int .i64 ((AD i1.1 i1.2).i)),PC.im (Value.int .i64 ((AD i1.1 i1.2).h))]=Pp i2/\Jp.pre i2/\((eqD (((ptC i2.1 i2.2)).x) (((ptC b (AD b (4*n)))).x) ((eqC (((ptC i2.1 i2.2)).y) (((ptC b (AD b (4*n)))).y))))))) (by kernel_rfl) ?_
 have hw:IntKind.i64.wrap (4*(n:Int))=((4*n:Nat):Int):=by rw [AA (by omega) (by omega)];omega
 -- w1: new31 [DA.one (DC.ro (.bytes b)), DA.one (DC.im (Value.int .i64 (IntKind.i64.wrap ((4 : Int) * (n : Int)))))]
 refine ⟨(b,4*n),by
  first|rfl|(rw [hw];rfl),by
  show b.length<=1048576/\(4*n)<=1000
  first|exact ⟨hpre.1,by omega⟩|exact Bo hpre.1 _,?_⟩
 -- w4: dPt []
 refine ⟨(b,(AD b (4*n))),by
  first|rfl|(rw [hw];rfl),rfl,by
  show At b (AD b (4*n))
  first|exact ⟨hpre.1,by omega⟩|exact Bo hpre.1 _,?_⟩
 exact G4 rfl (BG rfl)
def ES:Con:={ ι:=Int,pre:=λ i=>(-9223372036854775808<=i/\i<=9223372036854775807),args:=λ i=>[.one (.im (.int .i64 i))],mono:=true,res:=λ i=>⟨false,[some 3],[.im (Value.bool (decide ((Fr.ofInt i).z<0))),.own 3 [.int] (L (Fr.ofInt i).z.natAbs),.own 3 [.int] (L (Fr.ofInt i).d)]⟩ }
theorem Pr:ES.Ok Tryz.prog 19:=by
 refine fok (X:=⟨tt,[(49,Ad)],[],5,[]⟩) AH AI (CTok.cons E5 (CTok.nil _)) Tryz.func19 (λ _=>[]) ?_
 intro (n:Int) hpre
 have hpre:(-9223372036854775808<=n/\n<=9223372036854775807):=hpre
 refine AG (q:=∃ i1:Int,[DA.one (cI n)]=Ad.args i1/\Ad.pre i1/\((eqC (Fr.ofInt i1) (Fr.ofInt n)))) (by kernel_rfl) ?_
 -- w1: ratInt [DA.one (DC.im (Value.int .i64 n))]
 refine ⟨n,by
  rfl,by
  show -9223372036854775808<=n/\n<=9223372036854775807
  exact hpre,?_⟩
 exact BG rfl
def ET:Con:={ ι:=Fr×Fr,pre:=λ i=>True,args:=λ i=>[.agg [.im (.bool (decide (i.1.z<0))),.sl 3 [.int] (L i.1.z.natAbs),.sl 3 [.int] (L i.1.d)],.agg [.im (.bool (decide (i.2.z<0))),.sl 3 [.int] (L i.2.z.natAbs),.sl 3 [.int] (L i.2.d)]],mono:=true,res:=λ i=>⟨false,[none],[.im (Value.bool (i.1.good && i.2.good))]⟩ }
theorem Ps:ET.Ok Tryz.prog 50:=by
 refine fok (X:=⟨tt,[(15,A3)],[],11,[]⟩) AH AI (CTok.cons Ko (CTok.nil _)) Tryz.func50 (λ _=>[]) ?_
 rintro ⟨r,s⟩ hpre
 have hpre:True:=hpre
 refine AG (q:=∃ i1:Bool×(List (List Dat))×(List (List Dat)),[dF r]=A3.args i1/\A3.pre i1/\(((Af i1.1 i1.2.1 i1.2.2)=true->(∃ i2:Bool×(List (List Dat))×(List (List Dat)),[dF s]=A3.args i2/\A3.pre i2/\((Value.bool (Af i2.1 i2.2.1 i2.2.2)=Value.bool (r.good && s.good)))))/\((Af i1.1 i1.2.1 i1.2.2)=false->((Value.bool false=Value.bool (r.good && s.good)))))) (by kernel_rfl) ?_
 have n1:=r.nlz
 have n2:=r.nld
 have l1:=AN r.z.natAbs
 have l2:=AN r.d
 have n3:=s.nlz
 have n4:=s.nld
 have l3:=AN s.z.natAbs
 have l4:=AN s.d
 -- w1: RatOk [DA.agg [DC.im (Value.bool (decide (r.z < 0))), DC.sl 3 [.int] (L r.z.natAbs), DC.sl 3 [.int] (L r.d)]]
 refine ⟨(decide (r.z<0),(L r.z.natAbs),(L r.d)),by
  rfl,by
  show Dat.has (.sl 3 [.int]) (.sl (L r.z.natAbs))/\Dat.has (.sl 3 [.int]) (.sl (L r.d))/\(L r.z.natAbs).length<=9223372036854775807/\(L r.d).length<=9223372036854775807
  exact ⟨EM _ (by omega),EM _ (by omega),by omega,by omega⟩,?_⟩
 refine And.symm ⟨λ c4=>?_,λ c4=>?_⟩
 ·-- c4f: (Af (decide (r.z < 0)) (L r.z.natAbs) (L r.d)) = false
  replace c4:(Af (decide (r.z<0)) (L r.z.natAbs) (L r.d))=false:=c4
  try simp only [nrm] at c4
  -- l9: Value.bool false = Value.bool (r.good && s.good)
  show Value.bool false=Value.bool (r.good && s.good)
  exact congrArg Value.bool (by rw [← CM r,← CM s,c4];simp)
 -- c4t: (Af (decide (r.z < 0)) (L r.z.natAbs) (L r.d)) = true
 replace c4:(Af (decide (r.z<0)) (L r.z.natAbs) (L r.d))=true:=c4
 try simp only [nrm] at c4
 -- w5: RatOk [DA.agg [DC.im (Value.bool (decide (s.z < 0))), DC.sl 3 [.int] (L s.z.natAbs), DC.sl 3 [.int] (L s.d)]]
 refine ⟨(decide (s.z<0),(L s.z.natAbs),(L s.d)),by
  rfl,by
  show Dat.has (.sl 3 [.int]) (.sl (L s.z.natAbs))/\Dat.has (.sl 3 [.int]) (.sl (L s.d))/\(L s.z.natAbs).length<=9223372036854775807/\(L s.d).length<=9223372036854775807
  exact ⟨EM _ (by omega),EM _ (by omega),by omega,by omega⟩,?_⟩
 -- l8: Value.bool (Af (decide (s.z < 0)) (L s.z.natAbs) (L s.d)) = Value.bool (r.good && s.good)
 show Value.bool (Af (decide (s.z<0)) (L s.z.natAbs) (L s.d))=Value.bool (r.good && s.good)
 exact congrArg Value.bool (by rw [← CM r,← CM s,c4];simp)
def EU:Con:={ ι:=Fr×Fr,pre:=λ i=>True,args:=λ i=>[.agg [.im (.bool (decide (i.1.z<0))),.sl 3 [.int] (L i.1.z.natAbs),.sl 3 [.int] (L i.1.d)],.agg [.im (.bool (decide (i.2.z<0))),.sl 3 [.int] (L i.2.z.natAbs),.sl 3 [.int] (L i.2.d)]],mono:=true,res:=λ i=>⟨false,[none],[.im (Value.int .i64 (if i.1.good=true/\i.2.good=true then Fr.cmp i.1 i.2 else 0))]⟩ }
theorem Pt:EU.Ok Tryz.prog 18:=by
 refine fok (X:=⟨tt,[(50,ET),(48,A2)],[],12,[]⟩) AH AI (CTok.cons Ps (CTok.cons GY (CTok.nil _))) Tryz.func18 (λ _=>[]) ?_
 rintro ⟨r,s⟩ hpre
 have hpre:True:=hpre
 refine AG (q:=∃ i1:Fr×Fr,[dF r,dF s]=ET.args i1/\ET.pre i1/\(((!(i1.1.good && i1.2.good))=true->((Value.int .i64 (0:Int)=Value.int .i64 (if r.good=true/\s.good=true then Fr.cmp r s else 0))))/\((!(i1.1.good && i1.2.good))=false->(∃ i2:Fr×Fr,[dF r,dF s]=A2.args i2/\A2.pre i2/\((Value.int .i64 (Fr.cmp i2.1 i2.2)=Value.int .i64 (if r.good=true/\s.good=true then Fr.cmp r s else 0))))))) (by kernel_rfl) ?_
 -- w1: areRats [DA.agg [DC.im (Value.bool (decide (r.z < 0))), DC.sl 3 [.int] (L r.z.natAbs), DC.sl 3 [.int] (L r.d)], DA.agg [DC.im (Value.bool (decide (s.z < 0))), DC.sl 3 [.int] (L s.z.natAbs), DC.sl 3 [.int] (L s.d)]]
 refine ⟨(r,s),by
  rfl,by
  first|trivial|(first|omega|assumption|exact hpre.1|exact hpre.2|(simp;done)),?_⟩
 refine ⟨λ c4=>?_,λ c4=>?_⟩
 ·-- c4t: (!(r.good && s.good)) = true
  replace c4:(!(r.good && s.good))=true:=c4
  try simp only [nrm] at c4
  -- l5: Value.int .i64 (0 : Int) = Value.int .i64 (if r.good = true ∧ s.good = true then Fr.cmp r s else 0)
  show Value.int .i64 (0:Int)=Value.int .i64 (if r.good=true/\s.good=true then Fr.cmp r s else 0)
  first|exact Ag (by rw [if_pos c4])|exact Ag (by rcases c4 with h|h <;> simp [h])
 -- c4f: (!(r.good && s.good)) = false
 replace c4:(!(r.good && s.good))=false:=c4
 try simp only [nrm] at c4
 -- w6: ratCmp [DA.agg [DC.im (Value.bool (decide (r.z < 0))), DC.sl 3 [.int] (L r.z.natAbs), DC.sl 3 [.int] (L r.d)], DA.agg [DC.im (Value.bool (decide (s.z < 0))), DC.sl 3 [.int] (L s.z.natAbs), DC.sl 3 [.int] (L s.d)]]
 refine ⟨(r,s),by
  rfl,by
  first|trivial|(first|omega|assumption|exact hpre.1|exact hpre.2|(simp;done)),?_⟩
 -- l9: Value.int .i64 (Fr.cmp r s) = Value.int .i64 (if r.good = true ∧ s.good = true then Fr.cmp r s else 0)
 show Value.int .i64 (Fr.cmp r s)=Value.int .i64 (if r.good=true/\s.good=true then Fr.cmp r s else 0)
 first|exact Ag (by rw [if_pos c4])|exact Ag (by rcases c4 with h|h <;> simp [h])
end Go.Proofs.YtndnhlhnjiopfaaGreat
