import Derived.Test.YtndnhlhnjiopfaaGreatSgRkH
import Derived.Test.YtndnhlhnjiopfaaGreatSgRkD2
namespace Go.Proofs.YtndnhlhnjiopfaaGreat
set_option maxRecDepth 100000
set_option linter.unusedVariables false
set_option linter.unusedSimpArgs false
open Go.RowKit
def rOf (n d:Int):Fr:=if d=0 then Fr.none else Fr.mk' (zOf (decide (n<0) != decide (d<0)) n.natAbs) d.natAbs
theorem NW {n d:Int} (h:d=0):rOf n d=Fr.none:=by unfold rOf;rw [if_pos h]
theorem II {n d:Int} (h:d≠0):rOf n d=Fr.mk' (zOf (decide (n<0) != decide (d<0)) n.natAbs) d.natAbs:=by unfold rOf;rw [if_neg h]
theorem KC {x:Int} (h:nl x.natAbs<=60):Ae (decide (x<0)) (L x.natAbs)=true:=by rw [Oa,decide_eq_true h]
theorem Vw (x y:Int):Ep (zOf (decide (x<0) != decide (y<0)) x.natAbs) y.natAbs=rOf x y:=by
 by_cases h:y=0
 ·rw [NW h,UJ (by omega)]
 ·rw [II h,H3 (by omega)]
theorem NX {d:Int} (h:d≠0):(d:Rat)≠0:=λ e=>h (by have:=congrArg Rat.num e;simpa using this)
theorem W2 (n d:Int) (h:d≠0):mkRat (zOf (decide (n<0) != decide (d<0)) n.natAbs) d.natAbs=(n:Rat)/(d:Rat):=by
 rw [div_mk (NX h)]
 have e1:((n:Int):Rat).num=n:=by simp
 have e2:((n:Int):Rat).den=1:=by simp
 have e3:((d:Int):Rat).num=d:=by simp
 have e4:((d:Int):Rat).den=1:=by simp
 rw [e1,e2,e3,e4]
 congr 1
 ·unfold zOf
  by_cases h1:n<0 <;> by_cases h2:d<0 <;> simp [h1,h2] <;> omega
 ·omega
theorem W3 {z:Int} {d:Nat} (hd:d≠0) (h1:nl z.natAbs<=24) (h2:nl d<=24):Lh (mkRat z d)=true:=by
 rw [C7,C8 hd,(DL hd).2]
 exact ⟨Nat.le_trans (CS (Nat.div_le_self _ _)) h1,Nat.le_trans (CS (Nat.div_le_self _ _)) h2⟩
theorem WJ {n d:Int} (h:d≠0) (h1:nl n.natAbs<=24) (h2:nl d.natAbs<=24):(rOf n d).v=some ((n:Rat)/(d:Rat)):=by
 rw [II h]
 unfold Fr.mk'
 rw [← W2 n d h]
 exact CD (W3 (by omega) (by rw [CU];exact h1) h2)
def Db:Con:={ ι:=Int×Int,pre:=λ i=>nl i.1.natAbs<=24/\nl i.2.natAbs<=24,args:=λ i=>[.agg [.im (.bool (decide (i.1<0))),.sl 3 [.int] (L i.1.natAbs)],.agg [.im (.bool (decide (i.2<0))),.sl 3 [.int] (L i.2.natAbs)]],res:=λ i=>⟨false,[some 3],[.im (Value.bool (decide ((rOf i.1 i.2).z<0))),.own 3 [.int] (L (rOf i.1 i.2).z.natAbs),.own 3 [.int] (L (rOf i.1 i.2).d)]⟩ }
theorem NY:Db.Ok Tryz.prog 107:=by
 refine fok (X:=⟨tt,[(136,A4),(141,A3)],[],24,[]⟩) AH AI (CTok.cons H4 (CTok.cons MY (CTok.nil _))) Tryz.func107 (λ _=>[]) ?_
 rintro ⟨x,y⟩ hpre
 have hpre:nl x.natAbs<=24/\nl y.natAbs<=24:=hpre
 refine AG (q:=∃ i1:Bool×(List (List Dat)),[dB x]=A4.args i1/\A4.pre i1/\(((!(!(Ae i1.1 i1.2)))=true->(∃ i2:Bool×(List (List Dat)),[dB y]=A4.args i2/\A4.pre i2/\(((!(Ae i2.1 i2.2))=true->((eqN (rOf x y))))/\((!(Ae i2.1 i2.2))=false->(∃ i3:Bool×Nat×Nat×Int,[DA.one (cB ((decide (x<0)) != (decide (y<0)))),DA.one (cS (L x.natAbs)),DA.one (cS (L y.natAbs))]=A3.args i3/\A3.pre i3/\((eqC (Ep i3.2.2.2 i3.2.2.1) (rOf x y))))))))/\((!(!(Ae i1.1 i1.2)))=false->((eqN (rOf x y)))))) (by kernel_rfl) ?_
 have e1:=KC (x:=x) (Nat.le_trans hpre.1 (by decide))
 have e2:=KC (x:=y) (Nat.le_trans hpre.2 (by decide))
 have ly:=AO y.natAbs
 have lx:=AO x.natAbs
 -- w1: sBigIntOk [DA.agg [DC.im (Value.bool (decide (x < 0))), DC.sl 3 [.int] (L x.natAbs)]]
 refine ⟨(decide (x<0),(L x.natAbs)),by
  rfl,by
  show (L x.natAbs).length<=9223372036854775807
  first|trivial|(rw [AO];omega)|exact ⟨by omega,by omega,rfl⟩,?_⟩
 refine And.symm ⟨λ c4=>?_,λ c4=>?_⟩
 ·-- c4f: (!(!(Ae (decide (x < 0)) (L x.natAbs)))) = false
  replace c4:(!(!(Ae (decide (x<0)) (L x.natAbs))))=false:=c4
  try simp only [nrm] at c4
  rw [e1] at c4;cases c4 -- done
 -- c4t: (!(!(Ae (decide (x < 0)) (L x.natAbs)))) = true
 replace c4:(!(!(Ae (decide (x<0)) (L x.natAbs))))=true:=c4
 try simp only [nrm] at c4
 -- w5: sBigIntOk [DA.agg [DC.im (Value.bool (decide (y < 0))), DC.sl 3 [.int] (L y.natAbs)]]
 refine ⟨(decide (y<0),(L y.natAbs)),by
  rfl,by
  show (L y.natAbs).length<=9223372036854775807
  first|trivial|(rw [AO];omega)|exact ⟨by omega,by omega,rfl⟩,?_⟩
 refine ⟨λ c8=>?_,λ c8=>?_⟩
 ·-- c8t: (!(Ae (decide (y < 0)) (L y.natAbs))) = true
  replace c8:(!(Ae (decide (y<0)) (L y.natAbs)))=true:=c8
  try simp only [nrm] at c8
  rw [e2] at c8;cases c8 -- done
 -- c8f: (!(Ae (decide (y < 0)) (L y.natAbs))) = false
 replace c8:(!(Ae (decide (y<0)) (L y.natAbs)))=false:=c8
 try simp only [nrm] at c8
 -- w12: l04Low [DA.one (DC.im (Value.bool ((decide (x < 0)) != (decide (y < 0))))), DA.one (DC.sl 3 [.int] (L x.natAbs)), DA.one (DC.sl 3 [.int] (L y.natAbs))]
 refine ⟨(((decide (x<0)) != (decide (y<0))),x.natAbs,y.natAbs,(zOf ((decide (x<0)) != (decide (y<0))) x.natAbs)),by
  rfl,by
  show nl x.natAbs<=1000/\nl y.natAbs<=1000/\zOf ((decide (x<0)) != (decide (y<0))) x.natAbs=(zOf ((decide (x<0)) != (decide (y<0))) x.natAbs)
  first|trivial|(rw [AO];omega)|exact ⟨by omega,by omega,rfl⟩,?_⟩
 refine Bl ?_
 -- l15: Ep (zOf ((decide (x < 0)) != (decide (y < 0))) x.natAbs) y.natAbs = rOf x y
 show Ep (zOf ((decide (x<0)) != (decide (y<0))) x.natAbs) y.natAbs=rOf x y
 first|exact Vw _ _|contradiction
def EP:Con:={ ι:=Int×Int,pre:=λ i=>(-9223372036854775808<=i.1/\i.1<=9223372036854775807)/\(-9223372036854775808<=i.2/\i.2<=9223372036854775807),args:=λ i=>[.one (.im (.int .i64 i.1)),.one (.im (.int .i64 i.2))],res:=λ i=>⟨false,[some 3],[.im (Value.bool (decide ((rOf i.1 i.2).z<0))),.own 3 [.int] (L (rOf i.1 i.2).z.natAbs),.own 3 [.int] (L (rOf i.1 i.2).d)]⟩ }
theorem Sk:EP.Ok Tryz.prog 67:=by
 refine fok (X:=⟨tt,[(108,A5),(107,Db)],[],10,[]⟩) AH AI (CTok.cons H5 (CTok.cons NY (CTok.nil _))) Tryz.func67 (λ _=>[]) ?_
 rintro ⟨n,d⟩ hpre
 have hpre:(-9223372036854775808<=n/\n<=9223372036854775807)/\(-9223372036854775808<=d/\d<=9223372036854775807):=hpre
 refine AG (q:=∃ i1:Int,[DA.one (cI n)]=A5.args i1/\A5.pre i1/\(∃ i2:Int,[DA.one (cI d)]=A5.args i2/\A5.pre i2/\(∃ i3:Int×Int,[dB i1,dB i2]=Db.args i3/\Db.pre i3/\((eqC (rOf i3.1 i3.2) (rOf n d)))))) (by kernel_rfl) ?_
 -- w1: sBigIntOf [DA.one (DC.im (Value.int .i64 n))]
 refine ⟨n,by
  rfl,by
  show -9223372036854775808<=n/\n<=9223372036854775807
  first|exact hpre.1|exact hpre.2|exact ⟨Nat.le_trans (Bv hpre.1) (by decide),Nat.le_trans (Bv hpre.2) (by decide)⟩,?_⟩
 -- w4: sBigIntOf [DA.one (DC.im (Value.int .i64 d))]
 refine ⟨d,by
  rfl,by
  show -9223372036854775808<=d/\d<=9223372036854775807
  first|exact hpre.1|exact hpre.2|exact ⟨Nat.le_trans (Bv hpre.1) (by decide),Nat.le_trans (Bv hpre.2) (by decide)⟩,?_⟩
 -- w7: sRatMakeB [DA.agg [DC.im (Value.bool (decide (n < 0))), DC.sl 3 [.int] (L n.natAbs)], DA.agg [DC.im (Value.bool (decide (d < 0))), DC.sl 3 [.int] (L d.natAbs)]]
 refine ⟨(n,d),by
  rfl,by
  show nl n.natAbs<=24/\nl d.natAbs<=24
  first|exact hpre.1|exact hpre.2|exact ⟨Nat.le_trans (Bv hpre.1) (by decide),Nat.le_trans (Bv hpre.2) (by decide)⟩,?_⟩
 exact Bl rfl
def ptC (b:List UInt8) (c:Cur):Pq:=⟨if blV b (BG b c) 3=0 then Fr.add (Fr.ofInt (Bp b c).1) (rOf 1 (2+blV b (blC b (BG b c) 3) 3)) else Fr.ofInt (Bp b c).1,Fr.ofInt (Bp b c).2⟩
def ptE (b:List UInt8) (c:Cur):Cur:=if blV b (BG b c) 3=0 then blC b (blC b (BG b c) 3) 3 else blC b (BG b c) 3
theorem Bj {b:List UInt8} {c:Cur} (h:blV b (BG b c) 3=0):(ptC b c).x=Fr.add (Fr.ofInt (Bp b c).1) (rOf 1 (2+blV b (blC b (BG b c) 3) 3))/\ptE b c=blC b (blC b (BG b c) 3) 3:=⟨if_pos h,if_pos h⟩
theorem CP {b:List UInt8} {c:Cur} (h:¬ blV b (BG b c) 3=0):(ptC b c).x=Fr.ofInt (Bp b c).1/\ptE b c=blC b (BG b c) 3:=⟨if_neg h,if_neg h⟩
theorem PG (b:List UInt8) (c:Cur):(-10<=(Bp b c).1/\(Bp b c).1<=10)/\-10<=(Bp b c).2/\(Bp b c).2<=10:=by
 have q1:=DD b c (n:=21) (by omega)
 have q2:=DD b (blC b c 21) (n:=21) (by omega)
 refine ⟨⟨by show -10<=_-10;omega,by show _-10<=10;omega⟩,by show -10<=_-10;omega,by show _-10<=10;omega⟩
def QV:(List UInt8)×Cur->List PC:=λ i=>[.bt i.1,.im (.int .i64 i.2.i),.im (.int .i64 i.2.h)]
def Uu:(List UInt8)×Cur->List PC:=λ i=>[.bt i.1,.im (.int .i64 (((ptE i.1 i.2)).i)),.im (.int .i64 (((ptE i.1 i.2)).h))]
def KD:Con:={ ι:=(List UInt8)×Cur,pre:=λ i=>Aw i.1 i.2,args:=λ i=>[],ptr:=some (QV,Uu),res:=λ i=>⟨false,[some 6],[.im (Value.bool (decide (((ptC i.1 i.2)).x.z<0))),.own 3 [.int] (L ((ptC i.1 i.2)).x.z.natAbs),.own 3 [.int] (L ((ptC i.1 i.2)).x.d),.im (Value.bool (decide (((ptC i.1 i.2)).y.z<0))),.own 3 [.int] (L ((ptC i.1 i.2)).y.z.natAbs),.own 3 [.int] (L ((ptC i.1 i.2)).y.d)]⟩ }
theorem W4:KD.OkP Tryz.prog 31 QV Uu:=by
 refine Sf (X:=⟨tt,[(57,ID),(64,Dy),(65,IE),(68,As),(67,EP),(66,EZ)],[4000000],18,[]⟩) AH AI (CTok.consP Vp (CTok.cons On (CTok.consP Vq (CTok.consP IC (CTok.cons Sk (CTok.cons QA (CTok.nil _))))))) Tryz.func31 (λ _=>[]) ?_
 rintro ⟨b,c⟩ hpre
 have hpre:Aw b c:=hpre
 refine AG (q:=∃ i1:(List UInt8)×Cur,[]=ID.args i1/\[PC.bt b,PC.im (Value.int .i64 c.i),PC.im (Value.int .i64 c.h)]=NT i1/\ID.pre i1/\(∃ i2:Int×Int,[DA.agg [cI ((Bp i1.1 i1.2).1),cI ((Bp i1.1 i1.2).2)]]=Dy.args i2/\Dy.pre i2/\(∃ i3:(List UInt8)×Cur×Int,[DA.one (cI (3:Int))]=IE.args i3/\[PC.bt b,PC.im (Value.int .i64 ((BG i1.1 i1.2).i)),PC.im (Value.int .i64 ((BG i1.1 i1.2).h))]=NU i3/\IE.pre i3/\(((decide (blV i3.1 i3.2.1 i3.2.2=0))=true->(∃ i4:(List UInt8)×Cur×Int,[DA.one (cI (3:Int))]=As.args i4/\[PC.bt b,PC.im (Value.int .i64 ((blC i3.1 i3.2.1 i3.2.2).i)),PC.im (Value.int .i64 ((blC i3.1 i3.2.1 i3.2.2).h))]=DE i4/\As.pre i4/\(∃ i5:Int×Int,[DA.one (cI (1:Int)),DA.one (cI (IntKind.i64.wrap ((2:Int)+(blV i4.1 i4.2.1 i4.2.2))))]=EP.args i5/\EP.pre i5/\(∃ i6:Fr×Fr,[dF (Fr.ofInt i2.1),dF (rOf i5.1 i5.2)]=EZ.args i6/\EZ.pre i6/\((eqD (Fr.add i6.1 i6.2) (((ptC b c)).x) ((eqD (Fr.ofInt i2.2) (((ptC b c)).y) ((Value.int .i64 ((blC i4.1 i4.2.1 i4.2.2).i)=Value.int .i64 (((ptE b c)).i))/\(Value.int .i64 ((blC i4.1 i4.2.1 i4.2.2).h)=Value.int .i64 (((ptE b c)).h)))))))))))/\((decide (blV i3.1 i3.2.1 i3.2.2=0))=false->((eqD (Fr.ofInt i2.1) (((ptC b c)).x) ((eqD (Fr.ofInt i2.2) (((ptC b c)).y) ((Value.int .i64 ((blC i3.1 i3.2.1 i3.2.2).i)=Value.int .i64 (((ptE b c)).i))/\(Value.int .i64 ((blC i3.1 i3.2.1 i3.2.2).h)=Value.int .i64 (((ptE b c)).h)))))))))))) (by kernel_rfl) ?_
 have k1:=BV 21 hpre
 have k2:Aw b (BG b c):=BV 21 k1
 have k3:=BV 3 k2
 have rv:=PG b c
 have rb:=DD b (blC b (BG b c) 3) (n:=3) (by omega)
 have hw2:IntKind.i64.wrap (2+blV b (blC b (BG b c) 3) 3)=2+blV b (blC b (BG b c) 3) 3:=AB (by omega) (by omega)
 -- w1: dVec []
 refine ⟨(b,c),by
  rfl,rfl,by
  show Aw b c
  first|exact hpre|exact k2|exact k3|trivial|omega|(rw [hw2];omega),?_⟩
 -- w4: sPointOf [DA.agg [DC.im (Value.int .i64 ((Bp b c).1)), DC.im (Value.int .i64 ((Bp b c).2))]]
 refine ⟨(((Bp b c).1),((Bp b c).2)),by
  rfl,by
  show (-9223372036854775808<=((Bp b c).1)/\((Bp b c).1)<=9223372036854775807)/\-9223372036854775808<=((Bp b c).2)/\((Bp b c).2)<=9223372036854775807
  first|exact hpre|exact k2|exact k3|trivial|omega|(rw [hw2];omega),?_⟩
 -- w7: once [DA.one (DC.im (Value.int .i64 (3 : Int)))]
 refine ⟨(b,(BG b c),(3:Int)),by
  rfl,rfl,by
  show Aw b (BG b c)
  first|exact hpre|exact k2|exact k3|trivial|omega|(rw [hw2];omega),?_⟩
 refine And.symm ⟨λ c10=>?_,λ c10=>?_⟩
 ·-- c10f: (decide (blV b (BG b c) (3 : Int) = 0)) = false
  replace c10:(decide (blV b (BG b c) (3:Int)=0))=false:=c10
  try simp only [nrm] at c10
  refine Fa ?_ (Fa ?_ ⟨?_,?_⟩)
  ·-- l28: Fr.ofInt ((Bp b c).1) = ((ptC b c)).x
   show Fr.ofInt ((Bp b c).1)=((ptC b c)).x
   first|rfl|(rw [(Bj c10).1,hw2];done)|(rw [(Bj c10).2];done)|(rw [(CP c10).1];done)|(rw [(CP c10).2];done)
  ·-- l31: Fr.ofInt ((Bp b c).2) = ((ptC b c)).y
   show Fr.ofInt ((Bp b c).2)=((ptC b c)).y
   first|rfl|(rw [(Bj c10).1,hw2];done)|(rw [(Bj c10).2];done)|(rw [(CP c10).1];done)|(rw [(CP c10).2];done)
  ·-- l34: Value.int .i64 ((blC b (BG b c) (3 : Int)).i) = Value.int .i64 (((ptE b c)).i)
   show Value.int .i64 ((blC b (BG b c) (3:Int)).i)=Value.int .i64 (((ptE b c)).i)
   first|rfl|(rw [(Bj c10).1,hw2];done)|(rw [(Bj c10).2];done)|(rw [(CP c10).1];done)|(rw [(CP c10).2];done)
  -- l35: Value.int .i64 ((blC b (BG b c) (3 : Int)).h) = Value.int .i64 (((ptE b c)).h)
  show Value.int .i64 ((blC b (BG b c) (3:Int)).h)=Value.int .i64 (((ptE b c)).h)
  first|rfl|(rw [(Bj c10).1,hw2];done)|(rw [(Bj c10).2];done)|(rw [(CP c10).1];done)|(rw [(CP c10).2];done)
 -- c10t: (decide (blV b (BG b c) (3 : Int) = 0)) = true
 replace c10:(decide (blV b (BG b c) (3:Int)=0))=true:=c10
 try simp only [nrm] at c10
 -- w11: below [DA.one (DC.im (Value.int .i64 (3 : Int)))]
 refine ⟨(b,(blC b (BG b c) (3:Int)),(3:Int)),by
  rfl,rfl,by
  show Aw b (blC b (BG b c) (3:Int))
  first|exact hpre|exact k2|exact k3|trivial|omega|(rw [hw2];omega),?_⟩
 -- w14: sRatOf [DA.one (DC.im (Value.int .i64 (1 : Int))), DA.one (DC.im (Value.int .i64 (IntKind.i64.wrap ((2 : Int) + (blV b (blC b (BG b c) (3 : Int)) (3 : Int))))))]
 refine ⟨((1:Int),(IntKind.i64.wrap ((2:Int)+(blV b (blC b (BG b c) (3:Int)) (3:Int))))),by
  rfl,by
  try dsimp only [EP]
  first|exact hpre|exact k2|exact k3|trivial|omega|(rw [hw2];omega),?_⟩
 -- w17: sRatAdd [DA.agg [DC.im (Value.bool (decide ((Fr.ofInt ((Bp b c).1)).z < 0))), DC.sl 3 [.int] (L (Fr.ofInt ((Bp b c).1)).z.natAbs), DC.sl 3 [.int] (L (Fr.ofInt ((Bp b c).1)).d)], DA.agg [DC.im (Value.bool (decide ((rOf (1 : Int) (IntKind.i64.wrap ((2 : Int) + (blV b (blC b (BG b c) (3 : Int)) (3 : In
 refine ⟨((Fr.ofInt ((Bp b c).1)),(rOf (1:Int) (IntKind.i64.wrap ((2:Int)+(blV b (blC b (BG b c) (3:Int)) (3:Int)))))),by
  rfl,by
  first|exact hpre|exact k2|exact k3|trivial|omega|(rw [hw2];omega),?_⟩
 refine Fa ?_ (Fa ?_ ⟨?_,?_⟩)
 ·-- l20: Fr.add (Fr.ofInt ((Bp b c).1)) (rOf (1 : Int) (IntKind.i64.wrap ((2 : Int) + (blV b (blC b (BG b c) (3 : Int)) (3 : Int))))) = ((ptC b c)).x
  show Fr.add (Fr.ofInt ((Bp b c).1)) (rOf (1:Int) (IntKind.i64.wrap ((2:Int)+(blV b (blC b (BG b c) (3:Int)) (3:Int)))))=((ptC b c)).x
  first|rfl|(rw [(Bj c10).1,hw2];done)|(rw [(Bj c10).2];done)|(rw [(CP c10).1];done)|(rw [(CP c10).2];done)
 ·-- l23: Fr.ofInt ((Bp b c).2) = ((ptC b c)).y
  show Fr.ofInt ((Bp b c).2)=((ptC b c)).y
  first|rfl|(rw [(Bj c10).1,hw2];done)|(rw [(Bj c10).2];done)|(rw [(CP c10).1];done)|(rw [(CP c10).2];done)
 ·-- l26: Value.int .i64 ((blC b (blC b (BG b c) (3 : Int)) (3 : Int)).i) = Value.int .i64 (((ptE b c)).i)
  show Value.int .i64 ((blC b (blC b (BG b c) (3:Int)) (3:Int)).i)=Value.int .i64 (((ptE b c)).i)
  first|rfl|(rw [(Bj c10).1,hw2];done)|(rw [(Bj c10).2];done)|(rw [(CP c10).1];done)|(rw [(CP c10).2];done)
 -- l27: Value.int .i64 ((blC b (blC b (BG b c) (3 : Int)) (3 : Int)).h) = Value.int .i64 (((ptE b c)).h)
 show Value.int .i64 ((blC b (blC b (BG b c) (3:Int)) (3:Int)).h)=Value.int .i64 (((ptE b c)).h)
 first|rfl|(rw [(Bj c10).1,hw2];done)|(rw [(Bj c10).2];done)|(rw [(CP c10).1];done)|(rw [(CP c10).2];done)
def Ci:Con:={ ι:=(List UInt8)×Nat,pre:=λ i=>i.1.length<=1048576/\i.2<=100,args:=λ i=>[.one (.ro (.bytes i.1)),.one (.im (.int .i64 (i.2:Int)))],res:=λ i=>⟨false,[some 6],[.im (Value.bool (decide (((ptC i.1 (AA i.1 (4*i.2)))).x.z<0))),.own 3 [.int] (L ((ptC i.1 (AA i.1 (4*i.2)))).x.z.natAbs),.own 3 [.int] (L ((ptC i.1 (AA i.1 (4*i.2)))).x.d),.im (Value.bool (decide (((ptC i.1 (AA i.1 (4*i.2)))).y.z<0))),.own 3 [.int] (L ((ptC i.1 (AA i.1 (4*i.2)))).y.z.natAbs),.own 3 [.int] (L ((ptC i.1 (AA i.1 (4*i.2)))).y.d)]⟩ }
theorem Vx:Ci.Ok Tryz.prog 7:=by
 refine fok (X:=⟨tt,[(32,DT),(31,KD)],[],10,[]⟩) AH AI (CTok.consN PB (CTok.consP W4 (CTok.nil _))) Tryz.func7 (λ _=>[]) ?_
 rintro ⟨b,n⟩ hpre
 have hpre:b.length<=1048576/\n<=100:=hpre
 refine AG (q:=∃ i1:(List UInt8)×Nat,[DA.one (DC.ro (.bytes b)),DA.one (cI (IntKind.i64.wrap ((4:Int)*(n:Int))))]=DT.args i1/\DT.pre i1/\(∃ i2:(List UInt8)×Cur,[]=KD.args i2/\[PC.bt b,PC.im (Value.int .i64 ((AA i1.1 i1.2).i)),PC.im (Value.int .i64 ((AA i1.1 i1.2).h))]=QV i2/\KD.pre i2/\((eqD (((ptC i2.1 i2.2)).x) (((ptC b (AA b (4*n)))).x) ((eqC (((ptC i2.1 i2.2)).y) (((ptC b (AA b (4*n)))).y))))))) (by kernel_rfl) ?_
 have hw:IntKind.i64.wrap (4*(n:Int))=((4*n:Nat):Int):=by rw [AB (by omega) (by omega)];omega
 -- w1: new31 [DA.one (DC.ro (.bytes b)), DA.one (DC.im (Value.int .i64 (IntKind.i64.wrap ((4 : Int) * (n : Int)))))]
 refine ⟨(b,4*n),by
  first|rfl|(rw [hw];rfl),by
  show b.length<=1048576/\(4*n)<=1000
  first|exact ⟨hpre.1,by omega⟩|exact EO hpre.1 _,?_⟩
 -- w4: dPt []
 refine ⟨(b,(AA b (4*n))),by
  first|rfl|(rw [hw];rfl),rfl,by
  show Aw b (AA b (4*n))
  first|exact ⟨hpre.1,by omega⟩|exact EO hpre.1 _,?_⟩
 exact Fa rfl (Bl rfl)
end Go.Proofs.YtndnhlhnjiopfaaGreat
