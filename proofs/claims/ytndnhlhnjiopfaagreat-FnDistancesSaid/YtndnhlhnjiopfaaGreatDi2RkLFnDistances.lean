import Derived.Test.YtndnhlhnjiopfaaGreatDi2Dst
import Derived.Test.YtndnhlhnjiopfaaGreatDi2RkG2
namespace Go.Proofs.YtndnhlhnjiopfaaGreat
set_option linter.unusedVariables false
set_option linter.unusedSimpArgs false
open Go.RowKit
theorem OP (b:List UInt8) (c:Cur):PqS 7 (ptC b c):=by
 have rv:=QC b c
 have rb:=Dc b (blC b (BU b c) 3) (n:=3) (by omega)
 have hx:=FrS.int (n:=(CA b c).1) (k:=4) (by omega) (by omega)
 have hy:=FrS.int (n:=(CA b c).2) (k:=4) (by omega) (by omega)
 refine ⟨?_,?_⟩
 ·exact if blV b (BU b c) 3=0 then ((CA b c).1:Rat)+(1:Int)/((2+blV b (blC b (BU b c) 3) 3:Int):Rat) else (CA b c).1
 ·refine ⟨((CA b c).2:Rat),?_,hy.mono (by omega)⟩
  by_cases h:blV b (BU b c) 3=0
  ·rw [(B5 h).1,if_pos h]
   have hd:(2+blV b (blC b (BU b c) 3) 3:Int)≠0:=by omega
   have hr:FrS 2 (rOf 1 (2+blV b (blC b (BU b c) 3) 3)) ((1:Int)/((2+blV b (blC b (BU b c) 3) 3:Int):Rat)):=
    ⟨Xc hd (Fy (k:=0) (by decide) (by omega)) (Fy (k:=2) (by omega) (by omega)),RA (j:=0) (k:=2) (L1 (by decide)) (L1 (by omega)) (ON hd)⟩
   exact hx.add hr (by omega)
  ·rw [(Ci h).1,if_neg h];exact hx.mono (by omega)
theorem Yu {l:List V2} {p q:Pq} (hl:AU l=true) (hp:p.good=true) (hq:q.good=true):smZ l (ptQ p) (ptQ q)=smB l p q:=by
 have key:∀ {p:Pq},p.good=true->pqR (ptQ p)=p:=λ {p} h=>by
  have hg:p.x.good=true/\p.y.good=true:=by unfold Pq.good at h;rwa [Bool.and_eq_true] at h
  show (⟨Fr.mk' (zOf (decide (p.x.z<0)) (EO (L p.x.z.natAbs))) (EO (L p.x.d)),Fr.mk' (zOf (decide (p.y.z<0)) (EO (L p.y.z.natAbs))) (EO (L p.y.d))⟩:Pq)=p
  rw [BJ,BJ,BJ,BJ,Bd,Bd,ET (Fr.d_good.1 hg.1),ET (Fr.d_good.1 hg.2)]
 unfold smZ
 rw [hl,ID,ID,hp,hq,key hp,key hq];rfl
theorem Yv {l:List V2} {p q:Pq} (hl:AU l=true) (hp:p.good=true) (hq:q.good=true):sbR l (ptQ p) (ptQ q)=btQ l p q:=by
 have key:∀ {p:Pq},p.good=true->pqR (ptQ p)=p:=λ {p} h=>by
  have hg:p.x.good=true/\p.y.good=true:=by unfold Pq.good at h;rwa [Bool.and_eq_true] at h
  show (⟨Fr.mk' (zOf (decide (p.x.z<0)) (EO (L p.x.z.natAbs))) (EO (L p.x.d)),Fr.mk' (zOf (decide (p.y.z<0)) (EO (L p.y.z.natAbs))) (EO (L p.y.d))⟩:Pq)=p
  rw [BJ,BJ,BJ,BJ,Bd,Bd,ET (Fr.d_good.1 hg.1),ET (Fr.d_good.1 hg.2)]
 unfold sbR
 rw [if_pos ⟨hl,by rw [ID];exact hp,by rw [ID];exact hq⟩,key hp,key hq]
theorem Yw {p q:Pq} {a b:Q2} (hp:PqB 7 p a) (hq:PqB 7 q b):PqB 16 (Aq p q) (RR a b):=by
 have hh:FrS 1 (rOf 1 2) (1/2):=by
  have e:((1:Int):Rat)/((2:Int):Rat)=1/2:=rfl
  rw [← e]
  exact ⟨Xc (by decide) (Fy (k:=0) (by decide) (by omega)) (Fy (k:=2) (by decide) (by omega)),RA (j:=0) (k:=1) (L1 (by decide)) (L1 (by decide)) (ON (by decide))⟩
 have m:PqB 16 ⟨Fr.mul (Fr.add p.x q.x) (rOf 1 2),Fr.mul (Fr.add p.y q.y) (rOf 1 2)⟩ (RR a b):=
  ⟨(hp.1.add hq.1 (by omega)).mul hh (by omega),(hp.2.add hq.2 (by omega)).mul hh (by omega)⟩
 have hg:(⟨Fr.mul (Fr.add p.x q.x) (rOf 1 2),Fr.mul (Fr.add p.y q.y) (rOf 1 2)⟩:Pq).good=true:=by
  unfold Pq.good;rw [m.1.good,m.2.good];rfl
 unfold Aq orQ
 rw [if_pos hg]
 exact m
theorem Ra {l:List V2} (hl:AU l=true) (h:∀ x ∈ l,(-8<=x.1/\x.1<=8)/\-8<=x.2/\x.2<=8) {p q:Pq} (hp:PqS 7 p) (hq:PqS 7 q):DistLaw l p q (Aq p q) (l.getD 0 (0,0))/\(Aq p q).good=true:=by
 obtain ⟨a1,a2,ha1,ha2⟩:=hp
 obtain ⟨b1,b2,hb1,hb2⟩:=hq
 have m:=Yw (a:=(a1,a2)) (b:=(b1,b2)) ⟨ha1,ha2⟩ ⟨hb1,hb2⟩
 refine ⟨V4 (a:=(a1,a2)) (b:=(b1,b2)) hl h ⟨ha1,ha2⟩ ⟨hb1,hb2⟩ m (h _ (Pn (by have:=(G6 hl).1;omega))),?_⟩
 unfold Pq.good;rw [m.1.good,m.2.good];rfl
def QG:Con:={ ι:=(List UInt8),pre:=λ i=>True,args:=λ i=>[.one (.ro (.bytes i))],res:=λ i=>⟨false,[none],[.im (Value.bool true)]⟩ }
set_option maxRecDepth 100000 in
set_option maxHeartbeats 4000000 in
theorem Rb:QG.Ok Tryz.prog 5:=by
 refine fok (X:=⟨tt,[(7,F4),(8,Gd),(20,Ga),(9,F5),(14,DN),(15,Ao),(18,CL),(21,Ct),(11,D5),(12,D0),(17,B0),(22,Gg),(23,DP),(25,Gh),(24,BY)],[],92,[]⟩) AG AH (CTok.cons XA (CTok.cons Tz (CTok.cons Tp (CTok.cons XC (CTok.cons RJ (CTok.cons Il (CTok.cons RW (CTok.cons QF (CTok.cons OB (CTok.cons N5 (CTok.cons KL (CTok.cons UA (CTok.cons RZ (CTok.cons UB (CTok.cons KO (CTok.nil _)))))))))))))))) Tryz.func5 (λ _=>[]) ?_
 intro (b:List UInt8) hpre
 have hpre:True:=hpre
 refine AF (q:=((decide (((b.length:Nat):Int)>(1048576:Int)))=true->((Value.bool true=Value.bool true)))/\((decide (((b.length:Nat):Int)>(1048576:Int)))=false->(∃ i1:(List UInt8)×Nat,[DA.one (DC.ro (.bytes b)),DA.one (cI (0:Int))]=F4.args i1/\F4.pre i1/\(∃ i2:(List UInt8)×Nat,[DA.one (DC.ro (.bytes b)),DA.one (cI (1:Int))]=F4.args i2/\F4.pre i2/\(∃ i3:(List UInt8)×Nat,[DA.one (DC.ro (.bytes b)),DA.one (cI (4:Int))]=Gd.args i3/\Gd.pre i3/\(∃ i4:(List V2)×PtD×PtD,[DA.one (DC.sl 44 [.int,.int] (AC (drP i3.1 5 (AA i3.1 (7*i3.2))).1)),dP (((ptC i1.1 (AA i1.1 (4*i1.2))))),dP (((ptC i2.1 (AA i2.1 (4*i2.2)))))]=Ga.args i4/\Ga.pre i4/\(∃ i5:Pq×Pq,[dP (((ptC i1.1 (AA i1.1 (4*i1.2))))),dP (((ptC i2.1 (AA i2.1 (4*i2.2)))))]=F5.args i5/\F5.pre i5/\(∃ i6:(List V2)×PtD,[DA.one (DC.sl 44 [.int,.int] (AC (drP i3.1 5 (AA i3.1 (7*i3.2))).1)),dP ((Aq i5.1 i5.2))]=DN.args i6/\DN.pre i6/\(∃ i7:Bool×(List (List Dat))×(List (List Dat)),[dF (sbR i4.1 i4.2.1 i4.2.2)]=Ao.args i7/\Ao.pre i7/\(((!(!(AZ i7.1 i7.2.1 i7.2.2)))=true->(∃ i8:Bool×(List (List Dat))×(List (List Dat)),[dF (spR i6.1 i6.2)]=Ao.args i8/\Ao.pre i8/\(((!(!(AZ i8.1 i8.2.1 i8.2.2)))=true->(∃ i9:Fr×Fr,[dF (sbR i4.1 i4.2.1 i4.2.2),dF (spR i6.1 i6.2)]=CL.args i9/\CL.pre i9/\(((!(decide ((if i9.1.good=true/\i9.2.good=true then Fr.cmp i9.1 i9.2 else 0)>(0:Int))))=true->(∃ i10:(List V2)×PtD,[DA.one (DC.sl 44 [.int,.int] (AC (drP i3.1 5 (AA i3.1 (7*i3.2))).1)),dP (((ptC i1.1 (AA i1.1 (4*i1.2)))))]=DN.args i10/\DN.pre i10/\(∃ i11:Fr×Fr,[dF (sbR i4.1 i4.2.1 i4.2.2),dF (spR i10.1 i10.2)]=CL.args i11/\CL.pre i11/\(((decide ((if i11.1.good=true/\i11.2.good=true then Fr.cmp i11.1 i11.2 else 0)>(0:Int)))=true->((Value.bool false=Value.bool true)))/\((decide ((if i11.1.good=true/\i11.2.good=true then Fr.cmp i11.1 i11.2 else 0)>(0:Int)))=false->(∃ i12:Fr,[dF (sbR i4.1 i4.2.1 i4.2.2)]=Ct.args i12/\Ct.pre i12/\(∃ i13:(List V2)×PtD×PtD,[DA.one (DC.sl 44 [.int,.int] (AC (drP i3.1 5 (AA i3.1 (7*i3.2))).1)),dP (((ptC i1.1 (AA i1.1 (4*i1.2))))),dP (((ptC i2.1 (AA i2.1 (4*i2.2)))))]=D5.args i13/\D5.pre i13/\((((i12.sgn == (0:Int)) == (smZ i13.1 i13.2.1 i13.2.2))=true->(∃ i14:Fr,[dF (spR i6.1 i6.2)]=Ct.args i14/\Ct.pre i14/\(∃ i15:Pq×Pq,[dP (((ptC i1.1 (AA i1.1 (4*i1.2))))),dP (((ptC i2.1 (AA i2.1 (4*i2.2)))))]=F5.args i15/\F5.pre i15/\(∃ i16:(List V2)×PtD,[DA.one (DC.sl 44 [.int,.int] (AC (drP i3.1 5 (AA i3.1 (7*i3.2))).1)),dP ((Aq i15.1 i15.2))]=D0.args i16/\D0.pre i16/\((((i14.sgn == (0:Int)) == (decide ((cpZ i16.1 i16.2)≥(0:Int))))=true->((0<=(0:Int)/\(0:Int)<((AC (drP i3.1 5 (AA i3.1 (7*i3.2))).1).length:Int))/\((0<(AC (drP i3.1 5 (AA i3.1 (7*i3.2))).1).length)/\(∃ i17:Int×Int,[DA.agg [cI (((((AC (drP i3.1 5 (AA i3.1 (7*i3.2))).1).getD 0 []).getD 0 (.int 0))).n),cI (((((AC (drP i3.1 5 (AA i3.1 (7*i3.2))).1).getD 0 []).getD 1 (.int 0))).n)]]=B0.args i17/\B0.pre i17/\(∃ i18:Pq×Pq×Pq,[dP (((ptC i1.1 (AA i1.1 (4*i1.2))))),dP (((ptC i2.1 (AA i2.1 (4*i2.2))))),DA.agg [cB (decide ((Fr.ofInt i17.1).z<0)),cS (L (Fr.ofInt i17.1).z.natAbs),cS (L (Fr.ofInt i17.1).d),cB (decide ((Fr.ofInt i17.2).z<0)),cS (L (Fr.ofInt i17.2).z.natAbs),cS (L (Fr.ofInt i17.2).d)]]=Gg.args i18/\Gg.pre i18/\(∃ i19:Pq×Pq,[dP (((ptC i1.1 (AA i1.1 (4*i1.2))))),dP (((ptC i2.1 (AA i2.1 (4*i2.2)))))]=DP.args i19/\DP.pre i19/\(∃ i20:Fr×Fr,[dF (BL i18.1 i18.2.1 i18.2.2),dF (sdQ i19.1 i19.2)]=CL.args i20/\CL.pre i20/\(((decide ((if i20.1.good=true/\i20.2.good=true then Fr.cmp i20.1 i20.2 else 0)<=(0:Int)))=true->(∃ i21:Pq×Pq×Pq,[dP (((ptC i1.1 (AA i1.1 (4*i1.2))))),dP (((ptC i2.1 (AA i2.1 (4*i2.2))))),dP (((ptC i2.1 (AA i2.1 (4*i2.2)))))]=Gh.args i21/\Gh.pre i21/\(∃ i22:Pq×Pq,[dP (((ptC i1.1 (AA i1.1 (4*i1.2))))),dP (((ptC i2.1 (AA i2.1 (4*i2.2)))))]=DP.args i22/\DP.pre i22/\(∃ i23:Fr×Fr,[dF (Cq i21.1 i21.2.1 i21.2.2),dF (sdQ i22.1 i22.2)]=BY.args i23/\BY.pre i23/\((Value.bool (eqF i23.1 i23.2)=Value.bool true))))))/\((decide ((if i20.1.good=true/\i20.2.good=true then Fr.cmp i20.1 i20.2 else 0)<=(0:Int)))=false->((Value.bool false=Value.bool true)))))))))))/\(((i14.sgn == (0:Int)) == (decide ((cpZ i16.1 i16.2)≥(0:Int))))=false->((Value.bool false=Value.bool true))))))))/\(((i12.sgn == (0:Int)) == (smZ i13.1 i13.2.1 i13.2.2))=false->((Value.bool false=Value.bool true)))))))))))/\((!(decide ((if i9.1.good=true/\i9.2.good=true then Fr.cmp i9.1 i9.2 else 0)>(0:Int))))=false->((Value.bool false=Value.bool true))))))/\((!(!(AZ i8.1 i8.2.1 i8.2.2)))=false->((Value.bool false=Value.bool true))))))/\((!(!(AZ i7.1 i7.2.1 i7.2.2)))=false->((Value.bool false=Value.bool true))))))))))))) (by kernel_rfl) ?_
 refine ⟨λ c1=>?_,λ c1=>?_⟩
 ·-- c1t: (decide (((b.length : Nat) : Int) > (1048576 : Int))) = true
  replace c1:(decide (((b.length:Nat):Int)>(1048576:Int)))=true:=c1
  try simp only [nrm] at c1
  exact rfl
 -- c1f: (decide (((b.length : Nat) : Int) > (1048576 : Int))) = false
 replace c1:(decide (((b.length:Nat):Int)>(1048576:Int)))=false:=c1
 try simp only [nrm] at c1
 have hlen:b.length<=1048576:=by omega
 have q1:=YK (b:=b) (z:=5) (by omega) (AA b (7*4))
 have g0:=(OP b (AA b (4*0))).good
 have g1:=(OP b (AA b (4*1))).good
 obtain ⟨Q,gm⟩:=Ra q1.1 (λ x hx=>by have:=q1.2.2 x hx;omega) (OP b (AA b (4*0))) (OP b (AA b (4*1)))
 have s01:=Yv q1.1 g0 g1
 have sm:=XY q1.1 gm
 have s0:=XY q1.1 g0
 have e01:=Yu q1.1 g0 g1
 have em:=Yo q1.1 gm
 obtain ⟨hl3,hl16,hall⟩:=G6 q1.1
 have hl0:0<((drP b 5 (AA b (7*4))).1).length:=by omega
 have hvl:=AI ((drP b 5 (AA b (7*4))).1)
 have hvc:=Bx hall hl0
 have hbc:=DQ hvc
 have gc:(ptV (((drP b 5 (AA b (7*4))).1).getD 0 (0,0))).good=true:=Tm hall hl0
 have n11:=(sbR (drP b 5 (AA b (7*4))).1 (ptQ (ptC b (AA b (4*0)))) (ptQ (ptC b (AA b (4*1))))).nlz
 have n12:=(sbR (drP b 5 (AA b (7*4))).1 (ptQ (ptC b (AA b (4*0)))) (ptQ (ptC b (AA b (4*1))))).nld
 have n13:=AL (sbR (drP b 5 (AA b (7*4))).1 (ptQ (ptC b (AA b (4*0)))) (ptQ (ptC b (AA b (4*1))))).z.natAbs
 have n14:=AL (sbR (drP b 5 (AA b (7*4))).1 (ptQ (ptC b (AA b (4*0)))) (ptQ (ptC b (AA b (4*1))))).d
 have n21:=(spR (drP b 5 (AA b (7*4))).1 (ptQ (Aq (ptC b (AA b (4*0))) (ptC b (AA b (4*1)))))).nlz
 have n22:=(spR (drP b 5 (AA b (7*4))).1 (ptQ (Aq (ptC b (AA b (4*0))) (ptC b (AA b (4*1)))))).nld
 have n23:=AL (spR (drP b 5 (AA b (7*4))).1 (ptQ (Aq (ptC b (AA b (4*0))) (ptC b (AA b (4*1)))))).z.natAbs
 have n24:=AL (spR (drP b 5 (AA b (7*4))).1 (ptQ (Aq (ptC b (AA b (4*0))) (ptC b (AA b (4*1)))))).d
 have hz1:((sbR (drP b 5 (AA b (7*4))).1 (ptQ (ptC b (AA b (4*0)))) (ptQ (ptC b (AA b (4*1))))).sgn == (0:Int))=smZ ((drP b 5 (AA b (7*4))).1) (ptQ (ptC b (AA b (4*0)))) (ptQ (ptC b (AA b (4*1)))):=by rw [s01,e01,Bool.eq_iff_iff,beq_iff_eq];exact Q.dz
 have hz2:((spR (drP b 5 (AA b (7*4))).1 (ptQ (Aq (ptC b (AA b (4*0))) (ptC b (AA b (4*1)))))).sgn == (0:Int))=decide (cpZ ((drP b 5 (AA b (7*4))).1) (ptQ (Aq (ptC b (AA b (4*0))) (ptC b (AA b (4*1)))))≥0):=by rw [sm,em,Bool.eq_iff_iff,beq_iff_eq,decide_eq_true_eq];exact Q.ez
 -- w3: mkPt [DA.one (DC.ro (.bytes b)), DA.one (DC.im (Value.int .i64 (0 : Int)))]
 refine ⟨(b,0),by
  rfl,by
  show b.length<=1048576/\0<=100
  exact ⟨hlen,by omega⟩,?_⟩
 -- w6: mkPt [DA.one (DC.ro (.bytes b)), DA.one (DC.im (Value.int .i64 (1 : Int)))]
 refine ⟨(b,1),by
  rfl,by
  show b.length<=1048576/\1<=100
  exact ⟨hlen,by omega⟩,?_⟩
 -- w9: mkPoly [DA.one (DC.ro (.bytes b)), DA.one (DC.im (Value.int .i64 (4 : Int)))]
 refine ⟨(b,4),by
  rfl,by
  show b.length<=1048576/\4<=100
  exact ⟨hlen,by omega⟩,?_⟩
 -- w12: iSqBet [DA.one (DC.sl 44 [.int, .int] (AC (drP b 5 (AA b (7 * 4))).1)), DA.agg [DC.im (Value.bool (decide (((ptC b (AA b (4 * 0)))).x.z < 0))), DC.sl 3 [.int] (L ((ptC b (AA b (4 * 0)))).x.z.natAbs), DC.sl 3 [.int] (L ((ptC b (AA b (4 * 0)))).x.d), DC.im (Value.bool (decide (((ptC b (AA b
 refine ⟨((drP b 5 (AA b (7*4))).1,ptQ (ptC b (AA b (4*0))),ptQ (ptC b (AA b (4*1)))),by
  rfl,by
  show (ptQ (ptC b (AA b (4*0)))).has/\(ptQ (ptC b (AA b (4*1)))).has
  exact ⟨FB _,FB _⟩,?_⟩
 -- w15: iMid [DA.agg [DC.im (Value.bool (decide (((ptC b (AA b (4 * 0)))).x.z < 0))), DC.sl 3 [.int] (L ((ptC b (AA b (4 * 0)))).x.z.natAbs), DC.sl 3 [.int] (L ((ptC b (AA b (4 * 0)))).x.d), DC.im (Value.bool (decide (((ptC b (AA b (4 * 0)))).y.z < 0))), DC.sl 3 [.int] (L ((ptC b (AA b (4 * 0)))).
 refine ⟨(((ptC b (AA b (4*0)))),((ptC b (AA b (4*1))))),by
  rfl,by
  show ((ptC b (AA b (4*0)))).good=true/\((ptC b (AA b (4*1)))).good=true
  exact ⟨g0,g1⟩,?_⟩
 -- w18: iSqPoly [DA.one (DC.sl 44 [.int, .int] (AC (drP b 5 (AA b (7 * 4))).1)), DA.agg [DC.im (Value.bool (decide ((Aq ((ptC b (AA b (4 * 0)))) ((ptC b (AA b (4 * 1))))).x.z < 0))), DC.sl 3 [.int] (L (Aq ((ptC b (AA b (4 * 0)))) ((ptC b (AA b (4 * 1))))).x.z.natAbs), DC.sl 3 [.int] (L (Aq (
 refine ⟨((drP b 5 (AA b (7*4))).1,ptQ (Aq (ptC b (AA b (4*0))) (ptC b (AA b (4*1))))),by
  rfl,by
  show (ptQ (Aq (ptC b (AA b (4*0))) (ptC b (AA b (4*1))))).has
  exact FB _,?_⟩
 -- w21: RatOk [DA.agg [DC.im (Value.bool (decide ((sbR ((drP b 5 (AA b (7 * 4))).1) (ptQ (ptC b (AA b (4 * 0)))) (ptQ (ptC b (AA b (4 * 1))))).z < 0))), DC.sl 3 [.int] (L (sbR ((drP b 5 (AA b (7 * 4))).1) (ptQ (ptC b (AA b (4 * 0)))) (ptQ (ptC b (AA b (4 * 1))))).z.natAbs), DC.sl 3 [.int] (L (sb
 refine ⟨((decide ((sbR ((drP b 5 (AA b (7*4))).1) (ptQ (ptC b (AA b (4*0)))) (ptQ (ptC b (AA b (4*1))))).z<0)),L (sbR ((drP b 5 (AA b (7*4))).1) (ptQ (ptC b (AA b (4*0)))) (ptQ (ptC b (AA b (4*1))))).z.natAbs,L (sbR ((drP b 5 (AA b (7*4))).1) (ptQ (ptC b (AA b (4*0)))) (ptQ (ptC b (AA b (4*1))))).d),by
  rfl,by
  try dsimp only [Ao]
  have:=n11;have:=n12;have:=n13;have:=n14;exact ⟨Dg _ (by omega),Dg _ (by omega),by rw [n13];omega,by rw [n14];omega⟩,?_⟩
 refine And.symm ⟨λ c24=>?_,λ c24=>?_⟩
 ·-- c24f: (!(!(AZ (decide ((sbR ((drP b 5 (AA b (7 * 4))).1) (ptQ (ptC b (AA b (4 * 0)))) (ptQ (ptC b (AA b (4 * 1))))).z < 0)) (L (sbR ((drP b 5 (AA b (7 * 4))).1) (ptQ (ptC b (AA b (4 * 0)))) (ptQ (ptC b (AA b (4 * 1))))).z.natAbs) (L (sbR ((drP b 5 (AA b (7 * 4))).1) (ptQ (ptC b (AA b (4 * 0)))) (ptQ (ptC b (AA b (4 * 1))))).d)))) = false
  try dsimp only at c24
  try simp only [nrm] at c24
  rw [CF,s01,Q.gd] at c24;cases c24 -- done
 -- c24t: (!(!(AZ (decide ((sbR ((drP b 5 (AA b (7 * 4))).1) (ptQ (ptC b (AA b (4 * 0)))) (ptQ (ptC b (AA b (4 * 1))))).z < 0)) (L (sbR ((drP b 5 (AA b (7 * 4))).1) (ptQ (ptC b (AA b (4 * 0)))) (ptQ (ptC b (AA b (4 * 1))))).z.natAbs) (L (sbR ((drP b 5 (AA b (7 * 4))).1) (ptQ (ptC b (AA b (4 * 0)))) (ptQ (ptC b (AA b (4 * 1))))).d)))) = true
 try dsimp only at c24
 try simp only [nrm] at c24
 -- w25: RatOk [DA.agg [DC.im (Value.bool (decide ((spR ((drP b 5 (AA b (7 * 4))).1) (ptQ (Aq (ptC b (AA b (4 * 0))) (ptC b (AA b (4 * 1)))))).z < 0))), DC.sl 3 [.int] (L (spR ((drP b 5 (AA b (7 * 4))).1) (ptQ (Aq (ptC b (AA b (4 * 0))) (ptC b (AA b (4 * 1)))))).z.natAbs), DC.sl 3 [.int] (L (
 refine ⟨((decide ((spR ((drP b 5 (AA b (7*4))).1) (ptQ (Aq (ptC b (AA b (4*0))) (ptC b (AA b (4*1)))))).z<0)),L (spR ((drP b 5 (AA b (7*4))).1) (ptQ (Aq (ptC b (AA b (4*0))) (ptC b (AA b (4*1)))))).z.natAbs,L (spR ((drP b 5 (AA b (7*4))).1) (ptQ (Aq (ptC b (AA b (4*0))) (ptC b (AA b (4*1)))))).d),by
  rfl,by
  try dsimp only [Ao]
  exact ⟨Dg _ (by omega),Dg _ (by omega),by rw [n23];omega,by rw [n24];omega⟩,?_⟩
 refine And.symm ⟨λ c28=>?_,λ c28=>?_⟩
 ·-- c28f: (!(!(AZ (decide ((spR ((drP b 5 (AA b (7 * 4))).1) (ptQ (Aq (ptC b (AA b (4 * 0))) (ptC b (AA b (4 * 1)))))).z < 0)) (L (spR ((drP b 5 (AA b (7 * 4))).1) (ptQ (Aq (ptC b (AA b (4 * 0))) (ptC b (AA b (4 * 1)))))).z.natAbs) (L (spR ((drP b 5 (AA b (7 * 4))).1) (ptQ (Aq (ptC b (AA b (4 * 0))) (ptC b (AA b (4 * 1)))))).d)))) = false
  try dsimp only at c28
  try simp only [nrm] at c28
  rw [CF,sm,Q.ge] at c28;cases c28 -- done
 -- c28t: (!(!(AZ (decide ((spR ((drP b 5 (AA b (7 * 4))).1) (ptQ (Aq (ptC b (AA b (4 * 0))) (ptC b (AA b (4 * 1)))))).z < 0)) (L (spR ((drP b 5 (AA b (7 * 4))).1) (ptQ (Aq (ptC b (AA b (4 * 0))) (ptC b (AA b (4 * 1)))))).z.natAbs) (L (spR ((drP b 5 (AA b (7 * 4))).1) (ptQ (Aq (ptC b (AA b (4 * 0))) (ptC b (AA b (4 * 1)))))).d)))) = true
 try dsimp only at c28
 try simp only [nrm] at c28
 -- w29: iRatCmp [DA.agg [DC.im (Value.bool (decide ((sbR ((drP b 5 (AA b (7 * 4))).1) (ptQ (ptC b (AA b (4 * 0)))) (ptQ (ptC b (AA b (4 * 1))))).z < 0))), DC.sl 3 [.int] (L (sbR ((drP b 5 (AA b (7 * 4))).1) (ptQ (ptC b (AA b (4 * 0)))) (ptQ (ptC b (AA b (4 * 1))))).z.natAbs), DC.sl 3 [.int] (L (sb
 refine ⟨((sbR ((drP b 5 (AA b (7*4))).1) (ptQ (ptC b (AA b (4*0)))) (ptQ (ptC b (AA b (4*1))))),(spR ((drP b 5 (AA b (7*4))).1) (ptQ (Aq (ptC b (AA b (4*0))) (ptC b (AA b (4*1))))))),by
  rfl,by
  exact trivial,?_⟩
 refine And.symm ⟨λ c32=>?_,λ c32=>?_⟩
 ·-- c32f: (!(decide ((if (sbR ((drP b 5 (AA b (7 * 4))).1) (ptQ (ptC b (AA b (4 * 0)))) (ptQ (ptC b (AA b (4 * 1))))).good = true ∧ (spR ((drP b 5 (AA b (7 * 4))).1) (ptQ (Aq (ptC b (AA b (4 * 0))) (ptC b (AA b (4 * 1)))))).good = true then Fr.cmp (sbR ((drP b 5 (AA b (7 * 4))).1) (ptQ (ptC b (AA b (4 * 0)))) (ptQ (ptC b (AA b (4 * 1))))) (spR ((drP b 5 (AA b (7 * 4))).1) (ptQ (Aq (ptC b (AA b (4 * 0))) (ptC b (AA b (4 * 1)))))) else 0) > (0 : Int)))) = false
  try dsimp only at c32
  try simp only [nrm] at c32
  rw [s01,sm,if_pos ⟨Q.gd,Q.ge⟩] at c32;exact absurd Q.de (by omega) -- done
 -- c32t: (!(decide ((if (sbR ((drP b 5 (AA b (7 * 4))).1) (ptQ (ptC b (AA b (4 * 0)))) (ptQ (ptC b (AA b (4 * 1))))).good = true ∧ (spR ((drP b 5 (AA b (7 * 4))).1) (ptQ (Aq (ptC b (AA b (4 * 0))) (ptC b (AA b (4 * 1)))))).good = true then Fr.cmp (sbR ((drP b 5 (AA b (7 * 4))).1) (ptQ (ptC b (AA b (4 * 0)))) (ptQ (ptC b (AA b (4 * 1))))) (spR ((drP b 5 (AA b (7 * 4))).1) (ptQ (Aq (ptC b (AA b (4 * 0))) (ptC b (AA b (4 * 1)))))) else 0) > (0 : Int)))) = true
 try dsimp only at c32
 try simp only [nrm] at c32
 -- w33: iSqPoly [DA.one (DC.sl 44 [.int, .int] (AC (drP b 5 (AA b (7 * 4))).1)), DA.agg [DC.im (Value.bool (decide (((ptC b (AA b (4 * 0)))).x.z < 0))), DC.sl 3 [.int] (L ((ptC b (AA b (4 * 0)))).x.z.natAbs), DC.sl 3 [.int] (L ((ptC b (AA b (4 * 0)))).x.d), DC.im (Value.bool (decide (((ptC b (AA b
 refine ⟨((drP b 5 (AA b (7*4))).1,ptQ (ptC b (AA b (4*0)))),by
  rfl,by
  show (ptQ (ptC b (AA b (4*0)))).has
  exact FB _,?_⟩
 -- w36: iRatCmp [DA.agg [DC.im (Value.bool (decide ((sbR ((drP b 5 (AA b (7 * 4))).1) (ptQ (ptC b (AA b (4 * 0)))) (ptQ (ptC b (AA b (4 * 1))))).z < 0))), DC.sl 3 [.int] (L (sbR ((drP b 5 (AA b (7 * 4))).1) (ptQ (ptC b (AA b (4 * 0)))) (ptQ (ptC b (AA b (4 * 1))))).z.natAbs), DC.sl 3 [.int] (L (sb
 refine ⟨((sbR ((drP b 5 (AA b (7*4))).1) (ptQ (ptC b (AA b (4*0)))) (ptQ (ptC b (AA b (4*1))))),(spR ((drP b 5 (AA b (7*4))).1) (ptQ (ptC b (AA b (4*0)))))),by
  rfl,by
  exact trivial,?_⟩
 refine ⟨λ c39=>?_,λ c39=>?_⟩
 ·-- c39t: (decide ((if (sbR ((drP b 5 (AA b (7 * 4))).1) (ptQ (ptC b (AA b (4 * 0)))) (ptQ (ptC b (AA b (4 * 1))))).good = true ∧ (spR ((drP b 5 (AA b (7 * 4))).1) (ptQ (ptC b (AA b (4 * 0))))).good = true then Fr.cmp (sbR ((drP b 5 (AA b (7 * 4))).1) (ptQ (ptC b (AA b (4 * 0)))) (ptQ (ptC b (AA b (4 * 1))))) (spR ((drP b 5 (AA b (7 * 4))).1) (ptQ (ptC b (AA b (4 * 0))))) else 0) > (0 : Int))) = true
  try dsimp only at c39
  try simp only [nrm] at c39
  rw [s01,s0,if_pos ⟨Q.gd,Q.gp⟩] at c39;exact absurd Q.dp (by omega) -- done
 -- c39f: (decide ((if (sbR ((drP b 5 (AA b (7 * 4))).1) (ptQ (ptC b (AA b (4 * 0)))) (ptQ (ptC b (AA b (4 * 1))))).good = true ∧ (spR ((drP b 5 (AA b (7 * 4))).1) (ptQ (ptC b (AA b (4 * 0))))).good = true then Fr.cmp (sbR ((drP b 5 (AA b (7 * 4))).1) (ptQ (ptC b (AA b (4 * 0)))) (ptQ (ptC b (AA b (4 * 1))))) (spR ((drP b 5 (AA b (7 * 4))).1) (ptQ (ptC b (AA b (4 * 0))))) else 0) > (0 : Int))) = false
 try dsimp only at c39
 try simp only [nrm] at c39
 -- w41: iRatSign [DA.agg [DC.im (Value.bool (decide ((sbR ((drP b 5 (AA b (7 * 4))).1) (ptQ (ptC b (AA b (4 * 0)))) (ptQ (ptC b (AA b (4 * 1))))).z < 0))), DC.sl 3 [.int] (L (sbR ((drP b 5 (AA b (7 * 4))).1) (ptQ (ptC b (AA b (4 * 0)))) (ptQ (ptC b (AA b (4 * 1))))).z.natAbs), DC.sl 3 [.int] (L (sb
 refine ⟨(sbR ((drP b 5 (AA b (7*4))).1) (ptQ (ptC b (AA b (4*0)))) (ptQ (ptC b (AA b (4*1))))),by
  rfl,by
  show (sbR ((drP b 5 (AA b (7*4))).1) (ptQ (ptC b (AA b (4*0)))) (ptQ (ptC b (AA b (4*1))))).good=true
  exact (congrArg Fr.good s01).trans Q.gd,?_⟩
 -- w44: iSegMeets [DA.one (DC.sl 44 [.int, .int] (AC (drP b 5 (AA b (7 * 4))).1)), DA.agg [DC.im (Value.bool (decide (((ptC b (AA b (4 * 0)))).x.z < 0))), DC.sl 3 [.int] (L ((ptC b (AA b (4 * 0)))).x.z.natAbs), DC.sl 3 [.int] (L ((ptC b (AA b (4 * 0)))).x.d), DC.im (Value.bool (decide (((ptC b (AA b
 refine ⟨((drP b 5 (AA b (7*4))).1,ptQ (ptC b (AA b (4*0))),ptQ (ptC b (AA b (4*1)))),by
  rfl,by
  show (ptQ (ptC b (AA b (4*0)))).has/\(ptQ (ptC b (AA b (4*1)))).has
  exact ⟨FB _,FB _⟩,?_⟩
 refine And.symm ⟨λ c47=>?_,λ c47=>?_⟩
 ·-- c47f: (((sbR ((drP b 5 (AA b (7 * 4))).1) (ptQ (ptC b (AA b (4 * 0)))) (ptQ (ptC b (AA b (4 * 1))))).sgn == (0 : Int)) == (smZ ((drP b 5 (AA b (7 * 4))).1) (ptQ (ptC b (AA b (4 * 0)))) (ptQ (ptC b (AA b (4 * 1)))))) = false
  try dsimp only at c47
  try simp only [nrm] at c47
  exact absurd hz1 c47 -- done
 -- c47t: (((sbR ((drP b 5 (AA b (7 * 4))).1) (ptQ (ptC b (AA b (4 * 0)))) (ptQ (ptC b (AA b (4 * 1))))).sgn == (0 : Int)) == (smZ ((drP b 5 (AA b (7 * 4))).1) (ptQ (ptC b (AA b (4 * 0)))) (ptQ (ptC b (AA b (4 * 1)))))) = true
 try dsimp only at c47
 try simp only [nrm] at c47
 -- w48: iRatSign [DA.agg [DC.im (Value.bool (decide ((spR ((drP b 5 (AA b (7 * 4))).1) (ptQ (Aq (ptC b (AA b (4 * 0))) (ptC b (AA b (4 * 1)))))).z < 0))), DC.sl 3 [.int] (L (spR ((drP b 5 (AA b (7 * 4))).1) (ptQ (Aq (ptC b (AA b (4 * 0))) (ptC b (AA b (4 * 1)))))).z.natAbs), DC.sl 3 [.int] (L (
 refine ⟨(spR ((drP b 5 (AA b (7*4))).1) (ptQ (Aq (ptC b (AA b (4*0))) (ptC b (AA b (4*1)))))),by
  rfl,by
  show (spR ((drP b 5 (AA b (7*4))).1) (ptQ (Aq (ptC b (AA b (4*0))) (ptC b (AA b (4*1)))))).good=true
  exact (congrArg Fr.good sm).trans Q.ge,?_⟩
 -- w51: iMid [DA.agg [DC.im (Value.bool (decide (((ptC b (AA b (4 * 0)))).x.z < 0))), DC.sl 3 [.int] (L ((ptC b (AA b (4 * 0)))).x.z.natAbs), DC.sl 3 [.int] (L ((ptC b (AA b (4 * 0)))).x.d), DC.im (Value.bool (decide (((ptC b (AA b (4 * 0)))).y.z < 0))), DC.sl 3 [.int] (L ((ptC b (AA b (4 * 0)))).
 refine ⟨(((ptC b (AA b (4*0)))),((ptC b (AA b (4*1))))),by
  rfl,by
  show ((ptC b (AA b (4*0)))).good=true/\((ptC b (AA b (4*1)))).good=true
  exact ⟨g0,g1⟩,?_⟩
 -- w54: iContains [DA.one (DC.sl 44 [.int, .int] (AC (drP b 5 (AA b (7 * 4))).1)), DA.agg [DC.im (Value.bool (decide ((Aq ((ptC b (AA b (4 * 0)))) ((ptC b (AA b (4 * 1))))).x.z < 0))), DC.sl 3 [.int] (L (Aq ((ptC b (AA b (4 * 0)))) ((ptC b (AA b (4 * 1))))).x.z.natAbs), DC.sl 3 [.int] (L (Aq (
 refine ⟨((drP b 5 (AA b (7*4))).1,ptQ (Aq (ptC b (AA b (4*0))) (ptC b (AA b (4*1))))),by
  rfl,by
  show (ptQ (Aq (ptC b (AA b (4*0))) (ptC b (AA b (4*1))))).has
  exact FB _,?_⟩
 refine And.symm ⟨λ c57=>?_,λ c57=>?_⟩
 ·-- c57f: (((spR ((drP b 5 (AA b (7 * 4))).1) (ptQ (Aq (ptC b (AA b (4 * 0))) (ptC b (AA b (4 * 1)))))).sgn == (0 : Int)) == (decide ((cpZ ((drP b 5 (AA b (7 * 4))).1) (ptQ (Aq (ptC b (AA b (4 * 0))) (ptC b (AA b (4 * 1)))))) ≥ (0 : Int)))) = false
  try dsimp only at c57
  try simp only [nrm] at c57
  exact absurd hz2 c57 -- done
 -- c57t: (((spR ((drP b 5 (AA b (7 * 4))).1) (ptQ (Aq (ptC b (AA b (4 * 0))) (ptC b (AA b (4 * 1)))))).sgn == (0 : Int)) == (decide ((cpZ ((drP b 5 (AA b (7 * 4))).1) (ptQ (Aq (ptC b (AA b (4 * 0))) (ptC b (AA b (4 * 1)))))) ≥ (0 : Int)))) = true
 try dsimp only at c57
 try simp only [nrm] at c57
 refine ao (a:=0<=(0:Int)/\(0:Int)<((AC (drP b 5 (AA b (7*4))).1).length:Int)) (by first|rfl|omega) λ o58=>?_
 refine ao (a:=0<(AC (drP b 5 (AA b (7*4))).1).length) (by first|rfl|omega) λ o59=>?_
 -- w60: iPointOf [DA.agg [DC.im (Value.int .i64 ((((AC (drP b 5 (AA b (7 * 4))).1).getD 0 []).getD 0 (.int 0))).n), DC.im (Value.int .i64 ((((AC (drP b 5 (AA b (7 * 4))).1).getD 0 []).getD 1 (.int 0))).n)]]
 refine ⟨(((((AC (drP b 5 (AA b (7*4))).1).getD 0 []).getD 0 (.int 0))).n,((((AC (drP b 5 (AA b (7*4))).1).getD 0 []).getD 1 (.int 0))).n),by
  rfl,by
  try dsimp only [B0]
  rw [CX hl0,CY hl0];omega,?_⟩
 -- w63: iToSeg [DA.agg [DC.im (Value.bool (decide (((ptC b (AA b (4 * 0)))).x.z < 0))), DC.sl 3 [.int] (L ((ptC b (AA b (4 * 0)))).x.z.natAbs), DC.sl 3 [.int] (L ((ptC b (AA b (4 * 0)))).x.d), DC.im (Value.bool (decide (((ptC b (AA b (4 * 0)))).y.z < 0))), DC.sl 3 [.int] (L ((ptC b (AA b (4 * 0)))).
 refine ⟨((ptC b (AA b (4*0))),(ptC b (AA b (4*1))),ptV (((drP b 5 (AA b (7*4))).1).getD 0 (0,0))),by
  rw [CX hl0,CY hl0];rfl,by
  show (ptC b (AA b (4*0))).good=true/\(ptC b (AA b (4*1))).good=true/\(ptV (((drP b 5 (AA b (7*4))).1).getD 0 (0,0))).good=true
  exact ⟨g0,g1,gc⟩,?_⟩
 -- w66: iSqDist [DA.agg [DC.im (Value.bool (decide (((ptC b (AA b (4 * 0)))).x.z < 0))), DC.sl 3 [.int] (L ((ptC b (AA b (4 * 0)))).x.z.natAbs), DC.sl 3 [.int] (L ((ptC b (AA b (4 * 0)))).x.d), DC.im (Value.bool (decide (((ptC b (AA b (4 * 0)))).y.z < 0))), DC.sl 3 [.int] (L ((ptC b (AA b (4 * 0)))).
 refine ⟨(((ptC b (AA b (4*0)))),((ptC b (AA b (4*1))))),by
  rfl,by
  show ((ptC b (AA b (4*0)))).good=true/\((ptC b (AA b (4*1)))).good=true
  exact ⟨g0,g1⟩,?_⟩
 -- w69: iRatCmp [DA.agg [DC.im (Value.bool (decide ((BL (ptC b (AA b (4 * 0))) (ptC b (AA b (4 * 1))) (ptV (((drP b 5 (AA b (7 * 4))).1).getD 0 (0, 0)))).z < 0))), DC.sl 3 [.int] (L (BL (ptC b (AA b (4 * 0))) (ptC b (AA b (4 * 1))) (ptV (((drP b 5 (AA b (7 * 4))).1).getD 0 (0, 0)))).z.natAbs),
 refine ⟨((BL (ptC b (AA b (4*0))) (ptC b (AA b (4*1))) (ptV (((drP b 5 (AA b (7*4))).1).getD 0 (0,0)))),(sdQ ((ptC b (AA b (4*0)))) ((ptC b (AA b (4*1)))))),by
  rfl,by
  exact trivial,?_⟩
 refine And.symm ⟨λ c72=>?_,λ c72=>?_⟩
 ·-- c72f: (decide ((if (BL (ptC b (AA b (4 * 0))) (ptC b (AA b (4 * 1))) (ptV (((drP b 5 (AA b (7 * 4))).1).getD 0 (0, 0)))).good = true ∧ (sdQ ((ptC b (AA b (4 * 0)))) ((ptC b (AA b (4 * 1))))).good = true then Fr.cmp (BL (ptC b (AA b (4 * 0))) (ptC b (AA b (4 * 1))) (ptV (((drP b 5 (AA b (7 * 4))).1).getD 0 (0, 0)))) (sdQ ((ptC b (AA b (4 * 0)))) ((ptC b (AA b (4 * 1))))) else 0) ≤ (0 : Int))) = false
  try dsimp only at c72
  try simp only [nrm] at c72
  rw [if_pos Q.gs] at c72;exact absurd Q.sd (by omega) -- done
 -- c72t: (decide ((if (BL (ptC b (AA b (4 * 0))) (ptC b (AA b (4 * 1))) (ptV (((drP b 5 (AA b (7 * 4))).1).getD 0 (0, 0)))).good = true ∧ (sdQ ((ptC b (AA b (4 * 0)))) ((ptC b (AA b (4 * 1))))).good = true then Fr.cmp (BL (ptC b (AA b (4 * 0))) (ptC b (AA b (4 * 1))) (ptV (((drP b 5 (AA b (7 * 4))).1).getD 0 (0, 0)))) (sdQ ((ptC b (AA b (4 * 0)))) ((ptC b (AA b (4 * 1))))) else 0) ≤ (0 : Int))) = true
 try dsimp only at c72
 try simp only [nrm] at c72
 -- w73: iInner [DA.agg [DC.im (Value.bool (decide (((ptC b (AA b (4 * 0)))).x.z < 0))), DC.sl 3 [.int] (L ((ptC b (AA b (4 * 0)))).x.z.natAbs), DC.sl 3 [.int] (L ((ptC b (AA b (4 * 0)))).x.d), DC.im (Value.bool (decide (((ptC b (AA b (4 * 0)))).y.z < 0))), DC.sl 3 [.int] (L ((ptC b (AA b (4 * 0)))).
 refine ⟨(((ptC b (AA b (4*0)))),((ptC b (AA b (4*1)))),((ptC b (AA b (4*1))))),by
  rfl,by
  show ((ptC b (AA b (4*0)))).good=true/\((ptC b (AA b (4*1)))).good=true/\((ptC b (AA b (4*1)))).good=true
  exact ⟨g0,g1,g1⟩,?_⟩
 -- w76: iSqDist [DA.agg [DC.im (Value.bool (decide (((ptC b (AA b (4 * 0)))).x.z < 0))), DC.sl 3 [.int] (L ((ptC b (AA b (4 * 0)))).x.z.natAbs), DC.sl 3 [.int] (L ((ptC b (AA b (4 * 0)))).x.d), DC.im (Value.bool (decide (((ptC b (AA b (4 * 0)))).y.z < 0))), DC.sl 3 [.int] (L ((ptC b (AA b (4 * 0)))).
 refine ⟨(((ptC b (AA b (4*0)))),((ptC b (AA b (4*1))))),by
  rfl,by
  show ((ptC b (AA b (4*0)))).good=true/\((ptC b (AA b (4*1)))).good=true
  exact ⟨g0,g1⟩,?_⟩
 -- w79: ratEqual [DA.agg [DC.im (Value.bool (decide ((Cq ((ptC b (AA b (4 * 0)))) ((ptC b (AA b (4 * 1)))) ((ptC b (AA b (4 * 1))))).z < 0))), DC.sl 3 [.int] (L (Cq ((ptC b (AA b (4 * 0)))) ((ptC b (AA b (4 * 1)))) ((ptC b (AA b (4 * 1))))).z.natAbs), DC.sl 3 [.int] (L (Cq ((ptC b (AA b (4
 refine ⟨((Cq ((ptC b (AA b (4*0)))) ((ptC b (AA b (4*1)))) ((ptC b (AA b (4*1))))),(sdQ ((ptC b (AA b (4*0)))) ((ptC b (AA b (4*1)))))),by
  rfl,by
  exact trivial,?_⟩
 -- l82: Value.bool (eqF (Cq ((ptC b (AA b (4 * 0)))) ((ptC b (AA b (4 * 1)))) ((ptC b (AA b (4 * 1))))) (sdQ ((ptC b (AA b (4 * 0)))) ((ptC b (AA b (4 * 1)))))) = Value.bool true
 show Value.bool (eqF (Cq ((ptC b (AA b (4*0)))) ((ptC b (AA b (4*1)))) ((ptC b (AA b (4*1))))) (sdQ ((ptC b (AA b (4*0)))) ((ptC b (AA b (4*1))))))=Value.bool true
 exact congrArg Value.bool Q.eq
end Go.Proofs.YtndnhlhnjiopfaaGreat
