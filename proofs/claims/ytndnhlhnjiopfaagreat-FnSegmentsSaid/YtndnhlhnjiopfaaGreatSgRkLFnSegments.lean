import Derived.Test.YtndnhlhnjiopfaaGreatSgSgm
import Derived.Test.YtndnhlhnjiopfaaGreatSgRkG1
namespace Go.Proofs.YtndnhlhnjiopfaaGreat
set_option linter.unusedVariables false
set_option linter.unusedSimpArgs false
open Go.RowKit
theorem GQ (b:List UInt8) (c:Cur):PqS 7 (ptC b c):=by
 have rv:=PG b c
 have rb:=DD b (blC b (BG b c) 3) (n:=3) (by omega)
 have hx:=FrS.int (n:=(Bp b c).1) (k:=4) (by omega) (by omega)
 have hy:=FrS.int (n:=(Bp b c).2) (k:=4) (by omega) (by omega)
 refine ⟨?_,?_⟩
 ·exact if blV b (BG b c) 3=0 then ((Bp b c).1:Rat)+(1:Int)/((2+blV b (blC b (BG b c) 3) 3:Int):Rat) else (Bp b c).1
 ·refine ⟨((Bp b c).2:Rat),?_,hy.mono (by omega)⟩
  by_cases h:blV b (BG b c) 3=0
  ·rw [(Bj h).1,if_pos h]
   have hd:(2+blV b (blC b (BG b c) 3) 3:Int)≠0:=by omega
   have hr:FrS 2 (rOf 1 (2+blV b (blC b (BG b c) 3) 3)) ((1:Int)/((2+blV b (blC b (BG b c) 3) 3:Int):Rat)):=
    ⟨WJ hd (FK (k:=0) (by decide) (by omega)) (FK (k:=2) (by omega) (by omega)),QF (j:=0) (k:=2) (LJ (by decide)) (LJ (by omega)) (NX hd)⟩
   exact hx.add hr (by omega)
  ·rw [(CP h).1,if_neg h];exact hx.mono (by omega)
theorem Ra {l:List V2} {p q:Pq} (hl:Af l=true) (hp:p.good=true) (hq:q.good=true):smZ l (ptQ p) (ptQ q)=smB l p q:=by
 have key:∀ {p:Pq},p.good=true->pqR (ptQ p)=p:=λ {p} h=>by
  have hg:p.x.good=true/\p.y.good=true:=by unfold Pq.good at h;rwa [Bool.and_eq_true] at h
  show (⟨Fr.mk' (zOf (decide (p.x.z<0)) (Gx (L p.x.z.natAbs))) (Gx (L p.x.d)),Fr.mk' (zOf (decide (p.y.z<0)) (Gx (L p.y.z.natAbs))) (Gx (L p.y.d))⟩:Pq)=p
  rw [Bt,Bt,Bt,Bt,DB,DB,H8 (Fr.d_good.1 hg.1),H8 (Fr.d_good.1 hg.2)]
 unfold smZ
 rw [hl,NK,NK,hp,hq,key hp,key hq];rfl
theorem W5 {p q:Pq} {a b:Q2} (h1:FrS 7 p.x a.1) (h2:FrS 7 p.y a.2) (h3:FrS 7 q.x b.1) (h4:FrS 7 q.y b.2):PqAt (A9 p q) (Jn a b):=by
 have hh:FrS 1 (rOf 1 2) (1/2):=by
  have e:((1:Int):Rat)/((2:Int):Rat)=1/2:=rfl
  rw [← e]
  exact ⟨WJ (by decide) (FK (k:=0) (by decide) (by omega)) (FK (k:=2) (by decide) (by omega)),QF (j:=0) (k:=1) (LJ (by decide)) (LJ (by decide)) (NX (by decide))⟩
 have m:PqAt ⟨Fr.mul (Fr.add p.x q.x) (rOf 1 2),Fr.mul (Fr.add p.y q.y) (rOf 1 2)⟩ (Jn a b):=
  ⟨((h1.add h3 (by omega)).mul hh (by omega)).mono (by omega),((h2.add h4 (by omega)).mul hh (by omega)).mono (by omega)⟩
 unfold A9 orQ
 rw [if_pos m.good]
 exact m
theorem So {l:List V2} (hl:Af l=true) {p q r t:Pq} (hp:PqS 7 p) (hq:PqS 7 q) (hr:PqS 7 r) (ht:PqS 7 t):SegLaw l p q r t (A9 p q)/\(A9 p q).good=true:=by
 obtain ⟨a1,a2,ha1,ha2⟩:=hp
 obtain ⟨b1,b2,hb1,hb2⟩:=hq
 obtain ⟨c1,c2,hc1,hc2⟩:=hr
 obtain ⟨d1,d2,hd1,hd2⟩:=ht
 have m:=W5 (a:=(a1,a2)) (b:=(b1,b2)) ha1 ha2 hb1 hb2
 exact ⟨Vv (a:=(a1,a2)) (b:=(b1,b2)) (c:=(c1,c2)) (d:=(d1,d2)) hl ⟨ha1.mono (by omega),ha2.mono (by omega)⟩ ⟨hb1.mono (by omega),hb2.mono (by omega)⟩ ⟨hc1.mono (by omega),hc2.mono (by omega)⟩ ⟨hd1.mono (by omega),hd2.mono (by omega)⟩ m,m.good⟩
def PJ:Con:={ ι:=(List UInt8),pre:=λ i=>True,args:=λ i=>[.one (.ro (.bytes i))],res:=λ i=>⟨false,[none],[.im (Value.bool true)]⟩ }
set_option maxRecDepth 100000 in
set_option maxHeartbeats 4000000 in
theorem QY:PJ.Ok Tryz.prog 3:=by
 refine fok (X:=⟨tt,[(7,Ci),(8,Fy),(9,IL),(10,A6),(11,AU),(12,CG)],[],83,[]⟩) AH AI (CTok.cons Vx (CTok.cons Sj (CTok.cons Vz (CTok.cons Na (CTok.cons NR (CTok.cons NL (CTok.nil _))))))) Tryz.func3 (λ _=>[]) ?_
 intro (b:List UInt8) hpre
 have hpre:True:=hpre
 refine AG (q:=((decide (((b.length:Nat):Int)>(1048576:Int)))=true->((Value.bool true=Value.bool true)))/\((decide (((b.length:Nat):Int)>(1048576:Int)))=false->(∃ i1:(List UInt8)×Nat,[DA.one (DC.ro (.bytes b)),DA.one (cI (0:Int))]=Ci.args i1/\Ci.pre i1/\(∃ i2:(List UInt8)×Nat,[DA.one (DC.ro (.bytes b)),DA.one (cI (1:Int))]=Ci.args i2/\Ci.pre i2/\(∃ i3:(List UInt8)×Nat,[DA.one (DC.ro (.bytes b)),DA.one (cI (2:Int))]=Ci.args i3/\Ci.pre i3/\(∃ i4:(List UInt8)×Nat,[DA.one (DC.ro (.bytes b)),DA.one (cI (3:Int))]=Ci.args i4/\Ci.pre i4/\(∃ i5:(List UInt8)×Nat,[DA.one (DC.ro (.bytes b)),DA.one (cI (4:Int))]=Fy.args i5/\Fy.pre i5/\(∃ i6:Pq×Pq,[dP (((ptC i1.1 (AA i1.1 (4*i1.2))))),dP (((ptC i2.1 (AA i2.1 (4*i2.2)))))]=IL.args i6/\IL.pre i6/\(∃ i7:Pq×Pq×Pq×Pq,[dP (((ptC i1.1 (AA i1.1 (4*i1.2))))),dP (((ptC i2.1 (AA i2.1 (4*i2.2))))),dP ((A9 i6.1 i6.2)),dP (((ptC i3.1 (AA i3.1 (4*i3.2)))))]=A6.args i7/\A6.pre i7/\(((AR i7.1 i7.2.1 i7.2.2.1 i7.2.2.2)=true->(∃ i8:Pq×Pq×Pq×Pq,[dP (((ptC i1.1 (AA i1.1 (4*i1.2))))),dP (((ptC i2.1 (AA i2.1 (4*i2.2))))),dP (((ptC i3.1 (AA i3.1 (4*i3.2))))),dP (((ptC i4.1 (AA i4.1 (4*i4.2)))))]=A6.args i8/\A6.pre i8/\(∃ i9:Pq×Pq×Pq×Pq,[dP (((ptC i4.1 (AA i4.1 (4*i4.2))))),dP (((ptC i3.1 (AA i3.1 (4*i3.2))))),dP (((ptC i2.1 (AA i2.1 (4*i2.2))))),dP (((ptC i1.1 (AA i1.1 (4*i1.2)))))]=A6.args i9/\A6.pre i9/\((((AR i8.1 i8.2.1 i8.2.2.1 i8.2.2.2) == (AR i9.1 i9.2.1 i9.2.2.1 i9.2.2.2))=true->(∃ i10:(List V2)×PtD×PtD,[DA.one (DC.sl 44 [.int,.int] (AD (drP i5.1 5 (AA i5.1 (7*i5.2))).1)),dP (((ptC i1.1 (AA i1.1 (4*i1.2))))),dP (((ptC i2.1 (AA i2.1 (4*i2.2)))))]=AU.args i10/\AU.pre i10/\(∃ i11:(List V2)×PtD×PtD,[DA.one (DC.sl 44 [.int,.int] (AD (drP i5.1 5 (AA i5.1 (7*i5.2))).1)),dP (((ptC i2.1 (AA i2.1 (4*i2.2))))),dP (((ptC i1.1 (AA i1.1 (4*i1.2)))))]=AU.args i11/\AU.pre i11/\((((smZ i10.1 i10.2.1 i10.2.2) == (smZ i11.1 i11.2.1 i11.2.2))=true->(∃ i12:(List V2)×PtD×PtD,[DA.one (DC.sl 44 [.int,.int] (AD (drP i5.1 5 (AA i5.1 (7*i5.2))).1)),dP (((ptC i1.1 (AA i1.1 (4*i1.2))))),dP ((A9 i6.1 i6.2))]=AU.args i12/\AU.pre i12/\(((!(smZ i12.1 i12.2.1 i12.2.2))=true->(∃ i13:(List V2)×PtD×PtD,[DA.one (DC.sl 44 [.int,.int] (AD (drP i5.1 5 (AA i5.1 (7*i5.2))).1)),dP ((A9 i6.1 i6.2)),dP (((ptC i2.1 (AA i2.1 (4*i2.2)))))]=AU.args i13/\AU.pre i13/\(∃ i14:(List V2)×PtD×PtD,[DA.one (DC.sl 44 [.int,.int] (AD (drP i5.1 5 (AA i5.1 (7*i5.2))).1)),dP (((ptC i1.1 (AA i1.1 (4*i1.2))))),dP (((ptC i2.1 (AA i2.1 (4*i2.2)))))]=AU.args i14/\AU.pre i14/\((((smZ i13.1 i13.2.1 i13.2.2) == (smZ i14.1 i14.2.1 i14.2.2))=true->(∃ i15:(List V2)×PtD,[DA.one (DC.sl 44 [.int,.int] (AD (drP i5.1 5 (AA i5.1 (7*i5.2))).1)),dP (((ptC i1.1 (AA i1.1 (4*i1.2)))))]=CG.args i15/\CG.pre i15/\(((!(decide ((cpZ i15.1 i15.2)<(0:Int))))=true->(∃ i16:(List V2)×PtD×PtD,[DA.one (DC.sl 44 [.int,.int] (AD (drP i5.1 5 (AA i5.1 (7*i5.2))).1)),dP (((ptC i1.1 (AA i1.1 (4*i1.2))))),dP (((ptC i2.1 (AA i2.1 (4*i2.2)))))]=AU.args i16/\AU.pre i16/\((Value.bool (smZ i16.1 i16.2.1 i16.2.2)=Value.bool true))))/\((!(decide ((cpZ i15.1 i15.2)<(0:Int))))=false->((Value.bool true=Value.bool true))))))/\(((smZ i13.1 i13.2.1 i13.2.2) == (smZ i14.1 i14.2.1 i14.2.2))=false->((Value.bool false=Value.bool true)))))))/\((!(smZ i12.1 i12.2.1 i12.2.2))=false->(∃ i17:(List V2)×PtD×PtD,[DA.one (DC.sl 44 [.int,.int] (AD (drP i5.1 5 (AA i5.1 (7*i5.2))).1)),dP (((ptC i1.1 (AA i1.1 (4*i1.2))))),dP (((ptC i2.1 (AA i2.1 (4*i2.2)))))]=AU.args i17/\AU.pre i17/\(((true == (smZ i17.1 i17.2.1 i17.2.2))=true->(∃ i18:(List V2)×PtD,[DA.one (DC.sl 44 [.int,.int] (AD (drP i5.1 5 (AA i5.1 (7*i5.2))).1)),dP (((ptC i1.1 (AA i1.1 (4*i1.2)))))]=CG.args i18/\CG.pre i18/\(((!(decide ((cpZ i18.1 i18.2)<(0:Int))))=true->(∃ i19:(List V2)×PtD×PtD,[DA.one (DC.sl 44 [.int,.int] (AD (drP i5.1 5 (AA i5.1 (7*i5.2))).1)),dP (((ptC i1.1 (AA i1.1 (4*i1.2))))),dP (((ptC i2.1 (AA i2.1 (4*i2.2)))))]=AU.args i19/\AU.pre i19/\((Value.bool (smZ i19.1 i19.2.1 i19.2.2)=Value.bool true))))/\((!(decide ((cpZ i18.1 i18.2)<(0:Int))))=false->((Value.bool true=Value.bool true))))))/\((true == (smZ i17.1 i17.2.1 i17.2.2))=false->((Value.bool false=Value.bool true)))))))))/\(((smZ i10.1 i10.2.1 i10.2.2) == (smZ i11.1 i11.2.1 i11.2.2))=false->((Value.bool false=Value.bool true)))))))/\(((AR i8.1 i8.2.1 i8.2.2.1 i8.2.2.2) == (AR i9.1 i9.2.1 i9.2.2.1 i9.2.2.2))=false->((Value.bool false=Value.bool true)))))))/\((AR i7.1 i7.2.1 i7.2.2.1 i7.2.2.2)=false->((Value.bool false=Value.bool true))))))))))))) (by kernel_rfl) ?_
 refine ⟨λ c1=>?_,λ c1=>?_⟩
 ·-- c1t: (decide (((b.length : Nat) : Int) > (1048576 : Int))) = true
  replace c1:(decide (((b.length:Nat):Int)>(1048576:Int)))=true:=c1
  try simp only [nrm] at c1
  exact rfl
 -- c1f: (decide (((b.length : Nat) : Int) > (1048576 : Int))) = false
 replace c1:(decide (((b.length:Nat):Int)>(1048576:Int)))=false:=c1
 try simp only [nrm] at c1
 have hlen:b.length<=1048576:=by omega
 have q1:=W0 (b:=b) (z:=5) (by omega) (AA b (7*4))
 have g0:=(GQ b (AA b (4*0))).good
 have g1:=(GQ b (AA b (4*1))).good
 have g2:=(GQ b (AA b (4*2))).good
 have g3:=(GQ b (AA b (4*3))).good
 obtain ⟨Q,gm⟩:=So q1.1 (GQ b (AA b (4*0))) (GQ b (AA b (4*1))) (GQ b (AA b (4*2))) (GQ b (AA b (4*3)))
 have e01:=Ra q1.1 g0 g1
 have e10:=Ra q1.1 g1 g0
 have e0m:=Ra q1.1 g0 gm
 have em1:=Ra q1.1 gm g1
 have e0:=XW q1.1 g0
 -- w3: mkPt [DA.one (DC.ro (.bytes b)), DA.one (DC.im (Value.int .i64 (0 : Int)))]
 refine ⟨(b,0),by
  rfl,by
  show b.length<=1048576/\0<=100
  exact ⟨hlen,by omega⟩,?_⟩
 -- w6: mkPt [DA.one (DC.ro (.bytes b)), DA.one (DC.im (Value.int .i64 (1 : Int)))]
 refine ⟨(b,1),by
  rfl,by
  show b.length<=1048576/\1<=100
  exact ⟨hlen,by omega⟩,?_⟩
 -- w9: mkPt [DA.one (DC.ro (.bytes b)), DA.one (DC.im (Value.int .i64 (2 : Int)))]
 refine ⟨(b,2),by
  rfl,by
  show b.length<=1048576/\2<=100
  exact ⟨hlen,by omega⟩,?_⟩
 -- w12: mkPt [DA.one (DC.ro (.bytes b)), DA.one (DC.im (Value.int .i64 (3 : Int)))]
 refine ⟨(b,3),by
  rfl,by
  show b.length<=1048576/\3<=100
  exact ⟨hlen,by omega⟩,?_⟩
 -- w15: mkPoly [DA.one (DC.ro (.bytes b)), DA.one (DC.im (Value.int .i64 (4 : Int)))]
 refine ⟨(b,4),by
  rfl,by
  show b.length<=1048576/\4<=100
  exact ⟨hlen,by omega⟩,?_⟩
 -- w18: iMid [DA.agg [DC.im (Value.bool (decide (((ptC b (AA b (4 * 0)))).x.z < 0))), DC.sl 3 [.int] (L ((ptC b (AA b (4 * 0)))).x.z.natAbs), DC.sl 3 [.int] (L ((ptC b (AA b (4 * 0)))).x.d), DC.im (Value.bool (decide (((ptC b (AA b (4 * 0)))).y.z < 0))), DC.sl 3 [.int] (L ((ptC b (AA b (4 * 0)))).
 refine ⟨(((ptC b (AA b (4*0)))),((ptC b (AA b (4*1))))),by
  rfl,by
  show ((ptC b (AA b (4*0)))).good=true/\((ptC b (AA b (4*1)))).good=true
  first|exact ⟨AT _,AT _⟩|exact AT _|exact ⟨g0,g1⟩|exact ⟨g0,g1,gm,g2⟩|exact ⟨g0,g1,g2,g3⟩|exact ⟨g3,g2,g1,g0⟩,?_⟩
 -- w21: iSegsMeet [DA.agg [DC.im (Value.bool (decide (((ptC b (AA b (4 * 0)))).x.z < 0))), DC.sl 3 [.int] (L ((ptC b (AA b (4 * 0)))).x.z.natAbs), DC.sl 3 [.int] (L ((ptC b (AA b (4 * 0)))).x.d), DC.im (Value.bool (decide (((ptC b (AA b (4 * 0)))).y.z < 0))), DC.sl 3 [.int] (L ((ptC b (AA b (4 * 0)))).
 refine ⟨(((ptC b (AA b (4*0)))),((ptC b (AA b (4*1)))),(A9 ((ptC b (AA b (4*0)))) ((ptC b (AA b (4*1))))),((ptC b (AA b (4*2))))),by
  rfl,by
  try dsimp only [A6]
  first|exact ⟨AT _,AT _⟩|exact AT _|exact ⟨g0,g1⟩|exact ⟨g0,g1,gm,g2⟩|exact ⟨g0,g1,g2,g3⟩|exact ⟨g3,g2,g1,g0⟩,?_⟩
 refine And.symm ⟨λ c24=>?_,λ c24=>?_⟩
 ·-- c24f: (AR ((ptC b (AA b (4 * 0)))) ((ptC b (AA b (4 * 1)))) (A9 ((ptC b (AA b (4 * 0)))) ((ptC b (AA b (4 * 1))))) ((ptC b (AA b (4 * 2))))) = false
  replace c24:(AR ((ptC b (AA b (4*0)))) ((ptC b (AA b (4*1)))) (A9 ((ptC b (AA b (4*0)))) ((ptC b (AA b (4*1))))) ((ptC b (AA b (4*2)))))=false:=c24
  try simp only [nrm] at c24
  rw [Q.s1] at c24;cases c24 -- done
 -- c24t: (AR ((ptC b (AA b (4 * 0)))) ((ptC b (AA b (4 * 1)))) (A9 ((ptC b (AA b (4 * 0)))) ((ptC b (AA b (4 * 1))))) ((ptC b (AA b (4 * 2))))) = true
 replace c24:(AR ((ptC b (AA b (4*0)))) ((ptC b (AA b (4*1)))) (A9 ((ptC b (AA b (4*0)))) ((ptC b (AA b (4*1))))) ((ptC b (AA b (4*2)))))=true:=c24
 try simp only [nrm] at c24
 -- w25: iSegsMeet [DA.agg [DC.im (Value.bool (decide (((ptC b (AA b (4 * 0)))).x.z < 0))), DC.sl 3 [.int] (L ((ptC b (AA b (4 * 0)))).x.z.natAbs), DC.sl 3 [.int] (L ((ptC b (AA b (4 * 0)))).x.d), DC.im (Value.bool (decide (((ptC b (AA b (4 * 0)))).y.z < 0))), DC.sl 3 [.int] (L ((ptC b (AA b (4 * 0)))).
 refine ⟨(((ptC b (AA b (4*0)))),((ptC b (AA b (4*1)))),((ptC b (AA b (4*2)))),((ptC b (AA b (4*3))))),by
  rfl,by
  show ((ptC b (AA b (4*0)))).good=true/\((ptC b (AA b (4*1)))).good=true/\((ptC b (AA b (4*2)))).good=true/\((ptC b (AA b (4*3)))).good=true
  first|exact ⟨AT _,AT _⟩|exact AT _|exact ⟨g0,g1⟩|exact ⟨g0,g1,gm,g2⟩|exact ⟨g0,g1,g2,g3⟩|exact ⟨g3,g2,g1,g0⟩,?_⟩
 -- w28: iSegsMeet [DA.agg [DC.im (Value.bool (decide (((ptC b (AA b (4 * 3)))).x.z < 0))), DC.sl 3 [.int] (L ((ptC b (AA b (4 * 3)))).x.z.natAbs), DC.sl 3 [.int] (L ((ptC b (AA b (4 * 3)))).x.d), DC.im (Value.bool (decide (((ptC b (AA b (4 * 3)))).y.z < 0))), DC.sl 3 [.int] (L ((ptC b (AA b (4 * 3)))).
 refine ⟨(((ptC b (AA b (4*3)))),((ptC b (AA b (4*2)))),((ptC b (AA b (4*1)))),((ptC b (AA b (4*0))))),by
  rfl,by
  show ((ptC b (AA b (4*3)))).good=true/\((ptC b (AA b (4*2)))).good=true/\((ptC b (AA b (4*1)))).good=true/\((ptC b (AA b (4*0)))).good=true
  first|exact ⟨AT _,AT _⟩|exact AT _|exact ⟨g0,g1⟩|exact ⟨g0,g1,gm,g2⟩|exact ⟨g0,g1,g2,g3⟩|exact ⟨g3,g2,g1,g0⟩,?_⟩
 refine And.symm ⟨λ c31=>?_,λ c31=>?_⟩
 ·-- c31f: ((AR ((ptC b (AA b (4 * 0)))) ((ptC b (AA b (4 * 1)))) ((ptC b (AA b (4 * 2)))) ((ptC b (AA b (4 * 3))))) == (AR ((ptC b (AA b (4 * 3)))) ((ptC b (AA b (4 * 2)))) ((ptC b (AA b (4 * 1)))) ((ptC b (AA b (4 * 0)))))) = false
  try dsimp only at c31
  try simp only [nrm] at c31
  exact absurd Q.s2 c31 -- done
 -- c31t: ((AR ((ptC b (AA b (4 * 0)))) ((ptC b (AA b (4 * 1)))) ((ptC b (AA b (4 * 2)))) ((ptC b (AA b (4 * 3))))) == (AR ((ptC b (AA b (4 * 3)))) ((ptC b (AA b (4 * 2)))) ((ptC b (AA b (4 * 1)))) ((ptC b (AA b (4 * 0)))))) = true
 try dsimp only at c31
 try simp only [nrm] at c31
 -- w32: iSegMeets [DA.one (DC.sl 44 [.int, .int] (AD (drP b 5 (AA b (7 * 4))).1)), DA.agg [DC.im (Value.bool (decide (((ptC b (AA b (4 * 0)))).x.z < 0))), DC.sl 3 [.int] (L ((ptC b (AA b (4 * 0)))).x.z.natAbs), DC.sl 3 [.int] (L ((ptC b (AA b (4 * 0)))).x.d), DC.im (Value.bool (decide (((ptC b (AA b
 refine ⟨((drP b 5 (AA b (7*4))).1,ptQ (ptC b (AA b (4*0))),ptQ (ptC b (AA b (4*1)))),by
  rfl,by
  show (ptQ (ptC b (AA b (4*0)))).has/\(ptQ (ptC b (AA b (4*1)))).has
  first|exact ⟨AT _,AT _⟩|exact AT _|exact ⟨g0,g1⟩|exact ⟨g0,g1,gm,g2⟩|exact ⟨g0,g1,g2,g3⟩|exact ⟨g3,g2,g1,g0⟩,?_⟩
 -- w35: iSegMeets [DA.one (DC.sl 44 [.int, .int] (AD (drP b 5 (AA b (7 * 4))).1)), DA.agg [DC.im (Value.bool (decide (((ptC b (AA b (4 * 1)))).x.z < 0))), DC.sl 3 [.int] (L ((ptC b (AA b (4 * 1)))).x.z.natAbs), DC.sl 3 [.int] (L ((ptC b (AA b (4 * 1)))).x.d), DC.im (Value.bool (decide (((ptC b (AA b
 refine ⟨((drP b 5 (AA b (7*4))).1,ptQ (ptC b (AA b (4*1))),ptQ (ptC b (AA b (4*0)))),by
  rfl,by
  show (ptQ (ptC b (AA b (4*1)))).has/\(ptQ (ptC b (AA b (4*0)))).has
  first|exact ⟨AT _,AT _⟩|exact AT _|exact ⟨g0,g1⟩|exact ⟨g0,g1,gm,g2⟩|exact ⟨g0,g1,g2,g3⟩|exact ⟨g3,g2,g1,g0⟩,?_⟩
 refine And.symm ⟨λ c38=>?_,λ c38=>?_⟩
 ·-- c38f: ((smZ ((drP b 5 (AA b (7 * 4))).1) (ptQ (ptC b (AA b (4 * 0)))) (ptQ (ptC b (AA b (4 * 1))))) == (smZ ((drP b 5 (AA b (7 * 4))).1) (ptQ (ptC b (AA b (4 * 1)))) (ptQ (ptC b (AA b (4 * 0)))))) = false
  try dsimp only at c38
  try simp only [nrm] at c38
  exact absurd (e01.trans (Q.s3.trans e10.symm)) c38 -- done
 -- c38t: ((smZ ((drP b 5 (AA b (7 * 4))).1) (ptQ (ptC b (AA b (4 * 0)))) (ptQ (ptC b (AA b (4 * 1))))) == (smZ ((drP b 5 (AA b (7 * 4))).1) (ptQ (ptC b (AA b (4 * 1)))) (ptQ (ptC b (AA b (4 * 0)))))) = true
 try dsimp only at c38
 try simp only [nrm] at c38
 -- w39: iSegMeets [DA.one (DC.sl 44 [.int, .int] (AD (drP b 5 (AA b (7 * 4))).1)), DA.agg [DC.im (Value.bool (decide (((ptC b (AA b (4 * 0)))).x.z < 0))), DC.sl 3 [.int] (L ((ptC b (AA b (4 * 0)))).x.z.natAbs), DC.sl 3 [.int] (L ((ptC b (AA b (4 * 0)))).x.d), DC.im (Value.bool (decide (((ptC b (AA b
 refine ⟨((drP b 5 (AA b (7*4))).1,ptQ (ptC b (AA b (4*0))),ptQ (A9 (ptC b (AA b (4*0))) (ptC b (AA b (4*1))))),by
  rfl,by
  show (ptQ (ptC b (AA b (4*0)))).has/\(ptQ (A9 (ptC b (AA b (4*0))) (ptC b (AA b (4*1))))).has
  first|exact ⟨AT _,AT _⟩|exact AT _|exact ⟨g0,g1⟩|exact ⟨g0,g1,gm,g2⟩|exact ⟨g0,g1,g2,g3⟩|exact ⟨g3,g2,g1,g0⟩,?_⟩
 refine And.symm ⟨λ c42=>?_,λ c42=>?_⟩
 ·-- c42f: (!(smZ ((drP b 5 (AA b (7 * 4))).1) (ptQ (ptC b (AA b (4 * 0)))) (ptQ (A9 (ptC b (AA b (4 * 0))) (ptC b (AA b (4 * 1))))))) = false
  replace c42:(!(smZ ((drP b 5 (AA b (7*4))).1) (ptQ (ptC b (AA b (4*0)))) (ptQ (A9 (ptC b (AA b (4*0))) (ptC b (AA b (4*1)))))))=false:=c42
  try simp only [nrm] at c42
  -- w60: iSegMeets [DA.one (DC.sl 44 [.int, .int] (AD (drP b 5 (AA b (7 * 4))).1)), DA.agg [DC.im (Value.bool (decide (((ptC b (AA b (4 * 0)))).x.z < 0))), DC.sl 3 [.int] (L ((ptC b (AA b (4 * 0)))).x.z.natAbs), DC.sl 3 [.int] (L ((ptC b (AA b (4 * 0)))).x.d), DC.im (Value.bool (decide (((ptC b (AA b
  refine ⟨((drP b 5 (AA b (7*4))).1,ptQ (ptC b (AA b (4*0))),ptQ (ptC b (AA b (4*1)))),by
   rfl,by
   show (ptQ (ptC b (AA b (4*0)))).has/\(ptQ (ptC b (AA b (4*1)))).has
   first|exact ⟨AT _,AT _⟩|exact AT _|exact ⟨g0,g1⟩|exact ⟨g0,g1,gm,g2⟩|exact ⟨g0,g1,g2,g3⟩|exact ⟨g3,g2,g1,g0⟩,?_⟩
  refine And.symm ⟨λ c63=>?_,λ c63=>?_⟩
  ·-- c63f: (true == (smZ ((drP b 5 (AA b (7 * 4))).1) (ptQ (ptC b (AA b (4 * 0)))) (ptQ (ptC b (AA b (4 * 1)))))) = false
   replace c63:(true == (smZ ((drP b 5 (AA b (7*4))).1) (ptQ (ptC b (AA b (4*0)))) (ptQ (ptC b (AA b (4*1))))))=false:=c63
   try simp only [nrm] at c63
   have hz:=e01.trans (Q.s4.symm.trans (by rw [← e0m,c42,Bool.true_or]))
   rw [hz] at c63;exact absurd rfl c63 -- done
  -- c63t: (true == (smZ ((drP b 5 (AA b (7 * 4))).1) (ptQ (ptC b (AA b (4 * 0)))) (ptQ (ptC b (AA b (4 * 1)))))) = true
  replace c63:(true == (smZ ((drP b 5 (AA b (7*4))).1) (ptQ (ptC b (AA b (4*0)))) (ptQ (ptC b (AA b (4*1))))))=true:=c63
  try simp only [nrm] at c63
  -- w64: iContains [DA.one (DC.sl 44 [.int, .int] (AD (drP b 5 (AA b (7 * 4))).1)), DA.agg [DC.im (Value.bool (decide (((ptC b (AA b (4 * 0)))).x.z < 0))), DC.sl 3 [.int] (L ((ptC b (AA b (4 * 0)))).x.z.natAbs), DC.sl 3 [.int] (L ((ptC b (AA b (4 * 0)))).x.d), DC.im (Value.bool (decide (((ptC b (AA b
  refine ⟨((drP b 5 (AA b (7*4))).1,ptQ (ptC b (AA b (4*0)))),by
   rfl,by
   show (ptQ (ptC b (AA b (4*0)))).has
   first|exact ⟨AT _,AT _⟩|exact AT _|exact ⟨g0,g1⟩|exact ⟨g0,g1,gm,g2⟩|exact ⟨g0,g1,g2,g3⟩|exact ⟨g3,g2,g1,g0⟩,?_⟩
  refine And.symm ⟨λ c67=>?_,λ c67=>?_⟩
  ·-- c67f: (!(decide ((cpZ ((drP b 5 (AA b (7 * 4))).1) (ptQ (ptC b (AA b (4 * 0))))) < (0 : Int)))) = false
   replace c67:(!(decide ((cpZ ((drP b 5 (AA b (7*4))).1) (ptQ (ptC b (AA b (4*0)))))<(0:Int))))=false:=c67
   try simp only [nrm] at c67
   exact rfl
  -- c67t: (!(decide ((cpZ ((drP b 5 (AA b (7 * 4))).1) (ptQ (ptC b (AA b (4 * 0))))) < (0 : Int)))) = true
  replace c67:(!(decide ((cpZ ((drP b 5 (AA b (7*4))).1) (ptQ (ptC b (AA b (4*0)))))<(0:Int))))=true:=c67
  try simp only [nrm] at c67
  -- w68: iSegMeets [DA.one (DC.sl 44 [.int, .int] (AD (drP b 5 (AA b (7 * 4))).1)), DA.agg [DC.im (Value.bool (decide (((ptC b (AA b (4 * 0)))).x.z < 0))), DC.sl 3 [.int] (L ((ptC b (AA b (4 * 0)))).x.z.natAbs), DC.sl 3 [.int] (L ((ptC b (AA b (4 * 0)))).x.d), DC.im (Value.bool (decide (((ptC b (AA b
  refine ⟨((drP b 5 (AA b (7*4))).1,ptQ (ptC b (AA b (4*0))),ptQ (ptC b (AA b (4*1)))),by
   rfl,by
   show (ptQ (ptC b (AA b (4*0)))).has/\(ptQ (ptC b (AA b (4*1)))).has
   first|exact ⟨AT _,AT _⟩|exact AT _|exact ⟨g0,g1⟩|exact ⟨g0,g1,gm,g2⟩|exact ⟨g0,g1,g2,g3⟩|exact ⟨g3,g2,g1,g0⟩,?_⟩
  -- l71: Value.bool (smZ ((drP b 5 (AA b (7 * 4))).1) (ptQ (ptC b (AA b (4 * 0)))) (ptQ (ptC b (AA b (4 * 1))))) = Value.bool true
  show Value.bool (smZ ((drP b 5 (AA b (7*4))).1) (ptQ (ptC b (AA b (4*0)))) (ptQ (ptC b (AA b (4*1)))))=Value.bool true
  exact congrArg Value.bool (e01.trans (Q.s5 (by rw [← e0];omega)))
 -- c42t: (!(smZ ((drP b 5 (AA b (7 * 4))).1) (ptQ (ptC b (AA b (4 * 0)))) (ptQ (A9 (ptC b (AA b (4 * 0))) (ptC b (AA b (4 * 1))))))) = true
 replace c42:(!(smZ ((drP b 5 (AA b (7*4))).1) (ptQ (ptC b (AA b (4*0)))) (ptQ (A9 (ptC b (AA b (4*0))) (ptC b (AA b (4*1)))))))=true:=c42
 try simp only [nrm] at c42
 -- w43: iSegMeets [DA.one (DC.sl 44 [.int, .int] (AD (drP b 5 (AA b (7 * 4))).1)), DA.agg [DC.im (Value.bool (decide ((A9 ((ptC b (AA b (4 * 0)))) ((ptC b (AA b (4 * 1))))).x.z < 0))), DC.sl 3 [.int] (L (A9 ((ptC b (AA b (4 * 0)))) ((ptC b (AA b (4 * 1))))).x.z.natAbs), DC.sl 3 [.int] (L (A9 (
 refine ⟨((drP b 5 (AA b (7*4))).1,ptQ (A9 (ptC b (AA b (4*0))) (ptC b (AA b (4*1)))),ptQ (ptC b (AA b (4*1)))),by
  rfl,by
  show (ptQ (A9 (ptC b (AA b (4*0))) (ptC b (AA b (4*1))))).has/\(ptQ (ptC b (AA b (4*1)))).has
  first|exact ⟨AT _,AT _⟩|exact AT _|exact ⟨g0,g1⟩|exact ⟨g0,g1,gm,g2⟩|exact ⟨g0,g1,g2,g3⟩|exact ⟨g3,g2,g1,g0⟩,?_⟩
 -- w46: iSegMeets [DA.one (DC.sl 44 [.int, .int] (AD (drP b 5 (AA b (7 * 4))).1)), DA.agg [DC.im (Value.bool (decide (((ptC b (AA b (4 * 0)))).x.z < 0))), DC.sl 3 [.int] (L ((ptC b (AA b (4 * 0)))).x.z.natAbs), DC.sl 3 [.int] (L ((ptC b (AA b (4 * 0)))).x.d), DC.im (Value.bool (decide (((ptC b (AA b
 refine ⟨((drP b 5 (AA b (7*4))).1,ptQ (ptC b (AA b (4*0))),ptQ (ptC b (AA b (4*1)))),by
  rfl,by
  show (ptQ (ptC b (AA b (4*0)))).has/\(ptQ (ptC b (AA b (4*1)))).has
  first|exact ⟨AT _,AT _⟩|exact AT _|exact ⟨g0,g1⟩|exact ⟨g0,g1,gm,g2⟩|exact ⟨g0,g1,g2,g3⟩|exact ⟨g3,g2,g1,g0⟩,?_⟩
 refine And.symm ⟨λ c49=>?_,λ c49=>?_⟩
 ·-- c49f: ((smZ ((drP b 5 (AA b (7 * 4))).1) (ptQ (A9 (ptC b (AA b (4 * 0))) (ptC b (AA b (4 * 1))))) (ptQ (ptC b (AA b (4 * 1))))) == (smZ ((drP b 5 (AA b (7 * 4))).1) (ptQ (ptC b (AA b (4 * 0)))) (ptQ (ptC b (AA b (4 * 1)))))) = false
  try dsimp only at c49
  try simp only [nrm] at c49
  have hz:=em1.trans ((Bool.false_or _).symm.trans ((congrArg (· || _) (c42.symm.trans e0m)).trans (Q.s4.trans e01.symm)))
  exact absurd hz c49 -- done
 -- c49t: ((smZ ((drP b 5 (AA b (7 * 4))).1) (ptQ (A9 (ptC b (AA b (4 * 0))) (ptC b (AA b (4 * 1))))) (ptQ (ptC b (AA b (4 * 1))))) == (smZ ((drP b 5 (AA b (7 * 4))).1) (ptQ (ptC b (AA b (4 * 0)))) (ptQ (ptC b (AA b (4 * 1)))))) = true
 try dsimp only at c49
 try simp only [nrm] at c49
 -- w50: iContains [DA.one (DC.sl 44 [.int, .int] (AD (drP b 5 (AA b (7 * 4))).1)), DA.agg [DC.im (Value.bool (decide (((ptC b (AA b (4 * 0)))).x.z < 0))), DC.sl 3 [.int] (L ((ptC b (AA b (4 * 0)))).x.z.natAbs), DC.sl 3 [.int] (L ((ptC b (AA b (4 * 0)))).x.d), DC.im (Value.bool (decide (((ptC b (AA b
 refine ⟨((drP b 5 (AA b (7*4))).1,ptQ (ptC b (AA b (4*0)))),by
  rfl,by
  show (ptQ (ptC b (AA b (4*0)))).has
  first|exact ⟨AT _,AT _⟩|exact AT _|exact ⟨g0,g1⟩|exact ⟨g0,g1,gm,g2⟩|exact ⟨g0,g1,g2,g3⟩|exact ⟨g3,g2,g1,g0⟩,?_⟩
 refine And.symm ⟨λ c53=>?_,λ c53=>?_⟩
 ·-- c53f: (!(decide ((cpZ ((drP b 5 (AA b (7 * 4))).1) (ptQ (ptC b (AA b (4 * 0))))) < (0 : Int)))) = false
  replace c53:(!(decide ((cpZ ((drP b 5 (AA b (7*4))).1) (ptQ (ptC b (AA b (4*0)))))<(0:Int))))=false:=c53
  try simp only [nrm] at c53
  exact rfl
 -- c53t: (!(decide ((cpZ ((drP b 5 (AA b (7 * 4))).1) (ptQ (ptC b (AA b (4 * 0))))) < (0 : Int)))) = true
 replace c53:(!(decide ((cpZ ((drP b 5 (AA b (7*4))).1) (ptQ (ptC b (AA b (4*0)))))<(0:Int))))=true:=c53
 try simp only [nrm] at c53
 -- w54: iSegMeets [DA.one (DC.sl 44 [.int, .int] (AD (drP b 5 (AA b (7 * 4))).1)), DA.agg [DC.im (Value.bool (decide (((ptC b (AA b (4 * 0)))).x.z < 0))), DC.sl 3 [.int] (L ((ptC b (AA b (4 * 0)))).x.z.natAbs), DC.sl 3 [.int] (L ((ptC b (AA b (4 * 0)))).x.d), DC.im (Value.bool (decide (((ptC b (AA b
 refine ⟨((drP b 5 (AA b (7*4))).1,ptQ (ptC b (AA b (4*0))),ptQ (ptC b (AA b (4*1)))),by
  rfl,by
  show (ptQ (ptC b (AA b (4*0)))).has/\(ptQ (ptC b (AA b (4*1)))).has
  first|exact ⟨AT _,AT _⟩|exact AT _|exact ⟨g0,g1⟩|exact ⟨g0,g1,gm,g2⟩|exact ⟨g0,g1,g2,g3⟩|exact ⟨g3,g2,g1,g0⟩,?_⟩
 -- l57: Value.bool (smZ ((drP b 5 (AA b (7 * 4))).1) (ptQ (ptC b (AA b (4 * 0)))) (ptQ (ptC b (AA b (4 * 1))))) = Value.bool true
 show Value.bool (smZ ((drP b 5 (AA b (7*4))).1) (ptQ (ptC b (AA b (4*0)))) (ptQ (ptC b (AA b (4*1)))))=Value.bool true
 exact congrArg Value.bool (e01.trans (Q.s5 (by rw [← e0];omega)))
end Go.Proofs.YtndnhlhnjiopfaaGreat
