import Derived.Test.YtndnhlhnjiopfaaGreatDiDsc
import Derived.Test.YtndnhlhnjiopfaaGreatDiRkD3
namespace Go.Proofs.YtndnhlhnjiopfaaGreat
set_option linter.unusedVariables false
set_option linter.unusedSimpArgs false
open Go.RowKit
def hA (b:List UInt8) (n:Nat):List V2:=(drP b 5 (AD b (7*n))).1
def hP (b:List UInt8) (n:Nat):Pq:=ptC b (AD b (4*n))
def hN (b:List UInt8):Int:=Int.tmod (EB b 1) 60
theorem WF (b:List UInt8) (c:Cur):PqS 7 (ptC b c):=by
 have rv:=Oa b c
 have rb:=C6 b (blC b (BE b c) 3) (n:=3) (by omega)
 have hx:=FrS.int (n:=(Bj b c).1) (k:=4) (by omega) (by omega)
 have hy:=FrS.int (n:=(Bj b c).2) (k:=4) (by omega) (by omega)
 refine ⟨?_,?_⟩
 ·exact if blV b (BE b c) 3=0 then ((Bj b c).1:Rat)+(1:Int)/((2+blV b (blC b (BE b c) 3) 3:Int):Rat) else (Bj b c).1
 ·refine ⟨((Bj b c).2:Rat),?_,hy.mono (by omega)⟩
  by_cases h:blV b (BE b c) 3=0
  ·rw [(Be h).1,if_pos h]
   have hd:(2+blV b (blC b (BE b c) 3) 3:Int)≠0:=by omega
   have hr:FrS 2 (rOf 1 (2+blV b (blC b (BE b c) 3) 3)) ((1:Int)/((2+blV b (blC b (BE b c) 3) 3:Int):Rat)):=
    ⟨Wg hd (Hw (k:=0) (by decide) (by omega)) (Hw (k:=2) (by omega) (by omega)),Tk (j:=0) (k:=2) (PZ (by decide)) (PZ (by omega)) (Qu hd)⟩
   exact hx.add hr (by omega)
  ·rw [(CG h).1,if_neg h];exact hx.mono (by omega)
def Ob:Con:={ ι:=(List UInt8),pre:=λ i=>True,args:=λ i=>[.one (.ro (.bytes i))],res:=λ i=>⟨false,[none],[.im (Value.bool true)]⟩ }
set_option maxRecDepth 100000 in
set_option maxHeartbeats 4000000 in
theorem Pu:Ob.Ok Tryz.prog 4:=by
 refine fok (X:=⟨tt,[(8,Fg),(7,H5),(13,Gk),(14,EP),(15,A3),(17,Bc),(16,Bz),(19,ES),(18,EU)],[],56,[]⟩) AH AI (CTok.cons R8 (CTok.cons U9 (CTok.cons UD (CTok.cons Pi (CTok.cons Ko (CTok.cons JJ (CTok.cons Tx (CTok.cons Pr (CTok.cons Pt (CTok.nil _)))))))))) Tryz.func4 (λ _=>[]) ?_
 intro (b:List UInt8) hpre
 have hpre:True:=hpre
 refine AG (q:=((decide (((b.length:Nat):Int)>(1048576:Int)))=true->((Value.bool true=Value.bool true)))/\((decide (((b.length:Nat):Int)>(1048576:Int)))=false->(∃ i1:(List UInt8)×Nat,[DA.one (DC.ro (.bytes b)),DA.one (cI (0:Int))]=Fg.args i1/\Fg.pre i1/\(∃ i2:(List UInt8)×Nat,[DA.one (DC.ro (.bytes b)),DA.one (cI (5:Int))]=H5.args i2/\H5.pre i2/\(∃ i3:(List UInt8)×Nat,[DA.one (DC.ro (.bytes b)),DA.one (cI (1:Int))]=Gk.args i3/\Gk.pre i3/\(((60:Int)≠0)/\(∃ i4:(List V2)×PtD,[DA.one (DC.sl 44 [.int,.int] (AC (drP i1.1 5 (AD i1.1 (7*i1.2))).1)),dP (((ptC i2.1 (AD i2.1 (4*i2.2)))))]=EP.args i4/\EP.pre i4/\(∃ i5:Bool×(List (List Dat))×(List (List Dat)),[dF (spR i4.1 i4.2)]=A3.args i5/\A3.pre i5/\(((!(!(Af i5.1 i5.2.1 i5.2.2)))=true->((0<=(0:Int)/\(0:Int)<((AC (drP i1.1 5 (AD i1.1 (7*i1.2))).1).length:Int))/\((0<(AC (drP i1.1 5 (AD i1.1 (7*i1.2))).1).length)/\(∃ i6:Int×Int,[DA.agg [cI (((((AC (drP i1.1 5 (AD i1.1 (7*i1.2))).1).getD 0 []).getD 0 (.int 0))).n),cI (((((AC (drP i1.1 5 (AD i1.1 (7*i1.2))).1).getD 0 []).getD 1 (.int 0))).n)]]=Bc.args i6/\Bc.pre i6/\(∃ i7:(List V2)×PtD×Int,[DA.one (DC.sl 44 [.int,.int] (AC (drP i1.1 5 (AD i1.1 (7*i1.2))).1)),DA.agg [cB (decide ((Fr.ofInt i6.1).z<0)),cS (L (Fr.ofInt i6.1).z.natAbs),cS (L (Fr.ofInt i6.1).d),cB (decide ((Fr.ofInt i6.2).z<0)),cS (L (Fr.ofInt i6.2).z.natAbs),cS (L (Fr.ofInt i6.2).d)],DA.one (cI (0:Int))]=Bz.args i7/\Bz.pre i7/\(((!(dtB i7.1 i7.2.1 i7.2.2))=true->((Value.bool false=Value.bool true)))/\((!(dtB i7.1 i7.2.1 i7.2.2))=false->(∃ i8:(List V2)×PtD×Int,[DA.one (DC.sl 44 [.int,.int] (AC (drP i1.1 5 (AD i1.1 (7*i1.2))).1)),dP (((ptC i2.1 (AD i2.1 (4*i2.2))))),DA.one (cI (Int.tmod (EB i3.1 i3.2) (60:Int)))]=Bz.args i8/\Bz.pre i8/\(∃ i9:Int,[DA.one (cI (Int.tmod (EB i3.1 i3.2) (60:Int)))]=ES.args i9/\ES.pre i9/\(∃ i10:Fr×Fr,[dF (spR i4.1 i4.2),dF (Fr.ofInt i9)]=EU.args i10/\EU.pre i10/\((((dtB i8.1 i8.2.1 i8.2.2) == (decide ((if i10.1.good=true/\i10.2.good=true then Fr.cmp i10.1 i10.2 else 0)<=(0:Int))))=true->(∃ i11:(List V2)×PtD×Int,[DA.one (DC.sl 44 [.int,.int] (AC (drP i1.1 5 (AD i1.1 (7*i1.2))).1)),dP (((ptC i2.1 (AD i2.1 (4*i2.2))))),DA.one (cI (Int.tmod (EB i3.1 i3.2) (60:Int)))]=Bz.args i11/\Bz.pre i11/\(((!(!(dtB i11.1 i11.2.1 i11.2.2)))=true->(∃ i12:(List V2)×PtD×Int,[DA.one (DC.sl 44 [.int,.int] (AC (drP i1.1 5 (AD i1.1 (7*i1.2))).1)),dP (((ptC i2.1 (AD i2.1 (4*i2.2))))),DA.one (cI (IntKind.i64.wrap ((Int.tmod (EB i3.1 i3.2) (60:Int))+(1:Int))))]=Bz.args i12/\Bz.pre i12/\((Value.bool (dtB i12.1 i12.2.1 i12.2.2)=Value.bool true))))/\((!(!(dtB i11.1 i11.2.1 i11.2.2)))=false->((Value.bool true=Value.bool true))))))/\(((dtB i8.1 i8.2.1 i8.2.2) == (decide ((if i10.1.good=true/\i10.2.good=true then Fr.cmp i10.1 i10.2 else 0)<=(0:Int))))=false->((Value.bool false=Value.bool true))))))))))))))/\((!(!(Af i5.1 i5.2.1 i5.2.2)))=false->((Value.bool false=Value.bool true)))))))))))) (by kernel_rfl) ?_
 refine ⟨λ c1=>?_,λ c1=>?_⟩
 ·-- c1t: (decide (((b.length : Nat) : Int) > (1048576 : Int))) = true
  replace c1:(decide (((b.length:Nat):Int)>(1048576:Int)))=true:=c1
  try simp only [nrm] at c1
  exact rfl
 -- c1f: (decide (((b.length : Nat) : Int) > (1048576 : Int))) = false
 replace c1:(decide (((b.length:Nat):Int)>(1048576:Int)))=false:=c1
 try simp only [nrm] at c1
 have hlen:b.length<=1048576:=by omega
 have q1:=V9 (b:=b) (z:=5) (by omega) (AD b (7*0))
 have rn:=UC b 1
 have rN:0<=hN b/\hN b<60:=⟨Int.tmod_nonneg _ rn.1,Int.tmod_lt_of_pos _ (by omega)⟩
 have Q:DiscLaw (hA b 0) (hP b 5) (hN b):=UH q1.1 (λ x hx=>by have:=q1.2.2 x hx;omega) (WF b _) rN.1 (by omega)
 have hl0:0<((drP b 5 (AD b (7*0))).1).length:=Q.vec.2.1
 have hvl:=AL ((drP b 5 (AD b (7*0))).1)
 have hb:=Ct Q.vec.1
 simp only [hA] at hb
 have hnw:IntKind.i64.wrap (Int.tmod (EB b 1) 60+1)=hN b+1:=AA (by show _<=hN b+1;omega) (by show hN b+1<=_;omega)
 have n1:=(spR (hA b 0) (ptQ (hP b 5))).nlz
 have n2:=(spR (hA b 0) (ptQ (hP b 5))).nld
 have l1:=AN (spR (hA b 0) (ptQ (hP b 5))).z.natAbs
 have l2:=AN (spR (hA b 0) (ptQ (hP b 5))).d
 have hg:(Fr.ofInt (hN b)).good=true:=(FrS.int (n:=hN b) (k:=20) (by omega) (by omega)).good
 -- w3: mkPoly [DA.one (DC.ro (.bytes b)), DA.one (DC.im (Value.int .i64 (0 : Int)))]
 refine ⟨(b,0),by
  first|rfl,by
  show b.length<=1048576/\0<=100
  exact ⟨hlen,by omega⟩,?_⟩
 -- w6: mkPt [DA.one (DC.ro (.bytes b)), DA.one (DC.im (Value.int .i64 (5 : Int)))]
 refine ⟨(b,5),by
  first|rfl,by
  show b.length<=1048576/\5<=100
  exact ⟨hlen,by omega⟩,?_⟩
 -- w9: mkNum [DA.one (DC.ro (.bytes b)), DA.one (DC.im (Value.int .i64 (1 : Int)))]
 refine ⟨(b,1),by
  first|rfl,by
  show b.length<=1048576/\1<=100
  exact ⟨hlen,by omega⟩,?_⟩
 refine ao (a:=(60:Int)≠0) (by first|rfl|omega) λ o12=>?_
 -- w13: iSqPoly [DA.one (DC.sl 44 [.int, .int] (AC (drP b 5 (AD b (7 * 0))).1)), DA.agg [DC.im (Value.bool (decide (((ptC b (AD b (4 * 5)))).x.z < 0))), DC.sl 3 [.int] (L ((ptC b (AD b (4 * 5)))).x.z.natAbs), DC.sl 3 [.int] (L ((ptC b (AD b (4 * 5)))).x.d), DC.im (Value.bool (decide (((ptC b (AD b
 refine ⟨(hA b 0,ptQ (hP b 5)),by
  first|rfl,by
  show (ptQ (hP b 5)).has
  exact Ht _,?_⟩
 -- w16: RatOk [DA.agg [DC.im (Value.bool (decide ((spR (hA b 0) (ptQ (hP b 5))).z < 0))), DC.sl 3 [.int] (L (spR (hA b 0) (ptQ (hP b 5))).z.natAbs), DC.sl 3 [.int] (L (spR (hA b 0) (ptQ (hP b 5))).d)]]
 refine ⟨((decide ((spR (hA b 0) (ptQ (hP b 5))).z<0)),L (spR (hA b 0) (ptQ (hP b 5))).z.natAbs,L (spR (hA b 0) (ptQ (hP b 5))).d),by
  first|rfl,by
  try dsimp only [A3]
  exact ⟨EM _ (by omega),EM _ (by omega),by omega,by omega⟩,?_⟩
 refine And.symm ⟨λ c19=>?_,λ c19=>?_⟩
 ·-- c19f: (!(!(Af (decide ((spR (hA b 0) (ptQ (hP b 5))).z < 0)) (L (spR (hA b 0) (ptQ (hP b 5))).z.natAbs) (L (spR (hA b 0) (ptQ (hP b 5))).d)))) = false
  replace c19:(!(!(Af (decide ((spR (hA b 0) (ptQ (hP b 5))).z<0)) (L (spR (hA b 0) (ptQ (hP b 5))).z.natAbs) (L (spR (hA b 0) (ptQ (hP b 5))).d))))=false:=c19
  try simp only [nrm] at c19
  rw [CM,Q.good] at c19;cases c19 -- done
 -- c19t: (!(!(Af (decide ((spR (hA b 0) (ptQ (hP b 5))).z < 0)) (L (spR (hA b 0) (ptQ (hP b 5))).z.natAbs) (L (spR (hA b 0) (ptQ (hP b 5))).d)))) = true
 replace c19:(!(!(Af (decide ((spR (hA b 0) (ptQ (hP b 5))).z<0)) (L (spR (hA b 0) (ptQ (hP b 5))).z.natAbs) (L (spR (hA b 0) (ptQ (hP b 5))).d))))=true:=c19
 try simp only [nrm] at c19
 refine ao (a:=0<=(0:Int)/\(0:Int)<((AC (drP b 5 (AD b (7*0))).1).length:Int)) (by first|rfl|omega) λ o20=>?_
 refine ao (a:=0<(AC (drP b 5 (AD b (7*0))).1).length) (by first|rfl|omega) λ o21=>?_
 -- w22: iPointOf [DA.agg [DC.im (Value.int .i64 ((((AC (drP b 5 (AD b (7 * 0))).1).getD 0 []).getD 0 (.int 0))).n), DC.im (Value.int .i64 ((((AC (drP b 5 (AD b (7 * 0))).1).getD 0 []).getD 1 (.int 0))).n)]]
 refine ⟨(((((AC (drP b 5 (AD b (7*0))).1).getD 0 []).getD 0 (.int 0))).n,((((AC (drP b 5 (AD b (7*0))).1).getD 0 []).getD 1 (.int 0))).n),by
  first|rfl,by
  try dsimp only [Bc]
  rw [B4 hl0,B5 hl0];omega,?_⟩
 -- w25: iDisc [DA.one (DC.sl 44 [.int, .int] (AC (drP b 5 (AD b (7 * 0))).1)), DA.agg [DC.im (Value.bool (decide ((Fr.ofInt (((((AC (drP b 5 (AD b (7 * 0))).1).getD 0 []).getD 0 (.int 0))).n)).z < 0))), DC.sl 3 [.int] (L (Fr.ofInt (((((AC (drP b 5 (AD b (7 * 0))).1).getD 0 []).getD 0 (.int 0))).
 refine ⟨(hA b 0,ptQ (ptV ((hA b 0).getD 0 (0,0))),0),by
  rw [B4 hl0,B5 hl0];rfl,by
  show (ptQ (ptV ((hA b 0).getD 0 (0,0)))).has/\0<=9223372036854775807
  exact ⟨Ht _,by omega⟩,?_⟩
 refine ⟨λ c28=>?_,λ c28=>?_⟩
 ·-- c28t: (!(dtB (hA b 0) (ptQ (ptV ((hA b 0).getD 0 (0, 0)))) 0)) = true
  replace c28:(!(dtB (hA b 0) (ptQ (ptV ((hA b 0).getD 0 (0,0)))) 0))=true:=c28
  try simp only [nrm] at c28
  rw [Q.at0] at c28;cases c28 -- done
 -- c28f: (!(dtB (hA b 0) (ptQ (ptV ((hA b 0).getD 0 (0, 0)))) 0)) = false
 replace c28:(!(dtB (hA b 0) (ptQ (ptV ((hA b 0).getD 0 (0,0)))) 0))=false:=c28
 try simp only [nrm] at c28
 -- w30: iDisc [DA.one (DC.sl 44 [.int, .int] (AC (drP b 5 (AD b (7 * 0))).1)), DA.agg [DC.im (Value.bool (decide (((ptC b (AD b (4 * 5)))).x.z < 0))), DC.sl 3 [.int] (L ((ptC b (AD b (4 * 5)))).x.z.natAbs), DC.sl 3 [.int] (L ((ptC b (AD b (4 * 5)))).x.d), DC.im (Value.bool (decide (((ptC b (AD b
 refine ⟨(hA b 0,ptQ (hP b 5),hN b),by
  first|rfl,by
  show (ptQ (hP b 5)).has/\(hN b)<=9223372036854775807
  exact ⟨Ht _,by omega⟩,?_⟩
 -- w33: iRatInt [DA.one (DC.im (Value.int .i64 (Int.tmod (EB b 1) (60 : Int))))]
 refine ⟨(Int.tmod (EB b 1) (60:Int)),by
  first|rfl,by
  show (-9223372036854775808<=(Int.tmod (EB b 1) (60:Int))/\(Int.tmod (EB b 1) (60:Int))<=9223372036854775807)
  exact ⟨by show _<=hN b;omega,by show hN b<=_;omega⟩,?_⟩
 -- w36: iRatCmp [DA.agg [DC.im (Value.bool (decide ((spR (hA b 0) (ptQ (hP b 5))).z < 0))), DC.sl 3 [.int] (L (spR (hA b 0) (ptQ (hP b 5))).z.natAbs), DC.sl 3 [.int] (L (spR (hA b 0) (ptQ (hP b 5))).d)], DA.agg [DC.im (Value.bool (decide ((Fr.ofInt (Int.tmod (EB b 1) (60 : Int))).z < 0))), DC.sl 3 [.int] (L (Fr.o
 refine ⟨((spR (hA b 0) (ptQ (hP b 5))),(Fr.ofInt (Int.tmod (EB b 1) (60:Int)))),by
  first|rfl,by
  exact trivial,?_⟩
 refine And.symm ⟨λ c39=>?_,λ c39=>?_⟩
 ·-- c39f: ((dtB (hA b 0) (ptQ (hP b 5)) (hN b)) == (decide ((if (spR (hA b 0) (ptQ (hP b 5))).good = true ∧ (Fr.ofInt (Int.tmod (EB b 1) (60 : Int))).good = true then Fr.cmp (spR (hA b 0) (ptQ (hP b 5))) (Fr.ofInt (Int.tmod (EB b 1) (60 : Int))) else 0) ≤ (0 : Int)))) = false
  try dsimp only at c39
  try simp only [nrm] at c39
  rw [if_pos ⟨Q.good,hg⟩] at c39;exact absurd Q.eq c39 -- done
 -- c39t: ((dtB (hA b 0) (ptQ (hP b 5)) (hN b)) == (decide ((if (spR (hA b 0) (ptQ (hP b 5))).good = true ∧ (Fr.ofInt (Int.tmod (EB b 1) (60 : Int))).good = true then Fr.cmp (spR (hA b 0) (ptQ (hP b 5))) (Fr.ofInt (Int.tmod (EB b 1) (60 : Int))) else 0) ≤ (0 : Int)))) = true
 try dsimp only at c39
 try simp only [nrm] at c39
 -- w40: iDisc [DA.one (DC.sl 44 [.int, .int] (AC (drP b 5 (AD b (7 * 0))).1)), DA.agg [DC.im (Value.bool (decide (((ptC b (AD b (4 * 5)))).x.z < 0))), DC.sl 3 [.int] (L ((ptC b (AD b (4 * 5)))).x.z.natAbs), DC.sl 3 [.int] (L ((ptC b (AD b (4 * 5)))).x.d), DC.im (Value.bool (decide (((ptC b (AD b
 refine ⟨(hA b 0,ptQ (hP b 5),hN b),by
  first|rfl,by
  show (ptQ (hP b 5)).has/\(hN b)<=9223372036854775807
  exact ⟨Ht _,by omega⟩,?_⟩
 refine And.symm ⟨λ c43=>?_,λ c43=>?_⟩
 ·-- c43f: (!(!(dtB (hA b 0) (ptQ (hP b 5)) (hN b)))) = false
  replace c43:(!(!(dtB (hA b 0) (ptQ (hP b 5)) (hN b))))=false:=c43
  try simp only [nrm] at c43
  exact rfl
 -- c43t: (!(!(dtB (hA b 0) (ptQ (hP b 5)) (hN b)))) = true
 replace c43:(!(!(dtB (hA b 0) (ptQ (hP b 5)) (hN b))))=true:=c43
 try simp only [nrm] at c43
 -- w44: iDisc [DA.one (DC.sl 44 [.int, .int] (AC (drP b 5 (AD b (7 * 0))).1)), DA.agg [DC.im (Value.bool (decide (((ptC b (AD b (4 * 5)))).x.z < 0))), DC.sl 3 [.int] (L ((ptC b (AD b (4 * 5)))).x.z.natAbs), DC.sl 3 [.int] (L ((ptC b (AD b (4 * 5)))).x.d), DC.im (Value.bool (decide (((ptC b (AD b
 refine ⟨(hA b 0,ptQ (hP b 5),hN b+1),by
  rw [hnw];rfl,by
  show (ptQ (hP b 5)).has/\(hN b+1)<=9223372036854775807
  exact ⟨Ht _,by omega⟩,?_⟩
 -- l47: Value.bool (dtB (hA b 0) (ptQ (hP b 5)) (hN b + 1)) = Value.bool true
 show Value.bool (dtB (hA b 0) (ptQ (hP b 5)) (hN b+1))=Value.bool true
 exact congrArg Value.bool (Q.mono c43)
end Go.Proofs.YtndnhlhnjiopfaaGreat
