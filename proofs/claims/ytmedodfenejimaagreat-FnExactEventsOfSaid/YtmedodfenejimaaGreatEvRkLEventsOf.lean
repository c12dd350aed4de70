import Derived.Test.YtmedodfenejimaaGreatEvRkEv
import Derived.Test.YtmedodfenejimaaGreatEvRkSt
import Derived.Test.YtmedodfenejimaaGreatEvRkMk
namespace Go.Proofs.YtmedodfenejimaaGreat
set_option maxRecDepth 100000
set_option linter.unusedVariables false
set_option linter.unusedSimpArgs false
open Go.RowKit
theorem Uc (ls:List (List V2)):∀ k,k<=ls.length->E6 ls k<=Ah (AW (ls.take k))
 | 0,_=>Nat.zero_le _
 | k+1,h=>by
  have ih:=Uc ls k (by omega)
  have e:AW (ls.take (k+1))=AW (ls.take k)++AW [ls.getD k []]:=by
   rw [← LY];congr 1
   rw [List.take_add_one]
   simp [List.getD,show k<ls.length from h]
  have e2:Ah (AW [ls.getD k []])=(ls.getD k []).length:=by simp [AW,Ah,A6,Dat.sz,Nk,AF]
  rw [e,Ey,e2,E6];omega
theorem RD (r:Fr):hasRow [.bool,.sl 3 [.int],.sl 3 [.int]] (frD r):=⟨trivial,BK 3 (by have:=r.nlz;omega),BK 3 (by have:=r.nld;omega),trivial⟩
theorem VV {l:List Fr} (h:l.length<=2000000000000):Dat.has (.sl 90 [.bool,.sl 3 [.int],.sl 3 [.int]]) (.sl (AG l)):=⟨by rw [AH];omega,λ k hk=>by
 rw [AH] at hk
 rw [Cp hk];exact RD _⟩
theorem RE:∀ l:List Fr,AD (AG l)<=l.length*147
 | []=>Nat.zero_le _
 | a::l=>by
  have ih:=RE l
  have h1:=Gx _ _ (RD a)
  have e1:Hp [.bool,.sl 3 [.int],.sl 3 [.int]]=3:=by simp [Hp,Ty.K]
  have e2:A6 (frD a)<=48:=by
   have z1:Ah (L a.z.natAbs)=0:=Ky (by decide) (BK 3 (by have:=a.nlz;omega))
   have z2:Ah (L a.d)=0:=Ky (by decide) (BK 3 (by have:=a.nld;omega))
   have l1:=AK a.z.natAbs
   have l2:=AK a.d
   have n1:=a.nlz
   have n2:=a.nld
   simp only [frD,A6,Dat.sz];omega
  rw [e1] at h1
  show Af (frD a)+AD (AG l)<=_
  rw [List.length_cons,Nat.add_mul];omega
theorem VW {lx ly hx hy:Int} {ls:List (List V2)} (h1:ls.length<=1048576) (h2:E6 ls ls.length<=1048576):(evR lx ly hx hy ls).length<=1300000000000:=by
 unfold evR
 split
 ·rename_i h
  have har:NR ls:=⟨h.1,h1,h2⟩
  have hb:=(NS har (lo:=Fr.ofInt lx) (hi:=Fr.ofInt hx) (ly:=ly) (hy:=hy) (Nat.le_refl _) 0).2
  rw [AH] at hb
  have hp:=JD (evF (Fr.ofInt lx) (Fr.ofInt hx) (cA ls ls.length++cE (edA ls) ly hy (edA ls).length)) [Fr.ofInt lx,Fr.ofInt hx]
  simp only [List.length_cons,List.length_nil] at hp;omega
 ·simp
theorem RF {d:Dat} (h:d.fit):-9223372036854775808<=d.n/\d.n<=9223372036854775807:=by
 cases d <;> simp_all [Dat.fit,Dat.n]
theorem WY {r:List Dat} (h:hasRow [.int,.int,.int,.int] r):A6 r=0:=Ho (by decide) h
def Cg:Con:={ ι:=(List (List Dat)),pre:=λ i=>i.length<=9223372036854775807,args:=λ i=>[.one (DC.sl 90 z84 i),.one (DC.sl 90 z84 i)],res:=λ i=>⟨false,[none],[rcB true]⟩ }
theorem Sb:Cg.Ok Tryz.prog 31:=by
 refine fok (X:=⟨tt,[(41,HT)],[],27,[]⟩) mixed AN (CTok.cons UV (CTok.nil _)) Tryz.func31 (λ (i:(List (List Dat)))=>[(4,.mk 3 (Nat) (λ x1=>{ tm:=[(0,tX 1),(1,tX 2),(5,tI (nI x1))],en:=[(1,.view 90 z84 i []),(2,.view 90 z84 i [])] }) (λ x1=>x1<=i.length) (λ x1=>i.length-x1) (λ _=>[]))]) ?_
 intro (l:List (List Dat)) hpre
 have hpre:l.length<=9223372036854775807:=hpre
 refine AP (q:=ifB (((nI l.length) != (nI l.length))) ((vB false=vB true)) ((∃ x1:Nat,(x1<=l.length)/\((vI (0:Int)=vI (nI x1))/\(rf (l))/\(rf (l))))/\∀ x1:Nat,let Z1:=l.getD x1 [];let Z4:=((Z1.getD 2 (.int 0))).r;let Z3:=((Z1.getD 1 (.int 0))).r;let Z2:=((Z1.getD 0 (.int 0))).b;(x1<=l.length)->(ifB ((decide ((nI x1)<(nI l.length)))) ((0<=(nI x1)/\(nI x1)<(l.length:Int))/\((x1<l.length)/\((0<=(nI x1)/\(nI x1)<(l.length:Int))/\((x1<l.length)/\(∃ i1:RatD,[DA.agg [cB Z2,cS Z3,cS Z4],DA.agg [cB Z2,cS Z3,cS Z4]]=HT.args i1/\HT.pre i1/\(ifB ((!true)) ((vB false=vB true)) (∃ y2:Nat,(y2<=l.length)/\(l.length-y2<l.length-x1)/\((vI (wR ((nI x1)+(1:Int)))=vI (nI y2))/\(rf (l))/\(rf (l)))))))))) ((vB true=vB true))))) (by kernel_rfl) ?_
 conv=>zeta
 delta ifB vB vI wR nI
 refine ⟨λ c1=>?_,λ c1=>?_⟩
 ·try simp only [nrm] at c1
  first|rfl|(exfalso;simp_all;done)|simp_all
 try simp only [nrm] at c1
 refine ⟨⟨0,by
  first|trivial|omega|(simp;omega),?_⟩,?_⟩
 ·refine ⟨?_,rfl,rfl⟩
  first|rfl|(simp;done)
 intro (k:Nat) hki3
 have hki3:k<=l.length:=hki3
 refine And.symm ⟨λ c8=>?_,λ c8=>?_⟩
 ·try simp only [nrm] at c8
  exact rfl
 try simp only [nrm] at c8
 refine ao (by first|rfl|omega|(simp;done)|(simp;omega)) λ o9=>?_
 refine ao (by first|rfl|omega|(simp;done)|(simp;omega)) λ o10=>?_
 refine ao (by first|rfl|omega|(simp;done)|(simp;omega)) λ o11=>?_
 refine ao (by first|rfl|omega|(simp;done)|(simp;omega)) λ o12=>?_
 refine ⟨(RatD.mk ((((l.getD k []).getD 0 (.int 0))).b) ((((l.getD k []).getD 1 (.int 0))).r) ((((l.getD k []).getD 2 (.int 0))).r)),by
  rfl,by
  first|trivial|(first|omega|assumption|exact hpre.1|exact hpre.2|(simp;done)),?_⟩
 refine ⟨λ c16=>?_,λ c16=>?_⟩
 ·try simp only [nrm] at c16
  first|rfl|(exfalso;simp_all;done)|simp_all
 try simp only [nrm] at c16
 refine ⟨k+1,by
  first|trivial|omega|(simp;omega),by
  first|omega|(simp;omega),?_⟩
 refine ⟨?_,rfl,rfl⟩
 first|rfl|exact AU (AB (by omega) (by omega))
def D1:Con:={ ι:=(List Dat)×(List (List V2)),pre:=λ i=>hasRow [.int,.int,.int,.int] i.1/\fitRow i.1/\Dat.has (.sl 24 [.sl 23 [.int,.int]]) (.sl (AW i.2)),args:=λ i=>[w28 i.1,.one (DC.sl 24 [.sl 23 [.int,.int]] (AW i.2))],res:=λ i=>⟨false,[none],[rcB true]⟩ }
set_option maxHeartbeats 4000000 in
theorem LU:D1.Ok Tryz.prog 5:=by
 refine fok (X:=⟨tt,[(26,Ev),(28,DI),(29,Bi),(27,C0),(30,Bh),(31,Cg),(32,Eu),(33,Dq),(34,DX),(35,Bv)],[],77,[]⟩) mixed AN (CTok.cons QF (CTok.cons UX (CTok.cons QE (CTok.cons NX (CTok.cons NY (CTok.cons Sb (CTok.cons QD (CTok.cons Nc (CTok.cons O6 (CTok.cons O8 (CTok.nil _))))))))))) Tryz.func5 (λ _=>[]) ?_
 rintro ⟨r,ls⟩ hpre
 have hpre:hasRow [.int,.int,.int,.int] r/\fitRow r/\Dat.has (.sl 24 [.sl 23 [.int,.int]]) (.sl (AW ls)):=hpre
 refine AP (q:=let Z12:=List (List V2);let Z8:=cI (1:Int);let Z3:=(vB false=vB true);let Z2:=List (List Dat);let Z1:=DC.sl 24 [.sl 23 [.int,.int]] (AW ls);∃ i1:Z2×Int,[DA.one Z1,DA.one (cI (1048576:Int))]=Ev.args i1/\Ev.pre i1/\(ifB ((decide ((szR (i1.1.length+Ah i1.1) i1.2)<(0:Int)))) ((vB true=vB true)) (∃ i2:(List Dat),[w28 r]=DI.args i2/\DI.pre i2/\(∃ i3:Z2,[DA.one Z1]=Bi.args i3/\Bi.pre i3/\(∃ i4:Int×Int×Int×Int×Z12,let Z5:=DC.sl 90 z84 (AG (evR i4.1 i4.2.1 i4.2.2.1 i4.2.2.2.1 i4.2.2.2.2));[w28 i2,DA.one (DC.sl 40 [.sl 39 [.int,.int]] i3)]=C0.args i4/\C0.pre i4/\(∃ i5:Z2,let Z6:=DC.sl 40 [.sl 39 [.int,.int]] i5;[DA.one Z1]=Bi.args i5/\Bi.pre i5/\(∃ i6:(List Dat),[w28 r]=DI.args i6/\DI.pre i6/\(∃ i7:Int×Int×Int×Int×Z12,let Z4:=DC.sl 90 z84 (AG (evR i7.1 i7.2.1 i7.2.2.1 i7.2.2.2.1 i7.2.2.2.2));[w28 i6,DA.one Z6]=Bh.args i7/\Bh.pre i7/\(∃ i8:Z2,[DA.one Z4,DA.one Z5]=Cg.args i8/\Cg.pre i8/\(ifB ((!true)) Z3 (∃ i9:Z2,[DA.one Z1]=Bi.args i9/\Bi.pre i9/\(∃ i10:Z2,[DA.one Z6,DA.one (DC.sl 40 [.sl 39 [.int,.int]] i9)]=Eu.args i10/\Eu.pre i10/\(ifB ((!true)) Z3 (∃ i11:Z2×Int,[DA.one Z6,DA.one Z8]=Dq.args i11/\Dq.pre i11/\(ifB ((!(decide ((i11.2+(AD i11.1:Int))<(0:Int))))) (∃ i12:Z2,[DA.one Z4,DA.one Z5]=Cg.args i12/\Cg.pre i12/\(ifB ((!true)) Z3 (∃ i13:Z2×Int,let Z10:=i13.2+(AD i13.1:Int);let Z7:=DC.sl 90 z84 (AY i13.2 i13.1);[DA.one Z4,DA.one Z8]=DX.args i13/\DX.pre i13/\(∃ i14:Z2×Int,let Z9:=i14.2+(AD i14.1:Int);[DA.one Z7,DA.one Z8]=Bv.args i14/\Bv.pre i14/\(ifB ((decide (Z9<(0:Int)))) Z3 (ifB ((Z9 != Z10)) Z3 (∃ i15:(List Dat),[w28 r]=DI.args i15/\DI.pre i15/\(∃ i16:Z2,[DA.one Z1]=Bi.args i16/\Bi.pre i16/\(∃ i17:Int×Int×Int×Int×Z12,[w28 i15,DA.one (DC.sl 40 [.sl 39 [.int,.int]] i16)]=Bh.args i17/\Bh.pre i17/\(∃ i18:Z2,[DA.one (DC.sl 90 z84 (AG (evR i17.1 i17.2.1 i17.2.2.1 i17.2.2.2.1 i17.2.2.2.2))),DA.one Z5]=Cg.args i18/\Cg.pre i18/\(ifB ((!true)) Z3 (∃ i19:Z2×Int,let Z11:=i19.2+(AD i19.1:Int);[DA.one Z7,DA.one Z8]=Bv.args i19/\Bv.pre i19/\(ifB ((decide (Z11<(0:Int)))) Z3 (ifB ((Z11 != Z10)) Z3 ((vB true=vB true)))))))))))))))) Z3))))))))))))))) (by kernel_rfl) ?_
 conv=>zeta
 delta w28 ifB vB
 obtain ⟨hb,hf,ha⟩:=hpre
 have f0:=RF (FK (k:=0) hf)
 have f1:=RF (FK (k:=1) hf)
 have f2:=RF (FK (k:=2) hf)
 have f3:=RF (FK (k:=3) hf)
 have hbz:=WY hb
 refine ⟨((AW ls),(1048576:Int)),by
  rfl,by
  show Dat.has (.sl 24 [.sl 23 [.int,.int]]) (.sl (AW ls))/\0<=(1048576:Int)/\(1048576:Int)<=1048576
  exact ⟨ha,by omega,by omega⟩,?_⟩
 refine ⟨λ c4=>?_,λ c4=>?_⟩
 ·try simp only [nrm] at c4
  exact rfl
 try simp only [nrm] at c4
 have z2:=WS ((AW ls).length+Ah (AW ls)) 1048576
 have g3:(AW ls).length+Ah (AW ls)<=1048576:=by omega
 have g1:ls.length<=1048576:=by rw [BG] at g3;omega
 have g2:E6 ls ls.length<=1048576:=by
  have:=Uc ls ls.length (Nat.le_refl _)
  rw [List.take_length] at this;omega
 have hcv:(AD (AW ls):Int)<=2000000000:=Lb ha g3 (by simp [Hp,Ty.K])
 have hel:=VW (lx:=((r.getD 0 (.int 0)).n)) (ly:=((r.getD 1 (.int 0)).n)) (hx:=((r.getD 2 (.int 0)).n)) (hy:=((r.getD 3 (.int 0)).n)) g1 g2
 have hfl:=AH (evR ((r.getD 0 (.int 0)).n) ((r.getD 1 (.int 0)).n) ((r.getD 2 (.int 0)).n) ((r.getD 3 (.int 0)).n) ls)
 have hoh:=VV (l:=(evR ((r.getD 0 (.int 0)).n) ((r.getD 1 (.int 0)).n) ((r.getD 2 (.int 0)).n) ((r.getD 3 (.int 0)).n) ls)) (by omega)
 have hoc:=RE (evR ((r.getD 0 (.int 0)).n) ((r.getD 1 (.int 0)).n) ((r.getD 2 (.int 0)).n) ((r.getD 3 (.int 0)).n) ls)
 refine ⟨r,by
  rfl,by
  show hasRow [.int,.int,.int,.int] r/\A6 r<=1048576
  exact ⟨hb,by omega⟩,?_⟩
 refine ⟨(AW ls),by
  rfl,by
  exact g3,?_⟩
 refine ⟨(((r.getD 0 (.int 0)).n),((r.getD 1 (.int 0)).n),((r.getD 2 (.int 0)).n),((r.getD 3 (.int 0)).n),ls),by
  rfl,by
  try dsimp only [C0]
  exact ⟨g1,g2,f0,f1,f2,f3⟩,?_⟩
 refine ⟨(AW ls),by
  rfl,by
  exact g3,?_⟩
 refine ⟨r,by
  rfl,by
  show hasRow [.int,.int,.int,.int] r/\A6 r<=1048576
  exact ⟨hb,by omega⟩,?_⟩
 refine ⟨(((r.getD 0 (.int 0)).n),((r.getD 1 (.int 0)).n),((r.getD 2 (.int 0)).n),((r.getD 3 (.int 0)).n),ls),by
  rfl,by
  try dsimp only [Bh]
  exact ⟨g1,g2,f0,f1,f2,f3⟩,?_⟩
 refine ⟨AG (evR ((r.getD 0 (.int 0)).n) ((r.getD 1 (.int 0)).n) ((r.getD 2 (.int 0)).n) ((r.getD 3 (.int 0)).n) ls),by
  rfl,by
  show (AG (evR ((r.getD 0 (.int 0)).n) ((r.getD 1 (.int 0)).n) ((r.getD 2 (.int 0)).n) ((r.getD 3 (.int 0)).n) ls)).length<=9223372036854775807
  omega,?_⟩
 refine ⟨λ c27=>?_,λ c27=>?_⟩
 ·try simp only [nrm] at c27
  first|rfl|contradiction|(exfalso;omega)|simp_all
 try simp only [nrm] at c27
 refine ⟨(AW ls),by
  rfl,by
  exact g3,?_⟩
 refine ⟨(AW ls),by
  rfl,by
  trivial,?_⟩
 refine ⟨λ c35=>?_,λ c35=>?_⟩
 ·try simp only [nrm] at c35
  first|rfl|contradiction|(exfalso;omega)|simp_all
 try simp only [nrm] at c35
 refine ⟨((AW ls),(1:Int)),by
  rfl,by
  show Dat.has (.sl 40 [.sl 39 [.int,.int]]) (.sl (AW ls))/\0<=(1:Int)/\(1:Int)+(AD (AW ls):Int)<=4611686018427387904
  exact ⟨Tj (by rfl) ha,by omega,by omega⟩,?_⟩
 refine And.symm ⟨λ c40=>?_,λ c40=>?_⟩
 ·try simp only [nrm] at c40
  first|rfl|contradiction|(exfalso;omega)|simp_all
 try simp only [nrm] at c40
 refine ⟨AG (evR ((r.getD 0 (.int 0)).n) ((r.getD 1 (.int 0)).n) ((r.getD 2 (.int 0)).n) ((r.getD 3 (.int 0)).n) ls),by
  rfl,by
  show (AG (evR ((r.getD 0 (.int 0)).n) ((r.getD 1 (.int 0)).n) ((r.getD 2 (.int 0)).n) ((r.getD 3 (.int 0)).n) ls)).length<=9223372036854775807
  omega,?_⟩
 refine ⟨λ c44=>?_,λ c44=>?_⟩
 ·try simp only [nrm] at c44
  first|rfl|contradiction|(exfalso;omega)|simp_all
 try simp only [nrm] at c44
 refine ⟨(AG (evR ((r.getD 0 (.int 0)).n) ((r.getD 1 (.int 0)).n) ((r.getD 2 (.int 0)).n) ((r.getD 3 (.int 0)).n) ls),(1:Int)),by
  rfl,by
  try dsimp only [DX]
  exact ⟨hoh,by omega,by omega⟩,?_⟩
 refine ⟨((AG (evR ((r.getD 0 (.int 0)).n) ((r.getD 1 (.int 0)).n) ((r.getD 2 (.int 0)).n) ((r.getD 3 (.int 0)).n) ls)),(1:Int)),by
  rfl,by
  try dsimp only [Bv]
  exact ⟨hoh,by omega,by omega⟩,?_⟩
 refine ⟨λ c52=>?_,λ c52=>?_⟩
 ·try simp only [nrm] at c52
  first|rfl|contradiction|(exfalso;omega)|simp_all
 try simp only [nrm] at c52
 refine ⟨λ c54=>?_,λ c54=>?_⟩
 ·try dsimp only at c54
  try simp only [nrm] at c54
  first|rfl|contradiction|(exfalso;omega)|simp_all
 try dsimp only at c54
 try simp only [nrm] at c54
 refine ⟨r,by
  rfl,by
  show hasRow [.int,.int,.int,.int] r/\A6 r<=1048576
  exact ⟨hb,by omega⟩,?_⟩
 refine ⟨(AW ls),by
  rfl,by
  exact g3,?_⟩
 refine ⟨(((r.getD 0 (.int 0)).n),((r.getD 1 (.int 0)).n),((r.getD 2 (.int 0)).n),((r.getD 3 (.int 0)).n),ls),by
  rfl,by
  try dsimp only [Bh]
  exact ⟨g1,g2,f0,f1,f2,f3⟩,?_⟩
 refine ⟨AG (evR ((r.getD 0 (.int 0)).n) ((r.getD 1 (.int 0)).n) ((r.getD 2 (.int 0)).n) ((r.getD 3 (.int 0)).n) ls),by
  rfl,by
  show (AG (evR ((r.getD 0 (.int 0)).n) ((r.getD 1 (.int 0)).n) ((r.getD 2 (.int 0)).n) ((r.getD 3 (.int 0)).n) ls)).length<=9223372036854775807
  omega,?_⟩
 refine ⟨λ c68=>?_,λ c68=>?_⟩
 ·try simp only [nrm] at c68
  first|rfl|contradiction|(exfalso;omega)|simp_all
 try simp only [nrm] at c68
 refine ⟨((AG (evR ((r.getD 0 (.int 0)).n) ((r.getD 1 (.int 0)).n) ((r.getD 2 (.int 0)).n) ((r.getD 3 (.int 0)).n) ls)),(1:Int)),by
  rfl,by
  try dsimp only [Bv]
  exact ⟨hoh,by omega,by omega⟩,?_⟩
 refine ⟨λ c73=>?_,λ c73=>?_⟩
 ·try simp only [nrm] at c73
  first|rfl|contradiction|(exfalso;omega)|simp_all
 try simp only [nrm] at c73
 refine ⟨λ c75=>?_,λ c75=>?_⟩
 ·try dsimp only at c75
  try simp only [nrm] at c75
  first|rfl|contradiction|(exfalso;omega)|simp_all
 try dsimp only at c75
 try simp only [nrm] at c75
 exact rfl
end Go.Proofs.YtmedodfenejimaaGreat
