import Derived.Test.YtmedodfenejimaaGreatTpRkTp
import Derived.Test.YtmedodfenejimaaGreatTpRkSt
import Derived.Test.YtmedodfenejimaaGreatTpRkMk
namespace Go.Proofs.YtmedodfenejimaaGreat
set_option linter.unusedVariables false
set_option linter.unusedSimpArgs false
open Go.RowKit
theorem Cp {e:Nat} {ts:List Ty} {d:Dat} (h:Dat.has (.sl e ts) d):Dat.has (.sl e ts) (.sl d.r):=by
 cases d <;> simp_all [Dat.has,Dat.r]
theorem X6 {r:List Dat} (h:hasRow [.bool,.sl 3 [.int],.sl 3 [.int],.bool,.sl 3 [.int],.sl 3 [.int],.bool,.sl 3 [.int],.sl 3 [.int],.bool,.sl 3 [.int],.sl 3 [.int],.bool,.sl 3 [.int],.sl 3 [.int],.bool,.sl 3 [.int],.sl 3 [.int]] r):Bb r:=⟨⟨Cp (Bj h (c:=1) rfl),Cp (Bj h (c:=2) rfl)⟩,⟨Cp (Bj h (c:=4) rfl),Cp (Bj h (c:=5) rfl)⟩,⟨Cp (Bj h (c:=7) rfl),Cp (Bj h (c:=8) rfl)⟩,⟨Cp (Bj h (c:=10) rfl),Cp (Bj h (c:=11) rfl)⟩,⟨Cp (Bj h (c:=13) rfl),Cp (Bj h (c:=14) rfl)⟩,⟨Cp (Bj h (c:=16) rfl),Cp (Bj h (c:=17) rfl)⟩⟩
theorem X7 {r:List Dat} (h:hasRow [.bool,.sl 3 [.int],.sl 3 [.int],.bool,.sl 3 [.int],.sl 3 [.int],.bool,.sl 3 [.int],.sl 3 [.int]] r):Bc r:=⟨⟨Cp (Bj h (c:=1) rfl),Cp (Bj h (c:=2) rfl)⟩,⟨Cp (Bj h (c:=4) rfl),Cp (Bj h (c:=5) rfl)⟩,⟨Cp (Bj h (c:=7) rfl),Cp (Bj h (c:=8) rfl)⟩⟩
theorem Zo {r:List Dat} (h:hasRow [.int,.bool,.int,.int,.int,.int,.sl 24 [.sl 23 [.int,.int]],.sl 161 [.bool,.sl 3 [.int],.sl 3 [.int],.bool,.sl 3 [.int],.sl 3 [.int],.bool,.sl 3 [.int],.sl 3 [.int],.bool,.sl 3 [.int],.sl 3 [.int],.bool,.sl 3 [.int],.sl 3 [.int],.bool,.sl 3 [.int],.sl 3 [.int]],.sl 164 [.bool,.sl 3 [.int],.sl 3 [.int],.bool,.sl 3 [.int],.sl 3 [.int],.bool,.sl 3 [.int],.sl 3 [.int]],.sl 172 [.int,.int],.sl 3 [.int]] r) (hs:AE r<=1048576):CG r:=by
 have h1:=Ii h
 have h2:=NJ h
 refine ⟨λ k hk=>X6 (Bh h1.2.2.2.2.2.2.2.1 k hk),λ k hk=>X7 (Bh h1.2.2.2.2.2.2.2.2.1 k hk),?_,?_,?_,?_⟩
 ·show ((r.getD 7 (.int 0)).r).length<=_;omega
 ·show ((r.getD 8 (.int 0)).r).length<=_;omega
 ·show ((r.getD 9 (.int 0)).r).length<=_;omega
 ·show ((r.getD 10 (.int 0)).r).length<=_;omega
theorem X8 (s:Scn) (r:List Dat):∀ k j,j<k->∃ n:Int,(tpL s r k).getD j []=[.int n]
 | 0,j,h=>by omega
 | k+1,j,h=>by
  rw [tpL]
  by_cases hj:j<k
  ·obtain ⟨n,hn⟩:=X8 s r k j hj
   refine ⟨n,?_⟩
   rw [← hn]
   have:j<(tpL s r k).length:=by rw [Jf];exact hj
   simp [List.getD,List.getElem?_append_left this]
  ·have hj2:j=(tpL s r k).length:=by rw [Jf];omega
   subst hj2
   exact ⟨_,by simp [List.getD];rfl⟩
theorem Uo {s:Scn} {r:List Dat} (hz:Ct s):Dat.has (.sl 3 [.int]) (.sl (tpR s r))/\(tpR s r).length<=1048576:=by
 cases hv:AV s with
 | false=>rw [Td hv];exact ⟨⟨by simp,λ k hk=>by simp at hk⟩,by simp⟩
 | true=>
  have h1:=hz.2.2.2
  have h2:=Jf s r s.tables.length
  rw [P0 hv]
  refine ⟨⟨by omega,λ j hj=>?_⟩,by omega⟩
  obtain ⟨n,hn⟩:=X8 s r s.tables.length j (by omega)
  rw [hn]
  simp [hasRow,Dat.has]
theorem Yy {s:Scn} {r:List Dat} (hz:Ct s):(AA (tpR s r):Int)<=2000000000:=by
 have h:=Uo (r:=r) hz
 have e:AG (tpR s r)=0:=KO (by decide) h.1
 exact N2 h.1 (by omega) (by simp [Jw,Ty.K])
def EI:Con:={ ι:=Scn×(List Dat),pre:=λ i=>hasRow [.int,.int,.int,.int,.sl 23 [.int,.int],.sl 24 [.sl 23 [.int,.int]],.sl 23 [.int,.int]] (Dc i.1)/\hasRow [.int,.bool,.int,.int,.int,.int,.sl 24 [.sl 23 [.int,.int]],.sl 161 [.bool,.sl 3 [.int],.sl 3 [.int],.bool,.sl 3 [.int],.sl 3 [.int],.bool,.sl 3 [.int],.sl 3 [.int],.bool,.sl 3 [.int],.sl 3 [.int],.bool,.sl 3 [.int],.sl 3 [.int],.bool,.sl 3 [.int],.sl 3 [.int]],.sl 164 [.bool,.sl 3 [.int],.sl 3 [.int],.bool,.sl 3 [.int],.sl 3 [.int],.bool,.sl 3 [.int],.sl 3 [.int]],.sl 172 [.int,.int],.sl 3 [.int]] i.2,args:=λ i=>[DA.agg [cI i.1.low.1,cI i.1.low.2,cI i.1.high.1,cI i.1.high.2,DC.sl 23 [.int,.int] (AJ i.1.robot),DC.sl 24 [.sl 23 [.int,.int]] (Aa i.1.obst),DC.sl 23 [.int,.int] (AJ i.1.tables)],w34 i.2],res:=λ i=>⟨false,[none],[rcB true]⟩ }
set_option maxRecDepth 100000 in
set_option maxHeartbeats 4000000 in
theorem LN:EI.Ok Tryz.prog 3:=by
 refine fok (X:=⟨tt,[(8,F0),(9,Et),(11,Br),(12,BK),(10,Eg),(13,Cl),(14,By),(15,F1),(16,Eu),(17,DT),(18,DX),(19,AM),(20,DK)],[],92,[]⟩) AI AF (CTok.cons Sl (CTok.cons Si (CTok.cons Sm (CTok.cons Sj (CTok.cons P4 (CTok.cons P3 (CTok.cons Od (CTok.cons Sn (CTok.cons Sk (CTok.cons P6 (CTok.cons QA (CTok.cons GY (CTok.cons Rp (CTok.nil _)))))))))))))) Tryz.func3 (λ _=>[]) ?_
 rintro ⟨s,r⟩ hpre
 have hpre:hasRow [.int,.int,.int,.int,.sl 23 [.int,.int],.sl 24 [.sl 23 [.int,.int]],.sl 23 [.int,.int]] (Dc s)/\hasRow [.int,.bool,.int,.int,.int,.int,.sl 24 [.sl 23 [.int,.int]],.sl 161 [.bool,.sl 3 [.int],.sl 3 [.int],.bool,.sl 3 [.int],.sl 3 [.int],.bool,.sl 3 [.int],.sl 3 [.int],.bool,.sl 3 [.int],.sl 3 [.int],.bool,.sl 3 [.int],.sl 3 [.int],.bool,.sl 3 [.int],.sl 3 [.int]],.sl 164 [.bool,.sl 3 [.int],.sl 3 [.int],.bool,.sl 3 [.int],.sl 3 [.int],.bool,.sl 3 [.int],.sl 3 [.int]],.sl 172 [.int,.int],.sl 3 [.int]] r:=hpre
 refine AH (q:=let Z9:=cI (1:Int);let Z6:=(vB true=vB true);let Z5:=Aa s.obst;let Z4:=AJ s.robot;let Z3:=AJ s.tables;let Z2:=List Dat;let Z1:=(vB false=vB true);∃ i1:Z2×Int,[DA.agg [cI s.low.1,cI s.low.2,cI s.high.1,cI s.high.2,DC.sl 23 [.int,.int] Z4,DC.sl 24 [.sl 23 [.int,.int]] Z5,DC.sl 23 [.int,.int] Z3],DA.one (cI (1048576:Int))]=F0.args i1/\F0.pre i1/\(ifB ((decide ((szR (AE i1.1) i1.2)<(0:Int)))) Z6 (∃ i2:Z2×Int,[w34 r,DA.one (cI (szR (AE i1.1) i1.2))]=Et.args i2/\Et.pre i2/\(ifB ((decide ((szR (AE i2.1) i2.2)<(0:Int)))) Z6 (∃ i3:Z2,[DA.agg [cI s.low.1,cI s.low.2,cI s.high.1,cI s.high.2,DC.sl 23 [.int,.int] Z4,DC.sl 24 [.sl 23 [.int,.int]] Z5,DC.sl 23 [.int,.int] Z3]]=Br.args i3/\Br.pre i3/\(∃ i4:Z2,[w34 r]=BK.args i4/\BK.pre i4/\(∃ i5:Scn×Z2,let Z8:=cS (tpR i5.1 i5.2);[w42 i3,w50 i4]=Eg.args i5/\Eg.pre i5/\(∃ i6:Z2,[DA.agg [cI s.low.1,cI s.low.2,cI s.high.1,cI s.high.2,DC.sl 23 [.int,.int] Z4,DC.sl 24 [.sl 23 [.int,.int]] Z5,DC.sl 23 [.int,.int] Z3]]=Br.args i6/\Br.pre i6/\(∃ i7:Z2,[w34 r]=BK.args i7/\BK.pre i7/\(∃ i8:Scn×Z2,let Z7:=cS (tpR i8.1 i8.2);[w42 i6,w50 i7]=Cl.args i8/\Cl.pre i8/\(∃ i9:(List Z2),[DA.one Z7,DA.one Z8]=By.args i9/\By.pre i9/\(ifB ((!true)) Z1 (∃ i10:Z2,[DA.agg [cI s.low.1,cI s.low.2,cI s.high.1,cI s.high.2,DC.sl 23 [.int,.int] Z4,DC.sl 24 [.sl 23 [.int,.int]] Z5,DC.sl 23 [.int,.int] Z3]]=Br.args i10/\Br.pre i10/\(∃ i11:Z2,[w42 i6,w42 i10]=F1.args i11/\F1.pre i11/\(ifB ((!true)) Z1 (∃ i12:Z2,[w34 r]=BK.args i12/\BK.pre i12/\(∃ i13:Z2,[w50 i7,w50 i12]=Eu.args i13/\Eu.pre i13/\(ifB ((!true)) Z1 (∃ i14:Scn×Int,[w42 i6,DA.one Z9]=DT.args i14/\DT.pre i14/\(∃ i15:Z2×Int,[w50 i7,DA.one (cI (i14.2+(AA (AJ i14.1.robot):Int)+(AA (Aa i14.1.obst):Int)+(AA (AJ i14.1.tables):Int)))]=DX.args i15/\DX.pre i15/\(ifB ((!(decide ((i15.2+(AA ((i15.1.getD 6 (.int 0)).r):Int)+(AA ((i15.1.getD 7 (.int 0)).r):Int)+(AA ((i15.1.getD 8 (.int 0)).r):Int)+(AA ((i15.1.getD 9 (.int 0)).r):Int)+(AA ((i15.1.getD 10 (.int 0)).r):Int))<(0:Int))))) (∃ i16:(List Z2),[DA.one Z7,DA.one Z8]=By.args i16/\By.pre i16/\(ifB ((!true)) Z1 (∃ i17:(List Z2)×Int,let Z13:=cS (AP i17.2 i17.1);let Z11:=i17.2+(AA i17.1:Int);[DA.one Z7,DA.one Z9]=AM.args i17/\AM.pre i17/\(∃ i18:(List Z2)×Int,let Z10:=i18.2+(AA i18.1:Int);[DA.one Z13,DA.one Z9]=DK.args i18/\DK.pre i18/\(ifB ((decide (Z10<(0:Int)))) Z1 (ifB ((Z10 != Z11)) Z1 (∃ i19:Z2,[DA.agg [cI s.low.1,cI s.low.2,cI s.high.1,cI s.high.2,DC.sl 23 [.int,.int] Z4,DC.sl 24 [.sl 23 [.int,.int]] Z5,DC.sl 23 [.int,.int] Z3]]=Br.args i19/\Br.pre i19/\(∃ i20:Z2,[w34 r]=BK.args i20/\BK.pre i20/\(∃ i21:Scn×Z2,[w42 i19,w50 i20]=Cl.args i21/\Cl.pre i21/\(∃ i22:(List Z2),[DA.one (cS (tpR i21.1 i21.2)),DA.one Z8]=By.args i22/\By.pre i22/\(ifB ((!true)) Z1 (∃ i23:(List Z2)×Int,let Z12:=i23.2+(AA i23.1:Int);[DA.one Z13,DA.one Z9]=DK.args i23/\DK.pre i23/\(ifB ((decide (Z12<(0:Int)))) Z1 (ifB ((Z12 != Z11)) Z1 Z6)))))))))))))) Z1))))))))))))))))))))) (by kernel_rfl) ?_
 conv=>zeta
 delta w34 w42 w50 ifB vB
 obtain ⟨hs,hr⟩:=hpre
 have z1:=Bz (AE (Dc s)) 1048576
 have hsc:=NK hs
 have hsl:=Ii hr
 refine ⟨((Dc s),(1048576:Int)),by
  rfl,by
  show hasRow [.int,.int,.int,.int,.sl 23 [.int,.int],.sl 24 [.sl 23 [.int,.int]],.sl 23 [.int,.int]] (Dc s)/\0<=(1048576:Int)/\(1048576:Int)<=1048576
  exact ⟨hs,by omega,by omega⟩,?_⟩
 refine ⟨λ c4=>?_,λ c4=>?_⟩
 ·try simp only [nrm] at c4
  exact rfl
 try simp only [nrm] at c4
 refine ⟨(r,(szR (AE (Dc s)) (1048576:Int))),by
  rfl,by
  try dsimp only [Et]
  exact ⟨hr,by omega,by omega⟩,?_⟩
 refine ⟨λ c9=>?_,λ c9=>?_⟩
 ·try simp only [nrm] at c9
  exact rfl
 try simp only [nrm] at c9
 have z2:=Bz (AE r) (szR (AE (Dc s)) 1048576)
 have gs:AE (Dc s)<=1048576:=by omega
 have gr:AE r<=1048576:=by omega
 have hz:Ct s:=Ye gs
 have hsh:=Zo hr gr
 have hcs:(cntV (Dc s):Int)<=2000000000:=Jx hs gs (by simp [Jw,Ty.K])
 simp only [Dc,cntV,Dat.cntV] at hcs
 have he:=KP hr
 have hds:hasRow [.int,.bool,.int,.int,.int,.int,.sl 24 [.sl 23 [.int,.int]],.sl 161 [.bool,.sl 3 [.int],.sl 3 [.int],.bool,.sl 3 [.int],.sl 3 [.int],.bool,.sl 3 [.int],.sl 3 [.int],.bool,.sl 3 [.int],.sl 3 [.int],.bool,.sl 3 [.int],.sl 3 [.int],.bool,.sl 3 [.int],.sl 3 [.int]],.sl 164 [.bool,.sl 3 [.int],.sl 3 [.int],.bool,.sl 3 [.int],.sl 3 [.int],.bool,.sl 3 [.int],.sl 3 [.int]],.sl 172 [.int,.int],.sl 3 [.int]] [.int ((r.getD 0 (.int 0)).n),.bool ((r.getD 1 (.int 0)).b),.int ((r.getD 2 (.int 0)).n),.int ((r.getD 3 (.int 0)).n),.int ((r.getD 4 (.int 0)).n),.int ((r.getD 5 (.int 0)).n),.sl ((r.getD 6 (.int 0)).r),.sl ((r.getD 7 (.int 0)).r),.sl ((r.getD 8 (.int 0)).r),.sl ((r.getD 9 (.int 0)).r),.sl ((r.getD 10 (.int 0)).r)]:=by rw [← he];exact hr
 have gd:AE [.int ((r.getD 0 (.int 0)).n),.bool ((r.getD 1 (.int 0)).b),.int ((r.getD 2 (.int 0)).n),.int ((r.getD 3 (.int 0)).n),.int ((r.getD 4 (.int 0)).n),.int ((r.getD 5 (.int 0)).n),.sl ((r.getD 6 (.int 0)).r),.sl ((r.getD 7 (.int 0)).r),.sl ((r.getD 8 (.int 0)).r),.sl ((r.getD 9 (.int 0)).r),.sl ((r.getD 10 (.int 0)).r)]<=1048576:=by rw [← he];exact gr
 have hcr:=Jx hds gd (by simp [Jw,Ty.K])
 simp only [cntV,Dat.cntV] at hcr
 have hoh:=(Uo (r:=r) hz).1
 have hoc:=Yy (r:=r) hz
 refine ⟨(Dc s),by
  rfl,by
  show hasRow [.int,.int,.int,.int,.sl 23 [.int,.int],.sl 24 [.sl 23 [.int,.int]],.sl 23 [.int,.int]] (Dc s)/\AE (Dc s)<=1048576
  exact ⟨hs,gs⟩,?_⟩
 refine ⟨r,by
  rfl,by
  try dsimp only [BK]
  exact ⟨hr,gr⟩,?_⟩
 refine ⟨(s,r),by
  rfl,by
  show Ct s/\CG r
  exact ⟨hz,hsh⟩,?_⟩
 refine ⟨(Dc s),by
  rfl,by
  show hasRow [.int,.int,.int,.int,.sl 23 [.int,.int],.sl 24 [.sl 23 [.int,.int]],.sl 23 [.int,.int]] (Dc s)/\AE (Dc s)<=1048576
  exact ⟨hs,gs⟩,?_⟩
 refine ⟨r,by
  rfl,by
  try dsimp only [BK]
  exact ⟨hr,gr⟩,?_⟩
 refine ⟨(s,r),by
  rfl,by
  show Ct s/\CG r
  exact ⟨hz,hsh⟩,?_⟩
 refine ⟨tpR s r,by
  rfl,by
  trivial,?_⟩
 refine ⟨λ c32=>?_,λ c32=>?_⟩
 ·try simp only [nrm] at c32
  first|rfl|contradiction|(exfalso;omega)|simp_all
 try simp only [nrm] at c32
 refine ⟨(Dc s),by
  rfl,by
  show hasRow [.int,.int,.int,.int,.sl 23 [.int,.int],.sl 24 [.sl 23 [.int,.int]],.sl 23 [.int,.int]] (Dc s)/\AE (Dc s)<=1048576
  exact ⟨hs,gs⟩,?_⟩
 refine ⟨(Dc s),by
  rfl,by
  trivial,?_⟩
 refine ⟨λ c40=>?_,λ c40=>?_⟩
 ·try simp only [nrm] at c40
  first|rfl|contradiction|(exfalso;omega)|simp_all
 try simp only [nrm] at c40
 refine ⟨r,by
  rfl,by
  try dsimp only [BK]
  exact ⟨hr,gr⟩,?_⟩
 refine ⟨r,by
  rfl,by
  try dsimp only [Eu]
  trivial,?_⟩
 refine ⟨λ c48=>?_,λ c48=>?_⟩
 ·try simp only [nrm] at c48
  first|rfl|contradiction|(exfalso;omega)|simp_all
 try simp only [nrm] at c48
 refine ⟨(s,(1:Int)),by
  rfl,by
  try dsimp only [DT]
  exact ⟨Em (by rfl) hsc.2.2.2.2.1,Em (by rfl) hsc.2.2.2.2.2.1,Em (by rfl) hsc.2.2.2.2.2.2,by omega,by omega⟩,?_⟩
 refine ⟨(r,((1:Int)+(AA (AJ s.robot):Int)+(AA (Aa s.obst):Int)+(AA (AJ s.tables):Int))),by
  rfl,by
  try dsimp only [DX]
  exact ⟨Em (by rfl) hsl.2.2.2.2.2.2.1,Em (by rfl) hsl.2.2.2.2.2.2.2.1,Em (by rfl) hsl.2.2.2.2.2.2.2.2.1,Em (by rfl) hsl.2.2.2.2.2.2.2.2.2.1,Em (by rfl) hsl.2.2.2.2.2.2.2.2.2.2,by omega,by omega⟩,?_⟩
 refine And.symm ⟨λ c56=>?_,λ c56=>?_⟩
 ·try dsimp only at c56
  try simp only [nrm] at c56
  first|rfl|contradiction|(exfalso;omega)|simp_all
 try dsimp only at c56
 try simp only [nrm] at c56
 refine ⟨tpR s r,by
  rfl,by
  trivial,?_⟩
 refine ⟨λ c60=>?_,λ c60=>?_⟩
 ·try simp only [nrm] at c60
  first|rfl|contradiction|(exfalso;omega)|simp_all
 try simp only [nrm] at c60
 refine ⟨(tpR s r,(1:Int)),by
  rfl,by
  show Dat.has (.sl 3 [.int]) (.sl (tpR s r))/\0<=(1:Int)/\(1:Int)+(AA (tpR s r):Int)<=4611686018427387904
  exact ⟨hoh,by omega,by omega⟩,?_⟩
 refine ⟨((tpR s r),(1:Int)),by
  rfl,by
  show Dat.has (.sl 3 [.int]) (.sl (tpR s r))/\0<=(1:Int)/\(1:Int)+(AA (tpR s r):Int)<=4611686018427387904
  exact ⟨hoh,by omega,by omega⟩,?_⟩
 refine ⟨λ c68=>?_,λ c68=>?_⟩
 ·try simp only [nrm] at c68
  first|rfl|contradiction|(exfalso;omega)|simp_all
 try simp only [nrm] at c68
 refine ⟨λ c70=>?_,λ c70=>?_⟩
 ·try simp only [nrm] at c70
  first|rfl|contradiction|(exfalso;omega)|simp_all
 try simp only [nrm] at c70
 refine ⟨(Dc s),by
  rfl,by
  show hasRow [.int,.int,.int,.int,.sl 23 [.int,.int],.sl 24 [.sl 23 [.int,.int]],.sl 23 [.int,.int]] (Dc s)/\AE (Dc s)<=1048576
  exact ⟨hs,gs⟩,?_⟩
 refine ⟨r,by
  rfl,by
  try dsimp only [BK]
  exact ⟨hr,gr⟩,?_⟩
 refine ⟨(s,r),by
  rfl,by
  show Ct s/\CG r
  exact ⟨hz,hsh⟩,?_⟩
 refine ⟨tpR s r,by
  rfl,by
  trivial,?_⟩
 refine ⟨λ c84=>?_,λ c84=>?_⟩
 ·try simp only [nrm] at c84
  first|rfl|contradiction|(exfalso;omega)|simp_all
 try simp only [nrm] at c84
 refine ⟨((tpR s r),(1:Int)),by
  rfl,by
  show Dat.has (.sl 3 [.int]) (.sl (tpR s r))/\0<=(1:Int)/\(1:Int)+(AA (tpR s r):Int)<=4611686018427387904
  exact ⟨hoh,by omega,by omega⟩,?_⟩
 refine ⟨λ c89=>?_,λ c89=>?_⟩
 ·try simp only [nrm] at c89
  first|rfl|contradiction|(exfalso;omega)|simp_all
 try simp only [nrm] at c89
 refine ⟨λ c91=>?_,λ c91=>?_⟩
 ·try simp only [nrm] at c91
  first|rfl|contradiction|(exfalso;omega)|simp_all
 try simp only [nrm] at c91
 exact rfl
end Go.Proofs.YtmedodfenejimaaGreat
