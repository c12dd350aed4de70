import Derived.Test.YthoidhehmmcgnaaGreatSlRkB
import Derived.Test.YthoidhehmmcgnaaGreatSlExD
import Derived.Test.YthoidhehmmcgnaaGreatSlTyH
namespace Go.Proofs.YthoidhehmmcgnaaGreat
set_option maxRecDepth 100000
set_option linter.unusedVariables false
set_option linter.unusedSimpArgs false
open Go.RowKit
def Cw:Con:={ι:=(List (List Dat))×Int,pre:=λi=>Dat.has (.sl 3 [.int]) (.sl i.1)/\0<=i.2/\i.2<=1048576,args:=λi=>[.one (cS i.1),.one (cI i.2)],res:=λi=>⟨false,[none],[rcI (szR (i.1.length+Ac i.1) i.2)]⟩}
theorem O6:Cw.Ok Tryz.prog 26:=by
 refine fok (X:=⟨tt,[],[],12,[]⟩) mixed AF (CTok.nil _) Tryz.func26 (λ_=>[]) ?_;rintro⟨l,n⟩ a0;have a0:Dat.has (.sl 3 [.int]) (.sl l)/\0<=n/\n<=1048576:=a0;refine AG (q:=let Z2:=wR (n-(nI l.length));let Z1:=szR (l.length+Ac l) n;ifB ((decide (Z2<(0:Int)))) ((vI (-1:Int)=vI Z1)) ((vI Z2=vI Z1))) (by kernel_rfl) ?_;conv=>zeta
 delta ifB vI wR nI;obtain⟨hh,h0,h1⟩:=a0;have hz:=Jn (by decide) hh;simp only[Dat.has]at hh;obtain⟨hl,-⟩:=hh;have hw:IntKind.i64.wrap (n-(l.length:Int))=n-l.length:=AC (by omega) (by omega);refine⟨λc1=>?_,λc1=>?_⟩;simp only[nrm]at c1;refine AS ?_;try rw[hw]at *;grind[szR]
 simp only[nrm]at c1;refine AS ?_;try rw[hw]at *;grind[szR]
def HY:Con:={ι:=(List (List Dat))×Int,pre:=λi=>Dat.has (.sl 36 [.int,.int]) (.sl i.1)/\0<=i.2/\i.2<=1048576,args:=λi=>[.one (DC.sl 23 [.int,.int] i.1),.one (cI i.2)],res:=λi=>⟨false,[none],[rcI (szR (i.1.length+Ac i.1) i.2)]⟩}
theorem Wx:HY.Ok Tryz.prog 24:=by
 refine fok (X:=⟨tt,[],[],12,[]⟩) mixed AF (CTok.nil _) Tryz.func24 (λ_=>[]) ?_;rintro⟨l,n⟩ a0;have a0:Dat.has (.sl 36 [.int,.int]) (.sl l)/\0<=n/\n<=1048576:=a0;refine AG (q:=let Z2:=wR (n-(nI l.length));let Z1:=szR (l.length+Ac l) n;ifB ((decide (Z2<(0:Int)))) ((vI (-1:Int)=vI Z1)) ((vI Z2=vI Z1))) (by kernel_rfl) ?_;conv=>zeta
 delta ifB vI wR nI;obtain⟨hh,h0,h1⟩:=a0;have hz:=Jn (by decide) hh;simp only[Dat.has]at hh;obtain⟨hl,-⟩:=hh;have hw:IntKind.i64.wrap (n-(l.length:Int))=n-l.length:=AC (by omega) (by omega);refine⟨λc1=>?_,λc1=>?_⟩;simp only[nrm]at c1;refine AS ?_;try rw[hw]at *;grind[szR]
 simp only[nrm]at c1;refine AS ?_;try rw[hw]at *;grind[szR]
def Ev:Con:={ι:=BigD×Int,pre:=λi=>hasRow [.bool,.sl 3 [.int]] [.bool i.1.neg,.sl i.1.num]/\0<=i.2/\i.2<=1048576,args:=λi=>[DA.agg [cB i.1.neg,cS i.1.num],.one (cI i.2)],res:=λi=>⟨false,[none],[rcI (szR (Ah [.bool i.1.neg,.sl i.1.num]) i.2)]⟩}
theorem SQ:Ev.Ok Tryz.prog 25:=by
 refine fok (X:=⟨tt,[(26,Cw)],[],12,[]⟩) mixed AF (CTok.cons O6 (CTok.nil _)) Tryz.func25 (λ_=>[]) ?_;rintro⟨b,n⟩ a0;have a0:hasRow [.bool,.sl 3 [.int]] [.bool b.neg,.sl b.num]/\0<=n/\n<=1048576:=a0;refine AG (q:=let Z1:=szR (Ah [.bool b.neg,.sl b.num]) n;∃i1:(List (List Dat))×Int,let Z2:=szR (i1.1.length+Ac i1.1) i1.2;[DA.one (cS b.num),DA.one (cI n)]=Cw.args i1/\Cw.pre i1/\(ifB ((decide (Z2<(0:Int)))) ((vI (-1:Int)=vI Z1)) ((vI Z2=vI Z1)))) (by kernel_rfl) ?_;conv=>zeta
 delta ifB vI;obtain⟨hh,h0,h1⟩:=a0;simp only[hasRow]at hh
 refine⟨(b.num,n),by
  rfl,by
  refine⟨?_,?_,?_⟩ <;> first|(simp only[hasRow];simp only[hh,and_self];done)|exact hh.1|exact hh.2.1|exact hh.2.2.1|exact hh.2.2.2.1|exact hh.2.2.2.2.1|exact hh.2.2.2.2.2.1|exact hh.2.2.2.2.2.2.1|omega|(unfold szR;grind)|(simp[hh];done),?_⟩
 refine⟨λc4=>?_,λc4=>?_⟩
 ·simp only[nrm]at c4
  refine AS ?_;try simp only[Ah,Dat.sz,Nat.add_zero,Nat.zero_add]at *;all_goals grind[szR]
 simp only[nrm]at c4;refine AS ?_;try simp only[Ah,Dat.sz,Nat.add_zero,Nat.zero_add]at *;all_goals grind[szR]
def Dd:Con:={ι:=RatD×Int,pre:=λi=>hasRow [.bool,.sl 3 [.int],.sl 3 [.int]] [.bool i.1.neg,.sl i.1.num,.sl i.1.den]/\0<=i.2/\i.2<=1048576,args:=λi=>[DA.agg [cB i.1.neg,cS i.1.num,cS i.1.den],.one (cI i.2)],res:=λi=>⟨false,[none],[rcI (szR (Ah [.bool i.1.neg,.sl i.1.num,.sl i.1.den]) i.2)]⟩}
theorem ZG:Dd.Ok Tryz.prog 6:=by
 refine fok (X:=⟨tt,[(25,Ev),(26,Cw)],[],18,[]⟩) mixed AF (CTok.cons SQ (CTok.cons O6 (CTok.nil _))) Tryz.func6 (λ_=>[]) ?_;rintro⟨r,n⟩ a0;have a0:hasRow [.bool,.sl 3 [.int],.sl 3 [.int]] [.bool r.neg,.sl r.num,.sl r.den]/\0<=n/\n<=1048576:=a0;refine AG (q:=let Z1:=szR (Ah [.bool r.neg,.sl r.num,.sl r.den]) n;let Z4:=(vI (-1:Int)=vI Z1);∃i1:BigD×Int,let Z2:=szR (Ah [.bool i1.1.neg,.sl i1.1.num]) i1.2;[DA.agg [cB r.neg,cS r.num],DA.one (cI n)]=Ev.args i1/\Ev.pre i1/\(ifB ((decide (Z2<(0:Int)))) Z4 (∃i2:(List (List Dat))×Int,let Z3:=szR (i2.1.length+Ac i2.1) i2.2;[DA.one (cS r.den),DA.one (cI Z2)]=Cw.args i2/\Cw.pre i2/\(ifB ((decide (Z3<(0:Int)))) Z4 ((vI Z3=vI Z1)))))) (by kernel_rfl) ?_;conv=>zeta
 delta ifB vI;obtain⟨hh,h0,h1⟩:=a0;simp only[hasRow]at hh
 refine⟨(BigD.mk r.neg r.num,n),by
  rfl,by
  refine⟨?_,?_,?_⟩ <;> first|(simp only[hasRow];simp only[hh,and_self];done)|exact hh.1|exact hh.2.1|exact hh.2.2.1|exact hh.2.2.2.1|exact hh.2.2.2.2.1|exact hh.2.2.2.2.2.1|exact hh.2.2.2.2.2.2.1|omega|(unfold szR;grind)|(simp[hh];done),?_⟩
 refine⟨λc4=>?_,λc4=>?_⟩
 ·simp only[nrm]at c4
  refine AS ?_;try simp only[Ah,Dat.sz,Nat.add_zero,Nat.zero_add]at *;all_goals grind[szR]
 simp only[nrm]at c4
 refine⟨(r.den,(szR (Ah [.bool (BigD.mk r.neg r.num).neg,.sl (BigD.mk r.neg r.num).num]) n)),by
  rfl,by
  try dsimp only[Cw]
  refine⟨?_,?_,?_⟩ <;> first|(simp only[hasRow];simp only[hh,and_self];done)|exact hh.1|exact hh.2.1|exact hh.2.2.1|exact hh.2.2.2.1|exact hh.2.2.2.2.1|exact hh.2.2.2.2.2.1|exact hh.2.2.2.2.2.2.1|omega|(unfold szR;grind)|(simp[hh];done),?_⟩
 refine⟨λc9=>?_,λc9=>?_⟩
 ·simp only[nrm]at c9
  refine AS ?_;try simp only[Ah,Dat.sz,Nat.add_zero,Nat.zero_add]at *;all_goals grind[szR]
 simp only[nrm]at c9;refine AS ?_;try simp only[Ah,Dat.sz,Nat.add_zero,Nat.zero_add]at *;all_goals grind[szR]
def BI:Con:={ι:=RatD,pre:=λi=>True,args:=λi=>[DA.agg [cB i.neg,cS i.num,cS i.den],DA.agg [cB i.neg,cS i.num,cS i.den]],res:=λi=>⟨false,[none],[rcB true]⟩}
theorem SU:BI.Ok Tryz.prog 14:=ABF [.bool,.sl 3 [.int],.sl 3 [.int]] ⟨_,Tryz.func14,by decide,rfl⟩ (λ_=>rfl) (λ_=>rfl) (λds vs us w=>AAX ds vs us w)
def BK:Con:={ι:=RatD,pre:=λi=>Ah [.bool i.neg,.sl i.num,.sl i.den]<=1048576,args:=λi=>[DA.agg [cB i.neg,cS i.num,cS i.den]],res:=λi=>⟨false,[some 3],[rcB i.neg,.own 3 [.int] i.num,.own 3 [.int] i.den]⟩}
theorem ZH:BK.Ok Tryz.prog 10:=Xr (out:=λr=>[.im (.bool r.neg),.sl 3 [.int] r.num,.sl 3 [.int] r.den]) [.bool,.sl 3 [.int],.sl 3 [.int]] ⟨_,Tryz.func10,by decide,rfl⟩ (λ_=>rfl) (λ_=>rfl) (λ_=>rfl) (λ_=>rfl) (λ_=>rfl) (λ_=>rfl) (λ_=>rfl) (λ_=>Nat.le_of_ble_eq_true rfl) (λ_ h=>h) (λds h vs w=>AAY ds h vs w)
def Fy:Con:={ι:=(List (List Dat)),pre:=λi=>True,args:=λi=>[.one (DC.sl 66 [.sl 36 [.int,.int]] i),.one (DC.sl 66 [.sl 36 [.int,.int]] i)],res:=λi=>⟨false,[none],[rcB true]⟩}
theorem UG:Fy.Ok Tryz.prog 13:=ABG (.sl 66 [.sl 36 [.int,.int]]) ⟨_,Tryz.func13,by decide,rfl⟩ (λ_=>rfl) (λ_=>rfl) (λd v u w h h'=>by obtain⟨l,_,_,rfl,_⟩:=Rd.sl_inv h;exact Wu l v u w h h')
def Bv:Con:={ι:=(List (List Dat)),pre:=λi=>i.length+Ac i<=1048576,args:=λi=>[.one (DC.sl 59 [.sl 23 [.int,.int]] i)],res:=λi=>⟨false,[none],[.own 66 [.sl 36 [.int,.int]] i]⟩}
theorem UH:Bv.Ok Tryz.prog 9:=ABH 66 [.sl 36 [.int,.int]] ⟨_,Tryz.func9,by decide,rfl⟩ (λ_=>rfl) (λ_=>rfl) (λ_=>rfl) (λ_ h=>h) (λls h v w=>Ww ls h v w)
def FD:Con:={ι:=(Int×Int),pre:=λi=>Ah [.int i.1,.int i.2]<=1048576,args:=λi=>[DA.agg [cI i.1,cI i.2]],res:=λi=>⟨false,[some 2],[rcI i.1,rcI i.2]⟩}
theorem ZI:FD.Ok Tryz.prog 30:=Xr (out:=λp=>[.im (.int .i64 p.1),.im (.int .i64 p.2)]) [.int,.int] ⟨_,Tryz.func30,by decide,rfl⟩ (λ_=>rfl) (λ_=>rfl) (λ_=>rfl) (λ_=>rfl) (λ_=>rfl) (λ_=>rfl) (λ_=>rfl) (λ_=>Nat.le_of_ble_eq_true rfl) (λ_ h=>h) (λds h vs w=>VT ds h vs w)
theorem Ps{e:Nat}{ts:List Ty}{r:List Dat}(h0:hasRow [.sl e ts] r):[Dat.sl ((r.getD 0 (.int 0)).r)]=r:=by obtain⟨_,_,rfl,q0,h1⟩:=h0.cons;obtain⟨_,rfl⟩:=Dat.has_sl q0;obtain rfl:=h1.nil;rfl
def Fz:Con:={ι:=(List (List Dat))×Int,pre:=λi=>Dat.has (.sl 59 [.sl 23 [.int,.int]]) (.sl i.1)/\0<=i.2/\i.2<=1048576,args:=λi=>[.one (DC.sl 59 [.sl 23 [.int,.int]] i.1),.one (cI i.2)],res:=λi=>⟨false,[none],[rcI (szR (i.1.length+Ac i.1) i.2)]⟩}
theorem UI:Fz.Ok Tryz.prog 5:=by
 refine fok (X:=⟨tt,[(24,HY)],[],27,[]⟩) mixed AF (CTok.cons Wx (CTok.nil _)) Tryz.func5 (λ(i:(List (List Dat))×Int)=>[(5,.mk 2 (Nat×Int) (λx1=>{tm:=[(0,tX 1),(4,tI (0:Int)),(5,tI (x1.1:Int)),(1,tI x1.2)],en:=[(1,.view 59 [.sl 23 [.int,.int]] i.1 [])]}) (λx1=>x1.1<=i.1.length/\0<=x1.2/\x1.2+i.1.length+Ac (i.1.take x1.1)=i.2) (λx1=>i.1.length-x1.1) (λ_=>[]))]) ?_;rintro⟨l,n⟩ a0;have a0:Dat.has (.sl 59 [.sl 23 [.int,.int]]) (.sl l)/\0<=n/\n<=1048576:=a0;refine AG (q:=let Z5:=wR (n-(nI l.length));let Z1:=szR (l.length+Ac l) n;let Z4:=(vI (-1:Int)=vI Z1);ifB ((decide (Z5<(0:Int)))) Z4 ((∃x1:Nat×Int,(x1.1<=l.length/\0<=x1.2/\x1.2+l.length+Ac (l.take x1.1)=n)/\((rf (vI (0:Int)))/\(vI (0:Int)=vI (x1.1:Int))/\(vI Z5=vI x1.2)/\(rf (l))))/\∀x1:Nat×Int,let Z3:=(x1.1:Int);(x1.1<=l.length/\0<=x1.2/\x1.2+l.length+Ac (l.take x1.1)=n)->(ifB ((decide (Z3<(nI l.length)))) ((0<=Z3/\Z3<(l.length:Int))/\((x1.1<l.length)/\(∃i1:(List (List Dat))×Int,let Z2:=szR (i1.1.length+Ac i1.1) i1.2;[DA.one (DC.sl 23 [.int,.int] ((((l.getD x1.1 []).getD 0 (.int 0))).r)),DA.one (cI x1.2)]=HY.args i1/\HY.pre i1/\(ifB ((decide (Z2<(0:Int)))) Z4 (∃y2:Nat×Int,(y2.1<=l.length/\0<=y2.2/\y2.2+l.length+Ac (l.take y2.1)=n)/\(l.length-y2.1<l.length-x1.1)/\((rf (vI (0:Int)))/\(vI (wR (Z3+(1:Int)))=vI (y2.1:Int))/\(vI Z2=vI y2.2)/\(rf (l)))))))) ((vI x1.2=vI Z1))))) (by kernel_rfl) ?_;conv=>zeta
 delta ifB vI wR nI;obtain⟨hh,h0,h1⟩:=a0;have hh2:=Dr hh;have hl:=Gc hh;have hw:IntKind.i64.wrap (n-(l.length:Int))=n-l.length:=AC (by omega) (by omega);refine⟨λc1=>?_,λc1=>?_⟩;simp only[nrm]at c1;refine AS ?_;try rw[hw]at *;grind[szR]
 simp only[nrm]at c1;refine⟨⟨(0,n-l.length),by rw[hw]at c1;simp[Ac];omega,?_⟩,?_⟩;refine⟨rfl,rfl,?_,rfl⟩;exact AS hw;rintro⟨k,m⟩ a1;have a1:k<=l.length/\0<=m/\m+l.length+Ac (l.take k)=n:=a1;have a5:=Hj l k;refine And.symm ⟨λc9=>?_,λc9=>?_⟩;simp only[nrm]at c9;obtain rfl:k=l.length:=by omega
 rw[List.take_length]at a1;refine AS ?_;try rw[hw]at *;grind[szR]
 simp only[nrm]at c9;refine ao (by omega) λo10=>?_;refine ao (by omega) λo11=>?_
 refine⟨(((l.getD k []).getD 0 (.int 0)).r,m),by
  rfl,by
  refine⟨?_,by omega,by omega⟩;have:=hh2 k (by omega);rw[← Ps this]at this;exact this.1,?_⟩
 have a5:=Hj l (k+1);have a2:=K9 l k (by omega);have a3:=hh2 k (by omega);rw[← Ps a3]at a2;have a2:Ac (l.take (k+1))=Ac (l.take k)+((((l.getD k []).getD 0 (.int 0)).r).length+Ac (((l.getD k []).getD 0 (.int 0)).r)):=by first|exact a2|simpa only[Ah,Dat.sz,Nat.add_zero]using a2
 refine⟨λa4=>?_,λa4=>?_⟩;simp only[nrm]at a4;refine AS ?_;try rw[hw]at *;grind[szR]
 simp only[nrm]at a4
 refine⟨(k+1,szR ((((l.getD k []).getD 0 (.int 0)).r).length+Ac (((l.getD k []).getD 0 (.int 0)).r)) m),by
  unfold szR at *;grind,by
  omega,?_⟩
 refine⟨rfl,?_,rfl,rfl⟩;exact AS (AC (by omega) (by omega))
def Ha:Con:={ι:=(List Dat),pre:=λi=>True,args:=λi=>[w71 i,w71 i],res:=λi=>⟨false,[none],[rcB true]⟩}
theorem Wy:Ha.Ok Tryz.prog 38:=by
 refine fok (X:=⟨tt,[(14,BI)],[],41,[]⟩) mixed AF (CTok.cons SU (CTok.nil _)) Tryz.func38 (λ_=>[]) ?_;intro (r:List Dat) a0;have a0:True:=a0;refine AG (q:=let Z1:=(vB false=vB true);∃i1:RatD,[w30 r,w30 r]=BI.args i1/\BI.pre i1/\(ifB ((!true)) Z1 (∃i2:RatD,[dA r 3 4 5,dA r 3 4 5]=BI.args i2/\BI.pre i2/\(ifB ((!true)) Z1 (∃i3:RatD,[dA r 6 7 8,dA r 6 7 8]=BI.args i3/\BI.pre i3/\(ifB ((!true)) Z1 (∃i4:RatD,[dA r 9 10 11,dA r 9 10 11]=BI.args i4/\BI.pre i4/\(ifB ((!true)) Z1 (∃i5:RatD,[dA r 12 13 14,dA r 12 13 14]=BI.args i5/\BI.pre i5/\(ifB ((!true)) Z1 (∃i6:RatD,[dA r 15 16 17,dA r 15 16 17]=BI.args i6/\BI.pre i6/\(ifB ((!true)) Z1 ((vB true=vB true)))))))))))))) (by kernel_rfl) ?_;conv=>zeta
 delta dA w30 ifB vB
 refine⟨(RatD.mk ((r.getD 0 (.int 0)).b) ((r.getD 1 (.int 0)).r) ((r.getD 2 (.int 0)).r)),by
  rfl,by
  trivial,?_⟩
 refine⟨λc4=>?_,λc4=>?_⟩;simp only[nrm]at c4;exfalso;simp_all;simp only[nrm]at c4
 refine⟨(RatD.mk ((r.getD 3 (.int 0)).b) ((r.getD 4 (.int 0)).r) ((r.getD 5 (.int 0)).r)),by
  rfl,by
  trivial,?_⟩
 refine⟨λc9=>?_,λc9=>?_⟩;simp only[nrm]at c9;exfalso;simp_all;simp only[nrm]at c9
 refine⟨(RatD.mk ((r.getD 6 (.int 0)).b) ((r.getD 7 (.int 0)).r) ((r.getD 8 (.int 0)).r)),by
  rfl,by
  trivial,?_⟩
 refine⟨λa1=>?_,λa1=>?_⟩;simp only[nrm]at a1;exfalso;simp_all;simp only[nrm]at a1
 refine⟨(RatD.mk ((r.getD 9 (.int 0)).b) ((r.getD 10 (.int 0)).r) ((r.getD 11 (.int 0)).r)),by
  rfl,by
  trivial,?_⟩
 refine⟨λa2=>?_,λa2=>?_⟩;simp only[nrm]at a2;exfalso;simp_all;simp only[nrm]at a2
 refine⟨(RatD.mk ((r.getD 12 (.int 0)).b) ((r.getD 13 (.int 0)).r) ((r.getD 14 (.int 0)).r)),by
  rfl,by
  trivial,?_⟩
 refine⟨λa3=>?_,λa3=>?_⟩;simp only[nrm]at a3;exfalso;simp_all;simp only[nrm]at a3
 refine⟨(RatD.mk ((r.getD 15 (.int 0)).b) ((r.getD 16 (.int 0)).r) ((r.getD 17 (.int 0)).r)),by
  rfl,by
  trivial,?_⟩
 refine⟨λa4=>?_,λa4=>?_⟩;simp only[nrm]at a4;exfalso;simp_all;simp only[nrm]at a4;exact rfl
def Bm:Con:={ι:=(List (List Dat)),pre:=λi=>i.length<=9223372036854775807,args:=λi=>[.one (DC.sl 72 z71 i),.one (DC.sl 72 z71 i)],res:=λi=>⟨false,[none],[rcB true]⟩}
theorem UJ:Bm.Ok Tryz.prog 12:=by
 refine fok (X:=⟨tt,[(38,Ha)],[],27,[]⟩) mixed AF (CTok.cons Wy (CTok.nil _)) Tryz.func12 (λ(i:(List (List Dat)))=>[(4,.mk 3 (Nat) (λx1=>{tm:=[(0,tX 1),(1,tX 2),(5,tI (nI x1))],en:=[(1,.view 72 z71 i []),(2,.view 72 z71 i [])]}) (λx1=>x1<=i.length) (λx1=>i.length-x1) (λ_=>[]))]) ?_;intro (l:List (List Dat)) a0;have a0:l.length<=9223372036854775807:=a0;refine AG (q:=ifB (((nI l.length) != (nI l.length))) ((vB false=vB true)) ((∃x1:Nat,(x1<=l.length)/\((vI (0:Int)=vI (nI x1))/\(rf (l))/\(rf (l))))/\∀x1:Nat,let Z1:=l.getD x1 [];let a3:=((Z1.getD 9 (.int 0))).b;let a4:=((Z1.getD 8 (.int 0))).r;let a5:=((Z1.getD 7 (.int 0))).r;let a6:=((Z1.getD 6 (.int 0))).b;let a7:=((Z1.getD 5 (.int 0))).r;let a8:=((Z1.getD 4 (.int 0))).r;let a9:=((Z1.getD 3 (.int 0))).b;let aA:=((Z1.getD 2 (.int 0))).r;let aB:=((Z1.getD 1 (.int 0))).r;let aC:=((Z1.getD 0 (.int 0))).b;let Z9:=((Z1.getD 17 (.int 0))).r;let Z8:=((Z1.getD 16 (.int 0))).r;let Z7:=((Z1.getD 15 (.int 0))).b;let Z6:=((Z1.getD 14 (.int 0))).r;let Z5:=((Z1.getD 13 (.int 0))).r;let Z4:=((Z1.getD 12 (.int 0))).b;let Z3:=((Z1.getD 11 (.int 0))).r;let Z2:=((Z1.getD 10 (.int 0))).r;(x1<=l.length)->(ifB ((decide ((nI x1)<(nI l.length)))) ((0<=(nI x1)/\(nI x1)<(l.length:Int))/\((x1<l.length)/\((0<=(nI x1)/\(nI x1)<(l.length:Int))/\((x1<l.length)/\(∃i1:(List Dat),[DA.agg [cB aC,cS aB,cS aA,cB a9,cS a8,cS a7,cB a6,cS a5,cS a4,cB a3,cS Z2,cS Z3,cB Z4,cS Z5,cS Z6,cB Z7,cS Z8,cS Z9],DA.agg [cB aC,cS aB,cS aA,cB a9,cS a8,cS a7,cB a6,cS a5,cS a4,cB a3,cS Z2,cS Z3,cB Z4,cS Z5,cS Z6,cB Z7,cS Z8,cS Z9]]=Ha.args i1/\Ha.pre i1/\(ifB ((!true)) ((vB false=vB true)) (∃y2:Nat,(y2<=l.length)/\(l.length-y2<l.length-x1)/\((vI (wR ((nI x1)+(1:Int)))=vI (nI y2))/\(rf (l))/\(rf (l)))))))))) ((vB true=vB true))))) (by kernel_rfl) ?_;conv=>zeta
 delta ifB vB vI wR nI;refine⟨λc1=>?_,λc1=>?_⟩;simp only[nrm]at c1;exfalso;simp_all;simp only[nrm]at c1;refine⟨⟨0,by omega,?_⟩,?_⟩;refine⟨?_,rfl,rfl⟩;rfl;intro (k:Nat) a1;have a1:k<=l.length:=a1;refine And.symm ⟨λc8=>?_,λc8=>?_⟩;simp only[nrm]at c8;exact rfl;simp only[nrm]at c8;refine ao (by omega) λo9=>?_;refine ao (by omega) λo10=>?_;refine ao (by omega) λo11=>?_;refine ao (by omega) λo12=>?_
 refine⟨(l.getD k []),by
  rfl,by
  trivial,?_⟩
 refine⟨λa2=>?_,λa2=>?_⟩;simp only[nrm]at a2;exfalso;simp_all;simp only[nrm]at a2
 refine⟨k+1,by
  trivial,by
  omega,?_⟩
 refine⟨?_,rfl,rfl⟩;exact AS (AC (by omega) (by omega))
theorem UK{r:List Dat}(h:hasRow [.int,.int,.int,.int] r):r=[.int (r.getD 0 (.int 0)).n,.int (r.getD 1 (.int 0)).n,.int (r.getD 2 (.int 0)).n,.int (r.getD 3 (.int 0)).n]:=by obtain⟨_,_,rfl,q0,h0⟩:=h.cons;obtain⟨_,rfl⟩:=Dat.has_int q0;obtain⟨_,_,rfl,q1,h1⟩:=h0.cons;obtain⟨_,rfl⟩:=Dat.has_int q1;obtain⟨_,_,rfl,q2,h2⟩:=h1.cons;obtain⟨_,rfl⟩:=Dat.has_int q2;obtain⟨_,_,rfl,q3,h3⟩:=h2.cons;obtain⟨_,rfl⟩:=Dat.has_int q3;obtain rfl:=hasRow.nil h3;rfl
theorem ABs{r:List Dat}(h:hasRow [.int,.int,.int,.int] r):Ah r=0:=by rw[UK h];simp only[Ah,Dat.sz]
theorem ABt{r:List Dat}(h:hasRow [.int,.int,.int,.int] r):Dat.has .int (.int (r.getD 0 (.int 0)).n)/\Dat.has .int (.int (r.getD 1 (.int 0)).n)/\Dat.has .int (.int (r.getD 2 (.int 0)).n)/\Dat.has .int (.int (r.getD 3 (.int 0)).n):=by rw[UK h]at h;simpa only[hasRow,and_true]using h
def De:Con:={ι:=(List Dat),pre:=λi=>hasRow [.int,.int,.int,.int] i/\Ah i<=1048576,args:=λi=>[w24 i],res:=λi=>⟨false,[some 4],[rcI ((i.getD 0 (.int 0)).n),rcI ((i.getD 1 (.int 0)).n),rcI ((i.getD 2 (.int 0)).n),rcI ((i.getD 3 (.int 0)).n)]⟩}
theorem ZJ:De.Ok Tryz.prog 8:=by
 refine fok (X:=⟨tt,[(30,FD)],[],13,[]⟩) mixed AF (CTok.cons ZI (CTok.nil _)) Tryz.func8 (λ_=>[]) ?_;intro (r:List Dat) a0;have a0:hasRow [.int,.int,.int,.int] r/\Ah r<=1048576:=a0;refine AG (q:=∃i1:(Int×Int),[DA.agg [cI ((r.getD 0 (.int 0)).n),cI ((r.getD 1 (.int 0)).n)]]=FD.args i1/\FD.pre i1/\(∃i2:(Int×Int),[DA.agg [cI ((r.getD 2 (.int 0)).n),cI ((r.getD 3 (.int 0)).n)]]=FD.args i2/\FD.pre i2/\((vI i1.1=vI ((r.getD 0 (.int 0)).n))/\(vI i1.2=vI ((r.getD 1 (.int 0)).n))/\(vI i2.1=vI ((r.getD 2 (.int 0)).n))/\(vI i2.2=vI ((r.getD 3 (.int 0)).n))))) (by kernel_rfl) ?_;delta vI;have hz:=ABs a0.1;have hs:=a0.2;have hp:=ABt a0.1;obtain⟨p0,p1,p2,p3⟩:=hp
 refine⟨(((r.getD 0 (.int 0)).n),((r.getD 1 (.int 0)).n)),by
  rfl,by
  show Ah [.int (((r.getD 0 (.int 0)).n),((r.getD 1 (.int 0)).n)).1,.int (((r.getD 0 (.int 0)).n),((r.getD 1 (.int 0)).n)).2]<=1048576;simp[Ah,Dat.sz];done,?_⟩
 refine⟨(((r.getD 2 (.int 0)).n),((r.getD 3 (.int 0)).n)),by
  rfl,by
  show Ah [.int (((r.getD 2 (.int 0)).n),((r.getD 3 (.int 0)).n)).1,.int (((r.getD 2 (.int 0)).n),((r.getD 3 (.int 0)).n)).2]<=1048576;simp[Ah,Dat.sz];done,?_⟩
 refine⟨?_,?_,?_,?_⟩;·rfl
 ·rfl
 ·rfl
 rfl
end Go.Proofs.YthoidhehmmcgnaaGreat
