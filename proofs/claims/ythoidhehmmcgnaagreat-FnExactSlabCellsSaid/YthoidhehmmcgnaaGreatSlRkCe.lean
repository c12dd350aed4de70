import Derived.Test.YthoidhehmmcgnaaGreatSlRkBk
namespace Go.Proofs.YthoidhehmmcgnaaGreat
set_option maxRecDepth 100000
set_option linter.unusedVariables false
set_option linter.unusedSimpArgs false
open Go.RowKit
structure Cel where
 a:Fr
 b:Fr
 x:Brd
 y:Brd
abbrev Yt(c:Cel):List Dat:=frD c.a++(frD c.b++(brD c.x++brD c.y))
def Aw(l:List Cel):List (List Dat):=l.map Yt
theorem EN(l:List Cel):(Aw l).length=l.length:=List.length_map ..
theorem CR(a b:List Cel):Aw (a++b)=Aw a++Aw b:=List.map_append ..
def ID(lo hi:Fr)(rf f t:Brd):List Cel:=if abv t f=true/\abv rf f=true then[⟨lo,hi,f,if abv t rf=true then rf else t⟩]else[]
def A4(lo hi:Fr)(fl rf:Brd)(bl:List Blk):Nat->Brd×List Cel
 | 0=>(fl,[])|k+1=>((if abv (bl.getD k noK).hi (A4 lo hi fl rf bl k).1=true then(bl.getD k noK).hi else(A4 lo hi fl rf bl k).1),(A4 lo hi fl rf bl k).2++ID lo hi rf (A4 lo hi fl rf bl k).1 (bl.getD k noK).lo)
def Nc(lo hi:Fr)(fl rf:Brd)(bl:List Blk):List Cel:=(A4 lo hi fl rf bl bl.length).2++ID lo hi rf (A4 lo hi fl rf bl bl.length).1 rf
theorem J9(lo hi:Fr)(fl rf:Brd)(bl:List Blk):∀k,(A4 lo hi fl rf bl k).2.length<=k
 | 0=>Nat.le_refl _|k+1=>by have ih:=J9 lo hi fl rf bl k;show(_++ID _ _ _ _ _).length<=_;rw[List.length_append];unfold ID;split <;> simp <;> omega
def CW:Con:={ι:=Fr×Fr×Brd×Brd,pre:=λi=>True,args:=λi=>[dF i.1,dF i.2.1,DA.agg [cB (decide (i.2.2.1.l.z<0)),cS (L i.2.2.1.l.z.natAbs),cS (L i.2.2.1.l.d),cB (decide (i.2.2.1.r.z<0)),cS (L i.2.2.1.r.z.natAbs),cS (L i.2.2.1.r.d),cB (decide ((i.2.2.1.lev).z<0)),cS (L (i.2.2.1.lev).z.natAbs),cS (L (i.2.2.1.lev).d)],DA.agg [cB (decide (i.2.2.2.l.z<0)),cS (L i.2.2.2.l.z.natAbs),cS (L i.2.2.2.l.d),cB (decide (i.2.2.2.r.z<0)),cS (L i.2.2.2.r.z.natAbs),cS (L i.2.2.2.r.d),cB (decide ((i.2.2.2.lev).z<0)),cS (L (i.2.2.2.lev).z.natAbs),cS (L (i.2.2.2.lev).d)]],res:=λi=>⟨false,[some 18],[rcB (decide (i.1.z<0)),.own 3 [.int] (L i.1.z.natAbs),.own 3 [.int] (L i.1.d),rcB (decide (i.2.1.z<0)),.own 3 [.int] (L i.2.1.z.natAbs),.own 3 [.int] (L i.2.1.d),rcB (decide (i.2.2.1.l.z<0)),.own 3 [.int] (L i.2.2.1.l.z.natAbs),.own 3 [.int] (L i.2.2.1.l.d),rcB (decide (i.2.2.1.r.z<0)),.own 3 [.int] (L i.2.2.1.r.z.natAbs),.own 3 [.int] (L i.2.2.1.r.d),rcB (decide (i.2.2.2.l.z<0)),.own 3 [.int] (L i.2.2.2.l.z.natAbs),.own 3 [.int] (L i.2.2.2.l.d),rcB (decide (i.2.2.2.r.z<0)),.own 3 [.int] (L i.2.2.2.r.z.natAbs),.own 3 [.int] (L i.2.2.2.r.d)]⟩}
theorem T4:CW.Ok Tryz.prog 61:=by
 refine fok (X:=⟨tt,[(76,Aa)],[],26,[]⟩) mixed AF (CTok.cons JH (CTok.nil _)) Tryz.func61 (λ_=>[]) ?_;rintro⟨a,b,x,y⟩ a0;have a0:True:=a0;refine AG (q:=let Z1:=List (List Dat);∃i1:Bool×Z1×Z1,[dF a]=Aa.args i1/\Aa.pre i1/\(∃i2:Bool×Z1×Z1,[dF b]=Aa.args i2/\Aa.pre i2/\(∃i3:Bool×Z1×Z1,[dF x.l]=Aa.args i3/\Aa.pre i3/\(∃i4:Bool×Z1×Z1,[dF x.r]=Aa.args i4/\Aa.pre i4/\(∃i5:Bool×Z1×Z1,[dF y.l]=Aa.args i5/\Aa.pre i5/\(∃i6:Bool×Z1×Z1,[dF y.r]=Aa.args i6/\Aa.pre i6/\((vB i1.1=vB (decide (a.z<0)))/\(i1.2.1=L a.z.natAbs)/\(i1.2.2=L a.d)/\(vB i2.1=vB (decide (b.z<0)))/\(i2.2.1=L b.z.natAbs)/\(i2.2.2=L b.d)/\(vB i3.1=vB (decide (x.l.z<0)))/\(i3.2.1=L x.l.z.natAbs)/\(i3.2.2=L x.l.d)/\(vB i4.1=vB (decide (x.r.z<0)))/\(i4.2.1=L x.r.z.natAbs)/\(i4.2.2=L x.r.d)/\(vB i5.1=vB (decide (y.l.z<0)))/\(i5.2.1=L y.l.z.natAbs)/\(i5.2.2=L y.l.d)/\(vB i6.1=vB (decide (y.r.z<0)))/\(i6.2.1=L y.r.z.natAbs)/\(i6.2.2=L y.r.d)))))))) (by kernel_rfl) ?_;conv=>zeta
 delta vB;have q1:=Ap a;have q2:=Ap b;have q3:=Ap x.l;have q4:=Ap x.r;have q5:=Ap y.l;have q6:=Ap y.r
 refine⟨(decide (a.z<0),(L a.z.natAbs),(L a.d)),by
  rfl,by
  trivial,?_⟩
 refine⟨(decide (b.z<0),(L b.z.natAbs),(L b.d)),by
  rfl,by
  trivial,?_⟩
 refine⟨(decide (x.l.z<0),(L x.l.z.natAbs),(L x.l.d)),by
  rfl,by
  trivial,?_⟩
 refine⟨(decide (x.r.z<0),(L x.r.z.natAbs),(L x.r.d)),by
  rfl,by
  trivial,?_⟩
 refine⟨(decide (y.l.z<0),(L y.l.z.natAbs),(L y.l.d)),by
  rfl,by
  trivial,?_⟩
 refine⟨(decide (y.r.z<0),(L y.r.z.natAbs),(L y.r.d)),by
  rfl,by
  trivial,?_⟩
 exact⟨rfl,rfl,rfl,rfl,rfl,rfl,rfl,rfl,rfl,rfl,rfl,rfl,rfl,rfl,rfl,rfl,rfl,rfl⟩
section
variable {lo hi : Fr} {rf f t fl : Brd} {bl : List Blk} {k : Nat}
theorem SC(h:abv t f=false):ID lo hi rf f t=[]:=by unfold ID;rw[if_neg (by rw[h];simp)]
theorem Yu(h:abv rf f=false):ID lo hi rf f t=[]:=by unfold ID;rw[if_neg (by rw[h];simp)]
theorem SD(h1:abv t f=true)(h2:abv rf f=true)(h3:abv t rf=true):ID lo hi rf f t=[⟨lo,hi,f,rf⟩]:=by unfold ID;rw[if_pos ⟨h1,h2⟩,if_pos h3]
theorem SE(h1:abv t f=true)(h2:abv rf f=true)(h3:abv t rf=false):ID lo hi rf f t=[⟨lo,hi,f,t⟩]:=by unfold ID;rw[if_pos ⟨h1,h2⟩,if_neg (by rw[h3];simp)]
theorem QD{l:List Cel}(h:ID lo hi rf (A4 lo hi fl rf bl k).1 (bl.getD k noK).lo=l):(A4 lo hi fl rf bl (k+1)).2=(A4 lo hi fl rf bl k).2++l:=by rw[← h];rfl
theorem QE(h:abv (bl.getD k noK).hi (A4 lo hi fl rf bl k).1=true):(A4 lo hi fl rf bl (k+1)).1=(bl.getD k noK).hi:=if_pos h
theorem QF(h:abv (bl.getD k noK).hi (A4 lo hi fl rf bl k).1=false):(A4 lo hi fl rf bl (k+1)).1=(A4 lo hi fl rf bl k).1:=if_neg (by rw[h];simp)
theorem T5{l:List Cel}(e:k=bl.length)(h:ID lo hi rf (A4 lo hi fl rf bl k).1 rf=l):Nc lo hi fl rf bl=(A4 lo hi fl rf bl k).2++l:=by rw[← h,e];rfl
end
def FY:Con:={ι:=Int×Int×Int×Int×(List (List V2))×Fr×Fr,pre:=λi=>(A3 i.2.2.2.2.1=true/\i.2.2.2.2.1.length<=1048576/\∀x ∈ bkT i.2.2.2.2.1 i.2.2.2.2.2.1 i.2.2.2.2.2.2 i.2.2.2.2.1.length,x.lo.lev.d≠0)/\(-9223372036854775808<=i.2.1/\i.2.1<=9223372036854775807)/\(-9223372036854775808<=i.2.2.2.1/\i.2.2.2.1<=9223372036854775807),args:=λi=>[DA.agg [cI i.1,cI i.2.1,cI i.2.2.1,cI i.2.2.2.1],.one (DC.sl 66 [.sl 36 [.int,.int]] (AP i.2.2.2.2.1)),dF i.2.2.2.2.2.1,dF i.2.2.2.2.2.2],res:=λi=>⟨false,[none],[.own 72 [.bool,.sl 3 [.int],.sl 3 [.int],.bool,.sl 3 [.int],.sl 3 [.int],.bool,.sl 3 [.int],.sl 3 [.int],.bool,.sl 3 [.int],.sl 3 [.int],.bool,.sl 3 [.int],.sl 3 [.int],.bool,.sl 3 [.int],.sl 3 [.int]] (Aw (Nc i.2.2.2.2.2.1 i.2.2.2.2.2.2 (AB i.2.1) (AB i.2.2.2.1) (bkS i.2.2.2.2.1 i.2.2.2.2.2.1 i.2.2.2.2.2.2)))]⟩}
set_option maxHeartbeats 1600000 in
theorem Wl:FY.Ok Tryz.prog 37:=by
 refine fok (X:=⟨tt,[(68,FB),(72,Fw),(70,Au),(71,AH)],[],51,[(69,⟨Tryz.f69.body.getD .skip,Tryz.f69.ntmps,Tryz.f69.results.toList⟩)]⟩) mixed AF (CTok.cons Yk (CTok.cons Tz (CTok.cons We (CTok.cons Og (CTok.nil _))))) (hil:=(InlOk.cons Tryz.func69 (by decide) rfl rfl rfl (InlOk.nil _))) Tryz.func37 (λ(i:Int×Int×Int×Int×(List (List V2))×Fr×Fr)=>let Z5:=i.2.2.2.2.2.2;let Z4:=i.2.2.2.2.2.1;let Z3:=AB i.2.2.2.1;let Z2:=bkS i.2.2.2.2.1 i.2.2.2.2.2.1 i.2.2.2.2.2.2;[(6,.mk 21 (Nat) (λx1=>let Z1:=A4 i.2.2.2.2.2.1 i.2.2.2.2.2.2 (AB i.2.1) Z3 Z2 x1;{tm:=[(4,tP 1 0),(6,tP 2 0),(7,tP 5 0),(9,tP 8 0),(10,tP 10 0),(11,.one (.one (.clo 69 [10,8,2,5]))),(12,tP 15 0),(28,tX 20),(29,tI (nI ((Bb Z2).length))),(30,tI (nI x1))],en:=[(1,.box [kI i.1,kI i.2.1,kI i.2.2.1,kI i.2.2.2.1]),(2,.box [kB (decide (Z4.z<0)),.ext 3,.ext 4]),(5,.box [kB (decide (Z5.z<0)),.ext 6,.ext 7]),(8,.box [.ext 9]),(10,.box [kB (decide ((Z3.l).z<0)),.ext 11,.ext 12,kB (decide ((Z3.r).z<0)),.ext 13,.ext 14]),(15,.box [kB (decide ((Z1.1.l).z<0)),.ext 16,.ext 17,kB (decide ((Z1.1.r).z<0)),.ext 18,.ext 19]),(3,eV (L Z4.z.natAbs)),(4,eV (L Z4.d)),(6,eV (L Z5.z.natAbs)),(7,eV (L Z5.d)),(9,.own 72 z71 (Aw Z1.2)),(11,.own 3 [.int] (L (Z3.l).z.natAbs)),(12,.own 3 [.int] (L (Z3.l).d)),(13,.own 3 [.int] (L (Z3.r).z.natAbs)),(14,.own 3 [.int] (L (Z3.r).d)),(16,.view 3 [.int] (L (Z1.1.l).z.natAbs) [20]),(17,.view 3 [.int] (L (Z1.1.l).d) [20]),(18,.view 3 [.int] (L (Z1.1.r).z.natAbs) [20]),(19,.view 3 [.int] (L (Z1.1.r).d) [20]),(20,.own 114 Xt (Bb Z2))]}) (λx1=>x1<=Z2.length) (λx1=>Z2.length-x1) (λ_=>[]))]) ?_;rintro⟨lx,ly,hx,hy,ls,lo,hi⟩ a6;have a6:(A3 ls=true/\ls.length<=1048576/\∀x ∈ bkT ls lo hi ls.length,x.lo.lev.d≠0)/\(-9223372036854775808<=ly/\ly<=9223372036854775807)/\(-9223372036854775808<=hy/\hy<=9223372036854775807):=a6
 refine AG (q:=let aM:=L (hi).d;let aN:=L (lo).d;let aK:=List Dat;let aO:=L (hi).z.natAbs;let aP:=L (lo).z.natAbs;let aQ:=vB (decide ((hi).z<0));let aR:=vB (decide ((lo).z<0));let Z6:=AB ly;let Z5:=List aK;let Z4:=AB hy;let a0:=L (Z4.r).d;let a1:=L (Z4.l).d;let a2:=L (Z4.r).z.natAbs;let a3:=L (Z4.l).z.natAbs;let a4:=decide ((Z4.r).z<0);let Z9:=decide ((Z4.l).z<0);let Z3:=bkS ls lo hi;let c1:=Nc lo hi Z6 Z4 Z3;let a7:=Bb Z3;let aL:=nI (a7.length);∃i1:Int,let bV:=AB i1;[DA.one (cI hy)]=FB.args i1/\FB.pre i1/\(∃i2:Int,let bW:=AB i2;[DA.one (cI ly)]=FB.args i2/\FB.pre i2/\(∃i3:(List (List V2))×Fr×Fr,let cK:=bkS i3.1 i3.2.1 i3.2.2;[DA.one (DC.sl 66 [.sl 36 [.int,.int]] (AP ls)),dF lo,dF hi]=Fw.args i3/\Fw.pre i3/\((∃x1:Nat,let bL:=A4 lo hi Z6 Z4 Z3 x1;(x1<=Z3.length)/\((rf (69))/\(vI (nI ((Bb cK).length))=vI aL)/\(vI (0:Int)=vI (nI x1))/\(rf (vI lx))/\(rf (vI ly))/\(rf (vI hx))/\(rf (vI hy))/\(rf (vB (decide (lo.z<0))))/\(rf (vB (decide (hi.z<0))))/\(vB (decide (bV.l.z<0))=vB Z9)/\(vB (decide (bV.r.z<0))=vB a4)/\(vB (decide (bW.l.z<0))=vB (decide ((bL.1.l).z<0)))/\(vB (decide (bW.r.z<0))=vB (decide ((bL.1.r).z<0)))/\(rf (L lo.z.natAbs))/\(rf (L lo.d))/\(rf (L hi.z.natAbs))/\(rf (L hi.d))/\(([]:List aK)=(Aw bL.2))/\(L bV.l.z.natAbs=a3)/\(L bV.l.d=a1)/\(L bV.r.z.natAbs=a2)/\(L bV.r.d=a0)/\(L bW.l.z.natAbs=(L (bL.1.l).z.natAbs))/\(L bW.l.d=(L (bL.1.l).d))/\(L bW.r.z.natAbs=(L (bL.1.r).z.natAbs))/\(L bW.r.d=(L (bL.1.r).d))/\(Bb cK=a7)))/\∀x1:Nat,let aS:=wR ((nI x1)+(1:Int));let Z2:=a7.getD x1 [];let c8:=((Z2.getD 5 (.int 0))).r;let c9:=((Z2.getD 4 (.int 0))).r;let cD:=((Z2.getD 3 (.int 0))).b;let cF:=((Z2.getD 2 (.int 0))).r;let cG:=((Z2.getD 1 (.int 0))).r;let cH:=((Z2.getD 0 (.int 0))).b;let aT:=(Z2.getD 8 (.int 0));let aU:=(Z2.getD 7 (.int 0));let aV:=(Z2.getD 11 (.int 0));let aW:=(Z2.getD 10 (.int 0));let aX:=((Z2.getD 9 (.int 0))).b;let aY:=((Z2.getD 6 (.int 0))).b;let Z1:=A4 lo hi Z6 Z4 Z3 x1;let a5:=Aw Z1.2;let a8:=L (Z1.1.r).d;let a9:=L (Z1.1.l).d;let aA:=L (Z1.1.r).z.natAbs;let aB:=L (Z1.1.l).z.natAbs;let aC:=decide ((Z1.1.r).z<0);let aD:=decide ((Z1.1.l).z<0);(x1<=Z3.length)->(ifB ((decide ((nI x1)<aL))) ((0<=(nI x1)/\(nI x1)<(a7.length:Int))/\((x1<a7.length)/\(∃i4:Brd×Brd,[DA.agg [cB cH,cS cG,cS cF,cB cD,cS c9,cS c8],DA.agg [cB aD,cS aB,cS a9,cB aC,cS aA,cS a8]]=Au.args i4/\Au.pre i4/\(ifB ((!(!(abv i4.1 i4.2)))) (∃i5:Brd×Brd,[DA.agg [cB Z9,cS a3,cS a1,cB a4,cS a2,cS a0],DA.agg [cB aD,cS aB,cS a9,cB aC,cS aA,cS a8]]=Au.args i5/\Au.pre i5/\(ifB ((!(abv i5.1 i5.2))) (∃i6:Brd×Brd,[DA.agg [cB aY,cS (aU.r),cS (aT.r),cB aX,cS (aW.r),cS (aV.r)],DA.agg [cB aD,cS aB,cS a9,cB aC,cS aA,cS a8]]=Au.args i6/\Au.pre i6/\(ifB ((abv i6.1 i6.2)) (∃y2:Nat,let bM:=A4 lo hi Z6 Z4 Z3 y2;(y2<=Z3.length)/\(Z3.length-y2<Z3.length-x1)/\((rf (69))/\(rf (vI aL))/\(vI aS=vI (nI y2))/\(rf (vI lx))/\(rf (vI ly))/\(rf (vI hx))/\(rf (vI hy))/\(rf aR)/\(rf aQ)/\(rf (vB Z9))/\(rf (vB a4))/\(vB aY=vB (decide ((bM.1.l).z<0)))/\(vB aX=vB (decide ((bM.1.r).z<0)))/\(rf aP)/\(rf aN)/\(rf aO)/\(rf aM)/\(a5=(Aw bM.2))/\(rf a3)/\(rf a1)/\(rf a2)/\(rf a0)/\(aU.r=(L (bM.1.l).z.natAbs))/\(aT.r=(L (bM.1.l).d))/\(aW.r=(L (bM.1.r).z.natAbs))/\(aV.r=(L (bM.1.r).d))/\(rf a7))) (∃y3:Nat,let bN:=A4 lo hi Z6 Z4 Z3 y3;(y3<=Z3.length)/\(Z3.length-y3<Z3.length-x1)/\((rf (69))/\(rf (vI aL))/\(vI aS=vI (nI y3))/\(rf (vI lx))/\(rf (vI ly))/\(rf (vI hx))/\(rf (vI hy))/\(rf aR)/\(rf aQ)/\(rf (vB Z9))/\(rf (vB a4))/\(vB aD=vB (decide ((bN.1.l).z<0)))/\(vB aC=vB (decide ((bN.1.r).z<0)))/\(rf aP)/\(rf aN)/\(rf aO)/\(rf aM)/\(a5=(Aw bN.2))/\(rf a3)/\(rf a1)/\(rf a2)/\(rf a0)/\(aB=(L (bN.1.l).z.natAbs))/\(a9=(L (bN.1.l).d))/\(aA=(L (bN.1.r).z.natAbs))/\(a8=(L (bN.1.r).d))/\(rf a7))))) (∃i7:Brd×Brd,[DA.agg [cB cH,cS cG,cS cF,cB cD,cS c9,cS c8],DA.agg [cB Z9,cS a3,cS a1,cB a4,cS a2,cS a0]]=Au.args i7/\Au.pre i7/\(ifB ((abv i7.1 i7.2)) (∃i8:Bool×Z5×Z5,[dF lo]=AH.args i8/\AH.pre i8/\(∃i9:Bool×Z5×Z5,[dF hi]=AH.args i9/\AH.pre i9/\(∃aZ:Bool×Z5×Z5,[dF (Z1.1.l)]=AH.args aZ/\AH.pre aZ/\(∃b0:Bool×Z5×Z5,[dF (Z1.1.r)]=AH.args b0/\AH.pre b0/\(∃b1:Bool×Z5×Z5,[dF (Z4.l)]=AH.args b1/\AH.pre b1/\(∃b2:Bool×Z5×Z5,let Z8:=a5++([[Dat.bool i8.1,Dat.sl i8.2.1,Dat.sl i8.2.2,Dat.bool i9.1,Dat.sl i9.2.1,Dat.sl i9.2.2,Dat.bool aZ.1,Dat.sl aZ.2.1,Dat.sl aZ.2.2,Dat.bool b0.1,Dat.sl b0.2.1,Dat.sl b0.2.2,Dat.bool b1.1,Dat.sl b1.2.1,Dat.sl b1.2.2,Dat.bool b2.1,Dat.sl b2.2.1,Dat.sl b2.2.2]]:List aK);[dF (Z4.r)]=AH.args b2/\AH.pre b2/\((a5.length+([[Dat.bool i8.1,Dat.sl i8.2.1,Dat.sl i8.2.2,Dat.bool i9.1,Dat.sl i9.2.1,Dat.sl i9.2.2,Dat.bool aZ.1,Dat.sl aZ.2.1,Dat.sl aZ.2.2,Dat.bool b0.1,Dat.sl b0.2.1,Dat.sl b0.2.2,Dat.bool b1.1,Dat.sl b1.2.1,Dat.sl b1.2.2,Dat.bool b2.1,Dat.sl b2.2.1,Dat.sl b2.2.2]]:List aK).length<=1073741824)/\(∃c2:Brd×Brd,[DA.agg [cB aY,cS (aU.r),cS (aT.r),cB aX,cS (aW.r),cS (aV.r)],DA.agg [cB aD,cS aB,cS a9,cB aC,cS aA,cS a8]]=Au.args c2/\Au.pre c2/\(ifB ((abv c2.1 c2.2)) (∃y4:Nat,let bO:=A4 lo hi Z6 Z4 Z3 y4;(y4<=Z3.length)/\(Z3.length-y4<Z3.length-x1)/\((rf (69))/\(rf (vI aL))/\(vI aS=vI (nI y4))/\(rf (vI lx))/\(rf (vI ly))/\(rf (vI hx))/\(rf (vI hy))/\(rf aR)/\(rf aQ)/\(rf (vB Z9))/\(rf (vB a4))/\(vB aY=vB (decide ((bO.1.l).z<0)))/\(vB aX=vB (decide ((bO.1.r).z<0)))/\(rf aP)/\(rf aN)/\(rf aO)/\(rf aM)/\(Z8=(Aw bO.2))/\(rf a3)/\(rf a1)/\(rf a2)/\(rf a0)/\(aU.r=(L (bO.1.l).z.natAbs))/\(aT.r=(L (bO.1.l).d))/\(aW.r=(L (bO.1.r).z.natAbs))/\(aV.r=(L (bO.1.r).d))/\(rf a7))) (∃y5:Nat,let bP:=A4 lo hi Z6 Z4 Z3 y5;(y5<=Z3.length)/\(Z3.length-y5<Z3.length-x1)/\((rf (69))/\(rf (vI aL))/\(vI aS=vI (nI y5))/\(rf (vI lx))/\(rf (vI ly))/\(rf (vI hx))/\(rf (vI hy))/\(rf aR)/\(rf aQ)/\(rf (vB Z9))/\(rf (vB a4))/\(vB aD=vB (decide ((bP.1.l).z<0)))/\(vB aC=vB (decide ((bP.1.r).z<0)))/\(rf aP)/\(rf aN)/\(rf aO)/\(rf aM)/\(Z8=(Aw bP.2))/\(rf a3)/\(rf a1)/\(rf a2)/\(rf a0)/\(aB=(L (bP.1.l).z.natAbs))/\(a9=(L (bP.1.l).d))/\(aA=(L (bP.1.r).z.natAbs))/\(a8=(L (bP.1.r).d))/\(rf a7)))))))))))) (∃b3:Bool×Z5×Z5,[dF lo]=AH.args b3/\AH.pre b3/\(∃b4:Bool×Z5×Z5,[dF hi]=AH.args b4/\AH.pre b4/\(∃b5:Bool×Z5×Z5,[dF (Z1.1.l)]=AH.args b5/\AH.pre b5/\(∃b6:Bool×Z5×Z5,[dF (Z1.1.r)]=AH.args b6/\AH.pre b6/\(∃b7:Bool×Z5×Z5,[DA.agg [cB cH,cS cG,cS cF]]=AH.args b7/\AH.pre b7/\(∃b8:Bool×Z5×Z5,let Z7:=a5++([[Dat.bool b3.1,Dat.sl b3.2.1,Dat.sl b3.2.2,Dat.bool b4.1,Dat.sl b4.2.1,Dat.sl b4.2.2,Dat.bool b5.1,Dat.sl b5.2.1,Dat.sl b5.2.2,Dat.bool b6.1,Dat.sl b6.2.1,Dat.sl b6.2.2,Dat.bool b7.1,Dat.sl b7.2.1,Dat.sl b7.2.2,Dat.bool b8.1,Dat.sl b8.2.1,Dat.sl b8.2.2]]:List aK);[DA.agg [cB cD,cS c9,cS c8]]=AH.args b8/\AH.pre b8/\((a5.length+([[Dat.bool b3.1,Dat.sl b3.2.1,Dat.sl b3.2.2,Dat.bool b4.1,Dat.sl b4.2.1,Dat.sl b4.2.2,Dat.bool b5.1,Dat.sl b5.2.1,Dat.sl b5.2.2,Dat.bool b6.1,Dat.sl b6.2.1,Dat.sl b6.2.2,Dat.bool b7.1,Dat.sl b7.2.1,Dat.sl b7.2.2,Dat.bool b8.1,Dat.sl b8.2.1,Dat.sl b8.2.2]]:List aK).length<=1073741824)/\(∃c3:Brd×Brd,[DA.agg [cB aY,cS (aU.r),cS (aT.r),cB aX,cS (aW.r),cS (aV.r)],DA.agg [cB aD,cS aB,cS a9,cB aC,cS aA,cS a8]]=Au.args c3/\Au.pre c3/\(ifB ((abv c3.1 c3.2)) (∃y6:Nat,let bQ:=A4 lo hi Z6 Z4 Z3 y6;(y6<=Z3.length)/\(Z3.length-y6<Z3.length-x1)/\((rf (69))/\(rf (vI aL))/\(vI aS=vI (nI y6))/\(rf (vI lx))/\(rf (vI ly))/\(rf (vI hx))/\(rf (vI hy))/\(rf aR)/\(rf aQ)/\(rf (vB Z9))/\(rf (vB a4))/\(vB aY=vB (decide ((bQ.1.l).z<0)))/\(vB aX=vB (decide ((bQ.1.r).z<0)))/\(rf aP)/\(rf aN)/\(rf aO)/\(rf aM)/\(Z7=(Aw bQ.2))/\(rf a3)/\(rf a1)/\(rf a2)/\(rf a0)/\(aU.r=(L (bQ.1.l).z.natAbs))/\(aT.r=(L (bQ.1.l).d))/\(aW.r=(L (bQ.1.r).z.natAbs))/\(aV.r=(L (bQ.1.r).d))/\(rf a7))) (∃y7:Nat,let bR:=A4 lo hi Z6 Z4 Z3 y7;(y7<=Z3.length)/\(Z3.length-y7<Z3.length-x1)/\((rf (69))/\(rf (vI aL))/\(vI aS=vI (nI y7))/\(rf (vI lx))/\(rf (vI ly))/\(rf (vI hx))/\(rf (vI hy))/\(rf aR)/\(rf aQ)/\(rf (vB Z9))/\(rf (vB a4))/\(vB aD=vB (decide ((bR.1.l).z<0)))/\(vB aC=vB (decide ((bR.1.r).z<0)))/\(rf aP)/\(rf aN)/\(rf aO)/\(rf aM)/\(Z7=(Aw bR.2))/\(rf a3)/\(rf a1)/\(rf a2)/\(rf a0)/\(aB=(L (bR.1.l).z.natAbs))/\(a9=(L (bR.1.l).d))/\(aA=(L (bR.1.r).z.natAbs))/\(a8=(L (bR.1.r).d))/\(rf a7)))))))))))))))) (∃c4:Brd×Brd,[DA.agg [cB aY,cS (aU.r),cS (aT.r),cB aX,cS (aW.r),cS (aV.r)],DA.agg [cB aD,cS aB,cS a9,cB aC,cS aA,cS a8]]=Au.args c4/\Au.pre c4/\(ifB ((abv c4.1 c4.2)) (∃y8:Nat,let bS:=A4 lo hi Z6 Z4 Z3 y8;(y8<=Z3.length)/\(Z3.length-y8<Z3.length-x1)/\((rf (69))/\(rf (vI aL))/\(vI aS=vI (nI y8))/\(rf (vI lx))/\(rf (vI ly))/\(rf (vI hx))/\(rf (vI hy))/\(rf aR)/\(rf aQ)/\(rf (vB Z9))/\(rf (vB a4))/\(vB aY=vB (decide ((bS.1.l).z<0)))/\(vB aX=vB (decide ((bS.1.r).z<0)))/\(rf aP)/\(rf aN)/\(rf aO)/\(rf aM)/\(a5=(Aw bS.2))/\(rf a3)/\(rf a1)/\(rf a2)/\(rf a0)/\(aU.r=(L (bS.1.l).z.natAbs))/\(aT.r=(L (bS.1.l).d))/\(aW.r=(L (bS.1.r).z.natAbs))/\(aV.r=(L (bS.1.r).d))/\(rf a7))) (∃y9:Nat,let bT:=A4 lo hi Z6 Z4 Z3 y9;(y9<=Z3.length)/\(Z3.length-y9<Z3.length-x1)/\((rf (69))/\(rf (vI aL))/\(vI aS=vI (nI y9))/\(rf (vI lx))/\(rf (vI ly))/\(rf (vI hx))/\(rf (vI hy))/\(rf aR)/\(rf aQ)/\(rf (vB Z9))/\(rf (vB a4))/\(vB aD=vB (decide ((bT.1.l).z<0)))/\(vB aC=vB (decide ((bT.1.r).z<0)))/\(rf aP)/\(rf aN)/\(rf aO)/\(rf aM)/\(a5=(Aw bT.2))/\(rf a3)/\(rf a1)/\(rf a2)/\(rf a0)/\(aB=(L (bT.1.l).z.natAbs))/\(a9=(L (bT.1.l).d))/\(aA=(L (bT.1.r).z.natAbs))/\(a8=(L (bT.1.r).d))/\(rf a7))))))))) (∃c5:Brd×Brd,[DA.agg [cB Z9,cS a3,cS a1,cB a4,cS a2,cS a0],DA.agg [cB aD,cS aB,cS a9,cB aC,cS aA,cS a8]]=Au.args c5/\Au.pre c5/\(ifB ((!(!(abv c5.1 c5.2)))) (∃c6:Brd×Brd,[DA.agg [cB Z9,cS a3,cS a1,cB a4,cS a2,cS a0],DA.agg [cB aD,cS aB,cS a9,cB aC,cS aA,cS a8]]=Au.args c6/\Au.pre c6/\(ifB ((!(abv c6.1 c6.2))) ((a5=Aw c1)) (∃c7:Brd×Brd,[DA.agg [cB Z9,cS a3,cS a1,cB a4,cS a2,cS a0],DA.agg [cB Z9,cS a3,cS a1,cB a4,cS a2,cS a0]]=Au.args c7/\Au.pre c7/\(ifB ((abv c7.1 c7.2)) (∃b9:Bool×Z5×Z5,[dF lo]=AH.args b9/\AH.pre b9/\(∃bA:Bool×Z5×Z5,[dF hi]=AH.args bA/\AH.pre bA/\(∃bB:Bool×Z5×Z5,[dF (Z1.1.l)]=AH.args bB/\AH.pre bB/\(∃bC:Bool×Z5×Z5,[dF (Z1.1.r)]=AH.args bC/\AH.pre bC/\(∃bD:Bool×Z5×Z5,[dF (Z4.l)]=AH.args bD/\AH.pre bD/\(∃bE:Bool×Z5×Z5,[dF (Z4.r)]=AH.args bE/\AH.pre bE/\((a5.length+([[Dat.bool b9.1,Dat.sl b9.2.1,Dat.sl b9.2.2,Dat.bool bA.1,Dat.sl bA.2.1,Dat.sl bA.2.2,Dat.bool bB.1,Dat.sl bB.2.1,Dat.sl bB.2.2,Dat.bool bC.1,Dat.sl bC.2.1,Dat.sl bC.2.2,Dat.bool bD.1,Dat.sl bD.2.1,Dat.sl bD.2.2,Dat.bool bE.1,Dat.sl bE.2.1,Dat.sl bE.2.2]]:List aK).length<=1073741824)/\(((a5++([[Dat.bool b9.1,Dat.sl b9.2.1,Dat.sl b9.2.2,Dat.bool bA.1,Dat.sl bA.2.1,Dat.sl bA.2.2,Dat.bool bB.1,Dat.sl bB.2.1,Dat.sl bB.2.2,Dat.bool bC.1,Dat.sl bC.2.1,Dat.sl bC.2.2,Dat.bool bD.1,Dat.sl bD.2.1,Dat.sl bD.2.2,Dat.bool bE.1,Dat.sl bE.2.1,Dat.sl bE.2.2]]:List aK))=Aw c1))))))))) (∃i32:Bool×Z5×Z5,[dF lo]=AH.args i32/\AH.pre i32/\(∃bF:Bool×Z5×Z5,[dF hi]=AH.args bF/\AH.pre bF/\(∃bG:Bool×Z5×Z5,[dF (Z1.1.l)]=AH.args bG/\AH.pre bG/\(∃bH:Bool×Z5×Z5,[dF (Z1.1.r)]=AH.args bH/\AH.pre bH/\(∃bI:Bool×Z5×Z5,[dF (Z4.l)]=AH.args bI/\AH.pre bI/\(∃bJ:Bool×Z5×Z5,[dF (Z4.r)]=AH.args bJ/\AH.pre bJ/\((a5.length+([[Dat.bool i32.1,Dat.sl i32.2.1,Dat.sl i32.2.2,Dat.bool bF.1,Dat.sl bF.2.1,Dat.sl bF.2.2,Dat.bool bG.1,Dat.sl bG.2.1,Dat.sl bG.2.2,Dat.bool bH.1,Dat.sl bH.2.1,Dat.sl bH.2.2,Dat.bool bI.1,Dat.sl bI.2.1,Dat.sl bI.2.2,Dat.bool bJ.1,Dat.sl bJ.2.1,Dat.sl bJ.2.2]]:List aK).length<=1073741824)/\(((a5++([[Dat.bool i32.1,Dat.sl i32.2.1,Dat.sl i32.2.2,Dat.bool bF.1,Dat.sl bF.2.1,Dat.sl bF.2.2,Dat.bool bG.1,Dat.sl bG.2.1,Dat.sl bG.2.2,Dat.bool bH.1,Dat.sl bH.2.1,Dat.sl bH.2.2,Dat.bool bI.1,Dat.sl bI.2.1,Dat.sl bI.2.2,Dat.bool bJ.1,Dat.sl bJ.2.1,Dat.sl bJ.2.2]]:List aK))=Aw c1))))))))))))) ((a5=Aw c1))))))))) (by kernel_rfl) ?_
 conv=>zeta
 delta ifB vB vI wR nI;have cN:=Ku (bkS ls lo hi);have hbk:=VH ls lo hi;have hl16:=a6.1.2.1
 refine⟨hy,by
  rfl,by
  exact a6.2.2,?_⟩
 refine⟨ly,by
  rfl,by
  exact a6.2.1,?_⟩
 refine⟨(ls,lo,hi),by
  rfl,by
  exact a6.1,?_⟩
 refine⟨⟨0,by omega,?_⟩,?_⟩;refine⟨rfl,rfl,?_,rfl,rfl,rfl,rfl,rfl,rfl,?_,?_,?_,?_,rfl,rfl,rfl,rfl,?_,?_,?_,?_,?_,?_,?_,?_,?_,rfl⟩;rfl;rfl;rfl;rfl;rfl;rfl;rfl;rfl;rfl;rfl;rfl;rfl;rfl;rfl;intro (k:Nat) bK;have bK:k<=(bkS ls lo hi).length:=bK;refine And.symm ⟨λbX=>?_,λbX=>?_⟩;simp only[nrm]at bX;rw[cN]at bX;have cJ:k=(bkS ls lo hi).length:=by omega
 have cO:=J9 lo hi (AB ly) (AB hy) (bkS ls lo hi) k;have cP:=EN (A4 lo hi (AB ly) (AB hy) (bkS ls lo hi) k).2
 refine⟨((AB hy),(A4 lo hi (AB ly) (AB hy) (bkS ls lo hi) k).1),by
  rfl,by
  trivial,?_⟩
 refine And.symm ⟨λaE=>?_,λaE=>?_⟩;simp only[nrm]at aE;have hC:=T5 cJ (SC (lo:=lo) (hi:=hi) (rf:=(AB hy)) (show abv (AB hy) (A4 lo hi (AB ly) (AB hy) (bkS ls lo hi) k).1=false by simpa using aE));rw[List.append_nil]at hC;rw[hC];simp only[nrm]at aE;have q1:=(show abv (AB hy) (A4 lo hi (AB ly) (AB hy) (bkS ls lo hi) k).1=true by simpa using aE)
 refine⟨((AB hy),(A4 lo hi (AB ly) (AB hy) (bkS ls lo hi) k).1),by
  rfl,by
  trivial,?_⟩
 refine⟨λbU=>?_,λbU=>?_⟩;simp only[nrm]at bU;exfalso;simp_all;simp only[nrm]at bU
 refine⟨((AB hy),(AB hy)),by
  rfl,by
  trivial,?_⟩
 refine⟨λaF=>?_,λaF=>?_⟩;simp only[nrm]at aF;have hC:=T5 cJ (SD (lo:=lo) (hi:=hi) q1 q1 (show abv (AB hy) (AB hy)=true by simpa using aF))
 refine⟨((decide ((lo).z<0)),(L (lo).z.natAbs),(L (lo).d)),by
  rfl,by
  exact Ap _,?_⟩
 refine⟨((decide ((hi).z<0)),(L (hi).z.natAbs),(L (hi).d)),by
  rfl,by
  exact Ap _,?_⟩
 refine⟨((decide (((A4 lo hi (AB ly) (AB hy) (bkS ls lo hi) k).1.l).z<0)),(L ((A4 lo hi (AB ly) (AB hy) (bkS ls lo hi) k).1.l).z.natAbs),(L ((A4 lo hi (AB ly) (AB hy) (bkS ls lo hi) k).1.l).d)),by
  rfl,by
  exact Ap _,?_⟩
 refine⟨((decide (((A4 lo hi (AB ly) (AB hy) (bkS ls lo hi) k).1.r).z<0)),(L ((A4 lo hi (AB ly) (AB hy) (bkS ls lo hi) k).1.r).z.natAbs),(L ((A4 lo hi (AB ly) (AB hy) (bkS ls lo hi) k).1.r).d)),by
  rfl,by
  exact Ap _,?_⟩
 refine⟨((decide (((AB hy).l).z<0)),(L ((AB hy).l).z.natAbs),(L ((AB hy).l).d)),by
  rfl,by
  exact Ap _,?_⟩
 refine⟨((decide (((AB hy).r).z<0)),(L ((AB hy).r).z.natAbs),(L ((AB hy).r).d)),by
  rfl,by
  exact Ap _,?_⟩
 refine ao (by simp only[List.length_cons,List.length_nil];omega) λo379=>?_;rw[hC,CR];rfl;simp only[nrm]at aF;have hC:=T5 cJ (SE (lo:=lo) (hi:=hi) q1 q1 (show abv (AB hy) (AB hy)=false by simpa using aF))
 refine⟨((decide ((lo).z<0)),(L (lo).z.natAbs),(L (lo).d)),by
  rfl,by
  exact Ap _,?_⟩
 refine⟨((decide ((hi).z<0)),(L (hi).z.natAbs),(L (hi).d)),by
  rfl,by
  exact Ap _,?_⟩
 refine⟨((decide (((A4 lo hi (AB ly) (AB hy) (bkS ls lo hi) k).1.l).z<0)),(L ((A4 lo hi (AB ly) (AB hy) (bkS ls lo hi) k).1.l).z.natAbs),(L ((A4 lo hi (AB ly) (AB hy) (bkS ls lo hi) k).1.l).d)),by
  rfl,by
  exact Ap _,?_⟩
 refine⟨((decide (((A4 lo hi (AB ly) (AB hy) (bkS ls lo hi) k).1.r).z<0)),(L ((A4 lo hi (AB ly) (AB hy) (bkS ls lo hi) k).1.r).z.natAbs),(L ((A4 lo hi (AB ly) (AB hy) (bkS ls lo hi) k).1.r).d)),by
  rfl,by
  exact Ap _,?_⟩
 refine⟨((decide (((AB hy).l).z<0)),(L ((AB hy).l).z.natAbs),(L ((AB hy).l).d)),by
  rfl,by
  exact Ap _,?_⟩
 refine⟨((decide (((AB hy).r).z<0)),(L ((AB hy).r).z.natAbs),(L ((AB hy).r).d)),by
  rfl,by
  exact Ap _,?_⟩
 refine ao (by simp only[List.length_cons,List.length_nil];omega) λo399=>?_;rw[hC,CR];rfl;simp only[nrm]at bX;rw[cN]at bX;have hk:k<(bkS ls lo hi).length:=by omega
 have hB:=J8 hk;have cO:=J9 lo hi (AB ly) (AB hy) (bkS ls lo hi) k;have cP:=EN (A4 lo hi (AB ly) (AB hy) (bkS ls lo hi) k).2;refine ao (by omega) λo40=>?_;refine ao (by omega) λo41=>?_
 refine⟨(((bkS ls lo hi).getD k noK).lo,(A4 lo hi (AB ly) (AB hy) (bkS ls lo hi) k).1),by
  rw[hB];rfl,by
  trivial,?_⟩
 refine And.symm ⟨λbY=>?_,λbY=>?_⟩;simp only[nrm]at bY;have hE2:=QD (SC (lo:=lo) (hi:=hi) (rf:=(AB hy)) (show abv ((bkS ls lo hi).getD k noK).lo (A4 lo hi (AB ly) (AB hy) (bkS ls lo hi) k).1=false by simpa using bY));rw[List.append_nil]at hE2
 refine⟨(((bkS ls lo hi).getD k noK).hi,(A4 lo hi (AB ly) (AB hy) (bkS ls lo hi) k).1),by
  rw[hB];rfl,by
  trivial,?_⟩
 refine⟨λaG=>?_,λaG=>?_⟩;simp only[nrm]at aG;have hE1:=QE (show abv ((bkS ls lo hi).getD k noK).hi (A4 lo hi (AB ly) (AB hy) (bkS ls lo hi) k).1=true by simpa using aG)
 refine⟨k+1,by
  trivial,by
  omega,?_⟩
 refine⟨rfl,rfl,?_,rfl,rfl,rfl,rfl,rfl,rfl,rfl,rfl,?_,?_,rfl,rfl,rfl,rfl,?_,rfl,rfl,rfl,rfl,?_,?_,?_,?_,rfl⟩;exact AS (AC (by omega) (by omega));rw[hE1,hB];rfl;rw[hE1,hB];rfl;rw[hE2];rw[hE1,hB];rfl;rw[hE1,hB];rfl;rw[hE1,hB];rfl;rw[hE1,hB];rfl;simp only[nrm]at aG;have hE1:=QF (show abv ((bkS ls lo hi).getD k noK).hi (A4 lo hi (AB ly) (AB hy) (bkS ls lo hi) k).1=false by simpa using aG)
 refine⟨k+1,by
  trivial,by
  omega,?_⟩
 refine⟨rfl,rfl,?_,rfl,rfl,rfl,rfl,rfl,rfl,rfl,rfl,?_,?_,rfl,rfl,rfl,rfl,?_,rfl,rfl,rfl,rfl,?_,?_,?_,?_,rfl⟩;exact AS (AC (by omega) (by omega));rw[hE1];rw[hE1];rw[hE2];rw[hE1];rw[hE1];rw[hE1];rw[hE1];simp only[nrm]at bY;have q1:=(show abv ((bkS ls lo hi).getD k noK).lo (A4 lo hi (AB ly) (AB hy) (bkS ls lo hi) k).1=true by simpa using bY)
 refine⟨((AB hy),(A4 lo hi (AB ly) (AB hy) (bkS ls lo hi) k).1),by
  rfl,by
  trivial,?_⟩
 refine⟨λbZ=>?_,λbZ=>?_⟩;simp only[nrm]at bZ;have hE2:=QD (Yu (lo:=lo) (hi:=hi) (t:=((bkS ls lo hi).getD k noK).lo) (show abv (AB hy) (A4 lo hi (AB ly) (AB hy) (bkS ls lo hi) k).1=false by simpa using bZ));rw[List.append_nil]at hE2
 refine⟨(((bkS ls lo hi).getD k noK).hi,(A4 lo hi (AB ly) (AB hy) (bkS ls lo hi) k).1),by
  rw[hB];rfl,by
  trivial,?_⟩
 refine⟨λc0=>?_,λc0=>?_⟩;simp only[nrm]at c0;have hE1:=QE (show abv ((bkS ls lo hi).getD k noK).hi (A4 lo hi (AB ly) (AB hy) (bkS ls lo hi) k).1=true by simpa using c0)
 refine⟨k+1,by
  trivial,by
  omega,?_⟩
 refine⟨rfl,rfl,?_,rfl,rfl,rfl,rfl,rfl,rfl,rfl,rfl,?_,?_,rfl,rfl,rfl,rfl,?_,rfl,rfl,rfl,rfl,?_,?_,?_,?_,rfl⟩;exact AS (AC (by omega) (by omega));rw[hE1,hB];rfl;rw[hE1,hB];rfl;rw[hE2];rw[hE1,hB];rfl;rw[hE1,hB];rfl;rw[hE1,hB];rfl;rw[hE1,hB];rfl;simp only[nrm]at c0;have hE1:=QF (show abv ((bkS ls lo hi).getD k noK).hi (A4 lo hi (AB ly) (AB hy) (bkS ls lo hi) k).1=false by simpa using c0)
 refine⟨k+1,by
  trivial,by
  omega,?_⟩
 refine⟨rfl,rfl,?_,rfl,rfl,rfl,rfl,rfl,rfl,rfl,rfl,?_,?_,rfl,rfl,rfl,rfl,?_,rfl,rfl,rfl,rfl,?_,?_,?_,?_,rfl⟩;exact AS (AC (by omega) (by omega));rw[hE1];rw[hE1];rw[hE2];rw[hE1];rw[hE1];rw[hE1];rw[hE1];simp only[nrm]at bZ;have q2:=(show abv (AB hy) (A4 lo hi (AB ly) (AB hy) (bkS ls lo hi) k).1=true by simpa using bZ)
 refine⟨(((bkS ls lo hi).getD k noK).lo,(AB hy)),by
  rw[hB];rfl,by
  trivial,?_⟩
 refine⟨λaH=>?_,λaH=>?_⟩;simp only[nrm]at aH;have hE2:=QD (SD (lo:=lo) (hi:=hi) q1 q2 (show abv ((bkS ls lo hi).getD k noK).lo (AB hy)=true by simpa using aH))
 refine⟨((decide ((lo).z<0)),(L (lo).z.natAbs),(L (lo).d)),by
  rfl,by
  exact Ap _,?_⟩
 refine⟨((decide ((hi).z<0)),(L (hi).z.natAbs),(L (hi).d)),by
  rfl,by
  exact Ap _,?_⟩
 refine⟨((decide (((A4 lo hi (AB ly) (AB hy) (bkS ls lo hi) k).1.l).z<0)),(L ((A4 lo hi (AB ly) (AB hy) (bkS ls lo hi) k).1.l).z.natAbs),(L ((A4 lo hi (AB ly) (AB hy) (bkS ls lo hi) k).1.l).d)),by
  rfl,by
  exact Ap _,?_⟩
 refine⟨((decide (((A4 lo hi (AB ly) (AB hy) (bkS ls lo hi) k).1.r).z<0)),(L ((A4 lo hi (AB ly) (AB hy) (bkS ls lo hi) k).1.r).z.natAbs),(L ((A4 lo hi (AB ly) (AB hy) (bkS ls lo hi) k).1.r).d)),by
  rfl,by
  exact Ap _,?_⟩
 refine⟨((decide (((AB hy).l).z<0)),(L ((AB hy).l).z.natAbs),(L ((AB hy).l).d)),by
  rfl,by
  exact Ap _,?_⟩
 refine⟨((decide (((AB hy).r).z<0)),(L ((AB hy).r).z.natAbs),(L ((AB hy).r).d)),by
  rfl,by
  exact Ap _,?_⟩
 refine ao (by simp only[List.length_cons,List.length_nil];omega) λo136=>?_
 refine⟨(((bkS ls lo hi).getD k noK).hi,(A4 lo hi (AB ly) (AB hy) (bkS ls lo hi) k).1),by
  rw[hB];rfl,by
  trivial,?_⟩
 refine⟨λaI=>?_,λaI=>?_⟩;simp only[nrm]at aI;have hE1:=QE (show abv ((bkS ls lo hi).getD k noK).hi (A4 lo hi (AB ly) (AB hy) (bkS ls lo hi) k).1=true by simpa using aI)
 refine⟨k+1,by
  trivial,by
  omega,?_⟩
 refine⟨rfl,rfl,?_,rfl,rfl,rfl,rfl,rfl,rfl,rfl,rfl,?_,?_,rfl,rfl,rfl,rfl,?_,rfl,rfl,rfl,rfl,?_,?_,?_,?_,rfl⟩;exact AS (AC (by omega) (by omega));rw[hE1,hB];rfl;rw[hE1,hB];rfl;rw[hE2,CR];rfl;rw[hE1,hB];rfl;rw[hE1,hB];rfl;rw[hE1,hB];rfl;rw[hE1,hB];rfl;simp only[nrm]at aI;have hE1:=QF (show abv ((bkS ls lo hi).getD k noK).hi (A4 lo hi (AB ly) (AB hy) (bkS ls lo hi) k).1=false by simpa using aI)
 refine⟨k+1,by
  trivial,by
  omega,?_⟩
 refine⟨rfl,rfl,?_,rfl,rfl,rfl,rfl,rfl,rfl,rfl,rfl,?_,?_,rfl,rfl,rfl,rfl,?_,rfl,rfl,rfl,rfl,?_,?_,?_,?_,rfl⟩;exact AS (AC (by omega) (by omega));rw[hE1];rw[hE1];rw[hE2,CR];rfl;rw[hE1];rw[hE1];rw[hE1];rw[hE1];simp only[nrm]at aH;have hE2:=QD (SE (lo:=lo) (hi:=hi) q1 q2 (show abv ((bkS ls lo hi).getD k noK).lo (AB hy)=false by simpa using aH))
 refine⟨((decide ((lo).z<0)),(L (lo).z.natAbs),(L (lo).d)),by
  rfl,by
  exact Ap _,?_⟩
 refine⟨((decide ((hi).z<0)),(L (hi).z.natAbs),(L (hi).d)),by
  rfl,by
  exact Ap _,?_⟩
 refine⟨((decide (((A4 lo hi (AB ly) (AB hy) (bkS ls lo hi) k).1.l).z<0)),(L ((A4 lo hi (AB ly) (AB hy) (bkS ls lo hi) k).1.l).z.natAbs),(L ((A4 lo hi (AB ly) (AB hy) (bkS ls lo hi) k).1.l).d)),by
  rfl,by
  exact Ap _,?_⟩
 refine⟨((decide (((A4 lo hi (AB ly) (AB hy) (bkS ls lo hi) k).1.r).z<0)),(L ((A4 lo hi (AB ly) (AB hy) (bkS ls lo hi) k).1.r).z.natAbs),(L ((A4 lo hi (AB ly) (AB hy) (bkS ls lo hi) k).1.r).d)),by
  rfl,by
  exact Ap _,?_⟩
 refine⟨(((((Bb (bkS ls lo hi)).getD k []).getD 0 (.int 0))).b,((((Bb (bkS ls lo hi)).getD k []).getD 1 (.int 0))).r,((((Bb (bkS ls lo hi)).getD k []).getD 2 (.int 0))).r),by
  rfl,by
  rw[hB];exact Ap _,?_⟩
 refine⟨(((((Bb (bkS ls lo hi)).getD k []).getD 3 (.int 0))).b,((((Bb (bkS ls lo hi)).getD k []).getD 4 (.int 0))).r,((((Bb (bkS ls lo hi)).getD k []).getD 5 (.int 0))).r),by
  rfl,by
  rw[hB];exact Ap _,?_⟩
 refine ao (by simp only[List.length_cons,List.length_nil];omega) λo219=>?_
 refine⟨(((bkS ls lo hi).getD k noK).hi,(A4 lo hi (AB ly) (AB hy) (bkS ls lo hi) k).1),by
  rw[hB];rfl,by
  trivial,?_⟩
 refine⟨λaJ=>?_,λaJ=>?_⟩;simp only[nrm]at aJ;have hE1:=QE (show abv ((bkS ls lo hi).getD k noK).hi (A4 lo hi (AB ly) (AB hy) (bkS ls lo hi) k).1=true by simpa using aJ)
 refine⟨k+1,by
  trivial,by
  omega,?_⟩
 refine⟨rfl,rfl,?_,rfl,rfl,rfl,rfl,rfl,rfl,rfl,rfl,?_,?_,rfl,rfl,rfl,rfl,?_,rfl,rfl,rfl,rfl,?_,?_,?_,?_,rfl⟩;exact AS (AC (by omega) (by omega));rw[hE1,hB];rfl;rw[hE1,hB];rfl;rw[hE2,CR,hB];rfl;rw[hE1,hB];rfl;rw[hE1,hB];rfl;rw[hE1,hB];rfl;rw[hE1,hB];rfl;simp only[nrm]at aJ;have hE1:=QF (show abv ((bkS ls lo hi).getD k noK).hi (A4 lo hi (AB ly) (AB hy) (bkS ls lo hi) k).1=false by simpa using aJ)
 refine⟨k+1,by
  trivial,by
  omega,?_⟩
 refine⟨rfl,rfl,?_,rfl,rfl,rfl,rfl,rfl,rfl,rfl,rfl,?_,?_,rfl,rfl,rfl,rfl,?_,rfl,rfl,rfl,rfl,?_,?_,?_,?_,rfl⟩;exact AS (AC (by omega) (by omega));rw[hE1];rw[hE1];rw[hE2,CR,hB];rfl;rw[hE1];rw[hE1];rw[hE1];rw[hE1]
def less(x y:Brd):Bool:=decide (Fr.cmp x.lev y.lev<0)
abbrev ABl(x:Brd):List Dat:=frD x.l++(frD x.r++frD x.lev)
def B9(l:List Brd):List (List Dat):=l.map ABl
theorem Ip(l:List Brd):(B9 l).length=l.length:=List.length_map ..
def Nw:List Blk->Blk->List Blk
 | [],b=>[b]|x::l,b=>if less b.lo x.lo=true then b::x::l else x::Nw l b
theorem QG{b:Blk} : ∀(l:List Blk)(k:Nat),k<=l.length->(∀j,j<k->less b.lo (l.getD j noK).lo=false)->(k<l.length->less b.lo (l.getD k noK).lo=true)->Nw l b=l.take k++b::l.drop k
 | [],0,_,_,_=>rfl|x::l,0,_,_,h=>by have:=h (Nat.zero_lt_succ _);show(if _ then _ else _)=_;rw[if_pos (by exact this)];rfl|x::l,k+1,hk,h1,h2=>by have h0:=h1 0 (Nat.zero_lt_succ _);show(if _ then _ else _)=_;rw[if_neg (by rw[show less b.lo x.lo=false from h0];simp),QG l k (Nat.le_of_succ_le_succ hk) (λj hj=>h1 (j+1) (Nat.succ_lt_succ hj)) (λh=>h2 (Nat.succ_lt_succ h))];rfl
theorem SF(b:Blk):∀l:List Blk,(Nw l b).length=l.length+1
 | []=>rfl|x::l=>by show(if _ then _ else _:List Blk).length=_;split;rfl;rw[List.length_cons,SF b l,List.length_cons]
def Aq(ls:List (List V2))(lo hi:Fr):Nat->List Blk
 | 0=>[]|k+1=>if(spS (AD (ls.getD k []) 0) lo hi (AD (ls.getD k []) 0).length).2.2=2 then Nw (Aq ls lo hi k) ⟨(spS (AD (ls.getD k []) 0) lo hi (AD (ls.getD k []) 0).length).1,(spS (AD (ls.getD k []) 0) lo hi (AD (ls.getD k []) 0).length).2.1⟩else Aq ls lo hi k
theorem Nd(ls:List (List V2))(lo hi:Fr):∀k,(Aq ls lo hi k).length<=k
 | 0=>Nat.le_refl _|k+1=>by have ih:=Nd ls lo hi k;rw[Aq];split;rw[SF];omega;omega
def Nx(lo hi:Fr)(rf f t:Brd):List Cel:=if less f t=true then[⟨lo,hi,f,t⟩]else[]
def cap(rf t:Brd):Brd:=if less rf t=true then rf else t
def Bh(lo hi:Fr)(fl rf:Brd)(bl:List Blk):Nat->Brd×List Cel
 | 0=>(fl,[])|k+1=>((if less (Bh lo hi fl rf bl k).1 (bl.getD k noK).hi=true then(bl.getD k noK).hi else(Bh lo hi fl rf bl k).1),(Bh lo hi fl rf bl k).2++Nx lo hi rf (Bh lo hi fl rf bl k).1 (cap rf (bl.getD k noK).lo))
def Lj(lo hi:Fr)(fl rf:Brd)(bl:List Blk):List Cel:=(Bh lo hi fl rf bl bl.length).2++Nx lo hi rf (Bh lo hi fl rf bl bl.length).1 rf
theorem Ne(lo hi:Fr)(fl rf:Brd)(bl:List Blk):∀k,(Bh lo hi fl rf bl k).2.length<=k
 | 0=>Nat.le_refl _|k+1=>by have ih:=Ne lo hi fl rf bl k;show(_++Nx _ _ _ _ _).length<=_;rw[List.length_append];unfold Nx;split <;> simp <;> omega
section
variable {lo hi : Fr} {rf f t fl : Brd} {bl : List Blk} {k i j : Nat} {ls : List (List V2)}
theorem Nf{P:Nat->Prop}(h:∀i,i<j->P i)(hj:P j):∀i,i<j+1->P i:=λi hi=>by by_cases e:i=j;rw[e];exact hj;exact h i (by omega)
theorem SG{l:List Blk}(h:(spS (AD (ls.getD k []) 0) lo hi (AD (ls.getD k []) 0).length).2.2=2)(e:Nw (Aq ls lo hi k) ⟨(spS (AD (ls.getD k []) 0) lo hi (AD (ls.getD k []) 0).length).1,(spS (AD (ls.getD k []) 0) lo hi (AD (ls.getD k []) 0).length).2.1⟩=l):Aq ls lo hi (k+1)=l:=by rw[Aq,if_pos h,e]
theorem AAQ(h:¬(spS (AD (ls.getD k []) 0) lo hi (AD (ls.getD k []) 0).length).2.2=2):Aq ls lo hi (k+1)=Aq ls lo hi k:=by rw[Aq,if_neg h]
theorem HN(l:List Blk)(b:Blk)(j:Nat)(g:Blk->Brd):B9 ((l.take j++b::l.drop j).map g)=((B9 (l.map g)).take j++[ABl (g b)])++(B9 (l.map g)).drop j:=by simp[B9,List.map_take,List.map_drop]
theorem QH{l:List Blk}(g:Blk->Brd)(h:i<l.length):(B9 (l.map g)).getD i []=ABl (g (l.getD i noK)):=by simp[B9,List.getD,h]
theorem T6(h:less f t=true):Nx lo hi rf f t=[⟨lo,hi,f,t⟩]:=if_pos h
theorem T7(h:less f t=false):Nx lo hi rf f t=[]:=if_neg (by rw[h];simp)
theorem ACZ(h:less rf t=true):cap rf t=rf:=if_pos h
theorem ACa(h:less rf t=false):cap rf t=t:=if_neg (by rw[h];simp)
theorem QI{l:List Cel}{c:Brd}(hc:cap rf (bl.getD k noK).lo=c)(h:Nx lo hi rf (Bh lo hi fl rf bl k).1 c=l):(Bh lo hi fl rf bl (k+1)).2=(Bh lo hi fl rf bl k).2++l:=by rw[← h,← hc];rfl
theorem QJ(h:less (Bh lo hi fl rf bl k).1 (bl.getD k noK).hi=true):(Bh lo hi fl rf bl (k+1)).1=(bl.getD k noK).hi:=if_pos h
theorem QK(h:less (Bh lo hi fl rf bl k).1 (bl.getD k noK).hi=false):(Bh lo hi fl rf bl (k+1)).1=(Bh lo hi fl rf bl k).1:=if_neg (by rw[h];simp)
theorem VI{l:List Cel}(e:k=bl.length)(h:Nx lo hi rf (Bh lo hi fl rf bl k).1 rf=l):Lj lo hi fl rf bl=(Bh lo hi fl rf bl k).2++l:=by rw[← h,e];rfl
end
def FZ:Con:={ι:=Int×Int×Int×Int×(List (List V2))×Fr×Fr,pre:=λi=>(A3 i.2.2.2.2.1=true/\i.2.2.2.2.1.length<=1048576/\i.2.2.2.2.2.1.good=true/\i.2.2.2.2.2.2.good=true)/\(-9223372036854775808<=i.2.1/\i.2.1<=9223372036854775807)/\(-9223372036854775808<=i.2.2.2.1/\i.2.2.2.1<=9223372036854775807),args:=λi=>[DA.agg [cI i.1,cI i.2.1,cI i.2.2.1,cI i.2.2.2.1],.one (DC.sl 66 [.sl 36 [.int,.int]] (AP i.2.2.2.2.1)),dF i.2.2.2.2.2.1,dF i.2.2.2.2.2.2],res:=λi=>⟨false,[none],[.own 72 [.bool,.sl 3 [.int],.sl 3 [.int],.bool,.sl 3 [.int],.sl 3 [.int],.bool,.sl 3 [.int],.sl 3 [.int],.bool,.sl 3 [.int],.sl 3 [.int],.bool,.sl 3 [.int],.sl 3 [.int],.bool,.sl 3 [.int],.sl 3 [.int]] (Aw (Lj i.2.2.2.2.2.1 i.2.2.2.2.2.2 (AB i.2.1) (AB i.2.2.2.1) (Aq i.2.2.2.2.1 i.2.2.2.2.2.1 i.2.2.2.2.2.2 i.2.2.2.2.1.length)))]⟩}
set_option maxHeartbeats 1600000 in
theorem Wm:FZ.Ok Tryz.prog 29:=by
 refine fok (X:=⟨tt,[(58,Fu),(59,As),(60,DZ),(61,CW)],[62,74],136,[]⟩) mixed AF (CTok.cons Tu (CTok.cons Ts (CTok.cons Tq (CTok.cons T4 (CTok.nil _))))) Tryz.func29 (λ(i:Int×Int×Int×Int×(List (List V2))×Fr×Fr)=>let a8:=L i.2.2.2.2.2.2.z.natAbs;let a9:=L i.2.2.2.2.2.1.z.natAbs;let cW:=i.2.2.2.2.2.2;let cX:=i.2.2.2.2.2.1;let b6:=decide (i.2.2.2.2.2.2.z<0);let a7:=decide (i.2.2.2.2.2.1.z<0);let Z7:=AP i.2.2.2.2.1;let Z5:=AB i.2.2.2.1;let Z3:=Aq i.2.2.2.2.1 i.2.2.2.2.2.1 i.2.2.2.2.2.2 i.2.2.2.2.1.length;[(18,.mk 25 (Nat) (λx7=>let Z2:=Bh i.2.2.2.2.2.1 i.2.2.2.2.2.2 (AB i.2.1) Z5 Z3 x7;{tm:=[(4,tP 1 0),(6,tP 2 0),(7,tP 5 0),(18,tP 8 0),(19,tP 15 0),(10,tX 22),(17,tX 23),(90,tX 24),(91,tI (nI ((B9 (Z3.map Blk.lo)).length))),(92,tI (nI x7))],en:=[(1,.box [kI i.1,kI i.2.1,kI i.2.2.1,kI i.2.2.2.1]),(2,.box [kB (decide (cX.z<0)),.ext 3,.ext 4]),(5,.box [kB (decide (cW.z<0)),.ext 6,.ext 7]),(8,.box [kB (decide ((Z2.1.l).z<0)),.ext 9,.ext 10,kB (decide ((Z2.1.r).z<0)),.ext 11,.ext 12,kB (decide ((Z2.1.lev).z<0)),.ext 13,.ext 14]),(15,.box [kB (decide ((Z5.l).z<0)),.ext 16,.ext 17,kB (decide ((Z5.r).z<0)),.ext 18,.ext 19,kB (decide ((Z5.lev).z<0)),.ext 20,.ext 21]),(3,eV (L cX.z.natAbs)),(4,eV (L cX.d)),(6,eV (L cW.z.natAbs)),(7,eV (L cW.d)),(9,eV (L (Z2.1.l).z.natAbs)),(10,eV (L (Z2.1.l).d)),(11,eV (L (Z2.1.r).z.natAbs)),(12,eV (L (Z2.1.r).d)),(13,eV (L (Z2.1.lev).z.natAbs)),(14,eV (L (Z2.1.lev).d)),(16,.own 3 [.int] (L (Z5.l).z.natAbs)),(17,.own 3 [.int] (L (Z5.l).d)),(18,.own 3 [.int] (L (Z5.r).z.natAbs)),(19,.own 3 [.int] (L (Z5.r).d)),(20,.own 3 [.int] (L (Z5.lev).z.natAbs)),(21,.own 3 [.int] (L (Z5.lev).d)),(22,.view 95 z80 (B9 (Z3.map Blk.hi)) []),(23,.own 72 z71 (Aw Z2.2)),(24,.view 95 z80 (B9 (Z3.map Blk.lo)) [])]}) (λx7=>x7<=Z3.length) (λx7=>Z3.length-x7) (λ_=>[])),(4,.mk 11 (Nat) (λx1=>let Z8:=Aq i.2.2.2.2.1 i.2.2.2.2.2.1 i.2.2.2.2.2.2 x1;{tm:=[(4,tP 1 0),(6,tP 2 0),(7,tP 5 0),(25,tX 8),(26,tI (nI (Z7.length))),(27,tI (nI x1)),(9,tX 9),(10,tX 10)],en:=[(1,.box [kI i.1,kI i.2.1,kI i.2.2.1,kI i.2.2.2.1]),(2,.box [kB a7,.ext 3,.ext 4]),(5,.box [kB b6,.ext 6,.ext 7]),(3,eV a9),(4,eV (L i.2.2.2.2.2.1.d)),(6,eV a8),(7,eV (L i.2.2.2.2.2.2.d)),(8,.view 66 [.sl 36 [.int,.int]] Z7 []),(9,.view 95 z80 (B9 (Z8.map Blk.lo)) []),(10,.view 95 z80 (B9 (Z8.map Blk.hi)) [])]}) (λx1=>x1<=i.2.2.2.2.1.length) (λx1=>i.2.2.2.2.1.length-x1) (λx1=>let Z9:=AD (i.2.2.2.2.1.getD x1 []) 0;let Z6:=spS Z9 i.2.2.2.2.2.1 i.2.2.2.2.2.2 Z9.length;let Z4:=Aq i.2.2.2.2.1 i.2.2.2.2.2.1 i.2.2.2.2.2.2 x1;let Z1:=Blk.mk Z6.1 Z6.2.1;[(9,.mk 25 (Nat) (λx3=>{tm:=[(4,tP 1 0),(6,tP 2 0),(7,tP 5 0),(9,tX 8),(10,tX 9),(13,tP 10 0),(14,tP 17 0),(25,tX 24),(26,tI (nI (Z7.length))),(27,tI (nI x1)),(16,tI (nI x3))],en:=[(1,.box [kI i.1,kI i.2.1,kI i.2.2.1,kI i.2.2.2.1]),(2,.box [kB a7,.ext 3,.ext 4]),(5,.box [kB b6,.ext 6,.ext 7]),(10,.box [kB (decide ((Z1.lo.l).z<0)),.ext 11,.ext 12,kB (decide ((Z1.lo.r).z<0)),.ext 13,.ext 14,kB (decide ((Z1.lo.lev).z<0)),.ext 15,.ext 16]),(17,.box [kB (decide ((Z1.hi.l).z<0)),.ext 18,.ext 19,kB (decide ((Z1.hi.r).z<0)),.ext 20,.ext 21,kB (decide ((Z1.hi.lev).z<0)),.ext 22,.ext 23]),(3,eV a9),(4,eV (L i.2.2.2.2.2.1.d)),(6,eV a8),(7,eV (L i.2.2.2.2.2.2.d)),(8,.view 95 z80 (B9 (Z4.map Blk.lo)) []),(9,.view 95 z80 (B9 (Z4.map Blk.hi)) []),(11,.own 3 [.int] (L (Z1.lo.l).z.natAbs)),(12,.own 3 [.int] (L (Z1.lo.l).d)),(13,.own 3 [.int] (L (Z1.lo.r).z.natAbs)),(14,.own 3 [.int] (L (Z1.lo.r).d)),(15,.own 3 [.int] (L (Z1.lo.lev).z.natAbs)),(16,.own 3 [.int] (L (Z1.lo.lev).d)),(18,.own 3 [.int] (L (Z1.hi.l).z.natAbs)),(19,.own 3 [.int] (L (Z1.hi.l).d)),(20,.own 3 [.int] (L (Z1.hi.r).z.natAbs)),(21,.own 3 [.int] (L (Z1.hi.r).d)),(22,.own 3 [.int] (L (Z1.hi.lev).z.natAbs)),(23,.own 3 [.int] (L (Z1.hi.lev).d)),(24,.view 66 [.sl 36 [.int,.int]] Z7 [])]}) (λx3=>x3<=Z4.length/\∀u,u<x3->less Z1.lo (Z4.getD u noK).lo=false) (λx3=>Z4.length-x3) (λ_=>[]))]))]) ?_
 rintro⟨lx,ly,hx,hy,ls,lo,hi⟩ a4;have a4:(A3 ls=true/\ls.length<=1048576/\lo.good=true/\hi.good=true)/\(-9223372036854775808<=ly/\ly<=9223372036854775807)/\(-9223372036854775808<=hy/\hy<=9223372036854775807):=a4
 refine AG (q:=let a5:=L (hi).d;let a6:=L (lo).d;let cD:=L hi.z.natAbs;let cF:=L lo.z.natAbs;let aS:=AP ls;let bS:=L (hi).z.natAbs;let bT:=L (lo).z.natAbs;let bU:=Nat.beq 9 9=true;let a3:=List Dat;let cG:=vB (decide (hi.z<0));let cH:=vB (decide (lo.z<0));let cY:=vI (nI (aS.length));let bV:=vB (decide ((hi).z<0));let bW:=vB (decide ((lo).z<0));let a9:=AB ly;let Z6:=AB hy;let aA:=L (Z6.r).d;let aB:=L (Z6.l).d;let aC:=L (Z6.lev).d;let aD:=L (Z6.r).z.natAbs;let aE:=L (Z6.l).z.natAbs;let aF:=L (Z6.lev).z.natAbs;let aG:=decide ((Z6.r).z<0);let aH:=decide ((Z6.l).z<0);let aI:=decide ((Z6.lev).z<0);let Z2:=Aq ls lo hi ls.length;let a8:=B9 (Z2.map Blk.hi);let bX:=(a8.length:Int);let a7:=B9 (Z2.map Blk.lo);let cJ:=nI (a7.length);let bY:=vI cJ;(∃x1:Nat,(x1<=ls.length)/\((rf cY)/\(vI (0:Int)=vI (nI x1))/\(rf (vI lx))/\(rf (vI ly))/\(rf (vI hx))/\(rf (vI hy))/\(rf cH)/\(rf cG)/\(rf cF)/\(rf (L lo.d))/\(rf cD)/\(rf (L hi.d))/\(rf aS)/\(([]:List a3)=(B9 ((Aq ls lo hi x1).map Blk.lo)))/\(([]:List a3)=(B9 ((Aq ls lo hi x1).map Blk.hi)))))/\∀x1:Nat,let d1:=AD (ls.getD x1 []) 0;let cK:=wR ((nI x1)+(1:Int));let eS:=spS d1 lo hi d1.length;let b7:=Aq ls lo hi x1;let b6:=B9 (b7.map Blk.hi);let cZ:=(b6.length:Int);let Z5:=B9 (b7.map Blk.lo);let cN:=(Z5.length:Int);let Z1:=Blk.mk eS.1 eS.2.1;let bH:=L (Z1.hi.r).d;let bI:=L (Z1.hi.l).d;let aT:=L (Z1.lo.r).d;let aU:=L (Z1.lo.l).d;let e4:=L (Z1.hi.r).z.natAbs;let e5:=L (Z1.hi.l).z.natAbs;let e6:=decide ((Z1.hi.r).z<0);let e7:=decide ((Z1.hi.l).z<0);let d2:=L (Z1.lo.r).z.natAbs;let d3:=L (Z1.lo.l).z.natAbs;let d0:=Z1.hi.lev;let bJ:=L d0.z.natAbs;let e8:=decide (d0.z<0);let d4:=decide ((Z1.lo.r).z<0);let d5:=decide ((Z1.lo.l).z<0);let cO:=Z1.lo.lev;let d6:=L cO.z.natAbs;let d7:=decide (cO.z<0);(x1<=ls.length)->(ifB ((decide ((nI x1)<(nI (aS.length))))) ((0<=(nI x1)/\(nI x1)<(aS.length:Int))/\((x1<aS.length)/\(∃i1:(List V2)×Fr×Fr,let Z9:=spS (AD i1.1 0) i1.2.1 i1.2.2 (AD i1.1 0).length;[DA.one (DC.sl 36 [.int,.int] ((((aS.getD x1 []).getD 0 (.int 0))).r)),dF lo,dF hi]=Fu.args i1/\Fu.pre i1/\(ifB ((!(decide (Z9.2.2=2)))) (∃y2:Nat,(y2<=ls.length)/\(ls.length-y2<ls.length-x1)/\((rf cY)/\(vI cK=vI (nI y2))/\(rf (vI lx))/\(rf (vI ly))/\(rf (vI hx))/\(rf (vI hy))/\(rf cH)/\(rf cG)/\(rf cF)/\(rf (L lo.d))/\(rf cD)/\(rf (L hi.d))/\(rf aS)/\(Z5=(B9 ((Aq ls lo hi y2).map Blk.lo)))/\(b6=(B9 ((Aq ls lo hi y2).map Blk.hi))))) ((∃x3:Nat,(x3<=b7.length/\∀u,u<x3->less Z1.lo (b7.getD u noK).lo=false)/\((rf cY)/\(rf (vI (nI x1)))/\(vI (0:Int)=vI (nI x3))/\(rf (vI lx))/\(rf (vI ly))/\(rf (vI hx))/\(rf (vI hy))/\(rf cH)/\(rf cG)/\(vB (decide (Z9.1.l.z<0))=vB d5)/\(vB (decide (Z9.1.r.z<0))=vB d4)/\(vB (decide ((Z9.1.lev).z<0))=vB d7)/\(vB (decide (Z9.2.1.l.z<0))=vB e7)/\(vB (decide (Z9.2.1.r.z<0))=vB e6)/\(vB (decide ((Z9.2.1.lev).z<0))=vB e8)/\(rf cF)/\(rf (L lo.d))/\(rf cD)/\(rf (L hi.d))/\(rf Z5)/\(rf b6)/\(L Z9.1.l.z.natAbs=d3)/\(L Z9.1.l.d=aU)/\(L Z9.1.r.z.natAbs=d2)/\(L Z9.1.r.d=aT)/\(L (Z9.1.lev).z.natAbs=d6)/\(L (Z9.1.lev).d=(L cO.d))/\(L Z9.2.1.l.z.natAbs=e5)/\(L Z9.2.1.l.d=bI)/\(L Z9.2.1.r.z.natAbs=e4)/\(L Z9.2.1.r.d=bH)/\(L (Z9.2.1.lev).z.natAbs=bJ)/\(L (Z9.2.1.lev).d=(L d0.d))/\(rf aS)))/\∀x3:Nat,let bK:=Z5.take x3;let bL:=b6.take x3;let bM:=(nI x3)<=cZ;let bN:=(nI x3)<=cN;let e9:=(0:Int)<=(nI x3);let eK:=(Z5.take (cN.toNat)).drop x3;let eL:=(b6.take (cZ.toNat)).drop x3;let bO:=Z5.getD x3 [];let eT:=(([]:List a3)++bK).length+([[Dat.bool d5,Dat.sl d3,Dat.sl aU,Dat.bool d4,Dat.sl d2,Dat.sl aT,Dat.bool d7,Dat.sl d6,Dat.sl (L cO.d)]]:List a3).length<=1073741824;let eU:=(([]:List a3)++bL).length+([[Dat.bool e7,Dat.sl e5,Dat.sl bI,Dat.bool e6,Dat.sl e4,Dat.sl bH,Dat.bool e8,Dat.sl bJ,Dat.sl (L d0.d)]]:List a3).length<=1073741824;let Z8:=(([]:List a3)++bK)++([[Dat.bool d5,Dat.sl d3,Dat.sl aU,Dat.bool d4,Dat.sl d2,Dat.sl aT,Dat.bool d7,Dat.sl d6,Dat.sl (L cO.d)]]:List a3);let d8:=Z8.length+eK.length<=1073741824;let Z7:=(([]:List a3)++bL)++([[Dat.bool e7,Dat.sl e5,Dat.sl bI,Dat.bool e6,Dat.sl e4,Dat.sl bH,Dat.bool e8,Dat.sl bJ,Dat.sl (L d0.d)]]:List a3);let d9:=Z7.length+eL.length<=1073741824;(x3<=b7.length/\∀u,u<x3->less Z1.lo (b7.getD u noK).lo=false)->(ifB ((decide ((nI x3)<(nI (Z5.length))))) ((0<=(nI x3)/\(nI x3)<cN)/\((x3<Z5.length)/\(∃i2:Brd×Brd,[DA.agg [cB d5,cS d3,cS aU,cB d4,cS d2,cS aT,cB d7,cS d6,cS (L cO.d)],DA.agg [cB (((bO.getD 0 (.int 0))).b),cS (((bO.getD 1 (.int 0))).r),cS (((bO.getD 2 (.int 0))).r),cB (((bO.getD 3 (.int 0))).b),cS (((bO.getD 4 (.int 0))).r),cS (((bO.getD 5 (.int 0))).r),cB (((bO.getD 6 (.int 0))).b),cS (((bO.getD 7 (.int 0))).r),cS (((bO.getD 8 (.int 0))).r)]]=As.args i2/\As.pre i2/\(ifB ((!(decide (Fr.cmp i2.1.lev i2.2.lev<0)))) (∃y4:Nat,(y4<=b7.length/\∀u,u<y4->less Z1.lo (b7.getD u noK).lo=false)/\(b7.length-y4<b7.length-x3)/\((rf cY)/\(rf (vI (nI x1)))/\(vI (wR ((nI x3)+(1:Int)))=vI (nI y4))/\(rf (vI lx))/\(rf (vI ly))/\(rf (vI hx))/\(rf (vI hy))/\(rf cH)/\(rf cG)/\(rf (vB d5))/\(rf (vB d4))/\(rf (vB d7))/\(rf (vB e7))/\(rf (vB e6))/\(rf (vB e8))/\(rf cF)/\(rf (L lo.d))/\(rf cD)/\(rf (L hi.d))/\(rf Z5)/\(rf b6)/\(rf d3)/\(rf aU)/\(rf d2)/\(rf aT)/\(rf d6)/\(rf (L cO.d))/\(rf e5)/\(rf bI)/\(rf e4)/\(rf bH)/\(rf bJ)/\(rf (L d0.d))/\(rf aS))) (bU/\((0<=(0:Int))/\(e9/\(bN/\((([]:List a3).length+bK.length<=1073741824)/\(eT/\(bU/\((0<=(nI x3))/\(bN/\((cN<=cN)/\(d8/\(bU/\((0<=(0:Int))/\(e9/\(bM/\((([]:List a3).length+bL.length<=1073741824)/\(eU/\(bU/\((0<=(nI x3))/\(bM/\((cZ<=cZ)/\(d9/\(∃y5:Nat,(y5<=ls.length)/\(ls.length-y5<ls.length-x1)/\((rf cY)/\(vI cK=vI (nI y5))/\(rf (vI lx))/\(rf (vI ly))/\(rf (vI hx))/\(rf (vI hy))/\(rf cH)/\(rf cG)/\(rf cF)/\(rf (L lo.d))/\(rf cD)/\(rf (L hi.d))/\(rf aS)/\((Z8++eK)=(B9 ((Aq ls lo hi y5).map Blk.lo)))/\((Z7++eL)=(B9 ((Aq ls lo hi y5).map Blk.hi))))))))))))))))))))))))))))))) (bU/\((0<=(0:Int))/\(e9/\(bN/\((([]:List a3).length+bK.length<=1073741824)/\(eT/\(bU/\((0<=(nI x3))/\(bN/\((cN<=cN)/\(d8/\(bU/\((0<=(0:Int))/\(e9/\(bM/\((([]:List a3).length+bL.length<=1073741824)/\(eU/\(bU/\((0<=(nI x3))/\(bM/\((cZ<=cZ)/\(d9/\(∃y6:Nat,(y6<=ls.length)/\(ls.length-y6<ls.length-x1)/\((rf cY)/\(vI cK=vI (nI y6))/\(rf (vI lx))/\(rf (vI ly))/\(rf (vI hx))/\(rf (vI hy))/\(rf cH)/\(rf cG)/\(rf cF)/\(rf (L lo.d))/\(rf cD)/\(rf (L hi.d))/\(rf aS)/\((Z8++eK)=(B9 ((Aq ls lo hi y6).map Blk.lo)))/\((Z7++eL)=(B9 ((Aq ls lo hi y6).map Blk.hi))))))))))))))))))))))))))))))))) (∃i3:Int,let bP:=AB i3;[DA.one (cI ly)]=DZ.args i3/\DZ.pre i3/\(∃i4:Int,let bQ:=AB i4;[DA.one (cI hy)]=DZ.args i4/\DZ.pre i4/\((∃x7:Nat,let b8:=Bh lo hi a9 Z6 Z2 x7;(x7<=Z2.length)/\((vI (nI (Z5.length))=vI cJ)/\(vI (0:Int)=vI (nI x7))/\(rf (vI lx))/\(rf (vI ly))/\(rf (vI hx))/\(rf (vI hy))/\(rf cH)/\(rf cG)/\(vB (decide (bP.l.z<0))=vB (decide ((b8.1.l).z<0)))/\(vB (decide (bP.r.z<0))=vB (decide ((b8.1.r).z<0)))/\(vB (decide ((bP.lev).z<0))=vB (decide ((b8.1.lev).z<0)))/\(vB (decide (bQ.l.z<0))=vB aH)/\(vB (decide (bQ.r.z<0))=vB aG)/\(vB (decide ((bQ.lev).z<0))=vB aI)/\(rf cF)/\(rf (L lo.d))/\(rf cD)/\(rf (L hi.d))/\(L bP.l.z.natAbs=(L (b8.1.l).z.natAbs))/\(L bP.l.d=(L (b8.1.l).d))/\(L bP.r.z.natAbs=(L (b8.1.r).z.natAbs))/\(L bP.r.d=(L (b8.1.r).d))/\(L (bP.lev).z.natAbs=(L (b8.1.lev).z.natAbs))/\(L (bP.lev).d=(L (b8.1.lev).d))/\(L bQ.l.z.natAbs=aE)/\(L bQ.l.d=aB)/\(L bQ.r.z.natAbs=aD)/\(L bQ.r.d=aA)/\(L (bQ.lev).z.natAbs=aF)/\(L (bQ.lev).d=aC)/\(b6=a8)/\(([]:List a3)=(Aw b8.2))/\(Z5=a7)))/\∀x7:Nat,let bZ:=x7<a8.length;let c0:=wR ((nI x7)+(1:Int));let bR:=a7.getD x7 [];let cP:=((bR.getD 8 (.int 0))).r;let cQ:=((bR.getD 7 (.int 0))).r;let cR:=((bR.getD 6 (.int 0))).b;let cT:=((bR.getD 5 (.int 0))).r;let eM:=((bR.getD 4 (.int 0))).r;let eN:=((bR.getD 3 (.int 0))).b;let eO:=((bR.getD 2 (.int 0))).r;let eP:=((bR.getD 1 (.int 0))).r;let eQ:=((bR.getD 0 (.int 0))).b;let Z4:=a8.getD x7 [];let c1:=(Z4.getD 8 (.int 0));let c2:=(Z4.getD 7 (.int 0));let c3:=(Z4.getD 5 (.int 0));let c4:=(Z4.getD 4 (.int 0));let c5:=(Z4.getD 2 (.int 0));let c6:=(Z4.getD 1 (.int 0));let c7:=((Z4.getD 6 (.int 0))).b;let c8:=((Z4.getD 3 (.int 0))).b;let c9:=((Z4.getD 0 (.int 0))).b;let Z3:=Bh lo hi a9 Z6 Z2 x7;let aV:=Aw Z3.2;let aJ:=L (Z3.1.r).d;let aK:=L (Z3.1.l).d;let aL:=L (Z3.1.lev).d;let aM:=L (Z3.1.r).z.natAbs;let aN:=L (Z3.1.l).z.natAbs;let aO:=L (Z3.1.lev).z.natAbs;let aP:=decide ((Z3.1.r).z<0);let aQ:=decide ((Z3.1.l).z<0);let aR:=decide ((Z3.1.lev).z<0);(x7<=Z2.length)->(ifB ((decide ((nI x7)<cJ))) ((0<=(nI x7)/\(nI x7)<(a7.length:Int))/\((x7<a7.length)/\(∃i5:Brd×Brd,[DA.agg [cB aH,cS aE,cS aB,cB aG,cS aD,cS aA,cB aI,cS aF,cS aC],DA.agg [cB eQ,cS eP,cS eO,cB eN,cS eM,cS cT,cB cR,cS cQ,cS cP]]=As.args i5/\As.pre i5/\(ifB ((decide (Fr.cmp i5.1.lev i5.2.lev<0))) (∃i6:Brd×Brd,[DA.agg [cB aQ,cS aN,cS aK,cB aP,cS aM,cS aJ,cB aR,cS aO,cS aL],DA.agg [cB aH,cS aE,cS aB,cB aG,cS aD,cS aA,cB aI,cS aF,cS aC]]=As.args i6/\As.pre i6/\(ifB ((decide (Fr.cmp i6.1.lev i6.2.lev<0))) (∃i7:Fr×Fr×Brd×Brd,let dC:=decide (i7.2.2.2.r.z<0);let dD:=decide (i7.2.2.2.l.z<0);let dE:=decide (i7.2.2.1.r.z<0);let dG:=decide (i7.2.2.1.l.z<0);let cW:=aV++([[Dat.bool (decide (i7.1.z<0)),Dat.sl (L i7.1.z.natAbs),Dat.sl (L i7.1.d),Dat.bool (decide (i7.2.1.z<0)),Dat.sl (L i7.2.1.z.natAbs),Dat.sl (L i7.2.1.d),Dat.bool dG,Dat.sl (L i7.2.2.1.l.z.natAbs),Dat.sl (L i7.2.2.1.l.d),Dat.bool dE,Dat.sl (L i7.2.2.1.r.z.natAbs),Dat.sl (L i7.2.2.1.r.d),Dat.bool dD,Dat.sl (L i7.2.2.2.l.z.natAbs),Dat.sl (L i7.2.2.2.l.d),Dat.bool dC,Dat.sl (L i7.2.2.2.r.z.natAbs),Dat.sl (L i7.2.2.2.r.d)]]:List a3);[dF lo,dF hi,DA.agg [cB aQ,cS aN,cS aK,cB aP,cS aM,cS aJ,cB aR,cS aO,cS aL],DA.agg [cB aH,cS aE,cS aB,cB aG,cS aD,cS aA,cB aI,cS aF,cS aC]]=CW.args i7/\CW.pre i7/\((aV.length+([[Dat.bool (decide (i7.1.z<0)),Dat.sl (L i7.1.z.natAbs),Dat.sl (L i7.1.d),Dat.bool (decide (i7.2.1.z<0)),Dat.sl (L i7.2.1.z.natAbs),Dat.sl (L i7.2.1.d),Dat.bool dG,Dat.sl (L i7.2.2.1.l.z.natAbs),Dat.sl (L i7.2.2.1.l.d),Dat.bool dE,Dat.sl (L i7.2.2.1.r.z.natAbs),Dat.sl (L i7.2.2.1.r.d),Dat.bool dD,Dat.sl (L i7.2.2.2.l.z.natAbs),Dat.sl (L i7.2.2.2.l.d),Dat.bool dC,Dat.sl (L i7.2.2.2.r.z.natAbs),Dat.sl (L i7.2.2.2.r.d)]]:List a3).length<=1073741824)/\((0<=(nI x7)/\(nI x7)<bX)/\(bZ/\(∃i8:Brd×Brd,[DA.agg [cB aQ,cS aN,cS aK,cB aP,cS aM,cS aJ,cB aR,cS aO,cS aL],DA.agg [cB c9,cS (c6.r),cS (c5.r),cB c8,cS (c4.r),cS (c3.r),cB c7,cS (c2.r),cS (c1.r)]]=As.args i8/\As.pre i8/\(ifB ((decide (Fr.cmp i8.1.lev i8.2.lev<0))) ((0<=(nI x7)/\(nI x7)<bX)/\(bZ/\(∃y8:Nat,let b9:=Bh lo hi a9 Z6 Z2 y8;(y8<=Z2.length)/\(Z2.length-y8<Z2.length-x7)/\((rf bY)/\(vI c0=vI (nI y8))/\(rf (vI lx))/\(rf (vI ly))/\(rf (vI hx))/\(rf (vI hy))/\(rf bW)/\(rf bV)/\(vB c9=vB (decide ((b9.1.l).z<0)))/\(vB c8=vB (decide ((b9.1.r).z<0)))/\(vB c7=vB (decide ((b9.1.lev).z<0)))/\(rf (vB aH))/\(rf (vB aG))/\(rf (vB aI))/\(rf bT)/\(rf a6)/\(rf bS)/\(rf a5)/\(c6.r=(L (b9.1.l).z.natAbs))/\(c5.r=(L (b9.1.l).d))/\(c4.r=(L (b9.1.r).z.natAbs))/\(c3.r=(L (b9.1.r).d))/\(c2.r=(L (b9.1.lev).z.natAbs))/\(c1.r=(L (b9.1.lev).d))/\(rf aE)/\(rf aB)/\(rf aD)/\(rf aA)/\(rf aF)/\(rf aC)/\(rf a8)/\(cW=(Aw b9.2))/\(rf a7))))) (∃y9:Nat,let bA:=Bh lo hi a9 Z6 Z2 y9;(y9<=Z2.length)/\(Z2.length-y9<Z2.length-x7)/\((rf bY)/\(vI c0=vI (nI y9))/\(rf (vI lx))/\(rf (vI ly))/\(rf (vI hx))/\(rf (vI hy))/\(rf bW)/\(rf bV)/\(vB aQ=vB (decide ((bA.1.l).z<0)))/\(vB aP=vB (decide ((bA.1.r).z<0)))/\(vB aR=vB (decide ((bA.1.lev).z<0)))/\(rf (vB aH))/\(rf (vB aG))/\(rf (vB aI))/\(rf bT)/\(rf a6)/\(rf bS)/\(rf a5)/\(aN=(L (bA.1.l).z.natAbs))/\(aK=(L (bA.1.l).d))/\(aM=(L (bA.1.r).z.natAbs))/\(aJ=(L (bA.1.r).d))/\(aO=(L (bA.1.lev).z.natAbs))/\(aL=(L (bA.1.lev).d))/\(rf aE)/\(rf aB)/\(rf aD)/\(rf aA)/\(rf aF)/\(rf aC)/\(rf a8)/\(cW=(Aw bA.2))/\(rf a7))))))))) ((0<=(nI x7)/\(nI x7)<bX)/\(bZ/\(∃i9:Brd×Brd,[DA.agg [cB aQ,cS aN,cS aK,cB aP,cS aM,cS aJ,cB aR,cS aO,cS aL],DA.agg [cB c9,cS (c6.r),cS (c5.r),cB c8,cS (c4.r),cS (c3.r),cB c7,cS (c2.r),cS (c1.r)]]=As.args i9/\As.pre i9/\(ifB ((decide (Fr.cmp i9.1.lev i9.2.lev<0))) ((0<=(nI x7)/\(nI x7)<bX)/\(bZ/\(∃eA:Nat,let bB:=Bh lo hi a9 Z6 Z2 eA;(eA<=Z2.length)/\(Z2.length-eA<Z2.length-x7)/\((rf bY)/\(vI c0=vI (nI eA))/\(rf (vI lx))/\(rf (vI ly))/\(rf (vI hx))/\(rf (vI hy))/\(rf bW)/\(rf bV)/\(vB c9=vB (decide ((bB.1.l).z<0)))/\(vB c8=vB (decide ((bB.1.r).z<0)))/\(vB c7=vB (decide ((bB.1.lev).z<0)))/\(rf (vB aH))/\(rf (vB aG))/\(rf (vB aI))/\(rf bT)/\(rf a6)/\(rf bS)/\(rf a5)/\(c6.r=(L (bB.1.l).z.natAbs))/\(c5.r=(L (bB.1.l).d))/\(c4.r=(L (bB.1.r).z.natAbs))/\(c3.r=(L (bB.1.r).d))/\(c2.r=(L (bB.1.lev).z.natAbs))/\(c1.r=(L (bB.1.lev).d))/\(rf aE)/\(rf aB)/\(rf aD)/\(rf aA)/\(rf aF)/\(rf aC)/\(rf a8)/\(aV=(Aw bB.2))/\(rf a7))))) (∃eB:Nat,let bC:=Bh lo hi a9 Z6 Z2 eB;(eB<=Z2.length)/\(Z2.length-eB<Z2.length-x7)/\((rf bY)/\(vI c0=vI (nI eB))/\(rf (vI lx))/\(rf (vI ly))/\(rf (vI hx))/\(rf (vI hy))/\(rf bW)/\(rf bV)/\(vB aQ=vB (decide ((bC.1.l).z<0)))/\(vB aP=vB (decide ((bC.1.r).z<0)))/\(vB aR=vB (decide ((bC.1.lev).z<0)))/\(rf (vB aH))/\(rf (vB aG))/\(rf (vB aI))/\(rf bT)/\(rf a6)/\(rf bS)/\(rf a5)/\(aN=(L (bC.1.l).z.natAbs))/\(aK=(L (bC.1.l).d))/\(aM=(L (bC.1.r).z.natAbs))/\(aJ=(L (bC.1.r).d))/\(aO=(L (bC.1.lev).z.natAbs))/\(aL=(L (bC.1.lev).d))/\(rf aE)/\(rf aB)/\(rf aD)/\(rf aA)/\(rf aF)/\(rf aC)/\(rf a8)/\(aV=(Aw bC.2))/\(rf a7))))))))) (∃eC:Brd×Brd,[DA.agg [cB aQ,cS aN,cS aK,cB aP,cS aM,cS aJ,cB aR,cS aO,cS aL],DA.agg [cB eQ,cS eP,cS eO,cB eN,cS eM,cS cT,cB cR,cS cQ,cS cP]]=As.args eC/\As.pre eC/\(ifB ((decide (Fr.cmp eC.1.lev eC.2.lev<0))) (∃a0:Fr×Fr×Brd×Brd,let dH:=L a0.2.2.2.r.z.natAbs;let dI:=L a0.2.2.2.l.z.natAbs;let dJ:=L a0.2.2.1.r.z.natAbs;let dK:=L a0.2.2.1.l.z.natAbs;let dL:=decide (a0.2.1.z<0);let dM:=decide (a0.2.2.2.r.z<0);let dN:=decide (a0.2.2.2.l.z<0);let dO:=decide (a0.2.2.1.r.z<0);let dP:=decide (a0.2.2.1.l.z<0);let cX:=aV++([[Dat.bool (decide (a0.1.z<0)),Dat.sl (L a0.1.z.natAbs),Dat.sl (L a0.1.d),Dat.bool dL,Dat.sl (L a0.2.1.z.natAbs),Dat.sl (L a0.2.1.d),Dat.bool dP,Dat.sl dK,Dat.sl (L a0.2.2.1.l.d),Dat.bool dO,Dat.sl dJ,Dat.sl (L a0.2.2.1.r.d),Dat.bool dN,Dat.sl dI,Dat.sl (L a0.2.2.2.l.d),Dat.bool dM,Dat.sl dH,Dat.sl (L a0.2.2.2.r.d)]]:List a3);[dF lo,dF hi,DA.agg [cB aQ,cS aN,cS aK,cB aP,cS aM,cS aJ,cB aR,cS aO,cS aL],DA.agg [cB eQ,cS eP,cS eO,cB eN,cS eM,cS cT,cB cR,cS cQ,cS cP]]=CW.args a0/\CW.pre a0/\((aV.length+([[Dat.bool (decide (a0.1.z<0)),Dat.sl (L a0.1.z.natAbs),Dat.sl (L a0.1.d),Dat.bool dL,Dat.sl (L a0.2.1.z.natAbs),Dat.sl (L a0.2.1.d),Dat.bool dP,Dat.sl dK,Dat.sl (L a0.2.2.1.l.d),Dat.bool dO,Dat.sl dJ,Dat.sl (L a0.2.2.1.r.d),Dat.bool dN,Dat.sl dI,Dat.sl (L a0.2.2.2.l.d),Dat.bool dM,Dat.sl dH,Dat.sl (L a0.2.2.2.r.d)]]:List a3).length<=1073741824)/\((0<=(nI x7)/\(nI x7)<bX)/\(bZ/\(∃eD:Brd×Brd,[DA.agg [cB aQ,cS aN,cS aK,cB aP,cS aM,cS aJ,cB aR,cS aO,cS aL],DA.agg [cB c9,cS (c6.r),cS (c5.r),cB c8,cS (c4.r),cS (c3.r),cB c7,cS (c2.r),cS (c1.r)]]=As.args eD/\As.pre eD/\(ifB ((decide (Fr.cmp eD.1.lev eD.2.lev<0))) ((0<=(nI x7)/\(nI x7)<bX)/\(bZ/\(∃eE:Nat,let bD:=Bh lo hi a9 Z6 Z2 eE;(eE<=Z2.length)/\(Z2.length-eE<Z2.length-x7)/\((rf bY)/\(vI c0=vI (nI eE))/\(rf (vI lx))/\(rf (vI ly))/\(rf (vI hx))/\(rf (vI hy))/\(rf bW)/\(rf bV)/\(vB c9=vB (decide ((bD.1.l).z<0)))/\(vB c8=vB (decide ((bD.1.r).z<0)))/\(vB c7=vB (decide ((bD.1.lev).z<0)))/\(rf (vB aH))/\(rf (vB aG))/\(rf (vB aI))/\(rf bT)/\(rf a6)/\(rf bS)/\(rf a5)/\(c6.r=(L (bD.1.l).z.natAbs))/\(c5.r=(L (bD.1.l).d))/\(c4.r=(L (bD.1.r).z.natAbs))/\(c3.r=(L (bD.1.r).d))/\(c2.r=(L (bD.1.lev).z.natAbs))/\(c1.r=(L (bD.1.lev).d))/\(rf aE)/\(rf aB)/\(rf aD)/\(rf aA)/\(rf aF)/\(rf aC)/\(rf a8)/\(cX=(Aw bD.2))/\(rf a7))))) (∃eF:Nat,let bE:=Bh lo hi a9 Z6 Z2 eF;(eF<=Z2.length)/\(Z2.length-eF<Z2.length-x7)/\((rf bY)/\(vI c0=vI (nI eF))/\(rf (vI lx))/\(rf (vI ly))/\(rf (vI hx))/\(rf (vI hy))/\(rf bW)/\(rf bV)/\(vB aQ=vB (decide ((bE.1.l).z<0)))/\(vB aP=vB (decide ((bE.1.r).z<0)))/\(vB aR=vB (decide ((bE.1.lev).z<0)))/\(rf (vB aH))/\(rf (vB aG))/\(rf (vB aI))/\(rf bT)/\(rf a6)/\(rf bS)/\(rf a5)/\(aN=(L (bE.1.l).z.natAbs))/\(aK=(L (bE.1.l).d))/\(aM=(L (bE.1.r).z.natAbs))/\(aJ=(L (bE.1.r).d))/\(aO=(L (bE.1.lev).z.natAbs))/\(aL=(L (bE.1.lev).d))/\(rf aE)/\(rf aB)/\(rf aD)/\(rf aA)/\(rf aF)/\(rf aC)/\(rf a8)/\(cX=(Aw bE.2))/\(rf a7))))))))) ((0<=(nI x7)/\(nI x7)<bX)/\(bZ/\(∃eG:Brd×Brd,[DA.agg [cB aQ,cS aN,cS aK,cB aP,cS aM,cS aJ,cB aR,cS aO,cS aL],DA.agg [cB c9,cS (c6.r),cS (c5.r),cB c8,cS (c4.r),cS (c3.r),cB c7,cS (c2.r),cS (c1.r)]]=As.args eG/\As.pre eG/\(ifB ((decide (Fr.cmp eG.1.lev eG.2.lev<0))) ((0<=(nI x7)/\(nI x7)<bX)/\(bZ/\(∃eH:Nat,let bF:=Bh lo hi a9 Z6 Z2 eH;(eH<=Z2.length)/\(Z2.length-eH<Z2.length-x7)/\((rf bY)/\(vI c0=vI (nI eH))/\(rf (vI lx))/\(rf (vI ly))/\(rf (vI hx))/\(rf (vI hy))/\(rf bW)/\(rf bV)/\(vB c9=vB (decide ((bF.1.l).z<0)))/\(vB c8=vB (decide ((bF.1.r).z<0)))/\(vB c7=vB (decide ((bF.1.lev).z<0)))/\(rf (vB aH))/\(rf (vB aG))/\(rf (vB aI))/\(rf bT)/\(rf a6)/\(rf bS)/\(rf a5)/\(c6.r=(L (bF.1.l).z.natAbs))/\(c5.r=(L (bF.1.l).d))/\(c4.r=(L (bF.1.r).z.natAbs))/\(c3.r=(L (bF.1.r).d))/\(c2.r=(L (bF.1.lev).z.natAbs))/\(c1.r=(L (bF.1.lev).d))/\(rf aE)/\(rf aB)/\(rf aD)/\(rf aA)/\(rf aF)/\(rf aC)/\(rf a8)/\(aV=(Aw bF.2))/\(rf a7))))) (∃eI:Nat,let bG:=Bh lo hi a9 Z6 Z2 eI;(eI<=Z2.length)/\(Z2.length-eI<Z2.length-x7)/\((rf bY)/\(vI c0=vI (nI eI))/\(rf (vI lx))/\(rf (vI ly))/\(rf (vI hx))/\(rf (vI hy))/\(rf bW)/\(rf bV)/\(vB aQ=vB (decide ((bG.1.l).z<0)))/\(vB aP=vB (decide ((bG.1.r).z<0)))/\(vB aR=vB (decide ((bG.1.lev).z<0)))/\(rf (vB aH))/\(rf (vB aG))/\(rf (vB aI))/\(rf bT)/\(rf a6)/\(rf bS)/\(rf a5)/\(aN=(L (bG.1.l).z.natAbs))/\(aK=(L (bG.1.l).d))/\(aM=(L (bG.1.r).z.natAbs))/\(aJ=(L (bG.1.r).d))/\(aO=(L (bG.1.lev).z.natAbs))/\(aL=(L (bG.1.lev).d))/\(rf aE)/\(rf aB)/\(rf aD)/\(rf aA)/\(rf aF)/\(rf aC)/\(rf a8)/\(aV=(Aw bG.2))/\(rf a7))))))))))))) (∃eJ:Brd×Brd,[DA.agg [cB aQ,cS aN,cS aK,cB aP,cS aM,cS aJ,cB aR,cS aO,cS aL],DA.agg [cB aH,cS aE,cS aB,cB aG,cS aD,cS aA,cB aI,cS aF,cS aC]]=As.args eJ/\As.pre eJ/\(ifB ((decide (Fr.cmp eJ.1.lev eJ.2.lev<0))) (∃a1:Fr×Fr×Brd×Brd,let dQ:=L a1.2.2.2.r.z.natAbs;let dR:=L a1.2.2.2.l.z.natAbs;let dS:=L a1.2.2.1.r.z.natAbs;let dT:=L a1.2.2.1.l.z.natAbs;let dU:=decide (a1.2.1.z<0);let dV:=decide (a1.2.2.2.r.z<0);let dW:=decide (a1.2.2.2.l.z<0);let dX:=decide (a1.2.2.1.r.z<0);let dY:=decide (a1.2.2.1.l.z<0);[dF lo,dF hi,DA.agg [cB aQ,cS aN,cS aK,cB aP,cS aM,cS aJ,cB aR,cS aO,cS aL],DA.agg [cB aH,cS aE,cS aB,cB aG,cS aD,cS aA,cB aI,cS aF,cS aC]]=CW.args a1/\CW.pre a1/\((aV.length+([[Dat.bool (decide (a1.1.z<0)),Dat.sl (L a1.1.z.natAbs),Dat.sl (L a1.1.d),Dat.bool dU,Dat.sl (L a1.2.1.z.natAbs),Dat.sl (L a1.2.1.d),Dat.bool dY,Dat.sl dT,Dat.sl (L a1.2.2.1.l.d),Dat.bool dX,Dat.sl dS,Dat.sl (L a1.2.2.1.r.d),Dat.bool dW,Dat.sl dR,Dat.sl (L a1.2.2.2.l.d),Dat.bool dV,Dat.sl dQ,Dat.sl (L a1.2.2.2.r.d)]]:List a3).length<=1073741824)/\(((aV++([[Dat.bool (decide (a1.1.z<0)),Dat.sl (L a1.1.z.natAbs),Dat.sl (L a1.1.d),Dat.bool dU,Dat.sl (L a1.2.1.z.natAbs),Dat.sl (L a1.2.1.d),Dat.bool dY,Dat.sl dT,Dat.sl (L a1.2.2.1.l.d),Dat.bool dX,Dat.sl dS,Dat.sl (L a1.2.2.1.r.d),Dat.bool dW,Dat.sl dR,Dat.sl (L a1.2.2.2.l.d),Dat.bool dV,Dat.sl dQ,Dat.sl (L a1.2.2.2.r.d)]]:List a3))=Aw (Lj lo hi a9 Z6 Z2))))) ((aV=Aw (Lj lo hi a9 Z6 Z2))))))))))) (by kernel_rfl) ?_
 conv=>zeta
 delta ifB vB vI wR nI;have eW:=BE ls;have hia:=Nd ls lo hi ls.length;have hl16:=a4.1.2.1;have hj1:(B9 ((Aq ls lo hi ls.length).map Blk.lo)).length=(Aq ls lo hi ls.length).length:=by rw[Ip,List.length_map]
 have hj2:(B9 ((Aq ls lo hi ls.length).map Blk.hi)).length=(Aq ls lo hi ls.length).length:=by rw[Ip,List.length_map]
 refine⟨⟨0,by omega,?_⟩,?_⟩;refine⟨rfl,?_,rfl,rfl,rfl,rfl,rfl,rfl,rfl,rfl,rfl,rfl,rfl,?_,?_⟩;rfl;rfl;rfl;intro (k:Nat) dZ;have dZ:k<=ls.length:=dZ;refine⟨λe0=>?_,λe0=>?_⟩;simp only[nrm]at e0;rw[eW]at e0;have hk:k<ls.length:=by omega
 have eZ:=C9 a4.1.1 hk;have hit:=Nd ls lo hi k;have hl1:(B9 ((Aq ls lo hi k).map Blk.lo)).length=(Aq ls lo hi k).length:=by rw[Ip,List.length_map]
 have hl2:(B9 ((Aq ls lo hi k).map Blk.hi)).length=(Aq ls lo hi k).length:=by rw[Ip,List.length_map]
 refine ao (by omega) λo19=>?_;refine ao (by omega) λo20=>?_
 refine⟨((ls.getD k []),lo,hi),by
  rw[Be hk];rfl,by
  exact⟨eZ,a4.1.2.2.1,a4.1.2.2.2⟩,?_⟩
 refine⟨λe1=>?_,λe1=>?_⟩;simp only[nrm]at e1;have hE0:Aq ls lo hi (k+1)=(Aq ls lo hi k):=AAQ (by simpa using e1)
 refine⟨k+1,by
  trivial,by
  omega,?_⟩
 refine⟨rfl,?_,rfl,rfl,rfl,rfl,rfl,rfl,rfl,rfl,rfl,rfl,rfl,?_,?_⟩;exact AS (AC (by omega) (by omega));rw[hE0];rw[hE0];simp only[nrm]at e1;have eX:(spS (AD (ls.getD k []) 0) lo hi (AD (ls.getD k []) 0).length).2.2=2:=by simpa using e1
 refine⟨⟨0,by exact⟨Nat.zero_le _,λi h=>absurd h (Nat.not_lt_zero _)⟩,?_⟩,?_⟩;refine⟨rfl,rfl,?_,rfl,rfl,rfl,rfl,rfl,rfl,?_,?_,?_,?_,?_,?_,rfl,rfl,rfl,rfl,rfl,rfl,?_,?_,?_,?_,?_,?_,?_,?_,?_,?_,?_,?_,rfl⟩;rfl;rfl;rfl;rfl;rfl;rfl;rfl;rfl;rfl;rfl;rfl;rfl;rfl;rfl;rfl;rfl;rfl;rfl;rfl;intro (j:Nat) a2;have a2:j<=(Aq ls lo hi k).length/\∀u,u<j->less (Blk.mk (spS (AD (ls.getD k []) 0) lo hi (AD (ls.getD k []) 0).length).1 (spS (AD (ls.getD k []) 0) lo hi (AD (ls.getD k []) 0).length).2.1).lo ((Aq ls lo hi k).getD u noK).lo=false:=a2;refine And.symm ⟨λe2=>?_,λe2=>?_⟩;simp only[nrm]at e2;rw[hl1]at e2;have hI:=SG eX (QG _ _ a2.1 a2.2 (λh=>absurd h (by omega)));have f0:=a2.1;refine ao (by rfl) λo163=>?_;refine ao (by omega) λo164=>?_;refine ao (by omega) λo165=>?_;refine ao (by omega) λo166=>?_;refine ao (by simp only[List.length_append,List.length_take,List.length_drop,List.length_cons,List.length_nil];omega) λo167=>?_;refine ao (by simp only[List.length_append,List.length_take,List.length_drop,List.length_cons,List.length_nil];omega) λo168=>?_;refine ao (by rfl) λo169=>?_;refine ao (by omega) λo170=>?_;refine ao (by omega) λo171=>?_;refine ao (by omega) λo172=>?_;refine ao (by simp only[List.length_append,List.length_take,List.length_drop,List.length_cons,List.length_nil];omega) λo173=>?_;refine ao (by rfl) λo174=>?_;refine ao (by omega) λo175=>?_;refine ao (by omega) λo176=>?_;refine ao (by omega) λo177=>?_;refine ao (by simp only[List.length_append,List.length_take,List.length_drop,List.length_cons,List.length_nil];omega) λo178=>?_;refine ao (by simp only[List.length_append,List.length_take,List.length_drop,List.length_cons,List.length_nil];omega) λo179=>?_;refine ao (by rfl) λo180=>?_;refine ao (by omega) λo181=>?_;refine ao (by omega) λo182=>?_;refine ao (by omega) λo183=>?_;refine ao (by simp only[List.length_append,List.length_take,List.length_drop,List.length_cons,List.length_nil];omega) λo184=>?_
 refine⟨k+1,by
  trivial,by
  omega,?_⟩
 refine⟨rfl,?_,rfl,rfl,rfl,rfl,rfl,rfl,rfl,rfl,rfl,rfl,rfl,?_,?_⟩;exact AS (AC (by omega) (by omega));rw[hI,HN];simp;rfl;rw[hI,HN];simp;rfl;simp only[nrm]at e2;rw[hl1]at e2;have hj:j<(Aq ls lo hi k).length:=by omega
 have hJ1:=QH Blk.lo hj;refine ao (by omega) λo80=>?_;refine ao (by omega) λo81=>?_
 refine⟨((Blk.mk (spS (AD (ls.getD k []) 0) lo hi (AD (ls.getD k []) 0).length).1 (spS (AD (ls.getD k []) 0) lo hi (AD (ls.getD k []) 0).length).2.1).lo,((Aq ls lo hi k).getD j noK).lo),by
  rw[hJ1];rfl,by
  trivial,?_⟩
 refine⟨λcU=>?_,λcU=>?_⟩;try dsimp only at cU
 simp only[nrm]at cU;have hLj:=(show less (Blk.mk (spS (AD (ls.getD k []) 0) lo hi (AD (ls.getD k []) 0).length).1 (spS (AD (ls.getD k []) 0) lo hi (AD (ls.getD k []) 0).length).2.1).lo ((Aq ls lo hi k).getD j noK).lo=false by unfold less;simpa using cU)
 refine⟨j+1,by
  exact⟨by omega,Nf a2.2 hLj⟩,by
  omega,?_⟩
 refine⟨rfl,rfl,?_,rfl,rfl,rfl,rfl,rfl,rfl,rfl,rfl,rfl,rfl,rfl,rfl,rfl,rfl,rfl,rfl,rfl,rfl,rfl,rfl,rfl,rfl,rfl,rfl,rfl,rfl,rfl,rfl,rfl,rfl,rfl⟩;exact AS (AC (by omega) (by omega));try dsimp only at cU
 simp only[nrm]at cU;have hI:=SG eX (QG _ _ a2.1 a2.2 (λ_=>(show less (Blk.mk (spS (AD (ls.getD k []) 0) lo hi (AD (ls.getD k []) 0).length).1 (spS (AD (ls.getD k []) 0) lo hi (AD (ls.getD k []) 0).length).2.1).lo ((Aq ls lo hi k).getD j noK).lo=true by unfold less;simpa using cU)));have f0:=a2.1;refine ao (by rfl) λo123=>?_;refine ao (by omega) λo124=>?_;refine ao (by omega) λo125=>?_;refine ao (by omega) λo126=>?_;refine ao (by simp only[List.length_append,List.length_take,List.length_drop,List.length_cons,List.length_nil];omega) λo127=>?_;refine ao (by simp only[List.length_append,List.length_take,List.length_drop,List.length_cons,List.length_nil];omega) λo128=>?_;refine ao (by rfl) λo129=>?_;refine ao (by omega) λo130=>?_;refine ao (by omega) λo131=>?_;refine ao (by omega) λo132=>?_;refine ao (by simp only[List.length_append,List.length_take,List.length_drop,List.length_cons,List.length_nil];omega) λo133=>?_;refine ao (by rfl) λo134=>?_;refine ao (by omega) λo135=>?_;refine ao (by omega) λo136=>?_;refine ao (by omega) λo137=>?_;refine ao (by simp only[List.length_append,List.length_take,List.length_drop,List.length_cons,List.length_nil];omega) λo138=>?_;refine ao (by simp only[List.length_append,List.length_take,List.length_drop,List.length_cons,List.length_nil];omega) λo139=>?_;refine ao (by rfl) λo140=>?_;refine ao (by omega) λo141=>?_;refine ao (by omega) λo142=>?_;refine ao (by omega) λo143=>?_;refine ao (by simp only[List.length_append,List.length_take,List.length_drop,List.length_cons,List.length_nil];omega) λo144=>?_
 refine⟨k+1,by
  trivial,by
  omega,?_⟩
 refine⟨rfl,?_,rfl,rfl,rfl,rfl,rfl,rfl,rfl,rfl,rfl,rfl,rfl,?_,?_⟩;exact AS (AC (by omega) (by omega));rw[hI,HN];simp;rfl;rw[hI,HN];simp;rfl;simp only[nrm]at e0;rw[eW]at e0;have eR:k=ls.length:=by omega
 refine⟨ly,by
  rfl,by
  exact a4.2.1,?_⟩
 refine⟨hy,by
  rfl,by
  exact a4.2.2,?_⟩
 refine⟨⟨0,by omega,?_⟩,?_⟩;refine⟨?_,?_,rfl,rfl,rfl,rfl,rfl,rfl,?_,?_,?_,?_,?_,rfl,rfl,rfl,rfl,rfl,?_,?_,?_,?_,?_,?_,?_,?_,?_,?_,rfl,rfl,?_,?_,?_⟩;rw[eR];rfl;rfl;rfl;rfl;rfl;rfl;rfl;rfl;rfl;rfl;rfl;rfl;rfl;rfl;rfl;rfl;rw[eR];rfl;rw[eR];intro (n:Nat) aW;have aW:n<=(Aq ls lo hi ls.length).length:=aW;refine And.symm ⟨λaX=>?_,λaX=>?_⟩;simp only[nrm]at aX;rw[hj1]at aX;have eY:n=(Aq ls lo hi ls.length).length:=by omega
 have f1:=Ne lo hi (AB ly) (AB hy) (Aq ls lo hi ls.length) n;have f2:=EN (Bh lo hi (AB ly) (AB hy) (Aq ls lo hi ls.length) n).2
 refine⟨((Bh lo hi (AB ly) (AB hy) (Aq ls lo hi ls.length) n).1,(AB hy)),by
  rfl,by
  trivial,?_⟩
 refine And.symm ⟨λaY=>?_,λaY=>?_⟩;simp only[nrm]at aY;have hC:=VI eY (T7 (lo:=lo) (hi:=hi) (rf:=(AB hy)) (show less (Bh lo hi (AB ly) (AB hy) (Aq ls lo hi ls.length) n).1 (AB hy)=false by unfold less;simpa using aY));rw[List.append_nil]at hC;rw[hC];simp only[nrm]at aY;have hC:=VI eY (T6 (lo:=lo) (hi:=hi) (rf:=(AB hy)) (show less (Bh lo hi (AB ly) (AB hy) (Aq ls lo hi ls.length) n).1 (AB hy)=true by unfold less;simpa using aY))
 refine⟨((lo),(hi),(Bh lo hi (AB ly) (AB hy) (Aq ls lo hi ls.length) n).1,(AB hy)),by
  rfl,by
  trivial,?_⟩
 refine ao (by simp only[List.length_append,List.length_take,List.length_drop,List.length_cons,List.length_nil];omega) λo594=>?_;rw[hC,CR];rfl;simp only[nrm]at aX;rw[hj1]at aX;have hi0:n<(Aq ls lo hi ls.length).length:=by omega
 have hB1:=QH Blk.lo hi0;have hB2:=QH Blk.hi hi0;have f1:=Ne lo hi (AB ly) (AB hy) (Aq ls lo hi ls.length) n;have f2:=EN (Bh lo hi (AB ly) (AB hy) (Aq ls lo hi ls.length) n).2;refine ao (by omega) λo245=>?_;refine ao (by omega) λo246=>?_
 refine⟨((AB hy),((Aq ls lo hi ls.length).getD n noK).lo),by
  rw[hB1];rfl,by
  trivial,?_⟩
 refine⟨λaZ=>?_,λaZ=>?_⟩;simp only[nrm]at aZ;have e3:=ACZ (show less (AB hy) ((Aq ls lo hi ls.length).getD n noK).lo=true by unfold less;simpa using aZ)
 refine⟨((Bh lo hi (AB ly) (AB hy) (Aq ls lo hi ls.length) n).1,(AB hy)),by
  rfl,by
  trivial,?_⟩
 refine And.symm ⟨λb0=>?_,λb0=>?_⟩;simp only[nrm]at b0;have hE2:=QI e3 (T7 (lo:=lo) (hi:=hi) (rf:=(AB hy)) (show less (Bh lo hi (AB ly) (AB hy) (Aq ls lo hi ls.length) n).1 (AB hy)=false by unfold less;simpa using b0));rw[List.append_nil]at hE2;refine ao (by omega) λo339=>?_;refine ao (by omega) λo340=>?_
 refine⟨((Bh lo hi (AB ly) (AB hy) (Aq ls lo hi ls.length) n).1,((Aq ls lo hi ls.length).getD n noK).hi),by
  rw[hB2];rfl,by
  trivial,?_⟩
 refine And.symm ⟨λb1=>?_,λb1=>?_⟩;simp only[nrm]at b1;have hE1:=QK (show less (Bh lo hi (AB ly) (AB hy) (Aq ls lo hi ls.length) n).1 ((Aq ls lo hi ls.length).getD n noK).hi=false by unfold less;simpa using b1)
 refine⟨n+1,by
  trivial,by
  omega,?_⟩
 refine⟨rfl,?_,rfl,rfl,rfl,rfl,rfl,rfl,?_,?_,?_,rfl,rfl,rfl,rfl,rfl,rfl,rfl,?_,?_,?_,?_,?_,?_,rfl,rfl,rfl,rfl,rfl,rfl,rfl,?_,rfl⟩;exact AS (AC (by omega) (by omega));rw[hE1];rw[hE1];rw[hE1];rw[hE1];rw[hE1];rw[hE1];rw[hE1];rw[hE1];rw[hE1];rw[hE2];simp only[nrm]at b1;have hE1:=QJ (show less (Bh lo hi (AB ly) (AB hy) (Aq ls lo hi ls.length) n).1 ((Aq ls lo hi ls.length).getD n noK).hi=true by unfold less;simpa using b1);refine ao (by omega) λo345=>?_;refine ao (by omega) λo346=>?_
 refine⟨n+1,by
  trivial,by
  omega,?_⟩
 refine⟨rfl,?_,rfl,rfl,rfl,rfl,rfl,rfl,?_,?_,?_,rfl,rfl,rfl,rfl,rfl,rfl,rfl,?_,?_,?_,?_,?_,?_,rfl,rfl,rfl,rfl,rfl,rfl,rfl,?_,rfl⟩;exact AS (AC (by omega) (by omega));rw[hE1,hB2];rfl;rw[hE1,hB2];rfl;rw[hE1,hB2];rfl;rw[hE1,hB2];rfl;rw[hE1,hB2];rfl;rw[hE1,hB2];rfl;rw[hE1,hB2];rfl;rw[hE1,hB2];rfl;rw[hE1,hB2];rfl;rw[hE2];simp only[nrm]at b0;have hE2:=QI e3 (T6 (lo:=lo) (hi:=hi) (rf:=(AB hy)) (show less (Bh lo hi (AB ly) (AB hy) (Aq ls lo hi ls.length) n).1 (AB hy)=true by unfold less;simpa using b0))
 refine⟨((lo),(hi),(Bh lo hi (AB ly) (AB hy) (Aq ls lo hi ls.length) n).1,(AB hy)),by
  rfl,by
  trivial,?_⟩
 refine ao (by simp only[List.length_append,List.length_take,List.length_drop,List.length_cons,List.length_nil];omega) λo258=>?_;refine ao (by omega) λo259=>?_;refine ao (by omega) λo260=>?_
 refine⟨((Bh lo hi (AB ly) (AB hy) (Aq ls lo hi ls.length) n).1,((Aq ls lo hi ls.length).getD n noK).hi),by
  rw[hB2];rfl,by
  trivial,?_⟩
 refine And.symm ⟨λb2=>?_,λb2=>?_⟩;simp only[nrm]at b2;have hE1:=QK (show less (Bh lo hi (AB ly) (AB hy) (Aq ls lo hi ls.length) n).1 ((Aq ls lo hi ls.length).getD n noK).hi=false by unfold less;simpa using b2)
 refine⟨n+1,by
  trivial,by
  omega,?_⟩
 refine⟨rfl,?_,rfl,rfl,rfl,rfl,rfl,rfl,?_,?_,?_,rfl,rfl,rfl,rfl,rfl,rfl,rfl,?_,?_,?_,?_,?_,?_,rfl,rfl,rfl,rfl,rfl,rfl,rfl,?_,rfl⟩;exact AS (AC (by omega) (by omega));rw[hE1];rw[hE1];rw[hE1];rw[hE1];rw[hE1];rw[hE1];rw[hE1];rw[hE1];rw[hE1];rw[hE2,CR];rfl;simp only[nrm]at b2;have hE1:=QJ (show less (Bh lo hi (AB ly) (AB hy) (Aq ls lo hi ls.length) n).1 ((Aq ls lo hi ls.length).getD n noK).hi=true by unfold less;simpa using b2);refine ao (by omega) λo265=>?_;refine ao (by omega) λo266=>?_
 refine⟨n+1,by
  trivial,by
  omega,?_⟩
 refine⟨rfl,?_,rfl,rfl,rfl,rfl,rfl,rfl,?_,?_,?_,rfl,rfl,rfl,rfl,rfl,rfl,rfl,?_,?_,?_,?_,?_,?_,rfl,rfl,rfl,rfl,rfl,rfl,rfl,?_,rfl⟩;exact AS (AC (by omega) (by omega));rw[hE1,hB2];rfl;rw[hE1,hB2];rfl;rw[hE1,hB2];rfl;rw[hE1,hB2];rfl;rw[hE1,hB2];rfl;rw[hE1,hB2];rfl;rw[hE1,hB2];rfl;rw[hE1,hB2];rfl;rw[hE1,hB2];rfl;rw[hE2,CR];rfl;simp only[nrm]at aZ;have e3:=ACa (show less (AB hy) ((Aq ls lo hi ls.length).getD n noK).lo=false by unfold less;simpa using aZ)
 refine⟨((Bh lo hi (AB ly) (AB hy) (Aq ls lo hi ls.length) n).1,((Aq ls lo hi ls.length).getD n noK).lo),by
  rw[hB1];rfl,by
  trivial,?_⟩
 refine And.symm ⟨λb3=>?_,λb3=>?_⟩;simp only[nrm]at b3;have hE2:=QI e3 (T7 (lo:=lo) (hi:=hi) (rf:=(AB hy)) (show less (Bh lo hi (AB ly) (AB hy) (Aq ls lo hi ls.length) n).1 ((Aq ls lo hi ls.length).getD n noK).lo=false by unfold less;simpa using b3));rw[List.append_nil]at hE2;refine ao (by omega) λo507=>?_;refine ao (by omega) λo508=>?_
 refine⟨((Bh lo hi (AB ly) (AB hy) (Aq ls lo hi ls.length) n).1,((Aq ls lo hi ls.length).getD n noK).hi),by
  rw[hB2];rfl,by
  trivial,?_⟩
 refine And.symm ⟨λb4=>?_,λb4=>?_⟩;simp only[nrm]at b4;have hE1:=QK (show less (Bh lo hi (AB ly) (AB hy) (Aq ls lo hi ls.length) n).1 ((Aq ls lo hi ls.length).getD n noK).hi=false by unfold less;simpa using b4)
 refine⟨n+1,by
  trivial,by
  omega,?_⟩
 refine⟨rfl,?_,rfl,rfl,rfl,rfl,rfl,rfl,?_,?_,?_,rfl,rfl,rfl,rfl,rfl,rfl,rfl,?_,?_,?_,?_,?_,?_,rfl,rfl,rfl,rfl,rfl,rfl,rfl,?_,rfl⟩;exact AS (AC (by omega) (by omega));rw[hE1];rw[hE1];rw[hE1];rw[hE1];rw[hE1];rw[hE1];rw[hE1];rw[hE1];rw[hE1];rw[hE2];simp only[nrm]at b4;have hE1:=QJ (show less (Bh lo hi (AB ly) (AB hy) (Aq ls lo hi ls.length) n).1 ((Aq ls lo hi ls.length).getD n noK).hi=true by unfold less;simpa using b4);refine ao (by omega) λo513=>?_;refine ao (by omega) λo514=>?_
 refine⟨n+1,by
  trivial,by
  omega,?_⟩
 refine⟨rfl,?_,rfl,rfl,rfl,rfl,rfl,rfl,?_,?_,?_,rfl,rfl,rfl,rfl,rfl,rfl,rfl,?_,?_,?_,?_,?_,?_,rfl,rfl,rfl,rfl,rfl,rfl,rfl,?_,rfl⟩;exact AS (AC (by omega) (by omega));rw[hE1,hB2];rfl;rw[hE1,hB2];rfl;rw[hE1,hB2];rfl;rw[hE1,hB2];rfl;rw[hE1,hB2];rfl;rw[hE1,hB2];rfl;rw[hE1,hB2];rfl;rw[hE1,hB2];rfl;rw[hE1,hB2];rfl;rw[hE2];simp only[nrm]at b3;have hE2:=QI e3 (T6 (lo:=lo) (hi:=hi) (rf:=(AB hy)) (show less (Bh lo hi (AB ly) (AB hy) (Aq ls lo hi ls.length) n).1 ((Aq ls lo hi ls.length).getD n noK).lo=true by unfold less;simpa using b3))
 refine⟨(lo,hi,(Bh lo hi (AB ly) (AB hy) (Aq ls lo hi ls.length) n).1,((Aq ls lo hi ls.length).getD n noK).lo),by
  rw[hB1];rfl,by
  trivial,?_⟩
 refine ao (by simp only[List.length_append,List.length_take,List.length_drop,List.length_cons,List.length_nil];omega) λo426=>?_;refine ao (by omega) λo427=>?_;refine ao (by omega) λo428=>?_
 refine⟨((Bh lo hi (AB ly) (AB hy) (Aq ls lo hi ls.length) n).1,((Aq ls lo hi ls.length).getD n noK).hi),by
  rw[hB2];rfl,by
  trivial,?_⟩
 refine And.symm ⟨λb5=>?_,λb5=>?_⟩;simp only[nrm]at b5;have hE1:=QK (show less (Bh lo hi (AB ly) (AB hy) (Aq ls lo hi ls.length) n).1 ((Aq ls lo hi ls.length).getD n noK).hi=false by unfold less;simpa using b5)
 refine⟨n+1,by
  trivial,by
  omega,?_⟩
 refine⟨rfl,?_,rfl,rfl,rfl,rfl,rfl,rfl,?_,?_,?_,rfl,rfl,rfl,rfl,rfl,rfl,rfl,?_,?_,?_,?_,?_,?_,rfl,rfl,rfl,rfl,rfl,rfl,rfl,?_,rfl⟩;exact AS (AC (by omega) (by omega));rw[hE1];rw[hE1];rw[hE1];rw[hE1];rw[hE1];rw[hE1];rw[hE1];rw[hE1];rw[hE1];rw[hE2,CR];rfl;simp only[nrm]at b5;have hE1:=QJ (show less (Bh lo hi (AB ly) (AB hy) (Aq ls lo hi ls.length) n).1 ((Aq ls lo hi ls.length).getD n noK).hi=true by unfold less;simpa using b5);refine ao (by omega) λo433=>?_;refine ao (by omega) λo434=>?_
 refine⟨n+1,by
  trivial,by
  omega,?_⟩
 refine⟨rfl,?_,rfl,rfl,rfl,rfl,rfl,rfl,?_,?_,?_,rfl,rfl,rfl,rfl,rfl,rfl,rfl,?_,?_,?_,?_,?_,?_,rfl,rfl,rfl,rfl,rfl,rfl,rfl,?_,rfl⟩;exact AS (AC (by omega) (by omega));rw[hE1,hB2];rfl;rw[hE1,hB2];rfl;rw[hE1,hB2];rfl;rw[hE1,hB2];rfl;rw[hE1,hB2];rfl;rw[hE1,hB2];rfl;rw[hE1,hB2];rfl;rw[hE1,hB2];rfl;rw[hE1,hB2];rfl;rw[hE2,CR];rfl
end Go.Proofs.YthoidhehmmcgnaaGreat
