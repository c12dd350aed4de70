import Derived.Test.YthoidhehmmcgnaaGreatSlRkSc
import Derived.Test.YthoidhehmmcgnaaGreatSlRkSt
import Derived.Test.YthoidhehmmcgnaaGreatSlRkMk
namespace Go.Proofs.YthoidhehmmcgnaaGreat
set_option maxRecDepth 100000
set_option linter.unusedVariables false
set_option linter.unusedSimpArgs false
open Go.RowKit
def D4:Con:={ι:=Bool×(List (List Dat))×Int,pre:=λi=>Dat.has (.sl 3 [.int]) (.sl (i.2.1))/\0<=i.2.2/\i.2.2+(AA (i.2.1):Int)<=4611686018427387904,args:=λi=>[DA.agg [cB i.1,cS i.2.1],.one (cI i.2.2)],mu:=[1],new:=λi=>[AY (i.2.2) (i.2.1)],res:=λi=>⟨false,[none],[rcI (i.2.2+(AA (i.2.1):Int))]⟩}
theorem Ny:D4.Ok Tryz.prog 43:=by
 refine fok (X:=⟨tt,[(44,AJ)],[],10,[]⟩) mixed AF (CTok.cons IE (CTok.nil _)) Tryz.func43 (λ_=>[]) ?_;rintro⟨bn,bm,k⟩ a0;have a0:Dat.has (.sl 3 [.int]) (.sl (bm))/\0<=k/\k+(AA (bm):Int)<=4611686018427387904:=a0;refine AG (q:=∃i1:(List (List Dat))×Int,[DA.one (cS bm),DA.one (cI k)]=AJ.args i1/\AJ.pre i1/\(∀R1:List (List Dat),R1=AY i1.2 i1.1->((vI (i1.2+(AA i1.1:Int))=vI (k+(AA (bm):Int)))/\(R1=(AY (k) (bm)))))) (by kernel_rfl) ?_;delta vI;obtain⟨p1,h0,h1⟩:=a0
 refine⟨(bm,k),by
  rfl,by
  exact⟨p1,by omega,by omega⟩,?_⟩
 intro R1 hR1;refine⟨rfl,?_⟩;assumption
def CY:Con:={ι:=RatD×Int,pre:=λi=>Dat.has (.sl 3 [.int]) (.sl (i.1.num))/\Dat.has (.sl 3 [.int]) (.sl (i.1.den))/\0<=i.2/\i.2+(AA (i.1.num):Int)+(AA (i.1.den):Int)<=4611686018427387904,args:=λi=>[DA.agg [cB i.1.neg,cS i.1.num,cS i.1.den],.one (cI i.2)],mu:=[1,2],new:=λi=>[AY (i.2) (i.1.num),AY (i.2+(AA (i.1.num):Int)) (i.1.den)],res:=λi=>⟨false,[none],[rcI (i.2+(AA (i.1.num):Int)+(AA (i.1.den):Int))]⟩}
theorem UM:CY.Ok Tryz.prog 16:=by
 refine fok (X:=⟨tt,[(43,D4),(44,AJ)],[],14,[]⟩) mixed AF (CTok.cons Ny (CTok.cons IE (CTok.nil _))) Tryz.func16 (λ_=>[]) ?_;rintro⟨x,k⟩ a0;have a0:Dat.has (.sl 3 [.int]) (.sl (x.num))/\Dat.has (.sl 3 [.int]) (.sl (x.den))/\0<=k/\k+(AA (x.num):Int)+(AA (x.den):Int)<=4611686018427387904:=a0;refine AG (q:=∃i1:Bool×(List (List Dat))×Int,[DA.agg [cB x.neg,cS x.num],DA.one (cI k)]=D4.args i1/\D4.pre i1/\(∀R1:List (List Dat),R1=AY (i1.2.2) (i1.2.1)->(∃i2:(List (List Dat))×Int,[DA.one (cS x.den),DA.one (cI (i1.2.2+(AA (i1.2.1):Int)))]=AJ.args i2/\AJ.pre i2/\(∀R2:List (List Dat),R2=AY i2.2 i2.1->((vI (i2.2+(AA i2.1:Int))=vI (k+(AA (x.num):Int)+(AA (x.den):Int)))/\(R1=(AY (k) (x.num)))/\(R2=(AY (k+(AA (x.num):Int)) (x.den)))))))) (by kernel_rfl) ?_;delta vI;obtain⟨p1,p2,h0,h1⟩:=a0
 refine⟨(x.neg,x.num,k),by
  rfl,by
  show Dat.has (.sl 3 [.int]) (.sl (x.num))/\0<=k/\k+(AA (x.num):Int)<=4611686018427387904;exact⟨p1,by omega,by omega⟩,?_⟩
 intro R1 hR1
 refine⟨(x.den,(k+(AA (x.num):Int))),by
  rfl,by
  exact⟨p2,by omega,by omega⟩,?_⟩
 intro R2 hR2;refine⟨?_,?_,?_⟩;rfl;assumption;assumption
theorem ZM(ls:List (List V2)):∀k,k<=ls.length->Eh ls k<=Ac (AP (ls.take k))
 | 0,_=>Nat.zero_le _|k+1,h=>by
  have ih:=ZM ls k (by omega);have e:AP (ls.take (k+1))=AP (ls.take k)++AP [ls.getD k []]:=by rw[← No];congr 1;rw[List.take_add_one];simp[List.getD,show k<ls.length from h]
  have e2:Ac (AP [ls.getD k []])=(ls.getD k []).length:=by simp[AP,Ac,Ah,Dat.sz,Qd,BM]
  rw[e,F3,e2,Eh];omega
theorem Ix(r:Fr):hasRow [.bool,.sl 3 [.int],.sl 3 [.int]] (frD r):=⟨trivial,B8 3 (by have:=r.nlz;omega),B8 3 (by have:=r.nld;omega),trivial⟩
theorem VU{d:Dat}(h:d.fit):-9223372036854775808<=d.n/\d.n<=9223372036854775807:=by cases d <;> simp_all [Dat.fit,Dat.n]
theorem ABw{r:List Dat}(h:hasRow [.int,.int,.int,.int] r):Ah r=0:=JG (by decide) h
theorem ZN(lo hi:Fr)(fl rf:Brd)(bl:List Blk):(Nc lo hi fl rf bl).length<=bl.length+1:=by unfold Nc;have h:=J9 lo hi fl rf bl bl.length;rw[List.length_append];unfold ID;split <;> simp <;> omega
theorem AAc(ev:List Fr)(n:Bool)(m d:List (List Dat))(n2:Bool)(m2 d2:List (List Dat))(ly hy:Int)(ls:List (List V2)):(slR ev n m d n2 m2 d2 ly hy ls).length<=ls.length+1:=by unfold slR;split;have h1:=ZN (slA ev n m d) (slB ev n m d) (AB ly) (AB hy) (bkS ls (slA ev n m d) (slB ev n m d));have h2:=VH ls (slA ev n m d) (slB ev n m d);omega;simp
theorem EP:∀{ts us:List Ty}{a b:List Dat},hasRow ts a->hasRow us b->hasRow (ts++us) (a++b)
 | [],us,a,b,h1,h2=>by rw[hasRow.nil h1];exact h2|t::ts,us,[],b,h1,h2=>by simp[hasRow]at h1|t::ts,us,d::a,b,h1,h2=>⟨h1.1,EP h1.2 h2⟩
theorem VV(c:Cel):hasRow [.bool,.sl 3 [.int],.sl 3 [.int],.bool,.sl 3 [.int],.sl 3 [.int],.bool,.sl 3 [.int],.sl 3 [.int],.bool,.sl 3 [.int],.sl 3 [.int],.bool,.sl 3 [.int],.sl 3 [.int],.bool,.sl 3 [.int],.sl 3 [.int]] (Yt c):=EP (Ix c.a) (EP (Ix c.b) (EP (EP (Ix c.x.l) (Ix c.x.r)) (EP (Ix c.y.l) (Ix c.y.r))))
theorem ZO{l:List Cel}(h:l.length<=2000000000000):Dat.has (.sl 72 [.bool,.sl 3 [.int],.sl 3 [.int],.bool,.sl 3 [.int],.sl 3 [.int],.bool,.sl 3 [.int],.sl 3 [.int],.bool,.sl 3 [.int],.sl 3 [.int],.bool,.sl 3 [.int],.sl 3 [.int],.bool,.sl 3 [.int],.sl 3 [.int]]) (.sl (Aw l)):=⟨by rw[EN];omega,λk hk=>by
 rw[EN]at hk;have e:(Aw l).getD k []=Yt l[k]:=by simp[Aw,List.getD,hk]
 rw[e];exact VV _⟩
theorem FE:∀(a b:List Dat),Ah (a++b)=Ah a+Ah b
 | [],b=>by simp[Ah]|d::a,b=>by rw[List.cons_append,Ah,Ah,FE a b];omega
theorem K7(a:Fr):Ah (frD a)<=48:=by have z1:Ac (L a.z.natAbs)=0:=Jn (by decide) (B8 3 (by have:=a.nlz;omega));have z2:Ac (L a.d)=0:=Jn (by decide) (B8 3 (by have:=a.nld;omega));have l1:=AK a.z.natAbs;have l2:=AK a.d;have n1:=a.nlz;have n2:=a.nld;simp only[frD,Ah,Dat.sz];omega
theorem SY:∀l:List Cel,AA (Aw l)<=l.length*5202
 | []=>Nat.zero_le _|c::l=>by
  have ih:=SY l;have h1:=IY _ _ (VV c);have e1:H4 [.bool,.sl 3 [.int],.sl 3 [.int],.bool,.sl 3 [.int],.sl 3 [.int],.bool,.sl 3 [.int],.sl 3 [.int],.bool,.sl 3 [.int],.sl 3 [.int],.bool,.sl 3 [.int],.sl 3 [.int],.bool,.sl 3 [.int],.sl 3 [.int]]=18:=by simp[H4,Ty.K]
  have e2:Ah (Yt c)<=288:=by have q1:=K7 c.a;have q2:=K7 c.b;have q3:=K7 c.x.l;have q4:=K7 c.x.r;have q5:=K7 c.y.l;have q6:=K7 c.y.r;show Ah (frD c.a++(frD c.b++((frD c.x.l++frD c.x.r)++(frD c.y.l++frD c.y.r))))<=288;rw[FE,FE,FE,FE,FE];omega
  rw[e1]at h1;show An (Yt c)+AA (Aw l)<=_;rw[List.length_cons,Nat.add_mul];omega
theorem ZP{x:RatD}(h:hasRow [.bool,.sl 3 [.int],.sl 3 [.int]] [.bool x.neg,.sl x.num,.sl x.den])(hs:Ah [.bool x.neg,.sl x.num,.sl x.den]<=1048576):CS x.num x.den/\((AA x.num:Int)<=2000000000/\(AA x.den:Int)<=2000000000):=by have h1:=h.2.1;have h2:=h.2.2.1;simp only[Ah,Dat.sz]at hs;exact⟨⟨⟨by omega,h1⟩,by omega,h2⟩,F7 h1 (by omega) (by simp[H4,Ty.K]),F7 h2 (by omega) (by simp[H4,Ty.K])⟩
def EQ:Con:={ι:=(List Dat)×(List (List V2))×RatD×RatD,pre:=λi=>hasRow [.int,.int,.int,.int] i.1/\fitRow i.1/\Dat.has (.sl 59 [.sl 23 [.int,.int]]) (.sl (AP i.2.1))/\hasRow [.bool,.sl 3 [.int],.sl 3 [.int]] [.bool i.2.2.1.neg,.sl i.2.2.1.num,.sl i.2.2.1.den]/\hasRow [.bool,.sl 3 [.int],.sl 3 [.int]] [.bool i.2.2.2.neg,.sl i.2.2.2.num,.sl i.2.2.2.den],args:=λi=>[w24 i.1,.one (DC.sl 59 [.sl 23 [.int,.int]] (AP i.2.1)),DA.agg [cB i.2.2.1.neg,cS i.2.2.1.num,cS i.2.2.1.den],DA.agg [cB i.2.2.2.neg,cS i.2.2.2.num,cS i.2.2.2.den]],res:=λi=>⟨false,[none],[rcB true]⟩}
set_option maxHeartbeats 4000000 in
theorem Lr:EQ.Ok Tryz.prog 3:=by
 refine fok (X:=⟨tt,[(5,Fz),(6,Dd),(8,De),(9,Bv),(10,BK),(7,GU),(11,Dc),(12,Bm),(13,Fy),(14,BI),(15,EY),(16,CY),(17,DB),(18,Bw)],[],123,[]⟩) mixed AF (CTok.cons UI (CTok.cons ZG (CTok.cons ZJ (CTok.cons UH (CTok.cons ZH (CTok.cons ZB (CTok.cons Y9 (CTok.cons UJ (CTok.cons UG (CTok.cons SU (CTok.cons QT (CTok.cons UM (CTok.cons QU (CTok.cons QV (CTok.nil _))))))))))))))) Tryz.func3 (λ_=>[]) ?_;rintro⟨r,ls,x,y⟩ a6;have a6:hasRow [.int,.int,.int,.int] r/\fitRow r/\Dat.has (.sl 59 [.sl 23 [.int,.int]]) (.sl (AP ls))/\hasRow [.bool,.sl 3 [.int],.sl 3 [.int]] [.bool x.neg,.sl x.num,.sl x.den]/\hasRow [.bool,.sl 3 [.int],.sl 3 [.int]] [.bool y.neg,.sl y.num,.sl y.den]:=a6
 refine AG (q:=let aN:=List (List V2);let aJ:=cI (1:Int);let Z8:=(vB true=vB true);let Z5:=DC.sl 59 [.sl 23 [.int,.int]] (AP ls);let Z4:=(vB false=vB true);let Z3:=List (List Dat);∃i1:Z3×Int,let Z9:=szR (i1.1.length+Ac i1.1) i1.2;[DA.one Z5,DA.one (cI (1048576:Int))]=Fz.args i1/\Fz.pre i1/\(ifB ((decide (Z9<(0:Int)))) Z8 (∃i2:RatD×Int,let Z7:=szR (Ah [.bool i2.1.neg,.sl i2.1.num,.sl i2.1.den]) i2.2;[DA.agg [cB x.neg,cS x.num,cS x.den],DA.one (cI Z9)]=Dd.args i2/\Dd.pre i2/\(ifB ((decide (Z7<(0:Int)))) Z8 (∃i3:RatD×Int,[DA.agg [cB y.neg,cS y.num,cS y.den],DA.one (cI Z7)]=Dd.args i3/\Dd.pre i3/\(ifB ((decide ((szR (Ah [.bool i3.1.neg,.sl i3.1.num,.sl i3.1.den]) i3.2)<(0:Int)))) Z8 (∃i4:(List Dat),[w24 r]=De.args i4/\De.pre i4/\(∃i5:Z3,[DA.one Z5]=Bv.args i5/\Bv.pre i5/\(∃i6:RatD,[DA.agg [cB x.neg,cS x.num,cS x.den]]=BK.args i6/\BK.pre i6/\(∃i7:RatD,[DA.agg [cB y.neg,cS y.num,cS y.den]]=BK.args i7/\BK.pre i7/\(∃i8:Int×Int×Int×Int×aN×Bool×Z3×Z3×Bool×Z3×Z3,let Z2:=DC.sl 72 z71 (Aw (slR (evR i8.1 i8.2.1 i8.2.2.1 i8.2.2.2.1 i8.2.2.2.2.1) i8.2.2.2.2.2.1 i8.2.2.2.2.2.2.1 i8.2.2.2.2.2.2.2.1 i8.2.2.2.2.2.2.2.2.1 i8.2.2.2.2.2.2.2.2.2.1 i8.2.2.2.2.2.2.2.2.2.2 i8.2.1 i8.2.2.2.1 i8.2.2.2.2.1));[w24 i4,DA.one (DC.sl 66 [.sl 36 [.int,.int]] i5),DA.agg [cB i6.neg,cS i6.num,cS i6.den],DA.agg [cB i7.neg,cS i7.num,cS i7.den]]=GU.args i8/\GU.pre i8/\(∃i9:Z3,let Z6:=DC.sl 66 [.sl 36 [.int,.int]] i9;[DA.one Z5]=Bv.args i9/\Bv.pre i9/\(∃a2:RatD,[DA.agg [cB x.neg,cS x.num,cS x.den]]=BK.args a2/\BK.pre a2/\(∃a3:RatD,[DA.agg [cB y.neg,cS y.num,cS y.den]]=BK.args a3/\BK.pre a3/\(∃aO:(List Dat),[w24 r]=De.args aO/\De.pre aO/\(∃a0:Int×Int×Int×Int×aN×Bool×Z3×Z3×Bool×Z3×Z3,let Z1:=DC.sl 72 z71 (Aw (slR (evR a0.1 a0.2.1 a0.2.2.1 a0.2.2.2.1 a0.2.2.2.2.1) a0.2.2.2.2.2.1 a0.2.2.2.2.2.2.1 a0.2.2.2.2.2.2.2.1 a0.2.2.2.2.2.2.2.2.1 a0.2.2.2.2.2.2.2.2.2.1 a0.2.2.2.2.2.2.2.2.2.2 a0.2.1 a0.2.2.2.1 a0.2.2.2.2.1));[w24 aO,DA.one Z6,DA.agg [cB a2.neg,cS a2.num,cS a2.den],DA.agg [cB a3.neg,cS a3.num,cS a3.den]]=Dc.args a0/\Dc.pre a0/\(∃aY:Z3,[DA.one Z1,DA.one Z2]=Bm.args aY/\Bm.pre aY/\(ifB ((!true)) Z4 (∃aP:Z3,[DA.one Z5]=Bv.args aP/\Bv.pre aP/\(∃aZ:Z3,[DA.one Z6,DA.one (DC.sl 66 [.sl 36 [.int,.int]] aP)]=Fy.args aZ/\Fy.pre aZ/\(ifB ((!true)) Z4 (∃aA:RatD,[DA.agg [cB x.neg,cS x.num,cS x.den]]=BK.args aA/\BK.pre aA/\(∃b0:RatD,[DA.agg [cB a2.neg,cS a2.num,cS a2.den],DA.agg [cB aA.neg,cS aA.num,cS aA.den]]=BI.args b0/\BI.pre b0/\(ifB ((!true)) Z4 (∃aB:RatD,[DA.agg [cB y.neg,cS y.num,cS y.den]]=BK.args aB/\BK.pre aB/\(∃b1:RatD,[DA.agg [cB a3.neg,cS a3.num,cS a3.den],DA.agg [cB aB.neg,cS aB.num,cS aB.den]]=BI.args b1/\BI.pre b1/\(ifB ((!true)) Z4 (∃aK:Z3×Int,[DA.one Z6,DA.one aJ]=EY.args aK/\EY.pre aK/\(∃aC:RatD×Int,[DA.agg [cB a2.neg,cS a2.num,cS a2.den],DA.one (cI (aK.2+(AA aK.1:Int)))]=CY.args aC/\CY.pre aC/\(∃aD:RatD×Int,[DA.agg [cB a3.neg,cS a3.num,cS a3.den],DA.one (cI (aC.2+(AA (aC.1.num):Int)+(AA (aC.1.den):Int)))]=CY.args aD/\CY.pre aD/\(ifB ((!(decide ((aD.2+(AA (aD.1.num):Int)+(AA (aD.1.den):Int))<(0:Int))))) (∃b2:Z3,[DA.one Z1,DA.one Z2]=Bm.args b2/\Bm.pre b2/\(ifB ((!true)) Z4 (∃a8:Z3×Int,let b3:=a8.2+(AA a8.1:Int);let b4:=DC.sl 72 z71 (AY a8.2 a8.1);[DA.one Z1,DA.one aJ]=DB.args a8/\DB.pre a8/\(∃aL:Z3×Int,let b5:=aL.2+(AA aL.1:Int);[DA.one b4,DA.one aJ]=Bw.args aL/\Bw.pre aL/\(ifB ((decide (b5<(0:Int)))) Z4 (ifB ((b5 != b3)) Z4 (∃aQ:(List Dat),[w24 r]=De.args aQ/\De.pre aQ/\(∃aR:Z3,[DA.one Z5]=Bv.args aR/\Bv.pre aR/\(∃aE:RatD,[DA.agg [cB x.neg,cS x.num,cS x.den]]=BK.args aE/\BK.pre aE/\(∃aF:RatD,[DA.agg [cB y.neg,cS y.num,cS y.den]]=BK.args aF/\BK.pre aF/\(∃a1:Int×Int×Int×Int×aN×Bool×Z3×Z3×Bool×Z3×Z3,[w24 aQ,DA.one (DC.sl 66 [.sl 36 [.int,.int]] aR),DA.agg [cB aE.neg,cS aE.num,cS aE.den],DA.agg [cB aF.neg,cS aF.num,cS aF.den]]=Dc.args a1/\Dc.pre a1/\(∃i32:Z3,[DA.one (DC.sl 72 z71 (Aw (slR (evR a1.1 a1.2.1 a1.2.2.1 a1.2.2.2.1 a1.2.2.2.2.1) a1.2.2.2.2.2.1 a1.2.2.2.2.2.2.1 a1.2.2.2.2.2.2.2.1 a1.2.2.2.2.2.2.2.2.1 a1.2.2.2.2.2.2.2.2.2.1 a1.2.2.2.2.2.2.2.2.2.2 a1.2.1 a1.2.2.2.1 a1.2.2.2.2.1))),DA.one Z2]=Bm.args i32/\Bm.pre i32/\(ifB ((!true)) Z4 (∃aM:Z3×Int,let b6:=aM.2+(AA aM.1:Int);[DA.one b4,DA.one aJ]=Bw.args aM/\Bw.pre aM/\(ifB ((decide (b6<(0:Int)))) Z4 (ifB ((b6 != b3)) Z4 Z8)))))))))))))))) Z4))))))))))))))))))))))))))))))) (by kernel_rfl) ?_
 conv=>zeta
 delta w24 ifB vB;obtain⟨hb,hf,ha,hx,hy⟩:=a6;have f0:=VU (GI (k:=0) hf);have f1:=VU (GI (k:=1) hf);have f2:=VU (GI (k:=2) hf);have f3:=VU (GI (k:=3) hf);have hbz:=ABw hb
 refine⟨((AP ls),(1048576:Int)),by
  rfl,by
  exact⟨ha,by omega,by omega⟩,?_⟩
 refine⟨λc4=>?_,λc4=>?_⟩;simp only[nrm]at c4;exact rfl;simp only[nrm]at c4
 refine⟨(x,(szR ((AP ls).length+Ac (AP ls)) (1048576:Int))),by
  rfl,by
  try dsimp only[Dd]
  exact⟨hx,by omega,by have:=Ke c4;omega⟩,?_⟩
 refine⟨λc9=>?_,λc9=>?_⟩;simp only[nrm]at c9;exact rfl;simp only[nrm]at c9
 refine⟨(y,(szR (Ah [.bool x.neg,.sl x.num,.sl x.den]) (szR ((AP ls).length+Ac (AP ls)) (1048576:Int)))),by
  rfl,by
  try dsimp only[Dd]
  exact⟨hy,by omega,by have:=Ke c4;have:=Ke c9;omega⟩,?_⟩
 refine⟨λa9=>?_,λa9=>?_⟩;try dsimp only at a9
 simp only[nrm]at a9;exact rfl;try dsimp only at a9
 simp only[nrm]at a9;have z1:=Ke c4;have z2:=Ke c9;have z3:=Ke a9;have g3:(AP ls).length+Ac (AP ls)<=1048576:=by omega
 have gx:Ah [.bool x.neg,.sl x.num,.sl x.den]<=1048576:=by omega
 have gy:Ah [.bool y.neg,.sl y.num,.sl y.den]<=1048576:=by omega
 have rx:=ZP hx gx;have ry:=ZP hy gy;have g1:ls.length<=1048576:=by rw[BE]at g3;omega
 have g2:Eh ls ls.length<=1048576:=by have:=ZM ls ls.length (Nat.le_refl _);rw[List.take_length]at this;omega
 have hcv:(AA (AP ls):Int)<=2000000000:=F7 ha g3 (by simp[H4,Ty.K]);have hrl:=AAc (evR ((r.getD 0 (.int 0)).n) ((r.getD 1 (.int 0)).n) ((r.getD 2 (.int 0)).n) ((r.getD 3 (.int 0)).n) ls) x.neg x.num x.den y.neg y.num y.den ((r.getD 1 (.int 0)).n) ((r.getD 3 (.int 0)).n) ls;have hcl:=EN (slR (evR ((r.getD 0 (.int 0)).n) ((r.getD 1 (.int 0)).n) ((r.getD 2 (.int 0)).n) ((r.getD 3 (.int 0)).n) ls) x.neg x.num x.den y.neg y.num y.den ((r.getD 1 (.int 0)).n) ((r.getD 3 (.int 0)).n) ls);have aS:=ZO (l:=(slR (evR ((r.getD 0 (.int 0)).n) ((r.getD 1 (.int 0)).n) ((r.getD 2 (.int 0)).n) ((r.getD 3 (.int 0)).n) ls) x.neg x.num x.den y.neg y.num y.den ((r.getD 1 (.int 0)).n) ((r.getD 3 (.int 0)).n) ls)) (by omega);have hoc:=SY (slR (evR ((r.getD 0 (.int 0)).n) ((r.getD 1 (.int 0)).n) ((r.getD 2 (.int 0)).n) ((r.getD 3 (.int 0)).n) ls) x.neg x.num x.den y.neg y.num y.den ((r.getD 1 (.int 0)).n) ((r.getD 3 (.int 0)).n) ls)
 refine⟨r,by
  rfl,by
  exact⟨hb,by omega⟩,?_⟩
 refine⟨(AP ls),by
  rfl,by
  exact g3,?_⟩
 refine⟨x,by
  rfl,by
  exact gx,?_⟩
 refine⟨y,by
  rfl,by
  exact gy,?_⟩
 refine⟨(((r.getD 0 (.int 0)).n),((r.getD 1 (.int 0)).n),((r.getD 2 (.int 0)).n),((r.getD 3 (.int 0)).n),ls,x.neg,x.num,x.den,y.neg,y.num,y.den),by
  rfl,by
  try dsimp only[GU]
  exact⟨⟨g1,g2,f0,f1,f2,f3⟩,rx.1,ry.1⟩,?_⟩
 refine⟨(AP ls),by
  rfl,by
  exact g3,?_⟩
 refine⟨x,by
  rfl,by
  exact gx,?_⟩
 refine⟨y,by
  rfl,by
  exact gy,?_⟩
 refine⟨r,by
  rfl,by
  exact⟨hb,by omega⟩,?_⟩
 refine⟨(((r.getD 0 (.int 0)).n),((r.getD 1 (.int 0)).n),((r.getD 2 (.int 0)).n),((r.getD 3 (.int 0)).n),ls,x.neg,x.num,x.den,y.neg,y.num,y.den),by
  rfl,by
  try dsimp only[Dc]
  exact⟨⟨g1,g2,f0,f1,f2,f3⟩,rx.1,ry.1⟩,?_⟩
 refine⟨Aw (slR (evR ((r.getD 0 (.int 0)).n) ((r.getD 1 (.int 0)).n) ((r.getD 2 (.int 0)).n) ((r.getD 3 (.int 0)).n) ls) x.neg x.num x.den y.neg y.num y.den ((r.getD 1 (.int 0)).n) ((r.getD 3 (.int 0)).n) ls),by
  rfl,by
  try dsimp only[Bm]
  (show(Aw (slR (evR ((r.getD 0 (.int 0)).n) ((r.getD 1 (.int 0)).n) ((r.getD 2 (.int 0)).n) ((r.getD 3 (.int 0)).n) ls) x.neg x.num x.den y.neg y.num y.den ((r.getD 1 (.int 0)).n) ((r.getD 3 (.int 0)).n) ls)).length<=_;omega),?_⟩
 refine⟨λaT=>?_,λaT=>?_⟩;simp only[nrm]at aT;contradiction;simp only[nrm]at aT
 refine⟨(AP ls),by
  rfl,by
  exact g3,?_⟩
 refine⟨(AP ls),by
  rfl,by
  trivial,?_⟩
 refine⟨λaU=>?_,λaU=>?_⟩;simp only[nrm]at aU;contradiction;simp only[nrm]at aU
 refine⟨x,by
  rfl,by
  exact gx,?_⟩
 refine⟨x,by
  rfl,by
  trivial,?_⟩
 refine⟨λaV=>?_,λaV=>?_⟩;simp only[nrm]at aV;contradiction;simp only[nrm]at aV
 refine⟨y,by
  rfl,by
  exact gy,?_⟩
 refine⟨y,by
  rfl,by
  trivial,?_⟩
 refine⟨λaW=>?_,λaW=>?_⟩;simp only[nrm]at aW;contradiction;simp only[nrm]at aW
 refine⟨((AP ls),(1:Int)),by
  rfl,by
  show Dat.has (.sl 66 [.sl 36 [.int,.int]]) (.sl (AP ls))/\0<=(1:Int)/\(1:Int)+(AA (AP ls):Int)<=4611686018427387904;exact⟨X5 (by rfl) ha,by omega,by omega⟩,?_⟩
 refine⟨(x,((1:Int)+(AA (AP ls):Int))),by
  rfl,by
  try dsimp only[CY]
  exact⟨rx.1.1.2,rx.1.2.2,by omega,by omega⟩,?_⟩
 refine⟨(y,(((1:Int)+(AA (AP ls):Int))+(AA (x.num):Int)+(AA (x.den):Int))),by
  rfl,by
  try dsimp only[CY]
  exact⟨ry.1.1.2,ry.1.2.2,by omega,by omega⟩,?_⟩
 refine And.symm ⟨λaG=>?_,λaG=>?_⟩;try dsimp only at aG
 simp only[nrm]at aG;contradiction;try dsimp only at aG
 simp only[nrm]at aG
 refine⟨Aw (slR (evR ((r.getD 0 (.int 0)).n) ((r.getD 1 (.int 0)).n) ((r.getD 2 (.int 0)).n) ((r.getD 3 (.int 0)).n) ls) x.neg x.num x.den y.neg y.num y.den ((r.getD 1 (.int 0)).n) ((r.getD 3 (.int 0)).n) ls),by
  rfl,by
  try dsimp only[Bm]
  (show(Aw (slR (evR ((r.getD 0 (.int 0)).n) ((r.getD 1 (.int 0)).n) ((r.getD 2 (.int 0)).n) ((r.getD 3 (.int 0)).n) ls) x.neg x.num x.den y.neg y.num y.den ((r.getD 1 (.int 0)).n) ((r.getD 3 (.int 0)).n) ls)).length<=_;omega),?_⟩
 refine⟨λaX=>?_,λaX=>?_⟩;simp only[nrm]at aX;contradiction;simp only[nrm]at aX
 refine⟨(Aw (slR (evR ((r.getD 0 (.int 0)).n) ((r.getD 1 (.int 0)).n) ((r.getD 2 (.int 0)).n) ((r.getD 3 (.int 0)).n) ls) x.neg x.num x.den y.neg y.num y.den ((r.getD 1 (.int 0)).n) ((r.getD 3 (.int 0)).n) ls),(1:Int)),by
  rfl,by
  try dsimp only[DB]
  exact⟨aS,by omega,by omega⟩,?_⟩
 refine⟨((Aw (slR (evR ((r.getD 0 (.int 0)).n) ((r.getD 1 (.int 0)).n) ((r.getD 2 (.int 0)).n) ((r.getD 3 (.int 0)).n) ls) x.neg x.num x.den y.neg y.num y.den ((r.getD 1 (.int 0)).n) ((r.getD 3 (.int 0)).n) ls)),(1:Int)),by
  rfl,by
  try dsimp only[Bw]
  exact⟨aS,by omega,by omega⟩,?_⟩
 refine⟨λaH=>?_,λaH=>?_⟩;try dsimp only at aH
 simp only[nrm]at aH;contradiction;try dsimp only at aH
 simp only[nrm]at aH;refine⟨λaI=>?_,λaI=>?_⟩;try dsimp only at aI
 simp only[nrm]at aI;contradiction;try dsimp only at aI
 simp only[nrm]at aI
 refine⟨r,by
  rfl,by
  exact⟨hb,by omega⟩,?_⟩
 refine⟨(AP ls),by
  rfl,by
  exact g3,?_⟩
 refine⟨x,by
  rfl,by
  exact gx,?_⟩
 refine⟨y,by
  rfl,by
  exact gy,?_⟩
 refine⟨(((r.getD 0 (.int 0)).n),((r.getD 1 (.int 0)).n),((r.getD 2 (.int 0)).n),((r.getD 3 (.int 0)).n),ls,x.neg,x.num,x.den,y.neg,y.num,y.den),by
  rfl,by
  try dsimp only[Dc]
  exact⟨⟨g1,g2,f0,f1,f2,f3⟩,rx.1,ry.1⟩,?_⟩
 refine⟨Aw (slR (evR ((r.getD 0 (.int 0)).n) ((r.getD 1 (.int 0)).n) ((r.getD 2 (.int 0)).n) ((r.getD 3 (.int 0)).n) ls) x.neg x.num x.den y.neg y.num y.den ((r.getD 1 (.int 0)).n) ((r.getD 3 (.int 0)).n) ls),by
  rfl,by
  try dsimp only[Bm]
  (show(Aw (slR (evR ((r.getD 0 (.int 0)).n) ((r.getD 1 (.int 0)).n) ((r.getD 2 (.int 0)).n) ((r.getD 3 (.int 0)).n) ls) x.neg x.num x.den y.neg y.num y.den ((r.getD 1 (.int 0)).n) ((r.getD 3 (.int 0)).n) ls)).length<=_;omega),?_⟩
 refine⟨λa7=>?_,λa7=>?_⟩;simp only[nrm]at a7;contradiction;simp only[nrm]at a7
 refine⟨((Aw (slR (evR ((r.getD 0 (.int 0)).n) ((r.getD 1 (.int 0)).n) ((r.getD 2 (.int 0)).n) ((r.getD 3 (.int 0)).n) ls) x.neg x.num x.den y.neg y.num y.den ((r.getD 1 (.int 0)).n) ((r.getD 3 (.int 0)).n) ls)),(1:Int)),by
  rfl,by
  try dsimp only[Bw]
  exact⟨aS,by omega,by omega⟩,?_⟩
 refine⟨λa4=>?_,λa4=>?_⟩;try dsimp only at a4
 simp only[nrm]at a4;contradiction;try dsimp only at a4
 simp only[nrm]at a4;refine⟨λa5=>?_,λa5=>?_⟩;try dsimp only at a5
 simp only[nrm]at a5;contradiction;try dsimp only at a5
 simp only[nrm]at a5;exact rfl
theorem VW{ds:List Dat}(h:hasRow [.bool,.sl 3 [.int],.sl 3 [.int]] ds):∃x:RatD,ds=[.bool x.neg,.sl x.num,.sl x.den]:=by obtain⟨_,_,rfl,q0,h0⟩:=h.cons;obtain⟨n,rfl⟩:=Dat.has_bool q0;obtain⟨_,_,rfl,q1,h1⟩:=h0.cons;obtain⟨m,rfl⟩:=Dat.has_sl q1;obtain⟨_,_,rfl,q2,h2⟩:=h1.cons;obtain⟨d,rfl⟩:=Dat.has_sl q2;obtain rfl:=hasRow.nil h2;exact⟨⟨n,m,d⟩,rfl⟩
end Go.Proofs.YthoidhehmmcgnaaGreat
