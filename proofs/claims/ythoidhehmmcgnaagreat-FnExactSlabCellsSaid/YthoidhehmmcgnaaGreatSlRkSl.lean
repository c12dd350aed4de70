import Derived.Test.YthoidhehmmcgnaaGreatSlRkEv
namespace Go.Proofs.YthoidhehmmcgnaaGreat
set_option maxRecDepth 100000
set_option linter.unusedVariables false
set_option linter.unusedSimpArgs false
open Go.RowKit
structure Brd where
 l:Fr
 r:Fr
def Brd.lev(x:Brd):Fr:=Fr.add x.l x.r
def AB(y:Int):Brd:=⟨Fr.ofInt y,Fr.ofInt y⟩
theorem Ap(r:Fr):(L r.z.natAbs).length<=1073741824/\(L r.d).length<=1073741824:=by have h1:=r.nlz;have h2:=r.nld;rw[AK,AK];constructor <;> omega
def abv(x y:Brd):Bool:=decide (Fr.cmp x.lev y.lev>0)
def B6:Con:={ι:=Brd,pre:=λi=>True,args:=λi=>[DA.agg [cB (decide (i.l.z<0)),cS (L i.l.z.natAbs),cS (L i.l.d),cB (decide (i.r.z<0)),cS (L i.r.z.natAbs),cS (L i.r.d)]],mono:=true,res:=λi=>⟨false,[some 3],[rcB (decide ((i.lev).z<0)),.own 3 [.int] (L (i.lev).z.natAbs),.own 3 [.int] (L (i.lev).d)]⟩}
theorem Ox:B6.Ok Tryz.prog 109:=by
 refine fok (X:=⟨tt,[(143,Bd)],[],8,[]⟩) mixed AF (CTok.cons Ie (CTok.nil _)) Tryz.func109 (λ_=>[]) ?_;intro (x:Brd) a0;have a0:True:=a0;refine AG (q:=∃i1:Fr×Fr,[dF x.l,dF x.r]=Bd.args i1/\Bd.pre i1/\((eqC (Fr.add i1.1 i1.2) x.lev))) (by kernel_rfl) ?_
 refine⟨(x.l,x.r),by
  rfl,by
  trivial,?_⟩
 refine B0 ?_;rfl
def Au:Con:={ι:=Brd×Brd,pre:=λi=>True,args:=λi=>[DA.agg [cB (decide (i.1.l.z<0)),cS (L i.1.l.z.natAbs),cS (L i.1.l.d),cB (decide (i.1.r.z<0)),cS (L i.1.r.z.natAbs),cS (L i.1.r.d)],DA.agg [cB (decide (i.2.l.z<0)),cS (L i.2.l.z.natAbs),cS (L i.2.l.d),cB (decide (i.2.r.z<0)),cS (L i.2.r.z.natAbs),cS (L i.2.r.d)]],res:=λi=>⟨false,[none],[rcB (abv i.1 i.2)]⟩}
theorem We:Au.Ok Tryz.prog 70:=by
 refine fok (X:=⟨tt,[(109,B6),(81,AN)],[],11,[]⟩) mixed AF (CTok.cons Ox (CTok.cons GP (CTok.nil _))) Tryz.func70 (λ_=>[]) ?_;rintro⟨x,y⟩ a0;have a0:True:=a0;refine AG (q:=∃i1:Brd,[DA.agg [cB (decide (x.l.z<0)),cS (L x.l.z.natAbs),cS (L x.l.d),cB (decide (x.r.z<0)),cS (L x.r.z.natAbs),cS (L x.r.d)]]=B6.args i1/\B6.pre i1/\(∃i2:Brd,[DA.agg [cB (decide (y.l.z<0)),cS (L y.l.z.natAbs),cS (L y.l.d),cB (decide (y.r.z<0)),cS (L y.r.z.natAbs),cS (L y.r.d)]]=B6.args i2/\B6.pre i2/\(∃i3:Fr×Fr,[dF i1.lev,dF i2.lev]=AN.args i3/\AN.pre i3/\((vB (decide ((Fr.cmp i3.1 i3.2)>(0:Int)))=vB (abv x y)))))) (by kernel_rfl) ?_;delta vB
 refine⟨x,by
  rfl,by
  trivial,?_⟩
 refine⟨y,by
  rfl,by
  trivial,?_⟩
 refine⟨((x.lev),(y.lev)),by
  rfl,by
  trivial,?_⟩
 rfl
def FB:Con:={ι:=Int,pre:=λi=>(-9223372036854775808<=i/\i<=9223372036854775807),args:=λi=>[.one (cI i)],res:=λi=>⟨false,[some 6],[rcB (decide ((AB i).l.z<0)),.own 3 [.int] (L (AB i).l.z.natAbs),.own 3 [.int] (L (AB i).l.d),rcB (decide ((AB i).r.z<0)),.own 3 [.int] (L (AB i).r.z.natAbs),.own 3 [.int] (L (AB i).r.d)]⟩}
theorem Yk:FB.Ok Tryz.prog 68:=by
 refine fok (X:=⟨tt,[(82,AV)],[],8,[]⟩) mixed AF (CTok.cons E6 (CTok.nil _)) Tryz.func68 (λ_=>[]) ?_;intro (y:Int) a0;have a0:(-9223372036854775808<=y/\y<=9223372036854775807):=a0;refine AG (q:=∃i1:Int,[DA.one (cI y)]=AV.args i1/\AV.pre i1/\(∃i2:Int,[DA.one (cI y)]=AV.args i2/\AV.pre i2/\((eqD (Fr.ofInt i1) ((AB y).l) ((eqC (Fr.ofInt i2) ((AB y).r))))))) (by kernel_rfl) ?_
 refine⟨y,by
  rfl,by
  trivial,?_⟩
 refine⟨y,by
  rfl,by
  trivial,?_⟩
 refine Du ?_ (B0 ?_);rfl;rfl
def DZ:Con:={ι:=Int,pre:=λi=>(-9223372036854775808<=i/\i<=9223372036854775807),args:=λi=>[.one (cI i)],res:=λi=>⟨false,[some 9],[rcB (decide ((AB i).l.z<0)),.own 3 [.int] (L (AB i).l.z.natAbs),.own 3 [.int] (L (AB i).l.d),rcB (decide ((AB i).r.z<0)),.own 3 [.int] (L (AB i).r.z.natAbs),.own 3 [.int] (L (AB i).r.d),rcB (decide (((AB i).lev).z<0)),.own 3 [.int] (L ((AB i).lev).z.natAbs),.own 3 [.int] (L ((AB i).lev).d)]⟩}
theorem Tq:DZ.Ok Tryz.prog 60:=by
 refine fok (X:=⟨tt,[(51,AL),(76,Aa),(96,BT)],[],13,[]⟩) mixed AF (CTok.cons CO (CTok.cons JH (CTok.cons Gz (CTok.nil _)))) Tryz.func60 (λ_=>[]) ?_;intro (y:Int) a0;have a0:(-9223372036854775808<=y/\y<=9223372036854775807):=a0;refine AG (q:=∃i1:Int,let Z1:=Fr.ofInt i1;[DA.one (cI y)]=AL.args i1/\AL.pre i1/\(∃i2:Bool×(List (List Dat))×(List (List Dat)),[dF Z1]=Aa.args i2/\Aa.pre i2/\(∃i3:Fr×Fr,[dF Z1,dF Z1]=BT.args i3/\BT.pre i3/\((eqD Z1 ((AB y).l) ((vB i2.1=vB (decide ((AB y).r.z<0)))/\(i2.2.1=L (AB y).r.z.natAbs)/\(i2.2.2=L (AB y).r.d)/\(eqC (Fr.add i3.1 i3.2) ((AB y).lev)))))))) (by kernel_rfl) ?_;conv=>zeta
 delta vB
 refine⟨y,by
  rfl,by
  trivial,?_⟩
 refine⟨((decide ((Fr.ofInt y).z<0)),L (Fr.ofInt y).z.natAbs,L (Fr.ofInt y).d),by
  rfl,by
  exact Ap _,?_⟩
 refine⟨((Fr.ofInt y),(Fr.ofInt y)),by
  rfl,by
  trivial,?_⟩
 refine Du ?_ ⟨?_,?_,?_,B0 ?_⟩;rfl;rfl;rfl;rfl;rfl
def As:Con:={ι:=Brd×Brd,pre:=λi=>True,args:=λi=>[DA.agg [cB (decide (i.1.l.z<0)),cS (L i.1.l.z.natAbs),cS (L i.1.l.d),cB (decide (i.1.r.z<0)),cS (L i.1.r.z.natAbs),cS (L i.1.r.d),cB (decide ((i.1.lev).z<0)),cS (L (i.1.lev).z.natAbs),cS (L (i.1.lev).d)],DA.agg [cB (decide (i.2.l.z<0)),cS (L i.2.l.z.natAbs),cS (L i.2.l.d),cB (decide (i.2.r.z<0)),cS (L i.2.r.z.natAbs),cS (L i.2.r.d),cB (decide ((i.2.lev).z<0)),cS (L (i.2.lev).z.natAbs),cS (L (i.2.lev).d)]],res:=λi=>⟨false,[none],[rcB (decide (Fr.cmp i.1.lev i.2.lev<0))]⟩}
theorem Ts:As.Ok Tryz.prog 59:=by
 refine fok (X:=⟨tt,[(55,Af)],[],11,[]⟩) mixed AF (CTok.cons FX (CTok.nil _)) Tryz.func59 (λ_=>[]) ?_;rintro⟨x,y⟩ a0;have a0:True:=a0;refine AG (q:=∃i1:Fr×Fr,[dF x.lev,dF y.lev]=Af.args i1/\Af.pre i1/\((vB (decide ((Fr.cmp i1.1 i1.2)<(0:Int)))=vB (decide (Fr.cmp x.lev y.lev<0))))) (by kernel_rfl) ?_;delta vB
 refine⟨((x.lev),(y.lev)),by
  rfl,by
  trivial,?_⟩
 rfl
def HD(e:Edg)(lo hi:Fr):Brd:=⟨hgt e lo,hgt e hi⟩
def Da:Con:={ι:=Edg×Fr×Fr,pre:=λi=>i.1.ok=true,args:=λi=>[DA.agg [cI i.1.a.1,cI i.1.a.2,cI i.1.b.1,cI i.1.b.2,cI i.1.k,cB i.1.low],dF i.2.1,dF i.2.2],res:=λi=>⟨false,[some 9],[rcB (decide ((HD i.1 i.2.1 i.2.2).l.z<0)),.own 3 [.int] (L (HD i.1 i.2.1 i.2.2).l.z.natAbs),.own 3 [.int] (L (HD i.1 i.2.1 i.2.2).l.d),rcB (decide ((HD i.1 i.2.1 i.2.2).r.z<0)),.own 3 [.int] (L (HD i.1 i.2.1 i.2.2).r.z.natAbs),.own 3 [.int] (L (HD i.1 i.2.1 i.2.2).r.d),rcB (decide (((HD i.1 i.2.1 i.2.2).lev).z<0)),.own 3 [.int] (L ((HD i.1 i.2.1 i.2.2).lev).z.natAbs),.own 3 [.int] (L ((HD i.1 i.2.1 i.2.2).lev).d)]⟩}
theorem Tt:Da.Ok Tryz.prog 100:=by
 refine fok (X:=⟨tt,[(94,BL),(96,BT)],[],22,[]⟩) mixed AF (CTok.cons Jw (CTok.cons Gz (CTok.nil _))) Tryz.func100 (λ_=>[]) ?_;rintro⟨e,lo,hi⟩ a0;have a0:e.ok=true:=a0;refine AG (q:=let Z1:=HD e lo hi;∃i1:Edg×Fr,[DA.agg [cI e.a.1,cI e.a.2,cI e.b.1,cI e.b.2,cI e.k,cB e.low],dF lo]=BL.args i1/\BL.pre i1/\(∃i2:Edg×Fr,[DA.agg [cI e.a.1,cI e.a.2,cI e.b.1,cI e.b.2,cI e.k,cB e.low],dF hi]=BL.args i2/\BL.pre i2/\(∃i3:Fr×Fr,[dF (hgt i1.1 i1.2),dF (hgt i2.1 i2.2)]=BT.args i3/\BT.pre i3/\((eqD (hgt i1.1 i1.2) (Z1.l) ((eqD (hgt i2.1 i2.2) (Z1.r) ((eqC (Fr.add i3.1 i3.2) (Z1.lev)))))))))) (by kernel_rfl) ?_;conv=>zeta
 refine⟨(e,lo),by
  rfl,by
  exact a0,?_⟩
 refine⟨(e,hi),by
  rfl,by
  exact a0,?_⟩
 refine⟨((hgt e lo),(hgt e hi)),by
  rfl,by
  trivial,?_⟩
 refine Du ?_ (Du ?_ (B0 ?_));rfl;rfl;rfl
abbrev zB:Brd:=⟨Fr.none,Fr.none⟩
def spS(es:List Edg)(lo hi:Fr):Nat->Brd×Brd×Nat
 | 0=>(zB,zB,0)|k+1=>
  let e:=es.getD k noE
  let p:=spS es lo hi k
  if spn e lo hi=true then(if e.low=true then(HD e lo hi,p.2.1,p.2.2+1)else(p.1,HD e lo hi,p.2.2+1))else p
theorem Db(es:List Edg)(lo hi:Fr):spS es lo hi 0=(zB,zB,0):=rfl
theorem Ab:L zB.l.z.natAbs=[]/\L zB.l.d=[]/\L zB.r.z.natAbs=[]/\L zB.r.d=[]/\L zB.lev.z.natAbs=[]/\L zB.lev.d=[]:=⟨Cn,Cn,Cn,Cn,Cn,Cn⟩
theorem Ks{es:List Edg}{lo hi:Fr}{k:Nat}(h:spn (es.getD k noE) lo hi=false):spS es lo hi (k+1)=spS es lo hi k:=by show(if _ then _ else _)=_;rw[if_neg (by rw[h];simp)]
theorem P8{es:List Edg}{lo hi:Fr}{k:Nat}(h:spn (es.getD k noE) lo hi=true)(h2:(es.getD k noE).low=true):spS es lo hi (k+1)=(HD (es.getD k noE) lo hi,(spS es lo hi k).2.1,(spS es lo hi k).2.2+1):=by show(if _ then _ else _)=_;rw[if_pos h,if_pos h2]
theorem P9{es:List Edg}{lo hi:Fr}{k:Nat}(h:spn (es.getD k noE) lo hi=true)(h2:(es.getD k noE).low=false):spS es lo hi (k+1)=((spS es lo hi k).1,HD (es.getD k noE) lo hi,(spS es lo hi k).2.2+1):=by show(if _ then _ else _)=_;rw[if_pos h,if_neg (by rw[h2];simp)]
theorem QA(es:List Edg)(lo hi:Fr):∀k,(spS es lo hi k).2.2<=k
 | 0=>Nat.le_refl _|k+1=>by
  have ih:=QA es lo hi k;cases h:spn (es.getD k noE) lo hi with
  |false=>rw[Ks h];omega|true=>
   cases h2:(es.getD k noE).low with|true=>rw[P8 h h2];show _+1<=_;omega|false=>rw[P9 h h2];show _+1<=_;omega
theorem Io{v:List V2}{i:Int}(h:AW v=true){k:Nat}(hk:k<(AD v i).length):((AD v i).getD k noE).ok=true:=
 Jz (k:=i) (BH h).1 v.length (Nat.le_refl _) _ (by rw[show AD v i=Ba v i v.length from rfl]at hk ⊢;simp[List.getD,hk])
theorem ADT(n:Nat):Value.bool ((n:Int) == 2)=Value.bool (decide (n=2)):=congrArg Value.bool (by rw[Bool.eq_iff_iff,beq_iff_eq,decide_eq_true_eq];omega)
def Fu:Con:={ι:=(List V2)×Fr×Fr,pre:=λi=>AW i.1=true/\i.2.1.good=true/\i.2.2.good=true,args:=λi=>[.one (DC.sl 36 [.int,.int] (Ak i.1)),dF i.2.1,dF i.2.2],res:=λi=>⟨true,[some 9,some 9,none],[rcB (decide ((spS (AD i.1 0) i.2.1 i.2.2 (AD i.1 0).length).1.l.z<0)),.own 3 [.int] (L (spS (AD i.1 0) i.2.1 i.2.2 (AD i.1 0).length).1.l.z.natAbs),.own 3 [.int] (L (spS (AD i.1 0) i.2.1 i.2.2 (AD i.1 0).length).1.l.d),rcB (decide ((spS (AD i.1 0) i.2.1 i.2.2 (AD i.1 0).length).1.r.z<0)),.own 3 [.int] (L (spS (AD i.1 0) i.2.1 i.2.2 (AD i.1 0).length).1.r.z.natAbs),.own 3 [.int] (L (spS (AD i.1 0) i.2.1 i.2.2 (AD i.1 0).length).1.r.d),rcB (decide (((spS (AD i.1 0) i.2.1 i.2.2 (AD i.1 0).length).1.lev).z<0)),.own 3 [.int] (L ((spS (AD i.1 0) i.2.1 i.2.2 (AD i.1 0).length).1.lev).z.natAbs),.own 3 [.int] (L ((spS (AD i.1 0) i.2.1 i.2.2 (AD i.1 0).length).1.lev).d),rcB (decide ((spS (AD i.1 0) i.2.1 i.2.2 (AD i.1 0).length).2.1.l.z<0)),.own 3 [.int] (L (spS (AD i.1 0) i.2.1 i.2.2 (AD i.1 0).length).2.1.l.z.natAbs),.own 3 [.int] (L (spS (AD i.1 0) i.2.1 i.2.2 (AD i.1 0).length).2.1.l.d),rcB (decide ((spS (AD i.1 0) i.2.1 i.2.2 (AD i.1 0).length).2.1.r.z<0)),.own 3 [.int] (L (spS (AD i.1 0) i.2.1 i.2.2 (AD i.1 0).length).2.1.r.z.natAbs),.own 3 [.int] (L (spS (AD i.1 0) i.2.1 i.2.2 (AD i.1 0).length).2.1.r.d),rcB (decide (((spS (AD i.1 0) i.2.1 i.2.2 (AD i.1 0).length).2.1.lev).z<0)),.own 3 [.int] (L ((spS (AD i.1 0) i.2.1 i.2.2 (AD i.1 0).length).2.1.lev).z.natAbs),.own 3 [.int] (L ((spS (AD i.1 0) i.2.1 i.2.2 (AD i.1 0).length).2.1.lev).d),rcB (decide ((spS (AD i.1 0) i.2.1 i.2.2 (AD i.1 0).length).2.2=2))]⟩}
theorem Tu:Fu.Ok Tryz.prog 58:=by
 refine fok (X:=⟨tt,[(89,DQ),(95,Bp),(100,Da)],[14,15],45,[]⟩) mixed AF (CTok.cons Or (CTok.cons Kn (CTok.cons Tt (CTok.nil _)))) Tryz.func58 (λ(i:(List V2)×Fr×Fr)=>let Z3:=AD i.1 0;let Z2:=Value.slice none 0 0;[(5,.mk 24 (Nat) (λx1=>let Z1:=spS Z3 i.2.1 i.2.2 x1;{tm:=[(4,tP 1 0),(5,tP 4 0),(6,tP 7 0),(7,tP 8 0),(9,tP 9 0),(10,tP 16 0),(17,tX 23),(18,tI (nI ((Aj Z3).length))),(11,tI (nI (Z1.2.2))),(19,tI (nI x1))],en:=[(1,.box [kB (decide (i.2.1.z<0)),.ext 2,.ext 3]),(4,.box [kB (decide (i.2.2.z<0)),.ext 5,.ext 6]),(7,.box [kB false,.im Z2,.im Z2,kB false,.im Z2,.im Z2,kB false,.im Z2,.im Z2]),(8,.box [kB false,.im Z2,.im Z2,kB false,.im Z2,.im Z2,kB false,.im Z2,.im Z2]),(9,.box [kB (decide ((Z1.1.l).z<0)),.ext 10,.ext 11,kB (decide ((Z1.1.r).z<0)),.ext 12,.ext 13,kB (decide ((Z1.1.lev).z<0)),.ext 14,.ext 15]),(16,.box [kB (decide ((Z1.2.1.l).z<0)),.ext 17,.ext 18,kB (decide ((Z1.2.1.r).z<0)),.ext 19,.ext 20,kB (decide ((Z1.2.1.lev).z<0)),.ext 21,.ext 22]),(2,eV (L i.2.1.z.natAbs)),(3,eV (L i.2.1.d)),(5,eV (L i.2.2.z.natAbs)),(6,eV (L i.2.2.d)),(10,.own 3 [.int] (L (Z1.1.l).z.natAbs)),(11,.own 3 [.int] (L (Z1.1.l).d)),(12,.own 3 [.int] (L (Z1.1.r).z.natAbs)),(13,.own 3 [.int] (L (Z1.1.r).d)),(14,.own 3 [.int] (L (Z1.1.lev).z.natAbs)),(15,.own 3 [.int] (L (Z1.1.lev).d)),(17,.own 3 [.int] (L (Z1.2.1.l).z.natAbs)),(18,.own 3 [.int] (L (Z1.2.1.l).d)),(19,.own 3 [.int] (L (Z1.2.1.r).z.natAbs)),(20,.own 3 [.int] (L (Z1.2.1.r).d)),(21,.own 3 [.int] (L (Z1.2.1.lev).z.natAbs)),(22,.own 3 [.int] (L (Z1.2.1.lev).d)),(23,.own 87 z86 (Aj Z3))]}) (λx1=>x1<=Z3.length) (λx1=>Z3.length-x1) (λ_=>[]))]) ?_;rintro⟨v,lo,hi⟩ a1;have a1:AW v=true/\lo.good=true/\hi.good=true:=a1
 refine AG (q:=let aF:=L hi.z.natAbs;let aG:=L lo.z.natAbs;let aH:=vB (decide (hi.z<0));let aI:=vB (decide (lo.z<0));let a2:=List Dat;let a0:=vB false;let Z2:=Value.slice none 0 0;let Z1:=AD v 0;let a5:=Aj Z1;let aC:=nI (a5.length);let a6:=spS Z1 lo hi Z1.length;∃i1:(List V2)×Int,[DA.one (DC.sl 36 [.int,.int] (Ak v)),DA.one (cI (0:Int))]=DQ.args i1/\DQ.pre i1/\((∃x1:Nat,let Z5:=spS Z1 lo hi x1;(x1<=Z1.length)/\((vI (nI ((Aj (AD i1.1 i1.2)).length))=vI aC)/\(vI (0:Int)=vI (nI (Z5.2.2)))/\(vI (0:Int)=vI (nI x1))/\(rf aI)/\(rf aH)/\(rf a0)/\(rf Z2)/\(rf Z2)/\(rf a0)/\(rf Z2)/\(rf Z2)/\(rf a0)/\(rf Z2)/\(rf Z2)/\(rf a0)/\(rf Z2)/\(rf Z2)/\(rf a0)/\(rf Z2)/\(rf Z2)/\(rf a0)/\(rf Z2)/\(rf Z2)/\(vB false=vB (decide ((Z5.1.l).z<0)))/\(vB false=vB (decide ((Z5.1.r).z<0)))/\(vB false=vB (decide ((Z5.1.lev).z<0)))/\(vB false=vB (decide ((Z5.2.1.l).z<0)))/\(vB false=vB (decide ((Z5.2.1.r).z<0)))/\(vB false=vB (decide ((Z5.2.1.lev).z<0)))/\(rf aG)/\(rf (L lo.d))/\(rf aF)/\(rf (L hi.d))/\(([]:List a2)=(L (Z5.1.l).z.natAbs))/\(([]:List a2)=(L (Z5.1.l).d))/\(([]:List a2)=(L (Z5.1.r).z.natAbs))/\(([]:List a2)=(L (Z5.1.r).d))/\(([]:List a2)=(L (Z5.1.lev).z.natAbs))/\(([]:List a2)=(L (Z5.1.lev).d))/\(([]:List a2)=(L (Z5.2.1.l).z.natAbs))/\(([]:List a2)=(L (Z5.2.1.l).d))/\(([]:List a2)=(L (Z5.2.1.r).z.natAbs))/\(([]:List a2)=(L (Z5.2.1.r).d))/\(([]:List a2)=(L (Z5.2.1.lev).z.natAbs))/\(([]:List a2)=(L (Z5.2.1.lev).d))/\(Aj (AD i1.1 i1.2)=a5)))/\∀x1:Nat,let aK:=wR ((nI x1)+(1:Int));let Z4:=a5.getD x1 [];let aL:=((Z4.getD 4 (.int 0))).n;let aM:=((Z4.getD 3 (.int 0))).n;let aN:=((Z4.getD 2 (.int 0))).n;let aO:=((Z4.getD 1 (.int 0))).n;let aP:=((Z4.getD 0 (.int 0))).n;let aJ:=((Z4.getD 5 (.int 0))).b;let Z3:=spS Z1 lo hi x1;let aQ:=decide ((Z3.1.r).z<0);let aR:=decide ((Z3.1.l).z<0);let aS:=wR ((nI (Z3.2.2))+(1:Int));let a7:=Z3.2.1.r;let a8:=Z3.2.1.l;let a9:=Z3.1.lev;let aA:=Z3.2.1.lev;(x1<=Z1.length)->(ifB ((decide ((nI x1)<aC))) ((0<=(nI x1)/\(nI x1)<(a5.length:Int))/\((x1<a5.length)/\(∃i2:Edg×Fr×Fr,[DA.agg [cI aP,cI aO,cI aN,cI aM,cI aL,cB aJ],dF lo,dF hi]=Bp.args i2/\Bp.pre i2/\(ifB ((!(i2.2.1.good && (i2.2.2.good && spn i2.1 i2.2.1 i2.2.2)))) (∃y2:Nat,let Z6:=spS Z1 lo hi y2;(y2<=Z1.length)/\(Z1.length-y2<Z1.length-x1)/\((rf (vI aC))/\(vI (nI (Z3.2.2))=vI (nI (Z6.2.2)))/\(vI aK=vI (nI y2))/\(rf aI)/\(rf aH)/\(rf a0)/\(rf Z2)/\(rf Z2)/\(rf a0)/\(rf Z2)/\(rf Z2)/\(rf a0)/\(rf Z2)/\(rf Z2)/\(rf a0)/\(rf Z2)/\(rf Z2)/\(rf a0)/\(rf Z2)/\(rf Z2)/\(rf a0)/\(rf Z2)/\(rf Z2)/\(vB aR=vB (decide ((Z6.1.l).z<0)))/\(vB aQ=vB (decide ((Z6.1.r).z<0)))/\(vB (decide (a9.z<0))=vB (decide ((Z6.1.lev).z<0)))/\(vB (decide (a8.z<0))=vB (decide ((Z6.2.1.l).z<0)))/\(vB (decide (a7.z<0))=vB (decide ((Z6.2.1.r).z<0)))/\(vB (decide (aA.z<0))=vB (decide ((Z6.2.1.lev).z<0)))/\(rf aG)/\(rf (L lo.d))/\(rf aF)/\(rf (L hi.d))/\((L (Z3.1.l).z.natAbs)=(L (Z6.1.l).z.natAbs))/\((L (Z3.1.l).d)=(L (Z6.1.l).d))/\((L (Z3.1.r).z.natAbs)=(L (Z6.1.r).z.natAbs))/\((L (Z3.1.r).d)=(L (Z6.1.r).d))/\((L a9.z.natAbs)=(L (Z6.1.lev).z.natAbs))/\((L a9.d)=(L (Z6.1.lev).d))/\((L a8.z.natAbs)=(L (Z6.2.1.l).z.natAbs))/\((L a8.d)=(L (Z6.2.1.l).d))/\((L a7.z.natAbs)=(L (Z6.2.1.r).z.natAbs))/\((L a7.d)=(L (Z6.2.1.r).d))/\((L aA.z.natAbs)=(L (Z6.2.1.lev).z.natAbs))/\((L aA.d)=(L (Z6.2.1.lev).d))/\(rf a5))) (ifB aJ (∃i3:Edg×Fr×Fr,let Z9:=HD i3.1 i3.2.1 i3.2.2;[DA.agg [cI aP,cI aO,cI aN,cI aM,cI aL,cB aJ],dF lo,dF hi]=Da.args i3/\Da.pre i3/\(∃y3:Nat,let Z7:=spS Z1 lo hi y3;(y3<=Z1.length)/\(Z1.length-y3<Z1.length-x1)/\((rf (vI aC))/\(vI aS=vI (nI (Z7.2.2)))/\(vI aK=vI (nI y3))/\(rf aI)/\(rf aH)/\(rf a0)/\(rf Z2)/\(rf Z2)/\(rf a0)/\(rf Z2)/\(rf Z2)/\(rf a0)/\(rf Z2)/\(rf Z2)/\(rf a0)/\(rf Z2)/\(rf Z2)/\(rf a0)/\(rf Z2)/\(rf Z2)/\(rf a0)/\(rf Z2)/\(rf Z2)/\(vB (decide (Z9.l.z<0))=vB (decide ((Z7.1.l).z<0)))/\(vB (decide (Z9.r.z<0))=vB (decide ((Z7.1.r).z<0)))/\(vB (decide ((Z9.lev).z<0))=vB (decide ((Z7.1.lev).z<0)))/\(vB (decide (a8.z<0))=vB (decide ((Z7.2.1.l).z<0)))/\(vB (decide (a7.z<0))=vB (decide ((Z7.2.1.r).z<0)))/\(vB (decide (aA.z<0))=vB (decide ((Z7.2.1.lev).z<0)))/\(rf aG)/\(rf (L lo.d))/\(rf aF)/\(rf (L hi.d))/\(L Z9.l.z.natAbs=(L (Z7.1.l).z.natAbs))/\(L Z9.l.d=(L (Z7.1.l).d))/\(L Z9.r.z.natAbs=(L (Z7.1.r).z.natAbs))/\(L Z9.r.d=(L (Z7.1.r).d))/\(L (Z9.lev).z.natAbs=(L (Z7.1.lev).z.natAbs))/\(L (Z9.lev).d=(L (Z7.1.lev).d))/\((L a8.z.natAbs)=(L (Z7.2.1.l).z.natAbs))/\((L a8.d)=(L (Z7.2.1.l).d))/\((L a7.z.natAbs)=(L (Z7.2.1.r).z.natAbs))/\((L a7.d)=(L (Z7.2.1.r).d))/\((L aA.z.natAbs)=(L (Z7.2.1.lev).z.natAbs))/\((L aA.d)=(L (Z7.2.1.lev).d))/\(rf a5)))) (∃i4:Edg×Fr×Fr,let a4:=HD i4.1 i4.2.1 i4.2.2;[DA.agg [cI aP,cI aO,cI aN,cI aM,cI aL,cB aJ],dF lo,dF hi]=Da.args i4/\Da.pre i4/\(∃y4:Nat,let Z8:=spS Z1 lo hi y4;(y4<=Z1.length)/\(Z1.length-y4<Z1.length-x1)/\((rf (vI aC))/\(vI aS=vI (nI (Z8.2.2)))/\(vI aK=vI (nI y4))/\(rf aI)/\(rf aH)/\(rf a0)/\(rf Z2)/\(rf Z2)/\(rf a0)/\(rf Z2)/\(rf Z2)/\(rf a0)/\(rf Z2)/\(rf Z2)/\(rf a0)/\(rf Z2)/\(rf Z2)/\(rf a0)/\(rf Z2)/\(rf Z2)/\(rf a0)/\(rf Z2)/\(rf Z2)/\(vB aR=vB (decide ((Z8.1.l).z<0)))/\(vB aQ=vB (decide ((Z8.1.r).z<0)))/\(vB (decide (a9.z<0))=vB (decide ((Z8.1.lev).z<0)))/\(vB (decide (a4.l.z<0))=vB (decide ((Z8.2.1.l).z<0)))/\(vB (decide (a4.r.z<0))=vB (decide ((Z8.2.1.r).z<0)))/\(vB (decide ((a4.lev).z<0))=vB (decide ((Z8.2.1.lev).z<0)))/\(rf aG)/\(rf (L lo.d))/\(rf aF)/\(rf (L hi.d))/\((L (Z3.1.l).z.natAbs)=(L (Z8.1.l).z.natAbs))/\((L (Z3.1.l).d)=(L (Z8.1.l).d))/\((L (Z3.1.r).z.natAbs)=(L (Z8.1.r).z.natAbs))/\((L (Z3.1.r).d)=(L (Z8.1.r).d))/\((L a9.z.natAbs)=(L (Z8.1.lev).z.natAbs))/\((L a9.d)=(L (Z8.1.lev).d))/\(L a4.l.z.natAbs=(L (Z8.2.1.l).z.natAbs))/\(L a4.l.d=(L (Z8.2.1.l).d))/\(L a4.r.z.natAbs=(L (Z8.2.1.r).z.natAbs))/\(L a4.r.d=(L (Z8.2.1.r).d))/\(L (a4.lev).z.natAbs=(L (Z8.2.1.lev).z.natAbs))/\(L (a4.lev).d=(L (Z8.2.1.lev).d))/\(rf a5))))))))) ((eqD (Z3.1.l) (a6.1.l) ((eqD (Z3.1.r) (a6.1.r) ((eqD a9 (a6.1.lev) ((eqD a8 (a6.2.1.l) ((eqD a7 (a6.2.1.r) ((eqD aA (a6.2.1.lev) ((vB ((nI (Z3.2.2)) == (2:Int))=vB (decide (a6.2.2=2))))))))))))))))))) (by kernel_rfl) ?_
 conv=>zeta
 delta ifB vB vI wR nI;have aU:=DY v (0:Int) v.length;rw[show Ba v (0:Int) v.length=AD v (0:Int)from rfl]at aU;have aT:=BG (AD v 0);have h16:=(BH a1.1).2.2;have hg1:=a1.2.1;have hg2:=a1.2.2
 refine⟨(v,(0:Int)),by
  rfl,by
  exact a1.1,?_⟩
 refine⟨⟨0,by omega,?_⟩,?_⟩;refine⟨?_,?_,?_,rfl,rfl,rfl,rfl,rfl,rfl,rfl,rfl,rfl,rfl,rfl,rfl,rfl,rfl,rfl,rfl,rfl,rfl,rfl,rfl,?_,?_,?_,?_,?_,?_,rfl,rfl,rfl,rfl,?_,?_,?_,?_,?_,?_,?_,?_,?_,?_,?_,?_,?_⟩;rfl;rfl;rfl;rfl;rfl;rfl;rfl;rfl;rfl;rw[Db];first|rfl|exact Ab.1.symm|exact Ab.2.1.symm|exact Ab.2.2.1.symm|exact Ab.2.2.2.1.symm|exact Ab.2.2.2.2.1.symm|exact Ab.2.2.2.2.2.symm
 rw[Db];first|rfl|exact Ab.1.symm|exact Ab.2.1.symm|exact Ab.2.2.1.symm|exact Ab.2.2.2.1.symm|exact Ab.2.2.2.2.1.symm|exact Ab.2.2.2.2.2.symm
 rw[Db];first|rfl|exact Ab.1.symm|exact Ab.2.1.symm|exact Ab.2.2.1.symm|exact Ab.2.2.2.1.symm|exact Ab.2.2.2.2.1.symm|exact Ab.2.2.2.2.2.symm
 rw[Db];first|rfl|exact Ab.1.symm|exact Ab.2.1.symm|exact Ab.2.2.1.symm|exact Ab.2.2.2.1.symm|exact Ab.2.2.2.2.1.symm|exact Ab.2.2.2.2.2.symm
 rw[Db];first|rfl|exact Ab.1.symm|exact Ab.2.1.symm|exact Ab.2.2.1.symm|exact Ab.2.2.2.1.symm|exact Ab.2.2.2.2.1.symm|exact Ab.2.2.2.2.2.symm
 rw[Db];first|rfl|exact Ab.1.symm|exact Ab.2.1.symm|exact Ab.2.2.1.symm|exact Ab.2.2.2.1.symm|exact Ab.2.2.2.2.1.symm|exact Ab.2.2.2.2.2.symm
 rw[Db];first|rfl|exact Ab.1.symm|exact Ab.2.1.symm|exact Ab.2.2.1.symm|exact Ab.2.2.2.1.symm|exact Ab.2.2.2.2.1.symm|exact Ab.2.2.2.2.2.symm
 rw[Db];first|rfl|exact Ab.1.symm|exact Ab.2.1.symm|exact Ab.2.2.1.symm|exact Ab.2.2.2.1.symm|exact Ab.2.2.2.2.1.symm|exact Ab.2.2.2.2.2.symm
 rw[Db];first|rfl|exact Ab.1.symm|exact Ab.2.1.symm|exact Ab.2.2.1.symm|exact Ab.2.2.2.1.symm|exact Ab.2.2.2.2.1.symm|exact Ab.2.2.2.2.2.symm
 rw[Db];first|rfl|exact Ab.1.symm|exact Ab.2.1.symm|exact Ab.2.2.1.symm|exact Ab.2.2.2.1.symm|exact Ab.2.2.2.2.1.symm|exact Ab.2.2.2.2.2.symm
 rw[Db];first|rfl|exact Ab.1.symm|exact Ab.2.1.symm|exact Ab.2.2.1.symm|exact Ab.2.2.2.1.symm|exact Ab.2.2.2.2.1.symm|exact Ab.2.2.2.2.2.symm
 rw[Db];first|rfl|exact Ab.1.symm|exact Ab.2.1.symm|exact Ab.2.2.1.symm|exact Ab.2.2.2.1.symm|exact Ab.2.2.2.2.1.symm|exact Ab.2.2.2.2.2.symm
 rfl;intro (k:Nat) aD;have aD:k<=(AD v 0).length:=aD;refine And.symm ⟨λaE=>?_,λaE=>?_⟩;simp only[nrm]at aE;rw[aT]at aE;obtain rfl:k=(AD v 0).length:=by omega
 refine Du ?_ (Du ?_ (Du ?_ (Du ?_ (Du ?_ (Du ?_ ?_)))));rfl;rfl;rfl;rfl;rfl;rfl;exact ADT _;simp only[nrm]at aE;rw[aT]at aE;have hk:k<(AD v 0).length:=by omega
 have hek:((AD v 0).getD k noE).ok=true:=Io a1.1 hk;have hfew:=QA (AD v 0) lo hi k;refine ao (by omega) λo53=>?_;refine ao (by omega) λo54=>?_
 refine⟨(((AD v 0).getD k noE),lo,hi),by
  rw[BU hk];rfl,by
  trivial,?_⟩
 refine⟨λaB=>?_,λaB=>?_⟩;simp only[nrm]at aB;rw[hg1,hg2]at aB;have hE:spS (AD v 0) lo hi (k+1)=spS (AD v 0) lo hi k:=Ks (by simpa using aB)
 refine⟨k+1,by
  trivial,by
  omega,?_⟩
 refine⟨rfl,?_,?_,rfl,rfl,rfl,rfl,rfl,rfl,rfl,rfl,rfl,rfl,rfl,rfl,rfl,rfl,rfl,rfl,rfl,rfl,rfl,rfl,?_,?_,?_,?_,?_,?_,rfl,rfl,rfl,rfl,?_,?_,?_,?_,?_,?_,?_,?_,?_,?_,?_,?_,rfl⟩;rw[hE];exact AS (AC (by omega) (by omega));rw[hE];rw[hE];rw[hE];rw[hE];rw[hE];rw[hE];rw[hE];rw[hE];rw[hE];rw[hE];rw[hE];rw[hE];rw[hE];rw[hE];rw[hE];rw[hE];rw[hE];rw[hE];simp only[nrm]at aB;rw[hg1,hg2]at aB;have hs:spn ((AD v 0).getD k noE) lo hi=true:=by simpa using aB
 refine⟨λa3=>?_,λa3=>?_⟩;rw[BU hk]at a3;have hE:=P8 hs a3
 refine⟨(((AD v 0).getD k noE),lo,hi),by
  rw[BU hk];rfl,by
  trivial,?_⟩
 refine⟨k+1,by
  trivial,by
  omega,?_⟩
 refine⟨rfl,?_,?_,rfl,rfl,rfl,rfl,rfl,rfl,rfl,rfl,rfl,rfl,rfl,rfl,rfl,rfl,rfl,rfl,rfl,rfl,rfl,rfl,?_,?_,?_,?_,?_,?_,rfl,rfl,rfl,rfl,?_,?_,?_,?_,?_,?_,?_,?_,?_,?_,?_,?_,rfl⟩;rw[hE];exact AS (AC (by omega) (by omega));exact AS (AC (by omega) (by omega));rw[hE];rw[hE];rw[hE];rw[hE];rw[hE];rw[hE];rw[hE];rw[hE];rw[hE];rw[hE];rw[hE];rw[hE];rw[hE];rw[hE];rw[hE];rw[hE];rw[hE];rw[hE];rw[BU hk]at a3;have hE:=P9 hs a3
 refine⟨(((AD v 0).getD k noE),lo,hi),by
  rw[BU hk];rfl,by
  trivial,?_⟩
 refine⟨k+1,by
  trivial,by
  omega,?_⟩
 refine⟨rfl,?_,?_,rfl,rfl,rfl,rfl,rfl,rfl,rfl,rfl,rfl,rfl,rfl,rfl,rfl,rfl,rfl,rfl,rfl,rfl,rfl,rfl,?_,?_,?_,?_,?_,?_,rfl,rfl,rfl,rfl,?_,?_,?_,?_,?_,?_,?_,?_,?_,?_,?_,?_,rfl⟩;rw[hE];exact AS (AC (by omega) (by omega));exact AS (AC (by omega) (by omega));rw[hE];rw[hE];rw[hE];rw[hE];rw[hE];rw[hE];rw[hE];rw[hE];rw[hE];rw[hE];rw[hE];rw[hE];rw[hE];rw[hE];rw[hE];rw[hE];rw[hE];rw[hE]
end Go.Proofs.YthoidhehmmcgnaaGreat
