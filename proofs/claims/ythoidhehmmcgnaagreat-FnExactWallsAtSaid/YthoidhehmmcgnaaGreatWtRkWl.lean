import Derived.Test.YthoidhehmmcgnaaGreatWtSy2W
import Derived.Test.YthoidhehmmcgnaaGreatWtStt
namespace Go.Proofs.YthoidhehmmcgnaaGreat
set_option maxRecDepth 100000
set_option linter.unusedVariables false
set_option linter.unusedSimpArgs false
open Go.RowKit Go.Sort Go.Shelf
def GH(es:List Edg)(x:Fr):Nat->Fr×Fr×Bool
 | 0=>(Fr.none,Fr.none,false)|k+1=>
  let y:=hgt (es.getD k noE) x
  let p:=GH es x k
  if spn (es.getD k noE) x x=true then(if p.2.2=true then(Fr.min p.1 y,Fr.max p.2.1 y,true)else(y,y,true))else p
section
variable {es : List Edg} {x : Fr} {k : Nat}
theorem U6(h:spn (es.getD k noE) x x=false):GH es x (k+1)=GH es x k:=by show(if _ then _ else _)=_;rw[if_neg (by rw[h];simp)]
theorem Rj(h:spn (es.getD k noE) x x=true)(h2:(GH es x k).2.2=false):GH es x (k+1)=(hgt (es.getD k noE) x,hgt (es.getD k noE) x,true):=by show(if _ then _ else _)=_;rw[if_pos h,if_neg (by rw[h2];simp)]
theorem Ol(h:spn (es.getD k noE) x x=true)(h2:(GH es x k).2.2=true):GH es x (k+1)=(Fr.min (GH es x k).1 (hgt (es.getD k noE) x),Fr.max (GH es x k).2.1 (hgt (es.getD k noE) x),true):=by show(if _ then _ else _)=_;rw[if_pos h,if_pos h2]
end
abbrev GI(v:List V2)(x:Fr):Fr×Fr×Bool:=GH (AO v 0) x (AO v 0).length
def IX:Con:={ι:=(List V2)×Fr,pre:=λi=>AV i.1=true,args:=λi=>[.one (DC.sl 36 [.int,.int] (AZ i.1)),dF i.2],res:=λi=>⟨true,[some 3,some 3,none],[rcB (decide ((GI i.1 i.2).1.z<0)),.view 3 [.int] (L (GI i.1 i.2).1.z.natAbs),.view 3 [.int] (L (GI i.1 i.2).1.d),rcB (decide ((GI i.1 i.2).2.1.z<0)),.view 3 [.int] (L (GI i.1 i.2).2.1.z.natAbs),.view 3 [.int] (L (GI i.1 i.2).2.1.d),rcB ((GI i.1 i.2).2.2)]⟩}
theorem Yc:IX.Ok Tryz.prog 78:=by
 refine fok (X:=⟨tt,[(111,DN),(112,Bu),(113,Bi),(84,CS),(85,CT)],[13,14],36,[(116,⟨Tryz.f116.body.getD .skip,Tryz.f116.ntmps,Tryz.f116.results.toList⟩)]⟩) mixed AG (CTok.cons Oc (CTok.cons ND (CTok.cons LP (CTok.cons OS (CTok.cons OT (CTok.nil _)))))) (hil:=(InlOk.cons Tryz.func116 (by decide) rfl rfl rfl (InlOk.nil _))) Tryz.func78 (λ(i:(List V2)×Fr)=>let Z3:=AO i.1 0;let Z2:=Value.slice none 0 0;[(4,.mk 14 (Nat) (λx1=>let Z1:=GH Z3 i.2 x1;{tm:=[(3,tP 1 0),(4,tP 4 0),(5,tP 5 0),(6,tB false),(7,tP 6 0),(8,tP 9 0),(9,tP 12 0),(10,.one (.one (.clo 116 [12,6,9]))),(17,tX 13),(18,tI (nI ((Af Z3).length))),(19,tI (nI x1))],en:=[(1,.box [kB (decide (i.2.z<0)),.ext 2,.ext 3]),(4,.box [kB false,.im Z2,.im Z2]),(5,.box [kB false,.im Z2,.im Z2]),(6,.box [kB (decide ((Z1.1).z<0)),.ext 7,.ext 8]),(9,.box [kB (decide ((Z1.2.1).z<0)),.ext 10,.ext 11]),(12,.box [kB (Z1.2.2)]),(2,eV (L i.2.z.natAbs)),(3,eV (L i.2.d)),(7,eV (L (Z1.1).z.natAbs)),(8,eV (L (Z1.1).d)),(10,eV (L (Z1.2.1).z.natAbs)),(11,eV (L (Z1.2.1).d)),(13,.own 87 z86 (Af Z3))]}) (λx1=>x1<=Z3.length) (λx1=>Z3.length-x1) (λ_=>[]))]) ?_;rintro⟨v,x⟩ a0;have a0:AV v=true:=a0
 refine AH (q:=let a8:=L x.z.natAbs;let a9:=vB (decide (x.z<0));let Z7:=vB false;let Z2:=Value.slice none 0 0;let Z1:=AO v 0;let a1:=Af Z1;let Z5:=nI (a1.length);∃i1:(List V2)×Int,[DA.one (DC.sl 36 [.int,.int] (AZ v)),DA.one (cI (0:Int))]=DN.args i1/\DN.pre i1/\((∃x1:Nat,let Z8:=GH Z1 x x1;(x1<=Z1.length)/\((rf Z7)/\(rf (116))/\(vI (nI ((Af (AO i1.1 i1.2)).length))=vI Z5)/\(vI (0:Int)=vI (nI x1))/\(rf a9)/\(rf Z7)/\(rf Z2)/\(rf Z2)/\(rf Z7)/\(rf Z2)/\(rf Z2)/\(vB false=vB (decide ((Z8.1).z<0)))/\(vB false=vB (decide ((Z8.2.1).z<0)))/\(vB false=vB (Z8.2.2))/\(rf a8)/\(rf (L x.d))/\(([]:List (List Dat))=(L (Z8.1).z.natAbs))/\(([]:List (List Dat))=(L (Z8.1).d))/\(([]:List (List Dat))=(L (Z8.2.1).z.natAbs))/\(([]:List (List Dat))=(L (Z8.2.1).d))/\(Af (AO i1.1 i1.2)=a1)))/\∀x1:Nat,let aA:=wR ((nI x1)+(1:Int));let Z4:=GH Z1 x x1;let Z3:=a1.getD x1 [];let aE:=((Z3.getD 5 (.int 0))).b;let aF:=((Z3.getD 4 (.int 0))).n;let aG:=((Z3.getD 3 (.int 0))).n;let aH:=((Z3.getD 2 (.int 0))).n;let aI:=((Z3.getD 1 (.int 0))).n;let aJ:=((Z3.getD 0 (.int 0))).n;(x1<=Z1.length)->(ifB ((decide ((nI x1)<Z5))) ((0<=(nI x1)/\(nI x1)<(a1.length:Int))/\((x1<a1.length)/\(∃i2:Edg×Fr×Fr,[DA.agg [cI aJ,cI aI,cI aH,cI aG,cI aF,cB aE],dF x,dF x]=Bu.args i2/\Bu.pre i2/\(ifB ((spn i2.1 i2.2.1 i2.2.2)) (∃i3:Edg×Fr,let Z6:=hgt i3.1 i3.2;[DA.agg [cI aJ,cI aI,cI aH,cI aG,cI aF,cB aE],dF x]=Bi.args i3/\Bi.pre i3/\(ifB ((!(Z4.2.2))) (∃y2:Nat,let Z9:=GH Z1 x y2;(y2<=Z1.length)/\(Z1.length-y2<Z1.length-x1)/\((rf Z7)/\(rf (116))/\(rf (vI Z5))/\(vI aA=vI (nI y2))/\(rf a9)/\(rf Z7)/\(rf Z2)/\(rf Z2)/\(rf Z7)/\(rf Z2)/\(rf Z2)/\(vB (decide (Z6.z<0))=vB (decide ((Z9.1).z<0)))/\(vB (decide (Z6.z<0))=vB (decide ((Z9.2.1).z<0)))/\(vB true=vB (Z9.2.2))/\(rf a8)/\(rf (L x.d))/\(L Z6.z.natAbs=(L (Z9.1).z.natAbs))/\(L Z6.d=(L (Z9.1).d))/\(L Z6.z.natAbs=(L (Z9.2.1).z.natAbs))/\(L Z6.d=(L (Z9.2.1).d))/\(rf a1))) (∃i4:Fr×Fr,let aB:=Fr.min i4.1 i4.2;[dF (Z4.1),dF Z6]=CS.args i4/\CS.pre i4/\(∃i5:Fr×Fr,let aC:=Fr.max i5.1 i5.2;[dF (Z4.2.1),dF Z6]=CT.args i5/\CT.pre i5/\(∃y3:Nat,let a2:=GH Z1 x y3;(y3<=Z1.length)/\(Z1.length-y3<Z1.length-x1)/\((rf Z7)/\(rf (116))/\(rf (vI Z5))/\(vI aA=vI (nI y3))/\(rf a9)/\(rf Z7)/\(rf Z2)/\(rf Z2)/\(rf Z7)/\(rf Z2)/\(rf Z2)/\(vB (decide (aB.z<0))=vB (decide ((a2.1).z<0)))/\(vB (decide (aC.z<0))=vB (decide ((a2.2.1).z<0)))/\(vB (Z4.2.2)=vB (a2.2.2))/\(rf a8)/\(rf (L x.d))/\(L aB.z.natAbs=(L (a2.1).z.natAbs))/\(L aB.d=(L (a2.1).d))/\(L aC.z.natAbs=(L (a2.2.1).z.natAbs))/\(L aC.d=(L (a2.2.1).d))/\(rf a1))))))) (∃y4:Nat,let a3:=GH Z1 x y4;(y4<=Z1.length)/\(Z1.length-y4<Z1.length-x1)/\((rf Z7)/\(rf (116))/\(rf (vI Z5))/\(vI aA=vI (nI y4))/\(rf a9)/\(rf Z7)/\(rf Z2)/\(rf Z2)/\(rf Z7)/\(rf Z2)/\(rf Z2)/\(vB (decide ((Z4.1).z<0))=vB (decide ((a3.1).z<0)))/\(vB (decide ((Z4.2.1).z<0))=vB (decide ((a3.2.1).z<0)))/\(vB (Z4.2.2)=vB (a3.2.2))/\(rf a8)/\(rf (L x.d))/\((L (Z4.1).z.natAbs)=(L (a3.1).z.natAbs))/\((L (Z4.1).d)=(L (a3.1).d))/\((L (Z4.2.1).z.natAbs)=(L (a3.2.1).z.natAbs))/\((L (Z4.2.1).d)=(L (a3.2.1).d))/\(rf a1))))))) ((eqD (Z4.1) ((GI v x).1) ((eqD (Z4.2.1) ((GI v x).2.1) ((vB (Z4.2.2)=vB ((GI v x).2.2)))))))))) (by kernel_rfl) ?_
 conv=>zeta
 delta ifB vB vI wR nI;have aL:=DY v (0:Int) v.length;rw[show BZ v (0:Int) v.length=AO v (0:Int)from rfl]at aL;have aK:=BA (AO v 0);have h16:=(Aw a0).2.2
 refine⟨(v,(0:Int)),by
  rfl,by
  trivial,?_⟩
 refine⟨⟨0,by omega,?_⟩,?_⟩;refine⟨rfl,rfl,?_,?_,rfl,rfl,rfl,rfl,rfl,rfl,rfl,?_,?_,?_,rfl,rfl,?_,?_,?_,?_,?_⟩;rfl;rfl;rfl;rfl;rfl;exact Zf.1.symm;exact Zf.1.symm;exact Zf.1.symm;exact Zf.1.symm;rfl;intro (k:Nat) a4;have a4:k<=(AO v 0).length:=a4;refine And.symm ⟨λa5=>?_,λa5=>?_⟩;simp only[nrm]at a5;rw[aK]at a5;have aD:k=(AO v 0).length:=by omega
 refine KO ?_ (KO ?_ ?_);rw[aD];rw[aD];rw[aD];simp only[nrm]at a5;rw[aK]at a5;have hk:k<(AO v 0).length:=by omega
 have hek:((AO v 0).getD k noE).ok=true:=IW a0 hk;refine ao (by omega) λo28=>?_;refine ao (by omega) λo29=>?_
 refine⟨(((AO v 0).getD k noE),x,x),by
  rw[Bz hk];rfl,by
  trivial,?_⟩
 refine And.symm ⟨λa6=>?_,λa6=>?_⟩;simp only[nrm]at a6;have hE:=U6 (es:=(AO v 0)) (x:=x) (k:=k) (by simpa using a6)
 refine⟨k+1,by
  trivial,by
  omega,?_⟩
 refine⟨rfl,rfl,rfl,?_,rfl,rfl,rfl,rfl,rfl,rfl,rfl,?_,?_,?_,rfl,rfl,?_,?_,?_,?_,rfl⟩;exact AU (AB (by omega) (by omega));rw[hE];rw[hE];rw[hE];rw[hE];rw[hE];rw[hE];rw[hE];simp only[nrm]at a6;have hs:spn ((AO v 0).getD k noE) x x=true:=by simpa using a6
 refine⟨(((AO v 0).getD k noE),x),by
  rw[Bz hk];rfl,by
  trivial,?_⟩
 refine⟨λa7=>?_,λa7=>?_⟩;simp only[nrm]at a7;have hE:=Rj hs (by simpa using a7)
 refine⟨k+1,by
  trivial,by
  omega,?_⟩
 refine⟨rfl,rfl,rfl,?_,rfl,rfl,rfl,rfl,rfl,rfl,rfl,?_,?_,?_,rfl,rfl,?_,?_,?_,?_,rfl⟩;exact AU (AB (by omega) (by omega));rw[hE];rw[hE];rw[hE];rw[hE];rw[hE];rw[hE];rw[hE];simp only[nrm]at a7;have hf:(GH (AO v 0) x k).2.2=true:=by simpa using a7
 have hE:=Ol hs hf
 refine⟨(((GH (AO v 0) x k).1),(hgt ((AO v 0).getD k noE) x)),by
  rfl,by
  trivial,?_⟩
 refine⟨(((GH (AO v 0) x k).2.1),(hgt ((AO v 0).getD k noE) x)),by
  rfl,by
  trivial,?_⟩
 refine⟨k+1,by
  trivial,by
  omega,?_⟩
 refine⟨rfl,rfl,rfl,?_,rfl,rfl,rfl,rfl,rfl,rfl,rfl,?_,?_,?_,rfl,rfl,?_,?_,?_,?_,rfl⟩;exact AU (AB (by omega) (by omega));rw[hE];rw[hE];rw[hE,hf];rw[hE];rw[hE];rw[hE];rw[hE]
def vAt(v:List V2)(x:Fr):Nat->List Fr
 | 0=>[]|k+1=>if Fr.cmp (Fr.ofInt (v.getD k (0,0)).1) x=0 then Ct (vAt v x k) (Fr.ofInt (v.getD k (0,0)).2)else vAt v x k
def eAt(es:List Edg)(x:Fr)(l:List Fr):Nat->List Fr
 | 0=>l|k+1=>if spn (es.getD k noE) x x=true then Ct (eAt es x l k) (hgt (es.getD k noE) x)else eAt es x l k
abbrev hAt(v:List V2)(x:Fr):List Fr:=eAt (AO v 0) x (vAt v x v.length) (AO v 0).length
def DQ(v:List V2)(x:Fr):Fr×Fr×Bool:=if(hAt v x).length=0 then(Fr.none,Fr.none,false)else((hAt v x).getD 0 Fr.none,(hAt v x).getD ((hAt v x).length-1) Fr.none,true)
section
variable {v : List V2} {es : List Edg} {x : Fr} {l : List Fr} {k : Nat}
theorem AAS(h:Fr.cmp (Fr.ofInt (v.getD k (0,0)).1) x=0):vAt v x (k+1)=Ct (vAt v x k) (Fr.ofInt (v.getD k (0,0)).2):=if_pos h
theorem AAT(h:¬Fr.cmp (Fr.ofInt (v.getD k (0,0)).1) x=0):vAt v x (k+1)=vAt v x k:=if_neg h
theorem AAU(h:spn (es.getD k noE) x x=true):eAt es x l (k+1)=Ct (eAt es x l k) (hgt (es.getD k noE) x):=if_pos h
theorem AAV(h:spn (es.getD k noE) x x=false):eAt es x l (k+1)=eAt es x l k:=if_neg (by rw[h];simp)
theorem Lr(v:List V2)(x:Fr):∀k,(vAt v x k).length<=k
 | 0=>Nat.le_refl _|k+1=>by have ih:=Lr v x k;have h:=NM (vAt v x k) (Fr.ofInt (v.getD k (0,0)).2);rw[vAt];split <;> omega
theorem Pv(es:List Edg)(x:Fr)(l:List Fr):∀k,(eAt es x l k).length<=l.length+k
 | 0=>Nat.le_refl _|k+1=>by have ih:=Pv es x l k;have h:=NM (eAt es x l k) (hgt (es.getD k noE) x);rw[eAt];split <;> omega
theorem U7(h:(hAt v x).length=0):DQ v x=(Fr.none,Fr.none,false):=if_pos h
theorem Rk(h:¬(hAt v x).length=0):DQ v x=((hAt v x).getD 0 Fr.none,(hAt v x).getD ((hAt v x).length-1) Fr.none,true):=if_neg h
end
def IY:Con:={ι:=(List V2)×Fr,pre:=λi=>AV i.1=true/\i.2.good=true,args:=λi=>[.one (DC.sl 36 [.int,.int] (AZ i.1)),dF i.2],res:=λi=>⟨true,[some 3,some 3,none],[rcB (decide ((DQ i.1 i.2).1.z<0)),.view 3 [.int] (L (DQ i.1 i.2).1.z.natAbs),.view 3 [.int] (L (DQ i.1 i.2).1.d),rcB (decide ((DQ i.1 i.2).2.1.z<0)),.view 3 [.int] (L (DQ i.1 i.2).2.1.z.natAbs),.view 3 [.int] (L (DQ i.1 i.2).2.1.d),rcB ((DQ i.1 i.2).2.2)]⟩}
theorem Yd:IY.Ok Tryz.prog 74:=by
 refine fok (X:=⟨tt,[(51,AE),(55,AR),(56,CV),(89,DO),(95,Bd),(94,BX),(76,AL)],[51,52],63,[]⟩) mixed AG (CTok.cons Bq (CTok.cons D6 (CTok.cons Oh (CTok.cons Od (CTok.cons KW (CTok.cons Jg (CTok.cons FA (CTok.nil _)))))))) Tryz.func74 (λ(i:(List V2)×Fr)=>let Z2:=AO i.1 0;let Z1:=Value.slice none 0 0;[(9,.mk 8 (Nat) (λx4=>{tm:=[(3,tP 1 0),(4,tP 4 0),(5,tP 5 0),(6,tB false),(7,tX 6),(32,tX 7),(33,tI (nI ((Af Z2).length))),(34,tI (nI x4))],en:=[(1,.box [kB (decide (i.2.z<0)),.ext 2,.ext 3]),(4,.box [kB false,.im Z1,.im Z1]),(5,.box [kB false,.im Z1,.im Z1]),(2,eV (L i.2.z.natAbs)),(3,eV (L i.2.d)),(6,.view 44 z30 (AC (eAt Z2 i.2 (vAt i.1 i.2 i.1.length) x4)) []),(7,.own 87 z86 (Af Z2))]}) (λx4=>x4<=Z2.length) (λx4=>Z2.length-x4) (λ_=>[])),(3,.mk 8 (Nat) (λx1=>{tm:=[(0,tX 1),(3,tP 2 0),(4,tP 5 0),(5,tP 6 0),(6,tB false),(13,tX 1),(14,tI (nI ((AZ i.1).length))),(7,tX 7),(15,tI (nI x1))],en:=[(2,.box [kB (decide (i.2.z<0)),.ext 3,.ext 4]),(5,.box [kB false,.im Z1,.im Z1]),(6,.box [kB false,.im Z1,.im Z1]),(1,.view 36 [.int,.int] (AZ i.1) []),(3,eV (L i.2.z.natAbs)),(4,eV (L i.2.d)),(7,.view 44 z30 (AC (vAt i.1 i.2 x1)) [])]}) (λx1=>x1<=i.1.length) (λx1=>i.1.length-x1) (λ_=>[]))]) ?_;rintro⟨v,x⟩ a0;have a0:AV v=true/\x.good=true:=a0
 refine AH (q:=let aA:=vAt v x v.length;let a5:=L x.z.natAbs;let a1:=DQ v x;let Z9:=nI ((AZ v).length);let Z8:=vB (decide (x.z<0));let Z7:=AO v 0;let Z6:=vB false;let Z3:=Af Z7;let aB:=nI (Z3.length);let Z2:=Value.slice none 0 0;(∃x1:Nat,(x1<=v.length)/\((rf Z6)/\(rf (vI Z9))/\(vI (0:Int)=vI (nI x1))/\(rf Z8)/\(rf Z6)/\(rf Z2)/\(rf Z2)/\(rf Z6)/\(rf Z2)/\(rf Z2)/\(rf (AZ v))/\(rf a5)/\(rf (L x.d))/\(([]:List (List Dat))=(AC (vAt v x x1)))))/\∀x1:Nat,let aG:=wR ((nI x1)+(1:Int));let aD:=AC (vAt v x x1);(x1<=v.length)->(ifB ((decide ((nI x1)<Z9))) ((0<=(nI x1)/\(nI x1)<((AZ v).length:Int))/\((x1<(AZ v).length)/\(∃i1:Int,[DA.one (cI (((((AZ v).getD x1 []).getD 0 (.int 0))).n))]=AE.args i1/\AE.pre i1/\(∃i2:Fr×Fr,[dF (Fr.ofInt i1),dF x]=AR.args i2/\AR.pre i2/\(ifB (((Fr.cmp i2.1 i2.2) == (0:Int))) (∃i3:Int,[DA.one (cI (((((AZ v).getD x1 []).getD 1 (.int 0))).n))]=AE.args i3/\AE.pre i3/\(∃i4:(List Fr)×Fr,[DA.one (DC.sl 44 z30 aD),dF (Fr.ofInt i3)]=CV.args i4/\CV.pre i4/\(∃y2:Nat,(y2<=v.length)/\(v.length-y2<v.length-x1)/\((rf Z6)/\(rf (vI Z9))/\(vI aG=vI (nI y2))/\(rf Z8)/\(rf Z6)/\(rf Z2)/\(rf Z2)/\(rf Z6)/\(rf Z2)/\(rf Z2)/\(rf (AZ v))/\(rf a5)/\(rf (L x.d))/\(AC (Ct i4.1 i4.2)=(AC (vAt v x y2))))))) (∃y3:Nat,(y3<=v.length)/\(v.length-y3<v.length-x1)/\((rf Z6)/\(rf (vI Z9))/\(vI aG=vI (nI y3))/\(rf Z8)/\(rf Z6)/\(rf Z2)/\(rf Z2)/\(rf Z6)/\(rf Z2)/\(rf Z2)/\(rf (AZ v))/\(rf a5)/\(rf (L x.d))/\(aD=(AC (vAt v x y3)))))))))) (∃i5:(List V2)×Int,[DA.one (DC.sl 36 [.int,.int] (AZ v)),DA.one (cI (0:Int))]=DO.args i5/\DO.pre i5/\((∃x4:Nat,(x4<=Z7.length)/\((rf Z6)/\(vI (nI ((Af (AO i5.1 i5.2)).length))=vI aB)/\(vI (0:Int)=vI (nI x4))/\(rf Z8)/\(rf Z6)/\(rf Z2)/\(rf Z2)/\(rf Z6)/\(rf Z2)/\(rf Z2)/\(rf a5)/\(rf (L x.d))/\(aD=(AC (eAt Z7 x aA x4)))/\(Af (AO i5.1 i5.2)=Z3)))/\∀x4:Nat,let aH:=wR ((nI x4)+(1:Int));let Z5:=Z3.getD x4 [];let aI:=((Z5.getD 5 (.int 0))).b;let aJ:=((Z5.getD 4 (.int 0))).n;let aK:=((Z5.getD 3 (.int 0))).n;let aL:=((Z5.getD 2 (.int 0))).n;let aM:=((Z5.getD 1 (.int 0))).n;let aN:=((Z5.getD 0 (.int 0))).n;let Z1:=AC (eAt Z7 x aA x4);let aE:=Z1.getD 0 [];let Z4:=wR ((nI (Z1.length))-(1:Int));let aF:=Z1.getD (Z4.toNat) [];(x4<=Z7.length)->(ifB ((decide ((nI x4)<aB))) ((0<=(nI x4)/\(nI x4)<(Z3.length:Int))/\((x4<Z3.length)/\(∃i6:Edg×Fr×Fr,[DA.agg [cI aN,cI aM,cI aL,cI aK,cI aJ,cB aI],dF x,dF x]=Bd.args i6/\Bd.pre i6/\(ifB ((i6.2.1.good && (i6.2.2.good && spn i6.1 i6.2.1 i6.2.2))) (∃i7:Edg×Fr,[DA.agg [cI aN,cI aM,cI aL,cI aK,cI aJ,cB aI],dF x]=BX.args i7/\BX.pre i7/\(∃i8:(List Fr)×Fr,[DA.one (DC.sl 44 z30 Z1),dF (hgt i7.1 i7.2)]=CV.args i8/\CV.pre i8/\(∃y5:Nat,(y5<=Z7.length)/\(Z7.length-y5<Z7.length-x4)/\((rf Z6)/\(rf (vI aB))/\(vI aH=vI (nI y5))/\(rf Z8)/\(rf Z6)/\(rf Z2)/\(rf Z2)/\(rf Z6)/\(rf Z2)/\(rf Z2)/\(rf a5)/\(rf (L x.d))/\(AC (Ct i8.1 i8.2)=(AC (eAt Z7 x aA y5)))/\(rf Z3))))) (∃y6:Nat,(y6<=Z7.length)/\(Z7.length-y6<Z7.length-x4)/\((rf Z6)/\(rf (vI aB))/\(vI aH=vI (nI y6))/\(rf Z8)/\(rf Z6)/\(rf Z2)/\(rf Z2)/\(rf Z6)/\(rf Z2)/\(rf Z2)/\(rf a5)/\(rf (L x.d))/\(Z1=(AC (eAt Z7 x aA y6)))/\(rf Z3))))))) (ifB (((nI (Z1.length)) == (0:Int))) ((eqM (a1.1) ((eqM (a1.2.1) ((vB false=vB (a1.2.2))))))) ((0<=(0:Int)/\(0:Int)<(Z1.length:Int))/\((0<Z1.length)/\((0<=Z4/\Z4<(Z1.length:Int))/\((Z4.toNat<Z1.length)/\(∃i9:Bool×(List (List Dat))×(List (List Dat)),[DA.agg [cB (((aF.getD 0 (.int 0))).b),cS (((aF.getD 1 (.int 0))).r),cS (((aF.getD 2 (.int 0))).r)]]=AL.args i9/\AL.pre i9/\((vB (((aE.getD 0 (.int 0))).b)=vB (decide (a1.1.z<0)))/\(((aE.getD 1 (.int 0))).r=L a1.1.z.natAbs)/\(((aE.getD 2 (.int 0))).r=L a1.1.d)/\(vB i9.1=vB (decide (a1.2.1.z<0)))/\(i9.2.1=L a1.2.1.z.natAbs)/\(i9.2.2=L a1.2.1.d)/\(vB true=vB (a1.2.2)))))))))))))) (by kernel_rfl) ?_
 conv=>zeta
 delta ifB vB vI wR nI;have aR:=DY v (0:Int) v.length;rw[show BZ v (0:Int) v.length=AO v (0:Int)from rfl]at aR;have aO:=BA (AO v 0);have h16:=(Aw a0.1).2.2;have aP:=A9 v;have hg:=a0.2;refine⟨⟨0,by omega,?_⟩,?_⟩;refine⟨rfl,rfl,?_,rfl,rfl,rfl,rfl,rfl,rfl,rfl,rfl,rfl,rfl,?_⟩;rfl;rfl;intro (k:Nat) a6;have a6:k<=v.length:=a6;refine⟨λa7=>?_,λa7=>?_⟩;simp only[nrm]at a7;rw[aP]at a7;have hk:k<v.length:=by omega
 have hvb:=CW (List.all_eq_true.1 (Aw a0.1).1 _ (Ay (d:=(0,0)) hk));have aQ:=Lr v x k;refine ao (by omega) λo18=>?_;refine ao (by omega) λo19=>?_
 refine⟨(v.getD k (0,0)).1,by
  rw[Jf hk];rfl,by
  show -9223372036854775808<=((v.getD k (0,0)).1)/\((v.getD k (0,0)).1)<=9223372036854775807;omega,?_⟩
 refine⟨((Fr.ofInt ((v.getD k (0,0)).1)),x),by
  rfl,by
  trivial,?_⟩
 refine And.symm ⟨λa8=>?_,λa8=>?_⟩;simp only[nrm]at a8;have hE:=AAT (v:=v) (x:=x) (k:=k) (by simpa using a8)
 refine⟨k+1,by
  trivial,by
  omega,?_⟩
 refine⟨rfl,rfl,?_,rfl,rfl,rfl,rfl,rfl,rfl,rfl,rfl,rfl,rfl,?_⟩;exact AU (AB (by omega) (by omega));rw[hE];simp only[nrm]at a8;have hE:=AAS (v:=v) (x:=x) (k:=k) (by simpa using a8)
 refine⟨(v.getD k (0,0)).2,by
  rw[Jf hk];rfl,by
  show -9223372036854775808<=((v.getD k (0,0)).2)/\((v.getD k (0,0)).2)<=9223372036854775807;omega,?_⟩
 refine⟨((vAt v x k),Fr.ofInt (v.getD k (0,0)).2),by
  rfl,by
  show(vAt v x k).length<=2000000000000;omega,?_⟩
 refine⟨k+1,by
  trivial,by
  omega,?_⟩
 refine⟨rfl,rfl,?_,rfl,rfl,rfl,rfl,rfl,rfl,rfl,rfl,rfl,rfl,?_⟩;exact AU (AB (by omega) (by omega));rw[hE];simp only[nrm]at a7;rw[aP]at a7;have aS:k=v.length:=by omega
 have aT:=aS
 refine⟨(v,(0:Int)),by
  rfl,by
  exact a0.1,?_⟩
 refine⟨⟨0,by omega,?_⟩,?_⟩;refine⟨rfl,?_,?_,rfl,rfl,rfl,rfl,rfl,rfl,rfl,rfl,rfl,?_,?_⟩;rfl;rfl;rw[aT];rfl;rfl;intro (k:Nat) a2;have a2:k<=(AO v 0).length:=a2;refine And.symm ⟨λa9=>?_,λa9=>?_⟩;simp only[nrm]at a9;rw[aO]at a9;have hk2:k=(AO v 0).length:=by omega
 have hEA:(eAt (AO v 0) x (vAt v x v.length) k)=hAt v x:=by rw[hk2]
 have aQ:=Lr v x v.length;have aU:=Pv (AO v 0) x (vAt v x v.length) k;have hfl:=Ao (eAt (AO v 0) x (vAt v x v.length) k);refine⟨λa3=>?_,λa3=>?_⟩;simp only[nrm]at a3;have hz:(hAt v x).length=0:=by rw[← hEA];omega
 have hE:=U7 hz;refine DI ?_ (DI ?_ ?_);rw[hE];rw[hE];rw[hE];simp only[nrm]at a3;have hz:¬(hAt v x).length=0:=by rw[← hEA];omega
 have hE:=Rk hz;have aC:(IntKind.i64.wrap ((((AC (eAt (AO v 0) x (vAt v x v.length) k)).length:Nat):Int)-(1:Int))).toNat=(hAt v x).length-1:=by rw[AB (by omega) (by omega),← hEA];omega
 have hwi:IntKind.i64.wrap ((((AC (eAt (AO v 0) x (vAt v x v.length) k)).length:Nat):Int)-(1:Int))=(((AC (eAt (AO v 0) x (vAt v x v.length) k)).length:Nat):Int)-1:=AB (by omega) (by omega);refine ao (by omega) λo141=>?_;refine ao (by omega) λo142=>?_;refine ao (by omega) λo143=>?_;refine ao (by omega) λo144=>?_
 refine⟨(((((AC (eAt (AO v 0) x (vAt v x v.length) k)).getD ((IntKind.i64.wrap ((((AC (eAt (AO v 0) x (vAt v x v.length) k)).length:Nat):Int)-(1:Int))).toNat) []).getD 0 (.int 0))).b,((((AC (eAt (AO v 0) x (vAt v x v.length) k)).getD ((IntKind.i64.wrap ((((AC (eAt (AO v 0) x (vAt v x v.length) k)).length:Nat):Int)-(1:Int))).toNat) []).getD 1 (.int 0))).r,((((AC (eAt (AO v 0) x (vAt v x v.length) k)).getD ((IntKind.i64.wrap ((((AC (eAt (AO v 0) x (vAt v x v.length) k)).length:Nat):Int)-(1:Int))).toNat) []).getD 2 (.int 0))).r),by
  rfl,by
  try dsimp only[AL]
  rw[aC,hEA,B0 (by omega)];exact CY _,?_⟩
 refine⟨?_,?_,?_,?_,?_,?_,?_⟩;rw[hE,hEA,B0 (by omega)];rfl;rw[hE,hEA,B0 (by omega)];rfl;rw[hE,hEA,B0 (by omega)];rfl;rw[hE,aC,hEA,B0 (by omega)];rfl;rw[hE,aC,hEA,B0 (by omega)];rfl;rw[hE,aC,hEA,B0 (by omega)];rfl;rw[hE];simp only[nrm]at a9;rw[aO]at a9;have hk:k<(AO v 0).length:=by omega
 have hek:((AO v 0).getD k noE).ok=true:=IW a0.1 hk;have aQ:=Lr v x v.length;have aU:=Pv (AO v 0) x (vAt v x v.length) k;refine ao (by omega) λo87=>?_;refine ao (by omega) λo88=>?_
 refine⟨(((AO v 0).getD k noE),x,x),by
  rw[Bz hk];rfl,by
  trivial,?_⟩
 refine And.symm ⟨λa4=>?_,λa4=>?_⟩;simp only[nrm]at a4;rw[hg]at a4;have hE:=AAV (es:=(AO v 0)) (x:=x) (l:=vAt v x v.length) (k:=k) (by simpa using a4)
 refine⟨k+1,by
  trivial,by
  omega,?_⟩
 refine⟨rfl,rfl,?_,rfl,rfl,rfl,rfl,rfl,rfl,rfl,rfl,rfl,?_,rfl⟩;exact AU (AB (by omega) (by omega));rw[hE];simp only[nrm]at a4;rw[hg]at a4;have hE:=AAU (es:=(AO v 0)) (x:=x) (l:=vAt v x v.length) (k:=k) (by simpa using a4)
 refine⟨(((AO v 0).getD k noE),x),by
  rw[Bz hk];rfl,by
  trivial,?_⟩
 refine⟨((eAt (AO v 0) x (vAt v x v.length) k),hgt ((AO v 0).getD k noE) x),by
  rfl,by
  show(eAt (AO v 0) x (vAt v x v.length) k).length<=2000000000000;omega,?_⟩
 refine⟨k+1,by
  trivial,by
  omega,?_⟩
 refine⟨rfl,rfl,?_,rfl,rfl,rfl,rfl,rfl,rfl,rfl,rfl,rfl,?_,rfl⟩;exact AU (AB (by omega) (by omega));rw[hE]
def Ce(l:List Brd):List (List Dat):=l.map brD
theorem GJ(l:List Brd):(Ce l).length=l.length:=List.length_map ..
theorem Wa(a b:List Brd):Ce (a++b)=Ce a++Ce b:=List.map_append ..
theorem Jr{l:List Brd}{k:Nat}(h:k<l.length):(Ce l).getD k []=brD (l.getD k zB):=by simp[Ce,List.getD,h]
theorem Tg(l:List Brd):(G5 (Ra (λx:Brd=>x.l) zB l) l.length).map (λi=>(Ce l).getD i [])=Ce (LR (λx:Brd=>x.l) zB l):=by unfold LR;rw[show ∀t:List Nat,Ce (t.map λi=>l.getD i zB)=t.map λi=>brD (l.getD i zB)from λt=>by unfold Ce;rw[List.map_map];rfl];exact List.map_congr_left λi hi=>Jr (RY hi)
theorem AC2{us:List Value}(h:us.length=1):∃u,us=[u]:=
 match us,h with| [_],_=>⟨_,rfl⟩
def Ke:Con:={ι:=Brd×Brd,pre:=λi=>True,args:=λi=>[DA.agg [cB (decide (i.1.l.z<0)),cS (L i.1.l.z.natAbs),cS (L i.1.l.d),cB (decide (i.1.r.z<0)),cS (L i.1.r.z.natAbs),cS (L i.1.r.d)],DA.agg [cB (decide (i.2.l.z<0)),cS (L i.2.l.z.natAbs),cS (L i.2.l.d),cB (decide (i.2.r.z<0)),cS (L i.2.r.z.natAbs),cS (L i.2.r.d)]],mono:=true,res:=λi=>⟨false,[none],[rcI (Fr.cmp i.1.l i.2.l)]⟩}
theorem Ye:Ke.Ok Tryz.prog 80:=by
 refine fok (X:=⟨tt,[(81,AI)],[],10,[]⟩) mixed AG (CTok.cons D0 (CTok.nil _)) Tryz.func80 (λ_=>[]) ?_;rintro⟨x,y⟩ a0;have a0:True:=a0;refine AH (q:=∃i1:Fr×Fr,[dF x.l,dF y.l]=AI.args i1/\AI.pre i1/\((vI (Fr.cmp i1.1 i1.2)=vI (Fr.cmp x.l y.l)))) (by kernel_rfl) ?_;delta vI
 refine⟨(x.l,y.l),by
  rfl,by
  trivial,?_⟩
 exact rfl
def NT:(List Brd)->DC:=λi=>.sl 106 [.bool,.sl 3 [.int],.sl 3 [.int],.bool,.sl 3 [.int],.sl 3 [.int]] (Ce i)
def NU:(List Brd)->List Nat:=λi=>G5 (Ra (λb:Brd=>b.l) zB i) i.length
def GK:Con:={ι:=(List Brd),pre:=λi=>(∀b ∈ i,b.l.d≠0)/\i.length<=1048576,args:=λi=>[.one (.ro (.fn 80 []))],tag:=81,top:=some (NT,NU),new:=λi=>[Ce (LR (λb:Brd=>b.l) zB i)],res:=λi=>⟨true,[],[]⟩}
theorem Zm{x y:Brd}{xs ys:List Value}{w:World}(h1:RdRow w (rTy++rTy) (brD x) xs)(h2:RdRow w (rTy++rTy) (brD y) ys):Calls Tryz.prog 80 #[.agg xs.toArray,.agg ys.toArray] w λe w'=>e=.returned (.int .i64 (Fr.cmp x.l y.l))/\∃q os,w'=grow (w.drewN q) os:=by
 have h:=NO Ye rfl rfl (x,y) trivial (v:=.int .i64 (Fr.cmp x.l y.l)) rfl (RdRow.app _ _ _ h1 h2) rfl rfl rfl;have l1:=(RdRow.lens _ _ _ h1).2;have l2:=(RdRow.lens _ _ _ h2).2;have hv:Be (Ke.args (x,y)) (xs++ys)=[.agg xs.toArray,.agg ys.toArray]:=by simp only[Ke];rw[JV (by exact l1),EU (by exact l2)]
 rw[hv]at h;exact h
theorem AC3{F:Nat->Prop}{w:World}{ts:List Ty}{e g cap:Nat}{L:List (List Dat)}{rows:List (List Value)}{cur:Array Value}(R:RowsT F w e ts L g cap rows cur)(hk:ts.length=6)(h0:0<L.length)(hm:L.length<=2000000000000)(f:Nat)(eg:∀args w,(callFunc f args).run Tryz.prog w=.ok (.enter f args) w)(c:Nat->Nat->Int)(hc:TPre λi j=>c (clI L.length i) (clI L.length j))
  (hp:∀W i j,i<L.length->j<L.length->RdRow W ts (L.getD i []) (rows.getD i [])->RdRow W ts (L.getD j []) (rows.getD j [])->Calls Tryz.prog f #[.agg (rows.getD i []).toArray,.agg (rows.getD j []).toArray] W λe w'=>e=.returned (.int .i64 (c i j))/\∃q os,w'=grow (W.drewN q) os) :
  Calls Tryz.prog 79 #[.slice (some ⟨g,0,none⟩) L.length cap,.func (.func f) #[] #[]] w λed w'=>ed=.returned (.tuple #[])/\OnlyIn (λb=>b=g) w w'/\w'.ownsRow 0 e ts.length (.slice (some ⟨g,0,none⟩) rows.length cap) rows.length ((G5 (λi j=>c (clI L.length i) (clI L.length j)) L.length).map λi=>rows.getD i []).flatten:=by
 have hC:=WZ R h0 c hp;have E:StEW Tryz.prog ts.length:=by rw[hk];exact BT
 refine(AC1 E ABz rfl rfl rfl rfl (GF rows) _ hc f eg g cap L.length w hC (R.key h0) (by omega)).mono ?_;rintro ed w' ⟨rfl,D,⟨n,os,rfl⟩,hD⟩;have a0:D.toList.Perm (List.range L.length):=by rw[hD];exact Gs _ _
 obtain⟨ho,b1⟩:=R.sorted a0 n os;rw[hD]at b1;exact⟨rfl,ho,b1⟩
theorem Yf:GK.OkT Tryz.prog 79 NT NU where
 enter:=⟨_,Tryz.func79,by decide,rfl⟩
 perm:=by intro (l:List Brd) hp e ts rows h0;cases h0;exact⟨by rw[GJ];exact Kb _ _,λj hj=>by rw[GJ];exact RY hj,(Tg l).symm⟩
 calls:=by
  intro (l:List Brd) (hp:(∀x ∈ l,x.l.d≠0)/\l.length<=1048576) F w e ts rows u rv us h0 v1 v2 v3 v4 v5 h;cases h0;obtain⟨u1,rfl⟩:=AC2 h.len;obtain⟨ps,hu1,a4,-⟩:ROAt F w (.fn 80 []) u1:=h.rd 0 _ _ rfl rfl (by decide);obtain rfl:ps=[]:=List.eq_nil_of_length_eq_zero a4;subst hu1;have hv:Be (GK.args l) [.func (.func 80) #[] #[]]=[.func (.func 80) #[] #[]]:=rfl;rw[hv];have a1:=GJ l;by_cases h0:l=[];subst h0;have hr:rv=[]:=List.eq_nil_of_length_eq_zero v2;subst hr;obtain⟨p,cap,rfl⟩:∃p cap,u=.slice p 0 cap:=by rcases v1.2 with⟨e1,_⟩|⟨g,cap,cur,e1,_⟩;exact⟨none,0,e1⟩;exact⟨_,cap,e1⟩
  refine Calls.mono (P:=Tryz.prog) (AB7 p cap (.func (.func 80) #[] #[]) w) ?_;rintro ed w' ⟨rfl,rfl⟩;have et:NU []=[]:=List.eq_nil_of_length_eq_zero (Kb _ _);exact⟨rfl,by rw[et];exact v1,OnlyIn.refl _ _,λhc=>by cases hc⟩;have a3:0<l.length:=List.length_pos_iff.2 h0;have a5:rv.length=l.length:=by rw[v2,a1]
  obtain⟨g,cap,rfl⟩:∃g cap,u=.slice (some ⟨g,0,none⟩) rv.length cap:=by rcases v1.2 with⟨e1,e2⟩|⟨g,cap,cur,e1,_⟩;omega;exact⟨g,cap,e1⟩
  obtain⟨cur,R⟩:=RowsT.of v1 v2 v3 v4 (λhF=>v5 g rfl hF);have eg:∀args w,(callFunc 80 args).run Tryz.prog w=.ok (.enter 80 args) w:=enters_of Tryz.func80 (by kernel_rfl) rfl;have a2:=Rb (key:=λx:Brd=>x.l) (d0:=zB) hp.1 a3;have a0:=AC3 R rfl (by rw[a1];exact a3) (by rw[a1];omega) 80 eg (λi j=>Fr.cmp (l.getD i zB).l (l.getD j zB).l) (by rw[a1];exact a2) (λW i j hi hj r1 r2=>by rw[a1]at hi hj;rw[Jr hi]at r1;rw[Jr hj]at r2;exact Zm r1 r2);rw[a1]at a0;rw[a5]at a0 ⊢;refine Calls.mono (P:=Tryz.prog) a0 ?_;rintro ed w' ⟨rfl,ho,b1⟩;exact⟨rfl,b1,⟨ho.os,ho.tape,ho.output,ho.size,λb hb a6=>ho.block b hb λe=>a6 (by rw[e];rfl)⟩,λhc=>by cases hc⟩
structure Wl where
 x:Fr
 lo:Fr
 hi:Fr
abbrev wlD(c:Wl):List Dat:=frD c.x++(frD c.lo++frD c.hi)
def Bs(l:List Wl):List (List Dat):=l.map wlD
theorem FB(l:List Wl):(Bs l).length=l.length:=List.length_map ..
theorem Js(a b:List Wl):Bs (a++b)=Bs a++Bs b:=List.map_append ..
def wsO(v:List V2)(x:Fr):List Brd:=if(GI v x).2.2=true then[⟨(GI v x).1,(GI v x).2.1⟩]else[]
def wsT(ls:List (List V2))(x:Fr):Nat->List Brd
 | 0=>[]|k+1=>wsT ls x k++wsO (ls.getD k []) x
def wlO(x f t:Fr):List Wl:=if Fr.cmp f t<0 then[⟨x,f,t⟩]else[]
def wlT(x top y:Fr)(bs:List Brd):Nat->Fr×List Wl
 | 0=>(y,[])|k+1=>(Fr.max (wlT x top y bs k).1 (bs.getD k zB).r,(wlT x top y bs k).2++wlO x (wlT x top y bs k).1 (Fr.min (bs.getD k zB).l top))
def wls(x top y:Fr)(bs:List Brd):List Wl:=(wlT x top y bs bs.length).2++wlO x (wlT x top y bs bs.length).1 top
abbrev bsS(ls:List (List V2))(x:Fr):List Brd:=LR (λb:Brd=>b.l) zB (wsT ls x ls.length)
section
variable {ls : List (List V2)} {x top y f t : Fr} {bs : List Brd} {k : Nat} {l : List Wl}
theorem Ls(ls:List (List V2))(x:Fr):∀k,(wsT ls x k).length<=k
 | 0=>Nat.le_refl _|k+1=>by have ih:=Ls ls x k;rw[wsT,List.length_append];unfold wsO;split <;> simp <;> omega
theorem IZ(x top y:Fr)(bs:List Brd):∀k,(wlT x top y bs k).2.length<=k
 | 0=>Nat.le_refl _|k+1=>by have ih:=IZ x top y bs k;show(_++wlO _ _ _).length<=_;rw[List.length_append];unfold wlO;split <;> simp <;> omega
theorem U8(ls:List (List V2))(x:Fr):(bsS ls x).length<=ls.length:=by rw[Oi];exact Ls ls x _
theorem AB8(h:(GI (ls.getD k []) x).2.2=true):Ce (wsT ls x (k+1))=Ce (wsT ls x k)++[brD ⟨(GI (ls.getD k []) x).1,(GI (ls.getD k []) x).2.1⟩]:=by rw[wsT,Wa,wsO,if_pos h];rfl
theorem AB9(h:(GI (ls.getD k []) x).2.2=false):wsT ls x (k+1)=wsT ls x k:=by rw[wsT,wsO,if_neg (by rw[h];simp),List.append_nil]
theorem U9(h:Fr.cmp f t<0):wlO x f t=[⟨x,f,t⟩]:=if_pos h
theorem VA(h:¬Fr.cmp f t<0):wlO x f t=[]:=if_neg h
theorem VB(h:wlO x (wlT x top y bs k).1 (Fr.min (bs.getD k zB).l top)=l):(wlT x top y bs (k+1)).2=(wlT x top y bs k).2++l:=by rw[← h];rfl
theorem VC(e:k=bs.length)(h:wlO x (wlT x top y bs k).1 top=l):wls x top y bs=(wlT x top y bs k).2++l:=by rw[← h,e];rfl
theorem min_self(r:Fr):Fr.min r r=r:=by
 rw[Fr.min_pick];split;rename_i h;cases hv:r.v with|none=>exact Fr.ext (by rw[hv,Fr.none_v])|some q=>have:=Rat.den_nz q;rw[Fr.d_some hv]at h;omega
 split <;> rfl
end
def FC:Con:={ι:=Int×Int×Int×Int×(List (List V2))×Fr,pre:=λi=>(A0 i.2.2.2.2.1=true/\i.2.2.2.2.1.length<=1048576/\∀b ∈ wsT i.2.2.2.2.1 i.2.2.2.2.2 i.2.2.2.2.1.length,b.l.d≠0)/\(-9223372036854775808<=i.2.1/\i.2.1<=9223372036854775807)/\(-9223372036854775808<=i.2.2.2.1/\i.2.2.2.1<=9223372036854775807),args:=λi=>[DA.agg [cI i.1,cI i.2.1,cI i.2.2.1,cI i.2.2.2.1],.one (DC.sl 66 [.sl 36 [.int,.int]] (AN i.2.2.2.2.1)),dF i.2.2.2.2.2],res:=λi=>⟨false,[none],[.own 81 [.bool,.sl 3 [.int],.sl 3 [.int],.bool,.sl 3 [.int],.sl 3 [.int],.bool,.sl 3 [.int],.sl 3 [.int]] (Bs (wls i.2.2.2.2.2 (Fr.ofInt i.2.2.2.1) (Fr.ofInt i.2.1) (bsS i.2.2.2.2.1 i.2.2.2.2.2)))]⟩}
theorem Wb:FC.Ok Tryz.prog 48:=by
 refine fok (X:=⟨tt,[(78,IX),(79,GK),(82,AT),(84,CS),(81,AI),(71,A6),(85,CT)],[19,38],72,[(83,⟨Tryz.f83.body.getD .skip,Tryz.f83.ntmps,Tryz.f83.results.toList⟩)]⟩) mixed AG (CTok.cons Yc (CTok.consT Yf (CTok.cons Ek (CTok.cons OS (CTok.cons D0 (CTok.cons OU (CTok.cons OT (CTok.nil _)))))))) (hil:=(InlOk.cons Tryz.func83 (by decide) rfl rfl rfl (InlOk.nil _))) Tryz.func48 (λ(i:Int×Int×Int×Int×(List (List V2))×Fr)=>let Z3:=Fr.ofInt i.2.2.2.1;let Z2:=bsS i.2.2.2.2.1 i.2.2.2.2.2;[(14,.mk 13 (Nat) (λx4=>let Z1:=wlT i.2.2.2.2.2 Z3 (Fr.ofInt i.2.1) Z2 x4;{tm:=[(5,tP 1 0),(6,.one (.one (.im (Value.slice none 0 0)))),(13,tP 4 0),(14,tP 7 0),(15,tP 10 0),(16,.one (.one (.clo 83 [7,4,10,1]))),(53,tX 12),(54,tI (nI ((Ce Z2).length))),(55,tI (nI x4))],en:=[(1,.box [kB (decide ((i.2.2.2.2.2).z<0)),.ext 2,.ext 3]),(4,.box [kB (decide ((Z1.1).z<0)),.ext 5,.ext 6]),(7,.box [kB (decide ((Z3).z<0)),.ext 8,.ext 9]),(10,.box [.ext 11]),(2,eV (L (i.2.2.2.2.2).z.natAbs)),(3,eV (L (i.2.2.2.2.2).d)),(5,.view 3 [.int] (L (Z1.1).z.natAbs) [12]),(6,.view 3 [.int] (L (Z1.1).d) [12]),(8,eV (L (Z3).z.natAbs)),(9,eV (L (Z3).d)),(11,.own 81 z80 (Bs Z1.2)),(12,.top 106 AAn (Ce Z2) [])]}) (λx4=>x4<=Z2.length) (λx4=>Z2.length-x4) (λ_=>[])),(3,.mk 7 (Nat) (λx1=>{tm:=[(3,tP 1 0),(5,tP 2 0),(6,.one (.one (.im (Value.slice none 0 0)))),(20,tX 5),(21,tI (nI ((AN i.2.2.2.2.1).length))),(22,tI (nI x1)),(7,tX 6)],en:=[(1,.box [kI i.1,kI i.2.1,kI i.2.2.1,kI i.2.2.2.1]),(2,.box [kB (decide (i.2.2.2.2.2.z<0)),.ext 3,.ext 4]),(3,eV (L i.2.2.2.2.2.z.natAbs)),(4,eV (L i.2.2.2.2.2.d)),(5,.view 66 [.sl 36 [.int,.int]] (AN i.2.2.2.2.1) []),(6,.top 106 AAn (Ce (wsT i.2.2.2.2.1 i.2.2.2.2.2 x1)) [])]}) (λx1=>x1<=i.2.2.2.2.1.length) (λx1=>i.2.2.2.2.1.length-x1) (λ_=>[]))]) ?_;rintro⟨lx,ly,hx,hy,ls,x⟩ a0;have a0:(A0 ls=true/\ls.length<=1048576/\∀b ∈ wsT ls x ls.length,b.l.d≠0)/\(-9223372036854775808<=ly/\ly<=9223372036854775807)/\(-9223372036854775808<=hy/\hy<=9223372036854775807):=a0
 refine AH (q:=let aV:=vB (decide ((x).z<0));let aE:=L x.z.natAbs;let a2:=List Dat;let aF:=vB (decide (x.z<0));let Z9:=AN ls;let aG:=nI (Z9.length);let Z8:=Value.slice none 0 0;let Z7:=Fr.ofInt ly;let Z6:=List a2;let Z3:=Fr.ofInt hy;let aP:=L (Z3).z.natAbs;let aQ:=decide ((Z3).z<0);let Z2:=bsS ls x;let a7:=Ce Z2;let aH:=nI (a7.length);(∃x1:Nat,(x1<=ls.length)/\((rf Z8)/\(rf (vI aG))/\(vI (0:Int)=vI (nI x1))/\(rf (vI lx))/\(rf (vI ly))/\(rf (vI hx))/\(rf (vI hy))/\(rf aF)/\(rf aE)/\(rf (L x.d))/\(rf Z9)/\(([]:List a2)=(Ce (wsT ls x x1)))))/\∀x1:Nat,let aW:=wR ((nI x1)+(1:Int));let aI:=Ce (wsT ls x x1);(x1<=ls.length)->(ifB ((decide ((nI x1)<aG))) ((0<=(nI x1)/\(nI x1)<(Z9.length:Int))/\((x1<Z9.length)/\(∃i1:(List V2)×Fr,let Z5:=GI i1.1 i1.2;[DA.one (DC.sl 36 [.int,.int] ((((Z9.getD x1 []).getD 0 (.int 0))).r)),dF x]=IX.args i1/\IX.pre i1/\(ifB ((Z5.2.2)) ((aI.length+([[Dat.bool (decide (Z5.1.z<0)),Dat.sl (L Z5.1.z.natAbs),Dat.sl (L Z5.1.d),Dat.bool (decide (Z5.2.1.z<0)),Dat.sl (L Z5.2.1.z.natAbs),Dat.sl (L Z5.2.1.d)]]:List a2).length<=1073741824)/\(∃y2:Nat,(y2<=ls.length)/\(ls.length-y2<ls.length-x1)/\((rf Z8)/\(rf (vI aG))/\(vI aW=vI (nI y2))/\(rf (vI lx))/\(rf (vI ly))/\(rf (vI hx))/\(rf (vI hy))/\(rf aF)/\(rf aE)/\(rf (L x.d))/\(rf Z9)/\((aI++([[Dat.bool (decide (Z5.1.z<0)),Dat.sl (L Z5.1.z.natAbs),Dat.sl (L Z5.1.d),Dat.bool (decide (Z5.2.1.z<0)),Dat.sl (L Z5.2.1.z.natAbs),Dat.sl (L Z5.2.1.d)]]:List a2))=(Ce (wsT ls x y2)))))) (∃y3:Nat,(y3<=ls.length)/\(ls.length-y3<ls.length-x1)/\((rf Z8)/\(rf (vI aG))/\(vI aW=vI (nI y3))/\(rf (vI lx))/\(rf (vI ly))/\(rf (vI hx))/\(rf (vI hy))/\(rf aF)/\(rf aE)/\(rf (L x.d))/\(rf Z9)/\(aI=(Ce (wsT ls x y3))))))))) (∃i2:(List Brd),let aX:=LR (λb:Brd=>b.l) zB i2;[DA.one (DC.ro (.fn 80 []))]=GK.args i2/\DC.sl 106 AAn aI=NT i2/\GK.pre i2/\(∃i3:Int,[DA.one (cI ly)]=AT.args i3/\AT.pre i3/\(∃i4:Int,[DA.one (cI hy)]=AT.args i4/\AT.pre i4/\((∃x4:Nat,let aJ:=wlT x Z3 Z7 Z2 x4;(x4<=Z2.length)/\((rf Z8)/\(rf (83))/\(vI (nI ((Ce aX).length))=vI aH)/\(vI (0:Int)=vI (nI x4))/\(rf aF)/\(vB (decide ((Fr.ofInt i3).z<0))=vB (decide ((aJ.1).z<0)))/\(vB (decide ((Fr.ofInt i4).z<0))=vB aQ)/\(rf aE)/\(rf (L x.d))/\(L (Fr.ofInt i3).z.natAbs=(L (aJ.1).z.natAbs))/\(L (Fr.ofInt i3).d=(L (aJ.1).d))/\(L (Fr.ofInt i4).z.natAbs=aP)/\(L (Fr.ofInt i4).d=(L (Z3).d))/\(([]:List a2)=(Bs aJ.2))/\(Ce aX=a7)))/\∀x4:Nat,let aY:=wR ((nI x4)+(1:Int));let Z4:=a7.getD x4 [];let aZ:=((Z4.getD 5 (.int 0))).r;let b0:=((Z4.getD 4 (.int 0))).r;let b1:=((Z4.getD 3 (.int 0))).b;let Z1:=wlT x Z3 Z7 Z2 x4;let a8:=Bs Z1.2;(x4<=Z2.length)->(ifB ((decide ((nI x4)<aH))) ((0<=(nI x4)/\(nI x4)<(a7.length:Int))/\((x4<a7.length)/\(∃i5:Fr×Fr,[DA.agg [cB (((Z4.getD 0 (.int 0))).b),cS (((Z4.getD 1 (.int 0))).r),cS (((Z4.getD 2 (.int 0))).r)],dF Z3]=CS.args i5/\CS.pre i5/\(∃i6:Fr×Fr,[dF (Z1.1),dF (Fr.min i5.1 i5.2)]=AI.args i6/\AI.pre i6/\(ifB ((decide ((Fr.cmp i6.1 i6.2)<(0:Int)))) (∃i7:Bool×Z6×Z6,[dF x]=A6.args i7/\A6.pre i7/\(∃i8:Bool×Z6×Z6,[dF (Z1.1)]=A6.args i8/\A6.pre i8/\(∃i9:Bool×Z6×Z6,[dF (Fr.min i5.1 i5.2)]=A6.args i9/\A6.pre i9/\((a8.length+([[Dat.bool i7.1,Dat.sl i7.2.1,Dat.sl i7.2.2,Dat.bool i8.1,Dat.sl i8.2.1,Dat.sl i8.2.2,Dat.bool i9.1,Dat.sl i9.2.1,Dat.sl i9.2.2]]:List a2).length<=1073741824)/\(∃aK:Fr×Fr,let aR:=Fr.max aK.1 aK.2;[dF (Z1.1),DA.agg [cB b1,cS b0,cS aZ]]=CT.args aK/\CT.pre aK/\(∃y5:Nat,let aL:=wlT x Z3 Z7 Z2 y5;(y5<=Z2.length)/\(Z2.length-y5<Z2.length-x4)/\((rf Z8)/\(rf (83))/\(rf (vI aH))/\(vI aY=vI (nI y5))/\(rf aV)/\(vB (decide (aR.z<0))=vB (decide ((aL.1).z<0)))/\(rf (vB aQ))/\(rf (L (x).z.natAbs))/\(rf (L (x).d))/\(L aR.z.natAbs=(L (aL.1).z.natAbs))/\(L aR.d=(L (aL.1).d))/\(rf aP)/\(rf (L (Z3).d))/\((a8++([[Dat.bool i7.1,Dat.sl i7.2.1,Dat.sl i7.2.2,Dat.bool i8.1,Dat.sl i8.2.1,Dat.sl i8.2.2,Dat.bool i9.1,Dat.sl i9.2.1,Dat.sl i9.2.2]]:List a2))=(Bs aL.2))/\(rf a7)))))))) (∃aM:Fr×Fr,let aS:=Fr.max aM.1 aM.2;[dF (Z1.1),DA.agg [cB b1,cS b0,cS aZ]]=CT.args aM/\CT.pre aM/\(∃y6:Nat,let aN:=wlT x Z3 Z7 Z2 y6;(y6<=Z2.length)/\(Z2.length-y6<Z2.length-x4)/\((rf Z8)/\(rf (83))/\(rf (vI aH))/\(vI aY=vI (nI y6))/\(rf aV)/\(vB (decide (aS.z<0))=vB (decide ((aN.1).z<0)))/\(rf (vB aQ))/\(rf (L (x).z.natAbs))/\(rf (L (x).d))/\(L aS.z.natAbs=(L (aN.1).z.natAbs))/\(L aS.d=(L (aN.1).d))/\(rf aP)/\(rf (L (Z3).d))/\(a8=(Bs aN.2))/\(rf a7))))))))) (∃a9:Fr×Fr,[dF Z3,dF Z3]=CS.args a9/\CS.pre a9/\(∃aO:Fr×Fr,[dF (Z1.1),dF (Fr.min a9.1 a9.2)]=AI.args aO/\AI.pre aO/\(ifB ((decide ((Fr.cmp aO.1 aO.2)<(0:Int)))) (∃a3:Bool×Z6×Z6,[dF x]=A6.args a3/\A6.pre a3/\(∃a4:Bool×Z6×Z6,[dF (Z1.1)]=A6.args a4/\A6.pre a4/\(∃a5:Bool×Z6×Z6,[dF (Fr.min a9.1 a9.2)]=A6.args a5/\A6.pre a5/\((a8.length+([[Dat.bool a3.1,Dat.sl a3.2.1,Dat.sl a3.2.2,Dat.bool a4.1,Dat.sl a4.2.1,Dat.sl a4.2.2,Dat.bool a5.1,Dat.sl a5.2.1,Dat.sl a5.2.2]]:List a2).length<=1073741824)/\(((a8++([[Dat.bool a3.1,Dat.sl a3.2.1,Dat.sl a3.2.2,Dat.bool a4.1,Dat.sl a4.2.1,Dat.sl a4.2.2,Dat.bool a5.1,Dat.sl a5.2.1,Dat.sl a5.2.2]]:List a2))=Bs (wls x Z3 Z7 Z2))))))) ((a8=Bs (wls x Z3 Z7 Z2))))))))))))) (by kernel_rfl) ?_
 conv=>zeta
 delta ifB vB vI wR nI;have b2:=A8 ls;have hbs:=U8 ls x;have b3:=GJ (bsS ls x);have hl16:=a0.1.2.1;refine⟨⟨0,by omega,?_⟩,?_⟩;refine⟨rfl,rfl,?_,rfl,rfl,rfl,rfl,rfl,rfl,rfl,rfl,?_⟩;rfl;rfl;intro (k:Nat) aA;have aA:k<=ls.length:=aA;refine⟨λaB=>?_,λaB=>?_⟩;simp only[nrm]at aB;rw[b2]at aB;have hk:k<ls.length:=by omega
 have hpv:=Cp a0.1.1 hk;have b4:=Ls ls x k;have hwz:=GJ (wsT ls x k);refine ao (by omega) λo16=>?_;refine ao (by omega) λo17=>?_
 refine⟨((ls.getD k []),x),by
  rw[BR hk];rfl,by
  trivial,?_⟩
 refine And.symm ⟨λaC=>?_,λaC=>?_⟩;simp only[nrm]at aC;have hE:=AB9 (ls:=ls) (x:=x) (k:=k) (by simpa using aC)
 refine⟨k+1,by
  trivial,by
  omega,?_⟩
 refine⟨rfl,rfl,?_,rfl,rfl,rfl,rfl,rfl,rfl,rfl,rfl,?_⟩;exact AU (AB (by omega) (by omega));rw[hE];simp only[nrm]at aC;have hE:=AB8 (ls:=ls) (x:=x) (k:=k) (by simpa using aC);refine ao (by simp only[List.length_cons,List.length_nil];omega) λo22=>?_
 refine⟨k+1,by
  trivial,by
  omega,?_⟩
 refine⟨rfl,rfl,?_,rfl,rfl,rfl,rfl,rfl,rfl,rfl,rfl,?_⟩;exact AU (AB (by omega) (by omega));rw[hE];rfl;simp only[nrm]at aB;rw[b2]at aB;have aT:k=ls.length:=by omega
 have b4:=Ls ls x k;have hbl:(∀b ∈ wsT ls x k,b.l.d≠0)/\(wsT ls x k).length<=1048576:=⟨by rw[aT];exact a0.1.2.2,by omega⟩
 refine⟨(wsT ls x k),by
  rfl,rfl,by
  trivial,?_⟩
 refine⟨ly,by
  rfl,by
  exact a0.2.1,?_⟩
 refine⟨hy,by
  rfl,by
  exact a0.2.2,?_⟩
 refine⟨⟨0,by omega,?_⟩,?_⟩;refine⟨rfl,rfl,?_,?_,rfl,?_,?_,rfl,rfl,?_,?_,?_,?_,?_,?_⟩;rw[aT];rfl;rfl;rfl;rfl;rfl;rfl;rfl;rfl;rw[aT];intro (k:Nat) a6;have a6:k<=(bsS ls x).length:=a6;refine And.symm ⟨λaD=>?_,λaD=>?_⟩;simp only[nrm]at aD;rw[b3]at aD;have hk2:k=(bsS ls x).length:=by omega
 have b5:=IZ x (Fr.ofInt hy) (Fr.ofInt ly) (bsS ls x) k;have b6:=FB (wlT x (Fr.ofInt hy) (Fr.ofInt ly) (bsS ls x) k).2
 refine⟨(((Fr.ofInt hy)),((Fr.ofInt hy))),by
  rfl,by
  trivial,?_⟩
 refine⟨(((wlT x (Fr.ofInt hy) (Fr.ofInt ly) (bsS ls x) k).1),(Fr.min ((Fr.ofInt hy)) ((Fr.ofInt hy)))),by
  rfl,by
  trivial,?_⟩
 refine And.symm ⟨λa1=>?_,λa1=>?_⟩;simp only[nrm]at a1;rw[min_self]at a1;have hC:=VC (x:=x) (top:=Fr.ofInt hy) (y:=Fr.ofInt ly) hk2 (VA (by omega));rw[List.append_nil]at hC;rw[hC];simp only[nrm]at a1;rw[min_self]at a1;have hC:=VC (x:=x) (top:=Fr.ofInt hy) (y:=Fr.ofInt ly) hk2 (U9 (by omega))
 refine⟨((decide ((x).z<0)),(L (x).z.natAbs),(L (x).d)),by
  rfl,by
  exact CY _,?_⟩
 refine⟨((decide (((wlT x (Fr.ofInt hy) (Fr.ofInt ly) (bsS ls x) k).1).z<0)),(L ((wlT x (Fr.ofInt hy) (Fr.ofInt ly) (bsS ls x) k).1).z.natAbs),(L ((wlT x (Fr.ofInt hy) (Fr.ofInt ly) (bsS ls x) k).1).d)),by
  rfl,by
  exact CY _,?_⟩
 refine⟨((decide ((Fr.min ((Fr.ofInt hy)) ((Fr.ofInt hy))).z<0)),L (Fr.min ((Fr.ofInt hy)) ((Fr.ofInt hy))).z.natAbs,L (Fr.min ((Fr.ofInt hy)) ((Fr.ofInt hy))).d),by
  rfl,by
  exact CY _,?_⟩
 refine ao (by simp only[List.length_cons,List.length_nil];omega) λo157=>?_;rw[hC,Js,min_self];rfl;simp only[nrm]at aD;rw[b3]at aD;have hk:k<(bsS ls x).length:=by omega
 have hB:=Jr hk;have b5:=IZ x (Fr.ofInt hy) (Fr.ofInt ly) (bsS ls x) k;have b6:=FB (wlT x (Fr.ofInt hy) (Fr.ofInt ly) (bsS ls x) k).2;have hE1:(wlT x (Fr.ofInt hy) (Fr.ofInt ly) (bsS ls x) (k+1)).1=Fr.max (wlT x (Fr.ofInt hy) (Fr.ofInt ly) (bsS ls x) k).1 ((bsS ls x).getD k zB).r:=rfl;refine ao (by omega) λo80=>?_;refine ao (by omega) λo81=>?_
 refine⟨(((bsS ls x).getD k zB).l,(Fr.ofInt hy)),by
  rw[hB];rfl,by
  trivial,?_⟩
 refine⟨(((wlT x (Fr.ofInt hy) (Fr.ofInt ly) (bsS ls x) k).1),(Fr.min (((bsS ls x).getD k zB).l) (Fr.ofInt hy))),by
  rfl,by
  trivial,?_⟩
 refine And.symm ⟨λaU=>?_,λaU=>?_⟩;simp only[nrm]at aU;have hE2:=VB (x:=x) (top:=Fr.ofInt hy) (y:=Fr.ofInt ly) (bs:=(bsS ls x)) (k:=k) (VA (by omega));rw[List.append_nil]at hE2
 refine⟨((wlT x (Fr.ofInt hy) (Fr.ofInt ly) (bsS ls x) k).1,((bsS ls x).getD k zB).r),by
  rw[hB];rfl,by
  trivial,?_⟩
 refine⟨k+1,by
  trivial,by
  omega,?_⟩
 refine⟨rfl,rfl,rfl,?_,rfl,?_,rfl,rfl,rfl,?_,?_,rfl,rfl,?_,rfl⟩;exact AU (AB (by omega) (by omega));rfl;rfl;rfl;rw[hE2];simp only[nrm]at aU;have hE2:=VB (x:=x) (top:=Fr.ofInt hy) (y:=Fr.ofInt ly) (bs:=(bsS ls x)) (k:=k) (U9 (by omega))
 refine⟨((decide ((x).z<0)),(L (x).z.natAbs),(L (x).d)),by
  rfl,by
  exact CY _,?_⟩
 refine⟨((decide (((wlT x (Fr.ofInt hy) (Fr.ofInt ly) (bsS ls x) k).1).z<0)),(L ((wlT x (Fr.ofInt hy) (Fr.ofInt ly) (bsS ls x) k).1).z.natAbs),(L ((wlT x (Fr.ofInt hy) (Fr.ofInt ly) (bsS ls x) k).1).d)),by
  rfl,by
  exact CY _,?_⟩
 refine⟨((decide ((Fr.min (((bsS ls x).getD k zB).l) (Fr.ofInt hy)).z<0)),L (Fr.min (((bsS ls x).getD k zB).l) (Fr.ofInt hy)).z.natAbs,L (Fr.min (((bsS ls x).getD k zB).l) (Fr.ofInt hy)).d),by
  rfl,by
  exact CY _,?_⟩
 refine ao (by simp only[List.length_cons,List.length_nil];omega) λo98=>?_
 refine⟨((wlT x (Fr.ofInt hy) (Fr.ofInt ly) (bsS ls x) k).1,((bsS ls x).getD k zB).r),by
  rw[hB];rfl,by
  trivial,?_⟩
 refine⟨k+1,by
  trivial,by
  omega,?_⟩
 refine⟨rfl,rfl,rfl,?_,rfl,?_,rfl,rfl,rfl,?_,?_,rfl,rfl,?_,rfl⟩;exact AU (AB (by omega) (by omega));rfl;rfl;rfl;rw[hE2,Js];rfl
def Nj:List Brd->Brd->List Brd
 | [],b=>[b]|y::l,b=>if Fr.cmp y.l b.l<=0 then y::Nj l b else b::y::l
def wsI(ls:List (List V2))(x:Fr):Nat->List Brd
 | 0=>[]|k+1=>if(DQ (ls.getD k []) x).2.2=true then Nj (wsI ls x k) ⟨(DQ (ls.getD k []) x).1,(DQ (ls.getD k []) x).2.1⟩else wsI ls x k
theorem Pw{b:Brd} : ∀(l:List Brd)(k:Nat),k<=l.length->(∀j,j<k->Fr.cmp (l.getD j zB).l b.l<=0)->(k<l.length->¬Fr.cmp (l.getD k zB).l b.l<=0)->Nj l b=l.take k++b::l.drop k
 | [],0,_,_,_=>rfl|y::l,0,_,_,h=>by have:=h (Nat.zero_lt_succ _);show(if _ then _ else _)=_;rw[if_neg (by exact this)];rfl|y::l,k+1,hk,h1,h2=>by have h0:=h1 0 (Nat.zero_lt_succ _);show(if _ then _ else _)=_;rw[if_pos (by exact h0),Pw l k (Nat.le_of_succ_le_succ hk) (λj hj=>h1 (j+1) (Nat.succ_lt_succ hj)) (λh=>h2 (Nat.succ_lt_succ h))];rfl
theorem Rl(b:Brd):∀l:List Brd,(Nj l b).length=l.length+1
 | []=>rfl|y::l=>by show(if _ then _ else _:List Brd).length=_;split;rw[List.length_cons,Rl b l,List.length_cons];rfl
section
variable {ls : List (List V2)} {x : Fr} {k i : Nat} {l : List Brd}
theorem Px(ls:List (List V2))(x:Fr):∀k,(wsI ls x k).length<=k
 | 0=>Nat.le_refl _|k+1=>by have ih:=Px ls x k;rw[wsI];split;rw[Rl];omega;omega
theorem VD(h:(DQ (ls.getD k []) x).2.2=true)(e:Nj (wsI ls x k) ⟨(DQ (ls.getD k []) x).1,(DQ (ls.getD k []) x).2.1⟩=l):wsI ls x (k+1)=l:=by rw[wsI,if_pos h,e]
theorem ABL(h:(DQ (ls.getD k []) x).2.2=false):wsI ls x (k+1)=wsI ls x k:=by rw[wsI,if_neg (by rw[h];simp)]
theorem Jt(l:List Brd)(b:Brd)(j:Nat)(g:Brd->Fr):AC ((l.take j++b::l.drop j).map g)=((AC (l.map g)).take j++[frD (g b)])++(AC (l.map g)).drop j:=by simp[AC,List.map_take,List.map_drop]
theorem Th{l:List Brd}(g:Brd->Fr)(h:i<l.length):(AC (l.map g)).getD i []=frD (g (l.getD i zB)):=by simp[AC,List.getD,h]
end
def FD:Con:={ι:=Int×Int×Int×Int×(List (List V2))×Fr,pre:=λi=>(A0 i.2.2.2.2.1=true/\i.2.2.2.2.1.length<=1048576/\i.2.2.2.2.2.good=true)/\(-9223372036854775808<=i.2.1/\i.2.1<=9223372036854775807)/\(-9223372036854775808<=i.2.2.2.1/\i.2.2.2.1<=9223372036854775807),args:=λi=>[DA.agg [cI i.1,cI i.2.1,cI i.2.2.1,cI i.2.2.2.1],.one (DC.sl 66 [.sl 36 [.int,.int]] (AN i.2.2.2.2.1)),dF i.2.2.2.2.2],res:=λi=>⟨false,[none],[.own 81 [.bool,.sl 3 [.int],.sl 3 [.int],.bool,.sl 3 [.int],.sl 3 [.int],.bool,.sl 3 [.int],.sl 3 [.int]] (Bs (wls i.2.2.2.2.2 (Fr.ofInt i.2.2.2.1) (Fr.ofInt i.2.1) (wsI i.2.2.2.2.1 i.2.2.2.2.2 i.2.2.2.2.1.length)))]⟩}
set_option maxHeartbeats 1600000 in
theorem Wc:FD.Ok Tryz.prog 47:=by
 refine fok (X:=⟨tt,[(74,IY),(55,AR),(51,AE),(75,FT),(76,AL),(77,DX)],[53,65],132,[]⟩) mixed AG (CTok.cons Yd (CTok.cons D6 (CTok.cons Bq (CTok.cons TF (CTok.cons FA (CTok.cons TG (CTok.nil _))))))) Tryz.func47 (λ(i:Int×Int×Int×Int×(List (List V2))×Fr)=>let a6:=L i.2.2.2.2.2.z.natAbs;let a1:=decide (i.2.2.2.2.2.z<0);let Z8:=Value.slice none 0 0;let Z6:=AN i.2.2.2.2.1;let Z5:=Fr.ofInt i.2.2.2.1;let Z2:=wsI i.2.2.2.2.1 i.2.2.2.2.2 i.2.2.2.2.1.length;[(18,.mk 13 (Nat) (λx7=>let Z3:=wlT i.2.2.2.2.2 Z5 (Fr.ofInt i.2.1) Z2 x7;{tm:=[(5,tP 1 0),(6,.one (.one (.im Z8))),(16,tP 4 0),(17,tP 7 0),(8,tX 10),(15,tX 11),(87,tX 12),(88,tI (nI ((AC (Z2.map Brd.l)).length))),(89,tI (nI x7))],en:=[(1,.box [kB (decide ((i.2.2.2.2.2).z<0)),.ext 2,.ext 3]),(4,.box [kB (decide ((Z3.1).z<0)),.ext 5,.ext 6]),(7,.box [kB (decide ((Z5).z<0)),.ext 8,.ext 9]),(2,eV (L (i.2.2.2.2.2).z.natAbs)),(3,eV (L (i.2.2.2.2.2).d)),(5,.own 3 [.int] (L (Z3.1).z.natAbs)),(6,.own 3 [.int] (L (Z3.1).d)),(8,.own 3 [.int] (L (Z5).z.natAbs)),(9,.own 3 [.int] (L (Z5).d)),(10,.view 44 z30 (AC (Z2.map Brd.r)) []),(11,.own 81 z80 (Bs Z3.2)),(12,.view 44 z30 (AC (Z2.map Brd.l)) [])]}) (λx7=>x7<=Z2.length) (λx7=>Z2.length-x7) (λ_=>[])),(4,.mk 8 (Nat) (λx1=>let Z9:=wsI i.2.2.2.2.1 i.2.2.2.2.2 x1;{tm:=[(3,tP 1 0),(5,tP 2 0),(6,.one (.one (.im Z8))),(23,tX 5),(24,tI (nI (Z6.length))),(25,tI (nI x1)),(7,tX 6),(8,tX 7)],en:=[(1,.box [kI i.1,kI i.2.1,kI i.2.2.1,kI i.2.2.2.1]),(2,.box [kB a1,.ext 3,.ext 4]),(3,eV a6),(4,eV (L i.2.2.2.2.2.d)),(5,.view 66 [.sl 36 [.int,.int]] Z6 []),(6,.view 44 z30 (AC (Z9.map Brd.l)) []),(7,.view 44 z30 (AC (Z9.map Brd.r)) [])]}) (λx1=>x1<=i.2.2.2.2.1.length) (λx1=>i.2.2.2.2.1.length-x1) (λx1=>let Z7:=DQ (i.2.2.2.2.1.getD x1 []) i.2.2.2.2.2;let Z4:=wsI i.2.2.2.2.1 i.2.2.2.2.2 x1;let Z1:=Brd.mk Z7.1 Z7.2.1;[(9,.mk 14 (Nat) (λx3=>{tm:=[(3,tP 1 0),(5,tP 2 0),(6,.one (.one (.im Z8))),(7,tX 5),(8,tX 6),(11,tP 7 0),(12,tP 10 0),(23,tX 13),(24,tI (nI (Z6.length))),(25,tI (nI x1)),(14,tI (nI x3))],en:=[(1,.box [kI i.1,kI i.2.1,kI i.2.2.1,kI i.2.2.2.1]),(2,.box [kB a1,.ext 3,.ext 4]),(7,.box [kB (decide ((Z1.l).z<0)),.ext 8,.ext 9]),(10,.box [kB (decide ((Z1.r).z<0)),.ext 11,.ext 12]),(3,eV a6),(4,eV (L i.2.2.2.2.2.d)),(5,.view 44 z30 (AC (Z4.map Brd.l)) []),(6,.view 44 z30 (AC (Z4.map Brd.r)) []),(8,eV (L (Z1.l).z.natAbs)),(9,eV (L (Z1.l).d)),(11,eV (L (Z1.r).z.natAbs)),(12,eV (L (Z1.r).d)),(13,.view 66 [.sl 36 [.int,.int]] Z6 [])]}) (λx3=>x3<=Z4.length/\∀u,u<x3->Fr.cmp (Z4.getD u zB).l Z1.l<=0) (λx3=>Z4.length-x3) (λ_=>[]))]))]) ?_;rintro⟨lx,ly,hx,hy,ls,x⟩ a2;have a2:(A0 ls=true/\ls.length<=1048576/\x.good=true)/\(-9223372036854775808<=ly/\ly<=9223372036854775807)/\(-9223372036854775808<=hy/\hy<=9223372036854775807):=a2
 refine AH (q:=let bM:=vB (decide ((x).z<0));let aD:=L x.z.natAbs;let a3:=AN ls;let aA:=Nat.beq 3 3=true;let aE:=vB (decide (x.z<0));let aJ:=Fr.ofInt ly;let aK:=vI (nI (a3.length));let a9:=Value.slice none 0 0;let a1:=List Dat;let a7:=List a1;let Z8:=Fr.ofInt hy;let aN:=L (Z8).d;let aO:=L (Z8).z.natAbs;let aP:=decide ((Z8).z<0);let Z3:=wsI ls x ls.length;let a6:=AC (Z3.map Brd.l);let aV:=nI (a6.length);let Z9:=AC (Z3.map Brd.r);(∃x1:Nat,(x1<=ls.length)/\((rf a9)/\(rf aK)/\(vI (0:Int)=vI (nI x1))/\(rf (vI lx))/\(rf (vI ly))/\(rf (vI hx))/\(rf (vI hy))/\(rf aE)/\(rf aD)/\(rf (L x.d))/\(rf a3)/\(([]:List a1)=(AC ((wsI ls x x1).map Brd.l)))/\(([]:List a1)=(AC ((wsI ls x x1).map Brd.r)))))/\∀x1:Nat,let bN:=DQ (ls.getD x1 []) x;let bD:=wR ((nI x1)+(1:Int));let a8:=wsI ls x x1;let Z4:=AC (a8.map Brd.r);let aL:=(Z4.length:Int);let Z2:=AC (a8.map Brd.l);let aF:=(Z2.length:Int);let Z1:=Brd.mk bN.1 bN.2.1;let aW:=L (Z1.r).d;let aX:=L (Z1.l).d;let aY:=L (Z1.r).z.natAbs;let aZ:=L (Z1.l).z.natAbs;let b0:=decide ((Z1.r).z<0);let b1:=decide ((Z1.l).z<0);(x1<=ls.length)->(ifB ((decide ((nI x1)<(nI (a3.length))))) ((0<=(nI x1)/\(nI x1)<(a3.length:Int))/\((x1<a3.length)/\(∃i1:(List V2)×Fr,let aG:=DQ i1.1 i1.2;[DA.one (DC.sl 36 [.int,.int] ((((a3.getD x1 []).getD 0 (.int 0))).r)),dF x]=IY.args i1/\IY.pre i1/\(ifB ((!(aG.2.2))) (∃y2:Nat,(y2<=ls.length)/\(ls.length-y2<ls.length-x1)/\((rf a9)/\(rf aK)/\(vI bD=vI (nI y2))/\(rf (vI lx))/\(rf (vI ly))/\(rf (vI hx))/\(rf (vI hy))/\(rf aE)/\(rf aD)/\(rf (L x.d))/\(rf a3)/\(Z2=(AC ((wsI ls x y2).map Brd.l)))/\(Z4=(AC ((wsI ls x y2).map Brd.r))))) ((∃x3:Nat,(x3<=a8.length/\∀u,u<x3->Fr.cmp (a8.getD u zB).l Z1.l<=0)/\((rf a9)/\(rf aK)/\(rf (vI (nI x1)))/\(vI (0:Int)=vI (nI x3))/\(rf (vI lx))/\(rf (vI ly))/\(rf (vI hx))/\(rf (vI hy))/\(rf aE)/\(vB (decide (aG.1.z<0))=vB b1)/\(vB (decide (aG.2.1.z<0))=vB b0)/\(rf aD)/\(rf (L x.d))/\(rf Z2)/\(rf Z4)/\(L aG.1.z.natAbs=aZ)/\(L aG.1.d=aX)/\(L aG.2.1.z.natAbs=aY)/\(L aG.2.1.d=aW)/\(rf a3)))/\∀x3:Nat,let bE:=Z2.getD x3 [];let b2:=Z2.take x3;let b3:=Z4.take x3;let b4:=(nI x3)<=aL;let b5:=(nI x3)<=aF;let b6:=(0:Int)<=(nI x3);let bF:=(Z4.take (aL.toNat)).drop x3;let bG:=(Z2.take (aF.toNat)).drop x3;let bO:=(([]:List a1)++b3).length+([[Dat.bool b0,Dat.sl aY,Dat.sl aW]]:List a1).length<=2199023255552;let bP:=(([]:List a1)++b2).length+([[Dat.bool b1,Dat.sl aZ,Dat.sl aX]]:List a1).length<=2199023255552;let Z6:=(([]:List a1)++b3)++([[Dat.bool b0,Dat.sl aY,Dat.sl aW]]:List a1);let bQ:=Z6.length+bF.length<=2199023255552;let Z5:=(([]:List a1)++b2)++([[Dat.bool b1,Dat.sl aZ,Dat.sl aX]]:List a1);let bR:=Z5.length+bG.length<=2199023255552;(x3<=a8.length/\∀u,u<x3->Fr.cmp (a8.getD u zB).l Z1.l<=0)->(ifB ((decide ((nI x3)<(nI (Z2.length))))) ((0<=(nI x3)/\(nI x3)<aF)/\((x3<Z2.length)/\(∃i2:Fr×Fr,[DA.agg [cB (((bE.getD 0 (.int 0))).b),cS (((bE.getD 1 (.int 0))).r),cS (((bE.getD 2 (.int 0))).r)],dF (Z1.l)]=AR.args i2/\AR.pre i2/\(ifB ((decide ((Fr.cmp i2.1 i2.2)<=(0:Int)))) (∃y4:Nat,(y4<=a8.length/\∀u,u<y4->Fr.cmp (a8.getD u zB).l Z1.l<=0)/\(a8.length-y4<a8.length-x3)/\((rf a9)/\(rf aK)/\(rf (vI (nI x1)))/\(vI (wR ((nI x3)+(1:Int)))=vI (nI y4))/\(rf (vI lx))/\(rf (vI ly))/\(rf (vI hx))/\(rf (vI hy))/\(rf aE)/\(rf (vB b1))/\(rf (vB b0))/\(rf aD)/\(rf (L x.d))/\(rf Z2)/\(rf Z4)/\(rf aZ)/\(rf aX)/\(rf aY)/\(rf aW)/\(rf a3))) (aA/\((0<=(0:Int))/\(b6/\(b5/\((([]:List a1).length+b2.length<=2199023255552)/\(bP/\(aA/\((0<=(nI x3))/\(b5/\((aF<=aF)/\(bR/\(aA/\((0<=(0:Int))/\(b6/\(b4/\((([]:List a1).length+b3.length<=2199023255552)/\(bO/\(aA/\((0<=(nI x3))/\(b4/\((aL<=aL)/\(bQ/\(∃y5:Nat,(y5<=ls.length)/\(ls.length-y5<ls.length-x1)/\((rf a9)/\(rf aK)/\(vI bD=vI (nI y5))/\(rf (vI lx))/\(rf (vI ly))/\(rf (vI hx))/\(rf (vI hy))/\(rf aE)/\(rf aD)/\(rf (L x.d))/\(rf a3)/\((Z5++bG)=(AC ((wsI ls x y5).map Brd.l)))/\((Z6++bF)=(AC ((wsI ls x y5).map Brd.r))))))))))))))))))))))))))))))) (aA/\((0<=(0:Int))/\(b6/\(b5/\((([]:List a1).length+b2.length<=2199023255552)/\(bP/\(aA/\((0<=(nI x3))/\(b5/\((aF<=aF)/\(bR/\(aA/\((0<=(0:Int))/\(b6/\(b4/\((([]:List a1).length+b3.length<=2199023255552)/\(bO/\(aA/\((0<=(nI x3))/\(b4/\((aL<=aL)/\(bQ/\(∃y6:Nat,(y6<=ls.length)/\(ls.length-y6<ls.length-x1)/\((rf a9)/\(rf aK)/\(vI bD=vI (nI y6))/\(rf (vI lx))/\(rf (vI ly))/\(rf (vI hx))/\(rf (vI hy))/\(rf aE)/\(rf aD)/\(rf (L x.d))/\(rf a3)/\((Z5++bG)=(AC ((wsI ls x y6).map Brd.l)))/\((Z6++bF)=(AC ((wsI ls x y6).map Brd.r))))))))))))))))))))))))))))))))) (∃i3:Int,[DA.one (cI ly)]=AE.args i3/\AE.pre i3/\(∃i4:Int,[DA.one (cI hy)]=AE.args i4/\AE.pre i4/\((∃x7:Nat,let b7:=wlT x Z8 aJ Z3 x7;(x7<=Z3.length)/\((rf a9)/\(vI (nI (Z2.length))=vI aV)/\(vI (0:Int)=vI (nI x7))/\(rf aE)/\(vB (decide ((Fr.ofInt i3).z<0))=vB (decide ((b7.1).z<0)))/\(vB (decide ((Fr.ofInt i4).z<0))=vB aP)/\(rf aD)/\(rf (L x.d))/\(L (Fr.ofInt i3).z.natAbs=(L (b7.1).z.natAbs))/\(L (Fr.ofInt i3).d=(L (b7.1).d))/\(L (Fr.ofInt i4).z.natAbs=aO)/\(L (Fr.ofInt i4).d=aN)/\(Z4=Z9)/\(([]:List a1)=(Bs b7.2))/\(Z2=a6)))/\∀x7:Nat,let bS:=wR ((nI x7)+(1:Int));let bH:=a6.getD x7 [];let bI:=Z9.getD x7 [];let bT:=((bI.getD 2 (.int 0))).r;let bU:=((bI.getD 1 (.int 0))).r;let bV:=((bI.getD 0 (.int 0))).b;let Z7:=wlT x Z8 aJ Z3 x7;let aM:=Bs Z7.2;(x7<=Z3.length)->(ifB ((decide ((nI x7)<aV))) ((0<=(nI x7)/\(nI x7)<(a6.length:Int))/\((x7<a6.length)/\(∃i5:Fr×Fr,[DA.agg [cB (((bH.getD 0 (.int 0))).b),cS (((bH.getD 1 (.int 0))).r),cS (((bH.getD 2 (.int 0))).r)],dF Z8]=FT.args i5/\FT.pre i5/\(∃i6:Fr×Fr,[dF (Z7.1),dF (Fr.min i5.1 i5.2)]=AR.args i6/\AR.pre i6/\(ifB ((decide ((Fr.cmp i6.1 i6.2)<(0:Int)))) (∃i7:Bool×a7×a7,[dF x]=AL.args i7/\AL.pre i7/\(∃i8:Bool×a7×a7,[dF (Z7.1)]=AL.args i8/\AL.pre i8/\(∃i9:Bool×a7×a7,[dF (Fr.min i5.1 i5.2)]=AL.args i9/\AL.pre i9/\((aM.length+([[Dat.bool i7.1,Dat.sl i7.2.1,Dat.sl i7.2.2,Dat.bool i8.1,Dat.sl i8.2.1,Dat.sl i8.2.2,Dat.bool i9.1,Dat.sl i9.2.1,Dat.sl i9.2.2]]:List a1).length<=1073741824)/\((0<=(nI x7)/\(nI x7)<(Z9.length:Int))/\((x7<Z9.length)/\(∃b8:Fr×Fr,let bJ:=Fr.max b8.1 b8.2;[dF (Z7.1),DA.agg [cB bV,cS bU,cS bT]]=DX.args b8/\DX.pre b8/\(∃y8:Nat,let b9:=wlT x Z8 aJ Z3 y8;(y8<=Z3.length)/\(Z3.length-y8<Z3.length-x7)/\((rf a9)/\(rf (vI aV))/\(vI bS=vI (nI y8))/\(rf bM)/\(vB (decide (bJ.z<0))=vB (decide ((b9.1).z<0)))/\(rf (vB aP))/\(rf (L (x).z.natAbs))/\(rf (L (x).d))/\(L bJ.z.natAbs=(L (b9.1).z.natAbs))/\(L bJ.d=(L (b9.1).d))/\(rf aO)/\(rf aN)/\(rf Z9)/\((aM++([[Dat.bool i7.1,Dat.sl i7.2.1,Dat.sl i7.2.2,Dat.bool i8.1,Dat.sl i8.2.1,Dat.sl i8.2.2,Dat.bool i9.1,Dat.sl i9.2.1,Dat.sl i9.2.2]]:List a1))=(Bs b9.2))/\(rf a6)))))))))) ((0<=(nI x7)/\(nI x7)<(Z9.length:Int))/\((x7<Z9.length)/\(∃bA:Fr×Fr,let bK:=Fr.max bA.1 bA.2;[dF (Z7.1),DA.agg [cB bV,cS bU,cS bT]]=DX.args bA/\DX.pre bA/\(∃y9:Nat,let bB:=wlT x Z8 aJ Z3 y9;(y9<=Z3.length)/\(Z3.length-y9<Z3.length-x7)/\((rf a9)/\(rf (vI aV))/\(vI bS=vI (nI y9))/\(rf bM)/\(vB (decide (bK.z<0))=vB (decide ((bB.1).z<0)))/\(rf (vB aP))/\(rf (L (x).z.natAbs))/\(rf (L (x).d))/\(L bK.z.natAbs=(L (bB.1).z.natAbs))/\(L bK.d=(L (bB.1).d))/\(rf aO)/\(rf aN)/\(rf Z9)/\(aM=(Bs bB.2))/\(rf a6))))))))))) (∃bC:Fr×Fr,[dF (Z7.1),dF Z8]=AR.args bC/\AR.pre bC/\(ifB ((decide ((Fr.cmp bC.1 bC.2)<(0:Int)))) (∃aB:Bool×a7×a7,[dF x]=AL.args aB/\AL.pre aB/\(∃aC:Bool×a7×a7,[dF (Z7.1)]=AL.args aC/\AL.pre aC/\((aM.length+([[Dat.bool aB.1,Dat.sl aB.2.1,Dat.sl aB.2.2,Dat.bool aC.1,Dat.sl aC.2.1,Dat.sl aC.2.2,Dat.bool aP,Dat.sl aO,Dat.sl aN]]:List a1).length<=1073741824)/\(((aM++([[Dat.bool aB.1,Dat.sl aB.2.1,Dat.sl aB.2.2,Dat.bool aC.1,Dat.sl aC.2.1,Dat.sl aC.2.2,Dat.bool aP,Dat.sl aO,Dat.sl aN]]:List a1))=Bs (wls x Z8 aJ Z3)))))) ((aM=Bs (wls x Z8 aJ Z3))))))))))) (by kernel_rfl) ?_
 conv=>zeta
 delta ifB vB vI wR nI;have bW:=A8 ls;have hia:=Px ls x ls.length;have hl16:=a2.1.2.1;have hj1:(AC ((wsI ls x ls.length).map Brd.l)).length=(wsI ls x ls.length).length:=by rw[Ao,List.length_map]
 have hj2:(AC ((wsI ls x ls.length).map Brd.r)).length=(wsI ls x ls.length).length:=by rw[Ao,List.length_map]
 refine⟨⟨0,by omega,?_⟩,?_⟩;refine⟨rfl,rfl,?_,rfl,rfl,rfl,rfl,rfl,rfl,rfl,rfl,?_,?_⟩;rfl;rfl;rfl;intro (k:Nat) aQ;have aQ:k<=ls.length:=aQ;refine And.symm ⟨λaR=>?_,λaR=>?_⟩;simp only[nrm]at aR;rw[bW]at aR;have bL:k=ls.length:=by omega
 refine⟨ly,by
  rfl,by
  exact a2.2.1,?_⟩
 refine⟨hy,by
  rfl,by
  exact a2.2.2,?_⟩
 refine⟨⟨0,by omega,?_⟩,?_⟩;refine⟨rfl,?_,?_,rfl,?_,?_,rfl,rfl,?_,?_,?_,?_,?_,?_,?_⟩;rw[bL];rfl;rfl;rfl;rfl;rfl;rfl;rfl;rw[bL];rfl;rw[bL];intro (n:Nat) a4;have a4:n<=(wsI ls x ls.length).length:=a4;refine And.symm ⟨λa5=>?_,λa5=>?_⟩;simp only[nrm]at a5;rw[hj1]at a5;have bX:n=(wsI ls x ls.length).length:=by omega
 have bZ:=IZ x (Fr.ofInt hy) (Fr.ofInt ly) (wsI ls x ls.length) n;have c0:=FB (wlT x (Fr.ofInt hy) (Fr.ofInt ly) (wsI ls x ls.length) n).2
 refine⟨(((wlT x (Fr.ofInt hy) (Fr.ofInt ly) (wsI ls x ls.length) n).1),((Fr.ofInt hy))),by
  rfl,by
  trivial,?_⟩
 refine And.symm ⟨λaH=>?_,λaH=>?_⟩;simp only[nrm]at aH;have hC:=VC (x:=x) (top:=Fr.ofInt hy) (y:=Fr.ofInt ly) bX (VA (by omega));rw[List.append_nil]at hC;rw[hC];simp only[nrm]at aH;have hC:=VC (x:=x) (top:=Fr.ofInt hy) (y:=Fr.ofInt ly) bX (U9 (by omega))
 refine⟨((decide ((x).z<0)),(L (x).z.natAbs),(L (x).d)),by
  rfl,by
  exact CY _,?_⟩
 refine⟨((decide (((wlT x (Fr.ofInt hy) (Fr.ofInt ly) (wsI ls x ls.length) n).1).z<0)),(L ((wlT x (Fr.ofInt hy) (Fr.ofInt ly) (wsI ls x ls.length) n).1).z.natAbs),(L ((wlT x (Fr.ofInt hy) (Fr.ofInt ly) (wsI ls x ls.length) n).1).d)),by
  rfl,by
  exact CY _,?_⟩
 refine ao (by simp only[List.length_append,List.length_take,List.length_drop,List.length_cons,List.length_nil];omega) λo266=>?_;rw[hC,Js];rfl;simp only[nrm]at a5;rw[hj1]at a5;have hi0:n<(wsI ls x ls.length).length:=by omega
 have hB1:=Th Brd.l hi0;have hB2:=Th Brd.r hi0;have bZ:=IZ x (Fr.ofInt hy) (Fr.ofInt ly) (wsI ls x ls.length) n;have c0:=FB (wlT x (Fr.ofInt hy) (Fr.ofInt ly) (wsI ls x ls.length) n).2;have hE1:(wlT x (Fr.ofInt hy) (Fr.ofInt ly) (wsI ls x ls.length) (n+1)).1=Fr.max (wlT x (Fr.ofInt hy) (Fr.ofInt ly) (wsI ls x ls.length) n).1 ((wsI ls x ls.length).getD n zB).r:=rfl;refine ao (by omega) λo191=>?_;refine ao (by omega) λo192=>?_
 refine⟨(((wsI ls x ls.length).getD n zB).l,(Fr.ofInt hy)),by
  rw[hB1];rfl,by
  trivial,?_⟩
 refine⟨(((wlT x (Fr.ofInt hy) (Fr.ofInt ly) (wsI ls x ls.length) n).1),(Fr.min (((wsI ls x ls.length).getD n zB).l) (Fr.ofInt hy))),by
  rfl,by
  trivial,?_⟩
 refine And.symm ⟨λaI=>?_,λaI=>?_⟩;simp only[nrm]at aI;have hE2:=VB (x:=x) (top:=Fr.ofInt hy) (y:=Fr.ofInt ly) (bs:=(wsI ls x ls.length)) (k:=n) (VA (by omega));rw[List.append_nil]at hE2;refine ao (by omega) λo233=>?_;refine ao (by omega) λo234=>?_
 refine⟨((wlT x (Fr.ofInt hy) (Fr.ofInt ly) (wsI ls x ls.length) n).1,((wsI ls x ls.length).getD n zB).r),by
  rw[hB2];rfl,by
  trivial,?_⟩
 refine⟨n+1,by
  trivial,by
  omega,?_⟩
 refine⟨rfl,rfl,?_,rfl,?_,rfl,rfl,rfl,?_,?_,rfl,rfl,rfl,?_,rfl⟩;exact AU (AB (by omega) (by omega));rfl;rfl;rfl;rw[hE2];simp only[nrm]at aI;have hE2:=VB (x:=x) (top:=Fr.ofInt hy) (y:=Fr.ofInt ly) (bs:=(wsI ls x ls.length)) (k:=n) (U9 (by omega))
 refine⟨((decide ((x).z<0)),(L (x).z.natAbs),(L (x).d)),by
  rfl,by
  exact CY _,?_⟩
 refine⟨((decide (((wlT x (Fr.ofInt hy) (Fr.ofInt ly) (wsI ls x ls.length) n).1).z<0)),(L ((wlT x (Fr.ofInt hy) (Fr.ofInt ly) (wsI ls x ls.length) n).1).z.natAbs),(L ((wlT x (Fr.ofInt hy) (Fr.ofInt ly) (wsI ls x ls.length) n).1).d)),by
  rfl,by
  exact CY _,?_⟩
 refine⟨((decide ((Fr.min (((wsI ls x ls.length).getD n zB).l) (Fr.ofInt hy)).z<0)),L (Fr.min (((wsI ls x ls.length).getD n zB).l) (Fr.ofInt hy)).z.natAbs,L (Fr.min (((wsI ls x ls.length).getD n zB).l) (Fr.ofInt hy)).d),by
  rfl,by
  exact CY _,?_⟩
 refine ao (by simp only[List.length_append,List.length_take,List.length_drop,List.length_cons,List.length_nil];omega) λo209=>?_;refine ao (by omega) λo210=>?_;refine ao (by omega) λo211=>?_
 refine⟨((wlT x (Fr.ofInt hy) (Fr.ofInt ly) (wsI ls x ls.length) n).1,((wsI ls x ls.length).getD n zB).r),by
  rw[hB2];rfl,by
  trivial,?_⟩
 refine⟨n+1,by
  trivial,by
  omega,?_⟩
 refine⟨rfl,rfl,?_,rfl,?_,rfl,rfl,rfl,?_,?_,rfl,rfl,rfl,?_,rfl⟩;exact AU (AB (by omega) (by omega));rfl;rfl;rfl;rw[hE2,Js];rfl;simp only[nrm]at aR;rw[bW]at aR;have hk:k<ls.length:=by omega
 have c1:=Cp a2.1.1 hk;have hit:=Px ls x k;have hl1:(AC ((wsI ls x k).map Brd.l)).length=(wsI ls x k).length:=by rw[Ao,List.length_map]
 have hl2:(AC ((wsI ls x k).map Brd.r)).length=(wsI ls x k).length:=by rw[Ao,List.length_map]
 refine ao (by omega) λo17=>?_;refine ao (by omega) λo18=>?_
 refine⟨((ls.getD k []),x),by
  rw[BR hk];rfl,by
  exact⟨c1,a2.1.2.2⟩,?_⟩
 refine⟨λaS=>?_,λaS=>?_⟩;simp only[nrm]at aS;have hE0:=ABL (ls:=ls) (x:=x) (k:=k) (by simpa using aS)
 refine⟨k+1,by
  trivial,by
  omega,?_⟩
 refine⟨rfl,rfl,?_,rfl,rfl,rfl,rfl,rfl,rfl,rfl,rfl,?_,?_⟩;exact AU (AB (by omega) (by omega));rw[hE0];rw[hE0];simp only[nrm]at aS;have bY:(DQ (ls.getD k []) x).2.2=true:=by simpa using aS
 refine⟨⟨0,by exact⟨Nat.zero_le _,λi h=>absurd h (Nat.not_lt_zero _)⟩,?_⟩,?_⟩;refine⟨rfl,rfl,rfl,?_,rfl,rfl,rfl,rfl,rfl,?_,?_,rfl,rfl,rfl,rfl,?_,?_,?_,?_,rfl⟩;rfl;rfl;rfl;rfl;rfl;rfl;rfl;intro (j:Nat) a0;have a0:j<=(wsI ls x k).length/\∀u,u<j->Fr.cmp ((wsI ls x k).getD u zB).l (Brd.mk (DQ (ls.getD k []) x).1 (DQ (ls.getD k []) x).2.1).l<=0:=a0;refine And.symm ⟨λaT=>?_,λaT=>?_⟩;simp only[nrm]at aT;rw[hl1]at aT;have hI:=VD bY (Pw _ _ a0.1 a0.2 (λh=>absurd h (by omega)));have c2:=a0.1;refine ao (by rfl) λo129=>?_;refine ao (by omega) λo130=>?_;refine ao (by omega) λo131=>?_;refine ao (by omega) λo132=>?_;refine ao (by simp only[List.length_append,List.length_take,List.length_drop,List.length_cons,List.length_nil];omega) λo133=>?_;refine ao (by simp only[List.length_append,List.length_take,List.length_drop,List.length_cons,List.length_nil];omega) λo134=>?_;refine ao (by rfl) λo135=>?_;refine ao (by omega) λo136=>?_;refine ao (by omega) λo137=>?_;refine ao (by omega) λo138=>?_;refine ao (by simp only[List.length_append,List.length_take,List.length_drop,List.length_cons,List.length_nil];omega) λo139=>?_;refine ao (by rfl) λo140=>?_;refine ao (by omega) λo141=>?_;refine ao (by omega) λo142=>?_;refine ao (by omega) λo143=>?_;refine ao (by simp only[List.length_append,List.length_take,List.length_drop,List.length_cons,List.length_nil];omega) λo144=>?_;refine ao (by simp only[List.length_append,List.length_take,List.length_drop,List.length_cons,List.length_nil];omega) λo145=>?_;refine ao (by rfl) λo146=>?_;refine ao (by omega) λo147=>?_;refine ao (by omega) λo148=>?_;refine ao (by omega) λo149=>?_;refine ao (by simp only[List.length_append,List.length_take,List.length_drop,List.length_cons,List.length_nil];omega) λo150=>?_
 refine⟨k+1,by
  trivial,by
  omega,?_⟩
 refine⟨rfl,rfl,?_,rfl,rfl,rfl,rfl,rfl,rfl,rfl,rfl,?_,?_⟩;exact AU (AB (by omega) (by omega));rw[hI,Jt];simp;rfl;rw[hI,Jt];simp;rfl;simp only[nrm]at aT;rw[hl1]at aT;have hj:j<(wsI ls x k).length:=by omega
 have hJ1:=Th Brd.l hj;refine ao (by omega) λo62=>?_;refine ao (by omega) λo63=>?_
 refine⟨(((wsI ls x k).getD j zB).l,(Brd.mk (DQ (ls.getD k []) x).1 (DQ (ls.getD k []) x).2.1).l),by
  rw[hJ1];rfl,by
  trivial,?_⟩
 refine⟨λaU=>?_,λaU=>?_⟩;simp only[nrm]at aU;have hLj:Fr.cmp ((wsI ls x k).getD j zB).l (Brd.mk (DQ (ls.getD k []) x).1 (DQ (ls.getD k []) x).2.1).l<=0:=by simpa using aU
 refine⟨j+1,by
  exact⟨by omega,NR a0.2 hLj⟩,by
  omega,?_⟩
 refine⟨rfl,rfl,rfl,?_,rfl,rfl,rfl,rfl,rfl,rfl,rfl,rfl,rfl,rfl,rfl,rfl,rfl,rfl,rfl,rfl⟩;exact AU (AB (by omega) (by omega));simp only[nrm]at aU;have hLn:¬Fr.cmp ((wsI ls x k).getD j zB).l (Brd.mk (DQ (ls.getD k []) x).1 (DQ (ls.getD k []) x).2.1).l<=0:=by simpa using aU
 have hI:=VD bY (Pw _ _ a0.1 a0.2 (λ_=>hLn));have c2:=a0.1;refine ao (by rfl) λo91=>?_;refine ao (by omega) λo92=>?_;refine ao (by omega) λo93=>?_;refine ao (by omega) λo94=>?_;refine ao (by simp only[List.length_append,List.length_take,List.length_drop,List.length_cons,List.length_nil];omega) λo95=>?_;refine ao (by simp only[List.length_append,List.length_take,List.length_drop,List.length_cons,List.length_nil];omega) λo96=>?_;refine ao (by rfl) λo97=>?_;refine ao (by omega) λo98=>?_;refine ao (by omega) λo99=>?_;refine ao (by omega) λo100=>?_;refine ao (by simp only[List.length_append,List.length_take,List.length_drop,List.length_cons,List.length_nil];omega) λo101=>?_;refine ao (by rfl) λo102=>?_;refine ao (by omega) λo103=>?_;refine ao (by omega) λo104=>?_;refine ao (by omega) λo105=>?_;refine ao (by simp only[List.length_append,List.length_take,List.length_drop,List.length_cons,List.length_nil];omega) λo106=>?_;refine ao (by simp only[List.length_append,List.length_take,List.length_drop,List.length_cons,List.length_nil];omega) λo107=>?_;refine ao (by rfl) λo108=>?_;refine ao (by omega) λo109=>?_;refine ao (by omega) λo110=>?_;refine ao (by omega) λo111=>?_;refine ao (by simp only[List.length_append,List.length_take,List.length_drop,List.length_cons,List.length_nil];omega) λo112=>?_
 refine⟨k+1,by
  trivial,by
  omega,?_⟩
 refine⟨rfl,rfl,?_,rfl,rfl,rfl,rfl,rfl,rfl,rfl,rfl,?_,?_⟩;exact AU (AB (by omega) (by omega));rw[hI,Jt];simp;rfl;rw[hI,Jt];simp;rfl
end Go.Proofs.YthoidhehmmcgnaaGreat
