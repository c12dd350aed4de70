import Derived.Test.YtmedodfenejimaaGreatLkRkE
import Derived.Test.YtmedodfenejimaaGreatLkScW
namespace Go.Proofs.YtmedodfenejimaaGreat
set_option maxRecDepth 100000
set_option linter.unusedVariables false
set_option linter.unusedSimpArgs false
open Go.RowKit
def frR (r:RatD):Fr:=Fr.mk' (zOf r.neg (N7 r.num)) (N7 r.den)
def okR (r:RatD):Bool:=AZ r.neg r.num r.den
def okP (p:PtD):Bool:=okR p.x && okR p.y
def RatD.has (r:RatD):Prop:=Dat.has (.sl 3 [.int]) (.sl r.num)/\Dat.has (.sl 3 [.int]) (.sl r.den)
def PtD.has (p:PtD):Prop:=p.x.has/\p.y.has
theorem Uw {r:Fr} (h:r.d≠0):Fr.mk' r.z r.d=r:=by
 obtain ⟨q,hq,e1,e2⟩:=Fr.some_d h
 rw [e1,e2]
 unfold Fr.mk'
 rw [Rat.mkRat_self]
 exact (Fr.of_some hq).symm
theorem Vw {r:RatD} (hh:r.has) (h:okR r=true):r.neg=decide ((frR r).z<0)/\r.num=L (frR r).z.natAbs/\r.den=L (frR r).d/\(frR r).d≠0:=by
 obtain ⟨s,hd,e1,e2,e3⟩:=PY hh.1 hh.2 h
 rw [Fr.neg_z] at e1
 rw [Fr.num_z] at e2
 rw [Fr.den_d] at e3
 have:frR r=s:=by
  unfold frR
  rw [e1,e2,e3,Dx,Dx,EV,Uw hd]
 rw [this]
 exact ⟨e1,e2,e3,hd⟩
def C9 (r:List Dat):PtD:=⟨⟨(r.getD 0 (.int 0)).b,(r.getD 1 (.int 0)).r,(r.getD 2 (.int 0)).r⟩,⟨(r.getD 3 (.int 0)).b,(r.getD 4 (.int 0)).r,(r.getD 5 (.int 0)).r⟩⟩
def ptD (p:PtD):List Dat:=[.bool p.x.neg,.sl p.x.num,.sl p.x.den,.bool p.y.neg,.sl p.y.num,.sl p.y.den]
theorem Wu (p:PtD):([ptD p].any λ r=>!(okP (C9 r)))=!(okP p):=by
 show (!(okP p) || false)=_;rw [Bool.or_false]
theorem AB {m:List (List Dat)} (h:Dat.has (.sl 3 [.int]) (.sl m)):m.length<=9223372036854775807:=Cz h
def Gh (p q r:Pq):Int:=(Fr.sub (Fr.mul (Fr.sub q.x p.x) (Fr.sub r.y p.y)) (Fr.mul (Fr.sub q.y p.y) (Fr.sub r.x p.x))).sgn
theorem Q0 {p:PtD} (h:p.has):∀ k,k < [ptD p].length->(C9 ([ptD p].getD k [])).has:=λ k hk=>by
 obtain rfl:k=0:=by simp only [List.length_cons,List.length_nil] at hk;omega
 exact h
def ptQ (p:Pq):PtD:=⟨⟨decide (p.x.z<0),L p.x.z.natAbs,L p.x.d⟩,⟨decide (p.y.z<0),L p.y.z.natAbs,L p.y.d⟩⟩
theorem Js (p:Pq):(ptQ p).has:=by
 have h1:=p.x.nlz
 have h2:=p.x.nld
 have h3:=p.y.nlz
 have h4:=p.y.nld
 exact ⟨⟨DD _ (by omega),DD _ (by omega)⟩,DD _ (by omega),DD _ (by omega)⟩
theorem Mv (p:Pq):okP (ptQ p)=p.good:=by
 show (AZ (decide (p.x.z<0)) (L p.x.z.natAbs) (L p.x.d) && AZ (decide (p.y.z<0)) (L p.y.z.natAbs) (L p.y.d))=_
 rw [CM,CM];rfl
theorem Jt (p:PtD):okP p=(AZ p.x.neg p.x.num p.x.den && AZ p.y.neg p.y.num p.y.den):=rfl
def C7:Con:={ ι:=Int×Int,pre:=λ i=>(-9223372036854775808<=i.1/\i.1<=9223372036854775807)/\-9223372036854775808<=i.2/\i.2<=9223372036854775807,args:=λ i=>[DA.agg [cI i.1,cI i.2]],res:=λ i=>⟨false,[some 6],[rcB (decide ((Fr.ofInt i.1).z<0)),.own 3 [.int] (L (Fr.ofInt i.1).z.natAbs),.own 3 [.int] (L (Fr.ofInt i.1).d),rcB (decide ((Fr.ofInt i.2).z<0)),.own 3 [.int] (L (Fr.ofInt i.2).z.natAbs),.own 3 [.int] (L (Fr.ofInt i.2).d)]⟩ }
theorem OH:C7.Ok Tryz.prog 70:=by
 refine fok (X:=⟨tt,[(129,DM)],[],10,[]⟩) mixed AH (CTok.cons R1 (CTok.nil _)) Tryz.func70 (λ _=>[]) ?_
 rintro ⟨x,y⟩ hpre
 have hpre:(-9223372036854775808<=x/\x<=9223372036854775807)/\-9223372036854775808<=y/\y<=9223372036854775807:=hpre
 refine AI (q:=∃ i1:Int,[DA.one (cI x)]=DM.args i1/\DM.pre i1/\(∃ i2:Int,[DA.one (cI y)]=DM.args i2/\DM.pre i2/\((eqD (Fr.ofInt i1) (Fr.ofInt x) ((eqC (Fr.ofInt i2) (Fr.ofInt y))))))) (by kernel_rfl) ?_
 refine ⟨x,by
  rfl,by
  show -9223372036854775808<=x/\x<=9223372036854775807
  first|omega|assumption|exact hpre.1|exact hpre.2|(simp;done),?_⟩
 refine ⟨y,by
  rfl,by
  show -9223372036854775808<=y/\y<=9223372036854775807
  first|omega|assumption|exact hpre.1|exact hpre.2|(simp;done),?_⟩
 exact Tv rfl (EX rfl)
def C8:Con:={ ι:=Int×Int,pre:=λ i=>(-9223372036854775808<=i.1/\i.1<=9223372036854775807)/\-9223372036854775808<=i.2/\i.2<=9223372036854775807,args:=λ i=>[DA.agg [cI i.1,cI i.2]],res:=λ i=>⟨false,[some 6],[rcB (decide ((Fr.ofInt i.1).z<0)),.own 3 [.int] (L (Fr.ofInt i.1).z.natAbs),.own 3 [.int] (L (Fr.ofInt i.1).d),rcB (decide ((Fr.ofInt i.2).z<0)),.own 3 [.int] (L (Fr.ofInt i.2).z.natAbs),.own 3 [.int] (L (Fr.ofInt i.2).d)]⟩ }
theorem OI:C8.Ok Tryz.prog 59:=by
 refine fok (X:=⟨tt,[(90,BR)],[],10,[]⟩) mixed AH (CTok.cons LD (CTok.nil _)) Tryz.func59 (λ _=>[]) ?_
 rintro ⟨x,y⟩ hpre
 have hpre:(-9223372036854775808<=x/\x<=9223372036854775807)/\-9223372036854775808<=y/\y<=9223372036854775807:=hpre
 refine AI (q:=∃ i1:Int,[DA.one (cI x)]=BR.args i1/\BR.pre i1/\(∃ i2:Int,[DA.one (cI y)]=BR.args i2/\BR.pre i2/\((eqD (Fr.ofInt i1) (Fr.ofInt x) ((eqC (Fr.ofInt i2) (Fr.ofInt y))))))) (by kernel_rfl) ?_
 refine ⟨x,by
  rfl,by
  show -9223372036854775808<=x/\x<=9223372036854775807
  first|omega|assumption|exact hpre.1|exact hpre.2|(simp;done),?_⟩
 refine ⟨y,by
  rfl,by
  show -9223372036854775808<=y/\y<=9223372036854775807
  first|omega|assumption|exact hpre.1|exact hpre.2|(simp;done),?_⟩
 exact Tv rfl (EX rfl)
def Hf:Con:={ ι:=PtD,pre:=λ i=>i.has,args:=λ i=>[DA.agg [cB i.x.neg,cS i.x.num,cS i.x.den,cB i.y.neg,cS i.y.num,cS i.y.den]],res:=λ i=>⟨false,[none],[rcB (okP i)]⟩ }
theorem T5:Hf.Ok Tryz.prog 280:=by
 refine fok (X:=⟨tt,[(327,CK)],[],11,[]⟩) mixed AH (CTok.cons OB (CTok.nil _)) Tryz.func280 (λ _=>[]) ?_
 intro (p:PtD) hpre
 have hpre:p.has:=hpre
 refine AI (q:=let Z1:=List (List Dat);∃ i1:Bool×Z1×Z1,[DA.agg [cB p.x.neg,cS p.x.num,cS p.x.den]]=CK.args i1/\CK.pre i1/\(ifB ((AZ i1.1 i1.2.1 i1.2.2)) (∃ i2:Bool×Z1×Z1,[DA.agg [cB p.y.neg,cS p.y.num,cS p.y.den]]=CK.args i2/\CK.pre i2/\((vB (AZ i2.1 i2.2.1 i2.2.2)=vB (okP p)))) ((vB false=vB (okP p))))) (by kernel_rfl) ?_
 conv=>zeta
 delta ifB vB
 refine ⟨(p.x.neg,p.x.num,p.x.den),by
  rfl,by
  exact ⟨hpre.1.1,hpre.1.2,AB hpre.1.1,AB hpre.1.2⟩,?_⟩
 refine And.symm ⟨λ c4=>?_,λ c4=>?_⟩
 ·try simp only [nrm] at c4
  exact congrArg Value.bool (by rw [Jt,c4];first|rfl|(rw [Bool.true_and]))
 try simp only [nrm] at c4
 refine ⟨(p.y.neg,p.y.num,p.y.den),by
  rfl,by
  exact ⟨hpre.2.1,hpre.2.2,AB hpre.2.1,AB hpre.2.2⟩,?_⟩
 exact congrArg Value.bool (by rw [Jt,c4];first|rfl|(rw [Bool.true_and]))
def DS:Con:={ ι:=PtD×Bool,pre:=λ i=>i.1.has/\okP i.1=i.2,args:=λ i=>[DA.agg [cB i.1.x.neg,cS i.1.x.num,cS i.1.x.den,cB i.1.y.neg,cS i.1.y.num,cS i.1.y.den]],res:=λ i=>⟨false,[none],[rcB i.2]⟩ }
theorem OJ:DS.Ok Tryz.prog 238:=by
 refine fok (X:=⟨tt,[(146,AG)],[],11,[]⟩) mixed AH (CTok.cons DR (CTok.nil _)) Tryz.func238 (λ _=>[]) ?_
 rintro ⟨p,b⟩ hpre
 have hpre:p.has/\okP p=b:=hpre
 refine AI (q:=let Z1:=List (List Dat);∃ i1:Bool×Z1×Z1×Bool,[DA.agg [cB p.x.neg,cS p.x.num,cS p.x.den]]=AG.args i1/\AG.pre i1/\(ifB (i1.2.2.2) (∃ i2:Bool×Z1×Z1×Bool,[DA.agg [cB p.y.neg,cS p.y.num,cS p.y.den]]=AG.args i2/\AG.pre i2/\((vB i2.2.2.2=vB b))) ((vB false=vB b)))) (by kernel_rfl) ?_
 conv=>zeta
 delta ifB vB
 refine ⟨(p.x.neg,p.x.num,p.x.den,(AZ p.x.neg p.x.num p.x.den)),by
  rfl,by
  try dsimp only [AG]
  exact ⟨hpre.1.1.1,hpre.1.1.2,AB hpre.1.1.1,AB hpre.1.1.2,rfl⟩,?_⟩
 refine And.symm ⟨λ c4=>?_,λ c4=>?_⟩
 ·try simp only [nrm] at c4
  rw [← hpre.2]
  exact congrArg Value.bool (by rw [Jt,c4];first|rfl|(rw [Bool.true_and]))
 try simp only [nrm] at c4
 refine ⟨(p.y.neg,p.y.num,p.y.den,(AZ p.y.neg p.y.num p.y.den)),by
  rfl,by
  try dsimp only [AG]
  exact ⟨hpre.1.2.1,hpre.1.2.2,AB hpre.1.2.1,AB hpre.1.2.2,rfl⟩,?_⟩
 show Value.bool (AZ p.y.neg p.y.num p.y.den)=Value.bool b
 rw [← hpre.2]
 exact congrArg Value.bool (by rw [Jt,c4];first|rfl|(rw [Bool.true_and]))
def GV:Con:={ ι:=PtD,pre:=λ i=>i.has,args:=λ i=>[DA.agg [cB i.x.neg,cS i.x.num,cS i.x.den,cB i.y.neg,cS i.y.num,cS i.y.den]],res:=λ i=>⟨false,[none],[rcB (!(okP i))]⟩ }
theorem SF:GV.Ok Tryz.prog 279:=by
 refine fok (X:=⟨tt,[(280,Hf)],[],6,[]⟩) mixed AH (CTok.cons T5 (CTok.nil _)) Tryz.func279 (λ _=>[]) ?_
 intro (p:PtD) hpre
 have hpre:p.has:=hpre
 refine AI (q:=∃ i1:PtD,[DA.agg [cB p.x.neg,cS p.x.num,cS p.x.den,cB p.y.neg,cS p.y.num,cS p.y.den]]=Hf.args i1/\Hf.pre i1/\((vB (!(okP i1))=vB (!(okP p))))) (by kernel_rfl) ?_
 delta vB
 refine ⟨p,by
  rfl,by
  exact hpre,?_⟩
 exact rfl
def Hg:Con:={ ι:=(List (List Dat)),pre:=λ i=>i.length<=9223372036854775807/\∀ k,k<i.length->(C9 (i.getD k [])).has,args:=λ i=>[.one (DC.sl 110 Ne i),.one (.ro (.fn 279 []))],tag:=280,res:=λ i=>⟨false,[none],[rcI (Je (λ r=>!(okP (C9 r))) i)]⟩ }
theorem T6:Hg.Ok Tryz.prog 326:=by
 refine fok (X:=⟨tt,[(279,GV)],[],19,[]⟩) mixed AH (CTok.cons SF (CTok.nil _)) Tryz.func326 (λ (i:(List (List Dat)))=>[(2,.mk 3 (Nat) (λ x1=>{ tm:=[(0,tX 1),(1,tX 2),(7,tI (nI i.length)),(8,tI (nI x1))],en:=[(1,.view 110 Ne i []),(2,.ro (.fn 279 []) [])] }) (λ x1=>x1<=i.length/\∀ j,j<x1->(λ r=>!(okP (C9 r))) (i.getD j [])=false) (λ x1=>i.length-x1) (λ _=>[]))]) ?_
 intro (l:List (List Dat)) hpre
 have hpre:l.length<=9223372036854775807/\∀ k,k<l.length->(C9 (l.getD k [])).has:=hpre
 refine AI (q:=let Z3:=(.fn 279 []:RO)=.fn 279 [];let Z2:=Je (λ r=>!(okP (C9 r))) l;(∃ x1:Nat,(x1<=l.length/\∀ j,j<x1->(λ r=>!(okP (C9 r))) (l.getD j [])=false)/\((rf (vI (nI l.length)))/\(vI (0:Int)=vI (nI x1))/\(rf (l))/\Z3))/\∀ x1:Nat,let Z1:=l.getD x1 [];(x1<=l.length/\∀ j,j<x1->(λ r=>!(okP (C9 r))) (l.getD j [])=false)->(ifB ((decide ((nI x1)<(nI l.length)))) ((0<=(nI x1)/\(nI x1)<(l.length:Int))/\((x1<l.length)/\(∃ i1:PtD,[DA.agg [cB (((Z1.getD 0 (.int 0))).b),cS (((Z1.getD 1 (.int 0))).r),cS (((Z1.getD 2 (.int 0))).r),cB (((Z1.getD 3 (.int 0))).b),cS (((Z1.getD 4 (.int 0))).r),cS (((Z1.getD 5 (.int 0))).r)]]=GV.args i1/\GV.pre i1/\(ifB ((!(okP i1))) ((vI (nI x1)=vI Z2)) (∃ y2:Nat,(y2<=l.length/\∀ j,j<y2->(λ r=>!(okP (C9 r))) (l.getD j [])=false)/\(l.length-y2<l.length-x1)/\((rf (vI (nI l.length)))/\(vI (wR ((nI x1)+(1:Int)))=vI (nI y2))/\(rf (l))/\Z3)))))) ((vI (-1:Int)=vI Z2)))) (by kernel_rfl) ?_
 conv=>zeta
 delta ifB vI wR nI
 refine ⟨⟨0,by
  exact ⟨Nat.zero_le _,λ j hj=>absurd hj (Nat.not_lt_zero j)⟩,?_⟩,?_⟩
 ·refine ⟨rfl,?_,rfl,?_⟩
  ·rfl
  rfl
 intro (k:Nat) hki1
 have hki1:k<=l.length/\∀ j,j<k->(λ r=>!(okP (C9 r))) (l.getD j [])=false:=hki1
 refine And.symm ⟨λ c7=>?_,λ c7=>?_⟩
 ·try simp only [nrm] at c7
  rw [L7 (λ j hj=>hki1.2 j (by omega))]
 try simp only [nrm] at c7
 refine ao (by omega) λ o8=>?_
 refine ao (by omega) λ o9=>?_
 refine ⟨(C9 (l.getD k [])),by
  rfl,by
  exact hpre.2 k (by omega),?_⟩
 refine ⟨λ c13=>?_,λ c13=>?_⟩
 ·try simp only [nrm] at c13
  rw [Qn (k:=k) (by omega) hki1.2 (by show (!(okP (C9 (l.getD k []))))=true;rw [c13];rfl)]
 try simp only [nrm] at c13
 refine ⟨k+1,by
  exact ⟨by omega,Mo hki1.2 (by show (!(okP (C9 (l.getD k []))))=false;rw [c13];rfl)⟩,by
  omega,?_⟩
 refine ⟨rfl,?_,rfl,?_⟩
 ·exact AF (AD (by omega) (by omega))
 rfl
def GW:Con:={ ι:=(List (List Dat)),pre:=λ i=>i.length<=9223372036854775807/\∀ k,k<i.length->(C9 (i.getD k [])).has,args:=λ i=>[.one (DC.sl 110 Ne i),.one (.ro (.fn 279 []))],tag:=280,res:=λ i=>⟨false,[none],[rcB (i.any (λ r=>!(okP (C9 r))))]⟩ }
theorem SG:GW.Ok Tryz.prog 278:=by
 refine fok (X:=⟨tt,[(326,Hg)],[],9,[]⟩) mixed AH (CTok.cons T6 (CTok.nil _)) Tryz.func278 (λ _=>[]) ?_
 intro (l:List (List Dat)) hpre
 have hpre:l.length<=9223372036854775807/\∀ k,k<l.length->(C9 (l.getD k [])).has:=hpre
 refine AI (q:=∃ i1:(List (List Dat)),[DA.one (DC.sl 110 Ne l),DA.one (DC.ro (.fn 279 []))]=Hg.args i1/\Hg.pre i1/\((vB (decide ((Je (λ r=>!(okP (C9 r))) i1)≥(0:Int)))=vB (l.any (λ r=>!(okP (C9 r))))))) (by kernel_rfl) ?_
 delta vB
 refine ⟨l,by
  rfl,by
  exact hpre,?_⟩
 exact congrArg Value.bool (N0 _ _)
def Bd:Con:={ ι:=(List (List Dat)),pre:=λ i=>i.length<=9223372036854775807/\∀ k,k<i.length->(C9 (i.getD k [])).has,args:=λ i=>[.one (DC.sl 110 Ne i)],res:=λ i=>⟨false,[none],[rcB (!(i.any (λ r=>!(okP (C9 r)))))]⟩ }
theorem IZ:Bd.Ok Tryz.prog 242:=by
 refine fok (X:=⟨tt,[(278,GW)],[],6,[]⟩) mixed AH (CTok.cons SG (CTok.nil _)) Tryz.func242 (λ _=>[]) ?_
 intro (l:List (List Dat)) hpre
 have hpre:l.length<=9223372036854775807/\∀ k,k<l.length->(C9 (l.getD k [])).has:=hpre
 refine AI (q:=∃ i1:(List (List Dat)),[DA.one (DC.sl 110 Ne l),DA.one (DC.ro (.fn 279 []))]=GW.args i1/\GW.pre i1/\((vB (!(i1.any (λ r=>!(okP (C9 r)))))=vB (!(l.any (λ r=>!(okP (C9 r)))))))) (by kernel_rfl) ?_
 delta vB
 refine ⟨l,by
  rfl,by
  exact hpre,?_⟩
 exact rfl
def Fq:Con:={ ι:=Pq×Pq×Pq,pre:=λ i=>True,args:=λ i=>[dP i.1,dP i.2.1,dP i.2.2],res:=λ i=>⟨false,[none],[rcI (Gh i.1 i.2.1 i.2.2)]⟩ }
theorem Ux:Fq.Ok Tryz.prog 328:=by
 refine fok (X:=⟨tt,[(219,BG),(269,DN),(349,Ep)],[],35,[]⟩) mixed AH (CTok.cons R5 (CTok.cons R3 (CTok.cons Pa (CTok.nil _)))) Tryz.func328 (λ _=>[]) ?_
 rintro ⟨p,q,r⟩ hpre
 have hpre:True:=hpre
 refine AI (q:=∃ i1:Fr×Fr,[dF q.x,dF p.x]=BG.args i1/\BG.pre i1/\(∃ i2:Fr×Fr,[dF r.y,dF p.y]=BG.args i2/\BG.pre i2/\(∃ i3:Fr×Fr,[dF (Fr.sub i1.1 i1.2),dF (Fr.sub i2.1 i2.2)]=DN.args i3/\DN.pre i3/\(∃ i4:Fr×Fr,[dF q.y,dF p.y]=BG.args i4/\BG.pre i4/\(∃ i5:Fr×Fr,[dF r.x,dF p.x]=BG.args i5/\BG.pre i5/\(∃ i6:Fr×Fr,[dF (Fr.sub i4.1 i4.2),dF (Fr.sub i5.1 i5.2)]=DN.args i6/\DN.pre i6/\(∃ i7:Fr×Fr,[dF (Fr.mul i3.1 i3.2),dF (Fr.mul i6.1 i6.2)]=BG.args i7/\BG.pre i7/\(∃ i8:Fr,[dF (Fr.sub i7.1 i7.2)]=Ep.args i8/\Ep.pre i8/\((vI i8.sgn=vI (Gh p q r))))))))))) (by kernel_rfl) ?_
 delta vI
 refine ⟨(q.x,p.x),by
  rfl,by
  trivial,?_⟩
 refine ⟨(r.y,p.y),by
  rfl,by
  trivial,?_⟩
 refine ⟨((Fr.sub q.x p.x),(Fr.sub r.y p.y)),by
  rfl,by
  trivial,?_⟩
 refine ⟨(q.y,p.y),by
  rfl,by
  trivial,?_⟩
 refine ⟨(r.x,p.x),by
  rfl,by
  trivial,?_⟩
 refine ⟨((Fr.sub q.y p.y),(Fr.sub r.x p.x)),by
  rfl,by
  trivial,?_⟩
 refine ⟨((Fr.mul (Fr.sub q.x p.x) (Fr.sub r.y p.y)),(Fr.mul (Fr.sub q.y p.y) (Fr.sub r.x p.x))),by
  rfl,by
  trivial,?_⟩
 refine ⟨(Fr.sub (Fr.mul (Fr.sub q.x p.x) (Fr.sub r.y p.y)) (Fr.mul (Fr.sub q.y p.y) (Fr.sub r.x p.x))),by
  rfl,by
  trivial,?_⟩
 rfl
def EG:Con:={ ι:=Pq×Pq×Pq,pre:=λ i=>True,args:=λ i=>[dP i.1,dP i.2.1,dP i.2.2],res:=λ i=>⟨false,[none],[rcI (Gh i.1 i.2.1 i.2.2)]⟩ }
theorem T7:EG.Ok Tryz.prog 239:=by
 refine fok (X:=⟨tt,[(142,A4),(206,Co),(277,D8)],[],35,[]⟩) mixed AH (CTok.cons Pe (CTok.cons Pf (CTok.cons OG (CTok.nil _)))) Tryz.func239 (λ _=>[]) ?_
 rintro ⟨p,q,r⟩ hpre
 have hpre:True:=hpre
 refine AI (q:=∃ i1:Fr×Fr,[dF q.x,dF p.x]=A4.args i1/\A4.pre i1/\(∃ i2:Fr×Fr,[dF r.y,dF p.y]=A4.args i2/\A4.pre i2/\(∃ i3:Fr×Fr,[dF (Fr.sub i1.1 i1.2),dF (Fr.sub i2.1 i2.2)]=Co.args i3/\Co.pre i3/\(∃ i4:Fr×Fr,[dF q.y,dF p.y]=A4.args i4/\A4.pre i4/\(∃ i5:Fr×Fr,[dF r.x,dF p.x]=A4.args i5/\A4.pre i5/\(∃ i6:Fr×Fr,[dF (Fr.sub i4.1 i4.2),dF (Fr.sub i5.1 i5.2)]=Co.args i6/\Co.pre i6/\(∃ i7:Fr×Fr,[dF (Fr.mul i3.1 i3.2),dF (Fr.mul i6.1 i6.2)]=A4.args i7/\A4.pre i7/\(∃ i8:Fr,[dF (Fr.sub i7.1 i7.2)]=D8.args i8/\D8.pre i8/\((vI i8.sgn=vI (Gh p q r))))))))))) (by kernel_rfl) ?_
 delta vI
 refine ⟨(q.x,p.x),by
  rfl,by
  trivial,?_⟩
 refine ⟨(r.y,p.y),by
  rfl,by
  trivial,?_⟩
 refine ⟨((Fr.sub q.x p.x),(Fr.sub r.y p.y)),by
  rfl,by
  trivial,?_⟩
 refine ⟨(q.y,p.y),by
  rfl,by
  trivial,?_⟩
 refine ⟨(r.x,p.x),by
  rfl,by
  trivial,?_⟩
 refine ⟨((Fr.sub q.y p.y),(Fr.sub r.x p.x)),by
  rfl,by
  trivial,?_⟩
 refine ⟨((Fr.mul (Fr.sub q.x p.x) (Fr.sub r.y p.y)),(Fr.mul (Fr.sub q.y p.y) (Fr.sub r.x p.x))),by
  rfl,by
  trivial,?_⟩
 refine ⟨(Fr.sub (Fr.mul (Fr.sub q.x p.x) (Fr.sub r.y p.y)) (Fr.mul (Fr.sub q.y p.y) (Fr.sub r.x p.x))),by
  rfl,by
  trivial,?_⟩
 rfl
end Go.Proofs.YtmedodfenejimaaGreat
