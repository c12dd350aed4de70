import Derived.Test.YtndnhlhnjiopfaaGreatDiRkG
import Derived.Test.YtndnhlhnjiopfaaGreatDiNum4
namespace Go.Proofs.YtndnhlhnjiopfaaGreat
set_option maxRecDepth 100000
set_option linter.unusedVariables false
set_option linter.unusedSimpArgs false
open Go.RowKit
theorem W9 {a b:Int} (h1:decide (a<0)=decide (b<0)) (h2:a.natAbs=b.natAbs):a=b:=by rw [← C5 a,← C5 b,h1,h2]
def fQ (l:List V2) (p:Pq) (k:Nat):Fr:=Fd p (CN l k) (CN l ((k+1)%l.length))
def H0 (l:List V2) (p:Pq):Nat->Fr
 | 0=>fQ l p (l.length-1)
 | k+1=>Fr.min (H0 l p k) (fQ l p k)
def Bi (l:List V2) (p:Pq):Fr:=if LM l p≥0 then Fr.ofInt 0 else H0 l p (l.length-1)
theorem G8 {l:List V2} {p:Pq} (h:0<l.length):Fd p (CN l (l.length-1)) (CN l 0)=H0 l p 0:=by
 show _=Fd p (CN l (l.length-1)) (CN l ((l.length-1+1)%l.length))
 rw [Nat.sub_add_cancel h,Nat.mod_self]
theorem Im {l:List V2} {p:Pq} {k:Nat} (h1:1<=k) (h2:k<l.length):Fr.min (H0 l p (k-1)) (Fd p (CN l (k-1)) (CN l k))=H0 l p (k+1-1):=by
 obtain ⟨m,rfl⟩:∃ m,k=m+1:=⟨k-1,by omega⟩
 show _=Fr.min (H0 l p m) (Fd p (CN l m) (CN l ((m+1)%l.length)))
 rw [Nat.mod_eq_of_lt h2];rfl
theorem Ky {l:List V2} {p:Pq} (h:LM l p≥0):Bi l p=Fr.ofInt 0:=by unfold Bi;rw [if_pos h]
theorem OS {l:List V2} {p:Pq} (h:¬ LM l p≥0):Bi l p=H0 l p (l.length-1):=by unfold Bi;rw [if_neg h]
def spR (l:List V2) (p:PtD):Fr:=if Ai l=true/\okP p=true then Bi l (pqR p) else Fr.none
theorem Ql {l:List V2} {p:PtD} (h:Ai l=false):spR l p=Fr.none:=by unfold spR;rw [if_neg (by rw [h];simp)]
theorem Qm {l:List V2} {p:PtD} (h:okP p=false):spR l p=Fr.none:=by unfold spR;rw [if_neg (by rw [h];simp)]
theorem Mx {l:List V2} {p:PtD} (h:Ai l=true) (h2:okP p=true):spR l p=Bi l (pqR p):=by unfold spR;rw [if_pos ⟨h,h2⟩]
def DJ:Con:={ ι:=Nat×Nat,pre:=λ i=>nl i.1<=1048576/\nl i.2<=1048576,args:=λ i=>[.one (cS (L i.1)),.one (cS (L i.2))],mono:=true,res:=λ i=>⟨false,[none],[rcB (decide (i.1=i.2))]⟩ }
theorem Rz:DJ.Ok Tryz.prog 55:=by
 refine fok (X:=⟨tt,[],[],26,[]⟩) AH AI (CTok.nil _) Tryz.func55 (λ (i:Nat×Nat)=>[(4,.mk 3 (Nat) (λ x1=>{ tm:=[(0,tX 1),(1,tX 2),(12,tI (nI ((L i.1).length))),(13,tI (nI x1))],en:=[(1,eV (L i.1)),(2,eV (L i.2))] }) (λ x1=>x1<=nl i.1/\nl i.1=nl i.2/\AE x1 i.1=AE x1 i.2) (λ x1=>nl i.1-x1) (λ _=>[]))]) ?_
 rintro ⟨a,b⟩ hpre
 have hpre:nl a<=1048576/\nl b<=1048576:=hpre
 refine AG (q:=let Z2:=(vB false=vB (decide (a=b)));let Z1:=nI ((L a).length);ifB ((Z1 != (nI ((L b).length)))) Z2 ((∃ x1:Nat,(x1<=nl a/\nl a=nl b/\AE x1 a=AE x1 b)/\((rf (vI Z1))/\(vI (0:Int)=vI (nI x1))/\(rf (L a))/\(rf (L b))))/\∀ x1:Nat,(x1<=nl a/\nl a=nl b/\AE x1 a=AE x1 b)->(ifB ((decide ((nI x1)<Z1))) ((0<=(nI x1)/\(nI x1)<((L a).length:Int))/\((x1<(L a).length)/\((0<=(nI x1)/\(nI x1)<((L b).length:Int))/\((x1<(L b).length)/\(ifB ((((((L a).getD x1 []).getD 0 (.int 0))).n != ((((L b).getD x1 []).getD 0 (.int 0))).n)) Z2 (∃ y2:Nat,(y2<=nl a/\nl a=nl b/\AE y2 a=AE y2 b)/\(nl a-y2<nl a-x1)/\((rf (vI Z1))/\(vI (wR ((nI x1)+(1:Int)))=vI (nI y2))/\(rf (L a))/\(rf (L b))))))))) ((vB true=vB (decide (a=b))))))) (by kernel_rfl) ?_
 conv=>zeta
 delta ifB vB vI wR nI
 have ha:=AN a
 have hb:=AN b
 refine ⟨λ c1=>?_,λ c1=>?_⟩
 ·try simp only [nrm] at c1
  exact congrArg Value.bool (decide_eq_false (λ e=>by subst e;omega)).symm
 try simp only [nrm] at c1
 refine ⟨⟨0,by
  exact ⟨Nat.zero_le _,by omega,rfl⟩,?_⟩,?_⟩
 ·refine ⟨rfl,?_,rfl,rfl⟩
  rfl
 intro (k:Nat) hki3
 have hki3:k<=nl a/\nl a=nl b/\AE k a=AE k b:=hki3
 refine And.symm ⟨λ c9=>?_,λ c9=>?_⟩
 ·try simp only [nrm] at c9
  exact congrArg Value.bool (decide_eq_true (Ry hki3.2.1 (by have:=hki3.2.2;rwa [show k=nl a by omega] at this))).symm
 try simp only [nrm] at c9
 refine ao (by omega) λ o10=>?_
 refine ao (by omega) λ o11=>?_
 refine ao (by omega) λ o12=>?_
 refine ao (by omega) λ o13=>?_
 refine ⟨λ c14=>?_,λ c14=>?_⟩
 ·try simp only [nrm] at c14
  rw [L_n,L_n] at c14
  exact congrArg Value.bool (decide_eq_false (λ e=>c14 (by rw [e]))).symm
 try simp only [nrm] at c14
 rw [L_n,L_n] at c14
 refine ⟨k+1,by
  exact ⟨by omega,hki3.2.1,by rw [Ac,Ac,hki3.2.2,show dgt a k=dgt b k by omega]⟩,by
  omega,?_⟩
 refine ⟨rfl,?_,rfl,rfl⟩
 exact Ag (AA (by omega) (by omega))
def CO:Con:={ ι:=Fr×Fr,pre:=λ i=>True,args:=λ i=>[dF i.1,dF i.2],mono:=true,res:=λ i=>⟨false,[none],[rcB (eqF i.1 i.2)]⟩ }
theorem OT:CO.Ok Tryz.prog 24:=by
 refine fok (X:=⟨tt,[(55,DJ)],[],28,[]⟩) AH AI (CTok.cons Rz (CTok.nil _)) Tryz.func24 (λ _=>[]) ?_
 rintro ⟨r,s⟩ hpre
 have hpre:True:=hpre
 refine AG (q:=let Z1:=(vB false=vB (eqF r s));ifB (((decide (r.z<0)) == (decide (s.z<0)))) (∃ i1:Nat×Nat,[DA.one (cS (L r.z.natAbs)),DA.one (cS (L s.z.natAbs))]=DJ.args i1/\DJ.pre i1/\(ifB ((decide (i1.1=i1.2))) (∃ i2:Nat×Nat,[DA.one (cS (L r.d)),DA.one (cS (L s.d))]=DJ.args i2/\DJ.pre i2/\((vB (decide (i2.1=i2.2))=vB (eqF r s)))) Z1)) Z1) (by kernel_rfl) ?_
 conv=>zeta
 delta ifB vB
 have h1:=r.nlz
 have h2:=r.nld
 have h3:=s.nlz
 have h4:=s.nld
 refine And.symm ⟨λ c1=>?_,λ c1=>?_⟩
 ·try simp only [nrm] at c1
  exact congrArg Value.bool (by unfold eqF;rw [decide_eq_false (λ e=>c1 (by rw [e]))];rfl)
 try simp only [nrm] at c1
 refine ⟨(r.z.natAbs,s.z.natAbs),by
  rfl,by
  show nl r.z.natAbs<=1048576/\nl s.z.natAbs<=1048576
  exact ⟨by omega,by omega⟩,?_⟩
 refine And.symm ⟨λ c5=>?_,λ c5=>?_⟩
 ·try simp only [nrm] at c5
  exact congrArg Value.bool (by unfold eqF;rw [decide_eq_false (λ e=>c5 (by rw [e]))];rfl)
 try simp only [nrm] at c5
 refine ⟨(r.d,s.d),by
  rfl,by
  show nl r.d<=1048576/\nl s.d<=1048576
  exact ⟨by omega,by omega⟩,?_⟩
 exact congrArg Value.bool (by unfold eqF;rw [decide_eq_true (W9 c1 c5)];rfl)
def DP:Con:={ ι:=Pq×Pq,pre:=λ i=>True,args:=λ i=>[dP i.1,dP i.2],res:=λ i=>⟨false,[none],[rcB (eqP i.1 i.2)]⟩ }
theorem My:DP.Ok Tryz.prog 92:=by
 refine fok (X:=⟨tt,[(24,CO)],[],17,[]⟩) AH AI (CTok.cons OT (CTok.nil _)) Tryz.func92 (λ _=>[]) ?_
 rintro ⟨p,q⟩ hpre
 have hpre:True:=hpre
 refine AG (q:=∃ i1:Fr×Fr,[dF p.x,dF q.x]=CO.args i1/\CO.pre i1/\(ifB ((eqF i1.1 i1.2)) (∃ i2:Fr×Fr,[dF p.y,dF q.y]=CO.args i2/\CO.pre i2/\((vB (eqF i2.1 i2.2)=vB (eqP p q)))) ((vB false=vB (eqP p q))))) (by kernel_rfl) ?_
 delta ifB vB
 refine ⟨(p.x,q.x),by
  rfl,by
  trivial,?_⟩
 refine And.symm ⟨λ c4=>?_,λ c4=>?_⟩
 ·try simp only [nrm] at c4
  exact congrArg Value.bool (by unfold eqP;rw [c4];rfl)
 try simp only [nrm] at c4
 refine ⟨(p.y,q.y),by
  rfl,by
  trivial,?_⟩
 exact congrArg Value.bool (by unfold eqP;rw [c4];rfl)
def CF:Con:={ ι:=Pq×Pq,pre:=λ i=>True,args:=λ i=>[dP i.1,dP i.2],res:=λ i=>⟨false,[some 3],[rcB (decide ((sdQ i.1 i.2).z<0)),.own 3 [.int] (L (sdQ i.1 i.2).z.natAbs),.own 3 [.int] (L (sdQ i.1 i.2).d)]⟩ }
theorem R0:CF.Ok Tryz.prog 54:=by
 refine fok (X:=⟨tt,[(96,AP),(95,Ab),(77,Av)],[],24,[]⟩) AH AI (CTok.cons GX (CTok.cons GW (CTok.cons GV (CTok.nil _)))) Tryz.func54 (λ _=>[]) ?_
 rintro ⟨p,q⟩ hpre
 have hpre:True:=hpre
 refine AG (q:=∃ i1:Fr×Fr,[dF p.x,dF q.x]=AP.args i1/\AP.pre i1/\(∃ i2:Fr×Fr,[dF p.y,dF q.y]=AP.args i2/\AP.pre i2/\(∃ i3:Fr×Fr,[dF (Fr.sub i1.1 i1.2),dF (Fr.sub i1.1 i1.2)]=Ab.args i3/\Ab.pre i3/\(∃ i4:Fr×Fr,[dF (Fr.sub i2.1 i2.2),dF (Fr.sub i2.1 i2.2)]=Ab.args i4/\Ab.pre i4/\(∃ i5:Fr×Fr,[dF (Fr.mul i3.1 i3.2),dF (Fr.mul i4.1 i4.2)]=Av.args i5/\Av.pre i5/\((eqC (Fr.add i5.1 i5.2) (sdQ p q)))))))) (by kernel_rfl) ?_
 refine ⟨(p.x,q.x),by
  rfl,by
  trivial,?_⟩
 refine ⟨(p.y,q.y),by
  rfl,by
  trivial,?_⟩
 refine ⟨((Fr.sub p.x q.x),(Fr.sub p.x q.x)),by
  rfl,by
  trivial,?_⟩
 refine ⟨((Fr.sub p.y q.y),(Fr.sub p.y q.y)),by
  rfl,by
  trivial,?_⟩
 refine ⟨((Fr.mul (Fr.sub p.x q.x) (Fr.sub p.x q.x)),(Fr.mul (Fr.sub p.y q.y) (Fr.sub p.y q.y))),by
  rfl,by
  trivial,?_⟩
 refine BG ?_
 rfl
def Gf:Con:={ ι:=Pq×Pq×Pq,pre:=λ i=>True,args:=λ i=>[dP i.1,dP i.2.1,dP i.2.2],res:=λ i=>⟨false,[some 3],[rcB (decide ((Hz i.1 i.2.1 i.2.2).z<0)),.own 3 [.int] (L (Hz i.1 i.2.1 i.2.2).z.natAbs),.own 3 [.int] (L (Hz i.1 i.2.1 i.2.2).d)]⟩ }
theorem Tv:Gf.Ok Tryz.prog 56:=by
 refine fok (X:=⟨tt,[(96,AP),(95,Ab),(77,Av)],[],30,[]⟩) AH AI (CTok.cons GX (CTok.cons GW (CTok.cons GV (CTok.nil _)))) Tryz.func56 (λ _=>[]) ?_
 rintro ⟨a,b,c⟩ hpre
 have hpre:True:=hpre
 refine AG (q:=∃ i1:Fr×Fr,[dF b.x,dF a.x]=AP.args i1/\AP.pre i1/\(∃ i2:Fr×Fr,[dF c.x,dF a.x]=AP.args i2/\AP.pre i2/\(∃ i3:Fr×Fr,[dF (Fr.sub i1.1 i1.2),dF (Fr.sub i2.1 i2.2)]=Ab.args i3/\Ab.pre i3/\(∃ i4:Fr×Fr,[dF b.y,dF a.y]=AP.args i4/\AP.pre i4/\(∃ i5:Fr×Fr,[dF c.y,dF a.y]=AP.args i5/\AP.pre i5/\(∃ i6:Fr×Fr,[dF (Fr.sub i4.1 i4.2),dF (Fr.sub i5.1 i5.2)]=Ab.args i6/\Ab.pre i6/\(∃ i7:Fr×Fr,[dF (Fr.mul i3.1 i3.2),dF (Fr.mul i6.1 i6.2)]=Av.args i7/\Av.pre i7/\((eqC (Fr.add i7.1 i7.2) (Hz a b c)))))))))) (by kernel_rfl) ?_
 refine ⟨(b.x,a.x),by
  rfl,by
  trivial,?_⟩
 refine ⟨(c.x,a.x),by
  rfl,by
  trivial,?_⟩
 refine ⟨((Fr.sub b.x a.x),(Fr.sub c.x a.x)),by
  rfl,by
  trivial,?_⟩
 refine ⟨(b.y,a.y),by
  rfl,by
  trivial,?_⟩
 refine ⟨(c.y,a.y),by
  rfl,by
  trivial,?_⟩
 refine ⟨((Fr.sub b.y a.y),(Fr.sub c.y a.y)),by
  rfl,by
  trivial,?_⟩
 refine ⟨((Fr.mul (Fr.sub b.x a.x) (Fr.sub c.x a.x)),(Fr.mul (Fr.sub b.y a.y) (Fr.sub c.y a.y))),by
  rfl,by
  trivial,?_⟩
 refine BG ?_
 rfl
def Dt:Con:={ ι:=Pq×Pq×Pq,pre:=λ i=>True,args:=λ i=>[dP i.1,dP i.2.1,dP i.2.2],res:=λ i=>⟨false,[some 3],[rcB (decide ((Fd i.1 i.2.1 i.2.2).z<0)),.view 3 [.int] (L (Fd i.1 i.2.1 i.2.2).z.natAbs),.view 3 [.int] (L (Fd i.1 i.2.1 i.2.2).d)]⟩ }
theorem Tw:Dt.Ok Tryz.prog 53:=by
 refine fok (X:=⟨tt,[(92,DP),(54,CF),(56,Gf),(93,FR),(49,Ad),(94,FT),(84,Ci),(96,AP),(95,Ab),(77,Av)],[],52,[]⟩) AH AI (CTok.cons My (CTok.cons R0 (CTok.cons Tv (CTok.cons Rc (CTok.cons E5 (CTok.cons Rf (CTok.cons L5 (CTok.cons GX (CTok.cons GW (CTok.cons GV (CTok.nil _))))))))))) Tryz.func53 (λ _=>[]) ?_
 rintro ⟨p,a,b⟩ hpre
 have hpre:True:=hpre
 refine AG (q:=∃ i1:Pq×Pq,[dP a,dP b]=DP.args i1/\DP.pre i1/\(ifB ((eqP i1.1 i1.2)) (∃ i2:Pq×Pq,[dP p,dP a]=CF.args i2/\CF.pre i2/\((eqC (sdQ i2.1 i2.2) (Fd p a b)))) (∃ i3:Pq×Pq×Pq,[dP a,dP p,dP b]=Gf.args i3/\Gf.pre i3/\(∃ i4:Pq×Pq,[dP a,dP b]=CF.args i4/\CF.pre i4/\(∃ i5:Fr×Fr,[dF (Hz i3.1 i3.2.1 i3.2.2),dF (sdQ i4.1 i4.2)]=FR.args i5/\FR.pre i5/\(∃ i6:Int,[DA.one (cI (1:Int))]=Ad.args i6/\Ad.pre i6/\(∃ i7:Int,[DA.one (cI (0:Int))]=Ad.args i7/\Ad.pre i7/\(∃ i8:Fr×Fr,[dF (Fr.ofInt i7),dF (Fr.div i5.1 i5.2)]=FT.args i8/\FT.pre i8/\(∃ i9:Fr×Fr,[dF (Fr.ofInt i6),dF (Fr.max i8.1 i8.2)]=Ci.args i9/\Ci.pre i9/\(∃ i10:Fr×Fr,[dF b.x,dF a.x]=AP.args i10/\AP.pre i10/\(∃ i11:Fr×Fr,[dF (Fr.min i9.1 i9.2),dF (Fr.sub i10.1 i10.2)]=Ab.args i11/\Ab.pre i11/\(∃ i12:Fr×Fr,let Z1:=Fr.add i12.1 i12.2;[dF a.x,dF (Fr.mul i11.1 i11.2)]=Av.args i12/\Av.pre i12/\(∃ i13:Fr×Fr,[dF b.y,dF a.y]=AP.args i13/\AP.pre i13/\(∃ i14:Fr×Fr,[dF (Fr.min i9.1 i9.2),dF (Fr.sub i13.1 i13.2)]=Ab.args i14/\Ab.pre i14/\(∃ i15:Fr×Fr,let Z2:=Fr.add i15.1 i15.2;[dF a.y,dF (Fr.mul i14.1 i14.2)]=Av.args i15/\Av.pre i15/\(∃ i16:Pq×Pq,[dP p,DA.agg [cB (decide (Z1.z<0)),cS (L Z1.z.natAbs),cS (L Z1.d),cB (decide (Z2.z<0)),cS (L Z2.z.natAbs),cS (L Z2.d)]]=CF.args i16/\CF.pre i16/\((eqC (sdQ i16.1 i16.2) (Fd p a b))))))))))))))))))) (by kernel_rfl) ?_
 conv=>zeta
 delta ifB
 refine ⟨(a,b),by
  rfl,by
  trivial,?_⟩
 refine ⟨λ c4=>?_,λ c4=>?_⟩
 ·try simp only [nrm] at c4
  have hE:Fd p a b=sdQ p a:=by unfold Fd;rw [if_pos c4]
  refine ⟨(p,a),by
   rfl,by
   trivial,?_⟩
  refine BG ?_
  rw [hE]
 try simp only [nrm] at c4
 have hE:Fd p a b=sdQ p (Qi a b (tQ p a b)):=by unfold Fd;rw [if_neg (by rw [c4];simp)]
 refine ⟨(a,p,b),by
  rfl,by
  trivial,?_⟩
 refine ⟨(a,b),by
  rfl,by
  trivial,?_⟩
 refine ⟨((Hz a p b),(sdQ a b)),by
  rfl,by
  trivial,?_⟩
 refine ⟨(1:Int),by
  rfl,by
  trivial,?_⟩
 refine ⟨(0:Int),by
  rfl,by
  trivial,?_⟩
 refine ⟨((Fr.ofInt (0:Int)),(Fr.div (Hz a p b) (sdQ a b))),by
  rfl,by
  trivial,?_⟩
 refine ⟨((Fr.ofInt (1:Int)),(Fr.max (Fr.ofInt (0:Int)) (Fr.div (Hz a p b) (sdQ a b)))),by
  rfl,by
  trivial,?_⟩
 refine ⟨(b.x,a.x),by
  rfl,by
  trivial,?_⟩
 refine ⟨((Fr.min (Fr.ofInt (1:Int)) (Fr.max (Fr.ofInt (0:Int)) (Fr.div (Hz a p b) (sdQ a b)))),(Fr.sub b.x a.x)),by
  rfl,by
  trivial,?_⟩
 refine ⟨(a.x,(Fr.mul (Fr.min (Fr.ofInt (1:Int)) (Fr.max (Fr.ofInt (0:Int)) (Fr.div (Hz a p b) (sdQ a b)))) (Fr.sub b.x a.x))),by
  rfl,by
  trivial,?_⟩
 refine ⟨(b.y,a.y),by
  rfl,by
  trivial,?_⟩
 refine ⟨((Fr.min (Fr.ofInt (1:Int)) (Fr.max (Fr.ofInt (0:Int)) (Fr.div (Hz a p b) (sdQ a b)))),(Fr.sub b.y a.y)),by
  rfl,by
  trivial,?_⟩
 refine ⟨(a.y,(Fr.mul (Fr.min (Fr.ofInt (1:Int)) (Fr.max (Fr.ofInt (0:Int)) (Fr.div (Hz a p b) (sdQ a b)))) (Fr.sub b.y a.y))),by
  rfl,by
  trivial,?_⟩
 refine ⟨(p,Qi a b (tQ p a b)),by
  rfl,by
  trivial,?_⟩
 refine BG ?_
 rw [hE]
def Cl:Con:={ ι:=(List V2)×Pq,pre:=λ i=>i.1.all AO=true/\0<i.1.length/\i.1.length<=16,args:=λ i=>[.one (DC.sl 44 [.int,.int] (AC i.1)),dP i.2],res:=λ i=>⟨false,[some 3],[rcB (decide ((Bi i.1 i.2).z<0)),.view 3 [.int] (L (Bi i.1 i.2).z.natAbs),.view 3 [.int] (L (Bi i.1 i.2).d)]⟩ }
theorem MI:Cl.Ok Tryz.prog 42:=by
 refine fok (X:=⟨tt,[(39,Do),(49,Ad),(82,Bu),(53,Dt),(84,Ci)],[],46,[]⟩) AH AI (CTok.cons OK (CTok.cons E5 (CTok.cons JK (CTok.cons Tw (CTok.cons L5 (CTok.nil _)))))) Tryz.func42 (λ (i:(List V2)×Pq)=>[(6,.mk 11 (Nat) (λ x1=>let Z1:=H0 i.1 i.2 (x1-1);{ tm:=[(3,tP 1 0),(4,tP 6 0),(6,tP 7 0),(7,tI (nI x1)),(5,tX 10)],en:=[(1,.box [kB (decide (i.2.x.z<0)),.ext 2,.ext 3,kB (decide (i.2.y.z<0)),.ext 4,.ext 5]),(6,.box [kB false,.im (Value.slice none 0 0),.im (Value.slice none 0 0)]),(7,.box [kB (decide (Z1.z<0)),.ext 8,.ext 9]),(2,eV (L i.2.x.z.natAbs)),(3,eV (L i.2.x.d)),(4,eV (L i.2.y.z.natAbs)),(5,eV (L i.2.y.d)),(8,.view 3 [.int] (L Z1.z.natAbs) [10]),(9,.view 3 [.int] (L Z1.d) [10]),(10,.own 29 z28 (BO i.1))] }) (λ x1=>1<=x1/\x1<=i.1.length) (λ x1=>i.1.length-x1) (λ _=>[]))]) ?_
 rintro ⟨l,p⟩ hpre
 have hpre:l.all AO=true/\0<l.length/\l.length<=16:=hpre
 refine AG (q:=let Z14:=vB (decide (p.y.z<0));let Z13:=vB (decide (p.x.z<0));let Z11:=DC.sl 44 [.int,.int] (AC l);let Z7:=Value.slice none 0 0;∃ i1:(List V2)×Pq,[DA.one Z11,dP p]=Do.args i1/\Do.pre i1/\(ifB ((decide ((LM i1.1 i1.2)≥(0:Int)))) (∃ i2:Int,[DA.one (cI (0:Int))]=Ad.args i2/\Ad.pre i2/\((eqC (Fr.ofInt i2) (Bi l p)))) (∃ i3:(List V2),let Z15:=((BO i3).length:Int);let Z4:=(BO i3).getD 0 [];let Z3:=wR ((nI ((BO i3).length))-(1:Int));let Z1:=(BO i3).getD (Z3.toNat) [];[DA.one Z11]=Bu.args i3/\Bu.pre i3/\((0<=Z3/\Z3<Z15)/\((Z3.toNat<(BO i3).length)/\((0<=(0:Int)/\(0:Int)<Z15)/\((0<(BO i3).length)/\(∃ i4:Pq×Pq×Pq,let Z8:=Fd i4.1 i4.2.1 i4.2.2;[dP p,DA.agg [cB (((Z1.getD 0 (.int 0))).b),cS (((Z1.getD 1 (.int 0))).r),cS (((Z1.getD 2 (.int 0))).r),cB (((Z1.getD 3 (.int 0))).b),cS (((Z1.getD 4 (.int 0))).r),cS (((Z1.getD 5 (.int 0))).r)],DA.agg [cB (((Z4.getD 0 (.int 0))).b),cS (((Z4.getD 1 (.int 0))).r),cS (((Z4.getD 2 (.int 0))).r),cB (((Z4.getD 3 (.int 0))).b),cS (((Z4.getD 4 (.int 0))).r),cS (((Z4.getD 5 (.int 0))).r)]]=Dt.args i4/\Dt.pre i4/\((∃ x1:Nat,let Z9:=H0 l p (x1-1);(1<=x1/\x1<=l.length)/\((vI (1:Int)=vI (nI x1))/\(rf Z13)/\(rf Z14)/\(rf (vB false))/\(rf Z7)/\(rf Z7)/\(vB (decide (Z8.z<0))=vB (decide (Z9.z<0)))/\(rf (L p.x.z.natAbs))/\(rf (L p.x.d))/\(rf (L p.y.z.natAbs))/\(rf (L p.y.d))/\(L Z8.z.natAbs=(L Z9.z.natAbs))/\(L Z8.d=(L Z9.d))/\(BO i3=(BO l))))/\∀ x1:Nat,let Z6:=wR ((nI x1)-(1:Int));let Z5:=(BO l).getD x1 [];let Z2:=(BO l).getD (Z6.toNat) [];(1<=x1/\x1<=l.length)->(ifB ((decide ((nI x1)<(nI ((BO l).length))))) ((0<=Z6/\Z6<((BO l).length:Int))/\((Z6.toNat<(BO l).length)/\((0<=(nI x1)/\(nI x1)<((BO l).length:Int))/\((x1<(BO l).length)/\(∃ i5:Pq×Pq×Pq,[dP p,DA.agg [cB (((Z2.getD 0 (.int 0))).b),cS (((Z2.getD 1 (.int 0))).r),cS (((Z2.getD 2 (.int 0))).r),cB (((Z2.getD 3 (.int 0))).b),cS (((Z2.getD 4 (.int 0))).r),cS (((Z2.getD 5 (.int 0))).r)],DA.agg [cB (((Z5.getD 0 (.int 0))).b),cS (((Z5.getD 1 (.int 0))).r),cS (((Z5.getD 2 (.int 0))).r),cB (((Z5.getD 3 (.int 0))).b),cS (((Z5.getD 4 (.int 0))).r),cS (((Z5.getD 5 (.int 0))).r)]]=Dt.args i5/\Dt.pre i5/\(∃ i6:Fr×Fr,let Z12:=Fr.min i6.1 i6.2;[dF (H0 l p (x1-1)),dF (Fd i5.1 i5.2.1 i5.2.2)]=Ci.args i6/\Ci.pre i6/\(∃ y2:Nat,let Z10:=H0 l p (y2-1);(1<=y2/\y2<=l.length)/\(l.length-y2<l.length-x1)/\((vI (wR ((nI x1)+(1:Int)))=vI (nI y2))/\(rf Z13)/\(rf Z14)/\(rf (vB false))/\(rf Z7)/\(rf Z7)/\(vB (decide (Z12.z<0))=vB (decide (Z10.z<0)))/\(rf (L p.x.z.natAbs))/\(rf (L p.x.d))/\(rf (L p.y.z.natAbs))/\(rf (L p.y.d))/\(L Z12.z.natAbs=(L Z10.z.natAbs))/\(L Z12.d=(L Z10.d))/\(rf (BO l)))))))))) ((eqC (H0 l p (x1-1)) (Bi l p))))))))))))) (by kernel_rfl) ?_
 conv=>zeta
 delta ifB vB vI wR nI
 have hvl:=AL l
 have hpl:=E6 l
 have hw:IntKind.i64.wrap ((((BO l).length:Nat):Int)-(1:Int))=((l.length-1:Nat):Int):=by rw [hpl,AA (by omega) (by omega)];omega
 refine ⟨(l,p),by
  rfl,by
  exact hpre,?_⟩
 refine ⟨λ c4=>?_,λ c4=>?_⟩
 ·try simp only [nrm] at c4
  have hE:=Ky c4
  refine ⟨(0:Int),by
   rfl,by
   trivial,?_⟩
  refine BG ?_
  rw [hE];done
 try simp only [nrm] at c4
 have hE:=OS (l:=l) (p:=p) (by omega)
 refine ⟨l,by
  rfl,by
  exact ⟨hpre.1,by omega⟩,?_⟩
 refine ao (by omega) λ o14=>?_
 refine ao (by omega) λ o15=>?_
 refine ao (by omega) λ o16=>?_
 refine ao (by omega) λ o17=>?_
 refine ⟨(p,CN l (l.length-1),CN l 0),by
  rw [hw,Int.toNat_natCast,Gc (by omega),Gc hpre.2.1];rfl,by
  trivial,?_⟩
 refine ⟨⟨1,by
  exact ⟨Nat.le_refl _,hpre.2.1⟩,?_⟩,?_⟩
 ·refine ⟨?_,rfl,rfl,rfl,rfl,rfl,?_,rfl,rfl,rfl,rfl,?_,?_,rfl⟩
  ·rfl
  ·rw [G8 hpre.2.1]
  ·rw [G8 hpre.2.1]
  rw [G8 hpre.2.1]
 intro (k:Nat) hki21
 have hki21:1<=k/\k<=l.length:=hki21
 refine And.symm ⟨λ c37=>?_,λ c37=>?_⟩
 ·try simp only [nrm] at c37
  have hkn:k=l.length:=by omega
  refine BG ?_
  rw [hE,hkn];done
 try simp only [nrm] at c37
 have hw2:IntKind.i64.wrap (((k:Nat):Int)-(1:Int))=((k-1:Nat):Int):=by rw [AA (by omega) (by omega)];omega
 refine ao (by omega) λ o38=>?_
 refine ao (by omega) λ o39=>?_
 refine ao (by omega) λ o40=>?_
 refine ao (by omega) λ o41=>?_
 refine ⟨(p,CN l (k-1),CN l k),by
  rw [hw2,Int.toNat_natCast,Gc (by omega),Gc (by omega)];rfl,by
  trivial,?_⟩
 refine ⟨((H0 l p (k-1)),(Fd p (CN l (k-1)) (CN l k))),by
  rfl,by
  trivial,?_⟩
 refine ⟨k+1,by
  exact ⟨by omega,by omega⟩,by
  omega,?_⟩
 refine ⟨?_,rfl,rfl,rfl,rfl,rfl,?_,rfl,rfl,rfl,rfl,?_,?_,rfl⟩
 ·exact Ag (AA (by omega) (by omega))
 ·rw [Im (by omega) (by omega)]
 ·rw [Im (by omega) (by omega)]
 rw [Im (by omega) (by omega)]
def EP:Con:={ ι:=(List V2)×PtD,pre:=λ i=>i.2.has,args:=λ i=>[.one (DC.sl 44 [.int,.int] (AC i.1)),DA.agg [cB i.2.x.neg,cS i.2.x.num,cS i.2.x.den,cB i.2.y.neg,cS i.2.y.num,cS i.2.y.den]],res:=λ i=>⟨false,[some 3],[rcB (decide ((spR i.1 i.2).z<0)),.own 3 [.int] (L (spR i.1 i.2).z.natAbs),.own 3 [.int] (L (spR i.1 i.2).d)]⟩ }
theorem Pi:EP.Ok Tryz.prog 14:=by
 refine fok (X:=⟨tt,[(37,CE),(34,A8),(42,Cl),(41,FU)],[],19,[]⟩) AH AI (CTok.cons Kr (CTok.cons Hu (CTok.cons MI (CTok.cons Rg (CTok.nil _))))) Tryz.func14 (λ _=>[]) ?_
 rintro ⟨l,p⟩ hpre
 have hpre:p.has:=hpre
 refine AG (q:=let Z2:=List (List Dat);let Z1:=DC.sl 44 [.int,.int] (AC l);∃ i1:(List V2),[DA.one Z1]=CE.args i1/\CE.pre i1/\(ifB ((!(!(Ai i1)))) (∃ i2:Z2,[DA.one (DC.sl 29 z28 ([[Dat.bool p.x.neg,Dat.sl p.x.num,Dat.sl p.x.den,Dat.bool p.y.neg,Dat.sl p.y.num,Dat.sl p.y.den]]:List (List Dat)))]=A8.args i2/\A8.pre i2/\(ifB ((!(!(i2.any (λ r=>!(okP (DZ r))))))) ((eqN (spR l p))) (∃ i3:(List V2)×Pq,[DA.one Z1,DA.agg [cB p.x.neg,cS p.x.num,cS p.x.den,cB p.y.neg,cS p.y.num,cS p.y.den]]=Cl.args i3/\Cl.pre i3/\(∃ i4:Bool×Z2×Z2,[dF (Bi i3.1 i3.2)]=FU.args i4/\FU.pre i4/\((vB i4.1=vB (decide ((spR l p).z<0)))/\(i4.2.1=L (spR l p).z.natAbs)/\(i4.2.2=L (spR l p).d)))))) ((eqN (spR l p))))) (by kernel_rfl) ?_
 conv=>zeta
 delta ifB vB
 have hvl:=AL l
 have hpl:=E6 l
 refine ⟨l,by
  rfl,by
  trivial,?_⟩
 refine And.symm ⟨λ c4=>?_,λ c4=>?_⟩
 ·try simp only [nrm] at c4
  have hE:=Ql (p:=p) c4
  refine A0 ?_
  rw [hE];done
 try simp only [nrm] at c4
 refine ⟨([[Dat.bool p.x.neg,Dat.sl p.x.num,Dat.sl p.x.den,Dat.bool p.y.neg,Dat.sl p.y.num,Dat.sl p.y.den]]:List (List Dat)),by
  rfl,by
  try dsimp only [A8]
  exact ⟨by show 1<=_;decide,QZ hpre⟩,?_⟩
 refine ⟨λ c8=>?_,λ c8=>?_⟩
 ·try simp only [nrm] at c8
  have c8:okP p=false:=by have h:=(Us p).symm.trans c8;simpa using h
  have hE:=Qm (l:=l) c8
  refine A0 ?_
  rw [hE];done
 try simp only [nrm] at c8
 have c8:okP p=true:=by have h:=(Us p).symm.trans c8;simpa using h
 have hE:=Mx c4 c8
 obtain ⟨e1,e2,e3,e4,e5,e6,e7,e8⟩:=Te hpre c8
 refine ⟨(l,pqR p),by
  rw [e1,e2,e3,e4,e5,e6];rfl,by
  show l.all AO=true/\0<l.length/\l.length<=16
  have:=Ks c4
  exact ⟨this.2.2,by omega,by omega⟩,?_⟩
 refine ⟨((decide ((Bi l (pqR p)).z<0)),L (Bi l (pqR p)).z.natAbs,L (Bi l (pqR p)).d),by
  rfl,by
  show (L (Bi l (pqR p)).z.natAbs).length<=1073741824/\(L (Bi l (pqR p)).d).length<=1073741824
  exact ⟨by rw [AN];have:=(Bi l (pqR p)).nlz;omega,by rw [AN];have:=(Bi l (pqR p)).nld;omega⟩,?_⟩
 refine ⟨?_,?_,?_⟩
 ·show Value.bool (decide ((Bi l (pqR p)).z<0))=Value.bool (decide ((spR l p).z<0))
  rw [hE];done
 ·show (L (Bi l (pqR p)).z.natAbs)=L (spR l p).z.natAbs
  rw [hE];done
 show (L (Bi l (pqR p)).d)=L (spR l p).d
 rw [hE];done
def dtB (l:List V2) (p:PtD) (n:Int):Bool:=decide (n≥0) && ((spR l p).good && decide (Fr.cmp (spR l p) (Fr.ofInt n)<=0))
theorem Qn {l:List V2} {p:PtD} {n:Int} (h:n<0∨(spR l p).good=false):dtB l p n=false:=by
 unfold dtB
 rcases h with h|h
 ·rw [decide_eq_false (show ¬ n≥0 by omega)];rfl
 ·rw [h];simp
theorem V4 {l:List V2} {p:PtD} {n:Int} (h:0<=n) (h2:(spR l p).good=true):dtB l p n=decide (Fr.cmp (spR l p) (Fr.ofInt n)<=0):=by
 unfold dtB;rw [decide_eq_true (show n≥0 by omega),h2];rfl
def Bz:Con:={ ι:=(List V2)×PtD×Int,pre:=λ i=>i.2.1.has/\i.2.2<=9223372036854775807,args:=λ i=>[.one (DC.sl 44 [.int,.int] (AC i.1)),DA.agg [cB i.2.1.x.neg,cS i.2.1.x.num,cS i.2.1.x.den,cB i.2.1.y.neg,cS i.2.1.y.num,cS i.2.1.y.den],.one (cI i.2.2)],res:=λ i=>⟨false,[none],[rcB (dtB i.1 i.2.1 i.2.2)]⟩ }
theorem Tx:Bz.Ok Tryz.prog 16:=by
 refine fok (X:=⟨tt,[(37,CE),(34,A8),(42,Cl),(47,AK),(49,Ad),(48,A2)],[],33,[]⟩) AH AI (CTok.cons Kr (CTok.cons Hu (CTok.cons MI (CTok.cons Cr (CTok.cons E5 (CTok.cons GY (CTok.nil _))))))) Tryz.func16 (λ _=>[]) ?_
 rintro ⟨l,p,n⟩ hpre
 have hpre:p.has/\n<=9223372036854775807:=hpre
 refine AG (q:=let Z2:=DC.sl 44 [.int,.int] (AC l);let Z1:=(vB false=vB (dtB l p n));∃ i1:(List V2),[DA.one Z2]=CE.args i1/\CE.pre i1/\(ifB ((!(!(Ai i1)))) (∃ i2:(List (List Dat)),[DA.one (DC.sl 29 z28 ([[Dat.bool p.x.neg,Dat.sl p.x.num,Dat.sl p.x.den,Dat.bool p.y.neg,Dat.sl p.y.num,Dat.sl p.y.den]]:List (List Dat)))]=A8.args i2/\A8.pre i2/\(ifB ((!(!(!(i2.any (λ r=>!(okP (DZ r)))))))) (ifB ((decide (n<(0:Int)))) Z1 (∃ i3:(List V2)×Pq,[DA.one Z2,DA.agg [cB p.x.neg,cS p.x.num,cS p.x.den,cB p.y.neg,cS p.y.num,cS p.y.den]]=Cl.args i3/\Cl.pre i3/\(∃ i4:Fr,[dF (Bi i3.1 i3.2)]=AK.args i4/\AK.pre i4/\(ifB (i4.good) (∃ i5:Int,[DA.one (cI n)]=Ad.args i5/\Ad.pre i5/\(∃ i6:Fr×Fr,[dF (Bi i3.1 i3.2),dF (Fr.ofInt i5)]=A2.args i6/\A2.pre i6/\((vB (decide ((Fr.cmp i6.1 i6.2)<=(0:Int)))=vB (dtB l p n))))) Z1)))) Z1)) Z1)) (by kernel_rfl) ?_
 conv=>zeta
 delta ifB vB
 have hvl:=AL l
 have hpl:=E6 l
 refine ⟨l,by
  rfl,by
  trivial,?_⟩
 refine And.symm ⟨λ c4=>?_,λ c4=>?_⟩
 ·try simp only [nrm] at c4
  have hE:dtB l p n=false:=Qn (.inr (by rw [Ql c4];rfl))
  rw [hE]
 try simp only [nrm] at c4
 refine ⟨([[Dat.bool p.x.neg,Dat.sl p.x.num,Dat.sl p.x.den,Dat.bool p.y.neg,Dat.sl p.y.num,Dat.sl p.y.den]]:List (List Dat)),by
  rfl,by
  try dsimp only [A8]
  exact ⟨by show 1<=_;decide,QZ hpre.1⟩,?_⟩
 refine And.symm ⟨λ c8=>?_,λ c8=>?_⟩
 ·try simp only [nrm] at c8
  have c8:okP p=false:=by have h:=(Us p).symm.trans c8;simpa using h
  have hE:dtB l p n=false:=Qn (.inr (by rw [Qm c8];rfl))
  rw [hE]
 try simp only [nrm] at c8
 have c8:okP p=true:=by have h:=(Us p).symm.trans c8;simpa using h
 have hS:=Mx c4 c8
 obtain ⟨e1,e2,e3,e4,e5,e6,e7,e8⟩:=Te hpre.1 c8
 refine ⟨λ c9=>?_,λ c9=>?_⟩
 ·try simp only [nrm] at c9
  have hE:dtB l p n=false:=Qn (.inl c9)
  rw [hE]
 try simp only [nrm] at c9
 refine ⟨(l,pqR p),by
  rw [e1,e2,e3,e4,e5,e6];rfl,by
  show l.all AO=true/\0<l.length/\l.length<=16
  have:=Ks c4
  exact ⟨this.2.2,by omega,by omega⟩,?_⟩
 refine ⟨(Bi l (pqR p)),by
  rfl,by
  trivial,?_⟩
 refine And.symm ⟨λ c17=>?_,λ c17=>?_⟩
 ·try simp only [nrm] at c17
  have hE:dtB l p n=false:=Qn (.inr (by rw [hS];exact c17))
  rw [hE]
 try simp only [nrm] at c17
 have hE:=V4 (l:=l) (p:=p) c9 (by rw [hS];exact c17)
 rw [hS] at hE
 refine ⟨n,by
  rfl,by
  exact ⟨by omega,hpre.2⟩,?_⟩
 refine ⟨((Bi l (pqR p)),(Fr.ofInt n)),by
  rfl,by
  trivial,?_⟩
 rw [hE]
end Go.Proofs.YtndnhlhnjiopfaaGreat
