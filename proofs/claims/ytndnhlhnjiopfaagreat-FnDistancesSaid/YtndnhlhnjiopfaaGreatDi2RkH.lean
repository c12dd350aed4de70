import Derived.Test.YtndnhlhnjiopfaaGreatDi2RkG
import Derived.Test.YtndnhlhnjiopfaaGreatDi2Num4
namespace Go.Proofs.YtndnhlhnjiopfaaGreat
set_option maxRecDepth 100000
set_option linter.unusedVariables false
set_option linter.unusedSimpArgs false
open Go.RowKit
theorem ZR {a b:Int} (h1:decide (a<0)=decide (b<0)) (h2:a.natAbs=b.natAbs):a=b:=by rw [← Bd a,← Bd b,h1,h2]
def fQ (l:List V2) (p:Pq) (k:Nat):Fr:=BL p (By l k) (By l ((k+1)%l.length))
def Iv (l:List V2) (p:Pq):Nat->Fr
 | 0=>fQ l p (l.length-1)
 | k+1=>Fr.min (Iv l p k) (fQ l p k)
def A7 (l:List V2) (p:Pq):Fr:=if FU l p≥0 then Fr.ofInt 0 else Iv l p (l.length-1)
theorem IH {l:List V2} {p:Pq} (h:0<l.length):BL p (By l (l.length-1)) (By l 0)=Iv l p 0:=by
 show _=BL p (By l (l.length-1)) (By l ((l.length-1+1)%l.length))
 rw [Nat.sub_add_cancel h,Nat.mod_self]
theorem Jm {l:List V2} {p:Pq} {k:Nat} (h1:1<=k) (h2:k<l.length):Fr.min (Iv l p (k-1)) (BL p (By l (k-1)) (By l k))=Iv l p (k+1-1):=by
 obtain ⟨m,rfl⟩:∃ m,k=m+1:=⟨k-1,by omega⟩
 show _=Fr.min (Iv l p m) (BL p (By l m) (By l ((m+1)%l.length)))
 rw [Nat.mod_eq_of_lt h2];rfl
theorem Pw {l:List V2} {p:Pq} (h:FU l p≥0):A7 l p=Fr.ofInt 0:=by unfold A7;rw [if_pos h]
theorem Px {l:List V2} {p:Pq} (h:¬ FU l p≥0):A7 l p=Iv l p (l.length-1):=by unfold A7;rw [if_neg h]
def spR (l:List V2) (p:PtD):Fr:=if AU l=true/\okP p=true then A7 l (pqR p) else Fr.none
theorem Wv {l:List V2} {p:PtD} (h:AU l=false):spR l p=Fr.none:=by unfold spR;rw [if_neg (by rw [h];simp)]
theorem Ww {l:List V2} {p:PtD} (h:okP p=false):spR l p=Fr.none:=by unfold spR;rw [if_neg (by rw [h];simp)]
theorem SZ {l:List V2} {p:PtD} (h:AU l=true) (h2:okP p=true):spR l p=A7 l (pqR p):=by unfold spR;rw [if_pos ⟨h,h2⟩]
def Dq:Con:={ ι:=Nat×Nat,pre:=λ i=>nl i.1<=1048576/\nl i.2<=1048576,args:=λ i=>[.one (cS (L i.1)),.one (cS (L i.2))],mono:=true,res:=λ i=>⟨false,[none],[rcB (decide (i.1=i.2))]⟩ }
theorem To:Dq.Ok Tryz.prog 55:=by
 refine fok (X:=⟨tt,[],[],26,[]⟩) AG AH (CTok.nil _) Tryz.func55 (λ (i:Nat×Nat)=>[(4,.mk 3 (Nat) (λ x1=>{ tm:=[(0,tX 1),(1,tX 2),(12,tI (nI ((L i.1).length))),(13,tI (nI x1))],en:=[(1,eV (L i.1)),(2,eV (L i.2))] }) (λ x1=>x1<=nl i.1/\nl i.1=nl i.2/\AJ x1 i.1=AJ x1 i.2) (λ x1=>nl i.1-x1) (λ _=>[]))]) ?_
 rintro ⟨a,b⟩ hpre
 have hpre:nl a<=1048576/\nl b<=1048576:=hpre
 refine AF (q:=let Z2:=(vB false=vB (decide (a=b)));let Z1:=nI ((L a).length);ifB ((Z1 != (nI ((L b).length)))) Z2 ((∃ x1:Nat,(x1<=nl a/\nl a=nl b/\AJ x1 a=AJ x1 b)/\((rf (vI Z1))/\(vI (0:Int)=vI (nI x1))/\(rf (L a))/\(rf (L b))))/\∀ x1:Nat,(x1<=nl a/\nl a=nl b/\AJ x1 a=AJ x1 b)->(ifB ((decide ((nI x1)<Z1))) ((0<=(nI x1)/\(nI x1)<((L a).length:Int))/\((x1<(L a).length)/\((0<=(nI x1)/\(nI x1)<((L b).length:Int))/\((x1<(L b).length)/\(ifB ((((((L a).getD x1 []).getD 0 (.int 0))).n != ((((L b).getD x1 []).getD 0 (.int 0))).n)) Z2 (∃ y2:Nat,(y2<=nl a/\nl a=nl b/\AJ y2 a=AJ y2 b)/\(nl a-y2<nl a-x1)/\((rf (vI Z1))/\(vI (wR ((nI x1)+(1:Int)))=vI (nI y2))/\(rf (L a))/\(rf (L b))))))))) ((vB true=vB (decide (a=b))))))) (by kernel_rfl) ?_
 conv=>zeta
 delta ifB vB vI wR nI
 have ha:=AL a
 have hb:=AL b
 refine ⟨λ c1=>?_,λ c1=>?_⟩
 ·try simp only [nrm] at c1
  exact congrArg Value.bool (decide_eq_false (λ e=>by subst e;omega)).symm
 try simp only [nrm] at c1
 refine ⟨⟨0,by
  exact ⟨Nat.zero_le _,by omega,rfl⟩,?_⟩,?_⟩
 ·refine ⟨rfl,?_,rfl,rfl⟩
  rfl
 intro (k:Nat) hki3
 have hki3:k<=nl a/\nl a=nl b/\AJ k a=AJ k b:=hki3
 refine And.symm ⟨λ c9=>?_,λ c9=>?_⟩
 ·try simp only [nrm] at c9
  exact congrArg Value.bool (decide_eq_true (Tn hki3.2.1 (by have:=hki3.2.2;rwa [show k=nl a by omega] at this))).symm
 try simp only [nrm] at c9
 refine ao (by omega) λ o10=>?_
 refine ao (by omega) λ o11=>?_
 refine ao (by omega) λ o12=>?_
 refine ao (by omega) λ o13=>?_
 refine ⟨λ c14=>?_,λ c14=>?_⟩
 ·try simp only [nrm] at c14
  rw [L_n,L_n] at c14
  exact congrArg Value.bool (decide_eq_false (λ e=>c14 (by rw [e]))).symm
 try simp only [nrm] at c14
 rw [L_n,L_n] at c14
 refine ⟨k+1,by
  exact ⟨by omega,hki3.2.1,by rw [Aj,Aj,hki3.2.2,show dgt a k=dgt b k by omega]⟩,by
  omega,?_⟩
 refine ⟨rfl,?_,rfl,rfl⟩
 exact Am (AB (by omega) (by omega))
def BY:Con:={ ι:=Fr×Fr,pre:=λ i=>True,args:=λ i=>[dF i.1,dF i.2],mono:=true,res:=λ i=>⟨false,[none],[rcB (eqF i.1 i.2)]⟩ }
theorem KO:BY.Ok Tryz.prog 24:=by
 refine fok (X:=⟨tt,[(55,Dq)],[],28,[]⟩) AG AH (CTok.cons To (CTok.nil _)) Tryz.func24 (λ _=>[]) ?_
 rintro ⟨r,s⟩ hpre
 have hpre:True:=hpre
 refine AF (q:=let Z1:=(vB false=vB (eqF r s));ifB (((decide (r.z<0)) == (decide (s.z<0)))) (∃ i1:Nat×Nat,[DA.one (cS (L r.z.natAbs)),DA.one (cS (L s.z.natAbs))]=Dq.args i1/\Dq.pre i1/\(ifB ((decide (i1.1=i1.2))) (∃ i2:Nat×Nat,[DA.one (cS (L r.d)),DA.one (cS (L s.d))]=Dq.args i2/\Dq.pre i2/\((vB (decide (i2.1=i2.2))=vB (eqF r s)))) Z1)) Z1) (by kernel_rfl) ?_
 conv=>zeta
 delta ifB vB
 have h1:=r.nlz
 have h2:=r.nld
 have h3:=s.nlz
 have h4:=s.nld
 refine And.symm ⟨λ c1=>?_,λ c1=>?_⟩
 ·try simp only [nrm] at c1
  exact congrArg Value.bool (by unfold eqF;rw [decide_eq_false (λ e=>c1 (by rw [e]))];rfl)
 try simp only [nrm] at c1
 refine ⟨(r.z.natAbs,s.z.natAbs),by
  rfl,by
  show nl r.z.natAbs<=1048576/\nl s.z.natAbs<=1048576
  exact ⟨by omega,by omega⟩,?_⟩
 refine And.symm ⟨λ c5=>?_,λ c5=>?_⟩
 ·try simp only [nrm] at c5
  exact congrArg Value.bool (by unfold eqF;rw [decide_eq_false (λ e=>c5 (by rw [e]))];rfl)
 try simp only [nrm] at c5
 refine ⟨(r.d,s.d),by
  rfl,by
  show nl r.d<=1048576/\nl s.d<=1048576
  exact ⟨by omega,by omega⟩,?_⟩
 exact congrArg Value.bool (by unfold eqF;rw [decide_eq_true (ZR c1 c5)];rfl)
def D6:Con:={ ι:=Pq×Pq,pre:=λ i=>True,args:=λ i=>[dP i.1,dP i.2],res:=λ i=>⟨false,[none],[rcB (eqP i.1 i.2)]⟩ }
theorem OD:D6.Ok Tryz.prog 92:=by
 refine fok (X:=⟨tt,[(24,BY)],[],17,[]⟩) AG AH (CTok.cons KO (CTok.nil _)) Tryz.func92 (λ _=>[]) ?_
 rintro ⟨p,q⟩ hpre
 have hpre:True:=hpre
 refine AF (q:=∃ i1:Fr×Fr,[dF p.x,dF q.x]=BY.args i1/\BY.pre i1/\(ifB ((eqF i1.1 i1.2)) (∃ i2:Fr×Fr,[dF p.y,dF q.y]=BY.args i2/\BY.pre i2/\((vB (eqF i2.1 i2.2)=vB (eqP p q)))) ((vB false=vB (eqP p q))))) (by kernel_rfl) ?_
 delta ifB vB
 refine ⟨(p.x,q.x),by
  rfl,by
  trivial,?_⟩
 refine And.symm ⟨λ c4=>?_,λ c4=>?_⟩
 ·try simp only [nrm] at c4
  exact congrArg Value.bool (by unfold eqP;rw [c4];rfl)
 try simp only [nrm] at c4
 refine ⟨(p.y,q.y),by
  rfl,by
  trivial,?_⟩
 exact congrArg Value.bool (by unfold eqP;rw [c4];rfl)
def Bg:Con:={ ι:=Pq×Pq,pre:=λ i=>True,args:=λ i=>[dP i.1,dP i.2],res:=λ i=>⟨false,[some 3],[rcB (decide ((sdQ i.1 i.2).z<0)),.own 3 [.int] (L (sdQ i.1 i.2).z.natAbs),.own 3 [.int] (L (sdQ i.1 i.2).d)]⟩ }
theorem NV:Bg.Ok Tryz.prog 54:=by
 refine fok (X:=⟨tt,[(96,AR),(95,AW),(77,Ak)],[],24,[]⟩) AG AH (CTok.cons Hi (CTok.cons Fw (CTok.cons Fu (CTok.nil _)))) Tryz.func54 (λ _=>[]) ?_
 rintro ⟨p,q⟩ hpre
 have hpre:True:=hpre
 refine AF (q:=∃ i1:Fr×Fr,[dF p.x,dF q.x]=AR.args i1/\AR.pre i1/\(∃ i2:Fr×Fr,[dF p.y,dF q.y]=AR.args i2/\AR.pre i2/\(∃ i3:Fr×Fr,[dF (Fr.sub i1.1 i1.2),dF (Fr.sub i1.1 i1.2)]=AW.args i3/\AW.pre i3/\(∃ i4:Fr×Fr,[dF (Fr.sub i2.1 i2.2),dF (Fr.sub i2.1 i2.2)]=AW.args i4/\AW.pre i4/\(∃ i5:Fr×Fr,[dF (Fr.mul i3.1 i3.2),dF (Fr.mul i4.1 i4.2)]=Ak.args i5/\Ak.pre i5/\((eqC (Fr.add i5.1 i5.2) (sdQ p q)))))))) (by kernel_rfl) ?_
 refine ⟨(p.x,q.x),by
  rfl,by
  trivial,?_⟩
 refine ⟨(p.y,q.y),by
  rfl,by
  trivial,?_⟩
 refine ⟨((Fr.sub p.x q.x),(Fr.sub p.x q.x)),by
  rfl,by
  trivial,?_⟩
 refine ⟨((Fr.sub p.y q.y),(Fr.sub p.y q.y)),by
  rfl,by
  trivial,?_⟩
 refine ⟨((Fr.mul (Fr.sub p.x q.x) (Fr.sub p.x q.x)),(Fr.mul (Fr.sub p.y q.y) (Fr.sub p.y q.y))),by
  rfl,by
  trivial,?_⟩
 refine A6 ?_
 rfl
def Dr:Con:={ ι:=Pq×Pq×Pq,pre:=λ i=>True,args:=λ i=>[dP i.1,dP i.2.1,dP i.2.2],res:=λ i=>⟨false,[some 3],[rcB (decide ((Cq i.1 i.2.1 i.2.2).z<0)),.own 3 [.int] (L (Cq i.1 i.2.1 i.2.2).z.natAbs),.own 3 [.int] (L (Cq i.1 i.2.1 i.2.2).d)]⟩ }
theorem Py:Dr.Ok Tryz.prog 56:=by
 refine fok (X:=⟨tt,[(96,AR),(95,AW),(77,Ak)],[],30,[]⟩) AG AH (CTok.cons Hi (CTok.cons Fw (CTok.cons Fu (CTok.nil _)))) Tryz.func56 (λ _=>[]) ?_
 rintro ⟨a,b,c⟩ hpre
 have hpre:True:=hpre
 refine AF (q:=∃ i1:Fr×Fr,[dF b.x,dF a.x]=AR.args i1/\AR.pre i1/\(∃ i2:Fr×Fr,[dF c.x,dF a.x]=AR.args i2/\AR.pre i2/\(∃ i3:Fr×Fr,[dF (Fr.sub i1.1 i1.2),dF (Fr.sub i2.1 i2.2)]=AW.args i3/\AW.pre i3/\(∃ i4:Fr×Fr,[dF b.y,dF a.y]=AR.args i4/\AR.pre i4/\(∃ i5:Fr×Fr,[dF c.y,dF a.y]=AR.args i5/\AR.pre i5/\(∃ i6:Fr×Fr,[dF (Fr.sub i4.1 i4.2),dF (Fr.sub i5.1 i5.2)]=AW.args i6/\AW.pre i6/\(∃ i7:Fr×Fr,[dF (Fr.mul i3.1 i3.2),dF (Fr.mul i6.1 i6.2)]=Ak.args i7/\Ak.pre i7/\((eqC (Fr.add i7.1 i7.2) (Cq a b c)))))))))) (by kernel_rfl) ?_
 refine ⟨(b.x,a.x),by
  rfl,by
  trivial,?_⟩
 refine ⟨(c.x,a.x),by
  rfl,by
  trivial,?_⟩
 refine ⟨((Fr.sub b.x a.x),(Fr.sub c.x a.x)),by
  rfl,by
  trivial,?_⟩
 refine ⟨(b.y,a.y),by
  rfl,by
  trivial,?_⟩
 refine ⟨(c.y,a.y),by
  rfl,by
  trivial,?_⟩
 refine ⟨((Fr.sub b.y a.y),(Fr.sub c.y a.y)),by
  rfl,by
  trivial,?_⟩
 refine ⟨((Fr.mul (Fr.sub b.x a.x) (Fr.sub c.x a.x)),(Fr.mul (Fr.sub b.y a.y) (Fr.sub c.y a.y))),by
  rfl,by
  trivial,?_⟩
 refine A6 ?_
 rfl
def Bp:Con:={ ι:=Pq×Pq×Pq,pre:=λ i=>True,args:=λ i=>[dP i.1,dP i.2.1,dP i.2.2],res:=λ i=>⟨false,[some 3],[rcB (decide ((BL i.1 i.2.1 i.2.2).z<0)),.view 3 [.int] (L (BL i.1 i.2.1 i.2.2).z.natAbs),.view 3 [.int] (L (BL i.1 i.2.1 i.2.2).d)]⟩ }
theorem MA:Bp.Ok Tryz.prog 53:=by
 refine fok (X:=⟨tt,[(92,D6),(54,Bg),(56,Dr),(93,GN),(49,Ay),(94,DD),(84,BC),(96,AR),(95,AW),(77,Ak)],[],52,[]⟩) AG AH (CTok.cons OD (CTok.cons NV (CTok.cons Py (CTok.cons TV (CTok.cons Hh (CTok.cons NG (CTok.cons Hk (CTok.cons Hi (CTok.cons Fw (CTok.cons Fu (CTok.nil _))))))))))) Tryz.func53 (λ _=>[]) ?_
 rintro ⟨p,a,b⟩ hpre
 have hpre:True:=hpre
 refine AF (q:=∃ i1:Pq×Pq,[dP a,dP b]=D6.args i1/\D6.pre i1/\(ifB ((eqP i1.1 i1.2)) (∃ i2:Pq×Pq,[dP p,dP a]=Bg.args i2/\Bg.pre i2/\((eqC (sdQ i2.1 i2.2) (BL p a b)))) (∃ i3:Pq×Pq×Pq,[dP a,dP p,dP b]=Dr.args i3/\Dr.pre i3/\(∃ i4:Pq×Pq,[dP a,dP b]=Bg.args i4/\Bg.pre i4/\(∃ i5:Fr×Fr,[dF (Cq i3.1 i3.2.1 i3.2.2),dF (sdQ i4.1 i4.2)]=GN.args i5/\GN.pre i5/\(∃ i6:Int,[DA.one (cI (1:Int))]=Ay.args i6/\Ay.pre i6/\(∃ i7:Int,[DA.one (cI (0:Int))]=Ay.args i7/\Ay.pre i7/\(∃ i8:Fr×Fr,[dF (Fr.ofInt i7),dF (Fr.div i5.1 i5.2)]=DD.args i8/\DD.pre i8/\(∃ i9:Fr×Fr,[dF (Fr.ofInt i6),dF (Fr.max i8.1 i8.2)]=BC.args i9/\BC.pre i9/\(∃ i10:Fr×Fr,[dF b.x,dF a.x]=AR.args i10/\AR.pre i10/\(∃ i11:Fr×Fr,[dF (Fr.min i9.1 i9.2),dF (Fr.sub i10.1 i10.2)]=AW.args i11/\AW.pre i11/\(∃ i12:Fr×Fr,let Z1:=Fr.add i12.1 i12.2;[dF a.x,dF (Fr.mul i11.1 i11.2)]=Ak.args i12/\Ak.pre i12/\(∃ i13:Fr×Fr,[dF b.y,dF a.y]=AR.args i13/\AR.pre i13/\(∃ i14:Fr×Fr,[dF (Fr.min i9.1 i9.2),dF (Fr.sub i13.1 i13.2)]=AW.args i14/\AW.pre i14/\(∃ i15:Fr×Fr,let Z2:=Fr.add i15.1 i15.2;[dF a.y,dF (Fr.mul i14.1 i14.2)]=Ak.args i15/\Ak.pre i15/\(∃ i16:Pq×Pq,[dP p,DA.agg [cB (decide (Z1.z<0)),cS (L Z1.z.natAbs),cS (L Z1.d),cB (decide (Z2.z<0)),cS (L Z2.z.natAbs),cS (L Z2.d)]]=Bg.args i16/\Bg.pre i16/\((eqC (sdQ i16.1 i16.2) (BL p a b))))))))))))))))))) (by kernel_rfl) ?_
 conv=>zeta
 delta ifB
 refine ⟨(a,b),by
  rfl,by
  trivial,?_⟩
 refine ⟨λ c4=>?_,λ c4=>?_⟩
 ·try simp only [nrm] at c4
  have hE:BL p a b=sdQ p a:=by unfold BL;rw [if_pos c4]
  refine ⟨(p,a),by
   rfl,by
   trivial,?_⟩
  refine A6 ?_
  rw [hE]
 try simp only [nrm] at c4
 have hE:BL p a b=sdQ p (SX a b (tQ p a b)):=by unfold BL;rw [if_neg (by rw [c4];simp)]
 refine ⟨(a,p,b),by
  rfl,by
  trivial,?_⟩
 refine ⟨(a,b),by
  rfl,by
  trivial,?_⟩
 refine ⟨((Cq a p b),(sdQ a b)),by
  rfl,by
  trivial,?_⟩
 refine ⟨(1:Int),by
  rfl,by
  trivial,?_⟩
 refine ⟨(0:Int),by
  rfl,by
  trivial,?_⟩
 refine ⟨((Fr.ofInt (0:Int)),(Fr.div (Cq a p b) (sdQ a b))),by
  rfl,by
  trivial,?_⟩
 refine ⟨((Fr.ofInt (1:Int)),(Fr.max (Fr.ofInt (0:Int)) (Fr.div (Cq a p b) (sdQ a b)))),by
  rfl,by
  trivial,?_⟩
 refine ⟨(b.x,a.x),by
  rfl,by
  trivial,?_⟩
 refine ⟨((Fr.min (Fr.ofInt (1:Int)) (Fr.max (Fr.ofInt (0:Int)) (Fr.div (Cq a p b) (sdQ a b)))),(Fr.sub b.x a.x)),by
  rfl,by
  trivial,?_⟩
 refine ⟨(a.x,(Fr.mul (Fr.min (Fr.ofInt (1:Int)) (Fr.max (Fr.ofInt (0:Int)) (Fr.div (Cq a p b) (sdQ a b)))) (Fr.sub b.x a.x))),by
  rfl,by
  trivial,?_⟩
 refine ⟨(b.y,a.y),by
  rfl,by
  trivial,?_⟩
 refine ⟨((Fr.min (Fr.ofInt (1:Int)) (Fr.max (Fr.ofInt (0:Int)) (Fr.div (Cq a p b) (sdQ a b)))),(Fr.sub b.y a.y)),by
  rfl,by
  trivial,?_⟩
 refine ⟨(a.y,(Fr.mul (Fr.min (Fr.ofInt (1:Int)) (Fr.max (Fr.ofInt (0:Int)) (Fr.div (Cq a p b) (sdQ a b)))) (Fr.sub b.y a.y))),by
  rfl,by
  trivial,?_⟩
 refine ⟨(p,SX a b (tQ p a b)),by
  rfl,by
  trivial,?_⟩
 refine A6 ?_
 rw [hE]
def CR:Con:={ ι:=(List V2)×Pq,pre:=λ i=>i.1.all AQ=true/\0<i.1.length/\i.1.length<=16,args:=λ i=>[.one (DC.sl 44 [.int,.int] (AC i.1)),dP i.2],res:=λ i=>⟨false,[some 3],[rcB (decide ((A7 i.1 i.2).z<0)),.view 3 [.int] (L (A7 i.1 i.2).z.natAbs),.view 3 [.int] (L (A7 i.1 i.2).d)]⟩ }
theorem NW:CR.Ok Tryz.prog 42:=by
 refine fok (X:=⟨tt,[(39,A9),(49,Ay),(82,A2),(53,Bp),(84,BC)],[],46,[]⟩) AG AH (CTok.cons G4 (CTok.cons Hh (CTok.cons FC (CTok.cons MA (CTok.cons Hk (CTok.nil _)))))) Tryz.func42 (λ (i:(List V2)×Pq)=>[(6,.mk 11 (Nat) (λ x1=>let Z1:=Iv i.1 i.2 (x1-1);{ tm:=[(3,tP 1 0),(4,tP 6 0),(6,tP 7 0),(7,tI (nI x1)),(5,tX 10)],en:=[(1,.box [kB (decide (i.2.x.z<0)),.ext 2,.ext 3,kB (decide (i.2.y.z<0)),.ext 4,.ext 5]),(6,.box [kB false,.im (Value.slice none 0 0),.im (Value.slice none 0 0)]),(7,.box [kB (decide (Z1.z<0)),.ext 8,.ext 9]),(2,eV (L i.2.x.z.natAbs)),(3,eV (L i.2.x.d)),(4,eV (L i.2.y.z.natAbs)),(5,eV (L i.2.y.d)),(8,.view 3 [.int] (L Z1.z.natAbs) [10]),(9,.view 3 [.int] (L Z1.d) [10]),(10,.own 29 z28 (Au i.1))] }) (λ x1=>1<=x1/\x1<=i.1.length) (λ x1=>i.1.length-x1) (λ _=>[]))]) ?_
 rintro ⟨l,p⟩ hpre
 have hpre:l.all AQ=true/\0<l.length/\l.length<=16:=hpre
 refine AF (q:=let Z14:=vB (decide (p.y.z<0));let Z13:=vB (decide (p.x.z<0));let Z11:=DC.sl 44 [.int,.int] (AC l);let Z7:=Value.slice none 0 0;∃ i1:(List V2)×Pq,[DA.one Z11,dP p]=A9.args i1/\A9.pre i1/\(ifB ((decide ((FU i1.1 i1.2)≥(0:Int)))) (∃ i2:Int,[DA.one (cI (0:Int))]=Ay.args i2/\Ay.pre i2/\((eqC (Fr.ofInt i2) (A7 l p)))) (∃ i3:(List V2),let Z15:=((Au i3).length:Int);let Z4:=(Au i3).getD 0 [];let Z3:=wR ((nI ((Au i3).length))-(1:Int));let Z1:=(Au i3).getD (Z3.toNat) [];[DA.one Z11]=A2.args i3/\A2.pre i3/\((0<=Z3/\Z3<Z15)/\((Z3.toNat<(Au i3).length)/\((0<=(0:Int)/\(0:Int)<Z15)/\((0<(Au i3).length)/\(∃ i4:Pq×Pq×Pq,let Z8:=BL i4.1 i4.2.1 i4.2.2;[dP p,DA.agg [cB (((Z1.getD 0 (.int 0))).b),cS (((Z1.getD 1 (.int 0))).r),cS (((Z1.getD 2 (.int 0))).r),cB (((Z1.getD 3 (.int 0))).b),cS (((Z1.getD 4 (.int 0))).r),cS (((Z1.getD 5 (.int 0))).r)],DA.agg [cB (((Z4.getD 0 (.int 0))).b),cS (((Z4.getD 1 (.int 0))).r),cS (((Z4.getD 2 (.int 0))).r),cB (((Z4.getD 3 (.int 0))).b),cS (((Z4.getD 4 (.int 0))).r),cS (((Z4.getD 5 (.int 0))).r)]]=Bp.args i4/\Bp.pre i4/\((∃ x1:Nat,let Z9:=Iv l p (x1-1);(1<=x1/\x1<=l.length)/\((vI (1:Int)=vI (nI x1))/\(rf Z13)/\(rf Z14)/\(rf (vB false))/\(rf Z7)/\(rf Z7)/\(vB (decide (Z8.z<0))=vB (decide (Z9.z<0)))/\(rf (L p.x.z.natAbs))/\(rf (L p.x.d))/\(rf (L p.y.z.natAbs))/\(rf (L p.y.d))/\(L Z8.z.natAbs=(L Z9.z.natAbs))/\(L Z8.d=(L Z9.d))/\(Au i3=(Au l))))/\∀ x1:Nat,let Z6:=wR ((nI x1)-(1:Int));let Z5:=(Au l).getD x1 [];let Z2:=(Au l).getD (Z6.toNat) [];(1<=x1/\x1<=l.length)->(ifB ((decide ((nI x1)<(nI ((Au l).length))))) ((0<=Z6/\Z6<((Au l).length:Int))/\((Z6.toNat<(Au l).length)/\((0<=(nI x1)/\(nI x1)<((Au l).length:Int))/\((x1<(Au l).length)/\(∃ i5:Pq×Pq×Pq,[dP p,DA.agg [cB (((Z2.getD 0 (.int 0))).b),cS (((Z2.getD 1 (.int 0))).r),cS (((Z2.getD 2 (.int 0))).r),cB (((Z2.getD 3 (.int 0))).b),cS (((Z2.getD 4 (.int 0))).r),cS (((Z2.getD 5 (.int 0))).r)],DA.agg [cB (((Z5.getD 0 (.int 0))).b),cS (((Z5.getD 1 (.int 0))).r),cS (((Z5.getD 2 (.int 0))).r),cB (((Z5.getD 3 (.int 0))).b),cS (((Z5.getD 4 (.int 0))).r),cS (((Z5.getD 5 (.int 0))).r)]]=Bp.args i5/\Bp.pre i5/\(∃ i6:Fr×Fr,let Z12:=Fr.min i6.1 i6.2;[dF (Iv l p (x1-1)),dF (BL i5.1 i5.2.1 i5.2.2)]=BC.args i6/\BC.pre i6/\(∃ y2:Nat,let Z10:=Iv l p (y2-1);(1<=y2/\y2<=l.length)/\(l.length-y2<l.length-x1)/\((vI (wR ((nI x1)+(1:Int)))=vI (nI y2))/\(rf Z13)/\(rf Z14)/\(rf (vB false))/\(rf Z7)/\(rf Z7)/\(vB (decide (Z12.z<0))=vB (decide (Z10.z<0)))/\(rf (L p.x.z.natAbs))/\(rf (L p.x.d))/\(rf (L p.y.z.natAbs))/\(rf (L p.y.d))/\(L Z12.z.natAbs=(L Z10.z.natAbs))/\(L Z12.d=(L Z10.d))/\(rf (Au l)))))))))) ((eqC (Iv l p (x1-1)) (A7 l p))))))))))))) (by kernel_rfl) ?_
 conv=>zeta
 delta ifB vB vI wR nI
 have hvl:=AI l
 have hpl:=C1 l
 have hw:IntKind.i64.wrap ((((Au l).length:Nat):Int)-(1:Int))=((l.length-1:Nat):Int):=by rw [hpl,AB (by omega) (by omega)];omega
 refine ⟨(l,p),by
  rfl,by
  exact hpre,?_⟩
 refine ⟨λ c4=>?_,λ c4=>?_⟩
 ·try simp only [nrm] at c4
  have hE:=Pw c4
  refine ⟨(0:Int),by
   rfl,by
   trivial,?_⟩
  refine A6 ?_
  rw [hE];done
 try simp only [nrm] at c4
 have hE:=Px (l:=l) (p:=p) (by omega)
 refine ⟨l,by
  rfl,by
  exact ⟨hpre.1,by omega⟩,?_⟩
 refine ao (by omega) λ o14=>?_
 refine ao (by omega) λ o15=>?_
 refine ao (by omega) λ o16=>?_
 refine ao (by omega) λ o17=>?_
 refine ⟨(p,By l (l.length-1),By l 0),by
  rw [hw,Int.toNat_natCast,EU (by omega),EU hpre.2.1];rfl,by
  trivial,?_⟩
 refine ⟨⟨1,by
  exact ⟨Nat.le_refl _,hpre.2.1⟩,?_⟩,?_⟩
 ·refine ⟨?_,rfl,rfl,rfl,rfl,rfl,?_,rfl,rfl,rfl,rfl,?_,?_,rfl⟩
  ·rfl
  ·rw [IH hpre.2.1]
  ·rw [IH hpre.2.1]
  rw [IH hpre.2.1]
 intro (k:Nat) hki21
 have hki21:1<=k/\k<=l.length:=hki21
 refine And.symm ⟨λ c37=>?_,λ c37=>?_⟩
 ·try simp only [nrm] at c37
  have hkn:k=l.length:=by omega
  refine A6 ?_
  rw [hE,hkn];done
 try simp only [nrm] at c37
 have hw2:IntKind.i64.wrap (((k:Nat):Int)-(1:Int))=((k-1:Nat):Int):=by rw [AB (by omega) (by omega)];omega
 refine ao (by omega) λ o38=>?_
 refine ao (by omega) λ o39=>?_
 refine ao (by omega) λ o40=>?_
 refine ao (by omega) λ o41=>?_
 refine ⟨(p,By l (k-1),By l k),by
  rw [hw2,Int.toNat_natCast,EU (by omega),EU (by omega)];rfl,by
  trivial,?_⟩
 refine ⟨((Iv l p (k-1)),(BL p (By l (k-1)) (By l k))),by
  rfl,by
  trivial,?_⟩
 refine ⟨k+1,by
  exact ⟨by omega,by omega⟩,by
  omega,?_⟩
 refine ⟨?_,rfl,rfl,rfl,rfl,rfl,?_,rfl,rfl,rfl,rfl,?_,?_,rfl⟩
 ·exact Am (AB (by omega) (by omega))
 ·rw [Jm (by omega) (by omega)]
 ·rw [Jm (by omega) (by omega)]
 rw [Jm (by omega) (by omega)]
def DN:Con:={ ι:=(List V2)×PtD,pre:=λ i=>i.2.has,args:=λ i=>[.one (DC.sl 44 [.int,.int] (AC i.1)),DA.agg [cB i.2.x.neg,cS i.2.x.num,cS i.2.x.den,cB i.2.y.neg,cS i.2.y.num,cS i.2.y.den]],res:=λ i=>⟨false,[some 3],[rcB (decide ((spR i.1 i.2).z<0)),.own 3 [.int] (L (spR i.1 i.2).z.natAbs),.own 3 [.int] (L (spR i.1 i.2).d)]⟩ }
theorem RJ:DN.Ok Tryz.prog 14:=by
 refine fok (X:=⟨tt,[(37,BF),(34,AE),(42,CR),(41,B7)],[],19,[]⟩) AG AH (CTok.cons GU (CTok.cons B4 (CTok.cons NW (CTok.cons Jf (CTok.nil _))))) Tryz.func14 (λ _=>[]) ?_
 rintro ⟨l,p⟩ hpre
 have hpre:p.has:=hpre
 refine AF (q:=let Z2:=List (List Dat);let Z1:=DC.sl 44 [.int,.int] (AC l);∃ i1:(List V2),[DA.one Z1]=BF.args i1/\BF.pre i1/\(ifB ((!(!(AU i1)))) (∃ i2:Z2,[DA.one (DC.sl 29 z28 ([[Dat.bool p.x.neg,Dat.sl p.x.num,Dat.sl p.x.den,Dat.bool p.y.neg,Dat.sl p.y.num,Dat.sl p.y.den]]:List (List Dat)))]=AE.args i2/\AE.pre i2/\(ifB ((!(!(i2.any (λ r=>!(okP (BK r))))))) ((eqN (spR l p))) (∃ i3:(List V2)×Pq,[DA.one Z1,DA.agg [cB p.x.neg,cS p.x.num,cS p.x.den,cB p.y.neg,cS p.y.num,cS p.y.den]]=CR.args i3/\CR.pre i3/\(∃ i4:Bool×Z2×Z2,[dF (A7 i3.1 i3.2)]=B7.args i4/\B7.pre i4/\((vB i4.1=vB (decide ((spR l p).z<0)))/\(i4.2.1=L (spR l p).z.natAbs)/\(i4.2.2=L (spR l p).d)))))) ((eqN (spR l p))))) (by kernel_rfl) ?_
 conv=>zeta
 delta ifB vB
 have hvl:=AI l
 have hpl:=C1 l
 refine ⟨l,by
  rfl,by
  trivial,?_⟩
 refine And.symm ⟨λ c4=>?_,λ c4=>?_⟩
 ·try simp only [nrm] at c4
  have hE:=Wv (p:=p) c4
  refine Ar ?_
  rw [hE];done
 try simp only [nrm] at c4
 refine ⟨([[Dat.bool p.x.neg,Dat.sl p.x.num,Dat.sl p.x.den,Dat.bool p.y.neg,Dat.sl p.y.num,Dat.sl p.y.den]]:List (List Dat)),by
  rfl,by
  try dsimp only [AE]
  exact ⟨by show 1<=_;decide,SH hpre⟩,?_⟩
 refine ⟨λ c8=>?_,λ c8=>?_⟩
 ·try simp only [nrm] at c8
  have c8:okP p=false:=by have h:=(Wg p).symm.trans c8;simpa using h
  have hE:=Ww (l:=l) c8
  refine Ar ?_
  rw [hE];done
 try simp only [nrm] at c8
 have c8:okP p=true:=by have h:=(Wg p).symm.trans c8;simpa using h
 have hE:=SZ c4 c8
 obtain ⟨e1,e2,e3,e4,e5,e6,e7,e8⟩:=Jj hpre c8
 refine ⟨(l,pqR p),by
  rw [e1,e2,e3,e4,e5,e6];rfl,by
  show l.all AQ=true/\0<l.length/\l.length<=16
  have:=GV c4
  exact ⟨this.2.2,by omega,by omega⟩,?_⟩
 refine ⟨((decide ((A7 l (pqR p)).z<0)),L (A7 l (pqR p)).z.natAbs,L (A7 l (pqR p)).d),by
  rfl,by
  show (L (A7 l (pqR p)).z.natAbs).length<=1073741824/\(L (A7 l (pqR p)).d).length<=1073741824
  exact ⟨by rw [AL];have:=(A7 l (pqR p)).nlz;omega,by rw [AL];have:=(A7 l (pqR p)).nld;omega⟩,?_⟩
 refine ⟨?_,?_,?_⟩
 ·show Value.bool (decide ((A7 l (pqR p)).z<0))=Value.bool (decide ((spR l p).z<0))
  rw [hE];done
 ·show (L (A7 l (pqR p)).z.natAbs)=L (spR l p).z.natAbs
  rw [hE];done
 show (L (A7 l (pqR p)).d)=L (spR l p).d
 rw [hE];done
def btT (l:List V2) (p q:Pq):Nat->Fr
 | 0=>Fr.min (A7 l p) (A7 l q)
 | k+1=>Fr.min (btT l p q k) (BL (By l k) p q)
def btQ (l:List V2) (p q:Pq):Fr:=if smB l p q=true then Fr.ofInt 0 else btT l p q l.length
def sbR (l:List V2) (p q:PtD):Fr:=if AU l=true/\(okP p=true/\okP q=true) then btQ l (pqR p) (pqR q) else Fr.none
theorem Vo {l:List V2} {p q:Pq} (h:smB l p q=true):btQ l p q=Fr.ofInt 0:=by unfold btQ;rw [if_pos h]
theorem XW {l:List V2} {p q:Pq} (h:smB l p q=false):btQ l p q=btT l p q l.length:=by unfold btQ;rw [if_neg (by rw [h];simp)]
theorem XX {l:List V2} {p q:PtD} (h:AU l=false∨okP p=false∨okP q=false):sbR l p q=Fr.none:=by
 unfold sbR
 rw [if_neg]
 rintro ⟨h1,h2,h3⟩
 rcases h with h|h|h
 ·rw [h] at h1;cases h1
 ·rw [h] at h2;cases h2
 ·rw [h] at h3;cases h3
theorem YF {l:List V2} {p q:PtD} (h1:AU l=true) (h2:okP p=true) (h3:okP q=true):sbR l p q=btQ l (pqR p) (pqR q):=by unfold sbR;rw [if_pos ⟨h1,h2,h3⟩]
def FF:Con:={ ι:=(List V2)×Pq×Pq,pre:=λ i=>i.1.all AQ=true/\0<i.1.length/\i.1.length<=16,args:=λ i=>[.one (DC.sl 44 [.int,.int] (AC i.1)),dP i.2.1,dP i.2.2],res:=λ i=>⟨false,[some 3],[rcB (decide ((btQ i.1 i.2.1 i.2.2).z<0)),.view 3 [.int] (L (btQ i.1 i.2.1 i.2.2).z.natAbs),.view 3 [.int] (L (btQ i.1 i.2.1 i.2.2).d)]⟩ }
theorem RK:FF.Ok Tryz.prog 51:=by
 refine fok (X:=⟨tt,[(38,CQ),(49,Ay),(42,CR),(84,BC),(82,A2),(53,Bp)],[],37,[]⟩) AG AH (CTok.cons KN (CTok.cons Hh (CTok.cons NW (CTok.cons Hk (CTok.cons FC (CTok.cons MA (CTok.nil _))))))) Tryz.func51 (λ (i:(List V2)×Pq×Pq)=>[(5,.mk 16 (Nat) (λ x1=>let Z1:=btT i.1 i.2.1 i.2.2 x1;{ tm:=[(4,tP 1 0),(5,tP 6 0),(6,tP 11 0),(7,tP 12 0),(24,tI (nI ((Au i.1).length))),(25,tI (nI x1)),(23,tX 15)],en:=[(1,.box [kB (decide (i.2.1.x.z<0)),.ext 2,.ext 3,kB (decide (i.2.1.y.z<0)),.ext 4,.ext 5]),(6,.box [kB (decide (i.2.2.x.z<0)),.ext 7,.ext 8,kB (decide (i.2.2.y.z<0)),.ext 9,.ext 10]),(11,.box [kB false,.im (Value.slice none 0 0),.im (Value.slice none 0 0)]),(12,.box [kB (decide (Z1.z<0)),.ext 13,.ext 14]),(2,eV (L i.2.1.x.z.natAbs)),(3,eV (L i.2.1.x.d)),(4,eV (L i.2.1.y.z.natAbs)),(5,eV (L i.2.1.y.d)),(7,eV (L i.2.2.x.z.natAbs)),(8,eV (L i.2.2.x.d)),(9,eV (L i.2.2.y.z.natAbs)),(10,eV (L i.2.2.y.d)),(13,.view 3 [.int] (L Z1.z.natAbs) [15]),(14,.view 3 [.int] (L Z1.d) [15]),(15,.own 29 z28 (Au i.1))] }) (λ x1=>x1<=i.1.length) (λ x1=>i.1.length-x1) (λ _=>[]))]) ?_
 rintro ⟨l,p,q⟩ hpre
 have hpre:l.all AQ=true/\0<l.length/\l.length<=16:=hpre
 refine AF (q:=let Z11:=vB (decide (q.y.z<0));let Z10:=vB (decide (q.x.z<0));let Z9:=vB (decide (p.y.z<0));let Z8:=vB (decide (p.x.z<0));let Z4:=nI ((Au l).length);let Z3:=Value.slice none 0 0;let Z1:=DC.sl 44 [.int,.int] (AC l);∃ i1:(List V2)×Pq×Pq,[DA.one Z1,dP p,dP q]=CQ.args i1/\CQ.pre i1/\(ifB ((smB i1.1 i1.2.1 i1.2.2)) (∃ i2:Int,[DA.one (cI (0:Int))]=Ay.args i2/\Ay.pre i2/\((eqC (Fr.ofInt i2) (btQ l p q)))) (∃ i3:(List V2)×Pq,[DA.one Z1,dP p]=CR.args i3/\CR.pre i3/\(∃ i4:(List V2)×Pq,[DA.one Z1,dP q]=CR.args i4/\CR.pre i4/\(∃ i5:Fr×Fr,let Z5:=Fr.min i5.1 i5.2;[dF (A7 i3.1 i3.2),dF (A7 i4.1 i4.2)]=BC.args i5/\BC.pre i5/\(∃ i6:(List V2),[DA.one Z1]=A2.args i6/\A2.pre i6/\((∃ x1:Nat,let Z7:=btT l p q x1;(x1<=l.length)/\((vI (nI ((Au i6).length))=vI Z4)/\(vI (0:Int)=vI (nI x1))/\(rf Z8)/\(rf Z9)/\(rf Z10)/\(rf Z11)/\(rf (vB false))/\(rf Z3)/\(rf Z3)/\(vB (decide (Z5.z<0))=vB (decide (Z7.z<0)))/\(rf (L p.x.z.natAbs))/\(rf (L p.x.d))/\(rf (L p.y.z.natAbs))/\(rf (L p.y.d))/\(rf (L q.x.z.natAbs))/\(rf (L q.x.d))/\(rf (L q.y.z.natAbs))/\(rf (L q.y.d))/\(L Z5.z.natAbs=(L Z7.z.natAbs))/\(L Z5.d=(L Z7.d))/\(Au i6=(Au l))))/\∀ x1:Nat,let Z2:=(Au l).getD x1 [];(x1<=l.length)->(ifB ((decide ((nI x1)<Z4))) ((0<=(nI x1)/\(nI x1)<((Au l).length:Int))/\((x1<(Au l).length)/\(∃ i7:Pq×Pq×Pq,[DA.agg [cB (((Z2.getD 0 (.int 0))).b),cS (((Z2.getD 1 (.int 0))).r),cS (((Z2.getD 2 (.int 0))).r),cB (((Z2.getD 3 (.int 0))).b),cS (((Z2.getD 4 (.int 0))).r),cS (((Z2.getD 5 (.int 0))).r)],dP p,dP q]=Bp.args i7/\Bp.pre i7/\(∃ i8:Fr×Fr,let Z6:=Fr.min i8.1 i8.2;[dF (btT l p q x1),dF (BL i7.1 i7.2.1 i7.2.2)]=BC.args i8/\BC.pre i8/\(∃ y2:Nat,let Z12:=btT l p q y2;(y2<=l.length)/\(l.length-y2<l.length-x1)/\((rf (vI Z4))/\(vI (wR ((nI x1)+(1:Int)))=vI (nI y2))/\(rf Z8)/\(rf Z9)/\(rf Z10)/\(rf Z11)/\(rf (vB false))/\(rf Z3)/\(rf Z3)/\(vB (decide (Z6.z<0))=vB (decide (Z12.z<0)))/\(rf (L p.x.z.natAbs))/\(rf (L p.x.d))/\(rf (L p.y.z.natAbs))/\(rf (L p.y.d))/\(rf (L q.x.z.natAbs))/\(rf (L q.x.d))/\(rf (L q.y.z.natAbs))/\(rf (L q.y.d))/\(L Z6.z.natAbs=(L Z12.z.natAbs))/\(L Z6.d=(L Z12.d))/\(rf (Au l)))))))) ((eqC (btT l p q x1) (btQ l p q))))))))))) (by kernel_rfl) ?_
 conv=>zeta
 delta ifB vB vI wR nI
 have hvl:=AI l
 have hpl:=C1 l
 refine ⟨(l,p,q),by
  rfl,by
  exact hpre,?_⟩
 refine ⟨λ c4=>?_,λ c4=>?_⟩
 ·try simp only [nrm] at c4
  have hE:=Vo c4
  refine ⟨(0:Int),by
   rfl,by
   show -9223372036854775808<=(0:Int)/\(0:Int)<=9223372036854775807
   trivial,?_⟩
  refine A6 ?_
  rw [hE];done
 try simp only [nrm] at c4
 have hE:=XW c4
 refine ⟨(l,p),by
  rfl,by
  exact hpre,?_⟩
 refine ⟨(l,q),by
  rfl,by
  exact hpre,?_⟩
 refine ⟨((A7 l p),(A7 l q)),by
  rfl,by
  trivial,?_⟩
 refine ⟨l,by
  rfl,by
  show l.all AQ=true/\l.length<=1048576
  exact ⟨hpre.1,by omega⟩,?_⟩
 refine ⟨⟨0,by
  omega,?_⟩,?_⟩
 ·refine ⟨rfl,?_,rfl,rfl,rfl,rfl,rfl,rfl,rfl,?_,rfl,rfl,rfl,rfl,rfl,rfl,rfl,rfl,?_,?_,rfl⟩
  ·rfl
  ·show Value.bool (decide ((Fr.min (A7 l p) (A7 l q)).z<0))=Value.bool (decide ((btT l p q 0).z<0))
   rfl
  ·show L (Fr.min (A7 l p) (A7 l q)).z.natAbs=(L (btT l p q 0).z.natAbs)
   rfl
  show L (Fr.min (A7 l p) (A7 l q)).d=(L (btT l p q 0).d)
  rfl
 intro (k:Nat) hki23
 have hki23:k<=l.length:=hki23
 refine And.symm ⟨λ c46=>?_,λ c46=>?_⟩
 ·try simp only [nrm] at c46
  refine A6 ?_
  rw [hE,show k=l.length by omega]
 try simp only [nrm] at c46
 refine ao (by omega) λ o47=>?_
 refine ao (by omega) λ o48=>?_
 refine ⟨(By l k,p,q),by
  rw [EU (by omega)];rfl,by
  trivial,?_⟩
 refine ⟨((btT l p q k),(BL (By l k) p q)),by
  rfl,by
  trivial,?_⟩
 refine ⟨k+1,by
  omega,by
  omega,?_⟩
 refine ⟨rfl,?_,rfl,rfl,rfl,rfl,rfl,rfl,rfl,?_,rfl,rfl,rfl,rfl,rfl,rfl,rfl,rfl,?_,?_,rfl⟩
 ·exact Am (AB (by omega) (by omega))
 ·show Value.bool (decide ((Fr.min (btT l p q k) (BL (By l k) p q)).z<0))=Value.bool (decide ((btT l p q (k+1)).z<0))
  rfl
 ·show L (Fr.min (btT l p q k) (BL (By l k) p q)).z.natAbs=(L (btT l p q (k+1)).z.natAbs)
  rfl
 show L (Fr.min (btT l p q k) (BL (By l k) p q)).d=(L (btT l p q (k+1)).d)
 rfl
def Ga:Con:={ ι:=(List V2)×PtD×PtD,pre:=λ i=>i.2.1.has/\i.2.2.has,args:=λ i=>[.one (DC.sl 44 [.int,.int] (AC i.1)),DA.agg [cB i.2.1.x.neg,cS i.2.1.x.num,cS i.2.1.x.den,cB i.2.1.y.neg,cS i.2.1.y.num,cS i.2.1.y.den],DA.agg [cB i.2.2.x.neg,cS i.2.2.x.num,cS i.2.2.x.den,cB i.2.2.y.neg,cS i.2.2.y.num,cS i.2.2.y.den]],res:=λ i=>⟨false,[some 3],[rcB (decide ((sbR i.1 i.2.1 i.2.2).z<0)),.own 3 [.int] (L (sbR i.1 i.2.1 i.2.2).z.natAbs),.own 3 [.int] (L (sbR i.1 i.2.1 i.2.2).d)]⟩ }
theorem Tp:Ga.Ok Tryz.prog 20:=by
 refine fok (X:=⟨tt,[(37,BF),(34,AE),(51,FF),(41,B7)],[],23,[]⟩) AG AH (CTok.cons GU (CTok.cons B4 (CTok.cons RK (CTok.cons Jf (CTok.nil _))))) Tryz.func20 (λ _=>[]) ?_
 rintro ⟨l,p,q⟩ hpre
 have hpre:p.has/\q.has:=hpre
 refine AF (q:=let Z3:=List (List Dat);let Z2:=sbR l p q;let Z1:=DC.sl 44 [.int,.int] (AC l);∃ i1:(List V2),[DA.one Z1]=BF.args i1/\BF.pre i1/\(ifB ((!(!(AU i1)))) (∃ i2:Z3,[DA.one (DC.sl 29 z28 ([[Dat.bool p.x.neg,Dat.sl p.x.num,Dat.sl p.x.den,Dat.bool p.y.neg,Dat.sl p.y.num,Dat.sl p.y.den],[Dat.bool q.x.neg,Dat.sl q.x.num,Dat.sl q.x.den,Dat.bool q.y.neg,Dat.sl q.y.num,Dat.sl q.y.den]]:List (List Dat)))]=AE.args i2/\AE.pre i2/\(ifB ((!(!(i2.any (λ r=>!(okP (BK r))))))) ((eqN Z2)) (∃ i3:(List V2)×Pq×Pq,[DA.one Z1,DA.agg [cB p.x.neg,cS p.x.num,cS p.x.den,cB p.y.neg,cS p.y.num,cS p.y.den],DA.agg [cB q.x.neg,cS q.x.num,cS q.x.den,cB q.y.neg,cS q.y.num,cS q.y.den]]=FF.args i3/\FF.pre i3/\(∃ i4:Bool×Z3×Z3,[dF (btQ i3.1 i3.2.1 i3.2.2)]=B7.args i4/\B7.pre i4/\((vB i4.1=vB (decide (Z2.z<0)))/\(i4.2.1=L Z2.z.natAbs)/\(i4.2.2=L Z2.d)))))) ((eqN Z2)))) (by kernel_rfl) ?_
 conv=>zeta
 delta ifB vB
 have hvl:=AI l
 have hpl:=C1 l
 refine ⟨l,by
  rfl,by
  trivial,?_⟩
 refine And.symm ⟨λ c4=>?_,λ c4=>?_⟩
 ·try simp only [nrm] at c4
  have hE:=XX (p:=p) (q:=q) (.inl c4)
  refine Ar ?_
  rw [hE];done
 try simp only [nrm] at c4
 refine ⟨([[Dat.bool p.x.neg,Dat.sl p.x.num,Dat.sl p.x.den,Dat.bool p.y.neg,Dat.sl p.y.num,Dat.sl p.y.den],[Dat.bool q.x.neg,Dat.sl q.x.num,Dat.sl q.x.den,Dat.bool q.y.neg,Dat.sl q.y.num,Dat.sl q.y.den]]:List (List Dat)),by
  rfl,by
  try dsimp only [AE]
  exact ⟨by show 2<=_;decide,SI hpre.1 hpre.2⟩,?_⟩
 refine ⟨λ c8=>?_,λ c8=>?_⟩
 ·try dsimp only at c8
  try simp only [nrm] at c8
  have h:=(Wh p q).symm.trans c8
  simp only [Bool.not_eq_true',Bool.and_eq_false_iff] at h
  have hE:=XX (l:=l) (.inr h)
  refine Ar ?_
  rw [hE];done
 try dsimp only at c8
 try simp only [nrm] at c8
 have h:=(Wh p q).symm.trans c8
 have hpq:okP p=true/\okP q=true:=by simpa using h
 obtain ⟨e1,e2,e3,e4,e5,e6,e7,e8⟩:=Jj hpre.1 hpq.1
 obtain ⟨f1,f2,f3,f4,f5,f6,f7,f8⟩:=Jj hpre.2 hpq.2
 have hE:=YF c4 hpq.1 hpq.2
 have hP:=GV c4
 refine ⟨(l,pqR p,pqR q),by
  rw [e1,e2,e3,e4,e5,e6,f1,f2,f3,f4,f5,f6];rfl,by
  show l.all AQ=true/\0<l.length/\l.length<=16
  exact ⟨hP.2.2,by omega,by omega⟩,?_⟩
 refine ⟨((decide ((btQ l (pqR p) (pqR q)).z<0)),L (btQ l (pqR p) (pqR q)).z.natAbs,L (btQ l (pqR p) (pqR q)).d),by
  rfl,by
  show (L (btQ l (pqR p) (pqR q)).z.natAbs).length<=1073741824/\(L (btQ l (pqR p) (pqR q)).d).length<=1073741824
  exact ⟨by rw [AL];have:=(btQ l (pqR p) (pqR q)).nlz;omega,by rw [AL];have:=(btQ l (pqR p) (pqR q)).nld;omega⟩,?_⟩
 refine ⟨?_,?_,?_⟩
 ·show Value.bool (decide ((btQ l (pqR p) (pqR q)).z<0))=Value.bool (decide ((sbR l p q).z<0))
  rw [hE];done
 ·show (L (btQ l (pqR p) (pqR q)).z.natAbs)=L (sbR l p q).z.natAbs
  rw [hE];done
 show (L (btQ l (pqR p) (pqR q)).d)=L (sbR l p q).d
 rw [hE];done
end Go.Proofs.YtndnhlhnjiopfaaGreat
