import Derived.Test.YtmedodfenejimaaGreatTpRkG
import Derived.Test.YtmedodfenejimaaGreatTpNum4
namespace Go.Proofs.YtmedodfenejimaaGreat
set_option maxRecDepth 100000
set_option linter.unusedVariables false
set_option linter.unusedSimpArgs false
open Go.RowKit
theorem ABU {a b:Int} (h1:decide (a<0)=decide (b<0)) (h2:a.natAbs=b.natAbs):a=b:=by rw [← Fg a,← Fg b,h1,h2]
def fQ (l:List V2) (p:Pq) (k:Nat):Fr:=Dn p (Cm l k) (Cm l ((k+1)%l.length))
def Iu (l:List V2) (p:Pq):Nat->Fr
 | 0=>fQ l p (l.length-1)
 | k+1=>Fr.min (Iu l p k) (fQ l p k)
def L6 (l:List V2) (p:Pq):Nat->Fr
 | 0=>fQ l p 0
 | k+1=>Fr.min (L6 l p k) (fQ l p k)
def Fl (l:List V2) (p:Pq):Fr:=if RZ l p≥0 then Fr.ofInt 0 else Iu l p (l.length-1)
theorem Xi (l:List V2) (p:Pq):∀ k,Iu l p (k+1)=Fr.min (fQ l p (l.length-1)) (L6 l p (k+1))
 | 0=>by
  show Fr.min (fQ l p (l.length-1)) (fQ l p 0)=Fr.min (fQ l p (l.length-1)) (Fr.min (fQ l p 0) (fQ l p 0))
  rw [Fr.min_self]
 | k+1=>by
  show Fr.min (Iu l p (k+1)) (fQ l p (k+1))=Fr.min (fQ l p (l.length-1)) (Fr.min (L6 l p (k+1)) (fQ l p (k+1)))
  rw [Xi l p k,Fr.min_assoc]
theorem Xj {l:List V2} {p:Pq} (h:3<=l.length):L6 l p l.length=Iu l p (l.length-1):=by
 obtain ⟨n,hn⟩:∃ n,l.length=n+2:=⟨l.length-2,by omega⟩
 have e:=Xi l p n
 rw [hn] at e ⊢
 show Fr.min (L6 l p (n+1)) (fQ l p (n+1))=Iu l p (n+1)
 rw [e,Fr.min_com];rfl
theorem J1 {l:List V2} {p:Pq} (h:0<l.length):Dn p (Cm l (l.length-1)) (Cm l 0)=Iu l p 0:=by
 show _=Dn p (Cm l (l.length-1)) (Cm l ((l.length-1+1)%l.length))
 rw [Nat.sub_add_cancel h,Nat.mod_self]
theorem LI {l:List V2} {p:Pq} {k:Nat} (h1:1<=k) (h2:k<l.length):Fr.min (Iu l p (k-1)) (Dn p (Cm l (k-1)) (Cm l k))=Iu l p (k+1-1):=by
 obtain ⟨m,rfl⟩:∃ m,k=m+1:=⟨k-1,by omega⟩
 show _=Fr.min (Iu l p m) (Dn p (Cm l m) (Cm l ((m+1)%l.length)))
 rw [Nat.mod_eq_of_lt h2];rfl
theorem Re {l:List V2} {p:Pq} (h:RZ l p≥0):Fl l p=Fr.ofInt 0:=by unfold Fl;rw [if_pos h]
theorem Rf {l:List V2} {p:Pq} (h:¬ RZ l p≥0):Fl l p=Iu l p (l.length-1):=by unfold Fl;rw [if_neg h]
def spR (l:List V2) (p:PtD):Fr:=if BA l=true/\okP p=true then Fl l (pqR p) else Fr.none
theorem Uh {l:List V2} {p:PtD} (h:BA l=false):spR l p=Fr.none:=by unfold spR;rw [if_neg (by rw [h];simp)]
theorem Ui {l:List V2} {p:PtD} (h:okP p=false):spR l p=Fr.none:=by unfold spR;rw [if_neg (by rw [h];simp)]
theorem Uj {l:List V2} {p:PtD} (h:BA l=true) (h2:okP p=true):spR l p=Fl l (pqR p):=by unfold spR;rw [if_pos ⟨h,h2⟩]
def EX:Con:={ ι:=Nat×Nat,pre:=λ i=>nl i.1<=1048576/\nl i.2<=1048576,args:=λ i=>[.one (cS (L i.1)),.one (cS (L i.2))],res:=λ i=>⟨false,[none],[rcB (decide (i.1=i.2))]⟩ }
theorem Vs:EX.Ok Tryz.prog 174:=by
 refine fok (X:=⟨tt,[],[],26,[]⟩) AI AF (CTok.nil _) Tryz.func174 (λ (i:Nat×Nat)=>[(4,.mk 3 (Nat) (λ x1=>{ tm:=[(0,tX 1),(1,tX 2),(12,tI (nI ((L i.1).length))),(13,tI (nI x1))],en:=[(1,eV (L i.1)),(2,eV (L i.2))] }) (λ x1=>x1<=nl i.1/\nl i.1=nl i.2/\AS x1 i.1=AS x1 i.2) (λ x1=>nl i.1-x1) (λ _=>[]))]) ?_
 rintro ⟨a,b⟩ hpre
 have hpre:nl a<=1048576/\nl b<=1048576:=hpre
 refine AH (q:=let Z2:=(vB false=vB (decide (a=b)));let Z1:=nI ((L a).length);ifB ((Z1 != (nI ((L b).length)))) Z2 ((∃ x1:Nat,(x1<=nl a/\nl a=nl b/\AS x1 a=AS x1 b)/\((rf (vI Z1))/\(vI (0:Int)=vI (nI x1))/\(rf (L a))/\(rf (L b))))/\∀ x1:Nat,(x1<=nl a/\nl a=nl b/\AS x1 a=AS x1 b)->(ifB ((decide ((nI x1)<Z1))) ((0<=(nI x1)/\(nI x1)<((L a).length:Int))/\((x1<(L a).length)/\((0<=(nI x1)/\(nI x1)<((L b).length:Int))/\((x1<(L b).length)/\(ifB ((((((L a).getD x1 []).getD 0 (.int 0))).n != ((((L b).getD x1 []).getD 0 (.int 0))).n)) Z2 (∃ y2:Nat,(y2<=nl a/\nl a=nl b/\AS y2 a=AS y2 b)/\(nl a-y2<nl a-x1)/\((rf (vI Z1))/\(vI (wR ((nI x1)+(1:Int)))=vI (nI y2))/\(rf (L a))/\(rf (L b))))))))) ((vB true=vB (decide (a=b))))))) (by kernel_rfl) ?_
 conv=>zeta
 delta ifB vB vI wR nI
 have ha:=AQ a
 have hb:=AQ b
 refine ⟨λ c1=>?_,λ c1=>?_⟩
 ·try simp only [nrm] at c1
  exact congrArg Value.bool (decide_eq_false (λ e=>by subst e;omega)).symm
 try simp only [nrm] at c1
 refine ⟨⟨0,by
  exact ⟨Nat.zero_le _,by omega,rfl⟩,?_⟩,?_⟩
 ·refine ⟨rfl,?_,rfl,rfl⟩
  rfl
 intro (k:Nat) hki3
 have hki3:k<=nl a/\nl a=nl b/\AS k a=AS k b:=hki3
 refine And.symm ⟨λ c9=>?_,λ c9=>?_⟩
 ·try simp only [nrm] at c9
  exact congrArg Value.bool (decide_eq_true (Vr hki3.2.1 (by have:=hki3.2.2;rwa [show k=nl a by omega] at this))).symm
 try simp only [nrm] at c9
 refine ao (by omega) λ o10=>?_
 refine ao (by omega) λ o11=>?_
 refine ao (by omega) λ o12=>?_
 refine ao (by omega) λ o13=>?_
 refine ⟨λ c14=>?_,λ c14=>?_⟩
 ·try simp only [nrm] at c14
  rw [L_n,L_n] at c14
  exact congrArg Value.bool (decide_eq_false (λ e=>c14 (by rw [e]))).symm
 try simp only [nrm] at c14
 rw [L_n,L_n] at c14
 refine ⟨k+1,by
  exact ⟨by omega,hki3.2.1,by rw [Az,Az,hki3.2.2,show dgt a k=dgt b k by omega]⟩,by
  omega,?_⟩
 refine ⟨rfl,?_,rfl,rfl⟩
 exact AK (AD (by omega) (by omega))
def Bp:Con:={ ι:=Fr×Fr,pre:=λ i=>True,args:=λ i=>[dF i.1,dF i.2],res:=λ i=>⟨false,[none],[rcB (eqF i.1 i.2)]⟩ }
theorem Lw:Bp.Ok Tryz.prog 109:=by
 refine fok (X:=⟨tt,[(174,EX)],[],28,[]⟩) AI AF (CTok.cons Vs (CTok.nil _)) Tryz.func109 (λ _=>[]) ?_
 rintro ⟨r,s⟩ hpre
 have hpre:True:=hpre
 refine AH (q:=let Z1:=(vB false=vB (eqF r s));ifB (((decide (r.z<0)) == (decide (s.z<0)))) (∃ i1:Nat×Nat,[DA.one (cS (L r.z.natAbs)),DA.one (cS (L s.z.natAbs))]=EX.args i1/\EX.pre i1/\(ifB ((decide (i1.1=i1.2))) (∃ i2:Nat×Nat,[DA.one (cS (L r.d)),DA.one (cS (L s.d))]=EX.args i2/\EX.pre i2/\((vB (decide (i2.1=i2.2))=vB (eqF r s)))) Z1)) Z1) (by kernel_rfl) ?_
 conv=>zeta
 delta ifB vB
 have h1:=r.nlz
 have h2:=r.nld
 have h3:=s.nlz
 have h4:=s.nld
 refine And.symm ⟨λ c1=>?_,λ c1=>?_⟩
 ·try simp only [nrm] at c1
  exact congrArg Value.bool (by unfold eqF;rw [decide_eq_false (λ e=>c1 (by rw [e]))];rfl)
 try simp only [nrm] at c1
 refine ⟨(r.z.natAbs,s.z.natAbs),by
  rfl,by
  show nl r.z.natAbs<=1048576/\nl s.z.natAbs<=1048576
  exact ⟨by omega,by omega⟩,?_⟩
 refine And.symm ⟨λ c5=>?_,λ c5=>?_⟩
 ·try simp only [nrm] at c5
  exact congrArg Value.bool (by unfold eqF;rw [decide_eq_false (λ e=>c5 (by rw [e]))];rfl)
 try simp only [nrm] at c5
 refine ⟨(r.d,s.d),by
  rfl,by
  show nl r.d<=1048576/\nl s.d<=1048576
  exact ⟨by omega,by omega⟩,?_⟩
 exact congrArg Value.bool (by unfold eqF;rw [decide_eq_true (ABU c1 c5)];rfl)
def Ef:Con:={ ι:=Pq×Pq,pre:=λ i=>True,args:=λ i=>[dP i.1,dP i.2],res:=λ i=>⟨false,[none],[rcB (eqP i.1 i.2)]⟩ }
theorem Pw:Ef.Ok Tryz.prog 329:=by
 refine fok (X:=⟨tt,[(109,Bp)],[],17,[]⟩) AI AF (CTok.cons Lw (CTok.nil _)) Tryz.func329 (λ _=>[]) ?_
 rintro ⟨p,q⟩ hpre
 have hpre:True:=hpre
 refine AH (q:=∃ i1:Fr×Fr,[dF p.x,dF q.x]=Bp.args i1/\Bp.pre i1/\(ifB ((eqF i1.1 i1.2)) (∃ i2:Fr×Fr,[dF p.y,dF q.y]=Bp.args i2/\Bp.pre i2/\((vB (eqF i2.1 i2.2)=vB (eqP p q)))) ((vB false=vB (eqP p q))))) (by kernel_rfl) ?_
 delta ifB vB
 refine ⟨(p.x,q.x),by
  rfl,by
  trivial,?_⟩
 refine And.symm ⟨λ c4=>?_,λ c4=>?_⟩
 ·try simp only [nrm] at c4
  exact congrArg Value.bool (by unfold eqP;rw [c4];rfl)
 try simp only [nrm] at c4
 refine ⟨(p.y,q.y),by
  rfl,by
  trivial,?_⟩
 exact congrArg Value.bool (by unfold eqP;rw [c4];rfl)
def C6:Con:={ ι:=Pq×Pq,pre:=λ i=>True,args:=λ i=>[dP i.1,dP i.2],res:=λ i=>⟨false,[some 3],[rcB (decide ((sdQ i.1 i.2).z<0)),.own 3 [.int] (L (sdQ i.1 i.2).z.natAbs),.own 3 [.int] (L (sdQ i.1 i.2).d)]⟩ }
theorem Vt:C6.Ok Tryz.prog 330:=by
 refine fok (X:=⟨tt,[(219,AY),(269,Ax),(224,BR)],[],24,[]⟩) AI AF (CTok.cons JN (CTok.cons JM (CTok.cons JL (CTok.nil _)))) Tryz.func330 (λ _=>[]) ?_
 rintro ⟨p,q⟩ hpre
 have hpre:True:=hpre
 refine AH (q:=∃ i1:Fr×Fr,[dF p.x,dF q.x]=AY.args i1/\AY.pre i1/\(∃ i2:Fr×Fr,[dF p.y,dF q.y]=AY.args i2/\AY.pre i2/\(∃ i3:Fr×Fr,[dF (Fr.sub i1.1 i1.2),dF (Fr.sub i1.1 i1.2)]=Ax.args i3/\Ax.pre i3/\(∃ i4:Fr×Fr,[dF (Fr.sub i2.1 i2.2),dF (Fr.sub i2.1 i2.2)]=Ax.args i4/\Ax.pre i4/\(∃ i5:Fr×Fr,[dF (Fr.mul i3.1 i3.2),dF (Fr.mul i4.1 i4.2)]=BR.args i5/\BR.pre i5/\((eqC (Fr.add i5.1 i5.2) (sdQ p q)))))))) (by kernel_rfl) ?_
 refine ⟨(p.x,q.x),by
  rfl,by
  trivial,?_⟩
 refine ⟨(p.y,q.y),by
  rfl,by
  trivial,?_⟩
 refine ⟨((Fr.sub p.x q.x),(Fr.sub p.x q.x)),by
  rfl,by
  trivial,?_⟩
 refine ⟨((Fr.sub p.y q.y),(Fr.sub p.y q.y)),by
  rfl,by
  trivial,?_⟩
 refine ⟨((Fr.mul (Fr.sub p.x q.x) (Fr.sub p.x q.x)),(Fr.mul (Fr.sub p.y q.y) (Fr.sub p.y q.y))),by
  rfl,by
  trivial,?_⟩
 refine BT ?_
 rfl
def Ca:Con:={ ι:=Pq×Pq,pre:=λ i=>True,args:=λ i=>[dP i.1,dP i.2],res:=λ i=>⟨false,[some 3],[rcB (decide ((sdQ i.1 i.2).z<0)),.own 3 [.int] (L (sdQ i.1 i.2).z.natAbs),.own 3 [.int] (L (sdQ i.1 i.2).d)]⟩ }
theorem TE:Ca.Ok Tryz.prog 324:=by
 refine fok (X:=⟨tt,[(142,AX),(206,Al),(145,BL)],[],24,[]⟩) AI AF (CTok.cons Hv (CTok.cons Hw (CTok.cons Jz (CTok.nil _)))) Tryz.func324 (λ _=>[]) ?_
 rintro ⟨p,q⟩ hpre
 have hpre:True:=hpre
 refine AH (q:=∃ i1:Fr×Fr,[dF q.x,dF p.x]=AX.args i1/\AX.pre i1/\(∃ i2:Fr×Fr,[dF q.y,dF p.y]=AX.args i2/\AX.pre i2/\(∃ i3:Fr×Fr,[dF (Fr.sub i1.1 i1.2),dF (Fr.sub i1.1 i1.2)]=Al.args i3/\Al.pre i3/\(∃ i4:Fr×Fr,[dF (Fr.sub i2.1 i2.2),dF (Fr.sub i2.1 i2.2)]=Al.args i4/\Al.pre i4/\(∃ i5:Fr×Fr,[dF (Fr.mul i3.1 i3.2),dF (Fr.mul i4.1 i4.2)]=BL.args i5/\BL.pre i5/\((eqC (Fr.add i5.1 i5.2) (sdQ p q)))))))) (by kernel_rfl) ?_
 refine ⟨(q.x,p.x),by
  rfl,by
  trivial,?_⟩
 refine ⟨(q.y,p.y),by
  rfl,by
  trivial,?_⟩
 refine ⟨((Fr.sub q.x p.x),(Fr.sub q.x p.x)),by
  rfl,by
  trivial,?_⟩
 refine ⟨((Fr.sub q.y p.y),(Fr.sub q.y p.y)),by
  rfl,by
  trivial,?_⟩
 refine ⟨((Fr.mul (Fr.sub q.x p.x) (Fr.sub q.x p.x)),(Fr.mul (Fr.sub q.y p.y) (Fr.sub q.y p.y))),by
  rfl,by
  trivial,?_⟩
 refine BT ?_
 rw [← Yj p q];rfl
def JU:Con:={ ι:=Pq×Pq×Pq,pre:=λ i=>True,args:=λ i=>[dP i.1,dP i.2.1,dP i.2.2],res:=λ i=>⟨false,[some 3],[rcB (decide ((Dm i.1 i.2.1 i.2.2).z<0)),.own 3 [.int] (L (Dm i.1 i.2.1 i.2.2).z.natAbs),.own 3 [.int] (L (Dm i.1 i.2.1 i.2.2).d)]⟩ }
theorem Xk:JU.Ok Tryz.prog 331:=by
 refine fok (X:=⟨tt,[(219,AY),(269,Ax),(224,BR)],[],30,[]⟩) AI AF (CTok.cons JN (CTok.cons JM (CTok.cons JL (CTok.nil _)))) Tryz.func331 (λ _=>[]) ?_
 rintro ⟨a,b,c⟩ hpre
 have hpre:True:=hpre
 refine AH (q:=∃ i1:Fr×Fr,[dF b.x,dF a.x]=AY.args i1/\AY.pre i1/\(∃ i2:Fr×Fr,[dF c.x,dF a.x]=AY.args i2/\AY.pre i2/\(∃ i3:Fr×Fr,[dF (Fr.sub i1.1 i1.2),dF (Fr.sub i2.1 i2.2)]=Ax.args i3/\Ax.pre i3/\(∃ i4:Fr×Fr,[dF b.y,dF a.y]=AY.args i4/\AY.pre i4/\(∃ i5:Fr×Fr,[dF c.y,dF a.y]=AY.args i5/\AY.pre i5/\(∃ i6:Fr×Fr,[dF (Fr.sub i4.1 i4.2),dF (Fr.sub i5.1 i5.2)]=Ax.args i6/\Ax.pre i6/\(∃ i7:Fr×Fr,[dF (Fr.mul i3.1 i3.2),dF (Fr.mul i6.1 i6.2)]=BR.args i7/\BR.pre i7/\((eqC (Fr.add i7.1 i7.2) (Dm a b c)))))))))) (by kernel_rfl) ?_
 refine ⟨(b.x,a.x),by
  rfl,by
  trivial,?_⟩
 refine ⟨(c.x,a.x),by
  rfl,by
  trivial,?_⟩
 refine ⟨((Fr.sub b.x a.x),(Fr.sub c.x a.x)),by
  rfl,by
  trivial,?_⟩
 refine ⟨(b.y,a.y),by
  rfl,by
  trivial,?_⟩
 refine ⟨(c.y,a.y),by
  rfl,by
  trivial,?_⟩
 refine ⟨((Fr.sub b.y a.y),(Fr.sub c.y a.y)),by
  rfl,by
  trivial,?_⟩
 refine ⟨((Fr.mul (Fr.sub b.x a.x) (Fr.sub c.x a.x)),(Fr.mul (Fr.sub b.y a.y) (Fr.sub c.y a.y))),by
  rfl,by
  trivial,?_⟩
 refine BT ?_
 rfl
def H8:Con:={ ι:=Pq×Pq×Pq,pre:=λ i=>True,args:=λ i=>[dP i.1,dP i.2.1,dP i.2.2],res:=λ i=>⟨false,[some 3],[rcB (decide ((Dm i.1 i.2.1 i.2.2).z<0)),.own 3 [.int] (L (Dm i.1 i.2.1 i.2.2).z.natAbs),.own 3 [.int] (L (Dm i.1 i.2.1 i.2.2).d)]⟩ }
theorem Vu:H8.Ok Tryz.prog 325:=by
 refine fok (X:=⟨tt,[(142,AX),(206,Al),(145,BL)],[],30,[]⟩) AI AF (CTok.cons Hv (CTok.cons Hw (CTok.cons Jz (CTok.nil _)))) Tryz.func325 (λ _=>[]) ?_
 rintro ⟨a,b,c⟩ hpre
 have hpre:True:=hpre
 refine AH (q:=∃ i1:Fr×Fr,[dF b.x,dF a.x]=AX.args i1/\AX.pre i1/\(∃ i2:Fr×Fr,[dF c.x,dF a.x]=AX.args i2/\AX.pre i2/\(∃ i3:Fr×Fr,[dF (Fr.sub i1.1 i1.2),dF (Fr.sub i2.1 i2.2)]=Al.args i3/\Al.pre i3/\(∃ i4:Fr×Fr,[dF b.y,dF a.y]=AX.args i4/\AX.pre i4/\(∃ i5:Fr×Fr,[dF c.y,dF a.y]=AX.args i5/\AX.pre i5/\(∃ i6:Fr×Fr,[dF (Fr.sub i4.1 i4.2),dF (Fr.sub i5.1 i5.2)]=Al.args i6/\Al.pre i6/\(∃ i7:Fr×Fr,[dF (Fr.mul i3.1 i3.2),dF (Fr.mul i6.1 i6.2)]=BL.args i7/\BL.pre i7/\((eqC (Fr.add i7.1 i7.2) (Dm a b c)))))))))) (by kernel_rfl) ?_
 refine ⟨(b.x,a.x),by
  rfl,by
  trivial,?_⟩
 refine ⟨(c.x,a.x),by
  rfl,by
  trivial,?_⟩
 refine ⟨((Fr.sub b.x a.x),(Fr.sub c.x a.x)),by
  rfl,by
  trivial,?_⟩
 refine ⟨(b.y,a.y),by
  rfl,by
  trivial,?_⟩
 refine ⟨(c.y,a.y),by
  rfl,by
  trivial,?_⟩
 refine ⟨((Fr.sub b.y a.y),(Fr.sub c.y a.y)),by
  rfl,by
  trivial,?_⟩
 refine ⟨((Fr.mul (Fr.sub b.x a.x) (Fr.sub c.x a.x)),(Fr.mul (Fr.sub b.y a.y) (Fr.sub c.y a.y))),by
  rfl,by
  trivial,?_⟩
 refine BT ?_
 rfl
def FT:Con:={ ι:=Pq×Pq×Pq,pre:=λ i=>True,args:=λ i=>[dP i.1,dP i.2.1,dP i.2.2],res:=λ i=>⟨false,[some 3],[rcB (decide ((Dn i.1 i.2.1 i.2.2).z<0)),.view 3 [.int] (L (Dn i.1 i.2.1 i.2.2).z.natAbs),.view 3 [.int] (L (Dn i.1 i.2.1 i.2.2).d)]⟩ }
theorem Xl:FT.Ok Tryz.prog 283:=by
 refine fok (X:=⟨tt,[(329,Ef),(330,C6),(331,JU),(221,Hn),(129,BG),(169,Hp),(168,Dh),(219,AY),(269,Ax),(224,BR)],[],52,[]⟩) AI AF (CTok.cons Pw (CTok.cons Vt (CTok.cons Xk (CTok.cons Vb (CTok.cons JK (CTok.cons Vd (CTok.cons Or (CTok.cons JN (CTok.cons JM (CTok.cons JL (CTok.nil _))))))))))) Tryz.func283 (λ _=>[]) ?_
 rintro ⟨p,a,b⟩ hpre
 have hpre:True:=hpre
 refine AH (q:=∃ i1:Pq×Pq,[dP a,dP b]=Ef.args i1/\Ef.pre i1/\(ifB ((eqP i1.1 i1.2)) (∃ i2:Pq×Pq,[dP p,dP a]=C6.args i2/\C6.pre i2/\((eqC (sdQ i2.1 i2.2) (Dn p a b)))) (∃ i3:Pq×Pq×Pq,[dP a,dP p,dP b]=JU.args i3/\JU.pre i3/\(∃ i4:Pq×Pq,[dP a,dP b]=C6.args i4/\C6.pre i4/\(∃ i5:Fr×Fr,[dF (Dm i3.1 i3.2.1 i3.2.2),dF (sdQ i4.1 i4.2)]=Hn.args i5/\Hn.pre i5/\(∃ i6:Int,[DA.one (cI (1:Int))]=BG.args i6/\BG.pre i6/\(∃ i7:Int,[DA.one (cI (0:Int))]=BG.args i7/\BG.pre i7/\(∃ i8:Fr×Fr,[dF (Fr.ofInt i7),dF (Fr.div i5.1 i5.2)]=Hp.args i8/\Hp.pre i8/\(∃ i9:Fr×Fr,[dF (Fr.ofInt i6),dF (Fr.max i8.1 i8.2)]=Dh.args i9/\Dh.pre i9/\(∃ i10:Fr×Fr,[dF b.x,dF a.x]=AY.args i10/\AY.pre i10/\(∃ i11:Fr×Fr,[dF (Fr.min i9.1 i9.2),dF (Fr.sub i10.1 i10.2)]=Ax.args i11/\Ax.pre i11/\(∃ i12:Fr×Fr,let Z1:=Fr.add i12.1 i12.2;[dF a.x,dF (Fr.mul i11.1 i11.2)]=BR.args i12/\BR.pre i12/\(∃ i13:Fr×Fr,[dF b.y,dF a.y]=AY.args i13/\AY.pre i13/\(∃ i14:Fr×Fr,[dF (Fr.min i9.1 i9.2),dF (Fr.sub i13.1 i13.2)]=Ax.args i14/\Ax.pre i14/\(∃ i15:Fr×Fr,let Z2:=Fr.add i15.1 i15.2;[dF a.y,dF (Fr.mul i14.1 i14.2)]=BR.args i15/\BR.pre i15/\(∃ i16:Pq×Pq,[dP p,DA.agg [cB (decide (Z1.z<0)),cS (L Z1.z.natAbs),cS (L Z1.d),cB (decide (Z2.z<0)),cS (L Z2.z.natAbs),cS (L Z2.d)]]=C6.args i16/\C6.pre i16/\((eqC (sdQ i16.1 i16.2) (Dn p a b))))))))))))))))))) (by kernel_rfl) ?_
 conv=>zeta
 delta ifB
 refine ⟨(a,b),by
  rfl,by
  trivial,?_⟩
 refine ⟨λ c4=>?_,λ c4=>?_⟩
 ·try simp only [nrm] at c4
  have hE:Dn p a b=sdQ p a:=by unfold Dn;rw [if_pos c4]
  refine ⟨(p,a),by
   rfl,by
   trivial,?_⟩
  refine BT ?_
  rw [hE]
 try simp only [nrm] at c4
 have hE:Dn p a b=sdQ p (Ns a b (tQ p a b)):=by unfold Dn;rw [if_neg (by rw [c4];simp)]
 refine ⟨(a,p,b),by
  rfl,by
  trivial,?_⟩
 refine ⟨(a,b),by
  rfl,by
  trivial,?_⟩
 refine ⟨((Dm a p b),(sdQ a b)),by
  rfl,by
  trivial,?_⟩
 refine ⟨(1:Int),by
  rfl,by
  trivial,?_⟩
 refine ⟨(0:Int),by
  rfl,by
  trivial,?_⟩
 refine ⟨((Fr.ofInt (0:Int)),(Fr.div (Dm a p b) (sdQ a b))),by
  rfl,by
  trivial,?_⟩
 refine ⟨((Fr.ofInt (1:Int)),(Fr.max (Fr.ofInt (0:Int)) (Fr.div (Dm a p b) (sdQ a b)))),by
  rfl,by
  trivial,?_⟩
 refine ⟨(b.x,a.x),by
  rfl,by
  trivial,?_⟩
 refine ⟨((Fr.min (Fr.ofInt (1:Int)) (Fr.max (Fr.ofInt (0:Int)) (Fr.div (Dm a p b) (sdQ a b)))),(Fr.sub b.x a.x)),by
  rfl,by
  trivial,?_⟩
 refine ⟨(a.x,(Fr.mul (Fr.min (Fr.ofInt (1:Int)) (Fr.max (Fr.ofInt (0:Int)) (Fr.div (Dm a p b) (sdQ a b)))) (Fr.sub b.x a.x))),by
  rfl,by
  trivial,?_⟩
 refine ⟨(b.y,a.y),by
  rfl,by
  trivial,?_⟩
 refine ⟨((Fr.min (Fr.ofInt (1:Int)) (Fr.max (Fr.ofInt (0:Int)) (Fr.div (Dm a p b) (sdQ a b)))),(Fr.sub b.y a.y)),by
  rfl,by
  trivial,?_⟩
 refine ⟨(a.y,(Fr.mul (Fr.min (Fr.ofInt (1:Int)) (Fr.max (Fr.ofInt (0:Int)) (Fr.div (Dm a p b) (sdQ a b)))) (Fr.sub b.y a.y))),by
  rfl,by
  trivial,?_⟩
 refine ⟨(p,Ns a b (tQ p a b)),by
  rfl,by
  trivial,?_⟩
 refine BT ?_
 rw [hE]
def EY:Con:={ ι:=Pq×Pq×Pq,pre:=λ i=>i.2.1.good=true,args:=λ i=>[dP i.1,dP i.2.1,dP i.2.2],res:=λ i=>⟨false,[some 3],[rcB (decide ((Dn i.1 i.2.1 i.2.2).z<0)),.view 3 [.int] (L (Dn i.1 i.2.1 i.2.2).z.natAbs),.view 3 [.int] (L (Dn i.1 i.2.1 i.2.2).d)]⟩ }
theorem Vv:EY.Ok Tryz.prog 276:=by
 refine fok (X:=⟨tt,[(324,Ca),(277,Ce),(206,Al),(145,BL),(325,H8),(141,F5),(90,Af),(161,F6),(160,C4),(142,AX)],[],58,[]⟩) AI AF (CTok.cons TE (CTok.cons Lr (CTok.cons Hw (CTok.cons Jz (CTok.cons Vu (CTok.cons S5 (CTok.cons EC (CTok.cons S6 (CTok.cons Nf (CTok.cons Hv (CTok.nil _))))))))))) Tryz.func276 (λ _=>[]) ?_
 rintro ⟨p,a,b⟩ hpre
 have hpre:a.good=true:=hpre
 refine AH (q:=∃ i1:Pq×Pq,let Z1:=sdQ i1.1 i1.2;[dP a,dP b]=Ca.args i1/\Ca.pre i1/\(∃ i2:Fr,[dF Z1]=Ce.args i2/\Ce.pre i2/\(ifB ((i2.sgn == (0:Int))) (∃ i3:Fr×Fr,[dF Z1,dF Z1]=Al.args i3/\Al.pre i3/\(∃ i4:Pq×Pq,[dP p,dP a]=Ca.args i4/\Ca.pre i4/\(∃ i5:Fr×Fr,[dF (Fr.mul i3.1 i3.2),dF (sdQ i4.1 i4.2)]=BL.args i5/\BL.pre i5/\((eqC (Fr.add i5.1 i5.2) (Dn p a b)))))) (∃ i6:Pq×Pq×Pq,[dP a,dP b,dP p]=H8.args i6/\H8.pre i6/\(∃ i7:Fr×Fr,[dF (Dm i6.1 i6.2.1 i6.2.2),dF Z1]=F5.args i7/\F5.pre i7/\(∃ i8:Int,[DA.one (cI (0:Int))]=Af.args i8/\Af.pre i8/\(∃ i9:Fr×Fr,[dF (Fr.div i7.1 i7.2),dF (Fr.ofInt i8)]=F6.args i9/\F6.pre i9/\(∃ i10:Int,[DA.one (cI (1:Int))]=Af.args i10/\Af.pre i10/\(∃ i11:Fr×Fr,[dF (Fr.max i9.1 i9.2),dF (Fr.ofInt i10)]=C4.args i11/\C4.pre i11/\(∃ i12:Fr×Fr,[dF b.x,dF a.x]=AX.args i12/\AX.pre i12/\(∃ i13:Fr×Fr,[dF (Fr.min i11.1 i11.2),dF (Fr.sub i12.1 i12.2)]=Al.args i13/\Al.pre i13/\(∃ i14:Fr×Fr,let Z2:=Fr.add i14.1 i14.2;[dF a.x,dF (Fr.mul i13.1 i13.2)]=BL.args i14/\BL.pre i14/\(∃ i15:Fr×Fr,[dF b.y,dF a.y]=AX.args i15/\AX.pre i15/\(∃ i16:Fr×Fr,[dF (Fr.min i11.1 i11.2),dF (Fr.sub i15.1 i15.2)]=Al.args i16/\Al.pre i16/\(∃ i17:Fr×Fr,let Z3:=Fr.add i17.1 i17.2;[dF a.y,dF (Fr.mul i16.1 i16.2)]=BL.args i17/\BL.pre i17/\(∃ i18:Pq×Pq,[dP p,DA.agg [cB (decide (Z2.z<0)),cS (L Z2.z.natAbs),cS (L Z2.d),cB (decide (Z3.z<0)),cS (L Z3.z.natAbs),cS (L Z3.d)]]=Ca.args i18/\Ca.pre i18/\((eqC (sdQ i18.1 i18.2) (Dn p a b))))))))))))))))))) (by kernel_rfl) ?_
 conv=>zeta
 delta ifB
 refine ⟨(a,b),by
  rfl,by
  trivial,?_⟩
 refine ⟨(sdQ a b),by
  rfl,by
  trivial,?_⟩
 refine ⟨λ c7=>?_,λ c7=>?_⟩
 ·try simp only [nrm] at c7
  have hE:=Xg (p:=p) hpre c7
  refine ⟨((sdQ a b),(sdQ a b)),by
   rfl,by
   trivial,?_⟩
  refine ⟨(p,a),by
   rfl,by
   trivial,?_⟩
  refine ⟨((Fr.mul (sdQ a b) (sdQ a b)),(sdQ p a)),by
   rfl,by
   trivial,?_⟩
  refine BT ?_
  rw [hE]
 try simp only [nrm] at c7
 have hE:=Xh (p:=p) hpre c7
 refine ⟨(a,b,p),by
  rfl,by
  trivial,?_⟩
 refine ⟨((Dm a b p),(sdQ a b)),by
  rfl,by
  trivial,?_⟩
 refine ⟨(0:Int),by
  rfl,by
  trivial,?_⟩
 refine ⟨((Fr.div (Dm a b p) (sdQ a b)),(Fr.ofInt (0:Int))),by
  rfl,by
  trivial,?_⟩
 refine ⟨(1:Int),by
  rfl,by
  trivial,?_⟩
 refine ⟨((Fr.max (Fr.div (Dm a b p) (sdQ a b)) (Fr.ofInt (0:Int))),(Fr.ofInt (1:Int))),by
  rfl,by
  trivial,?_⟩
 refine ⟨(b.x,a.x),by
  rfl,by
  trivial,?_⟩
 refine ⟨((Fr.min (Fr.max (Fr.div (Dm a b p) (sdQ a b)) (Fr.ofInt (0:Int))) (Fr.ofInt (1:Int))),(Fr.sub b.x a.x)),by
  rfl,by
  trivial,?_⟩
 refine ⟨(a.x,(Fr.mul (Fr.min (Fr.max (Fr.div (Dm a b p) (sdQ a b)) (Fr.ofInt (0:Int))) (Fr.ofInt (1:Int))) (Fr.sub b.x a.x))),by
  rfl,by
  trivial,?_⟩
 refine ⟨(b.y,a.y),by
  rfl,by
  trivial,?_⟩
 refine ⟨((Fr.min (Fr.max (Fr.div (Dm a b p) (sdQ a b)) (Fr.ofInt (0:Int))) (Fr.ofInt (1:Int))),(Fr.sub b.y a.y)),by
  rfl,by
  trivial,?_⟩
 refine ⟨(a.y,(Fr.mul (Fr.min (Fr.max (Fr.div (Dm a b p) (sdQ a b)) (Fr.ofInt (0:Int))) (Fr.ofInt (1:Int))) (Fr.sub b.y a.y))),by
  rfl,by
  trivial,?_⟩
 refine ⟨(p,Ns a b (Fr.min (Fr.max (Fr.div (Dm a b p) (sdQ a b)) (Fr.ofInt 0)) (Fr.ofInt 1))),by
  rfl,by
  trivial,?_⟩
 refine BT ?_
 rw [hE]
def H9:Con:={ ι:=(List V2)×Pq,pre:=λ i=>i.1.all A2=true/\0<i.1.length/\i.1.length<=16,args:=λ i=>[.one (DC.sl 39 [.int,.int] (AJ i.1)),dP i.2],res:=λ i=>⟨false,[some 3],[rcB (decide ((Fl i.1 i.2).z<0)),.view 3 [.int] (L (Fl i.1 i.2).z.natAbs),.view 3 [.int] (L (Fl i.1 i.2).d)]⟩ }
theorem Vw:H9.Ok Tryz.prog 243:=by
 refine fok (X:=⟨tt,[(281,FH),(129,BG),(282,Cf),(283,FT),(168,Dh)],[],46,[]⟩) AI AF (CTok.cons Rb (CTok.cons JK (CTok.cons Lv (CTok.cons Xl (CTok.cons Or (CTok.nil _)))))) Tryz.func243 (λ (i:(List V2)×Pq)=>[(6,.mk 11 (Nat) (λ x1=>let Z1:=Iu i.1 i.2 (x1-1);{ tm:=[(3,tP 1 0),(4,tP 6 0),(6,tP 7 0),(7,tI (nI x1)),(5,tX 10)],en:=[(1,.box [kB (decide (i.2.x.z<0)),.ext 2,.ext 3,kB (decide (i.2.y.z<0)),.ext 4,.ext 5]),(6,.box [kB false,.im (Value.slice none 0 0),.im (Value.slice none 0 0)]),(7,.box [kB (decide (Z1.z<0)),.ext 8,.ext 9]),(2,eV (L i.2.x.z.natAbs)),(3,eV (L i.2.x.d)),(4,eV (L i.2.y.z.natAbs)),(5,eV (L i.2.y.d)),(8,.view 3 [.int] (L Z1.z.natAbs) [10]),(9,.view 3 [.int] (L Z1.d) [10]),(10,.own 110 L2 (B6 i.1))] }) (λ x1=>1<=x1/\x1<=i.1.length) (λ x1=>i.1.length-x1) (λ _=>[]))]) ?_
 rintro ⟨l,p⟩ hpre
 have hpre:l.all A2=true/\0<l.length/\l.length<=16:=hpre
 refine AH (q:=let Z14:=vB (decide (p.y.z<0));let Z13:=vB (decide (p.x.z<0));let Z11:=DC.sl 39 [.int,.int] (AJ l);let Z7:=Value.slice none 0 0;∃ i1:(List V2)×Pq,[DA.one Z11,dP p]=FH.args i1/\FH.pre i1/\(ifB ((decide ((RZ i1.1 i1.2)≥(0:Int)))) (∃ i2:Int,[DA.one (cI (0:Int))]=BG.args i2/\BG.pre i2/\((eqC (Fr.ofInt i2) (Fl l p)))) (∃ i3:(List V2),let Z15:=((B6 i3).length:Int);let Z4:=(B6 i3).getD 0 [];let Z3:=wR ((nI ((B6 i3).length))-(1:Int));let Z1:=(B6 i3).getD (Z3.toNat) [];[DA.one Z11]=Cf.args i3/\Cf.pre i3/\((0<=Z3/\Z3<Z15)/\((Z3.toNat<(B6 i3).length)/\((0<=(0:Int)/\(0:Int)<Z15)/\((0<(B6 i3).length)/\(∃ i4:Pq×Pq×Pq,let Z8:=Dn i4.1 i4.2.1 i4.2.2;[dP p,DA.agg [cB (((Z1.getD 0 (.int 0))).b),cS (((Z1.getD 1 (.int 0))).r),cS (((Z1.getD 2 (.int 0))).r),cB (((Z1.getD 3 (.int 0))).b),cS (((Z1.getD 4 (.int 0))).r),cS (((Z1.getD 5 (.int 0))).r)],DA.agg [cB (((Z4.getD 0 (.int 0))).b),cS (((Z4.getD 1 (.int 0))).r),cS (((Z4.getD 2 (.int 0))).r),cB (((Z4.getD 3 (.int 0))).b),cS (((Z4.getD 4 (.int 0))).r),cS (((Z4.getD 5 (.int 0))).r)]]=FT.args i4/\FT.pre i4/\((∃ x1:Nat,let Z9:=Iu l p (x1-1);(1<=x1/\x1<=l.length)/\((vI (1:Int)=vI (nI x1))/\(rf Z13)/\(rf Z14)/\(rf (vB false))/\(rf Z7)/\(rf Z7)/\(vB (decide (Z8.z<0))=vB (decide (Z9.z<0)))/\(rf (L p.x.z.natAbs))/\(rf (L p.x.d))/\(rf (L p.y.z.natAbs))/\(rf (L p.y.d))/\(L Z8.z.natAbs=(L Z9.z.natAbs))/\(L Z8.d=(L Z9.d))/\(B6 i3=(B6 l))))/\∀ x1:Nat,let Z6:=wR ((nI x1)-(1:Int));let Z5:=(B6 l).getD x1 [];let Z2:=(B6 l).getD (Z6.toNat) [];(1<=x1/\x1<=l.length)->(ifB ((decide ((nI x1)<(nI ((B6 l).length))))) ((0<=Z6/\Z6<((B6 l).length:Int))/\((Z6.toNat<(B6 l).length)/\((0<=(nI x1)/\(nI x1)<((B6 l).length:Int))/\((x1<(B6 l).length)/\(∃ i5:Pq×Pq×Pq,[dP p,DA.agg [cB (((Z2.getD 0 (.int 0))).b),cS (((Z2.getD 1 (.int 0))).r),cS (((Z2.getD 2 (.int 0))).r),cB (((Z2.getD 3 (.int 0))).b),cS (((Z2.getD 4 (.int 0))).r),cS (((Z2.getD 5 (.int 0))).r)],DA.agg [cB (((Z5.getD 0 (.int 0))).b),cS (((Z5.getD 1 (.int 0))).r),cS (((Z5.getD 2 (.int 0))).r),cB (((Z5.getD 3 (.int 0))).b),cS (((Z5.getD 4 (.int 0))).r),cS (((Z5.getD 5 (.int 0))).r)]]=FT.args i5/\FT.pre i5/\(∃ i6:Fr×Fr,let Z12:=Fr.min i6.1 i6.2;[dF (Iu l p (x1-1)),dF (Dn i5.1 i5.2.1 i5.2.2)]=Dh.args i6/\Dh.pre i6/\(∃ y2:Nat,let Z10:=Iu l p (y2-1);(1<=y2/\y2<=l.length)/\(l.length-y2<l.length-x1)/\((vI (wR ((nI x1)+(1:Int)))=vI (nI y2))/\(rf Z13)/\(rf Z14)/\(rf (vB false))/\(rf Z7)/\(rf Z7)/\(vB (decide (Z12.z<0))=vB (decide (Z10.z<0)))/\(rf (L p.x.z.natAbs))/\(rf (L p.x.d))/\(rf (L p.y.z.natAbs))/\(rf (L p.y.d))/\(L Z12.z.natAbs=(L Z10.z.natAbs))/\(L Z12.d=(L Z10.d))/\(rf (B6 l)))))))))) ((eqC (Iu l p (x1-1)) (Fl l p))))))))))))) (by kernel_rfl) ?_
 conv=>zeta
 delta ifB vB vI wR nI
 have hvl:=Ar l
 have hpl:=DQ l
 have hw:IntKind.i64.wrap ((((B6 l).length:Nat):Int)-(1:Int))=((l.length-1:Nat):Int):=by rw [hpl,AD (by omega) (by omega)];omega
 refine ⟨(l,p),by
  rfl,by
  exact hpre,?_⟩
 refine ⟨λ c4=>?_,λ c4=>?_⟩
 ·try simp only [nrm] at c4
  have hE:=Re c4
  refine ⟨(0:Int),by
   rfl,by
   trivial,?_⟩
  refine BT ?_
  rw [hE];done
 try simp only [nrm] at c4
 have hE:=Rf (l:=l) (p:=p) (by omega)
 refine ⟨l,by
  rfl,by
  exact ⟨hpre.1,by omega⟩,?_⟩
 refine ao (by omega) λ o14=>?_
 refine ao (by omega) λ o15=>?_
 refine ao (by omega) λ o16=>?_
 refine ao (by omega) λ o17=>?_
 refine ⟨(p,Cm l (l.length-1),Cm l 0),by
  rw [hw,Int.toNat_natCast,JR (by omega),JR hpre.2.1];rfl,by
  trivial,?_⟩
 refine ⟨⟨1,by
  exact ⟨Nat.le_refl _,hpre.2.1⟩,?_⟩,?_⟩
 ·refine ⟨?_,rfl,rfl,rfl,rfl,rfl,?_,rfl,rfl,rfl,rfl,?_,?_,rfl⟩
  ·rfl
  ·rw [J1 hpre.2.1]
  ·rw [J1 hpre.2.1]
  rw [J1 hpre.2.1]
 intro (k:Nat) hki21
 have hki21:1<=k/\k<=l.length:=hki21
 refine And.symm ⟨λ c37=>?_,λ c37=>?_⟩
 ·try simp only [nrm] at c37
  have hkn:k=l.length:=by omega
  refine BT ?_
  rw [hE,hkn];done
 try simp only [nrm] at c37
 have hw2:IntKind.i64.wrap (((k:Nat):Int)-(1:Int))=((k-1:Nat):Int):=by rw [AD (by omega) (by omega)];omega
 refine ao (by omega) λ o38=>?_
 refine ao (by omega) λ o39=>?_
 refine ao (by omega) λ o40=>?_
 refine ao (by omega) λ o41=>?_
 refine ⟨(p,Cm l (k-1),Cm l k),by
  rw [hw2,Int.toNat_natCast,JR (by omega),JR (by omega)];rfl,by
  trivial,?_⟩
 refine ⟨((Iu l p (k-1)),(Dn p (Cm l (k-1)) (Cm l k))),by
  rfl,by
  trivial,?_⟩
 refine ⟨k+1,by
  exact ⟨by omega,by omega⟩,by
  omega,?_⟩
 refine ⟨?_,rfl,rfl,rfl,rfl,rfl,?_,rfl,rfl,rfl,rfl,?_,?_,rfl⟩
 ·exact AK (AD (by omega) (by omega))
 ·rw [LI (by omega) (by omega)]
 ·rw [LI (by omega) (by omega)]
 rw [LI (by omega) (by omega)]
def F9:Con:={ ι:=(List V2)×PtD,pre:=λ i=>i.2.has,args:=λ i=>[.one (DC.sl 39 [.int,.int] (AJ i.1)),DA.agg [cB i.2.x.neg,cS i.2.x.num,cS i.2.x.den,cB i.2.y.neg,cS i.2.y.num,cS i.2.y.den]],res:=λ i=>⟨false,[some 3],[rcB (decide ((spR i.1 i.2).z<0)),.view 3 [.int] (L (spR i.1 i.2).z.natAbs),.view 3 [.int] (L (spR i.1 i.2).d)]⟩ }
set_option maxHeartbeats 4000000 in
theorem TF:F9.Ok Tryz.prog 236:=by
 refine fok (X:=⟨tt,[(89,Bu),(238,Bw),(275,Ee),(90,Af),(59,AZ),(276,EY),(160,C4)],[],56,[]⟩) AI AF (CTok.cons J0 (CTok.cons KZ (CTok.cons Ps (CTok.cons EC (CTok.cons F8 (CTok.cons Vv (CTok.cons Nf (CTok.nil _)))))))) Tryz.func236 (λ (i:(List V2)×PtD)=>[(7,.mk 11 (Nat) (λ x1=>let Z1:=L6 i.1 (pqR i.2) x1;{ tm:=[(0,tX 1),(3,tP 2 0),(4,tP 7 0),(5,tP 8 0),(32,tX 1),(33,tI (nI ((AJ i.1).length))),(34,tI (nI x1))],en:=[(2,.box [kB i.2.x.neg,.ext 3,.ext 4,kB i.2.y.neg,.ext 5,.ext 6]),(7,.box [kB false,.im (Value.slice none 0 0),.im (Value.slice none 0 0)]),(8,.box [kB (decide (Z1.z<0)),.ext 9,.ext 10]),(1,.view 39 [.int,.int] (AJ i.1) []),(3,eV i.2.x.num),(4,eV i.2.x.den),(5,eV i.2.y.num),(6,eV i.2.y.den),(9,eV (L Z1.z.natAbs)),(10,eV (L Z1.d))] }) (λ x1=>x1<=i.1.length) (λ x1=>i.1.length-x1) (λ _=>[]))]) ?_
 rintro ⟨l,p⟩ hpre
 have hpre:p.has:=hpre
 refine AH (q:=let Z9:=DC.sl 39 [.int,.int] (AJ l);let Z4:=Value.slice none 0 0;let Z3:=((AJ l).length:Int);let Z2:=nI ((AJ l).length);∃ i1:(List V2),[DA.one Z9]=Bu.args i1/\Bu.pre i1/\(ifB ((!(!(BA i1)))) (∃ i2:PtD×Bool,[DA.agg [cB p.x.neg,cS p.x.num,cS p.x.den,cB p.y.neg,cS p.y.num,cS p.y.den]]=Bw.args i2/\Bw.pre i2/\(ifB ((!i2.2)) ((eqN (spR l p))) (∃ i3:(List V2)×PtD,[DA.one Z9,DA.agg [cB p.x.neg,cS p.x.num,cS p.x.den,cB p.y.neg,cS p.y.num,cS p.y.den]]=Ee.args i3/\Ee.pre i3/\(ifB ((decide ((cpZ i3.1 i3.2)≥(0:Int)))) (∃ i4:Int,[DA.one (cI (0:Int))]=Af.args i4/\Af.pre i4/\((eqC (Fr.ofInt i4) (spR l p)))) ((0<=(0:Int)/\(0:Int)<Z3)/\((0<(AJ l).length)/\(∃ i5:Int×Int,let Z12:=Fr.ofInt i5.2;let Z11:=Fr.ofInt i5.1;[DA.agg [cI (((((AJ l).getD 0 []).getD 0 (.int 0))).n),cI (((((AJ l).getD 0 []).getD 1 (.int 0))).n)]]=AZ.args i5/\AZ.pre i5/\((0<=(1:Int)/\(1:Int)<Z3)/\((1<(AJ l).length)/\(∃ i6:Int×Int,let Z14:=Fr.ofInt i6.2;let Z13:=Fr.ofInt i6.1;[DA.agg [cI (((((AJ l).getD 1 []).getD 0 (.int 0))).n),cI (((((AJ l).getD 1 []).getD 1 (.int 0))).n)]]=AZ.args i6/\AZ.pre i6/\(∃ i7:Pq×Pq×Pq,let Z5:=Dn i7.1 i7.2.1 i7.2.2;[DA.agg [cB p.x.neg,cS p.x.num,cS p.x.den,cB p.y.neg,cS p.y.num,cS p.y.den],DA.agg [cB (decide (Z11.z<0)),cS (L Z11.z.natAbs),cS (L Z11.d),cB (decide (Z12.z<0)),cS (L Z12.z.natAbs),cS (L Z12.d)],DA.agg [cB (decide (Z13.z<0)),cS (L Z13.z.natAbs),cS (L Z13.d),cB (decide (Z14.z<0)),cS (L Z14.z.natAbs),cS (L Z14.d)]]=EY.args i7/\EY.pre i7/\((∃ x1:Nat,let Z6:=L6 l (pqR p) x1;(x1<=l.length)/\((rf (vI Z2))/\(vI (0:Int)=vI (nI x1))/\(rf (vB p.x.neg))/\(rf (vB p.y.neg))/\(rf (vB false))/\(rf Z4)/\(rf Z4)/\(vB (decide (Z5.z<0))=vB (decide (Z6.z<0)))/\(rf (AJ l))/\(rf (p.x.num))/\(rf (p.x.den))/\(rf (p.y.num))/\(rf (p.y.den))/\(L Z5.z.natAbs=(L Z6.z.natAbs))/\(L Z5.d=(L Z6.d))))/\∀ x1:Nat,let Z15:=wR ((nI x1)+(1:Int));let Z1:=Int.tmod Z15 Z2;let Z10:=(AJ l).getD (Z1.toNat) [];(x1<=l.length)->(ifB ((decide ((nI x1)<Z2))) ((0<=(nI x1)/\(nI x1)<Z3)/\((x1<(AJ l).length)/\(∃ i8:Int×Int,let Z17:=Fr.ofInt i8.2;let Z16:=Fr.ofInt i8.1;[DA.agg [cI (((((AJ l).getD x1 []).getD 0 (.int 0))).n),cI (((((AJ l).getD x1 []).getD 1 (.int 0))).n)]]=AZ.args i8/\AZ.pre i8/\((Z2≠0)/\((0<=Z1/\Z1<Z3)/\((Z1.toNat<(AJ l).length)/\(∃ i9:Int×Int,let Z19:=Fr.ofInt i9.2;let Z18:=Fr.ofInt i9.1;[DA.agg [cI (((Z10.getD 0 (.int 0))).n),cI (((Z10.getD 1 (.int 0))).n)]]=AZ.args i9/\AZ.pre i9/\(∃ i10:Pq×Pq×Pq,[DA.agg [cB p.x.neg,cS p.x.num,cS p.x.den,cB p.y.neg,cS p.y.num,cS p.y.den],DA.agg [cB (decide (Z16.z<0)),cS (L Z16.z.natAbs),cS (L Z16.d),cB (decide (Z17.z<0)),cS (L Z17.z.natAbs),cS (L Z17.d)],DA.agg [cB (decide (Z18.z<0)),cS (L Z18.z.natAbs),cS (L Z18.d),cB (decide (Z19.z<0)),cS (L Z19.z.natAbs),cS (L Z19.d)]]=EY.args i10/\EY.pre i10/\(∃ i11:Fr×Fr,let Z7:=Fr.min i11.1 i11.2;[dF (L6 l (pqR p) x1),dF (Dn i10.1 i10.2.1 i10.2.2)]=C4.args i11/\C4.pre i11/\(∃ y2:Nat,let Z8:=L6 l (pqR p) y2;(y2<=l.length)/\(l.length-y2<l.length-x1)/\((rf (vI Z2))/\(vI Z15=vI (nI y2))/\(rf (vB p.x.neg))/\(rf (vB p.y.neg))/\(rf (vB false))/\(rf Z4)/\(rf Z4)/\(vB (decide (Z7.z<0))=vB (decide (Z8.z<0)))/\(rf (AJ l))/\(rf (p.x.num))/\(rf (p.x.den))/\(rf (p.y.num))/\(rf (p.y.den))/\(L Z7.z.natAbs=(L Z8.z.natAbs))/\(L Z7.d=(L Z8.d))))))))))))) ((eqC (L6 l (pqR p) x1) (spR l p)))))))))))))))) ((eqN (spR l p))))) (by kernel_rfl) ?_
 conv=>zeta
 delta ifB vB vI wR nI
 have hvl:=Ar l
 have hpl:=DQ l
 refine ⟨l,by
  rfl,by
  trivial,?_⟩
 refine And.symm ⟨λ c4=>?_,λ c4=>?_⟩
 ·try simp only [nrm] at c4
  have hE:=Uh (p:=p) c4
  refine A4 ?_
  rw [hE];done
 try simp only [nrm] at c4
 refine ⟨(p,(okP p)),by
  rfl,by
  exact ⟨hpre,rfl⟩,?_⟩
 refine ⟨λ c8=>?_,λ c8=>?_⟩
 ·try simp only [nrm] at c8
  have hE:=Ui (l:=l) c8
  refine A4 ?_
  rw [hE];done
 try simp only [nrm] at c8
 have hE:=Uj c4 c8
 obtain ⟨e1,e2,e3,e4,e5,e6,e7,e8⟩:=TC hpre c8
 have hP:=EW c4
 have hk:=Ud c4 c8
 refine ⟨(l,p),by
  rfl,by
  exact hpre,?_⟩
 refine ⟨λ c15=>?_,λ c15=>?_⟩
 ·try simp only [nrm] at c15
  have hE:=hE.trans (Re (by rw [← hk];exact c15))
  refine ⟨(0:Int),by
   rfl,by
   show -9223372036854775808<=(0:Int)/\(0:Int)<=9223372036854775807
   omega,?_⟩
  refine BT ?_
  rw [hE];done
 try simp only [nrm] at c15
 have hE:=hE.trans (Rf (by rw [← hk];omega))
 have hT:=Xj (p:=pqR p) hP.1
 have hF0:Dn (pqR p) (Cm l 0) (Cm l 1)=L6 l (pqR p) 0:=by
  show _=Dn _ _ (Cm l ((0+1)%l.length))
  rw [Nat.mod_eq_of_lt (by omega)]
 refine ao (by omega) λ o22=>?_
 refine ao (by omega) λ o23=>?_
 refine ⟨((l.getD 0 (0,0)).1,(l.getD 0 (0,0)).2),by
  rw [Dk (by omega),Dl (by omega)];rfl,by
  exact F7 hP.2.2 (by omega),?_⟩
 refine ao (by omega) λ o27=>?_
 refine ao (by omega) λ o28=>?_
 refine ⟨((l.getD 1 (0,0)).1,(l.getD 1 (0,0)).2),by
  rw [Dk (by omega),Dl (by omega)];rfl,by
  exact F7 hP.2.2 (by omega),?_⟩
 refine ⟨(pqR p,Cm l 0,Cm l 1),by
  rw [e1,e2,e3,e4,e5,e6];rfl,by
  exact O0 hP.2.2 (by omega),?_⟩
 refine ⟨⟨0,by
  omega,?_⟩,?_⟩
 ·refine ⟨rfl,?_,rfl,rfl,rfl,rfl,rfl,?_,rfl,rfl,rfl,rfl,rfl,?_,?_⟩
  ·rfl
  ·rw [hF0]
  ·rw [hF0]
  rw [hF0]
 intro (k:Nat) hki35
 have hki35:k<=l.length:=hki35
 refine And.symm ⟨λ c52=>?_,λ c52=>?_⟩
 ·try simp only [nrm] at c52
  refine BT ?_
  rw [hE,← hT,show k=l.length by omega]
 try simp only [nrm] at c52
 have hkl:k<l.length:=by omega
 have m2:(k+1)%l.length<l.length:=(EE hkl (by omega)).2.1
 have m1:(Int.tmod (IntKind.i64.wrap (((k:Nat):Int)+(1:Int))) (((AJ l).length:Nat):Int)).toNat=(k+1)%l.length:=by rw [hvl];exact (EE hkl (by omega)).1
 have m3:Int.tmod (IntKind.i64.wrap (((k:Nat):Int)+(1:Int))) (((AJ l).length:Nat):Int)=(((k+1)%l.length:Nat):Int):=by rw [hvl];exact (EE hkl (by omega)).2.2
 refine ao (by omega) λ o53=>?_
 refine ao (by omega) λ o54=>?_
 refine ⟨((l.getD k (0,0)).1,(l.getD k (0,0)).2),by
  rw [Dk (by omega),Dl (by omega)];rfl,by
  exact F7 hP.2.2 hkl,?_⟩
 refine ao (by omega) λ o58=>?_
 refine ao (by omega) λ o59=>?_
 refine ao (by omega) λ o60=>?_
 refine ⟨((l.getD ((k+1)%l.length) (0,0)).1,(l.getD ((k+1)%l.length) (0,0)).2),by
  rw [m1,Dk m2,Dl m2];rfl,by
  try dsimp only [AZ]
  exact F7 hP.2.2 m2,?_⟩
 refine ⟨(pqR p,Cm l k,Cm l ((k+1)%l.length)),by
  rw [e1,e2,e3,e4,e5,e6];rfl,by
  exact O0 hP.2.2 hkl,?_⟩
 refine ⟨((L6 l (pqR p) k),(Dn (pqR p) (Cm l k) (Cm l ((k+1)%l.length)))),by
  rfl,by
  trivial,?_⟩
 refine ⟨k+1,by
  trivial,by
  omega,?_⟩
 refine ⟨rfl,?_,rfl,rfl,rfl,rfl,rfl,?_,rfl,rfl,rfl,rfl,rfl,?_,?_⟩
 ·exact AK (AD (by omega) (by omega))
 ·rfl
 ·rfl
 rfl
def dtB (l:List V2) (p:PtD) (n:Int):Bool:=decide (n≥0) && ((spR l p).good && decide (Fr.cmp (spR l p) (Fr.ofInt n)<=0))
theorem O4 {l:List V2} {p:PtD} {n:Int} (h:n<0∨(spR l p).good=false):dtB l p n=false:=by
 unfold dtB
 rcases h with h|h
 ·rw [decide_eq_false (show ¬ n≥0 by omega)];rfl
 ·rw [h];simp
theorem Xm {l:List V2} {p:PtD} {n:Int} (h:0<=n) (h2:(spR l p).good=true):dtB l p n=decide (Fr.cmp (spR l p) (Fr.ofInt n)<=0):=by
 unfold dtB;rw [decide_eq_true (show n≥0 by omega),h2];rfl
def JV:Con:={ ι:=(List V2)×PtD×Int,pre:=λ i=>i.2.1.has/\i.2.2<=9223372036854775807,args:=λ i=>[.one (DC.sl 39 [.int,.int] (AJ i.1)),DA.agg [cB i.2.1.x.neg,cS i.2.1.x.num,cS i.2.1.x.den,cB i.2.1.y.neg,cS i.2.1.y.num,cS i.2.1.y.den],.one (cI i.2.2)],res:=λ i=>⟨false,[none],[rcB (dtB i.1 i.2.1 i.2.2)]⟩ }
theorem Xn:JV.Ok Tryz.prog 190:=by
 refine fok (X:=⟨tt,[(150,C5),(242,BQ),(243,H9),(214,AU),(129,BG),(153,Ab)],[],33,[]⟩) AI AF (CTok.cons Nr (CTok.cons H7 (CTok.cons Vw (CTok.cons Du (CTok.cons JK (CTok.cons ES (CTok.nil _))))))) Tryz.func190 (λ _=>[]) ?_
 rintro ⟨l,p,n⟩ hpre
 have hpre:p.has/\n<=9223372036854775807:=hpre
 refine AH (q:=let Z2:=DC.sl 39 [.int,.int] (AJ l);let Z1:=(vB false=vB (dtB l p n));∃ i1:(List V2),[DA.one Z2]=C5.args i1/\C5.pre i1/\(ifB ((!(!(BA i1)))) (∃ i2:(List (List Dat)),[DA.one (DC.sl 110 L2 ([[Dat.bool p.x.neg,Dat.sl p.x.num,Dat.sl p.x.den,Dat.bool p.y.neg,Dat.sl p.y.num,Dat.sl p.y.den]]:List (List Dat)))]=BQ.args i2/\BQ.pre i2/\(ifB ((!(!(!(i2.any (λ r=>!(okP (ED r)))))))) (ifB ((decide (n<(0:Int)))) Z1 (∃ i3:(List V2)×Pq,[DA.one Z2,DA.agg [cB p.x.neg,cS p.x.num,cS p.x.den,cB p.y.neg,cS p.y.num,cS p.y.den]]=H9.args i3/\H9.pre i3/\(∃ i4:Fr,[dF (Fl i3.1 i3.2)]=AU.args i4/\AU.pre i4/\(ifB (i4.good) (∃ i5:Int,[DA.one (cI n)]=BG.args i5/\BG.pre i5/\(∃ i6:Fr×Fr,[dF (Fl i3.1 i3.2),dF (Fr.ofInt i5)]=Ab.args i6/\Ab.pre i6/\((vB (decide ((Fr.cmp i6.1 i6.2)<=(0:Int)))=vB (dtB l p n))))) Z1)))) Z1)) Z1)) (by kernel_rfl) ?_
 conv=>zeta
 delta ifB vB
 have hvl:=Ar l
 have hpl:=DQ l
 refine ⟨l,by
  rfl,by
  trivial,?_⟩
 refine And.symm ⟨λ c4=>?_,λ c4=>?_⟩
 ·try simp only [nrm] at c4
  have hE:dtB l p n=false:=O4 (.inr (by rw [Uh c4];rfl))
  rw [hE]
 try simp only [nrm] at c4
 refine ⟨([[Dat.bool p.x.neg,Dat.sl p.x.num,Dat.sl p.x.den,Dat.bool p.y.neg,Dat.sl p.y.num,Dat.sl p.y.den]]:List (List Dat)),by
  rfl,by
  try dsimp only [BQ]
  exact ⟨by show 1<=_;decide,Pp hpre.1⟩,?_⟩
 refine And.symm ⟨λ c8=>?_,λ c8=>?_⟩
 ·try simp only [nrm] at c8
  have c8:okP p=false:=by have h:=(Yg p).symm.trans c8;simpa using h
  have hE:dtB l p n=false:=O4 (.inr (by rw [Ui c8];rfl))
  rw [hE]
 try simp only [nrm] at c8
 have c8:okP p=true:=by have h:=(Yg p).symm.trans c8;simpa using h
 have hS:=Uj c4 c8
 obtain ⟨e1,e2,e3,e4,e5,e6,e7,e8⟩:=TC hpre.1 c8
 refine ⟨λ c9=>?_,λ c9=>?_⟩
 ·try simp only [nrm] at c9
  have hE:dtB l p n=false:=O4 (.inl c9)
  rw [hE]
 try simp only [nrm] at c9
 refine ⟨(l,pqR p),by
  rw [e1,e2,e3,e4,e5,e6];rfl,by
  show l.all A2=true/\0<l.length/\l.length<=16
  have:=EW c4
  exact ⟨this.2.2,by omega,by omega⟩,?_⟩
 refine ⟨(Fl l (pqR p)),by
  rfl,by
  trivial,?_⟩
 refine And.symm ⟨λ c17=>?_,λ c17=>?_⟩
 ·try simp only [nrm] at c17
  have hE:dtB l p n=false:=O4 (.inr (by rw [hS];exact c17))
  rw [hE]
 try simp only [nrm] at c17
 have hE:=Xm (l:=l) (p:=p) c9 (by rw [hS];exact c17)
 rw [hS] at hE
 refine ⟨n,by
  rfl,by
  exact ⟨by omega,hpre.2⟩,?_⟩
 refine ⟨((Fl l (pqR p)),(Fr.ofInt n)),by
  rfl,by
  trivial,?_⟩
 rw [hE]
def JW:Con:={ ι:=(List V2)×PtD×Int,pre:=λ i=>i.2.1.has/\i.2.2<=9223372036854775807,args:=λ i=>[.one (DC.sl 39 [.int,.int] (AJ i.1)),DA.agg [cB i.2.1.x.neg,cS i.2.1.x.num,cS i.2.1.x.den,cB i.2.1.y.neg,cS i.2.1.y.num,cS i.2.1.y.den],.one (cI i.2.2)],res:=λ i=>⟨false,[none],[rcB (dtB i.1 i.2.1 i.2.2)]⟩ }
theorem Xo:JW.Ok Tryz.prog 181:=by
 refine fok (X:=⟨tt,[(236,F9),(146,AB),(90,Af),(94,Ad)],[],24,[]⟩) AI AF (CTok.cons TF (CTok.cons CC (CTok.cons EC (CTok.cons Fj (CTok.nil _))))) Tryz.func181 (λ _=>[]) ?_
 rintro ⟨l,p,n⟩ hpre
 have hpre:p.has/\n<=9223372036854775807:=hpre
 refine AH (q:=let Z1:=(vB false=vB (dtB l p n));∃ i1:(List V2)×PtD,[DA.one (DC.sl 39 [.int,.int] (AJ l)),DA.agg [cB p.x.neg,cS p.x.num,cS p.x.den,cB p.y.neg,cS p.y.num,cS p.y.den]]=F9.args i1/\F9.pre i1/\(∃ i2:Bool×(List (List Dat))×(List (List Dat))×Bool,[dF (spR i1.1 i1.2)]=AB.args i2/\AB.pre i2/\(ifB (i2.2.2.2) (ifB ((decide (n≥(0:Int)))) (∃ i3:Int,[DA.one (cI n)]=Af.args i3/\Af.pre i3/\(∃ i4:Fr×Fr,[dF (spR i1.1 i1.2),dF (Fr.ofInt i3)]=Ad.args i4/\Ad.pre i4/\((vB (decide ((Fr.cmp i4.1 i4.2)<=(0:Int)))=vB (dtB l p n))))) Z1) Z1))) (by kernel_rfl) ?_
 conv=>zeta
 delta ifB vB
 have hvl:=Ar l
 have hpl:=DQ l
 have n1:=(spR l p).nlz
 have n2:=(spR l p).nld
 have l1:=AQ (spR l p).z.natAbs
 have l2:=AQ (spR l p).d
 refine ⟨(l,p),by
  rfl,by
  exact hpre.1,?_⟩
 refine ⟨((decide ((spR l p).z<0)),L (spR l p).z.natAbs,L (spR l p).d,(spR l p).good),by
  rfl,by
  try dsimp only [AB]
  exact ⟨Be _ (by omega),Be _ (by omega),by omega,by omega,BN _⟩,?_⟩
 refine And.symm ⟨λ c7=>?_,λ c7=>?_⟩
 ·try simp only [nrm] at c7
  have hE:dtB l p n=false:=O4 (.inr c7)
  rw [hE]
 try simp only [nrm] at c7
 refine And.symm ⟨λ c8=>?_,λ c8=>?_⟩
 ·try simp only [nrm] at c8
  have hE:dtB l p n=false:=O4 (.inl c8)
  rw [hE]
 try simp only [nrm] at c8
 have hE:=Xm (l:=l) (p:=p) c8 c7
 refine ⟨n,by
  rfl,by
  exact ⟨by omega,hpre.2⟩,?_⟩
 refine ⟨((spR l p),(Fr.ofInt n)),by
  rfl,by
  trivial,?_⟩
 rw [hE]
end Go.Proofs.YtmedodfenejimaaGreat
