import Derived.Test.YtdgmbbjoifneiaaGreatDoorPyRkE
import Derived.Test.YtdgmbbjoifneiaaGreatDoorPyScW
namespace Go.Proofs.YtdgmbbjoifneiaaGreatDoor
set_option maxRecDepth 100000
set_option linter.unusedVariables false
set_option linter.unusedSimpArgs false
open Go.RowKit
def B8:Con:={ ι:=Int×Int,pre:=λ i=>True,args:=λ i=>[DA.agg [cI i.1,cI i.2]],res:=λ i=>⟨false,[none],[rcB (AE (i.1,i.2))]⟩ }
theorem Ld:B8.Ok Tryz.prog 20:=CF rfl ⟨_,Tryz.func20,by decide,rfl⟩ (λ _=>Nat.le_of_ble_eq_true rfl) (λ _=>rfl) (λ i=>[.im (.bool (AE (i.1,i.2)))]) (λ _=>rfl) (λ _=>rfl) (λ i hp w us h=>by
 obtain ⟨x,y⟩:=i
 have h:RdRow w [.int,.int] [.int x,.int y] us:=h
 obtain ⟨a,_,rfl,q1,h⟩:=RdRow.cons2 h
 obtain ⟨b,_,rfl,q2,h⟩:=RdRow.cons2 h
 obtain ⟨-,rfl⟩:=RdRow.nil_inv h
 obtain rfl:=Rd.int2 q1
 obtain rfl:=Rd.int2 q2
 refine (QA x y w).mono ?_
 rintro e w' ⟨rfl,hb⟩
 exact ⟨[Value.bool (AE (x,y))],rfl,Own.leaf (Fp.mk_bool _),hb⟩)
def Ex:Con:={ ι:=Int×Int,pre:=λ i=>True,args:=λ i=>[DA.agg [cI i.1,cI i.2]],res:=λ i=>⟨false,[none],[rcB (AE (i.1,i.2))]⟩ }
theorem Rv:Ex.Ok Tryz.prog 53:=CF rfl ⟨_,Tryz.func53,by decide,rfl⟩ (λ _=>Nat.le_of_ble_eq_true rfl) (λ _=>rfl) (λ i=>[.im (.bool (AE (i.1,i.2)))]) (λ _=>rfl) (λ _=>rfl) (λ i hp w us h=>by
 obtain ⟨x,y⟩:=i
 have h:RdRow w [.int,.int] [.int x,.int y] us:=h
 obtain ⟨a,_,rfl,q1,h⟩:=RdRow.cons2 h
 obtain ⟨b,_,rfl,q2,h⟩:=RdRow.cons2 h
 obtain ⟨-,rfl⟩:=RdRow.nil_inv h
 obtain rfl:=Rd.int2 q1
 obtain rfl:=Rd.int2 q2
 refine (BI x y w).mono ?_
 rintro e w' ⟨rfl,hb⟩
 exact ⟨[Value.bool (AE (x,y))],rfl,Own.leaf (Fp.mk_bool _),hb⟩)
def AY:Con:={ ι:=(List V2),pre:=λ i=>True,args:=λ i=>[.one (DC.sl 26 [.int,.int] (AA i))],res:=λ i=>⟨false,[none],[rcB (AI i)]⟩ }
theorem Ca:AY.Ok Tryz.prog 24:=CF rfl ⟨_,Tryz.func24,by decide,rfl⟩ (λ _=>Nat.le_of_ble_eq_true rfl) (λ _=>rfl) (λ l=>[.im (.bool (AI l))]) (λ _=>rfl) (λ _=>rfl) (λ i hp w us h=>by
 have h:RdRow w [.sl 26 [.int,.int]] [.sl (AA i)] us:=h
 obtain ⟨v,vs,rfl,h1,h2⟩:=RdRow.cons2 h
 obtain ⟨-,rfl⟩:=RdRow.nil_inv h2
 refine (NY i v w (Rd.vecs h1)).mono ?_
 rintro e w' ⟨rfl,hb⟩
 exact ⟨[Value.bool (AI i)],rfl,Own.leaf (Fp.mk_bool _),hb⟩)
def D3:Con:={ ι:=(List V2),pre:=λ i=>True,args:=λ i=>[.one (DC.sl 26 [.int,.int] (AA i))],res:=λ i=>⟨false,[none],[rcB (AI i)]⟩ }
theorem PZ:D3.Ok Tryz.prog 35:=CF rfl ⟨_,Tryz.func35,by decide,rfl⟩ (λ _=>Nat.le_of_ble_eq_true rfl) (λ _=>rfl) (λ l=>[.im (.bool (AI l))]) (λ _=>rfl) (λ _=>rfl) (λ i hp w us h=>by
 have h:RdRow w [.sl 26 [.int,.int]] [.sl (AA i)] us:=h
 obtain ⟨v,vs,rfl,h1,h2⟩:=RdRow.cons2 h
 obtain ⟨-,rfl⟩:=RdRow.nil_inv h2
 refine (L6 i v w (Rd.vecs h1)).mono ?_
 rintro e w' ⟨rfl,hb⟩
 exact ⟨[Value.bool (AI i)],rfl,Own.leaf (Fp.mk_bool _),hb⟩)
theorem Pa {l:List V2} (h:AI l=true):3<=l.length/\l.length<=16/\l.all AE=true:=by
 simp only [AI,Bool.and_eq_true,Dm] at h
 exact ⟨by omega,by omega,h.1.2⟩
def frR (r:RatD):Fr:=Fr.mk' (zOf r.neg (Io r.num)) (Io r.den)
def okR (r:RatD):Bool:=A7 r.neg r.num r.den
def okP (p:PtD):Bool:=okR p.x && okR p.y
def pqR (p:PtD):Pq:=⟨frR p.x,frR p.y⟩
def RatD.has (r:RatD):Prop:=Dat.has (.sl 3 [.int]) (.sl r.num)/\Dat.has (.sl 3 [.int]) (.sl r.den)
def PtD.has (p:PtD):Prop:=p.x.has/\p.y.has
theorem MK {r:Fr} (h:r.d≠0):Fr.mk' r.z r.d=r:=by
 obtain ⟨q,hq,e1,e2⟩:=Fr.some_d h
 rw [e1,e2]
 unfold Fr.mk'
 rw [Rat.mkRat_self]
 exact (Fr.of_some hq).symm
theorem Tu {r:RatD} (hh:r.has) (h:okR r=true):r.neg=decide ((frR r).z<0)/\r.num=L (frR r).z.natAbs/\r.den=L (frR r).d/\(frR r).d≠0:=by
 obtain ⟨s,hd,e1,e2,e3⟩:=PQ hh.1 hh.2 h
 rw [Fr.neg_z] at e1
 rw [Fr.num_z] at e2
 rw [Fr.den_d] at e3
 have:frR r=s:=by
  unfold frR
  rw [e1,e2,e3,CN,CN,J8,MK hd]
 rw [this]
 exact ⟨e1,e2,e3,hd⟩
theorem N9 {p:PtD} (h:okP p=true):okR p.x=true/\okR p.y=true:=by
 unfold okP at h;rwa [Bool.and_eq_true] at h
theorem Wo {p:PtD} (hh:p.has) (h:okP p=true):p.x.neg=decide ((pqR p).x.z<0)/\p.x.num=L (pqR p).x.z.natAbs/\p.x.den=L (pqR p).x.d/\p.y.neg=decide ((pqR p).y.z<0)/\p.y.num=L (pqR p).y.z.natAbs/\p.y.den=L (pqR p).y.d/\(pqR p).x.d≠0/\(pqR p).y.d≠0:=by
 obtain ⟨a1,a2,a3,a4⟩:=Tu hh.1 (N9 h).1
 obtain ⟨b1,b2,b3,b4⟩:=Tu hh.2 (N9 h).2
 exact ⟨a1,a2,a3,b1,b2,b3,a4,b4⟩
def Cw (r:List Dat):PtD:=⟨⟨(r.getD 0 (.int 0)).b,(r.getD 1 (.int 0)).r,(r.getD 2 (.int 0)).r⟩,⟨(r.getD 3 (.int 0)).b,(r.getD 4 (.int 0)).r,(r.getD 5 (.int 0)).r⟩⟩
def ptD (p:PtD):List Dat:=[.bool p.x.neg,.sl p.x.num,.sl p.x.den,.bool p.y.neg,.sl p.y.num,.sl p.y.den]
theorem XT (p:PtD):([ptD p].any λ r=>!(okP (Cw r)))=!(okP p):=by
 show (!(okP p) || false)=_;rw [Bool.or_false]
theorem I4 {m:List (List Dat)} (h:Dat.has (.sl 3 [.int]) (.sl m)):m.length<=9223372036854775807:=U6 h
def ptV (v:V2):Pq:=⟨Fr.ofInt v.1,Fr.ofInt v.2⟩
def Tv (p:Pq):List Dat:=[.bool (decide (p.x.z<0)),.sl (L p.x.z.natAbs),.sl (L p.x.d),.bool (decide (p.y.z<0)),.sl (L p.y.z.natAbs),.sl (L p.y.d)]
def CO (l:List V2):List (List Dat):=l.map λ v=>Tv (ptV v)
def Ey (l:List V2) (k:Nat):Pq:=ptV (l.getD k (0,0))
theorem HG (l:List V2):(CO l).length=l.length:=by simp [CO]
theorem Qe {l:List V2} {k:Nat} (h:k<l.length):(CO l).getD k []=Tv (Ey l k):=by
 simp [CO,List.getD,h,Ey]
theorem Rw {l:List V2} {k:Nat} (h:k<l.length):CO (l.take k)++[Tv (Ey l k)]=CO (l.take (k+1)):=by
 rw [Bz l (0,0) k h];simp [CO,Ey]
def EW (p q r:Pq):Int:=(Fr.sub (Fr.mul (Fr.sub q.x p.x) (Fr.sub r.y p.y)) (Fr.mul (Fr.sub q.y p.y) (Fr.sub r.x p.x))).sgn
def HL (l:List V2) (p:Pq):Nat->Int
 | 0=>1
 | k+1=>min (HL l p k) (EW (Ey l k) (Ey l ((k+1)%l.length)) p)
def Kc (l:List V2) (p:Pq):Int:=HL l p l.length
def cpZ (l:List V2) (p:PtD):Int:=if AI l=true/\okP p=true then Kc l (pqR p) else -1
theorem VY {l:List V2} (h:l.all AE=true) {k:Nat} (hk:k<l.length):(-9223372036854775808<=(l.getD k (0,0)).1/\(l.getD k (0,0)).1<=9223372036854775807)/\-9223372036854775808<=(l.getD k (0,0)).2/\(l.getD k (0,0)).2<=9223372036854775807:=by
 have:=AW h hk
 have:=Ay this
 omega
theorem KC {k n:Nat} (hk:k<n) (hn:n<=1048576):(Int.tmod (IntKind.i64.wrap (((k:Nat):Int)+(1:Int))) ((n:Nat):Int)).toNat=(k+1)%n/\(k+1)%n<n/\Int.tmod (IntKind.i64.wrap (((k:Nat):Int)+(1:Int))) ((n:Nat):Int)=(((k+1)%n:Nat):Int):=by
 have e:Int.tmod (IntKind.i64.wrap (((k:Nat):Int)+(1:Int))) ((n:Nat):Int)=(((k+1)%n:Nat):Int):=by
  rw [AF (by omega) (by omega),show ((k:Nat):Int)+1=((k+1:Nat):Int) by omega,V6]
 refine ⟨by rw [e];omega,Nat.mod_lt _ (by omega),e⟩
theorem VZ {p:PtD} (h:p.has):∀ k,k < [ptD p].length->(Cw ([ptD p].getD k [])).has:=λ k hk=>by
 obtain rfl:k=0:=by simp only [List.length_cons,List.length_nil] at hk;omega
 exact h
def ptQ (p:Pq):PtD:=⟨⟨decide (p.x.z<0),L p.x.z.natAbs,L p.x.d⟩,⟨decide (p.y.z<0),L p.y.z.natAbs,L p.y.d⟩⟩
theorem Va (p:Pq):(ptQ p).has:=by
 have h1:=p.x.nlz
 have h2:=p.x.nld
 have h3:=p.y.nlz
 have h4:=p.y.nld
 exact ⟨⟨Qd _ (by omega),Qd _ (by omega)⟩,Qd _ (by omega),Qd _ (by omega)⟩
theorem Wp (p:Pq):okP (ptQ p)=p.good:=by
 show (A7 (decide (p.x.z<0)) (L p.x.z.natAbs) (L p.x.d) && A7 (decide (p.y.z<0)) (L p.y.z.natAbs) (L p.y.d))=_
 rw [Lc,Lc];rfl
theorem Qf (p:PtD):okP p=(A7 p.x.neg p.x.num p.x.den && A7 p.y.neg p.y.num p.y.den):=rfl
theorem Vb {l:List V2} {p:PtD} (h:AI l=false):cpZ l p=-1:=by unfold cpZ;rw [if_neg (by rw [h];simp)]
theorem Vc {l:List V2} {p:PtD} (h:okP p=false):cpZ l p=-1:=by unfold cpZ;rw [if_neg (by rw [h];simp)]
theorem Qg {l:List V2} {p:PtD} (h:AI l=true) (h2:okP p=true):cpZ l p=Kc l (pqR p):=by unfold cpZ;rw [if_pos ⟨h,h2⟩]
def BJ:Con:={ ι:=Int×Int,pre:=λ i=>(-9223372036854775808<=i.1/\i.1<=9223372036854775807)/\-9223372036854775808<=i.2/\i.2<=9223372036854775807,args:=λ i=>[DA.agg [cI i.1,cI i.2]],res:=λ i=>⟨false,[some 6],[rcB (decide ((Fr.ofInt i.1).z<0)),.own 3 [.int] (L (Fr.ofInt i.1).z.natAbs),.own 3 [.int] (L (Fr.ofInt i.1).d),rcB (decide ((Fr.ofInt i.2).z<0)),.own 3 [.int] (L (Fr.ofInt i.2).z.natAbs),.own 3 [.int] (L (Fr.ofInt i.2).d)]⟩ }
theorem Ig:BJ.Ok Tryz.prog 15:=by
 refine fok (X:=⟨tt,[(32,CX)],[],10,[]⟩) mixed AP (CTok.cons Rq (CTok.nil _)) Tryz.func15 (λ _=>[]) ?_
 rintro ⟨x,y⟩ hpre
 have hpre:(-9223372036854775808<=x/\x<=9223372036854775807)/\-9223372036854775808<=y/\y<=9223372036854775807:=hpre
 refine AO (q:=∃ i1:Int,[DA.one (cI x)]=CX.args i1/\CX.pre i1/\(∃ i2:Int,[DA.one (cI y)]=CX.args i2/\CX.pre i2/\((eqD (Fr.ofInt i1) (Fr.ofInt x) ((eqC (Fr.ofInt i2) (Fr.ofInt y))))))) (by kernel_rfl) ?_
 refine ⟨x,by
  rfl,by
  show -9223372036854775808<=x/\x<=9223372036854775807
  first|omega|assumption|exact hpre.1|exact hpre.2|(simp;done),?_⟩
 refine ⟨y,by
  rfl,by
  show -9223372036854775808<=y/\y<=9223372036854775807
  first|omega|assumption|exact hpre.1|exact hpre.2|(simp;done),?_⟩
 exact Wl rfl (MJ rfl)
def F6:Con:={ ι:=PtD,pre:=λ i=>i.has,args:=λ i=>[DA.agg [cB i.x.neg,cS i.x.num,cS i.x.den,cB i.y.neg,cS i.y.num,cS i.y.den]],res:=λ i=>⟨false,[none],[rcB (okP i)]⟩ }
theorem Tw:F6.Ok Tryz.prog 49:=by
 refine fok (X:=⟨tt,[(70,DI)],[],11,[]⟩) mixed AP (CTok.cons Tt (CTok.nil _)) Tryz.func49 (λ _=>[]) ?_
 intro (p:PtD) hpre
 have hpre:p.has:=hpre
 refine AO (q:=let Z1:=List (List Dat);∃ i1:Bool×Z1×Z1,[DA.agg [cB p.x.neg,cS p.x.num,cS p.x.den]]=DI.args i1/\DI.pre i1/\(ifB ((A7 i1.1 i1.2.1 i1.2.2)) (∃ i2:Bool×Z1×Z1,[DA.agg [cB p.y.neg,cS p.y.num,cS p.y.den]]=DI.args i2/\DI.pre i2/\((vB (A7 i2.1 i2.2.1 i2.2.2)=vB (okP p)))) ((vB false=vB (okP p))))) (by kernel_rfl) ?_
 conv=>zeta
 delta ifB vB
 refine ⟨(p.x.neg,p.x.num,p.x.den),by
  rfl,by
  exact ⟨hpre.1.1,hpre.1.2,I4 hpre.1.1,I4 hpre.1.2⟩,?_⟩
 refine And.symm ⟨λ c4=>?_,λ c4=>?_⟩
 ·try simp only [nrm] at c4
  exact congrArg Value.bool (by rw [Qf,c4];first|rfl|(rw [Bool.true_and]))
 try simp only [nrm] at c4
 refine ⟨(p.y.neg,p.y.num,p.y.den),by
  rfl,by
  exact ⟨hpre.2.1,hpre.2.2,I4 hpre.2.1,I4 hpre.2.2⟩,?_⟩
 exact congrArg Value.bool (by rw [Qf,c4];first|rfl|(rw [Bool.true_and]))
def Ez:Con:={ ι:=PtD,pre:=λ i=>i.has,args:=λ i=>[DA.agg [cB i.x.neg,cS i.x.num,cS i.x.den,cB i.y.neg,cS i.y.num,cS i.y.den]],res:=λ i=>⟨false,[none],[rcB (!(okP i))]⟩ }
theorem Rx:Ez.Ok Tryz.prog 48:=by
 refine fok (X:=⟨tt,[(49,F6)],[],6,[]⟩) mixed AP (CTok.cons Tw (CTok.nil _)) Tryz.func48 (λ _=>[]) ?_
 intro (p:PtD) hpre
 have hpre:p.has:=hpre
 refine AO (q:=∃ i1:PtD,[DA.agg [cB p.x.neg,cS p.x.num,cS p.x.den,cB p.y.neg,cS p.y.num,cS p.y.den]]=F6.args i1/\F6.pre i1/\((vB (!(okP i1))=vB (!(okP p))))) (by kernel_rfl) ?_
 delta vB
 refine ⟨p,by
  rfl,by
  exact hpre,?_⟩
 exact rfl
def F7:Con:={ ι:=(List (List Dat)),pre:=λ i=>i.length<=9223372036854775807/\∀ k,k<i.length->(Cw (i.getD k [])).has,args:=λ i=>[.one (DC.sl 44 z43 i),.one (.ro (.fn 48 []))],tag:=49,res:=λ i=>⟨false,[none],[rcI (In (λ r=>!(okP (Cw r))) i)]⟩ }
theorem Tx:F7.Ok Tryz.prog 69:=by
 refine fok (X:=⟨tt,[(48,Ez)],[],19,[]⟩) mixed AP (CTok.cons Rx (CTok.nil _)) Tryz.func69 (λ (i:(List (List Dat)))=>[(2,.mk 3 (Nat) (λ x1=>{ tm:=[(0,tX 1),(1,tX 2),(7,tI (nI i.length)),(8,tI (nI x1))],en:=[(1,.view 44 z43 i []),(2,.ro (.fn 48 []) [])] }) (λ x1=>x1<=i.length/\∀ j,j<x1->(λ r=>!(okP (Cw r))) (i.getD j [])=false) (λ x1=>i.length-x1) (λ _=>[]))]) ?_
 intro (l:List (List Dat)) hpre
 have hpre:l.length<=9223372036854775807/\∀ k,k<l.length->(Cw (l.getD k [])).has:=hpre
 refine AO (q:=let Z3:=(.fn 48 []:RO)=.fn 48 [];let Z2:=In (λ r=>!(okP (Cw r))) l;(∃ x1:Nat,(x1<=l.length/\∀ j,j<x1->(λ r=>!(okP (Cw r))) (l.getD j [])=false)/\((rf (vI (nI l.length)))/\(vI (0:Int)=vI (nI x1))/\(rf (l))/\Z3))/\∀ x1:Nat,let Z1:=l.getD x1 [];(x1<=l.length/\∀ j,j<x1->(λ r=>!(okP (Cw r))) (l.getD j [])=false)->(ifB ((decide ((nI x1)<(nI l.length)))) ((0<=(nI x1)/\(nI x1)<(l.length:Int))/\((x1<l.length)/\(∃ i1:PtD,[DA.agg [cB (((Z1.getD 0 (.int 0))).b),cS (((Z1.getD 1 (.int 0))).r),cS (((Z1.getD 2 (.int 0))).r),cB (((Z1.getD 3 (.int 0))).b),cS (((Z1.getD 4 (.int 0))).r),cS (((Z1.getD 5 (.int 0))).r)]]=Ez.args i1/\Ez.pre i1/\(ifB ((!(okP i1))) ((vI (nI x1)=vI Z2)) (∃ y2:Nat,(y2<=l.length/\∀ j,j<y2->(λ r=>!(okP (Cw r))) (l.getD j [])=false)/\(l.length-y2<l.length-x1)/\((rf (vI (nI l.length)))/\(vI (wR ((nI x1)+(1:Int)))=vI (nI y2))/\(rf (l))/\Z3)))))) ((vI (-1:Int)=vI Z2)))) (by kernel_rfl) ?_
 conv=>zeta
 delta ifB vI wR nI
 refine ⟨⟨0,by
  exact ⟨Nat.zero_le _,λ j hj=>absurd hj (Nat.not_lt_zero j)⟩,?_⟩,?_⟩
 ·refine ⟨rfl,?_,rfl,?_⟩
  ·rfl
  rfl
 intro (k:Nat) hki1
 have hki1:k<=l.length/\∀ j,j<k->(λ r=>!(okP (Cw r))) (l.getD j [])=false:=hki1
 refine And.symm ⟨λ c7=>?_,λ c7=>?_⟩
 ·try simp only [nrm] at c7
  rw [LQ (λ j hj=>hki1.2 j (by omega))]
 try simp only [nrm] at c7
 refine ao (by omega) λ o8=>?_
 refine ao (by omega) λ o9=>?_
 refine ⟨(Cw (l.getD k [])),by
  rfl,by
  exact hpre.2 k (by omega),?_⟩
 refine ⟨λ c13=>?_,λ c13=>?_⟩
 ·try simp only [nrm] at c13
  rw [QR (k:=k) (by omega) hki1.2 (by show (!(okP (Cw (l.getD k []))))=true;rw [c13];rfl)]
 try simp only [nrm] at c13
 refine ⟨k+1,by
  exact ⟨by omega,QS hki1.2 (by show (!(okP (Cw (l.getD k []))))=false;rw [c13];rfl)⟩,by
  omega,?_⟩
 refine ⟨rfl,?_,rfl,?_⟩
 ·exact AQ (AF (by omega) (by omega))
 rfl
def E3:Con:={ ι:=(List (List Dat)),pre:=λ i=>i.length<=9223372036854775807/\∀ k,k<i.length->(Cw (i.getD k [])).has,args:=λ i=>[.one (DC.sl 44 z43 i),.one (.ro (.fn 48 []))],tag:=49,res:=λ i=>⟨false,[none],[rcB (i.any (λ r=>!(okP (Cw r))))]⟩ }
theorem Ry:E3.Ok Tryz.prog 47:=by
 refine fok (X:=⟨tt,[(69,F7)],[],9,[]⟩) mixed AP (CTok.cons Tx (CTok.nil _)) Tryz.func47 (λ _=>[]) ?_
 intro (l:List (List Dat)) hpre
 have hpre:l.length<=9223372036854775807/\∀ k,k<l.length->(Cw (l.getD k [])).has:=hpre
 refine AO (q:=∃ i1:(List (List Dat)),[DA.one (DC.sl 44 z43 l),DA.one (DC.ro (.fn 48 []))]=F7.args i1/\F7.pre i1/\((vB (decide ((In (λ r=>!(okP (Cw r))) i1)≥(0:Int)))=vB (l.any (λ r=>!(okP (Cw r))))))) (by kernel_rfl) ?_
 delta vB
 refine ⟨l,by
  rfl,by
  exact hpre,?_⟩
 exact congrArg Value.bool (Nr _ _)
def Bt:Con:={ ι:=(List (List Dat)),pre:=λ i=>i.length<=9223372036854775807/\∀ k,k<i.length->(Cw (i.getD k [])).has,args:=λ i=>[.one (DC.sl 44 z43 i)],res:=λ i=>⟨false,[none],[rcB (!(i.any (λ r=>!(okP (Cw r)))))]⟩ }
theorem ML:Bt.Ok Tryz.prog 30:=by
 refine fok (X:=⟨tt,[(47,E3)],[],6,[]⟩) mixed AP (CTok.cons Ry (CTok.nil _)) Tryz.func30 (λ _=>[]) ?_
 intro (l:List (List Dat)) hpre
 have hpre:l.length<=9223372036854775807/\∀ k,k<l.length->(Cw (l.getD k [])).has:=hpre
 refine AO (q:=∃ i1:(List (List Dat)),[DA.one (DC.sl 44 z43 l),DA.one (DC.ro (.fn 48 []))]=E3.args i1/\E3.pre i1/\((vB (!(i1.any (λ r=>!(okP (Cw r)))))=vB (!(l.any (λ r=>!(okP (Cw r)))))))) (by kernel_rfl) ?_
 delta vB
 refine ⟨l,by
  rfl,by
  exact hpre,?_⟩
 exact rfl
def HN:Con:={ ι:=Pq×Pq×Pq,pre:=λ i=>True,args:=λ i=>[dP i.1,dP i.2.1,dP i.2.2],res:=λ i=>⟨false,[none],[rcI (EW i.1 i.2.1 i.2.2)]⟩ }
theorem Vd:HN.Ok Tryz.prog 51:=by
 refine fok (X:=⟨tt,[(72,Ax),(71,CY),(73,D2)],[],35,[]⟩) mixed AP (CTok.cons Ru (CTok.cons Rs (CTok.cons PY (CTok.nil _)))) Tryz.func51 (λ _=>[]) ?_
 rintro ⟨p,q,r⟩ hpre
 have hpre:True:=hpre
 refine AO (q:=∃ i1:Fr×Fr,[dF q.x,dF p.x]=Ax.args i1/\Ax.pre i1/\(∃ i2:Fr×Fr,[dF r.y,dF p.y]=Ax.args i2/\Ax.pre i2/\(∃ i3:Fr×Fr,[dF (Fr.sub i1.1 i1.2),dF (Fr.sub i2.1 i2.2)]=CY.args i3/\CY.pre i3/\(∃ i4:Fr×Fr,[dF q.y,dF p.y]=Ax.args i4/\Ax.pre i4/\(∃ i5:Fr×Fr,[dF r.x,dF p.x]=Ax.args i5/\Ax.pre i5/\(∃ i6:Fr×Fr,[dF (Fr.sub i4.1 i4.2),dF (Fr.sub i5.1 i5.2)]=CY.args i6/\CY.pre i6/\(∃ i7:Fr×Fr,[dF (Fr.mul i3.1 i3.2),dF (Fr.mul i6.1 i6.2)]=Ax.args i7/\Ax.pre i7/\(∃ i8:Fr,[dF (Fr.sub i7.1 i7.2)]=D2.args i8/\D2.pre i8/\((vI i8.sgn=vI (EW p q r))))))))))) (by kernel_rfl) ?_
 delta vI
 refine ⟨(q.x,p.x),by
  rfl,by
  trivial,?_⟩
 refine ⟨(r.y,p.y),by
  rfl,by
  trivial,?_⟩
 refine ⟨((Fr.sub q.x p.x),(Fr.sub r.y p.y)),by
  rfl,by
  trivial,?_⟩
 refine ⟨(q.y,p.y),by
  rfl,by
  trivial,?_⟩
 refine ⟨(r.x,p.x),by
  rfl,by
  trivial,?_⟩
 refine ⟨((Fr.sub q.y p.y),(Fr.sub r.x p.x)),by
  rfl,by
  trivial,?_⟩
 refine ⟨((Fr.mul (Fr.sub q.x p.x) (Fr.sub r.y p.y)),(Fr.mul (Fr.sub q.y p.y) (Fr.sub r.x p.x))),by
  rfl,by
  trivial,?_⟩
 refine ⟨(Fr.sub (Fr.mul (Fr.sub q.x p.x) (Fr.sub r.y p.y)) (Fr.mul (Fr.sub q.y p.y) (Fr.sub r.x p.x))),by
  rfl,by
  trivial,?_⟩
 rfl
def C8:Con:={ ι:=(List V2),pre:=λ i=>i.all AE=true/\i.length<=1048576,args:=λ i=>[.one (DC.sl 26 [.int,.int] (AA i))],res:=λ i=>⟨false,[none],[.own 44 [.bool,.sl 3 [.int],.sl 3 [.int],.bool,.sl 3 [.int],.sl 3 [.int]] (CO i)]⟩ }
theorem OA:C8.Ok Tryz.prog 50:=by
 refine fok (X:=⟨tt,[(15,BJ)],[],20,[]⟩) mixed AP (CTok.cons Ig (CTok.nil _)) Tryz.func50 (λ (i:(List V2))=>[(3,.mk 3 (Nat) (λ x1=>{ tm:=[(7,tX 1),(8,tI (nI ((AA i).length))),(9,tI (nI x1)),(3,tX 2)],en:=[(1,.view 26 [.int,.int] (AA i) []),(2,.own 44 z43 (CO (i.take x1)))] }) (λ x1=>x1<=i.length) (λ x1=>i.length-x1) (λ _=>[]))]) ?_
 intro (l:List V2) hpre
 have hpre:l.all AE=true/\l.length<=1048576:=hpre
 refine AO (q:=let Z3:=nI ((AA l).length);(∃ x1:Nat,(x1<=l.length)/\((rf (vI Z3))/\(vI (0:Int)=vI (nI x1))/\(rf (AA l))/\(([]:List (List Dat))=(CO (l.take x1)))))/\∀ x1:Nat,let Z4:=CO (l.take x1);(x1<=l.length)->(ifB ((decide ((nI x1)<Z3))) ((0<=(nI x1)/\(nI x1)<((AA l).length:Int))/\((x1<(AA l).length)/\(∃ i1:Int×Int,let Z2:=Fr.ofInt i1.2;let Z1:=Fr.ofInt i1.1;[DA.agg [cI (((((AA l).getD x1 []).getD 0 (.int 0))).n),cI (((((AA l).getD x1 []).getD 1 (.int 0))).n)]]=BJ.args i1/\BJ.pre i1/\((Z4.length+([[Dat.bool (decide (Z1.z<0)),Dat.sl (L Z1.z.natAbs),Dat.sl (L Z1.d),Dat.bool (decide (Z2.z<0)),Dat.sl (L Z2.z.natAbs),Dat.sl (L Z2.d)]]:List (List Dat)).length<=1073741824)/\(∃ y2:Nat,(y2<=l.length)/\(l.length-y2<l.length-x1)/\((rf (vI Z3))/\(vI (wR ((nI x1)+(1:Int)))=vI (nI y2))/\(rf (AA l))/\((Z4++([[Dat.bool (decide (Z1.z<0)),Dat.sl (L Z1.z.natAbs),Dat.sl (L Z1.d),Dat.bool (decide (Z2.z<0)),Dat.sl (L Z2.z.natAbs),Dat.sl (L Z2.d)]]:List (List Dat)))=(CO (l.take y2))))))))) ((Z4=CO l)))) (by kernel_rfl) ?_
 conv=>zeta
 delta ifB vI wR nI
 have hvl:=AB l
 have hpl:=HG l
 refine ⟨⟨0,by
  omega,?_⟩,?_⟩
 ·refine ⟨rfl,?_,rfl,?_⟩
  ·rfl
  rfl
 intro (k:Nat) hki1
 have hki1:k<=l.length:=hki1
 refine And.symm ⟨λ c7=>?_,λ c7=>?_⟩
 ·try simp only [nrm] at c7
  rw [show k=l.length by omega,List.take_length]
 try simp only [nrm] at c7
 refine ao (by omega) λ o8=>?_
 refine ao (by omega) λ o9=>?_
 refine ⟨((l.getD k (0,0)).1,(l.getD k (0,0)).2),by
  rw [AT (by omega),AU (by omega)];rfl,by
  exact VY hpre.1 (by omega),?_⟩
 refine ao (a:=(CO (l.take k)).length+([[Dat.bool (decide ((Fr.ofInt ((l.getD k (0,0)).1)).z<0)),Dat.sl (L (Fr.ofInt ((l.getD k (0,0)).1)).z.natAbs),Dat.sl (L (Fr.ofInt ((l.getD k (0,0)).1)).d),Dat.bool (decide ((Fr.ofInt ((l.getD k (0,0)).2)).z<0)),Dat.sl (L (Fr.ofInt ((l.getD k (0,0)).2)).z.natAbs),Dat.sl (L (Fr.ofInt ((l.getD k (0,0)).2)).d)]]:List (List Dat)).length<=1073741824) (by simp only [HG,List.length_take,List.length_cons,List.length_nil];omega) λ o13=>?_
 refine ⟨k+1,by
  omega,by
  omega,?_⟩
 refine ⟨rfl,?_,rfl,?_⟩
 ·exact AQ (AF (by omega) (by omega))
 exact Rw (by omega)
def C9:Con:={ ι:=(List V2)×Pq,pre:=λ i=>i.1.all AE=true/\0<i.1.length/\i.1.length<=16,args:=λ i=>[.one (DC.sl 26 [.int,.int] (AA i.1)),dP i.2],res:=λ i=>⟨false,[none],[rcI (Kc i.1 i.2)]⟩ }
theorem OB:C9.Ok Tryz.prog 31:=by
 refine fok (X:=⟨tt,[(50,C8),(51,HN)],[],33,[]⟩) mixed AP (CTok.cons OA (CTok.cons Vd (CTok.nil _))) Tryz.func31 (λ (i:(List V2)×Pq)=>[(4,.mk 7 (Nat) (λ x1=>{ tm:=[(3,tP 1 0),(11,tX 6),(12,tI (nI ((CO i.1).length))),(13,tI (nI x1)),(6,tI (HL i.1 i.2 x1)),(5,tX 6)],en:=[(1,.box [kB (decide (i.2.x.z<0)),.ext 2,.ext 3,kB (decide (i.2.y.z<0)),.ext 4,.ext 5]),(2,eV (L i.2.x.z.natAbs)),(3,eV (L i.2.x.d)),(4,eV (L i.2.y.z.natAbs)),(5,eV (L i.2.y.d)),(6,.own 44 z43 (CO i.1))] }) (λ x1=>x1<=i.1.length) (λ x1=>i.1.length-x1) (λ _=>[]))]) ?_
 rintro ⟨l,p⟩ hpre
 have hpre:l.all AE=true/\0<l.length/\l.length<=16:=hpre
 refine AO (q:=let Z7:=vB (decide (p.y.z<0));let Z6:=vB (decide (p.x.z<0));let Z4:=nI ((CO l).length);∃ i1:(List V2),[DA.one (DC.sl 26 [.int,.int] (AA l))]=C8.args i1/\C8.pre i1/\((∃ x1:Nat,(x1<=l.length)/\((vI (nI ((CO i1).length))=vI Z4)/\(vI (0:Int)=vI (nI x1))/\(vI (1:Int)=vI (HL l p x1))/\(rf Z6)/\(rf Z7)/\(rf (L p.x.z.natAbs))/\(rf (L p.x.d))/\(rf (L p.y.z.natAbs))/\(rf (L p.y.d))/\(CO i1=(CO l))))/\∀ x1:Nat,let Z5:=wR ((nI x1)+(1:Int));let Z3:=(CO l).getD x1 [];let Z1:=Int.tmod Z5 Z4;let Z2:=(CO l).getD (Z1.toNat) [];(x1<=l.length)->(ifB ((decide ((nI x1)<Z4))) ((0<=(nI x1)/\(nI x1)<((CO l).length:Int))/\((x1<(CO l).length)/\((Z4≠0)/\((0<=Z1/\Z1<((CO l).length:Int))/\((Z1.toNat<(CO l).length)/\(∃ i2:Pq×Pq×Pq,[DA.agg [cB (((Z3.getD 0 (.int 0))).b),cS (((Z3.getD 1 (.int 0))).r),cS (((Z3.getD 2 (.int 0))).r),cB (((Z3.getD 3 (.int 0))).b),cS (((Z3.getD 4 (.int 0))).r),cS (((Z3.getD 5 (.int 0))).r)],DA.agg [cB (((Z2.getD 0 (.int 0))).b),cS (((Z2.getD 1 (.int 0))).r),cS (((Z2.getD 2 (.int 0))).r),cB (((Z2.getD 3 (.int 0))).b),cS (((Z2.getD 4 (.int 0))).r),cS (((Z2.getD 5 (.int 0))).r)],dP p]=HN.args i2/\HN.pre i2/\(∃ y2:Nat,(y2<=l.length)/\(l.length-y2<l.length-x1)/\((rf (vI Z4))/\(vI Z5=vI (nI y2))/\(vI (min (HL l p x1) (EW i2.1 i2.2.1 i2.2.2))=vI (HL l p y2))/\(rf Z6)/\(rf Z7)/\(rf (L p.x.z.natAbs))/\(rf (L p.x.d))/\(rf (L p.y.z.natAbs))/\(rf (L p.y.d))/\(rf (CO l)))))))))) ((vI (HL l p x1)=vI (Kc l p)))))) (by kernel_rfl) ?_
 conv=>zeta
 delta ifB vB vI wR nI
 have hvl:=AB l
 have hpl:=HG l
 refine ⟨l,by
  rfl,by
  exact ⟨hpre.1,by omega⟩,?_⟩
 refine ⟨⟨0,by
  omega,?_⟩,?_⟩
 ·refine ⟨rfl,?_,?_,rfl,rfl,rfl,rfl,rfl,rfl,rfl⟩
  ·rfl
  rfl
 intro (k:Nat) hki4
 have hki4:k<=l.length:=hki4
 refine And.symm ⟨λ c16=>?_,λ c16=>?_⟩
 ·try simp only [nrm] at c16
  rw [show k=l.length by omega];rfl
 try simp only [nrm] at c16
 have hkl:k<l.length:=by omega
 have m2:(k+1)%l.length<l.length:=(KC hkl (by omega)).2.1
 have m1:(Int.tmod (IntKind.i64.wrap (((k:Nat):Int)+(1:Int))) (((CO l).length:Nat):Int)).toNat=(k+1)%l.length:=by rw [hpl];exact (KC hkl (by omega)).1
 have m3:Int.tmod (IntKind.i64.wrap (((k:Nat):Int)+(1:Int))) (((CO l).length:Nat):Int)=(((k+1)%l.length:Nat):Int):=by rw [hpl];exact (KC hkl (by omega)).2.2
 refine ao (by omega) λ o17=>?_
 refine ao (by omega) λ o18=>?_
 refine ao (by omega) λ o19=>?_
 refine ao (by omega) λ o20=>?_
 refine ao (by omega) λ o21=>?_
 refine ⟨(Ey l k,Ey l ((k+1)%l.length),p),by
  rw [m1,Qe hkl,Qe m2];rfl,by
  trivial,?_⟩
 refine ⟨k+1,by
  trivial,by
  omega,?_⟩
 refine ⟨rfl,?_,?_,rfl,rfl,rfl,rfl,rfl,rfl,rfl⟩
 ·exact AQ (AF (by omega) (by omega))
 rfl
def Ci:Con:={ ι:=(List V2)×PtD,pre:=λ i=>i.2.has,args:=λ i=>[.one (DC.sl 26 [.int,.int] (AA i.1)),DA.agg [cB i.2.x.neg,cS i.2.x.num,cS i.2.x.den,cB i.2.y.neg,cS i.2.y.num,cS i.2.y.den]],res:=λ i=>⟨false,[none],[rcI (cpZ i.1 i.2)]⟩ }
theorem MM:Ci.Ok Tryz.prog 14:=by
 refine fok (X:=⟨tt,[(24,AY),(30,Bt),(31,C9)],[],17,[]⟩) mixed AP (CTok.cons Ca (CTok.cons ML (CTok.cons OB (CTok.nil _)))) Tryz.func14 (λ _=>[]) ?_
 rintro ⟨l,p⟩ hpre
 have hpre:p.has:=hpre
 refine AO (q:=let Z2:=(vI (-1:Int)=vI (cpZ l p));let Z1:=DC.sl 26 [.int,.int] (AA l);∃ i1:(List V2),[DA.one Z1]=AY.args i1/\AY.pre i1/\(ifB ((!(!(AI i1)))) (∃ i2:(List (List Dat)),[DA.one (DC.sl 44 z43 ([[Dat.bool p.x.neg,Dat.sl p.x.num,Dat.sl p.x.den,Dat.bool p.y.neg,Dat.sl p.y.num,Dat.sl p.y.den]]:List (List Dat)))]=Bt.args i2/\Bt.pre i2/\(ifB ((!(!(i2.any (λ r=>!(okP (Cw r))))))) Z2 (∃ i3:(List V2)×Pq,[DA.one Z1,DA.agg [cB p.x.neg,cS p.x.num,cS p.x.den,cB p.y.neg,cS p.y.num,cS p.y.den]]=C9.args i3/\C9.pre i3/\((vI (Kc i3.1 i3.2)=vI (cpZ l p)))))) Z2)) (by kernel_rfl) ?_
 conv=>zeta
 delta ifB vI
 have hvl:=AB l
 have hpl:=HG l
 refine ⟨l,by
  rfl,by
  trivial,?_⟩
 refine And.symm ⟨λ c4=>?_,λ c4=>?_⟩
 ·try simp only [nrm] at c4
  have hE:=Vb (p:=p) c4
  rw [hE]
 try simp only [nrm] at c4
 refine ⟨([[Dat.bool p.x.neg,Dat.sl p.x.num,Dat.sl p.x.den,Dat.bool p.y.neg,Dat.sl p.y.num,Dat.sl p.y.den]]:List (List Dat)),by
  rfl,by
  try dsimp only [Bt]
  exact ⟨by show 1<=_;decide,VZ hpre⟩,?_⟩
 refine ⟨λ c8=>?_,λ c8=>?_⟩
 ·try simp only [nrm] at c8
  have c8:okP p=false:=by have h:=(XT p).symm.trans c8;simpa using h
  have hE:=Vc (l:=l) c8
  rw [hE]
 try simp only [nrm] at c8
 have c8:okP p=true:=by have h:=(XT p).symm.trans c8;simpa using h
 have hE:=Qg c4 c8
 obtain ⟨e1,e2,e3,e4,e5,e6,e7,e8⟩:=Wo hpre c8
 refine ⟨(l,pqR p),by
  rw [e1,e2,e3,e4,e5,e6];rfl,by
  show l.all AE=true/\0<l.length/\l.length<=16
  have:=Pa c4
  exact ⟨this.2.2,by omega,by omega⟩,?_⟩
 rw [hE]
end Go.Proofs.YtdgmbbjoifneiaaGreatDoor
