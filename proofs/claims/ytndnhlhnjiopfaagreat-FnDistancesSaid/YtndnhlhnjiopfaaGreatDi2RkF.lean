import Derived.Test.YtndnhlhnjiopfaaGreatDi2RkE
import Derived.Test.YtndnhlhnjiopfaaGreatDi2ScW
namespace Go.Proofs.YtndnhlhnjiopfaaGreat
set_option maxRecDepth 100000
set_option linter.unusedVariables false
set_option linter.unusedSimpArgs false
open Go.RowKit
def GT:Con:={ ι:=Int×Int,pre:=λ i=>True,args:=λ i=>[DA.agg [cI i.1,cI i.2]],res:=λ i=>⟨false,[none],[rcB (AQ (i.1,i.2))]⟩ }
theorem Tc:GT.Ok Tryz.prog 109:=Hb rfl ⟨_,Tryz.func109,by decide,rfl⟩ (λ _=>Nat.le_of_ble_eq_true rfl) (λ _=>rfl) (λ i=>[.im (.bool (AQ (i.1,i.2)))]) (λ _=>rfl) (λ _=>rfl) (λ i hp w us h=>by
 obtain ⟨x,y⟩:=i
 have h:RdRow w [.int,.int] [.int x,.int y] us:=h
 obtain ⟨a,_,rfl,q1,h⟩:=RdRow.cons2 h
 obtain ⟨b,_,rfl,q2,h⟩:=RdRow.cons2 h
 obtain ⟨-,rfl⟩:=RdRow.nil_inv h
 obtain rfl:=Rd.int2 q1
 obtain rfl:=Rd.int2 q2
 refine (Bw x y w).mono ?_
 rintro e w' ⟨rfl,hb⟩
 exact ⟨[Value.bool (AQ (x,y))],rfl,Own.leaf (Fp.mk_bool _),hb⟩)
def BF:Con:={ ι:=(List V2),pre:=λ i=>True,args:=λ i=>[.one (DC.sl 44 [.int,.int] (AC i))],res:=λ i=>⟨false,[none],[rcB (AU i)]⟩ }
theorem GU:BF.Ok Tryz.prog 37:=Hb rfl ⟨_,Tryz.func37,by decide,rfl⟩ (λ _=>Nat.le_of_ble_eq_true rfl) (λ _=>rfl) (λ l=>[.im (.bool (AU l))]) (λ _=>rfl) (λ _=>rfl) (λ i hp w us h=>by
 have h:RdRow w [.sl 44 [.int,.int]] [.sl (AC i)] us:=h
 obtain ⟨v,vs,rfl,h1,h2⟩:=RdRow.cons2 h
 obtain ⟨-,rfl⟩:=RdRow.nil_inv h2
 refine (Pc i v w (Rd.vecs h1)).mono ?_
 rintro e w' ⟨rfl,hb⟩
 exact ⟨[Value.bool (AU i)],rfl,Own.leaf (Fp.mk_bool _),hb⟩)
def FA:Con:={ ι:=(List V2),pre:=λ i=>True,args:=λ i=>[.one (DC.sl 44 [.int,.int] (AC i))],res:=λ i=>⟨false,[none],[rcB (AU i)]⟩ }
theorem Q9:FA.Ok Tryz.prog 71:=Hb rfl ⟨_,Tryz.func71,by decide,rfl⟩ (λ _=>Nat.le_of_ble_eq_true rfl) (λ _=>rfl) (λ l=>[.im (.bool (AU l))]) (λ _=>rfl) (λ _=>rfl) (λ i hp w us h=>by
 have h:RdRow w [.sl 44 [.int,.int]] [.sl (AC i)] us:=h
 obtain ⟨v,vs,rfl,h1,h2⟩:=RdRow.cons2 h
 obtain ⟨-,rfl⟩:=RdRow.nil_inv h2
 refine (N4 i v w (Rd.vecs h1)).mono ?_
 rintro e w' ⟨rfl,hb⟩
 exact ⟨[Value.bool (AU i)],rfl,Own.leaf (Fp.mk_bool _),hb⟩)
theorem GV {l:List V2} (h:AU l=true):3<=l.length/\l.length<=16/\l.all AQ=true:=by
 simp only [AU,Bool.and_eq_true,F6] at h
 exact ⟨by omega,by omega,h.1.2⟩
def frR (r:RatD):Fr:=Fr.mk' (zOf r.neg (EO r.num)) (EO r.den)
def okR (r:RatD):Bool:=AZ r.neg r.num r.den
def okP (p:PtD):Bool:=okR p.x && okR p.y
def pqR (p:PtD):Pq:=⟨frR p.x,frR p.y⟩
def RatD.has (r:RatD):Prop:=Dat.has (.sl 3 [.int]) (.sl r.num)/\Dat.has (.sl 3 [.int]) (.sl r.den)
def PtD.has (p:PtD):Prop:=p.x.has/\p.y.has
theorem ET {r:Fr} (h:r.d≠0):Fr.mk' r.z r.d=r:=by
 obtain ⟨q,hq,e1,e2⟩:=Fr.some_d h
 rw [e1,e2]
 unfold Fr.mk'
 rw [Rat.mkRat_self]
 exact (Fr.of_some hq).symm
theorem VU {r:RatD} (hh:r.has) (h:okR r=true):r.neg=decide ((frR r).z<0)/\r.num=L (frR r).z.natAbs/\r.den=L (frR r).d/\(frR r).d≠0:=by
 obtain ⟨s,hd,e1,e2,e3⟩:=Qz hh.1 hh.2 h
 rw [Fr.neg_z] at e1
 rw [Fr.num_z] at e2
 rw [Fr.den_d] at e3
 have:frR r=s:=by
  unfold frR
  rw [e1,e2,e3,BJ,BJ,Bd,ET hd]
 rw [this]
 exact ⟨e1,e2,e3,hd⟩
theorem Pe {p:PtD} (h:okP p=true):okR p.x=true/\okR p.y=true:=by
 unfold okP at h;rwa [Bool.and_eq_true] at h
theorem Jj {p:PtD} (hh:p.has) (h:okP p=true):p.x.neg=decide ((pqR p).x.z<0)/\p.x.num=L (pqR p).x.z.natAbs/\p.x.den=L (pqR p).x.d/\p.y.neg=decide ((pqR p).y.z<0)/\p.y.num=L (pqR p).y.z.natAbs/\p.y.den=L (pqR p).y.d/\(pqR p).x.d≠0/\(pqR p).y.d≠0:=by
 obtain ⟨a1,a2,a3,a4⟩:=VU hh.1 (Pe h).1
 obtain ⟨b1,b2,b3,b4⟩:=VU hh.2 (Pe h).2
 exact ⟨a1,a2,a3,b1,b2,b3,a4,b4⟩
def BK (r:List Dat):PtD:=⟨⟨(r.getD 0 (.int 0)).b,(r.getD 1 (.int 0)).r,(r.getD 2 (.int 0)).r⟩,⟨(r.getD 3 (.int 0)).b,(r.getD 4 (.int 0)).r,(r.getD 5 (.int 0)).r⟩⟩
def ptD (p:PtD):List Dat:=[.bool p.x.neg,.sl p.x.num,.sl p.x.den,.bool p.y.neg,.sl p.y.num,.sl p.y.den]
theorem Wg (p:PtD):([ptD p].any λ r=>!(okP (BK r)))=!(okP p):=by
 show (!(okP p) || false)=_;rw [Bool.or_false]
theorem Wh (p q:PtD):([ptD p,ptD q].any λ r=>!(okP (BK r)))=!(okP p && okP q):=by
 show (!(okP p) || (!(okP q) || false))=_;rw [Bool.or_false,Bool.not_and]
theorem Kp {m:List (List Dat)} (h:Dat.has (.sl 3 [.int]) (.sl m)):m.length<=9223372036854775807:=WQ h
def ptV (v:V2):Pq:=⟨Fr.ofInt v.1,Fr.ofInt v.2⟩
def VW (p:Pq):List Dat:=[.bool (decide (p.x.z<0)),.sl (L p.x.z.natAbs),.sl (L p.x.d),.bool (decide (p.y.z<0)),.sl (L p.y.z.natAbs),.sl (L p.y.d)]
def Au (l:List V2):List (List Dat):=l.map λ v=>VW (ptV v)
def By (l:List V2) (k:Nat):Pq:=ptV (l.getD k (0,0))
theorem C1 (l:List V2):(Au l).length=l.length:=by simp [Au]
theorem EU {l:List V2} {k:Nat} (h:k<l.length):(Au l).getD k []=VW (By l k):=by
 simp [Au,List.getD,h,By]
theorem Td {l:List V2} {k:Nat} (h:k<l.length):Au (l.take k)++[VW (By l k)]=Au (l.take (k+1)):=by
 rw [Hz l (0,0) k h];simp [Au,By]
def Bz (p q r:Pq):Int:=(Fr.sub (Fr.mul (Fr.sub q.x p.x) (Fr.sub r.y p.y)) (Fr.mul (Fr.sub q.y p.y) (Fr.sub r.x p.x))).sgn
def KW (l:List V2) (p:Pq):Nat->Int
 | 0=>1
 | k+1=>min (KW l p k) (Bz (By l k) (By l ((k+1)%l.length)) p)
def FU (l:List V2) (p:Pq):Int:=KW l p l.length
def cpZ (l:List V2) (p:PtD):Int:=if AU l=true/\okP p=true then FU l (pqR p) else -1
theorem SG {l:List V2} (h:l.all AQ=true) {k:Nat} (hk:k<l.length):(-9223372036854775808<=(l.getD k (0,0)).1/\(l.getD k (0,0)).1<=9223372036854775807)/\-9223372036854775808<=(l.getD k (0,0)).2/\(l.getD k (0,0)).2<=9223372036854775807:=by
 have:=Bx h hk
 have:=DQ this
 omega
theorem Fx {k n:Nat} (hk:k<n) (hn:n<=1048576):(Int.tmod (IntKind.i64.wrap (((k:Nat):Int)+(1:Int))) ((n:Nat):Int)).toNat=(k+1)%n/\(k+1)%n<n/\Int.tmod (IntKind.i64.wrap (((k:Nat):Int)+(1:Int))) ((n:Nat):Int)=(((k+1)%n:Nat):Int):=by
 have e:Int.tmod (IntKind.i64.wrap (((k:Nat):Int)+(1:Int))) ((n:Nat):Int)=(((k+1)%n:Nat):Int):=by
  rw [AB (by omega) (by omega),show ((k:Nat):Int)+1=((k+1:Nat):Int) by omega,VD]
 refine ⟨by rw [e];omega,Nat.mod_lt _ (by omega),e⟩
theorem SH {p:PtD} (h:p.has):∀ k,k < [ptD p].length->(BK ([ptD p].getD k [])).has:=λ k hk=>by
 obtain rfl:k=0:=by simp only [List.length_cons,List.length_nil] at hk;omega
 exact h
theorem SI {p q:PtD} (h:p.has) (h2:q.has):∀ k,k < [ptD p,ptD q].length->(BK ([ptD p,ptD q].getD k [])).has:=λ k hk=>by
 have:k=0∨k=1:=by simp only [List.length_cons,List.length_nil] at hk;omega
 rcases this with rfl|rfl
 ·exact h
 ·exact h2
def ptQ (p:Pq):PtD:=⟨⟨decide (p.x.z<0),L p.x.z.natAbs,L p.x.d⟩,⟨decide (p.y.z<0),L p.y.z.natAbs,L p.y.d⟩⟩
theorem FB (p:Pq):(ptQ p).has:=by
 have h1:=p.x.nlz
 have h2:=p.x.nld
 have h3:=p.y.nlz
 have h4:=p.y.nld
 exact ⟨⟨Dg _ (by omega),Dg _ (by omega)⟩,Dg _ (by omega),Dg _ (by omega)⟩
theorem ID (p:Pq):okP (ptQ p)=p.good:=by
 show (AZ (decide (p.x.z<0)) (L p.x.z.natAbs) (L p.x.d) && AZ (decide (p.y.z<0)) (L p.y.z.natAbs) (L p.y.d))=_
 rw [CF,CF];rfl
theorem SJ (p:PtD):okP p=(AZ p.x.neg p.x.num p.x.den && AZ p.y.neg p.y.num p.y.den):=rfl
theorem Wi {l:List V2} {p:PtD} (h:AU l=false):cpZ l p=-1:=by unfold cpZ;rw [if_neg (by rw [h];simp)]
theorem Wj {l:List V2} {p:PtD} (h:okP p=false):cpZ l p=-1:=by unfold cpZ;rw [if_neg (by rw [h];simp)]
theorem SK {l:List V2} {p:PtD} (h:AU l=true) (h2:okP p=true):cpZ l p=FU l (pqR p):=by unfold cpZ;rw [if_pos ⟨h,h2⟩]
def B0:Con:={ ι:=Int×Int,pre:=λ i=>(-9223372036854775808<=i.1/\i.1<=9223372036854775807)/\-9223372036854775808<=i.2/\i.2<=9223372036854775807,args:=λ i=>[DA.agg [cI i.1,cI i.2]],res:=λ i=>⟨false,[some 6],[rcB (decide ((Fr.ofInt i.1).z<0)),.own 3 [.int] (L (Fr.ofInt i.1).z.natAbs),.own 3 [.int] (L (Fr.ofInt i.1).d),rcB (decide ((Fr.ofInt i.2).z<0)),.own 3 [.int] (L (Fr.ofInt i.2).z.natAbs),.own 3 [.int] (L (Fr.ofInt i.2).d)]⟩ }
theorem KL:B0.Ok Tryz.prog 17:=by
 refine fok (X:=⟨tt,[(49,Ay)],[],10,[]⟩) AG AH (CTok.cons Hh (CTok.nil _)) Tryz.func17 (λ _=>[]) ?_
 rintro ⟨x,y⟩ hpre
 have hpre:(-9223372036854775808<=x/\x<=9223372036854775807)/\-9223372036854775808<=y/\y<=9223372036854775807:=hpre
 refine AF (q:=∃ i1:Int,[DA.one (cI x)]=Ay.args i1/\Ay.pre i1/\(∃ i2:Int,[DA.one (cI y)]=Ay.args i2/\Ay.pre i2/\((eqD (Fr.ofInt i1) (Fr.ofInt x) ((eqC (Fr.ofInt i2) (Fr.ofInt y))))))) (by kernel_rfl) ?_
 refine ⟨x,by
  rfl,by
  show -9223372036854775808<=x/\x<=9223372036854775807
  first|omega|assumption|exact hpre.1|exact hpre.2|(simp;done),?_⟩
 refine ⟨y,by
  rfl,by
  show -9223372036854775808<=y/\y<=9223372036854775807
  first|omega|assumption|exact hpre.1|exact hpre.2|(simp;done),?_⟩
 exact GH rfl (A6 rfl)
def EV:Con:={ ι:=Int×Int,pre:=λ i=>(-9223372036854775808<=i.1/\i.1<=9223372036854775807)/\-9223372036854775808<=i.2/\i.2<=9223372036854775807,args:=λ i=>[DA.agg [cI i.1,cI i.2]],res:=λ i=>⟨false,[some 6],[rcB (decide ((Fr.ofInt i.1).z<0)),.own 3 [.int] (L (Fr.ofInt i.1).z.natAbs),.own 3 [.int] (L (Fr.ofInt i.1).d),rcB (decide ((Fr.ofInt i.2).z<0)),.own 3 [.int] (L (Fr.ofInt i.2).z.natAbs),.own 3 [.int] (L (Fr.ofInt i.2).d)]⟩ }
theorem Pf:EV.Ok Tryz.prog 64:=by
 refine fok (X:=⟨tt,[(104,Bo)],[],10,[]⟩) AG AH (CTok.cons Lz (CTok.nil _)) Tryz.func64 (λ _=>[]) ?_
 rintro ⟨x,y⟩ hpre
 have hpre:(-9223372036854775808<=x/\x<=9223372036854775807)/\-9223372036854775808<=y/\y<=9223372036854775807:=hpre
 refine AF (q:=∃ i1:Int,[DA.one (cI x)]=Bo.args i1/\Bo.pre i1/\(∃ i2:Int,[DA.one (cI y)]=Bo.args i2/\Bo.pre i2/\((eqD (Fr.ofInt i1) (Fr.ofInt x) ((eqC (Fr.ofInt i2) (Fr.ofInt y))))))) (by kernel_rfl) ?_
 refine ⟨x,by
  rfl,by
  show -9223372036854775808<=x/\x<=9223372036854775807
  first|omega|assumption|exact hpre.1|exact hpre.2|(simp;done),?_⟩
 refine ⟨y,by
  rfl,by
  show -9223372036854775808<=y/\y<=9223372036854775807
  first|omega|assumption|exact hpre.1|exact hpre.2|(simp;done),?_⟩
 exact GH rfl (A6 rfl)
def Ho:Con:={ ι:=PtD,pre:=λ i=>i.has,args:=λ i=>[DA.agg [cB i.x.neg,cS i.x.num,cS i.x.den,cB i.y.neg,cS i.y.num,cS i.y.den]],res:=λ i=>⟨false,[none],[rcB (okP i)]⟩ }
theorem VX:Ho.Ok Tryz.prog 74:=by
 refine fok (X:=⟨tt,[(15,Ao)],[],11,[]⟩) AG AH (CTok.cons Il (CTok.nil _)) Tryz.func74 (λ _=>[]) ?_
 intro (p:PtD) hpre
 have hpre:p.has:=hpre
 refine AF (q:=let Z1:=List (List Dat);∃ i1:Bool×Z1×Z1,[DA.agg [cB p.x.neg,cS p.x.num,cS p.x.den]]=Ao.args i1/\Ao.pre i1/\(ifB ((AZ i1.1 i1.2.1 i1.2.2)) (∃ i2:Bool×Z1×Z1,[DA.agg [cB p.y.neg,cS p.y.num,cS p.y.den]]=Ao.args i2/\Ao.pre i2/\((vB (AZ i2.1 i2.2.1 i2.2.2)=vB (okP p)))) ((vB false=vB (okP p))))) (by kernel_rfl) ?_
 conv=>zeta
 delta ifB vB
 refine ⟨(p.x.neg,p.x.num,p.x.den),by
  rfl,by
  exact ⟨hpre.1.1,hpre.1.2,Kp hpre.1.1,Kp hpre.1.2⟩,?_⟩
 refine And.symm ⟨λ c4=>?_,λ c4=>?_⟩
 ·try simp only [nrm] at c4
  exact congrArg Value.bool (by rw [SJ,c4];first|rfl|(rw [Bool.true_and]))
 try simp only [nrm] at c4
 refine ⟨(p.y.neg,p.y.num,p.y.den),by
  rfl,by
  exact ⟨hpre.2.1,hpre.2.2,Kp hpre.2.1,Kp hpre.2.2⟩,?_⟩
 exact congrArg Value.bool (by rw [SJ,c4];first|rfl|(rw [Bool.true_and]))
def GW:Con:={ ι:=PtD,pre:=λ i=>i.has,args:=λ i=>[DA.agg [cB i.x.neg,cS i.x.num,cS i.x.den,cB i.y.neg,cS i.y.num,cS i.y.den]],res:=λ i=>⟨false,[none],[rcB (!(okP i))]⟩ }
theorem Te:GW.Ok Tryz.prog 73:=by
 refine fok (X:=⟨tt,[(74,Ho)],[],6,[]⟩) AG AH (CTok.cons VX (CTok.nil _)) Tryz.func73 (λ _=>[]) ?_
 intro (p:PtD) hpre
 have hpre:p.has:=hpre
 refine AF (q:=∃ i1:PtD,[DA.agg [cB p.x.neg,cS p.x.num,cS p.x.den,cB p.y.neg,cS p.y.num,cS p.y.den]]=Ho.args i1/\Ho.pre i1/\((vB (!(okP i1))=vB (!(okP p))))) (by kernel_rfl) ?_
 delta vB
 refine ⟨p,by
  rfl,by
  exact hpre,?_⟩
 exact rfl
def Hp:Con:={ ι:=(List (List Dat)),pre:=λ i=>i.length<=9223372036854775807/\∀ k,k<i.length->(BK (i.getD k [])).has,args:=λ i=>[.one (DC.sl 29 z28 i),.one (.ro (.fn 73 []))],tag:=74,res:=λ i=>⟨false,[none],[rcI (KV (λ r=>!(okP (BK r))) i)]⟩ }
theorem VY:Hp.Ok Tryz.prog 114:=by
 refine fok (X:=⟨tt,[(73,GW)],[],19,[]⟩) AG AH (CTok.cons Te (CTok.nil _)) Tryz.func114 (λ (i:(List (List Dat)))=>[(2,.mk 3 (Nat) (λ x1=>{ tm:=[(0,tX 1),(1,tX 2),(7,tI (nI i.length)),(8,tI (nI x1))],en:=[(1,.view 29 z28 i []),(2,.ro (.fn 73 []) [])] }) (λ x1=>x1<=i.length/\∀ j,j<x1->(λ r=>!(okP (BK r))) (i.getD j [])=false) (λ x1=>i.length-x1) (λ _=>[]))]) ?_
 intro (l:List (List Dat)) hpre
 have hpre:l.length<=9223372036854775807/\∀ k,k<l.length->(BK (l.getD k [])).has:=hpre
 refine AF (q:=let Z3:=(.fn 73 []:RO)=.fn 73 [];let Z2:=KV (λ r=>!(okP (BK r))) l;(∃ x1:Nat,(x1<=l.length/\∀ j,j<x1->(λ r=>!(okP (BK r))) (l.getD j [])=false)/\((rf (vI (nI l.length)))/\(vI (0:Int)=vI (nI x1))/\(rf (l))/\Z3))/\∀ x1:Nat,let Z1:=l.getD x1 [];(x1<=l.length/\∀ j,j<x1->(λ r=>!(okP (BK r))) (l.getD j [])=false)->(ifB ((decide ((nI x1)<(nI l.length)))) ((0<=(nI x1)/\(nI x1)<(l.length:Int))/\((x1<l.length)/\(∃ i1:PtD,[DA.agg [cB (((Z1.getD 0 (.int 0))).b),cS (((Z1.getD 1 (.int 0))).r),cS (((Z1.getD 2 (.int 0))).r),cB (((Z1.getD 3 (.int 0))).b),cS (((Z1.getD 4 (.int 0))).r),cS (((Z1.getD 5 (.int 0))).r)]]=GW.args i1/\GW.pre i1/\(ifB ((!(okP i1))) ((vI (nI x1)=vI Z2)) (∃ y2:Nat,(y2<=l.length/\∀ j,j<y2->(λ r=>!(okP (BK r))) (l.getD j [])=false)/\(l.length-y2<l.length-x1)/\((rf (vI (nI l.length)))/\(vI (wR ((nI x1)+(1:Int)))=vI (nI y2))/\(rf (l))/\Z3)))))) ((vI (-1:Int)=vI Z2)))) (by kernel_rfl) ?_
 conv=>zeta
 delta ifB vI wR nI
 refine ⟨⟨0,by
  exact ⟨Nat.zero_le _,λ j hj=>absurd hj (Nat.not_lt_zero j)⟩,?_⟩,?_⟩
 ·refine ⟨rfl,?_,rfl,?_⟩
  ·rfl
  rfl
 intro (k:Nat) hki1
 have hki1:k<=l.length/\∀ j,j<k->(λ r=>!(okP (BK r))) (l.getD j [])=false:=hki1
 refine And.symm ⟨λ c7=>?_,λ c7=>?_⟩
 ·try simp only [nrm] at c7
  rw [M7 (λ j hj=>hki1.2 j (by omega))]
 try simp only [nrm] at c7
 refine ao (by omega) λ o8=>?_
 refine ao (by omega) λ o9=>?_
 refine ⟨(BK (l.getD k [])),by
  rfl,by
  exact hpre.2 k (by omega),?_⟩
 refine ⟨λ c13=>?_,λ c13=>?_⟩
 ·try simp only [nrm] at c13
  rw [R4 (k:=k) (by omega) hki1.2 (by show (!(okP (BK (l.getD k []))))=true;rw [c13];rfl)]
 try simp only [nrm] at c13
 refine ⟨k+1,by
  exact ⟨by omega,Ki hki1.2 (by show (!(okP (BK (l.getD k []))))=false;rw [c13];rfl)⟩,by
  omega,?_⟩
 refine ⟨rfl,?_,rfl,?_⟩
 ·exact Am (AB (by omega) (by omega))
 rfl
def GX:Con:={ ι:=(List (List Dat)),pre:=λ i=>i.length<=9223372036854775807/\∀ k,k<i.length->(BK (i.getD k [])).has,args:=λ i=>[.one (DC.sl 29 z28 i),.one (.ro (.fn 73 []))],tag:=74,res:=λ i=>⟨false,[none],[rcB (i.any (λ r=>!(okP (BK r))))]⟩ }
theorem Tf:GX.Ok Tryz.prog 72:=by
 refine fok (X:=⟨tt,[(114,Hp)],[],9,[]⟩) AG AH (CTok.cons VY (CTok.nil _)) Tryz.func72 (λ _=>[]) ?_
 intro (l:List (List Dat)) hpre
 have hpre:l.length<=9223372036854775807/\∀ k,k<l.length->(BK (l.getD k [])).has:=hpre
 refine AF (q:=∃ i1:(List (List Dat)),[DA.one (DC.sl 29 z28 l),DA.one (DC.ro (.fn 73 []))]=Hp.args i1/\Hp.pre i1/\((vB (decide ((KV (λ r=>!(okP (BK r))) i1)≥(0:Int)))=vB (l.any (λ r=>!(okP (BK r))))))) (by kernel_rfl) ?_
 delta vB
 refine ⟨l,by
  rfl,by
  exact hpre,?_⟩
 exact congrArg Value.bool (PN _ _)
def AE:Con:={ ι:=(List (List Dat)),pre:=λ i=>i.length<=9223372036854775807/\∀ k,k<i.length->(BK (i.getD k [])).has,args:=λ i=>[.one (DC.sl 29 z28 i)],res:=λ i=>⟨false,[none],[rcB (!(i.any (λ r=>!(okP (BK r)))))]⟩ }
theorem B4:AE.Ok Tryz.prog 34:=by
 refine fok (X:=⟨tt,[(72,GX)],[],6,[]⟩) AG AH (CTok.cons Tf (CTok.nil _)) Tryz.func34 (λ _=>[]) ?_
 intro (l:List (List Dat)) hpre
 have hpre:l.length<=9223372036854775807/\∀ k,k<l.length->(BK (l.getD k [])).has:=hpre
 refine AF (q:=∃ i1:(List (List Dat)),[DA.one (DC.sl 29 z28 l),DA.one (DC.ro (.fn 73 []))]=GX.args i1/\GX.pre i1/\((vB (!(i1.any (λ r=>!(okP (BK r)))))=vB (!(l.any (λ r=>!(okP (BK r)))))))) (by kernel_rfl) ?_
 delta vB
 refine ⟨l,by
  rfl,by
  exact hpre,?_⟩
 exact rfl
def CG:Con:={ ι:=Pq×Pq×Pq,pre:=λ i=>True,args:=λ i=>[dP i.1,dP i.2.1,dP i.2.2],res:=λ i=>⟨false,[none],[rcI (Bz i.1 i.2.1 i.2.2)]⟩ }
theorem SL:CG.Ok Tryz.prog 78:=by
 refine fok (X:=⟨tt,[(96,AR),(95,AW),(52,Cf)],[],35,[]⟩) AG AH (CTok.cons Hi (CTok.cons Fw (CTok.cons Ly (CTok.nil _)))) Tryz.func78 (λ _=>[]) ?_
 rintro ⟨p,q,r⟩ hpre
 have hpre:True:=hpre
 refine AF (q:=∃ i1:Fr×Fr,[dF q.x,dF p.x]=AR.args i1/\AR.pre i1/\(∃ i2:Fr×Fr,[dF r.y,dF p.y]=AR.args i2/\AR.pre i2/\(∃ i3:Fr×Fr,[dF (Fr.sub i1.1 i1.2),dF (Fr.sub i2.1 i2.2)]=AW.args i3/\AW.pre i3/\(∃ i4:Fr×Fr,[dF q.y,dF p.y]=AR.args i4/\AR.pre i4/\(∃ i5:Fr×Fr,[dF r.x,dF p.x]=AR.args i5/\AR.pre i5/\(∃ i6:Fr×Fr,[dF (Fr.sub i4.1 i4.2),dF (Fr.sub i5.1 i5.2)]=AW.args i6/\AW.pre i6/\(∃ i7:Fr×Fr,[dF (Fr.mul i3.1 i3.2),dF (Fr.mul i6.1 i6.2)]=AR.args i7/\AR.pre i7/\(∃ i8:Fr,[dF (Fr.sub i7.1 i7.2)]=Cf.args i8/\Cf.pre i8/\((vI i8.sgn=vI (Bz p q r))))))))))) (by kernel_rfl) ?_
 delta vI
 refine ⟨(q.x,p.x),by
  rfl,by
  trivial,?_⟩
 refine ⟨(r.y,p.y),by
  rfl,by
  trivial,?_⟩
 refine ⟨((Fr.sub q.x p.x),(Fr.sub r.y p.y)),by
  rfl,by
  trivial,?_⟩
 refine ⟨(q.y,p.y),by
  rfl,by
  trivial,?_⟩
 refine ⟨(r.x,p.x),by
  rfl,by
  trivial,?_⟩
 refine ⟨((Fr.sub q.y p.y),(Fr.sub r.x p.x)),by
  rfl,by
  trivial,?_⟩
 refine ⟨((Fr.mul (Fr.sub q.x p.x) (Fr.sub r.y p.y)),(Fr.mul (Fr.sub q.y p.y) (Fr.sub r.x p.x))),by
  rfl,by
  trivial,?_⟩
 refine ⟨(Fr.sub (Fr.mul (Fr.sub q.x p.x) (Fr.sub r.y p.y)) (Fr.mul (Fr.sub q.y p.y) (Fr.sub r.x p.x))),by
  rfl,by
  trivial,?_⟩
 rfl
def A2:Con:={ ι:=(List V2),pre:=λ i=>i.all AQ=true/\i.length<=1048576,args:=λ i=>[.one (DC.sl 44 [.int,.int] (AC i))],res:=λ i=>⟨false,[none],[.own 29 [.bool,.sl 3 [.int],.sl 3 [.int],.bool,.sl 3 [.int],.sl 3 [.int]] (Au i)]⟩ }
theorem FC:A2.Ok Tryz.prog 82:=by
 refine fok (X:=⟨tt,[(17,B0)],[],20,[]⟩) AG AH (CTok.cons KL (CTok.nil _)) Tryz.func82 (λ (i:(List V2))=>[(3,.mk 3 (Nat) (λ x1=>{ tm:=[(7,tX 1),(8,tI (nI ((AC i).length))),(9,tI (nI x1)),(3,tX 2)],en:=[(1,.view 44 [.int,.int] (AC i) []),(2,.own 29 z28 (Au (i.take x1)))] }) (λ x1=>x1<=i.length) (λ x1=>i.length-x1) (λ _=>[]))]) ?_
 intro (l:List V2) hpre
 have hpre:l.all AQ=true/\l.length<=1048576:=hpre
 refine AF (q:=let Z3:=nI ((AC l).length);(∃ x1:Nat,(x1<=l.length)/\((rf (vI Z3))/\(vI (0:Int)=vI (nI x1))/\(rf (AC l))/\(([]:List (List Dat))=(Au (l.take x1)))))/\∀ x1:Nat,let Z4:=Au (l.take x1);(x1<=l.length)->(ifB ((decide ((nI x1)<Z3))) ((0<=(nI x1)/\(nI x1)<((AC l).length:Int))/\((x1<(AC l).length)/\(∃ i1:Int×Int,let Z2:=Fr.ofInt i1.2;let Z1:=Fr.ofInt i1.1;[DA.agg [cI (((((AC l).getD x1 []).getD 0 (.int 0))).n),cI (((((AC l).getD x1 []).getD 1 (.int 0))).n)]]=B0.args i1/\B0.pre i1/\((Z4.length+([[Dat.bool (decide (Z1.z<0)),Dat.sl (L Z1.z.natAbs),Dat.sl (L Z1.d),Dat.bool (decide (Z2.z<0)),Dat.sl (L Z2.z.natAbs),Dat.sl (L Z2.d)]]:List (List Dat)).length<=1073741824)/\(∃ y2:Nat,(y2<=l.length)/\(l.length-y2<l.length-x1)/\((rf (vI Z3))/\(vI (wR ((nI x1)+(1:Int)))=vI (nI y2))/\(rf (AC l))/\((Z4++([[Dat.bool (decide (Z1.z<0)),Dat.sl (L Z1.z.natAbs),Dat.sl (L Z1.d),Dat.bool (decide (Z2.z<0)),Dat.sl (L Z2.z.natAbs),Dat.sl (L Z2.d)]]:List (List Dat)))=(Au (l.take y2))))))))) ((Z4=Au l)))) (by kernel_rfl) ?_
 conv=>zeta
 delta ifB vI wR nI
 have hvl:=AI l
 have hpl:=C1 l
 refine ⟨⟨0,by
  omega,?_⟩,?_⟩
 ·refine ⟨rfl,?_,rfl,?_⟩
  ·rfl
  rfl
 intro (k:Nat) hki1
 have hki1:k<=l.length:=hki1
 refine And.symm ⟨λ c7=>?_,λ c7=>?_⟩
 ·try simp only [nrm] at c7
  rw [show k=l.length by omega,List.take_length]
 try simp only [nrm] at c7
 refine ao (by omega) λ o8=>?_
 refine ao (by omega) λ o9=>?_
 refine ⟨((l.getD k (0,0)).1,(l.getD k (0,0)).2),by
  rw [CX (by omega),CY (by omega)];rfl,by
  exact SG hpre.1 (by omega),?_⟩
 refine ao (a:=(Au (l.take k)).length+([[Dat.bool (decide ((Fr.ofInt ((l.getD k (0,0)).1)).z<0)),Dat.sl (L (Fr.ofInt ((l.getD k (0,0)).1)).z.natAbs),Dat.sl (L (Fr.ofInt ((l.getD k (0,0)).1)).d),Dat.bool (decide ((Fr.ofInt ((l.getD k (0,0)).2)).z<0)),Dat.sl (L (Fr.ofInt ((l.getD k (0,0)).2)).z.natAbs),Dat.sl (L (Fr.ofInt ((l.getD k (0,0)).2)).d)]]:List (List Dat)).length<=1073741824) (by simp only [C1,List.length_take,List.length_cons,List.length_nil];omega) λ o13=>?_
 refine ⟨k+1,by
  omega,by
  omega,?_⟩
 refine ⟨rfl,?_,rfl,?_⟩
 ·exact Am (AB (by omega) (by omega))
 exact Td (by omega)
def A9:Con:={ ι:=(List V2)×Pq,pre:=λ i=>i.1.all AQ=true/\0<i.1.length/\i.1.length<=16,args:=λ i=>[.one (DC.sl 44 [.int,.int] (AC i.1)),dP i.2],res:=λ i=>⟨false,[none],[rcI (FU i.1 i.2)]⟩ }
theorem G4:A9.Ok Tryz.prog 39:=by
 refine fok (X:=⟨tt,[(82,A2),(78,CG)],[],33,[]⟩) AG AH (CTok.cons FC (CTok.cons SL (CTok.nil _))) Tryz.func39 (λ (i:(List V2)×Pq)=>[(4,.mk 7 (Nat) (λ x1=>{ tm:=[(3,tP 1 0),(11,tX 6),(12,tI (nI ((Au i.1).length))),(13,tI (nI x1)),(6,tI (KW i.1 i.2 x1)),(5,tX 6)],en:=[(1,.box [kB (decide (i.2.x.z<0)),.ext 2,.ext 3,kB (decide (i.2.y.z<0)),.ext 4,.ext 5]),(2,eV (L i.2.x.z.natAbs)),(3,eV (L i.2.x.d)),(4,eV (L i.2.y.z.natAbs)),(5,eV (L i.2.y.d)),(6,.own 29 z28 (Au i.1))] }) (λ x1=>x1<=i.1.length) (λ x1=>i.1.length-x1) (λ _=>[]))]) ?_
 rintro ⟨l,p⟩ hpre
 have hpre:l.all AQ=true/\0<l.length/\l.length<=16:=hpre
 refine AF (q:=let Z7:=vB (decide (p.y.z<0));let Z6:=vB (decide (p.x.z<0));let Z4:=nI ((Au l).length);∃ i1:(List V2),[DA.one (DC.sl 44 [.int,.int] (AC l))]=A2.args i1/\A2.pre i1/\((∃ x1:Nat,(x1<=l.length)/\((vI (nI ((Au i1).length))=vI Z4)/\(vI (0:Int)=vI (nI x1))/\(vI (1:Int)=vI (KW l p x1))/\(rf Z6)/\(rf Z7)/\(rf (L p.x.z.natAbs))/\(rf (L p.x.d))/\(rf (L p.y.z.natAbs))/\(rf (L p.y.d))/\(Au i1=(Au l))))/\∀ x1:Nat,let Z5:=wR ((nI x1)+(1:Int));let Z3:=(Au l).getD x1 [];let Z1:=Int.tmod Z5 Z4;let Z2:=(Au l).getD (Z1.toNat) [];(x1<=l.length)->(ifB ((decide ((nI x1)<Z4))) ((0<=(nI x1)/\(nI x1)<((Au l).length:Int))/\((x1<(Au l).length)/\((Z4≠0)/\((0<=Z1/\Z1<((Au l).length:Int))/\((Z1.toNat<(Au l).length)/\(∃ i2:Pq×Pq×Pq,[DA.agg [cB (((Z3.getD 0 (.int 0))).b),cS (((Z3.getD 1 (.int 0))).r),cS (((Z3.getD 2 (.int 0))).r),cB (((Z3.getD 3 (.int 0))).b),cS (((Z3.getD 4 (.int 0))).r),cS (((Z3.getD 5 (.int 0))).r)],DA.agg [cB (((Z2.getD 0 (.int 0))).b),cS (((Z2.getD 1 (.int 0))).r),cS (((Z2.getD 2 (.int 0))).r),cB (((Z2.getD 3 (.int 0))).b),cS (((Z2.getD 4 (.int 0))).r),cS (((Z2.getD 5 (.int 0))).r)],dP p]=CG.args i2/\CG.pre i2/\(∃ y2:Nat,(y2<=l.length)/\(l.length-y2<l.length-x1)/\((rf (vI Z4))/\(vI Z5=vI (nI y2))/\(vI (min (KW l p x1) (Bz i2.1 i2.2.1 i2.2.2))=vI (KW l p y2))/\(rf Z6)/\(rf Z7)/\(rf (L p.x.z.natAbs))/\(rf (L p.x.d))/\(rf (L p.y.z.natAbs))/\(rf (L p.y.d))/\(rf (Au l)))))))))) ((vI (KW l p x1)=vI (FU l p)))))) (by kernel_rfl) ?_
 conv=>zeta
 delta ifB vB vI wR nI
 have hvl:=AI l
 have hpl:=C1 l
 refine ⟨l,by
  rfl,by
  exact ⟨hpre.1,by omega⟩,?_⟩
 refine ⟨⟨0,by
  omega,?_⟩,?_⟩
 ·refine ⟨rfl,?_,?_,rfl,rfl,rfl,rfl,rfl,rfl,rfl⟩
  ·rfl
  rfl
 intro (k:Nat) hki4
 have hki4:k<=l.length:=hki4
 refine And.symm ⟨λ c16=>?_,λ c16=>?_⟩
 ·try simp only [nrm] at c16
  rw [show k=l.length by omega];rfl
 try simp only [nrm] at c16
 have hkl:k<l.length:=by omega
 have m2:(k+1)%l.length<l.length:=(Fx hkl (by omega)).2.1
 have m1:(Int.tmod (IntKind.i64.wrap (((k:Nat):Int)+(1:Int))) (((Au l).length:Nat):Int)).toNat=(k+1)%l.length:=by rw [hpl];exact (Fx hkl (by omega)).1
 have m3:Int.tmod (IntKind.i64.wrap (((k:Nat):Int)+(1:Int))) (((Au l).length:Nat):Int)=(((k+1)%l.length:Nat):Int):=by rw [hpl];exact (Fx hkl (by omega)).2.2
 refine ao (by omega) λ o17=>?_
 refine ao (by omega) λ o18=>?_
 refine ao (by omega) λ o19=>?_
 refine ao (by omega) λ o20=>?_
 refine ao (by omega) λ o21=>?_
 refine ⟨(By l k,By l ((k+1)%l.length),p),by
  rw [m1,EU hkl,EU m2];rfl,by
  trivial,?_⟩
 refine ⟨k+1,by
  trivial,by
  omega,?_⟩
 refine ⟨rfl,?_,?_,rfl,rfl,rfl,rfl,rfl,rfl,rfl⟩
 ·exact Am (AB (by omega) (by omega))
 rfl
def D0:Con:={ ι:=(List V2)×PtD,pre:=λ i=>i.2.has,args:=λ i=>[.one (DC.sl 44 [.int,.int] (AC i.1)),DA.agg [cB i.2.x.neg,cS i.2.x.num,cS i.2.x.den,cB i.2.y.neg,cS i.2.y.num,cS i.2.y.den]],res:=λ i=>⟨false,[none],[rcI (cpZ i.1 i.2)]⟩ }
theorem N5:D0.Ok Tryz.prog 12:=by
 refine fok (X:=⟨tt,[(37,BF),(34,AE),(39,A9)],[],17,[]⟩) AG AH (CTok.cons GU (CTok.cons B4 (CTok.cons G4 (CTok.nil _)))) Tryz.func12 (λ _=>[]) ?_
 rintro ⟨l,p⟩ hpre
 have hpre:p.has:=hpre
 refine AF (q:=let Z2:=(vI (-1:Int)=vI (cpZ l p));let Z1:=DC.sl 44 [.int,.int] (AC l);∃ i1:(List V2),[DA.one Z1]=BF.args i1/\BF.pre i1/\(ifB ((!(!(AU i1)))) (∃ i2:(List (List Dat)),[DA.one (DC.sl 29 z28 ([[Dat.bool p.x.neg,Dat.sl p.x.num,Dat.sl p.x.den,Dat.bool p.y.neg,Dat.sl p.y.num,Dat.sl p.y.den]]:List (List Dat)))]=AE.args i2/\AE.pre i2/\(ifB ((!(!(i2.any (λ r=>!(okP (BK r))))))) Z2 (∃ i3:(List V2)×Pq,[DA.one Z1,DA.agg [cB p.x.neg,cS p.x.num,cS p.x.den,cB p.y.neg,cS p.y.num,cS p.y.den]]=A9.args i3/\A9.pre i3/\((vI (FU i3.1 i3.2)=vI (cpZ l p)))))) Z2)) (by kernel_rfl) ?_
 conv=>zeta
 delta ifB vI
 have hvl:=AI l
 have hpl:=C1 l
 refine ⟨l,by
  rfl,by
  trivial,?_⟩
 refine And.symm ⟨λ c4=>?_,λ c4=>?_⟩
 ·try simp only [nrm] at c4
  have hE:=Wi (p:=p) c4
  rw [hE]
 try simp only [nrm] at c4
 refine ⟨([[Dat.bool p.x.neg,Dat.sl p.x.num,Dat.sl p.x.den,Dat.bool p.y.neg,Dat.sl p.y.num,Dat.sl p.y.den]]:List (List Dat)),by
  rfl,by
  try dsimp only [AE]
  exact ⟨by show 1<=_;decide,SH hpre⟩,?_⟩
 refine ⟨λ c8=>?_,λ c8=>?_⟩
 ·try simp only [nrm] at c8
  have c8:okP p=false:=by have h:=(Wg p).symm.trans c8;simpa using h
  have hE:=Wj (l:=l) c8
  rw [hE]
 try simp only [nrm] at c8
 have c8:okP p=true:=by have h:=(Wg p).symm.trans c8;simpa using h
 have hE:=SK c4 c8
 obtain ⟨e1,e2,e3,e4,e5,e6,e7,e8⟩:=Jj hpre c8
 refine ⟨(l,pqR p),by
  rw [e1,e2,e3,e4,e5,e6];rfl,by
  show l.all AQ=true/\0<l.length/\l.length<=16
  have:=GV c4
  exact ⟨this.2.2,by omega,by omega⟩,?_⟩
 rw [hE]
end Go.Proofs.YtndnhlhnjiopfaaGreat
