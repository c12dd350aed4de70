import Derived.Test.YtndnhlhnjiopfaaHhRkE
import Derived.Test.YtndnhlhnjiopfaaHhScW
namespace Go.Proofs.Ytndnhlhnjiopfaa
set_option maxRecDepth 100000
set_option linter.unusedVariables false
set_option linter.unusedSimpArgs false
open Go.RowKit
def EQ:Con:={ ι:=Int×Int,pre:=λ i=>True,args:=λ i=>[DA.agg [cI i.1,cI i.2]],res:=λ i=>⟨false,[none],[rcB (AE (i.1,i.2))]⟩ }
theorem RB:EQ.Ok Try.prog 47:=Cw rfl ⟨_,Try.func47,by decide,rfl⟩ (λ _=>Nat.le_of_ble_eq_true rfl) (λ _=>rfl) (λ i=>[.im (.bool (AE (i.1,i.2)))]) (λ _=>rfl) (λ _=>rfl) (λ i hp w us h=>by
 obtain ⟨x,y⟩:=i
 have h:RdRow w [.int,.int] [.int x,.int y] us:=h
 obtain ⟨a,_,rfl,q1,h⟩:=RdRow.cons2 h
 obtain ⟨b,_,rfl,q2,h⟩:=RdRow.cons2 h
 obtain ⟨-,rfl⟩:=RdRow.nil_inv h
 obtain rfl:=Rd.int2 q1
 obtain rfl:=Rd.int2 q2
 refine (A8 x y w).mono ?_
 rintro e w' ⟨rfl,hb⟩
 exact ⟨[Value.bool (AE (x,y))],rfl,Own.leaf (Fp.mk_bool _),hb⟩)
def Ay:Con:={ ι:=(List V2),pre:=λ i=>True,args:=λ i=>[.one (DC.sl 27 [.int,.int] (AA i))],res:=λ i=>⟨false,[none],[rcB (AJ i)]⟩ }
theorem F5:Ay.Ok Try.prog 9:=Cw rfl ⟨_,Try.func9,by decide,rfl⟩ (λ _=>Nat.le_of_ble_eq_true rfl) (λ _=>rfl) (λ l=>[.im (.bool (AJ l))]) (λ _=>rfl) (λ _=>rfl) (λ i hp w us h=>by
 have h:RdRow w [.sl 27 [.int,.int]] [.sl (AA i)] us:=h
 obtain ⟨v,vs,rfl,h1,h2⟩:=RdRow.cons2 h
 obtain ⟨-,rfl⟩:=RdRow.nil_inv h2
 refine (Nb i v w (Rd.vecs h1)).mono ?_
 rintro e w' ⟨rfl,hb⟩
 exact ⟨[Value.bool (AJ i)],rfl,Own.leaf (Fp.mk_bool _),hb⟩)
def DU:Con:={ ι:=(List V2),pre:=λ i=>True,args:=λ i=>[.one (DC.sl 27 [.int,.int] (AA i))],res:=λ i=>⟨false,[none],[rcB (AJ i)]⟩ }
theorem Oz:DU.Ok Try.prog 32:=Cw rfl ⟨_,Try.func32,by decide,rfl⟩ (λ _=>Nat.le_of_ble_eq_true rfl) (λ _=>rfl) (λ l=>[.im (.bool (AJ l))]) (λ _=>rfl) (λ _=>rfl) (λ i hp w us h=>by
 have h:RdRow w [.sl 27 [.int,.int]] [.sl (AA i)] us:=h
 obtain ⟨v,vs,rfl,h1,h2⟩:=RdRow.cons2 h
 obtain ⟨-,rfl⟩:=RdRow.nil_inv h2
 refine (Lx i v w (Rd.vecs h1)).mono ?_
 rintro e w' ⟨rfl,hb⟩
 exact ⟨[Value.bool (AJ i)],rfl,Own.leaf (Fp.mk_bool _),hb⟩)
theorem O0 {l:List V2} (h:AJ l=true):3<=l.length/\l.length<=16/\l.all AE=true:=by
 simp only [AJ,Bool.and_eq_true,DI] at h
 exact ⟨by omega,by omega,h.1.2⟩
def frR (r:RatD):Fr:=Fr.mk' (zOf r.neg (IN r.num)) (IN r.den)
def okR (r:RatD):Bool:=A1 r.neg r.num r.den
def okP (p:PtD):Bool:=okR p.x && okR p.y
def pqR (p:PtD):Pq:=⟨frR p.x,frR p.y⟩
def RatD.has (r:RatD):Prop:=Dat.has (.sl 3 [.int]) (.sl r.num)/\Dat.has (.sl 3 [.int]) (.sl r.den)
def PtD.has (p:PtD):Prop:=p.x.has/\p.y.has
theorem Ly {r:Fr} (h:r.d≠0):Fr.mk' r.z r.d=r:=by
 obtain ⟨q,hq,e1,e2⟩:=Fr.some_d h
 rw [e1,e2]
 unfold Fr.mk'
 rw [Rat.mkRat_self]
 exact (Fr.of_some hq).symm
theorem TF {r:RatD} (hh:r.has) (h:okR r=true):r.neg=decide ((frR r).z<0)/\r.num=L (frR r).z.natAbs/\r.den=L (frR r).d/\(frR r).d≠0:=by
 obtain ⟨s,hd,e1,e2,e3⟩:=Om hh.1 hh.2 h
 rw [Fr.neg_z] at e1
 rw [Fr.num_z] at e2
 rw [Fr.den_d] at e3
 have:frR r=s:=by
  unfold frR
  rw [e1,e2,e3,B9,B9,Je,Ly hd]
 rw [this]
 exact ⟨e1,e2,e3,hd⟩
theorem Nc {p:PtD} (h:okP p=true):okR p.x=true/\okR p.y=true:=by
 unfold okP at h;rwa [Bool.and_eq_true] at h
theorem Vf {p:PtD} (hh:p.has) (h:okP p=true):p.x.neg=decide ((pqR p).x.z<0)/\p.x.num=L (pqR p).x.z.natAbs/\p.x.den=L (pqR p).x.d/\p.y.neg=decide ((pqR p).y.z<0)/\p.y.num=L (pqR p).y.z.natAbs/\p.y.den=L (pqR p).y.d/\(pqR p).x.d≠0/\(pqR p).y.d≠0:=by
 obtain ⟨a1,a2,a3,a4⟩:=TF hh.1 (Nc h).1
 obtain ⟨b1,b2,b3,b4⟩:=TF hh.2 (Nc h).2
 exact ⟨a1,a2,a3,b1,b2,b3,a4,b4⟩
def Ce (r:List Dat):PtD:=⟨⟨(r.getD 0 (.int 0)).b,(r.getD 1 (.int 0)).r,(r.getD 2 (.int 0)).r⟩,⟨(r.getD 3 (.int 0)).b,(r.getD 4 (.int 0)).r,(r.getD 5 (.int 0)).r⟩⟩
def ptD (p:PtD):List Dat:=[.bool p.x.neg,.sl p.x.num,.sl p.x.den,.bool p.y.neg,.sl p.y.num,.sl p.y.den]
theorem WD (p:PtD):([ptD p].any λ r=>!(okP (Ce r)))=!(okP p):=by
 show (!(okP p) || false)=_;rw [Bool.or_false]
theorem Id {m:List (List Dat)} (h:Dat.has (.sl 3 [.int]) (.sl m)):m.length<=9223372036854775807:=UP h
def ptV (v:V2):Pq:=⟨Fr.ofInt v.1,Fr.ofInt v.2⟩
def TG (p:Pq):List Dat:=[.bool (decide (p.x.z<0)),.sl (L p.x.z.natAbs),.sl (L p.x.d),.bool (decide (p.y.z<0)),.sl (L p.y.z.natAbs),.sl (L p.y.d)]
def CA (l:List V2):List (List Dat):=l.map λ v=>TG (ptV v)
def E3 (l:List V2) (k:Nat):Pq:=ptV (l.getD k (0,0))
theorem Gg (l:List V2):(CA l).length=l.length:=by simp [CA]
theorem P7 {l:List V2} {k:Nat} (h:k<l.length):(CA l).getD k []=TG (E3 l k):=by
 simp [CA,List.getD,h,E3]
theorem RD {l:List V2} {k:Nat} (h:k<l.length):CA (l.take k)++[TG (E3 l k)]=CA (l.take (k+1)):=by
 rw [CF l (0,0) k h];simp [CA,E3]
def Gh (p q r:Pq):Int:=(Fr.sub (Fr.mul (Fr.sub q.x p.x) (Fr.sub r.y p.y)) (Fr.mul (Fr.sub q.y p.y) (Fr.sub r.x p.x))).sgn
def IO (l:List V2) (p:Pq):Nat->Int
 | 0=>1
 | k+1=>min (IO l p k) (Gh (E3 l k) (E3 l ((k+1)%l.length)) p)
def Lz (l:List V2) (p:Pq):Int:=IO l p l.length
def cpZ (l:List V2) (p:PtD):Int:=if AJ l=true/\okP p=true then Lz l (pqR p) else -1
theorem P8 {l:List V2} (h:l.all AE=true) {k:Nat} (hk:k<l.length):(-9223372036854775808<=(l.getD k (0,0)).1/\(l.getD k (0,0)).1<=9223372036854775807)/\-9223372036854775808<=(l.getD k (0,0)).2/\(l.getD k (0,0)).2<=9223372036854775807:=by
 have:=AY h hk
 have:=A4 this
 omega
theorem Jk {k n:Nat} (hk:k<n) (hn:n<=1048576):(Int.tmod (IntKind.i64.wrap (((k:Nat):Int)+(1:Int))) ((n:Nat):Int)).toNat=(k+1)%n/\(k+1)%n<n/\Int.tmod (IntKind.i64.wrap (((k:Nat):Int)+(1:Int))) ((n:Nat):Int)=(((k+1)%n:Nat):Int):=by
 have e:Int.tmod (IntKind.i64.wrap (((k:Nat):Int)+(1:Int))) ((n:Nat):Int)=(((k+1)%n:Nat):Int):=by
  rw [AD (by omega) (by omega),show ((k:Nat):Int)+1=((k+1:Nat):Int) by omega,U4]
 refine ⟨by rw [e];omega,Nat.mod_lt _ (by omega),e⟩
theorem Ub {p:PtD} (h:p.has):∀ k,k < [ptD p].length->(Ce ([ptD p].getD k [])).has:=λ k hk=>by
 obtain rfl:k=0:=by simp only [List.length_cons,List.length_nil] at hk;omega
 exact h
def ptQ (p:Pq):PtD:=⟨⟨decide (p.x.z<0),L p.x.z.natAbs,L p.x.d⟩,⟨decide (p.y.z<0),L p.y.z.natAbs,L p.y.d⟩⟩
theorem Uc (p:Pq):(ptQ p).has:=by
 have h1:=p.x.nlz
 have h2:=p.x.nld
 have h3:=p.y.nlz
 have h4:=p.y.nld
 exact ⟨⟨P6 _ (by omega),P6 _ (by omega)⟩,P6 _ (by omega),P6 _ (by omega)⟩
theorem Vg (p:Pq):okP (ptQ p)=p.good:=by
 show (A1 (decide (p.x.z<0)) (L p.x.z.natAbs) (L p.x.d) && A1 (decide (p.y.z<0)) (L p.y.z.natAbs) (L p.y.d))=_
 rw [K9,K9];rfl
theorem P9 (p:PtD):okP p=(A1 p.x.neg p.x.num p.x.den && A1 p.y.neg p.y.num p.y.den):=rfl
theorem Ud {l:List V2} {p:PtD} (h:AJ l=false):cpZ l p=-1:=by unfold cpZ;rw [if_neg (by rw [h];simp)]
theorem Ue {l:List V2} {p:PtD} (h:okP p=false):cpZ l p=-1:=by unfold cpZ;rw [if_neg (by rw [h];simp)]
theorem QA {l:List V2} {p:PtD} (h:AJ l=true) (h2:okP p=true):cpZ l p=Lz l (pqR p):=by unfold cpZ;rw [if_pos ⟨h,h2⟩]
def A9:Con:={ ι:=Int×Int,pre:=λ i=>(-9223372036854775808<=i.1/\i.1<=9223372036854775807)/\-9223372036854775808<=i.2/\i.2<=9223372036854775807,args:=λ i=>[DA.agg [cI i.1,cI i.2]],res:=λ i=>⟨false,[some 6],[rcB (decide ((Fr.ofInt i.1).z<0)),.own 3 [.int] (L (Fr.ofInt i.1).z.natAbs),.own 3 [.int] (L (Fr.ofInt i.1).d),rcB (decide ((Fr.ofInt i.2).z<0)),.own 3 [.int] (L (Fr.ofInt i.2).z.natAbs),.own 3 [.int] (L (Fr.ofInt i.2).d)]⟩ }
theorem ID:A9.Ok Try.prog 8:=by
 refine fok (X:=⟨tt,[(24,CK)],[],10,[]⟩) mixed AS (CTok.cons Q6 (CTok.nil _)) Try.func8 (λ _=>[]) ?_
 rintro ⟨x,y⟩ hpre
 have hpre:(-9223372036854775808<=x/\x<=9223372036854775807)/\-9223372036854775808<=y/\y<=9223372036854775807:=hpre
 refine AR (q:=∃ i1:Int,[DA.one (cI x)]=CK.args i1/\CK.pre i1/\(∃ i2:Int,[DA.one (cI y)]=CK.args i2/\CK.pre i2/\((eqD (Fr.ofInt i1) (Fr.ofInt x) ((eqC (Fr.ofInt i2) (Fr.ofInt y))))))) (by kernel_rfl) ?_
 refine ⟨x,by
  rfl,by
  show -9223372036854775808<=x/\x<=9223372036854775807
  first|omega|assumption|exact hpre.1|exact hpre.2|(simp;done),?_⟩
 refine ⟨y,by
  rfl,by
  show -9223372036854775808<=y/\y<=9223372036854775807
  first|omega|assumption|exact hpre.1|exact hpre.2|(simp;done),?_⟩
 exact Vc rfl (Lv rfl)
def FW:Con:={ ι:=PtD,pre:=λ i=>i.has,args:=λ i=>[DA.agg [cB i.x.neg,cS i.x.num,cS i.x.den,cB i.y.neg,cS i.y.num,cS i.y.den]],res:=λ i=>⟨false,[none],[rcB (okP i)]⟩ }
theorem TH:FW.Ok Try.prog 42:=by
 refine fok (X:=⟨tt,[(64,Cx)],[],11,[]⟩) mixed AS (CTok.cons TB (CTok.nil _)) Try.func42 (λ _=>[]) ?_
 intro (p:PtD) hpre
 have hpre:p.has:=hpre
 refine AR (q:=let Z1:=List (List Dat);∃ i1:Bool×Z1×Z1,[DA.agg [cB p.x.neg,cS p.x.num,cS p.x.den]]=Cx.args i1/\Cx.pre i1/\(ifB ((A1 i1.1 i1.2.1 i1.2.2)) (∃ i2:Bool×Z1×Z1,[DA.agg [cB p.y.neg,cS p.y.num,cS p.y.den]]=Cx.args i2/\Cx.pre i2/\((vB (A1 i2.1 i2.2.1 i2.2.2)=vB (okP p)))) ((vB false=vB (okP p))))) (by kernel_rfl) ?_
 conv=>zeta
 delta ifB vB
 refine ⟨(p.x.neg,p.x.num,p.x.den),by
  rfl,by
  exact ⟨hpre.1.1,hpre.1.2,Id hpre.1.1,Id hpre.1.2⟩,?_⟩
 refine And.symm ⟨λ c4=>?_,λ c4=>?_⟩
 ·try simp only [nrm] at c4
  exact congrArg Value.bool (by rw [P9,c4];first|rfl|(rw [Bool.true_and]))
 try simp only [nrm] at c4
 refine ⟨(p.y.neg,p.y.num,p.y.den),by
  rfl,by
  exact ⟨hpre.2.1,hpre.2.2,Id hpre.2.1,Id hpre.2.2⟩,?_⟩
 exact congrArg Value.bool (by rw [P9,c4];first|rfl|(rw [Bool.true_and]))
def ER:Con:={ ι:=PtD,pre:=λ i=>i.has,args:=λ i=>[DA.agg [cB i.x.neg,cS i.x.num,cS i.x.den,cB i.y.neg,cS i.y.num,cS i.y.den]],res:=λ i=>⟨false,[none],[rcB (!(okP i))]⟩ }
theorem RE:ER.Ok Try.prog 41:=by
 refine fok (X:=⟨tt,[(42,FW)],[],6,[]⟩) mixed AS (CTok.cons TH (CTok.nil _)) Try.func41 (λ _=>[]) ?_
 intro (p:PtD) hpre
 have hpre:p.has:=hpre
 refine AR (q:=∃ i1:PtD,[DA.agg [cB p.x.neg,cS p.x.num,cS p.x.den,cB p.y.neg,cS p.y.num,cS p.y.den]]=FW.args i1/\FW.pre i1/\((vB (!(okP i1))=vB (!(okP p))))) (by kernel_rfl) ?_
 delta vB
 refine ⟨p,by
  rfl,by
  exact hpre,?_⟩
 exact rfl
def FX:Con:={ ι:=(List (List Dat)),pre:=λ i=>i.length<=9223372036854775807/\∀ k,k<i.length->(Ce (i.getD k [])).has,args:=λ i=>[.one (DC.sl 35 z34 i),.one (.ro (.fn 41 []))],tag:=42,res:=λ i=>⟨false,[none],[rcI (IM (λ r=>!(okP (Ce r))) i)]⟩ }
theorem TJ:FX.Ok Try.prog 63:=by
 refine fok (X:=⟨tt,[(41,ER)],[],19,[]⟩) mixed AS (CTok.cons RE (CTok.nil _)) Try.func63 (λ (i:(List (List Dat)))=>[(2,.mk 3 (Nat) (λ x1=>{ tm:=[(0,tX 1),(1,tX 2),(7,tI (nI i.length)),(8,tI (nI x1))],en:=[(1,.view 35 z34 i []),(2,.ro (.fn 41 []) [])] }) (λ x1=>x1<=i.length/\∀ j,j<x1->(λ r=>!(okP (Ce r))) (i.getD j [])=false) (λ x1=>i.length-x1) (λ _=>[]))]) ?_
 intro (l:List (List Dat)) hpre
 have hpre:l.length<=9223372036854775807/\∀ k,k<l.length->(Ce (l.getD k [])).has:=hpre
 refine AR (q:=let Z3:=(.fn 41 []:RO)=.fn 41 [];let Z2:=IM (λ r=>!(okP (Ce r))) l;(∃ x1:Nat,(x1<=l.length/\∀ j,j<x1->(λ r=>!(okP (Ce r))) (l.getD j [])=false)/\((rf (vI (nI l.length)))/\(vI (0:Int)=vI (nI x1))/\(rf (l))/\Z3))/\∀ x1:Nat,let Z1:=l.getD x1 [];(x1<=l.length/\∀ j,j<x1->(λ r=>!(okP (Ce r))) (l.getD j [])=false)->(ifB ((decide ((nI x1)<(nI l.length)))) ((0<=(nI x1)/\(nI x1)<(l.length:Int))/\((x1<l.length)/\(∃ i1:PtD,[DA.agg [cB (((Z1.getD 0 (.int 0))).b),cS (((Z1.getD 1 (.int 0))).r),cS (((Z1.getD 2 (.int 0))).r),cB (((Z1.getD 3 (.int 0))).b),cS (((Z1.getD 4 (.int 0))).r),cS (((Z1.getD 5 (.int 0))).r)]]=ER.args i1/\ER.pre i1/\(ifB ((!(okP i1))) ((vI (nI x1)=vI Z2)) (∃ y2:Nat,(y2<=l.length/\∀ j,j<y2->(λ r=>!(okP (Ce r))) (l.getD j [])=false)/\(l.length-y2<l.length-x1)/\((rf (vI (nI l.length)))/\(vI (wR ((nI x1)+(1:Int)))=vI (nI y2))/\(rf (l))/\Z3)))))) ((vI (-1:Int)=vI Z2)))) (by kernel_rfl) ?_
 conv=>zeta
 delta ifB vI wR nI
 refine ⟨⟨0,by
  exact ⟨Nat.zero_le _,λ j hj=>absurd hj (Nat.not_lt_zero j)⟩,?_⟩,?_⟩
 ·refine ⟨rfl,?_,rfl,?_⟩
  ·rfl
  rfl
 intro (k:Nat) hki1
 have hki1:k<=l.length/\∀ j,j<k->(λ r=>!(okP (Ce r))) (l.getD j [])=false:=hki1
 refine And.symm ⟨λ c7=>?_,λ c7=>?_⟩
 ·try simp only [nrm] at c7
  rw [Kx (λ j hj=>hki1.2 j (by omega))]
 try simp only [nrm] at c7
 refine ao (by omega) λ o8=>?_
 refine ao (by omega) λ o9=>?_
 refine ⟨(Ce (l.getD k [])),by
  rfl,by
  exact hpre.2 k (by omega),?_⟩
 refine ⟨λ c13=>?_,λ c13=>?_⟩
 ·try simp only [nrm] at c13
  rw [Pu (k:=k) (by omega) hki1.2 (by show (!(okP (Ce (l.getD k []))))=true;rw [c13];rfl)]
 try simp only [nrm] at c13
 refine ⟨k+1,by
  exact ⟨by omega,Pv hki1.2 (by show (!(okP (Ce (l.getD k []))))=false;rw [c13];rfl)⟩,by
  omega,?_⟩
 refine ⟨rfl,?_,rfl,?_⟩
 ·exact AW (AD (by omega) (by omega))
 rfl
def ES:Con:={ ι:=(List (List Dat)),pre:=λ i=>i.length<=9223372036854775807/\∀ k,k<i.length->(Ce (i.getD k [])).has,args:=λ i=>[.one (DC.sl 35 z34 i),.one (.ro (.fn 41 []))],tag:=42,res:=λ i=>⟨false,[none],[rcB (i.any (λ r=>!(okP (Ce r))))]⟩ }
theorem RF:ES.Ok Try.prog 40:=by
 refine fok (X:=⟨tt,[(63,FX)],[],9,[]⟩) mixed AS (CTok.cons TJ (CTok.nil _)) Try.func40 (λ _=>[]) ?_
 intro (l:List (List Dat)) hpre
 have hpre:l.length<=9223372036854775807/\∀ k,k<l.length->(Ce (l.getD k [])).has:=hpre
 refine AR (q:=∃ i1:(List (List Dat)),[DA.one (DC.sl 35 z34 l),DA.one (DC.ro (.fn 41 []))]=FX.args i1/\FX.pre i1/\((vB (decide ((IM (λ r=>!(okP (Ce r))) i1)≥(0:Int)))=vB (l.any (λ r=>!(okP (Ce r))))))) (by kernel_rfl) ?_
 delta vB
 refine ⟨l,by
  rfl,by
  exact hpre,?_⟩
 exact congrArg Value.bool (NI _ _)
def Bi:Con:={ ι:=(List (List Dat)),pre:=λ i=>i.length<=9223372036854775807/\∀ k,k<i.length->(Ce (i.getD k [])).has,args:=λ i=>[.one (DC.sl 35 z34 i)],res:=λ i=>⟨false,[none],[rcB (!(i.any (λ r=>!(okP (Ce r)))))]⟩ }
theorem L0:Bi.Ok Try.prog 22:=by
 refine fok (X:=⟨tt,[(40,ES)],[],6,[]⟩) mixed AS (CTok.cons RF (CTok.nil _)) Try.func22 (λ _=>[]) ?_
 intro (l:List (List Dat)) hpre
 have hpre:l.length<=9223372036854775807/\∀ k,k<l.length->(Ce (l.getD k [])).has:=hpre
 refine AR (q:=∃ i1:(List (List Dat)),[DA.one (DC.sl 35 z34 l),DA.one (DC.ro (.fn 41 []))]=ES.args i1/\ES.pre i1/\((vB (!(i1.any (λ r=>!(okP (Ce r)))))=vB (!(l.any (λ r=>!(okP (Ce r)))))))) (by kernel_rfl) ?_
 delta vB
 refine ⟨l,by
  rfl,by
  exact hpre,?_⟩
 exact rfl
def Gi:Con:={ ι:=Pq×Pq×Pq,pre:=λ i=>True,args:=λ i=>[dP i.1,dP i.2.1,dP i.2.2],res:=λ i=>⟨false,[none],[rcI (Gh i.1 i.2.1 i.2.2)]⟩ }
theorem Uf:Gi.Ok Try.prog 44:=by
 refine fok (X:=⟨tt,[(66,Au),(65,CL),(67,DT)],[],35,[]⟩) mixed AS (CTok.cons RA (CTok.cons Q8 (CTok.cons Ow (CTok.nil _)))) Try.func44 (λ _=>[]) ?_
 rintro ⟨p,q,r⟩ hpre
 have hpre:True:=hpre
 refine AR (q:=∃ i1:Fr×Fr,[dF q.x,dF p.x]=Au.args i1/\Au.pre i1/\(∃ i2:Fr×Fr,[dF r.y,dF p.y]=Au.args i2/\Au.pre i2/\(∃ i3:Fr×Fr,[dF (Fr.sub i1.1 i1.2),dF (Fr.sub i2.1 i2.2)]=CL.args i3/\CL.pre i3/\(∃ i4:Fr×Fr,[dF q.y,dF p.y]=Au.args i4/\Au.pre i4/\(∃ i5:Fr×Fr,[dF r.x,dF p.x]=Au.args i5/\Au.pre i5/\(∃ i6:Fr×Fr,[dF (Fr.sub i4.1 i4.2),dF (Fr.sub i5.1 i5.2)]=CL.args i6/\CL.pre i6/\(∃ i7:Fr×Fr,[dF (Fr.mul i3.1 i3.2),dF (Fr.mul i6.1 i6.2)]=Au.args i7/\Au.pre i7/\(∃ i8:Fr,[dF (Fr.sub i7.1 i7.2)]=DT.args i8/\DT.pre i8/\((vI i8.sgn=vI (Gh p q r))))))))))) (by kernel_rfl) ?_
 delta vI
 refine ⟨(q.x,p.x),by
  rfl,by
  trivial,?_⟩
 refine ⟨(r.y,p.y),by
  rfl,by
  trivial,?_⟩
 refine ⟨((Fr.sub q.x p.x),(Fr.sub r.y p.y)),by
  rfl,by
  trivial,?_⟩
 refine ⟨(q.y,p.y),by
  rfl,by
  trivial,?_⟩
 refine ⟨(r.x,p.x),by
  rfl,by
  trivial,?_⟩
 refine ⟨((Fr.sub q.y p.y),(Fr.sub r.x p.x)),by
  rfl,by
  trivial,?_⟩
 refine ⟨((Fr.mul (Fr.sub q.x p.x) (Fr.sub r.y p.y)),(Fr.mul (Fr.sub q.y p.y) (Fr.sub r.x p.x))),by
  rfl,by
  trivial,?_⟩
 refine ⟨(Fr.sub (Fr.mul (Fr.sub q.x p.x) (Fr.sub r.y p.y)) (Fr.mul (Fr.sub q.y p.y) (Fr.sub r.x p.x))),by
  rfl,by
  trivial,?_⟩
 rfl
def Co:Con:={ ι:=(List V2),pre:=λ i=>i.all AE=true/\i.length<=1048576,args:=λ i=>[.one (DC.sl 27 [.int,.int] (AA i))],res:=λ i=>⟨false,[none],[.own 35 [.bool,.sl 3 [.int],.sl 3 [.int],.bool,.sl 3 [.int],.sl 3 [.int]] (CA i)]⟩ }
theorem Nd:Co.Ok Try.prog 43:=by
 refine fok (X:=⟨tt,[(8,A9)],[],20,[]⟩) mixed AS (CTok.cons ID (CTok.nil _)) Try.func43 (λ (i:(List V2))=>[(3,.mk 3 (Nat) (λ x1=>{ tm:=[(7,tX 1),(8,tI (nI ((AA i).length))),(9,tI (nI x1)),(3,tX 2)],en:=[(1,.view 27 [.int,.int] (AA i) []),(2,.own 35 z34 (CA (i.take x1)))] }) (λ x1=>x1<=i.length) (λ x1=>i.length-x1) (λ _=>[]))]) ?_
 intro (l:List V2) hpre
 have hpre:l.all AE=true/\l.length<=1048576:=hpre
 refine AR (q:=let Z3:=nI ((AA l).length);(∃ x1:Nat,(x1<=l.length)/\((rf (vI Z3))/\(vI (0:Int)=vI (nI x1))/\(rf (AA l))/\(([]:List (List Dat))=(CA (l.take x1)))))/\∀ x1:Nat,let Z4:=CA (l.take x1);(x1<=l.length)->(ifB ((decide ((nI x1)<Z3))) ((0<=(nI x1)/\(nI x1)<((AA l).length:Int))/\((x1<(AA l).length)/\(∃ i1:Int×Int,let Z2:=Fr.ofInt i1.2;let Z1:=Fr.ofInt i1.1;[DA.agg [cI (((((AA l).getD x1 []).getD 0 (.int 0))).n),cI (((((AA l).getD x1 []).getD 1 (.int 0))).n)]]=A9.args i1/\A9.pre i1/\((Z4.length+([[Dat.bool (decide (Z1.z<0)),Dat.sl (L Z1.z.natAbs),Dat.sl (L Z1.d),Dat.bool (decide (Z2.z<0)),Dat.sl (L Z2.z.natAbs),Dat.sl (L Z2.d)]]:List (List Dat)).length<=1073741824)/\(∃ y2:Nat,(y2<=l.length)/\(l.length-y2<l.length-x1)/\((rf (vI Z3))/\(vI (wR ((nI x1)+(1:Int)))=vI (nI y2))/\(rf (AA l))/\((Z4++([[Dat.bool (decide (Z1.z<0)),Dat.sl (L Z1.z.natAbs),Dat.sl (L Z1.d),Dat.bool (decide (Z2.z<0)),Dat.sl (L Z2.z.natAbs),Dat.sl (L Z2.d)]]:List (List Dat)))=(CA (l.take y2))))))))) ((Z4=CA l)))) (by kernel_rfl) ?_
 conv=>zeta
 delta ifB vI wR nI
 have hvl:=AB l
 have hpl:=Gg l
 refine ⟨⟨0,by
  omega,?_⟩,?_⟩
 ·refine ⟨rfl,?_,rfl,?_⟩
  ·rfl
  rfl
 intro (k:Nat) hki1
 have hki1:k<=l.length:=hki1
 refine And.symm ⟨λ c7=>?_,λ c7=>?_⟩
 ·try simp only [nrm] at c7
  rw [show k=l.length by omega,List.take_length]
 try simp only [nrm] at c7
 refine ao (by omega) λ o8=>?_
 refine ao (by omega) λ o9=>?_
 refine ⟨((l.getD k (0,0)).1,(l.getD k (0,0)).2),by
  rw [AL (by omega),AM (by omega)];rfl,by
  exact P8 hpre.1 (by omega),?_⟩
 refine ao (a:=(CA (l.take k)).length+([[Dat.bool (decide ((Fr.ofInt ((l.getD k (0,0)).1)).z<0)),Dat.sl (L (Fr.ofInt ((l.getD k (0,0)).1)).z.natAbs),Dat.sl (L (Fr.ofInt ((l.getD k (0,0)).1)).d),Dat.bool (decide ((Fr.ofInt ((l.getD k (0,0)).2)).z<0)),Dat.sl (L (Fr.ofInt ((l.getD k (0,0)).2)).z.natAbs),Dat.sl (L (Fr.ofInt ((l.getD k (0,0)).2)).d)]]:List (List Dat)).length<=1073741824) (by simp only [Gg,List.length_take,List.length_cons,List.length_nil];omega) λ o13=>?_
 refine ⟨k+1,by
  omega,by
  omega,?_⟩
 refine ⟨rfl,?_,rfl,?_⟩
 ·exact AW (AD (by omega) (by omega))
 exact RD (by omega)
def Cp:Con:={ ι:=(List V2)×Pq,pre:=λ i=>i.1.all AE=true/\0<i.1.length/\i.1.length<=16,args:=λ i=>[.one (DC.sl 27 [.int,.int] (AA i.1)),dP i.2],res:=λ i=>⟨false,[none],[rcI (Lz i.1 i.2)]⟩ }
theorem Ne:Cp.Ok Try.prog 23:=by
 refine fok (X:=⟨tt,[(43,Co),(44,Gi)],[],33,[]⟩) mixed AS (CTok.cons Nd (CTok.cons Uf (CTok.nil _))) Try.func23 (λ (i:(List V2)×Pq)=>[(4,.mk 7 (Nat) (λ x1=>{ tm:=[(3,tP 1 0),(11,tX 6),(12,tI (nI ((CA i.1).length))),(13,tI (nI x1)),(6,tI (IO i.1 i.2 x1)),(5,tX 6)],en:=[(1,.box [kB (decide (i.2.x.z<0)),.ext 2,.ext 3,kB (decide (i.2.y.z<0)),.ext 4,.ext 5]),(2,eV (L i.2.x.z.natAbs)),(3,eV (L i.2.x.d)),(4,eV (L i.2.y.z.natAbs)),(5,eV (L i.2.y.d)),(6,.own 35 z34 (CA i.1))] }) (λ x1=>x1<=i.1.length) (λ x1=>i.1.length-x1) (λ _=>[]))]) ?_
 rintro ⟨l,p⟩ hpre
 have hpre:l.all AE=true/\0<l.length/\l.length<=16:=hpre
 refine AR (q:=let Z7:=vB (decide (p.y.z<0));let Z6:=vB (decide (p.x.z<0));let Z4:=nI ((CA l).length);∃ i1:(List V2),[DA.one (DC.sl 27 [.int,.int] (AA l))]=Co.args i1/\Co.pre i1/\((∃ x1:Nat,(x1<=l.length)/\((vI (nI ((CA i1).length))=vI Z4)/\(vI (0:Int)=vI (nI x1))/\(vI (1:Int)=vI (IO l p x1))/\(rf Z6)/\(rf Z7)/\(rf (L p.x.z.natAbs))/\(rf (L p.x.d))/\(rf (L p.y.z.natAbs))/\(rf (L p.y.d))/\(CA i1=(CA l))))/\∀ x1:Nat,let Z5:=wR ((nI x1)+(1:Int));let Z3:=(CA l).getD x1 [];let Z1:=Int.tmod Z5 Z4;let Z2:=(CA l).getD (Z1.toNat) [];(x1<=l.length)->(ifB ((decide ((nI x1)<Z4))) ((0<=(nI x1)/\(nI x1)<((CA l).length:Int))/\((x1<(CA l).length)/\((Z4≠0)/\((0<=Z1/\Z1<((CA l).length:Int))/\((Z1.toNat<(CA l).length)/\(∃ i2:Pq×Pq×Pq,[DA.agg [cB (((Z3.getD 0 (.int 0))).b),cS (((Z3.getD 1 (.int 0))).r),cS (((Z3.getD 2 (.int 0))).r),cB (((Z3.getD 3 (.int 0))).b),cS (((Z3.getD 4 (.int 0))).r),cS (((Z3.getD 5 (.int 0))).r)],DA.agg [cB (((Z2.getD 0 (.int 0))).b),cS (((Z2.getD 1 (.int 0))).r),cS (((Z2.getD 2 (.int 0))).r),cB (((Z2.getD 3 (.int 0))).b),cS (((Z2.getD 4 (.int 0))).r),cS (((Z2.getD 5 (.int 0))).r)],dP p]=Gi.args i2/\Gi.pre i2/\(∃ y2:Nat,(y2<=l.length)/\(l.length-y2<l.length-x1)/\((rf (vI Z4))/\(vI Z5=vI (nI y2))/\(vI (min (IO l p x1) (Gh i2.1 i2.2.1 i2.2.2))=vI (IO l p y2))/\(rf Z6)/\(rf Z7)/\(rf (L p.x.z.natAbs))/\(rf (L p.x.d))/\(rf (L p.y.z.natAbs))/\(rf (L p.y.d))/\(rf (CA l)))))))))) ((vI (IO l p x1)=vI (Lz l p)))))) (by kernel_rfl) ?_
 conv=>zeta
 delta ifB vB vI wR nI
 have hvl:=AB l
 have hpl:=Gg l
 refine ⟨l,by
  rfl,by
  exact ⟨hpre.1,by omega⟩,?_⟩
 refine ⟨⟨0,by
  omega,?_⟩,?_⟩
 ·refine ⟨rfl,?_,?_,rfl,rfl,rfl,rfl,rfl,rfl,rfl⟩
  ·rfl
  rfl
 intro (k:Nat) hki4
 have hki4:k<=l.length:=hki4
 refine And.symm ⟨λ c16=>?_,λ c16=>?_⟩
 ·try simp only [nrm] at c16
  rw [show k=l.length by omega];rfl
 try simp only [nrm] at c16
 have hkl:k<l.length:=by omega
 have m2:(k+1)%l.length<l.length:=(Jk hkl (by omega)).2.1
 have m1:(Int.tmod (IntKind.i64.wrap (((k:Nat):Int)+(1:Int))) (((CA l).length:Nat):Int)).toNat=(k+1)%l.length:=by rw [hpl];exact (Jk hkl (by omega)).1
 have m3:Int.tmod (IntKind.i64.wrap (((k:Nat):Int)+(1:Int))) (((CA l).length:Nat):Int)=(((k+1)%l.length:Nat):Int):=by rw [hpl];exact (Jk hkl (by omega)).2.2
 refine ao (by omega) λ o17=>?_
 refine ao (by omega) λ o18=>?_
 refine ao (by omega) λ o19=>?_
 refine ao (by omega) λ o20=>?_
 refine ao (by omega) λ o21=>?_
 refine ⟨(E3 l k,E3 l ((k+1)%l.length),p),by
  rw [m1,P7 hkl,P7 m2];rfl,by
  trivial,?_⟩
 refine ⟨k+1,by
  trivial,by
  omega,?_⟩
 refine ⟨rfl,?_,?_,rfl,rfl,rfl,rfl,rfl,rfl,rfl⟩
 ·exact AW (AD (by omega) (by omega))
 rfl
def CS:Con:={ ι:=(List V2)×PtD,pre:=λ i=>i.2.has,args:=λ i=>[.one (DC.sl 27 [.int,.int] (AA i.1)),DA.agg [cB i.2.x.neg,cS i.2.x.num,cS i.2.x.den,cB i.2.y.neg,cS i.2.y.num,cS i.2.y.den]],res:=λ i=>⟨false,[none],[rcI (cpZ i.1 i.2)]⟩ }
theorem L1:CS.Ok Try.prog 7:=by
 refine fok (X:=⟨tt,[(9,Ay),(22,Bi),(23,Cp)],[],17,[]⟩) mixed AS (CTok.cons F5 (CTok.cons L0 (CTok.cons Ne (CTok.nil _)))) Try.func7 (λ _=>[]) ?_
 rintro ⟨l,p⟩ hpre
 have hpre:p.has:=hpre
 refine AR (q:=let Z2:=(vI (-1:Int)=vI (cpZ l p));let Z1:=DC.sl 27 [.int,.int] (AA l);∃ i1:(List V2),[DA.one Z1]=Ay.args i1/\Ay.pre i1/\(ifB ((!(!(AJ i1)))) (∃ i2:(List (List Dat)),[DA.one (DC.sl 35 z34 ([[Dat.bool p.x.neg,Dat.sl p.x.num,Dat.sl p.x.den,Dat.bool p.y.neg,Dat.sl p.y.num,Dat.sl p.y.den]]:List (List Dat)))]=Bi.args i2/\Bi.pre i2/\(ifB ((!(!(i2.any (λ r=>!(okP (Ce r))))))) Z2 (∃ i3:(List V2)×Pq,[DA.one Z1,DA.agg [cB p.x.neg,cS p.x.num,cS p.x.den,cB p.y.neg,cS p.y.num,cS p.y.den]]=Cp.args i3/\Cp.pre i3/\((vI (Lz i3.1 i3.2)=vI (cpZ l p)))))) Z2)) (by kernel_rfl) ?_
 conv=>zeta
 delta ifB vI
 have hvl:=AB l
 have hpl:=Gg l
 refine ⟨l,by
  rfl,by
  trivial,?_⟩
 refine And.symm ⟨λ c4=>?_,λ c4=>?_⟩
 ·try simp only [nrm] at c4
  have hE:=Ud (p:=p) c4
  rw [hE]
 try simp only [nrm] at c4
 refine ⟨([[Dat.bool p.x.neg,Dat.sl p.x.num,Dat.sl p.x.den,Dat.bool p.y.neg,Dat.sl p.y.num,Dat.sl p.y.den]]:List (List Dat)),by
  rfl,by
  try dsimp only [Bi]
  exact ⟨by show 1<=_;decide,Ub hpre⟩,?_⟩
 refine ⟨λ c8=>?_,λ c8=>?_⟩
 ·try simp only [nrm] at c8
  have c8:okP p=false:=by have h:=(WD p).symm.trans c8;simpa using h
  have hE:=Ue (l:=l) c8
  rw [hE]
 try simp only [nrm] at c8
 have c8:okP p=true:=by have h:=(WD p).symm.trans c8;simpa using h
 have hE:=QA c4 c8
 obtain ⟨e1,e2,e3,e4,e5,e6,e7,e8⟩:=Vf hpre c8
 refine ⟨(l,pqR p),by
  rw [e1,e2,e3,e4,e5,e6];rfl,by
  show l.all AE=true/\0<l.length/\l.length<=16
  have:=O0 c4
  exact ⟨this.2.2,by omega,by omega⟩,?_⟩
 rw [hE]
end Go.Proofs.Ytndnhlhnjiopfaa
