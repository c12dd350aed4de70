import Derived.Test.YtndnhlhnjiopfaaGreatSgRkE
import Derived.Test.YtndnhlhnjiopfaaGreatSgScW
namespace Go.Proofs.YtndnhlhnjiopfaaGreat
set_option maxRecDepth 100000
set_option linter.unusedVariables false
set_option linter.unusedSimpArgs false
open Go.RowKit
def Fm:Con:={ ι:=Int×Int,pre:=λ i=>True,args:=λ i=>[DA.agg [cI i.1,cI i.2]],res:=λ i=>⟨false,[none],[rcB (AP (i.1,i.2))]⟩ }
theorem SQ:Fm.Ok Tryz.prog 109:=Gg rfl ⟨_,Tryz.func109,by decide,rfl⟩ (λ _=>Nat.le_of_ble_eq_true rfl) (λ _=>rfl) (λ i=>[.im (.bool (AP (i.1,i.2)))]) (λ _=>rfl) (λ _=>rfl) (λ i hp w us h=>by
 obtain ⟨x,y⟩:=i
 have h:RdRow w [.int,.int] [.int x,.int y] us:=h
 obtain ⟨a,_,rfl,q1,h⟩:=RdRow.cons2 h
 obtain ⟨b,_,rfl,q2,h⟩:=RdRow.cons2 h
 obtain ⟨-,rfl⟩:=RdRow.nil_inv h
 obtain rfl:=Rd.int2 q1
 obtain rfl:=Rd.int2 q2
 refine (Bf x y w).mono ?_
 rintro e w' ⟨rfl,hb⟩
 exact ⟨[Value.bool (AP (x,y))],rfl,Own.leaf (Fp.mk_bool _),hb⟩)
def CO:Con:={ ι:=(List V2),pre:=λ i=>True,args:=λ i=>[.one (DC.sl 44 [.int,.int] (AD i))],res:=λ i=>⟨false,[none],[rcB (Af i)]⟩ }
theorem LH:CO.Ok Tryz.prog 37:=Gg rfl ⟨_,Tryz.func37,by decide,rfl⟩ (λ _=>Nat.le_of_ble_eq_true rfl) (λ _=>rfl) (λ l=>[.im (.bool (Af l))]) (λ _=>rfl) (λ _=>rfl) (λ i hp w us h=>by
 have h:RdRow w [.sl 44 [.int,.int]] [.sl (AD i)] us:=h
 obtain ⟨v,vs,rfl,h1,h2⟩:=RdRow.cons2 h
 obtain ⟨-,rfl⟩:=RdRow.nil_inv h2
 refine (Oi i v w (Rd.vecs h1)).mono ?_
 rintro e w' ⟨rfl,hb⟩
 exact ⟨[Value.bool (Af i)],rfl,Own.leaf (Fp.mk_bool _),hb⟩)
def Ea:Con:={ ι:=(List V2),pre:=λ i=>True,args:=λ i=>[.one (DC.sl 44 [.int,.int] (AD i))],res:=λ i=>⟨false,[none],[rcB (Af i)]⟩ }
theorem QD:Ea.Ok Tryz.prog 71:=Gg rfl ⟨_,Tryz.func71,by decide,rfl⟩ (λ _=>Nat.le_of_ble_eq_true rfl) (λ _=>rfl) (λ l=>[.im (.bool (Af l))]) (λ _=>rfl) (λ _=>rfl) (λ i hp w us h=>by
 have h:RdRow w [.sl 44 [.int,.int]] [.sl (AD i)] us:=h
 obtain ⟨v,vs,rfl,h1,h2⟩:=RdRow.cons2 h
 obtain ⟨-,rfl⟩:=RdRow.nil_inv h2
 refine (NJ i v w (Rd.vecs h1)).mono ?_
 rintro e w' ⟨rfl,hb⟩
 exact ⟨[Value.bool (Af i)],rfl,Own.leaf (Fp.mk_bool _),hb⟩)
theorem LI {l:List V2} (h:Af l=true):3<=l.length/\l.length<=16/\l.all AP=true:=by
 simp only [Af,Bool.and_eq_true,FP] at h
 exact ⟨by omega,by omega,h.1.2⟩
def frR (r:RatD):Fr:=Fr.mk' (zOf r.neg (Gx r.num)) (Gx r.den)
def okR (r:RatD):Bool:=BD r.neg r.num r.den
def okP (p:PtD):Bool:=okR p.x && okR p.y
def pqR (p:PtD):Pq:=⟨frR p.x,frR p.y⟩
def RatD.has (r:RatD):Prop:=Dat.has (.sl 3 [.int]) (.sl r.num)/\Dat.has (.sl 3 [.int]) (.sl r.den)
def PtD.has (p:PtD):Prop:=p.x.has/\p.y.has
theorem H8 {r:Fr} (h:r.d≠0):Fr.mk' r.z r.d=r:=by
 obtain ⟨q,hq,e1,e2⟩:=Fr.some_d h
 rw [e1,e2]
 unfold Fr.mk'
 rw [Rat.mkRat_self]
 exact (Fr.of_some hq).symm
theorem UM {r:RatD} (hh:r.has) (h:okR r=true):r.neg=decide ((frR r).z<0)/\r.num=L (frR r).z.natAbs/\r.den=L (frR r).d/\(frR r).d≠0:=by
 obtain ⟨s,hd,e1,e2,e3⟩:=P4 hh.1 hh.2 h
 rw [Fr.neg_z] at e1
 rw [Fr.num_z] at e2
 rw [Fr.den_d] at e3
 have:frR r=s:=by
  unfold frR
  rw [e1,e2,e3,Bt,Bt,DB,H8 hd]
 rw [this]
 exact ⟨e1,e2,e3,hd⟩
theorem Ol {p:PtD} (h:okP p=true):okR p.x=true/\okR p.y=true:=by
 unfold okP at h;rwa [Bool.and_eq_true] at h
theorem QE {p:PtD} (hh:p.has) (h:okP p=true):p.x.neg=decide ((pqR p).x.z<0)/\p.x.num=L (pqR p).x.z.natAbs/\p.x.den=L (pqR p).x.d/\p.y.neg=decide ((pqR p).y.z<0)/\p.y.num=L (pqR p).y.z.natAbs/\p.y.den=L (pqR p).y.d/\(pqR p).x.d≠0/\(pqR p).y.d≠0:=by
 obtain ⟨a1,a2,a3,a4⟩:=UM hh.1 (Ol h).1
 obtain ⟨b1,b2,b3,b4⟩:=UM hh.2 (Ol h).2
 exact ⟨a1,a2,a3,b1,b2,b3,a4,b4⟩
def Bo (r:List Dat):PtD:=⟨⟨(r.getD 0 (.int 0)).b,(r.getD 1 (.int 0)).r,(r.getD 2 (.int 0)).r⟩,⟨(r.getD 3 (.int 0)).b,(r.getD 4 (.int 0)).r,(r.getD 5 (.int 0)).r⟩⟩
def ptD (p:PtD):List Dat:=[.bool p.x.neg,.sl p.x.num,.sl p.x.den,.bool p.y.neg,.sl p.y.num,.sl p.y.den]
theorem XS (p:PtD):([ptD p].any λ r=>!(okP (Bo r)))=!(okP p):=by
 show (!(okP p) || false)=_;rw [Bool.or_false]
theorem XT (p q:PtD):([ptD p,ptD q].any λ r=>!(okP (Bo r)))=!(okP p && okP q):=by
 show (!(okP p) || (!(okP q) || false))=_;rw [Bool.or_false,Bool.not_and]
theorem J5 {m:List (List Dat)} (h:Dat.has (.sl 3 [.int]) (.sl m)):m.length<=9223372036854775807:=VG h
def ptV (v:V2):Pq:=⟨Fr.ofInt v.1,Fr.ofInt v.2⟩
def UN (p:Pq):List Dat:=[.bool (decide (p.x.z<0)),.sl (L p.x.z.natAbs),.sl (L p.x.d),.bool (decide (p.y.z<0)),.sl (L p.y.z.natAbs),.sl (L p.y.d)]
def Bg (l:List V2):List (List Dat):=l.map λ v=>UN (ptV v)
def Fo (l:List V2) (k:Nat):Pq:=ptV (l.getD k (0,0))
theorem FI (l:List V2):(Bg l).length=l.length:=by simp [Bg]
theorem J6 {l:List V2} {k:Nat} (h:k<l.length):(Bg l).getD k []=UN (Fo l k):=by
 simp [Bg,List.getD,h,Fo]
theorem SR {l:List V2} {k:Nat} (h:k<l.length):Bg (l.take k)++[UN (Fo l k)]=Bg (l.take (k+1)):=by
 rw [G3 l (0,0) k h];simp [Bg,Fo]
def Bh (p q r:Pq):Int:=(Fr.sub (Fr.mul (Fr.sub q.x p.x) (Fr.sub r.y p.y)) (Fr.mul (Fr.sub q.y p.y) (Fr.sub r.x p.x))).sgn
def Jm (l:List V2) (p:Pq):Nat->Int
 | 0=>1
 | k+1=>min (Jm l p k) (Bh (Fo l k) (Fo l ((k+1)%l.length)) p)
def Gy (l:List V2) (p:Pq):Int:=Jm l p l.length
def cpZ (l:List V2) (p:PtD):Int:=if Af l=true/\okP p=true then Gy l (pqR p) else -1
theorem VX {l:List V2} (h:l.all AP=true) {k:Nat} (hk:k<l.length):(-9223372036854775808<=(l.getD k (0,0)).1/\(l.getD k (0,0)).1<=9223372036854775807)/\-9223372036854775808<=(l.getD k (0,0)).2/\(l.getD k (0,0)).2<=9223372036854775807:=by
 have:=B0 h hk
 have:=Dc this
 omega
theorem FJ {k n:Nat} (hk:k<n) (hn:n<=1048576):(Int.tmod (IntKind.i64.wrap (((k:Nat):Int)+(1:Int))) ((n:Nat):Int)).toNat=(k+1)%n/\(k+1)%n<n/\Int.tmod (IntKind.i64.wrap (((k:Nat):Int)+(1:Int))) ((n:Nat):Int)=(((k+1)%n:Nat):Int):=by
 have e:Int.tmod (IntKind.i64.wrap (((k:Nat):Int)+(1:Int))) ((n:Nat):Int)=(((k+1)%n:Nat):Int):=by
  rw [AB (by omega) (by omega),show ((k:Nat):Int)+1=((k+1:Nat):Int) by omega,T4]
 refine ⟨by rw [e];omega,Nat.mod_lt _ (by omega),e⟩
theorem VY {p:PtD} (h:p.has):∀ k,k < [ptD p].length->(Bo ([ptD p].getD k [])).has:=λ k hk=>by
 obtain rfl:k=0:=by simp only [List.length_cons,List.length_nil] at hk;omega
 exact h
theorem VZ {p q:PtD} (h:p.has) (h2:q.has):∀ k,k < [ptD p,ptD q].length->(Bo ([ptD p,ptD q].getD k [])).has:=λ k hk=>by
 have:k=0∨k=1:=by simp only [List.length_cons,List.length_nil] at hk;omega
 rcases this with rfl|rfl
 ·exact h
 ·exact h2
def ptQ (p:Pq):PtD:=⟨⟨decide (p.x.z<0),L p.x.z.natAbs,L p.x.d⟩,⟨decide (p.y.z<0),L p.y.z.natAbs,L p.y.d⟩⟩
theorem AT (p:Pq):(ptQ p).has:=by
 have h1:=p.x.nlz
 have h2:=p.x.nld
 have h3:=p.y.nlz
 have h4:=p.y.nld
 exact ⟨⟨JZ _ (by omega),JZ _ (by omega)⟩,JZ _ (by omega),JZ _ (by omega)⟩
theorem NK (p:Pq):okP (ptQ p)=p.good:=by
 show (BD (decide (p.x.z<0)) (L p.x.z.natAbs) (L p.x.d) && BD (decide (p.y.z<0)) (L p.y.z.natAbs) (L p.y.d))=_
 rw [Gp,Gp];rfl
theorem RE (p:PtD):okP p=(BD p.x.neg p.x.num p.x.den && BD p.y.neg p.y.num p.y.den):=rfl
theorem Va {l:List V2} {p:PtD} (h:Af l=false):cpZ l p=-1:=by unfold cpZ;rw [if_neg (by rw [h];simp)]
theorem Vb {l:List V2} {p:PtD} (h:okP p=false):cpZ l p=-1:=by unfold cpZ;rw [if_neg (by rw [h];simp)]
theorem RF {l:List V2} {p:PtD} (h:Af l=true) (h2:okP p=true):cpZ l p=Gy l (pqR p):=by unfold cpZ;rw [if_pos ⟨h,h2⟩]
def Dx:Con:={ ι:=Int×Int,pre:=λ i=>(-9223372036854775808<=i.1/\i.1<=9223372036854775807)/\-9223372036854775808<=i.2/\i.2<=9223372036854775807,args:=λ i=>[DA.agg [cI i.1,cI i.2]],res:=λ i=>⟨false,[some 6],[rcB (decide ((Fr.ofInt i.1).z<0)),.own 3 [.int] (L (Fr.ofInt i.1).z.natAbs),.own 3 [.int] (L (Fr.ofInt i.1).d),rcB (decide ((Fr.ofInt i.2).z<0)),.own 3 [.int] (L (Fr.ofInt i.2).z.natAbs),.own 3 [.int] (L (Fr.ofInt i.2).d)]⟩ }
theorem Om:Dx.Ok Tryz.prog 17:=by
 refine fok (X:=⟨tt,[(49,DP)],[],10,[]⟩) AH AI (CTok.cons SG (CTok.nil _)) Tryz.func17 (λ _=>[]) ?_
 rintro ⟨x,y⟩ hpre
 have hpre:(-9223372036854775808<=x/\x<=9223372036854775807)/\-9223372036854775808<=y/\y<=9223372036854775807:=hpre
 refine AG (q:=∃ i1:Int,[DA.one (cI x)]=DP.args i1/\DP.pre i1/\(∃ i2:Int,[DA.one (cI y)]=DP.args i2/\DP.pre i2/\((eqD (Fr.ofInt i1) (Fr.ofInt x) ((eqC (Fr.ofInt i2) (Fr.ofInt y))))))) (by kernel_rfl) ?_
 refine ⟨x,by
  rfl,by
  show -9223372036854775808<=x/\x<=9223372036854775807
  first|omega|assumption|exact hpre.1|exact hpre.2|(simp;done),?_⟩
 refine ⟨y,by
  rfl,by
  show -9223372036854775808<=y/\y<=9223372036854775807
  first|omega|assumption|exact hpre.1|exact hpre.2|(simp;done),?_⟩
 exact Fa rfl (Bl rfl)
def Dy:Con:={ ι:=Int×Int,pre:=λ i=>(-9223372036854775808<=i.1/\i.1<=9223372036854775807)/\-9223372036854775808<=i.2/\i.2<=9223372036854775807,args:=λ i=>[DA.agg [cI i.1,cI i.2]],res:=λ i=>⟨false,[some 6],[rcB (decide ((Fr.ofInt i.1).z<0)),.own 3 [.int] (L (Fr.ofInt i.1).z.natAbs),.own 3 [.int] (L (Fr.ofInt i.1).d),rcB (decide ((Fr.ofInt i.2).z<0)),.own 3 [.int] (L (Fr.ofInt i.2).z.natAbs),.own 3 [.int] (L (Fr.ofInt i.2).d)]⟩ }
theorem On:Dy.Ok Tryz.prog 64:=by
 refine fok (X:=⟨tt,[(104,BY)],[],10,[]⟩) AH AI (CTok.cons LF (CTok.nil _)) Tryz.func64 (λ _=>[]) ?_
 rintro ⟨x,y⟩ hpre
 have hpre:(-9223372036854775808<=x/\x<=9223372036854775807)/\-9223372036854775808<=y/\y<=9223372036854775807:=hpre
 refine AG (q:=∃ i1:Int,[DA.one (cI x)]=BY.args i1/\BY.pre i1/\(∃ i2:Int,[DA.one (cI y)]=BY.args i2/\BY.pre i2/\((eqD (Fr.ofInt i1) (Fr.ofInt x) ((eqC (Fr.ofInt i2) (Fr.ofInt y))))))) (by kernel_rfl) ?_
 refine ⟨x,by
  rfl,by
  show -9223372036854775808<=x/\x<=9223372036854775807
  first|omega|assumption|exact hpre.1|exact hpre.2|(simp;done),?_⟩
 refine ⟨y,by
  rfl,by
  show -9223372036854775808<=y/\y<=9223372036854775807
  first|omega|assumption|exact hpre.1|exact hpre.2|(simp;done),?_⟩
 exact Fa rfl (Bl rfl)
def Gq:Con:={ ι:=PtD,pre:=λ i=>i.has,args:=λ i=>[DA.agg [cB i.x.neg,cS i.x.num,cS i.x.den,cB i.y.neg,cS i.y.num,cS i.y.den]],res:=λ i=>⟨false,[none],[rcB (okP i)]⟩ }
theorem UO:Gq.Ok Tryz.prog 74:=by
 refine fok (X:=⟨tt,[(15,D4)],[],11,[]⟩) AH AI (CTok.cons UH (CTok.nil _)) Tryz.func74 (λ _=>[]) ?_
 intro (p:PtD) hpre
 have hpre:p.has:=hpre
 refine AG (q:=let Z1:=List (List Dat);∃ i1:Bool×Z1×Z1,[DA.agg [cB p.x.neg,cS p.x.num,cS p.x.den]]=D4.args i1/\D4.pre i1/\(ifB ((BD i1.1 i1.2.1 i1.2.2)) (∃ i2:Bool×Z1×Z1,[DA.agg [cB p.y.neg,cS p.y.num,cS p.y.den]]=D4.args i2/\D4.pre i2/\((vB (BD i2.1 i2.2.1 i2.2.2)=vB (okP p)))) ((vB false=vB (okP p))))) (by kernel_rfl) ?_
 conv=>zeta
 delta ifB vB
 refine ⟨(p.x.neg,p.x.num,p.x.den),by
  rfl,by
  exact ⟨hpre.1.1,hpre.1.2,J5 hpre.1.1,J5 hpre.1.2⟩,?_⟩
 refine And.symm ⟨λ c4=>?_,λ c4=>?_⟩
 ·try simp only [nrm] at c4
  exact congrArg Value.bool (by rw [RE,c4];first|rfl|(rw [Bool.true_and]))
 try simp only [nrm] at c4
 refine ⟨(p.y.neg,p.y.num,p.y.den),by
  rfl,by
  exact ⟨hpre.2.1,hpre.2.2,J5 hpre.2.1,J5 hpre.2.2⟩,?_⟩
 exact congrArg Value.bool (by rw [RE,c4];first|rfl|(rw [Bool.true_and]))
def Fq:Con:={ ι:=PtD,pre:=λ i=>i.has,args:=λ i=>[DA.agg [cB i.x.neg,cS i.x.num,cS i.x.den,cB i.y.neg,cS i.y.num,cS i.y.den]],res:=λ i=>⟨false,[none],[rcB (!(okP i))]⟩ }
theorem ST:Fq.Ok Tryz.prog 73:=by
 refine fok (X:=⟨tt,[(74,Gq)],[],6,[]⟩) AH AI (CTok.cons UO (CTok.nil _)) Tryz.func73 (λ _=>[]) ?_
 intro (p:PtD) hpre
 have hpre:p.has:=hpre
 refine AG (q:=∃ i1:PtD,[DA.agg [cB p.x.neg,cS p.x.num,cS p.x.den,cB p.y.neg,cS p.y.num,cS p.y.den]]=Gq.args i1/\Gq.pre i1/\((vB (!(okP i1))=vB (!(okP p))))) (by kernel_rfl) ?_
 delta vB
 refine ⟨p,by
  rfl,by
  exact hpre,?_⟩
 exact rfl
def Gr:Con:={ ι:=(List (List Dat)),pre:=λ i=>i.length<=9223372036854775807/\∀ k,k<i.length->(Bo (i.getD k [])).has,args:=λ i=>[.one (DC.sl 29 z28 i),.one (.ro (.fn 73 []))],tag:=74,res:=λ i=>⟨false,[none],[rcI (Jl (λ r=>!(okP (Bo r))) i)]⟩ }
theorem UP:Gr.Ok Tryz.prog 114:=by
 refine fok (X:=⟨tt,[(73,Fq)],[],19,[]⟩) AH AI (CTok.cons ST (CTok.nil _)) Tryz.func114 (λ (i:(List (List Dat)))=>[(2,.mk 3 (Nat) (λ x1=>{ tm:=[(0,tX 1),(1,tX 2),(7,tI (nI i.length)),(8,tI (nI x1))],en:=[(1,.view 29 z28 i []),(2,.ro (.fn 73 []) [])] }) (λ x1=>x1<=i.length/\∀ j,j<x1->(λ r=>!(okP (Bo r))) (i.getD j [])=false) (λ x1=>i.length-x1) (λ _=>[]))]) ?_
 intro (l:List (List Dat)) hpre
 have hpre:l.length<=9223372036854775807/\∀ k,k<l.length->(Bo (l.getD k [])).has:=hpre
 refine AG (q:=let Z3:=(.fn 73 []:RO)=.fn 73 [];let Z2:=Jl (λ r=>!(okP (Bo r))) l;(∃ x1:Nat,(x1<=l.length/\∀ j,j<x1->(λ r=>!(okP (Bo r))) (l.getD j [])=false)/\((rf (vI (nI l.length)))/\(vI (0:Int)=vI (nI x1))/\(rf (l))/\Z3))/\∀ x1:Nat,let Z1:=l.getD x1 [];(x1<=l.length/\∀ j,j<x1->(λ r=>!(okP (Bo r))) (l.getD j [])=false)->(ifB ((decide ((nI x1)<(nI l.length)))) ((0<=(nI x1)/\(nI x1)<(l.length:Int))/\((x1<l.length)/\(∃ i1:PtD,[DA.agg [cB (((Z1.getD 0 (.int 0))).b),cS (((Z1.getD 1 (.int 0))).r),cS (((Z1.getD 2 (.int 0))).r),cB (((Z1.getD 3 (.int 0))).b),cS (((Z1.getD 4 (.int 0))).r),cS (((Z1.getD 5 (.int 0))).r)]]=Fq.args i1/\Fq.pre i1/\(ifB ((!(okP i1))) ((vI (nI x1)=vI Z2)) (∃ y2:Nat,(y2<=l.length/\∀ j,j<y2->(λ r=>!(okP (Bo r))) (l.getD j [])=false)/\(l.length-y2<l.length-x1)/\((rf (vI (nI l.length)))/\(vI (wR ((nI x1)+(1:Int)))=vI (nI y2))/\(rf (l))/\Z3)))))) ((vI (-1:Int)=vI Z2)))) (by kernel_rfl) ?_
 conv=>zeta
 delta ifB vI wR nI
 refine ⟨⟨0,by
  exact ⟨Nat.zero_le _,λ j hj=>absurd hj (Nat.not_lt_zero j)⟩,?_⟩,?_⟩
 ·refine ⟨rfl,?_,rfl,?_⟩
  ·rfl
  rfl
 intro (k:Nat) hki1
 have hki1:k<=l.length/\∀ j,j<k->(λ r=>!(okP (Bo r))) (l.getD j [])=false:=hki1
 refine And.symm ⟨λ c7=>?_,λ c7=>?_⟩
 ·try simp only [nrm] at c7
  rw [MK (λ j hj=>hki1.2 j (by omega))]
 try simp only [nrm] at c7
 refine ao (by omega) λ o8=>?_
 refine ao (by omega) λ o9=>?_
 refine ⟨(Bo (l.getD k [])),by
  rfl,by
  exact hpre.2 k (by omega),?_⟩
 refine ⟨λ c13=>?_,λ c13=>?_⟩
 ·try simp only [nrm] at c13
  rw [Q0 (k:=k) (by omega) hki1.2 (by show (!(okP (Bo (l.getD k []))))=true;rw [c13];rfl)]
 try simp only [nrm] at c13
 refine ⟨k+1,by
  exact ⟨by omega,Jz hki1.2 (by show (!(okP (Bo (l.getD k []))))=false;rw [c13];rfl)⟩,by
  omega,?_⟩
 refine ⟨rfl,?_,rfl,?_⟩
 ·exact Al (AB (by omega) (by omega))
 rfl
def Fs:Con:={ ι:=(List (List Dat)),pre:=λ i=>i.length<=9223372036854775807/\∀ k,k<i.length->(Bo (i.getD k [])).has,args:=λ i=>[.one (DC.sl 29 z28 i),.one (.ro (.fn 73 []))],tag:=74,res:=λ i=>⟨false,[none],[rcB (i.any (λ r=>!(okP (Bo r))))]⟩ }
theorem SU:Fs.Ok Tryz.prog 72:=by
 refine fok (X:=⟨tt,[(114,Gr)],[],9,[]⟩) AH AI (CTok.cons UP (CTok.nil _)) Tryz.func72 (λ _=>[]) ?_
 intro (l:List (List Dat)) hpre
 have hpre:l.length<=9223372036854775807/\∀ k,k<l.length->(Bo (l.getD k [])).has:=hpre
 refine AG (q:=∃ i1:(List (List Dat)),[DA.one (DC.sl 29 z28 l),DA.one (DC.ro (.fn 73 []))]=Gr.args i1/\Gr.pre i1/\((vB (decide ((Jl (λ r=>!(okP (Bo r))) i1)≥(0:Int)))=vB (l.any (λ r=>!(okP (Bo r))))))) (by kernel_rfl) ?_
 delta vB
 refine ⟨l,by
  rfl,by
  exact hpre,?_⟩
 exact congrArg Value.bool (OT _ _)
def AY:Con:={ ι:=(List (List Dat)),pre:=λ i=>i.length<=9223372036854775807/\∀ k,k<i.length->(Bo (i.getD k [])).has,args:=λ i=>[.one (DC.sl 29 z28 i)],res:=λ i=>⟨false,[none],[rcB (!(i.any (λ r=>!(okP (Bo r)))))]⟩ }
theorem Dz:AY.Ok Tryz.prog 34:=by
 refine fok (X:=⟨tt,[(72,Fs)],[],6,[]⟩) AH AI (CTok.cons SU (CTok.nil _)) Tryz.func34 (λ _=>[]) ?_
 intro (l:List (List Dat)) hpre
 have hpre:l.length<=9223372036854775807/\∀ k,k<l.length->(Bo (l.getD k [])).has:=hpre
 refine AG (q:=∃ i1:(List (List Dat)),[DA.one (DC.sl 29 z28 l),DA.one (DC.ro (.fn 73 []))]=Fs.args i1/\Fs.pre i1/\((vB (!(i1.any (λ r=>!(okP (Bo r)))))=vB (!(l.any (λ r=>!(okP (Bo r)))))))) (by kernel_rfl) ?_
 delta vB
 refine ⟨l,by
  rfl,by
  exact hpre,?_⟩
 exact rfl
def Bx:Con:={ ι:=Pq×Pq×Pq,pre:=λ i=>True,args:=λ i=>[dP i.1,dP i.2.1,dP i.2.2],res:=λ i=>⟨false,[none],[rcI (Bh i.1 i.2.1 i.2.2)]⟩ }
theorem RG:Bx.Ok Tryz.prog 78:=by
 refine fok (X:=⟨tt,[(96,BE),(95,CA),(52,EY)],[],35,[]⟩) AH AI (CTok.cons SI (CTok.cons MU (CTok.cons P6 (CTok.nil _)))) Tryz.func78 (λ _=>[]) ?_
 rintro ⟨p,q,r⟩ hpre
 have hpre:True:=hpre
 refine AG (q:=∃ i1:Fr×Fr,[dF q.x,dF p.x]=BE.args i1/\BE.pre i1/\(∃ i2:Fr×Fr,[dF r.y,dF p.y]=BE.args i2/\BE.pre i2/\(∃ i3:Fr×Fr,[dF (Fr.sub i1.1 i1.2),dF (Fr.sub i2.1 i2.2)]=CA.args i3/\CA.pre i3/\(∃ i4:Fr×Fr,[dF q.y,dF p.y]=BE.args i4/\BE.pre i4/\(∃ i5:Fr×Fr,[dF r.x,dF p.x]=BE.args i5/\BE.pre i5/\(∃ i6:Fr×Fr,[dF (Fr.sub i4.1 i4.2),dF (Fr.sub i5.1 i5.2)]=CA.args i6/\CA.pre i6/\(∃ i7:Fr×Fr,[dF (Fr.mul i3.1 i3.2),dF (Fr.mul i6.1 i6.2)]=BE.args i7/\BE.pre i7/\(∃ i8:Fr,[dF (Fr.sub i7.1 i7.2)]=EY.args i8/\EY.pre i8/\((vI i8.sgn=vI (Bh p q r))))))))))) (by kernel_rfl) ?_
 delta vI
 refine ⟨(q.x,p.x),by
  rfl,by
  trivial,?_⟩
 refine ⟨(r.y,p.y),by
  rfl,by
  trivial,?_⟩
 refine ⟨((Fr.sub q.x p.x),(Fr.sub r.y p.y)),by
  rfl,by
  trivial,?_⟩
 refine ⟨(q.y,p.y),by
  rfl,by
  trivial,?_⟩
 refine ⟨(r.x,p.x),by
  rfl,by
  trivial,?_⟩
 refine ⟨((Fr.sub q.y p.y),(Fr.sub r.x p.x)),by
  rfl,by
  trivial,?_⟩
 refine ⟨((Fr.mul (Fr.sub q.x p.x) (Fr.sub r.y p.y)),(Fr.mul (Fr.sub q.y p.y) (Fr.sub r.x p.x))),by
  rfl,by
  trivial,?_⟩
 refine ⟨(Fr.sub (Fr.mul (Fr.sub q.x p.x) (Fr.sub r.y p.y)) (Fr.mul (Fr.sub q.y p.y) (Fr.sub r.x p.x))),by
  rfl,by
  trivial,?_⟩
 rfl
def CB:Con:={ ι:=(List V2),pre:=λ i=>i.all AP=true/\i.length<=1048576,args:=λ i=>[.one (DC.sl 44 [.int,.int] (AD i))],res:=λ i=>⟨false,[none],[.own 29 [.bool,.sl 3 [.int],.sl 3 [.int],.bool,.sl 3 [.int],.sl 3 [.int]] (Bg i)]⟩ }
theorem Jc:CB.Ok Tryz.prog 82:=by
 refine fok (X:=⟨tt,[(17,Dx)],[],20,[]⟩) AH AI (CTok.cons Om (CTok.nil _)) Tryz.func82 (λ (i:(List V2))=>[(3,.mk 3 (Nat) (λ x1=>{ tm:=[(7,tX 1),(8,tI (nI ((AD i).length))),(9,tI (nI x1)),(3,tX 2)],en:=[(1,.view 44 [.int,.int] (AD i) []),(2,.own 29 z28 (Bg (i.take x1)))] }) (λ x1=>x1<=i.length) (λ x1=>i.length-x1) (λ _=>[]))]) ?_
 intro (l:List V2) hpre
 have hpre:l.all AP=true/\l.length<=1048576:=hpre
 refine AG (q:=let Z3:=nI ((AD l).length);(∃ x1:Nat,(x1<=l.length)/\((rf (vI Z3))/\(vI (0:Int)=vI (nI x1))/\(rf (AD l))/\(([]:List (List Dat))=(Bg (l.take x1)))))/\∀ x1:Nat,let Z4:=Bg (l.take x1);(x1<=l.length)->(ifB ((decide ((nI x1)<Z3))) ((0<=(nI x1)/\(nI x1)<((AD l).length:Int))/\((x1<(AD l).length)/\(∃ i1:Int×Int,let Z2:=Fr.ofInt i1.2;let Z1:=Fr.ofInt i1.1;[DA.agg [cI (((((AD l).getD x1 []).getD 0 (.int 0))).n),cI (((((AD l).getD x1 []).getD 1 (.int 0))).n)]]=Dx.args i1/\Dx.pre i1/\((Z4.length+([[Dat.bool (decide (Z1.z<0)),Dat.sl (L Z1.z.natAbs),Dat.sl (L Z1.d),Dat.bool (decide (Z2.z<0)),Dat.sl (L Z2.z.natAbs),Dat.sl (L Z2.d)]]:List (List Dat)).length<=1073741824)/\(∃ y2:Nat,(y2<=l.length)/\(l.length-y2<l.length-x1)/\((rf (vI Z3))/\(vI (wR ((nI x1)+(1:Int)))=vI (nI y2))/\(rf (AD l))/\((Z4++([[Dat.bool (decide (Z1.z<0)),Dat.sl (L Z1.z.natAbs),Dat.sl (L Z1.d),Dat.bool (decide (Z2.z<0)),Dat.sl (L Z2.z.natAbs),Dat.sl (L Z2.d)]]:List (List Dat)))=(Bg (l.take y2))))))))) ((Z4=Bg l)))) (by kernel_rfl) ?_
 conv=>zeta
 delta ifB vI wR nI
 have hvl:=AL l
 have hpl:=FI l
 refine ⟨⟨0,by
  omega,?_⟩,?_⟩
 ·refine ⟨rfl,?_,rfl,?_⟩
  ·rfl
  rfl
 intro (k:Nat) hki1
 have hki1:k<=l.length:=hki1
 refine And.symm ⟨λ c7=>?_,λ c7=>?_⟩
 ·try simp only [nrm] at c7
  rw [show k=l.length by omega,List.take_length]
 try simp only [nrm] at c7
 refine ao (by omega) λ o8=>?_
 refine ao (by omega) λ o9=>?_
 refine ⟨((l.getD k (0,0)).1,(l.getD k (0,0)).2),by
  rw [Cb (by omega),Cc (by omega)];rfl,by
  exact VX hpre.1 (by omega),?_⟩
 refine ao (a:=(Bg (l.take k)).length+([[Dat.bool (decide ((Fr.ofInt ((l.getD k (0,0)).1)).z<0)),Dat.sl (L (Fr.ofInt ((l.getD k (0,0)).1)).z.natAbs),Dat.sl (L (Fr.ofInt ((l.getD k (0,0)).1)).d),Dat.bool (decide ((Fr.ofInt ((l.getD k (0,0)).2)).z<0)),Dat.sl (L (Fr.ofInt ((l.getD k (0,0)).2)).z.natAbs),Dat.sl (L (Fr.ofInt ((l.getD k (0,0)).2)).d)]]:List (List Dat)).length<=1073741824) (by simp only [FI,List.length_take,List.length_cons,List.length_nil];omega) λ o13=>?_
 refine ⟨k+1,by
  omega,by
  omega,?_⟩
 refine ⟨rfl,?_,rfl,?_⟩
 ·exact Al (AB (by omega) (by omega))
 exact SR (by omega)
def BK:Con:={ ι:=(List V2)×Pq,pre:=λ i=>i.1.all AP=true/\0<i.1.length/\i.1.length<=16,args:=λ i=>[.one (DC.sl 44 [.int,.int] (AD i.1)),dP i.2],res:=λ i=>⟨false,[none],[rcI (Gy i.1 i.2)]⟩ }
theorem Jd:BK.Ok Tryz.prog 39:=by
 refine fok (X:=⟨tt,[(82,CB),(78,Bx)],[],33,[]⟩) AH AI (CTok.cons Jc (CTok.cons RG (CTok.nil _))) Tryz.func39 (λ (i:(List V2)×Pq)=>[(4,.mk 7 (Nat) (λ x1=>{ tm:=[(3,tP 1 0),(11,tX 6),(12,tI (nI ((Bg i.1).length))),(13,tI (nI x1)),(6,tI (Jm i.1 i.2 x1)),(5,tX 6)],en:=[(1,.box [kB (decide (i.2.x.z<0)),.ext 2,.ext 3,kB (decide (i.2.y.z<0)),.ext 4,.ext 5]),(2,eV (L i.2.x.z.natAbs)),(3,eV (L i.2.x.d)),(4,eV (L i.2.y.z.natAbs)),(5,eV (L i.2.y.d)),(6,.own 29 z28 (Bg i.1))] }) (λ x1=>x1<=i.1.length) (λ x1=>i.1.length-x1) (λ _=>[]))]) ?_
 rintro ⟨l,p⟩ hpre
 have hpre:l.all AP=true/\0<l.length/\l.length<=16:=hpre
 refine AG (q:=let Z7:=vB (decide (p.y.z<0));let Z6:=vB (decide (p.x.z<0));let Z4:=nI ((Bg l).length);∃ i1:(List V2),[DA.one (DC.sl 44 [.int,.int] (AD l))]=CB.args i1/\CB.pre i1/\((∃ x1:Nat,(x1<=l.length)/\((vI (nI ((Bg i1).length))=vI Z4)/\(vI (0:Int)=vI (nI x1))/\(vI (1:Int)=vI (Jm l p x1))/\(rf Z6)/\(rf Z7)/\(rf (L p.x.z.natAbs))/\(rf (L p.x.d))/\(rf (L p.y.z.natAbs))/\(rf (L p.y.d))/\(Bg i1=(Bg l))))/\∀ x1:Nat,let Z5:=wR ((nI x1)+(1:Int));let Z3:=(Bg l).getD x1 [];let Z1:=Int.tmod Z5 Z4;let Z2:=(Bg l).getD (Z1.toNat) [];(x1<=l.length)->(ifB ((decide ((nI x1)<Z4))) ((0<=(nI x1)/\(nI x1)<((Bg l).length:Int))/\((x1<(Bg l).length)/\((Z4≠0)/\((0<=Z1/\Z1<((Bg l).length:Int))/\((Z1.toNat<(Bg l).length)/\(∃ i2:Pq×Pq×Pq,[DA.agg [cB (((Z3.getD 0 (.int 0))).b),cS (((Z3.getD 1 (.int 0))).r),cS (((Z3.getD 2 (.int 0))).r),cB (((Z3.getD 3 (.int 0))).b),cS (((Z3.getD 4 (.int 0))).r),cS (((Z3.getD 5 (.int 0))).r)],DA.agg [cB (((Z2.getD 0 (.int 0))).b),cS (((Z2.getD 1 (.int 0))).r),cS (((Z2.getD 2 (.int 0))).r),cB (((Z2.getD 3 (.int 0))).b),cS (((Z2.getD 4 (.int 0))).r),cS (((Z2.getD 5 (.int 0))).r)],dP p]=Bx.args i2/\Bx.pre i2/\(∃ y2:Nat,(y2<=l.length)/\(l.length-y2<l.length-x1)/\((rf (vI Z4))/\(vI Z5=vI (nI y2))/\(vI (min (Jm l p x1) (Bh i2.1 i2.2.1 i2.2.2))=vI (Jm l p y2))/\(rf Z6)/\(rf Z7)/\(rf (L p.x.z.natAbs))/\(rf (L p.x.d))/\(rf (L p.y.z.natAbs))/\(rf (L p.y.d))/\(rf (Bg l)))))))))) ((vI (Jm l p x1)=vI (Gy l p)))))) (by kernel_rfl) ?_
 conv=>zeta
 delta ifB vB vI wR nI
 have hvl:=AL l
 have hpl:=FI l
 refine ⟨l,by
  rfl,by
  exact ⟨hpre.1,by omega⟩,?_⟩
 refine ⟨⟨0,by
  omega,?_⟩,?_⟩
 ·refine ⟨rfl,?_,?_,rfl,rfl,rfl,rfl,rfl,rfl,rfl⟩
  ·rfl
  rfl
 intro (k:Nat) hki4
 have hki4:k<=l.length:=hki4
 refine And.symm ⟨λ c16=>?_,λ c16=>?_⟩
 ·try simp only [nrm] at c16
  rw [show k=l.length by omega];rfl
 try simp only [nrm] at c16
 have hkl:k<l.length:=by omega
 have m2:(k+1)%l.length<l.length:=(FJ hkl (by omega)).2.1
 have m1:(Int.tmod (IntKind.i64.wrap (((k:Nat):Int)+(1:Int))) (((Bg l).length:Nat):Int)).toNat=(k+1)%l.length:=by rw [hpl];exact (FJ hkl (by omega)).1
 have m3:Int.tmod (IntKind.i64.wrap (((k:Nat):Int)+(1:Int))) (((Bg l).length:Nat):Int)=(((k+1)%l.length:Nat):Int):=by rw [hpl];exact (FJ hkl (by omega)).2.2
 refine ao (by omega) λ o17=>?_
 refine ao (by omega) λ o18=>?_
 refine ao (by omega) λ o19=>?_
 refine ao (by omega) λ o20=>?_
 refine ao (by omega) λ o21=>?_
 refine ⟨(Fo l k,Fo l ((k+1)%l.length),p),by
  rw [m1,J6 hkl,J6 m2];rfl,by
  trivial,?_⟩
 refine ⟨k+1,by
  trivial,by
  omega,?_⟩
 refine ⟨rfl,?_,?_,rfl,rfl,rfl,rfl,rfl,rfl,rfl⟩
 ·exact Al (AB (by omega) (by omega))
 rfl
def CG:Con:={ ι:=(List V2)×PtD,pre:=λ i=>i.2.has,args:=λ i=>[.one (DC.sl 44 [.int,.int] (AD i.1)),DA.agg [cB i.2.x.neg,cS i.2.x.num,cS i.2.x.den,cB i.2.y.neg,cS i.2.y.num,cS i.2.y.den]],res:=λ i=>⟨false,[none],[rcI (cpZ i.1 i.2)]⟩ }
theorem NL:CG.Ok Tryz.prog 12:=by
 refine fok (X:=⟨tt,[(37,CO),(34,AY),(39,BK)],[],17,[]⟩) AH AI (CTok.cons LH (CTok.cons Dz (CTok.cons Jd (CTok.nil _)))) Tryz.func12 (λ _=>[]) ?_
 rintro ⟨l,p⟩ hpre
 have hpre:p.has:=hpre
 refine AG (q:=let Z2:=(vI (-1:Int)=vI (cpZ l p));let Z1:=DC.sl 44 [.int,.int] (AD l);∃ i1:(List V2),[DA.one Z1]=CO.args i1/\CO.pre i1/\(ifB ((!(!(Af i1)))) (∃ i2:(List (List Dat)),[DA.one (DC.sl 29 z28 ([[Dat.bool p.x.neg,Dat.sl p.x.num,Dat.sl p.x.den,Dat.bool p.y.neg,Dat.sl p.y.num,Dat.sl p.y.den]]:List (List Dat)))]=AY.args i2/\AY.pre i2/\(ifB ((!(!(i2.any (λ r=>!(okP (Bo r))))))) Z2 (∃ i3:(List V2)×Pq,[DA.one Z1,DA.agg [cB p.x.neg,cS p.x.num,cS p.x.den,cB p.y.neg,cS p.y.num,cS p.y.den]]=BK.args i3/\BK.pre i3/\((vI (Gy i3.1 i3.2)=vI (cpZ l p)))))) Z2)) (by kernel_rfl) ?_
 conv=>zeta
 delta ifB vI
 have hvl:=AL l
 have hpl:=FI l
 refine ⟨l,by
  rfl,by
  trivial,?_⟩
 refine And.symm ⟨λ c4=>?_,λ c4=>?_⟩
 ·try simp only [nrm] at c4
  have hE:=Va (p:=p) c4
  rw [hE]
 try simp only [nrm] at c4
 refine ⟨([[Dat.bool p.x.neg,Dat.sl p.x.num,Dat.sl p.x.den,Dat.bool p.y.neg,Dat.sl p.y.num,Dat.sl p.y.den]]:List (List Dat)),by
  rfl,by
  try dsimp only [AY]
  exact ⟨by show 1<=_;decide,VY hpre⟩,?_⟩
 refine ⟨λ c8=>?_,λ c8=>?_⟩
 ·try simp only [nrm] at c8
  have c8:okP p=false:=by have h:=(XS p).symm.trans c8;simpa using h
  have hE:=Vb (l:=l) c8
  rw [hE]
 try simp only [nrm] at c8
 have c8:okP p=true:=by have h:=(XS p).symm.trans c8;simpa using h
 have hE:=RF c4 c8
 obtain ⟨e1,e2,e3,e4,e5,e6,e7,e8⟩:=QE hpre c8
 refine ⟨(l,pqR p),by
  rw [e1,e2,e3,e4,e5,e6];rfl,by
  show l.all AP=true/\0<l.length/\l.length<=16
  have:=LI c4
  exact ⟨this.2.2,by omega,by omega⟩,?_⟩
 rw [hE]
end Go.Proofs.YtndnhlhnjiopfaaGreat
