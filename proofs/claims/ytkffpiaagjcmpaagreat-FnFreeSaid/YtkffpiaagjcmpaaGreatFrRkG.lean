import Derived.Test.YtkffpiaagjcmpaaGreatFrRkE
import Derived.Test.YtkffpiaagjcmpaaGreatFrScW
namespace Go.Proofs.YtkffpiaagjcmpaaGreat
set_option maxRecDepth 100000
set_option linter.unusedVariables false
set_option linter.unusedSimpArgs false
open Go.RowKit
def Fb:Con:={ ι:=Int×Int,pre:=λ i=>True,args:=λ i=>[DA.agg [cI i.1,cI i.2]],res:=λ i=>⟨false,[none],[rcB (AD (i.1,i.2))]⟩ }
theorem Vg:Fb.Ok Tryz.prog 35:=Bv rfl ⟨_,Tryz.func35,by decide,rfl⟩ (λ _=>Nat.le_of_ble_eq_true rfl) (λ _=>rfl) (λ i=>[.im (.bool (AD (i.1,i.2)))]) (λ _=>rfl) (λ _=>rfl) (λ i hp w us h=>by
 obtain ⟨x,y⟩:=i
 have h:RdRow w [.int,.int] [.int x,.int y] us:=h
 obtain ⟨a,_,rfl,q1,h⟩:=RdRow.cons2 h
 obtain ⟨b,_,rfl,q2,h⟩:=RdRow.cons2 h
 obtain ⟨-,rfl⟩:=RdRow.nil_inv h
 obtain rfl:=Rd.int2 q1
 obtain rfl:=Rd.int2 q2
 refine (Tx x y w).mono ?_
 rintro e w' ⟨rfl,hb⟩
 exact ⟨[Value.bool (AD (x,y))],rfl,Own.leaf (Fp.mk_bool _),hb⟩)
def BS:Con:={ ι:=Int×Int,pre:=λ i=>True,args:=λ i=>[DA.agg [cI i.1,cI i.2]],res:=λ i=>⟨false,[none],[rcB (AD (i.1,i.2))]⟩ }
theorem N9:BS.Ok Tryz.prog 126:=Bv rfl ⟨_,Tryz.func126,by decide,rfl⟩ (λ _=>Nat.le_of_ble_eq_true rfl) (λ _=>rfl) (λ i=>[.im (.bool (AD (i.1,i.2)))]) (λ _=>rfl) (λ _=>rfl) (λ i hp w us h=>by
 obtain ⟨x,y⟩:=i
 have h:RdRow w [.int,.int] [.int x,.int y] us:=h
 obtain ⟨a,_,rfl,q1,h⟩:=RdRow.cons2 h
 obtain ⟨b,_,rfl,q2,h⟩:=RdRow.cons2 h
 obtain ⟨-,rfl⟩:=RdRow.nil_inv h
 obtain rfl:=Rd.int2 q1
 obtain rfl:=Rd.int2 q2
 refine (Bc x y w).mono ?_
 rintro e w' ⟨rfl,hb⟩
 exact ⟨[Value.bool (AD (x,y))],rfl,Own.leaf (Fp.mk_bool _),hb⟩)
def Al:Con:={ ι:=(List V2),pre:=λ i=>True,args:=λ i=>[.one (DC.sl 24 [.int,.int] (AA i))],res:=λ i=>⟨false,[none],[rcB (AG i)]⟩ }
theorem H8:Al.Ok Tryz.prog 10:=Bv rfl ⟨_,Tryz.func10,by decide,rfl⟩ (λ _=>Nat.le_of_ble_eq_true rfl) (λ _=>rfl) (λ l=>[.im (.bool (AG l))]) (λ _=>rfl) (λ _=>rfl) (λ i hp w us h=>by
 have h:RdRow w [.sl 24 [.int,.int]] [.sl (AA i)] us:=h
 obtain ⟨v,vs,rfl,h1,h2⟩:=RdRow.cons2 h
 obtain ⟨-,rfl⟩:=RdRow.nil_inv h2
 refine (GN i v w (Rd.vecs h1)).mono ?_
 rintro e w' ⟨rfl,hb⟩
 exact ⟨[Value.bool (AG i)],rfl,Own.leaf (Fp.mk_bool _),hb⟩)
def EV:Con:={ ι:=(List V2),pre:=λ i=>True,args:=λ i=>[.one (DC.sl 24 [.int,.int] (AA i))],res:=λ i=>⟨false,[none],[rcB (AG i)]⟩ }
theorem S0:EV.Ok Tryz.prog 125:=Bv rfl ⟨_,Tryz.func125,by decide,rfl⟩ (λ _=>Nat.le_of_ble_eq_true rfl) (λ _=>rfl) (λ l=>[.im (.bool (AG l))]) (λ _=>rfl) (λ _=>rfl) (λ i hp w us h=>by
 have h:RdRow w [.sl 24 [.int,.int]] [.sl (AA i)] us:=h
 obtain ⟨v,vs,rfl,h1,h2⟩:=RdRow.cons2 h
 obtain ⟨-,rfl⟩:=RdRow.nil_inv h2
 refine (Om i v w (Rd.vecs h1)).mono ?_
 rintro e w' ⟨rfl,hb⟩
 exact ⟨[Value.bool (AG i)],rfl,Own.leaf (Fp.mk_bool _),hb⟩)
theorem CY {l:List V2} (h:AG l=true):3<=l.length/\l.length<=16/\l.all AD=true:=by
 simp only [AG,Bool.and_eq_true,Az] at h
 exact ⟨by omega,by omega,h.1.2⟩
def frR (r:RatD):Fr:=Fr.mk' (zOf r.neg (He r.num)) (He r.den)
def okR (r:RatD):Bool:=BR r.neg r.num r.den
def okP (p:PtD):Bool:=okR p.x && okR p.y
def pqR (p:PtD):Pq:=⟨frR p.x,frR p.y⟩
def RatD.has (r:RatD):Prop:=Dat.has (.sl 3 [.int]) (.sl r.num)/\Dat.has (.sl 3 [.int]) (.sl r.den)
def PtD.has (p:PtD):Prop:=p.x.has/\p.y.has
theorem In {r:Fr} (h:r.d≠0):Fr.mk' r.z r.d=r:=by
 obtain ⟨q,hq,e1,e2⟩:=Fr.some_d h
 rw [e1,e2]
 unfold Fr.mk'
 rw [Rat.mkRat_self]
 exact (Fr.of_some hq).symm
theorem Xw {r:RatD} (hh:r.has) (h:okR r=true):r.neg=decide ((frR r).z<0)/\r.num=L (frR r).z.natAbs/\r.den=L (frR r).d/\(frR r).d≠0:=by
 obtain ⟨s,hd,e1,e2,e3⟩:=Sr hh.1 hh.2 h
 rw [Fr.neg_z] at e1
 rw [Fr.num_z] at e2
 rw [Fr.den_d] at e3
 have:frR r=s:=by
  unfold frR
  rw [e1,e2,e3,Bz,Bz,GT,In hd]
 rw [this]
 exact ⟨e1,e2,e3,hd⟩
theorem ML {p:PtD} (h:okP p=true):okR p.x=true/\okR p.y=true:=by
 unfold okP at h;rwa [Bool.and_eq_true] at h
theorem Xx {p:PtD} (hh:p.has) (h:okP p=true):p.x.neg=decide ((pqR p).x.z<0)/\p.x.num=L (pqR p).x.z.natAbs/\p.x.den=L (pqR p).x.d/\p.y.neg=decide ((pqR p).y.z<0)/\p.y.num=L (pqR p).y.z.natAbs/\p.y.den=L (pqR p).y.d/\(pqR p).x.d≠0/\(pqR p).y.d≠0:=by
 obtain ⟨a1,a2,a3,a4⟩:=Xw hh.1 (ML h).1
 obtain ⟨b1,b2,b3,b4⟩:=Xw hh.2 (ML h).2
 exact ⟨a1,a2,a3,b1,b2,b3,a4,b4⟩
def DO (r:List Dat):PtD:=⟨⟨(r.getD 0 (.int 0)).b,(r.getD 1 (.int 0)).r,(r.getD 2 (.int 0)).r⟩,⟨(r.getD 3 (.int 0)).b,(r.getD 4 (.int 0)).r,(r.getD 5 (.int 0)).r⟩⟩
def ptD (p:PtD):List Dat:=[.bool p.x.neg,.sl p.x.num,.sl p.x.den,.bool p.y.neg,.sl p.y.num,.sl p.y.den]
theorem ZT (p:PtD):([ptD p].any λ r=>!(okP (DO r)))=!(okP p):=by
 show (!(okP p) || false)=_;rw [Bool.or_false]
theorem Ku {m:List (List Dat)} (h:Dat.has (.sl 3 [.int]) (.sl m)):m.length<=9223372036854775807:=Y4 h
def ptV (v:V2):Pq:=⟨Fr.ofInt v.1,Fr.ofInt v.2⟩
def Qs (p:Pq):List Dat:=[.bool (decide (p.x.z<0)),.sl (L p.x.z.natAbs),.sl (L p.x.d),.bool (decide (p.y.z<0)),.sl (L p.y.z.natAbs),.sl (L p.y.d)]
def Cr (l:List V2):List (List Dat):=l.map λ v=>Qs (ptV v)
def GU (l:List V2) (k:Nat):Pq:=ptV (l.getD k (0,0))
theorem MM (l:List V2):(Cr l).length=l.length:=by simp [Cr]
theorem UP {l:List V2} {k:Nat} (h:k<l.length):(Cr l).getD k []=Qs (GU l k):=by
 simp [Cr,List.getD,h,GU]
theorem Vh {l:List V2} {k:Nat} (h:k<l.length):Cr (l.take k)++[Qs (GU l k)]=Cr (l.take (k+1)):=by
 rw [Bp l (0,0) k h];simp [Cr,GU]
def Io (p q r:Pq):Int:=(Fr.sub (Fr.mul (Fr.sub q.x p.x) (Fr.sub r.y p.y)) (Fr.mul (Fr.sub q.y p.y) (Fr.sub r.x p.x))).sgn
def KZ (l:List V2) (p:Pq):Nat->Int
 | 0=>1
 | k+1=>min (KZ l p k) (Io (GU l k) (GU l ((k+1)%l.length)) p)
def DS (l:List V2) (p:Pq):Int:=KZ l p l.length
def cpZ (l:List V2) (p:PtD):Int:=if AG l=true/\okP p=true then DS l (pqR p) else -1
theorem Oz {l:List V2} (h:l.all AD=true) {k:Nat} (hk:k<l.length):(-9223372036854775808<=(l.getD k (0,0)).1/\(l.getD k (0,0)).1<=9223372036854775807)/\-9223372036854775808<=(l.getD k (0,0)).2/\(l.getD k (0,0)).2<=9223372036854775807:=by
 have:=Ak h hk
 have:=BW this
 omega
theorem MN {k n:Nat} (hk:k<n) (hn:n<=1048576):(Int.tmod (IntKind.i64.wrap (((k:Nat):Int)+(1:Int))) ((n:Nat):Int)).toNat=(k+1)%n/\(k+1)%n<n/\Int.tmod (IntKind.i64.wrap (((k:Nat):Int)+(1:Int))) ((n:Nat):Int)=(((k+1)%n:Nat):Int):=by
 have e:Int.tmod (IntKind.i64.wrap (((k:Nat):Int)+(1:Int))) ((n:Nat):Int)=(((k+1)%n:Nat):Int):=by
  rw [AE (by omega) (by omega),show ((k:Nat):Int)+1=((k+1:Nat):Int) by omega,AAG]
 refine ⟨by rw [e];omega,Nat.mod_lt _ (by omega),e⟩
theorem UQ {p:PtD} (h:p.has):∀ k,k < [ptD p].length->(DO ([ptD p].getD k [])).has:=λ k hk=>by
 obtain rfl:k=0:=by simp only [List.length_cons,List.length_nil] at hk;omega
 exact h
def ptQ (p:Pq):PtD:=⟨⟨decide (p.x.z<0),L p.x.z.natAbs,L p.x.d⟩,⟨decide (p.y.z<0),L p.y.z.natAbs,L p.y.d⟩⟩
theorem UR (p:Pq):(ptQ p).has:=by
 have h1:=p.x.nlz
 have h2:=p.x.nld
 have h3:=p.y.nlz
 have h4:=p.y.nld
 exact ⟨⟨UO _ (by omega),UO _ (by omega)⟩,UO _ (by omega),UO _ (by omega)⟩
theorem Xy (p:Pq):okP (ptQ p)=p.good:=by
 show (BR (decide (p.x.z<0)) (L p.x.z.natAbs) (L p.x.d) && BR (decide (p.y.z<0)) (L p.y.z.natAbs) (L p.y.d))=_
 rw [N8,N8];rfl
theorem US (p:PtD):okP p=(BR p.x.neg p.x.num p.x.den && BR p.y.neg p.y.num p.y.den):=rfl
theorem O0 {l:List V2} {p:PtD} (h:AG l=true) (h2:okP p=true):cpZ l p=DS l (pqR p):=by unfold cpZ;rw [if_pos ⟨h,h2⟩]
def BM:Con:={ ι:=Int×Int,pre:=λ i=>(-9223372036854775808<=i.1/\i.1<=9223372036854775807)/\-9223372036854775808<=i.2/\i.2<=9223372036854775807,args:=λ i=>[DA.agg [cI i.1,cI i.2]],res:=λ i=>⟨false,[some 6],[rcB (decide ((Fr.ofInt i.1).z<0)),.own 3 [.int] (L (Fr.ofInt i.1).z.natAbs),.own 3 [.int] (L (Fr.ofInt i.1).d),rcB (decide ((Fr.ofInt i.2).z<0)),.own 3 [.int] (L (Fr.ofInt i.2).z.natAbs),.own 3 [.int] (L (Fr.ofInt i.2).d)]⟩ }
theorem KO:BM.Ok Tryz.prog 13:=by
 refine fok (X:=⟨tt,[(46,Ae)],[],10,[]⟩) mixed AN (CTok.cons Ju (CTok.nil _)) Tryz.func13 (λ _=>[]) ?_
 rintro ⟨x,y⟩ hpre
 have hpre:(-9223372036854775808<=x/\x<=9223372036854775807)/\-9223372036854775808<=y/\y<=9223372036854775807:=hpre
 refine AM (q:=∃ i1:Int,[DA.one (cI x)]=Ae.args i1/\Ae.pre i1/\(∃ i2:Int,[DA.one (cI y)]=Ae.args i2/\Ae.pre i2/\((eqD (Fr.ofInt i1) (Fr.ofInt x) ((eqC (Fr.ofInt i2) (Fr.ofInt y))))))) (by kernel_rfl) ?_
 refine ⟨x,by
  rfl,by
  show -9223372036854775808<=x/\x<=9223372036854775807
  first|omega|assumption|exact hpre.1|exact hpre.2|(simp;done),?_⟩
 refine ⟨y,by
  rfl,by
  show -9223372036854775808<=y/\y<=9223372036854775807
  first|omega|assumption|exact hpre.1|exact hpre.2|(simp;done),?_⟩
 exact Xt rfl (MG rfl)
def G4:Con:={ ι:=PtD,pre:=λ i=>i.has,args:=λ i=>[DA.agg [cB i.x.neg,cS i.x.num,cS i.x.den,cB i.y.neg,cS i.y.num,cS i.y.den]],res:=λ i=>⟨false,[none],[rcB (okP i)]⟩ }
theorem Xz:G4.Ok Tryz.prog 86:=by
 refine fok (X:=⟨tt,[(68,Dr)],[],11,[]⟩) mixed AN (CTok.cons Xv (CTok.nil _)) Tryz.func86 (λ _=>[]) ?_
 intro (p:PtD) hpre
 have hpre:p.has:=hpre
 refine AM (q:=let Z1:=List (List Dat);∃ i1:Bool×Z1×Z1,[DA.agg [cB p.x.neg,cS p.x.num,cS p.x.den]]=Dr.args i1/\Dr.pre i1/\(ifB ((BR i1.1 i1.2.1 i1.2.2)) (∃ i2:Bool×Z1×Z1,[DA.agg [cB p.y.neg,cS p.y.num,cS p.y.den]]=Dr.args i2/\Dr.pre i2/\((vB (BR i2.1 i2.2.1 i2.2.2)=vB (okP p)))) ((vB false=vB (okP p))))) (by kernel_rfl) ?_
 conv=>zeta
 delta ifB vB
 refine ⟨(p.x.neg,p.x.num,p.x.den),by
  rfl,by
  exact ⟨hpre.1.1,hpre.1.2,Ku hpre.1.1,Ku hpre.1.2⟩,?_⟩
 refine And.symm ⟨λ c4=>?_,λ c4=>?_⟩
 ·try simp only [nrm] at c4
  exact congrArg Value.bool (by rw [US,c4];first|rfl|(rw [Bool.true_and]))
 try simp only [nrm] at c4
 refine ⟨(p.y.neg,p.y.num,p.y.den),by
  rfl,by
  exact ⟨hpre.2.1,hpre.2.2,Ku hpre.2.1,Ku hpre.2.2⟩,?_⟩
 exact congrArg Value.bool (by rw [US,c4];first|rfl|(rw [Bool.true_and]))
def Fc:Con:={ ι:=PtD,pre:=λ i=>i.has,args:=λ i=>[DA.agg [cB i.x.neg,cS i.x.num,cS i.x.den,cB i.y.neg,cS i.y.num,cS i.y.den]],res:=λ i=>⟨false,[none],[rcB (!(okP i))]⟩ }
theorem Vi:Fc.Ok Tryz.prog 85:=by
 refine fok (X:=⟨tt,[(86,G4)],[],6,[]⟩) mixed AN (CTok.cons Xz (CTok.nil _)) Tryz.func85 (λ _=>[]) ?_
 intro (p:PtD) hpre
 have hpre:p.has:=hpre
 refine AM (q:=∃ i1:PtD,[DA.agg [cB p.x.neg,cS p.x.num,cS p.x.den,cB p.y.neg,cS p.y.num,cS p.y.den]]=G4.args i1/\G4.pre i1/\((vB (!(okP i1))=vB (!(okP p))))) (by kernel_rfl) ?_
 delta vB
 refine ⟨p,by
  rfl,by
  exact hpre,?_⟩
 exact rfl
def G5:Con:={ ι:=(List (List Dat)),pre:=λ i=>i.length<=9223372036854775807/\∀ k,k<i.length->(DO (i.getD k [])).has,args:=λ i=>[.one (DC.sl 42 z41 i),.one (.ro (.fn 85 []))],tag:=86,res:=λ i=>⟨false,[none],[rcI (KY (λ r=>!(okP (DO r))) i)]⟩ }
theorem X0:G5.Ok Tryz.prog 130:=by
 refine fok (X:=⟨tt,[(85,Fc)],[],19,[]⟩) mixed AN (CTok.cons Vi (CTok.nil _)) Tryz.func130 (λ (i:(List (List Dat)))=>[(2,.mk 3 (Nat) (λ x1=>{ tm:=[(0,tX 1),(1,tX 2),(7,tI (nI i.length)),(8,tI (nI x1))],en:=[(1,.view 42 z41 i []),(2,.ro (.fn 85 []) [])] }) (λ x1=>x1<=i.length/\∀ j,j<x1->(λ r=>!(okP (DO r))) (i.getD j [])=false) (λ x1=>i.length-x1) (λ _=>[]))]) ?_
 intro (l:List (List Dat)) hpre
 have hpre:l.length<=9223372036854775807/\∀ k,k<l.length->(DO (l.getD k [])).has:=hpre
 refine AM (q:=let Z3:=(.fn 85 []:RO)=.fn 85 [];let Z2:=KY (λ r=>!(okP (DO r))) l;(∃ x1:Nat,(x1<=l.length/\∀ j,j<x1->(λ r=>!(okP (DO r))) (l.getD j [])=false)/\((rf (vI (nI l.length)))/\(vI (0:Int)=vI (nI x1))/\(rf (l))/\Z3))/\∀ x1:Nat,let Z1:=l.getD x1 [];(x1<=l.length/\∀ j,j<x1->(λ r=>!(okP (DO r))) (l.getD j [])=false)->(ifB ((decide ((nI x1)<(nI l.length)))) ((0<=(nI x1)/\(nI x1)<(l.length:Int))/\((x1<l.length)/\(∃ i1:PtD,[DA.agg [cB (((Z1.getD 0 (.int 0))).b),cS (((Z1.getD 1 (.int 0))).r),cS (((Z1.getD 2 (.int 0))).r),cB (((Z1.getD 3 (.int 0))).b),cS (((Z1.getD 4 (.int 0))).r),cS (((Z1.getD 5 (.int 0))).r)]]=Fc.args i1/\Fc.pre i1/\(ifB ((!(okP i1))) ((vI (nI x1)=vI Z2)) (∃ y2:Nat,(y2<=l.length/\∀ j,j<y2->(λ r=>!(okP (DO r))) (l.getD j [])=false)/\(l.length-y2<l.length-x1)/\((rf (vI (nI l.length)))/\(vI (wR ((nI x1)+(1:Int)))=vI (nI y2))/\(rf (l))/\Z3)))))) ((vI (-1:Int)=vI Z2)))) (by kernel_rfl) ?_
 conv=>zeta
 delta ifB vI wR nI
 refine ⟨⟨0,by
  exact ⟨Nat.zero_le _,λ j hj=>absurd hj (Nat.not_lt_zero j)⟩,?_⟩,?_⟩
 ·refine ⟨rfl,?_,rfl,?_⟩
  ·rfl
  rfl
 intro (k:Nat) hki1
 have hki1:k<=l.length/\∀ j,j<k->(λ r=>!(okP (DO r))) (l.getD j [])=false:=hki1
 refine And.symm ⟨λ c7=>?_,λ c7=>?_⟩
 ·try simp only [nrm] at c7
  rw [Nx (λ j hj=>hki1.2 j (by omega))]
 try simp only [nrm] at c7
 refine ao (by omega) λ o8=>?_
 refine ao (by omega) λ o9=>?_
 refine ⟨(DO (l.getD k [])),by
  rfl,by
  exact hpre.2 k (by omega),?_⟩
 refine ⟨λ c13=>?_,λ c13=>?_⟩
 ·try simp only [nrm] at c13
  rw [UE (k:=k) (by omega) hki1.2 (by show (!(okP (DO (l.getD k []))))=true;rw [c13];rfl)]
 try simp only [nrm] at c13
 refine ⟨k+1,by
  exact ⟨by omega,Kq hki1.2 (by show (!(okP (DO (l.getD k []))))=false;rw [c13];rfl)⟩,by
  omega,?_⟩
 refine ⟨rfl,?_,rfl,?_⟩
 ·exact AR (AE (by omega) (by omega))
 rfl
def Fd:Con:={ ι:=(List (List Dat)),pre:=λ i=>i.length<=9223372036854775807/\∀ k,k<i.length->(DO (i.getD k [])).has,args:=λ i=>[.one (DC.sl 42 z41 i),.one (.ro (.fn 85 []))],tag:=86,res:=λ i=>⟨false,[none],[rcB (i.any (λ r=>!(okP (DO r))))]⟩ }
theorem Vj:Fd.Ok Tryz.prog 84:=by
 refine fok (X:=⟨tt,[(130,G5)],[],9,[]⟩) mixed AN (CTok.cons X0 (CTok.nil _)) Tryz.func84 (λ _=>[]) ?_
 intro (l:List (List Dat)) hpre
 have hpre:l.length<=9223372036854775807/\∀ k,k<l.length->(DO (l.getD k [])).has:=hpre
 refine AM (q:=∃ i1:(List (List Dat)),[DA.one (DC.sl 42 z41 l),DA.one (DC.ro (.fn 85 []))]=G5.args i1/\G5.pre i1/\((vB (decide ((KY (λ r=>!(okP (DO r))) i1)≥(0:Int)))=vB (l.any (λ r=>!(okP (DO r))))))) (by kernel_rfl) ?_
 delta vB
 refine ⟨l,by
  rfl,by
  exact hpre,?_⟩
 exact congrArg Value.bool (Qa _ _)
def BG:Con:={ ι:=(List (List Dat)),pre:=λ i=>i.length<=9223372036854775807/\∀ k,k<i.length->(DO (i.getD k [])).has,args:=λ i=>[.one (DC.sl 42 z41 i)],res:=λ i=>⟨false,[none],[rcB (!(i.any (λ r=>!(okP (DO r)))))]⟩ }
theorem Ip:BG.Ok Tryz.prog 43:=by
 refine fok (X:=⟨tt,[(84,Fd)],[],6,[]⟩) mixed AN (CTok.cons Vj (CTok.nil _)) Tryz.func43 (λ _=>[]) ?_
 intro (l:List (List Dat)) hpre
 have hpre:l.length<=9223372036854775807/\∀ k,k<l.length->(DO (l.getD k [])).has:=hpre
 refine AM (q:=∃ i1:(List (List Dat)),[DA.one (DC.sl 42 z41 l),DA.one (DC.ro (.fn 85 []))]=Fd.args i1/\Fd.pre i1/\((vB (!(i1.any (λ r=>!(okP (DO r)))))=vB (!(l.any (λ r=>!(okP (DO r)))))))) (by kernel_rfl) ?_
 delta vB
 refine ⟨l,by
  rfl,by
  exact hpre,?_⟩
 exact rfl
def Iq:Con:={ ι:=Pq×Pq×Pq,pre:=λ i=>True,args:=λ i=>[dP i.1,dP i.2.1,dP i.2.2],res:=λ i=>⟨false,[none],[rcI (Io i.1 i.2.1 i.2.2)]⟩ }
theorem ZU:Iq.Ok Tryz.prog 132:=by
 refine fok (X:=⟨tt,[(142,BK),(60,C0),(163,EU)],[],35,[]⟩) mixed AN (CTok.cons Ve (CTok.cons Vc (CTok.cons Sz (CTok.nil _)))) Tryz.func132 (λ _=>[]) ?_
 rintro ⟨p,q,r⟩ hpre
 have hpre:True:=hpre
 refine AM (q:=∃ i1:Fr×Fr,[dF q.x,dF p.x]=BK.args i1/\BK.pre i1/\(∃ i2:Fr×Fr,[dF r.y,dF p.y]=BK.args i2/\BK.pre i2/\(∃ i3:Fr×Fr,[dF (Fr.sub i1.1 i1.2),dF (Fr.sub i2.1 i2.2)]=C0.args i3/\C0.pre i3/\(∃ i4:Fr×Fr,[dF q.y,dF p.y]=BK.args i4/\BK.pre i4/\(∃ i5:Fr×Fr,[dF r.x,dF p.x]=BK.args i5/\BK.pre i5/\(∃ i6:Fr×Fr,[dF (Fr.sub i4.1 i4.2),dF (Fr.sub i5.1 i5.2)]=C0.args i6/\C0.pre i6/\(∃ i7:Fr×Fr,[dF (Fr.mul i3.1 i3.2),dF (Fr.mul i6.1 i6.2)]=BK.args i7/\BK.pre i7/\(∃ i8:Fr,[dF (Fr.sub i7.1 i7.2)]=EU.args i8/\EU.pre i8/\((vI i8.sgn=vI (Io p q r))))))))))) (by kernel_rfl) ?_
 delta vI
 refine ⟨(q.x,p.x),by
  rfl,by
  trivial,?_⟩
 refine ⟨(r.y,p.y),by
  rfl,by
  trivial,?_⟩
 refine ⟨((Fr.sub q.x p.x),(Fr.sub r.y p.y)),by
  rfl,by
  trivial,?_⟩
 refine ⟨(q.y,p.y),by
  rfl,by
  trivial,?_⟩
 refine ⟨(r.x,p.x),by
  rfl,by
  trivial,?_⟩
 refine ⟨((Fr.sub q.y p.y),(Fr.sub r.x p.x)),by
  rfl,by
  trivial,?_⟩
 refine ⟨((Fr.mul (Fr.sub q.x p.x) (Fr.sub r.y p.y)),(Fr.mul (Fr.sub q.y p.y) (Fr.sub r.x p.x))),by
  rfl,by
  trivial,?_⟩
 refine ⟨(Fr.sub (Fr.mul (Fr.sub q.x p.x) (Fr.sub r.y p.y)) (Fr.mul (Fr.sub q.y p.y) (Fr.sub r.x p.x))),by
  rfl,by
  trivial,?_⟩
 rfl
def Dg:Con:={ ι:=(List V2),pre:=λ i=>i.all AD=true/\i.length<=1048576,args:=λ i=>[.one (DC.sl 24 [.int,.int] (AA i))],res:=λ i=>⟨false,[none],[.own 42 [.bool,.sl 3 [.int],.sl 3 [.int],.bool,.sl 3 [.int],.sl 3 [.int]] (Cr i)]⟩ }
theorem Qt:Dg.Ok Tryz.prog 131:=by
 refine fok (X:=⟨tt,[(13,BM)],[],20,[]⟩) mixed AN (CTok.cons KO (CTok.nil _)) Tryz.func131 (λ (i:(List V2))=>[(3,.mk 3 (Nat) (λ x1=>{ tm:=[(7,tX 1),(8,tI (nI ((AA i).length))),(9,tI (nI x1)),(3,tX 2)],en:=[(1,.view 24 [.int,.int] (AA i) []),(2,.own 42 z41 (Cr (i.take x1)))] }) (λ x1=>x1<=i.length) (λ x1=>i.length-x1) (λ _=>[]))]) ?_
 intro (l:List V2) hpre
 have hpre:l.all AD=true/\l.length<=1048576:=hpre
 refine AM (q:=let Z3:=nI ((AA l).length);(∃ x1:Nat,(x1<=l.length)/\((rf (vI Z3))/\(vI (0:Int)=vI (nI x1))/\(rf (AA l))/\(([]:List (List Dat))=(Cr (l.take x1)))))/\∀ x1:Nat,let Z4:=Cr (l.take x1);(x1<=l.length)->(ifB ((decide ((nI x1)<Z3))) ((0<=(nI x1)/\(nI x1)<((AA l).length:Int))/\((x1<(AA l).length)/\(∃ i1:Int×Int,let Z2:=Fr.ofInt i1.2;let Z1:=Fr.ofInt i1.1;[DA.agg [cI (((((AA l).getD x1 []).getD 0 (.int 0))).n),cI (((((AA l).getD x1 []).getD 1 (.int 0))).n)]]=BM.args i1/\BM.pre i1/\((Z4.length+([[Dat.bool (decide (Z1.z<0)),Dat.sl (L Z1.z.natAbs),Dat.sl (L Z1.d),Dat.bool (decide (Z2.z<0)),Dat.sl (L Z2.z.natAbs),Dat.sl (L Z2.d)]]:List (List Dat)).length<=1073741824)/\(∃ y2:Nat,(y2<=l.length)/\(l.length-y2<l.length-x1)/\((rf (vI Z3))/\(vI (wR ((nI x1)+(1:Int)))=vI (nI y2))/\(rf (AA l))/\((Z4++([[Dat.bool (decide (Z1.z<0)),Dat.sl (L Z1.z.natAbs),Dat.sl (L Z1.d),Dat.bool (decide (Z2.z<0)),Dat.sl (L Z2.z.natAbs),Dat.sl (L Z2.d)]]:List (List Dat)))=(Cr (l.take y2))))))))) ((Z4=Cr l)))) (by kernel_rfl) ?_
 conv=>zeta
 delta ifB vI wR nI
 have hvl:=AC l
 have hpl:=MM l
 refine ⟨⟨0,by
  omega,?_⟩,?_⟩
 ·refine ⟨rfl,?_,rfl,?_⟩
  ·rfl
  rfl
 intro (k:Nat) hki1
 have hki1:k<=l.length:=hki1
 refine And.symm ⟨λ c7=>?_,λ c7=>?_⟩
 ·try simp only [nrm] at c7
  rw [show k=l.length by omega,List.take_length]
 try simp only [nrm] at c7
 refine ao (by omega) λ o8=>?_
 refine ao (by omega) λ o9=>?_
 refine ⟨((l.getD k (0,0)).1,(l.getD k (0,0)).2),by
  rw [Ai (by omega),Aj (by omega)];rfl,by
  exact Oz hpre.1 (by omega),?_⟩
 refine ao (a:=(Cr (l.take k)).length+([[Dat.bool (decide ((Fr.ofInt ((l.getD k (0,0)).1)).z<0)),Dat.sl (L (Fr.ofInt ((l.getD k (0,0)).1)).z.natAbs),Dat.sl (L (Fr.ofInt ((l.getD k (0,0)).1)).d),Dat.bool (decide ((Fr.ofInt ((l.getD k (0,0)).2)).z<0)),Dat.sl (L (Fr.ofInt ((l.getD k (0,0)).2)).z.natAbs),Dat.sl (L (Fr.ofInt ((l.getD k (0,0)).2)).d)]]:List (List Dat)).length<=1073741824) (by simp only [MM,List.length_take,List.length_cons,List.length_nil];omega) λ o13=>?_
 refine ⟨k+1,by
  omega,by
  omega,?_⟩
 refine ⟨rfl,?_,rfl,?_⟩
 ·exact AR (AE (by omega) (by omega))
 exact Vh (by omega)
def Dh:Con:={ ι:=(List V2)×Pq,pre:=λ i=>i.1.all AD=true/\0<i.1.length/\i.1.length<=16,args:=λ i=>[.one (DC.sl 24 [.int,.int] (AA i.1)),dP i.2],res:=λ i=>⟨false,[none],[rcI (DS i.1 i.2)]⟩ }
theorem Qu:Dh.Ok Tryz.prog 89:=by
 refine fok (X:=⟨tt,[(131,Dg),(132,Iq)],[],33,[]⟩) mixed AN (CTok.cons Qt (CTok.cons ZU (CTok.nil _))) Tryz.func89 (λ (i:(List V2)×Pq)=>[(4,.mk 7 (Nat) (λ x1=>{ tm:=[(3,tP 1 0),(11,tX 6),(12,tI (nI ((Cr i.1).length))),(13,tI (nI x1)),(6,tI (KZ i.1 i.2 x1)),(5,tX 6)],en:=[(1,.box [kB (decide (i.2.x.z<0)),.ext 2,.ext 3,kB (decide (i.2.y.z<0)),.ext 4,.ext 5]),(2,eV (L i.2.x.z.natAbs)),(3,eV (L i.2.x.d)),(4,eV (L i.2.y.z.natAbs)),(5,eV (L i.2.y.d)),(6,.own 42 z41 (Cr i.1))] }) (λ x1=>x1<=i.1.length) (λ x1=>i.1.length-x1) (λ _=>[]))]) ?_
 rintro ⟨l,p⟩ hpre
 have hpre:l.all AD=true/\0<l.length/\l.length<=16:=hpre
 refine AM (q:=let Z7:=vB (decide (p.y.z<0));let Z6:=vB (decide (p.x.z<0));let Z4:=nI ((Cr l).length);∃ i1:(List V2),[DA.one (DC.sl 24 [.int,.int] (AA l))]=Dg.args i1/\Dg.pre i1/\((∃ x1:Nat,(x1<=l.length)/\((vI (nI ((Cr i1).length))=vI Z4)/\(vI (0:Int)=vI (nI x1))/\(vI (1:Int)=vI (KZ l p x1))/\(rf Z6)/\(rf Z7)/\(rf (L p.x.z.natAbs))/\(rf (L p.x.d))/\(rf (L p.y.z.natAbs))/\(rf (L p.y.d))/\(Cr i1=(Cr l))))/\∀ x1:Nat,let Z5:=wR ((nI x1)+(1:Int));let Z3:=(Cr l).getD x1 [];let Z1:=Int.tmod Z5 Z4;let Z2:=(Cr l).getD (Z1.toNat) [];(x1<=l.length)->(ifB ((decide ((nI x1)<Z4))) ((0<=(nI x1)/\(nI x1)<((Cr l).length:Int))/\((x1<(Cr l).length)/\((Z4≠0)/\((0<=Z1/\Z1<((Cr l).length:Int))/\((Z1.toNat<(Cr l).length)/\(∃ i2:Pq×Pq×Pq,[DA.agg [cB (((Z3.getD 0 (.int 0))).b),cS (((Z3.getD 1 (.int 0))).r),cS (((Z3.getD 2 (.int 0))).r),cB (((Z3.getD 3 (.int 0))).b),cS (((Z3.getD 4 (.int 0))).r),cS (((Z3.getD 5 (.int 0))).r)],DA.agg [cB (((Z2.getD 0 (.int 0))).b),cS (((Z2.getD 1 (.int 0))).r),cS (((Z2.getD 2 (.int 0))).r),cB (((Z2.getD 3 (.int 0))).b),cS (((Z2.getD 4 (.int 0))).r),cS (((Z2.getD 5 (.int 0))).r)],dP p]=Iq.args i2/\Iq.pre i2/\(∃ y2:Nat,(y2<=l.length)/\(l.length-y2<l.length-x1)/\((rf (vI Z4))/\(vI Z5=vI (nI y2))/\(vI (min (KZ l p x1) (Io i2.1 i2.2.1 i2.2.2))=vI (KZ l p y2))/\(rf Z6)/\(rf Z7)/\(rf (L p.x.z.natAbs))/\(rf (L p.x.d))/\(rf (L p.y.z.natAbs))/\(rf (L p.y.d))/\(rf (Cr l)))))))))) ((vI (KZ l p x1)=vI (DS l p)))))) (by kernel_rfl) ?_
 conv=>zeta
 delta ifB vB vI wR nI
 have hvl:=AC l
 have hpl:=MM l
 refine ⟨l,by
  rfl,by
  exact ⟨hpre.1,by omega⟩,?_⟩
 refine ⟨⟨0,by
  omega,?_⟩,?_⟩
 ·refine ⟨rfl,?_,?_,rfl,rfl,rfl,rfl,rfl,rfl,rfl⟩
  ·rfl
  rfl
 intro (k:Nat) hki4
 have hki4:k<=l.length:=hki4
 refine And.symm ⟨λ c16=>?_,λ c16=>?_⟩
 ·try simp only [nrm] at c16
  rw [show k=l.length by omega];rfl
 try simp only [nrm] at c16
 have hkl:k<l.length:=by omega
 have m2:(k+1)%l.length<l.length:=(MN hkl (by omega)).2.1
 have m1:(Int.tmod (IntKind.i64.wrap (((k:Nat):Int)+(1:Int))) (((Cr l).length:Nat):Int)).toNat=(k+1)%l.length:=by rw [hpl];exact (MN hkl (by omega)).1
 have m3:Int.tmod (IntKind.i64.wrap (((k:Nat):Int)+(1:Int))) (((Cr l).length:Nat):Int)=(((k+1)%l.length:Nat):Int):=by rw [hpl];exact (MN hkl (by omega)).2.2
 refine ao (by omega) λ o17=>?_
 refine ao (by omega) λ o18=>?_
 refine ao (by omega) λ o19=>?_
 refine ao (by omega) λ o20=>?_
 refine ao (by omega) λ o21=>?_
 refine ⟨(GU l k,GU l ((k+1)%l.length),p),by
  rw [m1,UP hkl,UP m2];rfl,by
  trivial,?_⟩
 refine ⟨k+1,by
  trivial,by
  omega,?_⟩
 refine ⟨rfl,?_,?_,rfl,rfl,rfl,rfl,rfl,rfl,rfl⟩
 ·exact AR (AE (by omega) (by omega))
 rfl
end Go.Proofs.YtkffpiaagjcmpaaGreat
namespace Go.Proofs.YtkffpiaagjcmpaaGreat
set_option linter.unusedVariables false
set_option linter.unusedSimpArgs false
open Go.RowKit
theorem OA {l:List V2} (h:l.all AD=true) {k:Nat} (hk:k<l.length):(GU l k).good=true:=by
 have hv:=Oz h hk
 unfold Pq.good GU ptV
 rw [Fr.good_some (Kr (MJ hv.1)),Fr.good_some (Kr (MJ hv.2))];rfl
theorem AAN {l:List V2} {p:Pq} (hl:AG l=true) (h:p.good=true):cpZ l (ptQ p)=DS l p:=by
 rw [O0 hl (by rw [Xy];exact h)]
 have hg:p.x.good=true/\p.y.good=true:=by unfold Pq.good at h;rwa [Bool.and_eq_true] at h
 have e:pqR (ptQ p)=p:=by
  show (⟨Fr.mk' (zOf (decide (p.x.z<0)) (He (L p.x.z.natAbs))) (He (L p.x.d)),Fr.mk' (zOf (decide (p.y.z<0)) (He (L p.y.z.natAbs))) (He (L p.y.d))⟩:Pq)=p
  rw [Bz,Bz,Bz,Bz,GT,GT,In (Fr.d_good.1 hg.1),In (Fr.d_good.1 hg.2)]
 rw [e]
end Go.Proofs.YtkffpiaagjcmpaaGreat
