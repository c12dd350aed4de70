import Derived.Test.YtkffpiaagjcmpaaGreatFmRkE
import Derived.Test.YtkffpiaagjcmpaaGreatFmScW
namespace Go.Proofs.YtkffpiaagjcmpaaGreat
set_option maxRecDepth 100000
set_option linter.unusedVariables false
set_option linter.unusedSimpArgs false
open Go.RowKit
def Bv:Con:={ ι:=Int×Int,pre:=λ i=>True,args:=λ i=>[DA.agg [cI i.1,cI i.2]],res:=λ i=>⟨false,[none],[rcB (AF (i.1,i.2))]⟩ }
theorem PX:Bv.Ok Tryz.prog 126:=C3 rfl ⟨_,Tryz.func126,by decide,rfl⟩ (λ _=>Nat.le_of_ble_eq_true rfl) (λ _=>rfl) (λ i=>[.im (.bool (AF (i.1,i.2)))]) (λ _=>rfl) (λ _=>rfl) (λ i hp w us h=>by
 obtain ⟨x,y⟩:=i
 have h:RdRow w [.int,.int] [.int x,.int y] us:=h
 obtain ⟨a,_,rfl,q1,h⟩:=RdRow.cons2 h
 obtain ⟨b,_,rfl,q2,h⟩:=RdRow.cons2 h
 obtain ⟨-,rfl⟩:=RdRow.nil_inv h
 obtain rfl:=Rd.int2 q1
 obtain rfl:=Rd.int2 q2
 refine (CC x y w).mono ?_
 rintro e w' ⟨rfl,hb⟩
 exact ⟨[Value.bool (AF (x,y))],rfl,Own.leaf (Fp.mk_bool _),hb⟩)
def CX:Con:={ ι:=(List V2),pre:=λ i=>True,args:=λ i=>[.one (DC.sl 24 [.int,.int] (AA i))],res:=λ i=>⟨false,[none],[rcB (AJ i)]⟩ }
theorem UZ:CX.Ok Tryz.prog 10:=C3 rfl ⟨_,Tryz.func10,by decide,rfl⟩ (λ _=>Nat.le_of_ble_eq_true rfl) (λ _=>rfl) (λ l=>[.im (.bool (AJ l))]) (λ _=>rfl) (λ _=>rfl) (λ i hp w us h=>by
 have h:RdRow w [.sl 24 [.int,.int]] [.sl (AA i)] us:=h
 obtain ⟨v,vs,rfl,h1,h2⟩:=RdRow.cons2 h
 obtain ⟨-,rfl⟩:=RdRow.nil_inv h2
 refine (H0 i v w (Rd.vecs h1)).mono ?_
 rintro e w' ⟨rfl,hb⟩
 exact ⟨[Value.bool (AJ i)],rfl,Own.leaf (Fp.mk_bool _),hb⟩)
def Fh:Con:={ ι:=(List V2),pre:=λ i=>True,args:=λ i=>[.one (DC.sl 24 [.int,.int] (AA i))],res:=λ i=>⟨false,[none],[rcB (AJ i)]⟩ }
theorem Ua:Fh.Ok Tryz.prog 125:=C3 rfl ⟨_,Tryz.func125,by decide,rfl⟩ (λ _=>Nat.le_of_ble_eq_true rfl) (λ _=>rfl) (λ l=>[.im (.bool (AJ l))]) (λ _=>rfl) (λ _=>rfl) (λ i hp w us h=>by
 have h:RdRow w [.sl 24 [.int,.int]] [.sl (AA i)] us:=h
 obtain ⟨v,vs,rfl,h1,h2⟩:=RdRow.cons2 h
 obtain ⟨-,rfl⟩:=RdRow.nil_inv h2
 refine (QW i v w (Rd.vecs h1)).mono ?_
 rintro e w' ⟨rfl,hb⟩
 exact ⟨[Value.bool (AJ i)],rfl,Own.leaf (Fp.mk_bool _),hb⟩)
theorem Ce {l:List V2} (h:AJ l=true):3<=l.length/\l.length<=16/\l.all AF=true:=by
 simp only [AJ,Bool.and_eq_true,BO] at h
 exact ⟨by omega,by omega,h.1.2⟩
def frR (r:RatD):Fr:=Fr.mk' (zOf r.neg (MA r.num)) (MA r.den)
def okR (r:RatD):Bool:=Bh r.neg r.num r.den
def okP (p:PtD):Bool:=okR p.x && okR p.y
def pqR (p:PtD):Pq:=⟨frR p.x,frR p.y⟩
def RatD.has (r:RatD):Prop:=Dat.has (.sl 3 [.int]) (.sl r.num)/\Dat.has (.sl 3 [.int]) (.sl r.den)
def PtD.has (p:PtD):Prop:=p.x.has/\p.y.has
theorem QY {r:Fr} (h:r.d≠0):Fr.mk' r.z r.d=r:=by
 obtain ⟨q,hq,e1,e2⟩:=Fr.some_d h
 rw [e1,e2]
 unfold Fr.mk'
 rw [Rat.mkRat_self]
 exact (Fr.of_some hq).symm
theorem ZC {r:RatD} (hh:r.has) (h:okR r=true):r.neg=decide ((frR r).z<0)/\r.num=L (frR r).z.natAbs/\r.den=L (frR r).d/\(frR r).d≠0:=by
 obtain ⟨s,hd,e1,e2,e3⟩:=UH hh.1 hh.2 h
 rw [Fr.neg_z] at e1
 rw [Fr.num_z] at e2
 rw [Fr.den_d] at e3
 have:frR r=s:=by
  unfold frR
  rw [e1,e2,e3,DF,DF,FI,QY hd]
 rw [this]
 exact ⟨e1,e2,e3,hd⟩
theorem SL {p:PtD} (h:okP p=true):okR p.x=true/\okR p.y=true:=by
 unfold okP at h;rwa [Bool.and_eq_true] at h
theorem Ub {p:PtD} (hh:p.has) (h:okP p=true):p.x.neg=decide ((pqR p).x.z<0)/\p.x.num=L (pqR p).x.z.natAbs/\p.x.den=L (pqR p).x.d/\p.y.neg=decide ((pqR p).y.z<0)/\p.y.num=L (pqR p).y.z.natAbs/\p.y.den=L (pqR p).y.d/\(pqR p).x.d≠0/\(pqR p).y.d≠0:=by
 obtain ⟨a1,a2,a3,a4⟩:=ZC hh.1 (SL h).1
 obtain ⟨b1,b2,b3,b4⟩:=ZC hh.2 (SL h).2
 exact ⟨a1,a2,a3,b1,b2,b3,a4,b4⟩
def DK (r:List Dat):PtD:=⟨⟨(r.getD 0 (.int 0)).b,(r.getD 1 (.int 0)).r,(r.getD 2 (.int 0)).r⟩,⟨(r.getD 3 (.int 0)).b,(r.getD 4 (.int 0)).r,(r.getD 5 (.int 0)).r⟩⟩
def ptD (p:PtD):List Dat:=[.bool p.x.neg,.sl p.x.num,.sl p.x.den,.bool p.y.neg,.sl p.y.num,.sl p.y.den]
theorem ADW (p:PtD):([ptD p].any λ r=>!(okP (DK r)))=!(okP p):=by
 show (!(okP p) || false)=_;rw [Bool.or_false]
theorem ADX (p q:PtD):([ptD p,ptD q].any λ r=>!(okP (DK r)))=!(okP p && okP q):=by
 show (!(okP p) || (!(okP q) || false))=_;rw [Bool.or_false,Bool.not_and]
theorem MV {m:List (List Dat)} (h:Dat.has (.sl 3 [.int]) (.sl m)):m.length<=9223372036854775807:=AAy h
def ptV (v:V2):Pq:=⟨Fr.ofInt v.1,Fr.ofInt v.2⟩
def ZD (p:Pq):List Dat:=[.bool (decide (p.x.z<0)),.sl (L p.x.z.natAbs),.sl (L p.x.d),.bool (decide (p.y.z<0)),.sl (L p.y.z.natAbs),.sl (L p.y.d)]
def CD (l:List V2):List (List Dat):=l.map λ v=>ZD (ptV v)
def Gy (l:List V2) (k:Nat):Pq:=ptV (l.getD k (0,0))
theorem Jz (l:List V2):(CD l).length=l.length:=by simp [CD]
theorem MW {l:List V2} {k:Nat} (h:k<l.length):(CD l).getD k []=ZD (Gy l k):=by
 simp [CD,List.getD,h,Gy]
theorem W7 {l:List V2} {k:Nat} (h:k<l.length):CD (l.take k)++[ZD (Gy l k)]=CD (l.take (k+1)):=by
 rw [D2 l (0,0) k h];simp [CD,Gy]
def CE (p q r:Pq):Int:=(Fr.sub (Fr.mul (Fr.sub q.x p.x) (Fr.sub r.y p.y)) (Fr.mul (Fr.sub q.y p.y) (Fr.sub r.x p.x))).sgn
def MB (l:List V2) (p:Pq):Nat->Int
 | 0=>1
 | k+1=>min (MB l p k) (CE (Gy l k) (Gy l ((k+1)%l.length)) p)
def Dw (l:List V2) (p:Pq):Int:=MB l p l.length
def cpZ (l:List V2) (p:PtD):Int:=if AJ l=true/\okP p=true then Dw l (pqR p) else -1
theorem ABE {l:List V2} (h:l.all AF=true) {k:Nat} (hk:k<l.length):(-9223372036854775808<=(l.getD k (0,0)).1/\(l.getD k (0,0)).1<=9223372036854775807)/\-9223372036854775808<=(l.getD k (0,0)).2/\(l.getD k (0,0)).2<=9223372036854775807:=by
 have:=A3 h hk
 have:=CJ this
 omega
theorem GN {k n:Nat} (hk:k<n) (hn:n<=1048576):(Int.tmod (IntKind.i64.wrap (((k:Nat):Int)+(1:Int))) ((n:Nat):Int)).toNat=(k+1)%n/\(k+1)%n<n/\Int.tmod (IntKind.i64.wrap (((k:Nat):Int)+(1:Int))) ((n:Nat):Int)=(((k+1)%n:Nat):Int):=by
 have e:Int.tmod (IntKind.i64.wrap (((k:Nat):Int)+(1:Int))) ((n:Nat):Int)=(((k+1)%n:Nat):Int):=by
  rw [AB (by omega) (by omega),show ((k:Nat):Int)+1=((k+1:Nat):Int) by omega,Yr]
 refine ⟨by rw [e];omega,Nat.mod_lt _ (by omega),e⟩
theorem ABF {p:PtD} (h:p.has):∀ k,k < [ptD p].length->(DK ([ptD p].getD k [])).has:=λ k hk=>by
 obtain rfl:k=0:=by simp only [List.length_cons,List.length_nil] at hk;omega
 exact h
theorem ABG {p q:PtD} (h:p.has) (h2:q.has):∀ k,k < [ptD p,ptD q].length->(DK ([ptD p,ptD q].getD k [])).has:=λ k hk=>by
 have:k=0∨k=1:=by simp only [List.length_cons,List.length_nil] at hk;omega
 rcases this with rfl|rfl
 ·exact h
 ·exact h2
def ptQ (p:Pq):PtD:=⟨⟨decide (p.x.z<0),L p.x.z.natAbs,L p.x.d⟩,⟨decide (p.y.z<0),L p.y.z.natAbs,L p.y.d⟩⟩
theorem AU (p:Pq):(ptQ p).has:=by
 have h1:=p.x.nlz
 have h2:=p.x.nld
 have h3:=p.y.nlz
 have h4:=p.y.nld
 exact ⟨⟨Lx _ (by omega),Lx _ (by omega)⟩,Lx _ (by omega),Lx _ (by omega)⟩
theorem ZE (p:Pq):okP (ptQ p)=p.good:=by
 show (Bh (decide (p.x.z<0)) (L p.x.z.natAbs) (L p.x.d) && Bh (decide (p.y.z<0)) (L p.y.z.natAbs) (L p.y.d))=_
 rw [Ic,Ic];rfl
theorem Vg (p:PtD):okP p=(Bh p.x.neg p.x.num p.x.den && Bh p.y.neg p.y.num p.y.den):=rfl
theorem Vh {l:List V2} {p:PtD} (h:AJ l=true) (h2:okP p=true):cpZ l p=Dw l (pqR p):=by unfold cpZ;rw [if_pos ⟨h,h2⟩]
def Em:Con:={ ι:=Int×Int,pre:=λ i=>(-9223372036854775808<=i.1/\i.1<=9223372036854775807)/\-9223372036854775808<=i.2/\i.2<=9223372036854775807,args:=λ i=>[DA.agg [cI i.1,cI i.2]],res:=λ i=>⟨false,[some 6],[rcB (decide ((Fr.ofInt i.1).z<0)),.own 3 [.int] (L (Fr.ofInt i.1).z.natAbs),.own 3 [.int] (L (Fr.ofInt i.1).d),rcB (decide ((Fr.ofInt i.2).z<0)),.own 3 [.int] (L (Fr.ofInt i.2).z.natAbs),.own 3 [.int] (L (Fr.ofInt i.2).d)]⟩ }
theorem SM:Em.Ok Tryz.prog 13:=by
 refine fok (X:=⟨tt,[(46,BI)],[],10,[]⟩) mixed AI (CTok.cons PP (CTok.nil _)) Tryz.func13 (λ _=>[]) ?_
 rintro ⟨x,y⟩ hpre
 have hpre:(-9223372036854775808<=x/\x<=9223372036854775807)/\-9223372036854775808<=y/\y<=9223372036854775807:=hpre
 refine AH (q:=∃ i1:Int,[DA.one (cI x)]=BI.args i1/\BI.pre i1/\(∃ i2:Int,[DA.one (cI y)]=BI.args i2/\BI.pre i2/\((eqD (Fr.ofInt i1) (Fr.ofInt x) ((eqC (Fr.ofInt i2) (Fr.ofInt y))))))) (by kernel_rfl) ?_
 refine ⟨x,by
  rfl,by
  show -9223372036854775808<=x/\x<=9223372036854775807
  first|omega|assumption|exact hpre.1|exact hpre.2|(simp;done),?_⟩
 refine ⟨y,by
  rfl,by
  show -9223372036854775808<=y/\y<=9223372036854775807
  first|omega|assumption|exact hpre.1|exact hpre.2|(simp;done),?_⟩
 exact Gk rfl (CG rfl)
def Eo:Con:={ ι:=Int×Int,pre:=λ i=>(-9223372036854775808<=i.1/\i.1<=9223372036854775807)/\-9223372036854775808<=i.2/\i.2<=9223372036854775807,args:=λ i=>[DA.agg [cI i.1,cI i.2]],res:=λ i=>⟨false,[some 6],[rcB (decide ((Fr.ofInt i.1).z<0)),.own 3 [.int] (L (Fr.ofInt i.1).z.natAbs),.own 3 [.int] (L (Fr.ofInt i.1).d),rcB (decide ((Fr.ofInt i.2).z<0)),.own 3 [.int] (L (Fr.ofInt i.2).z.natAbs),.own 3 [.int] (L (Fr.ofInt i.2).d)]⟩ }
theorem SN:Eo.Ok Tryz.prog 92:=by
 refine fok (X:=⟨tt,[(133,B5)],[],10,[]⟩) mixed AI (CTok.cons Nj (CTok.nil _)) Tryz.func92 (λ _=>[]) ?_
 rintro ⟨x,y⟩ hpre
 have hpre:(-9223372036854775808<=x/\x<=9223372036854775807)/\-9223372036854775808<=y/\y<=9223372036854775807:=hpre
 refine AH (q:=∃ i1:Int,[DA.one (cI x)]=B5.args i1/\B5.pre i1/\(∃ i2:Int,[DA.one (cI y)]=B5.args i2/\B5.pre i2/\((eqD (Fr.ofInt i1) (Fr.ofInt x) ((eqC (Fr.ofInt i2) (Fr.ofInt y))))))) (by kernel_rfl) ?_
 refine ⟨x,by
  rfl,by
  show -9223372036854775808<=x/\x<=9223372036854775807
  first|omega|assumption|exact hpre.1|exact hpre.2|(simp;done),?_⟩
 refine ⟨y,by
  rfl,by
  show -9223372036854775808<=y/\y<=9223372036854775807
  first|omega|assumption|exact hpre.1|exact hpre.2|(simp;done),?_⟩
 exact Gk rfl (CG rfl)
def Id:Con:={ ι:=PtD,pre:=λ i=>i.has,args:=λ i=>[DA.agg [cB i.x.neg,cS i.x.num,cS i.x.den,cB i.y.neg,cS i.y.num,cS i.y.den]],res:=λ i=>⟨false,[none],[rcB (okP i)]⟩ }
theorem ZF:Id.Ok Tryz.prog 86:=by
 refine fok (X:=⟨tt,[(68,Ez)],[],11,[]⟩) mixed AI (CTok.cons Y5 (CTok.nil _)) Tryz.func86 (λ _=>[]) ?_
 intro (p:PtD) hpre
 have hpre:p.has:=hpre
 refine AH (q:=let Z1:=List (List Dat);∃ i1:Bool×Z1×Z1,[DA.agg [cB p.x.neg,cS p.x.num,cS p.x.den]]=Ez.args i1/\Ez.pre i1/\(ifB ((Bh i1.1 i1.2.1 i1.2.2)) (∃ i2:Bool×Z1×Z1,[DA.agg [cB p.y.neg,cS p.y.num,cS p.y.den]]=Ez.args i2/\Ez.pre i2/\((vB (Bh i2.1 i2.2.1 i2.2.2)=vB (okP p)))) ((vB false=vB (okP p))))) (by kernel_rfl) ?_
 conv=>zeta
 delta ifB vB
 refine ⟨(p.x.neg,p.x.num,p.x.den),by
  rfl,by
  exact ⟨hpre.1.1,hpre.1.2,MV hpre.1.1,MV hpre.1.2⟩,?_⟩
 refine And.symm ⟨λ c4=>?_,λ c4=>?_⟩
 ·try simp only [nrm] at c4
  exact congrArg Value.bool (by rw [Vg,c4];first|rfl|(rw [Bool.true_and]))
 try simp only [nrm] at c4
 refine ⟨(p.y.neg,p.y.num,p.y.den),by
  rfl,by
  exact ⟨hpre.2.1,hpre.2.2,MV hpre.2.1,MV hpre.2.2⟩,?_⟩
 exact congrArg Value.bool (by rw [Vg,c4];first|rfl|(rw [Bool.true_and]))
def Gz:Con:={ ι:=PtD,pre:=λ i=>i.has,args:=λ i=>[DA.agg [cB i.x.neg,cS i.x.num,cS i.x.den,cB i.y.neg,cS i.y.num,cS i.y.den]],res:=λ i=>⟨false,[none],[rcB (!(okP i))]⟩ }
theorem W8:Gz.Ok Tryz.prog 85:=by
 refine fok (X:=⟨tt,[(86,Id)],[],6,[]⟩) mixed AI (CTok.cons ZF (CTok.nil _)) Tryz.func85 (λ _=>[]) ?_
 intro (p:PtD) hpre
 have hpre:p.has:=hpre
 refine AH (q:=∃ i1:PtD,[DA.agg [cB p.x.neg,cS p.x.num,cS p.x.den,cB p.y.neg,cS p.y.num,cS p.y.den]]=Id.args i1/\Id.pre i1/\((vB (!(okP i1))=vB (!(okP p))))) (by kernel_rfl) ?_
 delta vB
 refine ⟨p,by
  rfl,by
  exact hpre,?_⟩
 exact rfl
def Ie:Con:={ ι:=(List (List Dat)),pre:=λ i=>i.length<=9223372036854775807/\∀ k,k<i.length->(DK (i.getD k [])).has,args:=λ i=>[.one (DC.sl 42 z41 i),.one (.ro (.fn 85 []))],tag:=86,res:=λ i=>⟨false,[none],[rcI (L9 (λ r=>!(okP (DK r))) i)]⟩ }
theorem ZG:Ie.Ok Tryz.prog 130:=by
 refine fok (X:=⟨tt,[(85,Gz)],[],19,[]⟩) mixed AI (CTok.cons W8 (CTok.nil _)) Tryz.func130 (λ (i:(List (List Dat)))=>[(2,.mk 3 (Nat) (λ x1=>{ tm:=[(0,tX 1),(1,tX 2),(7,tI (nI i.length)),(8,tI (nI x1))],en:=[(1,.view 42 z41 i []),(2,.ro (.fn 85 []) [])] }) (λ x1=>x1<=i.length/\∀ j,j<x1->(λ r=>!(okP (DK r))) (i.getD j [])=false) (λ x1=>i.length-x1) (λ _=>[]))]) ?_
 intro (l:List (List Dat)) hpre
 have hpre:l.length<=9223372036854775807/\∀ k,k<l.length->(DK (l.getD k [])).has:=hpre
 refine AH (q:=let Z3:=(.fn 85 []:RO)=.fn 85 [];let Z2:=L9 (λ r=>!(okP (DK r))) l;(∃ x1:Nat,(x1<=l.length/\∀ j,j<x1->(λ r=>!(okP (DK r))) (l.getD j [])=false)/\((rf (vI (nI l.length)))/\(vI (0:Int)=vI (nI x1))/\(rf (l))/\Z3))/\∀ x1:Nat,let Z1:=l.getD x1 [];(x1<=l.length/\∀ j,j<x1->(λ r=>!(okP (DK r))) (l.getD j [])=false)->(ifB ((decide ((nI x1)<(nI l.length)))) ((0<=(nI x1)/\(nI x1)<(l.length:Int))/\((x1<l.length)/\(∃ i1:PtD,[DA.agg [cB (((Z1.getD 0 (.int 0))).b),cS (((Z1.getD 1 (.int 0))).r),cS (((Z1.getD 2 (.int 0))).r),cB (((Z1.getD 3 (.int 0))).b),cS (((Z1.getD 4 (.int 0))).r),cS (((Z1.getD 5 (.int 0))).r)]]=Gz.args i1/\Gz.pre i1/\(ifB ((!(okP i1))) ((vI (nI x1)=vI Z2)) (∃ y2:Nat,(y2<=l.length/\∀ j,j<y2->(λ r=>!(okP (DK r))) (l.getD j [])=false)/\(l.length-y2<l.length-x1)/\((rf (vI (nI l.length)))/\(vI (wR ((nI x1)+(1:Int)))=vI (nI y2))/\(rf (l))/\Z3)))))) ((vI (-1:Int)=vI Z2)))) (by kernel_rfl) ?_
 conv=>zeta
 delta ifB vI wR nI
 refine ⟨⟨0,by
  exact ⟨Nat.zero_le _,λ j hj=>absurd hj (Nat.not_lt_zero j)⟩,?_⟩,?_⟩
 ·refine ⟨rfl,?_,rfl,?_⟩
  ·rfl
  rfl
 intro (k:Nat) hki1
 have hki1:k<=l.length/\∀ j,j<k->(λ r=>!(okP (DK r))) (l.getD j [])=false:=hki1
 refine And.symm ⟨λ c7=>?_,λ c7=>?_⟩
 ·try simp only [nrm] at c7
  rw [PG (λ j hj=>hki1.2 j (by omega))]
 try simp only [nrm] at c7
 refine ao (by omega) λ o8=>?_
 refine ao (by omega) λ o9=>?_
 refine ⟨(DK (l.getD k [])),by
  rfl,by
  exact hpre.2 k (by omega),?_⟩
 refine ⟨λ c13=>?_,λ c13=>?_⟩
 ·try simp only [nrm] at c13
  rw [VT (k:=k) (by omega) hki1.2 (by show (!(okP (DK (l.getD k []))))=true;rw [c13];rfl)]
 try simp only [nrm] at c13
 refine ⟨k+1,by
  exact ⟨by omega,IT hki1.2 (by show (!(okP (DK (l.getD k []))))=false;rw [c13];rfl)⟩,by
  omega,?_⟩
 refine ⟨rfl,?_,rfl,?_⟩
 ·exact Aa (AB (by omega) (by omega))
 rfl
def G0:Con:={ ι:=(List (List Dat)),pre:=λ i=>i.length<=9223372036854775807/\∀ k,k<i.length->(DK (i.getD k [])).has,args:=λ i=>[.one (DC.sl 42 z41 i),.one (.ro (.fn 85 []))],tag:=86,res:=λ i=>⟨false,[none],[rcB (i.any (λ r=>!(okP (DK r))))]⟩ }
theorem W9:G0.Ok Tryz.prog 84:=by
 refine fok (X:=⟨tt,[(130,Ie)],[],9,[]⟩) mixed AI (CTok.cons ZG (CTok.nil _)) Tryz.func84 (λ _=>[]) ?_
 intro (l:List (List Dat)) hpre
 have hpre:l.length<=9223372036854775807/\∀ k,k<l.length->(DK (l.getD k [])).has:=hpre
 refine AH (q:=∃ i1:(List (List Dat)),[DA.one (DC.sl 42 z41 l),DA.one (DC.ro (.fn 85 []))]=Ie.args i1/\Ie.pre i1/\((vB (decide ((L9 (λ r=>!(okP (DK r))) i1)≥(0:Int)))=vB (l.any (λ r=>!(okP (DK r))))))) (by kernel_rfl) ?_
 delta vB
 refine ⟨l,by
  rfl,by
  exact hpre,?_⟩
 exact congrArg Value.bool (R4 _ _)
def Aw:Con:={ ι:=(List (List Dat)),pre:=λ i=>i.length<=9223372036854775807/\∀ k,k<i.length->(DK (i.getD k [])).has,args:=λ i=>[.one (DC.sl 42 z41 i)],res:=λ i=>⟨false,[none],[rcB (!(i.any (λ r=>!(okP (DK r)))))]⟩ }
theorem G1:Aw.Ok Tryz.prog 43:=by
 refine fok (X:=⟨tt,[(84,G0)],[],6,[]⟩) mixed AI (CTok.cons W9 (CTok.nil _)) Tryz.func43 (λ _=>[]) ?_
 intro (l:List (List Dat)) hpre
 have hpre:l.length<=9223372036854775807/\∀ k,k<l.length->(DK (l.getD k [])).has:=hpre
 refine AH (q:=∃ i1:(List (List Dat)),[DA.one (DC.sl 42 z41 l),DA.one (DC.ro (.fn 85 []))]=G0.args i1/\G0.pre i1/\((vB (!(i1.any (λ r=>!(okP (DK r)))))=vB (!(l.any (λ r=>!(okP (DK r)))))))) (by kernel_rfl) ?_
 delta vB
 refine ⟨l,by
  rfl,by
  exact hpre,?_⟩
 exact rfl
def CS:Con:={ ι:=Pq×Pq×Pq,pre:=λ i=>True,args:=λ i=>[dP i.1,dP i.2.1,dP i.2.2],res:=λ i=>⟨false,[none],[rcI (CE i.1 i.2.1 i.2.2)]⟩ }
theorem Vi:CS.Ok Tryz.prog 132:=by
 refine fok (X:=⟨tt,[(142,Bi),(60,Cd),(163,Ff)],[],35,[]⟩) mixed AI (CTok.cons Wy (CTok.cons PR (CTok.cons UJ (CTok.nil _)))) Tryz.func132 (λ _=>[]) ?_
 rintro ⟨p,q,r⟩ hpre
 have hpre:True:=hpre
 refine AH (q:=∃ i1:Fr×Fr,[dF q.x,dF p.x]=Bi.args i1/\Bi.pre i1/\(∃ i2:Fr×Fr,[dF r.y,dF p.y]=Bi.args i2/\Bi.pre i2/\(∃ i3:Fr×Fr,[dF (Fr.sub i1.1 i1.2),dF (Fr.sub i2.1 i2.2)]=Cd.args i3/\Cd.pre i3/\(∃ i4:Fr×Fr,[dF q.y,dF p.y]=Bi.args i4/\Bi.pre i4/\(∃ i5:Fr×Fr,[dF r.x,dF p.x]=Bi.args i5/\Bi.pre i5/\(∃ i6:Fr×Fr,[dF (Fr.sub i4.1 i4.2),dF (Fr.sub i5.1 i5.2)]=Cd.args i6/\Cd.pre i6/\(∃ i7:Fr×Fr,[dF (Fr.mul i3.1 i3.2),dF (Fr.mul i6.1 i6.2)]=Bi.args i7/\Bi.pre i7/\(∃ i8:Fr,[dF (Fr.sub i7.1 i7.2)]=Ff.args i8/\Ff.pre i8/\((vI i8.sgn=vI (CE p q r))))))))))) (by kernel_rfl) ?_
 delta vI
 refine ⟨(q.x,p.x),by
  rfl,by
  trivial,?_⟩
 refine ⟨(r.y,p.y),by
  rfl,by
  trivial,?_⟩
 refine ⟨((Fr.sub q.x p.x),(Fr.sub r.y p.y)),by
  rfl,by
  trivial,?_⟩
 refine ⟨(q.y,p.y),by
  rfl,by
  trivial,?_⟩
 refine ⟨(r.x,p.x),by
  rfl,by
  trivial,?_⟩
 refine ⟨((Fr.sub q.y p.y),(Fr.sub r.x p.x)),by
  rfl,by
  trivial,?_⟩
 refine ⟨((Fr.mul (Fr.sub q.x p.x) (Fr.sub r.y p.y)),(Fr.mul (Fr.sub q.y p.y) (Fr.sub r.x p.x))),by
  rfl,by
  trivial,?_⟩
 refine ⟨(Fr.sub (Fr.mul (Fr.sub q.x p.x) (Fr.sub r.y p.y)) (Fr.mul (Fr.sub q.y p.y) (Fr.sub r.x p.x))),by
  rfl,by
  trivial,?_⟩
 rfl
def Cf:Con:={ ι:=(List V2),pre:=λ i=>i.all AF=true/\i.length<=1048576,args:=λ i=>[.one (DC.sl 24 [.int,.int] (AA i))],res:=λ i=>⟨false,[none],[.own 42 [.bool,.sl 3 [.int],.sl 3 [.int],.bool,.sl 3 [.int],.sl 3 [.int]] (CD i)]⟩ }
theorem L0:Cf.Ok Tryz.prog 131:=by
 refine fok (X:=⟨tt,[(13,Em)],[],20,[]⟩) mixed AI (CTok.cons SM (CTok.nil _)) Tryz.func131 (λ (i:(List V2))=>[(3,.mk 3 (Nat) (λ x1=>{ tm:=[(7,tX 1),(8,tI (nI ((AA i).length))),(9,tI (nI x1)),(3,tX 2)],en:=[(1,.view 24 [.int,.int] (AA i) []),(2,.own 42 z41 (CD (i.take x1)))] }) (λ x1=>x1<=i.length) (λ x1=>i.length-x1) (λ _=>[]))]) ?_
 intro (l:List V2) hpre
 have hpre:l.all AF=true/\l.length<=1048576:=hpre
 refine AH (q:=let Z3:=nI ((AA l).length);(∃ x1:Nat,(x1<=l.length)/\((rf (vI Z3))/\(vI (0:Int)=vI (nI x1))/\(rf (AA l))/\(([]:List (List Dat))=(CD (l.take x1)))))/\∀ x1:Nat,let Z4:=CD (l.take x1);(x1<=l.length)->(ifB ((decide ((nI x1)<Z3))) ((0<=(nI x1)/\(nI x1)<((AA l).length:Int))/\((x1<(AA l).length)/\(∃ i1:Int×Int,let Z2:=Fr.ofInt i1.2;let Z1:=Fr.ofInt i1.1;[DA.agg [cI (((((AA l).getD x1 []).getD 0 (.int 0))).n),cI (((((AA l).getD x1 []).getD 1 (.int 0))).n)]]=Em.args i1/\Em.pre i1/\((Z4.length+([[Dat.bool (decide (Z1.z<0)),Dat.sl (L Z1.z.natAbs),Dat.sl (L Z1.d),Dat.bool (decide (Z2.z<0)),Dat.sl (L Z2.z.natAbs),Dat.sl (L Z2.d)]]:List (List Dat)).length<=1073741824)/\(∃ y2:Nat,(y2<=l.length)/\(l.length-y2<l.length-x1)/\((rf (vI Z3))/\(vI (wR ((nI x1)+(1:Int)))=vI (nI y2))/\(rf (AA l))/\((Z4++([[Dat.bool (decide (Z1.z<0)),Dat.sl (L Z1.z.natAbs),Dat.sl (L Z1.d),Dat.bool (decide (Z2.z<0)),Dat.sl (L Z2.z.natAbs),Dat.sl (L Z2.d)]]:List (List Dat)))=(CD (l.take y2))))))))) ((Z4=CD l)))) (by kernel_rfl) ?_
 conv=>zeta
 delta ifB vI wR nI
 have hvl:=AC l
 have hpl:=Jz l
 refine ⟨⟨0,by
  omega,?_⟩,?_⟩
 ·refine ⟨rfl,?_,rfl,?_⟩
  ·rfl
  rfl
 intro (k:Nat) hki1
 have hki1:k<=l.length:=hki1
 refine And.symm ⟨λ c7=>?_,λ c7=>?_⟩
 ·try simp only [nrm] at c7
  rw [show k=l.length by omega,List.take_length]
 try simp only [nrm] at c7
 refine ao (by omega) λ o8=>?_
 refine ao (by omega) λ o9=>?_
 refine ⟨((l.getD k (0,0)).1,(l.getD k (0,0)).2),by
  rw [BD (by omega),BE (by omega)];rfl,by
  exact ABE hpre.1 (by omega),?_⟩
 refine ao (a:=(CD (l.take k)).length+([[Dat.bool (decide ((Fr.ofInt ((l.getD k (0,0)).1)).z<0)),Dat.sl (L (Fr.ofInt ((l.getD k (0,0)).1)).z.natAbs),Dat.sl (L (Fr.ofInt ((l.getD k (0,0)).1)).d),Dat.bool (decide ((Fr.ofInt ((l.getD k (0,0)).2)).z<0)),Dat.sl (L (Fr.ofInt ((l.getD k (0,0)).2)).z.natAbs),Dat.sl (L (Fr.ofInt ((l.getD k (0,0)).2)).d)]]:List (List Dat)).length<=1073741824) (by simp only [Jz,List.length_take,List.length_cons,List.length_nil];omega) λ o13=>?_
 refine ⟨k+1,by
  omega,by
  omega,?_⟩
 refine ⟨rfl,?_,rfl,?_⟩
 ·exact Aa (AB (by omega) (by omega))
 exact W7 (by omega)
def Bm:Con:={ ι:=(List V2)×Pq,pre:=λ i=>i.1.all AF=true/\0<i.1.length/\i.1.length<=16,args:=λ i=>[.one (DC.sl 24 [.int,.int] (AA i.1)),dP i.2],res:=λ i=>⟨false,[none],[rcI (Dw i.1 i.2)]⟩ }
theorem L1:Bm.Ok Tryz.prog 89:=by
 refine fok (X:=⟨tt,[(131,Cf),(132,CS)],[],33,[]⟩) mixed AI (CTok.cons L0 (CTok.cons Vi (CTok.nil _))) Tryz.func89 (λ (i:(List V2)×Pq)=>[(4,.mk 7 (Nat) (λ x1=>{ tm:=[(3,tP 1 0),(11,tX 6),(12,tI (nI ((CD i.1).length))),(13,tI (nI x1)),(6,tI (MB i.1 i.2 x1)),(5,tX 6)],en:=[(1,.box [kB (decide (i.2.x.z<0)),.ext 2,.ext 3,kB (decide (i.2.y.z<0)),.ext 4,.ext 5]),(2,eV (L i.2.x.z.natAbs)),(3,eV (L i.2.x.d)),(4,eV (L i.2.y.z.natAbs)),(5,eV (L i.2.y.d)),(6,.own 42 z41 (CD i.1))] }) (λ x1=>x1<=i.1.length) (λ x1=>i.1.length-x1) (λ _=>[]))]) ?_
 rintro ⟨l,p⟩ hpre
 have hpre:l.all AF=true/\0<l.length/\l.length<=16:=hpre
 refine AH (q:=let Z7:=vB (decide (p.y.z<0));let Z6:=vB (decide (p.x.z<0));let Z4:=nI ((CD l).length);∃ i1:(List V2),[DA.one (DC.sl 24 [.int,.int] (AA l))]=Cf.args i1/\Cf.pre i1/\((∃ x1:Nat,(x1<=l.length)/\((vI (nI ((CD i1).length))=vI Z4)/\(vI (0:Int)=vI (nI x1))/\(vI (1:Int)=vI (MB l p x1))/\(rf Z6)/\(rf Z7)/\(rf (L p.x.z.natAbs))/\(rf (L p.x.d))/\(rf (L p.y.z.natAbs))/\(rf (L p.y.d))/\(CD i1=(CD l))))/\∀ x1:Nat,let Z5:=wR ((nI x1)+(1:Int));let Z3:=(CD l).getD x1 [];let Z1:=Int.tmod Z5 Z4;let Z2:=(CD l).getD (Z1.toNat) [];(x1<=l.length)->(ifB ((decide ((nI x1)<Z4))) ((0<=(nI x1)/\(nI x1)<((CD l).length:Int))/\((x1<(CD l).length)/\((Z4≠0)/\((0<=Z1/\Z1<((CD l).length:Int))/\((Z1.toNat<(CD l).length)/\(∃ i2:Pq×Pq×Pq,[DA.agg [cB (((Z3.getD 0 (.int 0))).b),cS (((Z3.getD 1 (.int 0))).r),cS (((Z3.getD 2 (.int 0))).r),cB (((Z3.getD 3 (.int 0))).b),cS (((Z3.getD 4 (.int 0))).r),cS (((Z3.getD 5 (.int 0))).r)],DA.agg [cB (((Z2.getD 0 (.int 0))).b),cS (((Z2.getD 1 (.int 0))).r),cS (((Z2.getD 2 (.int 0))).r),cB (((Z2.getD 3 (.int 0))).b),cS (((Z2.getD 4 (.int 0))).r),cS (((Z2.getD 5 (.int 0))).r)],dP p]=CS.args i2/\CS.pre i2/\(∃ y2:Nat,(y2<=l.length)/\(l.length-y2<l.length-x1)/\((rf (vI Z4))/\(vI Z5=vI (nI y2))/\(vI (min (MB l p x1) (CE i2.1 i2.2.1 i2.2.2))=vI (MB l p y2))/\(rf Z6)/\(rf Z7)/\(rf (L p.x.z.natAbs))/\(rf (L p.x.d))/\(rf (L p.y.z.natAbs))/\(rf (L p.y.d))/\(rf (CD l)))))))))) ((vI (MB l p x1)=vI (Dw l p)))))) (by kernel_rfl) ?_
 conv=>zeta
 delta ifB vB vI wR nI
 have hvl:=AC l
 have hpl:=Jz l
 refine ⟨l,by
  rfl,by
  exact ⟨hpre.1,by omega⟩,?_⟩
 refine ⟨⟨0,by
  omega,?_⟩,?_⟩
 ·refine ⟨rfl,?_,?_,rfl,rfl,rfl,rfl,rfl,rfl,rfl⟩
  ·rfl
  rfl
 intro (k:Nat) hki4
 have hki4:k<=l.length:=hki4
 refine And.symm ⟨λ c16=>?_,λ c16=>?_⟩
 ·try simp only [nrm] at c16
  rw [show k=l.length by omega];rfl
 try simp only [nrm] at c16
 have hkl:k<l.length:=by omega
 have m2:(k+1)%l.length<l.length:=(GN hkl (by omega)).2.1
 have m1:(Int.tmod (IntKind.i64.wrap (((k:Nat):Int)+(1:Int))) (((CD l).length:Nat):Int)).toNat=(k+1)%l.length:=by rw [hpl];exact (GN hkl (by omega)).1
 have m3:Int.tmod (IntKind.i64.wrap (((k:Nat):Int)+(1:Int))) (((CD l).length:Nat):Int)=(((k+1)%l.length:Nat):Int):=by rw [hpl];exact (GN hkl (by omega)).2.2
 refine ao (by omega) λ o17=>?_
 refine ao (by omega) λ o18=>?_
 refine ao (by omega) λ o19=>?_
 refine ao (by omega) λ o20=>?_
 refine ao (by omega) λ o21=>?_
 refine ⟨(Gy l k,Gy l ((k+1)%l.length),p),by
  rw [m1,MW hkl,MW m2];rfl,by
  trivial,?_⟩
 refine ⟨k+1,by
  trivial,by
  omega,?_⟩
 refine ⟨rfl,?_,?_,rfl,rfl,rfl,rfl,rfl,rfl,rfl⟩
 ·exact Aa (AB (by omega) (by omega))
 rfl
end Go.Proofs.YtkffpiaagjcmpaaGreat
