import Derived.Test.YtmedodfenejimaaGreatTpRkE
import Derived.Test.YtmedodfenejimaaGreatTpScW
namespace Go.Proofs.YtmedodfenejimaaGreat
set_option maxRecDepth 100000
set_option linter.unusedVariables false
set_option linter.unusedSimpArgs false
open Go.RowKit
def Hx:Con:={ ι:=Int×Int,pre:=λ i=>True,args:=λ i=>[DA.agg [cI i.1,cI i.2]],res:=λ i=>⟨false,[none],[rcB (A2 (i.1,i.2))]⟩ }
theorem Vm:Hx.Ok Tryz.prog 187:=FO rfl ⟨_,Tryz.func187,by decide,rfl⟩ (λ _=>Nat.le_of_ble_eq_true rfl) (λ _=>rfl) (λ i=>[.im (.bool (A2 (i.1,i.2)))]) (λ _=>rfl) (λ _=>rfl) (λ i hp w us h=>by
 obtain ⟨x,y⟩:=i
 have h:RdRow w [.int,.int] [.int x,.int y] us:=h
 obtain ⟨a,_,rfl,q1,h⟩:=RdRow.cons2 h
 obtain ⟨b,_,rfl,q2,h⟩:=RdRow.cons2 h
 obtain ⟨-,rfl⟩:=RdRow.nil_inv h
 obtain rfl:=Rd.int2 q1
 obtain rfl:=Rd.int2 q2
 refine (Uc x y w).mono ?_
 rintro e w' ⟨rfl,hb⟩
 exact ⟨[Value.bool (A2 (x,y))],rfl,Own.leaf (Fp.mk_bool _),hb⟩)
def Hy:Con:={ ι:=Int×Int,pre:=λ i=>True,args:=λ i=>[DA.agg [cI i.1,cI i.2]],res:=λ i=>⟨false,[none],[rcB (A2 (i.1,i.2))]⟩ }
theorem Vn:Hy.Ok Tryz.prog 135:=FO rfl ⟨_,Tryz.func135,by decide,rfl⟩ (λ _=>Nat.le_of_ble_eq_true rfl) (λ _=>rfl) (λ i=>[.im (.bool (A2 (i.1,i.2)))]) (λ _=>rfl) (λ _=>rfl) (λ i hp w us h=>by
 obtain ⟨x,y⟩:=i
 have h:RdRow w [.int,.int] [.int x,.int y] us:=h
 obtain ⟨a,_,rfl,q1,h⟩:=RdRow.cons2 h
 obtain ⟨b,_,rfl,q2,h⟩:=RdRow.cons2 h
 obtain ⟨-,rfl⟩:=RdRow.nil_inv h
 obtain rfl:=Rd.int2 q1
 obtain rfl:=Rd.int2 q2
 refine (CF x y w).mono ?_
 rintro e w' ⟨rfl,hb⟩
 exact ⟨[Value.bool (A2 (x,y))],rfl,Own.leaf (Fp.mk_bool _),hb⟩)
def C5:Con:={ ι:=(List V2),pre:=λ i=>True,args:=λ i=>[.one (DC.sl 39 [.int,.int] (AJ i))],res:=λ i=>⟨false,[none],[rcB (BA i)]⟩ }
theorem Nr:C5.Ok Tryz.prog 150:=FO rfl ⟨_,Tryz.func150,by decide,rfl⟩ (λ _=>Nat.le_of_ble_eq_true rfl) (λ _=>rfl) (λ l=>[.im (.bool (BA l))]) (λ _=>rfl) (λ _=>rfl) (λ i hp w us h=>by
 have h:RdRow w [.sl 39 [.int,.int]] [.sl (AJ i)] us:=h
 obtain ⟨v,vs,rfl,h1,h2⟩:=RdRow.cons2 h
 obtain ⟨-,rfl⟩:=RdRow.nil_inv h2
 refine (Ir i v w (Rd.vecs h1)).mono ?_
 rintro e w' ⟨rfl,hb⟩
 exact ⟨[Value.bool (BA i)],rfl,Own.leaf (Fp.mk_bool _),hb⟩)
def Bu:Con:={ ι:=(List V2),pre:=λ i=>True,args:=λ i=>[.one (DC.sl 39 [.int,.int] (AJ i))],res:=λ i=>⟨false,[none],[rcB (BA i)]⟩ }
theorem J0:Bu.Ok Tryz.prog 89:=FO rfl ⟨_,Tryz.func89,by decide,rfl⟩ (λ _=>Nat.le_of_ble_eq_true rfl) (λ _=>rfl) (λ l=>[.im (.bool (BA l))]) (λ _=>rfl) (λ _=>rfl) (λ i hp w us h=>by
 have h:RdRow w [.sl 39 [.int,.int]] [.sl (AJ i)] us:=h
 obtain ⟨v,vs,rfl,h1,h2⟩:=RdRow.cons2 h
 obtain ⟨-,rfl⟩:=RdRow.nil_inv h2
 refine (FG i v w (Rd.vecs h1)).mono ?_
 rintro e w' ⟨rfl,hb⟩
 exact ⟨[Value.bool (BA i)],rfl,Own.leaf (Fp.mk_bool _),hb⟩)
theorem EW {l:List V2} (h:BA l=true):3<=l.length/\l.length<=16/\l.all A2=true:=by
 simp only [BA,Bool.and_eq_true,L7] at h
 exact ⟨by omega,by omega,h.1.2⟩
def frR (r:RatD):Fr:=Fr.mk' (zOf r.neg (RM r.num)) (RM r.den)
def okR (r:RatD):Bool:=Ap r.neg r.num r.den
def okP (p:PtD):Bool:=okR p.x && okR p.y
def pqR (p:PtD):Pq:=⟨frR p.x,frR p.y⟩
def RatD.has (r:RatD):Prop:=Dat.has (.sl 3 [.int]) (.sl r.num)/\Dat.has (.sl 3 [.int]) (.sl r.den)
def PtD.has (p:PtD):Prop:=p.x.has/\p.y.has
theorem Yf {r:Fr} (h:r.d≠0):Fr.mk' r.z r.d=r:=by
 obtain ⟨q,hq,e1,e2⟩:=Fr.some_d h
 rw [e1,e2]
 unfold Fr.mk'
 rw [Rat.mkRat_self]
 exact (Fr.of_some hq).symm
theorem TB {r:RatD} (hh:r.has) (h:okR r=true):r.neg=decide ((frR r).z<0)/\r.num=L (frR r).z.natAbs/\r.den=L (frR r).d/\(frR r).d≠0:=by
 obtain ⟨s,hd,e1,e2,e3⟩:=Sv hh.1 hh.2 h
 rw [Fr.neg_z] at e1
 rw [Fr.num_z] at e2
 rw [Fr.den_d] at e3
 have:frR r=s:=by
  unfold frR
  rw [e1,e2,e3,Ez,Ez,Fg,Yf hd]
 rw [this]
 exact ⟨e1,e2,e3,hd⟩
theorem RY {p:PtD} (h:okP p=true):okR p.x=true/\okR p.y=true:=by
 unfold okP at h;rwa [Bool.and_eq_true] at h
theorem TC {p:PtD} (hh:p.has) (h:okP p=true):p.x.neg=decide ((pqR p).x.z<0)/\p.x.num=L (pqR p).x.z.natAbs/\p.x.den=L (pqR p).x.d/\p.y.neg=decide ((pqR p).y.z<0)/\p.y.num=L (pqR p).y.z.natAbs/\p.y.den=L (pqR p).y.d/\(pqR p).x.d≠0/\(pqR p).y.d≠0:=by
 obtain ⟨a1,a2,a3,a4⟩:=TB hh.1 (RY h).1
 obtain ⟨b1,b2,b3,b4⟩:=TB hh.2 (RY h).2
 exact ⟨a1,a2,a3,b1,b2,b3,a4,b4⟩
def ED (r:List Dat):PtD:=⟨⟨(r.getD 0 (.int 0)).b,(r.getD 1 (.int 0)).r,(r.getD 2 (.int 0)).r⟩,⟨(r.getD 3 (.int 0)).b,(r.getD 4 (.int 0)).r,(r.getD 5 (.int 0)).r⟩⟩
def ptD (p:PtD):List Dat:=[.bool p.x.neg,.sl p.x.num,.sl p.x.den,.bool p.y.neg,.sl p.y.num,.sl p.y.den]
theorem Yg (p:PtD):([ptD p].any λ r=>!(okP (ED r)))=!(okP p):=by
 show (!(okP p) || false)=_;rw [Bool.or_false]
theorem AC {m:List (List Dat)} (h:Dat.has (.sl 3 [.int]) (.sl m)):m.length<=9223372036854775807:=Cr h
def ptV (v:V2):Pq:=⟨Fr.ofInt v.1,Fr.ofInt v.2⟩
def Xa (p:Pq):List Dat:=[.bool (decide (p.x.z<0)),.sl (L p.x.z.natAbs),.sl (L p.x.d),.bool (decide (p.y.z<0)),.sl (L p.y.z.natAbs),.sl (L p.y.d)]
def B6 (l:List V2):List (List Dat):=l.map λ v=>Xa (ptV v)
def Cm (l:List V2) (k:Nat):Pq:=ptV (l.getD k (0,0))
theorem DQ (l:List V2):(B6 l).length=l.length:=by simp [B6]
theorem JR {l:List V2} {k:Nat} (h:k<l.length):(B6 l).getD k []=Xa (Cm l k):=by
 simp [B6,List.getD,h,Cm]
theorem Vo {l:List V2} {k:Nat} (h:k<l.length):B6 (l.take k)++[Xa (Cm l k)]=B6 (l.take (k+1)):=by
 rw [G9 l (0,0) k h];simp [B6,Cm]
def Fk (p q r:Pq):Int:=(Fr.sub (Fr.mul (Fr.sub q.x p.x) (Fr.sub r.y p.y)) (Fr.mul (Fr.sub q.y p.y) (Fr.sub r.x p.x))).sgn
def L5 (l:List V2) (p:Pq):Nat->Int
 | 0=>1
 | k+1=>min (L5 l p k) (Fk (Cm l k) (Cm l ((k+1)%l.length)) p)
def RZ (l:List V2) (p:Pq):Int:=L5 l p l.length
def cpZ (l:List V2) (p:PtD):Int:=if BA l=true/\okP p=true then RZ l (pqR p) else -1
theorem F7 {l:List V2} (h:l.all A2=true) {k:Nat} (hk:k<l.length):(-9223372036854775808<=(l.getD k (0,0)).1/\(l.getD k (0,0)).1<=9223372036854775807)/\-9223372036854775808<=(l.getD k (0,0)).2/\(l.getD k (0,0)).2<=9223372036854775807:=by
 have:=Dw h hk
 have:=Cg this
 omega
theorem EE {k n:Nat} (hk:k<n) (hn:n<=1048576):(Int.tmod (IntKind.i64.wrap (((k:Nat):Int)+(1:Int))) ((n:Nat):Int)).toNat=(k+1)%n/\(k+1)%n<n/\Int.tmod (IntKind.i64.wrap (((k:Nat):Int)+(1:Int))) ((n:Nat):Int)=(((k+1)%n:Nat):Int):=by
 have e:Int.tmod (IntKind.i64.wrap (((k:Nat):Int)+(1:Int))) ((n:Nat):Int)=(((k+1)%n:Nat):Int):=by
  rw [AD (by omega) (by omega),show ((k:Nat):Int)+1=((k+1:Nat):Int) by omega,XF]
 refine ⟨by rw [e];omega,Nat.mod_lt _ (by omega),e⟩
theorem Pp {p:PtD} (h:p.has):∀ k,k < [ptD p].length->(ED ([ptD p].getD k [])).has:=λ k hk=>by
 obtain rfl:k=0:=by simp only [List.length_cons,List.length_nil] at hk;omega
 exact h
def ptQ (p:Pq):PtD:=⟨⟨decide (p.x.z<0),L p.x.z.natAbs,L p.x.d⟩,⟨decide (p.y.z<0),L p.y.z.natAbs,L p.y.d⟩⟩
theorem Hz (p:Pq):(ptQ p).has:=by
 have h1:=p.x.nlz
 have h2:=p.x.nld
 have h3:=p.y.nlz
 have h4:=p.y.nld
 exact ⟨⟨Be _ (by omega),Be _ (by omega)⟩,Be _ (by omega),Be _ (by omega)⟩
theorem Pr (p:Pq):okP (ptQ p)=p.good:=by
 show (Ap (decide (p.x.z<0)) (L p.x.z.natAbs) (L p.x.d) && Ap (decide (p.y.z<0)) (L p.y.z.natAbs) (L p.y.d))=_
 rw [BN,BN];rfl
theorem MM (p:PtD):okP p=(Ap p.x.neg p.x.num p.x.den && Ap p.y.neg p.y.num p.y.den):=rfl
theorem Yh {l:List V2} {p:PtD} (h:BA l=false):cpZ l p=-1:=by unfold cpZ;rw [if_neg (by rw [h];simp)]
theorem Yi {l:List V2} {p:PtD} (h:okP p=false):cpZ l p=-1:=by unfold cpZ;rw [if_neg (by rw [h];simp)]
theorem Ud {l:List V2} {p:PtD} (h:BA l=true) (h2:okP p=true):cpZ l p=RZ l (pqR p):=by unfold cpZ;rw [if_pos ⟨h,h2⟩]
def BY:Con:={ ι:=Int×Int,pre:=λ i=>(-9223372036854775808<=i.1/\i.1<=9223372036854775807)/\-9223372036854775808<=i.2/\i.2<=9223372036854775807,args:=λ i=>[DA.agg [cI i.1,cI i.2]],res:=λ i=>⟨false,[some 6],[rcB (decide ((Fr.ofInt i.1).z<0)),.own 3 [.int] (L (Fr.ofInt i.1).z.natAbs),.own 3 [.int] (L (Fr.ofInt i.1).d),rcB (decide ((Fr.ofInt i.2).z<0)),.own 3 [.int] (L (Fr.ofInt i.2).z.natAbs),.own 3 [.int] (L (Fr.ofInt i.2).d)]⟩ }
theorem It:BY.Ok Tryz.prog 70:=by
 refine fok (X:=⟨tt,[(129,BG)],[],10,[]⟩) AI AF (CTok.cons JK (CTok.nil _)) Tryz.func70 (λ _=>[]) ?_
 rintro ⟨x,y⟩ hpre
 have hpre:(-9223372036854775808<=x/\x<=9223372036854775807)/\-9223372036854775808<=y/\y<=9223372036854775807:=hpre
 refine AH (q:=∃ i1:Int,[DA.one (cI x)]=BG.args i1/\BG.pre i1/\(∃ i2:Int,[DA.one (cI y)]=BG.args i2/\BG.pre i2/\((eqD (Fr.ofInt i1) (Fr.ofInt x) ((eqC (Fr.ofInt i2) (Fr.ofInt y))))))) (by kernel_rfl) ?_
 refine ⟨x,by
  rfl,by
  show -9223372036854775808<=x/\x<=9223372036854775807
  first|omega|assumption|exact hpre.1|exact hpre.2|(simp;done),?_⟩
 refine ⟨y,by
  rfl,by
  show -9223372036854775808<=y/\y<=9223372036854775807
  first|omega|assumption|exact hpre.1|exact hpre.2|(simp;done),?_⟩
 exact XR rfl (BT rfl)
def AZ:Con:={ ι:=Int×Int,pre:=λ i=>(-9223372036854775808<=i.1/\i.1<=9223372036854775807)/\-9223372036854775808<=i.2/\i.2<=9223372036854775807,args:=λ i=>[DA.agg [cI i.1,cI i.2]],res:=λ i=>⟨false,[some 6],[rcB (decide ((Fr.ofInt i.1).z<0)),.own 3 [.int] (L (Fr.ofInt i.1).z.natAbs),.own 3 [.int] (L (Fr.ofInt i.1).d),rcB (decide ((Fr.ofInt i.2).z<0)),.own 3 [.int] (L (Fr.ofInt i.2).z.natAbs),.own 3 [.int] (L (Fr.ofInt i.2).d)]⟩ }
theorem F8:AZ.Ok Tryz.prog 59:=by
 refine fok (X:=⟨tt,[(90,Af)],[],10,[]⟩) AI AF (CTok.cons EC (CTok.nil _)) Tryz.func59 (λ _=>[]) ?_
 rintro ⟨x,y⟩ hpre
 have hpre:(-9223372036854775808<=x/\x<=9223372036854775807)/\-9223372036854775808<=y/\y<=9223372036854775807:=hpre
 refine AH (q:=∃ i1:Int,[DA.one (cI x)]=Af.args i1/\Af.pre i1/\(∃ i2:Int,[DA.one (cI y)]=Af.args i2/\Af.pre i2/\((eqD (Fr.ofInt i1) (Fr.ofInt x) ((eqC (Fr.ofInt i2) (Fr.ofInt y))))))) (by kernel_rfl) ?_
 refine ⟨x,by
  rfl,by
  show -9223372036854775808<=x/\x<=9223372036854775807
  first|omega|assumption|exact hpre.1|exact hpre.2|(simp;done),?_⟩
 refine ⟨y,by
  rfl,by
  show -9223372036854775808<=y/\y<=9223372036854775807
  first|omega|assumption|exact hpre.1|exact hpre.2|(simp;done),?_⟩
 exact XR rfl (BT rfl)
def JS:Con:={ ι:=PtD,pre:=λ i=>i.has,args:=λ i=>[DA.agg [cB i.x.neg,cS i.x.num,cS i.x.den,cB i.y.neg,cS i.y.num,cS i.y.den]],res:=λ i=>⟨false,[none],[rcB (okP i)]⟩ }
theorem Xb:JS.Ok Tryz.prog 280:=by
 refine fok (X:=⟨tt,[(327,DG)],[],11,[]⟩) AI AF (CTok.cons RR (CTok.nil _)) Tryz.func280 (λ _=>[]) ?_
 intro (p:PtD) hpre
 have hpre:p.has:=hpre
 refine AH (q:=let Z1:=List (List Dat);∃ i1:Bool×Z1×Z1,[DA.agg [cB p.x.neg,cS p.x.num,cS p.x.den]]=DG.args i1/\DG.pre i1/\(ifB ((Ap i1.1 i1.2.1 i1.2.2)) (∃ i2:Bool×Z1×Z1,[DA.agg [cB p.y.neg,cS p.y.num,cS p.y.den]]=DG.args i2/\DG.pre i2/\((vB (Ap i2.1 i2.2.1 i2.2.2)=vB (okP p)))) ((vB false=vB (okP p))))) (by kernel_rfl) ?_
 conv=>zeta
 delta ifB vB
 refine ⟨(p.x.neg,p.x.num,p.x.den),by
  rfl,by
  exact ⟨hpre.1.1,hpre.1.2,AC hpre.1.1,AC hpre.1.2⟩,?_⟩
 refine And.symm ⟨λ c4=>?_,λ c4=>?_⟩
 ·try simp only [nrm] at c4
  exact congrArg Value.bool (by rw [MM,c4];first|rfl|(rw [Bool.true_and]))
 try simp only [nrm] at c4
 refine ⟨(p.y.neg,p.y.num,p.y.den),by
  rfl,by
  exact ⟨hpre.2.1,hpre.2.2,AC hpre.2.1,AC hpre.2.2⟩,?_⟩
 exact congrArg Value.bool (by rw [MM,c4];first|rfl|(rw [Bool.true_and]))
def Bw:Con:={ ι:=PtD×Bool,pre:=λ i=>i.1.has/\okP i.1=i.2,args:=λ i=>[DA.agg [cB i.1.x.neg,cS i.1.x.num,cS i.1.x.den,cB i.1.y.neg,cS i.1.y.num,cS i.1.y.den]],res:=λ i=>⟨false,[none],[rcB i.2]⟩ }
theorem KZ:Bw.Ok Tryz.prog 238:=by
 refine fok (X:=⟨tt,[(146,AB)],[],11,[]⟩) AI AF (CTok.cons CC (CTok.nil _)) Tryz.func238 (λ _=>[]) ?_
 rintro ⟨p,b⟩ hpre
 have hpre:p.has/\okP p=b:=hpre
 refine AH (q:=let Z1:=List (List Dat);∃ i1:Bool×Z1×Z1×Bool,[DA.agg [cB p.x.neg,cS p.x.num,cS p.x.den]]=AB.args i1/\AB.pre i1/\(ifB (i1.2.2.2) (∃ i2:Bool×Z1×Z1×Bool,[DA.agg [cB p.y.neg,cS p.y.num,cS p.y.den]]=AB.args i2/\AB.pre i2/\((vB i2.2.2.2=vB b))) ((vB false=vB b)))) (by kernel_rfl) ?_
 conv=>zeta
 delta ifB vB
 refine ⟨(p.x.neg,p.x.num,p.x.den,(Ap p.x.neg p.x.num p.x.den)),by
  rfl,by
  try dsimp only [AB]
  exact ⟨hpre.1.1.1,hpre.1.1.2,AC hpre.1.1.1,AC hpre.1.1.2,rfl⟩,?_⟩
 refine And.symm ⟨λ c4=>?_,λ c4=>?_⟩
 ·try simp only [nrm] at c4
  rw [← hpre.2]
  exact congrArg Value.bool (by rw [MM,c4];first|rfl|(rw [Bool.true_and]))
 try simp only [nrm] at c4
 refine ⟨(p.y.neg,p.y.num,p.y.den,(Ap p.y.neg p.y.num p.y.den)),by
  rfl,by
  try dsimp only [AB]
  exact ⟨hpre.1.2.1,hpre.1.2.2,AC hpre.1.2.1,AC hpre.1.2.2,rfl⟩,?_⟩
 show Value.bool (Ap p.y.neg p.y.num p.y.den)=Value.bool b
 rw [← hpre.2]
 exact congrArg Value.bool (by rw [MM,c4];first|rfl|(rw [Bool.true_and]))
def H3:Con:={ ι:=PtD,pre:=λ i=>i.has,args:=λ i=>[DA.agg [cB i.x.neg,cS i.x.num,cS i.x.den,cB i.y.neg,cS i.y.num,cS i.y.den]],res:=λ i=>⟨false,[none],[rcB (!(okP i))]⟩ }
theorem Vp:H3.Ok Tryz.prog 279:=by
 refine fok (X:=⟨tt,[(280,JS)],[],6,[]⟩) AI AF (CTok.cons Xb (CTok.nil _)) Tryz.func279 (λ _=>[]) ?_
 intro (p:PtD) hpre
 have hpre:p.has:=hpre
 refine AH (q:=∃ i1:PtD,[DA.agg [cB p.x.neg,cS p.x.num,cS p.x.den,cB p.y.neg,cS p.y.num,cS p.y.den]]=JS.args i1/\JS.pre i1/\((vB (!(okP i1))=vB (!(okP p))))) (by kernel_rfl) ?_
 delta vB
 refine ⟨p,by
  rfl,by
  exact hpre,?_⟩
 exact rfl
def JT:Con:={ ι:=(List (List Dat)),pre:=λ i=>i.length<=9223372036854775807/\∀ k,k<i.length->(ED (i.getD k [])).has,args:=λ i=>[.one (DC.sl 110 L2 i),.one (.ro (.fn 279 []))],tag:=280,res:=λ i=>⟨false,[none],[rcI (L3 (λ r=>!(okP (ED r))) i)]⟩ }
theorem Xc:JT.Ok Tryz.prog 326:=by
 refine fok (X:=⟨tt,[(279,H3)],[],19,[]⟩) AI AF (CTok.cons Vp (CTok.nil _)) Tryz.func326 (λ (i:(List (List Dat)))=>[(2,.mk 3 (Nat) (λ x1=>{ tm:=[(0,tX 1),(1,tX 2),(7,tI (nI i.length)),(8,tI (nI x1))],en:=[(1,.view 110 L2 i []),(2,.ro (.fn 279 []) [])] }) (λ x1=>x1<=i.length/\∀ j,j<x1->(λ r=>!(okP (ED r))) (i.getD j [])=false) (λ x1=>i.length-x1) (λ _=>[]))]) ?_
 intro (l:List (List Dat)) hpre
 have hpre:l.length<=9223372036854775807/\∀ k,k<l.length->(ED (l.getD k [])).has:=hpre
 refine AH (q:=let Z3:=(.fn 279 []:RO)=.fn 279 [];let Z2:=L3 (λ r=>!(okP (ED r))) l;(∃ x1:Nat,(x1<=l.length/\∀ j,j<x1->(λ r=>!(okP (ED r))) (l.getD j [])=false)/\((rf (vI (nI l.length)))/\(vI (0:Int)=vI (nI x1))/\(rf (l))/\Z3))/\∀ x1:Nat,let Z1:=l.getD x1 [];(x1<=l.length/\∀ j,j<x1->(λ r=>!(okP (ED r))) (l.getD j [])=false)->(ifB ((decide ((nI x1)<(nI l.length)))) ((0<=(nI x1)/\(nI x1)<(l.length:Int))/\((x1<l.length)/\(∃ i1:PtD,[DA.agg [cB (((Z1.getD 0 (.int 0))).b),cS (((Z1.getD 1 (.int 0))).r),cS (((Z1.getD 2 (.int 0))).r),cB (((Z1.getD 3 (.int 0))).b),cS (((Z1.getD 4 (.int 0))).r),cS (((Z1.getD 5 (.int 0))).r)]]=H3.args i1/\H3.pre i1/\(ifB ((!(okP i1))) ((vI (nI x1)=vI Z2)) (∃ y2:Nat,(y2<=l.length/\∀ j,j<y2->(λ r=>!(okP (ED r))) (l.getD j [])=false)/\(l.length-y2<l.length-x1)/\((rf (vI (nI l.length)))/\(vI (wR ((nI x1)+(1:Int)))=vI (nI y2))/\(rf (l))/\Z3)))))) ((vI (-1:Int)=vI Z2)))) (by kernel_rfl) ?_
 conv=>zeta
 delta ifB vI wR nI
 refine ⟨⟨0,by
  exact ⟨Nat.zero_le _,λ j hj=>absurd hj (Nat.not_lt_zero j)⟩,?_⟩,?_⟩
 ·refine ⟨rfl,?_,rfl,?_⟩
  ·rfl
  rfl
 intro (k:Nat) hki1
 have hki1:k<=l.length/\∀ j,j<k->(λ r=>!(okP (ED r))) (l.getD j [])=false:=hki1
 refine And.symm ⟨λ c7=>?_,λ c7=>?_⟩
 ·try simp only [nrm] at c7
  rw [Of (λ j hj=>hki1.2 j (by omega))]
 try simp only [nrm] at c7
 refine ao (by omega) λ o8=>?_
 refine ao (by omega) λ o9=>?_
 refine ⟨(ED (l.getD k [])),by
  rfl,by
  exact hpre.2 k (by omega),?_⟩
 refine ⟨λ c13=>?_,λ c13=>?_⟩
 ·try simp only [nrm] at c13
  rw [UO (k:=k) (by omega) hki1.2 (by show (!(okP (ED (l.getD k []))))=true;rw [c13];rfl)]
 try simp only [nrm] at c13
 refine ⟨k+1,by
  exact ⟨by omega,JC hki1.2 (by show (!(okP (ED (l.getD k []))))=false;rw [c13];rfl)⟩,by
  omega,?_⟩
 refine ⟨rfl,?_,rfl,?_⟩
 ·exact AK (AD (by omega) (by omega))
 rfl
def H6:Con:={ ι:=(List (List Dat)),pre:=λ i=>i.length<=9223372036854775807/\∀ k,k<i.length->(ED (i.getD k [])).has,args:=λ i=>[.one (DC.sl 110 L2 i),.one (.ro (.fn 279 []))],tag:=280,res:=λ i=>⟨false,[none],[rcB (i.any (λ r=>!(okP (ED r))))]⟩ }
theorem Vq:H6.Ok Tryz.prog 278:=by
 refine fok (X:=⟨tt,[(326,JT)],[],9,[]⟩) AI AF (CTok.cons Xc (CTok.nil _)) Tryz.func278 (λ _=>[]) ?_
 intro (l:List (List Dat)) hpre
 have hpre:l.length<=9223372036854775807/\∀ k,k<l.length->(ED (l.getD k [])).has:=hpre
 refine AH (q:=∃ i1:(List (List Dat)),[DA.one (DC.sl 110 L2 l),DA.one (DC.ro (.fn 279 []))]=JT.args i1/\JT.pre i1/\((vB (decide ((L3 (λ r=>!(okP (ED r))) i1)≥(0:Int)))=vB (l.any (λ r=>!(okP (ED r))))))) (by kernel_rfl) ?_
 delta vB
 refine ⟨l,by
  rfl,by
  exact hpre,?_⟩
 exact congrArg Value.bool (RE _ _)
def BQ:Con:={ ι:=(List (List Dat)),pre:=λ i=>i.length<=9223372036854775807/\∀ k,k<i.length->(ED (i.getD k [])).has,args:=λ i=>[.one (DC.sl 110 L2 i)],res:=λ i=>⟨false,[none],[rcB (!(i.any (λ r=>!(okP (ED r)))))]⟩ }
theorem H7:BQ.Ok Tryz.prog 242:=by
 refine fok (X:=⟨tt,[(278,H6)],[],6,[]⟩) AI AF (CTok.cons Vq (CTok.nil _)) Tryz.func242 (λ _=>[]) ?_
 intro (l:List (List Dat)) hpre
 have hpre:l.length<=9223372036854775807/\∀ k,k<l.length->(ED (l.getD k [])).has:=hpre
 refine AH (q:=∃ i1:(List (List Dat)),[DA.one (DC.sl 110 L2 l),DA.one (DC.ro (.fn 279 []))]=H6.args i1/\H6.pre i1/\((vB (!(i1.any (λ r=>!(okP (ED r)))))=vB (!(l.any (λ r=>!(okP (ED r)))))))) (by kernel_rfl) ?_
 delta vB
 refine ⟨l,by
  rfl,by
  exact hpre,?_⟩
 exact rfl
def EF:Con:={ ι:=Pq×Pq×Pq,pre:=λ i=>True,args:=λ i=>[dP i.1,dP i.2.1,dP i.2.2],res:=λ i=>⟨false,[none],[rcI (Fk i.1 i.2.1 i.2.2)]⟩ }
theorem Ue:EF.Ok Tryz.prog 328:=by
 refine fok (X:=⟨tt,[(219,AY),(269,Ax),(349,F4)],[],35,[]⟩) AI AF (CTok.cons JN (CTok.cons JM (CTok.cons Sx (CTok.nil _)))) Tryz.func328 (λ _=>[]) ?_
 rintro ⟨p,q,r⟩ hpre
 have hpre:True:=hpre
 refine AH (q:=∃ i1:Fr×Fr,[dF q.x,dF p.x]=AY.args i1/\AY.pre i1/\(∃ i2:Fr×Fr,[dF r.y,dF p.y]=AY.args i2/\AY.pre i2/\(∃ i3:Fr×Fr,[dF (Fr.sub i1.1 i1.2),dF (Fr.sub i2.1 i2.2)]=Ax.args i3/\Ax.pre i3/\(∃ i4:Fr×Fr,[dF q.y,dF p.y]=AY.args i4/\AY.pre i4/\(∃ i5:Fr×Fr,[dF r.x,dF p.x]=AY.args i5/\AY.pre i5/\(∃ i6:Fr×Fr,[dF (Fr.sub i4.1 i4.2),dF (Fr.sub i5.1 i5.2)]=Ax.args i6/\Ax.pre i6/\(∃ i7:Fr×Fr,[dF (Fr.mul i3.1 i3.2),dF (Fr.mul i6.1 i6.2)]=AY.args i7/\AY.pre i7/\(∃ i8:Fr,[dF (Fr.sub i7.1 i7.2)]=F4.args i8/\F4.pre i8/\((vI i8.sgn=vI (Fk p q r))))))))))) (by kernel_rfl) ?_
 delta vI
 refine ⟨(q.x,p.x),by
  rfl,by
  trivial,?_⟩
 refine ⟨(r.y,p.y),by
  rfl,by
  trivial,?_⟩
 refine ⟨((Fr.sub q.x p.x),(Fr.sub r.y p.y)),by
  rfl,by
  trivial,?_⟩
 refine ⟨(q.y,p.y),by
  rfl,by
  trivial,?_⟩
 refine ⟨(r.x,p.x),by
  rfl,by
  trivial,?_⟩
 refine ⟨((Fr.sub q.y p.y),(Fr.sub r.x p.x)),by
  rfl,by
  trivial,?_⟩
 refine ⟨((Fr.mul (Fr.sub q.x p.x) (Fr.sub r.y p.y)),(Fr.mul (Fr.sub q.y p.y) (Fr.sub r.x p.x))),by
  rfl,by
  trivial,?_⟩
 refine ⟨(Fr.sub (Fr.mul (Fr.sub q.x p.x) (Fr.sub r.y p.y)) (Fr.mul (Fr.sub q.y p.y) (Fr.sub r.x p.x))),by
  rfl,by
  trivial,?_⟩
 rfl
def DI:Con:={ ι:=Pq×Pq×Pq,pre:=λ i=>True,args:=λ i=>[dP i.1,dP i.2.1,dP i.2.2],res:=λ i=>⟨false,[none],[rcI (Fk i.1 i.2.1 i.2.2)]⟩ }
theorem Ra:DI.Ok Tryz.prog 239:=by
 refine fok (X:=⟨tt,[(142,AX),(206,Al),(277,Ce)],[],35,[]⟩) AI AF (CTok.cons Hv (CTok.cons Hw (CTok.cons Lr (CTok.nil _)))) Tryz.func239 (λ _=>[]) ?_
 rintro ⟨p,q,r⟩ hpre
 have hpre:True:=hpre
 refine AH (q:=∃ i1:Fr×Fr,[dF q.x,dF p.x]=AX.args i1/\AX.pre i1/\(∃ i2:Fr×Fr,[dF r.y,dF p.y]=AX.args i2/\AX.pre i2/\(∃ i3:Fr×Fr,[dF (Fr.sub i1.1 i1.2),dF (Fr.sub i2.1 i2.2)]=Al.args i3/\Al.pre i3/\(∃ i4:Fr×Fr,[dF q.y,dF p.y]=AX.args i4/\AX.pre i4/\(∃ i5:Fr×Fr,[dF r.x,dF p.x]=AX.args i5/\AX.pre i5/\(∃ i6:Fr×Fr,[dF (Fr.sub i4.1 i4.2),dF (Fr.sub i5.1 i5.2)]=Al.args i6/\Al.pre i6/\(∃ i7:Fr×Fr,[dF (Fr.mul i3.1 i3.2),dF (Fr.mul i6.1 i6.2)]=AX.args i7/\AX.pre i7/\(∃ i8:Fr,[dF (Fr.sub i7.1 i7.2)]=Ce.args i8/\Ce.pre i8/\((vI i8.sgn=vI (Fk p q r))))))))))) (by kernel_rfl) ?_
 delta vI
 refine ⟨(q.x,p.x),by
  rfl,by
  trivial,?_⟩
 refine ⟨(r.y,p.y),by
  rfl,by
  trivial,?_⟩
 refine ⟨((Fr.sub q.x p.x),(Fr.sub r.y p.y)),by
  rfl,by
  trivial,?_⟩
 refine ⟨(q.y,p.y),by
  rfl,by
  trivial,?_⟩
 refine ⟨(r.x,p.x),by
  rfl,by
  trivial,?_⟩
 refine ⟨((Fr.sub q.y p.y),(Fr.sub r.x p.x)),by
  rfl,by
  trivial,?_⟩
 refine ⟨((Fr.mul (Fr.sub q.x p.x) (Fr.sub r.y p.y)),(Fr.mul (Fr.sub q.y p.y) (Fr.sub r.x p.x))),by
  rfl,by
  trivial,?_⟩
 refine ⟨(Fr.sub (Fr.mul (Fr.sub q.x p.x) (Fr.sub r.y p.y)) (Fr.mul (Fr.sub q.y p.y) (Fr.sub r.x p.x))),by
  rfl,by
  trivial,?_⟩
 rfl
def Cf:Con:={ ι:=(List V2),pre:=λ i=>i.all A2=true/\i.length<=1048576,args:=λ i=>[.one (DC.sl 39 [.int,.int] (AJ i))],res:=λ i=>⟨false,[none],[.own 110 [.bool,.sl 3 [.int],.sl 3 [.int],.bool,.sl 3 [.int],.sl 3 [.int]] (B6 i)]⟩ }
theorem Lv:Cf.Ok Tryz.prog 282:=by
 refine fok (X:=⟨tt,[(70,BY)],[],20,[]⟩) AI AF (CTok.cons It (CTok.nil _)) Tryz.func282 (λ (i:(List V2))=>[(3,.mk 3 (Nat) (λ x1=>{ tm:=[(7,tX 1),(8,tI (nI ((AJ i).length))),(9,tI (nI x1)),(3,tX 2)],en:=[(1,.view 39 [.int,.int] (AJ i) []),(2,.own 110 L2 (B6 (i.take x1)))] }) (λ x1=>x1<=i.length) (λ x1=>i.length-x1) (λ _=>[]))]) ?_
 intro (l:List V2) hpre
 have hpre:l.all A2=true/\l.length<=1048576:=hpre
 refine AH (q:=let Z3:=nI ((AJ l).length);(∃ x1:Nat,(x1<=l.length)/\((rf (vI Z3))/\(vI (0:Int)=vI (nI x1))/\(rf (AJ l))/\(([]:List (List Dat))=(B6 (l.take x1)))))/\∀ x1:Nat,let Z4:=B6 (l.take x1);(x1<=l.length)->(ifB ((decide ((nI x1)<Z3))) ((0<=(nI x1)/\(nI x1)<((AJ l).length:Int))/\((x1<(AJ l).length)/\(∃ i1:Int×Int,let Z2:=Fr.ofInt i1.2;let Z1:=Fr.ofInt i1.1;[DA.agg [cI (((((AJ l).getD x1 []).getD 0 (.int 0))).n),cI (((((AJ l).getD x1 []).getD 1 (.int 0))).n)]]=BY.args i1/\BY.pre i1/\((Z4.length+([[Dat.bool (decide (Z1.z<0)),Dat.sl (L Z1.z.natAbs),Dat.sl (L Z1.d),Dat.bool (decide (Z2.z<0)),Dat.sl (L Z2.z.natAbs),Dat.sl (L Z2.d)]]:List (List Dat)).length<=1073741824)/\(∃ y2:Nat,(y2<=l.length)/\(l.length-y2<l.length-x1)/\((rf (vI Z3))/\(vI (wR ((nI x1)+(1:Int)))=vI (nI y2))/\(rf (AJ l))/\((Z4++([[Dat.bool (decide (Z1.z<0)),Dat.sl (L Z1.z.natAbs),Dat.sl (L Z1.d),Dat.bool (decide (Z2.z<0)),Dat.sl (L Z2.z.natAbs),Dat.sl (L Z2.d)]]:List (List Dat)))=(B6 (l.take y2))))))))) ((Z4=B6 l)))) (by kernel_rfl) ?_
 conv=>zeta
 delta ifB vI wR nI
 have hvl:=Ar l
 have hpl:=DQ l
 refine ⟨⟨0,by
  omega,?_⟩,?_⟩
 ·refine ⟨rfl,?_,rfl,?_⟩
  ·rfl
  rfl
 intro (k:Nat) hki1
 have hki1:k<=l.length:=hki1
 refine And.symm ⟨λ c7=>?_,λ c7=>?_⟩
 ·try simp only [nrm] at c7
  rw [show k=l.length by omega,List.take_length]
 try simp only [nrm] at c7
 refine ao (by omega) λ o8=>?_
 refine ao (by omega) λ o9=>?_
 refine ⟨((l.getD k (0,0)).1,(l.getD k (0,0)).2),by
  rw [Dk (by omega),Dl (by omega)];rfl,by
  exact F7 hpre.1 (by omega),?_⟩
 refine ao (a:=(B6 (l.take k)).length+([[Dat.bool (decide ((Fr.ofInt ((l.getD k (0,0)).1)).z<0)),Dat.sl (L (Fr.ofInt ((l.getD k (0,0)).1)).z.natAbs),Dat.sl (L (Fr.ofInt ((l.getD k (0,0)).1)).d),Dat.bool (decide ((Fr.ofInt ((l.getD k (0,0)).2)).z<0)),Dat.sl (L (Fr.ofInt ((l.getD k (0,0)).2)).z.natAbs),Dat.sl (L (Fr.ofInt ((l.getD k (0,0)).2)).d)]]:List (List Dat)).length<=1073741824) (by simp only [DQ,List.length_take,List.length_cons,List.length_nil];omega) λ o13=>?_
 refine ⟨k+1,by
  omega,by
  omega,?_⟩
 refine ⟨rfl,?_,rfl,?_⟩
 ·exact AK (AD (by omega) (by omega))
 exact Vo (by omega)
def FH:Con:={ ι:=(List V2)×Pq,pre:=λ i=>i.1.all A2=true/\0<i.1.length/\i.1.length<=16,args:=λ i=>[.one (DC.sl 39 [.int,.int] (AJ i.1)),dP i.2],res:=λ i=>⟨false,[none],[rcI (RZ i.1 i.2)]⟩ }
theorem Rb:FH.Ok Tryz.prog 281:=by
 refine fok (X:=⟨tt,[(282,Cf),(328,EF)],[],33,[]⟩) AI AF (CTok.cons Lv (CTok.cons Ue (CTok.nil _))) Tryz.func281 (λ (i:(List V2)×Pq)=>[(4,.mk 7 (Nat) (λ x1=>{ tm:=[(3,tP 1 0),(11,tX 6),(12,tI (nI ((B6 i.1).length))),(13,tI (nI x1)),(6,tI (L5 i.1 i.2 x1)),(5,tX 6)],en:=[(1,.box [kB (decide (i.2.x.z<0)),.ext 2,.ext 3,kB (decide (i.2.y.z<0)),.ext 4,.ext 5]),(2,eV (L i.2.x.z.natAbs)),(3,eV (L i.2.x.d)),(4,eV (L i.2.y.z.natAbs)),(5,eV (L i.2.y.d)),(6,.own 110 L2 (B6 i.1))] }) (λ x1=>x1<=i.1.length) (λ x1=>i.1.length-x1) (λ _=>[]))]) ?_
 rintro ⟨l,p⟩ hpre
 have hpre:l.all A2=true/\0<l.length/\l.length<=16:=hpre
 refine AH (q:=let Z7:=vB (decide (p.y.z<0));let Z6:=vB (decide (p.x.z<0));let Z4:=nI ((B6 l).length);∃ i1:(List V2),[DA.one (DC.sl 39 [.int,.int] (AJ l))]=Cf.args i1/\Cf.pre i1/\((∃ x1:Nat,(x1<=l.length)/\((vI (nI ((B6 i1).length))=vI Z4)/\(vI (0:Int)=vI (nI x1))/\(vI (1:Int)=vI (L5 l p x1))/\(rf Z6)/\(rf Z7)/\(rf (L p.x.z.natAbs))/\(rf (L p.x.d))/\(rf (L p.y.z.natAbs))/\(rf (L p.y.d))/\(B6 i1=(B6 l))))/\∀ x1:Nat,let Z5:=wR ((nI x1)+(1:Int));let Z3:=(B6 l).getD x1 [];let Z1:=Int.tmod Z5 Z4;let Z2:=(B6 l).getD (Z1.toNat) [];(x1<=l.length)->(ifB ((decide ((nI x1)<Z4))) ((0<=(nI x1)/\(nI x1)<((B6 l).length:Int))/\((x1<(B6 l).length)/\((Z4≠0)/\((0<=Z1/\Z1<((B6 l).length:Int))/\((Z1.toNat<(B6 l).length)/\(∃ i2:Pq×Pq×Pq,[DA.agg [cB (((Z3.getD 0 (.int 0))).b),cS (((Z3.getD 1 (.int 0))).r),cS (((Z3.getD 2 (.int 0))).r),cB (((Z3.getD 3 (.int 0))).b),cS (((Z3.getD 4 (.int 0))).r),cS (((Z3.getD 5 (.int 0))).r)],DA.agg [cB (((Z2.getD 0 (.int 0))).b),cS (((Z2.getD 1 (.int 0))).r),cS (((Z2.getD 2 (.int 0))).r),cB (((Z2.getD 3 (.int 0))).b),cS (((Z2.getD 4 (.int 0))).r),cS (((Z2.getD 5 (.int 0))).r)],dP p]=EF.args i2/\EF.pre i2/\(∃ y2:Nat,(y2<=l.length)/\(l.length-y2<l.length-x1)/\((rf (vI Z4))/\(vI Z5=vI (nI y2))/\(vI (min (L5 l p x1) (Fk i2.1 i2.2.1 i2.2.2))=vI (L5 l p y2))/\(rf Z6)/\(rf Z7)/\(rf (L p.x.z.natAbs))/\(rf (L p.x.d))/\(rf (L p.y.z.natAbs))/\(rf (L p.y.d))/\(rf (B6 l)))))))))) ((vI (L5 l p x1)=vI (RZ l p)))))) (by kernel_rfl) ?_
 conv=>zeta
 delta ifB vB vI wR nI
 have hvl:=Ar l
 have hpl:=DQ l
 refine ⟨l,by
  rfl,by
  exact ⟨hpre.1,by omega⟩,?_⟩
 refine ⟨⟨0,by
  omega,?_⟩,?_⟩
 ·refine ⟨rfl,?_,?_,rfl,rfl,rfl,rfl,rfl,rfl,rfl⟩
  ·rfl
  rfl
 intro (k:Nat) hki4
 have hki4:k<=l.length:=hki4
 refine And.symm ⟨λ c16=>?_,λ c16=>?_⟩
 ·try simp only [nrm] at c16
  rw [show k=l.length by omega];rfl
 try simp only [nrm] at c16
 have hkl:k<l.length:=by omega
 have m2:(k+1)%l.length<l.length:=(EE hkl (by omega)).2.1
 have m1:(Int.tmod (IntKind.i64.wrap (((k:Nat):Int)+(1:Int))) (((B6 l).length:Nat):Int)).toNat=(k+1)%l.length:=by rw [hpl];exact (EE hkl (by omega)).1
 have m3:Int.tmod (IntKind.i64.wrap (((k:Nat):Int)+(1:Int))) (((B6 l).length:Nat):Int)=(((k+1)%l.length:Nat):Int):=by rw [hpl];exact (EE hkl (by omega)).2.2
 refine ao (by omega) λ o17=>?_
 refine ao (by omega) λ o18=>?_
 refine ao (by omega) λ o19=>?_
 refine ao (by omega) λ o20=>?_
 refine ao (by omega) λ o21=>?_
 refine ⟨(Cm l k,Cm l ((k+1)%l.length),p),by
  rw [m1,JR hkl,JR m2];rfl,by
  trivial,?_⟩
 refine ⟨k+1,by
  trivial,by
  omega,?_⟩
 refine ⟨rfl,?_,?_,rfl,rfl,rfl,rfl,rfl,rfl,rfl⟩
 ·exact AK (AD (by omega) (by omega))
 rfl
def Ee:Con:={ ι:=(List V2)×PtD,pre:=λ i=>i.2.has,args:=λ i=>[.one (DC.sl 39 [.int,.int] (AJ i.1)),DA.agg [cB i.2.x.neg,cS i.2.x.num,cS i.2.x.den,cB i.2.y.neg,cS i.2.y.num,cS i.2.y.den]],res:=λ i=>⟨false,[none],[rcI (cpZ i.1 i.2)]⟩ }
theorem Ps:Ee.Ok Tryz.prog 275:=by
 refine fok (X:=⟨tt,[(89,Bu),(238,Bw),(59,AZ),(239,DI)],[],43,[]⟩) AI AF (CTok.cons J0 (CTok.cons KZ (CTok.cons F8 (CTok.cons Ra (CTok.nil _))))) Tryz.func275 (λ (i:(List V2)×PtD)=>[(5,.mk 7 (Nat) (λ x1=>{ tm:=[(0,tX 1),(3,tP 2 0),(17,tX 1),(18,tI (nI ((AJ i.1).length))),(19,tI (nI x1)),(5,tI (L5 i.1 (pqR i.2) x1))],en:=[(2,.box [kB i.2.x.neg,.ext 3,.ext 4,kB i.2.y.neg,.ext 5,.ext 6]),(1,.view 39 [.int,.int] (AJ i.1) []),(3,eV i.2.x.num),(4,eV i.2.x.den),(5,eV i.2.y.num),(6,eV i.2.y.den)] }) (λ x1=>x1<=i.1.length) (λ x1=>i.1.length-x1) (λ _=>[]))]) ?_
 rintro ⟨l,p⟩ hpre
 have hpre:p.has:=hpre
 refine AH (q:=let Z12:=((AJ l).length:Int);let Z5:=(vI (-1:Int)=vI (cpZ l p));let Z2:=nI ((AJ l).length);∃ i1:(List V2),[DA.one (DC.sl 39 [.int,.int] (AJ l))]=Bu.args i1/\Bu.pre i1/\(ifB ((!(!(BA i1)))) (∃ i2:PtD×Bool,[DA.agg [cB p.x.neg,cS p.x.num,cS p.x.den,cB p.y.neg,cS p.y.num,cS p.y.den]]=Bw.args i2/\Bw.pre i2/\(ifB ((!i2.2)) Z5 ((∃ x1:Nat,(x1<=l.length)/\((rf (vI Z2))/\(vI (0:Int)=vI (nI x1))/\(vI (1:Int)=vI (L5 l (pqR p) x1))/\(rf (vB p.x.neg))/\(rf (vB p.y.neg))/\(rf (AJ l))/\(rf (p.x.num))/\(rf (p.x.den))/\(rf (p.y.num))/\(rf (p.y.den))))/\∀ x1:Nat,let Z4:=L5 l (pqR p) x1;let Z3:=wR ((nI x1)+(1:Int));let Z1:=Int.tmod Z3 Z2;let Z6:=(AJ l).getD (Z1.toNat) [];(x1<=l.length)->(ifB ((decide ((nI x1)<Z2))) ((0<=(nI x1)/\(nI x1)<Z12)/\((x1<(AJ l).length)/\(∃ i3:Int×Int,let Z8:=Fr.ofInt i3.2;let Z7:=Fr.ofInt i3.1;[DA.agg [cI (((((AJ l).getD x1 []).getD 0 (.int 0))).n),cI (((((AJ l).getD x1 []).getD 1 (.int 0))).n)]]=AZ.args i3/\AZ.pre i3/\((Z2≠0)/\((0<=Z1/\Z1<Z12)/\((Z1.toNat<(AJ l).length)/\(∃ i4:Int×Int,let Z10:=Fr.ofInt i4.2;let Z9:=Fr.ofInt i4.1;[DA.agg [cI (((Z6.getD 0 (.int 0))).n),cI (((Z6.getD 1 (.int 0))).n)]]=AZ.args i4/\AZ.pre i4/\(∃ i5:Pq×Pq×Pq,let Z11:=Fk i5.1 i5.2.1 i5.2.2;[DA.agg [cB (decide (Z7.z<0)),cS (L Z7.z.natAbs),cS (L Z7.d),cB (decide (Z8.z<0)),cS (L Z8.z.natAbs),cS (L Z8.d)],DA.agg [cB (decide (Z9.z<0)),cS (L Z9.z.natAbs),cS (L Z9.d),cB (decide (Z10.z<0)),cS (L Z10.z.natAbs),cS (L Z10.d)],DA.agg [cB p.x.neg,cS p.x.num,cS p.x.den,cB p.y.neg,cS p.y.num,cS p.y.den]]=DI.args i5/\DI.pre i5/\(ifB ((decide (Z11<Z4))) (∃ y2:Nat,(y2<=l.length)/\(l.length-y2<l.length-x1)/\((rf (vI Z2))/\(vI Z3=vI (nI y2))/\(vI Z11=vI (L5 l (pqR p) y2))/\(rf (vB p.x.neg))/\(rf (vB p.y.neg))/\(rf (AJ l))/\(rf (p.x.num))/\(rf (p.x.den))/\(rf (p.y.num))/\(rf (p.y.den)))) (∃ y3:Nat,(y3<=l.length)/\(l.length-y3<l.length-x1)/\((rf (vI Z2))/\(vI Z3=vI (nI y3))/\(vI Z4=vI (L5 l (pqR p) y3))/\(rf (vB p.x.neg))/\(rf (vB p.y.neg))/\(rf (AJ l))/\(rf (p.x.num))/\(rf (p.x.den))/\(rf (p.y.num))/\(rf (p.y.den))))))))))))) ((vI Z4=vI (cpZ l p))))))) Z5)) (by kernel_rfl) ?_
 conv=>zeta
 delta ifB vB vI wR nI
 have hvl:=Ar l
 have hpl:=DQ l
 refine ⟨l,by
  rfl,by
  trivial,?_⟩
 refine And.symm ⟨λ c4=>?_,λ c4=>?_⟩
 ·try simp only [nrm] at c4
  have hE:=Yh (p:=p) c4
  rw [hE]
 try simp only [nrm] at c4
 refine ⟨(p,(okP p)),by
  rfl,by
  exact ⟨hpre,rfl⟩,?_⟩
 refine ⟨λ c8=>?_,λ c8=>?_⟩
 ·try simp only [nrm] at c8
  have hE:=Yi (l:=l) c8
  rw [hE]
 try simp only [nrm] at c8
 have hE:=Ud c4 c8
 obtain ⟨e1,e2,e3,e4,e5,e6,e7,e8⟩:=TC hpre c8
 have hP:=EW c4
 refine ⟨⟨0,by
  omega,?_⟩,?_⟩
 ·refine ⟨rfl,?_,?_,rfl,rfl,rfl,rfl,rfl,rfl,rfl⟩
  ·rfl
  rfl
 intro (k:Nat) hki10
 have hki10:k<=l.length:=hki10
 refine And.symm ⟨λ c22=>?_,λ c22=>?_⟩
 ·try simp only [nrm] at c22
  rw [hE,show k=l.length by omega];rfl
 try simp only [nrm] at c22
 have hkl:k<l.length:=by omega
 have m2:(k+1)%l.length<l.length:=(EE hkl (by omega)).2.1
 have m1:(Int.tmod (IntKind.i64.wrap (((k:Nat):Int)+(1:Int))) (((AJ l).length:Nat):Int)).toNat=(k+1)%l.length:=by rw [hvl];exact (EE hkl (by omega)).1
 have m3:Int.tmod (IntKind.i64.wrap (((k:Nat):Int)+(1:Int))) (((AJ l).length:Nat):Int)=(((k+1)%l.length:Nat):Int):=by rw [hvl];exact (EE hkl (by omega)).2.2
 refine ao (by omega) λ o23=>?_
 refine ao (by omega) λ o24=>?_
 refine ⟨((l.getD k (0,0)).1,(l.getD k (0,0)).2),by
  rw [Dk (by omega),Dl (by omega)];rfl,by
  exact F7 hP.2.2 hkl,?_⟩
 refine ao (by omega) λ o28=>?_
 refine ao (by omega) λ o29=>?_
 refine ao (by omega) λ o30=>?_
 refine ⟨((l.getD ((k+1)%l.length) (0,0)).1,(l.getD ((k+1)%l.length) (0,0)).2),by
  rw [m1,Dk m2,Dl m2];rfl,by
  try dsimp only [AZ]
  exact F7 hP.2.2 m2,?_⟩
 refine ⟨(Cm l k,Cm l ((k+1)%l.length),pqR p),by
  rw [e1,e2,e3,e4,e5,e6];rfl,by
  trivial,?_⟩
 refine ⟨λ c37=>?_,λ c37=>?_⟩
 ·try simp only [nrm] at c37
  refine ⟨k+1,by
   trivial,by
   omega,?_⟩
  refine ⟨rfl,?_,?_,rfl,rfl,rfl,rfl,rfl,rfl,rfl⟩
  ·exact AK (AD (by omega) (by omega))
  exact congrArg (Value.int .i64) (Int.min_eq_right (Int.le_of_lt c37)).symm
 try simp only [nrm] at c37
 refine ⟨k+1,by
  trivial,by
  omega,?_⟩
 refine ⟨rfl,?_,?_,rfl,rfl,rfl,rfl,rfl,rfl,rfl⟩
 ·exact AK (AD (by omega) (by omega))
 exact congrArg (Value.int .i64) (Int.min_eq_left c37).symm
end Go.Proofs.YtmedodfenejimaaGreat
