import Derived.Test.YtlejeadlmpkffaaGreatMaRkE
import Derived.Test.YtlejeadlmpkffaaGreatMaScW
namespace Go.Proofs.YtlejeadlmpkffaaGreat
set_option maxRecDepth 100000
set_option linter.unusedVariables false
set_option linter.unusedSimpArgs false
open Go.RowKit
def sIsVec_con:Con:={ ι:=Int×Int,pre:=λ i=>True,args:=λ i=>[.agg [.im (.int .i64 i.1),.im (.int .i64 i.2)]],res:=λ i=>⟨false,[none],[.im (Value.bool (isVec (i.1,i.2)))]⟩ }
theorem sIsVec_ok:sIsVec_con.Ok Tryz.prog 73:=genOwn_ok rfl ⟨_,Tryz.func73,by decide,rfl⟩ (λ _=>Nat.le_of_ble_eq_true rfl) (λ _=>rfl) (λ i=>[.im (.bool (isVec (i.1,i.2)))]) (λ _=>rfl) (λ _=>rfl) (λ i hp w us h=>by
 obtain ⟨x,y⟩:=i
 have h:RdRow w [.int,.int] [.int x,.int y] us:=h
 obtain ⟨a,_,rfl,q1,h⟩:=RdRow.cons2 h
 obtain ⟨b,_,rfl,q2,h⟩:=RdRow.cons2 h
 obtain ⟨-,rfl⟩:=RdRow.nil_inv h
 obtain rfl:=Rd.int2 q1
 obtain rfl:=Rd.int2 q2
 refine (IsValidVec_c x y w).mono ?_
 rintro e w' ⟨rfl,hb⟩
 exact ⟨[Value.bool (isVec (x,y))],rfl,Own.leaf (Fp.mk_bool _),hb⟩)
def iIsPoly_con:Con:={ ι:=(List V2),pre:=λ i=>True,args:=λ i=>[.one (.sl 38 [.int,.int] (vecsD i))],res:=λ i=>⟨false,[none],[.im (Value.bool (isPoly i))]⟩ }
theorem iIsPoly_ok:iIsPoly_con.Ok Tryz.prog 121:=genOwn_ok rfl ⟨_,Tryz.func121,by decide,rfl⟩ (λ _=>Nat.le_of_ble_eq_true rfl) (λ _=>rfl) (λ l=>[.im (.bool (isPoly l))]) (λ _=>rfl) (λ _=>rfl) (λ i hp w us h=>by
 have h:RdRow w [.sl 38 [.int,.int]] [.sl (vecsD i)] us:=h
 obtain ⟨v,vs,rfl,h1,h2⟩:=RdRow.cons2 h
 obtain ⟨-,rfl⟩:=RdRow.nil_inv h2
 refine (IsPolygon_c i v w (Rd.vecs h1)).mono ?_
 rintro e w' ⟨rfl,hb⟩
 exact ⟨[Value.bool (isPoly i)],rfl,Own.leaf (Fp.mk_bool _),hb⟩)
def sIsPoly_con:Con:={ ι:=(List V2),pre:=λ i=>True,args:=λ i=>[.one (.sl 38 [.int,.int] (vecsD i))],res:=λ i=>⟨false,[none],[.im (Value.bool (isPoly i))]⟩ }
theorem sIsPoly_ok:sIsPoly_con.Ok Tryz.prog 49:=genOwn_ok rfl ⟨_,Tryz.func49,by decide,rfl⟩ (λ _=>Nat.le_of_ble_eq_true rfl) (λ _=>rfl) (λ l=>[.im (.bool (isPoly l))]) (λ _=>rfl) (λ _=>rfl) (λ i hp w us h=>by
 have h:RdRow w [.sl 38 [.int,.int]] [.sl (vecsD i)] us:=h
 obtain ⟨v,vs,rfl,h1,h2⟩:=RdRow.cons2 h
 obtain ⟨-,rfl⟩:=RdRow.nil_inv h2
 refine (sIsPolygon_c i v w (Rd.vecs h1)).mono ?_
 rintro e w' ⟨rfl,hb⟩
 exact ⟨[Value.bool (isPoly i)],rfl,Own.leaf (Fp.mk_bool _),hb⟩)
theorem isPoly_len {l:List V2} (h:isPoly l=true):3<=l.length/\l.length<=16/\l.all isVec=true:=by
 simp only [isPoly,Bool.and_eq_true,inR_iff] at h
 exact ⟨by omega,by omega,h.1.2⟩
def frR (r:RatD):Fr:=Fr.mk' (zOf r.neg (valR r.num)) (valR r.den)
def okR (r:RatD):Bool:=ratOkR r.neg r.num r.den
def okP (p:PtD):Bool:=okR p.x && okR p.y
def pqR (p:PtD):Pq:=⟨frR p.x,frR p.y⟩
def RatD.has (r:RatD):Prop:=Dat.has (.sl 3 [.int]) (.sl r.num)/\Dat.has (.sl 3 [.int]) (.sl r.den)
def PtD.has (p:PtD):Prop:=p.x.has/\p.y.has
theorem mk_self {r:Fr} (h:r.d≠0):Fr.mk' r.z r.d=r:=by
 obtain ⟨q,hq,e1,e2⟩:=Fr.some_d h
 rw [e1,e2]
 unfold Fr.mk'
 rw [Rat.mkRat_self]
 exact (Fr.of_some hq).symm
theorem frR_ok {r:RatD} (hh:r.has) (h:okR r=true):r.neg=decide ((frR r).z<0)/\r.num=L (frR r).z.natAbs/\r.den=L (frR r).d/\(frR r).d≠0:=by
 obtain ⟨s,hd,e1,e2,e3⟩:=ratOkR_inv hh.1 hh.2 h
 rw [Fr.neg_z] at e1
 rw [Fr.num_z] at e2
 rw [Fr.den_d] at e3
 have:frR r=s:=by
  unfold frR
  rw [e1,e2,e3,valR_L,valR_L,zOf_self,mk_self hd]
 rw [this]
 exact ⟨e1,e2,e3,hd⟩
theorem okP_both {p:PtD} (h:okP p=true):okR p.x=true/\okR p.y=true:=by
 unfold okP at h;rwa [Bool.and_eq_true] at h
theorem pqR_ok {p:PtD} (hh:p.has) (h:okP p=true):p.x.neg=decide ((pqR p).x.z<0)/\p.x.num=L (pqR p).x.z.natAbs/\p.x.den=L (pqR p).x.d/\p.y.neg=decide ((pqR p).y.z<0)/\p.y.num=L (pqR p).y.z.natAbs/\p.y.den=L (pqR p).y.d/\(pqR p).x.d≠0/\(pqR p).y.d≠0:=by
 obtain ⟨a1,a2,a3,a4⟩:=frR_ok hh.1 (okP_both h).1
 obtain ⟨b1,b2,b3,b4⟩:=frR_ok hh.2 (okP_both h).2
 exact ⟨a1,a2,a3,b1,b2,b3,a4,b4⟩
def ptOf (r:List Dat):PtD:=⟨⟨(r.getD 0 (.int 0)).b,(r.getD 1 (.int 0)).r,(r.getD 2 (.int 0)).r⟩,⟨(r.getD 3 (.int 0)).b,(r.getD 4 (.int 0)).r,(r.getD 5 (.int 0)).r⟩⟩
def ptD (p:PtD):List Dat:=[.bool p.x.neg,.sl p.x.num,.sl p.x.den,.bool p.y.neg,.sl p.y.num,.sl p.y.den]
theorem any2 (p q:PtD):([ptD p,ptD q].any λ r=>!(okP (ptOf r)))=!(okP p && okP q):=by
 show (!(okP p) || (!(okP q) || false))=_;rw [Bool.or_false,Bool.not_and]
theorem len_has {m:List (List Dat)} (h:Dat.has (.sl 3 [.int]) (.sl m)):m.length<=9223372036854775807:=has_len h
def ptV (v:V2):Pq:=⟨Fr.ofInt v.1,Fr.ofInt v.2⟩
def pqRow (p:Pq):List Dat:=[.bool (decide (p.x.z<0)),.sl (L p.x.z.natAbs),.sl (L p.x.d),.bool (decide (p.y.z<0)),.sl (L p.y.z.natAbs),.sl (L p.y.d)]
def ptsD (l:List V2):List (List Dat):=l.map λ v=>pqRow (ptV v)
def ptAt (l:List V2) (k:Nat):Pq:=ptV (l.getD k (0,0))
theorem ptsD_len (l:List V2):(ptsD l).length=l.length:=by simp [ptsD]
theorem pts_get {l:List V2} {k:Nat} (h:k<l.length):(ptsD l).getD k []=pqRow (ptAt l k):=by
 simp [ptsD,List.getD,h,ptAt]
theorem ptsD_snoc {l:List V2} {k:Nat} (h:k<l.length):ptsD (l.take k)++[pqRow (ptAt l k)]=ptsD (l.take (k+1)):=by
 rw [take_snoc' l (0,0) k h];simp [ptsD,ptAt]
def sideZ (p q r:Pq):Int:=(Fr.sub (Fr.mul (Fr.sub q.x p.x) (Fr.sub r.y p.y)) (Fr.mul (Fr.sub q.y p.y) (Fr.sub r.x p.x))).sgn
def conT (l:List V2) (p:Pq):Nat->Int
 | 0=>1
 | k+1=>min (conT l p k) (sideZ (ptAt l k) (ptAt l ((k+1)%l.length)) p)
def conZ (l:List V2) (p:Pq):Int:=conT l p l.length
def cpZ (l:List V2) (p:PtD):Int:=if isPoly l=true/\okP p=true then conZ l (pqR p) else -1
theorem vec_i64 {l:List V2} (h:l.all isVec=true) {k:Nat} (hk:k<l.length):(-9223372036854775808<=(l.getD k (0,0)).1/\(l.getD k (0,0)).1<=9223372036854775807)/\-9223372036854775808<=(l.getD k (0,0)).2/\(l.getD k (0,0)).2<=9223372036854775807:=by
 have:=allVec_getD h hk
 have:=isVec_bd this
 omega
theorem next_mod {k n:Nat} (hk:k<n) (hn:n<=1048576):(Int.tmod (IntKind.i64.wrap (((k:Nat):Int)+(1:Int))) ((n:Nat):Int)).toNat=(k+1)%n/\(k+1)%n<n/\Int.tmod (IntKind.i64.wrap (((k:Nat):Int)+(1:Int))) ((n:Nat):Int)=(((k+1)%n:Nat):Int):=by
 have e:Int.tmod (IntKind.i64.wrap (((k:Nat):Int)+(1:Int))) ((n:Nat):Int)=(((k+1)%n:Nat):Int):=by
  rw [wrap64 (by omega) (by omega),show ((k:Nat):Int)+1=((k+1:Nat):Int) by omega,tmodN]
 refine ⟨by rw [e];omega,Nat.mod_lt _ (by omega),e⟩
theorem two_has {p q:PtD} (h:p.has) (h2:q.has):∀ k,k < [ptD p,ptD q].length->(ptOf ([ptD p,ptD q].getD k [])).has:=λ k hk=>by
 have:k=0∨k=1:=by simp only [List.length_cons,List.length_nil] at hk;omega
 rcases this with rfl|rfl
 ·exact h
 ·exact h2
def ptQ (p:Pq):PtD:=⟨⟨decide (p.x.z<0),L p.x.z.natAbs,L p.x.d⟩,⟨decide (p.y.z<0),L p.y.z.natAbs,L p.y.d⟩⟩
theorem ptQ_has (p:Pq):(ptQ p).has:=by
 have h1:=p.x.nlz
 have h2:=p.x.nld
 have h3:=p.y.nlz
 have h4:=p.y.nld
 exact ⟨⟨L_has _ (by omega),L_has _ (by omega)⟩,L_has _ (by omega),L_has _ (by omega)⟩
theorem ptQ_ok (p:Pq):okP (ptQ p)=p.good:=by
 show (ratOkR (decide (p.x.z<0)) (L p.x.z.natAbs) (L p.x.d) && ratOkR (decide (p.y.z<0)) (L p.y.z.natAbs) (L p.y.d))=_
 rw [ratOkR_zd,ratOkR_zd];rfl
theorem okP_def (p:PtD):okP p=(ratOkR p.x.neg p.x.num p.x.den && ratOkR p.y.neg p.y.num p.y.den):=rfl
theorem cpZ_no1 {l:List V2} {p:PtD} (h:isPoly l=false):cpZ l p=-1:=by unfold cpZ;rw [if_neg (by rw [h];simp)]
theorem cpZ_no2 {l:List V2} {p:PtD} (h:okP p=false):cpZ l p=-1:=by unfold cpZ;rw [if_neg (by rw [h];simp)]
theorem cpZ_yes {l:List V2} {p:PtD} (h:isPoly l=true) (h2:okP p=true):cpZ l p=conZ l (pqR p):=by unfold cpZ;rw [if_pos ⟨h,h2⟩]
def iPointOf_con:Con:={ ι:=Int×Int,pre:=λ i=>(-9223372036854775808<=i.1/\i.1<=9223372036854775807)/\-9223372036854775808<=i.2/\i.2<=9223372036854775807,args:=λ i=>[.agg [.im (.int .i64 i.1),.im (.int .i64 i.2)]],res:=λ i=>⟨false,[some 6],[.im (Value.bool (decide ((Fr.ofInt i.1).z<0))),.own 3 [.int] (L (Fr.ofInt i.1).z.natAbs),.own 3 [.int] (L (Fr.ofInt i.1).d),.im (Value.bool (decide ((Fr.ofInt i.2).z<0))),.own 3 [.int] (L (Fr.ofInt i.2).z.natAbs),.own 3 [.int] (L (Fr.ofInt i.2).d)]⟩ }
theorem iPointOf_ok:iPointOf_con.Ok Tryz.prog 96:=by
 refine fok (X:=⟨tt,[(94,ratInt_con)],[],10,[]⟩) mixed tt_ok (CTok.cons ratInt_ok (CTok.nil _)) Tryz.func96 (λ _=>[]) ?_
 rintro ⟨x,y⟩ hpre
 have hpre:(-9223372036854775808<=x/\x<=9223372036854775807)/\-9223372036854775808<=y/\y<=9223372036854775807:=hpre
 refine by_nf (q:=∃ i1:Int,[DA.one (cI x)]=ratInt_con.args i1/\ratInt_con.pre i1/\(∃ i2:Int,[DA.one (cI y)]=ratInt_con.args i2/\ratInt_con.pre i2/\((eqD (Fr.ofInt i1) (Fr.ofInt x) ((eqC (Fr.ofInt i2) (Fr.ofInt y))))))) (by kernel_rfl) ?_
 refine ⟨x,by
  rfl,by
  show -9223372036854775808<=x/\x<=9223372036854775807
  first|omega|assumption|exact hpre.1|exact hpre.2|(simp;done),?_⟩
 refine ⟨y,by
  rfl,by
  show -9223372036854775808<=y/\y<=9223372036854775807
  first|omega|assumption|exact hpre.1|exact hpre.2|(simp;done),?_⟩
 exact eqD_of rfl (eqC_of rfl)
def sPointOf_con:Con:={ ι:=Int×Int,pre:=λ i=>(-9223372036854775808<=i.1/\i.1<=9223372036854775807)/\-9223372036854775808<=i.2/\i.2<=9223372036854775807,args:=λ i=>[.agg [.im (.int .i64 i.1),.im (.int .i64 i.2)]],res:=λ i=>⟨false,[some 6],[.im (Value.bool (decide ((Fr.ofInt i.1).z<0))),.own 3 [.int] (L (Fr.ofInt i.1).z.natAbs),.own 3 [.int] (L (Fr.ofInt i.1).d),.im (Value.bool (decide ((Fr.ofInt i.2).z<0))),.own 3 [.int] (L (Fr.ofInt i.2).z.natAbs),.own 3 [.int] (L (Fr.ofInt i.2).d)]⟩ }
theorem sPointOf_ok:sPointOf_con.Ok Tryz.prog 58:=by
 refine fok (X:=⟨tt,[(81,sRatFromInt_con)],[],10,[]⟩) mixed tt_ok (CTok.cons sRatFromInt_ok (CTok.nil _)) Tryz.func58 (λ _=>[]) ?_
 rintro ⟨x,y⟩ hpre
 have hpre:(-9223372036854775808<=x/\x<=9223372036854775807)/\-9223372036854775808<=y/\y<=9223372036854775807:=hpre
 refine by_nf (q:=∃ i1:Int,[DA.one (cI x)]=sRatFromInt_con.args i1/\sRatFromInt_con.pre i1/\(∃ i2:Int,[DA.one (cI y)]=sRatFromInt_con.args i2/\sRatFromInt_con.pre i2/\((eqD (Fr.ofInt i1) (Fr.ofInt x) ((eqC (Fr.ofInt i2) (Fr.ofInt y))))))) (by kernel_rfl) ?_
 refine ⟨x,by
  rfl,by
  show -9223372036854775808<=x/\x<=9223372036854775807
  first|omega|assumption|exact hpre.1|exact hpre.2|(simp;done),?_⟩
 refine ⟨y,by
  rfl,by
  show -9223372036854775808<=y/\y<=9223372036854775807
  first|omega|assumption|exact hpre.1|exact hpre.2|(simp;done),?_⟩
 exact eqD_of rfl (eqC_of rfl)
def iIsPt_con:Con:={ ι:=PtD,pre:=λ i=>i.has,args:=λ i=>[.agg [.im (.bool i.x.neg),.sl 3 [.int] i.x.num,.sl 3 [.int] i.x.den,.im (.bool i.y.neg),.sl 3 [.int] i.y.num,.sl 3 [.int] i.y.den]],res:=λ i=>⟨false,[none],[.im (Value.bool (okP i))]⟩ }
theorem iIsPt_ok:iIsPt_con.Ok Tryz.prog 40:=by
 refine fok (X:=⟨tt,[(63,RatOk_con)],[],11,[]⟩) mixed tt_ok (CTok.cons RatOk_ok (CTok.nil _)) Tryz.func40 (λ _=>[]) ?_
 intro (p:PtD) hpre
 have hpre:p.has:=hpre
 refine by_nf (q:=∃ i1:Bool×(List (List Dat))×(List (List Dat)),[DA.agg [cB p.x.neg,cS p.x.num,cS p.x.den]]=RatOk_con.args i1/\RatOk_con.pre i1/\(((ratOkR i1.1 i1.2.1 i1.2.2)=true->(∃ i2:Bool×(List (List Dat))×(List (List Dat)),[DA.agg [cB p.y.neg,cS p.y.num,cS p.y.den]]=RatOk_con.args i2/\RatOk_con.pre i2/\((Value.bool (ratOkR i2.1 i2.2.1 i2.2.2)=Value.bool (okP p)))))/\((ratOkR i1.1 i1.2.1 i1.2.2)=false->((Value.bool false=Value.bool (okP p)))))) (by kernel_rfl) ?_
 refine ⟨(p.x.neg,p.x.num,p.x.den),by
  rfl,by
  exact ⟨hpre.1.1,hpre.1.2,len_has hpre.1.1,len_has hpre.1.2⟩,?_⟩
 refine And.symm ⟨λ c4=>?_,λ c4=>?_⟩
 ·replace c4:(ratOkR p.x.neg p.x.num p.x.den)=false:=c4
  try simp only [nrm] at c4
  exact congrArg Value.bool (by rw [okP_def,c4];first|rfl|(rw [Bool.true_and]))
 replace c4:(ratOkR p.x.neg p.x.num p.x.den)=true:=c4
 try simp only [nrm] at c4
 refine ⟨(p.y.neg,p.y.num,p.y.den),by
  rfl,by
  exact ⟨hpre.2.1,hpre.2.2,len_has hpre.2.1,len_has hpre.2.2⟩,?_⟩
 exact congrArg Value.bool (by rw [okP_def,c4];first|rfl|(rw [Bool.true_and]))
def sIsPt_con:Con:={ ι:=PtD×Bool,pre:=λ i=>i.1.has/\okP i.1=i.2,args:=λ i=>[.agg [.im (.bool i.1.x.neg),.sl 3 [.int] i.1.x.num,.sl 3 [.int] i.1.x.den,.im (.bool i.1.y.neg),.sl 3 [.int] i.1.y.num,.sl 3 [.int] i.1.y.den]],res:=λ i=>⟨false,[none],[.im (Value.bool i.2)]⟩ }
theorem sIsPt_ok:sIsPt_con.Ok Tryz.prog 55:=by
 refine fok (X:=⟨tt,[(78,sRatOk_con)],[],11,[]⟩) mixed tt_ok (CTok.cons sRatOk_ok (CTok.nil _)) Tryz.func55 (λ _=>[]) ?_
 rintro ⟨p,b⟩ hpre
 have hpre:p.has/\okP p=b:=hpre
 refine by_nf (q:=∃ i1:Bool×(List (List Dat))×(List (List Dat))×Bool,[DA.agg [cB p.x.neg,cS p.x.num,cS p.x.den]]=sRatOk_con.args i1/\sRatOk_con.pre i1/\((i1.2.2.2=true->(∃ i2:Bool×(List (List Dat))×(List (List Dat))×Bool,[DA.agg [cB p.y.neg,cS p.y.num,cS p.y.den]]=sRatOk_con.args i2/\sRatOk_con.pre i2/\((Value.bool i2.2.2.2=Value.bool b))))/\(i1.2.2.2=false->((Value.bool false=Value.bool b))))) (by kernel_rfl) ?_
 refine ⟨(p.x.neg,p.x.num,p.x.den,(ratOkR p.x.neg p.x.num p.x.den)),by
  rfl,by
  try dsimp only [sRatOk_con]
  exact ⟨hpre.1.1.1,hpre.1.1.2,len_has hpre.1.1.1,len_has hpre.1.1.2,rfl⟩,?_⟩
 refine And.symm ⟨λ c4=>?_,λ c4=>?_⟩
 ·replace c4:(ratOkR p.x.neg p.x.num p.x.den)=false:=c4
  try simp only [nrm] at c4
  rw [← hpre.2]
  exact congrArg Value.bool (by rw [okP_def,c4];first|rfl|(rw [Bool.true_and]))
 replace c4:(ratOkR p.x.neg p.x.num p.x.den)=true:=c4
 try simp only [nrm] at c4
 refine ⟨(p.y.neg,p.y.num,p.y.den,(ratOkR p.y.neg p.y.num p.y.den)),by
  rfl,by
  try dsimp only [sRatOk_con]
  exact ⟨hpre.1.2.1,hpre.1.2.2,len_has hpre.1.2.1,len_has hpre.1.2.2,rfl⟩,?_⟩
 show Value.bool (ratOkR p.y.neg p.y.num p.y.den)=Value.bool b
 rw [← hpre.2]
 exact congrArg Value.bool (by rw [okP_def,c4];first|rfl|(rw [Bool.true_and]))
def arePt1_con:Con:={ ι:=PtD,pre:=λ i=>i.has,args:=λ i=>[.agg [.im (.bool i.x.neg),.sl 3 [.int] i.x.num,.sl 3 [.int] i.x.den,.im (.bool i.y.neg),.sl 3 [.int] i.y.num,.sl 3 [.int] i.y.den]],res:=λ i=>⟨false,[none],[.im (Value.bool (!(okP i)))]⟩ }
theorem arePt1_ok:arePt1_con.Ok Tryz.prog 39:=by
 refine fok (X:=⟨tt,[(40,iIsPt_con)],[],6,[]⟩) mixed tt_ok (CTok.cons iIsPt_ok (CTok.nil _)) Tryz.func39 (λ _=>[]) ?_
 intro (p:PtD) hpre
 have hpre:p.has:=hpre
 refine by_nf (q:=∃ i1:PtD,[DA.agg [cB p.x.neg,cS p.x.num,cS p.x.den,cB p.y.neg,cS p.y.num,cS p.y.den]]=iIsPt_con.args i1/\iIsPt_con.pre i1/\((Value.bool (!(okP i1))=Value.bool (!(okP p))))) (by kernel_rfl) ?_
 refine ⟨p,by
  rfl,by
  exact hpre,?_⟩
 exact rfl
def ptIdx_con:Con:={ ι:=(List (List Dat)),pre:=λ i=>i.length<=9223372036854775807/\∀ k,k<i.length->(ptOf (i.getD k [])).has,args:=λ i=>[.one (.sl 48 [.bool,.sl 3 [.int],.sl 3 [.int],.bool,.sl 3 [.int],.sl 3 [.int]] i),.one (.ro (.fn 39 []))],tag:=40,res:=λ i=>⟨false,[none],[.im (Value.int .i64 (idxF (λ r=>!(okP (ptOf r))) i))]⟩ }
theorem ptIdx_ok:ptIdx_con.Ok Tryz.prog 62:=by
 refine fok (X:=⟨tt,[(39,arePt1_con)],[],19,[]⟩) mixed tt_ok (CTok.cons arePt1_ok (CTok.nil _)) Tryz.func62 (λ (i:(List (List Dat)))=>[(2,.mk 3 (Nat) (λ x1=>{ tm:=[(0,.one (.one (.ext 1))),(1,.one (.one (.ext 2))),(7,.one (.one (.im (Value.int .i64 ((i.length:Nat):Int))))),(8,.one (.one (.im (Value.int .i64 ((x1:Nat):Int)))))],en:=[(1,.view 48 [.bool,.sl 3 [.int],.sl 3 [.int],.bool,.sl 3 [.int],.sl 3 [.int]] i []),(2,.ro (.fn 39 []) [])] }) (λ x1=>x1<=i.length/\∀ j,j<x1->(λ r=>!(okP (ptOf r))) (i.getD j [])=false) (λ x1=>i.length-x1) (λ _=>[]))]) ?_
 intro (l:List (List Dat)) hpre
 have hpre:l.length<=9223372036854775807/\∀ k,k<l.length->(ptOf (l.getD k [])).has:=hpre
 refine by_nf (q:=(∃ x1:Nat,(x1<=l.length/\∀ j,j<x1->(λ r=>!(okP (ptOf r))) (l.getD j [])=false)/\((rf (vI (nI l.length)))/\(vI (0:Int)=vI (nI x1))/\(rf (l))/\((.fn 39 []:RO)=.fn 39 [])))/\∀ x1:Nat,(x1<=l.length/\∀ j,j<x1->(λ r=>!(okP (ptOf r))) (l.getD j [])=false)->(((decide ((nI x1)<(nI l.length)))=true->((0<=(nI x1)/\(nI x1)<(l.length:Int))/\((x1<l.length)/\(∃ i1:PtD,[DA.agg [cB ((((l.getD x1 []).getD 0 (.int 0))).b),cS ((((l.getD x1 []).getD 1 (.int 0))).r),cS ((((l.getD x1 []).getD 2 (.int 0))).r),cB ((((l.getD x1 []).getD 3 (.int 0))).b),cS ((((l.getD x1 []).getD 4 (.int 0))).r),cS ((((l.getD x1 []).getD 5 (.int 0))).r)]]=arePt1_con.args i1/\arePt1_con.pre i1/\(((!(okP i1))=true->((vI (nI x1)=vI (idxF (λ r=>!(okP (ptOf r))) l))))/\((!(okP i1))=false->(∃ y2:Nat,(y2<=l.length/\∀ j,j<y2->(λ r=>!(okP (ptOf r))) (l.getD j [])=false)/\(l.length-y2<l.length-x1)/\((rf (vI (nI l.length)))/\(vI (wR ((nI x1)+(1:Int)))=vI (nI y2))/\(rf (l))/\((.fn 39 []:RO)=.fn 39 [])))))))))/\((decide ((nI x1)<(nI l.length)))=false->((vI (-1:Int)=vI (idxF (λ r=>!(okP (ptOf r))) l)))))) (by kernel_rfl) ?_
 delta vI wR nI
 refine ⟨⟨0,by
  exact ⟨Nat.zero_le _,λ j hj=>absurd hj (Nat.not_lt_zero j)⟩,?_⟩,?_⟩
 ·refine ⟨rfl,?_,rfl,?_⟩
  ·rfl
  rfl
 intro (k:Nat) hki1
 have hki1:k<=l.length/\∀ j,j<k->(λ r=>!(okP (ptOf r))) (l.getD j [])=false:=hki1
 refine And.symm ⟨λ c7=>?_,λ c7=>?_⟩
 ·try simp only [nrm] at c7
  rw [idxF_none (λ j hj=>hki1.2 j (by omega))]
 try simp only [nrm] at c7
 refine ao (by omega) λ o8=>?_
 refine ao (by omega) λ o9=>?_
 refine ⟨(ptOf (l.getD k [])),by
  rfl,by
  exact hpre.2 k (by omega),?_⟩
 refine ⟨λ c13=>?_,λ c13=>?_⟩
 ·try simp only [nrm] at c13
  rw [idxF_at (k:=k) (by omega) hki1.2 (by show (!(okP (ptOf (l.getD k []))))=true;rw [c13];rfl)]
 try simp only [nrm] at c13
 refine ⟨k+1,by
  exact ⟨by omega,lt_step hki1.2 (by show (!(okP (ptOf (l.getD k []))))=false;rw [c13];rfl)⟩,by
  omega,?_⟩
 refine ⟨rfl,?_,rfl,?_⟩
 ·exact vint (wrap64 (by omega) (by omega))
 rfl
def ptCont_con:Con:={ ι:=(List (List Dat)),pre:=λ i=>i.length<=9223372036854775807/\∀ k,k<i.length->(ptOf (i.getD k [])).has,args:=λ i=>[.one (.sl 48 [.bool,.sl 3 [.int],.sl 3 [.int],.bool,.sl 3 [.int],.sl 3 [.int]] i),.one (.ro (.fn 39 []))],tag:=40,res:=λ i=>⟨false,[none],[.im (Value.bool (i.any (λ r=>!(okP (ptOf r)))))]⟩ }
theorem ptCont_ok:ptCont_con.Ok Tryz.prog 38:=by
 refine fok (X:=⟨tt,[(62,ptIdx_con)],[],9,[]⟩) mixed tt_ok (CTok.cons ptIdx_ok (CTok.nil _)) Tryz.func38 (λ _=>[]) ?_
 intro (l:List (List Dat)) hpre
 have hpre:l.length<=9223372036854775807/\∀ k,k<l.length->(ptOf (l.getD k [])).has:=hpre
 refine by_nf (q:=∃ i1:(List (List Dat)),[DA.one (DC.sl 48 [.bool,.sl 3 [.int],.sl 3 [.int],.bool,.sl 3 [.int],.sl 3 [.int]] l),DA.one (DC.ro (.fn 39 []))]=ptIdx_con.args i1/\ptIdx_con.pre i1/\((Value.bool (decide ((idxF (λ r=>!(okP (ptOf r))) i1)≥(0:Int)))=Value.bool (l.any (λ r=>!(okP (ptOf r))))))) (by kernel_rfl) ?_
 refine ⟨l,by
  rfl,by
  exact hpre,?_⟩
 exact congrArg Value.bool (idxF_any _ _)
def arePoints_con:Con:={ ι:=(List (List Dat)),pre:=λ i=>i.length<=9223372036854775807/\∀ k,k<i.length->(ptOf (i.getD k [])).has,args:=λ i=>[.one (.sl 48 [.bool,.sl 3 [.int],.sl 3 [.int],.bool,.sl 3 [.int],.sl 3 [.int]] i)],res:=λ i=>⟨false,[none],[.im (Value.bool (!(i.any (λ r=>!(okP (ptOf r))))))]⟩ }
theorem arePoints_ok:arePoints_con.Ok Tryz.prog 22:=by
 refine fok (X:=⟨tt,[(38,ptCont_con)],[],6,[]⟩) mixed tt_ok (CTok.cons ptCont_ok (CTok.nil _)) Tryz.func22 (λ _=>[]) ?_
 intro (l:List (List Dat)) hpre
 have hpre:l.length<=9223372036854775807/\∀ k,k<l.length->(ptOf (l.getD k [])).has:=hpre
 refine by_nf (q:=∃ i1:(List (List Dat)),[DA.one (DC.sl 48 [.bool,.sl 3 [.int],.sl 3 [.int],.bool,.sl 3 [.int],.sl 3 [.int]] l),DA.one (DC.ro (.fn 39 []))]=ptCont_con.args i1/\ptCont_con.pre i1/\((Value.bool (!(i1.any (λ r=>!(okP (ptOf r)))))=Value.bool (!(l.any (λ r=>!(okP (ptOf r)))))))) (by kernel_rfl) ?_
 refine ⟨l,by
  rfl,by
  exact hpre,?_⟩
 exact rfl
def side_con:Con:={ ι:=Pq×Pq×Pq,pre:=λ i=>True,args:=λ i=>[.agg [.im (.bool (decide (i.1.x.z<0))),.sl 3 [.int] (L i.1.x.z.natAbs),.sl 3 [.int] (L i.1.x.d),.im (.bool (decide (i.1.y.z<0))),.sl 3 [.int] (L i.1.y.z.natAbs),.sl 3 [.int] (L i.1.y.d)],.agg [.im (.bool (decide (i.2.1.x.z<0))),.sl 3 [.int] (L i.2.1.x.z.natAbs),.sl 3 [.int] (L i.2.1.x.d),.im (.bool (decide (i.2.1.y.z<0))),.sl 3 [.int] (L i.2.1.y.z.natAbs),.sl 3 [.int] (L i.2.1.y.d)],.agg [.im (.bool (decide (i.2.2.x.z<0))),.sl 3 [.int] (L i.2.2.x.z.natAbs),.sl 3 [.int] (L i.2.2.x.d),.im (.bool (decide (i.2.2.y.z<0))),.sl 3 [.int] (L i.2.2.y.z.natAbs),.sl 3 [.int] (L i.2.2.y.d)]],res:=λ i=>⟨false,[none],[.im (Value.int .i64 (sideZ i.1 i.2.1 i.2.2))]⟩ }
theorem side_ok:side_con.Ok Tryz.prog 95:=by
 refine fok (X:=⟨tt,[(129,ratSub_con),(128,ratMul_con),(130,ratSign_con)],[],35,[]⟩) mixed tt_ok (CTok.cons ratSub_ok (CTok.cons ratMul_ok (CTok.cons ratSign_ok (CTok.nil _)))) Tryz.func95 (λ _=>[]) ?_
 rintro ⟨p,q,r⟩ hpre
 have hpre:True:=hpre
 refine by_nf (q:=∃ i1:Fr×Fr,[dF q.x,dF p.x]=ratSub_con.args i1/\ratSub_con.pre i1/\(∃ i2:Fr×Fr,[dF r.y,dF p.y]=ratSub_con.args i2/\ratSub_con.pre i2/\(∃ i3:Fr×Fr,[dF (Fr.sub i1.1 i1.2),dF (Fr.sub i2.1 i2.2)]=ratMul_con.args i3/\ratMul_con.pre i3/\(∃ i4:Fr×Fr,[dF q.y,dF p.y]=ratSub_con.args i4/\ratSub_con.pre i4/\(∃ i5:Fr×Fr,[dF r.x,dF p.x]=ratSub_con.args i5/\ratSub_con.pre i5/\(∃ i6:Fr×Fr,[dF (Fr.sub i4.1 i4.2),dF (Fr.sub i5.1 i5.2)]=ratMul_con.args i6/\ratMul_con.pre i6/\(∃ i7:Fr×Fr,[dF (Fr.mul i3.1 i3.2),dF (Fr.mul i6.1 i6.2)]=ratSub_con.args i7/\ratSub_con.pre i7/\(∃ i8:Fr,[dF (Fr.sub i7.1 i7.2)]=ratSign_con.args i8/\ratSign_con.pre i8/\((vI i8.sgn=vI (sideZ p q r))))))))))) (by kernel_rfl) ?_
 delta vI
 refine ⟨(q.x,p.x),by
  rfl,by
  trivial,?_⟩
 refine ⟨(r.y,p.y),by
  rfl,by
  trivial,?_⟩
 refine ⟨((Fr.sub q.x p.x),(Fr.sub r.y p.y)),by
  rfl,by
  trivial,?_⟩
 refine ⟨(q.y,p.y),by
  rfl,by
  trivial,?_⟩
 refine ⟨(r.x,p.x),by
  rfl,by
  trivial,?_⟩
 refine ⟨((Fr.sub q.y p.y),(Fr.sub r.x p.x)),by
  rfl,by
  trivial,?_⟩
 refine ⟨((Fr.mul (Fr.sub q.x p.x) (Fr.sub r.y p.y)),(Fr.mul (Fr.sub q.y p.y) (Fr.sub r.x p.x))),by
  rfl,by
  trivial,?_⟩
 refine ⟨(Fr.sub (Fr.mul (Fr.sub q.x p.x) (Fr.sub r.y p.y)) (Fr.mul (Fr.sub q.y p.y) (Fr.sub r.x p.x))),by
  rfl,by
  trivial,?_⟩
 rfl
def sSide_con:Con:={ ι:=Pq×Pq×Pq,pre:=λ i=>True,args:=λ i=>[.agg [.im (.bool (decide (i.1.x.z<0))),.sl 3 [.int] (L i.1.x.z.natAbs),.sl 3 [.int] (L i.1.x.d),.im (.bool (decide (i.1.y.z<0))),.sl 3 [.int] (L i.1.y.z.natAbs),.sl 3 [.int] (L i.1.y.d)],.agg [.im (.bool (decide (i.2.1.x.z<0))),.sl 3 [.int] (L i.2.1.x.z.natAbs),.sl 3 [.int] (L i.2.1.x.d),.im (.bool (decide (i.2.1.y.z<0))),.sl 3 [.int] (L i.2.1.y.z.natAbs),.sl 3 [.int] (L i.2.1.y.d)],.agg [.im (.bool (decide (i.2.2.x.z<0))),.sl 3 [.int] (L i.2.2.x.z.natAbs),.sl 3 [.int] (L i.2.2.x.d),.im (.bool (decide (i.2.2.y.z<0))),.sl 3 [.int] (L i.2.2.y.z.natAbs),.sl 3 [.int] (L i.2.2.y.d)]],res:=λ i=>⟨false,[none],[.im (Value.int .i64 (sideZ i.1 i.2.1 i.2.2))]⟩ }
theorem sSide_ok:sSide_con.Ok Tryz.prog 79:=by
 refine fok (X:=⟨tt,[(103,sRatSub_con),(102,sRatMul_con),(104,sRatSign_con)],[],35,[]⟩) mixed tt_ok (CTok.cons sRatSub_ok (CTok.cons sRatMul_ok (CTok.cons sRatSign_ok (CTok.nil _)))) Tryz.func79 (λ _=>[]) ?_
 rintro ⟨p,q,r⟩ hpre
 have hpre:True:=hpre
 refine by_nf (q:=∃ i1:Fr×Fr,[dF q.x,dF p.x]=sRatSub_con.args i1/\sRatSub_con.pre i1/\(∃ i2:Fr×Fr,[dF r.y,dF p.y]=sRatSub_con.args i2/\sRatSub_con.pre i2/\(∃ i3:Fr×Fr,[dF (Fr.sub i1.1 i1.2),dF (Fr.sub i2.1 i2.2)]=sRatMul_con.args i3/\sRatMul_con.pre i3/\(∃ i4:Fr×Fr,[dF q.y,dF p.y]=sRatSub_con.args i4/\sRatSub_con.pre i4/\(∃ i5:Fr×Fr,[dF r.x,dF p.x]=sRatSub_con.args i5/\sRatSub_con.pre i5/\(∃ i6:Fr×Fr,[dF (Fr.sub i4.1 i4.2),dF (Fr.sub i5.1 i5.2)]=sRatMul_con.args i6/\sRatMul_con.pre i6/\(∃ i7:Fr×Fr,[dF (Fr.mul i3.1 i3.2),dF (Fr.mul i6.1 i6.2)]=sRatSub_con.args i7/\sRatSub_con.pre i7/\(∃ i8:Fr,[dF (Fr.sub i7.1 i7.2)]=sRatSign_con.args i8/\sRatSign_con.pre i8/\((vI i8.sgn=vI (sideZ p q r))))))))))) (by kernel_rfl) ?_
 delta vI
 refine ⟨(q.x,p.x),by
  rfl,by
  trivial,?_⟩
 refine ⟨(r.y,p.y),by
  rfl,by
  trivial,?_⟩
 refine ⟨((Fr.sub q.x p.x),(Fr.sub r.y p.y)),by
  rfl,by
  trivial,?_⟩
 refine ⟨(q.y,p.y),by
  rfl,by
  trivial,?_⟩
 refine ⟨(r.x,p.x),by
  rfl,by
  trivial,?_⟩
 refine ⟨((Fr.sub q.y p.y),(Fr.sub r.x p.x)),by
  rfl,by
  trivial,?_⟩
 refine ⟨((Fr.mul (Fr.sub q.x p.x) (Fr.sub r.y p.y)),(Fr.mul (Fr.sub q.y p.y) (Fr.sub r.x p.x))),by
  rfl,by
  trivial,?_⟩
 refine ⟨(Fr.sub (Fr.mul (Fr.sub q.x p.x) (Fr.sub r.y p.y)) (Fr.mul (Fr.sub q.y p.y) (Fr.sub r.x p.x))),by
  rfl,by
  trivial,?_⟩
 rfl
def pointsOf_con:Con:={ ι:=(List V2),pre:=λ i=>i.all isVec=true/\i.length<=1048576,args:=λ i=>[.one (.sl 38 [.int,.int] (vecsD i))],res:=λ i=>⟨false,[none],[.own 48 [.bool,.sl 3 [.int],.sl 3 [.int],.bool,.sl 3 [.int],.sl 3 [.int]] (ptsD i)]⟩ }
theorem pointsOf_ok:pointsOf_con.Ok Tryz.prog 71:=by
 refine fok (X:=⟨tt,[(96,iPointOf_con)],[],20,[]⟩) mixed tt_ok (CTok.cons iPointOf_ok (CTok.nil _)) Tryz.func71 (λ (i:(List V2))=>[(3,.mk 3 (Nat) (λ x1=>{ tm:=[(7,.one (.one (.ext 1))),(8,.one (.one (.im (Value.int .i64 (((vecsD i).length:Nat):Int))))),(9,.one (.one (.im (Value.int .i64 ((x1:Nat):Int))))),(3,.one (.one (.ext 2)))],en:=[(1,.view 38 [.int,.int] (vecsD i) []),(2,.own 48 [.bool,.sl 3 [.int],.sl 3 [.int],.bool,.sl 3 [.int],.sl 3 [.int]] (ptsD (i.take x1)))] }) (λ x1=>x1<=i.length) (λ x1=>i.length-x1) (λ _=>[]))]) ?_
 intro (l:List V2) hpre
 have hpre:l.all isVec=true/\l.length<=1048576:=hpre
 refine by_nf (q:=(∃ x1:Nat,(x1<=l.length)/\((rf (vI (nI ((vecsD l).length))))/\(vI (0:Int)=vI (nI x1))/\(rf (vecsD l))/\(([]:List (List Dat))=(ptsD (l.take x1)))))/\∀ x1:Nat,(x1<=l.length)->(((decide ((nI x1)<(nI ((vecsD l).length))))=true->((0<=(nI x1)/\(nI x1)<((vecsD l).length:Int))/\((x1<(vecsD l).length)/\(∃ i1:Int×Int,[DA.agg [cI (((((vecsD l).getD x1 []).getD 0 (.int 0))).n),cI (((((vecsD l).getD x1 []).getD 1 (.int 0))).n)]]=iPointOf_con.args i1/\iPointOf_con.pre i1/\(((ptsD (l.take x1)).length+([[Dat.bool (decide ((Fr.ofInt i1.1).z<0)),Dat.sl (L (Fr.ofInt i1.1).z.natAbs),Dat.sl (L (Fr.ofInt i1.1).d),Dat.bool (decide ((Fr.ofInt i1.2).z<0)),Dat.sl (L (Fr.ofInt i1.2).z.natAbs),Dat.sl (L (Fr.ofInt i1.2).d)]]:List (List Dat)).length<=1073741824)/\(∃ y2:Nat,(y2<=l.length)/\(l.length-y2<l.length-x1)/\((rf (vI (nI ((vecsD l).length))))/\(vI (wR ((nI x1)+(1:Int)))=vI (nI y2))/\(rf (vecsD l))/\(((ptsD (l.take x1))++([[Dat.bool (decide ((Fr.ofInt i1.1).z<0)),Dat.sl (L (Fr.ofInt i1.1).z.natAbs),Dat.sl (L (Fr.ofInt i1.1).d),Dat.bool (decide ((Fr.ofInt i1.2).z<0)),Dat.sl (L (Fr.ofInt i1.2).z.natAbs),Dat.sl (L (Fr.ofInt i1.2).d)]]:List (List Dat)))=(ptsD (l.take y2))))))))))/\((decide ((nI x1)<(nI ((vecsD l).length))))=false->(((ptsD (l.take x1))=ptsD l))))) (by kernel_rfl) ?_
 delta vI wR nI
 have hvl:=vecsD_length l
 have hpl:=ptsD_len l
 refine ⟨⟨0,by
  omega,?_⟩,?_⟩
 ·refine ⟨rfl,?_,rfl,?_⟩
  ·rfl
  rfl
 intro (k:Nat) hki1
 have hki1:k<=l.length:=hki1
 refine And.symm ⟨λ c7=>?_,λ c7=>?_⟩
 ·try simp only [nrm] at c7
  rw [show k=l.length by omega,List.take_length]
 try simp only [nrm] at c7
 refine ao (by omega) λ o8=>?_
 refine ao (by omega) λ o9=>?_
 refine ⟨((l.getD k (0,0)).1,(l.getD k (0,0)).2),by
  rw [vecs_x (by omega),vecs_y (by omega)];rfl,by
  exact vec_i64 hpre.1 (by omega),?_⟩
 refine ao (a:=(ptsD (l.take k)).length+([[Dat.bool (decide ((Fr.ofInt ((l.getD k (0,0)).1)).z<0)),Dat.sl (L (Fr.ofInt ((l.getD k (0,0)).1)).z.natAbs),Dat.sl (L (Fr.ofInt ((l.getD k (0,0)).1)).d),Dat.bool (decide ((Fr.ofInt ((l.getD k (0,0)).2)).z<0)),Dat.sl (L (Fr.ofInt ((l.getD k (0,0)).2)).z.natAbs),Dat.sl (L (Fr.ofInt ((l.getD k (0,0)).2)).d)]]:List (List Dat)).length<=1073741824) (by simp only [ptsD_len,List.length_take,List.length_cons,List.length_nil];omega) λ o13=>?_
 refine ⟨k+1,by
  omega,by
  omega,?_⟩
 refine ⟨rfl,?_,rfl,?_⟩
 ·exact vint (wrap64 (by omega) (by omega))
 exact ptsD_snoc (by omega)
def contains_con:Con:={ ι:=(List V2)×Pq,pre:=λ i=>i.1.all isVec=true/\0<i.1.length/\i.1.length<=16,args:=λ i=>[.one (.sl 38 [.int,.int] (vecsD i.1)),.agg [.im (.bool (decide (i.2.x.z<0))),.sl 3 [.int] (L i.2.x.z.natAbs),.sl 3 [.int] (L i.2.x.d),.im (.bool (decide (i.2.y.z<0))),.sl 3 [.int] (L i.2.y.z.natAbs),.sl 3 [.int] (L i.2.y.d)]],res:=λ i=>⟨false,[none],[.im (Value.int .i64 (conZ i.1 i.2))]⟩ }
theorem contains_ok:contains_con.Ok Tryz.prog 69:=by
 refine fok (X:=⟨tt,[(71,pointsOf_con),(95,side_con)],[],33,[]⟩) mixed tt_ok (CTok.cons pointsOf_ok (CTok.cons side_ok (CTok.nil _))) Tryz.func69 (λ (i:(List V2)×Pq)=>[(4,.mk 7 (Nat) (λ x1=>{ tm:=[(3,.one (.one (.bp 1 0))),(11,.one (.one (.ext 6))),(12,.one (.one (.im (Value.int .i64 (((ptsD i.1).length:Nat):Int))))),(13,.one (.one (.im (Value.int .i64 ((x1:Nat):Int))))),(6,.one (.one (.im (Value.int .i64 (conT i.1 i.2 x1))))),(5,.one (.one (.ext 6)))],en:=[(1,.box [.im (Value.bool (decide (i.2.x.z<0))),.ext 2,.ext 3,.im (Value.bool (decide (i.2.y.z<0))),.ext 4,.ext 5]),(2,.view 3 [.int] (L i.2.x.z.natAbs) []),(3,.view 3 [.int] (L i.2.x.d) []),(4,.view 3 [.int] (L i.2.y.z.natAbs) []),(5,.view 3 [.int] (L i.2.y.d) []),(6,.own 48 [.bool,.sl 3 [.int],.sl 3 [.int],.bool,.sl 3 [.int],.sl 3 [.int]] (ptsD i.1))] }) (λ x1=>x1<=i.1.length) (λ x1=>i.1.length-x1) (λ _=>[]))]) ?_
 rintro ⟨l,p⟩ hpre
 have hpre:l.all isVec=true/\0<l.length/\l.length<=16:=hpre
 refine by_nf (q:=∃ i1:(List V2),[DA.one (DC.sl 38 [.int,.int] (vecsD l))]=pointsOf_con.args i1/\pointsOf_con.pre i1/\((∃ x1:Nat,(x1<=l.length)/\((vI (nI ((ptsD i1).length))=vI (nI ((ptsD l).length)))/\(vI (0:Int)=vI (nI x1))/\(vI (1:Int)=vI (conT l p x1))/\(rf (Value.bool (decide (p.x.z<0))))/\(rf (Value.bool (decide (p.y.z<0))))/\(rf (L p.x.z.natAbs))/\(rf (L p.x.d))/\(rf (L p.y.z.natAbs))/\(rf (L p.y.d))/\(ptsD i1=(ptsD l))))/\∀ x1:Nat,(x1<=l.length)->(((decide ((nI x1)<(nI ((ptsD l).length))))=true->((0<=(nI x1)/\(nI x1)<((ptsD l).length:Int))/\((x1<(ptsD l).length)/\(((nI ((ptsD l).length))≠0)/\((0<=(Int.tmod (wR ((nI x1)+(1:Int))) (nI ((ptsD l).length)))/\(Int.tmod (wR ((nI x1)+(1:Int))) (nI ((ptsD l).length)))<((ptsD l).length:Int))/\(((Int.tmod (wR ((nI x1)+(1:Int))) (nI ((ptsD l).length))).toNat<(ptsD l).length)/\(∃ i2:Pq×Pq×Pq,[DA.agg [cB (((((ptsD l).getD x1 []).getD 0 (.int 0))).b),cS (((((ptsD l).getD x1 []).getD 1 (.int 0))).r),cS (((((ptsD l).getD x1 []).getD 2 (.int 0))).r),cB (((((ptsD l).getD x1 []).getD 3 (.int 0))).b),cS (((((ptsD l).getD x1 []).getD 4 (.int 0))).r),cS (((((ptsD l).getD x1 []).getD 5 (.int 0))).r)],DA.agg [cB (((((ptsD l).getD ((Int.tmod (wR ((nI x1)+(1:Int))) (nI ((ptsD l).length))).toNat) []).getD 0 (.int 0))).b),cS (((((ptsD l).getD ((Int.tmod (wR ((nI x1)+(1:Int))) (nI ((ptsD l).length))).toNat) []).getD 1 (.int 0))).r),cS (((((ptsD l).getD ((Int.tmod (wR ((nI x1)+(1:Int))) (nI ((ptsD l).length))).toNat) []).getD 2 (.int 0))).r),cB (((((ptsD l).getD ((Int.tmod (wR ((nI x1)+(1:Int))) (nI ((ptsD l).length))).toNat) []).getD 3 (.int 0))).b),cS (((((ptsD l).getD ((Int.tmod (wR ((nI x1)+(1:Int))) (nI ((ptsD l).length))).toNat) []).getD 4 (.int 0))).r),cS (((((ptsD l).getD ((Int.tmod (wR ((nI x1)+(1:Int))) (nI ((ptsD l).length))).toNat) []).getD 5 (.int 0))).r)],dP p]=side_con.args i2/\side_con.pre i2/\(∃ y2:Nat,(y2<=l.length)/\(l.length-y2<l.length-x1)/\((rf (vI (nI ((ptsD l).length))))/\(vI (wR ((nI x1)+(1:Int)))=vI (nI y2))/\(vI (min (conT l p x1) (sideZ i2.1 i2.2.1 i2.2.2))=vI (conT l p y2))/\(rf (Value.bool (decide (p.x.z<0))))/\(rf (Value.bool (decide (p.y.z<0))))/\(rf (L p.x.z.natAbs))/\(rf (L p.x.d))/\(rf (L p.y.z.natAbs))/\(rf (L p.y.d))/\(rf (ptsD l)))))))))))/\((decide ((nI x1)<(nI ((ptsD l).length))))=false->((vI (conT l p x1)=vI (conZ l p))))))) (by kernel_rfl) ?_
 delta vI wR nI
 have hvl:=vecsD_length l
 have hpl:=ptsD_len l
 refine ⟨l,by
  rfl,by
  exact ⟨hpre.1,by omega⟩,?_⟩
 refine ⟨⟨0,by
  omega,?_⟩,?_⟩
 ·refine ⟨rfl,?_,?_,rfl,rfl,rfl,rfl,rfl,rfl,rfl⟩
  ·rfl
  rfl
 intro (k:Nat) hki4
 have hki4:k<=l.length:=hki4
 refine And.symm ⟨λ c16=>?_,λ c16=>?_⟩
 ·try simp only [nrm] at c16
  rw [show k=l.length by omega];rfl
 try simp only [nrm] at c16
 have hkl:k<l.length:=by omega
 have m2:(k+1)%l.length<l.length:=(next_mod hkl (by omega)).2.1
 have m1:(Int.tmod (IntKind.i64.wrap (((k:Nat):Int)+(1:Int))) (((ptsD l).length:Nat):Int)).toNat=(k+1)%l.length:=by rw [hpl];exact (next_mod hkl (by omega)).1
 have m3:Int.tmod (IntKind.i64.wrap (((k:Nat):Int)+(1:Int))) (((ptsD l).length:Nat):Int)=(((k+1)%l.length:Nat):Int):=by rw [hpl];exact (next_mod hkl (by omega)).2.2
 refine ao (by omega) λ o17=>?_
 refine ao (by omega) λ o18=>?_
 refine ao (by omega) λ o19=>?_
 refine ao (by omega) λ o20=>?_
 refine ao (by omega) λ o21=>?_
 refine ⟨(ptAt l k,ptAt l ((k+1)%l.length),p),by
  rw [m1,pts_get hkl,pts_get m2];rfl,by
  trivial,?_⟩
 refine ⟨k+1,by
  trivial,by
  omega,?_⟩
 refine ⟨rfl,?_,?_,rfl,rfl,rfl,rfl,rfl,rfl,rfl⟩
 ·exact vint (wrap64 (by omega) (by omega))
 rfl
def sContains_con:Con:={ ι:=(List V2)×PtD,pre:=λ i=>i.2.has,args:=λ i=>[.one (.sl 38 [.int,.int] (vecsD i.1)),.agg [.im (.bool i.2.x.neg),.sl 3 [.int] i.2.x.num,.sl 3 [.int] i.2.x.den,.im (.bool i.2.y.neg),.sl 3 [.int] i.2.y.num,.sl 3 [.int] i.2.y.den]],res:=λ i=>⟨false,[none],[.im (Value.int .i64 (cpZ i.1 i.2))]⟩ }
theorem sContains_ok:sContains_con.Ok Tryz.prog 56:=by
 refine fok (X:=⟨tt,[(49,sIsPoly_con),(55,sIsPt_con),(58,sPointOf_con),(79,sSide_con)],[],43,[]⟩) mixed tt_ok (CTok.cons sIsPoly_ok (CTok.cons sIsPt_ok (CTok.cons sPointOf_ok (CTok.cons sSide_ok (CTok.nil _))))) Tryz.func56 (λ (i:(List V2)×PtD)=>[(5,.mk 7 (Nat) (λ x1=>{ tm:=[(0,.one (.one (.ext 1))),(3,.one (.one (.bp 2 0))),(17,.one (.one (.ext 1))),(18,.one (.one (.im (Value.int .i64 (((vecsD i.1).length:Nat):Int))))),(19,.one (.one (.im (Value.int .i64 ((x1:Nat):Int))))),(5,.one (.one (.im (Value.int .i64 (conT i.1 (pqR i.2) x1)))))],en:=[(2,.box [.im (Value.bool i.2.x.neg),.ext 3,.ext 4,.im (Value.bool i.2.y.neg),.ext 5,.ext 6]),(1,.view 38 [.int,.int] (vecsD i.1) []),(3,.view 3 [.int] i.2.x.num []),(4,.view 3 [.int] i.2.x.den []),(5,.view 3 [.int] i.2.y.num []),(6,.view 3 [.int] i.2.y.den [])] }) (λ x1=>x1<=i.1.length) (λ x1=>i.1.length-x1) (λ _=>[]))]) ?_
 rintro ⟨l,p⟩ hpre
 have hpre:p.has:=hpre
 refine by_nf (q:=∃ i1:(List V2),[DA.one (DC.sl 38 [.int,.int] (vecsD l))]=sIsPoly_con.args i1/\sIsPoly_con.pre i1/\(((!(!(isPoly i1)))=true->(∃ i2:PtD×Bool,[DA.agg [cB p.x.neg,cS p.x.num,cS p.x.den,cB p.y.neg,cS p.y.num,cS p.y.den]]=sIsPt_con.args i2/\sIsPt_con.pre i2/\(((!i2.2)=true->((vI (-1:Int)=vI (cpZ l p))))/\((!i2.2)=false->((∃ x1:Nat,(x1<=l.length)/\((rf (vI (nI ((vecsD l).length))))/\(vI (0:Int)=vI (nI x1))/\(vI (1:Int)=vI (conT l (pqR p) x1))/\(rf (Value.bool p.x.neg))/\(rf (Value.bool p.y.neg))/\(rf (vecsD l))/\(rf (p.x.num))/\(rf (p.x.den))/\(rf (p.y.num))/\(rf (p.y.den))))/\∀ x1:Nat,(x1<=l.length)->(((decide ((nI x1)<(nI ((vecsD l).length))))=true->((0<=(nI x1)/\(nI x1)<((vecsD l).length:Int))/\((x1<(vecsD l).length)/\(∃ i3:Int×Int,[DA.agg [cI (((((vecsD l).getD x1 []).getD 0 (.int 0))).n),cI (((((vecsD l).getD x1 []).getD 1 (.int 0))).n)]]=sPointOf_con.args i3/\sPointOf_con.pre i3/\(((nI ((vecsD l).length))≠0)/\((0<=(Int.tmod (wR ((nI x1)+(1:Int))) (nI ((vecsD l).length)))/\(Int.tmod (wR ((nI x1)+(1:Int))) (nI ((vecsD l).length)))<((vecsD l).length:Int))/\(((Int.tmod (wR ((nI x1)+(1:Int))) (nI ((vecsD l).length))).toNat<(vecsD l).length)/\(∃ i4:Int×Int,[DA.agg [cI (((((vecsD l).getD ((Int.tmod (wR ((nI x1)+(1:Int))) (nI ((vecsD l).length))).toNat) []).getD 0 (.int 0))).n),cI (((((vecsD l).getD ((Int.tmod (wR ((nI x1)+(1:Int))) (nI ((vecsD l).length))).toNat) []).getD 1 (.int 0))).n)]]=sPointOf_con.args i4/\sPointOf_con.pre i4/\(∃ i5:Pq×Pq×Pq,[DA.agg [cB (decide ((Fr.ofInt i3.1).z<0)),cS (L (Fr.ofInt i3.1).z.natAbs),cS (L (Fr.ofInt i3.1).d),cB (decide ((Fr.ofInt i3.2).z<0)),cS (L (Fr.ofInt i3.2).z.natAbs),cS (L (Fr.ofInt i3.2).d)],DA.agg [cB (decide ((Fr.ofInt i4.1).z<0)),cS (L (Fr.ofInt i4.1).z.natAbs),cS (L (Fr.ofInt i4.1).d),cB (decide ((Fr.ofInt i4.2).z<0)),cS (L (Fr.ofInt i4.2).z.natAbs),cS (L (Fr.ofInt i4.2).d)],DA.agg [cB p.x.neg,cS p.x.num,cS p.x.den,cB p.y.neg,cS p.y.num,cS p.y.den]]=sSide_con.args i5/\sSide_con.pre i5/\(((decide ((sideZ i5.1 i5.2.1 i5.2.2)<(conT l (pqR p) x1)))=true->(∃ y2:Nat,(y2<=l.length)/\(l.length-y2<l.length-x1)/\((rf (vI (nI ((vecsD l).length))))/\(vI (wR ((nI x1)+(1:Int)))=vI (nI y2))/\(vI (sideZ i5.1 i5.2.1 i5.2.2)=vI (conT l (pqR p) y2))/\(rf (Value.bool p.x.neg))/\(rf (Value.bool p.y.neg))/\(rf (vecsD l))/\(rf (p.x.num))/\(rf (p.x.den))/\(rf (p.y.num))/\(rf (p.y.den)))))/\((decide ((sideZ i5.1 i5.2.1 i5.2.2)<(conT l (pqR p) x1)))=false->(∃ y3:Nat,(y3<=l.length)/\(l.length-y3<l.length-x1)/\((rf (vI (nI ((vecsD l).length))))/\(vI (wR ((nI x1)+(1:Int)))=vI (nI y3))/\(vI (conT l (pqR p) x1)=vI (conT l (pqR p) y3))/\(rf (Value.bool p.x.neg))/\(rf (Value.bool p.y.neg))/\(rf (vecsD l))/\(rf (p.x.num))/\(rf (p.x.den))/\(rf (p.y.num))/\(rf (p.y.den)))))))))))))))/\((decide ((nI x1)<(nI ((vecsD l).length))))=false->((vI (conT l (pqR p) x1)=vI (cpZ l p))))))))))/\((!(!(isPoly i1)))=false->((vI (-1:Int)=vI (cpZ l p)))))) (by kernel_rfl) ?_
 delta vI wR nI
 have hvl:=vecsD_length l
 have hpl:=ptsD_len l
 refine ⟨l,by
  rfl,by
  trivial,?_⟩
 refine And.symm ⟨λ c4=>?_,λ c4=>?_⟩
 ·try simp only [nrm] at c4
  have hE:=cpZ_no1 (p:=p) c4
  rw [hE]
 try simp only [nrm] at c4
 refine ⟨(p,(okP p)),by
  rfl,by
  exact ⟨hpre,rfl⟩,?_⟩
 refine ⟨λ c8=>?_,λ c8=>?_⟩
 ·replace c8:(!(okP p))=true:=c8
  try simp only [nrm] at c8
  have hE:=cpZ_no2 (l:=l) c8
  rw [hE]
 replace c8:(!(okP p))=false:=c8
 try simp only [nrm] at c8
 have hE:=cpZ_yes c4 c8
 obtain ⟨e1,e2,e3,e4,e5,e6,e7,e8⟩:=pqR_ok hpre c8
 have hP:=isPoly_len c4
 refine ⟨⟨0,by
  omega,?_⟩,?_⟩
 ·refine ⟨rfl,?_,?_,rfl,rfl,rfl,rfl,rfl,rfl,rfl⟩
  ·rfl
  rfl
 intro (k:Nat) hki10
 have hki10:k<=l.length:=hki10
 refine And.symm ⟨λ c22=>?_,λ c22=>?_⟩
 ·try simp only [nrm] at c22
  rw [hE,show k=l.length by omega];rfl
 try simp only [nrm] at c22
 have hkl:k<l.length:=by omega
 have m2:(k+1)%l.length<l.length:=(next_mod hkl (by omega)).2.1
 have m1:(Int.tmod (IntKind.i64.wrap (((k:Nat):Int)+(1:Int))) (((vecsD l).length:Nat):Int)).toNat=(k+1)%l.length:=by rw [hvl];exact (next_mod hkl (by omega)).1
 have m3:Int.tmod (IntKind.i64.wrap (((k:Nat):Int)+(1:Int))) (((vecsD l).length:Nat):Int)=(((k+1)%l.length:Nat):Int):=by rw [hvl];exact (next_mod hkl (by omega)).2.2
 refine ao (by omega) λ o23=>?_
 refine ao (by omega) λ o24=>?_
 refine ⟨((l.getD k (0,0)).1,(l.getD k (0,0)).2),by
  rw [vecs_x (by omega),vecs_y (by omega)];rfl,by
  exact vec_i64 hP.2.2 hkl,?_⟩
 refine ao (by omega) λ o28=>?_
 refine ao (by omega) λ o29=>?_
 refine ao (by omega) λ o30=>?_
 refine ⟨((l.getD ((k+1)%l.length) (0,0)).1,(l.getD ((k+1)%l.length) (0,0)).2),by
  rw [m1,vecs_x m2,vecs_y m2];rfl,by
  try dsimp only [sPointOf_con]
  exact vec_i64 hP.2.2 m2,?_⟩
 refine ⟨(ptAt l k,ptAt l ((k+1)%l.length),pqR p),by
  rw [e1,e2,e3,e4,e5,e6];rfl,by
  trivial,?_⟩
 refine ⟨λ c37=>?_,λ c37=>?_⟩
 ·replace c37:(decide ((sideZ (ptAt l k) (ptAt l ((k+1)%l.length)) (pqR p))<(conT l (pqR p) k)))=true:=c37
  try simp only [nrm] at c37
  refine ⟨k+1,by
   trivial,by
   omega,?_⟩
  refine ⟨rfl,?_,?_,rfl,rfl,rfl,rfl,rfl,rfl,rfl⟩
  ·exact vint (wrap64 (by omega) (by omega))
  exact congrArg (Value.int .i64) (Int.min_eq_right (Int.le_of_lt c37)).symm
 replace c37:(decide ((sideZ (ptAt l k) (ptAt l ((k+1)%l.length)) (pqR p))<(conT l (pqR p) k)))=false:=c37
 try simp only [nrm] at c37
 refine ⟨k+1,by
  trivial,by
  omega,?_⟩
 refine ⟨rfl,?_,?_,rfl,rfl,rfl,rfl,rfl,rfl,rfl⟩
 ·exact vint (wrap64 (by omega) (by omega))
 exact congrArg (Value.int .i64) (Int.min_eq_left c37).symm
end Go.Proofs.YtlejeadlmpkffaaGreat
