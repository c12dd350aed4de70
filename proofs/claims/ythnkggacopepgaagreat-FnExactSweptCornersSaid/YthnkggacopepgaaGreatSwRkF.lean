import Derived.Test.YthnkggacopepgaaGreatSwRkE
import Derived.Test.YthnkggacopepgaaGreatSwScW
namespace Go.Proofs.YthnkggacopepgaaGreat
set_option linter.unusedVariables false
set_option linter.unusedSimpArgs false
open Go.RowKit
def sIsVec_con:Con:={ ι:=Int×Int,pre:=fun i=>True,args:=fun i=>[.agg [.im (.int .i64 i.1),.im (.int .i64 i.2)]],res:=fun i=>⟨false,[none],[.im (Value.bool (isVec (i.1,i.2)))]⟩ }
theorem sIsVec_ok:sIsVec_con.Ok Tryz.prog 94:=genOwn_ok rfl ⟨_,Tryz.func94,by decide,rfl⟩ (fun _=>Nat.le_of_ble_eq_true rfl) (fun _=>rfl) (fun i=>[.im (.bool (isVec (i.1,i.2)))]) (fun _=>rfl) (fun _=>rfl) (fun i hp w us h=>by
 obtain ⟨x,y⟩:=i
 have h:RdRow w [.int,.int] [.int x,.int y] us:=h
 obtain ⟨a,_,rfl,q1,h⟩:=RdRow.cons2 h
 obtain ⟨b,_,rfl,q2,h⟩:=RdRow.cons2 h
 obtain ⟨-,rfl⟩:=RdRow.nil_inv h
 obtain rfl:=Rd.int2 q1
 obtain rfl:=Rd.int2 q2
 refine (IsValidVec_c x y w).mono ?_
 rintro e w' ⟨rfl,hb⟩
 exact ⟨[Value.bool (isVec (x,y))],rfl,Own.leaf (Fp.mk_bool _),hb⟩)
theorem isPoly_len {l:List V2} (h:isPoly l=true):3≤l.length∧l.length≤16∧l.all isVec=true:=by
 simp only [isPoly,Bool.and_eq_true,inR_iff] at h
 exact ⟨by omega,by omega,h.1.2⟩
def frR (r:RatD):Fr:=Fr.mk' (zOf r.neg (valR r.num)) (valR r.den)
def okR (r:RatD):Bool:=ratOkR r.neg r.num r.den
def okP (p:PtD):Bool:=okR p.x && okR p.y
def pqR (p:PtD):Pq:=⟨frR p.x,frR p.y⟩
def RatD.has (r:RatD):Prop:=Dat.has (.sl 3 [.int]) (.sl r.num)∧Dat.has (.sl 3 [.int]) (.sl r.den)
def PtD.has (p:PtD):Prop:=p.x.has∧p.y.has
theorem mk_self {r:Fr} (h:r.d≠0):Fr.mk' r.z r.d=r:=by
 obtain ⟨q,hq,e1,e2⟩:=Fr.some_d h
 rw [e1,e2]
 unfold Fr.mk'
 rw [Rat.mkRat_self]
 exact (Fr.of_some hq).symm
theorem frR_ok {r:RatD} (hh:r.has) (h:okR r=true):r.neg=decide ((frR r).z < 0)∧r.num=L (frR r).z.natAbs∧r.den=L (frR r).d∧(frR r).d≠0:=by
 obtain ⟨s,hd,e1,e2,e3⟩:=ratOkR_inv hh.1 hh.2 h
 rw [Fr.neg_z] at e1
 rw [Fr.num_z] at e2
 rw [Fr.den_d] at e3
 have:frR r=s:=by
  unfold frR
  rw [e1,e2,e3,valR_L,valR_L,zOf_self,mk_self hd]
 rw [this]
 exact ⟨e1,e2,e3,hd⟩
theorem okP_both {p:PtD} (h:okP p=true):okR p.x=true∧okR p.y=true:=by
 unfold okP at h;rwa [Bool.and_eq_true] at h
theorem pqR_ok {p:PtD} (hh:p.has) (h:okP p=true):p.x.neg=decide ((pqR p).x.z < 0)∧p.x.num=L (pqR p).x.z.natAbs∧p.x.den=L (pqR p).x.d∧p.y.neg=decide ((pqR p).y.z < 0)∧p.y.num=L (pqR p).y.z.natAbs∧p.y.den=L (pqR p).y.d∧(pqR p).x.d≠0∧(pqR p).y.d≠0:=by
 obtain ⟨a1,a2,a3,a4⟩:=frR_ok hh.1 (okP_both h).1
 obtain ⟨b1,b2,b3,b4⟩:=frR_ok hh.2 (okP_both h).2
 exact ⟨a1,a2,a3,b1,b2,b3,a4,b4⟩
def ptOf (r:List Dat):PtD:=⟨⟨(r.getD 0 (.int 0)).b,(r.getD 1 (.int 0)).r,(r.getD 2 (.int 0)).r⟩,⟨(r.getD 3 (.int 0)).b,(r.getD 4 (.int 0)).r,(r.getD 5 (.int 0)).r⟩⟩
def ptD (p:PtD):List Dat:=[.bool p.x.neg,.sl p.x.num,.sl p.x.den,.bool p.y.neg,.sl p.y.num,.sl p.y.den]
theorem any1 (p:PtD):([ptD p].any fun r=>!(okP (ptOf r)))=!(okP p):=by
 show (!(okP p) || false)=_;rw [Bool.or_false]
theorem len_has {m:List (List Dat)} (h:Dat.has (.sl 3 [.int]) (.sl m)):m.length≤9223372036854775807:=has_len h
def pqRow (p:Pq):List Dat:=[.bool (decide (p.x.z < 0)),.sl (L p.x.z.natAbs),.sl (L p.x.d),.bool (decide (p.y.z < 0)),.sl (L p.y.z.natAbs),.sl (L p.y.d)]
theorem vec_i64 {l:List V2} (h:l.all isVec=true) {k:Nat} (hk:k < l.length):(-9223372036854775808≤(l.getD k (0,0)).1∧(l.getD k (0,0)).1≤9223372036854775807)∧-9223372036854775808≤(l.getD k (0,0)).2∧(l.getD k (0,0)).2≤9223372036854775807:=by
 have:=allVec_getD h hk
 have:=isVec_bd this
 omega
theorem one_has {p:PtD} (h:p.has):∀ k,k < [ptD p].length→(ptOf ([ptD p].getD k [])).has:=fun k hk=>by
 obtain rfl:k=0:=by simp only [List.length_cons,List.length_nil] at hk;omega
 exact h
def ptQ (p:Pq):PtD:=⟨⟨decide (p.x.z < 0),L p.x.z.natAbs,L p.x.d⟩,⟨decide (p.y.z < 0),L p.y.z.natAbs,L p.y.d⟩⟩
theorem ptQ_has (p:Pq):(ptQ p).has:=by
 have h1:=p.x.nlz
 have h2:=p.x.nld
 have h3:=p.y.nlz
 have h4:=p.y.nld
 exact ⟨⟨L_has _ (by omega),L_has _ (by omega)⟩,L_has _ (by omega),L_has _ (by omega)⟩
theorem ptQ_ok (p:Pq):okP (ptQ p)=p.good:=by
 show (ratOkR (decide (p.x.z < 0)) (L p.x.z.natAbs) (L p.x.d) && ratOkR (decide (p.y.z < 0)) (L p.y.z.natAbs) (L p.y.d))=_
 rw [ratOkR_zd,ratOkR_zd];rfl
theorem okP_def (p:PtD):okP p=(ratOkR p.x.neg p.x.num p.x.den && ratOkR p.y.neg p.y.num p.y.den):=rfl
def iIsPt_con:Con:={ ι:=PtD,pre:=fun i=>i.has,args:=fun i=>[.agg [.im (.bool i.x.neg),.sl 3 [.int] i.x.num,.sl 3 [.int] i.x.den,.im (.bool i.y.neg),.sl 3 [.int] i.y.num,.sl 3 [.int] i.y.den]],res:=fun i=>⟨false,[none],[.im (Value.bool (okP i))]⟩ }
set_option maxRecDepth 100000 in
theorem iIsPt_ok:iIsPt_con.Ok Tryz.prog 124:=by
 refine fn_ok (X:=⟨tt,[(174,RatOk_con)],[],11⟩) mixed tt_ok (CTok.cons RatOk_ok (CTok.nil _)) Tryz.func124 (by decide) rfl rfl rfl (fun _=>Nat.le_of_ble_eq_true rfl) (fun _=>Nat.le_of_ble_eq_true rfl) (fun _=>[]) ?_
 intro (p:PtD) hpre
 have hpre:p.has:=hpre
 refine by_nf (q:=∃ i1:Bool×(List (List Dat))×(List (List Dat)),[DA.agg [cB p.x.neg,cS p.x.num,cS p.x.den]]=RatOk_con.args i1∧RatOk_con.pre i1∧(((ratOkR i1.1 i1.2.1 i1.2.2)=true→(∃ i2:Bool×(List (List Dat))×(List (List Dat)),[DA.agg [cB p.y.neg,cS p.y.num,cS p.y.den]]=RatOk_con.args i2∧RatOk_con.pre i2∧((Value.bool (ratOkR i2.1 i2.2.1 i2.2.2)=Value.bool (okP p)))))∧((ratOkR i1.1 i1.2.1 i1.2.2)=false→((Value.bool false=Value.bool (okP p)))))) (by kernel_rfl) ?_
 refine ⟨(p.x.neg,p.x.num,p.x.den),by
  rfl,by
  show Dat.has (.sl 3 [.int]) (.sl p.x.num)∧Dat.has (.sl 3 [.int]) (.sl p.x.den)∧p.x.num.length≤9223372036854775807∧p.x.den.length≤9223372036854775807
  exact ⟨hpre.1.1,hpre.1.2,len_has hpre.1.1,len_has hpre.1.2⟩,?_⟩
 refine ⟨fun c4=>?_,fun c4=>?_⟩
 ·skip
  replace c4:(ratOkR p.x.neg p.x.num p.x.den)=true:=c4
  try simp only [nrm] at c4
  refine ⟨(p.y.neg,p.y.num,p.y.den),by
   rfl,by
   show Dat.has (.sl 3 [.int]) (.sl p.y.num)∧Dat.has (.sl 3 [.int]) (.sl p.y.den)∧p.y.num.length≤9223372036854775807∧p.y.den.length≤9223372036854775807
   exact ⟨hpre.2.1,hpre.2.2,len_has hpre.2.1,len_has hpre.2.2⟩,?_⟩
  show Value.bool (ratOkR p.y.neg p.y.num p.y.den)=Value.bool (okP p)
  exact congrArg Value.bool (by rw [okP_def,c4];first|rfl|(rw [Bool.true_and]))
 ·skip
  replace c4:(ratOkR p.x.neg p.x.num p.x.den)=false:=c4
  try simp only [nrm] at c4
  show Value.bool false=Value.bool (okP p)
  exact congrArg Value.bool (by rw [okP_def,c4];first|rfl|(rw [Bool.true_and]))
def sIsPt_con:Con:={ ι:=PtD×Bool,pre:=fun i=>i.1.has∧okP i.1=i.2,args:=fun i=>[.agg [.im (.bool i.1.x.neg),.sl 3 [.int] i.1.x.num,.sl 3 [.int] i.1.x.den,.im (.bool i.1.y.neg),.sl 3 [.int] i.1.y.num,.sl 3 [.int] i.1.y.den]],res:=fun i=>⟨false,[none],[.im (Value.bool i.2)]⟩ }
set_option maxRecDepth 100000 in
theorem sIsPt_ok:sIsPt_con.Ok Tryz.prog 60:=by
 refine fn_ok (X:=⟨tt,[(70,sRatOk_con)],[],11⟩) mixed tt_ok (CTok.cons sRatOk_ok (CTok.nil _)) Tryz.func60 (by decide) rfl rfl rfl (fun _=>Nat.le_of_ble_eq_true rfl) (fun _=>Nat.le_of_ble_eq_true rfl) (fun _=>[]) ?_
 rintro ⟨p,b⟩ hpre
 have hpre:p.has∧okP p=b:=hpre
 refine by_nf (q:=∃ i1:Bool×(List (List Dat))×(List (List Dat))×Bool,[DA.agg [cB p.x.neg,cS p.x.num,cS p.x.den]]=sRatOk_con.args i1∧sRatOk_con.pre i1∧((i1.2.2.2=true→(∃ i2:Bool×(List (List Dat))×(List (List Dat))×Bool,[DA.agg [cB p.y.neg,cS p.y.num,cS p.y.den]]=sRatOk_con.args i2∧sRatOk_con.pre i2∧((Value.bool i2.2.2.2=Value.bool b))))∧(i1.2.2.2=false→((Value.bool false=Value.bool b))))) (by kernel_rfl) ?_
 refine ⟨(p.x.neg,p.x.num,p.x.den,(ratOkR p.x.neg p.x.num p.x.den)),by
  rfl,by
  show Dat.has (.sl 3 [.int]) (.sl p.x.num)∧Dat.has (.sl 3 [.int]) (.sl p.x.den)∧p.x.num.length≤9223372036854775807∧p.x.den.length≤9223372036854775807∧ratOkR p.x.neg p.x.num p.x.den=(ratOkR p.x.neg p.x.num p.x.den)
  exact ⟨hpre.1.1.1,hpre.1.1.2,len_has hpre.1.1.1,len_has hpre.1.1.2,rfl⟩,?_⟩
 refine ⟨fun c4=>?_,fun c4=>?_⟩
 ·skip
  replace c4:(ratOkR p.x.neg p.x.num p.x.den)=true:=c4
  try simp only [nrm] at c4
  refine ⟨(p.y.neg,p.y.num,p.y.den,(ratOkR p.y.neg p.y.num p.y.den)),by
   rfl,by
   show Dat.has (.sl 3 [.int]) (.sl p.y.num)∧Dat.has (.sl 3 [.int]) (.sl p.y.den)∧p.y.num.length≤9223372036854775807∧p.y.den.length≤9223372036854775807∧ratOkR p.y.neg p.y.num p.y.den=(ratOkR p.y.neg p.y.num p.y.den)
   exact ⟨hpre.1.2.1,hpre.1.2.2,len_has hpre.1.2.1,len_has hpre.1.2.2,rfl⟩,?_⟩
  show Value.bool (ratOkR p.y.neg p.y.num p.y.den)=Value.bool b
  rw [← hpre.2]
  exact congrArg Value.bool (by rw [okP_def,c4];first|rfl|(rw [Bool.true_and]))
 ·skip
  replace c4:(ratOkR p.x.neg p.x.num p.x.den)=false:=c4
  try simp only [nrm] at c4
  show Value.bool false=Value.bool b
  rw [← hpre.2]
  exact congrArg Value.bool (by rw [okP_def,c4];first|rfl|(rw [Bool.true_and]))
def arePt1_con:Con:={ ι:=PtD,pre:=fun i=>i.has,args:=fun i=>[.agg [.im (.bool i.x.neg),.sl 3 [.int] i.x.num,.sl 3 [.int] i.x.den,.im (.bool i.y.neg),.sl 3 [.int] i.y.num,.sl 3 [.int] i.y.den]],res:=fun i=>⟨false,[none],[.im (Value.bool (!(okP i)))]⟩ }
set_option maxRecDepth 100000 in
theorem arePt1_ok:arePt1_con.Ok Tryz.prog 123:=by
 refine fn_ok (X:=⟨tt,[(124,iIsPt_con)],[],6⟩) mixed tt_ok (CTok.cons iIsPt_ok (CTok.nil _)) Tryz.func123 (by decide) rfl rfl rfl (fun _=>Nat.le_of_ble_eq_true rfl) (fun _=>Nat.le_of_ble_eq_true rfl) (fun _=>[]) ?_
 intro (p:PtD) hpre
 have hpre:p.has:=hpre
 refine by_nf (q:=∃ i1:PtD,[DA.agg [cB p.x.neg,cS p.x.num,cS p.x.den,cB p.y.neg,cS p.y.num,cS p.y.den]]=iIsPt_con.args i1∧iIsPt_con.pre i1∧((Value.bool (!(okP i1))=Value.bool (!(okP p))))) (by kernel_rfl) ?_
 refine ⟨p,by
  rfl,by
  exact hpre,?_⟩
 exact rfl
def ptIdx_con:Con:={ ι:=(List (List Dat)),pre:=fun i=>i.length≤9223372036854775807∧∀ k,k < i.length→(ptOf (i.getD k [])).has,args:=fun i=>[.one (.sl 39 [.bool,.sl 3 [.int],.sl 3 [.int],.bool,.sl 3 [.int],.sl 3 [.int]] i),.one (.ro (.fn 123 []))],res:=fun i=>⟨false,[none],[.im (Value.int .i64 (idxF (fun r=>!(okP (ptOf r))) i))]⟩ }
set_option maxRecDepth 100000 in
theorem ptIdx_ok:ptIdx_con.Ok Tryz.prog 173:=by
 refine fn_ok (X:=⟨tt,[(123,arePt1_con)],[],19⟩) mixed tt_ok (CTok.cons arePt1_ok (CTok.nil _)) Tryz.func173 (by decide) rfl rfl rfl (fun _=>Nat.le_of_ble_eq_true rfl) (fun _=>Nat.le_of_ble_eq_true rfl) (fun (i:(List (List Dat)))=>[(2,.mk 3 (Nat) (fun x1=>{ tm:=[(0,.one (.one (.ext 1))),(1,.one (.one (.ext 2))),(7,.one (.one (.im (Value.int .i64 ((i.length:Nat):Int))))),(8,.one (.one (.im (Value.int .i64 ((x1:Nat):Int)))))],en:=[(1,.view 39 [.bool,.sl 3 [.int],.sl 3 [.int],.bool,.sl 3 [.int],.sl 3 [.int]] i []),(2,.ro (.fn 123 []) [])] }) (fun x1=>x1≤i.length∧∀ j,j < x1→(fun r=>!(okP (ptOf r))) (i.getD j [])=false) (fun x1=>i.length - x1) (fun _=>[]))]) ?_
 intro (l:List (List Dat)) hpre
 have hpre:l.length≤9223372036854775807∧∀ k,k < l.length→(ptOf (l.getD k [])).has:=hpre
 refine by_nf (q:=(∃ x1:Nat,(x1≤l.length∧∀ j,j < x1→(fun r=>!(okP (ptOf r))) (l.getD j [])=false)∧((rf (Value.int .i64 ((l.length:Nat):Int)))∧(Value.int .i64 (0:Int)=Value.int .i64 ((x1:Nat):Int))∧(rf (l))∧((.fn 123 []:RO)=.fn 123 [])))∧∀ x1:Nat,(x1≤l.length∧∀ j,j < x1→(fun r=>!(okP (ptOf r))) (l.getD j [])=false)→(((decide (((x1:Nat):Int) < ((l.length:Nat):Int)))=true→((0≤((x1:Nat):Int)∧((x1:Nat):Int) < (l.length:Int))∧((x1 < l.length)∧(∃ i1:PtD,[DA.agg [cB ((((l.getD x1 []).getD 0 (.int 0))).b),cS ((((l.getD x1 []).getD 1 (.int 0))).r),cS ((((l.getD x1 []).getD 2 (.int 0))).r),cB ((((l.getD x1 []).getD 3 (.int 0))).b),cS ((((l.getD x1 []).getD 4 (.int 0))).r),cS ((((l.getD x1 []).getD 5 (.int 0))).r)]]=arePt1_con.args i1∧arePt1_con.pre i1∧(((!(okP i1))=true→((Value.int .i64 ((x1:Nat):Int)=Value.int .i64 (idxF (fun r=>!(okP (ptOf r))) l))))∧((!(okP i1))=false→(∃ y2:Nat,(y2≤l.length∧∀ j,j < y2→(fun r=>!(okP (ptOf r))) (l.getD j [])=false)∧(l.length - y2 < l.length - x1)∧((rf (Value.int .i64 ((l.length:Nat):Int)))∧(Value.int .i64 (IntKind.i64.wrap (((x1:Nat):Int)+(1:Int)))=Value.int .i64 ((y2:Nat):Int))∧(rf (l))∧((.fn 123 []:RO)=.fn 123 [])))))))))∧((decide (((x1:Nat):Int) < ((l.length:Nat):Int)))=false→((Value.int .i64 (-1:Int)=Value.int .i64 (idxF (fun r=>!(okP (ptOf r))) l)))))) (by kernel_rfl) ?_
 refine ⟨⟨0,by
  exact ⟨Nat.zero_le _,fun j hj=>absurd hj (Nat.not_lt_zero j)⟩,?_⟩,?_⟩
 ·skip
  refine ⟨rfl,?_,rfl,?_⟩
  ·rfl
  rfl
 intro (k:Nat) hki1
 have hki1:k≤l.length∧∀ j,j < k→(fun r=>!(okP (ptOf r))) (l.getD j [])=false:=hki1
 refine ⟨fun c7=>?_,fun c7=>?_⟩
 ·skip
  try simp only [nrm] at c7
  have o8:0≤((k:Nat):Int)∧((k:Nat):Int) < (l.length:Int):=by
   omega
  refine ⟨o8,?_⟩
  have o9:k < l.length:=by
   omega
  refine ⟨o9,?_⟩
  refine ⟨(ptOf (l.getD k [])),by
   rfl,by
   show (ptOf (l.getD k [])).has
   exact hpre.2 k (by omega),?_⟩
  refine ⟨fun c13=>?_,fun c13=>?_⟩
  ·skip
   try simp only [nrm] at c13
   show Value.int .i64 ((k:Nat):Int)=Value.int .i64 (idxF (fun r=>!(okP (ptOf r))) l)
   rw [idxF_at (k:=k) (by omega) hki1.2 (by show (!(okP (ptOf (l.getD k []))))=true;rw [c13];rfl)]
  ·skip
   try simp only [nrm] at c13
   refine ⟨k+1,by
    exact ⟨by omega,lt_step hki1.2 (by show (!(okP (ptOf (l.getD k []))))=false;rw [c13];rfl)⟩,by
    omega,?_⟩
   refine ⟨rfl,?_,rfl,?_⟩
   ·exact vint (wrap64 (by omega) (by omega))
   rfl
 ·skip
  try simp only [nrm] at c7
  show Value.int .i64 (-1:Int)=Value.int .i64 (idxF (fun r=>!(okP (ptOf r))) l)
  rw [idxF_none (fun j hj=>hki1.2 j (by omega))]
def ptCont_con:Con:={ ι:=(List (List Dat)),pre:=fun i=>i.length≤9223372036854775807∧∀ k,k < i.length→(ptOf (i.getD k [])).has,args:=fun i=>[.one (.sl 39 [.bool,.sl 3 [.int],.sl 3 [.int],.bool,.sl 3 [.int],.sl 3 [.int]] i),.one (.ro (.fn 123 []))],res:=fun i=>⟨false,[none],[.im (Value.bool (i.any (fun r=>!(okP (ptOf r)))))]⟩ }
set_option maxRecDepth 100000 in
theorem ptCont_ok:ptCont_con.Ok Tryz.prog 122:=by
 refine fn_ok (X:=⟨tt,[(173,ptIdx_con)],[],9⟩) mixed tt_ok (CTok.cons ptIdx_ok (CTok.nil _)) Tryz.func122 (by decide) rfl rfl rfl (fun _=>Nat.le_of_ble_eq_true rfl) (fun _=>Nat.le_of_ble_eq_true rfl) (fun _=>[]) ?_
 intro (l:List (List Dat)) hpre
 have hpre:l.length≤9223372036854775807∧∀ k,k < l.length→(ptOf (l.getD k [])).has:=hpre
 refine by_nf (q:=∃ i1:(List (List Dat)),[DA.one (DC.sl 39 [.bool,.sl 3 [.int],.sl 3 [.int],.bool,.sl 3 [.int],.sl 3 [.int]] l),DA.one (DC.ro (.fn 123 []))]=ptIdx_con.args i1∧ptIdx_con.pre i1∧((Value.bool (decide ((idxF (fun r=>!(okP (ptOf r))) i1)≥(0:Int)))=Value.bool (l.any (fun r=>!(okP (ptOf r))))))) (by kernel_rfl) ?_
 refine ⟨l,by
  rfl,by
  exact hpre,?_⟩
 exact congrArg Value.bool (idxF_any _ _)
def arePoints_con:Con:={ ι:=(List (List Dat)),pre:=fun i=>i.length≤9223372036854775807∧∀ k,k < i.length→(ptOf (i.getD k [])).has,args:=fun i=>[.one (.sl 39 [.bool,.sl 3 [.int],.sl 3 [.int],.bool,.sl 3 [.int],.sl 3 [.int]] i)],res:=fun i=>⟨false,[none],[.im (Value.bool (!(i.any (fun r=>!(okP (ptOf r))))))]⟩ }
set_option maxRecDepth 100000 in
theorem arePoints_ok:arePoints_con.Ok Tryz.prog 65:=by
 refine fn_ok (X:=⟨tt,[(122,ptCont_con)],[],6⟩) mixed tt_ok (CTok.cons ptCont_ok (CTok.nil _)) Tryz.func65 (by decide) rfl rfl rfl (fun _=>Nat.le_of_ble_eq_true rfl) (fun _=>Nat.le_of_ble_eq_true rfl) (fun _=>[]) ?_
 intro (l:List (List Dat)) hpre
 have hpre:l.length≤9223372036854775807∧∀ k,k < l.length→(ptOf (l.getD k [])).has:=hpre
 refine by_nf (q:=∃ i1:(List (List Dat)),[DA.one (DC.sl 39 [.bool,.sl 3 [.int],.sl 3 [.int],.bool,.sl 3 [.int],.sl 3 [.int]] l),DA.one (DC.ro (.fn 123 []))]=ptCont_con.args i1∧ptCont_con.pre i1∧((Value.bool (!(i1.any (fun r=>!(okP (ptOf r)))))=Value.bool (!(l.any (fun r=>!(okP (ptOf r)))))))) (by kernel_rfl) ?_
 refine ⟨l,by
  rfl,by
  exact hpre,?_⟩
 exact rfl
end Go.Proofs.YthnkggacopepgaaGreat
