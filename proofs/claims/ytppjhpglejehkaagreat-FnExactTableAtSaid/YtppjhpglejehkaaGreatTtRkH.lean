import Derived.Test.YtppjhpglejehkaaGreatTtRkG
import Derived.Test.YtppjhpglejehkaaGreatTtNum4
namespace Go.Proofs.YtppjhpglejehkaaGreat
set_option linter.unusedVariables false
set_option linter.unusedSimpArgs false
open Go.RowKit
theorem z_of {a b:Int} (h1:decide (a < 0)=decide (b < 0)) (h2:a.natAbs=b.natAbs):a=b:=by rw [← zOf_self a,← zOf_self b,h1,h2]
def fQ (l:List V2) (p:Pq) (k:Nat):Fr:=segQ p (ptAt l k) (ptAt l ((k+1) % l.length))
def minI (l:List V2) (p:Pq):Nat→Fr
 | 0=>fQ l p (l.length - 1)
 | k+1=>Fr.min (minI l p k) (fQ l p k)
def minT (l:List V2) (p:Pq):Nat→Fr
 | 0=>fQ l p 0
 | k+1=>Fr.min (minT l p k) (fQ l p k)
def polyQ (l:List V2) (p:Pq):Fr:=if conZ l p≥0 then Fr.ofInt 0 else minI l p (l.length - 1)
theorem minI_T (l:List V2) (p:Pq):∀ k,minI l p (k+1)=Fr.min (fQ l p (l.length - 1)) (minT l p (k+1))
 | 0=>by
  show Fr.min (fQ l p (l.length - 1)) (fQ l p 0)=Fr.min (fQ l p (l.length - 1)) (Fr.min (fQ l p 0) (fQ l p 0))
  rw [Fr.min_self]
 | k+1=>by
  show Fr.min (minI l p (k+1)) (fQ l p (k+1))=Fr.min (fQ l p (l.length - 1)) (Fr.min (minT l p (k+1)) (fQ l p (k+1)))
  rw [minI_T l p k,Fr.min_assoc]
theorem minT_all {l:List V2} {p:Pq} (h:3≤l.length):minT l p l.length=minI l p (l.length - 1):=by
 obtain ⟨n,hn⟩:∃ n,l.length=n+2:=⟨l.length - 2,by omega⟩
 have e:=minI_T l p n
 rw [hn] at e ⊢
 show Fr.min (minT l p (n+1)) (fQ l p (n+1))=minI l p (n+1)
 rw [e,Fr.min_com];rfl
theorem poly_first {l:List V2} {p:Pq} (h:0 < l.length):segQ p (ptAt l (l.length - 1)) (ptAt l 0)=minI l p 0:=by
 show _=segQ p (ptAt l (l.length - 1)) (ptAt l ((l.length - 1+1) % l.length))
 rw [Nat.sub_add_cancel h,Nat.mod_self]
theorem poly_step {l:List V2} {p:Pq} {k:Nat} (h1:1≤k) (h2:k < l.length):Fr.min (minI l p (k - 1)) (segQ p (ptAt l (k - 1)) (ptAt l k))=minI l p (k+1 - 1):=by
 obtain ⟨m,rfl⟩:∃ m,k=m+1:=⟨k - 1,by omega⟩
 show _=Fr.min (minI l p m) (segQ p (ptAt l m) (ptAt l ((m+1) % l.length)))
 rw [Nat.mod_eq_of_lt h2];rfl
theorem poly_pos {l:List V2} {p:Pq} (h:conZ l p≥0):polyQ l p=Fr.ofInt 0:=by unfold polyQ;rw [if_pos h]
theorem poly_neg {l:List V2} {p:Pq} (h:¬ conZ l p≥0):polyQ l p=minI l p (l.length - 1):=by unfold polyQ;rw [if_neg h]
def spR (l:List V2) (p:PtD):Fr:=if isPoly l=true∧okP p=true then polyQ l (pqR p) else Fr.none
theorem spR_no1 {l:List V2} {p:PtD} (h:isPoly l=false):spR l p=Fr.none:=by unfold spR;rw [if_neg (by rw [h];simp)]
theorem spR_no2 {l:List V2} {p:PtD} (h:okP p=false):spR l p=Fr.none:=by unfold spR;rw [if_neg (by rw [h];simp)]
theorem spR_yes {l:List V2} {p:PtD} (h:isPoly l=true) (h2:okP p=true):spR l p=polyQ l (pqR p):=by unfold spR;rw [if_pos ⟨h,h2⟩]
def eqInts_con:Con:={ ι:=Nat×Nat,pre:=fun i=>nl i.1≤1048576∧nl i.2≤1048576,args:=fun i=>[.one (.sl 3 [.int] (L i.1)),.one (.sl 3 [.int] (L i.2))],res:=fun i=>⟨false,[none],[.im (Value.bool (decide (i.1=i.2)))]⟩ }
set_option maxRecDepth 100000 in
theorem eqInts_ok:eqInts_con.Ok Tryz.prog 115:=by
 refine fn_ok (X:=⟨tt,[],[],26⟩) mixed tt_ok (CTok.nil _) Tryz.func115 (by decide) rfl rfl rfl (fun _=>Nat.le_of_ble_eq_true rfl) (fun _=>Nat.le_of_ble_eq_true rfl) (fun (i:Nat×Nat)=>[(4,.mk 3 (Nat) (fun x1=>{ tm:=[(0,.one (.one (.ext 1))),(1,.one (.one (.ext 2))),(12,.one (.one (.im (Value.int .i64 (((L i.1).length:Nat):Int))))),(13,.one (.one (.im (Value.int .i64 ((x1:Nat):Int)))))],en:=[(1,.view 3 [.int] (L i.1) []),(2,.view 3 [.int] (L i.2) [])] }) (fun x1=>x1≤nl i.1∧nl i.1=nl i.2∧digN x1 i.1=digN x1 i.2) (fun x1=>nl i.1 - x1) (fun _=>[]))]) ?_
 rintro ⟨a,b⟩ hpre
 have hpre:nl a≤1048576∧nl b≤1048576:=hpre
 refine by_nf (q:=(((((L a).length:Nat):Int) != (((L b).length:Nat):Int))=true→((Value.bool false=Value.bool (decide (a=b)))))∧(((((L a).length:Nat):Int) != (((L b).length:Nat):Int))=false→((∃ x1:Nat,(x1≤nl a∧nl a=nl b∧digN x1 a=digN x1 b)∧((rf (Value.int .i64 (((L a).length:Nat):Int)))∧(Value.int .i64 (0:Int)=Value.int .i64 ((x1:Nat):Int))∧(rf (L a))∧(rf (L b))))∧∀ x1:Nat,(x1≤nl a∧nl a=nl b∧digN x1 a=digN x1 b)→(((decide (((x1:Nat):Int) < (((L a).length:Nat):Int)))=true→((0≤((x1:Nat):Int)∧((x1:Nat):Int) < ((L a).length:Int))∧((x1 < (L a).length)∧((0≤((x1:Nat):Int)∧((x1:Nat):Int) < ((L b).length:Int))∧((x1 < (L b).length)∧(((((((L a).getD x1 []).getD 0 (.int 0))).n != ((((L b).getD x1 []).getD 0 (.int 0))).n)=true→((Value.bool false=Value.bool (decide (a=b)))))∧((((((L a).getD x1 []).getD 0 (.int 0))).n != ((((L b).getD x1 []).getD 0 (.int 0))).n)=false→(∃ y2:Nat,(y2≤nl a∧nl a=nl b∧digN y2 a=digN y2 b)∧(nl a - y2 < nl a - x1)∧((rf (Value.int .i64 (((L a).length:Nat):Int)))∧(Value.int .i64 (IntKind.i64.wrap (((x1:Nat):Int)+(1:Int)))=Value.int .i64 ((y2:Nat):Int))∧(rf (L a))∧(rf (L b)))))))))))∧((decide (((x1:Nat):Int) < (((L a).length:Nat):Int)))=false→((Value.bool true=Value.bool (decide (a=b))))))))) (by kernel_rfl) ?_
 have ha:=L_len a
 have hb:=L_len b
 refine ⟨fun c1=>?_,fun c1=>?_⟩
 ·skip
  try simp only [nrm] at c1
  show Value.bool false=Value.bool (decide (a=b))
  exact congrArg Value.bool (decide_eq_false (fun e=>by subst e;omega)).symm
 ·skip
  try simp only [nrm] at c1
  refine ⟨⟨0,by
   exact ⟨Nat.zero_le _,by omega,rfl⟩,?_⟩,?_⟩
  ·skip
   refine ⟨rfl,?_,rfl,rfl⟩
   rfl
  intro (k:Nat) hki3
  have hki3:k≤nl a∧nl a=nl b∧digN k a=digN k b:=hki3
  refine ⟨fun c9=>?_,fun c9=>?_⟩
  ·skip
   try simp only [nrm] at c9
   have o10:0≤((k:Nat):Int)∧((k:Nat):Int) < ((L a).length:Int):=by
    omega
   refine ⟨o10,?_⟩
   have o11:k < (L a).length:=by
    omega
   refine ⟨o11,?_⟩
   have o12:0≤((k:Nat):Int)∧((k:Nat):Int) < ((L b).length:Int):=by
    omega
   refine ⟨o12,?_⟩
   have o13:k < (L b).length:=by
    omega
   refine ⟨o13,?_⟩
   refine ⟨fun c14=>?_,fun c14=>?_⟩
   ·skip
    try simp only [nrm] at c14
    rw [L_n,L_n] at c14
    show Value.bool false=Value.bool (decide (a=b))
    exact congrArg Value.bool (decide_eq_false (fun e=>c14 (by rw [e]))).symm
   ·skip
    try simp only [nrm] at c14
    rw [L_n,L_n] at c14
    refine ⟨k+1,by
     exact ⟨by omega,hki3.2.1,by rw [digN_succ,digN_succ,hki3.2.2,show dgt a k=dgt b k by omega]⟩,by
     omega,?_⟩
    refine ⟨rfl,?_,rfl,rfl⟩
    exact vint (wrap64 (by omega) (by omega))
  ·skip
   try simp only [nrm] at c9
   show Value.bool true=Value.bool (decide (a=b))
   exact congrArg Value.bool (decide_eq_true (limbs_ext hki3.2.1 (by have:=hki3.2.2;rwa [show k=nl a by omega] at this))).symm
def ratEqual_con:Con:={ ι:=Fr×Fr,pre:=fun i=>True,args:=fun i=>[.agg [.im (.bool (decide (i.1.z < 0))),.sl 3 [.int] (L i.1.z.natAbs),.sl 3 [.int] (L i.1.d)],.agg [.im (.bool (decide (i.2.z < 0))),.sl 3 [.int] (L i.2.z.natAbs),.sl 3 [.int] (L i.2.d)]],res:=fun i=>⟨false,[none],[.im (Value.bool (eqF i.1 i.2))]⟩ }
set_option maxRecDepth 100000 in
theorem ratEqual_ok:ratEqual_con.Ok Tryz.prog 74:=by
 refine fn_ok (X:=⟨tt,[(115,eqInts_con)],[],28⟩) mixed tt_ok (CTok.cons eqInts_ok (CTok.nil _)) Tryz.func74 (by decide) rfl rfl rfl (fun _=>Nat.le_of_ble_eq_true rfl) (fun _=>Nat.le_of_ble_eq_true rfl) (fun _=>[]) ?_
 rintro ⟨r,s⟩ hpre
 have hpre:True:=hpre
 refine by_nf (q:=(((decide (r.z < 0)) == (decide (s.z < 0)))=true→(∃ i1:Nat×Nat,[DA.one (cS (L r.z.natAbs)),DA.one (cS (L s.z.natAbs))]=eqInts_con.args i1∧eqInts_con.pre i1∧(((decide (i1.1=i1.2))=true→(∃ i2:Nat×Nat,[DA.one (cS (L r.d)),DA.one (cS (L s.d))]=eqInts_con.args i2∧eqInts_con.pre i2∧((Value.bool (decide (i2.1=i2.2))=Value.bool (eqF r s)))))∧((decide (i1.1=i1.2))=false→((Value.bool false=Value.bool (eqF r s)))))))∧(((decide (r.z < 0)) == (decide (s.z < 0)))=false→((Value.bool false=Value.bool (eqF r s))))) (by kernel_rfl) ?_
 have h1:=r.nlz
 have h2:=r.nld
 have h3:=s.nlz
 have h4:=s.nld
 refine ⟨fun c1=>?_,fun c1=>?_⟩
 ·skip
  try simp only [nrm] at c1
  refine ⟨(r.z.natAbs,s.z.natAbs),by
   rfl,by
   show nl r.z.natAbs≤1048576∧nl s.z.natAbs≤1048576
   exact ⟨by omega,by omega⟩,?_⟩
  refine ⟨fun c5=>?_,fun c5=>?_⟩
  ·skip
   replace c5:(decide (r.z.natAbs=s.z.natAbs))=true:=c5
   try simp only [nrm] at c5
   refine ⟨(r.d,s.d),by
    rfl,by
    show nl r.d≤1048576∧nl s.d≤1048576
    exact ⟨by omega,by omega⟩,?_⟩
   show Value.bool (decide (r.d=s.d))=Value.bool (eqF r s)
   exact congrArg Value.bool (by unfold eqF;rw [decide_eq_true (z_of c1 c5)];rfl)
  ·skip
   replace c5:(decide (r.z.natAbs=s.z.natAbs))=false:=c5
   try simp only [nrm] at c5
   show Value.bool false=Value.bool (eqF r s)
   exact congrArg Value.bool (by unfold eqF;rw [decide_eq_false (fun e=>c5 (by rw [e]))];rfl)
 ·skip
  try simp only [nrm] at c1
  show Value.bool false=Value.bool (eqF r s)
  exact congrArg Value.bool (by unfold eqF;rw [decide_eq_false (fun e=>c1 (by rw [e]))];rfl)
def samePoint_con:Con:={ ι:=Pq×Pq,pre:=fun i=>True,args:=fun i=>[.agg [.im (.bool (decide (i.1.x.z < 0))),.sl 3 [.int] (L i.1.x.z.natAbs),.sl 3 [.int] (L i.1.x.d),.im (.bool (decide (i.1.y.z < 0))),.sl 3 [.int] (L i.1.y.z.natAbs),.sl 3 [.int] (L i.1.y.d)],.agg [.im (.bool (decide (i.2.x.z < 0))),.sl 3 [.int] (L i.2.x.z.natAbs),.sl 3 [.int] (L i.2.x.d),.im (.bool (decide (i.2.y.z < 0))),.sl 3 [.int] (L i.2.y.z.natAbs),.sl 3 [.int] (L i.2.y.d)]],res:=fun i=>⟨false,[none],[.im (Value.bool (eqP i.1 i.2))]⟩ }
set_option maxRecDepth 100000 in
theorem samePoint_ok:samePoint_con.Ok Tryz.prog 48:=by
 refine fn_ok (X:=⟨tt,[(74,ratEqual_con)],[],17⟩) mixed tt_ok (CTok.cons ratEqual_ok (CTok.nil _)) Tryz.func48 (by decide) rfl rfl rfl (fun _=>Nat.le_of_ble_eq_true rfl) (fun _=>Nat.le_of_ble_eq_true rfl) (fun _=>[]) ?_
 rintro ⟨p,q⟩ hpre
 have hpre:True:=hpre
 refine by_nf (q:=∃ i1:Fr×Fr,[dF p.x,dF q.x]=ratEqual_con.args i1∧ratEqual_con.pre i1∧(((eqF i1.1 i1.2)=true→(∃ i2:Fr×Fr,[dF p.y,dF q.y]=ratEqual_con.args i2∧ratEqual_con.pre i2∧((Value.bool (eqF i2.1 i2.2)=Value.bool (eqP p q)))))∧((eqF i1.1 i1.2)=false→((Value.bool false=Value.bool (eqP p q)))))) (by kernel_rfl) ?_
 refine ⟨(p.x,q.x),by
  rfl,by
  trivial,?_⟩
 refine ⟨fun c4=>?_,fun c4=>?_⟩
 ·skip
  replace c4:(eqF p.x q.x)=true:=c4
  try simp only [nrm] at c4
  refine ⟨(p.y,q.y),by
   rfl,by
   trivial,?_⟩
  show Value.bool (eqF p.y q.y)=Value.bool (eqP p q)
  exact congrArg Value.bool (by unfold eqP;rw [c4];rfl)
 ·skip
  replace c4:(eqF p.x q.x)=false:=c4
  try simp only [nrm] at c4
  exact congrArg Value.bool (by unfold eqP;rw [c4];rfl)
def sqDist_con:Con:={ ι:=Pq×Pq,pre:=fun i=>True,args:=fun i=>[.agg [.im (.bool (decide (i.1.x.z < 0))),.sl 3 [.int] (L i.1.x.z.natAbs),.sl 3 [.int] (L i.1.x.d),.im (.bool (decide (i.1.y.z < 0))),.sl 3 [.int] (L i.1.y.z.natAbs),.sl 3 [.int] (L i.1.y.d)],.agg [.im (.bool (decide (i.2.x.z < 0))),.sl 3 [.int] (L i.2.x.z.natAbs),.sl 3 [.int] (L i.2.x.d),.im (.bool (decide (i.2.y.z < 0))),.sl 3 [.int] (L i.2.y.z.natAbs),.sl 3 [.int] (L i.2.y.d)]],res:=fun i=>⟨false,[some 3],[.im (Value.bool (decide ((sdQ i.1 i.2).z < 0))),.own 3 [.int] (L (sdQ i.1 i.2).z.natAbs),.own 3 [.int] (L (sdQ i.1 i.2).d)]⟩ }
set_option maxRecDepth 100000 in
theorem sqDist_ok:sqDist_con.Ok Tryz.prog 199:=by
 refine fn_ok (X:=⟨tt,[(137,ratSub_con),(135,ratMul_con),(134,ratAdd_con)],[],24⟩) mixed tt_ok (CTok.cons ratSub_ok (CTok.cons ratMul_ok (CTok.cons ratAdd_ok (CTok.nil _)))) Tryz.func199 (by decide) rfl rfl rfl (fun _=>Nat.le_of_ble_eq_true rfl) (fun _=>Nat.le_of_ble_eq_true rfl) (fun _=>[]) ?_
 rintro ⟨p,q⟩ hpre
 have hpre:True:=hpre
 refine by_nf (q:=∃ i1:Fr×Fr,[dF p.x,dF q.x]=ratSub_con.args i1∧ratSub_con.pre i1∧(∃ i2:Fr×Fr,[dF p.y,dF q.y]=ratSub_con.args i2∧ratSub_con.pre i2∧(∃ i3:Fr×Fr,[dF (Fr.sub i1.1 i1.2),dF (Fr.sub i1.1 i1.2)]=ratMul_con.args i3∧ratMul_con.pre i3∧(∃ i4:Fr×Fr,[dF (Fr.sub i2.1 i2.2),dF (Fr.sub i2.1 i2.2)]=ratMul_con.args i4∧ratMul_con.pre i4∧(∃ i5:Fr×Fr,[dF (Fr.mul i3.1 i3.2),dF (Fr.mul i4.1 i4.2)]=ratAdd_con.args i5∧ratAdd_con.pre i5∧((eqC (Fr.add i5.1 i5.2) (sdQ p q)))))))) (by kernel_rfl) ?_
 refine ⟨(p.x,q.x),by
  rfl,by
  trivial,?_⟩
 refine ⟨(p.y,q.y),by
  rfl,by
  trivial,?_⟩
 refine ⟨((Fr.sub p.x q.x),(Fr.sub p.x q.x)),by
  rfl,by
  trivial,?_⟩
 refine ⟨((Fr.sub p.y q.y),(Fr.sub p.y q.y)),by
  rfl,by
  trivial,?_⟩
 refine ⟨((Fr.mul (Fr.sub p.x q.x) (Fr.sub p.x q.x)),(Fr.mul (Fr.sub p.y q.y) (Fr.sub p.y q.y))),by
  rfl,by
  trivial,?_⟩
 refine eqC_of ?_
 show Fr.add (Fr.mul (Fr.sub p.x q.x) (Fr.sub p.x q.x)) (Fr.mul (Fr.sub p.y q.y) (Fr.sub p.y q.y))=sdQ p q
 rfl
def sSqDist_con:Con:={ ι:=Pq×Pq,pre:=fun i=>True,args:=fun i=>[.agg [.im (.bool (decide (i.1.x.z < 0))),.sl 3 [.int] (L i.1.x.z.natAbs),.sl 3 [.int] (L i.1.x.d),.im (.bool (decide (i.1.y.z < 0))),.sl 3 [.int] (L i.1.y.z.natAbs),.sl 3 [.int] (L i.1.y.d)],.agg [.im (.bool (decide (i.2.x.z < 0))),.sl 3 [.int] (L i.2.x.z.natAbs),.sl 3 [.int] (L i.2.x.d),.im (.bool (decide (i.2.y.z < 0))),.sl 3 [.int] (L i.2.y.z.natAbs),.sl 3 [.int] (L i.2.y.d)]],res:=fun i=>⟨false,[some 3],[.im (Value.bool (decide ((sdQ i.1 i.2).z < 0))),.own 3 [.int] (L (sdQ i.1 i.2).z.natAbs),.own 3 [.int] (L (sdQ i.1 i.2).d)]⟩ }
set_option maxRecDepth 100000 in
theorem sSqDist_ok:sSqDist_con.Ok Tryz.prog 192:=by
 refine fn_ok (X:=⟨tt,[(122,sRatSub_con),(124,sRatMul_con),(123,sRatAdd_con)],[],24⟩) mixed tt_ok (CTok.cons sRatSub_ok (CTok.cons sRatMul_ok (CTok.cons sRatAdd_ok (CTok.nil _)))) Tryz.func192 (by decide) rfl rfl rfl (fun _=>Nat.le_of_ble_eq_true rfl) (fun _=>Nat.le_of_ble_eq_true rfl) (fun _=>[]) ?_
 rintro ⟨p,q⟩ hpre
 have hpre:True:=hpre
 refine by_nf (q:=∃ i1:Fr×Fr,[dF q.x,dF p.x]=sRatSub_con.args i1∧sRatSub_con.pre i1∧(∃ i2:Fr×Fr,[dF q.y,dF p.y]=sRatSub_con.args i2∧sRatSub_con.pre i2∧(∃ i3:Fr×Fr,[dF (Fr.sub i1.1 i1.2),dF (Fr.sub i1.1 i1.2)]=sRatMul_con.args i3∧sRatMul_con.pre i3∧(∃ i4:Fr×Fr,[dF (Fr.sub i2.1 i2.2),dF (Fr.sub i2.1 i2.2)]=sRatMul_con.args i4∧sRatMul_con.pre i4∧(∃ i5:Fr×Fr,[dF (Fr.mul i3.1 i3.2),dF (Fr.mul i4.1 i4.2)]=sRatAdd_con.args i5∧sRatAdd_con.pre i5∧((eqC (Fr.add i5.1 i5.2) (sdQ p q)))))))) (by kernel_rfl) ?_
 refine ⟨(q.x,p.x),by
  rfl,by
  trivial,?_⟩
 refine ⟨(q.y,p.y),by
  rfl,by
  trivial,?_⟩
 refine ⟨((Fr.sub q.x p.x),(Fr.sub q.x p.x)),by
  rfl,by
  trivial,?_⟩
 refine ⟨((Fr.sub q.y p.y),(Fr.sub q.y p.y)),by
  rfl,by
  trivial,?_⟩
 refine ⟨((Fr.mul (Fr.sub q.x p.x) (Fr.sub q.x p.x)),(Fr.mul (Fr.sub q.y p.y) (Fr.sub q.y p.y))),by
  rfl,by
  trivial,?_⟩
 refine eqC_of ?_
 show Fr.add (Fr.mul (Fr.sub q.x p.x) (Fr.sub q.x p.x)) (Fr.mul (Fr.sub q.y p.y) (Fr.sub q.y p.y))=sdQ p q
 rw [← sd_swap p q];rfl
def inner_con:Con:={ ι:=Pq×Pq×Pq,pre:=fun i=>True,args:=fun i=>[.agg [.im (.bool (decide (i.1.x.z < 0))),.sl 3 [.int] (L i.1.x.z.natAbs),.sl 3 [.int] (L i.1.x.d),.im (.bool (decide (i.1.y.z < 0))),.sl 3 [.int] (L i.1.y.z.natAbs),.sl 3 [.int] (L i.1.y.d)],.agg [.im (.bool (decide (i.2.1.x.z < 0))),.sl 3 [.int] (L i.2.1.x.z.natAbs),.sl 3 [.int] (L i.2.1.x.d),.im (.bool (decide (i.2.1.y.z < 0))),.sl 3 [.int] (L i.2.1.y.z.natAbs),.sl 3 [.int] (L i.2.1.y.d)],.agg [.im (.bool (decide (i.2.2.x.z < 0))),.sl 3 [.int] (L i.2.2.x.z.natAbs),.sl 3 [.int] (L i.2.2.x.d),.im (.bool (decide (i.2.2.y.z < 0))),.sl 3 [.int] (L i.2.2.y.z.natAbs),.sl 3 [.int] (L i.2.2.y.d)]],res:=fun i=>⟨false,[some 3],[.im (Value.bool (decide ((innQ i.1 i.2.1 i.2.2).z < 0))),.own 3 [.int] (L (innQ i.1 i.2.1 i.2.2).z.natAbs),.own 3 [.int] (L (innQ i.1 i.2.1 i.2.2).d)]⟩ }
set_option maxRecDepth 100000 in
theorem inner_ok:inner_con.Ok Tryz.prog 201:=by
 refine fn_ok (X:=⟨tt,[(137,ratSub_con),(135,ratMul_con),(134,ratAdd_con)],[],30⟩) mixed tt_ok (CTok.cons ratSub_ok (CTok.cons ratMul_ok (CTok.cons ratAdd_ok (CTok.nil _)))) Tryz.func201 (by decide) rfl rfl rfl (fun _=>Nat.le_of_ble_eq_true rfl) (fun _=>Nat.le_of_ble_eq_true rfl) (fun _=>[]) ?_
 rintro ⟨a,b,c⟩ hpre
 have hpre:True:=hpre
 refine by_nf (q:=∃ i1:Fr×Fr,[dF b.x,dF a.x]=ratSub_con.args i1∧ratSub_con.pre i1∧(∃ i2:Fr×Fr,[dF c.x,dF a.x]=ratSub_con.args i2∧ratSub_con.pre i2∧(∃ i3:Fr×Fr,[dF (Fr.sub i1.1 i1.2),dF (Fr.sub i2.1 i2.2)]=ratMul_con.args i3∧ratMul_con.pre i3∧(∃ i4:Fr×Fr,[dF b.y,dF a.y]=ratSub_con.args i4∧ratSub_con.pre i4∧(∃ i5:Fr×Fr,[dF c.y,dF a.y]=ratSub_con.args i5∧ratSub_con.pre i5∧(∃ i6:Fr×Fr,[dF (Fr.sub i4.1 i4.2),dF (Fr.sub i5.1 i5.2)]=ratMul_con.args i6∧ratMul_con.pre i6∧(∃ i7:Fr×Fr,[dF (Fr.mul i3.1 i3.2),dF (Fr.mul i6.1 i6.2)]=ratAdd_con.args i7∧ratAdd_con.pre i7∧((eqC (Fr.add i7.1 i7.2) (innQ a b c)))))))))) (by kernel_rfl) ?_
 refine ⟨(b.x,a.x),by
  rfl,by
  trivial,?_⟩
 refine ⟨(c.x,a.x),by
  rfl,by
  trivial,?_⟩
 refine ⟨((Fr.sub b.x a.x),(Fr.sub c.x a.x)),by
  rfl,by
  trivial,?_⟩
 refine ⟨(b.y,a.y),by
  rfl,by
  trivial,?_⟩
 refine ⟨(c.y,a.y),by
  rfl,by
  trivial,?_⟩
 refine ⟨((Fr.sub b.y a.y),(Fr.sub c.y a.y)),by
  rfl,by
  trivial,?_⟩
 refine ⟨((Fr.mul (Fr.sub b.x a.x) (Fr.sub c.x a.x)),(Fr.mul (Fr.sub b.y a.y) (Fr.sub c.y a.y))),by
  rfl,by
  trivial,?_⟩
 refine eqC_of ?_
 show Fr.add (Fr.mul (Fr.sub b.x a.x) (Fr.sub c.x a.x)) (Fr.mul (Fr.sub b.y a.y) (Fr.sub c.y a.y))=innQ a b c
 rfl
def sInner_con:Con:={ ι:=Pq×Pq×Pq,pre:=fun i=>True,args:=fun i=>[.agg [.im (.bool (decide (i.1.x.z < 0))),.sl 3 [.int] (L i.1.x.z.natAbs),.sl 3 [.int] (L i.1.x.d),.im (.bool (decide (i.1.y.z < 0))),.sl 3 [.int] (L i.1.y.z.natAbs),.sl 3 [.int] (L i.1.y.d)],.agg [.im (.bool (decide (i.2.1.x.z < 0))),.sl 3 [.int] (L i.2.1.x.z.natAbs),.sl 3 [.int] (L i.2.1.x.d),.im (.bool (decide (i.2.1.y.z < 0))),.sl 3 [.int] (L i.2.1.y.z.natAbs),.sl 3 [.int] (L i.2.1.y.d)],.agg [.im (.bool (decide (i.2.2.x.z < 0))),.sl 3 [.int] (L i.2.2.x.z.natAbs),.sl 3 [.int] (L i.2.2.x.d),.im (.bool (decide (i.2.2.y.z < 0))),.sl 3 [.int] (L i.2.2.y.z.natAbs),.sl 3 [.int] (L i.2.2.y.d)]],res:=fun i=>⟨false,[some 3],[.im (Value.bool (decide ((innQ i.1 i.2.1 i.2.2).z < 0))),.own 3 [.int] (L (innQ i.1 i.2.1 i.2.2).z.natAbs),.own 3 [.int] (L (innQ i.1 i.2.1 i.2.2).d)]⟩ }
set_option maxRecDepth 100000 in
theorem sInner_ok:sInner_con.Ok Tryz.prog 195:=by
 refine fn_ok (X:=⟨tt,[(122,sRatSub_con),(124,sRatMul_con),(123,sRatAdd_con)],[],30⟩) mixed tt_ok (CTok.cons sRatSub_ok (CTok.cons sRatMul_ok (CTok.cons sRatAdd_ok (CTok.nil _)))) Tryz.func195 (by decide) rfl rfl rfl (fun _=>Nat.le_of_ble_eq_true rfl) (fun _=>Nat.le_of_ble_eq_true rfl) (fun _=>[]) ?_
 rintro ⟨a,b,c⟩ hpre
 have hpre:True:=hpre
 refine by_nf (q:=∃ i1:Fr×Fr,[dF b.x,dF a.x]=sRatSub_con.args i1∧sRatSub_con.pre i1∧(∃ i2:Fr×Fr,[dF c.x,dF a.x]=sRatSub_con.args i2∧sRatSub_con.pre i2∧(∃ i3:Fr×Fr,[dF (Fr.sub i1.1 i1.2),dF (Fr.sub i2.1 i2.2)]=sRatMul_con.args i3∧sRatMul_con.pre i3∧(∃ i4:Fr×Fr,[dF b.y,dF a.y]=sRatSub_con.args i4∧sRatSub_con.pre i4∧(∃ i5:Fr×Fr,[dF c.y,dF a.y]=sRatSub_con.args i5∧sRatSub_con.pre i5∧(∃ i6:Fr×Fr,[dF (Fr.sub i4.1 i4.2),dF (Fr.sub i5.1 i5.2)]=sRatMul_con.args i6∧sRatMul_con.pre i6∧(∃ i7:Fr×Fr,[dF (Fr.mul i3.1 i3.2),dF (Fr.mul i6.1 i6.2)]=sRatAdd_con.args i7∧sRatAdd_con.pre i7∧((eqC (Fr.add i7.1 i7.2) (innQ a b c)))))))))) (by kernel_rfl) ?_
 refine ⟨(b.x,a.x),by
  rfl,by
  trivial,?_⟩
 refine ⟨(c.x,a.x),by
  rfl,by
  trivial,?_⟩
 refine ⟨((Fr.sub b.x a.x),(Fr.sub c.x a.x)),by
  rfl,by
  trivial,?_⟩
 refine ⟨(b.y,a.y),by
  rfl,by
  trivial,?_⟩
 refine ⟨(c.y,a.y),by
  rfl,by
  trivial,?_⟩
 refine ⟨((Fr.sub b.y a.y),(Fr.sub c.y a.y)),by
  rfl,by
  trivial,?_⟩
 refine ⟨((Fr.mul (Fr.sub b.x a.x) (Fr.sub c.x a.x)),(Fr.mul (Fr.sub b.y a.y) (Fr.sub c.y a.y))),by
  rfl,by
  trivial,?_⟩
 refine eqC_of ?_
 show Fr.add (Fr.mul (Fr.sub b.x a.x) (Fr.sub c.x a.x)) (Fr.mul (Fr.sub b.y a.y) (Fr.sub c.y a.y))=innQ a b c
 rfl
def toSeg_con:Con:={ ι:=Pq×Pq×Pq,pre:=fun i=>True,args:=fun i=>[.agg [.im (.bool (decide (i.1.x.z < 0))),.sl 3 [.int] (L i.1.x.z.natAbs),.sl 3 [.int] (L i.1.x.d),.im (.bool (decide (i.1.y.z < 0))),.sl 3 [.int] (L i.1.y.z.natAbs),.sl 3 [.int] (L i.1.y.d)],.agg [.im (.bool (decide (i.2.1.x.z < 0))),.sl 3 [.int] (L i.2.1.x.z.natAbs),.sl 3 [.int] (L i.2.1.x.d),.im (.bool (decide (i.2.1.y.z < 0))),.sl 3 [.int] (L i.2.1.y.z.natAbs),.sl 3 [.int] (L i.2.1.y.d)],.agg [.im (.bool (decide (i.2.2.x.z < 0))),.sl 3 [.int] (L i.2.2.x.z.natAbs),.sl 3 [.int] (L i.2.2.x.d),.im (.bool (decide (i.2.2.y.z < 0))),.sl 3 [.int] (L i.2.2.y.z.natAbs),.sl 3 [.int] (L i.2.2.y.d)]],res:=fun i=>⟨false,[some 3],[.im (Value.bool (decide ((segQ i.1 i.2.1 i.2.2).z < 0))),.view 3 [.int] (L (segQ i.1 i.2.1 i.2.2).z.natAbs),.view 3 [.int] (L (segQ i.1 i.2.1 i.2.2).d)]⟩ }
set_option maxRecDepth 100000 in
theorem toSeg_ok:toSeg_con.Ok Tryz.prog 181:=by
 refine fn_ok (X:=⟨tt,[(48,samePoint_con),(199,sqDist_con),(201,inner_con),(200,ratDiv_con),(75,ratInt_con),(96,ratMax_con),(95,ratMin_con),(137,ratSub_con),(135,ratMul_con),(134,ratAdd_con)],[],52⟩) mixed tt_ok (CTok.cons samePoint_ok (CTok.cons sqDist_ok (CTok.cons inner_ok (CTok.cons ratDiv_ok (CTok.cons ratInt_ok (CTok.cons ratMax_ok (CTok.cons ratMin_ok (CTok.cons ratSub_ok (CTok.cons ratMul_ok (CTok.cons ratAdd_ok (CTok.nil _))))))))))) Tryz.func181 (by decide) rfl rfl rfl (fun _=>Nat.le_of_ble_eq_true rfl) (fun _=>Nat.le_of_ble_eq_true rfl) (fun _=>[]) ?_
 rintro ⟨p,a,b⟩ hpre
 have hpre:True:=hpre
 refine by_nf (q:=∃ i1:Pq×Pq,[dP a,dP b]=samePoint_con.args i1∧samePoint_con.pre i1∧(((eqP i1.1 i1.2)=true→(∃ i2:Pq×Pq,[dP p,dP a]=sqDist_con.args i2∧sqDist_con.pre i2∧((eqC (sdQ i2.1 i2.2) (segQ p a b)))))∧((eqP i1.1 i1.2)=false→(∃ i3:Pq×Pq×Pq,[dP a,dP p,dP b]=inner_con.args i3∧inner_con.pre i3∧(∃ i4:Pq×Pq,[dP a,dP b]=sqDist_con.args i4∧sqDist_con.pre i4∧(∃ i5:Fr×Fr,[dF (innQ i3.1 i3.2.1 i3.2.2),dF (sdQ i4.1 i4.2)]=ratDiv_con.args i5∧ratDiv_con.pre i5∧(∃ i6:Int,[DA.one (cI (1:Int))]=ratInt_con.args i6∧ratInt_con.pre i6∧(∃ i7:Int,[DA.one (cI (0:Int))]=ratInt_con.args i7∧ratInt_con.pre i7∧(∃ i8:Fr×Fr,[dF (Fr.ofInt i7),dF (Fr.div i5.1 i5.2)]=ratMax_con.args i8∧ratMax_con.pre i8∧(∃ i9:Fr×Fr,[dF (Fr.ofInt i6),dF (Fr.max i8.1 i8.2)]=ratMin_con.args i9∧ratMin_con.pre i9∧(∃ i10:Fr×Fr,[dF b.x,dF a.x]=ratSub_con.args i10∧ratSub_con.pre i10∧(∃ i11:Fr×Fr,[dF (Fr.min i9.1 i9.2),dF (Fr.sub i10.1 i10.2)]=ratMul_con.args i11∧ratMul_con.pre i11∧(∃ i12:Fr×Fr,[dF a.x,dF (Fr.mul i11.1 i11.2)]=ratAdd_con.args i12∧ratAdd_con.pre i12∧(∃ i13:Fr×Fr,[dF b.y,dF a.y]=ratSub_con.args i13∧ratSub_con.pre i13∧(∃ i14:Fr×Fr,[dF (Fr.min i9.1 i9.2),dF (Fr.sub i13.1 i13.2)]=ratMul_con.args i14∧ratMul_con.pre i14∧(∃ i15:Fr×Fr,[dF a.y,dF (Fr.mul i14.1 i14.2)]=ratAdd_con.args i15∧ratAdd_con.pre i15∧(∃ i16:Pq×Pq,[dP p,DA.agg [cB (decide ((Fr.add i12.1 i12.2).z < 0)),cS (L (Fr.add i12.1 i12.2).z.natAbs),cS (L (Fr.add i12.1 i12.2).d),cB (decide ((Fr.add i15.1 i15.2).z < 0)),cS (L (Fr.add i15.1 i15.2).z.natAbs),cS (L (Fr.add i15.1 i15.2).d)]]=sqDist_con.args i16∧sqDist_con.pre i16∧((eqC (sdQ i16.1 i16.2) (segQ p a b)))))))))))))))))))) (by kernel_rfl) ?_
 refine ⟨(a,b),by
  rfl,by
  trivial,?_⟩
 refine ⟨fun c4=>?_,fun c4=>?_⟩
 ·skip
  replace c4:(eqP a b)=true:=c4
  try simp only [nrm] at c4
  have hE:segQ p a b=sdQ p a:=by unfold segQ;rw [if_pos c4]
  refine ⟨(p,a),by
   rfl,by
   trivial,?_⟩
  refine eqC_of ?_
  show sdQ p a=segQ p a b
  rw [hE]
 ·skip
  replace c4:(eqP a b)=false:=c4
  try simp only [nrm] at c4
  have hE:segQ p a b=sdQ p (nearQ a b (tQ p a b)):=by unfold segQ;rw [if_neg (by rw [c4];simp)]
  refine ⟨(a,p,b),by
   rfl,by
   trivial,?_⟩
  refine ⟨(a,b),by
   rfl,by
   trivial,?_⟩
  refine ⟨((innQ a p b),(sdQ a b)),by
   rfl,by
   trivial,?_⟩
  refine ⟨(1:Int),by
   rfl,by
   show -9223372036854775808≤(1:Int)∧(1:Int)≤9223372036854775807
   trivial,?_⟩
  refine ⟨(0:Int),by
   rfl,by
   show -9223372036854775808≤(0:Int)∧(0:Int)≤9223372036854775807
   trivial,?_⟩
  refine ⟨((Fr.ofInt (0:Int)),(Fr.div (innQ a p b) (sdQ a b))),by
   rfl,by
   trivial,?_⟩
  refine ⟨((Fr.ofInt (1:Int)),(Fr.max (Fr.ofInt (0:Int)) (Fr.div (innQ a p b) (sdQ a b)))),by
   rfl,by
   trivial,?_⟩
  refine ⟨(b.x,a.x),by
   rfl,by
   trivial,?_⟩
  refine ⟨((Fr.min (Fr.ofInt (1:Int)) (Fr.max (Fr.ofInt (0:Int)) (Fr.div (innQ a p b) (sdQ a b)))),(Fr.sub b.x a.x)),by
   rfl,by
   trivial,?_⟩
  refine ⟨(a.x,(Fr.mul (Fr.min (Fr.ofInt (1:Int)) (Fr.max (Fr.ofInt (0:Int)) (Fr.div (innQ a p b) (sdQ a b)))) (Fr.sub b.x a.x))),by
   rfl,by
   trivial,?_⟩
  refine ⟨(b.y,a.y),by
   rfl,by
   trivial,?_⟩
  refine ⟨((Fr.min (Fr.ofInt (1:Int)) (Fr.max (Fr.ofInt (0:Int)) (Fr.div (innQ a p b) (sdQ a b)))),(Fr.sub b.y a.y)),by
   rfl,by
   trivial,?_⟩
  refine ⟨(a.y,(Fr.mul (Fr.min (Fr.ofInt (1:Int)) (Fr.max (Fr.ofInt (0:Int)) (Fr.div (innQ a p b) (sdQ a b)))) (Fr.sub b.y a.y))),by
   rfl,by
   trivial,?_⟩
  refine ⟨(p,nearQ a b (tQ p a b)),by
   rfl,by
   trivial,?_⟩
  refine eqC_of ?_
  show sdQ p (nearQ a b (tQ p a b))=segQ p a b
  rw [hE]
def sToSeg_con:Con:={ ι:=Pq×Pq×Pq,pre:=fun i=>i.2.1.good=true,args:=fun i=>[.agg [.im (.bool (decide (i.1.x.z < 0))),.sl 3 [.int] (L i.1.x.z.natAbs),.sl 3 [.int] (L i.1.x.d),.im (.bool (decide (i.1.y.z < 0))),.sl 3 [.int] (L i.1.y.z.natAbs),.sl 3 [.int] (L i.1.y.d)],.agg [.im (.bool (decide (i.2.1.x.z < 0))),.sl 3 [.int] (L i.2.1.x.z.natAbs),.sl 3 [.int] (L i.2.1.x.d),.im (.bool (decide (i.2.1.y.z < 0))),.sl 3 [.int] (L i.2.1.y.z.natAbs),.sl 3 [.int] (L i.2.1.y.d)],.agg [.im (.bool (decide (i.2.2.x.z < 0))),.sl 3 [.int] (L i.2.2.x.z.natAbs),.sl 3 [.int] (L i.2.2.x.d),.im (.bool (decide (i.2.2.y.z < 0))),.sl 3 [.int] (L i.2.2.y.z.natAbs),.sl 3 [.int] (L i.2.2.y.d)]],res:=fun i=>⟨false,[some 3],[.im (Value.bool (decide ((segQ i.1 i.2.1 i.2.2).z < 0))),.view 3 [.int] (L (segQ i.1 i.2.1 i.2.2).z.natAbs),.view 3 [.int] (L (segQ i.1 i.2.1 i.2.2).d)]⟩ }
set_option maxRecDepth 100000 in
theorem sToSeg_ok:sToSeg_con.Ok Tryz.prog 174:=by
 refine fn_ok (X:=⟨tt,[(192,sSqDist_con),(193,sRatSign_con),(124,sRatMul_con),(123,sRatAdd_con),(195,sInner_con),(194,sRatDiv_con),(73,sRatFromInt_con),(196,sRatMax_con),(175,sRatMin_con),(122,sRatSub_con)],[],58⟩) mixed tt_ok (CTok.cons sSqDist_ok (CTok.cons sRatSign_ok (CTok.cons sRatMul_ok (CTok.cons sRatAdd_ok (CTok.cons sInner_ok (CTok.cons sRatDiv_ok (CTok.cons sRatFromInt_ok (CTok.cons sRatMax_ok (CTok.cons sRatMin_ok (CTok.cons sRatSub_ok (CTok.nil _))))))))))) Tryz.func174 (by decide) rfl rfl rfl (fun _=>Nat.le_of_ble_eq_true rfl) (fun _=>Nat.le_of_ble_eq_true rfl) (fun _=>[]) ?_
 rintro ⟨p,a,b⟩ hpre
 have hpre:a.good=true:=hpre
 refine by_nf (q:=∃ i1:Pq×Pq,[dP a,dP b]=sSqDist_con.args i1∧sSqDist_con.pre i1∧(∃ i2:Fr,[dF (sdQ i1.1 i1.2)]=sRatSign_con.args i2∧sRatSign_con.pre i2∧(((i2.sgn == (0:Int))=true→(∃ i3:Fr×Fr,[dF (sdQ i1.1 i1.2),dF (sdQ i1.1 i1.2)]=sRatMul_con.args i3∧sRatMul_con.pre i3∧(∃ i4:Pq×Pq,[dP p,dP a]=sSqDist_con.args i4∧sSqDist_con.pre i4∧(∃ i5:Fr×Fr,[dF (Fr.mul i3.1 i3.2),dF (sdQ i4.1 i4.2)]=sRatAdd_con.args i5∧sRatAdd_con.pre i5∧((eqC (Fr.add i5.1 i5.2) (segQ p a b)))))))∧((i2.sgn == (0:Int))=false→(∃ i6:Pq×Pq×Pq,[dP a,dP b,dP p]=sInner_con.args i6∧sInner_con.pre i6∧(∃ i7:Fr×Fr,[dF (innQ i6.1 i6.2.1 i6.2.2),dF (sdQ i1.1 i1.2)]=sRatDiv_con.args i7∧sRatDiv_con.pre i7∧(∃ i8:Int,[DA.one (cI (0:Int))]=sRatFromInt_con.args i8∧sRatFromInt_con.pre i8∧(∃ i9:Fr×Fr,[dF (Fr.div i7.1 i7.2),dF (Fr.ofInt i8)]=sRatMax_con.args i9∧sRatMax_con.pre i9∧(∃ i10:Int,[DA.one (cI (1:Int))]=sRatFromInt_con.args i10∧sRatFromInt_con.pre i10∧(∃ i11:Fr×Fr,[dF (Fr.max i9.1 i9.2),dF (Fr.ofInt i10)]=sRatMin_con.args i11∧sRatMin_con.pre i11∧(∃ i12:Fr×Fr,[dF b.x,dF a.x]=sRatSub_con.args i12∧sRatSub_con.pre i12∧(∃ i13:Fr×Fr,[dF (Fr.min i11.1 i11.2),dF (Fr.sub i12.1 i12.2)]=sRatMul_con.args i13∧sRatMul_con.pre i13∧(∃ i14:Fr×Fr,[dF a.x,dF (Fr.mul i13.1 i13.2)]=sRatAdd_con.args i14∧sRatAdd_con.pre i14∧(∃ i15:Fr×Fr,[dF b.y,dF a.y]=sRatSub_con.args i15∧sRatSub_con.pre i15∧(∃ i16:Fr×Fr,[dF (Fr.min i11.1 i11.2),dF (Fr.sub i15.1 i15.2)]=sRatMul_con.args i16∧sRatMul_con.pre i16∧(∃ i17:Fr×Fr,[dF a.y,dF (Fr.mul i16.1 i16.2)]=sRatAdd_con.args i17∧sRatAdd_con.pre i17∧(∃ i18:Pq×Pq,[dP p,DA.agg [cB (decide ((Fr.add i14.1 i14.2).z < 0)),cS (L (Fr.add i14.1 i14.2).z.natAbs),cS (L (Fr.add i14.1 i14.2).d),cB (decide ((Fr.add i17.1 i17.2).z < 0)),cS (L (Fr.add i17.1 i17.2).z.natAbs),cS (L (Fr.add i17.1 i17.2).d)]]=sSqDist_con.args i18∧sSqDist_con.pre i18∧((eqC (sdQ i18.1 i18.2) (segQ p a b)))))))))))))))))))) (by kernel_rfl) ?_
 refine ⟨(a,b),by
  rfl,by
  trivial,?_⟩
 refine ⟨(sdQ a b),by
  rfl,by
  trivial,?_⟩
 refine ⟨fun c7=>?_,fun c7=>?_⟩
 ·skip
  try simp only [nrm] at c7
  have hE:=seg_zero (p:=p) hpre c7
  refine ⟨((sdQ a b),(sdQ a b)),by
   rfl,by
   trivial,?_⟩
  refine ⟨(p,a),by
   rfl,by
   trivial,?_⟩
  refine ⟨((Fr.mul (sdQ a b) (sdQ a b)),(sdQ p a)),by
   rfl,by
   trivial,?_⟩
  refine eqC_of ?_
  show Fr.add (Fr.mul (sdQ a b) (sdQ a b)) (sdQ p a)=segQ p a b
  rw [hE]
 ·skip
  try simp only [nrm] at c7
  have hE:=seg_else (p:=p) hpre c7
  refine ⟨(a,b,p),by
   rfl,by
   trivial,?_⟩
  refine ⟨((innQ a b p),(sdQ a b)),by
   rfl,by
   trivial,?_⟩
  refine ⟨(0:Int),by
   rfl,by
   show -9223372036854775808≤(0:Int)∧(0:Int)≤9223372036854775807
   trivial,?_⟩
  refine ⟨((Fr.div (innQ a b p) (sdQ a b)),(Fr.ofInt (0:Int))),by
   rfl,by
   trivial,?_⟩
  refine ⟨(1:Int),by
   rfl,by
   show -9223372036854775808≤(1:Int)∧(1:Int)≤9223372036854775807
   trivial,?_⟩
  refine ⟨((Fr.max (Fr.div (innQ a b p) (sdQ a b)) (Fr.ofInt (0:Int))),(Fr.ofInt (1:Int))),by
   rfl,by
   trivial,?_⟩
  refine ⟨(b.x,a.x),by
   rfl,by
   trivial,?_⟩
  refine ⟨((Fr.min (Fr.max (Fr.div (innQ a b p) (sdQ a b)) (Fr.ofInt (0:Int))) (Fr.ofInt (1:Int))),(Fr.sub b.x a.x)),by
   rfl,by
   trivial,?_⟩
  refine ⟨(a.x,(Fr.mul (Fr.min (Fr.max (Fr.div (innQ a b p) (sdQ a b)) (Fr.ofInt (0:Int))) (Fr.ofInt (1:Int))) (Fr.sub b.x a.x))),by
   rfl,by
   trivial,?_⟩
  refine ⟨(b.y,a.y),by
   rfl,by
   trivial,?_⟩
  refine ⟨((Fr.min (Fr.max (Fr.div (innQ a b p) (sdQ a b)) (Fr.ofInt (0:Int))) (Fr.ofInt (1:Int))),(Fr.sub b.y a.y)),by
   rfl,by
   trivial,?_⟩
  refine ⟨(a.y,(Fr.mul (Fr.min (Fr.max (Fr.div (innQ a b p) (sdQ a b)) (Fr.ofInt (0:Int))) (Fr.ofInt (1:Int))) (Fr.sub b.y a.y))),by
   rfl,by
   trivial,?_⟩
  refine ⟨(p,nearQ a b (Fr.min (Fr.max (Fr.div (innQ a b p) (sdQ a b)) (Fr.ofInt 0)) (Fr.ofInt 1))),by
   rfl,by
   trivial,?_⟩
  refine eqC_of ?_
  show sdQ p (nearQ a b (Fr.min (Fr.max (Fr.div (innQ a b p) (sdQ a b)) (Fr.ofInt 0)) (Fr.ofInt 1)))=segQ p a b
  rw [hE]
def toPoly_con:Con:={ ι:=(List V2)×Pq,pre:=fun i=>i.1.all isVec=true∧0 < i.1.length∧i.1.length≤16,args:=fun i=>[.one (.sl 31 [.int,.int] (vecsD i.1)),.agg [.im (.bool (decide (i.2.x.z < 0))),.sl 3 [.int] (L i.2.x.z.natAbs),.sl 3 [.int] (L i.2.x.d),.im (.bool (decide (i.2.y.z < 0))),.sl 3 [.int] (L i.2.y.z.natAbs),.sl 3 [.int] (L i.2.y.d)]],res:=fun i=>⟨false,[some 3],[.im (Value.bool (decide ((polyQ i.1 i.2).z < 0))),.view 3 [.int] (L (polyQ i.1 i.2).z.natAbs),.view 3 [.int] (L (polyQ i.1 i.2).d)]⟩ }
set_option maxRecDepth 100000 in
theorem toPoly_ok:toPoly_con.Ok Tryz.prog 143:=by
 refine fn_ok (X:=⟨tt,[(179,contains_con),(75,ratInt_con),(180,pointsOf_con),(181,toSeg_con),(95,ratMin_con)],[],46⟩) mixed tt_ok (CTok.cons contains_ok (CTok.cons ratInt_ok (CTok.cons pointsOf_ok (CTok.cons toSeg_ok (CTok.cons ratMin_ok (CTok.nil _)))))) Tryz.func143 (by decide) rfl rfl rfl (fun _=>Nat.le_of_ble_eq_true rfl) (fun _=>Nat.le_of_ble_eq_true rfl) (fun (i:(List V2)×Pq)=>[(6,.mk 11 (Nat) (fun x1=>{ tm:=[(3,.one (.one (.bp 1 0))),(4,.one (.one (.bp 6 0))),(6,.one (.one (.bp 7 0))),(7,.one (.one (.im (Value.int .i64 ((x1:Nat):Int))))),(5,.one (.one (.ext 10)))],en:=[(1,.box [.im (Value.bool (decide (i.2.x.z < 0))),.ext 2,.ext 3,.im (Value.bool (decide (i.2.y.z < 0))),.ext 4,.ext 5]),(6,.box [.im (Value.bool false),.im (Value.slice none 0 0),.im (Value.slice none 0 0)]),(7,.box [.im (Value.bool (decide ((minI i.1 i.2 (x1 - 1)).z < 0))),.ext 8,.ext 9]),(2,.view 3 [.int] (L i.2.x.z.natAbs) []),(3,.view 3 [.int] (L i.2.x.d) []),(4,.view 3 [.int] (L i.2.y.z.natAbs) []),(5,.view 3 [.int] (L i.2.y.d) []),(8,.view 3 [.int] (L (minI i.1 i.2 (x1 - 1)).z.natAbs) [10]),(9,.view 3 [.int] (L (minI i.1 i.2 (x1 - 1)).d) [10]),(10,.own 54 [.bool,.sl 3 [.int],.sl 3 [.int],.bool,.sl 3 [.int],.sl 3 [.int]] (ptsD i.1))] }) (fun x1=>1≤x1∧x1≤i.1.length) (fun x1=>i.1.length - x1) (fun _=>[]))]) ?_
 rintro ⟨l,p⟩ hpre
 have hpre:l.all isVec=true∧0 < l.length∧l.length≤16:=hpre
 refine by_nf (q:=∃ i1:(List V2)×Pq,[DA.one (DC.sl 31 [.int,.int] (vecsD l)),dP p]=contains_con.args i1∧contains_con.pre i1∧(((decide ((conZ i1.1 i1.2)≥(0:Int)))=true→(∃ i2:Int,[DA.one (cI (0:Int))]=ratInt_con.args i2∧ratInt_con.pre i2∧((eqC (Fr.ofInt i2) (polyQ l p)))))∧((decide ((conZ i1.1 i1.2)≥(0:Int)))=false→(∃ i3:(List V2),[DA.one (DC.sl 31 [.int,.int] (vecsD l))]=pointsOf_con.args i3∧pointsOf_con.pre i3∧((0≤(IntKind.i64.wrap ((((ptsD i3).length:Nat):Int) - (1:Int)))∧(IntKind.i64.wrap ((((ptsD i3).length:Nat):Int) - (1:Int))) < ((ptsD i3).length:Int))∧(((IntKind.i64.wrap ((((ptsD i3).length:Nat):Int) - (1:Int))).toNat < (ptsD i3).length)∧((0≤(0:Int)∧(0:Int) < ((ptsD i3).length:Int))∧((0 < (ptsD i3).length)∧(∃ i4:Pq×Pq×Pq,[dP p,DA.agg [cB (((((ptsD i3).getD ((IntKind.i64.wrap ((((ptsD i3).length:Nat):Int) - (1:Int))).toNat) []).getD 0 (.int 0))).b),cS (((((ptsD i3).getD ((IntKind.i64.wrap ((((ptsD i3).length:Nat):Int) - (1:Int))).toNat) []).getD 1 (.int 0))).r),cS (((((ptsD i3).getD ((IntKind.i64.wrap ((((ptsD i3).length:Nat):Int) - (1:Int))).toNat) []).getD 2 (.int 0))).r),cB (((((ptsD i3).getD ((IntKind.i64.wrap ((((ptsD i3).length:Nat):Int) - (1:Int))).toNat) []).getD 3 (.int 0))).b),cS (((((ptsD i3).getD ((IntKind.i64.wrap ((((ptsD i3).length:Nat):Int) - (1:Int))).toNat) []).getD 4 (.int 0))).r),cS (((((ptsD i3).getD ((IntKind.i64.wrap ((((ptsD i3).length:Nat):Int) - (1:Int))).toNat) []).getD 5 (.int 0))).r)],DA.agg [cB (((((ptsD i3).getD 0 []).getD 0 (.int 0))).b),cS (((((ptsD i3).getD 0 []).getD 1 (.int 0))).r),cS (((((ptsD i3).getD 0 []).getD 2 (.int 0))).r),cB (((((ptsD i3).getD 0 []).getD 3 (.int 0))).b),cS (((((ptsD i3).getD 0 []).getD 4 (.int 0))).r),cS (((((ptsD i3).getD 0 []).getD 5 (.int 0))).r)]]=toSeg_con.args i4∧toSeg_con.pre i4∧((∃ x1:Nat,(1≤x1∧x1≤l.length)∧((Value.int .i64 (1:Int)=Value.int .i64 ((x1:Nat):Int))∧(rf (Value.bool (decide (p.x.z < 0))))∧(rf (Value.bool (decide (p.y.z < 0))))∧(rf (Value.bool false))∧(rf (Value.slice none 0 0))∧(rf (Value.slice none 0 0))∧(Value.bool (decide ((segQ i4.1 i4.2.1 i4.2.2).z < 0))=Value.bool (decide ((minI l p (x1 - 1)).z < 0)))∧(rf (L p.x.z.natAbs))∧(rf (L p.x.d))∧(rf (L p.y.z.natAbs))∧(rf (L p.y.d))∧(L (segQ i4.1 i4.2.1 i4.2.2).z.natAbs=(L (minI l p (x1 - 1)).z.natAbs))∧(L (segQ i4.1 i4.2.1 i4.2.2).d=(L (minI l p (x1 - 1)).d))∧(ptsD i3=(ptsD l))))∧∀ x1:Nat,(1≤x1∧x1≤l.length)→(((decide (((x1:Nat):Int) < (((ptsD l).length:Nat):Int)))=true→((0≤(IntKind.i64.wrap (((x1:Nat):Int) - (1:Int)))∧(IntKind.i64.wrap (((x1:Nat):Int) - (1:Int))) < ((ptsD l).length:Int))∧(((IntKind.i64.wrap (((x1:Nat):Int) - (1:Int))).toNat < (ptsD l).length)∧((0≤((x1:Nat):Int)∧((x1:Nat):Int) < ((ptsD l).length:Int))∧((x1 < (ptsD l).length)∧(∃ i5:Pq×Pq×Pq,[dP p,DA.agg [cB (((((ptsD l).getD ((IntKind.i64.wrap (((x1:Nat):Int) - (1:Int))).toNat) []).getD 0 (.int 0))).b),cS (((((ptsD l).getD ((IntKind.i64.wrap (((x1:Nat):Int) - (1:Int))).toNat) []).getD 1 (.int 0))).r),cS (((((ptsD l).getD ((IntKind.i64.wrap (((x1:Nat):Int) - (1:Int))).toNat) []).getD 2 (.int 0))).r),cB (((((ptsD l).getD ((IntKind.i64.wrap (((x1:Nat):Int) - (1:Int))).toNat) []).getD 3 (.int 0))).b),cS (((((ptsD l).getD ((IntKind.i64.wrap (((x1:Nat):Int) - (1:Int))).toNat) []).getD 4 (.int 0))).r),cS (((((ptsD l).getD ((IntKind.i64.wrap (((x1:Nat):Int) - (1:Int))).toNat) []).getD 5 (.int 0))).r)],DA.agg [cB (((((ptsD l).getD x1 []).getD 0 (.int 0))).b),cS (((((ptsD l).getD x1 []).getD 1 (.int 0))).r),cS (((((ptsD l).getD x1 []).getD 2 (.int 0))).r),cB (((((ptsD l).getD x1 []).getD 3 (.int 0))).b),cS (((((ptsD l).getD x1 []).getD 4 (.int 0))).r),cS (((((ptsD l).getD x1 []).getD 5 (.int 0))).r)]]=toSeg_con.args i5∧toSeg_con.pre i5∧(∃ i6:Fr×Fr,[dF (minI l p (x1 - 1)),dF (segQ i5.1 i5.2.1 i5.2.2)]=ratMin_con.args i6∧ratMin_con.pre i6∧(∃ y2:Nat,(1≤y2∧y2≤l.length)∧(l.length - y2 < l.length - x1)∧((Value.int .i64 (IntKind.i64.wrap (((x1:Nat):Int)+(1:Int)))=Value.int .i64 ((y2:Nat):Int))∧(rf (Value.bool (decide (p.x.z < 0))))∧(rf (Value.bool (decide (p.y.z < 0))))∧(rf (Value.bool false))∧(rf (Value.slice none 0 0))∧(rf (Value.slice none 0 0))∧(Value.bool (decide ((Fr.min i6.1 i6.2).z < 0))=Value.bool (decide ((minI l p (y2 - 1)).z < 0)))∧(rf (L p.x.z.natAbs))∧(rf (L p.x.d))∧(rf (L p.y.z.natAbs))∧(rf (L p.y.d))∧(L (Fr.min i6.1 i6.2).z.natAbs=(L (minI l p (y2 - 1)).z.natAbs))∧(L (Fr.min i6.1 i6.2).d=(L (minI l p (y2 - 1)).d))∧(rf (ptsD l)))))))))))∧((decide (((x1:Nat):Int) < (((ptsD l).length:Nat):Int)))=false→((eqC (minI l p (x1 - 1)) (polyQ l p))))))))))))))) (by kernel_rfl) ?_
 have hvl:=vecsD_length l
 have hpl:=ptsD_len l
 have hw:IntKind.i64.wrap ((((ptsD l).length:Nat):Int) - (1:Int))=((l.length - 1:Nat):Int):=by rw [hpl,wrap64 (by omega) (by omega)];omega
 refine ⟨(l,p),by
  rfl,by
  exact hpre,?_⟩
 refine ⟨fun c4=>?_,fun c4=>?_⟩
 ·skip
  replace c4:(decide ((conZ l p)≥(0:Int)))=true:=c4
  try simp only [nrm] at c4
  have hE:=poly_pos c4
  refine ⟨(0:Int),by
   rfl,by
   show -9223372036854775808≤(0:Int)∧(0:Int)≤9223372036854775807
   trivial,?_⟩
  refine eqC_of ?_
  show Fr.ofInt (0:Int)=polyQ l p
  rw [hE];done
 ·skip
  replace c4:(decide ((conZ l p)≥(0:Int)))=false:=c4
  try simp only [nrm] at c4
  have hE:=poly_neg (l:=l) (p:=p) (by omega)
  refine ⟨l,by
   rfl,by
   show l.all isVec=true∧l.length≤1048576
   exact ⟨hpre.1,by omega⟩,?_⟩
  have o14:0≤(IntKind.i64.wrap ((((ptsD l).length:Nat):Int) - (1:Int)))∧(IntKind.i64.wrap ((((ptsD l).length:Nat):Int) - (1:Int))) < ((ptsD l).length:Int):=by
   omega
  refine ⟨o14,?_⟩
  have o15:(IntKind.i64.wrap ((((ptsD l).length:Nat):Int) - (1:Int))).toNat < (ptsD l).length:=by
   omega
  refine ⟨o15,?_⟩
  have o16:0≤(0:Int)∧(0:Int) < ((ptsD l).length:Int):=by
   omega
  refine ⟨o16,?_⟩
  have o17:0 < (ptsD l).length:=by
   omega
  refine ⟨o17,?_⟩
  refine ⟨(p,ptAt l (l.length - 1),ptAt l 0),by
   rw [hw,Int.toNat_natCast,pts_get (by omega),pts_get hpre.2.1];rfl,by
   trivial,?_⟩
  refine ⟨⟨1,by
   exact ⟨Nat.le_refl _,hpre.2.1⟩,?_⟩,?_⟩
  ·skip
   refine ⟨?_,rfl,rfl,rfl,rfl,rfl,?_,rfl,rfl,rfl,rfl,?_,?_,rfl⟩
   ·rfl
   ·show Value.bool (decide ((segQ p (ptAt l (l.length - 1)) (ptAt l 0)).z < 0))=Value.bool (decide ((minI l p (1 - 1)).z < 0))
    rw [poly_first hpre.2.1]
   ·show L (segQ p (ptAt l (l.length - 1)) (ptAt l 0)).z.natAbs=(L (minI l p (1 - 1)).z.natAbs)
    rw [poly_first hpre.2.1]
   show L (segQ p (ptAt l (l.length - 1)) (ptAt l 0)).d=(L (minI l p (1 - 1)).d)
   rw [poly_first hpre.2.1]
  intro (k:Nat) hki21
  have hki21:1≤k∧k≤l.length:=hki21
  refine ⟨fun c37=>?_,fun c37=>?_⟩
  ·skip
   try simp only [nrm] at c37
   have hw2:IntKind.i64.wrap (((k:Nat):Int) - (1:Int))=((k - 1:Nat):Int):=by rw [wrap64 (by omega) (by omega)];omega
   have o38:0≤(IntKind.i64.wrap (((k:Nat):Int) - (1:Int)))∧(IntKind.i64.wrap (((k:Nat):Int) - (1:Int))) < ((ptsD l).length:Int):=by
    omega
   refine ⟨o38,?_⟩
   have o39:(IntKind.i64.wrap (((k:Nat):Int) - (1:Int))).toNat < (ptsD l).length:=by
    omega
   refine ⟨o39,?_⟩
   have o40:0≤((k:Nat):Int)∧((k:Nat):Int) < ((ptsD l).length:Int):=by
    omega
   refine ⟨o40,?_⟩
   have o41:k < (ptsD l).length:=by
    omega
   refine ⟨o41,?_⟩
   refine ⟨(p,ptAt l (k - 1),ptAt l k),by
    rw [hw2,Int.toNat_natCast,pts_get (by omega),pts_get (by omega)];rfl,by
    trivial,?_⟩
   refine ⟨((minI l p (k - 1)),(segQ p (ptAt l (k - 1)) (ptAt l k))),by
    rfl,by
    trivial,?_⟩
   refine ⟨k+1,by
    exact ⟨by omega,by omega⟩,by
    omega,?_⟩
   refine ⟨?_,rfl,rfl,rfl,rfl,rfl,?_,rfl,rfl,rfl,rfl,?_,?_,rfl⟩
   ·exact vint (wrap64 (by omega) (by omega))
   ·show Value.bool (decide ((Fr.min (minI l p (k - 1)) (segQ p (ptAt l (k - 1)) (ptAt l k))).z < 0))=Value.bool (decide ((minI l p ((k+1) - 1)).z < 0))
    rw [poly_step (by omega) (by omega)]
   ·show L (Fr.min (minI l p (k - 1)) (segQ p (ptAt l (k - 1)) (ptAt l k))).z.natAbs=(L (minI l p ((k+1) - 1)).z.natAbs)
    rw [poly_step (by omega) (by omega)]
   show L (Fr.min (minI l p (k - 1)) (segQ p (ptAt l (k - 1)) (ptAt l k))).d=(L (minI l p ((k+1) - 1)).d)
   rw [poly_step (by omega) (by omega)]
  ·skip
   try simp only [nrm] at c37
   have hkn:k=l.length:=by omega
   refine eqC_of ?_
   show minI l p (k - 1)=polyQ l p
   rw [hE,hkn];done
def sSqPoly_con:Con:={ ι:=(List V2)×PtD,pre:=fun i=>i.2.has,args:=fun i=>[.one (.sl 31 [.int,.int] (vecsD i.1)),.agg [.im (.bool i.2.x.neg),.sl 3 [.int] i.2.x.num,.sl 3 [.int] i.2.x.den,.im (.bool i.2.y.neg),.sl 3 [.int] i.2.y.num,.sl 3 [.int] i.2.y.den]],res:=fun i=>⟨false,[some 3],[.im (Value.bool (decide ((spR i.1 i.2).z < 0))),.view 3 [.int] (L (spR i.1 i.2).z.natAbs),.view 3 [.int] (L (spR i.1 i.2).d)]⟩ }
set_option maxRecDepth 100000 in
set_option maxHeartbeats 4000000 in
theorem sSqPoly_ok:sSqPoly_con.Ok Tryz.prog 139:=by
 refine fn_ok (X:=⟨tt,[(52,sIsPoly_con),(172,sIsPt_con),(173,sContains_con),(73,sRatFromInt_con),(47,sPointOf_con),(174,sToSeg_con),(175,sRatMin_con)],[],56⟩) mixed tt_ok (CTok.cons sIsPoly_ok (CTok.cons sIsPt_ok (CTok.cons sContains_ok (CTok.cons sRatFromInt_ok (CTok.cons sPointOf_ok (CTok.cons sToSeg_ok (CTok.cons sRatMin_ok (CTok.nil _)))))))) Tryz.func139 (by decide) rfl rfl rfl (fun _=>Nat.le_of_ble_eq_true rfl) (fun _=>Nat.le_of_ble_eq_true rfl) (fun (i:(List V2)×PtD)=>[(7,.mk 11 (Nat) (fun x1=>{ tm:=[(0,.one (.one (.ext 1))),(3,.one (.one (.bp 2 0))),(4,.one (.one (.bp 7 0))),(5,.one (.one (.bp 8 0))),(32,.one (.one (.ext 1))),(33,.one (.one (.im (Value.int .i64 (((vecsD i.1).length:Nat):Int))))),(34,.one (.one (.im (Value.int .i64 ((x1:Nat):Int)))))],en:=[(2,.box [.im (Value.bool i.2.x.neg),.ext 3,.ext 4,.im (Value.bool i.2.y.neg),.ext 5,.ext 6]),(7,.box [.im (Value.bool false),.im (Value.slice none 0 0),.im (Value.slice none 0 0)]),(8,.box [.im (Value.bool (decide ((minT i.1 (pqR i.2) x1).z < 0))),.ext 9,.ext 10]),(1,.view 31 [.int,.int] (vecsD i.1) []),(3,.view 3 [.int] i.2.x.num []),(4,.view 3 [.int] i.2.x.den []),(5,.view 3 [.int] i.2.y.num []),(6,.view 3 [.int] i.2.y.den []),(9,.view 3 [.int] (L (minT i.1 (pqR i.2) x1).z.natAbs) []),(10,.view 3 [.int] (L (minT i.1 (pqR i.2) x1).d) [])] }) (fun x1=>x1≤i.1.length) (fun x1=>i.1.length - x1) (fun _=>[]))]) ?_
 rintro ⟨l,p⟩ hpre
 have hpre:p.has:=hpre
 refine by_nf (q:=∃ i1:(List V2),[DA.one (DC.sl 31 [.int,.int] (vecsD l))]=sIsPoly_con.args i1∧sIsPoly_con.pre i1∧(((!(!(isPoly i1)))=true→(∃ i2:PtD×Bool,[DA.agg [cB p.x.neg,cS p.x.num,cS p.x.den,cB p.y.neg,cS p.y.num,cS p.y.den]]=sIsPt_con.args i2∧sIsPt_con.pre i2∧(((!i2.2)=true→((eqN (spR l p))))∧((!i2.2)=false→(∃ i3:(List V2)×PtD,[DA.one (DC.sl 31 [.int,.int] (vecsD l)),DA.agg [cB p.x.neg,cS p.x.num,cS p.x.den,cB p.y.neg,cS p.y.num,cS p.y.den]]=sContains_con.args i3∧sContains_con.pre i3∧(((decide ((cpZ i3.1 i3.2)≥(0:Int)))=true→(∃ i4:Int,[DA.one (cI (0:Int))]=sRatFromInt_con.args i4∧sRatFromInt_con.pre i4∧((eqC (Fr.ofInt i4) (spR l p)))))∧((decide ((cpZ i3.1 i3.2)≥(0:Int)))=false→((0≤(0:Int)∧(0:Int) < ((vecsD l).length:Int))∧((0 < (vecsD l).length)∧(∃ i5:Int×Int,[DA.agg [cI (((((vecsD l).getD 0 []).getD 0 (.int 0))).n),cI (((((vecsD l).getD 0 []).getD 1 (.int 0))).n)]]=sPointOf_con.args i5∧sPointOf_con.pre i5∧((0≤(1:Int)∧(1:Int) < ((vecsD l).length:Int))∧((1 < (vecsD l).length)∧(∃ i6:Int×Int,[DA.agg [cI (((((vecsD l).getD 1 []).getD 0 (.int 0))).n),cI (((((vecsD l).getD 1 []).getD 1 (.int 0))).n)]]=sPointOf_con.args i6∧sPointOf_con.pre i6∧(∃ i7:Pq×Pq×Pq,[DA.agg [cB p.x.neg,cS p.x.num,cS p.x.den,cB p.y.neg,cS p.y.num,cS p.y.den],DA.agg [cB (decide ((Fr.ofInt i5.1).z < 0)),cS (L (Fr.ofInt i5.1).z.natAbs),cS (L (Fr.ofInt i5.1).d),cB (decide ((Fr.ofInt i5.2).z < 0)),cS (L (Fr.ofInt i5.2).z.natAbs),cS (L (Fr.ofInt i5.2).d)],DA.agg [cB (decide ((Fr.ofInt i6.1).z < 0)),cS (L (Fr.ofInt i6.1).z.natAbs),cS (L (Fr.ofInt i6.1).d),cB (decide ((Fr.ofInt i6.2).z < 0)),cS (L (Fr.ofInt i6.2).z.natAbs),cS (L (Fr.ofInt i6.2).d)]]=sToSeg_con.args i7∧sToSeg_con.pre i7∧((∃ x1:Nat,(x1≤l.length)∧((rf (Value.int .i64 (((vecsD l).length:Nat):Int)))∧(Value.int .i64 (0:Int)=Value.int .i64 ((x1:Nat):Int))∧(rf (Value.bool p.x.neg))∧(rf (Value.bool p.y.neg))∧(rf (Value.bool false))∧(rf (Value.slice none 0 0))∧(rf (Value.slice none 0 0))∧(Value.bool (decide ((segQ i7.1 i7.2.1 i7.2.2).z < 0))=Value.bool (decide ((minT l (pqR p) x1).z < 0)))∧(rf (vecsD l))∧(rf (p.x.num))∧(rf (p.x.den))∧(rf (p.y.num))∧(rf (p.y.den))∧(L (segQ i7.1 i7.2.1 i7.2.2).z.natAbs=(L (minT l (pqR p) x1).z.natAbs))∧(L (segQ i7.1 i7.2.1 i7.2.2).d=(L (minT l (pqR p) x1).d))))∧∀ x1:Nat,(x1≤l.length)→(((decide (((x1:Nat):Int) < (((vecsD l).length:Nat):Int)))=true→((0≤((x1:Nat):Int)∧((x1:Nat):Int) < ((vecsD l).length:Int))∧((x1 < (vecsD l).length)∧(∃ i8:Int×Int,[DA.agg [cI (((((vecsD l).getD x1 []).getD 0 (.int 0))).n),cI (((((vecsD l).getD x1 []).getD 1 (.int 0))).n)]]=sPointOf_con.args i8∧sPointOf_con.pre i8∧(((((vecsD l).length:Nat):Int)≠0)∧((0≤(Int.tmod (IntKind.i64.wrap (((x1:Nat):Int)+(1:Int))) (((vecsD l).length:Nat):Int))∧(Int.tmod (IntKind.i64.wrap (((x1:Nat):Int)+(1:Int))) (((vecsD l).length:Nat):Int)) < ((vecsD l).length:Int))∧(((Int.tmod (IntKind.i64.wrap (((x1:Nat):Int)+(1:Int))) (((vecsD l).length:Nat):Int)).toNat < (vecsD l).length)∧(∃ i9:Int×Int,[DA.agg [cI (((((vecsD l).getD ((Int.tmod (IntKind.i64.wrap (((x1:Nat):Int)+(1:Int))) (((vecsD l).length:Nat):Int)).toNat) []).getD 0 (.int 0))).n),cI (((((vecsD l).getD ((Int.tmod (IntKind.i64.wrap (((x1:Nat):Int)+(1:Int))) (((vecsD l).length:Nat):Int)).toNat) []).getD 1 (.int 0))).n)]]=sPointOf_con.args i9∧sPointOf_con.pre i9∧(∃ i10:Pq×Pq×Pq,[DA.agg [cB p.x.neg,cS p.x.num,cS p.x.den,cB p.y.neg,cS p.y.num,cS p.y.den],DA.agg [cB (decide ((Fr.ofInt i8.1).z < 0)),cS (L (Fr.ofInt i8.1).z.natAbs),cS (L (Fr.ofInt i8.1).d),cB (decide ((Fr.ofInt i8.2).z < 0)),cS (L (Fr.ofInt i8.2).z.natAbs),cS (L (Fr.ofInt i8.2).d)],DA.agg [cB (decide ((Fr.ofInt i9.1).z < 0)),cS (L (Fr.ofInt i9.1).z.natAbs),cS (L (Fr.ofInt i9.1).d),cB (decide ((Fr.ofInt i9.2).z < 0)),cS (L (Fr.ofInt i9.2).z.natAbs),cS (L (Fr.ofInt i9.2).d)]]=sToSeg_con.args i10∧sToSeg_con.pre i10∧(∃ i11:Fr×Fr,[dF (minT l (pqR p) x1),dF (segQ i10.1 i10.2.1 i10.2.2)]=sRatMin_con.args i11∧sRatMin_con.pre i11∧(∃ y2:Nat,(y2≤l.length)∧(l.length - y2 < l.length - x1)∧((rf (Value.int .i64 (((vecsD l).length:Nat):Int)))∧(Value.int .i64 (IntKind.i64.wrap (((x1:Nat):Int)+(1:Int)))=Value.int .i64 ((y2:Nat):Int))∧(rf (Value.bool p.x.neg))∧(rf (Value.bool p.y.neg))∧(rf (Value.bool false))∧(rf (Value.slice none 0 0))∧(rf (Value.slice none 0 0))∧(Value.bool (decide ((Fr.min i11.1 i11.2).z < 0))=Value.bool (decide ((minT l (pqR p) y2).z < 0)))∧(rf (vecsD l))∧(rf (p.x.num))∧(rf (p.x.den))∧(rf (p.y.num))∧(rf (p.y.den))∧(L (Fr.min i11.1 i11.2).z.natAbs=(L (minT l (pqR p) y2).z.natAbs))∧(L (Fr.min i11.1 i11.2).d=(L (minT l (pqR p) y2).d))))))))))))))∧((decide (((x1:Nat):Int) < (((vecsD l).length:Nat):Int)))=false→((eqC (minT l (pqR p) x1) (spR l p))))))))))))))))))))∧((!(!(isPoly i1)))=false→((eqN (spR l p)))))) (by kernel_rfl) ?_
 have hvl:=vecsD_length l
 have hpl:=ptsD_len l
 refine ⟨l,by
  rfl,by
  trivial,?_⟩
 refine ⟨fun c4=>?_,fun c4=>?_⟩
 ·skip
  try simp only [nrm] at c4
  refine ⟨(p,(okP p)),by
   rfl,by
   show p.has∧okP p=(okP p)
   exact ⟨hpre,rfl⟩,?_⟩
  refine ⟨fun c8=>?_,fun c8=>?_⟩
  ·skip
   replace c8:(!(okP p))=true:=c8
   try simp only [nrm] at c8
   have hE:=spR_no2 (l:=l) c8
   refine eqN_of ?_
   show spR l p=Fr.none
   rw [hE];done
  ·skip
   replace c8:(!(okP p))=false:=c8
   try simp only [nrm] at c8
   have hE:=spR_yes c4 c8
   obtain ⟨e1,e2,e3,e4,e5,e6,e7,e8⟩:=pqR_ok hpre c8
   have hP:=isPoly_len c4
   have hk:=cpZ_yes c4 c8
   refine ⟨(l,p),by
    rfl,by
    exact hpre,?_⟩
   refine ⟨fun c15=>?_,fun c15=>?_⟩
   ·skip
    replace c15:(decide ((cpZ l p)≥(0:Int)))=true:=c15
    try simp only [nrm] at c15
    have hE:=hE.trans (poly_pos (by rw [← hk];exact c15))
    refine ⟨(0:Int),by
     rfl,by
     show -9223372036854775808≤(0:Int)∧(0:Int)≤9223372036854775807
     omega,?_⟩
    refine eqC_of ?_
    show Fr.ofInt (0:Int)=spR l p
    rw [hE];done
   ·skip
    replace c15:(decide ((cpZ l p)≥(0:Int)))=false:=c15
    try simp only [nrm] at c15
    have hE:=hE.trans (poly_neg (by rw [← hk];omega))
    have hT:=minT_all (p:=pqR p) hP.1
    have hF0:segQ (pqR p) (ptAt l 0) (ptAt l 1)=minT l (pqR p) 0:=by
     show _=segQ _ _ (ptAt l ((0+1) % l.length))
     rw [Nat.mod_eq_of_lt (by omega)]
    have o22:0≤(0:Int)∧(0:Int) < ((vecsD l).length:Int):=by
     omega
    refine ⟨o22,?_⟩
    have o23:0 < (vecsD l).length:=by
     omega
    refine ⟨o23,?_⟩
    refine ⟨((l.getD 0 (0,0)).1,(l.getD 0 (0,0)).2),by
     rw [vecs_x (by omega),vecs_y (by omega)];rfl,by
     show (-9223372036854775808≤((l.getD 0 (0,0)).1)∧((l.getD 0 (0,0)).1)≤9223372036854775807)∧-9223372036854775808≤((l.getD 0 (0,0)).2)∧((l.getD 0 (0,0)).2)≤9223372036854775807
     exact vec_i64 hP.2.2 (by omega),?_⟩
    have o27:0≤(1:Int)∧(1:Int) < ((vecsD l).length:Int):=by
     omega
    refine ⟨o27,?_⟩
    have o28:1 < (vecsD l).length:=by
     omega
    refine ⟨o28,?_⟩
    refine ⟨((l.getD 1 (0,0)).1,(l.getD 1 (0,0)).2),by
     rw [vecs_x (by omega),vecs_y (by omega)];rfl,by
     show (-9223372036854775808≤((l.getD 1 (0,0)).1)∧((l.getD 1 (0,0)).1)≤9223372036854775807)∧-9223372036854775808≤((l.getD 1 (0,0)).2)∧((l.getD 1 (0,0)).2)≤9223372036854775807
     exact vec_i64 hP.2.2 (by omega),?_⟩
    refine ⟨(pqR p,ptAt l 0,ptAt l 1),by
     rw [e1,e2,e3,e4,e5,e6];rfl,by
     show (ptAt l 0).good=true
     exact ptAt_good hP.2.2 (by omega),?_⟩
    refine ⟨⟨0,by
     omega,?_⟩,?_⟩
    ·skip
     refine ⟨rfl,?_,rfl,rfl,rfl,rfl,rfl,?_,rfl,rfl,rfl,rfl,rfl,?_,?_⟩
     ·rfl
     ·show Value.bool (decide ((segQ (pqR p) (ptAt l 0) (ptAt l 1)).z < 0))=Value.bool (decide ((minT l (pqR p) 0).z < 0))
      rw [hF0]
     ·show L (segQ (pqR p) (ptAt l 0) (ptAt l 1)).z.natAbs=(L (minT l (pqR p) 0).z.natAbs)
      rw [hF0]
     show L (segQ (pqR p) (ptAt l 0) (ptAt l 1)).d=(L (minT l (pqR p) 0).d)
     rw [hF0]
    intro (k:Nat) hki35
    have hki35:k≤l.length:=hki35
    refine ⟨fun c52=>?_,fun c52=>?_⟩
    ·skip
     try simp only [nrm] at c52
     have hkl:k < l.length:=by omega
     have m2:(k+1) % l.length < l.length:=(next_mod hkl (by omega)).2.1
     have m1:(Int.tmod (IntKind.i64.wrap (((k:Nat):Int)+(1:Int))) (((vecsD l).length:Nat):Int)).toNat=(k+1) % l.length:=by rw [hvl];exact (next_mod hkl (by omega)).1
     have m3:Int.tmod (IntKind.i64.wrap (((k:Nat):Int)+(1:Int))) (((vecsD l).length:Nat):Int)=(((k+1) % l.length:Nat):Int):=by rw [hvl];exact (next_mod hkl (by omega)).2.2
     have o53:0≤((k:Nat):Int)∧((k:Nat):Int) < ((vecsD l).length:Int):=by
      omega
     refine ⟨o53,?_⟩
     have o54:k < (vecsD l).length:=by
      omega
     refine ⟨o54,?_⟩
     refine ⟨((l.getD k (0,0)).1,(l.getD k (0,0)).2),by
      rw [vecs_x (by omega),vecs_y (by omega)];rfl,by
      show (-9223372036854775808≤((l.getD k (0,0)).1)∧((l.getD k (0,0)).1)≤9223372036854775807)∧-9223372036854775808≤((l.getD k (0,0)).2)∧((l.getD k (0,0)).2)≤9223372036854775807
      exact vec_i64 hP.2.2 hkl,?_⟩
     have o58:(((vecsD l).length:Nat):Int)≠0:=by
      omega
     refine ⟨o58,?_⟩
     have o59:0≤(Int.tmod (IntKind.i64.wrap (((k:Nat):Int)+(1:Int))) (((vecsD l).length:Nat):Int))∧(Int.tmod (IntKind.i64.wrap (((k:Nat):Int)+(1:Int))) (((vecsD l).length:Nat):Int)) < ((vecsD l).length:Int):=by
      omega
     refine ⟨o59,?_⟩
     have o60:(Int.tmod (IntKind.i64.wrap (((k:Nat):Int)+(1:Int))) (((vecsD l).length:Nat):Int)).toNat < (vecsD l).length:=by
      omega
     refine ⟨o60,?_⟩
     refine ⟨((l.getD ((k+1) % l.length) (0,0)).1,(l.getD ((k+1) % l.length) (0,0)).2),by
      rw [m1,vecs_x m2,vecs_y m2];rfl,by
      show (-9223372036854775808≤((l.getD ((k+1) % l.length) (0,0)).1)∧((l.getD ((k+1) % l.length) (0,0)).1)≤9223372036854775807)∧-9223372036854775808≤((l.getD ((k+1) % l.length) (0,0)).2)∧((l.getD ((k+1) % l.length) (0,0)).2)≤9223372036854775807
      exact vec_i64 hP.2.2 m2,?_⟩
     refine ⟨(pqR p,ptAt l k,ptAt l ((k+1) % l.length)),by
      rw [e1,e2,e3,e4,e5,e6];rfl,by
      show (ptAt l k).good=true
      exact ptAt_good hP.2.2 hkl,?_⟩
     refine ⟨((minT l (pqR p) k),(segQ (pqR p) (ptAt l k) (ptAt l ((k+1) % l.length)))),by
      rfl,by
      trivial,?_⟩
     refine ⟨k+1,by
      trivial,by
      omega,?_⟩
     refine ⟨rfl,?_,rfl,rfl,rfl,rfl,rfl,?_,rfl,rfl,rfl,rfl,rfl,?_,?_⟩
     ·exact vint (wrap64 (by omega) (by omega))
     ·show Value.bool (decide ((Fr.min (minT l (pqR p) k) (segQ (pqR p) (ptAt l k) (ptAt l ((k+1) % l.length)))).z < 0))=Value.bool (decide ((minT l (pqR p) (k+1)).z < 0))
      rfl
     ·show L (Fr.min (minT l (pqR p) k) (segQ (pqR p) (ptAt l k) (ptAt l ((k+1) % l.length)))).z.natAbs=(L (minT l (pqR p) (k+1)).z.natAbs)
      rfl
     show L (Fr.min (minT l (pqR p) k) (segQ (pqR p) (ptAt l k) (ptAt l ((k+1) % l.length)))).d=(L (minT l (pqR p) (k+1)).d)
     rfl
    ·skip
     try simp only [nrm] at c52
     refine eqC_of ?_
     show minT l (pqR p) k=spR l p
     rw [hE,← hT,show k=l.length by omega]
 ·skip
  try simp only [nrm] at c4
  have hE:=spR_no1 (p:=p) c4
  refine eqN_of ?_
  show spR l p=Fr.none
  rw [hE];done
def dtB (l:List V2) (p:PtD) (n:Int):Bool:=decide (n≥0) && ((spR l p).good && decide (Fr.cmp (spR l p) (Fr.ofInt n)≤0))
theorem dt_no {l:List V2} {p:PtD} {n:Int} (h:n < 0∨(spR l p).good=false):dtB l p n=false:=by
 unfold dtB
 rcases h with h|h
 ·rw [decide_eq_false (show ¬ n≥0 by omega)];rfl
 ·rw [h];simp
theorem dt_yes {l:List V2} {p:PtD} {n:Int} (h:0≤n) (h2:(spR l p).good=true):dtB l p n=decide (Fr.cmp (spR l p) (Fr.ofInt n)≤0):=by
 unfold dtB;rw [decide_eq_true (show n≥0 by omega),h2];rfl
def iDisc_con:Con:={ ι:=(List V2)×PtD×Int,pre:=fun i=>i.2.1.has∧i.2.2≤9223372036854775807,args:=fun i=>[.one (.sl 31 [.int,.int] (vecsD i.1)),.agg [.im (.bool i.2.1.x.neg),.sl 3 [.int] i.2.1.x.num,.sl 3 [.int] i.2.1.x.den,.im (.bool i.2.1.y.neg),.sl 3 [.int] i.2.1.y.num,.sl 3 [.int] i.2.1.y.den],.one (.im (.int .i64 i.2.2))],res:=fun i=>⟨false,[none],[.im (Value.bool (dtB i.1 i.2.1 i.2.2))]⟩ }
set_option maxRecDepth 100000 in
theorem iDisc_ok:iDisc_con.Ok Tryz.prog 112:=by
 refine fn_ok (X:=⟨tt,[(57,iIsPoly_con),(142,arePoints_con),(143,toPoly_con),(132,isGood_con),(75,ratInt_con),(133,ratCmp_con)],[],33⟩) mixed tt_ok (CTok.cons iIsPoly_ok (CTok.cons arePoints_ok (CTok.cons toPoly_ok (CTok.cons isGood_ok (CTok.cons ratInt_ok (CTok.cons ratCmp_ok (CTok.nil _))))))) Tryz.func112 (by decide) rfl rfl rfl (fun _=>Nat.le_of_ble_eq_true rfl) (fun _=>Nat.le_of_ble_eq_true rfl) (fun _=>[]) ?_
 rintro ⟨l,p,n⟩ hpre
 have hpre:p.has∧n≤9223372036854775807:=hpre
 refine by_nf (q:=∃ i1:(List V2),[DA.one (DC.sl 31 [.int,.int] (vecsD l))]=iIsPoly_con.args i1∧iIsPoly_con.pre i1∧(((!(!(isPoly i1)))=true→(∃ i2:(List (List Dat)),[DA.one (DC.sl 54 [.bool,.sl 3 [.int],.sl 3 [.int],.bool,.sl 3 [.int],.sl 3 [.int]] ([[Dat.bool p.x.neg,Dat.sl p.x.num,Dat.sl p.x.den,Dat.bool p.y.neg,Dat.sl p.y.num,Dat.sl p.y.den]]:List (List Dat)))]=arePoints_con.args i2∧arePoints_con.pre i2∧(((!(!(!(i2.any (fun r=>!(okP (ptOf r)))))))=true→(((decide (n < (0:Int)))=true→((Value.bool false=Value.bool (dtB l p n))))∧((decide (n < (0:Int)))=false→(∃ i3:(List V2)×Pq,[DA.one (DC.sl 31 [.int,.int] (vecsD l)),DA.agg [cB p.x.neg,cS p.x.num,cS p.x.den,cB p.y.neg,cS p.y.num,cS p.y.den]]=toPoly_con.args i3∧toPoly_con.pre i3∧(∃ i4:Fr,[dF (polyQ i3.1 i3.2)]=isGood_con.args i4∧isGood_con.pre i4∧((i4.good=true→(∃ i5:Int,[DA.one (cI n)]=ratInt_con.args i5∧ratInt_con.pre i5∧(∃ i6:Fr×Fr,[dF (polyQ i3.1 i3.2),dF (Fr.ofInt i5)]=ratCmp_con.args i6∧ratCmp_con.pre i6∧((Value.bool (decide ((Fr.cmp i6.1 i6.2)≤(0:Int)))=Value.bool (dtB l p n))))))∧(i4.good=false→((Value.bool false=Value.bool (dtB l p n))))))))))∧((!(!(!(i2.any (fun r=>!(okP (ptOf r)))))))=false→((Value.bool false=Value.bool (dtB l p n)))))))∧((!(!(isPoly i1)))=false→((Value.bool false=Value.bool (dtB l p n)))))) (by kernel_rfl) ?_
 have hvl:=vecsD_length l
 have hpl:=ptsD_len l
 refine ⟨l,by
  rfl,by
  trivial,?_⟩
 refine ⟨fun c4=>?_,fun c4=>?_⟩
 ·skip
  try simp only [nrm] at c4
  refine ⟨([[Dat.bool p.x.neg,Dat.sl p.x.num,Dat.sl p.x.den,Dat.bool p.y.neg,Dat.sl p.y.num,Dat.sl p.y.den]]:List (List Dat)),by
   rfl,by
   show ([[Dat.bool p.x.neg,Dat.sl p.x.num,Dat.sl p.x.den,Dat.bool p.y.neg,Dat.sl p.y.num,Dat.sl p.y.den]]:List (List Dat)).length≤9223372036854775807∧∀ k,k < ([[Dat.bool p.x.neg,Dat.sl p.x.num,Dat.sl p.x.den,Dat.bool p.y.neg,Dat.sl p.y.num,Dat.sl p.y.den]]:List (List Dat)).length→(ptOf (([[Dat.bool p.x.neg,Dat.sl p.x.num,Dat.sl p.x.den,Dat.bool p.y.neg,Dat.sl p.y.num,Dat.sl p.y.den]]:List (List Dat)).getD k [])).has
   exact ⟨by show 1≤_;decide,one_has hpre.1⟩,?_⟩
  refine ⟨fun c8=>?_,fun c8=>?_⟩
  ·skip
   try simp only [nrm] at c8
   have c8:okP p=true:=by have h:=(any1 p).symm.trans c8;simpa using h
   have hS:=spR_yes c4 c8
   obtain ⟨e1,e2,e3,e4,e5,e6,e7,e8⟩:=pqR_ok hpre.1 c8
   refine ⟨fun c9=>?_,fun c9=>?_⟩
   ·skip
    try simp only [nrm] at c9
    have hE:dtB l p n=false:=dt_no (.inl c9)
    show Value.bool false=Value.bool (dtB l p n)
    rw [hE]
   ·skip
    try simp only [nrm] at c9
    refine ⟨(l,pqR p),by
     rw [e1,e2,e3,e4,e5,e6];rfl,by
     show l.all isVec=true∧0 < l.length∧l.length≤16
     have:=isPoly_len c4
     exact ⟨this.2.2,by omega,by omega⟩,?_⟩
    refine ⟨(polyQ l (pqR p)),by
     rfl,by
     trivial,?_⟩
    refine ⟨fun c17=>?_,fun c17=>?_⟩
    ·skip
     try simp only [nrm] at c17
     have hE:=dt_yes (l:=l) (p:=p) c9 (by rw [hS];exact c17)
     rw [hS] at hE
     refine ⟨n,by
      rfl,by
      show -9223372036854775808≤n∧n≤9223372036854775807
      exact ⟨by omega,hpre.2⟩,?_⟩
     refine ⟨((polyQ l (pqR p)),(Fr.ofInt n)),by
      rfl,by
      trivial,?_⟩
     show Value.bool (decide ((Fr.cmp (polyQ l (pqR p)) (Fr.ofInt n))≤(0:Int)))=Value.bool (dtB l p n)
     rw [hE]
    ·skip
     try simp only [nrm] at c17
     have hE:dtB l p n=false:=dt_no (.inr (by rw [hS];exact c17))
     show Value.bool false=Value.bool (dtB l p n)
     rw [hE]
  ·skip
   try simp only [nrm] at c8
   have c8:okP p=false:=by have h:=(any1 p).symm.trans c8;simpa using h
   have hE:dtB l p n=false:=dt_no (.inr (by rw [spR_no2 c8];rfl))
   show Value.bool false=Value.bool (dtB l p n)
   rw [hE]
 ·skip
  try simp only [nrm] at c4
  have hE:dtB l p n=false:=dt_no (.inr (by rw [spR_no1 c4];rfl))
  show Value.bool false=Value.bool (dtB l p n)
  rw [hE]
def sDisc_con:Con:={ ι:=(List V2)×PtD×Int,pre:=fun i=>i.2.1.has∧i.2.2≤9223372036854775807,args:=fun i=>[.one (.sl 31 [.int,.int] (vecsD i.1)),.agg [.im (.bool i.2.1.x.neg),.sl 3 [.int] i.2.1.x.num,.sl 3 [.int] i.2.1.x.den,.im (.bool i.2.1.y.neg),.sl 3 [.int] i.2.1.y.num,.sl 3 [.int] i.2.1.y.den],.one (.im (.int .i64 i.2.2))],res:=fun i=>⟨false,[none],[.im (Value.bool (dtB i.1 i.2.1 i.2.2))]⟩ }
set_option maxRecDepth 100000 in
theorem sDisc_ok:sDisc_con.Ok Tryz.prog 104:=by
 refine fn_ok (X:=⟨tt,[(139,sSqPoly_con),(53,sRatOk_con),(73,sRatFromInt_con),(82,sRatCmp_con)],[],24⟩) mixed tt_ok (CTok.cons sSqPoly_ok (CTok.cons sRatOk_ok (CTok.cons sRatFromInt_ok (CTok.cons sRatCmp_ok (CTok.nil _))))) Tryz.func104 (by decide) rfl rfl rfl (fun _=>Nat.le_of_ble_eq_true rfl) (fun _=>Nat.le_of_ble_eq_true rfl) (fun _=>[]) ?_
 rintro ⟨l,p,n⟩ hpre
 have hpre:p.has∧n≤9223372036854775807:=hpre
 refine by_nf (q:=∃ i1:(List V2)×PtD,[DA.one (DC.sl 31 [.int,.int] (vecsD l)),DA.agg [cB p.x.neg,cS p.x.num,cS p.x.den,cB p.y.neg,cS p.y.num,cS p.y.den]]=sSqPoly_con.args i1∧sSqPoly_con.pre i1∧(∃ i2:Bool×(List (List Dat))×(List (List Dat))×Bool,[dF (spR i1.1 i1.2)]=sRatOk_con.args i2∧sRatOk_con.pre i2∧((i2.2.2.2=true→(((decide (n≥(0:Int)))=true→(∃ i3:Int,[DA.one (cI n)]=sRatFromInt_con.args i3∧sRatFromInt_con.pre i3∧(∃ i4:Fr×Fr,[dF (spR i1.1 i1.2),dF (Fr.ofInt i3)]=sRatCmp_con.args i4∧sRatCmp_con.pre i4∧((Value.bool (decide ((Fr.cmp i4.1 i4.2)≤(0:Int)))=Value.bool (dtB l p n))))))∧((decide (n≥(0:Int)))=false→((Value.bool false=Value.bool (dtB l p n))))))∧(i2.2.2.2=false→((Value.bool false=Value.bool (dtB l p n))))))) (by kernel_rfl) ?_
 have hvl:=vecsD_length l
 have hpl:=ptsD_len l
 have n1:=(spR l p).nlz
 have n2:=(spR l p).nld
 have l1:=L_len (spR l p).z.natAbs
 have l2:=L_len (spR l p).d
 refine ⟨(l,p),by
  rfl,by
  exact hpre.1,?_⟩
 refine ⟨((decide ((spR l p).z < 0)),L (spR l p).z.natAbs,L (spR l p).d,(spR l p).good),by
  rfl,by
  show Dat.has (.sl 3 [.int]) (.sl (L (spR l p).z.natAbs))∧Dat.has (.sl 3 [.int]) (.sl (L (spR l p).d))∧(L (spR l p).z.natAbs).length≤9223372036854775807∧(L (spR l p).d).length≤9223372036854775807∧ratOkR (decide ((spR l p).z < 0)) (L (spR l p).z.natAbs) (L (spR l p).d)=((spR l p).good)
  exact ⟨L_has _ (by omega),L_has _ (by omega),by omega,by omega,ratOkR_zd _⟩,?_⟩
 refine ⟨fun c7=>?_,fun c7=>?_⟩
 ·skip
  replace c7:((spR l p).good)=true:=c7
  try simp only [nrm] at c7
  refine ⟨fun c8=>?_,fun c8=>?_⟩
  ·skip
   try simp only [nrm] at c8
   have hE:=dt_yes (l:=l) (p:=p) c8 c7
   refine ⟨n,by
    rfl,by
    show -9223372036854775808≤n∧n≤9223372036854775807
    exact ⟨by omega,hpre.2⟩,?_⟩
   refine ⟨((spR l p),(Fr.ofInt n)),by
    rfl,by
    trivial,?_⟩
   show Value.bool (decide ((Fr.cmp (spR l p) (Fr.ofInt n))≤(0:Int)))=Value.bool (dtB l p n)
   rw [hE]
  ·skip
   try simp only [nrm] at c8
   have hE:dtB l p n=false:=dt_no (.inl c8)
   show Value.bool false=Value.bool (dtB l p n)
   rw [hE]
 ·skip
  replace c7:((spR l p).good)=false:=c7
  try simp only [nrm] at c7
  have hE:dtB l p n=false:=dt_no (.inr c7)
  show Value.bool false=Value.bool (dtB l p n)
  rw [hE]
end Go.Proofs.YtppjhpglejehkaaGreat
