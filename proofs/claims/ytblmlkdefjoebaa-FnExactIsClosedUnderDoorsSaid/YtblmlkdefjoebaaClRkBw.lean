import Derived.Test.YtblmlkdefjoebaaClRkHd
namespace Go.Proofs.Ytblmlkdefjoebaa
set_option maxRecDepth 100000
set_option linter.unusedVariables false
set_option linter.unusedSimpArgs false
open Go.RowKit
abbrev ceD (ds:List (List Dat)) (k:Nat):Int:=((ds.getD k []).getD 0 (.int 0)).n
abbrev waD (ds:List (List Dat)) (k:Nat):Int:=((ds.getD k []).getD 1 (.int 0)).n
abbrev inN (r:List Dat):Int:=(r.getD 0 (.int 0)).n
theorem lt_stepB {P:Nat→Prop} {k:Nat} (h:∀ j,j < k→P j) (hk:P k):∀ j,j < k+1→P j:=fun j hj=>by
 by_cases e:j=k
 ·subst e;exact hk
 ·exact h j (by omega)
def idxB {α:Type} (p:α→Bool) (l:List α):Int:=match l.findIdx? p with|some k=>(k:Int)|none=>-1
theorem idxB_at {α:Type} {p:α→Bool} {l:List α} {d:α} {k:Nat} (hk:k < l.length) (h:∀ j,j < k→p (l.getD j d)=false) (hp:p (l.getD k d)=true):idxB p l=(k:Int):=by
 have:l.findIdx? p=some k:=by
  rw [List.findIdx?_eq_some_iff_getElem]
  refine ⟨hk,by simpa [List.getD,hk] using hp,fun j hj=>?_⟩
  have:=h j hj
  simpa [List.getD,show j < l.length by omega] using this
 unfold idxB;rw [this]
theorem idxB_none {α:Type} {p:α→Bool} {l:List α} {d:α} (h:∀ j,j < l.length→p (l.getD j d)=false):idxB p l=-1:=by
 have:l.findIdx? p=none:=by
  rw [List.findIdx?_eq_none_iff]
  intro x hx
  obtain ⟨j,hj,rfl⟩:=List.getElem_of_mem hx
  have:=h j hj
  simpa [List.getD,hj] using this
 unfold idxB;rw [this]
theorem idxB_any {α:Type} (p:α→Bool) (l:List α):decide (idxB p l≥0)=l.any p:=by
 unfold idxB
 cases h:l.findIdx? p with
 | some k=>
  rw [List.findIdx?_eq_some_iff_getElem] at h
  obtain ⟨h1,h2,_⟩:=h
  have:l.any p=true:=List.any_eq_true.2 ⟨l[k],List.getElem_mem h1,h2⟩
  rw [this];simp
 | none=>
  rw [List.findIdx?_eq_none_iff] at h
  have:l.any p=false:=by rw [List.any_eq_false];intro x hx;rw [h x hx];simp
  rw [this];rfl
def hasB (l:List (List Dat)) (n:Int):Bool:=l.any fun r=>decide (inN r=n)
theorem hasB_at {l:List (List Dat)} {n:Int} {k:Nat} (hk:k < l.length) (h:inN (l.getD k [])=n):hasB l n=true:=List.any_eq_true.2 ⟨l.getD k [],by simp [List.getD,hk],decide_eq_true h⟩
theorem hasB_no {l:List (List Dat)} {n:Int} (h:∀ j,j < l.length→decide (inN (l.getD j [])=n)=false):hasB l n=false:=by
 unfold hasB
 rw [List.any_eq_false]
 intro x hx
 obtain ⟨j,hj,rfl⟩:=List.getElem_of_mem hx
 have:=h j hj
 simp only [List.getD,List.getElem?_eq_getElem hj,Option.getD_some] at this
 rw [this];simp
theorem hasB_idx (l:List (List Dat)) (n:Int):decide (idxB (fun r=>decide (inN r=n)) l≥0)=hasB l n:=idxB_any _ _
def outB (c:List (List Dat)) (d e:List Dat):Bool:=decide ((e.getD 1 (.int 0)).n=(d.getD 1 (.int 0)).n) && !(hasB c (e.getD 0 (.int 0)).n)
def bwL (ds c:List (List Dat)):Nat→List Int
 | 0=>[]
 | k+1=>if (hasB c (ceD ds k) && ds.any (outB c (ds.getD k [])))=true then bwL ds c k++[waD ds k] else bwL ds c k
def bwR (ds c:List (List Dat)):List Int:=setI (bwL ds c ds.length)
theorem bwL_yes {ds c:List (List Dat)} {k:Nat} (h1:hasB c (ceD ds k)=true) (h2:ds.any (outB c (ds.getD k []))=true):bwL ds c (k+1)=bwL ds c k++[waD ds k]:=by rw [bwL,h1,h2];rfl
theorem bwL_no {ds c:List (List Dat)} {k:Nat} (h:hasB c (ceD ds k)=false∨ds.any (outB c (ds.getD k []))=false):bwL ds c (k+1)=bwL ds c k:=by
 rw [bwL,if_neg]
 rw [Bool.and_eq_true]
 rintro ⟨h1,h2⟩
 rcases h with h|h
 ·rw [h] at h1;cases h1
 ·rw [h] at h2;cases h2
theorem bwL_len (ds c:List (List Dat)):∀ k,(bwL ds c k).length≤k
 | 0=>Nat.le_refl _
 | k+1=>by
  have:=bwL_len ds c k
  unfold bwL
  split
  ·rw [List.length_append];simp only [List.length_cons,List.length_nil];omega
  ·omega
theorem mem_bwL {ds c:List (List Dat)} {x:Int} : ∀ k,x ∈ bwL ds c k↔∃ i,i < k∧x=waD ds i∧hasB c (ceD ds i)=true∧ds.any (outB c (ds.getD i []))=true
 | 0=>by simp [bwL]
 | k+1=>by
  have ih:=mem_bwL (ds:=ds) (c:=c) (x:=x) k
  unfold bwL
  by_cases h:(hasB c (ceD ds k) && ds.any (outB c (ds.getD k [])))=true
  ·rw [if_pos h,List.mem_append,ih,List.mem_singleton]
   rw [Bool.and_eq_true] at h
   constructor
   ·rintro (⟨i,hi,q⟩|rfl)
    ·exact ⟨i,by omega,q⟩
    ·exact ⟨k,by omega,rfl,h.1,h.2⟩
   ·rintro ⟨i,hi,q1,q2⟩
    by_cases hk:i=k
    ·subst hk;exact .inr q1
    ·exact .inl ⟨i,by omega,q1,q2⟩
  ·rw [if_neg h,ih]
   constructor
   ·rintro ⟨i,hi,q⟩;exact ⟨i,by omega,q⟩
   ·rintro ⟨i,hi,q1,q2,q3⟩
    by_cases hk:i=k
    ·subst hk;exact absurd (by rw [q2,q3];rfl) h
    ·exact ⟨i,by omega,q1,q2,q3⟩
def idxInt_con:Con:={ ι:=(List (List Dat))×Int,pre:=fun i=>i.1.length≤1073741824,args:=fun i=>[.one (.sl 3 [.int] i.1),.one (.im (.int .i64 i.2))],res:=fun i=>⟨false,[none],[.im (Value.int .i64 (idxB (fun r=>decide (inN r=i.2)) i.1))]⟩ }
theorem idxInt_ok:idxInt_con.Ok Try.prog 75:=by
 refine fn_ok (X:=⟨tt,[],[],19,[]⟩) mixed tt_ok (CTok.nil _) (InlOk.nil _) Try.func75 (by decide) rfl rfl rfl (fun _=>Nat.le_of_ble_eq_true rfl) (fun _=>Nat.le_of_ble_eq_true rfl) (fun (i:(List (List Dat))×Int)=>[(2,.mk 2 (Nat) (fun x1=>{ tm:=[(0,.one (.one (.ext 1))),(1,.one (.one (.im (Value.int .i64 i.2)))),(6,.one (.one (.ext 1))),(7,.one (.one (.im (Value.int .i64 ((i.1.length:Nat):Int))))),(8,.one (.one (.im (Value.int .i64 ((x1:Nat):Int)))))],en:=[(1,.view 3 [.int] i.1 [])] }) (fun x1=>x1≤i.1.length∧∀ j,j < x1→decide (inN (i.1.getD j [])=i.2)=false) (fun x1=>i.1.length - x1) (fun _=>[]))]) ?_
 rintro ⟨l,n⟩ hpre
 have hpre:l.length≤1073741824:=hpre
 refine by_nf (q:=(∃ x1:Nat,(x1≤l.length∧∀ j,j < x1→decide (inN (l.getD j [])=n)=false)∧((rf (Value.int .i64 n))∧(rf (Value.int .i64 ((l.length:Nat):Int)))∧(Value.int .i64 (0:Int)=Value.int .i64 ((x1:Nat):Int))∧(rf (l))))∧∀ x1:Nat,(x1≤l.length∧∀ j,j < x1→decide (inN (l.getD j [])=n)=false)→(((decide (((x1:Nat):Int) < ((l.length:Nat):Int)))=true→((0≤((x1:Nat):Int)∧((x1:Nat):Int) < (l.length:Int))∧((x1 < l.length)∧(((n == (((l.getD x1 []).getD 0 (.int 0))).n)=true→((Value.int .i64 ((x1:Nat):Int)=Value.int .i64 (idxB (fun r=>decide (inN r=n)) l))))∧((n == (((l.getD x1 []).getD 0 (.int 0))).n)=false→(∃ y2:Nat,(y2≤l.length∧∀ j,j < y2→decide (inN (l.getD j [])=n)=false)∧(l.length - y2 < l.length - x1)∧((rf (Value.int .i64 n))∧(rf (Value.int .i64 ((l.length:Nat):Int)))∧(Value.int .i64 (IntKind.i64.wrap (((x1:Nat):Int)+(1:Int)))=Value.int .i64 ((y2:Nat):Int))∧(rf (l)))))))))∧((decide (((x1:Nat):Int) < ((l.length:Nat):Int)))=false→((Value.int .i64 (-1:Int)=Value.int .i64 (idxB (fun r=>decide (inN r=n)) l)))))) (by kernel_rfl) ?_
 refine ⟨⟨0,by
  exact ⟨Nat.zero_le _,fun j hj=>absurd hj (Nat.not_lt_zero j)⟩,?_⟩,?_⟩
 ·refine ⟨rfl,rfl,?_,rfl⟩
  rfl
 intro (k:Nat) hki1
 have hki1:k≤l.length∧∀ j,j < k→decide (inN (l.getD j [])=n)=false:=hki1
 refine And.symm ⟨fun c7=>?_,fun c7=>?_⟩
 ·try simp only [nrm] at c7
  rw [idxB_none (d:=[]) (fun j hj=>hki1.2 j (by omega))]
 try simp only [nrm] at c7
 have o8:0≤((k:Nat):Int)∧((k:Nat):Int) < (l.length:Int):=by
  omega
 refine ⟨o8,?_⟩
 have o9:k < l.length:=by
  omega
 refine ⟨o9,?_⟩
 refine ⟨fun c10=>?_,fun c10=>?_⟩
 ·try simp only [nrm] at c10
  rw [idxB_at (d:=[]) (k:=k) (by omega) hki1.2 (decide_eq_true c10.symm)]
 try simp only [nrm] at c10
 refine ⟨k+1,by
  exact ⟨by omega,lt_stepB hki1.2 (decide_eq_false fun e=>c10 e.symm)⟩,by
  omega,?_⟩
 refine ⟨rfl,rfl,?_,rfl⟩
 exact vint (wrap64 (by omega) (by omega))
def hasInt_con:Con:={ ι:=(List (List Dat))×Int,pre:=fun i=>i.1.length≤1073741824,args:=fun i=>[.one (.sl 3 [.int] i.1),.one (.im (.int .i64 i.2))],res:=fun i=>⟨false,[none],[.im (Value.bool (hasB i.1 i.2))]⟩ }
theorem hasInt_ok:hasInt_con.Ok Try.prog 40:=by
 refine fn_ok (X:=⟨tt,[(75,idxInt_con)],[],9,[]⟩) mixed tt_ok (CTok.cons idxInt_ok (CTok.nil _)) (InlOk.nil _) Try.func40 (by decide) rfl rfl rfl (fun _=>Nat.le_of_ble_eq_true rfl) (fun _=>Nat.le_of_ble_eq_true rfl) (fun _=>[]) ?_
 rintro ⟨l,n⟩ hpre
 have hpre:l.length≤1073741824:=hpre
 refine by_nf (q:=∃ i1:(List (List Dat))×Int,[DA.one (cS l),DA.one (cI n)]=idxInt_con.args i1∧idxInt_con.pre i1∧((Value.bool (decide ((idxB (fun r=>decide (inN r=i1.2)) i1.1)≥(0:Int)))=Value.bool (hasB l n)))) (by kernel_rfl) ?_
 refine ⟨(l,n),by
  rfl,by
  show l.length≤1073741824
  trivial,?_⟩
 show Value.bool (decide ((idxB (fun r=>decide (inN r=n)) l)≥(0:Int)))=Value.bool (hasB l n)
 exact congrArg Value.bool (hasB_idx _ _)
def sHasInt_con:Con:={ ι:=(List (List Dat))×Int,pre:=fun i=>i.1.length≤1073741824,args:=fun i=>[.one (.sl 3 [.int] i.1),.one (.im (.int .i64 i.2))],res:=fun i=>⟨false,[none],[.im (Value.bool (hasB i.1 i.2))]⟩ }
theorem sHasInt_ok:sHasInt_con.Ok Try.prog 28:=by
 refine fn_ok (X:=⟨tt,[],[],17,[]⟩) mixed tt_ok (CTok.nil _) (InlOk.nil _) Try.func28 (by decide) rfl rfl rfl (fun _=>Nat.le_of_ble_eq_true rfl) (fun _=>Nat.le_of_ble_eq_true rfl) (fun (i:(List (List Dat))×Int)=>[(2,.mk 2 (Nat) (fun x1=>{ tm:=[(0,.one (.one (.ext 1))),(1,.one (.one (.im (Value.int .i64 i.2)))),(7,.one (.one (.ext 1))),(8,.one (.one (.im (Value.int .i64 ((i.1.length:Nat):Int))))),(9,.one (.one (.im (Value.int .i64 ((x1:Nat):Int)))))],en:=[(1,.view 3 [.int] i.1 [])] }) (fun x1=>x1≤i.1.length∧∀ j,j < x1→decide (inN (i.1.getD j [])=i.2)=false) (fun x1=>i.1.length - x1) (fun _=>[]))]) ?_
 rintro ⟨l,n⟩ hpre
 have hpre:l.length≤1073741824:=hpre
 refine by_nf (q:=(∃ x1:Nat,(x1≤l.length∧∀ j,j < x1→decide (inN (l.getD j [])=n)=false)∧((rf (Value.int .i64 n))∧(rf (Value.int .i64 ((l.length:Nat):Int)))∧(Value.int .i64 (0:Int)=Value.int .i64 ((x1:Nat):Int))∧(rf (l))))∧∀ x1:Nat,(x1≤l.length∧∀ j,j < x1→decide (inN (l.getD j [])=n)=false)→(((decide (((x1:Nat):Int) < ((l.length:Nat):Int)))=true→((0≤((x1:Nat):Int)∧((x1:Nat):Int) < (l.length:Int))∧((x1 < l.length)∧((((((l.getD x1 []).getD 0 (.int 0))).n == n)=true→((Value.bool true=Value.bool (hasB l n))))∧(((((l.getD x1 []).getD 0 (.int 0))).n == n)=false→(∃ y2:Nat,(y2≤l.length∧∀ j,j < y2→decide (inN (l.getD j [])=n)=false)∧(l.length - y2 < l.length - x1)∧((rf (Value.int .i64 n))∧(rf (Value.int .i64 ((l.length:Nat):Int)))∧(Value.int .i64 (IntKind.i64.wrap (((x1:Nat):Int)+(1:Int)))=Value.int .i64 ((y2:Nat):Int))∧(rf (l)))))))))∧((decide (((x1:Nat):Int) < ((l.length:Nat):Int)))=false→((Value.bool false=Value.bool (hasB l n)))))) (by kernel_rfl) ?_
 refine ⟨⟨0,by
  exact ⟨Nat.zero_le _,fun j hj=>absurd hj (Nat.not_lt_zero j)⟩,?_⟩,?_⟩
 ·refine ⟨rfl,rfl,?_,rfl⟩
  rfl
 intro (k:Nat) hki1
 have hki1:k≤l.length∧∀ j,j < k→decide (inN (l.getD j [])=n)=false:=hki1
 refine And.symm ⟨fun c7=>?_,fun c7=>?_⟩
 ·try simp only [nrm] at c7
  exact congrArg Value.bool (hasB_no (fun j hj=>hki1.2 j (by omega))).symm
 try simp only [nrm] at c7
 have o8:0≤((k:Nat):Int)∧((k:Nat):Int) < (l.length:Int):=by
  omega
 refine ⟨o8,?_⟩
 have o9:k < l.length:=by
  omega
 refine ⟨o9,?_⟩
 refine ⟨fun c10=>?_,fun c10=>?_⟩
 ·try simp only [nrm] at c10
  exact congrArg Value.bool (hasB_at (k:=k) (by omega) c10).symm
 try simp only [nrm] at c10
 refine ⟨k+1,by
  exact ⟨by omega,lt_stepB hki1.2 (decide_eq_false c10)⟩,by
  omega,?_⟩
 refine ⟨rfl,rfl,?_,rfl⟩
 exact vint (wrap64 (by omega) (by omega))
def bwc_con:Con:={ ι:=(List Dat)×(List Dat)×(List (List Dat)),pre:=fun i=>i.2.2.length≤1048576,args:=fun i=>[.agg [.im (.int .i64 ((i.1.getD 0 (.int 0)).n)),.im (.int .i64 ((i.1.getD 1 (.int 0)).n))],.one (.ro (.ptr [.im (Value.int .i64 ((i.2.1.getD 0 (.int 0)).n)),.im (Value.int .i64 ((i.2.1.getD 1 (.int 0)).n))])),.one (.ro (.ptr [.sl 3 [.int] i.2.2]))],res:=fun i=>⟨false,[none],[.im (Value.bool (outB i.2.2 i.2.1 i.1))]⟩ }
theorem bwc_ok:bwc_con.Ok Try.prog 42:=by
 refine fn_ok (X:=⟨tt,[(40,hasInt_con)],[],17,[]⟩) mixed tt_ok (CTok.cons hasInt_ok (CTok.nil _)) (InlOk.nil _) Try.func42 (by decide) rfl rfl rfl (fun _=>Nat.le_of_ble_eq_true rfl) (fun _=>Nat.le_of_ble_eq_true rfl) (fun _=>[]) ?_
 rintro ⟨e,d,c⟩ hpre
 have hpre:c.length≤1048576:=hpre
 refine by_nf (q:=((((e.getD 1 (.int 0)).n) == ((d.getD 1 (.int 0)).n))=true→(∃ i1:(List (List Dat))×Int,[DA.one (cS c),DA.one (cI ((e.getD 0 (.int 0)).n))]=hasInt_con.args i1∧hasInt_con.pre i1∧((Value.bool (!(hasB i1.1 i1.2))=Value.bool (outB c d e)))))∧((((e.getD 1 (.int 0)).n) == ((d.getD 1 (.int 0)).n))=false→((Value.bool false=Value.bool (outB c d e))))) (by kernel_rfl) ?_
 refine And.symm ⟨fun c1=>?_,fun c1=>?_⟩
 ·try simp only [nrm] at c1
  exact congrArg Value.bool (by unfold outB;simp_all)
 try simp only [nrm] at c1
 refine ⟨(c,((e.getD 0 (.int 0)).n)),by
  rfl,by
  show c.length≤1073741824
  first|omega|assumption|exact hpre.1|exact hpre.2|(simp;done),?_⟩
 show Value.bool (!(hasB c ((e.getD 0 (.int 0)).n)))=Value.bool (outB c d e)
 exact congrArg Value.bool (by unfold outB;simp_all)
def doIdx_con:Con:={ ι:=(List (List Dat))×(List Dat)×(List (List Dat)),pre:=fun i=>i.1.length≤1048576∧i.2.2.length≤1048576,args:=fun i=>[.one (.sl 75 [.int,.int] i.1),.one (.ro (.fn 42 [[.im (Value.int .i64 ((i.2.1.getD 0 (.int 0)).n)),.im (Value.int .i64 ((i.2.1.getD 1 (.int 0)).n))],[.sl 3 [.int] i.2.2]]))],tag:=43,res:=fun i=>⟨false,[none],[.im (Value.int .i64 (idxB (outB i.2.2 i.2.1) i.1))]⟩ }
theorem doIdx_ok:doIdx_con.Ok Try.prog 76:=by
 refine fn_ok (X:=⟨tt,[(42,bwc_con)],[],19,[]⟩) mixed tt_ok (CTok.cons bwc_ok (CTok.nil _)) (InlOk.nil _) Try.func76 (by decide) rfl rfl rfl (fun _=>Nat.le_of_ble_eq_true rfl) (fun _=>Nat.le_of_ble_eq_true rfl) (fun (i:(List (List Dat))×(List Dat)×(List (List Dat)))=>[(2,.mk 3 (Nat) (fun x1=>{ tm:=[(0,.one (.one (.ext 1))),(1,.one (.one (.ext 2))),(7,.one (.one (.im (Value.int .i64 ((i.1.length:Nat):Int))))),(8,.one (.one (.im (Value.int .i64 ((x1:Nat):Int)))))],en:=[(1,.view 75 [.int,.int] i.1 []),(2,.ro (.fn 42 [[.im (Value.int .i64 ((i.2.1.getD 0 (.int 0)).n)),.im (Value.int .i64 ((i.2.1.getD 1 (.int 0)).n))],[.sl 3 [.int] i.2.2]]) [])] }) (fun x1=>x1≤i.1.length∧∀ j,j < x1→(outB i.2.2 i.2.1) (i.1.getD j [])=false) (fun x1=>i.1.length - x1) (fun _=>[]))]) ?_
 rintro ⟨l,d,c⟩ hpre
 have hpre:l.length≤1048576∧c.length≤1048576:=hpre
 refine by_nf (q:=(∃ x1:Nat,(x1≤l.length∧∀ j,j < x1→(outB c d) (l.getD j [])=false)∧((rf (Value.int .i64 ((l.length:Nat):Int)))∧(Value.int .i64 (0:Int)=Value.int .i64 ((x1:Nat):Int))∧(rf (l))∧((.fn 42 [[.im (Value.int .i64 ((d.getD 0 (.int 0)).n)),.im (Value.int .i64 ((d.getD 1 (.int 0)).n))],[.sl 3 [.int] c]]:RO)=.fn 42 [[.im (Value.int .i64 ((d.getD 0 (.int 0)).n)),.im (Value.int .i64 ((d.getD 1 (.int 0)).n))],[.sl 3 [.int] c]])))∧∀ x1:Nat,(x1≤l.length∧∀ j,j < x1→(outB c d) (l.getD j [])=false)→(((decide (((x1:Nat):Int) < ((l.length:Nat):Int)))=true→((0≤((x1:Nat):Int)∧((x1:Nat):Int) < (l.length:Int))∧((x1 < l.length)∧(∃ i1:(List Dat)×(List Dat)×(List (List Dat)),[DA.agg [cI ((((l.getD x1 []).getD 0 (.int 0))).n),cI ((((l.getD x1 []).getD 1 (.int 0))).n)],DA.one (DC.ro (.ptr [.im (Value.int .i64 ((d.getD 0 (.int 0)).n)),.im (Value.int .i64 ((d.getD 1 (.int 0)).n))])),DA.one (DC.ro (.ptr [.sl 3 [.int] c]))]=bwc_con.args i1∧bwc_con.pre i1∧(((outB i1.2.2 i1.2.1 i1.1)=true→((Value.int .i64 ((x1:Nat):Int)=Value.int .i64 (idxB (outB c d) l))))∧((outB i1.2.2 i1.2.1 i1.1)=false→(∃ y2:Nat,(y2≤l.length∧∀ j,j < y2→(outB c d) (l.getD j [])=false)∧(l.length - y2 < l.length - x1)∧((rf (Value.int .i64 ((l.length:Nat):Int)))∧(Value.int .i64 (IntKind.i64.wrap (((x1:Nat):Int)+(1:Int)))=Value.int .i64 ((y2:Nat):Int))∧(rf (l))∧((.fn 42 [[.im (Value.int .i64 ((d.getD 0 (.int 0)).n)),.im (Value.int .i64 ((d.getD 1 (.int 0)).n))],[.sl 3 [.int] c]]:RO)=.fn 42 [[.im (Value.int .i64 ((d.getD 0 (.int 0)).n)),.im (Value.int .i64 ((d.getD 1 (.int 0)).n))],[.sl 3 [.int] c]])))))))))∧((decide (((x1:Nat):Int) < ((l.length:Nat):Int)))=false→((Value.int .i64 (-1:Int)=Value.int .i64 (idxB (outB c d) l)))))) (by kernel_rfl) ?_
 refine ⟨⟨0,by
  exact ⟨Nat.zero_le _,fun j hj=>absurd hj (Nat.not_lt_zero j)⟩,?_⟩,?_⟩
 ·refine ⟨rfl,?_,rfl,?_⟩
  ·rfl
  rfl
 intro (k:Nat) hki1
 have hki1:k≤l.length∧∀ j,j < k→(outB c d) (l.getD j [])=false:=hki1
 refine And.symm ⟨fun c7=>?_,fun c7=>?_⟩
 ·try simp only [nrm] at c7
  rw [idxB_none (d:=[]) (fun j hj=>hki1.2 j (by omega))]
 try simp only [nrm] at c7
 have o8:0≤((k:Nat):Int)∧((k:Nat):Int) < (l.length:Int):=by
  omega
 refine ⟨o8,?_⟩
 have o9:k < l.length:=by
  omega
 refine ⟨o9,?_⟩
 refine ⟨(l.getD k [],d,c),by
  rfl,by
  exact hpre.2,?_⟩
 refine ⟨fun c13=>?_,fun c13=>?_⟩
 ·replace c13:(outB c d (l.getD k []))=true:=c13
  try simp only [nrm] at c13
  rw [idxB_at (d:=[]) (by omega) hki1.2 c13]
 replace c13:(outB c d (l.getD k []))=false:=c13
 try simp only [nrm] at c13
 refine ⟨k+1,by
  exact ⟨by omega,lt_stepB hki1.2 c13⟩,by
  omega,?_⟩
 refine ⟨rfl,?_,rfl,?_⟩
 ·exact vint (wrap64 (by omega) (by omega))
 rfl
def doAny_con:Con:={ ι:=(List (List Dat))×(List Dat)×(List (List Dat)),pre:=fun i=>i.1.length≤1048576∧i.2.2.length≤1048576,args:=fun i=>[.one (.sl 75 [.int,.int] i.1),.one (.ro (.fn 42 [[.im (Value.int .i64 ((i.2.1.getD 0 (.int 0)).n)),.im (Value.int .i64 ((i.2.1.getD 1 (.int 0)).n))],[.sl 3 [.int] i.2.2]]))],tag:=43,res:=fun i=>⟨false,[none],[.im (Value.bool (i.1.any (outB i.2.2 i.2.1)))]⟩ }
theorem doAny_ok:doAny_con.Ok Try.prog 41:=by
 refine fn_ok (X:=⟨tt,[(76,doIdx_con)],[],9,[]⟩) mixed tt_ok (CTok.cons doIdx_ok (CTok.nil _)) (InlOk.nil _) Try.func41 (by decide) rfl rfl rfl (fun _=>Nat.le_of_ble_eq_true rfl) (fun _=>Nat.le_of_ble_eq_true rfl) (fun _=>[]) ?_
 rintro ⟨l,d,c⟩ hpre
 have hpre:l.length≤1048576∧c.length≤1048576:=hpre
 refine by_nf (q:=∃ i1:(List (List Dat))×(List Dat)×(List (List Dat)),[DA.one (DC.sl 75 [.int,.int] l),DA.one (DC.ro (.fn 42 [[.im (Value.int .i64 ((d.getD 0 (.int 0)).n)),.im (Value.int .i64 ((d.getD 1 (.int 0)).n))],[.sl 3 [.int] c]]))]=doIdx_con.args i1∧doIdx_con.pre i1∧((Value.bool (decide ((idxB (outB i1.2.2 i1.2.1) i1.1)≥(0:Int)))=Value.bool (l.any (outB c d))))) (by kernel_rfl) ?_
 refine ⟨(l,d,c),by
  rfl,by
  exact hpre,?_⟩
 show Value.bool (decide ((idxB (outB c d) l)≥(0:Int)))=Value.bool (l.any (outB c d))
 exact congrArg Value.bool (idxB_any _ _)
def iBorder_con:Con:={ ι:=(List Dat)×(List (List Dat)),pre:=fun i=>(i.1.getD 9 (.int 0)).r.length≤1048576∧i.2.length≤1048576,args:=fun i=>[.agg [.im (.int .i64 ((i.1.getD 0 (.int 0)).n)),.im (.bool ((i.1.getD 1 (.int 0)).b)),.im (.int .i64 ((i.1.getD 2 (.int 0)).n)),.im (.int .i64 ((i.1.getD 3 (.int 0)).n)),.im (.int .i64 ((i.1.getD 4 (.int 0)).n)),.im (.int .i64 ((i.1.getD 5 (.int 0)).n)),.sl 61 [.sl 35 [.int,.int]] ((i.1.getD 6 (.int 0)).r),.sl 124 [.bool,.sl 3 [.int],.sl 3 [.int],.bool,.sl 3 [.int],.sl 3 [.int],.bool,.sl 3 [.int],.sl 3 [.int],.bool,.sl 3 [.int],.sl 3 [.int],.bool,.sl 3 [.int],.sl 3 [.int],.bool,.sl 3 [.int],.sl 3 [.int]] ((i.1.getD 7 (.int 0)).r),.sl 127 [.bool,.sl 3 [.int],.sl 3 [.int],.bool,.sl 3 [.int],.sl 3 [.int],.bool,.sl 3 [.int],.sl 3 [.int]] ((i.1.getD 8 (.int 0)).r),.sl 75 [.int,.int] ((i.1.getD 9 (.int 0)).r),.sl 3 [.int] ((i.1.getD 10 (.int 0)).r)],.one (.sl 3 [.int] i.2)],res:=fun i=>⟨false,[none],[.own 3 [.int] (rI (bwR ((i.1.getD 9 (.int 0)).r) i.2))]⟩ }
theorem iBorder_ok:iBorder_con.Ok Try.prog 14:=by
 refine fn_ok (X:=⟨tt,[(40,hasInt_con),(41,doAny_con),(43,sortI_con),(44,compI_con)],[],36,[]⟩) mixed tt_ok (CTok.cons hasInt_ok (CTok.cons doAny_ok (CTok.cons sortI_ok (CTok.cons compI_ok (CTok.nil _))))) (InlOk.nil _) Try.func14 (by decide) rfl rfl rfl (fun _=>Nat.le_of_ble_eq_true rfl) (fun _=>Nat.le_of_ble_eq_true rfl) (fun (i:(List Dat)×(List (List Dat)))=>[(3,.mk 10 (Nat) (fun x1=>{ tm:=[(2,.one (.one (.bp 1 0))),(3,.one (.one (.bp 7 0))),(10,.one (.one (.ext 5))),(11,.one (.one (.im (Value.int .i64 ((((i.1.getD 9 (.int 0)).r).length:Nat):Int))))),(12,.one (.one (.im (Value.int .i64 ((x1:Nat):Int))))),(5,.one (.one (.ext 9)))],en:=[(1,.box [.im (Value.int .i64 ((i.1.getD 0 (.int 0)).n)),.im (Value.bool ((i.1.getD 1 (.int 0)).b)),.im (Value.int .i64 ((i.1.getD 2 (.int 0)).n)),.im (Value.int .i64 ((i.1.getD 3 (.int 0)).n)),.im (Value.int .i64 ((i.1.getD 4 (.int 0)).n)),.im (Value.int .i64 ((i.1.getD 5 (.int 0)).n)),.ext 2,.ext 3,.ext 4,.ext 5,.ext 6]),(7,.box [.ext 8]),(2,.view 61 [.sl 35 [.int,.int]] ((i.1.getD 6 (.int 0)).r) []),(3,.view 124 [.bool,.sl 3 [.int],.sl 3 [.int],.bool,.sl 3 [.int],.sl 3 [.int],.bool,.sl 3 [.int],.sl 3 [.int],.bool,.sl 3 [.int],.sl 3 [.int],.bool,.sl 3 [.int],.sl 3 [.int],.bool,.sl 3 [.int],.sl 3 [.int]] ((i.1.getD 7 (.int 0)).r) []),(4,.view 127 [.bool,.sl 3 [.int],.sl 3 [.int],.bool,.sl 3 [.int],.sl 3 [.int],.bool,.sl 3 [.int],.sl 3 [.int]] ((i.1.getD 8 (.int 0)).r) []),(5,.view 75 [.int,.int] ((i.1.getD 9 (.int 0)).r) []),(6,.view 3 [.int] ((i.1.getD 10 (.int 0)).r) []),(8,.view 3 [.int] i.2 []),(9,.own 3 [.int] (rI (bwL ((i.1.getD 9 (.int 0)).r) i.2 x1)))] }) (fun x1=>x1≤((i.1.getD 9 (.int 0)).r).length) (fun x1=>((i.1.getD 9 (.int 0)).r).length - x1) (fun _=>[]))]) ?_
 rintro ⟨r,c⟩ hpre
 have hpre:(r.getD 9 (.int 0)).r.length≤1048576∧c.length≤1048576:=hpre
 refine by_nf (q:=(∃ x1:Nat,(x1≤((r.getD 9 (.int 0)).r).length)∧((rf (Value.int .i64 ((((r.getD 9 (.int 0)).r).length:Nat):Int)))∧(Value.int .i64 (0:Int)=Value.int .i64 ((x1:Nat):Int))∧(rf (Value.int .i64 ((r.getD 0 (.int 0)).n)))∧(rf (Value.bool ((r.getD 1 (.int 0)).b)))∧(rf (Value.int .i64 ((r.getD 2 (.int 0)).n)))∧(rf (Value.int .i64 ((r.getD 3 (.int 0)).n)))∧(rf (Value.int .i64 ((r.getD 4 (.int 0)).n)))∧(rf (Value.int .i64 ((r.getD 5 (.int 0)).n)))∧(rf ((r.getD 6 (.int 0)).r))∧(rf ((r.getD 7 (.int 0)).r))∧(rf ((r.getD 8 (.int 0)).r))∧(rf ((r.getD 9 (.int 0)).r))∧(rf ((r.getD 10 (.int 0)).r))∧(rf (c))∧(([]:List (List Dat))=(rI (bwL ((r.getD 9 (.int 0)).r) c x1)))))∧∀ x1:Nat,(x1≤((r.getD 9 (.int 0)).r).length)→(((decide (((x1:Nat):Int) < ((((r.getD 9 (.int 0)).r).length:Nat):Int)))=true→((0≤((x1:Nat):Int)∧((x1:Nat):Int) < (((r.getD 9 (.int 0)).r).length:Int))∧((x1 < ((r.getD 9 (.int 0)).r).length)∧(∃ i1:(List (List Dat))×Int,[DA.one (cS c),DA.one (cI ((((((r.getD 9 (.int 0)).r).getD x1 []).getD 0 (.int 0))).n))]=hasInt_con.args i1∧hasInt_con.pre i1∧(((hasB i1.1 i1.2)=true→(∃ i2:(List (List Dat))×(List Dat)×(List (List Dat)),[DA.one (DC.sl 75 [.int,.int] ((r.getD 9 (.int 0)).r)),DA.one (DC.ro (.fn 42 [[.im (Value.int .i64 (((((r.getD 9 (.int 0)).r).getD x1 []).getD 0 (.int 0))).n),.im (Value.int .i64 (((((r.getD 9 (.int 0)).r).getD x1 []).getD 1 (.int 0))).n)],[.sl 3 [.int] c]]))]=doAny_con.args i2∧doAny_con.pre i2∧(((i2.1.any (outB i2.2.2 i2.2.1))=true→(((rI (bwL ((r.getD 9 (.int 0)).r) c x1)).length+([[Dat.int ((((((r.getD 9 (.int 0)).r).getD x1 []).getD 1 (.int 0))).n)]]:List (List Dat)).length≤1073741824)∧(∃ y2:Nat,(y2≤((r.getD 9 (.int 0)).r).length)∧(((r.getD 9 (.int 0)).r).length - y2 < ((r.getD 9 (.int 0)).r).length - x1)∧((rf (Value.int .i64 ((((r.getD 9 (.int 0)).r).length:Nat):Int)))∧(Value.int .i64 (IntKind.i64.wrap (((x1:Nat):Int)+(1:Int)))=Value.int .i64 ((y2:Nat):Int))∧(rf (Value.int .i64 ((r.getD 0 (.int 0)).n)))∧(rf (Value.bool ((r.getD 1 (.int 0)).b)))∧(rf (Value.int .i64 ((r.getD 2 (.int 0)).n)))∧(rf (Value.int .i64 ((r.getD 3 (.int 0)).n)))∧(rf (Value.int .i64 ((r.getD 4 (.int 0)).n)))∧(rf (Value.int .i64 ((r.getD 5 (.int 0)).n)))∧(rf ((r.getD 6 (.int 0)).r))∧(rf ((r.getD 7 (.int 0)).r))∧(rf ((r.getD 8 (.int 0)).r))∧(rf ((r.getD 9 (.int 0)).r))∧(rf ((r.getD 10 (.int 0)).r))∧(rf (c))∧(((rI (bwL ((r.getD 9 (.int 0)).r) c x1))++([[Dat.int ((((((r.getD 9 (.int 0)).r).getD x1 []).getD 1 (.int 0))).n)]]:List (List Dat)))=(rI (bwL ((r.getD 9 (.int 0)).r) c y2)))))))∧((i2.1.any (outB i2.2.2 i2.2.1))=false→(∃ y3:Nat,(y3≤((r.getD 9 (.int 0)).r).length)∧(((r.getD 9 (.int 0)).r).length - y3 < ((r.getD 9 (.int 0)).r).length - x1)∧((rf (Value.int .i64 ((((r.getD 9 (.int 0)).r).length:Nat):Int)))∧(Value.int .i64 (IntKind.i64.wrap (((x1:Nat):Int)+(1:Int)))=Value.int .i64 ((y3:Nat):Int))∧(rf (Value.int .i64 ((r.getD 0 (.int 0)).n)))∧(rf (Value.bool ((r.getD 1 (.int 0)).b)))∧(rf (Value.int .i64 ((r.getD 2 (.int 0)).n)))∧(rf (Value.int .i64 ((r.getD 3 (.int 0)).n)))∧(rf (Value.int .i64 ((r.getD 4 (.int 0)).n)))∧(rf (Value.int .i64 ((r.getD 5 (.int 0)).n)))∧(rf ((r.getD 6 (.int 0)).r))∧(rf ((r.getD 7 (.int 0)).r))∧(rf ((r.getD 8 (.int 0)).r))∧(rf ((r.getD 9 (.int 0)).r))∧(rf ((r.getD 10 (.int 0)).r))∧(rf (c))∧((rI (bwL ((r.getD 9 (.int 0)).r) c x1))=(rI (bwL ((r.getD 9 (.int 0)).r) c y3)))))))))∧((hasB i1.1 i1.2)=false→(∃ y4:Nat,(y4≤((r.getD 9 (.int 0)).r).length)∧(((r.getD 9 (.int 0)).r).length - y4 < ((r.getD 9 (.int 0)).r).length - x1)∧((rf (Value.int .i64 ((((r.getD 9 (.int 0)).r).length:Nat):Int)))∧(Value.int .i64 (IntKind.i64.wrap (((x1:Nat):Int)+(1:Int)))=Value.int .i64 ((y4:Nat):Int))∧(rf (Value.int .i64 ((r.getD 0 (.int 0)).n)))∧(rf (Value.bool ((r.getD 1 (.int 0)).b)))∧(rf (Value.int .i64 ((r.getD 2 (.int 0)).n)))∧(rf (Value.int .i64 ((r.getD 3 (.int 0)).n)))∧(rf (Value.int .i64 ((r.getD 4 (.int 0)).n)))∧(rf (Value.int .i64 ((r.getD 5 (.int 0)).n)))∧(rf ((r.getD 6 (.int 0)).r))∧(rf ((r.getD 7 (.int 0)).r))∧(rf ((r.getD 8 (.int 0)).r))∧(rf ((r.getD 9 (.int 0)).r))∧(rf ((r.getD 10 (.int 0)).r))∧(rf (c))∧((rI (bwL ((r.getD 9 (.int 0)).r) c x1))=(rI (bwL ((r.getD 9 (.int 0)).r) c y4)))))))))))∧((decide (((x1:Nat):Int) < ((((r.getD 9 (.int 0)).r).length:Nat):Int)))=false→(∃ i3:(List Int),[DA.one (cS (rI (bwL ((r.getD 9 (.int 0)).r) c x1)))]=sortI_con.args i3∧sortI_con.pre i3∧(∃ i4:(List Int),[DA.one (cS (rI (srtI i3)))]=compI_con.args i4∧compI_con.pre i4∧((rI (dedI i4)=rI (bwR ((r.getD 9 (.int 0)).r) c)))))))) (by kernel_rfl) ?_
 have hbl:=fun k=>bwL_len ((r.getD 9 (.int 0)).r) c k
 have hrl:=fun l=>rI_len l
 refine ⟨⟨0,by
  omega,?_⟩,?_⟩
 ·refine ⟨rfl,?_,rfl,rfl,rfl,rfl,rfl,rfl,rfl,rfl,rfl,rfl,rfl,rfl,?_⟩
  ·rfl
  rfl
 intro (k:Nat) hki1
 have hki1:k≤((r.getD 9 (.int 0)).r).length:=hki1
 refine And.symm ⟨fun c18=>?_,fun c18=>?_⟩
 ·try simp only [nrm] at c18
  refine ⟨(bwL ((r.getD 9 (.int 0)).r) c k),by
   rfl,by
   show (bwL ((r.getD 9 (.int 0)).r) c k).length≤1048576
   have:=hbl k;omega,?_⟩
  refine ⟨(srtI (bwL ((r.getD 9 (.int 0)).r) c k)),by
   rfl,by
   show (srtI (bwL ((r.getD 9 (.int 0)).r) c k)).length≤1048576
   rw [srtI_len];have:=hbl k;omega,?_⟩
  rw [ded_srt];unfold bwR;rw [show ((r.getD 9 (.int 0)).r).length=k by omega]
 try simp only [nrm] at c18
 have o19:0≤((k:Nat):Int)∧((k:Nat):Int) < (((r.getD 9 (.int 0)).r).length:Int):=by
  omega
 refine ⟨o19,?_⟩
 have o20:k < ((r.getD 9 (.int 0)).r).length:=by
  omega
 refine ⟨o20,?_⟩
 refine ⟨(c,(((((r.getD 9 (.int 0)).r).getD k []).getD 0 (.int 0))).n),by
  rfl,by
  show c.length≤1073741824
  omega,?_⟩
 refine And.symm ⟨fun c24=>?_,fun c24=>?_⟩
 ·replace c24:(hasB c ((((((r.getD 9 (.int 0)).r).getD k []).getD 0 (.int 0))).n))=false:=c24
  try simp only [nrm] at c24
  refine ⟨k+1,by
   trivial,by
   omega,?_⟩
  refine ⟨rfl,?_,rfl,rfl,rfl,rfl,rfl,rfl,rfl,rfl,rfl,rfl,rfl,rfl,?_⟩
  ·exact vint (wrap64 (by omega) (by omega))
  rw [bwL_no (.inl c24)]
 replace c24:(hasB c ((((((r.getD 9 (.int 0)).r).getD k []).getD 0 (.int 0))).n))=true:=c24
 try simp only [nrm] at c24
 refine ⟨(((r.getD 9 (.int 0)).r),(((r.getD 9 (.int 0)).r).getD k []),c),by
  rfl,by
  show ((r.getD 9 (.int 0)).r).length≤1048576∧c.length≤1048576
  exact ⟨by omega,hpre.2⟩,?_⟩
 refine And.symm ⟨fun c28=>?_,fun c28=>?_⟩
 ·replace c28:(((r.getD 9 (.int 0)).r).any (outB c (((r.getD 9 (.int 0)).r).getD k [])))=false:=c28
  try simp only [nrm] at c28
  refine ⟨k+1,by
   trivial,by
   omega,?_⟩
  refine ⟨rfl,?_,rfl,rfl,rfl,rfl,rfl,rfl,rfl,rfl,rfl,rfl,rfl,rfl,?_⟩
  ·exact vint (wrap64 (by omega) (by omega))
  rw [bwL_no (.inr c28)]
 replace c28:(((r.getD 9 (.int 0)).r).any (outB c (((r.getD 9 (.int 0)).r).getD k [])))=true:=c28
 try simp only [nrm] at c28
 have o29:(rI (bwL ((r.getD 9 (.int 0)).r) c k)).length+([[Dat.int ((((((r.getD 9 (.int 0)).r).getD k []).getD 1 (.int 0))).n)]]:List (List Dat)).length≤1073741824:=by
  rw [hrl];have:=hbl k;simp only [List.length_cons,List.length_nil];omega
 refine ⟨o29,?_⟩
 refine ⟨k+1,by
  trivial,by
  omega,?_⟩
 refine ⟨rfl,?_,rfl,rfl,rfl,rfl,rfl,rfl,rfl,rfl,rfl,rfl,rfl,rfl,?_⟩
 ·exact vint (wrap64 (by omega) (by omega))
 rw [bwL_yes c24 c28,← rI_app];rfl
theorem mem_bwR {ds c:List (List Dat)} {x:Int} : x ∈ bwR ds c↔∃ i,i < ds.length∧x=waD ds i∧hasB c (ceD ds i)=true∧ds.any (outB c (ds.getD i []))=true:=by unfold bwR;rw [mem_setI,mem_bwL]
theorem cl_no {ds c:List (List Dat)} {i j:Nat} (hi:i < ds.length) (hj:j < ds.length) (hw:waD ds i=waD ds j) (hn:hasB c (ceD ds i)≠hasB c (ceD ds j)):decide ((bwR ds c).length=0)=false:=by
 have key:∀ i j,i < ds.length→j < ds.length→waD ds i=waD ds j→hasB c (ceD ds i)=true→hasB c (ceD ds j)=false→(bwR ds c).length≠0:=fun i j hi hj hw h1 h2 h0=>by
  have:waD ds i ∈ bwR ds c:=mem_bwR.2 ⟨i,hi,rfl,h1,List.any_eq_true.2 ⟨ds.getD j [],by simp [List.getD,hj],by
   unfold outB
   rw [decide_eq_true (show _=_ from hw.symm),h2];rfl⟩⟩
  rw [List.eq_nil_of_length_eq_zero h0] at this
  simp at this
 refine decide_eq_false ?_
 cases h1:hasB c (ceD ds i) with
 | true=>
  cases h2:hasB c (ceD ds j) with
  | true=>rw [h1,h2] at hn;exact absurd rfl hn
  | false=>exact key i j hi hj hw h1 h2
 | false=>
  cases h2:hasB c (ceD ds j) with
  | true=>exact key j i hj hi hw.symm h2 h1
  | false=>rw [h1,h2] at hn;exact absurd rfl hn
theorem cl_yes {ds c:List (List Dat)} (h:∀ i,i < ds.length→∀ j,j < ds.length→waD ds i=waD ds j→hasB c (ceD ds i)=hasB c (ceD ds j)):decide ((bwR ds c).length=0)=true:=by
 refine decide_eq_true ?_
 cases hb:bwR ds c with
 | nil=>rfl
 | cons x t=>
  exfalso
  have:x ∈ bwR ds c:=by rw [hb];simp
  obtain ⟨i,hi,e,h1,h2⟩:=mem_bwR.1 this
  obtain ⟨y,hy,q⟩:=List.any_eq_true.1 h2
  obtain ⟨j,hj,rfl⟩:=List.getElem_of_mem hy
  unfold outB at q
  rw [Bool.and_eq_true,decide_eq_true_iff] at q
  have e2:ds.getD j []=ds[j]:=by simp [List.getD,hj]
  have:=h i hi j hj (by show ((ds.getD i []).getD 1 (.int 0)).n=((ds.getD j []).getD 1 (.int 0)).n;rw [e2];exact q.1.symm)
  rw [h1] at this
  have q2:=q.2
  rw [show ceD ds j=(ds[j].getD 0 (.int 0)).n by unfold ceD;rw [e2]] at this
  rw [← this] at q2
  cases q2
def clM (ds c:List (List Dat)) (k m:Nat):Prop:=∀ b,b < m→waD ds k=waD ds b→hasB c (ceD ds k)=hasB c (ceD ds b)
def clT (ds c:List (List Dat)) (k:Nat):Prop:=∀ a,a < k→clM ds c a ds.length
theorem clM_zero (ds c:List (List Dat)) (k:Nat):clM ds c k 0:=fun b hb=>absurd hb (Nat.not_lt_zero b)
theorem clT_zero (ds c:List (List Dat)):clT ds c 0:=fun b hb=>absurd hb (Nat.not_lt_zero b)
theorem clM_step {ds c:List (List Dat)} {k m:Nat} (h:clM ds c k m) (hm:waD ds k=waD ds m→hasB c (ceD ds k)=hasB c (ceD ds m)):clM ds c k (m+1):=lt_stepB h hm
theorem clT_step {ds c:List (List Dat)} {k m:Nat} (h:clT ds c k) (hm:clM ds c k m) (e:m=ds.length):clT ds c (k+1):=lt_stepB h (e ▸ hm)
theorem bne_no {a b:Bool} (h:(a != b)=false):a=b:=by cases a <;> cases b <;> first|rfl|cases h
theorem bne_yes {a b:Bool} (h:(a != b)=true):a≠b:=by cases a <;> cases b <;> first|(intro e;cases e;done)|cases h
theorem len_beq (n:Nat):(((n:Nat):Int) == (0:Int))=decide (n=0):=by
 by_cases h:n=0
 ·subst h;rfl
 ·rw [decide_eq_false h];simp;omega
def iClosed_con:Con:={ ι:=(List Dat)×(List (List Dat)),pre:=fun i=>(i.1.getD 9 (.int 0)).r.length≤1048576∧i.2.length≤1048576,args:=fun i=>[.agg [.im (.int .i64 ((i.1.getD 0 (.int 0)).n)),.im (.bool ((i.1.getD 1 (.int 0)).b)),.im (.int .i64 ((i.1.getD 2 (.int 0)).n)),.im (.int .i64 ((i.1.getD 3 (.int 0)).n)),.im (.int .i64 ((i.1.getD 4 (.int 0)).n)),.im (.int .i64 ((i.1.getD 5 (.int 0)).n)),.sl 61 [.sl 35 [.int,.int]] ((i.1.getD 6 (.int 0)).r),.sl 124 [.bool,.sl 3 [.int],.sl 3 [.int],.bool,.sl 3 [.int],.sl 3 [.int],.bool,.sl 3 [.int],.sl 3 [.int],.bool,.sl 3 [.int],.sl 3 [.int],.bool,.sl 3 [.int],.sl 3 [.int],.bool,.sl 3 [.int],.sl 3 [.int]] ((i.1.getD 7 (.int 0)).r),.sl 127 [.bool,.sl 3 [.int],.sl 3 [.int],.bool,.sl 3 [.int],.sl 3 [.int],.bool,.sl 3 [.int],.sl 3 [.int]] ((i.1.getD 8 (.int 0)).r),.sl 75 [.int,.int] ((i.1.getD 9 (.int 0)).r),.sl 3 [.int] ((i.1.getD 10 (.int 0)).r)],.one (.sl 3 [.int] i.2)],res:=fun i=>⟨false,[none],[.im (Value.bool (decide ((bwR ((i.1.getD 9 (.int 0)).r) i.2).length=0)))]⟩ }
theorem iClosed_ok:iClosed_con.Ok Try.prog 10:=by
 refine fn_ok (X:=⟨tt,[(14,iBorder_con)],[],10,[]⟩) mixed tt_ok (CTok.cons iBorder_ok (CTok.nil _)) (InlOk.nil _) Try.func10 (by decide) rfl rfl rfl (fun _=>Nat.le_of_ble_eq_true rfl) (fun _=>Nat.le_of_ble_eq_true rfl) (fun _=>[]) ?_
 rintro ⟨r,c⟩ hpre
 have hpre:(r.getD 9 (.int 0)).r.length≤1048576∧c.length≤1048576:=hpre
 refine by_nf (q:=∃ i1:(List Dat)×(List (List Dat)),[DA.agg [cI ((r.getD 0 (.int 0)).n),cB ((r.getD 1 (.int 0)).b),cI ((r.getD 2 (.int 0)).n),cI ((r.getD 3 (.int 0)).n),cI ((r.getD 4 (.int 0)).n),cI ((r.getD 5 (.int 0)).n),DC.sl 61 [.sl 35 [.int,.int]] ((r.getD 6 (.int 0)).r),DC.sl 124 [.bool,.sl 3 [.int],.sl 3 [.int],.bool,.sl 3 [.int],.sl 3 [.int],.bool,.sl 3 [.int],.sl 3 [.int],.bool,.sl 3 [.int],.sl 3 [.int],.bool,.sl 3 [.int],.sl 3 [.int],.bool,.sl 3 [.int],.sl 3 [.int]] ((r.getD 7 (.int 0)).r),DC.sl 127 [.bool,.sl 3 [.int],.sl 3 [.int],.bool,.sl 3 [.int],.sl 3 [.int],.bool,.sl 3 [.int],.sl 3 [.int]] ((r.getD 8 (.int 0)).r),DC.sl 75 [.int,.int] ((r.getD 9 (.int 0)).r),cS ((r.getD 10 (.int 0)).r)],DA.one (cS c)]=iBorder_con.args i1∧iBorder_con.pre i1∧((Value.bool ((((rI (bwR ((i1.1.getD 9 (.int 0)).r) i1.2)).length:Nat):Int) == (0:Int))=Value.bool (decide ((bwR ((r.getD 9 (.int 0)).r) c).length=0))))) (by kernel_rfl) ?_
 refine ⟨(r,c),by
  rfl,by
  exact hpre,?_⟩
 show Value.bool ((((rI (bwR ((r.getD 9 (.int 0)).r) c)).length:Nat):Int) == (0:Int))=Value.bool (decide ((bwR ((r.getD 9 (.int 0)).r) c).length=0))
 exact congrArg Value.bool (by rw [rI_len,len_beq])
def sClosed_con:Con:={ ι:=(List Dat)×(List (List Dat)),pre:=fun i=>(i.1.getD 9 (.int 0)).r.length≤1048576∧i.2.length≤1048576,args:=fun i=>[.agg [.im (.int .i64 ((i.1.getD 0 (.int 0)).n)),.im (.bool ((i.1.getD 1 (.int 0)).b)),.im (.int .i64 ((i.1.getD 2 (.int 0)).n)),.im (.int .i64 ((i.1.getD 3 (.int 0)).n)),.im (.int .i64 ((i.1.getD 4 (.int 0)).n)),.im (.int .i64 ((i.1.getD 5 (.int 0)).n)),.sl 61 [.sl 35 [.int,.int]] ((i.1.getD 6 (.int 0)).r),.sl 124 [.bool,.sl 3 [.int],.sl 3 [.int],.bool,.sl 3 [.int],.sl 3 [.int],.bool,.sl 3 [.int],.sl 3 [.int],.bool,.sl 3 [.int],.sl 3 [.int],.bool,.sl 3 [.int],.sl 3 [.int],.bool,.sl 3 [.int],.sl 3 [.int]] ((i.1.getD 7 (.int 0)).r),.sl 127 [.bool,.sl 3 [.int],.sl 3 [.int],.bool,.sl 3 [.int],.sl 3 [.int],.bool,.sl 3 [.int],.sl 3 [.int]] ((i.1.getD 8 (.int 0)).r),.sl 75 [.int,.int] ((i.1.getD 9 (.int 0)).r),.sl 3 [.int] ((i.1.getD 10 (.int 0)).r)],.one (.sl 3 [.int] i.2)],res:=fun i=>⟨false,[none],[.im (Value.bool (decide ((bwR ((i.1.getD 9 (.int 0)).r) i.2).length=0)))]⟩ }
theorem sClosed_ok:sClosed_con.Ok Try.prog 7:=by
 refine fn_ok (X:=⟨tt,[(28,sHasInt_con)],[],41,[]⟩) mixed tt_ok (CTok.cons sHasInt_ok (CTok.nil _)) (InlOk.nil _) Try.func7 (by decide) rfl rfl rfl (fun _=>Nat.le_of_ble_eq_true rfl) (fun _=>Nat.le_of_ble_eq_true rfl) (fun (i:(List Dat)×(List (List Dat)))=>[(2,.mk 8 (Nat) (fun x1=>{ tm:=[(1,.one (.one (.ext 1))),(2,.one (.one (.bp 2 0))),(10,.one (.one (.ext 6))),(11,.one (.one (.im (Value.int .i64 ((((i.1.getD 9 (.int 0)).r).length:Nat):Int))))),(12,.one (.one (.im (Value.int .i64 ((x1:Nat):Int)))))],en:=[(2,.box [.im (Value.int .i64 ((i.1.getD 0 (.int 0)).n)),.im (Value.bool ((i.1.getD 1 (.int 0)).b)),.im (Value.int .i64 ((i.1.getD 2 (.int 0)).n)),.im (Value.int .i64 ((i.1.getD 3 (.int 0)).n)),.im (Value.int .i64 ((i.1.getD 4 (.int 0)).n)),.im (Value.int .i64 ((i.1.getD 5 (.int 0)).n)),.ext 3,.ext 4,.ext 5,.ext 6,.ext 7]),(1,.view 3 [.int] i.2 []),(3,.view 61 [.sl 35 [.int,.int]] ((i.1.getD 6 (.int 0)).r) []),(4,.view 124 [.bool,.sl 3 [.int],.sl 3 [.int],.bool,.sl 3 [.int],.sl 3 [.int],.bool,.sl 3 [.int],.sl 3 [.int],.bool,.sl 3 [.int],.sl 3 [.int],.bool,.sl 3 [.int],.sl 3 [.int],.bool,.sl 3 [.int],.sl 3 [.int]] ((i.1.getD 7 (.int 0)).r) []),(5,.view 127 [.bool,.sl 3 [.int],.sl 3 [.int],.bool,.sl 3 [.int],.sl 3 [.int],.bool,.sl 3 [.int],.sl 3 [.int]] ((i.1.getD 8 (.int 0)).r) []),(6,.view 75 [.int,.int] ((i.1.getD 9 (.int 0)).r) []),(7,.view 3 [.int] ((i.1.getD 10 (.int 0)).r) [])] }) (fun x1=>x1≤((i.1.getD 9 (.int 0)).r).length∧clT ((i.1.getD 9 (.int 0)).r) i.2 x1) (fun x1=>((i.1.getD 9 (.int 0)).r).length - x1) (fun x1=>[(5,.mk 9 (Nat) (fun x2=>{ tm:=[(1,.one (.one (.ext 1))),(2,.one (.one (.bp 2 0))),(10,.one (.one (.ext 6))),(11,.one (.one (.im (Value.int .i64 ((((i.1.getD 9 (.int 0)).r).length:Nat):Int))))),(12,.one (.one (.im (Value.int .i64 ((x1:Nat):Int))))),(6,.one (.one (.bp 8 0))),(17,.one (.one (.ext 6))),(18,.one (.one (.im (Value.int .i64 ((((i.1.getD 9 (.int 0)).r).length:Nat):Int))))),(19,.one (.one (.im (Value.int .i64 ((x2:Nat):Int)))))],en:=[(2,.box [.im (Value.int .i64 ((i.1.getD 0 (.int 0)).n)),.im (Value.bool ((i.1.getD 1 (.int 0)).b)),.im (Value.int .i64 ((i.1.getD 2 (.int 0)).n)),.im (Value.int .i64 ((i.1.getD 3 (.int 0)).n)),.im (Value.int .i64 ((i.1.getD 4 (.int 0)).n)),.im (Value.int .i64 ((i.1.getD 5 (.int 0)).n)),.ext 3,.ext 4,.ext 5,.ext 6,.ext 7]),(8,.box [.im (Value.int .i64 (((((i.1.getD 9 (.int 0)).r).getD x1 []).getD 0 (.int 0))).n),.im (Value.int .i64 (((((i.1.getD 9 (.int 0)).r).getD x1 []).getD 1 (.int 0))).n)]),(1,.view 3 [.int] i.2 []),(3,.view 61 [.sl 35 [.int,.int]] ((i.1.getD 6 (.int 0)).r) []),(4,.view 124 [.bool,.sl 3 [.int],.sl 3 [.int],.bool,.sl 3 [.int],.sl 3 [.int],.bool,.sl 3 [.int],.sl 3 [.int],.bool,.sl 3 [.int],.sl 3 [.int],.bool,.sl 3 [.int],.sl 3 [.int],.bool,.sl 3 [.int],.sl 3 [.int]] ((i.1.getD 7 (.int 0)).r) []),(5,.view 127 [.bool,.sl 3 [.int],.sl 3 [.int],.bool,.sl 3 [.int],.sl 3 [.int],.bool,.sl 3 [.int],.sl 3 [.int]] ((i.1.getD 8 (.int 0)).r) []),(6,.view 75 [.int,.int] ((i.1.getD 9 (.int 0)).r) []),(7,.view 3 [.int] ((i.1.getD 10 (.int 0)).r) [])] }) (fun x2=>x2≤((i.1.getD 9 (.int 0)).r).length∧clM ((i.1.getD 9 (.int 0)).r) i.2 x1 x2) (fun x2=>((i.1.getD 9 (.int 0)).r).length - x2) (fun _=>[]))]))]) ?_
 rintro ⟨r,c⟩ hpre
 have hpre:(r.getD 9 (.int 0)).r.length≤1048576∧c.length≤1048576:=hpre
 refine by_nf (q:=(∃ x1:Nat,(x1≤((r.getD 9 (.int 0)).r).length∧clT ((r.getD 9 (.int 0)).r) c x1)∧((rf (Value.int .i64 ((((r.getD 9 (.int 0)).r).length:Nat):Int)))∧(Value.int .i64 (0:Int)=Value.int .i64 ((x1:Nat):Int))∧(rf (Value.int .i64 ((r.getD 0 (.int 0)).n)))∧(rf (Value.bool ((r.getD 1 (.int 0)).b)))∧(rf (Value.int .i64 ((r.getD 2 (.int 0)).n)))∧(rf (Value.int .i64 ((r.getD 3 (.int 0)).n)))∧(rf (Value.int .i64 ((r.getD 4 (.int 0)).n)))∧(rf (Value.int .i64 ((r.getD 5 (.int 0)).n)))∧(rf (c))∧(rf ((r.getD 6 (.int 0)).r))∧(rf ((r.getD 7 (.int 0)).r))∧(rf ((r.getD 8 (.int 0)).r))∧(rf ((r.getD 9 (.int 0)).r))∧(rf ((r.getD 10 (.int 0)).r))))∧∀ x1:Nat,(x1≤((r.getD 9 (.int 0)).r).length∧clT ((r.getD 9 (.int 0)).r) c x1)→(((decide (((x1:Nat):Int) < ((((r.getD 9 (.int 0)).r).length:Nat):Int)))=true→((0≤((x1:Nat):Int)∧((x1:Nat):Int) < (((r.getD 9 (.int 0)).r).length:Int))∧((x1 < ((r.getD 9 (.int 0)).r).length)∧((∃ x2:Nat,(x2≤((r.getD 9 (.int 0)).r).length∧clM ((r.getD 9 (.int 0)).r) c x1 x2)∧((rf (Value.int .i64 ((((r.getD 9 (.int 0)).r).length:Nat):Int)))∧(rf (Value.int .i64 ((x1:Nat):Int)))∧(rf (Value.int .i64 ((((r.getD 9 (.int 0)).r).length:Nat):Int)))∧(Value.int .i64 (0:Int)=Value.int .i64 ((x2:Nat):Int))∧(rf (Value.int .i64 ((r.getD 0 (.int 0)).n)))∧(rf (Value.bool ((r.getD 1 (.int 0)).b)))∧(rf (Value.int .i64 ((r.getD 2 (.int 0)).n)))∧(rf (Value.int .i64 ((r.getD 3 (.int 0)).n)))∧(rf (Value.int .i64 ((r.getD 4 (.int 0)).n)))∧(rf (Value.int .i64 ((r.getD 5 (.int 0)).n)))∧(rf (Value.int .i64 (((((r.getD 9 (.int 0)).r).getD x1 []).getD 0 (.int 0))).n))∧(rf (Value.int .i64 (((((r.getD 9 (.int 0)).r).getD x1 []).getD 1 (.int 0))).n))∧(rf (c))∧(rf ((r.getD 6 (.int 0)).r))∧(rf ((r.getD 7 (.int 0)).r))∧(rf ((r.getD 8 (.int 0)).r))∧(rf ((r.getD 9 (.int 0)).r))∧(rf ((r.getD 10 (.int 0)).r))))∧∀ x2:Nat,(x2≤((r.getD 9 (.int 0)).r).length∧clM ((r.getD 9 (.int 0)).r) c x1 x2)→(((decide (((x2:Nat):Int) < ((((r.getD 9 (.int 0)).r).length:Nat):Int)))=true→((0≤((x2:Nat):Int)∧((x2:Nat):Int) < (((r.getD 9 (.int 0)).r).length:Int))∧((x2 < ((r.getD 9 (.int 0)).r).length)∧((((((((r.getD 9 (.int 0)).r).getD x1 []).getD 1 (.int 0))).n == (((((r.getD 9 (.int 0)).r).getD x2 []).getD 1 (.int 0))).n)=true→(∃ i1:(List (List Dat))×Int,[DA.one (cS c),DA.one (cI ((((((r.getD 9 (.int 0)).r).getD x1 []).getD 0 (.int 0))).n))]=sHasInt_con.args i1∧sHasInt_con.pre i1∧(∃ i2:(List (List Dat))×Int,[DA.one (cS c),DA.one (cI ((((((r.getD 9 (.int 0)).r).getD x2 []).getD 0 (.int 0))).n))]=sHasInt_con.args i2∧sHasInt_con.pre i2∧((((hasB i1.1 i1.2) != (hasB i2.1 i2.2))=true→((Value.bool false=Value.bool (decide ((bwR ((r.getD 9 (.int 0)).r) c).length=0)))))∧(((hasB i1.1 i1.2) != (hasB i2.1 i2.2))=false→(∃ y3:Nat,(y3≤((r.getD 9 (.int 0)).r).length∧clM ((r.getD 9 (.int 0)).r) c x1 y3)∧(((r.getD 9 (.int 0)).r).length - y3 < ((r.getD 9 (.int 0)).r).length - x2)∧((rf (Value.int .i64 ((((r.getD 9 (.int 0)).r).length:Nat):Int)))∧(rf (Value.int .i64 ((x1:Nat):Int)))∧(rf (Value.int .i64 ((((r.getD 9 (.int 0)).r).length:Nat):Int)))∧(Value.int .i64 (IntKind.i64.wrap (((x2:Nat):Int)+(1:Int)))=Value.int .i64 ((y3:Nat):Int))∧(rf (Value.int .i64 ((r.getD 0 (.int 0)).n)))∧(rf (Value.bool ((r.getD 1 (.int 0)).b)))∧(rf (Value.int .i64 ((r.getD 2 (.int 0)).n)))∧(rf (Value.int .i64 ((r.getD 3 (.int 0)).n)))∧(rf (Value.int .i64 ((r.getD 4 (.int 0)).n)))∧(rf (Value.int .i64 ((r.getD 5 (.int 0)).n)))∧(rf (Value.int .i64 (((((r.getD 9 (.int 0)).r).getD x1 []).getD 0 (.int 0))).n))∧(rf (Value.int .i64 (((((r.getD 9 (.int 0)).r).getD x1 []).getD 1 (.int 0))).n))∧(rf (c))∧(rf ((r.getD 6 (.int 0)).r))∧(rf ((r.getD 7 (.int 0)).r))∧(rf ((r.getD 8 (.int 0)).r))∧(rf ((r.getD 9 (.int 0)).r))∧(rf ((r.getD 10 (.int 0)).r)))))))))∧(((((((r.getD 9 (.int 0)).r).getD x1 []).getD 1 (.int 0))).n == (((((r.getD 9 (.int 0)).r).getD x2 []).getD 1 (.int 0))).n)=false→(∃ y4:Nat,(y4≤((r.getD 9 (.int 0)).r).length∧clM ((r.getD 9 (.int 0)).r) c x1 y4)∧(((r.getD 9 (.int 0)).r).length - y4 < ((r.getD 9 (.int 0)).r).length - x2)∧((rf (Value.int .i64 ((((r.getD 9 (.int 0)).r).length:Nat):Int)))∧(rf (Value.int .i64 ((x1:Nat):Int)))∧(rf (Value.int .i64 ((((r.getD 9 (.int 0)).r).length:Nat):Int)))∧(Value.int .i64 (IntKind.i64.wrap (((x2:Nat):Int)+(1:Int)))=Value.int .i64 ((y4:Nat):Int))∧(rf (Value.int .i64 ((r.getD 0 (.int 0)).n)))∧(rf (Value.bool ((r.getD 1 (.int 0)).b)))∧(rf (Value.int .i64 ((r.getD 2 (.int 0)).n)))∧(rf (Value.int .i64 ((r.getD 3 (.int 0)).n)))∧(rf (Value.int .i64 ((r.getD 4 (.int 0)).n)))∧(rf (Value.int .i64 ((r.getD 5 (.int 0)).n)))∧(rf (Value.int .i64 (((((r.getD 9 (.int 0)).r).getD x1 []).getD 0 (.int 0))).n))∧(rf (Value.int .i64 (((((r.getD 9 (.int 0)).r).getD x1 []).getD 1 (.int 0))).n))∧(rf (c))∧(rf ((r.getD 6 (.int 0)).r))∧(rf ((r.getD 7 (.int 0)).r))∧(rf ((r.getD 8 (.int 0)).r))∧(rf ((r.getD 9 (.int 0)).r))∧(rf ((r.getD 10 (.int 0)).r)))))))))∧((decide (((x2:Nat):Int) < ((((r.getD 9 (.int 0)).r).length:Nat):Int)))=false→(∃ y5:Nat,(y5≤((r.getD 9 (.int 0)).r).length∧clT ((r.getD 9 (.int 0)).r) c y5)∧(((r.getD 9 (.int 0)).r).length - y5 < ((r.getD 9 (.int 0)).r).length - x1)∧((rf (Value.int .i64 ((((r.getD 9 (.int 0)).r).length:Nat):Int)))∧(Value.int .i64 (IntKind.i64.wrap (((x1:Nat):Int)+(1:Int)))=Value.int .i64 ((y5:Nat):Int))∧(rf (Value.int .i64 ((r.getD 0 (.int 0)).n)))∧(rf (Value.bool ((r.getD 1 (.int 0)).b)))∧(rf (Value.int .i64 ((r.getD 2 (.int 0)).n)))∧(rf (Value.int .i64 ((r.getD 3 (.int 0)).n)))∧(rf (Value.int .i64 ((r.getD 4 (.int 0)).n)))∧(rf (Value.int .i64 ((r.getD 5 (.int 0)).n)))∧(rf (c))∧(rf ((r.getD 6 (.int 0)).r))∧(rf ((r.getD 7 (.int 0)).r))∧(rf ((r.getD 8 (.int 0)).r))∧(rf ((r.getD 9 (.int 0)).r))∧(rf ((r.getD 10 (.int 0)).r))))))))))∧((decide (((x1:Nat):Int) < ((((r.getD 9 (.int 0)).r).length:Nat):Int)))=false→((Value.bool true=Value.bool (decide ((bwR ((r.getD 9 (.int 0)).r) c).length=0))))))) (by kernel_rfl) ?_
 refine ⟨⟨0,by
  exact ⟨Nat.zero_le _,clT_zero _ _⟩,?_⟩,?_⟩
 ·refine ⟨rfl,?_,rfl,rfl,rfl,rfl,rfl,rfl,rfl,rfl,rfl,rfl,rfl,rfl⟩
  rfl
 intro (k:Nat) hki1
 have hki1:k≤((r.getD 9 (.int 0)).r).length∧clT ((r.getD 9 (.int 0)).r) c k:=hki1
 refine And.symm ⟨fun c17=>?_,fun c17=>?_⟩
 ·try simp only [nrm] at c17
  rw [cl_yes (fun a ha b hb=>hki1.2 a (by omega) b hb)]
 try simp only [nrm] at c17
 have o18:0≤((k:Nat):Int)∧((k:Nat):Int) < (((r.getD 9 (.int 0)).r).length:Int):=by
  omega
 refine ⟨o18,?_⟩
 have o19:k < ((r.getD 9 (.int 0)).r).length:=by
  omega
 refine ⟨o19,?_⟩
 refine ⟨⟨0,by
  exact ⟨Nat.zero_le _,clM_zero _ _ _⟩,?_⟩,?_⟩
 ·refine ⟨rfl,rfl,rfl,?_,rfl,rfl,rfl,rfl,rfl,rfl,rfl,rfl,rfl,rfl,rfl,rfl,rfl,rfl⟩
  rfl
 intro (m:Nat) hki20
 have hki20:m≤((r.getD 9 (.int 0)).r).length∧clM ((r.getD 9 (.int 0)).r) c k m:=hki20
 refine And.symm ⟨fun c40=>?_,fun c40=>?_⟩
 ·try simp only [nrm] at c40
  refine ⟨k+1,by
   exact ⟨by omega,clT_step hki1.2 hki20.2 (by omega)⟩,by
   omega,?_⟩
  refine ⟨rfl,?_,rfl,rfl,rfl,rfl,rfl,rfl,rfl,rfl,rfl,rfl,rfl,rfl⟩
  exact vint (wrap64 (by omega) (by omega))
 try simp only [nrm] at c40
 have o41:0≤((m:Nat):Int)∧((m:Nat):Int) < (((r.getD 9 (.int 0)).r).length:Int):=by
  omega
 refine ⟨o41,?_⟩
 have o42:m < ((r.getD 9 (.int 0)).r).length:=by
  omega
 refine ⟨o42,?_⟩
 refine And.symm ⟨fun c43=>?_,fun c43=>?_⟩
 ·try simp only [nrm] at c43
  refine ⟨m+1,by
   exact ⟨by omega,clM_step hki20.2 (fun e=>absurd e c43)⟩,by
   omega,?_⟩
  refine ⟨rfl,rfl,rfl,?_,rfl,rfl,rfl,rfl,rfl,rfl,rfl,rfl,rfl,rfl,rfl,rfl,rfl,rfl⟩
  exact vint (wrap64 (by omega) (by omega))
 try simp only [nrm] at c43
 refine ⟨(c,(((((r.getD 9 (.int 0)).r).getD k []).getD 0 (.int 0))).n),by
  rfl,by
  show c.length≤1073741824
  omega,?_⟩
 refine ⟨(c,(((((r.getD 9 (.int 0)).r).getD m []).getD 0 (.int 0))).n),by
  rfl,by
  show c.length≤1073741824
  omega,?_⟩
 refine ⟨fun c50=>?_,fun c50=>?_⟩
 ·replace c50:((hasB c ((((((r.getD 9 (.int 0)).r).getD k []).getD 0 (.int 0))).n)) != (hasB c ((((((r.getD 9 (.int 0)).r).getD m []).getD 0 (.int 0))).n)))=true:=c50
  try simp only [nrm] at c50
  rw [cl_no (show k < _ by omega) (show m < _ by omega) c43 (by first|exact c50|exact bne_yes c50)]
 replace c50:((hasB c ((((((r.getD 9 (.int 0)).r).getD k []).getD 0 (.int 0))).n)) != (hasB c ((((((r.getD 9 (.int 0)).r).getD m []).getD 0 (.int 0))).n)))=false:=c50
 try simp only [nrm] at c50
 refine ⟨m+1,by
  exact ⟨by omega,clM_step hki20.2 (fun e=>by first|exact c50|exact bne_no c50)⟩,by
  omega,?_⟩
 refine ⟨rfl,rfl,rfl,?_,rfl,rfl,rfl,rfl,rfl,rfl,rfl,rfl,rfl,rfl,rfl,rfl,rfl,rfl⟩
 exact vint (wrap64 (by omega) (by omega))
end Go.Proofs.Ytblmlkdefjoebaa
