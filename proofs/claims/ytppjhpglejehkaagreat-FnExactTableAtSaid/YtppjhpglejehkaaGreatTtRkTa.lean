import Derived.Test.YtppjhpglejehkaaGreatTtRkI
namespace Go.Proofs.YtppjhpglejehkaaGreat
set_option linter.unusedVariables false
set_option linter.unusedSimpArgs false
open Go.RowKit
def eqIT (a b:List (List Dat)):Nat→Bool
 | 0=>true
 | k+1=>eqIT a b k && decide (rn (a.getD k [])=rn (b.getD k []))
def eqI (a b:List (List Dat)):Bool:=decide (a.length=b.length) && eqIT a b a.length
theorem eqIT_no {a b:List (List Dat)} {k:Nat} (h:eqIT a b k=false):∀ n,k≤n→eqIT a b n=false
 | 0,hn=>by rw [show k=0 by omega] at h;exact h
 | n+1,hn=>by
  by_cases e:k=n+1
  ·rw [← e];exact h
  ·unfold eqIT;rw [eqIT_no h n (by omega)];rfl
theorem eqIT_step {a b:List (List Dat)} {k:Nat} (h:eqIT a b k=true) (e:rn (a.getD k [])=rn (b.getD k [])):eqIT a b (k+1)=true:=by
 unfold eqIT;rw [h,decide_eq_true e];rfl
theorem eqI_len {a b:List (List Dat)} (h:a.length≠b.length):eqI a b=false:=by unfold eqI;rw [decide_eq_false h];rfl
theorem eqI_diff {a b:List (List Dat)} {k:Nat} (hk:k < a.length) (h:rn (a.getD k [])≠rn (b.getD k [])):eqI a b=false:=by
 have:eqIT a b (k+1)=false:=by unfold eqIT;rw [decide_eq_false h,Bool.and_false]
 unfold eqI;rw [eqIT_no this _ (by omega),Bool.and_false]
theorem eqI_yes {a b:List (List Dat)} (h:a.length=b.length) (h2:eqIT a b a.length=true):eqI a b=true:=by unfold eqI;rw [decide_eq_true h,h2];rfl
def eqRD (r s:RatD):Bool:=decide (r.neg=s.neg) && (eqI r.num s.num && eqI r.den s.den)
def eqPD (p q:PtD):Bool:=eqRD p.x q.x && eqRD p.y q.y
theorem openT_nat (s:Scn):∀ k j,j < (openT s k).length→∃ n:Nat,n < k∧(openT s k).getD j []=[.int (n:Int)]
 | 0,j,h=>by simp [openT] at h
 | k+1,j,h=>by
  cases hc:canT s (s.tables.getD k (0,0)) with
  | true=>
   rw [open_yes hc] at h ⊢
   by_cases hj:j < (openT s k).length
   ·obtain ⟨n,hn,e⟩:=openT_nat s k j hj
    refine ⟨n,by omega,?_⟩
    rw [← e]
    simp [List.getD,List.getElem?_append_left hj]
   ·have hj2:j=(openT s k).length:=by simp only [List.length_append,List.length_cons,List.length_nil] at h;omega
    subst hj2
    exact ⟨k,by omega,by simp [List.getD]⟩
  | false=>
   rw [open_no hc] at h ⊢
   obtain ⟨n,hn,e⟩:=openT_nat s k j h
   exact ⟨n,by omega,e⟩
theorem insB_i64 {m:Int} {v:V2} (h:insB m v=true) (hm:m≤1000):(-9223372036854775808≤v.1∧v.1≤9223372036854775807)∧-9223372036854775808≤v.2∧v.2≤9223372036854775807:=by
 have:=insB_bd h
 omega
theorem openR_at {s:Scn} {j:Nat} (h:j < (openR s).length):∃ n:Nat,n < s.tables.length∧rn ((openR s).getD j [])=(n:Int)∧((-9223372036854775808≤(s.tables.getD n (0,0)).1∧(s.tables.getD n (0,0)).1≤9223372036854775807)∧-9223372036854775808≤(s.tables.getD n (0,0)).2∧(s.tables.getD n (0,0)).2≤9223372036854775807):=by
 cases hv:validScn s with
 | false=>rw [openR_no hv] at h;simp at h
 | true=>
  rw [openR_yes hv] at h ⊢
  obtain ⟨n,hn,e⟩:=openT_nat s _ j h
  have hall:s.tables.all (insB 200)=true:=by
   simp only [validScn,Bool.and_eq_true] at hv
   exact hv.2.2
  exact ⟨n,hn,by rw [e];rfl,insB_i64 (List.all_eq_true.1 hall _ (by simp [List.getD,hn])) (by omega)⟩
theorem openR_len {s:Scn} (hz:scnSz s):(openR s).length≤1048576:=by
 have h1:=hz.2.2.2
 have h2:=openT_len s s.tables.length
 cases hv:validScn s with
 | false=>rw [openR_no hv];simp
 | true=>rw [openR_yes hv];omega
def tabP (s:Scn) (p:PtD) (r:List Dat):Bool:=eqPD (ptQ (ptV (s.tables.getD (rn r).toNat (0,0)))) p
def tabZ (s:Scn) (p:PtD):Int:=match (openR s).find? (tabP s p) with|some r=>rn r|none=>-1
theorem tabZ_at {s:Scn} {p:PtD} {k:Nat} (hk:k < (openR s).length) (h:∀ j,j < k→tabP s p ((openR s).getD j [])=false) (hp:tabP s p ((openR s).getD k [])=true):tabZ s p=rn ((openR s).getD k []):=by
 have:(openR s).find? (tabP s p)=some ((openR s).getD k []):=by
  rw [List.find?_eq_some_iff_getElem]
  refine ⟨hp,k,hk,by simp [List.getD,hk],fun j hj=>?_⟩
  have:=h j hj
  simpa [List.getD,show j < (openR s).length by omega] using this
 unfold tabZ;rw [this]
theorem tabZ_none {s:Scn} {p:PtD} (h:∀ j,j < (openR s).length→tabP s p ((openR s).getD j [])=false):tabZ s p=-1:=by
 have:(openR s).find? (tabP s p)=none:=by
  rw [List.find?_eq_none]
  intro x hx
  obtain ⟨j,hj,rfl⟩:=List.getElem_of_mem hx
  have:=h j hj
  simpa [List.getD,hj] using this
 unfold tabZ;rw [this]
def eqIntsD_con:Con:={ ι:=(List (List Dat))×(List (List Dat)),pre:=fun i=>i.1.length≤1073741824∧i.2.length≤1073741824,args:=fun i=>[.one (.sl 3 [.int] i.1),.one (.sl 3 [.int] i.2)],res:=fun i=>⟨false,[none],[.im (Value.bool (eqI i.1 i.2))]⟩ }
set_option maxRecDepth 100000 in
theorem eqIntsD_ok:eqIntsD_con.Ok Tryz.prog 115:=by
 refine fn_ok (X:=⟨tt,[],[],26⟩) mixed tt_ok (CTok.nil _) Tryz.func115 (by decide) rfl rfl rfl (fun _=>Nat.le_of_ble_eq_true rfl) (fun _=>Nat.le_of_ble_eq_true rfl) (fun (i:(List (List Dat))×(List (List Dat)))=>[(4,.mk 3 (Nat) (fun x1=>{ tm:=[(0,.one (.one (.ext 1))),(1,.one (.one (.ext 2))),(12,.one (.one (.im (Value.int .i64 ((i.1.length:Nat):Int))))),(13,.one (.one (.im (Value.int .i64 ((x1:Nat):Int)))))],en:=[(1,.view 3 [.int] i.1 []),(2,.view 3 [.int] i.2 [])] }) (fun x1=>x1≤i.1.length∧i.1.length=i.2.length∧eqIT i.1 i.2 x1=true) (fun x1=>i.1.length - x1) (fun _=>[]))]) ?_
 rintro ⟨a,b⟩ hpre
 have hpre:a.length≤1073741824∧b.length≤1073741824:=hpre
 refine by_nf (q:=((((a.length:Nat):Int) != ((b.length:Nat):Int))=true→((Value.bool false=Value.bool (eqI a b))))∧((((a.length:Nat):Int) != ((b.length:Nat):Int))=false→((∃ x1:Nat,(x1≤a.length∧a.length=b.length∧eqIT a b x1=true)∧((rf (Value.int .i64 ((a.length:Nat):Int)))∧(Value.int .i64 (0:Int)=Value.int .i64 ((x1:Nat):Int))∧(rf (a))∧(rf (b))))∧∀ x1:Nat,(x1≤a.length∧a.length=b.length∧eqIT a b x1=true)→(((decide (((x1:Nat):Int) < ((a.length:Nat):Int)))=true→((0≤((x1:Nat):Int)∧((x1:Nat):Int) < (a.length:Int))∧((x1 < a.length)∧((0≤((x1:Nat):Int)∧((x1:Nat):Int) < (b.length:Int))∧((x1 < b.length)∧((((((a.getD x1 []).getD 0 (.int 0))).n != (((b.getD x1 []).getD 0 (.int 0))).n)=true→((Value.bool false=Value.bool (eqI a b))))∧(((((a.getD x1 []).getD 0 (.int 0))).n != (((b.getD x1 []).getD 0 (.int 0))).n)=false→(∃ y2:Nat,(y2≤a.length∧a.length=b.length∧eqIT a b y2=true)∧(a.length - y2 < a.length - x1)∧((rf (Value.int .i64 ((a.length:Nat):Int)))∧(Value.int .i64 (IntKind.i64.wrap (((x1:Nat):Int)+(1:Int)))=Value.int .i64 ((y2:Nat):Int))∧(rf (a))∧(rf (b)))))))))))∧((decide (((x1:Nat):Int) < ((a.length:Nat):Int)))=false→((Value.bool true=Value.bool (eqI a b)))))))) (by kernel_rfl) ?_
 refine ⟨fun c1=>?_,fun c1=>?_⟩
 ·skip
  try simp only [nrm] at c1
  show Value.bool false=Value.bool (eqI a b)
  exact congrArg Value.bool (eqI_len (by omega)).symm
 ·skip
  try simp only [nrm] at c1
  refine ⟨⟨0,by
   exact ⟨Nat.zero_le _,by omega,rfl⟩,?_⟩,?_⟩
  ·skip
   refine ⟨rfl,?_,rfl,rfl⟩
   show Value.int .i64 (0:Int)=Value.int .i64 ((0:Nat):Int)
   first|rfl|(simp;done)
  intro (k:Nat) hki3
  have hki3:k≤a.length∧a.length=b.length∧eqIT a b k=true:=hki3
  refine ⟨fun c9=>?_,fun c9=>?_⟩
  ·skip
   try simp only [nrm] at c9
   have o10:0≤((k:Nat):Int)∧((k:Nat):Int) < (a.length:Int):=by
    first|rfl|omega|(simp;done)|(simp;omega)
   refine ⟨o10,?_⟩
   have o11:k < a.length:=by
    first|rfl|omega|(simp;done)|(simp;omega)
   refine ⟨o11,?_⟩
   have o12:0≤((k:Nat):Int)∧((k:Nat):Int) < (b.length:Int):=by
    first|rfl|omega|(simp;done)|(simp;omega)
   refine ⟨o12,?_⟩
   have o13:k < b.length:=by
    first|rfl|omega|(simp;done)|(simp;omega)
   refine ⟨o13,?_⟩
   refine ⟨fun c14=>?_,fun c14=>?_⟩
   ·skip
    try simp only [nrm] at c14
    show Value.bool false=Value.bool (eqI a b)
    exact congrArg Value.bool (eqI_diff (k:=k) (by omega) c14).symm
   ·skip
    try simp only [nrm] at c14
    refine ⟨k+1,by
     exact ⟨by omega,hki3.2.1,eqIT_step hki3.2.2 c14⟩,by
     first|omega|(simp;omega),?_⟩
    refine ⟨rfl,?_,rfl,rfl⟩
    first|rfl|exact vint (wrap64 (by omega) (by omega))
  ·skip
   try simp only [nrm] at c9
   show Value.bool true=Value.bool (eqI a b)
   exact congrArg Value.bool (eqI_yes hki3.2.1 (by rw [show a.length=k by omega];exact hki3.2.2)).symm
def sListD_con:Con:={ ι:=(List (List Dat))×(List (List Dat)),pre:=fun i=>i.1.length≤1073741824∧i.2.length≤1073741824,args:=fun i=>[.one (.sl 3 [.int] i.1),.one (.sl 3 [.int] i.2)],res:=fun i=>⟨false,[none],[.im (Value.bool (eqI i.1 i.2))]⟩ }
set_option maxRecDepth 100000 in
theorem sListD_ok:sListD_con.Ok Tryz.prog 113:=by
 refine fn_ok (X:=⟨tt,[],[],26⟩) mixed tt_ok (CTok.nil _) Tryz.func113 (by decide) rfl rfl rfl (fun _=>Nat.le_of_ble_eq_true rfl) (fun _=>Nat.le_of_ble_eq_true rfl) (fun (i:(List (List Dat))×(List (List Dat)))=>[(4,.mk 3 (Nat) (fun x1=>{ tm:=[(0,.one (.one (.ext 1))),(1,.one (.one (.ext 2))),(11,.one (.one (.ext 1))),(12,.one (.one (.im (Value.int .i64 ((i.1.length:Nat):Int))))),(13,.one (.one (.im (Value.int .i64 ((x1:Nat):Int)))))],en:=[(1,.view 3 [.int] i.1 []),(2,.view 3 [.int] i.2 [])] }) (fun x1=>x1≤i.1.length∧i.1.length=i.2.length∧eqIT i.1 i.2 x1=true) (fun x1=>i.1.length - x1) (fun _=>[]))]) ?_
 rintro ⟨a,b⟩ hpre
 have hpre:a.length≤1073741824∧b.length≤1073741824:=hpre
 refine by_nf (q:=((((a.length:Nat):Int) != ((b.length:Nat):Int))=true→((Value.bool false=Value.bool (eqI a b))))∧((((a.length:Nat):Int) != ((b.length:Nat):Int))=false→((∃ x1:Nat,(x1≤a.length∧a.length=b.length∧eqIT a b x1=true)∧((rf (Value.int .i64 ((a.length:Nat):Int)))∧(Value.int .i64 (0:Int)=Value.int .i64 ((x1:Nat):Int))∧(rf (a))∧(rf (b))))∧∀ x1:Nat,(x1≤a.length∧a.length=b.length∧eqIT a b x1=true)→(((decide (((x1:Nat):Int) < ((a.length:Nat):Int)))=true→((0≤((x1:Nat):Int)∧((x1:Nat):Int) < (a.length:Int))∧((x1 < a.length)∧((0≤((x1:Nat):Int)∧((x1:Nat):Int) < (b.length:Int))∧((x1 < b.length)∧((((((a.getD x1 []).getD 0 (.int 0))).n != (((b.getD x1 []).getD 0 (.int 0))).n)=true→((Value.bool false=Value.bool (eqI a b))))∧(((((a.getD x1 []).getD 0 (.int 0))).n != (((b.getD x1 []).getD 0 (.int 0))).n)=false→(∃ y2:Nat,(y2≤a.length∧a.length=b.length∧eqIT a b y2=true)∧(a.length - y2 < a.length - x1)∧((rf (Value.int .i64 ((a.length:Nat):Int)))∧(Value.int .i64 (IntKind.i64.wrap (((x1:Nat):Int)+(1:Int)))=Value.int .i64 ((y2:Nat):Int))∧(rf (a))∧(rf (b)))))))))))∧((decide (((x1:Nat):Int) < ((a.length:Nat):Int)))=false→((Value.bool true=Value.bool (eqI a b)))))))) (by kernel_rfl) ?_
 refine ⟨fun c1=>?_,fun c1=>?_⟩
 ·skip
  try simp only [nrm] at c1
  show Value.bool false=Value.bool (eqI a b)
  exact congrArg Value.bool (eqI_len (by omega)).symm
 ·skip
  try simp only [nrm] at c1
  refine ⟨⟨0,by
   exact ⟨Nat.zero_le _,by omega,rfl⟩,?_⟩,?_⟩
  ·skip
   refine ⟨rfl,?_,rfl,rfl⟩
   show Value.int .i64 (0:Int)=Value.int .i64 ((0:Nat):Int)
   first|rfl|(simp;done)
  intro (k:Nat) hki3
  have hki3:k≤a.length∧a.length=b.length∧eqIT a b k=true:=hki3
  refine ⟨fun c9=>?_,fun c9=>?_⟩
  ·skip
   try simp only [nrm] at c9
   have o10:0≤((k:Nat):Int)∧((k:Nat):Int) < (a.length:Int):=by
    first|rfl|omega|(simp;done)|(simp;omega)
   refine ⟨o10,?_⟩
   have o11:k < a.length:=by
    first|rfl|omega|(simp;done)|(simp;omega)
   refine ⟨o11,?_⟩
   have o12:0≤((k:Nat):Int)∧((k:Nat):Int) < (b.length:Int):=by
    first|rfl|omega|(simp;done)|(simp;omega)
   refine ⟨o12,?_⟩
   have o13:k < b.length:=by
    first|rfl|omega|(simp;done)|(simp;omega)
   refine ⟨o13,?_⟩
   refine ⟨fun c14=>?_,fun c14=>?_⟩
   ·skip
    try simp only [nrm] at c14
    show Value.bool false=Value.bool (eqI a b)
    exact congrArg Value.bool (eqI_diff (k:=k) (by omega) c14).symm
   ·skip
    try simp only [nrm] at c14
    refine ⟨k+1,by
     exact ⟨by omega,hki3.2.1,eqIT_step hki3.2.2 c14⟩,by
     first|omega|(simp;omega),?_⟩
    refine ⟨rfl,?_,rfl,rfl⟩
    first|rfl|exact vint (wrap64 (by omega) (by omega))
  ·skip
   try simp only [nrm] at c9
   show Value.bool true=Value.bool (eqI a b)
   exact congrArg Value.bool (eqI_yes hki3.2.1 (by rw [show a.length=k by omega];exact hki3.2.2)).symm
def ratEqD_con:Con:={ ι:=RatD×RatD,pre:=fun i=>i.1.num.length≤1073741824∧i.1.den.length≤1073741824∧i.2.num.length≤1073741824∧i.2.den.length≤1073741824,args:=fun i=>[.agg [.im (.bool i.1.neg),.sl 3 [.int] i.1.num,.sl 3 [.int] i.1.den],.agg [.im (.bool i.2.neg),.sl 3 [.int] i.2.num,.sl 3 [.int] i.2.den]],res:=fun i=>⟨false,[none],[.im (Value.bool (eqRD i.1 i.2))]⟩ }
set_option maxRecDepth 100000 in
theorem ratEqD_ok:ratEqD_con.Ok Tryz.prog 74:=by
 refine fn_ok (X:=⟨tt,[(115,eqIntsD_con)],[],28⟩) mixed tt_ok (CTok.cons eqIntsD_ok (CTok.nil _)) Tryz.func74 (by decide) rfl rfl rfl (fun _=>Nat.le_of_ble_eq_true rfl) (fun _=>Nat.le_of_ble_eq_true rfl) (fun _=>[]) ?_
 rintro ⟨r,s⟩ hpre
 have hpre:r.num.length≤1073741824∧r.den.length≤1073741824∧s.num.length≤1073741824∧s.den.length≤1073741824:=hpre
 refine by_nf (q:=((r.neg == s.neg)=true→(∃ i1:(List (List Dat))×(List (List Dat)),[DA.one (cS r.num),DA.one (cS s.num)]=eqIntsD_con.args i1∧eqIntsD_con.pre i1∧(((eqI i1.1 i1.2)=true→(∃ i2:(List (List Dat))×(List (List Dat)),[DA.one (cS r.den),DA.one (cS s.den)]=eqIntsD_con.args i2∧eqIntsD_con.pre i2∧((Value.bool (eqI i2.1 i2.2)=Value.bool (eqRD r s)))))∧((eqI i1.1 i1.2)=false→((Value.bool false=Value.bool (eqRD r s)))))))∧((r.neg == s.neg)=false→((Value.bool false=Value.bool (eqRD r s))))) (by kernel_rfl) ?_
 refine ⟨fun c1=>?_,fun c1=>?_⟩
 ·skip
  try simp only [nrm] at c1
  refine ⟨(r.num,s.num),by
   rfl,by
   show r.num.length≤1073741824∧s.num.length≤1073741824
   first|exact ⟨hpre.1,hpre.2.2.1⟩|exact ⟨hpre.2.1,hpre.2.2.2⟩,?_⟩
  refine ⟨fun c5=>?_,fun c5=>?_⟩
  ·skip
   replace c5:(eqI r.num s.num)=true:=c5
   try simp only [nrm] at c5
   refine ⟨(r.den,s.den),by
    rfl,by
    show r.den.length≤1073741824∧s.den.length≤1073741824
    first|exact ⟨hpre.1,hpre.2.2.1⟩|exact ⟨hpre.2.1,hpre.2.2.2⟩,?_⟩
   show Value.bool (eqI r.den s.den)=Value.bool (eqRD r s)
   exact congrArg Value.bool (by unfold eqRD;simp_all)
  ·skip
   replace c5:(eqI r.num s.num)=false:=c5
   try simp only [nrm] at c5
   show Value.bool false=Value.bool (eqRD r s)
   exact congrArg Value.bool (by unfold eqRD;simp_all)
 ·skip
  try simp only [nrm] at c1
  show Value.bool false=Value.bool (eqRD r s)
  exact congrArg Value.bool (by unfold eqRD;simp_all)
def sRatEqD_con:Con:={ ι:=RatD×RatD,pre:=fun i=>i.1.num.length≤1073741824∧i.1.den.length≤1073741824∧i.2.num.length≤1073741824∧i.2.den.length≤1073741824,args:=fun i=>[.agg [.im (.bool i.1.neg),.sl 3 [.int] i.1.num,.sl 3 [.int] i.1.den],.agg [.im (.bool i.2.neg),.sl 3 [.int] i.2.num,.sl 3 [.int] i.2.den]],res:=fun i=>⟨false,[none],[.im (Value.bool (eqRD i.1 i.2))]⟩ }
set_option maxRecDepth 100000 in
theorem sRatEqD_ok:sRatEqD_con.Ok Tryz.prog 72:=by
 refine fn_ok (X:=⟨tt,[(113,sListD_con)],[],28⟩) mixed tt_ok (CTok.cons sListD_ok (CTok.nil _)) Tryz.func72 (by decide) rfl rfl rfl (fun _=>Nat.le_of_ble_eq_true rfl) (fun _=>Nat.le_of_ble_eq_true rfl) (fun _=>[]) ?_
 rintro ⟨r,s⟩ hpre
 have hpre:r.num.length≤1073741824∧r.den.length≤1073741824∧s.num.length≤1073741824∧s.den.length≤1073741824:=hpre
 refine by_nf (q:=((r.neg == s.neg)=true→(∃ i1:(List (List Dat))×(List (List Dat)),[DA.one (cS r.num),DA.one (cS s.num)]=sListD_con.args i1∧sListD_con.pre i1∧(((eqI i1.1 i1.2)=true→(∃ i2:(List (List Dat))×(List (List Dat)),[DA.one (cS r.den),DA.one (cS s.den)]=sListD_con.args i2∧sListD_con.pre i2∧((Value.bool (eqI i2.1 i2.2)=Value.bool (eqRD r s)))))∧((eqI i1.1 i1.2)=false→((Value.bool false=Value.bool (eqRD r s)))))))∧((r.neg == s.neg)=false→((Value.bool false=Value.bool (eqRD r s))))) (by kernel_rfl) ?_
 refine ⟨fun c1=>?_,fun c1=>?_⟩
 ·skip
  try simp only [nrm] at c1
  refine ⟨(r.num,s.num),by
   rfl,by
   show r.num.length≤1073741824∧s.num.length≤1073741824
   first|exact ⟨hpre.1,hpre.2.2.1⟩|exact ⟨hpre.2.1,hpre.2.2.2⟩,?_⟩
  refine ⟨fun c5=>?_,fun c5=>?_⟩
  ·skip
   replace c5:(eqI r.num s.num)=true:=c5
   try simp only [nrm] at c5
   refine ⟨(r.den,s.den),by
    rfl,by
    show r.den.length≤1073741824∧s.den.length≤1073741824
    first|exact ⟨hpre.1,hpre.2.2.1⟩|exact ⟨hpre.2.1,hpre.2.2.2⟩,?_⟩
   show Value.bool (eqI r.den s.den)=Value.bool (eqRD r s)
   exact congrArg Value.bool (by unfold eqRD;simp_all)
  ·skip
   replace c5:(eqI r.num s.num)=false:=c5
   try simp only [nrm] at c5
   show Value.bool false=Value.bool (eqRD r s)
   exact congrArg Value.bool (by unfold eqRD;simp_all)
 ·skip
  try simp only [nrm] at c1
  show Value.bool false=Value.bool (eqRD r s)
  exact congrArg Value.bool (by unfold eqRD;simp_all)
def RatD.len (r:RatD):Prop:=r.num.length≤1073741824∧r.den.length≤1073741824
def PtD.len (p:PtD):Prop:=p.x.len∧p.y.len
theorem ptQ_len (p:Pq):(ptQ p).len:=by
 have h1:=p.x.nlz
 have h2:=p.x.nld
 have h3:=p.y.nlz
 have h4:=p.y.nld
 have e1:=L_len p.x.z.natAbs
 have e2:=L_len p.x.d
 have e3:=L_len p.y.z.natAbs
 have e4:=L_len p.y.d
 exact ⟨⟨show (L p.x.z.natAbs).length≤_ by omega,show (L p.x.d).length≤_ by omega⟩,show (L p.y.z.natAbs).length≤_ by omega,show (L p.y.d).length≤_ by omega⟩
def samePtD_con:Con:={ ι:=PtD×PtD,pre:=fun i=>i.1.len∧i.2.len,args:=fun i=>[.agg [.im (.bool i.1.x.neg),.sl 3 [.int] i.1.x.num,.sl 3 [.int] i.1.x.den,.im (.bool i.1.y.neg),.sl 3 [.int] i.1.y.num,.sl 3 [.int] i.1.y.den],.agg [.im (.bool i.2.x.neg),.sl 3 [.int] i.2.x.num,.sl 3 [.int] i.2.x.den,.im (.bool i.2.y.neg),.sl 3 [.int] i.2.y.num,.sl 3 [.int] i.2.y.den]],res:=fun i=>⟨false,[none],[.im (Value.bool (eqPD i.1 i.2))]⟩ }
set_option maxRecDepth 100000 in
theorem samePtD_ok:samePtD_con.Ok Tryz.prog 48:=by
 refine fn_ok (X:=⟨tt,[(74,ratEqD_con)],[],17⟩) mixed tt_ok (CTok.cons ratEqD_ok (CTok.nil _)) Tryz.func48 (by decide) rfl rfl rfl (fun _=>Nat.le_of_ble_eq_true rfl) (fun _=>Nat.le_of_ble_eq_true rfl) (fun _=>[]) ?_
 rintro ⟨p,q⟩ hpre
 have hpre:p.len∧q.len:=hpre
 refine by_nf (q:=∃ i1:RatD×RatD,[DA.agg [cB p.x.neg,cS p.x.num,cS p.x.den],DA.agg [cB q.x.neg,cS q.x.num,cS q.x.den]]=ratEqD_con.args i1∧ratEqD_con.pre i1∧(((eqRD i1.1 i1.2)=true→(∃ i2:RatD×RatD,[DA.agg [cB p.y.neg,cS p.y.num,cS p.y.den],DA.agg [cB q.y.neg,cS q.y.num,cS q.y.den]]=ratEqD_con.args i2∧ratEqD_con.pre i2∧((Value.bool (eqRD i2.1 i2.2)=Value.bool (eqPD p q)))))∧((eqRD i1.1 i1.2)=false→((Value.bool false=Value.bool (eqPD p q)))))) (by kernel_rfl) ?_
 refine ⟨(p.x,q.x),by
  rfl,by
  show p.x.num.length≤1073741824∧p.x.den.length≤1073741824∧q.x.num.length≤1073741824∧q.x.den.length≤1073741824
  first|exact ⟨hpre.1.1.1,hpre.1.1.2,hpre.2.1.1,hpre.2.1.2⟩|exact ⟨hpre.1.2.1,hpre.1.2.2,hpre.2.2.1,hpre.2.2.2⟩,?_⟩
 refine ⟨fun c4=>?_,fun c4=>?_⟩
 ·skip
  replace c4:(eqRD p.x q.x)=true:=c4
  try simp only [nrm] at c4
  refine ⟨(p.y,q.y),by
   rfl,by
   show p.y.num.length≤1073741824∧p.y.den.length≤1073741824∧q.y.num.length≤1073741824∧q.y.den.length≤1073741824
   first|exact ⟨hpre.1.1.1,hpre.1.1.2,hpre.2.1.1,hpre.2.1.2⟩|exact ⟨hpre.1.2.1,hpre.1.2.2,hpre.2.2.1,hpre.2.2.2⟩,?_⟩
  show Value.bool (eqRD p.y q.y)=Value.bool (eqPD p q)
  exact congrArg Value.bool (by unfold eqPD;simp_all)
 ·skip
  replace c4:(eqRD p.x q.x)=false:=c4
  try simp only [nrm] at c4
  show Value.bool false=Value.bool (eqPD p q)
  exact congrArg Value.bool (by unfold eqPD;simp_all)
def sSamePtD_con:Con:={ ι:=PtD×PtD,pre:=fun i=>i.1.len∧i.2.len,args:=fun i=>[.agg [.im (.bool i.1.x.neg),.sl 3 [.int] i.1.x.num,.sl 3 [.int] i.1.x.den,.im (.bool i.1.y.neg),.sl 3 [.int] i.1.y.num,.sl 3 [.int] i.1.y.den],.agg [.im (.bool i.2.x.neg),.sl 3 [.int] i.2.x.num,.sl 3 [.int] i.2.x.den,.im (.bool i.2.y.neg),.sl 3 [.int] i.2.y.num,.sl 3 [.int] i.2.y.den]],res:=fun i=>⟨false,[none],[.im (Value.bool (eqPD i.1 i.2))]⟩ }
set_option maxRecDepth 100000 in
theorem sSamePtD_ok:sSamePtD_con.Ok Tryz.prog 46:=by
 refine fn_ok (X:=⟨tt,[(72,sRatEqD_con)],[],17⟩) mixed tt_ok (CTok.cons sRatEqD_ok (CTok.nil _)) Tryz.func46 (by decide) rfl rfl rfl (fun _=>Nat.le_of_ble_eq_true rfl) (fun _=>Nat.le_of_ble_eq_true rfl) (fun _=>[]) ?_
 rintro ⟨p,q⟩ hpre
 have hpre:p.len∧q.len:=hpre
 refine by_nf (q:=∃ i1:RatD×RatD,[DA.agg [cB p.x.neg,cS p.x.num,cS p.x.den],DA.agg [cB q.x.neg,cS q.x.num,cS q.x.den]]=sRatEqD_con.args i1∧sRatEqD_con.pre i1∧(((eqRD i1.1 i1.2)=true→(∃ i2:RatD×RatD,[DA.agg [cB p.y.neg,cS p.y.num,cS p.y.den],DA.agg [cB q.y.neg,cS q.y.num,cS q.y.den]]=sRatEqD_con.args i2∧sRatEqD_con.pre i2∧((Value.bool (eqRD i2.1 i2.2)=Value.bool (eqPD p q)))))∧((eqRD i1.1 i1.2)=false→((Value.bool false=Value.bool (eqPD p q)))))) (by kernel_rfl) ?_
 refine ⟨(p.x,q.x),by
  rfl,by
  show p.x.num.length≤1073741824∧p.x.den.length≤1073741824∧q.x.num.length≤1073741824∧q.x.den.length≤1073741824
  first|exact ⟨hpre.1.1.1,hpre.1.1.2,hpre.2.1.1,hpre.2.1.2⟩|exact ⟨hpre.1.2.1,hpre.1.2.2,hpre.2.2.1,hpre.2.2.2⟩,?_⟩
 refine ⟨fun c4=>?_,fun c4=>?_⟩
 ·skip
  replace c4:(eqRD p.x q.x)=true:=c4
  try simp only [nrm] at c4
  refine ⟨(p.y,q.y),by
   rfl,by
   show p.y.num.length≤1073741824∧p.y.den.length≤1073741824∧q.y.num.length≤1073741824∧q.y.den.length≤1073741824
   first|exact ⟨hpre.1.1.1,hpre.1.1.2,hpre.2.1.1,hpre.2.1.2⟩|exact ⟨hpre.1.2.1,hpre.1.2.2,hpre.2.2.1,hpre.2.2.2⟩,?_⟩
  show Value.bool (eqRD p.y q.y)=Value.bool (eqPD p q)
  exact congrArg Value.bool (by unfold eqPD;simp_all)
 ·skip
  replace c4:(eqRD p.x q.x)=false:=c4
  try simp only [nrm] at c4
  show Value.bool false=Value.bool (eqPD p q)
  exact congrArg Value.bool (by unfold eqPD;simp_all)
def iTableAt_con:Con:={ ι:=Scn×PtD,pre:=fun i=>scnSz i.1∧i.2.len,args:=fun i=>[.agg [.im (.int .i64 i.1.low.1),.im (.int .i64 i.1.low.2),.im (.int .i64 i.1.high.1),.im (.int .i64 i.1.high.2),.sl 31 [.int,.int] (vecsD i.1.robot),.sl 32 [.sl 31 [.int,.int]] (areasD i.1.obst),.sl 31 [.int,.int] (vecsD i.1.tables)],.agg [.im (.bool i.2.x.neg),.sl 3 [.int] i.2.x.num,.sl 3 [.int] i.2.x.den,.im (.bool i.2.y.neg),.sl 3 [.int] i.2.y.num,.sl 3 [.int] i.2.y.den]],res:=fun i=>⟨false,[none],[.im (Value.int .i64 (tabZ i.1 i.2))]⟩ }
set_option maxRecDepth 100000 in
theorem iTableAt_ok:iTableAt_con.Ok Tryz.prog 18:=by
 refine fn_ok (X:=⟨tt,[(39,iOpen_con),(49,iPointOf_con),(48,samePtD_con)],[],24⟩) mixed tt_ok (CTok.cons iOpen_ok (CTok.cons iPointOf_ok (CTok.cons samePtD_ok (CTok.nil _)))) Tryz.func18 (by decide) rfl rfl rfl (fun _=>Nat.le_of_ble_eq_true rfl) (fun _=>Nat.le_of_ble_eq_true rfl) (fun (i:Scn×PtD)=>[(2,.mk 11 (Nat) (fun x1=>{ tm:=[(2,.one (.one (.bp 1 0))),(3,.one (.one (.bp 5 0))),(8,.one (.one (.ext 10))),(9,.one (.one (.im (Value.int .i64 (((openR i.1).length:Nat):Int))))),(10,.one (.one (.im (Value.int .i64 ((x1:Nat):Int)))))],en:=[(1,.box [.im (Value.int .i64 i.1.low.1),.im (Value.int .i64 i.1.low.2),.im (Value.int .i64 i.1.high.1),.im (Value.int .i64 i.1.high.2),.ext 2,.ext 3,.ext 4]),(5,.box [.im (Value.bool i.2.x.neg),.ext 6,.ext 7,.im (Value.bool i.2.y.neg),.ext 8,.ext 9]),(2,.view 31 [.int,.int] (vecsD i.1.robot) []),(3,.view 32 [.sl 31 [.int,.int]] (areasD i.1.obst) []),(4,.view 31 [.int,.int] (vecsD i.1.tables) []),(6,.view 3 [.int] i.2.x.num []),(7,.view 3 [.int] i.2.x.den []),(8,.view 3 [.int] i.2.y.num []),(9,.view 3 [.int] i.2.y.den []),(10,.own 3 [.int] (openR i.1))] }) (fun x1=>x1≤(openR i.1).length∧∀ j,j < x1→tabP i.1 i.2 ((openR i.1).getD j [])=false) (fun x1=>(openR i.1).length - x1) (fun _=>[]))]) ?_
 rintro ⟨s,p⟩ hpre
 have hpre:scnSz s∧p.len:=hpre
 refine by_nf (q:=∃ i1:Scn,[DA.agg [cI s.low.1,cI s.low.2,cI s.high.1,cI s.high.2,DC.sl 31 [.int,.int] (vecsD s.robot),DC.sl 32 [.sl 31 [.int,.int]] (areasD s.obst),DC.sl 31 [.int,.int] (vecsD s.tables)]]=iOpen_con.args i1∧iOpen_con.pre i1∧((∃ x1:Nat,(x1≤(openR s).length∧∀ j,j < x1→tabP s p ((openR s).getD j [])=false)∧((Value.int .i64 (((openR i1).length:Nat):Int)=Value.int .i64 (((openR s).length:Nat):Int))∧(Value.int .i64 (0:Int)=Value.int .i64 ((x1:Nat):Int))∧(rf (Value.int .i64 s.low.1))∧(rf (Value.int .i64 s.low.2))∧(rf (Value.int .i64 s.high.1))∧(rf (Value.int .i64 s.high.2))∧(rf (Value.bool p.x.neg))∧(rf (Value.bool p.y.neg))∧(rf (vecsD s.robot))∧(rf (areasD s.obst))∧(rf (vecsD s.tables))∧(rf (p.x.num))∧(rf (p.x.den))∧(rf (p.y.num))∧(rf (p.y.den))∧(openR i1=(openR s))))∧∀ x1:Nat,(x1≤(openR s).length∧∀ j,j < x1→tabP s p ((openR s).getD j [])=false)→(((decide (((x1:Nat):Int) < (((openR s).length:Nat):Int)))=true→((0≤((x1:Nat):Int)∧((x1:Nat):Int) < ((openR s).length:Int))∧((x1 < (openR s).length)∧((0≤((((openR s).getD x1 []).getD 0 (.int 0))).n∧((((openR s).getD x1 []).getD 0 (.int 0))).n < ((vecsD s.tables).length:Int))∧((((((openR s).getD x1 []).getD 0 (.int 0))).n.toNat < (vecsD s.tables).length)∧(∃ i2:Int×Int,[DA.agg [cI (((((vecsD s.tables).getD (((((openR s).getD x1 []).getD 0 (.int 0))).n.toNat) []).getD 0 (.int 0))).n),cI (((((vecsD s.tables).getD (((((openR s).getD x1 []).getD 0 (.int 0))).n.toNat) []).getD 1 (.int 0))).n)]]=iPointOf_con.args i2∧iPointOf_con.pre i2∧(∃ i3:PtD×PtD,[DA.agg [cB (decide ((Fr.ofInt i2.1).z < 0)),cS (L (Fr.ofInt i2.1).z.natAbs),cS (L (Fr.ofInt i2.1).d),cB (decide ((Fr.ofInt i2.2).z < 0)),cS (L (Fr.ofInt i2.2).z.natAbs),cS (L (Fr.ofInt i2.2).d)],DA.agg [cB p.x.neg,cS p.x.num,cS p.x.den,cB p.y.neg,cS p.y.num,cS p.y.den]]=samePtD_con.args i3∧samePtD_con.pre i3∧(((eqPD i3.1 i3.2)=true→((Value.int .i64 ((((openR s).getD x1 []).getD 0 (.int 0))).n=Value.int .i64 (tabZ s p))))∧((eqPD i3.1 i3.2)=false→(∃ y2:Nat,(y2≤(openR s).length∧∀ j,j < y2→tabP s p ((openR s).getD j [])=false)∧((openR s).length - y2 < (openR s).length - x1)∧((rf (Value.int .i64 (((openR s).length:Nat):Int)))∧(Value.int .i64 (IntKind.i64.wrap (((x1:Nat):Int)+(1:Int)))=Value.int .i64 ((y2:Nat):Int))∧(rf (Value.int .i64 s.low.1))∧(rf (Value.int .i64 s.low.2))∧(rf (Value.int .i64 s.high.1))∧(rf (Value.int .i64 s.high.2))∧(rf (Value.bool p.x.neg))∧(rf (Value.bool p.y.neg))∧(rf (vecsD s.robot))∧(rf (areasD s.obst))∧(rf (vecsD s.tables))∧(rf (p.x.num))∧(rf (p.x.den))∧(rf (p.y.num))∧(rf (p.y.den))∧(rf (openR s)))))))))))))∧((decide (((x1:Nat):Int) < (((openR s).length:Nat):Int)))=false→((Value.int .i64 (-1:Int)=Value.int .i64 (tabZ s p))))))) (by kernel_rfl) ?_
 have hol:=openR_len hpre.1
 have hvl:=vecsD_length s.tables
 refine ⟨s,by
  rfl,by
  show scnSz s
  first|exact hpre.1,?_⟩
 refine ⟨⟨0,by
  exact ⟨Nat.zero_le _,fun j hj=>absurd hj (Nat.not_lt_zero j)⟩,?_⟩,?_⟩
 ·skip
  refine ⟨rfl,?_,rfl,rfl,rfl,rfl,rfl,rfl,rfl,rfl,rfl,rfl,rfl,rfl,rfl,rfl⟩
  show Value.int .i64 (0:Int)=Value.int .i64 ((0:Nat):Int)
  first|rfl|(simp;done)
 intro (k:Nat) hki4
 have hki4:k≤(openR s).length∧∀ j,j < k→tabP s p ((openR s).getD j [])=false:=hki4
 refine ⟨fun c22=>?_,fun c22=>?_⟩
 ·skip
  try simp only [nrm] at c22
  obtain ⟨n,hn,en,eb⟩:=openR_at (s:=s) (j:=k) (by omega)
  have e:(((openR s).getD k []).getD 0 (.int 0)).n=(n:Int):=en
  have et:tabP s p ((openR s).getD k [])=eqPD (ptQ (ptV (s.tables.getD n (0,0)))) p:=by unfold tabP;rw [en,Int.toNat_natCast]
  have o23:0≤((k:Nat):Int)∧((k:Nat):Int) < ((openR s).length:Int):=by
   first|rfl|omega|(simp;done)|(simp;omega)
  refine ⟨o23,?_⟩
  have o24:k < (openR s).length:=by
   first|rfl|omega|(simp;done)|(simp;omega)
  refine ⟨o24,?_⟩
  have o25:0≤((((openR s).getD k []).getD 0 (.int 0))).n∧((((openR s).getD k []).getD 0 (.int 0))).n < ((vecsD s.tables).length:Int):=by
   first|rfl|omega|(simp;done)|(simp;omega)
  refine ⟨o25,?_⟩
  have o26:((((openR s).getD k []).getD 0 (.int 0))).n.toNat < (vecsD s.tables).length:=by
   first|rfl|omega|(simp;done)|(simp;omega)
  refine ⟨o26,?_⟩
  refine ⟨((s.tables.getD n (0,0)).1,(s.tables.getD n (0,0)).2),by
   rw [e,Int.toNat_natCast,vecs_x hn,vecs_y hn];rfl,by
   exact eb,?_⟩
  refine ⟨(ptQ (ptV (s.tables.getD n (0,0))),p),by
   rfl,by
   show (ptQ (ptV (s.tables.getD n (0,0)))).len∧p.len
   exact ⟨ptQ_len _,hpre.2⟩,?_⟩
  refine ⟨fun c33=>?_,fun c33=>?_⟩
  ·skip
   replace c33:(eqPD (ptQ (ptV (s.tables.getD n (0,0)))) p)=true:=c33
   try simp only [nrm] at c33
   show Value.int .i64 ((((openR s).getD k []).getD 0 (.int 0))).n=Value.int .i64 (tabZ s p)
   rw [tabZ_at (k:=k) (by omega) hki4.2 (et.trans c33)];rfl
  ·skip
   replace c33:(eqPD (ptQ (ptV (s.tables.getD n (0,0)))) p)=false:=c33
   try simp only [nrm] at c33
   refine ⟨k+1,by
    exact ⟨by omega,lt_step hki4.2 (et.trans c33)⟩,by
    first|omega|(simp;omega),?_⟩
   refine ⟨rfl,?_,rfl,rfl,rfl,rfl,rfl,rfl,rfl,rfl,rfl,rfl,rfl,rfl,rfl,rfl⟩
   first|rfl|exact vint (wrap64 (by omega) (by omega))
 ·skip
  try simp only [nrm] at c22
  show Value.int .i64 (-1:Int)=Value.int .i64 (tabZ s p)
  rw [tabZ_none (fun j hj=>hki4.2 j (by omega))]
def sTableAt_con:Con:={ ι:=Scn×PtD,pre:=fun i=>scnSz i.1∧i.2.len,args:=fun i=>[.agg [.im (.int .i64 i.1.low.1),.im (.int .i64 i.1.low.2),.im (.int .i64 i.1.high.1),.im (.int .i64 i.1.high.2),.sl 31 [.int,.int] (vecsD i.1.robot),.sl 32 [.sl 31 [.int,.int]] (areasD i.1.obst),.sl 31 [.int,.int] (vecsD i.1.tables)],.agg [.im (.bool i.2.x.neg),.sl 3 [.int] i.2.x.num,.sl 3 [.int] i.2.x.den,.im (.bool i.2.y.neg),.sl 3 [.int] i.2.y.num,.sl 3 [.int] i.2.y.den]],res:=fun i=>⟨false,[none],[.im (Value.int .i64 (tabZ i.1 i.2))]⟩ }
set_option maxRecDepth 100000 in
theorem sTableAt_ok:sTableAt_con.Ok Tryz.prog 16:=by
 refine fn_ok (X:=⟨tt,[(33,sOpen_con),(47,sPointOf_con),(46,sSamePtD_con)],[],24⟩) mixed tt_ok (CTok.cons sOpen_ok (CTok.cons sPointOf_ok (CTok.cons sSamePtD_ok (CTok.nil _)))) Tryz.func16 (by decide) rfl rfl rfl (fun _=>Nat.le_of_ble_eq_true rfl) (fun _=>Nat.le_of_ble_eq_true rfl) (fun (i:Scn×PtD)=>[(2,.mk 11 (Nat) (fun x1=>{ tm:=[(2,.one (.one (.bp 1 0))),(3,.one (.one (.bp 5 0))),(8,.one (.one (.ext 10))),(9,.one (.one (.im (Value.int .i64 (((openR i.1).length:Nat):Int))))),(10,.one (.one (.im (Value.int .i64 ((x1:Nat):Int)))))],en:=[(1,.box [.im (Value.int .i64 i.1.low.1),.im (Value.int .i64 i.1.low.2),.im (Value.int .i64 i.1.high.1),.im (Value.int .i64 i.1.high.2),.ext 2,.ext 3,.ext 4]),(5,.box [.im (Value.bool i.2.x.neg),.ext 6,.ext 7,.im (Value.bool i.2.y.neg),.ext 8,.ext 9]),(2,.view 31 [.int,.int] (vecsD i.1.robot) []),(3,.view 32 [.sl 31 [.int,.int]] (areasD i.1.obst) []),(4,.view 31 [.int,.int] (vecsD i.1.tables) []),(6,.view 3 [.int] i.2.x.num []),(7,.view 3 [.int] i.2.x.den []),(8,.view 3 [.int] i.2.y.num []),(9,.view 3 [.int] i.2.y.den []),(10,.own 3 [.int] (openR i.1))] }) (fun x1=>x1≤(openR i.1).length∧∀ j,j < x1→tabP i.1 i.2 ((openR i.1).getD j [])=false) (fun x1=>(openR i.1).length - x1) (fun _=>[]))]) ?_
 rintro ⟨s,p⟩ hpre
 have hpre:scnSz s∧p.len:=hpre
 refine by_nf (q:=∃ i1:Scn,[DA.agg [cI s.low.1,cI s.low.2,cI s.high.1,cI s.high.2,DC.sl 31 [.int,.int] (vecsD s.robot),DC.sl 32 [.sl 31 [.int,.int]] (areasD s.obst),DC.sl 31 [.int,.int] (vecsD s.tables)]]=sOpen_con.args i1∧sOpen_con.pre i1∧((∃ x1:Nat,(x1≤(openR s).length∧∀ j,j < x1→tabP s p ((openR s).getD j [])=false)∧((Value.int .i64 (((openR i1).length:Nat):Int)=Value.int .i64 (((openR s).length:Nat):Int))∧(Value.int .i64 (0:Int)=Value.int .i64 ((x1:Nat):Int))∧(rf (Value.int .i64 s.low.1))∧(rf (Value.int .i64 s.low.2))∧(rf (Value.int .i64 s.high.1))∧(rf (Value.int .i64 s.high.2))∧(rf (Value.bool p.x.neg))∧(rf (Value.bool p.y.neg))∧(rf (vecsD s.robot))∧(rf (areasD s.obst))∧(rf (vecsD s.tables))∧(rf (p.x.num))∧(rf (p.x.den))∧(rf (p.y.num))∧(rf (p.y.den))∧(openR i1=(openR s))))∧∀ x1:Nat,(x1≤(openR s).length∧∀ j,j < x1→tabP s p ((openR s).getD j [])=false)→(((decide (((x1:Nat):Int) < (((openR s).length:Nat):Int)))=true→((0≤((x1:Nat):Int)∧((x1:Nat):Int) < ((openR s).length:Int))∧((x1 < (openR s).length)∧((0≤((((openR s).getD x1 []).getD 0 (.int 0))).n∧((((openR s).getD x1 []).getD 0 (.int 0))).n < ((vecsD s.tables).length:Int))∧((((((openR s).getD x1 []).getD 0 (.int 0))).n.toNat < (vecsD s.tables).length)∧(∃ i2:Int×Int,[DA.agg [cI (((((vecsD s.tables).getD (((((openR s).getD x1 []).getD 0 (.int 0))).n.toNat) []).getD 0 (.int 0))).n),cI (((((vecsD s.tables).getD (((((openR s).getD x1 []).getD 0 (.int 0))).n.toNat) []).getD 1 (.int 0))).n)]]=sPointOf_con.args i2∧sPointOf_con.pre i2∧(∃ i3:PtD×PtD,[DA.agg [cB (decide ((Fr.ofInt i2.1).z < 0)),cS (L (Fr.ofInt i2.1).z.natAbs),cS (L (Fr.ofInt i2.1).d),cB (decide ((Fr.ofInt i2.2).z < 0)),cS (L (Fr.ofInt i2.2).z.natAbs),cS (L (Fr.ofInt i2.2).d)],DA.agg [cB p.x.neg,cS p.x.num,cS p.x.den,cB p.y.neg,cS p.y.num,cS p.y.den]]=sSamePtD_con.args i3∧sSamePtD_con.pre i3∧(((eqPD i3.1 i3.2)=true→((Value.int .i64 ((((openR s).getD x1 []).getD 0 (.int 0))).n=Value.int .i64 (tabZ s p))))∧((eqPD i3.1 i3.2)=false→(∃ y2:Nat,(y2≤(openR s).length∧∀ j,j < y2→tabP s p ((openR s).getD j [])=false)∧((openR s).length - y2 < (openR s).length - x1)∧((rf (Value.int .i64 (((openR s).length:Nat):Int)))∧(Value.int .i64 (IntKind.i64.wrap (((x1:Nat):Int)+(1:Int)))=Value.int .i64 ((y2:Nat):Int))∧(rf (Value.int .i64 s.low.1))∧(rf (Value.int .i64 s.low.2))∧(rf (Value.int .i64 s.high.1))∧(rf (Value.int .i64 s.high.2))∧(rf (Value.bool p.x.neg))∧(rf (Value.bool p.y.neg))∧(rf (vecsD s.robot))∧(rf (areasD s.obst))∧(rf (vecsD s.tables))∧(rf (p.x.num))∧(rf (p.x.den))∧(rf (p.y.num))∧(rf (p.y.den))∧(rf (openR s)))))))))))))∧((decide (((x1:Nat):Int) < (((openR s).length:Nat):Int)))=false→((Value.int .i64 (-1:Int)=Value.int .i64 (tabZ s p))))))) (by kernel_rfl) ?_
 have hol:=openR_len hpre.1
 have hvl:=vecsD_length s.tables
 refine ⟨s,by
  rfl,by
  show scnSz s
  first|exact hpre.1,?_⟩
 refine ⟨⟨0,by
  exact ⟨Nat.zero_le _,fun j hj=>absurd hj (Nat.not_lt_zero j)⟩,?_⟩,?_⟩
 ·skip
  refine ⟨rfl,?_,rfl,rfl,rfl,rfl,rfl,rfl,rfl,rfl,rfl,rfl,rfl,rfl,rfl,rfl⟩
  show Value.int .i64 (0:Int)=Value.int .i64 ((0:Nat):Int)
  first|rfl|(simp;done)
 intro (k:Nat) hki4
 have hki4:k≤(openR s).length∧∀ j,j < k→tabP s p ((openR s).getD j [])=false:=hki4
 refine ⟨fun c22=>?_,fun c22=>?_⟩
 ·skip
  try simp only [nrm] at c22
  obtain ⟨n,hn,en,eb⟩:=openR_at (s:=s) (j:=k) (by omega)
  have e:(((openR s).getD k []).getD 0 (.int 0)).n=(n:Int):=en
  have et:tabP s p ((openR s).getD k [])=eqPD (ptQ (ptV (s.tables.getD n (0,0)))) p:=by unfold tabP;rw [en,Int.toNat_natCast]
  have o23:0≤((k:Nat):Int)∧((k:Nat):Int) < ((openR s).length:Int):=by
   first|rfl|omega|(simp;done)|(simp;omega)
  refine ⟨o23,?_⟩
  have o24:k < (openR s).length:=by
   first|rfl|omega|(simp;done)|(simp;omega)
  refine ⟨o24,?_⟩
  have o25:0≤((((openR s).getD k []).getD 0 (.int 0))).n∧((((openR s).getD k []).getD 0 (.int 0))).n < ((vecsD s.tables).length:Int):=by
   first|rfl|omega|(simp;done)|(simp;omega)
  refine ⟨o25,?_⟩
  have o26:((((openR s).getD k []).getD 0 (.int 0))).n.toNat < (vecsD s.tables).length:=by
   first|rfl|omega|(simp;done)|(simp;omega)
  refine ⟨o26,?_⟩
  refine ⟨((s.tables.getD n (0,0)).1,(s.tables.getD n (0,0)).2),by
   rw [e,Int.toNat_natCast,vecs_x hn,vecs_y hn];rfl,by
   exact eb,?_⟩
  refine ⟨(ptQ (ptV (s.tables.getD n (0,0))),p),by
   rfl,by
   show (ptQ (ptV (s.tables.getD n (0,0)))).len∧p.len
   exact ⟨ptQ_len _,hpre.2⟩,?_⟩
  refine ⟨fun c33=>?_,fun c33=>?_⟩
  ·skip
   replace c33:(eqPD (ptQ (ptV (s.tables.getD n (0,0)))) p)=true:=c33
   try simp only [nrm] at c33
   show Value.int .i64 ((((openR s).getD k []).getD 0 (.int 0))).n=Value.int .i64 (tabZ s p)
   rw [tabZ_at (k:=k) (by omega) hki4.2 (et.trans c33)];rfl
  ·skip
   replace c33:(eqPD (ptQ (ptV (s.tables.getD n (0,0)))) p)=false:=c33
   try simp only [nrm] at c33
   refine ⟨k+1,by
    exact ⟨by omega,lt_step hki4.2 (et.trans c33)⟩,by
    first|omega|(simp;omega),?_⟩
   refine ⟨rfl,?_,rfl,rfl,rfl,rfl,rfl,rfl,rfl,rfl,rfl,rfl,rfl,rfl,rfl,rfl⟩
   first|rfl|exact vint (wrap64 (by omega) (by omega))
 ·skip
  try simp only [nrm] at c22
  show Value.int .i64 (-1:Int)=Value.int .i64 (tabZ s p)
  rw [tabZ_none (fun j hj=>hki4.2 j (by omega))]
end Go.Proofs.YtppjhpglejehkaaGreat
