import Derived.Test.YtppjhpglejehkaaGreatTsRkI
namespace Go.Proofs.YtppjhpglejehkaaGreat
set_option linter.unusedVariables false
set_option linter.unusedSimpArgs false
open Go.RowKit
def hasI (l:List (List Dat)) (n:Int):Bool:=l.any fun r=>decide (rn r=n)
theorem hasI_at {l:List (List Dat)} {n:Int} {k:Nat} (hk:k < l.length) (h:rn (l.getD k [])=n):hasI l n=true:=List.any_eq_true.2 ⟨l.getD k [],by simp [List.getD,hk],decide_eq_true h⟩
theorem hasI_no {l:List (List Dat)} {n:Int} (h:∀ j,j < l.length→decide (rn (l.getD j [])=n)=false):hasI l n=false:=by
 unfold hasI
 rw [List.any_eq_false]
 intro r hr
 obtain ⟨j,hj,rfl⟩:=List.getElem_of_mem hr
 have:=h j hj
 simpa [List.getD,hj] using this
theorem hasI_idx (l:List (List Dat)) (n:Int):decide (idxF (fun r=>decide (rn r=n)) l≥0)=hasI l n:=idxF_any _ _
def tbR (g h:Int):List (List Dat):=if (0≤g∧g≤3)∧(0≤h∧h≤3) then (([[],[[.int 1]],[[.int 1],[.int 1]],[[.int (-1)]]]:List (List (List Dat))).getD (Int.tmod (h - g+4) 4).toNat []) else []
theorem tbR_no {g h:Int} (hc:¬ ((0≤g∧g≤3)∧(0≤h∧h≤3))):tbR g h=[]:=if_neg hc
theorem tb_cases {g h:Int} (hc:(0≤g∧g≤3)∧(0≤h∧h≤3)):∃ r:Nat,r < 4∧Int.tmod (h - g+4) 4=(r:Int)∧Int.tmod (h+4 - g) 4=(r:Int)∧IntKind.i64.wrap (IntKind.i64.wrap (h - g)+4)=h - g+4∧IntKind.i64.wrap (IntKind.i64.wrap (h+4) - g)=h+4 - g∧tbR g h=(([[],[[.int 1]],[[.int 1],[.int 1]],[[.int (-1)]]]:List (List (List Dat))).getD r []):=by
 have h0:0≤h - g+4:=by omega
 have e1:Int.tmod (h - g+4) 4=(h - g+4) % 4:=Int.tmod_eq_emod_of_nonneg h0
 have e2:Int.tmod (h+4 - g) 4=(h+4 - g) % 4:=Int.tmod_eq_emod_of_nonneg (by omega)
 refine ⟨((h - g+4) % 4).toNat,by omega,by rw [e1];omega,by rw [e2];omega,?_,?_,?_⟩
 ·rw [wrap64 (x:=h - g) (by omega) (by omega),wrap64 (by omega) (by omega)]
 ·rw [wrap64 (x:=h+4) (by omega) (by omega),wrap64 (by omega) (by omega)]
 ·unfold tbR;rw [if_pos hc,e1]
theorem tbR_len (g h:Int):(tbR g h).length≤2:=by
 by_cases hc:(0≤g∧g≤3)∧(0≤h∧h≤3)
 ·obtain ⟨r,hr,-,-,-,-,e⟩:=tb_cases hc
  rw [e]
  have:r=0∨r=1∨r=2∨r=3:=by omega
  rcases this with rfl|rfl|rfl|rfl <;> decide
 ·rw [tbR_no hc];decide
def hdT (g h:Int):Nat→Int
 | 0=>g
 | k+1=>nextH (hdT g h k) (rn ((tbR g h).getD k []))
def tsT (g h:Int):Nat→List (List Dat)
 | 0=>[]
 | k+1=>tsT g h k++[[.int (hdT g h (k+1))]]
theorem tsT_len (g h:Int):∀ k,(tsT g h k).length=k
 | 0=>rfl
 | k+1=>by unfold tsT;rw [List.length_append,tsT_len g h k];rfl
def tsR (s:Scn) (k g h:Int):List (List Dat):=if hasI (openR s) k=true then tsT g h (tbR g h).length else []
theorem tsR_no {s:Scn} {k g h:Int} (e:hasI (openR s) k=false):tsR s k g h=[]:=by unfold tsR;rw [if_neg (by rw [e];simp)]
theorem tsR_yes {s:Scn} {k g h:Int} (e:hasI (openR s) k=true):tsR s k g h=tsT g h (tbR g h).length:=by unfold tsR;rw [if_pos e]
theorem tsR_bad {s:Scn} {k g h:Int} (e:¬ ((0≤g∧g≤3)∧(0≤h∧h≤3))):tsR s k g h=[]:=by
 unfold tsR
 rw [tbR_no e]
 split <;> rfl
theorem openR_len {s:Scn} (hz:scnSz s):(openR s).length≤1048576:=by
 have h1:=hz.2.2.2
 have h2:=openT_len s s.tables.length
 cases hv:validScn s with
 | false=>rw [openR_no hv];simp
 | true=>rw [openR_yes hv];omega
def RatD.len (r:RatD):Prop:=r.num.length≤1073741824∧r.den.length≤1073741824
def PtD.len (p:PtD):Prop:=p.x.len∧p.y.len
def idxInt_con:Con:={ ι:=(List (List Dat))×Int,pre:=fun i=>i.1.length≤1073741824,args:=fun i=>[.one (.sl 3 [.int] i.1),.one (.im (.int .i64 i.2))],res:=fun i=>⟨false,[none],[.im (Value.int .i64 (idxF (fun r=>decide (rn r=i.2)) i.1))]⟩ }
set_option maxRecDepth 100000 in
theorem idxInt_ok:idxInt_con.Ok Tryz.prog 67:=by
 refine fn_ok (X:=⟨tt,[],[],19⟩) mixed tt_ok (CTok.nil _) Tryz.func67 (by decide) rfl rfl rfl (fun _=>Nat.le_of_ble_eq_true rfl) (fun _=>Nat.le_of_ble_eq_true rfl) (fun (i:(List (List Dat))×Int)=>[(2,.mk 2 (Nat) (fun x1=>{ tm:=[(0,.one (.one (.ext 1))),(1,.one (.one (.im (Value.int .i64 i.2)))),(6,.one (.one (.ext 1))),(7,.one (.one (.im (Value.int .i64 ((i.1.length:Nat):Int))))),(8,.one (.one (.im (Value.int .i64 ((x1:Nat):Int)))))],en:=[(1,.view 3 [.int] i.1 [])] }) (fun x1=>x1≤i.1.length∧∀ j,j < x1→decide (rn (i.1.getD j [])=i.2)=false) (fun x1=>i.1.length - x1) (fun _=>[]))]) ?_
 rintro ⟨l,n⟩ hpre
 have hpre:l.length≤1073741824:=hpre
 refine by_nf (q:=(∃ x1:Nat,(x1≤l.length∧∀ j,j < x1→decide (rn (l.getD j [])=n)=false)∧((rf (Value.int .i64 n))∧(rf (Value.int .i64 ((l.length:Nat):Int)))∧(Value.int .i64 (0:Int)=Value.int .i64 ((x1:Nat):Int))∧(rf (l))))∧∀ x1:Nat,(x1≤l.length∧∀ j,j < x1→decide (rn (l.getD j [])=n)=false)→(((decide (((x1:Nat):Int) < ((l.length:Nat):Int)))=true→((0≤((x1:Nat):Int)∧((x1:Nat):Int) < (l.length:Int))∧((x1 < l.length)∧(((n == (((l.getD x1 []).getD 0 (.int 0))).n)=true→((Value.int .i64 ((x1:Nat):Int)=Value.int .i64 (idxF (fun r=>decide (rn r=n)) l))))∧((n == (((l.getD x1 []).getD 0 (.int 0))).n)=false→(∃ y2:Nat,(y2≤l.length∧∀ j,j < y2→decide (rn (l.getD j [])=n)=false)∧(l.length - y2 < l.length - x1)∧((rf (Value.int .i64 n))∧(rf (Value.int .i64 ((l.length:Nat):Int)))∧(Value.int .i64 (IntKind.i64.wrap (((x1:Nat):Int)+(1:Int)))=Value.int .i64 ((y2:Nat):Int))∧(rf (l)))))))))∧((decide (((x1:Nat):Int) < ((l.length:Nat):Int)))=false→((Value.int .i64 (-1:Int)=Value.int .i64 (idxF (fun r=>decide (rn r=n)) l)))))) (by kernel_rfl) ?_
 refine ⟨⟨0,by
  exact ⟨Nat.zero_le _,fun j hj=>absurd hj (Nat.not_lt_zero j)⟩,?_⟩,?_⟩
 ·skip
  refine ⟨rfl,rfl,?_,rfl⟩
  show Value.int .i64 (0:Int)=Value.int .i64 ((0:Nat):Int)
  first|rfl|(simp;done)
 intro (k:Nat) hki1
 have hki1:k≤l.length∧∀ j,j < k→decide (rn (l.getD j [])=n)=false:=hki1
 refine ⟨fun c7=>?_,fun c7=>?_⟩
 ·skip
  try simp only [nrm] at c7
  have o8:0≤((k:Nat):Int)∧((k:Nat):Int) < (l.length:Int):=by
   first|rfl|omega|(simp;done)|(simp;omega)
  refine ⟨o8,?_⟩
  have o9:k < l.length:=by
   first|rfl|omega|(simp;done)|(simp;omega)
  refine ⟨o9,?_⟩
  refine ⟨fun c10=>?_,fun c10=>?_⟩
  ·skip
   try simp only [nrm] at c10
   show Value.int .i64 ((k:Nat):Int)=Value.int .i64 (idxF (fun r=>decide (rn r=n)) l)
   rw [idxF_at (k:=k) (by omega) hki1.2 (decide_eq_true c10.symm)]
  ·skip
   try simp only [nrm] at c10
   refine ⟨k+1,by
    exact ⟨by omega,lt_step hki1.2 (decide_eq_false fun e=>c10 e.symm)⟩,by
    first|omega|(simp;omega),?_⟩
   refine ⟨rfl,rfl,?_,rfl⟩
   first|rfl|exact vint (wrap64 (by omega) (by omega))
 ·skip
  try simp only [nrm] at c7
  show Value.int .i64 (-1:Int)=Value.int .i64 (idxF (fun r=>decide (rn r=n)) l)
  rw [idxF_none (fun j hj=>hki1.2 j (by omega))]
def hasInt_con:Con:={ ι:=(List (List Dat))×Int,pre:=fun i=>i.1.length≤1073741824,args:=fun i=>[.one (.sl 3 [.int] i.1),.one (.im (.int .i64 i.2))],res:=fun i=>⟨false,[none],[.im (Value.bool (hasI i.1 i.2))]⟩ }
set_option maxRecDepth 100000 in
theorem hasInt_ok:hasInt_con.Ok Tryz.prog 38:=by
 refine fn_ok (X:=⟨tt,[(67,idxInt_con)],[],9⟩) mixed tt_ok (CTok.cons idxInt_ok (CTok.nil _)) Tryz.func38 (by decide) rfl rfl rfl (fun _=>Nat.le_of_ble_eq_true rfl) (fun _=>Nat.le_of_ble_eq_true rfl) (fun _=>[]) ?_
 rintro ⟨l,n⟩ hpre
 have hpre:l.length≤1073741824:=hpre
 refine by_nf (q:=∃ i1:(List (List Dat))×Int,[DA.one (cS l),DA.one (cI n)]=idxInt_con.args i1∧idxInt_con.pre i1∧((Value.bool (decide ((idxF (fun r=>decide (rn r=i1.2)) i1.1)≥(0:Int)))=Value.bool (hasI l n)))) (by kernel_rfl) ?_
 refine ⟨(l,n),by
  rfl,by
  show l.length≤1073741824
  first|trivial|(first|omega|assumption|exact hpre.1|exact hpre.2|(simp;done)),?_⟩
 show Value.bool (decide ((idxF (fun r=>decide (rn r=n)) l)≥(0:Int)))=Value.bool (hasI l n)
 exact congrArg Value.bool (hasI_idx _ _)
def sHasInt_con:Con:={ ι:=(List (List Dat))×Int,pre:=fun i=>i.1.length≤1073741824,args:=fun i=>[.one (.sl 3 [.int] i.1),.one (.im (.int .i64 i.2))],res:=fun i=>⟨false,[none],[.im (Value.bool (hasI i.1 i.2))]⟩ }
set_option maxRecDepth 100000 in
theorem sHasInt_ok:sHasInt_con.Ok Tryz.prog 32:=by
 refine fn_ok (X:=⟨tt,[],[],17⟩) mixed tt_ok (CTok.nil _) Tryz.func32 (by decide) rfl rfl rfl (fun _=>Nat.le_of_ble_eq_true rfl) (fun _=>Nat.le_of_ble_eq_true rfl) (fun (i:(List (List Dat))×Int)=>[(2,.mk 2 (Nat) (fun x1=>{ tm:=[(0,.one (.one (.ext 1))),(1,.one (.one (.im (Value.int .i64 i.2)))),(7,.one (.one (.ext 1))),(8,.one (.one (.im (Value.int .i64 ((i.1.length:Nat):Int))))),(9,.one (.one (.im (Value.int .i64 ((x1:Nat):Int)))))],en:=[(1,.view 3 [.int] i.1 [])] }) (fun x1=>x1≤i.1.length∧∀ j,j < x1→decide (rn (i.1.getD j [])=i.2)=false) (fun x1=>i.1.length - x1) (fun _=>[]))]) ?_
 rintro ⟨l,n⟩ hpre
 have hpre:l.length≤1073741824:=hpre
 refine by_nf (q:=(∃ x1:Nat,(x1≤l.length∧∀ j,j < x1→decide (rn (l.getD j [])=n)=false)∧((rf (Value.int .i64 n))∧(rf (Value.int .i64 ((l.length:Nat):Int)))∧(Value.int .i64 (0:Int)=Value.int .i64 ((x1:Nat):Int))∧(rf (l))))∧∀ x1:Nat,(x1≤l.length∧∀ j,j < x1→decide (rn (l.getD j [])=n)=false)→(((decide (((x1:Nat):Int) < ((l.length:Nat):Int)))=true→((0≤((x1:Nat):Int)∧((x1:Nat):Int) < (l.length:Int))∧((x1 < l.length)∧((((((l.getD x1 []).getD 0 (.int 0))).n == n)=true→((Value.bool true=Value.bool (hasI l n))))∧(((((l.getD x1 []).getD 0 (.int 0))).n == n)=false→(∃ y2:Nat,(y2≤l.length∧∀ j,j < y2→decide (rn (l.getD j [])=n)=false)∧(l.length - y2 < l.length - x1)∧((rf (Value.int .i64 n))∧(rf (Value.int .i64 ((l.length:Nat):Int)))∧(Value.int .i64 (IntKind.i64.wrap (((x1:Nat):Int)+(1:Int)))=Value.int .i64 ((y2:Nat):Int))∧(rf (l)))))))))∧((decide (((x1:Nat):Int) < ((l.length:Nat):Int)))=false→((Value.bool false=Value.bool (hasI l n)))))) (by kernel_rfl) ?_
 refine ⟨⟨0,by
  exact ⟨Nat.zero_le _,fun j hj=>absurd hj (Nat.not_lt_zero j)⟩,?_⟩,?_⟩
 ·skip
  refine ⟨rfl,rfl,?_,rfl⟩
  show Value.int .i64 (0:Int)=Value.int .i64 ((0:Nat):Int)
  first|rfl|(simp;done)
 intro (k:Nat) hki1
 have hki1:k≤l.length∧∀ j,j < k→decide (rn (l.getD j [])=n)=false:=hki1
 refine ⟨fun c7=>?_,fun c7=>?_⟩
 ·skip
  try simp only [nrm] at c7
  have o8:0≤((k:Nat):Int)∧((k:Nat):Int) < (l.length:Int):=by
   first|rfl|omega|(simp;done)|(simp;omega)
  refine ⟨o8,?_⟩
  have o9:k < l.length:=by
   first|rfl|omega|(simp;done)|(simp;omega)
  refine ⟨o9,?_⟩
  refine ⟨fun c10=>?_,fun c10=>?_⟩
  ·skip
   try simp only [nrm] at c10
   show Value.bool true=Value.bool (hasI l n)
   exact congrArg Value.bool (hasI_at (k:=k) (by omega) c10).symm
  ·skip
   try simp only [nrm] at c10
   refine ⟨k+1,by
    exact ⟨by omega,lt_step hki1.2 (decide_eq_false c10)⟩,by
    first|omega|(simp;omega),?_⟩
   refine ⟨rfl,rfl,?_,rfl⟩
   first|rfl|exact vint (wrap64 (by omega) (by omega))
 ·skip
  try simp only [nrm] at c7
  show Value.bool false=Value.bool (hasI l n)
  exact congrArg Value.bool (hasI_no (fun j hj=>hki1.2 j (by omega))).symm
def isHeading_con:Con:={ ι:=Int,pre:=fun i=>True,args:=fun i=>[.one (.im (.int .i64 i))],res:=fun i=>⟨false,[none],[.im (Value.bool (decide (i≥0) && decide (i≤3)))]⟩ }
set_option maxRecDepth 100000 in
theorem isHeading_ok:isHeading_con.Ok Tryz.prog 40:=by
 refine fn_ok (X:=⟨tt,[(70,within_con)],[],5⟩) mixed tt_ok (CTok.cons within_ok (CTok.nil _)) Tryz.func40 (by decide) rfl rfl rfl (fun _=>Nat.le_of_ble_eq_true rfl) (fun _=>Nat.le_of_ble_eq_true rfl) (fun _=>[]) ?_
 intro (n:Int) hpre
 have hpre:True:=hpre
 refine by_nf (q:=∃ i1:Int×Int×Int,[DA.one (cI n),DA.one (cI (0:Int)),DA.one (cI (3:Int))]=within_con.args i1∧within_con.pre i1∧((Value.bool (decide (i1.1≥i1.2.1) && decide (i1.1≤i1.2.2))=Value.bool (decide (n≥0) && decide (n≤3))))) (by kernel_rfl) ?_
 refine ⟨(n,(0:Int),(3:Int)),by
  rfl,by
  first|trivial|(first|omega|assumption|exact hpre.1|exact hpre.2|(simp;done)),?_⟩
 show Value.bool (decide (n≥(0:Int)) && decide (n≤(3:Int)))=Value.bool (decide (n≥0) && decide (n≤3))
 rfl
def iNextHeading_con:Con:={ ι:=Int×Int,pre:=fun i=>True,args:=fun i=>[.one (.im (.int .i64 i.1)),.one (.im (.int .i64 i.2))],res:=fun i=>⟨false,[none],[.im (Value.int .i64 (nextH i.1 i.2))]⟩ }
set_option maxRecDepth 100000 in
theorem iNextHeading_ok:iNextHeading_con.Ok Tryz.prog 42:=by
 refine fn_ok (X:=⟨tt,[(40,isHeading_con)],[],21⟩) mixed tt_ok (CTok.cons isHeading_ok (CTok.nil _)) Tryz.func42 (by decide) rfl rfl rfl (fun _=>Nat.le_of_ble_eq_true rfl) (fun _=>Nat.le_of_ble_eq_true rfl) (fun _=>[]) ?_
 rintro ⟨h,t⟩ hpre
 have hpre:True:=hpre
 refine by_nf (q:=∃ i1:Int,[DA.one (cI h)]=isHeading_con.args i1∧isHeading_con.pre i1∧(((!(!(decide (i1≥0) && decide (i1≤3))))=true→(((t != (1:Int))=true→(((t != (-1:Int))=true→((Value.int .i64 (-1:Int)=Value.int .i64 (nextH h t))))∧((t != (-1:Int))=false→(((4:Int)≠0)∧((Value.int .i64 (Int.tmod (IntKind.i64.wrap ((IntKind.i64.wrap (h+t))+(4:Int))) (4:Int))=Value.int .i64 (nextH h t)))))))∧((t != (1:Int))=false→(((4:Int)≠0)∧((Value.int .i64 (Int.tmod (IntKind.i64.wrap ((IntKind.i64.wrap (h+t))+(4:Int))) (4:Int))=Value.int .i64 (nextH h t)))))))∧((!(!(decide (i1≥0) && decide (i1≤3))))=false→((Value.int .i64 (-1:Int)=Value.int .i64 (nextH h t)))))) (by kernel_rfl) ?_
 refine ⟨h,by
  rfl,by
  first|trivial|(first|omega|assumption|exact hpre.1|exact hpre.2|(simp;done)),?_⟩
 refine ⟨fun c4=>?_,fun c4=>?_⟩
 ·skip
  try simp only [nrm] at c4
  refine ⟨fun c5=>?_,fun c5=>?_⟩
  ·skip
   try simp only [nrm] at c5
   refine ⟨fun c6=>?_,fun c6=>?_⟩
   ·skip
    try simp only [nrm] at c6
    first|(unfold nextH;rw [if_pos (by omega)];(first|rw [wrap64 (x:=h+t) (by omega) (by omega)]|rw [wrap64 (x:=h+4) (by omega) (by omega)]);rw [wrap64 (by omega) (by omega)];try (congr 2;omega))|(unfold nextH;rw [if_neg (by omega)])
   ·skip
    try simp only [nrm] at c6
    have o8:(4:Int)≠0:=by
     first|rfl|omega|(simp;done)|(simp;omega)
    refine ⟨o8,?_⟩
    first|(unfold nextH;rw [if_pos (by omega)];(first|rw [wrap64 (x:=h+t) (by omega) (by omega)]|rw [wrap64 (x:=h+4) (by omega) (by omega)]);rw [wrap64 (by omega) (by omega)];try (congr 2;omega))|(unfold nextH;rw [if_neg (by omega)])
  ·skip
   try simp only [nrm] at c5
   have o10:(4:Int)≠0:=by
    first|rfl|omega|(simp;done)|(simp;omega)
   refine ⟨o10,?_⟩
   first|(unfold nextH;rw [if_pos (by omega)];(first|rw [wrap64 (x:=h+t) (by omega) (by omega)]|rw [wrap64 (x:=h+4) (by omega) (by omega)]);rw [wrap64 (by omega) (by omega)];try (congr 2;omega))|(unfold nextH;rw [if_neg (by omega)])
 ·skip
  try simp only [nrm] at c4
  first|(unfold nextH;rw [if_pos (by omega)];(first|rw [wrap64 (x:=h+t) (by omega) (by omega)]|rw [wrap64 (x:=h+4) (by omega) (by omega)]);rw [wrap64 (by omega) (by omega)];try (congr 2;omega))|(unfold nextH;rw [if_neg (by omega)])
def sNextHeading_con:Con:={ ι:=Int×Int,pre:=fun i=>True,args:=fun i=>[.one (.im (.int .i64 i.1)),.one (.im (.int .i64 i.2))],res:=fun i=>⟨false,[none],[.im (Value.int .i64 (nextH i.1 i.2))]⟩ }
set_option maxRecDepth 100000 in
theorem sNextHeading_ok:sNextHeading_con.Ok Tryz.prog 35:=by
 refine fn_ok (X:=⟨tt,[(66,l01In_con)],[],21⟩) mixed tt_ok (CTok.cons l01In_ok (CTok.nil _)) Tryz.func35 (by decide) rfl rfl rfl (fun _=>Nat.le_of_ble_eq_true rfl) (fun _=>Nat.le_of_ble_eq_true rfl) (fun _=>[]) ?_
 rintro ⟨h,t⟩ hpre
 have hpre:True:=hpre
 refine by_nf (q:=∃ i1:Int×Int×Int,[DA.one (cI h),DA.one (cI (0:Int)),DA.one (cI (3:Int))]=l01In_con.args i1∧l01In_con.pre i1∧(((!(!(decide (i1.1≥i1.2.1) && decide (i1.1≤i1.2.2))))=true→(((t != (1:Int))=true→(((t != (-1:Int))=true→((Value.int .i64 (-1:Int)=Value.int .i64 (nextH h t))))∧((t != (-1:Int))=false→(((4:Int)≠0)∧((Value.int .i64 (Int.tmod (IntKind.i64.wrap ((IntKind.i64.wrap (h+(4:Int)))+t)) (4:Int))=Value.int .i64 (nextH h t)))))))∧((t != (1:Int))=false→(((4:Int)≠0)∧((Value.int .i64 (Int.tmod (IntKind.i64.wrap ((IntKind.i64.wrap (h+(4:Int)))+t)) (4:Int))=Value.int .i64 (nextH h t)))))))∧((!(!(decide (i1.1≥i1.2.1) && decide (i1.1≤i1.2.2))))=false→((Value.int .i64 (-1:Int)=Value.int .i64 (nextH h t)))))) (by kernel_rfl) ?_
 refine ⟨(h,(0:Int),(3:Int)),by
  rfl,by
  first|trivial|(first|omega|assumption|exact hpre.1|exact hpre.2|(simp;done)),?_⟩
 refine ⟨fun c4=>?_,fun c4=>?_⟩
 ·skip
  replace c4:(!(!(decide (h≥(0:Int)) && decide (h≤(3:Int)))))=true:=c4
  try simp only [nrm] at c4
  refine ⟨fun c5=>?_,fun c5=>?_⟩
  ·skip
   try simp only [nrm] at c5
   refine ⟨fun c6=>?_,fun c6=>?_⟩
   ·skip
    try simp only [nrm] at c6
    first|(unfold nextH;rw [if_pos (by omega)];(first|rw [wrap64 (x:=h+t) (by omega) (by omega)]|rw [wrap64 (x:=h+4) (by omega) (by omega)]);rw [wrap64 (by omega) (by omega)];try (congr 2;omega))|(unfold nextH;rw [if_neg (by omega)])
   ·skip
    try simp only [nrm] at c6
    have o8:(4:Int)≠0:=by
     first|rfl|omega|(simp;done)|(simp;omega)
    refine ⟨o8,?_⟩
    first|(unfold nextH;rw [if_pos (by omega)];(first|rw [wrap64 (x:=h+t) (by omega) (by omega)]|rw [wrap64 (x:=h+4) (by omega) (by omega)]);rw [wrap64 (by omega) (by omega)];try (congr 2;omega))|(unfold nextH;rw [if_neg (by omega)])
  ·skip
   try simp only [nrm] at c5
   have o10:(4:Int)≠0:=by
    first|rfl|omega|(simp;done)|(simp;omega)
   refine ⟨o10,?_⟩
   first|(unfold nextH;rw [if_pos (by omega)];(first|rw [wrap64 (x:=h+t) (by omega) (by omega)]|rw [wrap64 (x:=h+4) (by omega) (by omega)]);rw [wrap64 (by omega) (by omega)];try (congr 2;omega))|(unfold nextH;rw [if_neg (by omega)])
 ·skip
  replace c4:(!(!(decide (h≥(0:Int)) && decide (h≤(3:Int)))))=false:=c4
  try simp only [nrm] at c4
  first|(unfold nextH;rw [if_pos (by omega)];(first|rw [wrap64 (x:=h+t) (by omega) (by omega)]|rw [wrap64 (x:=h+4) (by omega) (by omega)]);rw [wrap64 (by omega) (by omega)];try (congr 2;omega))|(unfold nextH;rw [if_neg (by omega)])
def iTurnsB_con:Con:={ ι:=Int×Int,pre:=fun i=>True,args:=fun i=>[.one (.im (.int .i64 i.1)),.one (.im (.int .i64 i.2))],res:=fun i=>⟨false,[none],[.own 3 [.int] (tbR i.1 i.2)]⟩ }
set_option maxRecDepth 100000 in
theorem iTurnsB_ok:iTurnsB_con.Ok Tryz.prog 41:=by
 refine fn_ok (X:=⟨tt,[(40,isHeading_con),(71,cloneInts_con)],[],26⟩) mixed tt_ok (CTok.cons isHeading_ok (CTok.cons cloneInts_ok (CTok.nil _))) Tryz.func41 (by decide) rfl rfl rfl (fun _=>Nat.le_of_ble_eq_true rfl) (fun _=>Nat.le_of_ble_eq_true rfl) (fun _=>[]) ?_
 rintro ⟨g,h⟩ hpre
 have hpre:True:=hpre
 refine by_nf (q:=∃ i1:Int,[DA.one (cI g)]=isHeading_con.args i1∧isHeading_con.pre i1∧(((!(!(decide (i1≥0) && decide (i1≤3))))=true→(∃ i2:Int,[DA.one (cI h)]=isHeading_con.args i2∧isHeading_con.pre i2∧(((!(decide (i2≥0) && decide (i2≤3)))=true→((([]:List (List Dat))=tbR g h)))∧((!(decide (i2≥0) && decide (i2≤3)))=false→(((4:Int)≠0)∧((0≤(Int.tmod (IntKind.i64.wrap ((IntKind.i64.wrap (h - g))+(4:Int))) (4:Int))∧(Int.tmod (IntKind.i64.wrap ((IntKind.i64.wrap (h - g))+(4:Int))) (4:Int)) < (([[Dat.sl ([]:List (List Dat))],[Dat.sl ([[Dat.int (1:Int)]]:List (List Dat))],[Dat.sl ([[Dat.int (1:Int)],[Dat.int (1:Int)]]:List (List Dat))],[Dat.sl ([[Dat.int (-1:Int)]]:List (List Dat))]]:List (List Dat)).length:Int))∧(((Int.tmod (IntKind.i64.wrap ((IntKind.i64.wrap (h - g))+(4:Int))) (4:Int)).toNat < ([[Dat.sl ([]:List (List Dat))],[Dat.sl ([[Dat.int (1:Int)]]:List (List Dat))],[Dat.sl ([[Dat.int (1:Int)],[Dat.int (1:Int)]]:List (List Dat))],[Dat.sl ([[Dat.int (-1:Int)]]:List (List Dat))]]:List (List Dat)).length)∧(∃ i3:(List (List Dat)),[DA.one (cS ((((([[Dat.sl ([]:List (List Dat))],[Dat.sl ([[Dat.int (1:Int)]]:List (List Dat))],[Dat.sl ([[Dat.int (1:Int)],[Dat.int (1:Int)]]:List (List Dat))],[Dat.sl ([[Dat.int (-1:Int)]]:List (List Dat))]]:List (List Dat)).getD ((Int.tmod (IntKind.i64.wrap ((IntKind.i64.wrap (h - g))+(4:Int))) (4:Int)).toNat) []).getD 0 (.int 0))).r))]=cloneInts_con.args i3∧cloneInts_con.pre i3∧((i3=tbR g h))))))))))∧((!(!(decide (i1≥0) && decide (i1≤3))))=false→((([]:List (List Dat))=tbR g h))))) (by kernel_rfl) ?_
 refine ⟨g,by
  rfl,by
  first|trivial|(first|omega|assumption|exact hpre.1|exact hpre.2|(simp;done)),?_⟩
 refine ⟨fun c4=>?_,fun c4=>?_⟩
 ·skip
  try simp only [nrm] at c4
  refine ⟨h,by
   rfl,by
   first|trivial|(first|omega|assumption|exact hpre.1|exact hpre.2|(simp;done)),?_⟩
  refine ⟨fun c8=>?_,fun c8=>?_⟩
  ·skip
   try simp only [nrm] at c8
   exact (tbR_no (by omega)).symm
  ·skip
   try simp only [nrm] at c8
   obtain ⟨r,hr,q1,q2,q3,q4,q5⟩:=tb_cases (g:=g) (h:=h) (by omega)
   have q6:r=0∨r=1∨r=2∨r=3:=by omega
   have e:Int.tmod (IntKind.i64.wrap (IntKind.i64.wrap (h - g)+4)) 4=(r:Int):=by rw [q3,q1]
   have o10:(4:Int)≠0:=by
    first|rfl|omega|(simp;done)|(simp;omega)
   refine ⟨o10,?_⟩
   have o11:0≤(Int.tmod (IntKind.i64.wrap ((IntKind.i64.wrap (h - g))+(4:Int))) (4:Int))∧(Int.tmod (IntKind.i64.wrap ((IntKind.i64.wrap (h - g))+(4:Int))) (4:Int)) < (([[Dat.sl ([]:List (List Dat))],[Dat.sl ([[Dat.int (1:Int)]]:List (List Dat))],[Dat.sl ([[Dat.int (1:Int)],[Dat.int (1:Int)]]:List (List Dat))],[Dat.sl ([[Dat.int (-1:Int)]]:List (List Dat))]]:List (List Dat)).length:Int):=by
    rw [e];exact ⟨by omega,show (r:Int) < ((4:Nat):Int) by omega⟩
   refine ⟨o11,?_⟩
   have o12:(Int.tmod (IntKind.i64.wrap ((IntKind.i64.wrap (h - g))+(4:Int))) (4:Int)).toNat < ([[Dat.sl ([]:List (List Dat))],[Dat.sl ([[Dat.int (1:Int)]]:List (List Dat))],[Dat.sl ([[Dat.int (1:Int)],[Dat.int (1:Int)]]:List (List Dat))],[Dat.sl ([[Dat.int (-1:Int)]]:List (List Dat))]]:List (List Dat)).length:=by
    rw [e,Int.toNat_natCast];exact hr
   refine ⟨o12,?_⟩
   refine ⟨(((([[Dat.sl ([]:List (List Dat))],[Dat.sl ([[Dat.int (1:Int)]]:List (List Dat))],[Dat.sl ([[Dat.int (1:Int)],[Dat.int (1:Int)]]:List (List Dat))],[Dat.sl ([[Dat.int (-1:Int)]]:List (List Dat))]]:List (List Dat)).getD ((Int.tmod (IntKind.i64.wrap ((IntKind.i64.wrap (h - g))+(4:Int))) (4:Int)).toNat) []).getD 0 (.int 0))).r,by
    rfl,by
    show ((((([[Dat.sl ([]:List (List Dat))],[Dat.sl ([[Dat.int (1:Int)]]:List (List Dat))],[Dat.sl ([[Dat.int (1:Int)],[Dat.int (1:Int)]]:List (List Dat))],[Dat.sl ([[Dat.int (-1:Int)]]:List (List Dat))]]:List (List Dat)).getD ((Int.tmod (IntKind.i64.wrap ((IntKind.i64.wrap (h - g))+(4:Int))) (4:Int)).toNat) []).getD 0 (.int 0))).r).length≤1073741824
    rw [e,Int.toNat_natCast];rcases q6 with rfl|rfl|rfl|rfl <;> decide,?_⟩
   show ((((([[Dat.sl ([]:List (List Dat))],[Dat.sl ([[Dat.int (1:Int)]]:List (List Dat))],[Dat.sl ([[Dat.int (1:Int)],[Dat.int (1:Int)]]:List (List Dat))],[Dat.sl ([[Dat.int (-1:Int)]]:List (List Dat))]]:List (List Dat)).getD ((Int.tmod (IntKind.i64.wrap ((IntKind.i64.wrap (h - g))+(4:Int))) (4:Int)).toNat) []).getD 0 (.int 0))).r)=tbR g h
   rw [e,Int.toNat_natCast,q5];rcases q6 with rfl|rfl|rfl|rfl <;> rfl
 ·skip
  try simp only [nrm] at c4
  exact (tbR_no (by omega)).symm
def sTurnsB_con:Con:={ ι:=Int×Int,pre:=fun i=>True,args:=fun i=>[.one (.im (.int .i64 i.1)),.one (.im (.int .i64 i.2))],res:=fun i=>⟨false,[none],[.own 3 [.int] (tbR i.1 i.2)]⟩ }
set_option maxRecDepth 100000 in
theorem sTurnsB_ok:sTurnsB_con.Ok Tryz.prog 34:=by
 refine fn_ok (X:=⟨tt,[(66,l01In_con)],[],28⟩) mixed tt_ok (CTok.cons l01In_ok (CTok.nil _)) Tryz.func34 (by decide) rfl rfl rfl (fun _=>Nat.le_of_ble_eq_true rfl) (fun _=>Nat.le_of_ble_eq_true rfl) (fun _=>[]) ?_
 rintro ⟨g,h⟩ hpre
 have hpre:True:=hpre
 refine by_nf (q:=∃ i1:Int×Int×Int,[DA.one (cI g),DA.one (cI (0:Int)),DA.one (cI (3:Int))]=l01In_con.args i1∧l01In_con.pre i1∧(((!(!(decide (i1.1≥i1.2.1) && decide (i1.1≤i1.2.2))))=true→(∃ i2:Int×Int×Int,[DA.one (cI h),DA.one (cI (0:Int)),DA.one (cI (3:Int))]=l01In_con.args i2∧l01In_con.pre i2∧(((!(decide (i2.1≥i2.2.1) && decide (i2.1≤i2.2.2)))=true→((([]:List (List Dat))=tbR g h)))∧((!(decide (i2.1≥i2.2.1) && decide (i2.1≤i2.2.2)))=false→(((4:Int)≠0)∧((((Int.tmod (IntKind.i64.wrap ((IntKind.i64.wrap (h+(4:Int))) - g)) (4:Int)) == (1:Int))=true→((([[Dat.int (1:Int)]]:List (List Dat))=tbR g h)))∧(((Int.tmod (IntKind.i64.wrap ((IntKind.i64.wrap (h+(4:Int))) - g)) (4:Int)) == (1:Int))=false→((((Int.tmod (IntKind.i64.wrap ((IntKind.i64.wrap (h+(4:Int))) - g)) (4:Int)) == (2:Int))=true→((([[Dat.int (1:Int)],[Dat.int (1:Int)]]:List (List Dat))=tbR g h)))∧(((Int.tmod (IntKind.i64.wrap ((IntKind.i64.wrap (h+(4:Int))) - g)) (4:Int)) == (2:Int))=false→((((Int.tmod (IntKind.i64.wrap ((IntKind.i64.wrap (h+(4:Int))) - g)) (4:Int)) == (3:Int))=true→((([[Dat.int (-1:Int)]]:List (List Dat))=tbR g h)))∧(((Int.tmod (IntKind.i64.wrap ((IntKind.i64.wrap (h+(4:Int))) - g)) (4:Int)) == (3:Int))=false→((([]:List (List Dat))=tbR g h)))))))))))))∧((!(!(decide (i1.1≥i1.2.1) && decide (i1.1≤i1.2.2))))=false→((([]:List (List Dat))=tbR g h))))) (by kernel_rfl) ?_
 refine ⟨(g,(0:Int),(3:Int)),by
  rfl,by
  first|trivial|(first|omega|assumption|exact hpre.1|exact hpre.2|(simp;done)),?_⟩
 refine ⟨fun c4=>?_,fun c4=>?_⟩
 ·skip
  replace c4:(!(!(decide (g≥(0:Int)) && decide (g≤(3:Int)))))=true:=c4
  try simp only [nrm] at c4
  refine ⟨(h,(0:Int),(3:Int)),by
   rfl,by
   first|trivial|(first|omega|assumption|exact hpre.1|exact hpre.2|(simp;done)),?_⟩
  refine ⟨fun c8=>?_,fun c8=>?_⟩
  ·skip
   replace c8:(!(decide (h≥(0:Int)) && decide (h≤(3:Int))))=true:=c8
   try simp only [nrm] at c8
   show ([]:List (List Dat))=tbR g h
   first|exact (tbR_no (by omega)).symm|(rw [q5,show r=1 by omega];rfl)|(rw [q5,show r=2 by omega];rfl)|(rw [q5,show r=3 by omega];rfl)|(rw [q5,show r=0 by omega];rfl)
  ·skip
   replace c8:(!(decide (h≥(0:Int)) && decide (h≤(3:Int))))=false:=c8
   try simp only [nrm] at c8
   obtain ⟨r,hr,q1,q2,q3,q4,q5⟩:=tb_cases (g:=g) (h:=h) (by omega)
   have q6:r=0∨r=1∨r=2∨r=3:=by omega
   have e:Int.tmod (IntKind.i64.wrap (IntKind.i64.wrap (h+4) - g)) 4=(r:Int):=by rw [q4,q2]
   have o10:(4:Int)≠0:=by
    first|rfl|omega|(simp;done)|(simp;omega)
   refine ⟨o10,?_⟩
   refine ⟨fun c11=>?_,fun c11=>?_⟩
   ·skip
    try simp only [nrm] at c11
    show ([[Dat.int (1:Int)]]:List (List Dat))=tbR g h
    first|exact (tbR_no (by omega)).symm|(rw [q5,show r=1 by omega];rfl)|(rw [q5,show r=2 by omega];rfl)|(rw [q5,show r=3 by omega];rfl)|(rw [q5,show r=0 by omega];rfl)
   ·skip
    try simp only [nrm] at c11
    refine ⟨fun c13=>?_,fun c13=>?_⟩
    ·skip
     try simp only [nrm] at c13
     show ([[Dat.int (1:Int)],[Dat.int (1:Int)]]:List (List Dat))=tbR g h
     first|exact (tbR_no (by omega)).symm|(rw [q5,show r=1 by omega];rfl)|(rw [q5,show r=2 by omega];rfl)|(rw [q5,show r=3 by omega];rfl)|(rw [q5,show r=0 by omega];rfl)
    ·skip
     try simp only [nrm] at c13
     refine ⟨fun c15=>?_,fun c15=>?_⟩
     ·skip
      try simp only [nrm] at c15
      show ([[Dat.int (-1:Int)]]:List (List Dat))=tbR g h
      first|exact (tbR_no (by omega)).symm|(rw [q5,show r=1 by omega];rfl)|(rw [q5,show r=2 by omega];rfl)|(rw [q5,show r=3 by omega];rfl)|(rw [q5,show r=0 by omega];rfl)
     ·skip
      try simp only [nrm] at c15
      show ([]:List (List Dat))=tbR g h
      first|exact (tbR_no (by omega)).symm|(rw [q5,show r=1 by omega];rfl)|(rw [q5,show r=2 by omega];rfl)|(rw [q5,show r=3 by omega];rfl)|(rw [q5,show r=0 by omega];rfl)
 ·skip
  replace c4:(!(!(decide (g≥(0:Int)) && decide (g≤(3:Int)))))=false:=c4
  try simp only [nrm] at c4
  show ([]:List (List Dat))=tbR g h
  first|exact (tbR_no (by omega)).symm|(rw [q5,show r=1 by omega];rfl)|(rw [q5,show r=2 by omega];rfl)|(rw [q5,show r=3 by omega];rfl)|(rw [q5,show r=0 by omega];rfl)
def iTurnSteps_con:Con:={ ι:=Scn×Int×Int×Int,pre:=fun i=>scnSz i.1,args:=fun i=>[.agg [.im (.int .i64 i.1.low.1),.im (.int .i64 i.1.low.2),.im (.int .i64 i.1.high.1),.im (.int .i64 i.1.high.2),.sl 31 [.int,.int] (vecsD i.1.robot),.sl 32 [.sl 31 [.int,.int]] (areasD i.1.obst),.sl 31 [.int,.int] (vecsD i.1.tables)],.one (.im (.int .i64 i.2.1)),.one (.im (.int .i64 i.2.2.1)),.one (.im (.int .i64 i.2.2.2))],res:=fun i=>⟨false,[none],[.own 3 [.int] (tsR i.1 i.2.1 i.2.2.1 i.2.2.2)]⟩ }
set_option maxRecDepth 100000 in
theorem iTurnSteps_ok:iTurnSteps_con.Ok Tryz.prog 9:=by
 refine fn_ok (X:=⟨tt,[(39,iOpen_con),(38,hasInt_con),(40,isHeading_con),(41,iTurnsB_con),(42,iNextHeading_con)],[],45⟩) mixed tt_ok (CTok.cons iOpen_ok (CTok.cons hasInt_ok (CTok.cons isHeading_ok (CTok.cons iTurnsB_ok (CTok.cons iNextHeading_ok (CTok.nil _)))))) Tryz.func9 (by decide) rfl rfl rfl (fun _=>Nat.le_of_ble_eq_true rfl) (fun _=>Nat.le_of_ble_eq_true rfl) (fun (i:Scn×Int×Int×Int)=>[(5,.mk 7 (Nat) (fun x1=>{ tm:=[(4,.one (.one (.bp 1 0))),(30,.one (.one (.ext 5))),(31,.one (.one (.im (Value.int .i64 (((tbR i.2.2.1 i.2.2.2).length:Nat):Int))))),(32,.one (.one (.im (Value.int .i64 ((x1:Nat):Int))))),(2,.one (.one (.im (Value.int .i64 (hdT i.2.2.1 i.2.2.2 x1))))),(9,.one (.one (.ext 6)))],en:=[(1,.box [.im (Value.int .i64 i.1.low.1),.im (Value.int .i64 i.1.low.2),.im (Value.int .i64 i.1.high.1),.im (Value.int .i64 i.1.high.2),.ext 2,.ext 3,.ext 4]),(2,.view 31 [.int,.int] (vecsD i.1.robot) []),(3,.view 32 [.sl 31 [.int,.int]] (areasD i.1.obst) []),(4,.view 31 [.int,.int] (vecsD i.1.tables) []),(5,.own 3 [.int] (tbR i.2.2.1 i.2.2.2)),(6,.own 3 [.int] (tsT i.2.2.1 i.2.2.2 x1))] }) (fun x1=>x1≤(tbR i.2.2.1 i.2.2.2).length) (fun x1=>(tbR i.2.2.1 i.2.2.2).length - x1) (fun _=>[]))]) ?_
 rintro ⟨s,k,g,h⟩ hpre
 have hpre:scnSz s:=hpre
 refine by_nf (q:=∃ i1:Scn,[DA.agg [cI s.low.1,cI s.low.2,cI s.high.1,cI s.high.2,DC.sl 31 [.int,.int] (vecsD s.robot),DC.sl 32 [.sl 31 [.int,.int]] (areasD s.obst),DC.sl 31 [.int,.int] (vecsD s.tables)]]=iOpen_con.args i1∧iOpen_con.pre i1∧(∃ i2:(List (List Dat))×Int,[DA.one (cS (openR i1)),DA.one (cI k)]=hasInt_con.args i2∧hasInt_con.pre i2∧(((!(!(hasI i2.1 i2.2)))=true→(∃ i3:Int,[DA.one (cI g)]=isHeading_con.args i3∧isHeading_con.pre i3∧(((!(!(decide (i3≥0) && decide (i3≤3))))=true→(∃ i4:Int,[DA.one (cI h)]=isHeading_con.args i4∧isHeading_con.pre i4∧(((!(decide (i4≥0) && decide (i4≤3)))=true→((([]:List (List Dat))=tsR s k g h)))∧((!(decide (i4≥0) && decide (i4≤3)))=false→(∃ i5:Int×Int,[DA.one (cI g),DA.one (cI h)]=iTurnsB_con.args i5∧iTurnsB_con.pre i5∧((∃ x1:Nat,(x1≤(tbR g h).length)∧((Value.int .i64 (((tbR i5.1 i5.2).length:Nat):Int)=Value.int .i64 (((tbR g h).length:Nat):Int))∧(Value.int .i64 (0:Int)=Value.int .i64 ((x1:Nat):Int))∧(Value.int .i64 g=Value.int .i64 (hdT g h x1))∧(rf (Value.int .i64 s.low.1))∧(rf (Value.int .i64 s.low.2))∧(rf (Value.int .i64 s.high.1))∧(rf (Value.int .i64 s.high.2))∧(rf (vecsD s.robot))∧(rf (areasD s.obst))∧(rf (vecsD s.tables))∧(tbR i5.1 i5.2=(tbR g h))∧(([]:List (List Dat))=(tsT g h x1))))∧∀ x1:Nat,(x1≤(tbR g h).length)→(((decide (((x1:Nat):Int) < (((tbR g h).length:Nat):Int)))=true→((0≤((x1:Nat):Int)∧((x1:Nat):Int) < ((tbR g h).length:Int))∧((x1 < (tbR g h).length)∧(∃ i6:Int×Int,[DA.one (cI (hdT g h x1)),DA.one (cI (((((tbR g h).getD x1 []).getD 0 (.int 0))).n))]=iNextHeading_con.args i6∧iNextHeading_con.pre i6∧(((tsT g h x1).length+([[Dat.int (nextH i6.1 i6.2)]]:List (List Dat)).length≤1073741824)∧(∃ y2:Nat,(y2≤(tbR g h).length)∧((tbR g h).length - y2 < (tbR g h).length - x1)∧((rf (Value.int .i64 (((tbR g h).length:Nat):Int)))∧(Value.int .i64 (IntKind.i64.wrap (((x1:Nat):Int)+(1:Int)))=Value.int .i64 ((y2:Nat):Int))∧(Value.int .i64 (nextH i6.1 i6.2)=Value.int .i64 (hdT g h y2))∧(rf (Value.int .i64 s.low.1))∧(rf (Value.int .i64 s.low.2))∧(rf (Value.int .i64 s.high.1))∧(rf (Value.int .i64 s.high.2))∧(rf (vecsD s.robot))∧(rf (areasD s.obst))∧(rf (vecsD s.tables))∧(rf (tbR g h))∧(((tsT g h x1)++([[Dat.int (nextH i6.1 i6.2)]]:List (List Dat)))=(tsT g h y2)))))))))∧((decide (((x1:Nat):Int) < (((tbR g h).length:Nat):Int)))=false→(((tsT g h x1)=tsR s k g h))))))))))∧((!(!(decide (i3≥0) && decide (i3≤3))))=false→((([]:List (List Dat))=tsR s k g h))))))∧((!(!(hasI i2.1 i2.2)))=false→((([]:List (List Dat))=tsR s k g h)))))) (by kernel_rfl) ?_
 have hz:=hpre
 have hol:=openR_len hz
 have htl:=tbR_len g h
 have hsl:=tsT_len g h
 refine ⟨s,by
  rfl,by
  show scnSz s
  first|trivial|exact hpre|omega,?_⟩
 refine ⟨(openR s,k),by
  rfl,by
  show (openR s).length≤1073741824
  first|trivial|exact hpre|omega,?_⟩
 refine ⟨fun c7=>?_,fun c7=>?_⟩
 ·skip
  replace c7:(!(!(hasI (openR s) k)))=true:=c7
  try simp only [nrm] at c7
  refine ⟨g,by
   rfl,by
   first|trivial|exact hpre|omega,?_⟩
  refine ⟨fun c11=>?_,fun c11=>?_⟩
  ·skip
   try simp only [nrm] at c11
   refine ⟨h,by
    rfl,by
    first|trivial|exact hpre|omega,?_⟩
   refine ⟨fun c15=>?_,fun c15=>?_⟩
   ·skip
    try simp only [nrm] at c15
    show ([]:List (List Dat))=tsR s k g h
    exact (tsR_bad (by omega)).symm
   ·skip
    try simp only [nrm] at c15
    refine ⟨(g,h),by
     rfl,by
     first|trivial|exact hpre|omega,?_⟩
    refine ⟨⟨0,by
     first|trivial|omega|(simp;omega),?_⟩,?_⟩
    ·skip
     refine ⟨rfl,?_,?_,rfl,rfl,rfl,rfl,rfl,rfl,rfl,rfl,?_⟩
     ·show Value.int .i64 (0:Int)=Value.int .i64 ((0:Nat):Int)
      first|rfl|(simp;done)
     ·show Value.int .i64 g=Value.int .i64 (hdT g h 0)
      first|rfl|(simp;done)
     show ([]:List (List Dat))=(tsT g h 0)
     first|rfl|(simp;done)
    intro (j:Nat) hki20
    have hki20:j≤(tbR g h).length:=hki20
    refine ⟨fun c34=>?_,fun c34=>?_⟩
    ·skip
     try simp only [nrm] at c34
     have o35:0≤((j:Nat):Int)∧((j:Nat):Int) < ((tbR g h).length:Int):=by
      first|omega|(rw [tsT_len];simp only [List.length_cons,List.length_nil];omega)
     refine ⟨o35,?_⟩
     have o36:j < (tbR g h).length:=by
      first|omega|(rw [tsT_len];simp only [List.length_cons,List.length_nil];omega)
     refine ⟨o36,?_⟩
     refine ⟨((hdT g h j),((((tbR g h).getD j []).getD 0 (.int 0))).n),by
      rfl,by
      first|trivial|exact hpre|omega,?_⟩
     have o40:(tsT g h j).length+([[Dat.int (nextH (hdT g h j) (((((tbR g h).getD j []).getD 0 (.int 0))).n))]]:List (List Dat)).length≤1073741824:=by
      first|omega|(rw [tsT_len];simp only [List.length_cons,List.length_nil];omega)
     refine ⟨o40,?_⟩
     refine ⟨j+1,by
      first|trivial|omega|(simp;omega),by
      first|omega|(simp;omega),?_⟩
     refine ⟨rfl,?_,?_,rfl,rfl,rfl,rfl,rfl,rfl,rfl,rfl,?_⟩
     ·first|rfl|exact vint (wrap64 (by omega) (by omega))
     ·show Value.int .i64 (nextH (hdT g h j) (((((tbR g h).getD j []).getD 0 (.int 0))).n))=Value.int .i64 (hdT g h (j+1))
      first|rfl|exact vint (wrap64 (by omega) (by omega))
     show ((tsT g h j)++([[Dat.int (nextH (hdT g h j) (((((tbR g h).getD j []).getD 0 (.int 0))).n))]]:List (List Dat)))=(tsT g h (j+1))
     first|rfl|exact vint (wrap64 (by omega) (by omega))
    ·skip
     try simp only [nrm] at c34
     show (tsT g h j)=tsR s k g h
     rw [tsR_yes c7,show j=(tbR g h).length by omega]
  ·skip
   try simp only [nrm] at c11
   show ([]:List (List Dat))=tsR s k g h
   exact (tsR_bad (by omega)).symm
 ·skip
  replace c7:(!(!(hasI (openR s) k)))=false:=c7
  try simp only [nrm] at c7
  show ([]:List (List Dat))=tsR s k g h
  exact (tsR_no c7).symm
def sTurnSteps_con:Con:={ ι:=Scn×Int×Int×Int,pre:=fun i=>scnSz i.1,args:=fun i=>[.agg [.im (.int .i64 i.1.low.1),.im (.int .i64 i.1.low.2),.im (.int .i64 i.1.high.1),.im (.int .i64 i.1.high.2),.sl 31 [.int,.int] (vecsD i.1.robot),.sl 32 [.sl 31 [.int,.int]] (areasD i.1.obst),.sl 31 [.int,.int] (vecsD i.1.tables)],.one (.im (.int .i64 i.2.1)),.one (.im (.int .i64 i.2.2.1)),.one (.im (.int .i64 i.2.2.2))],res:=fun i=>⟨false,[none],[.own 3 [.int] (tsR i.1 i.2.1 i.2.2.1 i.2.2.2)]⟩ }
set_option maxRecDepth 100000 in
theorem sTurnSteps_ok:sTurnSteps_con.Ok Tryz.prog 7:=by
 refine fn_ok (X:=⟨tt,[(33,sOpen_con),(32,sHasInt_con),(34,sTurnsB_con),(35,sNextHeading_con)],[],35⟩) mixed tt_ok (CTok.cons sOpen_ok (CTok.cons sHasInt_ok (CTok.cons sTurnsB_ok (CTok.cons sNextHeading_ok (CTok.nil _))))) Tryz.func7 (by decide) rfl rfl rfl (fun _=>Nat.le_of_ble_eq_true rfl) (fun _=>Nat.le_of_ble_eq_true rfl) (fun (i:Scn×Int×Int×Int)=>[(5,.mk 7 (Nat) (fun x1=>{ tm:=[(4,.one (.one (.bp 1 0))),(20,.one (.one (.ext 5))),(21,.one (.one (.im (Value.int .i64 (((tbR i.2.2.1 i.2.2.2).length:Nat):Int))))),(22,.one (.one (.im (Value.int .i64 ((x1:Nat):Int))))),(2,.one (.one (.im (Value.int .i64 (hdT i.2.2.1 i.2.2.2 x1))))),(9,.one (.one (.ext 6)))],en:=[(1,.box [.im (Value.int .i64 i.1.low.1),.im (Value.int .i64 i.1.low.2),.im (Value.int .i64 i.1.high.1),.im (Value.int .i64 i.1.high.2),.ext 2,.ext 3,.ext 4]),(2,.view 31 [.int,.int] (vecsD i.1.robot) []),(3,.view 32 [.sl 31 [.int,.int]] (areasD i.1.obst) []),(4,.view 31 [.int,.int] (vecsD i.1.tables) []),(5,.own 3 [.int] (tbR i.2.2.1 i.2.2.2)),(6,.own 3 [.int] (tsT i.2.2.1 i.2.2.2 x1))] }) (fun x1=>x1≤(tbR i.2.2.1 i.2.2.2).length) (fun x1=>(tbR i.2.2.1 i.2.2.2).length - x1) (fun _=>[]))]) ?_
 rintro ⟨s,k,g,h⟩ hpre
 have hpre:scnSz s:=hpre
 refine by_nf (q:=∃ i1:Scn,[DA.agg [cI s.low.1,cI s.low.2,cI s.high.1,cI s.high.2,DC.sl 31 [.int,.int] (vecsD s.robot),DC.sl 32 [.sl 31 [.int,.int]] (areasD s.obst),DC.sl 31 [.int,.int] (vecsD s.tables)]]=sOpen_con.args i1∧sOpen_con.pre i1∧(∃ i2:(List (List Dat))×Int,[DA.one (cS (openR i1)),DA.one (cI k)]=sHasInt_con.args i2∧sHasInt_con.pre i2∧(((!(hasI i2.1 i2.2))=true→((([]:List (List Dat))=tsR s k g h)))∧((!(hasI i2.1 i2.2))=false→(∃ i3:Int×Int,[DA.one (cI g),DA.one (cI h)]=sTurnsB_con.args i3∧sTurnsB_con.pre i3∧((∃ x1:Nat,(x1≤(tbR g h).length)∧((Value.int .i64 (((tbR i3.1 i3.2).length:Nat):Int)=Value.int .i64 (((tbR g h).length:Nat):Int))∧(Value.int .i64 (0:Int)=Value.int .i64 ((x1:Nat):Int))∧(Value.int .i64 g=Value.int .i64 (hdT g h x1))∧(rf (Value.int .i64 s.low.1))∧(rf (Value.int .i64 s.low.2))∧(rf (Value.int .i64 s.high.1))∧(rf (Value.int .i64 s.high.2))∧(rf (vecsD s.robot))∧(rf (areasD s.obst))∧(rf (vecsD s.tables))∧(tbR i3.1 i3.2=(tbR g h))∧(([]:List (List Dat))=(tsT g h x1))))∧∀ x1:Nat,(x1≤(tbR g h).length)→(((decide (((x1:Nat):Int) < (((tbR g h).length:Nat):Int)))=true→((0≤((x1:Nat):Int)∧((x1:Nat):Int) < ((tbR g h).length:Int))∧((x1 < (tbR g h).length)∧(∃ i4:Int×Int,[DA.one (cI (hdT g h x1)),DA.one (cI (((((tbR g h).getD x1 []).getD 0 (.int 0))).n))]=sNextHeading_con.args i4∧sNextHeading_con.pre i4∧(((tsT g h x1).length+([[Dat.int (nextH i4.1 i4.2)]]:List (List Dat)).length≤1073741824)∧(∃ y2:Nat,(y2≤(tbR g h).length)∧((tbR g h).length - y2 < (tbR g h).length - x1)∧((rf (Value.int .i64 (((tbR g h).length:Nat):Int)))∧(Value.int .i64 (IntKind.i64.wrap (((x1:Nat):Int)+(1:Int)))=Value.int .i64 ((y2:Nat):Int))∧(Value.int .i64 (nextH i4.1 i4.2)=Value.int .i64 (hdT g h y2))∧(rf (Value.int .i64 s.low.1))∧(rf (Value.int .i64 s.low.2))∧(rf (Value.int .i64 s.high.1))∧(rf (Value.int .i64 s.high.2))∧(rf (vecsD s.robot))∧(rf (areasD s.obst))∧(rf (vecsD s.tables))∧(rf (tbR g h))∧(((tsT g h x1)++([[Dat.int (nextH i4.1 i4.2)]]:List (List Dat)))=(tsT g h y2)))))))))∧((decide (((x1:Nat):Int) < (((tbR g h).length:Nat):Int)))=false→(((tsT g h x1)=tsR s k g h)))))))))) (by kernel_rfl) ?_
 have hz:=hpre
 have hol:=openR_len hz
 have htl:=tbR_len g h
 have hsl:=tsT_len g h
 refine ⟨s,by
  rfl,by
  show scnSz s
  first|trivial|exact hpre|omega,?_⟩
 refine ⟨(openR s,k),by
  rfl,by
  show (openR s).length≤1073741824
  first|trivial|exact hpre|omega,?_⟩
 refine ⟨fun c7=>?_,fun c7=>?_⟩
 ·skip
  replace c7:(!(hasI (openR s) k))=true:=c7
  try simp only [nrm] at c7
  show ([]:List (List Dat))=tsR s k g h
  exact (tsR_no c7).symm
 ·skip
  replace c7:(!(hasI (openR s) k))=false:=c7
  try simp only [nrm] at c7
  refine ⟨(g,h),by
   rfl,by
   first|trivial|exact hpre|omega,?_⟩
  refine ⟨⟨0,by
   first|trivial|omega|(simp;omega),?_⟩,?_⟩
  ·skip
   refine ⟨rfl,?_,?_,rfl,rfl,rfl,rfl,rfl,rfl,rfl,rfl,?_⟩
   ·show Value.int .i64 (0:Int)=Value.int .i64 ((0:Nat):Int)
    first|rfl|(simp;done)
   ·show Value.int .i64 g=Value.int .i64 (hdT g h 0)
    first|rfl|(simp;done)
   show ([]:List (List Dat))=(tsT g h 0)
   first|rfl|(simp;done)
  intro (j:Nat) hki12
  have hki12:j≤(tbR g h).length:=hki12
  refine ⟨fun c26=>?_,fun c26=>?_⟩
  ·skip
   try simp only [nrm] at c26
   have o27:0≤((j:Nat):Int)∧((j:Nat):Int) < ((tbR g h).length:Int):=by
    first|omega|(rw [tsT_len];simp only [List.length_cons,List.length_nil];omega)
   refine ⟨o27,?_⟩
   have o28:j < (tbR g h).length:=by
    first|omega|(rw [tsT_len];simp only [List.length_cons,List.length_nil];omega)
   refine ⟨o28,?_⟩
   refine ⟨((hdT g h j),((((tbR g h).getD j []).getD 0 (.int 0))).n),by
    rfl,by
    first|trivial|exact hpre|omega,?_⟩
   have o32:(tsT g h j).length+([[Dat.int (nextH (hdT g h j) (((((tbR g h).getD j []).getD 0 (.int 0))).n))]]:List (List Dat)).length≤1073741824:=by
    first|omega|(rw [tsT_len];simp only [List.length_cons,List.length_nil];omega)
   refine ⟨o32,?_⟩
   refine ⟨j+1,by
    first|trivial|omega|(simp;omega),by
    first|omega|(simp;omega),?_⟩
   refine ⟨rfl,?_,?_,rfl,rfl,rfl,rfl,rfl,rfl,rfl,rfl,?_⟩
   ·first|rfl|exact vint (wrap64 (by omega) (by omega))
   ·show Value.int .i64 (nextH (hdT g h j) (((((tbR g h).getD j []).getD 0 (.int 0))).n))=Value.int .i64 (hdT g h (j+1))
    first|rfl|exact vint (wrap64 (by omega) (by omega))
   show ((tsT g h j)++([[Dat.int (nextH (hdT g h j) (((((tbR g h).getD j []).getD 0 (.int 0))).n))]]:List (List Dat)))=(tsT g h (j+1))
   first|rfl|exact vint (wrap64 (by omega) (by omega))
  ·skip
   try simp only [nrm] at c26
   show (tsT g h j)=tsR s k g h
   rw [tsR_yes c7,show j=(tbR g h).length by omega]
end Go.Proofs.YtppjhpglejehkaaGreat
