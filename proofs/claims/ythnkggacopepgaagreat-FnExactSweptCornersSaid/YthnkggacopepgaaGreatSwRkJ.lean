import Derived.Test.YthnkggacopepgaaGreatSwRkI
import Derived.RegionTactic
namespace Go.Proofs.YthnkggacopepgaaGreat
set_option linter.unusedVariables false
set_option linter.unusedSimpArgs false
open Go.RowKit
def areVecs_con:Con:={ ι:=(List V2),pre:=fun i=>True,args:=fun i=>[.one (.sl 61 [.int,.int] (vecsD i))],res:=fun i=>⟨false,[none],[.im (Value.bool (i.all isVec))]⟩ }
theorem areVecs_ok:areVecs_con.Ok Tryz.prog 120:=genOwn_ok rfl ⟨_,Tryz.func120,by decide,rfl⟩ (fun _=>Nat.le_of_ble_eq_true rfl) (fun _=>rfl) (fun l=>[.im (.bool (l.all isVec))]) (fun _=>rfl) (fun _=>rfl) (fun i hp w us h=>by
 have h:RdRow w [.sl 61 [.int,.int]] [.sl (vecsD i)] us:=h
 obtain ⟨v,vs,rfl,h1,h2⟩:=RdRow.cons2 h
 obtain ⟨-,rfl⟩:=RdRow.nil_inv h2
 refine (areVecs_c i v w (Rd.vecs h1)).mono ?_
 rintro e w' ⟨rfl,hb⟩
 exact ⟨[Value.bool (i.all isVec)],rfl,Own.leaf (Fp.mk_bool _),hb⟩)
theorem rotN_vec {v:V2} (h:isVec v=true) (k:Nat):isVec (rotN k v)=true:=insB_rotN h k
theorem turnPoly_len (l:List V2) (k:Nat):(turnPoly l k).length=l.length:=by simp [turnPoly]
theorem turnPoly_snoc {l:List V2} {k n:Nat} (hk:k < l.length):vecsD (turnPoly (l.take k) n)++[[.int (rotN n (l.getD k (0,0))).1,.int (rotN n (l.getD k (0,0))).2]]=vecsD (turnPoly (l.take (k+1)) n):=by
 rw [take_snoc' l (0,0) k hk]
 simp [turnPoly,vecsD,vecD]
theorem head_rem {k:Int} (h0:0≤k) (h1:k≤3):IntKind.i64.wrap (Int.tmod k 4)=k∧Int.tmod k 4=k:=by
 have:k=0∨k=1∨k=2∨k=3:=by omega
 rcases this with rfl|rfl|rfl|rfl <;> exact ⟨rfl,rfl⟩
theorem head_rem2 {k:Int} (h0:0≤k) (h1:k≤3):Int.tmod (IntKind.i64.wrap (Int.tmod k 4+4)) 4=k:=by
 have:k=0∨k=1∨k=2∨k=3:=by omega
 rcases this with rfl|rfl|rfl|rfl <;> rfl
def robotAt (s:Scn) (h:Int):List V2:=if validScn s=true∧0≤h∧h≤3 then turnPoly s.robot h.toNat else []
theorem robotAt_yes {s:Scn} {h:Int} (h1:validScn s=true) (h2:0≤h∧h≤3):robotAt s h=turnPoly s.robot h.toNat:=by unfold robotAt;rw [if_pos ⟨h1,h2⟩]
theorem robotAt_no {s:Scn} {h:Int} (h1:validScn s=false∨¬ (0≤h∧h≤3)):robotAt s h=[]:=by
 unfold robotAt
 rw [if_neg]
 rintro ⟨a,b⟩
 rcases h1 with h1|h1
 ·rw [h1] at a;cases a
 ·exact h1 b
theorem scn_robot {s:Scn} (h:validScn s=true):isPoly s.robot=true:=by
 simp only [validScn,shape,Bool.and_eq_true] at h
 exact h.1.2.1.1
theorem robotAt_vec (s:Scn) (h:Int):(robotAt s h).all isVec=true∧(robotAt s h).length≤16:=by
 unfold robotAt
 split
 ·next hv=>
  have hp:=isPoly_len (scn_robot hv.1)
  rw [turnPoly_len]
  refine ⟨?_,hp.2.1⟩
  rw [List.all_eq_true]
  intro x hx
  simp only [turnPoly,List.mem_map] at hx
  obtain ⟨y,hy,rfl⟩:=hx
  exact rotN_vec (List.all_eq_true.1 hp.2.2 y hy) _
 ·exact ⟨rfl,Nat.zero_le _⟩
theorem robotAt_ne {s:Scn} {h:Int} (h1:validScn s=true) (h2:0≤h∧h≤3):robotAt s h≠[]:=by
 rw [robotAt_yes h1 h2]
 intro e
 have hp:=isPoly_len (scn_robot h1)
 have:=turnPoly_len s.robot h.toNat
 rw [e,List.length_nil] at this
 omega
def isHeading_con:Con:={ ι:=Int,pre:=fun i=>True,args:=fun i=>[.one (.im (.int .i64 i))],res:=fun i=>⟨false,[none],[.im (Value.bool (decide (i≥0) && decide (i≤3)))]⟩ }
set_option maxRecDepth 100000 in
theorem isHeading_ok:isHeading_con.Ok Tryz.prog 149:=by
 refine fn_ok (X:=⟨tt,[(119,within_con)],[],5⟩) mixed tt_ok (CTok.cons within_ok (CTok.nil _)) Tryz.func149 (by decide) rfl rfl rfl (fun _=>Nat.le_of_ble_eq_true rfl) (fun _=>Nat.le_of_ble_eq_true rfl) (fun _=>[]) ?_
 intro (n:Int) hpre
 have hpre:True:=hpre
 refine by_nf (q:=∃ i1:Int×Int×Int,[DA.one (cI n),DA.one (cI (0:Int)),DA.one (cI (3:Int))]=within_con.args i1∧within_con.pre i1∧((Value.bool (decide (i1.1≥i1.2.1) && decide (i1.1≤i1.2.2))=Value.bool (decide (n≥0) && decide (n≤3))))) (by kernel_rfl) ?_
 refine ⟨(n,(0:Int),(3:Int)),by
  rfl,by
  first|trivial|(first|omega|assumption|exact hpre.1|exact hpre.2|(simp;done)),?_⟩
 show Value.bool (decide (n≥(0:Int)) && decide (n≤(3:Int)))=Value.bool (decide (n≥0) && decide (n≤3))
 rfl
def iTurnVec_con:Con:={ ι:=Int×Int×Int,pre:=fun i=>(0≤i.2.2∧i.2.2≤3)∧True∧isVec (i.1,i.2.1)=true,args:=fun i=>[.agg [.im (.int .i64 i.1),.im (.int .i64 i.2.1)],.one (.im (.int .i64 i.2.2))],res:=fun i=>⟨false,[some 2],[.im (Value.int .i64 ((rotN i.2.2.toNat (i.1,i.2.1)).1)),.im (Value.int .i64 ((rotN i.2.2.toNat (i.1,i.2.1)).2))]⟩ }
set_option maxRecDepth 100000 in
theorem iTurnVec_ok:iTurnVec_con.Ok Tryz.prog 198:=by
 refine fn_ok (X:=⟨tt,[],[],19⟩) mixed tt_ok (CTok.nil _) Tryz.func198 (by decide) rfl rfl rfl (fun _=>Nat.le_of_ble_eq_true rfl) (fun _=>Nat.le_of_ble_eq_true rfl) (fun (i:Int×Int×Int)=>[(2,.mk 3 (Nat) (fun x1=>{ tm:=[(2,.one (.one (.bp 1 0))),(4,.one (.one (.bp 2 0))),(9,.one (.one (.im (Value.int .i64 ((x1:Nat):Int))))),(8,.one (.one (.im (Value.int .i64 i.2.2))))],en:=[(1,.box [.im (Value.int .i64 ((rotN x1 (i.1,i.2.1)).1)),.im (Value.int .i64 ((rotN x1 (i.1,i.2.1)).2))]),(2,.box [.im (Value.int .i64 (0:Int)),.im (Value.int .i64 (0:Int))])] }) (fun x1=>x1≤i.2.2.toNat) (fun x1=>i.2.2.toNat - x1) (fun _=>[]))]) ?_
 rintro ⟨x,y,k⟩ hpre
 have hpre:(0≤k∧k≤3)∧True∧isVec (x,y)=true:=hpre
 refine by_nf (q:=((4:Int)≠0)∧(((4:Int)≠0)∧((∃ x1:Nat,(x1≤k.toNat)∧((Value.int .i64 (0:Int)=Value.int .i64 ((x1:Nat):Int))∧(Value.int .i64 (Int.tmod (IntKind.i64.wrap ((Int.tmod k (4:Int))+(4:Int))) (4:Int))=Value.int .i64 k)∧(Value.int .i64 x=Value.int .i64 ((rotN x1 (x,y)).1))∧(Value.int .i64 y=Value.int .i64 ((rotN x1 (x,y)).2))∧(rf (Value.int .i64 (0:Int)))∧(rf (Value.int .i64 (0:Int)))))∧∀ x1:Nat,(x1≤k.toNat)→(((decide (((x1:Nat):Int) < k))=true→(∃ y2:Nat,(y2≤k.toNat)∧(k.toNat - y2 < k.toNat - x1)∧((Value.int .i64 (IntKind.i64.wrap (((x1:Nat):Int)+(1:Int)))=Value.int .i64 ((y2:Nat):Int))∧(rf (Value.int .i64 k))∧(Value.int .i64 (IntKind.i64.wrap (0 - ((rotN x1 (x,y)).2)))=Value.int .i64 ((rotN y2 (x,y)).1))∧(Value.int .i64 ((rotN x1 (x,y)).1)=Value.int .i64 ((rotN y2 (x,y)).2))∧(rf (Value.int .i64 (0:Int)))∧(rf (Value.int .i64 (0:Int))))))∧((decide (((x1:Nat):Int) < k))=false→((Value.int .i64 ((rotN x1 (x,y)).1)=Value.int .i64 ((rotN k.toNat (x,y)).1))∧(Value.int .i64 ((rotN x1 (x,y)).2)=Value.int .i64 ((rotN k.toNat (x,y)).2)))))))) (by kernel_rfl) ?_
 have hq:=fun j=>isVec_bd (rotN_vec hpre.2.2 j)
 have hw:=head_rem2 hpre.1.1 hpre.1.2
 have o1:(4:Int)≠0:=by
  first|rfl|omega|(simp;done)|(simp;omega)
 refine ⟨o1,?_⟩
 have o2:(4:Int)≠0:=by
  first|rfl|omega|(simp;done)|(simp;omega)
 refine ⟨o2,?_⟩
 refine ⟨⟨0,by
  first|trivial|omega|(simp;omega),?_⟩,?_⟩
 ·skip
  refine ⟨?_,?_,?_,?_,rfl,rfl⟩
  ·show Value.int .i64 (0:Int)=Value.int .i64 ((0:Nat):Int)
   first|rfl|(rw [hw])
  ·show Value.int .i64 (Int.tmod (IntKind.i64.wrap ((Int.tmod k (4:Int))+(4:Int))) (4:Int))=Value.int .i64 k
   first|rfl|(rw [hw])
  ·show Value.int .i64 x=Value.int .i64 ((rotN 0 (x,y)).1)
   first|rfl|(rw [hw])
  show Value.int .i64 y=Value.int .i64 ((rotN 0 (x,y)).2)
  first|rfl|(rw [hw])
 intro (j:Nat) hki3
 have hki3:j≤k.toNat:=hki3
 refine ⟨fun c11=>?_,fun c11=>?_⟩
 ·skip
  try simp only [nrm] at c11
  refine ⟨j+1,by
   first|trivial|omega|(simp;omega),by
   first|omega|(simp;omega),?_⟩
  refine ⟨?_,rfl,?_,?_,rfl,rfl⟩
  ·first|rfl|exact vint (wrap64 (by omega) (by omega))|exact vint (show IntKind.i64.wrap (0 - (rotN j (x,y)).2)=-(rotN j (x,y)).2 from by have:=hq j;rw [wrap64 (by omega) (by omega)];omega)|exact vint (by rw [wrap64 (by omega) (by omega)];omega)
  ·first|rfl|exact vint (wrap64 (by omega) (by omega))|exact vint (show IntKind.i64.wrap (0 - (rotN j (x,y)).2)=-(rotN j (x,y)).2 from by have:=hq j;rw [wrap64 (by omega) (by omega)];omega)|exact vint (by rw [wrap64 (by omega) (by omega)];omega)
  first|rfl|exact vint (wrap64 (by omega) (by omega))|exact vint (show IntKind.i64.wrap (0 - (rotN j (x,y)).2)=-(rotN j (x,y)).2 from by have:=hq j;rw [wrap64 (by omega) (by omega)];omega)|exact vint (by rw [wrap64 (by omega) (by omega)];omega)
 ·skip
  try simp only [nrm] at c11
  refine ⟨?_,?_⟩
  ·show Value.int .i64 ((rotN j (x,y)).1)=Value.int .i64 ((rotN k.toNat (x,y)).1)
   rw [show k.toNat=j by omega]
  show Value.int .i64 ((rotN j (x,y)).2)=Value.int .i64 ((rotN k.toNat (x,y)).2)
  rw [show k.toNat=j by omega]
def sTurnVec_con:Con:={ ι:=Int×Int×Int,pre:=fun i=>(0≤i.2.2∧i.2.2≤3)∧True∧isVec (i.1,i.2.1)=true,args:=fun i=>[.agg [.im (.int .i64 i.1),.im (.int .i64 i.2.1)],.one (.im (.int .i64 i.2.2))],res:=fun i=>⟨false,[some 2],[.im (Value.int .i64 ((rotN i.2.2.toNat (i.1,i.2.1)).1)),.im (Value.int .i64 ((rotN i.2.2.toNat (i.1,i.2.1)).2))]⟩ }
set_option maxRecDepth 100000 in
theorem sTurnVec_ok:sTurnVec_con.Ok Tryz.prog 197:=by
 refine fn_ok (X:=⟨tt,[(94,sIsVec_con)],[],26⟩) mixed tt_ok (CTok.cons sIsVec_ok (CTok.nil _)) Tryz.func197 (by decide) rfl rfl rfl (fun _=>Nat.le_of_ble_eq_true rfl) (fun _=>Nat.le_of_ble_eq_true rfl) (fun (i:Int×Int×Int)=>[(6,.mk 3 (Nat) (fun x1=>{ tm:=[(2,.one (.one (.bp 1 0))),(4,.one (.one (.bp 2 0))),(1,.one (.one (.im (Value.int .i64 (i.2.2 - ((x1:Nat):Int))))))],en:=[(1,.box [.im (Value.int .i64 ((rotN x1 (i.1,i.2.1)).1)),.im (Value.int .i64 ((rotN x1 (i.1,i.2.1)).2))]),(2,.box [.im (Value.int .i64 (0:Int)),.im (Value.int .i64 (0:Int))])] }) (fun x1=>x1≤i.2.2.toNat) (fun x1=>i.2.2.toNat - x1) (fun _=>[]))]) ?_
 rintro ⟨x,y,k⟩ hpre
 have hpre:(0≤k∧k≤3)∧True∧isVec (x,y)=true:=hpre
 refine by_nf (q:=∃ i1:Int×Int,[DA.agg [cI x,cI y]]=sIsVec_con.args i1∧sIsVec_con.pre i1∧(((!(isVec (i1.1,i1.2)))=true→((Value.int .i64 (0:Int)=Value.int .i64 ((rotN k.toNat (x,y)).1))∧(Value.int .i64 (0:Int)=Value.int .i64 ((rotN k.toNat (x,y)).2))))∧((!(isVec (i1.1,i1.2)))=false→(((4:Int)≠0)∧(((decide ((Int.tmod k (4:Int)) < (0:Int)))=true→((∃ x1:Nat,(x1≤k.toNat)∧((Value.int .i64 (IntKind.i64.wrap ((Int.tmod k (4:Int))+(4:Int)))=Value.int .i64 (k - ((x1:Nat):Int)))∧(Value.int .i64 x=Value.int .i64 ((rotN x1 (x,y)).1))∧(Value.int .i64 y=Value.int .i64 ((rotN x1 (x,y)).2))∧(rf (Value.int .i64 (0:Int)))∧(rf (Value.int .i64 (0:Int)))))∧∀ x1:Nat,(x1≤k.toNat)→(((decide ((k - ((x1:Nat):Int)) > (0:Int)))=true→(∃ y2:Nat,(y2≤k.toNat)∧(k.toNat - y2 < k.toNat - x1)∧((Value.int .i64 (IntKind.i64.wrap ((k - ((x1:Nat):Int)) - (1:Int)))=Value.int .i64 (k - ((y2:Nat):Int)))∧(Value.int .i64 (IntKind.i64.wrap (0 - ((rotN x1 (x,y)).2)))=Value.int .i64 ((rotN y2 (x,y)).1))∧(Value.int .i64 ((rotN x1 (x,y)).1)=Value.int .i64 ((rotN y2 (x,y)).2))∧(rf (Value.int .i64 (0:Int)))∧(rf (Value.int .i64 (0:Int))))))∧((decide ((k - ((x1:Nat):Int)) > (0:Int)))=false→((Value.int .i64 ((rotN x1 (x,y)).1)=Value.int .i64 ((rotN k.toNat (x,y)).1))∧(Value.int .i64 ((rotN x1 (x,y)).2)=Value.int .i64 ((rotN k.toNat (x,y)).2)))))))∧((decide ((Int.tmod k (4:Int)) < (0:Int)))=false→((∃ x1:Nat,(x1≤k.toNat)∧((Value.int .i64 (Int.tmod k (4:Int))=Value.int .i64 (k - ((x1:Nat):Int)))∧(Value.int .i64 x=Value.int .i64 ((rotN x1 (x,y)).1))∧(Value.int .i64 y=Value.int .i64 ((rotN x1 (x,y)).2))∧(rf (Value.int .i64 (0:Int)))∧(rf (Value.int .i64 (0:Int)))))∧∀ x1:Nat,(x1≤k.toNat)→(((decide ((k - ((x1:Nat):Int)) > (0:Int)))=true→(∃ y4:Nat,(y4≤k.toNat)∧(k.toNat - y4 < k.toNat - x1)∧((Value.int .i64 (IntKind.i64.wrap ((k - ((x1:Nat):Int)) - (1:Int)))=Value.int .i64 (k - ((y4:Nat):Int)))∧(Value.int .i64 (IntKind.i64.wrap (0 - ((rotN x1 (x,y)).2)))=Value.int .i64 ((rotN y4 (x,y)).1))∧(Value.int .i64 ((rotN x1 (x,y)).1)=Value.int .i64 ((rotN y4 (x,y)).2))∧(rf (Value.int .i64 (0:Int)))∧(rf (Value.int .i64 (0:Int))))))∧((decide ((k - ((x1:Nat):Int)) > (0:Int)))=false→((Value.int .i64 ((rotN x1 (x,y)).1)=Value.int .i64 ((rotN k.toNat (x,y)).1))∧(Value.int .i64 ((rotN x1 (x,y)).2)=Value.int .i64 ((rotN k.toNat (x,y)).2)))))))))))) (by kernel_rfl) ?_
 have hq:=fun j=>isVec_bd (rotN_vec hpre.2.2 j)
 have hw:=head_rem hpre.1.1 hpre.1.2
 refine ⟨(x,y),by
  rfl,by
  first|trivial|(first|omega|assumption|exact hpre.1|exact hpre.2|(simp;done)),?_⟩
 refine ⟨fun c4=>?_,fun c4=>?_⟩
 ·skip
  replace c4:(!(isVec (x,y)))=true:=c4
  try simp only [nrm] at c4
  rw [hpre.2.2] at c4
  cases c4 -- done
 ·skip
  replace c4:(!(isVec (x,y)))=false:=c4
  try simp only [nrm] at c4
  have o7:(4:Int)≠0:=by
   first|rfl|omega|(simp;done)|(simp;omega)
  refine ⟨o7,?_⟩
  refine ⟨fun c8=>?_,fun c8=>?_⟩
  ·skip
   try simp only [nrm] at c8
   rw [hw.2] at c8
   exfalso;omega -- done
  ·skip
   try simp only [nrm] at c8
   refine ⟨⟨0,by
    first|trivial|omega|(simp;omega),?_⟩,?_⟩
   ·skip
    refine ⟨?_,?_,?_,rfl,rfl⟩
    ·show Value.int .i64 (Int.tmod k (4:Int))=Value.int .i64 (k - ((0:Nat):Int))
     first|rfl|(rw [hw.2];exact vint (by omega))
    ·show Value.int .i64 x=Value.int .i64 ((rotN 0 (x,y)).1)
     first|rfl|(rw [hw.2];exact vint (by omega))
    show Value.int .i64 y=Value.int .i64 ((rotN 0 (x,y)).2)
    first|rfl|(rw [hw.2];exact vint (by omega))
   intro (j:Nat) hki27
   have hki27:j≤k.toNat:=hki27
   refine ⟨fun c34=>?_,fun c34=>?_⟩
   ·skip
    try simp only [nrm] at c34
    refine ⟨j+1,by
     first|trivial|omega|(simp;omega),by
     first|omega|(simp;omega),?_⟩
    refine ⟨?_,?_,?_,rfl,rfl⟩
    ·first|rfl|exact vint (wrap64 (by omega) (by omega))|exact vint (show IntKind.i64.wrap (0 - (rotN j (x,y)).2)=-(rotN j (x,y)).2 from by have:=hq j;rw [wrap64 (by omega) (by omega)];omega)|exact vint (by rw [wrap64 (by omega) (by omega)];omega)
    ·first|rfl|exact vint (wrap64 (by omega) (by omega))|exact vint (show IntKind.i64.wrap (0 - (rotN j (x,y)).2)=-(rotN j (x,y)).2 from by have:=hq j;rw [wrap64 (by omega) (by omega)];omega)|exact vint (by rw [wrap64 (by omega) (by omega)];omega)
    first|rfl|exact vint (wrap64 (by omega) (by omega))|exact vint (show IntKind.i64.wrap (0 - (rotN j (x,y)).2)=-(rotN j (x,y)).2 from by have:=hq j;rw [wrap64 (by omega) (by omega)];omega)|exact vint (by rw [wrap64 (by omega) (by omega)];omega)
   ·skip
    try simp only [nrm] at c34
    refine ⟨?_,?_⟩
    ·show Value.int .i64 ((rotN j (x,y)).1)=Value.int .i64 ((rotN k.toNat (x,y)).1)
     rw [show k.toNat=j by omega]
    show Value.int .i64 ((rotN j (x,y)).2)=Value.int .i64 ((rotN k.toNat (x,y)).2)
    rw [show k.toNat=j by omega]
def iTurnPoly_con:Con:={ ι:=(List V2)×Int,pre:=fun i=>(0≤i.2∧i.2≤3)∧i.1.length≤1048576∧i.1.all isVec=true,args:=fun i=>[.one (.sl 61 [.int,.int] (vecsD i.1)),.one (.im (.int .i64 i.2))],res:=fun i=>⟨false,[none],[.own 61 [.int,.int] (vecsD (turnPoly i.1 i.2.toNat))]⟩ }
set_option maxRecDepth 100000 in
theorem iTurnPoly_ok:iTurnPoly_con.Ok Tryz.prog 150:=by
 refine fn_ok (X:=⟨tt,[(120,areVecs_con),(198,iTurnVec_con)],[],26⟩) mixed tt_ok (CTok.cons areVecs_ok (CTok.cons iTurnVec_ok (CTok.nil _))) Tryz.func150 (by decide) rfl rfl rfl (fun _=>Nat.le_of_ble_eq_true rfl) (fun _=>Nat.le_of_ble_eq_true rfl) (fun (i:(List V2)×Int)=>[(5,.mk 3 (Nat) (fun x1=>{ tm:=[(12,.one (.one (.ext 1))),(13,.one (.one (.im (Value.int .i64 (((vecsD i.1).length:Nat):Int))))),(14,.one (.one (.im (Value.int .i64 ((x1:Nat):Int))))),(1,.one (.one (.im (Value.int .i64 i.2)))),(5,.one (.one (.ext 2)))],en:=[(1,.view 61 [.int,.int] (vecsD i.1) []),(2,.own 61 [.int,.int] (vecsD (turnPoly (i.1.take x1) i.2.toNat)))] }) (fun x1=>x1≤i.1.length) (fun x1=>i.1.length - x1) (fun _=>[]))]) ?_
 rintro ⟨l,h⟩ hpre
 have hpre:(0≤h∧h≤3)∧l.length≤1048576∧l.all isVec=true:=hpre
 refine by_nf (q:=∃ i1:(List V2),[DA.one (DC.sl 61 [.int,.int] (vecsD l))]=areVecs_con.args i1∧areVecs_con.pre i1∧(((!(i1.all isVec))=true→((([]:List (List Dat))=vecsD (turnPoly l h.toNat))))∧((!(i1.all isVec))=false→((∃ x1:Nat,(x1≤l.length)∧((rf (Value.int .i64 (((vecsD l).length:Nat):Int)))∧(Value.int .i64 (0:Int)=Value.int .i64 ((x1:Nat):Int))∧(rf (Value.int .i64 h))∧(rf (vecsD l))∧(([]:List (List Dat))=(vecsD (turnPoly (l.take x1) h.toNat)))))∧∀ x1:Nat,(x1≤l.length)→(((decide (((x1:Nat):Int) < (((vecsD l).length:Nat):Int)))=true→((0≤((x1:Nat):Int)∧((x1:Nat):Int) < ((vecsD l).length:Int))∧((x1 < (vecsD l).length)∧(∃ i2:Int×Int×Int,[DA.agg [cI (((((vecsD l).getD x1 []).getD 0 (.int 0))).n),cI (((((vecsD l).getD x1 []).getD 1 (.int 0))).n)],DA.one (cI h)]=iTurnVec_con.args i2∧iTurnVec_con.pre i2∧(((vecsD (turnPoly (l.take x1) h.toNat)).length+([[Dat.int ((rotN i2.2.2.toNat (i2.1,i2.2.1)).1),Dat.int ((rotN i2.2.2.toNat (i2.1,i2.2.1)).2)]]:List (List Dat)).length≤1073741824)∧(∃ y2:Nat,(y2≤l.length)∧(l.length - y2 < l.length - x1)∧((rf (Value.int .i64 (((vecsD l).length:Nat):Int)))∧(Value.int .i64 (IntKind.i64.wrap (((x1:Nat):Int)+(1:Int)))=Value.int .i64 ((y2:Nat):Int))∧(rf (Value.int .i64 h))∧(rf (vecsD l))∧(((vecsD (turnPoly (l.take x1) h.toNat))++([[Dat.int ((rotN i2.2.2.toNat (i2.1,i2.2.1)).1),Dat.int ((rotN i2.2.2.toNat (i2.1,i2.2.1)).2)]]:List (List Dat)))=(vecsD (turnPoly (l.take y2) h.toNat))))))))))∧((decide (((x1:Nat):Int) < (((vecsD l).length:Nat):Int)))=false→(((vecsD (turnPoly (l.take x1) h.toNat))=vecsD (turnPoly l h.toNat))))))))) (by kernel_rfl) ?_
 have hvl:=vecsD_length l
 refine ⟨l,by
  rfl,by
  first|trivial|exact ⟨hpre.1,trivial,allVec_getD hpre.2.2 (by omega)⟩,?_⟩
 refine ⟨fun c4=>?_,fun c4=>?_⟩
 ·skip
  try simp only [nrm] at c4
  rw [hpre.2.2] at c4
  cases c4 -- done
 ·skip
  try simp only [nrm] at c4
  refine ⟨⟨0,by
   first|trivial|omega|(simp;omega),?_⟩,?_⟩
  ·skip
   refine ⟨rfl,?_,rfl,rfl,?_⟩
   ·show Value.int .i64 (0:Int)=Value.int .i64 ((0:Nat):Int)
    first|rfl|(rw [vecsD_length])
   show ([]:List (List Dat))=(vecsD (turnPoly (l.take 0) h.toNat))
   first|rfl|(rw [vecsD_length])
  intro (k:Nat) hki6
  have hki6:k≤l.length:=hki6
  refine ⟨fun c13=>?_,fun c13=>?_⟩
  ·skip
   try simp only [nrm] at c13
   have o14:0≤((k:Nat):Int)∧((k:Nat):Int) < ((vecsD l).length:Int):=by
    first|omega|(simp only [vecsD_length,turnPoly_len,List.length_take,List.length_cons,List.length_nil];omega)
   refine ⟨o14,?_⟩
   have o15:k < (vecsD l).length:=by
    first|omega|(simp only [vecsD_length,turnPoly_len,List.length_take,List.length_cons,List.length_nil];omega)
   refine ⟨o15,?_⟩
   refine ⟨((l.getD k (0,0)).1,(l.getD k (0,0)).2,h),by
    rw [vecs_x (by omega),vecs_y (by omega)];rfl,by
    show (0≤h∧h≤3)∧True∧isVec (((l.getD k (0,0)).1),((l.getD k (0,0)).2))=true
    first|trivial|exact ⟨hpre.1,trivial,allVec_getD hpre.2.2 (by omega)⟩,?_⟩
   have o19:(vecsD (turnPoly (l.take k) h.toNat)).length+([[Dat.int ((rotN h.toNat (((l.getD k (0,0)).1),((l.getD k (0,0)).2))).1),Dat.int ((rotN h.toNat (((l.getD k (0,0)).1),((l.getD k (0,0)).2))).2)]]:List (List Dat)).length≤1073741824:=by
    first|omega|(simp only [vecsD_length,turnPoly_len,List.length_take,List.length_cons,List.length_nil];omega)
   refine ⟨o19,?_⟩
   refine ⟨k+1,by
    first|trivial|omega|(simp;omega),by
    first|omega|(simp;omega),?_⟩
   refine ⟨rfl,?_,rfl,rfl,?_⟩
   ·first|rfl|exact vint (wrap64 (by omega) (by omega))|exact turnPoly_snoc (by omega)
   show ((vecsD (turnPoly (l.take k) h.toNat))++([[Dat.int ((rotN h.toNat (((l.getD k (0,0)).1),((l.getD k (0,0)).2))).1),Dat.int ((rotN h.toNat (((l.getD k (0,0)).1),((l.getD k (0,0)).2))).2)]]:List (List Dat)))=(vecsD (turnPoly (l.take (k+1)) h.toNat))
   first|rfl|exact vint (wrap64 (by omega) (by omega))|exact turnPoly_snoc (by omega)
  ·skip
   try simp only [nrm] at c13
   show (vecsD (turnPoly (l.take k) h.toNat))=vecsD (turnPoly l h.toNat)
   rw [show k=l.length by omega,List.take_length]
def sTurnPoly_con:Con:={ ι:=(List V2)×Int,pre:=fun i=>(0≤i.2∧i.2≤3)∧i.1.length≤1048576∧i.1.all isVec=true,args:=fun i=>[.one (.sl 61 [.int,.int] (vecsD i.1)),.one (.im (.int .i64 i.2))],res:=fun i=>⟨false,[none],[.own 61 [.int,.int] (vecsD (turnPoly i.1 i.2.toNat))]⟩ }
set_option maxRecDepth 100000 in
theorem sTurnPoly_ok:sTurnPoly_con.Ok Tryz.prog 147:=by
 refine fn_ok (X:=⟨tt,[(94,sIsVec_con),(197,sTurnVec_con)],[],26⟩) mixed tt_ok (CTok.cons sIsVec_ok (CTok.cons sTurnVec_ok (CTok.nil _))) Tryz.func147 (by decide) rfl rfl rfl (fun _=>Nat.le_of_ble_eq_true rfl) (fun _=>Nat.le_of_ble_eq_true rfl) (fun (i:(List V2)×Int)=>[(3,.mk 3 (Nat) (fun x1=>{ tm:=[(9,.one (.one (.ext 1))),(10,.one (.one (.im (Value.int .i64 (((vecsD i.1).length:Nat):Int))))),(11,.one (.one (.im (Value.int .i64 ((x1:Nat):Int))))),(1,.one (.one (.im (Value.int .i64 i.2)))),(5,.one (.one (.ext 2)))],en:=[(1,.view 61 [.int,.int] (vecsD i.1) []),(2,.own 61 [.int,.int] (vecsD (turnPoly (i.1.take x1) i.2.toNat)))] }) (fun x1=>x1≤i.1.length) (fun x1=>i.1.length - x1) (fun _=>[]))]) ?_
 rintro ⟨l,h⟩ hpre
 have hpre:(0≤h∧h≤3)∧l.length≤1048576∧l.all isVec=true:=hpre
 refine by_nf (q:=(∃ x1:Nat,(x1≤l.length)∧((rf (Value.int .i64 (((vecsD l).length:Nat):Int)))∧(Value.int .i64 (0:Int)=Value.int .i64 ((x1:Nat):Int))∧(rf (Value.int .i64 h))∧(rf (vecsD l))∧(([]:List (List Dat))=(vecsD (turnPoly (l.take x1) h.toNat)))))∧∀ x1:Nat,(x1≤l.length)→(((decide (((x1:Nat):Int) < (((vecsD l).length:Nat):Int)))=true→((0≤((x1:Nat):Int)∧((x1:Nat):Int) < ((vecsD l).length:Int))∧((x1 < (vecsD l).length)∧(∃ i1:Int×Int,[DA.agg [cI (((((vecsD l).getD x1 []).getD 0 (.int 0))).n),cI (((((vecsD l).getD x1 []).getD 1 (.int 0))).n)]]=sIsVec_con.args i1∧sIsVec_con.pre i1∧(((!(isVec (i1.1,i1.2)))=true→((([]:List (List Dat))=vecsD (turnPoly l h.toNat))))∧((!(isVec (i1.1,i1.2)))=false→(∃ i2:Int×Int×Int,[DA.agg [cI (((((vecsD l).getD x1 []).getD 0 (.int 0))).n),cI (((((vecsD l).getD x1 []).getD 1 (.int 0))).n)],DA.one (cI h)]=sTurnVec_con.args i2∧sTurnVec_con.pre i2∧(((vecsD (turnPoly (l.take x1) h.toNat)).length+([[Dat.int ((rotN i2.2.2.toNat (i2.1,i2.2.1)).1),Dat.int ((rotN i2.2.2.toNat (i2.1,i2.2.1)).2)]]:List (List Dat)).length≤1073741824)∧(∃ y2:Nat,(y2≤l.length)∧(l.length - y2 < l.length - x1)∧((rf (Value.int .i64 (((vecsD l).length:Nat):Int)))∧(Value.int .i64 (IntKind.i64.wrap (((x1:Nat):Int)+(1:Int)))=Value.int .i64 ((y2:Nat):Int))∧(rf (Value.int .i64 h))∧(rf (vecsD l))∧(((vecsD (turnPoly (l.take x1) h.toNat))++([[Dat.int ((rotN i2.2.2.toNat (i2.1,i2.2.1)).1),Dat.int ((rotN i2.2.2.toNat (i2.1,i2.2.1)).2)]]:List (List Dat)))=(vecsD (turnPoly (l.take y2) h.toNat)))))))))))))∧((decide (((x1:Nat):Int) < (((vecsD l).length:Nat):Int)))=false→(((vecsD (turnPoly (l.take x1) h.toNat))=vecsD (turnPoly l h.toNat)))))) (by kernel_rfl) ?_
 have hvl:=vecsD_length l
 refine ⟨⟨0,by
  first|trivial|omega|(simp;omega),?_⟩,?_⟩
 ·skip
  refine ⟨rfl,?_,rfl,rfl,?_⟩
  ·show Value.int .i64 (0:Int)=Value.int .i64 ((0:Nat):Int)
   first|rfl|(rw [vecsD_length])
  show ([]:List (List Dat))=(vecsD (turnPoly (l.take 0) h.toNat))
  first|rfl|(rw [vecsD_length])
 intro (k:Nat) hki1
 have hki1:k≤l.length:=hki1
 refine ⟨fun c8=>?_,fun c8=>?_⟩
 ·skip
  try simp only [nrm] at c8
  have o9:0≤((k:Nat):Int)∧((k:Nat):Int) < ((vecsD l).length:Int):=by
   first|omega|(simp only [vecsD_length,turnPoly_len,List.length_take,List.length_cons,List.length_nil];omega)
  refine ⟨o9,?_⟩
  have o10:k < (vecsD l).length:=by
   first|omega|(simp only [vecsD_length,turnPoly_len,List.length_take,List.length_cons,List.length_nil];omega)
  refine ⟨o10,?_⟩
  refine ⟨((l.getD k (0,0)).1,(l.getD k (0,0)).2),by
   rw [vecs_x (by omega),vecs_y (by omega)];rfl,by
   first|trivial|exact ⟨hpre.1,trivial,allVec_getD hpre.2.2 (by omega)⟩,?_⟩
  refine ⟨fun c14=>?_,fun c14=>?_⟩
  ·skip
   replace c14:(!(isVec (((l.getD k (0,0)).1),((l.getD k (0,0)).2))))=true:=c14
   try simp only [nrm] at c14
   have q:isVec ((l.getD k (0,0)).1,(l.getD k (0,0)).2)=true:=allVec_getD hpre.2.2 (by omega)
   rw [q] at c14
   cases c14 -- done
  ·skip
   replace c14:(!(isVec (((l.getD k (0,0)).1),((l.getD k (0,0)).2))))=false:=c14
   try simp only [nrm] at c14
   refine ⟨((l.getD k (0,0)).1,(l.getD k (0,0)).2,h),by
    rw [vecs_x (by omega),vecs_y (by omega)];rfl,by
    show (0≤h∧h≤3)∧True∧isVec (((l.getD k (0,0)).1),((l.getD k (0,0)).2))=true
    first|trivial|exact ⟨hpre.1,trivial,allVec_getD hpre.2.2 (by omega)⟩,?_⟩
   have o19:(vecsD (turnPoly (l.take k) h.toNat)).length+([[Dat.int ((rotN h.toNat (((l.getD k (0,0)).1),((l.getD k (0,0)).2))).1),Dat.int ((rotN h.toNat (((l.getD k (0,0)).1),((l.getD k (0,0)).2))).2)]]:List (List Dat)).length≤1073741824:=by
    first|omega|(simp only [vecsD_length,turnPoly_len,List.length_take,List.length_cons,List.length_nil];omega)
   refine ⟨o19,?_⟩
   refine ⟨k+1,by
    first|trivial|omega|(simp;omega),by
    first|omega|(simp;omega),?_⟩
   refine ⟨rfl,?_,rfl,rfl,?_⟩
   ·first|rfl|exact vint (wrap64 (by omega) (by omega))|exact turnPoly_snoc (by omega)
   show ((vecsD (turnPoly (l.take k) h.toNat))++([[Dat.int ((rotN h.toNat (((l.getD k (0,0)).1),((l.getD k (0,0)).2))).1),Dat.int ((rotN h.toNat (((l.getD k (0,0)).1),((l.getD k (0,0)).2))).2)]]:List (List Dat)))=(vecsD (turnPoly (l.take (k+1)) h.toNat))
   first|rfl|exact vint (wrap64 (by omega) (by omega))|exact turnPoly_snoc (by omega)
 ·skip
  try simp only [nrm] at c8
  show (vecsD (turnPoly (l.take k) h.toNat))=vecsD (turnPoly l h.toNat)
  rw [show k=l.length by omega,List.take_length]
def iRobotAt_con:Con:={ ι:=Scn×Int,pre:=fun i=>True,args:=fun i=>[.agg [.im (.int .i64 i.1.low.1),.im (.int .i64 i.1.low.2),.im (.int .i64 i.1.high.1),.im (.int .i64 i.1.high.2),.sl 61 [.int,.int] (vecsD i.1.robot),.sl 33 [.sl 61 [.int,.int]] (areasD i.1.obst),.sl 61 [.int,.int] (vecsD i.1.tables)],.one (.im (.int .i64 i.2))],res:=fun i=>⟨false,[none],[.own 61 [.int,.int] (vecsD (robotAt i.1 i.2))]⟩ }
set_option maxRecDepth 100000 in
theorem iRobotAt_ok:iRobotAt_con.Ok Tryz.prog 87:=by
 refine fn_ok (X:=⟨tt,[(96,iValid_con),(149,isHeading_con),(150,iTurnPoly_con)],[],17⟩) mixed tt_ok (CTok.cons iValid_ok (CTok.cons isHeading_ok (CTok.cons iTurnPoly_ok (CTok.nil _)))) Tryz.func87 (by decide) rfl rfl rfl (fun _=>Nat.le_of_ble_eq_true rfl) (fun _=>Nat.le_of_ble_eq_true rfl) (fun _=>[]) ?_
 rintro ⟨s,h⟩ hpre
 have hpre:True:=hpre
 refine by_nf (q:=∃ i1:Scn,[DA.agg [cI s.low.1,cI s.low.2,cI s.high.1,cI s.high.2,DC.sl 61 [.int,.int] (vecsD s.robot),DC.sl 33 [.sl 61 [.int,.int]] (areasD s.obst),DC.sl 61 [.int,.int] (vecsD s.tables)]]=iValid_con.args i1∧iValid_con.pre i1∧(((!(!(validScn i1)))=true→(∃ i2:Int,[DA.one (cI h)]=isHeading_con.args i2∧isHeading_con.pre i2∧(((!(decide (i2≥0) && decide (i2≤3)))=true→((([]:List (List Dat))=vecsD (robotAt s h))))∧((!(decide (i2≥0) && decide (i2≤3)))=false→(∃ i3:(List V2)×Int,[DA.one (DC.sl 61 [.int,.int] (vecsD s.robot)),DA.one (cI h)]=iTurnPoly_con.args i3∧iTurnPoly_con.pre i3∧((vecsD (turnPoly i3.1 i3.2.toNat)=vecsD (robotAt s h))))))))∧((!(!(validScn i1)))=false→((([]:List (List Dat))=vecsD (robotAt s h)))))) (by kernel_rfl) ?_
 refine ⟨s,by
  rfl,by
  first|trivial|exact ⟨by omega,by omega,hP.2.2⟩,?_⟩
 refine ⟨fun c4=>?_,fun c4=>?_⟩
 ·skip
  try simp only [nrm] at c4
  refine ⟨h,by
   rfl,by
   first|trivial|exact ⟨by omega,by omega,hP.2.2⟩,?_⟩
  refine ⟨fun c8=>?_,fun c8=>?_⟩
  ·skip
   try simp only [nrm] at c8
   have hE:=robotAt_no (s:=s) (h:=h) (.inr (by omega))
   show ([]:List (List Dat))=vecsD (robotAt s h)
   first|(rw [hE];done)|(rw [hE];rfl)
  ·skip
   try simp only [nrm] at c8
   have hE:=robotAt_yes c4 (show 0≤h∧h≤3 by omega)
   have hP:=isPoly_len (scn_robot c4)
   refine ⟨(s.robot,h),by
    rfl,by
    show (0≤h∧h≤3)∧s.robot.length≤1048576∧s.robot.all isVec=true
    first|trivial|exact ⟨by omega,by omega,hP.2.2⟩,?_⟩
   show vecsD (turnPoly s.robot h.toNat)=vecsD (robotAt s h)
   first|(rw [hE];done)|(rw [hE];rfl)
 ·skip
  try simp only [nrm] at c4
  have hE:=robotAt_no (h:=h) (.inl c4)
  show ([]:List (List Dat))=vecsD (robotAt s h)
  first|(rw [hE];done)|(rw [hE];rfl)
def sRobotAt_con:Con:={ ι:=Scn×Int,pre:=fun i=>True,args:=fun i=>[.agg [.im (.int .i64 i.1.low.1),.im (.int .i64 i.1.low.2),.im (.int .i64 i.1.high.1),.im (.int .i64 i.1.high.2),.sl 61 [.int,.int] (vecsD i.1.robot),.sl 33 [.sl 61 [.int,.int]] (areasD i.1.obst),.sl 61 [.int,.int] (vecsD i.1.tables)],.one (.im (.int .i64 i.2))],res:=fun i=>⟨false,[none],[.own 61 [.int,.int] (vecsD (robotAt i.1 i.2))]⟩ }
set_option maxRecDepth 100000 in
theorem sRobotAt_ok:sRobotAt_con.Ok Tryz.prog 84:=by
 refine fn_ok (X:=⟨tt,[(93,sValid_con),(112,l01In_con),(147,sTurnPoly_con)],[],17⟩) mixed tt_ok (CTok.cons sValid_ok (CTok.cons l01In_ok (CTok.cons sTurnPoly_ok (CTok.nil _)))) Tryz.func84 (by decide) rfl rfl rfl (fun _=>Nat.le_of_ble_eq_true rfl) (fun _=>Nat.le_of_ble_eq_true rfl) (fun _=>[]) ?_
 rintro ⟨s,h⟩ hpre
 have hpre:True:=hpre
 refine by_nf (q:=∃ i1:Scn,[DA.agg [cI s.low.1,cI s.low.2,cI s.high.1,cI s.high.2,DC.sl 61 [.int,.int] (vecsD s.robot),DC.sl 33 [.sl 61 [.int,.int]] (areasD s.obst),DC.sl 61 [.int,.int] (vecsD s.tables)]]=sValid_con.args i1∧sValid_con.pre i1∧(((!(!(validScn i1)))=true→(∃ i2:Int×Int×Int,[DA.one (cI h),DA.one (cI (0:Int)),DA.one (cI (3:Int))]=l01In_con.args i2∧l01In_con.pre i2∧(((!(decide (i2.1≥i2.2.1) && decide (i2.1≤i2.2.2)))=true→((([]:List (List Dat))=vecsD (robotAt s h))))∧((!(decide (i2.1≥i2.2.1) && decide (i2.1≤i2.2.2)))=false→(∃ i3:(List V2)×Int,[DA.one (DC.sl 61 [.int,.int] (vecsD s.robot)),DA.one (cI h)]=sTurnPoly_con.args i3∧sTurnPoly_con.pre i3∧((vecsD (turnPoly i3.1 i3.2.toNat)=vecsD (robotAt s h))))))))∧((!(!(validScn i1)))=false→((([]:List (List Dat))=vecsD (robotAt s h)))))) (by kernel_rfl) ?_
 refine ⟨s,by
  rfl,by
  first|trivial|exact ⟨by omega,by omega,hP.2.2⟩,?_⟩
 refine ⟨fun c4=>?_,fun c4=>?_⟩
 ·skip
  try simp only [nrm] at c4
  refine ⟨(h,(0:Int),(3:Int)),by
   rfl,by
   first|trivial|exact ⟨by omega,by omega,hP.2.2⟩,?_⟩
  refine ⟨fun c8=>?_,fun c8=>?_⟩
  ·skip
   replace c8:(!(decide (h≥(0:Int)) && decide (h≤(3:Int))))=true:=c8
   try simp only [nrm] at c8
   have hE:=robotAt_no (s:=s) (h:=h) (.inr (by omega))
   show ([]:List (List Dat))=vecsD (robotAt s h)
   first|(rw [hE];done)|(rw [hE];rfl)
  ·skip
   replace c8:(!(decide (h≥(0:Int)) && decide (h≤(3:Int))))=false:=c8
   try simp only [nrm] at c8
   have hE:=robotAt_yes c4 (show 0≤h∧h≤3 by omega)
   have hP:=isPoly_len (scn_robot c4)
   refine ⟨(s.robot,h),by
    rfl,by
    show (0≤h∧h≤3)∧s.robot.length≤1048576∧s.robot.all isVec=true
    first|trivial|exact ⟨by omega,by omega,hP.2.2⟩,?_⟩
   show vecsD (turnPoly s.robot h.toNat)=vecsD (robotAt s h)
   first|(rw [hE];done)|(rw [hE];rfl)
 ·skip
  try simp only [nrm] at c4
  have hE:=robotAt_no (h:=h) (.inl c4)
  show ([]:List (List Dat))=vecsD (robotAt s h)
  first|(rw [hE];done)|(rw [hE];rfl)
def orQ (p:Pq):Pq:=if p.good=true then p else ⟨Fr.none,Fr.none⟩
def mvQ (p:Pq) (v:V2):Pq:=orQ ⟨Fr.add p.x (Fr.ofInt v.1),Fr.add p.y (Fr.ofInt v.2)⟩
def goodPt_con:Con:={ ι:=Pq,pre:=fun i=>True,args:=fun i=>[.agg [.im (.bool (decide (i.x.z < 0))),.sl 3 [.int] (L i.x.z.natAbs),.sl 3 [.int] (L i.x.d),.im (.bool (decide (i.y.z < 0))),.sl 3 [.int] (L i.y.z.natAbs),.sl 3 [.int] (L i.y.d)]],res:=fun i=>⟨false,[none],[.im (Value.bool i.good)]⟩ }
set_option maxRecDepth 100000 in
theorem goodPt_ok:goodPt_con.Ok Tryz.prog 89:=by
 refine fn_ok (X:=⟨tt,[(74,isGood_con)],[],11⟩) mixed tt_ok (CTok.cons isGood_ok (CTok.nil _)) Tryz.func89 (by decide) rfl rfl rfl (fun _=>Nat.le_of_ble_eq_true rfl) (fun _=>Nat.le_of_ble_eq_true rfl) (fun _=>[]) ?_
 intro (p:Pq) hpre
 have hpre:True:=hpre
 refine by_nf (q:=∃ i1:Fr,[dF p.x]=isGood_con.args i1∧isGood_con.pre i1∧((i1.good=true→(∃ i2:Fr,[dF p.y]=isGood_con.args i2∧isGood_con.pre i2∧((Value.bool i2.good=Value.bool p.good))))∧(i1.good=false→((Value.bool false=Value.bool p.good))))) (by kernel_rfl) ?_
 refine ⟨p.x,by
  rfl,by
  first|trivial|(first|omega|assumption|exact hpre.1|exact hpre.2|(simp;done)),?_⟩
 refine ⟨fun c4=>?_,fun c4=>?_⟩
 ·skip
  try simp only [nrm] at c4
  refine ⟨p.y,by
   rfl,by
   first|trivial|(first|omega|assumption|exact hpre.1|exact hpre.2|(simp;done)),?_⟩
  show Value.bool p.y.good=Value.bool p.good
  exact congrArg Value.bool (by unfold Pq.good;rw [c4];first|rfl|(rw [Bool.true_and]))
 ·skip
  try simp only [nrm] at c4
  show Value.bool false=Value.bool p.good
  exact congrArg Value.bool (by unfold Pq.good;rw [c4];first|rfl|(rw [Bool.true_and]))
def pointOr_con:Con:={ ι:=Pq,pre:=fun i=>True,args:=fun i=>[.agg [.im (.bool (decide (i.x.z < 0))),.sl 3 [.int] (L i.x.z.natAbs),.sl 3 [.int] (L i.x.d),.im (.bool (decide (i.y.z < 0))),.sl 3 [.int] (L i.y.z.natAbs),.sl 3 [.int] (L i.y.d)]],mu:=[1,2,4,5],gone:=[0,1,2,3],new:=fun i=>[],res:=fun i=>⟨false,[some 6],[.im (Value.bool (decide ((orQ i).x.z < 0))),.own 3 [.int] (L (orQ i).x.z.natAbs),.own 3 [.int] (L (orQ i).x.d),.im (Value.bool (decide ((orQ i).y.z < 0))),.own 3 [.int] (L (orQ i).y.z.natAbs),.own 3 [.int] (L (orQ i).y.d)]⟩ }
set_option maxHeartbeats 1000000 in
theorem pointOr_w (b0 b3 : Bool) (a1 a2 a4 a5 : Option Addr) (n1 n2 n4 n5 c1 c2 c4 c5 : Nat) (g : Bool) (w : World)
    (hg : ∀ w1, Below w.heap.size w w1 → Calls Tryz.prog 89 #[.agg #[.bool b0, .slice a1 n1 c1, .slice a2 n2 c2, .bool b3, .slice a4 n4 c4, .slice a5 n5 c5]] w1 fun e w' => e = .returned (.bool g) ∧ Below w1.heap.size w1 w') :
    Calls Tryz.prog 151 #[.agg #[.bool b0, .slice a1 n1 c1, .slice a2 n2 c2, .bool b3, .slice a4 n4 c4, .slice a5 n5 c5]] w fun e w' =>
      e = .returned (if g = true then .agg #[.bool b0, .slice a1 n1 c1, .slice a2 n2 c2, .bool b3, .slice a4 n4 c4, .slice a5 n5 c5] else .agg #[.bool false, .slice none 0 0, .slice none 0 0, .bool false, .slice none 0 0, .slice none 0 0]) ∧ Below w.heap.size w w' := by
  have HG := Lib.hid hg
  clear hg
  go_enter Tryz.func151, Tryz.ntmps151
  go_wp2_with fail
  refine (HG.out _ (by (repeat (first | with_reducible exact Below.refl _ _ | with_reducible assumption | with_reducible refine Below.drew ?_ | with_reducible refine Below.setCell ?_ ?_ _ | with_reducible refine Below.alloc ?_ ?_ _)); all_goals first | (simp; done) | (simp; omega) | omega)).mono ?_
  rintro e w1 ⟨rfl, h1⟩
  have B1 : Below w.heap.size w w1 := Below.trans (by (repeat (first | with_reducible exact Below.refl _ _ | with_reducible assumption | with_reducible refine Below.drew ?_ | with_reducible refine Below.setCell ?_ ?_ _ | with_reducible refine Below.alloc ?_ ?_ _)); all_goals first | (simp; done) | (simp; omega) | omega) (h1.mono (by first | (simp; done) | (simp; omega) | omega))
  have S1 := h1.size
  have T1 := B1.size
  try simp at S1
  obtain ⟨k1, f1⟩ := bcell h1
  try simp at k1
  try simp at f1
  have Hc1 := Lib.hid h1
  clear h1
  have u1_0 : w.heap.size < w1.heap.size := by omega
  have u1_1 : w.heap.size + 1 < w1.heap.size := by omega
  cases g
  · have qs : ∀ i, i < 6 → (w1.cell? ⟨w.heap.size + 1, 0 + i, none⟩).isSome = true := fun i hi => by
      have : i = 0 ∨ i = 1 ∨ i = 2 ∨ i = 3 ∨ i = 4 ∨ i = 5 := by omega
      rcases this with rfl | rfl | rfl | rfl | rfl | rfl <;> go_simp
    have q0 : ((((((w1.setCell ⟨w.heap.size + 1, 0, none⟩ (.bool false)).setCell ⟨w.heap.size + 1, 1, none⟩ (.slice none 0 0)).setCell ⟨w.heap.size + 1, 2, none⟩ (.slice none 0 0)).setCell ⟨w.heap.size + 1, 3, none⟩ (.bool false)).setCell ⟨w.heap.size + 1, 4, none⟩ (.slice none 0 0)).setCell ⟨w.heap.size + 1, 5, none⟩ (.slice none 0 0)).cell? ⟨w.heap.size + 1, 0, none⟩ = some (.bool false) := (by have q := stN_cell (w.heap.size + 1) [.bool false, .slice none 0 0, .slice none 0 0, .bool false, .slice none 0 0, .slice none 0 0] w1 0 qs 0 (by simp); rw [Nat.zero_add] at q; exact q); have q1 : ((((((w1.setCell ⟨w.heap.size + 1, 0, none⟩ (.bool false)).setCell ⟨w.heap.size + 1, 1, none⟩ (.slice none 0 0)).setCell ⟨w.heap.size + 1, 2, none⟩ (.slice none 0 0)).setCell ⟨w.heap.size + 1, 3, none⟩ (.bool false)).setCell ⟨w.heap.size + 1, 4, none⟩ (.slice none 0 0)).setCell ⟨w.heap.size + 1, 5, none⟩ (.slice none 0 0)).cell? ⟨w.heap.size + 1, 1, none⟩ = some (.slice none 0 0) := (by have q := stN_cell (w.heap.size + 1) [.bool false, .slice none 0 0, .slice none 0 0, .bool false, .slice none 0 0, .slice none 0 0] w1 0 qs 1 (by simp); rw [Nat.zero_add] at q; exact q); have q2 : ((((((w1.setCell ⟨w.heap.size + 1, 0, none⟩ (.bool false)).setCell ⟨w.heap.size + 1, 1, none⟩ (.slice none 0 0)).setCell ⟨w.heap.size + 1, 2, none⟩ (.slice none 0 0)).setCell ⟨w.heap.size + 1, 3, none⟩ (.bool false)).setCell ⟨w.heap.size + 1, 4, none⟩ (.slice none 0 0)).setCell ⟨w.heap.size + 1, 5, none⟩ (.slice none 0 0)).cell? ⟨w.heap.size + 1, 2, none⟩ = some (.slice none 0 0) := (by have q := stN_cell (w.heap.size + 1) [.bool false, .slice none 0 0, .slice none 0 0, .bool false, .slice none 0 0, .slice none 0 0] w1 0 qs 2 (by simp); rw [Nat.zero_add] at q; exact q); have q3 : ((((((w1.setCell ⟨w.heap.size + 1, 0, none⟩ (.bool false)).setCell ⟨w.heap.size + 1, 1, none⟩ (.slice none 0 0)).setCell ⟨w.heap.size + 1, 2, none⟩ (.slice none 0 0)).setCell ⟨w.heap.size + 1, 3, none⟩ (.bool false)).setCell ⟨w.heap.size + 1, 4, none⟩ (.slice none 0 0)).setCell ⟨w.heap.size + 1, 5, none⟩ (.slice none 0 0)).cell? ⟨w.heap.size + 1, 3, none⟩ = some (.bool false) := (by have q := stN_cell (w.heap.size + 1) [.bool false, .slice none 0 0, .slice none 0 0, .bool false, .slice none 0 0, .slice none 0 0] w1 0 qs 3 (by simp); rw [Nat.zero_add] at q; exact q); have q4 : ((((((w1.setCell ⟨w.heap.size + 1, 0, none⟩ (.bool false)).setCell ⟨w.heap.size + 1, 1, none⟩ (.slice none 0 0)).setCell ⟨w.heap.size + 1, 2, none⟩ (.slice none 0 0)).setCell ⟨w.heap.size + 1, 3, none⟩ (.bool false)).setCell ⟨w.heap.size + 1, 4, none⟩ (.slice none 0 0)).setCell ⟨w.heap.size + 1, 5, none⟩ (.slice none 0 0)).cell? ⟨w.heap.size + 1, 4, none⟩ = some (.slice none 0 0) := (by have q := stN_cell (w.heap.size + 1) [.bool false, .slice none 0 0, .slice none 0 0, .bool false, .slice none 0 0, .slice none 0 0] w1 0 qs 4 (by simp); rw [Nat.zero_add] at q; exact q); have q5 : ((((((w1.setCell ⟨w.heap.size + 1, 0, none⟩ (.bool false)).setCell ⟨w.heap.size + 1, 1, none⟩ (.slice none 0 0)).setCell ⟨w.heap.size + 1, 2, none⟩ (.slice none 0 0)).setCell ⟨w.heap.size + 1, 3, none⟩ (.bool false)).setCell ⟨w.heap.size + 1, 4, none⟩ (.slice none 0 0)).setCell ⟨w.heap.size + 1, 5, none⟩ (.slice none 0 0)).cell? ⟨w.heap.size + 1, 5, none⟩ = some (.slice none 0 0) := (by have q := stN_cell (w.heap.size + 1) [.bool false, .slice none 0 0, .slice none 0 0, .bool false, .slice none 0 0, .slice none 0 0] w1 0 qs 5 (by simp); rw [Nat.zero_add] at q; exact q)
    have HQ := Lib.hid (And.intro q0 (And.intro q1 (And.intro q2 (And.intro q3 (And.intro q4 q5)))))
    clear q0 q1 q2 q3 q4 q5 qs
    go_wp2
    obtain ⟨q0, q1, q2, q3, q4, q5⟩ := HQ.out
    exact bodyPost_ret (v := .agg #[.bool false, .slice none 0 0, .slice none 0 0, .bool false, .slice none 0 0, .slice none 0 0]) (by simp [results, Tryz.results151, go_sem, q0, q1, q2, q3, q4, q5]) rfl ⟨rfl, (by (repeat (first | with_reducible exact Below.refl _ _ | with_reducible assumption | with_reducible refine Below.drew ?_ | with_reducible refine Below.setCell ?_ ?_ _ | with_reducible refine Below.alloc ?_ ?_ _)); all_goals first | (simp; done) | (simp; omega) | omega)⟩
  · have qs : ∀ i, i < 6 → (w1.cell? ⟨w.heap.size + 1, 0 + i, none⟩).isSome = true := fun i hi => by
      have : i = 0 ∨ i = 1 ∨ i = 2 ∨ i = 3 ∨ i = 4 ∨ i = 5 := by omega
      rcases this with rfl | rfl | rfl | rfl | rfl | rfl <;> go_simp
    have q0 : ((((((w1.setCell ⟨w.heap.size + 1, 0, none⟩ (.bool b0)).setCell ⟨w.heap.size + 1, 1, none⟩ (.slice a1 n1 c1)).setCell ⟨w.heap.size + 1, 2, none⟩ (.slice a2 n2 c2)).setCell ⟨w.heap.size + 1, 3, none⟩ (.bool b3)).setCell ⟨w.heap.size + 1, 4, none⟩ (.slice a4 n4 c4)).setCell ⟨w.heap.size + 1, 5, none⟩ (.slice a5 n5 c5)).cell? ⟨w.heap.size + 1, 0, none⟩ = some (.bool b0) := (by have q := stN_cell (w.heap.size + 1) [.bool b0, .slice a1 n1 c1, .slice a2 n2 c2, .bool b3, .slice a4 n4 c4, .slice a5 n5 c5] w1 0 qs 0 (by simp); rw [Nat.zero_add] at q; exact q); have q1 : ((((((w1.setCell ⟨w.heap.size + 1, 0, none⟩ (.bool b0)).setCell ⟨w.heap.size + 1, 1, none⟩ (.slice a1 n1 c1)).setCell ⟨w.heap.size + 1, 2, none⟩ (.slice a2 n2 c2)).setCell ⟨w.heap.size + 1, 3, none⟩ (.bool b3)).setCell ⟨w.heap.size + 1, 4, none⟩ (.slice a4 n4 c4)).setCell ⟨w.heap.size + 1, 5, none⟩ (.slice a5 n5 c5)).cell? ⟨w.heap.size + 1, 1, none⟩ = some (.slice a1 n1 c1) := (by have q := stN_cell (w.heap.size + 1) [.bool b0, .slice a1 n1 c1, .slice a2 n2 c2, .bool b3, .slice a4 n4 c4, .slice a5 n5 c5] w1 0 qs 1 (by simp); rw [Nat.zero_add] at q; exact q); have q2 : ((((((w1.setCell ⟨w.heap.size + 1, 0, none⟩ (.bool b0)).setCell ⟨w.heap.size + 1, 1, none⟩ (.slice a1 n1 c1)).setCell ⟨w.heap.size + 1, 2, none⟩ (.slice a2 n2 c2)).setCell ⟨w.heap.size + 1, 3, none⟩ (.bool b3)).setCell ⟨w.heap.size + 1, 4, none⟩ (.slice a4 n4 c4)).setCell ⟨w.heap.size + 1, 5, none⟩ (.slice a5 n5 c5)).cell? ⟨w.heap.size + 1, 2, none⟩ = some (.slice a2 n2 c2) := (by have q := stN_cell (w.heap.size + 1) [.bool b0, .slice a1 n1 c1, .slice a2 n2 c2, .bool b3, .slice a4 n4 c4, .slice a5 n5 c5] w1 0 qs 2 (by simp); rw [Nat.zero_add] at q; exact q); have q3 : ((((((w1.setCell ⟨w.heap.size + 1, 0, none⟩ (.bool b0)).setCell ⟨w.heap.size + 1, 1, none⟩ (.slice a1 n1 c1)).setCell ⟨w.heap.size + 1, 2, none⟩ (.slice a2 n2 c2)).setCell ⟨w.heap.size + 1, 3, none⟩ (.bool b3)).setCell ⟨w.heap.size + 1, 4, none⟩ (.slice a4 n4 c4)).setCell ⟨w.heap.size + 1, 5, none⟩ (.slice a5 n5 c5)).cell? ⟨w.heap.size + 1, 3, none⟩ = some (.bool b3) := (by have q := stN_cell (w.heap.size + 1) [.bool b0, .slice a1 n1 c1, .slice a2 n2 c2, .bool b3, .slice a4 n4 c4, .slice a5 n5 c5] w1 0 qs 3 (by simp); rw [Nat.zero_add] at q; exact q); have q4 : ((((((w1.setCell ⟨w.heap.size + 1, 0, none⟩ (.bool b0)).setCell ⟨w.heap.size + 1, 1, none⟩ (.slice a1 n1 c1)).setCell ⟨w.heap.size + 1, 2, none⟩ (.slice a2 n2 c2)).setCell ⟨w.heap.size + 1, 3, none⟩ (.bool b3)).setCell ⟨w.heap.size + 1, 4, none⟩ (.slice a4 n4 c4)).setCell ⟨w.heap.size + 1, 5, none⟩ (.slice a5 n5 c5)).cell? ⟨w.heap.size + 1, 4, none⟩ = some (.slice a4 n4 c4) := (by have q := stN_cell (w.heap.size + 1) [.bool b0, .slice a1 n1 c1, .slice a2 n2 c2, .bool b3, .slice a4 n4 c4, .slice a5 n5 c5] w1 0 qs 4 (by simp); rw [Nat.zero_add] at q; exact q); have q5 : ((((((w1.setCell ⟨w.heap.size + 1, 0, none⟩ (.bool b0)).setCell ⟨w.heap.size + 1, 1, none⟩ (.slice a1 n1 c1)).setCell ⟨w.heap.size + 1, 2, none⟩ (.slice a2 n2 c2)).setCell ⟨w.heap.size + 1, 3, none⟩ (.bool b3)).setCell ⟨w.heap.size + 1, 4, none⟩ (.slice a4 n4 c4)).setCell ⟨w.heap.size + 1, 5, none⟩ (.slice a5 n5 c5)).cell? ⟨w.heap.size + 1, 5, none⟩ = some (.slice a5 n5 c5) := (by have q := stN_cell (w.heap.size + 1) [.bool b0, .slice a1 n1 c1, .slice a2 n2 c2, .bool b3, .slice a4 n4 c4, .slice a5 n5 c5] w1 0 qs 5 (by simp); rw [Nat.zero_add] at q; exact q)
    have HQ := Lib.hid (And.intro q0 (And.intro q1 (And.intro q2 (And.intro q3 (And.intro q4 q5)))))
    clear q0 q1 q2 q3 q4 q5 qs
    go_wp2
    obtain ⟨q0, q1, q2, q3, q4, q5⟩ := HQ.out
    exact bodyPost_ret (v := .agg #[.bool b0, .slice a1 n1 c1, .slice a2 n2 c2, .bool b3, .slice a4 n4 c4, .slice a5 n5 c5]) (by simp [results, Tryz.results151, go_sem, q0, q1, q2, q3, q4, q5]) rfl ⟨rfl, (by (repeat (first | with_reducible exact Below.refl _ _ | with_reducible assumption | with_reducible refine Below.drew ?_ | with_reducible refine Below.setCell ?_ ?_ _ | with_reducible refine Below.alloc ?_ ?_ _)); all_goals first | (simp; done) | (simp; omega) | omega)⟩
theorem len6 {us:List Value} (h:us.length=6):∃ u0 u1 u2 u3 u4 u5,us=[u0,u1,u2,u3,u4,u5]:=
 match us,h with
 | [_,_,_,_,_,_],_=>⟨_,_,_,_,_,_,rfl⟩
theorem goodPt_call (p : Pq) (us : List Value) (mb : Nat → List Nat) (F : Nat → Prop) (w : World) (h : ArgsAt F w pointOr_con.mu mb ((pointOr_con.args p).flatMap DA.cells) us) (w1 : World) (hb : Below w.heap.size w w1) :
    Calls Tryz.prog 89 #[.agg us.toArray] w1 fun e w' => e = .returned (.bool p.good) ∧ Below w1.heap.size w1 w' := by
  have hrow : ArgsAt (fun b => b < w.heap.size) w1 [] mb ((goodPt_con.args p).flatMap DA.cells) us := by
    refine ⟨h.len, fun b hb' => Nat.lt_of_lt_of_le hb' hb.size, fun q d u hd hu _ => ?_, fun j q hj => by simp at hj, fun i j b _ hi => by simp at hi, fun j b hj => by simp at hj⟩
    by_cases hq : q ∈ pointOr_con.mu
    · obtain ⟨j, hj, hjq⟩ := List.getElem_of_mem hq
      obtain ⟨e, ts, rows, u', e1, e2, f1, _⟩ := h.own j q (by rw [← hjq]; exact List.getElem?_eq_getElem hj)
      have e1' : d = .sl e ts rows := Option.some.inj (hd.symm.trans e1)
      have e2' : u = u' := Option.some.inj (hu.symm.trans e2)
      subst e1' e2'
      exact (RdS.of_fp _ _ _ _ (f1.below hb)).mono (fun b hb' => Fp.lt _ _ _ _ f1 b hb')
    · have := h.rd q d u hd hu hq
      cases d with
      | im v => exact this
      | sl e ts rows =>
        have hc : q = 0 ∨ q = 3 := by
          have hlt := (List.getElem?_eq_some_iff.1 hd).1
          have h6 : ((pointOr_con.args p).flatMap DA.cells).length = 6 := rfl
          have : ((goodPt_con.args p).flatMap DA.cells).length = 6 := rfl
          have hm : pointOr_con.mu = [1, 2, 4, 5] := rfl
          rw [hm] at hq
          simp only [List.mem_cons, List.not_mem_nil, or_false, not_or] at hq
          omega
        rcases hc with rfl | rfl <;> cases hd
      | ro d => exact absurd hd (by
          have hlt := (List.getElem?_eq_some_iff.1 hd).1
          intro hd
          have : ((goodPt_con.args p).flatMap DA.cells).all (fun d => match d with | .ro _ => false | _ => true) = true := rfl
          have := List.all_eq_true.1 this _ (List.mem_of_getElem? hd)
          simp at this)
  have hv : valD (goodPt_con.args p) us = [.agg us.toArray] := valD_one_agg (cells := (goodPt_con.args p).flatMap DA.cells) h.len
  have := goodPt_ok.calls p trivial _ w1 us mb hrow
  rw [hv] at this
  refine this.mono ?_
  rintro e w' ⟨rs, bs, rfl, hp⟩
  have hr := hp.res
  match rs, hr with
  | [u], hr =>
    obtain ⟨rfl, _⟩ := hr
    exact ⟨rfl, hp.os, hp.tape, hp.output, hp.size, fun k hk => hp.keep k hk fun j hj => absurd hj (Nat.not_lt_zero j)⟩
set_option maxRecDepth 100000 in
set_option maxHeartbeats 400000 in
theorem pointOr_ok:pointOr_con.Ok Tryz.prog 151 where
 enter:=⟨_,Tryz.func151,by decide,rfl⟩
 small:=fun _=>Nat.le_of_ble_eq_true rfl
 calls:=by
  intro p _ F w us mb h
  have hg:=goodPt_call p us mb F w h
  have hv:valD (pointOr_con.args p) us=[.agg us.toArray]:=valD_one_agg (cells:=(pointOr_con.args p).flatMap DA.cells) h.len
  rw [hv]
  obtain ⟨u0,u1,u2,u3,u4,u5,rfl⟩:∃ u0 u1 u2 u3 u4 u5,us=[u0,u1,u2,u3,u4,u5]:=len6 h.len
  have r0:u0=.bool (decide (p.x.z < 0)):=h.rd 0 _ _ rfl rfl (by decide)
  have r3:u3=.bool (decide (p.y.z < 0)):=h.rd 3 _ _ rfl rfl (by decide)
  obtain ⟨_,_,_,_,e1,e2,f1,m1⟩:=h.own 0 1 rfl
  cases e1;cases e2
  obtain ⟨_,_,_,_,e1,e2,f2,m2⟩:=h.own 1 2 rfl
  cases e1;cases e2
  obtain ⟨_,_,_,_,e1,e2,f4,m4⟩:=h.own 2 4 rfl
  cases e1;cases e2
  obtain ⟨_,_,_,_,e1,e2,f5,m5⟩:=h.own 3 5 rfl
  cases e1;cases e2
  have dis:=h.dis
  have hl:pointOr_con.mu.length=4:=rfl
  obtain ⟨_,a1,c1,hd1,rfl,-⟩:=Rd.sl_inv (Fp.rd _ _ _ _ f1)
  cases hd1
  obtain ⟨_,a2,c2,hd2,rfl,-⟩:=Rd.sl_inv (Fp.rd _ _ _ _ f2)
  cases hd2
  obtain ⟨_,a4,c4,hd4,rfl,-⟩:=Rd.sl_inv (Fp.rd _ _ _ _ f4)
  cases hd4
  obtain ⟨_,a5,c5,hd5,rfl,-⟩:=Rd.sl_inv (Fp.rd _ _ _ _ f5)
  cases hd5
  subst r0 r3
  refine (pointOr_w _ _ a1 a2 a4 a5 _ _ _ _ c1 c2 c4 c5 p.good w hg).mono ?_
  rintro e w' ⟨rfl,hb⟩
  cases hgd:p.good with
  | true=>
   have hE:orQ p=p:=by unfold orQ;rw [hgd];rfl
   refine ⟨[.bool (decide (p.x.z < 0)),.slice a1 _ c1,.slice a2 _ c2,.bool (decide (p.y.z < 0)),.slice a4 _ c4,.slice a5 _ c5],mb 0++(mb 1++(mb 2++(mb 3++[]))),rfl,⟨?_,?_,?_,?_,hb.os,hb.tape,hb.output,hb.size,fun b hb' _=>hb.block b hb'⟩⟩
   ·show RCsAt F w w' _ (pointOr_con.res p).cells _ _
    simp only [pointOr_con,hE]
    exact ⟨rfl,_,_,rfl,f1.below hb,_,_,rfl,f2.below hb,rfl,_,_,rfl,f4.below hb,_,_,rfl,f5.below hb,rfl⟩
   ·rw [List.append_nil]
    rw [List.nodup_append,List.nodup_append,List.nodup_append]
    refine ⟨m1,⟨m2,⟨m4,m5,fun x hx y hy e=>?_⟩,fun x hx y hy e=>?_⟩,fun x hx y hy e=>?_⟩
    ·subst e;exact dis 2 3 x (by decide) (by decide) (by decide) hx hy
    ·subst e
     rw [List.mem_append] at hy
     rcases hy with hy|hy
     ·exact dis 1 2 x (by decide) (by decide) (by decide) hx hy
     ·exact dis 1 3 x (by decide) (by decide) (by decide) hx hy
    ·subst e
     rw [List.mem_append,List.mem_append] at hy
     rcases hy with hy|hy|hy
     ·exact dis 0 1 x (by decide) (by decide) (by decide) hx hy
     ·exact dis 0 2 x (by decide) (by decide) (by decide) hx hy
     ·exact dis 0 3 x (by decide) (by decide) (by decide) hx hy
   ·intro b hb'
    simp only [List.mem_append,List.not_mem_nil,or_false] at hb'
    rcases hb' with hb' | hb' | hb' | hb'
    ·exact .inr ⟨0,by decide,by decide,hb'⟩
    ·exact .inr ⟨1,by decide,by decide,hb'⟩
    ·exact .inr ⟨2,by decide,by decide,hb'⟩
    ·exact .inr ⟨3,by decide,by decide,hb'⟩
   ·intro j q e ts rows u hj hq
    exfalso
    have hlt:=(List.getElem?_eq_some_iff.1 hq).1
    rw [hl] at hlt
    have:j=0∨j=1∨j=2∨j=3:=by omega
    rcases this with rfl|rfl|rfl|rfl <;> exact hj (by decide)
  | false=>
   have hE:orQ p=⟨Fr.none,Fr.none⟩:=by unfold orQ;rw [hgd];rfl
   have hL:L (Fr.none).z.natAbs=[]:=L_zero
   have hL2:L (Fr.none).d=[]:=L_zero
   refine ⟨[.bool false,.slice none 0 0,.slice none 0 0,.bool false,.slice none 0 0,.slice none 0 0],[]++([]++([]++([]++[]))),rfl,⟨?_,by simp,by simp,?_,hb.os,hb.tape,hb.output,hb.size,fun b hb' _=>hb.block b hb'⟩⟩
   ·show RCsAt F w w' _ (pointOr_con.res p).cells _ _
    simp only [pointOr_con,hE,hL,hL2]
    have hn:∀ e:Nat,Fp w' (.sl e [.int]) (.sl []) (.slice none 0 0) []:=fun e=>by
     simp only [Fp]
     exact ⟨[],[],World.ownsRow_nil _ _ _ _,rfl,rfl,by simp,by simp,by simp [Value.ownBlock]⟩
    exact ⟨rfl,_,_,rfl,hn _,_,_,rfl,hn _,rfl,_,_,rfl,hn _,_,_,rfl,hn _,rfl⟩
   ·intro j q e ts rows u hj hq
    exfalso
    have hlt:=(List.getElem?_eq_some_iff.1 hq).1
    rw [hl] at hlt
    have:j=0∨j=1∨j=2∨j=3:=by omega
    rcases this with rfl|rfl|rfl|rfl <;> exact hj (by decide)
def iMovePt_con:Con:={ ι:=Pq×Int×Int,pre:=fun i=>(-9223372036854775808≤i.2.1∧i.2.1≤9223372036854775807)∧-9223372036854775808≤i.2.2∧i.2.2≤9223372036854775807,args:=fun i=>[.agg [.im (.bool (decide (i.1.x.z < 0))),.sl 3 [.int] (L i.1.x.z.natAbs),.sl 3 [.int] (L i.1.x.d),.im (.bool (decide (i.1.y.z < 0))),.sl 3 [.int] (L i.1.y.z.natAbs),.sl 3 [.int] (L i.1.y.d)],.agg [.im (.int .i64 i.2.1),.im (.int .i64 i.2.2)]],res:=fun i=>⟨false,[some 6],[.im (Value.bool (decide ((mvQ i.1 (i.2.1,i.2.2)).x.z < 0))),.own 3 [.int] (L (mvQ i.1 (i.2.1,i.2.2)).x.z.natAbs),.own 3 [.int] (L (mvQ i.1 (i.2.1,i.2.2)).x.d),.im (Value.bool (decide ((mvQ i.1 (i.2.1,i.2.2)).y.z < 0))),.own 3 [.int] (L (mvQ i.1 (i.2.1,i.2.2)).y.z.natAbs),.own 3 [.int] (L (mvQ i.1 (i.2.1,i.2.2)).y.d)]⟩ }
set_option maxRecDepth 100000 in
theorem iMovePt_ok:iMovePt_con.Ok Tryz.prog 88:=by
 refine fn_ok (X:=⟨tt,[(76,ratInt_con),(152,ratAdd_con),(151,pointOr_con)],[],19⟩) mixed tt_ok (CTok.cons ratInt_ok (CTok.cons ratAdd_ok (CTok.cons pointOr_ok (CTok.nil _)))) Tryz.func88 (by decide) rfl rfl rfl (fun _=>Nat.le_of_ble_eq_true rfl) (fun _=>Nat.le_of_ble_eq_true rfl) (fun _=>[]) ?_
 rintro ⟨p,x,y⟩ hpre
 have hpre:(-9223372036854775808≤x∧x≤9223372036854775807)∧-9223372036854775808≤y∧y≤9223372036854775807:=hpre
 refine by_nf (q:=∃ i1:Int,[DA.one (cI x)]=ratInt_con.args i1∧ratInt_con.pre i1∧(∃ i2:Fr×Fr,[dF p.x,dF (Fr.ofInt i1)]=ratAdd_con.args i2∧ratAdd_con.pre i2∧(∃ i3:Int,[DA.one (cI y)]=ratInt_con.args i3∧ratInt_con.pre i3∧(∃ i4:Fr×Fr,[dF p.y,dF (Fr.ofInt i3)]=ratAdd_con.args i4∧ratAdd_con.pre i4∧(∃ i5:Pq,[DA.agg [cB (decide ((Fr.add i2.1 i2.2).z < 0)),cS (L (Fr.add i2.1 i2.2).z.natAbs),cS (L (Fr.add i2.1 i2.2).d),cB (decide ((Fr.add i4.1 i4.2).z < 0)),cS (L (Fr.add i4.1 i4.2).z.natAbs),cS (L (Fr.add i4.1 i4.2).d)]]=pointOr_con.args i5∧pointOr_con.pre i5∧((eqD ((orQ i5).x) ((mvQ p (x,y)).x) ((eqC ((orQ i5).y) ((mvQ p (x,y)).y)))))))))) (by kernel_rfl) ?_
 refine ⟨x,by
  rfl,by
  show -9223372036854775808≤x∧x≤9223372036854775807
  first|trivial|exact hpre.1|exact hpre.2,?_⟩
 refine ⟨(p.x,(Fr.ofInt x)),by
  rfl,by
  first|trivial|exact hpre.1|exact hpre.2,?_⟩
 refine ⟨y,by
  rfl,by
  show -9223372036854775808≤y∧y≤9223372036854775807
  first|trivial|exact hpre.1|exact hpre.2,?_⟩
 refine ⟨(p.y,(Fr.ofInt y)),by
  rfl,by
  first|trivial|exact hpre.1|exact hpre.2,?_⟩
 refine ⟨(⟨Fr.add p.x (Fr.ofInt x),Fr.add p.y (Fr.ofInt y)⟩:Pq),by
  rfl,by
  first|trivial|exact hpre.1|exact hpre.2,?_⟩
 refine eqD_of ?_ (eqC_of ?_)
 ·rfl
 rfl
def l05Valid_con:Con:={ ι:=Pq,pre:=fun i=>True,args:=fun i=>[.agg [.im (.bool (decide (i.x.z < 0))),.sl 3 [.int] (L i.x.z.natAbs),.sl 3 [.int] (L i.x.d),.im (.bool (decide (i.y.z < 0))),.sl 3 [.int] (L i.y.z.natAbs),.sl 3 [.int] (L i.y.d)]],mu:=[1,2,4,5],gone:=[0,1,2,3],new:=fun i=>[],res:=fun i=>⟨false,[some 6],[.im (Value.bool (decide ((orQ i).x.z < 0))),.own 3 [.int] (L (orQ i).x.z.natAbs),.own 3 [.int] (L (orQ i).x.d),.im (Value.bool (decide ((orQ i).y.z < 0))),.own 3 [.int] (L (orQ i).y.z.natAbs),.own 3 [.int] (L (orQ i).y.d)]⟩ }
set_option maxHeartbeats 1000000 in
theorem l05Valid_w (b0 b3 : Bool) (a1 a2 a4 a5 : Option Addr) (n1 n2 n4 n5 c1 c2 c4 c5 : Nat) (g : Bool) (w : World)
    (hg : ∀ w1, Below w.heap.size w w1 → Calls Tryz.prog 60 #[.agg #[.bool b0, .slice a1 n1 c1, .slice a2 n2 c2, .bool b3, .slice a4 n4 c4, .slice a5 n5 c5]] w1 fun e w' => e = .returned (.bool g) ∧ Below w1.heap.size w1 w') :
    Calls Tryz.prog 148 #[.agg #[.bool b0, .slice a1 n1 c1, .slice a2 n2 c2, .bool b3, .slice a4 n4 c4, .slice a5 n5 c5]] w fun e w' =>
      e = .returned (if g = true then .agg #[.bool b0, .slice a1 n1 c1, .slice a2 n2 c2, .bool b3, .slice a4 n4 c4, .slice a5 n5 c5] else .agg #[.bool false, .slice none 0 0, .slice none 0 0, .bool false, .slice none 0 0, .slice none 0 0]) ∧ Below w.heap.size w w' := by
  have HG := Lib.hid hg
  clear hg
  go_enter Tryz.func148, Tryz.ntmps148
  go_wp2_with fail
  refine (HG.out _ (by (repeat (first | with_reducible exact Below.refl _ _ | with_reducible assumption | with_reducible refine Below.drew ?_ | with_reducible refine Below.setCell ?_ ?_ _ | with_reducible refine Below.alloc ?_ ?_ _)); all_goals first | (simp; done) | (simp; omega) | omega)).mono ?_
  rintro e w1 ⟨rfl, h1⟩
  have B1 : Below w.heap.size w w1 := Below.trans (by (repeat (first | with_reducible exact Below.refl _ _ | with_reducible assumption | with_reducible refine Below.drew ?_ | with_reducible refine Below.setCell ?_ ?_ _ | with_reducible refine Below.alloc ?_ ?_ _)); all_goals first | (simp; done) | (simp; omega) | omega) (h1.mono (by first | (simp; done) | (simp; omega) | omega))
  have S1 := h1.size
  have T1 := B1.size
  try simp at S1
  obtain ⟨k1, f1⟩ := bcell h1
  try simp at k1
  try simp at f1
  have Hc1 := Lib.hid h1
  clear h1
  have u1_0 : w.heap.size < w1.heap.size := by omega
  have u1_1 : w.heap.size + 1 < w1.heap.size := by omega
  cases g
  · have qs : ∀ i, i < 6 → (w1.cell? ⟨w.heap.size + 1, 0 + i, none⟩).isSome = true := fun i hi => by
      have : i = 0 ∨ i = 1 ∨ i = 2 ∨ i = 3 ∨ i = 4 ∨ i = 5 := by omega
      rcases this with rfl | rfl | rfl | rfl | rfl | rfl <;> go_simp
    have q0 : ((((((w1.setCell ⟨w.heap.size + 1, 0, none⟩ (.bool false)).setCell ⟨w.heap.size + 1, 1, none⟩ (.slice none 0 0)).setCell ⟨w.heap.size + 1, 2, none⟩ (.slice none 0 0)).setCell ⟨w.heap.size + 1, 3, none⟩ (.bool false)).setCell ⟨w.heap.size + 1, 4, none⟩ (.slice none 0 0)).setCell ⟨w.heap.size + 1, 5, none⟩ (.slice none 0 0)).cell? ⟨w.heap.size + 1, 0, none⟩ = some (.bool false) := (by have q := stN_cell (w.heap.size + 1) [.bool false, .slice none 0 0, .slice none 0 0, .bool false, .slice none 0 0, .slice none 0 0] w1 0 qs 0 (by simp); rw [Nat.zero_add] at q; exact q); have q1 : ((((((w1.setCell ⟨w.heap.size + 1, 0, none⟩ (.bool false)).setCell ⟨w.heap.size + 1, 1, none⟩ (.slice none 0 0)).setCell ⟨w.heap.size + 1, 2, none⟩ (.slice none 0 0)).setCell ⟨w.heap.size + 1, 3, none⟩ (.bool false)).setCell ⟨w.heap.size + 1, 4, none⟩ (.slice none 0 0)).setCell ⟨w.heap.size + 1, 5, none⟩ (.slice none 0 0)).cell? ⟨w.heap.size + 1, 1, none⟩ = some (.slice none 0 0) := (by have q := stN_cell (w.heap.size + 1) [.bool false, .slice none 0 0, .slice none 0 0, .bool false, .slice none 0 0, .slice none 0 0] w1 0 qs 1 (by simp); rw [Nat.zero_add] at q; exact q); have q2 : ((((((w1.setCell ⟨w.heap.size + 1, 0, none⟩ (.bool false)).setCell ⟨w.heap.size + 1, 1, none⟩ (.slice none 0 0)).setCell ⟨w.heap.size + 1, 2, none⟩ (.slice none 0 0)).setCell ⟨w.heap.size + 1, 3, none⟩ (.bool false)).setCell ⟨w.heap.size + 1, 4, none⟩ (.slice none 0 0)).setCell ⟨w.heap.size + 1, 5, none⟩ (.slice none 0 0)).cell? ⟨w.heap.size + 1, 2, none⟩ = some (.slice none 0 0) := (by have q := stN_cell (w.heap.size + 1) [.bool false, .slice none 0 0, .slice none 0 0, .bool false, .slice none 0 0, .slice none 0 0] w1 0 qs 2 (by simp); rw [Nat.zero_add] at q; exact q); have q3 : ((((((w1.setCell ⟨w.heap.size + 1, 0, none⟩ (.bool false)).setCell ⟨w.heap.size + 1, 1, none⟩ (.slice none 0 0)).setCell ⟨w.heap.size + 1, 2, none⟩ (.slice none 0 0)).setCell ⟨w.heap.size + 1, 3, none⟩ (.bool false)).setCell ⟨w.heap.size + 1, 4, none⟩ (.slice none 0 0)).setCell ⟨w.heap.size + 1, 5, none⟩ (.slice none 0 0)).cell? ⟨w.heap.size + 1, 3, none⟩ = some (.bool false) := (by have q := stN_cell (w.heap.size + 1) [.bool false, .slice none 0 0, .slice none 0 0, .bool false, .slice none 0 0, .slice none 0 0] w1 0 qs 3 (by simp); rw [Nat.zero_add] at q; exact q); have q4 : ((((((w1.setCell ⟨w.heap.size + 1, 0, none⟩ (.bool false)).setCell ⟨w.heap.size + 1, 1, none⟩ (.slice none 0 0)).setCell ⟨w.heap.size + 1, 2, none⟩ (.slice none 0 0)).setCell ⟨w.heap.size + 1, 3, none⟩ (.bool false)).setCell ⟨w.heap.size + 1, 4, none⟩ (.slice none 0 0)).setCell ⟨w.heap.size + 1, 5, none⟩ (.slice none 0 0)).cell? ⟨w.heap.size + 1, 4, none⟩ = some (.slice none 0 0) := (by have q := stN_cell (w.heap.size + 1) [.bool false, .slice none 0 0, .slice none 0 0, .bool false, .slice none 0 0, .slice none 0 0] w1 0 qs 4 (by simp); rw [Nat.zero_add] at q; exact q); have q5 : ((((((w1.setCell ⟨w.heap.size + 1, 0, none⟩ (.bool false)).setCell ⟨w.heap.size + 1, 1, none⟩ (.slice none 0 0)).setCell ⟨w.heap.size + 1, 2, none⟩ (.slice none 0 0)).setCell ⟨w.heap.size + 1, 3, none⟩ (.bool false)).setCell ⟨w.heap.size + 1, 4, none⟩ (.slice none 0 0)).setCell ⟨w.heap.size + 1, 5, none⟩ (.slice none 0 0)).cell? ⟨w.heap.size + 1, 5, none⟩ = some (.slice none 0 0) := (by have q := stN_cell (w.heap.size + 1) [.bool false, .slice none 0 0, .slice none 0 0, .bool false, .slice none 0 0, .slice none 0 0] w1 0 qs 5 (by simp); rw [Nat.zero_add] at q; exact q)
    have HQ := Lib.hid (And.intro q0 (And.intro q1 (And.intro q2 (And.intro q3 (And.intro q4 q5)))))
    clear q0 q1 q2 q3 q4 q5 qs
    go_wp2
    obtain ⟨q0, q1, q2, q3, q4, q5⟩ := HQ.out
    exact bodyPost_ret (v := .agg #[.bool false, .slice none 0 0, .slice none 0 0, .bool false, .slice none 0 0, .slice none 0 0]) (by simp [results, Tryz.results148, go_sem, q0, q1, q2, q3, q4, q5]) rfl ⟨rfl, (by (repeat (first | with_reducible exact Below.refl _ _ | with_reducible assumption | with_reducible refine Below.drew ?_ | with_reducible refine Below.setCell ?_ ?_ _ | with_reducible refine Below.alloc ?_ ?_ _)); all_goals first | (simp; done) | (simp; omega) | omega)⟩
  · have qs : ∀ i, i < 6 → (w1.cell? ⟨w.heap.size + 1, 0 + i, none⟩).isSome = true := fun i hi => by
      have : i = 0 ∨ i = 1 ∨ i = 2 ∨ i = 3 ∨ i = 4 ∨ i = 5 := by omega
      rcases this with rfl | rfl | rfl | rfl | rfl | rfl <;> go_simp
    have q0 : ((((((w1.setCell ⟨w.heap.size + 1, 0, none⟩ (.bool b0)).setCell ⟨w.heap.size + 1, 1, none⟩ (.slice a1 n1 c1)).setCell ⟨w.heap.size + 1, 2, none⟩ (.slice a2 n2 c2)).setCell ⟨w.heap.size + 1, 3, none⟩ (.bool b3)).setCell ⟨w.heap.size + 1, 4, none⟩ (.slice a4 n4 c4)).setCell ⟨w.heap.size + 1, 5, none⟩ (.slice a5 n5 c5)).cell? ⟨w.heap.size + 1, 0, none⟩ = some (.bool b0) := (by have q := stN_cell (w.heap.size + 1) [.bool b0, .slice a1 n1 c1, .slice a2 n2 c2, .bool b3, .slice a4 n4 c4, .slice a5 n5 c5] w1 0 qs 0 (by simp); rw [Nat.zero_add] at q; exact q); have q1 : ((((((w1.setCell ⟨w.heap.size + 1, 0, none⟩ (.bool b0)).setCell ⟨w.heap.size + 1, 1, none⟩ (.slice a1 n1 c1)).setCell ⟨w.heap.size + 1, 2, none⟩ (.slice a2 n2 c2)).setCell ⟨w.heap.size + 1, 3, none⟩ (.bool b3)).setCell ⟨w.heap.size + 1, 4, none⟩ (.slice a4 n4 c4)).setCell ⟨w.heap.size + 1, 5, none⟩ (.slice a5 n5 c5)).cell? ⟨w.heap.size + 1, 1, none⟩ = some (.slice a1 n1 c1) := (by have q := stN_cell (w.heap.size + 1) [.bool b0, .slice a1 n1 c1, .slice a2 n2 c2, .bool b3, .slice a4 n4 c4, .slice a5 n5 c5] w1 0 qs 1 (by simp); rw [Nat.zero_add] at q; exact q); have q2 : ((((((w1.setCell ⟨w.heap.size + 1, 0, none⟩ (.bool b0)).setCell ⟨w.heap.size + 1, 1, none⟩ (.slice a1 n1 c1)).setCell ⟨w.heap.size + 1, 2, none⟩ (.slice a2 n2 c2)).setCell ⟨w.heap.size + 1, 3, none⟩ (.bool b3)).setCell ⟨w.heap.size + 1, 4, none⟩ (.slice a4 n4 c4)).setCell ⟨w.heap.size + 1, 5, none⟩ (.slice a5 n5 c5)).cell? ⟨w.heap.size + 1, 2, none⟩ = some (.slice a2 n2 c2) := (by have q := stN_cell (w.heap.size + 1) [.bool b0, .slice a1 n1 c1, .slice a2 n2 c2, .bool b3, .slice a4 n4 c4, .slice a5 n5 c5] w1 0 qs 2 (by simp); rw [Nat.zero_add] at q; exact q); have q3 : ((((((w1.setCell ⟨w.heap.size + 1, 0, none⟩ (.bool b0)).setCell ⟨w.heap.size + 1, 1, none⟩ (.slice a1 n1 c1)).setCell ⟨w.heap.size + 1, 2, none⟩ (.slice a2 n2 c2)).setCell ⟨w.heap.size + 1, 3, none⟩ (.bool b3)).setCell ⟨w.heap.size + 1, 4, none⟩ (.slice a4 n4 c4)).setCell ⟨w.heap.size + 1, 5, none⟩ (.slice a5 n5 c5)).cell? ⟨w.heap.size + 1, 3, none⟩ = some (.bool b3) := (by have q := stN_cell (w.heap.size + 1) [.bool b0, .slice a1 n1 c1, .slice a2 n2 c2, .bool b3, .slice a4 n4 c4, .slice a5 n5 c5] w1 0 qs 3 (by simp); rw [Nat.zero_add] at q; exact q); have q4 : ((((((w1.setCell ⟨w.heap.size + 1, 0, none⟩ (.bool b0)).setCell ⟨w.heap.size + 1, 1, none⟩ (.slice a1 n1 c1)).setCell ⟨w.heap.size + 1, 2, none⟩ (.slice a2 n2 c2)).setCell ⟨w.heap.size + 1, 3, none⟩ (.bool b3)).setCell ⟨w.heap.size + 1, 4, none⟩ (.slice a4 n4 c4)).setCell ⟨w.heap.size + 1, 5, none⟩ (.slice a5 n5 c5)).cell? ⟨w.heap.size + 1, 4, none⟩ = some (.slice a4 n4 c4) := (by have q := stN_cell (w.heap.size + 1) [.bool b0, .slice a1 n1 c1, .slice a2 n2 c2, .bool b3, .slice a4 n4 c4, .slice a5 n5 c5] w1 0 qs 4 (by simp); rw [Nat.zero_add] at q; exact q); have q5 : ((((((w1.setCell ⟨w.heap.size + 1, 0, none⟩ (.bool b0)).setCell ⟨w.heap.size + 1, 1, none⟩ (.slice a1 n1 c1)).setCell ⟨w.heap.size + 1, 2, none⟩ (.slice a2 n2 c2)).setCell ⟨w.heap.size + 1, 3, none⟩ (.bool b3)).setCell ⟨w.heap.size + 1, 4, none⟩ (.slice a4 n4 c4)).setCell ⟨w.heap.size + 1, 5, none⟩ (.slice a5 n5 c5)).cell? ⟨w.heap.size + 1, 5, none⟩ = some (.slice a5 n5 c5) := (by have q := stN_cell (w.heap.size + 1) [.bool b0, .slice a1 n1 c1, .slice a2 n2 c2, .bool b3, .slice a4 n4 c4, .slice a5 n5 c5] w1 0 qs 5 (by simp); rw [Nat.zero_add] at q; exact q)
    have HQ := Lib.hid (And.intro q0 (And.intro q1 (And.intro q2 (And.intro q3 (And.intro q4 q5)))))
    clear q0 q1 q2 q3 q4 q5 qs
    go_wp2
    obtain ⟨q0, q1, q2, q3, q4, q5⟩ := HQ.out
    exact bodyPost_ret (v := .agg #[.bool b0, .slice a1 n1 c1, .slice a2 n2 c2, .bool b3, .slice a4 n4 c4, .slice a5 n5 c5]) (by simp [results, Tryz.results148, go_sem, q0, q1, q2, q3, q4, q5]) rfl ⟨rfl, (by (repeat (first | with_reducible exact Below.refl _ _ | with_reducible assumption | with_reducible refine Below.drew ?_ | with_reducible refine Below.setCell ?_ ?_ _ | with_reducible refine Below.alloc ?_ ?_ _)); all_goals first | (simp; done) | (simp; omega) | omega)⟩
theorem validPt_call (p : Pq) (us : List Value) (mb : Nat → List Nat) (F : Nat → Prop) (w : World) (h : ArgsAt F w l05Valid_con.mu mb ((l05Valid_con.args p).flatMap DA.cells) us) (w1 : World) (hb : Below w.heap.size w w1) :
    Calls Tryz.prog 60 #[.agg us.toArray] w1 fun e w' => e = .returned (.bool p.good) ∧ Below w1.heap.size w1 w' := by
  have hrow : ArgsAt (fun b => b < w.heap.size) w1 [] mb ((sIsPt_con.args (ptQ p, p.good)).flatMap DA.cells) us := by
    refine ⟨h.len, fun b hb' => Nat.lt_of_lt_of_le hb' hb.size, fun q d u hd hu _ => ?_, fun j q hj => by simp at hj, fun i j b _ hi => by simp at hi, fun j b hj => by simp at hj⟩
    by_cases hq : q ∈ l05Valid_con.mu
    · obtain ⟨j, hj, hjq⟩ := List.getElem_of_mem hq
      obtain ⟨e, ts, rows, u', e1, e2, f1, _⟩ := h.own j q (by rw [← hjq]; exact List.getElem?_eq_getElem hj)
      have e1' : d = .sl e ts rows := Option.some.inj (hd.symm.trans e1)
      have e2' : u = u' := Option.some.inj (hu.symm.trans e2)
      subst e1' e2'
      exact (RdS.of_fp _ _ _ _ (f1.below hb)).mono (fun b hb' => Fp.lt _ _ _ _ f1 b hb')
    · have := h.rd q d u hd hu hq
      cases d with
      | im v => exact this
      | sl e ts rows =>
        have hc : q = 0 ∨ q = 3 := by
          have hlt := (List.getElem?_eq_some_iff.1 hd).1
          have h6 : ((l05Valid_con.args p).flatMap DA.cells).length = 6 := rfl
          have : ((sIsPt_con.args (ptQ p, p.good)).flatMap DA.cells).length = 6 := rfl
          have hm : l05Valid_con.mu = [1, 2, 4, 5] := rfl
          rw [hm] at hq
          simp only [List.mem_cons, List.not_mem_nil, or_false, not_or] at hq
          omega
        rcases hc with rfl | rfl <;> cases hd
      | ro d => exact absurd hd (by
          have hlt := (List.getElem?_eq_some_iff.1 hd).1
          intro hd
          have : ((sIsPt_con.args (ptQ p, p.good)).flatMap DA.cells).all (fun d => match d with | .ro _ => false | _ => true) = true := rfl
          have := List.all_eq_true.1 this _ (List.mem_of_getElem? hd)
          simp at this)
  have hv : valD (sIsPt_con.args (ptQ p, p.good)) us = [.agg us.toArray] := valD_one_agg (cells := (sIsPt_con.args (ptQ p, p.good)).flatMap DA.cells) h.len
  have := sIsPt_ok.calls (ptQ p, p.good) ⟨ptQ_has _, ptQ_ok _⟩ _ w1 us mb hrow
  rw [hv] at this
  refine this.mono ?_
  rintro e w' ⟨rs, bs, rfl, hp⟩
  have hr := hp.res
  match rs, hr with
  | [u], hr =>
    obtain ⟨rfl, _⟩ := hr
    exact ⟨rfl, hp.os, hp.tape, hp.output, hp.size, fun k hk => hp.keep k hk fun j hj => absurd hj (Nat.not_lt_zero j)⟩
set_option maxRecDepth 100000 in
set_option maxHeartbeats 400000 in
theorem l05Valid_ok:l05Valid_con.Ok Tryz.prog 148 where
 enter:=⟨_,Tryz.func148,by decide,rfl⟩
 small:=fun _=>Nat.le_of_ble_eq_true rfl
 calls:=by
  intro p _ F w us mb h
  have hg:=validPt_call p us mb F w h
  have hv:valD (l05Valid_con.args p) us=[.agg us.toArray]:=valD_one_agg (cells:=(l05Valid_con.args p).flatMap DA.cells) h.len
  rw [hv]
  obtain ⟨u0,u1,u2,u3,u4,u5,rfl⟩:∃ u0 u1 u2 u3 u4 u5,us=[u0,u1,u2,u3,u4,u5]:=len6 h.len
  have r0:u0=.bool (decide (p.x.z < 0)):=h.rd 0 _ _ rfl rfl (by decide)
  have r3:u3=.bool (decide (p.y.z < 0)):=h.rd 3 _ _ rfl rfl (by decide)
  obtain ⟨_,_,_,_,e1,e2,f1,m1⟩:=h.own 0 1 rfl
  cases e1;cases e2
  obtain ⟨_,_,_,_,e1,e2,f2,m2⟩:=h.own 1 2 rfl
  cases e1;cases e2
  obtain ⟨_,_,_,_,e1,e2,f4,m4⟩:=h.own 2 4 rfl
  cases e1;cases e2
  obtain ⟨_,_,_,_,e1,e2,f5,m5⟩:=h.own 3 5 rfl
  cases e1;cases e2
  have dis:=h.dis
  have hl:l05Valid_con.mu.length=4:=rfl
  obtain ⟨_,a1,c1,hd1,rfl,-⟩:=Rd.sl_inv (Fp.rd _ _ _ _ f1)
  cases hd1
  obtain ⟨_,a2,c2,hd2,rfl,-⟩:=Rd.sl_inv (Fp.rd _ _ _ _ f2)
  cases hd2
  obtain ⟨_,a4,c4,hd4,rfl,-⟩:=Rd.sl_inv (Fp.rd _ _ _ _ f4)
  cases hd4
  obtain ⟨_,a5,c5,hd5,rfl,-⟩:=Rd.sl_inv (Fp.rd _ _ _ _ f5)
  cases hd5
  subst r0 r3
  refine (l05Valid_w _ _ a1 a2 a4 a5 _ _ _ _ c1 c2 c4 c5 p.good w hg).mono ?_
  rintro e w' ⟨rfl,hb⟩
  cases hgd:p.good with
  | true=>
   have hE:orQ p=p:=by unfold orQ;rw [hgd];rfl
   refine ⟨[.bool (decide (p.x.z < 0)),.slice a1 _ c1,.slice a2 _ c2,.bool (decide (p.y.z < 0)),.slice a4 _ c4,.slice a5 _ c5],mb 0++(mb 1++(mb 2++(mb 3++[]))),rfl,⟨?_,?_,?_,?_,hb.os,hb.tape,hb.output,hb.size,fun b hb' _=>hb.block b hb'⟩⟩
   ·show RCsAt F w w' _ (l05Valid_con.res p).cells _ _
    simp only [l05Valid_con,hE]
    exact ⟨rfl,_,_,rfl,f1.below hb,_,_,rfl,f2.below hb,rfl,_,_,rfl,f4.below hb,_,_,rfl,f5.below hb,rfl⟩
   ·rw [List.append_nil]
    rw [List.nodup_append,List.nodup_append,List.nodup_append]
    refine ⟨m1,⟨m2,⟨m4,m5,fun x hx y hy e=>?_⟩,fun x hx y hy e=>?_⟩,fun x hx y hy e=>?_⟩
    ·subst e;exact dis 2 3 x (by decide) (by decide) (by decide) hx hy
    ·subst e
     rw [List.mem_append] at hy
     rcases hy with hy|hy
     ·exact dis 1 2 x (by decide) (by decide) (by decide) hx hy
     ·exact dis 1 3 x (by decide) (by decide) (by decide) hx hy
    ·subst e
     rw [List.mem_append,List.mem_append] at hy
     rcases hy with hy|hy|hy
     ·exact dis 0 1 x (by decide) (by decide) (by decide) hx hy
     ·exact dis 0 2 x (by decide) (by decide) (by decide) hx hy
     ·exact dis 0 3 x (by decide) (by decide) (by decide) hx hy
   ·intro b hb'
    simp only [List.mem_append,List.not_mem_nil,or_false] at hb'
    rcases hb' with hb' | hb' | hb' | hb'
    ·exact .inr ⟨0,by decide,by decide,hb'⟩
    ·exact .inr ⟨1,by decide,by decide,hb'⟩
    ·exact .inr ⟨2,by decide,by decide,hb'⟩
    ·exact .inr ⟨3,by decide,by decide,hb'⟩
   ·intro j q e ts rows u hj hq
    exfalso
    have hlt:=(List.getElem?_eq_some_iff.1 hq).1
    rw [hl] at hlt
    have:j=0∨j=1∨j=2∨j=3:=by omega
    rcases this with rfl|rfl|rfl|rfl <;> exact hj (by decide)
  | false=>
   have hE:orQ p=⟨Fr.none,Fr.none⟩:=by unfold orQ;rw [hgd];rfl
   have hL:L (Fr.none).z.natAbs=[]:=L_zero
   have hL2:L (Fr.none).d=[]:=L_zero
   refine ⟨[.bool false,.slice none 0 0,.slice none 0 0,.bool false,.slice none 0 0,.slice none 0 0],[]++([]++([]++([]++[]))),rfl,⟨?_,by simp,by simp,?_,hb.os,hb.tape,hb.output,hb.size,fun b hb' _=>hb.block b hb'⟩⟩
   ·show RCsAt F w w' _ (l05Valid_con.res p).cells _ _
    simp only [l05Valid_con,hE,hL,hL2]
    have hn:∀ e:Nat,Fp w' (.sl e [.int]) (.sl []) (.slice none 0 0) []:=fun e=>by
     simp only [Fp]
     exact ⟨[],[],World.ownsRow_nil _ _ _ _,rfl,rfl,by simp,by simp,by simp [Value.ownBlock]⟩
    exact ⟨rfl,_,_,rfl,hn _,_,_,rfl,hn _,rfl,_,_,rfl,hn _,_,_,rfl,hn _,rfl⟩
   ·intro j q e ts rows u hj hq
    exfalso
    have hlt:=(List.getElem?_eq_some_iff.1 hq).1
    rw [hl] at hlt
    have:j=0∨j=1∨j=2∨j=3:=by omega
    rcases this with rfl|rfl|rfl|rfl <;> exact hj (by decide)
def addRD (r:RatD) (s:Fr):Fr:=if okR r=true then Fr.add (frR r) s else Fr.none
theorem addRD_yes {r:RatD} {s:Fr} (h:okR r=true):addRD r s=Fr.add (frR r) s:=by unfold addRD;rw [if_pos h]
theorem addRD_no {r:RatD} {s:Fr} (h:okR r=false):addRD r s=Fr.none:=by unfold addRD;rw [if_neg (by rw [h];simp)]
def mvR (p:PtD) (v:V2):Pq:=orQ ⟨addRD p.x (Fr.ofInt v.1),addRD p.y (Fr.ofInt v.2)⟩
theorem mvR_yes {p:PtD} (h:okP p=true) (v:V2):mvR p v=mvQ (pqR p) v:=by
 have h2:=okP_both h
 unfold mvR mvQ
 rw [addRD_yes h2.1,addRD_yes h2.2];rfl
theorem orQ_none {p:Pq} (h:p.good=false):orQ p=⟨Fr.none,Fr.none⟩:=by unfold orQ;rw [if_neg (by rw [h];simp)]
theorem mvR_no {p:PtD} (h:okP p=false) (v:V2):(mvR p v).good=false:=by
 have:(⟨addRD p.x (Fr.ofInt v.1),addRD p.y (Fr.ofInt v.2)⟩:Pq).good=false:=by
  unfold okP at h
  rw [Bool.and_eq_false_iff] at h
  unfold Pq.good
  rcases h with h|h
  ·rw [addRD_no h];rfl
  ·rw [addRD_no h];exact Bool.and_false _
 unfold mvR
 rw [orQ_none this];rfl
def corT (p:PtD) (l:List V2):List (List Dat):=l.map fun v=>pqRow (mvR p v)
def corR (s:Scn) (h:Int) (p:PtD):List (List Dat):=if (robotAt s h).all (fun v=>(mvR p v).good)=true then corT p (robotAt s h) else []
theorem corT_len (p:PtD) (l:List V2):(corT p l).length=l.length:=by simp [corT]
theorem corT_snoc {p:PtD} {l:List V2} {k:Nat} (hk:k < l.length):corT p (l.take k)++[pqRow (mvR p (l.getD k (0,0)))]=corT p (l.take (k+1)):=by
 rw [take_snoc' l (0,0) k hk];simp [corT]
theorem cor_nil {s:Scn} {h:Int} {p:PtD} (e:robotAt s h=[]):corR s h p=[]:=by unfold corR corT;rw [e];simp
theorem cor_bad {s:Scn} {h:Int} {p:PtD} {k:Nat} (hk:k < (robotAt s h).length) (hb:(mvR p ((robotAt s h).getD k (0,0))).good=false):corR s h p=[]:=by
 unfold corR
 rw [if_neg]
 intro hall
 have:=List.all_eq_true.1 hall ((robotAt s h).getD k (0,0)) (by simp [List.getD,hk])
 rw [hb] at this;cases this
theorem cor_no {s:Scn} {h:Int} {p:PtD} (hb:okP p=false):corR s h p=[]:=by
 by_cases e:robotAt s h=[]
 ·exact cor_nil e
 ·exact cor_bad (k:=0) (List.length_pos_iff.2 e) (mvR_no hb _)
theorem cor_yes {s:Scn} {h:Int} {p:PtD} (hg:∀ j,j < (robotAt s h).length→(mvR p ((robotAt s h).getD j (0,0))).good=true):corR s h p=corT p (robotAt s h):=by
 unfold corR
 rw [if_pos]
 rw [List.all_eq_true]
 intro x hx
 obtain ⟨j,hj,rfl⟩:=List.getElem_of_mem hx
 have:=hg j hj
 simpa [List.getD,hj] using this
theorem vecs_nil {l:List V2} (h:vecsD l=[]):l=[]:=by
 have:=vecsD_length l
 rw [h] at this
 exact List.eq_nil_of_length_eq_zero this.symm
theorem ofInt_good {n:Int} (h:-9223372036854775808≤n∧n≤9223372036854775807):(Fr.ofInt n).good=true:=Fr.good_some (ofInt_v (int_nl h))
def sRatAddR_con:Con:={ ι:=RatD×Fr,pre:=fun i=>i.1.has∧i.2.good=true,args:=fun i=>[.agg [.im (.bool i.1.neg),.sl 3 [.int] i.1.num,.sl 3 [.int] i.1.den],.agg [.im (.bool (decide (i.2.z < 0))),.sl 3 [.int] (L i.2.z.natAbs),.sl 3 [.int] (L i.2.d)]],res:=fun i=>⟨false,[some 3],[.im (Value.bool (decide ((addRD i.1 i.2).z < 0))),.own 3 [.int] (L (addRD i.1 i.2).z.natAbs),.own 3 [.int] (L (addRD i.1 i.2).d)]⟩ }
set_option maxRecDepth 100000 in
theorem sRatAddR_ok:sRatAddR_con.Ok Tryz.prog 141:=by
 refine fn_ok (X:=⟨tt,[(70,sRatOk_con),(169,l04Add_con)],[],17⟩) mixed tt_ok (CTok.cons sRatOk_ok (CTok.cons l04Add_ok (CTok.nil _))) Tryz.func141 (by decide) rfl rfl rfl (fun _=>Nat.le_of_ble_eq_true rfl) (fun _=>Nat.le_of_ble_eq_true rfl) (fun _=>[]) ?_
 rintro ⟨r,s⟩ hpre
 have hpre:r.has∧s.good=true:=hpre
 refine by_nf (q:=∃ i1:Bool×(List (List Dat))×(List (List Dat))×Bool,[DA.agg [cB r.neg,cS r.num,cS r.den]]=sRatOk_con.args i1∧sRatOk_con.pre i1∧(((!(!i1.2.2.2))=true→(∃ i2:Bool×(List (List Dat))×(List (List Dat))×Bool,[dF s]=sRatOk_con.args i2∧sRatOk_con.pre i2∧(((!i2.2.2.2)=true→((eqN (addRD r s))))∧((!i2.2.2.2)=false→(∃ i3:Fr×Fr,[DA.agg [cB r.neg,cS r.num,cS r.den],dF s]=l04Add_con.args i3∧l04Add_con.pre i3∧((eqC (Fr.add i3.1 i3.2) (addRD r s))))))))∧((!(!i1.2.2.2))=false→((eqN (addRD r s)))))) (by kernel_rfl) ?_
 have h3:=s.nlz
 have h4:=s.nld
 have ls:=L_len s.d
 have lw:=L_len s.z.natAbs
 refine ⟨(r.neg,r.num,r.den,(ratOkR r.neg r.num r.den)),by
  rfl,by
  show Dat.has (.sl 3 [.int]) (.sl r.num)∧Dat.has (.sl 3 [.int]) (.sl r.den)∧r.num.length≤9223372036854775807∧r.den.length≤9223372036854775807∧ratOkR r.neg r.num r.den=(ratOkR r.neg r.num r.den)
  exact ⟨hpre.1.1,hpre.1.2,len_has hpre.1.1,len_has hpre.1.2,rfl⟩,?_⟩
 refine ⟨fun c4=>?_,fun c4=>?_⟩
 ·skip
  replace c4:(!(!(ratOkR r.neg r.num r.den)))=true:=c4
  try simp only [nrm] at c4
  have q:=frR_ok hpre.1 c4
  have hE:=addRD_yes (s:=s) c4
  refine ⟨(decide (s.z < 0),(L s.z.natAbs),(L s.d),s.good),by
   rfl,by
   show Dat.has (.sl 3 [.int]) (.sl (L s.z.natAbs))∧Dat.has (.sl 3 [.int]) (.sl (L s.d))∧(L s.z.natAbs).length≤9223372036854775807∧(L s.d).length≤9223372036854775807∧ratOkR (decide (s.z < 0)) (L s.z.natAbs) (L s.d)=s.good
   exact ⟨L_has _ (by omega),L_has _ (by omega),by omega,by omega,ratOkR_zd _⟩,?_⟩
  refine ⟨fun c8=>?_,fun c8=>?_⟩
  ·skip
   replace c8:(!s.good)=true:=c8
   try simp only [nrm] at c8
   rw [hpre.2] at c8
   cases c8 -- done
  ·skip
   replace c8:(!s.good)=false:=c8
   try simp only [nrm] at c8
   refine ⟨(frR r,s),by
    rw [q.1,q.2.1,q.2.2.1];rfl,by
    show (frR r).d≠0∧s.d≠0
    exact ⟨q.2.2.2,good_d c8⟩,?_⟩
   refine eqC_of ?_
   show Fr.add (frR r) s=addRD r s
   rw [hE]
 ·skip
  replace c4:(!(!(ratOkR r.neg r.num r.den)))=false:=c4
  try simp only [nrm] at c4
  have hE:=addRD_no (s:=s) c4
  refine eqN_of ?_
  show addRD r s=Fr.none
  rw [hE]
def sMovePt_con:Con:={ ι:=PtD×Int×Int,pre:=fun i=>i.1.has∧(-9223372036854775808≤i.2.1∧i.2.1≤9223372036854775807)∧-9223372036854775808≤i.2.2∧i.2.2≤9223372036854775807,args:=fun i=>[.agg [.im (.bool i.1.x.neg),.sl 3 [.int] i.1.x.num,.sl 3 [.int] i.1.x.den,.im (.bool i.1.y.neg),.sl 3 [.int] i.1.y.num,.sl 3 [.int] i.1.y.den],.agg [.im (.int .i64 i.2.1),.im (.int .i64 i.2.2)]],res:=fun i=>⟨false,[some 6],[.im (Value.bool (decide ((mvR i.1 (i.2.1,i.2.2)).x.z < 0))),.own 3 [.int] (L (mvR i.1 (i.2.1,i.2.2)).x.z.natAbs),.own 3 [.int] (L (mvR i.1 (i.2.1,i.2.2)).x.d),.im (Value.bool (decide ((mvR i.1 (i.2.1,i.2.2)).y.z < 0))),.own 3 [.int] (L (mvR i.1 (i.2.1,i.2.2)).y.z.natAbs),.own 3 [.int] (L (mvR i.1 (i.2.1,i.2.2)).y.d)]⟩ }
set_option maxRecDepth 100000 in
theorem sMovePt_ok:sMovePt_con.Ok Tryz.prog 85:=by
 refine fn_ok (X:=⟨tt,[(72,sRatFromInt_con),(141,sRatAddR_con),(148,l05Valid_con)],[],19⟩) mixed tt_ok (CTok.cons sRatFromInt_ok (CTok.cons sRatAddR_ok (CTok.cons l05Valid_ok (CTok.nil _)))) Tryz.func85 (by decide) rfl rfl rfl (fun _=>Nat.le_of_ble_eq_true rfl) (fun _=>Nat.le_of_ble_eq_true rfl) (fun _=>[]) ?_
 rintro ⟨p,x,y⟩ hpre
 have hpre:p.has∧(-9223372036854775808≤x∧x≤9223372036854775807)∧-9223372036854775808≤y∧y≤9223372036854775807:=hpre
 refine by_nf (q:=∃ i1:Int,[DA.one (cI x)]=sRatFromInt_con.args i1∧sRatFromInt_con.pre i1∧(∃ i2:RatD×Fr,[DA.agg [cB p.x.neg,cS p.x.num,cS p.x.den],dF (Fr.ofInt i1)]=sRatAddR_con.args i2∧sRatAddR_con.pre i2∧(∃ i3:Int,[DA.one (cI y)]=sRatFromInt_con.args i3∧sRatFromInt_con.pre i3∧(∃ i4:RatD×Fr,[DA.agg [cB p.y.neg,cS p.y.num,cS p.y.den],dF (Fr.ofInt i3)]=sRatAddR_con.args i4∧sRatAddR_con.pre i4∧(∃ i5:Pq,[DA.agg [cB (decide ((addRD i2.1 i2.2).z < 0)),cS (L (addRD i2.1 i2.2).z.natAbs),cS (L (addRD i2.1 i2.2).d),cB (decide ((addRD i4.1 i4.2).z < 0)),cS (L (addRD i4.1 i4.2).z.natAbs),cS (L (addRD i4.1 i4.2).d)]]=l05Valid_con.args i5∧l05Valid_con.pre i5∧((eqD ((orQ i5).x) ((mvR p (x,y)).x) ((eqC ((orQ i5).y) ((mvR p (x,y)).y)))))))))) (by kernel_rfl) ?_
 refine ⟨x,by
  rfl,by
  show -9223372036854775808≤x∧x≤9223372036854775807
  first|trivial|exact hpre.2.1|exact hpre.2.2|exact ⟨hpre.1.1,ofInt_good hpre.2.1⟩|exact ⟨hpre.1.2,ofInt_good hpre.2.2⟩,?_⟩
 refine ⟨(p.x,(Fr.ofInt x)),by
  rfl,by
  show p.x.has∧(Fr.ofInt x).good=true
  first|trivial|exact hpre.2.1|exact hpre.2.2|exact ⟨hpre.1.1,ofInt_good hpre.2.1⟩|exact ⟨hpre.1.2,ofInt_good hpre.2.2⟩,?_⟩
 refine ⟨y,by
  rfl,by
  show -9223372036854775808≤y∧y≤9223372036854775807
  first|trivial|exact hpre.2.1|exact hpre.2.2|exact ⟨hpre.1.1,ofInt_good hpre.2.1⟩|exact ⟨hpre.1.2,ofInt_good hpre.2.2⟩,?_⟩
 refine ⟨(p.y,(Fr.ofInt y)),by
  rfl,by
  show p.y.has∧(Fr.ofInt y).good=true
  first|trivial|exact hpre.2.1|exact hpre.2.2|exact ⟨hpre.1.1,ofInt_good hpre.2.1⟩|exact ⟨hpre.1.2,ofInt_good hpre.2.2⟩,?_⟩
 refine ⟨(⟨addRD p.x (Fr.ofInt x),addRD p.y (Fr.ofInt y)⟩:Pq),by
  rfl,by
  first|trivial|exact hpre.2.1|exact hpre.2.2|exact ⟨hpre.1.1,ofInt_good hpre.2.1⟩|exact ⟨hpre.1.2,ofInt_good hpre.2.2⟩,?_⟩
 refine eqD_of ?_ (eqC_of ?_)
 ·rfl
 rfl
def iCorners_con:Con:={ ι:=Scn×Int×PtD,pre:=fun i=>i.2.2.has,args:=fun i=>[.agg [.im (.int .i64 i.1.low.1),.im (.int .i64 i.1.low.2),.im (.int .i64 i.1.high.1),.im (.int .i64 i.1.high.2),.sl 61 [.int,.int] (vecsD i.1.robot),.sl 33 [.sl 61 [.int,.int]] (areasD i.1.obst),.sl 61 [.int,.int] (vecsD i.1.tables)],.one (.im (.int .i64 i.2.1)),.agg [.im (.bool i.2.2.x.neg),.sl 3 [.int] i.2.2.x.num,.sl 3 [.int] i.2.2.x.den,.im (.bool i.2.2.y.neg),.sl 3 [.int] i.2.2.y.num,.sl 3 [.int] i.2.2.y.den]],res:=fun i=>⟨false,[none],[.own 39 [.bool,.sl 3 [.int],.sl 3 [.int],.bool,.sl 3 [.int],.sl 3 [.int]] (corR i.1 i.2.1 i.2.2)]⟩ }
set_option maxRecDepth 100000 in
theorem iCorners_ok:iCorners_con.Ok Tryz.prog 36:=by
 refine fn_ok (X:=⟨tt,[(87,iRobotAt_con),(65,arePoints_con),(88,iMovePt_con),(89,goodPt_con)],[],42⟩) mixed tt_ok (CTok.cons iRobotAt_ok (CTok.cons arePoints_ok (CTok.cons iMovePt_ok (CTok.cons goodPt_ok (CTok.nil _))))) Tryz.func36 (by decide) rfl rfl rfl (fun _=>Nat.le_of_ble_eq_true rfl) (fun _=>Nat.le_of_ble_eq_true rfl) (fun (i:Scn×Int×PtD)=>[(6,.mk 8 (Nat) (fun x1=>{ tm:=[(5,.one (.one (.bp 1 0))),(24,.one (.one (.ext 6))),(25,.one (.one (.im (Value.int .i64 (((vecsD (robotAt i.1 i.2.1)).length:Nat):Int))))),(26,.one (.one (.im (Value.int .i64 ((x1:Nat):Int))))),(8,.one (.one (.ext 7)))],en:=[(1,.box [.im (Value.bool i.2.2.x.neg),.ext 2,.ext 3,.im (Value.bool i.2.2.y.neg),.ext 4,.ext 5]),(2,.view 3 [.int] i.2.2.x.num []),(3,.view 3 [.int] i.2.2.x.den []),(4,.view 3 [.int] i.2.2.y.num []),(5,.view 3 [.int] i.2.2.y.den []),(6,.own 61 [.int,.int] (vecsD (robotAt i.1 i.2.1))),(7,.own 39 [.bool,.sl 3 [.int],.sl 3 [.int],.bool,.sl 3 [.int],.sl 3 [.int]] (corT i.2.2 ((robotAt i.1 i.2.1).take x1)))] }) (fun x1=>x1≤(robotAt i.1 i.2.1).length∧∀ j,j < x1→(mvR i.2.2 ((robotAt i.1 i.2.1).getD j (0,0))).good=true) (fun x1=>(robotAt i.1 i.2.1).length - x1) (fun _=>[]))]) ?_
 rintro ⟨s,h,p⟩ hpre
 have hpre:p.has:=hpre
 refine by_nf (q:=∃ i1:Scn×Int,[DA.agg [cI s.low.1,cI s.low.2,cI s.high.1,cI s.high.2,DC.sl 61 [.int,.int] (vecsD s.robot),DC.sl 33 [.sl 61 [.int,.int]] (areasD s.obst),DC.sl 61 [.int,.int] (vecsD s.tables)],DA.one (cI h)]=iRobotAt_con.args i1∧iRobotAt_con.pre i1∧(∀ b2:Bool,(b2=true→vecsD (robotAt i1.1 i1.2)=[])→(((!b2)=true→(∃ i3:(List (List Dat)),[DA.one (DC.sl 39 [.bool,.sl 3 [.int],.sl 3 [.int],.bool,.sl 3 [.int],.sl 3 [.int]] ([[Dat.bool p.x.neg,Dat.sl p.x.num,Dat.sl p.x.den,Dat.bool p.y.neg,Dat.sl p.y.num,Dat.sl p.y.den]]:List (List Dat)))]=arePoints_con.args i3∧arePoints_con.pre i3∧(((!(!(i3.any (fun r=>!(okP (ptOf r))))))=true→((([]:List (List Dat))=corR s h p)))∧((!(!(i3.any (fun r=>!(okP (ptOf r))))))=false→((∃ x1:Nat,(x1≤(robotAt s h).length∧∀ j,j < x1→(mvR p ((robotAt s h).getD j (0,0))).good=true)∧((Value.int .i64 (((vecsD (robotAt i1.1 i1.2)).length:Nat):Int)=Value.int .i64 (((vecsD (robotAt s h)).length:Nat):Int))∧(Value.int .i64 (0:Int)=Value.int .i64 ((x1:Nat):Int))∧(rf (Value.bool p.x.neg))∧(rf (Value.bool p.y.neg))∧(rf (p.x.num))∧(rf (p.x.den))∧(rf (p.y.num))∧(rf (p.y.den))∧(vecsD (robotAt i1.1 i1.2)=(vecsD (robotAt s h)))∧(([]:List (List Dat))=(corT p ((robotAt s h).take x1)))))∧∀ x1:Nat,(x1≤(robotAt s h).length∧∀ j,j < x1→(mvR p ((robotAt s h).getD j (0,0))).good=true)→(((decide (((x1:Nat):Int) < (((vecsD (robotAt s h)).length:Nat):Int)))=true→((0≤((x1:Nat):Int)∧((x1:Nat):Int) < ((vecsD (robotAt s h)).length:Int))∧((x1 < (vecsD (robotAt s h)).length)∧(∃ i4:Pq×Int×Int,[DA.agg [cB p.x.neg,cS p.x.num,cS p.x.den,cB p.y.neg,cS p.y.num,cS p.y.den],DA.agg [cI (((((vecsD (robotAt s h)).getD x1 []).getD 0 (.int 0))).n),cI (((((vecsD (robotAt s h)).getD x1 []).getD 1 (.int 0))).n)]]=iMovePt_con.args i4∧iMovePt_con.pre i4∧(∃ i5:Pq,[dP ((mvQ i4.1 (i4.2.1,i4.2.2)))]=goodPt_con.args i5∧goodPt_con.pre i5∧(((!i5.good)=true→((([]:List (List Dat))=corR s h p)))∧((!i5.good)=false→(((corT p ((robotAt s h).take x1)).length+([[Dat.bool (decide ((mvQ i4.1 (i4.2.1,i4.2.2)).x.z < 0)),Dat.sl (L (mvQ i4.1 (i4.2.1,i4.2.2)).x.z.natAbs),Dat.sl (L (mvQ i4.1 (i4.2.1,i4.2.2)).x.d),Dat.bool (decide ((mvQ i4.1 (i4.2.1,i4.2.2)).y.z < 0)),Dat.sl (L (mvQ i4.1 (i4.2.1,i4.2.2)).y.z.natAbs),Dat.sl (L (mvQ i4.1 (i4.2.1,i4.2.2)).y.d)]]:List (List Dat)).length≤1073741824)∧(∃ y2:Nat,(y2≤(robotAt s h).length∧∀ j,j < y2→(mvR p ((robotAt s h).getD j (0,0))).good=true)∧((robotAt s h).length - y2 < (robotAt s h).length - x1)∧((rf (Value.int .i64 (((vecsD (robotAt s h)).length:Nat):Int)))∧(Value.int .i64 (IntKind.i64.wrap (((x1:Nat):Int)+(1:Int)))=Value.int .i64 ((y2:Nat):Int))∧(rf (Value.bool p.x.neg))∧(rf (Value.bool p.y.neg))∧(rf (p.x.num))∧(rf (p.x.den))∧(rf (p.y.num))∧(rf (p.y.den))∧(rf (vecsD (robotAt s h)))∧(((corT p ((robotAt s h).take x1))++([[Dat.bool (decide ((mvQ i4.1 (i4.2.1,i4.2.2)).x.z < 0)),Dat.sl (L (mvQ i4.1 (i4.2.1,i4.2.2)).x.z.natAbs),Dat.sl (L (mvQ i4.1 (i4.2.1,i4.2.2)).x.d),Dat.bool (decide ((mvQ i4.1 (i4.2.1,i4.2.2)).y.z < 0)),Dat.sl (L (mvQ i4.1 (i4.2.1,i4.2.2)).y.z.natAbs),Dat.sl (L (mvQ i4.1 (i4.2.1,i4.2.2)).y.d)]]:List (List Dat)))=(corT p ((robotAt s h).take y2)))))))))))))∧((decide (((x1:Nat):Int) < (((vecsD (robotAt s h)).length:Nat):Int)))=false→(((corT p ((robotAt s h).take x1))=corR s h p)))))))))∧((!b2)=false→((([]:List (List Dat))=corR s h p)))))) (by kernel_rfl) ?_
 have hrv:=robotAt_vec s h
 have hvl:=vecsD_length (robotAt s h)
 refine ⟨(s,h),by
  rfl,by
  first|trivial|exact hpre,?_⟩
 intro b2 q4
 refine ⟨fun c5=>?_,fun c5=>?_⟩
 ·skip
  try simp only [nrm] at c5
  refine ⟨([[Dat.bool p.x.neg,Dat.sl p.x.num,Dat.sl p.x.den,Dat.bool p.y.neg,Dat.sl p.y.num,Dat.sl p.y.den]]:List (List Dat)),by
   rfl,by
   show ([[Dat.bool p.x.neg,Dat.sl p.x.num,Dat.sl p.x.den,Dat.bool p.y.neg,Dat.sl p.y.num,Dat.sl p.y.den]]:List (List Dat)).length≤9223372036854775807∧∀ k,k < ([[Dat.bool p.x.neg,Dat.sl p.x.num,Dat.sl p.x.den,Dat.bool p.y.neg,Dat.sl p.y.num,Dat.sl p.y.den]]:List (List Dat)).length→(ptOf (([[Dat.bool p.x.neg,Dat.sl p.x.num,Dat.sl p.x.den,Dat.bool p.y.neg,Dat.sl p.y.num,Dat.sl p.y.den]]:List (List Dat)).getD k [])).has
   exact ⟨by show 1≤_;decide,one_has hpre⟩,?_⟩
  refine ⟨fun c9=>?_,fun c9=>?_⟩
  ·skip
   try simp only [nrm] at c9
   have c9:okP p=false:=by have h:=(any1 p).symm.trans c9;simpa using h
   have hE:=cor_no (s:=s) (h:=h) c9
   show ([]:List (List Dat))=corR s h p
   rw [hE]
  ·skip
   try simp only [nrm] at c9
   have c9:okP p=true:=by have h:=(any1 p).symm.trans c9;simpa using h
   obtain ⟨e1,e2,e3,e4,e5,e6,e7,e8⟩:=pqR_ok hpre c9
   refine ⟨⟨0,by
    exact ⟨Nat.zero_le _,fun j hj=>absurd hj (Nat.not_lt_zero j)⟩,?_⟩,?_⟩
   ·skip
    refine ⟨rfl,?_,rfl,rfl,rfl,rfl,rfl,rfl,rfl,?_⟩
    ·show Value.int .i64 (0:Int)=Value.int .i64 ((0:Nat):Int)
     first|rfl|(simp;done)
    show ([]:List (List Dat))=(corT p ((robotAt s h).take 0))
    first|rfl|(simp;done)
   intro (k:Nat) hki11
   have hki11:k≤(robotAt s h).length∧∀ j,j < k→(mvR p ((robotAt s h).getD j (0,0))).good=true:=hki11
   refine ⟨fun c23=>?_,fun c23=>?_⟩
   ·skip
    try simp only [nrm] at c23
    have o24:0≤((k:Nat):Int)∧((k:Nat):Int) < ((vecsD (robotAt s h)).length:Int):=by
     first|omega|(simp only [corT_len,List.length_take,List.length_cons,List.length_nil];omega)
    refine ⟨o24,?_⟩
    have o25:k < (vecsD (robotAt s h)).length:=by
     first|omega|(simp only [corT_len,List.length_take,List.length_cons,List.length_nil];omega)
    refine ⟨o25,?_⟩
    refine ⟨(pqR p,((robotAt s h).getD k (0,0)).1,((robotAt s h).getD k (0,0)).2),by
     rw [e1,e2,e3,e4,e5,e6,vecs_x (by omega),vecs_y (by omega)];rfl,by
     show (-9223372036854775808≤(((robotAt s h).getD k (0,0)).1)∧(((robotAt s h).getD k (0,0)).1)≤9223372036854775807)∧-9223372036854775808≤(((robotAt s h).getD k (0,0)).2)∧(((robotAt s h).getD k (0,0)).2)≤9223372036854775807
     exact vec_i64 hrv.1 (by omega),?_⟩
    refine ⟨(mvQ (pqR p) ((((robotAt s h).getD k (0,0)).1),(((robotAt s h).getD k (0,0)).2))),by
     rfl,by
     first|trivial|exact hpre,?_⟩
    refine ⟨fun c32=>?_,fun c32=>?_⟩
    ·skip
     try simp only [nrm] at c32
     have hE:=cor_bad (s:=s) (h:=h) (p:=p) (k:=k) (by omega) (by rw [mvR_yes c9];exact c32)
     show ([]:List (List Dat))=corR s h p
     rw [hE]
    ·skip
     try simp only [nrm] at c32
     have o34:(corT p ((robotAt s h).take k)).length+([[Dat.bool (decide ((mvQ (pqR p) ((((robotAt s h).getD k (0,0)).1),(((robotAt s h).getD k (0,0)).2))).x.z < 0)),Dat.sl (L (mvQ (pqR p) ((((robotAt s h).getD k (0,0)).1),(((robotAt s h).getD k (0,0)).2))).x.z.natAbs),Dat.sl (L (mvQ (pqR p) ((((robotAt s h).getD k (0,0)).1),(((robotAt s h).getD k (0,0)).2))).x.d),Dat.bool (decide ((mvQ (pqR p) ((((robotAt s h).getD k (0,0)).1),(((robotAt s h).getD k (0,0)).2))).y.z < 0)),Dat.sl (L (mvQ (pqR p) ((((robotAt s h).getD k (0,0)).1),(((robotAt s h).getD k (0,0)).2))).y.z.natAbs),Dat.sl (L (mvQ (pqR p) ((((robotAt s h).getD k (0,0)).1),(((robotAt s h).getD k (0,0)).2))).y.d)]]:List (List Dat)).length≤1073741824:=by
      first|omega|(simp only [corT_len,List.length_take,List.length_cons,List.length_nil];omega)
     refine ⟨o34,?_⟩
     refine ⟨k+1,by
      exact ⟨by omega,lt_step hki11.2 (by rw [mvR_yes c9];exact c32)⟩,by
      first|omega|(simp;omega),?_⟩
     refine ⟨rfl,?_,rfl,rfl,rfl,rfl,rfl,rfl,rfl,?_⟩
     ·first|rfl|exact vint (wrap64 (by omega) (by omega))
     show ((corT p ((robotAt s h).take k))++([[Dat.bool (decide ((mvQ (pqR p) ((((robotAt s h).getD k (0,0)).1),(((robotAt s h).getD k (0,0)).2))).x.z < 0)),Dat.sl (L (mvQ (pqR p) ((((robotAt s h).getD k (0,0)).1),(((robotAt s h).getD k (0,0)).2))).x.z.natAbs),Dat.sl (L (mvQ (pqR p) ((((robotAt s h).getD k (0,0)).1),(((robotAt s h).getD k (0,0)).2))).x.d),Dat.bool (decide ((mvQ (pqR p) ((((robotAt s h).getD k (0,0)).1),(((robotAt s h).getD k (0,0)).2))).y.z < 0)),Dat.sl (L (mvQ (pqR p) ((((robotAt s h).getD k (0,0)).1),(((robotAt s h).getD k (0,0)).2))).y.z.natAbs),Dat.sl (L (mvQ (pqR p) ((((robotAt s h).getD k (0,0)).1),(((robotAt s h).getD k (0,0)).2))).y.d)]]:List (List Dat)))=(corT p ((robotAt s h).take (k+1)))
     rw [← corT_snoc (show k < (robotAt s h).length by omega),mvR_yes c9];rfl
   ·skip
    try simp only [nrm] at c23
    show (corT p ((robotAt s h).take k))=corR s h p
    rw [cor_yes (fun j hj=>hki11.2 j (by omega)),show k=(robotAt s h).length by omega,List.take_length]
 ·skip
  try simp only [nrm] at c5
  have hE:=cor_nil (p:=p) (vecs_nil (q4 c5))
  show ([]:List (List Dat))=corR s h p
  rw [hE]
def sCorners_con:Con:={ ι:=Scn×Int×PtD,pre:=fun i=>i.2.2.has,args:=fun i=>[.agg [.im (.int .i64 i.1.low.1),.im (.int .i64 i.1.low.2),.im (.int .i64 i.1.high.1),.im (.int .i64 i.1.high.2),.sl 61 [.int,.int] (vecsD i.1.robot),.sl 33 [.sl 61 [.int,.int]] (areasD i.1.obst),.sl 61 [.int,.int] (vecsD i.1.tables)],.one (.im (.int .i64 i.2.1)),.agg [.im (.bool i.2.2.x.neg),.sl 3 [.int] i.2.2.x.num,.sl 3 [.int] i.2.2.x.den,.im (.bool i.2.2.y.neg),.sl 3 [.int] i.2.2.y.num,.sl 3 [.int] i.2.2.y.den]],res:=fun i=>⟨false,[none],[.own 39 [.bool,.sl 3 [.int],.sl 3 [.int],.bool,.sl 3 [.int],.sl 3 [.int]] (corR i.1 i.2.1 i.2.2)]⟩ }
set_option maxRecDepth 100000 in
theorem sCorners_ok:sCorners_con.Ok Tryz.prog 34:=by
 refine fn_ok (X:=⟨tt,[(84,sRobotAt_con),(85,sMovePt_con),(60,sIsPt_con)],[],32⟩) mixed tt_ok (CTok.cons sRobotAt_ok (CTok.cons sMovePt_ok (CTok.cons sIsPt_ok (CTok.nil _)))) Tryz.func34 (by decide) rfl rfl rfl (fun _=>Nat.le_of_ble_eq_true rfl) (fun _=>Nat.le_of_ble_eq_true rfl) (fun (i:Scn×Int×PtD)=>[(3,.mk 8 (Nat) (fun x1=>{ tm:=[(5,.one (.one (.bp 1 0))),(14,.one (.one (.ext 6))),(15,.one (.one (.im (Value.int .i64 (((vecsD (robotAt i.1 i.2.1)).length:Nat):Int))))),(16,.one (.one (.im (Value.int .i64 ((x1:Nat):Int))))),(7,.one (.one (.ext 7)))],en:=[(1,.box [.im (Value.bool i.2.2.x.neg),.ext 2,.ext 3,.im (Value.bool i.2.2.y.neg),.ext 4,.ext 5]),(2,.view 3 [.int] i.2.2.x.num []),(3,.view 3 [.int] i.2.2.x.den []),(4,.view 3 [.int] i.2.2.y.num []),(5,.view 3 [.int] i.2.2.y.den []),(6,.own 61 [.int,.int] (vecsD (robotAt i.1 i.2.1))),(7,.own 39 [.bool,.sl 3 [.int],.sl 3 [.int],.bool,.sl 3 [.int],.sl 3 [.int]] (corT i.2.2 ((robotAt i.1 i.2.1).take x1)))] }) (fun x1=>x1≤(robotAt i.1 i.2.1).length∧∀ j,j < x1→(mvR i.2.2 ((robotAt i.1 i.2.1).getD j (0,0))).good=true) (fun x1=>(robotAt i.1 i.2.1).length - x1) (fun _=>[]))]) ?_
 rintro ⟨s,h,p⟩ hpre
 have hpre:p.has:=hpre
 refine by_nf (q:=∃ i1:Scn×Int,[DA.agg [cI s.low.1,cI s.low.2,cI s.high.1,cI s.high.2,DC.sl 61 [.int,.int] (vecsD s.robot),DC.sl 33 [.sl 61 [.int,.int]] (areasD s.obst),DC.sl 61 [.int,.int] (vecsD s.tables)],DA.one (cI h)]=sRobotAt_con.args i1∧sRobotAt_con.pre i1∧((∃ x1:Nat,(x1≤(robotAt s h).length∧∀ j,j < x1→(mvR p ((robotAt s h).getD j (0,0))).good=true)∧((Value.int .i64 (((vecsD (robotAt i1.1 i1.2)).length:Nat):Int)=Value.int .i64 (((vecsD (robotAt s h)).length:Nat):Int))∧(Value.int .i64 (0:Int)=Value.int .i64 ((x1:Nat):Int))∧(rf (Value.bool p.x.neg))∧(rf (Value.bool p.y.neg))∧(rf (p.x.num))∧(rf (p.x.den))∧(rf (p.y.num))∧(rf (p.y.den))∧(vecsD (robotAt i1.1 i1.2)=(vecsD (robotAt s h)))∧(([]:List (List Dat))=(corT p ((robotAt s h).take x1)))))∧∀ x1:Nat,(x1≤(robotAt s h).length∧∀ j,j < x1→(mvR p ((robotAt s h).getD j (0,0))).good=true)→(((decide (((x1:Nat):Int) < (((vecsD (robotAt s h)).length:Nat):Int)))=true→((0≤((x1:Nat):Int)∧((x1:Nat):Int) < ((vecsD (robotAt s h)).length:Int))∧((x1 < (vecsD (robotAt s h)).length)∧(∃ i2:PtD×Int×Int,[DA.agg [cB p.x.neg,cS p.x.num,cS p.x.den,cB p.y.neg,cS p.y.num,cS p.y.den],DA.agg [cI (((((vecsD (robotAt s h)).getD x1 []).getD 0 (.int 0))).n),cI (((((vecsD (robotAt s h)).getD x1 []).getD 1 (.int 0))).n)]]=sMovePt_con.args i2∧sMovePt_con.pre i2∧(∃ i3:PtD×Bool,[dP ((mvR i2.1 (i2.2.1,i2.2.2)))]=sIsPt_con.args i3∧sIsPt_con.pre i3∧(((!i3.2)=true→((([]:List (List Dat))=corR s h p)))∧((!i3.2)=false→(((corT p ((robotAt s h).take x1)).length+([[Dat.bool (decide ((mvR i2.1 (i2.2.1,i2.2.2)).x.z < 0)),Dat.sl (L (mvR i2.1 (i2.2.1,i2.2.2)).x.z.natAbs),Dat.sl (L (mvR i2.1 (i2.2.1,i2.2.2)).x.d),Dat.bool (decide ((mvR i2.1 (i2.2.1,i2.2.2)).y.z < 0)),Dat.sl (L (mvR i2.1 (i2.2.1,i2.2.2)).y.z.natAbs),Dat.sl (L (mvR i2.1 (i2.2.1,i2.2.2)).y.d)]]:List (List Dat)).length≤1073741824)∧(∃ y2:Nat,(y2≤(robotAt s h).length∧∀ j,j < y2→(mvR p ((robotAt s h).getD j (0,0))).good=true)∧((robotAt s h).length - y2 < (robotAt s h).length - x1)∧((rf (Value.int .i64 (((vecsD (robotAt s h)).length:Nat):Int)))∧(Value.int .i64 (IntKind.i64.wrap (((x1:Nat):Int)+(1:Int)))=Value.int .i64 ((y2:Nat):Int))∧(rf (Value.bool p.x.neg))∧(rf (Value.bool p.y.neg))∧(rf (p.x.num))∧(rf (p.x.den))∧(rf (p.y.num))∧(rf (p.y.den))∧(rf (vecsD (robotAt s h)))∧(((corT p ((robotAt s h).take x1))++([[Dat.bool (decide ((mvR i2.1 (i2.2.1,i2.2.2)).x.z < 0)),Dat.sl (L (mvR i2.1 (i2.2.1,i2.2.2)).x.z.natAbs),Dat.sl (L (mvR i2.1 (i2.2.1,i2.2.2)).x.d),Dat.bool (decide ((mvR i2.1 (i2.2.1,i2.2.2)).y.z < 0)),Dat.sl (L (mvR i2.1 (i2.2.1,i2.2.2)).y.z.natAbs),Dat.sl (L (mvR i2.1 (i2.2.1,i2.2.2)).y.d)]]:List (List Dat)))=(corT p ((robotAt s h).take y2)))))))))))))∧((decide (((x1:Nat):Int) < (((vecsD (robotAt s h)).length:Nat):Int)))=false→(((corT p ((robotAt s h).take x1))=corR s h p)))))) (by kernel_rfl) ?_
 have hrv:=robotAt_vec s h
 have hvl:=vecsD_length (robotAt s h)
 refine ⟨(s,h),by
  rfl,by
  first|trivial|exact hpre,?_⟩
 refine ⟨⟨0,by
  exact ⟨Nat.zero_le _,fun j hj=>absurd hj (Nat.not_lt_zero j)⟩,?_⟩,?_⟩
 ·skip
  refine ⟨rfl,?_,rfl,rfl,rfl,rfl,rfl,rfl,rfl,?_⟩
  ·show Value.int .i64 (0:Int)=Value.int .i64 ((0:Nat):Int)
   first|rfl|(simp;done)
  show ([]:List (List Dat))=(corT p ((robotAt s h).take 0))
  first|rfl|(simp;done)
 intro (k:Nat) hki4
 have hki4:k≤(robotAt s h).length∧∀ j,j < k→(mvR p ((robotAt s h).getD j (0,0))).good=true:=hki4
 refine ⟨fun c16=>?_,fun c16=>?_⟩
 ·skip
  try simp only [nrm] at c16
  have o17:0≤((k:Nat):Int)∧((k:Nat):Int) < ((vecsD (robotAt s h)).length:Int):=by
   first|omega|(simp only [corT_len,List.length_take,List.length_cons,List.length_nil];omega)
  refine ⟨o17,?_⟩
  have o18:k < (vecsD (robotAt s h)).length:=by
   first|omega|(simp only [corT_len,List.length_take,List.length_cons,List.length_nil];omega)
  refine ⟨o18,?_⟩
  refine ⟨(p,((robotAt s h).getD k (0,0)).1,((robotAt s h).getD k (0,0)).2),by
   rw [vecs_x (by omega),vecs_y (by omega)];rfl,by
   show p.has∧(-9223372036854775808≤(((robotAt s h).getD k (0,0)).1)∧(((robotAt s h).getD k (0,0)).1)≤9223372036854775807)∧-9223372036854775808≤(((robotAt s h).getD k (0,0)).2)∧(((robotAt s h).getD k (0,0)).2)≤9223372036854775807
   exact ⟨hpre,vec_i64 hrv.1 (by omega)⟩,?_⟩
  refine ⟨((ptQ (mvR p ((((robotAt s h).getD k (0,0)).1),(((robotAt s h).getD k (0,0)).2)))),(mvR p ((((robotAt s h).getD k (0,0)).1),(((robotAt s h).getD k (0,0)).2))).good),by
   rfl,by
   show (ptQ (mvR p ((((robotAt s h).getD k (0,0)).1),(((robotAt s h).getD k (0,0)).2)))).has∧okP (ptQ (mvR p ((((robotAt s h).getD k (0,0)).1),(((robotAt s h).getD k (0,0)).2))))=((mvR p ((((robotAt s h).getD k (0,0)).1),(((robotAt s h).getD k (0,0)).2))).good)
   exact ⟨ptQ_has _,ptQ_ok _⟩,?_⟩
  refine ⟨fun c25=>?_,fun c25=>?_⟩
  ·skip
   replace c25:(!((mvR p ((((robotAt s h).getD k (0,0)).1),(((robotAt s h).getD k (0,0)).2))).good))=true:=c25
   try simp only [nrm] at c25
   have hE:=cor_bad (s:=s) (h:=h) (p:=p) (k:=k) (by omega) c25
   show ([]:List (List Dat))=corR s h p
   rw [hE]
  ·skip
   replace c25:(!((mvR p ((((robotAt s h).getD k (0,0)).1),(((robotAt s h).getD k (0,0)).2))).good))=false:=c25
   try simp only [nrm] at c25
   have o27:(corT p ((robotAt s h).take k)).length+([[Dat.bool (decide ((mvR p ((((robotAt s h).getD k (0,0)).1),(((robotAt s h).getD k (0,0)).2))).x.z < 0)),Dat.sl (L (mvR p ((((robotAt s h).getD k (0,0)).1),(((robotAt s h).getD k (0,0)).2))).x.z.natAbs),Dat.sl (L (mvR p ((((robotAt s h).getD k (0,0)).1),(((robotAt s h).getD k (0,0)).2))).x.d),Dat.bool (decide ((mvR p ((((robotAt s h).getD k (0,0)).1),(((robotAt s h).getD k (0,0)).2))).y.z < 0)),Dat.sl (L (mvR p ((((robotAt s h).getD k (0,0)).1),(((robotAt s h).getD k (0,0)).2))).y.z.natAbs),Dat.sl (L (mvR p ((((robotAt s h).getD k (0,0)).1),(((robotAt s h).getD k (0,0)).2))).y.d)]]:List (List Dat)).length≤1073741824:=by
    first|omega|(simp only [corT_len,List.length_take,List.length_cons,List.length_nil];omega)
   refine ⟨o27,?_⟩
   refine ⟨k+1,by
    exact ⟨by omega,lt_step hki4.2 c25⟩,by
    first|omega|(simp;omega),?_⟩
   refine ⟨rfl,?_,rfl,rfl,rfl,rfl,rfl,rfl,rfl,?_⟩
   ·first|rfl|exact vint (wrap64 (by omega) (by omega))
   show ((corT p ((robotAt s h).take k))++([[Dat.bool (decide ((mvR p ((((robotAt s h).getD k (0,0)).1),(((robotAt s h).getD k (0,0)).2))).x.z < 0)),Dat.sl (L (mvR p ((((robotAt s h).getD k (0,0)).1),(((robotAt s h).getD k (0,0)).2))).x.z.natAbs),Dat.sl (L (mvR p ((((robotAt s h).getD k (0,0)).1),(((robotAt s h).getD k (0,0)).2))).x.d),Dat.bool (decide ((mvR p ((((robotAt s h).getD k (0,0)).1),(((robotAt s h).getD k (0,0)).2))).y.z < 0)),Dat.sl (L (mvR p ((((robotAt s h).getD k (0,0)).1),(((robotAt s h).getD k (0,0)).2))).y.z.natAbs),Dat.sl (L (mvR p ((((robotAt s h).getD k (0,0)).1),(((robotAt s h).getD k (0,0)).2))).y.d)]]:List (List Dat)))=(corT p ((robotAt s h).take (k+1)))
   exact corT_snoc (by omega)
 ·skip
  try simp only [nrm] at c16
  show (corT p ((robotAt s h).take k))=corR s h p
  rw [cor_yes (fun j hj=>hki4.2 j (by omega)),show k=(robotAt s h).length by omega,List.take_length]
end Go.Proofs.YthnkggacopepgaaGreat
