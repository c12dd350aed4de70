import Derived.Test.YtlejeadlmpkffaaGreatMaRkI
import Derived.RegionTactic
namespace Go.Proofs.YtlejeadlmpkffaaGreat
set_option maxRecDepth 100000
set_option linter.unusedVariables false
set_option linter.unusedSimpArgs false
open Go.RowKit
def areVecs_con:Con:={ ι:=(List V2),pre:=λ i=>True,args:=λ i=>[.one (.sl 38 [.int,.int] (vecsD i))],res:=λ i=>⟨false,[none],[.im (Value.bool (i.all isVec))]⟩ }
theorem areVecs_ok:areVecs_con.Ok Tryz.prog 119:=genOwn_ok rfl ⟨_,Tryz.func119,by decide,rfl⟩ (λ _=>Nat.le_of_ble_eq_true rfl) (λ _=>rfl) (λ l=>[.im (.bool (l.all isVec))]) (λ _=>rfl) (λ _=>rfl) (λ i hp w us h=>by
 have h:RdRow w [.sl 38 [.int,.int]] [.sl (vecsD i)] us:=h
 obtain ⟨v,vs,rfl,h1,h2⟩:=RdRow.cons2 h
 obtain ⟨-,rfl⟩:=RdRow.nil_inv h2
 refine (areVecs_c i v w (Rd.vecs h1)).mono ?_
 rintro e w' ⟨rfl,hb⟩
 exact ⟨[Value.bool (i.all isVec)],rfl,Own.leaf (Fp.mk_bool _),hb⟩)
theorem rotN_vec {v:V2} (h:isVec v=true) (k:Nat):isVec (rotN k v)=true:=insB_rotN h k
theorem turnPoly_len (l:List V2) (k:Nat):(turnPoly l k).length=l.length:=by simp [turnPoly]
theorem turnPoly_snoc {l:List V2} {k n:Nat} (hk:k<l.length):vecsD (turnPoly (l.take k) n)++[[.int (rotN n (l.getD k (0,0))).1,.int (rotN n (l.getD k (0,0))).2]]=vecsD (turnPoly (l.take (k+1)) n):=by
 rw [take_snoc' l (0,0) k hk]
 simp [turnPoly,vecsD,vecD]
theorem head_rem {k:Int} (h0:0<=k) (h1:k<=3):IntKind.i64.wrap (Int.tmod k 4)=k/\Int.tmod k 4=k:=by
 have:k=0∨k=1∨k=2∨k=3:=by omega
 rcases this with rfl|rfl|rfl|rfl <;> exact ⟨rfl,rfl⟩
theorem head_rem2 {k:Int} (h0:0<=k) (h1:k<=3):Int.tmod (IntKind.i64.wrap (Int.tmod k 4+4)) 4=k:=by
 have:k=0∨k=1∨k=2∨k=3:=by omega
 rcases this with rfl|rfl|rfl|rfl <;> rfl
def robotAt (s:Scn) (h:Int):List V2:=if validScn s=true/\0<=h/\h<=3 then turnPoly s.robot h.toNat else []
theorem robotAt_yes {s:Scn} {h:Int} (h1:validScn s=true) (h2:0<=h/\h<=3):robotAt s h=turnPoly s.robot h.toNat:=by unfold robotAt;rw [if_pos ⟨h1,h2⟩]
theorem robotAt_no {s:Scn} {h:Int} (h1:validScn s=false∨¬ (0<=h/\h<=3)):robotAt s h=[]:=by
 unfold robotAt
 rw [if_neg]
 rintro ⟨a,b⟩
 rcases h1 with h1|h1
 ·rw [h1] at a;cases a
 ·exact h1 b
theorem scn_robot {s:Scn} (h:validScn s=true):isPoly s.robot=true:=by
 simp only [validScn,shape,Bool.and_eq_true] at h
 exact h.1.2.1.1
theorem robotAt_vec (s:Scn) (h:Int):(robotAt s h).all isVec=true/\(robotAt s h).length<=16:=by
 unfold robotAt
 split
 ·next hv=>
  have hp:=isPoly_len (scn_robot hv.1)
  rw [turnPoly_len]
  refine ⟨?_,hp.2.1⟩
  rw [List.all_eq_true]
  intro x hx
  simp only [turnPoly,List.mem_map] at hx
  obtain ⟨y,hy,rfl⟩:=hx
  exact rotN_vec (List.all_eq_true.1 hp.2.2 y hy) _
 ·exact ⟨rfl,Nat.zero_le _⟩
theorem robotAt_ne {s:Scn} {h:Int} (h1:validScn s=true) (h2:0<=h/\h<=3):robotAt s h≠[]:=by
 rw [robotAt_yes h1 h2]
 intro e
 have hp:=isPoly_len (scn_robot h1)
 have:=turnPoly_len s.robot h.toNat
 rw [e,List.length_nil] at this
 omega
def isHeading_con:Con:={ ι:=Int,pre:=λ i=>True,args:=λ i=>[.one (.im (.int .i64 i))],res:=λ i=>⟨false,[none],[.im (Value.bool (decide (i≥0) && decide (i<=3)))]⟩ }
theorem isHeading_ok:isHeading_con.Ok Tryz.prog 89:=by
 refine fok (X:=⟨tt,[(113,within_con)],[],5,[]⟩) mixed tt_ok (CTok.cons within_ok (CTok.nil _)) Tryz.func89 (λ _=>[]) ?_
 intro (n:Int) hpre
 have hpre:True:=hpre
 refine by_nf (q:=∃ i1:Int×Int×Int,[DA.one (cI n),DA.one (cI (0:Int)),DA.one (cI (3:Int))]=within_con.args i1/\within_con.pre i1/\((Value.bool (decide (i1.1≥i1.2.1) && decide (i1.1<=i1.2.2))=Value.bool (decide (n≥0) && decide (n<=3))))) (by kernel_rfl) ?_
 refine ⟨(n,(0:Int),(3:Int)),by
  rfl,by
  first|trivial|(first|omega|assumption|exact hpre.1|exact hpre.2|(simp;done)),?_⟩
 rfl
def iTurnVec_con:Con:={ ι:=Int×Int×Int,pre:=λ i=>(0<=i.2.2/\i.2.2<=3)/\True/\isVec (i.1,i.2.1)=true,args:=λ i=>[.agg [.im (.int .i64 i.1),.im (.int .i64 i.2.1)],.one (.im (.int .i64 i.2.2))],res:=λ i=>⟨false,[some 2],[.im (Value.int .i64 ((rotN i.2.2.toNat (i.1,i.2.1)).1)),.im (Value.int .i64 ((rotN i.2.2.toNat (i.1,i.2.1)).2))]⟩ }
theorem iTurnVec_ok:iTurnVec_con.Ok Tryz.prog 120:=by
 refine fok (X:=⟨tt,[],[],19,[]⟩) mixed tt_ok (CTok.nil _) Tryz.func120 (λ (i:Int×Int×Int)=>[(2,.mk 3 (Nat) (λ x1=>{ tm:=[(2,.one (.one (.bp 1 0))),(4,.one (.one (.bp 2 0))),(9,.one (.one (.im (Value.int .i64 ((x1:Nat):Int))))),(8,.one (.one (.im (Value.int .i64 i.2.2))))],en:=[(1,.box [.im (Value.int .i64 ((rotN x1 (i.1,i.2.1)).1)),.im (Value.int .i64 ((rotN x1 (i.1,i.2.1)).2))]),(2,.box [.im (Value.int .i64 (0:Int)),.im (Value.int .i64 (0:Int))])] }) (λ x1=>x1<=i.2.2.toNat) (λ x1=>i.2.2.toNat-x1) (λ _=>[]))]) ?_
 rintro ⟨x,y,k⟩ hpre
 have hpre:(0<=k/\k<=3)/\True/\isVec (x,y)=true:=hpre
 refine by_nf (q:=((4:Int)≠0)/\(((4:Int)≠0)/\((∃ x1:Nat,(x1<=k.toNat)/\((vI (0:Int)=vI (nI x1))/\(vI (Int.tmod (wR ((Int.tmod k (4:Int))+(4:Int))) (4:Int))=vI k)/\(vI x=vI ((rotN x1 (x,y)).1))/\(vI y=vI ((rotN x1 (x,y)).2))/\(rf (vI (0:Int)))/\(rf (vI (0:Int)))))/\∀ x1:Nat,(x1<=k.toNat)->(((decide ((nI x1)<k))=true->(∃ y2:Nat,(y2<=k.toNat)/\(k.toNat-y2<k.toNat-x1)/\((vI (wR ((nI x1)+(1:Int)))=vI (nI y2))/\(rf (vI k))/\(vI (wR (0-((rotN x1 (x,y)).2)))=vI ((rotN y2 (x,y)).1))/\(vI ((rotN x1 (x,y)).1)=vI ((rotN y2 (x,y)).2))/\(rf (vI (0:Int)))/\(rf (vI (0:Int))))))/\((decide ((nI x1)<k))=false->((vI ((rotN x1 (x,y)).1)=vI ((rotN k.toNat (x,y)).1))/\(vI ((rotN x1 (x,y)).2)=vI ((rotN k.toNat (x,y)).2)))))))) (by kernel_rfl) ?_
 delta vI wR nI
 have hq:=λ j=>isVec_bd (rotN_vec hpre.2.2 j)
 have hw:=head_rem2 hpre.1.1 hpre.1.2
 refine ao (by first|rfl|omega|(simp;done)|(simp;omega)) λ o1=>?_
 refine ao (by first|rfl|omega|(simp;done)|(simp;omega)) λ o2=>?_
 refine ⟨⟨0,by
  first|trivial|omega|(simp;omega),?_⟩,?_⟩
 ·refine ⟨?_,?_,?_,?_,rfl,rfl⟩
  ·first|rfl|(rw [hw])
  ·first|rfl|(rw [hw])
  ·first|rfl|(rw [hw])
  first|rfl|(rw [hw])
 intro (j:Nat) hki3
 have hki3:j<=k.toNat:=hki3
 refine And.symm ⟨λ c11=>?_,λ c11=>?_⟩
 ·try simp only [nrm] at c11
  refine ⟨?_,?_⟩
  ·rw [show k.toNat=j by omega]
  rw [show k.toNat=j by omega]
 try simp only [nrm] at c11
 refine ⟨j+1,by
  first|trivial|omega|(simp;omega),by
  first|omega|(simp;omega),?_⟩
 refine ⟨?_,rfl,?_,?_,rfl,rfl⟩
 ·first|rfl|exact vint (wrap64 (by omega) (by omega))|exact vint (show IntKind.i64.wrap (0-(rotN j (x,y)).2)=-(rotN j (x,y)).2 from by have:=hq j;rw [wrap64 (by omega) (by omega)];omega)|exact vint (by rw [wrap64 (by omega) (by omega)];omega)
 ·first|rfl|exact vint (wrap64 (by omega) (by omega))|exact vint (show IntKind.i64.wrap (0-(rotN j (x,y)).2)=-(rotN j (x,y)).2 from by have:=hq j;rw [wrap64 (by omega) (by omega)];omega)|exact vint (by rw [wrap64 (by omega) (by omega)];omega)
 first|rfl|exact vint (wrap64 (by omega) (by omega))|exact vint (show IntKind.i64.wrap (0-(rotN j (x,y)).2)=-(rotN j (x,y)).2 from by have:=hq j;rw [wrap64 (by omega) (by omega)];omega)|exact vint (by rw [wrap64 (by omega) (by omega)];omega)
def sTurnVec_con:Con:={ ι:=Int×Int×Int,pre:=λ i=>(0<=i.2.2/\i.2.2<=3)/\True/\isVec (i.1,i.2.1)=true,args:=λ i=>[.agg [.im (.int .i64 i.1),.im (.int .i64 i.2.1)],.one (.im (.int .i64 i.2.2))],res:=λ i=>⟨false,[some 2],[.im (Value.int .i64 ((rotN i.2.2.toNat (i.1,i.2.1)).1)),.im (Value.int .i64 ((rotN i.2.2.toNat (i.1,i.2.1)).2))]⟩ }
theorem sTurnVec_ok:sTurnVec_con.Ok Tryz.prog 77:=by
 refine fok (X:=⟨tt,[(73,sIsVec_con)],[],26,[]⟩) mixed tt_ok (CTok.cons sIsVec_ok (CTok.nil _)) Tryz.func77 (λ (i:Int×Int×Int)=>[(6,.mk 3 (Nat) (λ x1=>{ tm:=[(2,.one (.one (.bp 1 0))),(4,.one (.one (.bp 2 0))),(1,.one (.one (.im (Value.int .i64 (i.2.2-((x1:Nat):Int))))))],en:=[(1,.box [.im (Value.int .i64 ((rotN x1 (i.1,i.2.1)).1)),.im (Value.int .i64 ((rotN x1 (i.1,i.2.1)).2))]),(2,.box [.im (Value.int .i64 (0:Int)),.im (Value.int .i64 (0:Int))])] }) (λ x1=>x1<=i.2.2.toNat) (λ x1=>i.2.2.toNat-x1) (λ _=>[]))]) ?_
 rintro ⟨x,y,k⟩ hpre
 have hpre:(0<=k/\k<=3)/\True/\isVec (x,y)=true:=hpre
 refine by_nf (q:=∃ i1:Int×Int,[DA.agg [cI x,cI y]]=sIsVec_con.args i1/\sIsVec_con.pre i1/\(((!(isVec (i1.1,i1.2)))=true->((vI (0:Int)=vI ((rotN k.toNat (x,y)).1))/\(vI (0:Int)=vI ((rotN k.toNat (x,y)).2))))/\((!(isVec (i1.1,i1.2)))=false->(((4:Int)≠0)/\(((decide ((Int.tmod k (4:Int))<(0:Int)))=true->((∃ x1:Nat,(x1<=k.toNat)/\((vI (wR ((Int.tmod k (4:Int))+(4:Int)))=vI (k-(nI x1)))/\(vI x=vI ((rotN x1 (x,y)).1))/\(vI y=vI ((rotN x1 (x,y)).2))/\(rf (vI (0:Int)))/\(rf (vI (0:Int)))))/\∀ x1:Nat,(x1<=k.toNat)->(((decide ((k-(nI x1))>(0:Int)))=true->(∃ y2:Nat,(y2<=k.toNat)/\(k.toNat-y2<k.toNat-x1)/\((vI (wR ((k-(nI x1))-(1:Int)))=vI (k-(nI y2)))/\(vI (wR (0-((rotN x1 (x,y)).2)))=vI ((rotN y2 (x,y)).1))/\(vI ((rotN x1 (x,y)).1)=vI ((rotN y2 (x,y)).2))/\(rf (vI (0:Int)))/\(rf (vI (0:Int))))))/\((decide ((k-(nI x1))>(0:Int)))=false->((vI ((rotN x1 (x,y)).1)=vI ((rotN k.toNat (x,y)).1))/\(vI ((rotN x1 (x,y)).2)=vI ((rotN k.toNat (x,y)).2)))))))/\((decide ((Int.tmod k (4:Int))<(0:Int)))=false->((∃ x1:Nat,(x1<=k.toNat)/\((vI (Int.tmod k (4:Int))=vI (k-(nI x1)))/\(vI x=vI ((rotN x1 (x,y)).1))/\(vI y=vI ((rotN x1 (x,y)).2))/\(rf (vI (0:Int)))/\(rf (vI (0:Int)))))/\∀ x1:Nat,(x1<=k.toNat)->(((decide ((k-(nI x1))>(0:Int)))=true->(∃ y4:Nat,(y4<=k.toNat)/\(k.toNat-y4<k.toNat-x1)/\((vI (wR ((k-(nI x1))-(1:Int)))=vI (k-(nI y4)))/\(vI (wR (0-((rotN x1 (x,y)).2)))=vI ((rotN y4 (x,y)).1))/\(vI ((rotN x1 (x,y)).1)=vI ((rotN y4 (x,y)).2))/\(rf (vI (0:Int)))/\(rf (vI (0:Int))))))/\((decide ((k-(nI x1))>(0:Int)))=false->((vI ((rotN x1 (x,y)).1)=vI ((rotN k.toNat (x,y)).1))/\(vI ((rotN x1 (x,y)).2)=vI ((rotN k.toNat (x,y)).2)))))))))))) (by kernel_rfl) ?_
 delta vI wR nI
 have hq:=λ j=>isVec_bd (rotN_vec hpre.2.2 j)
 have hw:=head_rem hpre.1.1 hpre.1.2
 refine ⟨(x,y),by
  rfl,by
  first|trivial|(first|omega|assumption|exact hpre.1|exact hpre.2|(simp;done)),?_⟩
 refine ⟨λ c4=>?_,λ c4=>?_⟩
 ·replace c4:(!(isVec (x,y)))=true:=c4
  try simp only [nrm] at c4
  rw [hpre.2.2] at c4
  cases c4 -- done
 replace c4:(!(isVec (x,y)))=false:=c4
 try simp only [nrm] at c4
 refine ao (by first|rfl|omega|(simp;done)|(simp;omega)) λ o7=>?_
 refine ⟨λ c8=>?_,λ c8=>?_⟩
 ·try simp only [nrm] at c8
  rw [hw.2] at c8
  exfalso;omega -- done
 try simp only [nrm] at c8
 refine ⟨⟨0,by
  first|trivial|omega|(simp;omega),?_⟩,?_⟩
 ·refine ⟨?_,?_,?_,rfl,rfl⟩
  ·first|rfl|(rw [hw.2];exact vint (by omega))
  ·first|rfl|(rw [hw.2];exact vint (by omega))
  first|rfl|(rw [hw.2];exact vint (by omega))
 intro (j:Nat) hki27
 have hki27:j<=k.toNat:=hki27
 refine And.symm ⟨λ c34=>?_,λ c34=>?_⟩
 ·try simp only [nrm] at c34
  refine ⟨?_,?_⟩
  ·rw [show k.toNat=j by omega]
  rw [show k.toNat=j by omega]
 try simp only [nrm] at c34
 refine ⟨j+1,by
  first|trivial|omega|(simp;omega),by
  first|omega|(simp;omega),?_⟩
 refine ⟨?_,?_,?_,rfl,rfl⟩
 ·first|rfl|exact vint (wrap64 (by omega) (by omega))|exact vint (show IntKind.i64.wrap (0-(rotN j (x,y)).2)=-(rotN j (x,y)).2 from by have:=hq j;rw [wrap64 (by omega) (by omega)];omega)|exact vint (by rw [wrap64 (by omega) (by omega)];omega)
 ·first|rfl|exact vint (wrap64 (by omega) (by omega))|exact vint (show IntKind.i64.wrap (0-(rotN j (x,y)).2)=-(rotN j (x,y)).2 from by have:=hq j;rw [wrap64 (by omega) (by omega)];omega)|exact vint (by rw [wrap64 (by omega) (by omega)];omega)
 first|rfl|exact vint (wrap64 (by omega) (by omega))|exact vint (show IntKind.i64.wrap (0-(rotN j (x,y)).2)=-(rotN j (x,y)).2 from by have:=hq j;rw [wrap64 (by omega) (by omega)];omega)|exact vint (by rw [wrap64 (by omega) (by omega)];omega)
def iTurnPoly_con:Con:={ ι:=(List V2)×Int,pre:=λ i=>(0<=i.2/\i.2<=3)/\i.1.length<=1048576/\i.1.all isVec=true,args:=λ i=>[.one (.sl 38 [.int,.int] (vecsD i.1)),.one (.im (.int .i64 i.2))],res:=λ i=>⟨false,[none],[.own 38 [.int,.int] (vecsD (turnPoly i.1 i.2.toNat))]⟩ }
theorem iTurnPoly_ok:iTurnPoly_con.Ok Tryz.prog 90:=by
 refine fok (X:=⟨tt,[(119,areVecs_con),(120,iTurnVec_con)],[],26,[]⟩) mixed tt_ok (CTok.cons areVecs_ok (CTok.cons iTurnVec_ok (CTok.nil _))) Tryz.func90 (λ (i:(List V2)×Int)=>[(5,.mk 3 (Nat) (λ x1=>{ tm:=[(12,.one (.one (.ext 1))),(13,.one (.one (.im (Value.int .i64 (((vecsD i.1).length:Nat):Int))))),(14,.one (.one (.im (Value.int .i64 ((x1:Nat):Int))))),(1,.one (.one (.im (Value.int .i64 i.2)))),(5,.one (.one (.ext 2)))],en:=[(1,.view 38 [.int,.int] (vecsD i.1) []),(2,.own 38 [.int,.int] (vecsD (turnPoly (i.1.take x1) i.2.toNat)))] }) (λ x1=>x1<=i.1.length) (λ x1=>i.1.length-x1) (λ _=>[]))]) ?_
 rintro ⟨l,h⟩ hpre
 have hpre:(0<=h/\h<=3)/\l.length<=1048576/\l.all isVec=true:=hpre
 refine by_nf (q:=∃ i1:(List V2),[DA.one (DC.sl 38 [.int,.int] (vecsD l))]=areVecs_con.args i1/\areVecs_con.pre i1/\(((!(i1.all isVec))=true->((([]:List (List Dat))=vecsD (turnPoly l h.toNat))))/\((!(i1.all isVec))=false->((∃ x1:Nat,(x1<=l.length)/\((rf (vI (nI ((vecsD l).length))))/\(vI (0:Int)=vI (nI x1))/\(rf (vI h))/\(rf (vecsD l))/\(([]:List (List Dat))=(vecsD (turnPoly (l.take x1) h.toNat)))))/\∀ x1:Nat,(x1<=l.length)->(((decide ((nI x1)<(nI ((vecsD l).length))))=true->((0<=(nI x1)/\(nI x1)<((vecsD l).length:Int))/\((x1<(vecsD l).length)/\(∃ i2:Int×Int×Int,[DA.agg [cI (((((vecsD l).getD x1 []).getD 0 (.int 0))).n),cI (((((vecsD l).getD x1 []).getD 1 (.int 0))).n)],DA.one (cI h)]=iTurnVec_con.args i2/\iTurnVec_con.pre i2/\(((vecsD (turnPoly (l.take x1) h.toNat)).length+([[Dat.int ((rotN i2.2.2.toNat (i2.1,i2.2.1)).1),Dat.int ((rotN i2.2.2.toNat (i2.1,i2.2.1)).2)]]:List (List Dat)).length<=1073741824)/\(∃ y2:Nat,(y2<=l.length)/\(l.length-y2<l.length-x1)/\((rf (vI (nI ((vecsD l).length))))/\(vI (wR ((nI x1)+(1:Int)))=vI (nI y2))/\(rf (vI h))/\(rf (vecsD l))/\(((vecsD (turnPoly (l.take x1) h.toNat))++([[Dat.int ((rotN i2.2.2.toNat (i2.1,i2.2.1)).1),Dat.int ((rotN i2.2.2.toNat (i2.1,i2.2.1)).2)]]:List (List Dat)))=(vecsD (turnPoly (l.take y2) h.toNat))))))))))/\((decide ((nI x1)<(nI ((vecsD l).length))))=false->(((vecsD (turnPoly (l.take x1) h.toNat))=vecsD (turnPoly l h.toNat))))))))) (by kernel_rfl) ?_
 delta vI wR nI
 have hvl:=vecsD_length l
 refine ⟨l,by
  rfl,by
  first|trivial|exact ⟨hpre.1,trivial,allVec_getD hpre.2.2 (by omega)⟩,?_⟩
 refine ⟨λ c4=>?_,λ c4=>?_⟩
 ·try simp only [nrm] at c4
  rw [hpre.2.2] at c4
  cases c4 -- done
 try simp only [nrm] at c4
 refine ⟨⟨0,by
  first|trivial|omega|(simp;omega),?_⟩,?_⟩
 ·refine ⟨rfl,?_,rfl,rfl,?_⟩
  ·first|rfl|(rw [vecsD_length])
  first|rfl|(rw [vecsD_length])
 intro (k:Nat) hki6
 have hki6:k<=l.length:=hki6
 refine And.symm ⟨λ c13=>?_,λ c13=>?_⟩
 ·try simp only [nrm] at c13
  rw [show k=l.length by omega,List.take_length]
 try simp only [nrm] at c13
 refine ao (by first|omega|(simp only [vecsD_length,turnPoly_len,List.length_take,List.length_cons,List.length_nil];omega)) λ o14=>?_
 refine ao (by first|omega|(simp only [vecsD_length,turnPoly_len,List.length_take,List.length_cons,List.length_nil];omega)) λ o15=>?_
 refine ⟨((l.getD k (0,0)).1,(l.getD k (0,0)).2,h),by
  rw [vecs_x (by omega),vecs_y (by omega)];rfl,by
  first|trivial|exact ⟨hpre.1,trivial,allVec_getD hpre.2.2 (by omega)⟩,?_⟩
 refine ao (a:=(vecsD (turnPoly (l.take k) h.toNat)).length+([[Dat.int ((rotN h.toNat (((l.getD k (0,0)).1),((l.getD k (0,0)).2))).1),Dat.int ((rotN h.toNat (((l.getD k (0,0)).1),((l.getD k (0,0)).2))).2)]]:List (List Dat)).length<=1073741824) (by first|omega|(simp only [vecsD_length,turnPoly_len,List.length_take,List.length_cons,List.length_nil];omega)) λ o19=>?_
 refine ⟨k+1,by
  first|trivial|omega|(simp;omega),by
  first|omega|(simp;omega),?_⟩
 refine ⟨rfl,?_,rfl,rfl,?_⟩
 ·first|rfl|exact vint (wrap64 (by omega) (by omega))|exact turnPoly_snoc (by omega)
 first|rfl|exact vint (wrap64 (by omega) (by omega))|exact turnPoly_snoc (by omega)
def sTurnPoly_con:Con:={ ι:=(List V2)×Int,pre:=λ i=>(0<=i.2/\i.2<=3)/\i.1.length<=1048576/\i.1.all isVec=true,args:=λ i=>[.one (.sl 38 [.int,.int] (vecsD i.1)),.one (.im (.int .i64 i.2))],res:=λ i=>⟨false,[none],[.own 38 [.int,.int] (vecsD (turnPoly i.1 i.2.toNat))]⟩ }
theorem sTurnPoly_ok:sTurnPoly_con.Ok Tryz.prog 54:=by
 refine fok (X:=⟨tt,[(73,sIsVec_con),(77,sTurnVec_con)],[],26,[]⟩) mixed tt_ok (CTok.cons sIsVec_ok (CTok.cons sTurnVec_ok (CTok.nil _))) Tryz.func54 (λ (i:(List V2)×Int)=>[(3,.mk 3 (Nat) (λ x1=>{ tm:=[(9,.one (.one (.ext 1))),(10,.one (.one (.im (Value.int .i64 (((vecsD i.1).length:Nat):Int))))),(11,.one (.one (.im (Value.int .i64 ((x1:Nat):Int))))),(1,.one (.one (.im (Value.int .i64 i.2)))),(5,.one (.one (.ext 2)))],en:=[(1,.view 38 [.int,.int] (vecsD i.1) []),(2,.own 38 [.int,.int] (vecsD (turnPoly (i.1.take x1) i.2.toNat)))] }) (λ x1=>x1<=i.1.length) (λ x1=>i.1.length-x1) (λ _=>[]))]) ?_
 rintro ⟨l,h⟩ hpre
 have hpre:(0<=h/\h<=3)/\l.length<=1048576/\l.all isVec=true:=hpre
 refine by_nf (q:=(∃ x1:Nat,(x1<=l.length)/\((rf (vI (nI ((vecsD l).length))))/\(vI (0:Int)=vI (nI x1))/\(rf (vI h))/\(rf (vecsD l))/\(([]:List (List Dat))=(vecsD (turnPoly (l.take x1) h.toNat)))))/\∀ x1:Nat,(x1<=l.length)->(((decide ((nI x1)<(nI ((vecsD l).length))))=true->((0<=(nI x1)/\(nI x1)<((vecsD l).length:Int))/\((x1<(vecsD l).length)/\(∃ i1:Int×Int,[DA.agg [cI (((((vecsD l).getD x1 []).getD 0 (.int 0))).n),cI (((((vecsD l).getD x1 []).getD 1 (.int 0))).n)]]=sIsVec_con.args i1/\sIsVec_con.pre i1/\(((!(isVec (i1.1,i1.2)))=true->((([]:List (List Dat))=vecsD (turnPoly l h.toNat))))/\((!(isVec (i1.1,i1.2)))=false->(∃ i2:Int×Int×Int,[DA.agg [cI (((((vecsD l).getD x1 []).getD 0 (.int 0))).n),cI (((((vecsD l).getD x1 []).getD 1 (.int 0))).n)],DA.one (cI h)]=sTurnVec_con.args i2/\sTurnVec_con.pre i2/\(((vecsD (turnPoly (l.take x1) h.toNat)).length+([[Dat.int ((rotN i2.2.2.toNat (i2.1,i2.2.1)).1),Dat.int ((rotN i2.2.2.toNat (i2.1,i2.2.1)).2)]]:List (List Dat)).length<=1073741824)/\(∃ y2:Nat,(y2<=l.length)/\(l.length-y2<l.length-x1)/\((rf (vI (nI ((vecsD l).length))))/\(vI (wR ((nI x1)+(1:Int)))=vI (nI y2))/\(rf (vI h))/\(rf (vecsD l))/\(((vecsD (turnPoly (l.take x1) h.toNat))++([[Dat.int ((rotN i2.2.2.toNat (i2.1,i2.2.1)).1),Dat.int ((rotN i2.2.2.toNat (i2.1,i2.2.1)).2)]]:List (List Dat)))=(vecsD (turnPoly (l.take y2) h.toNat)))))))))))))/\((decide ((nI x1)<(nI ((vecsD l).length))))=false->(((vecsD (turnPoly (l.take x1) h.toNat))=vecsD (turnPoly l h.toNat)))))) (by kernel_rfl) ?_
 delta vI wR nI
 have hvl:=vecsD_length l
 refine ⟨⟨0,by
  first|trivial|omega|(simp;omega),?_⟩,?_⟩
 ·refine ⟨rfl,?_,rfl,rfl,?_⟩
  ·first|rfl|(rw [vecsD_length])
  first|rfl|(rw [vecsD_length])
 intro (k:Nat) hki1
 have hki1:k<=l.length:=hki1
 refine And.symm ⟨λ c8=>?_,λ c8=>?_⟩
 ·try simp only [nrm] at c8
  rw [show k=l.length by omega,List.take_length]
 try simp only [nrm] at c8
 refine ao (by first|omega|(simp only [vecsD_length,turnPoly_len,List.length_take,List.length_cons,List.length_nil];omega)) λ o9=>?_
 refine ao (by first|omega|(simp only [vecsD_length,turnPoly_len,List.length_take,List.length_cons,List.length_nil];omega)) λ o10=>?_
 refine ⟨((l.getD k (0,0)).1,(l.getD k (0,0)).2),by
  rw [vecs_x (by omega),vecs_y (by omega)];rfl,by
  first|trivial|exact ⟨hpre.1,trivial,allVec_getD hpre.2.2 (by omega)⟩,?_⟩
 refine ⟨λ c14=>?_,λ c14=>?_⟩
 ·replace c14:(!(isVec (((l.getD k (0,0)).1),((l.getD k (0,0)).2))))=true:=c14
  try simp only [nrm] at c14
  have q:isVec ((l.getD k (0,0)).1,(l.getD k (0,0)).2)=true:=allVec_getD hpre.2.2 (by omega)
  rw [q] at c14
  cases c14 -- done
 replace c14:(!(isVec (((l.getD k (0,0)).1),((l.getD k (0,0)).2))))=false:=c14
 try simp only [nrm] at c14
 refine ⟨((l.getD k (0,0)).1,(l.getD k (0,0)).2,h),by
  rw [vecs_x (by omega),vecs_y (by omega)];rfl,by
  first|trivial|exact ⟨hpre.1,trivial,allVec_getD hpre.2.2 (by omega)⟩,?_⟩
 refine ao (a:=(vecsD (turnPoly (l.take k) h.toNat)).length+([[Dat.int ((rotN h.toNat (((l.getD k (0,0)).1),((l.getD k (0,0)).2))).1),Dat.int ((rotN h.toNat (((l.getD k (0,0)).1),((l.getD k (0,0)).2))).2)]]:List (List Dat)).length<=1073741824) (by first|omega|(simp only [vecsD_length,turnPoly_len,List.length_take,List.length_cons,List.length_nil];omega)) λ o19=>?_
 refine ⟨k+1,by
  first|trivial|omega|(simp;omega),by
  first|omega|(simp;omega),?_⟩
 refine ⟨rfl,?_,rfl,rfl,?_⟩
 ·first|rfl|exact vint (wrap64 (by omega) (by omega))|exact turnPoly_snoc (by omega)
 first|rfl|exact vint (wrap64 (by omega) (by omega))|exact turnPoly_snoc (by omega)
def iRobotAt_con:Con:={ ι:=Scn×Int,pre:=λ i=>True,args:=λ i=>[.agg [.im (.int .i64 i.1.low.1),.im (.int .i64 i.1.low.2),.im (.int .i64 i.1.high.1),.im (.int .i64 i.1.high.2),.sl 38 [.int,.int] (vecsD i.1.robot),.sl 39 [.sl 38 [.int,.int]] (areasD i.1.obst),.sl 38 [.int,.int] (vecsD i.1.tables)],.one (.im (.int .i64 i.2))],res:=λ i=>⟨false,[none],[.own 38 [.int,.int] (vecsD (robotAt i.1 i.2))]⟩ }
theorem iRobotAt_ok:iRobotAt_con.Ok Tryz.prog 64:=by
 refine fok (X:=⟨tt,[(88,iValid_con),(89,isHeading_con),(90,iTurnPoly_con)],[],17,[]⟩) mixed tt_ok (CTok.cons iValid_ok (CTok.cons isHeading_ok (CTok.cons iTurnPoly_ok (CTok.nil _)))) Tryz.func64 (λ _=>[]) ?_
 rintro ⟨s,h⟩ hpre
 have hpre:True:=hpre
 refine by_nf (q:=∃ i1:Scn,[DA.agg [cI s.low.1,cI s.low.2,cI s.high.1,cI s.high.2,DC.sl 38 [.int,.int] (vecsD s.robot),DC.sl 39 [.sl 38 [.int,.int]] (areasD s.obst),DC.sl 38 [.int,.int] (vecsD s.tables)]]=iValid_con.args i1/\iValid_con.pre i1/\(((!(!(validScn i1)))=true->(∃ i2:Int,[DA.one (cI h)]=isHeading_con.args i2/\isHeading_con.pre i2/\(((!(decide (i2≥0) && decide (i2<=3)))=true->((([]:List (List Dat))=vecsD (robotAt s h))))/\((!(decide (i2≥0) && decide (i2<=3)))=false->(∃ i3:(List V2)×Int,[DA.one (DC.sl 38 [.int,.int] (vecsD s.robot)),DA.one (cI h)]=iTurnPoly_con.args i3/\iTurnPoly_con.pre i3/\((vecsD (turnPoly i3.1 i3.2.toNat)=vecsD (robotAt s h))))))))/\((!(!(validScn i1)))=false->((([]:List (List Dat))=vecsD (robotAt s h)))))) (by kernel_rfl) ?_
 refine ⟨s,by
  rfl,by
  first|trivial|exact ⟨by omega,by omega,hP.2.2⟩,?_⟩
 refine And.symm ⟨λ c4=>?_,λ c4=>?_⟩
 ·try simp only [nrm] at c4
  have hE:=robotAt_no (h:=h) (.inl c4)
  first|(rw [hE];done)|(rw [hE];rfl)
 try simp only [nrm] at c4
 refine ⟨h,by
  rfl,by
  first|trivial|exact ⟨by omega,by omega,hP.2.2⟩,?_⟩
 refine ⟨λ c8=>?_,λ c8=>?_⟩
 ·try simp only [nrm] at c8
  have hE:=robotAt_no (s:=s) (h:=h) (.inr (by omega))
  first|(rw [hE];done)|(rw [hE];rfl)
 try simp only [nrm] at c8
 have hE:=robotAt_yes c4 (show 0<=h/\h<=3 by omega)
 have hP:=isPoly_len (scn_robot c4)
 refine ⟨(s.robot,h),by
  rfl,by
  show (0<=h/\h<=3)/\s.robot.length<=1048576/\s.robot.all isVec=true
  first|trivial|exact ⟨by omega,by omega,hP.2.2⟩,?_⟩
 show vecsD (turnPoly s.robot h.toNat)=vecsD (robotAt s h)
 first|(rw [hE];done)|(rw [hE];rfl)
def sRobotAt_con:Con:={ ι:=Scn×Int,pre:=λ i=>True,args:=λ i=>[.agg [.im (.int .i64 i.1.low.1),.im (.int .i64 i.1.low.2),.im (.int .i64 i.1.high.1),.im (.int .i64 i.1.high.2),.sl 38 [.int,.int] (vecsD i.1.robot),.sl 39 [.sl 38 [.int,.int]] (areasD i.1.obst),.sl 38 [.int,.int] (vecsD i.1.tables)],.one (.im (.int .i64 i.2))],res:=λ i=>⟨false,[none],[.own 38 [.int,.int] (vecsD (robotAt i.1 i.2))]⟩ }
theorem sRobotAt_ok:sRobotAt_con.Ok Tryz.prog 32:=by
 refine fok (X:=⟨tt,[(52,sValid_con),(53,l01In_con),(54,sTurnPoly_con)],[],17,[]⟩) mixed tt_ok (CTok.cons sValid_ok (CTok.cons l01In_ok (CTok.cons sTurnPoly_ok (CTok.nil _)))) Tryz.func32 (λ _=>[]) ?_
 rintro ⟨s,h⟩ hpre
 have hpre:True:=hpre
 refine by_nf (q:=∃ i1:Scn,[DA.agg [cI s.low.1,cI s.low.2,cI s.high.1,cI s.high.2,DC.sl 38 [.int,.int] (vecsD s.robot),DC.sl 39 [.sl 38 [.int,.int]] (areasD s.obst),DC.sl 38 [.int,.int] (vecsD s.tables)]]=sValid_con.args i1/\sValid_con.pre i1/\(((!(!(validScn i1)))=true->(∃ i2:Int×Int×Int,[DA.one (cI h),DA.one (cI (0:Int)),DA.one (cI (3:Int))]=l01In_con.args i2/\l01In_con.pre i2/\(((!(decide (i2.1≥i2.2.1) && decide (i2.1<=i2.2.2)))=true->((([]:List (List Dat))=vecsD (robotAt s h))))/\((!(decide (i2.1≥i2.2.1) && decide (i2.1<=i2.2.2)))=false->(∃ i3:(List V2)×Int,[DA.one (DC.sl 38 [.int,.int] (vecsD s.robot)),DA.one (cI h)]=sTurnPoly_con.args i3/\sTurnPoly_con.pre i3/\((vecsD (turnPoly i3.1 i3.2.toNat)=vecsD (robotAt s h))))))))/\((!(!(validScn i1)))=false->((([]:List (List Dat))=vecsD (robotAt s h)))))) (by kernel_rfl) ?_
 refine ⟨s,by
  rfl,by
  first|trivial|exact ⟨by omega,by omega,hP.2.2⟩,?_⟩
 refine And.symm ⟨λ c4=>?_,λ c4=>?_⟩
 ·try simp only [nrm] at c4
  have hE:=robotAt_no (h:=h) (.inl c4)
  first|(rw [hE];done)|(rw [hE];rfl)
 try simp only [nrm] at c4
 refine ⟨(h,(0:Int),(3:Int)),by
  rfl,by
  first|trivial|exact ⟨by omega,by omega,hP.2.2⟩,?_⟩
 refine ⟨λ c8=>?_,λ c8=>?_⟩
 ·replace c8:(!(decide (h≥(0:Int)) && decide (h<=(3:Int))))=true:=c8
  try simp only [nrm] at c8
  have hE:=robotAt_no (s:=s) (h:=h) (.inr (by omega))
  first|(rw [hE];done)|(rw [hE];rfl)
 replace c8:(!(decide (h≥(0:Int)) && decide (h<=(3:Int))))=false:=c8
 try simp only [nrm] at c8
 have hE:=robotAt_yes c4 (show 0<=h/\h<=3 by omega)
 have hP:=isPoly_len (scn_robot c4)
 refine ⟨(s.robot,h),by
  rfl,by
  show (0<=h/\h<=3)/\s.robot.length<=1048576/\s.robot.all isVec=true
  first|trivial|exact ⟨by omega,by omega,hP.2.2⟩,?_⟩
 show vecsD (turnPoly s.robot h.toNat)=vecsD (robotAt s h)
 first|(rw [hE];done)|(rw [hE];rfl)
end Go.Proofs.YtlejeadlmpkffaaGreat
