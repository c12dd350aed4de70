import Derived.Test.YtlejeadlmpkffaaGreatMaRkSu
import Derived.Test.YtlejeadlmpkffaaGreatMaRobN
namespace Go.Proofs.YtlejeadlmpkffaaGreat
set_option maxRecDepth 100000
set_option linter.unusedVariables false
set_option linter.unusedSimpArgs false
open Go.RowKit
def blkT (s:Scn) (h:Int) (k:Nat):List (List V2):=(s.obst.take k).map (obsV (robotAt s h))
def blk (s:Scn) (h:Int):List (List V2):=if (robotAt s h).length=0 then [] else blkT s h s.obst.length
theorem blk_no {s:Scn} {h:Int} (e:(robotAt s h).length=0):blk s h=[]:=by unfold blk;rw [if_pos e]
theorem blk_yes {s:Scn} {h:Int} (e:(robotAt s h).length≠0):blk s h=blkT s h s.obst.length:=by unfold blk;rw [if_neg e]
theorem blkT_len (s:Scn) (h:Int) (k:Nat):(areasD (blkT s h k)).length<=k:=by
 rw [areasD_length];unfold blkT;rw [List.length_map,List.length_take];omega
theorem blkT_snoc {s:Scn} {h:Int} {k:Nat} (hk:k<s.obst.length):areasD (blkT s h k)++[[.sl (vecsD (obsV (robotAt s h) (s.obst.getD k [])))]]=areasD (blkT s h (k+1)):=by
 unfold blkT
 rw [take_snoc' s.obst [] k hk]
 simp [areasD]
theorem robot_le (s:Scn) (h:Int):(robotAt s h).length<=1048576:=by have:=(robotAt_vec s h).2;omega
theorem robot_nil {s:Scn} {h:Int} (hn:(validScn s && inR h 0 3)=false):robotAt s h=[]:=robotAt_no (by
 rw [Bool.and_eq_false_iff] at hn
 rcases hn with hn|hn
 ·exact .inl hn
 ·refine .inr λ hc=>?_
  have:inR h 0 3=true:=inR_iff.2 hc
  rw [hn] at this;cases this)
theorem robot_some {s:Scn} {h:Int} (hn:(validScn s && inR h 0 3)=true):0<(robotAt s h).length:=by
 rw [Bool.and_eq_true] at hn
 exact List.length_pos_iff.2 (robotAt_ne hn.1 (inR_iff.1 hn.2))
def iBlkA_con:Con:={ ι:=Scn×Int,pre:=λ i=>scnSz i.1/\(validScn i.1 && inR i.2 0 3)=true,args:=λ i=>[.agg [.im (.int .i64 i.1.low.1),.im (.int .i64 i.1.low.2),.im (.int .i64 i.1.high.1),.im (.int .i64 i.1.high.2),.sl 38 [.int,.int] (vecsD i.1.robot),.sl 39 [.sl 38 [.int,.int]] (areasD i.1.obst),.sl 38 [.int,.int] (vecsD i.1.tables)],.one (.im (.int .i64 i.2))],res:=λ i=>⟨false,[none],[.own 39 [.sl 38 [.int,.int]] (areasD (blk i.1 i.2))]⟩ }
theorem iBlkA_ok:iBlkA_con.Ok Tryz.prog 42:=by
 refine fok (X:=⟨tt,[(64,iRobotAt_con),(66,iObs_con)],[],30,[]⟩) mixed tt_ok (CTok.cons iRobotAt_ok (CTok.cons iObs_ok (CTok.nil _))) Tryz.func42 (λ (i:Scn×Int)=>[(6,.mk 4 (Nat) (λ x1=>{ tm:=[(16,.one (.one (.ext 1))),(17,.one (.one (.im (Value.int .i64 (((areasD i.1.obst).length:Nat):Int))))),(18,.one (.one (.im (Value.int .i64 ((x1:Nat):Int))))),(6,.one (.one (.ext 2))),(5,.one (.one (.ext 3)))],en:=[(1,.view 39 [.sl 38 [.int,.int]] (areasD i.1.obst) []),(2,.own 39 [.sl 38 [.int,.int]] (areasD (blkT i.1 i.2 x1))),(3,.own 38 [.int,.int] (vecsD (robotAt i.1 i.2)))] }) (λ x1=>x1<=i.1.obst.length) (λ x1=>i.1.obst.length-x1) (λ _=>[]))]) ?_
 rintro ⟨s,h⟩ hpre
 have hpre:scnSz s/\(validScn s && inR h 0 3)=true:=hpre
 refine by_nf (q:=∃ i1:Scn×Int,[DA.agg [cI s.low.1,cI s.low.2,cI s.high.1,cI s.high.2,DC.sl 38 [.int,.int] (vecsD s.robot),DC.sl 39 [.sl 38 [.int,.int]] (areasD s.obst),DC.sl 38 [.int,.int] (vecsD s.tables)],DA.one (cI h)]=iRobotAt_con.args i1/\iRobotAt_con.pre i1/\(∀ b2:Bool,(b2=true->vecsD (robotAt i1.1 i1.2)=[])->((b2=true->((([]:List (List Dat))=areasD (blk s h))))/\(b2=false->((∃ x1:Nat,(x1<=s.obst.length)/\((rf (vI (nI ((areasD s.obst).length))))/\(vI (0:Int)=vI (nI x1))/\(rf (areasD s.obst))/\(([]:List (List Dat))=(areasD (blkT s h x1)))/\(vecsD (robotAt i1.1 i1.2)=(vecsD (robotAt s h)))))/\∀ x1:Nat,(x1<=s.obst.length)->(((decide ((nI x1)<(nI ((areasD s.obst).length))))=true->((0<=(nI x1)/\(nI x1)<((areasD s.obst).length:Int))/\((x1<(areasD s.obst).length)/\(∃ i3:(List V2)×(List V2),[DA.one (DC.sl 38 [.int,.int] (vecsD (robotAt s h))),DA.one (DC.sl 38 [.int,.int] (((((areasD s.obst).getD x1 []).getD 0 (.int 0))).r))]=iObs_con.args i3/\iObs_con.pre i3/\(((areasD (blkT s h x1)).length+([[Dat.sl (vecsD (obsV i3.1 i3.2))]]:List (List Dat)).length<=1073741824)/\(∃ y2:Nat,(y2<=s.obst.length)/\(s.obst.length-y2<s.obst.length-x1)/\((rf (vI (nI ((areasD s.obst).length))))/\(vI (wR ((nI x1)+(1:Int)))=vI (nI y2))/\(rf (areasD s.obst))/\(((areasD (blkT s h x1))++([[Dat.sl (vecsD (obsV i3.1 i3.2))]]:List (List Dat)))=(areasD (blkT s h y2)))/\(rf (vecsD (robotAt s h))))))))))/\((decide ((nI x1)<(nI ((areasD s.obst).length))))=false->(((areasD (blkT s h x1))=areasD (blk s h)))))))))) (by kernel_rfl) ?_
 delta vI wR nI
 have hv:=hpre.2
 have hpre:=hpre.1
 have hz:=hpre
 obtain ⟨h1,h2,h3,h4⟩:=hpre
 have hrv:=robot_le s h
 have hvl:=vecsD_length (robotAt s h)
 have hal:=areasD_length s.obst
 have hrs:=robot_some hv
 refine ⟨(s,h),by
  rfl,by
  trivial,?_⟩
 intro b2 q4
 refine ⟨λ c5=>?_,λ c5=>?_⟩
 ·try simp only [nrm] at c5
  exfalso
  have hq:=congrArg List.length (q4 c5)
  rw [hvl] at hq
  simp only [List.length_nil] at hq
  omega -- done
 try simp only [nrm] at c5
 have hE:=blk_yes (s:=s) (h:=h) (by omega)
 refine ⟨⟨0,by
  omega,?_⟩,?_⟩
 ·refine ⟨rfl,?_,rfl,?_,rfl⟩
  ·rfl
  rfl
 intro (k:Nat) hki7
 have hki7:k<=s.obst.length:=hki7
 refine And.symm ⟨λ c14=>?_,λ c14=>?_⟩
 ·try simp only [nrm] at c14
  rw [hE,show k=s.obst.length by omega]
 try simp only [nrm] at c14
 have hkl:k<s.obst.length:=by omega
 refine ao (by omega) λ o15=>?_
 refine ao (by omega) λ o16=>?_
 refine ⟨(robotAt s h,s.obst.getD k []),by
  rw [areasD_at hkl];rfl,by
  exact ⟨hrv,h3 _ (by simp [List.getD,hkl])⟩,?_⟩
 refine ao (a:=(areasD (blkT s h k)).length+([[Dat.sl (vecsD (obsV (robotAt s h) (s.obst.getD k [])))]]:List (List Dat)).length<=1073741824) (by have:=blkT_len s h k;simp only [List.length_cons,List.length_nil];omega) λ o20=>?_
 refine ⟨k+1,by
  trivial,by
  omega,?_⟩
 refine ⟨rfl,?_,rfl,?_,rfl⟩
 ·exact vint (wrap64 (by omega) (by omega))
 exact blkT_snoc hkl
def iBlkB_con:Con:={ ι:=Scn×Int,pre:=λ i=>scnSz i.1/\(validScn i.1 && inR i.2 0 3)=false,args:=λ i=>[.agg [.im (.int .i64 i.1.low.1),.im (.int .i64 i.1.low.2),.im (.int .i64 i.1.high.1),.im (.int .i64 i.1.high.2),.sl 38 [.int,.int] (vecsD i.1.robot),.sl 39 [.sl 38 [.int,.int]] (areasD i.1.obst),.sl 38 [.int,.int] (vecsD i.1.tables)],.one (.im (.int .i64 i.2))],res:=λ i=>⟨false,[none],[.own 39 [.sl 38 [.int,.int]] (areasD (blk i.1 i.2))]⟩ }
theorem iBlkB_ok:iBlkB_con.Ok Tryz.prog 42:=genOwn_ok rfl ⟨_,Tryz.func42,by decide,rfl⟩ (λ _=>Nat.le_of_ble_eq_true rfl) (λ _=>rfl) (λ i=>[.sl 39 [.sl 38 [.int,.int]] (areasD (blk i.1 i.2))]) (λ _=>rfl) (λ _=>rfl) (λ i hp w us h=>by
 obtain ⟨s,k⟩:=i
 obtain ⟨cs,v,rfl,h1,h2,h3⟩:=vals_agg_one (t:=[.int,.int,.int,.int,.sl 38 [.int,.int],.sl 39 [.sl 38 [.int,.int]],.sl 38 [.int,.int]]) (x:=.int) (ds:=scnD s) (dx:=.int k) h rfl
 have h2:v=.int .i64 k:=by simpa [Rd] using h2
 subst h2
 rw [show valD (iBlkB_con.args (s,k)) (cs++[.int .i64 k])=[.agg cs.toArray,.int .i64 k] from h3 _ _ rfl]
 refine (BlockedNil_c s k _ w (RdRow.scene h1) hp.2).mono ?_
 rintro e w' ⟨rfl,hb⟩
 refine ⟨[.slice none 0 0],rfl,?_,hb⟩
 have e:blk s k=[]:=blk_no (by rw [robot_nil hp.2];rfl)
 show Own w' w.heap.size w'.heap.size [.sl 39 [.sl 38 [.int,.int]]] [.sl (areasD (blk s k))] [.slice none 0 0]
 rw [e]
 exact Own.nilSl _ _ _ _ _)
def iBlk_con:Con:={ ι:=Scn×Int,pre:=λ i=>scnSz i.1,args:=λ i=>[.agg [.im (.int .i64 i.1.low.1),.im (.int .i64 i.1.low.2),.im (.int .i64 i.1.high.1),.im (.int .i64 i.1.high.2),.sl 38 [.int,.int] (vecsD i.1.robot),.sl 39 [.sl 38 [.int,.int]] (areasD i.1.obst),.sl 38 [.int,.int] (vecsD i.1.tables)],.one (.im (.int .i64 i.2))],res:=λ i=>⟨false,[none],[.own 39 [.sl 38 [.int,.int]] (areasD (blk i.1 i.2))]⟩ }
theorem iBlk_ok:iBlk_con.Ok Tryz.prog 42 where
 enter:=iBlkA_ok.enter
 small:=λ _=>Nat.le_of_ble_eq_true rfl
 calls:=λ i hp F w us mb h=>by
  cases hc:(validScn i.1 && inR i.2 0 3) with
  | false=>
   refine (iBlkB_ok.calls i ⟨hp,hc⟩ F w us mb h).mono ?_
   rintro e w' ⟨rs,bs,he,q⟩
   exact ⟨rs,bs,he,⟨q.res,q.nd,q.fresh,q.turned,q.os,q.tape,q.output,q.size,q.keep⟩⟩
  | true=>
   refine (iBlkA_ok.calls i ⟨hp,hc⟩ F w us mb h).mono ?_
   rintro e w' ⟨rs,bs,he,q⟩
   exact ⟨rs,bs,he,⟨q.res,q.nd,q.fresh,q.turned,q.os,q.tape,q.output,q.size,q.keep⟩⟩
def sBlk_con:Con:={ ι:=Scn×Int,pre:=λ i=>scnSz i.1,args:=λ i=>[.agg [.im (.int .i64 i.1.low.1),.im (.int .i64 i.1.low.2),.im (.int .i64 i.1.high.1),.im (.int .i64 i.1.high.2),.sl 38 [.int,.int] (vecsD i.1.robot),.sl 39 [.sl 38 [.int,.int]] (areasD i.1.obst),.sl 38 [.int,.int] (vecsD i.1.tables)],.one (.im (.int .i64 i.2))],res:=λ i=>⟨false,[none],[.own 39 [.sl 38 [.int,.int]] (areasD (blk i.1 i.2))]⟩ }
theorem sBlk_ok:sBlk_con.Ok Tryz.prog 17:=by
 refine fok (X:=⟨tt,[(32,sRobotAt_con),(35,sObs_con)],[],31,[]⟩) mixed tt_ok (CTok.cons sRobotAt_ok (CTok.cons sObs_ok (CTok.nil _))) Tryz.func17 (λ (i:Scn×Int)=>[(6,.mk 4 (Nat) (λ x1=>{ tm:=[(17,.one (.one (.ext 1))),(18,.one (.one (.im (Value.int .i64 (((areasD i.1.obst).length:Nat):Int))))),(19,.one (.one (.im (Value.int .i64 ((x1:Nat):Int))))),(5,.one (.one (.ext 2))),(6,.one (.one (.ext 3)))],en:=[(1,.view 39 [.sl 38 [.int,.int]] (areasD i.1.obst) []),(2,.own 39 [.sl 38 [.int,.int]] (areasD (blkT i.1 i.2 x1))),(3,.own 38 [.int,.int] (vecsD (robotAt i.1 i.2)))] }) (λ x1=>x1<=i.1.obst.length) (λ x1=>i.1.obst.length-x1) (λ _=>[]))]) ?_
 rintro ⟨s,h⟩ hpre
 have hpre:scnSz s:=hpre
 refine by_nf (q:=∃ i1:Scn×Int,[DA.agg [cI s.low.1,cI s.low.2,cI s.high.1,cI s.high.2,DC.sl 38 [.int,.int] (vecsD s.robot),DC.sl 39 [.sl 38 [.int,.int]] (areasD s.obst),DC.sl 38 [.int,.int] (vecsD s.tables)],DA.one (cI h)]=sRobotAt_con.args i1/\sRobotAt_con.pre i1/\((((nI ((vecsD (robotAt i1.1 i1.2)).length)) == (0:Int))=true->((([]:List (List Dat))=areasD (blk s h))))/\(((nI ((vecsD (robotAt i1.1 i1.2)).length)) == (0:Int))=false->((∃ x1:Nat,(x1<=s.obst.length)/\((rf (vI (nI ((areasD s.obst).length))))/\(vI (0:Int)=vI (nI x1))/\(rf (areasD s.obst))/\(([]:List (List Dat))=(areasD (blkT s h x1)))/\(vecsD (robotAt i1.1 i1.2)=(vecsD (robotAt s h)))))/\∀ x1:Nat,(x1<=s.obst.length)->(((decide ((nI x1)<(nI ((areasD s.obst).length))))=true->((0<=(nI x1)/\(nI x1)<((areasD s.obst).length:Int))/\((x1<(areasD s.obst).length)/\(∃ i2:(List V2)×(List V2),[DA.one (DC.sl 38 [.int,.int] (vecsD (robotAt s h))),DA.one (DC.sl 38 [.int,.int] (((((areasD s.obst).getD x1 []).getD 0 (.int 0))).r))]=sObs_con.args i2/\sObs_con.pre i2/\(((areasD (blkT s h x1)).length+([[Dat.sl (vecsD (obsV i2.1 i2.2))]]:List (List Dat)).length<=1073741824)/\(∃ y2:Nat,(y2<=s.obst.length)/\(s.obst.length-y2<s.obst.length-x1)/\((rf (vI (nI ((areasD s.obst).length))))/\(vI (wR ((nI x1)+(1:Int)))=vI (nI y2))/\(rf (areasD s.obst))/\(((areasD (blkT s h x1))++([[Dat.sl (vecsD (obsV i2.1 i2.2))]]:List (List Dat)))=(areasD (blkT s h y2)))/\(rf (vecsD (robotAt s h))))))))))/\((decide ((nI x1)<(nI ((areasD s.obst).length))))=false->(((areasD (blkT s h x1))=areasD (blk s h))))))))) (by kernel_rfl) ?_
 delta vI wR nI
 have hz:=hpre
 obtain ⟨h1,h2,h3,h4⟩:=hpre
 have hrv:=robot_le s h
 have hvl:=vecsD_length (robotAt s h)
 have hal:=areasD_length s.obst
 refine ⟨(s,h),by
  rfl,by
  trivial,?_⟩
 refine ⟨λ c4=>?_,λ c4=>?_⟩
 ·replace c4:((((vecsD (robotAt s h)).length:Nat):Int) == (0:Int))=true:=c4
  try simp only [nrm] at c4
  have hE:=blk_no (s:=s) (h:=h) (by omega)
  rw [hE];rfl
 replace c4:((((vecsD (robotAt s h)).length:Nat):Int) == (0:Int))=false:=c4
 try simp only [nrm] at c4
 have hE:=blk_yes (s:=s) (h:=h) (by omega)
 refine ⟨⟨0,by
  omega,?_⟩,?_⟩
 ·refine ⟨rfl,?_,rfl,?_,rfl⟩
  ·rfl
  rfl
 intro (k:Nat) hki6
 have hki6:k<=s.obst.length:=hki6
 refine And.symm ⟨λ c13=>?_,λ c13=>?_⟩
 ·try simp only [nrm] at c13
  rw [hE,show k=s.obst.length by omega]
 try simp only [nrm] at c13
 have hkl:k<s.obst.length:=by omega
 refine ao (by omega) λ o14=>?_
 refine ao (by omega) λ o15=>?_
 refine ⟨(robotAt s h,s.obst.getD k []),by
  rw [areasD_at hkl];rfl,by
  exact ⟨hrv,h3 _ (by simp [List.getD,hkl])⟩,?_⟩
 refine ao (a:=(areasD (blkT s h k)).length+([[Dat.sl (vecsD (obsV (robotAt s h) (s.obst.getD k [])))]]:List (List Dat)).length<=1073741824) (by have:=blkT_len s h k;simp only [List.length_cons,List.length_nil];omega) λ o19=>?_
 refine ⟨k+1,by
  trivial,by
  omega,?_⟩
 refine ⟨rfl,?_,rfl,?_,rfl⟩
 ·exact vint (wrap64 (by omega) (by omega))
 exact blkT_snoc hkl
end Go.Proofs.YtlejeadlmpkffaaGreat
