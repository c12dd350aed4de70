import Derived.Test.YtblmlkdefjoebaaGreatFaRkBl
import Derived.Test.YtblmlkdefjoebaaGreatFaRkP
import Derived.Test.YtblmlkdefjoebaaGreatFaHulQ
import Derived.Test.YtblmlkdefjoebaaGreatFaLimN
namespace Go.Proofs.YtblmlkdefjoebaaGreat
set_option maxRecDepth 100000
set_option linter.unusedVariables false
set_option linter.unusedSimpArgs false
open Go.RowKit
theorem low_snoc {l:List V2} {k:Nat} (hk:k < l.length) (z:V2):(l.take (k+1)).foldl minV z=minV ((l.take k).foldl minV z) (l.getD k (0,0)):=foldl_take_snoc minV z l (0,0) k hk
theorem high_snoc {l:List V2} {k:Nat} (hk:k < l.length) (z:V2):(l.take (k+1)).foldl maxV z=maxV ((l.take k).foldl maxV z) (l.getD k (0,0)):=foldl_take_snoc maxV z l (0,0) k hk
def loT (l:List V2) (k:Nat):V2:=(l.take k).foldl minV (l.getD 0 (0,0))
def hiT (l:List V2) (k:Nat):V2:=(l.take k).foldl maxV (l.getD 0 (0,0))
theorem loT_all {l:List V2} {k:Nat} (h:l.length≤k):loT l k=lowOf l:=by unfold loT lowOf;rw [List.take_of_length_le h]
theorem hiT_all {l:List V2} {k:Nat} (h:l.length≤k):hiT l k=highOf l:=by unfold hiT highOf;rw [List.take_of_length_le h]
theorem loT_succ {l:List V2} {k:Nat} (hk:k < l.length):loT l (k+1)=minV (loT l k) (l.getD k (0,0)):=low_snoc hk _
theorem hiT_succ {l:List V2} {k:Nat} (hk:k < l.length):hiT l (k+1)=maxV (hiT l k) (l.getD k (0,0)):=high_snoc hk _
def wdB (l:List V2):V2×V2:=if isPoly l=true then (lowOf l,highOf l) else ((0,0),(0,0))
theorem wdB_yes {l:List V2} (h:isPoly l=true):wdB l=(lowOf l,highOf l):=by unfold wdB;rw [if_pos h]
theorem wdB_no {l:List V2} (h:isPoly l=false):wdB l=((0,0),(0,0)):=by unfold wdB;rw [if_neg (by rw [h];simp)]
def iWidth_con:Con:={ ι:=(List V2),pre:=fun i=>0 < i.length∧i.length≤1048576,args:=fun i=>[.one (.sl 37 [.int,.int] (vecsD i))],res:=fun i=>⟨true,[some 2,some 2],[.im (Value.int .i64 ((lowOf i).1)),.im (Value.int .i64 ((lowOf i).2)),.im (Value.int .i64 ((highOf i).1)),.im (Value.int .i64 ((highOf i).2))]⟩ }
theorem iWidth_ok:iWidth_con.Ok Tryz.prog 286:=by
 refine fn_ok (X:=⟨tt,[],[],45,[]⟩) mixed tt_ok (CTok.nil _) (InlOk.nil _) Tryz.func286 (by decide) rfl rfl rfl (fun _=>Nat.le_of_ble_eq_true rfl) (fun _=>Nat.le_of_ble_eq_true rfl) (fun (i:(List V2))=>[(3,.mk 6 (Nat) (fun x1=>{ tm:=[(2,.one (.one (.bp 1 0))),(3,.one (.one (.bp 2 0))),(4,.one (.one (.bp 3 0))),(5,.one (.one (.bp 4 0))),(14,.one (.one (.ext 5))),(15,.one (.one (.im (Value.int .i64 ((i.length:Nat):Int))))),(16,.one (.one (.im (Value.int .i64 ((x1:Nat):Int)))))],en:=[(1,.box [.im (Value.int .i64 (0:Int)),.im (Value.int .i64 (0:Int))]),(2,.box [.im (Value.int .i64 (0:Int)),.im (Value.int .i64 (0:Int))]),(3,.box [.im (Value.int .i64 ((loT i x1).1)),.im (Value.int .i64 ((loT i x1).2))]),(4,.box [.im (Value.int .i64 ((hiT i x1).1)),.im (Value.int .i64 ((hiT i x1).2))]),(5,.view 37 [.int,.int] (vecsD i) [])] }) (fun x1=>x1≤i.length) (fun x1=>i.length - x1) (fun _=>[]))]) ?_
 intro (l:List V2) hpre
 have hpre:0 < l.length∧l.length≤1048576:=hpre
 refine by_nf (q:=(0≤(0:Int)∧(0:Int) < ((vecsD l).length:Int))∧((0 < (vecsD l).length)∧((0≤(0:Int)∧(0:Int) < ((vecsD l).length:Int))∧((0 < (vecsD l).length)∧((∃ x1:Nat,(x1≤l.length)∧((vI (nI ((vecsD l).length))=vI (nI l.length))∧(vI (0:Int)=vI (nI x1))∧(rf (vI (0:Int)))∧(rf (vI (0:Int)))∧(rf (vI (0:Int)))∧(rf (vI (0:Int)))∧(vI ((((vecsD l).getD 0 []).getD 0 (.int 0))).n=vI ((loT l x1).1))∧(vI ((((vecsD l).getD 0 []).getD 1 (.int 0))).n=vI ((loT l x1).2))∧(vI ((((vecsD l).getD 0 []).getD 0 (.int 0))).n=vI ((hiT l x1).1))∧(vI ((((vecsD l).getD 0 []).getD 1 (.int 0))).n=vI ((hiT l x1).2))∧(rf (vecsD l))))∧∀ x1:Nat,(x1≤l.length)→(((decide ((nI x1) < (nI l.length)))=true→((0≤(nI x1)∧(nI x1) < ((vecsD l).length:Int))∧((x1 < (vecsD l).length)∧(∃ y2:Nat,(y2≤l.length)∧(l.length - y2 < l.length - x1)∧((rf (vI (nI l.length)))∧(vI (wR ((nI x1)+(1:Int)))=vI (nI y2))∧(rf (vI (0:Int)))∧(rf (vI (0:Int)))∧(rf (vI (0:Int)))∧(rf (vI (0:Int)))∧(vI (min ((loT l x1).1) (((((vecsD l).getD x1 []).getD 0 (.int 0))).n))=vI ((loT l y2).1))∧(vI (min ((loT l x1).2) (((((vecsD l).getD x1 []).getD 1 (.int 0))).n))=vI ((loT l y2).2))∧(vI (max ((hiT l x1).1) (((((vecsD l).getD x1 []).getD 0 (.int 0))).n))=vI ((hiT l y2).1))∧(vI (max ((hiT l x1).2) (((((vecsD l).getD x1 []).getD 1 (.int 0))).n))=vI ((hiT l y2).2))∧(rf (vecsD l)))))))∧((decide ((nI x1) < (nI l.length)))=false→((vI ((loT l x1).1)=vI ((lowOf l).1))∧(vI ((loT l x1).2)=vI ((lowOf l).2))∧(vI ((hiT l x1).1)=vI ((highOf l).1))∧(vI ((hiT l x1).2)=vI ((highOf l).2)))))))))) (by kernel_rfl) ?_
 delta vI wR nI
 have hvl:=vecsD_length l
 refine ao (by omega) fun o1=>?_
 refine ao (by omega) fun o2=>?_
 refine ao (by omega) fun o3=>?_
 refine ao (by omega) fun o4=>?_
 refine ⟨⟨0,by
  omega,?_⟩,?_⟩
 ·refine ⟨?_,?_,rfl,rfl,rfl,rfl,?_,?_,?_,?_,rfl⟩
  ·rw [hvl];done
  ·rfl
  ·rw [vecs_x (by omega)];rfl
  ·rw [vecs_y (by omega)];rfl
  ·rw [vecs_x (by omega)];rfl
  rw [vecs_y (by omega)];rfl
 intro (k:Nat) hki5
 have hki5:k≤l.length:=hki5
 refine And.symm ⟨fun c18=>?_,fun c18=>?_⟩
 ·try simp only [nrm] at c18
  refine ⟨?_,?_,?_,?_⟩
  ·rw [loT_all (by omega)];done
  ·rw [loT_all (by omega)];done
  ·rw [hiT_all (by omega)];done
  rw [hiT_all (by omega)];done
 try simp only [nrm] at c18
 refine ao (by omega) fun o19=>?_
 refine ao (by omega) fun o20=>?_
 refine ⟨k+1,by
  omega,by
  omega,?_⟩
 refine ⟨rfl,?_,rfl,rfl,rfl,rfl,?_,?_,?_,?_,rfl⟩
 ·exact vint (wrap64 (by omega) (by omega))
 ·rw [loT_succ (by omega),vecs_x (by omega)];rfl
 ·rw [loT_succ (by omega),vecs_y (by omega)];rfl
 ·rw [hiT_succ (by omega),vecs_x (by omega)];rfl
 rw [hiT_succ (by omega),vecs_y (by omega)];rfl
def l07Min_con:Con:={ ι:=Int×Int,pre:=fun i=>True,args:=fun i=>[.one (.im (.int .i64 i.1)),.one (.im (.int .i64 i.2))],res:=fun i=>⟨false,[none],[.im (Value.int .i64 (min i.1 i.2))]⟩ }
theorem l07Min_ok:l07Min_con.Ok Tryz.prog 278:=by
 refine fn_ok (X:=⟨tt,[],[],10,[]⟩) mixed tt_ok (CTok.nil _) (InlOk.nil _) Tryz.func278 (by decide) rfl rfl rfl (fun _=>Nat.le_of_ble_eq_true rfl) (fun _=>Nat.le_of_ble_eq_true rfl) (fun _=>[]) ?_
 rintro ⟨a,b⟩ hpre
 have hpre:True:=hpre
 refine by_nf (q:=((decide (a < b))=true→((vI a=vI (min a b))))∧((decide (a < b))=false→((vI b=vI (min a b))))) (by kernel_rfl) ?_
 delta vI
 refine ⟨fun c1=>?_,fun c1=>?_⟩
 ·try simp only [nrm] at c1
  exact congrArg (Value.int .i64) (Int.min_eq_left (by omega)).symm
 try simp only [nrm] at c1
 exact congrArg (Value.int .i64) (Int.min_eq_right (by omega)).symm
def sWidth_con:Con:={ ι:=(List V2),pre:=fun i=>True,args:=fun i=>[.one (.sl 37 [.int,.int] (vecsD i))],res:=fun i=>⟨true,[some 2,some 2,none],[.im (Value.int .i64 ((wdB i).1.1)),.im (Value.int .i64 ((wdB i).1.2)),.im (Value.int .i64 ((wdB i).2.1)),.im (Value.int .i64 ((wdB i).2.2)),.im (Value.bool (isPoly i))]⟩ }
theorem sWidth_ok:sWidth_con.Ok Tryz.prog 191:=by
 refine fn_ok (X:=⟨tt,[(88,sIsPoly_con),(278,l07Min_con),(279,l07Max_con)],[],53,[]⟩) mixed tt_ok (CTok.cons sIsPoly_ok (CTok.cons l07Min_ok (CTok.cons l07Max_ok (CTok.nil _)))) (InlOk.nil _) Tryz.func191 (by decide) rfl rfl rfl (fun _=>Nat.le_of_ble_eq_true rfl) (fun _=>Nat.le_of_ble_eq_true rfl) (fun (i:(List V2))=>[(6,.mk 6 (Nat) (fun x1=>{ tm:=[(2,.one (.one (.bp 1 0))),(3,.one (.one (.bp 2 0))),(5,.one (.one (.bp 3 0))),(6,.one (.one (.bp 4 0))),(20,.one (.one (.ext 5))),(21,.one (.one (.im (Value.int .i64 ((i.length:Nat):Int))))),(22,.one (.one (.im (Value.int .i64 ((x1:Nat):Int)))))],en:=[(1,.box [.im (Value.int .i64 (0:Int)),.im (Value.int .i64 (0:Int))]),(2,.box [.im (Value.int .i64 (0:Int)),.im (Value.int .i64 (0:Int))]),(3,.box [.im (Value.int .i64 ((loT i x1).1)),.im (Value.int .i64 ((loT i x1).2))]),(4,.box [.im (Value.int .i64 ((hiT i x1).1)),.im (Value.int .i64 ((hiT i x1).2))]),(5,.view 37 [.int,.int] (vecsD i) [])] }) (fun x1=>x1≤i.length) (fun x1=>i.length - x1) (fun _=>[]))]) ?_
 intro (l:List V2) hpre
 have hpre:True:=hpre
 refine by_nf (q:=∃ i1:(List V2),[DA.one (DC.sl 37 [.int,.int] (vecsD l))]=sIsPoly_con.args i1∧sIsPoly_con.pre i1∧(((!(isPoly i1))=true→((vI (0:Int)=vI ((wdB l).1.1))∧(vI (0:Int)=vI ((wdB l).1.2))∧(vI (0:Int)=vI ((wdB l).2.1))∧(vI (0:Int)=vI ((wdB l).2.2))∧(Value.bool false=Value.bool (isPoly l))))∧((!(isPoly i1))=false→((0≤(0:Int)∧(0:Int) < ((vecsD l).length:Int))∧((0 < (vecsD l).length)∧((0≤(0:Int)∧(0:Int) < ((vecsD l).length:Int))∧((0 < (vecsD l).length)∧((∃ x1:Nat,(x1≤l.length)∧((vI (nI ((vecsD l).length))=vI (nI l.length))∧(vI (0:Int)=vI (nI x1))∧(rf (vI (0:Int)))∧(rf (vI (0:Int)))∧(rf (vI (0:Int)))∧(rf (vI (0:Int)))∧(vI ((((vecsD l).getD 0 []).getD 0 (.int 0))).n=vI ((loT l x1).1))∧(vI ((((vecsD l).getD 0 []).getD 1 (.int 0))).n=vI ((loT l x1).2))∧(vI ((((vecsD l).getD 0 []).getD 0 (.int 0))).n=vI ((hiT l x1).1))∧(vI ((((vecsD l).getD 0 []).getD 1 (.int 0))).n=vI ((hiT l x1).2))∧(rf (vecsD l))))∧∀ x1:Nat,(x1≤l.length)→(((decide ((nI x1) < (nI l.length)))=true→((0≤(nI x1)∧(nI x1) < ((vecsD l).length:Int))∧((x1 < (vecsD l).length)∧(∃ i2:Int×Int,[DA.one (cI ((loT l x1).1)),DA.one (cI (((((vecsD l).getD x1 []).getD 0 (.int 0))).n))]=l07Min_con.args i2∧l07Min_con.pre i2∧(∃ i3:Int×Int,[DA.one (cI ((loT l x1).2)),DA.one (cI (((((vecsD l).getD x1 []).getD 1 (.int 0))).n))]=l07Min_con.args i3∧l07Min_con.pre i3∧(∃ i4:Int×Int,[DA.one (cI ((hiT l x1).1)),DA.one (cI (((((vecsD l).getD x1 []).getD 0 (.int 0))).n))]=l07Max_con.args i4∧l07Max_con.pre i4∧(∃ i5:Int×Int,[DA.one (cI ((hiT l x1).2)),DA.one (cI (((((vecsD l).getD x1 []).getD 1 (.int 0))).n))]=l07Max_con.args i5∧l07Max_con.pre i5∧(∃ y2:Nat,(y2≤l.length)∧(l.length - y2 < l.length - x1)∧((rf (vI (nI l.length)))∧(vI (wR ((nI x1)+(1:Int)))=vI (nI y2))∧(rf (vI (0:Int)))∧(rf (vI (0:Int)))∧(rf (vI (0:Int)))∧(rf (vI (0:Int)))∧(vI (min i2.1 i2.2)=vI ((loT l y2).1))∧(vI (min i3.1 i3.2)=vI ((loT l y2).2))∧(vI (max i4.1 i4.2)=vI ((hiT l y2).1))∧(vI (max i5.1 i5.2)=vI ((hiT l y2).2))∧(rf (vecsD l)))))))))))∧((decide ((nI x1) < (nI l.length)))=false→((vI ((loT l x1).1)=vI ((wdB l).1.1))∧(vI ((loT l x1).2)=vI ((wdB l).1.2))∧(vI ((hiT l x1).1)=vI ((wdB l).2.1))∧(vI ((hiT l x1).2)=vI ((wdB l).2.2))∧(Value.bool true=Value.bool (isPoly l))))))))))))) (by kernel_rfl) ?_
 delta vI wR nI
 have hvl:=vecsD_length l
 refine ⟨l,by
  rfl,by
  trivial,?_⟩
 refine ⟨fun c4=>?_,fun c4=>?_⟩
 ·try simp only [nrm] at c4
  have hE:=wdB_no c4
  refine ⟨?_,?_,?_,?_,?_⟩
  ·rw [hE];done
  ·rw [hE];done
  ·rw [hE];done
  ·rw [hE];done
  rw [c4]
 try simp only [nrm] at c4
 have hE:=wdB_yes c4
 have hP:=isPoly_len c4
 refine ao (by omega) fun o10=>?_
 refine ao (by omega) fun o11=>?_
 refine ao (by omega) fun o12=>?_
 refine ao (by omega) fun o13=>?_
 refine ⟨⟨0,by
  omega,?_⟩,?_⟩
 ·refine ⟨?_,?_,rfl,rfl,rfl,rfl,?_,?_,?_,?_,rfl⟩
  ·rw [hvl];done
  ·rfl
  ·rw [vecs_x (by omega)];rfl
  ·rw [vecs_y (by omega)];rfl
  ·rw [vecs_x (by omega)];rfl
  rw [vecs_y (by omega)];rfl
 intro (k:Nat) hki14
 have hki14:k≤l.length:=hki14
 refine And.symm ⟨fun c27=>?_,fun c27=>?_⟩
 ·try simp only [nrm] at c27
  refine ⟨?_,?_,?_,?_,?_⟩
  ·rw [hE,loT_all (by omega)];done
  ·rw [hE,loT_all (by omega)];done
  ·rw [hE,hiT_all (by omega)];done
  ·rw [hE,hiT_all (by omega)];done
  rw [c4]
 try simp only [nrm] at c27
 refine ao (by omega) fun o28=>?_
 refine ao (by omega) fun o29=>?_
 refine ⟨(((loT l k).1),((((vecsD l).getD k []).getD 0 (.int 0))).n),by
  rfl,by
  trivial,?_⟩
 refine ⟨(((loT l k).2),((((vecsD l).getD k []).getD 1 (.int 0))).n),by
  rfl,by
  trivial,?_⟩
 refine ⟨(((hiT l k).1),((((vecsD l).getD k []).getD 0 (.int 0))).n),by
  rfl,by
  trivial,?_⟩
 refine ⟨(((hiT l k).2),((((vecsD l).getD k []).getD 1 (.int 0))).n),by
  rfl,by
  trivial,?_⟩
 refine ⟨k+1,by
  omega,by
  omega,?_⟩
 refine ⟨rfl,?_,rfl,rfl,rfl,rfl,?_,?_,?_,?_,rfl⟩
 ·exact vint (wrap64 (by omega) (by omega))
 ·rw [loT_succ (by omega),vecs_x (by omega)];rfl
 ·rw [loT_succ (by omega),vecs_y (by omega)];rfl
 ·rw [hiT_succ (by omega),vecs_x (by omega)];rfl
 rw [hiT_succ (by omega),vecs_y (by omega)];rfl
theorem negL_get (l:List V2) (i:Nat):(negL l).getD i (0,0)=(-(l.getD i (0,0)).1,-(l.getD i (0,0)).2):=by
 unfold negL
 simp only [List.getD,List.getElem?_map]
 cases l[i]? <;> simp
theorem turn_neg (a b c:V2):turnI (-a.1,-a.2) (-b.1,-b.2) (-c.1,-c.2)=turnI a b c:=by simp only [turnI];grind
theorem isVec_neg (p:V2):isVec (-p.1,-p.2)=isVec p:=by
 unfold isVec insB inR
 simp only
 congr 1
 ·have:(-1000≤-p.1)=(p.1≤1000):=by apply propext;omega
  have h2:(-p.1≤1000)=(-1000≤p.1):=by apply propext;omega
  simp only [this,h2,Bool.and_comm]
 ·have:(-1000≤-p.2)=(p.2≤1000):=by apply propext;omega
  have h2:(-p.2≤1000)=(-1000≤p.2):=by apply propext;omega
  simp only [this,h2,Bool.and_comm]
theorem isPoly_neg {l:List V2} (h:isPoly l=true):isPoly (negL l)=true:=by
 obtain ⟨h1,h2,h3⟩:=isPoly_iff.1 h
 refine isPoly_iff.2 ⟨by rw [negL_len];exact h1,?_,fun i j hi hj n1 n2=>?_⟩
 ·rw [List.all_eq_true] at h2 ⊢
  intro x hx
  obtain ⟨y,hy,rfl⟩:=List.mem_map.1 hx
  rw [isVec_neg];exact h2 y hy
 ·rw [negL_len] at hi hj n2
  rw [negL_len,negL_get,negL_get,negL_get,turn_neg]
  exact h3 i j hi hj n1 n2
theorem scn_robF {s:Scn} (h:validScn s=true):isPoly s.robot=true∧s.robot.length≤5∧s.robot.all (insB 20)=true:=by
 simp only [validScn,shape,Bool.and_eq_true,decide_eq_true_eq] at h
 exact ⟨h.1.2.1.1,h.1.2.1.2,h.1.2.2⟩
theorem scn_obF {s:Scn} (h:validScn s=true) {o:List V2} (ho:o ∈ s.obst):isPoly o=true∧o.length≤5∧o.all (insB 200)=true:=by
 simp only [validScn,Bool.and_eq_true,decide_eq_true_eq] at h
 have:=List.all_eq_true.1 h.2.1.1.1 o ho
 simp only [shape,Bool.and_eq_true,decide_eq_true_eq] at this
 exact ⟨this.1.1,this.1.2,this.2⟩
theorem bd_getD {m:Int} {l:List V2} (h:l.all (insB m)=true) {i:Nat} (hi:i < l.length):-m≤(l.getD i (0,0)).1∧(l.getD i (0,0)).1≤m∧-m≤(l.getD i (0,0)).2∧(l.getD i (0,0)).2≤m:=by
 refine insB_bd (List.all_eq_true.1 h _ ?_)
 simp [List.getD,hi]
theorem robot_poly {s:Scn} {h:Int} (hv:(validScn s && inR h 0 3)=true):isPoly (robotAt s h)=true∧(robotAt s h).length≤5∧(robotAt s h).all (insB 20)=true:=by
 rw [Bool.and_eq_true] at hv
 obtain ⟨h1,h2,h3⟩:=scn_robF hv.1
 rw [robotAt_yes hv.1 (inR_iff.1 hv.2)]
 refine ⟨by rw [isPoly_turn];exact h1,by simpa [turnPoly] using h2,?_⟩
 rw [List.all_eq_true] at h3 ⊢
 intro x hx
 obtain ⟨y,hy,rfl⟩:=List.mem_map.1 hx
 exact insB_rotN (h3 y hy) _
theorem obs_poly {s:Scn} {h:Int} (hv:(validScn s && inR h 0 3)=true) {o:List V2} (ho:o ∈ s.obst):isPoly (obsV (robotAt s h) o)=true∧obsV (robotAt s h) o=sumS o (negL (robotAt s h)):=by
 obtain ⟨r1,r2,r3⟩:=robot_poly hv
 rw [Bool.and_eq_true] at hv
 obtain ⟨o1,o2,o3⟩:=scn_obF hv.1 ho
 have rp:=isPoly_len r1
 have e:negV (robotAt s h)=negL (robotAt s h):=neg_yes rp.2.2
 have n1:=isPoly_neg r1
 have hl:=negL_len (robotAt s h)
 have h64:o.length*(negL (robotAt s h)).length≤64:=by
  rw [hl]
  exact Nat.le_trans (Nat.mul_le_mul o2 r2) (by decide)
 have hp:=sum_isPoly o1 n1 h64 (by omega) (fun i j hi hj=>by
  have b1:=bd_getD o3 hi
  have b2:=bd_getD r3 (show j < (robotAt s h).length by omega)
  rw [negL_get]
  unfold isVec insB
  simp only [addV,Bool.and_eq_true,inR_iff]
  omega)
 have e2:obsV (robotAt s h) o=sumS o (negL (robotAt s h)):=by unfold obsV;rw [e];exact sum_yes o1 n1 h64 hp
 exact ⟨by rw [e2];exact hp,e2⟩
theorem blk_poly {s:Scn} {h:Int} (hv:(validScn s && inR h 0 3)=true):∀ z ∈ blk s h,isPoly z=true:=by
 intro z hz
 rw [blk_yes (by have:=robot_some hv;omega)] at hz
 unfold blkT at hz
 rw [List.take_length] at hz
 obtain ⟨o,ho,rfl⟩:=List.mem_map.1 hz
 exact (obs_poly hv ho).1
def conF (ar:List (List V2)) (q:Pq):Bool:=ar.any fun z=>decide (0≤conZ z q)
theorem conF_eq {ar:List (List V2)} (h:∀ z ∈ ar,isPoly z=true) {p:PtD} (hp:okP p=true):(ar.any fun z=>decide (0≤cpZ z p))=conF ar (pqR p):=by
 unfold conF
 rw [Bool.eq_iff_iff,List.any_eq_true,List.any_eq_true]
 constructor
 ·rintro ⟨z,hz,h0⟩;exact ⟨z,hz,by rwa [cpZ_yes (h z hz) hp] at h0⟩
 ·rintro ⟨z,hz,h0⟩;exact ⟨z,hz,by rw [cpZ_yes (h z hz) hp];exact h0⟩
def freeQ (b:V2×V2) (ar:List (List V2)) (q:Pq):Bool:=inQ b q && !(conF ar q)
theorem freeA_eq {b:V2×V2} {ar:List (List V2)} (h:∀ z ∈ ar,isPoly z=true) {p:PtD} : freeA b ar p=(okP p && freeQ b ar (pqR p)):=by
 unfold freeA inBoxB freeQ
 cases hp:okP p with
 | false=>rfl
 | true=>rw [conF_eq h hp];simp
def freeS (s:Scn) (h:Int) (p:PtD):Bool:=limitsOk s h && freeA (limitsBox s h) (blk s h) p
theorem limitsOk_val {s:Scn} {h:Int} (hl:limitsOk s h=true):(validScn s && inR h 0 3)=true:=by
 unfold limitsOk at hl
 rw [Bool.and_eq_true] at hl
 exact hl.1
theorem limits_yes {s:Scn} {h:Int} (hv:(validScn s && inR h 0 3)=true):limitsOk s h=boxOpen (boxOf s h.toNat):=by unfold limitsOk;rw [hv,Bool.true_and]
theorem limits_no {s:Scn} {h:Int} (hv:(validScn s && inR h 0 3)=false):limitsOk s h=false∧limitsBox s h=((0,0),(0,0)):=by
 have e:limitsOk s h=false:=by unfold limitsOk;rw [hv,Bool.false_and]
 exact ⟨e,by unfold limitsBox;rw [e];rfl⟩
theorem limits_shut {s:Scn} {h:Int} (hl:limitsOk s h=false):limitsBox s h=((0,0),(0,0)):=by unfold limitsBox;rw [hl];rfl
theorem limits_open {s:Scn} {h:Int} (hl:limitsOk s h=true):limitsBox s h=boxOf s h.toNat:=by unfold limitsBox;rw [hl];rfl
theorem box_w {s:Scn} {h:Int} (hv:(validScn s && inR h 0 3)=true):IntKind.i64.wrap (s.low.1 - (lowOf (robotAt s h)).1)=(boxOf s h.toNat).1.1∧IntKind.i64.wrap (s.low.2 - (lowOf (robotAt s h)).2)=(boxOf s h.toNat).1.2∧IntKind.i64.wrap (s.high.1 - (highOf (robotAt s h)).1)=(boxOf s h.toNat).2.1∧IntKind.i64.wrap (s.high.2 - (highOf (robotAt s h)).2)=(boxOf s h.toNat).2.2:=by
 obtain ⟨r1,r2,r3⟩:=robot_poly hv
 have hn:=(isPoly_len r1).1
 rw [Bool.and_eq_true] at hv
 have hb:=scn_room hv.1
 have e:=robotAt_yes hv.1 (inR_iff.1 hv.2)
 have hz:=bd_getD r3 (show 0 < (robotAt s h).length by omega)
 have hl:∀ p ∈ robotAt s h,-20≤p.1∧p.1≤20∧-20≤p.2∧p.2≤20:=fun p hp=>insB_bd (List.all_eq_true.1 r3 p hp)
 have b1:=foldl_min_bd (m:=20) (robotAt s h) ((robotAt s h).getD 0 (0,0)) hz hl
 have b2:=foldl_max_bd (m:=20) (robotAt s h) ((robotAt s h).getD 0 (0,0)) hz hl
 have e1:boxOf s h.toNat=((s.low.1 - (lowOf (robotAt s h)).1,s.low.2 - (lowOf (robotAt s h)).2),(s.high.1 - (highOf (robotAt s h)).1,s.high.2 - (highOf (robotAt s h)).2)):=by rw [e];rfl
 rw [e1]
 have c1:lowOf (robotAt s h)=(robotAt s h).foldl minV ((robotAt s h).getD 0 (0,0)):=rfl
 have c2:highOf (robotAt s h)=(robotAt s h).foldl maxV ((robotAt s h).getD 0 (0,0)):=rfl
 rw [c1,c2]
 exact ⟨wrap64 (by omega) (by omega),wrap64 (by omega) (by omega),wrap64 (by omega) (by omega),wrap64 (by omega) (by omega)⟩
theorem box_bd {s:Scn} {h:Int} (hv:(validScn s && inR h 0 3)=true):bxOk (boxOf s h.toNat):=by
 obtain ⟨r1,r2,r3⟩:=robot_poly hv
 have hn:=(isPoly_len r1).1
 rw [Bool.and_eq_true] at hv
 have hb:=scn_room hv.1
 have e:=robotAt_yes hv.1 (inR_iff.1 hv.2)
 have hz:=bd_getD r3 (show 0 < (robotAt s h).length by omega)
 have hl:∀ p ∈ robotAt s h,-20≤p.1∧p.1≤20∧-20≤p.2∧p.2≤20:=fun p hp=>insB_bd (List.all_eq_true.1 r3 p hp)
 have b1:=foldl_min_bd (m:=20) (robotAt s h) ((robotAt s h).getD 0 (0,0)) hz hl
 have b2:=foldl_max_bd (m:=20) (robotAt s h) ((robotAt s h).getD 0 (0,0)) hz hl
 have e1:boxOf s h.toNat=((s.low.1 - (lowOf (robotAt s h)).1,s.low.2 - (lowOf (robotAt s h)).2),(s.high.1 - (highOf (robotAt s h)).1,s.high.2 - (highOf (robotAt s h)).2)):=by rw [e];rfl
 rw [e1]
 have c1:lowOf (robotAt s h)=(robotAt s h).foldl minV ((robotAt s h).getD 0 (0,0)):=rfl
 have c2:highOf (robotAt s h)=(robotAt s h).foldl maxV ((robotAt s h).getD 0 (0,0)):=rfl
 rw [c1,c2]
 unfold bxOk
 simp only
 omega
theorem limits_bd (s:Scn) (h:Int):bxOk (limitsBox s h):=by
 cases hl:limitsOk s h with
 | false=>rw [limits_shut hl];unfold bxOk;simp only;omega
 | true=>rw [limits_open hl];exact box_bd (limitsOk_val hl)
def iLimA_con:Con:={ ι:=Scn×Int,pre:=fun i=>scnSz i.1∧(validScn i.1 && inR i.2 0 3)=true,args:=fun i=>[.agg [.im (.int .i64 i.1.low.1),.im (.int .i64 i.1.low.2),.im (.int .i64 i.1.high.1),.im (.int .i64 i.1.high.2),.sl 37 [.int,.int] (vecsD i.1.robot),.sl 74 [.sl 37 [.int,.int]] (areasD i.1.obst),.sl 37 [.int,.int] (vecsD i.1.tables)],.one (.im (.int .i64 i.2))],res:=fun i=>⟨true,[some 4,none],[.im (Value.int .i64 ((limitsBox i.1 i.2).1.1)),.im (Value.int .i64 ((limitsBox i.1 i.2).1.2)),.im (Value.int .i64 ((limitsBox i.1 i.2).2.1)),.im (Value.int .i64 ((limitsBox i.1 i.2).2.2)),.im (Value.bool (limitsOk i.1 i.2))]⟩ }
theorem iLimA_ok:iLimA_con.Ok Tryz.prog 197:=by
 refine fn_ok (X:=⟨tt,[(285,iRobotAt_con),(286,iWidth_con)],[],66,[]⟩) mixed tt_ok (CTok.cons iRobotAt_ok (CTok.cons iWidth_ok (CTok.nil _))) (InlOk.nil _) Tryz.func197 (by decide) rfl rfl rfl (fun _=>Nat.le_of_ble_eq_true rfl) (fun _=>Nat.le_of_ble_eq_true rfl) (fun _=>[]) ?_
 rintro ⟨s,h⟩ hpre
 have hpre:scnSz s∧(validScn s && inR h 0 3)=true:=hpre
 refine by_nf (q:=∃ i1:Scn×Int,[DA.agg [cI s.low.1,cI s.low.2,cI s.high.1,cI s.high.2,DC.sl 37 [.int,.int] (vecsD s.robot),DC.sl 74 [.sl 37 [.int,.int]] (areasD s.obst),DC.sl 37 [.int,.int] (vecsD s.tables)],DA.one (cI h)]=iRobotAt_con.args i1∧iRobotAt_con.pre i1∧(∀ b2:Bool,(b2=true→vecsD (robotAt i1.1 i1.2)=[])→((b2=true→((vI (0:Int)=vI ((limitsBox s h).1.1))∧(vI (0:Int)=vI ((limitsBox s h).1.2))∧(vI (0:Int)=vI ((limitsBox s h).2.1))∧(vI (0:Int)=vI ((limitsBox s h).2.2))∧(Value.bool false=Value.bool (limitsOk s h))))∧(b2=false→(∃ i3:(List V2),[DA.one (DC.sl 37 [.int,.int] (vecsD (robotAt i1.1 i1.2)))]=iWidth_con.args i3∧iWidth_con.pre i3∧(((!(decide ((wR (s.low.1 - ((lowOf i3).1)))≥(wR (s.high.1 - ((highOf i3).1))))))=true→(((decide ((wR (s.low.2 - ((lowOf i3).2)))≥(wR (s.high.2 - ((highOf i3).2)))))=true→((vI (0:Int)=vI ((limitsBox s h).1.1))∧(vI (0:Int)=vI ((limitsBox s h).1.2))∧(vI (0:Int)=vI ((limitsBox s h).2.1))∧(vI (0:Int)=vI ((limitsBox s h).2.2))∧(Value.bool false=Value.bool (limitsOk s h))))∧((decide ((wR (s.low.2 - ((lowOf i3).2)))≥(wR (s.high.2 - ((highOf i3).2)))))=false→((vI (wR (s.low.1 - ((lowOf i3).1)))=vI ((limitsBox s h).1.1))∧(vI (wR (s.low.2 - ((lowOf i3).2)))=vI ((limitsBox s h).1.2))∧(vI (wR (s.high.1 - ((highOf i3).1)))=vI ((limitsBox s h).2.1))∧(vI (wR (s.high.2 - ((highOf i3).2)))=vI ((limitsBox s h).2.2))∧(Value.bool true=Value.bool (limitsOk s h))))))∧((!(decide ((wR (s.low.1 - ((lowOf i3).1)))≥(wR (s.high.1 - ((highOf i3).1))))))=false→((vI (0:Int)=vI ((limitsBox s h).1.1))∧(vI (0:Int)=vI ((limitsBox s h).1.2))∧(vI (0:Int)=vI ((limitsBox s h).2.1))∧(vI (0:Int)=vI ((limitsBox s h).2.2))∧(Value.bool false=Value.bool (limitsOk s h)))))))))) (by kernel_rfl) ?_
 delta vI wR
 have hv:=hpre.2
 have hpre:=hpre.1
 have hrs:=robot_some hv
 obtain ⟨w1,w2,w3,w4⟩:=box_w hv
 have hrv:=robot_le s h
 have hvl:=vecsD_length (robotAt s h)
 refine ⟨(s,h),by
  rfl,by
  trivial,?_⟩
 intro b2 q4
 refine ⟨fun c5=>?_,fun c5=>?_⟩
 ·try simp only [nrm] at c5
  exfalso
  have hq:=congrArg List.length (q4 c5)
  rw [show vecsD (robotAt (s,h).1 (s,h).2)=vecsD (robotAt s h) from rfl,hvl] at hq
  simp only [List.length_nil] at hq
  omega -- done
 try simp only [nrm] at c5
 refine ⟨(robotAt s h),by
  rfl,by
  trivial,?_⟩
 refine And.symm ⟨fun c14=>?_,fun c14=>?_⟩
 ·try simp only [nrm] at c14
  rw [w1,w3] at c14
  have hO:limitsOk s h=false:=by rw [limits_yes hv];unfold boxOpen;rw [decide_eq_false (by omega)];rfl
  have hE:=limits_shut hO
  refine ⟨?_,?_,?_,?_,?_⟩
  ·rw [hE];done
  ·rw [hE];done
  ·rw [hE];done
  ·rw [hE];done
  rw [hO];done
 try simp only [nrm] at c14
 refine ⟨fun c15=>?_,fun c15=>?_⟩
 ·try simp only [nrm] at c15
  rw [w2,w4] at c15
  have hO:limitsOk s h=false:=by rw [limits_yes hv];unfold boxOpen;rw [decide_eq_false (show ¬ (boxOf s h.toNat).1.2 < (boxOf s h.toNat).2.2 by omega),Bool.and_false]
  have hE:=limits_shut hO
  refine ⟨?_,?_,?_,?_,?_⟩
  ·rw [hE];done
  ·rw [hE];done
  ·rw [hE];done
  ·rw [hE];done
  rw [hO];done
 try simp only [nrm] at c15
 rw [w1,w3] at c14
 rw [w2,w4] at c15
 have hO:limitsOk s h=true:=by rw [limits_yes hv];unfold boxOpen;rw [decide_eq_true (by omega),decide_eq_true (by omega)];rfl
 have hE:=limits_open hO
 refine ⟨?_,?_,?_,?_,?_⟩
 ·rw [hE,w1]
 ·rw [hE,w2]
 ·rw [hE,w3]
 ·rw [hE,w4]
 rw [hO];done
def iLimB_con:Con:={ ι:=Scn×Int,pre:=fun i=>scnSz i.1∧(validScn i.1 && inR i.2 0 3)=false,args:=fun i=>[.agg [.im (.int .i64 i.1.low.1),.im (.int .i64 i.1.low.2),.im (.int .i64 i.1.high.1),.im (.int .i64 i.1.high.2),.sl 37 [.int,.int] (vecsD i.1.robot),.sl 74 [.sl 37 [.int,.int]] (areasD i.1.obst),.sl 37 [.int,.int] (vecsD i.1.tables)],.one (.im (.int .i64 i.2))],res:=fun i=>⟨true,[some 4,none],[.im (Value.int .i64 ((limitsBox i.1 i.2).1.1)),.im (Value.int .i64 ((limitsBox i.1 i.2).1.2)),.im (Value.int .i64 ((limitsBox i.1 i.2).2.1)),.im (Value.int .i64 ((limitsBox i.1 i.2).2.2)),.im (Value.bool (limitsOk i.1 i.2))]⟩ }
theorem iLimB_ok:iLimB_con.Ok Tryz.prog 197:=genOwn_ok rfl ⟨_,Tryz.func197,by decide,rfl⟩ (fun _=>Nat.le_of_ble_eq_true rfl) (fun _=>rfl) (fun i=>[.im (.int .i64 (limitsBox i.1 i.2).1.1),.im (.int .i64 (limitsBox i.1 i.2).1.2),.im (.int .i64 (limitsBox i.1 i.2).2.1),.im (.int .i64 (limitsBox i.1 i.2).2.2),.im (.bool (limitsOk i.1 i.2))]) (fun _=>rfl) (fun _=>rfl) (fun i hp w us h=>by
 obtain ⟨s,k⟩:=i
 obtain ⟨cs,v,rfl,h1,h2,h3⟩:=vals_agg_one (t:=[.int,.int,.int,.int,.sl 37 [.int,.int],.sl 74 [.sl 37 [.int,.int]],.sl 37 [.int,.int]]) (x:=.int) (ds:=scnD s) (dx:=.int k) h rfl
 have h2:v=.int .i64 k:=by simpa [Rd] using h2
 subst h2
 rw [show valD (iLimB_con.args (s,k)) (cs++[.int .i64 k])=[.agg cs.toArray,.int .i64 k] from h3 _ _ rfl]
 refine (LimitsNil_c s k _ w (RdRow.scene h1) hp.2).mono ?_
 rintro e w' ⟨rfl,hb⟩
 obtain ⟨e1,e2⟩:=limits_no hp.2
 refine ⟨[.int .i64 0,.int .i64 0,.int .i64 0,.int .i64 0,.bool false],rfl,?_,hb⟩
 show Own w' w.heap.size w'.heap.size [.int,.int,.int,.int,.bool] [.int (limitsBox s k).1.1,.int (limitsBox s k).1.2,.int (limitsBox s k).2.1,.int (limitsBox s k).2.2,.bool (limitsOk s k)] [.int .i64 0,.int .i64 0,.int .i64 0,.int .i64 0,.bool false]
 rw [e1,e2]
 exact ⟨[],⟨[],[],rfl,Fp.mk_int _,[],[],rfl,Fp.mk_int _,[],[],rfl,Fp.mk_int _,[],[],rfl,Fp.mk_int _,[],[],rfl,Fp.mk_bool _,rfl⟩,List.nodup_nil,fun b hb=>by simp at hb⟩)
def iLim_con:Con:={ ι:=Scn×Int,pre:=fun i=>scnSz i.1,args:=fun i=>[.agg [.im (.int .i64 i.1.low.1),.im (.int .i64 i.1.low.2),.im (.int .i64 i.1.high.1),.im (.int .i64 i.1.high.2),.sl 37 [.int,.int] (vecsD i.1.robot),.sl 74 [.sl 37 [.int,.int]] (areasD i.1.obst),.sl 37 [.int,.int] (vecsD i.1.tables)],.one (.im (.int .i64 i.2))],res:=fun i=>⟨true,[some 4,none],[.im (Value.int .i64 ((limitsBox i.1 i.2).1.1)),.im (Value.int .i64 ((limitsBox i.1 i.2).1.2)),.im (Value.int .i64 ((limitsBox i.1 i.2).2.1)),.im (Value.int .i64 ((limitsBox i.1 i.2).2.2)),.im (Value.bool (limitsOk i.1 i.2))]⟩ }
theorem iLim_ok:iLim_con.Ok Tryz.prog 197 where
 enter:=iLimA_ok.enter
 small:=fun _=>Nat.le_of_ble_eq_true rfl
 calls:=fun i hp F w us mb h=>by
  cases hc:(validScn i.1 && inR i.2 0 3) with
  | false=>
   refine (iLimB_ok.calls i ⟨hp,hc⟩ F w us mb h).mono ?_
   rintro e w' ⟨rs,bs,he,q⟩
   exact ⟨rs,bs,he,⟨q.res,q.nd,q.fresh,q.turned,q.os,q.tape,q.output,q.size,q.keep⟩⟩
  | true=>
   refine (iLimA_ok.calls i ⟨hp,hc⟩ F w us mb h).mono ?_
   rintro e w' ⟨rs,bs,he,q⟩
   exact ⟨rs,bs,he,⟨q.res,q.nd,q.fresh,q.turned,q.os,q.tape,q.output,q.size,q.keep⟩⟩
theorem wd_robot {s:Scn} {h:Int} (hv:(validScn s && inR h 0 3)=true):isPoly (robotAt s h)=true∧wdB (robotAt s h)=(lowOf (robotAt s h),highOf (robotAt s h)):=⟨(robot_poly hv).1,wdB_yes (robot_poly hv).1⟩
theorem wd_none {s:Scn} {h:Int} (hv:(validScn s && inR h 0 3)=false):isPoly (robotAt s h)=false:=by rw [robot_nil hv];rfl
def sLim_con:Con:={ ι:=Scn×Int,pre:=fun i=>scnSz i.1,args:=fun i=>[.agg [.im (.int .i64 i.1.low.1),.im (.int .i64 i.1.low.2),.im (.int .i64 i.1.high.1),.im (.int .i64 i.1.high.2),.sl 37 [.int,.int] (vecsD i.1.robot),.sl 74 [.sl 37 [.int,.int]] (areasD i.1.obst),.sl 37 [.int,.int] (vecsD i.1.tables)],.one (.im (.int .i64 i.2))],res:=fun i=>⟨true,[some 4,none],[.im (Value.int .i64 ((limitsBox i.1 i.2).1.1)),.im (Value.int .i64 ((limitsBox i.1 i.2).1.2)),.im (Value.int .i64 ((limitsBox i.1 i.2).2.1)),.im (Value.int .i64 ((limitsBox i.1 i.2).2.2)),.im (Value.bool (limitsOk i.1 i.2))]⟩ }
theorem sLim_ok:sLim_con.Ok Tryz.prog 102:=by
 refine fn_ok (X:=⟨tt,[(192,sRobotAt_con),(191,sWidth_con)],[],66,[]⟩) mixed tt_ok (CTok.cons sRobotAt_ok (CTok.cons sWidth_ok (CTok.nil _))) (InlOk.nil _) Tryz.func102 (by decide) rfl rfl rfl (fun _=>Nat.le_of_ble_eq_true rfl) (fun _=>Nat.le_of_ble_eq_true rfl) (fun _=>[]) ?_
 rintro ⟨s,h⟩ hpre
 have hpre:scnSz s:=hpre
 refine by_nf (q:=∃ i1:Scn×Int,[DA.agg [cI s.low.1,cI s.low.2,cI s.high.1,cI s.high.2,DC.sl 37 [.int,.int] (vecsD s.robot),DC.sl 74 [.sl 37 [.int,.int]] (areasD s.obst),DC.sl 37 [.int,.int] (vecsD s.tables)],DA.one (cI h)]=sRobotAt_con.args i1∧sRobotAt_con.pre i1∧(∃ i2:(List V2),[DA.one (DC.sl 37 [.int,.int] (vecsD (robotAt i1.1 i1.2)))]=sWidth_con.args i2∧sWidth_con.pre i2∧(((!(isPoly i2))=true→((vI (0:Int)=vI ((limitsBox s h).1.1))∧(vI (0:Int)=vI ((limitsBox s h).1.2))∧(vI (0:Int)=vI ((limitsBox s h).2.1))∧(vI (0:Int)=vI ((limitsBox s h).2.2))∧(Value.bool false=Value.bool (limitsOk s h))))∧((!(isPoly i2))=false→(((!(decide ((wR (s.low.1 - ((wdB i2).1.1)))≥(wR (s.high.1 - ((wdB i2).2.1))))))=true→(((decide ((wR (s.low.2 - ((wdB i2).1.2)))≥(wR (s.high.2 - ((wdB i2).2.2)))))=true→((vI (0:Int)=vI ((limitsBox s h).1.1))∧(vI (0:Int)=vI ((limitsBox s h).1.2))∧(vI (0:Int)=vI ((limitsBox s h).2.1))∧(vI (0:Int)=vI ((limitsBox s h).2.2))∧(Value.bool false=Value.bool (limitsOk s h))))∧((decide ((wR (s.low.2 - ((wdB i2).1.2)))≥(wR (s.high.2 - ((wdB i2).2.2)))))=false→((vI (wR (s.low.1 - ((wdB i2).1.1)))=vI ((limitsBox s h).1.1))∧(vI (wR (s.low.2 - ((wdB i2).1.2)))=vI ((limitsBox s h).1.2))∧(vI (wR (s.high.1 - ((wdB i2).2.1)))=vI ((limitsBox s h).2.1))∧(vI (wR (s.high.2 - ((wdB i2).2.2)))=vI ((limitsBox s h).2.2))∧(Value.bool true=Value.bool (limitsOk s h))))))∧((!(decide ((wR (s.low.1 - ((wdB i2).1.1)))≥(wR (s.high.1 - ((wdB i2).2.1))))))=false→((vI (0:Int)=vI ((limitsBox s h).1.1))∧(vI (0:Int)=vI ((limitsBox s h).1.2))∧(vI (0:Int)=vI ((limitsBox s h).2.1))∧(vI (0:Int)=vI ((limitsBox s h).2.2))∧(Value.bool false=Value.bool (limitsOk s h))))))))) (by kernel_rfl) ?_
 delta vI wR
 have hvl:=vecsD_length (robotAt s h)
 refine ⟨(s,h),by
  rfl,by
  trivial,?_⟩
 refine ⟨(robotAt s h),by
  rfl,by
  trivial,?_⟩
 refine ⟨fun c7=>?_,fun c7=>?_⟩
 ·try simp only [nrm] at c7
  have hv:(validScn s && inR h 0 3)=false:=by
   cases hc:(validScn s && inR h 0 3) with
   | false=>rfl
   | true=>rw [(robot_poly hc).1] at c7;cases c7
  obtain ⟨hO,hE⟩:=limits_no hv
  refine ⟨?_,?_,?_,?_,?_⟩
  ·rw [hE];done
  ·rw [hE];done
  ·rw [hE];done
  ·rw [hE];done
  rw [hO];done
 try simp only [nrm] at c7
 have hv:(validScn s && inR h 0 3)=true:=by
  cases hc:(validScn s && inR h 0 3) with
  | true=>rfl
  | false=>rw [wd_none hc] at c7;cases c7
 obtain ⟨w1,w2,w3,w4⟩:=box_w hv
 have hW:=(wd_robot hv).2
 refine And.symm ⟨fun c13=>?_,fun c13=>?_⟩
 ·try simp only [nrm] at c13
  simp only [hW] at c13
  rw [w1,w3] at c13
  have hO:limitsOk s h=false:=by rw [limits_yes hv];unfold boxOpen;rw [decide_eq_false (by omega)];rfl
  have hE:=limits_shut hO
  refine ⟨?_,?_,?_,?_,?_⟩
  ·rw [hE];done
  ·rw [hE];done
  ·rw [hE];done
  ·rw [hE];done
  rw [hO];done
 try simp only [nrm] at c13
 refine ⟨fun c14=>?_,fun c14=>?_⟩
 ·try simp only [nrm] at c14
  simp only [hW] at c14
  rw [w2,w4] at c14
  have hO:limitsOk s h=false:=by rw [limits_yes hv];unfold boxOpen;rw [decide_eq_false (show ¬ (boxOf s h.toNat).1.2 < (boxOf s h.toNat).2.2 by omega),Bool.and_false]
  have hE:=limits_shut hO
  refine ⟨?_,?_,?_,?_,?_⟩
  ·rw [hE];done
  ·rw [hE];done
  ·rw [hE];done
  ·rw [hE];done
  rw [hO];done
 try simp only [nrm] at c14
 simp only [hW] at c13 c14
 rw [w1,w3] at c13
 rw [w2,w4] at c14
 have hO:limitsOk s h=true:=by rw [limits_yes hv];unfold boxOpen;rw [decide_eq_true (by omega),decide_eq_true (by omega)];rfl
 have hE:=limits_open hO
 refine ⟨?_,?_,?_,?_,?_⟩
 ·rw [hE,hW,w1]
 ·rw [hE,hW,w2]
 ·rw [hE,hW,w3]
 ·rw [hE,hW,w4]
 rw [hO];done
def spaceOf_con:Con:={ ι:=Scn×Int,pre:=fun i=>scnSz i.1,args:=fun i=>[.agg [.im (.int .i64 i.1.low.1),.im (.int .i64 i.1.low.2),.im (.int .i64 i.1.high.1),.im (.int .i64 i.1.high.2),.sl 37 [.int,.int] (vecsD i.1.robot),.sl 74 [.sl 37 [.int,.int]] (areasD i.1.obst),.sl 37 [.int,.int] (vecsD i.1.tables)],.one (.im (.int .i64 i.2))],res:=fun i=>⟨false,[some 6],[.im (Value.bool (limitsOk i.1 i.2)),.im (Value.int .i64 ((limitsBox i.1 i.2).1.1)),.im (Value.int .i64 ((limitsBox i.1 i.2).1.2)),.im (Value.int .i64 ((limitsBox i.1 i.2).2.1)),.im (Value.int .i64 ((limitsBox i.1 i.2).2.2)),.own 74 [.sl 37 [.int,.int]] (areasD (blk i.1 i.2))]⟩ }
theorem spaceOf_ok:spaceOf_con.Ok Tryz.prog 105:=by
 refine fn_ok (X:=⟨tt,[(197,iLim_con),(198,iBlk_con)],[],19,[]⟩) mixed tt_ok (CTok.cons iLim_ok (CTok.cons iBlk_ok (CTok.nil _))) (InlOk.nil _) Tryz.func105 (by decide) rfl rfl rfl (fun _=>Nat.le_of_ble_eq_true rfl) (fun _=>Nat.le_of_ble_eq_true rfl) (fun _=>[]) ?_
 rintro ⟨s,h⟩ hpre
 have hpre:scnSz s:=hpre
 refine by_nf (q:=∃ i1:Scn×Int,[DA.agg [cI s.low.1,cI s.low.2,cI s.high.1,cI s.high.2,DC.sl 37 [.int,.int] (vecsD s.robot),DC.sl 74 [.sl 37 [.int,.int]] (areasD s.obst),DC.sl 37 [.int,.int] (vecsD s.tables)],DA.one (cI h)]=iLim_con.args i1∧iLim_con.pre i1∧(∃ i2:Scn×Int,[DA.agg [cI s.low.1,cI s.low.2,cI s.high.1,cI s.high.2,DC.sl 37 [.int,.int] (vecsD s.robot),DC.sl 74 [.sl 37 [.int,.int]] (areasD s.obst),DC.sl 37 [.int,.int] (vecsD s.tables)],DA.one (cI h)]=iBlk_con.args i2∧iBlk_con.pre i2∧((Value.bool (limitsOk i1.1 i1.2)=Value.bool (limitsOk s h))∧(vI ((limitsBox i1.1 i1.2).1.1)=vI ((limitsBox s h).1.1))∧(vI ((limitsBox i1.1 i1.2).1.2)=vI ((limitsBox s h).1.2))∧(vI ((limitsBox i1.1 i1.2).2.1)=vI ((limitsBox s h).2.1))∧(vI ((limitsBox i1.1 i1.2).2.2)=vI ((limitsBox s h).2.2))∧(areasD (blk i2.1 i2.2)=areasD (blk s h))))) (by kernel_rfl) ?_
 delta vI
 refine ⟨(s,h),by
  rfl,by
  trivial,?_⟩
 refine ⟨(s,h),by
  rfl,by
  trivial,?_⟩
 exact ⟨rfl,rfl,rfl,rfl,rfl,rfl⟩
def isFree1_con:Con:={ ι:=(List V2)×Pq,pre:=fun i=>isPoly i.1=true,args:=fun i=>[.one (.sl 37 [.int,.int] (vecsD i.1)),.one (.ro (.ptr [.im (Value.bool (decide (i.2.x.z < 0))),.sl 3 [.int] (L i.2.x.z.natAbs),.sl 3 [.int] (L i.2.x.d),.im (Value.bool (decide (i.2.y.z < 0))),.sl 3 [.int] (L i.2.y.z.natAbs),.sl 3 [.int] (L i.2.y.d)]))],res:=fun i=>⟨false,[none],[.im (Value.bool (decide (0≤conZ i.1 i.2)))]⟩ }
theorem isFree1_ok:isFree1_con.Ok Tryz.prog 199:=by
 refine fn_ok (X:=⟨tt,[(165,contains_con)],[],8,[]⟩) mixed tt_ok (CTok.cons contains_ok (CTok.nil _)) (InlOk.nil _) Tryz.func199 (by decide) rfl rfl rfl (fun _=>Nat.le_of_ble_eq_true rfl) (fun _=>Nat.le_of_ble_eq_true rfl) (fun _=>[]) ?_
 rintro ⟨l,q⟩ hpre
 have hpre:isPoly l=true:=hpre
 refine by_nf (q:=∃ i1:(List V2)×Pq,[DA.one (DC.sl 37 [.int,.int] (vecsD l)),dP q]=contains_con.args i1∧contains_con.pre i1∧((Value.bool (decide ((conZ i1.1 i1.2)≥(0:Int)))=Value.bool (decide (0≤conZ l q))))) (by kernel_rfl) ?_
 have hP:=isPoly_len hpre
 refine ⟨(l,q),by
  rfl,by
  show l.all isVec=true∧0 < l.length∧l.length≤16
  exact ⟨hP.2.2,by omega,by omega⟩,?_⟩
 rfl
def frAny_idx_con:Con:={ ι:=(List (List V2))×Pq,pre:=fun i=>i.1.length≤9223372036854775807∧(∀ z ∈ i.1,isPoly z=true),args:=fun i=>[.one (.sl 74 [.sl 37 [.int,.int]] (areasD i.1)),.one (.ro (.fn 199 [[.im (Value.bool (decide (i.2.x.z < 0))),.sl 3 [.int] (L i.2.x.z.natAbs),.sl 3 [.int] (L i.2.x.d),.im (Value.bool (decide (i.2.y.z < 0))),.sl 3 [.int] (L i.2.y.z.natAbs),.sl 3 [.int] (L i.2.y.d)]]))],tag:=200,res:=fun i=>⟨false,[none],[.im (Value.int .i64 (idxG (fun z=>decide (0≤conZ z i.2)) i.1))]⟩ }
theorem frAny_idx_ok:frAny_idx_con.Ok Tryz.prog 163:=by
 refine fn_ok (X:=⟨tt,[(199,isFree1_con)],[],19,[]⟩) mixed tt_ok (CTok.cons isFree1_ok (CTok.nil _)) (InlOk.nil _) Tryz.func163 (by decide) rfl rfl rfl (fun _=>Nat.le_of_ble_eq_true rfl) (fun _=>Nat.le_of_ble_eq_true rfl) (fun (i:(List (List V2))×Pq)=>[(2,.mk 3 (Nat) (fun x1=>{ tm:=[(0,.one (.one (.ext 1))),(1,.one (.one (.ext 2))),(7,.one (.one (.im (Value.int .i64 (((areasD i.1).length:Nat):Int))))),(8,.one (.one (.im (Value.int .i64 ((x1:Nat):Int)))))],en:=[(1,.view 74 [.sl 37 [.int,.int]] (areasD i.1) []),(2,.ro (.fn 199 [[.im (Value.bool (decide (i.2.x.z < 0))),.sl 3 [.int] (L i.2.x.z.natAbs),.sl 3 [.int] (L i.2.x.d),.im (Value.bool (decide (i.2.y.z < 0))),.sl 3 [.int] (L i.2.y.z.natAbs),.sl 3 [.int] (L i.2.y.d)]]) [])] }) (fun x1=>x1≤i.1.length∧∀ j,j < x1→(fun z=>decide (0≤conZ z i.2)) (i.1.getD j [])=false) (fun x1=>i.1.length - x1) (fun _=>[]))]) ?_
 rintro ⟨ar,q⟩ hpre
 have hpre:ar.length≤9223372036854775807∧(∀ z ∈ ar,isPoly z=true):=hpre
 refine by_nf (q:=(∃ x1:Nat,(x1≤ar.length∧∀ j,j < x1→(fun z=>decide (0≤conZ z q)) (ar.getD j [])=false)∧((rf (vI (nI ((areasD ar).length))))∧(vI (0:Int)=vI (nI x1))∧(rf (areasD ar))∧((.fn 199 [[.im (Value.bool (decide (q.x.z < 0))),.sl 3 [.int] (L q.x.z.natAbs),.sl 3 [.int] (L q.x.d),.im (Value.bool (decide (q.y.z < 0))),.sl 3 [.int] (L q.y.z.natAbs),.sl 3 [.int] (L q.y.d)]]:RO)=.fn 199 [[.im (Value.bool (decide (q.x.z < 0))),.sl 3 [.int] (L q.x.z.natAbs),.sl 3 [.int] (L q.x.d),.im (Value.bool (decide (q.y.z < 0))),.sl 3 [.int] (L q.y.z.natAbs),.sl 3 [.int] (L q.y.d)]])))∧∀ x1:Nat,(x1≤ar.length∧∀ j,j < x1→(fun z=>decide (0≤conZ z q)) (ar.getD j [])=false)→(((decide ((nI x1) < (nI ((areasD ar).length))))=true→((0≤(nI x1)∧(nI x1) < ((areasD ar).length:Int))∧((x1 < (areasD ar).length)∧(∃ i1:(List V2)×Pq,[DA.one (DC.sl 37 [.int,.int] (((((areasD ar).getD x1 []).getD 0 (.int 0))).r)),DA.one (DC.ro (.ptr [.im (Value.bool (decide (q.x.z < 0))),.sl 3 [.int] (L q.x.z.natAbs),.sl 3 [.int] (L q.x.d),.im (Value.bool (decide (q.y.z < 0))),.sl 3 [.int] (L q.y.z.natAbs),.sl 3 [.int] (L q.y.d)]))]=isFree1_con.args i1∧isFree1_con.pre i1∧(((decide (0≤conZ i1.1 i1.2))=true→((vI (nI x1)=vI (idxG (fun z=>decide (0≤conZ z q)) ar))))∧((decide (0≤conZ i1.1 i1.2))=false→(∃ y2:Nat,(y2≤ar.length∧∀ j,j < y2→(fun z=>decide (0≤conZ z q)) (ar.getD j [])=false)∧(ar.length - y2 < ar.length - x1)∧((rf (vI (nI ((areasD ar).length))))∧(vI (wR ((nI x1)+(1:Int)))=vI (nI y2))∧(rf (areasD ar))∧((.fn 199 [[.im (Value.bool (decide (q.x.z < 0))),.sl 3 [.int] (L q.x.z.natAbs),.sl 3 [.int] (L q.x.d),.im (Value.bool (decide (q.y.z < 0))),.sl 3 [.int] (L q.y.z.natAbs),.sl 3 [.int] (L q.y.d)]]:RO)=.fn 199 [[.im (Value.bool (decide (q.x.z < 0))),.sl 3 [.int] (L q.x.z.natAbs),.sl 3 [.int] (L q.x.d),.im (Value.bool (decide (q.y.z < 0))),.sl 3 [.int] (L q.y.z.natAbs),.sl 3 [.int] (L q.y.d)]])))))))))∧((decide ((nI x1) < (nI ((areasD ar).length))))=false→((vI (-1:Int)=vI (idxG (fun z=>decide (0≤conZ z q)) ar)))))) (by kernel_rfl) ?_
 delta vI wR nI
 have hal:=areasD_length ar
 refine ⟨⟨0,by
  exact ⟨Nat.zero_le _,fun j hj=>absurd hj (Nat.not_lt_zero j)⟩,?_⟩,?_⟩
 ·refine ⟨rfl,?_,rfl,?_⟩
  ·rfl
  rfl
 intro (k:Nat) hki1
 have hki1:k≤ar.length∧∀ j,j < k→(fun z=>decide (0≤conZ z q)) (ar.getD j [])=false:=hki1
 refine And.symm ⟨fun c7=>?_,fun c7=>?_⟩
 ·try simp only [nrm] at c7
  rw [idxG_none (d:=[]) (fun j hj=>hki1.2 j (by omega))]
 try simp only [nrm] at c7
 refine ao (by first|omega) fun o8=>?_
 refine ao (by first|omega) fun o9=>?_
 refine ⟨(ar.getD k [],q),by
  rw [areasD_at (by omega)];rfl,by
  exact hpre.2 _ (by simp [List.getD,show k < ar.length by omega]),?_⟩
 refine ⟨fun c13=>?_,fun c13=>?_⟩
 ·replace c13:(decide (0≤conZ (ar.getD k []) q))=true:=c13
  try simp only [nrm] at c13
  rw [idxG_at (d:=[]) (by omega) hki1.2 (by simpa using c13)]
 replace c13:(decide (0≤conZ (ar.getD k []) q))=false:=c13
 try simp only [nrm] at c13
 refine ⟨k+1,by
  exact ⟨by omega,lt_step hki1.2 (by simpa using c13)⟩,by
  omega,?_⟩
 refine ⟨rfl,?_,rfl,?_⟩
 ·exact vint (wrap64 (by omega) (by omega))
 rfl
def frAny_con:Con:={ ι:=(List (List V2))×Pq,pre:=fun i=>i.1.length≤9223372036854775807∧(∀ z ∈ i.1,isPoly z=true),args:=fun i=>[.one (.sl 74 [.sl 37 [.int,.int]] (areasD i.1)),.one (.ro (.fn 199 [[.im (Value.bool (decide (i.2.x.z < 0))),.sl 3 [.int] (L i.2.x.z.natAbs),.sl 3 [.int] (L i.2.x.d),.im (Value.bool (decide (i.2.y.z < 0))),.sl 3 [.int] (L i.2.y.z.natAbs),.sl 3 [.int] (L i.2.y.d)]]))],tag:=200,res:=fun i=>⟨false,[none],[.im (Value.bool (i.1.any (fun z=>decide (0≤conZ z i.2))))]⟩ }
theorem frAny_ok:frAny_con.Ok Tryz.prog 80:=by
 refine fn_ok (X:=⟨tt,[(163,frAny_idx_con)],[],9,[]⟩) mixed tt_ok (CTok.cons frAny_idx_ok (CTok.nil _)) (InlOk.nil _) Tryz.func80 (by decide) rfl rfl rfl (fun _=>Nat.le_of_ble_eq_true rfl) (fun _=>Nat.le_of_ble_eq_true rfl) (fun _=>[]) ?_
 rintro ⟨ar,q⟩ hpre
 have hpre:ar.length≤9223372036854775807∧(∀ z ∈ ar,isPoly z=true):=hpre
 refine by_nf (q:=∃ i1:(List (List V2))×Pq,[DA.one (DC.sl 74 [.sl 37 [.int,.int]] (areasD ar)),DA.one (DC.ro (.fn 199 [[.im (Value.bool (decide (q.x.z < 0))),.sl 3 [.int] (L q.x.z.natAbs),.sl 3 [.int] (L q.x.d),.im (Value.bool (decide (q.y.z < 0))),.sl 3 [.int] (L q.y.z.natAbs),.sl 3 [.int] (L q.y.d)]]))]=frAny_idx_con.args i1∧frAny_idx_con.pre i1∧((Value.bool (decide ((idxG (fun z=>decide (0≤conZ z i1.2)) i1.1)≥(0:Int)))=Value.bool (ar.any (fun z=>decide (0≤conZ z q)))))) (by kernel_rfl) ?_
 refine ⟨(ar,q),by
  rfl,by
  exact hpre,?_⟩
 exact congrArg Value.bool (idxG_any _ _)
def spFree_con:Con:={ ι:=Bool×(V2×V2)×(List (List V2))×Pq,pre:=fun i=>(∀ z ∈ i.2.2.1,isPoly z=true)∧i.2.2.1.length≤1048576∧bxOk i.2.1,args:=fun i=>[.agg [.im (.bool i.1),.im (.int .i64 i.2.1.1.1),.im (.int .i64 i.2.1.1.2),.im (.int .i64 i.2.1.2.1),.im (.int .i64 i.2.1.2.2),.sl 74 [.sl 37 [.int,.int]] (areasD i.2.2.1)],.agg [.im (.bool (decide (i.2.2.2.x.z < 0))),.sl 3 [.int] (L i.2.2.2.x.z.natAbs),.sl 3 [.int] (L i.2.2.2.x.d),.im (.bool (decide (i.2.2.2.y.z < 0))),.sl 3 [.int] (L i.2.2.2.y.z.natAbs),.sl 3 [.int] (L i.2.2.2.y.d)]],res:=fun i=>⟨false,[none],[.im (Value.bool (i.1 && freeQ i.2.1 i.2.2.1 i.2.2.2))]⟩ }
theorem spFree_ok:spFree_con.Ok Tryz.prog 106:=by
 refine fn_ok (X:=⟨tt,[(162,inBox_con),(80,frAny_con)],[],20,[]⟩) mixed tt_ok (CTok.cons inBox_ok (CTok.cons frAny_ok (CTok.nil _))) (InlOk.nil _) Tryz.func106 (by decide) rfl rfl rfl (fun _=>Nat.le_of_ble_eq_true rfl) (fun _=>Nat.le_of_ble_eq_true rfl) (fun _=>[]) ?_
 rintro ⟨o,b,ar,q⟩ hpre
 have hpre:(∀ z ∈ ar,isPoly z=true)∧ar.length≤1048576∧bxOk b:=hpre
 refine by_nf (q:=(o=true→(∃ i1:(V2×V2)×Pq,[DA.agg [cI b.1.1,cI b.1.2,cI b.2.1,cI b.2.2],dP q]=inBox_con.args i1∧inBox_con.pre i1∧(((inQ i1.1 i1.2)=true→(∃ i2:(List (List V2))×Pq,[DA.one (DC.sl 74 [.sl 37 [.int,.int]] (areasD ar)),DA.one (DC.ro (.fn 199 [[.im (Value.bool (decide (q.x.z < 0))),.sl 3 [.int] (L q.x.z.natAbs),.sl 3 [.int] (L q.x.d),.im (Value.bool (decide (q.y.z < 0))),.sl 3 [.int] (L q.y.z.natAbs),.sl 3 [.int] (L q.y.d)]]))]=frAny_con.args i2∧frAny_con.pre i2∧((Value.bool (!(i2.1.any (fun z=>decide (0≤conZ z i2.2))))=Value.bool (o && freeQ b ar q)))))∧((inQ i1.1 i1.2)=false→((Value.bool false=Value.bool (o && freeQ b ar q)))))))∧(o=false→((Value.bool false=Value.bool (o && freeQ b ar q))))) (by kernel_rfl) ?_
 obtain ⟨hg,hal,hb⟩:=hpre
 refine And.symm ⟨fun c1=>?_,fun c1=>?_⟩
 ·try simp only [nrm] at c1
  exact congrArg Value.bool (by unfold freeQ conF;simp_all)
 try simp only [nrm] at c1
 refine ⟨(b,q),by
  rfl,by
  exact hb,?_⟩
 refine And.symm ⟨fun c5=>?_,fun c5=>?_⟩
 ·replace c5:(inQ b q)=false:=c5
  try simp only [nrm] at c5
  exact congrArg Value.bool (by unfold freeQ conF;simp_all)
 replace c5:(inQ b q)=true:=c5
 try simp only [nrm] at c5
 refine ⟨(ar,q),by
  rfl,by
  show ar.length≤9223372036854775807∧(∀ z ∈ ar,isPoly z=true)
  exact ⟨by omega,hg⟩,?_⟩
 exact congrArg Value.bool (by unfold freeQ conF;simp_all)
theorem blk_le (s:Scn) (h:Int) (hz:scnSz s):(blk s h).length≤1048576:=by
 have h1:s.obst.length≤1048576:=by have:=hz.2.1;omega
 unfold blk
 split
 ·simp
 ·have:=blkT_len s h s.obst.length
  rw [areasD_length] at this
  omega
theorem freeS_eq {s:Scn} {h:Int} {p:PtD} (hp:okP p=true):freeS s h p=(limitsOk s h && freeQ (limitsBox s h) (blk s h) (pqR p)):=by
 unfold freeS
 cases hl:limitsOk s h with
 | false=>rfl
 | true=>rw [freeA_eq (blk_poly (limitsOk_val hl)),hp,Bool.true_and]
theorem freeS_bad {s:Scn} {h:Int} {p:PtD} (hp:okP p=false):freeS s h p=false:=by unfold freeS freeA inBoxB;rw [hp];simp
theorem blk_polyA (s:Scn) (h:Int):∀ z ∈ blk s h,isPoly z=true:=by
 cases hv:(validScn s && inR h 0 3) with
 | true=>exact blk_poly hv
 | false=>
  intro z hz
  rw [blk_no (by rw [robot_nil hv];rfl)] at hz
  simp at hz
def iFree_con:Con:={ ι:=Scn×Int×PtD,pre:=fun i=>scnSz i.1∧i.2.2.has,args:=fun i=>[.agg [.im (.int .i64 i.1.low.1),.im (.int .i64 i.1.low.2),.im (.int .i64 i.1.high.1),.im (.int .i64 i.1.high.2),.sl 37 [.int,.int] (vecsD i.1.robot),.sl 74 [.sl 37 [.int,.int]] (areasD i.1.obst),.sl 37 [.int,.int] (vecsD i.1.tables)],.one (.im (.int .i64 i.2.1)),.agg [.im (.bool i.2.2.x.neg),.sl 3 [.int] i.2.2.x.num,.sl 3 [.int] i.2.2.x.den,.im (.bool i.2.2.y.neg),.sl 3 [.int] i.2.2.y.num,.sl 3 [.int] i.2.2.y.den]],res:=fun i=>⟨false,[none],[.im (Value.bool (freeS i.1 i.2.1 i.2.2))]⟩ }
theorem iFree_ok:iFree_con.Ok Tryz.prog 35:=by
 refine fn_ok (X:=⟨tt,[(104,arePoints_con),(105,spaceOf_con),(106,spFree_con)],[],17,[]⟩) mixed tt_ok (CTok.cons arePoints_ok (CTok.cons spaceOf_ok (CTok.cons spFree_ok (CTok.nil _)))) (InlOk.nil _) Tryz.func35 (by decide) rfl rfl rfl (fun _=>Nat.le_of_ble_eq_true rfl) (fun _=>Nat.le_of_ble_eq_true rfl) (fun _=>[]) ?_
 rintro ⟨s,h,p⟩ hpre
 have hpre:scnSz s∧p.has:=hpre
 refine by_nf (q:=∃ i1:(List (List Dat)),[DA.one (DC.sl 82 [.bool,.sl 3 [.int],.sl 3 [.int],.bool,.sl 3 [.int],.sl 3 [.int]] ([[Dat.bool p.x.neg,Dat.sl p.x.num,Dat.sl p.x.den,Dat.bool p.y.neg,Dat.sl p.y.num,Dat.sl p.y.den]]:List (List Dat)))]=arePoints_con.args i1∧arePoints_con.pre i1∧(((!(i1.any (fun r=>!(okP (ptOf r)))))=true→(∃ i2:Scn×Int,[DA.agg [cI s.low.1,cI s.low.2,cI s.high.1,cI s.high.2,DC.sl 37 [.int,.int] (vecsD s.robot),DC.sl 74 [.sl 37 [.int,.int]] (areasD s.obst),DC.sl 37 [.int,.int] (vecsD s.tables)],DA.one (cI h)]=spaceOf_con.args i2∧spaceOf_con.pre i2∧(∃ i3:Bool×(V2×V2)×(List (List V2))×Pq,[DA.agg [cB (limitsOk i2.1 i2.2),cI ((limitsBox i2.1 i2.2).1.1),cI ((limitsBox i2.1 i2.2).1.2),cI ((limitsBox i2.1 i2.2).2.1),cI ((limitsBox i2.1 i2.2).2.2),DC.sl 74 [.sl 37 [.int,.int]] (areasD (blk i2.1 i2.2))],DA.agg [cB p.x.neg,cS p.x.num,cS p.x.den,cB p.y.neg,cS p.y.num,cS p.y.den]]=spFree_con.args i3∧spFree_con.pre i3∧((Value.bool (i3.1 && freeQ i3.2.1 i3.2.2.1 i3.2.2.2)=Value.bool (freeS s h p))))))∧((!(i1.any (fun r=>!(okP (ptOf r)))))=false→((Value.bool false=Value.bool (freeS s h p)))))) (by kernel_rfl) ?_
 obtain ⟨hz,hh⟩:=hpre
 have hbl:=blk_le s h hz
 have hlb:=limits_bd s h
 refine ⟨([[Dat.bool p.x.neg,Dat.sl p.x.num,Dat.sl p.x.den,Dat.bool p.y.neg,Dat.sl p.y.num,Dat.sl p.y.den]]:List (List Dat)),by
  rfl,by
  try dsimp only [arePoints_con]
  exact ⟨by show 1≤_;decide,one_has hh⟩,?_⟩
 refine And.symm ⟨fun c4=>?_,fun c4=>?_⟩
 ·try simp only [nrm] at c4
  have q:okP p=false:=by have h:=(any1 p).symm.trans c4;simpa using h
  have hE:=freeS_bad (s:=s) (h:=h) q
  rw [hE]
 try simp only [nrm] at c4
 have q:okP p=true:=by have h:=(any1 p).symm.trans c4;simpa using h
 obtain ⟨e1,e2,e3,e4,e5,e6,e7,e8⟩:=pqR_ok hh q
 have hE:=freeS_eq (s:=s) (h:=h) q
 refine ⟨(s,h),by
  rfl,by
  exact hz,?_⟩
 refine ⟨(limitsOk s h,limitsBox s h,blk s h,pqR p),by
  rw [e1,e2,e3,e4,e5,e6];rfl,by
  exact ⟨blk_polyA s h,hbl,hlb⟩,?_⟩
 rw [hE]
def sFree_con:Con:={ ι:=Scn×Int×PtD,pre:=fun i=>scnSz i.1∧i.2.2.has,args:=fun i=>[.agg [.im (.int .i64 i.1.low.1),.im (.int .i64 i.1.low.2),.im (.int .i64 i.1.high.1),.im (.int .i64 i.1.high.2),.sl 37 [.int,.int] (vecsD i.1.robot),.sl 74 [.sl 37 [.int,.int]] (areasD i.1.obst),.sl 37 [.int,.int] (vecsD i.1.tables)],.one (.im (.int .i64 i.2.1)),.agg [.im (.bool i.2.2.x.neg),.sl 3 [.int] i.2.2.x.num,.sl 3 [.int] i.2.2.x.den,.im (.bool i.2.2.y.neg),.sl 3 [.int] i.2.2.y.num,.sl 3 [.int] i.2.2.y.den]],res:=fun i=>⟨false,[none],[.im (Value.bool (freeS i.1 i.2.1 i.2.2))]⟩ }
theorem sFree_ok:sFree_con.Ok Tryz.prog 32:=by
 refine fn_ok (X:=⟨tt,[(102,sLim_con),(103,sBlk_con),(73,l11Free_con)],[],24,[]⟩) mixed tt_ok (CTok.cons sLim_ok (CTok.cons sBlk_ok (CTok.cons l11Free_ok (CTok.nil _)))) (InlOk.nil _) Tryz.func32 (by decide) rfl rfl rfl (fun _=>Nat.le_of_ble_eq_true rfl) (fun _=>Nat.le_of_ble_eq_true rfl) (fun _=>[]) ?_
 rintro ⟨s,h,p⟩ hpre
 have hpre:scnSz s∧p.has:=hpre
 refine by_nf (q:=∃ i1:Scn×Int,[DA.agg [cI s.low.1,cI s.low.2,cI s.high.1,cI s.high.2,DC.sl 37 [.int,.int] (vecsD s.robot),DC.sl 74 [.sl 37 [.int,.int]] (areasD s.obst),DC.sl 37 [.int,.int] (vecsD s.tables)],DA.one (cI h)]=sLim_con.args i1∧sLim_con.pre i1∧(((limitsOk i1.1 i1.2)=true→(∃ i2:Scn×Int,[DA.agg [cI s.low.1,cI s.low.2,cI s.high.1,cI s.high.2,DC.sl 37 [.int,.int] (vecsD s.robot),DC.sl 74 [.sl 37 [.int,.int]] (areasD s.obst),DC.sl 37 [.int,.int] (vecsD s.tables)],DA.one (cI h)]=sBlk_con.args i2∧sBlk_con.pre i2∧(∃ i3:(V2×V2)×(List (List V2))×PtD,[DA.agg [cI ((limitsBox i1.1 i1.2).1.1),cI ((limitsBox i1.1 i1.2).1.2),cI ((limitsBox i1.1 i1.2).2.1),cI ((limitsBox i1.1 i1.2).2.2)],DA.one (DC.sl 74 [.sl 37 [.int,.int]] (areasD (blk i2.1 i2.2))),DA.agg [cB p.x.neg,cS p.x.num,cS p.x.den,cB p.y.neg,cS p.y.num,cS p.y.den]]=l11Free_con.args i3∧l11Free_con.pre i3∧((Value.bool (freeA i3.1 i3.2.1 i3.2.2)=Value.bool (freeS s h p))))))∧((limitsOk i1.1 i1.2)=false→((Value.bool false=Value.bool (freeS s h p)))))) (by kernel_rfl) ?_
 obtain ⟨hz,hh⟩:=hpre
 have hbl:=blk_le s h hz
 have hlb:=limits_bd s h
 refine ⟨(s,h),by
  rfl,by
  exact hz,?_⟩
 refine And.symm ⟨fun c4=>?_,fun c4=>?_⟩
 ·replace c4:(limitsOk s h)=false:=c4
  try simp only [nrm] at c4
  unfold freeS;simp_all
 replace c4:(limitsOk s h)=true:=c4
 try simp only [nrm] at c4
 refine ⟨(s,h),by
  rfl,by
  exact hz,?_⟩
 refine ⟨((limitsBox s h),(blk s h),p),by
  rfl,by
  exact ⟨hh,hbl,hlb⟩,?_⟩
 unfold freeS;simp_all
end Go.Proofs.YtblmlkdefjoebaaGreat
