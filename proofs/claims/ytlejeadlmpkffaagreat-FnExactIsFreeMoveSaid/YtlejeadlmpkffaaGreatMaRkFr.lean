import Derived.Test.YtlejeadlmpkffaaGreatMaRkBl
import Derived.Test.YtlejeadlmpkffaaGreatMaRkP
import Derived.Test.YtlejeadlmpkffaaGreatMaHulQ
import Derived.Test.YtlejeadlmpkffaaGreatMaLimN
namespace Go.Proofs.YtlejeadlmpkffaaGreat
set_option maxRecDepth 100000
set_option linter.unusedVariables false
set_option linter.unusedSimpArgs false
open Go.RowKit
theorem low_snoc {l:List V2} {k:Nat} (hk:k<l.length) (z:V2):(l.take (k+1)).foldl minV z=minV ((l.take k).foldl minV z) (l.getD k (0,0)):=foldl_take_snoc minV z l (0,0) k hk
theorem high_snoc {l:List V2} {k:Nat} (hk:k<l.length) (z:V2):(l.take (k+1)).foldl maxV z=maxV ((l.take k).foldl maxV z) (l.getD k (0,0)):=foldl_take_snoc maxV z l (0,0) k hk
def loT (l:List V2) (k:Nat):V2:=(l.take k).foldl minV (l.getD 0 (0,0))
def hiT (l:List V2) (k:Nat):V2:=(l.take k).foldl maxV (l.getD 0 (0,0))
theorem loT_all {l:List V2} {k:Nat} (h:l.length<=k):loT l k=lowOf l:=by unfold loT lowOf;rw [List.take_of_length_le h]
theorem hiT_all {l:List V2} {k:Nat} (h:l.length<=k):hiT l k=highOf l:=by unfold hiT highOf;rw [List.take_of_length_le h]
theorem loT_succ {l:List V2} {k:Nat} (hk:k<l.length):loT l (k+1)=minV (loT l k) (l.getD k (0,0)):=low_snoc hk _
theorem hiT_succ {l:List V2} {k:Nat} (hk:k<l.length):hiT l (k+1)=maxV (hiT l k) (l.getD k (0,0)):=high_snoc hk _
def wdB (l:List V2):V2×V2:=if isPoly l=true then (lowOf l,highOf l) else ((0,0),(0,0))
theorem wdB_yes {l:List V2} (h:isPoly l=true):wdB l=(lowOf l,highOf l):=by unfold wdB;rw [if_pos h]
theorem wdB_no {l:List V2} (h:isPoly l=false):wdB l=((0,0),(0,0)):=by unfold wdB;rw [if_neg (by rw [h];simp)]
def iWidth_con:Con:={ ι:=(List V2),pre:=λ i=>0<i.length/\i.length<=1048576,args:=λ i=>[.one (.sl 38 [.int,.int] (vecsD i))],res:=λ i=>⟨true,[some 2,some 2],[.im (Value.int .i64 ((lowOf i).1)),.im (Value.int .i64 ((lowOf i).2)),.im (Value.int .i64 ((highOf i).1)),.im (Value.int .i64 ((highOf i).2))]⟩ }
theorem iWidth_ok:iWidth_con.Ok Tryz.prog 65:=by
 refine fok (X:=⟨tt,[],[],45,[]⟩) mixed tt_ok (CTok.nil _) Tryz.func65 (λ (i:(List V2))=>[(3,.mk 6 (Nat) (λ x1=>{ tm:=[(2,.one (.one (.bp 1 0))),(3,.one (.one (.bp 2 0))),(4,.one (.one (.bp 3 0))),(5,.one (.one (.bp 4 0))),(14,.one (.one (.ext 5))),(15,.one (.one (.im (Value.int .i64 ((i.length:Nat):Int))))),(16,.one (.one (.im (Value.int .i64 ((x1:Nat):Int)))))],en:=[(1,.box [.im (Value.int .i64 (0:Int)),.im (Value.int .i64 (0:Int))]),(2,.box [.im (Value.int .i64 (0:Int)),.im (Value.int .i64 (0:Int))]),(3,.box [.im (Value.int .i64 ((loT i x1).1)),.im (Value.int .i64 ((loT i x1).2))]),(4,.box [.im (Value.int .i64 ((hiT i x1).1)),.im (Value.int .i64 ((hiT i x1).2))]),(5,.view 38 [.int,.int] (vecsD i) [])] }) (λ x1=>x1<=i.length) (λ x1=>i.length-x1) (λ _=>[]))]) ?_
 intro (l:List V2) hpre
 have hpre:0<l.length/\l.length<=1048576:=hpre
 refine by_nf (q:=(0<=(0:Int)/\(0:Int)<((vecsD l).length:Int))/\((0<(vecsD l).length)/\((0<=(0:Int)/\(0:Int)<((vecsD l).length:Int))/\((0<(vecsD l).length)/\((∃ x1:Nat,(x1<=l.length)/\((vI (nI ((vecsD l).length))=vI (nI l.length))/\(vI (0:Int)=vI (nI x1))/\(rf (vI (0:Int)))/\(rf (vI (0:Int)))/\(rf (vI (0:Int)))/\(rf (vI (0:Int)))/\(vI ((((vecsD l).getD 0 []).getD 0 (.int 0))).n=vI ((loT l x1).1))/\(vI ((((vecsD l).getD 0 []).getD 1 (.int 0))).n=vI ((loT l x1).2))/\(vI ((((vecsD l).getD 0 []).getD 0 (.int 0))).n=vI ((hiT l x1).1))/\(vI ((((vecsD l).getD 0 []).getD 1 (.int 0))).n=vI ((hiT l x1).2))/\(rf (vecsD l))))/\∀ x1:Nat,(x1<=l.length)->(((decide ((nI x1)<(nI l.length)))=true->((0<=(nI x1)/\(nI x1)<((vecsD l).length:Int))/\((x1<(vecsD l).length)/\(∃ y2:Nat,(y2<=l.length)/\(l.length-y2<l.length-x1)/\((rf (vI (nI l.length)))/\(vI (wR ((nI x1)+(1:Int)))=vI (nI y2))/\(rf (vI (0:Int)))/\(rf (vI (0:Int)))/\(rf (vI (0:Int)))/\(rf (vI (0:Int)))/\(vI (min ((loT l x1).1) (((((vecsD l).getD x1 []).getD 0 (.int 0))).n))=vI ((loT l y2).1))/\(vI (min ((loT l x1).2) (((((vecsD l).getD x1 []).getD 1 (.int 0))).n))=vI ((loT l y2).2))/\(vI (max ((hiT l x1).1) (((((vecsD l).getD x1 []).getD 0 (.int 0))).n))=vI ((hiT l y2).1))/\(vI (max ((hiT l x1).2) (((((vecsD l).getD x1 []).getD 1 (.int 0))).n))=vI ((hiT l y2).2))/\(rf (vecsD l)))))))/\((decide ((nI x1)<(nI l.length)))=false->((vI ((loT l x1).1)=vI ((lowOf l).1))/\(vI ((loT l x1).2)=vI ((lowOf l).2))/\(vI ((hiT l x1).1)=vI ((highOf l).1))/\(vI ((hiT l x1).2)=vI ((highOf l).2)))))))))) (by kernel_rfl) ?_
 delta vI wR nI
 have hvl:=vecsD_length l
 refine ao (by omega) λ o1=>?_
 refine ao (by omega) λ o2=>?_
 refine ao (by omega) λ o3=>?_
 refine ao (by omega) λ o4=>?_
 refine ⟨⟨0,by
  omega,?_⟩,?_⟩
 ·refine ⟨?_,?_,rfl,rfl,rfl,rfl,?_,?_,?_,?_,rfl⟩
  ·rw [hvl];done
  ·rfl
  ·rw [vecs_x (by omega)];rfl
  ·rw [vecs_y (by omega)];rfl
  ·rw [vecs_x (by omega)];rfl
  rw [vecs_y (by omega)];rfl
 intro (k:Nat) hki5
 have hki5:k<=l.length:=hki5
 refine And.symm ⟨λ c18=>?_,λ c18=>?_⟩
 ·try simp only [nrm] at c18
  refine ⟨?_,?_,?_,?_⟩
  ·rw [loT_all (by omega)];done
  ·rw [loT_all (by omega)];done
  ·rw [hiT_all (by omega)];done
  rw [hiT_all (by omega)];done
 try simp only [nrm] at c18
 refine ao (by omega) λ o19=>?_
 refine ao (by omega) λ o20=>?_
 refine ⟨k+1,by
  omega,by
  omega,?_⟩
 refine ⟨rfl,?_,rfl,rfl,rfl,rfl,?_,?_,?_,?_,rfl⟩
 ·exact vint (wrap64 (by omega) (by omega))
 ·rw [loT_succ (by omega),vecs_x (by omega)];rfl
 ·rw [loT_succ (by omega),vecs_y (by omega)];rfl
 ·rw [hiT_succ (by omega),vecs_x (by omega)];rfl
 rw [hiT_succ (by omega),vecs_y (by omega)];rfl
def l07Min_con:Con:={ ι:=Int×Int,pre:=λ i=>True,args:=λ i=>[.one (.im (.int .i64 i.1)),.one (.im (.int .i64 i.2))],res:=λ i=>⟨false,[none],[.im (Value.int .i64 (min i.1 i.2))]⟩ }
theorem l07Min_ok:l07Min_con.Ok Tryz.prog 50:=by
 refine fok (X:=⟨tt,[],[],10,[]⟩) mixed tt_ok (CTok.nil _) Tryz.func50 (λ _=>[]) ?_
 rintro ⟨a,b⟩ hpre
 have hpre:True:=hpre
 refine by_nf (q:=((decide (a<b))=true->((vI a=vI (min a b))))/\((decide (a<b))=false->((vI b=vI (min a b))))) (by kernel_rfl) ?_
 delta vI
 refine ⟨λ c1=>?_,λ c1=>?_⟩
 ·try simp only [nrm] at c1
  exact congrArg (Value.int .i64) (Int.min_eq_left (by omega)).symm
 try simp only [nrm] at c1
 exact congrArg (Value.int .i64) (Int.min_eq_right (by omega)).symm
def sWidth_con:Con:={ ι:=(List V2),pre:=λ i=>True,args:=λ i=>[.one (.sl 38 [.int,.int] (vecsD i))],res:=λ i=>⟨true,[some 2,some 2,none],[.im (Value.int .i64 ((wdB i).1.1)),.im (Value.int .i64 ((wdB i).1.2)),.im (Value.int .i64 ((wdB i).2.1)),.im (Value.int .i64 ((wdB i).2.2)),.im (Value.bool (isPoly i))]⟩ }
theorem sWidth_ok:sWidth_con.Ok Tryz.prog 31:=by
 refine fok (X:=⟨tt,[(49,sIsPoly_con),(50,l07Min_con),(51,l07Max_con)],[],53,[]⟩) mixed tt_ok (CTok.cons sIsPoly_ok (CTok.cons l07Min_ok (CTok.cons l07Max_ok (CTok.nil _)))) Tryz.func31 (λ (i:(List V2))=>[(6,.mk 6 (Nat) (λ x1=>{ tm:=[(2,.one (.one (.bp 1 0))),(3,.one (.one (.bp 2 0))),(5,.one (.one (.bp 3 0))),(6,.one (.one (.bp 4 0))),(20,.one (.one (.ext 5))),(21,.one (.one (.im (Value.int .i64 ((i.length:Nat):Int))))),(22,.one (.one (.im (Value.int .i64 ((x1:Nat):Int)))))],en:=[(1,.box [.im (Value.int .i64 (0:Int)),.im (Value.int .i64 (0:Int))]),(2,.box [.im (Value.int .i64 (0:Int)),.im (Value.int .i64 (0:Int))]),(3,.box [.im (Value.int .i64 ((loT i x1).1)),.im (Value.int .i64 ((loT i x1).2))]),(4,.box [.im (Value.int .i64 ((hiT i x1).1)),.im (Value.int .i64 ((hiT i x1).2))]),(5,.view 38 [.int,.int] (vecsD i) [])] }) (λ x1=>x1<=i.length) (λ x1=>i.length-x1) (λ _=>[]))]) ?_
 intro (l:List V2) hpre
 have hpre:True:=hpre
 refine by_nf (q:=∃ i1:(List V2),[DA.one (DC.sl 38 [.int,.int] (vecsD l))]=sIsPoly_con.args i1/\sIsPoly_con.pre i1/\(((!(isPoly i1))=true->((vI (0:Int)=vI ((wdB l).1.1))/\(vI (0:Int)=vI ((wdB l).1.2))/\(vI (0:Int)=vI ((wdB l).2.1))/\(vI (0:Int)=vI ((wdB l).2.2))/\(Value.bool false=Value.bool (isPoly l))))/\((!(isPoly i1))=false->((0<=(0:Int)/\(0:Int)<((vecsD l).length:Int))/\((0<(vecsD l).length)/\((0<=(0:Int)/\(0:Int)<((vecsD l).length:Int))/\((0<(vecsD l).length)/\((∃ x1:Nat,(x1<=l.length)/\((vI (nI ((vecsD l).length))=vI (nI l.length))/\(vI (0:Int)=vI (nI x1))/\(rf (vI (0:Int)))/\(rf (vI (0:Int)))/\(rf (vI (0:Int)))/\(rf (vI (0:Int)))/\(vI ((((vecsD l).getD 0 []).getD 0 (.int 0))).n=vI ((loT l x1).1))/\(vI ((((vecsD l).getD 0 []).getD 1 (.int 0))).n=vI ((loT l x1).2))/\(vI ((((vecsD l).getD 0 []).getD 0 (.int 0))).n=vI ((hiT l x1).1))/\(vI ((((vecsD l).getD 0 []).getD 1 (.int 0))).n=vI ((hiT l x1).2))/\(rf (vecsD l))))/\∀ x1:Nat,(x1<=l.length)->(((decide ((nI x1)<(nI l.length)))=true->((0<=(nI x1)/\(nI x1)<((vecsD l).length:Int))/\((x1<(vecsD l).length)/\(∃ i2:Int×Int,[DA.one (cI ((loT l x1).1)),DA.one (cI (((((vecsD l).getD x1 []).getD 0 (.int 0))).n))]=l07Min_con.args i2/\l07Min_con.pre i2/\(∃ i3:Int×Int,[DA.one (cI ((loT l x1).2)),DA.one (cI (((((vecsD l).getD x1 []).getD 1 (.int 0))).n))]=l07Min_con.args i3/\l07Min_con.pre i3/\(∃ i4:Int×Int,[DA.one (cI ((hiT l x1).1)),DA.one (cI (((((vecsD l).getD x1 []).getD 0 (.int 0))).n))]=l07Max_con.args i4/\l07Max_con.pre i4/\(∃ i5:Int×Int,[DA.one (cI ((hiT l x1).2)),DA.one (cI (((((vecsD l).getD x1 []).getD 1 (.int 0))).n))]=l07Max_con.args i5/\l07Max_con.pre i5/\(∃ y2:Nat,(y2<=l.length)/\(l.length-y2<l.length-x1)/\((rf (vI (nI l.length)))/\(vI (wR ((nI x1)+(1:Int)))=vI (nI y2))/\(rf (vI (0:Int)))/\(rf (vI (0:Int)))/\(rf (vI (0:Int)))/\(rf (vI (0:Int)))/\(vI (min i2.1 i2.2)=vI ((loT l y2).1))/\(vI (min i3.1 i3.2)=vI ((loT l y2).2))/\(vI (max i4.1 i4.2)=vI ((hiT l y2).1))/\(vI (max i5.1 i5.2)=vI ((hiT l y2).2))/\(rf (vecsD l)))))))))))/\((decide ((nI x1)<(nI l.length)))=false->((vI ((loT l x1).1)=vI ((wdB l).1.1))/\(vI ((loT l x1).2)=vI ((wdB l).1.2))/\(vI ((hiT l x1).1)=vI ((wdB l).2.1))/\(vI ((hiT l x1).2)=vI ((wdB l).2.2))/\(Value.bool true=Value.bool (isPoly l))))))))))))) (by kernel_rfl) ?_
 delta vI wR nI
 have hvl:=vecsD_length l
 refine ⟨l,by
  rfl,by
  trivial,?_⟩
 refine ⟨λ c4=>?_,λ c4=>?_⟩
 ·try simp only [nrm] at c4
  have hE:=wdB_no c4
  refine ⟨?_,?_,?_,?_,?_⟩
  ·rw [hE];done
  ·rw [hE];done
  ·rw [hE];done
  ·rw [hE];done
  rw [c4]
 try simp only [nrm] at c4
 have hE:=wdB_yes c4
 have hP:=isPoly_len c4
 refine ao (by omega) λ o10=>?_
 refine ao (by omega) λ o11=>?_
 refine ao (by omega) λ o12=>?_
 refine ao (by omega) λ o13=>?_
 refine ⟨⟨0,by
  omega,?_⟩,?_⟩
 ·refine ⟨?_,?_,rfl,rfl,rfl,rfl,?_,?_,?_,?_,rfl⟩
  ·rw [hvl];done
  ·rfl
  ·rw [vecs_x (by omega)];rfl
  ·rw [vecs_y (by omega)];rfl
  ·rw [vecs_x (by omega)];rfl
  rw [vecs_y (by omega)];rfl
 intro (k:Nat) hki14
 have hki14:k<=l.length:=hki14
 refine And.symm ⟨λ c27=>?_,λ c27=>?_⟩
 ·try simp only [nrm] at c27
  refine ⟨?_,?_,?_,?_,?_⟩
  ·rw [hE,loT_all (by omega)];done
  ·rw [hE,loT_all (by omega)];done
  ·rw [hE,hiT_all (by omega)];done
  ·rw [hE,hiT_all (by omega)];done
  rw [c4]
 try simp only [nrm] at c27
 refine ao (by omega) λ o28=>?_
 refine ao (by omega) λ o29=>?_
 refine ⟨(((loT l k).1),((((vecsD l).getD k []).getD 0 (.int 0))).n),by
  rfl,by
  trivial,?_⟩
 refine ⟨(((loT l k).2),((((vecsD l).getD k []).getD 1 (.int 0))).n),by
  rfl,by
  trivial,?_⟩
 refine ⟨(((hiT l k).1),((((vecsD l).getD k []).getD 0 (.int 0))).n),by
  rfl,by
  trivial,?_⟩
 refine ⟨(((hiT l k).2),((((vecsD l).getD k []).getD 1 (.int 0))).n),by
  rfl,by
  trivial,?_⟩
 refine ⟨k+1,by
  omega,by
  omega,?_⟩
 refine ⟨rfl,?_,rfl,rfl,rfl,rfl,?_,?_,?_,?_,rfl⟩
 ·exact vint (wrap64 (by omega) (by omega))
 ·rw [loT_succ (by omega),vecs_x (by omega)];rfl
 ·rw [loT_succ (by omega),vecs_y (by omega)];rfl
 ·rw [hiT_succ (by omega),vecs_x (by omega)];rfl
 rw [hiT_succ (by omega),vecs_y (by omega)];rfl
theorem negL_get (l:List V2) (i:Nat):(negL l).getD i (0,0)=(-(l.getD i (0,0)).1,-(l.getD i (0,0)).2):=by
 unfold negL
 simp only [List.getD,List.getElem?_map]
 cases l[i]? <;> simp
theorem turn_neg (a b c:V2):turnI (-a.1,-a.2) (-b.1,-b.2) (-c.1,-c.2)=turnI a b c:=by simp only [turnI];grind
theorem isVec_neg (p:V2):isVec (-p.1,-p.2)=isVec p:=by
 unfold isVec insB inR
 simp only
 congr 1
 ·have:(-1000<=-p.1)=(p.1<=1000):=by apply propext;omega
  have h2:(-p.1<=1000)=(-1000<=p.1):=by apply propext;omega
  simp only [this,h2,Bool.and_comm]
 ·have:(-1000<=-p.2)=(p.2<=1000):=by apply propext;omega
  have h2:(-p.2<=1000)=(-1000<=p.2):=by apply propext;omega
  simp only [this,h2,Bool.and_comm]
theorem isPoly_neg {l:List V2} (h:isPoly l=true):isPoly (negL l)=true:=by
 obtain ⟨h1,h2,h3⟩:=isPoly_iff.1 h
 refine isPoly_iff.2 ⟨by rw [negL_len];exact h1,?_,λ i j hi hj n1 n2=>?_⟩
 ·rw [List.all_eq_true] at h2 ⊢
  intro x hx
  obtain ⟨y,hy,rfl⟩:=List.mem_map.1 hx
  rw [isVec_neg];exact h2 y hy
 ·rw [negL_len] at hi hj n2
  rw [negL_len,negL_get,negL_get,negL_get,turn_neg]
  exact h3 i j hi hj n1 n2
theorem scn_robF {s:Scn} (h:validScn s=true):isPoly s.robot=true/\s.robot.length<=5/\s.robot.all (insB 20)=true:=by
 simp only [validScn,shape,Bool.and_eq_true,decide_eq_true_eq] at h
 exact ⟨h.1.2.1.1,h.1.2.1.2,h.1.2.2⟩
theorem scn_obF {s:Scn} (h:validScn s=true) {o:List V2} (ho:o ∈ s.obst):isPoly o=true/\o.length<=5/\o.all (insB 200)=true:=by
 simp only [validScn,Bool.and_eq_true,decide_eq_true_eq] at h
 have:=List.all_eq_true.1 h.2.1.1.1 o ho
 simp only [shape,Bool.and_eq_true,decide_eq_true_eq] at this
 exact ⟨this.1.1,this.1.2,this.2⟩
theorem bd_getD {m:Int} {l:List V2} (h:l.all (insB m)=true) {i:Nat} (hi:i<l.length):-m<=(l.getD i (0,0)).1/\(l.getD i (0,0)).1<=m/\-m<=(l.getD i (0,0)).2/\(l.getD i (0,0)).2<=m:=by
 refine insB_bd (List.all_eq_true.1 h _ ?_)
 simp [List.getD,hi]
theorem robot_poly {s:Scn} {h:Int} (hv:(validScn s && inR h 0 3)=true):isPoly (robotAt s h)=true/\(robotAt s h).length<=5/\(robotAt s h).all (insB 20)=true:=by
 rw [Bool.and_eq_true] at hv
 obtain ⟨h1,h2,h3⟩:=scn_robF hv.1
 rw [robotAt_yes hv.1 (inR_iff.1 hv.2)]
 refine ⟨by rw [isPoly_turn];exact h1,by simpa [turnPoly] using h2,?_⟩
 rw [List.all_eq_true] at h3 ⊢
 intro x hx
 obtain ⟨y,hy,rfl⟩:=List.mem_map.1 hx
 exact insB_rotN (h3 y hy) _
theorem obs_poly {s:Scn} {h:Int} (hv:(validScn s && inR h 0 3)=true) {o:List V2} (ho:o ∈ s.obst):isPoly (obsV (robotAt s h) o)=true/\obsV (robotAt s h) o=sumS o (negL (robotAt s h)):=by
 obtain ⟨r1,r2,r3⟩:=robot_poly hv
 rw [Bool.and_eq_true] at hv
 obtain ⟨o1,o2,o3⟩:=scn_obF hv.1 ho
 have rp:=isPoly_len r1
 have e:negV (robotAt s h)=negL (robotAt s h):=neg_yes rp.2.2
 have n1:=isPoly_neg r1
 have hl:=negL_len (robotAt s h)
 have h64:o.length*(negL (robotAt s h)).length<=64:=by
  rw [hl]
  exact Nat.le_trans (Nat.mul_le_mul o2 r2) (by decide)
 have hp:=sum_isPoly o1 n1 h64 (by omega) (λ i j hi hj=>by
  have b1:=bd_getD o3 hi
  have b2:=bd_getD r3 (show j<(robotAt s h).length by omega)
  rw [negL_get]
  unfold isVec insB
  simp only [addV,Bool.and_eq_true,inR_iff]
  omega)
 have e2:obsV (robotAt s h) o=sumS o (negL (robotAt s h)):=by unfold obsV;rw [e];exact sum_yes o1 n1 h64 hp
 exact ⟨by rw [e2];exact hp,e2⟩
theorem blk_poly {s:Scn} {h:Int} (hv:(validScn s && inR h 0 3)=true):∀ z ∈ blk s h,isPoly z=true:=by
 intro z hz
 rw [blk_yes (by have:=robot_some hv;omega)] at hz
 unfold blkT at hz
 rw [List.take_length] at hz
 obtain ⟨o,ho,rfl⟩:=List.mem_map.1 hz
 exact (obs_poly hv ho).1
def conF (ar:List (List V2)) (q:Pq):Bool:=ar.any λ z=>decide (0<=conZ z q)
theorem conF_eq {ar:List (List V2)} (h:∀ z ∈ ar,isPoly z=true) {p:PtD} (hp:okP p=true):(ar.any λ z=>decide (0<=cpZ z p))=conF ar (pqR p):=by
 unfold conF
 rw [Bool.eq_iff_iff,List.any_eq_true,List.any_eq_true]
 constructor
 ·rintro ⟨z,hz,h0⟩;exact ⟨z,hz,by rwa [cpZ_yes (h z hz) hp] at h0⟩
 ·rintro ⟨z,hz,h0⟩;exact ⟨z,hz,by rw [cpZ_yes (h z hz) hp];exact h0⟩
def smF (ar:List (List V2)) (p q:Pq):Bool:=ar.any λ z=>smB z p q
theorem smF_eq {ar:List (List V2)} (h:∀ z ∈ ar,isPoly z=true) {p q:PtD} (hp:okP p=true) (hq:okP q=true):(ar.any λ z=>smZ z p q)=smF ar (pqR p) (pqR q):=by
 unfold smF
 have e:∀ z ∈ ar,smZ z p q=smB z (pqR p) (pqR q):=λ z hz=>by unfold smZ;rw [h z hz,hp,hq];rfl
 rw [Bool.eq_iff_iff,List.any_eq_true,List.any_eq_true]
 constructor
 ·rintro ⟨z,hz,h0⟩;exact ⟨z,hz,by rwa [e z hz] at h0⟩
 ·rintro ⟨z,hz,h0⟩;exact ⟨z,hz,by rw [e z hz];exact h0⟩
def freeQ (b:V2×V2) (ar:List (List V2)) (q:Pq):Bool:=inQ b q && !(conF ar q)
theorem freeA_eq {b:V2×V2} {ar:List (List V2)} (h:∀ z ∈ ar,isPoly z=true) {p:PtD} : freeA b ar p=(okP p && freeQ b ar (pqR p)):=by
 unfold freeA inBoxB freeQ
 cases hp:okP p with
 | false=>rfl
 | true=>rw [conF_eq h hp];simp
def moveA (b:V2×V2) (ar:List (List V2)) (p q:PtD):Bool:=!(ar.any λ z=>smZ z p q) && (freeA b ar p && freeA b ar q)
def moveS (s:Scn) (h:Int) (p q:PtD):Bool:=limitsOk s h && moveA (limitsBox s h) (blk s h) p q
theorem limitsOk_val {s:Scn} {h:Int} (hl:limitsOk s h=true):(validScn s && inR h 0 3)=true:=by
 unfold limitsOk at hl
 rw [Bool.and_eq_true] at hl
 exact hl.1
theorem limits_yes {s:Scn} {h:Int} (hv:(validScn s && inR h 0 3)=true):limitsOk s h=boxOpen (boxOf s h.toNat):=by unfold limitsOk;rw [hv,Bool.true_and]
theorem limits_no {s:Scn} {h:Int} (hv:(validScn s && inR h 0 3)=false):limitsOk s h=false/\limitsBox s h=((0,0),(0,0)):=by
 have e:limitsOk s h=false:=by unfold limitsOk;rw [hv,Bool.false_and]
 exact ⟨e,by unfold limitsBox;rw [e];rfl⟩
theorem limits_shut {s:Scn} {h:Int} (hl:limitsOk s h=false):limitsBox s h=((0,0),(0,0)):=by unfold limitsBox;rw [hl];rfl
theorem limits_open {s:Scn} {h:Int} (hl:limitsOk s h=true):limitsBox s h=boxOf s h.toNat:=by unfold limitsBox;rw [hl];rfl
theorem box_w {s:Scn} {h:Int} (hv:(validScn s && inR h 0 3)=true):IntKind.i64.wrap (s.low.1-(lowOf (robotAt s h)).1)=(boxOf s h.toNat).1.1/\IntKind.i64.wrap (s.low.2-(lowOf (robotAt s h)).2)=(boxOf s h.toNat).1.2/\IntKind.i64.wrap (s.high.1-(highOf (robotAt s h)).1)=(boxOf s h.toNat).2.1/\IntKind.i64.wrap (s.high.2-(highOf (robotAt s h)).2)=(boxOf s h.toNat).2.2:=by
 obtain ⟨r1,r2,r3⟩:=robot_poly hv
 have hn:=(isPoly_len r1).1
 rw [Bool.and_eq_true] at hv
 have hb:=scn_room hv.1
 have e:=robotAt_yes hv.1 (inR_iff.1 hv.2)
 have hz:=bd_getD r3 (show 0<(robotAt s h).length by omega)
 have hl:∀ p ∈ robotAt s h,-20<=p.1/\p.1<=20/\-20<=p.2/\p.2<=20:=λ p hp=>insB_bd (List.all_eq_true.1 r3 p hp)
 have b1:=foldl_min_bd (m:=20) (robotAt s h) ((robotAt s h).getD 0 (0,0)) hz hl
 have b2:=foldl_max_bd (m:=20) (robotAt s h) ((robotAt s h).getD 0 (0,0)) hz hl
 have e1:boxOf s h.toNat=((s.low.1-(lowOf (robotAt s h)).1,s.low.2-(lowOf (robotAt s h)).2),(s.high.1-(highOf (robotAt s h)).1,s.high.2-(highOf (robotAt s h)).2)):=by rw [e];rfl
 rw [e1]
 have c1:lowOf (robotAt s h)=(robotAt s h).foldl minV ((robotAt s h).getD 0 (0,0)):=rfl
 have c2:highOf (robotAt s h)=(robotAt s h).foldl maxV ((robotAt s h).getD 0 (0,0)):=rfl
 rw [c1,c2]
 exact ⟨wrap64 (by omega) (by omega),wrap64 (by omega) (by omega),wrap64 (by omega) (by omega),wrap64 (by omega) (by omega)⟩
theorem box_bd {s:Scn} {h:Int} (hv:(validScn s && inR h 0 3)=true):bxOk (boxOf s h.toNat):=by
 obtain ⟨r1,r2,r3⟩:=robot_poly hv
 have hn:=(isPoly_len r1).1
 rw [Bool.and_eq_true] at hv
 have hb:=scn_room hv.1
 have e:=robotAt_yes hv.1 (inR_iff.1 hv.2)
 have hz:=bd_getD r3 (show 0<(robotAt s h).length by omega)
 have hl:∀ p ∈ robotAt s h,-20<=p.1/\p.1<=20/\-20<=p.2/\p.2<=20:=λ p hp=>insB_bd (List.all_eq_true.1 r3 p hp)
 have b1:=foldl_min_bd (m:=20) (robotAt s h) ((robotAt s h).getD 0 (0,0)) hz hl
 have b2:=foldl_max_bd (m:=20) (robotAt s h) ((robotAt s h).getD 0 (0,0)) hz hl
 have e1:boxOf s h.toNat=((s.low.1-(lowOf (robotAt s h)).1,s.low.2-(lowOf (robotAt s h)).2),(s.high.1-(highOf (robotAt s h)).1,s.high.2-(highOf (robotAt s h)).2)):=by rw [e];rfl
 rw [e1]
 have c1:lowOf (robotAt s h)=(robotAt s h).foldl minV ((robotAt s h).getD 0 (0,0)):=rfl
 have c2:highOf (robotAt s h)=(robotAt s h).foldl maxV ((robotAt s h).getD 0 (0,0)):=rfl
 rw [c1,c2]
 unfold bxOk
 simp only
 omega
theorem limits_bd (s:Scn) (h:Int):bxOk (limitsBox s h):=by
 cases hl:limitsOk s h with
 | false=>rw [limits_shut hl];unfold bxOk;simp only;omega
 | true=>rw [limits_open hl];exact box_bd (limitsOk_val hl)
def iLimA_con:Con:={ ι:=Scn×Int,pre:=λ i=>scnSz i.1/\(validScn i.1 && inR i.2 0 3)=true,args:=λ i=>[.agg [.im (.int .i64 i.1.low.1),.im (.int .i64 i.1.low.2),.im (.int .i64 i.1.high.1),.im (.int .i64 i.1.high.2),.sl 38 [.int,.int] (vecsD i.1.robot),.sl 39 [.sl 38 [.int,.int]] (areasD i.1.obst),.sl 38 [.int,.int] (vecsD i.1.tables)],.one (.im (.int .i64 i.2))],res:=λ i=>⟨true,[some 4,none],[.im (Value.int .i64 ((limitsBox i.1 i.2).1.1)),.im (Value.int .i64 ((limitsBox i.1 i.2).1.2)),.im (Value.int .i64 ((limitsBox i.1 i.2).2.1)),.im (Value.int .i64 ((limitsBox i.1 i.2).2.2)),.im (Value.bool (limitsOk i.1 i.2))]⟩ }
theorem iLimA_ok:iLimA_con.Ok Tryz.prog 41:=by
 refine fok (X:=⟨tt,[(64,iRobotAt_con),(65,iWidth_con)],[],66,[]⟩) mixed tt_ok (CTok.cons iRobotAt_ok (CTok.cons iWidth_ok (CTok.nil _))) Tryz.func41 (λ _=>[]) ?_
 rintro ⟨s,h⟩ hpre
 have hpre:scnSz s/\(validScn s && inR h 0 3)=true:=hpre
 refine by_nf (q:=∃ i1:Scn×Int,[DA.agg [cI s.low.1,cI s.low.2,cI s.high.1,cI s.high.2,DC.sl 38 [.int,.int] (vecsD s.robot),DC.sl 39 [.sl 38 [.int,.int]] (areasD s.obst),DC.sl 38 [.int,.int] (vecsD s.tables)],DA.one (cI h)]=iRobotAt_con.args i1/\iRobotAt_con.pre i1/\(∀ b2:Bool,(b2=true->vecsD (robotAt i1.1 i1.2)=[])->((b2=true->((vI (0:Int)=vI ((limitsBox s h).1.1))/\(vI (0:Int)=vI ((limitsBox s h).1.2))/\(vI (0:Int)=vI ((limitsBox s h).2.1))/\(vI (0:Int)=vI ((limitsBox s h).2.2))/\(Value.bool false=Value.bool (limitsOk s h))))/\(b2=false->(∃ i3:(List V2),[DA.one (DC.sl 38 [.int,.int] (vecsD (robotAt i1.1 i1.2)))]=iWidth_con.args i3/\iWidth_con.pre i3/\(((!(decide ((wR (s.low.1-((lowOf i3).1)))≥(wR (s.high.1-((highOf i3).1))))))=true->(((decide ((wR (s.low.2-((lowOf i3).2)))≥(wR (s.high.2-((highOf i3).2)))))=true->((vI (0:Int)=vI ((limitsBox s h).1.1))/\(vI (0:Int)=vI ((limitsBox s h).1.2))/\(vI (0:Int)=vI ((limitsBox s h).2.1))/\(vI (0:Int)=vI ((limitsBox s h).2.2))/\(Value.bool false=Value.bool (limitsOk s h))))/\((decide ((wR (s.low.2-((lowOf i3).2)))≥(wR (s.high.2-((highOf i3).2)))))=false->((vI (wR (s.low.1-((lowOf i3).1)))=vI ((limitsBox s h).1.1))/\(vI (wR (s.low.2-((lowOf i3).2)))=vI ((limitsBox s h).1.2))/\(vI (wR (s.high.1-((highOf i3).1)))=vI ((limitsBox s h).2.1))/\(vI (wR (s.high.2-((highOf i3).2)))=vI ((limitsBox s h).2.2))/\(Value.bool true=Value.bool (limitsOk s h))))))/\((!(decide ((wR (s.low.1-((lowOf i3).1)))≥(wR (s.high.1-((highOf i3).1))))))=false->((vI (0:Int)=vI ((limitsBox s h).1.1))/\(vI (0:Int)=vI ((limitsBox s h).1.2))/\(vI (0:Int)=vI ((limitsBox s h).2.1))/\(vI (0:Int)=vI ((limitsBox s h).2.2))/\(Value.bool false=Value.bool (limitsOk s h)))))))))) (by kernel_rfl) ?_
 delta vI wR
 have hv:=hpre.2
 have hpre:=hpre.1
 have hrs:=robot_some hv
 obtain ⟨w1,w2,w3,w4⟩:=box_w hv
 have hrv:=robot_le s h
 have hvl:=vecsD_length (robotAt s h)
 refine ⟨(s,h),by
  rfl,by
  trivial,?_⟩
 intro b2 q4
 refine ⟨λ c5=>?_,λ c5=>?_⟩
 ·try simp only [nrm] at c5
  exfalso
  have hq:=congrArg List.length (q4 c5)
  rw [show vecsD (robotAt (s,h).1 (s,h).2)=vecsD (robotAt s h) from rfl,hvl] at hq
  simp only [List.length_nil] at hq
  omega -- done
 try simp only [nrm] at c5
 refine ⟨(robotAt s h),by
  rfl,by
  trivial,?_⟩
 refine And.symm ⟨λ c14=>?_,λ c14=>?_⟩
 ·try simp only [nrm] at c14
  rw [w1,w3] at c14
  have hO:limitsOk s h=false:=by rw [limits_yes hv];unfold boxOpen;rw [decide_eq_false (by omega)];rfl
  have hE:=limits_shut hO
  refine ⟨?_,?_,?_,?_,?_⟩
  ·rw [hE];done
  ·rw [hE];done
  ·rw [hE];done
  ·rw [hE];done
  rw [hO];done
 try simp only [nrm] at c14
 refine ⟨λ c15=>?_,λ c15=>?_⟩
 ·try simp only [nrm] at c15
  rw [w2,w4] at c15
  have hO:limitsOk s h=false:=by rw [limits_yes hv];unfold boxOpen;rw [decide_eq_false (show ¬ (boxOf s h.toNat).1.2<(boxOf s h.toNat).2.2 by omega),Bool.and_false]
  have hE:=limits_shut hO
  refine ⟨?_,?_,?_,?_,?_⟩
  ·rw [hE];done
  ·rw [hE];done
  ·rw [hE];done
  ·rw [hE];done
  rw [hO];done
 try simp only [nrm] at c15
 rw [w1,w3] at c14
 rw [w2,w4] at c15
 have hO:limitsOk s h=true:=by rw [limits_yes hv];unfold boxOpen;rw [decide_eq_true (by omega),decide_eq_true (by omega)];rfl
 have hE:=limits_open hO
 refine ⟨?_,?_,?_,?_,?_⟩
 ·rw [hE,w1]
 ·rw [hE,w2]
 ·rw [hE,w3]
 ·rw [hE,w4]
 rw [hO];done
def iLimB_con:Con:={ ι:=Scn×Int,pre:=λ i=>scnSz i.1/\(validScn i.1 && inR i.2 0 3)=false,args:=λ i=>[.agg [.im (.int .i64 i.1.low.1),.im (.int .i64 i.1.low.2),.im (.int .i64 i.1.high.1),.im (.int .i64 i.1.high.2),.sl 38 [.int,.int] (vecsD i.1.robot),.sl 39 [.sl 38 [.int,.int]] (areasD i.1.obst),.sl 38 [.int,.int] (vecsD i.1.tables)],.one (.im (.int .i64 i.2))],res:=λ i=>⟨true,[some 4,none],[.im (Value.int .i64 ((limitsBox i.1 i.2).1.1)),.im (Value.int .i64 ((limitsBox i.1 i.2).1.2)),.im (Value.int .i64 ((limitsBox i.1 i.2).2.1)),.im (Value.int .i64 ((limitsBox i.1 i.2).2.2)),.im (Value.bool (limitsOk i.1 i.2))]⟩ }
theorem iLimB_ok:iLimB_con.Ok Tryz.prog 41:=genOwn_ok rfl ⟨_,Tryz.func41,by decide,rfl⟩ (λ _=>Nat.le_of_ble_eq_true rfl) (λ _=>rfl) (λ i=>[.im (.int .i64 (limitsBox i.1 i.2).1.1),.im (.int .i64 (limitsBox i.1 i.2).1.2),.im (.int .i64 (limitsBox i.1 i.2).2.1),.im (.int .i64 (limitsBox i.1 i.2).2.2),.im (.bool (limitsOk i.1 i.2))]) (λ _=>rfl) (λ _=>rfl) (λ i hp w us h=>by
 obtain ⟨s,k⟩:=i
 obtain ⟨cs,v,rfl,h1,h2,h3⟩:=vals_agg_one (t:=[.int,.int,.int,.int,.sl 38 [.int,.int],.sl 39 [.sl 38 [.int,.int]],.sl 38 [.int,.int]]) (x:=.int) (ds:=scnD s) (dx:=.int k) h rfl
 have h2:v=.int .i64 k:=by simpa [Rd] using h2
 subst h2
 rw [show valD (iLimB_con.args (s,k)) (cs++[.int .i64 k])=[.agg cs.toArray,.int .i64 k] from h3 _ _ rfl]
 refine (LimitsNil_c s k _ w (RdRow.scene h1) hp.2).mono ?_
 rintro e w' ⟨rfl,hb⟩
 obtain ⟨e1,e2⟩:=limits_no hp.2
 refine ⟨[.int .i64 0,.int .i64 0,.int .i64 0,.int .i64 0,.bool false],rfl,?_,hb⟩
 show Own w' w.heap.size w'.heap.size [.int,.int,.int,.int,.bool] [.int (limitsBox s k).1.1,.int (limitsBox s k).1.2,.int (limitsBox s k).2.1,.int (limitsBox s k).2.2,.bool (limitsOk s k)] [.int .i64 0,.int .i64 0,.int .i64 0,.int .i64 0,.bool false]
 rw [e1,e2]
 exact ⟨[],⟨[],[],rfl,Fp.mk_int _,[],[],rfl,Fp.mk_int _,[],[],rfl,Fp.mk_int _,[],[],rfl,Fp.mk_int _,[],[],rfl,Fp.mk_bool _,rfl⟩,List.nodup_nil,λ b hb=>by simp at hb⟩)
def iLim_con:Con:={ ι:=Scn×Int,pre:=λ i=>scnSz i.1,args:=λ i=>[.agg [.im (.int .i64 i.1.low.1),.im (.int .i64 i.1.low.2),.im (.int .i64 i.1.high.1),.im (.int .i64 i.1.high.2),.sl 38 [.int,.int] (vecsD i.1.robot),.sl 39 [.sl 38 [.int,.int]] (areasD i.1.obst),.sl 38 [.int,.int] (vecsD i.1.tables)],.one (.im (.int .i64 i.2))],res:=λ i=>⟨true,[some 4,none],[.im (Value.int .i64 ((limitsBox i.1 i.2).1.1)),.im (Value.int .i64 ((limitsBox i.1 i.2).1.2)),.im (Value.int .i64 ((limitsBox i.1 i.2).2.1)),.im (Value.int .i64 ((limitsBox i.1 i.2).2.2)),.im (Value.bool (limitsOk i.1 i.2))]⟩ }
theorem iLim_ok:iLim_con.Ok Tryz.prog 41 where
 enter:=iLimA_ok.enter
 small:=λ _=>Nat.le_of_ble_eq_true rfl
 calls:=λ i hp F w us mb h=>by
  cases hc:(validScn i.1 && inR i.2 0 3) with
  | false=>
   refine (iLimB_ok.calls i ⟨hp,hc⟩ F w us mb h).mono ?_
   rintro e w' ⟨rs,bs,he,q⟩
   exact ⟨rs,bs,he,⟨q.res,q.nd,q.fresh,q.turned,q.os,q.tape,q.output,q.size,q.keep⟩⟩
  | true=>
   refine (iLimA_ok.calls i ⟨hp,hc⟩ F w us mb h).mono ?_
   rintro e w' ⟨rs,bs,he,q⟩
   exact ⟨rs,bs,he,⟨q.res,q.nd,q.fresh,q.turned,q.os,q.tape,q.output,q.size,q.keep⟩⟩
theorem wd_robot {s:Scn} {h:Int} (hv:(validScn s && inR h 0 3)=true):isPoly (robotAt s h)=true/\wdB (robotAt s h)=(lowOf (robotAt s h),highOf (robotAt s h)):=⟨(robot_poly hv).1,wdB_yes (robot_poly hv).1⟩
theorem wd_none {s:Scn} {h:Int} (hv:(validScn s && inR h 0 3)=false):isPoly (robotAt s h)=false:=by rw [robot_nil hv];rfl
def sLim_con:Con:={ ι:=Scn×Int,pre:=λ i=>scnSz i.1,args:=λ i=>[.agg [.im (.int .i64 i.1.low.1),.im (.int .i64 i.1.low.2),.im (.int .i64 i.1.high.1),.im (.int .i64 i.1.high.2),.sl 38 [.int,.int] (vecsD i.1.robot),.sl 39 [.sl 38 [.int,.int]] (areasD i.1.obst),.sl 38 [.int,.int] (vecsD i.1.tables)],.one (.im (.int .i64 i.2))],res:=λ i=>⟨true,[some 4,none],[.im (Value.int .i64 ((limitsBox i.1 i.2).1.1)),.im (Value.int .i64 ((limitsBox i.1 i.2).1.2)),.im (Value.int .i64 ((limitsBox i.1 i.2).2.1)),.im (Value.int .i64 ((limitsBox i.1 i.2).2.2)),.im (Value.bool (limitsOk i.1 i.2))]⟩ }
theorem sLim_ok:sLim_con.Ok Tryz.prog 15:=by
 refine fok (X:=⟨tt,[(32,sRobotAt_con),(31,sWidth_con)],[],66,[]⟩) mixed tt_ok (CTok.cons sRobotAt_ok (CTok.cons sWidth_ok (CTok.nil _))) Tryz.func15 (λ _=>[]) ?_
 rintro ⟨s,h⟩ hpre
 have hpre:scnSz s:=hpre
 refine by_nf (q:=∃ i1:Scn×Int,[DA.agg [cI s.low.1,cI s.low.2,cI s.high.1,cI s.high.2,DC.sl 38 [.int,.int] (vecsD s.robot),DC.sl 39 [.sl 38 [.int,.int]] (areasD s.obst),DC.sl 38 [.int,.int] (vecsD s.tables)],DA.one (cI h)]=sRobotAt_con.args i1/\sRobotAt_con.pre i1/\(∃ i2:(List V2),[DA.one (DC.sl 38 [.int,.int] (vecsD (robotAt i1.1 i1.2)))]=sWidth_con.args i2/\sWidth_con.pre i2/\(((!(isPoly i2))=true->((vI (0:Int)=vI ((limitsBox s h).1.1))/\(vI (0:Int)=vI ((limitsBox s h).1.2))/\(vI (0:Int)=vI ((limitsBox s h).2.1))/\(vI (0:Int)=vI ((limitsBox s h).2.2))/\(Value.bool false=Value.bool (limitsOk s h))))/\((!(isPoly i2))=false->(((!(decide ((wR (s.low.1-((wdB i2).1.1)))≥(wR (s.high.1-((wdB i2).2.1))))))=true->(((decide ((wR (s.low.2-((wdB i2).1.2)))≥(wR (s.high.2-((wdB i2).2.2)))))=true->((vI (0:Int)=vI ((limitsBox s h).1.1))/\(vI (0:Int)=vI ((limitsBox s h).1.2))/\(vI (0:Int)=vI ((limitsBox s h).2.1))/\(vI (0:Int)=vI ((limitsBox s h).2.2))/\(Value.bool false=Value.bool (limitsOk s h))))/\((decide ((wR (s.low.2-((wdB i2).1.2)))≥(wR (s.high.2-((wdB i2).2.2)))))=false->((vI (wR (s.low.1-((wdB i2).1.1)))=vI ((limitsBox s h).1.1))/\(vI (wR (s.low.2-((wdB i2).1.2)))=vI ((limitsBox s h).1.2))/\(vI (wR (s.high.1-((wdB i2).2.1)))=vI ((limitsBox s h).2.1))/\(vI (wR (s.high.2-((wdB i2).2.2)))=vI ((limitsBox s h).2.2))/\(Value.bool true=Value.bool (limitsOk s h))))))/\((!(decide ((wR (s.low.1-((wdB i2).1.1)))≥(wR (s.high.1-((wdB i2).2.1))))))=false->((vI (0:Int)=vI ((limitsBox s h).1.1))/\(vI (0:Int)=vI ((limitsBox s h).1.2))/\(vI (0:Int)=vI ((limitsBox s h).2.1))/\(vI (0:Int)=vI ((limitsBox s h).2.2))/\(Value.bool false=Value.bool (limitsOk s h))))))))) (by kernel_rfl) ?_
 delta vI wR
 have hvl:=vecsD_length (robotAt s h)
 refine ⟨(s,h),by
  rfl,by
  trivial,?_⟩
 refine ⟨(robotAt s h),by
  rfl,by
  trivial,?_⟩
 refine ⟨λ c7=>?_,λ c7=>?_⟩
 ·try simp only [nrm] at c7
  have hv:(validScn s && inR h 0 3)=false:=by
   cases hc:(validScn s && inR h 0 3) with
   | false=>rfl
   | true=>rw [(robot_poly hc).1] at c7;cases c7
  obtain ⟨hO,hE⟩:=limits_no hv
  refine ⟨?_,?_,?_,?_,?_⟩
  ·rw [hE];done
  ·rw [hE];done
  ·rw [hE];done
  ·rw [hE];done
  rw [hO];done
 try simp only [nrm] at c7
 have hv:(validScn s && inR h 0 3)=true:=by
  cases hc:(validScn s && inR h 0 3) with
  | true=>rfl
  | false=>rw [wd_none hc] at c7;cases c7
 obtain ⟨w1,w2,w3,w4⟩:=box_w hv
 have hW:=(wd_robot hv).2
 refine And.symm ⟨λ c13=>?_,λ c13=>?_⟩
 ·try simp only [nrm] at c13
  simp only [hW] at c13
  rw [w1,w3] at c13
  have hO:limitsOk s h=false:=by rw [limits_yes hv];unfold boxOpen;rw [decide_eq_false (by omega)];rfl
  have hE:=limits_shut hO
  refine ⟨?_,?_,?_,?_,?_⟩
  ·rw [hE];done
  ·rw [hE];done
  ·rw [hE];done
  ·rw [hE];done
  rw [hO];done
 try simp only [nrm] at c13
 refine ⟨λ c14=>?_,λ c14=>?_⟩
 ·try simp only [nrm] at c14
  simp only [hW] at c14
  rw [w2,w4] at c14
  have hO:limitsOk s h=false:=by rw [limits_yes hv];unfold boxOpen;rw [decide_eq_false (show ¬ (boxOf s h.toNat).1.2<(boxOf s h.toNat).2.2 by omega),Bool.and_false]
  have hE:=limits_shut hO
  refine ⟨?_,?_,?_,?_,?_⟩
  ·rw [hE];done
  ·rw [hE];done
  ·rw [hE];done
  ·rw [hE];done
  rw [hO];done
 try simp only [nrm] at c14
 simp only [hW] at c13 c14
 rw [w1,w3] at c13
 rw [w2,w4] at c14
 have hO:limitsOk s h=true:=by rw [limits_yes hv];unfold boxOpen;rw [decide_eq_true (by omega),decide_eq_true (by omega)];rfl
 have hE:=limits_open hO
 refine ⟨?_,?_,?_,?_,?_⟩
 ·rw [hE,hW,w1]
 ·rw [hE,hW,w2]
 ·rw [hE,hW,w3]
 ·rw [hE,hW,w4]
 rw [hO];done
def spaceOf_con:Con:={ ι:=Scn×Int,pre:=λ i=>scnSz i.1,args:=λ i=>[.agg [.im (.int .i64 i.1.low.1),.im (.int .i64 i.1.low.2),.im (.int .i64 i.1.high.1),.im (.int .i64 i.1.high.2),.sl 38 [.int,.int] (vecsD i.1.robot),.sl 39 [.sl 38 [.int,.int]] (areasD i.1.obst),.sl 38 [.int,.int] (vecsD i.1.tables)],.one (.im (.int .i64 i.2))],res:=λ i=>⟨false,[some 6],[.im (Value.bool (limitsOk i.1 i.2)),.im (Value.int .i64 ((limitsBox i.1 i.2).1.1)),.im (Value.int .i64 ((limitsBox i.1 i.2).1.2)),.im (Value.int .i64 ((limitsBox i.1 i.2).2.1)),.im (Value.int .i64 ((limitsBox i.1 i.2).2.2)),.own 39 [.sl 38 [.int,.int]] (areasD (blk i.1 i.2))]⟩ }
theorem spaceOf_ok:spaceOf_con.Ok Tryz.prog 23:=by
 refine fok (X:=⟨tt,[(41,iLim_con),(42,iBlk_con)],[],19,[]⟩) mixed tt_ok (CTok.cons iLim_ok (CTok.cons iBlk_ok (CTok.nil _))) Tryz.func23 (λ _=>[]) ?_
 rintro ⟨s,h⟩ hpre
 have hpre:scnSz s:=hpre
 refine by_nf (q:=∃ i1:Scn×Int,[DA.agg [cI s.low.1,cI s.low.2,cI s.high.1,cI s.high.2,DC.sl 38 [.int,.int] (vecsD s.robot),DC.sl 39 [.sl 38 [.int,.int]] (areasD s.obst),DC.sl 38 [.int,.int] (vecsD s.tables)],DA.one (cI h)]=iLim_con.args i1/\iLim_con.pre i1/\(∃ i2:Scn×Int,[DA.agg [cI s.low.1,cI s.low.2,cI s.high.1,cI s.high.2,DC.sl 38 [.int,.int] (vecsD s.robot),DC.sl 39 [.sl 38 [.int,.int]] (areasD s.obst),DC.sl 38 [.int,.int] (vecsD s.tables)],DA.one (cI h)]=iBlk_con.args i2/\iBlk_con.pre i2/\((Value.bool (limitsOk i1.1 i1.2)=Value.bool (limitsOk s h))/\(vI ((limitsBox i1.1 i1.2).1.1)=vI ((limitsBox s h).1.1))/\(vI ((limitsBox i1.1 i1.2).1.2)=vI ((limitsBox s h).1.2))/\(vI ((limitsBox i1.1 i1.2).2.1)=vI ((limitsBox s h).2.1))/\(vI ((limitsBox i1.1 i1.2).2.2)=vI ((limitsBox s h).2.2))/\(areasD (blk i2.1 i2.2)=areasD (blk s h))))) (by kernel_rfl) ?_
 delta vI
 refine ⟨(s,h),by
  rfl,by
  trivial,?_⟩
 refine ⟨(s,h),by
  rfl,by
  trivial,?_⟩
 exact ⟨rfl,rfl,rfl,rfl,rfl,rfl⟩
def isFree1_con:Con:={ ι:=(List V2)×Pq,pre:=λ i=>isPoly i.1=true,args:=λ i=>[.one (.sl 38 [.int,.int] (vecsD i.1)),.one (.ro (.ptr [.im (Value.bool (decide (i.2.x.z<0))),.sl 3 [.int] (L i.2.x.z.natAbs),.sl 3 [.int] (L i.2.x.d),.im (Value.bool (decide (i.2.y.z<0))),.sl 3 [.int] (L i.2.y.z.natAbs),.sl 3 [.int] (L i.2.y.d)]))],res:=λ i=>⟨false,[none],[.im (Value.bool (decide (0<=conZ i.1 i.2)))]⟩ }
theorem isFree1_ok:isFree1_con.Ok Tryz.prog 68:=by
 refine fok (X:=⟨tt,[(69,contains_con)],[],8,[]⟩) mixed tt_ok (CTok.cons contains_ok (CTok.nil _)) Tryz.func68 (λ _=>[]) ?_
 rintro ⟨l,q⟩ hpre
 have hpre:isPoly l=true:=hpre
 refine by_nf (q:=∃ i1:(List V2)×Pq,[DA.one (DC.sl 38 [.int,.int] (vecsD l)),dP q]=contains_con.args i1/\contains_con.pre i1/\((Value.bool (decide ((conZ i1.1 i1.2)≥(0:Int)))=Value.bool (decide (0<=conZ l q))))) (by kernel_rfl) ?_
 have hP:=isPoly_len hpre
 refine ⟨(l,q),by
  rfl,by
  show l.all isVec=true/\0<l.length/\l.length<=16
  exact ⟨hP.2.2,by omega,by omega⟩,?_⟩
 rfl
def frAny_idx_con:Con:={ ι:=(List (List V2))×Pq,pre:=λ i=>i.1.length<=9223372036854775807/\(∀ z ∈ i.1,isPoly z=true),args:=λ i=>[.one (.sl 39 [.sl 38 [.int,.int]] (areasD i.1)),.one (.ro (.fn 68 [[.im (Value.bool (decide (i.2.x.z<0))),.sl 3 [.int] (L i.2.x.z.natAbs),.sl 3 [.int] (L i.2.x.d),.im (Value.bool (decide (i.2.y.z<0))),.sl 3 [.int] (L i.2.y.z.natAbs),.sl 3 [.int] (L i.2.y.d)]]))],tag:=69,res:=λ i=>⟨false,[none],[.im (Value.int .i64 (idxG (λ z=>decide (0<=conZ z i.2)) i.1))]⟩ }
theorem frAny_idx_ok:frAny_idx_con.Ok Tryz.prog 70:=by
 refine fok (X:=⟨tt,[(68,isFree1_con)],[],19,[]⟩) mixed tt_ok (CTok.cons isFree1_ok (CTok.nil _)) Tryz.func70 (λ (i:(List (List V2))×Pq)=>[(2,.mk 3 (Nat) (λ x1=>{ tm:=[(0,.one (.one (.ext 1))),(1,.one (.one (.ext 2))),(7,.one (.one (.im (Value.int .i64 (((areasD i.1).length:Nat):Int))))),(8,.one (.one (.im (Value.int .i64 ((x1:Nat):Int)))))],en:=[(1,.view 39 [.sl 38 [.int,.int]] (areasD i.1) []),(2,.ro (.fn 68 [[.im (Value.bool (decide (i.2.x.z<0))),.sl 3 [.int] (L i.2.x.z.natAbs),.sl 3 [.int] (L i.2.x.d),.im (Value.bool (decide (i.2.y.z<0))),.sl 3 [.int] (L i.2.y.z.natAbs),.sl 3 [.int] (L i.2.y.d)]]) [])] }) (λ x1=>x1<=i.1.length/\∀ j,j<x1->(λ z=>decide (0<=conZ z i.2)) (i.1.getD j [])=false) (λ x1=>i.1.length-x1) (λ _=>[]))]) ?_
 rintro ⟨ar,q⟩ hpre
 have hpre:ar.length<=9223372036854775807/\(∀ z ∈ ar,isPoly z=true):=hpre
 refine by_nf (q:=(∃ x1:Nat,(x1<=ar.length/\∀ j,j<x1->(λ z=>decide (0<=conZ z q)) (ar.getD j [])=false)/\((rf (vI (nI ((areasD ar).length))))/\(vI (0:Int)=vI (nI x1))/\(rf (areasD ar))/\((.fn 68 [[.im (Value.bool (decide (q.x.z<0))),.sl 3 [.int] (L q.x.z.natAbs),.sl 3 [.int] (L q.x.d),.im (Value.bool (decide (q.y.z<0))),.sl 3 [.int] (L q.y.z.natAbs),.sl 3 [.int] (L q.y.d)]]:RO)=.fn 68 [[.im (Value.bool (decide (q.x.z<0))),.sl 3 [.int] (L q.x.z.natAbs),.sl 3 [.int] (L q.x.d),.im (Value.bool (decide (q.y.z<0))),.sl 3 [.int] (L q.y.z.natAbs),.sl 3 [.int] (L q.y.d)]])))/\∀ x1:Nat,(x1<=ar.length/\∀ j,j<x1->(λ z=>decide (0<=conZ z q)) (ar.getD j [])=false)->(((decide ((nI x1)<(nI ((areasD ar).length))))=true->((0<=(nI x1)/\(nI x1)<((areasD ar).length:Int))/\((x1<(areasD ar).length)/\(∃ i1:(List V2)×Pq,[DA.one (DC.sl 38 [.int,.int] (((((areasD ar).getD x1 []).getD 0 (.int 0))).r)),DA.one (DC.ro (.ptr [.im (Value.bool (decide (q.x.z<0))),.sl 3 [.int] (L q.x.z.natAbs),.sl 3 [.int] (L q.x.d),.im (Value.bool (decide (q.y.z<0))),.sl 3 [.int] (L q.y.z.natAbs),.sl 3 [.int] (L q.y.d)]))]=isFree1_con.args i1/\isFree1_con.pre i1/\(((decide (0<=conZ i1.1 i1.2))=true->((vI (nI x1)=vI (idxG (λ z=>decide (0<=conZ z q)) ar))))/\((decide (0<=conZ i1.1 i1.2))=false->(∃ y2:Nat,(y2<=ar.length/\∀ j,j<y2->(λ z=>decide (0<=conZ z q)) (ar.getD j [])=false)/\(ar.length-y2<ar.length-x1)/\((rf (vI (nI ((areasD ar).length))))/\(vI (wR ((nI x1)+(1:Int)))=vI (nI y2))/\(rf (areasD ar))/\((.fn 68 [[.im (Value.bool (decide (q.x.z<0))),.sl 3 [.int] (L q.x.z.natAbs),.sl 3 [.int] (L q.x.d),.im (Value.bool (decide (q.y.z<0))),.sl 3 [.int] (L q.y.z.natAbs),.sl 3 [.int] (L q.y.d)]]:RO)=.fn 68 [[.im (Value.bool (decide (q.x.z<0))),.sl 3 [.int] (L q.x.z.natAbs),.sl 3 [.int] (L q.x.d),.im (Value.bool (decide (q.y.z<0))),.sl 3 [.int] (L q.y.z.natAbs),.sl 3 [.int] (L q.y.d)]])))))))))/\((decide ((nI x1)<(nI ((areasD ar).length))))=false->((vI (-1:Int)=vI (idxG (λ z=>decide (0<=conZ z q)) ar)))))) (by kernel_rfl) ?_
 delta vI wR nI
 have hal:=areasD_length ar
 refine ⟨⟨0,by
  exact ⟨Nat.zero_le _,λ j hj=>absurd hj (Nat.not_lt_zero j)⟩,?_⟩,?_⟩
 ·refine ⟨rfl,?_,rfl,?_⟩
  ·rfl
  rfl
 intro (k:Nat) hki1
 have hki1:k<=ar.length/\∀ j,j<k->(λ z=>decide (0<=conZ z q)) (ar.getD j [])=false:=hki1
 refine And.symm ⟨λ c7=>?_,λ c7=>?_⟩
 ·try simp only [nrm] at c7
  rw [idxG_none (d:=[]) (λ j hj=>hki1.2 j (by omega))]
 try simp only [nrm] at c7
 refine ao (by first|omega) λ o8=>?_
 refine ao (by first|omega) λ o9=>?_
 refine ⟨(ar.getD k [],q),by
  rw [areasD_at (by omega)];rfl,by
  exact hpre.2 _ (by simp [List.getD,show k<ar.length by omega]),?_⟩
 refine ⟨λ c13=>?_,λ c13=>?_⟩
 ·replace c13:(decide (0<=conZ (ar.getD k []) q))=true:=c13
  try simp only [nrm] at c13
  rw [idxG_at (d:=[]) (by omega) hki1.2 (by simpa using c13)]
 replace c13:(decide (0<=conZ (ar.getD k []) q))=false:=c13
 try simp only [nrm] at c13
 refine ⟨k+1,by
  exact ⟨by omega,lt_step hki1.2 (by simpa using c13)⟩,by
  omega,?_⟩
 refine ⟨rfl,?_,rfl,?_⟩
 ·exact vint (wrap64 (by omega) (by omega))
 rfl
def frAny_con:Con:={ ι:=(List (List V2))×Pq,pre:=λ i=>i.1.length<=9223372036854775807/\(∀ z ∈ i.1,isPoly z=true),args:=λ i=>[.one (.sl 39 [.sl 38 [.int,.int]] (areasD i.1)),.one (.ro (.fn 68 [[.im (Value.bool (decide (i.2.x.z<0))),.sl 3 [.int] (L i.2.x.z.natAbs),.sl 3 [.int] (L i.2.x.d),.im (Value.bool (decide (i.2.y.z<0))),.sl 3 [.int] (L i.2.y.z.natAbs),.sl 3 [.int] (L i.2.y.d)]]))],tag:=69,res:=λ i=>⟨false,[none],[.im (Value.bool (i.1.any (λ z=>decide (0<=conZ z i.2))))]⟩ }
theorem frAny_ok:frAny_con.Ok Tryz.prog 44:=by
 refine fok (X:=⟨tt,[(70,frAny_idx_con)],[],9,[]⟩) mixed tt_ok (CTok.cons frAny_idx_ok (CTok.nil _)) Tryz.func44 (λ _=>[]) ?_
 rintro ⟨ar,q⟩ hpre
 have hpre:ar.length<=9223372036854775807/\(∀ z ∈ ar,isPoly z=true):=hpre
 refine by_nf (q:=∃ i1:(List (List V2))×Pq,[DA.one (DC.sl 39 [.sl 38 [.int,.int]] (areasD ar)),DA.one (DC.ro (.fn 68 [[.im (Value.bool (decide (q.x.z<0))),.sl 3 [.int] (L q.x.z.natAbs),.sl 3 [.int] (L q.x.d),.im (Value.bool (decide (q.y.z<0))),.sl 3 [.int] (L q.y.z.natAbs),.sl 3 [.int] (L q.y.d)]]))]=frAny_idx_con.args i1/\frAny_idx_con.pre i1/\((Value.bool (decide ((idxG (λ z=>decide (0<=conZ z i1.2)) i1.1)≥(0:Int)))=Value.bool (ar.any (λ z=>decide (0<=conZ z q)))))) (by kernel_rfl) ?_
 refine ⟨(ar,q),by
  rfl,by
  exact hpre,?_⟩
 exact congrArg Value.bool (idxG_any _ _)
def spFree_con:Con:={ ι:=Bool×(V2×V2)×(List (List V2))×Pq,pre:=λ i=>(∀ z ∈ i.2.2.1,isPoly z=true)/\i.2.2.1.length<=1048576/\bxOk i.2.1,args:=λ i=>[.agg [.im (.bool i.1),.im (.int .i64 i.2.1.1.1),.im (.int .i64 i.2.1.1.2),.im (.int .i64 i.2.1.2.1),.im (.int .i64 i.2.1.2.2),.sl 39 [.sl 38 [.int,.int]] (areasD i.2.2.1)],.agg [.im (.bool (decide (i.2.2.2.x.z<0))),.sl 3 [.int] (L i.2.2.2.x.z.natAbs),.sl 3 [.int] (L i.2.2.2.x.d),.im (.bool (decide (i.2.2.2.y.z<0))),.sl 3 [.int] (L i.2.2.2.y.z.natAbs),.sl 3 [.int] (L i.2.2.2.y.d)]],res:=λ i=>⟨false,[none],[.im (Value.bool (i.1 && freeQ i.2.1 i.2.2.1 i.2.2.2))]⟩ }
theorem spFree_ok:spFree_con.Ok Tryz.prog 43:=by
 refine fok (X:=⟨tt,[(67,inBox_con),(44,frAny_con)],[],20,[]⟩) mixed tt_ok (CTok.cons inBox_ok (CTok.cons frAny_ok (CTok.nil _))) Tryz.func43 (λ _=>[]) ?_
 rintro ⟨o,b,ar,q⟩ hpre
 have hpre:(∀ z ∈ ar,isPoly z=true)/\ar.length<=1048576/\bxOk b:=hpre
 refine by_nf (q:=(o=true->(∃ i1:(V2×V2)×Pq,[DA.agg [cI b.1.1,cI b.1.2,cI b.2.1,cI b.2.2],dP q]=inBox_con.args i1/\inBox_con.pre i1/\(((inQ i1.1 i1.2)=true->(∃ i2:(List (List V2))×Pq,[DA.one (DC.sl 39 [.sl 38 [.int,.int]] (areasD ar)),DA.one (DC.ro (.fn 68 [[.im (Value.bool (decide (q.x.z<0))),.sl 3 [.int] (L q.x.z.natAbs),.sl 3 [.int] (L q.x.d),.im (Value.bool (decide (q.y.z<0))),.sl 3 [.int] (L q.y.z.natAbs),.sl 3 [.int] (L q.y.d)]]))]=frAny_con.args i2/\frAny_con.pre i2/\((Value.bool (!(i2.1.any (λ z=>decide (0<=conZ z i2.2))))=Value.bool (o && freeQ b ar q)))))/\((inQ i1.1 i1.2)=false->((Value.bool false=Value.bool (o && freeQ b ar q)))))))/\(o=false->((Value.bool false=Value.bool (o && freeQ b ar q))))) (by kernel_rfl) ?_
 obtain ⟨hg,hal,hb⟩:=hpre
 refine And.symm ⟨λ c1=>?_,λ c1=>?_⟩
 ·try simp only [nrm] at c1
  exact congrArg Value.bool (by unfold freeQ conF;simp_all)
 try simp only [nrm] at c1
 refine ⟨(b,q),by
  rfl,by
  exact hb,?_⟩
 refine And.symm ⟨λ c5=>?_,λ c5=>?_⟩
 ·replace c5:(inQ b q)=false:=c5
  try simp only [nrm] at c5
  exact congrArg Value.bool (by unfold freeQ conF;simp_all)
 replace c5:(inQ b q)=true:=c5
 try simp only [nrm] at c5
 refine ⟨(ar,q),by
  rfl,by
  show ar.length<=9223372036854775807/\(∀ z ∈ ar,isPoly z=true)
  exact ⟨by omega,hg⟩,?_⟩
 exact congrArg Value.bool (by unfold freeQ conF;simp_all)
def isFreeM1_con:Con:={ ι:=(List V2)×Pq×Pq,pre:=λ i=>isPoly i.1=true,args:=λ i=>[.one (.sl 38 [.int,.int] (vecsD i.1)),.one (.ro (.ptr [.im (Value.bool (decide (i.2.1.x.z<0))),.sl 3 [.int] (L i.2.1.x.z.natAbs),.sl 3 [.int] (L i.2.1.x.d),.im (Value.bool (decide (i.2.1.y.z<0))),.sl 3 [.int] (L i.2.1.y.z.natAbs),.sl 3 [.int] (L i.2.1.y.d)])),.one (.ro (.ptr [.im (Value.bool (decide (i.2.2.x.z<0))),.sl 3 [.int] (L i.2.2.x.z.natAbs),.sl 3 [.int] (L i.2.2.x.d),.im (Value.bool (decide (i.2.2.y.z<0))),.sl 3 [.int] (L i.2.2.y.z.natAbs),.sl 3 [.int] (L i.2.2.y.d)]))],res:=λ i=>⟨false,[none],[.im (Value.bool (smB i.1 i.2.1 i.2.2))]⟩ }
theorem isFreeM1_ok:isFreeM1_con.Ok Tryz.prog 45:=by
 refine fok (X:=⟨tt,[(46,segMeets_con)],[],9,[]⟩) mixed tt_ok (CTok.cons segMeets_ok (CTok.nil _)) Tryz.func45 (λ _=>[]) ?_
 rintro ⟨l,p,q⟩ hpre
 have hpre:isPoly l=true:=hpre
 refine by_nf (q:=∃ i1:(List V2)×Pq×Pq,[DA.one (DC.sl 38 [.int,.int] (vecsD l)),dP p,dP q]=segMeets_con.args i1/\segMeets_con.pre i1/\((Value.bool (smB i1.1 i1.2.1 i1.2.2)=Value.bool (smB l p q)))) (by kernel_rfl) ?_
 have hP:=isPoly_len hpre
 refine ⟨(l,p,q),by
  rfl,by
  show l.all isVec=true/\0<l.length/\l.length<=16
  exact ⟨hP.2.2,by omega,by omega⟩,?_⟩
 exact rfl
def frSeg_idx_con:Con:={ ι:=(List (List V2))×Pq×Pq,pre:=λ i=>i.1.length<=9223372036854775807/\(∀ z ∈ i.1,isPoly z=true),args:=λ i=>[.one (.sl 39 [.sl 38 [.int,.int]] (areasD i.1)),.one (.ro (.fn 45 [[.im (Value.bool (decide (i.2.1.x.z<0))),.sl 3 [.int] (L i.2.1.x.z.natAbs),.sl 3 [.int] (L i.2.1.x.d),.im (Value.bool (decide (i.2.1.y.z<0))),.sl 3 [.int] (L i.2.1.y.z.natAbs),.sl 3 [.int] (L i.2.1.y.d)],[.im (Value.bool (decide (i.2.2.x.z<0))),.sl 3 [.int] (L i.2.2.x.z.natAbs),.sl 3 [.int] (L i.2.2.x.d),.im (Value.bool (decide (i.2.2.y.z<0))),.sl 3 [.int] (L i.2.2.y.z.natAbs),.sl 3 [.int] (L i.2.2.y.d)]]))],tag:=46,res:=λ i=>⟨false,[none],[.im (Value.int .i64 (idxG (λ z=>smB z i.2.1 i.2.2) i.1))]⟩ }
theorem frSeg_idx_ok:frSeg_idx_con.Ok Tryz.prog 70:=by
 refine fok (X:=⟨tt,[(45,isFreeM1_con)],[],19,[]⟩) mixed tt_ok (CTok.cons isFreeM1_ok (CTok.nil _)) Tryz.func70 (λ (i:(List (List V2))×Pq×Pq)=>[(2,.mk 3 (Nat) (λ x1=>{ tm:=[(0,.one (.one (.ext 1))),(1,.one (.one (.ext 2))),(7,.one (.one (.im (Value.int .i64 (((areasD i.1).length:Nat):Int))))),(8,.one (.one (.im (Value.int .i64 ((x1:Nat):Int)))))],en:=[(1,.view 39 [.sl 38 [.int,.int]] (areasD i.1) []),(2,.ro (.fn 45 [[.im (Value.bool (decide (i.2.1.x.z<0))),.sl 3 [.int] (L i.2.1.x.z.natAbs),.sl 3 [.int] (L i.2.1.x.d),.im (Value.bool (decide (i.2.1.y.z<0))),.sl 3 [.int] (L i.2.1.y.z.natAbs),.sl 3 [.int] (L i.2.1.y.d)],[.im (Value.bool (decide (i.2.2.x.z<0))),.sl 3 [.int] (L i.2.2.x.z.natAbs),.sl 3 [.int] (L i.2.2.x.d),.im (Value.bool (decide (i.2.2.y.z<0))),.sl 3 [.int] (L i.2.2.y.z.natAbs),.sl 3 [.int] (L i.2.2.y.d)]]) [])] }) (λ x1=>x1<=i.1.length/\∀ j,j<x1->(λ z=>smB z i.2.1 i.2.2) (i.1.getD j [])=false) (λ x1=>i.1.length-x1) (λ _=>[]))]) ?_
 rintro ⟨ar,p,q⟩ hpre
 have hpre:ar.length<=9223372036854775807/\(∀ z ∈ ar,isPoly z=true):=hpre
 refine by_nf (q:=(∃ x1:Nat,(x1<=ar.length/\∀ j,j<x1->(λ z=>smB z p q) (ar.getD j [])=false)/\((rf (vI (nI ((areasD ar).length))))/\(vI (0:Int)=vI (nI x1))/\(rf (areasD ar))/\((.fn 45 [[.im (Value.bool (decide (p.x.z<0))),.sl 3 [.int] (L p.x.z.natAbs),.sl 3 [.int] (L p.x.d),.im (Value.bool (decide (p.y.z<0))),.sl 3 [.int] (L p.y.z.natAbs),.sl 3 [.int] (L p.y.d)],[.im (Value.bool (decide (q.x.z<0))),.sl 3 [.int] (L q.x.z.natAbs),.sl 3 [.int] (L q.x.d),.im (Value.bool (decide (q.y.z<0))),.sl 3 [.int] (L q.y.z.natAbs),.sl 3 [.int] (L q.y.d)]]:RO)=.fn 45 [[.im (Value.bool (decide (p.x.z<0))),.sl 3 [.int] (L p.x.z.natAbs),.sl 3 [.int] (L p.x.d),.im (Value.bool (decide (p.y.z<0))),.sl 3 [.int] (L p.y.z.natAbs),.sl 3 [.int] (L p.y.d)],[.im (Value.bool (decide (q.x.z<0))),.sl 3 [.int] (L q.x.z.natAbs),.sl 3 [.int] (L q.x.d),.im (Value.bool (decide (q.y.z<0))),.sl 3 [.int] (L q.y.z.natAbs),.sl 3 [.int] (L q.y.d)]])))/\∀ x1:Nat,(x1<=ar.length/\∀ j,j<x1->(λ z=>smB z p q) (ar.getD j [])=false)->(((decide ((nI x1)<(nI ((areasD ar).length))))=true->((0<=(nI x1)/\(nI x1)<((areasD ar).length:Int))/\((x1<(areasD ar).length)/\(∃ i1:(List V2)×Pq×Pq,[DA.one (DC.sl 38 [.int,.int] (((((areasD ar).getD x1 []).getD 0 (.int 0))).r)),DA.one (DC.ro (.ptr [.im (Value.bool (decide (p.x.z<0))),.sl 3 [.int] (L p.x.z.natAbs),.sl 3 [.int] (L p.x.d),.im (Value.bool (decide (p.y.z<0))),.sl 3 [.int] (L p.y.z.natAbs),.sl 3 [.int] (L p.y.d)])),DA.one (DC.ro (.ptr [.im (Value.bool (decide (q.x.z<0))),.sl 3 [.int] (L q.x.z.natAbs),.sl 3 [.int] (L q.x.d),.im (Value.bool (decide (q.y.z<0))),.sl 3 [.int] (L q.y.z.natAbs),.sl 3 [.int] (L q.y.d)]))]=isFreeM1_con.args i1/\isFreeM1_con.pre i1/\(((smB i1.1 i1.2.1 i1.2.2)=true->((vI (nI x1)=vI (idxG (λ z=>smB z p q) ar))))/\((smB i1.1 i1.2.1 i1.2.2)=false->(∃ y2:Nat,(y2<=ar.length/\∀ j,j<y2->(λ z=>smB z p q) (ar.getD j [])=false)/\(ar.length-y2<ar.length-x1)/\((rf (vI (nI ((areasD ar).length))))/\(vI (wR ((nI x1)+(1:Int)))=vI (nI y2))/\(rf (areasD ar))/\((.fn 45 [[.im (Value.bool (decide (p.x.z<0))),.sl 3 [.int] (L p.x.z.natAbs),.sl 3 [.int] (L p.x.d),.im (Value.bool (decide (p.y.z<0))),.sl 3 [.int] (L p.y.z.natAbs),.sl 3 [.int] (L p.y.d)],[.im (Value.bool (decide (q.x.z<0))),.sl 3 [.int] (L q.x.z.natAbs),.sl 3 [.int] (L q.x.d),.im (Value.bool (decide (q.y.z<0))),.sl 3 [.int] (L q.y.z.natAbs),.sl 3 [.int] (L q.y.d)]]:RO)=.fn 45 [[.im (Value.bool (decide (p.x.z<0))),.sl 3 [.int] (L p.x.z.natAbs),.sl 3 [.int] (L p.x.d),.im (Value.bool (decide (p.y.z<0))),.sl 3 [.int] (L p.y.z.natAbs),.sl 3 [.int] (L p.y.d)],[.im (Value.bool (decide (q.x.z<0))),.sl 3 [.int] (L q.x.z.natAbs),.sl 3 [.int] (L q.x.d),.im (Value.bool (decide (q.y.z<0))),.sl 3 [.int] (L q.y.z.natAbs),.sl 3 [.int] (L q.y.d)]])))))))))/\((decide ((nI x1)<(nI ((areasD ar).length))))=false->((vI (-1:Int)=vI (idxG (λ z=>smB z p q) ar)))))) (by kernel_rfl) ?_
 delta vI wR nI
 have hal:=areasD_length ar
 refine ⟨⟨0,by
  exact ⟨Nat.zero_le _,λ j hj=>absurd hj (Nat.not_lt_zero j)⟩,?_⟩,?_⟩
 ·refine ⟨rfl,?_,rfl,?_⟩
  ·rfl
  rfl
 intro (k:Nat) hki1
 have hki1:k<=ar.length/\∀ j,j<k->(λ z=>smB z p q) (ar.getD j [])=false:=hki1
 refine And.symm ⟨λ c7=>?_,λ c7=>?_⟩
 ·try simp only [nrm] at c7
  rw [idxG_none (d:=[]) (λ j hj=>hki1.2 j (by omega))]
 try simp only [nrm] at c7
 refine ao (by first|omega) λ o8=>?_
 refine ao (by first|omega) λ o9=>?_
 refine ⟨(ar.getD k [],p,q),by
  rw [areasD_at (by omega)];rfl,by
  exact hpre.2 _ (by simp [List.getD,show k<ar.length by omega]),?_⟩
 refine ⟨λ c13=>?_,λ c13=>?_⟩
 ·replace c13:(smB (ar.getD k []) p q)=true:=c13
  try simp only [nrm] at c13
  rw [idxG_at (d:=[]) (by omega) hki1.2 (by simpa using c13)]
 replace c13:(smB (ar.getD k []) p q)=false:=c13
 try simp only [nrm] at c13
 refine ⟨k+1,by
  exact ⟨by omega,lt_step hki1.2 (by simpa using c13)⟩,by
  omega,?_⟩
 refine ⟨rfl,?_,rfl,?_⟩
 ·exact vint (wrap64 (by omega) (by omega))
 rfl
def frSeg_con:Con:={ ι:=(List (List V2))×Pq×Pq,pre:=λ i=>i.1.length<=9223372036854775807/\(∀ z ∈ i.1,isPoly z=true),args:=λ i=>[.one (.sl 39 [.sl 38 [.int,.int]] (areasD i.1)),.one (.ro (.fn 45 [[.im (Value.bool (decide (i.2.1.x.z<0))),.sl 3 [.int] (L i.2.1.x.z.natAbs),.sl 3 [.int] (L i.2.1.x.d),.im (Value.bool (decide (i.2.1.y.z<0))),.sl 3 [.int] (L i.2.1.y.z.natAbs),.sl 3 [.int] (L i.2.1.y.d)],[.im (Value.bool (decide (i.2.2.x.z<0))),.sl 3 [.int] (L i.2.2.x.z.natAbs),.sl 3 [.int] (L i.2.2.x.d),.im (Value.bool (decide (i.2.2.y.z<0))),.sl 3 [.int] (L i.2.2.y.z.natAbs),.sl 3 [.int] (L i.2.2.y.d)]]))],tag:=46,res:=λ i=>⟨false,[none],[.im (Value.bool (i.1.any (λ z=>smB z i.2.1 i.2.2)))]⟩ }
theorem frSeg_ok:frSeg_con.Ok Tryz.prog 44:=by
 refine fok (X:=⟨tt,[(70,frSeg_idx_con)],[],9,[]⟩) mixed tt_ok (CTok.cons frSeg_idx_ok (CTok.nil _)) Tryz.func44 (λ _=>[]) ?_
 rintro ⟨ar,p,q⟩ hpre
 have hpre:ar.length<=9223372036854775807/\(∀ z ∈ ar,isPoly z=true):=hpre
 refine by_nf (q:=∃ i1:(List (List V2))×Pq×Pq,[DA.one (DC.sl 39 [.sl 38 [.int,.int]] (areasD ar)),DA.one (DC.ro (.fn 45 [[.im (Value.bool (decide (p.x.z<0))),.sl 3 [.int] (L p.x.z.natAbs),.sl 3 [.int] (L p.x.d),.im (Value.bool (decide (p.y.z<0))),.sl 3 [.int] (L p.y.z.natAbs),.sl 3 [.int] (L p.y.d)],[.im (Value.bool (decide (q.x.z<0))),.sl 3 [.int] (L q.x.z.natAbs),.sl 3 [.int] (L q.x.d),.im (Value.bool (decide (q.y.z<0))),.sl 3 [.int] (L q.y.z.natAbs),.sl 3 [.int] (L q.y.d)]]))]=frSeg_idx_con.args i1/\frSeg_idx_con.pre i1/\((Value.bool (decide ((idxG (λ z=>smB z i1.2.1 i1.2.2) i1.1)≥(0:Int)))=Value.bool (ar.any (λ z=>smB z p q))))) (by kernel_rfl) ?_
 refine ⟨(ar,p,q),by
  rfl,by
  exact hpre,?_⟩
 exact congrArg Value.bool (idxG_any _ _)
def spMove_con:Con:={ ι:=Bool×(V2×V2)×(List (List V2))×Pq×Pq,pre:=λ i=>(∀ z ∈ i.2.2.1,isPoly z=true)/\i.2.2.1.length<=1048576/\bxOk i.2.1,args:=λ i=>[.agg [.im (.bool i.1),.im (.int .i64 i.2.1.1.1),.im (.int .i64 i.2.1.1.2),.im (.int .i64 i.2.1.2.1),.im (.int .i64 i.2.1.2.2),.sl 39 [.sl 38 [.int,.int]] (areasD i.2.2.1)],.agg [.im (.bool (decide (i.2.2.2.1.x.z<0))),.sl 3 [.int] (L i.2.2.2.1.x.z.natAbs),.sl 3 [.int] (L i.2.2.2.1.x.d),.im (.bool (decide (i.2.2.2.1.y.z<0))),.sl 3 [.int] (L i.2.2.2.1.y.z.natAbs),.sl 3 [.int] (L i.2.2.2.1.y.d)],.agg [.im (.bool (decide (i.2.2.2.2.x.z<0))),.sl 3 [.int] (L i.2.2.2.2.x.z.natAbs),.sl 3 [.int] (L i.2.2.2.2.x.d),.im (.bool (decide (i.2.2.2.2.y.z<0))),.sl 3 [.int] (L i.2.2.2.2.y.z.natAbs),.sl 3 [.int] (L i.2.2.2.2.y.d)]],res:=λ i=>⟨false,[none],[.im (Value.bool (i.1 && (freeQ i.2.1 i.2.2.1 i.2.2.2.1 && (freeQ i.2.1 i.2.2.1 i.2.2.2.2 && !(smF i.2.2.1 i.2.2.2.1 i.2.2.2.2)))))]⟩ }
theorem spMove_ok:spMove_con.Ok Tryz.prog 24:=by
 refine fok (X:=⟨tt,[(43,spFree_con),(44,frSeg_con)],[],22,[]⟩) mixed tt_ok (CTok.cons spFree_ok (CTok.cons frSeg_ok (CTok.nil _))) Tryz.func24 (λ _=>[]) ?_
 rintro ⟨o,b,ar,p,q⟩ hpre
 have hpre:(∀ z ∈ ar,isPoly z=true)/\ar.length<=1048576/\bxOk b:=hpre
 refine by_nf (q:=∃ i1:Bool×(V2×V2)×(List (List V2))×Pq,[DA.agg [cB o,cI b.1.1,cI b.1.2,cI b.2.1,cI b.2.2,DC.sl 39 [.sl 38 [.int,.int]] (areasD ar)],dP p]=spFree_con.args i1/\spFree_con.pre i1/\(((i1.1 && freeQ i1.2.1 i1.2.2.1 i1.2.2.2)=true->(∃ i2:Bool×(V2×V2)×(List (List V2))×Pq,[DA.agg [cB o,cI b.1.1,cI b.1.2,cI b.2.1,cI b.2.2,DC.sl 39 [.sl 38 [.int,.int]] (areasD ar)],dP q]=spFree_con.args i2/\spFree_con.pre i2/\(((i2.1 && freeQ i2.2.1 i2.2.2.1 i2.2.2.2)=true->(∃ i3:(List (List V2))×Pq×Pq,[DA.one (DC.sl 39 [.sl 38 [.int,.int]] (areasD ar)),DA.one (DC.ro (.fn 45 [[.im (Value.bool (decide (p.x.z<0))),.sl 3 [.int] (L p.x.z.natAbs),.sl 3 [.int] (L p.x.d),.im (Value.bool (decide (p.y.z<0))),.sl 3 [.int] (L p.y.z.natAbs),.sl 3 [.int] (L p.y.d)],[.im (Value.bool (decide (q.x.z<0))),.sl 3 [.int] (L q.x.z.natAbs),.sl 3 [.int] (L q.x.d),.im (Value.bool (decide (q.y.z<0))),.sl 3 [.int] (L q.y.z.natAbs),.sl 3 [.int] (L q.y.d)]]))]=frSeg_con.args i3/\frSeg_con.pre i3/\((Value.bool (!(i3.1.any (λ z=>smB z i3.2.1 i3.2.2)))=Value.bool (o && (freeQ b ar p && (freeQ b ar q && !(smF ar p q))))))))/\((i2.1 && freeQ i2.2.1 i2.2.2.1 i2.2.2.2)=false->((Value.bool false=Value.bool (o && (freeQ b ar p && (freeQ b ar q && !(smF ar p q))))))))))/\((i1.1 && freeQ i1.2.1 i1.2.2.1 i1.2.2.2)=false->((Value.bool false=Value.bool (o && (freeQ b ar p && (freeQ b ar q && !(smF ar p q))))))))) (by kernel_rfl) ?_
 obtain ⟨hg,hal,hb⟩:=hpre
 refine ⟨(o,b,ar,p),by
  rfl,by
  exact ⟨hg,hal,hb⟩,?_⟩
 refine And.symm ⟨λ c4=>?_,λ c4=>?_⟩
 ·replace c4:(o && freeQ b ar p)=false:=c4
  try simp only [nrm] at c4
  exact congrArg Value.bool (by unfold smF;cases o <;> cases hq:freeQ b ar p <;> simp_all)
 replace c4:(o && freeQ b ar p)=true:=c4
 try simp only [nrm] at c4
 refine ⟨(o,b,ar,q),by
  rfl,by
  exact ⟨hg,hal,hb⟩,?_⟩
 refine And.symm ⟨λ c8=>?_,λ c8=>?_⟩
 ·replace c8:(o && freeQ b ar q)=false:=c8
  try simp only [nrm] at c8
  exact congrArg Value.bool (by unfold smF;cases o <;> cases hq:freeQ b ar p <;> simp_all)
 replace c8:(o && freeQ b ar q)=true:=c8
 try simp only [nrm] at c8
 refine ⟨(ar,p,q),by
  rfl,by
  show ar.length<=9223372036854775807/\(∀ z ∈ ar,isPoly z=true)
  exact ⟨by omega,hg⟩,?_⟩
 exact congrArg Value.bool (by unfold smF;cases o <;> cases hq:freeQ b ar p <;> simp_all)
theorem blk_le (s:Scn) (h:Int) (hz:scnSz s):(blk s h).length<=1048576:=by
 have h1:s.obst.length<=1048576:=by have:=hz.2.1;omega
 unfold blk
 split
 ·simp
 ·have:=blkT_len s h s.obst.length
  rw [areasD_length] at this
  omega
theorem moveS_eq {s:Scn} {h:Int} {p q:PtD} (hp:okP p=true) (hq:okP q=true):moveS s h p q=(limitsOk s h && (freeQ (limitsBox s h) (blk s h) (pqR p) && (freeQ (limitsBox s h) (blk s h) (pqR q) && !(smF (blk s h) (pqR p) (pqR q))))):=by
 unfold moveS
 cases hl:limitsOk s h with
 | false=>rfl
 | true=>
  have hb:=blk_poly (limitsOk_val hl)
  unfold moveA
  rw [freeA_eq hb,freeA_eq hb,hp,hq,smF_eq hb hp hq,Bool.true_and,Bool.true_and,Bool.true_and,Bool.true_and]
  cases smF (blk s h) (pqR p) (pqR q) <;> cases freeQ (limitsBox s h) (blk s h) (pqR p) <;> cases freeQ (limitsBox s h) (blk s h) (pqR q) <;> rfl
theorem moveS_bad {s:Scn} {h:Int} {p q:PtD} (hp:(okP p && okP q)=false):moveS s h p q=false:=by
 unfold moveS moveA freeA inBoxB
 rw [Bool.and_eq_false_iff] at hp
 rcases hp with hp|hp <;> rw [hp] <;> simp
theorem blk_polyA (s:Scn) (h:Int):∀ z ∈ blk s h,isPoly z=true:=by
 cases hv:(validScn s && inR h 0 3) with
 | true=>exact blk_poly hv
 | false=>
  intro z hz
  rw [blk_no (by rw [robot_nil hv];rfl)] at hz
  simp at hz
def iFreeMove_con:Con:={ ι:=Scn×Int×PtD×PtD,pre:=λ i=>scnSz i.1/\i.2.2.1.has/\i.2.2.2.has,args:=λ i=>[.agg [.im (.int .i64 i.1.low.1),.im (.int .i64 i.1.low.2),.im (.int .i64 i.1.high.1),.im (.int .i64 i.1.high.2),.sl 38 [.int,.int] (vecsD i.1.robot),.sl 39 [.sl 38 [.int,.int]] (areasD i.1.obst),.sl 38 [.int,.int] (vecsD i.1.tables)],.one (.im (.int .i64 i.2.1)),.agg [.im (.bool i.2.2.1.x.neg),.sl 3 [.int] i.2.2.1.x.num,.sl 3 [.int] i.2.2.1.x.den,.im (.bool i.2.2.1.y.neg),.sl 3 [.int] i.2.2.1.y.num,.sl 3 [.int] i.2.2.1.y.den],.agg [.im (.bool i.2.2.2.x.neg),.sl 3 [.int] i.2.2.2.x.num,.sl 3 [.int] i.2.2.2.x.den,.im (.bool i.2.2.2.y.neg),.sl 3 [.int] i.2.2.2.y.num,.sl 3 [.int] i.2.2.2.y.den]],res:=λ i=>⟨false,[none],[.im (Value.bool (moveS i.1 i.2.1 i.2.2.1 i.2.2.2))]⟩ }
theorem iFreeMove_ok:iFreeMove_con.Ok Tryz.prog 9:=by
 refine fok (X:=⟨tt,[(22,arePoints_con),(23,spaceOf_con),(24,spMove_con)],[],21,[]⟩) mixed tt_ok (CTok.cons arePoints_ok (CTok.cons spaceOf_ok (CTok.cons spMove_ok (CTok.nil _)))) Tryz.func9 (λ _=>[]) ?_
 rintro ⟨s,h,p,q⟩ hpre
 have hpre:scnSz s/\p.has/\q.has:=hpre
 refine by_nf (q:=∃ i1:(List (List Dat)),[DA.one (DC.sl 48 [.bool,.sl 3 [.int],.sl 3 [.int],.bool,.sl 3 [.int],.sl 3 [.int]] ([[Dat.bool p.x.neg,Dat.sl p.x.num,Dat.sl p.x.den,Dat.bool p.y.neg,Dat.sl p.y.num,Dat.sl p.y.den],[Dat.bool q.x.neg,Dat.sl q.x.num,Dat.sl q.x.den,Dat.bool q.y.neg,Dat.sl q.y.num,Dat.sl q.y.den]]:List (List Dat)))]=arePoints_con.args i1/\arePoints_con.pre i1/\(((!(i1.any (λ r=>!(okP (ptOf r)))))=true->(∃ i2:Scn×Int,[DA.agg [cI s.low.1,cI s.low.2,cI s.high.1,cI s.high.2,DC.sl 38 [.int,.int] (vecsD s.robot),DC.sl 39 [.sl 38 [.int,.int]] (areasD s.obst),DC.sl 38 [.int,.int] (vecsD s.tables)],DA.one (cI h)]=spaceOf_con.args i2/\spaceOf_con.pre i2/\(∃ i3:Bool×(V2×V2)×(List (List V2))×Pq×Pq,[DA.agg [cB (limitsOk i2.1 i2.2),cI ((limitsBox i2.1 i2.2).1.1),cI ((limitsBox i2.1 i2.2).1.2),cI ((limitsBox i2.1 i2.2).2.1),cI ((limitsBox i2.1 i2.2).2.2),DC.sl 39 [.sl 38 [.int,.int]] (areasD (blk i2.1 i2.2))],DA.agg [cB p.x.neg,cS p.x.num,cS p.x.den,cB p.y.neg,cS p.y.num,cS p.y.den],DA.agg [cB q.x.neg,cS q.x.num,cS q.x.den,cB q.y.neg,cS q.y.num,cS q.y.den]]=spMove_con.args i3/\spMove_con.pre i3/\((Value.bool (i3.1 && (freeQ i3.2.1 i3.2.2.1 i3.2.2.2.1 && (freeQ i3.2.1 i3.2.2.1 i3.2.2.2.2 && !(smF i3.2.2.1 i3.2.2.2.1 i3.2.2.2.2))))=Value.bool (moveS s h p q))))))/\((!(i1.any (λ r=>!(okP (ptOf r)))))=false->((Value.bool false=Value.bool (moveS s h p q)))))) (by kernel_rfl) ?_
 obtain ⟨hz,hh⟩:=hpre
 have hbl:=blk_le s h hz
 have hlb:=limits_bd s h
 refine ⟨([[Dat.bool p.x.neg,Dat.sl p.x.num,Dat.sl p.x.den,Dat.bool p.y.neg,Dat.sl p.y.num,Dat.sl p.y.den],[Dat.bool q.x.neg,Dat.sl q.x.num,Dat.sl q.x.den,Dat.bool q.y.neg,Dat.sl q.y.num,Dat.sl q.y.den]]:List (List Dat)),by
  rfl,by
  try dsimp only [arePoints_con]
  exact ⟨by show 2<=_;decide,two_has hh.1 hh.2⟩,?_⟩
 refine And.symm ⟨λ c4=>?_,λ c4=>?_⟩
 ·try dsimp only at c4
  try simp only [nrm] at c4
  have q0:(okP p && okP q)=false:=by
   have hc:=(any2 p q).symm.trans c4
   cases h1:okP p <;> cases h2:okP q <;> simp_all
  have hE:=moveS_bad (s:=s) (h:=h) q0
  rw [hE]
 try dsimp only at c4
 try simp only [nrm] at c4
 have q0:okP p=true/\okP q=true:=by have h:=(any2 p q).symm.trans c4;simpa using h
 obtain ⟨e1,e2,e3,e4,e5,e6,e7,e8⟩:=pqR_ok hh.1 q0.1
 obtain ⟨f1,f2,f3,f4,f5,f6,f7,f8⟩:=pqR_ok hh.2 q0.2
 have hE:=moveS_eq (s:=s) (h:=h) q0.1 q0.2
 refine ⟨(s,h),by
  rfl,by
  exact hz,?_⟩
 refine ⟨(limitsOk s h,limitsBox s h,blk s h,pqR p,pqR q),by
  rw [e1,e2,e3,e4,e5,e6,f1,f2,f3,f4,f5,f6];rfl,by
  exact ⟨blk_polyA s h,hbl,hlb⟩,?_⟩
 rw [hE]
theorem moveA_hit {b:V2×V2} {ar:List (List V2)} {p q:PtD} {k:Nat} (hk:k<ar.length) (h:smZ (ar.getD k []) p q=true):moveA b ar p q=false:=by
 have:(ar.any λ z=>smZ z p q)=true:=anyF_hit (d:=[]) hk h
 unfold moveA;rw [this];rfl
theorem moveA_none {b:V2×V2} {ar:List (List V2)} {p q:PtD} (h:∀ j,j<ar.length->smZ (ar.getD j []) p q=false):moveA b ar p q=(freeA b ar p && freeA b ar q):=by
 have:(ar.any λ z=>smZ z p q)=false:=anyF_none (d:=[]) h
 unfold moveA;rw [this];rfl
def l11Move_con:Con:={ ι:=(V2×V2)×(List (List V2))×PtD×PtD,pre:=λ i=>(i.2.2.1.has/\i.2.2.2.has)/\i.2.1.length<=1048576/\bxOk i.1,args:=λ i=>[.agg [.im (.int .i64 i.1.1.1),.im (.int .i64 i.1.1.2),.im (.int .i64 i.1.2.1),.im (.int .i64 i.1.2.2)],.one (.sl 39 [.sl 38 [.int,.int]] (areasD i.2.1)),.agg [.im (.bool i.2.2.1.x.neg),.sl 3 [.int] i.2.2.1.x.num,.sl 3 [.int] i.2.2.1.x.den,.im (.bool i.2.2.1.y.neg),.sl 3 [.int] i.2.2.1.y.num,.sl 3 [.int] i.2.2.1.y.den],.agg [.im (.bool i.2.2.2.x.neg),.sl 3 [.int] i.2.2.2.x.num,.sl 3 [.int] i.2.2.2.x.den,.im (.bool i.2.2.2.y.neg),.sl 3 [.int] i.2.2.2.y.num,.sl 3 [.int] i.2.2.2.y.den]],res:=λ i=>⟨false,[none],[.im (Value.bool (moveA i.1 i.2.1 i.2.2.1 i.2.2.2))]⟩ }
theorem l11Move_ok:l11Move_con.Ok Tryz.prog 16:=by
 refine fok (X:=⟨tt,[(33,sSegMeets_con),(34,l11Free_con)],[],32,[]⟩) mixed tt_ok (CTok.cons sSegMeets_ok (CTok.cons l11Free_ok (CTok.nil _))) Tryz.func16 (λ (i:(V2×V2)×(List (List V2))×PtD×PtD)=>[(2,.mk 13 (Nat) (λ x1=>{ tm:=[(1,.one (.one (.ext 1))),(4,.one (.one (.bp 2 0))),(6,.one (.one (.bp 3 0))),(7,.one (.one (.bp 8 0))),(11,.one (.one (.ext 1))),(13,.one (.one (.im (Value.int .i64 ((x1:Nat):Int))))),(12,.one (.one (.im (Value.int .i64 ((i.2.1.length:Nat):Int)))))],en:=[(2,.box [.im (Value.int .i64 i.1.1.1),.im (Value.int .i64 i.1.1.2),.im (Value.int .i64 i.1.2.1),.im (Value.int .i64 i.1.2.2)]),(3,.box [.im (Value.bool i.2.2.1.x.neg),.ext 4,.ext 5,.im (Value.bool i.2.2.1.y.neg),.ext 6,.ext 7]),(8,.box [.im (Value.bool i.2.2.2.x.neg),.ext 9,.ext 10,.im (Value.bool i.2.2.2.y.neg),.ext 11,.ext 12]),(1,.view 39 [.sl 38 [.int,.int]] (areasD i.2.1) []),(4,.view 3 [.int] i.2.2.1.x.num []),(5,.view 3 [.int] i.2.2.1.x.den []),(6,.view 3 [.int] i.2.2.1.y.num []),(7,.view 3 [.int] i.2.2.1.y.den []),(9,.view 3 [.int] i.2.2.2.x.num []),(10,.view 3 [.int] i.2.2.2.x.den []),(11,.view 3 [.int] i.2.2.2.y.num []),(12,.view 3 [.int] i.2.2.2.y.den [])] }) (λ x1=>x1<=i.2.1.length/\∀ j,j<x1->smZ (i.2.1.getD j []) i.2.2.1 i.2.2.2=false) (λ x1=>i.2.1.length-x1) (λ _=>[]))]) ?_
 rintro ⟨b,ar,p,q⟩ hpre
 have hpre:(p.has/\q.has)/\ar.length<=1048576/\bxOk b:=hpre
 refine by_nf (q:=(∃ x1:Nat,(x1<=ar.length/\∀ j,j<x1->smZ (ar.getD j []) p q=false)/\((vI (0:Int)=vI (nI x1))/\(vI (nI ((areasD ar).length))=vI (nI ar.length))/\(rf (vI b.1.1))/\(rf (vI b.1.2))/\(rf (vI b.2.1))/\(rf (vI b.2.2))/\(rf (Value.bool p.x.neg))/\(rf (Value.bool p.y.neg))/\(rf (Value.bool q.x.neg))/\(rf (Value.bool q.y.neg))/\(rf (areasD ar))/\(rf (p.x.num))/\(rf (p.x.den))/\(rf (p.y.num))/\(rf (p.y.den))/\(rf (q.x.num))/\(rf (q.x.den))/\(rf (q.y.num))/\(rf (q.y.den))))/\∀ x1:Nat,(x1<=ar.length/\∀ j,j<x1->smZ (ar.getD j []) p q=false)->(((decide ((nI x1)<(nI ar.length)))=true->((0<=(nI x1)/\(nI x1)<((areasD ar).length:Int))/\((x1<(areasD ar).length)/\(∃ i1:(List V2)×PtD×PtD,[DA.one (DC.sl 38 [.int,.int] (((((areasD ar).getD x1 []).getD 0 (.int 0))).r)),DA.agg [cB p.x.neg,cS p.x.num,cS p.x.den,cB p.y.neg,cS p.y.num,cS p.y.den],DA.agg [cB q.x.neg,cS q.x.num,cS q.x.den,cB q.y.neg,cS q.y.num,cS q.y.den]]=sSegMeets_con.args i1/\sSegMeets_con.pre i1/\(((smZ i1.1 i1.2.1 i1.2.2)=true->((Value.bool false=Value.bool (moveA b ar p q))))/\((smZ i1.1 i1.2.1 i1.2.2)=false->(∃ y2:Nat,(y2<=ar.length/\∀ j,j<y2->smZ (ar.getD j []) p q=false)/\(ar.length-y2<ar.length-x1)/\((vI (wR ((nI x1)+(1:Int)))=vI (nI y2))/\(rf (vI (nI ar.length)))/\(rf (vI b.1.1))/\(rf (vI b.1.2))/\(rf (vI b.2.1))/\(rf (vI b.2.2))/\(rf (Value.bool p.x.neg))/\(rf (Value.bool p.y.neg))/\(rf (Value.bool q.x.neg))/\(rf (Value.bool q.y.neg))/\(rf (areasD ar))/\(rf (p.x.num))/\(rf (p.x.den))/\(rf (p.y.num))/\(rf (p.y.den))/\(rf (q.x.num))/\(rf (q.x.den))/\(rf (q.y.num))/\(rf (q.y.den))))))))))/\((decide ((nI x1)<(nI ar.length)))=false->(∃ i2:(V2×V2)×(List (List V2))×PtD,[DA.agg [cI b.1.1,cI b.1.2,cI b.2.1,cI b.2.2],DA.one (DC.sl 39 [.sl 38 [.int,.int]] (areasD ar)),DA.agg [cB p.x.neg,cS p.x.num,cS p.x.den,cB p.y.neg,cS p.y.num,cS p.y.den]]=l11Free_con.args i2/\l11Free_con.pre i2/\(((freeA i2.1 i2.2.1 i2.2.2)=true->(∃ i3:(V2×V2)×(List (List V2))×PtD,[DA.agg [cI b.1.1,cI b.1.2,cI b.2.1,cI b.2.2],DA.one (DC.sl 39 [.sl 38 [.int,.int]] (areasD ar)),DA.agg [cB q.x.neg,cS q.x.num,cS q.x.den,cB q.y.neg,cS q.y.num,cS q.y.den]]=l11Free_con.args i3/\l11Free_con.pre i3/\((Value.bool (freeA i3.1 i3.2.1 i3.2.2)=Value.bool (moveA b ar p q)))))/\((freeA i2.1 i2.2.1 i2.2.2)=false->((Value.bool false=Value.bool (moveA b ar p q))))))))) (by kernel_rfl) ?_
 delta vI wR nI
 obtain ⟨⟨hp,hq⟩,hbl,hb⟩:=hpre
 have hal:=areasD_length ar
 refine ⟨⟨0,by
  exact ⟨Nat.zero_le _,λ j hj=>absurd hj (Nat.not_lt_zero j)⟩,?_⟩,?_⟩
 ·refine ⟨?_,?_,rfl,rfl,rfl,rfl,rfl,rfl,rfl,rfl,rfl,rfl,rfl,rfl,rfl,rfl,rfl,rfl,rfl⟩
  ·rfl
  rw [hal]
 intro (k:Nat) hki1
 have hki1:k<=ar.length/\∀ j,j<k->smZ (ar.getD j []) p q=false:=hki1
 refine And.symm ⟨λ c22=>?_,λ c22=>?_⟩
 ·try simp only [nrm] at c22
  have hE:=moveA_none (b:=b) (p:=p) (q:=q) (ar:=ar) (λ j hj=>hki1.2 j (by omega))
  refine ⟨(b,ar,p),by
   rfl,by
   exact ⟨hp,hbl,hb⟩,?_⟩
  refine And.symm ⟨λ c55=>?_,λ c55=>?_⟩
  ·replace c55:(freeA b ar p)=false:=c55
   try simp only [nrm] at c55
   rw [hE,c55];rfl
  replace c55:(freeA b ar p)=true:=c55
  try simp only [nrm] at c55
  refine ⟨(b,ar,q),by
   rfl,by
   exact ⟨hq,hbl,hb⟩,?_⟩
  rw [hE,c55];rfl
 try simp only [nrm] at c22
 refine ao (by omega) λ o23=>?_
 refine ao (by omega) λ o24=>?_
 refine ⟨(ar.getD k [],p,q),by
  rw [areasD_at (by omega)];rfl,by
  exact ⟨hp,hq⟩,?_⟩
 refine ⟨λ c28=>?_,λ c28=>?_⟩
 ·replace c28:(smZ (ar.getD k []) p q)=true:=c28
  try simp only [nrm] at c28
  have hE:=moveA_hit (b:=b) (show k<ar.length by omega) c28
  rw [hE]
 replace c28:(smZ (ar.getD k []) p q)=false:=c28
 try simp only [nrm] at c28
 refine ⟨k+1,by
  exact ⟨by omega,lt_step hki1.2 c28⟩,by
  omega,?_⟩
 refine ⟨?_,rfl,rfl,rfl,rfl,rfl,rfl,rfl,rfl,rfl,rfl,rfl,rfl,rfl,rfl,rfl,rfl,rfl,rfl⟩
 exact vint (wrap64 (by omega) (by omega))
def sFreeMove_con:Con:={ ι:=Scn×Int×PtD×PtD,pre:=λ i=>scnSz i.1/\i.2.2.1.has/\i.2.2.2.has,args:=λ i=>[.agg [.im (.int .i64 i.1.low.1),.im (.int .i64 i.1.low.2),.im (.int .i64 i.1.high.1),.im (.int .i64 i.1.high.2),.sl 38 [.int,.int] (vecsD i.1.robot),.sl 39 [.sl 38 [.int,.int]] (areasD i.1.obst),.sl 38 [.int,.int] (vecsD i.1.tables)],.one (.im (.int .i64 i.2.1)),.agg [.im (.bool i.2.2.1.x.neg),.sl 3 [.int] i.2.2.1.x.num,.sl 3 [.int] i.2.2.1.x.den,.im (.bool i.2.2.1.y.neg),.sl 3 [.int] i.2.2.1.y.num,.sl 3 [.int] i.2.2.1.y.den],.agg [.im (.bool i.2.2.2.x.neg),.sl 3 [.int] i.2.2.2.x.num,.sl 3 [.int] i.2.2.2.x.den,.im (.bool i.2.2.2.y.neg),.sl 3 [.int] i.2.2.2.y.num,.sl 3 [.int] i.2.2.2.y.den]],res:=λ i=>⟨false,[none],[.im (Value.bool (moveS i.1 i.2.1 i.2.2.1 i.2.2.2))]⟩ }
theorem sFreeMove_ok:sFreeMove_con.Ok Tryz.prog 6:=by
 refine fok (X:=⟨tt,[(15,sLim_con),(17,sBlk_con),(16,l11Move_con)],[],27,[]⟩) mixed tt_ok (CTok.cons sLim_ok (CTok.cons sBlk_ok (CTok.cons l11Move_ok (CTok.nil _)))) Tryz.func6 (λ _=>[]) ?_
 rintro ⟨s,h,p,q⟩ hpre
 have hpre:scnSz s/\p.has/\q.has:=hpre
 refine by_nf (q:=∃ i1:Scn×Int,[DA.agg [cI s.low.1,cI s.low.2,cI s.high.1,cI s.high.2,DC.sl 38 [.int,.int] (vecsD s.robot),DC.sl 39 [.sl 38 [.int,.int]] (areasD s.obst),DC.sl 38 [.int,.int] (vecsD s.tables)],DA.one (cI h)]=sLim_con.args i1/\sLim_con.pre i1/\(((limitsOk i1.1 i1.2)=true->(∃ i2:Scn×Int,[DA.agg [cI s.low.1,cI s.low.2,cI s.high.1,cI s.high.2,DC.sl 38 [.int,.int] (vecsD s.robot),DC.sl 39 [.sl 38 [.int,.int]] (areasD s.obst),DC.sl 38 [.int,.int] (vecsD s.tables)],DA.one (cI h)]=sBlk_con.args i2/\sBlk_con.pre i2/\(∃ i3:(V2×V2)×(List (List V2))×PtD×PtD,[DA.agg [cI ((limitsBox i1.1 i1.2).1.1),cI ((limitsBox i1.1 i1.2).1.2),cI ((limitsBox i1.1 i1.2).2.1),cI ((limitsBox i1.1 i1.2).2.2)],DA.one (DC.sl 39 [.sl 38 [.int,.int]] (areasD (blk i2.1 i2.2))),DA.agg [cB p.x.neg,cS p.x.num,cS p.x.den,cB p.y.neg,cS p.y.num,cS p.y.den],DA.agg [cB q.x.neg,cS q.x.num,cS q.x.den,cB q.y.neg,cS q.y.num,cS q.y.den]]=l11Move_con.args i3/\l11Move_con.pre i3/\((Value.bool (moveA i3.1 i3.2.1 i3.2.2.1 i3.2.2.2)=Value.bool (moveS s h p q))))))/\((limitsOk i1.1 i1.2)=false->((Value.bool false=Value.bool (moveS s h p q)))))) (by kernel_rfl) ?_
 obtain ⟨hz,hh⟩:=hpre
 have hbl:=blk_le s h hz
 have hlb:=limits_bd s h
 refine ⟨(s,h),by
  rfl,by
  exact hz,?_⟩
 refine And.symm ⟨λ c4=>?_,λ c4=>?_⟩
 ·replace c4:(limitsOk s h)=false:=c4
  try simp only [nrm] at c4
  unfold moveS;simp_all
 replace c4:(limitsOk s h)=true:=c4
 try simp only [nrm] at c4
 refine ⟨(s,h),by
  rfl,by
  exact hz,?_⟩
 refine ⟨((limitsBox s h),(blk s h),p,q),by
  rfl,by
  exact ⟨⟨hh.1,hh.2⟩,hbl,hlb⟩,?_⟩
 unfold moveS;simp_all
end Go.Proofs.YtlejeadlmpkffaaGreat
