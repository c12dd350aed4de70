import Derived.Test.YtppjhpglejehkaaGreatTtRkH
namespace Go.Proofs.YtppjhpglejehkaaGreat
set_option linter.unusedVariables false
set_option linter.unusedSimpArgs false
open Go.RowKit
def iValid_con:Con:={ ι:=Scn,pre:=fun i=>True,args:=fun i=>[.agg [.im (.int .i64 i.low.1),.im (.int .i64 i.low.2),.im (.int .i64 i.high.1),.im (.int .i64 i.high.2),.sl 31 [.int,.int] (vecsD i.robot),.sl 32 [.sl 31 [.int,.int]] (areasD i.obst),.sl 31 [.int,.int] (vecsD i.tables)]],res:=fun i=>⟨false,[none],[.im (Value.bool (validScn i))]⟩ }
theorem iValid_ok:iValid_con.Ok Tryz.prog 68:=genOwn_ok rfl ⟨_,Tryz.func68,by decide,rfl⟩ (fun _=>Nat.le_of_ble_eq_true rfl) (fun _=>rfl) (fun s=>[.im (.bool (validScn s))]) (fun _=>rfl) (fun _=>rfl) (fun i hp w us h=>by
 have h:RdRow w [.int,.int,.int,.int,.sl 31 [.int,.int],.sl 32 [.sl 31 [.int,.int]],.sl 31 [.int,.int]] (scnD i) us:=h
 have hl:=(RdRow.lens _ _ _ h).2
 rw [show valD (iValid_con.args i) us=[.agg us.toArray] from valD_one_agg hl]
 refine (IsValidScene_c i _ w (RdRow.scene h)).mono ?_
 rintro e w' ⟨rfl,hb⟩
 exact ⟨[.bool (validScn i)],rfl,Own.leaf (Fp.mk_bool _),hb⟩)
def sValid_con:Con:={ ι:=Scn,pre:=fun i=>True,args:=fun i=>[.agg [.im (.int .i64 i.low.1),.im (.int .i64 i.low.2),.im (.int .i64 i.high.1),.im (.int .i64 i.high.2),.sl 31 [.int,.int] (vecsD i.robot),.sl 32 [.sl 31 [.int,.int]] (areasD i.obst),.sl 31 [.int,.int] (vecsD i.tables)]],res:=fun i=>⟨false,[none],[.im (Value.bool (validScn i))]⟩ }
theorem sValid_ok:sValid_con.Ok Tryz.prog 64:=genOwn_ok rfl ⟨_,Tryz.func64,by decide,rfl⟩ (fun _=>Nat.le_of_ble_eq_true rfl) (fun _=>rfl) (fun s=>[.im (.bool (validScn s))]) (fun _=>rfl) (fun _=>rfl) (fun i hp w us h=>by
 have h:RdRow w [.int,.int,.int,.int,.sl 31 [.int,.int],.sl 32 [.sl 31 [.int,.int]],.sl 31 [.int,.int]] (scnD i) us:=h
 have hl:=(RdRow.lens _ _ _ h).2
 rw [show valD (sValid_con.args i) us=[.agg us.toArray] from valD_one_agg hl]
 refine (sIsValidScene_c i _ w (RdRow.scene h)).mono ?_
 rintro e w' ⟨rfl,hb⟩
 exact ⟨[.bool (validScn i)],rfl,Own.leaf (Fp.mk_bool _),hb⟩)
def sqV (v:V2):Int:=v.1*v.1+v.2*v.2
def reachT (l:List V2):Nat→Int
 | 0=>0
 | k+1=>max (reachT l k) (sqV (l.getD k (0,0)))
def reachZ (l:List V2):Int:=if isPoly l=true then reachT l l.length else 0
theorem sq_bd {a m:Int} (h1:-m≤a) (h2:a≤m):0≤a*a∧a*a≤m*m:=by
 have h:a.natAbs*a.natAbs≤m.natAbs*m.natAbs:=Nat.mul_le_mul (by omega) (by omega)
 have h' : ((a.natAbs*a.natAbs:Nat):Int)≤((m.natAbs*m.natAbs:Nat):Int):=by omega
 rw [Int.natAbs_mul_self,Int.natAbs_mul_self] at h'
 refine ⟨?_,h'⟩
 rw [← Int.natAbs_mul_self]
 exact Int.natCast_nonneg _
theorem sqV_bd {v:V2} (h:isVec v=true):(0≤v.1*v.1∧v.1*v.1≤1000000)∧0≤v.2*v.2∧v.2*v.2≤1000000:=by
 have b:=isVec_bd h
 exact ⟨sq_bd b.1 b.2.1,sq_bd b.2.2.1 b.2.2.2⟩
theorem sqV_wrap {v:V2} (h:isVec v=true):IntKind.i64.wrap (IntKind.i64.wrap (v.1*v.1)+IntKind.i64.wrap (v.2*v.2))=sqV v:=by
 have b:=sqV_bd h
 rw [wrap64 (x:=v.1*v.1) (by omega) (by omega),wrap64 (x:=v.2*v.2) (by omega) (by omega)]
 exact wrap64 (by omega) (by omega)
theorem reach_bd {l:List V2} (h:l.all isVec=true):∀ k,k≤l.length→0≤reachT l k∧reachT l k≤2000000
 | 0,_=>by unfold reachT;omega
 | k+1,hk=>by
  have ih:=reach_bd h k (by omega)
  have b:=sqV_bd (allVec_getD h (show k < l.length by omega))
  unfold reachT sqV
  omega
theorem reachZ_bd (l:List V2):0≤reachZ l∧reachZ l≤2000000:=by
 unfold reachZ
 split
 ·next h=>exact reach_bd (isPoly_len h).2.2 _ (Nat.le_refl _)
 ·omega
theorem reachZ_yes {l:List V2} (h:isPoly l=true):reachZ l=reachT l l.length:=by unfold reachZ;rw [if_pos h]
theorem reachZ_no {l:List V2} (h:isPoly l=false):reachZ l=0:=by unfold reachZ;rw [if_neg (by rw [h];simp)]
def roomB (r d:Int):Bool:=decide (d > 0) && decide (d*d > r)
def discB (s:Scn) (v:V2) (l:List V2):Bool:=dtB l (ptQ (ptV v)) (reachZ s.robot)
def roomL (s:Scn) (x y:Int):List Int:=[x - s.low.1,s.high.1 - x,y - s.low.2,s.high.2 - y]
def rwI (l:List Int):List (List Dat):=l.map fun n=>[Dat.int n]
theorem rwI_len (l:List Int):(rwI l).length=l.length:=by simp [rwI]
theorem rwI_at {l:List Int} {k:Nat} (hk:k < l.length):(((rwI l).getD k []).getD 0 (.int 0)).n=l.getD k 0:=by simp [rwI,List.getD,hk,Dat.n]
def canT (s:Scn) (v:V2):Bool:=validScn s && (isVec v && ((roomL s v.1 v.2).all (roomB (reachZ s.robot)) && !(s.obst.any (discB s v))))
theorem scn_room {s:Scn} (h:validScn s=true):(-200≤s.low.1∧s.low.1≤200)∧(-200≤s.low.2∧s.low.2≤200)∧(-200≤s.high.1∧s.high.1≤200)∧(-200≤s.high.2∧s.high.2≤200):=by
 simp only [validScn,Bool.and_eq_true,List.all_cons] at h
 have h1:=insB_bd h.1.1.1.1.1
 have h2:=insB_bd h.1.1.1.1.2.1
 omega
theorem roomL_w {s:Scn} {x y:Int} (h:validScn s=true) (h2:isVec (x,y)=true):[[Dat.int (IntKind.i64.wrap (x - s.low.1))],[Dat.int (IntKind.i64.wrap (s.high.1 - x))],[Dat.int (IntKind.i64.wrap (y - s.low.2))],[Dat.int (IntKind.i64.wrap (s.high.2 - y))]]=rwI (roomL s x y):=by
 have b:=scn_room h
 have c:=isVec_bd h2
 simp only at c
 rw [wrap64 (x:=x - s.low.1) (by omega) (by omega),wrap64 (x:=s.high.1 - x) (by omega) (by omega),wrap64 (x:=y - s.low.2) (by omega) (by omega),wrap64 (x:=s.high.2 - y) (by omega) (by omega)]
 rfl
theorem roomL_bd {s:Scn} {x y:Int} (h:validScn s=true) (h2:isVec (x,y)=true) {k:Nat} (hk:k < 4):-2000≤(roomL s x y).getD k 0∧(roomL s x y).getD k 0≤2000:=by
 have b:=scn_room h
 have c:=isVec_bd h2
 simp only at c
 have:k=0∨k=1∨k=2∨k=3:=by omega
 rcases this with rfl|rfl|rfl|rfl
 ·show -2000≤x - s.low.1∧x - s.low.1≤2000;omega
 ·show -2000≤s.high.1 - x∧s.high.1 - x≤2000;omega
 ·show -2000≤y - s.low.2∧y - s.low.2≤2000;omega
 ·show -2000≤s.high.2 - y∧s.high.2 - y≤2000;omega
theorem canT_no {s:Scn} {x y:Int} {k:Nat} (hk:k < 4) (h:roomB (reachZ s.robot) ((roomL s x y).getD k 0)=false):canT s (x,y)=false:=by
 have:(roomL s x y).all (roomB (reachZ s.robot))=false:=by
  rw [List.all_eq_false]
  exact ⟨(roomL s x y).getD k 0,by simp [List.getD,roomL,show k < 4 from hk],by rw [h];simp⟩
 unfold canT;rw [this];simp
theorem canT_yes {s:Scn} {x y:Int} (h1:validScn s=true) (h2:isVec (x,y)=true) (h:∀ j,j < 4→roomB (reachZ s.robot) ((roomL s x y).getD j 0)=true):canT s (x,y)=!(s.obst.any (discB s (x,y))):=by
 have:(roomL s x y).all (roomB (reachZ s.robot))=true:=by
  rw [List.all_eq_true]
  intro z hz
  obtain ⟨j,hj,rfl⟩:=List.getElem_of_mem hz
  have:=h j hj
  simpa [List.getD,hj] using this
 unfold canT;rw [this,h1,h2];rfl
theorem canT_four {s:Scn} {x y:Int} (h1:validScn s=true) (h2:isVec (x,y)=true) (a:roomB (reachZ s.robot) (x - s.low.1)=true) (b:roomB (reachZ s.robot) (s.high.1 - x)=true) (c:roomB (reachZ s.robot) (y - s.low.2)=true) (d:roomB (reachZ s.robot) (s.high.2 - y)=true):canT s (x,y)=!(s.obst.any (discB s (x,y))):=
 canT_yes h1 h2 fun j hj=>by
  have:j=0∨j=1∨j=2∨j=3:=by omega
  rcases this with rfl|rfl|rfl|rfl
  ·exact a
  ·exact b
  ·exact c
  ·exact d
theorem room_yes {r d:Int} (h:0 < d) (h2:r < d*d):roomB r d=true:=by unfold roomB;rw [decide_eq_true h,decide_eq_true h2];rfl
theorem room_no1 {r d:Int} (h:d≤0):roomB r d=false:=by unfold roomB;rw [decide_eq_false (show ¬ d > 0 by omega)];rfl
theorem room_no2 {r d:Int} (h:d*d≤r):roomB r d=false:=by unfold roomB;rw [decide_eq_false (show ¬ d*d > r by omega),Bool.and_false]
def openT (s:Scn):Nat→List (List Dat)
 | 0=>[]
 | k+1=>if canT s (s.tables.getD k (0,0))=true then openT s k++[[.int ((k:Nat):Int)]] else openT s k
def openR (s:Scn):List (List Dat):=if validScn s=true then openT s s.tables.length else []
theorem openR_no {s:Scn} (h:validScn s=false):openR s=[]:=by unfold openR;rw [if_neg (by rw [h];simp)]
theorem openR_yes {s:Scn} (h:validScn s=true):openR s=openT s s.tables.length:=by unfold openR;rw [if_pos h]
theorem open_yes {s:Scn} {k:Nat} (h:canT s (s.tables.getD k (0,0))=true):openT s (k+1)=openT s k++[[.int ((k:Nat):Int)]]:=if_pos h
theorem open_no {s:Scn} {k:Nat} (h:canT s (s.tables.getD k (0,0))=false):openT s (k+1)=openT s k:=if_neg (by rw [h];simp)
theorem openT_len (s:Scn):∀ k,(openT s k).length≤k
 | 0=>Nat.le_refl _
 | k+1=>by
  have ih:=openT_len s k
  cases h:canT s (s.tables.getD k (0,0)) with
  | true=>rw [open_yes h,List.length_append];simp only [List.length_cons,List.length_nil];omega
  | false=>rw [open_no h];omega
def idxG {α:Type} (p:α→Bool) (l:List α):Int:=match l.findIdx? p with|some k=>(k:Int)|none=>-1
theorem idxG_at {α:Type} {p:α→Bool} {l:List α} {d:α} {k:Nat} (hk:k < l.length) (h:∀ j,j < k→p (l.getD j d)=false) (hp:p (l.getD k d)=true):idxG p l=(k:Int):=by
 have:l.findIdx? p=some k:=by
  rw [List.findIdx?_eq_some_iff_getElem]
  refine ⟨hk,?_,fun j hj=>?_⟩
  ·simpa [List.getD,hk] using hp
  ·have:=h j hj
   simpa [List.getD,show j < l.length by omega] using this
 unfold idxG;rw [this]
theorem idxG_none {α:Type} {p:α→Bool} {l:List α} {d:α} (h:∀ j,j < l.length→p (l.getD j d)=false):idxG p l=-1:=by
 have:l.findIdx? p=none:=by
  rw [List.findIdx?_eq_none_iff]
  intro x hx
  obtain ⟨j,hj,rfl⟩:=List.getElem_of_mem hx
  have:=h j hj
  simpa [List.getD,hj] using this
 unfold idxG;rw [this]
theorem idxG_any {α:Type} (p:α→Bool) (l:List α):decide (idxG p l≥0)=l.any p:=by
 unfold idxG
 cases h:l.findIdx? p with
 | none=>
  rw [List.findIdx?_eq_none_iff] at h
  have:l.any p=false:=by
   rw [List.any_eq_false];intro x hx;rw [h x hx];simp
  rw [this];rfl
 | some k=>
  rw [List.findIdx?_eq_some_iff_getElem] at h
  obtain ⟨hk,hp,_⟩:=h
  have:l.any p=true:=List.any_eq_true.2 ⟨_,List.getElem_mem hk,hp⟩
  rw [this]
  exact decide_eq_true (show (0:Int)≤(k:Int) by omega)
theorem any_at {α:Type} {p:α→Bool} {l:List α} {d:α} {k:Nat} (hk:k < l.length) (hp:p (l.getD k d)=true):l.any p=true:=List.any_eq_true.2 ⟨l.getD k d,by simp [List.getD,hk],hp⟩
theorem any_no {α:Type} {p:α→Bool} {l:List α} {d:α} (h:∀ j,j < l.length→p (l.getD j d)=false):l.any p=false:=by
 rw [List.any_eq_false];intro x hx
 obtain ⟨j,hj,rfl⟩:=List.getElem_of_mem hx
 have:=h j hj
 simpa [List.getD,hj] using this
def l07Max_con:Con:={ ι:=Int×Int,pre:=fun i=>True,args:=fun i=>[.one (.im (.int .i64 i.1)),.one (.im (.int .i64 i.2))],res:=fun i=>⟨false,[none],[.im (Value.int .i64 (max i.1 i.2))]⟩ }
set_option maxRecDepth 100000 in
theorem l07Max_ok:l07Max_con.Ok Tryz.prog 138:=by
 refine fn_ok (X:=⟨tt,[],[],10⟩) mixed tt_ok (CTok.nil _) Tryz.func138 (by decide) rfl rfl rfl (fun _=>Nat.le_of_ble_eq_true rfl) (fun _=>Nat.le_of_ble_eq_true rfl) (fun _=>[]) ?_
 rintro ⟨a,b⟩ hpre
 have hpre:True:=hpre
 refine by_nf (q:=((decide (a > b))=true→((Value.int .i64 a=Value.int .i64 (max a b))))∧((decide (a > b))=false→((Value.int .i64 b=Value.int .i64 (max a b))))) (by kernel_rfl) ?_
 refine ⟨fun c1=>?_,fun c1=>?_⟩
 ·skip
  try simp only [nrm] at c1
  exact vint (by omega)
 ·skip
  try simp only [nrm] at c1
  exact vint (by omega)
def iReach_con:Con:={ ι:=(List V2),pre:=fun i=>True,args:=fun i=>[.one (.sl 31 [.int,.int] (vecsD i))],res:=fun i=>⟨false,[none],[.im (Value.int .i64 (reachZ i))]⟩ }
set_option maxRecDepth 100000 in
theorem iReach_ok:iReach_con.Ok Tryz.prog 110:=by
 refine fn_ok (X:=⟨tt,[(57,iIsPoly_con)],[],30⟩) mixed tt_ok (CTok.cons iIsPoly_ok (CTok.nil _)) Tryz.func110 (by decide) rfl rfl rfl (fun _=>Nat.le_of_ble_eq_true rfl) (fun _=>Nat.le_of_ble_eq_true rfl) (fun (i:(List V2))=>[(5,.mk 2 (Nat) (fun x1=>{ tm:=[(9,.one (.one (.ext 1))),(10,.one (.one (.im (Value.int .i64 (((vecsD i).length:Nat):Int))))),(11,.one (.one (.im (Value.int .i64 ((x1:Nat):Int))))),(3,.one (.one (.im (Value.int .i64 (reachT i x1)))))],en:=[(1,.view 31 [.int,.int] (vecsD i) [])] }) (fun x1=>x1≤i.length) (fun x1=>i.length - x1) (fun _=>[]))]) ?_
 intro (l:List V2) hpre
 have hpre:True:=hpre
 refine by_nf (q:=∃ i1:(List V2),[DA.one (DC.sl 31 [.int,.int] (vecsD l))]=iIsPoly_con.args i1∧iIsPoly_con.pre i1∧(((!(isPoly i1))=true→((Value.int .i64 (0:Int)=Value.int .i64 (reachZ l))))∧((!(isPoly i1))=false→((∃ x1:Nat,(x1≤l.length)∧((rf (Value.int .i64 (((vecsD l).length:Nat):Int)))∧(Value.int .i64 (0:Int)=Value.int .i64 ((x1:Nat):Int))∧(Value.int .i64 (0:Int)=Value.int .i64 (reachT l x1))∧(rf (vecsD l))))∧∀ x1:Nat,(x1≤l.length)→(((decide (((x1:Nat):Int) < (((vecsD l).length:Nat):Int)))=true→((0≤((x1:Nat):Int)∧((x1:Nat):Int) < ((vecsD l).length:Int))∧((x1 < (vecsD l).length)∧(∃ y2:Nat,(y2≤l.length)∧(l.length - y2 < l.length - x1)∧((rf (Value.int .i64 (((vecsD l).length:Nat):Int)))∧(Value.int .i64 (IntKind.i64.wrap (((x1:Nat):Int)+(1:Int)))=Value.int .i64 ((y2:Nat):Int))∧(Value.int .i64 (max (reachT l x1) (IntKind.i64.wrap ((IntKind.i64.wrap (((((vecsD l).getD x1 []).getD 0 (.int 0))).n*((((vecsD l).getD x1 []).getD 0 (.int 0))).n))+(IntKind.i64.wrap (((((vecsD l).getD x1 []).getD 1 (.int 0))).n*((((vecsD l).getD x1 []).getD 1 (.int 0))).n)))))=Value.int .i64 (reachT l y2))∧(rf (vecsD l)))))))∧((decide (((x1:Nat):Int) < (((vecsD l).length:Nat):Int)))=false→((Value.int .i64 (reachT l x1)=Value.int .i64 (reachZ l))))))))) (by kernel_rfl) ?_
 have hvl:=vecsD_length l
 have hpl:=ptsD_len l
 refine ⟨l,by
  rfl,by
  first|trivial|(first|omega|assumption|exact hpre.1|exact hpre.2|(simp;done)),?_⟩
 refine ⟨fun c4=>?_,fun c4=>?_⟩
 ·skip
  try simp only [nrm] at c4
  have hE:=reachZ_no c4
  show Value.int .i64 (0:Int)=Value.int .i64 (reachZ l)
  first|(rw [hE,show k=l.length by omega])|(rw [hE])
 ·skip
  try simp only [nrm] at c4
  have hP:=isPoly_len c4
  have hE:=reachZ_yes c4
  refine ⟨⟨0,by
   first|trivial|omega|(simp;omega),?_⟩,?_⟩
  ·skip
   refine ⟨rfl,?_,?_,rfl⟩
   ·show Value.int .i64 (0:Int)=Value.int .i64 ((0:Nat):Int)
    first|rfl|(simp;done)
   show Value.int .i64 (0:Int)=Value.int .i64 (reachT l 0)
   first|rfl|(simp;done)
  intro (k:Nat) hki6
  have hki6:k≤l.length:=hki6
  refine ⟨fun c12=>?_,fun c12=>?_⟩
  ·skip
   try simp only [nrm] at c12
   have o13:0≤((k:Nat):Int)∧((k:Nat):Int) < ((vecsD l).length:Int):=by
    first|rfl|omega|(simp;done)|(simp;omega)
   refine ⟨o13,?_⟩
   have o14:k < (vecsD l).length:=by
    first|rfl|omega|(simp;done)|(simp;omega)
   refine ⟨o14,?_⟩
   refine ⟨k+1,by
    first|trivial|omega|(simp;omega),by
    first|omega|(simp;omega),?_⟩
   refine ⟨rfl,?_,?_,rfl⟩
   ·show Value.int .i64 (IntKind.i64.wrap (((k:Nat):Int)+(1:Int)))=Value.int .i64 (((k+1):Nat):Int)
    first|rfl|exact vint (wrap64 (by omega) (by omega))|(rw [vecs_x (by omega),vecs_y (by omega),sqV_wrap (allVec_getD hP.2.2 (show k < l.length by omega))];rfl)
   show Value.int .i64 (max (reachT l k) (IntKind.i64.wrap ((IntKind.i64.wrap (((((vecsD l).getD k []).getD 0 (.int 0))).n*((((vecsD l).getD k []).getD 0 (.int 0))).n))+(IntKind.i64.wrap (((((vecsD l).getD k []).getD 1 (.int 0))).n*((((vecsD l).getD k []).getD 1 (.int 0))).n)))))=Value.int .i64 (reachT l (k+1))
   first|rfl|exact vint (wrap64 (by omega) (by omega))|(rw [vecs_x (by omega),vecs_y (by omega),sqV_wrap (allVec_getD hP.2.2 (show k < l.length by omega))];rfl)
  ·skip
   try simp only [nrm] at c12
   show Value.int .i64 (reachT l k)=Value.int .i64 (reachZ l)
   first|(rw [hE,show k=l.length by omega])|(rw [hE])
def sReach_con:Con:={ ι:=(List V2),pre:=fun i=>True,args:=fun i=>[.one (.sl 31 [.int,.int] (vecsD i))],res:=fun i=>⟨false,[none],[.im (Value.int .i64 (reachZ i))]⟩ }
set_option maxRecDepth 100000 in
theorem sReach_ok:sReach_con.Ok Tryz.prog 102:=by
 refine fn_ok (X:=⟨tt,[(52,sIsPoly_con),(138,l07Max_con)],[],30⟩) mixed tt_ok (CTok.cons sIsPoly_ok (CTok.cons l07Max_ok (CTok.nil _))) Tryz.func102 (by decide) rfl rfl rfl (fun _=>Nat.le_of_ble_eq_true rfl) (fun _=>Nat.le_of_ble_eq_true rfl) (fun (i:(List V2))=>[(5,.mk 2 (Nat) (fun x1=>{ tm:=[(9,.one (.one (.ext 1))),(10,.one (.one (.im (Value.int .i64 (((vecsD i).length:Nat):Int))))),(11,.one (.one (.im (Value.int .i64 ((x1:Nat):Int))))),(3,.one (.one (.im (Value.int .i64 (reachT i x1)))))],en:=[(1,.view 31 [.int,.int] (vecsD i) [])] }) (fun x1=>x1≤i.length) (fun x1=>i.length - x1) (fun _=>[]))]) ?_
 intro (l:List V2) hpre
 have hpre:True:=hpre
 refine by_nf (q:=∃ i1:(List V2),[DA.one (DC.sl 31 [.int,.int] (vecsD l))]=sIsPoly_con.args i1∧sIsPoly_con.pre i1∧(((!(isPoly i1))=true→((Value.int .i64 (0:Int)=Value.int .i64 (reachZ l))))∧((!(isPoly i1))=false→((∃ x1:Nat,(x1≤l.length)∧((rf (Value.int .i64 (((vecsD l).length:Nat):Int)))∧(Value.int .i64 (0:Int)=Value.int .i64 ((x1:Nat):Int))∧(Value.int .i64 (0:Int)=Value.int .i64 (reachT l x1))∧(rf (vecsD l))))∧∀ x1:Nat,(x1≤l.length)→(((decide (((x1:Nat):Int) < (((vecsD l).length:Nat):Int)))=true→((0≤((x1:Nat):Int)∧((x1:Nat):Int) < ((vecsD l).length:Int))∧((x1 < (vecsD l).length)∧(∃ i2:Int×Int,[DA.one (cI (reachT l x1)),DA.one (cI (IntKind.i64.wrap ((IntKind.i64.wrap (((((vecsD l).getD x1 []).getD 0 (.int 0))).n*((((vecsD l).getD x1 []).getD 0 (.int 0))).n))+(IntKind.i64.wrap (((((vecsD l).getD x1 []).getD 1 (.int 0))).n*((((vecsD l).getD x1 []).getD 1 (.int 0))).n)))))]=l07Max_con.args i2∧l07Max_con.pre i2∧(∃ y2:Nat,(y2≤l.length)∧(l.length - y2 < l.length - x1)∧((rf (Value.int .i64 (((vecsD l).length:Nat):Int)))∧(Value.int .i64 (IntKind.i64.wrap (((x1:Nat):Int)+(1:Int)))=Value.int .i64 ((y2:Nat):Int))∧(Value.int .i64 (max i2.1 i2.2)=Value.int .i64 (reachT l y2))∧(rf (vecsD l))))))))∧((decide (((x1:Nat):Int) < (((vecsD l).length:Nat):Int)))=false→((Value.int .i64 (reachT l x1)=Value.int .i64 (reachZ l))))))))) (by kernel_rfl) ?_
 have hvl:=vecsD_length l
 have hpl:=ptsD_len l
 refine ⟨l,by
  rfl,by
  first|trivial|(first|omega|assumption|exact hpre.1|exact hpre.2|(simp;done)),?_⟩
 refine ⟨fun c4=>?_,fun c4=>?_⟩
 ·skip
  try simp only [nrm] at c4
  have hE:=reachZ_no c4
  show Value.int .i64 (0:Int)=Value.int .i64 (reachZ l)
  first|(rw [hE,show k=l.length by omega])|(rw [hE])
 ·skip
  try simp only [nrm] at c4
  have hP:=isPoly_len c4
  have hE:=reachZ_yes c4
  refine ⟨⟨0,by
   first|trivial|omega|(simp;omega),?_⟩,?_⟩
  ·skip
   refine ⟨rfl,?_,?_,rfl⟩
   ·show Value.int .i64 (0:Int)=Value.int .i64 ((0:Nat):Int)
    first|rfl|(simp;done)
   show Value.int .i64 (0:Int)=Value.int .i64 (reachT l 0)
   first|rfl|(simp;done)
  intro (k:Nat) hki6
  have hki6:k≤l.length:=hki6
  refine ⟨fun c12=>?_,fun c12=>?_⟩
  ·skip
   try simp only [nrm] at c12
   have o13:0≤((k:Nat):Int)∧((k:Nat):Int) < ((vecsD l).length:Int):=by
    first|rfl|omega|(simp;done)|(simp;omega)
   refine ⟨o13,?_⟩
   have o14:k < (vecsD l).length:=by
    first|rfl|omega|(simp;done)|(simp;omega)
   refine ⟨o14,?_⟩
   refine ⟨((reachT l k),(IntKind.i64.wrap ((IntKind.i64.wrap (((((vecsD l).getD k []).getD 0 (.int 0))).n*((((vecsD l).getD k []).getD 0 (.int 0))).n))+(IntKind.i64.wrap (((((vecsD l).getD k []).getD 1 (.int 0))).n*((((vecsD l).getD k []).getD 1 (.int 0))).n))))),by
    rfl,by
    first|trivial|(first|omega|assumption|exact hpre.1|exact hpre.2|(simp;done)),?_⟩
   refine ⟨k+1,by
    first|trivial|omega|(simp;omega),by
    first|omega|(simp;omega),?_⟩
   refine ⟨rfl,?_,?_,rfl⟩
   ·show Value.int .i64 (IntKind.i64.wrap (((k:Nat):Int)+(1:Int)))=Value.int .i64 (((k+1):Nat):Int)
    first|rfl|exact vint (wrap64 (by omega) (by omega))|(rw [vecs_x (by omega),vecs_y (by omega),sqV_wrap (allVec_getD hP.2.2 (show k < l.length by omega))];rfl)
   show Value.int .i64 (max (reachT l k) (IntKind.i64.wrap ((IntKind.i64.wrap (((((vecsD l).getD k []).getD 0 (.int 0))).n*((((vecsD l).getD k []).getD 0 (.int 0))).n))+(IntKind.i64.wrap (((((vecsD l).getD k []).getD 1 (.int 0))).n*((((vecsD l).getD k []).getD 1 (.int 0))).n)))))=Value.int .i64 (reachT l (k+1))
   first|rfl|exact vint (wrap64 (by omega) (by omega))|(rw [vecs_x (by omega),vecs_y (by omega),sqV_wrap (allVec_getD hP.2.2 (show k < l.length by omega))];rfl)
  ·skip
   try simp only [nrm] at c12
   show Value.int .i64 (reachT l k)=Value.int .i64 (reachZ l)
   first|(rw [hE,show k=l.length by omega])|(rw [hE])
def room_con:Con:={ ι:=Int×Int,pre:=fun i=>-2000≤i.2∧i.2≤2000,args:=fun i=>[.one (.im (.int .i64 i.1)),.one (.im (.int .i64 i.2))],res:=fun i=>⟨false,[none],[.im (Value.bool (roomB i.1 i.2))]⟩ }
set_option maxRecDepth 100000 in
theorem room_ok:room_con.Ok Tryz.prog 103:=by
 refine fn_ok (X:=⟨tt,[],[],14⟩) mixed tt_ok (CTok.nil _) Tryz.func103 (by decide) rfl rfl rfl (fun _=>Nat.le_of_ble_eq_true rfl) (fun _=>Nat.le_of_ble_eq_true rfl) (fun _=>[]) ?_
 rintro ⟨r,d⟩ hpre
 have hpre:-2000≤d∧d≤2000:=hpre
 refine by_nf (q:=((decide (d > (0:Int)))=true→((Value.bool (decide ((IntKind.i64.wrap (d*d)) > r))=Value.bool (roomB r d))))∧((decide (d > (0:Int)))=false→((Value.bool false=Value.bool (roomB r d))))) (by kernel_rfl) ?_
 have hb:=sq_bd hpre.1 hpre.2
 have hw:IntKind.i64.wrap (d*d)=d*d:=wrap64 (by omega) (by omega)
 refine ⟨fun c1=>?_,fun c1=>?_⟩
 ·skip
  try simp only [nrm] at c1
  show Value.bool (decide ((IntKind.i64.wrap (d*d)) > r))=Value.bool (roomB r d)
  exact congrArg Value.bool (by unfold roomB;simp_all;try omega)
 ·skip
  try simp only [nrm] at c1
  show Value.bool false=Value.bool (roomB r d)
  exact congrArg Value.bool (by unfold roomB;simp_all;try omega)
def turn1_con:Con:={ ι:=(List V2)×Int×Int×Int,pre:=fun i=>(-9223372036854775808≤i.2.1∧i.2.1≤9223372036854775807)∧(-9223372036854775808≤i.2.2.1∧i.2.2.1≤9223372036854775807)∧i.2.2.2≤9223372036854775807,args:=fun i=>[.one (.sl 31 [.int,.int] (vecsD i.1)),.one (.ro (.ptr [.im (Value.int .i64 i.2.1),.im (Value.int .i64 i.2.2.1)])),.one (.ro (.ptr [.im (Value.int .i64 i.2.2.2)]))],res:=fun i=>⟨false,[none],[.im (Value.bool (dtB i.1 (ptQ (ptV (i.2.1,i.2.2.1))) i.2.2.2))]⟩ }
set_option maxRecDepth 100000 in
theorem turn1_ok:turn1_con.Ok Tryz.prog 111:=by
 refine fn_ok (X:=⟨tt,[(49,iPointOf_con),(112,iDisc_con)],[],10⟩) mixed tt_ok (CTok.cons iPointOf_ok (CTok.cons iDisc_ok (CTok.nil _))) Tryz.func111 (by decide) rfl rfl rfl (fun _=>Nat.le_of_ble_eq_true rfl) (fun _=>Nat.le_of_ble_eq_true rfl) (fun _=>[]) ?_
 rintro ⟨l,x,y,n⟩ hpre
 have hpre:(-9223372036854775808≤x∧x≤9223372036854775807)∧(-9223372036854775808≤y∧y≤9223372036854775807)∧n≤9223372036854775807:=hpre
 refine by_nf (q:=∃ i1:Int×Int,[DA.agg [cI x,cI y]]=iPointOf_con.args i1∧iPointOf_con.pre i1∧(∃ i2:(List V2)×PtD×Int,[DA.one (DC.sl 31 [.int,.int] (vecsD l)),DA.agg [cB (decide ((Fr.ofInt i1.1).z < 0)),cS (L (Fr.ofInt i1.1).z.natAbs),cS (L (Fr.ofInt i1.1).d),cB (decide ((Fr.ofInt i1.2).z < 0)),cS (L (Fr.ofInt i1.2).z.natAbs),cS (L (Fr.ofInt i1.2).d)],DA.one (cI n)]=iDisc_con.args i2∧iDisc_con.pre i2∧((Value.bool (dtB i2.1 i2.2.1 i2.2.2)=Value.bool (dtB l (ptQ (ptV (x,y))) n))))) (by kernel_rfl) ?_
 refine ⟨(x,y),by
  rfl,by
  show (-9223372036854775808≤x∧x≤9223372036854775807)∧-9223372036854775808≤y∧y≤9223372036854775807
  first|exact ⟨hpre.1,hpre.2.1⟩|exact ⟨ptQ_has _,hpre.2.2⟩,?_⟩
 refine ⟨(l,(ptQ (ptV (x,y))),n),by
  rfl,by
  show (ptQ (ptV (x,y))).has∧n≤9223372036854775807
  first|exact ⟨hpre.1,hpre.2.1⟩|exact ⟨ptQ_has _,hpre.2.2⟩,?_⟩
 exact rfl
def arIdx_con:Con:={ ι:=(List (List V2))×Int×Int×Int,pre:=fun i=>i.1.length≤9223372036854775807∧(-9223372036854775808≤i.2.1∧i.2.1≤9223372036854775807)∧(-9223372036854775808≤i.2.2.1∧i.2.2.1≤9223372036854775807)∧i.2.2.2≤9223372036854775807,args:=fun i=>[.one (.sl 32 [.sl 31 [.int,.int]] (areasD i.1)),.one (.ro (.fn 111 [[.im (Value.int .i64 i.2.1),.im (Value.int .i64 i.2.2.1)],[.im (Value.int .i64 i.2.2.2)]]))],res:=fun i=>⟨false,[none],[.im (Value.int .i64 (idxG (fun z=>dtB z (ptQ (ptV (i.2.1,i.2.2.1))) i.2.2.2) i.1))]⟩ }
set_option maxRecDepth 100000 in
theorem arIdx_ok:arIdx_con.Ok Tryz.prog 141:=by
 refine fn_ok (X:=⟨tt,[(111,turn1_con)],[],19⟩) mixed tt_ok (CTok.cons turn1_ok (CTok.nil _)) Tryz.func141 (by decide) rfl rfl rfl (fun _=>Nat.le_of_ble_eq_true rfl) (fun _=>Nat.le_of_ble_eq_true rfl) (fun (i:(List (List V2))×Int×Int×Int)=>[(2,.mk 3 (Nat) (fun x1=>{ tm:=[(0,.one (.one (.ext 1))),(1,.one (.one (.ext 2))),(7,.one (.one (.im (Value.int .i64 (((areasD i.1).length:Nat):Int))))),(8,.one (.one (.im (Value.int .i64 ((x1:Nat):Int)))))],en:=[(1,.view 32 [.sl 31 [.int,.int]] (areasD i.1) []),(2,.ro (.fn 111 [[.im (Value.int .i64 i.2.1),.im (Value.int .i64 i.2.2.1)],[.im (Value.int .i64 i.2.2.2)]]) [])] }) (fun x1=>x1≤i.1.length∧∀ j,j < x1→(fun z=>dtB z (ptQ (ptV (i.2.1,i.2.2.1))) i.2.2.2) (i.1.getD j [])=false) (fun x1=>i.1.length - x1) (fun _=>[]))]) ?_
 rintro ⟨l,x,y,n⟩ hpre
 have hpre:l.length≤9223372036854775807∧(-9223372036854775808≤x∧x≤9223372036854775807)∧(-9223372036854775808≤y∧y≤9223372036854775807)∧n≤9223372036854775807:=hpre
 refine by_nf (q:=(∃ x1:Nat,(x1≤l.length∧∀ j,j < x1→(fun z=>dtB z (ptQ (ptV (x,y))) n) (l.getD j [])=false)∧((rf (Value.int .i64 (((areasD l).length:Nat):Int)))∧(Value.int .i64 (0:Int)=Value.int .i64 ((x1:Nat):Int))∧(rf (areasD l))∧((.fn 111 [[.im (Value.int .i64 x),.im (Value.int .i64 y)],[.im (Value.int .i64 n)]]:RO)=.fn 111 [[.im (Value.int .i64 x),.im (Value.int .i64 y)],[.im (Value.int .i64 n)]])))∧∀ x1:Nat,(x1≤l.length∧∀ j,j < x1→(fun z=>dtB z (ptQ (ptV (x,y))) n) (l.getD j [])=false)→(((decide (((x1:Nat):Int) < (((areasD l).length:Nat):Int)))=true→((0≤((x1:Nat):Int)∧((x1:Nat):Int) < ((areasD l).length:Int))∧((x1 < (areasD l).length)∧(∃ i1:(List V2)×Int×Int×Int,[DA.one (DC.sl 31 [.int,.int] (((((areasD l).getD x1 []).getD 0 (.int 0))).r)),DA.one (DC.ro (.ptr [.im (Value.int .i64 x),.im (Value.int .i64 y)])),DA.one (DC.ro (.ptr [.im (Value.int .i64 n)]))]=turn1_con.args i1∧turn1_con.pre i1∧(((dtB i1.1 (ptQ (ptV (i1.2.1,i1.2.2.1))) i1.2.2.2)=true→((Value.int .i64 ((x1:Nat):Int)=Value.int .i64 (idxG (fun z=>dtB z (ptQ (ptV (x,y))) n) l))))∧((dtB i1.1 (ptQ (ptV (i1.2.1,i1.2.2.1))) i1.2.2.2)=false→(∃ y2:Nat,(y2≤l.length∧∀ j,j < y2→(fun z=>dtB z (ptQ (ptV (x,y))) n) (l.getD j [])=false)∧(l.length - y2 < l.length - x1)∧((rf (Value.int .i64 (((areasD l).length:Nat):Int)))∧(Value.int .i64 (IntKind.i64.wrap (((x1:Nat):Int)+(1:Int)))=Value.int .i64 ((y2:Nat):Int))∧(rf (areasD l))∧((.fn 111 [[.im (Value.int .i64 x),.im (Value.int .i64 y)],[.im (Value.int .i64 n)]]:RO)=.fn 111 [[.im (Value.int .i64 x),.im (Value.int .i64 y)],[.im (Value.int .i64 n)]])))))))))∧((decide (((x1:Nat):Int) < (((areasD l).length:Nat):Int)))=false→((Value.int .i64 (-1:Int)=Value.int .i64 (idxG (fun z=>dtB z (ptQ (ptV (x,y))) n) l)))))) (by kernel_rfl) ?_
 have hal:=areasD_length l
 refine ⟨⟨0,by
  exact ⟨Nat.zero_le _,fun j hj=>absurd hj (Nat.not_lt_zero j)⟩,?_⟩,?_⟩
 ·skip
  refine ⟨rfl,?_,rfl,?_⟩
  ·show Value.int .i64 (0:Int)=Value.int .i64 ((0:Nat):Int)
   first|rfl|(simp;done)
  show (.fn 111 [[.im (Value.int .i64 x),.im (Value.int .i64 y)],[.im (Value.int .i64 n)]]:RO)=.fn 111 [[.im (Value.int .i64 x),.im (Value.int .i64 y)],[.im (Value.int .i64 n)]]
  first|rfl|(simp;done)
 intro (k:Nat) hki1
 have hki1:k≤l.length∧∀ j,j < k→(fun z=>dtB z (ptQ (ptV (x,y))) n) (l.getD j [])=false:=hki1
 refine ⟨fun c7=>?_,fun c7=>?_⟩
 ·skip
  try simp only [nrm] at c7
  have o8:0≤((k:Nat):Int)∧((k:Nat):Int) < ((areasD l).length:Int):=by
   first|omega
  refine ⟨o8,?_⟩
  have o9:k < (areasD l).length:=by
   first|omega
  refine ⟨o9,?_⟩
  refine ⟨(l.getD k [],x,y,n),by
   rw [areasD_at (by omega)];rfl,by
   exact hpre.2,?_⟩
  refine ⟨fun c13=>?_,fun c13=>?_⟩
  ·skip
   replace c13:(dtB (l.getD k []) (ptQ (ptV (x,y))) n)=true:=c13
   try simp only [nrm] at c13
   show Value.int .i64 ((k:Nat):Int)=Value.int .i64 (idxG (fun z=>dtB z (ptQ (ptV (x,y))) n) l)
   rw [idxG_at (d:=[]) (by omega) hki1.2 c13]
  ·skip
   replace c13:(dtB (l.getD k []) (ptQ (ptV (x,y))) n)=false:=c13
   try simp only [nrm] at c13
   refine ⟨k+1,by
    exact ⟨by omega,lt_step hki1.2 c13⟩,by
    first|omega|(simp;omega),?_⟩
   refine ⟨rfl,?_,rfl,?_⟩
   ·first|rfl|exact vint (wrap64 (by omega) (by omega))
   first|rfl|exact vint (wrap64 (by omega) (by omega))
 ·skip
  try simp only [nrm] at c7
  show Value.int .i64 (-1:Int)=Value.int .i64 (idxG (fun z=>dtB z (ptQ (ptV (x,y))) n) l)
  rw [idxG_none (d:=[]) (fun j hj=>hki1.2 j (by omega))]
def arAny_con:Con:={ ι:=(List (List V2))×Int×Int×Int,pre:=fun i=>i.1.length≤9223372036854775807∧(-9223372036854775808≤i.2.1∧i.2.1≤9223372036854775807)∧(-9223372036854775808≤i.2.2.1∧i.2.2.1≤9223372036854775807)∧i.2.2.2≤9223372036854775807,args:=fun i=>[.one (.sl 32 [.sl 31 [.int,.int]] (areasD i.1)),.one (.ro (.fn 111 [[.im (Value.int .i64 i.2.1),.im (Value.int .i64 i.2.2.1)],[.im (Value.int .i64 i.2.2.2)]]))],res:=fun i=>⟨false,[none],[.im (Value.bool (i.1.any (fun z=>dtB z (ptQ (ptV (i.2.1,i.2.2.1))) i.2.2.2)))]⟩ }
set_option maxRecDepth 100000 in
theorem arAny_ok:arAny_con.Ok Tryz.prog 107:=by
 refine fn_ok (X:=⟨tt,[(141,arIdx_con)],[],9⟩) mixed tt_ok (CTok.cons arIdx_ok (CTok.nil _)) Tryz.func107 (by decide) rfl rfl rfl (fun _=>Nat.le_of_ble_eq_true rfl) (fun _=>Nat.le_of_ble_eq_true rfl) (fun _=>[]) ?_
 rintro ⟨l,x,y,n⟩ hpre
 have hpre:l.length≤9223372036854775807∧(-9223372036854775808≤x∧x≤9223372036854775807)∧(-9223372036854775808≤y∧y≤9223372036854775807)∧n≤9223372036854775807:=hpre
 refine by_nf (q:=∃ i1:(List (List V2))×Int×Int×Int,[DA.one (DC.sl 32 [.sl 31 [.int,.int]] (areasD l)),DA.one (DC.ro (.fn 111 [[.im (Value.int .i64 x),.im (Value.int .i64 y)],[.im (Value.int .i64 n)]]))]=arIdx_con.args i1∧arIdx_con.pre i1∧((Value.bool (decide ((idxG (fun z=>dtB z (ptQ (ptV (i1.2.1,i1.2.2.1))) i1.2.2.2) i1.1)≥(0:Int)))=Value.bool (l.any (fun z=>dtB z (ptQ (ptV (x,y))) n))))) (by kernel_rfl) ?_
 refine ⟨(l,x,y,n),by
  rfl,by
  exact hpre,?_⟩
 show Value.bool (decide ((idxG (fun z=>dtB z (ptQ (ptV (x,y))) n) l)≥(0:Int)))=Value.bool (l.any (fun z=>dtB z (ptQ (ptV (x,y))) n))
 exact congrArg Value.bool (idxG_any _ _)
def iCanTurn_con:Con:={ ι:=Scn×Int×Int,pre:=fun i=>scnSz i.1,args:=fun i=>[.agg [.im (.int .i64 i.1.low.1),.im (.int .i64 i.1.low.2),.im (.int .i64 i.1.high.1),.im (.int .i64 i.1.high.2),.sl 31 [.int,.int] (vecsD i.1.robot),.sl 32 [.sl 31 [.int,.int]] (areasD i.1.obst),.sl 31 [.int,.int] (vecsD i.1.tables)],.agg [.im (.int .i64 i.2.1),.im (.int .i64 i.2.2)]],res:=fun i=>⟨false,[none],[.im (Value.bool (canT i.1 (i.2.1,i.2.2)))]⟩ }
set_option maxRecDepth 100000 in
theorem iCanTurn_ok:iCanTurn_con.Ok Tryz.prog 69:=by
 refine fn_ok (X:=⟨tt,[(68,iValid_con),(109,iIsVec_con),(110,iReach_con),(107,arAny_con)],[],64⟩) mixed tt_ok (CTok.cons iValid_ok (CTok.cons iIsVec_ok (CTok.cons iReach_ok (CTok.cons arAny_ok (CTok.nil _))))) Tryz.func69 (by decide) rfl rfl rfl (fun _=>Nat.le_of_ble_eq_true rfl) (fun _=>Nat.le_of_ble_eq_true rfl) (fun (i:Scn×Int×Int)=>[(5,.mk 8 (Nat) (fun x1=>{ tm:=[(2,.one (.one (.bp 1 0))),(3,.one (.one (.bp 5 0))),(5,.one (.one (.bp 6 0))),(45,.one (.one (.im (Value.int .i64 ((x1:Nat):Int))))),(44,.one (.one (.im (Value.int .i64 (4:Int))))),(43,.one (.one (.ext 7)))],en:=[(1,.box [.im (Value.int .i64 i.1.low.1),.im (Value.int .i64 i.1.low.2),.im (Value.int .i64 i.1.high.1),.im (Value.int .i64 i.1.high.2),.ext 2,.ext 3,.ext 4]),(5,.box [.im (Value.int .i64 i.2.1),.im (Value.int .i64 i.2.2)]),(6,.box [.im (Value.int .i64 (reachZ i.1.robot))]),(2,.view 31 [.int,.int] (vecsD i.1.robot) []),(3,.view 32 [.sl 31 [.int,.int]] (areasD i.1.obst) []),(4,.view 31 [.int,.int] (vecsD i.1.tables) []),(7,.own 3 [.int] (rwI (roomL i.1 i.2.1 i.2.2)))] }) (fun x1=>x1≤4∧∀ j,j < x1→roomB (reachZ i.1.robot) ((roomL i.1 i.2.1 i.2.2).getD j 0)=true) (fun x1=>4 - x1) (fun _=>[]))]) ?_
 rintro ⟨s,x,y⟩ hpre
 have hpre:scnSz s:=hpre
 refine by_nf (q:=∃ i1:Scn,[DA.agg [cI s.low.1,cI s.low.2,cI s.high.1,cI s.high.2,DC.sl 31 [.int,.int] (vecsD s.robot),DC.sl 32 [.sl 31 [.int,.int]] (areasD s.obst),DC.sl 31 [.int,.int] (vecsD s.tables)]]=iValid_con.args i1∧iValid_con.pre i1∧(((!(!(validScn i1)))=true→(∃ i2:Int×Int,[DA.agg [cI x,cI y]]=iIsVec_con.args i2∧iIsVec_con.pre i2∧(((!(isVec (i2.1,i2.2)))=true→((Value.bool false=Value.bool (canT s (x,y)))))∧((!(isVec (i2.1,i2.2)))=false→(∃ i3:(List V2),[DA.one (DC.sl 31 [.int,.int] (vecsD s.robot))]=iReach_con.args i3∧iReach_con.pre i3∧((∃ x1:Nat,(x1≤4∧∀ j,j < x1→roomB (reachZ s.robot) ((roomL s x y).getD j 0)=true)∧((Value.int .i64 (0:Int)=Value.int .i64 ((x1:Nat):Int))∧(Value.int .i64 ((([[Dat.int (IntKind.i64.wrap (x - s.low.1))],[Dat.int (IntKind.i64.wrap (s.high.1 - x))],[Dat.int (IntKind.i64.wrap (y - s.low.2))],[Dat.int (IntKind.i64.wrap (s.high.2 - y))]]:List (List Dat)).length:Nat):Int)=Value.int .i64 (4:Int))∧(rf (Value.int .i64 s.low.1))∧(rf (Value.int .i64 s.low.2))∧(rf (Value.int .i64 s.high.1))∧(rf (Value.int .i64 s.high.2))∧(rf (Value.int .i64 x))∧(rf (Value.int .i64 y))∧(Value.int .i64 (reachZ i3)=Value.int .i64 (reachZ s.robot))∧(rf (vecsD s.robot))∧(rf (areasD s.obst))∧(rf (vecsD s.tables))∧(([[Dat.int (IntKind.i64.wrap (x - s.low.1))],[Dat.int (IntKind.i64.wrap (s.high.1 - x))],[Dat.int (IntKind.i64.wrap (y - s.low.2))],[Dat.int (IntKind.i64.wrap (s.high.2 - y))]]:List (List Dat))=(rwI (roomL s x y)))))∧∀ x1:Nat,(x1≤4∧∀ j,j < x1→roomB (reachZ s.robot) ((roomL s x y).getD j 0)=true)→(((decide (((x1:Nat):Int) < (4:Int)))=true→((0≤((x1:Nat):Int)∧((x1:Nat):Int) < ((rwI (roomL s x y)).length:Int))∧((x1 < (rwI (roomL s x y)).length)∧(((!(decide (((((rwI (roomL s x y)).getD x1 []).getD 0 (.int 0))).n≤(0:Int))))=true→(((decide ((IntKind.i64.wrap (((((rwI (roomL s x y)).getD x1 []).getD 0 (.int 0))).n*((((rwI (roomL s x y)).getD x1 []).getD 0 (.int 0))).n))≤(reachZ s.robot)))=true→((Value.bool false=Value.bool (canT s (x,y)))))∧((decide ((IntKind.i64.wrap (((((rwI (roomL s x y)).getD x1 []).getD 0 (.int 0))).n*((((rwI (roomL s x y)).getD x1 []).getD 0 (.int 0))).n))≤(reachZ s.robot)))=false→(∃ y2:Nat,(y2≤4∧∀ j,j < y2→roomB (reachZ s.robot) ((roomL s x y).getD j 0)=true)∧(4 - y2 < 4 - x1)∧((Value.int .i64 (IntKind.i64.wrap (((x1:Nat):Int)+(1:Int)))=Value.int .i64 ((y2:Nat):Int))∧(rf (Value.int .i64 (4:Int)))∧(rf (Value.int .i64 s.low.1))∧(rf (Value.int .i64 s.low.2))∧(rf (Value.int .i64 s.high.1))∧(rf (Value.int .i64 s.high.2))∧(rf (Value.int .i64 x))∧(rf (Value.int .i64 y))∧(rf (Value.int .i64 (reachZ s.robot)))∧(rf (vecsD s.robot))∧(rf (areasD s.obst))∧(rf (vecsD s.tables))∧(rf (rwI (roomL s x y))))))))∧((!(decide (((((rwI (roomL s x y)).getD x1 []).getD 0 (.int 0))).n≤(0:Int))))=false→((Value.bool false=Value.bool (canT s (x,y)))))))))∧((decide (((x1:Nat):Int) < (4:Int)))=false→(∃ i4:(List (List V2))×Int×Int×Int,[DA.one (DC.sl 32 [.sl 31 [.int,.int]] (areasD s.obst)),DA.one (DC.ro (.fn 111 [[.im (Value.int .i64 x),.im (Value.int .i64 y)],[.im (Value.int .i64 (reachZ s.robot))]]))]=arAny_con.args i4∧arAny_con.pre i4∧((Value.bool (!(i4.1.any (fun z=>dtB z (ptQ (ptV (i4.2.1,i4.2.2.1))) i4.2.2.2)))=Value.bool (canT s (x,y)))))))))))))∧((!(!(validScn i1)))=false→((Value.bool false=Value.bool (canT s (x,y))))))) (by kernel_rfl) ?_
 refine ⟨s,by
  rfl,by
  first|exact hpre|trivial|omega,?_⟩
 refine ⟨fun c4=>?_,fun c4=>?_⟩
 ·skip
  try simp only [nrm] at c4
  refine ⟨(x,y),by
   rfl,by
   first|exact hpre|trivial|omega,?_⟩
  refine ⟨fun c8=>?_,fun c8=>?_⟩
  ·skip
   replace c8:(!(isVec (x,y)))=true:=c8
   try simp only [nrm] at c8
   have hE:canT s (x,y)=false:=by unfold canT;rw [c8,Bool.false_and,Bool.and_false]
   show Value.bool false=Value.bool (canT s (x,y))
   rw [hE]
  ·skip
   replace c8:(!(isVec (x,y)))=false:=c8
   try simp only [nrm] at c8
   have hrw:=roomL_w c4 c8
   have hb:=isVec_bd c8
   simp only at hb
   have hr:=reachZ_bd s.robot
   have hbs:=scn_room c4
   have hlo:=areasD_length s.obst
   have hz:=hpre.2.1
   refine ⟨s.robot,by
    rfl,by
    first|exact hpre|trivial|omega,?_⟩
   refine ⟨⟨0,by
    exact ⟨Nat.zero_le _,fun j hj=>absurd hj (Nat.not_lt_zero j)⟩,?_⟩,?_⟩
   ·skip
    refine ⟨?_,?_,rfl,rfl,rfl,rfl,rfl,rfl,rfl,rfl,rfl,rfl,?_⟩
    ·show Value.int .i64 (0:Int)=Value.int .i64 ((0:Nat):Int)
     first|rfl|(simp;done)
    ·show Value.int .i64 ((([[Dat.int (IntKind.i64.wrap (x - s.low.1))],[Dat.int (IntKind.i64.wrap (s.high.1 - x))],[Dat.int (IntKind.i64.wrap (y - s.low.2))],[Dat.int (IntKind.i64.wrap (s.high.2 - y))]]:List (List Dat)).length:Nat):Int)=Value.int .i64 (4:Int)
     first|rfl|(simp;done)
    show ([[Dat.int (IntKind.i64.wrap (x - s.low.1))],[Dat.int (IntKind.i64.wrap (s.high.1 - x))],[Dat.int (IntKind.i64.wrap (y - s.low.2))],[Dat.int (IntKind.i64.wrap (s.high.2 - y))]]:List (List Dat))=(rwI (roomL s x y))
    exact hrw
   intro (k:Nat) hki13
   have hki13:k≤4∧∀ j,j < k→roomB (reachZ s.robot) ((roomL s x y).getD j 0)=true:=hki13
   refine ⟨fun c28=>?_,fun c28=>?_⟩
   ·skip
    try simp only [nrm] at c28
    have hrl:(rwI (roomL s x y)).length=4:=rwI_len _
    have hg:(((rwI (roomL s x y)).getD k []).getD 0 (.int 0)).n=(roomL s x y).getD k 0:=rwI_at (show k < 4 by omega)
    have hd:=roomL_bd c4 c8 (show k < 4 by omega)
    have hsq:=sq_bd hd.1 hd.2
    have hw:IntKind.i64.wrap ((roomL s x y).getD k 0*(roomL s x y).getD k 0)=(roomL s x y).getD k 0*(roomL s x y).getD k 0:=wrap64 (by omega) (by omega)
    have o29:0≤((k:Nat):Int)∧((k:Nat):Int) < ((rwI (roomL s x y)).length:Int):=by
     first|omega
    refine ⟨o29,?_⟩
    have o30:k < (rwI (roomL s x y)).length:=by
     first|omega
    refine ⟨o30,?_⟩
    refine ⟨fun c31=>?_,fun c31=>?_⟩
    ·skip
     try simp only [nrm] at c31
     rw [hg] at c31
     refine ⟨fun c32=>?_,fun c32=>?_⟩
     ·skip
      try simp only [nrm] at c32
      rw [hg,hw] at c32
      have hE:canT s (x,y)=false:=canT_no (show k < 4 by omega) (room_no2 c32)
      show Value.bool false=Value.bool (canT s (x,y))
      rw [hE]
     ·skip
      try simp only [nrm] at c32
      rw [hg,hw] at c32
      refine ⟨k+1,by
       exact ⟨by omega,lt_step hki13.2 (room_yes (by omega) (by omega))⟩,by
       first|omega|(simp;omega),?_⟩
      refine ⟨?_,rfl,rfl,rfl,rfl,rfl,rfl,rfl,rfl,rfl,rfl,rfl,rfl⟩
      first|rfl|exact vint (wrap64 (by omega) (by omega))
    ·skip
     try simp only [nrm] at c31
     rw [hg] at c31
     have hE:canT s (x,y)=false:=canT_no (show k < 4 by omega) (room_no1 c31)
     show Value.bool false=Value.bool (canT s (x,y))
     rw [hE]
   ·skip
    try simp only [nrm] at c28
    have hE:=canT_yes c4 c8 (fun j hj=>hki13.2 j (by omega))
    refine ⟨(s.obst,x,y,(reachZ s.robot)),by
     rfl,by
     show s.obst.length≤9223372036854775807∧(-9223372036854775808≤x∧x≤9223372036854775807)∧(-9223372036854775808≤y∧y≤9223372036854775807)∧(reachZ s.robot)≤9223372036854775807
     refine ⟨by omega,?_⟩;omega,?_⟩
    show Value.bool (!(s.obst.any (fun z=>dtB z (ptQ (ptV (x,y))) (reachZ s.robot))))=Value.bool (canT s (x,y))
    rw [hE];rfl
 ·skip
  try simp only [nrm] at c4
  have hE:canT s (x,y)=false:=by unfold canT;rw [c4];rfl
  show Value.bool false=Value.bool (canT s (x,y))
  rw [hE]
def sCanTurn_con:Con:={ ι:=Scn×Int×Int,pre:=fun i=>scnSz i.1,args:=fun i=>[.agg [.im (.int .i64 i.1.low.1),.im (.int .i64 i.1.low.2),.im (.int .i64 i.1.high.1),.im (.int .i64 i.1.high.2),.sl 31 [.int,.int] (vecsD i.1.robot),.sl 32 [.sl 31 [.int,.int]] (areasD i.1.obst),.sl 31 [.int,.int] (vecsD i.1.tables)],.agg [.im (.int .i64 i.2.1),.im (.int .i64 i.2.2)]],res:=fun i=>⟨false,[none],[.im (Value.bool (canT i.1 (i.2.1,i.2.2)))]⟩ }
set_option maxRecDepth 100000 in
theorem sCanTurn_ok:sCanTurn_con.Ok Tryz.prog 65:=by
 refine fn_ok (X:=⟨tt,[(102,sReach_con),(64,sValid_con),(76,sIsVec_con),(103,room_con),(47,sPointOf_con),(104,sDisc_con)],[],76⟩) mixed tt_ok (CTok.cons sReach_ok (CTok.cons sValid_ok (CTok.cons sIsVec_ok (CTok.cons room_ok (CTok.cons sPointOf_ok (CTok.cons sDisc_ok (CTok.nil _))))))) Tryz.func65 (by decide) rfl rfl rfl (fun _=>Nat.le_of_ble_eq_true rfl) (fun _=>Nat.le_of_ble_eq_true rfl) (fun (i:Scn×Int×Int)=>[(5,.mk 6 (Nat) (fun x1=>{ tm:=[(2,.one (.one (.bp 1 0))),(3,.one (.one (.bp 5 0))),(64,.one (.one (.ext 3))),(65,.one (.one (.im (Value.int .i64 (((areasD i.1.obst).length:Nat):Int))))),(66,.one (.one (.im (Value.int .i64 ((x1:Nat):Int))))),(5,.one (.one (.im (Value.int .i64 (reachZ i.1.robot)))))],en:=[(1,.box [.im (Value.int .i64 i.1.low.1),.im (Value.int .i64 i.1.low.2),.im (Value.int .i64 i.1.high.1),.im (Value.int .i64 i.1.high.2),.ext 2,.ext 3,.ext 4]),(5,.box [.im (Value.int .i64 i.2.1),.im (Value.int .i64 i.2.2)]),(2,.view 31 [.int,.int] (vecsD i.1.robot) []),(3,.view 32 [.sl 31 [.int,.int]] (areasD i.1.obst) []),(4,.view 31 [.int,.int] (vecsD i.1.tables) [])] }) (fun x1=>x1≤i.1.obst.length∧∀ j,j < x1→discB i.1 (i.2.1,i.2.2) (i.1.obst.getD j [])=false) (fun x1=>i.1.obst.length - x1) (fun _=>[]))]) ?_
 rintro ⟨s,x,y⟩ hpre
 have hpre:scnSz s:=hpre
 refine by_nf (q:=∃ i1:(List V2),[DA.one (DC.sl 31 [.int,.int] (vecsD s.robot))]=sReach_con.args i1∧sReach_con.pre i1∧(∃ i2:Scn,[DA.agg [cI s.low.1,cI s.low.2,cI s.high.1,cI s.high.2,DC.sl 31 [.int,.int] (vecsD s.robot),DC.sl 32 [.sl 31 [.int,.int]] (areasD s.obst),DC.sl 31 [.int,.int] (vecsD s.tables)]]=sValid_con.args i2∧sValid_con.pre i2∧(((!(!(validScn i2)))=true→(∃ i3:Int×Int,[DA.agg [cI x,cI y]]=sIsVec_con.args i3∧sIsVec_con.pre i3∧(((!(!(isVec (i3.1,i3.2))))=true→(∃ i4:Int×Int,[DA.one (cI (reachZ i1)),DA.one (cI (IntKind.i64.wrap (x - s.low.1)))]=room_con.args i4∧room_con.pre i4∧(((!(!(roomB i4.1 i4.2)))=true→(∃ i5:Int×Int,[DA.one (cI (reachZ i1)),DA.one (cI (IntKind.i64.wrap (s.high.1 - x)))]=room_con.args i5∧room_con.pre i5∧(((!(!(roomB i5.1 i5.2)))=true→(∃ i6:Int×Int,[DA.one (cI (reachZ i1)),DA.one (cI (IntKind.i64.wrap (y - s.low.2)))]=room_con.args i6∧room_con.pre i6∧(((!(!(roomB i6.1 i6.2)))=true→(∃ i7:Int×Int,[DA.one (cI (reachZ i1)),DA.one (cI (IntKind.i64.wrap (s.high.2 - y)))]=room_con.args i7∧room_con.pre i7∧(((!(roomB i7.1 i7.2))=true→((Value.bool false=Value.bool (canT s (x,y)))))∧((!(roomB i7.1 i7.2))=false→((∃ x1:Nat,(x1≤s.obst.length∧∀ j,j < x1→discB s (x,y) (s.obst.getD j [])=false)∧((rf (Value.int .i64 (((areasD s.obst).length:Nat):Int)))∧(Value.int .i64 (0:Int)=Value.int .i64 ((x1:Nat):Int))∧(Value.int .i64 (reachZ i1)=Value.int .i64 (reachZ s.robot))∧(rf (Value.int .i64 s.low.1))∧(rf (Value.int .i64 s.low.2))∧(rf (Value.int .i64 s.high.1))∧(rf (Value.int .i64 s.high.2))∧(rf (Value.int .i64 x))∧(rf (Value.int .i64 y))∧(rf (vecsD s.robot))∧(rf (areasD s.obst))∧(rf (vecsD s.tables))))∧∀ x1:Nat,(x1≤s.obst.length∧∀ j,j < x1→discB s (x,y) (s.obst.getD j [])=false)→(((decide (((x1:Nat):Int) < (((areasD s.obst).length:Nat):Int)))=true→((0≤((x1:Nat):Int)∧((x1:Nat):Int) < ((areasD s.obst).length:Int))∧((x1 < (areasD s.obst).length)∧(∃ i8:Int×Int,[DA.agg [cI x,cI y]]=sPointOf_con.args i8∧sPointOf_con.pre i8∧(∃ i9:(List V2)×PtD×Int,[DA.one (DC.sl 31 [.int,.int] (((((areasD s.obst).getD x1 []).getD 0 (.int 0))).r)),DA.agg [cB (decide ((Fr.ofInt i8.1).z < 0)),cS (L (Fr.ofInt i8.1).z.natAbs),cS (L (Fr.ofInt i8.1).d),cB (decide ((Fr.ofInt i8.2).z < 0)),cS (L (Fr.ofInt i8.2).z.natAbs),cS (L (Fr.ofInt i8.2).d)],DA.one (cI (reachZ s.robot))]=sDisc_con.args i9∧sDisc_con.pre i9∧(((dtB i9.1 i9.2.1 i9.2.2)=true→((Value.bool false=Value.bool (canT s (x,y)))))∧((dtB i9.1 i9.2.1 i9.2.2)=false→(∃ y2:Nat,(y2≤s.obst.length∧∀ j,j < y2→discB s (x,y) (s.obst.getD j [])=false)∧(s.obst.length - y2 < s.obst.length - x1)∧((rf (Value.int .i64 (((areasD s.obst).length:Nat):Int)))∧(Value.int .i64 (IntKind.i64.wrap (((x1:Nat):Int)+(1:Int)))=Value.int .i64 ((y2:Nat):Int))∧(rf (Value.int .i64 (reachZ s.robot)))∧(rf (Value.int .i64 s.low.1))∧(rf (Value.int .i64 s.low.2))∧(rf (Value.int .i64 s.high.1))∧(rf (Value.int .i64 s.high.2))∧(rf (Value.int .i64 x))∧(rf (Value.int .i64 y))∧(rf (vecsD s.robot))∧(rf (areasD s.obst))∧(rf (vecsD s.tables)))))))))))∧((decide (((x1:Nat):Int) < (((areasD s.obst).length:Nat):Int)))=false→((Value.bool true=Value.bool (canT s (x,y)))))))))))∧((!(!(roomB i6.1 i6.2)))=false→((Value.bool false=Value.bool (canT s (x,y))))))))∧((!(!(roomB i5.1 i5.2)))=false→((Value.bool false=Value.bool (canT s (x,y))))))))∧((!(!(roomB i4.1 i4.2)))=false→((Value.bool false=Value.bool (canT s (x,y))))))))∧((!(!(isVec (i3.1,i3.2))))=false→((Value.bool false=Value.bool (canT s (x,y))))))))∧((!(!(validScn i2)))=false→((Value.bool false=Value.bool (canT s (x,y)))))))) (by kernel_rfl) ?_
 refine ⟨s.robot,by
  rfl,by
  first|exact hpre|trivial|omega,?_⟩
 refine ⟨s,by
  rfl,by
  first|exact hpre|trivial|omega,?_⟩
 refine ⟨fun c7=>?_,fun c7=>?_⟩
 ·skip
  try simp only [nrm] at c7
  refine ⟨(x,y),by
   rfl,by
   first|exact hpre|trivial|omega,?_⟩
  refine ⟨fun c11=>?_,fun c11=>?_⟩
  ·skip
   replace c11:(!(!(isVec (x,y))))=true:=c11
   try simp only [nrm] at c11
   have hrw:=roomL_w c7 c11
   have hb:=isVec_bd c11
   simp only at hb
   have hr:=reachZ_bd s.robot
   have hbs:=scn_room c7
   have hlo:=areasD_length s.obst
   have hz:=hpre.2.1
   have hw1:IntKind.i64.wrap (x - s.low.1)=x - s.low.1:=wrap64 (by omega) (by omega)
   have hw2:IntKind.i64.wrap (s.high.1 - x)=s.high.1 - x:=wrap64 (by omega) (by omega)
   have hw3:IntKind.i64.wrap (y - s.low.2)=y - s.low.2:=wrap64 (by omega) (by omega)
   have hw4:IntKind.i64.wrap (s.high.2 - y)=s.high.2 - y:=wrap64 (by omega) (by omega)
   refine ⟨(reachZ s.robot,x - s.low.1),by
    rw [hw1];rfl,by
    show -2000≤(x - s.low.1)∧(x - s.low.1)≤2000
    first|exact hpre|trivial|omega,?_⟩
   refine ⟨fun c15=>?_,fun c15=>?_⟩
   ·skip
    replace c15:(!(!(roomB (reachZ s.robot) (x - s.low.1))))=true:=c15
    try simp only [nrm] at c15
    refine ⟨(reachZ s.robot,s.high.1 - x),by
     rw [hw2];rfl,by
     show -2000≤(s.high.1 - x)∧(s.high.1 - x)≤2000
     first|exact hpre|trivial|omega,?_⟩
    refine ⟨fun c19=>?_,fun c19=>?_⟩
    ·skip
     replace c19:(!(!(roomB (reachZ s.robot) (s.high.1 - x))))=true:=c19
     try simp only [nrm] at c19
     refine ⟨(reachZ s.robot,y - s.low.2),by
      rw [hw3];rfl,by
      show -2000≤(y - s.low.2)∧(y - s.low.2)≤2000
      first|exact hpre|trivial|omega,?_⟩
     refine ⟨fun c23=>?_,fun c23=>?_⟩
     ·skip
      replace c23:(!(!(roomB (reachZ s.robot) (y - s.low.2))))=true:=c23
      try simp only [nrm] at c23
      refine ⟨(reachZ s.robot,s.high.2 - y),by
       rw [hw4];rfl,by
       show -2000≤(s.high.2 - y)∧(s.high.2 - y)≤2000
       first|exact hpre|trivial|omega,?_⟩
      refine ⟨fun c27=>?_,fun c27=>?_⟩
      ·skip
       replace c27:(!(roomB (reachZ s.robot) (s.high.2 - y)))=true:=c27
       try simp only [nrm] at c27
       have hE:canT s (x,y)=false:=canT_no (k:=3) (by decide) c27
       show Value.bool false=Value.bool (canT s (x,y))
       rw [hE]
      ·skip
       replace c27:(!(roomB (reachZ s.robot) (s.high.2 - y)))=false:=c27
       try simp only [nrm] at c27
       have hE:=canT_four c7 c11 c15 c19 c23 c27
       refine ⟨⟨0,by
        exact ⟨Nat.zero_le _,fun j hj=>absurd hj (Nat.not_lt_zero j)⟩,?_⟩,?_⟩
       ·skip
        refine ⟨rfl,?_,rfl,rfl,rfl,rfl,rfl,rfl,rfl,rfl,rfl,rfl⟩
        show Value.int .i64 (0:Int)=Value.int .i64 ((0:Nat):Int)
        first|rfl|(simp;done)
       intro (k:Nat) hki29
       have hki29:k≤s.obst.length∧∀ j,j < k→discB s (x,y) (s.obst.getD j [])=false:=hki29
       refine ⟨fun c43=>?_,fun c43=>?_⟩
       ·skip
        try simp only [nrm] at c43
        have o44:0≤((k:Nat):Int)∧((k:Nat):Int) < ((areasD s.obst).length:Int):=by
         first|omega
        refine ⟨o44,?_⟩
        have o45:k < (areasD s.obst).length:=by
         first|omega
        refine ⟨o45,?_⟩
        refine ⟨(x,y),by
         rfl,by
         show (-9223372036854775808≤x∧x≤9223372036854775807)∧-9223372036854775808≤y∧y≤9223372036854775807
         first|exact hpre|trivial|omega,?_⟩
        refine ⟨(s.obst.getD k [],(ptQ (ptV (x,y))),reachZ s.robot),by
         rw [areasD_at (by omega)];rfl,by
         show (ptQ (ptV (x,y))).has∧(reachZ s.robot)≤9223372036854775807
         exact ⟨ptQ_has _,by omega⟩,?_⟩
        refine ⟨fun c52=>?_,fun c52=>?_⟩
        ·skip
         replace c52:(dtB (s.obst.getD k []) (ptQ (ptV (x,y))) (reachZ s.robot))=true:=c52
         try simp only [nrm] at c52
         show Value.bool false=Value.bool (canT s (x,y))
         rw [hE,any_at (p:=discB s (x,y)) (k:=k) (d:=[]) (by omega) c52];rfl
        ·skip
         replace c52:(dtB (s.obst.getD k []) (ptQ (ptV (x,y))) (reachZ s.robot))=false:=c52
         try simp only [nrm] at c52
         refine ⟨k+1,by
          exact ⟨by omega,lt_step hki29.2 c52⟩,by
          first|omega|(simp;omega),?_⟩
         refine ⟨rfl,?_,rfl,rfl,rfl,rfl,rfl,rfl,rfl,rfl,rfl,rfl⟩
         first|rfl|exact vint (wrap64 (by omega) (by omega))
       ·skip
        try simp only [nrm] at c43
        show Value.bool true=Value.bool (canT s (x,y))
        rw [hE,any_no (d:=[]) (fun j hj=>hki29.2 j (by omega))];rfl
     ·skip
      replace c23:(!(!(roomB (reachZ s.robot) (y - s.low.2))))=false:=c23
      try simp only [nrm] at c23
      have hE:canT s (x,y)=false:=canT_no (k:=2) (by decide) c23
      show Value.bool false=Value.bool (canT s (x,y))
      rw [hE]
    ·skip
     replace c19:(!(!(roomB (reachZ s.robot) (s.high.1 - x))))=false:=c19
     try simp only [nrm] at c19
     have hE:canT s (x,y)=false:=canT_no (k:=1) (by decide) c19
     show Value.bool false=Value.bool (canT s (x,y))
     rw [hE]
   ·skip
    replace c15:(!(!(roomB (reachZ s.robot) (x - s.low.1))))=false:=c15
    try simp only [nrm] at c15
    have hE:canT s (x,y)=false:=canT_no (k:=0) (by decide) c15
    show Value.bool false=Value.bool (canT s (x,y))
    rw [hE]
  ·skip
   replace c11:(!(!(isVec (x,y))))=false:=c11
   try simp only [nrm] at c11
   have hE:canT s (x,y)=false:=by unfold canT;rw [c11,Bool.false_and,Bool.and_false]
   show Value.bool false=Value.bool (canT s (x,y))
   rw [hE]
 ·skip
  try simp only [nrm] at c7
  have hE:canT s (x,y)=false:=by unfold canT;rw [c7];rfl
  show Value.bool false=Value.bool (canT s (x,y))
  rw [hE]
def iOpen_con:Con:={ ι:=Scn,pre:=fun i=>scnSz i,args:=fun i=>[.agg [.im (.int .i64 i.low.1),.im (.int .i64 i.low.2),.im (.int .i64 i.high.1),.im (.int .i64 i.high.2),.sl 31 [.int,.int] (vecsD i.robot),.sl 32 [.sl 31 [.int,.int]] (areasD i.obst),.sl 31 [.int,.int] (vecsD i.tables)]],res:=fun i=>⟨false,[none],[.own 3 [.int] (openR i)]⟩ }
set_option maxRecDepth 100000 in
theorem iOpen_ok:iOpen_con.Ok Tryz.prog 39:=by
 refine fn_ok (X:=⟨tt,[(68,iValid_con),(69,iCanTurn_con)],[],27⟩) mixed tt_ok (CTok.cons iValid_ok (CTok.cons iCanTurn_ok (CTok.nil _))) Tryz.func39 (by decide) rfl rfl rfl (fun _=>Nat.le_of_ble_eq_true rfl) (fun _=>Nat.le_of_ble_eq_true rfl) (fun (i:Scn)=>[(5,.mk 6 (Nat) (fun x1=>{ tm:=[(1,.one (.one (.bp 1 0))),(11,.one (.one (.ext 4))),(12,.one (.one (.im (Value.int .i64 (((vecsD i.tables).length:Nat):Int))))),(13,.one (.one (.im (Value.int .i64 ((x1:Nat):Int))))),(3,.one (.one (.ext 5)))],en:=[(1,.box [.im (Value.int .i64 i.low.1),.im (Value.int .i64 i.low.2),.im (Value.int .i64 i.high.1),.im (Value.int .i64 i.high.2),.ext 2,.ext 3,.ext 4]),(2,.view 31 [.int,.int] (vecsD i.robot) []),(3,.view 32 [.sl 31 [.int,.int]] (areasD i.obst) []),(4,.view 31 [.int,.int] (vecsD i.tables) []),(5,.own 3 [.int] (openT i x1))] }) (fun x1=>x1≤i.tables.length) (fun x1=>i.tables.length - x1) (fun _=>[]))]) ?_
 intro (s:Scn) hpre
 have hpre:scnSz s:=hpre
 refine by_nf (q:=∃ i1:Scn,[DA.agg [cI s.low.1,cI s.low.2,cI s.high.1,cI s.high.2,DC.sl 31 [.int,.int] (vecsD s.robot),DC.sl 32 [.sl 31 [.int,.int]] (areasD s.obst),DC.sl 31 [.int,.int] (vecsD s.tables)]]=iValid_con.args i1∧iValid_con.pre i1∧(((!(validScn i1))=true→((([]:List (List Dat))=openR s)))∧((!(validScn i1))=false→((∃ x1:Nat,(x1≤s.tables.length)∧((rf (Value.int .i64 (((vecsD s.tables).length:Nat):Int)))∧(Value.int .i64 (0:Int)=Value.int .i64 ((x1:Nat):Int))∧(rf (Value.int .i64 s.low.1))∧(rf (Value.int .i64 s.low.2))∧(rf (Value.int .i64 s.high.1))∧(rf (Value.int .i64 s.high.2))∧(rf (vecsD s.robot))∧(rf (areasD s.obst))∧(rf (vecsD s.tables))∧(([]:List (List Dat))=(openT s x1))))∧∀ x1:Nat,(x1≤s.tables.length)→(((decide (((x1:Nat):Int) < (((vecsD s.tables).length:Nat):Int)))=true→((0≤((x1:Nat):Int)∧((x1:Nat):Int) < ((vecsD s.tables).length:Int))∧((x1 < (vecsD s.tables).length)∧(∃ i2:Scn×Int×Int,[DA.agg [cI s.low.1,cI s.low.2,cI s.high.1,cI s.high.2,DC.sl 31 [.int,.int] (vecsD s.robot),DC.sl 32 [.sl 31 [.int,.int]] (areasD s.obst),DC.sl 31 [.int,.int] (vecsD s.tables)],DA.agg [cI (((((vecsD s.tables).getD x1 []).getD 0 (.int 0))).n),cI (((((vecsD s.tables).getD x1 []).getD 1 (.int 0))).n)]]=iCanTurn_con.args i2∧iCanTurn_con.pre i2∧(((canT i2.1 (i2.2.1,i2.2.2))=true→(((openT s x1).length+([[Dat.int ((x1:Nat):Int)]]:List (List Dat)).length≤1073741824)∧(∃ y2:Nat,(y2≤s.tables.length)∧(s.tables.length - y2 < s.tables.length - x1)∧((rf (Value.int .i64 (((vecsD s.tables).length:Nat):Int)))∧(Value.int .i64 (IntKind.i64.wrap (((x1:Nat):Int)+(1:Int)))=Value.int .i64 ((y2:Nat):Int))∧(rf (Value.int .i64 s.low.1))∧(rf (Value.int .i64 s.low.2))∧(rf (Value.int .i64 s.high.1))∧(rf (Value.int .i64 s.high.2))∧(rf (vecsD s.robot))∧(rf (areasD s.obst))∧(rf (vecsD s.tables))∧(((openT s x1)++([[Dat.int ((x1:Nat):Int)]]:List (List Dat)))=(openT s y2))))))∧((canT i2.1 (i2.2.1,i2.2.2))=false→(∃ y3:Nat,(y3≤s.tables.length)∧(s.tables.length - y3 < s.tables.length - x1)∧((rf (Value.int .i64 (((vecsD s.tables).length:Nat):Int)))∧(Value.int .i64 (IntKind.i64.wrap (((x1:Nat):Int)+(1:Int)))=Value.int .i64 ((y3:Nat):Int))∧(rf (Value.int .i64 s.low.1))∧(rf (Value.int .i64 s.low.2))∧(rf (Value.int .i64 s.high.1))∧(rf (Value.int .i64 s.high.2))∧(rf (vecsD s.robot))∧(rf (areasD s.obst))∧(rf (vecsD s.tables))∧((openT s x1)=(openT s y3))))))))))∧((decide (((x1:Nat):Int) < (((vecsD s.tables).length:Nat):Int)))=false→(((openT s x1)=openR s)))))))) (by kernel_rfl) ?_
 have hz:=hpre.2.2.2
 have hvl:=vecsD_length s.tables
 refine ⟨s,by
  rfl,by
  first|exact hpre|trivial|omega,?_⟩
 refine ⟨fun c4=>?_,fun c4=>?_⟩
 ·skip
  try simp only [nrm] at c4
  have hE:=openR_no c4
  show ([]:List (List Dat))=openR s
  rw [hE]
 ·skip
  try simp only [nrm] at c4
  have hE:=openR_yes c4
  refine ⟨⟨0,by
   first|trivial|omega|(simp;omega),?_⟩,?_⟩
  ·skip
   refine ⟨rfl,?_,rfl,rfl,rfl,rfl,rfl,rfl,rfl,?_⟩
   ·show Value.int .i64 (0:Int)=Value.int .i64 ((0:Nat):Int)
    first|rfl|(simp;done)
   show ([]:List (List Dat))=(openT s 0)
   first|rfl|(simp;done)
  intro (k:Nat) hki6
  have hki6:k≤s.tables.length:=hki6
  refine ⟨fun c18=>?_,fun c18=>?_⟩
  ·skip
   try simp only [nrm] at c18
   have hol:=openT_len s k
   have o19:0≤((k:Nat):Int)∧((k:Nat):Int) < ((vecsD s.tables).length:Int):=by
    first|omega|(simp only [List.length_cons,List.length_nil];omega)
   refine ⟨o19,?_⟩
   have o20:k < (vecsD s.tables).length:=by
    first|omega|(simp only [List.length_cons,List.length_nil];omega)
   refine ⟨o20,?_⟩
   refine ⟨(s,(s.tables.getD k (0,0)).1,(s.tables.getD k (0,0)).2),by
    rw [vecs_x (by omega),vecs_y (by omega)];rfl,by
    show scnSz s
    first|exact hpre|trivial|omega,?_⟩
   refine ⟨fun c24=>?_,fun c24=>?_⟩
   ·skip
    replace c24:(canT s (((s.tables.getD k (0,0)).1),((s.tables.getD k (0,0)).2)))=true:=c24
    try simp only [nrm] at c24
    have o25:(openT s k).length+([[Dat.int ((k:Nat):Int)]]:List (List Dat)).length≤1073741824:=by
     first|omega|(simp only [List.length_cons,List.length_nil];omega)
    refine ⟨o25,?_⟩
    refine ⟨k+1,by
     first|trivial|omega|(simp;omega),by
     first|omega|(simp;omega),?_⟩
    refine ⟨rfl,?_,rfl,rfl,rfl,rfl,rfl,rfl,rfl,?_⟩
    ·first|rfl|exact vint (wrap64 (by omega) (by omega))
    show ((openT s k)++([[Dat.int ((k:Nat):Int)]]:List (List Dat)))=(openT s (k+1))
    exact (open_yes c24).symm
   ·skip
    replace c24:(canT s (((s.tables.getD k (0,0)).1),((s.tables.getD k (0,0)).2)))=false:=c24
    try simp only [nrm] at c24
    refine ⟨k+1,by
     first|trivial|omega|(simp;omega),by
     first|omega|(simp;omega),?_⟩
    refine ⟨rfl,?_,rfl,rfl,rfl,rfl,rfl,rfl,rfl,?_⟩
    ·first|rfl|exact vint (wrap64 (by omega) (by omega))
    show (openT s k)=(openT s (k+1))
    exact (open_no c24).symm
  ·skip
   try simp only [nrm] at c18
   show (openT s k)=openR s
   rw [hE,show k=s.tables.length by omega]
def sOpen_con:Con:={ ι:=Scn,pre:=fun i=>scnSz i,args:=fun i=>[.agg [.im (.int .i64 i.low.1),.im (.int .i64 i.low.2),.im (.int .i64 i.high.1),.im (.int .i64 i.high.2),.sl 31 [.int,.int] (vecsD i.robot),.sl 32 [.sl 31 [.int,.int]] (areasD i.obst),.sl 31 [.int,.int] (vecsD i.tables)]],res:=fun i=>⟨false,[none],[.own 3 [.int] (openR i)]⟩ }
set_option maxRecDepth 100000 in
theorem sOpen_ok:sOpen_con.Ok Tryz.prog 33:=by
 refine fn_ok (X:=⟨tt,[(64,sValid_con),(65,sCanTurn_con)],[],27⟩) mixed tt_ok (CTok.cons sValid_ok (CTok.cons sCanTurn_ok (CTok.nil _))) Tryz.func33 (by decide) rfl rfl rfl (fun _=>Nat.le_of_ble_eq_true rfl) (fun _=>Nat.le_of_ble_eq_true rfl) (fun (i:Scn)=>[(5,.mk 6 (Nat) (fun x1=>{ tm:=[(1,.one (.one (.bp 1 0))),(11,.one (.one (.ext 4))),(12,.one (.one (.im (Value.int .i64 (((vecsD i.tables).length:Nat):Int))))),(13,.one (.one (.im (Value.int .i64 ((x1:Nat):Int))))),(3,.one (.one (.ext 5)))],en:=[(1,.box [.im (Value.int .i64 i.low.1),.im (Value.int .i64 i.low.2),.im (Value.int .i64 i.high.1),.im (Value.int .i64 i.high.2),.ext 2,.ext 3,.ext 4]),(2,.view 31 [.int,.int] (vecsD i.robot) []),(3,.view 32 [.sl 31 [.int,.int]] (areasD i.obst) []),(4,.view 31 [.int,.int] (vecsD i.tables) []),(5,.own 3 [.int] (openT i x1))] }) (fun x1=>x1≤i.tables.length) (fun x1=>i.tables.length - x1) (fun _=>[]))]) ?_
 intro (s:Scn) hpre
 have hpre:scnSz s:=hpre
 refine by_nf (q:=∃ i1:Scn,[DA.agg [cI s.low.1,cI s.low.2,cI s.high.1,cI s.high.2,DC.sl 31 [.int,.int] (vecsD s.robot),DC.sl 32 [.sl 31 [.int,.int]] (areasD s.obst),DC.sl 31 [.int,.int] (vecsD s.tables)]]=sValid_con.args i1∧sValid_con.pre i1∧(((!(validScn i1))=true→((([]:List (List Dat))=openR s)))∧((!(validScn i1))=false→((∃ x1:Nat,(x1≤s.tables.length)∧((rf (Value.int .i64 (((vecsD s.tables).length:Nat):Int)))∧(Value.int .i64 (0:Int)=Value.int .i64 ((x1:Nat):Int))∧(rf (Value.int .i64 s.low.1))∧(rf (Value.int .i64 s.low.2))∧(rf (Value.int .i64 s.high.1))∧(rf (Value.int .i64 s.high.2))∧(rf (vecsD s.robot))∧(rf (areasD s.obst))∧(rf (vecsD s.tables))∧(([]:List (List Dat))=(openT s x1))))∧∀ x1:Nat,(x1≤s.tables.length)→(((decide (((x1:Nat):Int) < (((vecsD s.tables).length:Nat):Int)))=true→((0≤((x1:Nat):Int)∧((x1:Nat):Int) < ((vecsD s.tables).length:Int))∧((x1 < (vecsD s.tables).length)∧(∃ i2:Scn×Int×Int,[DA.agg [cI s.low.1,cI s.low.2,cI s.high.1,cI s.high.2,DC.sl 31 [.int,.int] (vecsD s.robot),DC.sl 32 [.sl 31 [.int,.int]] (areasD s.obst),DC.sl 31 [.int,.int] (vecsD s.tables)],DA.agg [cI (((((vecsD s.tables).getD x1 []).getD 0 (.int 0))).n),cI (((((vecsD s.tables).getD x1 []).getD 1 (.int 0))).n)]]=sCanTurn_con.args i2∧sCanTurn_con.pre i2∧(((canT i2.1 (i2.2.1,i2.2.2))=true→(((openT s x1).length+([[Dat.int ((x1:Nat):Int)]]:List (List Dat)).length≤1073741824)∧(∃ y2:Nat,(y2≤s.tables.length)∧(s.tables.length - y2 < s.tables.length - x1)∧((rf (Value.int .i64 (((vecsD s.tables).length:Nat):Int)))∧(Value.int .i64 (IntKind.i64.wrap (((x1:Nat):Int)+(1:Int)))=Value.int .i64 ((y2:Nat):Int))∧(rf (Value.int .i64 s.low.1))∧(rf (Value.int .i64 s.low.2))∧(rf (Value.int .i64 s.high.1))∧(rf (Value.int .i64 s.high.2))∧(rf (vecsD s.robot))∧(rf (areasD s.obst))∧(rf (vecsD s.tables))∧(((openT s x1)++([[Dat.int ((x1:Nat):Int)]]:List (List Dat)))=(openT s y2))))))∧((canT i2.1 (i2.2.1,i2.2.2))=false→(∃ y3:Nat,(y3≤s.tables.length)∧(s.tables.length - y3 < s.tables.length - x1)∧((rf (Value.int .i64 (((vecsD s.tables).length:Nat):Int)))∧(Value.int .i64 (IntKind.i64.wrap (((x1:Nat):Int)+(1:Int)))=Value.int .i64 ((y3:Nat):Int))∧(rf (Value.int .i64 s.low.1))∧(rf (Value.int .i64 s.low.2))∧(rf (Value.int .i64 s.high.1))∧(rf (Value.int .i64 s.high.2))∧(rf (vecsD s.robot))∧(rf (areasD s.obst))∧(rf (vecsD s.tables))∧((openT s x1)=(openT s y3))))))))))∧((decide (((x1:Nat):Int) < (((vecsD s.tables).length:Nat):Int)))=false→(((openT s x1)=openR s)))))))) (by kernel_rfl) ?_
 have hz:=hpre.2.2.2
 have hvl:=vecsD_length s.tables
 refine ⟨s,by
  rfl,by
  first|exact hpre|trivial|omega,?_⟩
 refine ⟨fun c4=>?_,fun c4=>?_⟩
 ·skip
  try simp only [nrm] at c4
  have hE:=openR_no c4
  show ([]:List (List Dat))=openR s
  rw [hE]
 ·skip
  try simp only [nrm] at c4
  have hE:=openR_yes c4
  refine ⟨⟨0,by
   first|trivial|omega|(simp;omega),?_⟩,?_⟩
  ·skip
   refine ⟨rfl,?_,rfl,rfl,rfl,rfl,rfl,rfl,rfl,?_⟩
   ·show Value.int .i64 (0:Int)=Value.int .i64 ((0:Nat):Int)
    first|rfl|(simp;done)
   show ([]:List (List Dat))=(openT s 0)
   first|rfl|(simp;done)
  intro (k:Nat) hki6
  have hki6:k≤s.tables.length:=hki6
  refine ⟨fun c18=>?_,fun c18=>?_⟩
  ·skip
   try simp only [nrm] at c18
   have hol:=openT_len s k
   have o19:0≤((k:Nat):Int)∧((k:Nat):Int) < ((vecsD s.tables).length:Int):=by
    first|omega|(simp only [List.length_cons,List.length_nil];omega)
   refine ⟨o19,?_⟩
   have o20:k < (vecsD s.tables).length:=by
    first|omega|(simp only [List.length_cons,List.length_nil];omega)
   refine ⟨o20,?_⟩
   refine ⟨(s,(s.tables.getD k (0,0)).1,(s.tables.getD k (0,0)).2),by
    rw [vecs_x (by omega),vecs_y (by omega)];rfl,by
    show scnSz s
    first|exact hpre|trivial|omega,?_⟩
   refine ⟨fun c24=>?_,fun c24=>?_⟩
   ·skip
    replace c24:(canT s (((s.tables.getD k (0,0)).1),((s.tables.getD k (0,0)).2)))=true:=c24
    try simp only [nrm] at c24
    have o25:(openT s k).length+([[Dat.int ((k:Nat):Int)]]:List (List Dat)).length≤1073741824:=by
     first|omega|(simp only [List.length_cons,List.length_nil];omega)
    refine ⟨o25,?_⟩
    refine ⟨k+1,by
     first|trivial|omega|(simp;omega),by
     first|omega|(simp;omega),?_⟩
    refine ⟨rfl,?_,rfl,rfl,rfl,rfl,rfl,rfl,rfl,?_⟩
    ·first|rfl|exact vint (wrap64 (by omega) (by omega))
    show ((openT s k)++([[Dat.int ((k:Nat):Int)]]:List (List Dat)))=(openT s (k+1))
    exact (open_yes c24).symm
   ·skip
    replace c24:(canT s (((s.tables.getD k (0,0)).1),((s.tables.getD k (0,0)).2)))=false:=c24
    try simp only [nrm] at c24
    refine ⟨k+1,by
     first|trivial|omega|(simp;omega),by
     first|omega|(simp;omega),?_⟩
    refine ⟨rfl,?_,rfl,rfl,rfl,rfl,rfl,rfl,rfl,?_⟩
    ·first|rfl|exact vint (wrap64 (by omega) (by omega))
    show (openT s k)=(openT s (k+1))
    exact (open_no c24).symm
  ·skip
   try simp only [nrm] at c18
   show (openT s k)=openR s
   rw [hE,show k=s.tables.length by omega]
end Go.Proofs.YtppjhpglejehkaaGreat
