import Derived.Test.YthnkggacopepgaaGreatSwRkJ
import Derived.Test.YthnkggacopepgaaGreatSwSwN
namespace Go.Proofs.YthnkggacopepgaaGreat
set_option linter.unusedVariables false
set_option linter.unusedSimpArgs false
open Go.RowKit
theorem robot_some {s:Scn} {h:Int} (hn:(validScn s && inR h 0 3)=true):0 < (robotAt s h).length:=by
 rw [Bool.and_eq_true] at hn
 exact List.length_pos_iff.2 (robotAt_ne hn.1 (inR_iff.1 hn.2))
def iCornN_con:Con:={ ι:=Scn×Int×PtD,pre:=fun i=>i.2.2.has∧(validScn i.1 && inR i.2.1 0 3)=true∧corR i.1 i.2.1 i.2.2=[],args:=fun i=>[.agg [.im (.int .i64 i.1.low.1),.im (.int .i64 i.1.low.2),.im (.int .i64 i.1.high.1),.im (.int .i64 i.1.high.2),.sl 61 [.int,.int] (vecsD i.1.robot),.sl 33 [.sl 61 [.int,.int]] (areasD i.1.obst),.sl 61 [.int,.int] (vecsD i.1.tables)],.one (.im (.int .i64 i.2.1)),.agg [.im (.bool i.2.2.x.neg),.sl 3 [.int] i.2.2.x.num,.sl 3 [.int] i.2.2.x.den,.im (.bool i.2.2.y.neg),.sl 3 [.int] i.2.2.y.num,.sl 3 [.int] i.2.2.y.den]],res:=fun i=>⟨false,[none],[.im (Value.slice none 0 0)]⟩ }
set_option maxRecDepth 100000 in
theorem iCornN_ok:iCornN_con.Ok Tryz.prog 36:=by
 refine fn_ok (X:=⟨tt,[(87,iRobotAt_con),(65,arePoints_con),(88,iMovePt_con),(89,goodPt_con)],[],42⟩) mixed tt_ok (CTok.cons iRobotAt_ok (CTok.cons arePoints_ok (CTok.cons iMovePt_ok (CTok.cons goodPt_ok (CTok.nil _))))) Tryz.func36 (by decide) rfl rfl rfl (fun _=>Nat.le_of_ble_eq_true rfl) (fun _=>Nat.le_of_ble_eq_true rfl) (fun (i:Scn×Int×PtD)=>[(6,.mk 8 (Nat) (fun x1=>{ tm:=[(5,.one (.one (.bp 1 0))),(24,.one (.one (.ext 6))),(25,.one (.one (.im (Value.int .i64 (((vecsD (robotAt i.1 i.2.1)).length:Nat):Int))))),(26,.one (.one (.im (Value.int .i64 ((x1:Nat):Int))))),(8,.one (.one (.ext 7)))],en:=[(1,.box [.im (Value.bool i.2.2.x.neg),.ext 2,.ext 3,.im (Value.bool i.2.2.y.neg),.ext 4,.ext 5]),(2,.view 3 [.int] i.2.2.x.num []),(3,.view 3 [.int] i.2.2.x.den []),(4,.view 3 [.int] i.2.2.y.num []),(5,.view 3 [.int] i.2.2.y.den []),(6,.own 61 [.int,.int] (vecsD (robotAt i.1 i.2.1))),(7,.own 39 [.bool,.sl 3 [.int],.sl 3 [.int],.bool,.sl 3 [.int],.sl 3 [.int]] (corT i.2.2 ((robotAt i.1 i.2.1).take x1)))] }) (fun x1=>x1≤(robotAt i.1 i.2.1).length∧∀ j,j < x1→(mvR i.2.2 ((robotAt i.1 i.2.1).getD j (0,0))).good=true) (fun x1=>(robotAt i.1 i.2.1).length - x1) (fun _=>[]))]) ?_
 rintro ⟨s,h,p⟩ hpre
 have hpre:p.has∧(validScn s && inR h 0 3)=true∧corR s h p=[]:=hpre
 refine by_nf (q:=∃ i1:Scn×Int,[DA.agg [cI s.low.1,cI s.low.2,cI s.high.1,cI s.high.2,DC.sl 61 [.int,.int] (vecsD s.robot),DC.sl 33 [.sl 61 [.int,.int]] (areasD s.obst),DC.sl 61 [.int,.int] (vecsD s.tables)],DA.one (cI h)]=iRobotAt_con.args i1∧iRobotAt_con.pre i1∧(∀ b2:Bool,(b2=true→vecsD (robotAt i1.1 i1.2)=[])→(((!b2)=true→(∃ i3:(List (List Dat)),[DA.one (DC.sl 39 [.bool,.sl 3 [.int],.sl 3 [.int],.bool,.sl 3 [.int],.sl 3 [.int]] ([[Dat.bool p.x.neg,Dat.sl p.x.num,Dat.sl p.x.den,Dat.bool p.y.neg,Dat.sl p.y.num,Dat.sl p.y.den]]:List (List Dat)))]=arePoints_con.args i3∧arePoints_con.pre i3∧(((!(!(i3.any (fun r=>!(okP (ptOf r))))))=true→((Value.slice none 0 0=Value.slice none 0 0)))∧((!(!(i3.any (fun r=>!(okP (ptOf r))))))=false→((∃ x1:Nat,(x1≤(robotAt s h).length∧∀ j,j < x1→(mvR p ((robotAt s h).getD j (0,0))).good=true)∧((Value.int .i64 (((vecsD (robotAt i1.1 i1.2)).length:Nat):Int)=Value.int .i64 (((vecsD (robotAt s h)).length:Nat):Int))∧(Value.int .i64 (0:Int)=Value.int .i64 ((x1:Nat):Int))∧(rf (Value.bool p.x.neg))∧(rf (Value.bool p.y.neg))∧(rf (p.x.num))∧(rf (p.x.den))∧(rf (p.y.num))∧(rf (p.y.den))∧(vecsD (robotAt i1.1 i1.2)=(vecsD (robotAt s h)))∧(([]:List (List Dat))=(corT p ((robotAt s h).take x1)))))∧∀ x1:Nat,(x1≤(robotAt s h).length∧∀ j,j < x1→(mvR p ((robotAt s h).getD j (0,0))).good=true)→(((decide (((x1:Nat):Int) < (((vecsD (robotAt s h)).length:Nat):Int)))=true→((0≤((x1:Nat):Int)∧((x1:Nat):Int) < ((vecsD (robotAt s h)).length:Int))∧((x1 < (vecsD (robotAt s h)).length)∧(∃ i4:Pq×Int×Int,[DA.agg [cB p.x.neg,cS p.x.num,cS p.x.den,cB p.y.neg,cS p.y.num,cS p.y.den],DA.agg [cI (((((vecsD (robotAt s h)).getD x1 []).getD 0 (.int 0))).n),cI (((((vecsD (robotAt s h)).getD x1 []).getD 1 (.int 0))).n)]]=iMovePt_con.args i4∧iMovePt_con.pre i4∧(∃ i5:Pq,[dP ((mvQ i4.1 (i4.2.1,i4.2.2)))]=goodPt_con.args i5∧goodPt_con.pre i5∧(((!i5.good)=true→((Value.slice none 0 0=Value.slice none 0 0)))∧((!i5.good)=false→(((corT p ((robotAt s h).take x1)).length+([[Dat.bool (decide ((mvQ i4.1 (i4.2.1,i4.2.2)).x.z < 0)),Dat.sl (L (mvQ i4.1 (i4.2.1,i4.2.2)).x.z.natAbs),Dat.sl (L (mvQ i4.1 (i4.2.1,i4.2.2)).x.d),Dat.bool (decide ((mvQ i4.1 (i4.2.1,i4.2.2)).y.z < 0)),Dat.sl (L (mvQ i4.1 (i4.2.1,i4.2.2)).y.z.natAbs),Dat.sl (L (mvQ i4.1 (i4.2.1,i4.2.2)).y.d)]]:List (List Dat)).length≤1073741824)∧(∃ y2:Nat,(y2≤(robotAt s h).length∧∀ j,j < y2→(mvR p ((robotAt s h).getD j (0,0))).good=true)∧((robotAt s h).length - y2 < (robotAt s h).length - x1)∧((rf (Value.int .i64 (((vecsD (robotAt s h)).length:Nat):Int)))∧(Value.int .i64 (IntKind.i64.wrap (((x1:Nat):Int)+(1:Int)))=Value.int .i64 ((y2:Nat):Int))∧(rf (Value.bool p.x.neg))∧(rf (Value.bool p.y.neg))∧(rf (p.x.num))∧(rf (p.x.den))∧(rf (p.y.num))∧(rf (p.y.den))∧(rf (vecsD (robotAt s h)))∧(((corT p ((robotAt s h).take x1))++([[Dat.bool (decide ((mvQ i4.1 (i4.2.1,i4.2.2)).x.z < 0)),Dat.sl (L (mvQ i4.1 (i4.2.1,i4.2.2)).x.z.natAbs),Dat.sl (L (mvQ i4.1 (i4.2.1,i4.2.2)).x.d),Dat.bool (decide ((mvQ i4.1 (i4.2.1,i4.2.2)).y.z < 0)),Dat.sl (L (mvQ i4.1 (i4.2.1,i4.2.2)).y.z.natAbs),Dat.sl (L (mvQ i4.1 (i4.2.1,i4.2.2)).y.d)]]:List (List Dat)))=(corT p ((robotAt s h).take y2)))))))))))))∧((decide (((x1:Nat):Int) < (((vecsD (robotAt s h)).length:Nat):Int)))=false→((False)))))))))∧((!b2)=false→((Value.slice none 0 0=Value.slice none 0 0)))))) (by kernel_rfl) ?_
 have hrv:=robotAt_vec s h
 have hvl:=vecsD_length (robotAt s h)
 refine ⟨(s,h),by
  rfl,by
  first|trivial|exact hpre.1,?_⟩
 intro b2 q4
 refine ⟨fun c5=>?_,fun c5=>?_⟩
 ·skip
  try simp only [nrm] at c5
  refine ⟨([[Dat.bool p.x.neg,Dat.sl p.x.num,Dat.sl p.x.den,Dat.bool p.y.neg,Dat.sl p.y.num,Dat.sl p.y.den]]:List (List Dat)),by
   rfl,by
   show ([[Dat.bool p.x.neg,Dat.sl p.x.num,Dat.sl p.x.den,Dat.bool p.y.neg,Dat.sl p.y.num,Dat.sl p.y.den]]:List (List Dat)).length≤9223372036854775807∧∀ k,k < ([[Dat.bool p.x.neg,Dat.sl p.x.num,Dat.sl p.x.den,Dat.bool p.y.neg,Dat.sl p.y.num,Dat.sl p.y.den]]:List (List Dat)).length→(ptOf (([[Dat.bool p.x.neg,Dat.sl p.x.num,Dat.sl p.x.den,Dat.bool p.y.neg,Dat.sl p.y.num,Dat.sl p.y.den]]:List (List Dat)).getD k [])).has
   exact ⟨by show 1≤_;decide,one_has hpre.1⟩,?_⟩
  refine ⟨fun c9=>?_,fun c9=>?_⟩
  ·skip
   try simp only [nrm] at c9
   have c9:okP p=false:=by have h:=(any1 p).symm.trans c9;simpa using h
   exact rfl
  ·skip
   try simp only [nrm] at c9
   have c9:okP p=true:=by have h:=(any1 p).symm.trans c9;simpa using h
   obtain ⟨e1,e2,e3,e4,e5,e6,e7,e8⟩:=pqR_ok hpre.1 c9
   refine ⟨⟨0,by
    exact ⟨Nat.zero_le _,fun j hj=>absurd hj (Nat.not_lt_zero j)⟩,?_⟩,?_⟩
   ·skip
    refine ⟨rfl,?_,rfl,rfl,rfl,rfl,rfl,rfl,rfl,?_⟩
    ·show Value.int .i64 (0:Int)=Value.int .i64 ((0:Nat):Int)
     first|rfl|(simp;done)
    show ([]:List (List Dat))=(corT p ((robotAt s h).take 0))
    first|rfl|(simp;done)
   intro (k:Nat) hki11
   have hki11:k≤(robotAt s h).length∧∀ j,j < k→(mvR p ((robotAt s h).getD j (0,0))).good=true:=hki11
   refine ⟨fun c23=>?_,fun c23=>?_⟩
   ·skip
    try simp only [nrm] at c23
    have o24:0≤((k:Nat):Int)∧((k:Nat):Int) < ((vecsD (robotAt s h)).length:Int):=by
     first|omega|(simp only [corT_len,List.length_take,List.length_cons,List.length_nil];omega)
    refine ⟨o24,?_⟩
    have o25:k < (vecsD (robotAt s h)).length:=by
     first|omega|(simp only [corT_len,List.length_take,List.length_cons,List.length_nil];omega)
    refine ⟨o25,?_⟩
    refine ⟨(pqR p,((robotAt s h).getD k (0,0)).1,((robotAt s h).getD k (0,0)).2),by
     rw [e1,e2,e3,e4,e5,e6,vecs_x (by omega),vecs_y (by omega)];rfl,by
     show (-9223372036854775808≤(((robotAt s h).getD k (0,0)).1)∧(((robotAt s h).getD k (0,0)).1)≤9223372036854775807)∧-9223372036854775808≤(((robotAt s h).getD k (0,0)).2)∧(((robotAt s h).getD k (0,0)).2)≤9223372036854775807
     exact vec_i64 hrv.1 (by omega),?_⟩
    refine ⟨(mvQ (pqR p) ((((robotAt s h).getD k (0,0)).1),(((robotAt s h).getD k (0,0)).2))),by
     rfl,by
     first|trivial|exact hpre.1,?_⟩
    refine ⟨fun c32=>?_,fun c32=>?_⟩
    ·skip
     try simp only [nrm] at c32
     exact rfl
    ·skip
     try simp only [nrm] at c32
     have o34:(corT p ((robotAt s h).take k)).length+([[Dat.bool (decide ((mvQ (pqR p) ((((robotAt s h).getD k (0,0)).1),(((robotAt s h).getD k (0,0)).2))).x.z < 0)),Dat.sl (L (mvQ (pqR p) ((((robotAt s h).getD k (0,0)).1),(((robotAt s h).getD k (0,0)).2))).x.z.natAbs),Dat.sl (L (mvQ (pqR p) ((((robotAt s h).getD k (0,0)).1),(((robotAt s h).getD k (0,0)).2))).x.d),Dat.bool (decide ((mvQ (pqR p) ((((robotAt s h).getD k (0,0)).1),(((robotAt s h).getD k (0,0)).2))).y.z < 0)),Dat.sl (L (mvQ (pqR p) ((((robotAt s h).getD k (0,0)).1),(((robotAt s h).getD k (0,0)).2))).y.z.natAbs),Dat.sl (L (mvQ (pqR p) ((((robotAt s h).getD k (0,0)).1),(((robotAt s h).getD k (0,0)).2))).y.d)]]:List (List Dat)).length≤1073741824:=by
      first|omega|(simp only [corT_len,List.length_take,List.length_cons,List.length_nil];omega)
     refine ⟨o34,?_⟩
     refine ⟨k+1,by
      exact ⟨by omega,lt_step hki11.2 (by rw [mvR_yes c9];exact c32)⟩,by
      first|omega|(simp;omega),?_⟩
     refine ⟨rfl,?_,rfl,rfl,rfl,rfl,rfl,rfl,rfl,?_⟩
     ·first|rfl|exact vint (wrap64 (by omega) (by omega))
     show ((corT p ((robotAt s h).take k))++([[Dat.bool (decide ((mvQ (pqR p) ((((robotAt s h).getD k (0,0)).1),(((robotAt s h).getD k (0,0)).2))).x.z < 0)),Dat.sl (L (mvQ (pqR p) ((((robotAt s h).getD k (0,0)).1),(((robotAt s h).getD k (0,0)).2))).x.z.natAbs),Dat.sl (L (mvQ (pqR p) ((((robotAt s h).getD k (0,0)).1),(((robotAt s h).getD k (0,0)).2))).x.d),Dat.bool (decide ((mvQ (pqR p) ((((robotAt s h).getD k (0,0)).1),(((robotAt s h).getD k (0,0)).2))).y.z < 0)),Dat.sl (L (mvQ (pqR p) ((((robotAt s h).getD k (0,0)).1),(((robotAt s h).getD k (0,0)).2))).y.z.natAbs),Dat.sl (L (mvQ (pqR p) ((((robotAt s h).getD k (0,0)).1),(((robotAt s h).getD k (0,0)).2))).y.d)]]:List (List Dat)))=(corT p ((robotAt s h).take (k+1)))
     rw [← corT_snoc (show k < (robotAt s h).length by omega),mvR_yes c9];rfl
   ·skip
    try simp only [nrm] at c23
    show False
    have hk:(robotAt s h).length=k:=by omega
    have hc:=cor_yes (fun j hj=>hki11.2 j (by omega))
    rw [hpre.2.2] at hc
    have hl:=congrArg List.length hc
    rw [corT_len] at hl
    have hr:=robot_some hpre.2.1
    simp only [List.length_nil] at hl
    omega
 ·skip
  try simp only [nrm] at c5
  exact rfl
theorem corn_calls {P:Program} {c:Con} {f:Nat} (hc:c.Ok P f) (hmu:c.mu=[]) (i:c.ι) (hp:c.pre i) {us:List Value} {w:World} (h:RdRow w (((c.args i).flatMap DA.cells).map DC.ty) (((c.args i).flatMap DA.cells).map DC.dat) us)
  (hok:((c.args i).flatMap DA.cells).all DC.ok=true) (hres:(∃ E T rows,c.res i=⟨false,[none],[.own E T rows]⟩)∨c.res i=⟨false,[none],[.im (.slice none 0 0)]⟩) :
  Calls P f (valD (c.args i) us).toArray w fun e w'=>(∃ a n k,e=.returned (.slice a n k)∧(c.res i=⟨false,[none],[.im (.slice none 0 0)]⟩→a=none))∧Below w.heap.size w w':=by
 obtain ⟨h1,h2⟩:=args_of_row h hok
 refine (hc.calls i hp (fun b=>b < w.heap.size) w us (fun _=>[]) ⟨h1,fun _ h=>h,fun p d u hd hu _=>h2 p d u hd hu,fun j p hj=>?_,fun a b x _ _ _ hx=>by simp at hx,fun j b _ hb=>by simp at hb⟩).mono ?_
 ·rw [hmu] at hj;simp at hj
 ·rintro e w' ⟨rs,bs,rfl,hpost⟩
  have hr:=hpost.res
  refine ⟨?_,hpost.os,hpost.tape,hpost.output,hpost.size,fun b hb=>hpost.keep b hb (fun j hj=>by rw [hmu] at hj;simp at hj)⟩
  rcases hres with ⟨E,T,rows,hres⟩|hres
  ·rw [hres] at hr
   match rs,hr with
   | [u],hr=>
    obtain ⟨b1,b2,_,hf,_⟩:=hr
    obtain ⟨l,a,k,_,rfl,_⟩:=Rd.sl_inv (Fp.rd _ _ _ _ hf)
    exact ⟨a,_,k,by rw [hres];rfl,fun e=>by rw [hres] at e;cases e⟩
  ·rw [hres] at hr
   match rs,hr with
   | [u],hr=>
    obtain ⟨rfl,_⟩:=hr
    exact ⟨none,0,0,by rw [hres];rfl,fun _=>rfl⟩
theorem rdRow_app {w:World} : ∀ {t1:List Ty} {d1:List Dat} {v1:List Value} {t2:List Ty} {d2:List Dat} {v2:List Value},RdRow w t1 d1 v1→RdRow w t2 d2 v2→RdRow w (t1++t2) (d1++d2) (v1++v2)
 | [],[],[],_,_,_,_,h=>h
 | t::ts,d::ds,v::vs,_,_,_,h,h'=>by
  simp only [RdRow,List.cons_append] at h ⊢
  exact ⟨h.1,rdRow_app h.2 h'⟩
 | [],[],_::_,_,_,_,h,_=>by simp [RdRow] at h
 | [],_::_,_,_,_,_,h,_=>by simp [RdRow] at h
 | _::_,[],_,_,_,_,h,_=>by simp [RdRow] at h
 | _::_,_::_,[],_,_,_,h,_=>by simp [RdRow] at h
theorem pt_vals {w:World} {p:PtD} {us:List Value} (h:RdRow w [.bool,.sl 3 [.int],.sl 3 [.int],.bool,.sl 3 [.int],.sl 3 [.int]] (ptD p) us):∃ b0 a1 n1 c1 a2 n2 c2 b3 a4 n4 c4 a5 n5 c5,us=[.bool b0,.slice a1 n1 c1,.slice a2 n2 c2,.bool b3,.slice a4 n4 c4,.slice a5 n5 c5]:=by
 obtain ⟨v0,_,rfl,q0,h⟩:=RdRow.cons2 h
 obtain ⟨v1,_,rfl,q1,h⟩:=RdRow.cons2 h
 obtain ⟨v2,_,rfl,q2,h⟩:=RdRow.cons2 h
 obtain ⟨v3,_,rfl,q3,h⟩:=RdRow.cons2 h
 obtain ⟨v4,_,rfl,q4,h⟩:=RdRow.cons2 h
 obtain ⟨v5,_,rfl,q5,h⟩:=RdRow.cons2 h
 obtain ⟨-,rfl⟩:=RdRow.nil_inv h
 obtain ⟨_,a1,c1,_,rfl,_⟩:=Rd.sl_inv q1
 obtain ⟨_,a2,c2,_,rfl,_⟩:=Rd.sl_inv q2
 obtain ⟨_,a4,c4,_,rfl,_⟩:=Rd.sl_inv q4
 obtain ⟨_,a5,c5,_,rfl,_⟩:=Rd.sl_inv q5
 have e0:v0=.bool p.x.neg:=by simpa [Rd] using q0
 have e3:v3=.bool p.y.neg:=by simpa [Rd] using q3
 subst e0 e3
 exact ⟨_,_,_,_,_,_,_,_,_,_,_,_,_,_,rfl⟩
theorem scn_vals {w:World} {s:Scn} {us:List Value} (h:RdRow w [.int,.int,.int,.int,.sl 61 [.int,.int],.sl 33 [.sl 61 [.int,.int]],.sl 61 [.int,.int]] (scnD s) us):∃ lx ly hx hy ra rn rc oa on oc ta tn tc,us=[.int .i64 lx,.int .i64 ly,.int .i64 hx,.int .i64 hy,.slice ra rn rc,.slice oa on oc,.slice ta tn tc]:=by
 obtain ⟨v0,_,rfl,q0,h⟩:=RdRow.cons2 h
 obtain ⟨v1,_,rfl,q1,h⟩:=RdRow.cons2 h
 obtain ⟨v2,_,rfl,q2,h⟩:=RdRow.cons2 h
 obtain ⟨v3,_,rfl,q3,h⟩:=RdRow.cons2 h
 obtain ⟨v4,_,rfl,q4,h⟩:=RdRow.cons2 h
 obtain ⟨v5,_,rfl,q5,h⟩:=RdRow.cons2 h
 obtain ⟨v6,_,rfl,q6,h⟩:=RdRow.cons2 h
 obtain ⟨-,rfl⟩:=RdRow.nil_inv h
 obtain ⟨_,a4,c4,_,rfl,_⟩:=Rd.sl_inv q4
 obtain ⟨_,a5,c5,_,rfl,_⟩:=Rd.sl_inv q5
 obtain ⟨_,a6,c6,_,rfl,_⟩:=Rd.sl_inv q6
 obtain rfl:=Rd.int2 q0
 obtain rfl:=Rd.int2 q1
 obtain rfl:=Rd.int2 q2
 obtain rfl:=Rd.int2 q3
 exact ⟨_,_,_,_,_,_,_,_,_,_,_,_,_,rfl⟩
theorem corn_any {w:World} {s:Scn} {h:Int} {p:PtD} {us vs:List Value} (hp:p.has) (hs:RdRow w [.int,.int,.int,.int,.sl 61 [.int,.int],.sl 33 [.sl 61 [.int,.int]],.sl 61 [.int,.int]] (scnD s) us) (hq:RdRow w [.bool,.sl 3 [.int],.sl 3 [.int],.bool,.sl 3 [.int],.sl 3 [.int]] (ptD p) vs) :
  Calls Tryz.prog 36 #[.agg us.toArray,.int .i64 h,.agg vs.toArray] w fun e w'=>(∃ a n c,e=.returned (.slice a n c)∧(corR s h p=[]→a=none))∧Below w.heap.size w w':=by
 have hrow:RdRow w ([.int,.int,.int,.int,.sl 61 [.int,.int],.sl 33 [.sl 61 [.int,.int]],.sl 61 [.int,.int]]++([.int]++[.bool,.sl 3 [.int],.sl 3 [.int],.bool,.sl 3 [.int],.sl 3 [.int]])) (scnD s++([.int h]++ptD p)) (us++([.int .i64 h]++vs)):=rdRow_app hs (rdRow_app (show RdRow w [.int] [.int h] [.int .i64 h] by simp [RdRow,Rd]) hq)
 have hl1:=(RdRow.lens _ _ _ hs).2
 have hl2:=(RdRow.lens _ _ _ hq).2
 cases hv:(validScn s && inR h 0 3) with
 | false=>
  obtain ⟨b0,a1,n1,c1,a2,n2,c2,b3,a4,n4,c4,a5,n5,c5,rfl⟩:=pt_vals hq
  refine (CorNil_c s h _ w (RdRow.scene hs) hv b0 b3 a1 a2 a4 a5 n1 n2 n4 n5 c1 c2 c4 c5).mono ?_
  rintro e w' ⟨rfl,hb⟩
  exact ⟨⟨none,0,0,rfl,fun _=>rfl⟩,hb⟩
 | true=>
  by_cases hc:corR s h p=[]
  ·have hval:valD (iCornN_con.args (s,h,p)) (us++([.int .i64 h]++vs))=[.agg us.toArray,.int .i64 h,.agg vs.toArray]:=by
    obtain ⟨b0,a1,n1,c1,a2,n2,c2,b3,a4,n4,c4,a5,n5,c5,rfl⟩:=pt_vals hq
    obtain ⟨lx,ly,hx,hy,ra,rn,rc,oa,on,oc,ta,tn,tc,rfl⟩:=scn_vals hs
    rfl
   have:=corn_calls iCornN_ok rfl (s,h,p) ⟨hp,hv,hc⟩ hrow rfl (.inr rfl)
   rw [hval] at this
   refine this.mono ?_
   rintro e w' ⟨⟨a,n,k,he,hn⟩,hb⟩
   exact ⟨⟨a,n,k,he,fun _=>hn rfl⟩,hb⟩
  ·have hval:valD (iCorners_con.args (s,h,p)) (us++([.int .i64 h]++vs))=[.agg us.toArray,.int .i64 h,.agg vs.toArray]:=by
    obtain ⟨b0,a1,n1,c1,a2,n2,c2,b3,a4,n4,c4,a5,n5,c5,rfl⟩:=pt_vals hq
    obtain ⟨lx,ly,hx,hy,ra,rn,rc,oa,on,oc,ta,tn,tc,rfl⟩:=scn_vals hs
    rfl
   have:=corn_calls iCorners_ok rfl (s,h,p) hp hrow rfl (.inl ⟨_,_,_,rfl⟩)
   rw [hval] at this
   refine this.mono ?_
   rintro e w' ⟨⟨a,n,k,he,hn⟩,hb⟩
   exact ⟨⟨a,n,k,he,fun e=>absurd e hc⟩,hb⟩
def swR (s:Scn) (h:Int) (p q:PtD):List (List Dat):=if corR s h p=[]∨corR s h q=[] then [] else corR s h p++corR s h q
theorem sw_no {s:Scn} {h:Int} {p q:PtD} (e:corR s h p=[]∨corR s h q=[]):swR s h p q=[]:=by unfold swR;rw [if_pos e]
theorem sw_yes {s:Scn} {h:Int} {p q:PtD} (e1:corR s h p≠[]) (e2:corR s h q≠[]):swR s h p q=corR s h p++corR s h q:=by
 unfold swR
 rw [if_neg]
 rintro (e|e)
 ·exact e1 e
 ·exact e2 e
theorem corR_16 (s:Scn) (h:Int) (p:PtD):(corR s h p).length≤16:=by
 unfold corR
 split
 ·rw [corT_len];exact (robotAt_vec s h).2
 ·simp
def iSweptA_con:Con:={ ι:=Scn×Int×PtD×PtD,pre:=fun i=>i.2.2.1.has∧i.2.2.2.has∧corR i.1 i.2.1 i.2.2.1≠[]∧corR i.1 i.2.1 i.2.2.2≠[],args:=fun i=>[.agg [.im (.int .i64 i.1.low.1),.im (.int .i64 i.1.low.2),.im (.int .i64 i.1.high.1),.im (.int .i64 i.1.high.2),.sl 61 [.int,.int] (vecsD i.1.robot),.sl 33 [.sl 61 [.int,.int]] (areasD i.1.obst),.sl 61 [.int,.int] (vecsD i.1.tables)],.one (.im (.int .i64 i.2.1)),.agg [.im (.bool i.2.2.1.x.neg),.sl 3 [.int] i.2.2.1.x.num,.sl 3 [.int] i.2.2.1.x.den,.im (.bool i.2.2.1.y.neg),.sl 3 [.int] i.2.2.1.y.num,.sl 3 [.int] i.2.2.1.y.den],.agg [.im (.bool i.2.2.2.x.neg),.sl 3 [.int] i.2.2.2.x.num,.sl 3 [.int] i.2.2.2.x.den,.im (.bool i.2.2.2.y.neg),.sl 3 [.int] i.2.2.2.y.num,.sl 3 [.int] i.2.2.2.y.den]],res:=fun i=>⟨false,[none],[.own 39 [.bool,.sl 3 [.int],.sl 3 [.int],.bool,.sl 3 [.int],.sl 3 [.int]] (swR i.1 i.2.1 i.2.2.1 i.2.2.2)]⟩ }
set_option maxRecDepth 100000 in
theorem iSweptA_ok:iSweptA_con.Ok Tryz.prog 46:=by
 refine fn_ok (X:=⟨tt,[(36,iCorners_con)],[],28⟩) mixed tt_ok (CTok.cons iCorners_ok (CTok.nil _)) Tryz.func46 (by decide) rfl rfl rfl (fun _=>Nat.le_of_ble_eq_true rfl) (fun _=>Nat.le_of_ble_eq_true rfl) (fun _=>[]) ?_
 rintro ⟨s,h,p,q⟩ hpre
 have hpre:p.has∧q.has∧corR s h p≠[]∧corR s h q≠[]:=hpre
 refine by_nf (q:=∃ i1:Scn×Int×PtD,[DA.agg [cI s.low.1,cI s.low.2,cI s.high.1,cI s.high.2,DC.sl 61 [.int,.int] (vecsD s.robot),DC.sl 33 [.sl 61 [.int,.int]] (areasD s.obst),DC.sl 61 [.int,.int] (vecsD s.tables)],DA.one (cI h),DA.agg [cB p.x.neg,cS p.x.num,cS p.x.den,cB p.y.neg,cS p.y.num,cS p.y.den]]=iCorners_con.args i1∧iCorners_con.pre i1∧(∃ i2:Scn×Int×PtD,[DA.agg [cI s.low.1,cI s.low.2,cI s.high.1,cI s.high.2,DC.sl 61 [.int,.int] (vecsD s.robot),DC.sl 33 [.sl 61 [.int,.int]] (areasD s.obst),DC.sl 61 [.int,.int] (vecsD s.tables)],DA.one (cI h),DA.agg [cB q.x.neg,cS q.x.num,cS q.x.den,cB q.y.neg,cS q.y.num,cS q.y.den]]=iCorners_con.args i2∧iCorners_con.pre i2∧(∀ b3:Bool,(b3=true→corR i1.1 i1.2.1 i1.2.2=[])→(((!b3)=true→(∀ b4:Bool,(b4=true→corR i2.1 i2.2.1 i2.2.2=[])→((b4=true→((([]:List (List Dat))=swR s h p q)))∧(b4=false→(((corR i1.1 i1.2.1 i1.2.2).length+(corR i2.1 i2.2.1 i2.2.2).length≤1073741824)∧(((corR i1.1 i1.2.1 i1.2.2++corR i2.1 i2.2.1 i2.2.2)=swR s h p q)))))))∧((!b3)=false→((([]:List (List Dat))=swR s h p q))))))) (by kernel_rfl) ?_
 have l1:=corR_16 s h p
 have l2:=corR_16 s h q
 have hE:=sw_yes hpre.2.2.1 hpre.2.2.2
 refine ⟨(s,h,p),by
  rfl,by
  show p.has
  first|exact hpre.1|exact hpre.2.1,?_⟩
 refine ⟨(s,h,q),by
  rfl,by
  show q.has
  first|exact hpre.1|exact hpre.2.1,?_⟩
 intro b3 q7
 refine ⟨fun c8=>?_,fun c8=>?_⟩
 ·skip
  try simp only [nrm] at c8
  intro b4 q9
  refine ⟨fun c10=>?_,fun c10=>?_⟩
  ·skip
   try simp only [nrm] at c10
   show ([]:List (List Dat))=swR s h p q
   exact absurd (q9 c10) hpre.2.2.2
  ·skip
   try simp only [nrm] at c10
   have o12:(corR s h p).length+(corR s h q).length≤1073741824:=by
    first|rfl|omega|(simp;done)|(simp;omega)
   refine ⟨o12,?_⟩
   show (corR s h p++corR s h q)=swR s h p q
   rw [hE]
 ·skip
  try simp only [nrm] at c8
  show ([]:List (List Dat))=swR s h p q
  exact absurd (q7 c8) hpre.2.2.1
def sSwept_con:Con:={ ι:=Scn×Int×PtD×PtD,pre:=fun i=>i.2.2.1.has∧i.2.2.2.has,args:=fun i=>[.agg [.im (.int .i64 i.1.low.1),.im (.int .i64 i.1.low.2),.im (.int .i64 i.1.high.1),.im (.int .i64 i.1.high.2),.sl 61 [.int,.int] (vecsD i.1.robot),.sl 33 [.sl 61 [.int,.int]] (areasD i.1.obst),.sl 61 [.int,.int] (vecsD i.1.tables)],.one (.im (.int .i64 i.2.1)),.agg [.im (.bool i.2.2.1.x.neg),.sl 3 [.int] i.2.2.1.x.num,.sl 3 [.int] i.2.2.1.x.den,.im (.bool i.2.2.1.y.neg),.sl 3 [.int] i.2.2.1.y.num,.sl 3 [.int] i.2.2.1.y.den],.agg [.im (.bool i.2.2.2.x.neg),.sl 3 [.int] i.2.2.2.x.num,.sl 3 [.int] i.2.2.2.x.den,.im (.bool i.2.2.2.y.neg),.sl 3 [.int] i.2.2.2.y.num,.sl 3 [.int] i.2.2.2.y.den]],res:=fun i=>⟨false,[none],[.own 39 [.bool,.sl 3 [.int],.sl 3 [.int],.bool,.sl 3 [.int],.sl 3 [.int]] (swR i.1 i.2.1 i.2.2.1 i.2.2.2)]⟩ }
set_option maxRecDepth 100000 in
theorem sSwept_ok:sSwept_con.Ok Tryz.prog 45:=by
 refine fn_ok (X:=⟨tt,[(34,sCorners_con)],[],30⟩) mixed tt_ok (CTok.cons sCorners_ok (CTok.nil _)) Tryz.func45 (by decide) rfl rfl rfl (fun _=>Nat.le_of_ble_eq_true rfl) (fun _=>Nat.le_of_ble_eq_true rfl) (fun _=>[]) ?_
 rintro ⟨s,h,p,q⟩ hpre
 have hpre:p.has∧q.has:=hpre
 refine by_nf (q:=∃ i1:Scn×Int×PtD,[DA.agg [cI s.low.1,cI s.low.2,cI s.high.1,cI s.high.2,DC.sl 61 [.int,.int] (vecsD s.robot),DC.sl 33 [.sl 61 [.int,.int]] (areasD s.obst),DC.sl 61 [.int,.int] (vecsD s.tables)],DA.one (cI h),DA.agg [cB p.x.neg,cS p.x.num,cS p.x.den,cB p.y.neg,cS p.y.num,cS p.y.den]]=sCorners_con.args i1∧sCorners_con.pre i1∧(∃ i2:Scn×Int×PtD,[DA.agg [cI s.low.1,cI s.low.2,cI s.high.1,cI s.high.2,DC.sl 61 [.int,.int] (vecsD s.robot),DC.sl 33 [.sl 61 [.int,.int]] (areasD s.obst),DC.sl 61 [.int,.int] (vecsD s.tables)],DA.one (cI h),DA.agg [cB q.x.neg,cS q.x.num,cS q.x.den,cB q.y.neg,cS q.y.num,cS q.y.den]]=sCorners_con.args i2∧sCorners_con.pre i2∧(((!((((corR i1.1 i1.2.1 i1.2.2).length:Nat):Int) == (0:Int)))=true→((((((corR i2.1 i2.2.1 i2.2.2).length:Nat):Int) == (0:Int))=true→((([]:List (List Dat))=swR s h p q)))∧(((((corR i2.1 i2.2.1 i2.2.2).length:Nat):Int) == (0:Int))=false→(((corR i1.1 i1.2.1 i1.2.2).length+(corR i2.1 i2.2.1 i2.2.2).length≤1073741824)∧(((corR i1.1 i1.2.1 i1.2.2++corR i2.1 i2.2.1 i2.2.2)=swR s h p q))))))∧((!((((corR i1.1 i1.2.1 i1.2.2).length:Nat):Int) == (0:Int)))=false→((([]:List (List Dat))=swR s h p q)))))) (by kernel_rfl) ?_
 have l1:=corR_16 s h p
 have l2:=corR_16 s h q
 refine ⟨(s,h,p),by
  rfl,by
  show p.has
  first|exact hpre.1|exact hpre.2,?_⟩
 refine ⟨(s,h,q),by
  rfl,by
  show q.has
  first|exact hpre.1|exact hpre.2,?_⟩
 refine ⟨fun c7=>?_,fun c7=>?_⟩
 ·skip
  replace c7:(!((((corR s h p).length:Nat):Int) == (0:Int)))=true:=c7
  try simp only [nrm] at c7
  refine ⟨fun c8=>?_,fun c8=>?_⟩
  ·skip
   replace c8:((((corR s h q).length:Nat):Int) == (0:Int))=true:=c8
   try simp only [nrm] at c8
   show ([]:List (List Dat))=swR s h p q
   rw [sw_no (.inr (List.eq_nil_of_length_eq_zero (by omega)))]
  ·skip
   replace c8:((((corR s h q).length:Nat):Int) == (0:Int))=false:=c8
   try simp only [nrm] at c8
   have o10:(corR s h p).length+(corR s h q).length≤1073741824:=by
    first|rfl|omega|(simp;done)|(simp;omega)
   refine ⟨o10,?_⟩
   show (corR s h p++corR s h q)=swR s h p q
   rw [sw_yes (fun e=>by simp [e] at c7) (fun e=>by simp [e] at c8)]
 ·skip
  replace c7:(!((((corR s h p).length:Nat):Int) == (0:Int)))=false:=c7
  try simp only [nrm] at c7
  show ([]:List (List Dat))=swR s h p q
  rw [sw_no (.inl (List.eq_nil_of_length_eq_zero (by omega)))]
def iSweptB_con:Con:={ ι:=Scn×Int×PtD×PtD,pre:=fun i=>i.2.2.1.has∧i.2.2.2.has∧(corR i.1 i.2.1 i.2.2.1=[]∨corR i.1 i.2.1 i.2.2.2=[]),args:=fun i=>[.agg [.im (.int .i64 i.1.low.1),.im (.int .i64 i.1.low.2),.im (.int .i64 i.1.high.1),.im (.int .i64 i.1.high.2),.sl 61 [.int,.int] (vecsD i.1.robot),.sl 33 [.sl 61 [.int,.int]] (areasD i.1.obst),.sl 61 [.int,.int] (vecsD i.1.tables)],.one (.im (.int .i64 i.2.1)),.agg [.im (.bool i.2.2.1.x.neg),.sl 3 [.int] i.2.2.1.x.num,.sl 3 [.int] i.2.2.1.x.den,.im (.bool i.2.2.1.y.neg),.sl 3 [.int] i.2.2.1.y.num,.sl 3 [.int] i.2.2.1.y.den],.agg [.im (.bool i.2.2.2.x.neg),.sl 3 [.int] i.2.2.2.x.num,.sl 3 [.int] i.2.2.2.x.den,.im (.bool i.2.2.2.y.neg),.sl 3 [.int] i.2.2.2.y.num,.sl 3 [.int] i.2.2.2.y.den]],res:=fun i=>⟨false,[none],[.own 39 [.bool,.sl 3 [.int],.sl 3 [.int],.bool,.sl 3 [.int],.sl 3 [.int]] (swR i.1 i.2.1 i.2.2.1 i.2.2.2)]⟩ }
theorem iSweptB_ok:iSweptB_con.Ok Tryz.prog 46:=genOwn_ok rfl ⟨_,Tryz.func46,by decide,rfl⟩ (fun _=>Nat.le_of_ble_eq_true rfl) (fun _=>rfl) (fun i=>[.sl 39 [.bool,.sl 3 [.int],.sl 3 [.int],.bool,.sl 3 [.int],.sl 3 [.int]] (swR i.1 i.2.1 i.2.2.1 i.2.2.2)]) (fun _=>rfl) (fun _=>rfl) (fun i hp w us h=>by
 obtain ⟨s,k,p,q⟩:=i
 have h:RdRow w ([.int,.int,.int,.int,.sl 61 [.int,.int],.sl 33 [.sl 61 [.int,.int]],.sl 61 [.int,.int]]++([.int]++([.bool,.sl 3 [.int],.sl 3 [.int],.bool,.sl 3 [.int],.sl 3 [.int]]++[.bool,.sl 3 [.int],.sl 3 [.int],.bool,.sl 3 [.int],.sl 3 [.int]]))) (scnD s++([.int k]++(ptD p++ptD q))) us:=h
 obtain ⟨hs,h⟩:=RdRow.split (t1:=[.int,.int,.int,.int,.sl 61 [.int,.int],.sl 33 [.sl 61 [.int,.int]],.sl 61 [.int,.int]]) rfl h
 obtain ⟨hk,h⟩:=RdRow.split (t1:=[.int]) rfl h
 obtain ⟨hp1,hq1⟩:=RdRow.split (t1:=[.bool,.sl 3 [.int],.sl 3 [.int],.bool,.sl 3 [.int],.sl 3 [.int]]) rfl h
 generalize hu1:us.take (scnD s).length=u1 at *
 generalize hu2:us.drop (scnD s).length=u2 at *
 generalize hu3:u2.take [Dat.int k].length=u3 at *
 generalize hu4:u2.drop [Dat.int k].length=u4 at *
 generalize hu5:u4.take (ptD p).length=u5 at *
 generalize hu6:u4.drop (ptD p).length=u6 at *
 have hall:us=u1++(u3++(u5++u6)):=by rw [← hu5,← hu6,List.take_append_drop,← hu3,← hu4,List.take_append_drop,← hu1,← hu2,List.take_append_drop]
 obtain ⟨v,_,rfl,hk1,hk2⟩:=RdRow.cons2 hk
 obtain ⟨-,rfl⟩:=RdRow.nil_inv hk2
 obtain rfl:=Rd.int2 hk1
 clear hu1 hu2 hu3 hu4 hu5 hu6 h
 subst hall
 have HS:=Lib.hid hs
 have HP:=Lib.hid hp1
 have HQ:=Lib.hid hq1
 obtain ⟨b0,a1,n1,c1,a2,n2,c2,b3,a4,n4,c4,a5,n5,c5,rfl⟩:=pt_vals hp1
 obtain ⟨d0,e1,m1,k1,e2,m2,k2,d3,e4,m4,k4,e5,m5,k5,rfl⟩:=pt_vals hq1
 obtain ⟨lx,ly,hx,hy,ra,rn,rc,oa,on,oc,ta,tn,tc,rfl⟩:=scn_vals hs
 refine (SweptNil_c lx ly hx hy ra oa ta rn rc on oc tn tc k b0 b3 d0 d3 a1 a2 a4 a5 e1 e2 e4 e5 n1 n2 n4 n5 c1 c2 c4 c5 m1 m2 m4 m5 k1 k2 k4 k5 _ _ hp.2.2 w (fun w1 hb=>corn_any hp.1 (RdRow.below hb _ _ _ HS.out) (RdRow.below hb _ _ _ HP.out)) (fun w1 hb=>corn_any hp.2.1 (RdRow.below hb _ _ _ HS.out) (RdRow.below hb _ _ _ HQ.out))).mono ?_
 rintro e w' ⟨rfl,hb⟩
 refine ⟨[.slice none 0 0],rfl,?_,hb⟩
 show Own w' w.heap.size w'.heap.size [.sl 39 [.bool,.sl 3 [.int],.sl 3 [.int],.bool,.sl 3 [.int],.sl 3 [.int]]] [.sl (swR s k p q)] [.slice none 0 0]
 rw [sw_no hp.2.2]
 exact Own.nilSl _ _ _ _ _)
def iSwept_con:Con:={ ι:=Scn×Int×PtD×PtD,pre:=fun i=>i.2.2.1.has∧i.2.2.2.has,args:=fun i=>[.agg [.im (.int .i64 i.1.low.1),.im (.int .i64 i.1.low.2),.im (.int .i64 i.1.high.1),.im (.int .i64 i.1.high.2),.sl 61 [.int,.int] (vecsD i.1.robot),.sl 33 [.sl 61 [.int,.int]] (areasD i.1.obst),.sl 61 [.int,.int] (vecsD i.1.tables)],.one (.im (.int .i64 i.2.1)),.agg [.im (.bool i.2.2.1.x.neg),.sl 3 [.int] i.2.2.1.x.num,.sl 3 [.int] i.2.2.1.x.den,.im (.bool i.2.2.1.y.neg),.sl 3 [.int] i.2.2.1.y.num,.sl 3 [.int] i.2.2.1.y.den],.agg [.im (.bool i.2.2.2.x.neg),.sl 3 [.int] i.2.2.2.x.num,.sl 3 [.int] i.2.2.2.x.den,.im (.bool i.2.2.2.y.neg),.sl 3 [.int] i.2.2.2.y.num,.sl 3 [.int] i.2.2.2.y.den]],res:=fun i=>⟨false,[none],[.own 39 [.bool,.sl 3 [.int],.sl 3 [.int],.bool,.sl 3 [.int],.sl 3 [.int]] (swR i.1 i.2.1 i.2.2.1 i.2.2.2)]⟩ }
theorem iSwept_ok:iSwept_con.Ok Tryz.prog 46 where
 enter:=iSweptA_ok.enter
 small:=fun _=>Nat.le_of_ble_eq_true rfl
 calls:=fun i hp F w us mb h=>by
  by_cases hc:corR i.1 i.2.1 i.2.2.1=[]∨corR i.1 i.2.1 i.2.2.2=[]
  ·refine (iSweptB_ok.calls i ⟨hp.1,hp.2,hc⟩ F w us mb h).mono ?_
   rintro e w' ⟨rs,bs,he,q⟩
   exact ⟨rs,bs,he,⟨q.res,q.nd,q.fresh,q.turned,q.os,q.tape,q.output,q.size,q.keep⟩⟩
  ·rw [not_or] at hc
   refine (iSweptA_ok.calls i ⟨hp.1,hp.2,hc.1,hc.2⟩ F w us mb h).mono ?_
   rintro e w' ⟨rs,bs,he,q⟩
   exact ⟨rs,bs,he,⟨q.res,q.nd,q.fresh,q.turned,q.os,q.tape,q.output,q.size,q.keep⟩⟩
end Go.Proofs.YthnkggacopepgaaGreat
