import Derived.Test.YtblmlkdefjoebaaHgRkSt
import Derived.Test.YtblmlkdefjoebaaHgIntw
import Derived.Test.YtblmlkdefjoebaaHgIntS
import Derived.Test.YtblmlkdefjoebaaHgNum
namespace Go.Proofs.Ytblmlkdefjoebaa
set_option maxRecDepth 100000
set_option linter.unusedVariables false
set_option linter.unusedSimpArgs false
open Go.RowKit Go.Sort Go.Shelf
theorem ascI_at {s:List Int} (h:s.Pairwise (· < ·)) (p:Int):(insI p s).length=if p ∈ s then s.length else s.length+1:=by
 induction s with
 | nil=>simp [insI]
 | cons a t ih=>
  have h1:=List.pairwise_cons.1 h
  have ih:=ih h1.2
  unfold insI
  by_cases h2:a < p
  ·rw [if_pos h2,List.length_cons,ih]
   have e:p ∈ a::t↔p ∈ t:=by rw [List.mem_cons];exact ⟨fun h=>h.elim (fun e=>by omega) id,.inr⟩
   by_cases hm:p ∈ t
   ·rw [if_pos hm,if_pos (e.2 hm)];rfl
   ·rw [if_neg hm,if_neg (fun h=>hm (e.1 h))];rfl
  ·rw [if_neg h2]
   by_cases h3:a=p
   ·rw [if_pos h3,if_pos (by simp [h3])]
   ·rw [if_neg h3,if_neg]
    ·rfl
    ·intro hm
     rcases List.mem_cons.1 hm with e|e
     ·exact h3 e.symm
     ·have:=h1.1 p e;omega
def dcnt (l:List (List Dat)):Nat:=(setI (iR l)).length
def dcT (l:List (List Dat)) (k:Nat):Nat:=(setI ((iR l).take k)).length
theorem dcnt_le (l:List (List Dat)):dcnt l≤l.length:=by unfold dcnt;rw [← iR_len l];exact setI_len _
theorem dcT_all {l:List (List Dat)} {k:Nat} (h:l.length≤k):dcT l k=dcnt l:=by unfold dcT dcnt;rw [List.take_of_length_le (by rw [iR_len];exact h)]
theorem dcT_le (l:List (List Dat)) (k:Nat):dcT l k≤k:=Nat.le_trans (setI_len _) (by rw [List.length_take];omega)
def frT (l:List (List Dat)) (p:Int):Nat→Bool
 | 0=>true
 | k+1=>frT l p k && decide ((((l.getD k []).getD 0 (.int 0)).n)≠p)
theorem frT_iff (l:List (List Dat)) (p:Int):∀ k,k≤l.length→(frT l p k=true↔p ∉ (iR l).take k)
 | 0,_=>by simp [frT]
 | k+1,h=>by
  have ih:=frT_iff l p k (by omega)
  have e:(iR l).take (k+1)=(iR l).take k++[((l.getD k []).getD 0 (.int 0)).n]:=by
   rw [take_snoc' (iR l) 0 k (by rw [iR_len];omega),iR_at (by omega)]
  unfold frT
  rw [e,Bool.and_eq_true,ih,decide_eq_true_iff]
  simp only [List.mem_append,List.mem_singleton,not_or]
  exact ⟨fun h=>⟨h.1,fun e=>h.2 e.symm⟩,fun h=>⟨h.1,fun e=>h.2 e.symm⟩⟩
theorem dc_step {l:List (List Dat)} {k:Nat} (h:k < l.length):dcT l (k+1)=if frT l (((l.getD k []).getD 0 (.int 0)).n) k=true then dcT l k+1 else dcT l k:=by
 have e:(iR l).take (k+1)=(iR l).take k++[((l.getD k []).getD 0 (.int 0)).n]:=by
  rw [take_snoc' (iR l) 0 k (by rw [iR_len];omega),iR_at h]
 unfold dcT
 rw [e,setI_snoc,ascI_at (setI_up _)]
 have hf:=frT_iff l (((l.getD k []).getD 0 (.int 0)).n) k (by omega)
 by_cases hm:((l.getD k []).getD 0 (.int 0)).n ∈ setI ((iR l).take k)
 ·rw [if_pos hm,if_neg (fun h=>(hf.1 h) (mem_setI.1 hm))]
 ·rw [if_neg hm,if_pos (hf.2 fun h=>hm (mem_setI.2 h))]
theorem dc_yes {l:List (List Dat)} {k:Nat} (h:k < l.length) (hf:frT l (((l.getD k []).getD 0 (.int 0)).n) k=true):dcT l (k+1)=dcT l k+1:=by rw [dc_step h,if_pos hf]
theorem dc_no {l:List (List Dat)} {k:Nat} (h:k < l.length) (hf:frT l (((l.getD k []).getD 0 (.int 0)).n) k=false):dcT l (k+1)=dcT l k:=by rw [dc_step h,if_neg (by rw [hf];simp)]
abbrev ptR (r:List Dat):List (List Dat):=(r.getD 10 (.int 0)).r
def bsT (ls:List (List Dat)):Nat→Nat
 | 0=>0
 | k+1=>bsT ls k+dcnt (ptR (ls.getD k []))
theorem bsT_mono (ls:List (List Dat)) {a b:Nat} (h:a≤b):bsT ls a≤bsT ls b:=by
 induction b with
 | zero=>rw [show a=0 by omega];exact Nat.le_refl _
 | succ b ih=>
  by_cases e:a=b+1
  ·rw [e];exact Nat.le_refl _
  ·exact Nat.le_trans (ih (by omega)) (Nat.le_add_right (bsT ls b) _)
theorem bsT_le {ls:List (List Dat)} (h:∀ k,k < ls.length→(ptR (ls.getD k [])).length≤szRow (ls.getD k [])):∀ k,k≤ls.length→bsT ls k≤szRows (ls.take k)
 | 0,_=>Nat.zero_le _
 | k+1,hk=>by
  have ih:=bsT_le h k (by omega)
  have h1:=h k (by omega)
  have h2:=dcnt_le (ptR (ls.getD k []))
  rw [szRows_take ls k (by omega)]
  unfold bsT
  omega
def hdZ (ls:List (List Dat)) (k:Int):Int:=if k < 0 then -1 else match (List.range ls.length).find? (fun h=>decide (k < ((bsT ls (h+1):Nat):Int))) with|some h=>(h:Int)|none=>-1
theorem hdZ_at {ls:List (List Dat)} {k:Int} {h:Nat} (hh:h < ls.length) (h1:((bsT ls h:Nat):Int)≤k) (h2:k < ((bsT ls (h+1):Nat):Int)):hdZ ls k=(h:Int):=by
 have:(List.range ls.length).find? (fun h=>decide (k < ((bsT ls (h+1):Nat):Int)))=some h:=by
  rw [List.find?_eq_some_iff_getElem]
  refine ⟨decide_eq_true h2,h,by simpa using hh,by simp,fun j hj=>?_⟩
  have:=bsT_mono ls (show j+1≤h by omega)
  simp only [List.getElem_range,Bool.not_eq_true',decide_eq_false_iff_not]
  omega
 unfold hdZ
 rw [if_neg (by omega),this]
theorem hdZ_none {ls:List (List Dat)} {k:Int} (h:k < 0∨((bsT ls ls.length:Nat):Int)≤k):hdZ ls k=-1:=by
 unfold hdZ
 by_cases hk:k < 0
 ·rw [if_pos hk]
 ·rw [if_neg hk]
  have h:((bsT ls ls.length:Nat):Int)≤k:=h.resolve_left hk
  have:(List.range ls.length).find? (fun h=>decide (k < ((bsT ls (h+1):Nat):Int)))=none:=by
   rw [List.find?_eq_none]
   intro j hj
   have hj:j < ls.length:=by simpa using hj
   have:=bsT_mono ls (show j+1≤ls.length by omega)
   simp only [decide_eq_true_eq]
   omega
  rw [this]
theorem tk_at {l:List (List Dat)} {k m:Nat} (h:m < k):(l.take k).getD m []=l.getD m []:=by simp [List.getD,List.getElem?_take,h]
theorem bne_dec (a b:Int):(a != b)=decide (a≠b):=by by_cases h:a=b <;> simp [h]
theorem len1' {us:List Value} (h:us.length=1):∃ u,us=[u]:=
 match us,h with
 | [_],_=>⟨_,rfl⟩
def sortI_con:Con:={ ι:=(List Int),pre:=fun i=>i.length≤1048576,args:=fun i=>[.one (.sl 3 [.int] (rI i))],mu:=[0],new:=fun i=>[rI (srtI i)],res:=fun i=>⟨true,[],[]⟩ }
def compI_con:Con:={ ι:=(List Int),pre:=fun i=>i.length≤1048576,args:=fun i=>[.one (.sl 3 [.int] (rI i))],mu:=[0],gone:=[0],new:=fun i=>[],res:=fun i=>⟨false,[none],[.own 3 [.int] (rI (dedI i))]⟩ }
theorem sortI_ok:sortI_con.Ok Try.prog 43 where
 enter:=⟨_,Try.func43,by decide,rfl⟩
 small:=fun _=>Nat.le_of_ble_eq_true rfl
 calls:=by
  intro (l:List Int) (hp:l.length≤1048576) F w us mb h
  obtain ⟨u0,rfl⟩:=len1' h.len
  obtain ⟨_,_,_,_,e1,e2,f1,m1⟩:=h.own 0 0 rfl
  cases e1;cases e2
  have hv:valD (sortI_con.args l) [u0]=[u0]:=rfl
  rw [hv]
  rcases fp_ints f1 with ⟨rfl,rfl,hbs⟩|⟨g,cap,cur,rfl,q1,q2,q3,q4,q5,hbs⟩
  ·refine Calls.mono (P:=Try.prog) (Any.slices_Sort_int_none layS none 0 w) ?_
   rintro e w' ⟨rfl,rfl⟩
   refine ⟨[],[],rfl,⟨rfl,List.nodup_nil,fun b hb=>by simp at hb,fun j q e ts rows u hj hq hd hu=>?_,rfl,rfl,rfl,Nat.le_refl _,fun b _ _=>rfl⟩⟩
   obtain rfl:j=0:=by have:=(List.getElem?_eq_some_iff.1 hq).1;have hl:sortI_con.mu.length=1:=rfl;omega
   cases hq
   cases hd
   cases hu
   have es:srtI []=[]:=List.eq_nil_of_length_eq_zero (srtI_len [])
   show Fp w' _ (.sl (rI (srtI []))) _ _
   rw [es]
   exact f1
  ·have hg:g < w.heap.size:=(Array.getElem?_eq_some_iff.1 q1).1
   refine Calls.mono (P:=Try.prog) (Any.slices_Sort_int layS g 0 cap l w (holdsI_of (cap:=cap) q1 q5) hg (by omega)) ?_
   rintro e w' ⟨rfl,n,os,rfl⟩
   obtain ⟨p1,p3,p4⟩:=putI_world w g n (srtI l).toArray os q1
   have hsz:(srtI l).toArray.size=l.length:=by rw [List.size_toArray,srtI_len]
   have hfp:=fpi_of (l:=srtI l) p1 (by rw [srtI_len];exact q2) q3 (by rw [putI_size];exact q4) (by
    rw [putI_take (by rw [hsz,q4];exact q2) (by rw [List.size_toArray];exact Nat.le_refl _)]
    simp)
   rw [srtI_len] at hfp
   refine ⟨[],[],rfl,⟨rfl,List.nodup_nil,fun b hb=>by simp at hb,fun j q e ts rows u hj hq hd hu=>?_,rfl,rfl,rfl,p4,fun b hb hm=>p3 b hb fun e=>hm 0 (by decide) (by rw [hbs];simp [e])⟩⟩
   obtain rfl:j=0:=by have:=(List.getElem?_eq_some_iff.1 hq).1;have hl:sortI_con.mu.length=1:=rfl;omega
   cases hq
   cases hd
   cases hu
   rw [hbs]
   exact hfp
theorem compI_ok:compI_con.Ok Try.prog 44 where
 enter:=⟨_,Try.func44,by decide,rfl⟩
 small:=fun _=>Nat.le_of_ble_eq_true rfl
 calls:=by
  intro (l:List Int) (hp:l.length≤1048576) F w us mb h
  obtain ⟨u0,rfl⟩:=len1' h.len
  obtain ⟨_,_,_,_,e1,e2,f1,m1⟩:=h.own 0 0 rfl
  cases e1;cases e2
  have hv:valD (compI_con.args l) [u0]=[u0]:=rfl
  rw [hv]
  have hfresh:∀ b ∈ mb 0,w.heap.size≤b∨∃ j,j ∈ compI_con.gone∧j < compI_con.mu.length∧b ∈ mb j:=fun b hb=>.inr ⟨0,by decide,by decide,hb⟩
  have hgone:∀ (w' : World) j p e ts rows u,j ∉ compI_con.gone→compI_con.mu[j]?=some p→((compI_con.args l).flatMap DA.cells)[p]?=some (.sl e ts rows)→[u0][p]?=some u→Fp w' (.sl e ts) (.sl ((compI_con.new l).getD j [])) u (mb j):=fun w' j p e ts rows u hj hq=>by
   exfalso
   have:=(List.getElem?_eq_some_iff.1 hq).1
   have hl:compI_con.mu.length=1:=rfl
   obtain rfl:j=0:=by omega
   exact hj (by decide)
  rcases fp_ints f1 with ⟨rfl,rfl,hbs⟩|⟨g,cap,cur,rfl,q1,q2,q3,q4,q5,hbs⟩
  ·refine Calls.mono (P:=Try.prog) (Any.slices_Compact_int_empty layC none 0 w) ?_
   rintro e w' ⟨rfl,rfl⟩
   exact ⟨[.slice none 0 0],mb 0,rfl,⟨⟨mb 0,[],by simp,f1,rfl⟩,m1,hfresh,hgone _,rfl,rfl,rfl,Nat.le_refl _,fun b _ _=>rfl⟩⟩
  ·have hg:g < w.heap.size:=(Array.getElem?_eq_some_iff.1 q1).1
   have hcc:=Any.slices_Compact_int layC g 0 cap l w (holdsI_of (cap:=cap) q1 q5) (by omega) q2
   rw [compactI] at hcc
   refine Calls.mono (P:=Try.prog) hcc ?_
   rintro e w' ⟨rfl,n,rfl⟩
   have hlen:=dedI_len l
   have hgr:putRow (Value.int .i64) (Sort.ahead w n) g 0 (dedI l++List.replicate (l.length - (dedI l).length) 0).toArray=grow (putRow (Value.int .i64) (Sort.ahead w n) g 0 (dedI l++List.replicate (l.length - (dedI l).length) 0).toArray) #[]:=(grow_empty _).symm
   rw [hgr]
   obtain ⟨p1,p3,p4⟩:=putI_world w g n (dedI l++List.replicate (l.length - (dedI l).length) 0).toArray #[] q1
   have hsz:(dedI l++List.replicate (l.length - (dedI l).length) (0:Int)).toArray.size=l.length:=by simp;omega
   have hfp:=fpi_of (l:=dedI l) p1 (by omega) q3 (by rw [putI_size];exact q4) (by
    rw [putI_take (by rw [hsz,q4];exact q2) (by rw [hsz];exact hlen)]
    simp)
   exact ⟨[.slice (some ⟨g,0,none⟩) (dedI l).length cap],mb 0,rfl,⟨⟨mb 0,[],by simp,by rw [hbs];exact hfp,rfl⟩,m1,hfresh,hgone _,rfl,rfl,rfl,p4,fun b hb hm=>p3 b hb fun e=>hm 0 (by decide) (by rw [hbs];simp [e])⟩⟩
def cloneInts_con:Con:={ ι:=(List (List Dat)),pre:=fun i=>i.length≤1073741824,args:=fun i=>[.one (.sl 3 [.int] i)],res:=fun i=>⟨false,[none],[.own 3 [.int] i]⟩ }
theorem cloneInts_ok:cloneInts_con.Ok Try.prog 80:=by
 refine fn_ok (X:=⟨tt,[],[],8,[]⟩) mixed tt_ok (CTok.nil _) (InlOk.nil _) Try.func80 (by decide) rfl rfl rfl (fun _=>Nat.le_of_ble_eq_true rfl) (fun _=>Nat.le_of_ble_eq_true rfl) (fun _=>[]) ?_
 intro (ls:List (List Dat)) hpre
 have hpre:ls.length≤1073741824:=hpre
 refine by_nf (q:=∀ b1:Bool,(b1=true→ls=[])→((b1=true→((([]:List (List Dat))=ls)))∧(b1=false→((([]:List (List Dat)).length+ls.length≤1073741824)∧(((([]:List (List Dat))++ls)=ls)))))) (by kernel_rfl) ?_
 intro b1 q1
 refine ⟨fun c2=>?_,fun c2=>?_⟩
 ·-- c2t: b1 = true
  replace c2:b1=true:=c2
  try simp only [nrm] at c2
  -- l3: ([] : List (List Dat)) = ls
  show ([]:List (List Dat))=ls
  first|rfl|(rw [q1 c2])
 -- c2f: b1 = false
 replace c2:b1=false:=c2
 try simp only [nrm] at c2
 have o4:([]:List (List Dat)).length+ls.length≤1073741824:=by
  first|rfl|omega|(simp;done)|(simp;omega)
 refine ⟨o4,?_⟩
 -- l5: (([] : List (List Dat)) ++ ls) = ls
 show (([]:List (List Dat))++ls)=ls
 first|rfl|(rw [q1 c2])
def iParts_con:Con:={ ι:=(List Dat),pre:=fun i=>Dat.has (.sl 3 [.int]) (.sl (ptR i))∧(ptR i).length≤1048576,args:=fun i=>[.agg [.im (.int .i64 ((i.getD 0 (.int 0)).n)),.im (.bool ((i.getD 1 (.int 0)).b)),.im (.int .i64 ((i.getD 2 (.int 0)).n)),.im (.int .i64 ((i.getD 3 (.int 0)).n)),.im (.int .i64 ((i.getD 4 (.int 0)).n)),.im (.int .i64 ((i.getD 5 (.int 0)).n)),.sl 61 [.sl 35 [.int,.int]] ((i.getD 6 (.int 0)).r),.sl 124 [.bool,.sl 3 [.int],.sl 3 [.int],.bool,.sl 3 [.int],.sl 3 [.int],.bool,.sl 3 [.int],.sl 3 [.int],.bool,.sl 3 [.int],.sl 3 [.int],.bool,.sl 3 [.int],.sl 3 [.int],.bool,.sl 3 [.int],.sl 3 [.int]] ((i.getD 7 (.int 0)).r),.sl 127 [.bool,.sl 3 [.int],.sl 3 [.int],.bool,.sl 3 [.int],.sl 3 [.int],.bool,.sl 3 [.int],.sl 3 [.int]] ((i.getD 8 (.int 0)).r),.sl 75 [.int,.int] ((i.getD 9 (.int 0)).r),.sl 3 [.int] ((i.getD 10 (.int 0)).r)]],res:=fun i=>⟨false,[none],[.im (Value.int .i64 ((dcnt (ptR i):Nat):Int))]⟩ }
theorem iParts_ok:iParts_con.Ok Try.prog 58:=by
 refine fn_ok (X:=⟨tt,[(80,cloneInts_con),(43,sortI_con),(44,compI_con)],[],12,[]⟩) mixed tt_ok (CTok.cons cloneInts_ok (CTok.cons sortI_ok (CTok.cons compI_ok (CTok.nil _)))) (InlOk.nil _) Try.func58 (by decide) rfl rfl rfl (fun _=>Nat.le_of_ble_eq_true rfl) (fun _=>Nat.le_of_ble_eq_true rfl) (fun _=>[]) ?_
 intro (r:List Dat) hpre
 have hpre:Dat.has (.sl 3 [.int]) (.sl (ptR r))∧(ptR r).length≤1048576:=hpre
 refine by_nf (q:=∃ i1:(List (List Dat)),[DA.one (cS ((r.getD 10 (.int 0)).r))]=cloneInts_con.args i1∧cloneInts_con.pre i1∧(∃ i2:(List Int),[DA.one (cS i1)]=sortI_con.args i2∧sortI_con.pre i2∧(∃ i3:(List Int),[DA.one (cS (rI (srtI i2)))]=compI_con.args i3∧compI_con.pre i3∧((Value.int .i64 (((rI (dedI i3)).length:Nat):Int)=Value.int .i64 ((dcnt (ptR r):Nat):Int)))))) (by kernel_rfl) ?_
 have hl:=hpre.2
 have e:=rI_iR hpre.1
 -- w1: cloneInts [DA.one (DC.sl 3 [.int] ((r.getD 10 (.int 0)).r))]
 refine ⟨((r.getD 10 (.int 0)).r),by
  rfl,by
  show ((r.getD 10 (.int 0)).r).length≤1073741824
  first|trivial|exact Nat.le_trans hl (by decide)|(rw [iR_len];exact hl)|(rw [srtI_len,iR_len];exact hl)|omega,?_⟩
 -- w4: sortI [DA.one (DC.sl 3 [.int] ((r.getD 10 (.int 0)).r))]
 refine ⟨iR (ptR r),by
  show [DA.one (DC.sl 3 [.int] (ptR r))]=[DA.one (DC.sl 3 [.int] (rI (iR (ptR r))))]
  rw [e],by
  show (iR (ptR r)).length≤1048576
  first|trivial|exact Nat.le_trans hl (by decide)|(rw [iR_len];exact hl)|(rw [srtI_len,iR_len];exact hl)|omega,?_⟩
 -- w7: compI [DA.one (DC.sl 3 [.int] (rI (srtI (iR (ptR r)))))]
 refine ⟨srtI (iR (ptR r)),by
  rfl,by
  show (srtI (iR (ptR r))).length≤1048576
  first|trivial|exact Nat.le_trans hl (by decide)|(rw [iR_len];exact hl)|(rw [srtI_len,iR_len];exact hl)|omega,?_⟩
 -- l10: Value.int .i64 (((rI (dedI (srtI (iR (ptR r))))).length : Nat) : Int) = Value.int .i64 ((dcnt (ptR r) : Nat) : Int)
 show Value.int .i64 (((rI (dedI (srtI (iR (ptR r))))).length:Nat):Int)=Value.int .i64 ((dcnt (ptR r):Nat):Int)
 rw [rI_len,ded_srt];rfl
def sParts_con:Con:={ ι:=(List Dat),pre:=fun i=>Dat.has (.sl 3 [.int]) (.sl (ptR i))∧(ptR i).length≤1048576,args:=fun i=>[.agg [.im (.int .i64 ((i.getD 0 (.int 0)).n)),.im (.bool ((i.getD 1 (.int 0)).b)),.im (.int .i64 ((i.getD 2 (.int 0)).n)),.im (.int .i64 ((i.getD 3 (.int 0)).n)),.im (.int .i64 ((i.getD 4 (.int 0)).n)),.im (.int .i64 ((i.getD 5 (.int 0)).n)),.sl 61 [.sl 35 [.int,.int]] ((i.getD 6 (.int 0)).r),.sl 124 [.bool,.sl 3 [.int],.sl 3 [.int],.bool,.sl 3 [.int],.sl 3 [.int],.bool,.sl 3 [.int],.sl 3 [.int],.bool,.sl 3 [.int],.sl 3 [.int],.bool,.sl 3 [.int],.sl 3 [.int],.bool,.sl 3 [.int],.sl 3 [.int]] ((i.getD 7 (.int 0)).r),.sl 127 [.bool,.sl 3 [.int],.sl 3 [.int],.bool,.sl 3 [.int],.sl 3 [.int],.bool,.sl 3 [.int],.sl 3 [.int]] ((i.getD 8 (.int 0)).r),.sl 75 [.int,.int] ((i.getD 9 (.int 0)).r),.sl 3 [.int] ((i.getD 10 (.int 0)).r)]],res:=fun i=>⟨false,[none],[.im (Value.int .i64 ((dcnt (ptR i):Nat):Int))]⟩ }
theorem sParts_ok:sParts_con.Ok Try.prog 54:=by
 refine fn_ok (X:=⟨tt,[],[],38,[]⟩) mixed tt_ok (CTok.nil _) (InlOk.nil _) Try.func54 (by decide) rfl rfl rfl (fun _=>Nat.le_of_ble_eq_true rfl) (fun _=>Nat.le_of_ble_eq_true rfl) (fun (i:(List Dat))=>[(3,.mk 7 (Nat) (fun x1=>{ tm:=[(1,.one (.one (.bp 1 0))),(10,.one (.one (.ext 6))),(11,.one (.one (.im (Value.int .i64 ((((i.getD 10 (.int 0)).r).length:Nat):Int))))),(3,.one (.one (.im (Value.int .i64 ((dcT (ptR i) x1:Nat):Int))))),(12,.one (.one (.im (Value.int .i64 ((x1:Nat):Int)))))],en:=[(1,.box [.im (Value.int .i64 ((i.getD 0 (.int 0)).n)),.im (Value.bool ((i.getD 1 (.int 0)).b)),.im (Value.int .i64 ((i.getD 2 (.int 0)).n)),.im (Value.int .i64 ((i.getD 3 (.int 0)).n)),.im (Value.int .i64 ((i.getD 4 (.int 0)).n)),.im (Value.int .i64 ((i.getD 5 (.int 0)).n)),.ext 2,.ext 3,.ext 4,.ext 5,.ext 6]),(2,.view 61 [.sl 35 [.int,.int]] ((i.getD 6 (.int 0)).r) []),(3,.view 124 [.bool,.sl 3 [.int],.sl 3 [.int],.bool,.sl 3 [.int],.sl 3 [.int],.bool,.sl 3 [.int],.sl 3 [.int],.bool,.sl 3 [.int],.sl 3 [.int],.bool,.sl 3 [.int],.sl 3 [.int],.bool,.sl 3 [.int],.sl 3 [.int]] ((i.getD 7 (.int 0)).r) []),(4,.view 127 [.bool,.sl 3 [.int],.sl 3 [.int],.bool,.sl 3 [.int],.sl 3 [.int],.bool,.sl 3 [.int],.sl 3 [.int]] ((i.getD 8 (.int 0)).r) []),(5,.view 75 [.int,.int] ((i.getD 9 (.int 0)).r) []),(6,.view 3 [.int] ((i.getD 10 (.int 0)).r) [])] }) (fun x1=>x1≤(ptR i).length) (fun x1=>(ptR i).length - x1) (fun x1=>[(7,.mk 8 (Nat) (fun x2=>{ tm:=[(1,.one (.one (.bp 1 0))),(10,.one (.one (.ext 6))),(11,.one (.one (.im (Value.int .i64 ((((i.getD 10 (.int 0)).r).length:Nat):Int))))),(12,.one (.one (.im (Value.int .i64 ((x1:Nat):Int))))),(3,.one (.one (.im (Value.int .i64 ((dcT (ptR i) x1:Nat):Int))))),(5,.one (.one (.im (Value.int .i64 (((((i.getD 10 (.int 0)).r).getD x1 []).getD 0 (.int 0))).n)))),(20,.one (.one (.ext 7))),(21,.one (.one (.im (Value.int .i64 (((((i.getD 10 (.int 0)).r).take x1).length:Nat):Int))))),(6,.one (.one (.im (Value.bool (frT (ptR i) ((((ptR i).getD x1 []).getD 0 (.int 0)).n) x2))))),(22,.one (.one (.im (Value.int .i64 ((x2:Nat):Int)))))],en:=[(1,.box [.im (Value.int .i64 ((i.getD 0 (.int 0)).n)),.im (Value.bool ((i.getD 1 (.int 0)).b)),.im (Value.int .i64 ((i.getD 2 (.int 0)).n)),.im (Value.int .i64 ((i.getD 3 (.int 0)).n)),.im (Value.int .i64 ((i.getD 4 (.int 0)).n)),.im (Value.int .i64 ((i.getD 5 (.int 0)).n)),.ext 2,.ext 3,.ext 4,.ext 5,.ext 6]),(2,.view 61 [.sl 35 [.int,.int]] ((i.getD 6 (.int 0)).r) []),(3,.view 124 [.bool,.sl 3 [.int],.sl 3 [.int],.bool,.sl 3 [.int],.sl 3 [.int],.bool,.sl 3 [.int],.sl 3 [.int],.bool,.sl 3 [.int],.sl 3 [.int],.bool,.sl 3 [.int],.sl 3 [.int],.bool,.sl 3 [.int],.sl 3 [.int]] ((i.getD 7 (.int 0)).r) []),(4,.view 127 [.bool,.sl 3 [.int],.sl 3 [.int],.bool,.sl 3 [.int],.sl 3 [.int],.bool,.sl 3 [.int],.sl 3 [.int]] ((i.getD 8 (.int 0)).r) []),(5,.view 75 [.int,.int] ((i.getD 9 (.int 0)).r) []),(6,.view 3 [.int] ((i.getD 10 (.int 0)).r) []),(7,.view 3 [.int] (((i.getD 10 (.int 0)).r).take x1) [])] }) (fun x2=>x2≤x1) (fun x2=>x1 - x2) (fun _=>[]))]))]) ?_
 intro (r:List Dat) hpre
 have hpre:Dat.has (.sl 3 [.int]) (.sl (ptR r))∧(ptR r).length≤1048576:=hpre
 refine by_nf (q:=(∃ x1:Nat,(x1≤(ptR r).length)∧((rf (Value.int .i64 ((((r.getD 10 (.int 0)).r).length:Nat):Int)))∧(Value.int .i64 (0:Int)=Value.int .i64 ((dcT (ptR r) x1:Nat):Int))∧(Value.int .i64 (0:Int)=Value.int .i64 ((x1:Nat):Int))∧(rf (Value.int .i64 ((r.getD 0 (.int 0)).n)))∧(rf (Value.bool ((r.getD 1 (.int 0)).b)))∧(rf (Value.int .i64 ((r.getD 2 (.int 0)).n)))∧(rf (Value.int .i64 ((r.getD 3 (.int 0)).n)))∧(rf (Value.int .i64 ((r.getD 4 (.int 0)).n)))∧(rf (Value.int .i64 ((r.getD 5 (.int 0)).n)))∧(rf ((r.getD 6 (.int 0)).r))∧(rf ((r.getD 7 (.int 0)).r))∧(rf ((r.getD 8 (.int 0)).r))∧(rf ((r.getD 9 (.int 0)).r))∧(rf ((r.getD 10 (.int 0)).r))))∧∀ x1:Nat,(x1≤(ptR r).length)→(((decide (((x1:Nat):Int) < ((((r.getD 10 (.int 0)).r).length:Nat):Int)))=true→((0≤((x1:Nat):Int)∧((x1:Nat):Int) < (((r.getD 10 (.int 0)).r).length:Int))∧((x1 < ((r.getD 10 (.int 0)).r).length)∧((Nat.beq 1 1=true)∧((0≤(0:Int))∧(((0:Int)≤((x1:Nat):Int))∧((((x1:Nat):Int)≤(((r.getD 10 (.int 0)).r).length:Int))∧((∃ x2:Nat,(x2≤x1)∧((rf (Value.int .i64 ((((r.getD 10 (.int 0)).r).length:Nat):Int)))∧(rf (Value.int .i64 ((x1:Nat):Int)))∧(rf (Value.int .i64 ((dcT (ptR r) x1:Nat):Int)))∧(rf (Value.int .i64 (((((r.getD 10 (.int 0)).r).getD x1 []).getD 0 (.int 0))).n))∧(rf (Value.int .i64 (((((r.getD 10 (.int 0)).r).take x1).length:Nat):Int)))∧(Value.bool true=Value.bool (frT (ptR r) ((((ptR r).getD x1 []).getD 0 (.int 0)).n) x2))∧(Value.int .i64 (0:Int)=Value.int .i64 ((x2:Nat):Int))∧(rf (Value.int .i64 ((r.getD 0 (.int 0)).n)))∧(rf (Value.bool ((r.getD 1 (.int 0)).b)))∧(rf (Value.int .i64 ((r.getD 2 (.int 0)).n)))∧(rf (Value.int .i64 ((r.getD 3 (.int 0)).n)))∧(rf (Value.int .i64 ((r.getD 4 (.int 0)).n)))∧(rf (Value.int .i64 ((r.getD 5 (.int 0)).n)))∧(rf ((r.getD 6 (.int 0)).r))∧(rf ((r.getD 7 (.int 0)).r))∧(rf ((r.getD 8 (.int 0)).r))∧(rf ((r.getD 9 (.int 0)).r))∧(rf ((r.getD 10 (.int 0)).r))∧(rf (((r.getD 10 (.int 0)).r).take x1))))∧∀ x2:Nat,(x2≤x1)→(((decide (((x2:Nat):Int) < (((((r.getD 10 (.int 0)).r).take x1).length:Nat):Int)))=true→((0≤((x2:Nat):Int)∧((x2:Nat):Int) < ((((r.getD 10 (.int 0)).r).take x1).length:Int))∧((x2 < (((r.getD 10 (.int 0)).r).take x1).length)∧(((frT (ptR r) ((((ptR r).getD x1 []).getD 0 (.int 0)).n) x2)=true→(∃ y3:Nat,(y3≤x1)∧(x1 - y3 < x1 - x2)∧((rf (Value.int .i64 ((((r.getD 10 (.int 0)).r).length:Nat):Int)))∧(rf (Value.int .i64 ((x1:Nat):Int)))∧(rf (Value.int .i64 ((dcT (ptR r) x1:Nat):Int)))∧(rf (Value.int .i64 (((((r.getD 10 (.int 0)).r).getD x1 []).getD 0 (.int 0))).n))∧(rf (Value.int .i64 (((((r.getD 10 (.int 0)).r).take x1).length:Nat):Int)))∧(Value.bool (((((((r.getD 10 (.int 0)).r).take x1).getD x2 []).getD 0 (.int 0))).n != (((((r.getD 10 (.int 0)).r).getD x1 []).getD 0 (.int 0))).n)=Value.bool (frT (ptR r) ((((ptR r).getD x1 []).getD 0 (.int 0)).n) y3))∧(Value.int .i64 (IntKind.i64.wrap (((x2:Nat):Int)+(1:Int)))=Value.int .i64 ((y3:Nat):Int))∧(rf (Value.int .i64 ((r.getD 0 (.int 0)).n)))∧(rf (Value.bool ((r.getD 1 (.int 0)).b)))∧(rf (Value.int .i64 ((r.getD 2 (.int 0)).n)))∧(rf (Value.int .i64 ((r.getD 3 (.int 0)).n)))∧(rf (Value.int .i64 ((r.getD 4 (.int 0)).n)))∧(rf (Value.int .i64 ((r.getD 5 (.int 0)).n)))∧(rf ((r.getD 6 (.int 0)).r))∧(rf ((r.getD 7 (.int 0)).r))∧(rf ((r.getD 8 (.int 0)).r))∧(rf ((r.getD 9 (.int 0)).r))∧(rf ((r.getD 10 (.int 0)).r))∧(rf (((r.getD 10 (.int 0)).r).take x1)))))∧((frT (ptR r) ((((ptR r).getD x1 []).getD 0 (.int 0)).n) x2)=false→(∃ y4:Nat,(y4≤x1)∧(x1 - y4 < x1 - x2)∧((rf (Value.int .i64 ((((r.getD 10 (.int 0)).r).length:Nat):Int)))∧(rf (Value.int .i64 ((x1:Nat):Int)))∧(rf (Value.int .i64 ((dcT (ptR r) x1:Nat):Int)))∧(rf (Value.int .i64 (((((r.getD 10 (.int 0)).r).getD x1 []).getD 0 (.int 0))).n))∧(rf (Value.int .i64 (((((r.getD 10 (.int 0)).r).take x1).length:Nat):Int)))∧(Value.bool false=Value.bool (frT (ptR r) ((((ptR r).getD x1 []).getD 0 (.int 0)).n) y4))∧(Value.int .i64 (IntKind.i64.wrap (((x2:Nat):Int)+(1:Int)))=Value.int .i64 ((y4:Nat):Int))∧(rf (Value.int .i64 ((r.getD 0 (.int 0)).n)))∧(rf (Value.bool ((r.getD 1 (.int 0)).b)))∧(rf (Value.int .i64 ((r.getD 2 (.int 0)).n)))∧(rf (Value.int .i64 ((r.getD 3 (.int 0)).n)))∧(rf (Value.int .i64 ((r.getD 4 (.int 0)).n)))∧(rf (Value.int .i64 ((r.getD 5 (.int 0)).n)))∧(rf ((r.getD 6 (.int 0)).r))∧(rf ((r.getD 7 (.int 0)).r))∧(rf ((r.getD 8 (.int 0)).r))∧(rf ((r.getD 9 (.int 0)).r))∧(rf ((r.getD 10 (.int 0)).r))∧(rf (((r.getD 10 (.int 0)).r).take x1)))))))))∧((decide (((x2:Nat):Int) < (((((r.getD 10 (.int 0)).r).take x1).length:Nat):Int)))=false→(((frT (ptR r) ((((ptR r).getD x1 []).getD 0 (.int 0)).n) x2)=true→(∃ y5:Nat,(y5≤(ptR r).length)∧((ptR r).length - y5 < (ptR r).length - x1)∧((rf (Value.int .i64 ((((r.getD 10 (.int 0)).r).length:Nat):Int)))∧(Value.int .i64 (IntKind.i64.wrap (((dcT (ptR r) x1:Nat):Int)+(1:Int)))=Value.int .i64 ((dcT (ptR r) y5:Nat):Int))∧(Value.int .i64 (IntKind.i64.wrap (((x1:Nat):Int)+(1:Int)))=Value.int .i64 ((y5:Nat):Int))∧(rf (Value.int .i64 ((r.getD 0 (.int 0)).n)))∧(rf (Value.bool ((r.getD 1 (.int 0)).b)))∧(rf (Value.int .i64 ((r.getD 2 (.int 0)).n)))∧(rf (Value.int .i64 ((r.getD 3 (.int 0)).n)))∧(rf (Value.int .i64 ((r.getD 4 (.int 0)).n)))∧(rf (Value.int .i64 ((r.getD 5 (.int 0)).n)))∧(rf ((r.getD 6 (.int 0)).r))∧(rf ((r.getD 7 (.int 0)).r))∧(rf ((r.getD 8 (.int 0)).r))∧(rf ((r.getD 9 (.int 0)).r))∧(rf ((r.getD 10 (.int 0)).r)))))∧((frT (ptR r) ((((ptR r).getD x1 []).getD 0 (.int 0)).n) x2)=false→(∃ y6:Nat,(y6≤(ptR r).length)∧((ptR r).length - y6 < (ptR r).length - x1)∧((rf (Value.int .i64 ((((r.getD 10 (.int 0)).r).length:Nat):Int)))∧(Value.int .i64 ((dcT (ptR r) x1:Nat):Int)=Value.int .i64 ((dcT (ptR r) y6:Nat):Int))∧(Value.int .i64 (IntKind.i64.wrap (((x1:Nat):Int)+(1:Int)))=Value.int .i64 ((y6:Nat):Int))∧(rf (Value.int .i64 ((r.getD 0 (.int 0)).n)))∧(rf (Value.bool ((r.getD 1 (.int 0)).b)))∧(rf (Value.int .i64 ((r.getD 2 (.int 0)).n)))∧(rf (Value.int .i64 ((r.getD 3 (.int 0)).n)))∧(rf (Value.int .i64 ((r.getD 4 (.int 0)).n)))∧(rf (Value.int .i64 ((r.getD 5 (.int 0)).n)))∧(rf ((r.getD 6 (.int 0)).r))∧(rf ((r.getD 7 (.int 0)).r))∧(rf ((r.getD 8 (.int 0)).r))∧(rf ((r.getD 9 (.int 0)).r))∧(rf ((r.getD 10 (.int 0)).r))))))))))))))))∧((decide (((x1:Nat):Int) < ((((r.getD 10 (.int 0)).r).length:Nat):Int)))=false→((Value.int .i64 ((dcT (ptR r) x1:Nat):Int)=Value.int .i64 ((dcnt (ptR r):Nat):Int)))))) (by kernel_rfl) ?_
 have hl:=hpre.2
 -- i1
 refine ⟨⟨0,by
  first|trivial|omega|(simp;omega),?_⟩,?_⟩
 ·-- the beginning
  refine ⟨rfl,?_,?_,rfl,rfl,rfl,rfl,rfl,rfl,rfl,rfl,rfl,rfl,rfl⟩
  ·-- b4: Value.int .i64 (0 : Int) = Value.int .i64 ((dcT (ptR r) 0 : Nat) : Int)
   show Value.int .i64 (0:Int)=Value.int .i64 ((dcT (ptR r) 0:Nat):Int)
   first|rfl|(simp;done)
  -- b5: Value.int .i64 (0 : Int) = Value.int .i64 ((0 : Nat) : Int)
  show Value.int .i64 (0:Int)=Value.int .i64 ((0:Nat):Int)
  first|rfl|(simp;done)
 intro (k:Nat) hki1
 have hki1:k≤(ptR r).length:=hki1
 refine And.symm ⟨fun c17=>?_,fun c17=>?_⟩
 ·-- c17f: (decide (((k : Nat) : Int) < ((((r.getD 10 (.int 0)).r).length : Nat) : Int))) = false
  replace c17:(decide (((k:Nat):Int) < ((((r.getD 10 (.int 0)).r).length:Nat):Int)))=false:=c17
  try simp only [nrm] at c17
  -- l128: Value.int .i64 ((dcT (ptR r) k : Nat) : Int) = Value.int .i64 ((dcnt (ptR r) : Nat) : Int)
  show Value.int .i64 ((dcT (ptR r) k:Nat):Int)=Value.int .i64 ((dcnt (ptR r):Nat):Int)
  rw [dcT_all (show (ptR r).length≤k from by show ((r.getD 10 (.int 0)).r).length≤k;omega)]
 -- c17t: (decide (((k : Nat) : Int) < ((((r.getD 10 (.int 0)).r).length : Nat) : Int))) = true
 replace c17:(decide (((k:Nat):Int) < ((((r.getD 10 (.int 0)).r).length:Nat):Int)))=true:=c17
 try simp only [nrm] at c17
 have htl:(((r.getD 10 (.int 0)).r).take k).length=k:=by rw [List.length_take];exact Nat.min_eq_left hki1
 have hk:k < (ptR r).length:=by show k < ((r.getD 10 (.int 0)).r).length;omega
 have o18:0≤((k:Nat):Int)∧((k:Nat):Int) < (((r.getD 10 (.int 0)).r).length:Int):=by
  first|rfl|omega|(simp;omega)
 refine ⟨o18,?_⟩
 have o19:k < ((r.getD 10 (.int 0)).r).length:=by
  first|rfl|omega|(simp;omega)
 refine ⟨o19,?_⟩
 have o20:Nat.beq 1 1=true:=by
  first|rfl|omega|(simp;omega)
 refine ⟨o20,?_⟩
 have o21:0≤(0:Int):=by
  first|rfl|omega|(simp;omega)
 refine ⟨o21,?_⟩
 have o22:(0:Int)≤((k:Nat):Int):=by
  first|rfl|omega|(simp;omega)
 refine ⟨o22,?_⟩
 have o23:((k:Nat):Int)≤(((r.getD 10 (.int 0)).r).length:Int):=by
  first|rfl|omega|(simp;omega)
 refine ⟨o23,?_⟩
 -- i24
 refine ⟨⟨0,by
  first|trivial|omega|(simp;omega),?_⟩,?_⟩
 ·-- the beginning
  refine ⟨rfl,rfl,rfl,rfl,rfl,?_,?_,rfl,rfl,rfl,rfl,rfl,rfl,rfl,rfl,rfl,rfl,rfl,rfl⟩
  ·-- b31: Value.bool true = Value.bool (frT (ptR r) ((((ptR r).getD k []).getD 0 (.int 0)).n) 0)
   show Value.bool true=Value.bool (frT (ptR r) ((((ptR r).getD k []).getD 0 (.int 0)).n) 0)
   first|rfl|(simp;done)
  -- b32: Value.int .i64 (0 : Int) = Value.int .i64 ((0 : Nat) : Int)
  show Value.int .i64 (0:Int)=Value.int .i64 ((0:Nat):Int)
  first|rfl|(simp;done)
 intro (m:Nat) hki24
 have hki24:m≤k:=hki24
 refine ⟨fun c45=>?_,fun c45=>?_⟩
 ·-- c45t: (decide (((m : Nat) : Int) < (((((r.getD 10 (.int 0)).r).take k).length : Nat) : Int))) = true
  replace c45:(decide (((m:Nat):Int) < (((((r.getD 10 (.int 0)).r).take k).length:Nat):Int)))=true:=c45
  try simp only [nrm] at c45
  have o46:0≤((m:Nat):Int)∧((m:Nat):Int) < ((((r.getD 10 (.int 0)).r).take k).length:Int):=by
   first|rfl|omega|(simp;omega)
  refine ⟨o46,?_⟩
  have o47:m < (((r.getD 10 (.int 0)).r).take k).length:=by
   first|rfl|omega|(simp;omega)
  refine ⟨o47,?_⟩
  refine ⟨fun c48=>?_,fun c48=>?_⟩
  ·-- c48t: (frT (ptR r) ((((ptR r).getD k []).getD 0 (.int 0)).n) m) = true
   replace c48:(frT (ptR r) ((((ptR r).getD k []).getD 0 (.int 0)).n) m)=true:=c48
   try simp only [nrm] at c48
   -- n49
   refine ⟨m+1,by
    first|trivial|omega|(simp;omega),by
    first|omega|(simp;omega),?_⟩
   refine ⟨rfl,rfl,rfl,rfl,rfl,?_,?_,rfl,rfl,rfl,rfl,rfl,rfl,rfl,rfl,rfl,rfl,rfl,rfl⟩
   ·-- e57: Value.bool (((((((r.getD 10 (.int 0)).r).take k).getD m []).getD 0 (.int 0))).n != (((((r.getD 10 (.int 0)).r).getD k []).getD 0 (.int 0))).n) = Value.bool (frT (ptR r) ((((ptR r).getD k []).getD 0 (.int 0)).n) (m + 1))
    show Value.bool (((((((r.getD 10 (.int 0)).r).take k).getD m []).getD 0 (.int 0))).n != (((((r.getD 10 (.int 0)).r).getD k []).getD 0 (.int 0))).n)=Value.bool (frT (ptR r) ((((ptR r).getD k []).getD 0 (.int 0)).n) (m+1))
    exact congrArg Value.bool (by show _=(frT _ _ m && decide _);rw [c48,Bool.true_and,tk_at (by omega),bne_dec])
   -- e58: Value.int .i64 (IntKind.i64.wrap (((m : Nat) : Int) + (1 : Int))) = Value.int .i64 (((m + 1) : Nat) : Int)
   show Value.int .i64 (IntKind.i64.wrap (((m:Nat):Int)+(1:Int)))=Value.int .i64 (((m+1):Nat):Int)
   first|rfl|exact vint (wrap64 (by omega) (by omega))
  -- c48f: (frT (ptR r) ((((ptR r).getD k []).getD 0 (.int 0)).n) m) = false
  replace c48:(frT (ptR r) ((((ptR r).getD k []).getD 0 (.int 0)).n) m)=false:=c48
  try simp only [nrm] at c48
  -- n71
  refine ⟨m+1,by
   first|trivial|omega|(simp;omega),by
   first|omega|(simp;omega),?_⟩
  refine ⟨rfl,rfl,rfl,rfl,rfl,?_,?_,rfl,rfl,rfl,rfl,rfl,rfl,rfl,rfl,rfl,rfl,rfl,rfl⟩
  ·-- e79: Value.bool false = Value.bool (frT (ptR r) ((((ptR r).getD k []).getD 0 (.int 0)).n) (m + 1))
   show Value.bool false=Value.bool (frT (ptR r) ((((ptR r).getD k []).getD 0 (.int 0)).n) (m+1))
   exact congrArg Value.bool (by show _=(frT _ _ m && decide _);rw [c48];rfl)
  -- e80: Value.int .i64 (IntKind.i64.wrap (((m : Nat) : Int) + (1 : Int))) = Value.int .i64 (((m + 1) : Nat) : Int)
  show Value.int .i64 (IntKind.i64.wrap (((m:Nat):Int)+(1:Int)))=Value.int .i64 (((m+1):Nat):Int)
  first|rfl|exact vint (wrap64 (by omega) (by omega))
 -- c45f: (decide (((m : Nat) : Int) < (((((r.getD 10 (.int 0)).r).take k).length : Nat) : Int))) = false
 replace c45:(decide (((m:Nat):Int) < (((((r.getD 10 (.int 0)).r).take k).length:Nat):Int)))=false:=c45
 try simp only [nrm] at c45
 have hmk:m=k:=by omega
 refine And.symm ⟨fun c93=>?_,fun c93=>?_⟩
 ·-- c93f: (frT (ptR r) ((((ptR r).getD k []).getD 0 (.int 0)).n) m) = false
  replace c93:(frT (ptR r) ((((ptR r).getD k []).getD 0 (.int 0)).n) m)=false:=c93
  try simp only [nrm] at c93
  rw [hmk] at c93
  have hd:=dc_no hk c93
  -- n111
  refine ⟨k+1,by
   first|trivial|omega|(simp;omega),by
   first|omega|(simp;omega),?_⟩
  refine ⟨rfl,?_,?_,rfl,rfl,rfl,rfl,rfl,rfl,rfl,rfl,rfl,rfl,rfl⟩
  ·-- e115: Value.int .i64 ((dcT (ptR r) k : Nat) : Int) = Value.int .i64 ((dcT (ptR r) (k + 1) : Nat) : Int)
   show Value.int .i64 ((dcT (ptR r) k:Nat):Int)=Value.int .i64 ((dcT (ptR r) (k+1):Nat):Int)
   rw [hd]
  -- e116: Value.int .i64 (IntKind.i64.wrap (((k : Nat) : Int) + (1 : Int))) = Value.int .i64 (((k + 1) : Nat) : Int)
  show Value.int .i64 (IntKind.i64.wrap (((k:Nat):Int)+(1:Int)))=Value.int .i64 (((k+1):Nat):Int)
  first|rfl|exact vint (wrap64 (by omega) (by omega))
 -- c93t: (frT (ptR r) ((((ptR r).getD k []).getD 0 (.int 0)).n) m) = true
 replace c93:(frT (ptR r) ((((ptR r).getD k []).getD 0 (.int 0)).n) m)=true:=c93
 try simp only [nrm] at c93
 rw [hmk] at c93
 have hd:=dc_yes hk c93
 have hdl:=dcT_le (ptR r) k
 -- n94
 refine ⟨k+1,by
  first|trivial|omega|(simp;omega),by
  first|omega|(simp;omega),?_⟩
 refine ⟨rfl,?_,?_,rfl,rfl,rfl,rfl,rfl,rfl,rfl,rfl,rfl,rfl,rfl⟩
 ·-- e98: Value.int .i64 (IntKind.i64.wrap (((dcT (ptR r) k : Nat) : Int) + (1 : Int))) = Value.int .i64 ((dcT (ptR r) (k + 1) : Nat) : Int)
  show Value.int .i64 (IntKind.i64.wrap (((dcT (ptR r) k:Nat):Int)+(1:Int)))=Value.int .i64 ((dcT (ptR r) (k+1):Nat):Int)
  rw [hd];exact vint (wrap64 (by omega) (by omega))
 -- e99: Value.int .i64 (IntKind.i64.wrap (((k : Nat) : Int) + (1 : Int))) = Value.int .i64 (((k + 1) : Nat) : Int)
 show Value.int .i64 (IntKind.i64.wrap (((k:Nat):Int)+(1:Int)))=Value.int .i64 (((k+1):Nat):Int)
 first|rfl|exact vint (wrap64 (by omega) (by omega))
def slsOk (ls:List (List Dat)):Prop:=(∀ k,k < ls.length→Dat.has (.sl 3 [.int]) (.sl (ptR (ls.getD k [])))∧(ptR (ls.getD k [])).length≤szRow (ls.getD k []))∧ls.length+szRows ls≤1048576
theorem sls_bs {ls:List (List Dat)} (h:slsOk ls) {k:Nat} (hk:k≤ls.length):bsT ls k≤1048576:=by
 have h1:=bsT_le (fun j hj=>(h.1 j hj).2) k hk
 have h2:=szRows_take_le ls k
 have:=h.2
 omega
theorem sls_pt {ls:List (List Dat)} (h:slsOk ls) {k:Nat} (hk:k < ls.length):Dat.has (.sl 3 [.int]) (.sl (ptR (ls.getD k [])))∧(ptR (ls.getD k [])).length≤1048576:=by
 have h1:=h.1 k hk
 have h2:=szRows_getD hk
 have:=h.2
 exact ⟨h1.1,by omega⟩
theorem sls_dc {ls:List (List Dat)} (h:slsOk ls) {k:Nat} (hk:k < ls.length):bsT ls (k+1)=bsT ls k+dcnt (ptR (ls.getD k []))∧dcnt (ptR (ls.getD k []))≤1048576:=⟨rfl,Nat.le_trans (dcnt_le _) (sls_pt h hk).2⟩
theorem bs_min (ls:List (List Dat)) (h k:Nat):bsT ls (min (k+1) h)=if k < h then bsT ls (min k h)+dcnt (ptR (ls.getD k [])) else bsT ls (min k h):=by
 by_cases hk:k < h
 ·rw [if_pos hk,Nat.min_eq_left (by omega),Nat.min_eq_left (by omega)];rfl
 ·rw [if_neg hk,Nat.min_eq_right (by omega),Nat.min_eq_right (by omega)]
def l01In_con:Con:={ ι:=Int×Int×Int,pre:=fun i=>True,args:=fun i=>[.one (.im (.int .i64 i.1)),.one (.im (.int .i64 i.2.1)),.one (.im (.int .i64 i.2.2))],res:=fun i=>⟨false,[none],[.im (Value.bool (decide (i.1≥i.2.1) && decide (i.1≤i.2.2)))]⟩ }
theorem l01In_ok:l01In_con.Ok Try.prog 53:=by
 refine fn_ok (X:=⟨tt,[],[],15,[]⟩) mixed tt_ok (CTok.nil _) (InlOk.nil _) Try.func53 (by decide) rfl rfl rfl (fun _=>Nat.le_of_ble_eq_true rfl) (fun _=>Nat.le_of_ble_eq_true rfl) (fun _=>[]) ?_
 rintro ⟨n,lo,hi⟩ hpre
 have hpre:True:=hpre
 refine by_nf (q:=((decide (n≥lo))=true→((Value.bool (decide (n≤hi))=Value.bool (decide (n≥lo) && decide (n≤hi)))))∧((decide (n≥lo))=false→((Value.bool false=Value.bool (decide (n≥lo) && decide (n≤hi)))))) (by kernel_rfl) ?_
 refine ⟨fun c1=>?_,fun c1=>?_⟩
 ·-- c1t: (decide (n ≥ lo)) = true
  replace c1:(decide (n≥lo))=true:=c1
  try simp only [nrm] at c1
  have e:decide (n≥lo)=true:=by simpa using c1
  -- l2: Value.bool (decide (n ≤ hi)) = Value.bool (decide (n ≥ lo) && decide (n ≤ hi))
  show Value.bool (decide (n≤hi))=Value.bool (decide (n≥lo) && decide (n≤hi))
  rw [e];rfl
 -- c1f: (decide (n ≥ lo)) = false
 replace c1:(decide (n≥lo))=false:=c1
 try simp only [nrm] at c1
 have e:decide (n≥lo)=false:=by simpa using c1
 -- l3: Value.bool false = Value.bool (decide (n ≥ lo) && decide (n ≤ hi))
 show Value.bool false=Value.bool (decide (n≥lo) && decide (n≤hi))
 rw [e];rfl
def iHeading_con:Con:={ ι:=(List Dat)×Int,pre:=fun i=>slsOk ((i.1.getD 7 (.int 0)).r)∧i.2≤9223372036854775807,args:=fun i=>[.agg [.im (.int .i64 ((i.1.getD 0 (.int 0)).n)),.im (.int .i64 ((i.1.getD 1 (.int 0)).n)),.im (.int .i64 ((i.1.getD 2 (.int 0)).n)),.im (.int .i64 ((i.1.getD 3 (.int 0)).n)),.sl 35 [.int,.int] ((i.1.getD 4 (.int 0)).r),.sl 61 [.sl 35 [.int,.int]] ((i.1.getD 5 (.int 0)).r),.sl 35 [.int,.int] ((i.1.getD 6 (.int 0)).r),.sl 43 [.int,.bool,.int,.int,.int,.int,.sl 61 [.sl 35 [.int,.int]],.sl 124 [.bool,.sl 3 [.int],.sl 3 [.int],.bool,.sl 3 [.int],.sl 3 [.int],.bool,.sl 3 [.int],.sl 3 [.int],.bool,.sl 3 [.int],.sl 3 [.int],.bool,.sl 3 [.int],.sl 3 [.int],.bool,.sl 3 [.int],.sl 3 [.int]],.sl 127 [.bool,.sl 3 [.int],.sl 3 [.int],.bool,.sl 3 [.int],.sl 3 [.int],.bool,.sl 3 [.int],.sl 3 [.int]],.sl 75 [.int,.int],.sl 3 [.int]] ((i.1.getD 7 (.int 0)).r),.sl 3 [.int] ((i.1.getD 8 (.int 0)).r),.sl 30 [.sl 3 [.int]] ((i.1.getD 9 (.int 0)).r)],.one (.im (.int .i64 i.2))],res:=fun i=>⟨false,[none],[.im (Value.int .i64 (hdZ ((i.1.getD 7 (.int 0)).r) i.2))]⟩ }
theorem iHeading_ok:iHeading_con.Ok Try.prog 21:=by
 refine fn_ok (X:=⟨tt,[(58,iParts_con)],[],25,[]⟩) mixed tt_ok (CTok.cons iParts_ok (CTok.nil _)) (InlOk.nil _) Try.func21 (by decide) rfl rfl rfl (fun _=>Nat.le_of_ble_eq_true rfl) (fun _=>Nat.le_of_ble_eq_true rfl) (fun (i:(List Dat)×Int)=>[(4,.mk 8 (Nat) (fun x1=>{ tm:=[(2,.one (.one (.bp 1 0))),(10,.one (.one (.ext 5))),(11,.one (.one (.im (Value.int .i64 ((((i.1.getD 7 (.int 0)).r).length:Nat):Int))))),(1,.one (.one (.im (Value.int .i64 (i.2 - ((bsT ((i.1.getD 7 (.int 0)).r) x1:Nat):Int)))))),(12,.one (.one (.im (Value.int .i64 ((x1:Nat):Int)))))],en:=[(1,.box [.im (Value.int .i64 ((i.1.getD 0 (.int 0)).n)),.im (Value.int .i64 ((i.1.getD 1 (.int 0)).n)),.im (Value.int .i64 ((i.1.getD 2 (.int 0)).n)),.im (Value.int .i64 ((i.1.getD 3 (.int 0)).n)),.ext 2,.ext 3,.ext 4,.ext 5,.ext 6,.ext 7]),(2,.view 35 [.int,.int] ((i.1.getD 4 (.int 0)).r) []),(3,.view 61 [.sl 35 [.int,.int]] ((i.1.getD 5 (.int 0)).r) []),(4,.view 35 [.int,.int] ((i.1.getD 6 (.int 0)).r) []),(5,.view 43 [.int,.bool,.int,.int,.int,.int,.sl 61 [.sl 35 [.int,.int]],.sl 124 [.bool,.sl 3 [.int],.sl 3 [.int],.bool,.sl 3 [.int],.sl 3 [.int],.bool,.sl 3 [.int],.sl 3 [.int],.bool,.sl 3 [.int],.sl 3 [.int],.bool,.sl 3 [.int],.sl 3 [.int],.bool,.sl 3 [.int],.sl 3 [.int]],.sl 127 [.bool,.sl 3 [.int],.sl 3 [.int],.bool,.sl 3 [.int],.sl 3 [.int],.bool,.sl 3 [.int],.sl 3 [.int]],.sl 75 [.int,.int],.sl 3 [.int]] ((i.1.getD 7 (.int 0)).r) []),(6,.view 3 [.int] ((i.1.getD 8 (.int 0)).r) []),(7,.view 30 [.sl 3 [.int]] ((i.1.getD 9 (.int 0)).r) [])] }) (fun x1=>x1≤((i.1.getD 7 (.int 0)).r).length∧((bsT ((i.1.getD 7 (.int 0)).r) x1:Nat):Int)≤i.2) (fun x1=>((i.1.getD 7 (.int 0)).r).length - x1) (fun _=>[]))]) ?_
 rintro ⟨r,n⟩ hpre
 have hpre:slsOk ((r.getD 7 (.int 0)).r)∧n≤9223372036854775807:=hpre
 refine by_nf (q:=((decide (n < (0:Int)))=true→((Value.int .i64 (-1:Int)=Value.int .i64 (hdZ ((r.getD 7 (.int 0)).r) n))))∧((decide (n < (0:Int)))=false→((∃ x1:Nat,(x1≤((r.getD 7 (.int 0)).r).length∧((bsT ((r.getD 7 (.int 0)).r) x1:Nat):Int)≤n)∧((rf (Value.int .i64 ((((r.getD 7 (.int 0)).r).length:Nat):Int)))∧(Value.int .i64 n=Value.int .i64 (n - ((bsT ((r.getD 7 (.int 0)).r) x1:Nat):Int)))∧(Value.int .i64 (0:Int)=Value.int .i64 ((x1:Nat):Int))∧(rf (Value.int .i64 ((r.getD 0 (.int 0)).n)))∧(rf (Value.int .i64 ((r.getD 1 (.int 0)).n)))∧(rf (Value.int .i64 ((r.getD 2 (.int 0)).n)))∧(rf (Value.int .i64 ((r.getD 3 (.int 0)).n)))∧(rf ((r.getD 4 (.int 0)).r))∧(rf ((r.getD 5 (.int 0)).r))∧(rf ((r.getD 6 (.int 0)).r))∧(rf ((r.getD 7 (.int 0)).r))∧(rf ((r.getD 8 (.int 0)).r))∧(rf ((r.getD 9 (.int 0)).r))))∧∀ x1:Nat,(x1≤((r.getD 7 (.int 0)).r).length∧((bsT ((r.getD 7 (.int 0)).r) x1:Nat):Int)≤n)→(((decide (((x1:Nat):Int) < ((((r.getD 7 (.int 0)).r).length:Nat):Int)))=true→((0≤((x1:Nat):Int)∧((x1:Nat):Int) < (((r.getD 7 (.int 0)).r).length:Int))∧((x1 < ((r.getD 7 (.int 0)).r).length)∧(∃ i1:(List Dat),[DA.agg [cI ((((((r.getD 7 (.int 0)).r).getD x1 []).getD 0 (.int 0))).n),cB ((((((r.getD 7 (.int 0)).r).getD x1 []).getD 1 (.int 0))).b),cI ((((((r.getD 7 (.int 0)).r).getD x1 []).getD 2 (.int 0))).n),cI ((((((r.getD 7 (.int 0)).r).getD x1 []).getD 3 (.int 0))).n),cI ((((((r.getD 7 (.int 0)).r).getD x1 []).getD 4 (.int 0))).n),cI ((((((r.getD 7 (.int 0)).r).getD x1 []).getD 5 (.int 0))).n),DC.sl 61 [.sl 35 [.int,.int]] ((((((r.getD 7 (.int 0)).r).getD x1 []).getD 6 (.int 0))).r),DC.sl 124 [.bool,.sl 3 [.int],.sl 3 [.int],.bool,.sl 3 [.int],.sl 3 [.int],.bool,.sl 3 [.int],.sl 3 [.int],.bool,.sl 3 [.int],.sl 3 [.int],.bool,.sl 3 [.int],.sl 3 [.int],.bool,.sl 3 [.int],.sl 3 [.int]] ((((((r.getD 7 (.int 0)).r).getD x1 []).getD 7 (.int 0))).r),DC.sl 127 [.bool,.sl 3 [.int],.sl 3 [.int],.bool,.sl 3 [.int],.sl 3 [.int],.bool,.sl 3 [.int],.sl 3 [.int]] ((((((r.getD 7 (.int 0)).r).getD x1 []).getD 8 (.int 0))).r),DC.sl 75 [.int,.int] ((((((r.getD 7 (.int 0)).r).getD x1 []).getD 9 (.int 0))).r),cS ((((((r.getD 7 (.int 0)).r).getD x1 []).getD 10 (.int 0))).r)]]=iParts_con.args i1∧iParts_con.pre i1∧(((decide ((IntKind.i64.wrap ((n - ((bsT ((r.getD 7 (.int 0)).r) x1:Nat):Int)) - ((dcnt (ptR i1):Nat):Int))) < (0:Int)))=true→((Value.int .i64 ((x1:Nat):Int)=Value.int .i64 (hdZ ((r.getD 7 (.int 0)).r) n))))∧((decide ((IntKind.i64.wrap ((n - ((bsT ((r.getD 7 (.int 0)).r) x1:Nat):Int)) - ((dcnt (ptR i1):Nat):Int))) < (0:Int)))=false→(∃ y2:Nat,(y2≤((r.getD 7 (.int 0)).r).length∧((bsT ((r.getD 7 (.int 0)).r) y2:Nat):Int)≤n)∧(((r.getD 7 (.int 0)).r).length - y2 < ((r.getD 7 (.int 0)).r).length - x1)∧((rf (Value.int .i64 ((((r.getD 7 (.int 0)).r).length:Nat):Int)))∧(Value.int .i64 (IntKind.i64.wrap ((n - ((bsT ((r.getD 7 (.int 0)).r) x1:Nat):Int)) - ((dcnt (ptR i1):Nat):Int)))=Value.int .i64 (n - ((bsT ((r.getD 7 (.int 0)).r) y2:Nat):Int)))∧(Value.int .i64 (IntKind.i64.wrap (((x1:Nat):Int)+(1:Int)))=Value.int .i64 ((y2:Nat):Int))∧(rf (Value.int .i64 ((r.getD 0 (.int 0)).n)))∧(rf (Value.int .i64 ((r.getD 1 (.int 0)).n)))∧(rf (Value.int .i64 ((r.getD 2 (.int 0)).n)))∧(rf (Value.int .i64 ((r.getD 3 (.int 0)).n)))∧(rf ((r.getD 4 (.int 0)).r))∧(rf ((r.getD 5 (.int 0)).r))∧(rf ((r.getD 6 (.int 0)).r))∧(rf ((r.getD 7 (.int 0)).r))∧(rf ((r.getD 8 (.int 0)).r))∧(rf ((r.getD 9 (.int 0)).r))))))))))∧((decide (((x1:Nat):Int) < ((((r.getD 7 (.int 0)).r).length:Nat):Int)))=false→((Value.int .i64 (-1:Int)=Value.int .i64 (hdZ ((r.getD 7 (.int 0)).r) n)))))))) (by kernel_rfl) ?_
 have hx:slsOk ((r.getD 7 (.int 0)).r):=hpre.1
 have hn:=hpre.2
 have hsz:((r.getD 7 (.int 0)).r).length+szRows ((r.getD 7 (.int 0)).r)≤1048576:=hpre.1.2
 refine ⟨fun c1=>?_,fun c1=>?_⟩
 ·-- c1t: (decide (n < (0 : Int))) = true
  replace c1:(decide (n < (0:Int)))=true:=c1
  try simp only [nrm] at c1
  -- l2: Value.int .i64 (-1 : Int) = Value.int .i64 (hdZ ((r.getD 7 (.int 0)).r) n)
  show Value.int .i64 (-1:Int)=Value.int .i64 (hdZ ((r.getD 7 (.int 0)).r) n)
  rw [hdZ_none (.inl c1)]
 -- c1f: (decide (n < (0 : Int))) = false
 replace c1:(decide (n < (0:Int)))=false:=c1
 try simp only [nrm] at c1
 -- i3
 refine ⟨⟨0,by
  first|exact ⟨Nat.zero_le _,by show ((0:Nat):Int)≤n;omega⟩|exact ⟨by omega,by omega⟩,?_⟩,?_⟩
 ·-- the beginning
  refine ⟨rfl,?_,?_,rfl,rfl,rfl,rfl,rfl,rfl,rfl,rfl,rfl,rfl⟩
  ·-- b6: Value.int .i64 n = Value.int .i64 (n - ((bsT ((r.getD 7 (.int 0)).r) 0 : Nat) : Int))
   show Value.int .i64 n=Value.int .i64 (n - ((bsT ((r.getD 7 (.int 0)).r) 0:Nat):Int))
   first|rfl|exact vint (by show n=n - ((0:Nat):Int);omega)
  -- b7: Value.int .i64 (0 : Int) = Value.int .i64 ((0 : Nat) : Int)
  show Value.int .i64 (0:Int)=Value.int .i64 ((0:Nat):Int)
  first|rfl|exact vint (by show n=n - ((0:Nat):Int);omega)
 intro (k:Nat) hki3
 have hki3:k≤((r.getD 7 (.int 0)).r).length∧((bsT ((r.getD 7 (.int 0)).r) k:Nat):Int)≤n:=hki3
 refine And.symm ⟨fun c18=>?_,fun c18=>?_⟩
 ·-- c18f: (decide (((k : Nat) : Int) < ((((r.getD 7 (.int 0)).r).length : Nat) : Int))) = false
  replace c18:(decide (((k:Nat):Int) < ((((r.getD 7 (.int 0)).r).length:Nat):Int)))=false:=c18
  try simp only [nrm] at c18
  -- l42: Value.int .i64 (-1 : Int) = Value.int .i64 (hdZ ((r.getD 7 (.int 0)).r) n)
  show Value.int .i64 (-1:Int)=Value.int .i64 (hdZ ((r.getD 7 (.int 0)).r) n)
  rw [hdZ_none (.inr (by rw [show ((r.getD 7 (.int 0)).r).length=k by omega];exact hki3.2))]
 -- c18t: (decide (((k : Nat) : Int) < ((((r.getD 7 (.int 0)).r).length : Nat) : Int))) = true
 replace c18:(decide (((k:Nat):Int) < ((((r.getD 7 (.int 0)).r).length:Nat):Int)))=true:=c18
 try simp only [nrm] at c18
 have hk:k < ((r.getD 7 (.int 0)).r).length:=by omega
 have hd:=sls_dc hx hk
 have hb:=sls_bs hx (show k+1≤((r.getD 7 (.int 0)).r).length by omega)
 have hpt:=sls_pt hx hk
 have hw:IntKind.i64.wrap ((n - ((bsT ((r.getD 7 (.int 0)).r) k:Nat):Int)) - ((dcnt (ptR (((r.getD 7 (.int 0)).r).getD k [])):Nat):Int))=n - ((bsT ((r.getD 7 (.int 0)).r) k:Nat):Int) - ((dcnt (ptR (((r.getD 7 (.int 0)).r).getD k [])):Nat):Int):=wrap64 (by omega) (by omega)
 have o19:0≤((k:Nat):Int)∧((k:Nat):Int) < (((r.getD 7 (.int 0)).r).length:Int):=by
  first|rfl|omega|(simp;done)|(simp;omega)
 refine ⟨o19,?_⟩
 have o20:k < ((r.getD 7 (.int 0)).r).length:=by
  first|rfl|omega|(simp;done)|(simp;omega)
 refine ⟨o20,?_⟩
 -- w21: iParts [DA.agg [DC.im (Value.int .i64 (((((r.getD 7 (.int 0)).r).getD k []).getD 0 (.int 0))).n), DC.im (Value.bool ((((((r.getD 7 (.int 0)).r).getD k []).getD 1 (.int 0))).b)), DC.im (Value.int .i64 (((((r.getD 7 (.int 0)).r).getD k []).getD 2 (.int 0))).n), DC.im (Value.int .i64 (((((r.getD 7 (.int 0)).r
 refine ⟨(((r.getD 7 (.int 0)).r).getD k []),by
  rfl,by
  show Dat.has (.sl 3 [.int]) (.sl (ptR (((r.getD 7 (.int 0)).r).getD k [])))∧(ptR (((r.getD 7 (.int 0)).r).getD k [])).length≤1048576
  first|trivial|exact hpt,?_⟩
 refine ⟨fun c24=>?_,fun c24=>?_⟩
 ·-- c24t: (decide ((IntKind.i64.wrap ((n - ((bsT ((r.getD 7 (.int 0)).r) k : Nat) : Int)) - ((dcnt (ptR (((r.getD 7 (.int 0)).r).getD k [])) : Nat) : Int))) < (0 : Int))) = true
  replace c24:(decide ((IntKind.i64.wrap ((n - ((bsT ((r.getD 7 (.int 0)).r) k:Nat):Int)) - ((dcnt (ptR (((r.getD 7 (.int 0)).r).getD k [])):Nat):Int))) < (0:Int)))=true:=c24
  try simp only [nrm] at c24
  have c24:n - ((bsT ((r.getD 7 (.int 0)).r) k:Nat):Int) - ((dcnt (ptR (((r.getD 7 (.int 0)).r).getD k [])):Nat):Int) < 0:=hw ▸ c24
  -- l25: Value.int .i64 ((k : Nat) : Int) = Value.int .i64 (hdZ ((r.getD 7 (.int 0)).r) n)
  show Value.int .i64 ((k:Nat):Int)=Value.int .i64 (hdZ ((r.getD 7 (.int 0)).r) n)
  rw [hdZ_at (h:=k) hk hki3.2 (by omega)]
 -- c24f: (decide ((IntKind.i64.wrap ((n - ((bsT ((r.getD 7 (.int 0)).r) k : Nat) : Int)) - ((dcnt (ptR (((r.getD 7 (.int 0)).r).getD k [])) : Nat) : Int))) < (0 : Int))) = false
 replace c24:(decide ((IntKind.i64.wrap ((n - ((bsT ((r.getD 7 (.int 0)).r) k:Nat):Int)) - ((dcnt (ptR (((r.getD 7 (.int 0)).r).getD k [])):Nat):Int))) < (0:Int)))=false:=c24
 try simp only [nrm] at c24
 have c24:0≤n - ((bsT ((r.getD 7 (.int 0)).r) k:Nat):Int) - ((dcnt (ptR (((r.getD 7 (.int 0)).r).getD k [])):Nat):Int):=hw ▸ c24
 -- n26
 refine ⟨k+1,by
  first|exact ⟨Nat.zero_le _,by show ((0:Nat):Int)≤n;omega⟩|exact ⟨by omega,by omega⟩,by
  first|omega|(simp;omega),?_⟩
 refine ⟨rfl,?_,?_,rfl,rfl,rfl,rfl,rfl,rfl,rfl,rfl,rfl,rfl⟩
 ·-- e30: Value.int .i64 (IntKind.i64.wrap ((n - ((bsT ((r.getD 7 (.int 0)).r) k : Nat) : Int)) - ((dcnt (ptR (((r.getD 7 (.int 0)).r).getD k [])) : Nat) : Int))) = Value.int .i64 (n - ((bsT ((r.getD 7 (.int 0)).r) (k + 1) : Nat) : Int))
  show Value.int .i64 (IntKind.i64.wrap ((n - ((bsT ((r.getD 7 (.int 0)).r) k:Nat):Int)) - ((dcnt (ptR (((r.getD 7 (.int 0)).r).getD k [])):Nat):Int)))=Value.int .i64 (n - ((bsT ((r.getD 7 (.int 0)).r) (k+1):Nat):Int))
  exact vint (hw.trans (by omega))
 -- e31: Value.int .i64 (IntKind.i64.wrap (((k : Nat) : Int) + (1 : Int))) = Value.int .i64 (((k + 1) : Nat) : Int)
 show Value.int .i64 (IntKind.i64.wrap (((k:Nat):Int)+(1:Int)))=Value.int .i64 (((k+1):Nat):Int)
 first|rfl|exact vint (wrap64 (by omega) (by omega))
def sBase_con:Con:={ ι:=(List (List Dat))×Nat,pre:=fun i=>slsOk i.1∧i.2≤1048576,args:=fun i=>[.one (.sl 43 [.int,.bool,.int,.int,.int,.int,.sl 61 [.sl 35 [.int,.int]],.sl 124 [.bool,.sl 3 [.int],.sl 3 [.int],.bool,.sl 3 [.int],.sl 3 [.int],.bool,.sl 3 [.int],.sl 3 [.int],.bool,.sl 3 [.int],.sl 3 [.int],.bool,.sl 3 [.int],.sl 3 [.int],.bool,.sl 3 [.int],.sl 3 [.int]],.sl 127 [.bool,.sl 3 [.int],.sl 3 [.int],.bool,.sl 3 [.int],.sl 3 [.int],.bool,.sl 3 [.int],.sl 3 [.int]],.sl 75 [.int,.int],.sl 3 [.int]] i.1),.one (.im (.int .i64 ((i.2:Nat):Int)))],res:=fun i=>⟨false,[none],[.im (Value.int .i64 ((bsT i.1 (min i.1.length i.2):Nat):Int))]⟩ }
theorem sBase_ok:sBase_con.Ok Try.prog 52:=by
 refine fn_ok (X:=⟨tt,[(54,sParts_con)],[],24,[]⟩) mixed tt_ok (CTok.cons sParts_ok (CTok.nil _)) (InlOk.nil _) Try.func52 (by decide) rfl rfl rfl (fun _=>Nat.le_of_ble_eq_true rfl) (fun _=>Nat.le_of_ble_eq_true rfl) (fun (i:(List (List Dat))×Nat)=>[(3,.mk 2 (Nat) (fun x1=>{ tm:=[(1,.one (.one (.im (Value.int .i64 ((i.2:Nat):Int))))),(8,.one (.one (.ext 1))),(9,.one (.one (.im (Value.int .i64 ((i.1.length:Nat):Int))))),(5,.one (.one (.im (Value.int .i64 ((bsT i.1 (min x1 i.2):Nat):Int))))),(10,.one (.one (.im (Value.int .i64 ((x1:Nat):Int)))))],en:=[(1,.view 43 [.int,.bool,.int,.int,.int,.int,.sl 61 [.sl 35 [.int,.int]],.sl 124 [.bool,.sl 3 [.int],.sl 3 [.int],.bool,.sl 3 [.int],.sl 3 [.int],.bool,.sl 3 [.int],.sl 3 [.int],.bool,.sl 3 [.int],.sl 3 [.int],.bool,.sl 3 [.int],.sl 3 [.int],.bool,.sl 3 [.int],.sl 3 [.int]],.sl 127 [.bool,.sl 3 [.int],.sl 3 [.int],.bool,.sl 3 [.int],.sl 3 [.int],.bool,.sl 3 [.int],.sl 3 [.int]],.sl 75 [.int,.int],.sl 3 [.int]] i.1 [])] }) (fun x1=>x1≤i.1.length) (fun x1=>i.1.length - x1) (fun _=>[]))]) ?_
 rintro ⟨l,h⟩ hpre
 have hpre:slsOk l∧h≤1048576:=hpre
 refine by_nf (q:=(∃ x1:Nat,(x1≤l.length)∧((rf (Value.int .i64 ((h:Nat):Int)))∧(rf (Value.int .i64 ((l.length:Nat):Int)))∧(Value.int .i64 (0:Int)=Value.int .i64 ((bsT l (min x1 h):Nat):Int))∧(Value.int .i64 (0:Int)=Value.int .i64 ((x1:Nat):Int))∧(rf (l))))∧∀ x1:Nat,(x1≤l.length)→(((decide (((x1:Nat):Int) < ((l.length:Nat):Int)))=true→((0≤((x1:Nat):Int)∧((x1:Nat):Int) < (l.length:Int))∧((x1 < l.length)∧(((decide (((x1:Nat):Int) < ((h:Nat):Int)))=true→(∃ i1:(List Dat),[DA.agg [cI ((((l.getD x1 []).getD 0 (.int 0))).n),cB ((((l.getD x1 []).getD 1 (.int 0))).b),cI ((((l.getD x1 []).getD 2 (.int 0))).n),cI ((((l.getD x1 []).getD 3 (.int 0))).n),cI ((((l.getD x1 []).getD 4 (.int 0))).n),cI ((((l.getD x1 []).getD 5 (.int 0))).n),DC.sl 61 [.sl 35 [.int,.int]] ((((l.getD x1 []).getD 6 (.int 0))).r),DC.sl 124 [.bool,.sl 3 [.int],.sl 3 [.int],.bool,.sl 3 [.int],.sl 3 [.int],.bool,.sl 3 [.int],.sl 3 [.int],.bool,.sl 3 [.int],.sl 3 [.int],.bool,.sl 3 [.int],.sl 3 [.int],.bool,.sl 3 [.int],.sl 3 [.int]] ((((l.getD x1 []).getD 7 (.int 0))).r),DC.sl 127 [.bool,.sl 3 [.int],.sl 3 [.int],.bool,.sl 3 [.int],.sl 3 [.int],.bool,.sl 3 [.int],.sl 3 [.int]] ((((l.getD x1 []).getD 8 (.int 0))).r),DC.sl 75 [.int,.int] ((((l.getD x1 []).getD 9 (.int 0))).r),cS ((((l.getD x1 []).getD 10 (.int 0))).r)]]=sParts_con.args i1∧sParts_con.pre i1∧(∃ y2:Nat,(y2≤l.length)∧(l.length - y2 < l.length - x1)∧((rf (Value.int .i64 ((h:Nat):Int)))∧(rf (Value.int .i64 ((l.length:Nat):Int)))∧(Value.int .i64 (IntKind.i64.wrap (((bsT l (min x1 h):Nat):Int)+((dcnt (ptR i1):Nat):Int)))=Value.int .i64 ((bsT l (min y2 h):Nat):Int))∧(Value.int .i64 (IntKind.i64.wrap (((x1:Nat):Int)+(1:Int)))=Value.int .i64 ((y2:Nat):Int))∧(rf (l))))))∧((decide (((x1:Nat):Int) < ((h:Nat):Int)))=false→(∃ y3:Nat,(y3≤l.length)∧(l.length - y3 < l.length - x1)∧((rf (Value.int .i64 ((h:Nat):Int)))∧(rf (Value.int .i64 ((l.length:Nat):Int)))∧(Value.int .i64 ((bsT l (min x1 h):Nat):Int)=Value.int .i64 ((bsT l (min y3 h):Nat):Int))∧(Value.int .i64 (IntKind.i64.wrap (((x1:Nat):Int)+(1:Int)))=Value.int .i64 ((y3:Nat):Int))∧(rf (l)))))))))∧((decide (((x1:Nat):Int) < ((l.length:Nat):Int)))=false→((Value.int .i64 ((bsT l (min x1 h):Nat):Int)=Value.int .i64 ((bsT l (min l.length h):Nat):Int)))))) (by kernel_rfl) ?_
 have hz:=hpre.1.2
 -- i1
 refine ⟨⟨0,by
  first|trivial|omega|(simp;omega),?_⟩,?_⟩
 ·-- the beginning
  refine ⟨rfl,rfl,?_,?_,rfl⟩
  ·-- b5: Value.int .i64 (0 : Int) = Value.int .i64 ((bsT l (min 0 h) : Nat) : Int)
   show Value.int .i64 (0:Int)=Value.int .i64 ((bsT l (min 0 h):Nat):Int)
   first|rfl|(rw [Nat.zero_min];rfl)
  -- b6: Value.int .i64 (0 : Int) = Value.int .i64 ((0 : Nat) : Int)
  show Value.int .i64 (0:Int)=Value.int .i64 ((0:Nat):Int)
  first|rfl|(rw [Nat.zero_min];rfl)
 intro (k:Nat) hki1
 have hki1:k≤l.length:=hki1
 refine And.symm ⟨fun c8=>?_,fun c8=>?_⟩
 ·-- c8f: (decide (((k : Nat) : Int) < ((l.length : Nat) : Int))) = false
  replace c8:(decide (((k:Nat):Int) < ((l.length:Nat):Int)))=false:=c8
  try simp only [nrm] at c8
  -- l31: Value.int .i64 ((bsT l (min k h) : Nat) : Int) = Value.int .i64 ((bsT l (min l.length h) : Nat) : Int)
  show Value.int .i64 ((bsT l (min k h):Nat):Int)=Value.int .i64 ((bsT l (min l.length h):Nat):Int)
  rw [show k=l.length by omega]
 -- c8t: (decide (((k : Nat) : Int) < ((l.length : Nat) : Int))) = true
 replace c8:(decide (((k:Nat):Int) < ((l.length:Nat):Int)))=true:=c8
 try simp only [nrm] at c8
 have hd:=sls_dc hpre.1 (show k < l.length by omega)
 have hb:=sls_bs hpre.1 (show k+1≤l.length by omega)
 have hm:=bs_min l h k
 have o9:0≤((k:Nat):Int)∧((k:Nat):Int) < (l.length:Int):=by
  first|rfl|omega|(simp;done)|(simp;omega)
 refine ⟨o9,?_⟩
 have o10:k < l.length:=by
  first|rfl|omega|(simp;done)|(simp;omega)
 refine ⟨o10,?_⟩
 refine And.symm ⟨fun c11=>?_,fun c11=>?_⟩
 ·-- c11f: (decide (((k : Nat) : Int) < ((h : Nat) : Int))) = false
  replace c11:(decide (((k:Nat):Int) < ((h:Nat):Int)))=false:=c11
  try simp only [nrm] at c11
  rw [if_neg (by omega)] at hm
  -- n23
  refine ⟨k+1,by
   first|trivial|omega|(simp;omega),by
   first|omega|(simp;omega),?_⟩
  refine ⟨rfl,rfl,?_,?_,rfl⟩
  ·-- e28: Value.int .i64 ((bsT l (min k h) : Nat) : Int) = Value.int .i64 ((bsT l (min (k + 1) h) : Nat) : Int)
   show Value.int .i64 ((bsT l (min k h):Nat):Int)=Value.int .i64 ((bsT l (min (k+1) h):Nat):Int)
   rw [hm]
  -- e29: Value.int .i64 (IntKind.i64.wrap (((k : Nat) : Int) + (1 : Int))) = Value.int .i64 (((k + 1) : Nat) : Int)
  show Value.int .i64 (IntKind.i64.wrap (((k:Nat):Int)+(1:Int)))=Value.int .i64 (((k+1):Nat):Int)
  first|rfl|exact vint (wrap64 (by omega) (by omega))
 -- c11t: (decide (((k : Nat) : Int) < ((h : Nat) : Int))) = true
 replace c11:(decide (((k:Nat):Int) < ((h:Nat):Int)))=true:=c11
 try simp only [nrm] at c11
 rw [if_pos (by omega)] at hm
 have he:min k h=k:=Nat.min_eq_left (by omega)
 -- w12: sParts [DA.agg [DC.im (Value.int .i64 (((l.getD k []).getD 0 (.int 0))).n), DC.im (Value.bool ((((l.getD k []).getD 1 (.int 0))).b)), DC.im (Value.int .i64 (((l.getD k []).getD 2 (.int 0))).n), DC.im (Value.int .i64 (((l.getD k []).getD 3 (.int 0))).n), DC.im (Value.int .i64 (((l.getD k []).getD 4 (.int 0)
 refine ⟨(l.getD k []),by
  rfl,by
  show Dat.has (.sl 3 [.int]) (.sl (ptR (l.getD k [])))∧(ptR (l.getD k [])).length≤1048576
  first|trivial|exact sls_pt hpre.1 (by omega),?_⟩
 -- n15
 refine ⟨k+1,by
  first|trivial|omega|(simp;omega),by
  first|omega|(simp;omega),?_⟩
 refine ⟨rfl,rfl,?_,?_,rfl⟩
 ·-- e20: Value.int .i64 (IntKind.i64.wrap (((bsT l (min k h) : Nat) : Int) + ((dcnt (ptR (l.getD k [])) : Nat) : Int))) = Value.int .i64 ((bsT l (min (k + 1) h) : Nat) : Int)
  show Value.int .i64 (IntKind.i64.wrap (((bsT l (min k h):Nat):Int)+((dcnt (ptR (l.getD k [])):Nat):Int)))=Value.int .i64 ((bsT l (min (k+1) h):Nat):Int)
  rw [hm];exact vint (wrap64 (by omega) (by rw [he];omega))
 -- e21: Value.int .i64 (IntKind.i64.wrap (((k : Nat) : Int) + (1 : Int))) = Value.int .i64 (((k + 1) : Nat) : Int)
 show Value.int .i64 (IntKind.i64.wrap (((k:Nat):Int)+(1:Int)))=Value.int .i64 (((k+1):Nat):Int)
 first|rfl|exact vint (wrap64 (by omega) (by omega))
def sHeading_con:Con:={ ι:=(List Dat)×Int,pre:=fun i=>slsOk ((i.1.getD 7 (.int 0)).r)∧i.2≤9223372036854775807,args:=fun i=>[.agg [.im (.int .i64 ((i.1.getD 0 (.int 0)).n)),.im (.int .i64 ((i.1.getD 1 (.int 0)).n)),.im (.int .i64 ((i.1.getD 2 (.int 0)).n)),.im (.int .i64 ((i.1.getD 3 (.int 0)).n)),.sl 35 [.int,.int] ((i.1.getD 4 (.int 0)).r),.sl 61 [.sl 35 [.int,.int]] ((i.1.getD 5 (.int 0)).r),.sl 35 [.int,.int] ((i.1.getD 6 (.int 0)).r),.sl 43 [.int,.bool,.int,.int,.int,.int,.sl 61 [.sl 35 [.int,.int]],.sl 124 [.bool,.sl 3 [.int],.sl 3 [.int],.bool,.sl 3 [.int],.sl 3 [.int],.bool,.sl 3 [.int],.sl 3 [.int],.bool,.sl 3 [.int],.sl 3 [.int],.bool,.sl 3 [.int],.sl 3 [.int],.bool,.sl 3 [.int],.sl 3 [.int]],.sl 127 [.bool,.sl 3 [.int],.sl 3 [.int],.bool,.sl 3 [.int],.sl 3 [.int],.bool,.sl 3 [.int],.sl 3 [.int]],.sl 75 [.int,.int],.sl 3 [.int]] ((i.1.getD 7 (.int 0)).r),.sl 3 [.int] ((i.1.getD 8 (.int 0)).r),.sl 30 [.sl 3 [.int]] ((i.1.getD 9 (.int 0)).r)],.one (.im (.int .i64 i.2))],res:=fun i=>⟨false,[none],[.im (Value.int .i64 (hdZ ((i.1.getD 7 (.int 0)).r) i.2))]⟩ }
theorem sHeading_ok:sHeading_con.Ok Try.prog 19:=by
 refine fn_ok (X:=⟨tt,[(52,sBase_con),(54,sParts_con),(53,l01In_con)],[],30,[]⟩) mixed tt_ok (CTok.cons sBase_ok (CTok.cons sParts_ok (CTok.cons l01In_ok (CTok.nil _)))) (InlOk.nil _) Try.func19 (by decide) rfl rfl rfl (fun _=>Nat.le_of_ble_eq_true rfl) (fun _=>Nat.le_of_ble_eq_true rfl) (fun (i:(List Dat)×Int)=>[(2,.mk 8 (Nat) (fun x1=>{ tm:=[(1,.one (.one (.im (Value.int .i64 i.2)))),(2,.one (.one (.bp 1 0))),(9,.one (.one (.ext 5))),(10,.one (.one (.im (Value.int .i64 ((((i.1.getD 7 (.int 0)).r).length:Nat):Int))))),(11,.one (.one (.im (Value.int .i64 ((x1:Nat):Int)))))],en:=[(1,.box [.im (Value.int .i64 ((i.1.getD 0 (.int 0)).n)),.im (Value.int .i64 ((i.1.getD 1 (.int 0)).n)),.im (Value.int .i64 ((i.1.getD 2 (.int 0)).n)),.im (Value.int .i64 ((i.1.getD 3 (.int 0)).n)),.ext 2,.ext 3,.ext 4,.ext 5,.ext 6,.ext 7]),(2,.view 35 [.int,.int] ((i.1.getD 4 (.int 0)).r) []),(3,.view 61 [.sl 35 [.int,.int]] ((i.1.getD 5 (.int 0)).r) []),(4,.view 35 [.int,.int] ((i.1.getD 6 (.int 0)).r) []),(5,.view 43 [.int,.bool,.int,.int,.int,.int,.sl 61 [.sl 35 [.int,.int]],.sl 124 [.bool,.sl 3 [.int],.sl 3 [.int],.bool,.sl 3 [.int],.sl 3 [.int],.bool,.sl 3 [.int],.sl 3 [.int],.bool,.sl 3 [.int],.sl 3 [.int],.bool,.sl 3 [.int],.sl 3 [.int],.bool,.sl 3 [.int],.sl 3 [.int]],.sl 127 [.bool,.sl 3 [.int],.sl 3 [.int],.bool,.sl 3 [.int],.sl 3 [.int],.bool,.sl 3 [.int],.sl 3 [.int]],.sl 75 [.int,.int],.sl 3 [.int]] ((i.1.getD 7 (.int 0)).r) []),(6,.view 3 [.int] ((i.1.getD 8 (.int 0)).r) []),(7,.view 30 [.sl 3 [.int]] ((i.1.getD 9 (.int 0)).r) [])] }) (fun x1=>x1≤((i.1.getD 7 (.int 0)).r).length∧(0≤i.2→((bsT ((i.1.getD 7 (.int 0)).r) x1:Nat):Int)≤i.2)) (fun x1=>((i.1.getD 7 (.int 0)).r).length - x1) (fun _=>[]))]) ?_
 rintro ⟨r,n⟩ hpre
 have hpre:slsOk ((r.getD 7 (.int 0)).r)∧n≤9223372036854775807:=hpre
 refine by_nf (q:=(∃ x1:Nat,(x1≤((r.getD 7 (.int 0)).r).length∧(0≤n→((bsT ((r.getD 7 (.int 0)).r) x1:Nat):Int)≤n))∧((rf (Value.int .i64 n))∧(rf (Value.int .i64 ((((r.getD 7 (.int 0)).r).length:Nat):Int)))∧(Value.int .i64 (0:Int)=Value.int .i64 ((x1:Nat):Int))∧(rf (Value.int .i64 ((r.getD 0 (.int 0)).n)))∧(rf (Value.int .i64 ((r.getD 1 (.int 0)).n)))∧(rf (Value.int .i64 ((r.getD 2 (.int 0)).n)))∧(rf (Value.int .i64 ((r.getD 3 (.int 0)).n)))∧(rf ((r.getD 4 (.int 0)).r))∧(rf ((r.getD 5 (.int 0)).r))∧(rf ((r.getD 6 (.int 0)).r))∧(rf ((r.getD 7 (.int 0)).r))∧(rf ((r.getD 8 (.int 0)).r))∧(rf ((r.getD 9 (.int 0)).r))))∧∀ x1:Nat,(x1≤((r.getD 7 (.int 0)).r).length∧(0≤n→((bsT ((r.getD 7 (.int 0)).r) x1:Nat):Int)≤n))→(((decide (((x1:Nat):Int) < ((((r.getD 7 (.int 0)).r).length:Nat):Int)))=true→((0≤((x1:Nat):Int)∧((x1:Nat):Int) < (((r.getD 7 (.int 0)).r).length:Int))∧((x1 < ((r.getD 7 (.int 0)).r).length)∧(∃ i1:(List (List Dat))×Nat,[DA.one (DC.sl 43 [.int,.bool,.int,.int,.int,.int,.sl 61 [.sl 35 [.int,.int]],.sl 124 [.bool,.sl 3 [.int],.sl 3 [.int],.bool,.sl 3 [.int],.sl 3 [.int],.bool,.sl 3 [.int],.sl 3 [.int],.bool,.sl 3 [.int],.sl 3 [.int],.bool,.sl 3 [.int],.sl 3 [.int],.bool,.sl 3 [.int],.sl 3 [.int]],.sl 127 [.bool,.sl 3 [.int],.sl 3 [.int],.bool,.sl 3 [.int],.sl 3 [.int],.bool,.sl 3 [.int],.sl 3 [.int]],.sl 75 [.int,.int],.sl 3 [.int]] ((r.getD 7 (.int 0)).r)),DA.one (cI ((x1:Nat):Int))]=sBase_con.args i1∧sBase_con.pre i1∧(∃ i2:(List Dat),[DA.agg [cI ((((((r.getD 7 (.int 0)).r).getD x1 []).getD 0 (.int 0))).n),cB ((((((r.getD 7 (.int 0)).r).getD x1 []).getD 1 (.int 0))).b),cI ((((((r.getD 7 (.int 0)).r).getD x1 []).getD 2 (.int 0))).n),cI ((((((r.getD 7 (.int 0)).r).getD x1 []).getD 3 (.int 0))).n),cI ((((((r.getD 7 (.int 0)).r).getD x1 []).getD 4 (.int 0))).n),cI ((((((r.getD 7 (.int 0)).r).getD x1 []).getD 5 (.int 0))).n),DC.sl 61 [.sl 35 [.int,.int]] ((((((r.getD 7 (.int 0)).r).getD x1 []).getD 6 (.int 0))).r),DC.sl 124 [.bool,.sl 3 [.int],.sl 3 [.int],.bool,.sl 3 [.int],.sl 3 [.int],.bool,.sl 3 [.int],.sl 3 [.int],.bool,.sl 3 [.int],.sl 3 [.int],.bool,.sl 3 [.int],.sl 3 [.int],.bool,.sl 3 [.int],.sl 3 [.int]] ((((((r.getD 7 (.int 0)).r).getD x1 []).getD 7 (.int 0))).r),DC.sl 127 [.bool,.sl 3 [.int],.sl 3 [.int],.bool,.sl 3 [.int],.sl 3 [.int],.bool,.sl 3 [.int],.sl 3 [.int]] ((((((r.getD 7 (.int 0)).r).getD x1 []).getD 8 (.int 0))).r),DC.sl 75 [.int,.int] ((((((r.getD 7 (.int 0)).r).getD x1 []).getD 9 (.int 0))).r),cS ((((((r.getD 7 (.int 0)).r).getD x1 []).getD 10 (.int 0))).r)]]=sParts_con.args i2∧sParts_con.pre i2∧(∃ i3:Int×Int×Int,[DA.one (cI n),DA.one (cI ((bsT i1.1 (min i1.1.length i1.2):Nat):Int)),DA.one (cI (IntKind.i64.wrap ((IntKind.i64.wrap (((bsT i1.1 (min i1.1.length i1.2):Nat):Int)+((dcnt (ptR i2):Nat):Int))) - (1:Int))))]=l01In_con.args i3∧l01In_con.pre i3∧(((decide (i3.1≥i3.2.1) && decide (i3.1≤i3.2.2))=true→((Value.int .i64 ((x1:Nat):Int)=Value.int .i64 (hdZ ((r.getD 7 (.int 0)).r) n))))∧((decide (i3.1≥i3.2.1) && decide (i3.1≤i3.2.2))=false→(∃ y2:Nat,(y2≤((r.getD 7 (.int 0)).r).length∧(0≤n→((bsT ((r.getD 7 (.int 0)).r) y2:Nat):Int)≤n))∧(((r.getD 7 (.int 0)).r).length - y2 < ((r.getD 7 (.int 0)).r).length - x1)∧((rf (Value.int .i64 n))∧(rf (Value.int .i64 ((((r.getD 7 (.int 0)).r).length:Nat):Int)))∧(Value.int .i64 (IntKind.i64.wrap (((x1:Nat):Int)+(1:Int)))=Value.int .i64 ((y2:Nat):Int))∧(rf (Value.int .i64 ((r.getD 0 (.int 0)).n)))∧(rf (Value.int .i64 ((r.getD 1 (.int 0)).n)))∧(rf (Value.int .i64 ((r.getD 2 (.int 0)).n)))∧(rf (Value.int .i64 ((r.getD 3 (.int 0)).n)))∧(rf ((r.getD 4 (.int 0)).r))∧(rf ((r.getD 5 (.int 0)).r))∧(rf ((r.getD 6 (.int 0)).r))∧(rf ((r.getD 7 (.int 0)).r))∧(rf ((r.getD 8 (.int 0)).r))∧(rf ((r.getD 9 (.int 0)).r))))))))))))∧((decide (((x1:Nat):Int) < ((((r.getD 7 (.int 0)).r).length:Nat):Int)))=false→((Value.int .i64 (-1:Int)=Value.int .i64 (hdZ ((r.getD 7 (.int 0)).r) n)))))) (by kernel_rfl) ?_
 have hx:slsOk ((r.getD 7 (.int 0)).r):=hpre.1
 have hn:=hpre.2
 have hsz:((r.getD 7 (.int 0)).r).length+szRows ((r.getD 7 (.int 0)).r)≤1048576:=hpre.1.2
 -- i1
 refine ⟨⟨0,by
  first|exact ⟨Nat.zero_le _,fun h=>h⟩|exact ⟨by omega,fun h=>by have:=hki1.2 h;omega⟩,?_⟩,?_⟩
 ·-- the beginning
  refine ⟨rfl,rfl,?_,rfl,rfl,rfl,rfl,rfl,rfl,rfl,rfl,rfl,rfl⟩
  -- b5: Value.int .i64 (0 : Int) = Value.int .i64 ((0 : Nat) : Int)
  show Value.int .i64 (0:Int)=Value.int .i64 ((0:Nat):Int)
  first|rfl|(simp;done)
 intro (k:Nat) hki1
 have hki1:k≤((r.getD 7 (.int 0)).r).length∧(0≤n→((bsT ((r.getD 7 (.int 0)).r) k:Nat):Int)≤n):=hki1
 refine And.symm ⟨fun c16=>?_,fun c16=>?_⟩
 ·-- c16f: (decide (((k : Nat) : Int) < ((((r.getD 7 (.int 0)).r).length : Nat) : Int))) = false
  replace c16:(decide (((k:Nat):Int) < ((((r.getD 7 (.int 0)).r).length:Nat):Int)))=false:=c16
  try simp only [nrm] at c16
  -- l46: Value.int .i64 (-1 : Int) = Value.int .i64 (hdZ ((r.getD 7 (.int 0)).r) n)
  show Value.int .i64 (-1:Int)=Value.int .i64 (hdZ ((r.getD 7 (.int 0)).r) n)
  have e:((r.getD 7 (.int 0)).r).length=k:=by omega
  have hh:n < 0∨((bsT ((r.getD 7 (.int 0)).r) ((r.getD 7 (.int 0)).r).length:Nat):Int)≤n:=by
   rw [e]
   by_cases h0:n < 0
   ·exact .inl h0
   ·exact .inr (hki1.2 (by omega))
  rw [hdZ_none hh]
 -- c16t: (decide (((k : Nat) : Int) < ((((r.getD 7 (.int 0)).r).length : Nat) : Int))) = true
 replace c16:(decide (((k:Nat):Int) < ((((r.getD 7 (.int 0)).r).length:Nat):Int)))=true:=c16
 try simp only [nrm] at c16
 have hk:k < ((r.getD 7 (.int 0)).r).length:=by omega
 have hd:=sls_dc hx hk
 have hb:=sls_bs hx (show k+1≤((r.getD 7 (.int 0)).r).length by omega)
 have hpt:=sls_pt hx hk
 have hmn:min ((r.getD 7 (.int 0)).r).length k=k:=Nat.min_eq_right (by omega)
 have hw:IntKind.i64.wrap ((IntKind.i64.wrap (((bsT ((r.getD 7 (.int 0)).r) k:Nat):Int)+((dcnt (ptR (((r.getD 7 (.int 0)).r).getD k [])):Nat):Int))) - (1:Int))=((bsT ((r.getD 7 (.int 0)).r) k:Nat):Int)+((dcnt (ptR (((r.getD 7 (.int 0)).r).getD k [])):Nat):Int) - 1:=by rw [wrap64 (x:=((bsT ((r.getD 7 (.int 0)).r) k:Nat):Int)+((dcnt (ptR (((r.getD 7 (.int 0)).r).getD k [])):Nat):Int)) (by omega) (by omega),wrap64 (by omega) (by omega)]
 have o17:0≤((k:Nat):Int)∧((k:Nat):Int) < (((r.getD 7 (.int 0)).r).length:Int):=by
  first|rfl|omega|(simp;done)|(simp;omega)
 refine ⟨o17,?_⟩
 have o18:k < ((r.getD 7 (.int 0)).r).length:=by
  first|rfl|omega|(simp;done)|(simp;omega)
 refine ⟨o18,?_⟩
 -- w19: sBase [DA.one (DC.sl 43 [.int, .bool, .int, .int, .int, .int, .sl 61 [.sl 35 [.int, .int]], .sl 124 [.bool, .sl 3 [.int], .sl 3 [.int], .bool, .sl 3 [.int], .sl 3 [.int], .bool, .sl 3 [.int], .sl 3 [.int], .bool, .sl 3 [.int], .sl 3 [.int], .bool, .sl 3 [.int], .sl 3 [.int], .bool, .sl 3 [.int], .sl 3 [.i
 refine ⟨(((r.getD 7 (.int 0)).r),k),by
  rfl,by
  show slsOk ((r.getD 7 (.int 0)).r)∧k≤1048576
  first|trivial|exact ⟨hx,by omega⟩|exact hpt,?_⟩
 -- w22: sParts [DA.agg [DC.im (Value.int .i64 (((((r.getD 7 (.int 0)).r).getD k []).getD 0 (.int 0))).n), DC.im (Value.bool ((((((r.getD 7 (.int 0)).r).getD k []).getD 1 (.int 0))).b)), DC.im (Value.int .i64 (((((r.getD 7 (.int 0)).r).getD k []).getD 2 (.int 0))).n), DC.im (Value.int .i64 (((((r.getD 7 (.int 0)).r
 refine ⟨(((r.getD 7 (.int 0)).r).getD k []),by
  rfl,by
  show Dat.has (.sl 3 [.int]) (.sl (ptR (((r.getD 7 (.int 0)).r).getD k [])))∧(ptR (((r.getD 7 (.int 0)).r).getD k [])).length≤1048576
  first|trivial|exact ⟨hx,by omega⟩|exact hpt,?_⟩
 -- w25: l01In [DA.one (DC.im (Value.int .i64 n)), DA.one (DC.im (Value.int .i64 ((bsT ((r.getD 7 (.int 0)).r) (min ((r.getD 7 (.int 0)).r).length k) : Nat) : Int))), DA.one (DC.im (Value.int .i64 (IntKind.i64.wrap ((IntKind.i64.wrap (((bsT ((r.getD 7 (.int 0)).r) (min ((r.getD 7 (.int 0)).r).length k) : Nat) : In
 refine ⟨(n,((bsT ((r.getD 7 (.int 0)).r) (min ((r.getD 7 (.int 0)).r).length k):Nat):Int),(IntKind.i64.wrap ((IntKind.i64.wrap (((bsT ((r.getD 7 (.int 0)).r) (min ((r.getD 7 (.int 0)).r).length k):Nat):Int)+((dcnt (ptR (((r.getD 7 (.int 0)).r).getD k [])):Nat):Int))) - (1:Int)))),by
  rfl,by
  first|trivial|exact ⟨hx,by omega⟩|exact hpt,?_⟩
 refine ⟨fun c28=>?_,fun c28=>?_⟩
 ·-- c28t: (decide (n ≥ ((bsT ((r.getD 7 (.int 0)).r) (min ((r.getD 7 (.int 0)).r).length k) : Nat) : Int)) && decide (n ≤ (IntKind.i64.wrap ((IntKind.i64.wrap (((bsT ((r.getD 7 (.int 0)).r) (min ((r.getD 7 (.int 0)).r).length k) : Nat) : Int) + ((dcnt (ptR (((r.getD 7 (.int 0)).r).getD k [])) : Nat) : Int))) - (1 : Int))))) = true
  try dsimp only at c28
  try simp only [nrm] at c28
  rw [hmn,hw] at c28
  -- l29: Value.int .i64 ((k : Nat) : Int) = Value.int .i64 (hdZ ((r.getD 7 (.int 0)).r) n)
  show Value.int .i64 ((k:Nat):Int)=Value.int .i64 (hdZ ((r.getD 7 (.int 0)).r) n)
  rw [hdZ_at (h:=k) hk (by omega) (by omega)]
 -- c28f: (decide (n ≥ ((bsT ((r.getD 7 (.int 0)).r) (min ((r.getD 7 (.int 0)).r).length k) : Nat) : Int)) && decide (n ≤ (IntKind.i64.wrap ((IntKind.i64.wrap (((bsT ((r.getD 7 (.int 0)).r) (min ((r.getD 7 (.int 0)).r).length k) : Nat) : Int) + ((dcnt (ptR (((r.getD 7 (.int 0)).r).getD k [])) : Nat) : Int))) - (1 : Int))))) = false
 try dsimp only at c28
 try simp only [nrm] at c28
 rw [hmn,hw] at c28
 -- n30
 refine ⟨k+1,by
  first|exact ⟨Nat.zero_le _,fun h=>h⟩|exact ⟨by omega,fun h=>by have:=hki1.2 h;omega⟩,by
  first|omega|(simp;omega),?_⟩
 refine ⟨rfl,rfl,?_,rfl,rfl,rfl,rfl,rfl,rfl,rfl,rfl,rfl,rfl⟩
 -- e35: Value.int .i64 (IntKind.i64.wrap (((k : Nat) : Int) + (1 : Int))) = Value.int .i64 (((k + 1) : Nat) : Int)
 show Value.int .i64 (IntKind.i64.wrap (((k:Nat):Int)+(1:Int)))=Value.int .i64 (((k+1):Nat):Int)
 first|rfl|exact vint (wrap64 (by omega) (by omega))
end Go.Proofs.Ytblmlkdefjoebaa
