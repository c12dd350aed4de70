import Derived.Test.YtmedodfenejimaaGreatLkRkSt
import Derived.Test.YtmedodfenejimaaGreatLkIntw
import Derived.Test.YtmedodfenejimaaGreatLkIntS
import Derived.Test.YtmedodfenejimaaGreatLkNum
import Derived.Test.YtmedodfenejimaaGreatLkRkH
namespace Go.Proofs.YtmedodfenejimaaGreat
set_option maxRecDepth 100000
set_option linter.unusedVariables false
set_option linter.unusedSimpArgs false
open Go.RowKit Go.Sort Go.Shelf
theorem Uy {s:List Int} (h:s.Pairwise (· < ·)) (p:Int):(Hx p s).length=if p ∈ s then s.length else s.length+1:=by
 induction s with
 | nil=>simp [Hx]
 | cons a t ih=>
  have h1:=List.pairwise_cons.1 h
  have ih:=ih h1.2
  unfold Hx
  by_cases h2:a<p
  ·rw [if_pos h2,List.length_cons,ih]
   have e:p ∈ a::t↔p ∈ t:=by rw [List.mem_cons];exact ⟨λ h=>h.elim (λ e=>by omega) id,.inr⟩
   by_cases hm:p ∈ t
   ·rw [if_pos hm,if_pos (e.2 hm)];rfl
   ·rw [if_neg hm,if_neg (λ h=>hm (e.1 h))];rfl
  ·rw [if_neg h2]
   by_cases h3:a=p
   ·rw [if_pos h3,if_pos (by simp [h3])]
   ·rw [if_neg h3,if_neg]
    ·rfl
    ·intro hm
     rcases List.mem_cons.1 hm with e|e
     ·exact h3 e.symm
     ·have:=h1.1 p e;omega
def EA (l:List (List Dat)):Nat:=(Kq (iR l)).length
def dcT (l:List (List Dat)) (k:Nat):Nat:=(Kq ((iR l).take k)).length
theorem Q1 (l:List (List Dat)):EA l<=l.length:=by unfold EA;rw [← FP l];exact Nw _
theorem Uz {l:List (List Dat)} {k:Nat} (h:l.length<=k):dcT l k=EA l:=by unfold dcT EA;rw [List.take_of_length_le (by rw [FP];exact h)]
theorem Vx (l:List (List Dat)) (k:Nat):dcT l k<=k:=Nat.le_trans (Nw _) (by rw [List.length_take];omega)
def frT (l:List (List Dat)) (p:Int):Nat->Bool
 | 0=>true
 | k+1=>frT l p k && decide ((((l.getD k []).getD 0 (.int 0)).n)≠p)
theorem Q2 (l:List (List Dat)) (p:Int):∀ k,k<=l.length->(frT l p k=true↔p ∉ (iR l).take k)
 | 0,_=>by simp [frT]
 | k+1,h=>by
  have ih:=Q2 l p k (by omega)
  have e:(iR l).take (k+1)=(iR l).take k++[((l.getD k []).getD 0 (.int 0)).n]:=by
   rw [Fu (iR l) 0 k (by rw [FP];omega),VG (by omega)]
  unfold frT
  rw [e,Bool.and_eq_true,ih,decide_eq_true_iff]
  simp only [List.mem_append,List.mem_singleton,not_or]
  exact ⟨λ h=>⟨h.1,λ e=>h.2 e.symm⟩,λ h=>⟨h.1,λ e=>h.2 e.symm⟩⟩
theorem Q3 {l:List (List Dat)} {k:Nat} (h:k<l.length):dcT l (k+1)=if frT l (((l.getD k []).getD 0 (.int 0)).n) k=true then dcT l k+1 else dcT l k:=by
 have e:(iR l).take (k+1)=(iR l).take k++[((l.getD k []).getD 0 (.int 0)).n]:=by
  rw [Fu (iR l) 0 k (by rw [FP];omega),VG h]
 unfold dcT
 rw [e,Ro,Uy (Qc _)]
 have hf:=Q2 l (((l.getD k []).getD 0 (.int 0)).n) k (by omega)
 by_cases hm:((l.getD k []).getD 0 (.int 0)).n ∈ Kq ((iR l).take k)
 ·rw [if_pos hm,if_neg (λ h=>(hf.1 h) (Kr.1 hm))]
 ·rw [if_neg hm,if_pos (hf.2 λ h=>hm (Kr.2 h))]
theorem Vy {l:List (List Dat)} {k:Nat} (h:k<l.length) (hf:frT l (((l.getD k []).getD 0 (.int 0)).n) k=true):dcT l (k+1)=dcT l k+1:=by rw [Q3 h,if_pos hf]
theorem Wv {l:List (List Dat)} {k:Nat} (h:k<l.length) (hf:frT l (((l.getD k []).getD 0 (.int 0)).n) k=false):dcT l (k+1)=dcT l k:=by rw [Q3 h,if_neg (by rw [hf];simp)]
abbrev ptR (r:List Dat):List (List Dat):=(r.getD 10 (.int 0)).r
def bsT (ls:List (List Dat)):Nat->Nat
 | 0=>0
 | k+1=>bsT ls k+EA (ptR (ls.getD k []))
theorem OL (ls:List (List Dat)) {a b:Nat} (h:a<=b):bsT ls a<=bsT ls b:=by
 induction b with
 | zero=>rw [show a=0 by omega];exact Nat.le_refl _
 | succ b ih=>
  by_cases e:a=b+1
  ·rw [e];exact Nat.le_refl _
  ·exact Nat.le_trans (ih (by omega)) (Nat.le_add_right (bsT ls b) _)
theorem T8 {ls:List (List Dat)} (h:∀ k,k<ls.length->(ptR (ls.getD k [])).length<=AC (ls.getD k [])):∀ k,k<=ls.length->bsT ls k<=AA (ls.take k)
 | 0,_=>Nat.zero_le _
 | k+1,hk=>by
  have ih:=T8 h k (by omega)
  have h1:=h k (by omega)
  have h2:=Q1 (ptR (ls.getD k []))
  rw [B3 ls k (by omega)]
  unfold bsT
  omega
def hdZ (ls:List (List Dat)) (k:Int):Int:=if k<0 then -1 else match (List.range ls.length).find? (λ h=>decide (k<((bsT ls (h+1):Nat):Int))) with|some h=>(h:Int)|none=>-1
theorem UA {ls:List (List Dat)} {k:Int} {h:Nat} (hh:h<ls.length) (h1:((bsT ls h:Nat):Int)<=k) (h2:k<((bsT ls (h+1):Nat):Int)):hdZ ls k=(h:Int):=by
 have:(List.range ls.length).find? (λ h=>decide (k<((bsT ls (h+1):Nat):Int)))=some h:=by
  rw [List.find?_eq_some_iff_getElem]
  refine ⟨decide_eq_true h2,h,by simpa using hh,by simp,λ j hj=>?_⟩
  have:=OL ls (show j+1<=h by omega)
  simp only [List.getElem_range,Bool.not_eq_true',decide_eq_false_iff_not]
  omega
 unfold hdZ
 rw [if_neg (by omega),this]
theorem LF {ls:List (List Dat)} {k:Int} (h:k<0∨((bsT ls ls.length:Nat):Int)<=k):hdZ ls k=-1:=by
 unfold hdZ
 by_cases hk:k<0
 ·rw [if_pos hk]
 ·rw [if_neg hk]
  have h:((bsT ls ls.length:Nat):Int)<=k:=h.resolve_left hk
  have:(List.range ls.length).find? (λ h=>decide (k<((bsT ls (h+1):Nat):Int)))=none:=by
   rw [List.find?_eq_none]
   intro j hj
   have hj:j<ls.length:=by simpa using hj
   have:=OL ls (show j+1<=ls.length by omega)
   simp only [decide_eq_true_eq]
   omega
  rw [this]
theorem Ww {l:List (List Dat)} {k m:Nat} (h:m<k):(l.take k).getD m []=l.getD m []:=by simp [List.getD,List.getElem?_take,h]
theorem U0 (a b:Int):(a != b)=decide (a≠b):=by by_cases h:a=b <;> simp [h]
theorem VQ {us:List Value} (h:us.length=1):∃ u,us=[u]:=
 match us,h with
 | [_],_=>⟨_,rfl⟩
def DU:Con:={ ι:=(List Int),pre:=λ i=>i.length<=1048576,args:=λ i=>[.one (cS (rI i))],mu:=[0],new:=λ i=>[rI (Iy i)],res:=λ i=>⟨true,[],[]⟩ }
def BS:Con:={ ι:=(List Int),pre:=λ i=>i.length<=1048576,args:=λ i=>[.one (cS (rI i))],mu:=[0],gone:=[0],new:=λ i=>[],res:=λ i=>⟨false,[none],[.own 3 [.int] (rI (BC i))]⟩ }
theorem UB:DU.Ok Tryz.prog 197 where
 enter:=⟨_,Tryz.func197,by decide,rfl⟩
 small:=λ _=>Nat.le_of_ble_eq_true rfl
 calls:=by
  intro (l:List Int) (hp:l.length<=1048576) F w us mb h
  obtain ⟨u0,rfl⟩:=VQ h.len
  obtain ⟨_,_,_,_,e1,e2,f1,m1⟩:=h.own 0 0 rfl
  cases e1;cases e2
  have hv:CQ (DU.args l) [u0]=[u0]:=rfl
  rw [hv]
  rcases QY f1 with ⟨rfl,rfl,hbs⟩|⟨g,cap,cur,rfl,q1,q2,q3,q4,q5,hbs⟩
  ·refine Calls.mono (P:=Tryz.prog) (Any.slices_Sort_int_none Wl none 0 w) ?_
   rintro e w' ⟨rfl,rfl⟩
   refine ⟨[],[],rfl,⟨rfl,List.nodup_nil,λ b hb=>by simp at hb,λ j q e ts rows u hj hq hd hu=>?_,rfl,rfl,rfl,Nat.le_refl _,λ b _ _=>rfl⟩⟩
   obtain rfl:j=0:=by have:=(List.getElem?_eq_some_iff.1 hq).1;have hl:DU.mu.length=1:=rfl;omega
   cases hq
   cases hd
   cases hu
   have es:Iy []=[]:=List.eq_nil_of_length_eq_zero (Dp [])
   show Fp w' _ (.sl (rI (Iy []))) _ _
   rw [es]
   exact f1
  ·have hg:g<w.heap.size:=(Array.getElem?_eq_some_iff.1 q1).1
   refine Calls.mono (P:=Tryz.prog) (Any.slices_Sort_int Wl g 0 cap l w (L0 (cap:=cap) q1 q5) hg (by omega)) ?_
   rintro e w' ⟨rfl,n,os,rfl⟩
   obtain ⟨p1,p3,p4⟩:=Km w g n (Iy l).toArray os q1
   have hsz:(Iy l).toArray.size=l.length:=by rw [List.size_toArray,Dp]
   have hfp:=TW (l:=Iy l) p1 (by rw [Dp];exact q2) q3 (by rw [L2];exact q4) (by
    rw [L1 (by rw [hsz,q4];exact q2) (by rw [List.size_toArray];exact Nat.le_refl _)]
    simp)
   rw [Dp] at hfp
   refine ⟨[],[],rfl,⟨rfl,List.nodup_nil,λ b hb=>by simp at hb,λ j q e ts rows u hj hq hd hu=>?_,rfl,rfl,rfl,p4,λ b hb hm=>p3 b hb λ e=>hm 0 (by decide) (by rw [hbs];simp [e])⟩⟩
   obtain rfl:j=0:=by have:=(List.getElem?_eq_some_iff.1 hq).1;have hl:DU.mu.length=1:=rfl;omega
   cases hq
   cases hd
   cases hu
   rw [hbs]
   exact hfp
theorem UC:BS.Ok Tryz.prog 198 where
 enter:=⟨_,Tryz.func198,by decide,rfl⟩
 small:=λ _=>Nat.le_of_ble_eq_true rfl
 calls:=by
  intro (l:List Int) (hp:l.length<=1048576) F w us mb h
  obtain ⟨u0,rfl⟩:=VQ h.len
  obtain ⟨_,_,_,_,e1,e2,f1,m1⟩:=h.own 0 0 rfl
  cases e1;cases e2
  have hv:CQ (BS.args l) [u0]=[u0]:=rfl
  rw [hv]
  have hfresh:∀ b ∈ mb 0,w.heap.size<=b∨∃ j,j ∈ BS.gone/\j<BS.mu.length/\b ∈ mb j:=λ b hb=>.inr ⟨0,by decide,by decide,hb⟩
  have hgone:∀ (w' : World) j p e ts rows u,j ∉ BS.gone->BS.mu[j]?=some p->((BS.args l).flatMap DA.cells)[p]?=some (.sl e ts rows)->[u0][p]?=some u->Fp w' (.sl e ts) (.sl ((BS.new l).getD j [])) u (mb j):=λ w' j p e ts rows u hj hq=>by
   exfalso
   have:=(List.getElem?_eq_some_iff.1 hq).1
   have hl:BS.mu.length=1:=rfl
   obtain rfl:j=0:=by omega
   exact hj (by decide)
  rcases QY f1 with ⟨rfl,rfl,hbs⟩|⟨g,cap,cur,rfl,q1,q2,q3,q4,q5,hbs⟩
  ·refine Calls.mono (P:=Tryz.prog) (Any.slices_Compact_int_empty Wm none 0 w) ?_
   rintro e w' ⟨rfl,rfl⟩
   exact ⟨[.slice none 0 0],mb 0,rfl,⟨⟨mb 0,[],by simp,f1,rfl⟩,m1,hfresh,hgone _,rfl,rfl,rfl,Nat.le_refl _,λ b _ _=>rfl⟩⟩
  ·have hg:g<w.heap.size:=(Array.getElem?_eq_some_iff.1 q1).1
   have hcc:=Any.slices_Compact_int Wm g 0 cap l w (L0 (cap:=cap) q1 q5) (by omega) q2
   rw [TX] at hcc
   refine Calls.mono (P:=Tryz.prog) hcc ?_
   rintro e w' ⟨rfl,n,rfl⟩
   have hlen:=Ko l
   have hgr:putRow (Value.int .i64) (Sort.ahead w n) g 0 (BC l++List.replicate (l.length-(BC l).length) 0).toArray=grow (putRow (Value.int .i64) (Sort.ahead w n) g 0 (BC l++List.replicate (l.length-(BC l).length) 0).toArray) #[]:=(grow_empty _).symm
   rw [hgr]
   obtain ⟨p1,p3,p4⟩:=Km w g n (BC l++List.replicate (l.length-(BC l).length) 0).toArray #[] q1
   have hsz:(BC l++List.replicate (l.length-(BC l).length) (0:Int)).toArray.size=l.length:=by simp;omega
   have hfp:=TW (l:=BC l) p1 (by omega) q3 (by rw [L2];exact q4) (by
    rw [L1 (by rw [hsz,q4];exact q2) (by rw [hsz];exact hlen)]
    simp)
   exact ⟨[.slice (some ⟨g,0,none⟩) (BC l).length cap],mb 0,rfl,⟨⟨mb 0,[],by simp,by rw [hbs];exact hfp,rfl⟩,m1,hfresh,hgone _,rfl,rfl,rfl,p4,λ b hb hm=>p3 b hb λ e=>hm 0 (by decide) (by rw [hbs];simp [e])⟩⟩
def Ce:Con:={ ι:=(List Dat),pre:=λ i=>Dat.has (.sl 3 [.int]) (.sl (ptR i))/\(ptR i).length<=1048576,args:=λ i=>[w50 i],res:=λ i=>⟨false,[none],[rcI ((EA (ptR i):Nat):Int)]⟩ }
theorem MK:Ce.Ok Tryz.prog 133:=by
 refine fok (X:=⟨tt,[(196,Ah),(197,DU),(198,BS)],[],12,[]⟩) mixed AH (CTok.cons GG (CTok.cons UB (CTok.cons UC (CTok.nil _)))) Tryz.func133 (λ _=>[]) ?_
 intro (r:List Dat) hpre
 have hpre:Dat.has (.sl 3 [.int]) (.sl (ptR r))/\(ptR r).length<=1048576:=hpre
 refine AI (q:=∃ i1:(List (List Dat)),[DA.one (cS ((r.getD 10 (.int 0)).r))]=Ah.args i1/\Ah.pre i1/\(∃ i2:(List Int),[DA.one (cS i1)]=DU.args i2/\DU.pre i2/\(∃ i3:(List Int),[DA.one (cS (rI (Iy i2)))]=BS.args i3/\BS.pre i3/\((vI (nI ((rI (BC i3)).length))=vI (nI (EA (ptR r)))))))) (by kernel_rfl) ?_
 delta vI nI
 have hl:=hpre.2
 have e:=Wk hpre.1
 refine ⟨((r.getD 10 (.int 0)).r),by
  rfl,by
  show ((r.getD 10 (.int 0)).r).length<=1073741824
  first|trivial|exact Nat.le_trans hl (by decide)|(rw [FP];exact hl)|(rw [Dp,FP];exact hl)|omega,?_⟩
 refine ⟨iR (ptR r),by
  show [DA.one (DC.sl 3 [.int] (ptR r))]=[DA.one (DC.sl 3 [.int] (rI (iR (ptR r))))]
  rw [e],by
  show (iR (ptR r)).length<=1048576
  first|trivial|exact Nat.le_trans hl (by decide)|(rw [FP];exact hl)|(rw [Dp,FP];exact hl)|omega,?_⟩
 refine ⟨Iy (iR (ptR r)),by
  rfl,by
  show (Iy (iR (ptR r))).length<=1048576
  first|trivial|exact Nat.le_trans hl (by decide)|(rw [FP];exact hl)|(rw [Dp,FP];exact hl)|omega,?_⟩
 rw [PS,Qd];rfl
def Cf:Con:={ ι:=(List Dat),pre:=λ i=>Dat.has (.sl 3 [.int]) (.sl (ptR i))/\(ptR i).length<=1048576,args:=λ i=>[w50 i],res:=λ i=>⟨false,[none],[rcI ((EA (ptR i):Nat):Int)]⟩ }
theorem ML:Cf.Ok Tryz.prog 132:=by
 refine fok (X:=⟨tt,[],[],38,[]⟩) mixed AH (CTok.nil _) Tryz.func132 (λ (i:(List Dat))=>let Z1:=(i.getD 10 (.int 0)).r;[(3,.mk 7 (Nat) (λ x1=>{ tm:=[(1,tP 1 0),(10,tX 6),(11,tI (nI (Z1.length))),(3,tI (nI (dcT (ptR i) x1))),(12,tI (nI x1))],en:=[(1,.box [kI ((i.getD 0 (.int 0)).n),kB ((i.getD 1 (.int 0)).b),kI ((i.getD 2 (.int 0)).n),kI ((i.getD 3 (.int 0)).n),kI ((i.getD 4 (.int 0)).n),kI ((i.getD 5 (.int 0)).n),.ext 2,.ext 3,.ext 4,.ext 5,.ext 6]),(2,.view 40 [.sl 39 [.int,.int]] ((i.getD 6 (.int 0)).r) []),(3,.view 158 CS ((i.getD 7 (.int 0)).r) []),(4,.view 153 CR ((i.getD 8 (.int 0)).r) []),(5,.view 168 [.int,.int] ((i.getD 9 (.int 0)).r) []),(6,eV Z1)] }) (λ x1=>x1<=(ptR i).length) (λ x1=>(ptR i).length-x1) (λ x1=>[(7,.mk 8 (Nat) (λ x2=>{ tm:=[(1,tP 1 0),(10,tX 6),(11,tI (nI (Z1.length))),(12,tI (nI x1)),(3,tI (nI (dcT (ptR i) x1))),(5,tI ((((Z1.getD x1 []).getD 0 (.int 0))).n)),(20,tX 7),(21,tI (nI ((Z1.take x1).length))),(6,tB (frT (ptR i) ((((ptR i).getD x1 []).getD 0 (.int 0)).n) x2)),(22,tI (nI x2))],en:=[(1,.box [kI ((i.getD 0 (.int 0)).n),kB ((i.getD 1 (.int 0)).b),kI ((i.getD 2 (.int 0)).n),kI ((i.getD 3 (.int 0)).n),kI ((i.getD 4 (.int 0)).n),kI ((i.getD 5 (.int 0)).n),.ext 2,.ext 3,.ext 4,.ext 5,.ext 6]),(2,.view 40 [.sl 39 [.int,.int]] ((i.getD 6 (.int 0)).r) []),(3,.view 158 CS ((i.getD 7 (.int 0)).r) []),(4,.view 153 CR ((i.getD 8 (.int 0)).r) []),(5,.view 168 [.int,.int] ((i.getD 9 (.int 0)).r) []),(6,eV Z1),(7,eV (Z1.take x1))] }) (λ x2=>x2<=x1) (λ x2=>x1-x2) (λ _=>[]))]))]) ?_
 intro (r:List Dat) hpre
 have hpre:Dat.has (.sl 3 [.int]) (.sl (ptR r))/\(ptR r).length<=1048576:=hpre
 refine AI (q:=let Z12:=(r.getD 9 (.int 0)).r;let Z11:=(r.getD 8 (.int 0)).r;let Z10:=(r.getD 7 (.int 0)).r;let Z9:=(r.getD 6 (.int 0)).r;let Z8:=vI ((r.getD 5 (.int 0)).n);let Z7:=vI ((r.getD 4 (.int 0)).n);let Z6:=vI ((r.getD 3 (.int 0)).n);let Z5:=vI ((r.getD 2 (.int 0)).n);let Z4:=vB ((r.getD 1 (.int 0)).b);let Z3:=vI ((r.getD 0 (.int 0)).n);let Z1:=(r.getD 10 (.int 0)).r;let Z15:=vI (nI (Z1.length));(∃ x1:Nat,(x1<=(ptR r).length)/\((rf Z15)/\(vI (0:Int)=vI (nI (dcT (ptR r) x1)))/\(vI (0:Int)=vI (nI x1))/\(rf Z3)/\(rf Z4)/\(rf Z5)/\(rf Z6)/\(rf Z7)/\(rf Z8)/\(rf Z9)/\(rf Z10)/\(rf Z11)/\(rf Z12)/\(rf Z1)))/\∀ x1:Nat,let Z19:=wR ((nI x1)+(1:Int));let Z16:=Z1.take x1;let Z17:=nI (Z16.length);let Z14:=nI (dcT (ptR r) x1);let Z13:=((Z1.getD x1 []).getD 0 (.int 0));let Z2:=(((ptR r).getD x1 []).getD 0 (.int 0)).n;(x1<=(ptR r).length)->(ifB ((decide ((nI x1)<(nI (Z1.length))))) ((0<=(nI x1)/\(nI x1)<(Z1.length:Int))/\((x1<Z1.length)/\((Nat.beq 1 1=true)/\((0<=(0:Int))/\(((0:Int)<=(nI x1))/\(((nI x1)<=(Z1.length:Int))/\((∃ x2:Nat,(x2<=x1)/\((rf Z15)/\(rf (vI (nI x1)))/\(rf (vI Z14))/\(rf (vI Z13.n))/\(rf (vI Z17))/\(vB true=vB (frT (ptR r) Z2 x2))/\(vI (0:Int)=vI (nI x2))/\(rf Z3)/\(rf Z4)/\(rf Z5)/\(rf Z6)/\(rf Z7)/\(rf Z8)/\(rf Z9)/\(rf Z10)/\(rf Z11)/\(rf Z12)/\(rf Z1)/\(rf Z16)))/\∀ x2:Nat,let Z18:=wR ((nI x2)+(1:Int));(x2<=x1)->(ifB ((decide ((nI x2)<Z17))) ((0<=(nI x2)/\(nI x2)<(Z16.length:Int))/\((x2<Z16.length)/\(ifB ((frT (ptR r) Z2 x2)) (∃ y3:Nat,(y3<=x1)/\(x1-y3<x1-x2)/\((rf Z15)/\(rf (vI (nI x1)))/\(rf (vI Z14))/\(rf (vI Z13.n))/\(rf (vI Z17))/\(vB ((((Z16.getD x2 []).getD 0 (.int 0))).n != Z13.n)=vB (frT (ptR r) Z2 y3))/\(vI Z18=vI (nI y3))/\(rf Z3)/\(rf Z4)/\(rf Z5)/\(rf Z6)/\(rf Z7)/\(rf Z8)/\(rf Z9)/\(rf Z10)/\(rf Z11)/\(rf Z12)/\(rf Z1)/\(rf Z16))) (∃ y4:Nat,(y4<=x1)/\(x1-y4<x1-x2)/\((rf Z15)/\(rf (vI (nI x1)))/\(rf (vI Z14))/\(rf (vI Z13.n))/\(rf (vI Z17))/\(vB false=vB (frT (ptR r) Z2 y4))/\(vI Z18=vI (nI y4))/\(rf Z3)/\(rf Z4)/\(rf Z5)/\(rf Z6)/\(rf Z7)/\(rf Z8)/\(rf Z9)/\(rf Z10)/\(rf Z11)/\(rf Z12)/\(rf Z1)/\(rf Z16)))))) (ifB ((frT (ptR r) Z2 x2)) (∃ y5:Nat,(y5<=(ptR r).length)/\((ptR r).length-y5<(ptR r).length-x1)/\((rf Z15)/\(vI (wR (Z14+(1:Int)))=vI (nI (dcT (ptR r) y5)))/\(vI Z19=vI (nI y5))/\(rf Z3)/\(rf Z4)/\(rf Z5)/\(rf Z6)/\(rf Z7)/\(rf Z8)/\(rf Z9)/\(rf Z10)/\(rf Z11)/\(rf Z12)/\(rf Z1))) (∃ y6:Nat,(y6<=(ptR r).length)/\((ptR r).length-y6<(ptR r).length-x1)/\((rf Z15)/\(vI Z14=vI (nI (dcT (ptR r) y6)))/\(vI Z19=vI (nI y6))/\(rf Z3)/\(rf Z4)/\(rf Z5)/\(rf Z6)/\(rf Z7)/\(rf Z8)/\(rf Z9)/\(rf Z10)/\(rf Z11)/\(rf Z12)/\(rf Z1)))))))))))) ((vI Z14=vI (nI (EA (ptR r))))))) (by kernel_rfl) ?_
 conv=>zeta
 delta ifB vB vI wR nI
 have hl:=hpre.2
 refine ⟨⟨0,by
  first|trivial|omega|(simp;omega),?_⟩,?_⟩
 ·refine ⟨rfl,?_,?_,rfl,rfl,rfl,rfl,rfl,rfl,rfl,rfl,rfl,rfl,rfl⟩
  ·first|rfl|(simp;done)
  first|rfl|(simp;done)
 intro (k:Nat) hki1
 have hki1:k<=(ptR r).length:=hki1
 refine And.symm ⟨λ c17=>?_,λ c17=>?_⟩
 ·try simp only [nrm] at c17
  rw [Uz (show (ptR r).length<=k from by show ((r.getD 10 (.int 0)).r).length<=k;omega)]
 try simp only [nrm] at c17
 have htl:(((r.getD 10 (.int 0)).r).take k).length=k:=by rw [List.length_take];exact Nat.min_eq_left hki1
 have hk:k<(ptR r).length:=by show k<((r.getD 10 (.int 0)).r).length;omega
 refine ao (by first|rfl|omega|(simp;omega)) λ o18=>?_
 refine ao (by first|rfl|omega|(simp;omega)) λ o19=>?_
 refine ao (by first|rfl|omega|(simp;omega)) λ o20=>?_
 refine ao (by first|rfl|omega|(simp;omega)) λ o21=>?_
 refine ao (by first|rfl|omega|(simp;omega)) λ o22=>?_
 refine ao (by first|rfl|omega|(simp;omega)) λ o23=>?_
 refine ⟨⟨0,by
  first|trivial|omega|(simp;omega),?_⟩,?_⟩
 ·refine ⟨rfl,rfl,rfl,rfl,rfl,?_,?_,rfl,rfl,rfl,rfl,rfl,rfl,rfl,rfl,rfl,rfl,rfl,rfl⟩
  ·first|rfl|(simp;done)
  first|rfl|(simp;done)
 intro (m:Nat) hki24
 have hki24:m<=k:=hki24
 refine ⟨λ c45=>?_,λ c45=>?_⟩
 ·try simp only [nrm] at c45
  refine ao (by first|rfl|omega|(simp;omega)) λ o46=>?_
  refine ao (by first|rfl|omega|(simp;omega)) λ o47=>?_
  refine ⟨λ c48=>?_,λ c48=>?_⟩
  ·try simp only [nrm] at c48
   refine ⟨m+1,by
    first|trivial|omega|(simp;omega),by
    first|omega|(simp;omega),?_⟩
   refine ⟨rfl,rfl,rfl,rfl,rfl,?_,?_,rfl,rfl,rfl,rfl,rfl,rfl,rfl,rfl,rfl,rfl,rfl,rfl⟩
   ·exact congrArg Value.bool (by show _=(frT _ _ m && decide _);rw [c48,Bool.true_and,Ww (by omega),U0])
   first|rfl|exact AF (AD (by omega) (by omega))
  try simp only [nrm] at c48
  refine ⟨m+1,by
   first|trivial|omega|(simp;omega),by
   first|omega|(simp;omega),?_⟩
  refine ⟨rfl,rfl,rfl,rfl,rfl,?_,?_,rfl,rfl,rfl,rfl,rfl,rfl,rfl,rfl,rfl,rfl,rfl,rfl⟩
  ·exact congrArg Value.bool (by show _=(frT _ _ m && decide _);rw [c48];rfl)
  first|rfl|exact AF (AD (by omega) (by omega))
 try simp only [nrm] at c45
 have hmk:m=k:=by omega
 refine And.symm ⟨λ c93=>?_,λ c93=>?_⟩
 ·try simp only [nrm] at c93
  rw [hmk] at c93
  have hd:=Wv hk c93
  refine ⟨k+1,by
   first|trivial|omega|(simp;omega),by
   first|omega|(simp;omega),?_⟩
  refine ⟨rfl,?_,?_,rfl,rfl,rfl,rfl,rfl,rfl,rfl,rfl,rfl,rfl,rfl⟩
  ·rw [hd]
  first|rfl|exact AF (AD (by omega) (by omega))
 try simp only [nrm] at c93
 rw [hmk] at c93
 have hd:=Vy hk c93
 have hdl:=Vx (ptR r) k
 refine ⟨k+1,by
  first|trivial|omega|(simp;omega),by
  first|omega|(simp;omega),?_⟩
 refine ⟨rfl,?_,?_,rfl,rfl,rfl,rfl,rfl,rfl,rfl,rfl,rfl,rfl,rfl⟩
 ·rw [hd];exact AF (AD (by omega) (by omega))
 first|rfl|exact AF (AD (by omega) (by omega))
def Bk (ls:List (List Dat)):Prop:=(∀ k,k<ls.length->Dat.has (.sl 3 [.int]) (.sl (ptR (ls.getD k [])))/\(ptR (ls.getD k [])).length<=AC (ls.getD k []))/\ls.length+AA ls<=1048576
theorem LG {ls:List (List Dat)} (h:Bk ls) {k:Nat} (hk:k<=ls.length):bsT ls k<=1048576:=by
 have h1:=T8 (λ j hj=>(h.1 j hj).2) k hk
 have h2:=Aq ls k
 have:=h.2
 omega
theorem LH {ls:List (List Dat)} (h:Bk ls) {k:Nat} (hk:k<ls.length):Dat.has (.sl 3 [.int]) (.sl (ptR (ls.getD k [])))/\(ptR (ls.getD k [])).length<=1048576:=by
 have h1:=h.1 k hk
 have h2:=Ch hk
 have:=h.2
 exact ⟨h1.1,by omega⟩
theorem Mw {ls:List (List Dat)} (h:Bk ls) {k:Nat} (hk:k<ls.length):bsT ls (k+1)=bsT ls k+EA (ptR (ls.getD k []))/\EA (ptR (ls.getD k []))<=1048576:=⟨rfl,Nat.le_trans (Q1 _) (LH h hk).2⟩
theorem Vz (ls:List (List Dat)) (h k:Nat):bsT ls (min (k+1) h)=if k<h then bsT ls (min k h)+EA (ptR (ls.getD k [])) else bsT ls (min k h):=by
 by_cases hk:k<h
 ·rw [if_pos hk,Nat.min_eq_left (by omega),Nat.min_eq_left (by omega)];rfl
 ·rw [if_neg hk,Nat.min_eq_right (by omega),Nat.min_eq_right (by omega)]
def CN:Con:={ ι:=(List Dat)×Int,pre:=λ i=>Bk ((i.1.getD 7 (.int 0)).r)/\i.2<=9223372036854775807,args:=λ i=>[w67 i.1,.one (cI i.2)],res:=λ i=>⟨false,[none],[rcI (hdZ ((i.1.getD 7 (.int 0)).r) i.2)]⟩ }
theorem OM:CN.Ok Tryz.prog 84:=by
 refine fok (X:=⟨tt,[(133,Ce)],[],25,[]⟩) mixed AH (CTok.cons MK (CTok.nil _)) Tryz.func84 (λ (i:(List Dat)×Int)=>let Z1:=(i.1.getD 7 (.int 0)).r;[(4,.mk 8 (Nat) (λ x1=>{ tm:=[(2,tP 1 0),(10,tX 5),(11,tI (nI (Z1.length))),(1,tI (i.2-(nI (bsT Z1 x1)))),(12,tI (nI x1))],en:=[(1,.box [kI ((i.1.getD 0 (.int 0)).n),kI ((i.1.getD 1 (.int 0)).n),kI ((i.1.getD 2 (.int 0)).n),kI ((i.1.getD 3 (.int 0)).n),.ext 2,.ext 3,.ext 4,.ext 5,.ext 6,.ext 7]),(2,.view 39 [.int,.int] ((i.1.getD 4 (.int 0)).r) []),(3,.view 40 [.sl 39 [.int,.int]] ((i.1.getD 5 (.int 0)).r) []),(4,.view 39 [.int,.int] ((i.1.getD 6 (.int 0)).r) []),(5,.view 51 z50 Z1 []),(6,eV ((i.1.getD 8 (.int 0)).r)),(7,.view 33 [.sl 3 [.int]] ((i.1.getD 9 (.int 0)).r) [])] }) (λ x1=>x1<=Z1.length/\(nI (bsT Z1 x1))<=i.2) (λ x1=>Z1.length-x1) (λ _=>[]))]) ?_
 rintro ⟨r,n⟩ hpre
 have hpre:Bk ((r.getD 7 (.int 0)).r)/\n<=9223372036854775807:=hpre
 refine AI (q:=let Z9:=vI ((r.getD 3 (.int 0)).n);let Z8:=vI ((r.getD 2 (.int 0)).n);let Z7:=vI ((r.getD 1 (.int 0)).n);let Z6:=vI ((r.getD 0 (.int 0)).n);let Z1:=(r.getD 7 (.int 0)).r;let Z5:=nI (Z1.length);let Z4:=(vI (-1:Int)=vI (hdZ Z1 n));ifB ((decide (n<(0:Int)))) Z4 ((∃ x1:Nat,(x1<=Z1.length/\(nI (bsT Z1 x1))<=n)/\((rf (vI Z5))/\(vI n=vI (n-(nI (bsT Z1 x1))))/\(vI (0:Int)=vI (nI x1))/\(rf Z6)/\(rf Z7)/\(rf Z8)/\(rf Z9)/\(rf ((r.getD 4 (.int 0)).r))/\(rf ((r.getD 5 (.int 0)).r))/\(rf ((r.getD 6 (.int 0)).r))/\(rf Z1)/\(rf ((r.getD 8 (.int 0)).r))/\(rf ((r.getD 9 (.int 0)).r))))/\∀ x1:Nat,let Z2:=Z1.getD x1 [];(x1<=Z1.length/\(nI (bsT Z1 x1))<=n)->(ifB ((decide ((nI x1)<Z5))) ((0<=(nI x1)/\(nI x1)<(Z1.length:Int))/\((x1<Z1.length)/\(∃ i1:(List Dat),let Z3:=wR ((n-(nI (bsT Z1 x1)))-(nI (EA (ptR i1))));[DA.agg [cI (((Z2.getD 0 (.int 0))).n),cB (((Z2.getD 1 (.int 0))).b),cI (((Z2.getD 2 (.int 0))).n),cI (((Z2.getD 3 (.int 0))).n),cI (((Z2.getD 4 (.int 0))).n),cI (((Z2.getD 5 (.int 0))).n),DC.sl 40 [.sl 39 [.int,.int]] (((Z2.getD 6 (.int 0))).r),DC.sl 158 CS (((Z2.getD 7 (.int 0))).r),DC.sl 153 CR (((Z2.getD 8 (.int 0))).r),DC.sl 168 [.int,.int] (((Z2.getD 9 (.int 0))).r),cS (((Z2.getD 10 (.int 0))).r)]]=Ce.args i1/\Ce.pre i1/\(ifB ((decide (Z3<(0:Int)))) ((vI (nI x1)=vI (hdZ Z1 n))) (∃ y2:Nat,(y2<=Z1.length/\(nI (bsT Z1 y2))<=n)/\(Z1.length-y2<Z1.length-x1)/\((rf (vI Z5))/\(vI Z3=vI (n-(nI (bsT Z1 y2))))/\(vI (wR ((nI x1)+(1:Int)))=vI (nI y2))/\(rf Z6)/\(rf Z7)/\(rf Z8)/\(rf Z9)/\(rf ((r.getD 4 (.int 0)).r))/\(rf ((r.getD 5 (.int 0)).r))/\(rf ((r.getD 6 (.int 0)).r))/\(rf Z1)/\(rf ((r.getD 8 (.int 0)).r))/\(rf ((r.getD 9 (.int 0)).r)))))))) Z4))) (by kernel_rfl) ?_
 conv=>zeta
 delta ifB vI wR nI
 have hx:Bk ((r.getD 7 (.int 0)).r):=hpre.1
 have hn:=hpre.2
 have hsz:((r.getD 7 (.int 0)).r).length+AA ((r.getD 7 (.int 0)).r)<=1048576:=hpre.1.2
 refine ⟨λ c1=>?_,λ c1=>?_⟩
 ·try simp only [nrm] at c1
  rw [LF (.inl c1)]
 try simp only [nrm] at c1
 refine ⟨⟨0,by
  first|exact ⟨Nat.zero_le _,by show ((0:Nat):Int)<=n;omega⟩|exact ⟨by omega,by omega⟩,?_⟩,?_⟩
 ·refine ⟨rfl,?_,?_,rfl,rfl,rfl,rfl,rfl,rfl,rfl,rfl,rfl,rfl⟩
  ·first|rfl|exact AF (by show n=n-((0:Nat):Int);omega)
  first|rfl|exact AF (by show n=n-((0:Nat):Int);omega)
 intro (k:Nat) hki3
 have hki3:k<=((r.getD 7 (.int 0)).r).length/\((bsT ((r.getD 7 (.int 0)).r) k:Nat):Int)<=n:=hki3
 refine And.symm ⟨λ c18=>?_,λ c18=>?_⟩
 ·try simp only [nrm] at c18
  rw [LF (.inr (by rw [show ((r.getD 7 (.int 0)).r).length=k by omega];exact hki3.2))]
 try simp only [nrm] at c18
 have hk:k<((r.getD 7 (.int 0)).r).length:=by omega
 have hd:=Mw hx hk
 have hb:=LG hx (show k+1<=((r.getD 7 (.int 0)).r).length by omega)
 have hpt:=LH hx hk
 have hw:IntKind.i64.wrap ((n-((bsT ((r.getD 7 (.int 0)).r) k:Nat):Int))-((EA (ptR (((r.getD 7 (.int 0)).r).getD k [])):Nat):Int))=n-((bsT ((r.getD 7 (.int 0)).r) k:Nat):Int)-((EA (ptR (((r.getD 7 (.int 0)).r).getD k [])):Nat):Int):=AD (by omega) (by omega)
 refine ao (by first|rfl|omega|(simp;done)|(simp;omega)) λ o19=>?_
 refine ao (by first|rfl|omega|(simp;done)|(simp;omega)) λ o20=>?_
 refine ⟨(((r.getD 7 (.int 0)).r).getD k []),by
  rfl,by
  show Dat.has (.sl 3 [.int]) (.sl (ptR (((r.getD 7 (.int 0)).r).getD k [])))/\(ptR (((r.getD 7 (.int 0)).r).getD k [])).length<=1048576
  first|trivial|exact hpt,?_⟩
 refine ⟨λ c24=>?_,λ c24=>?_⟩
 ·try simp only [nrm] at c24
  have c24:n-((bsT ((r.getD 7 (.int 0)).r) k:Nat):Int)-((EA (ptR (((r.getD 7 (.int 0)).r).getD k [])):Nat):Int)<0:=hw ▸ c24
  rw [UA (h:=k) hk hki3.2 (by omega)]
 try simp only [nrm] at c24
 have c24:0<=n-((bsT ((r.getD 7 (.int 0)).r) k:Nat):Int)-((EA (ptR (((r.getD 7 (.int 0)).r).getD k [])):Nat):Int):=hw ▸ c24
 refine ⟨k+1,by
  first|exact ⟨Nat.zero_le _,by show ((0:Nat):Int)<=n;omega⟩|exact ⟨by omega,by omega⟩,by
  first|omega|(simp;omega),?_⟩
 refine ⟨rfl,?_,?_,rfl,rfl,rfl,rfl,rfl,rfl,rfl,rfl,rfl,rfl⟩
 ·exact AF (hw.trans (by omega))
 first|rfl|exact AF (AD (by omega) (by omega))
def Bw:Con:={ ι:=(List (List Dat))×Nat,pre:=λ i=>Bk i.1/\i.2<=1048576,args:=λ i=>[.one (DC.sl 51 z50 i.1),.one (cI ((i.2:Nat):Int))],res:=λ i=>⟨false,[none],[rcI ((bsT i.1 (min i.1.length i.2):Nat):Int)]⟩ }
theorem ON:Bw.Ok Tryz.prog 131:=by
 refine fok (X:=⟨tt,[(132,Cf)],[],24,[]⟩) mixed AH (CTok.cons ML (CTok.nil _)) Tryz.func131 (λ (i:(List (List Dat))×Nat)=>[(3,.mk 2 (Nat) (λ x1=>{ tm:=[(1,tI (nI i.2)),(8,tX 1),(9,tI (nI i.1.length)),(5,tI (nI (bsT i.1 (min x1 i.2)))),(10,tI (nI x1))],en:=[(1,.view 51 z50 i.1 [])] }) (λ x1=>x1<=i.1.length) (λ x1=>i.1.length-x1) (λ _=>[]))]) ?_
 rintro ⟨l,h⟩ hpre
 have hpre:Bk l/\h<=1048576:=hpre
 refine AI (q:=let Z3:=vI (nI l.length);(∃ x1:Nat,(x1<=l.length)/\((rf (vI (nI h)))/\(rf Z3)/\(vI (0:Int)=vI (nI (bsT l (min x1 h))))/\(vI (0:Int)=vI (nI x1))/\(rf (l))))/\∀ x1:Nat,let Z4:=wR ((nI x1)+(1:Int));let Z2:=nI (bsT l (min x1 h));let Z1:=l.getD x1 [];(x1<=l.length)->(ifB ((decide ((nI x1)<(nI l.length)))) ((0<=(nI x1)/\(nI x1)<(l.length:Int))/\((x1<l.length)/\(ifB ((decide ((nI x1)<(nI h)))) (∃ i1:(List Dat),[DA.agg [cI (((Z1.getD 0 (.int 0))).n),cB (((Z1.getD 1 (.int 0))).b),cI (((Z1.getD 2 (.int 0))).n),cI (((Z1.getD 3 (.int 0))).n),cI (((Z1.getD 4 (.int 0))).n),cI (((Z1.getD 5 (.int 0))).n),DC.sl 40 [.sl 39 [.int,.int]] (((Z1.getD 6 (.int 0))).r),DC.sl 158 CS (((Z1.getD 7 (.int 0))).r),DC.sl 153 CR (((Z1.getD 8 (.int 0))).r),DC.sl 168 [.int,.int] (((Z1.getD 9 (.int 0))).r),cS (((Z1.getD 10 (.int 0))).r)]]=Cf.args i1/\Cf.pre i1/\(∃ y2:Nat,(y2<=l.length)/\(l.length-y2<l.length-x1)/\((rf (vI (nI h)))/\(rf Z3)/\(vI (wR (Z2+(nI (EA (ptR i1)))))=vI (nI (bsT l (min y2 h))))/\(vI Z4=vI (nI y2))/\(rf (l))))) (∃ y3:Nat,(y3<=l.length)/\(l.length-y3<l.length-x1)/\((rf (vI (nI h)))/\(rf Z3)/\(vI Z2=vI (nI (bsT l (min y3 h))))/\(vI Z4=vI (nI y3))/\(rf (l))))))) ((vI Z2=vI (nI (bsT l (min l.length h))))))) (by kernel_rfl) ?_
 conv=>zeta
 delta ifB vI wR nI
 have hz:=hpre.1.2
 refine ⟨⟨0,by
  first|trivial|omega|(simp;omega),?_⟩,?_⟩
 ·refine ⟨rfl,rfl,?_,?_,rfl⟩
  ·first|rfl|(rw [Nat.zero_min];rfl)
  first|rfl|(rw [Nat.zero_min];rfl)
 intro (k:Nat) hki1
 have hki1:k<=l.length:=hki1
 refine And.symm ⟨λ c8=>?_,λ c8=>?_⟩
 ·try simp only [nrm] at c8
  rw [show k=l.length by omega]
 try simp only [nrm] at c8
 have hd:=Mw hpre.1 (show k<l.length by omega)
 have hb:=LG hpre.1 (show k+1<=l.length by omega)
 have hm:=Vz l h k
 refine ao (by first|rfl|omega|(simp;done)|(simp;omega)) λ o9=>?_
 refine ao (by first|rfl|omega|(simp;done)|(simp;omega)) λ o10=>?_
 refine And.symm ⟨λ c11=>?_,λ c11=>?_⟩
 ·try simp only [nrm] at c11
  rw [if_neg (by omega)] at hm
  refine ⟨k+1,by
   first|trivial|omega|(simp;omega),by
   first|omega|(simp;omega),?_⟩
  refine ⟨rfl,rfl,?_,?_,rfl⟩
  ·rw [hm]
  first|rfl|exact AF (AD (by omega) (by omega))
 try simp only [nrm] at c11
 rw [if_pos (by omega)] at hm
 have he:min k h=k:=Nat.min_eq_left (by omega)
 refine ⟨(l.getD k []),by
  rfl,by
  show Dat.has (.sl 3 [.int]) (.sl (ptR (l.getD k [])))/\(ptR (l.getD k [])).length<=1048576
  first|trivial|exact LH hpre.1 (by omega),?_⟩
 refine ⟨k+1,by
  first|trivial|omega|(simp;omega),by
  first|omega|(simp;omega),?_⟩
 refine ⟨rfl,rfl,?_,?_,rfl⟩
 ·rw [hm];exact AF (AD (by omega) (by rw [he];omega))
 first|rfl|exact AF (AD (by omega) (by omega))
def CO:Con:={ ι:=(List Dat)×Int,pre:=λ i=>Bk ((i.1.getD 7 (.int 0)).r)/\i.2<=9223372036854775807,args:=λ i=>[w67 i.1,.one (cI i.2)],res:=λ i=>⟨false,[none],[rcI (hdZ ((i.1.getD 7 (.int 0)).r) i.2)]⟩ }
theorem OO:CO.Ok Tryz.prog 79:=by
 refine fok (X:=⟨tt,[(131,Bw),(132,Cf),(80,Ax)],[],30,[]⟩) mixed AH (CTok.cons ON (CTok.cons ML (CTok.cons G5 (CTok.nil _)))) Tryz.func79 (λ (i:(List Dat)×Int)=>let Z1:=(i.1.getD 7 (.int 0)).r;[(2,.mk 8 (Nat) (λ x1=>{ tm:=[(1,tI i.2),(2,tP 1 0),(9,tX 5),(10,tI (nI (Z1.length))),(11,tI (nI x1))],en:=[(1,.box [kI ((i.1.getD 0 (.int 0)).n),kI ((i.1.getD 1 (.int 0)).n),kI ((i.1.getD 2 (.int 0)).n),kI ((i.1.getD 3 (.int 0)).n),.ext 2,.ext 3,.ext 4,.ext 5,.ext 6,.ext 7]),(2,.view 39 [.int,.int] ((i.1.getD 4 (.int 0)).r) []),(3,.view 40 [.sl 39 [.int,.int]] ((i.1.getD 5 (.int 0)).r) []),(4,.view 39 [.int,.int] ((i.1.getD 6 (.int 0)).r) []),(5,.view 51 z50 Z1 []),(6,eV ((i.1.getD 8 (.int 0)).r)),(7,.view 33 [.sl 3 [.int]] ((i.1.getD 9 (.int 0)).r) [])] }) (λ x1=>x1<=Z1.length/\(0<=i.2->(nI (bsT Z1 x1))<=i.2)) (λ x1=>Z1.length-x1) (λ _=>[]))]) ?_
 rintro ⟨r,n⟩ hpre
 have hpre:Bk ((r.getD 7 (.int 0)).r)/\n<=9223372036854775807:=hpre
 refine AI (q:=let Z8:=vI ((r.getD 3 (.int 0)).n);let Z7:=vI ((r.getD 2 (.int 0)).n);let Z6:=vI ((r.getD 1 (.int 0)).n);let Z5:=vI ((r.getD 0 (.int 0)).n);let Z1:=(r.getD 7 (.int 0)).r;let Z4:=nI (Z1.length);(∃ x1:Nat,(x1<=Z1.length/\(0<=n->(nI (bsT Z1 x1))<=n))/\((rf (vI n))/\(rf (vI Z4))/\(vI (0:Int)=vI (nI x1))/\(rf Z5)/\(rf Z6)/\(rf Z7)/\(rf Z8)/\(rf ((r.getD 4 (.int 0)).r))/\(rf ((r.getD 5 (.int 0)).r))/\(rf ((r.getD 6 (.int 0)).r))/\(rf Z1)/\(rf ((r.getD 8 (.int 0)).r))/\(rf ((r.getD 9 (.int 0)).r))))/\∀ x1:Nat,let Z2:=Z1.getD x1 [];(x1<=Z1.length/\(0<=n->(nI (bsT Z1 x1))<=n))->(ifB ((decide ((nI x1)<Z4))) ((0<=(nI x1)/\(nI x1)<(Z1.length:Int))/\((x1<Z1.length)/\(∃ i1:(List (List Dat))×Nat,let Z3:=nI (bsT i1.1 (min i1.1.length i1.2));[DA.one (DC.sl 51 z50 Z1),DA.one (cI (nI x1))]=Bw.args i1/\Bw.pre i1/\(∃ i2:(List Dat),[DA.agg [cI (((Z2.getD 0 (.int 0))).n),cB (((Z2.getD 1 (.int 0))).b),cI (((Z2.getD 2 (.int 0))).n),cI (((Z2.getD 3 (.int 0))).n),cI (((Z2.getD 4 (.int 0))).n),cI (((Z2.getD 5 (.int 0))).n),DC.sl 40 [.sl 39 [.int,.int]] (((Z2.getD 6 (.int 0))).r),DC.sl 158 CS (((Z2.getD 7 (.int 0))).r),DC.sl 153 CR (((Z2.getD 8 (.int 0))).r),DC.sl 168 [.int,.int] (((Z2.getD 9 (.int 0))).r),cS (((Z2.getD 10 (.int 0))).r)]]=Cf.args i2/\Cf.pre i2/\(∃ i3:Int×Int×Int,[DA.one (cI n),DA.one (cI Z3),DA.one (cI (wR ((wR (Z3+(nI (EA (ptR i2)))))-(1:Int))))]=Ax.args i3/\Ax.pre i3/\(ifB ((decide (i3.1≥i3.2.1) && decide (i3.1<=i3.2.2))) ((vI (nI x1)=vI (hdZ Z1 n))) (∃ y2:Nat,(y2<=Z1.length/\(0<=n->(nI (bsT Z1 y2))<=n))/\(Z1.length-y2<Z1.length-x1)/\((rf (vI n))/\(rf (vI Z4))/\(vI (wR ((nI x1)+(1:Int)))=vI (nI y2))/\(rf Z5)/\(rf Z6)/\(rf Z7)/\(rf Z8)/\(rf ((r.getD 4 (.int 0)).r))/\(rf ((r.getD 5 (.int 0)).r))/\(rf ((r.getD 6 (.int 0)).r))/\(rf Z1)/\(rf ((r.getD 8 (.int 0)).r))/\(rf ((r.getD 9 (.int 0)).r)))))))))) ((vI (-1:Int)=vI (hdZ Z1 n))))) (by kernel_rfl) ?_
 conv=>zeta
 delta ifB vI wR nI
 have hx:Bk ((r.getD 7 (.int 0)).r):=hpre.1
 have hn:=hpre.2
 have hsz:((r.getD 7 (.int 0)).r).length+AA ((r.getD 7 (.int 0)).r)<=1048576:=hpre.1.2
 refine ⟨⟨0,by
  first|exact ⟨Nat.zero_le _,λ h=>h⟩|exact ⟨by omega,λ h=>by have:=hki1.2 h;omega⟩,?_⟩,?_⟩
 ·refine ⟨rfl,rfl,?_,rfl,rfl,rfl,rfl,rfl,rfl,rfl,rfl,rfl,rfl⟩
  first|rfl|(simp;done)
 intro (k:Nat) hki1
 have hki1:k<=((r.getD 7 (.int 0)).r).length/\(0<=n->((bsT ((r.getD 7 (.int 0)).r) k:Nat):Int)<=n):=hki1
 refine And.symm ⟨λ c16=>?_,λ c16=>?_⟩
 ·try simp only [nrm] at c16
  have e:((r.getD 7 (.int 0)).r).length=k:=by omega
  have hh:n<0∨((bsT ((r.getD 7 (.int 0)).r) ((r.getD 7 (.int 0)).r).length:Nat):Int)<=n:=by
   rw [e]
   by_cases h0:n<0
   ·exact .inl h0
   ·exact .inr (hki1.2 (by omega))
  rw [LF hh]
 try simp only [nrm] at c16
 have hk:k<((r.getD 7 (.int 0)).r).length:=by omega
 have hd:=Mw hx hk
 have hb:=LG hx (show k+1<=((r.getD 7 (.int 0)).r).length by omega)
 have hpt:=LH hx hk
 have hmn:min ((r.getD 7 (.int 0)).r).length k=k:=Nat.min_eq_right (by omega)
 have hw:IntKind.i64.wrap ((IntKind.i64.wrap (((bsT ((r.getD 7 (.int 0)).r) k:Nat):Int)+((EA (ptR (((r.getD 7 (.int 0)).r).getD k [])):Nat):Int)))-(1:Int))=((bsT ((r.getD 7 (.int 0)).r) k:Nat):Int)+((EA (ptR (((r.getD 7 (.int 0)).r).getD k [])):Nat):Int)-1:=by rw [AD (x:=((bsT ((r.getD 7 (.int 0)).r) k:Nat):Int)+((EA (ptR (((r.getD 7 (.int 0)).r).getD k [])):Nat):Int)) (by omega) (by omega),AD (by omega) (by omega)]
 refine ao (by first|rfl|omega|(simp;done)|(simp;omega)) λ o17=>?_
 refine ao (by first|rfl|omega|(simp;done)|(simp;omega)) λ o18=>?_
 refine ⟨(((r.getD 7 (.int 0)).r),k),by
  rfl,by
  show Bk ((r.getD 7 (.int 0)).r)/\k<=1048576
  first|trivial|exact ⟨hx,by omega⟩|exact hpt,?_⟩
 refine ⟨(((r.getD 7 (.int 0)).r).getD k []),by
  rfl,by
  show Dat.has (.sl 3 [.int]) (.sl (ptR (((r.getD 7 (.int 0)).r).getD k [])))/\(ptR (((r.getD 7 (.int 0)).r).getD k [])).length<=1048576
  first|trivial|exact ⟨hx,by omega⟩|exact hpt,?_⟩
 refine ⟨(n,((bsT ((r.getD 7 (.int 0)).r) (min ((r.getD 7 (.int 0)).r).length k):Nat):Int),(IntKind.i64.wrap ((IntKind.i64.wrap (((bsT ((r.getD 7 (.int 0)).r) (min ((r.getD 7 (.int 0)).r).length k):Nat):Int)+((EA (ptR (((r.getD 7 (.int 0)).r).getD k [])):Nat):Int)))-(1:Int)))),by
  rfl,by
  first|trivial|exact ⟨hx,by omega⟩|exact hpt,?_⟩
 refine ⟨λ c28=>?_,λ c28=>?_⟩
 ·try dsimp only at c28
  try simp only [nrm] at c28
  rw [hmn,hw] at c28
  rw [UA (h:=k) hk (by omega) (by omega)]
 try dsimp only at c28
 try simp only [nrm] at c28
 rw [hmn,hw] at c28
 refine ⟨k+1,by
  first|exact ⟨Nat.zero_le _,λ h=>h⟩|exact ⟨by omega,λ h=>by have:=hki1.2 h;omega⟩,by
  first|omega|(simp;omega),?_⟩
 refine ⟨rfl,rfl,?_,rfl,rfl,rfl,rfl,rfl,rfl,rfl,rfl,rfl,rfl⟩
 first|rfl|exact AF (AD (by omega) (by omega))
end Go.Proofs.YtmedodfenejimaaGreat
