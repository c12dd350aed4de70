import Derived.Test.YtmedodfenejimaaGreatLkRkPa
namespace Go.Proofs.YtmedodfenejimaaGreat
set_option maxRecDepth 100000
set_option linter.unusedVariables false
set_option linter.unusedSimpArgs false
open Go.RowKit
def ptW (v:List Dat):Pq:=⟨Fr.ofInt (v.getD 0 (.int 0)).n,Fr.ofInt (v.getD 1 (.int 0)).n⟩
theorem Bt {v:List Dat} (hv:(-9223372036854775808<=(v.getD 0 (.int 0)).n/\(v.getD 0 (.int 0)).n<=9223372036854775807)/\-9223372036854775808<=(v.getD 1 (.int 0)).n/\(v.getD 1 (.int 0)).n<=9223372036854775807):(ptW v).good=true:=by
 unfold Pq.good ptW
 rw [Fr.good_some (Jl (FQ hv.1)),Fr.good_some (Jl (FQ hv.2))];rfl
def Dr (r:List Dat) (h:Int) (p:Pq):Int:=if 0<=h/\h<(((r.getD 7 (.int 0)).r).length:Int) then (if BK (((r.getD 7 (.int 0)).r).getD h.toNat []) p=-1 then -1 else IntKind.i64.wrap (((bsT ((r.getD 7 (.int 0)).r) h.toNat:Nat):Int)+BK (((r.getD 7 (.int 0)).r).getD h.toNat []) p)) else -1
def Ds (r:List Dat) (h:Int) (p:Pq):Int:=if 0<=h/\h<(((r.getD 7 (.int 0)).r).length:Int) then (if BK (((r.getD 7 (.int 0)).r).getD h.toNat []) p<0 then -1 else IntKind.i64.wrap (BK (((r.getD 7 (.int 0)).r).getD h.toNat []) p+((bsT ((r.getD 7 (.int 0)).r) h.toNat:Nat):Int))) else -1
section
variable {r : List Dat} {h : Int} {p : Pq}
theorem LJ (h1:¬ (0<=h/\h<(((r.getD 7 (.int 0)).r).length:Int))):Dr r h p=-1:=by unfold Dr;rw [if_neg h1]
theorem LK (h1:¬ (0<=h/\h<(((r.getD 7 (.int 0)).r).length:Int))):Ds r h p=-1:=by unfold Ds;rw [if_neg h1]
theorem Jw (h2:BK (((r.getD 7 (.int 0)).r).getD h.toNat []) p=-1):Dr r h p=-1:=by unfold Dr;split <;> simp [h2]
theorem Ic (h2:BK (((r.getD 7 (.int 0)).r).getD h.toNat []) p<0):Ds r h p=-1:=by unfold Ds;split <;> simp [h2]
theorem EY (h1:0<=h/\h<(((r.getD 7 (.int 0)).r).length:Int)) (h2:¬ BK (((r.getD 7 (.int 0)).r).getD h.toNat []) p=-1):Dr r h p=IntKind.i64.wrap (((bsT ((r.getD 7 (.int 0)).r) h.toNat:Nat):Int)+BK (((r.getD 7 (.int 0)).r).getD h.toNat []) p):=by unfold Dr;rw [if_pos h1,if_neg h2]
theorem EZ (h1:0<=h/\h<(((r.getD 7 (.int 0)).r).length:Int)) (h2:¬ BK (((r.getD 7 (.int 0)).r).getD h.toNat []) p<0):Ds r h p=IntKind.i64.wrap (BK (((r.getD 7 (.int 0)).r).getD h.toNat []) p+((bsT ((r.getD 7 (.int 0)).r) h.toNat:Nat):Int)):=by unfold Ds;rw [if_pos h1,if_neg h2]
end
def Dt (R:Int->Pq->Int) (tb:List (List Dat)) (a b j k:Int) (o:List Dat):Bool:=decide (0<=(o.getD 0 (.int 0)).n/\(o.getD 0 (.int 0)).n<(tb.length:Int)) && (decide (R a (ptW (tb.getD (o.getD 0 (.int 0)).n.toNat []))=j) && decide (R b (ptW (tb.getD (o.getD 0 (.int 0)).n.toNat []))=k))
theorem Gi {R:Int->Pq->Int} {tb:List (List Dat)} {a b j k:Int} {o:List Dat} (h:¬ ((0<=(o.getD 0 (.int 0)).n/\(o.getD 0 (.int 0)).n<(tb.length:Int))/\R a (ptW (tb.getD (o.getD 0 (.int 0)).n.toNat []))=j/\R b (ptW (tb.getD (o.getD 0 (.int 0)).n.toNat []))=k)):Dt R tb a b j k o=false:=by
 rw [Bool.eq_false_iff];intro e
 simp only [Dt,Bool.and_eq_true,decide_eq_true_eq] at e
 exact h e
theorem OQ {R:Int->Pq->Int} {tb:List (List Dat)} {a b j k:Int} {o:List Dat} (h:(0<=(o.getD 0 (.int 0)).n/\(o.getD 0 (.int 0)).n<(tb.length:Int))/\R a (ptW (tb.getD (o.getD 0 (.int 0)).n.toNat []))=j/\R b (ptW (tb.getD (o.getD 0 (.int 0)).n.toNat []))=k):Dt R tb a b j k o=true:=by
 simp only [Dt,Bool.and_eq_true,decide_eq_true_eq]
 exact h
def lkZ (R:Int->Pq->Int) (r:List Dat) (j k:Int):Int:=if hdZ ((r.getD 7 (.int 0)).r) j<0∨hdZ ((r.getD 7 (.int 0)).r) k<0 then -1 else if CT (Dt R ((r.getD 6 (.int 0)).r) (hdZ ((r.getD 7 (.int 0)).r) j) (hdZ ((r.getD 7 (.int 0)).r) k) j k) ((r.getD 8 (.int 0)).r)<0 then -1 else ((((r.getD 8 (.int 0)).r).getD (CT (Dt R ((r.getD 6 (.int 0)).r) (hdZ ((r.getD 7 (.int 0)).r) j) (hdZ ((r.getD 7 (.int 0)).r) k) j k) ((r.getD 8 (.int 0)).r)).toNat []).getD 0 (.int 0)).n
section
variable {R : Int → Pq → Int} {r : List Dat} {j k : Int}
theorem By (h:hdZ ((r.getD 7 (.int 0)).r) j<0∨hdZ ((r.getD 7 (.int 0)).r) k<0):lkZ R r j k=-1:=by unfold lkZ;rw [if_pos h]
theorem Du (h:∀ i,i<((r.getD 8 (.int 0)).r).length->Dt R ((r.getD 6 (.int 0)).r) (hdZ ((r.getD 7 (.int 0)).r) j) (hdZ ((r.getD 7 (.int 0)).r) k) j k (((r.getD 8 (.int 0)).r).getD i [])=false):lkZ R r j k=-1:=by
 unfold lkZ;split
 ·rfl
 ·rw [if_pos (by rw [Cp (d:=[]) h];omega)]
theorem HD {n:Nat} (h1:0<=hdZ ((r.getD 7 (.int 0)).r) j) (h2:0<=hdZ ((r.getD 7 (.int 0)).r) k) (hn:n<((r.getD 8 (.int 0)).r).length) (h:∀ i,i<n->Dt R ((r.getD 6 (.int 0)).r) (hdZ ((r.getD 7 (.int 0)).r) j) (hdZ ((r.getD 7 (.int 0)).r) k) j k (((r.getD 8 (.int 0)).r).getD i [])=false) (ht:Dt R ((r.getD 6 (.int 0)).r) (hdZ ((r.getD 7 (.int 0)).r) j) (hdZ ((r.getD 7 (.int 0)).r) k) j k (((r.getD 8 (.int 0)).r).getD n [])=true):lkZ R r j k=((((r.getD 8 (.int 0)).r).getD n []).getD 0 (.int 0)).n:=by
 unfold lkZ
 rw [if_neg (by omega),Eq (d:=[]) hn h ht,if_neg (by omega),Int.toNat_natCast]
end
theorem U6 {ls:List (List Dat)} {k:Int} (h:0<=hdZ ls k):∃ n:Nat,n<ls.length/\hdZ ls k=(n:Int)/\((bsT ls n:Nat):Int)<=k:=by
 unfold hdZ at h ⊢
 by_cases hk:k<0
 ·rw [if_pos hk] at h;omega
 ·rw [if_neg hk] at h ⊢
  cases e:(List.range ls.length).find? (λ h=>decide (k<((bsT ls (h+1):Nat):Int))) with
  | none=>rw [e] at h;simp at h
  | some n=>
   have hm:=List.mem_of_find?_eq_some e
   refine ⟨n,List.mem_range.1 hm,rfl,?_⟩
   cases n with
   | zero=>simp only [bsT];omega
   | succ n=>
    rw [List.find?_eq_some_iff_getElem] at e
    obtain ⟨_,i,hi,e1,e2⟩:=e
    simp at e1
    subst e1
    have:=e2 n (by omega)
    simpa using this
def HE (r:List Dat):Prop:=Bk ((r.getD 7 (.int 0)).r)/\∀ k,k<((r.getD 7 (.int 0)).r).length->CF (((r.getD 7 (.int 0)).r).getD k [])
def P3 (r:List Dat):Prop:=∀ k,k<((r.getD 7 (.int 0)).r).length->∀ i,i<(psS (((r.getD 7 (.int 0)).r).getD k [])).length->-9223372036854775808<=(((psS (((r.getD 7 (.int 0)).r).getD k [])).getD i []).getD 0 (.int 0)).n
def P4 (r:List Dat):Prop:=((r.getD 6 (.int 0)).r).length<=1048576/\((r.getD 8 (.int 0)).r).length<=1048576/\∀ k,k<((r.getD 6 (.int 0)).r).length->(-9223372036854775808<=((((r.getD 6 (.int 0)).r).getD k []).getD 0 (.int 0)).n/\((((r.getD 6 (.int 0)).r).getD k []).getD 0 (.int 0)).n<=9223372036854775807)/\-9223372036854775808<=((((r.getD 6 (.int 0)).r).getD k []).getD 1 (.int 0)).n/\((((r.getD 6 (.int 0)).r).getD k []).getD 1 (.int 0)).n<=9223372036854775807
theorem UG {r:List Dat} {p:Pq} (h:∀ i,i<(psS r).length->-9223372036854775808<=(((psS r).getD i []).getD 0 (.int 0)).n):-9223372036854775808<=BK r p:=by
 unfold BK;split
 ·exact h _ (by omega)
 ·omega
theorem OR {r:List Dat} {j:Int} {p:Pq} (hr:HE r) (hf:P3 r) (hj:0<=hdZ ((r.getD 7 (.int 0)).r) j):Dr r (hdZ ((r.getD 7 (.int 0)).r) j) p=j↔Ds r (hdZ ((r.getD 7 (.int 0)).r) j) p=j:=by
 obtain ⟨n,hn,e,hb⟩:=U6 hj
 have hbs:=LG hr.1 (show n<=((r.getD 7 (.int 0)).r).length by omega)
 rw [e]
 have hp:=UG (p:=p) (hf n hn)
 have h1:0<=(n:Int)/\(n:Int)<(((r.getD 7 (.int 0)).r).length:Int):=by omega
 by_cases a:BK (((r.getD 7 (.int 0)).r).getD (n:Int).toNat []) p=-1
 ·rw [Jw a,Ic (by omega)]
 ·rw [EY h1 a]
  by_cases b:BK (((r.getD 7 (.int 0)).r).getD (n:Int).toNat []) p<0
  ·rw [Ic b]
   rw [Int.toNat_natCast] at a b ⊢
   rw [AD (by omega) (by omega)]
   omega
  ·rw [EZ h1 b,Int.add_comm]
theorem U7 {r:List Dat} {j k:Int} (hr:HE r) (hf:P3 r):lkZ (Ds r) r j k=lkZ (Dr r) r j k:=by
 by_cases h:hdZ ((r.getD 7 (.int 0)).r) j<0∨hdZ ((r.getD 7 (.int 0)).r) k<0
 ·rw [By h,By h]
 ·have e:Dt (Ds r) ((r.getD 6 (.int 0)).r) (hdZ ((r.getD 7 (.int 0)).r) j) (hdZ ((r.getD 7 (.int 0)).r) k) j k=Dt (Dr r) ((r.getD 6 (.int 0)).r) (hdZ ((r.getD 7 (.int 0)).r) j) (hdZ ((r.getD 7 (.int 0)).r) k) j k:=by
   funext o
   simp only [Dt,OR hr hf (show 0<=hdZ ((r.getD 7 (.int 0)).r) j by omega),OR hr hf (show 0<=hdZ ((r.getD 7 (.int 0)).r) k by omega)]
  unfold lkZ;rw [e]
def Cg:Con:={ ι:=(List Dat)×Nat,pre:=λ i=>Bk ((i.1.getD 7 (.int 0)).r)/\i.2<=((i.1.getD 7 (.int 0)).r).length,args:=λ i=>[w67 i.1,.one (cI ((i.2:Nat):Int))],res:=λ i=>⟨false,[none],[rcI ((bsT ((i.1.getD 7 (.int 0)).r) i.2:Nat):Int)]⟩ }
theorem SO:Cg.Ok Tryz.prog 134:=by
 refine fok (X:=⟨tt,[(133,Ce)],[],23,[]⟩) mixed AH (CTok.cons MK (CTok.nil _)) Tryz.func134 (λ (i:(List Dat)×Nat)=>let Z1:=(i.1.getD 7 (.int 0)).r;[(3,.mk 9 (Nat) (λ x1=>{ tm:=[(2,tP 1 0),(11,tX 8),(12,tI (nI ((Z1.take i.2).length))),(5,tI (nI (bsT Z1 x1))),(13,tI (nI x1))],en:=[(1,.box [kI ((i.1.getD 0 (.int 0)).n),kI ((i.1.getD 1 (.int 0)).n),kI ((i.1.getD 2 (.int 0)).n),kI ((i.1.getD 3 (.int 0)).n),.ext 2,.ext 3,.ext 4,.ext 5,.ext 6,.ext 7]),(2,.view 39 [.int,.int] ((i.1.getD 4 (.int 0)).r) []),(3,.view 40 [.sl 39 [.int,.int]] ((i.1.getD 5 (.int 0)).r) []),(4,.view 39 [.int,.int] ((i.1.getD 6 (.int 0)).r) []),(5,.view 51 z50 Z1 []),(6,eV ((i.1.getD 8 (.int 0)).r)),(7,.view 33 [.sl 3 [.int]] ((i.1.getD 9 (.int 0)).r) []),(8,.view 51 z50 (Z1.take i.2) [])] }) (λ x1=>x1<=i.2) (λ x1=>i.2-x1) (λ _=>[]))]) ?_
 rintro ⟨r,h⟩ hpre
 have hpre:Bk ((r.getD 7 (.int 0)).r)/\h<=((r.getD 7 (.int 0)).r).length:=hpre
 refine AI (q:=let Z8:=vI ((r.getD 3 (.int 0)).n);let Z7:=vI ((r.getD 2 (.int 0)).n);let Z6:=vI ((r.getD 1 (.int 0)).n);let Z5:=vI ((r.getD 0 (.int 0)).n);let Z2:=(r.getD 7 (.int 0)).r;let Z1:=Z2.take h;let Z4:=nI (Z1.length);(Nat.beq 11 11=true)/\((0<=(0:Int))/\(((0:Int)<=(nI h))/\(((nI h)<=(Z2.length:Int))/\((∃ x1:Nat,(x1<=h)/\((rf (vI Z4))/\(vI (0:Int)=vI (nI (bsT Z2 x1)))/\(vI (0:Int)=vI (nI x1))/\(rf Z5)/\(rf Z6)/\(rf Z7)/\(rf Z8)/\(rf ((r.getD 4 (.int 0)).r))/\(rf ((r.getD 5 (.int 0)).r))/\(rf ((r.getD 6 (.int 0)).r))/\(rf Z2)/\(rf ((r.getD 8 (.int 0)).r))/\(rf ((r.getD 9 (.int 0)).r))/\(rf Z1)))/\∀ x1:Nat,let Z3:=Z1.getD x1 [];(x1<=h)->(ifB ((decide ((nI x1)<Z4))) ((0<=(nI x1)/\(nI x1)<(Z1.length:Int))/\((x1<Z1.length)/\(∃ i1:(List Dat),[DA.agg [cI (((Z3.getD 0 (.int 0))).n),cB (((Z3.getD 1 (.int 0))).b),cI (((Z3.getD 2 (.int 0))).n),cI (((Z3.getD 3 (.int 0))).n),cI (((Z3.getD 4 (.int 0))).n),cI (((Z3.getD 5 (.int 0))).n),DC.sl 40 [.sl 39 [.int,.int]] (((Z3.getD 6 (.int 0))).r),DC.sl 158 CS (((Z3.getD 7 (.int 0))).r),DC.sl 153 CR (((Z3.getD 8 (.int 0))).r),DC.sl 168 [.int,.int] (((Z3.getD 9 (.int 0))).r),cS (((Z3.getD 10 (.int 0))).r)]]=Ce.args i1/\Ce.pre i1/\(∃ y2:Nat,(y2<=h)/\(h-y2<h-x1)/\((rf (vI Z4))/\(vI (wR ((nI (bsT Z2 x1))+(nI (EA (ptR i1)))))=vI (nI (bsT Z2 y2)))/\(vI (wR ((nI x1)+(1:Int)))=vI (nI y2))/\(rf Z5)/\(rf Z6)/\(rf Z7)/\(rf Z8)/\(rf ((r.getD 4 (.int 0)).r))/\(rf ((r.getD 5 (.int 0)).r))/\(rf ((r.getD 6 (.int 0)).r))/\(rf Z2)/\(rf ((r.getD 8 (.int 0)).r))/\(rf ((r.getD 9 (.int 0)).r))/\(rf Z1)))))) ((vI (nI (bsT Z2 x1))=vI (nI (bsT Z2 h)))))))))) (by kernel_rfl) ?_
 conv=>zeta
 delta ifB vI wR nI
 have hx:Bk ((r.getD 7 (.int 0)).r):=hpre.1
 have hh:=hpre.2
 have hz:((r.getD 7 (.int 0)).r).length<=1048576:=by have:=hx.2;omega
 have hw:IntKind.i64.wrap (((((r.getD 7 (.int 0)).r).length:Nat):Int)-1)=((((r.getD 7 (.int 0)).r).length:Nat):Int)-1:=AD (by omega) (by omega)
 have htl:(((r.getD 7 (.int 0)).r).take h).length=h:=by rw [List.length_take];omega
 refine ao (by first|rfl|omega|(simp;done)|(simp;omega)) λ o1=>?_
 refine ao (by first|rfl|omega|(simp;done)|(simp;omega)) λ o2=>?_
 refine ao (by first|rfl|omega|(simp;done)|(simp;omega)) λ o3=>?_
 refine ao (by first|rfl|omega|(simp;done)|(simp;omega)) λ o4=>?_
 refine ⟨⟨0,by
  first|trivial|omega|(simp;omega),?_⟩,?_⟩
 ·refine ⟨rfl,?_,?_,rfl,rfl,rfl,rfl,rfl,rfl,rfl,rfl,rfl,rfl,rfl⟩
  ·first|rfl|(simp;done)
  first|rfl|(simp;done)
 intro (k:Nat) hki5
 have hki5:k<=h:=hki5
 refine And.symm ⟨λ c21=>?_,λ c21=>?_⟩
 ·try simp only [nrm] at c21
  rw [htl] at c21
  rw [show k=h by omega]
 try simp only [nrm] at c21
 rw [htl] at c21
 have ht:(((r.getD 7 (.int 0)).r).take h).getD k []=((r.getD 7 (.int 0)).r).getD k []:=by simp [List.getD,List.getElem?_take,show k<h by omega]
 have hd:=Mw hx (show k<((r.getD 7 (.int 0)).r).length by omega)
 have hb:=LG hx (show k+1<=((r.getD 7 (.int 0)).r).length by omega)
 refine ao (by first|rfl|omega|(simp;done)|(simp;omega)) λ o22=>?_
 refine ao (by first|rfl|omega|(simp;done)|(simp;omega)) λ o23=>?_
 refine ⟨((((r.getD 7 (.int 0)).r).take h).getD k []),by
  rfl,by
  show Dat.has (.sl 3 [.int]) (.sl (ptR ((((r.getD 7 (.int 0)).r).take h).getD k [])))/\(ptR ((((r.getD 7 (.int 0)).r).take h).getD k [])).length<=1048576
  rw [ht];exact LH hx (by omega),?_⟩
 refine ⟨k+1,by
  first|trivial|omega|(simp;omega),by
  first|omega|(simp;omega),?_⟩
 refine ⟨rfl,?_,?_,rfl,rfl,rfl,rfl,rfl,rfl,rfl,rfl,rfl,rfl,rfl⟩
 ·first|rfl|exact AF (by rw [ht,AD (by omega) (by omega)];omega)|exact AF (AD (by omega) (by omega))
 first|rfl|exact AF (by rw [ht,AD (by omega) (by omega)];omega)|exact AF (AD (by omega) (by omega))
def Cq:Con:={ ι:=(List Dat)×Int×Pq,pre:=λ i=>HE i.1/\i.2.2.good=true,args:=λ i=>[w67 i.1,DA.agg [cI i.2.1,cB (decide (i.2.2.x.z<0)),cS (L i.2.2.x.z.natAbs),cS (L i.2.2.x.d),cB (decide (i.2.2.y.z<0)),cS (L i.2.2.y.z.natAbs),cS (L i.2.2.y.d)]],res:=λ i=>⟨false,[none],[rcI (Dr i.1 i.2.1 i.2.2)]⟩ }
theorem P5:Cq.Ok Tryz.prog 86:=by
 refine fok (X:=⟨tt,[(85,A8),(69,FE),(134,Cg)],[],31,[]⟩) mixed AH (CTok.cons HV (CTok.cons Pz (CTok.cons SO (CTok.nil _)))) Tryz.func86 (λ _=>[]) ?_
 rintro ⟨r,h,p⟩ hpre
 have hpre:HE r/\p.good=true:=hpre
 refine AI (q:=let Z3:=(vI (-1:Int)=vI (Dr r h p));let Z2:=(r.getD 7 (.int 0)).r;let Z1:=Z2.getD ((h).toNat) [];∃ i1:Int×Int×Int,[DA.one (cI h),DA.one (cI (0:Int)),DA.one (cI (wR ((nI (Z2.length))-(1:Int))))]=A8.args i1/\A8.pre i1/\(ifB ((!(decide (i1.1≥i1.2.1) && decide (i1.1<=i1.2.2)))) Z3 ((0<=h/\h<(Z2.length:Int))/\(((h).toNat<Z2.length)/\(∃ i2:(List Dat)×Pq,[DA.agg [cI (((Z1.getD 0 (.int 0))).n),cB (((Z1.getD 1 (.int 0))).b),cI (((Z1.getD 2 (.int 0))).n),cI (((Z1.getD 3 (.int 0))).n),cI (((Z1.getD 4 (.int 0))).n),cI (((Z1.getD 5 (.int 0))).n),DC.sl 40 [.sl 39 [.int,.int]] (((Z1.getD 6 (.int 0))).r),DC.sl 158 CS (((Z1.getD 7 (.int 0))).r),DC.sl 153 CR (((Z1.getD 8 (.int 0))).r),DC.sl 168 [.int,.int] (((Z1.getD 9 (.int 0))).r),cS (((Z1.getD 10 (.int 0))).r)],dP p]=FE.args i2/\FE.pre i2/\(ifB (((BK i2.1 i2.2) == (-1:Int))) Z3 (∃ i3:(List Dat)×Nat,[w67 r,DA.one (cI h)]=Cg.args i3/\Cg.pre i3/\((vI (wR ((nI (bsT ((i3.1.getD 7 (.int 0)).r) i3.2))+(BK i2.1 i2.2)))=vI (Dr r h p)))))))))) (by kernel_rfl) ?_
 conv=>zeta
 delta w67 ifB vI wR nI
 have hx:Bk ((r.getD 7 (.int 0)).r):=hpre.1.1
 have hz:((r.getD 7 (.int 0)).r).length<=1048576:=by have:=hx.2;omega
 have hw:IntKind.i64.wrap (((((r.getD 7 (.int 0)).r).length:Nat):Int)-1)=((((r.getD 7 (.int 0)).r).length:Nat):Int)-1:=AD (by omega) (by omega)
 refine ⟨(h,(0:Int),(IntKind.i64.wrap (((((r.getD 7 (.int 0)).r).length:Nat):Int)-(1:Int)))),by
  first|rfl|(dsimp only [Cg];simp only [Int.toNat_of_nonneg (show 0<=h by omega)]),by
  first|trivial|exact ⟨hpre.1.2 _ (by omega),hpre.2⟩|exact ⟨hx,by omega⟩,?_⟩
 refine ⟨λ c4=>?_,λ c4=>?_⟩
 ·try simp only [nrm] at c4
  rw [hw] at c4
  refine AF ?_;first|rw [LJ (by omega)]|rw [Jw (by omega)]|rw [EY (by omega) (by omega),Nat.min_eq_right (by omega)]|rw [EY (by omega) (by omega)]
 try simp only [nrm] at c4
 rw [hw] at c4
 refine ao (by first|rfl|omega|(simp;done)|(simp;omega)) λ o6=>?_
 refine ao (by first|rfl|omega|(simp;done)|(simp;omega)) λ o7=>?_
 refine ⟨(((r.getD 7 (.int 0)).r).getD h.toNat [],p),by
  first|rfl|(dsimp only [Cg];simp only [Int.toNat_of_nonneg (show 0<=h by omega)]),by
  show CF (((r.getD 7 (.int 0)).r).getD h.toNat [])/\p.good=true
  first|trivial|exact ⟨hpre.1.2 _ (by omega),hpre.2⟩|exact ⟨hx,by omega⟩,?_⟩
 refine ⟨λ c11=>?_,λ c11=>?_⟩
 ·try simp only [nrm] at c11
  refine AF ?_;first|rw [LJ (by omega)]|rw [Jw (by omega)]|rw [EY (by omega) (by omega),Nat.min_eq_right (by omega)]|rw [EY (by omega) (by omega)]
 try simp only [nrm] at c11
 refine ⟨(r,h.toNat),by
  first|rfl|(dsimp only [Cg];simp only [Int.toNat_of_nonneg (show 0<=h by omega)]),by
  show Bk ((r.getD 7 (.int 0)).r)/\h.toNat<=((r.getD 7 (.int 0)).r).length
  first|trivial|exact ⟨hpre.1.2 _ (by omega),hpre.2⟩|exact ⟨hx,by omega⟩,?_⟩
 show Value.int .i64 (IntKind.i64.wrap (((bsT ((r.getD 7 (.int 0)).r) h.toNat:Nat):Int)+(BK (((r.getD 7 (.int 0)).r).getD h.toNat []) p)))=Value.int .i64 (Dr r h p)
 refine AF ?_;first|rw [LJ (by omega)]|rw [Jw (by omega)]|rw [EY (by omega) (by omega),Nat.min_eq_right (by omega)]|rw [EY (by omega) (by omega)]
def Cr:Con:={ ι:=(List Dat)×Int×Pq,pre:=λ i=>HE i.1/\i.2.2.good=true,args:=λ i=>[w67 i.1,DA.agg [cI i.2.1,cB (decide (i.2.2.x.z<0)),cS (L i.2.2.x.z.natAbs),cS (L i.2.2.x.d),cB (decide (i.2.2.y.z<0)),cS (L i.2.2.y.z.natAbs),cS (L i.2.2.y.d)]],res:=λ i=>⟨false,[none],[rcI (Ds i.1 i.2.1 i.2.2)]⟩ }
theorem P6:Cr.Ok Tryz.prog 81:=by
 refine fok (X:=⟨tt,[(80,Ax),(58,FG),(131,Bw)],[],32,[]⟩) mixed AH (CTok.cons G5 (CTok.cons P0 (CTok.cons ON (CTok.nil _)))) Tryz.func81 (λ _=>[]) ?_
 rintro ⟨r,h,p⟩ hpre
 have hpre:HE r/\p.good=true:=hpre
 refine AI (q:=let Z3:=(vI (-1:Int)=vI (Ds r h p));let Z2:=(r.getD 7 (.int 0)).r;let Z1:=Z2.getD ((h).toNat) [];∃ i1:Int×Int×Int,[DA.one (cI h),DA.one (cI (0:Int)),DA.one (cI (wR ((nI (Z2.length))-(1:Int))))]=Ax.args i1/\Ax.pre i1/\(ifB ((!(decide (i1.1≥i1.2.1) && decide (i1.1<=i1.2.2)))) Z3 ((0<=h/\h<(Z2.length:Int))/\(((h).toNat<Z2.length)/\(∃ i2:(List Dat)×Pq,[DA.agg [cI (((Z1.getD 0 (.int 0))).n),cB (((Z1.getD 1 (.int 0))).b),cI (((Z1.getD 2 (.int 0))).n),cI (((Z1.getD 3 (.int 0))).n),cI (((Z1.getD 4 (.int 0))).n),cI (((Z1.getD 5 (.int 0))).n),DC.sl 40 [.sl 39 [.int,.int]] (((Z1.getD 6 (.int 0))).r),DC.sl 158 CS (((Z1.getD 7 (.int 0))).r),DC.sl 153 CR (((Z1.getD 8 (.int 0))).r),DC.sl 168 [.int,.int] (((Z1.getD 9 (.int 0))).r),cS (((Z1.getD 10 (.int 0))).r)],dP p]=FG.args i2/\FG.pre i2/\(ifB ((decide ((BK i2.1 i2.2)<(0:Int)))) Z3 (∃ i3:(List (List Dat))×Nat,[DA.one (DC.sl 51 z50 Z2),DA.one (cI h)]=Bw.args i3/\Bw.pre i3/\((vI (wR ((BK i2.1 i2.2)+(nI (bsT i3.1 (min i3.1.length i3.2)))))=vI (Ds r h p)))))))))) (by kernel_rfl) ?_
 conv=>zeta
 delta ifB vI wR nI
 have hx:Bk ((r.getD 7 (.int 0)).r):=hpre.1.1
 have hz:((r.getD 7 (.int 0)).r).length<=1048576:=by have:=hx.2;omega
 have hw:IntKind.i64.wrap (((((r.getD 7 (.int 0)).r).length:Nat):Int)-1)=((((r.getD 7 (.int 0)).r).length:Nat):Int)-1:=AD (by omega) (by omega)
 refine ⟨(h,(0:Int),(IntKind.i64.wrap (((((r.getD 7 (.int 0)).r).length:Nat):Int)-(1:Int)))),by
  first|rfl|(dsimp only [Bw];simp only [Int.toNat_of_nonneg (show 0<=h by omega)]),by
  first|trivial|exact ⟨hpre.1.2 _ (by omega),hpre.2⟩|exact ⟨hx,by omega⟩,?_⟩
 refine ⟨λ c4=>?_,λ c4=>?_⟩
 ·try simp only [nrm] at c4
  rw [hw] at c4
  refine AF ?_;first|rw [LK (by omega)]|rw [Ic (by omega)]|rw [EZ (by omega) (by omega),Nat.min_eq_right (by omega)]|rw [EZ (by omega) (by omega)]
 try simp only [nrm] at c4
 rw [hw] at c4
 refine ao (by first|rfl|omega|(simp;done)|(simp;omega)) λ o6=>?_
 refine ao (by first|rfl|omega|(simp;done)|(simp;omega)) λ o7=>?_
 refine ⟨(((r.getD 7 (.int 0)).r).getD h.toNat [],p),by
  first|rfl|(dsimp only [Bw];simp only [Int.toNat_of_nonneg (show 0<=h by omega)]),by
  show CF (((r.getD 7 (.int 0)).r).getD h.toNat [])/\p.good=true
  first|trivial|exact ⟨hpre.1.2 _ (by omega),hpre.2⟩|exact ⟨hx,by omega⟩,?_⟩
 refine ⟨λ c11=>?_,λ c11=>?_⟩
 ·try simp only [nrm] at c11
  refine AF ?_;first|rw [LK (by omega)]|rw [Ic (by omega)]|rw [EZ (by omega) (by omega),Nat.min_eq_right (by omega)]|rw [EZ (by omega) (by omega)]
 try simp only [nrm] at c11
 refine ⟨(((r.getD 7 (.int 0)).r),h.toNat),by
  first|rfl|(dsimp only [Bw];simp only [Int.toNat_of_nonneg (show 0<=h by omega)]),by
  show Bk ((r.getD 7 (.int 0)).r)/\h.toNat<=1048576
  first|trivial|exact ⟨hpre.1.2 _ (by omega),hpre.2⟩|exact ⟨hx,by omega⟩,?_⟩
 show Value.int .i64 (IntKind.i64.wrap ((BK (((r.getD 7 (.int 0)).r).getD h.toNat []) p)+((bsT ((r.getD 7 (.int 0)).r) (min ((r.getD 7 (.int 0)).r).length h.toNat):Nat):Int)))=Value.int .i64 (Ds r h p)
 refine AF ?_;first|rw [LK (by omega)]|rw [Ic (by omega)]|rw [EZ (by omega) (by omega),Nat.min_eq_right (by omega)]|rw [EZ (by omega) (by omega)]
def Hi:Con:={ ι:=(List Dat)×Int×Int,pre:=λ i=>HE i.1/\P4 i.1/\i.2.1<=9223372036854775807/\i.2.2<=9223372036854775807,args:=λ i=>[w67 i.1,.one (cI i.2.1),.one (cI i.2.2)],res:=λ i=>⟨false,[none],[rcI (lkZ (Dr i.1) i.1 i.2.1 i.2.2)]⟩ }
theorem UH:Hi.Ok Tryz.prog 24:=by
 refine fok (X:=⟨tt,[(84,CN),(85,A8),(70,C7),(86,Cq)],[],64,[]⟩) mixed AH (CTok.cons OM (CTok.cons HV (CTok.cons OH (CTok.cons P5 (CTok.nil _))))) Tryz.func24 (λ (i:(List Dat)×Int×Int)=>let Z3:=(i.1.getD 6 (.int 0)).r;let Z2:=(i.1.getD 7 (.int 0)).r;let Z1:=(i.1.getD 8 (.int 0)).r;[(5,.mk 8 (Nat) (λ x1=>{ tm:=[(1,tI i.2.1),(2,tI i.2.2),(3,tP 1 0),(25,tX 6),(26,tI (nI (Z1.length))),(7,tI (hdZ Z2 i.2.1)),(8,tI (hdZ Z2 i.2.2)),(27,tI (nI x1))],en:=[(1,.box [kI ((i.1.getD 0 (.int 0)).n),kI ((i.1.getD 1 (.int 0)).n),kI ((i.1.getD 2 (.int 0)).n),kI ((i.1.getD 3 (.int 0)).n),.ext 2,.ext 3,.ext 4,.ext 5,.ext 6,.ext 7]),(2,.view 39 [.int,.int] ((i.1.getD 4 (.int 0)).r) []),(3,.view 40 [.sl 39 [.int,.int]] ((i.1.getD 5 (.int 0)).r) []),(4,.view 39 [.int,.int] Z3 []),(5,.view 51 z50 Z2 []),(6,eV Z1),(7,.view 33 [.sl 3 [.int]] ((i.1.getD 9 (.int 0)).r) [])] }) (λ x1=>x1<=Z1.length/\∀ u,u<x1->Dt (Dr i.1) Z3 (hdZ Z2 i.2.1) (hdZ Z2 i.2.2) i.2.1 i.2.2 (Z1.getD u [])=false) (λ x1=>Z1.length-x1) (λ _=>[]))]) ?_
 rintro ⟨r,j,k⟩ hpre
 have hpre:HE r/\P4 r/\j<=9223372036854775807/\k<=9223372036854775807:=hpre
 refine AI (q:=let Z12:=(r.getD 9 (.int 0)).r;let Z11:=(r.getD 5 (.int 0)).r;let Z10:=(r.getD 4 (.int 0)).r;let Z9:=vI ((r.getD 3 (.int 0)).n);let Z8:=vI ((r.getD 2 (.int 0)).n);let Z7:=vI ((r.getD 1 (.int 0)).n);let Z6:=vI ((r.getD 0 (.int 0)).n);let Z5:=(vI (-1:Int)=vI (lkZ (Dr r) r j k));let Z3:=(r.getD 6 (.int 0)).r;let Z2:=(r.getD 7 (.int 0)).r;let Z16:=hdZ Z2 k;let Z15:=hdZ Z2 j;let Z1:=(r.getD 8 (.int 0)).r;let Z17:=vI (nI (Z1.length));∃ i1:(List Dat)×Int,let Z19:=hdZ ((i1.1.getD 7 (.int 0)).r) i1.2;[w67 r,DA.one (cI j)]=CN.args i1/\CN.pre i1/\(∃ i2:(List Dat)×Int,let Z20:=hdZ ((i2.1.getD 7 (.int 0)).r) i2.2;[w67 r,DA.one (cI k)]=CN.args i2/\CN.pre i2/\(ifB ((!(decide (Z19<(0:Int))))) (ifB ((decide (Z20<(0:Int)))) Z5 ((∃ x1:Nat,(x1<=Z1.length/\∀ u,u<x1->Dt (Dr r) Z3 Z15 Z16 j k (Z1.getD u [])=false)/\((rf (vI j))/\(rf (vI k))/\(rf Z17)/\(vI Z19=vI Z15)/\(vI Z20=vI Z16)/\(vI (0:Int)=vI (nI x1))/\(rf Z6)/\(rf Z7)/\(rf Z8)/\(rf Z9)/\(rf Z10)/\(rf Z11)/\(rf Z3)/\(rf Z2)/\(rf Z1)/\(rf Z12)))/\∀ x1:Nat,let Z18:=wR ((nI x1)+(1:Int));let Z4:=((Z1.getD x1 []).getD 0 (.int 0));let Z21:=Z3.getD (Z4.n.toNat) [];(x1<=Z1.length/\∀ u,u<x1->Dt (Dr r) Z3 Z15 Z16 j k (Z1.getD u [])=false)->(ifB ((decide ((nI x1)<(nI (Z1.length))))) ((0<=(nI x1)/\(nI x1)<(Z1.length:Int))/\((x1<Z1.length)/\(∃ i3:Int×Int×Int,[DA.one (cI (Z4.n)),DA.one (cI (0:Int)),DA.one (cI (wR ((nI (Z3.length))-(1:Int))))]=A8.args i3/\A8.pre i3/\(ifB ((!(decide (i3.1≥i3.2.1) && decide (i3.1<=i3.2.2)))) (∃ y2:Nat,(y2<=Z1.length/\∀ u,u<y2->Dt (Dr r) Z3 Z15 Z16 j k (Z1.getD u [])=false)/\(Z1.length-y2<Z1.length-x1)/\((rf (vI j))/\(rf (vI k))/\(rf Z17)/\(rf (vI Z15))/\(rf (vI Z16))/\(vI Z18=vI (nI y2))/\(rf Z6)/\(rf Z7)/\(rf Z8)/\(rf Z9)/\(rf Z10)/\(rf Z11)/\(rf Z3)/\(rf Z2)/\(rf Z1)/\(rf Z12))) ((0<=Z4.n/\Z4.n<(Z3.length:Int))/\((Z4.n.toNat<Z3.length)/\(∃ i4:Int×Int,let Z14:=Fr.ofInt i4.2;let Z13:=Fr.ofInt i4.1;[DA.agg [cI (((Z21.getD 0 (.int 0))).n),cI (((Z21.getD 1 (.int 0))).n)]]=C7.args i4/\C7.pre i4/\(∃ i5:(List Dat)×Int×Pq,[w67 r,DA.agg [cI Z15,cB (decide (Z13.z<0)),cS (L Z13.z.natAbs),cS (L Z13.d),cB (decide (Z14.z<0)),cS (L Z14.z.natAbs),cS (L Z14.d)]]=Cq.args i5/\Cq.pre i5/\(ifB (((Dr i5.1 i5.2.1 i5.2.2) == j)) (∃ i6:(List Dat)×Int×Pq,[w67 r,DA.agg [cI Z16,cB (decide (Z13.z<0)),cS (L Z13.z.natAbs),cS (L Z13.d),cB (decide (Z14.z<0)),cS (L Z14.z.natAbs),cS (L Z14.d)]]=Cq.args i6/\Cq.pre i6/\(ifB (((Dr i6.1 i6.2.1 i6.2.2) == k)) ((vI Z4.n=vI (lkZ (Dr r) r j k))) (∃ y3:Nat,(y3<=Z1.length/\∀ u,u<y3->Dt (Dr r) Z3 Z15 Z16 j k (Z1.getD u [])=false)/\(Z1.length-y3<Z1.length-x1)/\((rf (vI j))/\(rf (vI k))/\(rf Z17)/\(rf (vI Z15))/\(rf (vI Z16))/\(vI Z18=vI (nI y3))/\(rf Z6)/\(rf Z7)/\(rf Z8)/\(rf Z9)/\(rf Z10)/\(rf Z11)/\(rf Z3)/\(rf Z2)/\(rf Z1)/\(rf Z12))))) (∃ y4:Nat,(y4<=Z1.length/\∀ u,u<y4->Dt (Dr r) Z3 Z15 Z16 j k (Z1.getD u [])=false)/\(Z1.length-y4<Z1.length-x1)/\((rf (vI j))/\(rf (vI k))/\(rf Z17)/\(rf (vI Z15))/\(rf (vI Z16))/\(vI Z18=vI (nI y4))/\(rf Z6)/\(rf Z7)/\(rf Z8)/\(rf Z9)/\(rf Z10)/\(rf Z11)/\(rf Z3)/\(rf Z2)/\(rf Z1)/\(rf Z12)))))))))))) Z5))) Z5))) (by kernel_rfl) ?_
 conv=>zeta
 delta w67 ifB vI wR nI
 have hx:Bk ((r.getD 7 (.int 0)).r):=hpre.1.1
 have ht:=hpre.2.1.1
 have ho:=hpre.2.1.2.1
 have hv:=hpre.2.1.2.2
 have hj:=hpre.2.2.1
 have hk:=hpre.2.2.2
 have hw:IntKind.i64.wrap (((((r.getD 6 (.int 0)).r).length:Nat):Int)-1)=((((r.getD 6 (.int 0)).r).length:Nat):Int)-1:=AD (by omega) (by omega)
 refine ⟨(r,j),by
  rfl,by
  show Bk ((r.getD 7 (.int 0)).r)/\j<=9223372036854775807
  first|trivial|exact ⟨hx,hj⟩|exact ⟨hx,hk⟩|exact ⟨hpre.1,Bt (hv _ (by omega))⟩|exact hv _ (by omega),?_⟩
 refine ⟨(r,k),by
  rfl,by
  show Bk ((r.getD 7 (.int 0)).r)/\k<=9223372036854775807
  first|trivial|exact ⟨hx,hj⟩|exact ⟨hx,hk⟩|exact ⟨hpre.1,Bt (hv _ (by omega))⟩|exact hv _ (by omega),?_⟩
 refine And.symm ⟨λ c7=>?_,λ c7=>?_⟩
 ·try simp only [nrm] at c7
  first|exact AF (By (.inl (by omega))).symm|exact AF (By (.inr (by omega))).symm|exact AF (Du λ i hi=>hki10.2 i (by omega)).symm|exact AF (HD (by omega) (by omega) (by omega) hki10.2 (OQ ⟨⟨by omega,by omega⟩,c62,c66⟩)).symm
 try simp only [nrm] at c7
 refine ⟨λ c8=>?_,λ c8=>?_⟩
 ·try simp only [nrm] at c8
  first|exact AF (By (.inl (by omega))).symm|exact AF (By (.inr (by omega))).symm|exact AF (Du λ i hi=>hki10.2 i (by omega)).symm|exact AF (HD (by omega) (by omega) (by omega) hki10.2 (OQ ⟨⟨by omega,by omega⟩,c62,c66⟩)).symm
 try simp only [nrm] at c8
 refine ⟨⟨0,by
  exact ⟨Nat.zero_le _,λ j hj=>absurd hj (Nat.not_lt_zero j)⟩,?_⟩,?_⟩
 ·refine ⟨rfl,rfl,rfl,rfl,rfl,?_,rfl,rfl,rfl,rfl,rfl,rfl,rfl,rfl,rfl,rfl⟩
  first|rfl|(simp;done)
 intro (n:Nat) hki10
 have hki10:n<=((r.getD 8 (.int 0)).r).length/\∀ u,u<n->Dt (Dr r) ((r.getD 6 (.int 0)).r) (hdZ ((r.getD 7 (.int 0)).r) j) (hdZ ((r.getD 7 (.int 0)).r) k) j k (((r.getD 8 (.int 0)).r).getD u [])=false:=hki10
 refine And.symm ⟨λ c28=>?_,λ c28=>?_⟩
 ·try simp only [nrm] at c28
  first|exact AF (By (.inl (by omega))).symm|exact AF (By (.inr (by omega))).symm|exact AF (Du λ i hi=>hki10.2 i (by omega)).symm|exact AF (HD (by omega) (by omega) (by omega) hki10.2 (OQ ⟨⟨by omega,by omega⟩,c62,c66⟩)).symm
 try simp only [nrm] at c28
 refine ao (by first|rfl|omega|(simp;done)|(simp;omega)) λ o29=>?_
 refine ao (by first|rfl|omega|(simp;done)|(simp;omega)) λ o30=>?_
 refine ⟨((((((r.getD 8 (.int 0)).r).getD n []).getD 0 (.int 0))).n,(0:Int),(IntKind.i64.wrap (((((r.getD 6 (.int 0)).r).length:Nat):Int)-(1:Int)))),by
  rfl,by
  first|trivial|exact ⟨hx,hj⟩|exact ⟨hx,hk⟩|exact ⟨hpre.1,Bt (hv _ (by omega))⟩|exact hv _ (by omega),?_⟩
 refine ⟨λ c34=>?_,λ c34=>?_⟩
 ·try dsimp only at c34
  try simp only [nrm] at c34
  rw [hw] at c34
  refine ⟨n+1,by
   first|exact ⟨by omega,Ag hki10.2 (Gi λ e=>by have:=e.1;omega)⟩|exact ⟨by omega,Ag hki10.2 (Gi λ e=>c62 e.2.1)⟩|exact ⟨by omega,Ag hki10.2 (Gi λ e=>c66 e.2.2)⟩,by
   first|omega|(simp;omega),?_⟩
  refine ⟨rfl,rfl,rfl,rfl,rfl,?_,rfl,rfl,rfl,rfl,rfl,rfl,rfl,rfl,rfl,rfl⟩
  first|rfl|exact AF (AD (by omega) (by omega))
 try dsimp only at c34
 try simp only [nrm] at c34
 rw [hw] at c34
 refine ao (by first|rfl|omega|(simp;done)|(simp;omega)) λ o54=>?_
 refine ao (by first|rfl|omega|(simp;done)|(simp;omega)) λ o55=>?_
 refine ⟨((((((r.getD 6 (.int 0)).r).getD ((((((r.getD 8 (.int 0)).r).getD n []).getD 0 (.int 0))).n.toNat) []).getD 0 (.int 0))).n,(((((r.getD 6 (.int 0)).r).getD ((((((r.getD 8 (.int 0)).r).getD n []).getD 0 (.int 0))).n.toNat) []).getD 1 (.int 0))).n),by
  rfl,by
  try dsimp only [C7]
  first|trivial|exact ⟨hx,hj⟩|exact ⟨hx,hk⟩|exact ⟨hpre.1,Bt (hv _ (by omega))⟩|exact hv _ (by omega),?_⟩
 refine ⟨(r,hdZ ((r.getD 7 (.int 0)).r) j,ptW (((r.getD 6 (.int 0)).r).getD (((((r.getD 8 (.int 0)).r).getD n []).getD 0 (.int 0)).n).toNat [])),by
  rfl,by
  show HE r/\(ptW (((r.getD 6 (.int 0)).r).getD (((((r.getD 8 (.int 0)).r).getD n []).getD 0 (.int 0)).n).toNat [])).good=true
  first|trivial|exact ⟨hx,hj⟩|exact ⟨hx,hk⟩|exact ⟨hpre.1,Bt (hv _ (by omega))⟩|exact hv _ (by omega),?_⟩
 refine And.symm ⟨λ c62=>?_,λ c62=>?_⟩
 ·try simp only [nrm] at c62
  refine ⟨n+1,by
   first|exact ⟨by omega,Ag hki10.2 (Gi λ e=>by have:=e.1;omega)⟩|exact ⟨by omega,Ag hki10.2 (Gi λ e=>c62 e.2.1)⟩|exact ⟨by omega,Ag hki10.2 (Gi λ e=>c66 e.2.2)⟩,by
   first|omega|(simp;omega),?_⟩
  refine ⟨rfl,rfl,rfl,rfl,rfl,?_,rfl,rfl,rfl,rfl,rfl,rfl,rfl,rfl,rfl,rfl⟩
  first|rfl|exact AF (AD (by omega) (by omega))
 try simp only [nrm] at c62
 refine ⟨(r,hdZ ((r.getD 7 (.int 0)).r) k,ptW (((r.getD 6 (.int 0)).r).getD (((((r.getD 8 (.int 0)).r).getD n []).getD 0 (.int 0)).n).toNat [])),by
  rfl,by
  show HE r/\(ptW (((r.getD 6 (.int 0)).r).getD (((((r.getD 8 (.int 0)).r).getD n []).getD 0 (.int 0)).n).toNat [])).good=true
  first|trivial|exact ⟨hx,hj⟩|exact ⟨hx,hk⟩|exact ⟨hpre.1,Bt (hv _ (by omega))⟩|exact hv _ (by omega),?_⟩
 refine ⟨λ c66=>?_,λ c66=>?_⟩
 ·try simp only [nrm] at c66
  first|exact AF (By (.inl (by omega))).symm|exact AF (By (.inr (by omega))).symm|exact AF (Du λ i hi=>hki10.2 i (by omega)).symm|exact AF (HD (by omega) (by omega) (by omega) hki10.2 (OQ ⟨⟨by omega,by omega⟩,c62,c66⟩)).symm
 try simp only [nrm] at c66
 refine ⟨n+1,by
  first|exact ⟨by omega,Ag hki10.2 (Gi λ e=>by have:=e.1;omega)⟩|exact ⟨by omega,Ag hki10.2 (Gi λ e=>c62 e.2.1)⟩|exact ⟨by omega,Ag hki10.2 (Gi λ e=>c66 e.2.2)⟩,by
  first|omega|(simp;omega),?_⟩
 refine ⟨rfl,rfl,rfl,rfl,rfl,?_,rfl,rfl,rfl,rfl,rfl,rfl,rfl,rfl,rfl,rfl⟩
 first|rfl|exact AF (AD (by omega) (by omega))
def Hj:Con:={ ι:=(List Dat)×Int×Int,pre:=λ i=>HE i.1/\P4 i.1/\i.2.1<=9223372036854775807/\i.2.2<=9223372036854775807,args:=λ i=>[w67 i.1,.one (cI i.2.1),.one (cI i.2.2)],res:=λ i=>⟨false,[none],[rcI (lkZ (Ds i.1) i.1 i.2.1 i.2.2)]⟩ }
theorem UI:Hj.Ok Tryz.prog 22:=by
 refine fok (X:=⟨tt,[(79,CO),(80,Ax),(59,C8),(81,Cr)],[],64,[]⟩) mixed AH (CTok.cons OO (CTok.cons G5 (CTok.cons OI (CTok.cons P6 (CTok.nil _))))) Tryz.func22 (λ (i:(List Dat)×Int×Int)=>let Z3:=(i.1.getD 6 (.int 0)).r;let Z2:=(i.1.getD 7 (.int 0)).r;let Z1:=(i.1.getD 8 (.int 0)).r;[(6,.mk 8 (Nat) (λ x1=>{ tm:=[(1,tI i.2.1),(2,tI i.2.2),(3,tP 1 0),(25,tX 6),(26,tI (nI (Z1.length))),(7,tI (hdZ Z2 i.2.1)),(8,tI (hdZ Z2 i.2.2)),(27,tI (nI x1))],en:=[(1,.box [kI ((i.1.getD 0 (.int 0)).n),kI ((i.1.getD 1 (.int 0)).n),kI ((i.1.getD 2 (.int 0)).n),kI ((i.1.getD 3 (.int 0)).n),.ext 2,.ext 3,.ext 4,.ext 5,.ext 6,.ext 7]),(2,.view 39 [.int,.int] ((i.1.getD 4 (.int 0)).r) []),(3,.view 40 [.sl 39 [.int,.int]] ((i.1.getD 5 (.int 0)).r) []),(4,.view 39 [.int,.int] Z3 []),(5,.view 51 z50 Z2 []),(6,eV Z1),(7,.view 33 [.sl 3 [.int]] ((i.1.getD 9 (.int 0)).r) [])] }) (λ x1=>x1<=Z1.length/\∀ u,u<x1->Dt (Ds i.1) Z3 (hdZ Z2 i.2.1) (hdZ Z2 i.2.2) i.2.1 i.2.2 (Z1.getD u [])=false) (λ x1=>Z1.length-x1) (λ _=>[]))]) ?_
 rintro ⟨r,j,k⟩ hpre
 have hpre:HE r/\P4 r/\j<=9223372036854775807/\k<=9223372036854775807:=hpre
 refine AI (q:=let Z12:=(r.getD 9 (.int 0)).r;let Z11:=(r.getD 5 (.int 0)).r;let Z10:=(r.getD 4 (.int 0)).r;let Z9:=vI ((r.getD 3 (.int 0)).n);let Z8:=vI ((r.getD 2 (.int 0)).n);let Z7:=vI ((r.getD 1 (.int 0)).n);let Z6:=vI ((r.getD 0 (.int 0)).n);let Z5:=(vI (-1:Int)=vI (lkZ (Ds r) r j k));let Z3:=(r.getD 6 (.int 0)).r;let Z2:=(r.getD 7 (.int 0)).r;let Z16:=hdZ Z2 k;let Z15:=hdZ Z2 j;let Z1:=(r.getD 8 (.int 0)).r;let Z17:=vI (nI (Z1.length));∃ i1:(List Dat)×Int,let Z19:=hdZ ((i1.1.getD 7 (.int 0)).r) i1.2;[w67 r,DA.one (cI j)]=CO.args i1/\CO.pre i1/\(∃ i2:(List Dat)×Int,let Z20:=hdZ ((i2.1.getD 7 (.int 0)).r) i2.2;[w67 r,DA.one (cI k)]=CO.args i2/\CO.pre i2/\(ifB ((!(decide (Z19<(0:Int))))) (ifB ((decide (Z20<(0:Int)))) Z5 ((∃ x1:Nat,(x1<=Z1.length/\∀ u,u<x1->Dt (Ds r) Z3 Z15 Z16 j k (Z1.getD u [])=false)/\((rf (vI j))/\(rf (vI k))/\(rf Z17)/\(vI Z19=vI Z15)/\(vI Z20=vI Z16)/\(vI (0:Int)=vI (nI x1))/\(rf Z6)/\(rf Z7)/\(rf Z8)/\(rf Z9)/\(rf Z10)/\(rf Z11)/\(rf Z3)/\(rf Z2)/\(rf Z1)/\(rf Z12)))/\∀ x1:Nat,let Z18:=wR ((nI x1)+(1:Int));let Z4:=((Z1.getD x1 []).getD 0 (.int 0));let Z21:=Z3.getD (Z4.n.toNat) [];(x1<=Z1.length/\∀ u,u<x1->Dt (Ds r) Z3 Z15 Z16 j k (Z1.getD u [])=false)->(ifB ((decide ((nI x1)<(nI (Z1.length))))) ((0<=(nI x1)/\(nI x1)<(Z1.length:Int))/\((x1<Z1.length)/\(∃ i3:Int×Int×Int,[DA.one (cI (Z4.n)),DA.one (cI (0:Int)),DA.one (cI (wR ((nI (Z3.length))-(1:Int))))]=Ax.args i3/\Ax.pre i3/\(ifB ((!(decide (i3.1≥i3.2.1) && decide (i3.1<=i3.2.2)))) (∃ y2:Nat,(y2<=Z1.length/\∀ u,u<y2->Dt (Ds r) Z3 Z15 Z16 j k (Z1.getD u [])=false)/\(Z1.length-y2<Z1.length-x1)/\((rf (vI j))/\(rf (vI k))/\(rf Z17)/\(rf (vI Z15))/\(rf (vI Z16))/\(vI Z18=vI (nI y2))/\(rf Z6)/\(rf Z7)/\(rf Z8)/\(rf Z9)/\(rf Z10)/\(rf Z11)/\(rf Z3)/\(rf Z2)/\(rf Z1)/\(rf Z12))) ((0<=Z4.n/\Z4.n<(Z3.length:Int))/\((Z4.n.toNat<Z3.length)/\(∃ i4:Int×Int,let Z14:=Fr.ofInt i4.2;let Z13:=Fr.ofInt i4.1;[DA.agg [cI (((Z21.getD 0 (.int 0))).n),cI (((Z21.getD 1 (.int 0))).n)]]=C8.args i4/\C8.pre i4/\(∃ i5:(List Dat)×Int×Pq,[w67 r,DA.agg [cI Z15,cB (decide (Z13.z<0)),cS (L Z13.z.natAbs),cS (L Z13.d),cB (decide (Z14.z<0)),cS (L Z14.z.natAbs),cS (L Z14.d)]]=Cr.args i5/\Cr.pre i5/\(ifB (((Ds i5.1 i5.2.1 i5.2.2) == j)) (∃ i6:(List Dat)×Int×Pq,[w67 r,DA.agg [cI Z16,cB (decide (Z13.z<0)),cS (L Z13.z.natAbs),cS (L Z13.d),cB (decide (Z14.z<0)),cS (L Z14.z.natAbs),cS (L Z14.d)]]=Cr.args i6/\Cr.pre i6/\(ifB (((Ds i6.1 i6.2.1 i6.2.2) == k)) ((vI Z4.n=vI (lkZ (Ds r) r j k))) (∃ y3:Nat,(y3<=Z1.length/\∀ u,u<y3->Dt (Ds r) Z3 Z15 Z16 j k (Z1.getD u [])=false)/\(Z1.length-y3<Z1.length-x1)/\((rf (vI j))/\(rf (vI k))/\(rf Z17)/\(rf (vI Z15))/\(rf (vI Z16))/\(vI Z18=vI (nI y3))/\(rf Z6)/\(rf Z7)/\(rf Z8)/\(rf Z9)/\(rf Z10)/\(rf Z11)/\(rf Z3)/\(rf Z2)/\(rf Z1)/\(rf Z12))))) (∃ y4:Nat,(y4<=Z1.length/\∀ u,u<y4->Dt (Ds r) Z3 Z15 Z16 j k (Z1.getD u [])=false)/\(Z1.length-y4<Z1.length-x1)/\((rf (vI j))/\(rf (vI k))/\(rf Z17)/\(rf (vI Z15))/\(rf (vI Z16))/\(vI Z18=vI (nI y4))/\(rf Z6)/\(rf Z7)/\(rf Z8)/\(rf Z9)/\(rf Z10)/\(rf Z11)/\(rf Z3)/\(rf Z2)/\(rf Z1)/\(rf Z12)))))))))))) Z5))) Z5))) (by kernel_rfl) ?_
 conv=>zeta
 delta w67 ifB vI wR nI
 have hx:Bk ((r.getD 7 (.int 0)).r):=hpre.1.1
 have ht:=hpre.2.1.1
 have ho:=hpre.2.1.2.1
 have hv:=hpre.2.1.2.2
 have hj:=hpre.2.2.1
 have hk:=hpre.2.2.2
 have hw:IntKind.i64.wrap (((((r.getD 6 (.int 0)).r).length:Nat):Int)-1)=((((r.getD 6 (.int 0)).r).length:Nat):Int)-1:=AD (by omega) (by omega)
 refine ⟨(r,j),by
  rfl,by
  show Bk ((r.getD 7 (.int 0)).r)/\j<=9223372036854775807
  first|trivial|exact ⟨hx,hj⟩|exact ⟨hx,hk⟩|exact ⟨hpre.1,Bt (hv _ (by omega))⟩|exact hv _ (by omega),?_⟩
 refine ⟨(r,k),by
  rfl,by
  show Bk ((r.getD 7 (.int 0)).r)/\k<=9223372036854775807
  first|trivial|exact ⟨hx,hj⟩|exact ⟨hx,hk⟩|exact ⟨hpre.1,Bt (hv _ (by omega))⟩|exact hv _ (by omega),?_⟩
 refine And.symm ⟨λ c7=>?_,λ c7=>?_⟩
 ·try simp only [nrm] at c7
  first|exact AF (By (.inl (by omega))).symm|exact AF (By (.inr (by omega))).symm|exact AF (Du λ i hi=>hki10.2 i (by omega)).symm|exact AF (HD (by omega) (by omega) (by omega) hki10.2 (OQ ⟨⟨by omega,by omega⟩,c62,c66⟩)).symm
 try simp only [nrm] at c7
 refine ⟨λ c8=>?_,λ c8=>?_⟩
 ·try simp only [nrm] at c8
  first|exact AF (By (.inl (by omega))).symm|exact AF (By (.inr (by omega))).symm|exact AF (Du λ i hi=>hki10.2 i (by omega)).symm|exact AF (HD (by omega) (by omega) (by omega) hki10.2 (OQ ⟨⟨by omega,by omega⟩,c62,c66⟩)).symm
 try simp only [nrm] at c8
 refine ⟨⟨0,by
  exact ⟨Nat.zero_le _,λ j hj=>absurd hj (Nat.not_lt_zero j)⟩,?_⟩,?_⟩
 ·refine ⟨rfl,rfl,rfl,rfl,rfl,?_,rfl,rfl,rfl,rfl,rfl,rfl,rfl,rfl,rfl,rfl⟩
  first|rfl|(simp;done)
 intro (n:Nat) hki10
 have hki10:n<=((r.getD 8 (.int 0)).r).length/\∀ u,u<n->Dt (Ds r) ((r.getD 6 (.int 0)).r) (hdZ ((r.getD 7 (.int 0)).r) j) (hdZ ((r.getD 7 (.int 0)).r) k) j k (((r.getD 8 (.int 0)).r).getD u [])=false:=hki10
 refine And.symm ⟨λ c28=>?_,λ c28=>?_⟩
 ·try simp only [nrm] at c28
  first|exact AF (By (.inl (by omega))).symm|exact AF (By (.inr (by omega))).symm|exact AF (Du λ i hi=>hki10.2 i (by omega)).symm|exact AF (HD (by omega) (by omega) (by omega) hki10.2 (OQ ⟨⟨by omega,by omega⟩,c62,c66⟩)).symm
 try simp only [nrm] at c28
 refine ao (by first|rfl|omega|(simp;done)|(simp;omega)) λ o29=>?_
 refine ao (by first|rfl|omega|(simp;done)|(simp;omega)) λ o30=>?_
 refine ⟨((((((r.getD 8 (.int 0)).r).getD n []).getD 0 (.int 0))).n,(0:Int),(IntKind.i64.wrap (((((r.getD 6 (.int 0)).r).length:Nat):Int)-(1:Int)))),by
  rfl,by
  first|trivial|exact ⟨hx,hj⟩|exact ⟨hx,hk⟩|exact ⟨hpre.1,Bt (hv _ (by omega))⟩|exact hv _ (by omega),?_⟩
 refine ⟨λ c34=>?_,λ c34=>?_⟩
 ·try dsimp only at c34
  try simp only [nrm] at c34
  rw [hw] at c34
  refine ⟨n+1,by
   first|exact ⟨by omega,Ag hki10.2 (Gi λ e=>by have:=e.1;omega)⟩|exact ⟨by omega,Ag hki10.2 (Gi λ e=>c62 e.2.1)⟩|exact ⟨by omega,Ag hki10.2 (Gi λ e=>c66 e.2.2)⟩,by
   first|omega|(simp;omega),?_⟩
  refine ⟨rfl,rfl,rfl,rfl,rfl,?_,rfl,rfl,rfl,rfl,rfl,rfl,rfl,rfl,rfl,rfl⟩
  first|rfl|exact AF (AD (by omega) (by omega))
 try dsimp only at c34
 try simp only [nrm] at c34
 rw [hw] at c34
 refine ao (by first|rfl|omega|(simp;done)|(simp;omega)) λ o54=>?_
 refine ao (by first|rfl|omega|(simp;done)|(simp;omega)) λ o55=>?_
 refine ⟨((((((r.getD 6 (.int 0)).r).getD ((((((r.getD 8 (.int 0)).r).getD n []).getD 0 (.int 0))).n.toNat) []).getD 0 (.int 0))).n,(((((r.getD 6 (.int 0)).r).getD ((((((r.getD 8 (.int 0)).r).getD n []).getD 0 (.int 0))).n.toNat) []).getD 1 (.int 0))).n),by
  rfl,by
  try dsimp only [C8]
  first|trivial|exact ⟨hx,hj⟩|exact ⟨hx,hk⟩|exact ⟨hpre.1,Bt (hv _ (by omega))⟩|exact hv _ (by omega),?_⟩
 refine ⟨(r,hdZ ((r.getD 7 (.int 0)).r) j,ptW (((r.getD 6 (.int 0)).r).getD (((((r.getD 8 (.int 0)).r).getD n []).getD 0 (.int 0)).n).toNat [])),by
  rfl,by
  show HE r/\(ptW (((r.getD 6 (.int 0)).r).getD (((((r.getD 8 (.int 0)).r).getD n []).getD 0 (.int 0)).n).toNat [])).good=true
  first|trivial|exact ⟨hx,hj⟩|exact ⟨hx,hk⟩|exact ⟨hpre.1,Bt (hv _ (by omega))⟩|exact hv _ (by omega),?_⟩
 refine And.symm ⟨λ c62=>?_,λ c62=>?_⟩
 ·try simp only [nrm] at c62
  refine ⟨n+1,by
   first|exact ⟨by omega,Ag hki10.2 (Gi λ e=>by have:=e.1;omega)⟩|exact ⟨by omega,Ag hki10.2 (Gi λ e=>c62 e.2.1)⟩|exact ⟨by omega,Ag hki10.2 (Gi λ e=>c66 e.2.2)⟩,by
   first|omega|(simp;omega),?_⟩
  refine ⟨rfl,rfl,rfl,rfl,rfl,?_,rfl,rfl,rfl,rfl,rfl,rfl,rfl,rfl,rfl,rfl⟩
  first|rfl|exact AF (AD (by omega) (by omega))
 try simp only [nrm] at c62
 refine ⟨(r,hdZ ((r.getD 7 (.int 0)).r) k,ptW (((r.getD 6 (.int 0)).r).getD (((((r.getD 8 (.int 0)).r).getD n []).getD 0 (.int 0)).n).toNat [])),by
  rfl,by
  show HE r/\(ptW (((r.getD 6 (.int 0)).r).getD (((((r.getD 8 (.int 0)).r).getD n []).getD 0 (.int 0)).n).toNat [])).good=true
  first|trivial|exact ⟨hx,hj⟩|exact ⟨hx,hk⟩|exact ⟨hpre.1,Bt (hv _ (by omega))⟩|exact hv _ (by omega),?_⟩
 refine ⟨λ c66=>?_,λ c66=>?_⟩
 ·try simp only [nrm] at c66
  first|exact AF (By (.inl (by omega))).symm|exact AF (By (.inr (by omega))).symm|exact AF (Du λ i hi=>hki10.2 i (by omega)).symm|exact AF (HD (by omega) (by omega) (by omega) hki10.2 (OQ ⟨⟨by omega,by omega⟩,c62,c66⟩)).symm
 try simp only [nrm] at c66
 refine ⟨n+1,by
  first|exact ⟨by omega,Ag hki10.2 (Gi λ e=>by have:=e.1;omega)⟩|exact ⟨by omega,Ag hki10.2 (Gi λ e=>c62 e.2.1)⟩|exact ⟨by omega,Ag hki10.2 (Gi λ e=>c66 e.2.2)⟩,by
  first|omega|(simp;omega),?_⟩
 refine ⟨rfl,rfl,rfl,rfl,rfl,?_,rfl,rfl,rfl,rfl,rfl,rfl,rfl,rfl,rfl,rfl⟩
 first|rfl|exact AF (AD (by omega) (by omega))
end Go.Proofs.YtmedodfenejimaaGreat
