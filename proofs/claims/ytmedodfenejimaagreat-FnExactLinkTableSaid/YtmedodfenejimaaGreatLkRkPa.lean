import Derived.Test.YtmedodfenejimaaGreatLkRkHd
import Derived.Test.YtmedodfenejimaaGreatLkRkH
namespace Go.Proofs.YtmedodfenejimaaGreat
set_option maxRecDepth 100000
set_option linter.unusedVariables false
set_option linter.unusedSimpArgs false
open Go.RowKit
def AW (r:List Dat) (o:Nat):RatD:=⟨(r.getD o (.int 0)).b,(r.getD (o+1) (.int 0)).r,(r.getD (o+2) (.int 0)).r⟩
abbrev fA (r:List Dat) (o:Nat):Fr:=frR (AW r o)
def FR (x:RatD):List Dat:=[.bool x.neg,.sl x.num,.sl x.den]
theorem OP (x:RatD):AW (FR x) 0=x:=rfl
def CT {α:Type} (p:α->Bool) (l:List α):Int:=match l.findIdx? p with|some k=>(k:Int)|none=>-1
theorem Eq {α:Type} {p:α->Bool} {l:List α} {d:α} {k:Nat} (hk:k<l.length) (h:∀ j,j<k->p (l.getD j d)=false) (hp:p (l.getD k d)=true):CT p l=(k:Int):=by
 have:l.findIdx? p=some k:=by
  rw [List.findIdx?_eq_some_iff_getElem]
  refine ⟨hk,by simpa [List.getD,hk] using hp,λ j hj=>?_⟩
  have:=h j hj
  simpa [List.getD,show j<l.length by omega] using this
 unfold CT;rw [this]
theorem Cp {α:Type} {p:α->Bool} {l:List α} {d:α} (h:∀ j,j<l.length->p (l.getD j d)=false):CT p l=-1:=by
 have:l.findIdx? p=none:=by
  rw [List.findIdx?_eq_none_iff]
  intro x hx
  obtain ⟨j,hj,rfl⟩:=List.getElem_of_mem hx
  have:=h j hj
  simpa [List.getD,hj] using this
 unfold CT;rw [this]
theorem UD {α:Type} (p:α->Bool) (l:List α):decide (CT p l≥0)=l.any p:=by
 unfold CT
 cases h:l.findIdx? p with
 | some k=>
  rw [List.findIdx?_eq_some_iff_getElem] at h
  obtain ⟨h1,h2,_⟩:=h
  have:l.any p=true:=List.any_eq_true.2 ⟨_,List.getElem_mem h1,h2⟩
  rw [this];simp
 | none=>
  rw [List.findIdx?_eq_none_iff] at h
  have:l.any p=false:=List.any_eq_false.2 λ x hx=>by rw [h x hx];simp
  rw [this];simp
theorem Q4 {α:Type} (p:α->Bool) (l:List α):-1<=CT p l/\CT p l<(l.length:Int):=by
 unfold CT
 cases h:l.findIdx? p with
 | some k=>rw [List.findIdx?_eq_some_iff_getElem] at h;obtain ⟨h1,_⟩:=h;simp only;omega
 | none=>simp only;omega
theorem Ag {P:Nat->Prop} {k:Nat} (h:∀ j,j<k->P j) (hk:P k):∀ j,j<k+1->P j:=λ j hj=>by
 by_cases e:j=k
 ·subst e;exact hk
 ·exact h j (by omega)
def okC (r:List Dat):Bool:=(okR (AW r 0) && (okR (AW r 3) && (okR (AW r 6) && (okR (AW r 9) && (okR (AW r 12) && okR (AW r 15))))))
def okW (r:List Dat):Bool:=(okR (AW r 0) && (okR (AW r 3) && okR (AW r 6)))
def Be (r:List Dat):Bool:=okC r && (decide (Fr.cmp (fA r 0) (fA r 3)<0) && (decide (Fr.cmp (fA r 6) (fA r 12)<=0) && (decide (Fr.cmp (fA r 9) (fA r 15)<=0) && decide (Fr.cmp (fA r 6) (fA r 12)+Fr.cmp (fA r 9) (fA r 15)<0))))
def CE (r:List Dat):Bool:=okW r && decide (Fr.cmp (fA r 3) (fA r 6)<0)
def inC (r:List Dat) (p:Pq):Bool:=decide (Fr.cmp p.x (fA r 0)>0) && (decide (Fr.cmp p.x (fA r 3)<0) && (decide (Gh ⟨fA r 0,fA r 6⟩ ⟨fA r 3,fA r 9⟩ p>0) && decide (Gh ⟨fA r 0,fA r 12⟩ ⟨fA r 3,fA r 15⟩ p<0)))
def inW (r:List Dat) (p:Pq):Bool:=decide (Fr.cmp p.x (fA r 0)=0) && (decide (Fr.cmp p.y (fA r 3)>0) && decide (Fr.cmp p.y (fA r 6)<0))
def Al (r:List Dat) (p:Pq):Bool:=Be r && inC r p
def Ao (r:List Dat) (p:Pq):Bool:=CE r && inW r p
def A5 (r:List Dat):Prop:=(AW r 0).has/\(AW r 3).has/\(AW r 6).has/\(AW r 9).has/\(AW r 12).has/\(AW r 15).has
def A6 (r:List Dat):Prop:=(AW r 0).has/\(AW r 3).has/\(AW r 6).has
abbrev clS (r:List Dat):List (List Dat):=(r.getD 7 (.int 0)).r
abbrev wlS (r:List Dat):List (List Dat):=(r.getD 8 (.int 0)).r
abbrev dsS (r:List Dat):List (List Dat):=(r.getD 9 (.int 0)).r
abbrev psS (r:List Dat):List (List Dat):=(r.getD 10 (.int 0)).r
def BA (r:List Dat) (p:Pq):Int:=CT (λ c=>Al c p) (clS r)
def Ac (r:List Dat) (p:Pq):Int:=CT (λ c=>Ao c p) (wlS r)
def Fs (r:List Dat) (w:Int):Int:=CT (λ d=>decide ((d.getD 1 (.int 0)).n=w)) (dsS r)
def atZ (r:List Dat) (p:Pq):Int:=if BA r p≥0 then BA r p else if Ac r p<0∨Fs r (Ac r p)<0 then -1 else (((dsS r).getD (Fs r (Ac r p)).toNat []).getD 0 (.int 0)).n
def BK (r:List Dat) (p:Pq):Int:=if 0<=atZ r p/\atZ r p<((psS r).length:Int) then (((psS r).getD (atZ r p).toNat []).getD 0 (.int 0)).n else -1
def wnZ (r:List Dat) (p:Pq):Int:=if BA r p≥0 then -1 else if Ac r p<0∨Fs r (Ac r p)<0 then -1 else Ac r p
theorem U1 (a b:Int):(a == b)=decide (a=b):=by by_cases h:a=b <;> simp [h]
section
variable {r : List Dat} {p : Pq}
theorem EB (h:0<=BA r p):atZ r p=BA r p:=by unfold atZ;rw [if_pos h]
theorem Er (h:0<=BA r p):wnZ r p=-1:=by unfold wnZ;rw [if_pos h]
theorem DE (h:BA r p<0) (h2:Ac r p<0∨Fs r (Ac r p)<0):atZ r p=-1:=by unfold atZ;rw [if_neg (by omega),if_pos h2]
theorem Dy (h:BA r p<0) (h2:Ac r p<0∨Fs r (Ac r p)<0):wnZ r p=-1:=by unfold wnZ;rw [if_neg (by omega),if_pos h2]
theorem GX (h:BA r p<0) (h2:0<=Ac r p) (h3:0<=Fs r (Ac r p)):atZ r p=(((dsS r).getD (Fs r (Ac r p)).toNat []).getD 0 (.int 0)).n:=by unfold atZ;rw [if_neg (by omega),if_neg (by omega)]
theorem HA (h:BA r p<0) (h2:0<=Ac r p) (h3:0<=Fs r (Ac r p)):wnZ r p=Ac r p:=by unfold wnZ;rw [if_neg (by omega),if_neg (by omega)]
theorem U2 {k:Nat} (h:BA r p<0) (h2:0<=Ac r p) (hk:k<(dsS r).length) (hn:∀ j,j<k->(λ d:List Dat=>decide ((d.getD 1 (.int 0)).n=Ac r p)) ((dsS r).getD j [])=false) (hd:(((dsS r).getD k []).getD 1 (.int 0)).n=Ac r p):atZ r p=(((dsS r).getD k []).getD 0 (.int 0)).n:=by
 have e:Fs r (Ac r p)=(k:Int):=Eq (d:=[]) hk hn (decide_eq_true hd)
 rw [GX h h2 (by omega),e,Int.toNat_natCast]
theorem V0 {k:Nat} (hk:k=(dsS r).length) (hn:BA r p<0/\Ac r p≥0->∀ j,j<k->(λ d:List Dat=>decide ((d.getD 1 (.int 0)).n=Ac r p)) ((dsS r).getD j [])=false):atZ r p=BA r p:=by
 by_cases h:0<=BA r p
 ·exact EB h
 ·have h1:=(Q4 (λ c=>Al c p) (clS r)).1
  have h1:-1<=BA r p:=h1
  by_cases h2:0<=Ac r p
  ·have e:Fs r (Ac r p)=-1:=Cp (d:=[]) (λ j hj=>hn ⟨by omega,h2⟩ j (by omega))
   rw [DE (by omega) (.inr (by omega))];omega
  ·rw [DE (by omega) (.inl (by omega))];omega
theorem Hh (h:¬ (0<=atZ r p/\atZ r p<((psS r).length:Int))):BK r p=-1:=by unfold BK;rw [if_neg h]
theorem Ft (h:0<=atZ r p/\atZ r p<((psS r).length:Int)):BK r p=(((psS r).getD (atZ r p).toNat []).getD 0 (.int 0)).n:=by unfold BK;rw [if_pos h]
end
def CF (r:List Dat):Prop:=(∀ k,k<(clS r).length->A5 ((clS r).getD k []))/\(∀ k,k<(wlS r).length->A6 ((wlS r).getD k []))/\(clS r).length<=1048576/\(wlS r).length<=1048576/\(dsS r).length<=1048576/\(psS r).length<=1048576
theorem EC {r:List Dat} {o:Nat} (hh:(AW r o).has) (h:okR (AW r o)=true):(AW r o).neg=decide ((fA r o).z<0)/\(AW r o).num=L (fA r o).z.natAbs/\(AW r o).den=L (fA r o).d/\(fA r o).d≠0:=Vw hh h
def Es (r:List Dat):List (List Dat):=[FR (AW r 0),FR (AW r 3),FR (AW r 6),FR (AW r 9),FR (AW r 12),FR (AW r 15)]
def Et (r:List Dat):List (List Dat):=[FR (AW r 0),FR (AW r 3),FR (AW r 6)]
theorem UE (r:List Dat):((Es r).any λ x=>!(okR (AW x 0)))=!(okC r):=by
 simp only [Es,List.any_cons,List.any_nil,OP,okC,Bool.not_and,Bool.or_false]
theorem UF (r:List Dat):((Et r).any λ x=>!(okR (AW x 0)))=!(okW r):=by
 simp only [Et,List.any_cons,List.any_nil,OP,okW,Bool.not_and,Bool.or_false]
theorem V1 {r:List Dat} (h:A5 r):∀ k,k<(Es r).length->(AW ((Es r).getD k []) 0).has:=λ k hk=>by
 obtain ⟨h0,h1,h2,h3,h4,h5⟩:=h
 have hk:k<6:=hk
 match k,hk with
 | 0,_=>exact h0
 | 1,_=>exact h1
 | 2,_=>exact h2
 | 3,_=>exact h3
 | 4,_=>exact h4
 | 5,_=>exact h5
theorem V3 {r:List Dat} (h:A6 r):∀ k,k<(Et r).length->(AW ((Et r).getD k []) 0).has:=λ k hk=>by
 obtain ⟨h0,h1,h2⟩:=h
 have hk:k<3:=hk
 match k,hk with
 | 0,_=>exact h0
 | 1,_=>exact h1
 | 2,_=>exact h2
theorem Ju {r:List Dat} (hh:A5 r) (h:okC r=true):((AW r 0).neg=decide ((fA r 0).z<0)/\(AW r 0).num=L (fA r 0).z.natAbs/\(AW r 0).den=L (fA r 0).d/\(fA r 0).d≠0)/\((AW r 3).neg=decide ((fA r 3).z<0)/\(AW r 3).num=L (fA r 3).z.natAbs/\(AW r 3).den=L (fA r 3).d/\(fA r 3).d≠0)/\((AW r 6).neg=decide ((fA r 6).z<0)/\(AW r 6).num=L (fA r 6).z.natAbs/\(AW r 6).den=L (fA r 6).d/\(fA r 6).d≠0)/\((AW r 9).neg=decide ((fA r 9).z<0)/\(AW r 9).num=L (fA r 9).z.natAbs/\(AW r 9).den=L (fA r 9).d/\(fA r 9).d≠0)/\((AW r 12).neg=decide ((fA r 12).z<0)/\(AW r 12).num=L (fA r 12).z.natAbs/\(AW r 12).den=L (fA r 12).d/\(fA r 12).d≠0)/\((AW r 15).neg=decide ((fA r 15).z<0)/\(AW r 15).num=L (fA r 15).z.natAbs/\(AW r 15).den=L (fA r 15).d/\(fA r 15).d≠0):=by
 simp only [okC,Bool.and_eq_true] at h
 obtain ⟨h0,h1,h2,h3,h4,h5⟩:=hh
 exact ⟨EC h0 h.1,EC h1 h.2.1,EC h2 h.2.2.1,EC h3 h.2.2.2.1,EC h4 h.2.2.2.2.1,EC h5 h.2.2.2.2.2⟩
theorem Jv {r:List Dat} (hh:A6 r) (h:okW r=true):((AW r 0).neg=decide ((fA r 0).z<0)/\(AW r 0).num=L (fA r 0).z.natAbs/\(AW r 0).den=L (fA r 0).d/\(fA r 0).d≠0)/\((AW r 3).neg=decide ((fA r 3).z<0)/\(AW r 3).num=L (fA r 3).z.natAbs/\(AW r 3).den=L (fA r 3).d/\(fA r 3).d≠0)/\((AW r 6).neg=decide ((fA r 6).z<0)/\(AW r 6).num=L (fA r 6).z.natAbs/\(AW r 6).den=L (fA r 6).d/\(fA r 6).d≠0):=by
 simp only [okW,Bool.and_eq_true] at h
 obtain ⟨h0,h1,h2⟩:=hh
 exact ⟨EC h0 h.1,EC h1 h.2.1,EC h2 h.2.2⟩
theorem Mx (r s:Fr):-1<=Fr.cmp r s/\Fr.cmp r s<=1:=by
 by_cases hr:r.d=0
 ·rw [Fr.cmp_bad (.inl hr)];omega
 ·by_cases hs:s.d=0
  ·rw [Fr.cmp_bad (.inr hs)];omega
  ·rw [Fr.cmp_zd hr hs];unfold Bf;split <;> (try split) <;> omega
theorem U3 {r s:Fr} (hr:r.d≠0) (hs:s.d≠0):eqF r s=decide (Fr.cmp r s=0):=by
 obtain ⟨p,hp,e1,e2⟩:=Fr.some_d hr
 obtain ⟨q,hq,e3,e4⟩:=Fr.some_d hs
 rw [Fr.cmp_zd hr hs]
 unfold eqF
 rw [e1,e2,e3,e4]
 by_cases h:p=q
 ·subst h
  have:Bf (p.num*p.den) (p.num*p.den)=0:=by unfold Bf;rw [if_neg (by omega),if_pos rfl]
  rw [this];simp
 ·have h2:p.num*q.den≠q.num*p.den:=λ e=>h (Rat.eq_iff_mul_eq_mul.2 e)
  have:¬ Bf (p.num*q.den) (q.num*p.den)=0:=by unfold Bf;split <;> simp_all
  rw [decide_eq_false this]
  cases hz:decide (p.num=q.num) with
  | false=>rfl
  | true=>
   have hz:=of_decide_eq_true hz
   rw [Bool.true_and]
   exact decide_eq_false λ e=>h (Rat.ext hz e)
theorem Q5 {p:Pq} (h:p.good=true):p.x.d≠0/\p.y.d≠0:=by
 unfold Pq.good at h
 rw [Bool.and_eq_true] at h
 exact ⟨Bx h.1,Bx h.2⟩
def Eu:Con:={ ι:=RatD,pre:=λ i=>i.has,args:=λ i=>[DA.agg [cB i.neg,cS i.num,cS i.den]],res:=λ i=>⟨false,[none],[rcB (!(okR i))]⟩ }
theorem Pg:Eu.Ok Tryz.prog 351:=by
 refine fok (X:=⟨tt,[(327,CK)],[],6,[]⟩) mixed AH (CTok.cons OB (CTok.nil _)) Tryz.func351 (λ _=>[]) ?_
 intro (x:RatD) hpre
 have hpre:x.has:=hpre
 refine AI (q:=∃ i1:Bool×(List (List Dat))×(List (List Dat)),[DA.agg [cB x.neg,cS x.num,cS x.den]]=CK.args i1/\CK.pre i1/\((vB (!(AZ i1.1 i1.2.1 i1.2.2))=vB (!(okR x))))) (by kernel_rfl) ?_
 delta vB
 refine ⟨(x.neg,x.num,x.den),by
  rfl,by
  show Dat.has (.sl 3 [.int]) (.sl x.num)/\Dat.has (.sl 3 [.int]) (.sl x.den)/\x.num.length<=9223372036854775807/\x.den.length<=9223372036854775807
  first|exact ⟨hpre.1,hpre.2,AB hpre.1,AB hpre.2⟩,?_⟩
 show Value.bool (!(AZ x.neg x.num x.den))=Value.bool (!(okR x))
 rfl
def GY:Con:={ ι:=(List (List Dat)),pre:=λ i=>i.length<=9223372036854775807/\∀ k,k<i.length->(AW (i.getD k []) 0).has,args:=λ i=>[.one (DC.sl 90 z84 i),.one (.ro (.fn 351 []))],tag:=352,res:=λ i=>⟨false,[none],[rcI (CT (λ r=>!(okR (AW r 0))) i)]⟩ }
theorem SJ:GY.Ok Tryz.prog 162:=by
 refine fok (X:=⟨tt,[(351,Eu)],[],19,[]⟩) mixed AH (CTok.cons Pg (CTok.nil _)) Tryz.func162 (λ (i:(List (List Dat)))=>[(2,.mk 3 (Nat) (λ x1=>{ tm:=[(0,tX 1),(1,tX 2),(7,tI (nI i.length)),(8,tI (nI x1))],en:=[(1,.view 90 z84 i []),(2,.ro (.fn 351 []) [])] }) (λ x1=>x1<=i.length/\∀ j,j<x1->(λ r=>!(okR (AW r 0))) (i.getD j [])=false) (λ x1=>i.length-x1) (λ _=>[]))]) ?_
 intro (l:List (List Dat)) hpre
 have hpre:l.length<=9223372036854775807/\∀ k,k<l.length->(AW (l.getD k []) 0).has:=hpre
 refine AI (q:=let Z2:=(.fn 351 []:RO)=.fn 351 [];let Z1:=CT (λ r=>!(okR (AW r 0))) l;(∃ x1:Nat,(x1<=l.length/\∀ j,j<x1->(λ r=>!(okR (AW r 0))) (l.getD j [])=false)/\((rf (vI (nI l.length)))/\(vI (0:Int)=vI (nI x1))/\(rf (l))/\Z2))/\∀ x1:Nat,let Z3:=l.getD x1 [];(x1<=l.length/\∀ j,j<x1->(λ r=>!(okR (AW r 0))) (l.getD j [])=false)->(ifB ((decide ((nI x1)<(nI l.length)))) ((0<=(nI x1)/\(nI x1)<(l.length:Int))/\((x1<l.length)/\(∃ i1:RatD,[DA.agg [cB (((Z3.getD 0 (.int 0))).b),cS (((Z3.getD 1 (.int 0))).r),cS (((Z3.getD 2 (.int 0))).r)]]=Eu.args i1/\Eu.pre i1/\(ifB ((!(okR i1))) ((vI (nI x1)=vI Z1)) (∃ y2:Nat,(y2<=l.length/\∀ j,j<y2->(λ r=>!(okR (AW r 0))) (l.getD j [])=false)/\(l.length-y2<l.length-x1)/\((rf (vI (nI l.length)))/\(vI (wR ((nI x1)+(1:Int)))=vI (nI y2))/\(rf (l))/\Z2)))))) ((vI (-1:Int)=vI Z1)))) (by kernel_rfl) ?_
 conv=>zeta
 delta ifB vI wR nI
 refine ⟨⟨0,by
  exact ⟨Nat.zero_le _,λ j hj=>absurd hj (Nat.not_lt_zero j)⟩,?_⟩,?_⟩
 ·refine ⟨rfl,?_,rfl,?_⟩
  ·first|rfl|(simp;done)
  first|rfl|(simp;done)
 intro (k:Nat) hki1
 have hki1:k<=l.length/\∀ j,j<k->(λ r=>!(okR (AW r 0))) (l.getD j [])=false:=hki1
 refine And.symm ⟨λ c7=>?_,λ c7=>?_⟩
 ·try simp only [nrm] at c7
  rw [Cp (d:=[]) (λ j hj=>hki1.2 j (by omega))]
 try simp only [nrm] at c7
 refine ao (by first|rfl|omega|(simp;done)|(simp;omega)) λ o8=>?_
 refine ao (by first|rfl|omega|(simp;done)|(simp;omega)) λ o9=>?_
 refine ⟨(AW (l.getD k []) 0),by
  rfl,by
  show (AW (l.getD k []) 0).has
  exact hpre.2 k (by omega),?_⟩
 refine ⟨λ c13=>?_,λ c13=>?_⟩
 ·try simp only [nrm] at c13
  rw [Eq (d:=[]) (k:=k) (by omega) hki1.2 (by show (!(okR (AW (l.getD k []) 0)))=true;rw [c13];rfl)]
 try simp only [nrm] at c13
 refine ⟨k+1,by
  exact ⟨by omega,Ag hki1.2 (by show (!(okR (AW (l.getD k []) 0)))=false;rw [c13];rfl)⟩,by
  first|omega|(simp;omega),?_⟩
 refine ⟨rfl,?_,rfl,?_⟩
 ·first|rfl|exact AF (AD (by omega) (by omega))
 first|rfl|exact AF (AD (by omega) (by omega))
def Ev:Con:={ ι:=(List (List Dat)),pre:=λ i=>i.length<=9223372036854775807/\∀ k,k<i.length->(AW (i.getD k []) 0).has,args:=λ i=>[.one (DC.sl 90 z84 i),.one (.ro (.fn 351 []))],tag:=352,res:=λ i=>⟨false,[none],[rcB (i.any (λ r=>!(okR (AW r 0))))]⟩ }
theorem Ph:Ev.Ok Tryz.prog 350:=by
 refine fok (X:=⟨tt,[(162,GY)],[],9,[]⟩) mixed AH (CTok.cons SJ (CTok.nil _)) Tryz.func350 (λ _=>[]) ?_
 intro (l:List (List Dat)) hpre
 have hpre:l.length<=9223372036854775807/\∀ k,k<l.length->(AW (l.getD k []) 0).has:=hpre
 refine AI (q:=∃ i1:(List (List Dat)),[DA.one (DC.sl 90 z84 l),DA.one (DC.ro (.fn 351 []))]=GY.args i1/\GY.pre i1/\((vB (decide ((CT (λ r=>!(okR (AW r 0))) i1)≥(0:Int)))=vB (l.any (λ r=>!(okR (AW r 0))))))) (by kernel_rfl) ?_
 delta vB
 refine ⟨l,by
  rfl,by
  exact hpre,?_⟩
 exact congrArg Value.bool (UD _ _)
def CG:Con:={ ι:=(List (List Dat)),pre:=λ i=>i.length<=9223372036854775807/\∀ k,k<i.length->(AW (i.getD k []) 0).has,args:=λ i=>[.one (DC.sl 90 z84 i)],res:=λ i=>⟨false,[none],[rcB (!(i.any (λ r=>!(okR (AW r 0)))))]⟩ }
theorem LI:CG.Ok Tryz.prog 332:=by
 refine fok (X:=⟨tt,[(350,Ev)],[],6,[]⟩) mixed AH (CTok.cons Ph (CTok.nil _)) Tryz.func332 (λ _=>[]) ?_
 intro (l:List (List Dat)) hpre
 have hpre:l.length<=9223372036854775807/\∀ k,k<l.length->(AW (l.getD k []) 0).has:=hpre
 refine AI (q:=∃ i1:(List (List Dat)),[DA.one (DC.sl 90 z84 l),DA.one (DC.ro (.fn 351 []))]=Ev.args i1/\Ev.pre i1/\((vB (!(i1.any (λ r=>!(okR (AW r 0)))))=vB (!(l.any (λ r=>!(okR (AW r 0)))))))) (by kernel_rfl) ?_
 delta vB
 refine ⟨l,by
  rfl,by
  exact hpre,?_⟩
 exact rfl
def GZ:Con:={ ι:=(List Dat),pre:=λ i=>A5 i,args:=λ i=>[Gy i],res:=λ i=>⟨false,[none],[rcB (Be i)]⟩ }
theorem SK:GZ.Ok Tryz.prog 284:=by
 refine fok (X:=⟨tt,[(332,CG),(153,Ae)],[],50,[]⟩) mixed AH (CTok.cons LI (CTok.cons Hd (CTok.nil _))) Tryz.func284 (λ _=>[]) ?_
 intro (r:List Dat) hpre
 have hpre:A5 r:=hpre
 refine AI (q:=let Z1:=(vB false=vB (Be r));∃ i1:(List (List Dat)),[DA.one (DC.sl 90 z84 ([[Dat.bool ((r.getD 0 (.int 0)).b),Dat.sl ((r.getD 1 (.int 0)).r),Dat.sl ((r.getD 2 (.int 0)).r)],[Dat.bool ((r.getD 3 (.int 0)).b),Dat.sl ((r.getD 4 (.int 0)).r),Dat.sl ((r.getD 5 (.int 0)).r)],[Dat.bool ((r.getD 6 (.int 0)).b),Dat.sl ((r.getD 7 (.int 0)).r),Dat.sl ((r.getD 8 (.int 0)).r)],[Dat.bool ((r.getD 9 (.int 0)).b),Dat.sl ((r.getD 10 (.int 0)).r),Dat.sl ((r.getD 11 (.int 0)).r)],[Dat.bool ((r.getD 12 (.int 0)).b),Dat.sl ((r.getD 13 (.int 0)).r),Dat.sl ((r.getD 14 (.int 0)).r)],[Dat.bool ((r.getD 15 (.int 0)).b),Dat.sl ((r.getD 16 (.int 0)).r),Dat.sl ((r.getD 17 (.int 0)).r)]]:List (List Dat)))]=CG.args i1/\CG.pre i1/\(ifB ((!(!(!(i1.any (λ r=>!(okR (AW r 0)))))))) (∃ i2:Fr×Fr,[w84 r,dA r 3 4 5]=Ae.args i2/\Ae.pre i2/\(ifB ((decide ((Fr.cmp i2.1 i2.2)≥(0:Int)))) Z1 (∃ i3:Fr×Fr,[dA r 6 7 8,dA r 12 13 14]=Ae.args i3/\Ae.pre i3/\(∃ i4:Fr×Fr,[dA r 9 10 11,dA r 15 16 17]=Ae.args i4/\Ae.pre i4/\(ifB ((decide ((Fr.cmp i3.1 i3.2)<=(0:Int)))) (ifB ((decide ((Fr.cmp i4.1 i4.2)<=(0:Int)))) ((vB (decide ((wR ((Fr.cmp i3.1 i3.2)+(Fr.cmp i4.1 i4.2)))<(0:Int)))=vB (Be r))) Z1) Z1))))) Z1)) (by kernel_rfl) ?_
 conv=>zeta
 delta dA w84 ifB vB wR
 have hh:=hpre
 refine ⟨(Es r),by
  first|rfl|(simp only [a0,a1,a2,a3,a4,a5,a6,a7,a8,a9,a10,a11,a12,a13,a14,a15,a16,a17];rfl),by
  show (Es r).length<=9223372036854775807/\∀ k,k<(Es r).length->(AW ((Es r).getD k []) 0).has
  exact ⟨Nat.le_of_ble_eq_true rfl,V1 hpre⟩,?_⟩
 refine And.symm ⟨λ c4=>?_,λ c4=>?_⟩
 ·try simp only [nrm] at c4
  have q:okC r=false:=by have h:=UE r;rw [c4] at h;simpa using h.symm
  have hE:Be r=false:=by unfold Be;rw [q];rfl
  rw [hE]
 try simp only [nrm] at c4
 have q:okC r=true:=by have h:=UE r;rw [c4] at h;simpa using h.symm
 have hq:(((r.getD 0 (.int 0)).b=decide ((fA r 0).z<0))/\((r.getD 1 (.int 0)).r=L (fA r 0).z.natAbs)/\((r.getD 2 (.int 0)).r=L (fA r 0).d)/\(fA r 0).d≠0)/\(((r.getD 3 (.int 0)).b=decide ((fA r 3).z<0))/\((r.getD 4 (.int 0)).r=L (fA r 3).z.natAbs)/\((r.getD 5 (.int 0)).r=L (fA r 3).d)/\(fA r 3).d≠0)/\(((r.getD 6 (.int 0)).b=decide ((fA r 6).z<0))/\((r.getD 7 (.int 0)).r=L (fA r 6).z.natAbs)/\((r.getD 8 (.int 0)).r=L (fA r 6).d)/\(fA r 6).d≠0)/\(((r.getD 9 (.int 0)).b=decide ((fA r 9).z<0))/\((r.getD 10 (.int 0)).r=L (fA r 9).z.natAbs)/\((r.getD 11 (.int 0)).r=L (fA r 9).d)/\(fA r 9).d≠0)/\(((r.getD 12 (.int 0)).b=decide ((fA r 12).z<0))/\((r.getD 13 (.int 0)).r=L (fA r 12).z.natAbs)/\((r.getD 14 (.int 0)).r=L (fA r 12).d)/\(fA r 12).d≠0)/\(((r.getD 15 (.int 0)).b=decide ((fA r 15).z<0))/\((r.getD 16 (.int 0)).r=L (fA r 15).z.natAbs)/\((r.getD 17 (.int 0)).r=L (fA r 15).d)/\(fA r 15).d≠0):=Ju hh q
 obtain ⟨⟨a0,a1,a2,g0⟩,⟨a3,a4,a5,g3⟩,⟨a6,a7,a8,g6⟩,⟨a9,a10,a11,g9⟩,⟨a12,a13,a14,g12⟩,⟨a15,a16,a17,g15⟩⟩:=hq
 have hV:Be r=(decide (Fr.cmp (fA r 0) (fA r 3)<0) && (decide (Fr.cmp (fA r 6) (fA r 12)<=0) && (decide (Fr.cmp (fA r 9) (fA r 15)<=0) && decide (Fr.cmp (fA r 6) (fA r 12)+Fr.cmp (fA r 9) (fA r 15)<0)))):=by unfold Be;rw [q,Bool.true_and]
 have b1:=Mx (fA r 6) (fA r 12)
 have b2:=Mx (fA r 9) (fA r 15)
 
 refine ⟨((fA r 0),(fA r 3)),by
  first|rfl|(simp only [a0,a1,a2,a3,a4,a5,a6,a7,a8,a9,a10,a11,a12,a13,a14,a15,a16,a17];rfl),by
  first|trivial|(first|omega|assumption|exact hpre.1|exact hpre.2|(simp;done)),?_⟩
 refine ⟨λ c8=>?_,λ c8=>?_⟩
 ·try simp only [nrm] at c8
  exact congrArg Value.bool (by rw [hV];simp_all;try omega)
 try simp only [nrm] at c8
 refine ⟨((fA r 6),(fA r 12)),by
  first|rfl|(simp only [a0,a1,a2,a3,a4,a5,a6,a7,a8,a9,a10,a11,a12,a13,a14,a15,a16,a17];rfl),by
  first|trivial|(first|omega|assumption|exact hpre.1|exact hpre.2|(simp;done)),?_⟩
 refine ⟨((fA r 9),(fA r 15)),by
  first|rfl|(simp only [a0,a1,a2,a3,a4,a5,a6,a7,a8,a9,a10,a11,a12,a13,a14,a15,a16,a17];rfl),by
  first|trivial|(first|omega|assumption|exact hpre.1|exact hpre.2|(simp;done)),?_⟩
 refine And.symm ⟨λ c16=>?_,λ c16=>?_⟩
 ·try simp only [nrm] at c16
  exact congrArg Value.bool (by rw [hV];simp_all;try omega)
 try simp only [nrm] at c16
 refine And.symm ⟨λ c17=>?_,λ c17=>?_⟩
 ·try simp only [nrm] at c17
  exact congrArg Value.bool (by rw [hV];simp_all;try omega)
 try simp only [nrm] at c17
 show Value.bool (decide ((IntKind.i64.wrap ((Fr.cmp (fA r 6) (fA r 12))+(Fr.cmp (fA r 9) (fA r 15))))<(0:Int)))=Value.bool (Be r)
 exact congrArg Value.bool (by rw [hV,AD (by omega) (by omega)];simp_all)
def Ga:Con:={ ι:=(List Dat),pre:=λ i=>A6 i,args:=λ i=>[Gx i],res:=λ i=>⟨false,[none],[rcB (CE i)]⟩ }
theorem SL:Ga.Ok Tryz.prog 286:=by
 refine fok (X:=⟨tt,[(332,CG),(153,Ae)],[],19,[]⟩) mixed AH (CTok.cons LI (CTok.cons Hd (CTok.nil _))) Tryz.func286 (λ _=>[]) ?_
 intro (r:List Dat) hpre
 have hpre:A6 r:=hpre
 refine AI (q:=∃ i1:(List (List Dat)),[DA.one (DC.sl 90 z84 ([[Dat.bool ((r.getD 0 (.int 0)).b),Dat.sl ((r.getD 1 (.int 0)).r),Dat.sl ((r.getD 2 (.int 0)).r)],[Dat.bool ((r.getD 3 (.int 0)).b),Dat.sl ((r.getD 4 (.int 0)).r),Dat.sl ((r.getD 5 (.int 0)).r)],[Dat.bool ((r.getD 6 (.int 0)).b),Dat.sl ((r.getD 7 (.int 0)).r),Dat.sl ((r.getD 8 (.int 0)).r)]]:List (List Dat)))]=CG.args i1/\CG.pre i1/\(ifB ((!(i1.any (λ r=>!(okR (AW r 0)))))) (∃ i2:Fr×Fr,[dA r 3 4 5,dA r 6 7 8]=Ae.args i2/\Ae.pre i2/\((vB (decide ((Fr.cmp i2.1 i2.2)<(0:Int)))=vB (CE r)))) ((vB false=vB (CE r))))) (by kernel_rfl) ?_
 delta dA ifB vB
 have hh:=hpre
 refine ⟨(Et r),by
  first|rfl|(simp only [a0,a1,a2,a3,a4,a5,a6,a7,a8];rfl),by
  show (Et r).length<=9223372036854775807/\∀ k,k<(Et r).length->(AW ((Et r).getD k []) 0).has
  exact ⟨Nat.le_of_ble_eq_true rfl,V3 hpre⟩,?_⟩
 refine And.symm ⟨λ c4=>?_,λ c4=>?_⟩
 ·try simp only [nrm] at c4
  have q:okW r=false:=by have h:=UF r;rw [c4] at h;simpa using h.symm
  exact congrArg Value.bool (by unfold CE;rw [q];rfl)
 try simp only [nrm] at c4
 have q:okW r=true:=by have h:=UF r;rw [c4] at h;simpa using h.symm
 have hq:(((r.getD 0 (.int 0)).b=decide ((fA r 0).z<0))/\((r.getD 1 (.int 0)).r=L (fA r 0).z.natAbs)/\((r.getD 2 (.int 0)).r=L (fA r 0).d)/\(fA r 0).d≠0)/\(((r.getD 3 (.int 0)).b=decide ((fA r 3).z<0))/\((r.getD 4 (.int 0)).r=L (fA r 3).z.natAbs)/\((r.getD 5 (.int 0)).r=L (fA r 3).d)/\(fA r 3).d≠0)/\(((r.getD 6 (.int 0)).b=decide ((fA r 6).z<0))/\((r.getD 7 (.int 0)).r=L (fA r 6).z.natAbs)/\((r.getD 8 (.int 0)).r=L (fA r 6).d)/\(fA r 6).d≠0):=Jv hh q
 obtain ⟨⟨a0,a1,a2,g0⟩,⟨a3,a4,a5,g3⟩,⟨a6,a7,a8,g6⟩⟩:=hq
 
 refine ⟨((fA r 3),(fA r 6)),by
  first|rfl|(simp only [a0,a1,a2,a3,a4,a5,a6,a7,a8];rfl),by
  first|trivial|(first|omega|assumption|exact hpre.1|exact hpre.2|(simp;done)),?_⟩
 show Value.bool (decide ((Fr.cmp (fA r 3) (fA r 6))<(0:Int)))=Value.bool (CE r)
 exact congrArg Value.bool (by unfold CE;rw [q];rfl)
def Ia:Con:={ ι:=(List Dat)×Pq,pre:=λ i=>A5 i.1/\okC i.1=true,args:=λ i=>[Gy i.1,dP i.2],res:=λ i=>⟨false,[none],[rcB (inC i.1 i.2)]⟩ }
theorem U4:Ia.Ok Tryz.prog 285:=by
 refine fok (X:=⟨tt,[(153,Ae),(328,Fq)],[],55,[]⟩) mixed AH (CTok.cons Hd (CTok.cons Ux (CTok.nil _))) Tryz.func285 (λ _=>[]) ?_
 rintro ⟨r,p⟩ hpre
 have hpre:A5 r/\okC r=true:=hpre
 refine AI (q:=let Z1:=(vB false=vB (inC r p));∃ i1:Fr×Fr,[dF p.x,w84 r]=Ae.args i1/\Ae.pre i1/\(ifB ((!(decide ((Fr.cmp i1.1 i1.2)<=(0:Int))))) (∃ i2:Fr×Fr,[dF p.x,dA r 3 4 5]=Ae.args i2/\Ae.pre i2/\(ifB ((decide ((Fr.cmp i2.1 i2.2)≥(0:Int)))) Z1 (∃ i3:Pq×Pq×Pq,[DA.agg [cB ((r.getD 0 (.int 0)).b),cS ((r.getD 1 (.int 0)).r),cS ((r.getD 2 (.int 0)).r),cB ((r.getD 6 (.int 0)).b),cS ((r.getD 7 (.int 0)).r),cS ((r.getD 8 (.int 0)).r)],DA.agg [cB ((r.getD 3 (.int 0)).b),cS ((r.getD 4 (.int 0)).r),cS ((r.getD 5 (.int 0)).r),cB ((r.getD 9 (.int 0)).b),cS ((r.getD 10 (.int 0)).r),cS ((r.getD 11 (.int 0)).r)],dP p]=Fq.args i3/\Fq.pre i3/\(ifB ((decide ((Gh i3.1 i3.2.1 i3.2.2)>(0:Int)))) (∃ i4:Pq×Pq×Pq,[DA.agg [cB ((r.getD 0 (.int 0)).b),cS ((r.getD 1 (.int 0)).r),cS ((r.getD 2 (.int 0)).r),cB ((r.getD 12 (.int 0)).b),cS ((r.getD 13 (.int 0)).r),cS ((r.getD 14 (.int 0)).r)],DA.agg [cB ((r.getD 3 (.int 0)).b),cS ((r.getD 4 (.int 0)).r),cS ((r.getD 5 (.int 0)).r),cB ((r.getD 15 (.int 0)).b),cS ((r.getD 16 (.int 0)).r),cS ((r.getD 17 (.int 0)).r)],dP p]=Fq.args i4/\Fq.pre i4/\((vB (decide ((Gh i4.1 i4.2.1 i4.2.2)<(0:Int)))=vB (inC r p)))) Z1)))) Z1)) (by kernel_rfl) ?_
 conv=>zeta
 delta dA w84 ifB vB
 have hh:=hpre.1
 have q:=hpre.2
 have hq:(((r.getD 0 (.int 0)).b=decide ((fA r 0).z<0))/\((r.getD 1 (.int 0)).r=L (fA r 0).z.natAbs)/\((r.getD 2 (.int 0)).r=L (fA r 0).d)/\(fA r 0).d≠0)/\(((r.getD 3 (.int 0)).b=decide ((fA r 3).z<0))/\((r.getD 4 (.int 0)).r=L (fA r 3).z.natAbs)/\((r.getD 5 (.int 0)).r=L (fA r 3).d)/\(fA r 3).d≠0)/\(((r.getD 6 (.int 0)).b=decide ((fA r 6).z<0))/\((r.getD 7 (.int 0)).r=L (fA r 6).z.natAbs)/\((r.getD 8 (.int 0)).r=L (fA r 6).d)/\(fA r 6).d≠0)/\(((r.getD 9 (.int 0)).b=decide ((fA r 9).z<0))/\((r.getD 10 (.int 0)).r=L (fA r 9).z.natAbs)/\((r.getD 11 (.int 0)).r=L (fA r 9).d)/\(fA r 9).d≠0)/\(((r.getD 12 (.int 0)).b=decide ((fA r 12).z<0))/\((r.getD 13 (.int 0)).r=L (fA r 12).z.natAbs)/\((r.getD 14 (.int 0)).r=L (fA r 12).d)/\(fA r 12).d≠0)/\(((r.getD 15 (.int 0)).b=decide ((fA r 15).z<0))/\((r.getD 16 (.int 0)).r=L (fA r 15).z.natAbs)/\((r.getD 17 (.int 0)).r=L (fA r 15).d)/\(fA r 15).d≠0):=Ju hh q
 obtain ⟨⟨a0,a1,a2,g0⟩,⟨a3,a4,a5,g3⟩,⟨a6,a7,a8,g6⟩,⟨a9,a10,a11,g9⟩,⟨a12,a13,a14,g12⟩,⟨a15,a16,a17,g15⟩⟩:=hq
 refine ⟨(p.x,(fA r 0)),by
  first|rfl|(simp only [a0,a1,a2,a3,a4,a5,a6,a7,a8,a9,a10,a11,a12,a13,a14,a15,a16,a17];rfl),by
  first|trivial|(first|omega|assumption|exact hpre.1|exact hpre.2|(simp;done)),?_⟩
 refine And.symm ⟨λ c4=>?_,λ c4=>?_⟩
 ·try simp only [nrm] at c4
  exact congrArg Value.bool (by unfold inC;simp_all;try omega)
 try simp only [nrm] at c4
 refine ⟨(p.x,(fA r 3)),by
  first|rfl|(simp only [a0,a1,a2,a3,a4,a5,a6,a7,a8,a9,a10,a11,a12,a13,a14,a15,a16,a17];rfl),by
  first|trivial|(first|omega|assumption|exact hpre.1|exact hpre.2|(simp;done)),?_⟩
 refine ⟨λ c8=>?_,λ c8=>?_⟩
 ·try simp only [nrm] at c8
  exact congrArg Value.bool (by unfold inC;simp_all;try omega)
 try simp only [nrm] at c8
 refine ⟨((⟨(fA r 0),(fA r 6)⟩:Pq),(⟨(fA r 3),(fA r 9)⟩:Pq),p),by
  first|rfl|(simp only [a0,a1,a2,a3,a4,a5,a6,a7,a8,a9,a10,a11,a12,a13,a14,a15,a16,a17];rfl),by
  first|trivial|(first|omega|assumption|exact hpre.1|exact hpre.2|(simp;done)),?_⟩
 refine And.symm ⟨λ c13=>?_,λ c13=>?_⟩
 ·try simp only [nrm] at c13
  exact congrArg Value.bool (by unfold inC;simp_all;try omega)
 try simp only [nrm] at c13
 refine ⟨((⟨(fA r 0),(fA r 12)⟩:Pq),(⟨(fA r 3),(fA r 15)⟩:Pq),p),by
  first|rfl|(simp only [a0,a1,a2,a3,a4,a5,a6,a7,a8,a9,a10,a11,a12,a13,a14,a15,a16,a17];rfl),by
  first|trivial|(first|omega|assumption|exact hpre.1|exact hpre.2|(simp;done)),?_⟩
 show Value.bool (decide ((Gh (⟨(fA r 0),(fA r 12)⟩:Pq) (⟨(fA r 3),(fA r 15)⟩:Pq) p)<(0:Int)))=Value.bool (inC r p)
 exact congrArg Value.bool (by unfold inC;simp_all;try omega)
def Ib:Con:={ ι:=(List Dat)×Pq,pre:=λ i=>A6 i.1/\okW i.1=true/\i.2.good=true,args:=λ i=>[Gx i.1,dP i.2],res:=λ i=>⟨false,[none],[rcB (inW i.1 i.2)]⟩ }
theorem U5:Ib.Ok Tryz.prog 287:=by
 refine fok (X:=⟨tt,[(109,D9),(153,Ae)],[],26,[]⟩) mixed AH (CTok.cons OK (CTok.cons Hd (CTok.nil _))) Tryz.func287 (λ _=>[]) ?_
 rintro ⟨r,p⟩ hpre
 have hpre:A6 r/\okW r=true/\p.good=true:=hpre
 refine AI (q:=let Z1:=(vB false=vB (inW r p));∃ i1:Fr×Fr,[dF p.x,w84 r]=D9.args i1/\D9.pre i1/\(ifB ((eqF i1.1 i1.2)) (∃ i2:Fr×Fr,[dF p.y,dA r 3 4 5]=Ae.args i2/\Ae.pre i2/\(ifB ((decide ((Fr.cmp i2.1 i2.2)>(0:Int)))) (∃ i3:Fr×Fr,[dF p.y,dA r 6 7 8]=Ae.args i3/\Ae.pre i3/\((vB (decide ((Fr.cmp i3.1 i3.2)<(0:Int)))=vB (inW r p)))) Z1)) Z1)) (by kernel_rfl) ?_
 conv=>zeta
 delta dA w84 ifB vB
 have hh:=hpre.1
 have q:=hpre.2.1
 have hg:=Q5 hpre.2.2
 have hq:(((r.getD 0 (.int 0)).b=decide ((fA r 0).z<0))/\((r.getD 1 (.int 0)).r=L (fA r 0).z.natAbs)/\((r.getD 2 (.int 0)).r=L (fA r 0).d)/\(fA r 0).d≠0)/\(((r.getD 3 (.int 0)).b=decide ((fA r 3).z<0))/\((r.getD 4 (.int 0)).r=L (fA r 3).z.natAbs)/\((r.getD 5 (.int 0)).r=L (fA r 3).d)/\(fA r 3).d≠0)/\(((r.getD 6 (.int 0)).b=decide ((fA r 6).z<0))/\((r.getD 7 (.int 0)).r=L (fA r 6).z.natAbs)/\((r.getD 8 (.int 0)).r=L (fA r 6).d)/\(fA r 6).d≠0):=Jv hh q
 obtain ⟨⟨a0,a1,a2,g0⟩,⟨a3,a4,a5,g3⟩,⟨a6,a7,a8,g6⟩⟩:=hq
 have hE:=U3 hg.1 g0
 refine ⟨(p.x,(fA r 0)),by
  first|rfl|(simp only [a0,a1,a2,a3,a4,a5,a6,a7,a8];rfl),by
  first|trivial|(first|omega|assumption|exact hpre.1|exact hpre.2|(simp;done)),?_⟩
 refine And.symm ⟨λ c4=>?_,λ c4=>?_⟩
 ·try simp only [nrm] at c4
  exact congrArg Value.bool (by unfold inW;rw [← hE];simp_all;try omega)
 try simp only [nrm] at c4
 refine ⟨(p.y,(fA r 3)),by
  first|rfl|(simp only [a0,a1,a2,a3,a4,a5,a6,a7,a8];rfl),by
  first|trivial|(first|omega|assumption|exact hpre.1|exact hpre.2|(simp;done)),?_⟩
 refine And.symm ⟨λ c8=>?_,λ c8=>?_⟩
 ·try simp only [nrm] at c8
  exact congrArg Value.bool (by unfold inW;rw [← hE];simp_all;try omega)
 try simp only [nrm] at c8
 refine ⟨(p.y,(fA r 6)),by
  first|rfl|(simp only [a0,a1,a2,a3,a4,a5,a6,a7,a8];rfl),by
  first|trivial|(first|omega|assumption|exact hpre.1|exact hpre.2|(simp;done)),?_⟩
 show Value.bool (decide ((Fr.cmp p.y (fA r 6))<(0:Int)))=Value.bool (inW r p)
 exact congrArg Value.bool (by unfold inW;rw [← hE];simp_all;try omega)
def Ew:Con:={ ι:=(List Dat)×Pq,pre:=λ i=>A5 i.1/\i.2.good=true,args:=λ i=>[Gy i.1,dP i.2],res:=λ i=>⟨false,[none],[rcB (Al i.1 i.2)]⟩ }
theorem Pi:Ew.Ok Tryz.prog 246:=by
 refine fok (X:=⟨tt,[(284,GZ),(242,Bd),(285,Ia)],[],17,[]⟩) mixed AH (CTok.cons SK (CTok.cons IZ (CTok.cons U4 (CTok.nil _)))) Tryz.func246 (λ _=>[]) ?_
 rintro ⟨r,p⟩ hpre
 have hpre:A5 r/\p.good=true:=hpre
 refine AI (q:=let Z1:=(vB false=vB (Al r p));∃ i1:(List Dat),[Gy r]=GZ.args i1/\GZ.pre i1/\(ifB ((Be i1)) (∃ i2:(List (List Dat)),[DA.one (DC.sl 110 Ne ([[Dat.bool (decide (p.x.z<0)),Dat.sl (L p.x.z.natAbs),Dat.sl (L p.x.d),Dat.bool (decide (p.y.z<0)),Dat.sl (L p.y.z.natAbs),Dat.sl (L p.y.d)]]:List (List Dat)))]=Bd.args i2/\Bd.pre i2/\(ifB ((!(i2.any (λ r=>!(okP (C9 r)))))) (∃ i3:(List Dat)×Pq,[Gy r,dP p]=Ia.args i3/\Ia.pre i3/\((vB (inC i3.1 i3.2)=vB (Al r p)))) Z1)) Z1)) (by kernel_rfl) ?_
 conv=>zeta
 delta Gy ifB vB
 refine ⟨r,by
  rfl,by
  exact hpre.1,?_⟩
 refine And.symm ⟨λ c4=>?_,λ c4=>?_⟩
 ·try simp only [nrm] at c4
  exact congrArg Value.bool (by unfold Al;rw [c4];rfl)
 try simp only [nrm] at c4
 have q:okC r=true:=by unfold Be at c4;rw [Bool.and_eq_true] at c4;exact c4.1
 refine ⟨[ptD (ptQ p)],by
  rfl,by
  show [ptD (ptQ p)].length<=9223372036854775807/\∀ k,k < [ptD (ptQ p)].length->(C9 ([ptD (ptQ p)].getD k [])).has
  exact ⟨Nat.le_of_ble_eq_true rfl,Q0 (p:=ptQ p) (Js p)⟩,?_⟩
 refine And.symm ⟨λ c8=>?_,λ c8=>?_⟩
 ·try simp only [nrm] at c8
  have hp:=(Wu (ptQ p)).symm
  rw [Mv,hpre.2] at hp
  rw [← hp] at c8
  cases c8 -- done
 try simp only [nrm] at c8
 refine ⟨(r,p),by
  rfl,by
  show A5 r/\okC r=true
  exact ⟨hpre.1,q⟩,?_⟩
 show Value.bool (inC r p)=Value.bool (Al r p)
 exact congrArg Value.bool (by unfold Al;rw [c4];rfl)
def Ex:Con:={ ι:=(List Dat)×Pq,pre:=λ i=>A6 i.1/\i.2.good=true,args:=λ i=>[Gx i.1,dP i.2],res:=λ i=>⟨false,[none],[rcB (Ao i.1 i.2)]⟩ }
theorem Pj:Ex.Ok Tryz.prog 249:=by
 refine fok (X:=⟨tt,[(286,Ga),(242,Bd),(287,Ib)],[],17,[]⟩) mixed AH (CTok.cons SL (CTok.cons IZ (CTok.cons U5 (CTok.nil _)))) Tryz.func249 (λ _=>[]) ?_
 rintro ⟨r,p⟩ hpre
 have hpre:A6 r/\p.good=true:=hpre
 refine AI (q:=let Z1:=(vB false=vB (Ao r p));∃ i1:(List Dat),[Gx r]=Ga.args i1/\Ga.pre i1/\(ifB ((CE i1)) (∃ i2:(List (List Dat)),[DA.one (DC.sl 110 Ne ([[Dat.bool (decide (p.x.z<0)),Dat.sl (L p.x.z.natAbs),Dat.sl (L p.x.d),Dat.bool (decide (p.y.z<0)),Dat.sl (L p.y.z.natAbs),Dat.sl (L p.y.d)]]:List (List Dat)))]=Bd.args i2/\Bd.pre i2/\(ifB ((!(i2.any (λ r=>!(okP (C9 r)))))) (∃ i3:(List Dat)×Pq,[Gx r,dP p]=Ib.args i3/\Ib.pre i3/\((vB (inW i3.1 i3.2)=vB (Ao r p)))) Z1)) Z1)) (by kernel_rfl) ?_
 conv=>zeta
 delta Gx ifB vB
 refine ⟨r,by
  rfl,by
  exact hpre.1,?_⟩
 refine And.symm ⟨λ c4=>?_,λ c4=>?_⟩
 ·try simp only [nrm] at c4
  exact congrArg Value.bool (by unfold Ao;rw [c4];rfl)
 try simp only [nrm] at c4
 have q:okW r=true:=by unfold CE at c4;rw [Bool.and_eq_true] at c4;exact c4.1
 refine ⟨[ptD (ptQ p)],by
  rfl,by
  show [ptD (ptQ p)].length<=9223372036854775807/\∀ k,k < [ptD (ptQ p)].length->(C9 ([ptD (ptQ p)].getD k [])).has
  exact ⟨Nat.le_of_ble_eq_true rfl,Q0 (p:=ptQ p) (Js p)⟩,?_⟩
 refine And.symm ⟨λ c8=>?_,λ c8=>?_⟩
 ·try simp only [nrm] at c8
  have hp:=(Wu (ptQ p)).symm
  rw [Mv,hpre.2] at hp
  rw [← hp] at c8
  cases c8 -- done
 try simp only [nrm] at c8
 refine ⟨(r,p),by
  rfl,by
  show A6 r/\okW r=true/\p.good=true
  exact ⟨hpre.1,q,hpre.2⟩,?_⟩
 show Value.bool (inW r p)=Value.bool (Ao r p)
 exact congrArg Value.bool (by unfold Ao;rw [c4];rfl)
def Gb:Con:={ ι:=(List Dat),pre:=λ i=>A5 i,args:=λ i=>[Gy i],res:=λ i=>⟨false,[none],[rcB (Be i)]⟩ }
theorem SM:Gb.Ok Tryz.prog 237:=by
 refine fok (X:=⟨tt,[(146,AG),(94,AV)],[],69,[]⟩) mixed AH (CTok.cons DR (CTok.cons GU (CTok.nil _))) Tryz.func237 (λ _=>[]) ?_
 intro (r:List Dat) hpre
 have hpre:A5 r:=hpre
 refine AI (q:=let Z2:=List (List Dat);let Z1:=(vB false=vB (Be r));∃ i1:Bool×Z2×Z2×Bool,[w84 r]=AG.args i1/\AG.pre i1/\(ifB ((!(!i1.2.2.2))) (∃ i2:Bool×Z2×Z2×Bool,[dA r 3 4 5]=AG.args i2/\AG.pre i2/\(ifB ((!(!i2.2.2.2))) (∃ i3:Bool×Z2×Z2×Bool,[dA r 6 7 8]=AG.args i3/\AG.pre i3/\(ifB ((!(!i3.2.2.2))) (∃ i4:Bool×Z2×Z2×Bool,[dA r 9 10 11]=AG.args i4/\AG.pre i4/\(ifB ((!(!i4.2.2.2))) (∃ i5:Bool×Z2×Z2×Bool,[dA r 12 13 14]=AG.args i5/\AG.pre i5/\(ifB ((!(!i5.2.2.2))) (∃ i6:Bool×Z2×Z2×Bool,[dA r 15 16 17]=AG.args i6/\AG.pre i6/\(ifB ((!i6.2.2.2)) Z1 (∃ i7:Fr×Fr,[dA r 6 7 8,dA r 12 13 14]=AV.args i7/\AV.pre i7/\(∃ i8:Fr×Fr,[dA r 9 10 11,dA r 15 16 17]=AV.args i8/\AV.pre i8/\(∃ i9:Fr×Fr,[w84 r,dA r 3 4 5]=AV.args i9/\AV.pre i9/\(ifB ((decide ((Fr.cmp i9.1 i9.2)<(0:Int)))) (ifB ((decide ((Fr.cmp i7.1 i7.2)<=(0:Int)))) (ifB ((decide ((Fr.cmp i8.1 i8.2)<=(0:Int)))) ((vB (decide ((wR ((Fr.cmp i7.1 i7.2)+(Fr.cmp i8.1 i8.2)))<(0:Int)))=vB (Be r))) Z1) Z1) Z1)))))) Z1)) Z1)) Z1)) Z1)) Z1)) (by kernel_rfl) ?_
 conv=>zeta
 delta dA w84 ifB vB wR
 have hh:=hpre
 obtain ⟨h0,h3,h6,h9,h12,h15⟩:=hpre
 have k0:okR (AW r 0)=AZ ((r.getD 0 (.int 0)).b) ((r.getD 1 (.int 0)).r) ((r.getD 2 (.int 0)).r):=rfl
 have k3:okR (AW r 3)=AZ ((r.getD 3 (.int 0)).b) ((r.getD 4 (.int 0)).r) ((r.getD 5 (.int 0)).r):=rfl
 have k6:okR (AW r 6)=AZ ((r.getD 6 (.int 0)).b) ((r.getD 7 (.int 0)).r) ((r.getD 8 (.int 0)).r):=rfl
 have k9:okR (AW r 9)=AZ ((r.getD 9 (.int 0)).b) ((r.getD 10 (.int 0)).r) ((r.getD 11 (.int 0)).r):=rfl
 have k12:okR (AW r 12)=AZ ((r.getD 12 (.int 0)).b) ((r.getD 13 (.int 0)).r) ((r.getD 14 (.int 0)).r):=rfl
 have k15:okR (AW r 15)=AZ ((r.getD 15 (.int 0)).b) ((r.getD 16 (.int 0)).r) ((r.getD 17 (.int 0)).r):=rfl
 refine ⟨((r.getD 0 (.int 0)).b,((r.getD 1 (.int 0)).r),((r.getD 2 (.int 0)).r),(AZ ((r.getD 0 (.int 0)).b) ((r.getD 1 (.int 0)).r) ((r.getD 2 (.int 0)).r))),by
  first|rfl|(simp only [a0,a1,a2,a3,a4,a5,a6,a7,a8,a9,a10,a11,a12,a13,a14,a15,a16,a17];rfl),by
  try dsimp only [AG]
  first|trivial|exact ⟨h0.1,h0.2,AB h0.1,AB h0.2,rfl⟩|exact ⟨h3.1,h3.2,AB h3.1,AB h3.2,rfl⟩|exact ⟨h6.1,h6.2,AB h6.1,AB h6.2,rfl⟩|exact ⟨h9.1,h9.2,AB h9.1,AB h9.2,rfl⟩|exact ⟨h12.1,h12.2,AB h12.1,AB h12.2,rfl⟩|exact ⟨h15.1,h15.2,AB h15.1,AB h15.2,rfl⟩,?_⟩
 refine And.symm ⟨λ c4=>?_,λ c4=>?_⟩
 ·try simp only [nrm] at c4
  first|(exact congrArg Value.bool (by rw [hV];simp_all;try omega);done)|(exact congrArg Value.bool (by unfold Be okC;simp only [k0,k3,k6,k9,k12,k15];simp_all))
 try simp only [nrm] at c4
 refine ⟨((r.getD 3 (.int 0)).b,((r.getD 4 (.int 0)).r),((r.getD 5 (.int 0)).r),(AZ ((r.getD 3 (.int 0)).b) ((r.getD 4 (.int 0)).r) ((r.getD 5 (.int 0)).r))),by
  first|rfl|(simp only [a0,a1,a2,a3,a4,a5,a6,a7,a8,a9,a10,a11,a12,a13,a14,a15,a16,a17];rfl),by
  try dsimp only [AG]
  first|trivial|exact ⟨h0.1,h0.2,AB h0.1,AB h0.2,rfl⟩|exact ⟨h3.1,h3.2,AB h3.1,AB h3.2,rfl⟩|exact ⟨h6.1,h6.2,AB h6.1,AB h6.2,rfl⟩|exact ⟨h9.1,h9.2,AB h9.1,AB h9.2,rfl⟩|exact ⟨h12.1,h12.2,AB h12.1,AB h12.2,rfl⟩|exact ⟨h15.1,h15.2,AB h15.1,AB h15.2,rfl⟩,?_⟩
 refine And.symm ⟨λ c8=>?_,λ c8=>?_⟩
 ·try simp only [nrm] at c8
  first|(exact congrArg Value.bool (by rw [hV];simp_all;try omega);done)|(exact congrArg Value.bool (by unfold Be okC;simp only [k0,k3,k6,k9,k12,k15];simp_all))
 try simp only [nrm] at c8
 refine ⟨((r.getD 6 (.int 0)).b,((r.getD 7 (.int 0)).r),((r.getD 8 (.int 0)).r),(AZ ((r.getD 6 (.int 0)).b) ((r.getD 7 (.int 0)).r) ((r.getD 8 (.int 0)).r))),by
  first|rfl|(simp only [a0,a1,a2,a3,a4,a5,a6,a7,a8,a9,a10,a11,a12,a13,a14,a15,a16,a17];rfl),by
  try dsimp only [AG]
  first|trivial|exact ⟨h0.1,h0.2,AB h0.1,AB h0.2,rfl⟩|exact ⟨h3.1,h3.2,AB h3.1,AB h3.2,rfl⟩|exact ⟨h6.1,h6.2,AB h6.1,AB h6.2,rfl⟩|exact ⟨h9.1,h9.2,AB h9.1,AB h9.2,rfl⟩|exact ⟨h12.1,h12.2,AB h12.1,AB h12.2,rfl⟩|exact ⟨h15.1,h15.2,AB h15.1,AB h15.2,rfl⟩,?_⟩
 refine And.symm ⟨λ c12=>?_,λ c12=>?_⟩
 ·try simp only [nrm] at c12
  first|(exact congrArg Value.bool (by rw [hV];simp_all;try omega);done)|(exact congrArg Value.bool (by unfold Be okC;simp only [k0,k3,k6,k9,k12,k15];simp_all))
 try simp only [nrm] at c12
 refine ⟨((r.getD 9 (.int 0)).b,((r.getD 10 (.int 0)).r),((r.getD 11 (.int 0)).r),(AZ ((r.getD 9 (.int 0)).b) ((r.getD 10 (.int 0)).r) ((r.getD 11 (.int 0)).r))),by
  first|rfl|(simp only [a0,a1,a2,a3,a4,a5,a6,a7,a8,a9,a10,a11,a12,a13,a14,a15,a16,a17];rfl),by
  try dsimp only [AG]
  first|trivial|exact ⟨h0.1,h0.2,AB h0.1,AB h0.2,rfl⟩|exact ⟨h3.1,h3.2,AB h3.1,AB h3.2,rfl⟩|exact ⟨h6.1,h6.2,AB h6.1,AB h6.2,rfl⟩|exact ⟨h9.1,h9.2,AB h9.1,AB h9.2,rfl⟩|exact ⟨h12.1,h12.2,AB h12.1,AB h12.2,rfl⟩|exact ⟨h15.1,h15.2,AB h15.1,AB h15.2,rfl⟩,?_⟩
 refine And.symm ⟨λ c16=>?_,λ c16=>?_⟩
 ·try simp only [nrm] at c16
  first|(exact congrArg Value.bool (by rw [hV];simp_all;try omega);done)|(exact congrArg Value.bool (by unfold Be okC;simp only [k0,k3,k6,k9,k12,k15];simp_all))
 try simp only [nrm] at c16
 refine ⟨((r.getD 12 (.int 0)).b,((r.getD 13 (.int 0)).r),((r.getD 14 (.int 0)).r),(AZ ((r.getD 12 (.int 0)).b) ((r.getD 13 (.int 0)).r) ((r.getD 14 (.int 0)).r))),by
  first|rfl|(simp only [a0,a1,a2,a3,a4,a5,a6,a7,a8,a9,a10,a11,a12,a13,a14,a15,a16,a17];rfl),by
  try dsimp only [AG]
  first|trivial|exact ⟨h0.1,h0.2,AB h0.1,AB h0.2,rfl⟩|exact ⟨h3.1,h3.2,AB h3.1,AB h3.2,rfl⟩|exact ⟨h6.1,h6.2,AB h6.1,AB h6.2,rfl⟩|exact ⟨h9.1,h9.2,AB h9.1,AB h9.2,rfl⟩|exact ⟨h12.1,h12.2,AB h12.1,AB h12.2,rfl⟩|exact ⟨h15.1,h15.2,AB h15.1,AB h15.2,rfl⟩,?_⟩
 refine And.symm ⟨λ c20=>?_,λ c20=>?_⟩
 ·try simp only [nrm] at c20
  first|(exact congrArg Value.bool (by rw [hV];simp_all;try omega);done)|(exact congrArg Value.bool (by unfold Be okC;simp only [k0,k3,k6,k9,k12,k15];simp_all))
 try simp only [nrm] at c20
 refine ⟨((r.getD 15 (.int 0)).b,((r.getD 16 (.int 0)).r),((r.getD 17 (.int 0)).r),(AZ ((r.getD 15 (.int 0)).b) ((r.getD 16 (.int 0)).r) ((r.getD 17 (.int 0)).r))),by
  first|rfl|(simp only [a0,a1,a2,a3,a4,a5,a6,a7,a8,a9,a10,a11,a12,a13,a14,a15,a16,a17];rfl),by
  try dsimp only [AG]
  first|trivial|exact ⟨h0.1,h0.2,AB h0.1,AB h0.2,rfl⟩|exact ⟨h3.1,h3.2,AB h3.1,AB h3.2,rfl⟩|exact ⟨h6.1,h6.2,AB h6.1,AB h6.2,rfl⟩|exact ⟨h9.1,h9.2,AB h9.1,AB h9.2,rfl⟩|exact ⟨h12.1,h12.2,AB h12.1,AB h12.2,rfl⟩|exact ⟨h15.1,h15.2,AB h15.1,AB h15.2,rfl⟩,?_⟩
 refine ⟨λ c24=>?_,λ c24=>?_⟩
 ·try simp only [nrm] at c24
  first|(exact congrArg Value.bool (by rw [hV];simp_all;try omega);done)|(exact congrArg Value.bool (by unfold Be okC;simp only [k0,k3,k6,k9,k12,k15];simp_all))
 try simp only [nrm] at c24
 have q:okC r=true:=by unfold okC;simp only [k0,k3,k6,k9,k12,k15];simp_all
 have hq:(((r.getD 0 (.int 0)).b=decide ((fA r 0).z<0))/\((r.getD 1 (.int 0)).r=L (fA r 0).z.natAbs)/\((r.getD 2 (.int 0)).r=L (fA r 0).d)/\(fA r 0).d≠0)/\(((r.getD 3 (.int 0)).b=decide ((fA r 3).z<0))/\((r.getD 4 (.int 0)).r=L (fA r 3).z.natAbs)/\((r.getD 5 (.int 0)).r=L (fA r 3).d)/\(fA r 3).d≠0)/\(((r.getD 6 (.int 0)).b=decide ((fA r 6).z<0))/\((r.getD 7 (.int 0)).r=L (fA r 6).z.natAbs)/\((r.getD 8 (.int 0)).r=L (fA r 6).d)/\(fA r 6).d≠0)/\(((r.getD 9 (.int 0)).b=decide ((fA r 9).z<0))/\((r.getD 10 (.int 0)).r=L (fA r 9).z.natAbs)/\((r.getD 11 (.int 0)).r=L (fA r 9).d)/\(fA r 9).d≠0)/\(((r.getD 12 (.int 0)).b=decide ((fA r 12).z<0))/\((r.getD 13 (.int 0)).r=L (fA r 12).z.natAbs)/\((r.getD 14 (.int 0)).r=L (fA r 12).d)/\(fA r 12).d≠0)/\(((r.getD 15 (.int 0)).b=decide ((fA r 15).z<0))/\((r.getD 16 (.int 0)).r=L (fA r 15).z.natAbs)/\((r.getD 17 (.int 0)).r=L (fA r 15).d)/\(fA r 15).d≠0):=Ju hh q
 obtain ⟨⟨a0,a1,a2,g0⟩,⟨a3,a4,a5,g3⟩,⟨a6,a7,a8,g6⟩,⟨a9,a10,a11,g9⟩,⟨a12,a13,a14,g12⟩,⟨a15,a16,a17,g15⟩⟩:=hq
 have hV:Be r=(decide (Fr.cmp (fA r 0) (fA r 3)<0) && (decide (Fr.cmp (fA r 6) (fA r 12)<=0) && (decide (Fr.cmp (fA r 9) (fA r 15)<=0) && decide (Fr.cmp (fA r 6) (fA r 12)+Fr.cmp (fA r 9) (fA r 15)<0)))):=by unfold Be;rw [q,Bool.true_and]
 have b1:=Mx (fA r 6) (fA r 12)
 have b2:=Mx (fA r 9) (fA r 15)
 
 refine ⟨((fA r 6),(fA r 12)),by
  first|rfl|(simp only [a0,a1,a2,a3,a4,a5,a6,a7,a8,a9,a10,a11,a12,a13,a14,a15,a16,a17];rfl),by
  first|trivial|exact ⟨h0.1,h0.2,AB h0.1,AB h0.2,rfl⟩|exact ⟨h3.1,h3.2,AB h3.1,AB h3.2,rfl⟩|exact ⟨h6.1,h6.2,AB h6.1,AB h6.2,rfl⟩|exact ⟨h9.1,h9.2,AB h9.1,AB h9.2,rfl⟩|exact ⟨h12.1,h12.2,AB h12.1,AB h12.2,rfl⟩|exact ⟨h15.1,h15.2,AB h15.1,AB h15.2,rfl⟩,?_⟩
 refine ⟨((fA r 9),(fA r 15)),by
  first|rfl|(simp only [a0,a1,a2,a3,a4,a5,a6,a7,a8,a9,a10,a11,a12,a13,a14,a15,a16,a17];rfl),by
  first|trivial|exact ⟨h0.1,h0.2,AB h0.1,AB h0.2,rfl⟩|exact ⟨h3.1,h3.2,AB h3.1,AB h3.2,rfl⟩|exact ⟨h6.1,h6.2,AB h6.1,AB h6.2,rfl⟩|exact ⟨h9.1,h9.2,AB h9.1,AB h9.2,rfl⟩|exact ⟨h12.1,h12.2,AB h12.1,AB h12.2,rfl⟩|exact ⟨h15.1,h15.2,AB h15.1,AB h15.2,rfl⟩,?_⟩
 refine ⟨((fA r 0),(fA r 3)),by
  first|rfl|(simp only [a0,a1,a2,a3,a4,a5,a6,a7,a8,a9,a10,a11,a12,a13,a14,a15,a16,a17];rfl),by
  first|trivial|exact ⟨h0.1,h0.2,AB h0.1,AB h0.2,rfl⟩|exact ⟨h3.1,h3.2,AB h3.1,AB h3.2,rfl⟩|exact ⟨h6.1,h6.2,AB h6.1,AB h6.2,rfl⟩|exact ⟨h9.1,h9.2,AB h9.1,AB h9.2,rfl⟩|exact ⟨h12.1,h12.2,AB h12.1,AB h12.2,rfl⟩|exact ⟨h15.1,h15.2,AB h15.1,AB h15.2,rfl⟩,?_⟩
 refine And.symm ⟨λ c35=>?_,λ c35=>?_⟩
 ·try simp only [nrm] at c35
  first|(exact congrArg Value.bool (by rw [hV];simp_all;try omega);done)|(exact congrArg Value.bool (by unfold Be okC;simp only [k0,k3,k6,k9,k12,k15];simp_all))
 try simp only [nrm] at c35
 refine And.symm ⟨λ c36=>?_,λ c36=>?_⟩
 ·try simp only [nrm] at c36
  first|(exact congrArg Value.bool (by rw [hV];simp_all;try omega);done)|(exact congrArg Value.bool (by unfold Be okC;simp only [k0,k3,k6,k9,k12,k15];simp_all))
 try simp only [nrm] at c36
 refine And.symm ⟨λ c37=>?_,λ c37=>?_⟩
 ·try simp only [nrm] at c37
  first|(exact congrArg Value.bool (by rw [hV];simp_all;try omega);done)|(exact congrArg Value.bool (by unfold Be okC;simp only [k0,k3,k6,k9,k12,k15];simp_all))
 try simp only [nrm] at c37
 show Value.bool (decide ((IntKind.i64.wrap ((Fr.cmp (fA r 6) (fA r 12))+(Fr.cmp (fA r 9) (fA r 15))))<(0:Int)))=Value.bool (Be r)
 exact congrArg Value.bool (by rw [hV,AD (by omega) (by omega)];simp_all)
def Gc:Con:={ ι:=(List Dat),pre:=λ i=>A6 i,args:=λ i=>[Gx i],res:=λ i=>⟨false,[none],[rcB (CE i)]⟩ }
theorem SN:Gc.Ok Tryz.prog 240:=by
 refine fok (X:=⟨tt,[(146,AG),(94,AV)],[],24,[]⟩) mixed AH (CTok.cons DR (CTok.cons GU (CTok.nil _))) Tryz.func240 (λ _=>[]) ?_
 intro (r:List Dat) hpre
 have hpre:A6 r:=hpre
 refine AI (q:=let Z2:=(vB false=vB (CE r));let Z1:=List (List Dat);∃ i1:Bool×Z1×Z1×Bool,[w84 r]=AG.args i1/\AG.pre i1/\(ifB (i1.2.2.2) (∃ i2:Bool×Z1×Z1×Bool,[dA r 3 4 5]=AG.args i2/\AG.pre i2/\(ifB (i2.2.2.2) (∃ i3:Bool×Z1×Z1×Bool,[dA r 6 7 8]=AG.args i3/\AG.pre i3/\(ifB (i3.2.2.2) (∃ i4:Fr×Fr,[dA r 3 4 5,dA r 6 7 8]=AV.args i4/\AV.pre i4/\((vB (decide ((Fr.cmp i4.1 i4.2)<(0:Int)))=vB (CE r)))) Z2)) Z2)) Z2)) (by kernel_rfl) ?_
 conv=>zeta
 delta dA w84 ifB vB
 have hh:=hpre
 obtain ⟨h0,h3,h6⟩:=hpre
 have k0:okR (AW r 0)=AZ ((r.getD 0 (.int 0)).b) ((r.getD 1 (.int 0)).r) ((r.getD 2 (.int 0)).r):=rfl
 have k3:okR (AW r 3)=AZ ((r.getD 3 (.int 0)).b) ((r.getD 4 (.int 0)).r) ((r.getD 5 (.int 0)).r):=rfl
 have k6:okR (AW r 6)=AZ ((r.getD 6 (.int 0)).b) ((r.getD 7 (.int 0)).r) ((r.getD 8 (.int 0)).r):=rfl
 refine ⟨((r.getD 0 (.int 0)).b,((r.getD 1 (.int 0)).r),((r.getD 2 (.int 0)).r),(AZ ((r.getD 0 (.int 0)).b) ((r.getD 1 (.int 0)).r) ((r.getD 2 (.int 0)).r))),by
  first|rfl|(simp only [a0,a1,a2,a3,a4,a5,a6,a7,a8];rfl),by
  try dsimp only [AG]
  first|trivial|exact ⟨h0.1,h0.2,AB h0.1,AB h0.2,rfl⟩|exact ⟨h3.1,h3.2,AB h3.1,AB h3.2,rfl⟩|exact ⟨h6.1,h6.2,AB h6.1,AB h6.2,rfl⟩,?_⟩
 refine And.symm ⟨λ c4=>?_,λ c4=>?_⟩
 ·try simp only [nrm] at c4
  first|(exact congrArg Value.bool (by unfold CE;rw [q];rfl))|(exact congrArg Value.bool (by unfold CE okW;simp only [k0,k3,k6];simp_all))
 try simp only [nrm] at c4
 refine ⟨((r.getD 3 (.int 0)).b,((r.getD 4 (.int 0)).r),((r.getD 5 (.int 0)).r),(AZ ((r.getD 3 (.int 0)).b) ((r.getD 4 (.int 0)).r) ((r.getD 5 (.int 0)).r))),by
  first|rfl|(simp only [a0,a1,a2,a3,a4,a5,a6,a7,a8];rfl),by
  try dsimp only [AG]
  first|trivial|exact ⟨h0.1,h0.2,AB h0.1,AB h0.2,rfl⟩|exact ⟨h3.1,h3.2,AB h3.1,AB h3.2,rfl⟩|exact ⟨h6.1,h6.2,AB h6.1,AB h6.2,rfl⟩,?_⟩
 refine And.symm ⟨λ c8=>?_,λ c8=>?_⟩
 ·try simp only [nrm] at c8
  first|(exact congrArg Value.bool (by unfold CE;rw [q];rfl))|(exact congrArg Value.bool (by unfold CE okW;simp only [k0,k3,k6];simp_all))
 try simp only [nrm] at c8
 refine ⟨((r.getD 6 (.int 0)).b,((r.getD 7 (.int 0)).r),((r.getD 8 (.int 0)).r),(AZ ((r.getD 6 (.int 0)).b) ((r.getD 7 (.int 0)).r) ((r.getD 8 (.int 0)).r))),by
  first|rfl|(simp only [a0,a1,a2,a3,a4,a5,a6,a7,a8];rfl),by
  try dsimp only [AG]
  first|trivial|exact ⟨h0.1,h0.2,AB h0.1,AB h0.2,rfl⟩|exact ⟨h3.1,h3.2,AB h3.1,AB h3.2,rfl⟩|exact ⟨h6.1,h6.2,AB h6.1,AB h6.2,rfl⟩,?_⟩
 refine And.symm ⟨λ c12=>?_,λ c12=>?_⟩
 ·try simp only [nrm] at c12
  first|(exact congrArg Value.bool (by unfold CE;rw [q];rfl))|(exact congrArg Value.bool (by unfold CE okW;simp only [k0,k3,k6];simp_all))
 try simp only [nrm] at c12
 have q:okW r=true:=by unfold okW;simp only [k0,k3,k6];simp_all
 have hq:(((r.getD 0 (.int 0)).b=decide ((fA r 0).z<0))/\((r.getD 1 (.int 0)).r=L (fA r 0).z.natAbs)/\((r.getD 2 (.int 0)).r=L (fA r 0).d)/\(fA r 0).d≠0)/\(((r.getD 3 (.int 0)).b=decide ((fA r 3).z<0))/\((r.getD 4 (.int 0)).r=L (fA r 3).z.natAbs)/\((r.getD 5 (.int 0)).r=L (fA r 3).d)/\(fA r 3).d≠0)/\(((r.getD 6 (.int 0)).b=decide ((fA r 6).z<0))/\((r.getD 7 (.int 0)).r=L (fA r 6).z.natAbs)/\((r.getD 8 (.int 0)).r=L (fA r 6).d)/\(fA r 6).d≠0):=Jv hh q
 obtain ⟨⟨a0,a1,a2,g0⟩,⟨a3,a4,a5,g3⟩,⟨a6,a7,a8,g6⟩⟩:=hq
 
 refine ⟨((fA r 3),(fA r 6)),by
  first|rfl|(simp only [a0,a1,a2,a3,a4,a5,a6,a7,a8];rfl),by
  first|trivial|exact ⟨h0.1,h0.2,AB h0.1,AB h0.2,rfl⟩|exact ⟨h3.1,h3.2,AB h3.1,AB h3.2,rfl⟩|exact ⟨h6.1,h6.2,AB h6.1,AB h6.2,rfl⟩,?_⟩
 show Value.bool (decide ((Fr.cmp (fA r 3) (fA r 6))<(0:Int)))=Value.bool (CE r)
 first|(exact congrArg Value.bool (by unfold CE;rw [q];rfl))|(exact congrArg Value.bool (by unfold CE okW;simp only [k0,k3,k6];simp_all))
def Ey:Con:={ ι:=(List Dat)×Pq,pre:=λ i=>A5 i.1/\i.2.good=true,args:=λ i=>[Gy i.1,dP i.2],res:=λ i=>⟨false,[none],[rcB (Al i.1 i.2)]⟩ }
theorem Pk:Ey.Ok Tryz.prog 182:=by
 refine fok (X:=⟨tt,[(237,Gb),(238,DS),(94,AV),(239,EG)],[],61,[]⟩) mixed AH (CTok.cons SM (CTok.cons OJ (CTok.cons GU (CTok.cons T7 (CTok.nil _))))) Tryz.func182 (λ _=>[]) ?_
 rintro ⟨r,p⟩ hpre
 have hpre:A5 r/\p.good=true:=hpre
 refine AI (q:=let Z1:=(vB false=vB (Al r p));∃ i1:(List Dat),[Gy r]=Gb.args i1/\Gb.pre i1/\(ifB ((!(!(Be i1)))) (∃ i2:PtD×Bool,[dP p]=DS.args i2/\DS.pre i2/\(ifB ((!(!i2.2))) (∃ i3:Fr×Fr,[dF p.x,w84 r]=AV.args i3/\AV.pre i3/\(ifB ((!(decide ((Fr.cmp i3.1 i3.2)<=(0:Int))))) (∃ i4:Fr×Fr,[dF p.x,dA r 3 4 5]=AV.args i4/\AV.pre i4/\(ifB ((decide ((Fr.cmp i4.1 i4.2)≥(0:Int)))) Z1 (∃ i5:Pq×Pq×Pq,[DA.agg [cB ((r.getD 0 (.int 0)).b),cS ((r.getD 1 (.int 0)).r),cS ((r.getD 2 (.int 0)).r),cB ((r.getD 6 (.int 0)).b),cS ((r.getD 7 (.int 0)).r),cS ((r.getD 8 (.int 0)).r)],DA.agg [cB ((r.getD 3 (.int 0)).b),cS ((r.getD 4 (.int 0)).r),cS ((r.getD 5 (.int 0)).r),cB ((r.getD 9 (.int 0)).b),cS ((r.getD 10 (.int 0)).r),cS ((r.getD 11 (.int 0)).r)],dP p]=EG.args i5/\EG.pre i5/\(∃ i6:Pq×Pq×Pq,[DA.agg [cB ((r.getD 0 (.int 0)).b),cS ((r.getD 1 (.int 0)).r),cS ((r.getD 2 (.int 0)).r),cB ((r.getD 12 (.int 0)).b),cS ((r.getD 13 (.int 0)).r),cS ((r.getD 14 (.int 0)).r)],DA.agg [cB ((r.getD 3 (.int 0)).b),cS ((r.getD 4 (.int 0)).r),cS ((r.getD 5 (.int 0)).r),cB ((r.getD 15 (.int 0)).b),cS ((r.getD 16 (.int 0)).r),cS ((r.getD 17 (.int 0)).r)],dP p]=EG.args i6/\EG.pre i6/\(ifB ((decide ((Gh i5.1 i5.2.1 i5.2.2)>(0:Int)))) ((vB (decide ((Gh i6.1 i6.2.1 i6.2.2)<(0:Int)))=vB (Al r p))) Z1))))) Z1)) Z1)) Z1)) (by kernel_rfl) ?_
 conv=>zeta
 delta dA Gy w84 ifB vB
 have hh:=hpre.1
 refine ⟨r,by
  first|rfl|(simp only [a0,a1,a2,a3,a4,a5,a6,a7,a8,a9,a10,a11,a12,a13,a14,a15,a16,a17];rfl),by
  exact hpre.1,?_⟩
 refine And.symm ⟨λ c4=>?_,λ c4=>?_⟩
 ·try simp only [nrm] at c4
  exact congrArg Value.bool (by unfold Al inC;simp_all;try omega)
 try simp only [nrm] at c4
 have q:okC r=true:=by unfold Be at c4;rw [Bool.and_eq_true] at c4;exact c4.1
 have hq:(((r.getD 0 (.int 0)).b=decide ((fA r 0).z<0))/\((r.getD 1 (.int 0)).r=L (fA r 0).z.natAbs)/\((r.getD 2 (.int 0)).r=L (fA r 0).d)/\(fA r 0).d≠0)/\(((r.getD 3 (.int 0)).b=decide ((fA r 3).z<0))/\((r.getD 4 (.int 0)).r=L (fA r 3).z.natAbs)/\((r.getD 5 (.int 0)).r=L (fA r 3).d)/\(fA r 3).d≠0)/\(((r.getD 6 (.int 0)).b=decide ((fA r 6).z<0))/\((r.getD 7 (.int 0)).r=L (fA r 6).z.natAbs)/\((r.getD 8 (.int 0)).r=L (fA r 6).d)/\(fA r 6).d≠0)/\(((r.getD 9 (.int 0)).b=decide ((fA r 9).z<0))/\((r.getD 10 (.int 0)).r=L (fA r 9).z.natAbs)/\((r.getD 11 (.int 0)).r=L (fA r 9).d)/\(fA r 9).d≠0)/\(((r.getD 12 (.int 0)).b=decide ((fA r 12).z<0))/\((r.getD 13 (.int 0)).r=L (fA r 12).z.natAbs)/\((r.getD 14 (.int 0)).r=L (fA r 12).d)/\(fA r 12).d≠0)/\(((r.getD 15 (.int 0)).b=decide ((fA r 15).z<0))/\((r.getD 16 (.int 0)).r=L (fA r 15).z.natAbs)/\((r.getD 17 (.int 0)).r=L (fA r 15).d)/\(fA r 15).d≠0):=Ju hh q
 obtain ⟨⟨a0,a1,a2,g0⟩,⟨a3,a4,a5,g3⟩,⟨a6,a7,a8,g6⟩,⟨a9,a10,a11,g9⟩,⟨a12,a13,a14,g12⟩,⟨a15,a16,a17,g15⟩⟩:=hq
 refine ⟨((ptQ p),p.good),by
  first|rfl|(simp only [a0,a1,a2,a3,a4,a5,a6,a7,a8,a9,a10,a11,a12,a13,a14,a15,a16,a17];rfl),by
  show (ptQ p).has/\okP (ptQ p)=p.good
  exact ⟨Js p,Mv p⟩,?_⟩
 refine And.symm ⟨λ c8=>?_,λ c8=>?_⟩
 ·try simp only [nrm] at c8
  rw [hpre.2] at c8
  cases c8 -- done
 try simp only [nrm] at c8
 refine ⟨(p.x,(fA r 0)),by
  first|rfl|(simp only [a0,a1,a2,a3,a4,a5,a6,a7,a8,a9,a10,a11,a12,a13,a14,a15,a16,a17];rfl),by
  first|trivial|(first|omega|assumption|exact hpre.1|exact hpre.2|(simp;done)),?_⟩
 refine And.symm ⟨λ c12=>?_,λ c12=>?_⟩
 ·try simp only [nrm] at c12
  exact congrArg Value.bool (by unfold Al inC;simp_all;try omega)
 try simp only [nrm] at c12
 refine ⟨(p.x,(fA r 3)),by
  first|rfl|(simp only [a0,a1,a2,a3,a4,a5,a6,a7,a8,a9,a10,a11,a12,a13,a14,a15,a16,a17];rfl),by
  first|trivial|(first|omega|assumption|exact hpre.1|exact hpre.2|(simp;done)),?_⟩
 refine ⟨λ c16=>?_,λ c16=>?_⟩
 ·try simp only [nrm] at c16
  exact congrArg Value.bool (by unfold Al inC;simp_all;try omega)
 try simp only [nrm] at c16
 refine ⟨((⟨(fA r 0),(fA r 6)⟩:Pq),(⟨(fA r 3),(fA r 9)⟩:Pq),p),by
  first|rfl|(simp only [a0,a1,a2,a3,a4,a5,a6,a7,a8,a9,a10,a11,a12,a13,a14,a15,a16,a17];rfl),by
  first|trivial|(first|omega|assumption|exact hpre.1|exact hpre.2|(simp;done)),?_⟩
 refine ⟨((⟨(fA r 0),(fA r 12)⟩:Pq),(⟨(fA r 3),(fA r 15)⟩:Pq),p),by
  first|rfl|(simp only [a0,a1,a2,a3,a4,a5,a6,a7,a8,a9,a10,a11,a12,a13,a14,a15,a16,a17];rfl),by
  first|trivial|(first|omega|assumption|exact hpre.1|exact hpre.2|(simp;done)),?_⟩
 refine And.symm ⟨λ c24=>?_,λ c24=>?_⟩
 ·try simp only [nrm] at c24
  exact congrArg Value.bool (by unfold Al inC;simp_all;try omega)
 try simp only [nrm] at c24
 show Value.bool (decide ((Gh (⟨(fA r 0),(fA r 12)⟩:Pq) (⟨(fA r 3),(fA r 15)⟩:Pq) p)<(0:Int)))=Value.bool (Al r p)
 exact congrArg Value.bool (by unfold Al inC;simp_all;try omega)
def Ez:Con:={ ι:=(List Dat)×Pq,pre:=λ i=>A6 i.1/\i.2.good=true,args:=λ i=>[Gx i.1,dP i.2],res:=λ i=>⟨false,[none],[rcB (Ao i.1 i.2)]⟩ }
theorem Pm:Ez.Ok Tryz.prog 183:=by
 refine fok (X:=⟨tt,[(240,Gc),(238,DS),(94,AV)],[],35,[]⟩) mixed AH (CTok.cons SN (CTok.cons OJ (CTok.cons GU (CTok.nil _)))) Tryz.func183 (λ _=>[]) ?_
 rintro ⟨r,p⟩ hpre
 have hpre:A6 r/\p.good=true:=hpre
 refine AI (q:=let Z1:=(vB false=vB (Ao r p));∃ i1:(List Dat),[Gx r]=Gc.args i1/\Gc.pre i1/\(ifB ((CE i1)) (∃ i2:PtD×Bool,[dP p]=DS.args i2/\DS.pre i2/\(ifB (i2.2) (∃ i3:Fr×Fr,[dF p.x,w84 r]=AV.args i3/\AV.pre i3/\(ifB (((Fr.cmp i3.1 i3.2) == (0:Int))) (∃ i4:Fr×Fr,[dF p.y,dA r 3 4 5]=AV.args i4/\AV.pre i4/\(ifB ((decide ((Fr.cmp i4.1 i4.2)>(0:Int)))) (∃ i5:Fr×Fr,[dF p.y,dA r 6 7 8]=AV.args i5/\AV.pre i5/\((vB (decide ((Fr.cmp i5.1 i5.2)<(0:Int)))=vB (Ao r p)))) Z1)) Z1)) Z1)) Z1)) (by kernel_rfl) ?_
 conv=>zeta
 delta dA Gx w84 ifB vB
 have hh:=hpre.1
 have hg:=Q5 hpre.2
 refine ⟨r,by
  first|rfl|(simp only [a0,a1,a2,a3,a4,a5,a6,a7,a8];rfl),by
  exact hpre.1,?_⟩
 refine And.symm ⟨λ c4=>?_,λ c4=>?_⟩
 ·try simp only [nrm] at c4
  exact congrArg Value.bool (by unfold Ao inW;simp_all;try omega)
 try simp only [nrm] at c4
 have q:okW r=true:=by unfold CE at c4;rw [Bool.and_eq_true] at c4;exact c4.1
 have hq:(((r.getD 0 (.int 0)).b=decide ((fA r 0).z<0))/\((r.getD 1 (.int 0)).r=L (fA r 0).z.natAbs)/\((r.getD 2 (.int 0)).r=L (fA r 0).d)/\(fA r 0).d≠0)/\(((r.getD 3 (.int 0)).b=decide ((fA r 3).z<0))/\((r.getD 4 (.int 0)).r=L (fA r 3).z.natAbs)/\((r.getD 5 (.int 0)).r=L (fA r 3).d)/\(fA r 3).d≠0)/\(((r.getD 6 (.int 0)).b=decide ((fA r 6).z<0))/\((r.getD 7 (.int 0)).r=L (fA r 6).z.natAbs)/\((r.getD 8 (.int 0)).r=L (fA r 6).d)/\(fA r 6).d≠0):=Jv hh q
 obtain ⟨⟨a0,a1,a2,g0⟩,⟨a3,a4,a5,g3⟩,⟨a6,a7,a8,g6⟩⟩:=hq
 refine ⟨((ptQ p),p.good),by
  first|rfl|(simp only [a0,a1,a2,a3,a4,a5,a6,a7,a8];rfl),by
  show (ptQ p).has/\okP (ptQ p)=p.good
  exact ⟨Js p,Mv p⟩,?_⟩
 refine And.symm ⟨λ c8=>?_,λ c8=>?_⟩
 ·try simp only [nrm] at c8
  rw [hpre.2] at c8
  cases c8 -- done
 try simp only [nrm] at c8
 refine ⟨(p.x,(fA r 0)),by
  first|rfl|(simp only [a0,a1,a2,a3,a4,a5,a6,a7,a8];rfl),by
  first|trivial|(first|omega|assumption|exact hpre.1|exact hpre.2|(simp;done)),?_⟩
 refine And.symm ⟨λ c12=>?_,λ c12=>?_⟩
 ·try simp only [nrm] at c12
  exact congrArg Value.bool (by unfold Ao inW;simp_all;try omega)
 try simp only [nrm] at c12
 refine ⟨(p.y,(fA r 3)),by
  first|rfl|(simp only [a0,a1,a2,a3,a4,a5,a6,a7,a8];rfl),by
  first|trivial|(first|omega|assumption|exact hpre.1|exact hpre.2|(simp;done)),?_⟩
 refine And.symm ⟨λ c16=>?_,λ c16=>?_⟩
 ·try simp only [nrm] at c16
  exact congrArg Value.bool (by unfold Ao inW;simp_all;try omega)
 try simp only [nrm] at c16
 refine ⟨(p.y,(fA r 6)),by
  first|rfl|(simp only [a0,a1,a2,a3,a4,a5,a6,a7,a8];rfl),by
  first|trivial|(first|omega|assumption|exact hpre.1|exact hpre.2|(simp;done)),?_⟩
 show Value.bool (decide ((Fr.cmp p.y (fA r 6))<(0:Int)))=Value.bool (Ao r p)
 exact congrArg Value.bool (by unfold Ao inW;simp_all;try omega)
def E3:Con:={ ι:=(List Dat)×Pq,pre:=λ i=>A5 i.1/\i.2.good=true,args:=λ i=>[Gy i.1,.one (.ro (.ptr [.im (Value.bool (decide (i.2.x.z<0))),.sl 3 [.int] (L i.2.x.z.natAbs),.sl 3 [.int] (L i.2.x.d),.im (Value.bool (decide (i.2.y.z<0))),.sl 3 [.int] (L i.2.y.z.natAbs),.sl 3 [.int] (L i.2.y.d)]))],res:=λ i=>⟨false,[none],[rcB (Al i.1 i.2)]⟩ }
theorem Pn:E3.Ok Tryz.prog 245:=by
 refine fok (X:=⟨tt,[(246,Ew)],[],7,[]⟩) mixed AH (CTok.cons Pi (CTok.nil _)) Tryz.func245 (λ _=>[]) ?_
 rintro ⟨r,p⟩ hpre
 have hpre:A5 r/\p.good=true:=hpre
 refine AI (q:=∃ i1:(List Dat)×Pq,[Gy r,dP p]=Ew.args i1/\Ew.pre i1/\((vB (Al i1.1 i1.2)=vB (Al r p)))) (by kernel_rfl) ?_
 delta Gy vB
 refine ⟨(r,p),by
  rfl,by
  exact hpre,?_⟩
 exact rfl
def E4:Con:={ ι:=(List (List Dat))×Pq,pre:=λ i=>i.1.length<=1048576/\(∀ k,k<i.1.length->A5 (i.1.getD k []))/\i.2.good=true,args:=λ i=>[.one (DC.sl 158 CS i.1),.one (.ro (.fn 245 [[.im (Value.bool (decide (i.2.x.z<0))),.sl 3 [.int] (L i.2.x.z.natAbs),.sl 3 [.int] (L i.2.x.d),.im (Value.bool (decide (i.2.y.z<0))),.sl 3 [.int] (L i.2.y.z.natAbs),.sl 3 [.int] (L i.2.y.d)]]))],tag:=246,res:=λ i=>⟨false,[none],[rcI (CT (λ c=>Al c i.2) i.1)]⟩ }
theorem Po:E4.Ok Tryz.prog 244:=by
 refine fok (X:=⟨tt,[(245,E3)],[],19,[]⟩) mixed AH (CTok.cons Pn (CTok.nil _)) Tryz.func244 (λ (i:(List (List Dat))×Pq)=>[(2,.mk 3 (Nat) (λ x1=>{ tm:=[(0,tX 1),(1,tX 2),(7,tI (nI i.1.length)),(8,tI (nI x1))],en:=[(1,.view 158 CS i.1 []),(2,.ro (.fn 245 [[.im (Value.bool (decide (i.2.x.z<0))),.sl 3 [.int] (L i.2.x.z.natAbs),.sl 3 [.int] (L i.2.x.d),.im (Value.bool (decide (i.2.y.z<0))),.sl 3 [.int] (L i.2.y.z.natAbs),.sl 3 [.int] (L i.2.y.d)]]) [])] }) (λ x1=>x1<=i.1.length/\∀ j,j<x1->(λ c=>Al c i.2) (i.1.getD j [])=false) (λ x1=>i.1.length-x1) (λ _=>[]))]) ?_
 rintro ⟨l,p⟩ hpre
 have hpre:l.length<=1048576/\(∀ k,k<l.length->A5 (l.getD k []))/\p.good=true:=hpre
 refine AI (q:=let Z7:=L p.y.z.natAbs;let Z6:=L p.x.z.natAbs;let Z5:=CT (λ c=>Al c p) l;let Z4:=vB (decide (p.y.z<0));let Z3:=vB (decide (p.x.z<0));let Z1:=(.fn 245 [[.im Z3,.sl 3 [.int] Z6,.sl 3 [.int] (L p.x.d),.im Z4,.sl 3 [.int] Z7,.sl 3 [.int] (L p.y.d)]]:RO)=.fn 245 [[.im Z3,.sl 3 [.int] Z6,.sl 3 [.int] (L p.x.d),.im Z4,.sl 3 [.int] Z7,.sl 3 [.int] (L p.y.d)]];(∃ x1:Nat,(x1<=l.length/\∀ j,j<x1->(λ c=>Al c p) (l.getD j [])=false)/\((rf (vI (nI l.length)))/\(vI (0:Int)=vI (nI x1))/\(rf (l))/\Z1))/\∀ x1:Nat,let Z2:=l.getD x1 [];(x1<=l.length/\∀ j,j<x1->(λ c=>Al c p) (l.getD j [])=false)->(ifB ((decide ((nI x1)<(nI l.length)))) ((0<=(nI x1)/\(nI x1)<(l.length:Int))/\((x1<l.length)/\(∃ i1:(List Dat)×Pq,[DA.agg [cB (((Z2.getD 0 (.int 0))).b),cS (((Z2.getD 1 (.int 0))).r),cS (((Z2.getD 2 (.int 0))).r),cB (((Z2.getD 3 (.int 0))).b),cS (((Z2.getD 4 (.int 0))).r),cS (((Z2.getD 5 (.int 0))).r),cB (((Z2.getD 6 (.int 0))).b),cS (((Z2.getD 7 (.int 0))).r),cS (((Z2.getD 8 (.int 0))).r),cB (((Z2.getD 9 (.int 0))).b),cS (((Z2.getD 10 (.int 0))).r),cS (((Z2.getD 11 (.int 0))).r),cB (((Z2.getD 12 (.int 0))).b),cS (((Z2.getD 13 (.int 0))).r),cS (((Z2.getD 14 (.int 0))).r),cB (((Z2.getD 15 (.int 0))).b),cS (((Z2.getD 16 (.int 0))).r),cS (((Z2.getD 17 (.int 0))).r)],DA.one (DC.ro (.ptr [.im Z3,.sl 3 [.int] Z6,.sl 3 [.int] (L p.x.d),.im Z4,.sl 3 [.int] Z7,.sl 3 [.int] (L p.y.d)]))]=E3.args i1/\E3.pre i1/\(ifB ((Al i1.1 i1.2)) ((vI (nI x1)=vI Z5)) (∃ y2:Nat,(y2<=l.length/\∀ j,j<y2->(λ c=>Al c p) (l.getD j [])=false)/\(l.length-y2<l.length-x1)/\((rf (vI (nI l.length)))/\(vI (wR ((nI x1)+(1:Int)))=vI (nI y2))/\(rf (l))/\Z1)))))) ((vI (-1:Int)=vI Z5)))) (by kernel_rfl) ?_
 conv=>zeta
 delta ifB vB vI wR nI
 refine ⟨⟨0,by
  exact ⟨Nat.zero_le _,λ j hj=>absurd hj (Nat.not_lt_zero j)⟩,?_⟩,?_⟩
 ·refine ⟨rfl,?_,rfl,?_⟩
  ·first|rfl|(simp;done)
  first|rfl|(simp;done)
 intro (k:Nat) hki1
 have hki1:k<=l.length/\∀ j,j<k->(λ c=>Al c p) (l.getD j [])=false:=hki1
 refine And.symm ⟨λ c7=>?_,λ c7=>?_⟩
 ·try simp only [nrm] at c7
  rw [Cp (d:=[]) (λ j hj=>hki1.2 j (by omega))]
 try simp only [nrm] at c7
 refine ao (by first|rfl|omega|(simp;done)|(simp;omega)) λ o8=>?_
 refine ao (by first|rfl|omega|(simp;done)|(simp;omega)) λ o9=>?_
 refine ⟨(l.getD k [],p),by
  rfl,by
  show A5 (l.getD k [])/\p.good=true
  exact ⟨hpre.2.1 k (by omega),hpre.2.2⟩,?_⟩
 refine ⟨λ c13=>?_,λ c13=>?_⟩
 ·try simp only [nrm] at c13
  exact AF (Eq (d:=[]) (by omega) hki1.2 (c13)).symm
 try simp only [nrm] at c13
 refine ⟨k+1,by
  exact ⟨by omega,Ag hki1.2 (c13)⟩,by
  first|omega|(simp;omega),?_⟩
 refine ⟨rfl,?_,rfl,?_⟩
 ·first|rfl|exact AF (AD (by omega) (by omega))
 first|rfl|exact AF (AD (by omega) (by omega))
def E5:Con:={ ι:=(List Dat)×Pq,pre:=λ i=>CF i.1/\i.2.good=true,args:=λ i=>[w50 i.1,dP i.2],res:=λ i=>⟨false,[none],[rcI (BA i.1 i.2)]⟩ }
theorem Pp:E5.Ok Tryz.prog 191:=by
 refine fok (X:=⟨tt,[(244,E4)],[],9,[]⟩) mixed AH (CTok.cons Po (CTok.nil _)) Tryz.func191 (λ _=>[]) ?_
 rintro ⟨r,p⟩ hpre
 have hpre:CF r/\p.good=true:=hpre
 refine AI (q:=∃ i1:(List (List Dat))×Pq,[DA.one (DC.sl 158 CS ((r.getD 7 (.int 0)).r)),DA.one (DC.ro (.fn 245 [[.im (vB (decide (p.x.z<0))),.sl 3 [.int] (L p.x.z.natAbs),.sl 3 [.int] (L p.x.d),.im (vB (decide (p.y.z<0))),.sl 3 [.int] (L p.y.z.natAbs),.sl 3 [.int] (L p.y.d)]]))]=E4.args i1/\E4.pre i1/\((vI (CT (λ c=>Al c i1.2) i1.1)=vI (BA r p)))) (by kernel_rfl) ?_
 delta vB vI
 refine ⟨((r.getD 7 (.int 0)).r,p),by
  rfl,by
  show ((r.getD 7 (.int 0)).r).length<=1048576/\(∀ k,k<((r.getD 7 (.int 0)).r).length->A5 (((r.getD 7 (.int 0)).r).getD k []))/\p.good=true
  exact ⟨hpre.1.2.2.1,hpre.1.1,hpre.2⟩,?_⟩
 show Value.int .i64 (CT (λ c=>Al c p) ((r.getD 7 (.int 0)).r))=Value.int .i64 (BA r p)
 rfl
def E6:Con:={ ι:=(List Dat)×Pq,pre:=λ i=>CF i.1/\i.2.good=true,args:=λ i=>[w50 i.1,dP i.2],res:=λ i=>⟨false,[none],[rcI (BA i.1 i.2)]⟩ }
theorem Pr:E6.Ok Tryz.prog 117:=by
 refine fok (X:=⟨tt,[(182,Ey)],[],20,[]⟩) mixed AH (CTok.cons Pk (CTok.nil _)) Tryz.func117 (λ (i:(List Dat)×Pq)=>let Z1:=(i.1.getD 7 (.int 0)).r;[(2,.mk 7 (Nat) (λ x1=>{ tm:=[(3,tP 1 0),(8,tX 6),(9,tI (nI (Z1.length))),(10,tI (nI x1))],en:=[(1,.box [kB (decide (i.2.x.z<0)),.ext 2,.ext 3,kB (decide (i.2.y.z<0)),.ext 4,.ext 5]),(2,eV (L i.2.x.z.natAbs)),(3,eV (L i.2.x.d)),(4,eV (L i.2.y.z.natAbs)),(5,eV (L i.2.y.d)),(6,.view 158 CS Z1 [])] }) (λ x1=>x1<=Z1.length/\∀ j,j<x1->(λ c=>Al c i.2) (Z1.getD j [])=false) (λ x1=>Z1.length-x1) (λ _=>[]))]) ?_
 rintro ⟨r,p⟩ hpre
 have hpre:CF r/\p.good=true:=hpre
 refine AI (q:=let Z5:=vB (decide (p.y.z<0));let Z4:=vB (decide (p.x.z<0));let Z1:=(r.getD 7 (.int 0)).r;let Z3:=nI (Z1.length);(∃ x1:Nat,(x1<=Z1.length/\∀ j,j<x1->(λ c=>Al c p) (Z1.getD j [])=false)/\((rf (vI Z3))/\(vI (0:Int)=vI (nI x1))/\(rf Z4)/\(rf Z5)/\(rf (L p.x.z.natAbs))/\(rf (L p.x.d))/\(rf (L p.y.z.natAbs))/\(rf (L p.y.d))/\(rf Z1)))/\∀ x1:Nat,let Z2:=Z1.getD x1 [];(x1<=Z1.length/\∀ j,j<x1->(λ c=>Al c p) (Z1.getD j [])=false)->(ifB ((decide ((nI x1)<Z3))) ((0<=(nI x1)/\(nI x1)<(Z1.length:Int))/\((x1<Z1.length)/\(∃ i1:(List Dat)×Pq,[DA.agg [cB (((Z2.getD 0 (.int 0))).b),cS (((Z2.getD 1 (.int 0))).r),cS (((Z2.getD 2 (.int 0))).r),cB (((Z2.getD 3 (.int 0))).b),cS (((Z2.getD 4 (.int 0))).r),cS (((Z2.getD 5 (.int 0))).r),cB (((Z2.getD 6 (.int 0))).b),cS (((Z2.getD 7 (.int 0))).r),cS (((Z2.getD 8 (.int 0))).r),cB (((Z2.getD 9 (.int 0))).b),cS (((Z2.getD 10 (.int 0))).r),cS (((Z2.getD 11 (.int 0))).r),cB (((Z2.getD 12 (.int 0))).b),cS (((Z2.getD 13 (.int 0))).r),cS (((Z2.getD 14 (.int 0))).r),cB (((Z2.getD 15 (.int 0))).b),cS (((Z2.getD 16 (.int 0))).r),cS (((Z2.getD 17 (.int 0))).r)],dP p]=Ey.args i1/\Ey.pre i1/\(ifB ((Al i1.1 i1.2)) ((vI (nI x1)=vI (BA r p))) (∃ y2:Nat,(y2<=Z1.length/\∀ j,j<y2->(λ c=>Al c p) (Z1.getD j [])=false)/\(Z1.length-y2<Z1.length-x1)/\((rf (vI Z3))/\(vI (wR ((nI x1)+(1:Int)))=vI (nI y2))/\(rf Z4)/\(rf Z5)/\(rf (L p.x.z.natAbs))/\(rf (L p.x.d))/\(rf (L p.y.z.natAbs))/\(rf (L p.y.d))/\(rf Z1))))))) ((vI (-1:Int)=vI (BA r p))))) (by kernel_rfl) ?_
 conv=>zeta
 delta ifB vB vI wR nI
 have hl:((r.getD 7 (.int 0)).r).length<=1048576:=hpre.1.2.2.1
 refine ⟨⟨0,by
  exact ⟨Nat.zero_le _,λ j hj=>absurd hj (Nat.not_lt_zero j)⟩,?_⟩,?_⟩
 ·refine ⟨rfl,?_,rfl,rfl,rfl,rfl,rfl,rfl,rfl⟩
  first|rfl|(simp;done)
 intro (k:Nat) hki1
 have hki1:k<=((r.getD 7 (.int 0)).r).length/\∀ j,j<k->(λ c=>Al c p) (((r.getD 7 (.int 0)).r).getD j [])=false:=hki1
 refine And.symm ⟨λ c12=>?_,λ c12=>?_⟩
 ·try simp only [nrm] at c12
  exact AF (Cp (p:=(λ c=>Al c p)) (d:=[]) (λ j hj=>hki1.2 j (by omega))).symm
 try simp only [nrm] at c12
 refine ao (by first|rfl|omega|(simp;done)|(simp;omega)) λ o13=>?_
 refine ao (by first|rfl|omega|(simp;done)|(simp;omega)) λ o14=>?_
 refine ⟨(((r.getD 7 (.int 0)).r).getD k [],p),by
  rfl,by
  show A5 (((r.getD 7 (.int 0)).r).getD k [])/\p.good=true
  exact ⟨hpre.1.1 k (by omega),hpre.2⟩,?_⟩
 refine ⟨λ c18=>?_,λ c18=>?_⟩
 ·try simp only [nrm] at c18
  exact AF (Eq (p:=(λ c=>Al c p)) (d:=[]) (by omega) hki1.2 c18).symm
 try simp only [nrm] at c18
 refine ⟨k+1,by
  exact ⟨by omega,Ag hki1.2 c18⟩,by
  first|omega|(simp;omega),?_⟩
 refine ⟨rfl,?_,rfl,rfl,rfl,rfl,rfl,rfl,rfl⟩
 first|rfl|exact AF (AD (by omega) (by omega))
def E7:Con:={ ι:=(List Dat)×Pq,pre:=λ i=>A6 i.1/\i.2.good=true,args:=λ i=>[Gx i.1,.one (.ro (.ptr [.im (Value.bool (decide (i.2.x.z<0))),.sl 3 [.int] (L i.2.x.z.natAbs),.sl 3 [.int] (L i.2.x.d),.im (Value.bool (decide (i.2.y.z<0))),.sl 3 [.int] (L i.2.y.z.natAbs),.sl 3 [.int] (L i.2.y.d)]))],res:=λ i=>⟨false,[none],[rcB (Ao i.1 i.2)]⟩ }
theorem Ps:E7.Ok Tryz.prog 248:=by
 refine fok (X:=⟨tt,[(249,Ex)],[],7,[]⟩) mixed AH (CTok.cons Pj (CTok.nil _)) Tryz.func248 (λ _=>[]) ?_
 rintro ⟨r,p⟩ hpre
 have hpre:A6 r/\p.good=true:=hpre
 refine AI (q:=∃ i1:(List Dat)×Pq,[Gx r,dP p]=Ex.args i1/\Ex.pre i1/\((vB (Ao i1.1 i1.2)=vB (Ao r p)))) (by kernel_rfl) ?_
 delta Gx vB
 refine ⟨(r,p),by
  rfl,by
  exact hpre,?_⟩
 exact rfl
def E8:Con:={ ι:=(List (List Dat))×Pq,pre:=λ i=>i.1.length<=1048576/\(∀ k,k<i.1.length->A6 (i.1.getD k []))/\i.2.good=true,args:=λ i=>[.one (DC.sl 153 CR i.1),.one (.ro (.fn 248 [[.im (Value.bool (decide (i.2.x.z<0))),.sl 3 [.int] (L i.2.x.z.natAbs),.sl 3 [.int] (L i.2.x.d),.im (Value.bool (decide (i.2.y.z<0))),.sl 3 [.int] (L i.2.y.z.natAbs),.sl 3 [.int] (L i.2.y.d)]]))],tag:=249,res:=λ i=>⟨false,[none],[rcI (CT (λ c=>Ao c i.2) i.1)]⟩ }
theorem Pt:E8.Ok Tryz.prog 247:=by
 refine fok (X:=⟨tt,[(248,E7)],[],19,[]⟩) mixed AH (CTok.cons Ps (CTok.nil _)) Tryz.func247 (λ (i:(List (List Dat))×Pq)=>[(2,.mk 3 (Nat) (λ x1=>{ tm:=[(0,tX 1),(1,tX 2),(7,tI (nI i.1.length)),(8,tI (nI x1))],en:=[(1,.view 153 CR i.1 []),(2,.ro (.fn 248 [[.im (Value.bool (decide (i.2.x.z<0))),.sl 3 [.int] (L i.2.x.z.natAbs),.sl 3 [.int] (L i.2.x.d),.im (Value.bool (decide (i.2.y.z<0))),.sl 3 [.int] (L i.2.y.z.natAbs),.sl 3 [.int] (L i.2.y.d)]]) [])] }) (λ x1=>x1<=i.1.length/\∀ j,j<x1->(λ c=>Ao c i.2) (i.1.getD j [])=false) (λ x1=>i.1.length-x1) (λ _=>[]))]) ?_
 rintro ⟨l,p⟩ hpre
 have hpre:l.length<=1048576/\(∀ k,k<l.length->A6 (l.getD k []))/\p.good=true:=hpre
 refine AI (q:=let Z7:=L p.y.z.natAbs;let Z6:=L p.x.z.natAbs;let Z5:=CT (λ c=>Ao c p) l;let Z4:=vB (decide (p.y.z<0));let Z3:=vB (decide (p.x.z<0));let Z1:=(.fn 248 [[.im Z3,.sl 3 [.int] Z6,.sl 3 [.int] (L p.x.d),.im Z4,.sl 3 [.int] Z7,.sl 3 [.int] (L p.y.d)]]:RO)=.fn 248 [[.im Z3,.sl 3 [.int] Z6,.sl 3 [.int] (L p.x.d),.im Z4,.sl 3 [.int] Z7,.sl 3 [.int] (L p.y.d)]];(∃ x1:Nat,(x1<=l.length/\∀ j,j<x1->(λ c=>Ao c p) (l.getD j [])=false)/\((rf (vI (nI l.length)))/\(vI (0:Int)=vI (nI x1))/\(rf (l))/\Z1))/\∀ x1:Nat,let Z2:=l.getD x1 [];(x1<=l.length/\∀ j,j<x1->(λ c=>Ao c p) (l.getD j [])=false)->(ifB ((decide ((nI x1)<(nI l.length)))) ((0<=(nI x1)/\(nI x1)<(l.length:Int))/\((x1<l.length)/\(∃ i1:(List Dat)×Pq,[DA.agg [cB (((Z2.getD 0 (.int 0))).b),cS (((Z2.getD 1 (.int 0))).r),cS (((Z2.getD 2 (.int 0))).r),cB (((Z2.getD 3 (.int 0))).b),cS (((Z2.getD 4 (.int 0))).r),cS (((Z2.getD 5 (.int 0))).r),cB (((Z2.getD 6 (.int 0))).b),cS (((Z2.getD 7 (.int 0))).r),cS (((Z2.getD 8 (.int 0))).r)],DA.one (DC.ro (.ptr [.im Z3,.sl 3 [.int] Z6,.sl 3 [.int] (L p.x.d),.im Z4,.sl 3 [.int] Z7,.sl 3 [.int] (L p.y.d)]))]=E7.args i1/\E7.pre i1/\(ifB ((Ao i1.1 i1.2)) ((vI (nI x1)=vI Z5)) (∃ y2:Nat,(y2<=l.length/\∀ j,j<y2->(λ c=>Ao c p) (l.getD j [])=false)/\(l.length-y2<l.length-x1)/\((rf (vI (nI l.length)))/\(vI (wR ((nI x1)+(1:Int)))=vI (nI y2))/\(rf (l))/\Z1)))))) ((vI (-1:Int)=vI Z5)))) (by kernel_rfl) ?_
 conv=>zeta
 delta ifB vB vI wR nI
 refine ⟨⟨0,by
  exact ⟨Nat.zero_le _,λ j hj=>absurd hj (Nat.not_lt_zero j)⟩,?_⟩,?_⟩
 ·refine ⟨rfl,?_,rfl,?_⟩
  ·first|rfl|(simp;done)
  first|rfl|(simp;done)
 intro (k:Nat) hki1
 have hki1:k<=l.length/\∀ j,j<k->(λ c=>Ao c p) (l.getD j [])=false:=hki1
 refine And.symm ⟨λ c7=>?_,λ c7=>?_⟩
 ·try simp only [nrm] at c7
  rw [Cp (d:=[]) (λ j hj=>hki1.2 j (by omega))]
 try simp only [nrm] at c7
 refine ao (by first|rfl|omega|(simp;done)|(simp;omega)) λ o8=>?_
 refine ao (by first|rfl|omega|(simp;done)|(simp;omega)) λ o9=>?_
 refine ⟨(l.getD k [],p),by
  rfl,by
  show A6 (l.getD k [])/\p.good=true
  exact ⟨hpre.2.1 k (by omega),hpre.2.2⟩,?_⟩
 refine ⟨λ c13=>?_,λ c13=>?_⟩
 ·try simp only [nrm] at c13
  exact AF (Eq (d:=[]) (by omega) hki1.2 (c13)).symm
 try simp only [nrm] at c13
 refine ⟨k+1,by
  exact ⟨by omega,Ag hki1.2 (c13)⟩,by
  first|omega|(simp;omega),?_⟩
 refine ⟨rfl,?_,rfl,?_⟩
 ·first|rfl|exact AF (AD (by omega) (by omega))
 first|rfl|exact AF (AD (by omega) (by omega))
def E9:Con:={ ι:=(List Dat)×Pq,pre:=λ i=>CF i.1/\i.2.good=true,args:=λ i=>[w50 i.1,dP i.2],res:=λ i=>⟨false,[none],[rcI (Ac i.1 i.2)]⟩ }
theorem Pu:E9.Ok Tryz.prog 192:=by
 refine fok (X:=⟨tt,[(247,E8)],[],9,[]⟩) mixed AH (CTok.cons Pt (CTok.nil _)) Tryz.func192 (λ _=>[]) ?_
 rintro ⟨r,p⟩ hpre
 have hpre:CF r/\p.good=true:=hpre
 refine AI (q:=∃ i1:(List (List Dat))×Pq,[DA.one (DC.sl 153 CR ((r.getD 8 (.int 0)).r)),DA.one (DC.ro (.fn 248 [[.im (vB (decide (p.x.z<0))),.sl 3 [.int] (L p.x.z.natAbs),.sl 3 [.int] (L p.x.d),.im (vB (decide (p.y.z<0))),.sl 3 [.int] (L p.y.z.natAbs),.sl 3 [.int] (L p.y.d)]]))]=E8.args i1/\E8.pre i1/\((vI (CT (λ c=>Ao c i1.2) i1.1)=vI (Ac r p)))) (by kernel_rfl) ?_
 delta vB vI
 refine ⟨((r.getD 8 (.int 0)).r,p),by
  rfl,by
  show ((r.getD 8 (.int 0)).r).length<=1048576/\(∀ k,k<((r.getD 8 (.int 0)).r).length->A6 (((r.getD 8 (.int 0)).r).getD k []))/\p.good=true
  exact ⟨hpre.1.2.2.2.1,hpre.1.2.1,hpre.2⟩,?_⟩
 show Value.int .i64 (CT (λ c=>Ao c p) ((r.getD 8 (.int 0)).r))=Value.int .i64 (Ac r p)
 rfl
def FA:Con:={ ι:=(List Dat)×Pq,pre:=λ i=>CF i.1/\i.2.good=true,args:=λ i=>[w50 i.1,dP i.2],res:=λ i=>⟨false,[none],[rcI (Ac i.1 i.2)]⟩ }
theorem Pv:FA.Ok Tryz.prog 118:=by
 refine fok (X:=⟨tt,[(183,Ez)],[],20,[]⟩) mixed AH (CTok.cons Pm (CTok.nil _)) Tryz.func118 (λ (i:(List Dat)×Pq)=>let Z1:=(i.1.getD 8 (.int 0)).r;[(2,.mk 7 (Nat) (λ x1=>{ tm:=[(3,tP 1 0),(8,tX 6),(9,tI (nI (Z1.length))),(10,tI (nI x1))],en:=[(1,.box [kB (decide (i.2.x.z<0)),.ext 2,.ext 3,kB (decide (i.2.y.z<0)),.ext 4,.ext 5]),(2,eV (L i.2.x.z.natAbs)),(3,eV (L i.2.x.d)),(4,eV (L i.2.y.z.natAbs)),(5,eV (L i.2.y.d)),(6,.view 153 CR Z1 [])] }) (λ x1=>x1<=Z1.length/\∀ j,j<x1->(λ c=>Ao c i.2) (Z1.getD j [])=false) (λ x1=>Z1.length-x1) (λ _=>[]))]) ?_
 rintro ⟨r,p⟩ hpre
 have hpre:CF r/\p.good=true:=hpre
 refine AI (q:=let Z5:=vB (decide (p.y.z<0));let Z4:=vB (decide (p.x.z<0));let Z1:=(r.getD 8 (.int 0)).r;let Z3:=nI (Z1.length);(∃ x1:Nat,(x1<=Z1.length/\∀ j,j<x1->(λ c=>Ao c p) (Z1.getD j [])=false)/\((rf (vI Z3))/\(vI (0:Int)=vI (nI x1))/\(rf Z4)/\(rf Z5)/\(rf (L p.x.z.natAbs))/\(rf (L p.x.d))/\(rf (L p.y.z.natAbs))/\(rf (L p.y.d))/\(rf Z1)))/\∀ x1:Nat,let Z2:=Z1.getD x1 [];(x1<=Z1.length/\∀ j,j<x1->(λ c=>Ao c p) (Z1.getD j [])=false)->(ifB ((decide ((nI x1)<Z3))) ((0<=(nI x1)/\(nI x1)<(Z1.length:Int))/\((x1<Z1.length)/\(∃ i1:(List Dat)×Pq,[DA.agg [cB (((Z2.getD 0 (.int 0))).b),cS (((Z2.getD 1 (.int 0))).r),cS (((Z2.getD 2 (.int 0))).r),cB (((Z2.getD 3 (.int 0))).b),cS (((Z2.getD 4 (.int 0))).r),cS (((Z2.getD 5 (.int 0))).r),cB (((Z2.getD 6 (.int 0))).b),cS (((Z2.getD 7 (.int 0))).r),cS (((Z2.getD 8 (.int 0))).r)],dP p]=Ez.args i1/\Ez.pre i1/\(ifB ((Ao i1.1 i1.2)) ((vI (nI x1)=vI (Ac r p))) (∃ y2:Nat,(y2<=Z1.length/\∀ j,j<y2->(λ c=>Ao c p) (Z1.getD j [])=false)/\(Z1.length-y2<Z1.length-x1)/\((rf (vI Z3))/\(vI (wR ((nI x1)+(1:Int)))=vI (nI y2))/\(rf Z4)/\(rf Z5)/\(rf (L p.x.z.natAbs))/\(rf (L p.x.d))/\(rf (L p.y.z.natAbs))/\(rf (L p.y.d))/\(rf Z1))))))) ((vI (-1:Int)=vI (Ac r p))))) (by kernel_rfl) ?_
 conv=>zeta
 delta ifB vB vI wR nI
 have hl:((r.getD 8 (.int 0)).r).length<=1048576:=hpre.1.2.2.2.1
 refine ⟨⟨0,by
  exact ⟨Nat.zero_le _,λ j hj=>absurd hj (Nat.not_lt_zero j)⟩,?_⟩,?_⟩
 ·refine ⟨rfl,?_,rfl,rfl,rfl,rfl,rfl,rfl,rfl⟩
  first|rfl|(simp;done)
 intro (k:Nat) hki1
 have hki1:k<=((r.getD 8 (.int 0)).r).length/\∀ j,j<k->(λ c=>Ao c p) (((r.getD 8 (.int 0)).r).getD j [])=false:=hki1
 refine And.symm ⟨λ c12=>?_,λ c12=>?_⟩
 ·try simp only [nrm] at c12
  exact AF (Cp (p:=(λ c=>Ao c p)) (d:=[]) (λ j hj=>hki1.2 j (by omega))).symm
 try simp only [nrm] at c12
 refine ao (by first|rfl|omega|(simp;done)|(simp;omega)) λ o13=>?_
 refine ao (by first|rfl|omega|(simp;done)|(simp;omega)) λ o14=>?_
 refine ⟨(((r.getD 8 (.int 0)).r).getD k [],p),by
  rfl,by
  show A6 (((r.getD 8 (.int 0)).r).getD k [])/\p.good=true
  exact ⟨hpre.1.2.1 k (by omega),hpre.2⟩,?_⟩
 refine ⟨λ c18=>?_,λ c18=>?_⟩
 ·try simp only [nrm] at c18
  exact AF (Eq (p:=(λ c=>Ao c p)) (d:=[]) (by omega) hki1.2 c18).symm
 try simp only [nrm] at c18
 refine ⟨k+1,by
  exact ⟨by omega,Ag hki1.2 c18⟩,by
  first|omega|(simp;omega),?_⟩
 refine ⟨rfl,?_,rfl,rfl,rfl,rfl,rfl,rfl,rfl⟩
 first|rfl|exact AF (AD (by omega) (by omega))
def FB:Con:={ ι:=(List Dat)×Int,pre:=λ i=>True,args:=λ i=>[DA.agg [cI ((i.1.getD 0 (.int 0)).n),cI ((i.1.getD 1 (.int 0)).n)],.one (.ro (.ptr [.im (Value.int .i64 i.2)]))],res:=λ i=>⟨false,[none],[rcB (decide ((i.1.getD 1 (.int 0)).n=i.2))]⟩ }
theorem Pw:FB.Ok Tryz.prog 194:=by
 refine fok (X:=⟨tt,[],[],8,[]⟩) mixed AH (CTok.nil _) Tryz.func194 (λ _=>[]) ?_
 rintro ⟨d,w⟩ hpre
 have hpre:True:=hpre
 refine AI (q:=(vB (((d.getD 1 (.int 0)).n) == w)=vB (decide ((d.getD 1 (.int 0)).n=w)))) (by kernel_rfl) ?_
 delta vB
 exact congrArg Value.bool (U1 _ _)
def FC:Con:={ ι:=(List (List Dat))×Int,pre:=λ i=>i.1.length<=1048576/\True,args:=λ i=>[.one (DC.sl 168 [.int,.int] i.1),.one (.ro (.fn 194 [[.im (Value.int .i64 i.2)]]))],tag:=195,res:=λ i=>⟨false,[none],[rcI (CT (λ d=>decide ((d.getD 1 (.int 0)).n=i.2)) i.1)]⟩ }
theorem Px:FC.Ok Tryz.prog 193:=by
 refine fok (X:=⟨tt,[(194,FB)],[],19,[]⟩) mixed AH (CTok.cons Pw (CTok.nil _)) Tryz.func193 (λ (i:(List (List Dat))×Int)=>[(2,.mk 3 (Nat) (λ x1=>{ tm:=[(0,tX 1),(1,tX 2),(7,tI (nI i.1.length)),(8,tI (nI x1))],en:=[(1,.view 168 [.int,.int] i.1 []),(2,.ro (.fn 194 [[.im (Value.int .i64 i.2)]]) [])] }) (λ x1=>x1<=i.1.length/\∀ j,j<x1->(λ d=>decide ((d.getD 1 (.int 0)).n=i.2)) (i.1.getD j [])=false) (λ x1=>i.1.length-x1) (λ _=>[]))]) ?_
 rintro ⟨l,w⟩ hpre
 have hpre:l.length<=1048576/\True:=hpre
 refine AI (q:=let Z2:=CT (λ d=>decide ((d.getD 1 (.int 0)).n=w)) l;let Z1:=(.fn 194 [[.im (vI w)]]:RO)=.fn 194 [[.im (vI w)]];(∃ x1:Nat,(x1<=l.length/\∀ j,j<x1->(λ d=>decide ((d.getD 1 (.int 0)).n=w)) (l.getD j [])=false)/\((rf (vI (nI l.length)))/\(vI (0:Int)=vI (nI x1))/\(rf (l))/\Z1))/\∀ x1:Nat,(x1<=l.length/\∀ j,j<x1->(λ d=>decide ((d.getD 1 (.int 0)).n=w)) (l.getD j [])=false)->(ifB ((decide ((nI x1)<(nI l.length)))) ((0<=(nI x1)/\(nI x1)<(l.length:Int))/\((x1<l.length)/\(∃ i1:(List Dat)×Int,[DA.agg [cI ((((l.getD x1 []).getD 0 (.int 0))).n),cI ((((l.getD x1 []).getD 1 (.int 0))).n)],DA.one (DC.ro (.ptr [.im (vI w)]))]=FB.args i1/\FB.pre i1/\(ifB ((decide ((i1.1.getD 1 (.int 0)).n=i1.2))) ((vI (nI x1)=vI Z2)) (∃ y2:Nat,(y2<=l.length/\∀ j,j<y2->(λ d=>decide ((d.getD 1 (.int 0)).n=w)) (l.getD j [])=false)/\(l.length-y2<l.length-x1)/\((rf (vI (nI l.length)))/\(vI (wR ((nI x1)+(1:Int)))=vI (nI y2))/\(rf (l))/\Z1)))))) ((vI (-1:Int)=vI Z2)))) (by kernel_rfl) ?_
 conv=>zeta
 delta ifB vI wR nI
 refine ⟨⟨0,by
  exact ⟨Nat.zero_le _,λ j hj=>absurd hj (Nat.not_lt_zero j)⟩,?_⟩,?_⟩
 ·refine ⟨rfl,?_,rfl,?_⟩
  ·first|rfl|(simp;done)
  first|rfl|(simp;done)
 intro (k:Nat) hki1
 have hki1:k<=l.length/\∀ j,j<k->(λ d=>decide ((d.getD 1 (.int 0)).n=w)) (l.getD j [])=false:=hki1
 refine And.symm ⟨λ c7=>?_,λ c7=>?_⟩
 ·try simp only [nrm] at c7
  rw [Cp (d:=[]) (λ j hj=>hki1.2 j (by omega))]
 try simp only [nrm] at c7
 refine ao (by first|rfl|omega|(simp;done)|(simp;omega)) λ o8=>?_
 refine ao (by first|rfl|omega|(simp;done)|(simp;omega)) λ o9=>?_
 refine ⟨(l.getD k [],w),by
  rfl,by
  trivial,?_⟩
 refine ⟨λ c13=>?_,λ c13=>?_⟩
 ·try simp only [nrm] at c13
  exact AF (Eq (d:=[]) (by omega) hki1.2 (decide_eq_true c13)).symm
 try simp only [nrm] at c13
 refine ⟨k+1,by
  exact ⟨by omega,Ag hki1.2 (decide_eq_false c13)⟩,by
  first|omega|(simp;omega),?_⟩
 refine ⟨rfl,?_,rfl,?_⟩
 ·first|rfl|exact AF (AD (by omega) (by omega))
 first|rfl|exact AF (AD (by omega) (by omega))
def FD:Con:={ ι:=(List Dat)×Pq,pre:=λ i=>CF i.1/\i.2.good=true,args:=λ i=>[w50 i.1,dP i.2],res:=λ i=>⟨true,[none,none],[rcI (atZ i.1 i.2),rcI (wnZ i.1 i.2)]⟩ }
theorem Py:FD.Ok Tryz.prog 128:=by
 refine fok (X:=⟨tt,[(191,E5),(192,E9),(193,FC)],[],35,[]⟩) mixed AH (CTok.cons Pp (CTok.cons Pu (CTok.cons Px (CTok.nil _)))) Tryz.func128 (λ _=>[]) ?_
 rintro ⟨r,p⟩ hpre
 have hpre:CF r/\p.good=true:=hpre
 refine AI (q:=let Z4:=vI (-1:Int)=vI (wnZ r p);let Z3:=(vI (-1:Int)=vI (atZ r p))/\Z4;let Z2:=(r.getD 9 (.int 0)).r;∃ i1:(List Dat)×Pq,[w50 r,dP p]=E5.args i1/\E5.pre i1/\(ifB ((decide ((BA i1.1 i1.2)≥(0:Int)))) ((vI (BA i1.1 i1.2)=vI (atZ r p))/\Z4) (∃ i2:(List Dat)×Pq,let Z5:=Ac i2.1 i2.2;[w50 r,dP p]=E9.args i2/\E9.pre i2/\(∃ i3:(List (List Dat))×Int,let Z1:=CT (λ d=>decide ((d.getD 1 (.int 0)).n=i3.2)) i3.1;[DA.one (DC.sl 168 [.int,.int] Z2),DA.one (DC.ro (.fn 194 [[.im (vI Z5)]]))]=FC.args i3/\FC.pre i3/\(ifB ((!(decide (Z5<(0:Int))))) (ifB ((decide (Z1<(0:Int)))) Z3 ((0<=Z1/\Z1<(Z2.length:Int))/\((Z1.toNat<Z2.length)/\((Z1.toNat<Z2.length)/\((vI (((Z2.getD (Z1.toNat) []).getD 0 (.int 0))).n=vI (atZ r p))/\(vI Z5=vI (wnZ r p))))))) Z3))))) (by kernel_rfl) ?_
 conv=>zeta
 delta w50 ifB vI
 refine ⟨(r,p),by
  rfl,by
  show CF r/\p.good=true
  first|exact hpre|exact ⟨hpre.1.2.2.2.2.1,trivial⟩,?_⟩
 refine ⟨λ c4=>?_,λ c4=>?_⟩
 ·try simp only [nrm] at c4
  refine ⟨?_,?_⟩
  ·show Value.int .i64 (BA r p)=Value.int .i64 (atZ r p)
   first|exact AF (EB (by omega)).symm|exact AF (Er (by omega)).symm|exact AF (DE (by omega) (.inl (by omega))).symm|exact AF (DE (by omega) (.inr (by omega))).symm|exact AF (Dy (by omega) (.inl (by omega))).symm|exact AF (Dy (by omega) (.inr (by omega))).symm|exact AF (GX (by omega) (by omega) hd).symm|exact AF (HA (by omega) (by omega) hd).symm
  first|exact AF (EB (by omega)).symm|exact AF (Er (by omega)).symm|exact AF (DE (by omega) (.inl (by omega))).symm|exact AF (DE (by omega) (.inr (by omega))).symm|exact AF (Dy (by omega) (.inl (by omega))).symm|exact AF (Dy (by omega) (.inr (by omega))).symm|exact AF (GX (by omega) (by omega) hd).symm|exact AF (HA (by omega) (by omega) hd).symm
 try simp only [nrm] at c4
 refine ⟨(r,p),by
  rfl,by
  show CF r/\p.good=true
  first|exact hpre|exact ⟨hpre.1.2.2.2.2.1,trivial⟩,?_⟩
 refine ⟨(((r.getD 9 (.int 0)).r),(Ac r p)),by
  rfl,by
  show ((r.getD 9 (.int 0)).r).length<=1048576/\True
  first|exact hpre|exact ⟨hpre.1.2.2.2.2.1,trivial⟩,?_⟩
 refine And.symm ⟨λ c13=>?_,λ c13=>?_⟩
 ·try simp only [nrm] at c13
  refine ⟨?_,?_⟩
  ·first|exact AF (EB (by omega)).symm|exact AF (Er (by omega)).symm|exact AF (DE (by omega) (.inl (by omega))).symm|exact AF (DE (by omega) (.inr (by omega))).symm|exact AF (Dy (by omega) (.inl (by omega))).symm|exact AF (Dy (by omega) (.inr (by omega))).symm|exact AF (GX (by omega) (by omega) hd).symm|exact AF (HA (by omega) (by omega) hd).symm
  first|exact AF (EB (by omega)).symm|exact AF (Er (by omega)).symm|exact AF (DE (by omega) (.inl (by omega))).symm|exact AF (DE (by omega) (.inr (by omega))).symm|exact AF (Dy (by omega) (.inl (by omega))).symm|exact AF (Dy (by omega) (.inr (by omega))).symm|exact AF (GX (by omega) (by omega) hd).symm|exact AF (HA (by omega) (by omega) hd).symm
 try simp only [nrm] at c13
 refine ⟨λ c14=>?_,λ c14=>?_⟩
 ·try simp only [nrm] at c14
  have c14:Fs r (Ac r p)<0:=c14
  refine ⟨?_,?_⟩
  ·first|exact AF (EB (by omega)).symm|exact AF (Er (by omega)).symm|exact AF (DE (by omega) (.inl (by omega))).symm|exact AF (DE (by omega) (.inr (by omega))).symm|exact AF (Dy (by omega) (.inl (by omega))).symm|exact AF (Dy (by omega) (.inr (by omega))).symm|exact AF (GX (by omega) (by omega) hd).symm|exact AF (HA (by omega) (by omega) hd).symm
  first|exact AF (EB (by omega)).symm|exact AF (Er (by omega)).symm|exact AF (DE (by omega) (.inl (by omega))).symm|exact AF (DE (by omega) (.inr (by omega))).symm|exact AF (Dy (by omega) (.inl (by omega))).symm|exact AF (Dy (by omega) (.inr (by omega))).symm|exact AF (GX (by omega) (by omega) hd).symm|exact AF (HA (by omega) (by omega) hd).symm
 try simp only [nrm] at c14
 have hl:=Q4 (λ d:List Dat=>decide ((d.getD 1 (.int 0)).n=(Ac r p))) ((r.getD 9 (.int 0)).r)
 have hd:0<=Fs r (Ac r p):=by unfold Fs dsS;omega
 refine ao (a:=0<=(CT (λ d=>decide ((d.getD 1 (.int 0)).n=(Ac r p))) ((r.getD 9 (.int 0)).r))/\(CT (λ d=>decide ((d.getD 1 (.int 0)).n=(Ac r p))) ((r.getD 9 (.int 0)).r))<(((r.getD 9 (.int 0)).r).length:Int)) (by first|rfl|omega|(simp;done)|(simp;omega)) λ o17=>?_
 refine ao (a:=(CT (λ d=>decide ((d.getD 1 (.int 0)).n=(Ac r p))) ((r.getD 9 (.int 0)).r)).toNat<((r.getD 9 (.int 0)).r).length) (by first|rfl|omega|(simp;done)|(simp;omega)) λ o18=>?_
 refine ao (a:=(CT (λ d=>decide ((d.getD 1 (.int 0)).n=(Ac r p))) ((r.getD 9 (.int 0)).r)).toNat<((r.getD 9 (.int 0)).r).length) (by first|rfl|omega|(simp;done)|(simp;omega)) λ o19=>?_
 refine ⟨?_,?_⟩
 ·show Value.int .i64 (((((r.getD 9 (.int 0)).r).getD ((CT (λ d=>decide ((d.getD 1 (.int 0)).n=(Ac r p))) ((r.getD 9 (.int 0)).r)).toNat) []).getD 0 (.int 0))).n=Value.int .i64 (atZ r p)
  first|exact AF (EB (by omega)).symm|exact AF (Er (by omega)).symm|exact AF (DE (by omega) (.inl (by omega))).symm|exact AF (DE (by omega) (.inr (by omega))).symm|exact AF (Dy (by omega) (.inl (by omega))).symm|exact AF (Dy (by omega) (.inr (by omega))).symm|exact AF (GX (by omega) (by omega) hd).symm|exact AF (HA (by omega) (by omega) hd).symm
 show Value.int .i64 (Ac r p)=Value.int .i64 (wnZ r p)
 first|exact AF (EB (by omega)).symm|exact AF (Er (by omega)).symm|exact AF (DE (by omega) (.inl (by omega))).symm|exact AF (DE (by omega) (.inr (by omega))).symm|exact AF (Dy (by omega) (.inl (by omega))).symm|exact AF (Dy (by omega) (.inr (by omega))).symm|exact AF (GX (by omega) (by omega) hd).symm|exact AF (HA (by omega) (by omega) hd).symm
def FE:Con:={ ι:=(List Dat)×Pq,pre:=λ i=>CF i.1/\i.2.good=true,args:=λ i=>[w50 i.1,dP i.2],res:=λ i=>⟨false,[none],[rcI (BK i.1 i.2)]⟩ }
theorem Pz:FE.Ok Tryz.prog 69:=by
 refine fok (X:=⟨tt,[(128,FD),(85,A8)],[],25,[]⟩) mixed AH (CTok.cons Py (CTok.cons HV (CTok.nil _))) Tryz.func69 (λ _=>[]) ?_
 rintro ⟨r,p⟩ hpre
 have hpre:CF r/\p.good=true:=hpre
 refine AI (q:=let Z1:=(r.getD 10 (.int 0)).r;∃ i1:(List Dat)×Pq,let Z2:=atZ i1.1 i1.2;[w50 r,dP p]=FD.args i1/\FD.pre i1/\(∃ i2:Int×Int×Int,[DA.one (cI Z2),DA.one (cI (0:Int)),DA.one (cI (wR ((nI (Z1.length))-(1:Int))))]=A8.args i2/\A8.pre i2/\(ifB ((!(decide (i2.1≥i2.2.1) && decide (i2.1<=i2.2.2)))) ((vI (-1:Int)=vI (BK r p))) ((0<=Z2/\Z2<(Z1.length:Int))/\((Z2.toNat<Z1.length)/\((vI (((Z1.getD (Z2.toNat) []).getD 0 (.int 0))).n=vI (BK r p)))))))) (by kernel_rfl) ?_
 conv=>zeta
 delta w50 ifB vI wR nI
 have hp:((r.getD 10 (.int 0)).r).length<=1048576:=hpre.1.2.2.2.2.2
 have hw:IntKind.i64.wrap (((((r.getD 10 (.int 0)).r).length:Nat):Int)-1)=((((r.getD 10 (.int 0)).r).length:Nat):Int)-1:=AD (by omega) (by omega)
 refine ⟨(r,p),by
  rfl,by
  show CF r/\p.good=true
  first|exact hpre|trivial,?_⟩
 refine ⟨((atZ r p),(0:Int),(IntKind.i64.wrap (((((r.getD 10 (.int 0)).r).length:Nat):Int)-(1:Int)))),by
  rfl,by
  first|exact hpre|trivial,?_⟩
 refine ⟨λ c7=>?_,λ c7=>?_⟩
 ·try simp only [nrm] at c7
  rw [hw] at c7
  first|exact AF (Hh (by simp only [psS];omega)).symm|exact AF (Ft (by simp only [psS];omega)).symm
 try simp only [nrm] at c7
 rw [hw] at c7
 refine ao (a:=0<=(atZ r p)/\(atZ r p)<(((r.getD 10 (.int 0)).r).length:Int)) (by first|rfl|omega|(simp;done)|(simp;omega)) λ o9=>?_
 refine ao (a:=(atZ r p).toNat<((r.getD 10 (.int 0)).r).length) (by first|rfl|omega|(simp;done)|(simp;omega)) λ o10=>?_
 show Value.int .i64 (((((r.getD 10 (.int 0)).r).getD ((atZ r p).toNat) []).getD 0 (.int 0))).n=Value.int .i64 (BK r p)
 first|exact AF (Hh (by simp only [psS];omega)).symm|exact AF (Ft (by simp only [psS];omega)).symm
def FG:Con:={ ι:=(List Dat)×Pq,pre:=λ i=>CF i.1/\i.2.good=true,args:=λ i=>[w50 i.1,dP i.2],res:=λ i=>⟨false,[none],[rcI (BK i.1 i.2)]⟩ }
theorem P0:FG.Ok Tryz.prog 58:=by
 refine fok (X:=⟨tt,[(117,E6),(118,FA),(80,Ax)],[],49,[]⟩) mixed AH (CTok.cons Pr (CTok.cons Pv (CTok.cons G5 (CTok.nil _)))) Tryz.func58 (λ (i:(List Dat)×Pq)=>let Z1:=(i.1.getD 9 (.int 0)).r;[(4,.mk 7 (Nat) (λ x1=>{ tm:=[(2,tP 1 0),(16,tX 5),(17,tI (nI (Z1.length))),(5,tI (BA i.1 i.2)),(6,tI (Ac i.1 i.2)),(18,tI (nI x1))],en:=[(1,.box [kI ((i.1.getD 0 (.int 0)).n),kB ((i.1.getD 1 (.int 0)).b),kI ((i.1.getD 2 (.int 0)).n),kI ((i.1.getD 3 (.int 0)).n),kI ((i.1.getD 4 (.int 0)).n),kI ((i.1.getD 5 (.int 0)).n),.ext 2,.ext 3,.ext 4,.ext 5,.ext 6]),(2,.view 40 [.sl 39 [.int,.int]] ((i.1.getD 6 (.int 0)).r) []),(3,.view 158 CS ((i.1.getD 7 (.int 0)).r) []),(4,.view 153 CR ((i.1.getD 8 (.int 0)).r) []),(5,.view 168 [.int,.int] Z1 []),(6,eV ((i.1.getD 10 (.int 0)).r))] }) (λ x1=>x1<=Z1.length/\(BA i.1 i.2<0/\Ac i.1 i.2≥0->∀ j,j<x1->(λ d:List Dat=>decide ((d.getD 1 (.int 0)).n=Ac i.1 i.2)) ((dsS i.1).getD j [])=false)) (λ x1=>Z1.length-x1) (λ _=>[]))]) ?_
 rintro ⟨r,p⟩ hpre
 have hpre:CF r/\p.good=true:=hpre
 refine AI (q:=let Z18:=(vI (-1:Int)=vI (BK r p));let Z17:=Ac r p;let Z13:=(r.getD 8 (.int 0)).r;let Z12:=(r.getD 7 (.int 0)).r;let Z11:=(r.getD 6 (.int 0)).r;let Z10:=BA r p;let Z9:=vI ((r.getD 5 (.int 0)).n);let Z8:=vI ((r.getD 4 (.int 0)).n);let Z7:=vI ((r.getD 3 (.int 0)).n);let Z6:=vI ((r.getD 2 (.int 0)).n);let Z5:=vB ((r.getD 1 (.int 0)).b);let Z4:=vI ((r.getD 0 (.int 0)).n);let Z2:=(r.getD 10 (.int 0)).r;let Z16:=cI (wR ((nI (Z2.length))-(1:Int)));let Z1:=(r.getD 9 (.int 0)).r;let Z14:=vI (nI (Z1.length));∃ i1:(List Dat)×Pq,[w50 r,dP p]=E6.args i1/\E6.pre i1/\(∃ i2:(List Dat)×Pq,[w50 r,dP p]=FA.args i2/\FA.pre i2/\((∃ x1:Nat,(x1<=Z1.length/\(BA r p<0/\Ac r p≥0->∀ j,j<x1->(λ d:List Dat=>decide ((d.getD 1 (.int 0)).n=Ac r p)) ((dsS r).getD j [])=false))/\((rf Z14)/\(vI (BA i1.1 i1.2)=vI Z10)/\(vI (Ac i2.1 i2.2)=vI Z17)/\(vI (0:Int)=vI (nI x1))/\(rf Z4)/\(rf Z5)/\(rf Z6)/\(rf Z7)/\(rf Z8)/\(rf Z9)/\(rf Z11)/\(rf Z12)/\(rf Z13)/\(rf Z1)/\(rf Z2)))/\∀ x1:Nat,let Z15:=wR ((nI x1)+(1:Int));let Z3:=((Z1.getD x1 []).getD 0 (.int 0));(x1<=Z1.length/\(BA r p<0/\Ac r p≥0->∀ j,j<x1->(λ d:List Dat=>decide ((d.getD 1 (.int 0)).n=Ac r p)) ((dsS r).getD j [])=false))->(ifB ((decide ((nI x1)<(nI (Z1.length))))) ((0<=(nI x1)/\(nI x1)<(Z1.length:Int))/\((x1<Z1.length)/\(ifB ((decide (Z10<(0:Int)))) (ifB ((decide (Z17≥(0:Int)))) (ifB (((((Z1.getD x1 []).getD 1 (.int 0))).n == Z17)) (∃ i3:Int×Int×Int,[DA.one (cI (Z3.n)),DA.one (cI (0:Int)),DA.one Z16]=Ax.args i3/\Ax.pre i3/\(ifB ((!(decide (i3.1≥i3.2.1) && decide (i3.1<=i3.2.2)))) Z18 ((0<=Z3.n/\Z3.n<(Z2.length:Int))/\((Z3.n.toNat<Z2.length)/\((vI (((Z2.getD (Z3.n.toNat) []).getD 0 (.int 0))).n=vI (BK r p))))))) (∃ y2:Nat,(y2<=Z1.length/\(BA r p<0/\Ac r p≥0->∀ j,j<y2->(λ d:List Dat=>decide ((d.getD 1 (.int 0)).n=Ac r p)) ((dsS r).getD j [])=false))/\(Z1.length-y2<Z1.length-x1)/\((rf Z14)/\(rf (vI Z10))/\(rf (vI Z17))/\(vI Z15=vI (nI y2))/\(rf Z4)/\(rf Z5)/\(rf Z6)/\(rf Z7)/\(rf Z8)/\(rf Z9)/\(rf Z11)/\(rf Z12)/\(rf Z13)/\(rf Z1)/\(rf Z2)))) (∃ y3:Nat,(y3<=Z1.length/\(BA r p<0/\Ac r p≥0->∀ j,j<y3->(λ d:List Dat=>decide ((d.getD 1 (.int 0)).n=Ac r p)) ((dsS r).getD j [])=false))/\(Z1.length-y3<Z1.length-x1)/\((rf Z14)/\(rf (vI Z10))/\(rf (vI Z17))/\(vI Z15=vI (nI y3))/\(rf Z4)/\(rf Z5)/\(rf Z6)/\(rf Z7)/\(rf Z8)/\(rf Z9)/\(rf Z11)/\(rf Z12)/\(rf Z13)/\(rf Z1)/\(rf Z2)))) (∃ y4:Nat,(y4<=Z1.length/\(BA r p<0/\Ac r p≥0->∀ j,j<y4->(λ d:List Dat=>decide ((d.getD 1 (.int 0)).n=Ac r p)) ((dsS r).getD j [])=false))/\(Z1.length-y4<Z1.length-x1)/\((rf Z14)/\(rf (vI Z10))/\(rf (vI Z17))/\(vI Z15=vI (nI y4))/\(rf Z4)/\(rf Z5)/\(rf Z6)/\(rf Z7)/\(rf Z8)/\(rf Z9)/\(rf Z11)/\(rf Z12)/\(rf Z13)/\(rf Z1)/\(rf Z2)))))) (∃ i4:Int×Int×Int,[DA.one (cI Z10),DA.one (cI (0:Int)),DA.one Z16]=Ax.args i4/\Ax.pre i4/\(ifB ((!(decide (i4.1≥i4.2.1) && decide (i4.1<=i4.2.2)))) Z18 ((0<=Z10/\Z10<(Z2.length:Int))/\((Z10.toNat<Z2.length)/\((vI (((Z2.getD (Z10.toNat) []).getD 0 (.int 0))).n=vI (BK r p))))))))))) (by kernel_rfl) ?_
 conv=>zeta
 delta w50 ifB vB vI wR nI
 have hp:((r.getD 10 (.int 0)).r).length<=1048576:=hpre.1.2.2.2.2.2
 have hw:IntKind.i64.wrap (((((r.getD 10 (.int 0)).r).length:Nat):Int)-1)=((((r.getD 10 (.int 0)).r).length:Nat):Int)-1:=AD (by omega) (by omega)
 have hds:((r.getD 9 (.int 0)).r).length<=1048576:=hpre.1.2.2.2.2.1
 refine ⟨(r,p),by
  rfl,by
  show CF r/\p.good=true
  first|exact hpre|trivial,?_⟩
 refine ⟨(r,p),by
  rfl,by
  show CF r/\p.good=true
  first|exact hpre|trivial,?_⟩
 refine ⟨⟨0,by
  exact ⟨Nat.zero_le _,λ _ j hj=>absurd hj (Nat.not_lt_zero j)⟩,?_⟩,?_⟩
 ·refine ⟨rfl,rfl,rfl,?_,rfl,rfl,rfl,rfl,rfl,rfl,rfl,rfl,rfl,rfl,rfl⟩
  first|rfl|(simp;done)
 intro (k:Nat) hki7
 have hki7:k<=((r.getD 9 (.int 0)).r).length/\(BA r p<0/\Ac r p≥0->∀ j,j<k->(λ d:List Dat=>decide ((d.getD 1 (.int 0)).n=Ac r p)) ((dsS r).getD j [])=false):=hki7
 refine And.symm ⟨λ c24=>?_,λ c24=>?_⟩
 ·try simp only [nrm] at c24
  have hA:atZ r p=BA r p:=V0 (k:=k) (by simp only [dsS];omega) hki7.2
  refine ⟨((BA r p),(0:Int),(IntKind.i64.wrap (((((r.getD 10 (.int 0)).r).length:Nat):Int)-(1:Int)))),by
   rfl,by
   first|exact hpre|trivial,?_⟩
  refine ⟨λ c95=>?_,λ c95=>?_⟩
  ·try simp only [nrm] at c95
   rw [hw] at c95
   first|exact AF (Hh (by rw [hA];simp only [psS,dsS];omega)).symm|exact AF (by rw [Ft (by rw [hA];simp only [psS,dsS];omega),hA])
  try simp only [nrm] at c95
  rw [hw] at c95
  refine ao (by first|rfl|omega|(simp;done)|(simp;omega)) λ o97=>?_
  refine ao (by first|rfl|omega|(simp;done)|(simp;omega)) λ o98=>?_
  first|exact AF (Hh (by rw [hA];simp only [psS,dsS];omega)).symm|exact AF (by rw [Ft (by rw [hA];simp only [psS,dsS];omega),hA])
 try simp only [nrm] at c24
 refine ao (by first|rfl|omega|(simp;done)|(simp;omega)) λ o25=>?_
 refine ao (by first|rfl|omega|(simp;done)|(simp;omega)) λ o26=>?_
 refine And.symm ⟨λ c27=>?_,λ c27=>?_⟩
 ·try simp only [nrm] at c27
  refine ⟨k+1,by
   first|exact ⟨by omega,λ h=>absurd h.1 (by omega)⟩|exact ⟨by omega,λ h=>absurd h.2 (by omega)⟩|exact ⟨by omega,λ h=>Ag (hki7.2 h) (decide_eq_false c29)⟩,by
   first|omega|(simp;omega),?_⟩
  refine ⟨rfl,rfl,rfl,?_,rfl,rfl,rfl,rfl,rfl,rfl,rfl,rfl,rfl,rfl,rfl⟩
  first|rfl|exact AF (AD (by omega) (by omega))
 try simp only [nrm] at c27
 refine And.symm ⟨λ c28=>?_,λ c28=>?_⟩
 ·try simp only [nrm] at c28
  refine ⟨k+1,by
   first|exact ⟨by omega,λ h=>absurd h.1 (by omega)⟩|exact ⟨by omega,λ h=>absurd h.2 (by omega)⟩|exact ⟨by omega,λ h=>Ag (hki7.2 h) (decide_eq_false c29)⟩,by
   first|omega|(simp;omega),?_⟩
  refine ⟨rfl,rfl,rfl,?_,rfl,rfl,rfl,rfl,rfl,rfl,rfl,rfl,rfl,rfl,rfl⟩
  first|rfl|exact AF (AD (by omega) (by omega))
 try simp only [nrm] at c28
 refine And.symm ⟨λ c29=>?_,λ c29=>?_⟩
 ·try simp only [nrm] at c29
  refine ⟨k+1,by
   first|exact ⟨by omega,λ h=>absurd h.1 (by omega)⟩|exact ⟨by omega,λ h=>absurd h.2 (by omega)⟩|exact ⟨by omega,λ h=>Ag (hki7.2 h) (decide_eq_false c29)⟩,by
   first|omega|(simp;omega),?_⟩
  refine ⟨rfl,rfl,rfl,?_,rfl,rfl,rfl,rfl,rfl,rfl,rfl,rfl,rfl,rfl,rfl⟩
  first|rfl|exact AF (AD (by omega) (by omega))
 try simp only [nrm] at c29
 have hA:atZ r p=(((dsS r).getD k []).getD 0 (.int 0)).n:=U2 (by omega) (by omega) (by simp only [dsS];omega) (hki7.2 ⟨by omega,by omega⟩) c29
 refine ⟨((((((r.getD 9 (.int 0)).r).getD k []).getD 0 (.int 0))).n,(0:Int),(IntKind.i64.wrap (((((r.getD 10 (.int 0)).r).length:Nat):Int)-(1:Int)))),by
  rfl,by
  first|exact hpre|trivial,?_⟩
 refine ⟨λ c33=>?_,λ c33=>?_⟩
 ·try dsimp only at c33
  try simp only [nrm] at c33
  rw [hw] at c33
  first|exact AF (Hh (by rw [hA];simp only [psS,dsS];omega)).symm|exact AF (by rw [Ft (by rw [hA];simp only [psS,dsS];omega),hA])
 try dsimp only at c33
 try simp only [nrm] at c33
 rw [hw] at c33
 refine ao (by first|rfl|omega|(simp;done)|(simp;omega)) λ o35=>?_
 refine ao (by first|rfl|omega|(simp;done)|(simp;omega)) λ o36=>?_
 first|exact AF (Hh (by rw [hA];simp only [psS,dsS];omega)).symm|exact AF (by rw [Ft (by rw [hA];simp only [psS,dsS];omega),hA])
end Go.Proofs.YtmedodfenejimaaGreat
