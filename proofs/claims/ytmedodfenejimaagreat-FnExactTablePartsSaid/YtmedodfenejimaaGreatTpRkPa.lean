import Derived.Test.YtmedodfenejimaaGreatTpRkHd
import Derived.Test.YtmedodfenejimaaGreatTpRkH
namespace Go.Proofs.YtmedodfenejimaaGreat
set_option maxRecDepth 100000
set_option linter.unusedVariables false
set_option linter.unusedSimpArgs false
open Go.RowKit
def Am (r:List Dat) (o:Nat):RatD:=⟨(r.getD o (.int 0)).b,(r.getD (o+1) (.int 0)).r,(r.getD (o+2) (.int 0)).r⟩
abbrev fA (r:List Dat) (o:Nat):Fr:=frR (Am r o)
def Gi (x:RatD):List Dat:=[.bool x.neg,.sl x.num,.sl x.den]
theorem Rg (x:RatD):Am (Gi x) 0=x:=rfl
def Cu {α:Type} (p:α->Bool) (l:List α):Int:=match l.findIdx? p with|some k=>(k:Int)|none=>-1
theorem GA {α:Type} {p:α->Bool} {l:List α} {d:α} {k:Nat} (hk:k<l.length) (h:∀ j,j<k->p (l.getD j d)=false) (hp:p (l.getD k d)=true):Cu p l=(k:Int):=by
 have:l.findIdx? p=some k:=by
  rw [List.findIdx?_eq_some_iff_getElem]
  refine ⟨hk,by simpa [List.getD,hk] using hp,λ j hj=>?_⟩
  have:=h j hj
  simpa [List.getD,show j<l.length by omega] using this
 unfold Cu;rw [this]
theorem Dx {α:Type} {p:α->Bool} {l:List α} {d:α} (h:∀ j,j<l.length->p (l.getD j d)=false):Cu p l=-1:=by
 have:l.findIdx? p=none:=by
  rw [List.findIdx?_eq_none_iff]
  intro x hx
  obtain ⟨j,hj,rfl⟩:=List.getElem_of_mem hx
  have:=h j hj
  simpa [List.getD,hj] using this
 unfold Cu;rw [this]
theorem Rh {α:Type} (p:α->Bool) (l:List α):decide (Cu p l≥0)=l.any p:=by
 unfold Cu
 cases h:l.findIdx? p with
 | some k=>
  rw [List.findIdx?_eq_some_iff_getElem] at h
  obtain ⟨h1,h2,_⟩:=h
  have:l.any p=true:=List.any_eq_true.2 ⟨_,List.getElem_mem h1,h2⟩
  rw [this];simp
 | none=>
  rw [List.findIdx?_eq_none_iff] at h
  have:l.any p=false:=List.any_eq_false.2 λ x hx=>by rw [h x hx];simp
  rw [this];simp
theorem Uk {α:Type} (p:α->Bool) (l:List α):-1<=Cu p l/\Cu p l<(l.length:Int):=by
 unfold Cu
 cases h:l.findIdx? p with
 | some k=>rw [List.findIdx?_eq_some_iff_getElem] at h;obtain ⟨h1,_⟩:=h;simp only;omega
 | none=>simp only;omega
theorem C7 {P:Nat->Prop} {k:Nat} (h:∀ j,j<k->P j) (hk:P k):∀ j,j<k+1->P j:=λ j hj=>by
 by_cases e:j=k
 ·subst e;exact hk
 ·exact h j (by omega)
def okC (r:List Dat):Bool:=(okR (Am r 0) && (okR (Am r 3) && (okR (Am r 6) && (okR (Am r 9) && (okR (Am r 12) && okR (Am r 15))))))
def okW (r:List Dat):Bool:=(okR (Am r 0) && (okR (Am r 3) && okR (Am r 6)))
def CP (r:List Dat):Bool:=okC r && (decide (Fr.cmp (fA r 0) (fA r 3)<0) && (decide (Fr.cmp (fA r 6) (fA r 12)<=0) && (decide (Fr.cmp (fA r 9) (fA r 15)<=0) && decide (Fr.cmp (fA r 6) (fA r 12)+Fr.cmp (fA r 9) (fA r 15)<0))))
def C8 (r:List Dat):Bool:=okW r && decide (Fr.cmp (fA r 3) (fA r 6)<0)
def inC (r:List Dat) (p:Pq):Bool:=decide (Fr.cmp p.x (fA r 0)>0) && (decide (Fr.cmp p.x (fA r 3)<0) && (decide (Fk ⟨fA r 0,fA r 6⟩ ⟨fA r 3,fA r 9⟩ p>0) && decide (Fk ⟨fA r 0,fA r 12⟩ ⟨fA r 3,fA r 15⟩ p<0)))
def inW (r:List Dat) (p:Pq):Bool:=decide (Fr.cmp p.x (fA r 0)=0) && (decide (Fr.cmp p.y (fA r 3)>0) && decide (Fr.cmp p.y (fA r 6)<0))
def A5 (r:List Dat) (p:Pq):Bool:=CP r && inC r p
def A8 (r:List Dat) (p:Pq):Bool:=C8 r && inW r p
def Bb (r:List Dat):Prop:=(Am r 0).has/\(Am r 3).has/\(Am r 6).has/\(Am r 9).has/\(Am r 12).has/\(Am r 15).has
def Bc (r:List Dat):Prop:=(Am r 0).has/\(Am r 3).has/\(Am r 6).has
abbrev clS (r:List Dat):List (List Dat):=(r.getD 7 (.int 0)).r
abbrev wlS (r:List Dat):List (List Dat):=(r.getD 8 (.int 0)).r
abbrev dsS (r:List Dat):List (List Dat):=(r.getD 9 (.int 0)).r
abbrev psS (r:List Dat):List (List Dat):=(r.getD 10 (.int 0)).r
def Bf (r:List Dat) (p:Pq):Int:=Cu (λ c=>A5 c p) (clS r)
def Au (r:List Dat) (p:Pq):Int:=Cu (λ c=>A8 c p) (wlS r)
def G6 (r:List Dat) (w:Int):Int:=Cu (λ d=>decide ((d.getD 1 (.int 0)).n=w)) (dsS r)
def atZ (r:List Dat) (p:Pq):Int:=if Bf r p≥0 then Bf r p else if Au r p<0∨G6 r (Au r p)<0 then -1 else (((dsS r).getD (G6 r (Au r p)).toNat []).getD 0 (.int 0)).n
def DM (r:List Dat) (p:Pq):Int:=if 0<=atZ r p/\atZ r p<((psS r).length:Int) then (((psS r).getD (atZ r p).toNat []).getD 0 (.int 0)).n else -1
def wnZ (r:List Dat) (p:Pq):Int:=if Bf r p≥0 then -1 else if Au r p<0∨G6 r (Au r p)<0 then -1 else Au r p
theorem Yl (a b:Int):(a == b)=decide (a=b):=by by_cases h:a=b <;> simp [h]
section
variable {r : List Dat} {p : Pq}
theorem FI (h:0<=Bf r p):atZ r p=Bf r p:=by unfold atZ;rw [if_pos h]
theorem GB (h:0<=Bf r p):wnZ r p=-1:=by unfold wnZ;rw [if_pos h]
theorem EK (h:Bf r p<0) (h2:Au r p<0∨G6 r (Au r p)<0):atZ r p=-1:=by unfold atZ;rw [if_neg (by omega),if_pos h2]
theorem E4 (h:Bf r p<0) (h2:Au r p<0∨G6 r (Au r p)<0):wnZ r p=-1:=by unfold wnZ;rw [if_neg (by omega),if_pos h2]
theorem IA (h:Bf r p<0) (h2:0<=Au r p) (h3:0<=G6 r (Au r p)):atZ r p=(((dsS r).getD (G6 r (Au r p)).toNat []).getD 0 (.int 0)).n:=by unfold atZ;rw [if_neg (by omega),if_neg (by omega)]
theorem Iv (h:Bf r p<0) (h2:0<=Au r p) (h3:0<=G6 r (Au r p)):wnZ r p=Au r p:=by unfold wnZ;rw [if_neg (by omega),if_neg (by omega)]
theorem Ym {k:Nat} (h:Bf r p<0) (h2:0<=Au r p) (hk:k<(dsS r).length) (hn:∀ j,j<k->(λ d:List Dat=>decide ((d.getD 1 (.int 0)).n=Au r p)) ((dsS r).getD j [])=false) (hd:(((dsS r).getD k []).getD 1 (.int 0)).n=Au r p):atZ r p=(((dsS r).getD k []).getD 0 (.int 0)).n:=by
 have e:G6 r (Au r p)=(k:Int):=GA (d:=[]) hk hn (decide_eq_true hd)
 rw [IA h h2 (by omega),e,Int.toNat_natCast]
theorem Zh {k:Nat} (hk:k=(dsS r).length) (hn:Bf r p<0/\Au r p≥0->∀ j,j<k->(λ d:List Dat=>decide ((d.getD 1 (.int 0)).n=Au r p)) ((dsS r).getD j [])=false):atZ r p=Bf r p:=by
 by_cases h:0<=Bf r p
 ·exact FI h
 ·have h1:=(Uk (λ c=>A5 c p) (clS r)).1
  have h1:-1<=Bf r p:=h1
  by_cases h2:0<=Au r p
  ·have e:G6 r (Au r p)=-1:=Dx (d:=[]) (λ j hj=>hn ⟨by omega,h2⟩ j (by omega))
   rw [EK (by omega) (.inr (by omega))];omega
  ·rw [EK (by omega) (.inl (by omega))];omega
theorem JX (h:¬ (0<=atZ r p/\atZ r p<((psS r).length:Int))):DM r p=-1:=by unfold DM;rw [if_neg h]
theorem G7 (h:0<=atZ r p/\atZ r p<((psS r).length:Int)):DM r p=(((psS r).getD (atZ r p).toNat []).getD 0 (.int 0)).n:=by unfold DM;rw [if_pos h]
end
def CG (r:List Dat):Prop:=(∀ k,k<(clS r).length->Bb ((clS r).getD k []))/\(∀ k,k<(wlS r).length->Bc ((wlS r).getD k []))/\(clS r).length<=1048576/\(wlS r).length<=1048576/\(dsS r).length<=1048576/\(psS r).length<=1048576
theorem FJ {r:List Dat} {o:Nat} (hh:(Am r o).has) (h:okR (Am r o)=true):(Am r o).neg=decide ((fA r o).z<0)/\(Am r o).num=L (fA r o).z.natAbs/\(Am r o).den=L (fA r o).d/\(fA r o).d≠0:=TB hh h
def GC (r:List Dat):List (List Dat):=[Gi (Am r 0),Gi (Am r 3),Gi (Am r 6),Gi (Am r 9),Gi (Am r 12),Gi (Am r 15)]
def GD (r:List Dat):List (List Dat):=[Gi (Am r 0),Gi (Am r 3),Gi (Am r 6)]
theorem Xp (r:List Dat):((GC r).any λ x=>!(okR (Am x 0)))=!(okC r):=by
 simp only [GC,List.any_cons,List.any_nil,Rg,okC,Bool.not_and,Bool.or_false]
theorem Xq (r:List Dat):((GD r).any λ x=>!(okR (Am x 0)))=!(okW r):=by
 simp only [GD,List.any_cons,List.any_nil,Rg,okW,Bool.not_and,Bool.or_false]
theorem Zi {r:List Dat} (h:Bb r):∀ k,k<(GC r).length->(Am ((GC r).getD k []) 0).has:=λ k hk=>by
 obtain ⟨h0,h1,h2,h3,h4,h5⟩:=h
 have hk:k<6:=hk
 match k,hk with
 | 0,_=>exact h0
 | 1,_=>exact h1
 | 2,_=>exact h2
 | 3,_=>exact h3
 | 4,_=>exact h4
 | 5,_=>exact h5
theorem Zj {r:List Dat} (h:Bc r):∀ k,k<(GD r).length->(Am ((GD r).getD k []) 0).has:=λ k hk=>by
 obtain ⟨h0,h1,h2⟩:=h
 have hk:k<3:=hk
 match k,hk with
 | 0,_=>exact h0
 | 1,_=>exact h1
 | 2,_=>exact h2
theorem MN {r:List Dat} (hh:Bb r) (h:okC r=true):((Am r 0).neg=decide ((fA r 0).z<0)/\(Am r 0).num=L (fA r 0).z.natAbs/\(Am r 0).den=L (fA r 0).d/\(fA r 0).d≠0)/\((Am r 3).neg=decide ((fA r 3).z<0)/\(Am r 3).num=L (fA r 3).z.natAbs/\(Am r 3).den=L (fA r 3).d/\(fA r 3).d≠0)/\((Am r 6).neg=decide ((fA r 6).z<0)/\(Am r 6).num=L (fA r 6).z.natAbs/\(Am r 6).den=L (fA r 6).d/\(fA r 6).d≠0)/\((Am r 9).neg=decide ((fA r 9).z<0)/\(Am r 9).num=L (fA r 9).z.natAbs/\(Am r 9).den=L (fA r 9).d/\(fA r 9).d≠0)/\((Am r 12).neg=decide ((fA r 12).z<0)/\(Am r 12).num=L (fA r 12).z.natAbs/\(Am r 12).den=L (fA r 12).d/\(fA r 12).d≠0)/\((Am r 15).neg=decide ((fA r 15).z<0)/\(Am r 15).num=L (fA r 15).z.natAbs/\(Am r 15).den=L (fA r 15).d/\(fA r 15).d≠0):=by
 simp only [okC,Bool.and_eq_true] at h
 obtain ⟨h0,h1,h2,h3,h4,h5⟩:=hh
 exact ⟨FJ h0 h.1,FJ h1 h.2.1,FJ h2 h.2.2.1,FJ h3 h.2.2.2.1,FJ h4 h.2.2.2.2.1,FJ h5 h.2.2.2.2.2⟩
theorem MO {r:List Dat} (hh:Bc r) (h:okW r=true):((Am r 0).neg=decide ((fA r 0).z<0)/\(Am r 0).num=L (fA r 0).z.natAbs/\(Am r 0).den=L (fA r 0).d/\(fA r 0).d≠0)/\((Am r 3).neg=decide ((fA r 3).z<0)/\(Am r 3).num=L (fA r 3).z.natAbs/\(Am r 3).den=L (fA r 3).d/\(fA r 3).d≠0)/\((Am r 6).neg=decide ((fA r 6).z<0)/\(Am r 6).num=L (fA r 6).z.natAbs/\(Am r 6).den=L (fA r 6).d/\(fA r 6).d≠0):=by
 simp only [okW,Bool.and_eq_true] at h
 obtain ⟨h0,h1,h2⟩:=hh
 exact ⟨FJ h0 h.1,FJ h1 h.2.1,FJ h2 h.2.2⟩
theorem Px (r s:Fr):-1<=Fr.cmp r s/\Fr.cmp r s<=1:=by
 by_cases hr:r.d=0
 ·rw [Fr.cmp_bad (.inl hr)];omega
 ·by_cases hs:s.d=0
  ·rw [Fr.cmp_bad (.inr hs)];omega
  ·rw [Fr.cmp_zd hr hs];unfold CQ;split <;> (try split) <;> omega
theorem Yn {r s:Fr} (hr:r.d≠0) (hs:s.d≠0):eqF r s=decide (Fr.cmp r s=0):=by
 obtain ⟨p,hp,e1,e2⟩:=Fr.some_d hr
 obtain ⟨q,hq,e3,e4⟩:=Fr.some_d hs
 rw [Fr.cmp_zd hr hs]
 unfold eqF
 rw [e1,e2,e3,e4]
 by_cases h:p=q
 ·subst h
  have:CQ (p.num*p.den) (p.num*p.den)=0:=by unfold CQ;rw [if_neg (by omega),if_pos rfl]
  rw [this];simp
 ·have h2:p.num*q.den≠q.num*p.den:=λ e=>h (Rat.eq_iff_mul_eq_mul.2 e)
  have:¬ CQ (p.num*q.den) (q.num*p.den)=0:=by unfold CQ;split <;> simp_all
  rw [decide_eq_false this]
  cases hz:decide (p.num=q.num) with
  | false=>rfl
  | true=>
   have hz:=of_decide_eq_true hz
   rw [Bool.true_and]
   exact decide_eq_false λ e=>h (Rat.ext hz e)
theorem Ul {p:Pq} (h:p.good=true):p.x.d≠0/\p.y.d≠0:=by
 unfold Pq.good at h
 rw [Bool.and_eq_true] at h
 exact ⟨As h.1,As h.2⟩
def GE:Con:={ ι:=RatD,pre:=λ i=>i.has,args:=λ i=>[DA.agg [cB i.neg,cS i.num,cS i.den]],res:=λ i=>⟨false,[none],[rcB (!(okR i))]⟩ }
theorem TG:GE.Ok Tryz.prog 351:=by
 refine fok (X:=⟨tt,[(327,DG)],[],6,[]⟩) AI AF (CTok.cons RR (CTok.nil _)) Tryz.func351 (λ _=>[]) ?_
 intro (x:RatD) hpre
 have hpre:x.has:=hpre
 refine AH (q:=∃ i1:Bool×(List (List Dat))×(List (List Dat)),[DA.agg [cB x.neg,cS x.num,cS x.den]]=DG.args i1/\DG.pre i1/\((vB (!(Ap i1.1 i1.2.1 i1.2.2))=vB (!(okR x))))) (by kernel_rfl) ?_
 delta vB
 refine ⟨(x.neg,x.num,x.den),by
  rfl,by
  show Dat.has (.sl 3 [.int]) (.sl x.num)/\Dat.has (.sl 3 [.int]) (.sl x.den)/\x.num.length<=9223372036854775807/\x.den.length<=9223372036854775807
  first|exact ⟨hpre.1,hpre.2,AC hpre.1,AC hpre.2⟩,?_⟩
 show Value.bool (!(Ap x.neg x.num x.den))=Value.bool (!(okR x))
 rfl
def IB:Con:={ ι:=(List (List Dat)),pre:=λ i=>i.length<=9223372036854775807/\∀ k,k<i.length->(Am (i.getD k []) 0).has,args:=λ i=>[.one (DC.sl 90 z84 i),.one (.ro (.fn 351 []))],tag:=352,res:=λ i=>⟨false,[none],[rcI (Cu (λ r=>!(okR (Am r 0))) i)]⟩ }
theorem Vx:IB.Ok Tryz.prog 162:=by
 refine fok (X:=⟨tt,[(351,GE)],[],19,[]⟩) AI AF (CTok.cons TG (CTok.nil _)) Tryz.func162 (λ (i:(List (List Dat)))=>[(2,.mk 3 (Nat) (λ x1=>{ tm:=[(0,tX 1),(1,tX 2),(7,tI (nI i.length)),(8,tI (nI x1))],en:=[(1,.view 90 z84 i []),(2,.ro (.fn 351 []) [])] }) (λ x1=>x1<=i.length/\∀ j,j<x1->(λ r=>!(okR (Am r 0))) (i.getD j [])=false) (λ x1=>i.length-x1) (λ _=>[]))]) ?_
 intro (l:List (List Dat)) hpre
 have hpre:l.length<=9223372036854775807/\∀ k,k<l.length->(Am (l.getD k []) 0).has:=hpre
 refine AH (q:=let Z2:=(.fn 351 []:RO)=.fn 351 [];let Z1:=Cu (λ r=>!(okR (Am r 0))) l;(∃ x1:Nat,(x1<=l.length/\∀ j,j<x1->(λ r=>!(okR (Am r 0))) (l.getD j [])=false)/\((rf (vI (nI l.length)))/\(vI (0:Int)=vI (nI x1))/\(rf (l))/\Z2))/\∀ x1:Nat,let Z3:=l.getD x1 [];(x1<=l.length/\∀ j,j<x1->(λ r=>!(okR (Am r 0))) (l.getD j [])=false)->(ifB ((decide ((nI x1)<(nI l.length)))) ((0<=(nI x1)/\(nI x1)<(l.length:Int))/\((x1<l.length)/\(∃ i1:RatD,[DA.agg [cB (((Z3.getD 0 (.int 0))).b),cS (((Z3.getD 1 (.int 0))).r),cS (((Z3.getD 2 (.int 0))).r)]]=GE.args i1/\GE.pre i1/\(ifB ((!(okR i1))) ((vI (nI x1)=vI Z1)) (∃ y2:Nat,(y2<=l.length/\∀ j,j<y2->(λ r=>!(okR (Am r 0))) (l.getD j [])=false)/\(l.length-y2<l.length-x1)/\((rf (vI (nI l.length)))/\(vI (wR ((nI x1)+(1:Int)))=vI (nI y2))/\(rf (l))/\Z2)))))) ((vI (-1:Int)=vI Z1)))) (by kernel_rfl) ?_
 conv=>zeta
 delta ifB vI wR nI
 refine ⟨⟨0,by
  exact ⟨Nat.zero_le _,λ j hj=>absurd hj (Nat.not_lt_zero j)⟩,?_⟩,?_⟩
 ·refine ⟨rfl,?_,rfl,?_⟩
  ·first|rfl|(simp;done)
  first|rfl|(simp;done)
 intro (k:Nat) hki1
 have hki1:k<=l.length/\∀ j,j<k->(λ r=>!(okR (Am r 0))) (l.getD j [])=false:=hki1
 refine And.symm ⟨λ c7=>?_,λ c7=>?_⟩
 ·try simp only [nrm] at c7
  rw [Dx (d:=[]) (λ j hj=>hki1.2 j (by omega))]
 try simp only [nrm] at c7
 refine ao (by first|rfl|omega|(simp;done)|(simp;omega)) λ o8=>?_
 refine ao (by first|rfl|omega|(simp;done)|(simp;omega)) λ o9=>?_
 refine ⟨(Am (l.getD k []) 0),by
  rfl,by
  show (Am (l.getD k []) 0).has
  exact hpre.2 k (by omega),?_⟩
 refine ⟨λ c13=>?_,λ c13=>?_⟩
 ·try simp only [nrm] at c13
  rw [GA (d:=[]) (k:=k) (by omega) hki1.2 (by show (!(okR (Am (l.getD k []) 0)))=true;rw [c13];rfl)]
 try simp only [nrm] at c13
 refine ⟨k+1,by
  exact ⟨by omega,C7 hki1.2 (by show (!(okR (Am (l.getD k []) 0)))=false;rw [c13];rfl)⟩,by
  first|omega|(simp;omega),?_⟩
 refine ⟨rfl,?_,rfl,?_⟩
 ·first|rfl|exact AK (AD (by omega) (by omega))
 first|rfl|exact AK (AD (by omega) (by omega))
def GF:Con:={ ι:=(List (List Dat)),pre:=λ i=>i.length<=9223372036854775807/\∀ k,k<i.length->(Am (i.getD k []) 0).has,args:=λ i=>[.one (DC.sl 90 z84 i),.one (.ro (.fn 351 []))],tag:=352,res:=λ i=>⟨false,[none],[rcB (i.any (λ r=>!(okR (Am r 0))))]⟩ }
theorem TH:GF.Ok Tryz.prog 350:=by
 refine fok (X:=⟨tt,[(162,IB)],[],9,[]⟩) AI AF (CTok.cons Vx (CTok.nil _)) Tryz.func350 (λ _=>[]) ?_
 intro (l:List (List Dat)) hpre
 have hpre:l.length<=9223372036854775807/\∀ k,k<l.length->(Am (l.getD k []) 0).has:=hpre
 refine AH (q:=∃ i1:(List (List Dat)),[DA.one (DC.sl 90 z84 l),DA.one (DC.ro (.fn 351 []))]=IB.args i1/\IB.pre i1/\((vB (decide ((Cu (λ r=>!(okR (Am r 0))) i1)≥(0:Int)))=vB (l.any (λ r=>!(okR (Am r 0))))))) (by kernel_rfl) ?_
 delta vB
 refine ⟨l,by
  rfl,by
  exact hpre,?_⟩
 exact congrArg Value.bool (Rh _ _)
def C9:Con:={ ι:=(List (List Dat)),pre:=λ i=>i.length<=9223372036854775807/\∀ k,k<i.length->(Am (i.getD k []) 0).has,args:=λ i=>[.one (DC.sl 90 z84 i)],res:=λ i=>⟨false,[none],[rcB (!(i.any (λ r=>!(okR (Am r 0)))))]⟩ }
theorem Nt:C9.Ok Tryz.prog 332:=by
 refine fok (X:=⟨tt,[(350,GF)],[],6,[]⟩) AI AF (CTok.cons TH (CTok.nil _)) Tryz.func332 (λ _=>[]) ?_
 intro (l:List (List Dat)) hpre
 have hpre:l.length<=9223372036854775807/\∀ k,k<l.length->(Am (l.getD k []) 0).has:=hpre
 refine AH (q:=∃ i1:(List (List Dat)),[DA.one (DC.sl 90 z84 l),DA.one (DC.ro (.fn 351 []))]=GF.args i1/\GF.pre i1/\((vB (!(i1.any (λ r=>!(okR (Am r 0)))))=vB (!(l.any (λ r=>!(okR (Am r 0)))))))) (by kernel_rfl) ?_
 delta vB
 refine ⟨l,by
  rfl,by
  exact hpre,?_⟩
 exact rfl
def IC:Con:={ ι:=(List Dat),pre:=λ i=>Bb i,args:=λ i=>[Ih i],res:=λ i=>⟨false,[none],[rcB (CP i)]⟩ }
theorem Vy:IC.Ok Tryz.prog 284:=by
 refine fok (X:=⟨tt,[(332,C9),(153,Ab)],[],50,[]⟩) AI AF (CTok.cons Nt (CTok.cons ES (CTok.nil _))) Tryz.func284 (λ _=>[]) ?_
 intro (r:List Dat) hpre
 have hpre:Bb r:=hpre
 refine AH (q:=let Z1:=(vB false=vB (CP r));∃ i1:(List (List Dat)),[DA.one (DC.sl 90 z84 ([[Dat.bool ((r.getD 0 (.int 0)).b),Dat.sl ((r.getD 1 (.int 0)).r),Dat.sl ((r.getD 2 (.int 0)).r)],[Dat.bool ((r.getD 3 (.int 0)).b),Dat.sl ((r.getD 4 (.int 0)).r),Dat.sl ((r.getD 5 (.int 0)).r)],[Dat.bool ((r.getD 6 (.int 0)).b),Dat.sl ((r.getD 7 (.int 0)).r),Dat.sl ((r.getD 8 (.int 0)).r)],[Dat.bool ((r.getD 9 (.int 0)).b),Dat.sl ((r.getD 10 (.int 0)).r),Dat.sl ((r.getD 11 (.int 0)).r)],[Dat.bool ((r.getD 12 (.int 0)).b),Dat.sl ((r.getD 13 (.int 0)).r),Dat.sl ((r.getD 14 (.int 0)).r)],[Dat.bool ((r.getD 15 (.int 0)).b),Dat.sl ((r.getD 16 (.int 0)).r),Dat.sl ((r.getD 17 (.int 0)).r)]]:List (List Dat)))]=C9.args i1/\C9.pre i1/\(ifB ((!(!(!(i1.any (λ r=>!(okR (Am r 0)))))))) (∃ i2:Fr×Fr,[w84 r,dA r 3 4 5]=Ab.args i2/\Ab.pre i2/\(ifB ((decide ((Fr.cmp i2.1 i2.2)≥(0:Int)))) Z1 (∃ i3:Fr×Fr,[dA r 6 7 8,dA r 12 13 14]=Ab.args i3/\Ab.pre i3/\(∃ i4:Fr×Fr,[dA r 9 10 11,dA r 15 16 17]=Ab.args i4/\Ab.pre i4/\(ifB ((decide ((Fr.cmp i3.1 i3.2)<=(0:Int)))) (ifB ((decide ((Fr.cmp i4.1 i4.2)<=(0:Int)))) ((vB (decide ((wR ((Fr.cmp i3.1 i3.2)+(Fr.cmp i4.1 i4.2)))<(0:Int)))=vB (CP r))) Z1) Z1))))) Z1)) (by kernel_rfl) ?_
 conv=>zeta
 delta dA w84 ifB vB wR
 have hh:=hpre
 refine ⟨(GC r),by
  first|rfl|(simp only [a0,a1,a2,a3,a4,a5,a6,a7,a8,a9,a10,a11,a12,a13,a14,a15,a16,a17];rfl),by
  show (GC r).length<=9223372036854775807/\∀ k,k<(GC r).length->(Am ((GC r).getD k []) 0).has
  exact ⟨Nat.le_of_ble_eq_true rfl,Zi hpre⟩,?_⟩
 refine And.symm ⟨λ c4=>?_,λ c4=>?_⟩
 ·try simp only [nrm] at c4
  have q:okC r=false:=by have h:=Xp r;rw [c4] at h;simpa using h.symm
  have hE:CP r=false:=by unfold CP;rw [q];rfl
  rw [hE]
 try simp only [nrm] at c4
 have q:okC r=true:=by have h:=Xp r;rw [c4] at h;simpa using h.symm
 have hq:(((r.getD 0 (.int 0)).b=decide ((fA r 0).z<0))/\((r.getD 1 (.int 0)).r=L (fA r 0).z.natAbs)/\((r.getD 2 (.int 0)).r=L (fA r 0).d)/\(fA r 0).d≠0)/\(((r.getD 3 (.int 0)).b=decide ((fA r 3).z<0))/\((r.getD 4 (.int 0)).r=L (fA r 3).z.natAbs)/\((r.getD 5 (.int 0)).r=L (fA r 3).d)/\(fA r 3).d≠0)/\(((r.getD 6 (.int 0)).b=decide ((fA r 6).z<0))/\((r.getD 7 (.int 0)).r=L (fA r 6).z.natAbs)/\((r.getD 8 (.int 0)).r=L (fA r 6).d)/\(fA r 6).d≠0)/\(((r.getD 9 (.int 0)).b=decide ((fA r 9).z<0))/\((r.getD 10 (.int 0)).r=L (fA r 9).z.natAbs)/\((r.getD 11 (.int 0)).r=L (fA r 9).d)/\(fA r 9).d≠0)/\(((r.getD 12 (.int 0)).b=decide ((fA r 12).z<0))/\((r.getD 13 (.int 0)).r=L (fA r 12).z.natAbs)/\((r.getD 14 (.int 0)).r=L (fA r 12).d)/\(fA r 12).d≠0)/\(((r.getD 15 (.int 0)).b=decide ((fA r 15).z<0))/\((r.getD 16 (.int 0)).r=L (fA r 15).z.natAbs)/\((r.getD 17 (.int 0)).r=L (fA r 15).d)/\(fA r 15).d≠0):=MN hh q
 obtain ⟨⟨a0,a1,a2,g0⟩,⟨a3,a4,a5,g3⟩,⟨a6,a7,a8,g6⟩,⟨a9,a10,a11,g9⟩,⟨a12,a13,a14,g12⟩,⟨a15,a16,a17,g15⟩⟩:=hq
 have hV:CP r=(decide (Fr.cmp (fA r 0) (fA r 3)<0) && (decide (Fr.cmp (fA r 6) (fA r 12)<=0) && (decide (Fr.cmp (fA r 9) (fA r 15)<=0) && decide (Fr.cmp (fA r 6) (fA r 12)+Fr.cmp (fA r 9) (fA r 15)<0)))):=by unfold CP;rw [q,Bool.true_and]
 have b1:=Px (fA r 6) (fA r 12)
 have b2:=Px (fA r 9) (fA r 15)
 
 refine ⟨((fA r 0),(fA r 3)),by
  first|rfl|(simp only [a0,a1,a2,a3,a4,a5,a6,a7,a8,a9,a10,a11,a12,a13,a14,a15,a16,a17];rfl),by
  first|trivial|(first|omega|assumption|exact hpre.1|exact hpre.2|(simp;done)),?_⟩
 refine ⟨λ c8=>?_,λ c8=>?_⟩
 ·try simp only [nrm] at c8
  exact congrArg Value.bool (by rw [hV];simp_all;try omega)
 try simp only [nrm] at c8
 refine ⟨((fA r 6),(fA r 12)),by
  first|rfl|(simp only [a0,a1,a2,a3,a4,a5,a6,a7,a8,a9,a10,a11,a12,a13,a14,a15,a16,a17];rfl),by
  first|trivial|(first|omega|assumption|exact hpre.1|exact hpre.2|(simp;done)),?_⟩
 refine ⟨((fA r 9),(fA r 15)),by
  first|rfl|(simp only [a0,a1,a2,a3,a4,a5,a6,a7,a8,a9,a10,a11,a12,a13,a14,a15,a16,a17];rfl),by
  first|trivial|(first|omega|assumption|exact hpre.1|exact hpre.2|(simp;done)),?_⟩
 refine And.symm ⟨λ c16=>?_,λ c16=>?_⟩
 ·try simp only [nrm] at c16
  exact congrArg Value.bool (by rw [hV];simp_all;try omega)
 try simp only [nrm] at c16
 refine And.symm ⟨λ c17=>?_,λ c17=>?_⟩
 ·try simp only [nrm] at c17
  exact congrArg Value.bool (by rw [hV];simp_all;try omega)
 try simp only [nrm] at c17
 show Value.bool (decide ((IntKind.i64.wrap ((Fr.cmp (fA r 6) (fA r 12))+(Fr.cmp (fA r 9) (fA r 15))))<(0:Int)))=Value.bool (CP r)
 exact congrArg Value.bool (by rw [hV,AD (by omega) (by omega)];simp_all)
def ID:Con:={ ι:=(List Dat),pre:=λ i=>Bc i,args:=λ i=>[Ig i],res:=λ i=>⟨false,[none],[rcB (C8 i)]⟩ }
theorem Vz:ID.Ok Tryz.prog 286:=by
 refine fok (X:=⟨tt,[(332,C9),(153,Ab)],[],19,[]⟩) AI AF (CTok.cons Nt (CTok.cons ES (CTok.nil _))) Tryz.func286 (λ _=>[]) ?_
 intro (r:List Dat) hpre
 have hpre:Bc r:=hpre
 refine AH (q:=∃ i1:(List (List Dat)),[DA.one (DC.sl 90 z84 ([[Dat.bool ((r.getD 0 (.int 0)).b),Dat.sl ((r.getD 1 (.int 0)).r),Dat.sl ((r.getD 2 (.int 0)).r)],[Dat.bool ((r.getD 3 (.int 0)).b),Dat.sl ((r.getD 4 (.int 0)).r),Dat.sl ((r.getD 5 (.int 0)).r)],[Dat.bool ((r.getD 6 (.int 0)).b),Dat.sl ((r.getD 7 (.int 0)).r),Dat.sl ((r.getD 8 (.int 0)).r)]]:List (List Dat)))]=C9.args i1/\C9.pre i1/\(ifB ((!(i1.any (λ r=>!(okR (Am r 0)))))) (∃ i2:Fr×Fr,[dA r 3 4 5,dA r 6 7 8]=Ab.args i2/\Ab.pre i2/\((vB (decide ((Fr.cmp i2.1 i2.2)<(0:Int)))=vB (C8 r)))) ((vB false=vB (C8 r))))) (by kernel_rfl) ?_
 delta dA ifB vB
 have hh:=hpre
 refine ⟨(GD r),by
  first|rfl|(simp only [a0,a1,a2,a3,a4,a5,a6,a7,a8];rfl),by
  show (GD r).length<=9223372036854775807/\∀ k,k<(GD r).length->(Am ((GD r).getD k []) 0).has
  exact ⟨Nat.le_of_ble_eq_true rfl,Zj hpre⟩,?_⟩
 refine And.symm ⟨λ c4=>?_,λ c4=>?_⟩
 ·try simp only [nrm] at c4
  have q:okW r=false:=by have h:=Xq r;rw [c4] at h;simpa using h.symm
  exact congrArg Value.bool (by unfold C8;rw [q];rfl)
 try simp only [nrm] at c4
 have q:okW r=true:=by have h:=Xq r;rw [c4] at h;simpa using h.symm
 have hq:(((r.getD 0 (.int 0)).b=decide ((fA r 0).z<0))/\((r.getD 1 (.int 0)).r=L (fA r 0).z.natAbs)/\((r.getD 2 (.int 0)).r=L (fA r 0).d)/\(fA r 0).d≠0)/\(((r.getD 3 (.int 0)).b=decide ((fA r 3).z<0))/\((r.getD 4 (.int 0)).r=L (fA r 3).z.natAbs)/\((r.getD 5 (.int 0)).r=L (fA r 3).d)/\(fA r 3).d≠0)/\(((r.getD 6 (.int 0)).b=decide ((fA r 6).z<0))/\((r.getD 7 (.int 0)).r=L (fA r 6).z.natAbs)/\((r.getD 8 (.int 0)).r=L (fA r 6).d)/\(fA r 6).d≠0):=MO hh q
 obtain ⟨⟨a0,a1,a2,g0⟩,⟨a3,a4,a5,g3⟩,⟨a6,a7,a8,g6⟩⟩:=hq
 
 refine ⟨((fA r 3),(fA r 6)),by
  first|rfl|(simp only [a0,a1,a2,a3,a4,a5,a6,a7,a8];rfl),by
  first|trivial|(first|omega|assumption|exact hpre.1|exact hpre.2|(simp;done)),?_⟩
 show Value.bool (decide ((Fr.cmp (fA r 3) (fA r 6))<(0:Int)))=Value.bool (C8 r)
 exact congrArg Value.bool (by unfold C8;rw [q];rfl)
def Ka:Con:={ ι:=(List Dat)×Pq,pre:=λ i=>Bb i.1/\okC i.1=true,args:=λ i=>[Ih i.1,dP i.2],res:=λ i=>⟨false,[none],[rcB (inC i.1 i.2)]⟩ }
theorem Yo:Ka.Ok Tryz.prog 285:=by
 refine fok (X:=⟨tt,[(153,Ab),(328,EF)],[],55,[]⟩) AI AF (CTok.cons ES (CTok.cons Ue (CTok.nil _))) Tryz.func285 (λ _=>[]) ?_
 rintro ⟨r,p⟩ hpre
 have hpre:Bb r/\okC r=true:=hpre
 refine AH (q:=let Z1:=(vB false=vB (inC r p));∃ i1:Fr×Fr,[dF p.x,w84 r]=Ab.args i1/\Ab.pre i1/\(ifB ((!(decide ((Fr.cmp i1.1 i1.2)<=(0:Int))))) (∃ i2:Fr×Fr,[dF p.x,dA r 3 4 5]=Ab.args i2/\Ab.pre i2/\(ifB ((decide ((Fr.cmp i2.1 i2.2)≥(0:Int)))) Z1 (∃ i3:Pq×Pq×Pq,[DA.agg [cB ((r.getD 0 (.int 0)).b),cS ((r.getD 1 (.int 0)).r),cS ((r.getD 2 (.int 0)).r),cB ((r.getD 6 (.int 0)).b),cS ((r.getD 7 (.int 0)).r),cS ((r.getD 8 (.int 0)).r)],DA.agg [cB ((r.getD 3 (.int 0)).b),cS ((r.getD 4 (.int 0)).r),cS ((r.getD 5 (.int 0)).r),cB ((r.getD 9 (.int 0)).b),cS ((r.getD 10 (.int 0)).r),cS ((r.getD 11 (.int 0)).r)],dP p]=EF.args i3/\EF.pre i3/\(ifB ((decide ((Fk i3.1 i3.2.1 i3.2.2)>(0:Int)))) (∃ i4:Pq×Pq×Pq,[DA.agg [cB ((r.getD 0 (.int 0)).b),cS ((r.getD 1 (.int 0)).r),cS ((r.getD 2 (.int 0)).r),cB ((r.getD 12 (.int 0)).b),cS ((r.getD 13 (.int 0)).r),cS ((r.getD 14 (.int 0)).r)],DA.agg [cB ((r.getD 3 (.int 0)).b),cS ((r.getD 4 (.int 0)).r),cS ((r.getD 5 (.int 0)).r),cB ((r.getD 15 (.int 0)).b),cS ((r.getD 16 (.int 0)).r),cS ((r.getD 17 (.int 0)).r)],dP p]=EF.args i4/\EF.pre i4/\((vB (decide ((Fk i4.1 i4.2.1 i4.2.2)<(0:Int)))=vB (inC r p)))) Z1)))) Z1)) (by kernel_rfl) ?_
 conv=>zeta
 delta dA w84 ifB vB
 have hh:=hpre.1
 have q:=hpre.2
 have hq:(((r.getD 0 (.int 0)).b=decide ((fA r 0).z<0))/\((r.getD 1 (.int 0)).r=L (fA r 0).z.natAbs)/\((r.getD 2 (.int 0)).r=L (fA r 0).d)/\(fA r 0).d≠0)/\(((r.getD 3 (.int 0)).b=decide ((fA r 3).z<0))/\((r.getD 4 (.int 0)).r=L (fA r 3).z.natAbs)/\((r.getD 5 (.int 0)).r=L (fA r 3).d)/\(fA r 3).d≠0)/\(((r.getD 6 (.int 0)).b=decide ((fA r 6).z<0))/\((r.getD 7 (.int 0)).r=L (fA r 6).z.natAbs)/\((r.getD 8 (.int 0)).r=L (fA r 6).d)/\(fA r 6).d≠0)/\(((r.getD 9 (.int 0)).b=decide ((fA r 9).z<0))/\((r.getD 10 (.int 0)).r=L (fA r 9).z.natAbs)/\((r.getD 11 (.int 0)).r=L (fA r 9).d)/\(fA r 9).d≠0)/\(((r.getD 12 (.int 0)).b=decide ((fA r 12).z<0))/\((r.getD 13 (.int 0)).r=L (fA r 12).z.natAbs)/\((r.getD 14 (.int 0)).r=L (fA r 12).d)/\(fA r 12).d≠0)/\(((r.getD 15 (.int 0)).b=decide ((fA r 15).z<0))/\((r.getD 16 (.int 0)).r=L (fA r 15).z.natAbs)/\((r.getD 17 (.int 0)).r=L (fA r 15).d)/\(fA r 15).d≠0):=MN hh q
 obtain ⟨⟨a0,a1,a2,g0⟩,⟨a3,a4,a5,g3⟩,⟨a6,a7,a8,g6⟩,⟨a9,a10,a11,g9⟩,⟨a12,a13,a14,g12⟩,⟨a15,a16,a17,g15⟩⟩:=hq
 refine ⟨(p.x,(fA r 0)),by
  first|rfl|(simp only [a0,a1,a2,a3,a4,a5,a6,a7,a8,a9,a10,a11,a12,a13,a14,a15,a16,a17];rfl),by
  first|trivial|(first|omega|assumption|exact hpre.1|exact hpre.2|(simp;done)),?_⟩
 refine And.symm ⟨λ c4=>?_,λ c4=>?_⟩
 ·try simp only [nrm] at c4
  exact congrArg Value.bool (by unfold inC;simp_all;try omega)
 try simp only [nrm] at c4
 refine ⟨(p.x,(fA r 3)),by
  first|rfl|(simp only [a0,a1,a2,a3,a4,a5,a6,a7,a8,a9,a10,a11,a12,a13,a14,a15,a16,a17];rfl),by
  first|trivial|(first|omega|assumption|exact hpre.1|exact hpre.2|(simp;done)),?_⟩
 refine ⟨λ c8=>?_,λ c8=>?_⟩
 ·try simp only [nrm] at c8
  exact congrArg Value.bool (by unfold inC;simp_all;try omega)
 try simp only [nrm] at c8
 refine ⟨((⟨(fA r 0),(fA r 6)⟩:Pq),(⟨(fA r 3),(fA r 9)⟩:Pq),p),by
  first|rfl|(simp only [a0,a1,a2,a3,a4,a5,a6,a7,a8,a9,a10,a11,a12,a13,a14,a15,a16,a17];rfl),by
  first|trivial|(first|omega|assumption|exact hpre.1|exact hpre.2|(simp;done)),?_⟩
 refine And.symm ⟨λ c13=>?_,λ c13=>?_⟩
 ·try simp only [nrm] at c13
  exact congrArg Value.bool (by unfold inC;simp_all;try omega)
 try simp only [nrm] at c13
 refine ⟨((⟨(fA r 0),(fA r 12)⟩:Pq),(⟨(fA r 3),(fA r 15)⟩:Pq),p),by
  first|rfl|(simp only [a0,a1,a2,a3,a4,a5,a6,a7,a8,a9,a10,a11,a12,a13,a14,a15,a16,a17];rfl),by
  first|trivial|(first|omega|assumption|exact hpre.1|exact hpre.2|(simp;done)),?_⟩
 show Value.bool (decide ((Fk (⟨(fA r 0),(fA r 12)⟩:Pq) (⟨(fA r 3),(fA r 15)⟩:Pq) p)<(0:Int)))=Value.bool (inC r p)
 exact congrArg Value.bool (by unfold inC;simp_all;try omega)
def Kb:Con:={ ι:=(List Dat)×Pq,pre:=λ i=>Bc i.1/\okW i.1=true/\i.2.good=true,args:=λ i=>[Ig i.1,dP i.2],res:=λ i=>⟨false,[none],[rcB (inW i.1 i.2)]⟩ }
theorem Yp:Kb.Ok Tryz.prog 287:=by
 refine fok (X:=⟨tt,[(109,Bp),(153,Ab)],[],26,[]⟩) AI AF (CTok.cons Lw (CTok.cons ES (CTok.nil _))) Tryz.func287 (λ _=>[]) ?_
 rintro ⟨r,p⟩ hpre
 have hpre:Bc r/\okW r=true/\p.good=true:=hpre
 refine AH (q:=let Z1:=(vB false=vB (inW r p));∃ i1:Fr×Fr,[dF p.x,w84 r]=Bp.args i1/\Bp.pre i1/\(ifB ((eqF i1.1 i1.2)) (∃ i2:Fr×Fr,[dF p.y,dA r 3 4 5]=Ab.args i2/\Ab.pre i2/\(ifB ((decide ((Fr.cmp i2.1 i2.2)>(0:Int)))) (∃ i3:Fr×Fr,[dF p.y,dA r 6 7 8]=Ab.args i3/\Ab.pre i3/\((vB (decide ((Fr.cmp i3.1 i3.2)<(0:Int)))=vB (inW r p)))) Z1)) Z1)) (by kernel_rfl) ?_
 conv=>zeta
 delta dA w84 ifB vB
 have hh:=hpre.1
 have q:=hpre.2.1
 have hg:=Ul hpre.2.2
 have hq:(((r.getD 0 (.int 0)).b=decide ((fA r 0).z<0))/\((r.getD 1 (.int 0)).r=L (fA r 0).z.natAbs)/\((r.getD 2 (.int 0)).r=L (fA r 0).d)/\(fA r 0).d≠0)/\(((r.getD 3 (.int 0)).b=decide ((fA r 3).z<0))/\((r.getD 4 (.int 0)).r=L (fA r 3).z.natAbs)/\((r.getD 5 (.int 0)).r=L (fA r 3).d)/\(fA r 3).d≠0)/\(((r.getD 6 (.int 0)).b=decide ((fA r 6).z<0))/\((r.getD 7 (.int 0)).r=L (fA r 6).z.natAbs)/\((r.getD 8 (.int 0)).r=L (fA r 6).d)/\(fA r 6).d≠0):=MO hh q
 obtain ⟨⟨a0,a1,a2,g0⟩,⟨a3,a4,a5,g3⟩,⟨a6,a7,a8,g6⟩⟩:=hq
 have hE:=Yn hg.1 g0
 refine ⟨(p.x,(fA r 0)),by
  first|rfl|(simp only [a0,a1,a2,a3,a4,a5,a6,a7,a8];rfl),by
  first|trivial|(first|omega|assumption|exact hpre.1|exact hpre.2|(simp;done)),?_⟩
 refine And.symm ⟨λ c4=>?_,λ c4=>?_⟩
 ·try simp only [nrm] at c4
  exact congrArg Value.bool (by unfold inW;rw [← hE];simp_all;try omega)
 try simp only [nrm] at c4
 refine ⟨(p.y,(fA r 3)),by
  first|rfl|(simp only [a0,a1,a2,a3,a4,a5,a6,a7,a8];rfl),by
  first|trivial|(first|omega|assumption|exact hpre.1|exact hpre.2|(simp;done)),?_⟩
 refine And.symm ⟨λ c8=>?_,λ c8=>?_⟩
 ·try simp only [nrm] at c8
  exact congrArg Value.bool (by unfold inW;rw [← hE];simp_all;try omega)
 try simp only [nrm] at c8
 refine ⟨(p.y,(fA r 6)),by
  first|rfl|(simp only [a0,a1,a2,a3,a4,a5,a6,a7,a8];rfl),by
  first|trivial|(first|omega|assumption|exact hpre.1|exact hpre.2|(simp;done)),?_⟩
 show Value.bool (decide ((Fr.cmp p.y (fA r 6))<(0:Int)))=Value.bool (inW r p)
 exact congrArg Value.bool (by unfold inW;rw [← hE];simp_all;try omega)
def GG:Con:={ ι:=(List Dat)×Pq,pre:=λ i=>Bb i.1/\i.2.good=true,args:=λ i=>[Ih i.1,dP i.2],res:=λ i=>⟨false,[none],[rcB (A5 i.1 i.2)]⟩ }
theorem TJ:GG.Ok Tryz.prog 246:=by
 refine fok (X:=⟨tt,[(284,IC),(242,BQ),(285,Ka)],[],17,[]⟩) AI AF (CTok.cons Vy (CTok.cons H7 (CTok.cons Yo (CTok.nil _)))) Tryz.func246 (λ _=>[]) ?_
 rintro ⟨r,p⟩ hpre
 have hpre:Bb r/\p.good=true:=hpre
 refine AH (q:=let Z1:=(vB false=vB (A5 r p));∃ i1:(List Dat),[Ih r]=IC.args i1/\IC.pre i1/\(ifB ((CP i1)) (∃ i2:(List (List Dat)),[DA.one (DC.sl 110 L2 ([[Dat.bool (decide (p.x.z<0)),Dat.sl (L p.x.z.natAbs),Dat.sl (L p.x.d),Dat.bool (decide (p.y.z<0)),Dat.sl (L p.y.z.natAbs),Dat.sl (L p.y.d)]]:List (List Dat)))]=BQ.args i2/\BQ.pre i2/\(ifB ((!(i2.any (λ r=>!(okP (ED r)))))) (∃ i3:(List Dat)×Pq,[Ih r,dP p]=Ka.args i3/\Ka.pre i3/\((vB (inC i3.1 i3.2)=vB (A5 r p)))) Z1)) Z1)) (by kernel_rfl) ?_
 conv=>zeta
 delta Ih ifB vB
 refine ⟨r,by
  rfl,by
  exact hpre.1,?_⟩
 refine And.symm ⟨λ c4=>?_,λ c4=>?_⟩
 ·try simp only [nrm] at c4
  exact congrArg Value.bool (by unfold A5;rw [c4];rfl)
 try simp only [nrm] at c4
 have q:okC r=true:=by unfold CP at c4;rw [Bool.and_eq_true] at c4;exact c4.1
 refine ⟨[ptD (ptQ p)],by
  rfl,by
  show [ptD (ptQ p)].length<=9223372036854775807/\∀ k,k < [ptD (ptQ p)].length->(ED ([ptD (ptQ p)].getD k [])).has
  exact ⟨Nat.le_of_ble_eq_true rfl,Pp (p:=ptQ p) (Hz p)⟩,?_⟩
 refine And.symm ⟨λ c8=>?_,λ c8=>?_⟩
 ·try simp only [nrm] at c8
  have hp:=(Yg (ptQ p)).symm
  rw [Pr,hpre.2] at hp
  rw [← hp] at c8
  cases c8 -- done
 try simp only [nrm] at c8
 refine ⟨(r,p),by
  rfl,by
  show Bb r/\okC r=true
  exact ⟨hpre.1,q⟩,?_⟩
 show Value.bool (inC r p)=Value.bool (A5 r p)
 exact congrArg Value.bool (by unfold A5;rw [c4];rfl)
def GH:Con:={ ι:=(List Dat)×Pq,pre:=λ i=>Bc i.1/\i.2.good=true,args:=λ i=>[Ig i.1,dP i.2],res:=λ i=>⟨false,[none],[rcB (A8 i.1 i.2)]⟩ }
theorem TK:GH.Ok Tryz.prog 249:=by
 refine fok (X:=⟨tt,[(286,ID),(242,BQ),(287,Kb)],[],17,[]⟩) AI AF (CTok.cons Vz (CTok.cons H7 (CTok.cons Yp (CTok.nil _)))) Tryz.func249 (λ _=>[]) ?_
 rintro ⟨r,p⟩ hpre
 have hpre:Bc r/\p.good=true:=hpre
 refine AH (q:=let Z1:=(vB false=vB (A8 r p));∃ i1:(List Dat),[Ig r]=ID.args i1/\ID.pre i1/\(ifB ((C8 i1)) (∃ i2:(List (List Dat)),[DA.one (DC.sl 110 L2 ([[Dat.bool (decide (p.x.z<0)),Dat.sl (L p.x.z.natAbs),Dat.sl (L p.x.d),Dat.bool (decide (p.y.z<0)),Dat.sl (L p.y.z.natAbs),Dat.sl (L p.y.d)]]:List (List Dat)))]=BQ.args i2/\BQ.pre i2/\(ifB ((!(i2.any (λ r=>!(okP (ED r)))))) (∃ i3:(List Dat)×Pq,[Ig r,dP p]=Kb.args i3/\Kb.pre i3/\((vB (inW i3.1 i3.2)=vB (A8 r p)))) Z1)) Z1)) (by kernel_rfl) ?_
 conv=>zeta
 delta Ig ifB vB
 refine ⟨r,by
  rfl,by
  exact hpre.1,?_⟩
 refine And.symm ⟨λ c4=>?_,λ c4=>?_⟩
 ·try simp only [nrm] at c4
  exact congrArg Value.bool (by unfold A8;rw [c4];rfl)
 try simp only [nrm] at c4
 have q:okW r=true:=by unfold C8 at c4;rw [Bool.and_eq_true] at c4;exact c4.1
 refine ⟨[ptD (ptQ p)],by
  rfl,by
  show [ptD (ptQ p)].length<=9223372036854775807/\∀ k,k < [ptD (ptQ p)].length->(ED ([ptD (ptQ p)].getD k [])).has
  exact ⟨Nat.le_of_ble_eq_true rfl,Pp (p:=ptQ p) (Hz p)⟩,?_⟩
 refine And.symm ⟨λ c8=>?_,λ c8=>?_⟩
 ·try simp only [nrm] at c8
  have hp:=(Yg (ptQ p)).symm
  rw [Pr,hpre.2] at hp
  rw [← hp] at c8
  cases c8 -- done
 try simp only [nrm] at c8
 refine ⟨(r,p),by
  rfl,by
  show Bc r/\okW r=true/\p.good=true
  exact ⟨hpre.1,q,hpre.2⟩,?_⟩
 show Value.bool (inW r p)=Value.bool (A8 r p)
 exact congrArg Value.bool (by unfold A8;rw [c4];rfl)
def IE:Con:={ ι:=(List Dat),pre:=λ i=>Bb i,args:=λ i=>[Ih i],res:=λ i=>⟨false,[none],[rcB (CP i)]⟩ }
theorem V0:IE.Ok Tryz.prog 237:=by
 refine fok (X:=⟨tt,[(146,AB),(94,Ad)],[],69,[]⟩) AI AF (CTok.cons CC (CTok.cons Fj (CTok.nil _))) Tryz.func237 (λ _=>[]) ?_
 intro (r:List Dat) hpre
 have hpre:Bb r:=hpre
 refine AH (q:=let Z2:=List (List Dat);let Z1:=(vB false=vB (CP r));∃ i1:Bool×Z2×Z2×Bool,[w84 r]=AB.args i1/\AB.pre i1/\(ifB ((!(!i1.2.2.2))) (∃ i2:Bool×Z2×Z2×Bool,[dA r 3 4 5]=AB.args i2/\AB.pre i2/\(ifB ((!(!i2.2.2.2))) (∃ i3:Bool×Z2×Z2×Bool,[dA r 6 7 8]=AB.args i3/\AB.pre i3/\(ifB ((!(!i3.2.2.2))) (∃ i4:Bool×Z2×Z2×Bool,[dA r 9 10 11]=AB.args i4/\AB.pre i4/\(ifB ((!(!i4.2.2.2))) (∃ i5:Bool×Z2×Z2×Bool,[dA r 12 13 14]=AB.args i5/\AB.pre i5/\(ifB ((!(!i5.2.2.2))) (∃ i6:Bool×Z2×Z2×Bool,[dA r 15 16 17]=AB.args i6/\AB.pre i6/\(ifB ((!i6.2.2.2)) Z1 (∃ i7:Fr×Fr,[dA r 6 7 8,dA r 12 13 14]=Ad.args i7/\Ad.pre i7/\(∃ i8:Fr×Fr,[dA r 9 10 11,dA r 15 16 17]=Ad.args i8/\Ad.pre i8/\(∃ i9:Fr×Fr,[w84 r,dA r 3 4 5]=Ad.args i9/\Ad.pre i9/\(ifB ((decide ((Fr.cmp i9.1 i9.2)<(0:Int)))) (ifB ((decide ((Fr.cmp i7.1 i7.2)<=(0:Int)))) (ifB ((decide ((Fr.cmp i8.1 i8.2)<=(0:Int)))) ((vB (decide ((wR ((Fr.cmp i7.1 i7.2)+(Fr.cmp i8.1 i8.2)))<(0:Int)))=vB (CP r))) Z1) Z1) Z1)))))) Z1)) Z1)) Z1)) Z1)) Z1)) (by kernel_rfl) ?_
 conv=>zeta
 delta dA w84 ifB vB wR
 have hh:=hpre
 obtain ⟨h0,h3,h6,h9,h12,h15⟩:=hpre
 have k0:okR (Am r 0)=Ap ((r.getD 0 (.int 0)).b) ((r.getD 1 (.int 0)).r) ((r.getD 2 (.int 0)).r):=rfl
 have k3:okR (Am r 3)=Ap ((r.getD 3 (.int 0)).b) ((r.getD 4 (.int 0)).r) ((r.getD 5 (.int 0)).r):=rfl
 have k6:okR (Am r 6)=Ap ((r.getD 6 (.int 0)).b) ((r.getD 7 (.int 0)).r) ((r.getD 8 (.int 0)).r):=rfl
 have k9:okR (Am r 9)=Ap ((r.getD 9 (.int 0)).b) ((r.getD 10 (.int 0)).r) ((r.getD 11 (.int 0)).r):=rfl
 have k12:okR (Am r 12)=Ap ((r.getD 12 (.int 0)).b) ((r.getD 13 (.int 0)).r) ((r.getD 14 (.int 0)).r):=rfl
 have k15:okR (Am r 15)=Ap ((r.getD 15 (.int 0)).b) ((r.getD 16 (.int 0)).r) ((r.getD 17 (.int 0)).r):=rfl
 refine ⟨((r.getD 0 (.int 0)).b,((r.getD 1 (.int 0)).r),((r.getD 2 (.int 0)).r),(Ap ((r.getD 0 (.int 0)).b) ((r.getD 1 (.int 0)).r) ((r.getD 2 (.int 0)).r))),by
  first|rfl|(simp only [a0,a1,a2,a3,a4,a5,a6,a7,a8,a9,a10,a11,a12,a13,a14,a15,a16,a17];rfl),by
  try dsimp only [AB]
  first|trivial|exact ⟨h0.1,h0.2,AC h0.1,AC h0.2,rfl⟩|exact ⟨h3.1,h3.2,AC h3.1,AC h3.2,rfl⟩|exact ⟨h6.1,h6.2,AC h6.1,AC h6.2,rfl⟩|exact ⟨h9.1,h9.2,AC h9.1,AC h9.2,rfl⟩|exact ⟨h12.1,h12.2,AC h12.1,AC h12.2,rfl⟩|exact ⟨h15.1,h15.2,AC h15.1,AC h15.2,rfl⟩,?_⟩
 refine And.symm ⟨λ c4=>?_,λ c4=>?_⟩
 ·try simp only [nrm] at c4
  first|(exact congrArg Value.bool (by rw [hV];simp_all;try omega);done)|(exact congrArg Value.bool (by unfold CP okC;simp only [k0,k3,k6,k9,k12,k15];simp_all))
 try simp only [nrm] at c4
 refine ⟨((r.getD 3 (.int 0)).b,((r.getD 4 (.int 0)).r),((r.getD 5 (.int 0)).r),(Ap ((r.getD 3 (.int 0)).b) ((r.getD 4 (.int 0)).r) ((r.getD 5 (.int 0)).r))),by
  first|rfl|(simp only [a0,a1,a2,a3,a4,a5,a6,a7,a8,a9,a10,a11,a12,a13,a14,a15,a16,a17];rfl),by
  try dsimp only [AB]
  first|trivial|exact ⟨h0.1,h0.2,AC h0.1,AC h0.2,rfl⟩|exact ⟨h3.1,h3.2,AC h3.1,AC h3.2,rfl⟩|exact ⟨h6.1,h6.2,AC h6.1,AC h6.2,rfl⟩|exact ⟨h9.1,h9.2,AC h9.1,AC h9.2,rfl⟩|exact ⟨h12.1,h12.2,AC h12.1,AC h12.2,rfl⟩|exact ⟨h15.1,h15.2,AC h15.1,AC h15.2,rfl⟩,?_⟩
 refine And.symm ⟨λ c8=>?_,λ c8=>?_⟩
 ·try simp only [nrm] at c8
  first|(exact congrArg Value.bool (by rw [hV];simp_all;try omega);done)|(exact congrArg Value.bool (by unfold CP okC;simp only [k0,k3,k6,k9,k12,k15];simp_all))
 try simp only [nrm] at c8
 refine ⟨((r.getD 6 (.int 0)).b,((r.getD 7 (.int 0)).r),((r.getD 8 (.int 0)).r),(Ap ((r.getD 6 (.int 0)).b) ((r.getD 7 (.int 0)).r) ((r.getD 8 (.int 0)).r))),by
  first|rfl|(simp only [a0,a1,a2,a3,a4,a5,a6,a7,a8,a9,a10,a11,a12,a13,a14,a15,a16,a17];rfl),by
  try dsimp only [AB]
  first|trivial|exact ⟨h0.1,h0.2,AC h0.1,AC h0.2,rfl⟩|exact ⟨h3.1,h3.2,AC h3.1,AC h3.2,rfl⟩|exact ⟨h6.1,h6.2,AC h6.1,AC h6.2,rfl⟩|exact ⟨h9.1,h9.2,AC h9.1,AC h9.2,rfl⟩|exact ⟨h12.1,h12.2,AC h12.1,AC h12.2,rfl⟩|exact ⟨h15.1,h15.2,AC h15.1,AC h15.2,rfl⟩,?_⟩
 refine And.symm ⟨λ c12=>?_,λ c12=>?_⟩
 ·try simp only [nrm] at c12
  first|(exact congrArg Value.bool (by rw [hV];simp_all;try omega);done)|(exact congrArg Value.bool (by unfold CP okC;simp only [k0,k3,k6,k9,k12,k15];simp_all))
 try simp only [nrm] at c12
 refine ⟨((r.getD 9 (.int 0)).b,((r.getD 10 (.int 0)).r),((r.getD 11 (.int 0)).r),(Ap ((r.getD 9 (.int 0)).b) ((r.getD 10 (.int 0)).r) ((r.getD 11 (.int 0)).r))),by
  first|rfl|(simp only [a0,a1,a2,a3,a4,a5,a6,a7,a8,a9,a10,a11,a12,a13,a14,a15,a16,a17];rfl),by
  try dsimp only [AB]
  first|trivial|exact ⟨h0.1,h0.2,AC h0.1,AC h0.2,rfl⟩|exact ⟨h3.1,h3.2,AC h3.1,AC h3.2,rfl⟩|exact ⟨h6.1,h6.2,AC h6.1,AC h6.2,rfl⟩|exact ⟨h9.1,h9.2,AC h9.1,AC h9.2,rfl⟩|exact ⟨h12.1,h12.2,AC h12.1,AC h12.2,rfl⟩|exact ⟨h15.1,h15.2,AC h15.1,AC h15.2,rfl⟩,?_⟩
 refine And.symm ⟨λ c16=>?_,λ c16=>?_⟩
 ·try simp only [nrm] at c16
  first|(exact congrArg Value.bool (by rw [hV];simp_all;try omega);done)|(exact congrArg Value.bool (by unfold CP okC;simp only [k0,k3,k6,k9,k12,k15];simp_all))
 try simp only [nrm] at c16
 refine ⟨((r.getD 12 (.int 0)).b,((r.getD 13 (.int 0)).r),((r.getD 14 (.int 0)).r),(Ap ((r.getD 12 (.int 0)).b) ((r.getD 13 (.int 0)).r) ((r.getD 14 (.int 0)).r))),by
  first|rfl|(simp only [a0,a1,a2,a3,a4,a5,a6,a7,a8,a9,a10,a11,a12,a13,a14,a15,a16,a17];rfl),by
  try dsimp only [AB]
  first|trivial|exact ⟨h0.1,h0.2,AC h0.1,AC h0.2,rfl⟩|exact ⟨h3.1,h3.2,AC h3.1,AC h3.2,rfl⟩|exact ⟨h6.1,h6.2,AC h6.1,AC h6.2,rfl⟩|exact ⟨h9.1,h9.2,AC h9.1,AC h9.2,rfl⟩|exact ⟨h12.1,h12.2,AC h12.1,AC h12.2,rfl⟩|exact ⟨h15.1,h15.2,AC h15.1,AC h15.2,rfl⟩,?_⟩
 refine And.symm ⟨λ c20=>?_,λ c20=>?_⟩
 ·try simp only [nrm] at c20
  first|(exact congrArg Value.bool (by rw [hV];simp_all;try omega);done)|(exact congrArg Value.bool (by unfold CP okC;simp only [k0,k3,k6,k9,k12,k15];simp_all))
 try simp only [nrm] at c20
 refine ⟨((r.getD 15 (.int 0)).b,((r.getD 16 (.int 0)).r),((r.getD 17 (.int 0)).r),(Ap ((r.getD 15 (.int 0)).b) ((r.getD 16 (.int 0)).r) ((r.getD 17 (.int 0)).r))),by
  first|rfl|(simp only [a0,a1,a2,a3,a4,a5,a6,a7,a8,a9,a10,a11,a12,a13,a14,a15,a16,a17];rfl),by
  try dsimp only [AB]
  first|trivial|exact ⟨h0.1,h0.2,AC h0.1,AC h0.2,rfl⟩|exact ⟨h3.1,h3.2,AC h3.1,AC h3.2,rfl⟩|exact ⟨h6.1,h6.2,AC h6.1,AC h6.2,rfl⟩|exact ⟨h9.1,h9.2,AC h9.1,AC h9.2,rfl⟩|exact ⟨h12.1,h12.2,AC h12.1,AC h12.2,rfl⟩|exact ⟨h15.1,h15.2,AC h15.1,AC h15.2,rfl⟩,?_⟩
 refine ⟨λ c24=>?_,λ c24=>?_⟩
 ·try simp only [nrm] at c24
  first|(exact congrArg Value.bool (by rw [hV];simp_all;try omega);done)|(exact congrArg Value.bool (by unfold CP okC;simp only [k0,k3,k6,k9,k12,k15];simp_all))
 try simp only [nrm] at c24
 have q:okC r=true:=by unfold okC;simp only [k0,k3,k6,k9,k12,k15];simp_all
 have hq:(((r.getD 0 (.int 0)).b=decide ((fA r 0).z<0))/\((r.getD 1 (.int 0)).r=L (fA r 0).z.natAbs)/\((r.getD 2 (.int 0)).r=L (fA r 0).d)/\(fA r 0).d≠0)/\(((r.getD 3 (.int 0)).b=decide ((fA r 3).z<0))/\((r.getD 4 (.int 0)).r=L (fA r 3).z.natAbs)/\((r.getD 5 (.int 0)).r=L (fA r 3).d)/\(fA r 3).d≠0)/\(((r.getD 6 (.int 0)).b=decide ((fA r 6).z<0))/\((r.getD 7 (.int 0)).r=L (fA r 6).z.natAbs)/\((r.getD 8 (.int 0)).r=L (fA r 6).d)/\(fA r 6).d≠0)/\(((r.getD 9 (.int 0)).b=decide ((fA r 9).z<0))/\((r.getD 10 (.int 0)).r=L (fA r 9).z.natAbs)/\((r.getD 11 (.int 0)).r=L (fA r 9).d)/\(fA r 9).d≠0)/\(((r.getD 12 (.int 0)).b=decide ((fA r 12).z<0))/\((r.getD 13 (.int 0)).r=L (fA r 12).z.natAbs)/\((r.getD 14 (.int 0)).r=L (fA r 12).d)/\(fA r 12).d≠0)/\(((r.getD 15 (.int 0)).b=decide ((fA r 15).z<0))/\((r.getD 16 (.int 0)).r=L (fA r 15).z.natAbs)/\((r.getD 17 (.int 0)).r=L (fA r 15).d)/\(fA r 15).d≠0):=MN hh q
 obtain ⟨⟨a0,a1,a2,g0⟩,⟨a3,a4,a5,g3⟩,⟨a6,a7,a8,g6⟩,⟨a9,a10,a11,g9⟩,⟨a12,a13,a14,g12⟩,⟨a15,a16,a17,g15⟩⟩:=hq
 have hV:CP r=(decide (Fr.cmp (fA r 0) (fA r 3)<0) && (decide (Fr.cmp (fA r 6) (fA r 12)<=0) && (decide (Fr.cmp (fA r 9) (fA r 15)<=0) && decide (Fr.cmp (fA r 6) (fA r 12)+Fr.cmp (fA r 9) (fA r 15)<0)))):=by unfold CP;rw [q,Bool.true_and]
 have b1:=Px (fA r 6) (fA r 12)
 have b2:=Px (fA r 9) (fA r 15)
 
 refine ⟨((fA r 6),(fA r 12)),by
  first|rfl|(simp only [a0,a1,a2,a3,a4,a5,a6,a7,a8,a9,a10,a11,a12,a13,a14,a15,a16,a17];rfl),by
  first|trivial|exact ⟨h0.1,h0.2,AC h0.1,AC h0.2,rfl⟩|exact ⟨h3.1,h3.2,AC h3.1,AC h3.2,rfl⟩|exact ⟨h6.1,h6.2,AC h6.1,AC h6.2,rfl⟩|exact ⟨h9.1,h9.2,AC h9.1,AC h9.2,rfl⟩|exact ⟨h12.1,h12.2,AC h12.1,AC h12.2,rfl⟩|exact ⟨h15.1,h15.2,AC h15.1,AC h15.2,rfl⟩,?_⟩
 refine ⟨((fA r 9),(fA r 15)),by
  first|rfl|(simp only [a0,a1,a2,a3,a4,a5,a6,a7,a8,a9,a10,a11,a12,a13,a14,a15,a16,a17];rfl),by
  first|trivial|exact ⟨h0.1,h0.2,AC h0.1,AC h0.2,rfl⟩|exact ⟨h3.1,h3.2,AC h3.1,AC h3.2,rfl⟩|exact ⟨h6.1,h6.2,AC h6.1,AC h6.2,rfl⟩|exact ⟨h9.1,h9.2,AC h9.1,AC h9.2,rfl⟩|exact ⟨h12.1,h12.2,AC h12.1,AC h12.2,rfl⟩|exact ⟨h15.1,h15.2,AC h15.1,AC h15.2,rfl⟩,?_⟩
 refine ⟨((fA r 0),(fA r 3)),by
  first|rfl|(simp only [a0,a1,a2,a3,a4,a5,a6,a7,a8,a9,a10,a11,a12,a13,a14,a15,a16,a17];rfl),by
  first|trivial|exact ⟨h0.1,h0.2,AC h0.1,AC h0.2,rfl⟩|exact ⟨h3.1,h3.2,AC h3.1,AC h3.2,rfl⟩|exact ⟨h6.1,h6.2,AC h6.1,AC h6.2,rfl⟩|exact ⟨h9.1,h9.2,AC h9.1,AC h9.2,rfl⟩|exact ⟨h12.1,h12.2,AC h12.1,AC h12.2,rfl⟩|exact ⟨h15.1,h15.2,AC h15.1,AC h15.2,rfl⟩,?_⟩
 refine And.symm ⟨λ c35=>?_,λ c35=>?_⟩
 ·try simp only [nrm] at c35
  first|(exact congrArg Value.bool (by rw [hV];simp_all;try omega);done)|(exact congrArg Value.bool (by unfold CP okC;simp only [k0,k3,k6,k9,k12,k15];simp_all))
 try simp only [nrm] at c35
 refine And.symm ⟨λ c36=>?_,λ c36=>?_⟩
 ·try simp only [nrm] at c36
  first|(exact congrArg Value.bool (by rw [hV];simp_all;try omega);done)|(exact congrArg Value.bool (by unfold CP okC;simp only [k0,k3,k6,k9,k12,k15];simp_all))
 try simp only [nrm] at c36
 refine And.symm ⟨λ c37=>?_,λ c37=>?_⟩
 ·try simp only [nrm] at c37
  first|(exact congrArg Value.bool (by rw [hV];simp_all;try omega);done)|(exact congrArg Value.bool (by unfold CP okC;simp only [k0,k3,k6,k9,k12,k15];simp_all))
 try simp only [nrm] at c37
 show Value.bool (decide ((IntKind.i64.wrap ((Fr.cmp (fA r 6) (fA r 12))+(Fr.cmp (fA r 9) (fA r 15))))<(0:Int)))=Value.bool (CP r)
 exact congrArg Value.bool (by rw [hV,AD (by omega) (by omega)];simp_all)
def IF:Con:={ ι:=(List Dat),pre:=λ i=>Bc i,args:=λ i=>[Ig i],res:=λ i=>⟨false,[none],[rcB (C8 i)]⟩ }
theorem V1:IF.Ok Tryz.prog 240:=by
 refine fok (X:=⟨tt,[(146,AB),(94,Ad)],[],24,[]⟩) AI AF (CTok.cons CC (CTok.cons Fj (CTok.nil _))) Tryz.func240 (λ _=>[]) ?_
 intro (r:List Dat) hpre
 have hpre:Bc r:=hpre
 refine AH (q:=let Z2:=(vB false=vB (C8 r));let Z1:=List (List Dat);∃ i1:Bool×Z1×Z1×Bool,[w84 r]=AB.args i1/\AB.pre i1/\(ifB (i1.2.2.2) (∃ i2:Bool×Z1×Z1×Bool,[dA r 3 4 5]=AB.args i2/\AB.pre i2/\(ifB (i2.2.2.2) (∃ i3:Bool×Z1×Z1×Bool,[dA r 6 7 8]=AB.args i3/\AB.pre i3/\(ifB (i3.2.2.2) (∃ i4:Fr×Fr,[dA r 3 4 5,dA r 6 7 8]=Ad.args i4/\Ad.pre i4/\((vB (decide ((Fr.cmp i4.1 i4.2)<(0:Int)))=vB (C8 r)))) Z2)) Z2)) Z2)) (by kernel_rfl) ?_
 conv=>zeta
 delta dA w84 ifB vB
 have hh:=hpre
 obtain ⟨h0,h3,h6⟩:=hpre
 have k0:okR (Am r 0)=Ap ((r.getD 0 (.int 0)).b) ((r.getD 1 (.int 0)).r) ((r.getD 2 (.int 0)).r):=rfl
 have k3:okR (Am r 3)=Ap ((r.getD 3 (.int 0)).b) ((r.getD 4 (.int 0)).r) ((r.getD 5 (.int 0)).r):=rfl
 have k6:okR (Am r 6)=Ap ((r.getD 6 (.int 0)).b) ((r.getD 7 (.int 0)).r) ((r.getD 8 (.int 0)).r):=rfl
 refine ⟨((r.getD 0 (.int 0)).b,((r.getD 1 (.int 0)).r),((r.getD 2 (.int 0)).r),(Ap ((r.getD 0 (.int 0)).b) ((r.getD 1 (.int 0)).r) ((r.getD 2 (.int 0)).r))),by
  first|rfl|(simp only [a0,a1,a2,a3,a4,a5,a6,a7,a8];rfl),by
  try dsimp only [AB]
  first|trivial|exact ⟨h0.1,h0.2,AC h0.1,AC h0.2,rfl⟩|exact ⟨h3.1,h3.2,AC h3.1,AC h3.2,rfl⟩|exact ⟨h6.1,h6.2,AC h6.1,AC h6.2,rfl⟩,?_⟩
 refine And.symm ⟨λ c4=>?_,λ c4=>?_⟩
 ·try simp only [nrm] at c4
  first|(exact congrArg Value.bool (by unfold C8;rw [q];rfl))|(exact congrArg Value.bool (by unfold C8 okW;simp only [k0,k3,k6];simp_all))
 try simp only [nrm] at c4
 refine ⟨((r.getD 3 (.int 0)).b,((r.getD 4 (.int 0)).r),((r.getD 5 (.int 0)).r),(Ap ((r.getD 3 (.int 0)).b) ((r.getD 4 (.int 0)).r) ((r.getD 5 (.int 0)).r))),by
  first|rfl|(simp only [a0,a1,a2,a3,a4,a5,a6,a7,a8];rfl),by
  try dsimp only [AB]
  first|trivial|exact ⟨h0.1,h0.2,AC h0.1,AC h0.2,rfl⟩|exact ⟨h3.1,h3.2,AC h3.1,AC h3.2,rfl⟩|exact ⟨h6.1,h6.2,AC h6.1,AC h6.2,rfl⟩,?_⟩
 refine And.symm ⟨λ c8=>?_,λ c8=>?_⟩
 ·try simp only [nrm] at c8
  first|(exact congrArg Value.bool (by unfold C8;rw [q];rfl))|(exact congrArg Value.bool (by unfold C8 okW;simp only [k0,k3,k6];simp_all))
 try simp only [nrm] at c8
 refine ⟨((r.getD 6 (.int 0)).b,((r.getD 7 (.int 0)).r),((r.getD 8 (.int 0)).r),(Ap ((r.getD 6 (.int 0)).b) ((r.getD 7 (.int 0)).r) ((r.getD 8 (.int 0)).r))),by
  first|rfl|(simp only [a0,a1,a2,a3,a4,a5,a6,a7,a8];rfl),by
  try dsimp only [AB]
  first|trivial|exact ⟨h0.1,h0.2,AC h0.1,AC h0.2,rfl⟩|exact ⟨h3.1,h3.2,AC h3.1,AC h3.2,rfl⟩|exact ⟨h6.1,h6.2,AC h6.1,AC h6.2,rfl⟩,?_⟩
 refine And.symm ⟨λ c12=>?_,λ c12=>?_⟩
 ·try simp only [nrm] at c12
  first|(exact congrArg Value.bool (by unfold C8;rw [q];rfl))|(exact congrArg Value.bool (by unfold C8 okW;simp only [k0,k3,k6];simp_all))
 try simp only [nrm] at c12
 have q:okW r=true:=by unfold okW;simp only [k0,k3,k6];simp_all
 have hq:(((r.getD 0 (.int 0)).b=decide ((fA r 0).z<0))/\((r.getD 1 (.int 0)).r=L (fA r 0).z.natAbs)/\((r.getD 2 (.int 0)).r=L (fA r 0).d)/\(fA r 0).d≠0)/\(((r.getD 3 (.int 0)).b=decide ((fA r 3).z<0))/\((r.getD 4 (.int 0)).r=L (fA r 3).z.natAbs)/\((r.getD 5 (.int 0)).r=L (fA r 3).d)/\(fA r 3).d≠0)/\(((r.getD 6 (.int 0)).b=decide ((fA r 6).z<0))/\((r.getD 7 (.int 0)).r=L (fA r 6).z.natAbs)/\((r.getD 8 (.int 0)).r=L (fA r 6).d)/\(fA r 6).d≠0):=MO hh q
 obtain ⟨⟨a0,a1,a2,g0⟩,⟨a3,a4,a5,g3⟩,⟨a6,a7,a8,g6⟩⟩:=hq
 
 refine ⟨((fA r 3),(fA r 6)),by
  first|rfl|(simp only [a0,a1,a2,a3,a4,a5,a6,a7,a8];rfl),by
  first|trivial|exact ⟨h0.1,h0.2,AC h0.1,AC h0.2,rfl⟩|exact ⟨h3.1,h3.2,AC h3.1,AC h3.2,rfl⟩|exact ⟨h6.1,h6.2,AC h6.1,AC h6.2,rfl⟩,?_⟩
 show Value.bool (decide ((Fr.cmp (fA r 3) (fA r 6))<(0:Int)))=Value.bool (C8 r)
 first|(exact congrArg Value.bool (by unfold C8;rw [q];rfl))|(exact congrArg Value.bool (by unfold C8 okW;simp only [k0,k3,k6];simp_all))
def GI:Con:={ ι:=(List Dat)×Pq,pre:=λ i=>Bb i.1/\i.2.good=true,args:=λ i=>[Ih i.1,dP i.2],res:=λ i=>⟨false,[none],[rcB (A5 i.1 i.2)]⟩ }
theorem TL:GI.Ok Tryz.prog 182:=by
 refine fok (X:=⟨tt,[(237,IE),(238,Bw),(94,Ad),(239,DI)],[],61,[]⟩) AI AF (CTok.cons V0 (CTok.cons KZ (CTok.cons Fj (CTok.cons Ra (CTok.nil _))))) Tryz.func182 (λ _=>[]) ?_
 rintro ⟨r,p⟩ hpre
 have hpre:Bb r/\p.good=true:=hpre
 refine AH (q:=let Z1:=(vB false=vB (A5 r p));∃ i1:(List Dat),[Ih r]=IE.args i1/\IE.pre i1/\(ifB ((!(!(CP i1)))) (∃ i2:PtD×Bool,[dP p]=Bw.args i2/\Bw.pre i2/\(ifB ((!(!i2.2))) (∃ i3:Fr×Fr,[dF p.x,w84 r]=Ad.args i3/\Ad.pre i3/\(ifB ((!(decide ((Fr.cmp i3.1 i3.2)<=(0:Int))))) (∃ i4:Fr×Fr,[dF p.x,dA r 3 4 5]=Ad.args i4/\Ad.pre i4/\(ifB ((decide ((Fr.cmp i4.1 i4.2)≥(0:Int)))) Z1 (∃ i5:Pq×Pq×Pq,[DA.agg [cB ((r.getD 0 (.int 0)).b),cS ((r.getD 1 (.int 0)).r),cS ((r.getD 2 (.int 0)).r),cB ((r.getD 6 (.int 0)).b),cS ((r.getD 7 (.int 0)).r),cS ((r.getD 8 (.int 0)).r)],DA.agg [cB ((r.getD 3 (.int 0)).b),cS ((r.getD 4 (.int 0)).r),cS ((r.getD 5 (.int 0)).r),cB ((r.getD 9 (.int 0)).b),cS ((r.getD 10 (.int 0)).r),cS ((r.getD 11 (.int 0)).r)],dP p]=DI.args i5/\DI.pre i5/\(∃ i6:Pq×Pq×Pq,[DA.agg [cB ((r.getD 0 (.int 0)).b),cS ((r.getD 1 (.int 0)).r),cS ((r.getD 2 (.int 0)).r),cB ((r.getD 12 (.int 0)).b),cS ((r.getD 13 (.int 0)).r),cS ((r.getD 14 (.int 0)).r)],DA.agg [cB ((r.getD 3 (.int 0)).b),cS ((r.getD 4 (.int 0)).r),cS ((r.getD 5 (.int 0)).r),cB ((r.getD 15 (.int 0)).b),cS ((r.getD 16 (.int 0)).r),cS ((r.getD 17 (.int 0)).r)],dP p]=DI.args i6/\DI.pre i6/\(ifB ((decide ((Fk i5.1 i5.2.1 i5.2.2)>(0:Int)))) ((vB (decide ((Fk i6.1 i6.2.1 i6.2.2)<(0:Int)))=vB (A5 r p))) Z1))))) Z1)) Z1)) Z1)) (by kernel_rfl) ?_
 conv=>zeta
 delta dA Ih w84 ifB vB
 have hh:=hpre.1
 refine ⟨r,by
  first|rfl|(simp only [a0,a1,a2,a3,a4,a5,a6,a7,a8,a9,a10,a11,a12,a13,a14,a15,a16,a17];rfl),by
  exact hpre.1,?_⟩
 refine And.symm ⟨λ c4=>?_,λ c4=>?_⟩
 ·try simp only [nrm] at c4
  exact congrArg Value.bool (by unfold A5 inC;simp_all;try omega)
 try simp only [nrm] at c4
 have q:okC r=true:=by unfold CP at c4;rw [Bool.and_eq_true] at c4;exact c4.1
 have hq:(((r.getD 0 (.int 0)).b=decide ((fA r 0).z<0))/\((r.getD 1 (.int 0)).r=L (fA r 0).z.natAbs)/\((r.getD 2 (.int 0)).r=L (fA r 0).d)/\(fA r 0).d≠0)/\(((r.getD 3 (.int 0)).b=decide ((fA r 3).z<0))/\((r.getD 4 (.int 0)).r=L (fA r 3).z.natAbs)/\((r.getD 5 (.int 0)).r=L (fA r 3).d)/\(fA r 3).d≠0)/\(((r.getD 6 (.int 0)).b=decide ((fA r 6).z<0))/\((r.getD 7 (.int 0)).r=L (fA r 6).z.natAbs)/\((r.getD 8 (.int 0)).r=L (fA r 6).d)/\(fA r 6).d≠0)/\(((r.getD 9 (.int 0)).b=decide ((fA r 9).z<0))/\((r.getD 10 (.int 0)).r=L (fA r 9).z.natAbs)/\((r.getD 11 (.int 0)).r=L (fA r 9).d)/\(fA r 9).d≠0)/\(((r.getD 12 (.int 0)).b=decide ((fA r 12).z<0))/\((r.getD 13 (.int 0)).r=L (fA r 12).z.natAbs)/\((r.getD 14 (.int 0)).r=L (fA r 12).d)/\(fA r 12).d≠0)/\(((r.getD 15 (.int 0)).b=decide ((fA r 15).z<0))/\((r.getD 16 (.int 0)).r=L (fA r 15).z.natAbs)/\((r.getD 17 (.int 0)).r=L (fA r 15).d)/\(fA r 15).d≠0):=MN hh q
 obtain ⟨⟨a0,a1,a2,g0⟩,⟨a3,a4,a5,g3⟩,⟨a6,a7,a8,g6⟩,⟨a9,a10,a11,g9⟩,⟨a12,a13,a14,g12⟩,⟨a15,a16,a17,g15⟩⟩:=hq
 refine ⟨((ptQ p),p.good),by
  first|rfl|(simp only [a0,a1,a2,a3,a4,a5,a6,a7,a8,a9,a10,a11,a12,a13,a14,a15,a16,a17];rfl),by
  show (ptQ p).has/\okP (ptQ p)=p.good
  exact ⟨Hz p,Pr p⟩,?_⟩
 refine And.symm ⟨λ c8=>?_,λ c8=>?_⟩
 ·try simp only [nrm] at c8
  rw [hpre.2] at c8
  cases c8 -- done
 try simp only [nrm] at c8
 refine ⟨(p.x,(fA r 0)),by
  first|rfl|(simp only [a0,a1,a2,a3,a4,a5,a6,a7,a8,a9,a10,a11,a12,a13,a14,a15,a16,a17];rfl),by
  first|trivial|(first|omega|assumption|exact hpre.1|exact hpre.2|(simp;done)),?_⟩
 refine And.symm ⟨λ c12=>?_,λ c12=>?_⟩
 ·try simp only [nrm] at c12
  exact congrArg Value.bool (by unfold A5 inC;simp_all;try omega)
 try simp only [nrm] at c12
 refine ⟨(p.x,(fA r 3)),by
  first|rfl|(simp only [a0,a1,a2,a3,a4,a5,a6,a7,a8,a9,a10,a11,a12,a13,a14,a15,a16,a17];rfl),by
  first|trivial|(first|omega|assumption|exact hpre.1|exact hpre.2|(simp;done)),?_⟩
 refine ⟨λ c16=>?_,λ c16=>?_⟩
 ·try simp only [nrm] at c16
  exact congrArg Value.bool (by unfold A5 inC;simp_all;try omega)
 try simp only [nrm] at c16
 refine ⟨((⟨(fA r 0),(fA r 6)⟩:Pq),(⟨(fA r 3),(fA r 9)⟩:Pq),p),by
  first|rfl|(simp only [a0,a1,a2,a3,a4,a5,a6,a7,a8,a9,a10,a11,a12,a13,a14,a15,a16,a17];rfl),by
  first|trivial|(first|omega|assumption|exact hpre.1|exact hpre.2|(simp;done)),?_⟩
 refine ⟨((⟨(fA r 0),(fA r 12)⟩:Pq),(⟨(fA r 3),(fA r 15)⟩:Pq),p),by
  first|rfl|(simp only [a0,a1,a2,a3,a4,a5,a6,a7,a8,a9,a10,a11,a12,a13,a14,a15,a16,a17];rfl),by
  first|trivial|(first|omega|assumption|exact hpre.1|exact hpre.2|(simp;done)),?_⟩
 refine And.symm ⟨λ c24=>?_,λ c24=>?_⟩
 ·try simp only [nrm] at c24
  exact congrArg Value.bool (by unfold A5 inC;simp_all;try omega)
 try simp only [nrm] at c24
 show Value.bool (decide ((Fk (⟨(fA r 0),(fA r 12)⟩:Pq) (⟨(fA r 3),(fA r 15)⟩:Pq) p)<(0:Int)))=Value.bool (A5 r p)
 exact congrArg Value.bool (by unfold A5 inC;simp_all;try omega)
def GJ:Con:={ ι:=(List Dat)×Pq,pre:=λ i=>Bc i.1/\i.2.good=true,args:=λ i=>[Ig i.1,dP i.2],res:=λ i=>⟨false,[none],[rcB (A8 i.1 i.2)]⟩ }
theorem TM:GJ.Ok Tryz.prog 183:=by
 refine fok (X:=⟨tt,[(240,IF),(238,Bw),(94,Ad)],[],35,[]⟩) AI AF (CTok.cons V1 (CTok.cons KZ (CTok.cons Fj (CTok.nil _)))) Tryz.func183 (λ _=>[]) ?_
 rintro ⟨r,p⟩ hpre
 have hpre:Bc r/\p.good=true:=hpre
 refine AH (q:=let Z1:=(vB false=vB (A8 r p));∃ i1:(List Dat),[Ig r]=IF.args i1/\IF.pre i1/\(ifB ((C8 i1)) (∃ i2:PtD×Bool,[dP p]=Bw.args i2/\Bw.pre i2/\(ifB (i2.2) (∃ i3:Fr×Fr,[dF p.x,w84 r]=Ad.args i3/\Ad.pre i3/\(ifB (((Fr.cmp i3.1 i3.2) == (0:Int))) (∃ i4:Fr×Fr,[dF p.y,dA r 3 4 5]=Ad.args i4/\Ad.pre i4/\(ifB ((decide ((Fr.cmp i4.1 i4.2)>(0:Int)))) (∃ i5:Fr×Fr,[dF p.y,dA r 6 7 8]=Ad.args i5/\Ad.pre i5/\((vB (decide ((Fr.cmp i5.1 i5.2)<(0:Int)))=vB (A8 r p)))) Z1)) Z1)) Z1)) Z1)) (by kernel_rfl) ?_
 conv=>zeta
 delta dA Ig w84 ifB vB
 have hh:=hpre.1
 have hg:=Ul hpre.2
 refine ⟨r,by
  first|rfl|(simp only [a0,a1,a2,a3,a4,a5,a6,a7,a8];rfl),by
  exact hpre.1,?_⟩
 refine And.symm ⟨λ c4=>?_,λ c4=>?_⟩
 ·try simp only [nrm] at c4
  exact congrArg Value.bool (by unfold A8 inW;simp_all;try omega)
 try simp only [nrm] at c4
 have q:okW r=true:=by unfold C8 at c4;rw [Bool.and_eq_true] at c4;exact c4.1
 have hq:(((r.getD 0 (.int 0)).b=decide ((fA r 0).z<0))/\((r.getD 1 (.int 0)).r=L (fA r 0).z.natAbs)/\((r.getD 2 (.int 0)).r=L (fA r 0).d)/\(fA r 0).d≠0)/\(((r.getD 3 (.int 0)).b=decide ((fA r 3).z<0))/\((r.getD 4 (.int 0)).r=L (fA r 3).z.natAbs)/\((r.getD 5 (.int 0)).r=L (fA r 3).d)/\(fA r 3).d≠0)/\(((r.getD 6 (.int 0)).b=decide ((fA r 6).z<0))/\((r.getD 7 (.int 0)).r=L (fA r 6).z.natAbs)/\((r.getD 8 (.int 0)).r=L (fA r 6).d)/\(fA r 6).d≠0):=MO hh q
 obtain ⟨⟨a0,a1,a2,g0⟩,⟨a3,a4,a5,g3⟩,⟨a6,a7,a8,g6⟩⟩:=hq
 refine ⟨((ptQ p),p.good),by
  first|rfl|(simp only [a0,a1,a2,a3,a4,a5,a6,a7,a8];rfl),by
  show (ptQ p).has/\okP (ptQ p)=p.good
  exact ⟨Hz p,Pr p⟩,?_⟩
 refine And.symm ⟨λ c8=>?_,λ c8=>?_⟩
 ·try simp only [nrm] at c8
  rw [hpre.2] at c8
  cases c8 -- done
 try simp only [nrm] at c8
 refine ⟨(p.x,(fA r 0)),by
  first|rfl|(simp only [a0,a1,a2,a3,a4,a5,a6,a7,a8];rfl),by
  first|trivial|(first|omega|assumption|exact hpre.1|exact hpre.2|(simp;done)),?_⟩
 refine And.symm ⟨λ c12=>?_,λ c12=>?_⟩
 ·try simp only [nrm] at c12
  exact congrArg Value.bool (by unfold A8 inW;simp_all;try omega)
 try simp only [nrm] at c12
 refine ⟨(p.y,(fA r 3)),by
  first|rfl|(simp only [a0,a1,a2,a3,a4,a5,a6,a7,a8];rfl),by
  first|trivial|(first|omega|assumption|exact hpre.1|exact hpre.2|(simp;done)),?_⟩
 refine And.symm ⟨λ c16=>?_,λ c16=>?_⟩
 ·try simp only [nrm] at c16
  exact congrArg Value.bool (by unfold A8 inW;simp_all;try omega)
 try simp only [nrm] at c16
 refine ⟨(p.y,(fA r 6)),by
  first|rfl|(simp only [a0,a1,a2,a3,a4,a5,a6,a7,a8];rfl),by
  first|trivial|(first|omega|assumption|exact hpre.1|exact hpre.2|(simp;done)),?_⟩
 show Value.bool (decide ((Fr.cmp p.y (fA r 6))<(0:Int)))=Value.bool (A8 r p)
 exact congrArg Value.bool (by unfold A8 inW;simp_all;try omega)
def GK:Con:={ ι:=(List Dat)×Pq,pre:=λ i=>Bb i.1/\i.2.good=true,args:=λ i=>[Ih i.1,.one (.ro (.ptr [.im (Value.bool (decide (i.2.x.z<0))),.sl 3 [.int] (L i.2.x.z.natAbs),.sl 3 [.int] (L i.2.x.d),.im (Value.bool (decide (i.2.y.z<0))),.sl 3 [.int] (L i.2.y.z.natAbs),.sl 3 [.int] (L i.2.y.d)]))],res:=λ i=>⟨false,[none],[rcB (A5 i.1 i.2)]⟩ }
theorem TN:GK.Ok Tryz.prog 245:=by
 refine fok (X:=⟨tt,[(246,GG)],[],7,[]⟩) AI AF (CTok.cons TJ (CTok.nil _)) Tryz.func245 (λ _=>[]) ?_
 rintro ⟨r,p⟩ hpre
 have hpre:Bb r/\p.good=true:=hpre
 refine AH (q:=∃ i1:(List Dat)×Pq,[Ih r,dP p]=GG.args i1/\GG.pre i1/\((vB (A5 i1.1 i1.2)=vB (A5 r p)))) (by kernel_rfl) ?_
 delta Ih vB
 refine ⟨(r,p),by
  rfl,by
  exact hpre,?_⟩
 exact rfl
def GL:Con:={ ι:=(List (List Dat))×Pq,pre:=λ i=>i.1.length<=1048576/\(∀ k,k<i.1.length->Bb (i.1.getD k []))/\i.2.good=true,args:=λ i=>[.one (DC.sl 158 E8 i.1),.one (.ro (.fn 245 [[.im (Value.bool (decide (i.2.x.z<0))),.sl 3 [.int] (L i.2.x.z.natAbs),.sl 3 [.int] (L i.2.x.d),.im (Value.bool (decide (i.2.y.z<0))),.sl 3 [.int] (L i.2.y.z.natAbs),.sl 3 [.int] (L i.2.y.d)]]))],tag:=246,res:=λ i=>⟨false,[none],[rcI (Cu (λ c=>A5 c i.2) i.1)]⟩ }
theorem TO:GL.Ok Tryz.prog 244:=by
 refine fok (X:=⟨tt,[(245,GK)],[],19,[]⟩) AI AF (CTok.cons TN (CTok.nil _)) Tryz.func244 (λ (i:(List (List Dat))×Pq)=>[(2,.mk 3 (Nat) (λ x1=>{ tm:=[(0,tX 1),(1,tX 2),(7,tI (nI i.1.length)),(8,tI (nI x1))],en:=[(1,.view 158 E8 i.1 []),(2,.ro (.fn 245 [[.im (Value.bool (decide (i.2.x.z<0))),.sl 3 [.int] (L i.2.x.z.natAbs),.sl 3 [.int] (L i.2.x.d),.im (Value.bool (decide (i.2.y.z<0))),.sl 3 [.int] (L i.2.y.z.natAbs),.sl 3 [.int] (L i.2.y.d)]]) [])] }) (λ x1=>x1<=i.1.length/\∀ j,j<x1->(λ c=>A5 c i.2) (i.1.getD j [])=false) (λ x1=>i.1.length-x1) (λ _=>[]))]) ?_
 rintro ⟨l,p⟩ hpre
 have hpre:l.length<=1048576/\(∀ k,k<l.length->Bb (l.getD k []))/\p.good=true:=hpre
 refine AH (q:=let Z7:=L p.y.z.natAbs;let Z6:=L p.x.z.natAbs;let Z5:=Cu (λ c=>A5 c p) l;let Z4:=vB (decide (p.y.z<0));let Z3:=vB (decide (p.x.z<0));let Z1:=(.fn 245 [[.im Z3,.sl 3 [.int] Z6,.sl 3 [.int] (L p.x.d),.im Z4,.sl 3 [.int] Z7,.sl 3 [.int] (L p.y.d)]]:RO)=.fn 245 [[.im Z3,.sl 3 [.int] Z6,.sl 3 [.int] (L p.x.d),.im Z4,.sl 3 [.int] Z7,.sl 3 [.int] (L p.y.d)]];(∃ x1:Nat,(x1<=l.length/\∀ j,j<x1->(λ c=>A5 c p) (l.getD j [])=false)/\((rf (vI (nI l.length)))/\(vI (0:Int)=vI (nI x1))/\(rf (l))/\Z1))/\∀ x1:Nat,let Z2:=l.getD x1 [];(x1<=l.length/\∀ j,j<x1->(λ c=>A5 c p) (l.getD j [])=false)->(ifB ((decide ((nI x1)<(nI l.length)))) ((0<=(nI x1)/\(nI x1)<(l.length:Int))/\((x1<l.length)/\(∃ i1:(List Dat)×Pq,[DA.agg [cB (((Z2.getD 0 (.int 0))).b),cS (((Z2.getD 1 (.int 0))).r),cS (((Z2.getD 2 (.int 0))).r),cB (((Z2.getD 3 (.int 0))).b),cS (((Z2.getD 4 (.int 0))).r),cS (((Z2.getD 5 (.int 0))).r),cB (((Z2.getD 6 (.int 0))).b),cS (((Z2.getD 7 (.int 0))).r),cS (((Z2.getD 8 (.int 0))).r),cB (((Z2.getD 9 (.int 0))).b),cS (((Z2.getD 10 (.int 0))).r),cS (((Z2.getD 11 (.int 0))).r),cB (((Z2.getD 12 (.int 0))).b),cS (((Z2.getD 13 (.int 0))).r),cS (((Z2.getD 14 (.int 0))).r),cB (((Z2.getD 15 (.int 0))).b),cS (((Z2.getD 16 (.int 0))).r),cS (((Z2.getD 17 (.int 0))).r)],DA.one (DC.ro (.ptr [.im Z3,.sl 3 [.int] Z6,.sl 3 [.int] (L p.x.d),.im Z4,.sl 3 [.int] Z7,.sl 3 [.int] (L p.y.d)]))]=GK.args i1/\GK.pre i1/\(ifB ((A5 i1.1 i1.2)) ((vI (nI x1)=vI Z5)) (∃ y2:Nat,(y2<=l.length/\∀ j,j<y2->(λ c=>A5 c p) (l.getD j [])=false)/\(l.length-y2<l.length-x1)/\((rf (vI (nI l.length)))/\(vI (wR ((nI x1)+(1:Int)))=vI (nI y2))/\(rf (l))/\Z1)))))) ((vI (-1:Int)=vI Z5)))) (by kernel_rfl) ?_
 conv=>zeta
 delta ifB vB vI wR nI
 refine ⟨⟨0,by
  exact ⟨Nat.zero_le _,λ j hj=>absurd hj (Nat.not_lt_zero j)⟩,?_⟩,?_⟩
 ·refine ⟨rfl,?_,rfl,?_⟩
  ·first|rfl|(simp;done)
  first|rfl|(simp;done)
 intro (k:Nat) hki1
 have hki1:k<=l.length/\∀ j,j<k->(λ c=>A5 c p) (l.getD j [])=false:=hki1
 refine And.symm ⟨λ c7=>?_,λ c7=>?_⟩
 ·try simp only [nrm] at c7
  rw [Dx (d:=[]) (λ j hj=>hki1.2 j (by omega))]
 try simp only [nrm] at c7
 refine ao (by first|rfl|omega|(simp;done)|(simp;omega)) λ o8=>?_
 refine ao (by first|rfl|omega|(simp;done)|(simp;omega)) λ o9=>?_
 refine ⟨(l.getD k [],p),by
  rfl,by
  show Bb (l.getD k [])/\p.good=true
  exact ⟨hpre.2.1 k (by omega),hpre.2.2⟩,?_⟩
 refine ⟨λ c13=>?_,λ c13=>?_⟩
 ·try simp only [nrm] at c13
  exact AK (GA (d:=[]) (by omega) hki1.2 (c13)).symm
 try simp only [nrm] at c13
 refine ⟨k+1,by
  exact ⟨by omega,C7 hki1.2 (c13)⟩,by
  first|omega|(simp;omega),?_⟩
 refine ⟨rfl,?_,rfl,?_⟩
 ·first|rfl|exact AK (AD (by omega) (by omega))
 first|rfl|exact AK (AD (by omega) (by omega))
def GM:Con:={ ι:=(List Dat)×Pq,pre:=λ i=>CG i.1/\i.2.good=true,args:=λ i=>[w50 i.1,dP i.2],res:=λ i=>⟨false,[none],[rcI (Bf i.1 i.2)]⟩ }
theorem TP:GM.Ok Tryz.prog 191:=by
 refine fok (X:=⟨tt,[(244,GL)],[],9,[]⟩) AI AF (CTok.cons TO (CTok.nil _)) Tryz.func191 (λ _=>[]) ?_
 rintro ⟨r,p⟩ hpre
 have hpre:CG r/\p.good=true:=hpre
 refine AH (q:=∃ i1:(List (List Dat))×Pq,[DA.one (DC.sl 158 E8 ((r.getD 7 (.int 0)).r)),DA.one (DC.ro (.fn 245 [[.im (vB (decide (p.x.z<0))),.sl 3 [.int] (L p.x.z.natAbs),.sl 3 [.int] (L p.x.d),.im (vB (decide (p.y.z<0))),.sl 3 [.int] (L p.y.z.natAbs),.sl 3 [.int] (L p.y.d)]]))]=GL.args i1/\GL.pre i1/\((vI (Cu (λ c=>A5 c i1.2) i1.1)=vI (Bf r p)))) (by kernel_rfl) ?_
 delta vB vI
 refine ⟨((r.getD 7 (.int 0)).r,p),by
  rfl,by
  show ((r.getD 7 (.int 0)).r).length<=1048576/\(∀ k,k<((r.getD 7 (.int 0)).r).length->Bb (((r.getD 7 (.int 0)).r).getD k []))/\p.good=true
  exact ⟨hpre.1.2.2.1,hpre.1.1,hpre.2⟩,?_⟩
 show Value.int .i64 (Cu (λ c=>A5 c p) ((r.getD 7 (.int 0)).r))=Value.int .i64 (Bf r p)
 rfl
def GN:Con:={ ι:=(List Dat)×Pq,pre:=λ i=>CG i.1/\i.2.good=true,args:=λ i=>[w50 i.1,dP i.2],res:=λ i=>⟨false,[none],[rcI (Bf i.1 i.2)]⟩ }
theorem TQ:GN.Ok Tryz.prog 117:=by
 refine fok (X:=⟨tt,[(182,GI)],[],20,[]⟩) AI AF (CTok.cons TL (CTok.nil _)) Tryz.func117 (λ (i:(List Dat)×Pq)=>let Z1:=(i.1.getD 7 (.int 0)).r;[(2,.mk 7 (Nat) (λ x1=>{ tm:=[(3,tP 1 0),(8,tX 6),(9,tI (nI (Z1.length))),(10,tI (nI x1))],en:=[(1,.box [kB (decide (i.2.x.z<0)),.ext 2,.ext 3,kB (decide (i.2.y.z<0)),.ext 4,.ext 5]),(2,eV (L i.2.x.z.natAbs)),(3,eV (L i.2.x.d)),(4,eV (L i.2.y.z.natAbs)),(5,eV (L i.2.y.d)),(6,.view 158 E8 Z1 [])] }) (λ x1=>x1<=Z1.length/\∀ j,j<x1->(λ c=>A5 c i.2) (Z1.getD j [])=false) (λ x1=>Z1.length-x1) (λ _=>[]))]) ?_
 rintro ⟨r,p⟩ hpre
 have hpre:CG r/\p.good=true:=hpre
 refine AH (q:=let Z5:=vB (decide (p.y.z<0));let Z4:=vB (decide (p.x.z<0));let Z1:=(r.getD 7 (.int 0)).r;let Z3:=nI (Z1.length);(∃ x1:Nat,(x1<=Z1.length/\∀ j,j<x1->(λ c=>A5 c p) (Z1.getD j [])=false)/\((rf (vI Z3))/\(vI (0:Int)=vI (nI x1))/\(rf Z4)/\(rf Z5)/\(rf (L p.x.z.natAbs))/\(rf (L p.x.d))/\(rf (L p.y.z.natAbs))/\(rf (L p.y.d))/\(rf Z1)))/\∀ x1:Nat,let Z2:=Z1.getD x1 [];(x1<=Z1.length/\∀ j,j<x1->(λ c=>A5 c p) (Z1.getD j [])=false)->(ifB ((decide ((nI x1)<Z3))) ((0<=(nI x1)/\(nI x1)<(Z1.length:Int))/\((x1<Z1.length)/\(∃ i1:(List Dat)×Pq,[DA.agg [cB (((Z2.getD 0 (.int 0))).b),cS (((Z2.getD 1 (.int 0))).r),cS (((Z2.getD 2 (.int 0))).r),cB (((Z2.getD 3 (.int 0))).b),cS (((Z2.getD 4 (.int 0))).r),cS (((Z2.getD 5 (.int 0))).r),cB (((Z2.getD 6 (.int 0))).b),cS (((Z2.getD 7 (.int 0))).r),cS (((Z2.getD 8 (.int 0))).r),cB (((Z2.getD 9 (.int 0))).b),cS (((Z2.getD 10 (.int 0))).r),cS (((Z2.getD 11 (.int 0))).r),cB (((Z2.getD 12 (.int 0))).b),cS (((Z2.getD 13 (.int 0))).r),cS (((Z2.getD 14 (.int 0))).r),cB (((Z2.getD 15 (.int 0))).b),cS (((Z2.getD 16 (.int 0))).r),cS (((Z2.getD 17 (.int 0))).r)],dP p]=GI.args i1/\GI.pre i1/\(ifB ((A5 i1.1 i1.2)) ((vI (nI x1)=vI (Bf r p))) (∃ y2:Nat,(y2<=Z1.length/\∀ j,j<y2->(λ c=>A5 c p) (Z1.getD j [])=false)/\(Z1.length-y2<Z1.length-x1)/\((rf (vI Z3))/\(vI (wR ((nI x1)+(1:Int)))=vI (nI y2))/\(rf Z4)/\(rf Z5)/\(rf (L p.x.z.natAbs))/\(rf (L p.x.d))/\(rf (L p.y.z.natAbs))/\(rf (L p.y.d))/\(rf Z1))))))) ((vI (-1:Int)=vI (Bf r p))))) (by kernel_rfl) ?_
 conv=>zeta
 delta ifB vB vI wR nI
 have hl:((r.getD 7 (.int 0)).r).length<=1048576:=hpre.1.2.2.1
 refine ⟨⟨0,by
  exact ⟨Nat.zero_le _,λ j hj=>absurd hj (Nat.not_lt_zero j)⟩,?_⟩,?_⟩
 ·refine ⟨rfl,?_,rfl,rfl,rfl,rfl,rfl,rfl,rfl⟩
  first|rfl|(simp;done)
 intro (k:Nat) hki1
 have hki1:k<=((r.getD 7 (.int 0)).r).length/\∀ j,j<k->(λ c=>A5 c p) (((r.getD 7 (.int 0)).r).getD j [])=false:=hki1
 refine And.symm ⟨λ c12=>?_,λ c12=>?_⟩
 ·try simp only [nrm] at c12
  exact AK (Dx (p:=(λ c=>A5 c p)) (d:=[]) (λ j hj=>hki1.2 j (by omega))).symm
 try simp only [nrm] at c12
 refine ao (by first|rfl|omega|(simp;done)|(simp;omega)) λ o13=>?_
 refine ao (by first|rfl|omega|(simp;done)|(simp;omega)) λ o14=>?_
 refine ⟨(((r.getD 7 (.int 0)).r).getD k [],p),by
  rfl,by
  show Bb (((r.getD 7 (.int 0)).r).getD k [])/\p.good=true
  exact ⟨hpre.1.1 k (by omega),hpre.2⟩,?_⟩
 refine ⟨λ c18=>?_,λ c18=>?_⟩
 ·try simp only [nrm] at c18
  exact AK (GA (p:=(λ c=>A5 c p)) (d:=[]) (by omega) hki1.2 c18).symm
 try simp only [nrm] at c18
 refine ⟨k+1,by
  exact ⟨by omega,C7 hki1.2 c18⟩,by
  first|omega|(simp;omega),?_⟩
 refine ⟨rfl,?_,rfl,rfl,rfl,rfl,rfl,rfl,rfl⟩
 first|rfl|exact AK (AD (by omega) (by omega))
def GO:Con:={ ι:=(List Dat)×Pq,pre:=λ i=>Bc i.1/\i.2.good=true,args:=λ i=>[Ig i.1,.one (.ro (.ptr [.im (Value.bool (decide (i.2.x.z<0))),.sl 3 [.int] (L i.2.x.z.natAbs),.sl 3 [.int] (L i.2.x.d),.im (Value.bool (decide (i.2.y.z<0))),.sl 3 [.int] (L i.2.y.z.natAbs),.sl 3 [.int] (L i.2.y.d)]))],res:=λ i=>⟨false,[none],[rcB (A8 i.1 i.2)]⟩ }
theorem TS:GO.Ok Tryz.prog 248:=by
 refine fok (X:=⟨tt,[(249,GH)],[],7,[]⟩) AI AF (CTok.cons TK (CTok.nil _)) Tryz.func248 (λ _=>[]) ?_
 rintro ⟨r,p⟩ hpre
 have hpre:Bc r/\p.good=true:=hpre
 refine AH (q:=∃ i1:(List Dat)×Pq,[Ig r,dP p]=GH.args i1/\GH.pre i1/\((vB (A8 i1.1 i1.2)=vB (A8 r p)))) (by kernel_rfl) ?_
 delta Ig vB
 refine ⟨(r,p),by
  rfl,by
  exact hpre,?_⟩
 exact rfl
def GP:Con:={ ι:=(List (List Dat))×Pq,pre:=λ i=>i.1.length<=1048576/\(∀ k,k<i.1.length->Bc (i.1.getD k []))/\i.2.good=true,args:=λ i=>[.one (DC.sl 153 E7 i.1),.one (.ro (.fn 248 [[.im (Value.bool (decide (i.2.x.z<0))),.sl 3 [.int] (L i.2.x.z.natAbs),.sl 3 [.int] (L i.2.x.d),.im (Value.bool (decide (i.2.y.z<0))),.sl 3 [.int] (L i.2.y.z.natAbs),.sl 3 [.int] (L i.2.y.d)]]))],tag:=249,res:=λ i=>⟨false,[none],[rcI (Cu (λ c=>A8 c i.2) i.1)]⟩ }
theorem TU:GP.Ok Tryz.prog 247:=by
 refine fok (X:=⟨tt,[(248,GO)],[],19,[]⟩) AI AF (CTok.cons TS (CTok.nil _)) Tryz.func247 (λ (i:(List (List Dat))×Pq)=>[(2,.mk 3 (Nat) (λ x1=>{ tm:=[(0,tX 1),(1,tX 2),(7,tI (nI i.1.length)),(8,tI (nI x1))],en:=[(1,.view 153 E7 i.1 []),(2,.ro (.fn 248 [[.im (Value.bool (decide (i.2.x.z<0))),.sl 3 [.int] (L i.2.x.z.natAbs),.sl 3 [.int] (L i.2.x.d),.im (Value.bool (decide (i.2.y.z<0))),.sl 3 [.int] (L i.2.y.z.natAbs),.sl 3 [.int] (L i.2.y.d)]]) [])] }) (λ x1=>x1<=i.1.length/\∀ j,j<x1->(λ c=>A8 c i.2) (i.1.getD j [])=false) (λ x1=>i.1.length-x1) (λ _=>[]))]) ?_
 rintro ⟨l,p⟩ hpre
 have hpre:l.length<=1048576/\(∀ k,k<l.length->Bc (l.getD k []))/\p.good=true:=hpre
 refine AH (q:=let Z7:=L p.y.z.natAbs;let Z6:=L p.x.z.natAbs;let Z5:=Cu (λ c=>A8 c p) l;let Z4:=vB (decide (p.y.z<0));let Z3:=vB (decide (p.x.z<0));let Z1:=(.fn 248 [[.im Z3,.sl 3 [.int] Z6,.sl 3 [.int] (L p.x.d),.im Z4,.sl 3 [.int] Z7,.sl 3 [.int] (L p.y.d)]]:RO)=.fn 248 [[.im Z3,.sl 3 [.int] Z6,.sl 3 [.int] (L p.x.d),.im Z4,.sl 3 [.int] Z7,.sl 3 [.int] (L p.y.d)]];(∃ x1:Nat,(x1<=l.length/\∀ j,j<x1->(λ c=>A8 c p) (l.getD j [])=false)/\((rf (vI (nI l.length)))/\(vI (0:Int)=vI (nI x1))/\(rf (l))/\Z1))/\∀ x1:Nat,let Z2:=l.getD x1 [];(x1<=l.length/\∀ j,j<x1->(λ c=>A8 c p) (l.getD j [])=false)->(ifB ((decide ((nI x1)<(nI l.length)))) ((0<=(nI x1)/\(nI x1)<(l.length:Int))/\((x1<l.length)/\(∃ i1:(List Dat)×Pq,[DA.agg [cB (((Z2.getD 0 (.int 0))).b),cS (((Z2.getD 1 (.int 0))).r),cS (((Z2.getD 2 (.int 0))).r),cB (((Z2.getD 3 (.int 0))).b),cS (((Z2.getD 4 (.int 0))).r),cS (((Z2.getD 5 (.int 0))).r),cB (((Z2.getD 6 (.int 0))).b),cS (((Z2.getD 7 (.int 0))).r),cS (((Z2.getD 8 (.int 0))).r)],DA.one (DC.ro (.ptr [.im Z3,.sl 3 [.int] Z6,.sl 3 [.int] (L p.x.d),.im Z4,.sl 3 [.int] Z7,.sl 3 [.int] (L p.y.d)]))]=GO.args i1/\GO.pre i1/\(ifB ((A8 i1.1 i1.2)) ((vI (nI x1)=vI Z5)) (∃ y2:Nat,(y2<=l.length/\∀ j,j<y2->(λ c=>A8 c p) (l.getD j [])=false)/\(l.length-y2<l.length-x1)/\((rf (vI (nI l.length)))/\(vI (wR ((nI x1)+(1:Int)))=vI (nI y2))/\(rf (l))/\Z1)))))) ((vI (-1:Int)=vI Z5)))) (by kernel_rfl) ?_
 conv=>zeta
 delta ifB vB vI wR nI
 refine ⟨⟨0,by
  exact ⟨Nat.zero_le _,λ j hj=>absurd hj (Nat.not_lt_zero j)⟩,?_⟩,?_⟩
 ·refine ⟨rfl,?_,rfl,?_⟩
  ·first|rfl|(simp;done)
  first|rfl|(simp;done)
 intro (k:Nat) hki1
 have hki1:k<=l.length/\∀ j,j<k->(λ c=>A8 c p) (l.getD j [])=false:=hki1
 refine And.symm ⟨λ c7=>?_,λ c7=>?_⟩
 ·try simp only [nrm] at c7
  rw [Dx (d:=[]) (λ j hj=>hki1.2 j (by omega))]
 try simp only [nrm] at c7
 refine ao (by first|rfl|omega|(simp;done)|(simp;omega)) λ o8=>?_
 refine ao (by first|rfl|omega|(simp;done)|(simp;omega)) λ o9=>?_
 refine ⟨(l.getD k [],p),by
  rfl,by
  show Bc (l.getD k [])/\p.good=true
  exact ⟨hpre.2.1 k (by omega),hpre.2.2⟩,?_⟩
 refine ⟨λ c13=>?_,λ c13=>?_⟩
 ·try simp only [nrm] at c13
  exact AK (GA (d:=[]) (by omega) hki1.2 (c13)).symm
 try simp only [nrm] at c13
 refine ⟨k+1,by
  exact ⟨by omega,C7 hki1.2 (c13)⟩,by
  first|omega|(simp;omega),?_⟩
 refine ⟨rfl,?_,rfl,?_⟩
 ·first|rfl|exact AK (AD (by omega) (by omega))
 first|rfl|exact AK (AD (by omega) (by omega))
def GQ:Con:={ ι:=(List Dat)×Pq,pre:=λ i=>CG i.1/\i.2.good=true,args:=λ i=>[w50 i.1,dP i.2],res:=λ i=>⟨false,[none],[rcI (Au i.1 i.2)]⟩ }
theorem TV:GQ.Ok Tryz.prog 192:=by
 refine fok (X:=⟨tt,[(247,GP)],[],9,[]⟩) AI AF (CTok.cons TU (CTok.nil _)) Tryz.func192 (λ _=>[]) ?_
 rintro ⟨r,p⟩ hpre
 have hpre:CG r/\p.good=true:=hpre
 refine AH (q:=∃ i1:(List (List Dat))×Pq,[DA.one (DC.sl 153 E7 ((r.getD 8 (.int 0)).r)),DA.one (DC.ro (.fn 248 [[.im (vB (decide (p.x.z<0))),.sl 3 [.int] (L p.x.z.natAbs),.sl 3 [.int] (L p.x.d),.im (vB (decide (p.y.z<0))),.sl 3 [.int] (L p.y.z.natAbs),.sl 3 [.int] (L p.y.d)]]))]=GP.args i1/\GP.pre i1/\((vI (Cu (λ c=>A8 c i1.2) i1.1)=vI (Au r p)))) (by kernel_rfl) ?_
 delta vB vI
 refine ⟨((r.getD 8 (.int 0)).r,p),by
  rfl,by
  show ((r.getD 8 (.int 0)).r).length<=1048576/\(∀ k,k<((r.getD 8 (.int 0)).r).length->Bc (((r.getD 8 (.int 0)).r).getD k []))/\p.good=true
  exact ⟨hpre.1.2.2.2.1,hpre.1.2.1,hpre.2⟩,?_⟩
 show Value.int .i64 (Cu (λ c=>A8 c p) ((r.getD 8 (.int 0)).r))=Value.int .i64 (Au r p)
 rfl
def GR:Con:={ ι:=(List Dat)×Pq,pre:=λ i=>CG i.1/\i.2.good=true,args:=λ i=>[w50 i.1,dP i.2],res:=λ i=>⟨false,[none],[rcI (Au i.1 i.2)]⟩ }
theorem TW:GR.Ok Tryz.prog 118:=by
 refine fok (X:=⟨tt,[(183,GJ)],[],20,[]⟩) AI AF (CTok.cons TM (CTok.nil _)) Tryz.func118 (λ (i:(List Dat)×Pq)=>let Z1:=(i.1.getD 8 (.int 0)).r;[(2,.mk 7 (Nat) (λ x1=>{ tm:=[(3,tP 1 0),(8,tX 6),(9,tI (nI (Z1.length))),(10,tI (nI x1))],en:=[(1,.box [kB (decide (i.2.x.z<0)),.ext 2,.ext 3,kB (decide (i.2.y.z<0)),.ext 4,.ext 5]),(2,eV (L i.2.x.z.natAbs)),(3,eV (L i.2.x.d)),(4,eV (L i.2.y.z.natAbs)),(5,eV (L i.2.y.d)),(6,.view 153 E7 Z1 [])] }) (λ x1=>x1<=Z1.length/\∀ j,j<x1->(λ c=>A8 c i.2) (Z1.getD j [])=false) (λ x1=>Z1.length-x1) (λ _=>[]))]) ?_
 rintro ⟨r,p⟩ hpre
 have hpre:CG r/\p.good=true:=hpre
 refine AH (q:=let Z5:=vB (decide (p.y.z<0));let Z4:=vB (decide (p.x.z<0));let Z1:=(r.getD 8 (.int 0)).r;let Z3:=nI (Z1.length);(∃ x1:Nat,(x1<=Z1.length/\∀ j,j<x1->(λ c=>A8 c p) (Z1.getD j [])=false)/\((rf (vI Z3))/\(vI (0:Int)=vI (nI x1))/\(rf Z4)/\(rf Z5)/\(rf (L p.x.z.natAbs))/\(rf (L p.x.d))/\(rf (L p.y.z.natAbs))/\(rf (L p.y.d))/\(rf Z1)))/\∀ x1:Nat,let Z2:=Z1.getD x1 [];(x1<=Z1.length/\∀ j,j<x1->(λ c=>A8 c p) (Z1.getD j [])=false)->(ifB ((decide ((nI x1)<Z3))) ((0<=(nI x1)/\(nI x1)<(Z1.length:Int))/\((x1<Z1.length)/\(∃ i1:(List Dat)×Pq,[DA.agg [cB (((Z2.getD 0 (.int 0))).b),cS (((Z2.getD 1 (.int 0))).r),cS (((Z2.getD 2 (.int 0))).r),cB (((Z2.getD 3 (.int 0))).b),cS (((Z2.getD 4 (.int 0))).r),cS (((Z2.getD 5 (.int 0))).r),cB (((Z2.getD 6 (.int 0))).b),cS (((Z2.getD 7 (.int 0))).r),cS (((Z2.getD 8 (.int 0))).r)],dP p]=GJ.args i1/\GJ.pre i1/\(ifB ((A8 i1.1 i1.2)) ((vI (nI x1)=vI (Au r p))) (∃ y2:Nat,(y2<=Z1.length/\∀ j,j<y2->(λ c=>A8 c p) (Z1.getD j [])=false)/\(Z1.length-y2<Z1.length-x1)/\((rf (vI Z3))/\(vI (wR ((nI x1)+(1:Int)))=vI (nI y2))/\(rf Z4)/\(rf Z5)/\(rf (L p.x.z.natAbs))/\(rf (L p.x.d))/\(rf (L p.y.z.natAbs))/\(rf (L p.y.d))/\(rf Z1))))))) ((vI (-1:Int)=vI (Au r p))))) (by kernel_rfl) ?_
 conv=>zeta
 delta ifB vB vI wR nI
 have hl:((r.getD 8 (.int 0)).r).length<=1048576:=hpre.1.2.2.2.1
 refine ⟨⟨0,by
  exact ⟨Nat.zero_le _,λ j hj=>absurd hj (Nat.not_lt_zero j)⟩,?_⟩,?_⟩
 ·refine ⟨rfl,?_,rfl,rfl,rfl,rfl,rfl,rfl,rfl⟩
  first|rfl|(simp;done)
 intro (k:Nat) hki1
 have hki1:k<=((r.getD 8 (.int 0)).r).length/\∀ j,j<k->(λ c=>A8 c p) (((r.getD 8 (.int 0)).r).getD j [])=false:=hki1
 refine And.symm ⟨λ c12=>?_,λ c12=>?_⟩
 ·try simp only [nrm] at c12
  exact AK (Dx (p:=(λ c=>A8 c p)) (d:=[]) (λ j hj=>hki1.2 j (by omega))).symm
 try simp only [nrm] at c12
 refine ao (by first|rfl|omega|(simp;done)|(simp;omega)) λ o13=>?_
 refine ao (by first|rfl|omega|(simp;done)|(simp;omega)) λ o14=>?_
 refine ⟨(((r.getD 8 (.int 0)).r).getD k [],p),by
  rfl,by
  show Bc (((r.getD 8 (.int 0)).r).getD k [])/\p.good=true
  exact ⟨hpre.1.2.1 k (by omega),hpre.2⟩,?_⟩
 refine ⟨λ c18=>?_,λ c18=>?_⟩
 ·try simp only [nrm] at c18
  exact AK (GA (p:=(λ c=>A8 c p)) (d:=[]) (by omega) hki1.2 c18).symm
 try simp only [nrm] at c18
 refine ⟨k+1,by
  exact ⟨by omega,C7 hki1.2 c18⟩,by
  first|omega|(simp;omega),?_⟩
 refine ⟨rfl,?_,rfl,rfl,rfl,rfl,rfl,rfl,rfl⟩
 first|rfl|exact AK (AD (by omega) (by omega))
def GS:Con:={ ι:=(List Dat)×Int,pre:=λ i=>True,args:=λ i=>[DA.agg [cI ((i.1.getD 0 (.int 0)).n),cI ((i.1.getD 1 (.int 0)).n)],.one (.ro (.ptr [.im (Value.int .i64 i.2)]))],res:=λ i=>⟨false,[none],[rcB (decide ((i.1.getD 1 (.int 0)).n=i.2))]⟩ }
theorem TX:GS.Ok Tryz.prog 194:=by
 refine fok (X:=⟨tt,[],[],8,[]⟩) AI AF (CTok.nil _) Tryz.func194 (λ _=>[]) ?_
 rintro ⟨d,w⟩ hpre
 have hpre:True:=hpre
 refine AH (q:=(vB (((d.getD 1 (.int 0)).n) == w)=vB (decide ((d.getD 1 (.int 0)).n=w)))) (by kernel_rfl) ?_
 delta vB
 exact congrArg Value.bool (Yl _ _)
def GT:Con:={ ι:=(List (List Dat))×Int,pre:=λ i=>i.1.length<=1048576/\True,args:=λ i=>[.one (DC.sl 168 [.int,.int] i.1),.one (.ro (.fn 194 [[.im (Value.int .i64 i.2)]]))],tag:=195,res:=λ i=>⟨false,[none],[rcI (Cu (λ d=>decide ((d.getD 1 (.int 0)).n=i.2)) i.1)]⟩ }
theorem TY:GT.Ok Tryz.prog 193:=by
 refine fok (X:=⟨tt,[(194,GS)],[],19,[]⟩) AI AF (CTok.cons TX (CTok.nil _)) Tryz.func193 (λ (i:(List (List Dat))×Int)=>[(2,.mk 3 (Nat) (λ x1=>{ tm:=[(0,tX 1),(1,tX 2),(7,tI (nI i.1.length)),(8,tI (nI x1))],en:=[(1,.view 168 [.int,.int] i.1 []),(2,.ro (.fn 194 [[.im (Value.int .i64 i.2)]]) [])] }) (λ x1=>x1<=i.1.length/\∀ j,j<x1->(λ d=>decide ((d.getD 1 (.int 0)).n=i.2)) (i.1.getD j [])=false) (λ x1=>i.1.length-x1) (λ _=>[]))]) ?_
 rintro ⟨l,w⟩ hpre
 have hpre:l.length<=1048576/\True:=hpre
 refine AH (q:=let Z2:=Cu (λ d=>decide ((d.getD 1 (.int 0)).n=w)) l;let Z1:=(.fn 194 [[.im (vI w)]]:RO)=.fn 194 [[.im (vI w)]];(∃ x1:Nat,(x1<=l.length/\∀ j,j<x1->(λ d=>decide ((d.getD 1 (.int 0)).n=w)) (l.getD j [])=false)/\((rf (vI (nI l.length)))/\(vI (0:Int)=vI (nI x1))/\(rf (l))/\Z1))/\∀ x1:Nat,(x1<=l.length/\∀ j,j<x1->(λ d=>decide ((d.getD 1 (.int 0)).n=w)) (l.getD j [])=false)->(ifB ((decide ((nI x1)<(nI l.length)))) ((0<=(nI x1)/\(nI x1)<(l.length:Int))/\((x1<l.length)/\(∃ i1:(List Dat)×Int,[DA.agg [cI ((((l.getD x1 []).getD 0 (.int 0))).n),cI ((((l.getD x1 []).getD 1 (.int 0))).n)],DA.one (DC.ro (.ptr [.im (vI w)]))]=GS.args i1/\GS.pre i1/\(ifB ((decide ((i1.1.getD 1 (.int 0)).n=i1.2))) ((vI (nI x1)=vI Z2)) (∃ y2:Nat,(y2<=l.length/\∀ j,j<y2->(λ d=>decide ((d.getD 1 (.int 0)).n=w)) (l.getD j [])=false)/\(l.length-y2<l.length-x1)/\((rf (vI (nI l.length)))/\(vI (wR ((nI x1)+(1:Int)))=vI (nI y2))/\(rf (l))/\Z1)))))) ((vI (-1:Int)=vI Z2)))) (by kernel_rfl) ?_
 conv=>zeta
 delta ifB vI wR nI
 refine ⟨⟨0,by
  exact ⟨Nat.zero_le _,λ j hj=>absurd hj (Nat.not_lt_zero j)⟩,?_⟩,?_⟩
 ·refine ⟨rfl,?_,rfl,?_⟩
  ·first|rfl|(simp;done)
  first|rfl|(simp;done)
 intro (k:Nat) hki1
 have hki1:k<=l.length/\∀ j,j<k->(λ d=>decide ((d.getD 1 (.int 0)).n=w)) (l.getD j [])=false:=hki1
 refine And.symm ⟨λ c7=>?_,λ c7=>?_⟩
 ·try simp only [nrm] at c7
  rw [Dx (d:=[]) (λ j hj=>hki1.2 j (by omega))]
 try simp only [nrm] at c7
 refine ao (by first|rfl|omega|(simp;done)|(simp;omega)) λ o8=>?_
 refine ao (by first|rfl|omega|(simp;done)|(simp;omega)) λ o9=>?_
 refine ⟨(l.getD k [],w),by
  rfl,by
  trivial,?_⟩
 refine ⟨λ c13=>?_,λ c13=>?_⟩
 ·try simp only [nrm] at c13
  exact AK (GA (d:=[]) (by omega) hki1.2 (decide_eq_true c13)).symm
 try simp only [nrm] at c13
 refine ⟨k+1,by
  exact ⟨by omega,C7 hki1.2 (decide_eq_false c13)⟩,by
  first|omega|(simp;omega),?_⟩
 refine ⟨rfl,?_,rfl,?_⟩
 ·first|rfl|exact AK (AD (by omega) (by omega))
 first|rfl|exact AK (AD (by omega) (by omega))
def GU:Con:={ ι:=(List Dat)×Pq,pre:=λ i=>CG i.1/\i.2.good=true,args:=λ i=>[w50 i.1,dP i.2],res:=λ i=>⟨true,[none,none],[rcI (atZ i.1 i.2),rcI (wnZ i.1 i.2)]⟩ }
theorem TZ:GU.Ok Tryz.prog 128:=by
 refine fok (X:=⟨tt,[(191,GM),(192,GQ),(193,GT)],[],35,[]⟩) AI AF (CTok.cons TP (CTok.cons TV (CTok.cons TY (CTok.nil _)))) Tryz.func128 (λ _=>[]) ?_
 rintro ⟨r,p⟩ hpre
 have hpre:CG r/\p.good=true:=hpre
 refine AH (q:=let Z4:=vI (-1:Int)=vI (wnZ r p);let Z3:=(vI (-1:Int)=vI (atZ r p))/\Z4;let Z2:=(r.getD 9 (.int 0)).r;∃ i1:(List Dat)×Pq,[w50 r,dP p]=GM.args i1/\GM.pre i1/\(ifB ((decide ((Bf i1.1 i1.2)≥(0:Int)))) ((vI (Bf i1.1 i1.2)=vI (atZ r p))/\Z4) (∃ i2:(List Dat)×Pq,let Z5:=Au i2.1 i2.2;[w50 r,dP p]=GQ.args i2/\GQ.pre i2/\(∃ i3:(List (List Dat))×Int,let Z1:=Cu (λ d=>decide ((d.getD 1 (.int 0)).n=i3.2)) i3.1;[DA.one (DC.sl 168 [.int,.int] Z2),DA.one (DC.ro (.fn 194 [[.im (vI Z5)]]))]=GT.args i3/\GT.pre i3/\(ifB ((!(decide (Z5<(0:Int))))) (ifB ((decide (Z1<(0:Int)))) Z3 ((0<=Z1/\Z1<(Z2.length:Int))/\((Z1.toNat<Z2.length)/\((Z1.toNat<Z2.length)/\((vI (((Z2.getD (Z1.toNat) []).getD 0 (.int 0))).n=vI (atZ r p))/\(vI Z5=vI (wnZ r p))))))) Z3))))) (by kernel_rfl) ?_
 conv=>zeta
 delta w50 ifB vI
 refine ⟨(r,p),by
  rfl,by
  show CG r/\p.good=true
  first|exact hpre|exact ⟨hpre.1.2.2.2.2.1,trivial⟩,?_⟩
 refine ⟨λ c4=>?_,λ c4=>?_⟩
 ·try simp only [nrm] at c4
  refine ⟨?_,?_⟩
  ·show Value.int .i64 (Bf r p)=Value.int .i64 (atZ r p)
   first|exact AK (FI (by omega)).symm|exact AK (GB (by omega)).symm|exact AK (EK (by omega) (.inl (by omega))).symm|exact AK (EK (by omega) (.inr (by omega))).symm|exact AK (E4 (by omega) (.inl (by omega))).symm|exact AK (E4 (by omega) (.inr (by omega))).symm|exact AK (IA (by omega) (by omega) hd).symm|exact AK (Iv (by omega) (by omega) hd).symm
  first|exact AK (FI (by omega)).symm|exact AK (GB (by omega)).symm|exact AK (EK (by omega) (.inl (by omega))).symm|exact AK (EK (by omega) (.inr (by omega))).symm|exact AK (E4 (by omega) (.inl (by omega))).symm|exact AK (E4 (by omega) (.inr (by omega))).symm|exact AK (IA (by omega) (by omega) hd).symm|exact AK (Iv (by omega) (by omega) hd).symm
 try simp only [nrm] at c4
 refine ⟨(r,p),by
  rfl,by
  show CG r/\p.good=true
  first|exact hpre|exact ⟨hpre.1.2.2.2.2.1,trivial⟩,?_⟩
 refine ⟨(((r.getD 9 (.int 0)).r),(Au r p)),by
  rfl,by
  show ((r.getD 9 (.int 0)).r).length<=1048576/\True
  first|exact hpre|exact ⟨hpre.1.2.2.2.2.1,trivial⟩,?_⟩
 refine And.symm ⟨λ c13=>?_,λ c13=>?_⟩
 ·try simp only [nrm] at c13
  refine ⟨?_,?_⟩
  ·first|exact AK (FI (by omega)).symm|exact AK (GB (by omega)).symm|exact AK (EK (by omega) (.inl (by omega))).symm|exact AK (EK (by omega) (.inr (by omega))).symm|exact AK (E4 (by omega) (.inl (by omega))).symm|exact AK (E4 (by omega) (.inr (by omega))).symm|exact AK (IA (by omega) (by omega) hd).symm|exact AK (Iv (by omega) (by omega) hd).symm
  first|exact AK (FI (by omega)).symm|exact AK (GB (by omega)).symm|exact AK (EK (by omega) (.inl (by omega))).symm|exact AK (EK (by omega) (.inr (by omega))).symm|exact AK (E4 (by omega) (.inl (by omega))).symm|exact AK (E4 (by omega) (.inr (by omega))).symm|exact AK (IA (by omega) (by omega) hd).symm|exact AK (Iv (by omega) (by omega) hd).symm
 try simp only [nrm] at c13
 refine ⟨λ c14=>?_,λ c14=>?_⟩
 ·try simp only [nrm] at c14
  have c14:G6 r (Au r p)<0:=c14
  refine ⟨?_,?_⟩
  ·first|exact AK (FI (by omega)).symm|exact AK (GB (by omega)).symm|exact AK (EK (by omega) (.inl (by omega))).symm|exact AK (EK (by omega) (.inr (by omega))).symm|exact AK (E4 (by omega) (.inl (by omega))).symm|exact AK (E4 (by omega) (.inr (by omega))).symm|exact AK (IA (by omega) (by omega) hd).symm|exact AK (Iv (by omega) (by omega) hd).symm
  first|exact AK (FI (by omega)).symm|exact AK (GB (by omega)).symm|exact AK (EK (by omega) (.inl (by omega))).symm|exact AK (EK (by omega) (.inr (by omega))).symm|exact AK (E4 (by omega) (.inl (by omega))).symm|exact AK (E4 (by omega) (.inr (by omega))).symm|exact AK (IA (by omega) (by omega) hd).symm|exact AK (Iv (by omega) (by omega) hd).symm
 try simp only [nrm] at c14
 have hl:=Uk (λ d:List Dat=>decide ((d.getD 1 (.int 0)).n=(Au r p))) ((r.getD 9 (.int 0)).r)
 have hd:0<=G6 r (Au r p):=by unfold G6 dsS;omega
 refine ao (a:=0<=(Cu (λ d=>decide ((d.getD 1 (.int 0)).n=(Au r p))) ((r.getD 9 (.int 0)).r))/\(Cu (λ d=>decide ((d.getD 1 (.int 0)).n=(Au r p))) ((r.getD 9 (.int 0)).r))<(((r.getD 9 (.int 0)).r).length:Int)) (by first|rfl|omega|(simp;done)|(simp;omega)) λ o17=>?_
 refine ao (a:=(Cu (λ d=>decide ((d.getD 1 (.int 0)).n=(Au r p))) ((r.getD 9 (.int 0)).r)).toNat<((r.getD 9 (.int 0)).r).length) (by first|rfl|omega|(simp;done)|(simp;omega)) λ o18=>?_
 refine ao (a:=(Cu (λ d=>decide ((d.getD 1 (.int 0)).n=(Au r p))) ((r.getD 9 (.int 0)).r)).toNat<((r.getD 9 (.int 0)).r).length) (by first|rfl|omega|(simp;done)|(simp;omega)) λ o19=>?_
 refine ⟨?_,?_⟩
 ·show Value.int .i64 (((((r.getD 9 (.int 0)).r).getD ((Cu (λ d=>decide ((d.getD 1 (.int 0)).n=(Au r p))) ((r.getD 9 (.int 0)).r)).toNat) []).getD 0 (.int 0))).n=Value.int .i64 (atZ r p)
  first|exact AK (FI (by omega)).symm|exact AK (GB (by omega)).symm|exact AK (EK (by omega) (.inl (by omega))).symm|exact AK (EK (by omega) (.inr (by omega))).symm|exact AK (E4 (by omega) (.inl (by omega))).symm|exact AK (E4 (by omega) (.inr (by omega))).symm|exact AK (IA (by omega) (by omega) hd).symm|exact AK (Iv (by omega) (by omega) hd).symm
 show Value.int .i64 (Au r p)=Value.int .i64 (wnZ r p)
 first|exact AK (FI (by omega)).symm|exact AK (GB (by omega)).symm|exact AK (EK (by omega) (.inl (by omega))).symm|exact AK (EK (by omega) (.inr (by omega))).symm|exact AK (E4 (by omega) (.inl (by omega))).symm|exact AK (E4 (by omega) (.inr (by omega))).symm|exact AK (IA (by omega) (by omega) hd).symm|exact AK (Iv (by omega) (by omega) hd).symm
def GV:Con:={ ι:=(List Dat)×Pq,pre:=λ i=>CG i.1/\i.2.good=true,args:=λ i=>[w50 i.1,dP i.2],res:=λ i=>⟨false,[none],[rcI (DM i.1 i.2)]⟩ }
theorem Ta:GV.Ok Tryz.prog 69:=by
 refine fok (X:=⟨tt,[(128,GU),(85,De)],[],25,[]⟩) AI AF (CTok.cons TZ (CTok.cons Oi (CTok.nil _))) Tryz.func69 (λ _=>[]) ?_
 rintro ⟨r,p⟩ hpre
 have hpre:CG r/\p.good=true:=hpre
 refine AH (q:=let Z1:=(r.getD 10 (.int 0)).r;∃ i1:(List Dat)×Pq,let Z2:=atZ i1.1 i1.2;[w50 r,dP p]=GU.args i1/\GU.pre i1/\(∃ i2:Int×Int×Int,[DA.one (cI Z2),DA.one (cI (0:Int)),DA.one (cI (wR ((nI (Z1.length))-(1:Int))))]=De.args i2/\De.pre i2/\(ifB ((!(decide (i2.1≥i2.2.1) && decide (i2.1<=i2.2.2)))) ((vI (-1:Int)=vI (DM r p))) ((0<=Z2/\Z2<(Z1.length:Int))/\((Z2.toNat<Z1.length)/\((vI (((Z1.getD (Z2.toNat) []).getD 0 (.int 0))).n=vI (DM r p)))))))) (by kernel_rfl) ?_
 conv=>zeta
 delta w50 ifB vI wR nI
 have hp:((r.getD 10 (.int 0)).r).length<=1048576:=hpre.1.2.2.2.2.2
 have hw:IntKind.i64.wrap (((((r.getD 10 (.int 0)).r).length:Nat):Int)-1)=((((r.getD 10 (.int 0)).r).length:Nat):Int)-1:=AD (by omega) (by omega)
 refine ⟨(r,p),by
  rfl,by
  show CG r/\p.good=true
  first|exact hpre|trivial,?_⟩
 refine ⟨((atZ r p),(0:Int),(IntKind.i64.wrap (((((r.getD 10 (.int 0)).r).length:Nat):Int)-(1:Int)))),by
  rfl,by
  first|exact hpre|trivial,?_⟩
 refine ⟨λ c7=>?_,λ c7=>?_⟩
 ·try simp only [nrm] at c7
  rw [hw] at c7
  first|exact AK (JX (by simp only [psS];omega)).symm|exact AK (G7 (by simp only [psS];omega)).symm
 try simp only [nrm] at c7
 rw [hw] at c7
 refine ao (a:=0<=(atZ r p)/\(atZ r p)<(((r.getD 10 (.int 0)).r).length:Int)) (by first|rfl|omega|(simp;done)|(simp;omega)) λ o9=>?_
 refine ao (a:=(atZ r p).toNat<((r.getD 10 (.int 0)).r).length) (by first|rfl|omega|(simp;done)|(simp;omega)) λ o10=>?_
 show Value.int .i64 (((((r.getD 10 (.int 0)).r).getD ((atZ r p).toNat) []).getD 0 (.int 0))).n=Value.int .i64 (DM r p)
 first|exact AK (JX (by simp only [psS];omega)).symm|exact AK (G7 (by simp only [psS];omega)).symm
def GW:Con:={ ι:=(List Dat)×Pq,pre:=λ i=>CG i.1/\i.2.good=true,args:=λ i=>[w50 i.1,dP i.2],res:=λ i=>⟨false,[none],[rcI (DM i.1 i.2)]⟩ }
theorem Tb:GW.Ok Tryz.prog 58:=by
 refine fok (X:=⟨tt,[(117,GN),(118,GR),(80,DE)],[],49,[]⟩) AI AF (CTok.cons TQ (CTok.cons TW (CTok.cons RG (CTok.nil _)))) Tryz.func58 (λ (i:(List Dat)×Pq)=>let Z1:=(i.1.getD 9 (.int 0)).r;[(4,.mk 7 (Nat) (λ x1=>{ tm:=[(2,tP 1 0),(16,tX 5),(17,tI (nI (Z1.length))),(5,tI (Bf i.1 i.2)),(6,tI (Au i.1 i.2)),(18,tI (nI x1))],en:=[(1,.box [kI ((i.1.getD 0 (.int 0)).n),kB ((i.1.getD 1 (.int 0)).b),kI ((i.1.getD 2 (.int 0)).n),kI ((i.1.getD 3 (.int 0)).n),kI ((i.1.getD 4 (.int 0)).n),kI ((i.1.getD 5 (.int 0)).n),.ext 2,.ext 3,.ext 4,.ext 5,.ext 6]),(2,.view 40 [.sl 39 [.int,.int]] ((i.1.getD 6 (.int 0)).r) []),(3,.view 158 E8 ((i.1.getD 7 (.int 0)).r) []),(4,.view 153 E7 ((i.1.getD 8 (.int 0)).r) []),(5,.view 168 [.int,.int] Z1 []),(6,eV ((i.1.getD 10 (.int 0)).r))] }) (λ x1=>x1<=Z1.length/\(Bf i.1 i.2<0/\Au i.1 i.2≥0->∀ j,j<x1->(λ d:List Dat=>decide ((d.getD 1 (.int 0)).n=Au i.1 i.2)) ((dsS i.1).getD j [])=false)) (λ x1=>Z1.length-x1) (λ _=>[]))]) ?_
 rintro ⟨r,p⟩ hpre
 have hpre:CG r/\p.good=true:=hpre
 refine AH (q:=let Z18:=(vI (-1:Int)=vI (DM r p));let Z17:=Au r p;let Z13:=(r.getD 8 (.int 0)).r;let Z12:=(r.getD 7 (.int 0)).r;let Z11:=(r.getD 6 (.int 0)).r;let Z10:=Bf r p;let Z9:=vI ((r.getD 5 (.int 0)).n);let Z8:=vI ((r.getD 4 (.int 0)).n);let Z7:=vI ((r.getD 3 (.int 0)).n);let Z6:=vI ((r.getD 2 (.int 0)).n);let Z5:=vB ((r.getD 1 (.int 0)).b);let Z4:=vI ((r.getD 0 (.int 0)).n);let Z2:=(r.getD 10 (.int 0)).r;let Z16:=cI (wR ((nI (Z2.length))-(1:Int)));let Z1:=(r.getD 9 (.int 0)).r;let Z14:=vI (nI (Z1.length));∃ i1:(List Dat)×Pq,[w50 r,dP p]=GN.args i1/\GN.pre i1/\(∃ i2:(List Dat)×Pq,[w50 r,dP p]=GR.args i2/\GR.pre i2/\((∃ x1:Nat,(x1<=Z1.length/\(Bf r p<0/\Au r p≥0->∀ j,j<x1->(λ d:List Dat=>decide ((d.getD 1 (.int 0)).n=Au r p)) ((dsS r).getD j [])=false))/\((rf Z14)/\(vI (Bf i1.1 i1.2)=vI Z10)/\(vI (Au i2.1 i2.2)=vI Z17)/\(vI (0:Int)=vI (nI x1))/\(rf Z4)/\(rf Z5)/\(rf Z6)/\(rf Z7)/\(rf Z8)/\(rf Z9)/\(rf Z11)/\(rf Z12)/\(rf Z13)/\(rf Z1)/\(rf Z2)))/\∀ x1:Nat,let Z15:=wR ((nI x1)+(1:Int));let Z3:=((Z1.getD x1 []).getD 0 (.int 0));(x1<=Z1.length/\(Bf r p<0/\Au r p≥0->∀ j,j<x1->(λ d:List Dat=>decide ((d.getD 1 (.int 0)).n=Au r p)) ((dsS r).getD j [])=false))->(ifB ((decide ((nI x1)<(nI (Z1.length))))) ((0<=(nI x1)/\(nI x1)<(Z1.length:Int))/\((x1<Z1.length)/\(ifB ((decide (Z10<(0:Int)))) (ifB ((decide (Z17≥(0:Int)))) (ifB (((((Z1.getD x1 []).getD 1 (.int 0))).n == Z17)) (∃ i3:Int×Int×Int,[DA.one (cI (Z3.n)),DA.one (cI (0:Int)),DA.one Z16]=DE.args i3/\DE.pre i3/\(ifB ((!(decide (i3.1≥i3.2.1) && decide (i3.1<=i3.2.2)))) Z18 ((0<=Z3.n/\Z3.n<(Z2.length:Int))/\((Z3.n.toNat<Z2.length)/\((vI (((Z2.getD (Z3.n.toNat) []).getD 0 (.int 0))).n=vI (DM r p))))))) (∃ y2:Nat,(y2<=Z1.length/\(Bf r p<0/\Au r p≥0->∀ j,j<y2->(λ d:List Dat=>decide ((d.getD 1 (.int 0)).n=Au r p)) ((dsS r).getD j [])=false))/\(Z1.length-y2<Z1.length-x1)/\((rf Z14)/\(rf (vI Z10))/\(rf (vI Z17))/\(vI Z15=vI (nI y2))/\(rf Z4)/\(rf Z5)/\(rf Z6)/\(rf Z7)/\(rf Z8)/\(rf Z9)/\(rf Z11)/\(rf Z12)/\(rf Z13)/\(rf Z1)/\(rf Z2)))) (∃ y3:Nat,(y3<=Z1.length/\(Bf r p<0/\Au r p≥0->∀ j,j<y3->(λ d:List Dat=>decide ((d.getD 1 (.int 0)).n=Au r p)) ((dsS r).getD j [])=false))/\(Z1.length-y3<Z1.length-x1)/\((rf Z14)/\(rf (vI Z10))/\(rf (vI Z17))/\(vI Z15=vI (nI y3))/\(rf Z4)/\(rf Z5)/\(rf Z6)/\(rf Z7)/\(rf Z8)/\(rf Z9)/\(rf Z11)/\(rf Z12)/\(rf Z13)/\(rf Z1)/\(rf Z2)))) (∃ y4:Nat,(y4<=Z1.length/\(Bf r p<0/\Au r p≥0->∀ j,j<y4->(λ d:List Dat=>decide ((d.getD 1 (.int 0)).n=Au r p)) ((dsS r).getD j [])=false))/\(Z1.length-y4<Z1.length-x1)/\((rf Z14)/\(rf (vI Z10))/\(rf (vI Z17))/\(vI Z15=vI (nI y4))/\(rf Z4)/\(rf Z5)/\(rf Z6)/\(rf Z7)/\(rf Z8)/\(rf Z9)/\(rf Z11)/\(rf Z12)/\(rf Z13)/\(rf Z1)/\(rf Z2)))))) (∃ i4:Int×Int×Int,[DA.one (cI Z10),DA.one (cI (0:Int)),DA.one Z16]=DE.args i4/\DE.pre i4/\(ifB ((!(decide (i4.1≥i4.2.1) && decide (i4.1<=i4.2.2)))) Z18 ((0<=Z10/\Z10<(Z2.length:Int))/\((Z10.toNat<Z2.length)/\((vI (((Z2.getD (Z10.toNat) []).getD 0 (.int 0))).n=vI (DM r p))))))))))) (by kernel_rfl) ?_
 conv=>zeta
 delta w50 ifB vB vI wR nI
 have hp:((r.getD 10 (.int 0)).r).length<=1048576:=hpre.1.2.2.2.2.2
 have hw:IntKind.i64.wrap (((((r.getD 10 (.int 0)).r).length:Nat):Int)-1)=((((r.getD 10 (.int 0)).r).length:Nat):Int)-1:=AD (by omega) (by omega)
 have hds:((r.getD 9 (.int 0)).r).length<=1048576:=hpre.1.2.2.2.2.1
 refine ⟨(r,p),by
  rfl,by
  show CG r/\p.good=true
  first|exact hpre|trivial,?_⟩
 refine ⟨(r,p),by
  rfl,by
  show CG r/\p.good=true
  first|exact hpre|trivial,?_⟩
 refine ⟨⟨0,by
  exact ⟨Nat.zero_le _,λ _ j hj=>absurd hj (Nat.not_lt_zero j)⟩,?_⟩,?_⟩
 ·refine ⟨rfl,rfl,rfl,?_,rfl,rfl,rfl,rfl,rfl,rfl,rfl,rfl,rfl,rfl,rfl⟩
  first|rfl|(simp;done)
 intro (k:Nat) hki7
 have hki7:k<=((r.getD 9 (.int 0)).r).length/\(Bf r p<0/\Au r p≥0->∀ j,j<k->(λ d:List Dat=>decide ((d.getD 1 (.int 0)).n=Au r p)) ((dsS r).getD j [])=false):=hki7
 refine And.symm ⟨λ c24=>?_,λ c24=>?_⟩
 ·try simp only [nrm] at c24
  have hA:atZ r p=Bf r p:=Zh (k:=k) (by simp only [dsS];omega) hki7.2
  refine ⟨((Bf r p),(0:Int),(IntKind.i64.wrap (((((r.getD 10 (.int 0)).r).length:Nat):Int)-(1:Int)))),by
   rfl,by
   first|exact hpre|trivial,?_⟩
  refine ⟨λ c95=>?_,λ c95=>?_⟩
  ·try simp only [nrm] at c95
   rw [hw] at c95
   first|exact AK (JX (by rw [hA];simp only [psS,dsS];omega)).symm|exact AK (by rw [G7 (by rw [hA];simp only [psS,dsS];omega),hA])
  try simp only [nrm] at c95
  rw [hw] at c95
  refine ao (by first|rfl|omega|(simp;done)|(simp;omega)) λ o97=>?_
  refine ao (by first|rfl|omega|(simp;done)|(simp;omega)) λ o98=>?_
  first|exact AK (JX (by rw [hA];simp only [psS,dsS];omega)).symm|exact AK (by rw [G7 (by rw [hA];simp only [psS,dsS];omega),hA])
 try simp only [nrm] at c24
 refine ao (by first|rfl|omega|(simp;done)|(simp;omega)) λ o25=>?_
 refine ao (by first|rfl|omega|(simp;done)|(simp;omega)) λ o26=>?_
 refine And.symm ⟨λ c27=>?_,λ c27=>?_⟩
 ·try simp only [nrm] at c27
  refine ⟨k+1,by
   first|exact ⟨by omega,λ h=>absurd h.1 (by omega)⟩|exact ⟨by omega,λ h=>absurd h.2 (by omega)⟩|exact ⟨by omega,λ h=>C7 (hki7.2 h) (decide_eq_false c29)⟩,by
   first|omega|(simp;omega),?_⟩
  refine ⟨rfl,rfl,rfl,?_,rfl,rfl,rfl,rfl,rfl,rfl,rfl,rfl,rfl,rfl,rfl⟩
  first|rfl|exact AK (AD (by omega) (by omega))
 try simp only [nrm] at c27
 refine And.symm ⟨λ c28=>?_,λ c28=>?_⟩
 ·try simp only [nrm] at c28
  refine ⟨k+1,by
   first|exact ⟨by omega,λ h=>absurd h.1 (by omega)⟩|exact ⟨by omega,λ h=>absurd h.2 (by omega)⟩|exact ⟨by omega,λ h=>C7 (hki7.2 h) (decide_eq_false c29)⟩,by
   first|omega|(simp;omega),?_⟩
  refine ⟨rfl,rfl,rfl,?_,rfl,rfl,rfl,rfl,rfl,rfl,rfl,rfl,rfl,rfl,rfl⟩
  first|rfl|exact AK (AD (by omega) (by omega))
 try simp only [nrm] at c28
 refine And.symm ⟨λ c29=>?_,λ c29=>?_⟩
 ·try simp only [nrm] at c29
  refine ⟨k+1,by
   first|exact ⟨by omega,λ h=>absurd h.1 (by omega)⟩|exact ⟨by omega,λ h=>absurd h.2 (by omega)⟩|exact ⟨by omega,λ h=>C7 (hki7.2 h) (decide_eq_false c29)⟩,by
   first|omega|(simp;omega),?_⟩
  refine ⟨rfl,rfl,rfl,?_,rfl,rfl,rfl,rfl,rfl,rfl,rfl,rfl,rfl,rfl,rfl⟩
  first|rfl|exact AK (AD (by omega) (by omega))
 try simp only [nrm] at c29
 have hA:atZ r p=(((dsS r).getD k []).getD 0 (.int 0)).n:=Ym (by omega) (by omega) (by simp only [dsS];omega) (hki7.2 ⟨by omega,by omega⟩) c29
 refine ⟨((((((r.getD 9 (.int 0)).r).getD k []).getD 0 (.int 0))).n,(0:Int),(IntKind.i64.wrap (((((r.getD 10 (.int 0)).r).length:Nat):Int)-(1:Int)))),by
  rfl,by
  first|exact hpre|trivial,?_⟩
 refine ⟨λ c33=>?_,λ c33=>?_⟩
 ·try dsimp only at c33
  try simp only [nrm] at c33
  rw [hw] at c33
  first|exact AK (JX (by rw [hA];simp only [psS,dsS];omega)).symm|exact AK (by rw [G7 (by rw [hA];simp only [psS,dsS];omega),hA])
 try dsimp only at c33
 try simp only [nrm] at c33
 rw [hw] at c33
 refine ao (by first|rfl|omega|(simp;done)|(simp;omega)) λ o35=>?_
 refine ao (by first|rfl|omega|(simp;done)|(simp;omega)) λ o36=>?_
 first|exact AK (JX (by rw [hA];simp only [psS,dsS];omega)).symm|exact AK (by rw [G7 (by rw [hA];simp only [psS,dsS];omega),hA])
end Go.Proofs.YtmedodfenejimaaGreat
