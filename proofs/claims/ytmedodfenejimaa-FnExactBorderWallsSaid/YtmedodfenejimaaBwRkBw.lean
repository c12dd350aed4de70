import Derived.Test.YtmedodfenejimaaBwRkHd
namespace Go.Proofs.Ytmedodfenejimaa
set_option maxRecDepth 100000
set_option linter.unusedVariables false
set_option linter.unusedSimpArgs false
open Go.RowKit
abbrev ceD (ds:List (List Dat)) (k:Nat):Int:=((ds.getD k []).getD 0 (.int 0)).n
abbrev waD (ds:List (List Dat)) (k:Nat):Int:=((ds.getD k []).getD 1 (.int 0)).n
abbrev inN (r:List Dat):Int:=(r.getD 0 (.int 0)).n
theorem lt_stepB {P:Nat->Prop} {k:Nat} (h:∀ j,j<k->P j) (hk:P k):∀ j,j<k+1->P j:=λ j hj=>by
 by_cases e:j=k
 ·subst e;exact hk
 ·exact h j (by omega)
def idxB {α:Type} (p:α->Bool) (l:List α):Int:=match l.findIdx? p with|some k=>(k:Int)|none=>-1
theorem idxB_at {α:Type} {p:α->Bool} {l:List α} {d:α} {k:Nat} (hk:k<l.length) (h:∀ j,j<k->p (l.getD j d)=false) (hp:p (l.getD k d)=true):idxB p l=(k:Int):=by
 have:l.findIdx? p=some k:=by
  rw [List.findIdx?_eq_some_iff_getElem]
  refine ⟨hk,by simpa [List.getD,hk] using hp,λ j hj=>?_⟩
  have:=h j hj
  simpa [List.getD,show j<l.length by omega] using this
 unfold idxB;rw [this]
theorem idxB_none {α:Type} {p:α->Bool} {l:List α} {d:α} (h:∀ j,j<l.length->p (l.getD j d)=false):idxB p l=-1:=by
 have:l.findIdx? p=none:=by
  rw [List.findIdx?_eq_none_iff]
  intro x hx
  obtain ⟨j,hj,rfl⟩:=List.getElem_of_mem hx
  have:=h j hj
  simpa [List.getD,hj] using this
 unfold idxB;rw [this]
theorem idxB_any {α:Type} (p:α->Bool) (l:List α):decide (idxB p l≥0)=l.any p:=by
 unfold idxB
 cases h:l.findIdx? p with
 | some k=>
  rw [List.findIdx?_eq_some_iff_getElem] at h
  obtain ⟨h1,h2,_⟩:=h
  have:l.any p=true:=List.any_eq_true.2 ⟨l[k],List.getElem_mem h1,h2⟩
  rw [this];simp
 | none=>
  rw [List.findIdx?_eq_none_iff] at h
  have:l.any p=false:=by rw [List.any_eq_false];intro x hx;rw [h x hx];simp
  rw [this];rfl
def hasB (l:List (List Dat)) (n:Int):Bool:=l.any λ r=>decide (inN r=n)
theorem hasB_at {l:List (List Dat)} {n:Int} {k:Nat} (hk:k<l.length) (h:inN (l.getD k [])=n):hasB l n=true:=List.any_eq_true.2 ⟨l.getD k [],by simp [List.getD,hk],decide_eq_true h⟩
theorem hasB_no {l:List (List Dat)} {n:Int} (h:∀ j,j<l.length->decide (inN (l.getD j [])=n)=false):hasB l n=false:=by
 unfold hasB
 rw [List.any_eq_false]
 intro x hx
 obtain ⟨j,hj,rfl⟩:=List.getElem_of_mem hx
 have:=h j hj
 simp only [List.getD,List.getElem?_eq_getElem hj,Option.getD_some] at this
 rw [this];simp
theorem hasB_idx (l:List (List Dat)) (n:Int):decide (idxB (λ r=>decide (inN r=n)) l≥0)=hasB l n:=idxB_any _ _
def outB (c:List (List Dat)) (d e:List Dat):Bool:=decide ((e.getD 1 (.int 0)).n=(d.getD 1 (.int 0)).n) && !(hasB c (e.getD 0 (.int 0)).n)
def bwL (ds c:List (List Dat)):Nat->List Int
 | 0=>[]
 | k+1=>if (hasB c (ceD ds k) && ds.any (outB c (ds.getD k [])))=true then bwL ds c k++[waD ds k] else bwL ds c k
def bwR (ds c:List (List Dat)):List Int:=setI (bwL ds c ds.length)
def bwE (ds c:List (List Dat)) (k:Nat) (s:List Int):Nat->List Int
 | 0=>s
 | m+1=>if (hasB c (ceD ds k) && outB c (ds.getD k []) (ds.getD m []))=true then insI (waD ds k) (bwE ds c k s m) else bwE ds c k s m
def bwT (ds c:List (List Dat)):Nat->List Int
 | 0=>[]
 | k+1=>bwE ds c k (bwT ds c k) ds.length
theorem bwL_yes {ds c:List (List Dat)} {k:Nat} (h1:hasB c (ceD ds k)=true) (h2:ds.any (outB c (ds.getD k []))=true):bwL ds c (k+1)=bwL ds c k++[waD ds k]:=by rw [bwL,h1,h2];rfl
theorem bwL_no {ds c:List (List Dat)} {k:Nat} (h:hasB c (ceD ds k)=false∨ds.any (outB c (ds.getD k []))=false):bwL ds c (k+1)=bwL ds c k:=by
 rw [bwL,if_neg]
 rw [Bool.and_eq_true]
 rintro ⟨h1,h2⟩
 rcases h with h|h
 ·rw [h] at h1;cases h1
 ·rw [h] at h2;cases h2
theorem bwL_len (ds c:List (List Dat)):∀ k,(bwL ds c k).length<=k
 | 0=>Nat.le_refl _
 | k+1=>by
  have:=bwL_len ds c k
  unfold bwL
  split
  ·rw [List.length_append];simp only [List.length_cons,List.length_nil];omega
  ·omega
theorem mem_bwL {ds c:List (List Dat)} {x:Int} : ∀ k,x ∈ bwL ds c k↔∃ i,i<k/\x=waD ds i/\hasB c (ceD ds i)=true/\ds.any (outB c (ds.getD i []))=true
 | 0=>by simp [bwL]
 | k+1=>by
  have ih:=mem_bwL (ds:=ds) (c:=c) (x:=x) k
  unfold bwL
  by_cases h:(hasB c (ceD ds k) && ds.any (outB c (ds.getD k [])))=true
  ·rw [if_pos h,List.mem_append,ih,List.mem_singleton]
   rw [Bool.and_eq_true] at h
   constructor
   ·rintro (⟨i,hi,q⟩|rfl)
    ·exact ⟨i,by omega,q⟩
    ·exact ⟨k,by omega,rfl,h.1,h.2⟩
   ·rintro ⟨i,hi,q1,q2⟩
    by_cases hk:i=k
    ·subst hk;exact .inr q1
    ·exact .inl ⟨i,by omega,q1,q2⟩
  ·rw [if_neg h,ih]
   constructor
   ·rintro ⟨i,hi,q⟩;exact ⟨i,by omega,q⟩
   ·rintro ⟨i,hi,q1,q2,q3⟩
    by_cases hk:i=k
    ·subst hk;exact absurd (by rw [q2,q3];rfl) h
    ·exact ⟨i,by omega,q1,q2,q3⟩
theorem mem_bwE {ds c:List (List Dat)} {k:Nat} {s:List Int} {x:Int} : ∀ m,x ∈ bwE ds c k s m↔x ∈ s∨(x=waD ds k/\hasB c (ceD ds k)=true/\∃ j,j<m/\outB c (ds.getD k []) (ds.getD j [])=true)
 | 0=>by simp [bwE]
 | m+1=>by
  have ih:=mem_bwE (ds:=ds) (c:=c) (k:=k) (s:=s) (x:=x) m
  unfold bwE
  by_cases h:(hasB c (ceD ds k) && outB c (ds.getD k []) (ds.getD m []))=true
  ·rw [if_pos h,mem_insI,ih]
   rw [Bool.and_eq_true] at h
   constructor
   ·rintro (rfl|q|⟨q1,q2,j,hj,q3⟩)
    ·exact .inr ⟨rfl,h.1,m,by omega,h.2⟩
    ·exact .inl q
    ·exact .inr ⟨q1,q2,j,by omega,q3⟩
   ·rintro (q|⟨q1,q2,j,hj,q3⟩)
    ·exact .inr (.inl q)
    ·exact .inl q1
  ·rw [if_neg h,ih]
   constructor
   ·rintro (q|⟨q1,q2,j,hj,q3⟩)
    ·exact .inl q
    ·exact .inr ⟨q1,q2,j,by omega,q3⟩
   ·rintro (q|⟨q1,q2,j,hj,q3⟩)
    ·exact .inl q
    ·by_cases hk:j=m
     ·subst hk;exact absurd (by rw [q2,q3];rfl) h
     ·exact .inr ⟨q1,q2,j,by omega,q3⟩
theorem bwE_yes {ds c:List (List Dat)} {k m:Nat} {s:List Int} (h1:waD ds k=waD ds m) (h2:hasB c (ceD ds k)=true) (h3:hasB c (ceD ds m)=false):bwE ds c k s (m+1)=insI (waD ds k) (bwE ds c k s m):=by
 rw [bwE,if_pos]
 rw [h2,Bool.true_and]
 unfold outB
 rw [decide_eq_true (show _=_ from h1.symm),h3];rfl
theorem bwE_no {ds c:List (List Dat)} {k m:Nat} {s:List Int} (h:waD ds k≠waD ds m∨hasB c (ceD ds k)=false∨hasB c (ceD ds m)=true):bwE ds c k s (m+1)=bwE ds c k s m:=by
 rw [bwE,if_neg]
 intro hc
 rw [Bool.and_eq_true] at hc
 obtain ⟨h1,h2⟩:=hc
 unfold outB at h2
 rw [Bool.and_eq_true,decide_eq_true_iff] at h2
 rcases h with h|h|h
 ·exact h h2.1.symm
 ·rw [h] at h1;cases h1
 ·rw [h] at h2;cases h2.2
theorem bwE_up {ds c:List (List Dat)} {k:Nat} {s:List Int} (h:s.Pairwise (· < ·)):∀ m,(bwE ds c k s m).Pairwise (· < ·)
 | 0=>h
 | m+1=>by
  unfold bwE
  split
  ·exact insI_up (bwE_up h m)
  ·exact bwE_up h m
theorem bwT_up (ds c:List (List Dat)):∀ k,(bwT ds c k).Pairwise (· < ·)
 | 0=>List.Pairwise.nil
 | k+1=>bwE_up (bwT_up ds c k) _
theorem mem_bwT {ds c:List (List Dat)} {x:Int} : ∀ k,x ∈ bwT ds c k↔∃ i,i<k/\x=waD ds i/\hasB c (ceD ds i)=true/\ds.any (outB c (ds.getD i []))=true
 | 0=>by simp [bwT]
 | k+1=>by
  have ih:=mem_bwT (ds:=ds) (c:=c) (x:=x) k
  have ha:(∃ j,j<ds.length/\outB c (ds.getD k []) (ds.getD j [])=true)↔ds.any (outB c (ds.getD k []))=true:=by
   rw [List.any_eq_true]
   constructor
   ·rintro ⟨j,hj,q⟩
    exact ⟨ds.getD j [],by simp [List.getD,hj],q⟩
   ·rintro ⟨y,hy,q⟩
    obtain ⟨j,hj,rfl⟩:=List.getElem_of_mem hy
    exact ⟨j,hj,by simpa [List.getD,hj] using q⟩
  unfold bwT
  rw [mem_bwE,ih,ha]
  constructor
  ·rintro (⟨i,hi,q⟩|⟨q1,q2,q3⟩)
   ·exact ⟨i,by omega,q⟩
   ·exact ⟨k,by omega,q1,q2,q3⟩
  ·rintro ⟨i,hi,q1,q2,q3⟩
   by_cases hk:i=k
   ·subst hk;exact .inr ⟨q1,q2,q3⟩
   ·exact .inl ⟨i,by omega,q1,q2,q3⟩
theorem bwT_all (ds c:List (List Dat)):bwT ds c ds.length=bwR ds c:=
 upI_ext (bwT_up ds c _) (setI_up _) λ x=>by
  unfold bwR
  rw [mem_setI,mem_bwL,mem_bwT]
theorem upI_few {s l:List Int} (h:s.Pairwise (· < ·)) (hm:∀ x,x ∈ s->x ∈ l):s.length<=l.length:=by
 have e:s=setI s:=upI_ext h (setI_up _) λ x=>mem_setI.symm
 have:∀ {s l:List Int},s.Pairwise (· < ·)->(∀ x,x ∈ s->x ∈ l)->s.length<=l.length:=by
  intro s
  induction s with
  | nil=>intro l _ _;exact Nat.zero_le _
  | cons a t ih=>
   intro l hs hm
   have h1:=List.pairwise_cons.1 hs
   have ha:=hm a (by simp)
   have:=ih (l:=l.erase a) h1.2 λ x hx=>by
    have hne:x≠a:=λ e=>by have:=h1.1 x hx;omega
    exact (List.mem_erase_of_ne hne).2 (hm x (List.mem_cons_of_mem _ hx))
   rw [List.length_erase_of_mem ha] at this
   have:=List.length_pos_of_mem ha
   simp only [List.length_cons];omega
 exact this h hm
def waL (ds:List (List Dat)):List Int:=(List.range ds.length).map (waD ds)
theorem waL_len (ds:List (List Dat)):(waL ds).length=ds.length:=by simp [waL]
theorem bwE_few (ds c:List (List Dat)) {k:Nat} (hk:k<ds.length) (m:Nat):(bwE ds c k (bwT ds c k) m).length<=ds.length:=by
 rw [← waL_len ds]
 refine upI_few (bwE_up (bwT_up ds c k) m) λ x hx=>?_
 rcases (mem_bwE m).1 hx with h|⟨e,_⟩
 ·obtain ⟨i,hi,e,_⟩:=(mem_bwT k).1 h
  exact List.mem_map.2 ⟨i,List.mem_range.2 (by omega),e.symm⟩
 ·exact List.mem_map.2 ⟨k,List.mem_range.2 hk,e.symm⟩
def idxInt_con:Con:={ ι:=(List (List Dat))×Int,pre:=λ i=>i.1.length<=1073741824,args:=λ i=>[.one (.sl 3 [.int] i.1),.one (.im (.int .i64 i.2))],res:=λ i=>⟨false,[none],[.im (Value.int .i64 (idxB (λ r=>decide (inN r=i.2)) i.1))]⟩ }
theorem idxInt_ok:idxInt_con.Ok Try.prog 48:=by
 refine fok (X:=⟨tt,[],[],19,[]⟩) mixed tt_ok (CTok.nil _) Try.func48 (λ (i:(List (List Dat))×Int)=>[(2,.mk 2 (Nat) (λ x1=>{ tm:=[(0,.one (.one (.ext 1))),(1,.one (.one (.im (Value.int .i64 i.2)))),(6,.one (.one (.ext 1))),(7,.one (.one (.im (Value.int .i64 ((i.1.length:Nat):Int))))),(8,.one (.one (.im (Value.int .i64 ((x1:Nat):Int)))))],en:=[(1,.view 3 [.int] i.1 [])] }) (λ x1=>x1<=i.1.length/\∀ j,j<x1->decide (inN (i.1.getD j [])=i.2)=false) (λ x1=>i.1.length-x1) (λ _=>[]))]) ?_
 rintro ⟨l,n⟩ hpre
 have hpre:l.length<=1073741824:=hpre
 refine by_nf (q:=(∃ x1:Nat,(x1<=l.length/\∀ j,j<x1->decide (inN (l.getD j [])=n)=false)/\((rf (vI n))/\(rf (vI (nI l.length)))/\(vI (0:Int)=vI (nI x1))/\(rf (l))))/\∀ x1:Nat,(x1<=l.length/\∀ j,j<x1->decide (inN (l.getD j [])=n)=false)->(((decide ((nI x1)<(nI l.length)))=true->((0<=(nI x1)/\(nI x1)<(l.length:Int))/\((x1<l.length)/\(((n == (((l.getD x1 []).getD 0 (.int 0))).n)=true->((vI (nI x1)=vI (idxB (λ r=>decide (inN r=n)) l))))/\((n == (((l.getD x1 []).getD 0 (.int 0))).n)=false->(∃ y2:Nat,(y2<=l.length/\∀ j,j<y2->decide (inN (l.getD j [])=n)=false)/\(l.length-y2<l.length-x1)/\((rf (vI n))/\(rf (vI (nI l.length)))/\(vI (wR ((nI x1)+(1:Int)))=vI (nI y2))/\(rf (l)))))))))/\((decide ((nI x1)<(nI l.length)))=false->((vI (-1:Int)=vI (idxB (λ r=>decide (inN r=n)) l)))))) (by kernel_rfl) ?_
 delta vI wR nI
 refine ⟨⟨0,by
  exact ⟨Nat.zero_le _,λ j hj=>absurd hj (Nat.not_lt_zero j)⟩,?_⟩,?_⟩
 ·refine ⟨rfl,rfl,?_,rfl⟩
  rfl
 intro (k:Nat) hki1
 have hki1:k<=l.length/\∀ j,j<k->decide (inN (l.getD j [])=n)=false:=hki1
 refine And.symm ⟨λ c7=>?_,λ c7=>?_⟩
 ·try simp only [nrm] at c7
  rw [idxB_none (d:=[]) (λ j hj=>hki1.2 j (by omega))]
 try simp only [nrm] at c7
 refine ao (by omega) λ o8=>?_
 refine ao (by omega) λ o9=>?_
 refine ⟨λ c10=>?_,λ c10=>?_⟩
 ·try simp only [nrm] at c10
  rw [idxB_at (d:=[]) (k:=k) (by omega) hki1.2 (decide_eq_true c10.symm)]
 try simp only [nrm] at c10
 refine ⟨k+1,by
  exact ⟨by omega,lt_stepB hki1.2 (decide_eq_false λ e=>c10 e.symm)⟩,by
  omega,?_⟩
 refine ⟨rfl,rfl,?_,rfl⟩
 exact vint (wrap64 (by omega) (by omega))
def hasInt_con:Con:={ ι:=(List (List Dat))×Int,pre:=λ i=>i.1.length<=1073741824,args:=λ i=>[.one (.sl 3 [.int] i.1),.one (.im (.int .i64 i.2))],res:=λ i=>⟨false,[none],[.im (Value.bool (hasB i.1 i.2))]⟩ }
theorem hasInt_ok:hasInt_con.Ok Try.prog 26:=by
 refine fok (X:=⟨tt,[(48,idxInt_con)],[],9,[]⟩) mixed tt_ok (CTok.cons idxInt_ok (CTok.nil _)) Try.func26 (λ _=>[]) ?_
 rintro ⟨l,n⟩ hpre
 have hpre:l.length<=1073741824:=hpre
 refine by_nf (q:=∃ i1:(List (List Dat))×Int,[DA.one (cS l),DA.one (cI n)]=idxInt_con.args i1/\idxInt_con.pre i1/\((Value.bool (decide ((idxB (λ r=>decide (inN r=i1.2)) i1.1)≥(0:Int)))=Value.bool (hasB l n)))) (by kernel_rfl) ?_
 refine ⟨(l,n),by
  rfl,by
  show l.length<=1073741824
  trivial,?_⟩
 show Value.bool (decide ((idxB (λ r=>decide (inN r=n)) l)≥(0:Int)))=Value.bool (hasB l n)
 exact congrArg Value.bool (hasB_idx _ _)
def sHasInt_con:Con:={ ι:=(List (List Dat))×Int,pre:=λ i=>i.1.length<=1073741824,args:=λ i=>[.one (.sl 3 [.int] i.1),.one (.im (.int .i64 i.2))],res:=λ i=>⟨false,[none],[.im (Value.bool (hasB i.1 i.2))]⟩ }
theorem sHasInt_ok:sHasInt_con.Ok Try.prog 19:=by
 refine fok (X:=⟨tt,[],[],17,[]⟩) mixed tt_ok (CTok.nil _) Try.func19 (λ (i:(List (List Dat))×Int)=>[(2,.mk 2 (Nat) (λ x1=>{ tm:=[(0,.one (.one (.ext 1))),(1,.one (.one (.im (Value.int .i64 i.2)))),(7,.one (.one (.ext 1))),(8,.one (.one (.im (Value.int .i64 ((i.1.length:Nat):Int))))),(9,.one (.one (.im (Value.int .i64 ((x1:Nat):Int)))))],en:=[(1,.view 3 [.int] i.1 [])] }) (λ x1=>x1<=i.1.length/\∀ j,j<x1->decide (inN (i.1.getD j [])=i.2)=false) (λ x1=>i.1.length-x1) (λ _=>[]))]) ?_
 rintro ⟨l,n⟩ hpre
 have hpre:l.length<=1073741824:=hpre
 refine by_nf (q:=(∃ x1:Nat,(x1<=l.length/\∀ j,j<x1->decide (inN (l.getD j [])=n)=false)/\((rf (vI n))/\(rf (vI (nI l.length)))/\(vI (0:Int)=vI (nI x1))/\(rf (l))))/\∀ x1:Nat,(x1<=l.length/\∀ j,j<x1->decide (inN (l.getD j [])=n)=false)->(((decide ((nI x1)<(nI l.length)))=true->((0<=(nI x1)/\(nI x1)<(l.length:Int))/\((x1<l.length)/\((((((l.getD x1 []).getD 0 (.int 0))).n == n)=true->((Value.bool true=Value.bool (hasB l n))))/\(((((l.getD x1 []).getD 0 (.int 0))).n == n)=false->(∃ y2:Nat,(y2<=l.length/\∀ j,j<y2->decide (inN (l.getD j [])=n)=false)/\(l.length-y2<l.length-x1)/\((rf (vI n))/\(rf (vI (nI l.length)))/\(vI (wR ((nI x1)+(1:Int)))=vI (nI y2))/\(rf (l)))))))))/\((decide ((nI x1)<(nI l.length)))=false->((Value.bool false=Value.bool (hasB l n)))))) (by kernel_rfl) ?_
 delta vI wR nI
 refine ⟨⟨0,by
  exact ⟨Nat.zero_le _,λ j hj=>absurd hj (Nat.not_lt_zero j)⟩,?_⟩,?_⟩
 ·refine ⟨rfl,rfl,?_,rfl⟩
  rfl
 intro (k:Nat) hki1
 have hki1:k<=l.length/\∀ j,j<k->decide (inN (l.getD j [])=n)=false:=hki1
 refine And.symm ⟨λ c7=>?_,λ c7=>?_⟩
 ·try simp only [nrm] at c7
  exact congrArg Value.bool (hasB_no (λ j hj=>hki1.2 j (by omega))).symm
 try simp only [nrm] at c7
 refine ao (by omega) λ o8=>?_
 refine ao (by omega) λ o9=>?_
 refine ⟨λ c10=>?_,λ c10=>?_⟩
 ·try simp only [nrm] at c10
  exact congrArg Value.bool (hasB_at (k:=k) (by omega) c10).symm
 try simp only [nrm] at c10
 refine ⟨k+1,by
  exact ⟨by omega,lt_stepB hki1.2 (decide_eq_false c10)⟩,by
  omega,?_⟩
 refine ⟨rfl,rfl,?_,rfl⟩
 exact vint (wrap64 (by omega) (by omega))
def bwc_con:Con:={ ι:=(List Dat)×(List Dat)×(List (List Dat)),pre:=λ i=>i.2.2.length<=1048576,args:=λ i=>[.agg [.im (.int .i64 ((i.1.getD 0 (.int 0)).n)),.im (.int .i64 ((i.1.getD 1 (.int 0)).n))],.one (.ro (.ptr [.im (Value.int .i64 ((i.2.1.getD 0 (.int 0)).n)),.im (Value.int .i64 ((i.2.1.getD 1 (.int 0)).n))])),.one (.ro (.ptr [.sl 3 [.int] i.2.2]))],res:=λ i=>⟨false,[none],[.im (Value.bool (outB i.2.2 i.2.1 i.1))]⟩ }
theorem bwc_ok:bwc_con.Ok Try.prog 28:=by
 refine fok (X:=⟨tt,[(26,hasInt_con)],[],17,[]⟩) mixed tt_ok (CTok.cons hasInt_ok (CTok.nil _)) Try.func28 (λ _=>[]) ?_
 rintro ⟨e,d,c⟩ hpre
 have hpre:c.length<=1048576:=hpre
 refine by_nf (q:=((((e.getD 1 (.int 0)).n) == ((d.getD 1 (.int 0)).n))=true->(∃ i1:(List (List Dat))×Int,[DA.one (cS c),DA.one (cI ((e.getD 0 (.int 0)).n))]=hasInt_con.args i1/\hasInt_con.pre i1/\((Value.bool (!(hasB i1.1 i1.2))=Value.bool (outB c d e)))))/\((((e.getD 1 (.int 0)).n) == ((d.getD 1 (.int 0)).n))=false->((Value.bool false=Value.bool (outB c d e))))) (by kernel_rfl) ?_
 refine And.symm ⟨λ c1=>?_,λ c1=>?_⟩
 ·try simp only [nrm] at c1
  exact congrArg Value.bool (by unfold outB;simp_all)
 try simp only [nrm] at c1
 refine ⟨(c,((e.getD 0 (.int 0)).n)),by
  rfl,by
  show c.length<=1073741824
  first|omega|assumption|exact hpre.1|exact hpre.2|(simp;done),?_⟩
 show Value.bool (!(hasB c ((e.getD 0 (.int 0)).n)))=Value.bool (outB c d e)
 exact congrArg Value.bool (by unfold outB;simp_all)
def doIdx_con:Con:={ ι:=(List (List Dat))×(List Dat)×(List (List Dat)),pre:=λ i=>i.1.length<=1048576/\i.2.2.length<=1048576,args:=λ i=>[.one (.sl 56 [.int,.int] i.1),.one (.ro (.fn 28 [[.im (Value.int .i64 ((i.2.1.getD 0 (.int 0)).n)),.im (Value.int .i64 ((i.2.1.getD 1 (.int 0)).n))],[.sl 3 [.int] i.2.2]]))],tag:=29,res:=λ i=>⟨false,[none],[.im (Value.int .i64 (idxB (outB i.2.2 i.2.1) i.1))]⟩ }
theorem doIdx_ok:doIdx_con.Ok Try.prog 49:=by
 refine fok (X:=⟨tt,[(28,bwc_con)],[],19,[]⟩) mixed tt_ok (CTok.cons bwc_ok (CTok.nil _)) Try.func49 (λ (i:(List (List Dat))×(List Dat)×(List (List Dat)))=>[(2,.mk 3 (Nat) (λ x1=>{ tm:=[(0,.one (.one (.ext 1))),(1,.one (.one (.ext 2))),(7,.one (.one (.im (Value.int .i64 ((i.1.length:Nat):Int))))),(8,.one (.one (.im (Value.int .i64 ((x1:Nat):Int)))))],en:=[(1,.view 56 [.int,.int] i.1 []),(2,.ro (.fn 28 [[.im (Value.int .i64 ((i.2.1.getD 0 (.int 0)).n)),.im (Value.int .i64 ((i.2.1.getD 1 (.int 0)).n))],[.sl 3 [.int] i.2.2]]) [])] }) (λ x1=>x1<=i.1.length/\∀ j,j<x1->(outB i.2.2 i.2.1) (i.1.getD j [])=false) (λ x1=>i.1.length-x1) (λ _=>[]))]) ?_
 rintro ⟨l,d,c⟩ hpre
 have hpre:l.length<=1048576/\c.length<=1048576:=hpre
 refine by_nf (q:=(∃ x1:Nat,(x1<=l.length/\∀ j,j<x1->(outB c d) (l.getD j [])=false)/\((rf (vI (nI l.length)))/\(vI (0:Int)=vI (nI x1))/\(rf (l))/\((.fn 28 [[.im (vI ((d.getD 0 (.int 0)).n)),.im (vI ((d.getD 1 (.int 0)).n))],[.sl 3 [.int] c]]:RO)=.fn 28 [[.im (vI ((d.getD 0 (.int 0)).n)),.im (vI ((d.getD 1 (.int 0)).n))],[.sl 3 [.int] c]])))/\∀ x1:Nat,(x1<=l.length/\∀ j,j<x1->(outB c d) (l.getD j [])=false)->(((decide ((nI x1)<(nI l.length)))=true->((0<=(nI x1)/\(nI x1)<(l.length:Int))/\((x1<l.length)/\(∃ i1:(List Dat)×(List Dat)×(List (List Dat)),[DA.agg [cI ((((l.getD x1 []).getD 0 (.int 0))).n),cI ((((l.getD x1 []).getD 1 (.int 0))).n)],DA.one (DC.ro (.ptr [.im (vI ((d.getD 0 (.int 0)).n)),.im (vI ((d.getD 1 (.int 0)).n))])),DA.one (DC.ro (.ptr [.sl 3 [.int] c]))]=bwc_con.args i1/\bwc_con.pre i1/\(((outB i1.2.2 i1.2.1 i1.1)=true->((vI (nI x1)=vI (idxB (outB c d) l))))/\((outB i1.2.2 i1.2.1 i1.1)=false->(∃ y2:Nat,(y2<=l.length/\∀ j,j<y2->(outB c d) (l.getD j [])=false)/\(l.length-y2<l.length-x1)/\((rf (vI (nI l.length)))/\(vI (wR ((nI x1)+(1:Int)))=vI (nI y2))/\(rf (l))/\((.fn 28 [[.im (vI ((d.getD 0 (.int 0)).n)),.im (vI ((d.getD 1 (.int 0)).n))],[.sl 3 [.int] c]]:RO)=.fn 28 [[.im (vI ((d.getD 0 (.int 0)).n)),.im (vI ((d.getD 1 (.int 0)).n))],[.sl 3 [.int] c]])))))))))/\((decide ((nI x1)<(nI l.length)))=false->((vI (-1:Int)=vI (idxB (outB c d) l)))))) (by kernel_rfl) ?_
 delta vI wR nI
 refine ⟨⟨0,by
  exact ⟨Nat.zero_le _,λ j hj=>absurd hj (Nat.not_lt_zero j)⟩,?_⟩,?_⟩
 ·refine ⟨rfl,?_,rfl,?_⟩
  ·rfl
  rfl
 intro (k:Nat) hki1
 have hki1:k<=l.length/\∀ j,j<k->(outB c d) (l.getD j [])=false:=hki1
 refine And.symm ⟨λ c7=>?_,λ c7=>?_⟩
 ·try simp only [nrm] at c7
  rw [idxB_none (d:=[]) (λ j hj=>hki1.2 j (by omega))]
 try simp only [nrm] at c7
 refine ao (by omega) λ o8=>?_
 refine ao (by omega) λ o9=>?_
 refine ⟨(l.getD k [],d,c),by
  rfl,by
  exact hpre.2,?_⟩
 refine ⟨λ c13=>?_,λ c13=>?_⟩
 ·replace c13:(outB c d (l.getD k []))=true:=c13
  try simp only [nrm] at c13
  rw [idxB_at (d:=[]) (by omega) hki1.2 c13]
 replace c13:(outB c d (l.getD k []))=false:=c13
 try simp only [nrm] at c13
 refine ⟨k+1,by
  exact ⟨by omega,lt_stepB hki1.2 c13⟩,by
  omega,?_⟩
 refine ⟨rfl,?_,rfl,?_⟩
 ·exact vint (wrap64 (by omega) (by omega))
 rfl
def doAny_con:Con:={ ι:=(List (List Dat))×(List Dat)×(List (List Dat)),pre:=λ i=>i.1.length<=1048576/\i.2.2.length<=1048576,args:=λ i=>[.one (.sl 56 [.int,.int] i.1),.one (.ro (.fn 28 [[.im (Value.int .i64 ((i.2.1.getD 0 (.int 0)).n)),.im (Value.int .i64 ((i.2.1.getD 1 (.int 0)).n))],[.sl 3 [.int] i.2.2]]))],tag:=29,res:=λ i=>⟨false,[none],[.im (Value.bool (i.1.any (outB i.2.2 i.2.1)))]⟩ }
theorem doAny_ok:doAny_con.Ok Try.prog 27:=by
 refine fok (X:=⟨tt,[(49,doIdx_con)],[],9,[]⟩) mixed tt_ok (CTok.cons doIdx_ok (CTok.nil _)) Try.func27 (λ _=>[]) ?_
 rintro ⟨l,d,c⟩ hpre
 have hpre:l.length<=1048576/\c.length<=1048576:=hpre
 refine by_nf (q:=∃ i1:(List (List Dat))×(List Dat)×(List (List Dat)),[DA.one (DC.sl 56 [.int,.int] l),DA.one (DC.ro (.fn 28 [[.im (vI ((d.getD 0 (.int 0)).n)),.im (vI ((d.getD 1 (.int 0)).n))],[.sl 3 [.int] c]]))]=doIdx_con.args i1/\doIdx_con.pre i1/\((Value.bool (decide ((idxB (outB i1.2.2 i1.2.1) i1.1)≥(0:Int)))=Value.bool (l.any (outB c d))))) (by kernel_rfl) ?_
 delta vI
 refine ⟨(l,d,c),by
  rfl,by
  exact hpre,?_⟩
 show Value.bool (decide ((idxB (outB c d) l)≥(0:Int)))=Value.bool (l.any (outB c d))
 exact congrArg Value.bool (idxB_any _ _)
theorem insI_same' {s:List Int} {p:Int} {n:Nat} (hn:n<s.length) (hl:∀ j,j<n->s.getD j 0<p) (h:s.getD n 0=p):insI p s=s:=by
 rw [insI_at (n:=n) (by omega) hl (λ _=>by omega),if_pos ⟨hn,h⟩]
theorem insI_put {s:List Int} {p:Int} {n:Nat} (hn:n<=s.length) (hl:∀ j,j<n->s.getD j 0<p) (h:n<s.length->¬ s.getD n 0<p/\s.getD n 0≠p):insI p s=s.take n++[p]++s.drop n:=by
 rw [insI_at hn hl (λ q=>(h q).1),if_neg (λ q=>(h q.1).2 q.2)]
theorem rI_take (l:List Int) (n:Nat):(rI l).take n=rI (l.take n):=by simp [rI,List.map_take]
theorem rI_drop (l:List Int) (n:Nat):(rI l).drop n=rI (l.drop n):=by simp [rI,List.map_drop]
theorem rI_put (s:List Int) (n:Nat) (p:Int):(((([]:List (List Dat))++(rI s).take n)++([[Dat.int p]]:List (List Dat)))++(rI s).drop n)=rI (s.take n++[p]++s.drop n):=by
 rw [List.nil_append,rI_take,rI_drop]
 simp [rI]
def l17Put_con:Con:={ ι:=(List Int)×Int,pre:=λ i=>i.1.length<=1048576,args:=λ i=>[.one (.sl 3 [.int] (rI i.1)),.one (.im (.int .i64 i.2))],res:=λ i=>⟨false,[none],[.view 3 [.int] (rI (insI i.2 i.1))]⟩ }
theorem l17Put_ok:l17Put_con.Ok Try.prog 20:=by
 refine fok (X:=⟨tt,[],[],48,[]⟩) mixed tt_ok (CTok.nil _) Try.func20 (λ (i:(List Int)×Int)=>[(2,.mk 2 (Nat) (λ x1=>{ tm:=[(0,.one (.one (.ext 1))),(1,.one (.one (.im (Value.int .i64 i.2)))),(5,.one (.one (.im (Value.int .i64 ((x1:Nat):Int)))))],en:=[(1,.view 3 [.int] (rI i.1) [])] }) (λ x1=>x1<=i.1.length/\∀ j,j<x1->i.1.getD j 0<i.2) (λ x1=>i.1.length-x1) (λ _=>[]))]) ?_
 rintro ⟨l,n⟩ hpre
 have hpre:l.length<=1048576:=hpre
 refine by_nf (q:=(∃ x1:Nat,(x1<=l.length/\∀ j,j<x1->l.getD j 0<n)/\((rf (vI n))/\(vI (0:Int)=vI (nI x1))/\(rf (rI l))))/\∀ x1:Nat,(x1<=l.length/\∀ j,j<x1->l.getD j 0<n)->(((decide ((nI x1)<(nI ((rI l).length))))=true->((0<=(nI x1)/\(nI x1)<((rI l).length:Int))/\((x1<(rI l).length)/\(((decide (((((rI l).getD x1 []).getD 0 (.int 0))).n<n))=true->(∃ y2:Nat,(y2<=l.length/\∀ j,j<y2->l.getD j 0<n)/\(l.length-y2<l.length-x1)/\((rf (vI n))/\(vI (wR ((nI x1)+(1:Int)))=vI (nI y2))/\(rf (rI l)))))/\((decide (((((rI l).getD x1 []).getD 0 (.int 0))).n<n))=false->(((decide ((nI x1)<(nI ((rI l).length))))=true->((0<=(nI x1)/\(nI x1)<((rI l).length:Int))/\((x1<(rI l).length)/\(((((((rI l).getD x1 []).getD 0 (.int 0))).n == n)=true->(((rI l)=rI (insI n l))))/\((((((rI l).getD x1 []).getD 0 (.int 0))).n == n)=false->((Nat.beq 1 1=true)/\((0<=(0:Int))/\(((0:Int)<=(nI x1))/\(((nI x1)<=((rI l).length:Int))/\((([]:List (List Dat)).length+((rI l).take x1).length<=1073741824)/\(((([]:List (List Dat))++((rI l).take x1)).length+([[Dat.int n]]:List (List Dat)).length<=1073741824)/\((Nat.beq 1 1=true)/\((0<=(nI x1))/\(((nI x1)<=((rI l).length:Int))/\((((rI l).length:Int)<=((rI l).length:Int))/\((((([]:List (List Dat))++((rI l).take x1))++([[Dat.int n]]:List (List Dat))).length+(((rI l).take (((rI l).length:Int).toNat)).drop x1).length<=1073741824)/\(((((([]:List (List Dat))++((rI l).take x1))++([[Dat.int n]]:List (List Dat)))++(((rI l).take (((rI l).length:Int).toNat)).drop x1))=rI (insI n l)))))))))))))))))))/\((decide ((nI x1)<(nI ((rI l).length))))=false->((Nat.beq 1 1=true)/\((0<=(0:Int))/\(((0:Int)<=(nI x1))/\(((nI x1)<=((rI l).length:Int))/\((([]:List (List Dat)).length+((rI l).take x1).length<=1073741824)/\(((([]:List (List Dat))++((rI l).take x1)).length+([[Dat.int n]]:List (List Dat)).length<=1073741824)/\((Nat.beq 1 1=true)/\((0<=(nI x1))/\(((nI x1)<=((rI l).length:Int))/\((((rI l).length:Int)<=((rI l).length:Int))/\((((([]:List (List Dat))++((rI l).take x1))++([[Dat.int n]]:List (List Dat))).length+(((rI l).take (((rI l).length:Int).toNat)).drop x1).length<=1073741824)/\(((((([]:List (List Dat))++((rI l).take x1))++([[Dat.int n]]:List (List Dat)))++(((rI l).take (((rI l).length:Int).toNat)).drop x1))=rI (insI n l)))))))))))))))))))))/\((decide ((nI x1)<(nI ((rI l).length))))=false->(((decide ((nI x1)<(nI ((rI l).length))))=true->((0<=(nI x1)/\(nI x1)<((rI l).length:Int))/\((x1<(rI l).length)/\(((((((rI l).getD x1 []).getD 0 (.int 0))).n == n)=true->(((rI l)=rI (insI n l))))/\((((((rI l).getD x1 []).getD 0 (.int 0))).n == n)=false->((Nat.beq 1 1=true)/\((0<=(0:Int))/\(((0:Int)<=(nI x1))/\(((nI x1)<=((rI l).length:Int))/\((([]:List (List Dat)).length+((rI l).take x1).length<=1073741824)/\(((([]:List (List Dat))++((rI l).take x1)).length+([[Dat.int n]]:List (List Dat)).length<=1073741824)/\((Nat.beq 1 1=true)/\((0<=(nI x1))/\(((nI x1)<=((rI l).length:Int))/\((((rI l).length:Int)<=((rI l).length:Int))/\((((([]:List (List Dat))++((rI l).take x1))++([[Dat.int n]]:List (List Dat))).length+(((rI l).take (((rI l).length:Int).toNat)).drop x1).length<=1073741824)/\(((((([]:List (List Dat))++((rI l).take x1))++([[Dat.int n]]:List (List Dat)))++(((rI l).take (((rI l).length:Int).toNat)).drop x1))=rI (insI n l)))))))))))))))))))/\((decide ((nI x1)<(nI ((rI l).length))))=false->((Nat.beq 1 1=true)/\((0<=(0:Int))/\(((0:Int)<=(nI x1))/\(((nI x1)<=((rI l).length:Int))/\((([]:List (List Dat)).length+((rI l).take x1).length<=1073741824)/\(((([]:List (List Dat))++((rI l).take x1)).length+([[Dat.int n]]:List (List Dat)).length<=1073741824)/\((Nat.beq 1 1=true)/\((0<=(nI x1))/\(((nI x1)<=((rI l).length:Int))/\((((rI l).length:Int)<=((rI l).length:Int))/\((((([]:List (List Dat))++((rI l).take x1))++([[Dat.int n]]:List (List Dat))).length+(((rI l).take (((rI l).length:Int).toNat)).drop x1).length<=1073741824)/\(((((([]:List (List Dat))++((rI l).take x1))++([[Dat.int n]]:List (List Dat)))++(((rI l).take (((rI l).length:Int).toNat)).drop x1))=rI (insI n l))))))))))))))))))) (by kernel_rfl) ?_
 delta vI wR nI
 have hrl:=rI_len l
 have hg:∀ k:Nat,k<l.length->(((rI l).getD k []).getD 0 (.int 0)).n=l.getD k 0:=λ k h=>rI_n h
 refine ⟨⟨0,by
  exact ⟨Nat.zero_le _,λ j hj=>absurd hj (Nat.not_lt_zero j)⟩,?_⟩,?_⟩
 ·refine ⟨rfl,?_,rfl⟩
  rfl
 intro (k:Nat) hki1
 have hki1:k<=l.length/\∀ j,j<k->l.getD j 0<n:=hki1
 refine And.symm ⟨λ c6=>?_,λ c6=>?_⟩
 ·try simp only [nrm] at c6
  refine And.symm ⟨λ c45=>?_,λ c45=>?_⟩
  ·try simp only [nrm] at c45
   refine ao (by rfl) λ o62=>?_
   refine ao (by omega) λ o63=>?_
   refine ao (by omega) λ o64=>?_
   refine ao (by omega) λ o65=>?_
   refine ao (by simp only [List.length_append,List.length_take,List.length_drop,List.length_cons,List.length_nil,Int.toNat_natCast];omega) λ o66=>?_
   refine ao (by simp only [List.length_append,List.length_take,List.length_drop,List.length_cons,List.length_nil,Int.toNat_natCast];omega) λ o67=>?_
   refine ao (by rfl) λ o68=>?_
   refine ao (by omega) λ o69=>?_
   refine ao (by omega) λ o70=>?_
   refine ao (by omega) λ o71=>?_
   refine ao (by simp only [List.length_append,List.length_take,List.length_drop,List.length_cons,List.length_nil,Int.toNat_natCast];omega) λ o72=>?_
   rw [Int.toNat_natCast,List.take_length,rI_put,insI_put (n:=k) (by omega) hki1.2 (λ hq=>by have e:=hg k hq;exact ⟨by omega,by omega⟩)];done
  try simp only [nrm] at c45
  refine ao (by omega) λ o46=>?_
  refine ao (by omega) λ o47=>?_
  refine ⟨λ c48=>?_,λ c48=>?_⟩
  ·try simp only [nrm] at c48
   rw [insI_same' (n:=k) (by omega) hki1.2 (by have e:=hg k (by omega);omega)];done
  try simp only [nrm] at c48
  refine ao (by rfl) λ o50=>?_
  refine ao (by omega) λ o51=>?_
  refine ao (by omega) λ o52=>?_
  refine ao (by omega) λ o53=>?_
  refine ao (by omega) λ o54=>?_
  refine ao (by omega) λ o55=>?_
  refine ao (by rfl) λ o56=>?_
  refine ao (by omega) λ o57=>?_
  refine ao (by omega) λ o58=>?_
  refine ao (by omega) λ o59=>?_
  refine ao (by omega) λ o60=>?_
  rw [Int.toNat_natCast,List.take_length,rI_put,insI_put (n:=k) (by omega) hki1.2 (λ hq=>by have e:=hg k hq;exact ⟨by omega,by omega⟩)];done
 try simp only [nrm] at c6
 refine ao (by omega) λ o7=>?_
 refine ao (by omega) λ o8=>?_
 refine ⟨λ c9=>?_,λ c9=>?_⟩
 ·try simp only [nrm] at c9
  refine ⟨k+1,by
   exact ⟨by omega,lt_stepB hki1.2 (by have e:=hg k (by omega);omega)⟩,by
   omega,?_⟩
  refine ⟨rfl,?_,rfl⟩
  exact vint (wrap64 (by omega) (by omega))
 try simp only [nrm] at c9
 refine And.symm ⟨λ c16=>?_,λ c16=>?_⟩
 ·try simp only [nrm] at c16
  refine ao (by rfl) λ o33=>?_
  refine ao (by omega) λ o34=>?_
  refine ao (by omega) λ o35=>?_
  refine ao (by omega) λ o36=>?_
  refine ao (by omega) λ o37=>?_
  refine ao (by omega) λ o38=>?_
  refine ao (by rfl) λ o39=>?_
  refine ao (by omega) λ o40=>?_
  refine ao (by omega) λ o41=>?_
  refine ao (by omega) λ o42=>?_
  refine ao (by omega) λ o43=>?_
  rw [Int.toNat_natCast,List.take_length,rI_put,insI_put (n:=k) (by omega) hki1.2 (λ hq=>by have e:=hg k hq;exact ⟨by omega,by omega⟩)];done
 try simp only [nrm] at c16
 refine ao (by omega) λ o17=>?_
 refine ao (by omega) λ o18=>?_
 refine ⟨λ c19=>?_,λ c19=>?_⟩
 ·try simp only [nrm] at c19
  rw [insI_same' (n:=k) (by omega) hki1.2 (by have e:=hg k (by omega);omega)];done
 try simp only [nrm] at c19
 refine ao (by rfl) λ o21=>?_
 refine ao (by omega) λ o22=>?_
 refine ao (by omega) λ o23=>?_
 refine ao (by omega) λ o24=>?_
 refine ao (by simp only [List.length_append,List.length_take,List.length_drop,List.length_cons,List.length_nil,Int.toNat_natCast];omega) λ o25=>?_
 refine ao (by simp only [List.length_append,List.length_take,List.length_drop,List.length_cons,List.length_nil,Int.toNat_natCast];omega) λ o26=>?_
 refine ao (by rfl) λ o27=>?_
 refine ao (by omega) λ o28=>?_
 refine ao (by omega) λ o29=>?_
 refine ao (by omega) λ o30=>?_
 refine ao (by simp only [List.length_append,List.length_take,List.length_drop,List.length_cons,List.length_nil,Int.toNat_natCast];omega) λ o31=>?_
 rw [Int.toNat_natCast,List.take_length,rI_put,insI_put (n:=k) (by omega) hki1.2 (λ hq=>by have e:=hg k hq;exact ⟨by omega,by omega⟩)];done
def iBorder_con:Con:={ ι:=(List Dat)×(List (List Dat)),pre:=λ i=>(i.1.getD 9 (.int 0)).r.length<=1048576/\i.2.length<=1048576,args:=λ i=>[.agg [.im (.int .i64 ((i.1.getD 0 (.int 0)).n)),.im (.bool ((i.1.getD 1 (.int 0)).b)),.im (.int .i64 ((i.1.getD 2 (.int 0)).n)),.im (.int .i64 ((i.1.getD 3 (.int 0)).n)),.im (.int .i64 ((i.1.getD 4 (.int 0)).n)),.im (.int .i64 ((i.1.getD 5 (.int 0)).n)),.sl 89 [.sl 35 [.int,.int]] ((i.1.getD 6 (.int 0)).r),.sl 95 [.bool,.sl 3 [.int],.sl 3 [.int],.bool,.sl 3 [.int],.sl 3 [.int],.bool,.sl 3 [.int],.sl 3 [.int],.bool,.sl 3 [.int],.sl 3 [.int],.bool,.sl 3 [.int],.sl 3 [.int],.bool,.sl 3 [.int],.sl 3 [.int]] ((i.1.getD 7 (.int 0)).r),.sl 98 [.bool,.sl 3 [.int],.sl 3 [.int],.bool,.sl 3 [.int],.sl 3 [.int],.bool,.sl 3 [.int],.sl 3 [.int]] ((i.1.getD 8 (.int 0)).r),.sl 56 [.int,.int] ((i.1.getD 9 (.int 0)).r),.sl 3 [.int] ((i.1.getD 10 (.int 0)).r)],.one (.sl 3 [.int] i.2)],res:=λ i=>⟨false,[none],[.own 3 [.int] (rI (bwR ((i.1.getD 9 (.int 0)).r) i.2))]⟩ }
theorem iBorder_ok:iBorder_con.Ok Try.prog 8:=by
 refine fok (X:=⟨tt,[(26,hasInt_con),(27,doAny_con),(29,sortI_con),(30,compI_con)],[],36,[]⟩) mixed tt_ok (CTok.cons hasInt_ok (CTok.cons doAny_ok (CTok.cons sortI_ok (CTok.cons compI_ok (CTok.nil _))))) Try.func8 (λ (i:(List Dat)×(List (List Dat)))=>[(3,.mk 10 (Nat) (λ x1=>{ tm:=[(2,.one (.one (.bp 1 0))),(3,.one (.one (.bp 7 0))),(10,.one (.one (.ext 5))),(11,.one (.one (.im (Value.int .i64 ((((i.1.getD 9 (.int 0)).r).length:Nat):Int))))),(12,.one (.one (.im (Value.int .i64 ((x1:Nat):Int))))),(5,.one (.one (.ext 9)))],en:=[(1,.box [.im (Value.int .i64 ((i.1.getD 0 (.int 0)).n)),.im (Value.bool ((i.1.getD 1 (.int 0)).b)),.im (Value.int .i64 ((i.1.getD 2 (.int 0)).n)),.im (Value.int .i64 ((i.1.getD 3 (.int 0)).n)),.im (Value.int .i64 ((i.1.getD 4 (.int 0)).n)),.im (Value.int .i64 ((i.1.getD 5 (.int 0)).n)),.ext 2,.ext 3,.ext 4,.ext 5,.ext 6]),(7,.box [.ext 8]),(2,.view 89 [.sl 35 [.int,.int]] ((i.1.getD 6 (.int 0)).r) []),(3,.view 95 [.bool,.sl 3 [.int],.sl 3 [.int],.bool,.sl 3 [.int],.sl 3 [.int],.bool,.sl 3 [.int],.sl 3 [.int],.bool,.sl 3 [.int],.sl 3 [.int],.bool,.sl 3 [.int],.sl 3 [.int],.bool,.sl 3 [.int],.sl 3 [.int]] ((i.1.getD 7 (.int 0)).r) []),(4,.view 98 [.bool,.sl 3 [.int],.sl 3 [.int],.bool,.sl 3 [.int],.sl 3 [.int],.bool,.sl 3 [.int],.sl 3 [.int]] ((i.1.getD 8 (.int 0)).r) []),(5,.view 56 [.int,.int] ((i.1.getD 9 (.int 0)).r) []),(6,.view 3 [.int] ((i.1.getD 10 (.int 0)).r) []),(8,.view 3 [.int] i.2 []),(9,.own 3 [.int] (rI (bwL ((i.1.getD 9 (.int 0)).r) i.2 x1)))] }) (λ x1=>x1<=((i.1.getD 9 (.int 0)).r).length) (λ x1=>((i.1.getD 9 (.int 0)).r).length-x1) (λ _=>[]))]) ?_
 rintro ⟨r,c⟩ hpre
 have hpre:(r.getD 9 (.int 0)).r.length<=1048576/\c.length<=1048576:=hpre
 refine by_nf (q:=(∃ x1:Nat,(x1<=((r.getD 9 (.int 0)).r).length)/\((rf (vI (nI (((r.getD 9 (.int 0)).r).length))))/\(vI (0:Int)=vI (nI x1))/\(rf (vI ((r.getD 0 (.int 0)).n)))/\(rf (Value.bool ((r.getD 1 (.int 0)).b)))/\(rf (vI ((r.getD 2 (.int 0)).n)))/\(rf (vI ((r.getD 3 (.int 0)).n)))/\(rf (vI ((r.getD 4 (.int 0)).n)))/\(rf (vI ((r.getD 5 (.int 0)).n)))/\(rf ((r.getD 6 (.int 0)).r))/\(rf ((r.getD 7 (.int 0)).r))/\(rf ((r.getD 8 (.int 0)).r))/\(rf ((r.getD 9 (.int 0)).r))/\(rf ((r.getD 10 (.int 0)).r))/\(rf (c))/\(([]:List (List Dat))=(rI (bwL ((r.getD 9 (.int 0)).r) c x1)))))/\∀ x1:Nat,(x1<=((r.getD 9 (.int 0)).r).length)->(((decide ((nI x1)<(nI (((r.getD 9 (.int 0)).r).length))))=true->((0<=(nI x1)/\(nI x1)<(((r.getD 9 (.int 0)).r).length:Int))/\((x1<((r.getD 9 (.int 0)).r).length)/\(∃ i1:(List (List Dat))×Int,[DA.one (cS c),DA.one (cI ((((((r.getD 9 (.int 0)).r).getD x1 []).getD 0 (.int 0))).n))]=hasInt_con.args i1/\hasInt_con.pre i1/\(((hasB i1.1 i1.2)=true->(∃ i2:(List (List Dat))×(List Dat)×(List (List Dat)),[DA.one (DC.sl 56 [.int,.int] ((r.getD 9 (.int 0)).r)),DA.one (DC.ro (.fn 28 [[.im (vI (((((r.getD 9 (.int 0)).r).getD x1 []).getD 0 (.int 0))).n),.im (vI (((((r.getD 9 (.int 0)).r).getD x1 []).getD 1 (.int 0))).n)],[.sl 3 [.int] c]]))]=doAny_con.args i2/\doAny_con.pre i2/\(((i2.1.any (outB i2.2.2 i2.2.1))=true->(((rI (bwL ((r.getD 9 (.int 0)).r) c x1)).length+([[Dat.int ((((((r.getD 9 (.int 0)).r).getD x1 []).getD 1 (.int 0))).n)]]:List (List Dat)).length<=1073741824)/\(∃ y2:Nat,(y2<=((r.getD 9 (.int 0)).r).length)/\(((r.getD 9 (.int 0)).r).length-y2<((r.getD 9 (.int 0)).r).length-x1)/\((rf (vI (nI (((r.getD 9 (.int 0)).r).length))))/\(vI (wR ((nI x1)+(1:Int)))=vI (nI y2))/\(rf (vI ((r.getD 0 (.int 0)).n)))/\(rf (Value.bool ((r.getD 1 (.int 0)).b)))/\(rf (vI ((r.getD 2 (.int 0)).n)))/\(rf (vI ((r.getD 3 (.int 0)).n)))/\(rf (vI ((r.getD 4 (.int 0)).n)))/\(rf (vI ((r.getD 5 (.int 0)).n)))/\(rf ((r.getD 6 (.int 0)).r))/\(rf ((r.getD 7 (.int 0)).r))/\(rf ((r.getD 8 (.int 0)).r))/\(rf ((r.getD 9 (.int 0)).r))/\(rf ((r.getD 10 (.int 0)).r))/\(rf (c))/\(((rI (bwL ((r.getD 9 (.int 0)).r) c x1))++([[Dat.int ((((((r.getD 9 (.int 0)).r).getD x1 []).getD 1 (.int 0))).n)]]:List (List Dat)))=(rI (bwL ((r.getD 9 (.int 0)).r) c y2)))))))/\((i2.1.any (outB i2.2.2 i2.2.1))=false->(∃ y3:Nat,(y3<=((r.getD 9 (.int 0)).r).length)/\(((r.getD 9 (.int 0)).r).length-y3<((r.getD 9 (.int 0)).r).length-x1)/\((rf (vI (nI (((r.getD 9 (.int 0)).r).length))))/\(vI (wR ((nI x1)+(1:Int)))=vI (nI y3))/\(rf (vI ((r.getD 0 (.int 0)).n)))/\(rf (Value.bool ((r.getD 1 (.int 0)).b)))/\(rf (vI ((r.getD 2 (.int 0)).n)))/\(rf (vI ((r.getD 3 (.int 0)).n)))/\(rf (vI ((r.getD 4 (.int 0)).n)))/\(rf (vI ((r.getD 5 (.int 0)).n)))/\(rf ((r.getD 6 (.int 0)).r))/\(rf ((r.getD 7 (.int 0)).r))/\(rf ((r.getD 8 (.int 0)).r))/\(rf ((r.getD 9 (.int 0)).r))/\(rf ((r.getD 10 (.int 0)).r))/\(rf (c))/\((rI (bwL ((r.getD 9 (.int 0)).r) c x1))=(rI (bwL ((r.getD 9 (.int 0)).r) c y3)))))))))/\((hasB i1.1 i1.2)=false->(∃ y4:Nat,(y4<=((r.getD 9 (.int 0)).r).length)/\(((r.getD 9 (.int 0)).r).length-y4<((r.getD 9 (.int 0)).r).length-x1)/\((rf (vI (nI (((r.getD 9 (.int 0)).r).length))))/\(vI (wR ((nI x1)+(1:Int)))=vI (nI y4))/\(rf (vI ((r.getD 0 (.int 0)).n)))/\(rf (Value.bool ((r.getD 1 (.int 0)).b)))/\(rf (vI ((r.getD 2 (.int 0)).n)))/\(rf (vI ((r.getD 3 (.int 0)).n)))/\(rf (vI ((r.getD 4 (.int 0)).n)))/\(rf (vI ((r.getD 5 (.int 0)).n)))/\(rf ((r.getD 6 (.int 0)).r))/\(rf ((r.getD 7 (.int 0)).r))/\(rf ((r.getD 8 (.int 0)).r))/\(rf ((r.getD 9 (.int 0)).r))/\(rf ((r.getD 10 (.int 0)).r))/\(rf (c))/\((rI (bwL ((r.getD 9 (.int 0)).r) c x1))=(rI (bwL ((r.getD 9 (.int 0)).r) c y4)))))))))))/\((decide ((nI x1)<(nI (((r.getD 9 (.int 0)).r).length))))=false->(∃ i3:(List Int),[DA.one (cS (rI (bwL ((r.getD 9 (.int 0)).r) c x1)))]=sortI_con.args i3/\sortI_con.pre i3/\(∃ i4:(List Int),[DA.one (cS (rI (srtI i3)))]=compI_con.args i4/\compI_con.pre i4/\((rI (dedI i4)=rI (bwR ((r.getD 9 (.int 0)).r) c)))))))) (by kernel_rfl) ?_
 delta vI wR nI
 have hbl:=λ k=>bwL_len ((r.getD 9 (.int 0)).r) c k
 have hrl:=λ l=>rI_len l
 refine ⟨⟨0,by
  omega,?_⟩,?_⟩
 ·refine ⟨rfl,?_,rfl,rfl,rfl,rfl,rfl,rfl,rfl,rfl,rfl,rfl,rfl,rfl,?_⟩
  ·rfl
  rfl
 intro (k:Nat) hki1
 have hki1:k<=((r.getD 9 (.int 0)).r).length:=hki1
 refine And.symm ⟨λ c18=>?_,λ c18=>?_⟩
 ·try simp only [nrm] at c18
  refine ⟨(bwL ((r.getD 9 (.int 0)).r) c k),by
   rfl,by
   show (bwL ((r.getD 9 (.int 0)).r) c k).length<=1048576
   have:=hbl k;omega,?_⟩
  refine ⟨(srtI (bwL ((r.getD 9 (.int 0)).r) c k)),by
   rfl,by
   show (srtI (bwL ((r.getD 9 (.int 0)).r) c k)).length<=1048576
   rw [srtI_len];have:=hbl k;omega,?_⟩
  rw [ded_srt];unfold bwR;rw [show ((r.getD 9 (.int 0)).r).length=k by omega]
 try simp only [nrm] at c18
 refine ao (by omega) λ o19=>?_
 refine ao (by omega) λ o20=>?_
 refine ⟨(c,(((((r.getD 9 (.int 0)).r).getD k []).getD 0 (.int 0))).n),by
  rfl,by
  show c.length<=1073741824
  omega,?_⟩
 refine And.symm ⟨λ c24=>?_,λ c24=>?_⟩
 ·replace c24:(hasB c ((((((r.getD 9 (.int 0)).r).getD k []).getD 0 (.int 0))).n))=false:=c24
  try simp only [nrm] at c24
  refine ⟨k+1,by
   trivial,by
   omega,?_⟩
  refine ⟨rfl,?_,rfl,rfl,rfl,rfl,rfl,rfl,rfl,rfl,rfl,rfl,rfl,rfl,?_⟩
  ·exact vint (wrap64 (by omega) (by omega))
  rw [bwL_no (.inl c24)]
 replace c24:(hasB c ((((((r.getD 9 (.int 0)).r).getD k []).getD 0 (.int 0))).n))=true:=c24
 try simp only [nrm] at c24
 refine ⟨(((r.getD 9 (.int 0)).r),(((r.getD 9 (.int 0)).r).getD k []),c),by
  rfl,by
  show ((r.getD 9 (.int 0)).r).length<=1048576/\c.length<=1048576
  exact ⟨by omega,hpre.2⟩,?_⟩
 refine And.symm ⟨λ c28=>?_,λ c28=>?_⟩
 ·replace c28:(((r.getD 9 (.int 0)).r).any (outB c (((r.getD 9 (.int 0)).r).getD k [])))=false:=c28
  try simp only [nrm] at c28
  refine ⟨k+1,by
   trivial,by
   omega,?_⟩
  refine ⟨rfl,?_,rfl,rfl,rfl,rfl,rfl,rfl,rfl,rfl,rfl,rfl,rfl,rfl,?_⟩
  ·exact vint (wrap64 (by omega) (by omega))
  rw [bwL_no (.inr c28)]
 replace c28:(((r.getD 9 (.int 0)).r).any (outB c (((r.getD 9 (.int 0)).r).getD k [])))=true:=c28
 try simp only [nrm] at c28
 refine ao (by rw [hrl];have:=hbl k;simp only [List.length_cons,List.length_nil];omega) λ o29=>?_
 refine ⟨k+1,by
  trivial,by
  omega,?_⟩
 refine ⟨rfl,?_,rfl,rfl,rfl,rfl,rfl,rfl,rfl,rfl,rfl,rfl,rfl,rfl,?_⟩
 ·exact vint (wrap64 (by omega) (by omega))
 rw [bwL_yes c24 c28,← rI_app];rfl
def sBorder_con:Con:={ ι:=(List Dat)×(List (List Dat)),pre:=λ i=>(i.1.getD 9 (.int 0)).r.length<=1048576/\i.2.length<=1048576,args:=λ i=>[.agg [.im (.int .i64 ((i.1.getD 0 (.int 0)).n)),.im (.bool ((i.1.getD 1 (.int 0)).b)),.im (.int .i64 ((i.1.getD 2 (.int 0)).n)),.im (.int .i64 ((i.1.getD 3 (.int 0)).n)),.im (.int .i64 ((i.1.getD 4 (.int 0)).n)),.im (.int .i64 ((i.1.getD 5 (.int 0)).n)),.sl 89 [.sl 35 [.int,.int]] ((i.1.getD 6 (.int 0)).r),.sl 95 [.bool,.sl 3 [.int],.sl 3 [.int],.bool,.sl 3 [.int],.sl 3 [.int],.bool,.sl 3 [.int],.sl 3 [.int],.bool,.sl 3 [.int],.sl 3 [.int],.bool,.sl 3 [.int],.sl 3 [.int],.bool,.sl 3 [.int],.sl 3 [.int]] ((i.1.getD 7 (.int 0)).r),.sl 98 [.bool,.sl 3 [.int],.sl 3 [.int],.bool,.sl 3 [.int],.sl 3 [.int],.bool,.sl 3 [.int],.sl 3 [.int]] ((i.1.getD 8 (.int 0)).r),.sl 56 [.int,.int] ((i.1.getD 9 (.int 0)).r),.sl 3 [.int] ((i.1.getD 10 (.int 0)).r)],.one (.sl 3 [.int] i.2)],res:=λ i=>⟨false,[none],[.view 3 [.int] (rI (bwR ((i.1.getD 9 (.int 0)).r) i.2))]⟩ }
theorem sBorder_ok:sBorder_con.Ok Try.prog 5:=by
 refine fok (X:=⟨tt,[(19,sHasInt_con),(20,l17Put_con)],[],50,[]⟩) mixed tt_ok (CTok.cons sHasInt_ok (CTok.cons l17Put_ok (CTok.nil _))) Try.func5 (λ (i:(List Dat)×(List (List Dat)))=>[(3,.mk 9 (Nat) (λ x1=>{ tm:=[(1,.one (.one (.ext 1))),(2,.one (.one (.bp 2 0))),(12,.one (.one (.ext 6))),(13,.one (.one (.im (Value.int .i64 ((((i.1.getD 9 (.int 0)).r).length:Nat):Int))))),(14,.one (.one (.im (Value.int .i64 ((x1:Nat):Int))))),(5,.one (.one (.ext 8)))],en:=[(2,.box [.im (Value.int .i64 ((i.1.getD 0 (.int 0)).n)),.im (Value.bool ((i.1.getD 1 (.int 0)).b)),.im (Value.int .i64 ((i.1.getD 2 (.int 0)).n)),.im (Value.int .i64 ((i.1.getD 3 (.int 0)).n)),.im (Value.int .i64 ((i.1.getD 4 (.int 0)).n)),.im (Value.int .i64 ((i.1.getD 5 (.int 0)).n)),.ext 3,.ext 4,.ext 5,.ext 6,.ext 7]),(1,.view 3 [.int] i.2 []),(3,.view 89 [.sl 35 [.int,.int]] ((i.1.getD 6 (.int 0)).r) []),(4,.view 95 [.bool,.sl 3 [.int],.sl 3 [.int],.bool,.sl 3 [.int],.sl 3 [.int],.bool,.sl 3 [.int],.sl 3 [.int],.bool,.sl 3 [.int],.sl 3 [.int],.bool,.sl 3 [.int],.sl 3 [.int],.bool,.sl 3 [.int],.sl 3 [.int]] ((i.1.getD 7 (.int 0)).r) []),(5,.view 98 [.bool,.sl 3 [.int],.sl 3 [.int],.bool,.sl 3 [.int],.sl 3 [.int],.bool,.sl 3 [.int],.sl 3 [.int]] ((i.1.getD 8 (.int 0)).r) []),(6,.view 56 [.int,.int] ((i.1.getD 9 (.int 0)).r) []),(7,.view 3 [.int] ((i.1.getD 10 (.int 0)).r) []),(8,.view 3 [.int] (rI (bwT ((i.1.getD 9 (.int 0)).r) i.2 x1)) [])] }) (λ x1=>x1<=((i.1.getD 9 (.int 0)).r).length) (λ x1=>((i.1.getD 9 (.int 0)).r).length-x1) (λ x1=>[(6,.mk 10 (Nat) (λ x2=>{ tm:=[(1,.one (.one (.ext 1))),(2,.one (.one (.bp 2 0))),(12,.one (.one (.ext 6))),(13,.one (.one (.im (Value.int .i64 ((((i.1.getD 9 (.int 0)).r).length:Nat):Int))))),(14,.one (.one (.im (Value.int .i64 ((x1:Nat):Int))))),(7,.one (.one (.bp 8 0))),(19,.one (.one (.ext 6))),(20,.one (.one (.im (Value.int .i64 ((((i.1.getD 9 (.int 0)).r).length:Nat):Int))))),(21,.one (.one (.im (Value.int .i64 ((x2:Nat):Int))))),(5,.one (.one (.ext 9)))],en:=[(2,.box [.im (Value.int .i64 ((i.1.getD 0 (.int 0)).n)),.im (Value.bool ((i.1.getD 1 (.int 0)).b)),.im (Value.int .i64 ((i.1.getD 2 (.int 0)).n)),.im (Value.int .i64 ((i.1.getD 3 (.int 0)).n)),.im (Value.int .i64 ((i.1.getD 4 (.int 0)).n)),.im (Value.int .i64 ((i.1.getD 5 (.int 0)).n)),.ext 3,.ext 4,.ext 5,.ext 6,.ext 7]),(8,.box [.im (Value.int .i64 (((((i.1.getD 9 (.int 0)).r).getD x1 []).getD 0 (.int 0))).n),.im (Value.int .i64 (((((i.1.getD 9 (.int 0)).r).getD x1 []).getD 1 (.int 0))).n)]),(1,.view 3 [.int] i.2 []),(3,.view 89 [.sl 35 [.int,.int]] ((i.1.getD 6 (.int 0)).r) []),(4,.view 95 [.bool,.sl 3 [.int],.sl 3 [.int],.bool,.sl 3 [.int],.sl 3 [.int],.bool,.sl 3 [.int],.sl 3 [.int],.bool,.sl 3 [.int],.sl 3 [.int],.bool,.sl 3 [.int],.sl 3 [.int],.bool,.sl 3 [.int],.sl 3 [.int]] ((i.1.getD 7 (.int 0)).r) []),(5,.view 98 [.bool,.sl 3 [.int],.sl 3 [.int],.bool,.sl 3 [.int],.sl 3 [.int],.bool,.sl 3 [.int],.sl 3 [.int]] ((i.1.getD 8 (.int 0)).r) []),(6,.view 56 [.int,.int] ((i.1.getD 9 (.int 0)).r) []),(7,.view 3 [.int] ((i.1.getD 10 (.int 0)).r) []),(9,.view 3 [.int] (rI (bwE ((i.1.getD 9 (.int 0)).r) i.2 x1 (bwT ((i.1.getD 9 (.int 0)).r) i.2 x1) x2)) [])] }) (λ x2=>x2<=((i.1.getD 9 (.int 0)).r).length) (λ x2=>((i.1.getD 9 (.int 0)).r).length-x2) (λ _=>[]))]))]) ?_
 rintro ⟨r,c⟩ hpre
 have hpre:(r.getD 9 (.int 0)).r.length<=1048576/\c.length<=1048576:=hpre
 refine by_nf (q:=(∃ x1:Nat,(x1<=((r.getD 9 (.int 0)).r).length)/\((rf (vI (nI (((r.getD 9 (.int 0)).r).length))))/\(vI (0:Int)=vI (nI x1))/\(rf (vI ((r.getD 0 (.int 0)).n)))/\(rf (Value.bool ((r.getD 1 (.int 0)).b)))/\(rf (vI ((r.getD 2 (.int 0)).n)))/\(rf (vI ((r.getD 3 (.int 0)).n)))/\(rf (vI ((r.getD 4 (.int 0)).n)))/\(rf (vI ((r.getD 5 (.int 0)).n)))/\(rf (c))/\(rf ((r.getD 6 (.int 0)).r))/\(rf ((r.getD 7 (.int 0)).r))/\(rf ((r.getD 8 (.int 0)).r))/\(rf ((r.getD 9 (.int 0)).r))/\(rf ((r.getD 10 (.int 0)).r))/\(([]:List (List Dat))=(rI (bwT ((r.getD 9 (.int 0)).r) c x1)))))/\∀ x1:Nat,(x1<=((r.getD 9 (.int 0)).r).length)->(((decide ((nI x1)<(nI (((r.getD 9 (.int 0)).r).length))))=true->((0<=(nI x1)/\(nI x1)<(((r.getD 9 (.int 0)).r).length:Int))/\((x1<((r.getD 9 (.int 0)).r).length)/\((∃ x2:Nat,(x2<=((r.getD 9 (.int 0)).r).length)/\((rf (vI (nI (((r.getD 9 (.int 0)).r).length))))/\(rf (vI (nI x1)))/\(rf (vI (nI (((r.getD 9 (.int 0)).r).length))))/\(vI (0:Int)=vI (nI x2))/\(rf (vI ((r.getD 0 (.int 0)).n)))/\(rf (Value.bool ((r.getD 1 (.int 0)).b)))/\(rf (vI ((r.getD 2 (.int 0)).n)))/\(rf (vI ((r.getD 3 (.int 0)).n)))/\(rf (vI ((r.getD 4 (.int 0)).n)))/\(rf (vI ((r.getD 5 (.int 0)).n)))/\(rf (vI (((((r.getD 9 (.int 0)).r).getD x1 []).getD 0 (.int 0))).n))/\(rf (vI (((((r.getD 9 (.int 0)).r).getD x1 []).getD 1 (.int 0))).n))/\(rf (c))/\(rf ((r.getD 6 (.int 0)).r))/\(rf ((r.getD 7 (.int 0)).r))/\(rf ((r.getD 8 (.int 0)).r))/\(rf ((r.getD 9 (.int 0)).r))/\(rf ((r.getD 10 (.int 0)).r))/\((rI (bwT ((r.getD 9 (.int 0)).r) c x1))=(rI (bwE ((r.getD 9 (.int 0)).r) c x1 (bwT ((r.getD 9 (.int 0)).r) c x1) x2)))))/\∀ x2:Nat,(x2<=((r.getD 9 (.int 0)).r).length)->(((decide ((nI x2)<(nI (((r.getD 9 (.int 0)).r).length))))=true->((0<=(nI x2)/\(nI x2)<(((r.getD 9 (.int 0)).r).length:Int))/\((x2<((r.getD 9 (.int 0)).r).length)/\((((((((r.getD 9 (.int 0)).r).getD x1 []).getD 1 (.int 0))).n == (((((r.getD 9 (.int 0)).r).getD x2 []).getD 1 (.int 0))).n)=true->(∃ i1:(List (List Dat))×Int,[DA.one (cS c),DA.one (cI ((((((r.getD 9 (.int 0)).r).getD x1 []).getD 0 (.int 0))).n))]=sHasInt_con.args i1/\sHasInt_con.pre i1/\(((hasB i1.1 i1.2)=true->(∃ i2:(List (List Dat))×Int,[DA.one (cS c),DA.one (cI ((((((r.getD 9 (.int 0)).r).getD x2 []).getD 0 (.int 0))).n))]=sHasInt_con.args i2/\sHasInt_con.pre i2/\(((!(hasB i2.1 i2.2))=true->(∃ i3:(List Int)×Int,[DA.one (cS (rI (bwE ((r.getD 9 (.int 0)).r) c x1 (bwT ((r.getD 9 (.int 0)).r) c x1) x2))),DA.one (cI ((((((r.getD 9 (.int 0)).r).getD x1 []).getD 1 (.int 0))).n))]=l17Put_con.args i3/\l17Put_con.pre i3/\(∃ y3:Nat,(y3<=((r.getD 9 (.int 0)).r).length)/\(((r.getD 9 (.int 0)).r).length-y3<((r.getD 9 (.int 0)).r).length-x2)/\((rf (vI (nI (((r.getD 9 (.int 0)).r).length))))/\(rf (vI (nI x1)))/\(rf (vI (nI (((r.getD 9 (.int 0)).r).length))))/\(vI (wR ((nI x2)+(1:Int)))=vI (nI y3))/\(rf (vI ((r.getD 0 (.int 0)).n)))/\(rf (Value.bool ((r.getD 1 (.int 0)).b)))/\(rf (vI ((r.getD 2 (.int 0)).n)))/\(rf (vI ((r.getD 3 (.int 0)).n)))/\(rf (vI ((r.getD 4 (.int 0)).n)))/\(rf (vI ((r.getD 5 (.int 0)).n)))/\(rf (vI (((((r.getD 9 (.int 0)).r).getD x1 []).getD 0 (.int 0))).n))/\(rf (vI (((((r.getD 9 (.int 0)).r).getD x1 []).getD 1 (.int 0))).n))/\(rf (c))/\(rf ((r.getD 6 (.int 0)).r))/\(rf ((r.getD 7 (.int 0)).r))/\(rf ((r.getD 8 (.int 0)).r))/\(rf ((r.getD 9 (.int 0)).r))/\(rf ((r.getD 10 (.int 0)).r))/\(rI (insI i3.2 i3.1)=(rI (bwE ((r.getD 9 (.int 0)).r) c x1 (bwT ((r.getD 9 (.int 0)).r) c x1) y3)))))))/\((!(hasB i2.1 i2.2))=false->(∃ y4:Nat,(y4<=((r.getD 9 (.int 0)).r).length)/\(((r.getD 9 (.int 0)).r).length-y4<((r.getD 9 (.int 0)).r).length-x2)/\((rf (vI (nI (((r.getD 9 (.int 0)).r).length))))/\(rf (vI (nI x1)))/\(rf (vI (nI (((r.getD 9 (.int 0)).r).length))))/\(vI (wR ((nI x2)+(1:Int)))=vI (nI y4))/\(rf (vI ((r.getD 0 (.int 0)).n)))/\(rf (Value.bool ((r.getD 1 (.int 0)).b)))/\(rf (vI ((r.getD 2 (.int 0)).n)))/\(rf (vI ((r.getD 3 (.int 0)).n)))/\(rf (vI ((r.getD 4 (.int 0)).n)))/\(rf (vI ((r.getD 5 (.int 0)).n)))/\(rf (vI (((((r.getD 9 (.int 0)).r).getD x1 []).getD 0 (.int 0))).n))/\(rf (vI (((((r.getD 9 (.int 0)).r).getD x1 []).getD 1 (.int 0))).n))/\(rf (c))/\(rf ((r.getD 6 (.int 0)).r))/\(rf ((r.getD 7 (.int 0)).r))/\(rf ((r.getD 8 (.int 0)).r))/\(rf ((r.getD 9 (.int 0)).r))/\(rf ((r.getD 10 (.int 0)).r))/\((rI (bwE ((r.getD 9 (.int 0)).r) c x1 (bwT ((r.getD 9 (.int 0)).r) c x1) x2))=(rI (bwE ((r.getD 9 (.int 0)).r) c x1 (bwT ((r.getD 9 (.int 0)).r) c x1) y4)))))))))/\((hasB i1.1 i1.2)=false->(∃ y5:Nat,(y5<=((r.getD 9 (.int 0)).r).length)/\(((r.getD 9 (.int 0)).r).length-y5<((r.getD 9 (.int 0)).r).length-x2)/\((rf (vI (nI (((r.getD 9 (.int 0)).r).length))))/\(rf (vI (nI x1)))/\(rf (vI (nI (((r.getD 9 (.int 0)).r).length))))/\(vI (wR ((nI x2)+(1:Int)))=vI (nI y5))/\(rf (vI ((r.getD 0 (.int 0)).n)))/\(rf (Value.bool ((r.getD 1 (.int 0)).b)))/\(rf (vI ((r.getD 2 (.int 0)).n)))/\(rf (vI ((r.getD 3 (.int 0)).n)))/\(rf (vI ((r.getD 4 (.int 0)).n)))/\(rf (vI ((r.getD 5 (.int 0)).n)))/\(rf (vI (((((r.getD 9 (.int 0)).r).getD x1 []).getD 0 (.int 0))).n))/\(rf (vI (((((r.getD 9 (.int 0)).r).getD x1 []).getD 1 (.int 0))).n))/\(rf (c))/\(rf ((r.getD 6 (.int 0)).r))/\(rf ((r.getD 7 (.int 0)).r))/\(rf ((r.getD 8 (.int 0)).r))/\(rf ((r.getD 9 (.int 0)).r))/\(rf ((r.getD 10 (.int 0)).r))/\((rI (bwE ((r.getD 9 (.int 0)).r) c x1 (bwT ((r.getD 9 (.int 0)).r) c x1) x2))=(rI (bwE ((r.getD 9 (.int 0)).r) c x1 (bwT ((r.getD 9 (.int 0)).r) c x1) y5)))))))))/\(((((((r.getD 9 (.int 0)).r).getD x1 []).getD 1 (.int 0))).n == (((((r.getD 9 (.int 0)).r).getD x2 []).getD 1 (.int 0))).n)=false->(∃ y6:Nat,(y6<=((r.getD 9 (.int 0)).r).length)/\(((r.getD 9 (.int 0)).r).length-y6<((r.getD 9 (.int 0)).r).length-x2)/\((rf (vI (nI (((r.getD 9 (.int 0)).r).length))))/\(rf (vI (nI x1)))/\(rf (vI (nI (((r.getD 9 (.int 0)).r).length))))/\(vI (wR ((nI x2)+(1:Int)))=vI (nI y6))/\(rf (vI ((r.getD 0 (.int 0)).n)))/\(rf (Value.bool ((r.getD 1 (.int 0)).b)))/\(rf (vI ((r.getD 2 (.int 0)).n)))/\(rf (vI ((r.getD 3 (.int 0)).n)))/\(rf (vI ((r.getD 4 (.int 0)).n)))/\(rf (vI ((r.getD 5 (.int 0)).n)))/\(rf (vI (((((r.getD 9 (.int 0)).r).getD x1 []).getD 0 (.int 0))).n))/\(rf (vI (((((r.getD 9 (.int 0)).r).getD x1 []).getD 1 (.int 0))).n))/\(rf (c))/\(rf ((r.getD 6 (.int 0)).r))/\(rf ((r.getD 7 (.int 0)).r))/\(rf ((r.getD 8 (.int 0)).r))/\(rf ((r.getD 9 (.int 0)).r))/\(rf ((r.getD 10 (.int 0)).r))/\((rI (bwE ((r.getD 9 (.int 0)).r) c x1 (bwT ((r.getD 9 (.int 0)).r) c x1) x2))=(rI (bwE ((r.getD 9 (.int 0)).r) c x1 (bwT ((r.getD 9 (.int 0)).r) c x1) y6))))))))))/\((decide ((nI x2)<(nI (((r.getD 9 (.int 0)).r).length))))=false->(∃ y7:Nat,(y7<=((r.getD 9 (.int 0)).r).length)/\(((r.getD 9 (.int 0)).r).length-y7<((r.getD 9 (.int 0)).r).length-x1)/\((rf (vI (nI (((r.getD 9 (.int 0)).r).length))))/\(vI (wR ((nI x1)+(1:Int)))=vI (nI y7))/\(rf (vI ((r.getD 0 (.int 0)).n)))/\(rf (Value.bool ((r.getD 1 (.int 0)).b)))/\(rf (vI ((r.getD 2 (.int 0)).n)))/\(rf (vI ((r.getD 3 (.int 0)).n)))/\(rf (vI ((r.getD 4 (.int 0)).n)))/\(rf (vI ((r.getD 5 (.int 0)).n)))/\(rf (c))/\(rf ((r.getD 6 (.int 0)).r))/\(rf ((r.getD 7 (.int 0)).r))/\(rf ((r.getD 8 (.int 0)).r))/\(rf ((r.getD 9 (.int 0)).r))/\(rf ((r.getD 10 (.int 0)).r))/\((rI (bwE ((r.getD 9 (.int 0)).r) c x1 (bwT ((r.getD 9 (.int 0)).r) c x1) x2))=(rI (bwT ((r.getD 9 (.int 0)).r) c y7)))))))))))/\((decide ((nI x1)<(nI (((r.getD 9 (.int 0)).r).length))))=false->(((rI (bwT ((r.getD 9 (.int 0)).r) c x1))=rI (bwR ((r.getD 9 (.int 0)).r) c)))))) (by kernel_rfl) ?_
 delta vI wR nI
 refine ⟨⟨0,by
  omega,?_⟩,?_⟩
 ·refine ⟨rfl,?_,rfl,rfl,rfl,rfl,rfl,rfl,rfl,rfl,rfl,rfl,rfl,rfl,?_⟩
  ·rfl
  rfl
 intro (k:Nat) hki1
 have hki1:k<=((r.getD 9 (.int 0)).r).length:=hki1
 refine And.symm ⟨λ c18=>?_,λ c18=>?_⟩
 ·try simp only [nrm] at c18
  rw [← bwT_all,show ((r.getD 9 (.int 0)).r).length=k by omega]
 try simp only [nrm] at c18
 refine ao (by omega) λ o19=>?_
 refine ao (by omega) λ o20=>?_
 refine ⟨⟨0,by
  omega,?_⟩,?_⟩
 ·refine ⟨rfl,rfl,rfl,?_,rfl,rfl,rfl,rfl,rfl,rfl,rfl,rfl,rfl,rfl,rfl,rfl,rfl,rfl,?_⟩
  ·rfl
  rfl
 intro (m:Nat) hki21
 have hki21:m<=((r.getD 9 (.int 0)).r).length:=hki21
 refine And.symm ⟨λ c42=>?_,λ c42=>?_⟩
 ·try simp only [nrm] at c42
  refine ⟨k+1,by
   trivial,by
   omega,?_⟩
  refine ⟨rfl,?_,rfl,rfl,rfl,rfl,rfl,rfl,rfl,rfl,rfl,rfl,rfl,rfl,?_⟩
  ·exact vint (wrap64 (by omega) (by omega))
  rw [show m=((r.getD 9 (.int 0)).r).length by omega];rfl
 try simp only [nrm] at c42
 refine ao (by omega) λ o43=>?_
 refine ao (by omega) λ o44=>?_
 refine And.symm ⟨λ c45=>?_,λ c45=>?_⟩
 ·try simp only [nrm] at c45
  refine ⟨m+1,by
   trivial,by
   omega,?_⟩
  refine ⟨rfl,rfl,rfl,?_,rfl,rfl,rfl,rfl,rfl,rfl,rfl,rfl,rfl,rfl,rfl,rfl,rfl,rfl,?_⟩
  ·exact vint (wrap64 (by omega) (by omega))
  rw [bwE_no (.inl c45)]
 try simp only [nrm] at c45
 refine ⟨(c,(((((r.getD 9 (.int 0)).r).getD k []).getD 0 (.int 0))).n),by
  rfl,by
  show c.length<=1073741824
  omega,?_⟩
 refine And.symm ⟨λ c49=>?_,λ c49=>?_⟩
 ·replace c49:(hasB c ((((((r.getD 9 (.int 0)).r).getD k []).getD 0 (.int 0))).n))=false:=c49
  try simp only [nrm] at c49
  refine ⟨m+1,by
   trivial,by
   omega,?_⟩
  refine ⟨rfl,rfl,rfl,?_,rfl,rfl,rfl,rfl,rfl,rfl,rfl,rfl,rfl,rfl,rfl,rfl,rfl,rfl,?_⟩
  ·exact vint (wrap64 (by omega) (by omega))
  rw [bwE_no (.inr (.inl c49))]
 replace c49:(hasB c ((((((r.getD 9 (.int 0)).r).getD k []).getD 0 (.int 0))).n))=true:=c49
 try simp only [nrm] at c49
 refine ⟨(c,(((((r.getD 9 (.int 0)).r).getD m []).getD 0 (.int 0))).n),by
  rfl,by
  show c.length<=1073741824
  omega,?_⟩
 refine And.symm ⟨λ c53=>?_,λ c53=>?_⟩
 ·replace c53:(!(hasB c ((((((r.getD 9 (.int 0)).r).getD m []).getD 0 (.int 0))).n)))=false:=c53
  try simp only [nrm] at c53
  refine ⟨m+1,by
   trivial,by
   omega,?_⟩
  refine ⟨rfl,rfl,rfl,?_,rfl,rfl,rfl,rfl,rfl,rfl,rfl,rfl,rfl,rfl,rfl,rfl,rfl,rfl,?_⟩
  ·exact vint (wrap64 (by omega) (by omega))
  rw [bwE_no (.inr (.inr c53))]
 replace c53:(!(hasB c ((((((r.getD 9 (.int 0)).r).getD m []).getD 0 (.int 0))).n)))=true:=c53
 try simp only [nrm] at c53
 refine ⟨((bwE ((r.getD 9 (.int 0)).r) c k (bwT ((r.getD 9 (.int 0)).r) c k) m),(((((r.getD 9 (.int 0)).r).getD k []).getD 1 (.int 0))).n),by
  rfl,by
  show (bwE ((r.getD 9 (.int 0)).r) c k (bwT ((r.getD 9 (.int 0)).r) c k) m).length<=1048576
  have:=bwE_few ((r.getD 9 (.int 0)).r) c (show k<_ by omega) m;omega,?_⟩
 refine ⟨m+1,by
  trivial,by
  omega,?_⟩
 refine ⟨rfl,rfl,rfl,?_,rfl,rfl,rfl,rfl,rfl,rfl,rfl,rfl,rfl,rfl,rfl,rfl,rfl,rfl,?_⟩
 ·exact vint (wrap64 (by omega) (by omega))
 show rI (insI ((((((r.getD 9 (.int 0)).r).getD k []).getD 1 (.int 0))).n) (bwE ((r.getD 9 (.int 0)).r) c k (bwT ((r.getD 9 (.int 0)).r) c k) m))=(rI (bwE ((r.getD 9 (.int 0)).r) c k (bwT ((r.getD 9 (.int 0)).r) c k) (m+1)))
 rw [bwE_yes c45 c49 c53]
end Go.Proofs.Ytmedodfenejimaa
