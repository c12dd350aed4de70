import Derived.Test.YtlejeadlmpkffaaGreatMaRkH
namespace Go.Proofs.YtlejeadlmpkffaaGreat
set_option linter.unusedVariables false
set_option linter.unusedSimpArgs false
open Go.RowKit
def iValid_con:Con:={ ι:=Scn,pre:=λ i=>True,args:=λ i=>[.agg [.im (.int .i64 i.low.1),.im (.int .i64 i.low.2),.im (.int .i64 i.high.1),.im (.int .i64 i.high.2),.sl 38 [.int,.int] (vecsD i.robot),.sl 39 [.sl 38 [.int,.int]] (areasD i.obst),.sl 38 [.int,.int] (vecsD i.tables)]],res:=λ i=>⟨false,[none],[.im (Value.bool (validScn i))]⟩ }
theorem iValid_ok:iValid_con.Ok Tryz.prog 88:=genOwn_ok rfl ⟨_,Tryz.func88,by decide,rfl⟩ (λ _=>Nat.le_of_ble_eq_true rfl) (λ _=>rfl) (λ s=>[.im (.bool (validScn s))]) (λ _=>rfl) (λ _=>rfl) (λ i hp w us h=>by
 have h:RdRow w [.int,.int,.int,.int,.sl 38 [.int,.int],.sl 39 [.sl 38 [.int,.int]],.sl 38 [.int,.int]] (scnD i) us:=h
 have hl:=(RdRow.lens _ _ _ h).2
 rw [show valD (iValid_con.args i) us=[.agg us.toArray] from valD_one_agg hl]
 refine (IsValidScene_c i _ w (RdRow.scene h)).mono ?_
 rintro e w' ⟨rfl,hb⟩
 exact ⟨[.bool (validScn i)],rfl,Own.leaf (Fp.mk_bool _),hb⟩)
def sValid_con:Con:={ ι:=Scn,pre:=λ i=>True,args:=λ i=>[.agg [.im (.int .i64 i.low.1),.im (.int .i64 i.low.2),.im (.int .i64 i.high.1),.im (.int .i64 i.high.2),.sl 38 [.int,.int] (vecsD i.robot),.sl 39 [.sl 38 [.int,.int]] (areasD i.obst),.sl 38 [.int,.int] (vecsD i.tables)]],res:=λ i=>⟨false,[none],[.im (Value.bool (validScn i))]⟩ }
theorem sValid_ok:sValid_con.Ok Tryz.prog 52:=genOwn_ok rfl ⟨_,Tryz.func52,by decide,rfl⟩ (λ _=>Nat.le_of_ble_eq_true rfl) (λ _=>rfl) (λ s=>[.im (.bool (validScn s))]) (λ _=>rfl) (λ _=>rfl) (λ i hp w us h=>by
 have h:RdRow w [.int,.int,.int,.int,.sl 38 [.int,.int],.sl 39 [.sl 38 [.int,.int]],.sl 38 [.int,.int]] (scnD i) us:=h
 have hl:=(RdRow.lens _ _ _ h).2
 rw [show valD (sValid_con.args i) us=[.agg us.toArray] from valD_one_agg hl]
 refine (sIsValidScene_c i _ w (RdRow.scene h)).mono ?_
 rintro e w' ⟨rfl,hb⟩
 exact ⟨[.bool (validScn i)],rfl,Own.leaf (Fp.mk_bool _),hb⟩)
theorem scn_room {s:Scn} (h:validScn s=true):(-200<=s.low.1/\s.low.1<=200)/\(-200<=s.low.2/\s.low.2<=200)/\(-200<=s.high.1/\s.high.1<=200)/\(-200<=s.high.2/\s.high.2<=200):=by
 simp only [validScn,Bool.and_eq_true,List.all_cons] at h
 have h1:=insB_bd h.1.1.1.1.1
 have h2:=insB_bd h.1.1.1.1.2.1
 omega
def idxG {α:Type} (p:α->Bool) (l:List α):Int:=match l.findIdx? p with|some k=>(k:Int)|none=>-1
theorem idxG_at {α:Type} {p:α->Bool} {l:List α} {d:α} {k:Nat} (hk:k<l.length) (h:∀ j,j<k->p (l.getD j d)=false) (hp:p (l.getD k d)=true):idxG p l=(k:Int):=by
 have:l.findIdx? p=some k:=by
  rw [List.findIdx?_eq_some_iff_getElem]
  refine ⟨hk,?_,λ j hj=>?_⟩
  ·simpa [List.getD,hk] using hp
  ·have:=h j hj
   simpa [List.getD,show j<l.length by omega] using this
 unfold idxG;rw [this]
theorem idxG_none {α:Type} {p:α->Bool} {l:List α} {d:α} (h:∀ j,j<l.length->p (l.getD j d)=false):idxG p l=-1:=by
 have:l.findIdx? p=none:=by
  rw [List.findIdx?_eq_none_iff]
  intro x hx
  obtain ⟨j,hj,rfl⟩:=List.getElem_of_mem hx
  have:=h j hj
  simpa [List.getD,hj] using this
 unfold idxG;rw [this]
theorem idxG_any {α:Type} (p:α->Bool) (l:List α):decide (idxG p l≥0)=l.any p:=by
 unfold idxG
 cases h:l.findIdx? p with
 | none=>
  rw [List.findIdx?_eq_none_iff] at h
  have:l.any p=false:=by
   rw [List.any_eq_false];intro x hx;rw [h x hx];simp
  rw [this];rfl
 | some k=>
  rw [List.findIdx?_eq_some_iff_getElem] at h
  obtain ⟨hk,hp,_⟩:=h
  have:l.any p=true:=List.any_eq_true.2 ⟨_,List.getElem_mem hk,hp⟩
  rw [this]
  exact decide_eq_true (show (0:Int)<=(k:Int) by omega)
def l07Max_con:Con:={ ι:=Int×Int,pre:=λ i=>True,args:=λ i=>[.one (.im (.int .i64 i.1)),.one (.im (.int .i64 i.2))],res:=λ i=>⟨false,[none],[.im (Value.int .i64 (max i.1 i.2))]⟩ }
set_option maxRecDepth 100000 in
theorem l07Max_ok:l07Max_con.Ok Tryz.prog 51:=by
 refine fok (X:=⟨tt,[],[],10,[]⟩) mixed tt_ok (CTok.nil _) Tryz.func51 (λ _=>[]) ?_
 rintro ⟨a,b⟩ hpre
 have hpre:True:=hpre
 refine by_nf (q:=((decide (a>b))=true->((vI a=vI (max a b))))/\((decide (a>b))=false->((vI b=vI (max a b))))) (by kernel_rfl) ?_
 delta vI
 refine ⟨λ c1=>?_,λ c1=>?_⟩
 ·try simp only [nrm] at c1
  exact vint (by omega)
 try simp only [nrm] at c1
 exact vint (by omega)
end Go.Proofs.YtlejeadlmpkffaaGreat
