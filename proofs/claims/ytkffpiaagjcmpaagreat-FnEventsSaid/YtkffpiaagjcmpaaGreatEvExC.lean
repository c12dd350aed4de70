import Derived.Test.YtkffpiaagjcmpaaGreatEvExB
import Derived.Deep.LoopGhost
import Derived.Test.YtkffpiaagjcmpaaGreatEvBas
namespace Go.Proofs.YtkffpiaagjcmpaaGreat
set_option linter.unusedVariables false
set_option linter.unusedSimpArgs false
open Go.RowKit
abbrev Ren:=List (Nat×Nat)
abbrev Cov:=Option (List Prop×Ren)
def Sd (ρ:Ren) (k k' : Nat):Cov:=
 match lkp ρ k with
 | none=>some ([],(k,k')::ρ)
 | some x=>if Nat.beq x k'=true then some ([],ρ) else none
def Cov.then (x:Cov) (f:Ren->Cov):Cov:=
 match x with
 | none=>none
 | some (ps,ρ)=>
  match f ρ with
  | none=>none
  | some (qs,ρ')=>some (ps++qs,ρ')
def ME (ρ:Ren):List Nat->List Nat->Cov
 | [],[]=>some ([],ρ)
 | a::as,b::bs=>(Sd ρ a b).then λ ρ=>ME ρ as bs
 | _,_=>none
def ZR (ρ:Ren) (c c' : C):Cov:=
 match c,c' with
 | .im a,.im b=>some ([b=a],ρ)
 | .ext k,.ext k'=>Sd ρ k k'
 | .bp i o,.bp i' o'=>if Nat.beq o o'=true then Sd ρ i i' else none
 | .clo f a,.clo g b=>(ME ρ a b).then λ ρ=>some ([f=g],ρ)
 | .pp k o,.pp k' o'=>if Nat.beq o o'=true then Sd ρ k k' else none
 | .cp k o,.cp k' o'=>if Nat.beq o o'=true then Sd ρ k k' else none
 | _,_=>none
def Kk (ρ:Ren):List C->List C->Cov
 | [],[]=>some ([],ρ)
 | c::cs,d::ds=>(ZR ρ c d).then λ ρ=>Kk ρ cs ds
 | _,_=>none
def ABG (ρ:Ren) (t t' : T):Cov:=
 match t,t' with
 | .one (.one c),.one (.one d)=>ZR ρ c d
 | .one (.agg cs),.one (.agg ds)=>Kk ρ cs ds
 | _,_=>none
def N1 (s:St):Ren->List (Nat×T)->Cov
 | ρ,[]=>some ([],ρ)
 | ρ,(t,v)::r=>
  match lkp s.tm t with
  | some v'=>(ABG ρ v v').then λ ρ=>N1 s ρ r
  | none=>none
def En.track:En->Bool
 | .box _=>true
 | .own _ _ _=>true
 | .top _ _ _ _=>true
 | .mu _ _ _ _=>true
 | _=>false
def DB (ρ:Ren):List (Nat×En)->Ren
 | []=>[]
 | (i,E)::r=>
  match E.track,lkp ρ i with
  | true,some i'=>(i,i')::DB ρ r
  | _,_=>DB ρ r
def Se (s:St) (ρ:Ren) (i:Nat) (E:En):Cov:=
 match lkp ρ i with
 | none=>none
 | some i'=>
  match E,lkp s.en i' with
  | .box cs,some (.box ds)=>Kk ρ cs ds
  | .own e ts rows,some (.own e' ts' rows')=>if (Nat.beq e e' && Ty.beqs ts ts')=true then some ([rows'=rows],ρ) else none
  | .top e ts rows _,some (.top e' ts' rows' _)=>if (Nat.beq e e' && Ty.beqs ts ts')=true then some ([rows'=rows],ρ) else none
  | .top e ts rows _,some (.own e' ts' [])=>if (Nat.beq e e' && Ty.beqs ts ts')=true then some ([[]=rows],ρ) else none
  | .view e ts rows _,some E'=>
   match En.sl E' i' with
   | some (e',ts',rows',_)=>if (Nat.beq e e' && Ty.beqs ts ts')=true then some ([rows'=rows],ρ) else none
   | none=>none
  | .ro d _,some (.ro d' _)=>some ([d'=d],ρ)
  | .mu e ts rows j,some (.mu e' ts' rows' j')=>if (Nat.beq e e' && Ty.beqs ts ts' && Nat.beq j j')=true then some ([rows'=rows],ρ) else none
  | .dead,_=>none
  | _,_=>none
def N2 (s:St):Ren->List (Nat×En)->Cov
 | ρ,[]=>some ([],ρ)
 | ρ,(i,E)::r=>(Se s ρ i E).then λ ρ=>N2 s ρ r
def O4 (s : St) (ρ T0 : Ren) : List (Nat × En) → Bool
  | [] => true
  | (i, E) :: r =>
    (match E, lkp ρ i with
     | .view _ _ _ deps, some i' =>
       match (lkp s.en i').bind (En.sl · i') with
       | some (_, _, _, deps') => deps'.all fun d => T0.all fun x => !(Nat.beq x.2 d) || mem deps x.1
       | none => false
     | .top _ _ _ deps, some i' =>
       match lkp s.en i' with
       | some (.top _ _ _ deps') => deps'.all fun d => T0.all fun x => !(Nat.beq x.2 d) || mem deps x.1
       | _ => true
     | .ro _ deps, some i' =>
       match lkp s.en i' with
       | some (.ro _ deps') => deps'.all fun d => T0.all fun x => !(Nat.beq x.2 d) || mem deps x.1
       | _ => true
     | _, _ => true) && O4 s ρ T0 r
def XJ (nx i:Nat):Bool:=Nat.ble 1 i && Nat.ble (i+1) nx
def AB2 (nx:Nat) (s:St):Bool:=Nat.ble 1 nx && (s.tm.all λ x=>x.2.ids.all (XJ nx)) && (s.en.all λ x=>XJ nx x.1 && x.2.ids.all (XJ nx))
def Sf:List Prop->Prop
 | []=>True
 | [p]=>p
 | p::q::r=>p/\Sf (q::r)
theorem FQ:∀ {l:List Prop},Sf l->∀ p ∈ l,p
 | [],_,p,hp=>by simp at hp
 | [q],h,p,hp=>by rw [List.mem_singleton.1 hp];exact h
 | q::q'::r,h,p,hp=>by
  rcases List.mem_cons.1 hp with rfl|hp
  ·exact h.1
  ·exact FQ h.2 p hp
def MF (nx:Nat) (s τ:St):Prop:=
 match (N1 s [] τ.tm).then λ ρ=>N2 s ρ τ.en with
 | none=>False
 | some (ps,ρ)=>
  match AB2 nx τ && ET ((DB ρ τ.en).map (·.2)) && ET (τ.en.map (·.1)) && O4 s ρ (DB ρ τ.en) τ.en with
  | true=>Sf ps
  | false=>False
def O5 (K nx:Nat) (s τ:St):Bool:=
 match (N1 s [] τ.tm).then λ ρ=>N2 s ρ τ.en with
 | none=>false
 | some (_,ρ)=>(match lkp ρ 1 with|some x=>Nat.beq x 1|none=>false) && (match Nat.beq K 3 with|true=>(match lkp ρ 2 with|some x=>Nat.beq x 2|none=>false)|false=>true) && Nat.ble K nx
def K8 (hints:List Nat):Nat:=
 match hints.any (Nat.beq 4000000) with
 | true=>3
 | false=>match hints.any (Nat.beq 4000001) with|true=>2|false=>0
theorem IO (hints:List Nat):K8 hints=0∨K8 hints=2∨K8 hints=3:=by
 unfold K8
 split
 ·exact .inr (.inr rfl)
 ·split
  ·exact .inr (.inl rfl)
  ·exact .inl rfl
def Iu (pk:Nat) (nx:Nat) (s τ:St):Prop:=
 match pk with
 | 0=>MF nx s τ
 | k+1=>
  match O5 (k+1) nx s τ with
  | true=>MF nx s τ
  | false=>False
def ext (ρ ρ' : Ren):Prop:=∀ k x,lkp ρ k=some x->lkp ρ' k=some x
theorem ext.refl (ρ:Ren):ext ρ ρ:=λ _ _ h=>h
theorem ext.trans {a b c:Ren} (h:ext a b) (k:ext b c):ext a c:=λ i x hx=>k i x (h i x hx)
theorem Iv {ρ ρ' : Ren} {k k' : Nat} {ps:List Prop} (h:Sd ρ k k'=some (ps,ρ')):ext ρ ρ'/\lkp ρ' k=some k':=by
 unfold Sd at h
 split at h
 ·rename_i hn
  simp only [Option.some.injEq,Prod.mk.injEq] at h
  obtain ⟨-,rfl⟩:=h
  refine ⟨λ i x hx=>?_,by simp [AR]⟩
  rw [AR,if_neg]
  ·exact hx
  ·intro e;subst e;rw [hn] at hx;cases hx
 ·rename_i x hx
  split at h
  ·rename_i e
   have e:=Nat.eq_of_beq_eq_true e
   subst e
   simp only [Option.some.injEq,Prod.mk.injEq] at h
   obtain ⟨-,rfl⟩:=h
   exact ⟨ext.refl _,hx⟩
  ·cases h
theorem Cov.then_ok {x:Cov} {f:Ren->Cov} {ps:List Prop} {ρ:Ren} (h:x.then f=some (ps,ρ)):∃ p1 ρ1 p2,x=some (p1,ρ1)/\f ρ1=some (p2,ρ)/\ps=p1++p2:=by
 unfold Cov.then at h
 split at h
 ·cases h
 ·rename_i p1 ρ1
  split at h
  ·cases h
  ·rename_i p2 ρ2 h2
   simp only [Option.some.injEq,Prod.mk.injEq] at h
   obtain ⟨rfl,rfl⟩:=h
   exact ⟨p1,ρ1,p2,rfl,h2,rfl⟩
def B5 (m:Maps) (ρ T0:Ren):Maps:=⟨λ i=>m.β ((lkp ρ i).getD 0),λ i=>m.ε ((lkp ρ i).getD 0),λ b=>match T0.find? λ x=>Nat.beq x.2 (m.π b) with|some x=>x.1|none=>0⟩
theorem Qg {ρF:Ren} : ∀ {as bs:List Nat} {ρ ρ' : Ren} {ps:List Prop},ME ρ as bs=some (ps,ρ')->ext ρ' ρF->ext ρ ρ'/\as.map (λ i=>(lkp ρF i).getD 0)=bs
 | [],[],ρ,ρ',ps,h,_=>by
  simp only [ME,Option.some.injEq,Prod.mk.injEq] at h
  obtain ⟨-,rfl⟩:=h
  exact ⟨ext.refl _,rfl⟩
 | [],_::_,_,_,_,h,_=>by simp [ME] at h
 | _::_,[],_,_,_,h,_=>by simp [ME] at h
 | a::as,b::bs,ρ,ρ',ps,h,hx=>by
  simp only [ME] at h
  obtain ⟨p1,ρ1,p2,h1,h2,rfl⟩:=Cov.then_ok h
  obtain ⟨e2,d2⟩:=Qg h2 hx
  obtain ⟨e1,d1⟩:=Iv h1
  exact ⟨e1.trans e2,by simp [d2,hx _ _ (e2 _ _ d1)]⟩
theorem UE {m:Maps} {ρF T0:Ren} {ρ ρ' : Ren} {c c' : C} {ps:List Prop} (h:ZR ρ c c'=some (ps,ρ')) (hp:∀ p ∈ ps,p) (hx:ext ρ' ρF):ext ρ ρ'/\c.den (B5 m ρF T0)=c'.den m:=by
 unfold ZR at h
 split at h
 ·simp only [Option.some.injEq,Prod.mk.injEq] at h
  obtain ⟨rfl,rfl⟩:=h
  have:=hp _ (List.mem_singleton.2 rfl)
  exact ⟨ext.refl _,by simp only [C.den];exact this.symm⟩
 ·obtain ⟨h1,h2⟩:=Iv h
  exact ⟨h1,by simp only [C.den,B5,hx _ _ h2,Option.getD_some]⟩
 ·split at h
  ·rename_i e
   have e:=Nat.eq_of_beq_eq_true e
   subst e
   obtain ⟨h1,h2⟩:=Iv h
   exact ⟨h1,by simp only [C.den,B5,hx _ _ h2,Option.getD_some]⟩
  ·cases h
 ·obtain ⟨p1,ρ1,p2,h1,h2,rfl⟩:=Cov.then_ok h
  simp only [Option.some.injEq,Prod.mk.injEq] at h2
  obtain ⟨rfl,rfl⟩:=h2
  obtain ⟨e1,d1⟩:=Qg h1 hx
  have hfg:=hp _ (List.mem_append.2 (.inr (List.mem_singleton.2 rfl)))
  refine ⟨e1,?_⟩
  simp only [C.den,← d1,List.map_map,B5,hfg]
  rfl
 ·split at h
  ·rename_i e
   have e:=Nat.eq_of_beq_eq_true e
   subst e
   obtain ⟨h1,h2⟩:=Iv h
   exact ⟨h1,by simp only [C.den,B5,hx _ _ h2,Option.getD_some]⟩
  ·cases h
 ·split at h
  ·rename_i e
   have e:=Nat.eq_of_beq_eq_true e
   subst e
   obtain ⟨h1,h2⟩:=Iv h
   exact ⟨h1,by simp only [C.den,B5,hx _ _ h2,Option.getD_some]⟩
  ·cases h
 ·cases h
theorem MG {m:Maps} {ρF T0:Ren} : ∀ {cs ds:List C} {ρ ρ' : Ren} {ps:List Prop},Kk ρ cs ds=some (ps,ρ')->(∀ p ∈ ps,p)->ext ρ' ρF->ext ρ ρ'/\cs.map (C.den (B5 m ρF T0))=ds.map (C.den m)
 | [],[],ρ,ρ',ps,h,_,_=>by
  simp only [Kk,Option.some.injEq,Prod.mk.injEq] at h
  obtain ⟨-,rfl⟩:=h
  exact ⟨ext.refl _,rfl⟩
 | [],_::_,_,_,_,h,_,_=>by simp [Kk] at h
 | _::_,[],_,_,_,h,_,_=>by simp [Kk] at h
 | c::cs,d::ds,ρ,ρ',ps,h,hp,hx=>by
  simp only [Kk] at h
  obtain ⟨p1,ρ1,p2,h1,h2,rfl⟩:=Cov.then_ok h
  obtain ⟨e2,d2⟩:=MG (m:=m) (T0:=T0) h2 (λ p hp'=>hp p (List.mem_append.2 (.inr hp'))) hx
  obtain ⟨e1,d1⟩:=UE (m:=m) (ρF:=ρF) (T0:=T0) h1 (λ p hp'=>hp p (List.mem_append.2 (.inl hp'))) (e2.trans hx)
  exact ⟨e1.trans e2,by simp [d1,d2]⟩
theorem ZS {m:Maps} {ρF T0:Ren} {t t' : T} {ρ ρ' : Ren} {ps:List Prop} (h:ABG ρ t t'=some (ps,ρ')) (hp:∀ p ∈ ps,p) (hx:ext ρ' ρF):ext ρ ρ'/\t.den (B5 m ρF T0)=t'.den m:=by
 unfold ABG at h
 split at h
 ·exact UE h hp hx
 ·obtain ⟨h1,h2⟩:=MG (m:=m) (T0:=T0) h hp hx
  exact ⟨h1,by simp only [T.den,A.den,h2]⟩
 ·cases h
theorem Qh {m:Maps} {ρF T0:Ren} {s:St} : ∀ {l:List (Nat×T)} {ρ ρ' : Ren} {ps:List Prop},N1 s ρ l=some (ps,ρ')->(∀ p ∈ ps,p)->ext ρ' ρF->ext ρ ρ'/\∀ t v,lkp l t=some v->∃ v',lkp s.tm t=some v'/\v.den (B5 m ρF T0)=v'.den m
 | [],ρ,ρ',ps,h,_,_=>by
  simp only [N1,Option.some.injEq,Prod.mk.injEq] at h
  obtain ⟨-,rfl⟩:=h
  exact ⟨ext.refl _,by simp [lkp]⟩
 | (t,v)::r,ρ,ρ',ps,h,hp,hx=>by
  simp only [N1] at h
  split at h
  ·rename_i v' hv'
   obtain ⟨p1,ρ1,p2,h1,h2,rfl⟩:=Cov.then_ok h
   obtain ⟨e2,d2⟩:=Qh (m:=m) (T0:=T0) h2 (λ p hp'=>hp p (List.mem_append.2 (.inr hp'))) hx
   obtain ⟨e1,d1⟩:=ZS (m:=m) (ρF:=ρF) (T0:=T0) h1 (λ p hp'=>hp p (List.mem_append.2 (.inl hp'))) (e2.trans hx)
   refine ⟨e1.trans e2,λ u y hy=>?_⟩
   rw [AR] at hy
   split at hy
   ·rename_i e;subst e;obtain rfl:=Option.some.inj hy;exact ⟨v',hv',d1⟩
   ·exact d2 u y hy
  ·cases h
def AAo (s:St) (m:Maps) (ρF T0:Ren) (i:Nat) (E:En):Prop:=∃ i',lkp ρF i=some i' /\
 match E,lkp s.en i' with
 | .box cs,some (.box ds)=>cs.map (C.den (B5 m ρF T0))=ds.map (C.den m)
 | .own e ts rows,some E'=>E'=.own e ts rows
 | .top e ts rows _,some (.top e' ts' rows' _)=>e'=e/\ts'=ts/\rows'=rows
 | .top e ts rows _,some (.own e' ts' rows')=>e'=e/\ts'=ts/\rows'=rows/\rows=[]
 | .view e ts rows _,some E'=>∃ deps',En.sl E' i'=some (e,ts,rows,deps')
 | .ro d _,some E'=>∃ deps',E'=.ro d deps'
 | .mu e ts rows j,some E'=>E'=.mu e ts rows j
 | _,_=>False
theorem VQ {m:Maps} {ρF T0:Ren} {s:St} {i:Nat} {E:En} {ρ ρ' : Ren} {ps:List Prop} (h:Se s ρ i E=some (ps,ρ')) (hp:∀ p ∈ ps,p) (hx:ext ρ' ρF):ext ρ ρ'/\AAo s m ρF T0 i E:=by
 unfold Se at h
 split at h
 ·cases h
 ·rename_i i' hi
  split at h
  ·rename_i cs ds he
   obtain ⟨h1,h2⟩:=MG (m:=m) (T0:=T0) h hp hx
   exact ⟨h1,i',hx _ _ (h1 _ _ hi),by rw [he];exact h2⟩
  ·rename_i e ts rows e' ts' rows' he
   split at h
   ·rename_i hc
    simp only [Bool.and_eq_true,Nat.beq_eq] at hc
    obtain ⟨rfl,hc⟩:=hc
    have hc:=Ty.beqs_ok _ _ hc
    subst hc
    simp only [Option.some.injEq,Prod.mk.injEq] at h
    obtain ⟨rfl,rfl⟩:=h
    have:=hp _ (List.mem_singleton.2 rfl)
    exact ⟨ext.refl _,i',hx _ _ hi,by rw [he];simp [this]⟩
   ·cases h
  ·rename_i e ts rows _ e' ts' rows' _ he
   split at h
   ·rename_i hc
    simp only [Bool.and_eq_true,Nat.beq_eq] at hc
    obtain ⟨rfl,hc⟩:=hc
    have hc:=Ty.beqs_ok _ _ hc
    subst hc
    simp only [Option.some.injEq,Prod.mk.injEq] at h
    obtain ⟨rfl,rfl⟩:=h
    have:=hp _ (List.mem_singleton.2 rfl)
    exact ⟨ext.refl _,i',hx _ _ hi,by rw [he];exact ⟨rfl,rfl,this⟩⟩
   ·cases h
  ·rename_i e ts rows _ e' ts' he
   split at h
   ·rename_i hc
    simp only [Bool.and_eq_true,Nat.beq_eq] at hc
    obtain ⟨rfl,hc⟩:=hc
    have hc:=Ty.beqs_ok _ _ hc
    subst hc
    simp only [Option.some.injEq,Prod.mk.injEq] at h
    obtain ⟨rfl,rfl⟩:=h
    have:=hp _ (List.mem_singleton.2 rfl)
    exact ⟨ext.refl _,i',hx _ _ hi,by rw [he];exact ⟨rfl,rfl,this,this.symm⟩⟩
   ·cases h
  ·rename_i e ts rows _ E' he
   split at h
   ·rename_i e' ts' rows' deps' hsl
    split at h
    ·rename_i hc
     simp only [Bool.and_eq_true,Nat.beq_eq] at hc
     obtain ⟨rfl,hc⟩:=hc
     have hc:=Ty.beqs_ok _ _ hc
     subst hc
     simp only [Option.some.injEq,Prod.mk.injEq] at h
     obtain ⟨rfl,rfl⟩:=h
     have:=hp _ (List.mem_singleton.2 rfl)
     exact ⟨ext.refl _,i',hx _ _ hi,by rw [he];exact ⟨deps',by rw [hsl,this]⟩⟩
    ·cases h
   ·cases h
  ·rename_i d _ d' deps' he
   simp only [Option.some.injEq,Prod.mk.injEq] at h
   obtain ⟨rfl,rfl⟩:=h
   have:=hp _ (List.mem_singleton.2 rfl)
   exact ⟨ext.refl _,i',hx _ _ hi,by rw [he];exact ⟨deps',by rw [this]⟩⟩
  ·rename_i e ts rows j e' ts' rows' j' he
   split at h
   ·rename_i hc
    simp only [Bool.and_eq_true,Nat.beq_eq] at hc
    obtain ⟨⟨rfl,hc⟩,rfl⟩:=hc
    have hc:=Ty.beqs_ok _ _ hc
    subst hc
    simp only [Option.some.injEq,Prod.mk.injEq] at h
    obtain ⟨rfl,rfl⟩:=h
    have:=hp _ (List.mem_singleton.2 rfl)
    exact ⟨ext.refl _,i',hx _ _ hi,by rw [he];simp [this]⟩
   ·cases h
  ·cases h
  ·cases h
theorem Qi {m:Maps} {ρF T0:Ren} {s:St} : ∀ {l:List (Nat×En)} {ρ ρ' : Ren} {ps:List Prop},N2 s ρ l=some (ps,ρ')->(∀ p ∈ ps,p)->ext ρ' ρF->ext ρ ρ'/\∀ i E,(i,E) ∈ l->AAo s m ρF T0 i E
 | [],ρ,ρ',ps,h,_,_=>by
  simp only [N2,Option.some.injEq,Prod.mk.injEq] at h
  obtain ⟨-,rfl⟩:=h
  exact ⟨ext.refl _,by simp⟩
 | (i,E)::r,ρ,ρ',ps,h,hp,hx=>by
  simp only [N2] at h
  obtain ⟨p1,ρ1,p2,h1,h2,rfl⟩:=Cov.then_ok h
  obtain ⟨e2,d2⟩:=Qi (m:=m) (T0:=T0) h2 (λ p hp'=>hp p (List.mem_append.2 (.inr hp'))) hx
  obtain ⟨e1,d1⟩:=VQ (m:=m) (ρF:=ρF) (T0:=T0) h1 (λ p hp'=>hp p (List.mem_append.2 (.inl hp'))) (e2.trans hx)
  refine ⟨e1.trans e2,λ j F hj=>?_⟩
  rcases List.mem_cons.1 hj with hj|hj
  ·simp only [Prod.mk.injEq] at hj
   obtain ⟨rfl,rfl⟩:=hj
   exact d1
  ·exact d2 j F hj
theorem C3 {ρ:Ren} : ∀ {l:List (Nat×En)} {i i' : Nat} {E:En},(i,E) ∈ l->E.track=true->lkp ρ i=some i'->(i,i') ∈ DB ρ l
 | [],_,_,_,h,_,_=>by simp at h
 | (j,F)::r,i,i',E,h,ht,hi=>by
  rcases List.mem_cons.1 h with h|h
  ·simp only [Prod.mk.injEq] at h
   obtain ⟨rfl,rfl⟩:=h
   simp only [DB,ht,hi]
   simp
  ·simp only [DB]
   split
   ·exact List.mem_cons_of_mem _ (C3 h ht hi)
   ·exact C3 h ht hi
theorem Gm {ρ:Ren} : ∀ {l:List (Nat×En)} {i i' : Nat},(i,i') ∈ DB ρ l->lkp ρ i=some i'/\∃ E,(i,E) ∈ l/\E.track=true
 | [],_,_,h=>by simp [DB] at h
 | (j,F)::r,i,i',h=>by
  simp only [DB] at h
  split at h
  ·rename_i ht hj
   rcases List.mem_cons.1 h with h|h
   ·simp only [Prod.mk.injEq] at h
    obtain ⟨rfl,rfl⟩:=h
    exact ⟨hj,F,by simp,ht⟩
   ·obtain ⟨a,E,b,c⟩:=Gm h
    exact ⟨a,E,by simp [b],c⟩
  ·obtain ⟨a,E,b,c⟩:=Gm h
   exact ⟨a,E,by simp [b],c⟩
theorem N3 {s : St} {ρ T0 : Ren} : ∀ {l : List (Nat × En)}, O4 s ρ T0 l = true → ∀ {i : Nat} {E : En}, (i, E) ∈ l →
    match E, lkp ρ i with
     | .view _ _ _ deps, some i' => ∀ e ts rows deps', (lkp s.en i').bind (En.sl · i') = some (e, ts, rows, deps') → ∀ d ∈ deps', ∀ x ∈ T0, x.2 = d → x.1 ∈ deps
     | .top _ _ _ deps, some i' => ∀ e ts rows deps', lkp s.en i' = some (.top e ts rows deps') → ∀ d ∈ deps', ∀ x ∈ T0, x.2 = d → x.1 ∈ deps
     | .ro _ deps, some i' => ∀ d0 deps', lkp s.en i' = some (.ro d0 deps') → ∀ d ∈ deps', ∀ x ∈ T0, x.2 = d → x.1 ∈ deps
     | _, _ => True
  | [], _, _, _, h => by simp at h
  | (j, F) :: r, hc, i, E, h => by
    simp only [O4, Bool.and_eq_true] at hc
    rcases List.mem_cons.1 h with h | h
    · simp only [Prod.mk.injEq] at h
      obtain ⟨rfl, rfl⟩ := h
      have hc := hc.1
      have key : ∀ (deps deps' : List Nat), (deps'.all fun d => T0.all fun x => !(Nat.beq x.2 d) || mem deps x.1) = true → ∀ d ∈ deps', ∀ x ∈ T0, x.2 = d → x.1 ∈ deps := by
        intro deps deps' h d hd x hx e
        have := List.all_eq_true.1 (List.all_eq_true.1 h d hd) x hx
        rw [Bool.or_eq_true, Bool.not_eq_true'] at this
        rcases this with h | h
        · subst e; simp at h
        · exact mem_iff.1 h
      cases E with
      | view e ts rows deps =>
        cases hl : lkp ρ i with
        | none => trivial
        | some i' =>
          rw [hl] at hc
          simp only at hc ⊢
          intro e' ts' rows' deps' hs
          rw [hs] at hc
          exact key _ _ hc
      | top e ts rows deps =>
        cases hl : lkp ρ i with
        | none => trivial
        | some i' =>
          rw [hl] at hc
          simp only at hc ⊢
          intro e' ts' rows' deps' hs
          rw [hs] at hc
          exact key _ _ hc
      | ro d deps =>
        cases hl : lkp ρ i with
        | none => trivial
        | some i' =>
          rw [hl] at hc
          simp only at hc ⊢
          intro d' deps' hs
          rw [hs] at hc
          exact key _ _ hc
      | _ => trivial
    · exact N3 hc.2 h
section
variable {Γ : Env} {n : Nat} {w0 : World} {al : Nat → Prop} {s τ : St} {m : Maps} {a : Act} {w : World} {nx : Nat}
theorem R.cover0 (hK:Γ.K=0) (h:R Γ n w0 al s m a w) (hc:MF nx s τ):0<nx/\∃ m',R Γ n w0 (alN nx) τ m' a w/\∀ K,(K=2∨K=3)->O5 K nx s τ=true->K<=nx/\∀ i,0<i->i<K->m'.β i=m.β i/\m'.ε i=m.ε i:=by
 unfold MF at hc
 split at hc
 ·exact hc.elim
 ·rename_i ps ρ hcov
  split at hc
  ·rename_i hchk
   simp only [Bool.and_eq_true] at hchk
   obtain ⟨⟨⟨hst,hnd⟩,hnk⟩,hdep⟩:=hchk
   have hp:=FQ hc
   obtain ⟨p1,ρ1,p2,c1,c2,rfl⟩:=Cov.then_ok hcov
   let T0:=DB ρ τ.en
   obtain ⟨e2,hen⟩:=Qi (m:=m) (T0:=T0) c2 (λ p hp'=>hp p (List.mem_append.2 (.inr hp'))) (ext.refl ρ)
   obtain ⟨e1,htm⟩:=Qh (m:=m) (T0:=T0) c1 (λ p hp'=>hp p (List.mem_append.2 (.inl hp'))) e2
   simp only [AB2,Bool.and_eq_true] at hst
   obtain ⟨⟨hn0,hst1⟩,hst2⟩:=hst
   have hst:_/\_:=⟨hst1,hst2⟩
   refine ⟨Nat.le_of_ble_eq_true hn0,?_⟩
   have hid:∀ {i:Nat},XJ nx i=true->alN nx i:=λ {i} hi=>by
    simp only [XJ,Bool.and_eq_true,Nat.ble_eq] at hi
    unfold alN;omega
   have hndk:=C1 hnd
   have hT0:∀ {i i' j:Nat},(i,i') ∈ T0->(j,i') ∈ T0->i=j:=by
    intro i i' j h1 h2
    have key:∀ {l:Ren},(l.map (·.2)).Nodup->(i,i') ∈ l->(j,i') ∈ l->i=j:=by
     intro l
     induction l with
     | nil=>intro _ h;simp at h
     | cons x r ih=>
      intro hn h1 h2
      simp only [List.map_cons,List.nodup_cons] at hn
      rcases List.mem_cons.1 h1 with g1|g1
      ·rcases List.mem_cons.1 h2 with g2|g2
       ·rw [← g2] at g1;simp at g1;exact g1
       ·exact (hn.1 (by rw [← g1];exact List.mem_map.2 ⟨(j,i'),g2,rfl⟩)).elim
      ·rcases List.mem_cons.1 h2 with g2|g2
       ·exact (hn.1 (by rw [← g2];exact List.mem_map.2 ⟨(i,i'),g1,rfl⟩)).elim
       ·exact ih hn.2 g1 g2
    exact key hndk h1 h2
   have hπ1:∀ {i i' b:Nat},(i,i') ∈ T0->m.π b=i'->(B5 m ρ T0).π b=i:=by
    intro i i' b hi hb
    simp only [B5,hb]
    cases hf:T0.find? λ x=>Nat.beq x.2 i' with
    | none=>
     have:=List.find?_eq_none.1 hf _ hi
     simp at this
    | some x=>
     have h1:=List.find?_some hf
     have h2:=List.mem_of_find?_eq_some hf
     have h1:=Nat.eq_of_beq_eq_true h1
     obtain ⟨x1,x2⟩:=x
     simp only at h1
     subst h1
     exact hT0 h2 hi
   have hπ0:∀ {b:Nat},(∀ x ∈ T0,x.2≠m.π b)->(B5 m ρ T0).π b=0:=by
    intro b hb
    simp only [B5]
    cases hf:T0.find? λ x=>Nat.beq x.2 (m.π b) with
    | none=>rfl
    | some x=>
     have h1:=List.find?_some hf
     have h1:=Nat.eq_of_beq_eq_true h1
     exact absurd h1 (hb x (List.mem_of_find?_eq_some hf))
   have hT0al:∀ x ∈ T0,al x.2:=by
    rintro ⟨i,i'⟩ hx
    obtain ⟨hl,E,hE,ht⟩:=Gm hx
    obtain ⟨i2,q1,q2⟩:=hen i E hE
    rw [hl] at q1
    obtain rfl:=Option.some.inj q1
    cases hE' : lkp s.en i' with
    | none=>rw [hE'] at q2;cases E <;> simp at q2
    | some E'=>exact (h.en _ _ hE').2.1
   have hmay:∀ (deps deps' : List Nat) (b:Nat),(∀ d ∈ deps',∀ x ∈ T0,x.2=d->x.1 ∈ deps)->Γ.may m deps' b->Γ.may (B5 m ρ T0) deps b:=by
    intro deps deps' b hd hb
    rcases hb with hb|⟨hb0,hb⟩|⟨hb0,hb⟩
    ·exact .inl hb
    ·refine .inr (.inl ⟨hb0,hπ0 λ x hx e=>?_⟩)
     rw [hb] at e
     exact h.pos (e ▸ hT0al x hx)
    ·by_cases hx:∃ x ∈ T0,x.2=m.π b
     ·obtain ⟨⟨i,i'⟩,hx,e⟩:=hx
      exact .inr (.inr ⟨hb0,by rw [hπ1 hx e.symm];exact hd _ hb (i,i') hx e⟩)
     ·exact .inr (.inl ⟨hb0,hπ0 λ x hx' e=>hx ⟨x,hx',e⟩⟩)
   refine ⟨B5 m ρ T0,⟨h.size,h.defers,h.old,h.below,λ t v hv=>?_,λ i E hE=>?_,by unfold alN;omega,h.st,λ i h1 h2=>absurd h2 (by rw [hK];omega),λ i hi=>absurd hi.2 (by rw [hK];omega)⟩,λ K hKc hpin=>?pin⟩
   case pin=>
    unfold O5 at hpin
    rw [hcov] at hpin
    simp only [Bool.and_eq_true,Nat.ble_eq] at hpin
    obtain ⟨⟨hp1,hp2⟩,hp3⟩:=hpin
    split at hp1
    ·rename_i x hx1
     have hx:=Nat.eq_of_beq_eq_true hp1
     subst hx
     have r1:(B5 m ρ T0).β 1=m.β 1/\(B5 m ρ T0).ε 1=m.ε 1:=⟨by simp only [B5,hx1,Option.getD_some],by simp only [B5,hx1,Option.getD_some]⟩
     rcases hKc with rfl|rfl
     ·refine ⟨hp3,λ i h1 h2=>?_⟩
      obtain rfl:i=1:=by omega
      exact r1
     ·simp only [show Nat.beq 3 3=true from rfl] at hp2
      split at hp2
      ·rename_i y hy1
       have hy:=Nat.eq_of_beq_eq_true hp2
       subst hy
       refine ⟨hp3,λ i h1 h2=>?_⟩
       rcases (show i=1∨i=2 by omega) with rfl|rfl
       ·exact r1
       ·exact ⟨by simp only [B5,hy1,Option.getD_some],by simp only [B5,hy1,Option.getD_some]⟩
      ·cases hp2
    ·cases hp1
   ·obtain ⟨v',hv',hd⟩:=htm t v hv
    refine ⟨by rw [(h.tm t v' hv').1,hd],λ i hi=>hid ?_⟩
    exact List.all_eq_true.1 (List.all_eq_true.1 hst.1 _ (D6 hv)) i hi
   ·have hm:=D6 hE
    have hs2:=List.all_eq_true.1 hst.2 _ hm
    simp only [Bool.and_eq_true] at hs2
    refine ⟨?_,hid hs2.1,λ j hj=>hid (List.all_eq_true.1 hs2.2 j hj)⟩
    obtain ⟨i',hi',hcv⟩:=hen i E hm
    have hβ:(B5 m ρ T0).β i=m.β i':=by simp only [B5,hi',Option.getD_some]
    have hε:(B5 m ρ T0).ε i=m.ε i':=by simp only [B5,hi',Option.getD_some]
    have hdk:=N3 hdep hm
    rw [hi'] at hdk
    cases hE' : lkp s.en i' with
    | none=>rw [hE'] at hcv;cases E <;> simp at hcv
    | some E'=>
     rw [hE'] at hcv
     have hat:=(h.en _ _ hE').1
     cases E with
     | dead=>trivial
     | box cs=>
      cases E' with
      | box ds=>
       obtain ⟨b1,b2,e,b3⟩:=hat
       have ht:=C3 (ρ:=ρ) hm rfl hi'
       exact ⟨by rw [hβ];exact b1,hπ1 ht (by rw [hβ];exact b2),e,by rw [hβ,hcv];exact b3⟩
      | _=>simp at hcv
     | own e ts rows=>
      simp only at hcv
      subst hcv
      obtain ⟨bs,b1,b2,b3⟩:=hat
      have ht:=C3 (ρ:=ρ) hm rfl hi'
      exact ⟨bs,by rw [hε];exact b1,b2,λ b hb=>⟨(b3 b hb).1,hπ1 ht (b3 b hb).2⟩⟩
     | top e ts rows deps=>
      have ht:=C3 (ρ:=ρ) hm rfl hi'
      cases E' with
      | top e' ts' rows' deps'=>
       simp only at hcv
       obtain ⟨rfl,rfl,rfl⟩:=hcv
       obtain ⟨rv,q1,q2,q3,q4,q5⟩:=hat
       refine ⟨rv,by rw [hε];exact q1,q2,q3,λ k hk=>?_,λ b hb=>?_⟩
       ·obtain ⟨F,f1,f2⟩:=q4 k hk
        exact ⟨F,f1,λ b hb=>hmay deps deps' b (hdk _ _ _ _ hE') (f2 b hb)⟩
       ·rw [hε] at hb
        exact ⟨(q5 b hb).1,hπ1 ht (q5 b hb).2⟩
      | own e' ts' rows'=>
       simp only at hcv
       obtain ⟨rfl,rfl,rfl,rfl⟩:=hcv
       obtain ⟨bs,b1,b2,b3⟩:=hat
       simp only [Fp] at b1
       obtain ⟨rv,bss,q1,q2,q3,q4,q5,rfl⟩:=b1
       refine ⟨rv,by rw [hε];exact q1,q2,q4,by simp,λ b hb=>?_⟩
       rw [hε] at hb
       have:=b3 b (List.mem_append.2 (.inl (by simp [hb])))
       exact ⟨this.1,hπ1 ht this.2⟩
      | _=>simp at hcv
     | view e ts rows deps=>
      simp only at hcv
      obtain ⟨deps',hsl⟩:=hcv
      obtain ⟨F,f1,f2⟩:=hat.rd hsl
      refine ⟨F,by rw [hε];exact f1,λ b hb=>hmay deps deps' b (hdk e ts rows deps' (by rw [hE'];exact hsl)) (f2 b hb)⟩
     | ro d deps=>
      simp only at hcv
      obtain ⟨deps',rfl⟩:=hcv
      obtain ⟨F,f1,f2⟩:=hat
      exact ⟨F,by rw [hε];exact f1,λ b hb=>hmay deps deps' b (hdk d deps' hE') (f2 b hb)⟩
     | mu e ts rows j=>
      simp only at hcv
      subst hcv
      obtain ⟨b0,b1,b2,b3⟩:=hat
      have ht:=C3 (ρ:=ρ) hm rfl hi'
      exact ⟨by rw [hε];exact b0,by rw [hε];exact b1,b2,λ b hb=>hπ1 ht (b3 b hb)⟩
     | part e ts rows k sz r c=>simp only at hcv
  ·exact hc.elim
end
end Go.Proofs.YtkffpiaagjcmpaaGreat
namespace Go.Proofs.YtkffpiaagjcmpaaGreat
set_option linter.unusedVariables false
set_option linter.unusedSimpArgs false
open Go.RowKit
def XK (tt:TT) (s:St):ResultVar->Option A
 | .tmp t=>
  match lkp s.tm t with
  | some (.one a)=>some a
  | _=>none
 | .cell t ty=>
  match (lkp s.tm t).bind T.c? with
  | some (.bp i off)=>
   match Ll tt s ty i off with
   | some (.one a)=>some a
   | _=>none
  | _=>none
def FR (tt:TT) (s:St):List ResultVar->Option (List A)
 | []=>some []
 | r::rs=>
  match XK tt s r,FR tt s rs with
  | some a,some as=>some (a::as)
  | _,_=>none
def Eu (tmps:Array Value):ResultVar->Sem Value
 | .tmp t=>pure (tmps.getD t undef)
 | .cell a t=>do loadVar t (← asAddr (tmps.getD a undef))
section
variable {P : Program} {tt : TT} {Γ : Env} {n : Nat} {w0 : World} {al : Nat → Prop} {s : St} {m : Maps} {a : Act} {w : World}
theorem XL (hT:TTok P tt) (h:R Γ n w0 al s m a w) {rv:ResultVar} {x:A} (hx:XK tt s rv=some x) :
  (Eu a.tmps rv).run P w=.ok (x.den m) w:=by
 unfold XK at hx
 split at hx
 ·rename_i t
  split at hx
  ·rename_i y hy
   simp only [Option.some.injEq] at hx
   subst hx
   have:=(h.tm _ _ hy).1
   simp only [Eu,this,T.den,Sem.run_pure]
  ·cases hx
 ·rename_i t ty
  split at hx
  ·rename_i i off hb
   split at hx
   ·rename_i y hy
    simp only [Option.some.injEq] at hx
    subst hx
    obtain ⟨v,e1,e2⟩:=Option.bind_eq_some_iff.1 hb
    have e3:=(h.tm _ _ e1).1
    rw [T.c?_some e2] at e3
    simp only [T.den,A.den,C.den] at e3
    have hl:=(IE hT h hy).1
    simp only [Eu,e3,asAddr,Sem.run_bind,Sem.run_pure,Result.andThen_ok]
    have e4:(T.one y).den m=y.den m:=rfl
    rw [← e4]
    simpa [Instr.loadAt,Instr.sureAddr] using hl
   ·cases hx
  ·cases hx
theorem EF (hT:TTok P tt) (h:R Γ n w0 al s m a w):∀ {rvs:List ResultVar} {as:List A},FR tt s rvs=some as ->
  (rvs.mapM (Eu a.tmps)).run P w=.ok (as.map (A.den m)) w
 | [],as,hx=>by
  simp only [FR,Option.some.injEq] at hx
  subst hx
  simp
 | rv::rvs,as,hx=>by
  simp only [FR] at hx
  split at hx
  ·rename_i x xs h1 h2
   simp only [Option.some.injEq] at hx
   subst hx
   have e1:=XL hT h h1
   have e2:=EF hT h h2
   simp only [List.mapM_cons,Sem.run_bind,e1,Result.andThen_ok,e2,Sem.run_pure,List.map_cons]
  ·cases hx
theorem XM (hT:TTok P tt) (h:R Γ n w0 al s m a w) {rv:ResultVar} {x:A} (hx:XK tt s rv=some x):∀ i ∈ x.ids,al i:=by
 unfold XK at hx
 split at hx
 ·split at hx
  ·rename_i y hy
   simp only [Option.some.injEq] at hx
   subst hx
   exact (h.tm _ _ hy).2
  ·cases hx
 ·split at hx
  ·split at hx
   ·rename_i y hy
    simp only [Option.some.injEq] at hx
    subst hx
    exact (IE hT h hy).2
   ·cases hx
  ·cases hx
theorem N4 (hT:TTok P tt) (h:R Γ n w0 al s m a w):∀ {rvs:List ResultVar} {as:List A},FR tt s rvs=some as->∀ x ∈ as,∀ i ∈ x.ids,al i
 | [],as,hx=>by
  simp only [FR,Option.some.injEq] at hx
  subst hx
  simp
 | rv::rvs,as,hx=>by
  simp only [FR] at hx
  split at hx
  ·rename_i x xs h1 h2
   simp only [Option.some.injEq] at hx
   subst hx
   intro y hy
   rcases List.mem_cons.1 hy with rfl|hy
   ·exact XM hT h h1
   ·exact N4 hT h h2 y hy
  ·cases hx
end
structure Inl where
 body:Code
 n:Nat
 res:List ResultVar
abbrev Sg:=List (Nat×Inl)
def InlOk (P:Program) (il:Sg):Prop:=∀ f x,lkp il f=some x->∃ fn,P.funcs[f]?=some fn/\fn.name ≠ "runtime.NumGoroutine" /\ fn.body=some x.body/\fn.ntmps=x.n/\fn.results.toList=x.res
theorem InlOk.nil (P:Program):InlOk P []:=λ t i h=>by simp [lkp] at h
theorem InlOk.cons {P:Program} {t:Nat} {fn:Func} {x:Inl} {il:Sg} (h1:P.funcs[t]?=some fn) (h2:fn.name ≠ "runtime.NumGoroutine") (h3:fn.body=some x.body) (h4:fn.ntmps=x.n) (h5:fn.results.toList=x.res) (hT:InlOk P il):InlOk P ((t,x)::il):=λ u j hj=>by
 rw [AR] at hj
 split at hj
 ·rename_i e;subst e;obtain rfl:=Option.some.inj hj;exact ⟨fn,h1,h2,h3,h4,h5⟩
 ·exact hT u j hj
inductive XE where
 | normal
 | exit (id:Nat)
 | ret
def XE.out:XE->Exit
 | .normal=>.normal
 | .exit id=>.exit id
 | .ret=>.ret
def xin (tt:TT) (ct:CTs) (n:Nat):Code->St->Nat->(XE->St->Nat->Prop)->Prop
 | .skip,s,nx,k=>k .normal s nx
 | .region _ ops false,s,nx,k=>Ke tt ct [] n ops.toList ops.toList s nx (k .normal)
 | .region _ ops true,s,nx,k=>O2 tt (KZ ct) [] n ops.toList s nx (k .normal)
 | .seq a b,s,nx,k=>xin tt ct n a s nx λ e s' nx'=>
  match e with
  | .normal=>xin tt ct n b s' nx' k
  | e=>k e s' nx'
 | .cond (.tmp t) a b,s,nx,k=>
  match Jq s t with
  | some v=>L8 (mem s.lit t) v (xin tt ct n a (s.know t true) nx k) (xin tt ct n b (s.know t false) nx k)
  | none=>False
 | .block id body,s,nx,k=>xin tt ct n body s nx λ e s' nx'=>
  match e with
  | .exit j=>match Nat.beq j id with|true=>k .normal s' nx' | false=>k (.exit j) s' nx'
  | e=>k e s' nx'
 | .exit id,s,nx,k=>k (.exit id) s nx
 | .ret,s,nx,k=>k .ret s nx
 | _,_,_,_=>False
def VR:List T->Nat->List (Nat×T)
 | [],_=>[]
 | t::ts,p=>(p,t)::VR ts (p+1)
def St.back (s : St) (dst : Option Tmp) (v : T) (s' : St) : St :=
  { tm := match dst with | some t => (t, v) :: s.tm | none => s.tm
    en := s'.en
    lit := match dst with | some t => s.lit.filter fun x => !(Nat.beq x t) | none => s.lit }
def Qj:List A->T
 | [a]=>.one a
 | as=>.tup as
def XN (tt:TT) (ct:CTs) (s:St) (nx:Nat) (x:Inl) (ts:List T) (q:T->St->Nat->Prop):Prop:=
 match Nat.ble ts.length x.n with
 | false=>False
 | true=>xin tt ct x.n x.body { tm:=VR ts 0,en:=s.en,lit:=[] } nx λ e s' nx'=>
  match e with
  | .exit _=>False
  | _=>
   match FR tt s' x.res with
   | none=>False
   | some as=>q (Qj as) s' nx'
def N5 (il:Sg) (s:St) (o:Oper):Option (Inl×List T):=
 match il with
 | []=>none
 | _=>
  match o.op with
  | .call c=>
   match c.callee with
   | .value f=>
    match cOf s f,evs s c.args.toList with
    | some c0,some ts=>
     match Nt s c0 with
     | some (k,ext)=>(lkp il k).map λ x=>(x,ts++ext)
     | none=>none
    | _,_=>none
   | _=>none
  | _=>none
def EY (il : Sg) (tt : TT) (ct : CTs) (hints : List Nat) (n : Nat) (all : List Oper) : List Oper → St → Nat → (St → Nat → Prop) → Prop
  | [], s, nx, q => q s nx
  | o :: r, s, nx, q =>
    match Kd n o with
    | false => False
    | true =>
      match o.guard with
      | none =>
        match N5 il s o with
        | some (x, ts) => XN tt ct s nx x ts fun v s' nx' => EY il tt ct hints n all r (s.back o.dst v s') nx' q
        | none => QU tt ct hints o s nx fun e => EY il tt ct hints n all r (s.put o e) (nx + 32) q
      | some (j, want) =>
        match Ci all j with
        | none => False
        | some t =>
          match Jq s t with
          | none =>
            match LL s t with
            | true => EY il tt ct hints n all r (s.put o ⟨T.ofV undef, []⟩) (nx + 32) q
            | false => False
          | some b =>
            L8 (s.lit.any (Nat.beq t)) (match want with | true => b | false => !b)
              (match N5 il (s.know t want) o with
               | some (x, ts) => XN tt ct (s.know t want) nx x ts fun v s' nx' => EY il tt ct hints n all r ((s.know t want).back o.dst v s') nx' q
               | none => QU tt ct hints o (s.know t want) nx fun e => EY il tt ct hints n all r ((s.know t want).put o e) (nx + 32) q)
              (EY il tt ct hints n all r ((s.know t (!want)).put o ⟨T.ofV undef, []⟩) (nx + 32) q)
section
variable {P : Program} {tt : TT} {ct : CTs} {Γ : Env} {n : Nat} {w0 : World}
theorem EG (hm:P.follows .mixedOrders=true) (hT:TTok P tt) (hct:CTok P ct Γ.mono):∀ (c:Code) {s:St} {nx:Nat} {k:XE->St->Nat->Prop} {m:Maps} {a:Act} {w:World} {Q:Exit->Act->World->Prop},
  xin tt ct n c s nx k->0<nx->R Γ n w0 (alN nx) s m a w->(∀ e s' nx' m' a' w',0<nx'->k e s' nx'->R Γ n w0 (alN nx') s' m' a' w'->Q e.out a' w')->c.wp P Q a w
 | .skip,s,nx,k,m,a,w,Q,hx,h0,h,hq=>wp_skip (hq .normal _ _ _ _ _ h0 hx h)
 | .region id ops false,s,nx,k,m,a,w,Q,hx,h0,h,hq=>
  wp_region_list (Et hT hct rfl _ hx h0 h λ s' nx' m' a' w' h1 h2 h3=>hq .normal _ _ _ _ _ h1 h2 h3)
 | .region id ops true,s,nx,k,m,a,w,Q,hx,h0,h,hq=>
  It hm hT hct.det (λ f c h=>(DQ h).2) hx h0 h λ s' nx' m' a' w' h1 h2 h3=>hq .normal _ _ _ _ _ h1 h2 h3
 | .seq x y,s,nx,k,m,a,w,Q,hx,h0,h,hq=>by
  refine wp_seq (EG hm hT hct x hx h0 h λ e s' nx' m' a' w' h1 h2 h3=>?_)
  cases e with
  | normal=>exact EG hm hT hct y h2 h1 h3 hq
  | exit id=>exact hq (.exit id) _ _ _ _ _ h1 h2 h3
  | ret=>exact hq .ret _ _ _ _ _ h1 h2 h3
 | .cond (.tmp t) x y,s,nx,k,m,a,w,Q,hx,h0,h,hq=>by
  simp only [xin] at hx
  split at hx
  ·rename_i v hv
   have hb:=Ha h hv
   obtain ⟨g1,g2⟩:=EW hx
   refine wp_cond_split (t:=v) hb (λ e=>?_) (λ e=>?_)
   ·exact EG hm hT hct x (g1 e) h0 (h.know (by rw [hb,e])) hq
   ·exact EG hm hT hct y (g2 e) h0 (h.know (by rw [hb,e])) hq
  ·exact hx.elim
 | .block id c,s,nx,k,m,a,w,Q,hx,h0,h,hq=>by
  refine wp_block (EG hm hT hct c hx h0 h λ e s' nx' m' a' w' h1 h2 h3=>?_)
  cases e with
  | normal=>exact hq .normal _ _ _ _ _ h1 h2 h3
  | ret=>exact hq .ret _ _ _ _ _ h1 h2 h3
  | exit j=>
   simp only at h2
   simp only [XE.out,Exit.inBlock]
   split at h2
   ·rename_i e
    rw [if_pos (Nat.eq_of_beq_eq_true e)]
    exact hq .normal _ _ _ _ _ h1 h2 h3
   ·rename_i e
    rw [if_neg (λ e'=>by subst e';simp at e)]
    exact hq (.exit j) _ _ _ _ _ h1 h2 h3
 | .loop c,s,nx,k,m,a,w,Q,hx,h0,h,hq=>hx.elim
 | .exit id,s,nx,k,m,a,w,Q,hx,h0,h,hq=>wp_exit (hq (.exit id) _ _ _ _ _ h0 hx h)
 | .ret,s,nx,k,m,a,w,Q,hx,h0,h,hq=>wp_ret (hq .ret _ _ _ _ _ h0 hx h)
 | .cond (.const _) _ _,_,_,_,_,_,_,_,hx,_,_,_=>hx.elim
 | .cond (.global _) _ _,_,_,_,_,_,_,_,hx,_,_,_=>hx.elim
 | .cond (.func _) _ _,_,_,_,_,_,_,_,hx,_,_,_=>hx.elim
 | .rangeFunc _ _ _ _,_,_,_,_,_,_,_,hx,_,_,_=>hx.elim
 | .scope _,_,_,_,_,_,_,_,hx,_,_,_=>hx.elim
 | .label _,_,_,_,_,_,_,_,hx,_,_,_=>hx.elim
 | .goto _,_,_,_,_,_,_,_,hx,_,_,_=>hx.elim
 | .refuse _,_,_,_,_,_,_,_,hx,_,_,_=>hx.elim
theorem XO {as:List A} {p:Nat->Prop} (h:∀ x ∈ as,∀ i ∈ x.ids,p i):∀ i ∈ (Qj as).ids,p i:=by
 match as,h with
 | [],h=>simp [Qj,T.ids]
 | [y],h=>exact λ i hi=>h y (by simp) i hi
 | _::_::_,h=>
  intro i hi
  simp only [Qj,T.ids,List.mem_flatMap] at hi
  obtain ⟨x,hx,hi⟩:=hi
  exact h x hx i hi
theorem Qk:∀ (ts:List T) (p t:Nat) (v:T),lkp (VR ts p) t=some v->p<=t/\ts[t-p]?=some v
 | [],p,t,v,h=>by simp [VR,lkp] at h
 | x::ts,p,t,v,h=>by
  simp only [VR,AR] at h
  split at h
  ·rename_i e
   subst e
   exact ⟨Nat.le_refl _,by simpa using h⟩
  ·obtain ⟨h1,h2⟩:=Qk ts (p+1) t v h
   exact ⟨by omega,by rw [show t-p=(t-(p+1))+1 by omega];simpa using h2⟩
theorem XP {al:Nat->Prop} {s:St} {m:Maps} {a:Act} {w:World} (h:R Γ n w0 al s m a w) {l:List Operand} {ts:List T} (hx:All2 (λ x t=>ev s x=some t) l ts):l.map a.eval=ts.map (T.den m)/\∀ t ∈ ts,∀ i ∈ t.ids,al i:=by
 induction hx with
 | nil=>exact ⟨rfl,by simp⟩
 | cons h1 _ ih=>
  have e:=h.ev h1
  exact ⟨by simp [ih.1,e.1],λ t ht i hi=>by rcases List.mem_cons.1 ht with rfl|ht;exact e.2 i hi;exact ih.2 t ht i hi⟩
theorem XQ {al:Nat->Prop} {s:St} {m:Maps} {a:Act} {w:World} (h:R Γ n w0 al s m a w) {c:C} (hc:∀ i ∈ c.ids,al i) {g:Nat} {ext:List T} (hx:Nt s c=some (g,ext)):∀ t ∈ ext,∀ i ∈ t.ids,al i:=by
 unfold Nt at hx
 split at hx
 ·rename_i f caps
  simp only [Option.some.injEq,Prod.mk.injEq] at hx
  obtain ⟨rfl,rfl⟩:=hx
  intro t ht i hi
  obtain ⟨j,hj,rfl⟩:=List.mem_map.1 ht
  exact hc i (by simp only [T.ids,A.ids,C.ids,List.mem_singleton] at hi;subst hi;exact hj)
 ·rename_i f caps
  simp only [Option.some.injEq,Prod.mk.injEq] at hx
  obtain ⟨rfl,rfl⟩:=hx
  intro t ht i hi
  obtain ⟨j,hj,rfl⟩:=List.mem_map.1 ht
  refine hc i (List.mem_map.2 ⟨j,hj,?_⟩)
  simp only [T.ids,A.ids] at hi
  split at hi <;> exact (List.mem_singleton.1 hi).symm
 ·rename_i k
  split at hx
  ·simp only [Option.some.injEq,Prod.mk.injEq] at hx
   obtain ⟨rfl,rfl⟩:=hx
   intro t ht i hi
   obtain ⟨j,hj,rfl⟩:=List.mem_map.1 ht
   exact hc i (by simp only [T.ids,A.ids,C.ids,List.mem_singleton] at hi;subst hi;simp [C.ids])
  ·cases hx
 ·cases hx
theorem EnAt.env {Γ:Env} {K:Nat} {m0 m:Maps} {w:World} {i:Nat} {E:En} : EnAt { Γ with K:=K,m0:=m0 } m w i E↔EnAt Γ m w i E:=by cases E <;> exact Iff.rfl
theorem Si (hm:P.follows .mixedOrders=true) (hT:TTok P tt) (hct:CTok P ct Γ.mono) {il:Sg} (hil:InlOk P il) {s:St} {nx:Nat} {m:Maps} {a:Act} {w:World} {o:Oper} {x:Inl} {ts:List T} {q:T->St->Nat->Prop} {K:Act->World->Prop} {Q:Exit->Act->World->Prop}
  (hi:N5 il s o=some (x,ts)) (hx:XN tt ct s nx x ts q) (h0:0<nx) (h:R Γ n w0 (alN nx) s m a w) (hd:Kd n o=true)
  (hK:∀ v s' nx' m' a' w',0<nx'->q v s' nx'->R Γ n w0 (alN nx') (s.back o.dst v s') m' a' w'->K a' w'):o.wp P a w K Q:=by
 have hne:il≠[]:=λ e=>by rw [e] at hi;simp [N5] at hi
 unfold N5 at hi
 split at hi
 ·cases hi
 split at hi
 case h_2=>cases hi
 rename_i c ho
 split at hi
 case h_2=>cases hi
 rename_i f hcal
 split at hi
 case h_2=>cases hi
 rename_i c0 ts0 hc0 hts
 split at hi
 case h_2=>cases hi
 rename_i k ext hcap
 obtain ⟨x',hl,e⟩:=Option.map_eq_some_iff.1 hi
 simp only [Prod.mk.injEq] at e
 obtain ⟨rfl,rfl⟩:=e
 obtain ⟨fn,f1,f2,f3,f4,f5⟩:=hil _ _ hl
 have hcc:=h.cc hc0
 have hfo:a.eval f=.func (.func k) #[] (ext.map (T.den m)).toArray:=hcc.1.trans (QN h hcap)
 obtain ⟨g1,g2⟩:=XP h (SM hts)
 have g3:=XQ h hcc.2 hcap
 unfold XN at hx
 split at hx
 ·exact hx.elim
 rename_i hlen
 have hlen:=Nat.le_of_ble_eq_true hlen
 have hexec:(execOp a.eval o).run P w=.ok (.enter k ((ts0++ext).map (T.den m)).toArray) w:=by
  have hmap:c.args.map a.eval++(ext.map (T.den m)).toArray=((ts0++ext).map (T.den m)).toArray:=by
   apply Array.ext'
   rw [Array.toList_append,Array.toList_map,g1,List.map_append]
  simp only [execOp,ho,resolve,hcal,hfo,Deferred.ofValue,Sem.run_bind,Sem.run_pure,Result.andThen_ok,invoke,callFunc,program,Sem.run,f1,hmap,Array.empty_append]
  simp [f2,f3]
 unfold Oper.wp
 rw [hexec]
 simp only [Oper.upon]
 refine Calls.mono (P:=P) (R:=λ e w'=>∃ v s' nx' m',e=.returned (v.den m')/\0<nx'/\q v s' nx'/\R Γ n w0 (alN nx') (s.back o.dst v s') m' (a.put o.dst (v.den m')) w') (calls_of_wp f1 f3 ?_) ?_
 ·rw [f4]
  have hR:R { Γ with K:=nx,m0:=m } x'.n w0 (alN nx) { tm:=VR (ts0++ext) 0,en:=s.en,lit:=[] } m { tmps:=((ts0++ext).map (T.den m)).toArray++Array.replicate (x'.n-((ts0++ext).map (T.den m)).toArray.size) undef,defers:=[] } w:=by
   refine ⟨by simp at hlen ⊢;omega,rfl,h.old,⟨h.below.drawn,h.below.os,h.below.tape,h.below.output,h.below.size,h.below.block⟩,λ t v hv=>?_,λ i E hE=>?_,h.pos,h.st,λ i h1 h2=>⟨h1,h2⟩,λ _ _=>⟨rfl,rfl⟩⟩
   ·obtain ⟨-,hg⟩:=Qk _ _ _ _ hv
    simp only [Nat.sub_zero] at hg
    have hlt:=(List.getElem?_eq_some_iff.1 hg).1
    refine ⟨?_,λ i hi=>?_⟩
    ·rw [Array.getD_eq_getD_getElem?,Array.getElem?_append_left (by simpa using hlt),List.getElem?_toArray,List.getElem?_map,hg]
     rfl
    ·rcases List.mem_append.1 (List.mem_of_getElem? hg) with hm|hm
     ·exact g2 v hm i hi
     ·exact g3 v hm i hi
   ·obtain ⟨e1,e2,e3⟩:=h.en i E hE
    exact ⟨EnAt.env.2 e1,e2,e3⟩
  refine EG (Γ:={ Γ with K:=nx,m0:=m }) hm hT hct x'.body hx h0 hR λ e s' nx' m' a' w' h1 h2 h3=>?_
  have fin:(match FR tt s' x'.res with|none=>False|some as=>q (Qj as) s' nx')->a'.defers=[]/\∃ v,(results fn a'.tmps).run P w'=.ok v w'/\∃ v' s' nx' m',Ending.returned v=.returned (v'.den m')/\0<nx'/\q v' s' nx'/\R Γ n w0 (alN nx') (s.back o.dst v' s') m' (a.put o.dst (v'.den m')) w':=by
   intro hq
   refine ⟨h3.defers,?_⟩
   split at hq
   ·exact hq.elim
   ·rename_i as has
    have e1:=EF hT h3 has
    have e2:results fn a'.tmps=(do let vs ← fn.results.mapM (Eu a'.tmps);pure (if h:vs.size=1 then vs[0] else .tuple vs)):=by
     unfold results
     congr 1
    have e3:(fn.results.mapM (Eu a'.tmps)).run P w'=.ok (as.map (A.den m')).toArray w':=by
     rw [Array.mapM_eq_mapM_toList,Sem.run_map,f5]
     rw [e1]
     rfl
    have hval:(results fn a'.tmps).run P w'=.ok ((Qj as).den m') w':=by
     rw [e2]
     simp only [Sem.run_bind,e3,Result.andThen_ok,Sem.run_pure]
     congr 1
     match as with
     | []=>rfl
     | [y]=>rfl
     | _::_::_=>rfl
    have hsame:Maps.same (alN nx) m m':=h3.gh.2
    have hle:∀ i,alN nx i->alN nx' i:=λ i hi=>h3.gh.1 i hi.1 hi.2
    have hids:∀ i ∈ (Qj as).ids,alN nx' i:=XO (N4 hT h3 has)
    refine ⟨_,hval,Qj as,s',nx',m',rfl,h1,hq,⟨?_,?_,h3.old,⟨h3.below.drawn,h3.below.os,h3.below.tape,h3.below.output,h3.below.size,h3.below.block⟩,λ t v hv=>?_,λ i E hE=>?_,h3.pos,h3.st,λ i i1 i2=>hle i (h.gh.1 i i1 i2),λ i hi=>?_⟩⟩
    ·cases o.dst <;> simp [Act.put,h.size]
    ·cases o.dst <;> simp [Act.put,h.defers]
    ·rw [Act.getD_put]
     have hold:∀ v,lkp s.tm t=some v->a.tmps.getD t undef=v.den m'/\∀ i ∈ v.ids,alN nx' i:=λ v hv=>by
      obtain ⟨k1,k2⟩:=h.tm t v hv
      exact ⟨by rw [k1,T.den_same hsame k2],λ i hi=>hle i (k2 i hi)⟩
     simp only [St.back] at hv
     cases hdst:o.dst with
     | none=>rw [hdst] at hv;simpa using hold v hv
     | some d=>
      rw [hdst] at hv
      simp only [AR] at hv
      by_cases hdt:d=t
      ·rw [if_pos hdt] at hv
       obtain rfl:=Option.some.inj hv
       rw [if_pos ⟨by rw [hdt],by rw [h.size,← hdt];exact L9 hd d hdst⟩]
       exact ⟨rfl,hids⟩
      ·rw [if_neg hdt] at hv
       rw [if_neg (λ y=>hdt (Option.some.inj y.1))]
       exact hold v hv
    ·obtain ⟨k1,k2,k3⟩:=h3.en i E hE
     exact ⟨EnAt.env.1 k1,k2,k3⟩
    ·have k1:=h.gh.2 i hi
     have k2:=hsame i (h.gh.1 i hi.1 hi.2)
     exact ⟨k2.1.trans k1.1,k2.2.trans k1.2⟩
  cases e with
  | normal=>exact fin h2
  | ret=>exact fin h2
  | exit id=>exact h2.elim
 ·rintro e w' ⟨v,s',nx',m',rfl,k1,k2,k3⟩
  exact hK v s' nx' m' _ w' k1 k2 k3
theorem DD (hm : P.follows .mixedOrders = true) (hT : TTok P tt) (hct : CTok P ct Γ.mono) {il : Sg} (hil : InlOk P il) {hints : List Nat} {ops : Array Oper} {all : List Oper} (hall : all = ops.toList) {Q : Exit → Act → World → Prop} :
    ∀ (l : List Oper) {s : St} {nx : Nat} {m : Maps} {a : Act} {w : World} {q : St → Nat → Prop}, EY il tt ct hints n all l s nx q → 0 < nx → R Γ n w0 (alN nx) s m a w →
      (∀ s' nx' m' a' w', 0 < nx' → q s' nx' → R Γ n w0 (alN nx') s' m' a' w' → Q .normal a' w') → wpList P ops Q l a w
  | [], s, nx, m, a, w, q, hx, h0, h, hq => wpList_nil (hq _ _ _ _ _ h0 hx h)
  | o :: r, s, nx, m, a, w, q, hx, h0, h, hq => by
    refine wpList_step fun K hK => ?_
    simp only [EY] at hx
    split at hx
    · exact hx.elim
    · rename_i hd
      have run : ∀ s2 : St, R Γ n w0 (alN nx) s2 m a w → (match N5 il s2 o with
          | some (x, ts) => XN tt ct s2 nx x ts fun v s' nx' => EY il tt ct hints n all r (s2.back o.dst v s') nx' q
          | none => QU tt ct hints o s2 nx fun e => EY il tt ct hints n all r (s2.put o e) (nx + 32) q) → o.wp P a w K Q := by
        intro s2 h2 hx2
        split at hx2
        · rename_i x ts hio
          refine Si hm hT hct hil hio hx2 h0 h2 hd fun v s' nx' m' a' w' k1 k2 k3 => ?_
          exact hK _ _ (DD hm hT hct hil hall r k2 k1 k3 hq)
        · have hs := UA (o := o) (fr := fun i => nx ≤ i ∧ i < nx + 32) hT hct h2 hints (fun i hi => by unfold alN at hi; omega) (fun i h1 h2 => ⟨h1, h2⟩) _ hx2 Q
          refine Oper.wp_mono ?_ hs
          rintro a' w' ⟨e, m', he, hstp⟩
          exact hK _ _ (DD hm hT hct hil hall r he (by omega) (h2.put h0 hstp hd) hq)
      split at hx
      · rename_i hg
        rw [if_pos (by simp [Region.wanted, hg])]
        exact run s h hx
      · rename_i j want hg
        split at hx
        · exact hx.elim
        · rename_i t ht
          split at hx
          · split at hx
            · rename_i hu
              obtain ⟨x, hu⟩ := MA h hu
              rw [IJ hall hg ht hu]
              simp only [Bool.false_eq_true, if_false]
              exact hK _ _ (DD hm hT hct hil hall r hx (by omega) (h.put h0 (Stp.skip h) hd) hq)
            · exact hx.elim
          · rename_i b hb
            have hbv := Ha h hb
            rw [Jr hall hg ht hbv]
            obtain ⟨g1, g2⟩ := EW hx
            by_cases hbw : b = want
            · subst hbw
              have hk := g1 (by cases b <;> rfl)
              simp only [beq_self_eq_true, if_true]
              exact run _ (h.know hbv) hk
            · have hbw' : b = !want := by cases b <;> cases want <;> simp at hbw ⊢
              have hk := g2 (by subst hbw'; cases want <;> rfl)
              have hne : (b == want) = false := by simpa using hbw
              rw [hne]
              simp only [Bool.false_eq_true, if_false]
              have h2 := h.know (b := !want) (by rw [hbv, hbw'])
              exact hK _ _ (DD hm hT hct hil hall r hk (by omega) (h2.put h0 (Stp.skip h2) hd) hq)
end
inductive Inv:Type 1 where
 | mk (nx:Nat) (ι:Type) (st:ι->St) (ok:ι->Prop) (μ:ι->Nat) (inner:ι->List (Nat×Inv)):Inv
def N6:Code->Nat
 | .region id _ _=>id
 | .seq a _=>N6 a
 | .block _ b=>N6 b
 | .loop b=>N6 b
 | .cond _ a _=>N6 a
 | _=>1000000
structure Ctx where
 tt:TT
 ct:CTs
 hints:List Nat
 n:Nat
 il:Sg
def Dt (X:Ctx):Code->List (Nat×Inv)->St->Nat->(XE->St->Nat->Prop)->Prop
 | .skip,_,s,nx,k=>k .normal s nx
 | .region _ ops false,_,s,nx,k=>EY X.il X.tt X.ct X.hints X.n ops.toList ops.toList s nx (k .normal)
 | .region _ ops true,_,s,nx,k=>O2 X.tt (KZ X.ct) X.hints X.n ops.toList s nx (k .normal)
 | .seq a b,iv,s,nx,k=>Dt X a iv s nx λ e s' nx'=>
  match e with
  | .normal=>
   match lkp iv (100000+N6 b) with
   | none=>Dt X b iv s' nx' k
   | some (.mk nx2 ι st ok _ inner)=>(∃ i:ι,ok i/\Iu (K8 X.hints) nx2 s' (st i))/\∀ i:ι,ok i->Dt X b (inner i) (st i) nx2 k
  | e=>k e s' nx'
 | .cond (.tmp t) a b,iv,s,nx,k=>
  match Jq s t with
  | some v=>L8 (mem s.lit t) v (Dt X a iv (s.know t true) nx k) (Dt X b iv (s.know t false) nx k)
  | none=>False
 | .block id body,iv,s,nx,k=>Dt X body iv s nx λ e s' nx'=>
  match e with
  | .exit j=>match Nat.beq j id with|true=>k .normal s' nx' | false=>k (.exit j) s' nx'
  | e=>k e s' nx'
 | .loop body,iv,s,_,k=>
  match lkp iv (N6 body) with
  | some (.mk nx2 ι st ok μ inner)=>(∃ i:ι,ok i/\Iu (K8 X.hints) nx2 s (st i))/\∀ i:ι,ok i->Dt X body (inner i) (st i) nx2 λ e s' nx'=>
   match e with
   | .normal=>∃ j:ι,ok j/\μ j<μ i/\Iu (K8 X.hints) nx2 s' (st j)
   | e=>k e s' nx'
  | none=>False
 | .exit id,_,s,nx,k=>k (.exit id) s nx
 | .ret,_,s,nx,k=>k .ret s nx
 | _,_,_,_,_=>False
section
variable {P : Program} {X : Ctx} {Γ : Env} {w0 : World}
theorem R.cover {al:Nat->Prop} {n nx pk:Nat} {s τ:St} {m:Maps} {a:Act} {w:World} (hK:Γ.K=0∨Γ.K=pk) (hpk:pk=0∨pk=2∨pk=3) (h:R Γ n w0 al s m a w) (hc:Iu pk nx s τ):0<nx/\∃ m',R Γ n w0 (alN nx) τ m' a w:=by
 have hc' : MF nx s τ/\(pk≠0->O5 pk nx s τ=true):=by
  rcases hpk with rfl|hpk
  ·exact ⟨hc,λ e=>absurd rfl e⟩
  ·obtain ⟨k,rfl⟩:∃ k,pk=k+1:=⟨pk-1,by omega⟩
   simp only [Iu] at hc
   split at hc
   ·rename_i hq;exact ⟨hc,λ _=>hq⟩
   ·exact hc.elim
 have hK0:Γ.K=0∨(Γ.K=pk/\pk≠0):=by omega
 rcases hK0 with hK|⟨hK,hpk0⟩
 ·obtain ⟨h1,m',h2,-⟩:=h.cover0 hK hc'.1
  exact ⟨h1,m',h2⟩
 ·have h0:R { Γ with K:=0 } n w0 al s m a w:=⟨h.size,h.defers,h.old,⟨h.below.drawn,h.below.os,h.below.tape,h.below.output,h.below.size,h.below.block⟩,h.tm,λ i E hE=>by
   obtain ⟨e1,e2,e3⟩:=h.en i E hE
   exact ⟨EnAt.env.2 e1,e2,e3⟩,h.pos,h.st,λ i h1 h2=>absurd h2 (Nat.not_lt_zero i),λ i hi=>absurd hi.2 (Nat.not_lt_zero i)⟩
  obtain ⟨h1,m',h2,h3⟩:=h0.cover0 rfl hc'.1
  obtain ⟨q1,q2⟩:=h3 pk (by omega) (hc'.2 hpk0)
  refine ⟨h1,m',⟨h2.size,h2.defers,h2.old,⟨h2.below.drawn,h2.below.os,h2.below.tape,h2.below.output,h2.below.size,h2.below.block⟩,h2.tm,λ i E hE=>by
   obtain ⟨e1,e2,e3⟩:=h2.en i E hE
   exact ⟨EnAt.env.1 e1,e2,e3⟩,h2.pos,h2.st,λ i i1 i2=>?_,λ i hi=>?_⟩⟩
  ·rw [hK] at i2
   unfold alN;omega
  ·have hi':=hi.2
   rw [hK] at hi'
   have:=h.gh.2 i hi
   have q:=q2 i hi.1 hi'
   exact ⟨q.1.trans this.1,q.2.trans this.2⟩
theorem BX (hm:P.follows .mixedOrders=true) (hT:TTok P X.tt) (hct:CTok P X.ct Γ.mono) (hil:InlOk P X.il) (hK:Γ.K=0∨Γ.K=K8 X.hints):∀ (c:Code) {iv:List (Nat×Inv)} {s:St} {nx:Nat} {k:XE->St->Nat->Prop} {al:Nat->Prop} {m:Maps} {a:Act} {w:World} {Q:Exit->Act->World->Prop},
  Dt X c iv s nx k->0<nx->R Γ X.n w0 (alN nx) s m a w->(∀ e s' nx' m' a' w',0<nx'->k e s' nx'->R Γ X.n w0 (alN nx') s' m' a' w'->Q e.out a' w')->c.wp P Q a w
 | .skip,iv,s,nx,k,al,m,a,w,Q,hx,h0,h,hq=>wp_skip (hq .normal _ _ _ _ _ h0 hx h)
 | .region id ops false,iv,s,nx,k,al,m,a,w,Q,hx,h0,h,hq=>
  wp_region_list (DD hm hT hct hil rfl _ hx h0 h λ s' nx' m' a' w' h1 h2 h3=>hq .normal _ _ _ _ _ h1 h2 h3)
 | .region id ops true,iv,s,nx,k,al,m,a,w,Q,hx,h0,h,hq=>
  It hm hT hct.det (λ f c h=>(DQ h).2) hx h0 h λ s' nx' m' a' w' h1 h2 h3=>hq .normal _ _ _ _ _ h1 h2 h3
 | .seq x y,iv,s,nx,k,al,m,a,w,Q,hx,h0,h,hq=>by
  refine wp_seq (BX hm hT hct hil hK x (al:=al) hx h0 h λ e s' nx' m' a' w' h1 h2 h3=>?_)
  cases e with
  | normal=>
   simp only at h2
   show y.wp P Q a' w'
   split at h2
   ·exact BX hm hT hct hil hK y (al:=al) h2 h1 h3 hq
   ·rename_i nx2 ι st ok μ inner hl
    obtain ⟨⟨i,hi,hc⟩,h2⟩:=h2
    obtain ⟨h5,m2,h4⟩:=h3.cover hK (IO _) hc
    exact BX hm hT hct hil hK y (al:=al) (h2 i hi) h5 h4 hq
  | exit id=>exact hq (.exit id) _ _ _ _ _ h1 h2 h3
  | ret=>exact hq .ret _ _ _ _ _ h1 h2 h3
 | .cond (.tmp t) x y,iv,s,nx,k,al,m,a,w,Q,hx,h0,h,hq=>by
  simp only [Dt] at hx
  split at hx
  ·rename_i v hv
   have hb:=Ha h hv
   obtain ⟨g1,g2⟩:=EW hx
   refine wp_cond_split (t:=v) hb (λ e=>?_) (λ e=>?_)
   ·exact BX hm hT hct hil hK x (al:=al) (g1 e) h0 (h.know (by rw [hb,e])) hq
   ·exact BX hm hT hct hil hK y (al:=al) (g2 e) h0 (h.know (by rw [hb,e])) hq
  ·exact hx.elim
 | .block id c,iv,s,nx,k,al,m,a,w,Q,hx,h0,h,hq=>by
  refine wp_block (BX hm hT hct hil hK c (al:=al) hx h0 h λ e s' nx' m' a' w' h1 h2 h3=>?_)
  cases e with
  | normal=>exact hq .normal _ _ _ _ _ h1 h2 h3
  | ret=>exact hq .ret _ _ _ _ _ h1 h2 h3
  | exit j=>
   simp only at h2
   simp only [XE.out,Exit.inBlock]
   split at h2
   ·rename_i e
    rw [if_pos (Nat.eq_of_beq_eq_true e)]
    exact hq .normal _ _ _ _ _ h1 h2 h3
   ·rename_i e
    rw [if_neg (λ e'=>by subst e';simp at e)]
    exact hq (.exit j) _ _ _ _ _ h1 h2 h3
 | .loop c,iv,s,nx,k,al,m,a,w,Q,hx,h0,h,hq=>by
  simp only [Dt] at hx
  split at hx
  ·rename_i nx2 ι st ok μ inner hl
   obtain ⟨⟨i,hi,hc⟩,hround⟩:=hx
   obtain ⟨h5,m2,h4⟩:=h.cover hK (IO _) hc
   refine wp_loop_ghost (λ N a w=>∃ i m,ok i/\μ i=N/\R Γ X.n w0 (alN nx2) (st i) m a w) (μ i) ⟨i,m2,hi,rfl,h4⟩ ?_
   rintro N a w ⟨i,m,hi,rfl,h⟩
   refine BX hm hT hct hil hK c (al:=al) (hround i hi) h5 h λ e s' nx' m' a' w' h1 h2 h3=>?_
   cases e with
   | normal=>
    obtain ⟨j,hj,hlt,hc⟩:=h2
    obtain ⟨-,m2,h4⟩:=h3.cover hK (IO _) hc
    exact ⟨μ j,hlt,j,m2,hj,rfl,h4⟩
   | exit id=>exact hq (.exit id) _ _ _ _ _ h1 h2 h3
   | ret=>exact hq .ret _ _ _ _ _ h1 h2 h3
  ·exact hx.elim
 | .exit id,iv,s,nx,k,al,m,a,w,Q,hx,h0,h,hq=>wp_exit (hq (.exit id) _ _ _ _ _ h0 hx h)
 | .ret,iv,s,nx,k,al,m,a,w,Q,hx,h0,h,hq=>wp_ret (hq .ret _ _ _ _ _ h0 hx h)
 | .cond (.const _) _ _,_,_,_,_,_,_,_,_,_,hx,_,_,_=>hx.elim
 | .cond (.global _) _ _,_,_,_,_,_,_,_,_,_,hx,_,_,_=>hx.elim
 | .cond (.func _) _ _,_,_,_,_,_,_,_,_,_,hx,_,_,_=>hx.elim
 | .rangeFunc _ _ _ _,_,_,_,_,_,_,_,_,_,hx,_,_,_=>hx.elim
 | .scope _,_,_,_,_,_,_,_,_,_,hx,_,_,_=>hx.elim
 | .label _,_,_,_,_,_,_,_,_,_,hx,_,_,_=>hx.elim
 | .goto _,_,_,_,_,_,_,_,_,_,hx,_,_,_=>hx.elim
 | .refuse _,_,_,_,_,_,_,_,_,_,hx,_,_,_=>hx.elim
end
end Go.Proofs.YtkffpiaagjcmpaaGreat
namespace Go.Proofs.YtkffpiaagjcmpaaGreat
set_option linter.unusedVariables false
set_option linter.unusedSimpArgs false
open Go.RowKit
def NR (id:Nat):DC->C
 | .im v=>.im v
 | .sl _ _ _=>.ext id
 | .ro _=>.ext id
def FS:List DC->Nat->List C
 | [],_=>[]
 | d::ds,id=>NR id d::FS ds (id+1)
def GS:List Nat->Nat->Option Nat
 | [],_=>none
 | x::r,p=>if Nat.beq x p=true then some 0 else (GS r p).map (· + 1)
theorem MH:∀ {l:List Nat} {p j:Nat},GS l p=some j->l[j]?=some p
 | [],_,_,h=>by simp [GS] at h
 | x::r,p,j,h=>by
  simp only [GS] at h
  split at h
  ·rename_i e
   obtain rfl:=Option.some.inj h
   simp [Nat.eq_of_beq_eq_true e]
  ·obtain ⟨k,h1,rfl⟩:=Option.map_eq_some_iff.1 h
   simpa using MH h1
theorem MI:∀ {l:List Nat} {p:Nat},GS l p=none->p ∉ l
 | [],_,_=>by simp
 | x::r,p,h=>by
  simp only [GS] at h
  split at h
  ·cases h
  ·rename_i e
   intro hm
   rcases List.mem_cons.1 hm with rfl|hm
   ·simp at e
   ·exact MI (by simpa using h) hm
def C4 (mu:List Nat):List DC->Nat->List (Nat×En)
 | [],_=>[]
 | .im _::ds,id=>C4 mu ds (id+1)
 | .sl e ts rows::ds,id=>(id,match GS mu (id-1) with|some j=>.mu e ts rows j|none=>.view e ts rows [])::C4 mu ds (id+1)
 | .ro d::ds,id=>(id,.ro d [])::C4 mu ds (id+1)
def Ev:List DA->Nat->Nat->List (Nat×T)
 | [],_,_=>[]
 | .one d::r,p,id=>(p,.one (.one (NR id d)))::Ev r (p+1) (id+1)
 | .agg ds::r,p,id=>(p,.one (.agg (FS ds id)))::Ev r (p+1) (id+ds.length)
def Iw (mu:List Nat) (as:List DA):St:={ tm:=Ev as 0 1,en:=C4 mu (as.flatMap DA.cells) 1,lit:=[] }
def A.cells:A->List C
 | .one c=>[c]
 | .agg cs=>cs
def A.sh:A->Option Nat
 | .one _=>none
 | .agg cs=>some cs.length
def K9:List (Option Nat)->List (Option Nat)->Bool
 | [],[]=>true
 | none::r,none::s=>K9 r s
 | some a::r,some b::s=>Nat.beq a b && K9 r s
 | _,_=>false
def AZ:List RC->List C->List Nat
 | .own _ _ _::r,.ext k::cs=>k::AZ r cs
 | .top _ _ _::r,.ext k::cs=>k::AZ r cs
 | _::r,_::cs=>AZ r cs
 | _,_=>[]
def O6 (s:St) (owns:List Nat) (rc:RC) (c:C):Option Prop:=
 match rc,c with
 | .im v,.im u=>some (u=v)
 | .own e ts rows,.ext k=>
  match lkp s.en k with
  | some (.own e' ts' rows')=>if (Nat.beq e e' && Ty.beqs ts ts')=true then some (rows'=rows) else none
  | _=>none
 | .own _ _ rows,.im (.slice none 0 0)=>some ([]=rows)
 | .view e ts rows,.ext k=>
  match Dq s k with
  | some (e',ts',rows',deps)=>if (Nat.beq e e' && Ty.beqs ts ts' && ABF deps owns)=true then some (rows'=rows) else none
  | none=>none
 | .view _ _ rows,.im (.slice none 0 0)=>some ([]=rows)
 | .top e ts rows,.ext k=>
  match lkp s.en k with
  | some (.top e' ts' rows' deps)=>if (Nat.beq e e' && Ty.beqs ts ts' && ABF deps owns)=true then some (rows'=rows) else none
  | _=>none
 | .top _ _ rows,.im (.slice none 0 0)=>some ([]=rows)
 | _,_=>none
def FT (s:St) (owns:List Nat):List RC->List C->Option (List Prop)
 | [],[]=>some []
 | r::rs,c::cs=>
  match O6 s owns r c,FT s owns rs cs with
  | some p,some ps=>some (p::ps)
  | _,_=>none
 | _,_=>none
def AAp (tt:TT) (rvs:List ResultVar) (s:St) (r:RT):Prop:=
 match FR tt s rvs with
 | none=>False
 | some as=>
  match K9 (as.map A.sh) r.sh && ET (AZ r.cells (as.flatMap A.cells)) && (match r.tup with|true=>!(Nat.beq as.length 1)|false=>Nat.beq as.length 1) with
  | false=>False
  | true=>
   match FT s (AZ r.cells (as.flatMap A.cells)) r.cells (as.flatMap A.cells) with
   | none=>False
   | some ps=>Sf ps
def XR:List (Nat×En)->Nat->Option Nat
 | [],_=>none
 | (i,.mu _ _ _ j')::r,j=>if Nat.beq j j'=true then some i else XR r j
 | _::r,j=>XR r j
def O7 (s:St) (dcs:List DC) (new:List (List (List Dat))):List Nat->Nat->Option (List Prop)
 | [],_=>some []
 | p::r,j=>
  match dcs[p]? with
  | some (.sl e ts _)=>
   match XR s.en j with
   | some i=>
    match lkp s.en i with
    | some (.mu e' ts' rows j')=>
     if (Nat.beq j j' && Nat.beq e e' && Ty.beqs ts ts')=true then (O7 s dcs new r (j+1)).map ((rows=new.getD j [])::·) else none
    | _=>none
   | none=>none
  | _=>none
def XS (tt:TT) (rvs:List ResultVar) (s:St) (dcs:List DC) (mu:List Nat) (new:List (List (List Dat))) (r:RT):Prop:=
 match FR tt s rvs,r with
 | some [.one (.im v)],⟨false,[none],[.im u]⟩=>
  match O7 s dcs new mu 0 with
  | some ps=>Sf ((v=u)::ps)
  | none=>False
 | _,_=>False
def Jx (tt:TT) (rvs:List ResultVar) (s:St) (dcs:List DC) (mu:List Nat) (new:List (List (List Dat))) (r:RT):Prop:=
 match mu with
 | []=>AAp tt rvs s r
 | p::l=>XS tt rvs s dcs (p::l) new r
section
variable {P : Program} {tt : TT} {Γ : Env} {n : Nat} {w0 : World} {al : Nat → Prop} {s : St} {m : Maps} {a : Act} {w : World}
theorem LM:∀ {a b:List (Option Nat)},K9 a b=true->a=b
 | [],[],_=>rfl
 | none::r,none::s,h=>by rw [LM (a:=r) (b:=s) h]
 | some a::r,some b::s,h=>by
  simp only [K9,Bool.and_eq_true,Nat.beq_eq] at h
  rw [h.1,LM h.2]
 | [],none::_,h=>by simp [K9] at h
 | [],some _::_,h=>by simp [K9] at h
 | none::_,[],h=>by simp [K9] at h
 | some _::_,[],h=>by simp [K9] at h
 | none::_,some _::_,h=>by simp [K9] at h
 | some _::_,none::_,h=>by simp [K9] at h
theorem LN (m:Maps):∀ (as:List A),NP (as.map A.sh) ((as.flatMap A.cells).map (C.den m))=as.map (A.den m)
 | []=>rfl
 | .one c::r=>by simp [A.sh,A.cells,NP,A.den,LN m r]
 | .agg cs::r=>by
  simp only [List.map_cons,A.sh,NP,List.flatMap_cons,A.cells,List.map_append,A.den]
  rw [List.take_left' (by simp),List.drop_left' (by simp),LN m r]
theorem Du (h:R Γ n w0 al s m a w) (hmine:∀ b,Γ.mine b->Γ.base<=b) {owns:List Nat} {w1:World} (hbase:Γ.base=w1.heap.size) (hoal:∀ i ∈ owns,al i):∀ {rcs:List RC} {cs:List C} {ps:List Prop},FT s owns rcs cs=some ps->(∀ p ∈ ps,p)->(AZ rcs cs).Nodup->(∀ k ∈ AZ rcs cs,k ∈ owns) ->
  ∃ bs:List Nat,bs.Nodup/\(∀ b ∈ bs,Γ.base<=b/\m.π b ∈ AZ rcs cs)/\(∀ all:List Nat,(∀ b ∈ all,m.π b ∈ owns)->BE Γ.G w1 w all rcs (cs.map (C.den m)) bs)
 | [],[],ps,_,_,_,_=>⟨[],List.nodup_nil,by simp,λ _ _=>rfl⟩
 | [],_::_,_,h,_,_,_=>by simp [FT] at h
 | _::_,[],_,h,_,_,_=>by simp [FT] at h
 | rc::rcs,c::cs,ps,hx,hp,hn,hk=>by
  simp only [FT] at hx
  split at hx
  ·rename_i p ps' h1 h2
   simp only [Option.some.injEq] at hx
   subst hx
   have hp1:=hp p (by simp)
   have hp2:∀ p ∈ ps',p:=λ q hq=>hp q (List.mem_cons_of_mem _ hq)
   unfold O6 at h1
   split at h1
   ·rename_i v u
    simp only [Option.some.injEq] at h1
    rw [← h1] at hp1
    obtain ⟨bs,b1,b2,b3⟩:=Du h hmine hbase hoal h2 hp2 (by simpa [AZ] using hn) (by simpa [AZ] using hk)
    exact ⟨bs,b1,by simpa [AZ] using b2,λ all hall=>by simp only [List.map_cons,BE,C.den];exact ⟨hp1,b3 all hall⟩⟩
   ·rename_i e ts rows k
    split at h1
    ·rename_i e' ts' rows' he
     split at h1
     ·rename_i hc
      simp only [Bool.and_eq_true,Nat.beq_eq] at hc
      obtain ⟨rfl,hc⟩:=hc
      have hc:=Ty.beqs_ok _ _ hc
      subst hc
      simp only [Option.some.injEq] at h1
      rw [← h1] at hp1
      simp only [AZ,List.nodup_cons] at hn
      simp only [AZ] at hk
      obtain ⟨bs,b1,b2,b3⟩:=Du h hmine hbase hoal h2 hp2 hn.2 (λ k' hk'=>hk k' (List.mem_cons_of_mem _ hk'))
      obtain ⟨q,q1,q2,q3⟩:=(h.en _ _ he).1
      rw [hp1] at q1
      refine ⟨q++bs,List.nodup_append.2 ⟨q2,b1,λ x hx y hy e=>?_⟩,λ b hb=>?_,λ all hall=>?_⟩
      ·subst e
       have:=(b2 x hy).2
       rw [(q3 x hx).2] at this
       exact hn.1 this
      ·rcases List.mem_append.1 hb with hb|hb
       ·exact ⟨hmine _ (q3 b hb).1,by rw [(q3 b hb).2];simp [AZ]⟩
       ·exact ⟨(b2 b hb).1,by simp only [AZ];exact List.mem_cons_of_mem _ (b2 b hb).2⟩
      ·simp only [List.map_cons,BE,C.den]
       exact ⟨q,bs,rfl,q1,b3 all hall⟩
     ·cases h1
    ·cases h1
   ·rename_i rows
    simp only [Option.some.injEq] at h1
    rw [← h1] at hp1
    obtain ⟨bs,b1,b2,b3⟩:=Du h hmine hbase hoal h2 hp2 (by simpa [AZ] using hn) (by simpa [AZ] using hk)
    refine ⟨bs,b1,by simpa [AZ] using b2,λ all hall=>?_⟩
    simp only [List.map_cons,BE,C.den]
    refine ⟨[],bs,rfl,?_,b3 all hall⟩
    rw [← hp1]
    simp only [Fp]
    exact ⟨[],[],World.ownsRow_nil _ _ _ _,rfl,rfl,by simp,by simp,by simp [Value.ownBlock]⟩
   ·rename_i e ts rows k
    split at h1
    ·rename_i e' ts' rows' deps he
     split at h1
     ·rename_i hc
      simp only [Bool.and_eq_true,Nat.beq_eq] at hc
      obtain ⟨⟨rfl,hc⟩,hd⟩:=hc
      have hc:=Ty.beqs_ok _ _ hc
      subst hc
      simp only [Option.some.injEq] at h1
      rw [← h1] at hp1
      obtain ⟨bs,b1,b2,b3⟩:=Du h hmine hbase hoal h2 hp2 (by simpa [AZ] using hn) (by simpa [AZ] using hk)
      obtain ⟨⟨F,f1,f2⟩,-,-⟩:=h.sl he
      refine ⟨bs,b1,by simpa [AZ] using b2,λ all hall=>?_⟩
      simp only [List.map_cons,BE,C.den]
      refine ⟨RdS.mono (λ b hb=>?_) _ _ _ (by rw [← hp1];exact f1),b3 all hall⟩
      rcases f2 b hb with hb|⟨hb0,hb⟩|⟨hb0,hb⟩
      ·exact .inl hb
      ·exact .inr ⟨by rw [← hbase];exact hmine _ hb0,λ hm=>h.pos (by have:=hall b hm;rw [hb] at this;exact hoal 0 this)⟩
      ·refine .inr ⟨by rw [← hbase];exact hmine _ hb0,λ hm=>?_⟩
       have h3:=hall b hm
       have:=List.all_eq_true.1 hd _ hb
       exact FO.1 (by simpa using this) h3
     ·cases h1
    ·cases h1
   ·rename_i rows
    simp only [Option.some.injEq] at h1
    rw [← h1] at hp1
    obtain ⟨bs,b1,b2,b3⟩:=Du h hmine hbase hoal h2 hp2 (by simpa [AZ] using hn) (by simpa [AZ] using hk)
    refine ⟨bs,b1,by simpa [AZ] using b2,λ all hall=>?_⟩
    simp only [List.map_cons,BE,C.den]
    refine ⟨?_,b3 all hall⟩
    rw [← hp1]
    simp only [RdS]
    exact ⟨[],⟨none,0,rfl,Nat.le_refl _,by unfold maxLen;omega,by simp,.inl ⟨rfl,λ _=>rfl⟩⟩,by simp,rfl,by simp⟩
   ·rename_i e ts rows k
    split at h1
    ·rename_i e' ts' rows' deps he
     split at h1
     ·rename_i hc
      simp only [Bool.and_eq_true,Nat.beq_eq] at hc
      obtain ⟨⟨rfl,hc⟩,hd⟩:=hc
      have hc:=Ty.beqs_ok _ _ hc
      subst hc
      simp only [Option.some.injEq] at h1
      rw [← h1] at hp1
      simp only [AZ,List.nodup_cons] at hn
      simp only [AZ] at hk
      obtain ⟨bs,b1,b2,b3⟩:=Du h hmine hbase hoal h2 hp2 hn.2 (λ k' hk'=>hk k' (List.mem_cons_of_mem _ hk'))
      obtain ⟨rv,v1,v2,v3,v4,v5⟩:=(h.en _ _ he).1
      rw [hp1] at v2 v4
      refine ⟨(m.ε k).ownBlock.toList++bs,List.nodup_append.2 ⟨by cases (m.ε k).ownBlock <;> simp,b1,λ x hx y hy e=>?_⟩,λ b hb=>?_,λ all hall=>?_⟩
      ·subst e
       have:=(b2 x hy).2
       rw [(v5 x (by simpa using hx)).2] at this
       exact hn.1 this
      ·rcases List.mem_append.1 hb with hb|hb
       ·have:=v5 b (by simpa using hb)
        exact ⟨hmine _ this.1,by rw [this.2];simp [AZ]⟩
       ·exact ⟨(b2 b hb).1,by simp only [AZ];exact List.mem_cons_of_mem _ (b2 b hb).2⟩
      ·simp only [List.map_cons,BE,C.den]
       refine ⟨_,bs,rfl,⟨rv,v1,v2,v3,λ k' hk'=>?_,λ b hb=>by simp [hb]⟩,b3 all hall⟩
       obtain ⟨F,f1,f2⟩:=v4 k' hk'
       refine RdRowS.mono (λ b hb=>?_) _ _ _ f1
       rcases f2 b hb with hb|⟨hb0,hb⟩|⟨hb0,hb⟩
       ·exact .inl hb
       ·exact .inr ⟨by rw [← hbase];exact hmine _ hb0,λ hm=>h.pos (by have:=hall b hm;rw [hb] at this;exact hoal 0 this)⟩
       ·refine .inr ⟨by rw [← hbase];exact hmine _ hb0,λ hm=>?_⟩
        have h3:=hall b hm
        have:=List.all_eq_true.1 hd _ hb
        exact FO.1 (by simpa using this) h3
     ·cases h1
    ·cases h1
   ·rename_i e ts rows
    simp only [Option.some.injEq] at h1
    rw [← h1] at hp1
    obtain ⟨bs,b1,b2,b3⟩:=Du h hmine hbase hoal h2 hp2 (by simpa [AZ] using hn) (by simpa [AZ] using hk)
    refine ⟨bs,b1,by simpa [AZ] using b2,λ all hall=>?_⟩
    simp only [List.map_cons,BE,C.den]
    refine ⟨[],bs,rfl,⟨[],World.ownsRow_nil _ _ _ _,?_,by simp,?_,by simp [Value.ownBlock]⟩,b3 all hall⟩
    ·rw [← hp1];rfl
    ·rw [← hp1];simp
   ·cases h1
  ·cases hx
theorem N7 {s:St} {dcs:List DC} {new:List (List (List Dat))} : ∀ {mu:List Nat} {j0:Nat} {ps:List Prop},O7 s dcs new mu j0=some ps->(∀ q ∈ ps,q)->∀ j p,mu[j]?=some p->∃ (e:Nat) (ts:List Ty) (rows:List (List Dat)) (i:Nat),dcs[p]?=some (.sl e ts rows)/\lkp s.en i=some (.mu e ts (new.getD (j0+j) []) (j0+j))
 | [],_,_,_,_,j,p,hj=>by simp at hj
 | p0::r,j0,ps,h,hp,j,p,hj=>by
  simp only [O7] at h
  split at h
  ·rename_i e ts rows hd
   split at h
   ·rename_i i hi
    split at h
    ·rename_i e' ts' rows' j' hl
     split at h
     ·rename_i hc
      simp only [Bool.and_eq_true,Nat.beq_eq] at hc
      obtain ⟨⟨rfl,rfl⟩,hc⟩:=hc
      have hc:=Ty.beqs_ok _ _ hc
      subst hc
      obtain ⟨ps',h1,rfl⟩:=Option.map_eq_some_iff.1 h
      have hr:rows'=new.getD j0 []:=hp _ (by simp)
      cases j with
      | zero=>
       simp only [List.getElem?_cons_zero,Option.some.injEq] at hj
       subst hj
       exact ⟨e,ts,rows,i,hd,by rw [hl,hr];rfl⟩
      | succ j=>
       have:=N7 h1 (λ q hq=>hp q (List.mem_cons_of_mem _ hq)) j p (by simpa using hj)
       rwa [show j0+1+j=j0+(j+1) by omega] at this
     ·cases h
    ·cases h
   ·cases h
  ·cases h
theorem Sj {F : Nat → Prop} {w : World} {as : List DA} {us : List Value} {mu : List Nat} {mb : Nat → List Nat} {N : Nat} {M : Bool} (h : ArgsAt F w mu mb (as.flatMap DA.cells) us) (hN : as.length ≤ N) :
    R { base := w.heap.size, mono := M, G := F, mb := fun j => if j < mu.length then mb j else [], mv := fun j => us.getD (mu.getD j 0) undef, hG := fun b hb hq => by
          rcases hq with hq | ⟨j, hq⟩
          · have := h.lt b hb; omega
          · split at hq
            · rename_i hj; exact h.out j b hj hq hb
            · simp at hq
        hst := fun b hb hq => by
          rcases hq with hq | ⟨j, hq⟩
          · have := h.st.1 b hb; omega
          · split at hq
            · rename_i hj; exact h.sb j b hj hq hb
            · simp at hq } N w (alN (1 + (as.flatMap DA.cells).length)) (Iw mu as) ⟨fun _ => 0, fun i => us.getD (i - 1) undef, fun b => match (List.range mu.length).find? (fun j => decide (b ∈ mb j)) with | some j => mu.getD j 0 + 1 | none => 0⟩ { tmps := (BA as us).toArray ++ Array.replicate (N - (BA as us).toArray.size) undef, defers := [] } w := by
  have hvl : ∀ (as : List DA) (us : List Value), (BA as us).length = as.length := by
    intro as
    induction as with
    | nil => intro us; rfl
    | cons x r ih => intro us; cases x <;> simp [BA, ih]
  let m : Maps := ⟨fun _ => 0, fun i => us.getD (i - 1) undef, fun b => match (List.range mu.length).find? (fun j => decide (b ∈ mb j)) with | some j => mu.getD j 0 + 1 | none => 0⟩
  have hπ : ∀ j b, j < mu.length → b ∈ mb j → m.π b = mu.getD j 0 + 1 := fun j b hj hb => by
    show (match (List.range mu.length).find? (fun j => decide (b ∈ mb j)) with | some j => mu.getD j 0 + 1 | none => 0) = _
    cases hf : (List.range mu.length).find? (fun j => decide (b ∈ mb j)) with
    | none => have := List.find?_eq_none.1 hf j (List.mem_range.2 hj); simp [hb] at this
    | some j' =>
      have h1 := List.find?_some hf
      have h2 := List.mem_range.1 (List.mem_of_find?_eq_some hf)
      by_cases e : j' = j
      · subst e; rfl
      · exact absurd hb (h.dis j' j b e h2 hj (by simpa using h1))
  -- the cells
  have hC : ∀ (ds : List DC) (id : Nat) (vs : List Value), vs.length = ds.length → (∀ p d u, ds[p]? = some d → vs[p]? = some u → (∀ v, d = DC.im v → u = v) ∧ m.ε (id + p) = u) → (FS ds id).map (C.den m) = vs ∧ ∀ c ∈ FS ds id, ∀ i ∈ c.ids, id ≤ i ∧ i < id + ds.length := by
    intro ds
    induction ds with
    | nil => intro id vs hl _; obtain rfl := List.eq_nil_of_length_eq_zero (by simpa using hl); simp [FS]
    | cons d r ih =>
      intro id vs hl hd
      cases vs with
      | nil => simp at hl
      | cons v vs =>
        obtain ⟨i1, i2⟩ := ih (id + 1) vs (by simpa using hl) (fun p d' u hp hu => by
          have := hd (p + 1) d' u (by simpa using hp) (by simpa using hu)
          rwa [show id + (p + 1) = id + 1 + p by omega] at this)
        obtain ⟨h0, h1⟩ := hd 0 d v (by simp) (by simp)
        refine ⟨?_, fun c hc i hi => ?_⟩
        · simp only [FS, List.map_cons, i1]
          congr 1
          cases d with
          | im x => simp only [NR, C.den]; exact (h0 _ rfl).symm
          | sl e ts rows => simpa [NR, C.den] using h1
          | ro d => simpa [NR, C.den] using h1
        · simp only [FS, List.mem_cons] at hc
          rcases hc with rfl | hc
          · cases d with
            | im x => simp [NR, C.ids] at hi
            | _ => simp [NR, C.ids] at hi; subst hi; simp
          · have := i2 c hc i hi; simp; omega
  have hTm : ∀ (as : List DA) (p id : Nat) (vs : List Value), vs.length = (as.flatMap DA.cells).length → (∀ q d u, (as.flatMap DA.cells)[q]? = some d → vs[q]? = some u → (∀ v, d = DC.im v → u = v) ∧ m.ε (id + q) = u) →
      ∀ t v, lkp (Ev as p id) t = some v → p ≤ t ∧ (BA as vs)[t - p]? = some (v.den m) ∧ ∀ i ∈ v.ids, id ≤ i ∧ i < id + (as.flatMap DA.cells).length := by
    intro as
    induction as with
    | nil => intro p id vs _ _ t v hv; simp [Ev, lkp] at hv
    | cons x r ih =>
      intro p id vs hl hd t v hv
      cases x with
      | one d =>
        simp only [List.flatMap_cons, DA.cells, List.singleton_append, List.length_cons] at hl hd ⊢
        cases vs with
        | nil => simp at hl
        | cons u us =>
          have hd' := fun q d' u' hq hu => hd (q + 1) d' u' (by simpa using hq) (by simpa using hu)
          simp only [Ev, AR] at hv
          split at hv
          · rename_i e
            subst e
            obtain rfl := Option.some.inj hv
            obtain ⟨i1, i2⟩ := hC [d] id [u] rfl (fun q d' u' hq hu => by
              cases q with
              | zero => simp at hq hu; subst hq; subst hu; exact hd 0 d u (by simp) (by simp)
              | succ q => simp at hq)
            simp only [FS, List.map_cons, List.map_nil, List.cons.injEq, and_true] at i1
            refine ⟨Nat.le_refl _, by simp [BA, T.den, A.den, i1], fun i hi => ?_⟩
            have := i2 (NR id d) (by simp [FS]) i (by simpa [T.ids, A.ids] using hi)
            simp at this; omega
          · obtain ⟨j1, j2, j3⟩ := ih (p + 1) (id + 1) us (by simpa using hl) (fun q d' u' hq hu => by
              have := hd' q d' u' hq hu
              rwa [show id + (q + 1) = id + 1 + q by omega] at this) t v hv
            refine ⟨by omega, ?_, fun i hi => by have := j3 i hi; omega⟩
            rw [show t - p = (t - (p + 1)) + 1 by omega]
            simpa [BA] using j2
      | agg ds =>
        simp only [List.flatMap_cons, DA.cells, List.length_append] at hl hd ⊢
        simp only [Ev, AR] at hv
        have hds : ∀ q d u, ds[q]? = some d → (vs.take ds.length)[q]? = some u → (∀ v, d = DC.im v → u = v) ∧ m.ε (id + q) = u := fun q d u hq hu => by
          have hql : q < ds.length := (List.getElem?_eq_some_iff.1 hq).1
          refine hd q d u (by rw [List.getElem?_append_left hql]; exact hq) ?_
          rw [List.getElem?_take, if_pos hql] at hu; exact hu
        split at hv
        · rename_i e
          subst e
          obtain rfl := Option.some.inj hv
          obtain ⟨i1, i2⟩ := hC ds id (vs.take ds.length) (by simp; omega) hds
          refine ⟨Nat.le_refl _, by simp [BA, T.den, A.den, i1], fun i hi => ?_⟩
          simp only [T.ids, A.ids, List.mem_flatMap] at hi
          obtain ⟨c, hc, hi⟩ := hi
          have := i2 c hc i hi; omega
        · obtain ⟨j1, j2, j3⟩ := ih (p + 1) (id + ds.length) (vs.drop ds.length) (by rw [List.length_drop, hl]; omega) (fun q d u hq hu => by
            have := hd (ds.length + q) d u (by rw [List.getElem?_append_right (by omega)]; simpa using hq) (by simpa using hu)
            rwa [← Nat.add_assoc] at this) t v hv
          refine ⟨by omega, ?_, fun i hi => by have := j3 i hi; omega⟩
          rw [show t - p = (t - (p + 1)) + 1 by omega]
          simpa [BA] using j2
  have hmε : ∀ q (d : DC) u, (as.flatMap DA.cells)[q]? = some d → us[q]? = some u → (∀ v, d = DC.im v → u = v) ∧ m.ε (1 + q) = u := fun q d u hq hu => by
    refine ⟨fun v hv => ?_, by simp [m, List.getD, Nat.add_sub_cancel_left, hu]⟩
    subst hv
    by_cases hm : q ∈ mu
    · obtain ⟨j, hj⟩ := List.getElem?_of_mem hm
      obtain ⟨_, _, _, _, e, _⟩ := h.own j q hj
      rw [hq] at e; cases e
    · exact h.rd q _ u hq hu hm
  have hsz : ((BA as us).toArray ++ Array.replicate (N - (BA as us).toArray.size) undef).size = N := by simp [hvl]; omega
  refine ⟨hsz, rfl, Nat.le_refl _, Bel.refl _ _, fun t v hv => ?_, fun i E hE => ?_, by unfold alN; omega, h.st, fun i h1 h2 => absurd h2 (Nat.not_lt_zero i), fun i hi => absurd hi.2 (Nat.not_lt_zero i)⟩
  · obtain ⟨j1, j2, j3⟩ := hTm as 0 1 us h.len hmε t v hv
    refine ⟨?_, fun i hi => by have := j3 i hi; unfold alN; omega⟩
    have hlt : t < (BA as us).length := (List.getElem?_eq_some_iff.1 (by simpa using j2)).1
    rw [Array.getD_eq_getD_getElem?, Array.getElem?_append_left (by simpa using hlt)]
    simp only [Nat.sub_zero] at j2
    simp [j2, m]
  · have hEn : ∀ (ds : List DC) (id i : Nat) (E : En), lkp (C4 mu ds id) i = some E → id ≤ i ∧ i < id + ds.length ∧ ((∃ e ts rows, ds[i - id]? = some (.sl e ts rows) ∧ E = (match GS mu (i - 1) with | some j => En.mu e ts rows j | none => En.view e ts rows [])) ∨ ∃ d, ds[i - id]? = some (.ro d) ∧ E = .ro d []) := by
      intro ds
      induction ds with
      | nil => intro id i E hq; simp [C4, lkp] at hq
      | cons d r ih =>
        intro id i E hq
        have sh : ∀ (h : id + 1 ≤ i) (d' : DC), r[i - (id + 1)]? = some d' → (d :: r)[i - id]? = some d' := fun h d' hd => by
          rw [show i - id = (i - (id + 1)) + 1 by omega]; simpa using hd
        have up : (id + 1 ≤ i ∧ i < id + 1 + r.length ∧ ((∃ e ts rows, r[i - (id + 1)]? = some (.sl e ts rows) ∧ E = (match GS mu (i - 1) with | some j => En.mu e ts rows j | none => En.view e ts rows [])) ∨ ∃ d, r[i - (id + 1)]? = some (.ro d) ∧ E = .ro d [])) → id ≤ i ∧ i < id + (d :: r).length ∧ ((∃ e ts rows, (d :: r)[i - id]? = some (.sl e ts rows) ∧ E = (match GS mu (i - 1) with | some j => En.mu e ts rows j | none => En.view e ts rows [])) ∨ ∃ d', (d :: r)[i - id]? = some (.ro d') ∧ E = .ro d' []) := by
          rintro ⟨a1, a2, a3⟩
          refine ⟨by omega, by simp; omega, ?_⟩
          rcases a3 with ⟨e, ts, rows, a3, a4⟩ | ⟨d', a3, a4⟩
          · exact .inl ⟨e, ts, rows, sh a1 _ a3, a4⟩
          · exact .inr ⟨d', sh a1 _ a3, a4⟩
        cases d with
        | im x =>
          simp only [C4] at hq
          exact up (ih (id + 1) i E hq)
        | sl e ts rows =>
          simp only [C4, AR] at hq
          split at hq
          · rename_i e'
            subst e'
            exact ⟨Nat.le_refl _, by simp, .inl ⟨e, ts, rows, by simp, (Option.some.inj hq).symm⟩⟩
          · exact up (ih (id + 1) i E hq)
        | ro d' =>
          simp only [C4, AR] at hq
          split at hq
          · rename_i e'
            subst e'
            exact ⟨Nat.le_refl _, by simp, .inr ⟨d', by simp, (Option.some.inj hq).symm⟩⟩
          · exact up (ih (id + 1) i E hq)
    obtain ⟨a1, a2, a3⟩ := hEn _ 1 i E hE
    have hlu : i - 1 < us.length := by rw [h.len]; omega
    have hu : us[i - 1]? = some us[i - 1] := List.getElem?_eq_getElem hlu
    rcases a3 with ⟨e, ts, rows, a3, rfl⟩ | ⟨d, a3, rfl⟩
    · cases hpo : GS mu (i - 1) with
      | none =>
        have hc := h.rd _ _ _ a3 hu (MI hpo)
        refine ⟨⟨F, ?_, fun b hb => .inl hb⟩, by unfold alN; omega, by simp [En.ids]⟩
        simp only [Cr] at hc
        simpa [List.getD, hu] using hc
      | some j =>
        have hj := MH hpo
        have hjl := (List.getElem?_eq_some_iff.1 hj).1
        obtain ⟨e', ts', rows', u, q1, q2, q3, q4⟩ := h.own j _ hj
        rw [a3] at q1
        simp only [Option.some.injEq, DC.sl.injEq] at q1
        obtain ⟨rfl, rfl, rfl⟩ := q1
        have hgj : mu.getD j 0 = i - 1 := by simp [List.getD, hj]
        refine ⟨⟨by show us.getD (i - 1) undef = us.getD (mu.getD j 0) undef; rw [hgj], ?_, by simp only [if_pos hjl]; exact q4, fun b hb => ?_⟩, by unfold alN; omega, by simp [En.ids]⟩
        · simp only [if_pos hjl]
          simpa [List.getD, q2] using q3
        · simp only [if_pos hjl] at hb
          have := hπ j b hjl hb
          rw [hgj] at this
          exact this.trans (by omega)
    · have hc := h.rd _ _ _ a3 hu (fun hm => by
        obtain ⟨j, hj⟩ := List.getElem?_of_mem hm
        obtain ⟨_, _, _, _, e, _⟩ := h.own j _ hj
        rw [a3] at e; cases e)
      refine ⟨⟨F, ?_, fun b hb => .inl hb⟩, by unfold alN; omega, by simp [En.ids]⟩
      simp only [Cr] at hc
      simpa [List.getD, hu] using hc
theorem ZT {X:Ctx} {f:Nat} {fn:Func} {body:Code} {c:Con} (aa:c.ι->c.ι->Prop) (hm:P.follows .mixedOrders=true) (hT:TTok P X.tt) (hct:CTok P X.ct c.mono) (hil:InlOk P X.il) (hf:P.funcs[f]?=some fn) (hb:fn.body=some body) (hn:fn.ntmps=X.n)
  (hlen:∀ i,(c.args i).length<=X.n) (iv:c.ι->List (Nat×Inv))
  (G:c.ι->XE->St->Prop) (hG1:∀ i id s,¬ G i (.exit id) s) (hG2:∀ i e s,G i e s->∃ j,aa i j/\Jx X.tt fn.results.toList s ((c.args i).flatMap DA.cells) c.mu (c.new j) (c.res j))
  (h:∀ i,c.pre i->Dt X body (iv i) (Iw c.mu (c.args i)) (1+((c.args i).flatMap DA.cells).length) λ e s _=>G i e s):∀ i,c.pre i->∀ F w us mb,ArgsAt F w c.mu mb ((c.args i).flatMap DA.cells) us->Calls P f (BA (c.args i) us).toArray w λ e w'=>∃ j,aa i j/\∃ rs bs,e=.returned ((c.res j).val rs)/\c.PostA i j F w us mb rs bs w'/\(c.mono=true->w.drawn<=w'.drawn):=by
 intro i hi F w us mb hargs
 have hini:=Sj (N:=X.n) (M:=c.mono) hargs (hlen i)
 refine calls_of_wp hf hb ?_
 rw [hn]
 refine BX hm hT hct hil (.inl rfl) body (al:=λ _=>True) (h i hi) (by omega) hini ?_
 intro e s' nx' m' a' w' h1 h2 h3
 have e2:results fn a'.tmps=(do let vs ← fn.results.mapM (Eu a'.tmps);pure (if h:vs.size=1 then vs[0] else .tuple vs)):=by
  unfold results
  congr 1
 have finM:∀ j0 p l,c.mu=p::l->XS X.tt fn.results.toList s' ((c.args i).flatMap DA.cells) c.mu (c.new j0) (c.res j0)->a'.defers=[]/\∃ v,(results fn a'.tmps).run P w'=.ok v w'/\∃ rs bs,Ending.returned v=.returned ((c.res j0).val rs)/\c.PostA i j0 F w us mb rs bs w':=by
  intro j0 p l hmu hr
  refine ⟨h3.defers,?_⟩
  unfold XS at hr
  split at hr
  ·rename_i v u has hres
   split at hr
   ·rename_i ps hps
    have hp:=FQ hr
    obtain rfl:v=u:=hp _ (by simp)
    have hend:=N7 hps (λ q hq=>hp q (List.mem_cons_of_mem _ hq))
    have e1:=EF hT h3 has
    have e3:(fn.results.mapM (Eu a'.tmps)).run P w'=.ok #[v] w':=by
     rw [Array.mapM_eq_mapM_toList,Sem.run_map]
     rw [e1]
     rfl
    refine ⟨v,?_,[v],[],by rw [hres];rfl,⟨by rw [hres];exact ⟨rfl,rfl⟩,List.nodup_nil,by simp,λ j p e ts rows u' _ hj hd hu=>?_,h3.below.os,h3.below.tape,h3.below.output,h3.below.size,λ b hb hmb=>h3.below.block b λ hq=>?_⟩⟩
    ·rw [e2]
     simp only [Sem.run_bind,e3,Result.andThen_ok,Sem.run_pure]
     rfl
    ·obtain ⟨_,_,_,_,_,_,_,hnd'⟩:=hargs.own j p hj
     refine ⟨mb j,?_,hnd',λ _ hb=>hb,λ _=>rfl⟩
     obtain ⟨e',ts',rows',i',q1,q2⟩:=hend j p hj
     rw [hd] at q1
     simp only [Option.some.injEq,DC.sl.injEq] at q1
     obtain ⟨rfl,rfl,rfl⟩:=q1
     rw [Nat.zero_add] at q2
     obtain ⟨⟨g0,g1,-,-⟩,-⟩:=h3.en _ _ q2
     have hjl:=(List.getElem?_eq_some_iff.1 hj).1
     rw [g0] at g1
     simp only [if_pos hjl] at g1
     have hgj:c.mu.getD j 0=p:=by simp [List.getD,hj]
     rw [hgj] at g1
     simpa [List.getD,hu] using g1
    ·rcases hq with hq|⟨j,hq⟩
     ·have hq:w.heap.size<=b:=hq
      omega
     ·simp only at hq
      split at hq
      ·rename_i hj;exact hmb j hj hq
      ·simp at hq
   ·exact hr.elim
  ·exact hr.elim
 have fin:∀ j0,Jx X.tt fn.results.toList s' ((c.args i).flatMap DA.cells) c.mu (c.new j0) (c.res j0)->a'.defers=[]/\∃ v,(results fn a'.tmps).run P w'=.ok v w'/\∃ rs bs,Ending.returned v=.returned ((c.res j0).val rs)/\c.PostA i j0 F w us mb rs bs w':=by
  intro j0 hr
  have hr2:=hr
  unfold Jx at hr
  split at hr
  case h_2 p l hmu=>rw [← hmu] at hr;exact finM j0 p l hmu hr
  rename_i hmu
  refine ⟨h3.defers,?_⟩
  unfold AAp at hr
  split at hr
  ·exact hr.elim
  ·rename_i as has
   split at hr
   ·exact hr.elim
   ·rename_i hchk
    simp only [Bool.and_eq_true] at hchk
    obtain ⟨⟨hsh,hnd⟩,htup⟩:=hchk
    split at hr
    ·exact hr.elim
    ·rename_i ps hps
     have hp:=FQ hr
     have hnd:=C1 hnd
     have hsh:=LM hsh
     let cs:=as.flatMap A.cells
     have howns:∀ k ∈ AZ (c.res j0).cells cs,alN nx' k:=by
      have key:∀ {rcs:List RC} {cs:List C} {ps:List Prop} {owns:List Nat},FT s' owns rcs cs=some ps->∀ k ∈ AZ rcs cs,alN nx' k:=by
       intro rcs
       induction rcs with
       | nil=>intro cs ps owns _ k hk;cases cs <;> simp [AZ] at hk
       | cons r rs ih=>
        intro cs ps owns hx k hk
        cases cs with
        | nil=>cases r <;> simp [AZ] at hk
        | cons c cs=>
         simp only [FT] at hx
         split at hx
         ·rename_i p ps' q1 q2
          cases r with
          | own e ts rows=>
           cases c with
           | ext k'=>
            simp only [AZ,List.mem_cons] at hk
            rcases hk with rfl|hk
            ·simp only [O6] at q1
             split at q1
             ·rename_i he
              exact (h3.en _ _ he).2.1
             ·cases q1
            ·exact ih q2 k hk
           | _=>simp only [AZ] at hk;exact ih q2 k hk
          | top e ts rows=>
           cases c with
           | ext k'=>
            simp only [AZ,List.mem_cons] at hk
            rcases hk with rfl|hk
            ·simp only [O6] at q1
             split at q1
             ·rename_i he
              exact (h3.en _ _ he).2.1
             ·cases q1
            ·exact ih q2 k hk
           | _=>simp only [AZ] at hk;exact ih q2 k hk
          | _=>simp only [AZ] at hk;exact ih q2 k hk
         ·cases hx
      exact key hps
     have hvals:(results fn a'.tmps).run P w'=.ok ((c.res j0).val (cs.map (C.den m'))) w':=by
      have e1:=EF hT h3 has
      have e2:results fn a'.tmps=(do let vs ← fn.results.mapM (Eu a'.tmps);pure (if h:vs.size=1 then vs[0] else .tuple vs)):=by
       unfold results
       congr 1
      rw [e2]
      have e3:(fn.results.mapM (Eu a'.tmps)).run P w'=.ok (as.map (A.den m')).toArray w':=by
       rw [Array.mapM_eq_mapM_toList,Sem.run_map]
       rw [e1]
       rfl
      simp only [Sem.run_bind,e3,Result.andThen_ok,Sem.run_pure]
      congr 1
      have hva:=LN m' as
      rw [hsh] at hva
      unfold RT.val
      cases ht:(c.res j0).tup with
      | true=>
       rw [ht] at htup
       simp only [Bool.not_eq_true'] at htup
       have hne:as.length≠1:=λ e=>by rw [e] at htup;simp at htup
       rw [dif_neg (by simp [hne])]
       simp [cs,hva]
      | false=>
       rw [ht] at htup
       have h1:=Nat.eq_of_beq_eq_true htup
       rw [dif_pos (by simp [h1])]
       obtain ⟨x,rfl⟩:∃ x,as=[x]:=by
        match as,h1 with
        | [x],_=>exact ⟨x,rfl⟩
       simp only [cs,hva]
       rfl
     -- the blocks of what goes back
     obtain ⟨bs,c1,c2,c3⟩:=Du (w1:=w) h3 (λ b hb=>hb.resolve_right (by simp [hmu])) rfl (λ i hi=>howns i hi) hps hp hnd (λ k hk=>hk)
     have c3:=c3 bs λ b hb=>(c2 b hb).2
     refine ⟨_,hvals,cs.map (C.den m'),bs,rfl,⟨c3,c1,λ b hb=>.inl (c2 b hb).1,λ j p e ts rows u _ hj=>by rw [hmu] at hj;simp at hj,h3.below.os,h3.below.tape,h3.below.output,h3.below.size,λ b hb _=>h3.below.block b (λ hq=>by rcases hq with hq|⟨j,hq⟩ <;> first|(have hq:w.heap.size<=b:=hq;omega)|simp [hmu] at hq)⟩⟩
 cases e with
 | normal=>obtain ⟨j0,haa,h2⟩:=hG2 _ _ _ h2;obtain ⟨d1,v,d2,rs,bs,d3,d4⟩:=fin j0 h2;exact ⟨d1,v,d2,j0,haa,rs,bs,d3,d4,λ hq=>h3.below.drawn hq⟩
 | ret=>obtain ⟨j0,haa,h2⟩:=hG2 _ _ _ h2;obtain ⟨d1,v,d2,rs,bs,d3,d4⟩:=fin j0 h2;exact ⟨d1,v,d2,j0,haa,rs,bs,d3,d4,λ hq=>h3.below.drawn hq⟩
 | exit id=>exact (hG1 _ _ _ h2).elim
theorem AB3 {X : Ctx} {f : Nat} {fn : Func} {body : Code} {c : Con} (hm : P.follows .mixedOrders = true) (hT : TTok P X.tt) (hct : CTok P X.ct c.mono) (hil : InlOk P X.il) (hf : P.funcs[f]? = some fn) (hname : fn.name ≠ "runtime.NumGoroutine") (hb : fn.body = some body) (hn : fn.ntmps = X.n)
    (hsmall : ∀ i, (c.res i).cells.length ≤ 32) (hlen : ∀ i, (c.args i).length ≤ X.n) (iv : c.ι → List (Nat × Inv))
    (h : ∀ i, c.pre i → Dt X body (iv i) (Iw c.mu (c.args i)) (1 + ((c.args i).flatMap DA.cells).length) fun e s _ =>
      match e with
      | .exit _ => False
      | _ => Jx X.tt fn.results.toList s ((c.args i).flatMap DA.cells) c.mu (c.new i) (c.res i)) : c.Ok P f := by
  have key := ZT (c := c) (fun i j => j = i) hm hT hct hil hf hb hn hlen iv (fun i e s => match e with
      | .exit _ => False
      | _ => Jx X.tt fn.results.toList s ((c.args i).flatMap DA.cells) c.mu (c.new i) (c.res i)) (fun i id s hq => hq) (fun i e s hq => by
    cases e with
    | exit _ => exact hq.elim
    | normal => exact ⟨i, rfl, hq⟩
    | ret => exact ⟨i, rfl, hq⟩) h
  exact ⟨⟨fn, hf, hname, by rw [hb]; rfl⟩, hsmall, fun i hi F w us mb hargs => (key i hi F w us mb hargs).mono fun e w' ⟨j, hj, rs, bs, he, hq, _⟩ => by subst hj; exact ⟨rs, bs, he, hq⟩, fun hc i hi F w us mb hargs => (key i hi F w us mb hargs).mono fun e w' ⟨j, hj, rs, bs, he, hq, hd⟩ => by subst hj; exact ⟨rs, bs, he, hq, hd hc⟩⟩
end
end Go.Proofs.YtkffpiaagjcmpaaGreat
namespace Go.Proofs.YtkffpiaagjcmpaaGreat
set_option linter.unusedVariables false
set_option linter.unusedSimpArgs false
open Go.RowKit
abbrev vI (x:Int):Value:=.int .i64 x
abbrev wR (x:Int):Int:=IntKind.i64.wrap x
abbrev nI (x:Nat):Int:=(x:Int)
theorem fok {P:Program} {X:Ctx} {f:Nat} {fn:Func} {body:Code} {c:Con} (hm:P.follows .mixedOrders=true) (hT:TTok P X.tt) (hct:CTok P X.ct c.mono) (hf:P.funcs[f]?=some fn) (iv:c.ι->List (Nat×Inv))
  (h:∀ i,c.pre i->Dt X body (iv i) (Iw c.mu (c.args i)) (1+((c.args i).flatMap DA.cells).length) λ e s _=>
   match e with
   | .exit _=>False
   | _=>Jx X.tt fn.results.toList s ((c.args i).flatMap DA.cells) c.mu (c.new i) (c.res i)) (hil:InlOk P X.il:=by exact InlOk.nil _) (hname:fn.name ≠ "runtime.NumGoroutine" := by decide) (hb:fn.body=some body:=by exact rfl) (hn:fn.ntmps=X.n:=by exact rfl)
  (hsmall:∀ i,(c.res i).cells.length<=32:=by exact λ _=>Nat.le_of_ble_eq_true rfl) (hlen:∀ i,(c.args i).length<=X.n:=by exact λ _=>Nat.le_of_ble_eq_true rfl):c.Ok P f:=
 AB3 hm hT hct hil hf hname hb hn hsmall hlen iv h
theorem ao {a b:Prop} (h:a) (k:a->b):a/\b:=⟨h,k h⟩
theorem AP {p q:Prop} (h:p=q) (hq:q):p:=h ▸ hq
theorem AC {x:Int} (h1:-9223372036854775808<=x) (h2:x<=9223372036854775807):IntKind.i64.wrap x=x:=by
 rw [IntKind.wrap_i64];omega
structure RatD where
 neg:Bool
 num:List (List Dat)
 den:List (List Dat)
structure PtD where
 x:RatD
 y:RatD
structure PlD where
 h:Int
 pt:PtD
def PlD.row (p:PlD):List Dat:=[.int p.h,.bool p.pt.x.neg,.sl p.pt.x.num,.sl p.pt.x.den,.bool p.pt.y.neg,.sl p.pt.y.num,.sl p.pt.y.den]
def AB4 (h t:Int):Int:=if (0<=h/\h<=3)/\(t=1∨t=-1) then Int.tmod (h+t+4) 4 else -1
def XT (p x:PlD):PlD:=if x.h=0 then ⟨p.h,x.pt⟩ else if x.h=1∨x.h=-1 then ⟨AB4 p.h x.h,p.pt⟩ else p
def RatD.ok (r:RatD):Prop:=r.num.length<=1073741824/\r.den.length<=1073741824
def PtD.ok (p:PtD):Prop:=p.x.ok/\p.y.ok
def PlD.ok (p:PlD):Prop:=p.pt.ok
end Go.Proofs.YtkffpiaagjcmpaaGreat
namespace Go.Proofs.YtkffpiaagjcmpaaGreat
set_option linter.unusedVariables false
set_option linter.unusedSimpArgs false
open Go.RowKit
mutual
def Ty.era:Ty->Ty
 | .sl _ ts=>.sl 0 (Ty.eras ts)
 | .int=>.int
 | .bool=>.bool
 | .str=>.str
def Ty.eras:List Ty->List Ty
 | []=>[]
 | t::ts=>t.era::Ty.eras ts
end
theorem Ty.eras_len:∀ ts:List Ty,(Ty.eras ts).length=ts.length
 | []=>rfl
 | _::ts=>by simp [Ty.eras,Ty.eras_len ts]
mutual
theorem Rd.era {w:World} : ∀ (t:Ty) (d:Dat) (v:Value),Rd w t.era d v↔Rd w t d v
 | .int,d,v=>Iff.rfl
 | .bool,d,v=>Iff.rfl
 | .str,d,v=>Iff.rfl
 | .sl e ts,d,v=>by
  cases d with
  | sl ls=>
   simp only [Ty.era,Rd,Ty.eras_len]
   constructor
   ·rintro ⟨rows,h1,h2,h3⟩;exact ⟨rows,h1,h2,λ k hk=>(RdRow.era ts _ _).1 (h3 k hk)⟩
   ·rintro ⟨rows,h1,h2,h3⟩;exact ⟨rows,h1,h2,λ k hk=>(RdRow.era ts _ _).2 (h3 k hk)⟩
  | _=>simp [Ty.era,Rd]
theorem RdRow.era {w:World} : ∀ (ts:List Ty) (ds:List Dat) (vs:List Value),RdRow w (Ty.eras ts) ds vs↔RdRow w ts ds vs
 | [],ds,vs=>Iff.rfl
 | t::ts,[],vs=>by simp [Ty.eras,RdRow]
 | t::ts,d::ds,[]=>by simp [Ty.eras,RdRow]
 | t::ts,d::ds,v::vs=>by simp only [Ty.eras,RdRow,Rd.era t d v,RdRow.era ts ds vs]
end
theorem RdRow.cast {w:World} {ts ts' : List Ty} {ds:List Dat} {vs:List Value} (h:RdRow w ts ds vs) (e:Ty.eras ts=Ty.eras ts'):RdRow w ts' ds vs:=
 (RdRow.era _ _ _).1 (e ▸ (RdRow.era _ _ _).2 h)
mutual
def Dat.has:Ty->Dat->Prop
 | .int,.int _=>True
 | .bool,.bool _=>True
 | .str,.str _=>True
 | .sl _ ts,.sl ls=>ls.length<=9223372036854775807/\∀ k,k<ls.length->hasRow ts (ls.getD k [])
 | _,_=>False
def hasRow:List Ty->List Dat->Prop
 | [],[]=>True
 | t::ts,d::ds=>Dat.has t d/\hasRow ts ds
 | _,_=>False
end
mutual
theorem Rd.has {w:World} : ∀ (t:Ty) (d:Dat) (v:Value),Rd w t d v->Dat.has t d
 | .int,d,v=>λ h=>by cases d <;> simp [Rd,Dat.has] at h ⊢
 | .bool,d,v=>λ h=>by cases d <;> simp [Rd,Dat.has] at h ⊢
 | .str,d,v=>λ h=>by cases d <;> simp [Rd,Dat.has] at h ⊢
 | .sl e ts,d,v=>λ h=>by
  cases d with
  | sl ls=>
   obtain ⟨a,c,-,h1,h2,-⟩:=h.open
   simp only [Rd,Dat.has] at h ⊢
   obtain ⟨rows,_,_,h3⟩:=h
   exact ⟨by omega,λ k hk=>RdRow.has ts _ _ (h3 k hk)⟩
  | _=>simp [Rd] at h
theorem RdRow.has {w:World} : ∀ (ts:List Ty) (ds:List Dat) (vs:List Value),RdRow w ts ds vs->hasRow ts ds
 | [],ds,vs=>λ h=>by cases ds <;> cases vs <;> simp [RdRow,hasRow] at h ⊢
 | t::ts,[],vs=>λ h=>by simp [RdRow] at h
 | t::ts,d::ds,[]=>λ h=>by simp [RdRow] at h
 | t::ts,d::ds,v::vs=>λ h=>by
  simp only [RdRow,hasRow] at h ⊢
  exact ⟨Rd.has t d v h.1,RdRow.has ts ds vs h.2⟩
end
def DC.ty:DC->Ty
 | .im (.int _ _)=>.int
 | .im (.bool _)=>.bool
 | .im (.string _)=>.str
 | .im _=>.int
 | .sl e ts _=>.sl e ts
 | .ro _=>.int
def DC.dat:DC->Dat
 | .im (.int _ n)=>.int n
 | .im (.bool b)=>.bool b
 | .im (.string s)=>.str s
 | .im _=>.sl []
 | .sl _ _ rows=>.sl rows
 | .ro _=>.int 0
def DC.ok:DC->Bool
 | .im (.int .i64 _)=>true
 | .im (.bool _)=>true
 | .im (.string _)=>true
 | .im _=>false
 | .sl _ _ _=>true
 | .ro _=>false
def DC.rc:DC->RC
 | .im v=>.im v
 | .sl e ts rows=>.own e ts rows
 | .ro _=>.im undef
theorem DC.im_ok {v:Value} (h:DC.ok (.im v)=true) (w:World):Fp w (DC.ty (.im v)) (DC.dat (.im v)) v []:=by
 unfold DC.ok at h
 split at h <;> first|cases h|skip
 all_goals simp_all [DC.ty,DC.dat,Fp]
theorem ZU {F:Nat->Prop} {w:World} {d:DC} {u:Value} (h:Cr F w d u) (hok:d.ok=true):Rd w d.ty d.dat u:=by
 cases d with
 | im v=>obtain rfl:=h;exact Fp.rd _ _ _ _ (DC.im_ok hok w)
 | sl e ts rows=>exact RdS.rd _ _ _ h
 | ro d=>cases hok
theorem N8 {F:Nat->Prop} {w:World} : ∀ {dcs:List DC} {us:List Value},us.length=dcs.length->(∀ (p:Nat) (d:DC) (u:Value),dcs[p]?=some d->us[p]?=some u->Cr F w d u)->dcs.all DC.ok=true->RdRow w (dcs.map DC.ty) (dcs.map DC.dat) us
 | [],us,hl,_,_=>by obtain rfl:=List.eq_nil_of_length_eq_zero (by simpa using hl);simp [RdRow]
 | d::ds,[],hl,_,_=>by simp at hl
 | d::ds,u::us,hl,h,hok=>by
  simp only [List.all_cons,Bool.and_eq_true] at hok
  simp only [List.map_cons,RdRow]
  exact ⟨ZU (h 0 d u (by simp) (by simp)) hok.1,N8 (by simpa using hl) (λ p d' u' hp hu=>h (p+1) d' u' (by simpa using hp) (by simpa using hu)) hok.2⟩
theorem XU {F:Nat->Prop} {w:World} {mb:Nat->List Nat} {dcs:List DC} {us:List Value} (h:ArgsAt F w [] mb dcs us) (hok:dcs.all DC.ok=true):RdRow w (dcs.map DC.ty) (dcs.map DC.dat) us:=
 N8 h.len (λ p d u hp hu=>h.rd p d u hp hu (by simp)) hok
theorem RdRow.split {w:World} : ∀ {t1 t2:List Ty} {d1 d2:List Dat} {us:List Value},t1.length=d1.length->RdRow w (t1++t2) (d1++d2) us->RdRow w t1 d1 (us.take d1.length)/\RdRow w t2 d2 (us.drop d1.length)
 | [],t2,[],d2,us,_,h=>⟨by simp [RdRow],h⟩
 | [],_,_::_,_,_,hl,_=>by simp at hl
 | _::_,_,[],_,_,hl,_=>by simp at hl
 | t::t1,t2,d::d1,d2,us,hl,h=>by
  obtain ⟨v,vs,rfl,h1,h2⟩:=RdRow.cons2 (by simpa using h)
  obtain ⟨i1,i2⟩:=RdRow.split (by simpa using hl) h2
  exact ⟨by simp only [List.length_cons,List.take_succ_cons,RdRow];exact ⟨h1,i1⟩,by simpa using i2⟩
theorem UF {F:Nat->Prop} {w w' : World} {all:List Nat} : ∀ {ts:List Ty} {dcs:List DC} {us:List Value} {bs:List Nat},FpRow w' ts (dcs.map DC.dat) us bs->dcs.map DC.ty=ts->dcs.all DC.ok=true->BE F w w' all (dcs.map DC.rc) us bs
 | _,[],us,bs,h,e,_=>by subst e;cases us <;> simp [FpRow,BE] at h ⊢;exact h
 | _,d::ds,[],bs,h,e,_=>by subst e;simp [FpRow] at h
 | _,d::ds,u::us,bs,h,e,hok=>by
  subst e
  simp only [List.map_cons,FpRow] at h
  obtain ⟨b1,b2,rfl,h1,h2⟩:=h
  simp only [List.all_cons,Bool.and_eq_true] at hok
  have ih:=UF (F:=F) (w:=w) (all:=all) h2 rfl hok.2
  cases d with
  | im v=>
   simp only [List.map_cons,DC.rc,BE]
   have hok:=hok.1
   unfold DC.ok at hok
   split at hok <;> first|cases hok|skip
   all_goals simp_all [DC.ty,DC.dat,Fp]
  | sl e ts rows=>
   simp only [List.map_cons,DC.rc,BE]
   exact ⟨b1,b2,rfl,h1,ih⟩
  | ro d=>exact absurd hok.1 (by simp [DC.ok])
theorem XV {c:Con} {i:c.ι} {F:Nat->Prop} {w w' : World} {us:List Value} {mb:Nat->List Nat} {ts:List Ty} {dcs:List DC} {rs:List Value} (hmu:c.mu=[]) (hr:(c.res i).cells=dcs.map DC.rc) (h:Below w.heap.size w w')
  (ho:Own w' w.heap.size w'.heap.size ts (dcs.map DC.dat) rs) (hts:dcs.map DC.ty=ts) (hok:dcs.all DC.ok=true):∃ bs,c.Post i F w us mb rs bs w':=by
 obtain ⟨bs,h1,h2,h3⟩:=ho
 exact ⟨bs,by rw [hr];exact UF h1 hts hok,h2,λ b hb=>.inl (h3 b hb).1,λ j p e ts rows u _ hj=>by rw [hmu] at hj;simp at hj,h.os,h.tape,h.output,h.size,λ b hb _=>h.block b hb⟩
section
variable {P : Program} {f : Nat} {ι : Type} {pre : ι → Prop}
abbrev AB5 (P:Program) (f:Nat):Prop:=∃ fn,P.funcs[f]?=some fn/\fn.name ≠ "runtime.NumGoroutine" /\ fn.body.isNone=false
end
theorem FpRow.leaf_nil {w:World} : ∀ {ts:List Ty} {ds:List Dat} {vs:List Value} {bs:List Nat},FpRow w ts ds vs bs->ts.all Ty.leaf=true->bs=[]
 | [],ds,vs,bs,h,_=>by cases ds <;> cases vs <;> simp [FpRow] at h;exact h
 | t::ts,[],vs,bs,h,_=>by simp [FpRow] at h
 | t::ts,d::ds,[],bs,h,_=>by simp [FpRow] at h
 | t::ts,d::ds,v::vs,bs,h,hl=>by
  simp only [FpRow] at h
  obtain ⟨b1,b2,rfl,h1,h2⟩:=h
  simp only [List.all_cons,Bool.and_eq_true] at hl
  rw [h1.leaf_nil hl.1,FpRow.leaf_nil h2 hl.2];rfl
section
variable {P : Program} {f : Nat} {ι : Type} {pre : ι → Prop}
end
theorem nrm:(∀ a b:Bool,((a && b)=true)=(a=true/\b=true))/\(∀ a b:Bool,((a || b)=true)=(a=true∨b=true)) /\
  (∀ a b:Bool,((a && b)=false)=(a=false∨b=false))/\(∀ a b:Bool,((a || b)=false)=(a=false/\b=false)) /\
  (∀ (p:Prop) [Decidable p],(decide p=true)=p)/\(∀ (p:Prop) [Decidable p],(decide p=false)=¬ p) /\
  (∀ b:Bool,((!b)=true)=(b=false))/\(∀ b:Bool,((!b)=false)=(b=true)) /\
  (∀ (α:Type) [BEq α] [LawfulBEq α] (a b:α),((a != b)=true)=¬ a=b)/\(∀ (α:Type) (a b:α),(a≠b)=¬ a=b) /\
  (∀ (α:Type) [BEq α] [LawfulBEq α] (a b:α),((a == b)=true)=(a=b))/\(∀ b:Bool,(¬ b=true)=(b=false))/\(∀ b:Bool,(¬ b=false)=(b=true)) /\
  (∀ a b:Int,(¬ a<b)=(b<=a))/\(∀ a b:Int,(¬ a<=b)=(b<a))/\(∀ (α:Type) [LT α] (a b:α),(a>b)=(b<a))/\(∀ (α:Type) [LE α] (a b:α),(a≥b)=(b<=a)) /\
  (∀ (α:Type) [BEq α] [LawfulBEq α] (a b:α),((a == b)=false)=¬ a=b)/\(∀ (α:Type) [BEq α] [LawfulBEq α] (a b:α),((a != b)=false)=(a=b)):=
 ⟨λ _ _=>Bool.and_eq_true _ _,λ _ _=>Bool.or_eq_true _ _,λ _ _=>propext Bool.and_eq_false_iff,λ _ _=>propext Bool.or_eq_false_iff,
  λ _ _=>decide_eq_true_eq,λ _ _=>propext decide_eq_false_iff_not,λ _=>Bool.not_eq_true' _,λ _=>Bool.not_eq_false' _,
  λ _ _ _ _ _=>propext bne_iff_ne,λ _ _ _=>ne_eq _ _,λ _ _ _ _ _=>propext beq_iff_eq,λ _=>Bool.not_eq_true _,λ _=>Bool.not_eq_false _,
  λ _ _=>propext Int.not_lt,λ _ _=>propext Int.not_le,λ _ _ _ _=>rfl,λ _ _ _ _=>rfl,
  λ _ _ _ _ _=>propext beq_eq_false_iff_ne,λ _ _ _ _ _=>propext bne_eq_false_iff_eq⟩
abbrev cB (b:Bool):DC:=.im (.bool b)
abbrev cI (n:Int):DC:=.im (.int .i64 n)
abbrev cS (l:List (List Dat)):DC:=.sl 3 [.int] l
def rf {α:Type} (a:α):Prop:=a=a
abbrev ifB (b:Bool) (p q:Prop):Prop:=(b=true->p)/\(b=false->q)
abbrev vB (b:Bool):Value:=.bool b
abbrev tI (n:Int):T:=.one (.one (.im (.int .i64 n)))
abbrev tB (b:Bool):T:=.one (.one (.im (.bool b)))
abbrev tX (i:Nat):T:=.one (.one (.ext i))
abbrev tP (i o:Nat):T:=.one (.one (.bp i o))
abbrev kI (n:Int):C:=.im (.int .i64 n)
abbrev kB (b:Bool):C:=.im (.bool b)
abbrev eV (l:List (List Dat)):En:=.view 3 [.int] l []
abbrev rcI (n:Int):RC:=.im (.int .i64 n)
abbrev rcB (b:Bool):RC:=.im (.bool b)
end Go.Proofs.YtkffpiaagjcmpaaGreat
