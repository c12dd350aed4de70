import Derived.Test.YthoidhehmmcgnaaGreatWtExB
import Derived.Deep.LoopGhost
import Derived.Test.YthoidhehmmcgnaaGreatWtBas
namespace Go.Proofs.YthoidhehmmcgnaaGreat
set_option linter.unusedVariables false
set_option linter.unusedSimpArgs false
open Go.RowKit
abbrev Ren:=List (Nat×Nat)
abbrev Cov:=Option (List Prop×Ren)
def Sm(ρ:Ren)(k k' : Nat):Cov:=
 match lkp ρ k with|none=>some ([],(k,k')::ρ)|some x=>if Nat.beq x k'=true then some ([],ρ)else none
def Cov.then(x:Cov)(f:Ren->Cov):Cov:=
 match x with
 |none=>none|some (ps,ρ)=>
  match f ρ with|none=>none|some (qs,ρ')=>some (ps++qs,ρ')
def Ma(ρ:Ren):List Nat->List Nat->Cov
 | [],[]=>some ([],ρ)|a::as,b::bs=>(Sm ρ a b).then λρ=>Ma ρ as bs|_,_=>none
def Y4(ρ:Ren)(c c' : C):Cov:=
 match c,c' with
 | .im a,.im b=>some ([b=a],ρ)| .ext k,.ext k'=>Sm ρ k k'| .bp i o,.bp i' o'=>if Nat.beq o o'=true then Sm ρ i i' else none
 | .clo f a,.clo g b=>(Ma ρ a b).then λρ=>some ([f=g],ρ)| .pp k o,.pp k' o'=>if Nat.beq o o'=true then Sm ρ k k' else none
 | .cp k o,.cp k' o'=>if Nat.beq o o'=true then Sm ρ k k' else none
 |_,_=>none
def K8(ρ:Ren):List C->List C->Cov
 | [],[]=>some ([],ρ)|c::cs,d::ds=>(Y4 ρ c d).then λρ=>K8 ρ cs ds|_,_=>none
def AAi(ρ:Ren)(t t' : T):Cov:=
 match t,t' with| .one (.one c),.one (.one d)=>Y4 ρ c d| .one (.agg cs),.one (.agg ds)=>K8 ρ cs ds|_,_=>none
def Qu(s:St):Ren->List (Nat×T)->Cov
 | ρ,[]=>some ([],ρ)| ρ,(t,v)::r=>
  match lkp s.tm t with|some v'=>(AAi ρ v v').then λρ=>Qu s ρ r|none=>none
def En.track:En->Bool
 | .box _=>true| .own _ _ _=>true| .top _ _ _ _=>true| .mu _ _ _ _=>true|_=>false
def De(ρ:Ren):List (Nat×En)->Ren
 | []=>[]|(i,E)::r=>
  match E.track,lkp ρ i with|true,some i'=>(i,i')::De ρ r|_,_=>De ρ r
def Sn(s:St)(ρ:Ren)(i:Nat)(E:En):Cov:=
 match lkp ρ i with
 |none=>none|some i'=>
  match E,lkp s.en i' with
  | .box cs,some (.box ds)=>K8 ρ cs ds| .own e ts rows,some (.own e' ts' rows')=>if(Nat.beq e e' && Ty.beqs ts ts')=true then some ([rows'=rows],ρ)else none| .top e ts rows _,some (.top e' ts' rows' _)=>if(Nat.beq e e' && Ty.beqs ts ts')=true then some ([rows'=rows],ρ)else none| .top e ts rows _,some (.own e' ts' [])=>if(Nat.beq e e' && Ty.beqs ts ts')=true then some ([[]=rows],ρ)else none| .view e ts rows _,some E'=>
   match En.sl E' i' with|some (e',ts',rows',_)=>if(Nat.beq e e' && Ty.beqs ts ts')=true then some ([rows'=rows],ρ)else none|none=>none
  | .ro d _,some (.ro d' _)=>some ([d'=d],ρ)| .mu e ts rows j,some (.mu e' ts' rows' j')=>if(Nat.beq e e' && Ty.beqs ts ts' && Nat.beq j j')=true then some ([rows'=rows],ρ)else none| .dead,_=>none|_,_=>none
def Qv(s:St):Ren->List (Nat×En)->Cov
 | ρ,[]=>some ([],ρ)| ρ,(i,E)::r=>(Sn s ρ i E).then λρ=>Qv s ρ r
def PD(s:St)(ρ T0:Ren):List (Nat×En)->Bool
 | []=>true|(i,E)::r=>
  (
   match E,lkp ρ i with
   | .view _ _ _ deps,some i'=>
    match (lkp s.en i').bind (En.sl · i')with|some (_,_,_,deps')=>deps'.all λd=>T0.all λx=>!(Nat.beq x.2 d) || mem deps x.1|none=>false
   | .top _ _ _ deps,some i'=>
    match lkp s.en i' with|some (.top _ _ _ deps')=>deps'.all λd=>T0.all λx=>!(Nat.beq x.2 d) || mem deps x.1|_=>true
   | .ro _ deps,some i'=>
    match lkp s.en i' with|some (.ro _ deps')=>deps'.all λd=>T0.all λx=>!(Nat.beq x.2 d) || mem deps x.1|_=>true
   |_,_=>true) && PD s ρ T0 r
def XO(nx i:Nat):Bool:=Nat.ble 1 i && Nat.ble (i+1) nx
def ABb(nx:Nat)(s:St):Bool:=Nat.ble 1 nx && (s.tm.all λx=>x.2.ids.all (XO nx)) && (s.en.all λx=>XO nx x.1 && x.2.ids.all (XO nx))
def XP:List Prop->Prop
 | []=>True| [p]=>p|p::q::r=>p/\XP (q::r)
theorem JJ:∀{l:List Prop},XP l->∀p ∈ l,p
 | [],_,p,hp=>by simp at hp| [q],h,p,hp=>by rw[List.mem_singleton.1 hp];exact h|q::q'::r,h,p,hp=>by rcases List.mem_cons.1 hp with rfl|hp;exact h.1;exact JJ h.2 p hp
def Mb(nx:Nat)(s τ:St):Prop:=
 match (Qu s [] τ.tm).then λρ=>Qv s ρ τ.en with
 |none=>False|some (ps,ρ)=>
  match ABb nx τ && GO ((De ρ τ.en).map (·.2)) && GO (τ.en.map (·.1)) && PD s ρ (De ρ τ.en) τ.en with|true=>XP ps|false=>False
def PE(K nx:Nat)(s τ:St):Bool:=false
def Qw(hints:List Nat):Nat:=
 match hints.any (Nat.beq 4000000)with|true=>3|false=>match hints.any (Nat.beq 4000001)with|true=>2|false=>0
theorem Iu(hints:List Nat):Qw hints=0\/Qw hints=2\/Qw hints=3:=by unfold Qw;split;exact .inr (.inr rfl);split;exact .inr (.inl rfl);exact .inl rfl
def JK(pk:Nat)(nx:Nat)(s τ:St):Prop:=
 match pk with
 | 0=>Mb nx s τ|k+1=>
  match PE (k+1) nx s τ with|true=>Mb nx s τ|false=>False
def ext(ρ ρ' : Ren):Prop:=∀k x,lkp ρ k=some x->lkp ρ' k=some x
theorem ext.refl(ρ:Ren):ext ρ ρ:=λ_ _ h=>h
theorem ext.trans{a b c:Ren}(h:ext a b)(k:ext b c):ext a c:=λi x hx=>k i x (h i x hx)
theorem JL{ρ ρ' : Ren}{k k' : Nat}{ps:List Prop}(h:Sm ρ k k'=some (ps,ρ')):ext ρ ρ'/\lkp ρ' k=some k':=by unfold Sm at h;split at h;rename_i hn;simp only[Option.some.injEq,Prod.mk.injEq]at h;obtain⟨-,rfl⟩:=h;refine⟨λi x hx=>?_,by simp[AY]⟩;rw[AY,if_neg];exact hx;intro e;subst e;rw[hn]at hx;cases hx;rename_i x hx;split at h;rename_i e;have e:=Nat.eq_of_beq_eq_true e;subst e;simp only[Option.some.injEq,Prod.mk.injEq]at h;obtain⟨-,rfl⟩:=h;exact⟨ext.refl _,hx⟩;cases h
theorem Cov.then_ok{x:Cov}{f:Ren->Cov}{ps:List Prop}{ρ:Ren}(h:x.then f=some (ps,ρ)):∃p1 ρ1 p2,x=some (p1,ρ1)/\f ρ1=some (p2,ρ)/\ps=p1++p2:=by unfold Cov.then at h;split at h;cases h;rename_i p1 ρ1;split at h;cases h;rename_i p2 ρ2 h2;simp only[Option.some.injEq,Prod.mk.injEq]at h;obtain⟨rfl,rfl⟩:=h;exact⟨p1,ρ1,p2,rfl,h2,rfl⟩
def DS(m:Maps)(ρ T0:Ren):Maps:=⟨λi=>m.β ((lkp ρ i).getD 0),λi=>m.ε ((lkp ρ i).getD 0),λb=>match T0.find? λx=>Nat.beq x.2 (m.π b)with|some x=>x.1|none=>0⟩
theorem Qx{ρF:Ren} : ∀{as bs:List Nat}{ρ ρ' : Ren}{ps:List Prop},Ma ρ as bs=some (ps,ρ')->ext ρ' ρF->ext ρ ρ'/\as.map (λi=>(lkp ρF i).getD 0)=bs
 | [],[],ρ,ρ',ps,h,_=>by simp only[Ma,Option.some.injEq,Prod.mk.injEq]at h;obtain⟨-,rfl⟩:=h;exact⟨ext.refl _,rfl⟩| [],_::_,_,_,_,h,_=>by simp[Ma]at h|_::_,[],_,_,_,h,_=>by simp[Ma]at h|a::as,b::bs,ρ,ρ',ps,h,hx=>by simp only[Ma]at h;obtain⟨p1,ρ1,p2,h1,h2,rfl⟩:=Cov.then_ok h;obtain⟨e2,d2⟩:=Qx h2 hx;obtain⟨e1,d1⟩:=JL h1;exact⟨e1.trans e2,by simp[d2,hx _ _ (e2 _ _ d1)]⟩
theorem UJ{m:Maps}{ρF T0:Ren}{ρ ρ' : Ren}{c c' : C}{ps:List Prop}(h:Y4 ρ c c'=some (ps,ρ'))(hp:∀p ∈ ps,p)(hx:ext ρ' ρF):ext ρ ρ'/\c.den (DS m ρF T0)=c'.den m:=by unfold Y4 at h;split at h;simp only[Option.some.injEq,Prod.mk.injEq]at h;obtain⟨rfl,rfl⟩:=h;have:=hp _ (List.mem_singleton.2 rfl);exact⟨ext.refl _,by simp only[C.den];exact this.symm⟩;obtain⟨h1,h2⟩:=JL h;exact⟨h1,by simp only[C.den,DS,hx _ _ h2,Option.getD_some]⟩;split at h;rename_i e;have e:=Nat.eq_of_beq_eq_true e;subst e;obtain⟨h1,h2⟩:=JL h;exact⟨h1,by simp only[C.den,DS,hx _ _ h2,Option.getD_some]⟩;cases h;obtain⟨p1,ρ1,p2,h1,h2,rfl⟩:=Cov.then_ok h;simp only[Option.some.injEq,Prod.mk.injEq]at h2;obtain⟨rfl,rfl⟩:=h2;obtain⟨e1,d1⟩:=Qx h1 hx;have a0:=hp _ (List.mem_append.2 (.inr (List.mem_singleton.2 rfl)));refine⟨e1,?_⟩;simp only[C.den,← d1,List.map_map,DS,a0];rfl;split at h;rename_i e;have e:=Nat.eq_of_beq_eq_true e;subst e;obtain⟨h1,h2⟩:=JL h;exact⟨h1,by simp only[C.den,DS,hx _ _ h2,Option.getD_some]⟩;cases h;split at h;rename_i e;have e:=Nat.eq_of_beq_eq_true e;subst e;obtain⟨h1,h2⟩:=JL h;exact⟨h1,by simp only[C.den,DS,hx _ _ h2,Option.getD_some]⟩;cases h;cases h
theorem Mc{m:Maps}{ρF T0:Ren} : ∀{cs ds:List C}{ρ ρ' : Ren}{ps:List Prop},K8 ρ cs ds=some (ps,ρ')->(∀p ∈ ps,p)->ext ρ' ρF->ext ρ ρ'/\cs.map (C.den (DS m ρF T0))=ds.map (C.den m)
 | [],[],ρ,ρ',ps,h,_,_=>by simp only[K8,Option.some.injEq,Prod.mk.injEq]at h;obtain⟨-,rfl⟩:=h;exact⟨ext.refl _,rfl⟩| [],_::_,_,_,_,h,_,_=>by simp[K8]at h|_::_,[],_,_,_,h,_,_=>by simp[K8]at h|c::cs,d::ds,ρ,ρ',ps,h,hp,hx=>by simp only[K8]at h;obtain⟨p1,ρ1,p2,h1,h2,rfl⟩:=Cov.then_ok h;obtain⟨e2,d2⟩:=Mc (m:=m) (T0:=T0) h2 (λp hp'=>hp p (List.mem_append.2 (.inr hp'))) hx;obtain⟨e1,d1⟩:=UJ (m:=m) (ρF:=ρF) (T0:=T0) h1 (λp hp'=>hp p (List.mem_append.2 (.inl hp'))) (e2.trans hx);exact⟨e1.trans e2,by simp[d1,d2]⟩
theorem Y5{m:Maps}{ρF T0:Ren}{t t' : T}{ρ ρ' : Ren}{ps:List Prop}(h:AAi ρ t t'=some (ps,ρ'))(hp:∀p ∈ ps,p)(hx:ext ρ' ρF):ext ρ ρ'/\t.den (DS m ρF T0)=t'.den m:=by unfold AAi at h;split at h;exact UJ h hp hx;obtain⟨h1,h2⟩:=Mc (m:=m) (T0:=T0) h hp hx;exact⟨h1,by simp only[T.den,A.den,h2]⟩;cases h
theorem Qy{m:Maps}{ρF T0:Ren}{s:St} : ∀{l:List (Nat×T)}{ρ ρ' : Ren}{ps:List Prop},Qu s ρ l=some (ps,ρ')->(∀p ∈ ps,p)->ext ρ' ρF->ext ρ ρ'/\∀t v,lkp l t=some v->∃v',lkp s.tm t=some v'/\v.den (DS m ρF T0)=v'.den m
 | [],ρ,ρ',ps,h,_,_=>by simp only[Qu,Option.some.injEq,Prod.mk.injEq]at h;obtain⟨-,rfl⟩:=h;exact⟨ext.refl _,by simp[lkp]⟩|(t,v)::r,ρ,ρ',ps,h,hp,hx=>by simp only[Qu]at h;split at h;rename_i v' hv';obtain⟨p1,ρ1,p2,h1,h2,rfl⟩:=Cov.then_ok h;obtain⟨e2,d2⟩:=Qy (m:=m) (T0:=T0) h2 (λp hp'=>hp p (List.mem_append.2 (.inr hp'))) hx;obtain⟨e1,d1⟩:=Y5 (m:=m) (ρF:=ρF) (T0:=T0) h1 (λp hp'=>hp p (List.mem_append.2 (.inl hp'))) (e2.trans hx);refine⟨e1.trans e2,λu y hy=>?_⟩;rw[AY]at hy;split at hy;rename_i e;subst e;obtain rfl:=Option.some.inj hy;exact⟨v',hv',d1⟩;exact d2 u y hy;cases h
def AAC(s:St)(m:Maps)(ρF T0:Ren)(i:Nat)(E:En):Prop:=∃i',lkp ρF i=some i' /\
 match E,lkp s.en i' with| .box cs,some (.box ds)=>cs.map (C.den (DS m ρF T0))=ds.map (C.den m)| .own e ts rows,some E'=>E'=.own e ts rows| .top e ts rows _,some (.top e' ts' rows' _)=>e'=e/\ts'=ts/\rows'=rows| .top e ts rows _,some (.own e' ts' rows')=>e'=e/\ts'=ts/\rows'=rows/\rows=[]| .view e ts rows _,some E'=>∃deps',En.sl E' i'=some (e,ts,rows,deps')| .ro d _,some E'=>∃deps',E'=.ro d deps'| .mu e ts rows j,some E'=>E'=.mu e ts rows j|_,_=>False
theorem Vj{m:Maps}{ρF T0:Ren}{s:St}{i:Nat}{E:En}{ρ ρ' : Ren}{ps:List Prop}(h:Sn s ρ i E=some (ps,ρ'))(hp:∀p ∈ ps,p)(hx:ext ρ' ρF):ext ρ ρ'/\AAC s m ρF T0 i E:=by unfold Sn at h;split at h;cases h;rename_i i' hi;split at h;rename_i cs ds he;obtain⟨h1,h2⟩:=Mc (m:=m) (T0:=T0) h hp hx;exact⟨h1,i',hx _ _ (h1 _ _ hi),by rw[he];exact h2⟩;rename_i e ts rows e' ts' rows' he;split at h;rename_i hc;simp only[Bool.and_eq_true,Nat.beq_eq]at hc;obtain⟨rfl,hc⟩:=hc;have hc:=Ty.beqs_ok _ _ hc;subst hc;simp only[Option.some.injEq,Prod.mk.injEq]at h;obtain⟨rfl,rfl⟩:=h;have:=hp _ (List.mem_singleton.2 rfl);exact⟨ext.refl _,i',hx _ _ hi,by rw[he];simp[this]⟩;cases h;rename_i e ts rows _ e' ts' rows' _ he;split at h;rename_i hc;simp only[Bool.and_eq_true,Nat.beq_eq]at hc;obtain⟨rfl,hc⟩:=hc;have hc:=Ty.beqs_ok _ _ hc;subst hc;simp only[Option.some.injEq,Prod.mk.injEq]at h;obtain⟨rfl,rfl⟩:=h;have:=hp _ (List.mem_singleton.2 rfl);exact⟨ext.refl _,i',hx _ _ hi,by rw[he];exact⟨rfl,rfl,this⟩⟩;cases h;rename_i e ts rows _ e' ts' he;split at h;rename_i hc;simp only[Bool.and_eq_true,Nat.beq_eq]at hc;obtain⟨rfl,hc⟩:=hc;have hc:=Ty.beqs_ok _ _ hc;subst hc;simp only[Option.some.injEq,Prod.mk.injEq]at h;obtain⟨rfl,rfl⟩:=h;have:=hp _ (List.mem_singleton.2 rfl);exact⟨ext.refl _,i',hx _ _ hi,by rw[he];exact⟨rfl,rfl,this,this.symm⟩⟩;cases h;rename_i e ts rows _ E' he;split at h;rename_i e' ts' rows' deps' a0;split at h;rename_i hc;simp only[Bool.and_eq_true,Nat.beq_eq]at hc;obtain⟨rfl,hc⟩:=hc;have hc:=Ty.beqs_ok _ _ hc;subst hc;simp only[Option.some.injEq,Prod.mk.injEq]at h;obtain⟨rfl,rfl⟩:=h;have:=hp _ (List.mem_singleton.2 rfl);exact⟨ext.refl _,i',hx _ _ hi,by rw[he];exact⟨deps',by rw[a0,this]⟩⟩;cases h;cases h;rename_i d _ d' deps' he;simp only[Option.some.injEq,Prod.mk.injEq]at h;obtain⟨rfl,rfl⟩:=h;have:=hp _ (List.mem_singleton.2 rfl);exact⟨ext.refl _,i',hx _ _ hi,by rw[he];exact⟨deps',by rw[this]⟩⟩;rename_i e ts rows j e' ts' rows' j' he;split at h;rename_i hc;simp only[Bool.and_eq_true,Nat.beq_eq]at hc;obtain⟨⟨rfl,hc⟩,rfl⟩:=hc;have hc:=Ty.beqs_ok _ _ hc;subst hc;simp only[Option.some.injEq,Prod.mk.injEq]at h;obtain⟨rfl,rfl⟩:=h;have:=hp _ (List.mem_singleton.2 rfl);exact⟨ext.refl _,i',hx _ _ hi,by rw[he];simp[this]⟩;cases h;cases h;cases h
theorem Qz{m:Maps}{ρF T0:Ren}{s:St} : ∀{l:List (Nat×En)}{ρ ρ' : Ren}{ps:List Prop},Qv s ρ l=some (ps,ρ')->(∀p ∈ ps,p)->ext ρ' ρF->ext ρ ρ'/\∀i E,(i,E) ∈ l->AAC s m ρF T0 i E
 | [],ρ,ρ',ps,h,_,_=>by simp only[Qv,Option.some.injEq,Prod.mk.injEq]at h;obtain⟨-,rfl⟩:=h;exact⟨ext.refl _,by simp⟩|(i,E)::r,ρ,ρ',ps,h,hp,hx=>by simp only[Qv]at h;obtain⟨p1,ρ1,p2,h1,h2,rfl⟩:=Cov.then_ok h;obtain⟨e2,d2⟩:=Qz (m:=m) (T0:=T0) h2 (λp hp'=>hp p (List.mem_append.2 (.inr hp'))) hx;obtain⟨e1,d1⟩:=Vj (m:=m) (ρF:=ρF) (T0:=T0) h1 (λp hp'=>hp p (List.mem_append.2 (.inl hp'))) (e2.trans hx);refine⟨e1.trans e2,λj F hj=>?_⟩;rcases List.mem_cons.1 hj with hj|hj;simp only[Prod.mk.injEq]at hj;obtain⟨rfl,rfl⟩:=hj;exact d1;exact d2 j F hj
theorem DT{ρ:Ren} : ∀{l:List (Nat×En)}{i i' : Nat}{E:En},(i,E) ∈ l->E.track=true->lkp ρ i=some i'->(i,i') ∈ De ρ l
 | [],_,_,_,h,_,_=>by simp at h|(j,F)::r,i,i',E,h,ht,hi=>by rcases List.mem_cons.1 h with h|h;simp only[Prod.mk.injEq]at h;obtain⟨rfl,rfl⟩:=h;simp only[De,ht,hi];simp;simp only[De];split;exact List.mem_cons_of_mem _ (DT h ht hi);exact DT h ht hi
theorem He{ρ:Ren} : ∀{l:List (Nat×En)}{i i' : Nat},(i,i') ∈ De ρ l->lkp ρ i=some i'/\∃E,(i,E) ∈ l/\E.track=true
 | [],_,_,h=>by simp[De]at h|(j,F)::r,i,i',h=>by simp only[De]at h;split at h;rename_i ht hj;rcases List.mem_cons.1 h with h|h;simp only[Prod.mk.injEq]at h;obtain⟨rfl,rfl⟩:=h;exact⟨hj,F,by simp,ht⟩;obtain⟨a,E,b,c⟩:=He h;exact⟨a,E,by simp[b],c⟩;obtain⟨a,E,b,c⟩:=He h;exact⟨a,E,by simp[b],c⟩
theorem OB{s:St}{ρ T0:Ren} : ∀{l:List (Nat×En)},PD s ρ T0 l=true->∀{i:Nat}{E:En},(i,E) ∈ l ->
 match E,lkp ρ i with| .view _ _ _ deps,some i'=>∀e ts rows deps',(lkp s.en i').bind (En.sl · i')=some (e,ts,rows,deps')->∀d ∈ deps',∀x ∈ T0,x.2=d->x.1 ∈ deps| .top _ _ _ deps,some i'=>∀e ts rows deps',lkp s.en i'=some (.top e ts rows deps')->∀d ∈ deps',∀x ∈ T0,x.2=d->x.1 ∈ deps| .ro _ deps,some i'=>∀d0 deps',lkp s.en i'=some (.ro d0 deps')->∀d ∈ deps',∀x ∈ T0,x.2=d->x.1 ∈ deps|_,_=>True
 | [],_,_,_,h=>by simp at h|(j,F)::r,hc,i,E,h=>by
  simp only[PD,Bool.and_eq_true]at hc;rcases List.mem_cons.1 h with h|h
  ·simp only[Prod.mk.injEq]at h
   obtain⟨rfl,rfl⟩:=h;have hc:=hc.1
   have key:∀(deps deps' : List Nat),(deps'.all λd=>T0.all λx=>!(Nat.beq x.2 d) || mem deps x.1)=true->∀d ∈ deps',∀x ∈ T0,x.2=d->x.1 ∈ deps:=by
    intro deps deps' h d hd x hx e;have:=List.all_eq_true.1 (List.all_eq_true.1 h d hd) x hx;rw[Bool.or_eq_true,Bool.not_eq_true']at this;rcases this with h|h;·subst e;simp at h
    ·exact mem_iff.1 h
   cases E with
   |view e ts rows deps=>
    cases hl:lkp ρ i with|none=>trivial|some i'=>rw[hl]at hc;simp only at hc ⊢;intro e' ts' rows' deps' hs;rw[hs]at hc;exact key _ _ hc
   |top e ts rows deps=>
    cases hl:lkp ρ i with|none=>trivial|some i'=>rw[hl]at hc;simp only at hc ⊢;intro e' ts' rows' deps' hs;rw[hs]at hc;exact key _ _ hc
   |ro d deps=>
    cases hl:lkp ρ i with|none=>trivial|some i'=>rw[hl]at hc;simp only at hc ⊢;intro d' deps' hs;rw[hs]at hc;exact key _ _ hc
   |_=>trivial
  ·exact OB hc.2 h
section
variable {Γ : Env} {n : Nat} {w0 : World} {al : Nat → Prop} {s τ : St} {m : Maps} {a : Act} {w : World} {nx : Nat}
theorem R.cover0(hK:Γ.K=0)(h:R Γ n w0 al s m a w)(hc:Mb nx s τ):0<nx/\∃m',R Γ n w0 (alN nx) τ m' a w/\∀K,(K=2\/K=3)->PE K nx s τ=true->K<=nx/\∀i,0<i->i<K->m'.β i=m.β i/\m'.ε i=m.ε i:=by
 unfold Mb at hc;split at hc;·exact hc.elim
 ·rename_i ps ρ a6
  split at hc
  ·rename_i a3
   simp only[Bool.and_eq_true]at a3;obtain⟨⟨⟨hst,aD⟩,hnk⟩,a7⟩:=a3;have hp:=JJ hc;obtain⟨p1,ρ1,p2,c1,c2,rfl⟩:=Cov.then_ok a6;let T0:=De ρ τ.en
   obtain⟨e2,aB⟩:=Qz (m:=m) (T0:=T0) c2 (λp hp'=>hp p (List.mem_append.2 (.inr hp'))) (ext.refl ρ);obtain⟨e1,aE⟩:=Qy (m:=m) (T0:=T0) c1 (λp hp'=>hp p (List.mem_append.2 (.inl hp'))) e2;simp only[ABb,Bool.and_eq_true]at hst;obtain⟨⟨hn0,a8⟩,a9⟩:=hst;have hst:_/\_:=⟨a8,a9⟩;refine⟨Nat.le_of_ble_eq_true hn0,?_⟩;have hid:∀{i:Nat},XO nx i=true->alN nx i:=λ{i} hi=>by simp only[XO,Bool.and_eq_true,Nat.ble_eq]at hi;unfold alN;omega
   have aA:=Ef aD
   have hT0:∀{i i' j:Nat},(i,i') ∈ T0->(j,i') ∈ T0->i=j:=by
    intro i i' j h1 h2
    have key:∀{l:Ren},(l.map (·.2)).Nodup->(i,i') ∈ l->(j,i') ∈ l->i=j:=by
     intro l;induction l with
     |nil=>intro _ h;simp at h|cons x r ih=>
      intro hn h1 h2;simp only[List.map_cons,List.nodup_cons]at hn;rcases List.mem_cons.1 h1 with g1|g1
      ·rcases List.mem_cons.1 h2 with g2|g2
       ·rw[← g2]at g1;simp at g1;exact g1
       ·exact(hn.1 (by rw[← g1];exact List.mem_map.2 ⟨(j,i'),g2,rfl⟩)).elim
      ·rcases List.mem_cons.1 h2 with g2|g2
       ·exact(hn.1 (by rw[← g2];exact List.mem_map.2 ⟨(i,i'),g1,rfl⟩)).elim
       ·exact ih hn.2 g1 g2
    exact key aA h1 h2
   have hπ1:∀{i i' b:Nat},(i,i') ∈ T0->m.π b=i'->(DS m ρ T0).π b=i:=by
    intro i i' b hi hb;simp only[DS,hb];cases hf:T0.find? λx=>Nat.beq x.2 i' with|none=>have:=List.find?_eq_none.1 hf _ hi;simp at this|some x=>have h1:=List.find?_some hf;have h2:=List.mem_of_find?_eq_some hf;have h1:=Nat.eq_of_beq_eq_true h1;obtain⟨x1,x2⟩:=x;simp only at h1;subst h1;exact hT0 h2 hi
   have hπ0:∀{b:Nat},(∀x ∈ T0,x.2≠m.π b)->(DS m ρ T0).π b=0:=by
    intro b hb;simp only[DS];cases hf:T0.find? λx=>Nat.beq x.2 (m.π b)with|none=>rfl|some x=>have h1:=List.find?_some hf;have h1:=Nat.eq_of_beq_eq_true h1;exact absurd h1 (hb x (List.mem_of_find?_eq_some hf))
   have hT0al:∀x ∈ T0,al x.2:=by
    rintro⟨i,i'⟩ hx;obtain⟨hl,E,hE,ht⟩:=He hx;obtain⟨i2,q1,q2⟩:=aB i E hE;rw[hl]at q1;obtain rfl:=Option.some.inj q1;cases hE' : lkp s.en i' with|none=>rw[hE']at q2;cases E <;> simp at q2|some E'=>exact(h.en _ _ hE').2.1
   have a1:∀(deps deps' : List Nat)(b:Nat),(∀d ∈ deps',∀x ∈ T0,x.2=d->x.1 ∈ deps)->Γ.may m deps' b->Γ.may (DS m ρ T0) deps b:=by
    intro deps deps' b hd hb;rcases hb with hb|⟨hb0,hb⟩|⟨hb0,hb⟩;·exact .inl hb
    ·refine .inr (.inl ⟨hb0,hπ0 λx hx e=>?_⟩)
     rw[hb]at e;exact h.pos (e ▸ hT0al x hx)
    ·by_cases hx:∃x ∈ T0,x.2=m.π b
     ·obtain⟨⟨i,i'⟩,hx,e⟩:=hx
      exact .inr (.inr ⟨hb0,by rw[hπ1 hx e.symm];exact hd _ hb (i,i') hx e⟩)
     ·exact .inr (.inl ⟨hb0,hπ0 λx hx' e=>hx ⟨x,hx',e⟩⟩)
   refine⟨DS m ρ T0,⟨h.size,h.defers,h.old,h.below,λt v hv=>?_,λi E hE=>?_,by unfold alN;omega,h.st,λi h1 h2=>absurd h2 (by rw[hK];omega),λi hi=>absurd hi.2 (by rw[hK];omega)⟩,λK hKc a4=>?pin⟩;case pin=>unfold PE at a4;cases a4
   ·obtain⟨v',hv',hd⟩:=aE t v hv
    refine⟨by rw[(h.tm t v' hv').1,hd],λi hi=>hid ?_⟩;exact List.all_eq_true.1 (List.all_eq_true.1 hst.1 _ (ET hv)) i hi
   ·have hm:=ET hE
    have hs2:=List.all_eq_true.1 hst.2 _ hm;simp only[Bool.and_eq_true]at hs2;refine⟨?_,hid hs2.1,λj hj=>hid (List.all_eq_true.1 hs2.2 j hj)⟩;obtain⟨i',hi',a0⟩:=aB i E hm;have hβ:(DS m ρ T0).β i=m.β i':=(by simp only[DS,hi',Option.getD_some]);have hε:(DS m ρ T0).ε i=m.ε i':=(by simp only[DS,hi',Option.getD_some]);have a5:=OB a7 hm;rw[hi']at a5;cases hE' : lkp s.en i' with
    |none=>rw[hE']at a0;cases E <;> simp at a0|some E'=>
     rw[hE']at a0;have a2:=(h.en _ _ hE').1;cases E with
     |dead=>trivial|box cs=>
      cases E' with|box ds=>obtain⟨b1,b2,e,b3⟩:=a2;have ht:=DT (ρ:=ρ) hm rfl hi';exact⟨by rw[hβ];exact b1,hπ1 ht (by rw[hβ];exact b2),e,by rw[hβ,a0];exact b3⟩|_=>simp at a0
     |own e ts rows=>simp only at a0;subst a0;obtain⟨bs,b1,b2,b3⟩:=a2;have ht:=DT (ρ:=ρ) hm rfl hi';exact⟨bs,by rw[hε];exact b1,b2,λb hb=>⟨(b3 b hb).1,hπ1 ht (b3 b hb).2⟩⟩|top e ts rows deps=>
      have ht:=DT (ρ:=ρ) hm rfl hi';cases E' with
      |top e' ts' rows' deps'=>
       simp only at a0;obtain⟨rfl,rfl,rfl⟩:=a0;obtain⟨rv,q1,q2,q3,q4,q5⟩:=a2;refine⟨rv,by rw[hε];exact q1,q2,q3,λk hk=>?_,λb hb=>?_⟩
       ·obtain⟨F,f1,f2⟩:=q4 k hk
        exact⟨F,f1,λb hb=>a1 deps deps' b (a5 _ _ _ _ hE') (f2 b hb)⟩
       ·rw[hε]at hb
        exact⟨(q5 b hb).1,hπ1 ht (q5 b hb).2⟩
      |own e' ts' rows'=>simp only at a0;obtain⟨rfl,rfl,rfl,rfl⟩:=a0;obtain⟨bs,b1,b2,b3⟩:=a2;simp only[Fp]at b1;obtain⟨rv,bss,q1,q2,q3,q4,q5,rfl⟩:=b1;refine⟨rv,by rw[hε];exact q1,q2,q4,by simp,λb hb=>?_⟩;rw[hε]at hb;have:=b3 b (List.mem_append.2 (.inl (by simp[hb])));exact⟨this.1,hπ1 ht this.2⟩|_=>simp at a0
     |view e ts rows deps=>simp only at a0;obtain⟨deps',aC⟩:=a0;obtain⟨F,f1,f2⟩:=a2.rd aC;refine⟨F,by rw[hε];exact f1,λb hb=>a1 deps deps' b (a5 e ts rows deps' (by rw[hE'];exact aC)) (f2 b hb)⟩|ro d deps=>simp only at a0;obtain⟨deps',rfl⟩:=a0;obtain⟨F,f1,f2⟩:=a2;exact⟨F,by rw[hε];exact f1,λb hb=>a1 deps deps' b (a5 d deps' hE') (f2 b hb)⟩|mu e ts rows j=>simp only at a0;subst a0;obtain⟨b0,b1,b2,b3⟩:=a2;have ht:=DT (ρ:=ρ) hm rfl hi';exact⟨by rw[hε];exact b0,by rw[hε];exact b1,b2,λb hb=>hπ1 ht (b3 b hb)⟩|part e ts rows k sz r c=>simp only at a0
  ·exact hc.elim
end
end Go.Proofs.YthoidhehmmcgnaaGreat
namespace Go.Proofs.YthoidhehmmcgnaaGreat
set_option linter.unusedVariables false
set_option linter.unusedSimpArgs false
open Go.RowKit
def XQ(tt:TT)(s:St):ResultVar->Option A
 | .tmp t=>
  match lkp s.tm t with|some (.one a)=>some a|_=>none
 | .cell t ty=>
  match (lkp s.tm t).bind T.c? with
  |some (.bp i off)=>
   match L3 tt s ty i off with|some (.one a)=>some a|_=>none
  |_=>none
def Hf(tt:TT)(s:St):List ResultVar->Option (List A)
 | []=>some []|r::rs=>
  match XQ tt s r,Hf tt s rs with|some a,some as=>some (a::as)|_,_=>none
def Ij(tmps:Array Value):ResultVar->Sem Value
 | .tmp t=>pure (tmps.getD t undef)| .cell a t=>do loadVar t (← asAddr (tmps.getD a undef))
section
variable {P : Program} {tt : TT} {Γ : Env} {n : Nat} {w0 : World} {al : Nat → Prop} {s : St} {m : Maps} {a : Act} {w : World}
theorem XR(hT:TTok P tt)(h:R Γ n w0 al s m a w){rv:ResultVar}{x:A}(hx:XQ tt s rv=some x) :
  (Ij a.tmps rv).run P w=.ok (x.den m) w:=by
 unfold XQ at hx;split at hx;rename_i t;split at hx;rename_i y hy;simp only[Option.some.injEq]at hx;subst hx;have:=(h.tm _ _ hy).1;simp only[Ij,this,T.den,Sem.run_pure];cases hx;rename_i t ty;split at hx;rename_i i off hb;split at hx;rename_i y hy;simp only[Option.some.injEq]at hx;subst hx;obtain⟨v,e1,e2⟩:=Option.bind_eq_some_iff.1 hb;have e3:=(h.tm _ _ e1).1;rw[T.c?_some e2]at e3;simp only[T.den,A.den,C.den]at e3;have hl:=(Im hT h hy).1;simp only[Ij,e3,asAddr,Sem.run_bind,Sem.run_pure,Result.andThen_ok];have e4:(T.one y).den m=y.den m:=rfl;rw[← e4];simpa[Instr.loadAt,Instr.sureAddr]using hl;cases hx;cases hx
theorem IC(hT:TTok P tt)(h:R Γ n w0 al s m a w):∀{rvs:List ResultVar}{as:List A},Hf tt s rvs=some as ->
  (rvs.mapM (Ij a.tmps)).run P w=.ok (as.map (A.den m)) w
 | [],as,hx=>by simp only[Hf,Option.some.injEq]at hx;subst hx;simp|rv::rvs,as,hx=>by simp only[Hf]at hx;split at hx;rename_i x xs h1 h2;simp only[Option.some.injEq]at hx;subst hx;have e1:=XR hT h h1;have e2:=IC hT h h2;simp only[List.mapM_cons,Sem.run_bind,e1,Result.andThen_ok,e2,Sem.run_pure,List.map_cons];cases hx
theorem XS(hT:TTok P tt)(h:R Γ n w0 al s m a w){rv:ResultVar}{x:A}(hx:XQ tt s rv=some x):∀i ∈ x.ids,al i:=by unfold XQ at hx;split at hx;split at hx;rename_i y hy;simp only[Option.some.injEq]at hx;subst hx;exact(h.tm _ _ hy).2;cases hx;split at hx;split at hx;rename_i y hy;simp only[Option.some.injEq]at hx;subst hx;exact(Im hT h hy).2;cases hx;cases hx
theorem OC(hT:TTok P tt)(h:R Γ n w0 al s m a w):∀{rvs:List ResultVar}{as:List A},Hf tt s rvs=some as->∀x ∈ as,∀i ∈ x.ids,al i
 | [],as,hx=>by simp only[Hf,Option.some.injEq]at hx;subst hx;simp|rv::rvs,as,hx=>by simp only[Hf]at hx;split at hx;rename_i x xs h1 h2;simp only[Option.some.injEq]at hx;subst hx;intro y hy;rcases List.mem_cons.1 hy with rfl|hy;exact XS hT h h1;exact OC hT h h2 y hy;cases hx
end
structure Inl where
 body:Code
 n:Nat
 res:List ResultVar
abbrev So:=List (Nat×Inl)
def InlOk(P:Program)(il:So):Prop:=∀f x,lkp il f=some x->∃fn,P.funcs[f]?=some fn/\fn.name ≠ "runtime.NumGoroutine" /\ fn.body=some x.body/\fn.ntmps=x.n/\fn.results.toList=x.res
theorem InlOk.nil(P:Program):InlOk P []:=λt i h=>by simp[lkp]at h
theorem InlOk.cons{P:Program}{t:Nat}{fn:Func}{x:Inl}{il:So}(h1:P.funcs[t]?=some fn)(h2:fn.name ≠ "runtime.NumGoroutine")(h3:fn.body=some x.body)(h4:fn.ntmps=x.n)(h5:fn.results.toList=x.res)(hT:InlOk P il):InlOk P ((t,x)::il):=λu j hj=>by rw[AY]at hj;split at hj;rename_i e;subst e;obtain rfl:=Option.some.inj hj;exact⟨fn,h1,h2,h3,h4,h5⟩;exact hT u j hj
inductive XE where
 |normal
 |exit (id:Nat)
 |ret
def XE.out:XE->Exit
 | .normal=>.normal| .exit id=>.exit id| .ret=>.ret
def xin(tt:TT)(ct:CTs)(n:Nat):Code->St->Nat->(XE->St->Nat->Prop)->Prop
 | .skip,s,nx,k=>k .normal s nx| .region _ ops false,s,nx,k=>Kw tt ct [] n ops.toList ops.toList s nx (k .normal)| .region _ ops true,s,nx,k=>PA tt (Kq ct) [] n ops.toList s nx (k .normal)| .seq a b,s,nx,k=>xin tt ct n a s nx λe s' nx'=>
  match e with| .normal=>xin tt ct n b s' nx' k|e=>k e s' nx'
 | .cond (.tmp t) a b,s,nx,k=>
  match J6 s t with|some v=>MU (mem s.lit t) v (xin tt ct n a (s.know t true) nx k) (xin tt ct n b (s.know t false) nx k)|none=>False
 | .block id body,s,nx,k=>xin tt ct n body s nx λe s' nx'=>
  match e with
  | .exit j=>match Nat.beq j id with|true=>k .normal s' nx' | false=>k (.exit j) s' nx'
  |e=>k e s' nx'
 | .exit id,s,nx,k=>k (.exit id) s nx| .ret,s,nx,k=>k .ret s nx|_,_,_,_=>False
def Vk:List T->Nat->List (Nat×T)
 | [],_=>[]|t::ts,p=>(p,t)::Vk ts (p+1)
def St.back(s:St)(dst:Option Tmp)(v:T)(s' : St):St:=
 {
  tm:=match dst with|some t=>(t,v)::s.tm|none=>s.tm
  en:=s'.en
  lit:=match dst with|some t=>s.lit.filter λx=>!(Nat.beq x t)|none=>s.lit}
def Q0:List A->T
 | [a]=>.one a|as=>.tup as
def XT(tt:TT)(ct:CTs)(s:St)(nx:Nat)(x:Inl)(ts:List T)(q:T->St->Nat->Prop):Prop:=
 match Nat.ble ts.length x.n with
 |false=>False|true=>xin tt ct x.n x.body {tm:=Vk ts 0,en:=s.en,lit:=[]} nx λe s' nx'=>
  match e with
  | .exit _=>False|_=>
   match Hf tt s' x.res with|none=>False|some as=>q (Q0 as) s' nx'
def OD(il:So)(s:St)(o:Oper):Option (Inl×List T):=
 match il with
 | []=>none|_=>
  match o.op with
  | .call c=>
   match c.callee with
   | .value f=>
    match cOf s f,evs s c.args.toList with
    |some c0,some ts=>
     match N5 s c0 with|some (k,ext)=>(lkp il k).map λx=>(x,ts++ext)|none=>none
    |_,_=>none
   |_=>none
  |_=>none
def Ez(il:So)(tt:TT)(ct:CTs)(hints:List Nat)(n:Nat)(all:List Oper):List Oper->St->Nat->(St->Nat->Prop)->Prop
 | [],s,nx,q=>q s nx|o::r,s,nx,q=>
  match Kv n o with
  |false=>False|true=>
   match o.guard with
   |none=>
    match OD il s o with|some (x,ts)=>XT tt ct s nx x ts λv s' nx'=>Ez il tt ct hints n all r (s.back o.dst v s') nx' q|none=>Qi tt ct hints o s nx λe=>Ez il tt ct hints n all r (s.put o e) (nx+32) q
   |some (j,want)=>
    match C7 all j with
    |none=>False|some t=>
     match J6 s t with
     |none=>
      match Lc s t with|true=>Ez il tt ct hints n all r (s.put o ⟨T.ofV undef,[]⟩) (nx+32) q|false=>False
     |some b=>
      MU (s.lit.any (Nat.beq t)) (match want with|true=>b|false=>!b)
       (
        match OD il (s.know t want) o with|some (x,ts)=>XT tt ct (s.know t want) nx x ts λv s' nx'=>Ez il tt ct hints n all r ((s.know t want).back o.dst v s') nx' q|none=>Qi tt ct hints o (s.know t want) nx λe=>Ez il tt ct hints n all r ((s.know t want).put o e) (nx+32) q)
       (Ez il tt ct hints n all r ((s.know t (!want)).put o ⟨T.ofV undef,[]⟩) (nx+32) q)
section
variable {P : Program} {tt : TT} {ct : CTs} {Γ : Env} {n : Nat} {w0 : World}
theorem Eg(hm:P.follows .mixedOrders=true)(hT:TTok P tt)(a0:CTok P ct Γ.mono):∀(c:Code){s:St}{nx:Nat}{k:XE->St->Nat->Prop}{m:Maps}{a:Act}{w:World}{Q:Exit->Act->World->Prop},
  xin tt ct n c s nx k->0<nx->R Γ n w0 (alN nx) s m a w->(∀e s' nx' m' a' w',0<nx'->k e s' nx'->R Γ n w0 (alN nx') s' m' a' w'->Q e.out a' w')->c.wp P Q a w
 | .skip,s,nx,k,m,a,w,Q,hx,h0,h,hq=>wp_skip (hq .normal _ _ _ _ _ h0 hx h)| .region id ops false,s,nx,k,m,a,w,Q,hx,h0,h,hq=>
  wp_region_list (FO hT a0 rfl _ hx h0 h λs' nx' m' a' w' h1 h2 h3=>hq .normal _ _ _ _ _ h1 h2 h3)
 | .region id ops true,s,nx,k,m,a,w,Q,hx,h0,h,hq=>
  JI hm hT a0.det (λf c h=>(Dw h).2) hx h0 h λs' nx' m' a' w' h1 h2 h3=>hq .normal _ _ _ _ _ h1 h2 h3
 | .seq x y,s,nx,k,m,a,w,Q,hx,h0,h,hq=>by
  refine wp_seq (Eg hm hT a0 x hx h0 h λe s' nx' m' a' w' h1 h2 h3=>?_);cases e with|normal=>exact Eg hm hT a0 y h2 h1 h3 hq|exit id=>exact hq (.exit id) _ _ _ _ _ h1 h2 h3|ret=>exact hq .ret _ _ _ _ _ h1 h2 h3
 | .cond (.tmp t) x y,s,nx,k,m,a,w,Q,hx,h0,h,hq=>by simp only[xin]at hx;split at hx;rename_i v hv;have hb:=IA h hv;obtain⟨g1,g2⟩:=Ex hx;refine wp_cond_split (t:=v) hb (λe=>?_) (λe=>?_);exact Eg hm hT a0 x (g1 e) h0 (h.know (by rw[hb,e])) hq;exact Eg hm hT a0 y (g2 e) h0 (h.know (by rw[hb,e])) hq;exact hx.elim| .block id c,s,nx,k,m,a,w,Q,hx,h0,h,hq=>by
  refine wp_block (Eg hm hT a0 c hx h0 h λe s' nx' m' a' w' h1 h2 h3=>?_);cases e with|normal=>exact hq .normal _ _ _ _ _ h1 h2 h3|ret=>exact hq .ret _ _ _ _ _ h1 h2 h3|exit j=>simp only at h2;simp only[XE.out,Exit.inBlock];split at h2;rename_i e;rw[if_pos (Nat.eq_of_beq_eq_true e)];exact hq .normal _ _ _ _ _ h1 h2 h3;rename_i e;rw[if_neg (λe'=>by subst e';simp at e)];exact hq (.exit j) _ _ _ _ _ h1 h2 h3
 | .loop c,s,nx,k,m,a,w,Q,hx,h0,h,hq=>hx.elim| .exit id,s,nx,k,m,a,w,Q,hx,h0,h,hq=>wp_exit (hq (.exit id) _ _ _ _ _ h0 hx h)| .ret,s,nx,k,m,a,w,Q,hx,h0,h,hq=>wp_ret (hq .ret _ _ _ _ _ h0 hx h)| .cond (.const _) _ _,_,_,_,_,_,_,_,hx,_,_,_=>hx.elim| .cond (.global _) _ _,_,_,_,_,_,_,_,hx,_,_,_=>hx.elim| .cond (.func _) _ _,_,_,_,_,_,_,_,hx,_,_,_=>hx.elim| .rangeFunc _ _ _ _,_,_,_,_,_,_,_,hx,_,_,_=>hx.elim| .scope _,_,_,_,_,_,_,_,hx,_,_,_=>hx.elim| .label _,_,_,_,_,_,_,_,hx,_,_,_=>hx.elim| .goto _,_,_,_,_,_,_,_,hx,_,_,_=>hx.elim| .refuse _,_,_,_,_,_,_,_,hx,_,_,_=>hx.elim
theorem XU{as:List A}{p:Nat->Prop}(h:∀x ∈ as,∀i ∈ x.ids,p i):∀i ∈ (Q0 as).ids,p i:=by
 match as,h with| [],h=>simp[Q0,T.ids]| [y],h=>exact λi hi=>h y (by simp) i hi|_::_::_,h=>intro i hi;simp only[Q0,T.ids,List.mem_flatMap]at hi;obtain⟨x,hx,hi⟩:=hi;exact h x hx i hi
theorem Q1:∀(ts:List T)(p t:Nat)(v:T),lkp (Vk ts p) t=some v->p<=t/\ts[t-p]?=some v
 | [],p,t,v,h=>by simp[Vk,lkp]at h|x::ts,p,t,v,h=>by simp only[Vk,AY]at h;split at h;rename_i e;subst e;exact⟨Nat.le_refl _,by simpa using h⟩;obtain⟨h1,h2⟩:=Q1 ts (p+1) t v h;exact⟨by omega,by rw[show t-p=(t-(p+1))+1 by omega];simpa using h2⟩
theorem XV{al:Nat->Prop}{s:St}{m:Maps}{a:Act}{w:World}(h:R Γ n w0 al s m a w){l:List Operand}{ts:List T}(hx:All2 (λx t=>ev s x=some t) l ts):l.map a.eval=ts.map (T.den m)/\∀t ∈ ts,∀i ∈ t.ids,al i:=by
 induction hx with|nil=>exact⟨rfl,by simp⟩|cons h1 _ ih=>have e:=h.ev h1;exact⟨by simp[ih.1,e.1],λt ht i hi=>by rcases List.mem_cons.1 ht with rfl|ht;exact e.2 i hi;exact ih.2 t ht i hi⟩
theorem XW{al:Nat->Prop}{s:St}{m:Maps}{a:Act}{w:World}(h:R Γ n w0 al s m a w){c:C}(hc:∀i ∈ c.ids,al i){g:Nat}{ext:List T}(hx:N5 s c=some (g,ext)):∀t ∈ ext,∀i ∈ t.ids,al i:=by unfold N5 at hx;split at hx;rename_i f caps;simp only[Option.some.injEq,Prod.mk.injEq]at hx;obtain⟨rfl,rfl⟩:=hx;intro t ht i hi;obtain⟨j,hj,rfl⟩:=List.mem_map.1 ht;exact hc i (by simp only[T.ids,A.ids,C.ids,List.mem_singleton]at hi;subst hi;exact hj);rename_i f caps;simp only[Option.some.injEq,Prod.mk.injEq]at hx;obtain⟨rfl,rfl⟩:=hx;intro t ht i hi;obtain⟨j,hj,rfl⟩:=List.mem_map.1 ht;refine hc i (List.mem_map.2 ⟨j,hj,?_⟩);simp only[T.ids,A.ids]at hi;split at hi <;> exact(List.mem_singleton.1 hi).symm;rename_i k;split at hx;simp only[Option.some.injEq,Prod.mk.injEq]at hx;obtain⟨rfl,rfl⟩:=hx;intro t ht i hi;obtain⟨j,hj,rfl⟩:=List.mem_map.1 ht;exact hc i (by simp only[T.ids,A.ids,C.ids,List.mem_singleton]at hi;subst hi;simp[C.ids]);cases hx;cases hx
theorem EnAt.env{Γ:Env}{K:Nat}{m0 m:Maps}{w:World}{i:Nat}{E:En} : EnAt {Γ with K:=K,m0:=m0} m w i E<->EnAt Γ m w i E:=by cases E <;> exact Iff.rfl
theorem Sp(hm:P.follows .mixedOrders=true)(hT:TTok P tt)(aC:CTok P ct Γ.mono){il:So}(hil:InlOk P il){s:St}{nx:Nat}{m:Maps}{a:Act}{w:World}{o:Oper}{x:Inl}{ts:List T}{q:T->St->Nat->Prop}{K:Act->World->Prop}{Q:Exit->Act->World->Prop}
  (hi:OD il s o=some (x,ts)) (hx:XT tt ct s nx x ts q) (h0:0<nx) (h:R Γ n w0 (alN nx) s m a w) (hd:Kv n o=true)
  (hK:∀v s' nx' m' a' w',0<nx'->q v s' nx'->R Γ n w0 (alN nx') (s.back o.dst v s') m' a' w'->K a' w'):o.wp P a w K Q:=by
 have hne:il≠[]:=λe=>by rw[e]at hi;simp[OD]at hi
 unfold OD at hi;split at hi;·cases hi
 split at hi;case h_2=>cases hi
 rename_i c ho;split at hi;case h_2=>cases hi
 rename_i f a6;split at hi;case h_2=>cases hi
 rename_i c0 ts0 hc0 aD;split at hi;case h_2=>cases hi
 rename_i k ext a2;obtain⟨x',hl,e⟩:=Option.map_eq_some_iff.1 hi;simp only[Prod.mk.injEq]at e;obtain⟨rfl,rfl⟩:=e;obtain⟨fn,f1,f2,f3,f4,f5⟩:=hil _ _ hl;have aA:=h.cc hc0;have aE:a.eval f=.func (.func k) #[] (ext.map (T.den m)).toArray:=aA.1.trans (Qg h a2);obtain⟨g1,g2⟩:=XV h (SX aD);have g3:=XW h aA.2 a2;unfold XT at hx;split at hx;·exact hx.elim
 rename_i a1;have a1:=Nat.le_of_ble_eq_true a1
 have a3:(execOp a.eval o).run P w=.ok (.enter k ((ts0++ext).map (T.den m)).toArray) w:=by
  have a7:c.args.map a.eval++(ext.map (T.den m)).toArray=((ts0++ext).map (T.den m)).toArray:=by apply Array.ext';rw[Array.toList_append,Array.toList_map,g1,List.map_append]
  simp only[execOp,ho,resolve,a6,aE,Deferred.ofValue,Sem.run_bind,Sem.run_pure,Result.andThen_ok,invoke,callFunc,program,Sem.run,f1,a7,Array.empty_append];simp[f2,f3]
 unfold Oper.wp;rw[a3];simp only[Oper.upon];refine Calls.mono (P:=P) (R:=λe w'=>∃v s' nx' m',e=.returned (v.den m')/\0<nx'/\q v s' nx'/\R Γ n w0 (alN nx') (s.back o.dst v s') m' (a.put o.dst (v.den m')) w') (calls_of_wp f1 f3 ?_) ?_
 ·rw[f4]
  have hR:R {Γ with K:=nx,m0:=m} x'.n w0 (alN nx) {tm:=Vk (ts0++ext) 0,en:=s.en,lit:=[]} m {tmps:=((ts0++ext).map (T.den m)).toArray++Array.replicate (x'.n-((ts0++ext).map (T.den m)).toArray.size) undef,defers:=[]} w:=by
   refine⟨by simp at a1 ⊢;omega,rfl,h.old,⟨h.below.drawn,h.below.os,h.below.tape,h.below.output,h.below.size,h.below.block⟩,λt v hv=>?_,λi E hE=>?_,h.pos,h.st,λi h1 h2=>⟨h1,h2⟩,λ_ _=>⟨rfl,rfl⟩⟩
   ·obtain⟨-,hg⟩:=Q1 _ _ _ _ hv
    simp only[Nat.sub_zero]at hg;have aF:=(List.getElem?_eq_some_iff.1 hg).1;refine⟨?_,λi hi=>?_⟩
    ·rw[Array.getD_eq_getD_getElem?,Array.getElem?_append_left (by simpa using aF),List.getElem?_toArray,List.getElem?_map,hg]
     rfl
    ·rcases List.mem_append.1 (List.mem_of_getElem? hg)with hm|hm
     ·exact g2 v hm i hi
     ·exact g3 v hm i hi
   ·obtain⟨e1,e2,e3⟩:=h.en i E hE
    exact⟨EnAt.env.2 e1,e2,e3⟩
  refine Eg (Γ:={Γ with K:=nx,m0:=m}) hm hT aC x'.body hx h0 hR λe s' nx' m' a' w' h1 h2 h3=>?_
  have fin:(match Hf tt s' x'.res with|none=>False|some as=>q (Q0 as) s' nx')->a'.defers=[]/\∃v,(results fn a'.tmps).run P w'=.ok v w'/\∃v' s' nx' m',Ending.returned v=.returned (v'.den m')/\0<nx'/\q v' s' nx'/\R Γ n w0 (alN nx') (s.back o.dst v' s') m' (a.put o.dst (v'.den m')) w':=by
   intro hq;refine⟨h3.defers,?_⟩;split at hq;·exact hq.elim
   ·rename_i as has
    have e1:=IC hT h3 has;have e2:results fn a'.tmps=(do let vs ← fn.results.mapM (Ij a'.tmps);pure (if h:vs.size=1 then vs[0]else .tuple vs)):=(by unfold results;congr 1);have e3:(fn.results.mapM (Ij a'.tmps)).run P w'=.ok (as.map (A.den m')).toArray w':=(by rw[Array.mapM_eq_mapM_toList,Sem.run_map,f5];rw[e1];rfl)
    have a8:(results fn a'.tmps).run P w'=.ok ((Q0 as).den m') w':=by
     rw[e2];simp only[Sem.run_bind,e3,Result.andThen_ok,Sem.run_pure];congr 1;match as with| []=>rfl| [y]=>rfl|_::_::_=>rfl
    have a0:Maps.same (alN nx) m m':=h3.gh.2;have aB:∀i,alN nx i->alN nx' i:=λi hi=>h3.gh.1 i hi.1 hi.2;have a9:∀i ∈ (Q0 as).ids,alN nx' i:=XU (OC hT h3 has);refine⟨_,a8,Q0 as,s',nx',m',rfl,h1,hq,⟨?_,?_,h3.old,⟨h3.below.drawn,h3.below.os,h3.below.tape,h3.below.output,h3.below.size,h3.below.block⟩,λt v hv=>?_,λi E hE=>?_,h3.pos,h3.st,λi i1 i2=>aB i (h.gh.1 i i1 i2),λi hi=>?_⟩⟩;·cases o.dst <;> simp[Act.put,h.size]
    ·cases o.dst <;> simp[Act.put,h.defers]
    ·rw[Act.getD_put]
     have a4:∀v,lkp s.tm t=some v->a.tmps.getD t undef=v.den m'/\∀i ∈ v.ids,alN nx' i:=λv hv=>by obtain⟨k1,k2⟩:=h.tm t v hv;exact⟨by rw[k1,T.den_same a0 k2],λi hi=>aB i (k2 i hi)⟩
     simp only[St.back]at hv;cases hdst:o.dst with
     |none=>rw[hdst]at hv;simpa using a4 v hv|some d=>
      rw[hdst]at hv;simp only[AY]at hv;by_cases a5:d=t
      ·rw[if_pos a5]at hv
       obtain rfl:=Option.some.inj hv;rw[if_pos ⟨by rw[a5],by rw[h.size,← a5];exact MV hd d hdst⟩];exact⟨rfl,a9⟩
      ·rw[if_neg a5]at hv
       rw[if_neg (λy=>a5 (Option.some.inj y.1))];exact a4 v hv
    ·obtain⟨k1,k2,k3⟩:=h3.en i E hE
     exact⟨EnAt.env.1 k1,k2,k3⟩
    ·have k1:=h.gh.2 i hi
     have k2:=a0 i (h.gh.1 i hi.1 hi.2);exact⟨k2.1.trans k1.1,k2.2.trans k1.2⟩
  cases e with|normal=>exact fin h2|ret=>exact fin h2|exit id=>exact h2.elim
 ·rintro e w' ⟨v,s',nx',m',rfl,k1,k2,k3⟩
  exact hK v s' nx' m' _ w' k1 k2 k3
theorem Df(hm:P.follows .mixedOrders=true)(hT:TTok P tt)(a1:CTok P ct Γ.mono){il:So}(hil:InlOk P il){hints:List Nat}{ops:Array Oper}{all:List Oper}(a0:all=ops.toList){Q:Exit->Act->World->Prop} :
 ∀(l:List Oper){s:St}{nx:Nat}{m:Maps}{a:Act}{w:World}{q:St->Nat->Prop},Ez il tt ct hints n all l s nx q->0<nx->R Γ n w0 (alN nx) s m a w ->
  (∀s' nx' m' a' w',0<nx'->q s' nx'->R Γ n w0 (alN nx') s' m' a' w'->Q .normal a' w')->wpList P ops Q l a w
 | [],s,nx,m,a,w,q,hx,h0,h,hq=>wpList_nil (hq _ _ _ _ _ h0 hx h)|o::r,s,nx,m,a,w,q,hx,h0,h,hq=>by
  refine wpList_step λK hK=>?_;simp only[Ez]at hx;split at hx;exact hx.elim;rename_i hd
  have run:∀s2:St,R Γ n w0 (alN nx) s2 m a w->(match OD il s2 o with|some (x,ts)=>XT tt ct s2 nx x ts λv s' nx'=>Ez il tt ct hints n all r (s2.back o.dst v s') nx' q|none=>Qi tt ct hints o s2 nx λe=>Ez il tt ct hints n all r (s2.put o e) (nx+32) q)->o.wp P a w K Q:=by
   intro s2 h2 hx2;split at hx2;rename_i x ts a6;refine Sp hm hT a1 hil a6 hx2 h0 h2 hd λv s' nx' m' a' w' k1 k2 k3=>?_;exact hK _ _ (Df hm hT a1 hil a0 r k2 k1 k3 hq);have hs:=UF (o:=o) (fr:=λi=>nx<=i/\i<nx+32) hT a1 h2 hints (λi hi=>by unfold alN at hi;omega) (λi h1 h2=>⟨h1,h2⟩) _ hx2 Q;refine Oper.wp_mono ?_ hs;rintro a' w' ⟨e,m',he,a3⟩;exact hK _ _ (Df hm hT a1 hil a0 r he (by omega) (h2.put h0 a3 hd) hq)
  split at hx;rename_i hg;rw[if_pos (by simp[Region.wanted,hg])];exact run s h hx;rename_i j want hg;split at hx;exact hx.elim;rename_i t ht;split at hx;split at hx;rename_i hu;obtain⟨x,hu⟩:=MW h hu;rw[Iq a0 hg ht hu];simp only[Bool.false_eq_true,if_false];exact hK _ _ (Df hm hT a1 hil a0 r hx (by omega) (h.put h0 (Stp.skip h) hd) hq);exact hx.elim;rename_i b hb;have a4:=IA h hb;rw[J7 a0 hg ht a4];obtain⟨g1,g2⟩:=Ex hx;by_cases a5:b=want;subst a5;have hk:=g1 (by cases b <;> rfl);simp only[beq_self_eq_true,if_true];exact run _ (h.know a4) hk;have a2 : b=!want:=by cases b <;> cases want <;> simp at a5 ⊢
  have hk:=g2 (by subst a2;cases want <;> rfl);have a7:(b == want)=false:=by simpa using a5
  rw[a7];simp only[Bool.false_eq_true,if_false];have h2:=h.know (b:=!want) (by rw[a4,a2]);exact hK _ _ (Df hm hT a1 hil a0 r hk (by omega) (h2.put h0 (Stp.skip h2) hd) hq)
end
inductive Inv:Type 1 where
 |mk (nx:Nat) (ι:Type) (st:ι->St) (ok:ι->Prop) (μ:ι->Nat) (inner:ι->List (Nat×Inv)):Inv
def OE:Code->Nat
 | .region id _ _=>id| .seq a _=>OE a| .block _ b=>OE b| .loop b=>OE b| .cond _ a _=>OE a|_=>1000000
structure Ctx where
 tt:TT
 ct:CTs
 hints:List Nat
 n:Nat
 il:So
def Fy(X:Ctx):Code->List (Nat×Inv)->St->Nat->(XE->St->Nat->Prop)->Prop
 | .skip,_,s,nx,k=>k .normal s nx| .region _ ops false,_,s,nx,k=>Ez X.il X.tt X.ct X.hints X.n ops.toList ops.toList s nx (k .normal)| .region _ ops true,_,s,nx,k=>PA X.tt (Kq X.ct) X.hints X.n ops.toList s nx (k .normal)| .seq a b,iv,s,nx,k=>Fy X a iv s nx λe s' nx'=>
  match e with
  | .normal=>
   match lkp iv (100000+OE b)with|none=>Fy X b iv s' nx' k|some (.mk nx2 ι st ok _ inner)=>(∃i:ι,ok i/\JK (Qw X.hints) nx2 s' (st i))/\∀i:ι,ok i->Fy X b (inner i) (st i) nx2 k
  |e=>k e s' nx'
 | .cond (.tmp t) a b,iv,s,nx,k=>
  match J6 s t with|some v=>MU (mem s.lit t) v (Fy X a iv (s.know t true) nx k) (Fy X b iv (s.know t false) nx k)|none=>False
 | .block id body,iv,s,nx,k=>Fy X body iv s nx λe s' nx'=>
  match e with
  | .exit j=>match Nat.beq j id with|true=>k .normal s' nx' | false=>k (.exit j) s' nx'
  |e=>k e s' nx'
 | .loop body,iv,s,_,k=>
  match lkp iv (OE body)with
  |some (.mk nx2 ι st ok μ inner)=>(∃i:ι,ok i/\JK (Qw X.hints) nx2 s (st i))/\∀i:ι,ok i->Fy X body (inner i) (st i) nx2 λe s' nx'=>
   match e with| .normal=>∃j:ι,ok j/\μ j<μ i/\JK (Qw X.hints) nx2 s' (st j)|e=>k e s' nx'
  |none=>False
 | .exit id,_,s,nx,k=>k (.exit id) s nx| .ret,_,s,nx,k=>k .ret s nx|_,_,_,_,_=>False
section
variable {P : Program} {X : Ctx} {Γ : Env} {w0 : World}
theorem R.cover{al:Nat->Prop}{n nx pk:Nat}{s τ:St}{m:Maps}{a:Act}{w:World}(hK:Γ.K=0\/Γ.K=pk)(a1:pk=0\/pk=2\/pk=3)(h:R Γ n w0 al s m a w)(hc:JK pk nx s τ):0<nx/\∃m',R Γ n w0 (alN nx) τ m' a w:=by
 have hc' : Mb nx s τ/\(pk≠0->PE pk nx s τ=true):=by rcases a1 with rfl|a1;exact⟨hc,λe=>absurd rfl e⟩;obtain⟨k,rfl⟩:∃k,pk=k+1:=⟨pk-1,by omega⟩;simp only[JK]at hc;split at hc;rename_i hq;exact⟨hc,λ_=>hq⟩;exact hc.elim
 have hK0:Γ.K=0\/(Γ.K=pk/\pk≠0):=by omega
 rcases hK0 with hK|⟨hK,a0⟩;obtain⟨h1,m',h2,-⟩:=h.cover0 hK hc'.1;exact⟨h1,m',h2⟩;have h0:R {Γ with K:=0} n w0 al s m a w:=⟨h.size,h.defers,h.old,⟨h.below.drawn,h.below.os,h.below.tape,h.below.output,h.below.size,h.below.block⟩,h.tm,λi E hE=>by obtain⟨e1,e2,e3⟩:=h.en i E hE;exact⟨EnAt.env.2 e1,e2,e3⟩,h.pos,h.st,λi h1 h2=>absurd h2 (Nat.not_lt_zero i),λi hi=>absurd hi.2 (Nat.not_lt_zero i)⟩;obtain⟨h1,m',h2,h3⟩:=h0.cover0 rfl hc'.1;obtain⟨q1,q2⟩:=h3 pk (by omega) (hc'.2 a0);refine⟨h1,m',⟨h2.size,h2.defers,h2.old,⟨h2.below.drawn,h2.below.os,h2.below.tape,h2.below.output,h2.below.size,h2.below.block⟩,h2.tm,λi E hE=>by obtain⟨e1,e2,e3⟩:=h2.en i E hE;exact⟨EnAt.env.1 e1,e2,e3⟩,h2.pos,h2.st,λi i1 i2=>?_,λi hi=>?_⟩⟩;rw[hK]at i2;unfold alN;omega;have hi':=hi.2;rw[hK]at hi';have:=h.gh.2 i hi;have q:=q2 i hi.1 hi';exact⟨q.1.trans this.1,q.2.trans this.2⟩
theorem CK(hm:P.follows .mixedOrders=true)(hT:TTok P X.tt)(a0:CTok P X.ct Γ.mono)(hil:InlOk P X.il)(hK:Γ.K=0\/Γ.K=Qw X.hints):∀(c:Code){iv:List (Nat×Inv)}{s:St}{nx:Nat}{k:XE->St->Nat->Prop}{al:Nat->Prop}{m:Maps}{a:Act}{w:World}{Q:Exit->Act->World->Prop},
  Fy X c iv s nx k->0<nx->R Γ X.n w0 (alN nx) s m a w->(∀e s' nx' m' a' w',0<nx'->k e s' nx'->R Γ X.n w0 (alN nx') s' m' a' w'->Q e.out a' w')->c.wp P Q a w
 | .skip,iv,s,nx,k,al,m,a,w,Q,hx,h0,h,hq=>wp_skip (hq .normal _ _ _ _ _ h0 hx h)| .region id ops false,iv,s,nx,k,al,m,a,w,Q,hx,h0,h,hq=>
  wp_region_list (Df hm hT a0 hil rfl _ hx h0 h λs' nx' m' a' w' h1 h2 h3=>hq .normal _ _ _ _ _ h1 h2 h3)
 | .region id ops true,iv,s,nx,k,al,m,a,w,Q,hx,h0,h,hq=>
  JI hm hT a0.det (λf c h=>(Dw h).2) hx h0 h λs' nx' m' a' w' h1 h2 h3=>hq .normal _ _ _ _ _ h1 h2 h3
 | .seq x y,iv,s,nx,k,al,m,a,w,Q,hx,h0,h,hq=>by
  refine wp_seq (CK hm hT a0 hil hK x (al:=al) hx h0 h λe s' nx' m' a' w' h1 h2 h3=>?_);cases e with|normal=>simp only at h2;show y.wp P Q a' w';split at h2;exact CK hm hT a0 hil hK y (al:=al) h2 h1 h3 hq;rename_i nx2 ι st ok μ inner hl;obtain⟨⟨i,hi,hc⟩,h2⟩:=h2;obtain⟨h5,m2,h4⟩:=h3.cover hK (Iu _) hc;exact CK hm hT a0 hil hK y (al:=al) (h2 i hi) h5 h4 hq|exit id=>exact hq (.exit id) _ _ _ _ _ h1 h2 h3|ret=>exact hq .ret _ _ _ _ _ h1 h2 h3
 | .cond (.tmp t) x y,iv,s,nx,k,al,m,a,w,Q,hx,h0,h,hq=>by simp only[Fy]at hx;split at hx;rename_i v hv;have hb:=IA h hv;obtain⟨g1,g2⟩:=Ex hx;refine wp_cond_split (t:=v) hb (λe=>?_) (λe=>?_);exact CK hm hT a0 hil hK x (al:=al) (g1 e) h0 (h.know (by rw[hb,e])) hq;exact CK hm hT a0 hil hK y (al:=al) (g2 e) h0 (h.know (by rw[hb,e])) hq;exact hx.elim| .block id c,iv,s,nx,k,al,m,a,w,Q,hx,h0,h,hq=>by
  refine wp_block (CK hm hT a0 hil hK c (al:=al) hx h0 h λe s' nx' m' a' w' h1 h2 h3=>?_);cases e with|normal=>exact hq .normal _ _ _ _ _ h1 h2 h3|ret=>exact hq .ret _ _ _ _ _ h1 h2 h3|exit j=>simp only at h2;simp only[XE.out,Exit.inBlock];split at h2;rename_i e;rw[if_pos (Nat.eq_of_beq_eq_true e)];exact hq .normal _ _ _ _ _ h1 h2 h3;rename_i e;rw[if_neg (λe'=>by subst e';simp at e)];exact hq (.exit j) _ _ _ _ _ h1 h2 h3
 | .loop c,iv,s,nx,k,al,m,a,w,Q,hx,h0,h,hq=>by
  simp only[Fy]at hx;split at hx;rename_i nx2 ι st ok μ inner hl;obtain⟨⟨i,hi,hc⟩,a1⟩:=hx;obtain⟨h5,m2,h4⟩:=h.cover hK (Iu _) hc;refine wp_loop_ghost (λN a w=>∃i m,ok i/\μ i=N/\R Γ X.n w0 (alN nx2) (st i) m a w) (μ i) ⟨i,m2,hi,rfl,h4⟩ ?_;rintro N a w ⟨i,m,hi,rfl,h⟩;refine CK hm hT a0 hil hK c (al:=al) (a1 i hi) h5 h λe s' nx' m' a' w' h1 h2 h3=>?_;cases e with|normal=>obtain⟨j,hj,a2,hc⟩:=h2;obtain⟨-,m2,h4⟩:=h3.cover hK (Iu _) hc;exact⟨μ j,a2,j,m2,hj,rfl,h4⟩|exit id=>exact hq (.exit id) _ _ _ _ _ h1 h2 h3|ret=>exact hq .ret _ _ _ _ _ h1 h2 h3
  exact hx.elim
 | .exit id,iv,s,nx,k,al,m,a,w,Q,hx,h0,h,hq=>wp_exit (hq (.exit id) _ _ _ _ _ h0 hx h)| .ret,iv,s,nx,k,al,m,a,w,Q,hx,h0,h,hq=>wp_ret (hq .ret _ _ _ _ _ h0 hx h)| .cond (.const _) _ _,_,_,_,_,_,_,_,_,_,hx,_,_,_=>hx.elim| .cond (.global _) _ _,_,_,_,_,_,_,_,_,_,hx,_,_,_=>hx.elim| .cond (.func _) _ _,_,_,_,_,_,_,_,_,_,hx,_,_,_=>hx.elim| .rangeFunc _ _ _ _,_,_,_,_,_,_,_,_,_,hx,_,_,_=>hx.elim| .scope _,_,_,_,_,_,_,_,_,_,hx,_,_,_=>hx.elim| .label _,_,_,_,_,_,_,_,_,_,hx,_,_,_=>hx.elim| .goto _,_,_,_,_,_,_,_,_,_,hx,_,_,_=>hx.elim| .refuse _,_,_,_,_,_,_,_,_,_,hx,_,_,_=>hx.elim
end
end Go.Proofs.YthoidhehmmcgnaaGreat
namespace Go.Proofs.YthoidhehmmcgnaaGreat
set_option linter.unusedVariables false
set_option linter.unusedSimpArgs false
open Go.RowKit
def Q2(id:Nat):DC->C
 | .im v=>.im v| .sl _ _ _=>.ext id| .ro _=>.ext id
def JM:List DC->Nat->List C
 | [],_=>[]|d::ds,id=>Q2 id d::JM ds (id+1)
def Hg:List Nat->Nat->Option Nat
 | [],_=>none|x::r,p=>if Nat.beq x p=true then some 0 else(Hg r p).map (· + 1)
theorem Md:∀{l:List Nat}{p j:Nat},Hg l p=some j->l[j]?=some p
 | [],_,_,h=>by simp[Hg]at h|x::r,p,j,h=>by simp only[Hg]at h;split at h;rename_i e;obtain rfl:=Option.some.inj h;simp[Nat.eq_of_beq_eq_true e];obtain⟨k,h1,rfl⟩:=Option.map_eq_some_iff.1 h;simpa using Md h1
theorem Me:∀{l:List Nat}{p:Nat},Hg l p=none->p ∉ l
 | [],_,_=>by simp|x::r,p,h=>by simp only[Hg]at h;split at h;cases h;rename_i e;intro hm;rcases List.mem_cons.1 hm with rfl|hm;simp at e;exact Me (by simpa using h) hm
def JN(mu:List Nat):List DC->Nat->List (Nat×En)
 | [],_=>[]| .im _::ds,id=>JN mu ds (id+1)| .sl e ts rows::ds,id=>(id,match Hg mu (id-1)with|some j=>.mu e ts rows j|none=>.view e ts rows [])::JN mu ds (id+1)| .ro d::ds,id=>(id,.ro d [])::JN mu ds (id+1)
def Mf:List DA->Nat->Nat->List (Nat×T)
 | [],_,_=>[]| .one d::r,p,id=>(p,.one (.one (Q2 id d)))::Mf r (p+1) (id+1)| .agg ds::r,p,id=>(p,.one (.agg (JM ds id)))::Mf r (p+1) (id+ds.length)
def UK(mu:List Nat)(as:List DA):St:={tm:=Mf as 0 1,en:=JN mu (as.flatMap DA.cells) 1,lit:=[]}
def A.cells:A->List C
 | .one c=>[c]| .agg cs=>cs
def A.sh:A->Option Nat
 | .one _=>none| .agg cs=>some cs.length
def Mg:List (Option Nat)->List (Option Nat)->Bool
 | [],[]=>true|none::r,none::s=>Mg r s|some a::r,some b::s=>Nat.beq a b && Mg r s|_,_=>false
def Av:List RC->List C->List Nat
 | .own _ _ _::r,.ext k::cs=>k::Av r cs| .top _ _ _::r,.ext k::cs=>k::Av r cs|_::r,_::cs=>Av r cs|_,_=>[]
def Y6(s:St)(owns:List Nat)(rc:RC)(c:C):Option Prop:=
 match rc,c with
 | .im v,.im u=>some (u=v)| .own e ts rows,.ext k=>
  match lkp s.en k with|some (.own e' ts' rows')=>if(Nat.beq e e' && Ty.beqs ts ts')=true then some (rows'=rows)else none|_=>none
 | .own _ _ rows,.im (.slice none 0 0)=>some ([]=rows)| .view e ts rows,.ext k=>
  match EI s k with|some (e',ts',rows',deps)=>if(Nat.beq e e' && Ty.beqs ts ts' && AAh deps owns)=true then some (rows'=rows)else none|none=>none
 | .view _ _ rows,.im (.slice none 0 0)=>some ([]=rows)| .top e ts rows,.ext k=>
  match lkp s.en k with|some (.top e' ts' rows' deps)=>if(Nat.beq e e' && Ty.beqs ts ts' && AAh deps owns)=true then some (rows'=rows)else none|_=>none
 | .top _ _ rows,.im (.slice none 0 0)=>some ([]=rows)|_,_=>none
def K9(s:St)(owns:List Nat):List RC->List C->Option (List Prop)
 | [],[]=>some []|r::rs,c::cs=>
  match Y6 s owns r c,K9 s owns rs cs with|some p,some ps=>some (p::ps)|_,_=>none
 |_,_=>none
def AAD(tt:TT)(rvs:List ResultVar)(s:St)(r:RT):Prop:=
 match Hf tt s rvs with
 |none=>False|some as=>
  match Mg (as.map A.sh) r.sh && GO (Av r.cells (as.flatMap A.cells)) && (match r.tup with|true=>!(Nat.beq as.length 1)|false=>Nat.beq as.length 1)with
  |false=>False|true=>
   match K9 s (Av r.cells (as.flatMap A.cells)) r.cells (as.flatMap A.cells)with|none=>False|some ps=>XP ps
def XX:List (Nat×En)->Nat->Option Nat
 | [],_=>none|(i,.mu _ _ _ j')::r,j=>if Nat.beq j j'=true then some i else XX r j
 |_::r,j=>XX r j
def PG(s:St)(dcs:List DC)(new:List (List (List Dat))):List Nat->Nat->Option (List Prop)
 | [],_=>some []|p::r,j=>
  match dcs[p]? with
  |some (.sl e ts _)=>
   match XX s.en j with
   |some i=>
    match lkp s.en i with
    |some (.mu e' ts' rows j')=>
     if(Nat.beq j j' && Nat.beq e e' && Ty.beqs ts ts')=true then(PG s dcs new r (j+1)).map ((rows=new.getD j [])::·)else none
    |_=>none
   |none=>none
  |_=>none
def XZ(tt:TT)(rvs:List ResultVar)(s:St)(dcs:List DC)(mu:List Nat)(new:List (List (List Dat)))(r:RT):Prop:=
 match Hf tt s rvs,r with
 |some [.one (.im v)],⟨false,[none],[.im u]⟩=>
  match PG s dcs new mu 0 with|some ps=>XP ((v=u)::ps)|none=>False
 |_,_=>False
def KD(tt:TT)(rvs:List ResultVar)(s:St)(dcs:List DC)(mu:List Nat)(new:List (List (List Dat)))(r:RT):Prop:=
 match mu with| []=>AAD tt rvs s r|p::l=>XZ tt rvs s dcs (p::l) new r
section
variable {P : Program} {tt : TT} {Γ : Env} {n : Nat} {w0 : World} {al : Nat → Prop} {s : St} {m : Maps} {a : Act} {w : World}
theorem PH:∀{a b:List (Option Nat)},Mg a b=true->a=b
 | [],[],_=>rfl|none::r,none::s,h=>by rw[PH (a:=r) (b:=s) h]|some a::r,some b::s,h=>by simp only[Mg,Bool.and_eq_true,Nat.beq_eq]at h;rw[h.1,PH h.2]| [],none::_,h=>by simp[Mg]at h| [],some _::_,h=>by simp[Mg]at h|none::_,[],h=>by simp[Mg]at h|some _::_,[],h=>by simp[Mg]at h|none::_,some _::_,h=>by simp[Mg]at h|some _::_,none::_,h=>by simp[Mg]at h
theorem PI(m:Maps):∀(as:List A),MJ (as.map A.sh) ((as.flatMap A.cells).map (C.den m))=as.map (A.den m)
 | []=>rfl| .one c::r=>by simp[A.sh,A.cells,MJ,A.den,PI m r]| .agg cs::r=>by simp only[List.map_cons,A.sh,MJ,List.flatMap_cons,A.cells,List.map_append,A.den];rw[List.take_left' (by simp),List.drop_left' (by simp),PI m r]
theorem EK(h:R Γ n w0 al s m a w)(a0:∀b,Γ.mine b->Γ.base<=b){owns:List Nat}{w1:World}(a1:Γ.base=w1.heap.size)(a3:∀i ∈ owns,al i):∀{rcs:List RC}{cs:List C}{ps:List Prop},K9 s owns rcs cs=some ps->(∀p ∈ ps,p)->(Av rcs cs).Nodup->(∀k ∈ Av rcs cs,k ∈ owns) ->
  ∃bs:List Nat,bs.Nodup/\(∀b ∈ bs,Γ.base<=b/\m.π b ∈ Av rcs cs)/\(∀all:List Nat,(∀b ∈ all,m.π b ∈ owns)->BU Γ.G w1 w all rcs (cs.map (C.den m)) bs)
 | [],[],ps,_,_,_,_=>⟨[],List.nodup_nil,by simp,λ_ _=>rfl⟩| [],_::_,_,h,_,_,_=>by simp[K9]at h|_::_,[],_,h,_,_,_=>by simp[K9]at h|rc::rcs,c::cs,ps,hx,hp,hn,hk=>by
  simp only[K9]at hx;split at hx;rename_i p ps' h1 h2;simp only[Option.some.injEq]at hx;subst hx;have hp1:=hp p (by simp);have hp2:∀p ∈ ps',p:=λq hq=>hp q (List.mem_cons_of_mem _ hq);unfold Y6 at h1;split at h1;rename_i v u;simp only[Option.some.injEq]at h1;rw[← h1]at hp1;obtain⟨bs,b1,b2,b3⟩:=EK h a0 a1 a3 h2 hp2 (by simpa[Av]using hn) (by simpa[Av]using hk);exact⟨bs,b1,by simpa[Av]using b2,λall a2=>by simp only[List.map_cons,BU,C.den];exact⟨hp1,b3 all a2⟩⟩;rename_i e ts rows k;split at h1;rename_i e' ts' rows' he;split at h1;rename_i hc;simp only[Bool.and_eq_true,Nat.beq_eq]at hc;obtain⟨rfl,hc⟩:=hc;have hc:=Ty.beqs_ok _ _ hc;subst hc;simp only[Option.some.injEq]at h1;rw[← h1]at hp1;simp only[Av,List.nodup_cons]at hn;simp only[Av]at hk;obtain⟨bs,b1,b2,b3⟩:=EK h a0 a1 a3 h2 hp2 hn.2 (λk' hk'=>hk k' (List.mem_cons_of_mem _ hk'));obtain⟨q,q1,q2,q3⟩:=(h.en _ _ he).1;rw[hp1]at q1;refine⟨q++bs,List.nodup_append.2 ⟨q2,b1,λx hx y hy e=>?_⟩,λb hb=>?_,λall a2=>?_⟩;subst e;have:=(b2 x hy).2;rw[(q3 x hx).2]at this;exact hn.1 this;rcases List.mem_append.1 hb with hb|hb;exact⟨a0 _ (q3 b hb).1,by rw[(q3 b hb).2];simp[Av]⟩;exact⟨(b2 b hb).1,by simp only[Av];exact List.mem_cons_of_mem _ (b2 b hb).2⟩;simp only[List.map_cons,BU,C.den];exact⟨q,bs,rfl,q1,b3 all a2⟩;cases h1;cases h1;rename_i rows;simp only[Option.some.injEq]at h1;rw[← h1]at hp1;obtain⟨bs,b1,b2,b3⟩:=EK h a0 a1 a3 h2 hp2 (by simpa[Av]using hn) (by simpa[Av]using hk);refine⟨bs,b1,by simpa[Av]using b2,λall a2=>?_⟩;simp only[List.map_cons,BU,C.den];refine⟨[],bs,rfl,?_,b3 all a2⟩;rw[← hp1];simp only[Fp];exact⟨[],[],World.ownsRow_nil _ _ _ _,rfl,rfl,by simp,by simp,by simp[Value.ownBlock]⟩;rename_i e ts rows k;split at h1;rename_i e' ts' rows' deps he;split at h1;rename_i hc;simp only[Bool.and_eq_true,Nat.beq_eq]at hc;obtain⟨⟨rfl,hc⟩,hd⟩:=hc;have hc:=Ty.beqs_ok _ _ hc;subst hc;simp only[Option.some.injEq]at h1;rw[← h1]at hp1;obtain⟨bs,b1,b2,b3⟩:=EK h a0 a1 a3 h2 hp2 (by simpa[Av]using hn) (by simpa[Av]using hk)
  obtain⟨⟨F,f1,f2⟩,-,-⟩:=h.sl he;refine⟨bs,b1,by simpa[Av]using b2,λall a2=>?_⟩;simp only[List.map_cons,BU,C.den];refine⟨RdS.mono (λb hb=>?_) _ _ _ (by rw[← hp1];exact f1),b3 all a2⟩;rcases f2 b hb with hb|⟨hb0,hb⟩|⟨hb0,hb⟩;exact .inl hb;exact .inr ⟨by rw[← a1];exact a0 _ hb0,λhm=>h.pos (by have:=a2 b hm;rw[hb]at this;exact a3 0 this)⟩;refine .inr ⟨by rw[← a1];exact a0 _ hb0,λhm=>?_⟩;have h3:=a2 b hm;have:=List.all_eq_true.1 hd _ hb;exact Fw.1 (by simpa using this) h3;cases h1;cases h1;rename_i rows;simp only[Option.some.injEq]at h1;rw[← h1]at hp1;obtain⟨bs,b1,b2,b3⟩:=EK h a0 a1 a3 h2 hp2 (by simpa[Av]using hn) (by simpa[Av]using hk);refine⟨bs,b1,by simpa[Av]using b2,λall a2=>?_⟩;simp only[List.map_cons,BU,C.den];refine⟨?_,b3 all a2⟩;rw[← hp1];simp only[RdS];exact⟨[],⟨none,0,rfl,Nat.le_refl _,by unfold maxLen;omega,by simp,.inl ⟨rfl,λ_=>rfl⟩⟩,by simp,rfl,by simp⟩;rename_i e ts rows k;split at h1;rename_i e' ts' rows' deps he;split at h1;rename_i hc;simp only[Bool.and_eq_true,Nat.beq_eq]at hc;obtain⟨⟨rfl,hc⟩,hd⟩:=hc;have hc:=Ty.beqs_ok _ _ hc;subst hc;simp only[Option.some.injEq]at h1;rw[← h1]at hp1;simp only[Av,List.nodup_cons]at hn;simp only[Av]at hk;obtain⟨bs,b1,b2,b3⟩:=EK h a0 a1 a3 h2 hp2 hn.2 (λk' hk'=>hk k' (List.mem_cons_of_mem _ hk'));obtain⟨rv,v1,v2,v3,v4,v5⟩:=(h.en _ _ he).1;rw[hp1]at v2 v4;refine⟨(m.ε k).ownBlock.toList++bs,List.nodup_append.2 ⟨by cases(m.ε k).ownBlock <;> simp,b1,λx hx y hy e=>?_⟩,λb hb=>?_,λall a2=>?_⟩;subst e;have:=(b2 x hy).2;rw[(v5 x (by simpa using hx)).2]at this;exact hn.1 this;rcases List.mem_append.1 hb with hb|hb;have:=v5 b (by simpa using hb);exact⟨a0 _ this.1,by rw[this.2];simp[Av]⟩;exact⟨(b2 b hb).1,by simp only[Av];exact List.mem_cons_of_mem _ (b2 b hb).2⟩;simp only[List.map_cons,BU,C.den];refine⟨_,bs,rfl,⟨rv,v1,v2,v3,λk' hk'=>?_,λb hb=>by simp[hb]⟩,b3 all a2⟩;obtain⟨F,f1,f2⟩:=v4 k' hk';refine RdRowS.mono (λb hb=>?_) _ _ _ f1;rcases f2 b hb with hb|⟨hb0,hb⟩|⟨hb0,hb⟩;exact .inl hb;exact .inr ⟨by rw[← a1];exact a0 _ hb0,λhm=>h.pos (by have:=a2 b hm;rw[hb]at this;exact a3 0 this)⟩;refine .inr ⟨by rw[← a1];exact a0 _ hb0,λhm=>?_⟩;have h3:=a2 b hm;have:=List.all_eq_true.1 hd _ hb;exact Fw.1 (by simpa using this) h3;cases h1;cases h1;rename_i e ts rows;simp only[Option.some.injEq]at h1;rw[← h1]at hp1;obtain⟨bs,b1,b2,b3⟩:=EK h a0 a1 a3 h2 hp2 (by simpa[Av]using hn) (by simpa[Av]using hk);refine⟨bs,b1,by simpa[Av]using b2,λall a2=>?_⟩;simp only[List.map_cons,BU,C.den];refine⟨[],bs,rfl,⟨[],World.ownsRow_nil _ _ _ _,?_,by simp,?_,by simp[Value.ownBlock]⟩,b3 all a2⟩;rw[← hp1];rfl;rw[← hp1];simp;cases h1;cases hx
theorem OF{s:St}{dcs:List DC}{new:List (List (List Dat))} : ∀{mu:List Nat}{j0:Nat}{ps:List Prop},PG s dcs new mu j0=some ps->(∀q ∈ ps,q)->∀j p,mu[j]?=some p->∃(e:Nat)(ts:List Ty)(rows:List (List Dat))(i:Nat),dcs[p]?=some (.sl e ts rows)/\lkp s.en i=some (.mu e ts (new.getD (j0+j) []) (j0+j))
 | [],_,_,_,_,j,p,hj=>by simp at hj|p0::r,j0,ps,h,hp,j,p,hj=>by
  simp only[PG]at h;split at h;rename_i e ts rows hd;split at h;rename_i i hi;split at h;rename_i e' ts' rows' j' hl;split at h;rename_i hc;simp only[Bool.and_eq_true,Nat.beq_eq]at hc;obtain⟨⟨rfl,rfl⟩,hc⟩:=hc;have hc:=Ty.beqs_ok _ _ hc;subst hc;obtain⟨ps',h1,rfl⟩:=Option.map_eq_some_iff.1 h;have hr:rows'=new.getD j0 []:=hp _ (by simp);cases j with|zero=>simp only[List.getElem?_cons_zero,Option.some.injEq]at hj;subst hj;exact⟨e,ts,rows,i,hd,by rw[hl,hr];rfl⟩|succ j=>have:=OF h1 (λq hq=>hp q (List.mem_cons_of_mem _ hq)) j p (by simpa using hj);rwa [show j0+1+j=j0+(j+1) by omega]at this
  cases h;cases h;cases h;cases h
theorem AAj{F:Nat->Prop}{w:World}{as:List DA}{us:List Value}{mu:List Nat}{mb:Nat->List Nat}{N:Nat}{M:Bool}(h:ArgsAt F w mu mb (as.flatMap DA.cells) us)(hN:as.length<=N) :
 R {
  base:=w.heap.size,mono:=M,G:=F,mb:=λj=>if j<mu.length then mb j else[],mv:=λj=>us.getD (mu.getD j 0) undef,hG:=λb hb hq=>by rcases hq with hq|⟨j,hq⟩;have:=h.lt b hb;omega;split at hq;rename_i hj;exact h.out j b hj hq hb;simp at hq
  hst:=λb hb hq=>by
   rcases hq with hq|⟨j,hq⟩;have:=h.st.1 b hb;omega;split at hq;rename_i hj;exact h.sb j b hj hq hb;simp at hq} N w (alN (1+(as.flatMap DA.cells).length)) (UK mu as) ⟨λ_=>0,λi=>us.getD (i-1) undef,λb=>match (List.range mu.length).find? (λj=>decide (b ∈ mb j))with|some j=>mu.getD j 0+1|none=>0⟩ {tmps:=(Be as us).toArray++Array.replicate (N-(Be as us).toArray.size) undef,defers:=[]} w:=by
 have a7:∀(as:List DA)(us:List Value),(Be as us).length=as.length:=by
  intro as;induction as with|nil=>intro us;rfl|cons x r ih=>intro us;cases x <;> simp[Be,ih]
 let m:Maps:=⟨λ_=>0,λi=>us.getD (i-1) undef,λb=>match (List.range mu.length).find? (λj=>decide (b ∈ mb j))with|some j=>mu.getD j 0+1|none=>0⟩
 have hπ:∀j b,j<mu.length->b ∈ mb j->m.π b=mu.getD j 0+1:=λj b hj hb=>by
  show(match (List.range mu.length).find? (λj=>decide (b ∈ mb j))with|some j=>mu.getD j 0+1|none=>0)=_;cases hf:(List.range mu.length).find? (λj=>decide (b ∈ mb j))with|none=>have:=List.find?_eq_none.1 hf j (List.mem_range.2 hj);simp[hb]at this|some j'=>have h1:=List.find?_some hf;have h2:=List.mem_range.1 (List.mem_of_find?_eq_some hf);by_cases e:j'=j;subst e;rfl;exact absurd hb (h.dis j' j b e h2 hj (by simpa using h1))
 have hC:∀(ds:List DC)(id:Nat)(vs:List Value),vs.length=ds.length->(∀p d u,ds[p]?=some d->vs[p]?=some u->(∀v,d=DC.im v->u=v)/\m.ε (id+p)=u)->(JM ds id).map (C.den m)=vs/\∀c ∈ JM ds id,∀i ∈ c.ids,id<=i/\i<id+ds.length:=by
  intro ds;induction ds with
  |nil=>intro id vs hl _;obtain rfl:=List.eq_nil_of_length_eq_zero (by simpa using hl);simp[JM]
  |cons d r ih=>
   intro id vs hl hd;cases vs with
   |nil=>simp at hl|cons v vs=>
    obtain⟨i1,i2⟩:=ih (id+1) vs (by simpa using hl) (λp d' u hp hu=>by have:=hd (p+1) d' u (by simpa using hp) (by simpa using hu);rwa [show id+(p+1)=id+1+p by omega]at this);obtain⟨h0,h1⟩:=hd 0 d v (by simp) (by simp);refine⟨?_,λc hc i hi=>?_⟩;simp only[JM,List.map_cons,i1];congr 1;cases d with|im x=>simp only[Q2,C.den];exact(h0 _ rfl).symm|sl e ts rows=>simpa[Q2,C.den]using h1|ro d=>simpa[Q2,C.den]using h1
    simp only[JM,List.mem_cons]at hc;rcases hc with rfl|hc;cases d with|im x=>simp[Q2,C.ids]at hi|_=>simp[Q2,C.ids]at hi;subst hi;simp
    have:=i2 c hc i hi;simp;omega
 have hTm:∀(as:List DA)(p id:Nat)(vs:List Value),vs.length=(as.flatMap DA.cells).length->(∀q d u,(as.flatMap DA.cells)[q]?=some d->vs[q]?=some u->(∀v,d=DC.im v->u=v)/\m.ε (id+q)=u) ->
  ∀t v,lkp (Mf as p id) t=some v->p<=t/\(Be as vs)[t-p]?=some (v.den m)/\∀i ∈ v.ids,id<=i/\i<id+(as.flatMap DA.cells).length:=by
  intro as;induction as with
  |nil=>intro p id vs _ _ t v hv;simp[Mf,lkp]at hv|cons x r ih=>
   intro p id vs hl hd t v hv;cases x with
   |one d=>
    simp only[List.flatMap_cons,DA.cells,List.singleton_append,List.length_cons]at hl hd ⊢;cases vs with
    |nil=>simp at hl|cons u us=>
     have hd':=λq d' u' hq hu=>hd (q+1) d' u' (by simpa using hq) (by simpa using hu);simp only[Mf,AY]at hv;split at hv;rename_i e;subst e;obtain rfl:=Option.some.inj hv
     obtain⟨i1,i2⟩:=hC [d] id [u] rfl (λq d' u' hq hu=>by
      cases q with|zero=>simp at hq hu;subst hq;subst hu;exact hd 0 d u (by simp) (by simp)|succ q=>simp at hq)
     simp only[JM,List.map_cons,List.map_nil,List.cons.injEq,and_true]at i1;refine⟨Nat.le_refl _,by simp[Be,T.den,A.den,i1],λi hi=>?_⟩;have:=i2 (Q2 id d) (by simp[JM]) i (by simpa[T.ids,A.ids]using hi);simp at this;omega;obtain⟨j1,j2,j3⟩:=ih (p+1) (id+1) us (by simpa using hl) (λq d' u' hq hu=>by have:=hd' q d' u' hq hu;rwa [show id+(q+1)=id+1+q by omega]at this) t v hv;refine⟨by omega,?_,λi hi=>by have:=j3 i hi;omega⟩;rw[show t-p=(t-(p+1))+1 by omega];simpa[Be]using j2
   |agg ds=>
    simp only[List.flatMap_cons,DA.cells,List.length_append]at hl hd ⊢;simp only[Mf,AY]at hv;have a8:∀q d u,ds[q]?=some d->(vs.take ds.length)[q]?=some u->(∀v,d=DC.im v->u=v)/\m.ε (id+q)=u:=λq d u hq hu=>by have a5:q<ds.length:=(List.getElem?_eq_some_iff.1 hq).1;refine hd q d u (by rw[List.getElem?_append_left a5];exact hq) ?_;rw[List.getElem?_take,if_pos a5]at hu;exact hu
    split at hv;rename_i e;subst e;obtain rfl:=Option.some.inj hv;obtain⟨i1,i2⟩:=hC ds id (vs.take ds.length) (by simp;omega) a8;refine⟨Nat.le_refl _,by simp[Be,T.den,A.den,i1],λi hi=>?_⟩;simp only[T.ids,A.ids,List.mem_flatMap]at hi;obtain⟨c,hc,hi⟩:=hi;have:=i2 c hc i hi;omega;obtain⟨j1,j2,j3⟩:=ih (p+1) (id+ds.length) (vs.drop ds.length) (by rw[List.length_drop,hl];omega) (λq d u hq hu=>by have:=hd (ds.length+q) d u (by rw[List.getElem?_append_right (by omega)];simpa using hq) (by simpa using hu);rwa [← Nat.add_assoc]at this) t v hv;refine⟨by omega,?_,λi hi=>by have:=j3 i hi;omega⟩;rw[show t-p=(t-(p+1))+1 by omega];simpa[Be]using j2
 have hmε:∀q (d:DC) u,(as.flatMap DA.cells)[q]?=some d->us[q]?=some u->(∀v,d=DC.im v->u=v)/\m.ε (1+q)=u:=λq d u hq hu=>by refine⟨λv hv=>?_,by simp[m,List.getD,Nat.add_sub_cancel_left,hu]⟩;subst hv;by_cases hm:q ∈ mu;obtain⟨j,hj⟩:=List.getElem?_of_mem hm;obtain⟨_,_,_,_,e,_⟩:=h.own j q hj;rw[hq]at e;cases e;exact h.rd q _ u hq hu hm
 have a9:((Be as us).toArray++Array.replicate (N-(Be as us).toArray.size) undef).size=N:=by simp[a7];omega
 refine⟨a9,rfl,Nat.le_refl _,Bel.refl _ _,λt v hv=>?_,λi E hE=>?_,by unfold alN;omega,h.st,λi h1 h2=>absurd h2 (Nat.not_lt_zero i),λi hi=>absurd hi.2 (Nat.not_lt_zero i)⟩;obtain⟨j1,j2,j3⟩:=hTm as 0 1 us h.len hmε t v hv;refine⟨?_,λi hi=>by have:=j3 i hi;unfold alN;omega⟩;have aA:t<(Be as us).length:=(List.getElem?_eq_some_iff.1 (by simpa using j2)).1;rw[Array.getD_eq_getD_getElem?,Array.getElem?_append_left (by simpa using aA)];simp only[Nat.sub_zero]at j2;simp[j2,m]
 have hEn:∀(ds:List DC)(id i:Nat)(E:En),lkp (JN mu ds id) i=some E->id<=i/\i<id+ds.length/\((∃e ts rows,ds[i-id]?=some (.sl e ts rows)/\E=(match Hg mu (i-1)with|some j=>En.mu e ts rows j|none=>En.view e ts rows []))\/∃d,ds[i-id]?=some (.ro d)/\E=.ro d []):=by
  intro ds;induction ds with
  |nil=>intro id i E hq;simp[JN,lkp]at hq|cons d r ih=>
   intro id i E hq;have sh:∀(h:id+1<=i)(d' : DC),r[i-(id+1)]?=some d'->(d::r)[i-id]?=some d':=λh d' hd=>by rw[show i-id=(i-(id+1))+1 by omega];simpa using hd
   have up:(id+1<=i/\i<id+1+r.length/\((∃e ts rows,r[i-(id+1)]?=some (.sl e ts rows)/\E=(match Hg mu (i-1)with|some j=>En.mu e ts rows j|none=>En.view e ts rows []))\/∃d,r[i-(id+1)]?=some (.ro d)/\E=.ro d []))->id<=i/\i<id+(d::r).length/\((∃e ts rows,(d::r)[i-id]?=some (.sl e ts rows)/\E=(match Hg mu (i-1)with|some j=>En.mu e ts rows j|none=>En.view e ts rows []))\/∃d',(d::r)[i-id]?=some (.ro d')/\E=.ro d' []):=(by rintro⟨a1,a2,a3⟩;refine⟨by omega,by simp;omega,?_⟩;rcases a3 with⟨e,ts,rows,a3,a4⟩|⟨d',a3,a4⟩;exact .inl ⟨e,ts,rows,sh a1 _ a3,a4⟩;exact .inr ⟨d',sh a1 _ a3,a4⟩);cases d with|im x=>simp only[JN]at hq;exact up (ih (id+1) i E hq)|sl e ts rows=>simp only[JN,AY]at hq;split at hq;rename_i e';subst e';exact⟨Nat.le_refl _,by simp,.inl ⟨e,ts,rows,by simp,(Option.some.inj hq).symm⟩⟩;exact up (ih (id+1) i E hq)|ro d'=>simp only[JN,AY]at hq;split at hq;rename_i e';subst e';exact⟨Nat.le_refl _,by simp,.inr ⟨d',by simp,(Option.some.inj hq).symm⟩⟩;exact up (ih (id+1) i E hq)
 obtain⟨a1,a2,a3⟩:=hEn _ 1 i E hE;have aB:i-1<us.length:=by rw[h.len];omega
 have hu:us[i-1]?=some us[i-1]:=List.getElem?_eq_getElem aB;rcases a3 with⟨e,ts,rows,a3,rfl⟩|⟨d,a3,rfl⟩;cases hpo:Hg mu (i-1)with
 |none=>have hc:=h.rd _ _ _ a3 hu (Me hpo);refine⟨⟨F,?_,λb hb=>.inl hb⟩,by unfold alN;omega,by simp[En.ids]⟩;simp only[DE]at hc;simpa[List.getD,hu]using hc|some j=>
  have hj:=Md hpo;have a0:=(List.getElem?_eq_some_iff.1 hj).1;obtain⟨e',ts',rows',u,q1,q2,q3,q4⟩:=h.own j _ hj;rw[a3]at q1;simp only[Option.some.injEq,DC.sl.injEq]at q1;obtain⟨rfl,rfl,rfl⟩:=q1;have a6:mu.getD j 0=i-1:=by simp[List.getD,hj]
  refine⟨⟨by show us.getD (i-1) undef=us.getD (mu.getD j 0) undef;rw[a6],?_,by simp only[if_pos a0];exact q4,λb hb=>?_⟩,by unfold alN;omega,by simp[En.ids]⟩;simp only[if_pos a0];simpa[List.getD,q2]using q3;simp only[if_pos a0]at hb;have:=hπ j b a0 hb;rw[a6]at this;exact this.trans (by omega)
 have hc:=h.rd _ _ _ a3 hu (λhm=>by obtain⟨j,hj⟩:=List.getElem?_of_mem hm;obtain⟨_,_,_,_,e,_⟩:=h.own j _ hj;rw[a3]at e;cases e);refine⟨⟨F,?_,λb hb=>.inl hb⟩,by unfold alN;omega,by simp[En.ids]⟩;simp only[DE]at hc;simpa[List.getD,hu]using hc
theorem Y7{X:Ctx}{f:Nat}{fn:Func}{body:Code}{c:Con}(aa:c.ι->c.ι->Prop)(hm:P.follows .mixedOrders=true)(hT:TTok P X.tt)(aG:CTok P X.ct c.mono)(hil:InlOk P X.il)(hf:P.funcs[f]?=some fn)(hb:fn.body=some body)(hn:fn.ntmps=X.n)
  (a8:∀i,(c.args i).length<=X.n) (iv:c.ι->List (Nat×Inv))
  (G:c.ι->XE->St->Prop) (hG1:∀i id s,¬G i (.exit id) s) (hG2:∀i e s,G i e s->∃j,aa i j/\KD X.tt fn.results.toList s ((c.args i).flatMap DA.cells) c.mu (c.new j) (c.res j))
  (h:∀i,c.pre i->Fy X body (iv i) (UK c.mu (c.args i)) (1+((c.args i).flatMap DA.cells).length) λe s _=>G i e s):∀i,c.pre i->∀F w us mb,ArgsAt F w c.mu mb ((c.args i).flatMap DA.cells) us->Calls P f (Be (c.args i) us).toArray w λe w'=>∃j,aa i j/\∃rs bs,e=.returned ((c.res j).val rs)/\c.PostA i j F w us mb rs bs w'/\(c.mono=true->w.drawn<=w'.drawn):=by
 intro i hi F w us mb a1;have a9:=AAj (N:=X.n) (M:=c.mono) a1 (a8 i);refine calls_of_wp hf hb ?_;rw[hn];refine CK hm hT aG hil (.inl rfl) body (al:=λ_=>True) (h i hi) (by omega) a9 ?_;intro e s' nx' m' a' w' h1 h2 h3;have e2:results fn a'.tmps=(do let vs ← fn.results.mapM (Ij a'.tmps);pure (if h:vs.size=1 then vs[0]else .tuple vs)):=by unfold results;congr 1
 have finM:∀j0 p l,c.mu=p::l->XZ X.tt fn.results.toList s' ((c.args i).flatMap DA.cells) c.mu (c.new j0) (c.res j0)->a'.defers=[]/\∃v,(results fn a'.tmps).run P w'=.ok v w'/\∃rs bs,Ending.returned v=.returned ((c.res j0).val rs)/\c.PostA i j0 F w us mb rs bs w':=by
  intro j0 p l a2 hr;refine⟨h3.defers,?_⟩;unfold XZ at hr;split at hr
  ·rename_i v u has a3
   split at hr
   ·rename_i ps a7
    have hp:=JJ hr;obtain rfl:v=u:=hp _ (by simp);have aA:=OF a7 (λq hq=>hp q (List.mem_cons_of_mem _ hq));have e1:=IC hT h3 has;have e3:(fn.results.mapM (Ij a'.tmps)).run P w'=.ok #[v] w':=(by rw[Array.mapM_eq_mapM_toList,Sem.run_map];rw[e1];rfl);refine⟨v,?_,[v],[],by rw[a3];rfl,⟨by rw[a3];exact⟨rfl,rfl⟩,List.nodup_nil,by simp,λj p e ts rows u' _ hj hd hu=>?_,h3.below.os,h3.below.tape,h3.below.output,h3.below.size,λb hb aH=>h3.below.block b λhq=>?_⟩⟩
    ·rw[e2]
     simp only[Sem.run_bind,e3,Result.andThen_ok,Sem.run_pure];rfl
    ·obtain⟨_,_,_,_,_,_,_,aB⟩:=a1.own j p hj
     refine⟨mb j,?_,aB,λ_ hb=>hb,λ_=>rfl⟩;obtain⟨e',ts',rows',i',q1,q2⟩:=aA j p hj;rw[hd]at q1;simp only[Option.some.injEq,DC.sl.injEq]at q1;obtain⟨rfl,rfl,rfl⟩:=q1;rw[Nat.zero_add]at q2;obtain⟨⟨g0,g1,-,-⟩,-⟩:=h3.en _ _ q2;have aI:=(List.getElem?_eq_some_iff.1 hj).1;rw[g0]at g1;simp only[if_pos aI]at g1;have aJ:c.mu.getD j 0=p:=(by simp[List.getD,hj]);rw[aJ]at g1;simpa[List.getD,hu]using g1
    ·rcases hq with hq|⟨j,hq⟩
     ·have hq:w.heap.size<=b:=hq
      omega
     ·simp only at hq
      split at hq;·rename_i hj;exact aH j hj hq
      ·simp at hq
   ·exact hr.elim
  ·exact hr.elim
 have fin:∀j0,KD X.tt fn.results.toList s' ((c.args i).flatMap DA.cells) c.mu (c.new j0) (c.res j0)->a'.defers=[]/\∃v,(results fn a'.tmps).run P w'=.ok v w'/\∃rs bs,Ending.returned v=.returned ((c.res j0).val rs)/\c.PostA i j0 F w us mb rs bs w':=by
  intro j0 hr;have hr2:=hr;unfold KD at hr;split at hr;case h_2 p l a2=>rw[← a2]at hr;exact finM j0 p l a2 hr
  rename_i a2;refine⟨h3.defers,?_⟩;unfold AAD at hr;split at hr;·exact hr.elim
  ·rename_i as has
   split at hr;·exact hr.elim
   ·rename_i a4
    simp only[Bool.and_eq_true]at a4;obtain⟨⟨aC,aD⟩,a0⟩:=a4;split at hr;·exact hr.elim
    ·rename_i ps a7
     have hp:=JJ hr;have aD:=Ef aD;have aC:=PH aC;let cs:=as.flatMap A.cells
     have a5:∀k ∈ Av (c.res j0).cells cs,alN nx' k:=by
      have key:∀{rcs:List RC}{cs:List C}{ps:List Prop}{owns:List Nat},K9 s' owns rcs cs=some ps->∀k ∈ Av rcs cs,alN nx' k:=by
       intro rcs;induction rcs with
       |nil=>intro cs ps owns _ k hk;cases cs <;> simp[Av]at hk|cons r rs ih=>
        intro cs ps owns hx k hk;cases cs with
        |nil=>cases r <;> simp[Av]at hk|cons c cs=>
         simp only[K9]at hx;split at hx
         ·rename_i p ps' q1 q2
          cases r with
          |own e ts rows=>
           cases c with
           |ext k'=>
            simp only[Av,List.mem_cons]at hk;rcases hk with rfl|hk
            ·simp only[Y6]at q1
             split at q1
             ·rename_i he
              exact(h3.en _ _ he).2.1
             ·cases q1
            ·exact ih q2 k hk
           |_=>simp only[Av]at hk;exact ih q2 k hk
          |top e ts rows=>
           cases c with
           |ext k'=>
            simp only[Av,List.mem_cons]at hk;rcases hk with rfl|hk
            ·simp only[Y6]at q1
             split at q1
             ·rename_i he
              exact(h3.en _ _ he).2.1
             ·cases q1
            ·exact ih q2 k hk
           |_=>simp only[Av]at hk;exact ih q2 k hk
          |_=>simp only[Av]at hk;exact ih q2 k hk
         ·cases hx
      exact key a7
     have a6:(results fn a'.tmps).run P w'=.ok ((c.res j0).val (cs.map (C.den m'))) w':=by
      have e1:=IC hT h3 has;have e2:results fn a'.tmps=(do let vs ← fn.results.mapM (Ij a'.tmps);pure (if h:vs.size=1 then vs[0]else .tuple vs)):=(by unfold results;congr 1);rw[e2];have e3:(fn.results.mapM (Ij a'.tmps)).run P w'=.ok (as.map (A.den m')).toArray w':=(by rw[Array.mapM_eq_mapM_toList,Sem.run_map];rw[e1];rfl);simp only[Sem.run_bind,e3,Result.andThen_ok,Sem.run_pure];congr 1;have aE:=PI m' as;rw[aC]at aE;unfold RT.val;cases ht:(c.res j0).tup with
      |true=>
       rw[ht]at a0;simp only[Bool.not_eq_true']at a0;have aK:as.length≠1:=λe=>by rw[e]at a0;simp at a0
       rw[dif_neg (by simp[aK])];simp[cs,aE]
      |false=>
       rw[ht]at a0;have h1:=Nat.eq_of_beq_eq_true a0;rw[dif_pos (by simp[h1])]
       obtain⟨x,rfl⟩:∃x,as=[x]:=by
        match as,h1 with| [x],_=>exact⟨x,rfl⟩
       simp only[cs,aE];rfl
     obtain⟨bs,c1,c2,c3⟩:=EK (w1:=w) h3 (λb hb=>hb.resolve_right (by simp[a2])) rfl (λi hi=>a5 i hi) a7 hp aD (λk hk=>hk);have c3:=c3 bs λb hb=>(c2 b hb).2;refine⟨_,a6,cs.map (C.den m'),bs,rfl,⟨c3,c1,λb hb=>.inl (c2 b hb).1,λj p e ts rows u _ hj=>by rw[a2]at hj;simp at hj,h3.below.os,h3.below.tape,h3.below.output,h3.below.size,λb hb _=>h3.below.block b (λhq=>by rcases hq with hq|⟨j,hq⟩ <;> first|(have hq:w.heap.size<=b:=hq;omega)|simp[a2]at hq)⟩⟩
 cases e with|normal=>obtain⟨j0,aF,h2⟩:=hG2 _ _ _ h2;obtain⟨d1,v,d2,rs,bs,d3,d4⟩:=fin j0 h2;exact⟨d1,v,d2,j0,aF,rs,bs,d3,d4,λhq=>h3.below.drawn hq⟩|ret=>obtain⟨j0,aF,h2⟩:=hG2 _ _ _ h2;obtain⟨d1,v,d2,rs,bs,d3,d4⟩:=fin j0 h2;exact⟨d1,v,d2,j0,aF,rs,bs,d3,d4,λhq=>h3.below.drawn hq⟩|exit id=>exact(hG1 _ _ _ h2).elim
theorem ABc{X:Ctx}{f:Nat}{fn:Func}{body:Code}{c:Con}(hm:P.follows .mixedOrders=true)(hT:TTok P X.tt)(a4:CTok P X.ct c.mono)(hil:InlOk P X.il)(hf:P.funcs[f]?=some fn)(a2:fn.name ≠ "runtime.NumGoroutine")(hb:fn.body=some body)(hn:fn.ntmps=X.n)
 (a1:∀i,(c.res i).cells.length<=32) (a3:∀i,(c.args i).length<=X.n) (iv:c.ι->List (Nat×Inv))
 (h:∀i,c.pre i->Fy X body (iv i) (UK c.mu (c.args i)) (1+((c.args i).flatMap DA.cells).length) λe s _=>
  match e with| .exit _=>False|_=>KD X.tt fn.results.toList s ((c.args i).flatMap DA.cells) c.mu (c.new i) (c.res i)):c.Ok P f:=by
 have key:=Y7 (c:=c) (λi j=>j=i) hm hT a4 hil hf hb hn a3 iv (λi e s=>match e with| .exit _=>False|_=>KD X.tt fn.results.toList s ((c.args i).flatMap DA.cells) c.mu (c.new i) (c.res i)) (λi id s hq=>hq) (λi e s hq=>by
  cases e with|exit _=>exact hq.elim|normal=>exact⟨i,rfl,hq⟩|ret=>exact⟨i,rfl,hq⟩) h
 exact⟨⟨fn,hf,a2,by rw[hb];rfl⟩,a1,λi hi F w us mb a0=>(key i hi F w us mb a0).mono λe w' ⟨j,hj,rs,bs,he,hq,_⟩=>by subst hj;exact⟨rs,bs,he,hq⟩,λhc i hi F w us mb a0=>(key i hi F w us mb a0).mono λe w' ⟨j,hj,rs,bs,he,hq,hd⟩=>by subst hj;exact⟨rs,bs,he,hq,hd hc⟩⟩
end
end Go.Proofs.YthoidhehmmcgnaaGreat
namespace Go.Proofs.YthoidhehmmcgnaaGreat
set_option linter.unusedVariables false
set_option linter.unusedSimpArgs false
open Go.RowKit
abbrev vI(x:Int):Value:=.int .i64 x
abbrev wR(x:Int):Int:=IntKind.i64.wrap x
abbrev nI(x:Nat):Int:=(x:Int)
theorem fok{P:Program}{X:Ctx}{f:Nat}{fn:Func}{body:Code}{c:Con}(hm:P.follows .mixedOrders=true)(hT:TTok P X.tt)(a3:CTok P X.ct c.mono)(hf:P.funcs[f]?=some fn)(iv:c.ι->List (Nat×Inv))
  (h:∀i,c.pre i->Fy X body (iv i) (UK c.mu (c.args i)) (1+((c.args i).flatMap DA.cells).length) λe s _=>
   match e with| .exit _=>False|_=>KD X.tt fn.results.toList s ((c.args i).flatMap DA.cells) c.mu (c.new i) (c.res i)) (hil:InlOk P X.il:=by exact InlOk.nil _) (a1:fn.name ≠ "runtime.NumGoroutine" := by decide) (hb:fn.body=some body:=by exact rfl) (hn:fn.ntmps=X.n:=by exact rfl)
  (a0:∀i,(c.res i).cells.length<=32:=by exact λ_=>Nat.le_of_ble_eq_true rfl) (a2:∀i,(c.args i).length<=X.n:=by exact λ_=>Nat.le_of_ble_eq_true rfl):c.Ok P f:=
 ABc hm hT a3 hil hf a1 hb hn a0 a2 iv h
theorem ao{a b:Prop}(h:a)(k:a->b):a/\b:=⟨h,k h⟩
theorem AH{p q:Prop}(h:p=q)(hq:q):p:=h ▸ hq
theorem AB{x:Int}(h1:-9223372036854775808<=x)(h2:x<=9223372036854775807):IntKind.i64.wrap x=x:=by rw[IntKind.wrap_i64];omega
structure RatD where
 neg:Bool
 num:List (List Dat)
 den:List (List Dat)
structure PtD where
 x:RatD
 y:RatD
structure PlD where
 h:Int
 pt:PtD
def PlD.row(p:PlD):List Dat:=[.int p.h,.bool p.pt.x.neg,.sl p.pt.x.num,.sl p.pt.x.den,.bool p.pt.y.neg,.sl p.pt.y.num,.sl p.pt.y.den]
def ABd(h t:Int):Int:=if(0<=h/\h<=3)/\(t=1\/t=-1)then Int.tmod (h+t+4) 4 else -1
def Xa(p x:PlD):PlD:=if x.h=0 then⟨p.h,x.pt⟩else if x.h=1\/x.h=-1 then⟨ABd p.h x.h,p.pt⟩else p
def RatD.ok(r:RatD):Prop:=r.num.length<=1073741824/\r.den.length<=1073741824
def PtD.ok(p:PtD):Prop:=p.x.ok/\p.y.ok
def PlD.ok(p:PlD):Prop:=p.pt.ok
end Go.Proofs.YthoidhehmmcgnaaGreat
namespace Go.Proofs.YthoidhehmmcgnaaGreat
set_option linter.unusedVariables false
set_option linter.unusedSimpArgs false
open Go.RowKit
mutual
def Ty.era:Ty->Ty
 | .sl _ ts=>.sl 0 (Ty.eras ts)| .int=>.int| .bool=>.bool| .str=>.str
def Ty.eras:List Ty->List Ty
 | []=>[]|t::ts=>t.era::Ty.eras ts
end
theorem Ty.eras_len:∀ts:List Ty,(Ty.eras ts).length=ts.length
 | []=>rfl|_::ts=>by simp[Ty.eras,Ty.eras_len ts]
mutual
theorem Rd.era{w:World} : ∀(t:Ty)(d:Dat)(v:Value),Rd w t.era d v<->Rd w t d v
 | .int,d,v=>Iff.rfl| .bool,d,v=>Iff.rfl| .str,d,v=>Iff.rfl| .sl e ts,d,v=>by
  cases d with|sl ls=>simp only[Ty.era,Rd,Ty.eras_len];constructor;rintro⟨rows,h1,h2,h3⟩;exact⟨rows,h1,h2,λk hk=>(RdRow.era ts _ _).1 (h3 k hk)⟩;rintro⟨rows,h1,h2,h3⟩;exact⟨rows,h1,h2,λk hk=>(RdRow.era ts _ _).2 (h3 k hk)⟩|_=>simp[Ty.era,Rd]
theorem RdRow.era{w:World} : ∀(ts:List Ty)(ds:List Dat)(vs:List Value),RdRow w (Ty.eras ts) ds vs<->RdRow w ts ds vs
 | [],ds,vs=>Iff.rfl|t::ts,[],vs=>by simp[Ty.eras,RdRow]|t::ts,d::ds,[]=>by simp[Ty.eras,RdRow]|t::ts,d::ds,v::vs=>by simp only[Ty.eras,RdRow,Rd.era t d v,RdRow.era ts ds vs]
end
theorem RdRow.cast{w:World}{ts ts' : List Ty}{ds:List Dat}{vs:List Value}(h:RdRow w ts ds vs)(e:Ty.eras ts=Ty.eras ts'):RdRow w ts' ds vs:=
 (RdRow.era _ _ _).1 (e ▸ (RdRow.era _ _ _).2 h)
mutual
def Dat.has:Ty->Dat->Prop
 | .int,.int _=>True| .bool,.bool _=>True| .str,.str _=>True| .sl _ ts,.sl ls=>ls.length<=9223372036854775807/\∀k,k<ls.length->hasRow ts (ls.getD k [])|_,_=>False
def hasRow:List Ty->List Dat->Prop
 | [],[]=>True|t::ts,d::ds=>Dat.has t d/\hasRow ts ds|_,_=>False
end
mutual
theorem Rd.has{w:World} : ∀(t:Ty)(d:Dat)(v:Value),Rd w t d v->Dat.has t d
 | .int,d,v=>λh=>by cases d <;> simp[Rd,Dat.has]at h ⊢| .bool,d,v=>λh=>by cases d <;> simp[Rd,Dat.has]at h ⊢| .str,d,v=>λh=>by cases d <;> simp[Rd,Dat.has]at h ⊢| .sl e ts,d,v=>λh=>by
  cases d with|sl ls=>obtain⟨a,c,-,h1,h2,-⟩:=h.open;simp only[Rd,Dat.has]at h ⊢;obtain⟨rows,_,_,h3⟩:=h;exact⟨by omega,λk hk=>RdRow.has ts _ _ (h3 k hk)⟩|_=>simp[Rd]at h
theorem RdRow.has{w:World} : ∀(ts:List Ty)(ds:List Dat)(vs:List Value),RdRow w ts ds vs->hasRow ts ds
 | [],ds,vs=>λh=>by cases ds <;> cases vs <;> simp[RdRow,hasRow]at h ⊢|t::ts,[],vs=>λh=>by simp[RdRow]at h|t::ts,d::ds,[]=>λh=>by simp[RdRow]at h|t::ts,d::ds,v::vs=>λh=>by simp only[RdRow,hasRow]at h ⊢;exact⟨Rd.has t d v h.1,RdRow.has ts ds vs h.2⟩
end
def DC.ty:DC->Ty
 | .im (.int _ _)=>.int| .im (.bool _)=>.bool| .im (.string _)=>.str| .im _=>.int| .sl e ts _=>.sl e ts| .ro _=>.int
def DC.dat:DC->Dat
 | .im (.int _ n)=>.int n| .im (.bool b)=>.bool b| .im (.string s)=>.str s| .im _=>.sl []| .sl _ _ rows=>.sl rows| .ro _=>.int 0
def DC.ok:DC->Bool
 | .im (.int .i64 _)=>true| .im (.bool _)=>true| .im (.string _)=>true| .im _=>false| .sl _ _ _=>true| .ro _=>false
def DC.rc:DC->RC
 | .im v=>.im v| .sl e ts rows=>.own e ts rows| .ro _=>.im undef
theorem DC.im_ok{v:Value}(h:DC.ok (.im v)=true)(w:World):Fp w (DC.ty (.im v)) (DC.dat (.im v)) v []:=by
 unfold DC.ok at h;split at h <;> first|cases h|skip
 all_goals simp_all [DC.ty,DC.dat,Fp]
theorem Y8{F:Nat->Prop}{w:World}{d:DC}{u:Value}(h:DE F w d u)(a0:d.ok=true):Rd w d.ty d.dat u:=by
 cases d with
 |im v=>obtain rfl:=h;exact Fp.rd _ _ _ _ (DC.im_ok a0 w)
 |sl e ts rows=>exact RdS.rd _ _ _ h|ro d=>cases a0
theorem OG{F:Nat->Prop}{w:World} : ∀{dcs:List DC}{us:List Value},us.length=dcs.length->(∀(p:Nat)(d:DC)(u:Value),dcs[p]?=some d->us[p]?=some u->DE F w d u)->dcs.all DC.ok=true->RdRow w (dcs.map DC.ty) (dcs.map DC.dat) us
 | [],us,hl,_,_=>by obtain rfl:=List.eq_nil_of_length_eq_zero (by simpa using hl);simp[RdRow]
 |d::ds,[],hl,_,_=>by simp at hl|d::ds,u::us,hl,h,a0=>by simp only[List.all_cons,Bool.and_eq_true]at a0;simp only[List.map_cons,RdRow];exact⟨Y8 (h 0 d u (by simp) (by simp)) a0.1,OG (by simpa using hl) (λp d' u' hp hu=>h (p+1) d' u' (by simpa using hp) (by simpa using hu)) a0.2⟩
theorem Hh{F:Nat->Prop}{w:World}{mb:Nat->List Nat}{dcs:List DC}{us:List Value}(h:ArgsAt F w [] mb dcs us)(a0:dcs.all DC.ok=true):RdRow w (dcs.map DC.ty) (dcs.map DC.dat) us:=
 OG h.len (λp d u hp hu=>h.rd p d u hp hu (by simp)) a0
theorem RdRow.split{w:World} : ∀{t1 t2:List Ty}{d1 d2:List Dat}{us:List Value},t1.length=d1.length->RdRow w (t1++t2) (d1++d2) us->RdRow w t1 d1 (us.take d1.length)/\RdRow w t2 d2 (us.drop d1.length)
 | [],t2,[],d2,us,_,h=>⟨by simp[RdRow],h⟩| [],_,_::_,_,_,hl,_=>by simp at hl|_::_,_,[],_,_,hl,_=>by simp at hl|t::t1,t2,d::d1,d2,us,hl,h=>by obtain⟨v,vs,rfl,h1,h2⟩:=RdRow.cons2 (by simpa using h);obtain⟨i1,i2⟩:=RdRow.split (by simpa using hl) h2;exact⟨by simp only[List.length_cons,List.take_succ_cons,RdRow];exact⟨h1,i1⟩,by simpa using i2⟩
theorem UL{F:Nat->Prop}{w w' : World}{all:List Nat} : ∀{ts:List Ty}{dcs:List DC}{us:List Value}{bs:List Nat},FpRow w' ts (dcs.map DC.dat) us bs->dcs.map DC.ty=ts->dcs.all DC.ok=true->BU F w w' all (dcs.map DC.rc) us bs
 |_,[],us,bs,h,e,_=>by subst e;cases us <;> simp[FpRow,BU]at h ⊢;exact h|_,d::ds,[],bs,h,e,_=>by subst e;simp[FpRow]at h|_,d::ds,u::us,bs,h,e,a0=>by
  subst e;simp only[List.map_cons,FpRow]at h;obtain⟨b1,b2,rfl,h1,h2⟩:=h;simp only[List.all_cons,Bool.and_eq_true]at a0;have ih:=UL (F:=F) (w:=w) (all:=all) h2 rfl a0.2;cases d with
  |im v=>
   simp only[List.map_cons,DC.rc,BU];have a0:=a0.1;unfold DC.ok at a0;split at a0 <;> first|cases a0|skip
   all_goals simp_all [DC.ty,DC.dat,Fp]
  |sl e ts rows=>simp only[List.map_cons,DC.rc,BU];exact⟨b1,b2,rfl,h1,ih⟩|ro d=>exact absurd a0.1 (by simp[DC.ok])
theorem UM{c:Con}{i:c.ι}{F:Nat->Prop}{w w' : World}{us:List Value}{mb:Nat->List Nat}{v:Value}(a0:c.mu=[])(hr:(c.res i).cells=[.im v])(h:Below w.heap.size w w'):c.Post i F w us mb [v] [] w' where
 res:=by rw[hr];simp[BU]
 nd:=List.nodup_nil
 fresh:=by simp
 turned:=λj p e ts rows u _ hj=>by rw[a0]at hj;simp at hj
 os:=h.os
 tape:=h.tape
 output:=h.output
 size:=h.size
 keep:=λb hb _=>h.block b hb
theorem Mh{c:Con}{i:c.ι}{F:Nat->Prop}{w w' : World}{us:List Value}{mb:Nat->List Nat}{ts:List Ty}{dcs:List DC}{rs:List Value}(a0:c.mu=[])(hr:(c.res i).cells=dcs.map DC.rc)(h:Below w.heap.size w w')
  (ho:Own w' w.heap.size w'.heap.size ts (dcs.map DC.dat) rs) (a1:dcs.map DC.ty=ts) (a2:dcs.all DC.ok=true):∃bs,c.Post i F w us mb rs bs w':=by
 obtain⟨bs,h1,h2,h3⟩:=ho;exact⟨bs,by rw[hr];exact UL h1 a1 a2,h2,λb hb=>.inl (h3 b hb).1,λj p e ts rows u _ hj=>by rw[a0]at hj;simp at hj,h.os,h.tape,h.output,h.size,λb hb _=>h.block b hb⟩
section
variable {P : Program} {f : Nat} {ι : Type} {pre : ι → Prop}
abbrev Q3(P:Program)(f:Nat):Prop:=∃fn,P.funcs[f]?=some fn/\fn.name ≠ "runtime.NumGoroutine" /\ fn.body.isNone=false
theorem AAk{cells:ι->List DC}(ts:List Ty)(en:Q3 P f)(a1:∀i,(cells i).all DC.ok=true)(a0:∀i,Ty.eras ((cells i).map DC.ty)=Ty.eras ts)
  (hc:∀ds vs us w,RdRow w ts ds vs->RdRow w ts ds us->Calls P f #[.agg vs.toArray,.agg us.toArray] w λe w'=>e=.returned (.bool true)/\Below w.heap.size w w') :
  Con.Ok P f {ι:=ι,pre:=pre,args:=λi=>[.agg (cells i),.agg (cells i)],res:=λ_=>⟨false,[none],[.im (.bool true)]⟩} where
 enter:=en
 small:=λ_=>by simp
 calls:=by intro i _ F w us mb h;have hr:=Hh h (by simp[DA.cells,a1]);simp only[List.flatMap_cons,List.flatMap_nil,DA.cells,List.append_nil,List.map_append]at hr;obtain⟨h1,h2⟩:=RdRow.split (by simp) hr;have hl:=(RdRow.lens _ _ _ h2).2;simp only[List.length_map]at h1 h2 hl;simp only[Be];rw[List.take_of_length_le (by rw[List.length_drop]at hl ⊢;omega:((us.drop (cells i).length)).length<=_)];refine(hc _ _ _ _ (h1.cast (a0 i)) (h2.cast (a0 i))).mono ?_;rintro e w' ⟨rfl,hb⟩;exact⟨[.bool true],[],rfl,UM rfl rfl hb⟩
theorem AAl{cell:ι->DC}(t:Ty)(en:Q3 P f)(a1:∀i,(cell i).ok=true)(a0:∀i,(cell i).ty.era=t.era)
  (hc:∀d v u w,Rd w t d v->Rd w t d u->Calls P f #[v,u] w λe w'=>e=.returned (.bool true)/\Below w.heap.size w w') :
  Con.Ok P f {ι:=ι,pre:=pre,args:=λi=>[.one (cell i),.one (cell i)],res:=λ_=>⟨false,[none],[.im (.bool true)]⟩} where
 enter:=en
 small:=λ_=>by simp
 calls:=by intro i _ F w us mb h;have hr:=Hh h (by simp[DA.cells,a1]);simp only[List.flatMap_cons,List.flatMap_nil,DA.cells,List.append_nil,List.map_append,List.map_cons,List.map_nil,List.cons_append,List.nil_append]at hr;obtain⟨v,vs,rfl,h1,hr⟩:=RdRow.cons2 hr;obtain⟨u,vs,rfl,h2,hr⟩:=RdRow.cons2 hr;obtain⟨-,rfl⟩:=RdRow.nil_inv hr;refine(hc _ _ _ _ ((Rd.era _ _ _).1 (a0 i ▸ (Rd.era _ _ _).2 h1)) ((Rd.era _ _ _).1 (a0 i ▸ (Rd.era _ _ _).2 h2))).mono ?_;rintro e w' ⟨rfl,hb⟩;exact⟨[.bool true],[],rfl,UM rfl rfl hb⟩
theorem Xb{cells out:ι->List DC}{sh:ι->List (Option Nat)}{rc:ι->List RC}(ts:List Ty)(en:Q3 P f)(a4:∀i,(cells i).all DC.ok=true)(a5:∀i,Ty.eras ((cells i).map DC.ty)=Ty.eras ts)
  (hd:∀i,(out i).map DC.dat=(cells i).map DC.dat) (a6:∀i,(out i).map DC.ty=ts) (a7:∀i,(out i).all DC.ok=true) (a3:∀i,rc i=(out i).map DC.rc) (a8:∀i,sh i=[some (rc i).length]) (a9:∀i,(rc i).length<=32)
  (a1:∀i,pre i->Ae ((cells i).map DC.dat)<=1048576)
  (hc:∀ds,Ae ds<=1048576->∀vs w,RdRow w ts ds vs->Calls P f #[.agg vs.toArray] w λe w'=>∃us:List Value,e=.returned (.agg us.toArray)/\Own w' w.heap.size w'.heap.size ts ds us/\Below w.heap.size w w') :
  Con.Ok P f {ι:=ι,pre:=pre,args:=λi=>[.agg (cells i)],res:=λi=>⟨false,sh i,rc i⟩} where
 enter:=en
 small:=a9
 calls:=by
  intro i hp F w us mb h;have hr:=Hh h (by simp[DA.cells,a4]);have hr:=hr.cast (ts':=ts) (by simpa[DA.cells]using a5 i);simp only[List.flatMap_cons,List.flatMap_nil,DA.cells,List.append_nil]at hr;have hl:=(RdRow.lens _ _ _ hr).2;have hld:=RdRow.lens _ _ _ hr;simp only[Be];have hl2:us.length=(cells i).length:=by simpa[DA.cells]using h.len
  rw[List.take_of_length_le (by omega)];refine(hc _ (a1 i hp) _ _ hr).mono ?_;rintro e w' ⟨rs,rfl,ho,hb⟩;rw[← hd i]at ho;obtain⟨bs,a0⟩:=Mh (c:={ι:=ι,pre:=pre,args:=λi=>[.agg (cells i)],res:=λi=>⟨false,sh i,rc i⟩}) (i:=i) (F:=F) (us:=us) (mb:=mb) rfl (a3 i) hb ho (a6 i) (a7 i);refine⟨rs,bs,?_,a0⟩;have aA:=(RdRow.lens _ _ _ ho.rd).1;have a2:=(RdRow.lens _ _ _ ho.rd).2;simp only[RT.val,a8,MJ];rw[List.take_of_length_le (by rw[a3];simp at aA a2 ⊢;omega)];rfl
theorem AAm{cell:ι->DC}{rows:ι->List (List Dat)}(e:Nat)(ts:List Ty)(en:Q3 P f)(a2:∀i,(cell i).ok=true)(a3:∀i,(cell i).ty.era=Ty.era (.sl e ts))
  (hd:∀i,(cell i).dat=.sl (rows i))
  (a1:∀i,pre i->(rows i).length+Aa (rows i)<=1048576)
  (hc:∀ls,ls.length+Aa ls<=1048576->∀v w,Rd w (.sl e ts) (.sl ls) v->Calls P f #[v] w λen w'=>∃u:Value,en=.returned u/\Own w' w.heap.size w'.heap.size [.sl e ts] [.sl ls] [u]/\Below w.heap.size w w') :
  Con.Ok P f {ι:=ι,pre:=pre,args:=λi=>[.one (cell i)],res:=λi=>⟨false,[none],[.own e ts (rows i)]⟩} where
 enter:=en
 small:=λ_=>by simp
 calls:=by intro i hp F w us mb h;have hr:=Hh h (by simp[DA.cells,a2]);simp only[List.flatMap_cons,List.flatMap_nil,DA.cells,List.append_nil,List.map_cons,List.map_nil]at hr;obtain⟨v,vs,rfl,h1,hr⟩:=RdRow.cons2 hr;obtain⟨-,rfl⟩:=RdRow.nil_inv hr;rw[hd]at h1;refine(hc _ (a1 i hp) _ _ ((Rd.era _ _ _).1 (a3 i ▸ (Rd.era _ _ _).2 h1))).mono ?_;rintro e' w' ⟨u,rfl,ho,hb⟩;obtain⟨bs,a0⟩:=Mh (c:={ι:=ι,pre:=pre,args:=λi=>[.one (cell i)],res:=λi=>⟨false,[none],[.own e ts (rows i)]⟩}) (i:=i) (F:=F) (us:=[v]) (mb:=mb) (dcs:=[.sl e ts (rows i)]) rfl rfl hb ho rfl rfl;exact⟨[u],bs,rfl,a0⟩
end
theorem FpRow.leaf_nil{w:World} : ∀{ts:List Ty}{ds:List Dat}{vs:List Value}{bs:List Nat},FpRow w ts ds vs bs->ts.all Ty.leaf=true->bs=[]
 | [],ds,vs,bs,h,_=>by cases ds <;> cases vs <;> simp[FpRow]at h;exact h|t::ts,[],vs,bs,h,_=>by simp[FpRow]at h|t::ts,d::ds,[],bs,h,_=>by simp[FpRow]at h|t::ts,d::ds,v::vs,bs,h,hl=>by simp only[FpRow]at h;obtain⟨b1,b2,rfl,h1,h2⟩:=h;simp only[List.all_cons,Bool.and_eq_true]at hl;rw[h1.leaf_nil hl.1,FpRow.leaf_nil h2 hl.2];rfl
theorem nrm:(∀a b:Bool,((a && b)=true)=(a=true/\b=true))/\(∀a b:Bool,((a || b)=true)=(a=true\/b=true)) /\
  (∀a b:Bool,((a && b)=false)=(a=false\/b=false))/\(∀a b:Bool,((a || b)=false)=(a=false/\b=false)) /\
  (∀(p:Prop) [Decidable p],(decide p=true)=p)/\(∀(p:Prop) [Decidable p],(decide p=false)=¬p) /\
  (∀b:Bool,((!b)=true)=(b=false))/\(∀b:Bool,((!b)=false)=(b=true)) /\
  (∀(α:Type) [BEq α] [LawfulBEq α] (a b:α),((a != b)=true)=¬a=b)/\(∀(α:Type)(a b:α),(a≠b)=¬a=b) /\
  (∀(α:Type) [BEq α] [LawfulBEq α] (a b:α),((a == b)=true)=(a=b))/\(∀b:Bool,(¬b=true)=(b=false))/\(∀b:Bool,(¬b=false)=(b=true)) /\
  (∀a b:Int,(¬a<b)=(b<=a))/\(∀a b:Int,(¬a<=b)=(b<a))/\(∀(α:Type) [LT α] (a b:α),(a>b)=(b<a))/\(∀(α:Type) [LE α] (a b:α),(a>=b)=(b<=a)) /\
  (∀(α:Type) [BEq α] [LawfulBEq α] (a b:α),((a == b)=false)=¬a=b)/\(∀(α:Type) [BEq α] [LawfulBEq α] (a b:α),((a != b)=false)=(a=b)):=
 ⟨λ_ _=>Bool.and_eq_true _ _,λ_ _=>Bool.or_eq_true _ _,λ_ _=>propext Bool.and_eq_false_iff,λ_ _=>propext Bool.or_eq_false_iff,
  λ_ _=>decide_eq_true_eq,λ_ _=>propext decide_eq_false_iff_not,λ_=>Bool.not_eq_true' _,λ_=>Bool.not_eq_false' _,
  λ_ _ _ _ _=>propext bne_iff_ne,λ_ _ _=>ne_eq _ _,λ_ _ _ _ _=>propext beq_iff_eq,λ_=>Bool.not_eq_true _,λ_=>Bool.not_eq_false _,
  λ_ _=>propext Int.not_lt,λ_ _=>propext Int.not_le,λ_ _ _ _=>rfl,λ_ _ _ _=>rfl,
  λ_ _ _ _ _=>propext beq_eq_false_iff_ne,λ_ _ _ _ _=>propext bne_eq_false_iff_eq⟩
abbrev cB(b:Bool):DC:=.im (.bool b)
abbrev cI(n:Int):DC:=.im (.int .i64 n)
abbrev cS(l:List (List Dat)):DC:=.sl 3 [.int] l
def rf{α:Type}(a:α):Prop:=a=a
abbrev ifB(b:Bool)(p q:Prop):Prop:=(b=true->p)/\(b=false->q)
abbrev vB(b:Bool):Value:=.bool b
abbrev dA(r:List Dat)(i j k:Nat):DA:=.agg [cB (r.getD i (.int 0)).b,cS (r.getD j (.int 0)).r,cS (r.getD k (.int 0)).r]
abbrev tI(n:Int):T:=.one (.one (.im (.int .i64 n)))
abbrev tB(b:Bool):T:=.one (.one (.im (.bool b)))
abbrev tX(i:Nat):T:=.one (.one (.ext i))
abbrev tP(i o:Nat):T:=.one (.one (.bp i o))
abbrev kI(n:Int):C:=.im (.int .i64 n)
abbrev kB(b:Bool):C:=.im (.bool b)
abbrev eV(l:List (List Dat)):En:=.view 3 [.int] l []
abbrev rcI(n:Int):RC:=.im (.int .i64 n)
abbrev rcB(b:Bool):RC:=.im (.bool b)
end Go.Proofs.YthoidhehmmcgnaaGreat
