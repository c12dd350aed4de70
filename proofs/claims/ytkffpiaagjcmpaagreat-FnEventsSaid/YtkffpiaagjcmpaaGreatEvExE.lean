import Derived.Test.YtkffpiaagjcmpaaGreatEvExD
namespace Go.Proofs.YtkffpiaagjcmpaaGreat
set_option linter.unusedVariables false
set_option linter.unusedSimpArgs false
open Go.RowKit
def DP:List PC->Nat->List C
 | [],_=>[]
 | .im v::r,id=>.im v::DP r (id+1)
 | .bt _::r,id=>.ext id::DP r (id+1)
def TW:List PC->Nat->List (Nat×En)
 | [],_=>[]
 | .im _::r,id=>TW r (id+1)
 | .bt bs::r,id=>(id,.ro (.bytes bs) [])::TW r (id+1)
def Mm (pcs:List PC) (as:List DA):St:=
 { tm:=(0,.one (.one (.bp 1 0)))::Ev as 1 (2+pcs.length),en:=(1,.box (DP pcs 2))::(TW pcs 2++C4 [] (as.flatMap DA.cells) (2+pcs.length)),lit:=[] }
def V3:List C->List PC->List C->Prop
 | _::r,.im v::p,.im u::b=>u=v/\V3 r p b
 | .ext k::r,.bt _::p,.ext k'::b=>match Nat.beq k k' with|true=>V3 r p b|false=>False
 | [],[],[]=>True
 | _,_,_=>False
def AAF:RC->Bool
 | .im _=>true
 | .own _ _ _=>true
 | _=>false
def V4:List C->List PC->List C->Option (List Prop)
 | _::r,.im v::p,.im u::b=>(V4 r p b).map ((u=v)::·)
 | .ext k::r,.bt _::p,.ext k'::b=>match Nat.beq k k' with|true=>V4 r p b|false=>none
 | [],[],[]=>some []
 | _,_,_=>none
def AAG (tt:TT) (rvs:List ResultVar) (s:St) (ini:List C) (pn:List PC) (r:RT):Prop:=
 match lkp s.en 1 with
 | some (.box bx)=>
  match r.cells.all AAF,V4 ini pn bx,FR tt s rvs with
  | true,some qs,some as=>
   match K9 (as.map A.sh) r.sh && ET (AZ r.cells (as.flatMap A.cells)) && (match r.tup with|true=>!(Nat.beq as.length 1)|false=>Nat.beq as.length 1) with
   | false=>False
   | true=>
    match FT s (AZ r.cells (as.flatMap A.cells)) r.cells (as.flatMap A.cells) with
    | none=>False
    | some ps=>Sf (ps++qs)
  | _,_,_=>False
 | _=>False
theorem PZ:∀ {ini:List C} {pn:List PC} {bx:List C} {qs:List Prop},V4 ini pn bx=some qs->(∀ q ∈ qs,q)->V3 ini pn bx
 | [],[],[],_,_,_=>trivial
 | c::r,.im v::p,.im u::b,qs,h,hq=>by
  simp only [V4] at h
  obtain ⟨qs',h1,rfl⟩:=Option.map_eq_some_iff.1 h
  exact ⟨hq _ (by simp),PZ h1 λ q hq'=>hq q (List.mem_cons_of_mem _ hq')⟩
 | .ext k::r,.bt _::p,.ext k'::b,qs,h,hq=>by
  simp only [V4] at h
  split at h
  ·rename_i e
   simp only [V3,e]
   exact PZ h hq
  ·cases h
theorem KE:∀ {as:List DA} {p id t:Nat} {v:T},lkp (Ev as p id) t=some v->∀ i ∈ v.ids,id<=i
 | [],p,id,t,v,h,i,hi=>by simp [Ev,lkp] at h
 | .one d::r,p,id,t,v,h,i,hi=>by
  simp only [Ev,AR] at h
  split at h
  ·obtain rfl:=Option.some.inj h
   cases d <;> simp only [NR,T.ids,A.ids,C.ids,List.mem_singleton,List.not_mem_nil] at hi
   all_goals omega
  ·have:=KE h i hi;omega
 | .agg ds::r,p,id,t,v,h,i,hi=>by
  simp only [Ev,AR] at h
  split at h
  ·obtain rfl:=Option.some.inj h
   have key:∀ (ds:List DC) (id:Nat),∀ c ∈ FS ds id,∀ i ∈ c.ids,id<=i:=by
    intro ds
    induction ds with
    | nil=>intro id c hc;simp [FS] at hc
    | cons d r ih=>
     intro id c hc i hi
     simp only [FS,List.mem_cons] at hc
     rcases hc with rfl|hc
     ·cases d <;> simp only [NR,C.ids,List.mem_singleton,List.not_mem_nil] at hi
      all_goals omega
     ·have:=ih (id+1) c hc i hi;omega
   simp only [T.ids,A.ids,List.mem_flatMap] at hi
   obtain ⟨c,hc,hi⟩:=hi
   exact key ds id c hc i hi
  ·have:=KE h i hi;omega
theorem D0:∀ {ds:List DC} {id i:Nat} {E:En},lkp (C4 [] ds id) i=some E->id<=i/\((∃ e ts rows,E=.view e ts rows [])∨∃ d,E=.ro d [])
 | [],id,i,E,h=>by simp [C4,lkp] at h
 | .im _::r,id,i,E,h=>by
  obtain ⟨h1,h2⟩:=D0 (ds:=r) (id:=id+1) h
  exact ⟨by omega,h2⟩
 | .sl e ts rows::r,id,i,E,h=>by
  simp only [C4,GS,AR] at h
  split at h
  ·rename_i q;obtain rfl:=Option.some.inj h;exact ⟨by omega,.inl ⟨_,_,_,rfl⟩⟩
  ·obtain ⟨h1,h2⟩:=D0 (ds:=r) (id:=id+1) h
   exact ⟨by omega,h2⟩
 | .ro d::r,id,i,E,h=>by
  simp only [C4,AR] at h
  split at h
  ·rename_i q;obtain rfl:=Option.some.inj h;exact ⟨by omega,.inr ⟨_,rfl⟩⟩
  ·obtain ⟨h1,h2⟩:=D0 (ds:=r) (id:=id+1) h
   exact ⟨by omega,h2⟩
theorem IW:∀ {pcs:List PC} {id i:Nat} {E:En},lkp (TW pcs id) i=some E->∃ q bs,i=id+q/\q<pcs.length/\pcs[q]?=some (.bt bs)/\E=.ro (.bytes bs) []
 | [],id,i,E,h=>by simp [TW,lkp] at h
 | .im _::r,id,i,E,h=>by
  obtain ⟨q,bs,h1,h2,h3,h4⟩:=IW (pcs:=r) (id:=id+1) h
  exact ⟨q+1,bs,by omega,by simp;omega,by simpa using h3,h4⟩
 | .bt bs::r,id,i,E,h=>by
  simp only [TW,AR] at h
  split at h
  ·rename_i e;obtain rfl:=Option.some.inj h;exact ⟨0,bs,by omega,by simp,rfl,rfl⟩
  ·obtain ⟨q,bs',h1,h2,h3,h4⟩:=IW (pcs:=r) (id:=id+1) h
   exact ⟨q+1,bs',by omega,by simp;omega,by simpa using h3,h4⟩
theorem KF {F:Nat->Prop} {w:World} {m:Maps} : ∀ {pcs:List PC} {id:Nat} {vs:List Value},vs.length=pcs.length->(∀ (q:Nat) (d:PC) (u:Value),pcs[q]?=some d->vs[q]?=some u->Wr F w d u)->(∀ (q:Nat) (u:Value),vs[q]?=some u->m.ε (id+q)=u) ->
  (DP pcs id).map (C.den m)=vs/\∀ c ∈ DP pcs id,∀ i ∈ c.ids,id<=i/\i<id+pcs.length
 | [],id,vs,hl,_,_=>by
  obtain rfl:=List.eq_nil_of_length_eq_zero (by simpa using hl)
  exact ⟨rfl,by simp [DP]⟩
 | d::r,id,[],hl,_,_=>by simp at hl
 | d::r,id,v::vs,hl,h1,h2=>by
  obtain ⟨i1,i2⟩:=KF (F:=F) (w:=w) (m:=m) (pcs:=r) (id:=id+1) (vs:=vs) (by simpa using hl) (λ q d u hq hu=>h1 (q+1) d u (by simpa using hq) (by simpa using hu)) (λ q u hu=>by
   have:=h2 (q+1) u (by simpa using hu)
   rwa [show id+(q+1)=id+1+q by omega] at this)
  have g1:=h1 0 d v (by simp) (by simp)
  have g2:=h2 0 v (by simp)
  cases d with
  | im x=>
   refine ⟨by simp only [DP,List.map_cons,C.den,i1];rw [show v=x from g1],λ c hc i hi=>?_⟩
   simp only [DP,List.mem_cons] at hc
   rcases hc with rfl|hc
   ·simp [C.ids] at hi
   ·have:=i2 c hc i hi;simp;omega
  | bt bs=>
   refine ⟨by simp only [DP,List.map_cons,C.den,i1];rw [show m.ε id=v from g2],λ c hc i hi=>?_⟩
   simp only [DP,List.mem_cons] at hc
   rcases hc with rfl|hc
   ·simp only [C.ids,List.mem_singleton] at hi;subst hi;simp
   ·have:=i2 c hc i hi;simp;omega
theorem Mn {m0 m:Maps} : ∀ {ini:List C} {pn:List PC} {bx:List C},V3 ini pn bx->(∀ c ∈ ini,∀ i ∈ c.ids,m.ε i=m0.ε i)->bx.map (C.den m)=H7 pn (ini.map (C.den m0))
 | [],[],[],_,_=>rfl
 | c::r,.im v::p,.im u::b,h,hs=>by
  obtain ⟨rfl,h⟩:=h
  have:=Mn h λ c hc=>hs c (List.mem_cons_of_mem _ hc)
  simp only [List.map_cons,H7,this]
  rfl
 | .ext k::r,.bt _::p,.ext k'::b,h,hs=>by
  simp only [V3] at h
  split at h
  ·rename_i e
   have e:=Nat.eq_of_beq_eq_true e
   subst e
   have:=Mn h λ c hc=>hs c (List.mem_cons_of_mem _ hc)
   simp only [List.map_cons,H7,this,C.den]
   rw [hs (.ext k) (by simp) k (by simp [C.ids])]
  ·exact h.elim
theorem Mo (v:Value):∀ (L:Nat) (r:List DC) (id:Nat),C4 [] (List.replicate L (.im v)++r) id=C4 [] r (id+L)
 | 0,r,id=>by simp
 | L+1,r,id=>by
  rw [List.replicate_succ,List.cons_append]
  simp only [C4]
  rw [Mo v L r (id+1),show id+1+L=id+(L+1) by omega]
theorem YL {pcs:List PC} {bs:List UInt8} (h:pcs[0]?=some (.bt bs)):0<pcs.length:=(List.getElem?_eq_some_iff.1 h).1
def E6 (B:Nat) (vs us:List Value):Maps:=⟨λ i=>if i=1 then B else 0,λ i=>if i<2+vs.length then vs.getD (i-2) undef else us.getD (i-(2+vs.length)) undef,λ b=>if b=B then 1 else 0⟩
def ACM (F : Nat → Prop) (w : World) (B : Nat) (vs us : List Value) (M : Bool) (h1 : ∀ b, F b → b < w.heap.size) (h2 : ¬ F B) (h3 : ∀ b ∈ stB, b < w.heap.size) (h4 : B ∉ stB) : Env :=
  { base := w.heap.size, mono := M, G := F, mb := fun j => if j = 0 then [B] else [], K := 3, m0 := E6 B vs us
    hG := fun b hb hq => by
      rcases hq with hq | ⟨j, hq⟩
      · have := h1 b hb; omega
      · split at hq
        · obtain rfl := List.mem_singleton.1 hq; exact h2 hb
        · cases hq
    hst := fun b hb hq => by
      rcases hq with hq | ⟨j, hq⟩
      · have := h3 b hb; omega
      · split at hq
        · obtain rfl := List.mem_singleton.1 hq; exact h4 hb
        · cases hq }
theorem Mp:∀ (as:List DA) (us:List Value),(BA as us).length=as.length
 | [],us=>rfl
 | .one _::r,us=>by simp [BA,Mp r]
 | .agg _::r,us=>by simp [BA,Mp r]
theorem AAH {F:Nat->Prop} {w:World} {as:List DA} {us:List Value} {pcs:List PC} {B:Nat} {vs:List Value} {N:Nat} {M:Bool} (h:ArgsAt F w [] (λ _=>[]) (as.flatMap DA.cells) us) (hp:PtrIn F w pcs B vs) (hbt:∃ bs,pcs[0]?=some (.bt bs)) (hN:as.length+1<=N) :
  R (ACM F w B vs us M h.lt hp.out h.st.1 hp.sb) N w (alN (2+pcs.length+(as.flatMap DA.cells).length)) (Mm pcs as) (E6 B vs us) { tmps:=(Value.pointer (some ⟨B,0,none⟩)::BA as us).toArray++Array.replicate (N-(Value.pointer (some ⟨B,0,none⟩)::BA as us).toArray.size) undef,defers:=[] } w:=by
 obtain ⟨bs0,hbt⟩:=hbt
 have hL:=YL hbt
 obtain ⟨t0,hat⟩:=hp.at_
 have hBlt:B<w.heap.size:=(Array.getElem?_eq_some_iff.1 hat).1
 let ptr:Value:=.pointer (some ⟨B,0,none⟩)
 let pre:List DC:=.im ptr::List.replicate pcs.length (.im undef)
 let as2:List DA:=.agg pre::as
 let us2:List Value:=(ptr::List.replicate pcs.length undef)++us
 have hpl:pre.length=pcs.length+1:=by simp [pre]
 have h2:ArgsAt F w [] (λ _=>[]) (as2.flatMap DA.cells) us2:=by
  have hcells:as2.flatMap DA.cells=pre++as.flatMap DA.cells:=rfl
  rw [hcells]
  refine ⟨by simp [us2,pre,h.len],h.lt,λ p d u hd hu hm=>?_,λ j p hj=>by simp at hj,λ j1 j2 b hne h1=>by simp at h1,λ j b hj=>by simp at hj,h.st,λ j b hj=>by simp at hj⟩
  by_cases hlt:p<pre.length
  ·rw [List.getElem?_append_left hlt] at hd
   rw [List.getElem?_append_left (by simp;omega)] at hu
   cases p with
   | zero=>simp [pre] at hd hu;subst hd;subst hu;rfl
   | succ p=>
    simp only [pre,List.getElem?_cons_succ,List.getElem?_replicate] at hd hu
    split at hd
    ·obtain rfl:=Option.some.inj hd
     rename_i hq
     rw [if_pos hq] at hu
     exact (Option.some.inj hu).symm
    ·cases hd
  ·rw [List.getElem?_append_right (by omega)] at hd
   rw [List.getElem?_append_right (by simp;omega)] at hu
   exact h.rd _ _ _ hd (by simpa [hpl] using hu) (by simp)
 have hR:=Sj (N:=N) (M:=M) h2 (by simp [as2];omega)
 have hen2:(Iw [] as2).en=C4 [] (as.flatMap DA.cells) (2+pcs.length):=by
  show C4 [] (pre++as.flatMap DA.cells) 1=_
  simp only [pre,List.cons_append,C4]
  rw [Mo]
 have htm2:(Iw [] as2).tm=(0,.one (.agg (FS pre 1)))::Ev as 1 (2+pcs.length):=by
  show (0,_)::Ev as 1 (1+pre.length)=_
  rw [hpl,show 1+(pcs.length+1)=2+pcs.length by omega]
 have hvd:BA as2 us2=.agg (us2.take pre.length).toArray::BA as us:=by
  show _::BA as (us2.drop pre.length)=_
  rw [show us2.drop pre.length=us by simp [us2,hpl]]
 have hε2:∀ i,2+pcs.length<=i->us2.getD (i-1) undef=(E6 B vs us).ε i:=λ i hi=>by
  simp only [E6]
  rw [if_neg (by rw [hp.len];omega)]
  simp only [us2,List.getD_eq_getElem?_getD]
  rw [List.getElem?_append_right (by simp;omega)]
  congr 2
  simp [hp.len];omega
 have hmine:∀ b,w.heap.size<=b->(E6 B vs us).π b=0:=λ b hb=>if_neg (by omega)
 have hbox:=KF (F:=F) (w:=w) (m:=E6 B vs us) (id:=2) hp.len hp.rd (λ q u hu=>by
  have hq:=(List.getElem?_eq_some_iff.1 hu).1
  simp only [E6]
  rw [if_pos (by omega)]
  simp [List.getD_eq_getElem?_getD,hu])
 refine ⟨?_,rfl,Nat.le_refl _,Bel.refl _ _,λ t v hv=>?_,λ i E hE=>?_,by unfold alN;omega,h.st,λ i h1 h2=>?_,λ i hi=>⟨rfl,rfl⟩⟩
 ·simp [Mp];omega
 ·simp only [Mm,AR] at hv
  split at hv
  ·rename_i e
   subst e
   obtain rfl:=Option.some.inj hv
   refine ⟨?_,λ i hi=>?_⟩
   ·rw [Array.getD_eq_getD_getElem?,Array.getElem?_append_left (by simp)]
    simp [T.den,A.den,C.den,E6]
   ·simp only [T.ids,A.ids,C.ids,List.mem_singleton] at hi
    subst hi;unfold alN;omega
  ·rename_i ht
   have ht0:t≠0:=λ e=>ht e.symm
   obtain ⟨r1,r2⟩:=hR.tm t v (by rw [htm2,AR,if_neg ht];exact hv)
   have hids:=KE hv
   have hrange:∀ i ∈ v.ids,2+pcs.length<=i/\i<2+pcs.length+(as.flatMap DA.cells).length:=λ i hi=>by
    have a1:=hids i hi
    have a2:=(r2 i hi).2
    have e:(as2.flatMap DA.cells).length=pre.length+(as.flatMap DA.cells).length:=by
     show (pre++as.flatMap DA.cells).length=_
     simp
    rw [e,hpl] at a2
    omega
   refine ⟨?_,λ i hi=>by have:=hrange i hi;unfold alN;omega⟩
   have hsame:Maps.same (λ i=>2+pcs.length<=i) ⟨λ _=>0,λ i=>us2.getD (i-1) undef,λ b=>match (List.range ([]:List Nat).length).find? (λ j=>decide (b ∈ (λ _=>([]:List Nat)) j)) with|some j=>([]:List Nat).getD j 0+1|none=>0⟩ (E6 B vs us):=λ i hi=>by
    refine ⟨?_,(hε2 i hi).symm⟩
    show (if i=1 then B else 0)=0
    rw [if_neg (by omega)]
   rw [T.den_same hsame λ i hi=>(hrange i hi).1]
   refine Eq.trans ?_ r1
   rw [hvd]
   obtain ⟨t',rfl⟩:∃ t',t=t' + 1:=⟨t-1,by omega⟩
   simp only [Array.getD_eq_getD_getElem?,Array.getElem?_append,List.size_toArray,List.length_cons,List.getElem?_toArray,List.getElem?_cons_succ]
 ·simp only [Mm,AR] at hE
  split at hE
  ·rename_i e
   subst e
   obtain rfl:=Option.some.inj hE
   refine ⟨⟨.inr ⟨0,by show B ∈ (if 0=0 then [B] else []);simp⟩,by show (if B=B then 1 else 0)=1;simp,t0,?_⟩,by unfold alN;omega,λ j hj=>?_⟩
   ·rw [hbox.1];exact hat
   ·simp only [En.ids,List.mem_flatMap] at hj
    obtain ⟨c,hc,hj⟩:=hj
    have:=hbox.2 c hc j hj
    unfold alN;omega
  ·rw [Cq] at hE
   cases hpc:lkp (TW pcs 2) i with
   | some E'=>
    rw [hpc] at hE
    obtain rfl:=Option.some.inj hE
    obtain ⟨q,bs,rfl,hq,hd,rfl⟩:=IW hpc
    obtain ⟨u,hu⟩:∃ u,vs[q]?=some u:=⟨_,List.getElem?_eq_getElem (show q<vs.length by rw [hp.len];exact hq)⟩
    refine ⟨⟨F,?_,λ b hb=>.inl hb⟩,by unfold alN;omega,by simp [En.ids]⟩
    have:=hp.rd q _ _ hd hu
    simp only [E6]
    rw [if_pos (by rw [hp.len];omega),Nat.add_sub_cancel_left]
    simpa [List.getD_eq_getElem?_getD,hu,ROAt,Wr] using this
   | none=>
    rw [hpc,Option.none_or] at hE
    obtain ⟨r1,r2,r3⟩:=hR.en i E (by rw [hen2];exact hE)
    obtain ⟨s1,s2⟩:=D0 hE
    have e:(as2.flatMap DA.cells).length=pre.length+(as.flatMap DA.cells).length:=by
     show (pre++as.flatMap DA.cells).length=_
     simp
    have r2':=r2.2
    rw [e,hpl] at r2'
    have hε:=hε2 i s1
    have hmay:∀ b,b<w.heap.size∨w.heap.size<=b:=λ b=>Nat.lt_or_ge _ _
    rcases s2 with ⟨e',ts,rows,rfl⟩|⟨d,rfl⟩
    ·obtain ⟨F',f1,f2⟩:=r1
     refine ⟨⟨F',?_,λ b hb=>?_⟩,by unfold alN;omega,by simp [En.ids]⟩
     ·rw [← hε];exact f1
     ·rcases f2 b hb with g|⟨g,-⟩|⟨g,g2⟩
      ·exact .inl g
      ·rcases g with g|⟨j,g⟩
       ·exact .inr (.inl ⟨.inl g,hmine b g⟩)
       ·simp at g
      ·simp at g2
    ·obtain ⟨F',f1,f2⟩:=r1
     refine ⟨⟨F',?_,λ b hb=>?_⟩,by unfold alN;omega,by simp [En.ids]⟩
     ·rw [← hε];exact f1
     ·rcases f2 b hb with g|⟨g,-⟩|⟨g,g2⟩
      ·exact .inl g
      ·rcases g with g|⟨j,g⟩
       ·exact .inr (.inl ⟨.inl g,hmine b g⟩)
       ·simp at g
      ·simp at g2
 ·have h2:i<3:=h2
  unfold alN;omega
section
variable {P : Program} {Γ : Env} {n : Nat} {w0 : World} {al : Nat → Prop} {s : St} {m : Maps} {a : Act} {w : World}
theorem Hm (h:R Γ n w0 al s m a w) (hm:∀ b,Γ.mine b->m.π b≠1->Γ.base<=b) {bx:List C} (hb1:lkp s.en 1=some (.box bx)) {owns:List Nat} {w1:World} : ∀ {rcs:List RC} {cs:List C} {ps:List Prop},rcs.all AAF=true->FT s owns rcs cs=some ps->(∀ p ∈ ps,p)->(AZ rcs cs).Nodup ->
  ∃ bs:List Nat,bs.Nodup/\(∀ b ∈ bs,Γ.base<=b/\m.π b ∈ AZ rcs cs)/\∀ all:List Nat,BE Γ.G w1 w all rcs (cs.map (C.den m)) bs
 | [],[],ps,_,_,_,_=>⟨[],List.nodup_nil,by simp,λ _=>rfl⟩
 | [],_::_,ps,_,h,_,_=>by simp [FT] at h
 | _::_,[],ps,_,h,_,_=>by simp [FT] at h
 | rc::rcs,c::cs,ps,hio,hx,hp,hn=>by
  simp only [List.all_cons,Bool.and_eq_true] at hio
  simp only [FT] at hx
  split at hx
  ·rename_i p ps' h1 h2
   simp only [Option.some.injEq] at hx
   subst hx
   have hp1:=hp p (by simp)
   have hp2:∀ p ∈ ps',p:=λ q hq=>hp q (List.mem_cons_of_mem _ hq)
   cases rc with
   | im v=>
    cases c with
    | im u=>
     simp only [O6,Option.some.injEq] at h1
     rw [← h1] at hp1
     obtain ⟨bs,b1,b2,b3⟩:=Hm h hm hb1 (w1:=w1) hio.2 h2 hp2 (by simpa [AZ] using hn)
     exact ⟨bs,b1,by simpa [AZ] using b2,λ all=>by simp only [List.map_cons,BE,C.den];exact ⟨hp1,b3 all⟩⟩
    | _=>simp [O6] at h1
   | own e ts rows=>
    cases c with
    | ext k=>
     simp only [O6] at h1
     split at h1
     ·rename_i e' ts' rows' he
      split at h1
      ·rename_i hc
       simp only [Bool.and_eq_true,Nat.beq_eq] at hc
       obtain ⟨rfl,hc⟩:=hc
       have hc:=Ty.beqs_ok _ _ hc
       subst hc
       simp only [Option.some.injEq] at h1
       rw [← h1] at hp1
       simp only [AZ,List.nodup_cons] at hn
       obtain ⟨bs,b1,b2,b3⟩:=Hm h hm hb1 (w1:=w1) hio.2 h2 hp2 hn.2
       obtain ⟨q,q1,q2,q3⟩:=(h.en _ _ he).1
       rw [hp1] at q1
       have hk1:k≠1:=λ e=>by subst e;rw [hb1] at he;cases he
       refine ⟨q++bs,List.nodup_append.2 ⟨q2,b1,λ x hx y hy e=>?_⟩,λ b hb=>?_,λ all=>?_⟩
       ·subst e
        have:=(b2 x hy).2
        rw [(q3 x hx).2] at this
        exact hn.1 this
       ·rcases List.mem_append.1 hb with hb|hb
        ·exact ⟨hm _ (q3 b hb).1 (by rw [(q3 b hb).2];exact hk1),by rw [(q3 b hb).2];simp [AZ]⟩
        ·exact ⟨(b2 b hb).1,by simp only [AZ];exact List.mem_cons_of_mem _ (b2 b hb).2⟩
       ·simp only [List.map_cons,BE,C.den]
        exact ⟨q,bs,rfl,q1,b3 all⟩
      ·cases h1
     ·cases h1
    | im u=>
     have hu:u=.slice none 0 0/\([]=rows):=by
      unfold O6 at h1
      split at h1
      all_goals first|(rename_i g1 g2;cases g1)|skip
      all_goals simp_all
     obtain ⟨rfl,rfl⟩:=hu
     obtain ⟨bs,b1,b2,b3⟩:=Hm h hm hb1 (w1:=w1) hio.2 h2 hp2 (by simpa [AZ] using hn)
     refine ⟨bs,b1,by simpa [AZ] using b2,λ all=>?_⟩
     simp only [List.map_cons,BE,C.den]
     refine ⟨[],bs,rfl,?_,b3 all⟩
     simp only [Fp]
     exact ⟨[],[],World.ownsRow_nil _ _ _ _,rfl,rfl,by simp,by simp,by simp [Value.ownBlock]⟩
    | _=>simp [O6] at h1
   | view _ _ _=>simp [AAF] at hio
   | top _ _ _=>simp [AAF] at hio
  ·cases hx
def YM:PC->Bool
 | .im _=>true
 | .bt _=>false
def JD:List PC->Bool
 | .bt _::r=>r.all YM
 | _=>false
theorem OW:∀ {r:List PC} {id:Nat},r.all YM=true->∀ c ∈ DP r id,∀ i ∈ c.ids,False
 | [],_,_,c,hc,_,_=>by simp [DP] at hc
 | .im v::r,id,h,c,hc,i,hi=>by
  simp only [List.all_cons,Bool.and_eq_true] at h
  simp only [DP,List.mem_cons] at hc
  rcases hc with rfl|hc
  ·simp [C.ids] at hi
  ·exact OW h.2 c hc i hi
 | .bt _::r,id,h,c,hc,i,hi=>by simp [YM] at h
theorem V5 {pcs:List PC} (h:JD pcs=true):∀ c ∈ DP pcs 2,∀ i ∈ c.ids,i=2:=by
 unfold JD at h
 split at h
 ·intro c hc i hi
  simp only [DP,List.mem_cons] at hc
  rcases hc with rfl|hc
  ·simpa [C.ids] using hi
  ·exact (OW h c hc i hi).elim
 ·cases h
theorem ABm {X:Ctx} {f:Nat} {fn:Func} {body:Code} {c:Con} {cs pn:c.ι->List PC} (hm:P.follows .mixedOrders=true) (hT:TTok P X.tt) (hct:CTok P X.ct c.mono) (hil:InlOk P X.il) (hf:P.funcs[f]?=some fn) (hname:fn.name ≠ "runtime.NumGoroutine") (hb:fn.body=some body) (hn:fn.ntmps=X.n)
  (hsmall:∀ i,(c.res i).cells.length<=32) (hlen:∀ i,(c.args i).length+1<=X.n) (hpk:K8 X.hints=3) (hsh:∀ i,JD (cs i)=true) (iv:c.ι->List (Nat×Inv))
  (h:∀ i,c.pre i->Dt X body (iv i) (Mm (cs i) (c.args i)) (2+(cs i).length+((c.args i).flatMap DA.cells).length) λ e s _=>
   match e with
   | .exit _=>False
   | _=>AAG X.tt fn.results.toList s (DP (cs i) 2) (pn i) (c.res i)):c.OkP P f cs pn:=by
 refine ⟨⟨fn,hf,hname,by rw [hb];rfl⟩,hsmall,λ i hi F w us B vs hargs hpin=>?_⟩
 have hbt:∃ bs,(cs i)[0]?=some (.bt bs):=by
  have:=hsh i
  unfold JD at this
  split at this
  ·rename_i bs r e;exact ⟨bs,by rw [e];rfl⟩
  ·cases this
 have hini:=AAH (N:=X.n) (M:=c.mono) hargs hpin hbt (hlen i)
 refine calls_of_wp hf hb ?_
 rw [hn]
 refine BX hm hT hct hil (.inr hpk.symm) body (al:=λ _=>True) (h i hi) (by omega) hini ?_
 intro e s' nx' m' a' w' h1 h2 h3
 have fin:AAG X.tt fn.results.toList s' (DP (cs i) 2) (pn i) (c.res i)->a'.defers=[]/\∃ v,(results fn a'.tmps).run P w'=.ok v w'/\∃ rs bs,Ending.returned v=.returned ((c.res i).val rs)/\c.PostP i pn F w B vs rs bs w'/\(c.mono=true->w.drawn<=w'.drawn):=by
  intro hr
  refine ⟨h3.defers,?_⟩
  unfold AAG at hr
  split at hr
  case h_2=>exact hr.elim
  rename_i bx hbx
  split at hr
  case h_2=>exact hr.elim
  ·rename_i qs as hio hqs has
   split at hr
   ·exact hr.elim
   ·rename_i hchk
    simp only [Bool.and_eq_true] at hchk
    obtain ⟨⟨hshp,hnd⟩,htup⟩:=hchk
    split at hr
    ·exact hr.elim
    ·rename_i ps hps
     have hpq:=FQ hr
     have hp:∀ q ∈ ps,q:=λ q hq=>hpq q (List.mem_append.2 (.inl hq))
     have hend:=PZ hqs λ q hq=>hpq q (List.mem_append.2 (.inr hq))
     have hnd:=C1 hnd
     have hshp:=LM hshp
     let cs':=as.flatMap A.cells
     have hvals:(results fn a'.tmps).run P w'=.ok ((c.res i).val (cs'.map (C.den m'))) w':=by
      have e1:=EF hT h3 has
      have e2:results fn a'.tmps=(do let vs ← fn.results.mapM (Eu a'.tmps);pure (if h:vs.size=1 then vs[0] else .tuple vs)):=by
       unfold results
       congr 1
      rw [e2]
      have e3:(fn.results.mapM (Eu a'.tmps)).run P w'=.ok (as.map (A.den m')).toArray w':=by
       rw [Array.mapM_eq_mapM_toList,Sem.run_map]
       rw [e1]
       rfl
      simp only [Sem.run_bind,e3,Result.andThen_ok,Sem.run_pure]
      congr 1
      have hva:=LN m' as
      rw [hshp] at hva
      unfold RT.val
      cases ht:(c.res i).tup with
      | true=>
       rw [ht] at htup
       simp only [Bool.not_eq_true'] at htup
       have hne:as.length≠1:=λ e=>by rw [e] at htup;simp at htup
       rw [dif_neg (by simp [hne])]
       simp [cs',hva]
      | false=>
       rw [ht] at htup
       have h1:=Nat.eq_of_beq_eq_true htup
       rw [dif_pos (by simp [h1])]
       obtain ⟨x,rfl⟩:∃ x,as=[x]:=by
        match as,h1 with
        | [x],_=>exact ⟨x,rfl⟩
       simp only [cs',hva]
       rfl
     obtain ⟨⟨g1,g2,e0,g3⟩,-,-⟩:=h3.en _ _ hbx
     have hβ:m'.β 1=B:=(h3.gh.2 1 ⟨by omega,by show 1<3;omega⟩).1
     have hε:m'.ε 2=(E6 B vs us).ε 2:=(h3.gh.2 2 ⟨by omega,by show 2<3;omega⟩).2
     rw [hβ] at g2 g3
     have hmine:∀ b,(ACM F w B vs us c.mono hargs.lt hpin.out hargs.st.1 hpin.sb).mine b->w.heap.size<=b∨b=B:=λ b hb=>by
      rcases hb with hb|⟨j,hb⟩
      ·exact .inl hb
      ·have hb:b ∈ (if j=0 then [B] else []):=hb
       split at hb
       ·exact .inr (List.mem_singleton.1 hb)
       ·cases hb
     obtain ⟨bs,c1,c2,c3⟩:=Hm h3 (λ b hb hne=>by
      rcases hmine b hb with h|rfl
      ·exact h
      ·exact absurd g2 hne) hbx (w1:=w) hio hps hp hnd
     have hboxd:=KF (F:=F) (w:=w) (m:=E6 B vs us) (id:=2) hpin.len hpin.rd (λ q u hu=>by
      have hq:=(List.getElem?_eq_some_iff.1 hu).1
      simp only [E6]
      rw [if_pos (by omega)]
      simp [List.getD_eq_getElem?_getD,hu])
     have hturn:=Mn (m0:=E6 B vs us) (m:=m') hend (λ c0 hc0 j hj=>by rw [V5 (hsh i) c0 hc0 j hj];exact hε)
     rw [hboxd.1] at hturn
     refine ⟨_,hvals,cs'.map (C.den m'),bs,rfl,⟨c3 bs,c1,λ b hb=>(c2 b hb).1,⟨e0,by rw [← hturn];exact g3⟩,h3.below.os,h3.below.tape,h3.below.output,h3.below.size,λ b hb hne=>h3.below.block b λ hq=>?_⟩,λ hmo=>h3.below.drawn hmo⟩
     rcases hmine b hq with h|h
     ·omega
     ·exact hne h
 cases e with
 | normal=>obtain ⟨d1,v,d2,d3⟩:=fin h2;exact ⟨d1,v,d2,d3⟩
 | ret=>obtain ⟨d1,v,d2,d3⟩:=fin h2;exact ⟨d1,v,d2,d3⟩
 | exit id=>exact h2.elim
theorem YN {X:Ctx} {f:Nat} {fn:Func} {body:Code} {c:Con} {cs pn:c.ι->List PC} (hm:P.follows .mixedOrders=true) (hT:TTok P X.tt) (hct:CTok P X.ct c.mono) (hf:P.funcs[f]?=some fn) (iv:c.ι->List (Nat×Inv))
  (h:∀ i,c.pre i->Dt X body (iv i) (Mm (cs i) (c.args i)) (2+(cs i).length+((c.args i).flatMap DA.cells).length) λ e s _=>
   match e with
   | .exit _=>False
   | _=>AAG X.tt fn.results.toList s (DP (cs i) 2) (pn i) (c.res i)) (hil:InlOk P X.il:=by exact InlOk.nil _) (hname:fn.name ≠ "runtime.NumGoroutine" := by decide) (hb:fn.body=some body:=by exact rfl) (hn:fn.ntmps=X.n:=by exact rfl)
  (hsmall:∀ i,(c.res i).cells.length<=32:=by exact λ _=>Nat.le_of_ble_eq_true rfl) (hlen:∀ i,(c.args i).length+1<=X.n:=by exact λ _=>Nat.le_of_ble_eq_true rfl) (hpk:K8 X.hints=3:=by rfl) (hsh:∀ i,JD (cs i)=true:=by exact λ _=>rfl):c.OkP P f cs pn:=
 ABm hm hT hct hil hf hname hb hn hsmall hlen hpk hsh iv h
def V6:List PC->List C->Option (List Prop)
 | .im v::p,.im u::b=>(V6 p b).map ((u=v)::·)
 | .bt _::p,.ext k::b=>match Nat.beq k 1 with|true=>V6 p b|false=>none
 | [],[]=>some []
 | _,_=>none
def AAI (tt:TT) (rvs:List ResultVar) (s:St) (pc:List PC):Prop:=
 match FR tt s rvs with
 | some [.one (.bp k 0)]=>
  match lkp s.en k with
  | some (.box bx)=>match V6 pc bx with|some qs=>Sf qs|none=>False
  | _=>False
 | _=>False
theorem Mq {m:Maps} {v:Value} (hv:m.ε 1=v):∀ {pc:List PC} {bx:List C} {qs:List Prop},V6 pc bx=some qs->(∀ q ∈ qs,q)->bx.map (C.den m)=Ov v pc
 | [],[],_,_,_=>rfl
 | .im x::p,.im u::b,qs,h,hq=>by
  simp only [V6] at h
  obtain ⟨qs',h1,rfl⟩:=Option.map_eq_some_iff.1 h
  have:=Mq hv h1 λ q hq'=>hq q (List.mem_cons_of_mem _ hq')
  simp only [List.map_cons,Ov,this,C.den]
  rw [show u=x from hq _ (by simp)]
 | .bt _::p,.ext k::b,qs,h,hq=>by
  simp only [V6] at h
  split at h
  ·rename_i e
   have e:=Nat.eq_of_beq_eq_true e
   subst e
   have:=Mq hv h hq
   simp only [List.map_cons,Ov,this,C.den,hv]
  ·cases h
theorem ABn {X : Ctx} {f : Nat} {fn : Func} {body : Code} {c : Con} {pc : c.ι → List PC} (hm : P.follows .mixedOrders = true) (hT : TTok P X.tt) (hct : CTok P X.ct c.mono) (hil : InlOk P X.il) (hf : P.funcs[f]? = some fn) (hname : fn.name ≠ "runtime.NumGoroutine") (hb : fn.body = some body) (hn : fn.ntmps = X.n)
    (hlen : ∀ i, (c.args i).length ≤ X.n) (hpk : K8 X.hints = 2) (hone : ∀ i, ((c.args i).flatMap DA.cells).isEmpty = false) (iv : c.ι → List (Nat × Inv))
    (h : ∀ i, c.pre i → Dt X body (iv i) (Iw [] (c.args i)) (1 + ((c.args i).flatMap DA.cells).length) fun e s _ =>
      match e with
      | .exit _ => False
      | _ => AAI X.tt fn.results.toList s (pc i)) : c.OkN P f pc := by
  refine ⟨⟨fn, hf, hname, by rw [hb]; rfl⟩, fun i hi F w us hargs => ?_⟩
  have hini := Sj (N := X.n) (M := c.mono) hargs (hlen i)
  have hne : 0 < ((c.args i).flatMap DA.cells).length := by
    have := hone i
    cases hq : (c.args i).flatMap DA.cells with
    | nil => rw [hq] at this; cases this
    | cons _ _ => simp
  let m0 : Maps := ⟨fun _ => 0, fun i => us.getD (i - 1) undef, fun _ => 0⟩
  let Γ : Env := { base := w.heap.size, mono := c.mono, G := F, K := 2, m0 := m0
                   hG := fun b hb hq => by
                     rcases hq with hq | ⟨j, hq⟩
                     · have := hargs.lt b hb; omega
                     · cases hq
                   hst := fun b hb hq => by
                     rcases hq with hq | ⟨j, hq⟩
                     · have := hargs.st.1 b hb; omega
                     · cases hq }
  have hini2 : R Γ X.n w (alN (1 + ((c.args i).flatMap DA.cells).length)) (Iw [] (c.args i)) m0 { tmps := (BA (c.args i) us).toArray ++ Array.replicate (X.n - (BA (c.args i) us).toArray.size) undef, defers := [] } w :=
    ⟨hini.size, rfl, Nat.le_refl _, Bel.refl _ _, hini.tm, fun i E hE => by
      obtain ⟨e1, e2, e3⟩ := hini.en i E hE
      refine ⟨?_, e2, e3⟩
      have hsh : (∃ e ts rows, E = .view e ts rows []) ∨ ∃ d, E = .ro d [] := (D0 hE).2
      rcases hsh with ⟨e, ts, rows, rfl⟩ | ⟨d, rfl⟩
      · obtain ⟨F', f1, f2⟩ := e1
        refine ⟨F', f1, fun b hb => ?_⟩
        rcases f2 b hb with g | ⟨g, g2⟩ | ⟨g, g2⟩
        · exact .inl g
        · exact .inr (.inl ⟨g.imp id fun ⟨j, g⟩ => by simp at g, g2⟩)
        · simp at g2
      · obtain ⟨F', f1, f2⟩ := e1
        refine ⟨F', f1, fun b hb => ?_⟩
        rcases f2 b hb with g | ⟨g, g2⟩ | ⟨g, g2⟩
        · exact .inl g
        · exact .inr (.inl ⟨g.imp id fun ⟨j, g⟩ => by simp at g, g2⟩)
        · simp at g2, hini.pos, hini.st, fun i h1 h2 => by
      have h2 : i < 2 := h2
      unfold alN; omega, fun i hi => ⟨rfl, rfl⟩⟩
  refine calls_of_wp hf hb ?_
  rw [hn]
  refine BX hm hT hct hil (.inr hpk.symm) body (al := fun _ => True) (h i hi) (by omega) hini2 ?_
  intro e s' nx' m' a' w' h1 h2 h3
  have fin : AAI X.tt fn.results.toList s' (pc i) → a'.defers = [] ∧ ∃ v, (results fn a'.tmps).run P w' = .ok v w' ∧ ∃ B, Ending.returned v = .returned (.pointer (some ⟨B, 0, none⟩)) ∧ c.PostN i pc w us B w' ∧ (c.mono = true → w.drawn ≤ w'.drawn) := by
    intro hr
    refine ⟨h3.defers, ?_⟩
    unfold AAI at hr
    split at hr
    case h_2 => exact hr.elim
    rename_i k has
    split at hr
    case h_2 => exact hr.elim
    rename_i bx hbx
    split at hr
    case h_2 => exact hr.elim
    rename_i qs hqs
    have hq := FQ hr
    have hvals : (results fn a'.tmps).run P w' = .ok (.pointer (some ⟨m'.β k, 0, none⟩)) w' := by
      have e1 := EF hT h3 has
      have e2 : results fn a'.tmps = (do let vs ← fn.results.mapM (Eu a'.tmps); pure (if h : vs.size = 1 then vs[0] else .tuple vs)) := by
        unfold results
        congr 1
      rw [e2]
      have e3 : (fn.results.mapM (Eu a'.tmps)).run P w' = .ok ([A.one (.bp k 0)].map (A.den m')).toArray w' := by
        rw [Array.mapM_eq_mapM_toList, Sem.run_map]
        rw [e1]
        rfl
      simp only [Sem.run_bind, e3, Result.andThen_ok, Sem.run_pure]
      rw [dif_pos (by simp)]
      simp [A.den, C.den]
    obtain ⟨⟨g1, g2, e0, g3⟩, -, -⟩ := h3.en _ _ hbx
    have hmine : ∀ b, Γ.mine b → w.heap.size ≤ b := fun b hb => hb.resolve_right fun ⟨j, hj⟩ => by cases hj
    have hε : m'.ε 1 = us.headD undef := by
      have := (h3.gh.2 1 ⟨by omega, by show 1 < 2; omega⟩).2
      rw [this]
      show us.getD 0 undef = _
      cases us <;> rfl
    refine ⟨_, hvals, m'.β k, rfl, ⟨hmine _ g1, ⟨e0, ?_⟩, h3.below.os, h3.below.tape, h3.below.output, h3.below.size, fun b hb => h3.below.block b fun hq => ?_⟩, fun hmo => h3.below.drawn hmo⟩
    · rw [← Mq hε hqs hq]; exact g3
    · have := hmine b hq; omega
  cases e with
  | normal => obtain ⟨d1, v, d2, d3⟩ := fin h2; exact ⟨d1, v, d2, d3⟩
  | ret => obtain ⟨d1, v, d2, d3⟩ := fin h2; exact ⟨d1, v, d2, d3⟩
  | exit id => exact h2.elim
theorem ACN {X:Ctx} {f:Nat} {fn:Func} {body:Code} {c:Con} {pc:c.ι->List PC} (hm:P.follows .mixedOrders=true) (hT:TTok P X.tt) (hct:CTok P X.ct c.mono) (hf:P.funcs[f]?=some fn) (iv:c.ι->List (Nat×Inv))
  (h:∀ i,c.pre i->Dt X body (iv i) (Iw [] (c.args i)) (1+((c.args i).flatMap DA.cells).length) λ e s _=>
   match e with
   | .exit _=>False
   | _=>AAI X.tt fn.results.toList s (pc i)) (hil:InlOk P X.il:=by exact InlOk.nil _) (hname:fn.name ≠ "runtime.NumGoroutine" := by decide) (hb:fn.body=some body:=by exact rfl) (hn:fn.ntmps=X.n:=by exact rfl)
  (hlen:∀ i,(c.args i).length<=X.n:=by exact λ _=>Nat.le_of_ble_eq_true rfl) (hpk:K8 X.hints=2:=by rfl) (hone:∀ i,((c.args i).flatMap DA.cells).isEmpty=false:=by exact λ _=>rfl):c.OkN P f pc:=
 ABn hm hT hct hil hf hname hb hn hlen hpk hone iv h
end
section
open Go.Deep Go.ChangeShapes Go.WideShapes
variable {H : Type} {enc : TypeId × Value → H} {P : Program} {w : World} {held : Bool}
theorem TX {spare:Nat->Bool} {t e fuel:Nat} {v:Value} {x:DataW H×List MemPlace} (ht:P.underlying t=some (.slice e)) (he:P.underlying e=some (.int .u8)) (hc:P.cellsOf e=1) (hx:DataW.trod enc P w 0 spare held fuel t [v]=some x):∃ bs:List UInt8,Fj (λ b=>b<w.heap.size) w bs v:=by
 rcases open_slice ht hx with ⟨hcs,_⟩|⟨a,len,cap,m,n,D,Pl,hcs,_,hle,hm,hmm,_,hel⟩
 ·obtain rfl:v=_:=by simpa using hcs
  exact ⟨[],none,0,rfl,λ j hj=>by simp at hj⟩
 ·obtain rfl:v=_:=by simpa using hcs
  have hlm:len<=m:=by rw [hmm];split <;> omega
  obtain ⟨g,hg⟩:=choose_lt (n:=len) (p:=λ i (k:UInt8)=>w.cell? (a.add i)=some (.int .u8 ((k.toNat:Nat):Int))) λ i hi=>by
   obtain ⟨r,h1,h2⟩:=hel i (by omega)
   obtain ⟨k,rfl,_,hw⟩:=DataW.trod_int he h2
   have hw:(decide ((0:Int)<=k) && decide (k<=255))=true:=hw
   simp at hw
   refine ⟨UInt8.ofNat k.toNat,?_⟩
   have c0:=(World.cells?_some h1).2.2 0 (by rw [hc];omega)
   rw [hc,Nat.mul_one] at c0
   have e1:(a.add i).add 0=a.add i:=by unfold Addr.add;simp
   rw [e1] at c0
   rw [c0]
   have:(UInt8.ofNat k.toNat).toNat=k.toNat:=by rw [UInt8.toNat_ofNat'];omega
   rw [this]
   simp only [List.getElem?_cons_zero]
   rw [Int.toNat_of_nonneg hw.1]
  refine ⟨(List.range len).map g,some a,cap,by simp,λ j hj=>?_⟩
  simp only [List.length_map,List.length_range] at hj
  have h1:=hg j hj
  have h0:=hg 0 (by omega)
  rw [show a.add 0=a by unfold Addr.add;simp] at h0
  obtain ⟨b,off,rfl,hb⟩:=Qt h0
  rw [Zd] at h1
  exact ⟨b,off,rfl,hb,hb,by rw [h1];simp [List.getD,hj]⟩
theorem TY {c:Con} {f:Nat} (hc:c.Ok P f) (hmu:c.mu=[]) (i:c.ι) (hp:c.pre i) (hres:c.res i=⟨false,[none],[.im (.bool true)]⟩) {bs:List UInt8} {v:Value} (ha:c.args i=[.one (.ro (.bytes bs))]) (h:Fj (λ b=>b<w.heap.size) w bs v) (hst:Stood w:=by exact ⟨λ _ hb=>(List.not_mem_nil hb).elim,trivial⟩) :
  Calls P f #[v] w λ e w'=>e=.returned (.bool true)/\Below w.heap.size w w':=by
 have hv:(BA (c.args i) [v]).toArray=#[v]:=by rw [ha];rfl
 rw [← hv]
 refine (hc.calls i hp (λ b=>b<w.heap.size) w [v] (λ _=>[]) ⟨by rw [ha];rfl,λ _ h=>h,λ p d u hd hu _=>?_,λ j p hj=>?_,λ a b x _ _ _ hx=>by simp at hx,λ j b _ hb=>by simp at hb,hst,λ j b _ hb=>by simp at hb⟩).mono ?_
 ·rw [ha] at hd
  have hp0:p=0:=by have:=(List.getElem?_eq_some_iff.1 hu).1;simp at this;exact this
  subst hp0
  simp [DA.cells] at hd hu
  subst hd
  subst hu
  exact h
 ·rw [hmu] at hj;simp at hj
 ·rintro e w' ⟨rs,bs',rfl,hpost⟩
  have hr:=hpost.res
  rw [hres] at hr
  refine ⟨?_,hpost.os,hpost.tape,hpost.output,hpost.size,λ b hb=>hpost.keep b hb (λ j hj=>by rw [hmu] at hj;simp at hj)⟩
  rw [hres]
  cases rs with
  | nil=>simp [BE] at hr
  | cons r rs=>
   obtain ⟨rfl,hr⟩:=(by simpa only [BE] using hr:r=_/\_)
   rfl
end
end Go.Proofs.YtkffpiaagjcmpaaGreat
