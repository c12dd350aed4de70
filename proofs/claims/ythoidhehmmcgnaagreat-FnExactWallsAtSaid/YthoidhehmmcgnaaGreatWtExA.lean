import Derived.Test.YthoidhehmmcgnaaGreatWtStd
import Derived.Orders
import Derived.Laws.FloatArith
import Derived.Laws.Tables
import Derived.Laws.Cells
import Derived.Laws.CopyRow
import Derived.Great.BuildSlice
import Derived.Maps.AppendAt
import Derived.Laws.MakeOwn
import Derived.Laws.IdiomStrings
namespace Go.Proofs.YthoidhehmmcgnaaGreat
set_option linter.unusedVariables false
set_option linter.unusedSimpArgs false
open Go.RowKit
def Stood(w:World):Prop:=(∀b ∈ stB,b<w.heap.size)/\stP (stB.map λb=>w.heap[b]?)
theorem Stood.keep{w w' : World}(h:Stood w)(hs:w.heap.size<=w'.heap.size)(hb:∀b ∈ stB,w'.heap[b]?=w.heap[b]?):Stood w':=
 ⟨λb hm=>Nat.lt_of_lt_of_le (h.1 b hm) hs,by rw[List.map_congr_left (g:=λb=>w.heap[b]?) hb];exact h.2⟩
theorem Jv{α:Type} : ∀(x:Ask α)(w:World),w.drawn<=(w.ask x).2.drawn
 | .done a,w=>Nat.le_refl _| .ask what range k,w=>by unfold World.ask;simp only;split;exact Jv _ _;exact Nat.le_trans (Nat.le_succ _) (Jv (k _) {w with drawn:=w.drawn+1})
theorem VN(w:World)(c:Sys):w.drawn<=(w.sys c).2.drawn:=by have h:=Jv (Kernel.perform c w.os) w;unfold World.sys;split;exact Nat.le_refl _;rename_i r os w2 _ e;rw[e]at h;exact h
theorem LW{p:Program}{w w' : World}{at_:Addr}{u:TypeId}{k:Addr}{v:Value}{atomic:Bool}{l:List Addr}(h:w.viewStore p at_ u k v atomic=.ok (w',l)):w'.drawn=w.drawn:=by
 unfold World.viewStore at h;simp only[bind,Except.bind,pure,Except.pure]at h;repeat' split at h
 all_goals first|(cases h;rfl)|cases h
theorem Lx{p:Program}{w w' : World}{a:Addr}{v:Value}{b:Bool}{l:List Addr}(h:w.farStore p a v b=.ok (w',l)):w'.drawn=w.drawn:=by unfold World.farStore at h;split at h;split at h;rename_i r e;cases h;exact LW e;cases h;cases h
theorem VO{α:Type}{P:Program} : ∀(s:Sem α){w w' : World}{v:α},s.run P w=.ok v w'->w.drawn<=w'.drawn:=by
 intro s;induction s with
 |pure a=>intro w w' v h;unfold Sem.run at h;cases h;exact Nat.le_refl _|load m a k ih=>
  intro w w' v h;unfold Sem.run at h;split at h;·exact ih _ h
  ·split at h
   ·exact ih _ h
   ·cases h
 |store m a x k ih=>
  intro w w' v h
  have key:(match w.cell? a with
   |some _=>if w.frozen? a then Result.halt (.unsupported (.unsafePointer "a write to bytes that a string shares")) w else k.run P (w.setCell a x)
   |none=>match w.farStore P a x (m == Mode.atomic)with| .ok (w,_)=>k.run P w| .error h=>.halt h w)=.ok v w'->w.drawn<=w'.drawn:=by
   intro h;split at h
   ·split at h
    ·cases h
    ·have h2:=ih h;exact h2
   ·split at h
    ·rename_i e
     have e2:=Lx e;have:=ih h;omega
    ·cases h
  cases x;all_goals first|(simp only[Sem.run]at h;cases h;done)|exact key h
 |new o k ih=>intro w w' v h;unfold Sem.run at h;have h2:=ih _ h;exact h2|shape r k ih=>intro w w' v h;unfold Sem.run at h;exact ih _ h|freeze a n k ih=>intro w w' v h;unfold Sem.run at h;have:=ih h;unfold World.freeze at this;split at this <;> exact this|frozen a k ih=>intro w w' v h;unfold Sem.run at h;exact ih _ h|getObj r k ih=>
  intro w w' v h;unfold Sem.run at h;split at h;·cases h
  ·exact ih _ h
  ·cases h
 |setObj r o k ih=>
  intro w w' v h;unfold Sem.run at h;split at h;·cases h
  ·have h2:=ih h;exact h2
  ·cases h
 |choose q k ih=>
  intro w w' v h;unfold Sem.run at h;split at h;·exact ih _ h
  ·exact Nat.le_trans (Nat.le_succ _) (ih _ h)
 |sys c k ih=>intro w w' v h;unfold Sem.run at h;exact Nat.le_trans (VN w c) (ih _ h)|program k ih=>intro w w' v h;unfold Sem.run at h;exact ih _ h|mark m k ih=>intro w w' v h;unfold Sem.run at h;exact ih h|halt h=>intro w w' v e;unfold Sem.run at e;cases e
def lkp{α:Type _} : List (Nat×α)->Nat->Option α
 | [],_=>none|(i,x)::r,n=>if Nat.beq i n=true then some x else lkp r n
theorem AY{α:Type _}(i:Nat)(x:α)(r:List (Nat×α))(n:Nat):lkp ((i,x)::r) n=if i=n then some x else lkp r n:=by simp only[lkp,Nat.beq_eq]
theorem Eu{α:Type _}(a b:List (Nat×α))(n:Nat):lkp (a++b) n=(lkp a n).or (lkp b n):=by
 induction a with|nil=>simp[lkp]|cons x r ih=>obtain⟨i,y⟩:=x;simp only[List.cons_append,AY];split <;> simp[ih]
theorem ET{α:Type _}{a:List (Nat×α)}{n:Nat}{x:α}(h:lkp a n=some x):(n,x) ∈ a:=by
 induction a with|nil=>simp[lkp]at h|cons y r ih=>obtain⟨i,z⟩:=y;rw[AY]at h;split at h;rename_i e;subst e;simp at h;simp[h];exact List.mem_cons_of_mem _ (ih h)
inductive C where
 |im (v:Value)
 |bp (i off:Nat)
 |ep (k sz i j:Nat)
 |ext (k:Nat)
 |clo (f:Nat) (caps:List Nat)
 /-- a function that looks at variables (true) and at what numbers' pointers point to -/
 |clx (f:Nat) (caps:List (Bool×Nat))
 /-- a cell of what a number's pointer points to -/
 |pp (k o:Nat)
 /-- what a number's function has captured -/
 |cp (k j:Nat)
inductive A where
 |one (c:C)
 |agg (cs:List C)
inductive T where
 |one (a:A)
 |tup (as:List A)
structure Maps where
 β:Nat->Nat
 ε:Nat->Value
 π:Nat->Nat
def C5(v:Value)(o:Nat):Value:=
 match v with| .slice (some a) _ _=>.pointer (some (a.add o))|_=>undef
def Yu(v:Value)(o:Nat):Value:=
 match v with| .pointer (some a)=>.pointer (some (a.add o))|_=>undef
def Wj(v:Value)(j:Nat):Value:=
 match v with| .func _ _ caps=>caps.getD j undef|_=>undef
def Nd(m:Maps)(x:Bool×Nat):Value:=if x.1=true then .pointer (some ⟨m.β x.2,0,none⟩)else m.ε x.2
def C.den(m:Maps):C->Value
 | .im v=>v| .bp i o=>.pointer (some ⟨m.β i,o,none⟩)| .ep k sz i j=>C5 (m.ε k) (i*sz+j)| .ext k=>m.ε k| .clo f caps=>.func (.func f) #[] (caps.map λi=>.pointer (some ⟨m.β i,0,none⟩)).toArray| .clx f caps=>.func (.func f) #[] (caps.map (Nd m)).toArray| .pp k o=>Yu (m.ε k) o| .cp k j=>Wj (m.ε k) j
def A.den(m:Maps):A->Value
 | .one c=>c.den m| .agg cs=>.agg (cs.map (C.den m)).toArray
def T.den(m:Maps):T->Value
 | .one a=>a.den m| .tup as=>.tuple (as.map (A.den m)).toArray
def C.ids:C->List Nat
 | .im _=>[]| .bp i _=>[i]| .ep k _ _ _=>[k]| .ext k=>[k]| .clo _ caps=>caps| .clx _ caps=>caps.map (·.2)| .pp k _=>[k]| .cp k _=>[k]
def A.ids:A->List Nat
 | .one c=>c.ids| .agg cs=>cs.flatMap C.ids
def T.ids:T->List Nat
 | .one a=>a.ids| .tup as=>as.flatMap A.ids
def Maps.same(S:Nat->Prop)(m m' : Maps):Prop:=∀i,S i->m'.β i=m.β i/\m'.ε i=m.ε i
theorem C.den_same{S:Nat->Prop}{m m' : Maps}(h:Maps.same S m m'){c:C}(hc:∀i ∈ c.ids,S i):c.den m'=c.den m:=by
 cases c with|im v=>rfl|bp i o=>simp only[C.den];rw[(h i (hc i (by simp[C.ids]))).1]|ep k sz i j=>simp only[C.den];rw[(h k (hc k (by simp[C.ids]))).2]|ext k=>exact(h k (hc k (by simp[C.ids]))).2|clo f caps=>simp only[C.den];congr 2;refine List.map_congr_left λi hi=>?_;rw[(h i (hc i (by simpa[C.ids]using hi))).1]|clx f caps=>simp only[C.den];congr 2;refine List.map_congr_left λx hx=>?_;have:=h x.2 (hc x.2 (List.mem_map.2 ⟨x,hx,rfl⟩));unfold Nd;rw[this.1,this.2]|pp k o=>simp only[C.den];rw[(h k (hc k (by simp[C.ids]))).2]|cp k j=>simp only[C.den];rw[(h k (hc k (by simp[C.ids]))).2]
theorem A.den_same{S:Nat->Prop}{m m' : Maps}(h:Maps.same S m m'){a:A}(ha:∀i ∈ a.ids,S i):a.den m'=a.den m:=by
 cases a with|one c=>exact C.den_same h ha|agg cs=>simp only[A.den];congr 2;exact List.map_congr_left λc hc=>C.den_same h λi hi=>ha i (List.mem_flatMap.2 ⟨c,hc,hi⟩)
theorem T.den_same{S:Nat->Prop}{m m' : Maps}(h:Maps.same S m m'){t:T}(ht:∀i ∈ t.ids,S i):t.den m'=t.den m:=by
 cases t with|one a=>exact A.den_same h ht|tup as=>simp only[T.den];congr 2;exact List.map_congr_left λa ha=>A.den_same h λi hi=>ht i (List.mem_flatMap.2 ⟨a,ha,hi⟩)
inductive LC where
 |im (v:Value)
 |sl (e:Nat) (ts:List Ty) (rows:List (List Dat))
inductive RO where
 |ptr (cs:List LC)
 |fn (g:Nat) (caps:List (List LC))
 /-- bytes -/
 |bytes (bs:List UInt8)
inductive En where
 |box (cs:List C)
 |own (e:Nat) (ts:List Ty) (rows:List (List Dat))
 |top (e:Nat) (ts:List Ty) (rows:List (List Dat)) (deps:List Nat)
 |view (e:Nat) (ts:List Ty) (rows:List (List Dat)) (deps:List Nat)
 |ro (d:RO) (deps:List Nat)
 /-- an argument that may turn, the jth -/
 |mu (e:Nat) (ts:List Ty) (rows:List (List Dat)) (j:Nat)
 /-- the slice in cell c of row r of such a one, k; a row there has sz cells -/
 |part (e:Nat) (ts:List Ty) (rows:List (List Dat)) (k sz r c:Nat)
 |dead
theorem Jw{w w' : World}{a:Addr}(h:w'.heap[a.block]?=w.heap[a.block]?):w'.cell? a=w.cell? a:=by unfold World.cell?;rw[h]
theorem SlAt.same{w w' : World}{sz:Nat}{v:Value}{xs:List (List Value)}(hs:w.heap.size<=w'.heap.size)(hb:∀b,b<w.heap.size->w'.heap[b]?=w.heap[b]?)(h:SlAt sz w v xs):SlAt sz w' v xs:=by obtain⟨a,cap,h1,h2,h3,h4,h5⟩:=h;refine⟨a,cap,h1,h2,h3,h4,?_⟩;rcases h5 with h5|⟨b,off,h5,h6,h7⟩;exact .inl h5;refine .inr ⟨b,off,h5,Nat.lt_of_lt_of_le h6 hs,λj hj i hi=>?_⟩;rw[Jw (hb b h6)];exact h7 j hj i hi
mutual
theorem Rd.same{w w' : World}(hs:w.heap.size<=w'.heap.size)(hb:∀b,b<w.heap.size->w'.heap[b]?=w.heap[b]?):∀(t:Ty)(d:Dat)(v:Value),Rd w t d v->Rd w' t d v
 | .int,d,v=>λh=>by cases d <;> simp only[Rd]at h ⊢ <;> exact h| .bool,d,v=>λh=>by cases d <;> simp only[Rd]at h ⊢ <;> exact h| .str,d,v=>λh=>by cases d <;> simp only[Rd]at h ⊢ <;> exact h| .sl e ts,d,v=>λh=>by
  cases d with|sl ls=>simp only[Rd]at h ⊢;obtain⟨rows,h1,h2,h3⟩:=h;exact⟨rows,h1.same hs hb,h2,λk hk=>RdRow.same hs hb ts _ _ (h3 k hk)⟩|_=>simp[Rd]at h
theorem RdRow.same{w w' : World}(hs:w.heap.size<=w'.heap.size)(hb:∀b,b<w.heap.size->w'.heap[b]?=w.heap[b]?):∀(ts:List Ty)(ds:List Dat)(vs:List Value),RdRow w ts ds vs->RdRow w' ts ds vs
 | [],ds,vs=>λh=>by cases ds <;> cases vs <;> simp[RdRow]at h ⊢|t::ts,[],vs=>λh=>by simp[RdRow]at h|t::ts,d::ds,[]=>λh=>by simp[RdRow]at h|t::ts,d::ds,v::vs=>λh=>by simp only[RdRow]at h ⊢;exact⟨Rd.same hs hb t d v h.1,RdRow.same hs hb ts ds vs h.2⟩
end
theorem No{w w' : World}{base:Nat}{e:TypeId}{size:Nat}{v:Value}{n:Nat}{xs:List Value}(h:w.ownsRow base e size v n xs)(hb:∀b,v.ownBlock=some b->w'.heap[b]?=w.heap[b]?):w'.ownsRow base e size v n xs:=by obtain⟨h1,h2⟩:=h;refine⟨h1,?_⟩;rcases h2 with h2|⟨g,cap,cur,hv,hg,hh,r⟩;exact .inl h2;exact .inr ⟨g,cap,cur,hv,hg,by rw[hb g (by rw[hv];rfl)];exact hh,r⟩
mutual
theorem Fp.same{w w' : World} : ∀(t:Ty)(d:Dat)(v:Value)(bs:List Nat),Fp w t d v bs->(∀b ∈ bs,w'.heap[b]?=w.heap[b]?)->Fp w' t d v bs
 | .int,d,v,bs=>λh _=>by cases d <;> simp only[Fp]at h ⊢ <;> exact h| .bool,d,v,bs=>λh _=>by cases d <;> simp only[Fp]at h ⊢ <;> exact h| .str,d,v,bs=>λh _=>by cases d <;> simp only[Fp]at h ⊢ <;> exact h| .sl e ts,d,v,bs=>λh hS=>by
  cases d with|sl ls=>simp only[Fp]at h ⊢;obtain⟨rows,bss,h1,h2,h3,h4,h5,rfl⟩:=h;exact⟨rows,bss,No h1 (λk hk=>hS k (by simp[hk])),h2,h3,h4,λk hk=>FpRow.same ts _ _ _ (h5 k hk) (λb hb=>hS b (List.mem_append.2 (.inr (AM hb)))),rfl⟩|_=>simp[Fp]at h
theorem FpRow.same{w w' : World} : ∀(ts:List Ty)(ds:List Dat)(vs:List Value)(bs:List Nat),FpRow w ts ds vs bs->(∀b ∈ bs,w'.heap[b]?=w.heap[b]?)->FpRow w' ts ds vs bs
 | [],ds,vs,bs=>λh _=>by cases ds <;> cases vs <;> simp[FpRow]at h ⊢;exact h|t::ts,[],vs,bs=>λh _=>by simp[FpRow]at h|t::ts,d::ds,[],bs=>λh _=>by simp[FpRow]at h|t::ts,d::ds,v::vs,bs=>λh hS=>by simp only[FpRow]at h ⊢;obtain⟨b1,b2,rfl,h1,h2⟩:=h;exact⟨b1,b2,rfl,Fp.same t d v b1 h1 (λb hb=>hS b (List.mem_append.2 (.inl hb))),FpRow.same ts ds vs b2 h2 (λb hb=>hS b (List.mem_append.2 (.inr hb)))⟩
end
mutual
def RdS(F:Nat->Prop)(w:World):Ty->Dat->Value->Prop
 | .int,.int n,v=>v=.int .i64 n| .bool,.bool b,v=>v=.bool b| .str,.str s,v=>v=.string s| .sl _ ts,.sl ls,v=>∃rows:List (List Value),SlAt ts.length w v rows/\(rows≠[]->∀b,v.ownBlock=some b->F b)/\rows.length=ls.length/\∀k,k<ls.length->RdRowS F w ts (ls.getD k []) (rows.getD k [])|_,_,_=>False
def RdRowS(F:Nat->Prop)(w:World):List Ty->List Dat->List Value->Prop
 | [],[],[]=>True|t::ts,d::ds,v::vs=>RdS F w t d v/\RdRowS F w ts ds vs|_,_,_=>False
end
theorem SlAt.sameS{w w' : World}{sz:Nat}{v:Value}{xs:List (List Value)}(hs:w.heap.size<=w'.heap.size)(hb:xs≠[]->∀b,b<w.heap.size->v.ownBlock=some b->w'.heap[b]?=w.heap[b]?)(h:SlAt sz w v xs):SlAt sz w' v xs:=by obtain⟨a,cap,h1,h2,h3,h4,h5⟩:=h;refine⟨a,cap,h1,h2,h3,h4,?_⟩;rcases h5 with h5|⟨b,off,h5,h6,h7⟩;exact .inl h5;refine .inr ⟨b,off,h5,Nat.lt_of_lt_of_le h6 hs,λj hj i hi=>?_⟩;rw[Jw (hb (λe=>by subst e;simp at hj) b h6 (by rw[h1,h5];rfl))];exact h7 j hj i hi
mutual
theorem RdS.step{F:Nat->Prop}{w w' : World}(hs:w.heap.size<=w'.heap.size)(hF:∀b,b<w.heap.size->F b->w'.heap[b]?=w.heap[b]?):∀(t:Ty)(d:Dat)(v:Value),RdS F w t d v->RdS (λb=>F b/\b<w.heap.size) w' t d v
 | .int,d,v=>λh=>by cases d <;> simp only[RdS]at h ⊢ <;> exact h| .bool,d,v=>λh=>by cases d <;> simp only[RdS]at h ⊢ <;> exact h| .str,d,v=>λh=>by cases d <;> simp only[RdS]at h ⊢ <;> exact h| .sl e ts,d,v=>λh=>by
  cases d with
  |sl ls=>simp only[RdS]at h ⊢;obtain⟨rows,h1,h2,h3,h4⟩:=h;refine⟨rows,h1.sameS hs (λa0 b hb hv=>hF b hb (h2 a0 b hv)),λa0 b hv=>⟨h2 a0 b hv,?_⟩,h3,λk hk=>RdRowS.step hs hF ts _ _ (h4 k hk)⟩;obtain⟨a,cap,e1,_,_,_,h5⟩:=h1;rcases h5 with h5|⟨b',off,h5,h6,_⟩;exact absurd h5.1 a0;rw[e1,h5]at hv;simp[Value.ownBlock]at hv;omega
  |_=>simp[RdS]at h
theorem RdRowS.step{F:Nat->Prop}{w w' : World}(hs:w.heap.size<=w'.heap.size)(hF:∀b,b<w.heap.size->F b->w'.heap[b]?=w.heap[b]?):∀(ts:List Ty)(ds:List Dat)(vs:List Value),RdRowS F w ts ds vs->RdRowS (λb=>F b/\b<w.heap.size) w' ts ds vs
 | [],ds,vs=>λh=>by cases ds <;> cases vs <;> simp[RdRowS]at h ⊢|t::ts,[],vs=>λh=>by simp[RdRowS]at h|t::ts,d::ds,[]=>λh=>by simp[RdRowS]at h|t::ts,d::ds,v::vs=>λh=>by simp only[RdRowS]at h ⊢;exact⟨RdS.step hs hF t d v h.1,RdRowS.step hs hF ts ds vs h.2⟩
end
mutual
theorem RdS.rd{F:Nat->Prop}{w:World} : ∀(t:Ty)(d:Dat)(v:Value),RdS F w t d v->Rd w t d v
 | .int,d,v=>λh=>by cases d <;> simp only[RdS,Rd]at h ⊢ <;> exact h| .bool,d,v=>λh=>by cases d <;> simp only[RdS,Rd]at h ⊢ <;> exact h| .str,d,v=>λh=>by cases d <;> simp only[RdS,Rd]at h ⊢ <;> exact h| .sl e ts,d,v=>λh=>by
  cases d with|sl ls=>simp only[RdS,Rd]at h ⊢;obtain⟨rows,h1,h2,h3,h4⟩:=h;exact⟨rows,h1,h3,λk hk=>RdRowS.rd ts _ _ (h4 k hk)⟩|_=>simp[RdS]at h
theorem RdRowS.rd{F:Nat->Prop}{w:World} : ∀(ts:List Ty)(ds:List Dat)(vs:List Value),RdRowS F w ts ds vs->RdRow w ts ds vs
 | [],ds,vs=>λh=>by cases ds <;> cases vs <;> simp[RdRowS,RdRow]at h ⊢|t::ts,[],vs=>λh=>by simp[RdRowS]at h|t::ts,d::ds,[]=>λh=>by simp[RdRowS]at h|t::ts,d::ds,v::vs=>λh=>by simp only[RdRowS,RdRow]at h ⊢;exact⟨RdS.rd t d v h.1,RdRowS.rd ts ds vs h.2⟩
end
mutual
theorem RdS.mono{F G:Nat->Prop}{w:World}(hFG:∀b,F b->G b):∀(t:Ty)(d:Dat)(v:Value),RdS F w t d v->RdS G w t d v
 | .int,d,v=>λh=>by cases d <;> simp only[RdS]at h ⊢ <;> exact h| .bool,d,v=>λh=>by cases d <;> simp only[RdS]at h ⊢ <;> exact h| .str,d,v=>λh=>by cases d <;> simp only[RdS]at h ⊢ <;> exact h| .sl e ts,d,v=>λh=>by
  cases d with|sl ls=>simp only[RdS]at h ⊢;obtain⟨rows,h1,h2,h3,h4⟩:=h;exact⟨rows,h1,λa0 b hv=>hFG b (h2 a0 b hv),h3,λk hk=>RdRowS.mono hFG ts _ _ (h4 k hk)⟩|_=>simp[RdS]at h
theorem RdRowS.mono{F G:Nat->Prop}{w:World}(hFG:∀b,F b->G b):∀(ts:List Ty)(ds:List Dat)(vs:List Value),RdRowS F w ts ds vs->RdRowS G w ts ds vs
 | [],ds,vs=>λh=>by cases ds <;> cases vs <;> simp[RdRowS]at h ⊢|t::ts,[],vs=>λh=>by simp[RdRowS]at h|t::ts,d::ds,[]=>λh=>by simp[RdRowS]at h|t::ts,d::ds,v::vs=>λh=>by simp only[RdRowS]at h ⊢;exact⟨RdS.mono hFG t d v h.1,RdRowS.mono hFG ts ds vs h.2⟩
end
mutual
theorem RdS.of_rd{w:World} : ∀(t:Ty)(d:Dat)(v:Value),Rd w t d v->RdS (λb=>b<w.heap.size) w t d v
 | .int,d,v=>λh=>by cases d <;> simp only[RdS,Rd]at h ⊢ <;> exact h| .bool,d,v=>λh=>by cases d <;> simp only[RdS,Rd]at h ⊢ <;> exact h| .str,d,v=>λh=>by cases d <;> simp only[RdS,Rd]at h ⊢ <;> exact h| .sl e ts,d,v=>λh=>by
  cases d with
  |sl ls=>simp only[RdS,Rd]at h ⊢;obtain⟨rows,h1,h3,h4⟩:=h;refine⟨rows,h1,λa0 b hv=>?_,h3,λk hk=>RdRowS.of_rd ts _ _ (h4 k hk)⟩;obtain⟨a,cap,e1,_,_,_,h5⟩:=h1;rcases h5 with h5|⟨b',off,h5,h6,_⟩;exact absurd h5.1 a0;rw[e1,h5]at hv;simp[Value.ownBlock]at hv;omega
  |_=>simp[Rd]at h
theorem RdRowS.of_rd{w:World} : ∀(ts:List Ty)(ds:List Dat)(vs:List Value),RdRow w ts ds vs->RdRowS (λb=>b<w.heap.size) w ts ds vs
 | [],ds,vs=>λh=>by cases ds <;> cases vs <;> simp[RdRowS,RdRow]at h ⊢|t::ts,[],vs=>λh=>by simp[RdRow]at h|t::ts,d::ds,[]=>λh=>by simp[RdRow]at h|t::ts,d::ds,v::vs=>λh=>by simp only[RdRowS,RdRow]at h ⊢;exact⟨RdS.of_rd t d v h.1,RdRowS.of_rd ts ds vs h.2⟩
end
mutual
theorem RdS.of_fp{w:World} : ∀(t:Ty)(d:Dat)(v:Value)(bs:List Nat),Fp w t d v bs->RdS (λb=>b ∈ bs) w t d v
 | .int,d,v,bs=>λh=>by cases d <;> simp only[Fp,RdS]at h ⊢ <;> exact h.1| .bool,d,v,bs=>λh=>by cases d <;> simp only[Fp,RdS]at h ⊢ <;> exact h.1| .str,d,v,bs=>λh=>by cases d <;> simp only[Fp,RdS]at h ⊢ <;> exact h.1| .sl e ts,d,v,bs=>λh=>by
  cases d with|sl ls=>simp only[Fp,RdS]at h ⊢;obtain⟨rows,bss,h1,h2,h3,h4,h5,rfl⟩:=h;exact⟨rows,Ee h1 h4,λ_ b hv=>List.mem_append.2 (.inl (by rw[hv];simp)),h2,λk hk=>RdRowS.mono (λb hb=>List.mem_append.2 (.inr (AM hb))) ts _ _ (RdRowS.of_fp ts _ _ _ (h5 k hk))⟩|_=>simp[Fp]at h
theorem RdRowS.of_fp{w:World} : ∀(ts:List Ty)(ds:List Dat)(vs:List Value)(bs:List Nat),FpRow w ts ds vs bs->RdRowS (λb=>b ∈ bs) w ts ds vs
 | [],ds,vs,bs=>λh=>by cases ds <;> cases vs <;> simp[FpRow,RdRowS]at h ⊢|t::ts,[],vs,bs=>λh=>by simp[FpRow]at h|t::ts,d::ds,[],bs=>λh=>by simp[FpRow]at h|t::ts,d::ds,v::vs,bs=>λh=>by simp only[FpRow,RdRowS]at h ⊢;obtain⟨b1,b2,rfl,h1,h2⟩:=h;exact⟨RdS.mono (λb hb=>List.mem_append.2 (.inl hb)) _ _ _ (RdS.of_fp t d v b1 h1),RdRowS.mono (λb hb=>List.mem_append.2 (.inr hb)) _ _ _ (RdRowS.of_fp ts ds vs b2 h2)⟩
end
def LCAt(F:Nat->Prop)(w:World):LC->Value->Prop
 | .im v,u=>u=v/\u.oneCell'=true| .sl e ts rows,u=>RdS F w (.sl e ts) (.sl rows) u
def PtrAt(F:Nat->Prop)(w:World)(cs:List LC)(u:Value):Prop:=
 ∃(b e:Nat)(us:List Value),u=.pointer (some ⟨b,0,none⟩)/\F b/\w.heap[b]?=some (.cells (List.toArray us) e (0,0))/\us.length=cs.length/\∀(p:Nat)(d:LC)(v:Value),cs[p]?=some d->us[p]?=some v->LCAt F w d v
def T6(F:Nat->Prop)(w:World)(bs:List UInt8)(u:Value):Prop:=
 ∃(a:Option Addr)(cap:Nat),u=.slice a bs.length cap/\∀j,j<bs.length->∃b off,a=some ⟨b,off,none⟩/\F b/\b<w.heap.size/\w.cell? ⟨b,off+j,none⟩=some (.int .u8 (((bs.getD j 0).toNat:Nat):Int))
def ROAt(F:Nat->Prop)(w:World):RO->Value->Prop
 | .bytes n,u=>T6 F w n u| .ptr cs,u=>PtrAt F w cs u| .fn g caps,u=>∃ps:List Value,u=.func (.func g) #[] ps.toArray/\ps.length=caps.length/\∀(p:Nat)(cs:List LC)(v:Value),caps[p]?=some cs->ps[p]?=some v->PtrAt F w cs v
theorem LCAt.step{F:Nat->Prop}{w w' : World}(hs:w.heap.size<=w'.heap.size)(hF:∀b,b<w.heap.size->F b->w'.heap[b]?=w.heap[b]?){d:LC}{v:Value}(h:LCAt F w d v):LCAt (λb=>F b/\b<w.heap.size) w' d v:=by
 cases d with|im x=>exact h|sl e ts rows=>exact RdS.step hs hF _ _ _ h
theorem PtrAt.step{F:Nat->Prop}{w w' : World}(hs:w.heap.size<=w'.heap.size)(hF:∀b,b<w.heap.size->F b->w'.heap[b]?=w.heap[b]?){cs:List LC}{v:Value}(h:PtrAt F w cs v):PtrAt (λb=>F b/\b<w.heap.size) w' cs v:=by obtain⟨b,e,us,h1,h2,h3,h4,h5⟩:=h;have a0:=(Array.getElem?_eq_some_iff.1 h3).1;exact⟨b,e,us,h1,⟨h2,a0⟩,by rw[hF b a0 h2];exact h3,h4,λp d v hd hv=>(h5 p d v hd hv).step hs hF⟩
theorem ROAt.step{F:Nat->Prop}{w w' : World}(hs:w.heap.size<=w'.heap.size)(hF:∀b,b<w.heap.size->F b->w'.heap[b]?=w.heap[b]?){d:RO}{v:Value}(h:ROAt F w d v):ROAt (λb=>F b/\b<w.heap.size) w' d v:=by
 cases d with|bytes bs=>obtain⟨a,cap,h1,h4⟩:=h;refine⟨a,cap,h1,λj hj=>?_⟩;obtain⟨b,off,e1,e2,e3,e5⟩:=h4 j hj;exact⟨b,off,e1,⟨e2,e3⟩,Nat.lt_of_lt_of_le e3 hs,by rw[Jw (a:=⟨b,off+j,none⟩) (hF b e3 e2)];exact e5⟩|ptr cs=>exact PtrAt.step hs hF h|fn g caps=>obtain⟨ps,h1,h2,h3⟩:=h;exact⟨ps,h1,h2,λp cs v hc hv=>(h3 p cs v hc hv).step hs hF⟩
theorem LCAt.mono{F G:Nat->Prop}{w:World}(hFG:∀b,F b->G b){d:LC}{v:Value}(h:LCAt F w d v):LCAt G w d v:=by
 cases d with|im x=>exact h|sl e ts rows=>exact RdS.mono hFG _ _ _ h
theorem PtrAt.mono{F G:Nat->Prop}{w:World}(hFG:∀b,F b->G b){cs:List LC}{v:Value}(h:PtrAt F w cs v):PtrAt G w cs v:=by obtain⟨b,e,us,h1,h2,h3,h4,h5⟩:=h;exact⟨b,e,us,h1,hFG b h2,h3,h4,λp d v hd hv=>(h5 p d v hd hv).mono hFG⟩
theorem ROAt.mono{F G:Nat->Prop}{w:World}(hFG:∀b,F b->G b){d:RO}{v:Value}(h:ROAt F w d v):ROAt G w d v:=by
 cases d with|bytes bs=>obtain⟨a,cap,h1,h4⟩:=h;exact⟨a,cap,h1,λj hj=>by obtain⟨b,off,e1,e2,e3⟩:=h4 j hj;exact⟨b,off,e1,hFG b e2,e3⟩⟩|ptr cs=>exact PtrAt.mono hFG h|fn g caps=>obtain⟨ps,h1,h2,h3⟩:=h;exact⟨ps,h1,h2,λp cs v hc hv=>(h3 p cs v hc hv).mono hFG⟩
structure Env where
 base:Nat
 G:Nat->Prop
 /-- the blocks of the arguments that may turn, and these arguments -/
 mb:Nat->List Nat:=λ_=>[]
 mv:Nat->Value:=λ_=>undef
 hG:∀b,G b->¬(base<=b\/∃j,b ∈ mb j)
 /-- what stands is not turned -/
 hst:∀b ∈ stB,¬(base<=b\/∃j,b ∈ mb j)
 /-- the numbers below it keep their places, as these maps tell them -/
 K:Nat:=0
 m0:Maps:=⟨λ_=>0,λ_=>undef,λ_=>0⟩
 /-- are the draws watched? -/
 mono:Bool:=false
def Env.mine(Γ:Env)(b:Nat):Prop:=Γ.base<=b\/∃j,b ∈ Γ.mb j
theorem Env.old{Γ:Env}{b:Nat}(h:¬Γ.mine b):b<Γ.base:=Nat.lt_of_not_le λh2=>h (.inl h2)
structure Bel(Γ:Env)(w w' : World):Prop where
 drawn:Γ.mono=true->w.drawn<=w'.drawn
 os:w'.os=w.os
 tape:w'.tape=w.tape
 output:w'.output=w.output
 size:w.heap.size<=w'.heap.size
 block:∀b,¬Γ.mine b->w'.heap[b]?=w.heap[b]?
theorem Bel.refl(Γ:Env)(w:World):Bel Γ w w:=⟨λ_=>Nat.le_refl _,rfl,rfl,rfl,Nat.le_refl _,λ_ _=>rfl⟩
theorem Bel.trans{Γ:Env}{a b c:World}(h:Bel Γ a b)(k:Bel Γ b c):Bel Γ a c:=
 ⟨λhm=>Nat.le_trans (h.drawn hm) (k.drawn hm),k.os.trans h.os,k.tape.trans h.tape,k.output.trans h.output,Nat.le_trans h.size k.size,λi hi=>(k.block i hi).trans (h.block i hi)⟩
theorem Bel.drew{Γ:Env}{a w:World}(h:Bel Γ a w):Bel Γ a w.drew:=⟨λhm=>Nat.le_succ_of_le (h.drawn hm),h.os,h.tape,h.output,h.size,h.block⟩
theorem Bel.alloc{Γ:Env}{a w:World}(h:Bel Γ a w)(hB:Γ.base<=w.heap.size)(o:Obj):Bel Γ a (w.alloc o):=
 h.trans ⟨λ_=>Nat.le_refl _,rfl,rfl,rfl,by simp,λk hk=>Below.heap_alloc _ _ _ (by have:=Env.old hk;omega)⟩
def Env.may(Γ:Env)(m:Maps)(deps:List Nat)(b:Nat):Prop:=Γ.G b\/(Γ.mine b/\m.π b=0)\/(Γ.mine b/\m.π b ∈ deps)
def EnAt(Γ:Env)(m:Maps)(w:World)(i:Nat):En->Prop
 | .box cs=>Γ.mine (m.β i)/\m.π (m.β i)=i/\∃e,w.heap[m.β i]?=some (.cells (cs.map (C.den m)).toArray e (0,0))| .own e ts rows=>∃bs,Fp w (.sl e ts) (.sl rows) (m.ε i) bs/\bs.Nodup/\∀b ∈ bs,Γ.mine b/\m.π b=i| .top e ts rows deps=>∃rv:List (List Value),w.ownsRow 0 e ts.length (m.ε i) rv.length rv.flatten/\rv.length=rows.length/\(∀r ∈ rv,r.length=ts.length) /\
  (∀k,k<rows.length->∃F,RdRowS F w ts (rows.getD k []) (rv.getD k [])/\∀b,F b->Γ.may m deps b)/\∀b,(m.ε i).ownBlock=some b->Γ.mine b/\m.π b=i
 | .view e ts rows deps=>∃F,RdS F w (.sl e ts) (.sl rows) (m.ε i)/\∀b,F b->Γ.may m deps b| .ro d deps=>∃F,ROAt F w d (m.ε i)/\∀b,F b->Γ.may m deps b| .mu e ts rows j=>m.ε i=Γ.mv j/\Fp w (.sl e ts) (.sl rows) (m.ε i) (Γ.mb j)/\(Γ.mb j).Nodup/\∀b ∈ Γ.mb j,m.π b=i| .part e ts rows k sz r c=>(∃F,RdS F w (.sl e ts) (.sl rows) (m.ε i)/\∀b,F b->Γ.may m [k] b)/\∃g len cap,m.ε k=.slice (some ⟨g,0,none⟩) len cap/\w.cell? ⟨g,r*sz+c,none⟩=some (m.ε i)/\m.π g=k| .dead=>True
def En.ids:En->List Nat
 | .box cs=>cs.flatMap C.ids| .top _ _ _ deps=>deps| .view _ _ _ deps=>deps| .ro _ deps=>deps| .part _ _ _ k _ _ _=>[k]|_=>[]
def En.hangs(us:List Nat):En->Bool
 | .top _ _ _ deps=>deps.any us.elem| .view _ _ _ deps=>deps.any us.elem| .ro _ deps=>deps.any us.elem| .part _ _ _ k _ _ _=>us.elem k|_=>false
theorem EnAt.keep{Γ:Env}{m m' : Maps}{w w' : World}{i:Nat}{E:En}{S:Nat->Prop}{us:List Nat}(h:EnAt Γ m w i E)(hi:S i)(hE:∀j ∈ E.ids,S j)(hm:Maps.same S m m')
  (h0:0 ∉ us) (hu:i ∉ us) (hh:E.hangs us=false) (hs:w.heap.size<=w'.heap.size) (hw:∀b,b<w.heap.size->(¬Γ.mine b\/m.π b ∉ us)->w'.heap[b]?=w.heap[b]?) (hπ:∀b,b<w.heap.size->m.π b ∉ us->m'.π b=m.π b):EnAt Γ m' w' i E:=by
 have a1:∀deps:List Nat,deps.any us.elem=false->∀b,b<w.heap.size->Γ.may m deps b->(¬Γ.mine b\/m.π b ∉ us)/\Γ.may m' deps b:=by
  intro deps hd b hb hm;rcases hm with hm|⟨hb0,hm⟩|⟨hb0,hm⟩;exact⟨.inl (Γ.hG b hm),.inl hm⟩;have:m.π b ∉ us:=by rw[hm];exact h0
  exact⟨.inr this,.inr (.inl ⟨hb0,by rw[hπ b hb this];exact hm⟩)⟩;have:m.π b ∉ us:=λhx=>by have:=List.any_eq_false.1 hd (m.π b) hm;simp[hx]at this
  exact⟨.inr this,.inr (.inr ⟨hb0,by rw[hπ b hb this];exact hm⟩)⟩
 cases E with
 |dead=>trivial|box cs=>
  obtain⟨h1,h2,e,h3⟩:=h;have a0:=(Array.getElem?_eq_some_iff.1 h3).1;have a2:m.π (m.β i) ∉ us:=by rw[h2];exact hu
  refine⟨by rw[(hm i hi).1];exact h1,by rw[(hm i hi).1,hπ _ a0 a2];exact h2,e,?_⟩;rw[(hm i hi).1,hw _ a0 (.inr a2),h3];have:cs.map (C.den m')=cs.map (C.den m):=List.map_congr_left λc hc=>C.den_same hm λj hj=>hE j (List.mem_flatMap.2 ⟨c,hc,hj⟩);rw[this]
 |own e ts rows=>obtain⟨bs,h1,h2,h3⟩:=h;rw[← (hm i hi).2]at h1;have a0:=Fp.lt _ _ _ _ h1;refine⟨bs,Fp.same _ _ _ _ h1 λb hb=>hw b (a0 b hb) (.inr (by rw[(h3 b hb).2];exact hu)),h2,λb hb=>⟨(h3 b hb).1,?_⟩⟩;rw[hπ b (a0 b hb) (by rw[(h3 b hb).2];exact hu)];exact(h3 b hb).2|top e ts rows deps=>
  obtain⟨rv,h1,h2,h3,h4,h5⟩:=h;rw[← (hm i hi).2]at h1 h5;have a0:∀b,(m'.ε i).ownBlock=some b->b<w.heap.size:=λb hb=>(World.ownsRow.lt h1 b hb).2;have a2:∀b,(m'.ε i).ownBlock=some b->m.π b ∉ us:=λb hb=>by rw[(h5 b hb).2];exact hu
  refine⟨rv,No h1 λb hb=>hw b (a0 b hb) (.inr (a2 b hb)),h2,h3,λk hk=>?_,λb hb=>⟨(h5 b hb).1,by rw[hπ b (a0 b hb) (a2 b hb)];exact(h5 b hb).2⟩⟩;obtain⟨F,f1,f2⟩:=h4 k hk;exact⟨_,RdRowS.step hs (λb a0 hb=>hw b a0 (a1 deps hh b a0 (f2 b hb)).1) _ _ _ f1,λb hb=>(a1 deps hh b hb.2 (f2 b hb.1)).2⟩
 |view e ts rows deps=>obtain⟨F,f1,f2⟩:=h;rw[← (hm i hi).2]at f1;exact⟨_,RdS.step hs (λb a0 hb=>hw b a0 (a1 deps hh b a0 (f2 b hb)).1) _ _ _ f1,λb hb=>(a1 deps hh b hb.2 (f2 b hb.1)).2⟩|ro d deps=>obtain⟨F,f1,f2⟩:=h;rw[← (hm i hi).2]at f1;exact⟨_,ROAt.step hs (λb a0 hb=>hw b a0 (a1 deps hh b a0 (f2 b hb)).1) f1,λb hb=>(a1 deps hh b hb.2 (f2 b hb.1)).2⟩|mu e ts rows j=>obtain⟨h0',h1,h2,h3⟩:=h;rw[← (hm i hi).2]at h1 h0';have a0:=Fp.lt _ _ _ _ h1;refine⟨h0',Fp.same _ _ _ _ h1 λb hb=>hw b (a0 b hb) (.inr (by rw[h3 b hb];exact hu)),h2,λb hb=>?_⟩;rw[hπ b (a0 b hb) (by rw[h3 b hb];exact hu)];exact h3 b hb|part e ts rows k sz r c=>
  obtain⟨⟨F,f1,f2⟩,g,len,cap,g1,g2,g3⟩:=h;have hk:k ∉ us:=λhx=>by simp[En.hangs,hx]at hh
  have hg:g<w.heap.size:=World.block_lt_of_cell? w ⟨g,r*sz+c,none⟩ g2;have a3:m.π g ∉ us:=by rw[g3];exact hk
  have hd:[k].any us.elem=false:=by simp[hk]
  rw[← (hm i hi).2]at f1 g2;rw[← (hm k (hE k (by simp[En.ids]))).2]at g1;exact⟨⟨_,RdS.step hs (λb a0 hb=>hw b a0 (a1 [k] hd b a0 (f2 b hb)).1) _ _ _ f1,λb hb=>(a1 [k] hd b hb.2 (f2 b hb.1)).2⟩,g,len,cap,g1,by rw[World.cell?_of_block (w:=w) (a:=⟨g,r*sz+c,none⟩) (hw g hg (.inr a3))];exact g2,by rw[hπ g hg a3];exact g3⟩
end Go.Proofs.YthoidhehmmcgnaaGreat
namespace Go.Proofs.YthoidhehmmcgnaaGreat
set_option linter.unusedVariables false
set_option linter.unusedSimpArgs false
open Go.RowKit
structure St where
 tm:List (Nat×T)
 en:List (Nat×En)
 /-- the temporaries whose truth value stands there as a constant -/
 lit:List Nat:=[]
structure R(Γ:Env)(n:Nat)(w0:World)(al:Nat->Prop)(s:St)(m:Maps)(a:Act)(w:World):Prop where
 size:a.tmps.size=n
 defers:a.defers=[]
 old:Γ.base<=w.heap.size
 below:Bel Γ w0 w
 tm:∀t v,lkp s.tm t=some v->a.tmps.getD t undef=v.den m/\∀i ∈ v.ids,al i
 en:∀i E,lkp s.en i=some E->EnAt Γ m w i E/\al i/\∀j ∈ E.ids,al j
 pos:¬al 0
 st:Stood w0
 gh:(∀i,0<i->i<Γ.K->al i)/\Maps.same (λi=>0<i/\i<Γ.K) Γ.m0 m
structure Eff where
 val:T
 upd:List (Nat×En)
def Eff.us(e:Eff):List Nat:=e.upd.map (·.1)
def O0(us:List Nat):List (Nat×En)->List (Nat×En)
 | []=>[]|(i,E)::r=>(i,if En.hangs us E then .dead else E)::O0 us r
def St.app(s:St)(dst:Option Tmp)(e:Eff):St:=
 {
  tm:=match dst with|some t=>(t,e.val)::s.tm|none=>s.tm
  en:=match e.upd with|[]=>s.en|u=>u++O0 e.us s.en
  lit:=match dst with|some t=>s.lit.filter λx=>!(Nat.beq x t)|none=>s.lit}
theorem QJ(us:List Nat)(en:List (Nat×En))(i:Nat):lkp (O0 us en) i=(lkp en i).map λE=>if En.hangs us E then .dead else E:=by
 induction en with|nil=>rfl|cons x r ih=>obtain⟨j,E⟩:=x;simp only[O0,AY,ih];split <;> rfl
structure Stp(Γ:Env)(al fr:Nat->Prop)(dst:Option Tmp)(m:Maps)(a:Act)(w:World)(e:Eff)(m' : Maps)(a' : Act)(w' : World):Prop where
 act:a'=a.put dst (e.val.den m')
 same:Maps.same al m m'
 below:Bel Γ w w'
 keep:∀b,b<w.heap.size->(¬Γ.mine b\/m.π b ∉ e.us)->w'.heap[b]?=w.heap[b]?
 own:∀b,b<w.heap.size->m.π b ∉ e.us->m'.π b=m.π b
 en:∀i E,lkp e.upd i=some E->EnAt Γ m' w' i E/\(al i\/fr i)/\∀j ∈ E.ids,al j\/fr j
 val:∀i ∈ e.val.ids,al i\/fr i
theorem Kn{e:Eff}{i:Nat}(h:lkp e.upd i=none):i ∉ e.us:=by
 intro hi;obtain⟨⟨j,E⟩,hm,rfl⟩:=List.mem_map.1 hi;clear hi
 have:∀(l:List (Nat×En)),(j,E) ∈ l->lkp l j≠none:=by
  intro l;induction l with|nil=>simp|cons x r ih=>obtain⟨k,F⟩:=x;intro hm;rw[AY];split;simp;rename_i a0;rcases List.mem_cons.1 hm with hm|hm;simp at hm;exact absurd hm.1.symm a0;exact ih hm
 exact this _ hm h
theorem AAW{e:Eff}{i:Nat}(h:i ∈ e.us):∃E,lkp e.upd i=some E:=by
 cases hl:lkp e.upd i with|none=>exact absurd h (Kn hl)|some E=>exact⟨E,rfl⟩
theorem Act.getD_put{a:Act}{dst:Option Tmp}{v:Value}{t:Nat} : (a.put dst v).tmps.getD t undef=if dst=some t/\t<a.tmps.size then v else a.tmps.getD t undef:=by
 cases dst with|none=>simp[Act.put]|some d=>simp only[Act.put,Array.getD_eq_getD_getElem?,Option.some.injEq];by_cases hd:d=t;subst hd;by_cases hl:d<a.tmps.size;simp[hl];simp[hl,Array.getElem?_eq_none (Nat.le_of_not_lt hl)];simp[hd,Array.getElem?_setIfInBounds_ne hd]
theorem Stp.r{Γ:Env}{n:Nat}{w0:World}{al fr:Nat->Prop}{s:St}{dst:Option Tmp}{m:Maps}{a:Act}{w:World}{e:Eff}{m' : Maps}{a' : Act}{w' : World}
 (h:R Γ n w0 al s m a w) (hs:Stp Γ al fr dst m a w e m' a' w') (a1:¬fr 0) (hd:∀t,dst=some t->t<n):R Γ n w0 (λi=>al i\/fr i) (s.app dst e) m' a' w' where
 size:=by rw[hs.act];cases dst <;> simp[Act.put,h.size]
 defers:=by rw[hs.act];cases dst <;> simp[Act.put,h.defers]
 old:=Nat.le_trans h.old hs.below.size
 below:=h.below.trans hs.below
 tm:=by
  intro t v hv;rw[hs.act,Act.getD_put];have ho:∀v,lkp s.tm t=some v->a.tmps.getD t undef=v.den m'/\∀i ∈ v.ids,al i\/fr i:=λv hv=>by obtain⟨h1,h2⟩:=h.tm t v hv;exact⟨by rw[h1,T.den_same hs.same h2],λi hi=>.inl (h2 i hi)⟩
  cases dst with|none=>simpa using ho v hv|some d=>simp only[St.app,AY]at hv;by_cases a0:d=t;rw[if_pos a0]at hv;obtain rfl:=Option.some.inj hv;rw[if_pos ⟨by rw[a0],by rw[h.size,← a0];exact hd d rfl⟩];exact⟨rfl,hs.val⟩;rw[if_neg a0]at hv;rw[if_neg (λx=>a0 (Option.some.inj x.1))];exact ho v hv
 en:=by
  have h0:0 ∉ e.us:=λh0=>by obtain⟨E,hE⟩:=AAW h0;exact(hs.en _ _ hE).2.1.elim h.pos a1
  have key:∀i E,lkp (e.upd++O0 e.us s.en) i=some E->EnAt Γ m' w' i E/\(al i\/fr i)/\∀j ∈ E.ids,al j\/fr j:=by
   intro i E hE;rw[Eu]at hE;cases hu:lkp e.upd i with
   |some E'=>rw[hu]at hE;obtain rfl:=Option.some.inj hE;exact hs.en _ _ hu
   |none=>
    rw[hu,Option.none_or,QJ]at hE;cases hl:lkp s.en i with
    |none=>rw[hl]at hE;cases hE|some E0=>
     rw[hl]at hE;simp only[Option.map_some,Option.some.injEq]at hE;obtain⟨h1,h2,h3⟩:=h.en i E0 hl;cases hh:En.hangs e.us E0 with|true=>rw[hh]at hE;simp only[if_true]at hE;subst hE;exact⟨trivial,.inl h2,by simp[En.ids]⟩|false=>rw[hh]at hE;simp only[Bool.false_eq_true,if_false]at hE;subst hE;exact⟨h1.keep h2 h3 hs.same h0 (Kn hu) hh hs.below.size hs.keep hs.own,.inl h2,λj hj=>.inl (h3 j hj)⟩
  intro i E hE;simp only[St.app]at hE;cases hu:e.upd with
  |nil=>rw[hu]at hE;exact key i E (by
   have hk:O0 e.us s.en=s.en:=by
    have:∀en:List (Nat×En),O0 e.us en=en:=by
     intro en;have a2:e.us=[]:=by simp[Eff.us,hu]
     induction en with|nil=>rfl|cons x r ih=>obtain⟨j,E⟩:=x;rw[O0,ih,a2];cases E <;> simp[En.hangs]
    exact this _
   rw[hu,hk];exact hE)
  |cons x r=>rw[hu]at hE;exact key i E (by rw[hu];exact hE)
 pos:=λh0=>h0.elim h.pos a1
 st:=h.st
 gh:=⟨λi h1 h2=>.inl (h.gh.1 i h1 h2),λi hi=>by have e1:=h.gh.2 i hi;have e2:=hs.same i (h.gh.1 i hi.1 hi.2);exact⟨e2.1.trans e1.1,e2.2.trans e1.2⟩⟩
theorem R.stood{Γ:Env}{n:Nat}{w0:World}{al:Nat->Prop}{s:St}{m:Maps}{a:Act}{w:World}(h:R Γ n w0 al s m a w):Stood w:=
 h.st.keep h.below.size λb hb=>h.below.block b (Γ.hst b hb)
theorem R.less{Γ:Env}{n:Nat}{w0:World}{al:Nat->Prop}{s s' : St}{m:Maps}{a:Act}{w:World}(h:R Γ n w0 al s m a w)
 (ht:∀t v,lkp s'.tm t=some v->lkp s.tm t=some v) (he:∀i E,lkp s'.en i=some E->E=.dead/\al i\/lkp s.en i=some E):R Γ n w0 al s' m a w:=
 {
  h with
  tm:=λt v hv=>h.tm t v (ht t v hv)
  en:=λi E hE=>by rcases he i E hE with⟨rfl,hi⟩|h1;exact⟨trivial,hi,by simp[En.ids]⟩;exact h.en i E h1}
theorem R.more{Γ:Env}{n:Nat}{w0:World}{al al' : Nat->Prop}{s:St}{m:Maps}{a:Act}{w:World}(h:R Γ n w0 al s m a w)(a0:∀i,al i->al' i)(h0:¬al' 0):R Γ n w0 al' s m a w:=
 {
  h with
  tm:=λt v hv=>⟨(h.tm t v hv).1,λi hi=>a0 i ((h.tm t v hv).2 i hi)⟩
  en:=λi E hE=>let⟨a,b,c⟩:=h.en i E hE;⟨a,a0 i b,λj hj=>a0 j (c j hj)⟩
  pos:=h0
  gh:=⟨λi h1 h2=>a0 i (h.gh.1 i h1 h2),h.gh.2⟩}
def Cs.ofVals:List Value->Option (List C)
 | []=>some []|v::r=>if v.oneCell' then(Cs.ofVals r).map (C.im v::·)else none
def A.ofVal(v:Value):Option A:=
 match v with| .agg cs=>(Cs.ofVals cs.toList).map .agg| .tuple _=>none|v=>some (.one (.im v))
def ev(s:St):Operand->Option T
 | .tmp t=>lkp s.tm t| .const v=>(A.ofVal v).map .one| .func f=>some (.one (.one (.clo f [])))| .global _=>none
theorem Cs.ofVals_den(m:Maps):∀(l:List Value)(cs:List C),Cs.ofVals l=some cs->cs.map (C.den m)=l/\cs.flatMap C.ids=[]
 | [],cs,h=>by simp[Cs.ofVals]at h;subst h;simp|v::r,cs,h=>by
  simp only[Cs.ofVals]at h;split at h;cases hr:Cs.ofVals r with|none=>rw[hr]at h;cases h|some cs'=>rw[hr]at h;simp only[Option.map_some,Option.some.injEq]at h;subst h;obtain⟨h1,h2⟩:=Cs.ofVals_den m r cs' hr;exact⟨by simp[C.den,h1],by simp[C.ids,h2]⟩
  cases h
theorem A.ofVal_den(m:Maps){v:Value}{x:A}(h:A.ofVal v=some x):x.den m=v/\x.ids=[]:=by
 unfold A.ofVal at h;split at h;rename_i cs;cases hc:Cs.ofVals cs.toList with|none=>rw[hc]at h;cases h|some l=>rw[hc]at h;simp only[Option.map_some,Option.some.injEq]at h;subst h;obtain⟨h1,h2⟩:=Cs.ofVals_den m _ _ hc;exact⟨by simp[A.den,h1],h2⟩
 cases h;simp only[Option.some.injEq]at h;subst h;exact⟨rfl,rfl⟩
theorem R.ev{Γ:Env}{n:Nat}{w0:World}{al:Nat->Prop}{s:St}{m:Maps}{a:Act}{w:World}(h:R Γ n w0 al s m a w){x:Operand}{v:T}(hv:ev s x=some v):a.eval x=v.den m/\∀i ∈ v.ids,al i:=by
 cases x with
 |tmp t=>exact h.tm t v hv|const c=>
  simp only[Go.Proofs.YthoidhehmmcgnaaGreat.ev]at hv;cases hc:A.ofVal c with|none=>rw[hc]at hv;cases hv|some y=>rw[hc]at hv;simp only[Option.map_some,Option.some.injEq]at hv;subst hv;obtain⟨h1,h2⟩:=A.ofVal_den m hc;exact⟨h1.symm,by simp[T.ids,h2]⟩
 |func f=>simp only[Go.Proofs.YthoidhehmmcgnaaGreat.ev,Option.some.injEq]at hv;subst hv;exact⟨rfl,by simp[T.ids,A.ids,C.ids]⟩|global g=>simp[Go.Proofs.YthoidhehmmcgnaaGreat.ev]at hv
theorem Oper.wp_value{P:Program}{o:Oper}{a:Act}{w w' : World}{v:Value}{next:Act->World->Prop}{Q:Exit->Act->World->Prop}(h:(execOp a.eval o).run P w=.ok (.value v) w')(hn:next (a.put o.dst v) w'):o.wp P a w next Q:=by unfold Oper.wp;rw[h];exact hn
theorem Oper.wp_skip{P:Program}{o:Oper}{a:Act}{w w' : World}{next:Act->World->Prop}{Q:Exit->Act->World->Prop}(h:(execOp a.eval o).run P w=.ok .skip w')(hn:next (a.put o.dst undef) w'):o.wp P a w next Q:=by unfold Oper.wp;rw[h];exact hn
theorem Stp.pure{Γ:Env}{n:Nat}{w0:World}{al fr:Nat->Prop}{s:St}{dst:Option Tmp}{m:Maps}{a:Act}{w:World}(_:R Γ n w0 al s m a w)(v:T)(hv:∀i ∈ v.ids,al i):Stp Γ al fr dst m a w ⟨v,[]⟩ m (a.put dst (v.den m)) w where
 act:=rfl
 same:=λ_ _=>⟨rfl,rfl⟩
 below:=Bel.refl _ _
 keep:=λ_ _ _=>rfl
 own:=λ_ _ _=>rfl
 en:=λi E h=>by simp[lkp]at h
 val:=λi hi=>.inl (hv i hi)
end Go.Proofs.YthoidhehmmcgnaaGreat
namespace Go.Proofs.YthoidhehmmcgnaaGreat
set_option linter.unusedVariables false
set_option linter.unusedSimpArgs false
open Go.RowKit
inductive TD where
 |int (k:IntKind)|bool|str
 |float
 |slice (e:Nat)
 |struct (fs:List (Nat×Nat×Nat))
 |other
structure TI where
 d:TD
 size:Nat
 bytes:Nat
 zero:List Value
 /-- a struct of so many ints, that are compared one by one; 0: not told -/
 eqn:Nat:=0
abbrev TT:=List (Nat×TI)
def Wk:TypeDesc->Bool
 | .struct _|.array _ _=>true|_=>false
def TD.fits(P:Program)(t:Nat):TD->Prop
 | .int k=>P.underlying t=some (.int k)| .bool=>P.underlying t=some .bool| .str=>P.underlying t=some .string| .float=>P.underlying t=some (.float .f64)| .slice e=>P.underlying t=some (.slice e)| .struct fs=>∃fl,P.underlying t=some (.struct fl)/\fl.toList.map (λf=>(f.offset,f.type))=fs.map (λx=>(x.1,x.2.1))/\fl.toList.mapM (λf=>(P.info? f.type).map λi=>(f.offset,i.size))=some (fs.map λx=>(x.1,x.2.2))| .other=>∃d,P.underlying t=some d/\Wk d=false
def AAX(P:Program)(t n:Nat):Prop:=P.eqGuardType P.depth t=false/\∀(w:World)(xs ys:List Int),xs.length=n->ys.length=n ->
 (Op.equal t (.agg (xs.map (Value.int .i64)).toArray) (.agg (ys.map (Value.int .i64)).toArray)).run P w=.ok (xs == ys) w
structure TIok(P:Program)(t:Nat)(i:TI):Prop where
 info:∃inf,P.info? t=some inf/\inf.size=i.size/\inf.bytes=i.bytes/\inf.zero.map (·.cells)=some i.zero.toArray
 d:i.d.fits P t
 eq:i.eqn≠0->AAX P t i.eqn
def TTok(P:Program)(T:TT):Prop:=∀t i,lkp T t=some i->TIok P t i
theorem TTok.nil(P:Program):TTok P []:=λt i h=>by simp[lkp]at h
theorem TTok.cons{P:Program}{t:Nat}{i:TI}{T:TT}(h:TIok P t i)(hT:TTok P T):TTok P ((t,i)::T):=λu j hj=>by rw[AY]at hj;split at hj;rename_i e;subst e;obtain rfl:=Option.some.inj hj;exact h;exact hT u j hj
def TD.agg:TD->Bool
 | .struct _=>true|_=>false
section
variable {P : Program} {w : World} {t : Nat} {i : TI}
theorem TIok.sizeOf(h:TIok P t i):(Go.sizeOf t).run P w=.ok i.size w:=by obtain⟨inf,h1,h2,h3,h4⟩:=h.info;simp[Go.sizeOf,typeInfo,program,Sem.run,h1,h2]
theorem TIok.typeInfo(h:TIok P t i):∃inf,(Go.typeInfo t).run P w=.ok inf w/\inf.size=i.size/\inf.bytes=i.bytes/\inf.zero.map (·.cells)=some i.zero.toArray:=by obtain⟨inf,h1,h2,h3,h4⟩:=h.info;exact⟨inf,by simp[Go.typeInfo,program,Sem.run,h1],h2,h3,h4⟩
theorem TIok.zeroValue(h:TIok P t i):∃z,(Go.zeroValue t).run P w=.ok z w/\z.cells=i.zero.toArray:=by
 obtain⟨inf,h1,h2,h3,h4⟩:=h.info;cases hz:inf.zero with|none=>rw[hz]at h4;cases h4|some z=>rw[hz]at h4;exact⟨z,by simp[Go.zeroValue,Go.typeInfo,program,Sem.run,h1,hz],Option.some.inj h4⟩
theorem TIok.isAgg(h:TIok P t i):(Go.isAgg t).run P w=.ok i.d.agg w:=by
 have hd:=h.d;cases hi:i.d <;> rw[hi]at hd <;> simp only[TD.fits]at hd;case struct fs=>obtain⟨fl,h1,_⟩:=hd;simp[Go.isAgg,Go.underlying,program,Sem.run,h1,TD.agg]
 case other=>obtain⟨d,h1,h2⟩:=hd;cases d <;> simp[Wk]at h2 <;> simp[Go.isAgg,Go.underlying,program,Sem.run,h1,TD.agg]
 all_goals simp[Go.isAgg,Go.underlying,program,Sem.run,hd,TD.agg]
end
theorem Ad{P:Program}{w:World}{t:Nat}{d:TypeDesc}(h:P.underlying t=some d):(Go.underlying t).run P w=.ok d w:=by simp[Go.underlying,program,Sem.run,h]
def T.im:T->Option Value
 | .one (.one (.im v))=>some v|_=>none
def T.ofV(v:Value):T:=.one (.one (.im v))
def T.cs:T->Option (List C)
 | .one (.one c)=>some [c]| .one (.agg cs)=>some cs| .tup _=>none
def T.ofCs(agg:Bool)(cs:List C):Option T:=
 if agg then some (.one (.agg cs))else match cs with|[c]=>some (.one (.one c))|_=>none
theorem T.im_den{t:T}{v:Value}(m:Maps)(h:t.im=some v):t.den m=v/\t=T.ofV v:=by unfold T.im at h;split at h;simp only[Option.some.injEq]at h;subst h;exact⟨rfl,rfl⟩;cases h
theorem T.ofV_den(m:Maps)(v:Value):(T.ofV v).den m=v:=rfl
theorem T.ofV_ids(v:Value):(T.ofV v).ids=[]:=rfl
def Value.same(k k' : IntKind):Bool:=decide (k=k')
def ABU(k:IntKind)(a b:Int):Int:=k.wrap ((BitVec.ofInt k.bits a &&& BitVec.ofInt k.bits b).toNat:Int)
def ABV(k:IntKind)(a b:Int):Int:=k.wrap ((BitVec.ofInt k.bits a ^^^ BitVec.ofInt k.bits b).toNat:Int)
def ABW(k:IntKind)(a b:Int):Int:=a.fdiv (2^(min b.toNat k.bits))
def AAY(op:BinOp)(x y:Value):Option (Option Prop×Value):=
 match x,y with
 | .int k a,.int k' b=>
  match op with
  | .shr=>some (some (0<=b),.int k (ABW k a b))|_=>
  if decide (k=k')=true then
   match op with| .and=>some (none,.int k (ABU k a b))| .xor=>some (none,.int k (ABV k a b))| .add=>some (none,.int k (k.wrap (a+b)))| .sub=>some (none,.int k (k.wrap (a-b)))| .mul=>some (none,.int k (k.wrap (a*b)))| .quo=>some (some (b≠0),.int k (k.wrap (a.tdiv b)))| .rem=>some (some (b≠0),.int k (a.tmod b))| .eql=>some (none,.bool (a == b))| .neq=>some (none,.bool (a != b))| .lss=>some (none,.bool (decide (a<b)))| .leq=>some (none,.bool (decide (a<=b)))| .gtr=>some (none,.bool (decide (a>b)))| .geq=>some (none,.bool (decide (a>=b)))|_=>none
  else none
 | .string a,.string b=>
  match op with| .eql=>some (none,.bool (a.toList == b.toList))| .neq=>some (none,.bool (!(a.toList == b.toList)))| .add=>some (some (a.size+b.size<=1125899906842624),.string (a++b))|_=>none
 | .float k a,.float k' b=>
  if decide (k=k')=true then
   match op with| .add=>some (some ((floatBits .add k a b).isSome=true),.float k ((floatBits .add k a b).getD 0))| .sub=>some (some ((floatBits .sub k a b).isSome=true),.float k ((floatBits .sub k a b).getD 0))| .mul=>some (some ((floatBits .mul k a b).isSome=true),.float k ((floatBits .mul k a b).getD 0))| .quo=>some (some ((floatBits .quo k a b).isSome=true),.float k ((floatBits .quo k a b).getD 0))|_=>none
  else none
 |_,_=>none
def ob(p:Option Prop)(k:Prop):Prop:=
 match p with|none=>k|some q=>q/\k
theorem Yv{p:Option Prop}{k:Prop}(h:ob p k):(∀q,p=some q->q)/\k:=by
 cases p with|none=>exact⟨λ_ h=>(by cases h),h⟩|some q=>exact⟨λ_ hq=>(by cases hq;exact h.1),h.2⟩
theorem Wm{P:Program}{w:World}{op:BinOp}{t:Nat}{a b:Operand}{x y v:Value}{p:Option Prop}(h:AAY op x y=some (p,v))(hp:∀q,p=some q->q) :
 (do eqGuard op t a b x y;binOp op t x y:Sem Value).run P w=.ok v w:=by
 unfold AAY at h;split at h
 ·rename_i k a k' b
  split at h
  ·simp only[Option.some.injEq,Prod.mk.injEq]at h
   obtain⟨rfl,rfl⟩:=h;have h0:=hp _ rfl;have hg:∀o o',(eqGuard .shr t o o' (.int k a) (.int k' b)).run P w=.ok () w:=λo o'=>by unfold eqGuard;split <;> simp
   simp[hg,binOp,Op.shift,ABW,Int.not_lt.2 h0]
  ·split at h
   ·rename_i hk
    have hk:=of_decide_eq_true hk;subst hk;have hg:∀o o',(eqGuard op t o o' (.int k a) (.int k b)).run P w=.ok () w:=λo o'=>by unfold eqGuard;split <;> simp
    cases op <;> simp only[Option.some.injEq,Prod.mk.injEq,reduceCtorEq]at h <;> obtain⟨rfl,rfl⟩:=h;case quo=>have:=hp _ rfl;simp[hg,binOp,Op.intDiv,this]
    case rem=>have:=hp _ rfl;simp[hg,binOp,Op.intDiv,this]
    case and=>simp[hg,binOp,Op.intBits,ABU]
    case xor=>simp[hg,binOp,Op.intBits,ABV]
    all_goals simp[hg,binOp,Op.intArith,Op.intCmp]
   ·cases h
 ·rename_i a b
  have hg:∀o o',(eqGuard op t o o' (.string a) (.string b)).run P w=.ok () w:=λo o'=>by unfold eqGuard;split <;> simp
  cases op <;> simp only[Option.some.injEq,Prod.mk.injEq,reduceCtorEq]at h <;> obtain⟨rfl,rfl⟩:=h;case add=>have:=hp _ rfl;simp only[Sem.run_bind,hg,Result.andThen_ok,binOp,Op.stringOp];rw[if_neg (by have e:IntKind.i64.max=9223372036854775807:=(by decide);rw[e];omega)];simp
  all_goals simp[hg,binOp,Op.stringOp]
 ·rename_i k a k' b
  split at h
  ·rename_i hk
   have hk:=of_decide_eq_true hk;subst hk;have hg:∀o o',(eqGuard op t o o' (.float k a) (.float k b)).run P w=.ok () w:=λo o'=>by unfold eqGuard;split <;> simp
   have key:∀op',(floatBits op' k a b).isSome=true->(binOp op' t (.float k a) (.float k b)).run P w=.ok (.float k ((floatBits op' k a b).getD 0)) w:=λop' hs=>by obtain⟨r,hr⟩:=Option.isSome_iff_exists.1 hs;rw[run_float_arith w op' t k a b r hr,hr];rfl
   cases op <;> simp only[Option.some.injEq,Prod.mk.injEq,reduceCtorEq]at h <;> obtain⟨rfl,rfl⟩:=h;all_goals (have:=key _ (hp _ rfl);simp only[Sem.run_bind,hg,Result.andThen_ok,this])
  ·cases h
 ·cases h
def xun(op:UnOp)(x:Value):Option Value:=
 match op,x with| .neg,.int k n=>some (.int k (k.wrap (0-n)))| .not,.bool b=>some (.bool !b)|_,_=>none
theorem Yw{P:Program}{w:World}{op:UnOp}{x v:Value}(h:xun op x=some v):(Op.unary op x).run P w=.ok v w:=by unfold xun at h;split at h <;> simp only[Option.some.injEq,reduceCtorEq]at h <;> subst h <;> simp[Op.unary,Op.intArith]
def QK(T:TT)(t f:Nat):Option (Nat×TI):=
 match lkp T t with
 |some {d:=.struct fs,..}=>
  match fs[f]? with|some (o,u,_)=>(lkp T u).map (o,·)|none=>none
 |_=>none
theorem I7{P:Program}{T:TT}(hT:TTok P T){t f o:Nat}{i:TI}(h:QK T t f=some (o,i)):∃fl fd,P.underlying t=some (.struct fl)/\fl[f]?=some fd/\fd.offset=o/\TIok P fd.type i:=by
 unfold QK at h;split at h;rename_i fs sz by_ z hl;have ht:=hT _ _ hl;obtain⟨fl,h1,h2,_⟩:=ht.d;split at h;rename_i o' u _ hf;cases hu:lkp T u with
 |none=>rw[hu]at h;cases h|some j=>
  rw[hu]at h;simp only[Option.map_some,Option.some.injEq,Prod.mk.injEq]at h;obtain⟨rfl,rfl⟩:=h;have h3:(fl.toList.map (λf=>(f.offset,f.type)))[f]?=some (o',u):=by rw[h2,List.getElem?_map,hf];rfl
  simp only[List.getElem?_map,Option.map_eq_some_iff,Prod.mk.injEq]at h3;obtain⟨fd,a0,rfl,rfl⟩:=h3;exact⟨fl,fd,h1,by simpa using a0,rfl,hT _ _ hu⟩
 cases h;cases h
def sub{α:Type}(cs:List α)(o n:Nat):Option (List α):=if Nat.ble (o+n) cs.length=true then some ((cs.drop o).take n)else none
theorem Ft{α:Type}{cs:List α}{o n:Nat}{x:List α}(h:sub cs o n=some x):o+n<=cs.length/\x=(cs.drop o).take n:=by unfold sub at h;split at h;rename_i hl;exact⟨Nat.le_of_ble_eq_true hl,(Option.some.inj h).symm⟩;cases h
theorem T7{α:Type}{cs:List α}{o n:Nat}{x:List α}(h:sub cs o n=some x):∀c ∈ x,c ∈ cs:=by obtain⟨_,rfl⟩:=Ft h;exact λc hc=>List.mem_of_mem_drop (List.mem_of_mem_take hc)
theorem Hu{α:Type}{cs:List α}{o n:Nat}{x:List α}(h:sub cs o n=some x):x.length=n:=by obtain⟨h1,rfl⟩:=Ft h;simp;omega
theorem T8{α:Type}{cs:List α}{o n:Nat}{x:List α}(h:sub cs o n=some x)(j:Nat)(hj:j<n):cs[o+j]?=x[j]?:=by obtain⟨_,rfl⟩:=Ft h;simp[hj]
theorem T.ofCs_ids{b:Bool}{cs:List C}{v:T}(h:T.ofCs b cs=some v):v.ids=cs.flatMap C.ids:=by unfold T.ofCs at h;split at h;simp only[Option.some.injEq]at h;subst h;rfl;split at h;simp only[Option.some.injEq]at h;subst h;simp[T.ids,A.ids];cases h
theorem T.cs_ids{v:T}{cs:List C}(h:v.cs=some cs):v.ids=cs.flatMap C.ids:=by unfold T.cs at h;split at h <;> simp only[Option.some.injEq,reduceCtorEq]at h <;> subst h <;> simp[T.ids,A.ids]
def Ko(agg:Bool)(vs:List Value):Value:=if agg then .agg vs.toArray else vs.getD 0 undef
theorem T.ofCs_den{b:Bool}{cs:List C}{v:T}(m:Maps)(h:T.ofCs b cs=some v):v.den m=Ko b (cs.map (C.den m))/\(b=false->cs.length=1):=by
 unfold T.ofCs at h;split at h;rename_i hb;simp only[Option.some.injEq]at h;subst h;simp[T.den,A.den,Ko,hb];rename_i hb;split at h;simp only[Option.some.injEq]at h;subst h;have hb:b=false:=by simpa using hb
 simp[T.den,A.den,Ko,hb];cases h
end Go.Proofs.YthoidhehmmcgnaaGreat
namespace Go.Proofs.YthoidhehmmcgnaaGreat
set_option linter.unusedVariables false
set_option linter.unusedSimpArgs false
open Go.RowKit
def En.sl:En->Nat->Option (Nat×List Ty×List (List Dat)×List Nat)
 | .own e ts rows,k=>some (e,ts,rows,[k])| .top e ts rows deps,k=>some (e,ts,rows,k::deps)| .view e ts rows deps,_=>some (e,ts,rows,deps)| .mu e ts rows _,k=>some (e,ts,rows,[k])| .part e ts rows k _ _ _,_=>some (e,ts,rows,[k])|_,_=>none
def Wn(s:St)(k:Nat):Bool:=
 match lkp s.en k with|some E=>(En.sl E k).isSome|none=>false
def AAZ(s:St)(k:Nat):Bool:=
 match lkp s.en k with|some (.ro (.bytes _) _)=>true|_=>false
def C.fit(s:St):C->Bool
 | .im v=>v.oneCell'| .ext k=>Wn s k || AAZ s k| .ep _ _ _ _=>false| .pp _ _=>false| .cp _ _=>false| .clx _ _=>false|_=>true
theorem EnAt.rd{Γ:Env}{m:Maps}{w:World}{k:Nat}{E:En}{e:Nat}{ts:List Ty}{rows:List (List Dat)}{deps:List Nat}(h:EnAt Γ m w k E)(hs:En.sl E k=some (e,ts,rows,deps)) :
  ∃F,RdS F w (.sl e ts) (.sl rows) (m.ε k)/\∀b,F b->Γ.may m deps b:=by
 cases E with
 |own e' ts' rows'=>simp only[En.sl,Option.some.injEq,Prod.mk.injEq]at hs;obtain⟨rfl,rfl,rfl,rfl⟩:=hs;obtain⟨bs,h1,h2,h3⟩:=h;exact⟨_,RdS.of_fp _ _ _ _ h1,λb hb=>.inr (.inr ⟨(h3 b hb).1,by rw[(h3 b hb).2];simp⟩)⟩|view e' ts' rows' deps'=>simp only[En.sl,Option.some.injEq,Prod.mk.injEq]at hs;obtain⟨rfl,rfl,rfl,rfl⟩:=hs;exact h|mu e' ts' rows' j'=>simp only[En.sl,Option.some.injEq,Prod.mk.injEq]at hs;obtain⟨rfl,rfl,rfl,rfl⟩:=hs;obtain⟨-,h1,h2,h3⟩:=h;exact⟨_,RdS.of_fp _ _ _ _ h1,λb hb=>.inr (.inr ⟨.inr ⟨_,hb⟩,by rw[h3 b hb];simp⟩)⟩|part e' ts' rows' k' sz r c=>simp only[En.sl,Option.some.injEq,Prod.mk.injEq]at hs;obtain⟨rfl,rfl,rfl,rfl⟩:=hs;exact h.1|top e' ts' rows' deps'=>simp only[En.sl,Option.some.injEq,Prod.mk.injEq]at hs;obtain⟨rfl,rfl,rfl,rfl⟩:=hs;obtain⟨rv,h1,h2,h3,h4,h5⟩:=h;refine⟨λb=>(m.ε k).ownBlock=some b\/Γ.may m deps' b,?_,λb hb=>?_⟩;simp only[RdS];refine⟨rv,Ee h1 h3,λ_ b hv=>.inl hv,h2,λj hj=>?_⟩;obtain⟨F,f1,f2⟩:=h4 j hj;exact RdRowS.mono (λb hb=>.inr (f2 b hb)) _ _ _ f1;rcases hb with hb|hb;exact .inr (.inr ⟨(h5 b hb).1,by rw[(h5 b hb).2];simp⟩);rcases hb with h|h|h;exact .inl h;exact .inr (.inl h);exact .inr (.inr ⟨h.1,List.mem_cons_of_mem _ h.2⟩)
 |_=>simp[En.sl]at hs
theorem Wo{s:St}{k:Nat}(h:Wn s k=true):∃E e ts rows deps,lkp s.en k=some E/\En.sl E k=some (e,ts,rows,deps):=by unfold Wn at h;split at h;rename_i E hE;obtain⟨⟨e,ts,rows,deps⟩,hx⟩:=Option.isSome_iff_exists.1 h;exact⟨E,e,ts,rows,deps,hE,hx⟩;cases h
section
variable {Γ : Env} {n : Nat} {w0 : World} {al : Nat → Prop} {s : St} {m : Maps} {a : Act} {w : World}
theorem R.fit(h:R Γ n w0 al s m a w){c:C}(hc:c.fit s=true):(c.den m).oneCell'=true:=by
 cases c with
 |im v=>exact hc|bp i o=>rfl|ep k sz i j=>cases hc|ext k=>simp only[C.fit,Bool.or_eq_true]at hc;rcases hc with hc|hc;obtain⟨E,e,ts,rows,deps,h1,h2⟩:=Wo hc;obtain⟨F,f1,_⟩:=(h.en _ _ h1).1.rd h2;exact(RdS.rd _ _ _ f1).one;unfold AAZ at hc;split at hc;rename_i bs deps he;obtain⟨F,⟨a,cap,f1,_⟩,_⟩:=(h.en _ _ he).1;show(m.ε k).oneCell'=true;rw[f1];rfl;cases hc
 |clo f caps=>rfl|clx f caps=>cases hc|pp k o=>cases hc|cp k j=>cases hc
end
theorem Ne{v:Value}(h:v.oneCell'=true):v.cells=#[v]:=by cases v <;> first|rfl|cases h
theorem T.cs_cells{m:Maps}{v:T}{cs:List C}(h:v.cs=some cs)(h1:∀c ∈ cs,(c.den m).oneCell'=true):(v.den m).cells=(cs.map (C.den m)).toArray:=by unfold T.cs at h;split at h;simp only[Option.some.injEq]at h;subst h;simp only[T.den,A.den,List.map_cons,List.map_nil];rw[Ne (h1 _ (by simp))];simp only[Option.some.injEq]at h;subst h;rfl;cases h
inductive All2{α β:Type}(p:α->β->Prop):List α->List β->Prop where
 |nil:All2 p [] []
 |cons {x:α} {y:β} {l:List α} {r:List β} : p x y->All2 p l r->All2 p (x::l) (y::r)
def I8(place:List (Nat×Nat)):List C->List (Nat×List C)->Option (List C)
 |cells,[]=>some cells|cells,(i,cs)::rest=>
  match place[i]? with
  |none=>none|some (off,size)=>
   if(Nat.beq cs.length size && Nat.ble (off+size) cells.length)=true then I8 place (cells.take off++cs++cells.drop (off+size)) rest else none
theorem Np(off:Nat):∀(vs:List Value)(i:Nat)(cells:Array Value),off+i+vs.length<=cells.size ->
  ((vs.zipIdx i).foldl (λcs x=>cs.setIfInBounds (off+x.2) x.1) cells).toList=cells.toList.take (off+i)++vs++cells.toList.drop (off+i+vs.length)
 | [],i,cells,_=>by simp|v::r,i,cells,h=>by simp only[List.zipIdx_cons,List.foldl_cons];rw[Np off r (i+1) _ (by simp at h ⊢;omega)];have e:=list_seg_step cells.toList (off+i) v r (by simp at h ⊢;omega);simpa[Array.toList_setIfInBounds,Nat.add_assoc]using e
theorem Kp(off:Nat)(v:Array Value)(cells:Array Value)(h:off+v.size<=cells.size) :
  v.zipIdx.foldl (λcs x=>cs.setIfInBounds (off+x.2) x.1) cells=(cells.toList.take off++v.toList++cells.toList.drop (off+v.size)).toArray:=by
 have:=Np off v.toList 0 cells (by simpa using h);apply Array.ext';rw[← Array.foldl_toList];simpa using this
theorem Nq(m:Maps)(place:List (Nat×Nat))(pl:Nat->Option (Nat×Nat))(a0:∀i,pl i=place[i]?):∀(parts:List (Nat×List C))(vals:List (Nat×Value))(cells out:List C),
  All2 (λp v=>p.1=v.1/\v.2.cells=(p.2.map (C.den m)).toArray) parts vals->I8 place cells parts=some out ->
  Instr.fill pl (cells.map (C.den m)).toArray vals=some (out.map (C.den m)).toArray
 | [],_,cells,out,hp,h=>by cases hp;simp only[I8,Option.some.injEq]at h;subst h;rfl|(i,cs)::rest,_,cells,out,hp,h=>by
  cases hp with
  | @cons _ v _ vs h1 h2=>
  obtain⟨j,v⟩:=v;simp only at h1;obtain⟨rfl,hv⟩:=h1;simp only[I8]at h;cases hi:place[i]? with
  |none=>rw[hi]at h;cases h|some os=>
   obtain⟨off,size⟩:=os;rw[hi]at h;simp only at h;split at h
   ·rename_i hc
    simp only[Bool.and_eq_true,Nat.beq_eq,Nat.ble_eq]at hc;have ih:=Nq m place pl a0 rest vs _ out h2 h;simp only[Instr.fill,a0,hi];rw[if_neg (by rw[hv];simp;omega)];have e:=Kp off v.cells (cells.map (C.den m)).toArray (by rw[hv];simp;omega);simp only[e];rw[← ih];congr 1;rw[hv];simp[hc.1]
   ·cases h
def FI(s:St):List (Nat×Operand)->Option (List (Nat×List C))
 | []=>some []|(i,x)::r=>
  match ev s x with
  |some v=>
   match v.cs with
   |some cs=>if cs.all (C.fit s)=true then(FI s r).map ((i,cs)::·)else none
   |none=>none
  |none=>none
section
variable {Γ : Env} {n : Nat} {w0 : World} {al : Nat → Prop} {s : St} {m : Maps} {a : Act} {w : World}
theorem HN(h:R Γ n w0 al s m a w):∀(ps:List (Nat×Operand))(parts:List (Nat×List C)),FI s ps=some parts ->
  All2 (λp v=>p.1=v.1/\v.2.cells=(p.2.map (C.den m)).toArray) parts (ps.map λ(i,x)=>(i,a.eval x))/\(∀p ∈ parts,∀c ∈ p.2,c.fit s=true/\∀i ∈ c.ids,al i)
 | [],parts,hp=>by simp only[FI,Option.some.injEq]at hp;subst hp;exact⟨.nil,by simp⟩|(i,x)::r,parts,hp=>by
  simp only[FI]at hp;split at hp;rename_i v hv;split at hp;rename_i cs a0;split at hp;rename_i hf;cases hr:FI s r with|none=>rw[hr]at hp;cases hp|some rest=>rw[hr]at hp;simp only[Option.map_some,Option.some.injEq]at hp;subst hp;obtain⟨h1,h2⟩:=HN h r rest hr;obtain⟨e1,e2⟩:=h.ev hv;have hf':=λc hc=>List.all_eq_true.1 hf c hc;refine⟨.cons ⟨rfl,?_⟩ h1,λp hp=>?_⟩;show(a.eval x).cells=_;rw[e1];exact T.cs_cells a0 λc hc=>h.fit (hf' c hc);rcases List.mem_cons.1 hp with rfl|hp;rw[T.cs_ids a0]at e2;exact λc hc=>⟨hf' c hc,λi hi=>e2 i (List.mem_flatMap.2 ⟨c,hc,hi⟩)⟩;exact h2 p hp
  cases hp;cases hp;cases hp
end
theorem Nr(place:List (Nat×Nat)):∀(parts:List (Nat×List C))(cells out:List C),I8 place cells parts=some out->∀c ∈ out,c ∈ cells\/∃p ∈ parts,c ∈ p.2
 | [],cells,out,h=>by simp only[I8,Option.some.injEq]at h;subst h;exact λc hc=>.inl hc|(i,cs)::rest,cells,out,h=>by simp only[I8]at h;split at h;cases h;split at h;intro c hc;rcases Nr place rest _ _ h c hc with h1|⟨p,hp,h1⟩;rcases List.mem_append.1 h1 with h1|h1;rcases List.mem_append.1 h1 with h1|h1;exact .inl (List.mem_of_mem_take h1);exact .inr ⟨(i,cs),by simp,h1⟩;exact .inl (List.mem_of_mem_drop h1);exact .inr ⟨p,by simp[hp],h1⟩;cases h
def I9(i:TI):List C:=i.zero.map .im
theorem Ns(m:Maps)(i:TI):(I9 i).map (C.den m)=i.zero:=by simp[I9,Function.comp_def,C.den]
theorem Nt(i:TI):∀c ∈ I9 i,c.ids=[]:=by intro c hc;obtain⟨v,_,rfl⟩:=List.mem_map.1 hc;rfl
def Ly(tt:TT)(s:St)(t:Nat)(ps:List (Nat×Operand)):Option T:=
 match lkp tt t with
 |some i=>
  match i.d with
  | .struct fs=>
   match FI s ps with|some parts=>(I8 (fs.map λx=>(x.1,x.2.2)) (I9 i) parts).map λcs=>.one (.agg cs)|none=>none
  |_=>none
 |none=>none
section
variable {P : Program} {tt : TT} {Γ : Env} {n : Nat} {w0 : World} {al : Nat → Prop} {s : St} {m : Maps} {a : Act} {w : World}
theorem Lz(hT:TTok P tt)(h:R Γ n w0 al s m a w){t:Nat}{ps:Array (Nat×Operand)}{v:T}(hx:Ly tt s t ps.toList=some v) :
  (Instr.build t (ps.map λ(i,x)=>(i,a.eval x))).run P w=.ok (v.den m) w/\∀i ∈ v.ids,al i:=by
 unfold Ly at hx;split at hx;rename_i i hi;split at hx;rename_i fs hd;split at hx;rename_i parts a2;cases hf:I8 (fs.map λx=>(x.1,x.2.2)) (I9 i) parts with
 |none=>rw[hf]at hx;cases hx|some cs=>
  rw[hf]at hx;simp only[Option.map_some,Option.some.injEq]at hx;subst hx;obtain⟨inf,i1,i2,i3,i4⟩:=(hT _ _ hi).info;have a1:=(hT _ _ hi).d;rw[hd]at a1;obtain⟨fl,d1,d2,d3⟩:=a1;obtain⟨p1,p2⟩:=HN h _ _ a2;have a0:=Nq m (fs.map λx=>(x.1,x.2.2)) ((fs.map λx=>(x.1,x.2.2)).toArray[·]?) (λi=>by simp) parts _ (I9 i) cs p1 hf;rw[Ns]at a0;refine⟨?_,λj hj=>?_⟩;refine run_build w t _ _ ?_;unfold Program.built;cases hz:inf.zero with|none=>rw[hz]at i4;cases i4|some z=>rw[hz]at i4;simp only[Option.map_some,Option.some.injEq]at i4;simp only[i1,d1,hz,d3,i4];simpa using a0
  simp only[T.ids,A.ids,List.mem_flatMap]at hj;obtain⟨c,hc,hj⟩:=hj;rcases Nr _ _ _ _ hf c hc with h1|⟨p,hp,h1⟩;rw[Nt i c h1]at hj;cases hj;exact(p2 p hp c h1).2 j hj
 cases hx;cases hx;cases hx
end
end Go.Proofs.YthoidhehmmcgnaaGreat
namespace Go.Proofs.YthoidhehmmcgnaaGreat
set_option linter.unusedVariables false
set_option linter.unusedSimpArgs false
open Go.RowKit
def xp(X:Option (Option Prop×T))(k:Eff->Prop):Prop:=
 match X with|some (p,v)=>ob p (k ⟨v,[]⟩)|none=>False
def Snd(P:Program)(Γ:Env)(al fr:Nat->Prop)(m:Maps)(a:Act)(w:World)(o:Oper)(X:(Eff->Prop)->Prop):Prop:=
 ∀k:Eff->Prop,X k->∀Q,o.wp P a w (λa' w'=>∃e m',k e/\Stp Γ al fr o.dst m a w e m' a' w') Q
def upd{α:Type}(f:Nat->α)(i:Nat)(x:α)(j:Nat):α:=if j=i then x else f j
theorem Cf{α:Type}(f:Nat->α)(i:Nat)(x:α):upd f i x i=x:=if_pos rfl
theorem Jx{α:Type}(f:Nat->α)(i:Nat)(x:α){j:Nat}(h:j≠i):upd f i x j=f j:=if_neg h
section
variable {P : Program} {tt : TT} {Γ : Env} {n : Nat} {w0 : World} {al fr : Nat → Prop} {s : St} {m : Maps} {a : Act} {w : World} {nx : Nat} {o : Oper}
theorem BI(h:R Γ n w0 al s m a w){X:Option (Option Prop×T)}(hx:∀p v,X=some (p,v)->(∀q,p=some q->q)->(execOp a.eval o).run P w=.ok (.value (v.den m)) w/\∀i ∈ v.ids,al i) :
  Snd P Γ al fr m a w o (xp X):=by
 intro k hk Q;cases hX:X with|none=>rw[hX]at hk;exact hk.elim|some pv=>obtain⟨p,v⟩:=pv;rw[hX]at hk;obtain⟨h1,h2⟩:=Yv hk;obtain⟨h3,h4⟩:=hx p v hX h1;exact Oper.wp_value h3 ⟨_,m,h2,Stp.pure h v h4⟩
theorem L0{t:Nat}{v:Value} : (newVar t v).run P w=.ok ⟨w.heap.size,0,none⟩ (w.alloc (.cells v.cells t)):=by simp[newVar,newRow,newObj,Sem.run]
theorem Stp.newBox(h:R Γ n w0 al s m a w){dst:Option Tmp}{t:Nat}{cs:List C}(a2:¬al nx)(hf:fr nx)(a1:∀c ∈ cs,∀i ∈ c.ids,al i) :
  ∃m',Stp Γ al fr dst m a w ⟨.one (.one (.bp nx 0)),[(nx,.box cs)]⟩ m' (a.put dst (.pointer (some ⟨w.heap.size,0,none⟩))) (w.alloc (.cells (cs.map (C.den m)).toArray t)):=by
 have a0:Maps.same al m ⟨upd m.β nx w.heap.size,m.ε,upd m.π w.heap.size nx⟩:=λi hi=>⟨Jx _ _ _ (λe=>a2 (e ▸ hi)),rfl⟩;refine⟨⟨upd m.β nx w.heap.size,m.ε,upd m.π w.heap.size nx⟩,?_,a0,?_,?_,?_,?_,?_⟩;simp[T.den,A.den,C.den,Cf];exact(Bel.refl _ _).alloc h.old _;intro b hb _;exact Below.heap_alloc _ _ _ hb;intro b hb _;exact Jx _ _ _ (by omega);intro i E hE;rw[AY]at hE;split at hE;rename_i e;subst e;obtain rfl:=Option.some.inj hE;refine⟨⟨by simp only[Cf];exact .inl h.old,by simp only[Cf],t,?_⟩,.inr hf,λj hj=>?_⟩;simp only[Cf];rw[heap_alloc_new];have:cs.map (C.den ⟨upd m.β nx w.heap.size,m.ε,upd m.π w.heap.size nx⟩)=cs.map (C.den m):=List.map_congr_left λc hc=>C.den_same a0 (a1 c hc);rw[this];simp only[En.ids,List.mem_flatMap]at hj;obtain⟨c,hc,hj⟩:=hj;exact .inl (a1 c hc j hj);simp[lkp]at hE;intro i hi;simp[T.ids,A.ids,C.ids]at hi;subst hi;exact .inr hf
def VP(s:St)(nx:Nat)(x:Operand)(k:Eff->Prop):Prop:=
 match ev s x with
 |some v=>
  match v.cs with
  |some cs=>if cs.all (C.fit s)=true then k ⟨.one (.one (.bp nx 0)),[(nx,.box cs)]⟩else False
  |none=>False
 |none=>False
theorem Yx(h:R Γ n w0 al s m a w){t:Nat}{x:Operand}(ho:o.op=.box t x)(a2:¬al nx)(hf:fr nx):Snd P Γ al fr m a w o (VP s nx x):=by intro k hk Q;unfold VP at hk;split at hk;rename_i v hv;split at hk;rename_i cs a1;split at hk;rename_i a0;obtain⟨e1,e2⟩:=h.ev hv;have a0:=λc hc=>List.all_eq_true.1 a0 c hc;have hc:=T.cs_cells a1 λc hc=>h.fit (a0 c hc);rw[T.cs_ids a1]at e2;obtain⟨m',hs⟩:=Stp.newBox h (dst:=o.dst) (t:=t) a2 hf λc hc i hi=>e2 i (List.mem_flatMap.2 ⟨c,hc,hi⟩);refine Oper.wp_value (v:=.pointer (some ⟨w.heap.size,0,none⟩)) (w':=w.alloc (.cells (cs.map (C.den m)).toArray t)) ?_ ⟨_,m',hk,hs⟩;simp only[execOp,ho,Instr.box,Sem.run_bind,Sem.run_pure,e1];simp only[L0,Result.andThen_ok,hc];exact hk.elim;exact hk.elim;exact hk.elim
def Jy(tt:TT)(nx:Nat)(t:Nat)(k:Eff->Prop):Prop:=
 match lkp tt t with|some i=>k ⟨.one (.one (.bp nx 0)),[(nx,.box (I9 i))]⟩|none=>False
theorem VQ(hT:TTok P tt)(h:R Γ n w0 al s m a w){t:Nat}(ho:o.op=.alloc t)(a0:¬al nx)(hf:fr nx):Snd P Γ al fr m a w o (Jy tt nx t):=by
 intro k hk Q;unfold Jy at hk;split at hk;rename_i i hi;obtain⟨z,hz,hc⟩:=(hT _ _ hi).zeroValue (w:=w);obtain⟨m',hs⟩:=Stp.newBox h (dst:=o.dst) (t:=t) (cs:=I9 i) a0 hf λc hc j hj=>by rw[Nt i c hc]at hj;cases hj
 refine Oper.wp_value (v:=.pointer (some ⟨w.heap.size,0,none⟩)) (w':=w.alloc (.cells ((I9 i).map (C.den m)).toArray t)) ?_ ⟨_,m',hk,hs⟩;simp only[execOp,ho,Instr.alloc,Sem.run_bind,Sem.run_pure,hz,Result.andThen_ok];simp only[L0,Result.andThen_ok,hc,Ns];exact hk.elim
def L3(tt:TT)(s:St)(t i off:Nat):Option T:=
 match lkp tt t,lkp s.en i with
 |some ti,some (.box cs)=>
  match sub cs off ti.size with|some c=>T.ofCs ti.d.agg c|none=>none
 |_,_=>none
theorem Cg(b o j:Nat):(⟨b,o,none⟩:Addr).add j=⟨b,o+j,none⟩:=by unfold Addr.add;split;subst_vars;rfl;rfl
theorem L4{t:Nat}{ti:TI}(ht:TIok P t ti){b:Addr}{vs:List Value}(hl:vs.length=ti.size)(hs:ti.d.agg=false->ti.size=1)(hc:∀j v,vs[j]?=some v->w.cell? (b.add j)=some v) :
  (Instr.loadAt t (.pointer (some b))).run P w=.ok (Ko ti.d.agg vs) w:=by
 have h0:(Instr.loadAt t (.pointer (some b)))=loadVar t b:=by simp[Instr.loadAt,Instr.sureAddr]
 rw[h0];simp only[loadVar,Sem.run_bind,ht.isAgg,Result.andThen_ok];cases hg:ti.d.agg with
 |true=>have:=run_loadCells_list (P:=P) w b vs hc;rw[hl]at this;simp[ht.sizeOf,this,Ko]|false=>
  have h1:=hs hg
  have hv:vs[0]?=some (vs.getD 0 undef):=by
   cases vs with|nil=>simp at hl;omega|cons x r=>simp
  have h2:=hc 0 _ hv;have h3:b.add 0=b:=by simp[Addr.add]
  rw[h3]at h2;simp[Ko,h2]
theorem Im(hT:TTok P tt)(h:R Γ n w0 al s m a w){t i off:Nat}{v:T}(hx:L3 tt s t i off=some v) :
  (Instr.loadAt t (.pointer (some ⟨m.β i,off,none⟩))).run P w=.ok (v.den m) w/\∀j ∈ v.ids,al j:=by
 unfold L3 at hx;split at hx;rename_i ti cs a0 a1;split at hx;rename_i c hc;obtain⟨h1,h2⟩:=T.ofCs_den m hx;obtain⟨⟨b1,b2,e,b3⟩,b4,b5⟩:=h.en _ _ a1;refine⟨?_,λj hj=>?_⟩;rw[h1];refine L4 (hT _ _ a0) (by simp[Hu hc]) (λhg=>by rw[← Hu hc];exact h2 hg) λj u hj=>?_;rw[Cg];unfold World.cell?;rw[b3];have a2:j<ti.size:=by have:=(List.getElem?_eq_some_iff.1 hj).1;simp[Hu hc]at this;exact this
 simp only[List.getElem?_map,← T8 hc j a2]at hj;simpa using hj;rw[T.ofCs_ids hx]at hj;obtain⟨x,hx',hj⟩:=List.mem_flatMap.1 hj;exact b5 j (List.mem_flatMap.2 ⟨x,T7 hc x hx',hj⟩);cases hx;cases hx
def Hv(tt:TT)(s:St)(t i off:Nat)(v:T)(k:Eff->Prop):Prop:=
 match lkp tt t,lkp s.en i,v.cs with
 |some ti,some (.box cs),some c=>
  if(c.all (C.fit s) && Nat.beq c.length ti.size && Nat.ble (off+ti.size) cs.length)=true then k ⟨T.ofV undef,[(i,.box (cs.take off++c++cs.drop (off+ti.size)))]⟩else False
 |_,_,_=>False
theorem SF(hT:TTok P tt)(h:R Γ n w0 al s m a w){t i off:Nat}{x y:Operand}{v:T}(ho:o.op=.store t x y)(hx:a.eval x=.pointer (some ⟨m.β i,off,none⟩))(hy:a.eval y=v.den m)(hv:∀j ∈ v.ids,al j) :
  Snd P Γ al fr m a w o (Hv tt s t i off v):=by
 intro k hk Q;unfold Hv at hk;split at hk;rename_i ti cs c a4 a5 hc;split at hk;rename_i a1;simp only[Bool.and_eq_true,Nat.beq_eq,Nat.ble_eq]at a1;obtain⟨⟨a0,a3⟩,hle⟩:=a1;have a0:=λx hx=>List.all_eq_true.1 a0 x hx;obtain⟨⟨b1,b2,e,b3⟩,b4,b5⟩:=h.en _ _ a5;have h1:∀u ∈ c.map (C.den m),u.oneCell'=true:=λu hu=>by obtain⟨x,hx,rfl⟩:=List.mem_map.1 hu;exact h.fit (a0 x hx)
 have a2:=T.cs_cells hc λx hx=>h.fit (a0 x hx);have hst:=run_storeCells_at P (m.β i) off e (c.map (C.den m)) 0 _ w b3 (by simp;omega) h1;rw[T.cs_ids hc]at hv;refine Oper.wp_skip (w':=w.setRow (m.β i) ((cs.take off++c++cs.drop (off+ti.size)).map (C.den m)).toArray) ?_ ⟨_,m,hk,?_⟩;simp only[execOp,ho,Sem.run_bind,Sem.run_pure,hx,hy,Instr.storeAt,Instr.sureAddr,storeVar,Result.andThen_ok,(hT _ _ a4).sizeOf,a2];rw[if_neg (by simp[a3])];rw[hst];simp[a3];refine⟨rfl,λ_ _=>⟨rfl,rfl⟩,?_,?_,λ_ _ _=>rfl,?_,by simp[T.ofV,T.ids,A.ids,C.ids]⟩;refine⟨λ_=>Nat.le_refl _,rfl,rfl,rfl,by simp[World.setRow],λb hb=>?_⟩;simp only[World.setRow,Array.getElem?_modify];rw[if_neg (λe:m.β i=b=>hb (e ▸ b1))];intro b hb hb2;simp only[World.setRow,Array.getElem?_modify];by_cases e:m.β i=b;subst e;rcases hb2 with hb2|hb2;exact absurd b1 hb2;exact absurd (by rw[b2];simp[Eff.us]) hb2;rw[if_neg e];intro j E hE;rw[AY]at hE;split at hE;rename_i e';subst e';obtain rfl:=Option.some.inj hE;refine⟨⟨b1,b2,e,setRow_heap w _ _ _ _ _ b3⟩,.inl b4,λj hj=>?_⟩;simp only[En.ids,List.mem_flatMap]at hj;obtain⟨x,hx,hj⟩:=hj;rcases List.mem_append.1 hx with hx|hx;rcases List.mem_append.1 hx with hx|hx;exact .inl (b5 j (List.mem_flatMap.2 ⟨x,List.mem_of_mem_take hx,hj⟩));exact .inl (hv j (List.mem_flatMap.2 ⟨x,hx,hj⟩));exact .inl (b5 j (List.mem_flatMap.2 ⟨x,List.mem_of_mem_drop hx,hj⟩));simp[lkp]at hE;exact hk.elim;exact hk.elim
end
end Go.Proofs.YthoidhehmmcgnaaGreat
namespace Go.Proofs.YthoidhehmmcgnaaGreat
set_option linter.unusedVariables false
set_option linter.unusedSimpArgs false
open Go.RowKit
def Dat.n:Dat->Int
 | .int n=>n|_=>0
def Dat.b:Dat->Bool
 | .bool b=>b|_=>false
def Dat.s:Dat->ByteArray
 | .str s=>s|_=>ByteArray.empty
def Dat.r:Dat->List (List Dat)
 | .sl r=>r|_=>[]
def Dc(deps:List Nat)(nx:Nat)(d:Dat):Ty->C×List (Nat×En)
 | .int=>(.im (.int .i64 d.n),[])| .bool=>(.im (.bool d.b),[])| .str=>(.im (.string d.s),[])| .sl e ts=>(.ext nx,[(nx,.view e ts d.r deps)])
def cellsOf(deps:List Nat)(row:List Dat):List Ty->Nat->Nat->List C×List (Nat×En)
 | [],_,_=>([],[])|t::ts,j,nx=>((Dc deps nx (row.getD j (.int 0)) t).1::(cellsOf deps row ts (j+1) (nx+1)).1,(Dc deps nx (row.getD j (.int 0)) t).2++(cellsOf deps row ts (j+1) (nx+1)).2)
theorem RdRowS.getD{F:Nat->Prop}{w:World} : ∀{ts:List Ty}{ds:List Dat}{vs:List Value},RdRowS F w ts ds vs->ds.length=ts.length/\vs.length=ts.length/\∀q,q<ts.length->RdS F w (ts.getD q .int) (ds.getD q (.int 0)) (vs.getD q undef)
 | [],ds,vs,h=>by cases ds <;> cases vs <;> simp[RdRowS]at h ⊢|t::ts,[],vs,h=>by simp[RdRowS]at h|t::ts,d::ds,[],h=>by simp[RdRowS]at h|t::ts,d::ds,v::vs,h=>by
  simp only[RdRowS]at h;obtain⟨h1,h2,h3⟩:=RdRowS.getD h.2;refine⟨by simp[h1],by simp[h2],λq hq=>?_⟩;cases q with|zero=>simpa using h.1|succ q=>simpa using h3 q (by simpa using hq)
def EP(m:Maps)(nx:Nat)(vs:List Value):Maps:=⟨m.β,λi=>if nx<=i/\i<nx+vs.length then vs.getD (i-nx) undef else m.ε i,m.π⟩
section
variable {P : Program} {tt : TT} {Γ : Env} {n : Nat} {w0 : World} {al fr : Nat → Prop} {s : St} {m : Maps} {a : Act} {w : World} {nx : Nat} {o : Oper}
theorem VR{F:Nat->Prop}{deps:List Nat}{d:Dat}{t:Ty}{v:Value}{i:Nat}(h:RdS F w t d v)(hm:m.ε i=v)(hF:∀b,F b->Γ.may m deps b) :
  (Dc deps i d t).1.den m=v/\(∀j ∈ (Dc deps i d t).1.ids,j=i)/\∀j E,lkp (Dc deps i d t).2 j=some E->j=i/\EnAt Γ m w i E/\E.ids=deps:=by
 cases t with
 |int=>cases d <;> simp only[RdS]at h;subst h;exact⟨rfl,by simp[Dc,C.ids],by simp[Dc,lkp]⟩|bool=>cases d <;> simp only[RdS]at h;subst h;exact⟨rfl,by simp[Dc,C.ids],by simp[Dc,lkp]⟩|str=>cases d <;> simp only[RdS]at h;subst h;exact⟨rfl,by simp[Dc,C.ids],by simp[Dc,lkp]⟩|sl e ts=>
  cases d with
  |sl ls=>refine⟨hm,by simp[Dc,C.ids],λj E hE=>?_⟩;simp only[Dc]at hE;rw[AY]at hE;split at hE;rename_i e';obtain rfl:=Option.some.inj hE;exact⟨e'.symm,⟨F,by rw[hm];exact h,hF⟩,rfl⟩;simp[lkp]at hE
  |_=>simp[RdS]at h
theorem L5{F:Nat->Prop}{deps:List Nat}{row:List Dat}(hF:∀b,F b->Γ.may m deps b):∀(ts:List Ty)(j nx:Nat)(vs:List Value),vs.length=ts.length->(∀q,q<ts.length->RdS F w (ts.getD q .int) (row.getD (j+q) (.int 0)) (vs.getD q undef)) ->
  (∀q,q<ts.length->m.ε (nx+q)=vs.getD q undef)->(cellsOf deps row ts j nx).1.map (C.den m)=vs/\(∀c ∈ (cellsOf deps row ts j nx).1,∀i ∈ c.ids,nx<=i/\i<nx+ts.length)/\∀i E,lkp (cellsOf deps row ts j nx).2 i=some E->(nx<=i/\i<nx+ts.length)/\EnAt Γ m w i E/\E.ids=deps
 | [],j,nx,vs,hl,_,_=>by obtain rfl:=List.eq_nil_of_length_eq_zero hl;simp[cellsOf,lkp]
 |t::ts,j,nx,[],hl,_,_=>by simp at hl|t::ts,j,nx,v::vs,hl,h,hm=>by
  have h0:=h 0 (by simp);have m0:=hm 0 (by simp);simp only[List.getD_cons_zero,Nat.add_zero]at h0 m0;obtain⟨c1,c2,c3⟩:=VR (i:=nx) h0 m0 hF
  obtain⟨d1,d2,d3⟩:=L5 hF ts (j+1) (nx+1) vs (by simpa using hl) (λq hq=>by
   have:=h (q+1) (by simpa using hq);simpa[Nat.add_assoc,Nat.add_comm 1]using this) (λq hq=>by
   have:=hm (q+1) (by simpa using hq);simpa[Nat.add_assoc,Nat.add_comm 1]using this)
  refine⟨by simp only[cellsOf,List.map_cons,c1,d1],λc hc i hi=>?_,λi E hE=>?_⟩;simp only[cellsOf,List.mem_cons]at hc;rcases hc with rfl|hc;have:=c2 i hi;simp;omega;have:=d2 c hc i hi;simp;omega;simp only[cellsOf,Eu]at hE;cases hl:lkp (Dc deps nx (row.getD j (.int 0)) t).2 i with
  |some E'=>rw[hl]at hE;obtain rfl:=Option.some.inj hE;obtain⟨rfl,e2,e3⟩:=c3 i E' hl;exact⟨by simp,e2,e3⟩
  |none=>rw[hl,Option.none_or]at hE;obtain⟨e1,e2⟩:=d3 i E hE;exact⟨by simp;omega,e2⟩
def EI(s:St)(k:Nat):Option (Nat×List Ty×List (List Dat)×List Nat):=(lkp s.en k).bind (En.sl · k)
theorem VS{k:Nat}{x:Nat×List Ty×List (List Dat)×List Nat}(h:EI s k=some x):∃E,lkp s.en k=some E/\En.sl E k=some x:=by
 unfold EI at h;cases hl:lkp s.en k with|none=>rw[hl]at h;cases h|some E=>rw[hl]at h;exact⟨E,rfl,h⟩
theorem R.sl(h:R Γ n w0 al s m a w){k e:Nat}{ts:List Ty}{rows:List (List Dat)}{deps:List Nat}(hk:EI s k=some (e,ts,rows,deps)) :
  (∃F,RdS F w (.sl e ts) (.sl rows) (m.ε k)/\∀b,F b->Γ.may m deps b)/\al k/\∀j ∈ deps,al j:=by
 obtain⟨E,h1,h2⟩:=VS hk;obtain⟨a1,a2,a3⟩:=h.en _ _ h1;refine⟨a1.rd h2,a2,λj hj=>?_⟩;cases E with
 |own e' ts' rows'=>simp only[En.sl,Option.some.injEq,Prod.mk.injEq]at h2;obtain⟨-,-,-,rfl⟩:=h2;simp at hj;subst hj;exact a2|top e' ts' rows' deps'=>simp only[En.sl,Option.some.injEq,Prod.mk.injEq]at h2;obtain⟨-,-,-,rfl⟩:=h2;rcases List.mem_cons.1 hj with rfl|hj;exact a2;exact a3 j hj
 |view e' ts' rows' deps'=>simp only[En.sl,Option.some.injEq,Prod.mk.injEq]at h2;obtain⟨-,-,-,rfl⟩:=h2;exact a3 j hj|mu e' ts' rows' j'=>simp only[En.sl,Option.some.injEq,Prod.mk.injEq]at h2;obtain⟨-,-,-,rfl⟩:=h2;simp at hj;subst hj;exact a2|part e' ts' rows' k' sz r c=>simp only[En.sl,Option.some.injEq,Prod.mk.injEq]at h2;obtain⟨-,-,-,rfl⟩:=h2;exact a3 j hj|_=>simp[En.sl]at h2
theorem RdS.open{F:Nat->Prop}{e:Nat}{ts:List Ty}{ls:List (List Dat)}{v:Value}(h:RdS F w (.sl e ts) (.sl ls) v):∃(a:Option Addr)(cap:Nat),v=.slice a ls.length cap/\ls.length<=cap/\cap<=maxLen/\(a=none->ls=[]/\cap=0) /\
  ∀k,k<ls.length->∃b off row,a=some ⟨b,off,none⟩/\b<w.heap.size/\(∀i,i<ts.length->w.cell? ⟨b,off+(k*ts.length+i),none⟩=some (row.getD i undef))/\RdRowS F w ts (ls.getD k []) row:=by
 simp only[RdS]at h;obtain⟨rows,⟨a,cap,h1,h2,h3,h4,h5⟩,-,hl,hr⟩:=h;rw[hl]at h1 h2;refine⟨a,cap,h1,h2,h3,λha=>?_,λk hk=>?_⟩;rcases h5 with⟨h5,h6⟩|⟨b,off,h5,_⟩;subst h5;exact⟨List.eq_nil_of_length_eq_zero (by simpa using hl.symm),h6 ha⟩;rw[ha]at h5;cases h5;rcases h5 with⟨h5,_⟩|⟨b,off,h5,h6,h7⟩;subst h5;simp at hl;omega;exact⟨b,off,rows.getD k [],h5,h6,λi hi=>h7 k (by omega) i hi,hr k hk⟩
def T.c? : T->Option C
 | .one (.one c)=>some c|_=>none
theorem T.c?_some{t:T}{c:C}(h:t.c?=some c):t=.one (.one c):=by unfold T.c? at h;split at h <;> simp at h;rw[h]
def Ig(tt:TT)(t:Nat):Option (Nat×TI):=
 match lkp tt t with|some {d:=.slice e,..}=>(lkp tt e).map (e,·)|_=>none
theorem HT(hT:TTok P tt){t e:Nat}{i:TI}(h:Ig tt t=some (e,i)):P.underlying t=some (.slice e)/\TIok P e i:=by
 unfold Ig at h;split at h;rename_i e' _ _ _ _ hl;cases he:lkp tt e' with|none=>rw[he]at h;cases h|some j=>rw[he]at h;simp only[Option.map_some,Option.some.injEq,Prod.mk.injEq]at h;obtain⟨rfl,rfl⟩:=h;exact⟨(hT _ _ hl).d,hT _ _ he⟩
 cases h
def GN(tt:TT)(s:St)(t:Nat)(x i:Option T):Option (Option Prop×T):=
 match x.bind T.c?,i.bind T.im,Ig tt t with
 |some (.ext k),some (.int _ i),some (_,ei)=>
  match EI s k with
  |some (_,ts,rows,_)=>if Nat.beq ts.length ei.size=true then some (some (0<=i/\i<(rows.length:Int)),.one (.one (.ep k ei.size i.toNat 0)))else none
  |none=>none
 |_,_,_=>none
theorem L6(hT:TTok P tt)(h:R Γ n w0 al s m a w){t:Nat}{x i:Operand}{p:Option Prop}{v:T}(hx:GN tt s t (ev s x) (ev s i)=some (p,v))(hp:∀q,p=some q->q) :
  (Instr.indexAt t (a.eval x) (a.eval i)).run P w=.ok (v.den m) w/\∀j ∈ v.ids,al j:=by
 unfold GN at hx;split at hx;rename_i k kk iv e ei a0 a1 a2;split at hx;rename_i e' ts rows deps a3;split at hx;rename_i hsz;simp only[Option.some.injEq,Prod.mk.injEq]at hx;obtain⟨rfl,rfl⟩:=hx;obtain⟨h0,h1⟩:=hp _ rfl;obtain⟨tx,etx,a0⟩:=Option.bind_eq_some_iff.1 a0;obtain⟨ti,eti,a1⟩:=Option.bind_eq_some_iff.1 a1;obtain⟨x1,x2⟩:=h.ev etx;obtain⟨i1,-⟩:=h.ev eti;rw[T.c?_some a0]at x1 x2;rw[(T.im_den m a1).1]at i1;obtain⟨⟨F,f1,f2⟩,a4,-⟩:=h.sl a3;obtain⟨ad,cap,hv,hlc,hcm,hnil,hk⟩:=f1.open;obtain⟨u1,u2⟩:=HT hT a2;obtain⟨b,off,row,a5,hb,-,-⟩:=hk iv.toNat (by omega);subst a5;refine⟨?_,by simp[T.ids,A.ids,C.ids,a4]⟩;have x1' : a.eval x=.slice (some ⟨b,off,none⟩) rows.length cap:=by rw[x1];exact hv
 simp only[Instr.indexAt,Sem.run_bind,i1,asIntOf,Sem.run_pure,Result.andThen_ok,Ad u1,x1'];rw[if_pos ⟨h0,by omega⟩];simp only[Sem.run_bind,u2.sizeOf,Result.andThen_ok,Sem.run_pure,T.den,A.den,C.den,C5,hv,Nat.add_zero];cases hx;cases hx;cases hx
theorem Wp(ad:Addr)(x y:Nat):(ad.add x).add y=ad.add (x+y):=by unfold Addr.add;by_cases hx:x=0;subst hx;simp;by_cases hy:y=0;subst hy;simp;rw[if_neg hx,if_neg hy,if_neg (by omega)];simp[Nat.add_assoc]
def Ev(tt:TT)(t:Nat)(x:Option T)(f:Nat):Option (Option Prop×T):=
 match x.bind T.c?,QK tt t f with
 |some (.bp i off),some (o,ti)=>if Nat.ble 1 ti.size=true then some (none,.one (.one (.bp i (off+o))))else none
 |some (.ep k sz i j),some (o,ti)=>if Nat.ble 1 ti.size=true then some (none,.one (.one (.ep k sz i (j+o))))else none
 |_,_=>none
theorem HW{t f:Nat}{fl:Array Field}{fd:Field}{ti:TI}(hu:P.underlying t=some (.struct fl))(hf:fl[f]?=some fd)(ht:TIok P fd.type ti)(hs:1<=ti.size)(b:Addr) :
  (Instr.fieldAt t (.pointer (some b)) f).run P w=.ok (.pointer (some (b.add fd.offset))) w:=by
 simp only[Instr.fieldAt,Sem.run_bind,Ad hu,Result.andThen_ok,hf,Instr.sureAddr,Sem.run_pure,fieldPlace,ht.sizeOf];rw[if_neg (by omega)];simp
theorem L7(hT:TTok P tt)(h:R Γ n w0 al s m a w){t f:Nat}{x:Operand}{p:Option Prop}{v:T}(hx:Ev tt t (ev s x) f=some (p,v))(hd:∀k sz i j,(ev s x).bind T.c?=some (.ep k sz i j)->∃ad nn cc,m.ε k=.slice (some ad) nn cc) :
  (Instr.fieldAt t (a.eval x) f).run P w=.ok (v.den m) w/\∀j ∈ v.ids,al j:=by
 unfold Ev at hx;split at hx;rename_i i off o ti a0 hf;split at hx;rename_i hs;simp only[Option.some.injEq,Prod.mk.injEq]at hx;obtain⟨rfl,rfl⟩:=hx;obtain⟨tx,etx,a0⟩:=Option.bind_eq_some_iff.1 a0;obtain⟨x1,x2⟩:=h.ev etx;rw[T.c?_some a0]at x1 x2;obtain⟨fl,fd,u1,u2,rfl,u3⟩:=I7 hT hf;refine⟨?_,x2⟩;rw[x1];simp only[T.den,A.den,C.den];rw[HW u1 u2 u3 (Nat.le_of_ble_eq_true hs),Cg];cases hx;rename_i k sz i j o ti a0 hf;split at hx;rename_i hs;simp only[Option.some.injEq,Prod.mk.injEq]at hx;obtain⟨rfl,rfl⟩:=hx;obtain⟨ad,nn,cc,hk⟩:=hd _ _ _ _ a0;obtain⟨tx,etx,a0⟩:=Option.bind_eq_some_iff.1 a0;obtain⟨x1,x2⟩:=h.ev etx;rw[T.c?_some a0]at x1 x2;obtain⟨fl,fd,u1,u2,rfl,u3⟩:=I7 hT hf;refine⟨?_,x2⟩;rw[x1];simp only[T.den,A.den,C.den,C5,hk];rw[HW u1 u2 u3 (Nat.le_of_ble_eq_true hs),Wp,Nat.add_assoc];cases hx;cases hx
def Fh(l:List (List Dat))(i j:Nat)(d:Dat):List (List Dat):=l.set i ((l.getD i []).set j d)
def UA(k sz i j nx:Nat)(x:Nat×En):Nat×En:=
 (x.1,match x.2 with|.view e ts rows _=>.part e ts rows k sz i (x.1-nx+j)|E=>E)
def Wq(s:St)(k sz i j nx:Nat)(l:List (Nat×En)):List (Nat×En):=
 match lkp s.en k with|some (.mu _ _ _ _)=>l.map (UA k sz i j nx)|_=>l
theorem QL{k sz i j nx p:Nat} : ∀{l:List (Nat×En)}{E:En},lkp (l.map (UA k sz i j nx)) p=some E->∃E0,lkp l p=some E0/\E=(UA k sz i j nx (p,E0)).2
 | [],_,h=>by simp[lkp]at h|(q,E0)::r,E,h=>by simp only[List.map_cons,UA,AY]at h ⊢;split at h;rename_i e;subst e;exact⟨E0,by simp,(Option.some.inj h).symm⟩;rename_i e;obtain⟨E1,h1,h2⟩:=QL h;exact⟨E1,by simp only[if_neg e];exact h1,h2⟩
def Jz(tt:TT)(s:St)(nx t k sz i j:Nat)(q:Eff->Prop):Prop:=
 match lkp tt t,EI s k with
 |some ti,some (_,ts,rows,deps)=>
  if(Nat.beq ts.length sz && Nat.ble ti.size 32)=true then
   match sub ts j ti.size with
   |some us=>
    match T.ofCs ti.d.agg (cellsOf deps (rows.getD i []) us j nx).1 with|some v=>i<rows.length/\q ⟨v,Wq s k sz i j nx (cellsOf deps (rows.getD i []) us j nx).2⟩|none=>False
   |none=>False
  else False
 |_,_=>False
theorem VT(hT:TTok P tt)(h:R Γ n w0 al s m a w){t k sz i j:Nat}{x:Operand}(ho:o.op=.load t x)(hx:a.eval x=C.den m (.ep k sz i j))(a7:∀i,al i->¬(nx<=i/\i<nx+32))(a8:∀i,nx<=i->i<nx+32->fr i) :
  Snd P Γ al fr m a w o (Jz tt s nx t k sz i j):=by
 intro q hk Q;unfold Jz at hk;split at hk;rename_i ti e ts rows deps aE a9;split at hk;rename_i hc;simp only[Bool.and_eq_true,Nat.beq_eq,Nat.ble_eq]at hc;obtain⟨rfl,hle⟩:=hc;split at hk;rename_i us aA;split at hk;rename_i v hv;obtain⟨hi,hk⟩:=hk;obtain⟨⟨F,f1,f2⟩,aF,aG⟩:=h.sl a9;obtain⟨ad,cap,a0,-,-,-,a4⟩:=f1.open;obtain⟨b,off,row,rfl,hb,a1,hr⟩:=a4 i hi;obtain⟨r1,r2,r3⟩:=hr.getD;obtain⟨s1,s2⟩:=Ft aA;have s3:=Hu aA;let vs:=(row.drop j).take ti.size
 have aB:vs.length=us.length:=by simp[vs,s3];omega
 have a2:Maps.same al m (EP m nx vs):=λi hi=>⟨rfl,by simp only[EP];rw[if_neg (by have:=a7 i hi;omega)]⟩;have a5:∀q,q<us.length->vs.getD q undef=row.getD (j+q) undef:=λq hq=>by simp[vs,List.getD,show q<ti.size by omega]
 have aH:∀q,q<us.length->us.getD q .int=ts.getD (j+q) .int:=λq hq=>by subst s2;simp[List.getD,show q<ti.size by omega]
 have F2:∀b,F b->Γ.may (EP m nx vs) deps b:=f2;obtain⟨c1,c2,c3⟩:=L5 (Γ:=Γ) (w:=w) (F:=F) (m:=EP m nx vs) (deps:=deps) (row:=rows.getD i []) F2 us j nx vs aB (λq hq=>by rw[a5 q hq,aH q hq];exact r3 (j+q) (by omega)) (λq hq=>by simp only[EP];rw[if_pos (by omega)];congr 1;omega);obtain⟨d1,d2⟩:=T.ofCs_den (EP m nx vs) hv;rw[c1]at d1;have hlc:(cellsOf deps (rows.getD i []) us j nx).1.length=us.length:=by have:=congrArg List.length c1;rw[List.length_map]at this;omega
 have a6:(Instr.loadAt t (a.eval x)).run P w=.ok (v.den (EP m nx vs)) w:=by
  rw[hx,d1];simp only[C.den,C5,a0,Cg];refine L4 (hT _ _ aE) (by omega) (λhg=>by have:=d2 hg;omega) λp u hp=>?_;have aI:p<us.length:=by rw[← aB];exact(List.getElem?_eq_some_iff.1 hp).1
  rw[Cg,Nat.add_assoc,Nat.add_assoc,a1 (j+p) (by omega),← a5 p aI];simp[List.getD,hp]
 refine Oper.wp_value (v:=v.den (EP m nx vs)) (w':=w) (by simp only[execOp,ho,Sem.run_bind,a6,Result.andThen_ok,Sem.run_pure]) ⟨_,EP m nx vs,hk,⟨rfl,a2,Bel.refl _ _,λ_ _ _=>rfl,λ_ _ _=>rfl,λp E hE=>?_,λp hp=>?_⟩⟩;have old:∀E,lkp (cellsOf deps (rows.getD i []) us j nx).2 p=some E->EnAt Γ (EP m nx vs) w p E/\(al p\/fr p)/\∀j ∈ E.ids,al j\/fr j:=λE hE=>by obtain⟨e1,e2,e3⟩:=c3 p E hE;exact⟨e2,.inr (a8 p e1.1 (by omega)),λq hq=>.inl (aG q (by rw[e3]at hq;exact hq))⟩
 simp only[Wq]at hE;split at hE;rename_i e0 ts0 rows0 j0 aC;obtain⟨E0,hE0,rfl⟩:=QL hE;obtain⟨q1,q2,q3⟩:=old E0 hE0;obtain⟨e1,-,e3⟩:=c3 p E0 hE0;have a3:=a9;simp only[EI,aC,Option.bind_some,En.sl,Option.some.injEq,Prod.mk.injEq]at a3;obtain⟨-,-,-,rfl⟩:=a3;cases E0 with
 |view e' ts' rows' deps'=>
  simp only[En.ids]at e3;subst e3;obtain⟨m0,m1,m2,m3⟩:=(h.en _ _ aC).1;obtain⟨g,cap',hg,aJ⟩:∃g cap',m.ε k=.slice (some ⟨g,0,none⟩) rows.length cap'/\g ∈ Γ.mb j0:=by simp only[Fp]at m1;obtain⟨rv,bss,o1,o2,o3,o4,o5,o6⟩:=m1;rcases o1.2 with⟨x1,-⟩|⟨g,cap',cur,x1,-⟩;rw[a0]at x1;cases x1;have hl:rv.length=rows.length:=(by rw[a0]at x1;simp only[Value.slice.injEq]at x1;exact x1.2.1.symm);exact⟨g,cap',by rw[x1,hl],by rw[o6,x1];simp[Value.ownBlock]⟩
  have aK:b=g/\off=0:=by rw[a0]at hg;simp only[Value.slice.injEq,Option.some.injEq,Addr.mk.injEq]at hg;exact⟨hg.1.1,hg.1.2.1⟩
  obtain⟨rfl,rfl⟩:=aK;have hk:(EP m nx vs).ε k=m.ε k:=by simp only[EP];rw[if_neg (by have:=a7 k aF;omega)]
  have hp:(EP m nx vs).ε p=row.getD (j+(p-nx)) undef:=by simp only[EP];rw[if_pos (by omega)];exact a5 (p-nx) (by omega)
  refine⟨⟨q1,b,_,_,by rw[hk];exact hg,?_,m3 b aJ⟩,q2,q3⟩;have aD:=a1 (j+(p-nx)) (by omega);rw[Nat.zero_add]at aD;show w.cell? ⟨b,i*ts.length+(p-nx+j),none⟩=_;rw[hp,← aD,Nat.add_comm (p-nx) j]
 |_=>exact⟨q1,q2,q3⟩
 exact old E hE;rw[T.ofCs_ids hv]at hp;obtain⟨c,hc,hp⟩:=List.mem_flatMap.1 hp;have:=c2 c hc p hp;exact .inr (a8 p this.1 (by omega));exact hk.elim;exact hk.elim;exact hk.elim;exact hk.elim
end
end Go.Proofs.YthoidhehmmcgnaaGreat
namespace Go.Proofs.YthoidhehmmcgnaaGreat
set_option linter.unusedVariables false
set_option linter.unusedSimpArgs false
open Go.RowKit
mutual
def Ty.beq:Ty->Ty->Bool
 | .int,.int=>true| .bool,.bool=>true| .str,.str=>true| .sl e ts,.sl e' ts'=>Nat.beq e e' && Ty.beqs ts ts'|_,_=>false
def Ty.beqs:List Ty->List Ty->Bool
 | [],[]=>true|t::ts,u::us=>Ty.beq t u && Ty.beqs ts us|_,_=>false
end
mutual
theorem Ty.beq_ok:∀(t u:Ty),Ty.beq t u=true->t=u
 | .int,u,h=>by cases u <;> simp[Ty.beq]at h ⊢| .bool,u,h=>by cases u <;> simp[Ty.beq]at h ⊢| .str,u,h=>by cases u <;> simp[Ty.beq]at h ⊢| .sl e ts,u,h=>by
  cases u with|sl e' us=>simp only[Ty.beq,Bool.and_eq_true,Nat.beq_eq]at h;obtain⟨rfl,h⟩:=h;rw[Ty.beqs_ok ts us h]|_=>simp[Ty.beq]at h
theorem Ty.beqs_ok:∀(t u:List Ty),Ty.beqs t u=true->t=u
 | [],[],_=>rfl| [],_::_,h=>by simp[Ty.beqs]at h|_::_,[],h=>by simp[Ty.beqs]at h|t::ts,u::us,h=>by simp only[Ty.beqs,Bool.and_eq_true]at h;rw[Ty.beq_ok t u h.1,Ty.beqs_ok ts us h.2]
end
theorem JA{α:Type}(k:Nat):∀(rows:List (List α))(h:Nat),(∀r ∈ rows,r.length=k)->(rows.take h).flatten=rows.flatten.take (h*k)
 | [],h,_=>by simp|r::rs,0,_=>by simp|r::rs,h+1,hr=>by
  have hk:=hr r (by simp);have e:r.take ((h+1)*k)=r:=List.take_of_length_le (by rw[hk,Nat.add_mul];omega);have e2:(h+1)*k-r.length=h*k:=by rw[hk,Nat.add_mul];omega
  rw[List.take_succ_cons,List.flatten_cons,List.flatten_cons,JA k rs h (λq hq=>hr q (by simp[hq])),List.take_append,e,e2]
theorem RdS.cut{F:Nat->Prop}{w:World}{e:Nat}{ts:List Ty}{ls:List (List Dat)}{a:Option Addr}{n cap:Nat}(h:RdS F w (.sl e ts) (.sl ls) (.slice a n cap))(l hh:Nat)(hlh:l<=hh)(hhl:hh<=ls.length) :
  RdS F w (.sl e ts) (.sl ((ls.take hh).drop l)) (.slice (if cap=l then a else a.map (·.add (l*ts.length))) (hh-l) (cap-l)):=by
 simp only[RdS]at h ⊢;obtain⟨rows,⟨a',cap',h1,h2,h3,h4,h5⟩,hF,hl,hr⟩:=h;simp only[Value.slice.injEq]at h1;obtain⟨rfl,rfl,rfl⟩:=h1;have a0:((rows.take hh).drop l).length=hh-l:=by simp;omega
 refine⟨(rows.take hh).drop l,⟨_,_,by rw[a0],by rw[a0];omega,by omega,λx hx=>h4 x (List.mem_of_mem_take (List.mem_of_mem_drop hx)),?_⟩,λa2 b hb=>?_,by rw[a0];simp;omega,λk hk=>?_⟩;by_cases hc:cap=l;left;refine⟨List.eq_nil_of_length_eq_zero (by omega),λha=>?_⟩;omega;rw[if_neg hc];rcases h5 with⟨h5,h6⟩|⟨b,off,h5,h6,h7⟩;left;refine⟨by subst h5;simp,λha=>?_⟩;simp at ha;rw[h6 ha];omega;subst h5;right;refine⟨b,off+l*ts.length,by simp[Cg],h6,λj hj i hi=>?_⟩;rw[a0]at hj;have:=h7 (l+j) (by omega) i hi;rw[show off+l*ts.length+(j*ts.length+i)=off+((l+j)*ts.length+i) by rw[Nat.add_mul];omega,this];simp[List.getD,show l+j<hh by omega];have a1 : rows≠[]:=λe=>by subst e;simp at a2
 refine hF a1 b ?_;cases a with|none=>simp[Value.ownBlock]at hb|some x=>split at hb;exact hb;simp only[Option.map_some,Value.ownBlock]at hb ⊢;rw[← hb];unfold Addr.add;split <;> rfl
 simp at hk;have e1:((ls.take hh).drop l).getD k []=ls.getD (l+k) []:=by simp[List.getD,show l+k<hh by omega]
 have e2:((rows.take hh).drop l).getD k []=rows.getD (l+k) []:=by simp[List.getD,show l+k<hh by omega]
 rw[e1,e2];exact hr _ (by omega)
section
variable {P : Program} {tt : TT} {Γ : Env} {n : Nat} {w0 : World} {al fr : Nat → Prop} {s : St} {m : Maps} {a : Act} {w : World} {nx : Nat} {o : Oper}
theorem Stp.newSl(h:R Γ n w0 al s m a w){dst:Option Tmp}{E:En}{cons:List Nat}{v' : Value}{w' : World}{π' : Nat->Nat}(hb:Bel Γ w w')
  (hk:∀b,b<w.heap.size->(¬Γ.mine b\/m.π b ∉ cons)->w'.heap[b]?=w.heap[b]?) (hπ:∀b,b<w.heap.size->m.π b ∉ cons->π' b=m.π b)
  (hE:EnAt Γ ⟨m.β,upd m.ε nx v',π'⟩ w' nx E) (a0:∀j ∈ E.ids,al j) (hc:∀j ∈ cons,al j) (a1:¬al nx) (hf:fr nx) :
  Stp Γ al fr dst m a w ⟨.one (.one (.ext nx)),(nx,E)::cons.map λi=>(i,.dead)⟩ ⟨m.β,upd m.ε nx v',π'⟩ (a.put dst v') w' where
 act:=by simp[T.den,A.den,C.den,Cf]
 same:=λi hi=>⟨rfl,Jx _ _ _ (λe=>a1 (e ▸ hi))⟩
 below:=hb
 keep:=λb hb h2=>hk b hb (h2.imp id λhx hy=>hx (List.mem_cons_of_mem _ (List.mem_map.2 ⟨(m.π b,.dead),List.mem_map.2 ⟨_,hy,rfl⟩,rfl⟩)))
 own:=λb hb h2=>hπ b hb λhy=>h2 (List.mem_cons_of_mem _ (List.mem_map.2 ⟨(m.π b,.dead),List.mem_map.2 ⟨_,hy,rfl⟩,rfl⟩))
 en:=by intro i E' hE';rw[AY]at hE';split at hE';rename_i e;subst e;obtain rfl:=Option.some.inj hE';exact⟨hE,.inr hf,λj hj=>.inl (a0 j hj)⟩;obtain⟨j,hj,he⟩:=List.mem_map.1 (ET hE');simp only[Prod.mk.injEq]at he;obtain⟨rfl,rfl⟩:=he;exact⟨trivial,.inl (hc j hj),by simp[En.ids]⟩
 val:=λi hi=>by simp[T.ids,A.ids,C.ids]at hi;subst hi;exact .inr hf
def bnd(s:St)(x:Option Operand)(d:Int):Option Int:=
 match x with
 |none=>some d|some x=>
  match (ev s x).bind T.im with|some (.int _ i)=>some i|_=>none
theorem UB(h:R Γ n w0 al s m a w){x:Operand}{d i:Int}(hx:bnd s (some x) d=some i):∃kk,a.eval x=.int kk i:=by unfold bnd at hx;simp only at hx;split at hx;rename_i kk j hj;obtain⟨t,e1,e2⟩:=Option.bind_eq_some_iff.1 hj;obtain⟨x1,-⟩:=h.ev e1;rw[(T.im_den m e2).1]at x1;simp only[Option.some.injEq]at hx;subst hx;exact⟨kk,x1⟩;cases hx
theorem L8(h:R Γ n w0 al s m a w){isS:Bool}{len cap:Nat}{lo hi:Option Operand}{l hh:Int}(hl:bnd s lo 0=some l)(hh' : bnd s hi (len:Int)=some hh)(h0:0<=l)(h1:l<=hh)(h2:hh<=(cap:Int)) :
  (Instr.sliceBounds isS len cap (lo.map a.eval) (hi.map a.eval) none).run P w=.ok (l.toNat,hh.toNat,cap) w:=by
 have a0:∀(y:Nat),hh.toNat=y->∀x,lo=some x->(Instr.sliceBound (a.eval x) y .sliceB).run P w=.ok l.toNat w:=by intro y hy x hx;subst hx;obtain⟨kk,e⟩:=UB h hl;simp only[e,Instr.sliceBound,Sem.run_bind,asIntOf,Sem.run_pure,Result.andThen_ok];rw[if_pos ⟨h0,by omega⟩];simp
 have a1:∀x,hi=some x->∀c,(Instr.sliceBound (a.eval x) cap c).run P w=.ok hh.toNat w:=by intro x hx c;subst hx;obtain⟨kk,e⟩:=UB h hh';simp only[e,Instr.sliceBound,Sem.run_bind,asIntOf,Sem.run_pure,Result.andThen_ok];rw[if_pos ⟨by omega,h2⟩];simp
 unfold Instr.sliceBounds;cases hi with
 |none=>
  simp[bnd]at hh';subst hh';cases lo with|none=>simp[bnd]at hl;subst hl;simp|some x=>have:=a0 len (by omega) x rfl;simp[this]
 |some x=>
  have e1:=a1 x rfl;cases lo with|none=>simp[bnd]at hl;subst hl;simp[e1]|some y=>have:=a0 hh.toNat rfl y rfl;simp[e1,this]
def J0(tt:TT)(s:St)(nx t:Nat)(x:Option T)(lo hi:Option Operand)(q:Eff->Prop):Prop:=
 match x.bind T.c? with
 |some (.ext k)=>
  match EI s k,Ig tt t with
  |some (e,ts,rows,deps),some (_,ei)=>
   match bnd s lo 0,bnd s hi (rows.length:Int)with|some l,some h=>Nat.beq ts.length ei.size=true/\0<=l/\l<=h/\h<=(rows.length:Int)/\q ⟨.one (.one (.ext nx)),[(nx,.view e ts ((rows.take h.toNat).drop l.toNat) deps)]⟩|_,_=>False
  |_,_=>False
 |some (.im (.string b))=>
  match lkp tt t with
  |some {d:=.str,..}=>
   match bnd s lo 0,bnd s hi (b.size:Int)with|some l,some h=>0<=l/\l<=h/\h<=(b.size:Int)/\q ⟨T.ofV (.string (b.extract l.toNat h.toNat)),[]⟩|_,_=>False
  |_=>False
 |_=>False
theorem VU(hT:TTok P tt)(h:R Γ n w0 al s m a w){t:Nat}{x:Operand}{lo hi:Option Operand}(ho:o.op=.slice t x lo hi none)(a5:¬al nx)(hf:fr nx):Snd P Γ al fr m a w o (J0 tt s nx t (ev s x) lo hi):=by
 intro q hk Q;unfold J0 at hk;split at hk;rename_i k a0;obtain⟨tx,etx,a0⟩:=Option.bind_eq_some_iff.1 a0;obtain⟨x1,x2⟩:=h.ev etx;rw[T.c?_some a0]at x1;split at hk;rename_i e ts rows deps e' ei a6 a7;split at hk;rename_i l hh hl hh';obtain⟨a2,h0,h1,h2,hk⟩:=hk;have a2:=Nat.eq_of_beq_eq_true a2;obtain⟨⟨F,f1,f2⟩,hak,a8⟩:=h.sl a6;obtain⟨ad,cap,a1,hlc,-,-,-⟩:=f1.open;obtain⟨u1,u2⟩:=HT hT a7;rw[a1]at f1;have a3:=f1.cut l.toNat hh.toNat (by omega) (by omega);have x1' : a.eval x=.slice ad rows.length cap:=by rw[x1];exact a1
 refine Oper.wp_value (v:=.slice (if cap=l.toNat then ad else ad.map (·.add (l.toNat*ts.length))) (hh.toNat-l.toNat) (cap-l.toNat)) (w':=w) ?_
  ⟨_,_,hk,Stp.newSl h (cons:=[]) (π':=m.π) (Bel.refl _ _) (λ_ _ _=>rfl) (λ_ _ _=>rfl) ⟨F,by simp only[Cf];exact a3,f2⟩ (λj hj=>a8 j hj) (by simp) a5 hf⟩
 have a4:=L8 (P:=P) (isS:=true) (len:=rows.length) (cap:=cap) h hl hh' h0 h1 (by omega);simp only[execOp,ho,Sem.run_bind,Option.map_none,Instr.sliceAt,Ad u1,Result.andThen_ok,Instr.slice,x1',a4,u2.sizeOf,Sem.run_pure,a2];exact hk.elim;exact hk.elim;rename_i b a0;obtain⟨tx,etx,a0⟩:=Option.bind_eq_some_iff.1 a0;obtain⟨x1,x2⟩:=h.ev etx;rw[T.c?_some a0]at x1;split at hk;rename_i hl;have hu:=(hT _ _ hl).d;simp only[TD.fits]at hu;split at hk;rename_i l hh hl hh';obtain⟨h0,h1,h2,hk⟩:=hk;have a4:=L8 (P:=P) (isS:=false) (len:=b.size) (cap:=b.size) h hl hh' h0 h1 h2;have x1' : a.eval x=.string b:=x1;refine Oper.wp_value (v:=.string (b.extract l.toNat hh.toNat)) (w':=w) ?_ ⟨_,m,hk,Stp.pure h (T.ofV _) (by simp[T.ofV,T.ids,A.ids,C.ids])⟩;simp[execOp,ho,Instr.sliceAt,Ad hu,Instr.slice,x1',a4];exact hk.elim;exact hk.elim;exact hk.elim
def VV(tt:TT)(s:St)(nx t:Nat)(x:Option T)(lo hi:Option Operand)(q:Eff->Prop):Prop:=False
theorem Fp.cut{e:Nat}{ts:List Ty}{ls:List (List Dat)}{ad:Option Addr}{k cap:Nat}{bs:List Nat}(h:Fp w (.sl e ts) (.sl ls) (.slice ad k cap) bs)(hh:Nat)(hl:hh<=ls.length) :
  ∃bs',Fp w (.sl e ts) (.sl (ls.take hh)) (.slice ad hh cap) bs'/\bs'.Sublist bs:=by
 simp only[Fp]at h ⊢;obtain⟨rows,bss,h1,h2,h3,h4,h5,rfl⟩:=h;have hk:k=rows.length:=by rcases h1.2 with⟨hv,hn⟩|⟨g,cap,cur,hv,_⟩;simp at hv;omega;simp at hv;exact hv.2.1
 have hb:(bss.take hh).flatten.Sublist bss.flatten:=by
  conv=>rhs;rw[← List.take_append_drop hh bss,List.flatten_append]
  exact List.sublist_append_left _ _
 refine⟨(Value.slice ad hh cap).ownBlock.toList++(bss.take hh).flatten,⟨rows.take hh,bss.take hh,?_,by simp[h2],by simp[h3],λr hr=>h4 r (List.mem_of_mem_take hr),λj hj=>?_,rfl⟩,?_⟩;have e1:(rows.take hh).length=hh:=by simp;omega
 rw[e1,JA ts.length rows hh h4];refine⟨?_,?_⟩;simp only[List.length_take,h1.1];have:=Nat.mul_le_mul_right ts.length (show hh<=rows.length by omega);omega;rcases h1.2 with⟨hv,hn⟩|⟨g,cap',cur,hv,hg,hh',hc1,hc2,hc3,hc4⟩;simp at hv;left;obtain⟨rfl,-,rfl⟩:=hv;have:hh=0:=by omega
 subst this;simp;simp only[Value.slice.injEq]at hv;obtain⟨rfl,-,rfl⟩:=hv;right;refine⟨g,cap,cur,rfl,hg,hh',by omega,hc2,hc3,?_⟩;rw[← hc4,List.take_take,Nat.min_eq_left (Nat.mul_le_mul_right ts.length (by omega))];simp at hj;have e1:(ls.take hh).getD j []=ls.getD j []:=by simp[List.getD,show j<hh by omega]
 have e2:(rows.take hh).getD j []=rows.getD j []:=by simp[List.getD,show j<hh by omega]
 have e3:(bss.take hh).getD j []=bss.getD j []:=by simp[List.getD,show j<hh by omega]
 rw[e1,e2,e3];exact h5 j (by omega);have e0:(Value.slice ad hh cap).ownBlock=(Value.slice ad k cap).ownBlock:=by cases ad <;> rfl
 rw[e0];exact List.Sublist.append (List.Sublist.refl _) hb
theorem Yy(hT:TTok P tt)(h:R Γ n w0 al s m a w){t:Nat}{x:Operand}{lo hi:Option Operand}(ho:o.op=.slice t x lo hi none)(hnx:¬al nx)(hf:fr nx):Snd P Γ al fr m a w o (VV tt s nx t (ev s x) lo hi):=by intro q hk Q;unfold VV at hk;exact hk.elim
end
end Go.Proofs.YthoidhehmmcgnaaGreat
namespace Go.Proofs.YthoidhehmmcgnaaGreat
set_option linter.unusedVariables false
set_option linter.unusedSimpArgs false
open Go.RowKit
def UC(s:St)(t:Ty)(c:C):Option (Dat×List Nat):=
 match t,c with
 | .int,.im (.int .i64 n)=>some (.int n,[])| .bool,.im (.bool b)=>some (.bool b,[])| .str,.im (.string b)=>some (.str b,[])| .sl _ _,.im (.slice none 0 0)=>some (.sl [],[])| .sl e ts,.ext k=>
  match lkp s.en k with|some (.own e' ts' rows)=>if(Nat.beq e e' && Ty.beqs ts ts')=true then some (.sl rows,[k])else none|_=>none
 |_,_=>none
def In(s:St):List Ty->List C->Option (List Dat×List Nat)
 | [],[]=>some ([],[])|t::ts,c::cs=>
  match UC s t c,In s ts cs with|some (d,k),some (ds,ks)=>some (d::ds,k++ks)|_,_=>none
 |_,_=>none
def Hw(s:St)(ts:List Ty):List (List C)->Option (List (List Dat)×List Nat)
 | []=>some ([],[])|r::rs=>
  match In s ts r,Hw s ts rs with|some (d,k),some (ds,ks)=>some (d::ds,k++ks)|_,_=>none
def AAa(s:St)(t:Ty)(c:C):Option (Dat×List Nat):=
 match t,c with
 | .int,.im (.int .i64 n)=>some (.int n,[])| .bool,.im (.bool b)=>some (.bool b,[])| .str,.im (.string b)=>some (.str b,[])| .sl _ _,.im (.slice none 0 0)=>some (.sl [],[])| .sl e ts,.ext k=>
  match EI s k with|some (e',ts',rows,deps)=>if(Nat.beq e e' && Ty.beqs ts ts')=true then some (.sl rows,deps)else none|_=>none
 |_,_=>none
def L9(s:St):List Ty->List C->Option (List Dat×List Nat)
 | [],[]=>some ([],[])|t::ts,c::cs=>
  match AAa s t c,L9 s ts cs with|some (d,k),some (ds,ks)=>some (d::ds,k++ks)|_,_=>none
 |_,_=>none
def MA(s:St)(ts:List Ty):List (List C)->Option (List (List Dat)×List Nat)
 | []=>some ([],[])|r::rs=>
  match L9 s ts r,MA s ts rs with|some (d,k),some (ds,ks)=>some (d::ds,k++ks)|_,_=>none
def GO:List Nat->Bool
 | []=>true|x::r=>!(r.any (Nat.beq x)) && GO r
theorem Ef:∀{l:List Nat},GO l=true->l.Nodup
 | [],_=>List.nodup_nil|x::r,h=>by simp only[GO,Bool.and_eq_true,Bool.not_eq_true']at h;refine List.nodup_cons.2 ⟨λhx=>?_,Ef h.2⟩;have:=List.any_eq_false.1 h.1 x hx;simp at this
def MB(size:Nat):Nat->List (Nat×List C)->Bool
 |_,[]=>true|k,(i,cs)::r=>Nat.beq i k && Nat.beq cs.length size && MB size (k+1) r
theorem QM(m:Maps)(size:Nat):∀(parts:List (Nat×List C))(vals:List (Nat×Value))(k:Nat)(bef tl:List Value),All2 (λp v=>p.1=v.1/\v.2.cells=(p.2.map (C.den m)).toArray) parts vals ->
  MB size k parts=true->bef.length=k*size->tl.length=parts.length*size ->
  Instr.fill (λi=>some (i*size,size)) (bef++tl).toArray vals=some (bef++(parts.map λp=>p.2.map (C.den m)).flatten).toArray
 | [],_,k,bef,tl,h,_,_,ht=>by cases h;obtain rfl:=List.eq_nil_of_length_eq_zero (by simpa using ht);rfl
 |(i,cs)::r,_,k,bef,tl,h,hs,hb,ht=>by
  cases h with
  | @cons _ v _ vs h1 h2=>
  obtain⟨j,v⟩:=v;simp only at h1;obtain⟨rfl,hv⟩:=h1;simp only[MB,Bool.and_eq_true,Nat.beq_eq]at hs;obtain⟨⟨rfl,hl⟩,hs⟩:=hs;have a0:v.cells.size=size:=by rw[hv];simp[hl]
  simp only[List.length_cons,Nat.add_mul,Nat.one_mul]at ht;simp only[Instr.fill];rw[if_neg (by rw[a0];simp;omega)];have e:=Kp (i*size) v.cells (bef++tl).toArray (by simp;omega);simp only[e];have ih:=QM m size r vs (i+1) (bef++cs.map (C.den m)) (tl.drop size) h2 hs (by simp[hl,hb,Nat.add_mul]) (by simp;omega);have e2:List.take (i*size) (bef++tl)++v.cells.toList++List.drop (i*size+v.cells.size) (bef++tl)=bef++cs.map (C.den m)++tl.drop size:=by rw[← hb,List.take_left,hv,List.drop_append];simp[hl]
  rw[e2,ih];simp
section
variable {P : Program} {tt : TT} {Γ : Env} {n : Nat} {w0 : World} {al fr : Nat → Prop} {s : St} {m : Maps} {a : Act} {w : World} {nx : Nat} {o : Oper}
theorem QN(h:R Γ n w0 al s m a w){t:Ty}{c:C}{d:Dat}{ks:List Nat}(hx:UC s t c=some (d,ks)):(∃bs,Fp w t d (c.den m) bs/\bs.Nodup/\∀b ∈ bs,Γ.mine b/\m.π b ∈ ks)/\∀i ∈ ks,al i:=by unfold UC at hx;split at hx;simp only[Option.some.injEq,Prod.mk.injEq]at hx;obtain⟨rfl,rfl⟩:=hx;exact⟨⟨[],by simp[Fp,C.den],List.nodup_nil,by simp⟩,by simp⟩;simp only[Option.some.injEq,Prod.mk.injEq]at hx;obtain⟨rfl,rfl⟩:=hx;exact⟨⟨[],by simp[Fp,C.den],List.nodup_nil,by simp⟩,by simp⟩;simp only[Option.some.injEq,Prod.mk.injEq]at hx;obtain⟨rfl,rfl⟩:=hx;exact⟨⟨[],by simp[Fp,C.den],List.nodup_nil,by simp⟩,by simp⟩;simp only[Option.some.injEq,Prod.mk.injEq]at hx;obtain⟨rfl,rfl⟩:=hx;refine⟨⟨[],?_,List.nodup_nil,by simp⟩,by simp⟩;simp only[Fp,C.den];exact⟨[],[],World.ownsRow_nil _ _ _ _,rfl,rfl,by simp,by simp,by simp[Value.ownBlock]⟩;split at hx;rename_i hk;split at hx;rename_i hc;simp only[Bool.and_eq_true,Nat.beq_eq]at hc;obtain⟨rfl,hc⟩:=hc;have hc:=Ty.beqs_ok _ _ hc;subst hc;simp only[Option.some.injEq,Prod.mk.injEq]at hx;obtain⟨rfl,rfl⟩:=hx;obtain⟨⟨bs,b1,b2,b3⟩,a0,-⟩:=h.en _ _ hk;exact⟨⟨bs,b1,b2,λb hb=>⟨(b3 b hb).1,by rw[(b3 b hb).2];simp⟩⟩,by simp[a0]⟩;cases hx;cases hx;cases hx
theorem Nu(h:R Γ n w0 al s m a w):∀{ts:List Ty}{cs:List C}{ds:List Dat}{ks:List Nat},In s ts cs=some (ds,ks)->ks.Nodup->(∃bs,FpRow w ts ds (cs.map (C.den m)) bs/\bs.Nodup/\∀b ∈ bs,Γ.mine b/\m.π b ∈ ks)/\∀i ∈ ks,al i
 | [],[],ds,ks,hx,_=>by simp only[In,Option.some.injEq,Prod.mk.injEq]at hx;obtain⟨rfl,rfl⟩:=hx;exact⟨⟨[],rfl,List.nodup_nil,by simp⟩,by simp⟩| [],_::_,_,_,hx,_=>by simp[In]at hx|_::_,[],_,_,hx,_=>by simp[In]at hx|t::ts,c::cs,ds,ks,hx,hn=>by simp only[In]at hx;split at hx;rename_i d k ds' ks' h1 h2;simp only[Option.some.injEq,Prod.mk.injEq]at hx;obtain⟨rfl,rfl⟩:=hx;obtain⟨n1,n2,n3⟩:=List.nodup_append.1 hn;obtain⟨⟨b1,p1,p2,p3⟩,p4⟩:=QN h h1;obtain⟨⟨b2,q1,q2,q3⟩,q4⟩:=Nu h h2 n2;refine⟨⟨b1++b2,by simp only[List.map_cons,FpRow];exact⟨b1,b2,rfl,p1,q1⟩,List.nodup_append.2 ⟨p2,q2,λx hx y hy e=>?_⟩,λb hb=>?_⟩,λi hi=>?_⟩;subst e;exact n3 _ (p3 x hx).2 _ (q3 x hy).2 rfl;rcases List.mem_append.1 hb with hb|hb;exact⟨(p3 b hb).1,List.mem_append.2 (.inl (p3 b hb).2)⟩;exact⟨(q3 b hb).1,List.mem_append.2 (.inr (q3 b hb).2)⟩;rcases List.mem_append.1 hi with hi|hi;exact p4 i hi;exact q4 i hi;cases hx
theorem MC(h:R Γ n w0 al s m a w){ts:List Ty} : ∀{rs:List (List C)}{ds:List (List Dat)}{ks:List Nat},Hw s ts rs=some (ds,ks)->ks.Nodup ->
  (∃bss:List (List Nat),ds.length=rs.length/\bss.length=rs.length/\(∀k,k<rs.length->FpRow w ts (ds.getD k []) ((rs.getD k []).map (C.den m)) (bss.getD k []))/\bss.flatten.Nodup/\∀b ∈ bss.flatten,Γ.mine b/\m.π b ∈ ks)/\∀i ∈ ks,al i
 | [],ds,ks,hx,_=>by simp only[Hw,Option.some.injEq,Prod.mk.injEq]at hx;obtain⟨rfl,rfl⟩:=hx;exact⟨⟨[],rfl,rfl,by simp,by simp,by simp⟩,by simp⟩|r::rs,ds,ks,hx,hn=>by
  simp only[Hw]at hx;split at hx;rename_i d k ds' ks' h1 h2;simp only[Option.some.injEq,Prod.mk.injEq]at hx;obtain⟨rfl,rfl⟩:=hx;obtain⟨n1,n2,n3⟩:=List.nodup_append.1 hn;obtain⟨⟨b1,p1,p2,p3⟩,p4⟩:=Nu h h1 n1;obtain⟨⟨bss,q0,q1,q2,q3,q5⟩,q4⟩:=MC h h2 n2;refine⟨⟨b1::bss,by simp[q0],by simp[q1],λj hj=>?_,?_,λb hb=>?_⟩,λi hi=>?_⟩;cases j with|zero=>simpa using p1|succ j=>simpa using q2 j (by simpa using hj)
  rw[List.flatten_cons];exact List.nodup_append.2 ⟨p2,q3,λx hx y hy e=>by subst e;exact n3 _ (p3 x hx).2 _ (q5 x hy).2 rfl⟩;rw[List.flatten_cons]at hb;rcases List.mem_append.1 hb with hb|hb;exact⟨(p3 b hb).1,List.mem_append.2 (.inl (p3 b hb).2)⟩;exact⟨(q5 b hb).1,List.mem_append.2 (.inr (q5 b hb).2)⟩;rcases List.mem_append.1 hi with hi|hi;exact p4 i hi;exact q4 i hi;cases hx
theorem EJ{deps deps' : List Nat}(h:∀i ∈ deps,i ∈ deps'){b:Nat}(hb:Γ.may m deps b):Γ.may m deps' b:=by rcases hb with hb|hb|hb;exact .inl hb;exact .inr (.inl hb);exact .inr (.inr ⟨hb.1,h _ hb.2⟩)
theorem Yz(h:R Γ n w0 al s m a w){t:Ty}{c:C}{d:Dat}{ks:List Nat}(hx:AAa s t c=some (d,ks)):RdS (Γ.may m ks) w t d (c.den m)/\∀i ∈ ks,al i:=by unfold AAa at hx;split at hx;simp only[Option.some.injEq,Prod.mk.injEq]at hx;obtain⟨rfl,rfl⟩:=hx;exact⟨by simp[RdS,C.den],by simp⟩;simp only[Option.some.injEq,Prod.mk.injEq]at hx;obtain⟨rfl,rfl⟩:=hx;exact⟨by simp[RdS,C.den],by simp⟩;simp only[Option.some.injEq,Prod.mk.injEq]at hx;obtain⟨rfl,rfl⟩:=hx;exact⟨by simp[RdS,C.den],by simp⟩;simp only[Option.some.injEq,Prod.mk.injEq]at hx;obtain⟨rfl,rfl⟩:=hx;refine⟨?_,by simp⟩;simp only[RdS,C.den];exact⟨[],⟨none,0,rfl,Nat.le_refl _,by unfold maxLen;omega,by simp,.inl ⟨rfl,λ_=>rfl⟩⟩,by simp,rfl,by simp⟩;split at hx;rename_i hk;split at hx;rename_i hc;simp only[Bool.and_eq_true,Nat.beq_eq]at hc;obtain⟨rfl,hc⟩:=hc;have hc:=Ty.beqs_ok _ _ hc;subst hc;simp only[Option.some.injEq,Prod.mk.injEq]at hx;obtain⟨rfl,rfl⟩:=hx;obtain⟨⟨F,f1,f2⟩,-,hd⟩:=h.sl hk;exact⟨RdS.mono f2 _ _ _ f1,hd⟩;cases hx;cases hx;cases hx
theorem QO(h:R Γ n w0 al s m a w):∀{ts:List Ty}{cs:List C}{ds:List Dat}{ks:List Nat},L9 s ts cs=some (ds,ks)->RdRowS (Γ.may m ks) w ts ds (cs.map (C.den m))/\∀i ∈ ks,al i
 | [],[],ds,ks,hx=>by simp only[L9,Option.some.injEq,Prod.mk.injEq]at hx;obtain⟨rfl,rfl⟩:=hx;exact⟨by simp[RdRowS],by simp⟩| [],_::_,_,_,hx=>by simp[L9]at hx|_::_,[],_,_,hx=>by simp[L9]at hx|t::ts,c::cs,ds,ks,hx=>by simp only[L9]at hx;split at hx;rename_i d k ds' ks' h1 h2;simp only[Option.some.injEq,Prod.mk.injEq]at hx;obtain⟨rfl,rfl⟩:=hx;obtain⟨p1,p4⟩:=Yz h h1;obtain⟨q1,q4⟩:=QO h h2;refine⟨?_,λi hi=>?_⟩;simp only[List.map_cons,RdRowS];exact⟨RdS.mono (λb hb=>EJ (λi hi=>List.mem_append.2 (.inl hi)) hb) _ _ _ p1,RdRowS.mono (λb hb=>EJ (λi hi=>List.mem_append.2 (.inr hi)) hb) _ _ _ q1⟩;rcases List.mem_append.1 hi with hi|hi;exact p4 i hi;exact q4 i hi;cases hx
theorem Nv(h:R Γ n w0 al s m a w){ts:List Ty} : ∀{rs:List (List C)}{ds:List (List Dat)}{ks:List Nat},MA s ts rs=some (ds,ks)->(ds.length=rs.length/\∀k,k<rs.length->RdRowS (Γ.may m ks) w ts (ds.getD k []) ((rs.getD k []).map (C.den m)))/\∀i ∈ ks,al i
 | [],ds,ks,hx=>by simp only[MA,Option.some.injEq,Prod.mk.injEq]at hx;obtain⟨rfl,rfl⟩:=hx;exact⟨⟨rfl,by simp⟩,by simp⟩|r::rs,ds,ks,hx=>by
  simp only[MA]at hx;split at hx;rename_i d k ds' ks' h1 h2;simp only[Option.some.injEq,Prod.mk.injEq]at hx;obtain⟨rfl,rfl⟩:=hx;obtain⟨p1,p4⟩:=QO h h1;obtain⟨⟨q0,q1⟩,q4⟩:=Nv h h2;refine⟨⟨by simp[q0],λj hj=>?_⟩,λi hi=>?_⟩;cases j with|zero=>simpa using RdRowS.mono (λb hb=>EJ (λi hi=>List.mem_append.2 (.inl hi)) hb) _ _ _ p1|succ j=>simpa using RdRowS.mono (λb hb=>EJ (λi hi=>List.mem_append.2 (.inr hi)) hb) _ _ _ (q1 j (by simpa using hj))
  rcases List.mem_append.1 hi with hi|hi;exact p4 i hi;exact q4 i hi;cases hx
theorem Stp.newOwn(h:R Γ n w0 al s m a w){dst:Option Tmp}{e:Nat}{ts:List Ty}{rows:List (List Dat)}{cons:List Nat}{v' : Value}{w' : World}{bs:List Nat}(hb:Bel Γ w w')
 (hk:∀b,b<w.heap.size->(¬Γ.mine b\/m.π b ∉ cons)->w'.heap[b]?=w.heap[b]?) (hf:Fp w' (.sl e ts) (.sl rows) v' bs) (hn:bs.Nodup) (a0:∀b ∈ bs,Γ.mine b/\(w.heap.size<=b\/m.π b ∈ cons))
 (hc:∀j ∈ cons,al j) (a1:¬al nx) (a2:fr nx) :
 ∃m',Stp Γ al fr dst m a w ⟨.one (.one (.ext nx)),(nx,.own e ts rows)::cons.map λi=>(i,.dead)⟩ m' (a.put dst v') w':=
 ⟨_,Stp.newSl h (cons:=cons) (π':=λb=>if b ∈ bs then nx else m.π b) hb hk (λb hlt hb=>if_neg λhm=>by rcases(a0 b hm).2 with h1|h1;omega;exact hb h1) ⟨bs,by simp only[Cf];exact hf,hn,λb hb=>⟨(a0 b hb).1,if_pos hb⟩⟩ (by simp[En.ids]) hc a1 a2⟩
def Nw(top:Bool)(s:St)(shape:List Ty)(l:List (List C)):=match top with|true=>none|false=>Hw s shape l
theorem MD{top:Bool}{s:St}{shape:List Ty}{l:List (List C)}{x:List (List Dat)×List Nat}(h:Nw top s shape l=some x):Hw s shape l=some x:=by
 cases top with|true=>cases h|false=>exact h
def DR(tt:TT)(s:St)(nx t len:Nat)(shape:List Ty)(ps:List (Nat×Operand))(top:Bool)(q:Eff->Prop):Prop:=
 match Ig tt t,FI s ps with
 |some (e,ei),some parts=>
  if(Nat.beq parts.length len && MB ei.size 0 parts && Nat.ble (len*ei.size) 4096 && Nat.beq ei.zero.length ei.size && Nat.beq shape.length ei.size && Nat.ble 1 ei.size)=true then
   match Nw top s shape (parts.map (·.2))with
   |some (ds,ks)=>if GO ks=true then q ⟨.one (.one (.ext nx)),(nx,.own e shape ds)::ks.map λi=>(i,.dead)⟩else False
   |none=>
    match MA s shape (parts.map (·.2))with|some (ds,ks)=>q ⟨.one (.one (.ext nx)),[(nx,.top e shape ds ks)]⟩|none=>False
  else False
 |_,_=>False
theorem ME(hT:TTok P tt)(h:R Γ n w0 al s m a w){t len e:Nat}{ps:Array (Nat×Operand)}{parts:List (Nat×List C)}{ei:TI}(a0:Ig tt t=some (e,ei))(a1:FI s ps.toList=some parts)
  (h1:parts.length=len) (h2:MB ei.size 0 parts=true) (h3:len*ei.size<=4096) :
  (Instr.buildSlice t len (ps.map λ(i,x)=>(i,a.eval x))).run P w=.ok (.slice (some ⟨w.heap.size,0,none⟩) len len) (w.alloc (.cells (parts.map λp=>p.2.map (C.den m)).flatten.toArray e)):=by
 obtain⟨u1,u2⟩:=HT hT a0;obtain⟨z,hz,hzc⟩:=u2.zeroValue (w:=w);obtain⟨p1,p2⟩:=HN h _ _ a1;unfold Instr.buildSlice;simp only[Sem.run_bind,Ad u1,Result.andThen_ok,u2.sizeOf];rw[if_neg (by omega)];have key:∀zs:Array Value,zs.size=len*ei.size->Instr.fill (λi=>some (i*ei.size,ei.size)) zs (ps.map λ(i,x)=>(i,a.eval x)).toList=some (parts.map λp=>p.2.map (C.den m)).flatten.toArray:=by intro zs a2;have:=QM m ei.size parts _ 0 [] zs.toList p1 h2 (by simp) (by simp[a2,h1]);simpa using this
 by_cases h0:len*ei.size=0;simp only[h0,if_true,Sem.run_bind,Sem.run_pure,Result.andThen_ok];rw[key _ (by simp[h0])];simp[newRow];simp only[h0,if_false,Sem.run_bind,hz,Sem.run_pure,Result.andThen_ok];rw[key _ (by simp)];simp[newRow]
theorem Nx{size:Nat} : ∀{parts:List (Nat×List C)}{k:Nat},MB size k parts=true->∀r ∈ parts.map (·.2),r.length=size
 | [],_,_=>by simp|(i,cs)::r,k,h=>by simp only[MB,Bool.and_eq_true,Nat.beq_eq]at h;intro x hx;rcases List.mem_cons.1 hx with rfl|hx;exact h.1.2;exact Nx h.2 x hx
theorem FJ{α:Type}{size:Nat} : ∀{rows:List (List α)},(∀r ∈ rows,r.length=size)->rows.flatten.length=rows.length*size
 | [],_=>by simp|r::rs,h=>by rw[List.flatten_cons,List.length_append,h r (by simp),FJ λq hq=>h q (by simp[hq]),List.length_cons,Nat.add_mul];omega
theorem MF(hT:TTok P tt)(h:R Γ n w0 al s m a w){t len:Nat}{shape:List Ty}{ps:Array (Nat×Operand)}(top:Bool)(ho:o.op=.buildSlice t len ps)(a6:¬al nx)(hf:fr nx):Snd P Γ al fr m a w o (DR tt s nx t len shape ps.toList top):=by
 intro q hk Q;unfold DR at hk;split at hk;rename_i e ei parts a9 aA;split at hk;rename_i hc;simp only[Bool.and_eq_true,Nat.beq_eq,Nat.ble_eq]at hc;obtain⟨⟨⟨⟨⟨c1,c2⟩,c3⟩,c4⟩,c5⟩,c6⟩:=hc;have a3:=ME hT h a9 aA c1 c2 c3;have a1:(execOp a.eval o).run P w=.ok (.value (.slice (some ⟨w.heap.size,0,none⟩) len len)) (w.alloc (.cells (parts.map λp=>p.2.map (C.den m)).flatten.toArray e)):=by simp only[execOp,ho,Sem.run_bind,a3,Result.andThen_ok,Sem.run_pure]
 have aB:=Nx c2;have a4:∀r ∈ parts.map λp=>p.2.map (C.den m),r.length=shape.length:=λr hr=>by obtain⟨p,hp,rfl⟩:=List.mem_map.1 hr;rw[List.length_map,c5];exact aB _ (List.mem_map.2 ⟨p,hp,rfl⟩)
 have a2:(w.alloc (.cells (parts.map λp=>p.2.map (C.den m)).flatten.toArray e)).ownsRow 0 e shape.length (.slice (some ⟨w.heap.size,0,none⟩) len len) (parts.map λp=>p.2.map (C.den m)).length (parts.map λp=>p.2.map (C.den m)).flatten:=by
  have a5:=FJ a4;have a7:(parts.map λp=>p.2.map (C.den m)).length=len:=by simp[c1]
  refine⟨a5,.inr ⟨w.heap.size,len,_,by rw[a7],Nat.zero_le _,heap_alloc_new w _,by omega,?_,?_,?_⟩⟩;unfold maxLen;have:=Nat.le_mul_of_pos_right len c6;omega;simp only[List.size_toArray,a5,a7];rw[List.take_of_length_le (by simp only[a5];exact Nat.le_refl _)]
 have a0:∀b,b<w.heap.size->(w.alloc (.cells (parts.map λp=>p.2.map (C.den m)).flatten.toArray e)).heap[b]?=w.heap[b]?:=λb hb=>Below.heap_alloc _ _ _ hb;have hg:∀k,k<parts.length->(parts.map λp=>p.2.map (C.den m)).getD k []=((parts.map (·.2)).getD k []).map (C.den m):=λk hk=>by simp[List.getD,hk]
 split at hk;rename_i ds ks aC;split at hk;rename_i aD;obtain⟨⟨bss,r0,r1,r2,r3,r4⟩,r5⟩:=MC h (MD aC) (Ef aD);simp only[List.length_map]at r0 r1 r2;have a8:∀b ∈ bss.flatten,b<w.heap.size:=λb hb=>by obtain⟨k,hk,hb⟩:=Cw hb;exact FpRow.lt _ _ _ _ (r2 k (by omega)) b hb
 have aE:Fp (w.alloc (.cells (parts.map λp=>p.2.map (C.den m)).flatten.toArray e)) (.sl e shape) (.sl ds) (.slice (some ⟨w.heap.size,0,none⟩) len len) (w.heap.size::bss.flatten):=by simp only[Fp];refine⟨parts.map λp=>p.2.map (C.den m),bss,a2,by simp[r0],by simp[r0,r1],a4,λk hk=>?_,rfl⟩;rw[r0]at hk;rw[hg k hk];exact FpRow.same _ _ _ _ (r2 k hk) λb hb=>a0 b (a8 b (AM hb))
 obtain⟨m',hs⟩:=Stp.newOwn h (dst:=o.dst) (cons:=ks) ((Bel.refl _ _).alloc h.old _) (λb hb _=>a0 b hb) aE (List.nodup_cons.2 ⟨λhb=>by have:=a8 _ hb;omega,r3⟩) (λb hb=>by rcases List.mem_cons.1 hb with rfl|hb;exact⟨.inl h.old,.inl (Nat.le_refl _)⟩;exact⟨(r4 b hb).1,.inr (r4 b hb).2⟩) r5 a6 hf;exact Oper.wp_value a1 ⟨_,m',hk,hs⟩;exact hk.elim;split at hk;rename_i ds ks aF;obtain⟨⟨r0,r1⟩,r2⟩:=Nv h aF;simp only[List.length_map]at r0 r1;have aG:∀b,b<w.heap.size->(λb=>if b=w.heap.size then nx else m.π b) b=m.π b:=λb hb=>if_neg (by omega)
 refine Oper.wp_value a1 ⟨_,_,hk,Stp.newSl h (cons:=[]) (π':=λb=>if b=w.heap.size then nx else m.π b) ((Bel.refl _ _).alloc h.old _) (λb hb _=>a0 b hb) (λb hb _=>aG b hb)
  ⟨parts.map λp=>p.2.map (C.den m),by simp only[Cf];exact a2,by simp[r0],a4,λk hk=>?_,λb hb=>?_⟩ (λj hj=>r2 j hj) (by simp) a6 hf⟩
 rw[r0]at hk;rw[hg k hk];refine⟨_,RdRowS.step (by simp) (λb hb _=>a0 b hb) _ _ _ (r1 k hk),λb hb=>?_⟩;rcases hb.1 with h1|h1|h1;exact .inl h1;exact .inr (.inl ⟨h1.1,by show(if b=w.heap.size then nx else m.π b)=0;rw[if_neg (by have:=hb.2;omega)];exact h1.2⟩);exact .inr (.inr ⟨h1.1,by show(if b=w.heap.size then nx else m.π b) ∈ ks;rw[if_neg (by have:=hb.2;omega)];exact h1.2⟩);simp only[Cf,Value.ownBlock,Option.some.injEq]at hb;subst hb;exact⟨.inl h.old,if_pos rfl⟩;exact hk.elim;exact hk.elim;exact hk.elim
end
end Go.Proofs.YthoidhehmmcgnaaGreat
namespace Go.Proofs.YthoidhehmmcgnaaGreat
set_option linter.unusedVariables false
set_option linter.unusedSimpArgs false
open Go.RowKit
def O3(bytes:Nat):Nat:=cond (Nat.ble bytes 64) 2199023255552 1073741824
theorem Ny{n bytes:Nat}(h:n<=O3 bytes)(hb:bytes<=1024):n<=2199023255552/\n*bytes<=140737488355328:=by
 unfold O3 at h;cases hc:Nat.ble bytes 64 with|true=>rw[hc]at h;have h:n<=2199023255552:=h;have:=Nat.mul_le_mul h (Nat.le_of_ble_eq_true hc);omega|false=>rw[hc]at h;have h:n<=1073741824:=h;have:=Nat.mul_le_mul h hb;omega
theorem SG{P:Program}{w:World}{t e:Nat}{ei:TI}{a:Act}{o:Oper}{x y:Operand}(hu:P.underlying t=some (.slice e))(hi:TIok P e ei)(hz:ei.zero.length=ei.size)(hs:1<=ei.size)(a9:ei.bytes<=1024)
  (ho:o.op=.call {callee:=.builtin .append,args:=#[x,y],argTypes:=#[t,t]}) {v:Value} {n:Nat} {xs:List Value} (hx:a.eval x=v) (a6:w.ownsRow 0 e ei.size v n xs)
  {u:Value} {rows:List (List Value)} (hy:a.eval y=u) (aD:SlAt ei.size w u rows) (h1:∀r ∈ rows,∀q ∈ r,q.oneCell'=true) (a8:n+rows.length<=O3 ei.bytes) :
  ∃v' w',(execOp a.eval o).run P w=.ok (.value v') w'/\w'.ownsRow 0 e ei.size v' (n+rows.length) (xs++rows.flatten)/\w.grownBy w' v.ownBlock/\(v'.ownBlock=v.ownBlock\/v'.ownBlock=some w.heap.size):=by
 obtain⟨inf,i1,i2,i3,i4⟩:=hi.info;cases hzz:inf.zero with
 |none=>rw[hzz]at i4;cases i4|some z=>
 rw[hzz]at i4;simp only[Option.map_some,Option.some.injEq]at i4;obtain⟨ad,cap,rfl,hl,hc,aA,a0⟩:=aD;have aB:=FJ aA;have hex:∀r:Sem Value,(execOp a.eval o)=(do pure (.value (← r)))->∀v' w',r.run P w=.ok v' w'->(execOp a.eval o).run P w=.ok (.value v') w':=λr hr v' w' h=>by rw[hr];simp[h]
 have a5:(execOp a.eval o).run P w=((do pure (Next.value (← Builtin.append_ #[t,t] o.type #[v,.slice ad rows.length cap])):Sem Next)).run P w:=by unfold execOp;simp only[ho,resolve,invoke,builtin,Sem.run_bind,Sem.run_pure,Result.andThen_ok,List.map_toArray,List.map_cons,List.map_nil,hx,hy]
 cases ad with
 |none=>
  rcases a0 with⟨rfl,a7⟩|⟨b,off,hb,_⟩
  ·have a7:=a7 rfl
   subst a7;have hr:=run_append_owned_none (P:=P) (w:=w) 0 t o.type e inf ei.size hu i1 v n xs a6;refine⟨v,w,?_,by simpa using a6,⟨rfl,rfl,rfl,Nat.le_refl _,λ_ _ _=>rfl⟩,.inl rfl⟩;rw[a5];simp only[List.length_nil]at hr ⊢;simp[hr]
  ·cases hb
 |some ad=>
  have a1:∀j q,rows.flatten[j]?=some q->w.cell? (ad.add j)=some q:=λj q hj=>by
   have aC:j<rows.length*ei.size:=(by rw[← aB];exact(List.getElem?_eq_some_iff.1 hj).1);rcases a0 with⟨rfl,_⟩|⟨b,off,hb,_,aE⟩;·simp at aC
   ·simp only[Option.some.injEq]at hb
    subst hb;have hj1:j/ei.size<rows.length:=Nat.div_lt_of_lt_mul (by rw[Nat.mul_comm];exact aC);have hj2:j%ei.size<ei.size:=Nat.mod_lt _ (by omega);have e0:=aE (j/ei.size) hj1 (j%ei.size) hj2;have e1:j/ei.size*ei.size+j%ei.size=j:=(by rw[Nat.mul_comm];exact Nat.div_add_mod j ei.size);rw[e1]at e0;rw[Cg,e0];rw[CJ rows ei.size aA j hj1 hj2]at hj;exact hj
  have a2:∀q ∈ rows.flatten,q.oneCell'=true:=by intro q hq;obtain⟨r,hr,hq⟩:=List.mem_flatten.1 hq;exact h1 r hr q hq
  have a3:n+rows.length<=maxLen:=by have:=(Ny a8 a9).1;unfold maxLen;omega
  have a4:=(Ny a8 a9).2;obtain⟨v',w',hr,p1,p2,_,p4⟩:=run_append_own_at (P:=P) w 0 t o.type e inf z ei.size ei.bytes hu i1 hzz i2 i3 (by rw[i4];simp[hz]) (by omega) v n xs a6 ad rows.length cap rows.flatten aB a1 a2 a3 a4 (Nat.zero_le _);exact⟨v',w',by rw[a5];simp[hr],p1,p2,p4⟩
theorem C6{α:Type}(A B:List α)(d:α){k:Nat}(h:k<A.length):(A++B).getD k d=A.getD k d:=by simp[List.getD,List.getElem?_append_left h]
theorem Ch{α:Type}(A B:List α)(d:α){k:Nat}(h:A.length<=k):(A++B).getD k d=B.getD (k-A.length) d:=by simp[List.getD,List.getElem?_append_right h]
theorem Fp.appended{w w' : World}{e:Nat}{ts:List Ty}{ls ls2:List (List Dat)}{v v' : Value}{rows rows2:List (List Value)}{bss bss2:List (List Nat)}
  (q2:rows.length=ls.length) (q3:bss.length=ls.length) (q4:∀r ∈ rows,r.length=ts.length) (q5:∀k,k<ls.length->FpRow w ts (ls.getD k []) (rows.getD k []) (bss.getD k []))
  (hl2:rows2.length=ls2.length) (hb2:bss2.length=ls2.length) (hr2:∀r ∈ rows2,r.length=ts.length) (hf2:∀k,k<ls2.length->FpRow w ts (ls2.getD k []) (rows2.getD k []) (bss2.getD k []))
  (hn:(v.ownBlock.toList++(bss.flatten++bss2.flatten)).Nodup)
  (a2:w'.ownsRow 0 e ts.length v' (ls.length+rows2.length) (rows.flatten++rows2.flatten)) (hg:w.grownBy w' v.ownBlock) (a1:v'.ownBlock=v.ownBlock\/v'.ownBlock=some w.heap.size) :
  Fp w' (.sl e ts) (.sl (ls++ls2)) v' (v'.ownBlock.toList++(bss++bss2).flatten)/\(v'.ownBlock.toList++(bss++bss2).flatten).Nodup:=by
 have hp:=List.nodup_append.1 hn;have a3:∀b ∈ bss.flatten++bss2.flatten,b<w.heap.size:=λb hb=>by rcases List.mem_append.1 hb with hb|hb;obtain⟨k,hk,hb⟩:=Cw hb;exact FpRow.lt _ _ _ _ (q5 k (by omega)) b hb;obtain⟨k,hk,hb⟩:=Cw hb;exact FpRow.lt _ _ _ _ (hf2 k (by omega)) b hb
 have a0:∀b ∈ bss.flatten++bss2.flatten,w'.heap[b]?=w.heap[b]?:=λb hb=>hg.block b (a3 b hb) λe=>hp.2.2 b (by simp[← e]) b hb rfl;refine⟨?_,?_⟩;simp only[Fp];refine⟨rows++rows2,bss++bss2,?_,by simp[q2,hl2],by simp[q3,hb2],?_,?_,rfl⟩;rw[List.flatten_append,List.length_append,q2];exact a2;intro r hr;rcases List.mem_append.1 hr with hr|hr;exact q4 r hr;exact hr2 r hr;intro k hk;by_cases a4:k<ls.length;rw[C6 _ _ _ a4,C6 _ _ _ (by omega),C6 _ _ _ (by omega)];exact FpRow.same _ _ _ _ (q5 k a4) λb hb=>a0 b (List.mem_append.2 (.inl (AM hb)));simp only[List.length_append]at hk;rw[Ch _ _ _ (by omega),Ch _ _ _ (by omega),Ch _ _ _ (by omega),q2,q3];exact FpRow.same _ _ _ _ (hf2 (k-ls.length) (by omega)) λb hb=>a0 b (List.mem_append.2 (.inr (AM hb)));rw[List.flatten_append];refine List.nodup_append.2 ⟨by cases v'.ownBlock <;> simp,hp.2.1,λx hx y hy e=>?_⟩;subst e;have hv:v'.ownBlock=some x:=by simpa using hx
 rcases a1 with a1|a1;rw[a1]at hv;exact hp.2.2 x (by simp[hv]) x hy rfl;rw[a1]at hv;simp at hv;have:=a3 x hy;omega
def QP:List Ty->Bool
 | []=>true|t::ts=>t.leaf && QP ts
theorem QR:∀{ts:List Ty},QP ts=true->∀t ∈ ts,t.leaf=true
 | [],_=>by simp|t::ts,h=>by simp only[QP,Bool.and_eq_true]at h;intro x hx;rcases List.mem_cons.1 hx with rfl|hx;exact h.1;exact QR h.2 x hx
def Wr(s:St)(ts:List Ty)(e:Nat)(c:C):Option (List Nat×List (List Dat)×Bool×List Nat):=
 match c with
 | .im (.slice none 0 0)=>some ([],[],true,[])| .ext k=>
  match lkp s.en k with|some (.own e' ts' rows)=>if(Nat.beq e e' && Ty.beqs ts ts')=true then some ([k],rows,true,[])else none|some (.top e' ts' rows deps)=>if(Nat.beq e e' && Ty.beqs ts ts')=true then some ([k],rows,false,deps)else none|_=>none
 |_=>none
def Ws(s:St)(c:C):Option (Option Nat×Nat×List Ty×List (List Dat)×List Nat):=
 match c with
 | .ext k=>
  match lkp s.en k with|some (.own e ts rows)=>some (some k,e,ts,rows,[k])|some E=>(En.sl E k).map λx=>(none,x)|none=>none
 |_=>none
def Hx(tt:TT)(s:St)(nx t:Nat)(x y:Option T)(q:Eff->Prop):Prop:=
 match x.bind T.c?,y.bind T.c? with
 |some cx,some cy=>
  match Ws s cy,Ig tt t with
  |some (own2,e,ts,rows2,deps2),some (e',ei)=>
   match Wr s ts e cx with
   |some (ks,rows,own1,deps1)=>
    if(Nat.beq e e' && Nat.beq ts.length ei.size && Nat.beq ei.zero.length ei.size && Nat.ble 1 ei.size && Nat.ble ei.bytes 1024)=true then
     rows.length+rows2.length<=O3 ei.bytes /\
     match own1,QP ts,own2 with|true,true,_=>q ⟨.one (.one (.ext nx)),(nx,.own e ts (rows++rows2))::ks.map λi=>(i,.dead)⟩|true,false,some k2=>if(ks.any (Nat.beq k2))=true then False else q ⟨.one (.one (.ext nx)),(nx,.own e ts (rows++rows2))::(k2::ks).map λi=>(i,.dead)⟩|_,_,_=>if(ks.any λk=>(deps1++deps2).any (Nat.beq k))=true then False else q ⟨.one (.one (.ext nx)),(nx,.top e ts (rows++rows2) (deps1++deps2))::ks.map λi=>(i,.dead)⟩
    else False
   |none=>False
  |_,_=>False
 |_,_=>False
section
variable {P : Program} {tt : TT} {Γ : Env} {n : Nat} {w0 : World} {al fr : Nat → Prop} {s : St} {m : Maps} {a : Act} {w : World} {nx : Nat} {o : Oper}
theorem Wt(h:R Γ n w0 al s m a w){c:C}{own2:Option Nat}{e:Nat}{ts:List Ty}{rows:List (List Dat)}{deps:List Nat}(hx:Ws s c=some (own2,e,ts,rows,deps)) :
  ∃k,c=.ext k/\EI s k=some (e,ts,rows,deps)/\(∀k2,own2=some k2->k2=k/\lkp s.en k=some (.own e ts rows)):=by
 unfold Ws at hx;split at hx;rename_i k;split at hx;rename_i e' ts' rows' hk;simp only[Option.some.injEq,Prod.mk.injEq]at hx;obtain⟨rfl,rfl,rfl,rfl,rfl⟩:=hx;exact⟨k,rfl,by simp[EI,hk,En.sl],λk2 hk2=>⟨(Option.some.inj hk2).symm,hk⟩⟩;rename_i E hne hk;cases hE:En.sl E k with|none=>rw[hE]at hx;cases hx|some y=>rw[hE]at hx;simp only[Option.map_some,Option.some.injEq,Prod.mk.injEq]at hx;obtain⟨rfl,rfl⟩:=hx;exact⟨k,rfl,by simp[EI,hk,hE],by simp⟩
 cases hx;cases hx
theorem Wu(h:R Γ n w0 al s m a w){c:C}{e:Nat}{ts:List Ty}{ks:List Nat}{rows:List (List Dat)}{own1:Bool}{deps:List Nat}(hx:Wr s ts e c=some (ks,rows,own1,deps)) :
  ∃rv:List (List Value),w.ownsRow 0 e ts.length (c.den m) rows.length rv.flatten/\rv.length=rows.length/\(∀r ∈ rv,r.length=ts.length)/\(∀i ∈ ks,al i)/\(∀i ∈ deps,al i)/\(∀b,(c.den m).ownBlock=some b->Γ.mine b/\m.π b ∈ ks) /\
   (own1=true->∃bss:List (List Nat),bss.length=rows.length/\(∀k,k<rows.length->FpRow w ts (rows.getD k []) (rv.getD k []) (bss.getD k []))/\((c.den m).ownBlock.toList++bss.flatten).Nodup/\∀b ∈ bss.flatten,Γ.mine b/\m.π b ∈ ks) /\
   (own1=false->∀k,k<rows.length->∃F,RdRowS F w ts (rows.getD k []) (rv.getD k [])/\∀b,F b->Γ.may m deps b):=by
 unfold Wr at hx;split at hx;simp only[Option.some.injEq,Prod.mk.injEq]at hx;obtain⟨rfl,rfl,rfl,rfl⟩:=hx;exact⟨[],World.ownsRow_nil _ _ _ _,rfl,by simp,by simp,by simp,by simp[C.den,Value.ownBlock],λ_=>⟨[],rfl,by simp,by simp[C.den,Value.ownBlock],by simp⟩,by simp⟩;split at hx;rename_i k e' ts' rows' hk;split at hx;rename_i hc;simp only[Bool.and_eq_true,Nat.beq_eq]at hc;obtain⟨rfl,hc⟩:=hc;have hc:=Ty.beqs_ok _ _ hc;subst hc;simp only[Option.some.injEq,Prod.mk.injEq]at hx;obtain⟨rfl,rfl,rfl,rfl⟩:=hx;obtain⟨⟨bs,b1,b2,b3⟩,a0,-⟩:=h.en _ _ hk;simp only[Fp]at b1;obtain⟨rv,bss,q1,q2,q3,q4,q5,rfl⟩:=b1;refine⟨rv,by rw[← q2];exact q1,q2,q4,by simp[a0],by simp,λb hb=>?_,λ_=>⟨bss,q3,q5,b2,λb hb=>?_⟩,by simp⟩;have:=b3 b (List.mem_append.2 (.inl (by simp only[C.den]at hb;simp[hb])));exact⟨this.1,by rw[this.2];simp⟩;have:=b3 b (List.mem_append.2 (.inr hb));exact⟨this.1,by rw[this.2];simp⟩;cases hx;rename_i k e' ts' rows' deps' hk;split at hx;rename_i hc;simp only[Bool.and_eq_true,Nat.beq_eq]at hc;obtain⟨rfl,hc⟩:=hc;have hc:=Ty.beqs_ok _ _ hc;subst hc;simp only[Option.some.injEq,Prod.mk.injEq]at hx;obtain⟨rfl,rfl,rfl,rfl⟩:=hx;obtain⟨⟨rv,q1,q2,q3,q4,q5⟩,a0,hd⟩:=h.en _ _ hk;refine⟨rv,by rw[← q2];exact q1,q2,q3,by simp[a0],λi hi=>hd i hi,λb hb=>?_,by simp,λ_=>q4⟩;have:=q5 b (by simpa[C.den]using hb);exact⟨this.1,by rw[this.2];simp⟩;cases hx;cases hx;cases hx
theorem SH(hT:TTok P tt)(h:R Γ n w0 al s m a w){t:Nat}{x y:Operand}(ho:o.op=.call {callee:=.builtin .append,args:=#[x,y],argTypes:=#[t,t]})(aH:¬al nx)(hf:fr nx):Snd P Γ al fr m a w o (Hx tt s nx t (ev s x) (ev s y)):=by
 intro q hk Q;unfold Hx at hk;split at hk;rename_i cx cy aB aC;obtain⟨tx,etx,aB⟩:=Option.bind_eq_some_iff.1 aB;obtain⟨ty,ety,aC⟩:=Option.bind_eq_some_iff.1 aC;obtain⟨x1,-⟩:=h.ev etx;obtain⟨y1,-⟩:=h.ev ety;rw[T.c?_some aB]at x1;rw[T.c?_some aC]at y1;split at hk;rename_i own2 e ts rows2 deps2 e' ei aM aN;split at hk;rename_i ks rows own1 deps1 aO;split at hk;rename_i hc;simp only[Bool.and_eq_true,Nat.beq_eq,Nat.ble_eq]at hc;obtain⟨⟨⟨⟨rfl,c2⟩,c3⟩,c4⟩,c5⟩:=hc;obtain⟨hlen,hk⟩:=hk;obtain⟨u1,u2⟩:=HT hT aN;obtain⟨k2,rfl,aD,a4⟩:=Wt h aM;obtain⟨rv,t1,t2,t3,t4,t5,t6,t7,t8⟩:=Wu h aO;obtain⟨⟨F2,f1,f2⟩,aE,a0⟩:=h.sl aD;have x1:a.eval x=cx.den m:=x1;have y1:a.eval y=m.ε k2:=y1
 have key:∀(rv2:List (List Value)),SlAt ts.length w (m.ε k2) rv2->rv2.length=rows2.length->(∀r ∈ rv2,∀q ∈ r,q.oneCell'=true) ->
  ∃v' w',(execOp a.eval o).run P w=.ok (.value v') w'/\w'.ownsRow 0 e ts.length v' (rows.length+rv2.length) (rv.flatten++rv2.flatten)/\w.grownBy w' (cx.den m).ownBlock/\(v'.ownBlock=(cx.den m).ownBlock\/v'.ownBlock=some w.heap.size) /\
   Bel Γ w w'/\(∀cons:List Nat,(∀i ∈ ks,i ∈ cons)->∀b,b<w.heap.size->(¬Γ.mine b\/m.π b ∉ cons)->w'.heap[b]?=w.heap[b]?):=by
  intro rv2 a5 hl2 h1;rw[c2]at a5 t1 ⊢;obtain⟨v',w',r1,r2,r3,r4⟩:=SG u1 u2 c3 c4 c5 ho x1 t1 y1 a5 h1 (by omega);refine⟨v',w',r1,r2,r3,r4,⟨λ_=>VO _ r1,r3.os,r3.tape,r3.output,r3.size,λb hb=>r3.block b (Nat.lt_of_lt_of_le (Env.old hb) h.old) λe=>?_⟩,λcons a6 b hb h2=>r3.block b hb λe=>?_⟩;exact hb (t6 b e.symm).1;have:=t6 b e.symm;rcases h2 with h2|h2;exact h2 this.1;exact h2 (a6 _ this.2)
 have own_case:∀(rv2:List (List Value))(bss2:List (List Nat))(cons:List Nat),SlAt ts.length w (m.ε k2) rv2->rv2.length=rows2.length->bss2.length=rows2.length->(∀j,j<rows2.length->FpRow w ts (rows2.getD j []) (rv2.getD j []) (bss2.getD j [])) ->
  own1=true->(∀i ∈ ks,i ∈ cons)->(∀i ∈ cons,al i)->bss2.flatten.Nodup->(∀b ∈ bss2.flatten,Γ.mine b/\m.π b ∈ cons/\m.π b ∉ ks)->q ⟨.one (.one (.ext nx)),(nx,.own e ts (rows++rows2))::cons.map λi=>(i,.dead)⟩ ->
  o.wp P a w (λa' w'=>∃e m',q e/\Stp Γ al fr o.dst m a w e m' a' w') Q:=by
  intro rv2 bss2 cons a5 hl2 hb2 hf2 ho1 a7 aF hn2 hi2 hq;have aG:∀r ∈ rv2,r.length=ts.length:=by obtain⟨_,_,_,_,_,q,_⟩:=a5;exact q
  obtain⟨v',w',r1,r2,r3,r4,r5,r6⟩:=key rv2 a5 hl2 λr hr=>by obtain⟨j,hj,rfl⟩:=List.mem_iff_getElem.1 hr;have:=hf2 j (by omega);have e0:rv2.getD j []=rv2[j]:=(by simp[List.getD,hj]);rw[e0]at this;exact RdRow.one _ _ _ (FpRow.rd _ _ _ _ this)
  obtain⟨bss,p1,p2,p3,p4⟩:=t7 ho1;have hn:((cx.den m).ownBlock.toList++(bss.flatten++bss2.flatten)).Nodup:=by rw[← List.append_assoc];refine List.nodup_append.2 ⟨p3,hn2,λb hb b' hb' e=>?_⟩;subst e;rcases List.mem_append.1 hb with hb|hb;exact(hi2 b hb').2.2 (t6 b (by simpa using hb)).2;exact(hi2 b hb').2.2 (p4 b hb).2
  obtain⟨g1,g2⟩:=Fp.appended t2 p1 t3 p2 hl2 hb2 aG hf2 hn r2 r3 r4;obtain⟨m',hs⟩:=Stp.newOwn h (dst:=o.dst) (cons:=cons) r5 (r6 cons a7) g1 g2 (λb hb=>by rw[List.flatten_append]at hb;rcases List.mem_append.1 hb with hb|hb;rcases r4 with r4|r4;rw[r4]at hb;have:=t6 b (by simpa using hb);exact⟨this.1,.inr (a7 _ this.2)⟩;rw[r4]at hb;simp at hb;subst hb;exact⟨.inl h.old,.inl (Nat.le_refl _)⟩;rcases List.mem_append.1 hb with hb|hb;exact⟨(p4 b hb).1,.inr (a7 _ (p4 b hb).2)⟩;exact⟨(hi2 b hb).1,.inr (hi2 b hb).2.1⟩) aF aH hf;exact Oper.wp_value r1 ⟨_,m',hq,hs⟩
 have top_case:((ks.any λk=>(deps1++deps2).any (Nat.beq k))=false)->q ⟨.one (.one (.ext nx)),(nx,.top e ts (rows++rows2) (deps1++deps2))::ks.map λi=>(i,.dead)⟩->o.wp P a w (λa' w'=>∃e m',q e/\Stp Γ al fr o.dst m a w e m' a' w') Q:=by
  intro a3 hk;have a1:∀i ∈ ks,i ∉ deps1++deps2:=λi hi hd=>by have:=List.any_eq_false.1 a3 i hi;exact this (List.any_eq_true.2 ⟨i,hd,by simp⟩)
  have a3:∀i ∈ ks,i ∉ deps2:=λi hi hd=>a1 i hi (List.mem_append.2 (.inr hd));have a8:∀i ∈ ks,i ∉ deps1:=λi hi hd=>a1 i hi (List.mem_append.2 (.inl hd));have f1':=f1;simp only[RdS]at f1';obtain⟨rv2,s1,s2,s3,s4⟩:=f1';obtain⟨v',w',r1,r2,r3,r4,r5,r6⟩:=key rv2 s1 s3 λr hr=>by obtain⟨j,hj,rfl⟩:=List.mem_iff_getElem.1 hr;have:=s4 j (by omega);have e0:rv2.getD j []=rv2[j]:=(by simp[List.getD,hj]);rw[e0]at this;exact RdRow.one _ _ _ (RdRowS.rd _ _ _ this)
  have aG:∀r ∈ rv2,r.length=ts.length:=by obtain⟨_,_,_,_,_,q,_⟩:=s1;exact q
  let π' : Nat->Nat:=λb=>if v'.ownBlock=some b then nx else if m.π b ∈ ks then 0 else m.π b
  have hπ:∀b,b<w.heap.size->m.π b ∉ ks->π' b=m.π b:=by
   intro b hb hb2;have:v'.ownBlock≠some b:=by intro hv;rcases r4 with r4|r4;rw[r4]at hv;exact hb2 (t6 b hv).2;rw[r4]at hv;simp at hv;omega
   simp only[π',if_neg this,if_neg hb2]
  have a9:∀b,b<w.heap.size->(¬Γ.mine b\/m.π b ∉ ks)->w'.heap[b]?=w.heap[b]?:=r6 ks λi hi=>hi
  have rdmay:∀(deps:List Nat),(∀i ∈ deps,al i)->(∀i ∈ ks,i ∉ deps)->∀(d:List Dat)(vs:List Value)(F:Nat->Prop),RdRowS F w ts d vs->(∀b,F b->Γ.may m deps b)->RdRowS (λb=>F b/\b<w.heap.size) w' ts d vs/\∀b,F b/\b<w.heap.size->Γ.may ⟨m.β,upd m.ε nx v',π'⟩ deps b:=by
   intro deps hdal hd d vs F hF hFm;have aI:∀b,F b->¬Γ.mine b\/m.π b ∉ ks:=λb hb=>by rcases hFm b hb with hb|hb|hb;exact .inl (Γ.hG b hb);exact .inr (by rw[hb.2];exact λh0=>h.pos (t4 0 h0));exact .inr λa7=>hd _ a7 hb.2
   refine⟨RdRowS.step r3.size (λb hb hFb=>a9 b hb (aI b hFb)) _ _ _ hF,λb hb=>?_⟩;have a2:Γ.mine b->m.π b ∉ ks:=λaP=>(aI b hb.1).resolve_left (λhq=>hq aP);rcases hFm b hb.1 with hb' | hb' | hb';exact .inl hb';exact .inr (.inl ⟨hb'.1,by show π' b=0;rw[hπ b hb.2 (a2 hb'.1)];exact hb'.2⟩);exact .inr (.inr ⟨hb'.1,by show π' b ∈ deps;rw[hπ b hb.2 (a2 hb'.1)];exact hb'.2⟩)
  have h1rows:∀j,j<rows.length->∃F,RdRowS F w' ts (rows.getD j []) (rv.getD j [])/\∀b,F b->Γ.may ⟨m.β,upd m.ε nx v',π'⟩ (deps1++deps2) b:=by
   intro j hj;cases ho1:own1 with
   |true=>
    obtain⟨bss,p1,p2,p3,p4⟩:=t7 ho1;have pp:=List.nodup_append.1 p3;have aA:=p2 j hj;have aJ:=FpRow.lt _ _ _ _ aA;have aK:∀b ∈ bss.getD j [],(cx.den m).ownBlock≠some b:=λb hb hv=>pp.2.2 b (by simp[hv]) b (AM hb) rfl;refine⟨λb=>b ∈ bss.getD j [],RdRowS.of_fp _ _ _ _ (FpRow.same _ _ _ _ aA λb hb=>r3.block b (aJ b hb) λe=>aK b hb e.symm),λb hb=>.inr (.inl ⟨(p4 b (AM hb)).1,?_⟩)⟩;show π' b=0;have hv:v'.ownBlock≠some b:=by intro hv;rcases r4 with r4|r4;rw[r4]at hv;exact aK b hb hv;rw[r4]at hv;simp at hv;have:=aJ b hb;omega
    simp only[π',if_neg hv,if_pos (p4 b (AM hb)).2]
   |false=>obtain⟨F,g1,g2⟩:=t8 ho1 j hj;obtain⟨e1,e2⟩:=rdmay deps1 t5 a8 _ _ F g1 g2;exact⟨_,e1,λb hb=>EJ (λi hi=>List.mem_append.2 (.inl hi)) (e2 b hb)⟩
  refine Oper.wp_value r1 ⟨_,_,hk,Stp.newSl h (cons:=ks) (π':=π') r5 a9 hπ ⟨rv++rv2,?_,by simp[t2,s3],?_,λj hj=>?_,λb hb=>?_⟩ (λi hi=>?_) t4 aH hf⟩;simp only[Cf];rw[List.flatten_append,List.length_append,t2];exact r2;intro r hr;rcases List.mem_append.1 hr with hr|hr;exact t3 r hr;exact aG r hr;simp only[List.length_append]at hj;by_cases aL:j<rows.length;rw[C6 _ _ _ aL,C6 _ _ _ (by omega)];exact h1rows j aL;rw[Ch _ _ _ (by omega),Ch _ _ _ (by omega),t2];obtain⟨e1,e2⟩:=rdmay deps2 a0 a3 _ _ _ (s4 (j-rows.length) (by omega)) f2;exact⟨_,e1,λb hb=>EJ (λi hi=>List.mem_append.2 (.inr hi)) (e2 b hb)⟩;simp only[Cf]at hb;refine⟨?_,by show π' b=nx;simp only[π',if_pos hb]⟩;rcases r4 with r4|r4;rw[r4]at hb;exact(t6 b hb).1;rw[r4]at hb;simp at hb;exact .inl (by have:=h.old;omega);rcases List.mem_append.1 hi with hi|hi;exact t5 i hi;exact a0 i hi
 have top_case' : (if(ks.any λk=>(deps1++deps2).any (Nat.beq k))=true then False else q ⟨.one (.one (.ext nx)),(nx,.top e ts (rows++rows2) (deps1++deps2))::ks.map λi=>(i,.dead)⟩)->o.wp P a w (λa' w'=>∃e m',q e/\Stp Γ al fr o.dst m a w e m' a' w') Q:=by intro hk;split at hk;exact hk.elim;rename_i a2;exact top_case (by simpa using a2) hk
 cases own1 with
 |false=>exact top_case' hk|true=>
  cases hlf:QP ts with
  |true=>rw[hlf]at hk;obtain⟨rv2,bss2,l1,l2,l3,l4,l5⟩:=VM (QR hlf) (RdS.rd _ _ _ f1);exact own_case rv2 bss2 ks l1 l2 l3 l4 rfl (λi hi=>hi) t4 (by rw[l5];simp) (by rw[l5];simp) hk|false=>
   rw[hlf]at hk;cases own2 with|none=>exact top_case' hk|some k2'=>simp only at hk;split at hk;exact hk.elim;rename_i a2;obtain⟨rfl,hk2⟩:=a4 _ rfl;have a2:k2' ∉ ks:=λhm=>a2 (List.any_eq_true.2 ⟨k2',hm,by simp⟩);obtain⟨⟨bs,b1,b2,b3⟩,-,-⟩:=h.en _ _ hk2;simp only[Fp]at b1;obtain⟨rv2,bss2,q1,q2,q3,q4,q5,rfl⟩:=b1;have hb:∀b ∈ bss2.flatten,Γ.mine b/\m.π b=k2':=λb hb=>b3 b (List.mem_append.2 (.inr hb));exact own_case rv2 bss2 (k2'::ks) (Ee q1 q4) q2 q3 q5 rfl (λi hi=>List.mem_cons_of_mem _ hi) (λi hi=>by rcases List.mem_cons.1 hi with rfl|hi;exact aE;exact t4 i hi) (List.nodup_append.1 b2).2.1 (λb hb'=>⟨(hb b hb').1,by rw[(hb b hb').2];simp,by rw[(hb b hb').2];exact a2⟩) hk
 exact hk.elim;exact hk.elim;exact hk.elim;exact hk.elim
end
end Go.Proofs.YthoidhehmmcgnaaGreat
namespace Go.Proofs.YthoidhehmmcgnaaGreat
set_option linter.unusedVariables false
set_option linter.unusedSimpArgs false
open Go.RowKit
def Fi(deps:List Nat)(nx:Nat):LC->C×List (Nat×En)
 | .im v=>(.im v,[])| .sl e ts rows=>(.ext nx,[(nx,.view e ts rows deps)])
def DB(deps:List Nat):List LC->Nat->List C×List (Nat×En)
 | [],_=>([],[])|d::r,nx=>((Fi deps nx d).1::(DB deps r (nx+1)).1,(Fi deps nx d).2++(DB deps r (nx+1)).2)
def Io(tt:TT)(s:St)(nx t k off:Nat)(q:Eff->Prop):Prop:=
 match lkp tt t,lkp s.en k with
 |some ti,some (.ro (.ptr cs) deps)=>
  if Nat.ble ti.size 32=true then
   match sub cs off ti.size with
   |some us=>
    match T.ofCs ti.d.agg (DB deps us nx).1 with|some v=>q ⟨v,(DB deps us nx).2⟩|none=>False
   |none=>False
  else False
 |_,_=>False
def Y0(tt:TT)(s:St)(t k off f:Nat):Option (Option Prop×T):=
 match lkp s.en k,QK tt t f with
 |some (.ro (.ptr _) _),some (o,ti)=>if Nat.ble 1 ti.size=true then some (none,.one (.one (.pp k (off+o))))else none
 |_,_=>none
def MG(s:St):List Operand->Option (List Nat)
 | []=>some []|x::r=>
  match (ev s x).bind T.c?,MG s r with|some (.bp i 0),some is=>some (i::is)|_,_=>none
def QS(s:St):List Operand->Option (List (Bool×Nat))
 | []=>some []|x::r=>
  match (ev s x).bind T.c?,QS s r with|some (.bp i 0),some is=>some ((true,i)::is)|some (.ext i),some is=>some ((false,i)::is)|_,_=>none
def Hy(s:St)(fn:Fn)(first:List Operand)(caps:List Operand):Option (Option Prop×T):=
 match fn,first with
 | .func g,[]=>
  match MG s caps with|some is=>some (none,.one (.one (.clo g is)))|none=>(QS s caps).map λis=>(none,.one (.one (.clx g is)))
 |_,_=>none
section
variable {P : Program} {tt : TT} {Γ : Env} {n : Nat} {w0 : World} {al fr : Nat → Prop} {s : St} {m : Maps} {a : Act} {w : World} {nx : Nat} {o : Oper}
theorem VW{F:Nat->Prop}{deps:List Nat}{d:LC}{v:Value}{i:Nat}(h:LCAt F w d v)(hm:m.ε i=v)(hF:∀b,F b->Γ.may m deps b) :
  (Fi deps i d).1.den m=v/\(∀j ∈ (Fi deps i d).1.ids,j=i)/\∀j E,lkp (Fi deps i d).2 j=some E->j=i/\EnAt Γ m w i E/\E.ids=deps:=by
 cases d with|im x=>exact⟨h.1.symm,by simp[Fi,C.ids],by simp[Fi,lkp]⟩|sl e ts rows=>refine⟨hm,by simp[Fi,C.ids],λj E hE=>?_⟩;simp only[Fi]at hE;rw[AY]at hE;split at hE;rename_i e';obtain rfl:=Option.some.inj hE;exact⟨e'.symm,⟨F,by rw[hm];exact h,hF⟩,rfl⟩;simp[lkp]at hE
theorem MH{F:Nat->Prop}{deps:List Nat}(hF:∀b,F b->Γ.may m deps b):∀(us:List LC)(nx:Nat)(vs:List Value),vs.length=us.length->(∀(q:Nat)(d:LC)(v:Value),us[q]?=some d->vs[q]?=some v->LCAt F w d v) ->
  (∀q,q<us.length->m.ε (nx+q)=vs.getD q undef)->(DB deps us nx).1.map (C.den m)=vs/\(∀c ∈ (DB deps us nx).1,∀i ∈ c.ids,nx<=i/\i<nx+us.length)/\∀i E,lkp (DB deps us nx).2 i=some E->(nx<=i/\i<nx+us.length)/\EnAt Γ m w i E/\E.ids=deps
 | [],nx,vs,hl,_,_=>by obtain rfl:=List.eq_nil_of_length_eq_zero hl;simp[DB,lkp]
 |d::us,nx,[],hl,_,_=>by simp at hl|d::us,nx,v::vs,hl,h,hm=>by
  have h0:=h 0 d v (by simp) (by simp);have m0:=hm 0 (by simp);simp only[List.getD_cons_zero,Nat.add_zero]at m0;obtain⟨c1,c2,c3⟩:=VW (i:=nx) h0 m0 hF;obtain⟨d1,d2,d3⟩:=MH hF us (nx+1) vs (by simpa using hl) (λq d' v' hq hv=>h (q+1) d' v' (by simpa using hq) (by simpa using hv)) (λq hq=>by have:=hm (q+1) (by simpa using hq);simpa[Nat.add_assoc,Nat.add_comm 1]using this);refine⟨by simp only[DB,List.map_cons,c1,d1],λc hc i hi=>?_,λi E hE=>?_⟩;simp only[DB,List.mem_cons]at hc;rcases hc with rfl|hc;have:=c2 i hi;simp;omega;have:=d2 c hc i hi;simp;omega;simp only[DB,Eu]at hE;cases hl:lkp (Fi deps nx d).2 i with
  |some E'=>rw[hl]at hE;obtain rfl:=Option.some.inj hE;obtain⟨rfl,e2,e3⟩:=c3 i E' hl;exact⟨by simp,e2,e3⟩
  |none=>rw[hl,Option.none_or]at hE;obtain⟨e1,e2⟩:=d3 i E hE;exact⟨by simp;omega,e2⟩
theorem Nz(hT:TTok P tt)(h:R Γ n w0 al s m a w){t k off:Nat}{x:Operand}(ho:o.op=.load t x)(hx:a.eval x=(C.pp k off).den m\/(off=0/\a.eval x=m.ε k))(a6:∀i,al i->¬(nx<=i/\i<nx+32))(a2:∀i,nx<=i->i<nx+32->fr i) :
  Snd P Γ al fr m a w o (Io tt s nx t k off):=by
 intro q hk Q;unfold Io at hk;split at hk;rename_i ti cs deps a7 a8;split at hk;rename_i a3;have a3:=Nat.le_of_ble_eq_true a3;split at hk;rename_i us a4;split at hk;rename_i v hv;obtain⟨⟨F,⟨b,e,vs0,g1,g2,g3,g4,g5⟩,f2⟩,hak,a9⟩:=h.en _ _ a8;obtain⟨s1,s2⟩:=Ft a4;have s3:=Hu a4;let vs:=(vs0.drop off).take ti.size
 have a5:vs.length=us.length:=by simp[vs,s3];omega
 have a0:Maps.same al m (EP m nx vs):=λi hi=>⟨rfl,by simp only[EP];rw[if_neg (by have:=a6 i hi;omega)]⟩;have hx' : a.eval x=.pointer (some ⟨b,off,none⟩):=by rcases hx with hx|⟨rfl,hx⟩;rw[hx];simp only[C.den,Yu,g1,Cg,Nat.zero_add];rw[hx,g1]
 have F2:∀b,F b->Γ.may (EP m nx vs) deps b:=f2;obtain⟨c1,c2,c3⟩:=MH (Γ:=Γ) (w:=w) (F:=F) (m:=EP m nx vs) (deps:=deps) F2 us nx vs a5 (λq d v2 hq hv2=>by rw[s2,List.getElem?_take]at hq;simp only[vs,List.getElem?_take]at hv2;split at hq;rename_i aA;rw[if_pos aA,List.getElem?_drop]at hv2;rw[List.getElem?_drop]at hq;exact g5 _ _ _ hq hv2;cases hq) (λq hq=>by simp only[EP];rw[if_pos (by omega)];congr 1;omega);obtain⟨d1,d2⟩:=T.ofCs_den (EP m nx vs) hv;rw[c1]at d1;have hlc:(DB deps us nx).1.length=us.length:=by have:=congrArg List.length c1;rw[List.length_map]at this;omega
 have a1:(Instr.loadAt t (a.eval x)).run P w=.ok (v.den (EP m nx vs)) w:=by
  rw[hx',d1];refine L4 (hT _ _ a7) (by omega) (λhg=>by have:=d2 hg;omega) λp u hp=>?_;have hpl:p<us.length:=by rw[← a5];exact(List.getElem?_eq_some_iff.1 hp).1
  rw[Cg];unfold World.cell?;rw[g3];have:(vs0.drop off)[p]?=some u:=by have:=hp;simp only[vs,List.getElem?_take]at this;rw[if_pos (by omega)]at this;exact this
  rw[List.getElem?_drop]at this;simpa using this
 refine Oper.wp_value (v:=v.den (EP m nx vs)) (w':=w) (by simp only[execOp,ho,Sem.run_bind,a1,Result.andThen_ok,Sem.run_pure]) ⟨_,EP m nx vs,hk,⟨rfl,a0,Bel.refl _ _,λ_ _ _=>rfl,λ_ _ _=>rfl,λp E hE=>?_,λp hp=>?_⟩⟩;obtain⟨e1,e2,e3⟩:=c3 p E hE;exact⟨e2,.inr (a2 p e1.1 (by omega)),λq hq=>.inl (a9 q (by rw[e3]at hq;exact hq))⟩;rw[T.ofCs_ids hv]at hp;obtain⟨c,hc,hp⟩:=List.mem_flatMap.1 hp;have:=c2 c hc p hp;exact .inr (a2 p this.1 (by omega));exact hk.elim;exact hk.elim;exact hk.elim;exact hk.elim
theorem QT(hT:TTok P tt)(h:R Γ n w0 al s m a w){t k off f:Nat}{x:Operand}{p:Option Prop}{v:T}(hx:Y0 tt s t k off f=some (p,v))(he:a.eval x=(C.pp k off).den m\/(off=0/\a.eval x=m.ε k)) :
  (Instr.fieldAt t (a.eval x) f).run P w=.ok (v.den m) w/\∀j ∈ v.ids,al j:=by
 unfold Y0 at hx;split at hx;rename_i cs deps o ti hl hf;split at hx;rename_i hs;simp only[Option.some.injEq,Prod.mk.injEq]at hx;obtain⟨rfl,rfl⟩:=hx;obtain⟨⟨F,⟨b,e,vs0,g1,g2,g3,g4,g5⟩,f2⟩,a0,had⟩:=h.en _ _ hl;obtain⟨fl,fd,u1,u2,rfl,u3⟩:=I7 hT hf;refine⟨?_,by simp[T.ids,A.ids,C.ids,a0]⟩;have hx' : a.eval x=.pointer (some ⟨b,off,none⟩):=by rcases he with hx|⟨rfl,hx⟩;rw[hx];simp only[C.den,Yu,g1,Cg,Nat.zero_add];rw[hx,g1]
 rw[hx',HW u1 u2 u3 (Nat.le_of_ble_eq_true hs),Cg];simp only[T.den,A.den,C.den,Yu,g1,Cg,Nat.zero_add];cases hx;cases hx
theorem N0(h:R Γ n w0 al s m a w):∀{l:List Operand}{is:List Nat},MG s l=some is->l.map a.eval=is.map (λi=>.pointer (some ⟨m.β i,0,none⟩))/\∀i ∈ is,al i
 | [],is,hx=>by simp only[MG,Option.some.injEq]at hx;subst hx;simp|x::r,is,hx=>by simp only[MG]at hx;split at hx;rename_i i is' h1 h2;simp only[Option.some.injEq]at hx;subst hx;obtain⟨tx,e1,e2⟩:=Option.bind_eq_some_iff.1 h1;obtain⟨x1,x2⟩:=h.ev e1;rw[T.c?_some e2]at x1 x2;obtain⟨y1,y2⟩:=N0 h h2;refine⟨by simp only[List.map_cons,y1,x1,T.den,A.den,C.den],λj hj=>?_⟩;rcases List.mem_cons.1 hj with rfl|hj;exact x2 j (by simp[T.ids,A.ids,C.ids]);exact y2 j hj;cases hx
theorem MI(h:R Γ n w0 al s m a w):∀{l:List Operand}{is:List (Bool×Nat)},QS s l=some is->l.map a.eval=is.map (Nd m)/\∀i ∈ is.map (·.2),al i
 | [],is,hx=>by simp only[QS,Option.some.injEq]at hx;subst hx;simp|x::r,is,hx=>by simp only[QS]at hx;split at hx;rename_i i is' h1 h2;simp only[Option.some.injEq]at hx;subst hx;obtain⟨tx,e1,e2⟩:=Option.bind_eq_some_iff.1 h1;obtain⟨x1,x2⟩:=h.ev e1;rw[T.c?_some e2]at x1 x2;obtain⟨y1,y2⟩:=MI h h2;refine⟨by simp only[List.map_cons,y1,x1,T.den,A.den,C.den,Nd,if_true],λj hj=>?_⟩;rcases List.mem_cons.1 hj with rfl|hj;exact x2 _ (by simp[T.ids,A.ids,C.ids]);exact y2 j hj;rename_i i is' h1 h2;simp only[Option.some.injEq]at hx;subst hx;obtain⟨tx,e1,e2⟩:=Option.bind_eq_some_iff.1 h1;obtain⟨x1,x2⟩:=h.ev e1;rw[T.c?_some e2]at x1 x2;obtain⟨y1,y2⟩:=MI h h2;refine⟨by simp[y1,x1,T.den,A.den,C.den,Nd],λj hj=>?_⟩;rcases List.mem_cons.1 hj with rfl|hj;exact x2 _ (by simp[T.ids,A.ids,C.ids]);exact y2 j hj;cases hx
theorem Nf(h:R Γ n w0 al s m a w){fn:Fn}{first caps:Array Operand}{p:Option Prop}{v:T}(hx:Hy s fn first.toList caps.toList=some (p,v)) :
  (Instr.makeFunc fn (first.map a.eval) (caps.map a.eval)).run P w=.ok (v.den m) w/\∀j ∈ v.ids,al j:=by
 unfold Hy at hx;split at hx;rename_i g hf;have hf:first=#[]:=Array.ext' hf
 subst hf;split at hx;rename_i is hc;simp only[Option.some.injEq,Prod.mk.injEq]at hx;obtain⟨rfl,rfl⟩:=hx;obtain⟨y1,y2⟩:=N0 h hc;have e:caps.map a.eval=(is.map (λi=>Value.pointer (some ⟨m.β i,0,none⟩))).toArray:=by apply Array.ext';rw[Array.toList_map,y1]
 refine⟨?_,by simpa[T.ids,A.ids,C.ids]using y2⟩;show Result.ok _ w=_;rw[e];simp only[T.den,A.den,C.den,Array.map_empty];obtain⟨is,hc,hx⟩:=Option.map_eq_some_iff.1 hx;simp only[Prod.mk.injEq]at hx;obtain⟨rfl,rfl⟩:=hx;obtain⟨y1,y2⟩:=MI h hc;have e:caps.map a.eval=(is.map (Nd m)).toArray:=by apply Array.ext';rw[Array.toList_map,y1]
 refine⟨?_,by simpa[T.ids,A.ids,C.ids]using y2⟩;show Result.ok _ w=_;rw[e];simp only[T.den,A.den,C.den,Array.map_empty];cases hx
end
end Go.Proofs.YthoidhehmmcgnaaGreat
namespace Go.Proofs.YthoidhehmmcgnaaGreat
set_option linter.unusedVariables false
set_option linter.unusedSimpArgs false
open Go.RowKit
def Fj:List Value->List Ty->Option (List Dat)
 | [],[]=>some []| .int .i64 n::r,.int::ts=>(Fj r ts).map (.int n::·)| .bool b::r,.bool::ts=>(Fj r ts).map (.bool b::·)| .string b::r,.str::ts=>(Fj r ts).map (.str b::·)| .slice none 0 0::r,.sl _ _::ts=>(Fj r ts).map (.sl []::·)|_,_=>none
def N1(tt:TT)(s:St)(nx t:Nat)(shape:List Ty)(x y:Operand)(q:Eff->Prop):Prop:=
 match (ev s x).bind T.im,(ev s y).bind T.im,Ig tt t with
 |some (.int _ l),some (.int _ c),some (e,ei)=>
  match Fj ei.zero shape with
  |some ds=>
   if(Nat.ble ei.bytes 262144 && Nat.ble 1 ei.size && Nat.beq ei.zero.length ei.size && Nat.beq shape.length ei.size)=true then
    0<=l/\l<=c/\c<=1073741824/\q ⟨.one (.one (.ext nx)),[(nx,.own e shape (List.replicate l.toNat ds))]⟩
   else False
  |none=>False
 |_,_,_=>False
def QU(tt:TT)(s:St)(src dst:Nat)(x:Operand):Option (Option Prop×T):=
 match (ev s x).bind T.im,lkp tt src,lkp tt dst with|some (.int _ n),some _,some {d:=.int k,..}=>some (none,T.ofV (.int k (k.wrap n)))|some (.int _ n),some _,some {d:=.float,..}=>some (none,T.ofV (.float .f64 (FloatKind.nearest .f64 n)))|some (.float f b),some _,some {d:=.int k,..}=>some (some ((floatToIntVal f b k).isSome=true),T.ofV (.int k ((floatToIntVal f b k).getD 0)))|_,_,_=>none
def Y1(tt:TT)(s:St)(op:BinOp)(t:Nat)(x y:Operand):Option (Option Prop×T):=none
section
variable {P : Program} {tt : TT} {Γ : Env} {n : Nat} {w0 : World} {al fr : Nat → Prop} {s : St} {m : Maps} {a : Act} {w : World} {nx : Nat} {o : Oper}
theorem Fu{w:World} : ∀{zs:List Value}{ts:List Ty}{ds:List Dat},Fj zs ts=some ds->FpRow w ts ds zs []
 | [],[],ds,h=>by simp only[Fj,Option.some.injEq]at h;subst h;simp[FpRow]|z::zs,[],ds,h=>by cases z <;> simp[Fj]at h| [],t::ts,ds,h=>by simp[Fj]at h|z::zs,t::ts,ds,h=>by unfold Fj at h;split at h;rename_i h1 h2;cases h1;rename_i h1 h2;simp only[List.cons.injEq]at h1 h2;obtain⟨rfl,rfl⟩:=h1;obtain⟨rfl,rfl⟩:=h2;obtain⟨d,e,rfl⟩:=Option.map_eq_some_iff.1 h;simp only[FpRow];exact⟨[],[],rfl,by simp[Fp],Fu e⟩;rename_i h1 h2;simp only[List.cons.injEq]at h1 h2;obtain⟨rfl,rfl⟩:=h1;obtain⟨rfl,rfl⟩:=h2;obtain⟨d,e,rfl⟩:=Option.map_eq_some_iff.1 h;simp only[FpRow];exact⟨[],[],rfl,by simp[Fp],Fu e⟩;rename_i h1 h2;simp only[List.cons.injEq]at h1 h2;obtain⟨rfl,rfl⟩:=h1;obtain⟨rfl,rfl⟩:=h2;obtain⟨d,e,rfl⟩:=Option.map_eq_some_iff.1 h;simp only[FpRow];exact⟨[],[],rfl,by simp[Fp],Fu e⟩;rename_i h1 h2;simp only[List.cons.injEq]at h1 h2;obtain⟨rfl,rfl⟩:=h1;obtain⟨rfl,rfl⟩:=h2;obtain⟨d,e,rfl⟩:=Option.map_eq_some_iff.1 h;simp only[FpRow];refine⟨[],[],rfl,?_,Fu e⟩;simp only[Fp];exact⟨[],[],World.ownsRow_nil _ _ _ _,rfl,rfl,by simp,by simp,by simp[Value.ownBlock]⟩;cases h
theorem VX(zs:List Value)(c:Nat)(hz:1<=zs.length):(madeCells zs.toArray (c*zs.length)).toList=(List.replicate c zs).flatten:=by
 have hl:((List.replicate c zs).flatten).length=c*zs.length:=by simp
 apply List.ext_getElem?;intro j;by_cases hj:j<c*zs.length;have h1:j/zs.length<c:=by rw[Nat.div_lt_iff_lt_mul (by omega)];exact hj
 have h2:=Nat.mod_lt j (show 0<zs.length by omega);have:=CJ (List.replicate c zs) zs.length (λr hr=>by rw[(List.mem_replicate.1 hr).2]) j (by rw[List.length_replicate];exact h1) h2;rw[this];have e:(List.replicate c zs).getD (j/zs.length) []=zs:=by simp[List.getD,List.getElem?_replicate,h1]
 rw[e];simp only[madeCells,Array.toList_map,Array.toList_range,List.getElem?_map,List.getElem?_range hj,Option.map_some,List.size_toArray];rw[getElem!_pos zs.toArray (j%zs.length) (by simpa using h2)];simp[List.getD,h2];rw[List.getElem?_eq_none (by simp[madeCells];omega),List.getElem?_eq_none (by omega)]
theorem Wv(hT:TTok P tt)(h:R Γ n w0 al s m a w){t:Nat}{shape:List Ty}{x y:Operand}(ho:o.op=.makeSlice t x y)(a5:¬al nx)(hf:fr nx):Snd P Γ al fr m a w o (N1 tt s nx t shape x y):=by
 intro q hk Q;unfold N1 at hk;split at hk;rename_i kl l kc c e ei hx hy a6;split at hk;rename_i ds hz;split at hk;rename_i hc;simp only[Bool.and_eq_true,Nat.beq_eq,Nat.ble_eq]at hc;obtain⟨⟨⟨c1,c2⟩,c3⟩,c4⟩:=hc;obtain⟨h0,a7,hcm,hk⟩:=hk;obtain⟨tx,etx,hx⟩:=Option.bind_eq_some_iff.1 hx;obtain⟨ty,ety,hy⟩:=Option.bind_eq_some_iff.1 hy;obtain⟨x1,-⟩:=h.ev etx;obtain⟨y1,-⟩:=h.ev ety;rw[(T.im_den m hx).1]at x1;rw[(T.im_den m hy).1]at y1;obtain⟨u1,u2⟩:=HT hT a6;obtain⟨inf,i1,i2,i3,i4⟩:=u2.info
 obtain⟨z,a8,a9⟩:∃z,inf.zero=some z/\z.cells=ei.zero.toArray:=by
  cases hzo:inf.zero with|none=>rw[hzo]at i4;cases i4|some z=>rw[hzo]at i4;exact⟨z,rfl,Option.some.inj i4⟩
 have a0:(inf.bytes:Int)*c<=281474976710656:=by
  have h1:(inf.bytes:Int)<=262144:=by rw[i3];omega
  calc (inf.bytes:Int)*c<=262144*c:=Int.mul_le_mul_of_nonneg_right h1 (by omega)
   _<=281474976710656:=by omega
 have a2:=run_make (P:=P) w t e inf z u1 i1 a8 kl kc l c h0 a7 a0 (by omega);let vr:=List.replicate l.toNat ei.zero
 have a1:(execOp a.eval o).run P w=.ok (.value (.slice (some ⟨w.heap.size,0,none⟩) l.toNat c.toNat)) (w.alloc (.cells (madeCells z.cells (c.toNat*inf.size)) e)):=by simp only[execOp,ho,x1,y1,Sem.run_bind,a2,Result.andThen_ok,Sem.run_pure]
 have aA:(madeCells z.cells (c.toNat*inf.size)).toList=(List.replicate c.toNat ei.zero).flatten:=by rw[a9,i2,← c3];exact VX _ _ (by omega)
 have a3:(w.alloc (.cells (madeCells z.cells (c.toNat*inf.size)) e)).ownsRow 0 e shape.length (.slice (some ⟨w.heap.size,0,none⟩) l.toNat c.toNat) vr.length vr.flatten:=by
  have a4:vr.length=l.toNat:=List.length_replicate;refine⟨FJ (λr hr=>by rw[(List.mem_replicate.1 hr).2,c3,c4]),.inr ⟨w.heap.size,c.toNat,_,by rw[a4],Nat.zero_le _,heap_alloc_new w _,by omega,?_,?_,?_⟩⟩;unfold maxLen;omega;rw[size_madeCells,i2,c4];rw[aA,a4,c4,← c3];have aB:c.toNat=l.toNat+(c.toNat-l.toNat):=by omega
  rw[aB,← List.replicate_append_replicate,List.flatten_append];rw[List.take_left' (by simp)]
 have aC:Fp (w.alloc (.cells (madeCells z.cells (c.toNat*inf.size)) e)) (.sl e shape) (.sl (List.replicate l.toNat ds)) (.slice (some ⟨w.heap.size,0,none⟩) l.toNat c.toNat) [w.heap.size]:=by
  simp only[Fp];refine⟨vr,List.replicate l.toNat [],a3,by rw[List.length_replicate,List.length_replicate],by rw[List.length_replicate,List.length_replicate],λr hr=>by rw[(List.mem_replicate.1 hr).2,c3,c4],λk hk=>?_,by simp[Value.ownBlock]⟩;simp only[List.length_replicate]at hk;have e1:(List.replicate l.toNat ds).getD k []=ds:=by simp[List.getD,List.getElem?_replicate,hk]
  have e2:vr.getD k []=ei.zero:=by simp[vr,List.getD,List.getElem?_replicate,hk]
  have e3:(List.replicate l.toNat ([]:List Nat)).getD k []=[]:=by simp[List.getD,List.getElem?_replicate,hk]
  rw[e1,e2,e3];exact Fu hz
 obtain⟨m',hs⟩:=Stp.newOwn h (dst:=o.dst) (cons:=[]) ((Bel.refl _ _).alloc h.old _) (λb hb _=>Below.heap_alloc _ _ _ hb) aC (by simp) (λb hb=>by rw[List.mem_singleton.1 hb];exact⟨.inl h.old,.inl (Nat.le_refl _)⟩) (by simp) a5 hf;exact Oper.wp_value a1 ⟨_,m',hk,hs⟩;exact hk.elim;exact hk.elim;exact hk.elim
theorem TIok.und{t:Nat}{i:TI}(h:TIok P t i):∃d,P.underlying t=some d:=by
 have hd:=h.d;cases hi:i.d <;> rw[hi]at hd <;> simp only[TD.fits]at hd;case struct fs=>obtain⟨fl,h1,_⟩:=hd;exact⟨_,h1⟩
 case other=>obtain⟨d,h1,_⟩:=hd;exact⟨_,h1⟩
 all_goals exact⟨_,hd⟩
theorem VY(hT:TTok P tt)(h:R Γ n w0 al s m a w){src dst:Nat}{x:Operand}{p:Option Prop}{v:T}(hx:QU tt s src dst x=some (p,v))(hp:∀q,p=some q->q) :
  (convert src dst (a.eval x)).run P w=.ok (v.den m) w/\v.ids=[]:=by
 unfold QU at hx;split at hx;rename_i kk iv i k _ _ _ _ h1 h2 h3;simp only[Option.some.injEq,Prod.mk.injEq]at hx;obtain⟨rfl,rfl⟩:=hx;obtain⟨tx,e1,e2⟩:=Option.bind_eq_some_iff.1 h1;obtain⟨x1,-⟩:=h.ev e1;rw[(T.im_den m e2).1]at x1;obtain⟨d,hd⟩:=(hT _ _ h2).und;have hu:=(hT _ _ h3).d;simp only[TD.fits]at hu;refine⟨?_,rfl⟩;rw[x1];simp only[convert,Sem.run_bind,Ad hd,Ad hu,Result.andThen_ok,Conv.intToInt,Sem.run_pure,T.ofV_den];rename_i kk iv i _ _ _ _ h1 h2 h3;simp only[Option.some.injEq,Prod.mk.injEq]at hx;obtain⟨rfl,rfl⟩:=hx;obtain⟨tx,e1,e2⟩:=Option.bind_eq_some_iff.1 h1;obtain⟨x1,-⟩:=h.ev e1;rw[(T.im_den m e2).1]at x1;obtain⟨d,hd⟩:=(hT _ _ h2).und;have hu:=(hT _ _ h3).d;simp only[TD.fits]at hu;refine⟨?_,rfl⟩;rw[x1];simp only[convert,Sem.run_bind,Ad hd,Ad hu,Result.andThen_ok,Conv.intToFloat,Sem.run_pure,T.ofV_den];rename_i f b i k _ _ _ _ h1 h2 h3;simp only[Option.some.injEq,Prod.mk.injEq]at hx;obtain⟨rfl,rfl⟩:=hx;obtain⟨tx,e1,e2⟩:=Option.bind_eq_some_iff.1 h1;obtain⟨x1,-⟩:=h.ev e1;rw[(T.im_den m e2).1]at x1;obtain⟨d,hd⟩:=(hT _ _ h2).und;have hu:=(hT _ _ h3).d;simp only[TD.fits]at hu;refine⟨?_,rfl⟩;obtain⟨r,hr⟩:=Option.isSome_iff_exists.1 (hp _ rfl);rw[x1,run_convert_float_int w src dst f k b r (by rw[hd];rfl) hu hr,hr];rfl;cases hx
theorem Ww(hT:TTok P tt)(h:R Γ n w0 al s m a w){op:BinOp}{t:Nat}{x y:Operand}{p:Option Prop}{v:T}(hx:Y1 tt s op t x y=some (p,v)) :
  (do eqGuard op t x y (a.eval x) (a.eval y);binOp op t (a.eval x) (a.eval y):Sem Value).run P w=.ok (v.den m) w/\v.ids=[]:=by unfold Y1 at hx;cases hx
end
end Go.Proofs.YthoidhehmmcgnaaGreat
