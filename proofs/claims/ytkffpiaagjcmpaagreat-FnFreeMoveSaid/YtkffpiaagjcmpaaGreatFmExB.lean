import Derived.Test.YtkffpiaagjcmpaaGreatFmExA
import Derived.Test.YtkffpiaagjcmpaaGreatFmBas
import Derived.Laws.Cover3
namespace Go.Proofs.YtkffpiaagjcmpaaGreat
set_option linter.unusedVariables false
set_option linter.unusedSimpArgs false
open Go.RowKit
inductive DC where
 | im (v:Value)
 | sl (e:Nat) (ts:List Ty) (rows:List (List Dat))
 | ro (d:RO)
inductive DA where
 | one (c:DC)
 | agg (cs:List DC)
def DA.cells:DA->List DC
 | .one c=>[c]
 | .agg cs=>cs
inductive RC where
 | im (v:Value)
 | own (e:Nat) (ts:List Ty) (rows:List (List Dat))
 | view (e:Nat) (ts:List Ty) (rows:List (List Dat))
 | top (e:Nat) (ts:List Ty) (rows:List (List Dat))
structure RT where
 tup:Bool
 sh:List (Option Nat)
 cells:List RC
def BN:List DA->List Value->List Value
 | [],_=>[]
 | .one _::r,us=>us.headD undef::BN r us.tail
 | .agg cs::r,us=>.agg (us.take cs.length).toArray::BN r (us.drop cs.length)
def OP:List (Option Nat)->List Value->List Value
 | [],_=>[]
 | none::r,us=>us.headD undef::OP r us.tail
 | some n::r,us=>.agg (us.take n).toArray::OP r (us.drop n)
def RT.val (r:RT) (us:List Value):Value:=if r.tup then .tuple (OP r.sh us).toArray else (OP r.sh us).headD undef
def asA:List (Option Nat)->List C->List A
 | [],_=>[]
 | none::r,cs=>.one (cs.headD (.im undef))::asA r cs.tail
 | some n::r,cs=>.agg (cs.take n)::asA r (cs.drop n)
def RT.t (r:RT) (cs:List C):T:=if r.tup then .tup (asA r.sh cs) else .one ((asA r.sh cs).headD (.one (.im undef)))
theorem MH (m:Maps):∀ (sh:List (Option Nat)) (cs:List C),(asA sh cs).map (A.den m)=OP sh (cs.map (C.den m))
 | [],cs=>rfl
 | none::r,cs=>by
  simp only [asA,OP,List.map_cons,MH m r]
  cases cs <;> simp [A.den,C.den]
 | some n::r,cs=>by simp only [asA,OP,List.map_cons,MH m r,A.den,List.map_take,List.map_drop]
theorem RT.t_den (m:Maps) (r:RT) (cs:List C):(r.t cs).den m=r.val (cs.map (C.den m)):=by
 unfold RT.t RT.val
 split
 ·simp [T.den,MH]
 ·simp only [T.den]
  rw [← MH]
  cases asA r.sh cs <;> simp [A.den,C.den]
theorem VA {sh:List (Option Nat)} : ∀ {cs:List C} {x:A},x ∈ asA sh cs->∀ i ∈ x.ids,∃ c ∈ cs,i ∈ c.ids:=by
 induction sh with
 | nil=>intro cs x hx;simp [asA] at hx
 | cons q r ih=>
  intro cs x hx i hi
  cases q with
  | none=>
   simp only [asA,List.mem_cons] at hx
   rcases hx with rfl|hx
   ·cases cs with
    | nil=>simp [A.ids,C.ids] at hi
    | cons c cs=>exact ⟨c,by simp,by simpa [A.ids] using hi⟩
   ·obtain ⟨c,hc,h⟩:=ih hx i hi
    exact ⟨c,List.mem_of_mem_tail hc,h⟩
  | some n=>
   simp only [asA,List.mem_cons] at hx
   rcases hx with rfl|hx
   ·simp only [A.ids,List.mem_flatMap] at hi
    obtain ⟨c,hc,h⟩:=hi
    exact ⟨c,List.mem_of_mem_take hc,h⟩
   ·obtain ⟨c,hc,h⟩:=ih hx i hi
    exact ⟨c,List.mem_of_mem_drop hc,h⟩
theorem RT.t_ids {r:RT} {cs:List C} {i:Nat} (h:i ∈ (r.t cs).ids):∃ c ∈ cs,i ∈ c.ids:=by
 unfold RT.t at h
 split at h
 ·simp only [T.ids,List.mem_flatMap] at h
  obtain ⟨x,hx,h⟩:=h
  exact VA hx i h
 ·simp only [T.ids] at h
  cases hq:asA r.sh cs with
  | nil=>rw [hq] at h;simp [A.ids,C.ids] at h
  | cons x y=>rw [hq] at h;exact VA (sh:=r.sh) (x:=x) (by rw [hq];simp) i (by simpa using h)
inductive PC where
 | im (v:Value)
 | bt (bs:List UInt8)
structure Con where
 ι:Type
 pre:ι->Prop
 args:ι->List DA
 mu:List Nat:=[]
 gone:List Nat:=[]
 new:ι->List (List (List Dat)):=λ _=>[]
 res:ι->RT
 /-- which function argument is meant: its number and one; 0: any -/
 tag:Nat:=0
 /-- the draws that are counted grow only -/
 mono:Bool:=false
 /-- what comes back need not be i's: it is that of some j that goes with i -/
 alt:Option (ι->ι->Prop):=none
 /-- ahead of the arguments stands a pointer to a variable: its cells before, and behind -/
 ptr:Option ((ι->List PC)×(ι->List PC)):=none
 /-- what comes back is a pointer to a new variable: its cells; the bytes are those of the first argument -/
 newp:Option (ι->List PC):=none
 /-- a nil slice that is handed over is meant as that very value -/
 nilA:Bool:=false
def DT (F:Nat->Prop) (w:World):DC->Value->Prop
 | .im v,u=>u=v
 | .sl e ts rows,u=>RdS F w (.sl e ts) (.sl rows) u
 | .ro d,u=>ROAt F w d u
structure ArgsAt (F:Nat->Prop) (w:World) (mu:List Nat) (mb:Nat->List Nat) (dcs:List DC) (us:List Value):Prop where
 len:us.length=dcs.length
 lt:∀ b,F b->b<w.heap.size
 rd:∀ p d u,dcs[p]?=some d->us[p]?=some u->p ∉ mu->DT F w d u
 own:∀ j p,mu[j]?=some p->∃ e ts rows u,dcs[p]?=some (.sl e ts rows)/\us[p]?=some u/\Fp w (.sl e ts) (.sl rows) u (mb j)/\(mb j).Nodup
 dis:∀ i j b,i≠j->i<mu.length->j<mu.length->b ∈ mb i->b ∉ mb j
 out:∀ j b,j<mu.length->b ∈ mb j->¬ F b
 st:Stood w
 sb:∀ j b,j<mu.length->b ∈ mb j->b ∉ stB
def BP (F : Nat → Prop) (w w' : World) (all : List Nat) : List RC → List Value → List Nat → Prop
  | [], [], bs => bs = []
  | .im v :: r, u :: us, bs => u = v ∧ BP F w w' all r us bs
  | .own e ts rows :: r, u :: us, bs => ∃ b1 b2, bs = b1 ++ b2 ∧ Fp w' (.sl e ts) (.sl rows) u b1 ∧ BP F w w' all r us b2
  | .top e ts rows :: r, u :: us, bs => ∃ b1 b2, bs = b1 ++ b2 ∧ (∃ rv : List (List Value), w'.ownsRow 0 e ts.length u rv.length rv.flatten ∧ rv.length = rows.length ∧ (∀ r ∈ rv, r.length = ts.length) ∧
      (∀ k, k < rows.length → RdRowS (fun b => F b ∨ (w.heap.size ≤ b ∧ b ∉ all)) w' ts (rows.getD k []) (rv.getD k [])) ∧ ∀ b, u.ownBlock = some b → b ∈ b1) ∧ BP F w w' all r us b2
  | .view e ts rows :: r, u :: us, bs => RdS (fun b => F b ∨ (w.heap.size ≤ b ∧ b ∉ all)) w' (.sl e ts) (.sl rows) u ∧ BP F w w' all r us bs
  | _, _, _ => False
structure Con.PostA (c:Con) (i j0:c.ι) (F:Nat->Prop) (w:World) (us:List Value) (mb:Nat->List Nat) (rs:List Value) (bs:List Nat) (w' : World):Prop where
 res:BP F w w' bs (c.res j0).cells rs bs
 nd:bs.Nodup
 fresh:∀ b ∈ bs,w.heap.size<=b∨∃ j,j ∈ c.gone/\j<c.mu.length/\b ∈ mb j
 turned:∀ j p e ts rows u,j ∉ c.gone->c.mu[j]?=some p->((c.args i).flatMap DA.cells)[p]?=some (.sl e ts rows)->us[p]?=some u->Fp w' (.sl e ts) (.sl ((c.new j0).getD j [])) u (mb j)
 os:w'.os=w.os
 tape:w'.tape=w.tape
 output:w'.output=w.output
 size:w.heap.size<=w'.heap.size
 keep:∀ b,b<w.heap.size->(∀ j,j<c.mu.length->b ∉ mb j)->w'.heap[b]?=w.heap[b]?
abbrev Con.Post (c:Con) (i:c.ι) (F:Nat->Prop) (w:World) (us:List Value) (mb:Nat->List Nat) (rs:List Value) (bs:List Nat) (w' : World):Prop:=c.PostA i i F w us mb rs bs w'
structure Con.Ok (P:Program) (f:Nat) (c:Con):Prop where
 enter:∃ fn,P.funcs[f]?=some fn/\fn.name ≠ "runtime.NumGoroutine" /\ fn.body.isNone=false
 small:∀ i,(c.res i).cells.length<=32
 calls:∀ i,c.pre i->∀ F w us mb,ArgsAt F w c.mu mb ((c.args i).flatMap DA.cells) us->Calls P f (BN (c.args i) us).toArray w λ e w'=>∃ rs bs,e=.returned ((c.res i).val rs)/\c.Post i F w us mb rs bs w'
 quiet:c.mono=true->∀ i,c.pre i->∀ F w us mb,ArgsAt F w c.mu mb ((c.args i).flatMap DA.cells) us->Calls P f (BN (c.args i) us).toArray w λ e w'=>∃ rs bs,e=.returned ((c.res i).val rs)/\c.Post i F w us mb rs bs w'/\w.drawn<=w'.drawn:=by intro h;cases h
theorem Con.Ok.run {P:Program} {f:Nat} {c:Con} (hok:c.Ok P f) {M:Bool} (hM:M=true->c.mono=true):∀ i,c.pre i->∀ F w us mb,ArgsAt F w c.mu mb ((c.args i).flatMap DA.cells) us->Calls P f (BN (c.args i) us).toArray w λ e w'=>∃ rs bs,e=.returned ((c.res i).val rs)/\c.Post i F w us mb rs bs w'/\(M=true->w.drawn<=w'.drawn):=by
 intro i hp F w us mb h
 cases M with
 | false=>exact (hok.calls i hp F w us mb h).mono λ e w' ⟨rs,bs,he,hq⟩=>⟨rs,bs,he,hq,λ h=>by cases h⟩
 | true=>exact (hok.quiet (hM rfl) i hp F w us mb h).mono λ e w' ⟨rs,bs,he,hq,hd⟩=>⟨rs,bs,he,hq,λ _=>hd⟩
structure Con.OkE (P:Program) (f:Nat) (c:Con) (a:c.ι->c.ι->Prop):Prop where
 enter:∃ fn,P.funcs[f]?=some fn/\fn.name ≠ "runtime.NumGoroutine" /\ fn.body.isNone=false
 small:∀ i,(c.res i).cells.length<=32
 mu:c.mu=[]
 calls:∀ i,c.pre i->∀ F w us mb,ArgsAt F w c.mu mb ((c.args i).flatMap DA.cells) us->Calls P f (BN (c.args i) us).toArray w λ e w'=>∃ j,a i j/\∃ rs bs,e=.returned ((c.res j).val rs)/\c.PostA i j F w us mb rs bs w'/\(c.mono=true->w.drawn<=w'.drawn)
def Con.OkA (P:Program) (f:Nat) (c:Con):Prop:=(c.alt=none/\c.Ok P f)∨∃ a,c.alt=some a/\c.OkE P f a
def Con.to (c:Con) (i j:c.ι):Prop:=match c.alt with|none=>j=i|some a=>a i j
theorem Con.OkA.ok {P:Program} {f:Nat} {c:Con} (h:c.OkA P f) (hm:c.mu≠[]):c.Ok P f:=by
 rcases h with h|⟨a,_,h⟩
 ·exact h.2
 ·exact absurd h.mu hm
theorem Con.OkA.enter {P:Program} {f:Nat} {c:Con} (h:c.OkA P f):∃ fn,P.funcs[f]?=some fn/\fn.name ≠ "runtime.NumGoroutine" /\ fn.body.isNone=false:=by
 rcases h with h|⟨a,_,h⟩
 ·exact h.2.enter
 ·exact h.enter
theorem Con.OkA.small {P:Program} {f:Nat} {c:Con} (h:c.OkA P f):∀ i,(c.res i).cells.length<=32:=by
 rcases h with h|⟨a,_,h⟩
 ·exact h.2.small
 ·exact h.small
theorem Con.OkA.run {P:Program} {f:Nat} {c:Con} (hok:c.OkA P f) {M:Bool} (hM:M=true->c.mono=true):∀ i,c.pre i->∀ F w us mb,ArgsAt F w c.mu mb ((c.args i).flatMap DA.cells) us->Calls P f (BN (c.args i) us).toArray w λ e w'=>∃ j,c.to i j/\∃ rs bs,e=.returned ((c.res j).val rs)/\c.PostA i j F w us mb rs bs w'/\(M=true->w.drawn<=w'.drawn):=by
 intro i hp F w us mb h
 rcases hok with ⟨ha,hok⟩|⟨a,ha,hok⟩
 ·exact (hok.run hM i hp F w us mb h).mono λ e w' hq=>⟨i,by unfold Con.to;rw [ha],hq⟩
 ·exact (hok.calls i hp F w us mb h).mono λ e w' ⟨j,hj,rs,bs,he,hq,hd⟩=>⟨j,by unfold Con.to;rw [ha];exact hj,rs,bs,he,hq,λ h=>hd (hM h)⟩
def X5 (F:Nat->Prop) (w:World):PC->Value->Prop
 | .im v,u=>u=v
 | .bt bs,u=>Gb F w bs u
def Ix:List PC->List Value->List Value
 | .im v::r,_::us=>v::Ix r us
 | .bt _::r,u::us=>u::Ix r us
 | _,us=>us
structure PtrIn (F:Nat->Prop) (w:World) (cs:List PC) (B:Nat) (vs:List Value):Prop where
 out:¬ F B
 sb:B ∉ stB
 at_:∃ t,w.heap[B]?=some (.cells vs.toArray t (0,0))
 len:vs.length=cs.length
 rd:∀ (q:Nat) (d:PC) (u:Value),cs[q]?=some d->vs[q]?=some u->X5 F w d u
structure Con.PostP (c:Con) (i:c.ι) (pn:c.ι->List PC) (F:Nat->Prop) (w:World) (B:Nat) (vs rs:List Value) (bs:List Nat) (w' : World):Prop where
 res:BP F w w' bs (c.res i).cells rs bs
 nd:bs.Nodup
 fresh:∀ b ∈ bs,w.heap.size<=b
 turned:∃ t,w'.heap[B]?=some (.cells (Ix (pn i) vs).toArray t (0,0))
 os:w'.os=w.os
 tape:w'.tape=w.tape
 output:w'.output=w.output
 size:w.heap.size<=w'.heap.size
 keep:∀ b,b<w.heap.size->b≠B->w'.heap[b]?=w.heap[b]?
structure Con.OkP (P:Program) (f:Nat) (c:Con) (cs pn:c.ι->List PC):Prop where
 enter:∃ fn,P.funcs[f]?=some fn/\fn.name ≠ "runtime.NumGoroutine" /\ fn.body.isNone=false
 small:∀ i,(c.res i).cells.length<=32
 calls:∀ i,c.pre i->∀ F w us B vs,ArgsAt F w [] (λ _=>[]) ((c.args i).flatMap DA.cells) us->PtrIn F w (cs i) B vs->Calls P f (.pointer (some ⟨B,0,none⟩)::BN (c.args i) us).toArray w λ e w'=>∃ rs bs,e=.returned ((c.res i).val rs)/\c.PostP i pn F w B vs rs bs w'/\(c.mono=true->w.drawn<=w'.drawn)
def P5 (v:Value):List PC->List Value
 | []=>[]
 | .im x::r=>x::P5 v r
 | .bt _::r=>v::P5 v r
structure Con.PostN (c:Con) (i:c.ι) (pc:c.ι->List PC) (w:World) (us:List Value) (B:Nat) (w' : World):Prop where
 fresh:w.heap.size<=B
 at_:∃ t,w'.heap[B]?=some (.cells (P5 (us.headD undef) (pc i)).toArray t (0,0))
 os:w'.os=w.os
 tape:w'.tape=w.tape
 output:w'.output=w.output
 size:w.heap.size<=w'.heap.size
 keep:∀ b,b<w.heap.size->w'.heap[b]?=w.heap[b]?
structure Con.OkN (P:Program) (f:Nat) (c:Con) (pc:c.ι->List PC):Prop where
 enter:∃ fn,P.funcs[f]?=some fn/\fn.name ≠ "runtime.NumGoroutine" /\ fn.body.isNone=false
 calls:∀ i,c.pre i->∀ F w us,ArgsAt F w [] (λ _=>[]) ((c.args i).flatMap DA.cells) us->Calls P f (BN (c.args i) us).toArray w λ e w'=>∃ B,e=.returned (.pointer (some ⟨B,0,none⟩))/\c.PostN i pc w us B w'/\(c.mono=true->w.drawn<=w'.drawn)
def Con.OkB (P:Program) (f:Nat) (c:Con):Prop:=(c.ptr=none/\c.newp=none/\c.OkA P f)∨(∃ cs pn,c.ptr=some (cs,pn)/\c.OkP P f cs pn)∨∃ pc,c.ptr=none/\c.newp=some pc/\c.OkN P f pc
theorem Con.OkB.a {P:Program} {f:Nat} {c:Con} (h:c.OkB P f) (h0:c.ptr=none) (h1:c.newp=none):c.OkA P f:=by
 rcases h with h|⟨cs,pn,h,-⟩|⟨pc,-,h,-⟩
 ·exact h.2.2
 ·rw [h0] at h;cases h
 ·rw [h1] at h;cases h
theorem Con.OkB.p {P:Program} {f:Nat} {c:Con} {cs pn:c.ι->List PC} (h:c.OkB P f) (h0:c.ptr=some (cs,pn)):c.OkP P f cs pn:=by
 rcases h with ⟨h,-⟩|⟨cs',pn',h,hp⟩|⟨pc,h,-,-⟩
 ·rw [h0] at h;cases h
 ·rw [h0] at h;cases h;exact hp
 ·rw [h0] at h;cases h
theorem Con.OkB.n {P:Program} {f:Nat} {c:Con} {pc:c.ι->List PC} (h:c.OkB P f) (h0:c.ptr=none) (h1:c.newp=some pc):c.OkN P f pc:=by
 rcases h with ⟨-,h,-⟩|⟨cs',pn',h,hp⟩|⟨pc',-,h,hp⟩
 ·rw [h1] at h;cases h
 ·rw [h0] at h;cases h
 ·rw [h1] at h;cases h;exact hp
abbrev CTs:=List (Nat×Con)
def CTok (P:Program) (ct:CTs) (M:Bool):Prop:=∀ f c,(f,c) ∈ ct->c.OkB P f/\(M=true->c.mono=true)
theorem CTok.nil (P:Program) {M:Bool} : CTok P [] M:=λ t i h=>by simp at h
theorem CTok.cons {P:Program} {M:Bool} {t:Nat} {i:Con} {ct:CTs} (h:i.Ok P t) (hT:CTok P ct M) (hM:M=true->i.mono=true:=by intro h;first|rfl|exact absurd h (by decide)) (hA:i.alt=none:=by rfl) (hP:i.ptr=none:=by rfl) (hN:i.newp=none:=by rfl):CTok P ((t,i)::ct) M:=λ u j hj=>by
 rcases List.mem_cons.1 hj with e|hj
 ·obtain ⟨rfl,rfl⟩:=Prod.mk.inj e;exact ⟨.inl ⟨hP,hN,.inl ⟨hA,h⟩⟩,hM⟩
 ·exact hT u j hj
theorem CTok.consP {P:Program} {M:Bool} {t:Nat} {i:Con} {ct:CTs} {cs pn:i.ι->List PC} (h:i.OkP P t cs pn) (hT:CTok P ct M) (hM:M=true->i.mono=true:=by intro h;first|rfl|exact absurd h (by decide)) (hP:i.ptr=some (cs,pn):=by rfl):CTok P ((t,i)::ct) M:=λ u j hj=>by
 rcases List.mem_cons.1 hj with e|hj
 ·obtain ⟨rfl,rfl⟩:=Prod.mk.inj e;exact ⟨.inr (.inl ⟨cs,pn,hP,h⟩),hM⟩
 ·exact hT u j hj
theorem CTok.consN {P:Program} {M:Bool} {t:Nat} {i:Con} {ct:CTs} {pc:i.ι->List PC} (h:i.OkN P t pc) (hT:CTok P ct M) (hM:M=true->i.mono=true:=by intro h;first|rfl|exact absurd h (by decide)) (hP:i.ptr=none:=by rfl) (hN:i.newp=some pc:=by rfl):CTok P ((t,i)::ct) M:=λ u j hj=>by
 rcases List.mem_cons.1 hj with e|hj
 ·obtain ⟨rfl,rfl⟩:=Prod.mk.inj e;exact ⟨.inr (.inr ⟨pc,hP,hN,h⟩),hM⟩
 ·exact hT u j hj
def RP:CTs->Nat->Nat->Option Con
 | [],_,_=>none
 | (g,c)::r,f,tag=>match Nat.beq g f && (Nat.beq c.tag 0 || Nat.beq c.tag tag) with|true=>some c|false=>RP r f tag
theorem MI {P:Program} {M:Bool} : ∀ {ct:CTs},CTok P ct M->∀ {f tag:Nat} {c:Con},RP ct f tag=some c->c.OkB P f/\(M=true->c.mono=true)
 | [],_,f,tag,c,h=>by simp [RP] at h
 | (g,d)::r,hT,f,tag,c,h=>by
  simp only [RP] at h
  split at h
  ·rename_i e
   simp only [Bool.and_eq_true,Nat.beq_eq] at e
   obtain rfl:=Option.some.inj h
   rw [← e.1];exact hT g d (by simp)
  ·exact MI (λ f c hc=>hT f c (List.mem_cons_of_mem _ hc)) h
theorem RQ:∀ {ct:CTs} {f tag:Nat} {c:Con},RP ct f tag=some c->∃ g,(g,c) ∈ ct
 | [],f,tag,c,h=>by simp [RP] at h
 | (g,d)::r,f,tag,c,h=>by
  simp only [RP] at h
  split at h
  ·obtain rfl:=Option.some.inj h
   exact ⟨g,by simp⟩
  ·obtain ⟨g',h'⟩:=RQ h
   exact ⟨g',List.mem_cons_of_mem _ h'⟩
def ABx (c:Con):Bool:=match c.alt with|none=>true|some _=>false
def La:CTs->CTs
 | []=>[]
 | (f,c)::r=>match ABx c with|true=>(f,c)::La r|false=>La r
theorem D3:∀ {ct:CTs} {f:Nat} {c:Con},(f,c) ∈ La ct->(f,c) ∈ ct/\c.alt=none
 | [],f,c,h=>by simp [La] at h
 | (g,d)::r,f,c,h=>by
  simp only [La] at h
  split at h
  ·rename_i e
   rcases List.mem_cons.1 h with h|h
   ·obtain ⟨rfl,rfl⟩:=Prod.mk.inj h
    refine ⟨by simp,?_⟩
    unfold ABx at e
    split at e
    ·assumption
    ·cases e
   ·exact ⟨List.mem_cons_of_mem _ (D3 h).1,(D3 h).2⟩
  ·exact ⟨List.mem_cons_of_mem _ (D3 h).1,(D3 h).2⟩
theorem CTok.det {P:Program} {M:Bool} {ct:CTs} (h:CTok P ct M):CTok P (La ct) M:=λ f c hc=>h f c (D3 hc).1
def ABy:List DA->Nat
 | []=>0
 | .one (.ro (.fn g _))::_=>g+1
 | _::r=>ABy r
def ADg (x:Option (List DA×List C)):Nat:=
 match x with
 | some y=>ABy y.1
 | none=>0
def FY (tt:TT):Nat->Nat->List Ty
 | 0,_=>[]
 | f+1,t=>
  match lkp tt t with
  | some { d:=.int _,.. }=>[.int]
  | some { d:=.bool,.. }=>[.bool]
  | some { d:=.str,.. }=>[.str]
  | some { d:=.slice e,.. }=>[.sl e (FY tt f e)]
  | some { d:=.struct fs,.. }=>fs.flatMap λ x=>FY tt f x.2.1
  | _=>[.int]
def TX (s:St):C->Option LC
 | .im v=>if v.oneCell'=true then some (.im v) else none
 | .ext k=>
  match ET s k with
  | some (e,ts,rows,_)=>some (.sl e ts rows)
  | none=>none
 | _=>none
def Dk (s:St):C->List Nat
 | .ext k=>
  match ET s k with
  | some (_,_,_,deps)=>deps
  | none=>[]
 | _=>[]
def Hm (s:St):List C->Option (List LC)
 | []=>some []
 | c::cs=>
  match TX s c,Hm s cs with
  | some d,some ds=>some (d::ds)
  | _,_=>none
def RR (s:St) (i:Nat):Option (List LC):=
 match lkp s.en i with
 | some (.box cs)=>Hm s cs
 | _=>none
def EI (s:St) (i:Nat):List Nat:=
 match lkp s.en i with
 | some (.box cs)=>i::cs.flatMap (Dk s)
 | _=>[]
def Ja (s:St):List Nat->Option (List (List LC))
 | []=>some []
 | i::is=>
  match RR s i,Ja s is with
  | some d,some ds=>some (d::ds)
  | _,_=>none
def L5 (s:St) (k:Nat):Option RO:=
 match lkp s.en k with
 | some (.ro d _)=>some d
 | _=>none
def Fw (s:St) (k:Nat):List Nat:=
 match lkp s.en k with
 | some (.ro _ deps)=>deps
 | _=>[]
def X6 (s:St) (x:Bool×Nat):Option (List LC):=
 if x.1=true then RR s x.2 else
 match L5 s x.2 with
 | some (.ptr cs)=>some cs
 | _=>none
def FZ (s:St) (x:Bool×Nat):List Nat:=if x.1=true then EI s x.2 else Fw s x.2
def M5 (s:St):List (Bool×Nat)->Option (List (List LC))
 | []=>some []
 | i::is=>
  match X6 s i,M5 s is with
  | some d,some ds=>some (d::ds)
  | _,_=>none
def M6 (na:Bool) (s:St) (t:Ty) (c:C):Option DC:=
 match na,t,c with
 | false,.sl e ts,.im (.slice none 0 0)=>some (.sl e ts [])
 | _,_,.im v=>some (.im v)
 | _,_,.ext k=>
  match ET s k with
  | some (e,ts,rows,_)=>some (.sl e ts rows)
  | none=>(L5 s k).map .ro
 | _,_,.bp i 0=>(RR s i).map λ cs=>.ro (.ptr cs)
 | _,_,.clo g is=>(Ja s is).map λ l=>.ro (.fn g l)
 | _,_,.clx g is=>(M5 s is).map λ l=>.ro (.fn g l)
 | _,_,.cp k j=>
  match L5 s k with
  | some (.fn _ caps)=>(caps[j]?).map λ cs=>.ro (.ptr cs)
  | _=>none
 | _,_,_=>none
def Lb (na:Bool) (s:St):List Ty->List C->Option (List DC)
 | [],[]=>some []
 | t::ts,c::cs=>
  match M6 na s t c,Lb na s ts cs with
  | some d,some ds=>some (d::ds)
  | _,_=>none
 | _,_=>none
def AC9 (na:Bool) (tt:TT) (s:St) (t:Nat) (a:T):Option (DA×List C):=
 match a with
 | .one (.one c)=>
  match FY tt 9 t with
  | [ty]=>(M6 na s ty c).map λ d=>(.one d,[c])
  | _=>none
 | .one (.agg cs)=>(Lb na s (FY tt 9 t) cs).map λ ds=>(.agg ds,cs)
 | .tup _=>none
def Hn (na:Bool) (tt:TT) (s:St):List Nat->List T->Option (List DA×List C)
 | [],[]=>some ([],[])
 | t::ts,a::as=>
  match AC9 na tt s t a,Hn na tt s ts as with
  | some (d,c),some (ds,cs)=>some (d::ds,c++cs)
  | _,_=>none
 | _,_=>none
def B8 (s:St) (c:C):List Nat:=
 match c with
 | .ext k=>
  match ET s k with
  | some (_,_,_,deps)=>deps
  | none=>Fw s k
 | .bp i _=>EI s i
 | .clo _ is=>is.flatMap (EI s)
 | .clx _ is=>is.flatMap (FZ s)
 | .cp k _=>Fw s k
 | _=>[]
def B9 (s:St) (mu:List Nat):List C->Nat->List Nat
 | [],_=>[]
 | c::cs,p=>(if (mu.any (Nat.beq p))=true then [] else B8 s c)++B9 s mu cs (p+1)
def ADA (s:St) (cells:List C) (p:Nat):Option Nat:=
 match cells[p]? with
 | some (.ext k)=>
  match lkp s.en k with
  | some (.own _ _ _)=>some k
  | _=>none
 | _=>none
def RS (s:St) (cells:List C):List Nat->Option (List Nat)
 | []=>some []
 | p::ps=>
  match ADA s cells p,RS s cells ps with
  | some k,some ks=>some (k::ks)
  | _,_=>none
def By:List RC->Nat->List C
 | [],_=>[]
 | .im v::r,nx=>.im v::By r (nx+1)
 | .own _ _ _::r,nx=>.ext nx::By r (nx+1)
 | .view _ _ _::r,nx=>.ext nx::By r (nx+1)
 | .top _ _ _::r,nx=>.ext nx::By r (nx+1)
def Jb (deps:List Nat):List RC->Nat->List (Nat×En)
 | [],_=>[]
 | .im _::r,nx=>Jb deps r (nx+1)
 | .own e ts rows::r,nx=>(nx,.own e ts rows)::Jb deps r (nx+1)
 | .view e ts rows::r,nx=>(nx,.view e ts rows deps)::Jb deps r (nx+1)
 | .top e ts rows::r,nx=>(nx,.top e ts rows deps)::Jb deps r (nx+1)
def AAp (l:List Nat) (j:Nat):Bool:=l.any (Nat.beq j)
theorem TY {l:List Nat} {j:Nat} (h:AAp l j=false):j ∉ l:=λ hm=>by
 have:=List.any_eq_false.1 h j hm
 simp at this
def TZ (s:St) (gone:List Nat) (new:List (List (List Dat))):List Nat->Nat->List (Nat×En)
 | [],_=>[]
 | k::ks,j=>(k,match AAp gone j with|true=>.dead|false=>match lkp s.en k with|some (.own e ts _)=>.own e ts (new.getD j [])|_=>.dead)::TZ s gone new ks (j+1)
def Fa (s:St) (nx:Nat) (deps ks gone:List Nat) (r:RT) (new:List (List (List Dat))):Eff:=
 ⟨r.t (By r.cells nx),Jb deps r.cells nx++TZ s gone new ks 0⟩
def X7 (s:St) (cells:List C) (p:Nat):Option (Nat×List Prop×(List (List Dat)->List (List Dat))×(List (List Dat)->En)):=
 match cells[p]? with
 | some (.ext x)=>
  match lkp s.en x with
  | some (.mu e ts _ j)=>some (x,[],λ new=>new,λ R=>.mu e ts R j)
  | some (.part e ts rows k sz r c)=>
   match lkp s.en k with
   | some (.mu e0 ts0 rows0 j0)=>
    match ts0[c]? with
    | some (.sl e' ts')=>if (Nat.beq sz ts0.length && Nat.beq e e' && Ty.beqs ts ts')=true then some (k,[r<rows0.length,rows=((rows0.getD r []).getD c (.int 0)).r],λ new=>AC8 rows0 r c (.sl new),λ R=>.mu e0 ts0 R j0) else none
    | _=>none
   | _=>none
  | _=>none
 | _=>none
def obs:List Prop->Prop->Prop
 | [],q=>q
 | p::r,q=>p/\obs r q
def Kd (tt:TT) (s:St) (c:Con) (ds:List DA) (cells:List C) (q:Eff->Prop):Prop:=
 match c.mu with
 | [p]=>
  match X7 s cells p with
  | some (k,ps,rw,mk)=>
   if (!((B9 s c.mu cells 0).any (Nat.beq k)))=true then
    ∃ i:c.ι,ds=c.args i/\c.pre i/\obs ps (match c.gone,c.res i with
     | [],⟨false,[none],[.im v]⟩=>∀ R:List (List Dat),R=rw ((c.new i).getD 0 [])->q ⟨.one (.one (.im v)),[(k,mk R)]⟩
     | _,_=>False)
   else False
  | none=>False
 | _=>False
def ADB (s:St):C->Option PC
 | .im v=>some (.im v)
 | .ext k=>
  match L5 s k with
  | some (.bytes bs)=>some (.bt bs)
  | _=>none
 | _=>none
def RU (s:St):List C->Option (List PC)
 | []=>some []
 | c::cs=>
  match ADB s c,RU s cs with
  | some d,some ds=>some (d::ds)
  | _,_=>none
def CO (s:St):List C->List Nat
 | []=>[]
 | .ext k::r=>Fw s k++CO s r
 | _::r=>CO s r
def F4:List PC->List C->List C
 | .im v::r,_::cs=>.im v::F4 r cs
 | .bt _::r,c::cs=>c::F4 r cs
 | _,cs=>cs
def Ke (tt:TT) (s:St) (nx:Nat) (c:Con) (cs pn:c.ι->List PC) (tys:List Nat) (as:List T) (q:Eff->Prop):Prop:=
 match tys,as with
 | _::tys,.one (.one (.bp k 0))::as=>
  match lkp s.en k,Hn false tt s tys as with
  | some (.box bx),some (ds,cells)=>
   match RU s bx with
   | none=>False
   | some pcs=>
    if (!((CO s bx++B9 s [] cells 0).any (Nat.beq k)))=true then
     ∃ i:c.ι,ds=c.args i/\pcs=cs i/\c.pre i/\q ⟨(c.res i).t (By (c.res i).cells nx),Jb (CO s bx++B9 s [] cells 0) (c.res i).cells nx++[(k,.box (F4 (pn i) bx))]⟩
    else False
  | _,_=>False
 | _,_=>False
def OQ (k:Nat):List PC->List C
 | []=>[]
 | .im x::r=>.im x::OQ k r
 | .bt _::r=>.ext k::OQ k r
def Kf (tt:TT) (s:St) (nx:Nat) (c:Con) (pc:c.ι->List PC) (tys:List Nat) (as:List T) (q:Eff->Prop):Prop:=
 match Hn false tt s tys as with
 | some (ds,.ext k::_)=>
  match L5 s k with
  | some _=>∃ i:c.ι,ds=c.args i/\c.pre i/\q ⟨.one (.one (.bp nx 0)),[(nx,.box (OQ k (pc i)))]⟩
  | none=>False
 | _=>False
def Ou (tt:TT) (ct:CTs) (s:St) (nx f:Nat) (tys:List Nat) (as:List T) (q:Eff->Prop):Prop:=
 match RP ct f (ADg (Hn false tt s tys as)) with
 | none=>False
 | some c=>
  match c.ptr with
  | some (cs,pn)=>Ke tt s nx c cs pn tys as q
  | none=>
   match c.newp with
   | some pc=>Kf tt s nx c pc tys as q
   | none=>
   match Hn c.nilA tt s tys as with
   | none=>False
   | some (ds,cells)=>
    match RS s cells c.mu with
    | none=>Kd tt s c ds cells q
    | some ks=>if (FA ks && !(ks.any λ k=>(B9 s c.mu cells 0).any (Nat.beq k)))=true then ∃ i:c.ι,ds=c.args i/\c.pre i/\(match c.alt with
     | none=>q (Fa s nx (B9 s c.mu cells 0) ks c.gone (c.res i) (c.new i))
     | some a=>∀ j:c.ι,a i j->q (Fa s nx (B9 s c.mu cells 0) ks c.gone (c.res j) (c.new j))) else False
section
variable {P : Program} {tt : TT} {ct : CTs} {Γ : Env} {n : Nat} {w0 : World} {al fr : Nat → Prop} {s : St} {m : Maps} {a : Act} {w : World} {nx : Nat} {o : Oper}
theorem WZ (h:R Γ n w0 al s m a w) {c:C} {d:LC} (hx:TX s c=some d):LCAt (λ b=>Γ.may m (Dk s c) b/\b<w.heap.size) w d (c.den m)/\∀ i ∈ Dk s c,al i:=by
 unfold TX at hx
 split at hx
 ·split at hx
  ·rename_i v hv
   simp only [Option.some.injEq] at hx
   subst hx
   exact ⟨⟨rfl,hv⟩,by simp [Dk]⟩
  ·cases hx
 ·split at hx
  ·rename_i k e ts rows deps hk
   simp only [Option.some.injEq] at hx
   subst hx
   obtain ⟨⟨F,f1,f2⟩,-,f3⟩:=h.sl hk
   simp only [LCAt,C.den,Dk,hk]
   have:=RdS.step (Nat.le_refl _) (λ _ _ _=>rfl) _ _ _ f1
   exact ⟨RdS.mono (λ b hb=>⟨f2 b hb.1,hb.2⟩) _ _ _ this,f3⟩
  ·cases hx
 ·cases hx
theorem B0 {Γ:Env} {m:Maps} {d1 d2:List Nat} (h:∀ i ∈ d1,i ∈ d2) {b:Nat} (hb:Γ.may m d1 b):Γ.may m d2 b:=by
 rcases hb with hb|hb|hb
 ·exact .inl hb
 ·exact .inr (.inl hb)
 ·exact .inr (.inr ⟨hb.1,h _ hb.2⟩)
theorem Lc (h:R Γ n w0 al s m a w):∀ {cs:List C} {ds:List LC},Hm s cs=some ds->(cs.map (C.den m)).length=ds.length/\(∀ (p:Nat) (d:LC) (v:Value),ds[p]?=some d->(cs.map (C.den m))[p]?=some v->LCAt (λ b=>Γ.may m (cs.flatMap (Dk s)) b/\b<w.heap.size) w d v)/\∀ i ∈ cs.flatMap (Dk s),al i
 | [],ds,hx=>by simp only [Hm,Option.some.injEq] at hx;subst hx;simp
 | c::cs,ds,hx=>by
  simp only [Hm] at hx
  split at hx
  ·rename_i d ds' h1 h2
   simp only [Option.some.injEq] at hx
   subst hx
   obtain ⟨y1,y2⟩:=WZ h h1
   obtain ⟨z1,z2,z3⟩:=Lc h h2
   refine ⟨by simpa using z1,λ p d' v hd hv=>?_,λ i hi=>?_⟩
   ·cases p with
    | zero=>
     simp at hd hv
     subst hd;subst hv
     exact y1.mono λ b hb=>⟨B0 (λ i hi=>by simp [hi]) hb.1,hb.2⟩
    | succ p=>
     exact (z2 p d' v (by simpa using hd) (by simpa using hv)).mono λ b hb=>⟨B0 (λ i hi=>by rw [List.flatMap_cons];exact List.mem_append.2 (.inr hi)) hb.1,hb.2⟩
   ·rw [List.flatMap_cons] at hi
    rcases List.mem_append.1 hi with hi|hi
    ·exact y2 i hi
    ·exact z3 i hi
  ·cases hx
theorem M7 (h:R Γ n w0 al s m a w) {i:Nat} {cs:List LC} (hx:RR s i=some cs):PtrAt (λ b=>Γ.may m (EI s i) b/\b<w.heap.size) w cs (.pointer (some ⟨m.β i,0,none⟩))/\∀ j ∈ EI s i,al j:=by
 unfold RR at hx
 split at hx
 ·rename_i ds hl
  obtain ⟨⟨b1,b2,e,b3⟩,b4,b5⟩:=h.en _ _ hl
  obtain ⟨z1,z2,z3⟩:=Lc h hx
  simp only [EI,hl]
  refine ⟨⟨m.β i,e,ds.map (C.den m),rfl,⟨.inr (.inr ⟨b1,by rw [b2];simp⟩),(Array.getElem?_eq_some_iff.1 b3).1⟩,b3,z1,λ p d v hd hv=>?_⟩,λ j hj=>?_⟩
  ·exact (z2 p d v hd hv).mono λ b hb=>⟨B0 (λ i hi=>List.mem_cons_of_mem _ hi) hb.1,hb.2⟩
  ·rcases List.mem_cons.1 hj with rfl|hj
   ·exact b4
   ·exact z3 j hj
 ·cases hx
theorem M8 (h:R Γ n w0 al s m a w):∀ {is:List Nat} {l:List (List LC)},Ja s is=some l->is.length=l.length/\(∀ (p:Nat) (cs:List LC) (v:Value),l[p]?=some cs->(is.map λ i=>Value.pointer (some ⟨m.β i,0,none⟩))[p]?=some v->PtrAt (λ b=>Γ.may m (is.flatMap (EI s)) b/\b<w.heap.size) w cs v)/\∀ j ∈ is.flatMap (EI s),al j
 | [],l,hx=>by simp only [Ja,Option.some.injEq] at hx;subst hx;simp
 | i::is,l,hx=>by
  simp only [Ja] at hx
  split at hx
  ·rename_i d ds' h1 h2
   simp only [Option.some.injEq] at hx
   subst hx
   obtain ⟨y1,y2⟩:=M7 h h1
   obtain ⟨z1,z2,z3⟩:=M8 h h2
   refine ⟨by simpa using z1,λ p d' v hd hv=>?_,λ i hi=>?_⟩
   ·cases p with
    | zero=>
     simp at hd hv
     subst hd;subst hv
     exact y1.mono λ b hb=>⟨B0 (λ i hi=>by simp [hi]) hb.1,hb.2⟩
    | succ p=>
     exact (z2 p d' v (by simpa using hd) (by simpa using hv)).mono λ b hb=>⟨B0 (λ i hi=>by rw [List.flatMap_cons];exact List.mem_append.2 (.inr hi)) hb.1,hb.2⟩
   ·rw [List.flatMap_cons] at hi
    rcases List.mem_append.1 hi with hi|hi
    ·exact y2 i hi
    ·exact z3 i hi
  ·cases hx
theorem EJ (h:R Γ n w0 al s m a w) {k:Nat} {d:RO} (hx:L5 s k=some d):ROAt (λ b=>Γ.may m (Fw s k) b/\b<w.heap.size) w d (m.ε k)/\al k/\∀ j ∈ Fw s k,al j:=by
 unfold L5 at hx
 split at hx
 ·rename_i d' deps hl
  simp only [Option.some.injEq] at hx
  subst hx
  obtain ⟨⟨F,f1,f2⟩,f3,f4⟩:=h.en _ _ hl
  simp only [Fw,hl]
  exact ⟨(f1.step (Nat.le_refl _) λ _ _ _=>rfl).mono λ b hb=>⟨f2 b hb.1,hb.2⟩,f3,f4⟩
 ·cases hx
theorem Kg (h:R Γ n w0 al s m a w) {k:Nat} : ∀ j ∈ Fw s k,al j:=by
 intro j hj
 unfold Fw at hj
 split at hj
 ·rename_i hl
  exact (h.en _ _ hl).2.2 j hj
 ·simp at hj
theorem RV (h:R Γ n w0 al s m a w) {c:C} : ∀ j ∈ Dk s c,al j:=by
 intro j hj
 unfold Dk at hj
 split at hj
 ·split at hj
  ·rename_i hk;exact (h.sl hk).2.2 j hj
  ·simp at hj
 ·simp at hj
theorem I7 (h:R Γ n w0 al s m a w) {i:Nat} : ∀ j ∈ EI s i,al j:=by
 intro j hj
 unfold EI at hj
 split at hj
 ·rename_i hl
  rcases List.mem_cons.1 hj with rfl|hj
  ·exact (h.en _ _ hl).2.1
  ·obtain ⟨c,_,hj⟩:=List.mem_flatMap.1 hj
   exact RV h j hj
 ·simp at hj
theorem Ta (h:R Γ n w0 al s m a w) {x:Bool×Nat} : ∀ j ∈ FZ s x,al j:=by
 intro j hj
 unfold FZ at hj
 split at hj
 ·exact I7 h j hj
 ·exact Kg h j hj
theorem X8 (h:R Γ n w0 al s m a w) {x:Bool×Nat} {cs:List LC} (hx:X6 s x=some cs):PtrAt (λ b=>Γ.may m (FZ s x) b/\b<w.heap.size) w cs (OL m x)/\∀ j ∈ FZ s x,al j:=by
 unfold X6 at hx
 unfold FZ OL
 split at hx
 ·rename_i h1
  rw [if_pos h1,if_pos h1]
  exact M7 h hx
 ·rename_i h1
  rw [if_neg h1,if_neg h1]
  split at hx
  ·rename_i cs' hk
   obtain rfl:=Option.some.inj hx
   exact ⟨(EJ h hk).1,(EJ h hk).2.2⟩
  ·cases hx
theorem Ov (h:R Γ n w0 al s m a w):∀ {is:List (Bool×Nat)} {l:List (List LC)},M5 s is=some l->is.length=l.length/\(∀ (p:Nat) (cs:List LC) (v:Value),l[p]?=some cs->(is.map (OL m))[p]?=some v->PtrAt (λ b=>Γ.may m (is.flatMap (FZ s)) b/\b<w.heap.size) w cs v)/\∀ j ∈ is.flatMap (FZ s),al j
 | [],l,hx=>by simp only [M5,Option.some.injEq] at hx;subst hx;simp
 | i::is,l,hx=>by
  simp only [M5] at hx
  split at hx
  ·rename_i d ds' h1 h2
   simp only [Option.some.injEq] at hx
   subst hx
   obtain ⟨y1,y2⟩:=X8 h h1
   obtain ⟨z1,z2,z3⟩:=Ov h h2
   refine ⟨by simpa using z1,λ p d' v hd hv=>?_,λ i hi=>?_⟩
   ·cases p with
    | zero=>
     simp at hd hv
     subst hd;subst hv
     exact y1.mono λ b hb=>⟨B0 (λ i hi=>by simp [hi]) hb.1,hb.2⟩
    | succ p=>
     exact (z2 p d' v (by simpa using hd) (by simpa using hv)).mono λ b hb=>⟨B0 (λ i hi=>by rw [List.flatMap_cons];exact List.mem_append.2 (.inr hi)) hb.1,hb.2⟩
   ·rw [List.flatMap_cons] at hi
    rcases List.mem_append.1 hi with hi|hi
    ·exact y2 i hi
    ·exact z3 i hi
  ·cases hx
theorem RW (h:R Γ n w0 al s m a w) {c:C} : ∀ j ∈ B8 s c,al j:=by
 intro j hj
 unfold B8 at hj
 split at hj
 ·split at hj
  ·rename_i hk;exact (h.sl hk).2.2 j hj
  ·exact Kg h j hj
 ·exact I7 h j hj
 ·obtain ⟨i,_,hj⟩:=List.mem_flatMap.1 hj
  exact I7 h j hj
 ·obtain ⟨i,_,hj⟩:=List.mem_flatMap.1 hj
  exact Ta h j hj
 ·exact Kg h j hj
 ·simp at hj
theorem MJ (h:R Γ n w0 al s m a w) {na:Bool} {t:Ty} {c:C} {d:DC} (hx:M6 na s t c=some d):DT (λ b=>Γ.may m (B8 s c) b/\b<w.heap.size) w d (c.den m):=by
 unfold M6 at hx
 split at hx
 ·simp only [Option.some.injEq] at hx
  subst hx
  simp only [DT,RdS,C.den]
  exact ⟨[],⟨none,0,rfl,Nat.le_refl _,by unfold maxLen;omega,by simp,.inl ⟨rfl,λ _=>rfl⟩⟩,by simp,rfl,by simp⟩
 ·simp only [Option.some.injEq] at hx
  subst hx
  rfl
 ·split at hx
  ·rename_i k e ts rows deps hk
   simp only [Option.some.injEq] at hx
   subst hx
   obtain ⟨⟨F,f1,f2⟩,-,-⟩:=h.sl hk
   simp only [DT,C.den,B8,hk]
   have:=RdS.step (Nat.le_refl _) (λ _ _ _=>rfl) _ _ _ f1
   exact RdS.mono (λ b hb=>⟨f2 b hb.1,hb.2⟩) _ _ _ this
  ·rename_i k hk
   obtain ⟨d',e1,rfl⟩:=Option.map_eq_some_iff.1 hx
   simp only [DT,C.den,B8,hk]
   exact (EJ h e1).1
 ·obtain ⟨cs,e1,rfl⟩:=Option.map_eq_some_iff.1 hx
  exact (M7 h e1).1
 ·obtain ⟨l,e1,rfl⟩:=Option.map_eq_some_iff.1 hx
  obtain ⟨z1,z2,z3⟩:=M8 h e1
  simp only [DT,C.den,B8,ROAt]
  exact ⟨_,rfl,by simpa using z1,z2⟩
 ·obtain ⟨l,e1,rfl⟩:=Option.map_eq_some_iff.1 hx
  obtain ⟨z1,z2,z3⟩:=Ov h e1
  simp only [DT,C.den,B8,ROAt]
  exact ⟨_,rfl,by simpa using z1,z2⟩
 ·split at hx
  ·rename_i k j _ g caps hk
   obtain ⟨cs,e1,rfl⟩:=Option.map_eq_some_iff.1 hx
   obtain ⟨⟨ps,q1,q2,q3⟩,-⟩:=EJ h hk
   simp only [DT,C.den,B8,ROAt,Xs,q1]
   have hlt:j<ps.length:=by rw [q2];exact (List.getElem?_eq_some_iff.1 e1).1
   have hps:=List.getElem?_eq_getElem hlt
   have e:ps.toArray.getD j undef=ps[j]:=by simp [Array.getD_eq_getD_getElem?,hps]
   rw [e]
   exact q3 j cs _ e1 hps
  ·cases hx
 ·cases hx
theorem RX {na:Bool} {t:Ty} {k e:Nat} {ts:List Ty} {rows:List (List Dat)} {d:DC} (hx:M6 na s t (.ext k)=some d) (hl:lkp s.en k=some (.own e ts rows)):d=.sl e ts rows:=by
 unfold M6 at hx
 simp only [ET,hl,Option.bind_some,En.sl,Option.some.injEq] at hx
 exact hx.symm
theorem RY {na:Bool} : ∀ {ts:List Ty} {cs:List C} {ds:List DC},Lb na s ts cs=some ds->All2 (λ c d=>∃ t,M6 na s t c=some d) cs ds
 | [],[],ds,hx=>by simp only [Lb,Option.some.injEq] at hx;subst hx;exact .nil
 | [],_::_,_,hx=>by simp [Lb] at hx
 | _::_,[],_,hx=>by simp [Lb] at hx
 | t::ts,c::cs,ds,hx=>by
  simp only [Lb] at hx
  split at hx
  ·rename_i d ds' h1 h2
   simp only [Option.some.injEq] at hx
   subst hx
   exact .cons ⟨t,h1⟩ (RY h2)
  ·cases hx
theorem All2.len {α β:Type} {p:α->β->Prop} {l:List α} {r:List β} (h:All2 p l r):l.length=r.length:=by
 induction h with
 | nil=>rfl
 | cons _ _ ih=>simp [ih]
theorem All2.get {α β:Type} {p:α->β->Prop} {l:List α} {r:List β} (h:All2 p l r) {j:Nat} {x:α} {y:β} (hx:l[j]?=some x) (hy:r[j]?=some y):p x y:=by
 induction h generalizing j with
 | nil=>simp at hx
 | cons h1 _ ih=>
  cases j with
  | zero=>simp at hx hy;subst hx;subst hy;exact h1
  | succ j=>exact ih (by simpa using hx) (by simpa using hy)
theorem All2.append {α β:Type} {p:α->β->Prop} {l l' : List α} {r r' : List β} (h:All2 p l r) (h' : All2 p l' r'):All2 p (l++l') (r++r'):=by
 induction h with
 | nil=>exact h'
 | cons h1 _ ih=>exact .cons h1 ih
theorem Ho {na:Bool} : ∀ {tys:List Nat} {as:List T} {ds:List DA} {cells:List C},Hn na tt s tys as=some (ds,cells) ->
  All2 (λ c d=>∃ t,M6 na s t c=some d) cells (ds.flatMap DA.cells)/\as.map (T.den m)=BN ds (cells.map (C.den m))
 | [],[],ds,cells,hx=>by
  simp only [Hn,Option.some.injEq,Prod.mk.injEq] at hx
  obtain ⟨rfl,rfl⟩:=hx
  exact ⟨.nil,rfl⟩
 | [],_::_,_,_,hx=>by simp [Hn] at hx
 | _::_,[],_,_,hx=>by simp [Hn] at hx
 | t::ts,x::as,ds,cells,hx=>by
  simp only [Hn] at hx
  split at hx
  ·rename_i d c ds' cs' h1 h2
   simp only [Option.some.injEq,Prod.mk.injEq] at hx
   obtain ⟨rfl,rfl⟩:=hx
   obtain ⟨i1,i2⟩:=Ho h2
   unfold AC9 at h1
   split at h1
   ·rename_i c0
    split at h1
    ·rename_i ty _
     cases hc:M6 na s ty c0 with
     | none=>rw [hc] at h1;cases h1
     | some d0=>
      rw [hc] at h1
      simp only [Option.map_some,Option.some.injEq,Prod.mk.injEq] at h1
      obtain ⟨rfl,rfl⟩:=h1
      exact ⟨by simpa [DA.cells] using All2.append (.cons ⟨ty,hc⟩ .nil) i1,by simp [BN,i2,T.den,A.den]⟩
    ·cases h1
   ·rename_i cs0
    cases hc:Lb na s (FY tt 9 t) cs0 with
    | none=>rw [hc] at h1;cases h1
    | some d0=>
     rw [hc] at h1
     simp only [Option.map_some,Option.some.injEq,Prod.mk.injEq] at h1
     obtain ⟨rfl,rfl⟩:=h1
     have hall:=RY hc
     have hl:=hall.len
     refine ⟨by simpa [DA.cells] using All2.append hall i1,?_⟩
     ·simp only [List.map_cons,BN,i2,T.den,A.den,List.map_append]
      rw [← hl]
      have e1:(cs0.map (C.den m)++cs'.map (C.den m)).take cs0.length=cs0.map (C.den m):=by rw [List.take_left' (by simp)]
      have e2:(cs0.map (C.den m)++cs'.map (C.den m)).drop cs0.length=cs'.map (C.den m):=by rw [List.drop_left' (by simp)]
      rw [e1,e2]
   ·cases h1
  ·cases hx
theorem EV {mu:List Nat} : ∀ {cells:List C} {p0 p:Nat} {c:C},cells[p]?=some c->(p0+p) ∉ mu->∀ i ∈ B8 s c,i ∈ B9 s mu cells p0
 | [],_,_,_,h,_=>by simp at h
 | c0::cs,p0,p,c,h,hp=>by
  intro i hi
  simp only [B9]
  cases p with
  | zero=>
   simp at h
   subst h
   refine List.mem_append.2 (.inl ?_)
   rw [if_neg]
   ·exact hi
   ·intro he
    obtain ⟨q,hq,e⟩:=List.any_eq_true.1 he
    simp at e
    subst e
    exact hp (by simpa using hq)
  | succ p=>exact List.mem_append.2 (.inr (EV (p0:=p0+1) (by simpa using h) (by rw [Nat.add_assoc,Nat.add_comm 1];exact hp) i hi))
theorem I8 (h:R Γ n w0 al s m a w) {mu:List Nat} : ∀ {cells:List C} {p0 i:Nat},i ∈ B9 s mu cells p0->al i
 | [],_,_,hi=>by simp [B9] at hi
 | c0::cs,p0,i,hi=>by
  simp only [B9] at hi
  rcases List.mem_append.1 hi with hi|hi
  ·split at hi
   ·simp at hi
   ·exact RW h i hi
  ·exact I8 h hi
theorem RZ {cells:List C} : ∀ {mu ks:List Nat},RS s cells mu=some ks->ks.length=mu.length/\∀ j p:Nat,mu[j]?=some p->∃ (k e:Nat) (ts:List Ty) (rows:List (List Dat)),ks[j]?=some k/\cells[p]?=some (C.ext k)/\lkp s.en k=some (.own e ts rows)
 | [],ks,hx=>by simp only [RS,Option.some.injEq] at hx;subst hx;exact ⟨rfl,by simp⟩
 | p::ps,ks,hx=>by
  simp only [RS] at hx
  split at hx
  ·rename_i k ks' h1 h2
   simp only [Option.some.injEq] at hx
   subst hx
   obtain ⟨i1,i2⟩:=RZ h2
   refine ⟨by simp [i1],λ j q hq=>?_⟩
   cases j with
   | zero=>
    simp at hq
    subst hq
    unfold ADA at h1
    split at h1
    ·rename_i k' hk'
     split at h1
     ·rename_i e ts rows hl
      simp only [Option.some.injEq] at h1
      subst h1
      exact ⟨_,e,ts,rows,rfl,hk',hl⟩
     ·cases h1
    ·cases h1
   | succ j=>simpa using i2 j q (by simpa using hq)
  ·cases hx
theorem Kh {F:Nat->Prop} {w' : World} {all deps:List Nat} : ∀ {rcs:List RC} {us:List Value} {bs:List Nat} {nx:Nat},BP F w w' all rcs us bs->bs.Nodup->(∀ b ∈ bs,Γ.mine b) ->
  us.length=rcs.length/\(∀ c ∈ By rcs nx,∀ i ∈ c.ids,nx<=i/\i<nx+rcs.length) /\
  ∃ g:Nat->Nat,(∀ b ∈ bs,nx<=g b/\g b<nx+rcs.length)/\∀ M:Maps,(∀ b,F b∨(w.heap.size<=b/\b ∉ all)->Γ.may M deps b)->(∀ q,q<rcs.length->M.ε (nx+q)=us.getD q undef)->(∀ b ∈ bs,M.π b=g b) ->
   (By rcs nx).map (C.den M)=us/\∀ i E,lkp (Jb deps rcs nx) i=some E->(nx<=i/\i<nx+rcs.length)/\EnAt Γ M w' i E/\∀ j ∈ E.ids,j ∈ deps
 | [],[],bs,nx,h,_,_=>by
  simp only [BP] at h
  subst h
  exact ⟨rfl,by simp [By],λ _=>0,by simp,λ _ _ _ _=>⟨rfl,λ i E hE=>by simp [Jb,lkp] at hE⟩⟩
 | [],_::_,_,_,h,_,_=>by simp [BP] at h
 | rc::_,[],_,_,h,_,_=>by cases rc <;> simp [BP] at h
 | rc::r,u::us,bs,nx,h,hn,hb=>by
  have hsh:∀ {M:Maps} {us' : List Value} {N:Nat},(∀ q,q<N+1->M.ε (nx+q)=(u::us').getD q undef)->∀ q,q<N->M.ε (nx+1+q)=us'.getD q undef:=λ hm q hq=>by
   have:=hm (q+1) (by omega)
   simpa [Nat.add_assoc,Nat.add_comm 1] using this
  have hm0:∀ {M:Maps} {N:Nat},(∀ q,q<N+1->M.ε (nx+q)=(u::us).getD q undef)->M.ε nx=u:=λ hm=>by simpa using hm 0 (by omega)
  cases rc with
  | im v=>
   simp only [BP] at h
   obtain ⟨rfl,h⟩:=h
   obtain ⟨a1,a3,g,a4,a5⟩:=Kh (nx:=nx+1) h hn hb
   refine ⟨by simp [a1],λ c hc i hi=>?_,g,λ b hb=>by have:=a4 b hb;simp;omega,λ M hF hm hg=>?_⟩
   ·simp only [By,List.mem_cons] at hc
    rcases hc with rfl|hc
    ·simp [C.ids] at hi
    ·have:=a3 c hc i hi;simp;omega
   ·obtain ⟨x1,x2⟩:=a5 M hF (hsh hm) hg
    refine ⟨by simp only [By,List.map_cons,C.den];rw [x1],λ i E hE=>?_⟩
    obtain ⟨e1,e2⟩:=x2 i E hE
    exact ⟨by simp;omega,e2⟩
  | own e ts rows=>
   simp only [BP] at h
   obtain ⟨b1,b2,rfl,h1,h⟩:=h
   obtain ⟨n1,n2,n3⟩:=List.nodup_append.1 hn
   obtain ⟨a1,a3,g,a4,a5⟩:=Kh (nx:=nx+1) h n2 (λ b hb'=>hb b (List.mem_append.2 (.inr hb')))
   refine ⟨by simp [a1],λ c hc i hi=>?_,λ b=>if b ∈ b1 then nx else g b,λ b hb=>?_,λ M hF hm hg=>?_⟩
   ·simp only [By,List.mem_cons] at hc
    rcases hc with rfl|hc
    ·simp [C.ids] at hi;subst hi;simp
    ·have:=a3 c hc i hi;simp;omega
   ·by_cases hb1:b ∈ b1
    ·simp [hb1]
    ·simp only [hb1,if_false]
     have:=a4 b ((List.mem_append.1 hb).resolve_left hb1)
     simp;omega
   ·obtain ⟨x1,x2⟩:=a5 M hF (hsh hm) (λ b hb'=>(hg b (List.mem_append.2 (.inr hb'))).trans (if_neg (λ hb1=>n3 b hb1 b hb' rfl)))
    refine ⟨by simp only [By,List.map_cons,C.den];rw [x1,hm0 hm],λ i E hE=>?_⟩
    simp only [Jb,AQ] at hE
    split at hE
    ·rename_i e'
     subst e'
     obtain rfl:=Option.some.inj hE
     refine ⟨by simp,⟨b1,by rw [hm0 hm];exact h1,n1,λ b hb'=>⟨hb b (List.mem_append.2 (.inl hb')),?_⟩⟩,by simp [En.ids]⟩
     exact (hg b (List.mem_append.2 (.inl hb'))).trans (if_pos hb')
    ·obtain ⟨e1,e2⟩:=x2 i E hE
     exact ⟨by simp;omega,e2⟩
  | top e ts rows=>
   simp only [BP] at h
   obtain ⟨b1,b2,rfl,⟨rv,v1,v2,v3,v4,v5⟩,h⟩:=h
   obtain ⟨n1,n2,n3⟩:=List.nodup_append.1 hn
   obtain ⟨a1,a3,g,a4,a5⟩:=Kh (nx:=nx+1) h n2 (λ b hb'=>hb b (List.mem_append.2 (.inr hb')))
   refine ⟨by simp [a1],λ c hc i hi=>?_,λ b=>if b ∈ b1 then nx else g b,λ b hb=>?_,λ M hF hm hg=>?_⟩
   ·simp only [By,List.mem_cons] at hc
    rcases hc with rfl|hc
    ·simp [C.ids] at hi;subst hi;simp
    ·have:=a3 c hc i hi;simp;omega
   ·by_cases hb1:b ∈ b1
    ·simp [hb1]
    ·simp only [hb1,if_false]
     have:=a4 b ((List.mem_append.1 hb).resolve_left hb1)
     simp;omega
   ·obtain ⟨x1,x2⟩:=a5 M hF (hsh hm) (λ b hb'=>(hg b (List.mem_append.2 (.inr hb'))).trans (if_neg (λ hb1=>n3 b hb1 b hb' rfl)))
    refine ⟨by simp only [By,List.map_cons,C.den];rw [x1,hm0 hm],λ i E hE=>?_⟩
    simp only [Jb,AQ] at hE
    split at hE
    ·rename_i e'
     subst e'
     obtain rfl:=Option.some.inj hE
     refine ⟨by simp,⟨rv,by rw [hm0 hm];exact v1,v2,v3,λ k hk=>⟨_,v4 k hk,hF⟩,λ b hb'=>?_⟩,by simp [En.ids]⟩
     rw [hm0 hm] at hb'
     exact ⟨hb b (List.mem_append.2 (.inl (v5 b hb'))),(hg b (List.mem_append.2 (.inl (v5 b hb')))).trans (if_pos (v5 b hb'))⟩
    ·obtain ⟨e1,e2⟩:=x2 i E hE
     exact ⟨by simp;omega,e2⟩
  | view e ts rows=>
   simp only [BP] at h
   obtain ⟨h1,h⟩:=h
   obtain ⟨a1,a3,g,a4,a5⟩:=Kh (nx:=nx+1) h hn hb
   refine ⟨by simp [a1],λ c hc i hi=>?_,g,λ b hb=>by have:=a4 b hb;simp;omega,λ M hF hm hg=>?_⟩
   ·simp only [By,List.mem_cons] at hc
    rcases hc with rfl|hc
    ·simp [C.ids] at hi;subst hi;simp
    ·have:=a3 c hc i hi;simp;omega
   ·obtain ⟨x1,x2⟩:=a5 M hF (hsh hm) hg
    refine ⟨by simp only [By,List.map_cons,C.den];rw [x1,hm0 hm],λ i E hE=>?_⟩
    simp only [Jb,AQ] at hE
    split at hE
    ·rename_i e'
     subst e'
     obtain rfl:=Option.some.inj hE
     exact ⟨by simp,⟨_,by rw [hm0 hm];exact h1,hF⟩,by simp [En.ids]⟩
    ·obtain ⟨e1,e2⟩:=x2 i E hE
     exact ⟨by simp;omega,e2⟩
theorem Ra {gone:List Nat} {new:List (List (List Dat))} : ∀ {ks:List Nat} {j0 i:Nat} {E:En},lkp (TZ s gone new ks j0) i=some E->∃ j,ks[j]?=some i/\E=(match AAp gone (j0+j) with|true=>.dead|false=>match lkp s.en i with|some (.own e ts _)=>.own e ts (new.getD (j0+j) [])|_=>.dead)
 | [],j0,i,E,h=>by simp [TZ,lkp] at h
 | k::ks,j0,i,E,h=>by
  simp only [TZ,AQ] at h
  split at h
  ·rename_i e
   subst e
   obtain rfl:=Option.some.inj h
   exact ⟨0,rfl,rfl⟩
  ·obtain ⟨j,h1,h2⟩:=Ra h
   exact ⟨j+1,by simpa using h1,by rw [h2,Nat.add_assoc,Nat.add_comm 1]⟩
theorem Ow {α:Type} : ∀ {l:List α} {x:α} {i j:Nat},l.Nodup->l[i]?=some x->l[j]?=some x->i=j
 | [],_,_,_,_,h,_=>by simp at h
 | y::r,x,i,j,hn,h,k=>by
  obtain ⟨n1,n2⟩:=List.nodup_cons.1 hn
  cases i with
  | zero=>
   cases j with
   | zero=>rfl
   | succ j=>simp at h k;subst h;exact absurd (List.mem_of_getElem? k) n1
  | succ i=>
   cases j with
   | zero=>simp at h k;subst k;exact absurd (List.mem_of_getElem? h) n1
   | succ j=>exact congrArg (· + 1) (Ow n2 (x:=x) (i:=i) (j:=j) (by simpa using h) (by simpa using k))
theorem Rb {gone:List Nat} {new:List (List (List Dat))} : ∀ {ks:List Nat} {j0:Nat},(TZ s gone new ks j0).map (·.1)=ks
 | [],_=>rfl
 | k::ks,j0=>by simp [TZ,Rb (ks:=ks)]
def Ox (s:St) (c:C):Option (Nat×List T):=
 match c with
 | .clo g is=>some (g,is.map λ i=>.one (.one (.bp i 0)))
 | .clx g is=>some (g,is.map λ x=>.one (.one (if x.1=true then .bp x.2 0 else .ext x.2)))
 | .ext k=>
  match L5 s k with
  | some (.fn g caps)=>some (g,(List.range caps.length).map λ j=>.one (.one (.cp k j)))
  | _=>none
 | _=>none
theorem Rc (h:R Γ n w0 al s m a w) {c:C} {g:Nat} {ext:List T} (hx:Ox s c=some (g,ext)):c.den m=.func (.func g) #[] (ext.map (T.den m)).toArray:=by
 unfold Ox at hx
 split at hx
 ·simp only [Option.some.injEq,Prod.mk.injEq] at hx
  obtain ⟨rfl,rfl⟩:=hx
  simp only [C.den,List.map_map]
  rfl
 ·simp only [Option.some.injEq,Prod.mk.injEq] at hx
  obtain ⟨rfl,rfl⟩:=hx
  simp only [C.den,List.map_map]
  congr 2
  refine List.map_congr_left λ x _=>?_
  unfold OL
  simp only [Function.comp,T.den,A.den]
  split <;> rfl
 ·split at hx
  ·rename_i k _ g' caps hk
   simp only [Option.some.injEq,Prod.mk.injEq] at hx
   obtain ⟨rfl,rfl⟩:=hx
   obtain ⟨⟨ps,q1,q2,q3⟩,-⟩:=EJ h hk
   simp only [C.den,List.map_map,q1]
   have:ps=(List.range caps.length).map (T.den m∘λ j=>T.one (A.one (C.cp k j))):=by
    apply List.ext_getElem?
    intro j
    by_cases hj:j<ps.length
    ·rw [List.getElem?_map,List.getElem?_range (by omega),List.getElem?_eq_getElem hj]
     simp [T.den,A.den,C.den,Xs,q1,Array.getD_eq_getD_getElem?,hj]
    ·rw [List.getElem?_eq_none (by omega),List.getElem?_eq_none (by simp;omega)]
   rw [← this]
  ·cases hx
 ·cases hx
theorem Fp.nested {w:World} {e:Nat} {ts:List Ty} {L:List (List Dat)} {g len cap j c:Nat} {t:Ty} {bs:List Nat} (h:Fp w (.sl e ts) (.sl L) (.slice (some ⟨g,0,none⟩) len cap) bs) (hn:bs.Nodup) (hj:j<L.length) (hc:ts[c]?=some t) :
  ∃ v b2,w.cell? ⟨g,j*ts.length+c,none⟩=some v/\Fp w t ((L.getD j []).getD c (.int 0)) v b2/\b2.Nodup/\(∀ b ∈ b2,b ∈ bs) /\
   ∀ w' d',OnlyIn (λ b=>b ∈ b2) w w'->Fp w' t d' v b2->Fp w' (.sl e ts) (.sl (L.set j ((L.getD j []).set c d'))) (.slice (some ⟨g,0,none⟩) len cap) bs:=by
 obtain ⟨row,bj,h1,h2,h3,h4,h5,h6,h7,h8⟩:=Fp.row h hn hj
 have hl:=(RdRow.lens _ _ _ (FpRow.rd _ _ _ _ h3)).1
 have hcl:=(List.getElem?_eq_some_iff.1 hc).1
 have split:∀ {α:Type} (l:List α) (d x:α),c<l.length->l.take c++[x]++l.drop (c+1)=l.set c x:=λ l d x hx=>by
  rw [List.set_eq_take_append_cons_drop,if_pos hx];simp
 have e0:L.set j ((L.getD j []).take c++[(L.getD j []).getD c (.int 0)]++(L.getD j []).drop (c+1))=L:=by
  rw [split _ (.int 0) _ (by omega)]
  have key:∀ r:List Dat,c<r.length->r.set c (r.getD c (.int 0))=r:=λ r hr=>by simp [List.getD,hr]
  rw [key _ (by omega)];simp [List.getD,hj]
 have et:ts=ts.take c++[t]++ts.drop (c+1):=by
  rw [split ts .int t hcl]
  have:=(List.getElem?_eq_some_iff.1 hc).2
  rw [← this];simp
 have hlt:(ts.take c).length=c:=by simp;omega
 obtain ⟨v,b2,q1,q2,q3,q4,q5⟩:=Fp.nestedAt (ts.take c) t (ts.drop (c+1)) ((L.getD j []).take c) ((L.getD j []).getD c (.int 0)) ((L.getD j []).drop (c+1)) (by rw [e0];exact h) hn hj et (by rw [List.length_take,List.length_take];omega)
 rw [hlt] at q1
 refine ⟨v,b2,q1,q2,q3,q4,λ w' d' ho hf=>?_⟩
 have:=q5 w' d' ho hf
 rwa [split _ (.int 0) _ (by omega)] at this
theorem M9:∀ {ps:List Prop} {q:Prop},obs ps q->(∀ p ∈ ps,p)/\q
 | [],q,h=>⟨by simp,h⟩
 | p::r,q,h=>by
  obtain ⟨h1,h2⟩:=h
  obtain ⟨h3,h4⟩:=M9 h2
  refine ⟨λ x hx=>?_,h4⟩
  rcases List.mem_cons.1 hx with rfl|hx
  ·exact h1
  ·exact h3 x hx
theorem VB {na:Bool} {t:Ty} {k e:Nat} {ts:List Ty} {rows:List (List Dat)} {deps:List Nat} {d:DC} (hx:M6 na s t (.ext k)=some d) (hl:ET s k=some (e,ts,rows,deps)):d=.sl e ts rows:=by
 unfold M6 at hx
 simp only [hl,Option.some.injEq] at hx
 exact hx.symm
theorem X9 (h:R Γ n w0 al s m a w) {cells:List C} {p k:Nat} {ps:List Prop} {rw:List (List Dat)->List (List Dat)} {mk:List (List Dat)->En} (hx:X7 s cells p=some (k,ps,rw,mk)) (hps:∀ q ∈ ps,q) :
  ∃ (x e:Nat) (ts:List Ty) (rows:List (List Dat)) (bs:List Nat),cells[p]?=some (.ext x)/\ET s x=some (e,ts,rows,[k])/\Fp w (.sl e ts) (.sl rows) (m.ε x) bs/\bs.Nodup/\(∀ b ∈ bs,Γ.mine b/\m.π b=k)/\al k /\
   ∀ w' new,OnlyIn (λ b=>b ∈ bs) w w'->Fp w' (.sl e ts) (.sl new) (m.ε x) bs->EnAt Γ m w' k (mk (rw new))/\(mk (rw new)).ids=[]:=by
 unfold X7 at hx
 split at hx
 ·rename_i x hc
  split at hx
  ·rename_i e ts rows j hl
   simp only [Option.some.injEq,Prod.mk.injEq] at hx
   obtain ⟨rfl,rfl,rfl,rfl⟩:=hx
   obtain ⟨⟨h0,h1,h2,h3⟩,hal,-⟩:=h.en _ _ hl
   exact ⟨x,e,ts,rows,Γ.mb j,hc,by simp [ET,hl,En.sl],h1,h2,λ b hb=>⟨.inr ⟨j,hb⟩,h3 b hb⟩,hal,λ w' new _ hf=>⟨⟨h0,hf,h2,h3⟩,rfl⟩⟩
  ·rename_i e ts rows k' sz r c hl
   split at hx
   ·rename_i e0 ts0 rows0 j0 hl0
    split at hx
    ·rename_i e' ts' hts
     split at hx
     ·rename_i hcond
      simp only [Option.some.injEq,Prod.mk.injEq] at hx
      obtain ⟨rfl,rfl,rfl,rfl⟩:=hx
      simp only [Bool.and_eq_true,Nat.beq_eq] at hcond
      obtain ⟨⟨hsz,he⟩,hc2⟩:=hcond
      have hc2:=Ty.beqs_ok _ _ hc2
      subst hsz he hc2
      have hr:r<rows0.length:=hps _ (by simp)
      have hrow:rows=((rows0.getD r []).getD c (.int 0)).r:=hps _ (by simp)
      obtain ⟨⟨h0,h1,h2,h3⟩,hal,-⟩:=h.en _ _ hl0
      obtain ⟨⟨-,g,len,cap,g1,g2,g3⟩,-,-⟩:=h.en _ _ hl
      rw [g1] at h1
      obtain ⟨v,b2,q1,q2,q3,q4,q5⟩:=Fp.nested h1 h2 hr hts
      rw [q1] at g2
      obtain rfl:=Option.some.inj g2
      have hd:(rows0.getD r []).getD c (.int 0)=.sl rows:=by
       cases hd:(rows0.getD r []).getD c (.int 0) with
       | sl l=>rw [hrow,hd];rfl
       | _=>rw [hd] at q2;simp [Fp] at q2
      rw [hd] at q2
      refine ⟨x,e,ts,rows,b2,hc,by simp [ET,hl,En.sl],q2,q3,λ b hb=>⟨.inr ⟨j0,q4 b hb⟩,h3 b (q4 b hb)⟩,hal,λ w' new ho hf=>⟨⟨h0,?_,h2,h3⟩,rfl⟩⟩
      rw [g1]
      exact q5 w' (.sl new) ho hf
     ·cases hx
    ·cases hx
   ·cases hx
  ·cases hx
 ·cases hx
theorem Wa (hct:CTok P ct Γ.mono) (h:R Γ n w0 al s m a w) {f:Nat} {fo:Operand} {as:Array Operand} {tys0:Array Nat} {tys:List Nat} {ts ext:List T} {c:Con} {ds:List DA} {cells:List C} (ho:o.op=.call { callee:=.value fo,args:=as,argTypes:=tys0 }) (hfo:a.eval fo=.func (.func f) #[] (ext.map (T.den m)).toArray) (has:All2 (λ x t=>ev s x=some t) as.toList ts)
  (hokA:c.OkA P f/\(Γ.mono=true->c.mono=true)) (hds:Hn c.nilA tt s tys (ts++ext)=some (ds,cells)):Snd P Γ al fr m a w o (Kd tt s c ds cells):=by
 intro q hk Q
 unfold Kd at hk
 split at hk
 ·rename_i p hmu
  have hok:c.Ok P f/\(Γ.mono=true->c.mono=true):=⟨hokA.1.ok (by rw [hmu];simp),hokA.2⟩
  split at hk
  ·rename_i k ps rw mk hone
   split at hk
   ·rename_i hcond
    obtain ⟨i,rfl,hpre,hk⟩:=hk
    obtain ⟨hps,hk⟩:=M9 hk
    split at hk
    ·rename_i v hgone hr
     obtain ⟨d1,d2⟩:=Ho (m:=m) hds
     have hts:as.toList.map a.eval=ts.map (T.den m):=by
      clear hds d2 hk
      generalize as.toList=l at has
      induction has with
      | nil=>rfl
      | cons h1 _ ih=>simp [ih,(h.ev h1).1]
     obtain ⟨x,e,ts',rows,bs,c1,c2,c3,c4,c5,c6,c7⟩:=X9 h hone hps
     have hkd:k ∉ B9 s c.mu cells 0:=λ hm=>by
      rw [Bool.not_eq_true'] at hcond
      have:=List.any_eq_false.1 hcond k hm
      simp at this
     let F:Nat->Prop:=λ b=>Γ.may m (B9 s c.mu cells 0) b/\b<w.heap.size
     have hone' : ∀ {j q:Nat},c.mu[j]?=some q->j=0/\q=p:=λ {j q} hj=>by
      rw [hmu] at hj
      cases j with
      | zero=>exact ⟨rfl,by simpa using hj.symm⟩
      | succ j=>simp at hj
     have hargs:ArgsAt F w c.mu (λ _=>bs) ((c.args i).flatMap DA.cells) (cells.map (C.den m)):=by
      refine ⟨by simp [d1.len],λ b hb=>hb.2,λ p d u hd hu hp=>?_,λ j q hj=>?_,λ j1 j2 b hne h1 h2 hb1 hb2=>?_,λ j b hj hb hF=>?_,h.stood,λ j b hj hb hs=>?_⟩
      ·simp only [List.getElem?_map,Option.map_eq_some_iff] at hu
       obtain ⟨c0,hc0,rfl⟩:=hu
       obtain ⟨t,ht⟩:=d1.get hc0 hd
       have:=MJ h ht
       have hsub:∀ b,Γ.may m (B8 s c0) b/\b<w.heap.size->F b:=λ b hb=>⟨Co (EV (p0:=0) hc0 (by simpa using hp)) hb.1,hb.2⟩
       cases d with
       | im v=>exact this
       | sl e ts rows=>exact RdS.mono hsub _ _ _ this
       | ro d=>exact ROAt.mono hsub this
      ·obtain ⟨rfl,rfl⟩:=hone' hj
       have hlen:q<((c.args i).flatMap DA.cells).length:=by rw [← d1.len];exact (List.getElem?_eq_some_iff.1 c1).1
       obtain ⟨t,ht⟩:=d1.get c1 (List.getElem?_eq_getElem hlen)
       exact ⟨e,ts',rows,m.ε x,by rw [List.getElem?_eq_getElem hlen,VB ht c2],by simp [c1,C.den],c3,c4⟩
      ·rw [hmu] at h1 h2
       simp at h1 h2
       omega
      ·obtain ⟨e1,e2⟩:=c5 b hb
       rcases hF.1 with h1|h1|h1
       ·exact Γ.hG b h1 e1
       ·rw [e2] at h1;exact h.pos (h1.2 ▸ c6)
       ·rw [e2] at h1;exact hkd h1.2
      ·exact Γ.hst b hs (c5 b hb).1
     have hcalls:=hok.1.run hok.2 i hpre F w _ _ hargs
     obtain ⟨fn,e1,e2,e3⟩:=hok.1.enter
     have hexec:(execOp a.eval o).run P w=.ok (.enter f (BN (c.args i) (cells.map (C.den m))).toArray) w:=by
      have hmap:as.map a.eval++(ext.map (T.den m)).toArray=(BN (c.args i) (cells.map (C.den m))).toArray:=by
       apply Array.ext'
       rw [Array.toList_append,Array.toList_map,hts,← d2,List.map_append]
      simp only [execOp,ho,resolve,hfo,Deferred.ofValue,Sem.run_bind,Sem.run_pure,Result.andThen_ok,invoke,callFunc,program,Sem.run,e1,hmap,Array.empty_append]
      simp [e2,e3]
     unfold Oper.wp
     rw [hexec]
     simp only [Oper.upon]
     refine hcalls.mono ?_
     rintro e w' ⟨rs,bs',rfl,hp,hdr⟩
     simp only
     have hres:=hp.res
     rw [hr] at hres ⊢
     obtain ⟨u,rfl⟩:∃ u,rs=[u]:=by
      cases rs with
      | nil=>simp [BP] at hres
      | cons u us=>
       cases us with
       | nil=>exact ⟨u,rfl⟩
       | cons _ _=>simp [BP] at hres
     simp only [BP] at hres
     obtain ⟨rfl,rfl⟩:=hres
     have hkeep:∀ b,b<w.heap.size->b ∉ bs->w'.heap[b]?=w.heap[b]?:=λ b hb h2=>hp.keep b hb λ _ _=>h2
     have hon:OnlyIn (λ b=>b ∈ bs) w w':=⟨hp.os,hp.tape,hp.output,hp.size,hkeep⟩
     have hturn:Fp w' (.sl e ts') (.sl ((c.new i).getD 0 [])) (m.ε x) bs:=by
      obtain ⟨e',t',r',u',q1,q2,-,-⟩:=hargs.own 0 p (by rw [hmu];rfl)
      have:=hp.turned 0 p e' t' r' u' (by rw [hgone];simp) (by rw [hmu];rfl) q1 q2
      have hlen:p<((c.args i).flatMap DA.cells).length:=(List.getElem?_eq_some_iff.1 q1).1
      obtain ⟨t,ht⟩:=d1.get c1 q1
      have ha:=VB ht c2
      simp only [DC.sl.injEq] at ha
      obtain ⟨rfl,rfl,rfl⟩:=ha
      simp only [List.getElem?_map,c1,Option.map_some,Option.some.injEq,C.den] at q2
      rw [q2];exact this
     obtain ⟨g1,g2⟩:=c7 w' _ hon hturn
     refine ⟨_,m,hk _ rfl,⟨rfl,λ _ _=>⟨rfl,rfl⟩,⟨hdr,hp.os,hp.tape,hp.output,hp.size,λ b hb=>hkeep b (Nat.lt_of_lt_of_le (Env.old hb) h.old) λ hm=>hb (c5 b hm).1⟩,λ b hb h2=>hkeep b hb λ hm=>?_,λ _ _ _=>rfl,λ z E hE=>?_,by simp [T.ids,A.ids,C.ids]⟩⟩
     ·obtain ⟨q1,q2⟩:=c5 b hm
      rcases h2 with h2|h2
      ·exact h2 q1
      ·exact h2 (by rw [q2];simp [Eff.us])
     ·rw [AQ] at hE
      split at hE
      ·rename_i ez
       subst ez
       obtain rfl:=Option.some.inj hE
       exact ⟨g1,.inl c6,by rw [g2];simp⟩
      ·simp [lkp] at hE
    ·exact hk.elim
   ·exact hk.elim
  ·exact hk.elim
 ·exact hk.elim
theorem Re (h:R Γ n w0 al s m a w):∀ {bx:List C} {pcs:List PC},RU s bx=some pcs->bx.length=pcs.length/\(∀ (q:Nat) (d:PC) (u:Value),pcs[q]?=some d->(bx.map (C.den m))[q]?=some u->X5 (λ b=>Γ.may m (CO s bx) b/\b<w.heap.size) w d u)/\∀ j ∈ CO s bx,al j
 | [],pcs,hx=>by simp only [RU,Option.some.injEq] at hx;subst hx;simp [CO]
 | c::bx,pcs,hx=>by
  simp only [RU] at hx
  split at hx
  ·rename_i d ds h1 h2
   obtain rfl:=Option.some.inj hx
   obtain ⟨i1,i2,i3⟩:=Re h h2
   have hsub:∀ j ∈ CO s bx,j ∈ CO s (c::bx):=λ j hj=>by
    cases c <;> simp only [CO] <;> first|exact List.mem_append.2 (.inr hj)|exact hj
   have hd:X5 (λ b=>Γ.may m (CO s (c::bx)) b/\b<w.heap.size) w d (c.den m)/\∀ j ∈ CO s [c],al j:=by
    unfold ADB at h1
    split at h1
    ·obtain rfl:=Option.some.inj h1
     exact ⟨rfl,by simp [CO]⟩
    ·rename_i k
     split at h1
     ·rename_i bs hk
      obtain rfl:=Option.some.inj h1
      have hr:=EJ h hk
      refine ⟨?_,λ j hj=>by simp only [CO,List.append_nil] at hj;exact hr.2.2 j hj⟩
      have:=ROAt.mono (G:=λ b=>Γ.may m (CO s (.ext k::bx)) b/\b<w.heap.size) (λ b hb=>⟨B0 (λ j hj=>by simp only [CO];exact List.mem_append.2 (.inl hj)) hb.1,hb.2⟩) hr.1
      exact this
     ·cases h1
    ·cases h1
   refine ⟨by simp [i1],λ q d' u hq hu=>?_,λ j hj=>?_⟩
   ·cases q with
    | zero=>
     simp at hq hu
     subst hq;subst hu
     exact hd.1
    | succ q=>
     have:=i2 q d' u (by simpa using hq) (by simpa using hu)
     cases d' with
     | im v=>exact this
     | bt bs=>exact ROAt.mono (d:=.bytes bs) (λ b hb=>⟨B0 hsub hb.1,hb.2⟩) this
   ·have:j ∈ CO s [c]∨j ∈ CO s bx:=by
     cases c <;> simp only [CO,List.append_nil,List.mem_append,List.not_mem_nil,false_or] at hj ⊢ <;> exact hj
    rcases this with hj|hj
    ·exact hd.2 j hj
    ·exact i3 j hj
  ·cases hx
theorem Ki {m M:Maps} : ∀ {pn:List PC} {bx:List C},(∀ c ∈ bx,c.den M=c.den m)->(F4 pn bx).map (C.den M)=Ix pn (bx.map (C.den m))
 | [],bx,h=>by
  cases bx <;> simp only [F4,Ix,List.map_nil]
  exact List.map_congr_left h
 | .im v::r,[],_=>rfl
 | .im v::r,c::cs,h=>by
  simp only [F4,Ix,List.map_cons,Ki λ c hc=>h c (List.mem_cons_of_mem _ hc)]
  rfl
 | .bt _::r,[],_=>rfl
 | .bt _::r,c::cs,h=>by
  simp only [F4,Ix,List.map_cons,Ki λ c hc=>h c (List.mem_cons_of_mem _ hc),h c (by simp)]
theorem Kj:∀ {pn:List PC} {bx:List C} {j:Nat},j ∈ (F4 pn bx).flatMap C.ids->j ∈ bx.flatMap C.ids
 | [],bx,j,h=>by cases bx <;> exact h
 | .im v::r,[],j,h=>by simp [F4] at h
 | .im v::r,c::cs,j,h=>by
  simp only [F4,List.flatMap_cons,C.ids,List.nil_append] at h ⊢
  exact List.mem_append.2 (.inr (Kj h))
 | .bt _::r,[],j,h=>by simp [F4] at h
 | .bt _::r,c::cs,j,h=>by
  simp only [F4,List.flatMap_cons] at h ⊢
  rcases List.mem_append.1 h with h|h
  ·exact List.mem_append.2 (.inl h)
  ·exact List.mem_append.2 (.inr (Kj h))
theorem Wb (hct:CTok P ct Γ.mono) (h:R Γ n w0 al s m a w) {f:Nat} {fo:Operand} {as:Array Operand} {tys0:Array Nat} {tys:List Nat} {ts ext:List T} {c:Con} {cs pn:c.ι->List PC} (ho:o.op=.call { callee:=.value fo,args:=as,argTypes:=tys0 }) (hfo:a.eval fo=.func (.func f) #[] (ext.map (T.den m)).toArray) (has:All2 (λ x t=>ev s x=some t) as.toList ts)
  (hokB:c.OkB P f/\(Γ.mono=true->c.mono=true)) (hptr:c.ptr=some (cs,pn)) (hal:∀ i,al i->¬ (nx<=i/\i<nx+32)) (hfr:∀ i,nx<=i->i<nx+32->fr i):Snd P Γ al fr m a w o (Ke tt s nx c cs pn tys (ts++ext)):=by
 intro q hk Q
 have hok:=hokB.1.p hptr
 generalize has0:ts++ext=all at hk
 unfold Ke at hk
 split at hk
 case h_2=>exact hk.elim
 rename_i t0 tys k as'
 split at hk
 case h_2=>exact hk.elim
 rename_i bx ds cells hbx hds
 split at hk
 case h_1=>exact hk.elim
 rename_i pcs hpcs
 split at hk
 case isFalse=>exact hk.elim
 rename_i hcond
 simp only [Bool.not_eq_true'] at hcond
 obtain ⟨i,rfl,rfl,hpre,hk⟩:=hk
 obtain ⟨d1,d2⟩:=Ho (m:=m) hds
 obtain ⟨p1,p2,p3⟩:=Re h hpcs
 have hts:as.toList.map a.eval=ts.map (T.den m):=by
  clear hk has0
  generalize as.toList=l at has
  induction has with
  | nil=>rfl
  | cons h1 _ ih=>simp [ih,(h.ev h1).1]
 obtain ⟨⟨b1,b2,e0,b3⟩,b4,b5⟩:=h.en _ _ hbx
 let deps:=CO s bx++B9 s [] cells 0
 let F:Nat->Prop:=λ b=>Γ.may m deps b/\b<w.heap.size
 have hkd:k ∉ deps:=λ hm=>by
  have:=List.any_eq_false.1 hcond k hm
  simp at this
 have hBlt:m.β k<w.heap.size:=(Array.getElem?_eq_some_iff.1 b3).1
 have hk0:k≠0:=λ e=>h.pos (e ▸ b4)
 have hargs:ArgsAt F w [] (λ _=>[]) ((c.args i).flatMap DA.cells) (cells.map (C.den m)):=by
  refine ⟨by simp [d1.len],λ b hb=>hb.2,λ p d u hd hu hp=>?_,λ j p hj=>by simp at hj,λ j1 j2 b hne h1=>by simp at h1,λ j b hj=>by simp at hj,h.stood,λ j b hj=>by simp at hj⟩
  simp only [List.getElem?_map,Option.map_eq_some_iff] at hu
  obtain ⟨c0,hc0,rfl⟩:=hu
  obtain ⟨t,ht⟩:=d1.get hc0 hd
  have:=MJ h ht
  have hsub:∀ b,Γ.may m (B8 s c0) b/\b<w.heap.size->F b:=λ b hb=>⟨B0 (λ j hj=>List.mem_append.2 (.inr (EV (p0:=0) hc0 (by simp) j hj))) hb.1,hb.2⟩
  cases d with
  | im v=>exact this
  | sl e ts rows=>exact RdS.mono hsub _ _ _ this
  | ro d=>exact ROAt.mono hsub this
 have hpin:PtrIn F w (cs i) (m.β k) (bx.map (C.den m)):=by
  refine ⟨λ hF=>?_,λ hs=>Γ.hst _ hs b1,⟨e0,b3⟩,by simpa using p1,λ q d u hq hu=>?_⟩
  ·rcases hF.1 with h1|h1|h1
   ·exact Γ.hG _ h1 b1
   ·rw [b2] at h1;exact hk0 h1.2
   ·rw [b2] at h1;exact hkd h1.2
  ·have:=p2 q d u hq hu
   cases d with
   | im v=>exact this
   | bt bs=>exact ROAt.mono (d:=.bytes bs) (λ b hb=>⟨B0 (λ j hj=>List.mem_append.2 (.inl hj)) hb.1,hb.2⟩) this
 have hcalls:=hok.calls i hpre F w _ _ _ hargs hpin
 obtain ⟨fn,e1,e2,e3⟩:=hok.enter
 have hexec:(execOp a.eval o).run P w=.ok (.enter f (.pointer (some ⟨m.β k,0,none⟩)::BN (c.args i) (cells.map (C.den m))).toArray) w:=by
  have hmap:as.map a.eval++(ext.map (T.den m)).toArray=(.pointer (some ⟨m.β k,0,none⟩)::BN (c.args i) (cells.map (C.den m))).toArray:=by
   apply Array.ext'
   rw [Array.toList_append,Array.toList_map,hts,← d2]
   show ts.map (T.den m)++ext.map (T.den m)=_
   rw [← List.map_append,has0]
   rfl
  simp only [execOp,ho,resolve,hfo,Deferred.ofValue,Sem.run_bind,Sem.run_pure,Result.andThen_ok,invoke,callFunc,program,Sem.run,e1,hmap,Array.empty_append]
  simp [e2,e3]
 unfold Oper.wp
 rw [hexec]
 simp only [Oper.upon]
 refine hcalls.mono ?_
 rintro e w' ⟨rs,bs,rfl,hp,hdr⟩
 simp only
 have hsm:=hok.small i
 let N:=(c.res i).cells.length
 have hbase:∀ b ∈ bs,Γ.mine b:=λ b hb=>.inl (Nat.le_trans h.old (hp.fresh b hb))
 obtain ⟨r1,r2,g,r3,r4⟩:=Kh (Γ:=Γ) (deps:=deps) (nx:=nx) hp.res hp.nd hbase
 let π' : Nat->Nat:=λ b=>if b ∈ bs then g b else if b<w.heap.size then m.π b else 0
 let M:Maps:=⟨m.β,λ j=>if nx<=j/\j<nx+N then rs.getD (j-nx) undef else m.ε j,π'⟩
 have hnb:∀ b,b<w.heap.size->b ∉ bs:=λ b hb hx=>by have:=hp.fresh b hx;omega
 have hπ:∀ b,b<w.heap.size->π' b=m.π b:=λ b hb=>by simp only [π',if_neg (hnb b hb),if_pos hb]
 have hview:∀ b,F b∨(w.heap.size<=b/\b ∉ bs)->Γ.may M deps b:=by
  intro b hb
  rcases hb with ⟨hb,hlt⟩|⟨hb,hx⟩
  ·have e:M.π b=m.π b:=hπ b hlt
   rcases hb with h1|h1|h1
   ·exact .inl h1
   ·exact .inr (.inl ⟨h1.1,by rw [e];exact h1.2⟩)
   ·exact .inr (.inr ⟨h1.1,by rw [e];exact h1.2⟩)
  ·exact .inr (.inl ⟨.inl (Nat.le_trans h.old hb),by show π' b=0;simp only [π',if_neg hx,if_neg (Nat.not_lt.2 hb)]⟩)
 obtain ⟨x1,x2⟩:=r4 M hview (λ q hq=>by
  show (if nx<=nx+q/\nx+q<nx+N then rs.getD (nx+q-nx) undef else m.ε (nx+q))=_
  rw [if_pos ⟨by omega,by omega⟩,Nat.add_sub_cancel_left]) (λ b hb=>by show π' b=_;simp only [π',if_pos hb])
 have hsame:Maps.same al m M:=λ j hj=>⟨rfl,if_neg (by have:=hal j hj;omega)⟩
 have hkeep:∀ b,b<w.heap.size->(¬ Γ.mine b∨m.π b≠k)->w'.heap[b]?=w.heap[b]?:=λ b hb h2=>hp.keep b hb λ e=>by
  subst e
  rcases h2 with h2|h2
  ·exact h2 b1
  ·exact h2 b2
 have hku:k ∈ (⟨(c.res i).t (By (c.res i).cells nx),Jb deps (c.res i).cells nx++[(k,.box (F4 (pn i) bx))]⟩:Eff).us:=by
  simp [Eff.us]
 refine ⟨_,M,hk,⟨?_,hsame,?_,λ b hb h2=>hkeep b hb (h2.imp id λ hx e=>hx (e ▸ hku)),λ b hb hu=>hπ b hb,λ j E hE=>?_,λ j hj=>?_⟩⟩
 ·simp only [RT.t_den,x1]
 ·exact ⟨λ hm=>hdr (hokB.2 hm),hp.os,hp.tape,hp.output,hp.size,λ b hb=>by
   by_cases hlt:b<w.heap.size
   ·exact hkeep b hlt (.inl hb)
   ·exact absurd (.inl (Nat.le_trans h.old (Nat.not_lt.1 hlt))) hb⟩
 ·simp only [DS] at hE
  cases hl:lkp (Jb deps (c.res i).cells nx) j with
  | some E'=>
   rw [hl] at hE
   obtain rfl:=Option.some.inj hE
   obtain ⟨e1,e2,e3⟩:=x2 j E' hl
   refine ⟨e2,.inr (hfr j e1.1 (by omega)),λ j' hj'=>.inl ?_⟩
   rcases List.mem_append.1 (e3 j' hj') with hj' | hj'
   ·exact p3 j' hj'
   ·exact I8 h hj'
  | none=>
   rw [hl,Option.none_or,AQ] at hE
   split at hE
   ·rename_i e
    subst e
    obtain rfl:=Option.some.inj hE
    have hden:∀ c0 ∈ bx,c0.den M=c0.den m:=λ c0 hc0=>C.den_same hsame λ j hj=>b5 j (List.mem_flatMap.2 ⟨c0,hc0,hj⟩)
    obtain ⟨t',ht'⟩:=hp.turned
    refine ⟨⟨b1,(hπ _ hBlt).trans b2,t',?_⟩,.inl b4,λ j' hj'=>.inl (b5 j' (Kj hj'))⟩
    rw [Ki hden];exact ht'
   ·simp [lkp] at hE
 ·obtain ⟨c',hc',hj⟩:=RT.t_ids hj
  have:=r2 c' hc' j hj
  exact .inr (hfr j this.1 (by omega))
theorem NA {M:Maps} {k:Nat} {v:Value} (hv:M.ε k=v):∀ l:List PC,(OQ k l).map (C.den M)=P5 v l
 | []=>rfl
 | .im x::r=>by simp only [OQ,P5,List.map_cons,NA hv r,C.den]
 | .bt _::r=>by simp only [OQ,P5,List.map_cons,NA hv r,C.den,hv]
theorem NB {k:Nat} : ∀ {l:List PC} {j:Nat},j ∈ (OQ k l).flatMap C.ids->j=k
 | [],j,h=>by simp [OQ] at h
 | .im x::r,j,h=>by
  simp only [OQ,List.flatMap_cons,C.ids,List.nil_append] at h
  exact NB h
 | .bt _::r,j,h=>by
  simp only [OQ,List.flatMap_cons,C.ids] at h
  rcases List.mem_append.1 h with h|h
  ·simpa using h
  ·exact NB h
theorem Wc (hct:CTok P ct Γ.mono) (h:R Γ n w0 al s m a w) {f:Nat} {fo:Operand} {as:Array Operand} {tys0:Array Nat} {tys:List Nat} {ts ext:List T} {c:Con} {pc:c.ι->List PC} (ho:o.op=.call { callee:=.value fo,args:=as,argTypes:=tys0 }) (hfo:a.eval fo=.func (.func f) #[] (ext.map (T.den m)).toArray) (has:All2 (λ x t=>ev s x=some t) as.toList ts)
  (hokB:c.OkB P f/\(Γ.mono=true->c.mono=true)) (hptr:c.ptr=none) (hnp:c.newp=some pc) (hal:∀ i,al i->¬ (nx<=i/\i<nx+32)) (hfr:∀ i,nx<=i->i<nx+32->fr i):Snd P Γ al fr m a w o (Kf tt s nx c pc tys (ts++ext)):=by
 intro q hk Q
 have hok:=hokB.1.n hptr hnp
 unfold Kf at hk
 split at hk
 case h_2=>exact hk.elim
 rename_i ds k cells hds
 split at hk
 case h_2=>exact hk.elim
 rename_i d0 hro
 obtain ⟨i,rfl,hpre,hk⟩:=hk
 obtain ⟨d1,d2⟩:=Ho (m:=m) hds
 have hak:=(EJ h hro).2.1
 have hts:as.toList.map a.eval=ts.map (T.den m):=by
  clear hk hds d2
  generalize as.toList=l at has
  induction has with
  | nil=>rfl
  | cons h1 _ ih=>simp [ih,(h.ev h1).1]
 let F:Nat->Prop:=λ b=>Γ.may m (B9 s [] (.ext k::cells) 0) b/\b<w.heap.size
 have hargs:ArgsAt F w [] (λ _=>[]) ((c.args i).flatMap DA.cells) ((C.ext k::cells).map (C.den m)):=by
  refine ⟨by rw [List.length_map];exact d1.len,λ b hb=>hb.2,λ p d u hd hu hp=>?_,λ j p hj=>by simp at hj,λ j1 j2 b hne h1=>by simp at h1,λ j b hj=>by simp at hj,h.stood,λ j b hj=>by simp at hj⟩
  rw [List.getElem?_map,Option.map_eq_some_iff] at hu
  obtain ⟨c0,hc0,rfl⟩:=hu
  obtain ⟨t,ht⟩:=d1.get hc0 hd
  have:=MJ h ht
  have hsub:∀ b,Γ.may m (B8 s c0) b/\b<w.heap.size->F b:=λ b hb=>⟨B0 (λ j hj=>EV (p0:=0) hc0 (by simp) j hj) hb.1,hb.2⟩
  cases d with
  | im v=>exact this
  | sl e ts rows=>exact RdS.mono hsub _ _ _ this
  | ro d=>exact ROAt.mono hsub this
 have hcalls:=hok.calls i hpre F w _ hargs
 obtain ⟨fn,e1,e2,e3⟩:=hok.enter
 have hexec:(execOp a.eval o).run P w=.ok (.enter f (BN (c.args i) ((C.ext k::cells).map (C.den m))).toArray) w:=by
  have hmap:as.map a.eval++(ext.map (T.den m)).toArray=(BN (c.args i) ((C.ext k::cells).map (C.den m))).toArray:=by
   apply Array.ext'
   rw [Array.toList_append,Array.toList_map,hts,← d2,List.map_append]
  simp only [execOp,ho,resolve,hfo,Deferred.ofValue,Sem.run_bind,Sem.run_pure,Result.andThen_ok,invoke,callFunc,program,Sem.run,e1,hmap,Array.empty_append]
  simp [e2,e3]
 unfold Oper.wp
 rw [hexec]
 simp only [Oper.upon]
 refine hcalls.mono ?_
 rintro e w' ⟨B,rfl,hp,hdr⟩
 simp only
 have hnal:∀ j,al j->j≠nx:=λ j hj e=>hal j hj (by omega)
 let M:Maps:=⟨λ j=>if j=nx then B else m.β j,m.ε,λ b=>if b=B then nx else if b<w.heap.size then m.π b else 0⟩
 have hsame:Maps.same al m M:=λ j hj=>⟨if_neg (hnal j hj),rfl⟩
 have hfresh:=hp.fresh
 refine ⟨_,M,hk,⟨?_,hsame,?_,λ b hb h2=>hp.keep b hb,λ b hb hu=>?_,λ j E hE=>?_,λ j hj=>?_⟩⟩
 ·simp only [T.den,A.den,C.den,M,if_pos]
 ·exact ⟨λ hm=>hdr (hokB.2 hm),hp.os,hp.tape,hp.output,hp.size,λ b hb=>hp.keep b (Nat.lt_of_lt_of_le (Env.old hb) h.old)⟩
 ·show (if b=B then nx else if b<w.heap.size then m.π b else 0)=m.π b
  rw [if_neg (by omega),if_pos hb]
 ·simp only [AQ] at hE
  split at hE
  ·rename_i e
   subst e
   obtain rfl:=Option.some.inj hE
   obtain ⟨t',ht'⟩:=hp.at_
   have hβ:M.β nx=B:=if_pos rfl
   refine ⟨⟨.inl (by rw [hβ];exact Nat.le_trans h.old hp.fresh),by rw [hβ];exact if_pos rfl,t',?_⟩,.inr (hfr _ (Nat.le_refl _) (by omega)),λ j' hj'=>.inl ?_⟩
   ·rw [hβ,NA (M:=M) (v:=((C.ext k::cells).map (C.den m)).headD undef) rfl];exact ht'
   ·rw [NB hj'];exact hak
  ·simp [lkp] at hE
 ·simp only [T.ids,A.ids,C.ids,List.mem_singleton] at hj
  subst hj
  exact .inr (hfr _ (Nat.le_refl _) (by omega))
theorem YA (hct:CTok P ct Γ.mono) (h:R Γ n w0 al s m a w) {f:Nat} {fo:Operand} {as:Array Operand} {tys0:Array Nat} {tys:List Nat} {ts ext:List T} (ho:o.op=.call { callee:=.value fo,args:=as,argTypes:=tys0 }) (hfo:a.eval fo=.func (.func f) #[] (ext.map (T.den m)).toArray) (has:All2 (λ x t=>ev s x=some t) as.toList ts)
  (hal:∀ i,al i->¬ (nx<=i/\i<nx+32)) (hfr:∀ i,nx<=i->i<nx+32->fr i):Snd P Γ al fr m a w o (Ou tt ct s nx f tys (ts++ext)):=by
 intro q hk Q
 unfold Ou at hk
 split at hk
 case h_1=>exact hk.elim
 rename_i c hc
 split at hk
 case h_1=>rename_i cs pn hptr;exact Wb hct h ho hfo has (MI hct hc) hptr hal hfr q hk Q
 rename_i hptr
 split at hk
 case h_1=>rename_i pc hnp;exact Wc hct h ho hfo has (MI hct hc) hptr hnp hal hfr q hk Q
 rename_i hnp
 have hokB:=MI hct hc
 have hok:c.OkA P f/\(Γ.mono=true->c.mono=true):=⟨hokB.1.a hptr hnp,hokB.2⟩
 clear hokB
 split at hk
 ·exact hk.elim
 ·rename_i ds cells hds
  split at hk
  ·exact Wa hct h ho hfo has hok hds q hk Q
  ·rename_i ks hks
   split at hk
   ·rename_i hcond
    simp only [Bool.and_eq_true,Bool.not_eq_true'] at hcond
    obtain ⟨hnd,hdisj⟩:=hcond
    have hnd:=Dc hnd
    obtain ⟨i,rfl,hpre,hk⟩:=hk
    obtain ⟨d1,d2⟩:=Ho (m:=m) hds
    obtain ⟨m1,m2⟩:=RZ hks
    have hts:as.toList.map a.eval=ts.map (T.den m):=by
     clear hc hds d2 hk
     generalize as.toList=l at has
     induction has with
     | nil=>rfl
     | cons h1 _ ih=>simp [ih,(h.ev h1).1]
    let deps:=B9 s c.mu cells 0
    let F:Nat->Prop:=λ b=>Γ.may m deps b/\b<w.heap.size
    have hkdeps:∀ k ∈ ks,k ∉ deps:=λ k hk hd=>by
     have:=List.any_eq_false.1 hdisj k hk
     exact this (List.any_eq_true.2 ⟨k,hd,by simp⟩)
    -- the blocks of what is turned
    obtain ⟨mb,hmb⟩:∃ mb:Nat->List Nat,∀ j k:Nat,ks[j]?=some k->∀ (e:Nat) (ts:List Ty) (rows:List (List Dat)),lkp s.en k=some (.own e ts rows)->Fp w (.sl e ts) (.sl rows) (m.ε k) (mb j)/\(mb j).Nodup/\∀ b ∈ mb j,Γ.mine b/\m.π b=k:=by
     have:∀ j:Nat,∃ bs:List Nat,∀ k:Nat,ks[j]?=some k->∀ (e:Nat) (ts:List Ty) (rows:List (List Dat)),lkp s.en k=some (.own e ts rows)->Fp w (.sl e ts) (.sl rows) (m.ε k) bs/\bs.Nodup/\∀ b ∈ bs,Γ.mine b/\m.π b=k:=λ j=>by
      cases hj:ks[j]? with
      | none=>exact ⟨[],by simp⟩
      | some k=>
       cases hl:lkp s.en k with
       | none=>exact ⟨[],λ k' hk' e ts rows hl'=>by simp at hk';subst hk';rw [hl] at hl';cases hl'⟩
       | some E=>
        cases E with
        | own e ts rows=>
         obtain ⟨bs,b1,b2,b3⟩:=(h.en _ _ hl).1
         exact ⟨bs,λ k' hk' e' ts' rows' hl'=>by simp at hk';subst hk';rw [hl] at hl';simp only [Option.some.injEq,En.own.injEq] at hl';obtain ⟨rfl,rfl,rfl⟩:=hl';exact ⟨b1,b2,b3⟩⟩
        | _=>exact ⟨[],λ k' hk' e ts rows hl'=>by simp at hk';subst hk';rw [hl] at hl';cases hl'⟩
     exact Classical.skolem.1 this
    have hmbk:∀ j,j<c.mu.length->∃ k,ks[j]?=some k/\al k/\∀ b ∈ mb j,Γ.mine b/\m.π b=k:=λ j hj=>by
     obtain ⟨k,e,ts,rows,k1,k2,k3⟩:=m2 j _ (List.getElem?_eq_getElem hj)
     exact ⟨k,k1,(h.en _ _ k3).2.1,(hmb j k k1 _ _ _ k3).2.2⟩
    have hargs:ArgsAt F w c.mu mb ((c.args i).flatMap DA.cells) (cells.map (C.den m)):=by
     refine ⟨by simp [d1.len],λ b hb=>hb.2,λ p d u hd hu hp=>?_,λ j p hj=>?_,λ j1 j2 b hne h1 h2 hb1 hb2=>?_,λ j b hj hb hF=>?_,h.stood,λ j b hj hb hs=>?_⟩
     ·simp only [List.getElem?_map,Option.map_eq_some_iff] at hu
      obtain ⟨c0,hc0,rfl⟩:=hu
      obtain ⟨t,ht⟩:=d1.get hc0 hd
      have:=MJ h ht
      have hsub:∀ b,Γ.may m (B8 s c0) b/\b<w.heap.size->F b:=λ b hb=>⟨Co (EV (p0:=0) hc0 (by simpa using hp)) hb.1,hb.2⟩
      cases d with
      | im v=>exact this
      | sl e ts rows=>exact RdS.mono hsub _ _ _ this
      | ro d=>exact ROAt.mono hsub this
     ·obtain ⟨k,e,ts,rows,k1,k2,k3⟩:=m2 j p hj
      have hb:=hmb j k k1 _ _ _ k3
      refine ⟨e,ts,rows,m.ε k,?_,by simp [k2,C.den],hb.1,hb.2.1⟩
      have hlen:p<((c.args i).flatMap DA.cells).length:=by rw [← d1.len];exact (List.getElem?_eq_some_iff.1 k2).1
      obtain ⟨t,ht⟩:=d1.get k2 (List.getElem?_eq_getElem hlen)
      rw [List.getElem?_eq_getElem hlen,RX ht k3]
     ·obtain ⟨k,k1,-,k2⟩:=hmbk j1 h1
      obtain ⟨k',k1',-,k2'⟩:=hmbk j2 h2
      have e1:=(k2 b hb1).2
      have e2:=(k2' b hb2).2
      rw [e1] at e2
      subst e2
      exact hne (Ow hnd k1 k1')
     ·obtain ⟨k,k1,k0,k2⟩:=hmbk j hj
      have hkm:k ∈ ks:=List.mem_of_getElem? k1
      obtain ⟨e1,e2⟩:=k2 b hb
      rcases hF.1 with h1|h1|h1
      ·exact Γ.hG b h1 e1
      ·rw [e2] at h1;exact h.pos (h1.2 ▸ k0)
      ·rw [e2] at h1;exact hkdeps k hkm h1.2
     ·obtain ⟨k,k1,k0,k2⟩:=hmbk j hj
      exact Γ.hst b hs (k2 b hb).1
    have hcalls:=hok.1.run hok.2 i hpre F w _ mb hargs
    obtain ⟨fn,e1,e2,e3⟩:=hok.1.enter
    have hexec:(execOp a.eval o).run P w=.ok (.enter f (BN (c.args i) (cells.map (C.den m))).toArray) w:=by
     have hmap:as.map a.eval++(ext.map (T.den m)).toArray=(BN (c.args i) (cells.map (C.den m))).toArray:=by
      apply Array.ext'
      rw [Array.toList_append,Array.toList_map,hts,← d2,List.map_append]
     simp only [execOp,ho,resolve,hfo,Deferred.ofValue,Sem.run_bind,Sem.run_pure,Result.andThen_ok,invoke,callFunc,program,Sem.run,e1,hmap,Array.empty_append]
     simp [e2,e3]
    unfold Oper.wp
    rw [hexec]
    simp only [Oper.upon]
    refine hcalls.mono ?_
    rintro e w' ⟨i1,hto,rs,bs,rfl,hp,hdr⟩
    simp only
    have hk:q (Fa s nx deps ks c.gone (c.res i1) (c.new i1)):=by
     unfold Con.to at hto
     cases halt:c.alt with
     | none=>rw [halt] at hk hto;subst hto;exact hk
     | some a=>rw [halt] at hk hto;exact hk i1 hto
    have hsm:=hok.1.small i1
    let N:=(c.res i1).cells.length
    have hbase:∀ b ∈ bs,Γ.mine b:=λ b hb=>by
     rcases hp.fresh b hb with h1|⟨j,_,hj,hbj⟩
     ·exact .inl (Nat.le_trans h.old h1)
     ·obtain ⟨k,-,-,k2⟩:=hmbk j hj
      exact (k2 b hbj).1
    obtain ⟨r1,r2,g,r3,r4⟩:=Kh (Γ:=Γ) (deps:=deps) (nx:=nx) hp.res hp.nd hbase
    let π' : Nat->Nat:=λ b=>if b ∈ bs then g b else if b<w.heap.size then m.π b else 0
    let M:Maps:=⟨m.β,λ j=>if nx<=j/\j<nx+N then rs.getD (j-nx) undef else m.ε j,π'⟩
    have hnb:∀ b,b<w.heap.size->m.π b ∉ ks->b ∉ bs:=λ b hb hk hx=>by
     rcases hp.fresh b hx with h1|⟨j,_,hj,hbj⟩
     ·omega
     ·obtain ⟨k,k1,-,k2⟩:=hmbk j hj
      exact hk ((k2 b hbj).2 ▸ List.mem_of_getElem? k1)
    have hπ:∀ b,b<w.heap.size->m.π b ∉ ks->π' b=m.π b:=λ b hb hk=>by simp only [π',if_neg (hnb b hb hk),if_pos hb]
    have hFk:∀ b,F b->Γ.mine b->m.π b ∉ ks:=λ b hF hb hk=>by
     rcases hF.1 with h1|h1|h1
     ·exact Γ.hG b h1 hb
     ·obtain ⟨j,hj⟩:=List.getElem?_of_mem hk
      have hjl:j<c.mu.length:=by rw [← m1];exact (List.getElem?_eq_some_iff.1 hj).1
      obtain ⟨k,k1,k0,-⟩:=hmbk j hjl
      rw [k1] at hj
      simp only [Option.some.injEq] at hj
      rw [h1.2] at hj
      exact h.pos (hj ▸ k0)
     ·exact hkdeps _ hk h1.2
    have hview:∀ b,F b∨(w.heap.size<=b/\b ∉ bs)->Γ.may M deps b:=by
     intro b hb
     rcases hb with ⟨hb,hlt⟩|⟨hb,hx⟩
     ·have e:Γ.mine b->M.π b=m.π b:=λ h0=>hπ b hlt (hFk b ⟨hb,hlt⟩ h0)
      rcases hb with h1|h1|h1
      ·exact .inl h1
      ·exact .inr (.inl ⟨h1.1,by rw [e h1.1];exact h1.2⟩)
      ·exact .inr (.inr ⟨h1.1,by rw [e h1.1];exact h1.2⟩)
     ·exact .inr (.inl ⟨.inl (Nat.le_trans h.old hb),by show π' b=0;simp only [π',if_neg hx,if_neg (Nat.not_lt.2 hb)]⟩)
    obtain ⟨x1,x2⟩:=r4 M hview (λ q hq=>by
     show (if nx<=nx+q/\nx+q<nx+N then rs.getD (nx+q-nx) undef else m.ε (nx+q))=_
     rw [if_pos ⟨by omega,by omega⟩,Nat.add_sub_cancel_left]) (λ b hb=>by show π' b=_;simp only [π',if_pos hb])
    have hsame:Maps.same al m M:=λ j hj=>⟨rfl,if_neg (by have:=hal j hj;omega)⟩
    have hus:∀ k ∈ ks,k ∈ (Fa s nx deps ks c.gone (c.res i1) (c.new i1)).us:=λ k hk=>by
     simp only [Eff.us,Fa,List.map_append,Rb]
     exact List.mem_append.2 (.inr hk)
    have hkeep:∀ b,b<w.heap.size->(¬ Γ.mine b∨m.π b ∉ ks)->w'.heap[b]?=w.heap[b]?:=λ b hb h2=>hp.keep b hb λ j hj hbj=>by
     obtain ⟨k,k1,-,k2⟩:=hmbk j hj
     have:=k2 b hbj
     rcases h2 with h2|h2
     ·exact h2 this.1
     ·exact h2 (this.2 ▸ List.mem_of_getElem? k1)
    refine ⟨Fa s nx deps ks c.gone (c.res i1) (c.new i1),M,hk,⟨?_,hsame,?_,λ b hb h2=>hkeep b hb (h2.imp id λ hx hy=>hx (hus _ hy)),λ b hb hu=>hπ b hb λ hk'=>hu (hus _ hk'),λ j E hE=>?_,λ j hj=>?_⟩⟩
    ·simp only [Fa,RT.t_den,x1]
    ·exact ⟨hdr,hp.os,hp.tape,hp.output,hp.size,λ b hb=>hkeep b (Nat.lt_of_lt_of_le (Env.old hb) h.old) (.inl hb)⟩
    ·simp only [Fa,DS] at hE
     cases hl:lkp (Jb deps (c.res i1).cells nx) j with
     | some E'=>
      rw [hl] at hE
      obtain rfl:=Option.some.inj hE
      obtain ⟨e1,e2,e3⟩:=x2 j E' hl
      exact ⟨e2,.inr (hfr j e1.1 (by omega)),λ j' hj'=>.inl (I8 h (e3 j' hj'))⟩
     | none=>
      rw [hl,Option.none_or] at hE
      obtain ⟨j',k1,rfl⟩:=Ra hE
      have hj' : j' < c.mu.length:=by rw [← m1];exact (List.getElem?_eq_some_iff.1 k1).1
      obtain ⟨k,e,ts,rows,k1',k2,k3⟩:=m2 j' _ (List.getElem?_eq_getElem hj')
      rw [k1] at k1'
      obtain rfl:=Option.some.inj k1'
      rw [k3]
      simp only [Nat.zero_add]
      obtain ⟨b1,b2,b3⟩:=hmb j' j k1 _ _ _ k3
      have hal':=(h.en _ _ k3).2.1
      cases hgone:AAp c.gone j' with
      | true=>exact ⟨trivial,.inl hal',by simp [En.ids]⟩
      | false=>
      have hgone:=TY hgone
      refine ⟨⟨mb j',?_,b2,λ b hb=>⟨(b3 b hb).1,?_⟩⟩,.inl hal',by simp [En.ids]⟩
      ·obtain ⟨e',ts',rows',u,q1,q2,-,-⟩:=hargs.own j' _ (List.getElem?_eq_getElem hj')
       have hu:u=m.ε j:=by
        simp only [List.getElem?_map,k2,Option.map_some,Option.some.injEq,C.den] at q2
        exact q2.symm
       have:=hp.turned j' _ e' ts' rows' u hgone (List.getElem?_eq_getElem hj') q1 q2
       rw [hu] at this
       rw [(hsame j hal').2]
       have hd:e'=e/\ts'=ts:=by
        obtain ⟨t,ht⟩:=d1.get k2 q1
        have:=RX ht k3
        simp only [DC.sl.injEq] at this
        exact ⟨this.1,this.2.1⟩
       rw [← hd.1,← hd.2];exact this
      ·show π' b=j
       have hlt:=Fp.lt _ _ _ _ b1 b hb
       have hnb:b ∉ bs:=λ hx=>by
        rcases hp.fresh b hx with h1|⟨j2,hj2,hl2,hb2⟩
        ·omega
        ·exact hargs.dis j' j2 b (λ e=>hgone (e ▸ hj2)) hj' hl2 hb hb2
       simp only [π',if_neg hnb,if_pos hlt]
       exact (b3 b hb).2
    ·obtain ⟨c',hc',hj⟩:=RT.t_ids hj
     have:=r2 c' hc' j hj
     exact .inr (hfr j this.1 (by omega))
   ·exact hk.elim
end
end Go.Proofs.YtkffpiaagjcmpaaGreat
namespace Go.Proofs.YtkffpiaagjcmpaaGreat
set_option linter.unusedVariables false
set_option linter.unusedSimpArgs false
open Go.RowKit
theorem FpRow.setAt {w:World} {d' : Dat} {c:Value} {b2:List Nat} : ∀ (ts:List Ty) (ds:List Dat) (vs:List Value) (bs:List Nat) (i:Nat),FpRow w ts ds vs bs->bs.Nodup->i<ts.length->Fp w (ts.getD i .int) d' c b2->b2.Nodup->(∀ b ∈ b2,b ∉ bs) ->
  ∃ bs',FpRow w ts (ds.set i d') (vs.set i c) bs'/\bs'.Nodup/\∀ b ∈ bs',b ∈ bs∨b ∈ b2
 | [],_,_,_,_,_,_,hi,_,_,_=>by simp at hi
 | t::ts,[],_,_,_,h,_,_,_,_,_=>by simp [FpRow] at h
 | t::ts,_::_,[],_,_,h,_,_,_,_,_=>by simp [FpRow] at h
 | t::ts,d::ds,v::vs,bs,0,h,hn,_,hf,h2,hd=>by
  simp only [List.getD_cons_zero,List.set_cons_zero,FpRow] at *
  obtain ⟨b1,b3,rfl,h1,h3⟩:=h
  have hn':=List.nodup_append.1 hn
  refine ⟨b2++b3,⟨b2,b3,rfl,hf,h3⟩,List.nodup_append.2 ⟨h2,hn'.2.1,λ a ha b hb e=>hd a ha (by subst e;simp [hb])⟩,λ b hb=>?_⟩
  rcases List.mem_append.1 hb with hb|hb
  ·exact .inr hb
  ·exact .inl (by simp [hb])
 | t::ts,d::ds,v::vs,bs,i+1,h,hn,hi,hf,h2,hd=>by
  simp only [List.getD_cons_succ,List.set_cons_succ,FpRow] at *
  obtain ⟨b1,b3,rfl,h1,h3⟩:=h
  have hn':=List.nodup_append.1 hn
  obtain ⟨bs',q1,q2,q3⟩:=FpRow.setAt ts ds vs b3 i h3 hn'.2.1 (by simpa using hi) hf h2 (λ b hb hb3=>hd b hb (by simp [hb3]))
  refine ⟨b1++bs',⟨b1,bs',rfl,h1,q1⟩,List.nodup_append.2 ⟨hn'.1,q2,λ a ha b hb e=>?_⟩,λ b hb=>?_⟩
  ·subst e
   rcases q3 a hb with hb|hb
   ·exact hn'.2.2 a ha a hb rfl
   ·exact hd a hb (by simp [ha])
  ·rcases List.mem_append.1 hb with hb|hb
   ·exact .inl (by simp [hb])
   ·rcases q3 b hb with hb|hb
    ·exact .inl (by simp [hb])
    ·exact .inr hb
theorem Oy {bss:List (List Nat)} {j:Nat} {bj:List Nat} (h:bss.flatten.Nodup) (hj:j<bss.length) (hb:bj.Nodup) (hd:∀ b ∈ bj,b ∈ bss.flatten->b ∈ bss.getD j []):(bss.set j bj).flatten.Nodup:=by
 refine List.pairwise_flatten.2 ⟨λ l hl=>?_,?_⟩
 ·rcases List.mem_or_eq_of_mem_set hl with hl|rfl
  ·exact (List.pairwise_flatten.1 h).1 l hl
  ·exact hb
 ·rw [List.pairwise_iff_getElem]
  intro a b ha hb' hab x hx y hy e
  subst e
  simp only [List.length_set] at ha hb'
  rw [List.getElem_set] at hx hy
  have key:∀ k,k<bss.length->k≠j->x ∈ bss.getD k []->x ∈ bj->False:=λ k hk hkj h1 h2=>by
   exact I3 h hkj h1 (hd x h2 (AO h1))
  have eg:∀ k (hk:k<bss.length),bss.getD k []=bss[k]:=λ k hk=>by simp [List.getD,hk]
  split at hx
  ·split at hy
   ·omega
   ·rename_i e1 e2;exact key b hb' (λ e=>e2 e.symm) (by rw [eg b hb'];exact hy) hx
  ·split at hy
   ·rename_i e1 e2;exact key a ha (λ e=>e1 e.symm) (by rw [eg a ha];exact hx) hy
   ·exact I3 h (Nat.ne_of_lt hab) (by rw [eg a ha];exact hx) (by rw [eg b hb'];exact hy)
theorem DP {bss:List (List Nat)} {j:Nat} {bj:List Nat} {b:Nat} (h:b ∈ (bss.set j bj).flatten):b ∈ bss.flatten∨b ∈ bj:=by
 obtain ⟨l,hl,hb⟩:=List.mem_flatten.1 h
 rcases List.mem_or_eq_of_mem_set hl with hl|rfl
 ·exact .inl (List.mem_flatten.2 ⟨l,hl,hb⟩)
 ·exact .inr hb
theorem Hp {sz:Nat} {row' : List Value} (hrl' : row'.length=sz):∀ (rows:List (List Value)) (j:Nat),(∀ r ∈ rows,r.length=sz)->j<rows.length->rows.flatten.take (j*sz)++row'++rows.flatten.drop (j*sz+row'.length)=(rows.set j row').flatten:=by
 intro rows
 induction rows with
 | nil=>intro j _ hj;simp at hj
 | cons x r ih=>
  intro j hr hj
  have hx:=hr x (by simp)
  cases j with
  | zero=>simp [hrl',hx]
  | succ j=>
   have:=ih j (λ q hq=>hr q (by simp [hq])) (by simpa using hj)
   simp only [List.flatten_cons,List.set_cons_succ,← this]
   rw [List.take_append,List.drop_append,List.take_of_length_le (by rw [hx,Nat.add_mul];omega),List.drop_of_length_le (by rw [hx,Nat.add_mul];omega)]
   have e1:(j+1)*sz-x.length=j*sz:=by rw [hx,Nat.add_mul];omega
   have e2:(j+1)*sz+row'.length-x.length=j*sz+row'.length:=by rw [hx,Nat.add_mul];omega
   rw [e1,e2]
   simp
theorem Fp.setCell {w:World} {e:Nat} {ts:List Ty} {L:List (List Dat)} {g len cap:Nat} {bs:List Nat} {j i:Nat} (h:Fp w (.sl e ts) (.sl L) (.slice (some ⟨g,0,none⟩) len cap) bs) (hn:bs.Nodup) (hj:j<L.length) (hi:i<ts.length)
  {d' : Dat} {c:Value} {b2:List Nat} (hf:Fp w (ts.getD i .int) d' c b2) (h2:b2.Nodup) (hd:∀ b ∈ b2,b ∉ bs) :
  ∃ bs',Fp (w.setCell ⟨g,j*ts.length+i,none⟩ c) (.sl e ts) (.sl (L.set j ((L.getD j []).set i d'))) (.slice (some ⟨g,0,none⟩) len cap) bs'/\bs'.Nodup/\∀ b ∈ bs',b ∈ bs∨b ∈ b2:=by
 simp only [Fp] at h
 obtain ⟨rows,bss,h1,h2',h3,h4,h5,rfl⟩:=h
 have hn':=hn
 simp only [Value.ownBlock,Option.toList_some,List.singleton_append,List.nodup_cons] at hn'
 have hsl:len=rows.length:=by
  rcases h1.2 with ⟨h,_⟩|⟨g',cap',cur,h,_⟩
  ·simp at h
  ·simp at h;exact h.2.1
 subst hsl
 have hrl:(rows.getD j []).length=ts.length:=h4 _ (by simp [List.getD,show j<rows.length by omega])
 have hxl:rows.flatten.length=rows.length*ts.length:=h1.1
 have hjl:j*ts.length+ts.length<=rows.length*ts.length:=by
  have:=Nat.mul_le_mul_right ts.length (show j+1<=rows.length by omega);rw [Nat.add_mul] at this;omega
 have hgb:g ∉ bss.flatten:=hn'.1
 have hg2:g ∉ b2:=λ hb=>hd g hb (by simp [Value.ownBlock])
 have hcell:∀ i,i<ts.length->w.cell? ⟨g,j*ts.length+i,none⟩=(rows.getD j [])[i]?:=λ i hi=>by
  rw [h1.cellAt _ (by omega)]
  have:=ES rows ts.length h4 (j*ts.length+i) (by rw [Nat.mul_comm,Nat.mul_add_div (by omega),Nat.div_eq_of_lt hi];omega) (Nat.mod_lt _ (by omega))
  rw [this,Nat.mul_comm,Nat.mul_add_div (by omega),Nat.div_eq_of_lt hi,Nat.mul_add_mod,Nat.mod_eq_of_lt hi,Nat.add_zero]
  simp only [List.getD,List.getElem?_eq_getElem (show i<(rows[j]?.getD []).length by have:=hrl;simp only [List.getD] at this;omega),Option.getD_some]
 have hst:=MG g (rows.getD j []) w (j*ts.length) i c (λ k hk=>hcell k (by omega)) (by omega)
 obtain ⟨bj',q1,q2,q3⟩:=FpRow.setAt ts _ _ _ i (h5 j hj) (Od hn'.2 j) hi hf h2 (λ b hb hb3=>hd b hb (List.mem_append.2 (.inr (AO hb3))))
 have hgj:g ∉ bj':=λ hb=>(q3 g hb).elim (λ h=>hgb (AO h)) hg2
 have ho:OnlyIn (λ b=>b=g) w (w.setCell ⟨g,j*ts.length+i,none⟩ c):=(OnlyIn.refl _ w).setCell (S:=λ b=>b=g) rfl c
 have hrl' : ((rows.getD j []).set i c).length=ts.length:=by rw [List.length_set];exact hrl
 refine ⟨[g]++(bss.set j bj').flatten,?_,?_,?_⟩
 ·simp only [Fp]
  refine ⟨rows.set j ((rows.getD j []).set i c),bss.set j bj',?_,by simp [h2'],by simp [h3],?_,?_,by simp [Value.ownBlock]⟩
  ·have o1:=Fz ((rows.getD j []).set i c) w (j*ts.length) rows.flatten h1 (by omega)
   rw [hst,Hp hrl' rows j h4 (by omega)] at o1
   simpa using o1
  ·intro r hr
   rcases List.mem_or_eq_of_mem_set hr with hr|rfl
   ·exact h4 r hr
   ·exact hrl'
  ·intro k hk
   simp only [List.length_set] at hk
   by_cases hkj:k=j
   ·subst hkj
    have e1:(L.set k ((L.getD k []).set i d')).getD k []=(L.getD k []).set i d':=by simp [List.getD,hk]
    have e2:(rows.set k ((rows.getD k []).set i c)).getD k []=(rows.getD k []).set i c:=by simp [List.getD,show k<rows.length by omega]
    have e3:(bss.set k bj').getD k []=bj':=by simp [List.getD,show k<bss.length by omega]
    rw [e1,e2,e3]
    exact FpRow.only ho _ _ _ _ q1 (λ b hb e=>hgj (e ▸ hb))
   ·have e1:(L.set j ((L.getD j []).set i d')).getD k []=L.getD k []:=by simp [List.getD,List.getElem?_set_ne (λ e=>hkj e.symm)]
    have e2:(rows.set j ((rows.getD j []).set i c)).getD k []=rows.getD k []:=by simp [List.getD,List.getElem?_set_ne (λ e=>hkj e.symm)]
    have e3:(bss.set j bj').getD k []=bss.getD k []:=by simp [List.getD,List.getElem?_set_ne (λ e=>hkj e.symm)]
    rw [e1,e2,e3]
    exact FpRow.only ho _ _ _ _ (h5 k hk) (λ b hb e=>hgb (AO (e ▸ hb)))
 ·simp only [List.singleton_append,List.nodup_cons]
  refine ⟨λ hb=>?_,Oy hn'.2 (by omega) q2 (λ b hb hb2=>?_)⟩
  ·rcases DP hb with hb|hb
   ·exact hgb hb
   ·exact hgj hb
  ·rcases q3 b hb with hb|hb
   ·exact hb
   ·exact absurd (List.mem_append.2 (.inr hb2)) (hd b hb)
 ·intro b hb
  simp only [List.singleton_append,List.mem_cons] at hb
  rcases hb with rfl|hb
  ·exact .inl (by simp [Value.ownBlock])
  ·rcases DP hb with hb|hb
   ·exact .inl (List.mem_append.2 (.inr hb))
   ·rcases q3 b hb with hb|hb
    ·exact .inl (List.mem_append.2 (.inr (AO hb)))
    ·exact .inr hb
end Go.Proofs.YtkffpiaagjcmpaaGreat
namespace Go.Proofs.YtkffpiaagjcmpaaGreat
set_option linter.unusedVariables false
set_option linter.unusedSimpArgs false
open Go.RowKit
theorem Fp.setRow {w:World} {e:Nat} {ts:List Ty} {L:List (List Dat)} {g len cap:Nat} {bs:List Nat} {j:Nat} (h:Fp w (.sl e ts) (.sl L) (.slice (some ⟨g,0,none⟩) len cap) bs) (hn:bs.Nodup) (hj:j<L.length)
  {ds:List Dat} {cs:List Value} {b2:List Nat} (hf:FpRow w ts ds cs b2) (h2:b2.Nodup) (hd:∀ b ∈ b2,b ∉ bs) :
  ∃ bs',Fp (stN w g (j*ts.length) cs) (.sl e ts) (.sl (L.set j ds)) (.slice (some ⟨g,0,none⟩) len cap) bs'/\bs'.Nodup/\∀ b ∈ bs',b ∈ bs∨b ∈ b2:=by
 simp only [Fp] at h
 obtain ⟨rows,bss,h1,h2',h3,h4,h5,rfl⟩:=h
 have hn':=hn
 simp only [Value.ownBlock,Option.toList_some,List.singleton_append,List.nodup_cons] at hn'
 have hsl:len=rows.length:=by
  rcases h1.2 with ⟨h,_⟩|⟨g',cap',cur,h,_⟩
  ·simp at h
  ·simp at h;exact h.2.1
 subst hsl
 have hrl' : cs.length=ts.length:=(RdRow.lens _ _ _ (FpRow.rd _ _ _ _ hf)).2
 have hxl:rows.flatten.length=rows.length*ts.length:=h1.1
 have hjl:j*ts.length+ts.length<=rows.length*ts.length:=by
  have:=Nat.mul_le_mul_right ts.length (show j+1<=rows.length by omega);rw [Nat.add_mul] at this;omega
 have hgb:g ∉ bss.flatten:=hn'.1
 have hg2:g ∉ b2:=λ hb=>hd g hb (by simp [Value.ownBlock])
 have ho:OnlyIn (λ b=>b=g) w (stN w g (j*ts.length) cs):=Hh g cs w _
 refine ⟨[g]++(bss.set j b2).flatten,?_,?_,?_⟩
 ·simp only [Fp]
  refine ⟨rows.set j cs,bss.set j b2,?_,by simp [h2'],by simp [h3],?_,?_,by simp [Value.ownBlock]⟩
  ·have o1:=Fz cs w (j*ts.length) rows.flatten h1 (by omega)
   rw [Hp hrl' rows j h4 (by omega)] at o1
   simpa using o1
  ·intro r hr
   rcases List.mem_or_eq_of_mem_set hr with hr|rfl
   ·exact h4 r hr
   ·exact hrl'
  ·intro k hk
   simp only [List.length_set] at hk
   by_cases hkj:k=j
   ·subst hkj
    have e1:(L.set k ds).getD k []=ds:=by simp [List.getD,hk]
    have e2:(rows.set k cs).getD k []=cs:=by simp [List.getD,show k<rows.length by omega]
    have e3:(bss.set k b2).getD k []=b2:=by simp [List.getD,show k<bss.length by omega]
    rw [e1,e2,e3]
    exact FpRow.only ho _ _ _ _ hf (λ b hb e=>hg2 (e ▸ hb))
   ·have e1:(L.set j ds).getD k []=L.getD k []:=by simp [List.getD,List.getElem?_set_ne (λ e=>hkj e.symm)]
    have e2:(rows.set j cs).getD k []=rows.getD k []:=by simp [List.getD,List.getElem?_set_ne (λ e=>hkj e.symm)]
    have e3:(bss.set j b2).getD k []=bss.getD k []:=by simp [List.getD,List.getElem?_set_ne (λ e=>hkj e.symm)]
    rw [e1,e2,e3]
    exact FpRow.only ho _ _ _ _ (h5 k hk) (λ b hb e=>hgb (AO (e ▸ hb)))
 ·simp only [List.singleton_append,List.nodup_cons]
  refine ⟨λ hb=>?_,Oy hn'.2 (by omega) h2 (λ b hb hb2=>absurd (List.mem_append.2 (.inr hb2)) (hd b hb))⟩
  rcases DP hb with hb|hb
  ·exact hgb hb
  ·exact hg2 hb
 ·intro b hb
  simp only [List.singleton_append,List.mem_cons] at hb
  rcases hb with rfl|hb
  ·exact .inl (by simp [Value.ownBlock])
  ·rcases DP hb with hb|hb
   ·exact .inl (List.mem_append.2 (.inr hb))
   ·exact .inr hb
theorem FB (P:Program) (g o:Nat):∀ (vs:List Value) (k:Nat) (w:World),(∀ i,i<vs.length->(w.cell? ⟨g,o+k+i,none⟩).isSome=true/\w.frozen? ⟨g,o+k+i,none⟩=false)->(∀ u ∈ vs,u.oneCell'=true) ->
  (storeCells ⟨g,o,none⟩ vs k).run P w=.ok () (stN w g (o+k) vs)
 | [],k,w,_,_=>by simp [storeCells,stN]
 | v::vs,k,w,hc,h1=>by
  have h0:=hc 0 (by simp)
  simp only [Nat.add_zero] at h0
  have hst:=run_store P w ⟨g,o+k,none⟩ v .plain (h1 v (by simp))
  obtain ⟨u,hu⟩:=Option.isSome_iff_exists.1 h0.1
  rw [hu] at hst
  simp only [h0.2,Bool.false_eq_true,if_false] at hst
  have hadd:(⟨g,o,none⟩:Addr).add k=⟨g,o+k,none⟩:=by
   unfold Addr.add;split
   ·rename_i h0;rw [h0];rfl
   ·simp
  have ih:=FB P g o vs (k+1) (w.setCell ⟨g,o+k,none⟩ v) (λ i hi=>by
   have hq:=hc (i+1) (by simpa using hi)
   rw [show o+k+(i+1)=o+(k+1)+i by omega] at hq
   have hne:(⟨g,o+(k+1)+i,none⟩:Addr)≠⟨g,o+k,none⟩:=λ e=>by injection e;omega
   refine ⟨?_,?_⟩
   ·rw [World.cell?_setCell_other _ _ _ _ (λ e=>hne e.symm)];exact hq.1
   ·have hz:=World.frozen?_setCells g [v] (o+k) w ⟨g,o+(k+1)+i,none⟩;simp only [World.setCells] at hz;rw [hz];exact hq.2) (λ u hu=>h1 u (by simp [hu]))
  simp only [storeCells,Sem.run_bind,hadd,hst,Result.andThen_ok,ih,stN]
  rw [show o+k+1=o+(k+1) by omega]
theorem Oz (g:Nat):∀ (cs:List Value) (w:World) (o:Nat),(stN w g o cs).drawn=w.drawn
 | [],_,_=>rfl
 | c::cs,w,o=>Oz g cs (w.setCell ⟨g,o,none⟩ c) (o+1)
def IJ (tt:TT) (s:St) (t k sz i j:Nat) (v:T) (q:Eff->Prop):Prop:=
 match lkp tt t,lkp s.en k,v.cs with
 | some ti,some (.own e ts rows),some c=>
  match Hk s ts c with
  | some (ds,ks)=>
   if (c.all (C.fit s) && Nat.beq ti.size ts.length && Nat.beq j 0 && Nat.beq sz ts.length && FA ks && !(ks.any (Nat.beq k)) && Nat.beq c.length ts.length)=true then
    i<rows.length/\q ⟨T.ofV undef,(k,.own e ts (rows.set i ds))::ks.map λ x=>(x,.dead)⟩
   else False
  | none=>False
 | _,_,_=>False
def ADC (tt:TT) (t:Nat):Bool:=
 match lkp tt t with
 | some ti=>Nat.beq ti.size 1
 | none=>true
def IK (tt:TT) (s:St) (t k sz i j:Nat) (v:T) (q:Eff->Prop):Prop:=
 match lkp tt t,lkp s.en k,v.cs with
 | some ti,some (.own e ts rows),some [c]=>
  match U8 s (ts.getD j .int) c with
  | some (d,ks)=>
   if (c.fit s && Nat.beq ti.size 1 && Nat.blt j ts.length && Nat.beq sz ts.length && !(ks.any (Nat.beq k)))=true then
    i<rows.length/\q ⟨T.ofV undef,(k,.own e ts (rows.set i ((rows.getD i []).set j d)))::ks.map λ x=>(x,.dead)⟩
   else False
  | none=>False
 | _,_,_=>False
section
variable {P : Program} {tt : TT} {Γ : Env} {n : Nat} {w0 : World} {al fr : Nat → Prop} {s : St} {m : Maps} {a : Act} {w : World} {nx : Nat} {o : Oper}
theorem Rf {ks:List Nat} {i:Nat} {E:En} (h:lkp (ks.map λ x=>(x,En.dead)) i=some E):E=.dead/\i ∈ ks:=by
 induction ks with
 | nil=>simp [lkp] at h
 | cons x r ih=>
  rw [List.map_cons,AQ] at h
  split at h
  ·rename_i e;subst e;obtain rfl:=Option.some.inj h;exact ⟨rfl,by simp⟩
  ·obtain ⟨h1,h2⟩:=ih h;exact ⟨h1,by simp [h2]⟩
theorem Tb (hT:TTok P tt) (h:R Γ n w0 al s m a w) {t k sz i j:Nat} {x y:Operand} {v:T} (ho:o.op=.store t x y) (hx:a.eval x=B6 (m.ε k) (i*sz+j)) (hy:a.eval y=v.den m) :
  Snd P Γ al fr m a w o (IK tt s t k sz i j v):=by
 intro q hq Q
 unfold IK at hq
 split at hq
 ·rename_i ti e ts rows c hti hk hc
  split at hq
  ·rename_i d ks hown
   split at hq
   ·rename_i hcond
    simp only [Bool.and_eq_true,Nat.beq_eq,Nat.blt_eq,Bool.not_eq_true'] at hcond
    obtain ⟨⟨⟨⟨hfit,hs1⟩,hj⟩,hsz⟩,hnk⟩:=hcond
    subst hsz
    have hnk:k ∉ ks:=λ hm=>by
     have:=List.any_eq_false.1 hnk k hm
     simp at this
    obtain ⟨hi,hq⟩:=hq
    obtain ⟨⟨bs,f1,f2,f3⟩,hak,-⟩:=h.en _ _ hk
    obtain ⟨⟨b2,g1,g2,g3⟩,hks⟩:=RH h hown
    obtain ⟨g,len,cap,he,hgb,hcell,hfro⟩:∃ g len cap,m.ε k=.slice (some ⟨g,0,none⟩) len cap/\g ∈ bs/\(w.cell? ⟨g,i*ts.length+j,none⟩).isSome=true/\w.frozen? ⟨g,i*ts.length+j,none⟩=false:=by
     have f1':=f1
     simp only [Fp] at f1'
     obtain ⟨rv,bss,o1,o2,o3,o4,o5,o6⟩:=f1'
     rcases o1.2 with ⟨e1,e2⟩|⟨g,cap,cur,e1,_⟩
     ·omega
     ·have f1'':=f1
      rw [e1] at f1''
      obtain ⟨row,bj,r1,r2,r3,r4,r5,r6,_⟩:=Fp.row f1'' f2 hi
      exact ⟨g,_,_,e1,r6,by rw [r1 j hj];rfl,r2 _⟩
    rw [he] at f1
    obtain ⟨bs',p1,p2,p3⟩:=Fp.setCell f1 f2 hi hj g1 g2 (λ b hb hb2=>hnk (by have:=(g3 b hb).2;rw [(f3 b hb2).2] at this;exact this))
    have hone:=h.fit hfit
    have hcs:=T.cs_cells hc (m:=m) (λ x hx=>by simp only [List.mem_singleton] at hx;subst hx;exact hone)
    have hg:=f3 g hgb
    refine Oper.wp_skip (w':=w.setCell ⟨g,i*ts.length+j,none⟩ (c.den m)) ?_ ⟨_,⟨m.β,m.ε,λ b=>if b ∈ bs' then k else m.π b⟩,hq,?_⟩
    ·have hst:=run_store P w ⟨g,i*ts.length+j,none⟩ (c.den m) .plain hone
     obtain ⟨u,hu⟩:=Option.isSome_iff_exists.1 hcell
     rw [hu] at hst
     simp only [hfro,Bool.false_eq_true,if_false] at hst
     have hadd:(⟨g,0,none⟩:Addr).add (i*ts.length+j)=⟨g,i*ts.length+j,none⟩:=by
      unfold Addr.add;split
      ·rename_i h0;rw [h0]
      ·simp
     have hadd0:(⟨g,i*ts.length+j,none⟩:Addr).add 0=⟨g,i*ts.length+j,none⟩:=rfl
     simp only [execOp,ho,Sem.run_bind,Sem.run_pure,hx,hy,he,B6,hadd,Instr.storeAt,Instr.sureAddr,storeVar,Result.andThen_ok,(hT _ _ hti).sizeOf,hcs]
     rw [if_neg (by simp [hs1])]
     simp [storeCells,hadd0,hst]
    ·have hus:∀ b,b ∈ bs'->m.π b ∈ (k::ks):=λ b hb=>by
      rcases p3 b hb with hb|hb
      ·rw [(f3 b hb).2];simp
      ·have:=(g3 b hb).2;simp [this]
     have heus:Eff.us ⟨T.ofV undef,(k,En.own e ts (rows.set i ((rows.getD i []).set j d)))::ks.map λ x=>(x,En.dead)⟩=k::ks:=by
      simp [Eff.us,List.map_map,Function.comp_def]
     refine ⟨rfl,λ _ _=>⟨rfl,rfl⟩,⟨λ _=>Nat.le_refl _,rfl,rfl,rfl,by simp [World.setCell],λ b hb=>Below.heap_setCell _ _ _ _ (λ e=>by simp only at e;exact hb (e ▸ hg.1))⟩,?_,?_,?_,by simp [T.ofV,T.ids,A.ids,C.ids]⟩
     ·intro b hb hb2
      refine Below.heap_setCell _ _ _ _ (λ e=>?_)
      simp only at e
      subst e
      rw [heus] at hb2
      rcases hb2 with hb2|hb2
      ·exact hb2 hg.1
      ·exact hb2 (by rw [hg.2];simp)
     ·intro b hb hb2
      rw [heus] at hb2
      exact if_neg λ hm=>hb2 (hus b hm)
     ·intro z E hE
      rw [AQ] at hE
      split at hE
      ·rename_i ez
       subst ez
       obtain rfl:=Option.some.inj hE
       refine ⟨⟨bs',by simp only [he];exact p1,p2,λ b hb=>⟨?_,if_pos hb⟩⟩,.inl hak,by simp [En.ids]⟩
       rcases p3 b hb with hb|hb
       ·exact (f3 b hb).1
       ·exact (g3 b hb).1
      ·obtain ⟨rfl,hz⟩:=Rf hE
       exact ⟨trivial,.inl (hks z hz),by simp [En.ids]⟩
   ·exact hq.elim
  ·exact hq.elim
 ·exact hq.elim
theorem Tc (hT:TTok P tt) (h:R Γ n w0 al s m a w) {t k sz i j:Nat} {x y:Operand} {v:T} (ho:o.op=.store t x y) (hx:a.eval x=B6 (m.ε k) (i*sz+j)) (hy:a.eval y=v.den m) :
  Snd P Γ al fr m a w o (IJ tt s t k sz i j v):=by
 intro q hq Q
 unfold IJ at hq
 split at hq
 ·rename_i ti e ts rows c hti hk hc
  split at hq
  ·rename_i ds ks hown
   split at hq
   ·rename_i hcond
    simp only [Bool.and_eq_true,Nat.beq_eq,Bool.not_eq_true'] at hcond
    obtain ⟨⟨⟨⟨⟨⟨hfit,hs1⟩,hj⟩,hsz⟩,hnd⟩,hnk⟩,hcl⟩:=hcond
    subst hsz hj
    have hnk:k ∉ ks:=λ hm=>by
     have:=List.any_eq_false.1 hnk k hm
     simp at this
    obtain ⟨hi,hq⟩:=hq
    obtain ⟨⟨bs,f1,f2,f3⟩,hak,-⟩:=h.en _ _ hk
    obtain ⟨⟨b2,g1,g2,g3⟩,hks⟩:=KZ h hown (Dc hnd)
    have hfit:=λ x hx=>List.all_eq_true.1 hfit x hx
    have h1:∀ u ∈ c.map (C.den m),u.oneCell'=true:=λ u hu=>by
     obtain ⟨x,hx,rfl⟩:=List.mem_map.1 hu
     exact h.fit (hfit x hx)
    obtain ⟨g,len,cap,he,hgb,hcell⟩:∃ g len cap,m.ε k=.slice (some ⟨g,0,none⟩) len cap/\g ∈ bs/\∀ l,l<ts.length->(w.cell? ⟨g,i*ts.length+l,none⟩).isSome=true/\w.frozen? ⟨g,i*ts.length+l,none⟩=false:=by
     have f1':=f1
     simp only [Fp] at f1'
     obtain ⟨rv,bss,o1,o2,o3,o4,o5,o6⟩:=f1'
     rcases o1.2 with ⟨e1,e2⟩|⟨g,cap,cur,e1,_⟩
     ·omega
     ·have f1'':=f1
      rw [e1] at f1''
      obtain ⟨row,bj,r1,r2,r3,r4,r5,r6,_⟩:=Fp.row f1'' f2 hi
      exact ⟨g,_,_,e1,r6,λ l hl=>⟨by rw [r1 l hl];rfl,r2 _⟩⟩
    rw [he] at f1
    obtain ⟨bs',p1,p2,p3⟩:=Fp.setRow f1 f2 hi g1 g2 (λ b hb hb2=>hnk (by have:=(g3 b hb).2;rw [(f3 b hb2).2] at this;exact this))
    have hcs:=T.cs_cells hc (m:=m) λ x hx=>h.fit (hfit x hx)
    have hg:=f3 g hgb
    have hst:=FB P g (i*ts.length+0) (c.map (C.den m)) 0 w (λ l hl=>by simp only [Nat.add_zero];exact hcell l (by simpa [hcl] using hl)) h1
    simp only [Nat.add_zero] at hst
    refine Oper.wp_skip (w':=stN w g (i*ts.length) (c.map (C.den m))) ?_ ⟨_,⟨m.β,m.ε,λ b=>if b ∈ bs' then k else m.π b⟩,hq,?_⟩
    ·have hadd:(⟨g,0,none⟩:Addr).add (i*ts.length+0)=⟨g,i*ts.length,none⟩:=by
      unfold Addr.add;split
      ·rename_i h0;rw [Nat.add_zero] at h0;rw [h0]
      ·simp
     simp only [execOp,ho,Sem.run_bind,Sem.run_pure,hx,hy,he,B6,hadd,Instr.storeAt,Instr.sureAddr,storeVar,Result.andThen_ok,(hT _ _ hti).sizeOf,hcs]
     rw [if_neg (by simp [hs1,hcl])]
     rw [hst]
     rfl
    ·have hus:∀ b,b ∈ bs'->m.π b ∈ (k::ks):=λ b hb=>by
      rcases p3 b hb with hb|hb
      ·rw [(f3 b hb).2];simp
      ·have:=(g3 b hb).2;simp [this]
     have heus:Eff.us ⟨T.ofV undef,(k,En.own e ts (rows.set i ds))::ks.map λ x=>(x,En.dead)⟩=k::ks:=by
      simp [Eff.us,List.map_map,Function.comp_def]
     have hoi:=Hh g (c.map (C.den m)) w (i*ts.length)
     refine ⟨rfl,λ _ _=>⟨rfl,rfl⟩,⟨λ _=>Nat.le_of_eq (Oz g _ w _).symm,hoi.os,hoi.tape,hoi.output,hoi.size,λ b hb=>hoi.block b (Nat.lt_of_lt_of_le (Env.old hb) h.old) (λ e=>hb (e ▸ hg.1))⟩,?_,?_,?_,by simp [T.ofV,T.ids,A.ids,C.ids]⟩
     ·intro b hb hb2
      refine hoi.block b hb (λ e=>?_)
      subst e
      rw [heus] at hb2
      rcases hb2 with hb2|hb2
      ·exact hb2 hg.1
      ·exact hb2 (by rw [hg.2];simp)
     ·intro b hb hb2
      rw [heus] at hb2
      exact if_neg λ hm=>hb2 (hus b hm)
     ·intro z E hE
      rw [AQ] at hE
      split at hE
      ·rename_i ez
       subst ez
       obtain rfl:=Option.some.inj hE
       refine ⟨⟨bs',by simp only [he];exact p1,p2,λ b hb=>⟨?_,if_pos hb⟩⟩,.inl hak,by simp [En.ids]⟩
       rcases p3 b hb with hb|hb
       ·exact (f3 b hb).1
       ·exact (g3 b hb).1
      ·obtain ⟨rfl,hz⟩:=Rf hE
       exact ⟨trivial,.inl (hks z hz),by simp [En.ids]⟩
   ·exact hq.elim
  ·exact hq.elim
 ·exact hq.elim
end
end Go.Proofs.YtkffpiaagjcmpaaGreat
namespace Go.Proofs.YtkffpiaagjcmpaaGreat
set_option linter.unusedVariables false
set_option linter.unusedSimpArgs false
open Go.RowKit
def IL (tt:TT) (s:St) (t k sz i j:Nat) (v:T) (q:Eff->Prop):Prop:=
 match lkp tt t,lkp s.en k,v.cs with
 | some ti,some (.top e ts rows deps),some [c]=>
  match AAm s (ts.getD j .int) c with
  | some (d,ks)=>
   if (c.fit s && Nat.beq ti.size 1 && Nat.blt j ts.length && Nat.beq sz ts.length && !(ks.any (Nat.beq k)) && !(deps.any (Nat.beq k)))=true then
    i<rows.length/\q ⟨T.ofV undef,[(k,.top e ts (rows.set i ((rows.getD i []).set j d)) (deps++ks))]⟩
   else False
  | none=>False
 | _,_,_=>False
def ADD (s:St) (k:Nat):Bool:=
 match lkp s.en k with
 | some (.top _ _ _ _)=>true
 | _=>false
def ADh (s:St) (k:Nat):Bool:=
 match lkp s.en k with
 | some (.mu _ _ _ _)=>true
 | _=>false
def YB:T->Ty->Option (Dat×Value)
 | .one (.one (.im (.int .i64 n))),.int=>some (.int n,.int .i64 n)
 | .one (.one (.im (.bool b))),.bool=>some (.bool b,.bool b)
 | .one (.one (.im (.string b))),.str=>some (.str b,.string b)
 | _,_=>none
def IM (tt:TT) (s:St) (t k sz i j:Nat) (v:T) (q:Eff->Prop):Prop:=
 match lkp tt t,lkp s.en k with
 | some ti,some (.mu e ts rows j0)=>
  match YB v (ts.getD j .int) with
  | some (d,_)=>
   if (Nat.beq ti.size 1 && Nat.blt j ts.length && Nat.beq sz ts.length)=true then
    i<rows.length/\∀ R:List (List Dat),R=AC8 rows i j d->q ⟨T.ofV undef,[(k,.mu e ts R j0)]⟩
   else False
  | none=>False
 | _,_=>False
theorem RdRowS.setAt {F:Nat->Prop} {w:World} {d:Dat} {c:Value} : ∀ (ts:List Ty) (ds:List Dat) (vs:List Value) (i:Nat),RdRowS F w ts ds vs->i<ts.length->RdS F w (ts.getD i .int) d c->RdRowS F w ts (ds.set i d) (vs.set i c)
 | [],_,_,_,_,hi,_=>by simp at hi
 | t::ts,[],_,_,h,_,_=>by simp [RdRowS] at h
 | t::ts,_::_,[],_,h,_,_=>by simp [RdRowS] at h
 | t::ts,d0::ds,v::vs,0,h,_,hd=>by
  simp only [List.getD_cons_zero,List.set_cons_zero,RdRowS] at *
  exact ⟨hd,h.2⟩
 | t::ts,d0::ds,v::vs,i+1,h,hi,hd=>by
  simp only [List.getD_cons_succ,List.set_cons_succ,RdRowS] at *
  exact ⟨h.1,RdRowS.setAt ts ds vs i h.2 (by simpa using hi) hd⟩
section
variable {P : Program} {tt : TT} {Γ : Env} {n : Nat} {w0 : World} {al fr : Nat → Prop} {s : St} {m : Maps} {a : Act} {w : World} {nx : Nat} {o : Oper}
theorem YC {v:T} {t:Ty} {d:Dat} {u:Value} (h:YB v t=some (d,u)):t.leaf=true/\(∀ m:Maps,v.den m=u)/\v.ids=[]/\(∀ w,Fp w t d u [])/\u.oneCell'=true/\u.cells=#[u]:=by
 unfold YB at h
 split at h
 ·simp only [Option.some.injEq,Prod.mk.injEq] at h;obtain ⟨rfl,rfl⟩:=h;exact ⟨rfl,λ _=>rfl,rfl,λ w=>by simp [Fp],rfl,rfl⟩
 ·simp only [Option.some.injEq,Prod.mk.injEq] at h;obtain ⟨rfl,rfl⟩:=h;exact ⟨rfl,λ _=>rfl,rfl,λ w=>by simp [Fp],rfl,rfl⟩
 ·simp only [Option.some.injEq,Prod.mk.injEq] at h;obtain ⟨rfl,rfl⟩:=h;exact ⟨rfl,λ _=>rfl,rfl,λ w=>by simp [Fp],rfl,rfl⟩
 ·cases h
theorem Td (hT:TTok P tt) (h:R Γ n w0 al s m a w) {t k sz i j:Nat} {x y:Operand} {v:T} (ho:o.op=.store t x y) (hx:a.eval x=B6 (m.ε k) (i*sz+j)) (hy:a.eval y=v.den m) :
  Snd P Γ al fr m a w o (IM tt s t k sz i j v):=by
 intro q hq Q
 unfold IM at hq
 split at hq
 ·rename_i ti e ts rows j0 hti hk
  split at hq
  ·rename_i d u hd
   split at hq
   ·rename_i hcond
    simp only [Bool.and_eq_true,Nat.beq_eq,Nat.blt_eq] at hcond
    obtain ⟨⟨hs1,hj⟩,hsz⟩:=hcond
    subst hsz
    obtain ⟨l1,l2,l3,l4,l5,l6⟩:=YC hd
    rw [l2] at hy
    obtain ⟨hi,hq⟩:=hq
    obtain ⟨⟨f0,f1,f2,f3⟩,hak,-⟩:=h.en _ _ hk
    obtain ⟨g,cap,he,hgb⟩:∃ g cap,m.ε k=.slice (some ⟨g,0,none⟩) rows.length cap/\g ∈ Γ.mb j0:=by
     have f1':=f1
     simp only [Fp] at f1'
     obtain ⟨rv,bss,o1,o2,o3,o4,o5,o6⟩:=f1'
     rcases o1.2 with ⟨e1,e2⟩|⟨g,cap,cur,e1,_⟩
     ·omega
     ·exact ⟨g,cap,by rw [e1,o2],by rw [o6,e1];simp [Value.ownBlock]⟩
    rw [he] at f1
    obtain ⟨row,bj,r1,r2,r3,r4,r5,r6,_⟩:=Fp.row f1 f2 hi
    have hset:rows.set i (rows.getD i [])=rows:=by simp [List.getD,hi]
    have hfin:=Fp.leafAt (ld:=rows.getD i []) (by rw [hset];exact f1) f2 hi j hj (by simpa [List.getD,hj] using l1) d u (λ w'=>by simpa [List.getD,hj] using l4 w')
    have hcell:=r1 j hj
    have hst:=run_store P w ⟨g,i*ts.length+j,none⟩ u .plain l5
    rw [hcell] at hst
    simp only [r2,Bool.false_eq_true,if_false] at hst
    have hadd:(⟨g,0,none⟩:Addr).add (i*ts.length+j)=⟨g,i*ts.length+j,none⟩:=by
     unfold Addr.add;split
     ·rename_i h0;rw [h0]
     ·simp
    have hadd0:(⟨g,i*ts.length+j,none⟩:Addr).add 0=⟨g,i*ts.length+j,none⟩:=rfl
    refine Oper.wp_skip (w':=w.setCell ⟨g,i*ts.length+j,none⟩ u) ?_ ⟨_,m,hq _ rfl,?_⟩
    ·simp only [execOp,ho,Sem.run_bind,Sem.run_pure,hx,hy,he,B6,hadd,Instr.storeAt,Instr.sureAddr,storeVar,Result.andThen_ok,(hT _ _ hti).sizeOf,l6]
     rw [if_neg (by simp [hs1])]
     simp [storeCells,hadd0,hst]
    ·refine ⟨rfl,λ _ _=>⟨rfl,rfl⟩,⟨λ _=>Nat.le_refl _,rfl,rfl,rfl,by simp [World.setCell],λ b hb=>Below.heap_setCell _ _ _ _ (λ e=>by simp only at e;exact hb (e ▸ .inr ⟨j0,hgb⟩))⟩,?_,λ _ _ _=>rfl,?_,by simp [T.ofV,T.ids,A.ids,C.ids]⟩
     ·intro b hb hb2
      refine Below.heap_setCell _ _ _ _ (λ e=>?_)
      simp only at e
      subst e
      rcases hb2 with hb2|hb2
      ·exact hb2 (.inr ⟨j0,hgb⟩)
      ·exact hb2 (by rw [f3 _ hgb];simp [Eff.us])
     ·intro z E hE
      rw [AQ] at hE
      split at hE
      ·rename_i ez
       subst ez
       obtain rfl:=Option.some.inj hE
       exact ⟨⟨f0,by rw [he];exact hfin,f2,f3⟩,.inl hak,by simp [En.ids]⟩
      ·simp [lkp] at hE
   ·exact hq.elim
  ·exact hq.elim
 ·exact hq.elim
theorem Te (hT:TTok P tt) (h:R Γ n w0 al s m a w) {t k sz i j:Nat} {x y:Operand} {v:T} (ho:o.op=.store t x y) (hx:a.eval x=B6 (m.ε k) (i*sz+j)) (hy:a.eval y=v.den m) :
  Snd P Γ al fr m a w o (IL tt s t k sz i j v):=by
 intro q hq Q
 unfold IL at hq
 split at hq
 ·rename_i ti e ts rows deps c hti hk hc
  split at hq
  ·rename_i d ks hrd
   split at hq
   ·rename_i hcond
    simp only [Bool.and_eq_true,Nat.beq_eq,Nat.blt_eq,Bool.not_eq_true'] at hcond
    obtain ⟨⟨⟨⟨⟨hfit,hs1⟩,hj⟩,hsz⟩,hnk⟩,hnd⟩:=hcond
    subst hsz
    have hnot:∀ {l:List Nat},l.any (Nat.beq k)=false->k ∉ l:=λ hl hm=>by
     have:=List.any_eq_false.1 hl k hm
     simp at this
    have hnk:=hnot hnk
    have hnd:=hnot hnd
    obtain ⟨hi,hq⟩:=hq
    obtain ⟨⟨rv,v1,v2,v3,v4,v5⟩,hak,hde⟩:=h.en _ _ hk
    obtain ⟨hF2,hks⟩:=U9 h hrd
    have hk0:k≠0:=λ e=>h.pos (e ▸ hak)
    have hone:=h.fit hfit
    have hcs:=T.cs_cells hc (m:=m) (λ x hx=>by simp only [List.mem_singleton] at hx;subst hx;exact hone)
    obtain ⟨g,cap,he⟩:∃ g cap,m.ε k=.slice (some ⟨g,0,none⟩) rv.length cap:=by
     rcases v1.2 with ⟨e1,e2⟩|⟨g,cap,cur,e1,_⟩
     ·omega
     ·exact ⟨g,cap,e1⟩
    have hg:=v5 g (by rw [he];rfl)
    rw [he] at v1
    have hmay:∀ {l:List Nat},k ∉ l->∀ b,Γ.may m l b->b≠g:=λ hl b hm e=>by
     subst e
     rcases hm with h1|h1|h1
     ·exact Γ.hG b h1 hg.1
     ·rw [hg.2] at h1;exact hk0 h1.2
     ·rw [hg.2] at h1;exact hl h1.2
    have hxl:rv.flatten.length=rv.length*ts.length:=v1.1
    have hjl:i*ts.length+ts.length<=rv.length*ts.length:=by
     have:=Nat.mul_le_mul_right ts.length (show i+1<=rv.length by omega);rw [Nat.add_mul] at this;omega
    have hrl:(rv.getD i []).length=ts.length:=v3 _ (by simp [List.getD,show i<rv.length by omega])
    have hcell:∀ j,j<ts.length->w.cell? ⟨g,i*ts.length+j,none⟩=(rv.getD i [])[j]?:=λ j hj=>by
     rw [v1.cellAt _ (by omega)]
     have:=ES rv ts.length v3 (i*ts.length+j) (by rw [Nat.mul_comm,Nat.mul_add_div (by omega),Nat.div_eq_of_lt hj];omega) (Nat.mod_lt _ (by omega))
     rw [this,Nat.mul_comm,Nat.mul_add_div (by omega),Nat.div_eq_of_lt hj,Nat.mul_add_mod,Nat.mod_eq_of_lt hj,Nat.add_zero]
     simp only [List.getD,List.getElem?_eq_getElem (show j<(rv[i]?.getD []).length by have:=hrl;simp only [List.getD] at this;omega),Option.getD_some]
    have hst0:=MG g (rv.getD i []) w (i*ts.length) j (c.den m) (λ k hk=>hcell k (by omega)) (by omega)
    have hrl' : ((rv.getD i []).set j (c.den m)).length=ts.length:=by rw [List.length_set];exact hrl
    have hkeep:∀ b,b≠g->(w.setCell ⟨g,i*ts.length+j,none⟩ (c.den m)).heap[b]?=w.heap[b]?:=λ b hb=>Below.heap_setCell _ _ _ _ (λ e=>hb e)
    refine Oper.wp_skip (w':=w.setCell ⟨g,i*ts.length+j,none⟩ (c.den m)) ?_ ⟨_,m,hq,?_⟩
    ·have hst:=run_store P w ⟨g,i*ts.length+j,none⟩ (c.den m) .plain hone
     have hcell':=hcell j hj
     rw [List.getElem?_eq_getElem (show j<(rv.getD i []).length by omega)] at hcell'
     rw [hcell'] at hst
     simp only [v1.frozenAt,Bool.false_eq_true,if_false] at hst
     have hadd:(⟨g,0,none⟩:Addr).add (i*ts.length+j)=⟨g,i*ts.length+j,none⟩:=by
      unfold Addr.add;split
      ·rename_i h0;rw [h0]
      ·simp
     have hadd0:(⟨g,i*ts.length+j,none⟩:Addr).add 0=⟨g,i*ts.length+j,none⟩:=rfl
     simp only [execOp,ho,Sem.run_bind,Sem.run_pure,hx,hy,he,B6,hadd,Instr.storeAt,Instr.sureAddr,storeVar,Result.andThen_ok,(hT _ _ hti).sizeOf,hcs]
     rw [if_neg (by simp [hs1])]
     simp [storeCells,hadd0,hst]
    ·refine ⟨rfl,λ _ _=>⟨rfl,rfl⟩,⟨λ _=>Nat.le_refl _,rfl,rfl,rfl,by simp [World.setCell],λ b hb=>hkeep b (λ e=>hb (e ▸ hg.1))⟩,?_,λ _ _ _=>rfl,?_,by simp [T.ofV,T.ids,A.ids,C.ids]⟩
     ·intro b hb hb2
      refine hkeep b (λ e=>?_)
      subst e
      rcases hb2 with hb2|hb2
      ·exact hb2 hg.1
      ·exact hb2 (by rw [hg.2];simp [Eff.us])
     ·intro z E hE
      rw [AQ] at hE
      split at hE
      ·rename_i ez
       subst ez
       obtain rfl:=Option.some.inj hE
       refine ⟨⟨rv.set i ((rv.getD i []).set j (c.den m)),?_,by simp [v2],?_,?_,v5⟩,.inl hak,λ x hx=>?_⟩
       ·have o1:=Fz ((rv.getD i []).set j (c.den m)) w (i*ts.length) rv.flatten v1 (by omega)
        rw [hst0,Hp hrl' rv i v3 (by omega)] at o1
        rw [he]
        simpa using o1
       ·intro r hr
        rcases List.mem_or_eq_of_mem_set hr with hr|rfl
        ·exact v3 r hr
        ·exact hrl'
       ·intro l hl
        simp only [List.length_set] at hl
        obtain ⟨F,f1,f2⟩:=v4 l hl
        have hS:=λ (G:Nat->Prop) (hG:∀ b,G b->b≠g)=>λ b (_:b<w.heap.size) (hb:G b)=>hkeep b (hG b hb)
        have hsz:w.heap.size<=(w.setCell ⟨g,i*ts.length+j,none⟩ (c.den m)).heap.size:=by simp [World.setCell]
        have f1':=RdRowS.step hsz (hS F (λ b hb=>hmay hnd b (f2 b hb))) _ _ _ f1
        have f3:=RdS.step hsz (hS (Γ.may m ks) (λ b hb=>hmay hnk b hb)) _ _ _ hF2
        by_cases hli:l=i
        ·subst hli
         have e1:(rows.set l ((rows.getD l []).set j d)).getD l []=(rows.getD l []).set j d:=by simp [List.getD,hl]
         have e2:(rv.set l ((rv.getD l []).set j (c.den m))).getD l []=(rv.getD l []).set j (c.den m):=by simp [List.getD,show l<rv.length by omega]
         rw [e1,e2]
         refine ⟨λ b=>Γ.may m (deps++ks) b,RdRowS.setAt _ _ _ _ (RdRowS.mono (λ b hb=>Co (λ x hx=>List.mem_append.2 (.inl hx)) (f2 b hb.1)) _ _ _ f1') hj ?_,λ b hb=>hb⟩
         exact RdS.mono (λ b hb=>Co (λ x hx=>List.mem_append.2 (.inr hx)) hb.1) _ _ _ f3
        ·have e1:(rows.set i ((rows.getD i []).set j d)).getD l []=rows.getD l []:=by simp [List.getD,List.getElem?_set_ne (λ e=>hli e.symm)]
         have e2:(rv.set i ((rv.getD i []).set j (c.den m))).getD l []=rv.getD l []:=by simp [List.getD,List.getElem?_set_ne (λ e=>hli e.symm)]
         rw [e1,e2]
         exact ⟨_,f1',λ b hb=>Co (λ x hx=>List.mem_append.2 (.inl hx)) (f2 b hb.1)⟩
       ·simp only [En.ids,List.mem_append] at hx
        rcases hx with hx|hx
        ·exact .inl (hde x hx)
        ·exact .inl (hks x hx)
      ·simp [lkp] at hE
   ·exact hq.elim
  ·exact hq.elim
 ·exact hq.elim
end
end Go.Proofs.YtkffpiaagjcmpaaGreat
namespace Go.Proofs.YtkffpiaagjcmpaaGreat
set_option linter.unusedVariables false
set_option linter.unusedSimpArgs false
open Go.RowKit
def Jc (s:St) (x:Operand):Option Value:=(ev s x).bind T.im
def cOf (s:St) (x:Operand):Option C:=(ev s x).bind T.c?
def YD (s:St) (c a b:Operand):Option (Option Prop×T):=
 match Jc s c,Jc s a,Jc s b with
 | some (.bool t),some va,some vb=>some (none,T.ofV (match t with|true=>va|false=>vb))
 | _,_,_=>none
def P6 (tt:TT) (t:Nat):Bool:=
 match lkp tt t with
 | some { d:=.bool,.. }=>true
 | _=>false
def Tf (tt:TT) (s:St) (op:BinOp) (t:Nat) (x y:Operand):Option (Option Prop×T):=
 match Jc s x,Jc s y with
 | some (.bool a),some (.bool b)=>
  match P6 tt t,op with
  | true,.eql=>some (none,T.ofV (.bool (a == b)))
  | true,.neq=>some (none,T.ofV (.bool (a != b)))
  | _,_=>none
 | some a,some b=>(ACG op a b).map λ r=>(r.1,T.ofV r.2)
 | _,_=>none
def YE (s:St) (op:UnOp) (x:Operand):Option (Option Prop×T):=
 match Jc s x with
 | some a=>(xun op a).map λ r=>(none,T.ofV r)
 | none=>none
def NC (s:St) (x:Operand) (i:Nat):Option (Option Prop×T):=
 match ev s x with
 | some (.tup as)=>(as[i]?).map λ a=>(none,.one a)
 | _=>none
def Tg (tt:TT) (s:St) (t:Nat) (x:Operand) (f:Nat):Option (Option Prop×T):=
 match ev s x,RE tt t f with
 | some (.one (.agg cs)),some (o,ti)=>
  match sub cs o ti.size with
  | some c=>(T.ofCs ti.d.agg c).map (none,·)
  | none=>none
 | _,_=>none
def xfa (tt:TT) (s:St) (t:Nat) (x:Operand) (f:Nat):Option (Option Prop×T):=
 match cOf s x with
 | some (.ep k _ i _)=>
  match ET s k,E9 tt t (ev s x) f with
  | some (_,_,rows,_),some (none,v)=>some (some (i<rows.length),v)
  | _,_=>none
 | some (.ext k)=>AAn tt s t k 0 f
 | some (.pp k o)=>AAn tt s t k o f
 | _=>E9 tt t (ev s x) f
def ACI (s:St) (x:Operand):Option (Option Prop×T):=
 match cOf s x with
 | some (.bp i o)=>some (none,.one (.one (.bp i o)))
 | _=>none
def ACJ (tt:TT) (s:St) (t:Nat) (x:Operand):Option (Option Prop×T):=
 match cOf s x,lkp tt t with
 | some (.ext k),some { d:=.slice _,.. }=>
  match ET s k with
  | some (_,_,rows,_)=>some (none,T.ofV (.int .i64 (rows.length:Nat)))
  | none=>match L5 s k with
   | some (.bytes bs)=>some (none,T.ofV (.int .i64 (bs.length:Nat)))
   | _=>none
 | some (.im (.slice _ n _)),some { d:=.slice _,.. }=>some (none,T.ofV (.int .i64 (n:Nat)))
 | some (.im (.string b)),some { d:=.str,.. }=>some (none,T.ofV (.int .i64 (b.size:Nat)))
 | _,_=>none
def Th (tt:TT) (s:St) (t:Nat) (x i:Operand):Option (Option Prop×T):=
 match Jc s x,Jc s i,lkp tt t with
 | some (.string b),some (.int _ i),some { d:=.str,.. }=>some (some (0<=i/\i<(b.size:Int)),T.ofV (.int .u8 (b.get! i.toNat).toNat))
 | _,_,_=>none
def ACK (s:St) (x:Operand):Bool:=
 match ev s x with
 | some (.one (.agg _))=>true
 | _=>false
def evs (s:St):List Operand->Option (List T)
 | []=>some []
 | x::r=>
  match ev s x,evs s r with
  | some v,some vs=>some (v::vs)
  | _,_=>none
def O0 (mx:Bool) (s:St):List Operand->Option (Option Prop×T)
 | [x,y]=>
  match Jc s x,Jc s y with
  | some (.int k a),some (.int _ b)=>some (none,T.ofV (.int k (match mx with|true=>max a b|false=>min a b)))
  | _,_=>none
 | _=>none
def YF (tt:TT) (t:Nat):Bool:=
 match lkp tt t with
 | some { d:=.int .u8,size:=z,.. }=>Nat.beq z 1
 | _=>false
def VC (tt:TT) (t:Nat):Bool:=
 match lkp tt t with
 | some { d:=.str,.. }=>true
 | _=>false
def ND (tt:TT) (t:Nat):Option Nat:=
 match F1 tt t with
 | some (e,_)=>match YF tt e with|true=>some e|false=>none
 | none=>none
def MK (s:St) (x:Operand):Option (Nat×List UInt8):=
 match cOf s x with
 | some (.ext k)=>match L5 s k with|some (.bytes bs)=>some (k,bs)|_=>none
 | _=>none
def YG (s:St) (x:Operand):Option ByteArray:=
 match Jc s x with
 | some (.string b)=>some b
 | _=>none
def Kk (tt:TT) (s:St) (nx t u:Nat) (x:Operand) (q:Eff->Prop):Prop:=
 match YG s x,VC tt t,ND tt u with
 | some b,true,some _=>q ⟨.one (.one (.ext nx)),[(nx,.ro (.bytes b.data.toList) [])]⟩
 | _,_,_=>
  match MK s x,ND tt t,VC tt u with
  | some (_,bs),some _,true=>xp (some (none,T.ofV (.string ⟨bs.toArray⟩))) q
  | _,_,_=>xp (RN tt s t u x) q
def P7 (tt:TT) (s:St) (t:Nat) (x i:Operand):Option (Option Prop×T):=
 match MK s x,Jc s i,ND tt t with
 | some (k,bs),some (.int _ i),some _=>some (some (0<=i/\i<(bs.length:Int)),.one (.one (.ep k 1 i.toNat 0)))
 | _,_,_=>none
def P8 (tt:TT) (s:St) (t k sz i j:Nat):Option (Option Prop×T):=
 match L5 s k,YF tt t,Nat.beq sz 1 && Nat.beq j 0 with
 | some (.bytes bs),true,true=>some (some (i<bs.length),T.ofV (.int .u8 (((bs.getD i 0).toNat:Nat):Int)))
 | _,_,_=>none
def Rg:List (Nat×List C)->Option (List Int)
 | []=>some []
 | (_,[.im (.int .u8 n)])::r=>(Rg r).map (n::·)
 | _=>none
def NE:List Int->Prop->Prop
 | [],q=>q
 | n::r,q=>(0<=n/\n<256)/\NE r q
def IN (tt:TT) (s:St) (nx t len:Nat) (ps:List (Nat×Operand)) (q:Eff->Prop):Prop:=
 match F1 tt t,Eh s ps with
 | some (_,ei),some parts=>
  match Rg parts,Nat.beq parts.length len && LZ ei.size 0 parts && Nat.beq ei.size 1 && Nat.ble len 4096 with
  | some ns,true=>NE ns (q ⟨.one (.one (.ext nx)),[(nx,.ro (.bytes (ns.map λ n=>UInt8.ofNat n.toNat)) [])]⟩)
  | _,_=>False
 | _,_=>False
def FC:List C->List Ty->Nat->Option (List C×List (Nat×En))
 | [],[],_=>some ([],[])
 | c::cs,t::ts,i=>
  match FC cs ts (i+1) with
  | some (ds,es)=>
   match t,c with
   | .sl e us,.im (.slice none 0 0)=>some (.ext i::ds,(i,.own e us [])::es)
   | _,c=>some (c::ds,es)
  | none=>none
 | _,_,_=>none
def IO (tt:TT) (s:St) (nx t:Nat) (ps:List (Nat×Operand)) (shape:List Ty) (q:Eff->Prop):Prop:=
 match Mm tt s t ps with
 | some (.one (.agg cs0))=>
  match Nat.ble cs0.length 32,FC cs0 shape nx with
  | true,some (cs,es)=>q ⟨.one (.agg cs),es⟩
  | _,_=>False
 | _=>False
def xop (tt:TT) (ct:CTs) (hints:List Nat) (o:Oper) (s:St) (nx:Nat) (q:Eff->Prop):Prop:=
 match o.op with
 | .move x=>xp ((ev s x).map (none,·)) q
 | .assign x=>xp ((ev s x).map (none,·)) q
 | .pick c a b=>xp (YD s c a b) q
 | .binOp op t x y _=>
  match ACK s x with
  | true=>xp (AAo tt s op t x y) q
  | false=>xp (Tf tt s op t x y) q
 | .convert t u x=>Kk tt s nx t u x q
 | .makeFunc fn first caps=>xp (II s fn first.toList caps.toList) q
 | .makeSlice t x y=>
  match F1 tt t with
  | some (e,_)=>Ot tt s nx t (FY tt 9 e) x y q
  | none=>False
 | .unOp op _ x=>xp (YE s op x) q
 | .extract x i=>xp (NC s x i) q
 | .field t x f=>xp (Tg tt s t x f) q
 | .fieldAddr t x f=>xp (xfa tt s t x f) q
 | .indexAddr t x i=>
  match P7 tt s t x i with
  | some r=>xp (some r) q
  | none=>xp (Gc tt s t (ev s x) (ev s i)) q
 | .index t x i=>xp (Th tt s t x i) q
 | .nilCheck x=>xp (ACI s x) q
 | .build t ps=>
  match (match o.dst with|some d=>hints.any (Nat.beq d)|none=>false) with
  | true=>IO tt s nx t ps.toList (FY tt 9 t) q
  | false=>xp ((Mm tt s t ps.toList).map (none,·)) q
 | .box _ x=>WP s nx x q
 | .alloc t=>KW tt nx t q
 | .load t x=>
  match cOf s x with
  | some (.bp i off)=>xp ((Mp tt s t i off).map (none,·)) q
  | some (.ep k sz i j)=>
   match P8 tt s t k sz i j with
   | some r=>xp (some r) q
   | none=>KX tt s nx t k sz i j q
  | some (.pp k o)=>I6 tt s nx t k o q
  | some (.ext k)=>I6 tt s nx t k 0 q
  | _=>False
 | .store t x y=>
  match cOf s x,ev s y with
  | some (.bp i off),some v=>IF tt s t i off v q
  | some (.ep k sz i j),some v=>
   match ADh s k with
   | true=>IM tt s t k sz i j v q
   | false=>
    match ADD s k with
    | true=>IL tt s t k sz i j v q
    | false=>
     match ADC tt t with
     | true=>IK tt s t k sz i j v q
     | false=>IJ tt s t k sz i j v q
  | _,_=>False
 | .slice t x lo hi none=>
  match (match o.dst with|some d=>hints.any (Nat.beq d)|none=>false) with
  | true=>WV tt s nx t (ev s x) lo hi q
  | false=>KY tt s nx t (ev s x) lo hi q
 | .buildSlice t len ps=>
  match F1 tt t with
  | some (e,_)=>
   match YF tt e with
   | true=>IN tt s nx t len ps.toList q
   | false=>Dd tt s nx t len (FY tt 9 e) ps.toList (match o.dst with|some d=>hints.any (Nat.beq d)|none=>false) q
  | none=>False
 | .call c=>
  match c.callee with
  | .builtin .append=>
   match c.args.toList,c.argTypes.toList with
   | [x,y],[t,u]=>if Nat.beq t u=true then IH tt s nx t (ev s x) (ev s y) q else False
   | _,_=>False
  | .builtin .len=>
   match c.args.toList,c.argTypes.toList with
   | [x],[t]=>xp (ACJ tt s t x) q
   | _,_=>False
  | .builtin .min=>xp (O0 false s c.args.toList) q
  | .builtin .max=>xp (O0 true s c.args.toList) q
  | .value f=>
   match cOf s f,evs s c.args.toList with
   | some c0,some ts=>
    match Ox s c0 with
    | some (k,ext)=>Ou tt ct s nx k (c.argTypes.toList++ext.map λ _=>4294967) (ts++ext) q
    | none=>False
   | _,_=>False
  | _=>False
 | _=>False
section
variable {P : Program} {tt : TT} {ct : CTs} {Γ : Env} {n : Nat} {w0 : World} {al fr : Nat → Prop} {s : St} {m : Maps} {a : Act} {w : World} {nx : Nat} {o : Oper}
theorem R.im (h:R Γ n w0 al s m a w) {x:Operand} {v:Value} (hx:Jc s x=some v):a.eval x=v:=by
 obtain ⟨t,e1,e2⟩:=Option.bind_eq_some_iff.1 hx
 rw [(h.ev e1).1,(T.im_den m e2).1]
theorem R.cc (h:R Γ n w0 al s m a w) {x:Operand} {c:C} (hx:cOf s x=some c):a.eval x=c.den m/\∀ i ∈ c.ids,al i:=by
 obtain ⟨t,e1,e2⟩:=Option.bind_eq_some_iff.1 hx
 have:=h.ev e1
 rw [T.c?_some e2] at this
 exact this
theorem Ti:∀ {l:List Operand} {ts:List T},evs s l=some ts->All2 (λ x t=>ev s x=some t) l ts
 | [],ts,h=>by simp only [evs,Option.some.injEq] at h;subst h;exact .nil
 | x::r,ts,h=>by
  simp only [evs] at h
  split at h
  ·rename_i v vs h1 h2
   simp only [Option.some.injEq] at h
   subst h
   exact .cons h1 (Ti h2)
  ·cases h
theorem Tj {t:Nat} {a b:Bool} (ht:P.underlying t=some .bool):(Op.equal t (.bool a) (.bool b)).run P w=.ok (a == b) w:=by
 have hu:(underlying t).run P w=.ok TypeDesc.bool w:=by simp [underlying,program,Sem.run,ht]
 show (Op.equalIn (9999+1) t (.bool a) (.bool b)).run P w=_
 rw [Op.equalIn]
 simp only [Sem.run_bind,hu,Result.andThen_ok,Sem.run_pure]
theorem YH (b:ByteArray) (i:Nat) (h:i<b.size):b[i]?=some (b.get! i):=by
 have e:b.get! i=b.data[i]! := rfl
 rw [e]
 have hd:i<b.data.size:=h
 rw [getElem!_pos b.data i hd]
 simp [h]
 rfl
theorem VD (hT:TTok P tt) {t:Nat} (h:YF tt t=true):P.underlying t=some (.int .u8)/\∃ i,TIok P t i/\i.size=1/\i.d.agg=false:=by
 unfold YF at h
 split at h
 ·rename_i hl;exact ⟨(hT _ _ hl).d,_,hT _ _ hl,Nat.eq_of_beq_eq_true h,rfl⟩
 ·cases h
theorem Rh (hT:TTok P tt) {t:Nat} (h:VC tt t=true):P.underlying t=some .string:=by
 unfold VC at h
 split at h
 ·rename_i hl;exact (hT _ _ hl).d
 ·cases h
theorem Kl (hT:TTok P tt) {t e:Nat} (h:ND tt t=some e):P.underlying t=some (.slice e)/\P.underlying e=some (.int .u8)/\∀ w,(sizeOf e).run P w=.ok 1 w:=by
 unfold ND at h
 split at h
 ·rename_i e' ei hel
  split at h
  ·rename_i hu
   obtain rfl:=Option.some.inj h
   obtain ⟨u1,u2⟩:=E8 hT hel
   obtain ⟨hd,i,i1,i2,-⟩:=VD hT hu
   exact ⟨u1,hd,λ w=>by rw [i1.sizeOf,i2]⟩
  ·cases h
 ·cases h
theorem NF (h:R Γ n w0 al s m a w) {x:Operand} {k:Nat} {bs:List UInt8} (hx:MK s x=some (k,bs)):a.eval x=m.ε k/\al k/\L5 s k=some (.bytes bs)/\Gb (λ b=>Γ.may m (Fw s k) b/\b<w.heap.size) w bs (m.ε k):=by
 unfold MK at hx
 split at hx
 ·rename_i k' hc
  split at hx
  ·rename_i bs' hr
   simp only [Option.some.injEq,Prod.mk.injEq] at hx
   obtain ⟨rfl,rfl⟩:=hx
   obtain ⟨r1,r2,-⟩:=EJ h hr
   exact ⟨(h.cc hc).1,r2,hr,r1⟩
  ·cases hx
 ·cases hx
theorem YI (h:R Γ n w0 al s m a w) {x:Operand} {b:ByteArray} (hx:YG s x=some b):a.eval x=.string b:=by
 unfold YG at hx
 split at hx
 ·rename_i b' hi
  obtain rfl:=Option.some.inj hx
  exact h.im hi
 ·cases hx
theorem P9 {src dst e:Nat} {F:Nat->Prop} {bs:List UInt8} {u:Value} (hb:Gb F w bs u) (hs:P.underlying src=some (.slice e)) (he:P.underlying e=some (.int .u8)) (hd:P.underlying dst=some .string) :
  (convert src dst u).run P w=.ok (.string ⟨bs.toArray⟩) w:=by
 obtain ⟨a,cap,rfl,hc⟩:=hb
 cases a with
 | none=>
  obtain rfl:bs=[]:=by
   cases bs with
   | nil=>rfl
   | cons b0 r=>obtain ⟨b,off,e1,-⟩:=hc 0 (by simp);cases e1
  rw [run_convert_bytes_string w src dst e none _ cap hs he hd];rfl
 | some ad=>
  refine run_convert_bytes_back w src dst e ad cap bs hs he hd (λ j hj=>?_)
  obtain ⟨b,off,e1,-,-,e2⟩:=hc j hj
  obtain rfl:=Option.some.inj e1
  rw [B7,e2]
  simp [List.getD,hj]
theorem Stp.newBytes (h:R Γ n w0 al s m a w) {dst:Option Tmp} {bs:List UInt8} {C:Array Value} {e:Nat} {fz:Nat×Nat} {cap:Nat} {w1:World} (hb1:Bel Γ w w1) (hs1:w1.heap=w.heap) (hC:∀ j,j<bs.length->C[j]?=some (.int .u8 (((bs.getD j 0).toNat:Nat):Int))) (hnx:¬ al nx) (hf:fr nx) :
  Stp Γ al fr dst m a w ⟨.one (.one (.ext nx)),[(nx,.ro (.bytes bs) [])]⟩ ⟨m.β,upd m.ε nx (.slice (some ⟨w.heap.size,0,none⟩) bs.length cap),λ b=>if b=w.heap.size then 0 else m.π b⟩ (a.put dst (.slice (some ⟨w.heap.size,0,none⟩) bs.length cap)) (w1.alloc (.cells C e fz)):=by
 have hsz:w1.heap.size=w.heap.size:=by rw [hs1]
 refine Stp.newSl h (E:=.ro (.bytes bs) []) (cons:=[]) (hb1.alloc (by rw [hsz];exact h.old) _) (λ b hb _=>?_) (λ b hb _=>if_neg (by omega)) ⟨λ b=>b=w.heap.size,?_,λ b hb=>?_⟩ (by simp [En.ids]) (by simp) hnx hf
 ·rw [Below.heap_alloc _ _ _ (by rw [hsz];exact hb),hs1]
 ·simp only [CN,ROAt]
  refine ⟨_,_,rfl,λ j hj=>⟨w.heap.size,0,rfl,rfl,by simp [hsz],?_⟩⟩
  rw [← hsz,World.cell?_alloc_mark,Nat.zero_add]
  exact hC j hj
 ·subst hb
  exact .inr (.inl ⟨.inl h.old,if_pos rfl⟩)
theorem Wd (hT:TTok P tt) (h:R Γ n w0 al s m a w) {t u:Nat} {x:Operand} (ho:o.op=.convert t u x) (hnx:¬ al nx) (hf:fr nx):Snd P Γ al fr m a w o (Kk tt s nx t u x):=by
 have hold:Snd P Γ al fr m a w o (xp (RN tt s t u x)):=by
  refine A8 h (X:=RN tt s t u x) λ p v hx hp=>?_
  obtain ⟨r1,r2⟩:=WY hT h hx hp
  exact ⟨by simp only [execOp,ho,Sem.run_bind,r1,Result.andThen_ok,Sem.run_pure],by simp [r2]⟩
 intro q hk Q
 unfold Kk at hk
 split at hk
 ·rename_i b e hs ht hu
  obtain ⟨u1,u2,-⟩:=Kl hT hu
  have hrun:=run_bytes_of_string (P:=P) w t u e b (Rh hT ht) u1 u2
  have hexec:(execOp a.eval o).run P w=.ok (.value (.slice (some ⟨w.heap.size,0,none⟩) b.data.toList.length (grownCap w b.size 0 e))) (w.drew.alloc (.cells (bytesRow b (grownCap w b.size 0 e)) e ((bytesRow b (grownCap w b.size 0 e)).size,(bytesRow b (grownCap w b.size 0 e)).size+1))):=by
   simp only [execOp,ho,YI h hs,Sem.run_bind,hrun,Result.andThen_ok,Sem.run_pure]
   rfl
  refine Oper.wp_value hexec ⟨_,_,hk,Stp.newBytes h (Bel.refl _ _).drew rfl (λ j hj=>?_) hnx hf⟩
  have hj' : j<b.data.size:=by simpa using hj
  rw [bytesRow_at b _ j hj']
  have e0:b.data.toList.getD j 0=b.data[j]:=by rw [List.getD_eq_getElem?_getD,Array.getElem?_toList,Array.getElem?_eq_getElem hj'];rfl
  rw [e0]
 ·split at hk
  ·rename_i k bs e hb ht hu
   obtain ⟨b1,b2,b3,b4⟩:=NF h hb
   obtain ⟨u1,u2,-⟩:=Kl hT ht
   have hrun:=P9 (P:=P) b4 u1 u2 (Rh hT hu)
   refine A8 h (X:=some (none,T.ofV (.string ⟨bs.toArray⟩))) (λ p v hx _=>?_) q hk Q
   simp only [Option.some.injEq,Prod.mk.injEq] at hx
   obtain ⟨rfl,rfl⟩:=hx
   exact ⟨by simp only [execOp,ho,b1,Sem.run_bind,hrun,Result.andThen_ok,Sem.run_pure,T.ofV_den],by simp [T.ofV_ids]⟩
  ·exact hold q hk Q
theorem Ri (hT:TTok P tt) (h:R Γ n w0 al s m a w) {t:Nat} {x i:Operand} {p:Option Prop} {v:T} (hx:P7 tt s t x i=some (p,v)) (hp:∀ q,p=some q->q) :
  (Instr.indexAt t (a.eval x) (a.eval i)).run P w=.ok (v.den m) w/\∀ j ∈ v.ids,al j:=by
 unfold P7 at hx
 split at hx
 ·rename_i k bs kk iv e hb hi ht
  simp only [Option.some.injEq,Prod.mk.injEq] at hx
  obtain ⟨rfl,rfl⟩:=hx
  obtain ⟨h0,h1⟩:=hp _ rfl
  obtain ⟨b1,b2,b3,ad,cap,hv,hc⟩:=NF h hb
  obtain ⟨u1,u2,u3⟩:=Kl hT ht
  obtain ⟨b,off,rfl,-⟩:=hc iv.toNat (by omega)
  refine ⟨?_,by simp [T.ids,A.ids,C.ids,b2]⟩
  have x1' : a.eval x=.slice (some ⟨b,off,none⟩) bs.length cap:=by rw [b1];exact hv
  simp only [Instr.indexAt,Sem.run_bind,h.im hi,asIntOf,Sem.run_pure,Result.andThen_ok,AW u1,x1']
  rw [if_pos ⟨h0,by omega⟩]
  simp only [Sem.run_bind,u3,Result.andThen_ok,Sem.run_pure,T.den,A.den,C.den,B6,hv,Nat.add_zero]
 ·cases hx
theorem Tk (hT:TTok P tt) (h:R Γ n w0 al s m a w) {t k sz i j:Nat} {x:Operand} {r:Option Prop×T} (hr:P8 tt s t k sz i j=some r) (ho:o.op=.load t x) (hx:a.eval x=C.den m (.ep k sz i j)):Snd P Γ al fr m a w o (xp (some r)):=by
 refine A8 h (X:=some r) λ p v hv hp=>?_
 obtain rfl:=Option.some.inj hv
 unfold P8 at hr
 split at hr
 ·rename_i bs hro hu hc
  simp only [Option.some.injEq,Prod.mk.injEq] at hr
  obtain ⟨rfl,rfl⟩:=hr
  simp only [Bool.and_eq_true,Nat.beq_eq] at hc
  obtain ⟨rfl,rfl⟩:=hc
  have hi:=hp _ rfl
  obtain ⟨⟨ad,cap,hvv,hcc⟩,-,-⟩:=EJ h hro
  obtain ⟨b,off,rfl,-,hb,hcell⟩:=hcc i hi
  have hrun:(Instr.loadAt t (a.eval x)).run P w=.ok (.int .u8 (((bs.getD i 0).toNat:Nat):Int)) w:=by
   obtain ⟨-,ti,i1,i2,i3⟩:=VD hT hu
   rw [hx]
   simp only [C.den,B6,hvv,B7]
   have:=JY (w:=w) i1 (b:=⟨b,off+(i*1+0),none⟩) (vs:=[.int .u8 (((bs.getD i 0).toNat:Nat):Int)]) (by simp [i2]) (λ _=>i2) (λ j v hj=>by
    have hj0:j=0:=by
     have:=(List.getElem?_eq_some_iff.1 hj).1
     simpa using this
    subst hj0
    simp only [List.getElem?_cons_zero,Option.some.injEq] at hj
    subst hj
    rw [B7,show off+(i*1+0)+0=off+i by omega]
    exact hcell)
   rw [this,i3]
   rfl
  exact ⟨by simp only [execOp,ho,Sem.run_bind,hrun,Result.andThen_ok,Sem.run_pure,T.ofV_den],by simp [T.ofV_ids]⟩
 ·cases hr
theorem Rj (m:Maps):∀ {parts:List (Nat×List C)} {ns:List Int},Rg parts=some ns->(parts.map λ p=>p.2.map (C.den m)).flatten=ns.map (Value.int .u8)
 | [],ns,h=>by simp only [Rg,Option.some.injEq] at h;subst h;rfl
 | (i,cs)::r,ns,h=>by
  unfold Rg at h
  split at h
  ·cases ‹_::_=[]›
  ·rename_i i' n r' e
   simp only [List.cons.injEq,Prod.mk.injEq] at e
   obtain ⟨⟨rfl,rfl⟩,rfl⟩:=e
   obtain ⟨l,e1,rfl⟩:=Option.map_eq_some_iff.1 h
   simp only [List.map_cons,List.flatten_cons,Rj m e1,List.map_nil,C.den]
   rfl
  ·cases h
theorem O1:∀ {ns:List Int} {q:Prop},NE ns q->(∀ n ∈ ns,0<=n/\n<256)/\q
 | [],q,h=>⟨by simp,h⟩
 | n::r,q,h=>by
  obtain ⟨h1,h2⟩:=h
  obtain ⟨i1,i2⟩:=O1 h2
  exact ⟨λ x hx=>by rcases List.mem_cons.1 hx with rfl|hx;exact h1;exact i1 x hx,i2⟩
theorem Tl (hT:TTok P tt) (h:R Γ n w0 al s m a w) {t len:Nat} {ps:Array (Nat×Operand)} (ho:o.op=.buildSlice t len ps) (hnx:¬ al nx) (hf:fr nx):Snd P Γ al fr m a w o (IN tt s nx t len ps.toList):=by
 intro q hk Q
 unfold IN at hk
 split at hk
 ·rename_i e ei parts hel hps
  split at hk
  ·rename_i ns hns hc
   simp only [Bool.and_eq_true,Nat.beq_eq,Nat.ble_eq] at hc
   obtain ⟨⟨⟨c1,c2⟩,c3⟩,c4⟩:=hc
   obtain ⟨hin,hk⟩:=O1 hk
   have hrun:=Hl hT h hel hps c1 c2 (by rw [c3];omega)
   have hcells:=Rj m hns
   have hlen:ns.length=len:=by
    have:=congrArg List.length hcells
    rw [EU (size:=1) (λ r hr=>by
     obtain ⟨p,hp,rfl⟩:=List.mem_map.1 hr
     rw [List.length_map,← c3]
     exact Ka c2 _ (List.mem_map.2 ⟨p,hp,rfl⟩))] at this
    simp only [List.length_map] at this
    omega
   rw [hcells] at hrun
   have hexec:(execOp a.eval o).run P w=.ok (.value (.slice (some ⟨w.heap.size,0,none⟩) (ns.map λ n=>UInt8.ofNat n.toNat).length len)) (w.alloc (.cells (ns.map (Value.int .u8)).toArray e)):=by
    simp only [execOp,ho,Sem.run_bind,hrun,Result.andThen_ok,Sem.run_pure,List.length_map,hlen]
   refine Oper.wp_value hexec ⟨_,_,hk,Stp.newBytes h (Bel.refl _ _) rfl (λ j hj=>?_) hnx hf⟩
   have hj' : j<ns.length:=by simpa using hj
   have hb:=hin _ (List.getElem_mem hj')
   have e1:((UInt8.ofNat (ns[j]).toNat).toNat:Int)=ns[j]:=by
    rw [UInt8.toNat_ofNat'];omega
   simp [List.getD,hj',-UInt8.toNat_ofNat',e1]
  ·exact hk.elim
 ·exact hk.elim
theorem Ld {m m' : Maps} : ∀ {zs:List C} {ts:List Ty} {i:Nat} {cs:List C} {es:List (Nat×En)},FC zs ts i=some (cs,es)->(∀ c ∈ zs,c.den m'=c.den m)->(∀ j,j<zs.length->m'.ε (i+j)=(zs.map (C.den m)).getD j undef) ->
  cs.map (C.den m')=zs.map (C.den m)/\(∀ k E,lkp es k=some E->i<=k/\k<i+zs.length/\EnAt Γ m' w k E/\E.ids=[])/\∀ c ∈ cs,∀ j ∈ c.ids,(i<=j/\j<i+zs.length)∨∃ c0 ∈ zs,j ∈ c0.ids
 | [],[],i,cs,es,h,_,_=>by
  simp only [FC,Option.some.injEq,Prod.mk.injEq] at h
  obtain ⟨rfl,rfl⟩:=h
  exact ⟨rfl,λ k E hk=>by simp [lkp] at hk,λ c hc=>by simp at hc⟩
 | [],t::ts,i,cs,es,h,_,_=>by simp [FC] at h
 | z::zs,[],i,cs,es,h,_,_=>by simp [FC] at h
 | z::zs,t::ts,i,cs,es,h,hs,hε=>by
  unfold FC at h
  split at h
  ·rename_i cs' es' hr
   obtain ⟨i1,i2,i3⟩:=Ld (m:=m) (m':=m') hr (λ c hc=>hs c (List.mem_cons_of_mem _ hc)) (λ j hj=>by
    have:=hε (j+1) (by simpa using hj)
    rw [show i+1+j=i+(j+1) by omega]
    simpa using this)
   have h0:=hε 0 (by simp)
   split at h
   ·rename_i e us
    simp only [Option.some.injEq,Prod.mk.injEq] at h
    obtain ⟨rfl,rfl⟩:=h
    refine ⟨?_,λ k E hk=>?_,λ c hc j hj=>?_⟩
    ·simp only [List.map_cons,i1,C.den]
     simp only [Nat.add_zero] at h0
     rw [h0];rfl
    ·rw [AQ] at hk
     split at hk
     ·rename_i ek
      subst ek
      obtain rfl:=Option.some.inj hk
      refine ⟨Nat.le_refl _,by simp,⟨[],?_,by simp,by simp⟩,rfl⟩
      simp only [Nat.add_zero] at h0
      rw [h0]
      simp only [List.map_cons,List.getD_cons_zero,C.den,Fp]
      exact ⟨[],[],⟨by simp,.inl ⟨rfl,rfl⟩⟩,rfl,rfl,by simp,λ k hk=>by simp at hk,rfl⟩
     ·obtain ⟨j1,j2,j3,j4⟩:=i2 k E hk
      exact ⟨by omega,by simp;omega,j3,j4⟩
    ·rcases List.mem_cons.1 hc with rfl|hc
     ·simp only [C.ids,List.mem_singleton] at hj
      subst hj
      exact .inl ⟨Nat.le_refl _,by simp⟩
     ·rcases i3 c hc j hj with h|⟨c0,h1,h2⟩
      ·exact .inl ⟨by omega,by simp;omega⟩
      ·exact .inr ⟨c0,List.mem_cons_of_mem _ h1,h2⟩
   ·simp only [Option.some.injEq,Prod.mk.injEq] at h
    obtain ⟨rfl,rfl⟩:=h
    refine ⟨by simp only [List.map_cons,i1,hs z (by simp)],λ k E hk=>?_,λ c hc j hj=>?_⟩
    ·obtain ⟨j1,j2,j3,j4⟩:=i2 k E hk
     exact ⟨by omega,by simp;omega,j3,j4⟩
    ·rcases List.mem_cons.1 hc with rfl|hc
     ·exact .inr ⟨_,by simp,hj⟩
     ·rcases i3 c hc j hj with h|⟨c0,h1,h2⟩
      ·exact .inl ⟨by omega,by simp;omega⟩
      ·exact .inr ⟨c0,List.mem_cons_of_mem _ h1,h2⟩
  ·cases h
theorem Tm (hT:TTok P tt) (h:R Γ n w0 al s m a w) {t:Nat} {shape:List Ty} {ps:Array (Nat×Operand)} (ho:o.op=.build t ps) (hal:∀ i,al i->¬ (nx<=i/\i<nx+32)) (hfr:∀ i,nx<=i->i<nx+32->fr i):Snd P Γ al fr m a w o (IO tt s nx t ps.toList shape):=by
 intro q hk Q
 unfold IO at hk
 split at hk
 ·rename_i cs0 hxb
  split at hk
  ·rename_i cs es hc hnil
   have hc:=Nat.le_of_ble_eq_true hc
   obtain ⟨hrun,hids⟩:=Mn hT h (ps:=ps) hxb
   let m':=Ec m nx (cs0.map (C.den m))
   have hε:∀ j,j<cs0.length->m'.ε (nx+j)=(cs0.map (C.den m)).getD j undef:=λ j hj=>by
    show (if nx<=nx+j/\nx+j<nx+(cs0.map (C.den m)).length then (cs0.map (C.den m)).getD (nx+j-nx) undef else m.ε (nx+j))=_
    rw [if_pos (by rw [List.length_map];omega),Nat.add_sub_cancel_left]
   have hsame:Maps.same al m m':=λ i hi=>⟨rfl,by simp only [m',Ec,List.length_map];rw [if_neg (by have:=hal i hi;omega)]⟩
   have hcid:∀ c ∈ cs0,∀ i ∈ c.ids,al i:=λ c hc i hi=>hids i (by simp only [T.ids,A.ids];exact List.mem_flatMap.2 ⟨c,hc,hi⟩)
   obtain ⟨n1,n2,n3⟩:=Ld (Γ:=Γ) (w:=w) (m:=m) (m':=m') hnil (λ c hc=>C.den_same hsame (hcid c hc)) hε
   have hval:(T.one (.agg cs)).den m'=(T.one (.agg cs0)).den m:=by
    simp only [T.den,A.den,n1]
   have hexec:(execOp a.eval o).run P w=.ok (.value ((T.one (.agg cs)).den m')) w:=by
    rw [hval]
    simp only [execOp,ho,Sem.run_bind,hrun,Result.andThen_ok,Sem.run_pure]
   refine Oper.wp_value hexec ⟨_,m',hk,⟨rfl,hsame,Bel.refl _ _,λ _ _ _=>rfl,λ _ _ _=>rfl,λ p E hE=>?_,λ p hp=>?_⟩⟩
   ·obtain ⟨e1,e2,e3,e4⟩:=n2 p E hE
    exact ⟨e3,.inr (hfr p e1 (by omega)),λ j hj=>by rw [e4] at hj;simp at hj⟩
   ·obtain ⟨c,hc',hp⟩:=List.mem_flatMap.1 hp
    rcases n3 c hc' p hp with this|⟨c0,h1,h2⟩
    ·exact .inr (hfr p this.1 (by omega))
    ·exact .inl (hcid c0 h1 p h2)
  ·exact hk.elim
 ·exact hk.elim
theorem YJ (hT:TTok P tt) (hct:CTok P ct Γ.mono) (h:R Γ n w0 al s m a w) (hints:List Nat) (hal:∀ i,al i->¬ (nx<=i/\i<nx+32)) (hfr:∀ i,nx<=i->i<nx+32->fr i):Snd P Γ al fr m a w o (xop tt ct hints o s nx):=by
 have hnx:¬ al nx:=λ hx=>hal nx hx ⟨Nat.le_refl _,by omega⟩
 have hf:fr nx:=hfr nx (Nat.le_refl _) (by omega)
 unfold xop
 cases ho:o.op with
 | move x=>
  refine A8 h (X:=(ev s x).map (none,·)) λ p v hx _=>?_
  obtain ⟨t,e1,e2⟩:=Option.map_eq_some_iff.1 hx
  simp only [Prod.mk.injEq] at e2
  obtain ⟨rfl,rfl⟩:=e2
  exact ⟨by simp [execOp,ho,(h.ev e1).1],(h.ev e1).2⟩
 | assign x=>
  refine A8 h (X:=(ev s x).map (none,·)) λ p v hx _=>?_
  obtain ⟨t,e1,e2⟩:=Option.map_eq_some_iff.1 hx
  simp only [Prod.mk.injEq] at e2
  obtain ⟨rfl,rfl⟩:=e2
  exact ⟨by simp [execOp,ho,(h.ev e1).1],(h.ev e1).2⟩
 | pick c x y=>
  refine A8 h (X:=YD s c x y) λ p v hx _=>?_
  unfold YD at hx
  split at hx
  ·rename_i t va vb h1 h2 h3
   simp only [Option.some.injEq,Prod.mk.injEq] at hx
   obtain ⟨rfl,rfl⟩:=hx
   refine ⟨?_,by simp [T.ofV_ids]⟩
   simp only [execOp,ho,h.im h1,h.im h2,h.im h3,asBool,Sem.run_bind,Sem.run_pure,Result.andThen_ok,T.ofV_den]
   cases t <;> simp
  ·cases hx
 | convert t u x=>exact Wd hT h ho hnx hf
 | makeFunc fn first caps=>
  refine A8 h (X:=II s fn first.toList caps.toList) λ p v hx _=>?_
  obtain ⟨r1,r2⟩:=OO (P:=P) h hx
  exact ⟨by simp only [execOp,ho,Sem.run_bind,r1,Result.andThen_ok,Sem.run_pure],r2⟩
 | makeSlice t x y=>
  simp only
  split
  ·exact X3 hT h ho hnx hf
  ·intro k hk;exact hk.elim
 | binOp op t x y t2=>
  simp only
  split
  ·refine A8 h (X:=AAo tt s op t x y) λ p v hx _=>?_
   obtain ⟨r1,r2⟩:=X4 hT h hx
   refine ⟨?_,by simp [r2]⟩
   simp only [Sem.run_bind] at r1
   simp only [execOp,ho,Sem.run_bind,r1,Result.andThen_ok,Sem.run_pure]
  refine A8 h (X:=Tf tt s op t x y) λ p v hx hp=>?_
  unfold Tf at hx
  split at hx
  ·rename_i va vb h1 h2
   have hb:∀ hh:P6 tt t=true,(Op.equal t (.bool va) (.bool vb)).run P w=.ok (va == vb) w:=λ hh=>by
    unfold P6 at hh
    split at hh
    ·rename_i hl
     have hk:P.underlying t=some .bool:=(hT _ _ hl).d
     exact Tj hk
    ·cases hh
   split at hx
   ·rename_i hh
    simp only [Option.some.injEq,Prod.mk.injEq] at hx
    obtain ⟨rfl,rfl⟩:=hx
    refine ⟨?_,by simp [T.ofV_ids]⟩
    simp [execOp,ho,h.im h1,h.im h2,T.ofV_den,eqGuard,binOp,hb hh]
   ·rename_i hh
    simp only [Option.some.injEq,Prod.mk.injEq] at hx
    obtain ⟨rfl,rfl⟩:=hx
    refine ⟨?_,by simp [T.ofV_ids]⟩
    simp [execOp,ho,h.im h1,h.im h2,T.ofV_den,eqGuard,binOp,hb hh,bne]
   ·cases hx
  ·rename_i va vb _ h1 h2
   obtain ⟨⟨p',r⟩,e1,e2⟩:=Option.map_eq_some_iff.1 hx
   simp only [Prod.mk.injEq] at e2
   obtain ⟨rfl,rfl⟩:=e2
   have:=Xu (P:=P) (w:=w) (t:=t) (a:=x) (b:=y) e1 hp
   refine ⟨?_,by simp [T.ofV_ids]⟩
   simp only [Sem.run_bind] at this
   simp only [execOp,ho,h.im h1,h.im h2,Sem.run_bind,this,Result.andThen_ok,Sem.run_pure,T.ofV_den]
  ·cases hx
 | unOp op t x=>
  refine A8 h (X:=YE s op x) λ p v hx _=>?_
  unfold YE at hx
  split at hx
  ·rename_i va h1
   obtain ⟨r,e1,e2⟩:=Option.map_eq_some_iff.1 hx
   simp only [Prod.mk.injEq] at e2
   obtain ⟨rfl,rfl⟩:=e2
   have:=AAj (P:=P) (w:=w) e1
   exact ⟨by simp [execOp,ho,h.im h1,this,T.ofV_den],by simp [T.ofV_ids]⟩
  ·cases hx
 | extract x i=>
  refine A8 h (X:=NC s x i) λ p v hx _=>?_
  unfold NC at hx
  split at hx
  ·rename_i as h1
   obtain ⟨r,e1,e2⟩:=Option.map_eq_some_iff.1 hx
   simp only [Prod.mk.injEq] at e2
   obtain ⟨rfl,rfl⟩:=e2
   obtain ⟨x1,x2⟩:=h.ev h1
   refine ⟨?_,λ j hj=>x2 j (List.mem_flatMap.2 ⟨r,List.mem_of_getElem? e1,hj⟩)⟩
   have e3:(as.map (A.den m)).toArray[i]?=some (r.den m):=by simp [e1]
   simp only [execOp,ho,x1,T.den,Instr.extract,e3]
   simp
  ·cases hx
 | field t x f=>
  refine A8 h (X:=Tg tt s t x f) λ p v hx _=>?_
  unfold Tg at hx
  split at hx
  ·rename_i cs off ti h1 h2
   split at hx
   ·rename_i c hc
    obtain ⟨r,e1,e2⟩:=Option.map_eq_some_iff.1 hx
    simp only [Prod.mk.injEq] at e2
    obtain ⟨rfl,rfl⟩:=e2
    obtain ⟨x1,x2⟩:=h.ev h1
    obtain ⟨fl,fd,u1,u2,rfl,u3⟩:=JV hT h2
    obtain ⟨d1,d2⟩:=T.ofCs_den m e1
    refine ⟨?_,λ j hj=>?_⟩
    ·have x1' : a.eval x=.agg (cs.map (C.den m)).toArray:=x1
     have hsl:=IE hc
     obtain ⟨s1,s2⟩:=F0 hc
     have hpart:(part fd.type (cs.map (C.den m)).toArray fd.offset).run P w=.ok (r.den m) w:=by
      rw [d1]
      simp only [part,Sem.run_bind,u3.isAgg,Result.andThen_ok]
      cases hg:ti.d.agg with
      | true=>
       simp only [if_true,Sem.run_bind,u3.sizeOf,Result.andThen_ok,Sem.run_pure,LX]
       rw [s2]
       simp [List.map_take,List.map_drop]
      | false=>
       have hl:=d2 hg
       obtain ⟨c0,rfl⟩:∃ c0,c=[c0]:=by
        match c,hl with
        | [c0],_=>exact ⟨c0,rfl⟩
       have:=U5 hc 0 (by simp at hsl;omega)
       simp at this
       simp [this,LX]
     simp only [execOp,ho,x1',Instr.field,Sem.run_bind,AW u1,Result.andThen_ok,u2,asAgg,Sem.run_pure,hpart]
    ·rw [T.ofCs_ids e1] at hj
     obtain ⟨y,hy,hj⟩:=List.mem_flatMap.1 hj
     exact x2 j (List.mem_flatMap.2 ⟨y,U4 hc y hy,hj⟩)
   ·cases hx
  ·cases hx
 | fieldAddr t x f=>
  refine A8 h (X:=xfa tt s t x f) λ p v hx hp=>?_
  have key:∀ p',E9 tt t (ev s x) f=some (p',v)->(∀ k sz i j,cOf s x=some (.ep k sz i j)->∃ ad nn cc,m.ε k=.slice (some ad) nn cc)->(execOp a.eval o).run P w=.ok (.value (v.den m)) w/\∀ i ∈ v.ids,al i:=by
   intro p' hx' hd
   obtain ⟨r1,r2⟩:=Ms hT h hx' hd
   exact ⟨by simp [execOp,ho,r1],r2⟩
  unfold xfa at hx
  split at hx
  ·rename_i k sz i j hk
   split at hx
   ·rename_i e ts rows deps v' hsl hfa
    simp only [Option.some.injEq,Prod.mk.injEq] at hx
    obtain ⟨rfl,rfl⟩:=hx
    refine key none hfa λ k' sz' i' j' hk'=>?_
    rw [hk] at hk'
    simp only [Option.some.injEq,C.ep.injEq] at hk'
    obtain ⟨rfl,-,rfl,-⟩:=hk'
    obtain ⟨⟨F,f1,f2⟩,-,-⟩:=h.sl hsl
    obtain ⟨ad,cap,hv,-,-,-,hrow⟩:=f1.open
    obtain ⟨b,off,row,rfl,-⟩:=hrow i (hp _ rfl)
    exact ⟨_,_,_,hv⟩
   ·cases hx
  ·rename_i k hk
   obtain ⟨r1,r2⟩:=RM hT h hx (.inr ⟨rfl,(h.cc hk).1⟩)
   exact ⟨by simp [execOp,ho,r1],r2⟩
  ·rename_i k off hk
   obtain ⟨r1,r2⟩:=RM hT h hx (.inl (h.cc hk).1)
   exact ⟨by simp [execOp,ho,r1],r2⟩
  ·rename_i hne _ _
   exact key p hx λ k sz i j hk=>absurd hk (hne k sz i j)
 | indexAddr t x i=>
  simp only
  split
  ·rename_i r hr
   refine A8 h (X:=some r) λ p v hx hp=>?_
   obtain ⟨r1,r2⟩:=Ri hT h (hr.trans hx) hp
   exact ⟨by simp [execOp,ho,r1],r2⟩
  refine A8 h (X:=Gc tt s t (ev s x) (ev s i)) λ p v hx hp=>?_
  obtain ⟨r1,r2⟩:=Mr hT h hx hp
  exact ⟨by simp [execOp,ho,r1],r2⟩
 | index t x i=>
  refine A8 h (X:=Th tt s t x i) λ p v hx hp=>?_
  unfold Th at hx
  split at hx
  ·rename_i b kk iv _ _ _ _ h1 h2 h3
   simp only [Option.some.injEq,Prod.mk.injEq] at hx
   obtain ⟨rfl,rfl⟩:=hx
   obtain ⟨p1,p2⟩:=hp _ rfl
   have hu:=(hT _ _ h3).d
   simp only [TD.fits] at hu
   refine ⟨?_,by simp [T.ofV_ids]⟩
   have:=YH b iv.toNat (by omega)
   simp [execOp,ho,h.im h1,h.im h2,Instr.index,asIntOf,AW hu,p1,this,T.ofV_den]
  ·cases hx
 | nilCheck x=>
  refine A8 h (X:=ACI s x) λ p v hx _=>?_
  unfold ACI at hx
  split at hx
  ·rename_i i off h1
   simp only [Option.some.injEq,Prod.mk.injEq] at hx
   obtain ⟨rfl,rfl⟩:=hx
   obtain ⟨x1,x2⟩:=h.cc h1
   exact ⟨by simp [execOp,ho,x1,C.den,T.den,A.den],by simpa [T.ids,A.ids] using x2⟩
  ·cases hx
 | build t ps=>
  simp only
  split
  ·rename_i hh
   exact Tm hT h ho hal hfr
  refine A8 h (X:=(Mm tt s t ps.toList).map (none,·)) λ p v hx _=>?_
  obtain ⟨r,e1,e2⟩:=Option.map_eq_some_iff.1 hx
  simp only [Prod.mk.injEq] at e2
  obtain ⟨rfl,rfl⟩:=e2
  obtain ⟨r1,r2⟩:=Mn hT h e1
  exact ⟨by simp only [execOp,ho,Sem.run_bind,r1,Result.andThen_ok,Sem.run_pure],r2⟩
 | box t x=>exact AAk h ho hnx hf
 | alloc t=>exact WQ hT h ho hnx hf
 | load t x=>
  simp only
  split
  ·rename_i i off hc
   refine A8 h (X:=(Mp tt s t i off).map (none,·)) λ p v hx _=>?_
   obtain ⟨r,e1,e2⟩:=Option.map_eq_some_iff.1 hx
   simp only [Prod.mk.injEq] at e2
   obtain ⟨rfl,rfl⟩:=e2
   obtain ⟨r1,r2⟩:=I4 hT h e1
   obtain ⟨x1,x2⟩:=h.cc hc
   exact ⟨by simp only [execOp,ho,x1,C.den,Sem.run_bind,r1,Result.andThen_ok,Sem.run_pure],r2⟩
  ·rename_i k sz i j hc
   split
   ·rename_i r hr
    exact Tk hT h hr ho (h.cc hc).1
   ·exact WT hT h ho (h.cc hc).1 hal hfr
  ·rename_i k off hc
   exact Oo hT h ho (.inl (h.cc hc).1) hal hfr
  ·rename_i k hc
   exact Oo hT h ho (.inr ⟨rfl,(h.cc hc).1⟩) hal hfr
  ·intro k hk;exact hk.elim
 | store t x y=>
  simp only
  split
  ·rename_i i off v hc hv
   exact TU hT h ho (h.cc hc).1 (h.ev hv).1 (h.ev hv).2
  ·rename_i k sz i j v hc hv
   split
   ·exact Td hT h ho (h.cc hc).1 (h.ev hv).1
   ·split
    ·exact Te hT h ho (h.cc hc).1 (h.ev hv).1
    ·split
     ·exact Tb hT h ho (h.cc hc).1 (h.ev hv).1
     ·exact Tc hT h ho (h.cc hc).1 (h.ev hv).1
  ·intro k hk;exact hk.elim
 | slice t x lo hi mx=>
  cases mx with
  | some _=>intro k hk;exact hk.elim
  | none=>
   simp only
   split
   ·exact AAl hT h ho hnx hf
   ·exact WU hT h ho hnx hf
 | buildSlice t len ps=>
  simp only
  split
  ·split
   ·exact Tl hT h ho hnx hf
   ·exact Mx hT h _ ho hnx hf
  ·intro k hk;exact hk.elim
 | call c=>
  obtain ⟨callee,args,argTypes⟩:=c
  simp only
  cases callee with
  | value f=>
   simp only
   split
   ·rename_i c0 ts h1 h2
    split
    ·rename_i k ext h3
     exact YA hct h ho ((h.cc h1).1.trans (Rc h h3)) (Ti h2) hal hfr
    ·intro k hk;exact hk.elim
   ·intro k hk;exact hk.elim
  | invoke r me=>intro k hk;exact hk.elim
  | builtin b=>
   cases b with
   | append=>
    simp only
    split
    ·rename_i x y t u h1 h2
     split
     ·rename_i e
      have e:=Nat.eq_of_beq_eq_true e
      subst e
      have h1:args=#[x,y]:=Array.ext' h1
      have h2:argTypes=#[t,t]:=Array.ext' h2
      subst h1 h2
      exact TW hT h ho hnx hf
     ·intro k hk;exact hk.elim
    ·intro k hk;exact hk.elim
   | len=>
    simp only
    split
    ·rename_i x t h1 h2
     have h1:args=#[x]:=Array.ext' h1
     have h2:argTypes=#[t]:=Array.ext' h2
     subst h1 h2
     refine A8 h (X:=ACJ tt s t x) λ p v hx _=>?_
     unfold ACJ at hx
     split at hx
     ·rename_i k _ _ _ _ _ hc hl
      have hu:=(hT _ _ hl).d
      simp only [TD.fits] at hu
      split at hx
      ·rename_i e' ts rows deps hsl
       simp only [Option.some.injEq,Prod.mk.injEq] at hx
       obtain ⟨rfl,rfl⟩:=hx
       obtain ⟨⟨F,f1,f2⟩,-,-⟩:=h.sl hsl
       obtain ⟨ad,cap,hv,-⟩:=f1.open
       refine ⟨?_,by simp [T.ofV_ids]⟩
       have hx1:a.eval x=.slice ad rows.length cap:=by rw [(h.cc hc).1];exact hv
       simp [execOp,ho,resolve,invoke,builtin,Builtin.len_,hx1,AW hu,T.ofV_den,goInt]
      ·split at hx
       ·rename_i nb hro
        simp only [Option.some.injEq,Prod.mk.injEq] at hx
        obtain ⟨rfl,rfl⟩:=hx
        obtain ⟨⟨ad,cap,hv,-⟩,-,-⟩:=EJ h hro
        refine ⟨?_,by simp [T.ofV_ids]⟩
        have hx1:a.eval x=.slice ad nb.length cap:=by rw [(h.cc hc).1];exact hv
        simp [execOp,ho,resolve,invoke,builtin,Builtin.len_,hx1,AW hu,T.ofV_den,goInt]
       ·cases hx
     ·rename_i ad nn cc _ _ _ _ _ hc hl
      have hu:=(hT _ _ hl).d
      simp only [TD.fits] at hu
      simp only [Option.some.injEq,Prod.mk.injEq] at hx
      obtain ⟨rfl,rfl⟩:=hx
      have hx1:=(h.cc hc).1
      simp only [C.den] at hx1
      exact ⟨by simp [execOp,ho,resolve,invoke,builtin,Builtin.len_,hx1,AW hu,T.ofV_den,goInt],by simp [T.ofV_ids]⟩
     ·rename_i b _ _ _ _ hc hl
      have hu:=(hT _ _ hl).d
      simp only [TD.fits] at hu
      simp only [Option.some.injEq,Prod.mk.injEq] at hx
      obtain ⟨rfl,rfl⟩:=hx
      have hx1:=(h.cc hc).1
      simp only [C.den] at hx1
      exact ⟨by simp [execOp,ho,resolve,invoke,builtin,Builtin.len_,hx1,AW hu,T.ofV_den,goInt],by simp [T.ofV_ids]⟩
     ·cases hx
    ·intro k hk;exact hk.elim
   | min=>
    refine A8 h (X:=O0 false s args.toList) λ p v hx _=>?_
    unfold O0 at hx
    split at hx
    ·rename_i x y h1
     split at hx
     ·rename_i k av _ bv e1 e2
      simp only [Option.some.injEq,Prod.mk.injEq] at hx
      obtain ⟨rfl,rfl⟩:=hx
      have h1:args=#[x,y]:=Array.ext' h1
      subst h1
      refine ⟨?_,by simp [T.ofV_ids]⟩
      have e:(if bv<av then bv else av)=min av bv:=by omega
      simp [execOp,ho,resolve,invoke,builtin,Builtin.min_,Builtin.min2,h.im e1,h.im e2,T.ofV_den,e]
     ·cases hx
    ·cases hx
   | max=>
    refine A8 h (X:=O0 true s args.toList) λ p v hx _=>?_
    unfold O0 at hx
    split at hx
    ·rename_i x y h1
     split at hx
     ·rename_i k av _ bv e1 e2
      simp only [Option.some.injEq,Prod.mk.injEq] at hx
      obtain ⟨rfl,rfl⟩:=hx
      have h1:args=#[x,y]:=Array.ext' h1
      subst h1
      refine ⟨?_,by simp [T.ofV_ids]⟩
      have e:(if bv>av then bv else av)=max av bv:=by omega
      simp [execOp,ho,resolve,invoke,builtin,Builtin.max_,Builtin.max2,h.im e1,h.im e2,T.ofV_den]
      omega
     ·cases hx
    ·cases hx
   | _=>intro k hk;exact hk.elim
 | _=>intro k hk;exact hk.elim
end
end Go.Proofs.YtkffpiaagjcmpaaGreat
namespace Go.Proofs.YtkffpiaagjcmpaaGreat
set_option linter.unusedVariables false
set_option linter.unusedSimpArgs false
open Go.RowKit
def NG (f b:Bool) (X Y:Prop):Prop:=
 match f with
 | true=>(match b with|true=>X|false=>Y)
 | false=>(b=true->X)/\(b=false->Y)
theorem FD {f b:Bool} {X Y:Prop} (h:NG f b X Y):(b=true->X)/\(b=false->Y):=by
 unfold NG at h
 cases f with
 | true=>cases b <;> exact ⟨λ e=>(by first|exact h|cases e),λ e=>(by first|exact h|cases e)⟩
 | false=>exact h
def St.know (s:St) (t:Nat) (b:Bool):St:={ s with tm:=(t,T.ofV (.bool b))::s.tm,lit:=t::s.lit }
def YK (s:St):Operand->Bool
 | .tmp t=>s.lit.any (Nat.beq t)
 | .const (.bool _)=>true
 | _=>false
def YL (s:St):Op->Bool
 | .move x=>YK s x
 | .assign x=>YK s x
 | .pick c a b=>
  match YK s c with
  | true=>
   match Jc s c with
   | some (.bool true)=>YK s a
   | some (.bool false)=>YK s b
   | _=>false
  | false=>false
 | _=>false
def St.setLit (s:St) (f:Bool) (dst:Option Tmp):St:=
 match f,dst with
 | true,some t=>{ s with lit:=t::s.lit }
 | _,_=>s
def St.put (s:St) (o:Oper) (e:Eff):St:=(s.app o.dst e).setLit (YL s o.op) o.dst
def Le (n:Nat) (o:Oper):Bool:=
 match o.dst with
 | some t=>Nat.ble (t+1) n
 | none=>true
def alN (nx i:Nat):Prop:=0<i/\i<nx
section
variable {P : Program} {tt : TT} {ct : CTs} {Γ : Env} {n : Nat} {w0 : World} {al fr : Nat → Prop} {s : St} {m : Maps} {a : Act} {w : World} {nx : Nat} {o : Oper}
theorem R.eq (h:R Γ n w0 al s m a w) {s' : St} (ht:s'.tm=s.tm) (he:s'.en=s.en):R Γ n w0 al s' m a w:=
 { h with tm:=by rw [ht];exact h.tm,en:=by rw [he];exact h.en }
theorem O2 (s:St) (f:Bool) (dst:Option Tmp):(s.setLit f dst).tm=s.tm/\(s.setLit f dst).en=s.en:=by
 unfold St.setLit;split <;> exact ⟨rfl,rfl⟩
theorem R.know (h : R Γ n w0 al s m a w) {t : Nat} {b : Bool} (hb : a.tmps.getD t undef = .bool b) : R Γ n w0 al (s.know t b) m a w :=
  { h with
    tm := fun u v hv => by
      simp only [St.know, AQ] at hv
      split at hv
      · rename_i e; subst e; obtain rfl := Option.some.inj hv; exact ⟨hb, by simp [T.ofV_ids]⟩
      · exact h.tm u v hv }
theorem NH (h:Le n o=true):∀ t,o.dst=some t->t<n:=by
 intro t ht
 unfold Le at h
 rw [ht] at h
 exact Nat.le_of_ble_eq_true h
theorem R.put (h:R Γ n w0 (alN nx) s m a w) {e:Eff} {m' : Maps} {a' : Act} {w' : World} (hnx:0<nx) (hs:Stp Γ (alN nx) (λ i=>nx<=i/\i<nx+32) o.dst m a w e m' a' w') (hd:Le n o=true):R Γ n w0 (alN (nx+32)) (s.put o e) m' a' w':=by
 have:=(Stp.r h hs (by omega) (NH hd)).more (al':=alN (nx+32)) (λ i hi=>by unfold alN at *;omega) (by unfold alN;omega)
 exact this.eq (O2 _ _ _).1 (O2 _ _ _).2
theorem Stp.skip (_:R Γ n w0 al s m a w) {dst:Option Tmp} : Stp Γ al fr dst m a w ⟨T.ofV undef,[]⟩ m (a.put dst undef) w:=
 ⟨rfl,λ _ _=>⟨rfl,rfl⟩,Bel.refl _ _,λ _ _ _=>rfl,λ _ _ _=>rfl,λ i E h=>by simp [lkp] at h,by simp [T.ofV_ids]⟩
end
def ABz (tt:TT) (s:St):Op->Option (List (List Dat)×Bool)
 | .binOp op t x (.const (.slice none 0 0)) _=>
  match op,cOf s x,lkp tt t with
  | .eql,some (.ext k),some { d:=.slice _,.. }=>(ET s k).map λ y=>(y.2.2.1,false)
  | .neq,some (.ext k),some { d:=.slice _,.. }=>(ET s k).map λ y=>(y.2.2.1,true)
  | _,_,_=>none
 | _=>none
def Rk (tt:TT) (ct:CTs) (hints:List Nat) (o:Oper) (s:St) (nx:Nat) (q:Eff->Prop):Prop:=
 match ABz tt s o.op with
 | some (rows,neg)=>∀ b:Bool,(b=true->rows=[])->q ⟨T.ofV (.bool (match neg with|true=>!b|false=>b)),[]⟩
 | none=>xop tt ct hints o s nx q
theorem VE {P : Program} {tt : TT} {ct : CTs} {Γ : Env} {n : Nat} {w0 : World} {al fr : Nat → Prop} {s : St} {m : Maps} {a : Act} {w : World} {nx : Nat} {o : Oper} (hT : TTok P tt) (hct : CTok P ct Γ.mono) (h : R Γ n w0 al s m a w) (hints : List Nat) (hal : ∀ i, al i → ¬ (nx ≤ i ∧ i < nx + 32)) (hfr : ∀ i, nx ≤ i → i < nx + 32 → fr i) : Snd P Γ al fr m a w o (Rk tt ct hints o s nx) := by
  intro k hk Q
  unfold Rk at hk
  split at hk
  · rename_i rows neg hn
    have key : ∀ (op : BinOp) (t : Nat) (x : Operand) (y : Nat) (i : Nat), o.op = .binOp op t x (.const (.slice none 0 0)) y → cOf s x = some (.ext i) → (∃ z, lkp tt t = some z ∧ ∃ e, z.d = .slice e) → (ET s i).map (fun y => y.2.2.1) = some rows →
        ∃ b : Bool, (b = true → rows = []) ∧ (Op.equal t (a.eval x) (.slice none 0 0)).run P w = .ok b w ∧ (eqGuard op t x (.const (.slice none 0 0)) (a.eval x) (.slice none 0 0)).run P w = .ok () w ∧ ∃ ad n c, a.eval x = .slice ad n c := by
      intro op t x y i ho hc ⟨z, hz, e, he⟩ hs
      obtain ⟨⟨e', ts, rows', deps⟩, h1, h2⟩ := Option.map_eq_some_iff.1 hs
      simp only at h2
      subst h2
      obtain ⟨⟨F, f1, f2⟩, -, -⟩ := h.sl h1
      obtain ⟨ad, cap, hv, -, -, hnil, -⟩ := f1.open
      have hx : a.eval x = .slice ad rows'.length cap := by rw [(h.cc hc).1]; exact hv
      have hu := (hT _ _ hz).d
      rw [he] at hu
      simp only [TD.fits] at hu
      refine ⟨ad.isNone, fun hb => (hnil (by simpa using hb)).1, ?_, ?_, _, _, _, hx⟩
      · rw [hx]
        exact run_equalIn_slice_nil w 9999 t e ad rows'.length cap hu
      · rw [hx]
        cases op <;> simp [eqGuard]
    unfold ABz at hn
    split at hn
    · rename_i op t x y ho
      split at hn
      · rename_i i _ _ _ _ _ hc hz
        obtain ⟨q1, q2, q3⟩ := Option.map_eq_some_iff.1 hn
        simp only [Prod.mk.injEq] at q3
        obtain ⟨rfl, rfl⟩ := q3
        obtain ⟨b, b1, b2, b3, ad, n', c, hx⟩ := key _ t x y i ho hc ⟨_, hz, _, rfl⟩ (by rw [q2]; rfl)
        rw [hx] at b2 b3
        have hb : (Go.binOp .eql t (.slice ad n' c) (.slice none 0 0)).run P w = .ok (.bool b) w := by simp [Go.binOp, b2]
        refine Oper.wp_value (v := .bool b) (w' := w) ?_ ⟨_, m, hk b b1, Stp.pure h (T.ofV (.bool b)) (by simp [T.ofV_ids])⟩
        simp only [execOp, ho, hx, show a.eval (.const (.slice none 0 0)) = .slice none 0 0 from rfl, Sem.run_bind, b3, Result.andThen_ok, hb, Sem.run_pure]
      · rename_i i _ _ _ _ _ hc hz
        obtain ⟨q1, q2, q3⟩ := Option.map_eq_some_iff.1 hn
        simp only [Prod.mk.injEq] at q3
        obtain ⟨rfl, rfl⟩ := q3
        obtain ⟨b, b1, b2, b3, ad, n', c, hx⟩ := key _ t x y i ho hc ⟨_, hz, _, rfl⟩ (by rw [q2]; rfl)
        rw [hx] at b2 b3
        have hb : (Go.binOp .neq t (.slice ad n' c) (.slice none 0 0)).run P w = .ok (.bool !b) w := by simp [Go.binOp, b2]
        refine Oper.wp_value (v := .bool !b) (w' := w) ?_ ⟨_, m, hk b b1, Stp.pure h (T.ofV (.bool !b)) (by simp [T.ofV_ids])⟩
        simp only [execOp, ho, hx, show a.eval (.const (.slice none 0 0)) = .slice none 0 0 from rfl, Sem.run_bind, b3, Result.andThen_ok, hb, Sem.run_pure]
      · cases hn
    · cases hn
  · exact YJ hT hct h hints hal hfr k hk Q
def DJ (all:List Oper) (j:Nat):Option Nat:=(all[j]?).bind (·.dst)
def Km (s:St) (t:Nat):Option Bool:=
 match (lkp s.tm t).bind T.im with
 | some (.bool b)=>some b
 | _=>none
def ML (s:St) (t:Nat):Bool:=
 match (lkp s.tm t).bind T.im with
 | some (.tuple _)=>true
 | _=>false
def Lf (tt:TT) (ct:CTs) (hints:List Nat) (n:Nat) (all:List Oper):List Oper->St->Nat->(St->Nat->Prop)->Prop
 | [],s,nx,q=>q s nx
 | o::r,s,nx,q=>
  match Le n o with
  | false=>False
  | true=>
   match o.guard with
   | none=>Rk tt ct hints o s nx λ e=>Lf tt ct hints n all r (s.put o e) (nx+32) q
   | some (j,want)=>
    match DJ all j with
    | none=>False
    | some t=>
     match Km s t with
     | none=>
      match ML s t with
      | true=>Lf tt ct hints n all r (s.put o ⟨T.ofV undef,[]⟩) (nx+32) q
      | false=>False
     | some b=>
      NG (s.lit.any (Nat.beq t)) (match want with|true=>b|false=>!b)
       (Rk tt ct hints o (s.know t want) nx λ e=>Lf tt ct hints n all r ((s.know t want).put o e) (nx+32) q)
       (Lf tt ct hints n all r ((s.know t (!want)).put o ⟨T.ofV undef,[]⟩) (nx+32) q)
section
variable {P : Program} {tt : TT} {ct : CTs} {Γ : Env} {n : Nat} {w0 : World} {al fr : Nat → Prop} {s : St} {m : Maps} {a : Act} {w : World} {nx : Nat} {o : Oper}
theorem IP (h:R Γ n w0 al s m a w) {t:Nat} {b:Bool} (hb:Km s t=some b):a.tmps.getD t undef=.bool b:=by
 unfold Km at hb
 split at hb
 ·rename_i b' h1
  simp only [Option.some.injEq] at hb
  subst hb
  obtain ⟨v,e1,e2⟩:=Option.bind_eq_some_iff.1 h1
  rw [(h.tm t v e1).1,(T.im_den m e2).1]
 ·cases hb
theorem Kn {ops:Array Oper} {all:List Oper} (hall:all=ops.toList) {j t:Nat} {want b:Bool} (hg:o.guard=some (j,want)) (ht:DJ all j=some t) (hb:a.tmps.getD t undef=.bool b):Region.wanted o (yielded ops a.tmps)=(b == want):=by
 subst hall
 have h1:(ops[j]?).bind (·.dst)=some t:=by unfold DJ at ht;simpa using ht
 have h2:a.tmps[t]?=some (.bool b):=by
  rw [Array.getD_eq_getD_getElem?] at hb
  cases hx:a.tmps[t]? with
  | none=>rw [hx] at hb;simp [undef] at hb
  | some v=>rw [hx] at hb;simpa using hb
 simp only [Region.wanted,hg,yielded,h1,Option.bind_some,h2]
 rfl
theorem I9 {ops:Array Oper} {all:List Oper} (hall:all=ops.toList) {j t:Nat} {want:Bool} (hg:o.guard=some (j,want)) (ht:DJ all j=some t) {x:Array Value} (hb:a.tmps.getD t undef=.tuple x):Region.wanted o (yielded ops a.tmps)=false:=by
 subst hall
 have h1:(ops[j]?).bind (·.dst)=some t:=by unfold DJ at ht;simpa using ht
 simp only [Region.wanted,hg,yielded,h1,Option.bind_some]
 rw [Array.getD_eq_getD_getElem?] at hb
 cases hx:a.tmps[t]? with
 | none=>rfl
 | some v=>
  rw [hx] at hb
  simp only [Option.getD_some] at hb
  subst hb
  rfl
theorem NI (h:R Γ n w0 al s m a w) {t:Nat} (hb:ML s t=true):∃ x,a.tmps.getD t undef=.tuple x:=by
 unfold ML at hb
 split at hb
 ·rename_i x h1
  obtain ⟨v,e1,e2⟩:=Option.bind_eq_some_iff.1 h1
  exact ⟨x,by rw [(h.tm t v e1).1,(T.im_den m e2).1]⟩
 ·cases hb
theorem Fb (hT:TTok P tt) (hct:CTok P ct Γ.mono) {hints:List Nat} {ops:Array Oper} {all:List Oper} (hall:all=ops.toList) {Q:Exit->Act->World->Prop} :
  ∀ (l:List Oper) {s:St} {nx:Nat} {m:Maps} {a:Act} {w:World} {q:St->Nat->Prop},Lf tt ct hints n all l s nx q->0<nx->R Γ n w0 (alN nx) s m a w ->
   (∀ s' nx' m' a' w',0<nx'->q s' nx'->R Γ n w0 (alN nx') s' m' a' w'->Q .normal a' w')->wpList P ops Q l a w
 | [],s,nx,m,a,w,q,hx,h0,h,hq=>wpList_nil (hq _ _ _ _ _ h0 hx h)
 | o::r,s,nx,m,a,w,q,hx,h0,h,hq=>by
  refine wpList_step λ K hK=>?_
  simp only [Lf] at hx
  split at hx
  ·exact hx.elim
  ·rename_i hd
   have run:∀ s2:St,R Γ n w0 (alN nx) s2 m a w->(Rk tt ct hints o s2 nx λ e=>Lf tt ct hints n all r (s2.put o e) (nx+32) q)->o.wp P a w K Q:=by
    intro s2 h2 hx2
    have hs:=VE (o:=o) (fr:=λ i=>nx<=i/\i<nx+32) hT hct h2 hints (λ i hi=>by unfold alN at hi;omega) (λ i h1 h2=>⟨h1,h2⟩) _ hx2 Q
    refine Oper.wp_mono ?_ hs
    rintro a' w' ⟨e,m',he,hstp⟩
    exact hK _ _ (Fb hT hct hall r he (by omega) (h2.put h0 hstp hd) hq)
   split at hx
   ·rename_i hg
    rw [if_pos (by simp [Region.wanted,hg])]
    exact run s h hx
   ·rename_i j want hg
    split at hx
    ·exact hx.elim
    ·rename_i t ht
     split at hx
     ·split at hx
      ·rename_i hu
       obtain ⟨x,hu⟩:=NI h hu
       rw [I9 hall hg ht hu]
       simp only [Bool.false_eq_true,if_false]
       exact hK _ _ (Fb hT hct hall r hx (by omega) (h.put h0 (Stp.skip h) hd) hq)
      ·exact hx.elim
     ·rename_i b hb
      have hbv:=IP h hb
      rw [Kn hall hg ht hbv]
      obtain ⟨g1,g2⟩:=FD hx
      by_cases hbw:b=want
      ·subst hbw
       have hk:=g1 (by cases b <;> rfl)
       simp only [beq_self_eq_true,if_true]
       exact run _ (h.know hbv) hk
      ·have hbw' : b=!want:=by cases b <;> cases want <;> simp at hbw ⊢
       have hk:=g2 (by subst hbw';cases want <;> rfl)
       have hne:(b == want)=false:=by simpa using hbw
       rw [hne]
       simp only [Bool.false_eq_true,if_false]
       have h2:=h.know (b:=!want) (by rw [hbv,hbw'])
       exact hK _ _ (Fb hT hct hall r hk (by omega) (h2.put h0 (Stp.skip h2) hd) hq)
end
theorem Tn {X:Option (Option Prop×T)} {q:Eff->Prop} (h:xp X q):∃ e,q e/\xp X (·=e):=by
 unfold xp at h ⊢
 split at h
 ·rename_i p v
  cases p with
  | none=>exact ⟨_,h,rfl⟩
  | some p=>exact ⟨_,h.2,h.1,rfl⟩
 ·exact h.elim
theorem YM {s:St} {nx:Nat} {x:Operand} {q:Eff->Prop} (h:WP s nx x q):∃ e,q e/\WP s nx x (·=e):=by
 unfold WP at h ⊢
 split at h
 ·split at h
  ·split at h
   ·rename_i hc;exact ⟨_,h,by rw [if_pos hc]⟩
   ·exact h.elim
  ·exact h.elim
 ·exact h.elim
theorem To {tt:TT} {nx t:Nat} {q:Eff->Prop} (h:KW tt nx t q):∃ e,q e/\KW tt nx t (·=e):=by
 unfold KW at h ⊢
 split at h
 ·exact ⟨_,h,rfl⟩
 ·exact h.elim
theorem Tp {tt:TT} {s:St} {nx t k sz i j:Nat} {q:Eff->Prop} (h:KX tt s nx t k sz i j q):∃ e,q e/\KX tt s nx t k sz i j (·=e):=by
 unfold KX at h ⊢
 split at h
 ·split at h
  ·rename_i hc
   simp only [if_pos hc]
   split at h
   ·split at h
    ·exact ⟨_,h.2,h.1,rfl⟩
    ·exact h.elim
   ·exact h.elim
  ·exact h.elim
 ·exact h.elim
theorem Rl {tt:TT} {s:St} {t i off:Nat} {v:T} {q:Eff->Prop} (h:IF tt s t i off v q):∃ e,q e/\IF tt s t i off v (·=e):=by
 unfold IF at h ⊢
 split at h
 ·split at h
  ·rename_i hc;exact ⟨_,h,by rw [if_pos hc]⟩
  ·exact h.elim
 ·exact h.elim
theorem Tq {tt:TT} {s:St} {nx t:Nat} {x:Option T} {lo hi:Option Operand} {q:Eff->Prop} (h:KY tt s nx t x lo hi q):∃ e,q e/\KY tt s nx t x lo hi (·=e):=by
 unfold KY at h ⊢
 split at h
 ·split at h
  ·split at h
   ·obtain ⟨h1,h2,h3,h4,h⟩:=h
    exact ⟨_,h,h1,h2,h3,h4,rfl⟩
   ·exact h.elim
  ·exact h.elim
 ·split at h
  ·split at h
   ·obtain ⟨h1,h2,h3,h⟩:=h
    exact ⟨_,h,h1,h2,h3,rfl⟩
   ·exact h.elim
  ·exact h.elim
 ·exact h.elim
theorem YN {tt:TT} {s:St} {nx t:Nat} {x:Option T} {lo hi:Option Operand} {q:Eff->Prop} (h:WV tt s nx t x lo hi q):∃ e,q e/\WV tt s nx t x lo hi (·=e):=by
 unfold WV at h ⊢
 split at h
 ·split at h
  ·split at h
   ·obtain ⟨h1,h2,h3,h4,h⟩:=h
    exact ⟨_,h,h1,h2,h3,h4,rfl⟩
   ·exact h.elim
  ·exact h.elim
 ·exact h.elim
theorem L6 {tt:TT} {s:St} {nx t len:Nat} {shape:List Ty} {ps:List (Nat×Operand)} {top:Bool} {q:Eff->Prop} (h:Dd tt s nx t len shape ps top q):∃ e,q e/\Dd tt s nx t len shape ps top (·=e):=by
 unfold Dd at h ⊢
 split at h
 ·split at h
  ·rename_i hc
   simp only [if_pos hc]
   split at h
   ·split at h
    ·rename_i hn;exact ⟨_,h,by rw [if_pos hn]⟩
    ·exact h.elim
   ·split at h
    ·exact ⟨_,h,rfl⟩
    ·exact h.elim
  ·exact h.elim
 ·exact h.elim
theorem Rm {tt:TT} {s:St} {nx t:Nat} {x y:Option T} {q:Eff->Prop} (h:IH tt s nx t x y q):∃ e,q e/\IH tt s nx t x y (·=e):=by
 unfold IH at h ⊢
 split at h
 ·split at h
  ·split at h
   ·split at h
    ·rename_i hc
     simp only [if_pos hc]
     obtain ⟨hl,h⟩:=h
     split at h
     ·exact ⟨_,h,hl,rfl⟩
     ·split at h
      ·exact h.elim
      ·rename_i hn;exact ⟨_,h,hl,by rw [if_neg hn]⟩
     ·split at h
      ·exact h.elim
      ·rename_i hn;exact ⟨_,h,hl,by rw [if_neg hn]⟩
    ·exact h.elim
   ·exact h.elim
  ·exact h.elim
 ·exact h.elim
theorem Rn {tt:TT} {s:St} {t k sz i j:Nat} {v:T} {q:Eff->Prop} (h:IK tt s t k sz i j v q):∃ e,q e/\IK tt s t k sz i j v (·=e):=by
 unfold IK at h ⊢
 split at h
 ·split at h
  ·split at h
   ·rename_i hown hc
    simp only [hown,if_pos hc]
    obtain ⟨hi,h⟩:=h
    exact ⟨_,h,hi,rfl⟩
   ·exact h.elim
  ·exact h.elim
 ·exact h.elim
theorem Ro {tt:TT} {s:St} {t k sz i j:Nat} {v:T} {q:Eff->Prop} (h:IJ tt s t k sz i j v q):∃ e,q e/\IJ tt s t k sz i j v (·=e):=by
 unfold IJ at h ⊢
 split at h
 ·split at h
  ·split at h
   ·rename_i hown hc
    simp only [hown,if_pos hc]
    obtain ⟨hi,h⟩:=h
    exact ⟨_,h,hi,rfl⟩
   ·exact h.elim
  ·exact h.elim
 ·exact h.elim
theorem Ts {tt:TT} {s:St} {c:Con} {ds:List DA} {cells:List C} {q:Eff->Prop} (h:Kd tt s c ds cells q):∃ e,q e/\Kd tt s c ds cells (·=e):=by
 unfold Kd at h ⊢
 split at h
 ·split at h
  ·split at h
   ·rename_i hc
    simp only [if_pos hc]
    obtain ⟨i,h1,h2,h⟩:=h
    obtain ⟨h3,h⟩:=M9 h
    split at h
    ·rename_i e1 e2
     refine ⟨_,h _ rfl,i,h1,h2,?_⟩
     have:∀ {ps:List Prop} {p:Prop},(∀ x ∈ ps,x)->p->obs ps p:=by
      intro ps
      induction ps with
      | nil=>intro p _ h;exact h
      | cons x r ih=>intro p hx h;exact ⟨hx x (by simp),ih (λ y hy=>hx y (List.mem_cons_of_mem _ hy)) h⟩
     exact this h3 (by rw [e1,e2];intro R hR;rw [hR])
    ·exact h.elim
   ·exact h.elim
  ·exact h.elim
 ·exact h.elim
theorem Rp {tt:TT} {s:St} {t k sz i j:Nat} {v:T} {q:Eff->Prop} (h:IM tt s t k sz i j v q):∃ e,q e/\IM tt s t k sz i j v (·=e):=by
 unfold IM at h ⊢
 split at h
 ·split at h
  ·split at h
   ·rename_i hown hc
    simp only [hown,if_pos hc]
    obtain ⟨hi,h⟩:=h
    exact ⟨_,h _ rfl,hi,λ R hR=>by rw [hR]⟩
   ·exact h.elim
  ·exact h.elim
 ·exact h.elim
theorem Tt {tt:TT} {s:St} {nx:Nat} {c:Con} {cs pn:c.ι->List PC} {tys:List Nat} {as:List T} {q:Eff->Prop} (h:Ke tt s nx c cs pn tys as q):∃ e,q e/\Ke tt s nx c cs pn tys as (·=e):=by
 unfold Ke at h ⊢
 split at h
 ·split at h
  ·split at h
   ·exact h.elim
   ·split at h
    ·rename_i hc
     simp only [if_pos hc]
     obtain ⟨i,g1,g2,g3,h⟩:=h
     exact ⟨_,h,i,g1,g2,g3,rfl⟩
    ·exact h.elim
  ·exact h.elim
 ·exact h.elim
theorem Tu {tt:TT} {s:St} {nx:Nat} {c:Con} {pc:c.ι->List PC} {tys:List Nat} {as:List T} {q:Eff->Prop} (h:Kf tt s nx c pc tys as q):∃ e,q e/\Kf tt s nx c pc tys as (·=e):=by
 unfold Kf at h ⊢
 split at h
 ·split at h
  ·obtain ⟨i,g1,g2,h⟩:=h
   exact ⟨_,h,i,g1,g2,rfl⟩
  ·exact h.elim
 ·exact h.elim
theorem We {tt:TT} {ct:CTs} {s:St} {nx f:Nat} {tys:List Nat} {as:List T} {q:Eff->Prop} (hdet:∀ f c,(f,c) ∈ ct->c.alt=none) (h:Ou tt ct s nx f tys as q):∃ e,q e/\Ou tt ct s nx f tys as (·=e):=by
 unfold Ou at h ⊢
 split at h
 ·exact h.elim
 ·rename_i c hl
  obtain ⟨g,hg⟩:=RQ hl
  have ha:=hdet g c hg
  split at h
  ·exact Tt h
  ·split at h
   ·exact Tu h
   ·split at h
    ·exact h.elim
    ·split at h
     ·exact Ts h
     ·split at h
      ·rename_i hc
       simp only [if_pos hc]
       obtain ⟨i,h1,h2,h⟩:=h
       rw [ha] at h
       exact ⟨_,h,i,h1,h2,by rw [ha]⟩
      ·exact h.elim
theorem Rq {tt:TT} {s:St} {t k sz i j:Nat} {v:T} {q:Eff->Prop} (h:IL tt s t k sz i j v q):∃ e,q e/\IL tt s t k sz i j v (·=e):=by
 unfold IL at h ⊢
 split at h
 ·split at h
  ·split at h
   ·rename_i hown hc
    simp only [hown,if_pos hc]
    obtain ⟨hi,h⟩:=h
    exact ⟨_,h,hi,rfl⟩
   ·exact h.elim
  ·exact h.elim
 ·exact h.elim
theorem Wf {tt:TT} {s:St} {nx t:Nat} {shape:List Ty} {x y:Operand} {q:Eff->Prop} (h:Ot tt s nx t shape x y q):∃ e,q e/\Ot tt s nx t shape x y (·=e):=by
 unfold Ot at h ⊢
 split at h
 ·split at h
  ·split at h
   ·rename_i hz hc
    simp only [hz,if_pos hc]
    obtain ⟨h1,h2,h3,h⟩:=h
    exact ⟨_,h,h1,h2,h3,rfl⟩
   ·exact h.elim
  ·exact h.elim
 ·exact h.elim
theorem Tv {tt:TT} {s:St} {nx t k o:Nat} {q:Eff->Prop} (h:I6 tt s nx t k o q):∃ e,q e/\I6 tt s nx t k o (·=e):=by
 unfold I6 at h ⊢
 split at h
 ·split at h
  ·rename_i hc
   simp only [if_pos hc]
   split at h
   ·split at h
    ·rename_i h2
     exact ⟨_,h,by simp only [h2]⟩
    ·exact h.elim
   ·exact h.elim
  ·exact h.elim
 ·exact h.elim
theorem Tw {tt:TT} {s:St} {nx t u:Nat} {x:Operand} {q:Eff->Prop} (h:Kk tt s nx t u x q):∃ e,q e/\Kk tt s nx t u x (·=e):=by
 unfold Kk at h ⊢
 split at h
 ·exact ⟨_,h,rfl⟩
 ·split at h
  ·exact Tn h
  ·exact Tn h
theorem Rr {tt:TT} {s:St} {nx t:Nat} {ps:List (Nat×Operand)} {shape:List Ty} {q:Eff->Prop} (h:IO tt s nx t ps shape q):∃ e,q e/\IO tt s nx t ps shape (·=e):=by
 unfold IO at h ⊢
 split at h
 ·split at h
  ·exact ⟨_,h,rfl⟩
  ·exact h.elim
 ·exact h.elim
theorem JA {E:Eff} {q:Eff->Prop} : ∀ {ns:List Int},NE ns (q E)->NE ns (E=E)/\q E
 | [],h=>⟨rfl,h⟩
 | n::r,h=>⟨⟨h.1,(JA h.2).1⟩,(JA h.2).2⟩
theorem Rs {tt:TT} {s:St} {nx t len:Nat} {ps:List (Nat×Operand)} {q:Eff->Prop} (h:IN tt s nx t len ps q):∃ e,q e/\IN tt s nx t len ps (·=e):=by
 unfold IN at h ⊢
 split at h
 ·split at h
  ·obtain ⟨h1,h2⟩:=JA (q:=q) h
   exact ⟨_,h2,h1⟩
  ·exact h.elim
 ·exact h.elim
theorem VF {tt:TT} {ct:CTs} {hints:List Nat} {o:Oper} {s:St} {nx:Nat} {q:Eff->Prop} (hdet:∀ f c,(f,c) ∈ ct->c.alt=none) (h:xop tt ct hints o s nx q):∃ e,q e/\xop tt ct hints o s nx (·=e):=by
 unfold xop at h ⊢
 repeat' (first
  | exact Tn h
  | exact Tw h
  | exact Rs h
  | exact Rr h
  | exact YM h
  | exact To h
  | exact Tp h
  | exact Rl h
  | exact Rn h
  | exact Ro h
  | exact Rp h
  | exact Tq h
  | exact YN h
  | exact L6 h
  | exact Rm h
  | exact We hdet h
  | exact Rq h
  | exact Wf h
  | exact Tv h
  | exact h.elim
  | (split at h <;> simp only [*])
  | split at h)
end Go.Proofs.YtkffpiaagjcmpaaGreat
namespace Go.Proofs.YtkffpiaagjcmpaaGreat
set_option linter.unusedVariables false
set_option linter.unusedSimpArgs false
open Go.RowKit
abbrev Tr:=List (Oper×Eff)
def mem (l:List Nat) (x:Nat):Bool:=l.any (Nat.beq x)
theorem mem_iff {l:List Nat} {x:Nat} : mem l x=true↔x ∈ l:=by
 unfold mem
 constructor
 ·intro h;obtain ⟨y,hy,e⟩:=List.any_eq_true.1 h;simp at e;subst e;exact hy
 ·intro h;exact List.any_eq_true.2 ⟨x,h,by simp⟩
theorem F5 {l:List Nat} {x:Nat} : mem l x=false↔x ∉ l:=by
 rw [← mem_iff];cases mem l x <;> simp
def NJ (o:Oper):List Nat:=(o.after.toList.filter (Region.binds .any)).map (·.on)
def YO:List Nat->List Nat->List Nat
 | [],acc=>acc
 | x::r,acc=>if mem acc x=true then YO r acc else YO r (x::acc)
def AAq:List Oper->List (List Nat)->List (List Nat)
 | [],acc=>acc
 | o::r,acc=>AAq r (acc++[YO ((NJ o).flatMap λ j=>j::acc.getD j []) []])
def anc (A:List (List Nat)) (i k:Nat):Bool:=mem (A.getD i []) k
def Hq (A:List (List Nat)):List Oper->Nat->Bool
 | [],_=>true
 | o::r,i=>
  ((NJ o).all λ j=>Nat.ble (j+1) i && anc A i j && (A.getD j []).all λ k=>anc A i k) &&
  ((A.getD i []).all λ k=>Nat.ble (k+1) i && (NJ o).any λ j=>Nat.beq j k || anc A j k) && Hq A r (i+1)
def fold (D:Nat->Bool):Tr->Nat->St->St
 | [],_,s=>s
 | (o,e)::r,k,s=>fold D r (k+1) (match D k with|true=>s.app o.dst e|false=>s)
def JB (A:List (List Nat)) (i:Nat):List Oper->Nat->List Nat
 | [],_=>[]
 | o::r,k=>(match Nat.beq k i || anc A i k || anc A k i with|true=>[]|false=>o.dst.toList)++JB A i r (k+1)
def YP (ts:List Nat) (s:St) (lit:List Nat):St:={ tm:=s.tm.filter λ x=>!(mem ts x.1),en:=s.en,lit:=lit }
def Lg:Eff:=⟨T.ofV undef,[]⟩
def Ko (tr:Tr) (j:Nat) (v:T):Tr:=
 match tr[j]? with
 | some (o,e)=>tr.set j (o,{ e with val:=v })
 | none=>tr
def Rt (tr:Tr) (j:Nat):Option Bool:=
 match tr[j]? with
 | some (_,⟨.one (.one (.im (.bool b))),_⟩)=>some b
 | _=>none
def Wg (tr:Tr) (j:Nat):Bool:=
 match tr[j]? with
 | some (_,⟨.one (.one (.im (.tuple _))),_⟩)=>true
 | _=>false
def YQ (f:Bool) (dst:Option Tmp) (lit:List Nat):List Nat:=
 match f,dst with
 | true,some t=>t::lit
 | _,_=>lit
def stored (s:St) (o:Oper):List Nat:=
 match o.op with
 | .store _ x _=>
  match cOf s x with
  | some (.bp i _)=>[i]
  | _=>[]
 | _=>[]
def ACL (o:Oper):Bool:=
 match o.op with
 | .move _=>true
 | _=>false
def QA (s:St) (t:Nat):List Oper->Option C
 | []=>none
 | o::r=>
  match o.dst with
  | some t'=>match Nat.beq t t' with|true=>(match o.op with|.move x=>cOf s x|_=>none)|false=>QA s t r
  | none=>QA s t r
def ACM (s:St) (all:List Oper) (o:Oper):List Nat:=
 match o.op with
 | .call c=>
  match c.args.toList with
  | .tmp t::_=>
   match (match QA s t all with|some c=>some c|none=>cOf s (.tmp t)) with
   | some (.bp i _)=>match lkp s.en i with|some (.box cs)=>(match cs.any (λ c=>match c with|.ext k=>ACH s k|_=>false) with|true=>[i]|false=>[])|_=>[]
   | _=>[]
  | _=>[]
 | _=>[]
def AB0 (all:List Oper) (A:List (List Nat)) (s:St) (i:Nat):List Oper->Nat->List Nat
 | [],_=>[]
 | o::r,k=>(match Nat.beq k i with|true=>(match ACL o with|true=>s.en.map (·.1)|false=>[])|false=>match anc A i k || anc A k i with|true=>[]|false=>stored s o++ACM s all o)++AB0 all A s i r (k+1)
def Jd (A:List (List Nat)) (s:St) (i:Nat) (l:List Oper) (k:Nat):List Nat:=AB0 l A s i l k
def Gd (us:List Nat) (s:St):St:=
 match us with
 | []=>s
 | us=>{ tm:=s.tm,en:=s.en.filter λ x=>!(mem us x.1),lit:=s.lit }
def Iy (us:List Nat) (D:Nat->Bool):Tr->Nat->St->St
 | [],_,s=>s
 | (o,e)::r,k,s=>Iy us D r (k+1) (match D k with|true=>Gd us (s.app o.dst e)|false=>s)
def HZ (A:List (List Nat)) (all:List Oper) (s0:St) (tr:Tr) (i:Nat) (lit:List Nat):St:=YP (JB A i all 0) (Iy (Jd A s0 i all 0) (anc A i) tr 0 (Gd (Jd A s0 i all 0) s0)) lit
def Je (tt:TT) (ct:CTs) (hints:List Nat) (n:Nat) (all:List Oper) (A:List (List Nat)) (s0:St) (nx:Nat):List Oper->Nat->Tr->List Nat->(Tr->List Nat->Prop)->Prop
 | [],_,tr,lit,q=>q tr lit
 | o::r,i,tr,lit,q=>
  match Le n o with
  | false=>False
  | true=>
   match o.guard with
   | none=>xop tt ct hints o (HZ A all s0 tr i lit) (nx+32*i) λ e=>Je tt ct hints n all A s0 nx r (i+1) (tr++[(o,e)]) (YQ (YL (HZ A all s0 tr i lit) o.op) o.dst lit) q
   | some (j,want)=>
    match anc A i j,DJ all j,Rt tr j with
    | true,some t,some b=>
     NG (mem lit t) (match want with|true=>b|false=>!b)
      (xop tt ct hints o (HZ A all s0 (Ko tr j (T.ofV (.bool want))) i (t::lit)) (nx+32*i) λ e=>
       Je tt ct hints n all A s0 nx r (i+1) (Ko tr j (T.ofV (.bool want))++[(o,e)]) (YQ (YL (HZ A all s0 (Ko tr j (T.ofV (.bool want))) i (t::lit)) o.op) o.dst (t::lit)) q)
      (Je tt ct hints n all A s0 nx r (i+1) (Ko tr j (T.ofV (.bool (!want)))++[(o,Lg)]) (t::lit) q)
    | true,some _,none=>
     match Wg tr j with
     | true=>Je tt ct hints n all A s0 nx r (i+1) (tr++[(o,Lg)]) lit q
     | false=>False
    | _,_,_=>False
def AB1 (x y:Oper):Bool:=
 match x.dst,y.dst with
 | some a,some b=>!(Nat.beq a b)
 | _,_=>true
def ACN (a b:List Nat):Bool:=a.all λ x=>!(mem b x)
def Ru (us:List Nat) (u:List (Nat×En)):Bool:=u.any λ x=>En.hangs us x.2
def JC (x y:Oper×Eff):Bool:=AB1 x.1 y.1 && ACN x.2.us y.2.us && !(Ru y.2.us x.2.upd) && !(Ru x.2.us y.2.upd)
def QB (us:List Nat) (en:List (Nat×En)):Bool:=
 match us with
 | []=>true
 | _=>en.all λ x=>!(mem us x.1) && !(En.hangs us x.2)
def Kp (A:List (List Nat)) (us:List Nat) (i:Nat):Tr->Nat->St->Bool
 | [],_,_=>true
 | (o,e)::r,k,V=>
  match anc A i k with
  | true=>Kp A us i r (k+1) (Gd us (V.app o.dst e))
  | false=>(match Nat.beq k i || anc A k i with|true=>true|false=>QB e.us V.en) && Kp A us i r (k+1) V
def IQ (A:List (List Nat)) (i:Nat) (x:Oper×Eff):Tr->Nat->Bool
 | [],_=>true
 | y::r,k=>(Nat.ble k i || anc A k i || JC x y) && IQ A i x r (k+1)
def Ge (A:List (List Nat)) (s0:St) (tr:Tr):Tr->Nat->Bool
 | [],_=>true
 | x::r,i=>Kp A (Jd A s0 i (tr.map (·.1)) 0) i tr 0 (Gd (Jd A s0 i (tr.map (·.1)) 0) s0) && IQ A i x tr 0 && Ge A s0 tr r (i+1)
def Fx:List Oper->List Nat
 | []=>[]
 | o::r=>o.dst.toList++Fx r
def QC (tt:TT) (ct:CTs) (hints:List Nat) (n:Nat) (all:List Oper) (s0:St) (nx:Nat) (q:St->Nat->Prop):Prop:=
 match Hq (AAq all []) all 0 && FA (Fx all) with
 | false=>False
 | true=>Je tt ct hints n all (AAq all []) s0 nx all 0 [] (s0.lit.filter λ t=>!(mem (Fx all) t)) λ tr lit=>
  match Ge (AAq all []) s0 tr tr 0 with
  | false=>False
  | true=>q { fold (λ _=>true) tr 0 s0 with lit:=lit } (nx+32*all.length)
theorem Hr (s:St) (dst:Option Tmp) (e:Eff) (t:Nat):lkp (s.app dst e).tm t=if dst=some t then some e.val else lkp s.tm t:=by
 cases dst with
 | none=>simp [St.app]
 | some d=>simp only [St.app,AQ,Option.some.injEq]
def F6 (us:List Nat) (E:En):En:=if En.hangs us E then .dead else E
theorem Kq (E:En):En.hangs [] E=false:=by cases E <;> simp [En.hangs]
theorem Kr (s:St) (dst:Option Tmp) (e:Eff) (i:Nat):lkp (s.app dst e).en i=(lkp e.upd i).or ((lkp s.en i).map (F6 e.us)):=by
 have key:lkp (e.upd++P3 e.us s.en) i=(lkp e.upd i).or ((lkp s.en i).map (F6 e.us)):=by rw [DS,RD];rfl
 simp only [St.app]
 cases hu:e.upd with
 | nil=>
  have hus:e.us=[]:=by simp [Eff.us,hu]
  have:F6 e.us=id:=by funext E;simp [F6,hus,Kq]
  rw [this]
  simp [lkp]
 | cons x r=>rw [hu] at key;exact key
def Vis (U:List Nat) (V S:St):Prop:=(∀ t,t ∉ U->lkp V.tm t=lkp S.tm t)/\∀ i E,lkp V.en i=some E->(E=.dead/\∃ E',lkp S.en i=some E')∨lkp S.en i=some E
theorem Vis.refl (U:List Nat) (s:St):Vis U s s:=⟨λ _ _=>rfl,λ _ _ h=>.inr h⟩
theorem Lh {us:List Nat} {l:List (Nat×En)} {i:Nat} {E:En} (h:lkp (l.filter λ x=>!(mem us x.1)) i=some E):lkp l i=some E:=by
 induction l with
 | nil=>simp [lkp] at h
 | cons x r ih=>
  obtain ⟨j,F⟩:=x
  rw [AQ]
  by_cases hj:mem us j=true
  ·rw [List.filter_cons_of_neg (by simp [hj])] at h
   split
   ·rename_i e
    subst e
    -- the number is hidden: it cannot be found there
    exfalso
    have:∀ r:List (Nat×En),lkp (r.filter λ x=>!(mem us x.1)) j≠some E:=by
     intro r
     induction r with
     | nil=>simp [lkp]
     | cons y r ih2=>
      obtain ⟨q,G⟩:=y
      by_cases hq:mem us q=true
      ·rw [List.filter_cons_of_neg (by simp [hq])];exact ih2
      ·rw [List.filter_cons_of_pos (by simpa using hq),AQ]
       split
       ·rename_i e;subst e;exact absurd hj hq
       ·exact ih2
    exact this r h
   ·exact ih h
  ·rw [List.filter_cons_of_pos (by simpa using hj),AQ] at h
   split
   ·rename_i e;rw [if_pos e] at h;exact h
   ·rename_i e;rw [if_neg e] at h;exact ih h
theorem Vis.hide (U us:List Nat) (s:St):Vis U (Gd us s) s:=by
 cases us with
 | nil=>exact Vis.refl U s
 | cons u us=>exact ⟨λ _ _=>rfl,λ i E h=>.inr (Lh h)⟩
theorem Vis.hid {U:List Nat} {V S:St} (h:Vis U V S) (us:List Nat):Vis U (Gd us V) S:=by
 obtain ⟨h1,h2⟩:=Vis.hide U us V
 refine ⟨λ t ht=>(h1 t ht).trans (h.1 t ht),λ i E hE=>?_⟩
 have:lkp V.en i=some E:=by
  cases us with
  | nil=>exact hE
  | cons u us=>exact Lh hE
 exact h.2 i E this
theorem Vis.both {U:List Nat} {V S:St} (h:Vis U V S) (dst:Option Tmp) (e:Eff):Vis U (V.app dst e) (S.app dst e):=by
 refine ⟨λ t ht=>by rw [Hr,Hr,h.1 t ht],λ i E hE=>?_⟩
 rw [Kr] at hE ⊢
 cases hu:lkp e.upd i with
 | some E'=>rw [hu] at hE;exact .inr hE
 | none=>
  rw [hu,Option.none_or] at hE
  rw [Option.none_or]
  cases hv:lkp V.en i with
  | none=>rw [hv] at hE;cases hE
  | some E0=>
   rw [hv] at hE
   rcases h.2 i E0 hv with ⟨rfl,E',h2⟩|h2
   ·simp [F6,En.hangs] at hE;exact .inl ⟨hE.symm,by rw [h2];exact ⟨_,rfl⟩⟩
   ·rw [h2];exact .inr hE
theorem Vis.other {U:List Nat} {V S:St} (h:Vis U V S) {dst:Option Tmp} {e:Eff} (hd:∀ t,dst=some t->t ∈ U) (hc:QB e.us V.en=true):Vis U V (S.app dst e):=by
 have hc:∀ i E,lkp V.en i=some E->i ∉ e.us/\En.hangs e.us E=false:=by
  intro i E hE
  unfold QB at hc
  split at hc
  ·rename_i hus;rw [hus];exact ⟨by simp,Kq E⟩
  ·have:=List.all_eq_true.1 hc _ (Eg hE)
   simp only [Bool.and_eq_true,Bool.not_eq_true'] at this
   exact ⟨F5.1 this.1,this.2⟩
 refine ⟨λ t ht=>?_,λ i E hE=>?_⟩
 ·rw [Hr,if_neg (λ e=>ht (hd t e)),h.1 t ht]
 ·obtain ⟨c1,c2⟩:=hc i E hE
  rcases h.2 i E hE with ⟨h2,E',h3⟩|h2
  ·left
   refine ⟨h2,?_⟩
   rw [Kr,h3]
   cases lkp e.upd i with
   | none=>exact ⟨_,rfl⟩
   | some E2=>exact ⟨_,rfl⟩
  ·right
   rw [Kr,h2]
   have:lkp e.upd i=none:=by
    cases hl:lkp e.upd i with
    | none=>rfl
    | some E'=>exact absurd (List.mem_map.2 ⟨_,Eg hl,rfl⟩) c1
   rw [this]
   simp [F6,c2]
theorem Jf {A:List (List Nat)} {us:List Nat} {i:Nat} {U:List Nat} {D:Nat->Bool} (h1:∀ k,anc A i k=true->D k=true) (h2:D i=false) (h3:∀ k,D k=true->anc A k i=false):∀ (tr:Tr) (k:Nat) (V S:St),
  (∀ q o e,tr[q]?=some (o,e)->D (k+q)=true->anc A i (k+q)=false->∀ t,o.dst=some t->t ∈ U)->Kp A us i tr k V=true->Vis U V S->Vis U (Iy us (anc A i) tr k V) (fold D tr k S)
 | [],k,V,S,_,_,h=>h
 | (o,e)::r,k,V,S,hU,hc,h=>by
  have hU' : ∀ q o e,r[q]?=some (o,e)->D (k+1+q)=true->anc A i (k+1+q)=false->∀ t,o.dst=some t->t ∈ U:=λ q o e hq=>by
   have:=hU (q+1) o e (by simpa using hq)
   rwa [show k+(q+1)=k+1+q by omega] at this
  simp only [fold,Iy]
  simp only [Kp] at hc
  cases ha:anc A i k with
  | true=>
   rw [ha] at hc
   rw [h1 k ha]
   exact Jf h1 h2 h3 r (k+1) _ _ hU' hc ((h.both _ _).hid _)
  | false=>
   rw [ha] at hc
   simp only [Bool.and_eq_true] at hc
   cases hD:D k with
   | false=>exact Jf h1 h2 h3 r (k+1) _ _ hU' hc.2 h
   | true=>
    have hki:(Nat.beq k i || anc A k i)=false:=by
     have e1:Nat.beq k i=false:=by
      cases he:Nat.beq k i with
      | false=>rfl
      | true=>have:=Nat.eq_of_beq_eq_true he;subst this;rw [h2] at hD;cases hD
     rw [e1,h3 k hD];rfl
    rw [hki] at hc
    exact Jf h1 h2 h3 r (k+1) _ _ hU' hc.2 (h.other (hU 0 o e (by simp) (by simpa using hD) (by simpa using ha)) hc.1)
def Eqv (X Y:St):Prop:=(∀ t,lkp X.tm t=lkp Y.tm t)/\∀ i,lkp X.en i=lkp Y.en i
theorem Eqv.refl (X:St):Eqv X X:=⟨λ _=>rfl,λ _=>rfl⟩
theorem Eqv.trans {X Y Z:St} (h:Eqv X Y) (k:Eqv Y Z):Eqv X Z:=⟨λ t=>(h.1 t).trans (k.1 t),λ i=>(h.2 i).trans (k.2 i)⟩
theorem Eqv.app {X Y:St} (h:Eqv X Y) (dst:Option Tmp) (e:Eff):Eqv (X.app dst e) (Y.app dst e):=
 ⟨λ t=>by rw [Hr,Hr,h.1],λ i=>by rw [Kr,Kr,h.2]⟩
theorem Eqv.fold {D:Nat->Bool} : ∀ (tr:Tr) (k:Nat) {X Y:St},Eqv X Y->Eqv (fold D tr k X) (fold D tr k Y)
 | [],_,_,_,h=>h
 | (o,e)::r,k,X,Y,h=>by
  simp only [Go.Proofs.YtkffpiaagjcmpaaGreat.fold]
  cases D k with
  | true=>exact Eqv.fold r (k+1) (h.app _ _)
  | false=>exact Eqv.fold r (k+1) h
theorem Tx (u v:List Nat) (E:En):F6 u (F6 v E)=F6 v (F6 u E):=by
 unfold F6
 cases h1:En.hangs u E <;> cases h2:En.hangs v E <;> simp [h1,h2] <;> simp [En.hangs]
theorem YR {x y:Oper×Eff} (h:JC x y=true) (X:St):Eqv ((X.app x.1.dst x.2).app y.1.dst y.2) ((X.app y.1.dst y.2).app x.1.dst x.2):=by
 simp only [JC,Bool.and_eq_true,Bool.not_eq_true'] at h
 obtain ⟨⟨⟨h1,h2⟩,h3⟩,h4⟩:=h
 have hdj:∀ i,i ∈ x.2.us->i ∉ y.2.us:=λ i hi=>by
  have:=List.all_eq_true.1 h2 i hi
  exact F5.1 (by simpa using this)
 refine ⟨λ t=>?_,λ i=>?_⟩
 ·simp only [Hr]
  unfold AB1 at h1
  by_cases hx:x.1.dst=some t
  ·by_cases hy:y.1.dst=some t
   ·rw [hx,hy] at h1;simp at h1
   ·simp [hx,hy]
  ·simp [hx]
 ·simp only [Kr]
  cases hx:lkp x.2.upd i with
  | some E=>
   have hmx:i ∈ x.2.us:=List.mem_map.2 ⟨_,Eg hx,rfl⟩
   have hy:lkp y.2.upd i=none:=by
    cases hy:lkp y.2.upd i with
    | none=>rfl
    | some E'=>exact absurd (List.mem_map.2 ⟨_,Eg hy,rfl⟩) (hdj i hmx)
   have hh:En.hangs y.2.us E=false:=by
    have:=List.any_eq_false.1 h3 _ (Eg hx)
    simpa using this
   simp [hy,F6,hh]
  | none=>
   cases hy:lkp y.2.upd i with
   | some E=>
    have hh:En.hangs x.2.us E=false:=by
     have:=List.any_eq_false.1 h4 _ (Eg hy)
     simpa using this
    simp [F6,hh]
   | none=>
    simp only [Option.none_or]
    cases lkp X.en i with
    | none=>rfl
    | some E=>simp only [Option.map_some];rw [Tx]
theorem QD {a b:Nat} (h:a≠b):Nat.beq a b=false:=by
 cases hb:Nat.beq a b with
 | false=>rfl
 | true=>exact absurd (Nat.eq_of_beq_eq_true hb) h
theorem Ks {D:Nat->Bool} {x:Oper×Eff} : ∀ (tr:Tr) (k:Nat) (X:St),(∀ q y,tr[q]?=some y->D (k+q)=true->JC x y=true)->Eqv (fold D tr k (X.app x.1.dst x.2)) ((fold D tr k X).app x.1.dst x.2)
 | [],_,X,_=>Eqv.refl _
 | (o,e)::r,k,X,h=>by
  have h' : ∀ q y,r[q]?=some y->D (k+1+q)=true->JC x y=true:=λ q y hq hD=>h (q+1) y (by simpa using hq) (by rwa [show k+(q+1)=k+1+q by omega])
  simp only [fold]
  cases hD:D k with
  | true=>
   have:=YR (h 0 (o,e) (by simp) (by simpa using hD)) X
   exact (Eqv.fold r (k+1) this).trans (Ks r (k+1) _ h')
  | false=>exact Ks r (k+1) X h'
theorem O3 {D D' : Nat->Bool} {i:Nat} {x:Oper×Eff} (hi:D i=false) (hD:∀ k,D' k=(D k || Nat.beq k i)):∀ (tr:Tr) (k:Nat) (X:St),k<=i->tr[i-k]?=some x->(∀ q y,tr[q]?=some y->i<k+q->D (k+q)=true->JC x y=true) ->
  Eqv (fold D' tr k X) ((fold D tr k X).app x.1.dst x.2)
 | [],k,X,_,hx,_=>by simp at hx
 | (o,e)::r,k,X,hk,hx,h=>by
  simp only [fold]
  by_cases hki:k=i
  ·subst hki
   simp at hx
   subst hx
   have e1:D' k=true:=by rw [hD];simp
   rw [e1,hi]
   have e2:∀ (r:Tr) (k' : Nat) (X:St),k<k'->fold D' r k' X=fold D r k' X:=by
    intro r
    induction r with
    | nil=>intro k' X _;rfl
    | cons y r ih=>
     intro k' X hk'
     obtain ⟨o',e'⟩:=y
     have:D' k'=D k':=by rw [hD,QD (by omega),Bool.or_false]
     simp only [fold,this,ih (k' + 1) _ (by omega)]
   rw [e2 r (k+1) _ (by omega)]
   exact Ks r (k+1) X λ q y hq hDq=>h (q+1) y (by simpa using hq) (by omega) (by rwa [show k+(q+1)=k+1+q by omega])
  ·have e1:D' k=D k:=by rw [hD,QD hki,Bool.or_false]
   rw [e1]
   exact O3 hi hD r (k+1) _ (by omega) (by rw [show i-k=(i-(k+1))+1 by omega] at hx;simpa using hx) λ q y hq hlt hDq=>h (q+1) y (by simpa using hq) (by omega) (by rwa [show k+(q+1)=k+1+q by omega])
theorem Jg {us:List Nat} {D:Nat->Bool} : ∀ (tr tr' : Tr) (k:Nat) (X:St),(∀ q,k+tr.length<=q->D q=false)->Iy us D (tr++tr') k X=Iy us D tr k X
 | [],tr',k,X,h=>by
  simp only [List.nil_append,Iy]
  induction tr' generalizing k X with
  | nil=>rfl
  | cons y r ih=>
   obtain ⟨o,e⟩:=y
   simp only [Iy,h k (by simp)]
   exact ih (k+1) X (λ q hq=>h q (by simp at hq ⊢;omega))
 | (o,e)::r,tr',k,X,h=>by
  simp only [List.cons_append,Iy]
  exact Jg r tr' (k+1) _ λ q hq=>h q (by simp at hq ⊢;omega)
end Go.Proofs.YtkffpiaagjcmpaaGreat
namespace Go.Proofs.YtkffpiaagjcmpaaGreat
set_option linter.unusedVariables false
set_option linter.unusedSimpArgs false
open Go.RowKit
theorem Li {tr:Tr} {j:Nat} {b want:Bool} (h:Rt tr j=some b) (e:b=want):Ko tr j (T.ofV (.bool want))=tr:=by
 subst e
 unfold Rt at h
 unfold Ko
 split at h
 ·rename_i o b' u hj
  simp only [Option.some.injEq] at h
  subst h
  rw [hj]
  simp only
  have hl:=(List.getElem?_eq_some_iff.1 hj)
  obtain ⟨h1,h2⟩:=hl
  have e3:(o,({ val:=T.ofV (.bool b'),upd:=u } : Eff))=tr[j]:=h2.symm
  rw [e3,List.set_getElem_self]
 ·cases h
theorem Rv {tr suf:Tr} {j:Nat} {b:Bool} (h:Rt tr j=some b):Rt (tr++suf) j=some b:=by
 unfold Rt at h ⊢
 split at h
 ·rename_i o b' u hj
  rw [List.getElem?_append_left (List.getElem?_eq_some_iff.1 hj).1,hj]
  exact h
 ·cases h
theorem YS {tr suf:Tr} {j:Nat} (h:Wg tr j=true):Wg (tr++suf) j=true:=by
 unfold Wg at h ⊢
 split at h
 ·rename_i o b' u hj
  rw [List.getElem?_append_left (List.getElem?_eq_some_iff.1 hj).1,hj]
 ·cases h
def YT (tt:TT) (ct:CTs) (hints:List Nat) (n:Nat) (all:List Oper) (A:List (List Nat)) (s0:St) (nx:Nat) (TR:Tr) (i:Nat):Prop:=
 ∃ o e lit,TR[i]?=some (o,e)/\all[i]?=some o/\Le n o=true /\
  match o.guard with
  | none=>xop tt ct hints o (HZ A all s0 TR i lit) (nx+32*i) (·=e)
  | some (j,want)=>anc A i j=true/\∃ t,DJ all j=some t/\((Wg TR j=true/\e=Lg)∨∃ b,Rt TR j=some b/\((b=want/\xop tt ct hints o (HZ A all s0 TR i lit) (nx+32*i) (·=e))∨(b≠want/\e=Lg)))
theorem FE {A:List (List Nat)} : ∀ {l:List Oper} {k i:Nat} {o:Oper},Hq A l k=true->l[i]?=some o ->
  (∀ j ∈ NJ o,j<k+i/\anc A (k+i) j=true/\∀ q,anc A j q=true->anc A (k+i) q=true)/\(∀ q,anc A (k+i) q=true->q<k+i/\∃ j ∈ NJ o,j=q∨anc A j q=true)
 | [],_,_,_,_,h=>by simp at h
 | o0::r,k,0,o,hc,h=>by
  simp at h
  subst h
  simp only [Hq,Bool.and_eq_true] at hc
  obtain ⟨⟨h1,h2⟩,-⟩:=hc
  refine ⟨λ j hj=>?_,λ q hq=>?_⟩
  ·have:=List.all_eq_true.1 h1 j hj
   simp only [Bool.and_eq_true,Nat.ble_eq] at this
   exact ⟨by omega,this.1.2,λ q hq=>List.all_eq_true.1 this.2 q (mem_iff.1 hq)⟩
  ·have:=List.all_eq_true.1 h2 q (mem_iff.1 hq)
   simp only [Bool.and_eq_true,Nat.ble_eq] at this
   obtain ⟨j,hj,e⟩:=List.any_eq_true.1 this.2
   simp only [Bool.or_eq_true,Nat.beq_eq] at e
   exact ⟨by omega,j,hj,e⟩
 | o0::r,k,i+1,o,hc,h=>by
  simp only [Hq,Bool.and_eq_true] at hc
  have:=FE (i:=i) hc.2 (by simpa using h)
  rwa [show k+1+i=k+(i+1) by omega] at this
theorem Lj {tt : TT} {ct : CTs} {hints : List Nat} {n : Nat} {all : List Oper} {A : List (List Nat)} {s0 : St} {nx : Nat} (hdet : ∀ f c, (f, c) ∈ ct → c.alt = none) (hA : Hq A all 0 = true) : ∀ (r : List Oper) (i : Nat) (tr : Tr) (lit : List Nat) (q : Tr → List Nat → Prop),
    Je tt ct hints n all A s0 nx r i tr lit q → tr.length = i → (∀ k, r[k]? = all[i + k]?) → ∃ suf lit', q (tr ++ suf) lit' ∧ suf.length = r.length ∧ ∀ k, k < r.length → YT tt ct hints n all A s0 nx (tr ++ suf) (i + k)
  | [], i, tr, lit, q, h, _, _ => ⟨[], lit, by simpa [Je] using h, rfl, by simp⟩
  | o :: r, i, tr, lit, q, h, hl, hall => by
    have ho : all[i]? = some o := by simpa using (hall 0).symm
    have hall' : ∀ k, r[k]? = all[i + 1 + k]? := fun k => by
      have := hall (k + 1)
      simpa [show i + (k + 1) = i + 1 + k by omega] using this
    have hfr : ∀ q, i ≤ q → anc A i q = false := fun q hq => by
      cases ha : anc A i q with
      | false => rfl
      | true =>
        have := ((FE hA ho).2 q (by simpa using ha)).1
        omega
    have hvis : ∀ (e : Eff) (suf : Tr) (lit : List Nat), HZ A all s0 (tr ++ [(o, e)] ++ suf) i lit = HZ A all s0 tr i lit := fun e suf lit => by
      unfold HZ
      rw [List.append_assoc, Jg tr _ 0 _ (fun q hq => hfr q (by omega))]
    -- one way on
    have go : ∀ (e : Eff) (lit1 : List Nat), Je tt ct hints n all A s0 nx r (i + 1) (tr ++ [(o, e)]) lit1 q → (∀ suf, YT tt ct hints n all A s0 nx (tr ++ [(o, e)] ++ suf) i) →
        ∃ suf lit', q (tr ++ suf) lit' ∧ suf.length = (o :: r).length ∧ ∀ k, k < (o :: r).length → YT tt ct hints n all A s0 nx (tr ++ suf) (i + k) := by
      intro e lit1 hx hop
      obtain ⟨suf, lit', q1, q2, q3⟩ := Lj hdet hA r (i + 1) _ _ q hx (by simp [hl]) hall'
      refine ⟨(o, e) :: suf, lit', by simpa using q1, by simp [q2], fun k hk => ?_⟩
      cases k with
      | zero => simpa using hop suf
      | succ k => simpa [show i + (k + 1) = i + 1 + k by omega] using q3 k (by simpa using hk)
    have hget : ∀ (e : Eff) (suf : Tr), (tr ++ [(o, e)] ++ suf)[i]? = some (o, e) := fun e suf => by
      rw [List.append_assoc, List.getElem?_append_right (by omega)]
      simp [hl]
    simp only [Je] at h
    split at h
    · exact h.elim
    · rename_i hd
      split at h
      · rename_i hg
        obtain ⟨e, he1, he2⟩ := VF hdet h
        refine go e _ he1 fun suf => ⟨o, e, lit, hget e suf, ho, hd, ?_⟩
        rw [hg]
        simp only
        rw [hvis]; exact he2
      · rename_i j want hg
        split at h
        · rename_i t b ha ht hv
          obtain ⟨g1, g2⟩ := FD h
          by_cases hbw : b = want
          · have hx := g1 (by subst hbw; cases b <;> rfl)
            rw [Li hv hbw] at hx
            obtain ⟨e, he1, he2⟩ := VF hdet hx
            refine go e _ he1 fun suf => ⟨o, e, t :: lit, hget e suf, ho, hd, ?_⟩
            rw [hg]
            simp only
            refine ⟨ha, t, ht, .inr ⟨b, ?_, .inl ⟨hbw, by rw [hvis]; exact he2⟩⟩⟩
            rw [List.append_assoc]; exact Rv hv
          · have hbw' : b = !want := by cases b <;> cases want <;> simp at hbw ⊢
            have hx := g2 (by subst hbw'; cases want <;> rfl)
            rw [Li hv hbw'] at hx
            refine go Lg _ hx fun suf => ⟨o, Lg, lit, hget _ suf, ho, hd, ?_⟩
            rw [hg]
            simp only
            refine ⟨ha, t, ht, .inr ⟨b, ?_, .inr ⟨hbw, trivial⟩⟩⟩
            rw [List.append_assoc]; exact Rv hv
        · rename_i t ha ht hv
          split at h
          · rename_i hu
            refine go Lg _ h fun suf => ⟨o, Lg, lit, hget _ suf, ho, hd, ?_⟩
            rw [hg]
            simp only
            refine ⟨ha, t, ht, .inl ⟨?_, trivial⟩⟩
            rw [List.append_assoc]; exact YS hu
          · exact h.elim
        · exact h.elim
theorem JD {α:Type} {p:Nat->Bool} : ∀ {l:List (Nat×α)} {t:Nat} {v:α},lkp (l.filter λ x=>p x.1) t=some v->p t=true/\lkp l t=some v
 | [],t,v,h=>by simp [lkp] at h
 | (i,x)::r,t,v,h=>by
  rw [List.filter_cons] at h
  split at h
  ·rename_i hp
   rw [AQ] at h ⊢
   split at h
   ·rename_i e;subst e;rw [if_pos rfl];exact ⟨hp,h⟩
   ·rename_i e;rw [if_neg e];exact JD h
  ·rename_i hp
   obtain ⟨h1,h2⟩:=JD h
   refine ⟨h1,?_⟩
   rw [AQ,if_neg]
   ·exact h2
   ·intro e;subst e;exact hp h1
theorem NK {A:List (List Nat)} {i:Nat} : ∀ {l:List Oper} {k q:Nat} {o:Oper} {t:Nat},l[q]?=some o->o.dst=some t->k+q≠i->anc A i (k+q)=false->anc A (k+q) i=false->t ∈ JB A i l k
 | [],_,_,_,_,h,_,_,_,_=>by simp at h
 | o0::r,k,0,o,t,h,ht,h1,h2,h3=>by
  simp at h
  subst h
  simp only [JB]
  simp only [Nat.add_zero] at h1 h2 h3
  rw [h2,h3,QD h1]
  exact List.mem_append.2 (.inl (by simp [ht]))
 | o0::r,k,q+1,o,t,h,ht,h1,h2,h3=>by
  simp only [JB]
  refine List.mem_append.2 (.inr (NK (q:=q) (by simpa using h) ht ?_ ?_ ?_)) <;> rw [show k+1+q=k+(q+1) by omega] <;> assumption
theorem NL {D:Nat->Bool} : ∀ {tr:Tr} {k q:Nat} {X:St} {o:Oper} {e:Eff} {t:Nat},(Fx (tr.map (·.1))).Nodup->tr[q]?=some (o,e)->o.dst=some t->D (k+q)=true->lkp (fold D tr k X).tm t=some e.val
 | [],_,_,_,_,_,_,_,h,_,_=>by simp at h
 | (o0,e0)::r,k,0,X,o,e,t,hn,h,ht,hD=>by
  simp at h
  obtain ⟨rfl,rfl⟩:=h
  simp only [fold]
  rw [show D k=true by simpa using hD]
  simp only [List.map_cons,Fx,ht,Option.toList_some,List.singleton_append,List.nodup_cons] at hn
  have key:∀ (r:Tr) (k:Nat) (Y:St),t ∉ Fx (r.map (·.1))->lkp (fold D r k Y).tm t=lkp Y.tm t:=by
   intro r
   induction r with
   | nil=>intro k Y _;rfl
   | cons y r ih=>
    intro k Y hn
    obtain ⟨o',e'⟩:=y
    simp only [List.map_cons,Fx,List.mem_append,not_or] at hn
    simp only [fold]
    rw [ih (k+1) _ hn.2]
    cases D k with
    | false=>rfl
    | true=>simp only;rw [Hr,if_neg (λ e=>hn.1 (by simp [e]))]
  rw [key r (k+1) _ hn.1,Hr,if_pos ht]
 | (o0,e0)::r,k,q+1,X,o,e,t,hn,h,ht,hD=>by
  simp only [fold]
  simp only [List.map_cons,Fx] at hn
  exact NL (q:=q) (List.nodup_append.1 hn).2.1 (by simpa using h) ht (by rwa [show k+1+q=k+(q+1) by omega])
theorem Hs {A:List (List Nat)} {s0:St} {TR:Tr} : ∀ {l:Tr} {k i:Nat} {x:Oper×Eff},Ge A s0 TR l k=true->l[i]?=some x->Kp A (Jd A s0 (k+i) (TR.map (·.1)) 0) (k+i) TR 0 (Gd (Jd A s0 (k+i) (TR.map (·.1)) 0) s0)=true/\IQ A (k+i) x TR 0=true
 | [],_,_,_,_,h=>by simp at h
 | x0::r,k,0,x,hc,h=>by
  simp at h
  subst h
  simp only [Ge,Bool.and_eq_true] at hc
  exact hc.1
 | x0::r,k,i+1,x,hc,h=>by
  simp only [Ge,Bool.and_eq_true] at hc
  have:=Hs (i:=i) hc.2 (by simpa using h)
  rwa [show k+1+i=k+(i+1) by omega] at this
theorem Lk {A:List (List Nat)} {i:Nat} {x:Oper×Eff} : ∀ {l:Tr} {k q:Nat} {y:Oper×Eff},IQ A i x l k=true->l[q]?=some y->i<k+q->anc A i (k+q)=false->anc A (k+q) i=false->JC x y=true
 | [],_,_,_,_,h,_,_,_=>by simp at h
 | y0::r,k,0,y,hc,h,h1,h2,h3=>by
  simp at h
  subst h
  simp only [IQ,Bool.and_eq_true,Bool.or_eq_true,Nat.ble_eq] at hc
  simp only [Nat.add_zero] at h1 h2 h3
  rw [h3] at hc
  rcases hc.1 with (h|h)|h
  ·omega
  ·cases h
  ·exact h
 | y0::r,k,q+1,y,hc,h,h1,h2,h3=>by
  simp only [IQ,Bool.and_eq_true] at hc
  refine Lk (q:=q) hc.2 (by simpa using h) ?_ ?_ ?_ <;> rw [show k+1+q=k+(q+1) by omega] <;> assumption
section
variable {P : Program} {tt : TT} {ct : CTs} {Γ : Env} {n : Nat} {w0 : World} {s : St} {m : Maps} {a : Act} {w : World} {nx : Nat}
theorem R.drew {al:Nat->Prop} (h:R Γ n w0 al s m a w):R Γ n w0 al s m a { w with drawn:=w.drawn+1 } where
 size:=h.size
 defers:=h.defers
 old:=h.old
 below:=h.below.drew
 tm:=h.tm
 en:=λ i E hE=>by
  obtain ⟨h1,h2,h3⟩:=h.en i E hE
  exact ⟨h1.keep (S:=al) (us:=[]) h2 h3 (λ _ _=>⟨rfl,rfl⟩) (by simp) (by simp) (Kq E) (Nat.le_refl _) (λ _ _ _=>rfl) (λ _ _ _=>rfl),h2,h3⟩
 pos:=h.pos
 st:=h.st
 gh:=h.gh
def alD (nx N:Nat) (D:Nat->Bool) (i:Nat):Prop:=alN nx i∨∃ j,j<N/\D j=true/\nx+32*j<=i/\i<nx+32*j+32
def BQ (listed:Array Bool) (k:Nat):Bool:=listed.getD k false
theorem Wh (hT:TTok P tt) (hct:CTok P ct Γ.mono) {hints:List Nat} {ops:Array Oper} {A:List (List Nat)} {TR:Tr} (hA:Hq A ops.toList 0=true) (hN:(Fx ops.toList).Nodup) (hTR:TR.map (·.1)=ops.toList) (h0:0<nx)
  (hok:∀ i,i<ops.size->YT tt ct hints n ops.toList A s nx TR i) (hck:Ge A s TR TR 0=true) {D D' : Nat->Bool} {i:Nat} (hi:i<ops.size) (hDi:D i=false) (hD' : ∀ k,D' k=(D k || Nat.beq k i))
  (hcl:∀ k,D k=true->∀ q,anc A k q=true->D q=true) (hanc:∀ q,anc A i q=true->D q=true) (hDN:∀ k,D k=true->k<ops.size) (h:R Γ n w0 (alD nx ops.size D) (fold D TR 0 s) m a w) {Q:Exit->Act->World->Prop} :
  wpOp P ops Q i (λ a' w'=>∃ m',R Γ n w0 (alD nx ops.size D') (fold D' TR 0 s) m' a' w') a w:=by
 obtain ⟨o,e,lit,hTi,hoi,hd,hrest⟩:=hok i hi
 have hoi' : ops[i]?=some o:=by simpa using hoi
 have hlen:TR.length=ops.size:=by have:=congrArg List.length hTR;simpa using this
 obtain ⟨hvc,hcc⟩:=Hs hck hTi
 simp only [Nat.zero_add] at hvc hcc
 have hnanc:∀ k,D k=true->anc A k i=false:=λ k hk=>by
  cases ha:anc A k i with
  | false=>rfl
  | true=>have:=hcl k hk i ha;rw [hDi] at this;cases this
 have hdst:∀ {q:Nat} {o' : Oper} {e' : Eff},TR[q]?=some (o',e')->ops.toList[q]?=some o':=λ {q o' e'} hq=>by
  rw [← hTR,List.getElem?_map,hq];rfl
 -- the small state lies in the big one
 rw [hTR] at hvc
 have hvis:Vis (JB A i ops.toList 0) (Iy (Jd A s i ops.toList 0) (anc A i) TR 0 (Gd (Jd A s i ops.toList 0) s)) (fold D TR 0 s):=by
  refine Jf (D:=D) hanc hDi hnanc TR 0 (Gd (Jd A s i ops.toList 0) s) s (λ q o' e' hq hDq hna t ht=>?_) hvc (Vis.hide _ _ _)
  simp only [Nat.zero_add] at hDq hna
  refine NK (hdst hq) ht ?_ ?_ ?_ <;> simp only [Nat.zero_add]
  ·intro e;subst e;rw [hDi] at hDq;cases hDq
  ·exact hna
  ·exact hnanc q hDq
 have hsmall:∀ lit,R Γ n w0 (alD nx ops.size D) (HZ A ops.toList s TR i lit) m a w:=λ lit=>by
  refine h.less ?_ ?_
  ·intro t v hv
   simp only [HZ,YP] at hv
   obtain ⟨p1,p2⟩:=JD (p:=λ t=>!(mem (JB A i ops.toList 0) t)) hv
   rw [← hvis.1 t (F5.1 (by simpa using p1))];exact p2
  ·intro j E hE
   rcases hvis.2 j E hE with ⟨h1,E',h2⟩|h1
   ·exact .inl ⟨h1,(h.en _ _ h2).2.1⟩
   ·exact .inr h1
 have hend:∀ (e:Eff) (m' : Maps) (a' : Act) (w' : World),TR[i]?=some (o,e)->Stp Γ (alD nx ops.size D) (λ j=>nx+32*i<=j/\j<nx+32*i+32) o.dst m a w e m' a' w'->∃ m',R Γ n w0 (alD nx ops.size D') (fold D' TR 0 s) m' a' w':=by
  intro e m' a' w' hTi' hs
  have hr:=Stp.r h hs (by omega) (NH hd)
  have heq:=O3 (D:=D) (D':=D') (i:=i) (x:=(o,e)) hDi hD' TR 0 s (Nat.zero_le _) (by simpa using hTi') (λ q y hq hlt hDq=>by
   simp only [Nat.zero_add] at hlt hDq
   have hcc':=(Hs hck hTi').2
   simp only [Nat.zero_add] at hcc'
   exact Lk hcc' hq (by omega) (by
    cases ha:anc A i (0+q) with
    | false=>rfl
    | true=>
     have:=((FE hA hoi).2 (0+q) (by simpa using ha)).1
     omega) (by simpa using hnanc q hDq))
  refine ⟨m',(hr.more (al':=alD nx ops.size D') ?_ ?_).less (λ t v hv=>by rw [← heq.1];exact hv) (λ j E hE=>.inr (by rw [← heq.2];exact hE))⟩
  ·intro j hj
   rcases hj with (hj|⟨k,h1,h2,h3⟩)|hj
   ·exact .inl hj
   ·exact .inr ⟨k,h1,by rw [hD',h2];rfl,h3⟩
   ·exact .inr ⟨i,hi,by rw [hD'];simp,hj⟩
  ·rintro (hj|⟨k,_,_,h3,_⟩)
   ·exact absurd hj.1 (by omega)
   ·omega
 have hal:∀ j,alD nx ops.size D j->¬ (nx+32*i<=j/\j<nx+32*i+32):=by
  rintro j (hj|⟨k,h1,h2,h3,h4⟩) hx
  ·have:=hj.2;omega
  ·have:k=i:=by omega
   subst this;rw [hDi] at h2;cases h2
 have hrun:∀ lit,xop tt ct hints o (HZ A ops.toList s TR i lit) (nx+32*i) (·=e)->o.wp P a w (λ a' w'=>∃ m',R Γ n w0 (alD nx ops.size D') (fold D' TR 0 s) m' a' w') Q:=λ lit hx=>by
  have hs:=YJ (o:=o) (fr:=λ j=>nx+32*i<=j/\j<nx+32*i+32) hT hct (hsmall lit) hints hal (λ j h1 h2=>⟨h1,h2⟩) _ hx Q
  refine Oper.wp_mono ?_ hs
  rintro a' w' ⟨e',m',rfl,hstp⟩
  exact hend _ m' a' w' hTi hstp
 unfold wpOp
 simp only [hoi']
 cases hg:o.guard with
 | none=>
  rw [hg] at hrest
  rw [if_pos (by simp [Region.wanted,hg])]
  exact .inl (hrun lit hrest)
 | some jw=>
  obtain ⟨j,want⟩:=jw
  rw [hg] at hrest
  obtain ⟨ha,t,ht,hrest⟩:=hrest
  have hDj:=hanc j ha
  rcases hrest with ⟨hu,rfl⟩|⟨b,hv,hcase⟩
  ·have hbv:∃ x,a.tmps.getD t undef=.tuple x:=by
    unfold Wg at hu
    split at hu
    ·rename_i oj x u hj
     have hdj:oj.dst=some t:=by
      unfold DJ at ht
      rw [hdst hj] at ht
      simpa using ht
     have:=NL (D:=D) (k:=0) (X:=s) (by rw [hTR];exact hN) hj hdj (by simpa using hDj)
     exact ⟨x,(h.tm _ _ this).1⟩
    ·cases hu
   obtain ⟨x,hbv⟩:=hbv
   rw [I9 rfl hg ht hbv]
   simp only [Bool.false_eq_true,if_false]
   exact hend _ m _ _ hTi (Stp.skip h)
  have hbv:a.tmps.getD t undef=.bool b:=by
   unfold Rt at hv
   split at hv
   ·rename_i oj b' u hj
    simp only [Option.some.injEq] at hv
    subst hv
    have hdj:oj.dst=some t:=by
     unfold DJ at ht
     rw [hdst hj] at ht
     simpa using ht
    have:=NL (D:=D) (k:=0) (X:=s) (by rw [hTR];exact hN) hj hdj (by simpa using hDj)
    exact (h.tm _ _ this).1
   ·cases hv
  rw [Kn rfl hg ht hbv]
  rcases hcase with ⟨hbw,hx⟩|⟨hbw,rfl⟩
  ·subst hbw
   simp only [beq_self_eq_true,if_true]
   exact .inl (hrun lit hx)
  ·have hne:(b == want)=false:=by simpa using hbw
   rw [hne]
   simp only [Bool.false_eq_true,if_false]
   exact hend _ m _ _ hTi (Stp.skip h)
end
end Go.Proofs.YtkffpiaagjcmpaaGreat
namespace Go.Proofs.YtkffpiaagjcmpaaGreat
set_option linter.unusedVariables false
set_option linter.unusedSimpArgs false
open Go.RowKit
def cnt (l:List Bool):Nat:=(l.filter (!·)).length
theorem VG:∀ {l:List Bool} {i:Nat},l[i]?=some false->cnt (l.set i true)+1=cnt l
 | [],_,h=>by simp at h
 | x::r,0,h=>by simp at h;subst h;simp [cnt]
 | x::r,i+1,h=>by
  have:=VG (l:=r) (i:=i) (by simpa using h)
  cases x <;> simp [cnt] at this ⊢ <;> omega
theorem VH:∀ {l:List Bool} {i:Nat},l[i]?=some false->0<cnt l
 | [],_,h=>by simp at h
 | x::r,0,h=>by simp at h;subst h;simp [cnt]
 | x::r,i+1,h=>by
  have:=VH (l:=r) (i:=i) (by simpa using h)
  cases x <;> simp [cnt] at this ⊢ <;> omega
section
variable {P : Program} {tt : TT} {ct : CTs} {Γ : Env} {n : Nat} {w0 : World} {s : St} {m : Maps} {a : Act} {w : World} {nx : Nat}
theorem O4 {ops:Array Oper} {listed:Array Bool} (hs:listed.size=ops.size) {i:Nat} (h:i ∈ Region.ready .any ops listed) :
  i<ops.size/\BQ listed i=false/\∀ o,ops[i]?=some o->∀ j ∈ NJ o,BQ listed j=true:=by
 simp only [Region.ready,List.mem_filter,List.mem_range,Bool.and_eq_true,Bool.not_eq_true'] at h
 obtain ⟨h1,h2,h3⟩:=h
 refine ⟨h1,?_,λ o ho j hj=>?_⟩
 ·unfold BQ
  rw [Array.getD_eq_getD_getElem?] at h2 ⊢
  rw [Array.getElem?_eq_getElem (by omega)] at h2 ⊢
  simpa using h2
 ·rw [ho] at h3
  simp only [Option.map_some,Option.getD_some] at h3
  obtain ⟨e,he,rfl⟩:=List.mem_map.1 hj
  obtain ⟨he1,he2⟩:=List.mem_filter.1 he
  have:=Array.all_eq_true_iff_forall_mem.1 h3 e (by simpa using he1)
  simp only [Bool.or_eq_true,Bool.not_eq_true'] at this
  rcases this with h|h
  ·rw [he2] at h;cases h
  ·exact h
theorem YU {ops:Array Oper} {listed:Array Bool} (hs:listed.size=ops.size) {i:Nat} {o:Oper} (hi:ops[i]?=some o) (hd:BQ listed i=false) (h:∀ j ∈ NJ o,BQ listed j=true):i ∈ Region.ready .any ops listed:=by
 have hlt:i<ops.size:=(Array.getElem?_eq_some_iff.1 hi).1
 simp only [Region.ready,List.mem_filter,List.mem_range,Bool.and_eq_true,Bool.not_eq_true']
 refine ⟨hlt,?_,?_⟩
 ·unfold BQ at hd
  rw [Array.getD_eq_getD_getElem?] at hd ⊢
  rw [Array.getElem?_eq_getElem (by omega)] at hd ⊢
  simpa using hd
 ·rw [hi]
  simp only [Option.map_some,Option.getD_some]
  refine Array.all_eq_true_iff_forall_mem.2 λ e he=>?_
  simp only [Bool.or_eq_true,Bool.not_eq_true']
  cases hb:Region.binds .any e with
  | false=>exact .inl rfl
  | true=>exact .inr (h _ (List.mem_map.2 ⟨e,List.mem_filter.2 ⟨by simpa using he,hb⟩,rfl⟩))
theorem YV (hT:TTok P tt) (hct:CTok P ct Γ.mono) {hints:List Nat} {ops:Array Oper} {A:List (List Nat)} {TR:Tr} (hA:Hq A ops.toList 0=true) (hN:(Fx ops.toList).Nodup) (hTR:TR.map (·.1)=ops.toList) (h0:0<nx)
  (hok:∀ i,i<ops.size->YT tt ct hints n ops.toList A s nx TR i) (hck:Ge A s TR TR 0=true) {Q:Exit->Act->World->Prop} (hQ:∀ m a w,R Γ n w0 (alN (nx+32*ops.size)) (fold (λ _=>true) TR 0 s) m a w->Q .normal a w) :
  ∀ (fuel:Nat) (listed:Array Bool) {m:Maps} {a:Act} {w:World},listed.size=ops.size->cnt listed.toList<=fuel->(∀ k,BQ listed k=true->∀ q,anc A k q=true->BQ listed q=true) ->
   R Γ n w0 (alD nx ops.size (BQ listed)) (fold (BQ listed) TR 0 s) m a w->wpAny P .any ops Q fuel listed a w:=by
 have hlen:TR.length=ops.size:=by have:=congrArg List.length hTR;simpa using this
 have hfin:∀ (listed:Array Bool) (m:Maps) (a:Act) (w:World),listed.size=ops.size->Region.ready .any ops listed=[]->R Γ n w0 (alD nx ops.size (BQ listed)) (fold (BQ listed) TR 0 s) m a w->Q .normal a w:=by
  intro listed m a w hs hr h
  have hall:∀ i,i<ops.size->BQ listed i=true:=by
   intro i
   induction i using Nat.strongRecOn with
   | _ i ih=>
    intro hi
    cases hd:BQ listed i with
    | true=>rfl
    | false=>
     have ho:ops[i]?=some ops[i]:=Array.getElem?_eq_getElem hi
     have:=YU hs ho hd λ j hj=>by
      have hj':=((FE (i:=i) (o:=ops[i]) hA (by rw [Array.getElem?_toList];exact ho)).1 j hj).1
      exact ih j (by omega) (by omega)
     rw [hr] at this
     cases this
  have hf:∀ (tr:Tr) (k:Nat) (X:St),k+tr.length<=ops.size->fold (BQ listed) tr k X=fold (λ _=>true) tr k X:=by
   intro tr
   induction tr with
   | nil=>intro k X _;rfl
   | cons y r ih=>
    intro k X hk
    obtain ⟨o,e⟩:=y
    simp only [List.length_cons] at hk
    simp only [fold,hall k (by omega)]
    exact ih (k+1) _ (by omega)
  rw [hf TR 0 s (by omega)] at h
  refine hQ m a w (h.more ?_ ?_)
  ·rintro j (hj|⟨k,h1,_,h3,h4⟩)
   ·unfold alN at *;omega
   ·unfold alN;omega
  ·unfold alN;omega
 intro fuel
 induction fuel with
 | zero=>
  intro listed m a w hs hc hcl h
  have hr:Region.ready .any ops listed=[]:=by
   cases hr:Region.ready .any ops listed with
   | nil=>rfl
   | cons i r=>
    obtain ⟨h1,h2,-⟩:=O4 hs (i:=i) (by rw [hr];simp)
    have:listed.toList[i]?=some false:=by
     unfold BQ at h2
     rw [Array.getD_eq_getD_getElem?,Array.getElem?_eq_getElem (by omega)] at h2
     rw [Array.getElem?_toList,Array.getElem?_eq_getElem (by omega)]
     simpa using h2
    have:=VH this
    omega
  exact ⟨hr,hfin listed m a w hs hr h⟩
 | succ fuel ih=>
  intro listed m a w hs hc hcl h
  refine ⟨λ hr=>hfin listed m a w hs hr h,λ i hi=>?_⟩
  obtain ⟨h1,h2,h3⟩:=O4 hs hi
  have ho:ops[i]?=some ops[i]:=Array.getElem?_eq_getElem h1
  have hanc:∀ q,anc A i q=true->BQ listed q=true:=λ q hq=>by
   obtain ⟨-,j,hj,e⟩:=(FE (i:=i) (o:=ops[i]) hA (by rw [Array.getElem?_toList];exact ho)).2 q (by simpa using hq)
   have hdj:=h3 _ ho j hj
   rcases e with rfl|e
   ·exact hdj
   ·exact hcl j hdj q e
  have hset:∀ k,BQ (listed.setIfInBounds i true) k=(BQ listed k || Nat.beq k i):=λ k=>by
   unfold BQ
   rw [Array.getD_eq_getD_getElem?,Array.getD_eq_getD_getElem?]
   by_cases hk:k=i
   ·subst hk
    rw [Array.getElem?_setIfInBounds_self_of_lt (by omega)];simp
   ·rw [Array.getElem?_setIfInBounds_ne (λ e=>hk e.symm),QD hk,Bool.or_false]
  have hDN:∀ k,BQ listed k=true->k<ops.size:=λ k hk=>by
   rcases Nat.lt_or_ge k ops.size with h|h
   ·exact h
   ·unfold BQ at hk
    rw [Array.getD_eq_getD_getElem?,Array.getElem?_eq_none (by omega)] at hk
    cases hk
  have hstep:=Wh (D:=BQ listed) (D':=BQ (listed.setIfInBounds i true)) (Q:=Q) hT hct hA hN hTR h0 hok hck h1 h2 hset hcl hanc hDN h
  refine wpOp_mono ?_ hstep
  rintro a' w' ⟨m',h'⟩
  refine ih _ (by simp [hs]) ?_ ?_ h'
  ·have:listed.toList[i]?=some false:=by
    unfold BQ at h2
    rw [Array.getD_eq_getD_getElem?,Array.getElem?_eq_getElem (by omega)] at h2
    rw [Array.getElem?_toList,Array.getElem?_eq_getElem (by omega)]
    simpa using h2
   have:=VG this
   rw [Array.toList_setIfInBounds]
   omega
  ·intro k hk q hq
   rw [hset,Bool.or_eq_true] at hk ⊢
   rcases hk with hk|hk
   ·exact .inl (hcl k hk q hq)
   ·obtain rfl:=Nat.eq_of_beq_eq_true hk
    exact .inl (hanc q hq)
theorem R.lits {al:Nat->Prop} (h:R Γ n w0 al s m a w) (lit:List Nat):R Γ n w0 al { s with lit:=lit } m a w:=h.eq rfl rfl
theorem Jh (hm:P.follows .mixedOrders=true) (hT:TTok P tt) (hct:CTok P ct Γ.mono) (hdet:∀ f c,(f,c) ∈ ct->c.alt=none) {hints:List Nat} {id:Nat} {ops:Array Oper} {q:St->Nat->Prop} (hx:QC tt ct hints n ops.toList s nx q) (h0:0<nx) (h:R Γ n w0 (alN nx) s m a w) {Q:Exit->Act->World->Prop}
  (hQ:∀ s' nx' m' a' w',0<nx'->q s' nx'->R Γ n w0 (alN nx') s' m' a' w'->Q .normal a' w'):(Code.region id ops true).wp P Q a w:=by
 unfold QC at hx
 split at hx
 ·exact hx.elim
 ·rename_i hc
  simp only [Bool.and_eq_true] at hc
  obtain ⟨hA,hN⟩:=hc
  obtain ⟨TR,lit,hq,hl,hok⟩:=Lj hdet hA _ 0 [] _ _ hx rfl (λ k=>by simp)
  simp only [List.nil_append,Nat.zero_add] at hq hok
  split at hq
  ·exact hq.elim
  ·rename_i hck
   have hTR:TR.map (·.1)=ops.toList:=by
    apply List.ext_getElem?
    intro i
    by_cases hi:i<ops.toList.length
    ·obtain ⟨o,e,lit,h1,h2,-⟩:=hok i hi
     rw [List.getElem?_map,h1,h2];rfl
    ·rw [List.getElem?_eq_none (by simp [hl] at hi ⊢;omega),List.getElem?_eq_none (by omega)]
   refine wp_region_any hm (YV hT hct hA (Dc hN) hTR h0 (λ i hi=>hok i (by simpa using hi)) hck (λ m' a' w' h'=>hQ _ _ m' a' w' (by omega) hq (by rw [Array.length_toList];exact h'.lits lit)) ops.size _ (by simp) ?_ ?_ (m:=m) ?_)
   ·have:∀ l:List Bool,cnt l<=l.length:=λ l=>List.length_filter_le _ _
    exact Nat.le_trans (this _) (by simp)
   ·intro k hk
    exfalso
    unfold BQ at hk
    rw [Array.getD_eq_getD_getElem?] at hk
    rw [Array.getElem?_replicate] at hk
    split at hk <;> cases hk
   ·have hf:∀ (tr:Tr) (k:Nat) (X:St),fold (BQ (Array.replicate ops.size false)) tr k X=X:=by
     intro tr
     induction tr with
     | nil=>intro k X;rfl
     | cons y r ih=>
      intro k X
      obtain ⟨o,e⟩:=y
      have:BQ (Array.replicate ops.size false) k=false:=by
       unfold BQ
       rw [Array.getD_eq_getD_getElem?]
       rw [Array.getElem?_replicate]
       split <;> rfl
      simp only [fold,this]
      exact ih _ _
    rw [hf]
    exact h.drew.more (λ i hi=>.inl hi) (by
     rintro (hj|⟨k,_,_,h3,_⟩)
     ·exact absurd hj.1 (by omega)
     ·omega)
end
end Go.Proofs.YtkffpiaagjcmpaaGreat
