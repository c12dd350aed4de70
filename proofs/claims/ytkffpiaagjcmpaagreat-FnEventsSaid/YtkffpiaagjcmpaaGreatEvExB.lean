import Derived.Test.YtkffpiaagjcmpaaGreatEvExA
import Derived.Test.YtkffpiaagjcmpaaGreatEvBas
import Derived.Laws.Cover3
namespace Go.Proofs.YtkffpiaagjcmpaaGreat
set_option linter.unusedVariables false
set_option linter.unusedSimpArgs false
open Go.RowKit
inductive DC where
 | im (v:Value)
 | sl (e:Nat) (ts:List Ty) (rows:List (List Dat))
 | ro (d:RO)
inductive DA where
 | one (c:DC)
 | agg (cs:List DC)
def DA.cells:DA->List DC
 | .one c=>[c]
 | .agg cs=>cs
inductive RC where
 | im (v:Value)
 | own (e:Nat) (ts:List Ty) (rows:List (List Dat))
 | view (e:Nat) (ts:List Ty) (rows:List (List Dat))
 | top (e:Nat) (ts:List Ty) (rows:List (List Dat))
structure RT where
 tup:Bool
 sh:List (Option Nat)
 cells:List RC
def BA:List DA->List Value->List Value
 | [],_=>[]
 | .one _::r,us=>us.headD undef::BA r us.tail
 | .agg cs::r,us=>.agg (us.take cs.length).toArray::BA r (us.drop cs.length)
def NP:List (Option Nat)->List Value->List Value
 | [],_=>[]
 | none::r,us=>us.headD undef::NP r us.tail
 | some n::r,us=>.agg (us.take n).toArray::NP r (us.drop n)
def RT.val (r:RT) (us:List Value):Value:=if r.tup then .tuple (NP r.sh us).toArray else (NP r.sh us).headD undef
def asA:List (Option Nat)->List C->List A
 | [],_=>[]
 | none::r,cs=>.one (cs.headD (.im undef))::asA r cs.tail
 | some n::r,cs=>.agg (cs.take n)::asA r (cs.drop n)
def RT.t (r:RT) (cs:List C):T:=if r.tup then .tup (asA r.sh cs) else .one ((asA r.sh cs).headD (.one (.im undef)))
theorem LH (m:Maps):∀ (sh:List (Option Nat)) (cs:List C),(asA sh cs).map (A.den m)=NP sh (cs.map (C.den m))
 | [],cs=>rfl
 | none::r,cs=>by
  simp only [asA,NP,List.map_cons,LH m r]
  cases cs <;> simp [A.den,C.den]
 | some n::r,cs=>by simp only [asA,NP,List.map_cons,LH m r,A.den,List.map_take,List.map_drop]
theorem RT.t_den (m:Maps) (r:RT) (cs:List C):(r.t cs).den m=r.val (cs.map (C.den m)):=by
 unfold RT.t RT.val
 split
 ·simp [T.den,LH]
 ·simp only [T.den]
  rw [← LH]
  cases asA r.sh cs <;> simp [A.den,C.den]
theorem T6 {sh:List (Option Nat)} : ∀ {cs:List C} {x:A},x ∈ asA sh cs->∀ i ∈ x.ids,∃ c ∈ cs,i ∈ c.ids:=by
 induction sh with
 | nil=>intro cs x hx;simp [asA] at hx
 | cons q r ih=>
  intro cs x hx i hi
  cases q with
  | none=>
   simp only [asA,List.mem_cons] at hx
   rcases hx with rfl|hx
   ·cases cs with
    | nil=>simp [A.ids,C.ids] at hi
    | cons c cs=>exact ⟨c,by simp,by simpa [A.ids] using hi⟩
   ·obtain ⟨c,hc,h⟩:=ih hx i hi
    exact ⟨c,List.mem_of_mem_tail hc,h⟩
  | some n=>
   simp only [asA,List.mem_cons] at hx
   rcases hx with rfl|hx
   ·simp only [A.ids,List.mem_flatMap] at hi
    obtain ⟨c,hc,h⟩:=hi
    exact ⟨c,List.mem_of_mem_take hc,h⟩
   ·obtain ⟨c,hc,h⟩:=ih hx i hi
    exact ⟨c,List.mem_of_mem_drop hc,h⟩
theorem RT.t_ids {r:RT} {cs:List C} {i:Nat} (h:i ∈ (r.t cs).ids):∃ c ∈ cs,i ∈ c.ids:=by
 unfold RT.t at h
 split at h
 ·simp only [T.ids,List.mem_flatMap] at h
  obtain ⟨x,hx,h⟩:=h
  exact T6 hx i h
 ·simp only [T.ids] at h
  cases hq:asA r.sh cs with
  | nil=>rw [hq] at h;simp [A.ids,C.ids] at h
  | cons x y=>rw [hq] at h;exact T6 (sh:=r.sh) (x:=x) (by rw [hq];simp) i (by simpa using h)
inductive PC where
 | im (v:Value)
 | bt (bs:List UInt8)
structure Con where
 ι:Type
 pre:ι->Prop
 args:ι->List DA
 mu:List Nat:=[]
 gone:List Nat:=[]
 new:ι->List (List (List Dat)):=λ _=>[]
 res:ι->RT
 /-- which function argument is meant: its number and one; 0: any -/
 tag:Nat:=0
 /-- the draws that are counted grow only -/
 mono:Bool:=false
 /-- what comes back need not be i's: it is that of some j that goes with i -/
 alt:Option (ι->ι->Prop):=none
 /-- ahead of the arguments stands a pointer to a variable: its cells before, and behind -/
 ptr:Option ((ι->List PC)×(ι->List PC)):=none
 /-- what comes back is a pointer to a new variable: its cells; the bytes are those of the first argument -/
 newp:Option (ι->List PC):=none
 /-- a nil slice that is handed over is meant as that very value -/
 nilA:Bool:=false
def Cr (F:Nat->Prop) (w:World):DC->Value->Prop
 | .im v,u=>u=v
 | .sl e ts rows,u=>RdS F w (.sl e ts) (.sl rows) u
 | .ro d,u=>ROAt F w d u
structure ArgsAt (F:Nat->Prop) (w:World) (mu:List Nat) (mb:Nat->List Nat) (dcs:List DC) (us:List Value):Prop where
 len:us.length=dcs.length
 lt:∀ b,F b->b<w.heap.size
 rd:∀ p d u,dcs[p]?=some d->us[p]?=some u->p ∉ mu->Cr F w d u
 own:∀ j p,mu[j]?=some p->∃ e ts rows u,dcs[p]?=some (.sl e ts rows)/\us[p]?=some u/\Fp w (.sl e ts) (.sl rows) u (mb j)/\(mb j).Nodup
 dis:∀ i j b,i≠j->i<mu.length->j<mu.length->b ∈ mb i->b ∉ mb j
 out:∀ j b,j<mu.length->b ∈ mb j->¬ F b
 st:Stood w
 sb:∀ j b,j<mu.length->b ∈ mb j->b ∉ stB
def BE (F : Nat → Prop) (w w' : World) (all : List Nat) : List RC → List Value → List Nat → Prop
  | [], [], bs => bs = []
  | .im v :: r, u :: us, bs => u = v ∧ BE F w w' all r us bs
  | .own e ts rows :: r, u :: us, bs => ∃ b1 b2, bs = b1 ++ b2 ∧ Fp w' (.sl e ts) (.sl rows) u b1 ∧ BE F w w' all r us b2
  | .top e ts rows :: r, u :: us, bs => ∃ b1 b2, bs = b1 ++ b2 ∧ (∃ rv : List (List Value), w'.ownsRow 0 e ts.length u rv.length rv.flatten ∧ rv.length = rows.length ∧ (∀ r ∈ rv, r.length = ts.length) ∧
      (∀ k, k < rows.length → RdRowS (fun b => F b ∨ (w.heap.size ≤ b ∧ b ∉ all)) w' ts (rows.getD k []) (rv.getD k [])) ∧ ∀ b, u.ownBlock = some b → b ∈ b1) ∧ BE F w w' all r us b2
  | .view e ts rows :: r, u :: us, bs => RdS (fun b => F b ∨ (w.heap.size ≤ b ∧ b ∉ all)) w' (.sl e ts) (.sl rows) u ∧ BE F w w' all r us bs
  | _, _, _ => False
structure Con.PostA (c:Con) (i j0:c.ι) (F:Nat->Prop) (w:World) (us:List Value) (mb:Nat->List Nat) (rs:List Value) (bs:List Nat) (w' : World):Prop where
 res:BE F w w' bs (c.res j0).cells rs bs
 nd:bs.Nodup
 fresh:∀ b ∈ bs,w.heap.size<=b∨∃ j,j ∈ c.gone/\j<c.mu.length/\b ∈ mb j
 /-- what was turned holds its new rows; its blocks may stand in another order (a sort), unless a value comes back alone -/
 turned:∀ j p e ts rows u,j ∉ c.gone->c.mu[j]?=some p->((c.args i).flatMap DA.cells)[p]?=some (.sl e ts rows)->us[p]?=some u->∃ bt,Fp w' (.sl e ts) (.sl ((c.new j0).getD j [])) u bt/\bt.Nodup/\(∀ b ∈ bt,b ∈ mb j)/\((∃ v,c.res j0=⟨false,[none],[.im v]⟩)->bt=mb j)
 os:w'.os=w.os
 tape:w'.tape=w.tape
 output:w'.output=w.output
 size:w.heap.size<=w'.heap.size
 keep:∀ b,b<w.heap.size->(∀ j,j<c.mu.length->b ∉ mb j)->w'.heap[b]?=w.heap[b]?
abbrev Con.Post (c:Con) (i:c.ι) (F:Nat->Prop) (w:World) (us:List Value) (mb:Nat->List Nat) (rs:List Value) (bs:List Nat) (w' : World):Prop:=c.PostA i i F w us mb rs bs w'
structure Con.Ok (P:Program) (f:Nat) (c:Con):Prop where
 enter:∃ fn,P.funcs[f]?=some fn/\fn.name ≠ "runtime.NumGoroutine" /\ fn.body.isNone=false
 small:∀ i,(c.res i).cells.length<=32
 calls:∀ i,c.pre i->∀ F w us mb,ArgsAt F w c.mu mb ((c.args i).flatMap DA.cells) us->Calls P f (BA (c.args i) us).toArray w λ e w'=>∃ rs bs,e=.returned ((c.res i).val rs)/\c.Post i F w us mb rs bs w'
 quiet:c.mono=true->∀ i,c.pre i->∀ F w us mb,ArgsAt F w c.mu mb ((c.args i).flatMap DA.cells) us->Calls P f (BA (c.args i) us).toArray w λ e w'=>∃ rs bs,e=.returned ((c.res i).val rs)/\c.Post i F w us mb rs bs w'/\w.drawn<=w'.drawn:=by intro h;cases h
theorem Con.Ok.run {P:Program} {f:Nat} {c:Con} (hok:c.Ok P f) {M:Bool} (hM:M=true->c.mono=true):∀ i,c.pre i->∀ F w us mb,ArgsAt F w c.mu mb ((c.args i).flatMap DA.cells) us->Calls P f (BA (c.args i) us).toArray w λ e w'=>∃ rs bs,e=.returned ((c.res i).val rs)/\c.Post i F w us mb rs bs w'/\(M=true->w.drawn<=w'.drawn):=by
 intro i hp F w us mb h
 cases M with
 | false=>exact (hok.calls i hp F w us mb h).mono λ e w' ⟨rs,bs,he,hq⟩=>⟨rs,bs,he,hq,λ h=>by cases h⟩
 | true=>exact (hok.quiet (hM rfl) i hp F w us mb h).mono λ e w' ⟨rs,bs,he,hq,hd⟩=>⟨rs,bs,he,hq,λ _=>hd⟩
structure Con.OkE (P:Program) (f:Nat) (c:Con) (a:c.ι->c.ι->Prop):Prop where
 enter:∃ fn,P.funcs[f]?=some fn/\fn.name ≠ "runtime.NumGoroutine" /\ fn.body.isNone=false
 small:∀ i,(c.res i).cells.length<=32
 mu:c.mu=[]
 calls:∀ i,c.pre i->∀ F w us mb,ArgsAt F w c.mu mb ((c.args i).flatMap DA.cells) us->Calls P f (BA (c.args i) us).toArray w λ e w'=>∃ j,a i j/\∃ rs bs,e=.returned ((c.res j).val rs)/\c.PostA i j F w us mb rs bs w'/\(c.mono=true->w.drawn<=w'.drawn)
def Con.OkA (P:Program) (f:Nat) (c:Con):Prop:=(c.alt=none/\c.Ok P f)∨∃ a,c.alt=some a/\c.OkE P f a
def Con.to (c:Con) (i j:c.ι):Prop:=match c.alt with|none=>j=i|some a=>a i j
theorem Con.OkA.ok {P:Program} {f:Nat} {c:Con} (h:c.OkA P f) (hm:c.mu≠[]):c.Ok P f:=by
 rcases h with h|⟨a,_,h⟩
 ·exact h.2
 ·exact absurd h.mu hm
theorem Con.OkA.enter {P:Program} {f:Nat} {c:Con} (h:c.OkA P f):∃ fn,P.funcs[f]?=some fn/\fn.name ≠ "runtime.NumGoroutine" /\ fn.body.isNone=false:=by
 rcases h with h|⟨a,_,h⟩
 ·exact h.2.enter
 ·exact h.enter
theorem Con.OkA.small {P:Program} {f:Nat} {c:Con} (h:c.OkA P f):∀ i,(c.res i).cells.length<=32:=by
 rcases h with h|⟨a,_,h⟩
 ·exact h.2.small
 ·exact h.small
theorem Con.OkA.run {P:Program} {f:Nat} {c:Con} (hok:c.OkA P f) {M:Bool} (hM:M=true->c.mono=true):∀ i,c.pre i->∀ F w us mb,ArgsAt F w c.mu mb ((c.args i).flatMap DA.cells) us->Calls P f (BA (c.args i) us).toArray w λ e w'=>∃ j,c.to i j/\∃ rs bs,e=.returned ((c.res j).val rs)/\c.PostA i j F w us mb rs bs w'/\(M=true->w.drawn<=w'.drawn):=by
 intro i hp F w us mb h
 rcases hok with ⟨ha,hok⟩|⟨a,ha,hok⟩
 ·exact (hok.run hM i hp F w us mb h).mono λ e w' hq=>⟨i,by unfold Con.to;rw [ha],hq⟩
 ·exact (hok.calls i hp F w us mb h).mono λ e w' ⟨j,hj,rs,bs,he,hq,hd⟩=>⟨j,by unfold Con.to;rw [ha];exact hj,rs,bs,he,hq,λ h=>hd (hM h)⟩
def Wr (F:Nat->Prop) (w:World):PC->Value->Prop
 | .im v,u=>u=v
 | .bt bs,u=>Fj F w bs u
def H7:List PC->List Value->List Value
 | .im v::r,_::us=>v::H7 r us
 | .bt _::r,u::us=>u::H7 r us
 | _,us=>us
structure PtrIn (F:Nat->Prop) (w:World) (cs:List PC) (B:Nat) (vs:List Value):Prop where
 out:¬ F B
 sb:B ∉ stB
 at_:∃ t,w.heap[B]?=some (.cells vs.toArray t (0,0))
 len:vs.length=cs.length
 rd:∀ (q:Nat) (d:PC) (u:Value),cs[q]?=some d->vs[q]?=some u->Wr F w d u
structure Con.PostP (c:Con) (i:c.ι) (pn:c.ι->List PC) (F:Nat->Prop) (w:World) (B:Nat) (vs rs:List Value) (bs:List Nat) (w' : World):Prop where
 res:BE F w w' bs (c.res i).cells rs bs
 nd:bs.Nodup
 fresh:∀ b ∈ bs,w.heap.size<=b
 turned:∃ t,w'.heap[B]?=some (.cells (H7 (pn i) vs).toArray t (0,0))
 os:w'.os=w.os
 tape:w'.tape=w.tape
 output:w'.output=w.output
 size:w.heap.size<=w'.heap.size
 keep:∀ b,b<w.heap.size->b≠B->w'.heap[b]?=w.heap[b]?
structure Con.OkP (P:Program) (f:Nat) (c:Con) (cs pn:c.ι->List PC):Prop where
 enter:∃ fn,P.funcs[f]?=some fn/\fn.name ≠ "runtime.NumGoroutine" /\ fn.body.isNone=false
 small:∀ i,(c.res i).cells.length<=32
 calls:∀ i,c.pre i->∀ F w us B vs,ArgsAt F w [] (λ _=>[]) ((c.args i).flatMap DA.cells) us->PtrIn F w (cs i) B vs->Calls P f (.pointer (some ⟨B,0,none⟩)::BA (c.args i) us).toArray w λ e w'=>∃ rs bs,e=.returned ((c.res i).val rs)/\c.PostP i pn F w B vs rs bs w'/\(c.mono=true->w.drawn<=w'.drawn)
def Ov (v:Value):List PC->List Value
 | []=>[]
 | .im x::r=>x::Ov v r
 | .bt _::r=>v::Ov v r
structure Con.PostN (c:Con) (i:c.ι) (pc:c.ι->List PC) (w:World) (us:List Value) (B:Nat) (w' : World):Prop where
 fresh:w.heap.size<=B
 at_:∃ t,w'.heap[B]?=some (.cells (Ov (us.headD undef) (pc i)).toArray t (0,0))
 os:w'.os=w.os
 tape:w'.tape=w.tape
 output:w'.output=w.output
 size:w.heap.size<=w'.heap.size
 keep:∀ b,b<w.heap.size->w'.heap[b]?=w.heap[b]?
structure Con.OkN (P:Program) (f:Nat) (c:Con) (pc:c.ι->List PC):Prop where
 enter:∃ fn,P.funcs[f]?=some fn/\fn.name ≠ "runtime.NumGoroutine" /\ fn.body.isNone=false
 calls:∀ i,c.pre i->∀ F w us,ArgsAt F w [] (λ _=>[]) ((c.args i).flatMap DA.cells) us->Calls P f (BA (c.args i) us).toArray w λ e w'=>∃ B,e=.returned (.pointer (some ⟨B,0,none⟩))/\c.PostN i pc w us B w'/\(c.mono=true->w.drawn<=w'.drawn)
def Con.OkB (P:Program) (f:Nat) (c:Con):Prop:=(c.ptr=none/\c.newp=none/\c.OkA P f)∨(∃ cs pn,c.ptr=some (cs,pn)/\c.OkP P f cs pn)∨∃ pc,c.ptr=none/\c.newp=some pc/\c.OkN P f pc
theorem Con.OkB.a {P:Program} {f:Nat} {c:Con} (h:c.OkB P f) (h0:c.ptr=none) (h1:c.newp=none):c.OkA P f:=by
 rcases h with h|⟨cs,pn,h,-⟩|⟨pc,-,h,-⟩
 ·exact h.2.2
 ·rw [h0] at h;cases h
 ·rw [h1] at h;cases h
theorem Con.OkB.p {P:Program} {f:Nat} {c:Con} {cs pn:c.ι->List PC} (h:c.OkB P f) (h0:c.ptr=some (cs,pn)):c.OkP P f cs pn:=by
 rcases h with ⟨h,-⟩|⟨cs',pn',h,hp⟩|⟨pc,h,-,-⟩
 ·rw [h0] at h;cases h
 ·rw [h0] at h;cases h;exact hp
 ·rw [h0] at h;cases h
theorem Con.OkB.n {P:Program} {f:Nat} {c:Con} {pc:c.ι->List PC} (h:c.OkB P f) (h0:c.ptr=none) (h1:c.newp=some pc):c.OkN P f pc:=by
 rcases h with ⟨-,h,-⟩|⟨cs',pn',h,hp⟩|⟨pc',-,h,hp⟩
 ·rw [h1] at h;cases h
 ·rw [h0] at h;cases h
 ·rw [h1] at h;cases h;exact hp
abbrev CTs:=List (Nat×Con)
def CTok (P:Program) (ct:CTs) (M:Bool):Prop:=∀ f c,(f,c) ∈ ct->c.OkB P f/\(M=true->c.mono=true)
theorem CTok.nil (P:Program) {M:Bool} : CTok P [] M:=λ t i h=>by simp at h
theorem CTok.cons {P:Program} {M:Bool} {t:Nat} {i:Con} {ct:CTs} (h:i.Ok P t) (hT:CTok P ct M) (hM:M=true->i.mono=true:=by intro h;first|rfl|exact absurd h (by decide)) (hA:i.alt=none:=by rfl) (hP:i.ptr=none:=by rfl) (hN:i.newp=none:=by rfl):CTok P ((t,i)::ct) M:=λ u j hj=>by
 rcases List.mem_cons.1 hj with e|hj
 ·obtain ⟨rfl,rfl⟩:=Prod.mk.inj e;exact ⟨.inl ⟨hP,hN,.inl ⟨hA,h⟩⟩,hM⟩
 ·exact hT u j hj
theorem CTok.consP {P:Program} {M:Bool} {t:Nat} {i:Con} {ct:CTs} {cs pn:i.ι->List PC} (h:i.OkP P t cs pn) (hT:CTok P ct M) (hM:M=true->i.mono=true:=by intro h;first|rfl|exact absurd h (by decide)) (hP:i.ptr=some (cs,pn):=by rfl):CTok P ((t,i)::ct) M:=λ u j hj=>by
 rcases List.mem_cons.1 hj with e|hj
 ·obtain ⟨rfl,rfl⟩:=Prod.mk.inj e;exact ⟨.inr (.inl ⟨cs,pn,hP,h⟩),hM⟩
 ·exact hT u j hj
theorem CTok.consN {P:Program} {M:Bool} {t:Nat} {i:Con} {ct:CTs} {pc:i.ι->List PC} (h:i.OkN P t pc) (hT:CTok P ct M) (hM:M=true->i.mono=true:=by intro h;first|rfl|exact absurd h (by decide)) (hP:i.ptr=none:=by rfl) (hN:i.newp=some pc:=by rfl):CTok P ((t,i)::ct) M:=λ u j hj=>by
 rcases List.mem_cons.1 hj with e|hj
 ·obtain ⟨rfl,rfl⟩:=Prod.mk.inj e;exact ⟨.inr (.inr ⟨pc,hP,hN,h⟩),hM⟩
 ·exact hT u j hj
def QB:CTs->Nat->Nat->Option Con
 | [],_,_=>none
 | (g,c)::r,f,tag=>match Nat.beq g f && (Nat.beq c.tag 0 || Nat.beq c.tag tag) with|true=>some c|false=>QB r f tag
theorem LI {P:Program} {M:Bool} : ∀ {ct:CTs},CTok P ct M->∀ {f tag:Nat} {c:Con},QB ct f tag=some c->c.OkB P f/\(M=true->c.mono=true)
 | [],_,f,tag,c,h=>by simp [QB] at h
 | (g,d)::r,hT,f,tag,c,h=>by
  simp only [QB] at h
  split at h
  ·rename_i e
   simp only [Bool.and_eq_true,Nat.beq_eq] at e
   obtain rfl:=Option.some.inj h
   rw [← e.1];exact hT g d (by simp)
  ·exact LI (λ f c hc=>hT f c (List.mem_cons_of_mem _ hc)) h
theorem QC:∀ {ct:CTs} {f tag:Nat} {c:Con},QB ct f tag=some c->∃ g,(g,c) ∈ ct
 | [],f,tag,c,h=>by simp [QB] at h
 | (g,d)::r,f,tag,c,h=>by
  simp only [QB] at h
  split at h
  ·obtain rfl:=Option.some.inj h
   exact ⟨g,by simp⟩
  ·obtain ⟨g',h'⟩:=QC h
   exact ⟨g',List.mem_cons_of_mem _ h'⟩
def AAj (c:Con):Bool:=match c.alt with|none=>true|some _=>false
def KZ:CTs->CTs
 | []=>[]
 | (f,c)::r=>match AAj c with|true=>(f,c)::KZ r|false=>KZ r
theorem DQ:∀ {ct:CTs} {f:Nat} {c:Con},(f,c) ∈ KZ ct->(f,c) ∈ ct/\c.alt=none
 | [],f,c,h=>by simp [KZ] at h
 | (g,d)::r,f,c,h=>by
  simp only [KZ] at h
  split at h
  ·rename_i e
   rcases List.mem_cons.1 h with h|h
   ·obtain ⟨rfl,rfl⟩:=Prod.mk.inj h
    refine ⟨by simp,?_⟩
    unfold AAj at e
    split at e
    ·assumption
    ·cases e
   ·exact ⟨List.mem_cons_of_mem _ (DQ h).1,(DQ h).2⟩
  ·exact ⟨List.mem_cons_of_mem _ (DQ h).1,(DQ h).2⟩
theorem CTok.det {P:Program} {M:Bool} {ct:CTs} (h:CTok P ct M):CTok P (KZ ct) M:=λ f c hc=>h f c (DQ hc).1
def AAk:List DA->Nat
 | []=>0
 | .one (.ro (.fn g _))::_=>g+1
 | _::r=>AAk r
def ACT (x:Option (List DA×List C)):Nat:=
 match x with
 | some y=>AAk y.1
 | none=>0
def Ep (tt:TT):Nat->Nat->List Ty
 | 0,_=>[]
 | f+1,t=>
  match lkp tt t with
  | some { d:=.int _,.. }=>[.int]
  | some { d:=.bool,.. }=>[.bool]
  | some { d:=.str,.. }=>[.str]
  | some { d:=.slice e,.. }=>[.sl e (Ep tt f e)]
  | some { d:=.struct fs,.. }=>fs.flatMap λ x=>Ep tt f x.2.1
  | _=>[.int]
def SB (s:St):C->Option LC
 | .im v=>if v.oneCell'=true then some (.im v) else none
 | .ext k=>
  match Dq s k with
  | some (e,ts,rows,_)=>some (.sl e ts rows)
  | none=>none
 | _=>none
def C9 (s:St):C->List Nat
 | .ext k=>
  match Dq s k with
  | some (_,_,_,deps)=>deps
  | none=>[]
 | _=>[]
def Gf (s:St):List C->Option (List LC)
 | []=>some []
 | c::cs=>
  match SB s c,Gf s cs with
  | some d,some ds=>some (d::ds)
  | _,_=>none
def QD (s:St) (i:Nat):Option (List LC):=
 match lkp s.en i with
 | some (.box cs)=>Gf s cs
 | _=>none
def Dg (s:St) (i:Nat):List Nat:=
 match lkp s.en i with
 | some (.box cs)=>i::cs.flatMap (C9 s)
 | _=>[]
def Im (s:St):List Nat->Option (List (List LC))
 | []=>some []
 | i::is=>
  match QD s i,Im s is with
  | some d,some ds=>some (d::ds)
  | _,_=>none
def K6 (s:St) (k:Nat):Option RO:=
 match lkp s.en k with
 | some (.ro d _)=>some d
 | _=>none
def FE (s:St) (k:Nat):List Nat:=
 match lkp s.en k with
 | some (.ro _ deps)=>deps
 | _=>[]
def Ws (s:St) (x:Bool×Nat):Option (List LC):=
 if x.1=true then QD s x.2 else
 match K6 s x.2 with
 | some (.ptr cs)=>some cs
 | _=>none
def Er (s:St) (x:Bool×Nat):List Nat:=if x.1=true then Dg s x.2 else FE s x.2
def Lx (s:St):List (Bool×Nat)->Option (List (List LC))
 | []=>some []
 | i::is=>
  match Ws s i,Lx s is with
  | some d,some ds=>some (d::ds)
  | _,_=>none
def Ly (na:Bool) (s:St) (t:Ty) (c:C):Option DC:=
 match na,t,c with
 | false,.sl e ts,.im (.slice none 0 0)=>some (.sl e ts [])
 | _,_,.im v=>some (.im v)
 | _,_,.ext k=>
  match Dq s k with
  | some (e,ts,rows,_)=>some (.sl e ts rows)
  | none=>(K6 s k).map .ro
 | _,_,.bp i 0=>(QD s i).map λ cs=>.ro (.ptr cs)
 | _,_,.clo g is=>(Im s is).map λ l=>.ro (.fn g l)
 | _,_,.clx g is=>(Lx s is).map λ l=>.ro (.fn g l)
 | _,_,.cp k j=>
  match K6 s k with
  | some (.fn _ caps)=>(caps[j]?).map λ cs=>.ro (.ptr cs)
  | _=>none
 | _,_,_=>none
def Ka (na:Bool) (s:St):List Ty->List C->Option (List DC)
 | [],[]=>some []
 | t::ts,c::cs=>
  match Ly na s t c,Ka na s ts cs with
  | some d,some ds=>some (d::ds)
  | _,_=>none
 | _,_=>none
def ABx (na:Bool) (tt:TT) (s:St) (t:Nat) (a:T):Option (DA×List C):=
 match a with
 | .one (.one c)=>
  match Ep tt 9 t with
  | [ty]=>(Ly na s ty c).map λ d=>(.one d,[c])
  | _=>none
 | .one (.agg cs)=>(Ka na s (Ep tt 9 t) cs).map λ ds=>(.agg ds,cs)
 | .tup _=>none
def Gg (na:Bool) (tt:TT) (s:St):List Nat->List T->Option (List DA×List C)
 | [],[]=>some ([],[])
 | t::ts,a::as=>
  match ABx na tt s t a,Gg na tt s ts as with
  | some (d,c),some (ds,cs)=>some (d::ds,c++cs)
  | _,_=>none
 | _,_=>none
def Bm (s:St) (c:C):List Nat:=
 match c with
 | .ext k=>
  match Dq s k with
  | some (_,_,_,deps)=>deps
  | none=>FE s k
 | .bp i _=>Dg s i
 | .clo _ is=>is.flatMap (Dg s)
 | .clx _ is=>is.flatMap (Er s)
 | .cp k _=>FE s k
 | _=>[]
def Bn (s:St) (mu:List Nat):List C->Nat->List Nat
 | [],_=>[]
 | c::cs,p=>(if (mu.any (Nat.beq p))=true then [] else Bm s c)++Bn s mu cs (p+1)
def ABy (s:St) (cells:List C) (p:Nat):Option Nat:=
 match cells[p]? with
 | some (.ext k)=>
  match lkp s.en k with
  | some (.own _ _ _)=>some k
  | _=>none
 | _=>none
def QE (s:St) (cells:List C):List Nat->Option (List Nat)
 | []=>some []
 | p::ps=>
  match ABy s cells p,QE s cells ps with
  | some k,some ks=>some (k::ks)
  | _,_=>none
def Bg:List RC->Nat->List C
 | [],_=>[]
 | .im v::r,nx=>.im v::Bg r (nx+1)
 | .own _ _ _::r,nx=>.ext nx::Bg r (nx+1)
 | .view _ _ _::r,nx=>.ext nx::Bg r (nx+1)
 | .top _ _ _::r,nx=>.ext nx::Bg r (nx+1)
def In (deps:List Nat):List RC->Nat->List (Nat×En)
 | [],_=>[]
 | .im _::r,nx=>In deps r (nx+1)
 | .own e ts rows::r,nx=>(nx,.own e ts rows)::In deps r (nx+1)
 | .view e ts rows::r,nx=>(nx,.view e ts rows deps)::In deps r (nx+1)
 | .top e ts rows::r,nx=>(nx,.top e ts rows deps)::In deps r (nx+1)
def ZP (l:List Nat) (j:Nat):Bool:=l.any (Nat.beq j)
theorem SC {l:List Nat} {j:Nat} (h:ZP l j=false):j ∉ l:=λ hm=>by
 have:=List.any_eq_false.1 h j hm
 simp at this
def SD (s:St) (gone:List Nat) (new:List (List (List Dat))):List Nat->Nat->List (Nat×En)
 | [],_=>[]
 | k::ks,j=>(k,match ZP gone j with|true=>.dead|false=>match lkp s.en k with|some (.own e ts _)=>.own e ts (new.getD j [])|_=>.dead)::SD s gone new ks (j+1)
def Es (s:St) (nx:Nat) (deps ks gone:List Nat) (r:RT) (new:List (List (List Dat))):Eff:=
 ⟨r.t (Bg r.cells nx),In deps r.cells nx++SD s gone new ks 0⟩
def Wt (s:St) (cells:List C) (p:Nat):Option (Nat×List Prop×(List (List Dat)->List (List Dat))×(List (List Dat)->En)):=
 match cells[p]? with
 | some (.ext x)=>
  match lkp s.en x with
  | some (.mu e ts _ j)=>some (x,[],λ new=>new,λ R=>.mu e ts R j)
  | some (.part e ts rows k sz r c)=>
   match lkp s.en k with
   | some (.mu e0 ts0 rows0 j0)=>
    match ts0[c]? with
    | some (.sl e' ts')=>if (Nat.beq sz ts0.length && Nat.beq e e' && Ty.beqs ts ts')=true then some (k,[r<rows0.length,rows=((rows0.getD r []).getD c (.int 0)).r],λ new=>ABw rows0 r c (.sl new),λ R=>.mu e0 ts0 R j0) else none
    | _=>none
   | _=>none
  | _=>none
 | _=>none
def obs:List Prop->Prop->Prop
 | [],q=>q
 | p::r,q=>p/\obs r q
def Jh (tt:TT) (s:St) (c:Con) (ds:List DA) (cells:List C) (q:Eff->Prop):Prop:=
 match c.mu with
 | [p]=>
  match Wt s cells p with
  | some (k,ps,rw,mk)=>
   if (!((Bn s c.mu cells 0).any (Nat.beq k)))=true then
    ∃ i:c.ι,ds=c.args i/\c.pre i/\obs ps (match c.gone,c.res i with
     | [],⟨false,[none],[.im v]⟩=>∀ R:List (List Dat),R=rw ((c.new i).getD 0 [])->q ⟨.one (.one (.im v)),[(k,mk R)]⟩
     | _,_=>False)
   else False
  | none=>False
 | _=>False
def ABz (s:St):C->Option PC
 | .im v=>some (.im v)
 | .ext k=>
  match K6 s k with
  | some (.bytes bs)=>some (.bt bs)
  | _=>none
 | _=>none
def QF (s:St):List C->Option (List PC)
 | []=>some []
 | c::cs=>
  match ABz s c,QF s cs with
  | some d,some ds=>some (d::ds)
  | _,_=>none
def Bv (s:St):List C->List Nat
 | []=>[]
 | .ext k::r=>FE s k++Bv s r
 | _::r=>Bv s r
def FN:List PC->List C->List C
 | .im v::r,_::cs=>.im v::FN r cs
 | .bt _::r,c::cs=>c::FN r cs
 | _,cs=>cs
def Ji (tt:TT) (s:St) (nx:Nat) (c:Con) (cs pn:c.ι->List PC) (tys:List Nat) (as:List T) (q:Eff->Prop):Prop:=
 match tys,as with
 | _::tys,.one (.one (.bp k 0))::as=>
  match lkp s.en k,Gg false tt s tys as with
  | some (.box bx),some (ds,cells)=>
   match QF s bx with
   | none=>False
   | some pcs=>
    if (!((Bv s bx++Bn s [] cells 0).any (Nat.beq k)))=true then
     ∃ i:c.ι,ds=c.args i/\pcs=cs i/\c.pre i/\q ⟨(c.res i).t (Bg (c.res i).cells nx),In (Bv s bx++Bn s [] cells 0) (c.res i).cells nx++[(k,.box (FN (pn i) bx))]⟩
    else False
  | _,_=>False
 | _,_=>False
def NQ (k:Nat):List PC->List C
 | []=>[]
 | .im x::r=>.im x::NQ k r
 | .bt _::r=>.ext k::NQ k r
def Jj (tt:TT) (s:St) (nx:Nat) (c:Con) (pc:c.ι->List PC) (tys:List Nat) (as:List T) (q:Eff->Prop):Prop:=
 match Gg false tt s tys as with
 | some (ds,.ext k::_)=>
  match K6 s k with
  | some _=>∃ i:c.ι,ds=c.args i/\c.pre i/\q ⟨.one (.one (.bp nx 0)),[(nx,.box (NQ k (pc i)))]⟩
  | none=>False
 | _=>False
def Nq (tt:TT) (ct:CTs) (s:St) (nx f:Nat) (tys:List Nat) (as:List T) (q:Eff->Prop):Prop:=
 match QB ct f (ACT (Gg false tt s tys as)) with
 | none=>False
 | some c=>
  match c.ptr with
  | some (cs,pn)=>Ji tt s nx c cs pn tys as q
  | none=>
   match c.newp with
   | some pc=>Jj tt s nx c pc tys as q
   | none=>
   match Gg c.nilA tt s tys as with
   | none=>False
   | some (ds,cells)=>
    match QE s cells c.mu with
    | none=>Jh tt s c ds cells q
    | some ks=>if (ET ks && !(ks.any λ k=>(Bn s c.mu cells 0).any (Nat.beq k)))=true then ∃ i:c.ι,ds=c.args i/\c.pre i/\(match c.alt with
     | none=>q (Es s nx (Bn s c.mu cells 0) ks c.gone (c.res i) (c.new i))
     | some a=>∀ j:c.ι,a i j->q (Es s nx (Bn s c.mu cells 0) ks c.gone (c.res j) (c.new j))) else False
section
variable {P : Program} {tt : TT} {ct : CTs} {Γ : Env} {n : Nat} {w0 : World} {al fr : Nat → Prop} {s : St} {m : Maps} {a : Act} {w : World} {nx : Nat} {o : Oper}
theorem VH (h:R Γ n w0 al s m a w) {c:C} {d:LC} (hx:SB s c=some d):LCAt (λ b=>Γ.may m (C9 s c) b/\b<w.heap.size) w d (c.den m)/\∀ i ∈ C9 s c,al i:=by
 unfold SB at hx
 split at hx
 ·split at hx
  ·rename_i v hv
   simp only [Option.some.injEq] at hx
   subst hx
   exact ⟨⟨rfl,hv⟩,by simp [C9]⟩
  ·cases hx
 ·split at hx
  ·rename_i k e ts rows deps hk
   simp only [Option.some.injEq] at hx
   subst hx
   obtain ⟨⟨F,f1,f2⟩,-,f3⟩:=h.sl hk
   simp only [LCAt,C.den,C9,hk]
   have:=RdS.step (Nat.le_refl _) (λ _ _ _=>rfl) _ _ _ f1
   exact ⟨RdS.mono (λ b hb=>⟨f2 b hb.1,hb.2⟩) _ _ _ this,f3⟩
  ·cases hx
 ·cases hx
theorem Bh {Γ:Env} {m:Maps} {d1 d2:List Nat} (h:∀ i ∈ d1,i ∈ d2) {b:Nat} (hb:Γ.may m d1 b):Γ.may m d2 b:=by
 rcases hb with hb|hb|hb
 ·exact .inl hb
 ·exact .inr (.inl hb)
 ·exact .inr (.inr ⟨hb.1,h _ hb.2⟩)
theorem Kb (h:R Γ n w0 al s m a w):∀ {cs:List C} {ds:List LC},Gf s cs=some ds->(cs.map (C.den m)).length=ds.length/\(∀ (p:Nat) (d:LC) (v:Value),ds[p]?=some d->(cs.map (C.den m))[p]?=some v->LCAt (λ b=>Γ.may m (cs.flatMap (C9 s)) b/\b<w.heap.size) w d v)/\∀ i ∈ cs.flatMap (C9 s),al i
 | [],ds,hx=>by simp only [Gf,Option.some.injEq] at hx;subst hx;simp
 | c::cs,ds,hx=>by
  simp only [Gf] at hx
  split at hx
  ·rename_i d ds' h1 h2
   simp only [Option.some.injEq] at hx
   subst hx
   obtain ⟨y1,y2⟩:=VH h h1
   obtain ⟨z1,z2,z3⟩:=Kb h h2
   refine ⟨by simpa using z1,λ p d' v hd hv=>?_,λ i hi=>?_⟩
   ·cases p with
    | zero=>
     simp at hd hv
     subst hd;subst hv
     exact y1.mono λ b hb=>⟨Bh (λ i hi=>by simp [hi]) hb.1,hb.2⟩
    | succ p=>
     exact (z2 p d' v (by simpa using hd) (by simpa using hv)).mono λ b hb=>⟨Bh (λ i hi=>by rw [List.flatMap_cons];exact List.mem_append.2 (.inr hi)) hb.1,hb.2⟩
   ·rw [List.flatMap_cons] at hi
    rcases List.mem_append.1 hi with hi|hi
    ·exact y2 i hi
    ·exact z3 i hi
  ·cases hx
theorem Lz (h:R Γ n w0 al s m a w) {i:Nat} {cs:List LC} (hx:QD s i=some cs):PtrAt (λ b=>Γ.may m (Dg s i) b/\b<w.heap.size) w cs (.pointer (some ⟨m.β i,0,none⟩))/\∀ j ∈ Dg s i,al j:=by
 unfold QD at hx
 split at hx
 ·rename_i ds hl
  obtain ⟨⟨b1,b2,e,b3⟩,b4,b5⟩:=h.en _ _ hl
  obtain ⟨z1,z2,z3⟩:=Kb h hx
  simp only [Dg,hl]
  refine ⟨⟨m.β i,e,ds.map (C.den m),rfl,⟨.inr (.inr ⟨b1,by rw [b2];simp⟩),(Array.getElem?_eq_some_iff.1 b3).1⟩,b3,z1,λ p d v hd hv=>?_⟩,λ j hj=>?_⟩
  ·exact (z2 p d v hd hv).mono λ b hb=>⟨Bh (λ i hi=>List.mem_cons_of_mem _ hi) hb.1,hb.2⟩
  ·rcases List.mem_cons.1 hj with rfl|hj
   ·exact b4
   ·exact z3 j hj
 ·cases hx
theorem L0 (h:R Γ n w0 al s m a w):∀ {is:List Nat} {l:List (List LC)},Im s is=some l->is.length=l.length/\(∀ (p:Nat) (cs:List LC) (v:Value),l[p]?=some cs->(is.map λ i=>Value.pointer (some ⟨m.β i,0,none⟩))[p]?=some v->PtrAt (λ b=>Γ.may m (is.flatMap (Dg s)) b/\b<w.heap.size) w cs v)/\∀ j ∈ is.flatMap (Dg s),al j
 | [],l,hx=>by simp only [Im,Option.some.injEq] at hx;subst hx;simp
 | i::is,l,hx=>by
  simp only [Im] at hx
  split at hx
  ·rename_i d ds' h1 h2
   simp only [Option.some.injEq] at hx
   subst hx
   obtain ⟨y1,y2⟩:=Lz h h1
   obtain ⟨z1,z2,z3⟩:=L0 h h2
   refine ⟨by simpa using z1,λ p d' v hd hv=>?_,λ i hi=>?_⟩
   ·cases p with
    | zero=>
     simp at hd hv
     subst hd;subst hv
     exact y1.mono λ b hb=>⟨Bh (λ i hi=>by simp [hi]) hb.1,hb.2⟩
    | succ p=>
     exact (z2 p d' v (by simpa using hd) (by simpa using hv)).mono λ b hb=>⟨Bh (λ i hi=>by rw [List.flatMap_cons];exact List.mem_append.2 (.inr hi)) hb.1,hb.2⟩
   ·rw [List.flatMap_cons] at hi
    rcases List.mem_append.1 hi with hi|hi
    ·exact y2 i hi
    ·exact z3 i hi
  ·cases hx
theorem Dh (h:R Γ n w0 al s m a w) {k:Nat} {d:RO} (hx:K6 s k=some d):ROAt (λ b=>Γ.may m (FE s k) b/\b<w.heap.size) w d (m.ε k)/\al k/\∀ j ∈ FE s k,al j:=by
 unfold K6 at hx
 split at hx
 ·rename_i d' deps hl
  simp only [Option.some.injEq] at hx
  subst hx
  obtain ⟨⟨F,f1,f2⟩,f3,f4⟩:=h.en _ _ hl
  simp only [FE,hl]
  exact ⟨(f1.step (Nat.le_refl _) λ _ _ _=>rfl).mono λ b hb=>⟨f2 b hb.1,hb.2⟩,f3,f4⟩
 ·cases hx
theorem Jk (h:R Γ n w0 al s m a w) {k:Nat} : ∀ j ∈ FE s k,al j:=by
 intro j hj
 unfold FE at hj
 split at hj
 ·rename_i hl
  exact (h.en _ _ hl).2.2 j hj
 ·simp at hj
theorem QG (h:R Γ n w0 al s m a w) {c:C} : ∀ j ∈ C9 s c,al j:=by
 intro j hj
 unfold C9 at hj
 split at hj
 ·split at hj
  ·rename_i hk;exact (h.sl hk).2.2 j hj
  ·simp at hj
 ·simp at hj
theorem IH (h:R Γ n w0 al s m a w) {i:Nat} : ∀ j ∈ Dg s i,al j:=by
 intro j hj
 unfold Dg at hj
 split at hj
 ·rename_i hl
  rcases List.mem_cons.1 hj with rfl|hj
  ·exact (h.en _ _ hl).2.1
  ·obtain ⟨c,_,hj⟩:=List.mem_flatMap.1 hj
   exact QG h j hj
 ·simp at hj
theorem SE (h:R Γ n w0 al s m a w) {x:Bool×Nat} : ∀ j ∈ Er s x,al j:=by
 intro j hj
 unfold Er at hj
 split at hj
 ·exact IH h j hj
 ·exact Jk h j hj
theorem Wu (h:R Γ n w0 al s m a w) {x:Bool×Nat} {cs:List LC} (hx:Ws s x=some cs):PtrAt (λ b=>Γ.may m (Er s x) b/\b<w.heap.size) w cs (NL m x)/\∀ j ∈ Er s x,al j:=by
 unfold Ws at hx
 unfold Er NL
 split at hx
 ·rename_i h1
  rw [if_pos h1,if_pos h1]
  exact Lz h hx
 ·rename_i h1
  rw [if_neg h1,if_neg h1]
  split at hx
  ·rename_i cs' hk
   obtain rfl:=Option.some.inj hx
   exact ⟨(Dh h hk).1,(Dh h hk).2.2⟩
  ·cases hx
theorem Nr (h:R Γ n w0 al s m a w):∀ {is:List (Bool×Nat)} {l:List (List LC)},Lx s is=some l->is.length=l.length/\(∀ (p:Nat) (cs:List LC) (v:Value),l[p]?=some cs->(is.map (NL m))[p]?=some v->PtrAt (λ b=>Γ.may m (is.flatMap (Er s)) b/\b<w.heap.size) w cs v)/\∀ j ∈ is.flatMap (Er s),al j
 | [],l,hx=>by simp only [Lx,Option.some.injEq] at hx;subst hx;simp
 | i::is,l,hx=>by
  simp only [Lx] at hx
  split at hx
  ·rename_i d ds' h1 h2
   simp only [Option.some.injEq] at hx
   subst hx
   obtain ⟨y1,y2⟩:=Wu h h1
   obtain ⟨z1,z2,z3⟩:=Nr h h2
   refine ⟨by simpa using z1,λ p d' v hd hv=>?_,λ i hi=>?_⟩
   ·cases p with
    | zero=>
     simp at hd hv
     subst hd;subst hv
     exact y1.mono λ b hb=>⟨Bh (λ i hi=>by simp [hi]) hb.1,hb.2⟩
    | succ p=>
     exact (z2 p d' v (by simpa using hd) (by simpa using hv)).mono λ b hb=>⟨Bh (λ i hi=>by rw [List.flatMap_cons];exact List.mem_append.2 (.inr hi)) hb.1,hb.2⟩
   ·rw [List.flatMap_cons] at hi
    rcases List.mem_append.1 hi with hi|hi
    ·exact y2 i hi
    ·exact z3 i hi
  ·cases hx
theorem QH (h:R Γ n w0 al s m a w) {c:C} : ∀ j ∈ Bm s c,al j:=by
 intro j hj
 unfold Bm at hj
 split at hj
 ·split at hj
  ·rename_i hk;exact (h.sl hk).2.2 j hj
  ·exact Jk h j hj
 ·exact IH h j hj
 ·obtain ⟨i,_,hj⟩:=List.mem_flatMap.1 hj
  exact IH h j hj
 ·obtain ⟨i,_,hj⟩:=List.mem_flatMap.1 hj
  exact SE h j hj
 ·exact Jk h j hj
 ·simp at hj
theorem LJ (h:R Γ n w0 al s m a w) {na:Bool} {t:Ty} {c:C} {d:DC} (hx:Ly na s t c=some d):Cr (λ b=>Γ.may m (Bm s c) b/\b<w.heap.size) w d (c.den m):=by
 unfold Ly at hx
 split at hx
 ·simp only [Option.some.injEq] at hx
  subst hx
  simp only [Cr,RdS,C.den]
  exact ⟨[],⟨none,0,rfl,Nat.le_refl _,by unfold maxLen;omega,by simp,.inl ⟨rfl,λ _=>rfl⟩⟩,by simp,rfl,by simp⟩
 ·simp only [Option.some.injEq] at hx
  subst hx
  rfl
 ·split at hx
  ·rename_i k e ts rows deps hk
   simp only [Option.some.injEq] at hx
   subst hx
   obtain ⟨⟨F,f1,f2⟩,-,-⟩:=h.sl hk
   simp only [Cr,C.den,Bm,hk]
   have:=RdS.step (Nat.le_refl _) (λ _ _ _=>rfl) _ _ _ f1
   exact RdS.mono (λ b hb=>⟨f2 b hb.1,hb.2⟩) _ _ _ this
  ·rename_i k hk
   obtain ⟨d',e1,rfl⟩:=Option.map_eq_some_iff.1 hx
   simp only [Cr,C.den,Bm,hk]
   exact (Dh h e1).1
 ·obtain ⟨cs,e1,rfl⟩:=Option.map_eq_some_iff.1 hx
  exact (Lz h e1).1
 ·obtain ⟨l,e1,rfl⟩:=Option.map_eq_some_iff.1 hx
  obtain ⟨z1,z2,z3⟩:=L0 h e1
  simp only [Cr,C.den,Bm,ROAt]
  exact ⟨_,rfl,by simpa using z1,z2⟩
 ·obtain ⟨l,e1,rfl⟩:=Option.map_eq_some_iff.1 hx
  obtain ⟨z1,z2,z3⟩:=Nr h e1
  simp only [Cr,C.den,Bm,ROAt]
  exact ⟨_,rfl,by simpa using z1,z2⟩
 ·split at hx
  ·rename_i k j _ g caps hk
   obtain ⟨cs,e1,rfl⟩:=Option.map_eq_some_iff.1 hx
   obtain ⟨⟨ps,q1,q2,q3⟩,-⟩:=Dh h hk
   simp only [Cr,C.den,Bm,ROAt,We,q1]
   have hlt:j<ps.length:=by rw [q2];exact (List.getElem?_eq_some_iff.1 e1).1
   have hps:=List.getElem?_eq_getElem hlt
   have e:ps.toArray.getD j undef=ps[j]:=by simp [Array.getD_eq_getD_getElem?,hps]
   rw [e]
   exact q3 j cs _ e1 hps
  ·cases hx
 ·cases hx
theorem QI {na:Bool} {t:Ty} {k e:Nat} {ts:List Ty} {rows:List (List Dat)} {d:DC} (hx:Ly na s t (.ext k)=some d) (hl:lkp s.en k=some (.own e ts rows)):d=.sl e ts rows:=by
 unfold Ly at hx
 simp only [Dq,hl,Option.bind_some,En.sl,Option.some.injEq] at hx
 exact hx.symm
theorem QJ {na:Bool} : ∀ {ts:List Ty} {cs:List C} {ds:List DC},Ka na s ts cs=some ds->All2 (λ c d=>∃ t,Ly na s t c=some d) cs ds
 | [],[],ds,hx=>by simp only [Ka,Option.some.injEq] at hx;subst hx;exact .nil
 | [],_::_,_,hx=>by simp [Ka] at hx
 | _::_,[],_,hx=>by simp [Ka] at hx
 | t::ts,c::cs,ds,hx=>by
  simp only [Ka] at hx
  split at hx
  ·rename_i d ds' h1 h2
   simp only [Option.some.injEq] at hx
   subst hx
   exact .cons ⟨t,h1⟩ (QJ h2)
  ·cases hx
theorem All2.len {α β:Type} {p:α->β->Prop} {l:List α} {r:List β} (h:All2 p l r):l.length=r.length:=by
 induction h with
 | nil=>rfl
 | cons _ _ ih=>simp [ih]
theorem All2.get {α β:Type} {p:α->β->Prop} {l:List α} {r:List β} (h:All2 p l r) {j:Nat} {x:α} {y:β} (hx:l[j]?=some x) (hy:r[j]?=some y):p x y:=by
 induction h generalizing j with
 | nil=>simp at hx
 | cons h1 _ ih=>
  cases j with
  | zero=>simp at hx hy;subst hx;subst hy;exact h1
  | succ j=>exact ih (by simpa using hx) (by simpa using hy)
theorem All2.append {α β:Type} {p:α->β->Prop} {l l' : List α} {r r' : List β} (h:All2 p l r) (h' : All2 p l' r'):All2 p (l++l') (r++r'):=by
 induction h with
 | nil=>exact h'
 | cons h1 _ ih=>exact .cons h1 ih
theorem Gh {na:Bool} : ∀ {tys:List Nat} {as:List T} {ds:List DA} {cells:List C},Gg na tt s tys as=some (ds,cells) ->
  All2 (λ c d=>∃ t,Ly na s t c=some d) cells (ds.flatMap DA.cells)/\as.map (T.den m)=BA ds (cells.map (C.den m))
 | [],[],ds,cells,hx=>by
  simp only [Gg,Option.some.injEq,Prod.mk.injEq] at hx
  obtain ⟨rfl,rfl⟩:=hx
  exact ⟨.nil,rfl⟩
 | [],_::_,_,_,hx=>by simp [Gg] at hx
 | _::_,[],_,_,hx=>by simp [Gg] at hx
 | t::ts,x::as,ds,cells,hx=>by
  simp only [Gg] at hx
  split at hx
  ·rename_i d c ds' cs' h1 h2
   simp only [Option.some.injEq,Prod.mk.injEq] at hx
   obtain ⟨rfl,rfl⟩:=hx
   obtain ⟨i1,i2⟩:=Gh h2
   unfold ABx at h1
   split at h1
   ·rename_i c0
    split at h1
    ·rename_i ty _
     cases hc:Ly na s ty c0 with
     | none=>rw [hc] at h1;cases h1
     | some d0=>
      rw [hc] at h1
      simp only [Option.map_some,Option.some.injEq,Prod.mk.injEq] at h1
      obtain ⟨rfl,rfl⟩:=h1
      exact ⟨by simpa [DA.cells] using All2.append (.cons ⟨ty,hc⟩ .nil) i1,by simp [BA,i2,T.den,A.den]⟩
    ·cases h1
   ·rename_i cs0
    cases hc:Ka na s (Ep tt 9 t) cs0 with
    | none=>rw [hc] at h1;cases h1
    | some d0=>
     rw [hc] at h1
     simp only [Option.map_some,Option.some.injEq,Prod.mk.injEq] at h1
     obtain ⟨rfl,rfl⟩:=h1
     have hall:=QJ hc
     have hl:=hall.len
     refine ⟨by simpa [DA.cells] using All2.append hall i1,?_⟩
     ·simp only [List.map_cons,BA,i2,T.den,A.den,List.map_append]
      rw [← hl]
      have e1:(cs0.map (C.den m)++cs'.map (C.den m)).take cs0.length=cs0.map (C.den m):=by rw [List.take_left' (by simp)]
      have e2:(cs0.map (C.den m)++cs'.map (C.den m)).drop cs0.length=cs'.map (C.den m):=by rw [List.drop_left' (by simp)]
      rw [e1,e2]
   ·cases h1
  ·cases hx
theorem Ds {mu:List Nat} : ∀ {cells:List C} {p0 p:Nat} {c:C},cells[p]?=some c->(p0+p) ∉ mu->∀ i ∈ Bm s c,i ∈ Bn s mu cells p0
 | [],_,_,_,h,_=>by simp at h
 | c0::cs,p0,p,c,h,hp=>by
  intro i hi
  simp only [Bn]
  cases p with
  | zero=>
   simp at h
   subst h
   refine List.mem_append.2 (.inl ?_)
   rw [if_neg]
   ·exact hi
   ·intro he
    obtain ⟨q,hq,e⟩:=List.any_eq_true.1 he
    simp at e
    subst e
    exact hp (by simpa using hq)
  | succ p=>exact List.mem_append.2 (.inr (Ds (p0:=p0+1) (by simpa using h) (by rw [Nat.add_assoc,Nat.add_comm 1];exact hp) i hi))
theorem II (h:R Γ n w0 al s m a w) {mu:List Nat} : ∀ {cells:List C} {p0 i:Nat},i ∈ Bn s mu cells p0->al i
 | [],_,_,hi=>by simp [Bn] at hi
 | c0::cs,p0,i,hi=>by
  simp only [Bn] at hi
  rcases List.mem_append.1 hi with hi|hi
  ·split at hi
   ·simp at hi
   ·exact QH h i hi
  ·exact II h hi
theorem QK {cells:List C} : ∀ {mu ks:List Nat},QE s cells mu=some ks->ks.length=mu.length/\∀ j p:Nat,mu[j]?=some p->∃ (k e:Nat) (ts:List Ty) (rows:List (List Dat)),ks[j]?=some k/\cells[p]?=some (C.ext k)/\lkp s.en k=some (.own e ts rows)
 | [],ks,hx=>by simp only [QE,Option.some.injEq] at hx;subst hx;exact ⟨rfl,by simp⟩
 | p::ps,ks,hx=>by
  simp only [QE] at hx
  split at hx
  ·rename_i k ks' h1 h2
   simp only [Option.some.injEq] at hx
   subst hx
   obtain ⟨i1,i2⟩:=QK h2
   refine ⟨by simp [i1],λ j q hq=>?_⟩
   cases j with
   | zero=>
    simp at hq
    subst hq
    unfold ABy at h1
    split at h1
    ·rename_i k' hk'
     split at h1
     ·rename_i e ts rows hl
      simp only [Option.some.injEq] at h1
      subst h1
      exact ⟨_,e,ts,rows,rfl,hk',hl⟩
     ·cases h1
    ·cases h1
   | succ j=>simpa using i2 j q (by simpa using hq)
  ·cases hx
theorem Jl {F:Nat->Prop} {w' : World} {all deps:List Nat} : ∀ {rcs:List RC} {us:List Value} {bs:List Nat} {nx:Nat},BE F w w' all rcs us bs->bs.Nodup->(∀ b ∈ bs,Γ.mine b) ->
  us.length=rcs.length/\(∀ c ∈ Bg rcs nx,∀ i ∈ c.ids,nx<=i/\i<nx+rcs.length) /\
  ∃ g:Nat->Nat,(∀ b ∈ bs,nx<=g b/\g b<nx+rcs.length)/\∀ M:Maps,(∀ b,F b∨(w.heap.size<=b/\b ∉ all)->Γ.may M deps b)->(∀ q,q<rcs.length->M.ε (nx+q)=us.getD q undef)->(∀ b ∈ bs,M.π b=g b) ->
   (Bg rcs nx).map (C.den M)=us/\∀ i E,lkp (In deps rcs nx) i=some E->(nx<=i/\i<nx+rcs.length)/\EnAt Γ M w' i E/\∀ j ∈ E.ids,j ∈ deps
 | [],[],bs,nx,h,_,_=>by
  simp only [BE] at h
  subst h
  exact ⟨rfl,by simp [Bg],λ _=>0,by simp,λ _ _ _ _=>⟨rfl,λ i E hE=>by simp [In,lkp] at hE⟩⟩
 | [],_::_,_,_,h,_,_=>by simp [BE] at h
 | rc::_,[],_,_,h,_,_=>by cases rc <;> simp [BE] at h
 | rc::r,u::us,bs,nx,h,hn,hb=>by
  have hsh:∀ {M:Maps} {us' : List Value} {N:Nat},(∀ q,q<N+1->M.ε (nx+q)=(u::us').getD q undef)->∀ q,q<N->M.ε (nx+1+q)=us'.getD q undef:=λ hm q hq=>by
   have:=hm (q+1) (by omega)
   simpa [Nat.add_assoc,Nat.add_comm 1] using this
  have hm0:∀ {M:Maps} {N:Nat},(∀ q,q<N+1->M.ε (nx+q)=(u::us).getD q undef)->M.ε nx=u:=λ hm=>by simpa using hm 0 (by omega)
  cases rc with
  | im v=>
   simp only [BE] at h
   obtain ⟨rfl,h⟩:=h
   obtain ⟨a1,a3,g,a4,a5⟩:=Jl (nx:=nx+1) h hn hb
   refine ⟨by simp [a1],λ c hc i hi=>?_,g,λ b hb=>by have:=a4 b hb;simp;omega,λ M hF hm hg=>?_⟩
   ·simp only [Bg,List.mem_cons] at hc
    rcases hc with rfl|hc
    ·simp [C.ids] at hi
    ·have:=a3 c hc i hi;simp;omega
   ·obtain ⟨x1,x2⟩:=a5 M hF (hsh hm) hg
    refine ⟨by simp only [Bg,List.map_cons,C.den];rw [x1],λ i E hE=>?_⟩
    obtain ⟨e1,e2⟩:=x2 i E hE
    exact ⟨by simp;omega,e2⟩
  | own e ts rows=>
   simp only [BE] at h
   obtain ⟨b1,b2,rfl,h1,h⟩:=h
   obtain ⟨n1,n2,n3⟩:=List.nodup_append.1 hn
   obtain ⟨a1,a3,g,a4,a5⟩:=Jl (nx:=nx+1) h n2 (λ b hb'=>hb b (List.mem_append.2 (.inr hb')))
   refine ⟨by simp [a1],λ c hc i hi=>?_,λ b=>if b ∈ b1 then nx else g b,λ b hb=>?_,λ M hF hm hg=>?_⟩
   ·simp only [Bg,List.mem_cons] at hc
    rcases hc with rfl|hc
    ·simp [C.ids] at hi;subst hi;simp
    ·have:=a3 c hc i hi;simp;omega
   ·by_cases hb1:b ∈ b1
    ·simp [hb1]
    ·simp only [hb1,if_false]
     have:=a4 b ((List.mem_append.1 hb).resolve_left hb1)
     simp;omega
   ·obtain ⟨x1,x2⟩:=a5 M hF (hsh hm) (λ b hb'=>(hg b (List.mem_append.2 (.inr hb'))).trans (if_neg (λ hb1=>n3 b hb1 b hb' rfl)))
    refine ⟨by simp only [Bg,List.map_cons,C.den];rw [x1,hm0 hm],λ i E hE=>?_⟩
    simp only [In,AR] at hE
    split at hE
    ·rename_i e'
     subst e'
     obtain rfl:=Option.some.inj hE
     refine ⟨by simp,⟨b1,by rw [hm0 hm];exact h1,n1,λ b hb'=>⟨hb b (List.mem_append.2 (.inl hb')),?_⟩⟩,by simp [En.ids]⟩
     exact (hg b (List.mem_append.2 (.inl hb'))).trans (if_pos hb')
    ·obtain ⟨e1,e2⟩:=x2 i E hE
     exact ⟨by simp;omega,e2⟩
  | top e ts rows=>
   simp only [BE] at h
   obtain ⟨b1,b2,rfl,⟨rv,v1,v2,v3,v4,v5⟩,h⟩:=h
   obtain ⟨n1,n2,n3⟩:=List.nodup_append.1 hn
   obtain ⟨a1,a3,g,a4,a5⟩:=Jl (nx:=nx+1) h n2 (λ b hb'=>hb b (List.mem_append.2 (.inr hb')))
   refine ⟨by simp [a1],λ c hc i hi=>?_,λ b=>if b ∈ b1 then nx else g b,λ b hb=>?_,λ M hF hm hg=>?_⟩
   ·simp only [Bg,List.mem_cons] at hc
    rcases hc with rfl|hc
    ·simp [C.ids] at hi;subst hi;simp
    ·have:=a3 c hc i hi;simp;omega
   ·by_cases hb1:b ∈ b1
    ·simp [hb1]
    ·simp only [hb1,if_false]
     have:=a4 b ((List.mem_append.1 hb).resolve_left hb1)
     simp;omega
   ·obtain ⟨x1,x2⟩:=a5 M hF (hsh hm) (λ b hb'=>(hg b (List.mem_append.2 (.inr hb'))).trans (if_neg (λ hb1=>n3 b hb1 b hb' rfl)))
    refine ⟨by simp only [Bg,List.map_cons,C.den];rw [x1,hm0 hm],λ i E hE=>?_⟩
    simp only [In,AR] at hE
    split at hE
    ·rename_i e'
     subst e'
     obtain rfl:=Option.some.inj hE
     refine ⟨by simp,⟨rv,by rw [hm0 hm];exact v1,v2,v3,λ k hk=>⟨_,v4 k hk,hF⟩,λ b hb'=>?_⟩,by simp [En.ids]⟩
     rw [hm0 hm] at hb'
     exact ⟨hb b (List.mem_append.2 (.inl (v5 b hb'))),(hg b (List.mem_append.2 (.inl (v5 b hb')))).trans (if_pos (v5 b hb'))⟩
    ·obtain ⟨e1,e2⟩:=x2 i E hE
     exact ⟨by simp;omega,e2⟩
  | view e ts rows=>
   simp only [BE] at h
   obtain ⟨h1,h⟩:=h
   obtain ⟨a1,a3,g,a4,a5⟩:=Jl (nx:=nx+1) h hn hb
   refine ⟨by simp [a1],λ c hc i hi=>?_,g,λ b hb=>by have:=a4 b hb;simp;omega,λ M hF hm hg=>?_⟩
   ·simp only [Bg,List.mem_cons] at hc
    rcases hc with rfl|hc
    ·simp [C.ids] at hi;subst hi;simp
    ·have:=a3 c hc i hi;simp;omega
   ·obtain ⟨x1,x2⟩:=a5 M hF (hsh hm) hg
    refine ⟨by simp only [Bg,List.map_cons,C.den];rw [x1,hm0 hm],λ i E hE=>?_⟩
    simp only [In,AR] at hE
    split at hE
    ·rename_i e'
     subst e'
     obtain rfl:=Option.some.inj hE
     exact ⟨by simp,⟨_,by rw [hm0 hm];exact h1,hF⟩,by simp [En.ids]⟩
    ·obtain ⟨e1,e2⟩:=x2 i E hE
     exact ⟨by simp;omega,e2⟩
theorem QL {gone:List Nat} {new:List (List (List Dat))} : ∀ {ks:List Nat} {j0 i:Nat} {E:En},lkp (SD s gone new ks j0) i=some E->∃ j,ks[j]?=some i/\E=(match ZP gone (j0+j) with|true=>.dead|false=>match lkp s.en i with|some (.own e ts _)=>.own e ts (new.getD (j0+j) [])|_=>.dead)
 | [],j0,i,E,h=>by simp [SD,lkp] at h
 | k::ks,j0,i,E,h=>by
  simp only [SD,AR] at h
  split at h
  ·rename_i e
   subst e
   obtain rfl:=Option.some.inj h
   exact ⟨0,rfl,rfl⟩
  ·obtain ⟨j,h1,h2⟩:=QL h
   exact ⟨j+1,by simpa using h1,by rw [h2,Nat.add_assoc,Nat.add_comm 1]⟩
theorem Ns {α:Type} : ∀ {l:List α} {x:α} {i j:Nat},l.Nodup->l[i]?=some x->l[j]?=some x->i=j
 | [],_,_,_,_,h,_=>by simp at h
 | y::r,x,i,j,hn,h,k=>by
  obtain ⟨n1,n2⟩:=List.nodup_cons.1 hn
  cases i with
  | zero=>
   cases j with
   | zero=>rfl
   | succ j=>simp at h k;subst h;exact absurd (List.mem_of_getElem? k) n1
  | succ i=>
   cases j with
   | zero=>simp at h k;subst k;exact absurd (List.mem_of_getElem? h) n1
   | succ j=>exact congrArg (· + 1) (Ns n2 (x:=x) (i:=i) (j:=j) (by simpa using h) (by simpa using k))
theorem QM {gone:List Nat} {new:List (List (List Dat))} : ∀ {ks:List Nat} {j0:Nat},(SD s gone new ks j0).map (·.1)=ks
 | [],_=>rfl
 | k::ks,j0=>by simp [SD,QM (ks:=ks)]
def Nt (s:St) (c:C):Option (Nat×List T):=
 match c with
 | .clo g is=>some (g,is.map λ i=>.one (.one (.bp i 0)))
 | .clx g is=>some (g,is.map λ x=>.one (.one (if x.1=true then .bp x.2 0 else .ext x.2)))
 | .ext k=>
  match K6 s k with
  | some (.fn g caps)=>some (g,(List.range caps.length).map λ j=>.one (.one (.cp k j)))
  | _=>none
 | _=>none
theorem QN (h:R Γ n w0 al s m a w) {c:C} {g:Nat} {ext:List T} (hx:Nt s c=some (g,ext)):c.den m=.func (.func g) #[] (ext.map (T.den m)).toArray:=by
 unfold Nt at hx
 split at hx
 ·simp only [Option.some.injEq,Prod.mk.injEq] at hx
  obtain ⟨rfl,rfl⟩:=hx
  simp only [C.den,List.map_map]
  rfl
 ·simp only [Option.some.injEq,Prod.mk.injEq] at hx
  obtain ⟨rfl,rfl⟩:=hx
  simp only [C.den,List.map_map]
  congr 2
  refine List.map_congr_left λ x _=>?_
  unfold NL
  simp only [Function.comp,T.den,A.den]
  split <;> rfl
 ·split at hx
  ·rename_i k _ g' caps hk
   simp only [Option.some.injEq,Prod.mk.injEq] at hx
   obtain ⟨rfl,rfl⟩:=hx
   obtain ⟨⟨ps,q1,q2,q3⟩,-⟩:=Dh h hk
   simp only [C.den,List.map_map,q1]
   have:ps=(List.range caps.length).map (T.den m∘λ j=>T.one (A.one (C.cp k j))):=by
    apply List.ext_getElem?
    intro j
    by_cases hj:j<ps.length
    ·rw [List.getElem?_map,List.getElem?_range (by omega),List.getElem?_eq_getElem hj]
     simp [T.den,A.den,C.den,We,q1,Array.getD_eq_getD_getElem?,hj]
    ·rw [List.getElem?_eq_none (by omega),List.getElem?_eq_none (by simp;omega)]
   rw [← this]
  ·cases hx
 ·cases hx
theorem Fp.nested {w:World} {e:Nat} {ts:List Ty} {L:List (List Dat)} {g len cap j c:Nat} {t:Ty} {bs:List Nat} (h:Fp w (.sl e ts) (.sl L) (.slice (some ⟨g,0,none⟩) len cap) bs) (hn:bs.Nodup) (hj:j<L.length) (hc:ts[c]?=some t) :
  ∃ v b2,w.cell? ⟨g,j*ts.length+c,none⟩=some v/\Fp w t ((L.getD j []).getD c (.int 0)) v b2/\b2.Nodup/\(∀ b ∈ b2,b ∈ bs) /\
   ∀ w' d',OnlyIn (λ b=>b ∈ b2) w w'->Fp w' t d' v b2->Fp w' (.sl e ts) (.sl (L.set j ((L.getD j []).set c d'))) (.slice (some ⟨g,0,none⟩) len cap) bs:=by
 obtain ⟨row,bj,h1,h2,h3,h4,h5,h6,h7,h8⟩:=Fp.row h hn hj
 have hl:=(RdRow.lens _ _ _ (FpRow.rd _ _ _ _ h3)).1
 have hcl:=(List.getElem?_eq_some_iff.1 hc).1
 have split:∀ {α:Type} (l:List α) (d x:α),c<l.length->l.take c++[x]++l.drop (c+1)=l.set c x:=λ l d x hx=>by
  rw [List.set_eq_take_append_cons_drop,if_pos hx];simp
 have e0:L.set j ((L.getD j []).take c++[(L.getD j []).getD c (.int 0)]++(L.getD j []).drop (c+1))=L:=by
  rw [split _ (.int 0) _ (by omega)]
  have key:∀ r:List Dat,c<r.length->r.set c (r.getD c (.int 0))=r:=λ r hr=>by simp [List.getD,hr]
  rw [key _ (by omega)];simp [List.getD,hj]
 have et:ts=ts.take c++[t]++ts.drop (c+1):=by
  rw [split ts .int t hcl]
  have:=(List.getElem?_eq_some_iff.1 hc).2
  rw [← this];simp
 have hlt:(ts.take c).length=c:=by simp;omega
 obtain ⟨v,b2,q1,q2,q3,q4,q5⟩:=Fp.nestedAt (ts.take c) t (ts.drop (c+1)) ((L.getD j []).take c) ((L.getD j []).getD c (.int 0)) ((L.getD j []).drop (c+1)) (by rw [e0];exact h) hn hj et (by rw [List.length_take,List.length_take];omega)
 rw [hlt] at q1
 refine ⟨v,b2,q1,q2,q3,q4,λ w' d' ho hf=>?_⟩
 have:=q5 w' d' ho hf
 rwa [split _ (.int 0) _ (by omega)] at this
theorem L1:∀ {ps:List Prop} {q:Prop},obs ps q->(∀ p ∈ ps,p)/\q
 | [],q,h=>⟨by simp,h⟩
 | p::r,q,h=>by
  obtain ⟨h1,h2⟩:=h
  obtain ⟨h3,h4⟩:=L1 h2
  refine ⟨λ x hx=>?_,h4⟩
  rcases List.mem_cons.1 hx with rfl|hx
  ·exact h1
  ·exact h3 x hx
theorem T7 {na:Bool} {t:Ty} {k e:Nat} {ts:List Ty} {rows:List (List Dat)} {deps:List Nat} {d:DC} (hx:Ly na s t (.ext k)=some d) (hl:Dq s k=some (e,ts,rows,deps)):d=.sl e ts rows:=by
 unfold Ly at hx
 simp only [hl,Option.some.injEq] at hx
 exact hx.symm
theorem Wv (h:R Γ n w0 al s m a w) {cells:List C} {p k:Nat} {ps:List Prop} {rw:List (List Dat)->List (List Dat)} {mk:List (List Dat)->En} (hx:Wt s cells p=some (k,ps,rw,mk)) (hps:∀ q ∈ ps,q) :
  ∃ (x e:Nat) (ts:List Ty) (rows:List (List Dat)) (bs:List Nat),cells[p]?=some (.ext x)/\Dq s x=some (e,ts,rows,[k])/\Fp w (.sl e ts) (.sl rows) (m.ε x) bs/\bs.Nodup/\(∀ b ∈ bs,Γ.mine b/\m.π b=k)/\al k /\
   ∀ w' new,OnlyIn (λ b=>b ∈ bs) w w'->Fp w' (.sl e ts) (.sl new) (m.ε x) bs->EnAt Γ m w' k (mk (rw new))/\(mk (rw new)).ids=[]:=by
 unfold Wt at hx
 split at hx
 ·rename_i x hc
  split at hx
  ·rename_i e ts rows j hl
   simp only [Option.some.injEq,Prod.mk.injEq] at hx
   obtain ⟨rfl,rfl,rfl,rfl⟩:=hx
   obtain ⟨⟨h0,h1,h2,h3⟩,hal,-⟩:=h.en _ _ hl
   exact ⟨x,e,ts,rows,Γ.mb j,hc,by simp [Dq,hl,En.sl],h1,h2,λ b hb=>⟨.inr ⟨j,hb⟩,h3 b hb⟩,hal,λ w' new _ hf=>⟨⟨h0,hf,h2,h3⟩,rfl⟩⟩
  ·rename_i e ts rows k' sz r c hl
   split at hx
   ·rename_i e0 ts0 rows0 j0 hl0
    split at hx
    ·rename_i e' ts' hts
     split at hx
     ·rename_i hcond
      simp only [Option.some.injEq,Prod.mk.injEq] at hx
      obtain ⟨rfl,rfl,rfl,rfl⟩:=hx
      simp only [Bool.and_eq_true,Nat.beq_eq] at hcond
      obtain ⟨⟨hsz,he⟩,hc2⟩:=hcond
      have hc2:=Ty.beqs_ok _ _ hc2
      subst hsz he hc2
      have hr:r<rows0.length:=hps _ (by simp)
      have hrow:rows=((rows0.getD r []).getD c (.int 0)).r:=hps _ (by simp)
      obtain ⟨⟨h0,h1,h2,h3⟩,hal,-⟩:=h.en _ _ hl0
      obtain ⟨⟨-,g,len,cap,g1,g2,g3⟩,-,-⟩:=h.en _ _ hl
      rw [g1] at h1
      obtain ⟨v,b2,q1,q2,q3,q4,q5⟩:=Fp.nested h1 h2 hr hts
      rw [q1] at g2
      obtain rfl:=Option.some.inj g2
      have hd:(rows0.getD r []).getD c (.int 0)=.sl rows:=by
       cases hd:(rows0.getD r []).getD c (.int 0) with
       | sl l=>rw [hrow,hd];rfl
       | _=>rw [hd] at q2;simp [Fp] at q2
      rw [hd] at q2
      refine ⟨x,e,ts,rows,b2,hc,by simp [Dq,hl,En.sl],q2,q3,λ b hb=>⟨.inr ⟨j0,q4 b hb⟩,h3 b (q4 b hb)⟩,hal,λ w' new ho hf=>⟨⟨h0,?_,h2,h3⟩,rfl⟩⟩
      rw [g1]
      exact q5 w' (.sl new) ho hf
     ·cases hx
    ·cases hx
   ·cases hx
  ·cases hx
 ·cases hx
theorem VI (hct:CTok P ct Γ.mono) (h:R Γ n w0 al s m a w) {f:Nat} {fo:Operand} {as:Array Operand} {tys0:Array Nat} {tys:List Nat} {ts ext:List T} {c:Con} {ds:List DA} {cells:List C} (ho:o.op=.call { callee:=.value fo,args:=as,argTypes:=tys0 }) (hfo:a.eval fo=.func (.func f) #[] (ext.map (T.den m)).toArray) (has:All2 (λ x t=>ev s x=some t) as.toList ts)
  (hokA:c.OkA P f/\(Γ.mono=true->c.mono=true)) (hds:Gg c.nilA tt s tys (ts++ext)=some (ds,cells)):Snd P Γ al fr m a w o (Jh tt s c ds cells):=by
 intro q hk Q
 unfold Jh at hk
 split at hk
 ·rename_i p hmu
  have hok:c.Ok P f/\(Γ.mono=true->c.mono=true):=⟨hokA.1.ok (by rw [hmu];simp),hokA.2⟩
  split at hk
  ·rename_i k ps rw mk hone
   split at hk
   ·rename_i hcond
    obtain ⟨i,rfl,hpre,hk⟩:=hk
    obtain ⟨hps,hk⟩:=L1 hk
    split at hk
    ·rename_i v hgone hr
     obtain ⟨d1,d2⟩:=Gh (m:=m) hds
     have hts:as.toList.map a.eval=ts.map (T.den m):=by
      clear hds d2 hk
      generalize as.toList=l at has
      induction has with
      | nil=>rfl
      | cons h1 _ ih=>simp [ih,(h.ev h1).1]
     obtain ⟨x,e,ts',rows,bs,c1,c2,c3,c4,c5,c6,c7⟩:=Wv h hone hps
     have hkd:k ∉ Bn s c.mu cells 0:=λ hm=>by
      rw [Bool.not_eq_true'] at hcond
      have:=List.any_eq_false.1 hcond k hm
      simp at this
     let F:Nat->Prop:=λ b=>Γ.may m (Bn s c.mu cells 0) b/\b<w.heap.size
     have hone' : ∀ {j q:Nat},c.mu[j]?=some q->j=0/\q=p:=λ {j q} hj=>by
      rw [hmu] at hj
      cases j with
      | zero=>exact ⟨rfl,by simpa using hj.symm⟩
      | succ j=>simp at hj
     have hargs:ArgsAt F w c.mu (λ _=>bs) ((c.args i).flatMap DA.cells) (cells.map (C.den m)):=by
      refine ⟨by simp [d1.len],λ b hb=>hb.2,λ p d u hd hu hp=>?_,λ j q hj=>?_,λ j1 j2 b hne h1 h2 hb1 hb2=>?_,λ j b hj hb hF=>?_,h.stood,λ j b hj hb hs=>?_⟩
      ·simp only [List.getElem?_map,Option.map_eq_some_iff] at hu
       obtain ⟨c0,hc0,rfl⟩:=hu
       obtain ⟨t,ht⟩:=d1.get hc0 hd
       have:=LJ h ht
       have hsub:∀ b,Γ.may m (Bm s c0) b/\b<w.heap.size->F b:=λ b hb=>⟨CN (Ds (p0:=0) hc0 (by simpa using hp)) hb.1,hb.2⟩
       cases d with
       | im v=>exact this
       | sl e ts rows=>exact RdS.mono hsub _ _ _ this
       | ro d=>exact ROAt.mono hsub this
      ·obtain ⟨rfl,rfl⟩:=hone' hj
       have hlen:q<((c.args i).flatMap DA.cells).length:=by rw [← d1.len];exact (List.getElem?_eq_some_iff.1 c1).1
       obtain ⟨t,ht⟩:=d1.get c1 (List.getElem?_eq_getElem hlen)
       exact ⟨e,ts',rows,m.ε x,by rw [List.getElem?_eq_getElem hlen,T7 ht c2],by simp [c1,C.den],c3,c4⟩
      ·rw [hmu] at h1 h2
       simp at h1 h2
       omega
      ·obtain ⟨e1,e2⟩:=c5 b hb
       rcases hF.1 with h1|h1|h1
       ·exact Γ.hG b h1 e1
       ·rw [e2] at h1;exact h.pos (h1.2 ▸ c6)
       ·rw [e2] at h1;exact hkd h1.2
      ·exact Γ.hst b hs (c5 b hb).1
     have hcalls:=hok.1.run hok.2 i hpre F w _ _ hargs
     obtain ⟨fn,e1,e2,e3⟩:=hok.1.enter
     have hexec:(execOp a.eval o).run P w=.ok (.enter f (BA (c.args i) (cells.map (C.den m))).toArray) w:=by
      have hmap:as.map a.eval++(ext.map (T.den m)).toArray=(BA (c.args i) (cells.map (C.den m))).toArray:=by
       apply Array.ext'
       rw [Array.toList_append,Array.toList_map,hts,← d2,List.map_append]
      simp only [execOp,ho,resolve,hfo,Deferred.ofValue,Sem.run_bind,Sem.run_pure,Result.andThen_ok,invoke,callFunc,program,Sem.run,e1,hmap,Array.empty_append]
      simp [e2,e3]
     unfold Oper.wp
     rw [hexec]
     simp only [Oper.upon]
     refine hcalls.mono ?_
     rintro e w' ⟨rs,bs',rfl,hp,hdr⟩
     simp only
     have hres:=hp.res
     rw [hr] at hres ⊢
     obtain ⟨u,rfl⟩:∃ u,rs=[u]:=by
      cases rs with
      | nil=>simp [BE] at hres
      | cons u us=>
       cases us with
       | nil=>exact ⟨u,rfl⟩
       | cons _ _=>simp [BE] at hres
     simp only [BE] at hres
     obtain ⟨rfl,rfl⟩:=hres
     have hkeep:∀ b,b<w.heap.size->b ∉ bs->w'.heap[b]?=w.heap[b]?:=λ b hb h2=>hp.keep b hb λ _ _=>h2
     have hon:OnlyIn (λ b=>b ∈ bs) w w':=⟨hp.os,hp.tape,hp.output,hp.size,hkeep⟩
     have hturn:Fp w' (.sl e ts') (.sl ((c.new i).getD 0 [])) (m.ε x) bs:=by
      obtain ⟨e',t',r',u',q1,q2,-,-⟩:=hargs.own 0 p (by rw [hmu];rfl)
      obtain ⟨bt,this,-,-,ebt⟩:=hp.turned 0 p e' t' r' u' (by rw [hgone];simp) (by rw [hmu];rfl) q1 q2
      obtain rfl:=ebt ⟨_,hr⟩
      have hlen:p<((c.args i).flatMap DA.cells).length:=(List.getElem?_eq_some_iff.1 q1).1
      obtain ⟨t,ht⟩:=d1.get c1 q1
      have ha:=T7 ht c2
      simp only [DC.sl.injEq] at ha
      obtain ⟨rfl,rfl,rfl⟩:=ha
      simp only [List.getElem?_map,c1,Option.map_some,Option.some.injEq,C.den] at q2
      rw [q2];exact this
     obtain ⟨g1,g2⟩:=c7 w' _ hon hturn
     refine ⟨_,m,hk _ rfl,⟨rfl,λ _ _=>⟨rfl,rfl⟩,⟨hdr,hp.os,hp.tape,hp.output,hp.size,λ b hb=>hkeep b (Nat.lt_of_lt_of_le (Env.old hb) h.old) λ hm=>hb (c5 b hm).1⟩,λ b hb h2=>hkeep b hb λ hm=>?_,λ _ _ _=>rfl,λ z E hE=>?_,by simp [T.ids,A.ids,C.ids]⟩⟩
     ·obtain ⟨q1,q2⟩:=c5 b hm
      rcases h2 with h2|h2
      ·exact h2 q1
      ·exact h2 (by rw [q2];simp [Eff.us])
     ·rw [AR] at hE
      split at hE
      ·rename_i ez
       subst ez
       obtain rfl:=Option.some.inj hE
       exact ⟨g1,.inl c6,by rw [g2];simp⟩
      ·simp [lkp] at hE
    ·exact hk.elim
   ·exact hk.elim
  ·exact hk.elim
 ·exact hk.elim
theorem QO (h:R Γ n w0 al s m a w):∀ {bx:List C} {pcs:List PC},QF s bx=some pcs->bx.length=pcs.length/\(∀ (q:Nat) (d:PC) (u:Value),pcs[q]?=some d->(bx.map (C.den m))[q]?=some u->Wr (λ b=>Γ.may m (Bv s bx) b/\b<w.heap.size) w d u)/\∀ j ∈ Bv s bx,al j
 | [],pcs,hx=>by simp only [QF,Option.some.injEq] at hx;subst hx;simp [Bv]
 | c::bx,pcs,hx=>by
  simp only [QF] at hx
  split at hx
  ·rename_i d ds h1 h2
   obtain rfl:=Option.some.inj hx
   obtain ⟨i1,i2,i3⟩:=QO h h2
   have hsub:∀ j ∈ Bv s bx,j ∈ Bv s (c::bx):=λ j hj=>by
    cases c <;> simp only [Bv] <;> first|exact List.mem_append.2 (.inr hj)|exact hj
   have hd:Wr (λ b=>Γ.may m (Bv s (c::bx)) b/\b<w.heap.size) w d (c.den m)/\∀ j ∈ Bv s [c],al j:=by
    unfold ABz at h1
    split at h1
    ·obtain rfl:=Option.some.inj h1
     exact ⟨rfl,by simp [Bv]⟩
    ·rename_i k
     split at h1
     ·rename_i bs hk
      obtain rfl:=Option.some.inj h1
      have hr:=Dh h hk
      refine ⟨?_,λ j hj=>by simp only [Bv,List.append_nil] at hj;exact hr.2.2 j hj⟩
      have:=ROAt.mono (G:=λ b=>Γ.may m (Bv s (.ext k::bx)) b/\b<w.heap.size) (λ b hb=>⟨Bh (λ j hj=>by simp only [Bv];exact List.mem_append.2 (.inl hj)) hb.1,hb.2⟩) hr.1
      exact this
     ·cases h1
    ·cases h1
   refine ⟨by simp [i1],λ q d' u hq hu=>?_,λ j hj=>?_⟩
   ·cases q with
    | zero=>
     simp at hq hu
     subst hq;subst hu
     exact hd.1
    | succ q=>
     have:=i2 q d' u (by simpa using hq) (by simpa using hu)
     cases d' with
     | im v=>exact this
     | bt bs=>exact ROAt.mono (d:=.bytes bs) (λ b hb=>⟨Bh hsub hb.1,hb.2⟩) this
   ·have:j ∈ Bv s [c]∨j ∈ Bv s bx:=by
     cases c <;> simp only [Bv,List.append_nil,List.mem_append,List.not_mem_nil,false_or] at hj ⊢ <;> exact hj
    rcases this with hj|hj
    ·exact hd.2 j hj
    ·exact i3 j hj
  ·cases hx
theorem Jm {m M:Maps} : ∀ {pn:List PC} {bx:List C},(∀ c ∈ bx,c.den M=c.den m)->(FN pn bx).map (C.den M)=H7 pn (bx.map (C.den m))
 | [],bx,h=>by
  cases bx <;> simp only [FN,H7,List.map_nil]
  exact List.map_congr_left h
 | .im v::r,[],_=>rfl
 | .im v::r,c::cs,h=>by
  simp only [FN,H7,List.map_cons,Jm λ c hc=>h c (List.mem_cons_of_mem _ hc)]
  rfl
 | .bt _::r,[],_=>rfl
 | .bt _::r,c::cs,h=>by
  simp only [FN,H7,List.map_cons,Jm λ c hc=>h c (List.mem_cons_of_mem _ hc),h c (by simp)]
theorem Jn:∀ {pn:List PC} {bx:List C} {j:Nat},j ∈ (FN pn bx).flatMap C.ids->j ∈ bx.flatMap C.ids
 | [],bx,j,h=>by cases bx <;> exact h
 | .im v::r,[],j,h=>by simp [FN] at h
 | .im v::r,c::cs,j,h=>by
  simp only [FN,List.flatMap_cons,C.ids,List.nil_append] at h ⊢
  exact List.mem_append.2 (.inr (Jn h))
 | .bt _::r,[],j,h=>by simp [FN] at h
 | .bt _::r,c::cs,j,h=>by
  simp only [FN,List.flatMap_cons] at h ⊢
  rcases List.mem_append.1 h with h|h
  ·exact List.mem_append.2 (.inl h)
  ·exact List.mem_append.2 (.inr (Jn h))
theorem VJ (hct:CTok P ct Γ.mono) (h:R Γ n w0 al s m a w) {f:Nat} {fo:Operand} {as:Array Operand} {tys0:Array Nat} {tys:List Nat} {ts ext:List T} {c:Con} {cs pn:c.ι->List PC} (ho:o.op=.call { callee:=.value fo,args:=as,argTypes:=tys0 }) (hfo:a.eval fo=.func (.func f) #[] (ext.map (T.den m)).toArray) (has:All2 (λ x t=>ev s x=some t) as.toList ts)
  (hokB:c.OkB P f/\(Γ.mono=true->c.mono=true)) (hptr:c.ptr=some (cs,pn)) (hal:∀ i,al i->¬ (nx<=i/\i<nx+32)) (hfr:∀ i,nx<=i->i<nx+32->fr i):Snd P Γ al fr m a w o (Ji tt s nx c cs pn tys (ts++ext)):=by
 intro q hk Q
 have hok:=hokB.1.p hptr
 generalize has0:ts++ext=all at hk
 unfold Ji at hk
 split at hk
 case h_2=>exact hk.elim
 rename_i t0 tys k as'
 split at hk
 case h_2=>exact hk.elim
 rename_i bx ds cells hbx hds
 split at hk
 case h_1=>exact hk.elim
 rename_i pcs hpcs
 split at hk
 case isFalse=>exact hk.elim
 rename_i hcond
 simp only [Bool.not_eq_true'] at hcond
 obtain ⟨i,rfl,rfl,hpre,hk⟩:=hk
 obtain ⟨d1,d2⟩:=Gh (m:=m) hds
 obtain ⟨p1,p2,p3⟩:=QO h hpcs
 have hts:as.toList.map a.eval=ts.map (T.den m):=by
  clear hk has0
  generalize as.toList=l at has
  induction has with
  | nil=>rfl
  | cons h1 _ ih=>simp [ih,(h.ev h1).1]
 obtain ⟨⟨b1,b2,e0,b3⟩,b4,b5⟩:=h.en _ _ hbx
 let deps:=Bv s bx++Bn s [] cells 0
 let F:Nat->Prop:=λ b=>Γ.may m deps b/\b<w.heap.size
 have hkd:k ∉ deps:=λ hm=>by
  have:=List.any_eq_false.1 hcond k hm
  simp at this
 have hBlt:m.β k<w.heap.size:=(Array.getElem?_eq_some_iff.1 b3).1
 have hk0:k≠0:=λ e=>h.pos (e ▸ b4)
 have hargs:ArgsAt F w [] (λ _=>[]) ((c.args i).flatMap DA.cells) (cells.map (C.den m)):=by
  refine ⟨by simp [d1.len],λ b hb=>hb.2,λ p d u hd hu hp=>?_,λ j p hj=>by simp at hj,λ j1 j2 b hne h1=>by simp at h1,λ j b hj=>by simp at hj,h.stood,λ j b hj=>by simp at hj⟩
  simp only [List.getElem?_map,Option.map_eq_some_iff] at hu
  obtain ⟨c0,hc0,rfl⟩:=hu
  obtain ⟨t,ht⟩:=d1.get hc0 hd
  have:=LJ h ht
  have hsub:∀ b,Γ.may m (Bm s c0) b/\b<w.heap.size->F b:=λ b hb=>⟨Bh (λ j hj=>List.mem_append.2 (.inr (Ds (p0:=0) hc0 (by simp) j hj))) hb.1,hb.2⟩
  cases d with
  | im v=>exact this
  | sl e ts rows=>exact RdS.mono hsub _ _ _ this
  | ro d=>exact ROAt.mono hsub this
 have hpin:PtrIn F w (cs i) (m.β k) (bx.map (C.den m)):=by
  refine ⟨λ hF=>?_,λ hs=>Γ.hst _ hs b1,⟨e0,b3⟩,by simpa using p1,λ q d u hq hu=>?_⟩
  ·rcases hF.1 with h1|h1|h1
   ·exact Γ.hG _ h1 b1
   ·rw [b2] at h1;exact hk0 h1.2
   ·rw [b2] at h1;exact hkd h1.2
  ·have:=p2 q d u hq hu
   cases d with
   | im v=>exact this
   | bt bs=>exact ROAt.mono (d:=.bytes bs) (λ b hb=>⟨Bh (λ j hj=>List.mem_append.2 (.inl hj)) hb.1,hb.2⟩) this
 have hcalls:=hok.calls i hpre F w _ _ _ hargs hpin
 obtain ⟨fn,e1,e2,e3⟩:=hok.enter
 have hexec:(execOp a.eval o).run P w=.ok (.enter f (.pointer (some ⟨m.β k,0,none⟩)::BA (c.args i) (cells.map (C.den m))).toArray) w:=by
  have hmap:as.map a.eval++(ext.map (T.den m)).toArray=(.pointer (some ⟨m.β k,0,none⟩)::BA (c.args i) (cells.map (C.den m))).toArray:=by
   apply Array.ext'
   rw [Array.toList_append,Array.toList_map,hts,← d2]
   show ts.map (T.den m)++ext.map (T.den m)=_
   rw [← List.map_append,has0]
   rfl
  simp only [execOp,ho,resolve,hfo,Deferred.ofValue,Sem.run_bind,Sem.run_pure,Result.andThen_ok,invoke,callFunc,program,Sem.run,e1,hmap,Array.empty_append]
  simp [e2,e3]
 unfold Oper.wp
 rw [hexec]
 simp only [Oper.upon]
 refine hcalls.mono ?_
 rintro e w' ⟨rs,bs,rfl,hp,hdr⟩
 simp only
 have hsm:=hok.small i
 let N:=(c.res i).cells.length
 have hbase:∀ b ∈ bs,Γ.mine b:=λ b hb=>.inl (Nat.le_trans h.old (hp.fresh b hb))
 obtain ⟨r1,r2,g,r3,r4⟩:=Jl (Γ:=Γ) (deps:=deps) (nx:=nx) hp.res hp.nd hbase
 let π' : Nat->Nat:=λ b=>if b ∈ bs then g b else if b<w.heap.size then m.π b else 0
 let M:Maps:=⟨m.β,λ j=>if nx<=j/\j<nx+N then rs.getD (j-nx) undef else m.ε j,π'⟩
 have hnb:∀ b,b<w.heap.size->b ∉ bs:=λ b hb hx=>by have:=hp.fresh b hx;omega
 have hπ:∀ b,b<w.heap.size->π' b=m.π b:=λ b hb=>by simp only [π',if_neg (hnb b hb),if_pos hb]
 have hview:∀ b,F b∨(w.heap.size<=b/\b ∉ bs)->Γ.may M deps b:=by
  intro b hb
  rcases hb with ⟨hb,hlt⟩|⟨hb,hx⟩
  ·have e:M.π b=m.π b:=hπ b hlt
   rcases hb with h1|h1|h1
   ·exact .inl h1
   ·exact .inr (.inl ⟨h1.1,by rw [e];exact h1.2⟩)
   ·exact .inr (.inr ⟨h1.1,by rw [e];exact h1.2⟩)
  ·exact .inr (.inl ⟨.inl (Nat.le_trans h.old hb),by show π' b=0;simp only [π',if_neg hx,if_neg (Nat.not_lt.2 hb)]⟩)
 obtain ⟨x1,x2⟩:=r4 M hview (λ q hq=>by
  show (if nx<=nx+q/\nx+q<nx+N then rs.getD (nx+q-nx) undef else m.ε (nx+q))=_
  rw [if_pos ⟨by omega,by omega⟩,Nat.add_sub_cancel_left]) (λ b hb=>by show π' b=_;simp only [π',if_pos hb])
 have hsame:Maps.same al m M:=λ j hj=>⟨rfl,if_neg (by have:=hal j hj;omega)⟩
 have hkeep:∀ b,b<w.heap.size->(¬ Γ.mine b∨m.π b≠k)->w'.heap[b]?=w.heap[b]?:=λ b hb h2=>hp.keep b hb λ e=>by
  subst e
  rcases h2 with h2|h2
  ·exact h2 b1
  ·exact h2 b2
 have hku:k ∈ (⟨(c.res i).t (Bg (c.res i).cells nx),In deps (c.res i).cells nx++[(k,.box (FN (pn i) bx))]⟩:Eff).us:=by
  simp [Eff.us]
 refine ⟨_,M,hk,⟨?_,hsame,?_,λ b hb h2=>hkeep b hb (h2.imp id λ hx e=>hx (e ▸ hku)),λ b hb hu=>hπ b hb,λ j E hE=>?_,λ j hj=>?_⟩⟩
 ·simp only [RT.t_den,x1]
 ·exact ⟨λ hm=>hdr (hokB.2 hm),hp.os,hp.tape,hp.output,hp.size,λ b hb=>by
   by_cases hlt:b<w.heap.size
   ·exact hkeep b hlt (.inl hb)
   ·exact absurd (.inl (Nat.le_trans h.old (Nat.not_lt.1 hlt))) hb⟩
 ·simp only [Cq] at hE
  cases hl:lkp (In deps (c.res i).cells nx) j with
  | some E'=>
   rw [hl] at hE
   obtain rfl:=Option.some.inj hE
   obtain ⟨e1,e2,e3⟩:=x2 j E' hl
   refine ⟨e2,.inr (hfr j e1.1 (by omega)),λ j' hj'=>.inl ?_⟩
   rcases List.mem_append.1 (e3 j' hj') with hj' | hj'
   ·exact p3 j' hj'
   ·exact II h hj'
  | none=>
   rw [hl,Option.none_or,AR] at hE
   split at hE
   ·rename_i e
    subst e
    obtain rfl:=Option.some.inj hE
    have hden:∀ c0 ∈ bx,c0.den M=c0.den m:=λ c0 hc0=>C.den_same hsame λ j hj=>b5 j (List.mem_flatMap.2 ⟨c0,hc0,hj⟩)
    obtain ⟨t',ht'⟩:=hp.turned
    refine ⟨⟨b1,(hπ _ hBlt).trans b2,t',?_⟩,.inl b4,λ j' hj'=>.inl (b5 j' (Jn hj'))⟩
    rw [Jm hden];exact ht'
   ·simp [lkp] at hE
 ·obtain ⟨c',hc',hj⟩:=RT.t_ids hj
  have:=r2 c' hc' j hj
  exact .inr (hfr j this.1 (by omega))
theorem L2 {M:Maps} {k:Nat} {v:Value} (hv:M.ε k=v):∀ l:List PC,(NQ k l).map (C.den M)=Ov v l
 | []=>rfl
 | .im x::r=>by simp only [NQ,Ov,List.map_cons,L2 hv r,C.den]
 | .bt _::r=>by simp only [NQ,Ov,List.map_cons,L2 hv r,C.den,hv]
theorem L3 {k:Nat} : ∀ {l:List PC} {j:Nat},j ∈ (NQ k l).flatMap C.ids->j=k
 | [],j,h=>by simp [NQ] at h
 | .im x::r,j,h=>by
  simp only [NQ,List.flatMap_cons,C.ids,List.nil_append] at h
  exact L3 h
 | .bt _::r,j,h=>by
  simp only [NQ,List.flatMap_cons,C.ids] at h
  rcases List.mem_append.1 h with h|h
  ·simpa using h
  ·exact L3 h
theorem VK (hct:CTok P ct Γ.mono) (h:R Γ n w0 al s m a w) {f:Nat} {fo:Operand} {as:Array Operand} {tys0:Array Nat} {tys:List Nat} {ts ext:List T} {c:Con} {pc:c.ι->List PC} (ho:o.op=.call { callee:=.value fo,args:=as,argTypes:=tys0 }) (hfo:a.eval fo=.func (.func f) #[] (ext.map (T.den m)).toArray) (has:All2 (λ x t=>ev s x=some t) as.toList ts)
  (hokB:c.OkB P f/\(Γ.mono=true->c.mono=true)) (hptr:c.ptr=none) (hnp:c.newp=some pc) (hal:∀ i,al i->¬ (nx<=i/\i<nx+32)) (hfr:∀ i,nx<=i->i<nx+32->fr i):Snd P Γ al fr m a w o (Jj tt s nx c pc tys (ts++ext)):=by
 intro q hk Q
 have hok:=hokB.1.n hptr hnp
 unfold Jj at hk
 split at hk
 case h_2=>exact hk.elim
 rename_i ds k cells hds
 split at hk
 case h_2=>exact hk.elim
 rename_i d0 hro
 obtain ⟨i,rfl,hpre,hk⟩:=hk
 obtain ⟨d1,d2⟩:=Gh (m:=m) hds
 have hak:=(Dh h hro).2.1
 have hts:as.toList.map a.eval=ts.map (T.den m):=by
  clear hk hds d2
  generalize as.toList=l at has
  induction has with
  | nil=>rfl
  | cons h1 _ ih=>simp [ih,(h.ev h1).1]
 let F:Nat->Prop:=λ b=>Γ.may m (Bn s [] (.ext k::cells) 0) b/\b<w.heap.size
 have hargs:ArgsAt F w [] (λ _=>[]) ((c.args i).flatMap DA.cells) ((C.ext k::cells).map (C.den m)):=by
  refine ⟨by rw [List.length_map];exact d1.len,λ b hb=>hb.2,λ p d u hd hu hp=>?_,λ j p hj=>by simp at hj,λ j1 j2 b hne h1=>by simp at h1,λ j b hj=>by simp at hj,h.stood,λ j b hj=>by simp at hj⟩
  rw [List.getElem?_map,Option.map_eq_some_iff] at hu
  obtain ⟨c0,hc0,rfl⟩:=hu
  obtain ⟨t,ht⟩:=d1.get hc0 hd
  have:=LJ h ht
  have hsub:∀ b,Γ.may m (Bm s c0) b/\b<w.heap.size->F b:=λ b hb=>⟨Bh (λ j hj=>Ds (p0:=0) hc0 (by simp) j hj) hb.1,hb.2⟩
  cases d with
  | im v=>exact this
  | sl e ts rows=>exact RdS.mono hsub _ _ _ this
  | ro d=>exact ROAt.mono hsub this
 have hcalls:=hok.calls i hpre F w _ hargs
 obtain ⟨fn,e1,e2,e3⟩:=hok.enter
 have hexec:(execOp a.eval o).run P w=.ok (.enter f (BA (c.args i) ((C.ext k::cells).map (C.den m))).toArray) w:=by
  have hmap:as.map a.eval++(ext.map (T.den m)).toArray=(BA (c.args i) ((C.ext k::cells).map (C.den m))).toArray:=by
   apply Array.ext'
   rw [Array.toList_append,Array.toList_map,hts,← d2,List.map_append]
  simp only [execOp,ho,resolve,hfo,Deferred.ofValue,Sem.run_bind,Sem.run_pure,Result.andThen_ok,invoke,callFunc,program,Sem.run,e1,hmap,Array.empty_append]
  simp [e2,e3]
 unfold Oper.wp
 rw [hexec]
 simp only [Oper.upon]
 refine hcalls.mono ?_
 rintro e w' ⟨B,rfl,hp,hdr⟩
 simp only
 have hnal:∀ j,al j->j≠nx:=λ j hj e=>hal j hj (by omega)
 let M:Maps:=⟨λ j=>if j=nx then B else m.β j,m.ε,λ b=>if b=B then nx else if b<w.heap.size then m.π b else 0⟩
 have hsame:Maps.same al m M:=λ j hj=>⟨if_neg (hnal j hj),rfl⟩
 have hfresh:=hp.fresh
 refine ⟨_,M,hk,⟨?_,hsame,?_,λ b hb h2=>hp.keep b hb,λ b hb hu=>?_,λ j E hE=>?_,λ j hj=>?_⟩⟩
 ·simp only [T.den,A.den,C.den,M,if_pos]
 ·exact ⟨λ hm=>hdr (hokB.2 hm),hp.os,hp.tape,hp.output,hp.size,λ b hb=>hp.keep b (Nat.lt_of_lt_of_le (Env.old hb) h.old)⟩
 ·show (if b=B then nx else if b<w.heap.size then m.π b else 0)=m.π b
  rw [if_neg (by omega),if_pos hb]
 ·simp only [AR] at hE
  split at hE
  ·rename_i e
   subst e
   obtain rfl:=Option.some.inj hE
   obtain ⟨t',ht'⟩:=hp.at_
   have hβ:M.β nx=B:=if_pos rfl
   refine ⟨⟨.inl (by rw [hβ];exact Nat.le_trans h.old hp.fresh),by rw [hβ];exact if_pos rfl,t',?_⟩,.inr (hfr _ (Nat.le_refl _) (by omega)),λ j' hj'=>.inl ?_⟩
   ·rw [hβ,L2 (M:=M) (v:=((C.ext k::cells).map (C.den m)).headD undef) rfl];exact ht'
   ·rw [L3 hj'];exact hak
  ·simp [lkp] at hE
 ·simp only [T.ids,A.ids,C.ids,List.mem_singleton] at hj
  subst hj
  exact .inr (hfr _ (Nat.le_refl _) (by omega))
theorem Ww (hct:CTok P ct Γ.mono) (h:R Γ n w0 al s m a w) {f:Nat} {fo:Operand} {as:Array Operand} {tys0:Array Nat} {tys:List Nat} {ts ext:List T} (ho:o.op=.call { callee:=.value fo,args:=as,argTypes:=tys0 }) (hfo:a.eval fo=.func (.func f) #[] (ext.map (T.den m)).toArray) (has:All2 (λ x t=>ev s x=some t) as.toList ts)
  (hal:∀ i,al i->¬ (nx<=i/\i<nx+32)) (hfr:∀ i,nx<=i->i<nx+32->fr i):Snd P Γ al fr m a w o (Nq tt ct s nx f tys (ts++ext)):=by
 intro q hk Q
 unfold Nq at hk
 split at hk
 case h_1=>exact hk.elim
 rename_i c hc
 split at hk
 case h_1=>rename_i cs pn hptr;exact VJ hct h ho hfo has (LI hct hc) hptr hal hfr q hk Q
 rename_i hptr
 split at hk
 case h_1=>rename_i pc hnp;exact VK hct h ho hfo has (LI hct hc) hptr hnp hal hfr q hk Q
 rename_i hnp
 have hokB:=LI hct hc
 have hok:c.OkA P f/\(Γ.mono=true->c.mono=true):=⟨hokB.1.a hptr hnp,hokB.2⟩
 clear hokB
 split at hk
 ·exact hk.elim
 ·rename_i ds cells hds
  split at hk
  ·exact VI hct h ho hfo has hok hds q hk Q
  ·rename_i ks hks
   split at hk
   ·rename_i hcond
    simp only [Bool.and_eq_true,Bool.not_eq_true'] at hcond
    obtain ⟨hnd,hdisj⟩:=hcond
    have hnd:=C1 hnd
    obtain ⟨i,rfl,hpre,hk⟩:=hk
    obtain ⟨d1,d2⟩:=Gh (m:=m) hds
    obtain ⟨m1,m2⟩:=QK hks
    have hts:as.toList.map a.eval=ts.map (T.den m):=by
     clear hc hds d2 hk
     generalize as.toList=l at has
     induction has with
     | nil=>rfl
     | cons h1 _ ih=>simp [ih,(h.ev h1).1]
    let deps:=Bn s c.mu cells 0
    let F:Nat->Prop:=λ b=>Γ.may m deps b/\b<w.heap.size
    have hkdeps:∀ k ∈ ks,k ∉ deps:=λ k hk hd=>by
     have:=List.any_eq_false.1 hdisj k hk
     exact this (List.any_eq_true.2 ⟨k,hd,by simp⟩)
    -- the blocks of what is turned
    obtain ⟨mb,hmb⟩:∃ mb:Nat->List Nat,∀ j k:Nat,ks[j]?=some k->∀ (e:Nat) (ts:List Ty) (rows:List (List Dat)),lkp s.en k=some (.own e ts rows)->Fp w (.sl e ts) (.sl rows) (m.ε k) (mb j)/\(mb j).Nodup/\∀ b ∈ mb j,Γ.mine b/\m.π b=k:=by
     have:∀ j:Nat,∃ bs:List Nat,∀ k:Nat,ks[j]?=some k->∀ (e:Nat) (ts:List Ty) (rows:List (List Dat)),lkp s.en k=some (.own e ts rows)->Fp w (.sl e ts) (.sl rows) (m.ε k) bs/\bs.Nodup/\∀ b ∈ bs,Γ.mine b/\m.π b=k:=λ j=>by
      cases hj:ks[j]? with
      | none=>exact ⟨[],by simp⟩
      | some k=>
       cases hl:lkp s.en k with
       | none=>exact ⟨[],λ k' hk' e ts rows hl'=>by simp at hk';subst hk';rw [hl] at hl';cases hl'⟩
       | some E=>
        cases E with
        | own e ts rows=>
         obtain ⟨bs,b1,b2,b3⟩:=(h.en _ _ hl).1
         exact ⟨bs,λ k' hk' e' ts' rows' hl'=>by simp at hk';subst hk';rw [hl] at hl';simp only [Option.some.injEq,En.own.injEq] at hl';obtain ⟨rfl,rfl,rfl⟩:=hl';exact ⟨b1,b2,b3⟩⟩
        | _=>exact ⟨[],λ k' hk' e ts rows hl'=>by simp at hk';subst hk';rw [hl] at hl';cases hl'⟩
     exact Classical.skolem.1 this
    have hmbk:∀ j,j<c.mu.length->∃ k,ks[j]?=some k/\al k/\∀ b ∈ mb j,Γ.mine b/\m.π b=k:=λ j hj=>by
     obtain ⟨k,e,ts,rows,k1,k2,k3⟩:=m2 j _ (List.getElem?_eq_getElem hj)
     exact ⟨k,k1,(h.en _ _ k3).2.1,(hmb j k k1 _ _ _ k3).2.2⟩
    have hargs:ArgsAt F w c.mu mb ((c.args i).flatMap DA.cells) (cells.map (C.den m)):=by
     refine ⟨by simp [d1.len],λ b hb=>hb.2,λ p d u hd hu hp=>?_,λ j p hj=>?_,λ j1 j2 b hne h1 h2 hb1 hb2=>?_,λ j b hj hb hF=>?_,h.stood,λ j b hj hb hs=>?_⟩
     ·simp only [List.getElem?_map,Option.map_eq_some_iff] at hu
      obtain ⟨c0,hc0,rfl⟩:=hu
      obtain ⟨t,ht⟩:=d1.get hc0 hd
      have:=LJ h ht
      have hsub:∀ b,Γ.may m (Bm s c0) b/\b<w.heap.size->F b:=λ b hb=>⟨CN (Ds (p0:=0) hc0 (by simpa using hp)) hb.1,hb.2⟩
      cases d with
      | im v=>exact this
      | sl e ts rows=>exact RdS.mono hsub _ _ _ this
      | ro d=>exact ROAt.mono hsub this
     ·obtain ⟨k,e,ts,rows,k1,k2,k3⟩:=m2 j p hj
      have hb:=hmb j k k1 _ _ _ k3
      refine ⟨e,ts,rows,m.ε k,?_,by simp [k2,C.den],hb.1,hb.2.1⟩
      have hlen:p<((c.args i).flatMap DA.cells).length:=by rw [← d1.len];exact (List.getElem?_eq_some_iff.1 k2).1
      obtain ⟨t,ht⟩:=d1.get k2 (List.getElem?_eq_getElem hlen)
      rw [List.getElem?_eq_getElem hlen,QI ht k3]
     ·obtain ⟨k,k1,-,k2⟩:=hmbk j1 h1
      obtain ⟨k',k1',-,k2'⟩:=hmbk j2 h2
      have e1:=(k2 b hb1).2
      have e2:=(k2' b hb2).2
      rw [e1] at e2
      subst e2
      exact hne (Ns hnd k1 k1')
     ·obtain ⟨k,k1,k0,k2⟩:=hmbk j hj
      have hkm:k ∈ ks:=List.mem_of_getElem? k1
      obtain ⟨e1,e2⟩:=k2 b hb
      rcases hF.1 with h1|h1|h1
      ·exact Γ.hG b h1 e1
      ·rw [e2] at h1;exact h.pos (h1.2 ▸ k0)
      ·rw [e2] at h1;exact hkdeps k hkm h1.2
     ·obtain ⟨k,k1,k0,k2⟩:=hmbk j hj
      exact Γ.hst b hs (k2 b hb).1
    have hcalls:=hok.1.run hok.2 i hpre F w _ mb hargs
    obtain ⟨fn,e1,e2,e3⟩:=hok.1.enter
    have hexec:(execOp a.eval o).run P w=.ok (.enter f (BA (c.args i) (cells.map (C.den m))).toArray) w:=by
     have hmap:as.map a.eval++(ext.map (T.den m)).toArray=(BA (c.args i) (cells.map (C.den m))).toArray:=by
      apply Array.ext'
      rw [Array.toList_append,Array.toList_map,hts,← d2,List.map_append]
     simp only [execOp,ho,resolve,hfo,Deferred.ofValue,Sem.run_bind,Sem.run_pure,Result.andThen_ok,invoke,callFunc,program,Sem.run,e1,hmap,Array.empty_append]
     simp [e2,e3]
    unfold Oper.wp
    rw [hexec]
    simp only [Oper.upon]
    refine hcalls.mono ?_
    rintro e w' ⟨i1,hto,rs,bs,rfl,hp,hdr⟩
    simp only
    have hk:q (Es s nx deps ks c.gone (c.res i1) (c.new i1)):=by
     unfold Con.to at hto
     cases halt:c.alt with
     | none=>rw [halt] at hk hto;subst hto;exact hk
     | some a=>rw [halt] at hk hto;exact hk i1 hto
    have hsm:=hok.1.small i1
    let N:=(c.res i1).cells.length
    have hbase:∀ b ∈ bs,Γ.mine b:=λ b hb=>by
     rcases hp.fresh b hb with h1|⟨j,_,hj,hbj⟩
     ·exact .inl (Nat.le_trans h.old h1)
     ·obtain ⟨k,-,-,k2⟩:=hmbk j hj
      exact (k2 b hbj).1
    obtain ⟨r1,r2,g,r3,r4⟩:=Jl (Γ:=Γ) (deps:=deps) (nx:=nx) hp.res hp.nd hbase
    let π' : Nat->Nat:=λ b=>if b ∈ bs then g b else if b<w.heap.size then m.π b else 0
    let M:Maps:=⟨m.β,λ j=>if nx<=j/\j<nx+N then rs.getD (j-nx) undef else m.ε j,π'⟩
    have hnb:∀ b,b<w.heap.size->m.π b ∉ ks->b ∉ bs:=λ b hb hk hx=>by
     rcases hp.fresh b hx with h1|⟨j,_,hj,hbj⟩
     ·omega
     ·obtain ⟨k,k1,-,k2⟩:=hmbk j hj
      exact hk ((k2 b hbj).2 ▸ List.mem_of_getElem? k1)
    have hπ:∀ b,b<w.heap.size->m.π b ∉ ks->π' b=m.π b:=λ b hb hk=>by simp only [π',if_neg (hnb b hb hk),if_pos hb]
    have hFk:∀ b,F b->Γ.mine b->m.π b ∉ ks:=λ b hF hb hk=>by
     rcases hF.1 with h1|h1|h1
     ·exact Γ.hG b h1 hb
     ·obtain ⟨j,hj⟩:=List.getElem?_of_mem hk
      have hjl:j<c.mu.length:=by rw [← m1];exact (List.getElem?_eq_some_iff.1 hj).1
      obtain ⟨k,k1,k0,-⟩:=hmbk j hjl
      rw [k1] at hj
      simp only [Option.some.injEq] at hj
      rw [h1.2] at hj
      exact h.pos (hj ▸ k0)
     ·exact hkdeps _ hk h1.2
    have hview:∀ b,F b∨(w.heap.size<=b/\b ∉ bs)->Γ.may M deps b:=by
     intro b hb
     rcases hb with ⟨hb,hlt⟩|⟨hb,hx⟩
     ·have e:Γ.mine b->M.π b=m.π b:=λ h0=>hπ b hlt (hFk b ⟨hb,hlt⟩ h0)
      rcases hb with h1|h1|h1
      ·exact .inl h1
      ·exact .inr (.inl ⟨h1.1,by rw [e h1.1];exact h1.2⟩)
      ·exact .inr (.inr ⟨h1.1,by rw [e h1.1];exact h1.2⟩)
     ·exact .inr (.inl ⟨.inl (Nat.le_trans h.old hb),by show π' b=0;simp only [π',if_neg hx,if_neg (Nat.not_lt.2 hb)]⟩)
    obtain ⟨x1,x2⟩:=r4 M hview (λ q hq=>by
     show (if nx<=nx+q/\nx+q<nx+N then rs.getD (nx+q-nx) undef else m.ε (nx+q))=_
     rw [if_pos ⟨by omega,by omega⟩,Nat.add_sub_cancel_left]) (λ b hb=>by show π' b=_;simp only [π',if_pos hb])
    have hsame:Maps.same al m M:=λ j hj=>⟨rfl,if_neg (by have:=hal j hj;omega)⟩
    have hus:∀ k ∈ ks,k ∈ (Es s nx deps ks c.gone (c.res i1) (c.new i1)).us:=λ k hk=>by
     simp only [Eff.us,Es,List.map_append,QM]
     exact List.mem_append.2 (.inr hk)
    have hkeep:∀ b,b<w.heap.size->(¬ Γ.mine b∨m.π b ∉ ks)->w'.heap[b]?=w.heap[b]?:=λ b hb h2=>hp.keep b hb λ j hj hbj=>by
     obtain ⟨k,k1,-,k2⟩:=hmbk j hj
     have:=k2 b hbj
     rcases h2 with h2|h2
     ·exact h2 this.1
     ·exact h2 (this.2 ▸ List.mem_of_getElem? k1)
    refine ⟨Es s nx deps ks c.gone (c.res i1) (c.new i1),M,hk,⟨?_,hsame,?_,λ b hb h2=>hkeep b hb (h2.imp id λ hx hy=>hx (hus _ hy)),λ b hb hu=>hπ b hb λ hk'=>hu (hus _ hk'),λ j E hE=>?_,λ j hj=>?_⟩⟩
    ·simp only [Es,RT.t_den,x1]
    ·exact ⟨hdr,hp.os,hp.tape,hp.output,hp.size,λ b hb=>hkeep b (Nat.lt_of_lt_of_le (Env.old hb) h.old) (.inl hb)⟩
    ·simp only [Es,Cq] at hE
     cases hl:lkp (In deps (c.res i1).cells nx) j with
     | some E'=>
      rw [hl] at hE
      obtain rfl:=Option.some.inj hE
      obtain ⟨e1,e2,e3⟩:=x2 j E' hl
      exact ⟨e2,.inr (hfr j e1.1 (by omega)),λ j' hj'=>.inl (II h (e3 j' hj'))⟩
     | none=>
      rw [hl,Option.none_or] at hE
      obtain ⟨j',k1,rfl⟩:=QL hE
      have hj' : j' < c.mu.length:=by rw [← m1];exact (List.getElem?_eq_some_iff.1 k1).1
      obtain ⟨k,e,ts,rows,k1',k2,k3⟩:=m2 j' _ (List.getElem?_eq_getElem hj')
      rw [k1] at k1'
      obtain rfl:=Option.some.inj k1'
      rw [k3]
      simp only [Nat.zero_add]
      obtain ⟨b1,b2,b3⟩:=hmb j' j k1 _ _ _ k3
      have hal':=(h.en _ _ k3).2.1
      cases hgone:ZP c.gone j' with
      | true=>exact ⟨trivial,.inl hal',by simp [En.ids]⟩
      | false=>
      have hgone:=SC hgone
      obtain ⟨e',ts',rows',u,q1,q2,-,-⟩:=hargs.own j' _ (List.getElem?_eq_getElem hj')
      obtain ⟨bt,htn,t2,t3,-⟩:=hp.turned j' _ e' ts' rows' u hgone (List.getElem?_eq_getElem hj') q1 q2
      refine ⟨⟨bt,?_,t2,λ b hb=>⟨(b3 b (t3 b hb)).1,?_⟩⟩,.inl hal',by simp [En.ids]⟩
      ·have this:=htn
       have hu:u=m.ε j:=by
        simp only [List.getElem?_map,k2,Option.map_some,Option.some.injEq,C.den] at q2
        exact q2.symm
       rw [hu] at this
       rw [(hsame j hal').2]
       have hd:e'=e/\ts'=ts:=by
        obtain ⟨t,ht⟩:=d1.get k2 q1
        have:=QI ht k3
        simp only [DC.sl.injEq] at this
        exact ⟨this.1,this.2.1⟩
       rw [← hd.1,← hd.2];exact this
      ·show π' b=j
       have hb:=t3 b hb
       have hlt:=Fp.lt _ _ _ _ b1 b hb
       have hnb:b ∉ bs:=λ hx=>by
        rcases hp.fresh b hx with h1|⟨j2,hj2,hl2,hb2⟩
        ·omega
        ·exact hargs.dis j' j2 b (λ e=>hgone (e ▸ hj2)) hj' hl2 hb hb2
       simp only [π',if_neg hnb,if_pos hlt]
       exact (b3 b hb).2
    ·obtain ⟨c',hc',hj⟩:=RT.t_ids hj
     have:=r2 c' hc' j hj
     exact .inr (hfr j this.1 (by omega))
   ·exact hk.elim
end
end Go.Proofs.YtkffpiaagjcmpaaGreat
namespace Go.Proofs.YtkffpiaagjcmpaaGreat
set_option linter.unusedVariables false
set_option linter.unusedSimpArgs false
open Go.RowKit
theorem FpRow.setAt {w:World} {d' : Dat} {c:Value} {b2:List Nat} : ∀ (ts:List Ty) (ds:List Dat) (vs:List Value) (bs:List Nat) (i:Nat),FpRow w ts ds vs bs->bs.Nodup->i<ts.length->Fp w (ts.getD i .int) d' c b2->b2.Nodup->(∀ b ∈ b2,b ∉ bs) ->
  ∃ bs',FpRow w ts (ds.set i d') (vs.set i c) bs'/\bs'.Nodup/\∀ b ∈ bs',b ∈ bs∨b ∈ b2
 | [],_,_,_,_,_,_,hi,_,_,_=>by simp at hi
 | t::ts,[],_,_,_,h,_,_,_,_,_=>by simp [FpRow] at h
 | t::ts,_::_,[],_,_,h,_,_,_,_,_=>by simp [FpRow] at h
 | t::ts,d::ds,v::vs,bs,0,h,hn,_,hf,h2,hd=>by
  simp only [List.getD_cons_zero,List.set_cons_zero,FpRow] at *
  obtain ⟨b1,b3,rfl,h1,h3⟩:=h
  have hn':=List.nodup_append.1 hn
  refine ⟨b2++b3,⟨b2,b3,rfl,hf,h3⟩,List.nodup_append.2 ⟨h2,hn'.2.1,λ a ha b hb e=>hd a ha (by subst e;simp [hb])⟩,λ b hb=>?_⟩
  rcases List.mem_append.1 hb with hb|hb
  ·exact .inr hb
  ·exact .inl (by simp [hb])
 | t::ts,d::ds,v::vs,bs,i+1,h,hn,hi,hf,h2,hd=>by
  simp only [List.getD_cons_succ,List.set_cons_succ,FpRow] at *
  obtain ⟨b1,b3,rfl,h1,h3⟩:=h
  have hn':=List.nodup_append.1 hn
  obtain ⟨bs',q1,q2,q3⟩:=FpRow.setAt ts ds vs b3 i h3 hn'.2.1 (by simpa using hi) hf h2 (λ b hb hb3=>hd b hb (by simp [hb3]))
  refine ⟨b1++bs',⟨b1,bs',rfl,h1,q1⟩,List.nodup_append.2 ⟨hn'.1,q2,λ a ha b hb e=>?_⟩,λ b hb=>?_⟩
  ·subst e
   rcases q3 a hb with hb|hb
   ·exact hn'.2.2 a ha a hb rfl
   ·exact hd a hb (by simp [ha])
  ·rcases List.mem_append.1 hb with hb|hb
   ·exact .inl (by simp [hb])
   ·rcases q3 b hb with hb|hb
    ·exact .inl (by simp [hb])
    ·exact .inr hb
theorem Nu {bss:List (List Nat)} {j:Nat} {bj:List Nat} (h:bss.flatten.Nodup) (hj:j<bss.length) (hb:bj.Nodup) (hd:∀ b ∈ bj,b ∈ bss.flatten->b ∈ bss.getD j []):(bss.set j bj).flatten.Nodup:=by
 refine List.pairwise_flatten.2 ⟨λ l hl=>?_,?_⟩
 ·rcases List.mem_or_eq_of_mem_set hl with hl|rfl
  ·exact (List.pairwise_flatten.1 h).1 l hl
  ·exact hb
 ·rw [List.pairwise_iff_getElem]
  intro a b ha hb' hab x hx y hy e
  subst e
  simp only [List.length_set] at ha hb'
  rw [List.getElem_set] at hx hy
  have key:∀ k,k<bss.length->k≠j->x ∈ bss.getD k []->x ∈ bj->False:=λ k hk hkj h1 h2=>by
   exact ID h hkj h1 (hd x h2 (AO h1))
  have eg:∀ k (hk:k<bss.length),bss.getD k []=bss[k]:=λ k hk=>by simp [List.getD,hk]
  split at hx
  ·split at hy
   ·omega
   ·rename_i e1 e2;exact key b hb' (λ e=>e2 e.symm) (by rw [eg b hb'];exact hy) hx
  ·split at hy
   ·rename_i e1 e2;exact key a ha (λ e=>e1 e.symm) (by rw [eg a ha];exact hx) hy
   ·exact ID h (Nat.ne_of_lt hab) (by rw [eg a ha];exact hx) (by rw [eg b hb'];exact hy)
theorem Cm {bss:List (List Nat)} {j:Nat} {bj:List Nat} {b:Nat} (h:b ∈ (bss.set j bj).flatten):b ∈ bss.flatten∨b ∈ bj:=by
 obtain ⟨l,hl,hb⟩:=List.mem_flatten.1 h
 rcases List.mem_or_eq_of_mem_set hl with hl|rfl
 ·exact .inl (List.mem_flatten.2 ⟨l,hl,hb⟩)
 ·exact .inr hb
theorem Gi {sz:Nat} {row' : List Value} (hrl' : row'.length=sz):∀ (rows:List (List Value)) (j:Nat),(∀ r ∈ rows,r.length=sz)->j<rows.length->rows.flatten.take (j*sz)++row'++rows.flatten.drop (j*sz+row'.length)=(rows.set j row').flatten:=by
 intro rows
 induction rows with
 | nil=>intro j _ hj;simp at hj
 | cons x r ih=>
  intro j hr hj
  have hx:=hr x (by simp)
  cases j with
  | zero=>simp [hrl',hx]
  | succ j=>
   have:=ih j (λ q hq=>hr q (by simp [hq])) (by simpa using hj)
   simp only [List.flatten_cons,List.set_cons_succ,← this]
   rw [List.take_append,List.drop_append,List.take_of_length_le (by rw [hx,Nat.add_mul];omega),List.drop_of_length_le (by rw [hx,Nat.add_mul];omega)]
   have e1:(j+1)*sz-x.length=j*sz:=by rw [hx,Nat.add_mul];omega
   have e2:(j+1)*sz+row'.length-x.length=j*sz+row'.length:=by rw [hx,Nat.add_mul];omega
   rw [e1,e2]
   simp
theorem Fp.setCell {w:World} {e:Nat} {ts:List Ty} {L:List (List Dat)} {g len cap:Nat} {bs:List Nat} {j i:Nat} (h:Fp w (.sl e ts) (.sl L) (.slice (some ⟨g,0,none⟩) len cap) bs) (hn:bs.Nodup) (hj:j<L.length) (hi:i<ts.length)
  {d' : Dat} {c:Value} {b2:List Nat} (hf:Fp w (ts.getD i .int) d' c b2) (h2:b2.Nodup) (hd:∀ b ∈ b2,b ∉ bs) :
  ∃ bs',Fp (w.setCell ⟨g,j*ts.length+i,none⟩ c) (.sl e ts) (.sl (L.set j ((L.getD j []).set i d'))) (.slice (some ⟨g,0,none⟩) len cap) bs'/\bs'.Nodup/\∀ b ∈ bs',b ∈ bs∨b ∈ b2:=by
 simp only [Fp] at h
 obtain ⟨rows,bss,h1,h2',h3,h4,h5,rfl⟩:=h
 have hn':=hn
 simp only [Value.ownBlock,Option.toList_some,List.singleton_append,List.nodup_cons] at hn'
 have hsl:len=rows.length:=by
  rcases h1.2 with ⟨h,_⟩|⟨g',cap',cur,h,_⟩
  ·simp at h
  ·simp at h;exact h.2.1
 subst hsl
 have hrl:(rows.getD j []).length=ts.length:=h4 _ (by simp [List.getD,show j<rows.length by omega])
 have hxl:rows.flatten.length=rows.length*ts.length:=h1.1
 have hjl:j*ts.length+ts.length<=rows.length*ts.length:=by
  have:=Nat.mul_le_mul_right ts.length (show j+1<=rows.length by omega);rw [Nat.add_mul] at this;omega
 have hgb:g ∉ bss.flatten:=hn'.1
 have hg2:g ∉ b2:=λ hb=>hd g hb (by simp [Value.ownBlock])
 have hcell:∀ i,i<ts.length->w.cell? ⟨g,j*ts.length+i,none⟩=(rows.getD j [])[i]?:=λ i hi=>by
  rw [h1.cellAt _ (by omega)]
  have:=Dp rows ts.length h4 (j*ts.length+i) (by rw [Nat.mul_comm,Nat.mul_add_div (by omega),Nat.div_eq_of_lt hi];omega) (Nat.mod_lt _ (by omega))
  rw [this,Nat.mul_comm,Nat.mul_add_div (by omega),Nat.div_eq_of_lt hi,Nat.mul_add_mod,Nat.mod_eq_of_lt hi,Nat.add_zero]
  simp only [List.getD,List.getElem?_eq_getElem (show i<(rows[j]?.getD []).length by have:=hrl;simp only [List.getD] at this;omega),Option.getD_some]
 have hst:=LG g (rows.getD j []) w (j*ts.length) i c (λ k hk=>hcell k (by omega)) (by omega)
 obtain ⟨bj',q1,q2,q3⟩:=FpRow.setAt ts _ _ _ i (h5 j hj) (Nd hn'.2 j) hi hf h2 (λ b hb hb3=>hd b hb (List.mem_append.2 (.inr (AO hb3))))
 have hgj:g ∉ bj':=λ hb=>(q3 g hb).elim (λ h=>hgb (AO h)) hg2
 have ho:OnlyIn (λ b=>b=g) w (w.setCell ⟨g,j*ts.length+i,none⟩ c):=(OnlyIn.refl _ w).setCell (S:=λ b=>b=g) rfl c
 have hrl' : ((rows.getD j []).set i c).length=ts.length:=by rw [List.length_set];exact hrl
 refine ⟨[g]++(bss.set j bj').flatten,?_,?_,?_⟩
 ·simp only [Fp]
  refine ⟨rows.set j ((rows.getD j []).set i c),bss.set j bj',?_,by simp [h2'],by simp [h3],?_,?_,by simp [Value.ownBlock]⟩
  ·have o1:=FJ ((rows.getD j []).set i c) w (j*ts.length) rows.flatten h1 (by omega)
   rw [hst,Gi hrl' rows j h4 (by omega)] at o1
   simpa using o1
  ·intro r hr
   rcases List.mem_or_eq_of_mem_set hr with hr|rfl
   ·exact h4 r hr
   ·exact hrl'
  ·intro k hk
   simp only [List.length_set] at hk
   by_cases hkj:k=j
   ·subst hkj
    have e1:(L.set k ((L.getD k []).set i d')).getD k []=(L.getD k []).set i d':=by simp [List.getD,hk]
    have e2:(rows.set k ((rows.getD k []).set i c)).getD k []=(rows.getD k []).set i c:=by simp [List.getD,show k<rows.length by omega]
    have e3:(bss.set k bj').getD k []=bj':=by simp [List.getD,show k<bss.length by omega]
    rw [e1,e2,e3]
    exact FpRow.only ho _ _ _ _ q1 (λ b hb e=>hgj (e ▸ hb))
   ·have e1:(L.set j ((L.getD j []).set i d')).getD k []=L.getD k []:=by simp [List.getD,List.getElem?_set_ne (λ e=>hkj e.symm)]
    have e2:(rows.set j ((rows.getD j []).set i c)).getD k []=rows.getD k []:=by simp [List.getD,List.getElem?_set_ne (λ e=>hkj e.symm)]
    have e3:(bss.set j bj').getD k []=bss.getD k []:=by simp [List.getD,List.getElem?_set_ne (λ e=>hkj e.symm)]
    rw [e1,e2,e3]
    exact FpRow.only ho _ _ _ _ (h5 k hk) (λ b hb e=>hgb (AO (e ▸ hb)))
 ·simp only [List.singleton_append,List.nodup_cons]
  refine ⟨λ hb=>?_,Nu hn'.2 (by omega) q2 (λ b hb hb2=>?_)⟩
  ·rcases Cm hb with hb|hb
   ·exact hgb hb
   ·exact hgj hb
  ·rcases q3 b hb with hb|hb
   ·exact hb
   ·exact absurd (List.mem_append.2 (.inr hb2)) (hd b hb)
 ·intro b hb
  simp only [List.singleton_append,List.mem_cons] at hb
  rcases hb with rfl|hb
  ·exact .inl (by simp [Value.ownBlock])
  ·rcases Cm hb with hb|hb
   ·exact .inl (List.mem_append.2 (.inr hb))
   ·rcases q3 b hb with hb|hb
    ·exact .inl (List.mem_append.2 (.inr (AO hb)))
    ·exact .inr hb
end Go.Proofs.YtkffpiaagjcmpaaGreat
namespace Go.Proofs.YtkffpiaagjcmpaaGreat
set_option linter.unusedVariables false
set_option linter.unusedSimpArgs false
open Go.RowKit
theorem Fp.setRow {w:World} {e:Nat} {ts:List Ty} {L:List (List Dat)} {g len cap:Nat} {bs:List Nat} {j:Nat} (h:Fp w (.sl e ts) (.sl L) (.slice (some ⟨g,0,none⟩) len cap) bs) (hn:bs.Nodup) (hj:j<L.length)
  {ds:List Dat} {cs:List Value} {b2:List Nat} (hf:FpRow w ts ds cs b2) (h2:b2.Nodup) (hd:∀ b ∈ b2,b ∉ bs) :
  ∃ bs',Fp (stN w g (j*ts.length) cs) (.sl e ts) (.sl (L.set j ds)) (.slice (some ⟨g,0,none⟩) len cap) bs'/\bs'.Nodup/\∀ b ∈ bs',b ∈ bs∨b ∈ b2:=by
 simp only [Fp] at h
 obtain ⟨rows,bss,h1,h2',h3,h4,h5,rfl⟩:=h
 have hn':=hn
 simp only [Value.ownBlock,Option.toList_some,List.singleton_append,List.nodup_cons] at hn'
 have hsl:len=rows.length:=by
  rcases h1.2 with ⟨h,_⟩|⟨g',cap',cur,h,_⟩
  ·simp at h
  ·simp at h;exact h.2.1
 subst hsl
 have hrl' : cs.length=ts.length:=(RdRow.lens _ _ _ (FpRow.rd _ _ _ _ hf)).2
 have hxl:rows.flatten.length=rows.length*ts.length:=h1.1
 have hjl:j*ts.length+ts.length<=rows.length*ts.length:=by
  have:=Nat.mul_le_mul_right ts.length (show j+1<=rows.length by omega);rw [Nat.add_mul] at this;omega
 have hgb:g ∉ bss.flatten:=hn'.1
 have hg2:g ∉ b2:=λ hb=>hd g hb (by simp [Value.ownBlock])
 have ho:OnlyIn (λ b=>b=g) w (stN w g (j*ts.length) cs):=Ga g cs w _
 refine ⟨[g]++(bss.set j b2).flatten,?_,?_,?_⟩
 ·simp only [Fp]
  refine ⟨rows.set j cs,bss.set j b2,?_,by simp [h2'],by simp [h3],?_,?_,by simp [Value.ownBlock]⟩
  ·have o1:=FJ cs w (j*ts.length) rows.flatten h1 (by omega)
   rw [Gi hrl' rows j h4 (by omega)] at o1
   simpa using o1
  ·intro r hr
   rcases List.mem_or_eq_of_mem_set hr with hr|rfl
   ·exact h4 r hr
   ·exact hrl'
  ·intro k hk
   simp only [List.length_set] at hk
   by_cases hkj:k=j
   ·subst hkj
    have e1:(L.set k ds).getD k []=ds:=by simp [List.getD,hk]
    have e2:(rows.set k cs).getD k []=cs:=by simp [List.getD,show k<rows.length by omega]
    have e3:(bss.set k b2).getD k []=b2:=by simp [List.getD,show k<bss.length by omega]
    rw [e1,e2,e3]
    exact FpRow.only ho _ _ _ _ hf (λ b hb e=>hg2 (e ▸ hb))
   ·have e1:(L.set j ds).getD k []=L.getD k []:=by simp [List.getD,List.getElem?_set_ne (λ e=>hkj e.symm)]
    have e2:(rows.set j cs).getD k []=rows.getD k []:=by simp [List.getD,List.getElem?_set_ne (λ e=>hkj e.symm)]
    have e3:(bss.set j b2).getD k []=bss.getD k []:=by simp [List.getD,List.getElem?_set_ne (λ e=>hkj e.symm)]
    rw [e1,e2,e3]
    exact FpRow.only ho _ _ _ _ (h5 k hk) (λ b hb e=>hgb (AO (e ▸ hb)))
 ·simp only [List.singleton_append,List.nodup_cons]
  refine ⟨λ hb=>?_,Nu hn'.2 (by omega) h2 (λ b hb hb2=>absurd (List.mem_append.2 (.inr hb2)) (hd b hb))⟩
  rcases Cm hb with hb|hb
  ·exact hgb hb
  ·exact hg2 hb
 ·intro b hb
  simp only [List.singleton_append,List.mem_cons] at hb
  rcases hb with rfl|hb
  ·exact .inl (by simp [Value.ownBlock])
  ·rcases Cm hb with hb|hb
   ·exact .inl (List.mem_append.2 (.inr hb))
   ·exact .inr hb
theorem EU (P:Program) (g o:Nat):∀ (vs:List Value) (k:Nat) (w:World),(∀ i,i<vs.length->(w.cell? ⟨g,o+k+i,none⟩).isSome=true/\w.frozen? ⟨g,o+k+i,none⟩=false)->(∀ u ∈ vs,u.oneCell'=true) ->
  (storeCells ⟨g,o,none⟩ vs k).run P w=.ok () (stN w g (o+k) vs)
 | [],k,w,_,_=>by simp [storeCells,stN]
 | v::vs,k,w,hc,h1=>by
  have h0:=hc 0 (by simp)
  simp only [Nat.add_zero] at h0
  have hst:=run_store P w ⟨g,o+k,none⟩ v .plain (h1 v (by simp))
  obtain ⟨u,hu⟩:=Option.isSome_iff_exists.1 h0.1
  rw [hu] at hst
  simp only [h0.2,Bool.false_eq_true,if_false] at hst
  have hadd:(⟨g,o,none⟩:Addr).add k=⟨g,o+k,none⟩:=by
   unfold Addr.add;split
   ·rename_i h0;rw [h0];rfl
   ·simp
  have ih:=EU P g o vs (k+1) (w.setCell ⟨g,o+k,none⟩ v) (λ i hi=>by
   have hq:=hc (i+1) (by simpa using hi)
   rw [show o+k+(i+1)=o+(k+1)+i by omega] at hq
   have hne:(⟨g,o+(k+1)+i,none⟩:Addr)≠⟨g,o+k,none⟩:=λ e=>by injection e;omega
   refine ⟨?_,?_⟩
   ·rw [World.cell?_setCell_other _ _ _ _ (λ e=>hne e.symm)];exact hq.1
   ·have hz:=World.frozen?_setCells g [v] (o+k) w ⟨g,o+(k+1)+i,none⟩;simp only [World.setCells] at hz;rw [hz];exact hq.2) (λ u hu=>h1 u (by simp [hu]))
  simp only [storeCells,Sem.run_bind,hadd,hst,Result.andThen_ok,ih,stN]
  rw [show o+k+1=o+(k+1) by omega]
theorem Nv (g:Nat):∀ (cs:List Value) (w:World) (o:Nat),(stN w g o cs).drawn=w.drawn
 | [],_,_=>rfl
 | c::cs,w,o=>Nv g cs (w.setCell ⟨g,o,none⟩ c) (o+1)
def HE (tt:TT) (s:St) (t k sz i j:Nat) (v:T) (q:Eff->Prop):Prop:=
 match lkp tt t,lkp s.en k,v.cs with
 | some ti,some (.own e ts rows),some c=>
  match Gd s ts c with
  | some (ds,ks)=>
   if (c.all (C.fit s) && Nat.beq ti.size ts.length && Nat.beq j 0 && Nat.beq sz ts.length && ET ks && !(ks.any (Nat.beq k)) && Nat.beq c.length ts.length)=true then
    i<rows.length/\q ⟨T.ofV undef,(k,.own e ts (rows.set i ds))::ks.map λ x=>(x,.dead)⟩
   else False
  | none=>False
 | _,_,_=>False
def AB0 (tt:TT) (t:Nat):Bool:=
 match lkp tt t with
 | some ti=>Nat.beq ti.size 1
 | none=>true
def HF (tt:TT) (s:St) (t k sz i j:Nat) (v:T) (q:Eff->Prop):Prop:=
 match lkp tt t,lkp s.en k,v.cs with
 | some ti,some (.own e ts rows),some [c]=>
  match Tz s (ts.getD j .int) c with
  | some (d,ks)=>
   if (c.fit s && Nat.beq ti.size 1 && Nat.blt j ts.length && Nat.beq sz ts.length && !(ks.any (Nat.beq k)))=true then
    i<rows.length/\q ⟨T.ofV undef,(k,.own e ts (rows.set i ((rows.getD i []).set j d)))::ks.map λ x=>(x,.dead)⟩
   else False
  | none=>False
 | _,_,_=>False
section
variable {P : Program} {tt : TT} {Γ : Env} {n : Nat} {w0 : World} {al fr : Nat → Prop} {s : St} {m : Maps} {a : Act} {w : World} {nx : Nat} {o : Oper}
theorem QP {ks:List Nat} {i:Nat} {E:En} (h:lkp (ks.map λ x=>(x,En.dead)) i=some E):E=.dead/\i ∈ ks:=by
 induction ks with
 | nil=>simp [lkp] at h
 | cons x r ih=>
  rw [List.map_cons,AR] at h
  split at h
  ·rename_i e;subst e;obtain rfl:=Option.some.inj h;exact ⟨rfl,by simp⟩
  ·obtain ⟨h1,h2⟩:=ih h;exact ⟨h1,by simp [h2]⟩
theorem SF (hT:TTok P tt) (h:R Γ n w0 al s m a w) {t k sz i j:Nat} {x y:Operand} {v:T} (ho:o.op=.store t x y) (hx:a.eval x=Bk (m.ε k) (i*sz+j)) (hy:a.eval y=v.den m) :
  Snd P Γ al fr m a w o (HF tt s t k sz i j v):=by
 intro q hq Q
 unfold HF at hq
 split at hq
 ·rename_i ti e ts rows c hti hk hc
  split at hq
  ·rename_i d ks hown
   split at hq
   ·rename_i hcond
    simp only [Bool.and_eq_true,Nat.beq_eq,Nat.blt_eq,Bool.not_eq_true'] at hcond
    obtain ⟨⟨⟨⟨hfit,hs1⟩,hj⟩,hsz⟩,hnk⟩:=hcond
    subst hsz
    have hnk:k ∉ ks:=λ hm=>by
     have:=List.any_eq_false.1 hnk k hm
     simp at this
    obtain ⟨hi,hq⟩:=hq
    obtain ⟨⟨bs,f1,f2,f3⟩,hak,-⟩:=h.en _ _ hk
    obtain ⟨⟨b2,g1,g2,g3⟩,hks⟩:=P4 h hown
    obtain ⟨g,len,cap,he,hgb,hcell,hfro⟩:∃ g len cap,m.ε k=.slice (some ⟨g,0,none⟩) len cap/\g ∈ bs/\(w.cell? ⟨g,i*ts.length+j,none⟩).isSome=true/\w.frozen? ⟨g,i*ts.length+j,none⟩=false:=by
     have f1':=f1
     simp only [Fp] at f1'
     obtain ⟨rv,bss,o1,o2,o3,o4,o5,o6⟩:=f1'
     rcases o1.2 with ⟨e1,e2⟩|⟨g,cap,cur,e1,_⟩
     ·omega
     ·have f1'':=f1
      rw [e1] at f1''
      obtain ⟨row,bj,r1,r2,r3,r4,r5,r6,_⟩:=Fp.row f1'' f2 hi
      exact ⟨g,_,_,e1,r6,by rw [r1 j hj];rfl,r2 _⟩
    rw [he] at f1
    obtain ⟨bs',p1,p2,p3⟩:=Fp.setCell f1 f2 hi hj g1 g2 (λ b hb hb2=>hnk (by have:=(g3 b hb).2;rw [(f3 b hb2).2] at this;exact this))
    have hone:=h.fit hfit
    have hcs:=T.cs_cells hc (m:=m) (λ x hx=>by simp only [List.mem_singleton] at hx;subst hx;exact hone)
    have hg:=f3 g hgb
    refine Oper.wp_skip (w':=w.setCell ⟨g,i*ts.length+j,none⟩ (c.den m)) ?_ ⟨_,⟨m.β,m.ε,λ b=>if b ∈ bs' then k else m.π b⟩,hq,?_⟩
    ·have hst:=run_store P w ⟨g,i*ts.length+j,none⟩ (c.den m) .plain hone
     obtain ⟨u,hu⟩:=Option.isSome_iff_exists.1 hcell
     rw [hu] at hst
     simp only [hfro,Bool.false_eq_true,if_false] at hst
     have hadd:(⟨g,0,none⟩:Addr).add (i*ts.length+j)=⟨g,i*ts.length+j,none⟩:=by
      unfold Addr.add;split
      ·rename_i h0;rw [h0]
      ·simp
     have hadd0:(⟨g,i*ts.length+j,none⟩:Addr).add 0=⟨g,i*ts.length+j,none⟩:=rfl
     simp only [execOp,ho,Sem.run_bind,Sem.run_pure,hx,hy,he,Bk,hadd,Instr.storeAt,Instr.sureAddr,storeVar,Result.andThen_ok,(hT _ _ hti).sizeOf,hcs]
     rw [if_neg (by simp [hs1])]
     simp [storeCells,hadd0,hst]
    ·have hus:∀ b,b ∈ bs'->m.π b ∈ (k::ks):=λ b hb=>by
      rcases p3 b hb with hb|hb
      ·rw [(f3 b hb).2];simp
      ·have:=(g3 b hb).2;simp [this]
     have heus:Eff.us ⟨T.ofV undef,(k,En.own e ts (rows.set i ((rows.getD i []).set j d)))::ks.map λ x=>(x,En.dead)⟩=k::ks:=by
      simp [Eff.us,List.map_map,Function.comp_def]
     refine ⟨rfl,λ _ _=>⟨rfl,rfl⟩,⟨λ _=>Nat.le_refl _,rfl,rfl,rfl,by simp [World.setCell],λ b hb=>Below.heap_setCell _ _ _ _ (λ e=>by simp only at e;exact hb (e ▸ hg.1))⟩,?_,?_,?_,by simp [T.ofV,T.ids,A.ids,C.ids]⟩
     ·intro b hb hb2
      refine Below.heap_setCell _ _ _ _ (λ e=>?_)
      simp only at e
      subst e
      rw [heus] at hb2
      rcases hb2 with hb2|hb2
      ·exact hb2 hg.1
      ·exact hb2 (by rw [hg.2];simp)
     ·intro b hb hb2
      rw [heus] at hb2
      exact if_neg λ hm=>hb2 (hus b hm)
     ·intro z E hE
      rw [AR] at hE
      split at hE
      ·rename_i ez
       subst ez
       obtain rfl:=Option.some.inj hE
       refine ⟨⟨bs',by simp only [he];exact p1,p2,λ b hb=>⟨?_,if_pos hb⟩⟩,.inl hak,by simp [En.ids]⟩
       rcases p3 b hb with hb|hb
       ·exact (f3 b hb).1
       ·exact (g3 b hb).1
      ·obtain ⟨rfl,hz⟩:=QP hE
       exact ⟨trivial,.inl (hks z hz),by simp [En.ids]⟩
   ·exact hq.elim
  ·exact hq.elim
 ·exact hq.elim
theorem SG (hT:TTok P tt) (h:R Γ n w0 al s m a w) {t k sz i j:Nat} {x y:Operand} {v:T} (ho:o.op=.store t x y) (hx:a.eval x=Bk (m.ε k) (i*sz+j)) (hy:a.eval y=v.den m) :
  Snd P Γ al fr m a w o (HE tt s t k sz i j v):=by
 intro q hq Q
 unfold HE at hq
 split at hq
 ·rename_i ti e ts rows c hti hk hc
  split at hq
  ·rename_i ds ks hown
   split at hq
   ·rename_i hcond
    simp only [Bool.and_eq_true,Nat.beq_eq,Bool.not_eq_true'] at hcond
    obtain ⟨⟨⟨⟨⟨⟨hfit,hs1⟩,hj⟩,hsz⟩,hnd⟩,hnk⟩,hcl⟩:=hcond
    subst hsz hj
    have hnk:k ∉ ks:=λ hm=>by
     have:=List.any_eq_false.1 hnk k hm
     simp at this
    obtain ⟨hi,hq⟩:=hq
    obtain ⟨⟨bs,f1,f2,f3⟩,hak,-⟩:=h.en _ _ hk
    obtain ⟨⟨b2,g1,g2,g3⟩,hks⟩:=Jd h hown (C1 hnd)
    have hfit:=λ x hx=>List.all_eq_true.1 hfit x hx
    have h1:∀ u ∈ c.map (C.den m),u.oneCell'=true:=λ u hu=>by
     obtain ⟨x,hx,rfl⟩:=List.mem_map.1 hu
     exact h.fit (hfit x hx)
    obtain ⟨g,len,cap,he,hgb,hcell⟩:∃ g len cap,m.ε k=.slice (some ⟨g,0,none⟩) len cap/\g ∈ bs/\∀ l,l<ts.length->(w.cell? ⟨g,i*ts.length+l,none⟩).isSome=true/\w.frozen? ⟨g,i*ts.length+l,none⟩=false:=by
     have f1':=f1
     simp only [Fp] at f1'
     obtain ⟨rv,bss,o1,o2,o3,o4,o5,o6⟩:=f1'
     rcases o1.2 with ⟨e1,e2⟩|⟨g,cap,cur,e1,_⟩
     ·omega
     ·have f1'':=f1
      rw [e1] at f1''
      obtain ⟨row,bj,r1,r2,r3,r4,r5,r6,_⟩:=Fp.row f1'' f2 hi
      exact ⟨g,_,_,e1,r6,λ l hl=>⟨by rw [r1 l hl];rfl,r2 _⟩⟩
    rw [he] at f1
    obtain ⟨bs',p1,p2,p3⟩:=Fp.setRow f1 f2 hi g1 g2 (λ b hb hb2=>hnk (by have:=(g3 b hb).2;rw [(f3 b hb2).2] at this;exact this))
    have hcs:=T.cs_cells hc (m:=m) λ x hx=>h.fit (hfit x hx)
    have hg:=f3 g hgb
    have hst:=EU P g (i*ts.length+0) (c.map (C.den m)) 0 w (λ l hl=>by simp only [Nat.add_zero];exact hcell l (by simpa [hcl] using hl)) h1
    simp only [Nat.add_zero] at hst
    refine Oper.wp_skip (w':=stN w g (i*ts.length) (c.map (C.den m))) ?_ ⟨_,⟨m.β,m.ε,λ b=>if b ∈ bs' then k else m.π b⟩,hq,?_⟩
    ·have hadd:(⟨g,0,none⟩:Addr).add (i*ts.length+0)=⟨g,i*ts.length,none⟩:=by
      unfold Addr.add;split
      ·rename_i h0;rw [Nat.add_zero] at h0;rw [h0]
      ·simp
     simp only [execOp,ho,Sem.run_bind,Sem.run_pure,hx,hy,he,Bk,hadd,Instr.storeAt,Instr.sureAddr,storeVar,Result.andThen_ok,(hT _ _ hti).sizeOf,hcs]
     rw [if_neg (by simp [hs1,hcl])]
     rw [hst]
     rfl
    ·have hus:∀ b,b ∈ bs'->m.π b ∈ (k::ks):=λ b hb=>by
      rcases p3 b hb with hb|hb
      ·rw [(f3 b hb).2];simp
      ·have:=(g3 b hb).2;simp [this]
     have heus:Eff.us ⟨T.ofV undef,(k,En.own e ts (rows.set i ds))::ks.map λ x=>(x,En.dead)⟩=k::ks:=by
      simp [Eff.us,List.map_map,Function.comp_def]
     have hoi:=Ga g (c.map (C.den m)) w (i*ts.length)
     refine ⟨rfl,λ _ _=>⟨rfl,rfl⟩,⟨λ _=>Nat.le_of_eq (Nv g _ w _).symm,hoi.os,hoi.tape,hoi.output,hoi.size,λ b hb=>hoi.block b (Nat.lt_of_lt_of_le (Env.old hb) h.old) (λ e=>hb (e ▸ hg.1))⟩,?_,?_,?_,by simp [T.ofV,T.ids,A.ids,C.ids]⟩
     ·intro b hb hb2
      refine hoi.block b hb (λ e=>?_)
      subst e
      rw [heus] at hb2
      rcases hb2 with hb2|hb2
      ·exact hb2 hg.1
      ·exact hb2 (by rw [hg.2];simp)
     ·intro b hb hb2
      rw [heus] at hb2
      exact if_neg λ hm=>hb2 (hus b hm)
     ·intro z E hE
      rw [AR] at hE
      split at hE
      ·rename_i ez
       subst ez
       obtain rfl:=Option.some.inj hE
       refine ⟨⟨bs',by simp only [he];exact p1,p2,λ b hb=>⟨?_,if_pos hb⟩⟩,.inl hak,by simp [En.ids]⟩
       rcases p3 b hb with hb|hb
       ·exact (f3 b hb).1
       ·exact (g3 b hb).1
      ·obtain ⟨rfl,hz⟩:=QP hE
       exact ⟨trivial,.inl (hks z hz),by simp [En.ids]⟩
   ·exact hq.elim
  ·exact hq.elim
 ·exact hq.elim
end
end Go.Proofs.YtkffpiaagjcmpaaGreat
namespace Go.Proofs.YtkffpiaagjcmpaaGreat
set_option linter.unusedVariables false
set_option linter.unusedSimpArgs false
open Go.RowKit
def HL (tt:TT) (s:St) (t k sz i j:Nat) (v:T) (q:Eff->Prop):Prop:=
 match lkp tt t,lkp s.en k,v.cs with
 | some ti,some (.top e ts rows deps),some [c]=>
  match ZM s (ts.getD j .int) c with
  | some (d,ks)=>
   if (c.fit s && Nat.beq ti.size 1 && Nat.blt j ts.length && Nat.beq sz ts.length && !(ks.any (Nat.beq k)) && !(deps.any (Nat.beq k)))=true then
    i<rows.length/\q ⟨T.ofV undef,[(k,.top e ts (rows.set i ((rows.getD i []).set j d)) (deps++ks))]⟩
   else False
  | none=>False
 | _,_,_=>False
def AB1 (s:St) (k:Nat):Bool:=
 match lkp s.en k with
 | some (.top _ _ _ _)=>true
 | _=>false
def ACU (s:St) (k:Nat):Bool:=
 match lkp s.en k with
 | some (.mu _ _ _ _)=>true
 | _=>false
def Wx:T->Ty->Option (Dat×Value)
 | .one (.one (.im (.int .i64 n))),.int=>some (.int n,.int .i64 n)
 | .one (.one (.im (.bool b))),.bool=>some (.bool b,.bool b)
 | .one (.one (.im (.string b))),.str=>some (.str b,.string b)
 | _,_=>none
def HW (tt:TT) (s:St) (t k sz i j:Nat) (v:T) (q:Eff->Prop):Prop:=
 match lkp tt t,lkp s.en k with
 | some ti,some (.mu e ts rows j0)=>
  match Wx v (ts.getD j .int) with
  | some (d,_)=>
   if (Nat.beq ti.size 1 && Nat.blt j ts.length && Nat.beq sz ts.length)=true then
    i<rows.length/\∀ R:List (List Dat),R=ABw rows i j d->q ⟨T.ofV undef,[(k,.mu e ts R j0)]⟩
   else False
  | none=>False
 | _,_=>False
theorem RdRowS.setAt {F:Nat->Prop} {w:World} {d:Dat} {c:Value} : ∀ (ts:List Ty) (ds:List Dat) (vs:List Value) (i:Nat),RdRowS F w ts ds vs->i<ts.length->RdS F w (ts.getD i .int) d c->RdRowS F w ts (ds.set i d) (vs.set i c)
 | [],_,_,_,_,hi,_=>by simp at hi
 | t::ts,[],_,_,h,_,_=>by simp [RdRowS] at h
 | t::ts,_::_,[],_,h,_,_=>by simp [RdRowS] at h
 | t::ts,d0::ds,v::vs,0,h,_,hd=>by
  simp only [List.getD_cons_zero,List.set_cons_zero,RdRowS] at *
  exact ⟨hd,h.2⟩
 | t::ts,d0::ds,v::vs,i+1,h,hi,hd=>by
  simp only [List.getD_cons_succ,List.set_cons_succ,RdRowS] at *
  exact ⟨h.1,RdRowS.setAt ts ds vs i h.2 (by simpa using hi) hd⟩
section
variable {P : Program} {tt : TT} {Γ : Env} {n : Nat} {w0 : World} {al fr : Nat → Prop} {s : St} {m : Maps} {a : Act} {w : World} {nx : Nat} {o : Oper}
theorem Wy {v:T} {t:Ty} {d:Dat} {u:Value} (h:Wx v t=some (d,u)):t.leaf=true/\(∀ m:Maps,v.den m=u)/\v.ids=[]/\(∀ w,Fp w t d u [])/\u.oneCell'=true/\u.cells=#[u]:=by
 unfold Wx at h
 split at h
 ·simp only [Option.some.injEq,Prod.mk.injEq] at h;obtain ⟨rfl,rfl⟩:=h;exact ⟨rfl,λ _=>rfl,rfl,λ w=>by simp [Fp],rfl,rfl⟩
 ·simp only [Option.some.injEq,Prod.mk.injEq] at h;obtain ⟨rfl,rfl⟩:=h;exact ⟨rfl,λ _=>rfl,rfl,λ w=>by simp [Fp],rfl,rfl⟩
 ·simp only [Option.some.injEq,Prod.mk.injEq] at h;obtain ⟨rfl,rfl⟩:=h;exact ⟨rfl,λ _=>rfl,rfl,λ w=>by simp [Fp],rfl,rfl⟩
 ·cases h
theorem SH (hT:TTok P tt) (h:R Γ n w0 al s m a w) {t k sz i j:Nat} {x y:Operand} {v:T} (ho:o.op=.store t x y) (hx:a.eval x=Bk (m.ε k) (i*sz+j)) (hy:a.eval y=v.den m) :
  Snd P Γ al fr m a w o (HW tt s t k sz i j v):=by
 intro q hq Q
 unfold HW at hq
 split at hq
 ·rename_i ti e ts rows j0 hti hk
  split at hq
  ·rename_i d u hd
   split at hq
   ·rename_i hcond
    simp only [Bool.and_eq_true,Nat.beq_eq,Nat.blt_eq] at hcond
    obtain ⟨⟨hs1,hj⟩,hsz⟩:=hcond
    subst hsz
    obtain ⟨l1,l2,l3,l4,l5,l6⟩:=Wy hd
    rw [l2] at hy
    obtain ⟨hi,hq⟩:=hq
    obtain ⟨⟨f0,f1,f2,f3⟩,hak,-⟩:=h.en _ _ hk
    obtain ⟨g,cap,he,hgb⟩:∃ g cap,m.ε k=.slice (some ⟨g,0,none⟩) rows.length cap/\g ∈ Γ.mb j0:=by
     have f1':=f1
     simp only [Fp] at f1'
     obtain ⟨rv,bss,o1,o2,o3,o4,o5,o6⟩:=f1'
     rcases o1.2 with ⟨e1,e2⟩|⟨g,cap,cur,e1,_⟩
     ·omega
     ·exact ⟨g,cap,by rw [e1,o2],by rw [o6,e1];simp [Value.ownBlock]⟩
    rw [he] at f1
    obtain ⟨row,bj,r1,r2,r3,r4,r5,r6,_⟩:=Fp.row f1 f2 hi
    have hset:rows.set i (rows.getD i [])=rows:=by simp [List.getD,hi]
    have hfin:=Fp.leafAt (ld:=rows.getD i []) (by rw [hset];exact f1) f2 hi j hj (by simpa [List.getD,hj] using l1) d u (λ w'=>by simpa [List.getD,hj] using l4 w')
    have hcell:=r1 j hj
    have hst:=run_store P w ⟨g,i*ts.length+j,none⟩ u .plain l5
    rw [hcell] at hst
    simp only [r2,Bool.false_eq_true,if_false] at hst
    have hadd:(⟨g,0,none⟩:Addr).add (i*ts.length+j)=⟨g,i*ts.length+j,none⟩:=by
     unfold Addr.add;split
     ·rename_i h0;rw [h0]
     ·simp
    have hadd0:(⟨g,i*ts.length+j,none⟩:Addr).add 0=⟨g,i*ts.length+j,none⟩:=rfl
    refine Oper.wp_skip (w':=w.setCell ⟨g,i*ts.length+j,none⟩ u) ?_ ⟨_,m,hq _ rfl,?_⟩
    ·simp only [execOp,ho,Sem.run_bind,Sem.run_pure,hx,hy,he,Bk,hadd,Instr.storeAt,Instr.sureAddr,storeVar,Result.andThen_ok,(hT _ _ hti).sizeOf,l6]
     rw [if_neg (by simp [hs1])]
     simp [storeCells,hadd0,hst]
    ·refine ⟨rfl,λ _ _=>⟨rfl,rfl⟩,⟨λ _=>Nat.le_refl _,rfl,rfl,rfl,by simp [World.setCell],λ b hb=>Below.heap_setCell _ _ _ _ (λ e=>by simp only at e;exact hb (e ▸ .inr ⟨j0,hgb⟩))⟩,?_,λ _ _ _=>rfl,?_,by simp [T.ofV,T.ids,A.ids,C.ids]⟩
     ·intro b hb hb2
      refine Below.heap_setCell _ _ _ _ (λ e=>?_)
      simp only at e
      subst e
      rcases hb2 with hb2|hb2
      ·exact hb2 (.inr ⟨j0,hgb⟩)
      ·exact hb2 (by rw [f3 _ hgb];simp [Eff.us])
     ·intro z E hE
      rw [AR] at hE
      split at hE
      ·rename_i ez
       subst ez
       obtain rfl:=Option.some.inj hE
       exact ⟨⟨f0,by rw [he];exact hfin,f2,f3⟩,.inl hak,by simp [En.ids]⟩
      ·simp [lkp] at hE
   ·exact hq.elim
  ·exact hq.elim
 ·exact hq.elim
theorem SI (hT:TTok P tt) (h:R Γ n w0 al s m a w) {t k sz i j:Nat} {x y:Operand} {v:T} (ho:o.op=.store t x y) (hx:a.eval x=Bk (m.ε k) (i*sz+j)) (hy:a.eval y=v.den m) :
  Snd P Γ al fr m a w o (HL tt s t k sz i j v):=by
 intro q hq Q
 unfold HL at hq
 split at hq
 ·rename_i ti e ts rows deps c hti hk hc
  split at hq
  ·rename_i d ks hrd
   split at hq
   ·rename_i hcond
    simp only [Bool.and_eq_true,Nat.beq_eq,Nat.blt_eq,Bool.not_eq_true'] at hcond
    obtain ⟨⟨⟨⟨⟨hfit,hs1⟩,hj⟩,hsz⟩,hnk⟩,hnd⟩:=hcond
    subst hsz
    have hnot:∀ {l:List Nat},l.any (Nat.beq k)=false->k ∉ l:=λ hl hm=>by
     have:=List.any_eq_false.1 hl k hm
     simp at this
    have hnk:=hnot hnk
    have hnd:=hnot hnd
    obtain ⟨hi,hq⟩:=hq
    obtain ⟨⟨rv,v1,v2,v3,v4,v5⟩,hak,hde⟩:=h.en _ _ hk
    obtain ⟨hF2,hks⟩:=T5 h hrd
    have hk0:k≠0:=λ e=>h.pos (e ▸ hak)
    have hone:=h.fit hfit
    have hcs:=T.cs_cells hc (m:=m) (λ x hx=>by simp only [List.mem_singleton] at hx;subst hx;exact hone)
    obtain ⟨g,cap,he⟩:∃ g cap,m.ε k=.slice (some ⟨g,0,none⟩) rv.length cap:=by
     rcases v1.2 with ⟨e1,e2⟩|⟨g,cap,cur,e1,_⟩
     ·omega
     ·exact ⟨g,cap,e1⟩
    have hg:=v5 g (by rw [he];rfl)
    rw [he] at v1
    have hmay:∀ {l:List Nat},k ∉ l->∀ b,Γ.may m l b->b≠g:=λ hl b hm e=>by
     subst e
     rcases hm with h1|h1|h1
     ·exact Γ.hG b h1 hg.1
     ·rw [hg.2] at h1;exact hk0 h1.2
     ·rw [hg.2] at h1;exact hl h1.2
    have hxl:rv.flatten.length=rv.length*ts.length:=v1.1
    have hjl:i*ts.length+ts.length<=rv.length*ts.length:=by
     have:=Nat.mul_le_mul_right ts.length (show i+1<=rv.length by omega);rw [Nat.add_mul] at this;omega
    have hrl:(rv.getD i []).length=ts.length:=v3 _ (by simp [List.getD,show i<rv.length by omega])
    have hcell:∀ j,j<ts.length->w.cell? ⟨g,i*ts.length+j,none⟩=(rv.getD i [])[j]?:=λ j hj=>by
     rw [v1.cellAt _ (by omega)]
     have:=Dp rv ts.length v3 (i*ts.length+j) (by rw [Nat.mul_comm,Nat.mul_add_div (by omega),Nat.div_eq_of_lt hj];omega) (Nat.mod_lt _ (by omega))
     rw [this,Nat.mul_comm,Nat.mul_add_div (by omega),Nat.div_eq_of_lt hj,Nat.mul_add_mod,Nat.mod_eq_of_lt hj,Nat.add_zero]
     simp only [List.getD,List.getElem?_eq_getElem (show j<(rv[i]?.getD []).length by have:=hrl;simp only [List.getD] at this;omega),Option.getD_some]
    have hst0:=LG g (rv.getD i []) w (i*ts.length) j (c.den m) (λ k hk=>hcell k (by omega)) (by omega)
    have hrl' : ((rv.getD i []).set j (c.den m)).length=ts.length:=by rw [List.length_set];exact hrl
    have hkeep:∀ b,b≠g->(w.setCell ⟨g,i*ts.length+j,none⟩ (c.den m)).heap[b]?=w.heap[b]?:=λ b hb=>Below.heap_setCell _ _ _ _ (λ e=>hb e)
    refine Oper.wp_skip (w':=w.setCell ⟨g,i*ts.length+j,none⟩ (c.den m)) ?_ ⟨_,m,hq,?_⟩
    ·have hst:=run_store P w ⟨g,i*ts.length+j,none⟩ (c.den m) .plain hone
     have hcell':=hcell j hj
     rw [List.getElem?_eq_getElem (show j<(rv.getD i []).length by omega)] at hcell'
     rw [hcell'] at hst
     simp only [v1.frozenAt,Bool.false_eq_true,if_false] at hst
     have hadd:(⟨g,0,none⟩:Addr).add (i*ts.length+j)=⟨g,i*ts.length+j,none⟩:=by
      unfold Addr.add;split
      ·rename_i h0;rw [h0]
      ·simp
     have hadd0:(⟨g,i*ts.length+j,none⟩:Addr).add 0=⟨g,i*ts.length+j,none⟩:=rfl
     simp only [execOp,ho,Sem.run_bind,Sem.run_pure,hx,hy,he,Bk,hadd,Instr.storeAt,Instr.sureAddr,storeVar,Result.andThen_ok,(hT _ _ hti).sizeOf,hcs]
     rw [if_neg (by simp [hs1])]
     simp [storeCells,hadd0,hst]
    ·refine ⟨rfl,λ _ _=>⟨rfl,rfl⟩,⟨λ _=>Nat.le_refl _,rfl,rfl,rfl,by simp [World.setCell],λ b hb=>hkeep b (λ e=>hb (e ▸ hg.1))⟩,?_,λ _ _ _=>rfl,?_,by simp [T.ofV,T.ids,A.ids,C.ids]⟩
     ·intro b hb hb2
      refine hkeep b (λ e=>?_)
      subst e
      rcases hb2 with hb2|hb2
      ·exact hb2 hg.1
      ·exact hb2 (by rw [hg.2];simp [Eff.us])
     ·intro z E hE
      rw [AR] at hE
      split at hE
      ·rename_i ez
       subst ez
       obtain rfl:=Option.some.inj hE
       refine ⟨⟨rv.set i ((rv.getD i []).set j (c.den m)),?_,by simp [v2],?_,?_,v5⟩,.inl hak,λ x hx=>?_⟩
       ·have o1:=FJ ((rv.getD i []).set j (c.den m)) w (i*ts.length) rv.flatten v1 (by omega)
        rw [hst0,Gi hrl' rv i v3 (by omega)] at o1
        rw [he]
        simpa using o1
       ·intro r hr
        rcases List.mem_or_eq_of_mem_set hr with hr|rfl
        ·exact v3 r hr
        ·exact hrl'
       ·intro l hl
        simp only [List.length_set] at hl
        obtain ⟨F,f1,f2⟩:=v4 l hl
        have hS:=λ (G:Nat->Prop) (hG:∀ b,G b->b≠g)=>λ b (_:b<w.heap.size) (hb:G b)=>hkeep b (hG b hb)
        have hsz:w.heap.size<=(w.setCell ⟨g,i*ts.length+j,none⟩ (c.den m)).heap.size:=by simp [World.setCell]
        have f1':=RdRowS.step hsz (hS F (λ b hb=>hmay hnd b (f2 b hb))) _ _ _ f1
        have f3:=RdS.step hsz (hS (Γ.may m ks) (λ b hb=>hmay hnk b hb)) _ _ _ hF2
        by_cases hli:l=i
        ·subst hli
         have e1:(rows.set l ((rows.getD l []).set j d)).getD l []=(rows.getD l []).set j d:=by simp [List.getD,hl]
         have e2:(rv.set l ((rv.getD l []).set j (c.den m))).getD l []=(rv.getD l []).set j (c.den m):=by simp [List.getD,show l<rv.length by omega]
         rw [e1,e2]
         refine ⟨λ b=>Γ.may m (deps++ks) b,RdRowS.setAt _ _ _ _ (RdRowS.mono (λ b hb=>CN (λ x hx=>List.mem_append.2 (.inl hx)) (f2 b hb.1)) _ _ _ f1') hj ?_,λ b hb=>hb⟩
         exact RdS.mono (λ b hb=>CN (λ x hx=>List.mem_append.2 (.inr hx)) hb.1) _ _ _ f3
        ·have e1:(rows.set i ((rows.getD i []).set j d)).getD l []=rows.getD l []:=by simp [List.getD,List.getElem?_set_ne (λ e=>hli e.symm)]
         have e2:(rv.set i ((rv.getD i []).set j (c.den m))).getD l []=rv.getD l []:=by simp [List.getD,List.getElem?_set_ne (λ e=>hli e.symm)]
         rw [e1,e2]
         exact ⟨_,f1',λ b hb=>CN (λ x hx=>List.mem_append.2 (.inl hx)) (f2 b hb.1)⟩
       ·simp only [En.ids,List.mem_append] at hx
        rcases hx with hx|hx
        ·exact .inl (hde x hx)
        ·exact .inl (hks x hx)
      ·simp [lkp] at hE
   ·exact hq.elim
  ·exact hq.elim
 ·exact hq.elim
end
end Go.Proofs.YtkffpiaagjcmpaaGreat
namespace Go.Proofs.YtkffpiaagjcmpaaGreat
set_option linter.unusedVariables false
set_option linter.unusedSimpArgs false
open Go.RowKit
def Io (s:St) (x:Operand):Option Value:=(ev s x).bind T.im
def cOf (s:St) (x:Operand):Option C:=(ev s x).bind T.c?
def Wz (s:St) (c a b:Operand):Option (Option Prop×T):=
 match Io s c,Io s a,Io s b with
 | some (.bool t),some va,some vb=>some (none,T.ofV (match t with|true=>va|false=>vb))
 | _,_,_=>none
def Ow (tt:TT) (t:Nat):Bool:=
 match lkp tt t with
 | some { d:=.bool,.. }=>true
 | _=>false
def SJ (tt:TT) (s:St) (op:BinOp) (t:Nat) (x y:Operand):Option (Option Prop×T):=
 match Io s x,Io s y with
 | some (.bool a),some (.bool b)=>
  match Ow tt t,op with
  | true,.eql=>some (none,T.ofV (.bool (a == b)))
  | true,.neq=>some (none,T.ofV (.bool (a != b)))
  | _,_=>none
 | some a,some b=>(AA8 op a b).map λ r=>(r.1,T.ofV r.2)
 | _,_=>none
def W0 (s:St) (op:UnOp) (x:Operand):Option (Option Prop×T):=
 match Io s x with
 | some a=>(xun op a).map λ r=>(none,T.ofV r)
 | none=>none
def L4 (s:St) (x:Operand) (i:Nat):Option (Option Prop×T):=
 match ev s x with
 | some (.tup as)=>(as[i]?).map λ a=>(none,.one a)
 | _=>none
def SK (tt:TT) (s:St) (t:Nat) (x:Operand) (f:Nat):Option (Option Prop×T):=
 match ev s x,P1 tt t f with
 | some (.one (.agg cs)),some (o,ti)=>
  match sub cs o ti.size with
  | some c=>(T.ofCs ti.d.agg c).map (none,·)
  | none=>none
 | _,_=>none
def xfa (tt:TT) (s:St) (t:Nat) (x:Operand) (f:Nat):Option (Option Prop×T):=
 match cOf s x with
 | some (.ep k _ i _)=>
  match Dq s k,ES tt t (ev s x) f with
  | some (_,_,rows,_),some (none,v)=>some (some (i<rows.length),v)
  | _,_=>none
 | some (.ext k)=>ZN tt s t k 0 f
 | some (.pp k o)=>ZN tt s t k o f
 | _=>ES tt t (ev s x) f
def ABA (s:St) (x:Operand):Option (Option Prop×T):=
 match cOf s x with
 | some (.bp i o)=>some (none,.one (.one (.bp i o)))
 | _=>none
def ABB (tt:TT) (s:St) (t:Nat) (x:Operand):Option (Option Prop×T):=
 match cOf s x,lkp tt t with
 | some (.ext k),some { d:=.slice _,.. }=>
  match Dq s k with
  | some (_,_,rows,_)=>some (none,T.ofV (.int .i64 (rows.length:Nat)))
  | none=>match K6 s k with
   | some (.bytes bs)=>some (none,T.ofV (.int .i64 (bs.length:Nat)))
   | _=>none
 | some (.im (.slice _ n _)),some { d:=.slice _,.. }=>some (none,T.ofV (.int .i64 (n:Nat)))
 | some (.im (.string b)),some { d:=.str,.. }=>some (none,T.ofV (.int .i64 (b.size:Nat)))
 | _,_=>none
def SL (tt:TT) (s:St) (t:Nat) (x i:Operand):Option (Option Prop×T):=
 match Io s x,Io s i,lkp tt t with
 | some (.string b),some (.int _ i),some { d:=.str,.. }=>some (some (0<=i/\i<(b.size:Int)),T.ofV (.int .u8 (b.get! i.toNat).toNat))
 | _,_,_=>none
def ABC (s:St) (x:Operand):Bool:=
 match ev s x with
 | some (.one (.agg _))=>true
 | _=>false
def evs (s:St):List Operand->Option (List T)
 | []=>some []
 | x::r=>
  match ev s x,evs s r with
  | some v,some vs=>some (v::vs)
  | _,_=>none
def Nw (mx:Bool) (s:St):List Operand->Option (Option Prop×T)
 | [x,y]=>
  match Io s x,Io s y with
  | some (.int k a),some (.int _ b)=>some (none,T.ofV (.int k (match mx with|true=>max a b|false=>min a b)))
  | _,_=>none
 | _=>none
def W1 (tt:TT) (t:Nat):Bool:=
 match lkp tt t with
 | some { d:=.int .u8,size:=z,.. }=>Nat.beq z 1
 | _=>false
def T8 (tt:TT) (t:Nat):Bool:=
 match lkp tt t with
 | some { d:=.str,.. }=>true
 | _=>false
def L5 (tt:TT) (t:Nat):Option Nat:=
 match FL tt t with
 | some (e,_)=>match W1 tt e with|true=>some e|false=>none
 | none=>none
def LK (s:St) (x:Operand):Option (Nat×List UInt8):=
 match cOf s x with
 | some (.ext k)=>match K6 s k with|some (.bytes bs)=>some (k,bs)|_=>none
 | _=>none
def W2 (s:St) (x:Operand):Option ByteArray:=
 match Io s x with
 | some (.string b)=>some b
 | _=>none
def Jo (tt:TT) (s:St) (nx t u:Nat) (x:Operand) (q:Eff->Prop):Prop:=
 match W2 s x,T8 tt t,L5 tt u with
 | some b,true,some _=>q ⟨.one (.one (.ext nx)),[(nx,.ro (.bytes b.data.toList) [])]⟩
 | _,_,_=>
  match LK s x,L5 tt t,T8 tt u with
  | some (_,bs),some _,true=>xp (some (none,T.ofV (.string ⟨bs.toArray⟩))) q
  | _,_,_=>xp (QA tt s t u x) q
def Ox (tt:TT) (s:St) (t:Nat) (x i:Operand):Option (Option Prop×T):=
 match LK s x,Io s i,L5 tt t with
 | some (k,bs),some (.int _ i),some _=>some (some (0<=i/\i<(bs.length:Int)),.one (.one (.ep k 1 i.toNat 0)))
 | _,_,_=>none
def Oy (tt:TT) (s:St) (t k sz i j:Nat):Option (Option Prop×T):=
 match K6 s k,W1 tt t,Nat.beq sz 1 && Nat.beq j 0 with
 | some (.bytes bs),true,true=>some (some (i<bs.length),T.ofV (.int .u8 (((bs.getD i 0).toNat:Nat):Int)))
 | _,_,_=>none
def QQ:List (Nat×List C)->Option (List Int)
 | []=>some []
 | (_,[.im (.int .u8 n)])::r=>(QQ r).map (n::·)
 | _=>none
def L6:List Int->Prop->Prop
 | [],q=>q
 | n::r,q=>(0<=n/\n<256)/\L6 r q
def HY (tt:TT) (s:St) (nx t len:Nat) (ps:List (Nat×Operand)) (q:Eff->Prop):Prop:=
 match FL tt t,D7 s ps with
 | some (_,ei),some parts=>
  match QQ parts,Nat.beq parts.length len && KY ei.size 0 parts && Nat.beq ei.size 1 && Nat.ble len 4096 with
  | some ns,true=>L6 ns (q ⟨.one (.one (.ext nx)),[(nx,.ro (.bytes (ns.map λ n=>UInt8.ofNat n.toNat)) [])]⟩)
  | _,_=>False
 | _,_=>False
def EV:List C->List Ty->Nat->Option (List C×List (Nat×En))
 | [],[],_=>some ([],[])
 | c::cs,t::ts,i=>
  match EV cs ts (i+1) with
  | some (ds,es)=>
   match t,c with
   | .sl e us,.im (.slice none 0 0)=>some (.ext i::ds,(i,.own e us [])::es)
   | _,c=>some (c::ds,es)
  | none=>none
 | _,_,_=>none
def HZ (tt:TT) (s:St) (nx t:Nat) (ps:List (Nat×Operand)) (shape:List Ty) (q:Eff->Prop):Prop:=
 match Li tt s t ps with
 | some (.one (.agg cs0))=>
  match Nat.ble cs0.length 32,EV cs0 shape nx with
  | true,some (cs,es)=>q ⟨.one (.agg cs),es⟩
  | _,_=>False
 | _=>False
def xop (tt:TT) (ct:CTs) (hints:List Nat) (o:Oper) (s:St) (nx:Nat) (q:Eff->Prop):Prop:=
 match o.op with
 | .move x=>xp ((ev s x).map (none,·)) q
 | .assign x=>xp ((ev s x).map (none,·)) q
 | .pick c a b=>xp (Wz s c a b) q
 | .binOp op t x y _=>
  match ABC s x with
  | true=>xp (ZO tt s op t x y) q
  | false=>xp (SJ tt s op t x y) q
 | .convert t u x=>Jo tt s nx t u x q
 | .makeFunc fn first caps=>xp (HD s fn first.toList caps.toList) q
 | .makeSlice t x y=>
  match FL tt t with
  | some (e,_)=>Np tt s nx t (Ep tt 9 e) x y q
  | none=>False
 | .unOp op _ x=>xp (W0 s op x) q
 | .extract x i=>xp (L4 s x i) q
 | .field t x f=>xp (SK tt s t x f) q
 | .fieldAddr t x f=>xp (xfa tt s t x f) q
 | .indexAddr t x i=>
  match Ox tt s t x i with
  | some r=>xp (some r) q
  | none=>xp (Fk tt s t (ev s x) (ev s i)) q
 | .index t x i=>xp (SL tt s t x i) q
 | .nilCheck x=>xp (ABA s x) q
 | .build t ps=>
  match (match o.dst with|some d=>hints.any (Nat.beq d)|none=>false) with
  | true=>HZ tt s nx t ps.toList (Ep tt 9 t) q
  | false=>xp ((Li tt s t ps.toList).map (none,·)) q
 | .box _ x=>U7 s nx x q
 | .alloc t=>Ja tt nx t q
 | .load t x=>
  match cOf s x with
  | some (.bp i off)=>xp ((Ll tt s t i off).map (none,·)) q
  | some (.ep k sz i j)=>
   match Oy tt s t k sz i j with
   | some r=>xp (some r) q
   | none=>Jb tt s nx t k sz i j q
  | some (.pp k o)=>IG tt s nx t k o q
  | some (.ext k)=>IG tt s nx t k 0 q
  | _=>False
 | .store t x y=>
  match cOf s x,ev s y with
  | some (.bp i off),some v=>G7 tt s t i off v q
  | some (.ep k sz i j),some v=>
   match ACU s k with
   | true=>HW tt s t k sz i j v q
   | false=>
    match AB1 s k with
    | true=>HL tt s t k sz i j v q
    | false=>
     match AB0 tt t with
     | true=>HF tt s t k sz i j v q
     | false=>HE tt s t k sz i j v q
  | _,_=>False
 | .slice t x lo hi none=>
  match (match o.dst with|some d=>hints.any (Nat.beq d)|none=>false) with
  | true=>VD tt s nx t (ev s x) lo hi q
  | false=>Jc tt s nx t (ev s x) lo hi q
 | .buildSlice t len ps=>
  match FL tt t with
  | some (e,_)=>
   match W1 tt e with
   | true=>HY tt s nx t len ps.toList q
   | false=>C2 tt s nx t len (Ep tt 9 e) ps.toList (match o.dst with|some d=>hints.any (Nat.beq d)|none=>false) q
  | none=>False
 | .call c=>
  match c.callee with
  | .builtin .append=>
   match c.args.toList,c.argTypes.toList with
   | [x,y],[t,u]=>if Nat.beq t u=true then G9 tt s nx t (ev s x) (ev s y) q else False
   | _,_=>False
  | .builtin .len=>
   match c.args.toList,c.argTypes.toList with
   | [x],[t]=>xp (ABB tt s t x) q
   | _,_=>False
  | .builtin .min=>xp (Nw false s c.args.toList) q
  | .builtin .max=>xp (Nw true s c.args.toList) q
  | .value f=>
   match cOf s f,evs s c.args.toList with
   | some c0,some ts=>
    match Nt s c0 with
    | some (k,ext)=>Nq tt ct s nx k (c.argTypes.toList++ext.map λ _=>4294967) (ts++ext) q
    | none=>False
   | _,_=>False
  | _=>False
 | _=>False
section
variable {P : Program} {tt : TT} {ct : CTs} {Γ : Env} {n : Nat} {w0 : World} {al fr : Nat → Prop} {s : St} {m : Maps} {a : Act} {w : World} {nx : Nat} {o : Oper}
theorem R.im (h:R Γ n w0 al s m a w) {x:Operand} {v:Value} (hx:Io s x=some v):a.eval x=v:=by
 obtain ⟨t,e1,e2⟩:=Option.bind_eq_some_iff.1 hx
 rw [(h.ev e1).1,(T.im_den m e2).1]
theorem R.cc (h:R Γ n w0 al s m a w) {x:Operand} {c:C} (hx:cOf s x=some c):a.eval x=c.den m/\∀ i ∈ c.ids,al i:=by
 obtain ⟨t,e1,e2⟩:=Option.bind_eq_some_iff.1 hx
 have:=h.ev e1
 rw [T.c?_some e2] at this
 exact this
theorem SM:∀ {l:List Operand} {ts:List T},evs s l=some ts->All2 (λ x t=>ev s x=some t) l ts
 | [],ts,h=>by simp only [evs,Option.some.injEq] at h;subst h;exact .nil
 | x::r,ts,h=>by
  simp only [evs] at h
  split at h
  ·rename_i v vs h1 h2
   simp only [Option.some.injEq] at h
   subst h
   exact .cons h1 (SM h2)
  ·cases h
theorem SN {t:Nat} {a b:Bool} (ht:P.underlying t=some .bool):(Op.equal t (.bool a) (.bool b)).run P w=.ok (a == b) w:=by
 have hu:(underlying t).run P w=.ok TypeDesc.bool w:=by simp [underlying,program,Sem.run,ht]
 show (Op.equalIn (9999+1) t (.bool a) (.bool b)).run P w=_
 rw [Op.equalIn]
 simp only [Sem.run_bind,hu,Result.andThen_ok,Sem.run_pure]
theorem W3 (b:ByteArray) (i:Nat) (h:i<b.size):b[i]?=some (b.get! i):=by
 have e:b.get! i=b.data[i]! := rfl
 rw [e]
 have hd:i<b.data.size:=h
 rw [getElem!_pos b.data i hd]
 simp [h]
 rfl
theorem T9 (hT:TTok P tt) {t:Nat} (h:W1 tt t=true):P.underlying t=some (.int .u8)/\∃ i,TIok P t i/\i.size=1/\i.d.agg=false:=by
 unfold W1 at h
 split at h
 ·rename_i hl;exact ⟨(hT _ _ hl).d,_,hT _ _ hl,Nat.eq_of_beq_eq_true h,rfl⟩
 ·cases h
theorem QR (hT:TTok P tt) {t:Nat} (h:T8 tt t=true):P.underlying t=some .string:=by
 unfold T8 at h
 split at h
 ·rename_i hl;exact (hT _ _ hl).d
 ·cases h
theorem Jp (hT:TTok P tt) {t e:Nat} (h:L5 tt t=some e):P.underlying t=some (.slice e)/\P.underlying e=some (.int .u8)/\∀ w,(sizeOf e).run P w=.ok 1 w:=by
 unfold L5 at h
 split at h
 ·rename_i e' ei hel
  split at h
  ·rename_i hu
   obtain rfl:=Option.some.inj h
   obtain ⟨u1,u2⟩:=ER hT hel
   obtain ⟨hd,i,i1,i2,-⟩:=T9 hT hu
   exact ⟨u1,hd,λ w=>by rw [i1.sizeOf,i2]⟩
  ·cases h
 ·cases h
theorem L7 (h:R Γ n w0 al s m a w) {x:Operand} {k:Nat} {bs:List UInt8} (hx:LK s x=some (k,bs)):a.eval x=m.ε k/\al k/\K6 s k=some (.bytes bs)/\Fj (λ b=>Γ.may m (FE s k) b/\b<w.heap.size) w bs (m.ε k):=by
 unfold LK at hx
 split at hx
 ·rename_i k' hc
  split at hx
  ·rename_i bs' hr
   simp only [Option.some.injEq,Prod.mk.injEq] at hx
   obtain ⟨rfl,rfl⟩:=hx
   obtain ⟨r1,r2,-⟩:=Dh h hr
   exact ⟨(h.cc hc).1,r2,hr,r1⟩
  ·cases hx
 ·cases hx
theorem W4 (h:R Γ n w0 al s m a w) {x:Operand} {b:ByteArray} (hx:W2 s x=some b):a.eval x=.string b:=by
 unfold W2 at hx
 split at hx
 ·rename_i b' hi
  obtain rfl:=Option.some.inj hx
  exact h.im hi
 ·cases hx
theorem Oz {src dst e:Nat} {F:Nat->Prop} {bs:List UInt8} {u:Value} (hb:Fj F w bs u) (hs:P.underlying src=some (.slice e)) (he:P.underlying e=some (.int .u8)) (hd:P.underlying dst=some .string) :
  (convert src dst u).run P w=.ok (.string ⟨bs.toArray⟩) w:=by
 obtain ⟨a,cap,rfl,hc⟩:=hb
 cases a with
 | none=>
  obtain rfl:bs=[]:=by
   cases bs with
   | nil=>rfl
   | cons b0 r=>obtain ⟨b,off,e1,-⟩:=hc 0 (by simp);cases e1
  rw [run_convert_bytes_string w src dst e none _ cap hs he hd];rfl
 | some ad=>
  refine run_convert_bytes_back w src dst e ad cap bs hs he hd (λ j hj=>?_)
  obtain ⟨b,off,e1,-,-,e2⟩:=hc j hj
  obtain rfl:=Option.some.inj e1
  rw [Bl,e2]
  simp [List.getD,hj]
theorem Stp.newBytes (h:R Γ n w0 al s m a w) {dst:Option Tmp} {bs:List UInt8} {C:Array Value} {e:Nat} {fz:Nat×Nat} {cap:Nat} {w1:World} (hb1:Bel Γ w w1) (hs1:w1.heap=w.heap) (hC:∀ j,j<bs.length->C[j]?=some (.int .u8 (((bs.getD j 0).toNat:Nat):Int))) (hnx:¬ al nx) (hf:fr nx) :
  Stp Γ al fr dst m a w ⟨.one (.one (.ext nx)),[(nx,.ro (.bytes bs) [])]⟩ ⟨m.β,upd m.ε nx (.slice (some ⟨w.heap.size,0,none⟩) bs.length cap),λ b=>if b=w.heap.size then 0 else m.π b⟩ (a.put dst (.slice (some ⟨w.heap.size,0,none⟩) bs.length cap)) (w1.alloc (.cells C e fz)):=by
 have hsz:w1.heap.size=w.heap.size:=by rw [hs1]
 refine Stp.newSl h (E:=.ro (.bytes bs) []) (cons:=[]) (hb1.alloc (by rw [hsz];exact h.old) _) (λ b hb _=>?_) (λ b hb _=>if_neg (by omega)) ⟨λ b=>b=w.heap.size,?_,λ b hb=>?_⟩ (by simp [En.ids]) (by simp) hnx hf
 ·rw [Below.heap_alloc _ _ _ (by rw [hsz];exact hb),hs1]
 ·simp only [Bu,ROAt]
  refine ⟨_,_,rfl,λ j hj=>⟨w.heap.size,0,rfl,rfl,by simp [hsz],?_⟩⟩
  rw [← hsz,World.cell?_alloc_mark,Nat.zero_add]
  exact hC j hj
 ·subst hb
  exact .inr (.inl ⟨.inl h.old,if_pos rfl⟩)
theorem VL (hT:TTok P tt) (h:R Γ n w0 al s m a w) {t u:Nat} {x:Operand} (ho:o.op=.convert t u x) (hnx:¬ al nx) (hf:fr nx):Snd P Γ al fr m a w o (Jo tt s nx t u x):=by
 have hold:Snd P Γ al fr m a w o (xp (QA tt s t u x)):=by
  refine Az h (X:=QA tt s t u x) λ p v hx hp=>?_
  obtain ⟨r1,r2⟩:=VG hT h hx hp
  exact ⟨by simp only [execOp,ho,Sem.run_bind,r1,Result.andThen_ok,Sem.run_pure],by simp [r2]⟩
 intro q hk Q
 unfold Jo at hk
 split at hk
 ·rename_i b e hs ht hu
  obtain ⟨u1,u2,-⟩:=Jp hT hu
  have hrun:=run_bytes_of_string (P:=P) w t u e b (QR hT ht) u1 u2
  have hexec:(execOp a.eval o).run P w=.ok (.value (.slice (some ⟨w.heap.size,0,none⟩) b.data.toList.length (grownCap w b.size 0 e))) (w.drew.alloc (.cells (bytesRow b (grownCap w b.size 0 e)) e ((bytesRow b (grownCap w b.size 0 e)).size,(bytesRow b (grownCap w b.size 0 e)).size+1))):=by
   simp only [execOp,ho,W4 h hs,Sem.run_bind,hrun,Result.andThen_ok,Sem.run_pure]
   rfl
  refine Oper.wp_value hexec ⟨_,_,hk,Stp.newBytes h (Bel.refl _ _).drew rfl (λ j hj=>?_) hnx hf⟩
  have hj' : j<b.data.size:=by simpa using hj
  rw [bytesRow_at b _ j hj']
  have e0:b.data.toList.getD j 0=b.data[j]:=by rw [List.getD_eq_getElem?_getD,Array.getElem?_toList,Array.getElem?_eq_getElem hj'];rfl
  rw [e0]
 ·split at hk
  ·rename_i k bs e hb ht hu
   obtain ⟨b1,b2,b3,b4⟩:=L7 h hb
   obtain ⟨u1,u2,-⟩:=Jp hT ht
   have hrun:=Oz (P:=P) b4 u1 u2 (QR hT hu)
   refine Az h (X:=some (none,T.ofV (.string ⟨bs.toArray⟩))) (λ p v hx _=>?_) q hk Q
   simp only [Option.some.injEq,Prod.mk.injEq] at hx
   obtain ⟨rfl,rfl⟩:=hx
   exact ⟨by simp only [execOp,ho,b1,Sem.run_bind,hrun,Result.andThen_ok,Sem.run_pure,T.ofV_den],by simp [T.ofV_ids]⟩
  ·exact hold q hk Q
theorem QS (hT:TTok P tt) (h:R Γ n w0 al s m a w) {t:Nat} {x i:Operand} {p:Option Prop} {v:T} (hx:Ox tt s t x i=some (p,v)) (hp:∀ q,p=some q->q) :
  (Instr.indexAt t (a.eval x) (a.eval i)).run P w=.ok (v.den m) w/\∀ j ∈ v.ids,al j:=by
 unfold Ox at hx
 split at hx
 ·rename_i k bs kk iv e hb hi ht
  simp only [Option.some.injEq,Prod.mk.injEq] at hx
  obtain ⟨rfl,rfl⟩:=hx
  obtain ⟨h0,h1⟩:=hp _ rfl
  obtain ⟨b1,b2,b3,ad,cap,hv,hc⟩:=L7 h hb
  obtain ⟨u1,u2,u3⟩:=Jp hT ht
  obtain ⟨b,off,rfl,-⟩:=hc iv.toNat (by omega)
  refine ⟨?_,by simp [T.ids,A.ids,C.ids,b2]⟩
  have x1' : a.eval x=.slice (some ⟨b,off,none⟩) bs.length cap:=by rw [b1];exact hv
  simp only [Instr.indexAt,Sem.run_bind,h.im hi,asIntOf,Sem.run_pure,Result.andThen_ok,AV u1,x1']
  rw [if_pos ⟨h0,by omega⟩]
  simp only [Sem.run_bind,u3,Result.andThen_ok,Sem.run_pure,T.den,A.den,C.den,Bk,hv,Nat.add_zero]
 ·cases hx
theorem SO (hT:TTok P tt) (h:R Γ n w0 al s m a w) {t k sz i j:Nat} {x:Operand} {r:Option Prop×T} (hr:Oy tt s t k sz i j=some r) (ho:o.op=.load t x) (hx:a.eval x=C.den m (.ep k sz i j)):Snd P Γ al fr m a w o (xp (some r)):=by
 refine Az h (X:=some r) λ p v hv hp=>?_
 obtain rfl:=Option.some.inj hv
 unfold Oy at hr
 split at hr
 ·rename_i bs hro hu hc
  simp only [Option.some.injEq,Prod.mk.injEq] at hr
  obtain ⟨rfl,rfl⟩:=hr
  simp only [Bool.and_eq_true,Nat.beq_eq] at hc
  obtain ⟨rfl,rfl⟩:=hc
  have hi:=hp _ rfl
  obtain ⟨⟨ad,cap,hvv,hcc⟩,-,-⟩:=Dh h hro
  obtain ⟨b,off,rfl,-,hb,hcell⟩:=hcc i hi
  have hrun:(Instr.loadAt t (a.eval x)).run P w=.ok (.int .u8 (((bs.getD i 0).toNat:Nat):Int)) w:=by
   obtain ⟨-,ti,i1,i2,i3⟩:=T9 hT hu
   rw [hx]
   simp only [C.den,Bk,hvv,Bl]
   have:=Ik (w:=w) i1 (b:=⟨b,off+(i*1+0),none⟩) (vs:=[.int .u8 (((bs.getD i 0).toNat:Nat):Int)]) (by simp [i2]) (λ _=>i2) (λ j v hj=>by
    have hj0:j=0:=by
     have:=(List.getElem?_eq_some_iff.1 hj).1
     simpa using this
    subst hj0
    simp only [List.getElem?_cons_zero,Option.some.injEq] at hj
    subst hj
    rw [Bl,show off+(i*1+0)+0=off+i by omega]
    exact hcell)
   rw [this,i3]
   rfl
  exact ⟨by simp only [execOp,ho,Sem.run_bind,hrun,Result.andThen_ok,Sem.run_pure,T.ofV_den],by simp [T.ofV_ids]⟩
 ·cases hr
theorem QT (m:Maps):∀ {parts:List (Nat×List C)} {ns:List Int},QQ parts=some ns->(parts.map λ p=>p.2.map (C.den m)).flatten=ns.map (Value.int .u8)
 | [],ns,h=>by simp only [QQ,Option.some.injEq] at h;subst h;rfl
 | (i,cs)::r,ns,h=>by
  unfold QQ at h
  split at h
  ·cases ‹_::_=[]›
  ·rename_i i' n r' e
   simp only [List.cons.injEq,Prod.mk.injEq] at e
   obtain ⟨⟨rfl,rfl⟩,rfl⟩:=e
   obtain ⟨l,e1,rfl⟩:=Option.map_eq_some_iff.1 h
   simp only [List.map_cons,List.flatten_cons,QT m e1,List.map_nil,C.den]
   rfl
  ·cases h
theorem Nx:∀ {ns:List Int} {q:Prop},L6 ns q->(∀ n ∈ ns,0<=n/\n<256)/\q
 | [],q,h=>⟨by simp,h⟩
 | n::r,q,h=>by
  obtain ⟨h1,h2⟩:=h
  obtain ⟨i1,i2⟩:=Nx h2
  exact ⟨λ x hx=>by rcases List.mem_cons.1 hx with rfl|hx;exact h1;exact i1 x hx,i2⟩
theorem SP (hT:TTok P tt) (h:R Γ n w0 al s m a w) {t len:Nat} {ps:Array (Nat×Operand)} (ho:o.op=.buildSlice t len ps) (hnx:¬ al nx) (hf:fr nx):Snd P Γ al fr m a w o (HY tt s nx t len ps.toList):=by
 intro q hk Q
 unfold HY at hk
 split at hk
 ·rename_i e ei parts hel hps
  split at hk
  ·rename_i ns hns hc
   simp only [Bool.and_eq_true,Nat.beq_eq,Nat.ble_eq] at hc
   obtain ⟨⟨⟨c1,c2⟩,c3⟩,c4⟩:=hc
   obtain ⟨hin,hk⟩:=Nx hk
   have hrun:=Ge hT h hel hps c1 c2 (by rw [c3];omega)
   have hcells:=QT m hns
   have hlen:ns.length=len:=by
    have:=congrArg List.length hcells
    rw [Dr (size:=1) (λ r hr=>by
     obtain ⟨p,hp,rfl⟩:=List.mem_map.1 hr
     rw [List.length_map,← c3]
     exact Je c2 _ (List.mem_map.2 ⟨p,hp,rfl⟩))] at this
    simp only [List.length_map] at this
    omega
   rw [hcells] at hrun
   have hexec:(execOp a.eval o).run P w=.ok (.value (.slice (some ⟨w.heap.size,0,none⟩) (ns.map λ n=>UInt8.ofNat n.toNat).length len)) (w.alloc (.cells (ns.map (Value.int .u8)).toArray e)):=by
    simp only [execOp,ho,Sem.run_bind,hrun,Result.andThen_ok,Sem.run_pure,List.length_map,hlen]
   refine Oper.wp_value hexec ⟨_,_,hk,Stp.newBytes h (Bel.refl _ _) rfl (λ j hj=>?_) hnx hf⟩
   have hj' : j<ns.length:=by simpa using hj
   have hb:=hin _ (List.getElem_mem hj')
   have e1:((UInt8.ofNat (ns[j]).toNat).toNat:Int)=ns[j]:=by
    rw [UInt8.toNat_ofNat'];omega
   simp [List.getD,hj',-UInt8.toNat_ofNat',e1]
  ·exact hk.elim
 ·exact hk.elim
theorem Kc {m m' : Maps} : ∀ {zs:List C} {ts:List Ty} {i:Nat} {cs:List C} {es:List (Nat×En)},EV zs ts i=some (cs,es)->(∀ c ∈ zs,c.den m'=c.den m)->(∀ j,j<zs.length->m'.ε (i+j)=(zs.map (C.den m)).getD j undef) ->
  cs.map (C.den m')=zs.map (C.den m)/\(∀ k E,lkp es k=some E->i<=k/\k<i+zs.length/\EnAt Γ m' w k E/\E.ids=[])/\∀ c ∈ cs,∀ j ∈ c.ids,(i<=j/\j<i+zs.length)∨∃ c0 ∈ zs,j ∈ c0.ids
 | [],[],i,cs,es,h,_,_=>by
  simp only [EV,Option.some.injEq,Prod.mk.injEq] at h
  obtain ⟨rfl,rfl⟩:=h
  exact ⟨rfl,λ k E hk=>by simp [lkp] at hk,λ c hc=>by simp at hc⟩
 | [],t::ts,i,cs,es,h,_,_=>by simp [EV] at h
 | z::zs,[],i,cs,es,h,_,_=>by simp [EV] at h
 | z::zs,t::ts,i,cs,es,h,hs,hε=>by
  unfold EV at h
  split at h
  ·rename_i cs' es' hr
   obtain ⟨i1,i2,i3⟩:=Kc (m:=m) (m':=m') hr (λ c hc=>hs c (List.mem_cons_of_mem _ hc)) (λ j hj=>by
    have:=hε (j+1) (by simpa using hj)
    rw [show i+1+j=i+(j+1) by omega]
    simpa using this)
   have h0:=hε 0 (by simp)
   split at h
   ·rename_i e us
    simp only [Option.some.injEq,Prod.mk.injEq] at h
    obtain ⟨rfl,rfl⟩:=h
    refine ⟨?_,λ k E hk=>?_,λ c hc j hj=>?_⟩
    ·simp only [List.map_cons,i1,C.den]
     simp only [Nat.add_zero] at h0
     rw [h0];rfl
    ·rw [AR] at hk
     split at hk
     ·rename_i ek
      subst ek
      obtain rfl:=Option.some.inj hk
      refine ⟨Nat.le_refl _,by simp,⟨[],?_,by simp,by simp⟩,rfl⟩
      simp only [Nat.add_zero] at h0
      rw [h0]
      simp only [List.map_cons,List.getD_cons_zero,C.den,Fp]
      exact ⟨[],[],⟨by simp,.inl ⟨rfl,rfl⟩⟩,rfl,rfl,by simp,λ k hk=>by simp at hk,rfl⟩
     ·obtain ⟨j1,j2,j3,j4⟩:=i2 k E hk
      exact ⟨by omega,by simp;omega,j3,j4⟩
    ·rcases List.mem_cons.1 hc with rfl|hc
     ·simp only [C.ids,List.mem_singleton] at hj
      subst hj
      exact .inl ⟨Nat.le_refl _,by simp⟩
     ·rcases i3 c hc j hj with h|⟨c0,h1,h2⟩
      ·exact .inl ⟨by omega,by simp;omega⟩
      ·exact .inr ⟨c0,List.mem_cons_of_mem _ h1,h2⟩
   ·simp only [Option.some.injEq,Prod.mk.injEq] at h
    obtain ⟨rfl,rfl⟩:=h
    refine ⟨by simp only [List.map_cons,i1,hs z (by simp)],λ k E hk=>?_,λ c hc j hj=>?_⟩
    ·obtain ⟨j1,j2,j3,j4⟩:=i2 k E hk
     exact ⟨by omega,by simp;omega,j3,j4⟩
    ·rcases List.mem_cons.1 hc with rfl|hc
     ·exact .inr ⟨_,by simp,hj⟩
     ·rcases i3 c hc j hj with h|⟨c0,h1,h2⟩
      ·exact .inl ⟨by omega,by simp;omega⟩
      ·exact .inr ⟨c0,List.mem_cons_of_mem _ h1,h2⟩
  ·cases h
theorem SQ (hT:TTok P tt) (h:R Γ n w0 al s m a w) {t:Nat} {shape:List Ty} {ps:Array (Nat×Operand)} (ho:o.op=.build t ps) (hal:∀ i,al i->¬ (nx<=i/\i<nx+32)) (hfr:∀ i,nx<=i->i<nx+32->fr i):Snd P Γ al fr m a w o (HZ tt s nx t ps.toList shape):=by
 intro q hk Q
 unfold HZ at hk
 split at hk
 ·rename_i cs0 hxb
  split at hk
  ·rename_i cs es hc hnil
   have hc:=Nat.le_of_ble_eq_true hc
   obtain ⟨hrun,hids⟩:=Lj hT h (ps:=ps) hxb
   let m':=D2 m nx (cs0.map (C.den m))
   have hε:∀ j,j<cs0.length->m'.ε (nx+j)=(cs0.map (C.den m)).getD j undef:=λ j hj=>by
    show (if nx<=nx+j/\nx+j<nx+(cs0.map (C.den m)).length then (cs0.map (C.den m)).getD (nx+j-nx) undef else m.ε (nx+j))=_
    rw [if_pos (by rw [List.length_map];omega),Nat.add_sub_cancel_left]
   have hsame:Maps.same al m m':=λ i hi=>⟨rfl,by simp only [m',D2,List.length_map];rw [if_neg (by have:=hal i hi;omega)]⟩
   have hcid:∀ c ∈ cs0,∀ i ∈ c.ids,al i:=λ c hc i hi=>hids i (by simp only [T.ids,A.ids];exact List.mem_flatMap.2 ⟨c,hc,hi⟩)
   obtain ⟨n1,n2,n3⟩:=Kc (Γ:=Γ) (w:=w) (m:=m) (m':=m') hnil (λ c hc=>C.den_same hsame (hcid c hc)) hε
   have hval:(T.one (.agg cs)).den m'=(T.one (.agg cs0)).den m:=by
    simp only [T.den,A.den,n1]
   have hexec:(execOp a.eval o).run P w=.ok (.value ((T.one (.agg cs)).den m')) w:=by
    rw [hval]
    simp only [execOp,ho,Sem.run_bind,hrun,Result.andThen_ok,Sem.run_pure]
   refine Oper.wp_value hexec ⟨_,m',hk,⟨rfl,hsame,Bel.refl _ _,λ _ _ _=>rfl,λ _ _ _=>rfl,λ p E hE=>?_,λ p hp=>?_⟩⟩
   ·obtain ⟨e1,e2,e3,e4⟩:=n2 p E hE
    exact ⟨e3,.inr (hfr p e1 (by omega)),λ j hj=>by rw [e4] at hj;simp at hj⟩
   ·obtain ⟨c,hc',hp⟩:=List.mem_flatMap.1 hp
    rcases n3 c hc' p hp with this|⟨c0,h1,h2⟩
    ·exact .inr (hfr p this.1 (by omega))
    ·exact .inl (hcid c0 h1 p h2)
  ·exact hk.elim
 ·exact hk.elim
theorem W5 (hT:TTok P tt) (hct:CTok P ct Γ.mono) (h:R Γ n w0 al s m a w) (hints:List Nat) (hal:∀ i,al i->¬ (nx<=i/\i<nx+32)) (hfr:∀ i,nx<=i->i<nx+32->fr i):Snd P Γ al fr m a w o (xop tt ct hints o s nx):=by
 have hnx:¬ al nx:=λ hx=>hal nx hx ⟨Nat.le_refl _,by omega⟩
 have hf:fr nx:=hfr nx (Nat.le_refl _) (by omega)
 unfold xop
 cases ho:o.op with
 | move x=>
  refine Az h (X:=(ev s x).map (none,·)) λ p v hx _=>?_
  obtain ⟨t,e1,e2⟩:=Option.map_eq_some_iff.1 hx
  simp only [Prod.mk.injEq] at e2
  obtain ⟨rfl,rfl⟩:=e2
  exact ⟨by simp [execOp,ho,(h.ev e1).1],(h.ev e1).2⟩
 | assign x=>
  refine Az h (X:=(ev s x).map (none,·)) λ p v hx _=>?_
  obtain ⟨t,e1,e2⟩:=Option.map_eq_some_iff.1 hx
  simp only [Prod.mk.injEq] at e2
  obtain ⟨rfl,rfl⟩:=e2
  exact ⟨by simp [execOp,ho,(h.ev e1).1],(h.ev e1).2⟩
 | pick c x y=>
  refine Az h (X:=Wz s c x y) λ p v hx _=>?_
  unfold Wz at hx
  split at hx
  ·rename_i t va vb h1 h2 h3
   simp only [Option.some.injEq,Prod.mk.injEq] at hx
   obtain ⟨rfl,rfl⟩:=hx
   refine ⟨?_,by simp [T.ofV_ids]⟩
   simp only [execOp,ho,h.im h1,h.im h2,h.im h3,asBool,Sem.run_bind,Sem.run_pure,Result.andThen_ok,T.ofV_den]
   cases t <;> simp
  ·cases hx
 | convert t u x=>exact VL hT h ho hnx hf
 | makeFunc fn first caps=>
  refine Az h (X:=HD s fn first.toList caps.toList) λ p v hx _=>?_
  obtain ⟨r1,r2⟩:=NO (P:=P) h hx
  exact ⟨by simp only [execOp,ho,Sem.run_bind,r1,Result.andThen_ok,Sem.run_pure],r2⟩
 | makeSlice t x y=>
  simp only
  split
  ·exact Wp hT h ho hnx hf
  ·intro k hk;exact hk.elim
 | binOp op t x y t2=>
  simp only
  split
  ·refine Az h (X:=ZO tt s op t x y) λ p v hx _=>?_
   obtain ⟨r1,r2⟩:=Wq hT h hx
   refine ⟨?_,by simp [r2]⟩
   simp only [Sem.run_bind] at r1
   simp only [execOp,ho,Sem.run_bind,r1,Result.andThen_ok,Sem.run_pure]
  refine Az h (X:=SJ tt s op t x y) λ p v hx hp=>?_
  unfold SJ at hx
  split at hx
  ·rename_i va vb h1 h2
   have hb:∀ hh:Ow tt t=true,(Op.equal t (.bool va) (.bool vb)).run P w=.ok (va == vb) w:=λ hh=>by
    unfold Ow at hh
    split at hh
    ·rename_i hl
     have hk:P.underlying t=some .bool:=(hT _ _ hl).d
     exact SN hk
    ·cases hh
   split at hx
   ·rename_i hh
    simp only [Option.some.injEq,Prod.mk.injEq] at hx
    obtain ⟨rfl,rfl⟩:=hx
    refine ⟨?_,by simp [T.ofV_ids]⟩
    simp [execOp,ho,h.im h1,h.im h2,T.ofV_den,eqGuard,binOp,hb hh]
   ·rename_i hh
    simp only [Option.some.injEq,Prod.mk.injEq] at hx
    obtain ⟨rfl,rfl⟩:=hx
    refine ⟨?_,by simp [T.ofV_ids]⟩
    simp [execOp,ho,h.im h1,h.im h2,T.ofV_den,eqGuard,binOp,hb hh,bne]
   ·cases hx
  ·rename_i va vb _ h1 h2
   obtain ⟨⟨p',r⟩,e1,e2⟩:=Option.map_eq_some_iff.1 hx
   simp only [Prod.mk.injEq] at e2
   obtain ⟨rfl,rfl⟩:=e2
   have:=Wg (P:=P) (w:=w) (t:=t) (a:=x) (b:=y) e1 hp
   refine ⟨?_,by simp [T.ofV_ids]⟩
   simp only [Sem.run_bind] at this
   simp only [execOp,ho,h.im h1,h.im h2,Sem.run_bind,this,Result.andThen_ok,Sem.run_pure,T.ofV_den]
  ·cases hx
 | unOp op t x=>
  refine Az h (X:=W0 s op x) λ p v hx _=>?_
  unfold W0 at hx
  split at hx
  ·rename_i va h1
   obtain ⟨r,e1,e2⟩:=Option.map_eq_some_iff.1 hx
   simp only [Prod.mk.injEq] at e2
   obtain ⟨rfl,rfl⟩:=e2
   have:=ZJ (P:=P) (w:=w) e1
   exact ⟨by simp [execOp,ho,h.im h1,this,T.ofV_den],by simp [T.ofV_ids]⟩
  ·cases hx
 | extract x i=>
  refine Az h (X:=L4 s x i) λ p v hx _=>?_
  unfold L4 at hx
  split at hx
  ·rename_i as h1
   obtain ⟨r,e1,e2⟩:=Option.map_eq_some_iff.1 hx
   simp only [Prod.mk.injEq] at e2
   obtain ⟨rfl,rfl⟩:=e2
   obtain ⟨x1,x2⟩:=h.ev h1
   refine ⟨?_,λ j hj=>x2 j (List.mem_flatMap.2 ⟨r,List.mem_of_getElem? e1,hj⟩)⟩
   have e3:(as.map (A.den m)).toArray[i]?=some (r.den m):=by simp [e1]
   simp only [execOp,ho,x1,T.den,Instr.extract,e3]
   simp
  ·cases hx
 | field t x f=>
  refine Az h (X:=SK tt s t x f) λ p v hx _=>?_
  unfold SK at hx
  split at hx
  ·rename_i cs off ti h1 h2
   split at hx
   ·rename_i c hc
    obtain ⟨r,e1,e2⟩:=Option.map_eq_some_iff.1 hx
    simp only [Prod.mk.injEq] at e2
    obtain ⟨rfl,rfl⟩:=e2
    obtain ⟨x1,x2⟩:=h.ev h1
    obtain ⟨fl,fd,u1,u2,rfl,u3⟩:=Ih hT h2
    obtain ⟨d1,d2⟩:=T.ofCs_den m e1
    refine ⟨?_,λ j hj=>?_⟩
    ·have x1' : a.eval x=.agg (cs.map (C.den m)).toArray:=x1
     have hsl:=G6 hc
     obtain ⟨s1,s2⟩:=FK hc
     have hpart:(part fd.type (cs.map (C.den m)).toArray fd.offset).run P w=.ok (r.den m) w:=by
      rw [d1]
      simp only [part,Sem.run_bind,u3.isAgg,Result.andThen_ok]
      cases hg:ti.d.agg with
      | true=>
       simp only [if_true,Sem.run_bind,u3.sizeOf,Result.andThen_ok,Sem.run_pure,KW]
       rw [s2]
       simp [List.map_take,List.map_drop]
      | false=>
       have hl:=d2 hg
       obtain ⟨c0,rfl⟩:∃ c0,c=[c0]:=by
        match c,hl with
        | [c0],_=>exact ⟨c0,rfl⟩
       have:=Tv hc 0 (by simp at hsl;omega)
       simp at this
       simp [this,KW]
     simp only [execOp,ho,x1',Instr.field,Sem.run_bind,AV u1,Result.andThen_ok,u2,asAgg,Sem.run_pure,hpart]
    ·rw [T.ofCs_ids e1] at hj
     obtain ⟨y,hy,hj⟩:=List.mem_flatMap.1 hj
     exact x2 j (List.mem_flatMap.2 ⟨y,Tu hc y hy,hj⟩)
   ·cases hx
  ·cases hx
 | fieldAddr t x f=>
  refine Az h (X:=xfa tt s t x f) λ p v hx hp=>?_
  have key:∀ p',ES tt t (ev s x) f=some (p',v)->(∀ k sz i j,cOf s x=some (.ep k sz i j)->∃ ad nn cc,m.ε k=.slice (some ad) nn cc)->(execOp a.eval o).run P w=.ok (.value (v.den m)) w/\∀ i ∈ v.ids,al i:=by
   intro p' hx' hd
   obtain ⟨r1,r2⟩:=Lo hT h hx' hd
   exact ⟨by simp [execOp,ho,r1],r2⟩
  unfold xfa at hx
  split at hx
  ·rename_i k sz i j hk
   split at hx
   ·rename_i e ts rows deps v' hsl hfa
    simp only [Option.some.injEq,Prod.mk.injEq] at hx
    obtain ⟨rfl,rfl⟩:=hx
    refine key none hfa λ k' sz' i' j' hk'=>?_
    rw [hk] at hk'
    simp only [Option.some.injEq,C.ep.injEq] at hk'
    obtain ⟨rfl,-,rfl,-⟩:=hk'
    obtain ⟨⟨F,f1,f2⟩,-,-⟩:=h.sl hsl
    obtain ⟨ad,cap,hv,-,-,-,hrow⟩:=f1.open
    obtain ⟨b,off,row,rfl,-⟩:=hrow i (hp _ rfl)
    exact ⟨_,_,_,hv⟩
   ·cases hx
  ·rename_i k hk
   obtain ⟨r1,r2⟩:=P9 hT h hx (.inr ⟨rfl,(h.cc hk).1⟩)
   exact ⟨by simp [execOp,ho,r1],r2⟩
  ·rename_i k off hk
   obtain ⟨r1,r2⟩:=P9 hT h hx (.inl (h.cc hk).1)
   exact ⟨by simp [execOp,ho,r1],r2⟩
  ·rename_i hne _ _
   exact key p hx λ k sz i j hk=>absurd hk (hne k sz i j)
 | indexAddr t x i=>
  simp only
  split
  ·rename_i r hr
   refine Az h (X:=some r) λ p v hx hp=>?_
   obtain ⟨r1,r2⟩:=QS hT h (hr.trans hx) hp
   exact ⟨by simp [execOp,ho,r1],r2⟩
  refine Az h (X:=Fk tt s t (ev s x) (ev s i)) λ p v hx hp=>?_
  obtain ⟨r1,r2⟩:=Ln hT h hx hp
  exact ⟨by simp [execOp,ho,r1],r2⟩
 | index t x i=>
  refine Az h (X:=SL tt s t x i) λ p v hx hp=>?_
  unfold SL at hx
  split at hx
  ·rename_i b kk iv _ _ _ _ h1 h2 h3
   simp only [Option.some.injEq,Prod.mk.injEq] at hx
   obtain ⟨rfl,rfl⟩:=hx
   obtain ⟨p1,p2⟩:=hp _ rfl
   have hu:=(hT _ _ h3).d
   simp only [TD.fits] at hu
   refine ⟨?_,by simp [T.ofV_ids]⟩
   have:=W3 b iv.toNat (by omega)
   simp [execOp,ho,h.im h1,h.im h2,Instr.index,asIntOf,AV hu,p1,this,T.ofV_den]
  ·cases hx
 | nilCheck x=>
  refine Az h (X:=ABA s x) λ p v hx _=>?_
  unfold ABA at hx
  split at hx
  ·rename_i i off h1
   simp only [Option.some.injEq,Prod.mk.injEq] at hx
   obtain ⟨rfl,rfl⟩:=hx
   obtain ⟨x1,x2⟩:=h.cc h1
   exact ⟨by simp [execOp,ho,x1,C.den,T.den,A.den],by simpa [T.ids,A.ids] using x2⟩
  ·cases hx
 | build t ps=>
  simp only
  split
  ·rename_i hh
   exact SQ hT h ho hal hfr
  refine Az h (X:=(Li tt s t ps.toList).map (none,·)) λ p v hx _=>?_
  obtain ⟨r,e1,e2⟩:=Option.map_eq_some_iff.1 hx
  simp only [Prod.mk.injEq] at e2
  obtain ⟨rfl,rfl⟩:=e2
  obtain ⟨r1,r2⟩:=Lj hT h e1
  exact ⟨by simp only [execOp,ho,Sem.run_bind,r1,Result.andThen_ok,Sem.run_pure],r2⟩
 | box t x=>exact ZK h ho hnx hf
 | alloc t=>exact U8 hT h ho hnx hf
 | load t x=>
  simp only
  split
  ·rename_i i off hc
   refine Az h (X:=(Ll tt s t i off).map (none,·)) λ p v hx _=>?_
   obtain ⟨r,e1,e2⟩:=Option.map_eq_some_iff.1 hx
   simp only [Prod.mk.injEq] at e2
   obtain ⟨rfl,rfl⟩:=e2
   obtain ⟨r1,r2⟩:=IE hT h e1
   obtain ⟨x1,x2⟩:=h.cc hc
   exact ⟨by simp only [execOp,ho,x1,C.den,Sem.run_bind,r1,Result.andThen_ok,Sem.run_pure],r2⟩
  ·rename_i k sz i j hc
   split
   ·rename_i r hr
    exact SO hT h hr ho (h.cc hc).1
   ·exact VB hT h ho (h.cc hc).1 hal hfr
  ·rename_i k off hc
   exact Nn hT h ho (.inl (h.cc hc).1) hal hfr
  ·rename_i k hc
   exact Nn hT h ho (.inr ⟨rfl,(h.cc hc).1⟩) hal hfr
  ·intro k hk;exact hk.elim
 | store t x y=>
  simp only
  split
  ·rename_i i off v hc hv
   exact R8 hT h ho (h.cc hc).1 (h.ev hv).1 (h.ev hv).2
  ·rename_i k sz i j v hc hv
   split
   ·exact SH hT h ho (h.cc hc).1 (h.ev hv).1
   ·split
    ·exact SI hT h ho (h.cc hc).1 (h.ev hv).1
    ·split
     ·exact SF hT h ho (h.cc hc).1 (h.ev hv).1
     ·exact SG hT h ho (h.cc hc).1 (h.ev hv).1
  ·intro k hk;exact hk.elim
 | slice t x lo hi mx=>
  cases mx with
  | some _=>intro k hk;exact hk.elim
  | none=>
   simp only
   split
   ·exact ZL hT h ho hnx hf
   ·exact VC hT h ho hnx hf
 | buildSlice t len ps=>
  simp only
  split
  ·split
   ·exact SP hT h ho hnx hf
   ·exact Lt hT h _ ho hnx hf
  ·intro k hk;exact hk.elim
 | call c=>
  obtain ⟨callee,args,argTypes⟩:=c
  simp only
  cases callee with
  | value f=>
   simp only
   split
   ·rename_i c0 ts h1 h2
    split
    ·rename_i k ext h3
     exact Ww hct h ho ((h.cc h1).1.trans (QN h h3)) (SM h2) hal hfr
    ·intro k hk;exact hk.elim
   ·intro k hk;exact hk.elim
  | invoke r me=>intro k hk;exact hk.elim
  | builtin b=>
   cases b with
   | append=>
    simp only
    split
    ·rename_i x y t u h1 h2
     split
     ·rename_i e
      have e:=Nat.eq_of_beq_eq_true e
      subst e
      have h1:args=#[x,y]:=Array.ext' h1
      have h2:argTypes=#[t,t]:=Array.ext' h2
      subst h1 h2
      exact SA hT h ho hnx hf
     ·intro k hk;exact hk.elim
    ·intro k hk;exact hk.elim
   | len=>
    simp only
    split
    ·rename_i x t h1 h2
     have h1:args=#[x]:=Array.ext' h1
     have h2:argTypes=#[t]:=Array.ext' h2
     subst h1 h2
     refine Az h (X:=ABB tt s t x) λ p v hx _=>?_
     unfold ABB at hx
     split at hx
     ·rename_i k _ _ _ _ _ hc hl
      have hu:=(hT _ _ hl).d
      simp only [TD.fits] at hu
      split at hx
      ·rename_i e' ts rows deps hsl
       simp only [Option.some.injEq,Prod.mk.injEq] at hx
       obtain ⟨rfl,rfl⟩:=hx
       obtain ⟨⟨F,f1,f2⟩,-,-⟩:=h.sl hsl
       obtain ⟨ad,cap,hv,-⟩:=f1.open
       refine ⟨?_,by simp [T.ofV_ids]⟩
       have hx1:a.eval x=.slice ad rows.length cap:=by rw [(h.cc hc).1];exact hv
       simp [execOp,ho,resolve,invoke,builtin,Builtin.len_,hx1,AV hu,T.ofV_den,goInt]
      ·split at hx
       ·rename_i nb hro
        simp only [Option.some.injEq,Prod.mk.injEq] at hx
        obtain ⟨rfl,rfl⟩:=hx
        obtain ⟨⟨ad,cap,hv,-⟩,-,-⟩:=Dh h hro
        refine ⟨?_,by simp [T.ofV_ids]⟩
        have hx1:a.eval x=.slice ad nb.length cap:=by rw [(h.cc hc).1];exact hv
        simp [execOp,ho,resolve,invoke,builtin,Builtin.len_,hx1,AV hu,T.ofV_den,goInt]
       ·cases hx
     ·rename_i ad nn cc _ _ _ _ _ hc hl
      have hu:=(hT _ _ hl).d
      simp only [TD.fits] at hu
      simp only [Option.some.injEq,Prod.mk.injEq] at hx
      obtain ⟨rfl,rfl⟩:=hx
      have hx1:=(h.cc hc).1
      simp only [C.den] at hx1
      exact ⟨by simp [execOp,ho,resolve,invoke,builtin,Builtin.len_,hx1,AV hu,T.ofV_den,goInt],by simp [T.ofV_ids]⟩
     ·rename_i b _ _ _ _ hc hl
      have hu:=(hT _ _ hl).d
      simp only [TD.fits] at hu
      simp only [Option.some.injEq,Prod.mk.injEq] at hx
      obtain ⟨rfl,rfl⟩:=hx
      have hx1:=(h.cc hc).1
      simp only [C.den] at hx1
      exact ⟨by simp [execOp,ho,resolve,invoke,builtin,Builtin.len_,hx1,AV hu,T.ofV_den,goInt],by simp [T.ofV_ids]⟩
     ·cases hx
    ·intro k hk;exact hk.elim
   | min=>
    refine Az h (X:=Nw false s args.toList) λ p v hx _=>?_
    unfold Nw at hx
    split at hx
    ·rename_i x y h1
     split at hx
     ·rename_i k av _ bv e1 e2
      simp only [Option.some.injEq,Prod.mk.injEq] at hx
      obtain ⟨rfl,rfl⟩:=hx
      have h1:args=#[x,y]:=Array.ext' h1
      subst h1
      refine ⟨?_,by simp [T.ofV_ids]⟩
      have e:(if bv<av then bv else av)=min av bv:=by omega
      simp [execOp,ho,resolve,invoke,builtin,Builtin.min_,Builtin.min2,h.im e1,h.im e2,T.ofV_den,e]
     ·cases hx
    ·cases hx
   | max=>
    refine Az h (X:=Nw true s args.toList) λ p v hx _=>?_
    unfold Nw at hx
    split at hx
    ·rename_i x y h1
     split at hx
     ·rename_i k av _ bv e1 e2
      simp only [Option.some.injEq,Prod.mk.injEq] at hx
      obtain ⟨rfl,rfl⟩:=hx
      have h1:args=#[x,y]:=Array.ext' h1
      subst h1
      refine ⟨?_,by simp [T.ofV_ids]⟩
      have e:(if bv>av then bv else av)=max av bv:=by omega
      simp [execOp,ho,resolve,invoke,builtin,Builtin.max_,Builtin.max2,h.im e1,h.im e2,T.ofV_den]
      omega
     ·cases hx
    ·cases hx
   | _=>intro k hk;exact hk.elim
 | _=>intro k hk;exact hk.elim
end
end Go.Proofs.YtkffpiaagjcmpaaGreat
namespace Go.Proofs.YtkffpiaagjcmpaaGreat
set_option linter.unusedVariables false
set_option linter.unusedSimpArgs false
open Go.RowKit
def L8 (f b:Bool) (X Y:Prop):Prop:=
 match f with
 | true=>(match b with|true=>X|false=>Y)
 | false=>(b=true->X)/\(b=false->Y)
theorem EW {f b:Bool} {X Y:Prop} (h:L8 f b X Y):(b=true->X)/\(b=false->Y):=by
 unfold L8 at h
 cases f with
 | true=>cases b <;> exact ⟨λ e=>(by first|exact h|cases e),λ e=>(by first|exact h|cases e)⟩
 | false=>exact h
def St.know (s:St) (t:Nat) (b:Bool):St:={ s with tm:=(t,T.ofV (.bool b))::s.tm,lit:=t::s.lit }
def W6 (s:St):Operand->Bool
 | .tmp t=>s.lit.any (Nat.beq t)
 | .const (.bool _)=>true
 | _=>false
def W7 (s:St):Op->Bool
 | .move x=>W6 s x
 | .assign x=>W6 s x
 | .pick c a b=>
  match W6 s c with
  | true=>
   match Io s c with
   | some (.bool true)=>W6 s a
   | some (.bool false)=>W6 s b
   | _=>false
  | false=>false
 | _=>false
def St.setLit (s:St) (f:Bool) (dst:Option Tmp):St:=
 match f,dst with
 | true,some t=>{ s with lit:=t::s.lit }
 | _,_=>s
def St.put (s:St) (o:Oper) (e:Eff):St:=(s.app o.dst e).setLit (W7 s o.op) o.dst
def Kd (n:Nat) (o:Oper):Bool:=
 match o.dst with
 | some t=>Nat.ble (t+1) n
 | none=>true
def alN (nx i:Nat):Prop:=0<i/\i<nx
section
variable {P : Program} {tt : TT} {ct : CTs} {Γ : Env} {n : Nat} {w0 : World} {al fr : Nat → Prop} {s : St} {m : Maps} {a : Act} {w : World} {nx : Nat} {o : Oper}
theorem R.eq (h:R Γ n w0 al s m a w) {s' : St} (ht:s'.tm=s.tm) (he:s'.en=s.en):R Γ n w0 al s' m a w:=
 { h with tm:=by rw [ht];exact h.tm,en:=by rw [he];exact h.en }
theorem Ny (s:St) (f:Bool) (dst:Option Tmp):(s.setLit f dst).tm=s.tm/\(s.setLit f dst).en=s.en:=by
 unfold St.setLit;split <;> exact ⟨rfl,rfl⟩
theorem R.know (h : R Γ n w0 al s m a w) {t : Nat} {b : Bool} (hb : a.tmps.getD t undef = .bool b) : R Γ n w0 al (s.know t b) m a w :=
  { h with
    tm := fun u v hv => by
      simp only [St.know, AR] at hv
      split at hv
      · rename_i e; subst e; obtain rfl := Option.some.inj hv; exact ⟨hb, by simp [T.ofV_ids]⟩
      · exact h.tm u v hv }
theorem L9 (h:Kd n o=true):∀ t,o.dst=some t->t<n:=by
 intro t ht
 unfold Kd at h
 rw [ht] at h
 exact Nat.le_of_ble_eq_true h
theorem R.put (h:R Γ n w0 (alN nx) s m a w) {e:Eff} {m' : Maps} {a' : Act} {w' : World} (hnx:0<nx) (hs:Stp Γ (alN nx) (λ i=>nx<=i/\i<nx+32) o.dst m a w e m' a' w') (hd:Kd n o=true):R Γ n w0 (alN (nx+32)) (s.put o e) m' a' w':=by
 have:=(Stp.r h hs (by omega) (L9 hd)).more (al':=alN (nx+32)) (λ i hi=>by unfold alN at *;omega) (by unfold alN;omega)
 exact this.eq (Ny _ _ _).1 (Ny _ _ _).2
theorem Stp.skip (_:R Γ n w0 al s m a w) {dst:Option Tmp} : Stp Γ al fr dst m a w ⟨T.ofV undef,[]⟩ m (a.put dst undef) w:=
 ⟨rfl,λ _ _=>⟨rfl,rfl⟩,Bel.refl _ _,λ _ _ _=>rfl,λ _ _ _=>rfl,λ i E h=>by simp [lkp] at h,by simp [T.ofV_ids]⟩
end
def AAl (tt:TT) (s:St):Op->Option (List (List Dat)×Bool)
 | .binOp op t x (.const (.slice none 0 0)) _=>
  match op,cOf s x,lkp tt t with
  | .eql,some (.ext k),some { d:=.slice _,.. }=>(Dq s k).map λ y=>(y.2.2.1,false)
  | .neq,some (.ext k),some { d:=.slice _,.. }=>(Dq s k).map λ y=>(y.2.2.1,true)
  | _,_,_=>none
 | _=>none
def QU (tt:TT) (ct:CTs) (hints:List Nat) (o:Oper) (s:St) (nx:Nat) (q:Eff->Prop):Prop:=
 match AAl tt s o.op with
 | some (rows,neg)=>∀ b:Bool,(b=true->rows=[])->q ⟨T.ofV (.bool (match neg with|true=>!b|false=>b)),[]⟩
 | none=>xop tt ct hints o s nx q
theorem UA {P : Program} {tt : TT} {ct : CTs} {Γ : Env} {n : Nat} {w0 : World} {al fr : Nat → Prop} {s : St} {m : Maps} {a : Act} {w : World} {nx : Nat} {o : Oper} (hT : TTok P tt) (hct : CTok P ct Γ.mono) (h : R Γ n w0 al s m a w) (hints : List Nat) (hal : ∀ i, al i → ¬ (nx ≤ i ∧ i < nx + 32)) (hfr : ∀ i, nx ≤ i → i < nx + 32 → fr i) : Snd P Γ al fr m a w o (QU tt ct hints o s nx) := by
  intro k hk Q
  unfold QU at hk
  split at hk
  · rename_i rows neg hn
    have key : ∀ (op : BinOp) (t : Nat) (x : Operand) (y : Nat) (i : Nat), o.op = .binOp op t x (.const (.slice none 0 0)) y → cOf s x = some (.ext i) → (∃ z, lkp tt t = some z ∧ ∃ e, z.d = .slice e) → (Dq s i).map (fun y => y.2.2.1) = some rows →
        ∃ b : Bool, (b = true → rows = []) ∧ (Op.equal t (a.eval x) (.slice none 0 0)).run P w = .ok b w ∧ (eqGuard op t x (.const (.slice none 0 0)) (a.eval x) (.slice none 0 0)).run P w = .ok () w ∧ ∃ ad n c, a.eval x = .slice ad n c := by
      intro op t x y i ho hc ⟨z, hz, e, he⟩ hs
      obtain ⟨⟨e', ts, rows', deps⟩, h1, h2⟩ := Option.map_eq_some_iff.1 hs
      simp only at h2
      subst h2
      obtain ⟨⟨F, f1, f2⟩, -, -⟩ := h.sl h1
      obtain ⟨ad, cap, hv, -, -, hnil, -⟩ := f1.open
      have hx : a.eval x = .slice ad rows'.length cap := by rw [(h.cc hc).1]; exact hv
      have hu := (hT _ _ hz).d
      rw [he] at hu
      simp only [TD.fits] at hu
      refine ⟨ad.isNone, fun hb => (hnil (by simpa using hb)).1, ?_, ?_, _, _, _, hx⟩
      · rw [hx]
        exact run_equalIn_slice_nil w 9999 t e ad rows'.length cap hu
      · rw [hx]
        cases op <;> simp [eqGuard]
    unfold AAl at hn
    split at hn
    · rename_i op t x y ho
      split at hn
      · rename_i i _ _ _ _ _ hc hz
        obtain ⟨q1, q2, q3⟩ := Option.map_eq_some_iff.1 hn
        simp only [Prod.mk.injEq] at q3
        obtain ⟨rfl, rfl⟩ := q3
        obtain ⟨b, b1, b2, b3, ad, n', c, hx⟩ := key _ t x y i ho hc ⟨_, hz, _, rfl⟩ (by rw [q2]; rfl)
        rw [hx] at b2 b3
        have hb : (Go.binOp .eql t (.slice ad n' c) (.slice none 0 0)).run P w = .ok (.bool b) w := by simp [Go.binOp, b2]
        refine Oper.wp_value (v := .bool b) (w' := w) ?_ ⟨_, m, hk b b1, Stp.pure h (T.ofV (.bool b)) (by simp [T.ofV_ids])⟩
        simp only [execOp, ho, hx, show a.eval (.const (.slice none 0 0)) = .slice none 0 0 from rfl, Sem.run_bind, b3, Result.andThen_ok, hb, Sem.run_pure]
      · rename_i i _ _ _ _ _ hc hz
        obtain ⟨q1, q2, q3⟩ := Option.map_eq_some_iff.1 hn
        simp only [Prod.mk.injEq] at q3
        obtain ⟨rfl, rfl⟩ := q3
        obtain ⟨b, b1, b2, b3, ad, n', c, hx⟩ := key _ t x y i ho hc ⟨_, hz, _, rfl⟩ (by rw [q2]; rfl)
        rw [hx] at b2 b3
        have hb : (Go.binOp .neq t (.slice ad n' c) (.slice none 0 0)).run P w = .ok (.bool !b) w := by simp [Go.binOp, b2]
        refine Oper.wp_value (v := .bool !b) (w' := w) ?_ ⟨_, m, hk b b1, Stp.pure h (T.ofV (.bool !b)) (by simp [T.ofV_ids])⟩
        simp only [execOp, ho, hx, show a.eval (.const (.slice none 0 0)) = .slice none 0 0 from rfl, Sem.run_bind, b3, Result.andThen_ok, hb, Sem.run_pure]
      · cases hn
    · cases hn
  · exact W5 hT hct h hints hal hfr k hk Q
def Ci (all:List Oper) (j:Nat):Option Nat:=(all[j]?).bind (·.dst)
def Jq (s:St) (t:Nat):Option Bool:=
 match (lkp s.tm t).bind T.im with
 | some (.bool b)=>some b
 | _=>none
def LL (s:St) (t:Nat):Bool:=
 match (lkp s.tm t).bind T.im with
 | some (.tuple _)=>true
 | _=>false
def Ke (tt:TT) (ct:CTs) (hints:List Nat) (n:Nat) (all:List Oper):List Oper->St->Nat->(St->Nat->Prop)->Prop
 | [],s,nx,q=>q s nx
 | o::r,s,nx,q=>
  match Kd n o with
  | false=>False
  | true=>
   match o.guard with
   | none=>QU tt ct hints o s nx λ e=>Ke tt ct hints n all r (s.put o e) (nx+32) q
   | some (j,want)=>
    match Ci all j with
    | none=>False
    | some t=>
     match Jq s t with
     | none=>
      match LL s t with
      | true=>Ke tt ct hints n all r (s.put o ⟨T.ofV undef,[]⟩) (nx+32) q
      | false=>False
     | some b=>
      L8 (s.lit.any (Nat.beq t)) (match want with|true=>b|false=>!b)
       (QU tt ct hints o (s.know t want) nx λ e=>Ke tt ct hints n all r ((s.know t want).put o e) (nx+32) q)
       (Ke tt ct hints n all r ((s.know t (!want)).put o ⟨T.ofV undef,[]⟩) (nx+32) q)
section
variable {P : Program} {tt : TT} {ct : CTs} {Γ : Env} {n : Nat} {w0 : World} {al fr : Nat → Prop} {s : St} {m : Maps} {a : Act} {w : World} {nx : Nat} {o : Oper}
theorem Ha (h:R Γ n w0 al s m a w) {t:Nat} {b:Bool} (hb:Jq s t=some b):a.tmps.getD t undef=.bool b:=by
 unfold Jq at hb
 split at hb
 ·rename_i b' h1
  simp only [Option.some.injEq] at hb
  subst hb
  obtain ⟨v,e1,e2⟩:=Option.bind_eq_some_iff.1 h1
  rw [(h.tm t v e1).1,(T.im_den m e2).1]
 ·cases hb
theorem Jr {ops:Array Oper} {all:List Oper} (hall:all=ops.toList) {j t:Nat} {want b:Bool} (hg:o.guard=some (j,want)) (ht:Ci all j=some t) (hb:a.tmps.getD t undef=.bool b):Region.wanted o (yielded ops a.tmps)=(b == want):=by
 subst hall
 have h1:(ops[j]?).bind (·.dst)=some t:=by unfold Ci at ht;simpa using ht
 have h2:a.tmps[t]?=some (.bool b):=by
  rw [Array.getD_eq_getD_getElem?] at hb
  cases hx:a.tmps[t]? with
  | none=>rw [hx] at hb;simp [undef] at hb
  | some v=>rw [hx] at hb;simpa using hb
 simp only [Region.wanted,hg,yielded,h1,Option.bind_some,h2]
 rfl
theorem IJ {ops:Array Oper} {all:List Oper} (hall:all=ops.toList) {j t:Nat} {want:Bool} (hg:o.guard=some (j,want)) (ht:Ci all j=some t) {x:Array Value} (hb:a.tmps.getD t undef=.tuple x):Region.wanted o (yielded ops a.tmps)=false:=by
 subst hall
 have h1:(ops[j]?).bind (·.dst)=some t:=by unfold Ci at ht;simpa using ht
 simp only [Region.wanted,hg,yielded,h1,Option.bind_some]
 rw [Array.getD_eq_getD_getElem?] at hb
 cases hx:a.tmps[t]? with
 | none=>rfl
 | some v=>
  rw [hx] at hb
  simp only [Option.getD_some] at hb
  subst hb
  rfl
theorem MA (h:R Γ n w0 al s m a w) {t:Nat} (hb:LL s t=true):∃ x,a.tmps.getD t undef=.tuple x:=by
 unfold LL at hb
 split at hb
 ·rename_i x h1
  obtain ⟨v,e1,e2⟩:=Option.bind_eq_some_iff.1 h1
  exact ⟨x,by rw [(h.tm t v e1).1,(T.im_den m e2).1]⟩
 ·cases hb
theorem Et (hT:TTok P tt) (hct:CTok P ct Γ.mono) {hints:List Nat} {ops:Array Oper} {all:List Oper} (hall:all=ops.toList) {Q:Exit->Act->World->Prop} :
  ∀ (l:List Oper) {s:St} {nx:Nat} {m:Maps} {a:Act} {w:World} {q:St->Nat->Prop},Ke tt ct hints n all l s nx q->0<nx->R Γ n w0 (alN nx) s m a w ->
   (∀ s' nx' m' a' w',0<nx'->q s' nx'->R Γ n w0 (alN nx') s' m' a' w'->Q .normal a' w')->wpList P ops Q l a w
 | [],s,nx,m,a,w,q,hx,h0,h,hq=>wpList_nil (hq _ _ _ _ _ h0 hx h)
 | o::r,s,nx,m,a,w,q,hx,h0,h,hq=>by
  refine wpList_step λ K hK=>?_
  simp only [Ke] at hx
  split at hx
  ·exact hx.elim
  ·rename_i hd
   have run:∀ s2:St,R Γ n w0 (alN nx) s2 m a w->(QU tt ct hints o s2 nx λ e=>Ke tt ct hints n all r (s2.put o e) (nx+32) q)->o.wp P a w K Q:=by
    intro s2 h2 hx2
    have hs:=UA (o:=o) (fr:=λ i=>nx<=i/\i<nx+32) hT hct h2 hints (λ i hi=>by unfold alN at hi;omega) (λ i h1 h2=>⟨h1,h2⟩) _ hx2 Q
    refine Oper.wp_mono ?_ hs
    rintro a' w' ⟨e,m',he,hstp⟩
    exact hK _ _ (Et hT hct hall r he (by omega) (h2.put h0 hstp hd) hq)
   split at hx
   ·rename_i hg
    rw [if_pos (by simp [Region.wanted,hg])]
    exact run s h hx
   ·rename_i j want hg
    split at hx
    ·exact hx.elim
    ·rename_i t ht
     split at hx
     ·split at hx
      ·rename_i hu
       obtain ⟨x,hu⟩:=MA h hu
       rw [IJ hall hg ht hu]
       simp only [Bool.false_eq_true,if_false]
       exact hK _ _ (Et hT hct hall r hx (by omega) (h.put h0 (Stp.skip h) hd) hq)
      ·exact hx.elim
     ·rename_i b hb
      have hbv:=Ha h hb
      rw [Jr hall hg ht hbv]
      obtain ⟨g1,g2⟩:=EW hx
      by_cases hbw:b=want
      ·subst hbw
       have hk:=g1 (by cases b <;> rfl)
       simp only [beq_self_eq_true,if_true]
       exact run _ (h.know hbv) hk
      ·have hbw' : b=!want:=by cases b <;> cases want <;> simp at hbw ⊢
       have hk:=g2 (by subst hbw';cases want <;> rfl)
       have hne:(b == want)=false:=by simpa using hbw
       rw [hne]
       simp only [Bool.false_eq_true,if_false]
       have h2:=h.know (b:=!want) (by rw [hbv,hbw'])
       exact hK _ _ (Et hT hct hall r hk (by omega) (h2.put h0 (Stp.skip h2) hd) hq)
end
theorem ST {X:Option (Option Prop×T)} {q:Eff->Prop} (h:xp X q):∃ e,q e/\xp X (·=e):=by
 unfold xp at h ⊢
 split at h
 ·rename_i p v
  cases p with
  | none=>exact ⟨_,h,rfl⟩
  | some p=>exact ⟨_,h.2,h.1,rfl⟩
 ·exact h.elim
theorem W8 {s:St} {nx:Nat} {x:Operand} {q:Eff->Prop} (h:U7 s nx x q):∃ e,q e/\U7 s nx x (·=e):=by
 unfold U7 at h ⊢
 split at h
 ·split at h
  ·split at h
   ·rename_i hc;exact ⟨_,h,by rw [if_pos hc]⟩
   ·exact h.elim
  ·exact h.elim
 ·exact h.elim
theorem SU {tt:TT} {nx t:Nat} {q:Eff->Prop} (h:Ja tt nx t q):∃ e,q e/\Ja tt nx t (·=e):=by
 unfold Ja at h ⊢
 split at h
 ·exact ⟨_,h,rfl⟩
 ·exact h.elim
theorem SV {tt:TT} {s:St} {nx t k sz i j:Nat} {q:Eff->Prop} (h:Jb tt s nx t k sz i j q):∃ e,q e/\Jb tt s nx t k sz i j (·=e):=by
 unfold Jb at h ⊢
 split at h
 ·split at h
  ·rename_i hc
   simp only [if_pos hc]
   split at h
   ·split at h
    ·exact ⟨_,h.2,h.1,rfl⟩
    ·exact h.elim
   ·exact h.elim
  ·exact h.elim
 ·exact h.elim
theorem QV {tt:TT} {s:St} {t i off:Nat} {v:T} {q:Eff->Prop} (h:G7 tt s t i off v q):∃ e,q e/\G7 tt s t i off v (·=e):=by
 unfold G7 at h ⊢
 split at h
 ·split at h
  ·rename_i hc;exact ⟨_,h,by rw [if_pos hc]⟩
  ·exact h.elim
 ·exact h.elim
theorem SW {tt:TT} {s:St} {nx t:Nat} {x:Option T} {lo hi:Option Operand} {q:Eff->Prop} (h:Jc tt s nx t x lo hi q):∃ e,q e/\Jc tt s nx t x lo hi (·=e):=by
 unfold Jc at h ⊢
 split at h
 ·split at h
  ·split at h
   ·obtain ⟨h1,h2,h3,h4,h⟩:=h
    exact ⟨_,h,h1,h2,h3,h4,rfl⟩
   ·exact h.elim
  ·exact h.elim
 ·split at h
  ·split at h
   ·obtain ⟨h1,h2,h3,h⟩:=h
    exact ⟨_,h,h1,h2,h3,rfl⟩
   ·exact h.elim
  ·exact h.elim
 ·exact h.elim
theorem W9 {tt:TT} {s:St} {nx t:Nat} {x:Option T} {lo hi:Option Operand} {q:Eff->Prop} (h:VD tt s nx t x lo hi q):∃ e,q e/\VD tt s nx t x lo hi (·=e):=by
 unfold VD at h ⊢
 split at h
 ·split at h
  ·split at h
   ·obtain ⟨h1,h2,h3,h4,h⟩:=h
    exact ⟨_,h,h1,h2,h3,h4,rfl⟩
   ·exact h.elim
  ·exact h.elim
 ·exact h.elim
theorem K7 {tt:TT} {s:St} {nx t len:Nat} {shape:List Ty} {ps:List (Nat×Operand)} {top:Bool} {q:Eff->Prop} (h:C2 tt s nx t len shape ps top q):∃ e,q e/\C2 tt s nx t len shape ps top (·=e):=by
 unfold C2 at h ⊢
 split at h
 ·split at h
  ·rename_i hc
   simp only [if_pos hc]
   split at h
   ·split at h
    ·rename_i hn;exact ⟨_,h,by rw [if_pos hn]⟩
    ·exact h.elim
   ·split at h
    ·exact ⟨_,h,rfl⟩
    ·exact h.elim
  ·exact h.elim
 ·exact h.elim
theorem QW {tt:TT} {s:St} {nx t:Nat} {x y:Option T} {q:Eff->Prop} (h:G9 tt s nx t x y q):∃ e,q e/\G9 tt s nx t x y (·=e):=by
 unfold G9 at h ⊢
 split at h
 ·split at h
  ·split at h
   ·split at h
    ·rename_i hc
     simp only [if_pos hc]
     obtain ⟨hl,h⟩:=h
     split at h
     ·exact ⟨_,h,hl,rfl⟩
     ·split at h
      ·exact h.elim
      ·rename_i hn;exact ⟨_,h,hl,by rw [if_neg hn]⟩
     ·split at h
      ·exact h.elim
      ·rename_i hn;exact ⟨_,h,hl,by rw [if_neg hn]⟩
    ·exact h.elim
   ·exact h.elim
  ·exact h.elim
 ·exact h.elim
theorem QX {tt:TT} {s:St} {t k sz i j:Nat} {v:T} {q:Eff->Prop} (h:HF tt s t k sz i j v q):∃ e,q e/\HF tt s t k sz i j v (·=e):=by
 unfold HF at h ⊢
 split at h
 ·split at h
  ·split at h
   ·rename_i hown hc
    simp only [hown,if_pos hc]
    obtain ⟨hi,h⟩:=h
    exact ⟨_,h,hi,rfl⟩
   ·exact h.elim
  ·exact h.elim
 ·exact h.elim
theorem QY {tt:TT} {s:St} {t k sz i j:Nat} {v:T} {q:Eff->Prop} (h:HE tt s t k sz i j v q):∃ e,q e/\HE tt s t k sz i j v (·=e):=by
 unfold HE at h ⊢
 split at h
 ·split at h
  ·split at h
   ·rename_i hown hc
    simp only [hown,if_pos hc]
    obtain ⟨hi,h⟩:=h
    exact ⟨_,h,hi,rfl⟩
   ·exact h.elim
  ·exact h.elim
 ·exact h.elim
theorem SX {tt:TT} {s:St} {c:Con} {ds:List DA} {cells:List C} {q:Eff->Prop} (h:Jh tt s c ds cells q):∃ e,q e/\Jh tt s c ds cells (·=e):=by
 unfold Jh at h ⊢
 split at h
 ·split at h
  ·split at h
   ·rename_i hc
    simp only [if_pos hc]
    obtain ⟨i,h1,h2,h⟩:=h
    obtain ⟨h3,h⟩:=L1 h
    split at h
    ·rename_i e1 e2
     refine ⟨_,h _ rfl,i,h1,h2,?_⟩
     have:∀ {ps:List Prop} {p:Prop},(∀ x ∈ ps,x)->p->obs ps p:=by
      intro ps
      induction ps with
      | nil=>intro p _ h;exact h
      | cons x r ih=>intro p hx h;exact ⟨hx x (by simp),ih (λ y hy=>hx y (List.mem_cons_of_mem _ hy)) h⟩
     exact this h3 (by rw [e1,e2];intro R hR;rw [hR])
    ·exact h.elim
   ·exact h.elim
  ·exact h.elim
 ·exact h.elim
theorem QZ {tt:TT} {s:St} {t k sz i j:Nat} {v:T} {q:Eff->Prop} (h:HW tt s t k sz i j v q):∃ e,q e/\HW tt s t k sz i j v (·=e):=by
 unfold HW at h ⊢
 split at h
 ·split at h
  ·split at h
   ·rename_i hown hc
    simp only [hown,if_pos hc]
    obtain ⟨hi,h⟩:=h
    exact ⟨_,h _ rfl,hi,λ R hR=>by rw [hR]⟩
   ·exact h.elim
  ·exact h.elim
 ·exact h.elim
theorem SY {tt:TT} {s:St} {nx:Nat} {c:Con} {cs pn:c.ι->List PC} {tys:List Nat} {as:List T} {q:Eff->Prop} (h:Ji tt s nx c cs pn tys as q):∃ e,q e/\Ji tt s nx c cs pn tys as (·=e):=by
 unfold Ji at h ⊢
 split at h
 ·split at h
  ·split at h
   ·exact h.elim
   ·split at h
    ·rename_i hc
     simp only [if_pos hc]
     obtain ⟨i,g1,g2,g3,h⟩:=h
     exact ⟨_,h,i,g1,g2,g3,rfl⟩
    ·exact h.elim
  ·exact h.elim
 ·exact h.elim
theorem SZ {tt:TT} {s:St} {nx:Nat} {c:Con} {pc:c.ι->List PC} {tys:List Nat} {as:List T} {q:Eff->Prop} (h:Jj tt s nx c pc tys as q):∃ e,q e/\Jj tt s nx c pc tys as (·=e):=by
 unfold Jj at h ⊢
 split at h
 ·split at h
  ·obtain ⟨i,g1,g2,h⟩:=h
   exact ⟨_,h,i,g1,g2,rfl⟩
  ·exact h.elim
 ·exact h.elim
theorem VM {tt:TT} {ct:CTs} {s:St} {nx f:Nat} {tys:List Nat} {as:List T} {q:Eff->Prop} (hdet:∀ f c,(f,c) ∈ ct->c.alt=none) (h:Nq tt ct s nx f tys as q):∃ e,q e/\Nq tt ct s nx f tys as (·=e):=by
 unfold Nq at h ⊢
 split at h
 ·exact h.elim
 ·rename_i c hl
  obtain ⟨g,hg⟩:=QC hl
  have ha:=hdet g c hg
  split at h
  ·exact SY h
  ·split at h
   ·exact SZ h
   ·split at h
    ·exact h.elim
    ·split at h
     ·exact SX h
     ·split at h
      ·rename_i hc
       simp only [if_pos hc]
       obtain ⟨i,h1,h2,h⟩:=h
       rw [ha] at h
       exact ⟨_,h,i,h1,h2,by rw [ha]⟩
      ·exact h.elim
theorem Qa {tt:TT} {s:St} {t k sz i j:Nat} {v:T} {q:Eff->Prop} (h:HL tt s t k sz i j v q):∃ e,q e/\HL tt s t k sz i j v (·=e):=by
 unfold HL at h ⊢
 split at h
 ·split at h
  ·split at h
   ·rename_i hown hc
    simp only [hown,if_pos hc]
    obtain ⟨hi,h⟩:=h
    exact ⟨_,h,hi,rfl⟩
   ·exact h.elim
  ·exact h.elim
 ·exact h.elim
theorem VN {tt:TT} {s:St} {nx t:Nat} {shape:List Ty} {x y:Operand} {q:Eff->Prop} (h:Np tt s nx t shape x y q):∃ e,q e/\Np tt s nx t shape x y (·=e):=by
 unfold Np at h ⊢
 split at h
 ·split at h
  ·split at h
   ·rename_i hz hc
    simp only [hz,if_pos hc]
    obtain ⟨h1,h2,h3,h⟩:=h
    exact ⟨_,h,h1,h2,h3,rfl⟩
   ·exact h.elim
  ·exact h.elim
 ·exact h.elim
theorem Sa {tt:TT} {s:St} {nx t k o:Nat} {q:Eff->Prop} (h:IG tt s nx t k o q):∃ e,q e/\IG tt s nx t k o (·=e):=by
 unfold IG at h ⊢
 split at h
 ·split at h
  ·rename_i hc
   simp only [if_pos hc]
   split at h
   ·split at h
    ·rename_i h2
     exact ⟨_,h,by simp only [h2]⟩
    ·exact h.elim
   ·exact h.elim
  ·exact h.elim
 ·exact h.elim
theorem Sb {tt:TT} {s:St} {nx t u:Nat} {x:Operand} {q:Eff->Prop} (h:Jo tt s nx t u x q):∃ e,q e/\Jo tt s nx t u x (·=e):=by
 unfold Jo at h ⊢
 split at h
 ·exact ⟨_,h,rfl⟩
 ·split at h
  ·exact ST h
  ·exact ST h
theorem Qb {tt:TT} {s:St} {nx t:Nat} {ps:List (Nat×Operand)} {shape:List Ty} {q:Eff->Prop} (h:HZ tt s nx t ps shape q):∃ e,q e/\HZ tt s nx t ps shape (·=e):=by
 unfold HZ at h ⊢
 split at h
 ·split at h
  ·exact ⟨_,h,rfl⟩
  ·exact h.elim
 ·exact h.elim
theorem IK {E:Eff} {q:Eff->Prop} : ∀ {ns:List Int},L6 ns (q E)->L6 ns (E=E)/\q E
 | [],h=>⟨rfl,h⟩
 | n::r,h=>⟨⟨h.1,(IK h.2).1⟩,(IK h.2).2⟩
theorem Qc {tt:TT} {s:St} {nx t len:Nat} {ps:List (Nat×Operand)} {q:Eff->Prop} (h:HY tt s nx t len ps q):∃ e,q e/\HY tt s nx t len ps (·=e):=by
 unfold HY at h ⊢
 split at h
 ·split at h
  ·obtain ⟨h1,h2⟩:=IK (q:=q) h
   exact ⟨_,h2,h1⟩
  ·exact h.elim
 ·exact h.elim
theorem UB {tt:TT} {ct:CTs} {hints:List Nat} {o:Oper} {s:St} {nx:Nat} {q:Eff->Prop} (hdet:∀ f c,(f,c) ∈ ct->c.alt=none) (h:xop tt ct hints o s nx q):∃ e,q e/\xop tt ct hints o s nx (·=e):=by
 unfold xop at h ⊢
 repeat' (first
  | exact ST h
  | exact Sb h
  | exact Qc h
  | exact Qb h
  | exact W8 h
  | exact SU h
  | exact SV h
  | exact QV h
  | exact QX h
  | exact QY h
  | exact QZ h
  | exact SW h
  | exact W9 h
  | exact K7 h
  | exact QW h
  | exact VM hdet h
  | exact Qa h
  | exact VN h
  | exact Sa h
  | exact h.elim
  | (split at h <;> simp only [*])
  | split at h)
end Go.Proofs.YtkffpiaagjcmpaaGreat
namespace Go.Proofs.YtkffpiaagjcmpaaGreat
set_option linter.unusedVariables false
set_option linter.unusedSimpArgs false
open Go.RowKit
abbrev Tr:=List (Oper×Eff)
def mem (l:List Nat) (x:Nat):Bool:=l.any (Nat.beq x)
theorem mem_iff {l:List Nat} {x:Nat} : mem l x=true↔x ∈ l:=by
 unfold mem
 constructor
 ·intro h;obtain ⟨y,hy,e⟩:=List.any_eq_true.1 h;simp at e;subst e;exact hy
 ·intro h;exact List.any_eq_true.2 ⟨x,h,by simp⟩
theorem FO {l:List Nat} {x:Nat} : mem l x=false↔x ∉ l:=by
 rw [← mem_iff];cases mem l x <;> simp
def MB (o:Oper):List Nat:=(o.after.toList.filter (Region.binds .any)).map (·.on)
def XA:List Nat->List Nat->List Nat
 | [],acc=>acc
 | x::r,acc=>if mem acc x=true then XA r acc else XA r (x::acc)
def ZQ:List Oper->List (List Nat)->List (List Nat)
 | [],acc=>acc
 | o::r,acc=>ZQ r (acc++[XA ((MB o).flatMap λ j=>j::acc.getD j []) []])
def anc (A:List (List Nat)) (i k:Nat):Bool:=mem (A.getD i []) k
def Gj (A:List (List Nat)):List Oper->Nat->Bool
 | [],_=>true
 | o::r,i=>
  ((MB o).all λ j=>Nat.ble (j+1) i && anc A i j && (A.getD j []).all λ k=>anc A i k) &&
  ((A.getD i []).all λ k=>Nat.ble (k+1) i && (MB o).any λ j=>Nat.beq j k || anc A j k) && Gj A r (i+1)
def fold (D:Nat->Bool):Tr->Nat->St->St
 | [],_,s=>s
 | (o,e)::r,k,s=>fold D r (k+1) (match D k with|true=>s.app o.dst e|false=>s)
def IL (A:List (List Nat)) (i:Nat):List Oper->Nat->List Nat
 | [],_=>[]
 | o::r,k=>(match Nat.beq k i || anc A i k || anc A k i with|true=>[]|false=>o.dst.toList)++IL A i r (k+1)
def XB (ts:List Nat) (s:St) (lit:List Nat):St:={ tm:=s.tm.filter λ x=>!(mem ts x.1),en:=s.en,lit:=lit }
def Kf:Eff:=⟨T.ofV undef,[]⟩
def Js (tr:Tr) (j:Nat) (v:T):Tr:=
 match tr[j]? with
 | some (o,e)=>tr.set j (o,{ e with val:=v })
 | none=>tr
def Qd (tr:Tr) (j:Nat):Option Bool:=
 match tr[j]? with
 | some (_,⟨.one (.one (.im (.bool b))),_⟩)=>some b
 | _=>none
def VO (tr:Tr) (j:Nat):Bool:=
 match tr[j]? with
 | some (_,⟨.one (.one (.im (.tuple _))),_⟩)=>true
 | _=>false
def XC (f:Bool) (dst:Option Tmp) (lit:List Nat):List Nat:=
 match f,dst with
 | true,some t=>t::lit
 | _,_=>lit
def stored (s:St) (o:Oper):List Nat:=
 match o.op with
 | .store _ x _=>
  match cOf s x with
  | some (.bp i _)=>[i]
  | _=>[]
 | _=>[]
def ABD (o:Oper):Bool:=
 match o.op with
 | .move _=>true
 | _=>false
def O0 (s:St) (t:Nat):List Oper->Option C
 | []=>none
 | o::r=>
  match o.dst with
  | some t'=>match Nat.beq t t' with|true=>(match o.op with|.move x=>cOf s x|_=>none)|false=>O0 s t r
  | none=>O0 s t r
def ABE (s:St) (all:List Oper) (o:Oper):List Nat:=
 match o.op with
 | .call c=>
  match c.args.toList with
  | .tmp t::_=>
   match (match O0 s t all with|some c=>some c|none=>cOf s (.tmp t)) with
   | some (.bp i _)=>match lkp s.en i with|some (.box cs)=>(match cs.any (λ c=>match c with|.ext k=>AA9 s k|_=>false) with|true=>[i]|false=>[])|_=>[]
   | _=>[]
  | _=>[]
 | _=>[]
def AAm (all:List Oper) (A:List (List Nat)) (s:St) (i:Nat):List Oper->Nat->List Nat
 | [],_=>[]
 | o::r,k=>(match Nat.beq k i with|true=>(match ABD o with|true=>s.en.map (·.1)|false=>[])|false=>match anc A i k || anc A k i with|true=>[]|false=>stored s o++ABE s all o)++AAm all A s i r (k+1)
def Ip (A:List (List Nat)) (s:St) (i:Nat) (l:List Oper) (k:Nat):List Nat:=AAm l A s i l k
def Fl (us:List Nat) (s:St):St:=
 match us with
 | []=>s
 | us=>{ tm:=s.tm,en:=s.en.filter λ x=>!(mem us x.1),lit:=s.lit }
def H8 (us:List Nat) (D:Nat->Bool):Tr->Nat->St->St
 | [],_,s=>s
 | (o,e)::r,k,s=>H8 us D r (k+1) (match D k with|true=>Fl us (s.app o.dst e)|false=>s)
def GR (A:List (List Nat)) (all:List Oper) (s0:St) (tr:Tr) (i:Nat) (lit:List Nat):St:=XB (IL A i all 0) (H8 (Ip A s0 i all 0) (anc A i) tr 0 (Fl (Ip A s0 i all 0) s0)) lit
def Iq (tt:TT) (ct:CTs) (hints:List Nat) (n:Nat) (all:List Oper) (A:List (List Nat)) (s0:St) (nx:Nat):List Oper->Nat->Tr->List Nat->(Tr->List Nat->Prop)->Prop
 | [],_,tr,lit,q=>q tr lit
 | o::r,i,tr,lit,q=>
  match Kd n o with
  | false=>False
  | true=>
   match o.guard with
   | none=>xop tt ct hints o (GR A all s0 tr i lit) (nx+32*i) λ e=>Iq tt ct hints n all A s0 nx r (i+1) (tr++[(o,e)]) (XC (W7 (GR A all s0 tr i lit) o.op) o.dst lit) q
   | some (j,want)=>
    match anc A i j,Ci all j,Qd tr j with
    | true,some t,some b=>
     L8 (mem lit t) (match want with|true=>b|false=>!b)
      (xop tt ct hints o (GR A all s0 (Js tr j (T.ofV (.bool want))) i (t::lit)) (nx+32*i) λ e=>
       Iq tt ct hints n all A s0 nx r (i+1) (Js tr j (T.ofV (.bool want))++[(o,e)]) (XC (W7 (GR A all s0 (Js tr j (T.ofV (.bool want))) i (t::lit)) o.op) o.dst (t::lit)) q)
      (Iq tt ct hints n all A s0 nx r (i+1) (Js tr j (T.ofV (.bool (!want)))++[(o,Kf)]) (t::lit) q)
    | true,some _,none=>
     match VO tr j with
     | true=>Iq tt ct hints n all A s0 nx r (i+1) (tr++[(o,Kf)]) lit q
     | false=>False
    | _,_,_=>False
def AAn (x y:Oper):Bool:=
 match x.dst,y.dst with
 | some a,some b=>!(Nat.beq a b)
 | _,_=>true
def ABF (a b:List Nat):Bool:=a.all λ x=>!(mem b x)
def Qe (us:List Nat) (u:List (Nat×En)):Bool:=u.any λ x=>En.hangs us x.2
def IM (x y:Oper×Eff):Bool:=AAn x.1 y.1 && ABF x.2.us y.2.us && !(Qe y.2.us x.2.upd) && !(Qe x.2.us y.2.upd)
def O1 (us:List Nat) (en:List (Nat×En)):Bool:=
 match us with
 | []=>true
 | _=>en.all λ x=>!(mem us x.1) && !(En.hangs us x.2)
def Jt (A:List (List Nat)) (us:List Nat) (i:Nat):Tr->Nat->St->Bool
 | [],_,_=>true
 | (o,e)::r,k,V=>
  match anc A i k with
  | true=>Jt A us i r (k+1) (Fl us (V.app o.dst e))
  | false=>(match Nat.beq k i || anc A k i with|true=>true|false=>O1 e.us V.en) && Jt A us i r (k+1) V
def Hb (A:List (List Nat)) (i:Nat) (x:Oper×Eff):Tr->Nat->Bool
 | [],_=>true
 | y::r,k=>(Nat.ble k i || anc A k i || IM x y) && Hb A i x r (k+1)
def Fm (A:List (List Nat)) (s0:St) (tr:Tr):Tr->Nat->Bool
 | [],_=>true
 | x::r,i=>Jt A (Ip A s0 i (tr.map (·.1)) 0) i tr 0 (Fl (Ip A s0 i (tr.map (·.1)) 0) s0) && Hb A i x tr 0 && Fm A s0 tr r (i+1)
def FF:List Oper->List Nat
 | []=>[]
 | o::r=>o.dst.toList++FF r
def O2 (tt:TT) (ct:CTs) (hints:List Nat) (n:Nat) (all:List Oper) (s0:St) (nx:Nat) (q:St->Nat->Prop):Prop:=
 match Gj (ZQ all []) all 0 && ET (FF all) with
 | false=>False
 | true=>Iq tt ct hints n all (ZQ all []) s0 nx all 0 [] (s0.lit.filter λ t=>!(mem (FF all) t)) λ tr lit=>
  match Fm (ZQ all []) s0 tr tr 0 with
  | false=>False
  | true=>q { fold (λ _=>true) tr 0 s0 with lit:=lit } (nx+32*all.length)
theorem Gk (s:St) (dst:Option Tmp) (e:Eff) (t:Nat):lkp (s.app dst e).tm t=if dst=some t then some e.val else lkp s.tm t:=by
 cases dst with
 | none=>simp [St.app]
 | some d=>simp only [St.app,AR,Option.some.injEq]
def FP (us:List Nat) (E:En):En:=if En.hangs us E then .dead else E
theorem Ju (E:En):En.hangs [] E=false:=by cases E <;> simp [En.hangs]
theorem Jv (s:St) (dst:Option Tmp) (e:Eff) (i:Nat):lkp (s.app dst e).en i=(lkp e.upd i).or ((lkp s.en i).map (FP e.us)):=by
 have key:lkp (e.upd++Ot e.us s.en) i=(lkp e.upd i).or ((lkp s.en i).map (FP e.us)):=by rw [Cq,P0];rfl
 simp only [St.app]
 cases hu:e.upd with
 | nil=>
  have hus:e.us=[]:=by simp [Eff.us,hu]
  have:FP e.us=id:=by funext E;simp [FP,hus,Ju]
  rw [this]
  simp [lkp]
 | cons x r=>rw [hu] at key;exact key
def Vis (U:List Nat) (V S:St):Prop:=(∀ t,t ∉ U->lkp V.tm t=lkp S.tm t)/\∀ i E,lkp V.en i=some E->(E=.dead/\∃ E',lkp S.en i=some E')∨lkp S.en i=some E
theorem Vis.refl (U:List Nat) (s:St):Vis U s s:=⟨λ _ _=>rfl,λ _ _ h=>.inr h⟩
theorem Kg {us:List Nat} {l:List (Nat×En)} {i:Nat} {E:En} (h:lkp (l.filter λ x=>!(mem us x.1)) i=some E):lkp l i=some E:=by
 induction l with
 | nil=>simp [lkp] at h
 | cons x r ih=>
  obtain ⟨j,F⟩:=x
  rw [AR]
  by_cases hj:mem us j=true
  ·rw [List.filter_cons_of_neg (by simp [hj])] at h
   split
   ·rename_i e
    subst e
    -- the number is hidden: it cannot be found there
    exfalso
    have:∀ r:List (Nat×En),lkp (r.filter λ x=>!(mem us x.1)) j≠some E:=by
     intro r
     induction r with
     | nil=>simp [lkp]
     | cons y r ih2=>
      obtain ⟨q,G⟩:=y
      by_cases hq:mem us q=true
      ·rw [List.filter_cons_of_neg (by simp [hq])];exact ih2
      ·rw [List.filter_cons_of_pos (by simpa using hq),AR]
       split
       ·rename_i e;subst e;exact absurd hj hq
       ·exact ih2
    exact this r h
   ·exact ih h
  ·rw [List.filter_cons_of_pos (by simpa using hj),AR] at h
   split
   ·rename_i e;rw [if_pos e] at h;exact h
   ·rename_i e;rw [if_neg e] at h;exact ih h
theorem Vis.hide (U us:List Nat) (s:St):Vis U (Fl us s) s:=by
 cases us with
 | nil=>exact Vis.refl U s
 | cons u us=>exact ⟨λ _ _=>rfl,λ i E h=>.inr (Kg h)⟩
theorem Vis.hid {U:List Nat} {V S:St} (h:Vis U V S) (us:List Nat):Vis U (Fl us V) S:=by
 obtain ⟨h1,h2⟩:=Vis.hide U us V
 refine ⟨λ t ht=>(h1 t ht).trans (h.1 t ht),λ i E hE=>?_⟩
 have:lkp V.en i=some E:=by
  cases us with
  | nil=>exact hE
  | cons u us=>exact Kg hE
 exact h.2 i E this
theorem Vis.both {U:List Nat} {V S:St} (h:Vis U V S) (dst:Option Tmp) (e:Eff):Vis U (V.app dst e) (S.app dst e):=by
 refine ⟨λ t ht=>by rw [Gk,Gk,h.1 t ht],λ i E hE=>?_⟩
 rw [Jv] at hE ⊢
 cases hu:lkp e.upd i with
 | some E'=>rw [hu] at hE;exact .inr hE
 | none=>
  rw [hu,Option.none_or] at hE
  rw [Option.none_or]
  cases hv:lkp V.en i with
  | none=>rw [hv] at hE;cases hE
  | some E0=>
   rw [hv] at hE
   rcases h.2 i E0 hv with ⟨rfl,E',h2⟩|h2
   ·simp [FP,En.hangs] at hE;exact .inl ⟨hE.symm,by rw [h2];exact ⟨_,rfl⟩⟩
   ·rw [h2];exact .inr hE
theorem Vis.other {U:List Nat} {V S:St} (h:Vis U V S) {dst:Option Tmp} {e:Eff} (hd:∀ t,dst=some t->t ∈ U) (hc:O1 e.us V.en=true):Vis U V (S.app dst e):=by
 have hc:∀ i E,lkp V.en i=some E->i ∉ e.us/\En.hangs e.us E=false:=by
  intro i E hE
  unfold O1 at hc
  split at hc
  ·rename_i hus;rw [hus];exact ⟨by simp,Ju E⟩
  ·have:=List.all_eq_true.1 hc _ (D6 hE)
   simp only [Bool.and_eq_true,Bool.not_eq_true'] at this
   exact ⟨FO.1 this.1,this.2⟩
 refine ⟨λ t ht=>?_,λ i E hE=>?_⟩
 ·rw [Gk,if_neg (λ e=>ht (hd t e)),h.1 t ht]
 ·obtain ⟨c1,c2⟩:=hc i E hE
  rcases h.2 i E hE with ⟨h2,E',h3⟩|h2
  ·left
   refine ⟨h2,?_⟩
   rw [Jv,h3]
   cases lkp e.upd i with
   | none=>exact ⟨_,rfl⟩
   | some E2=>exact ⟨_,rfl⟩
  ·right
   rw [Jv,h2]
   have:lkp e.upd i=none:=by
    cases hl:lkp e.upd i with
    | none=>rfl
    | some E'=>exact absurd (List.mem_map.2 ⟨_,D6 hl,rfl⟩) c1
   rw [this]
   simp [FP,c2]
theorem Ir {A:List (List Nat)} {us:List Nat} {i:Nat} {U:List Nat} {D:Nat->Bool} (h1:∀ k,anc A i k=true->D k=true) (h2:D i=false) (h3:∀ k,D k=true->anc A k i=false):∀ (tr:Tr) (k:Nat) (V S:St),
  (∀ q o e,tr[q]?=some (o,e)->D (k+q)=true->anc A i (k+q)=false->∀ t,o.dst=some t->t ∈ U)->Jt A us i tr k V=true->Vis U V S->Vis U (H8 us (anc A i) tr k V) (fold D tr k S)
 | [],k,V,S,_,_,h=>h
 | (o,e)::r,k,V,S,hU,hc,h=>by
  have hU' : ∀ q o e,r[q]?=some (o,e)->D (k+1+q)=true->anc A i (k+1+q)=false->∀ t,o.dst=some t->t ∈ U:=λ q o e hq=>by
   have:=hU (q+1) o e (by simpa using hq)
   rwa [show k+(q+1)=k+1+q by omega] at this
  simp only [fold,H8]
  simp only [Jt] at hc
  cases ha:anc A i k with
  | true=>
   rw [ha] at hc
   rw [h1 k ha]
   exact Ir h1 h2 h3 r (k+1) _ _ hU' hc ((h.both _ _).hid _)
  | false=>
   rw [ha] at hc
   simp only [Bool.and_eq_true] at hc
   cases hD:D k with
   | false=>exact Ir h1 h2 h3 r (k+1) _ _ hU' hc.2 h
   | true=>
    have hki:(Nat.beq k i || anc A k i)=false:=by
     have e1:Nat.beq k i=false:=by
      cases he:Nat.beq k i with
      | false=>rfl
      | true=>have:=Nat.eq_of_beq_eq_true he;subst this;rw [h2] at hD;cases hD
     rw [e1,h3 k hD];rfl
    rw [hki] at hc
    exact Ir h1 h2 h3 r (k+1) _ _ hU' hc.2 (h.other (hU 0 o e (by simp) (by simpa using hD) (by simpa using ha)) hc.1)
def Eqv (X Y:St):Prop:=(∀ t,lkp X.tm t=lkp Y.tm t)/\∀ i,lkp X.en i=lkp Y.en i
theorem Eqv.refl (X:St):Eqv X X:=⟨λ _=>rfl,λ _=>rfl⟩
theorem Eqv.trans {X Y Z:St} (h:Eqv X Y) (k:Eqv Y Z):Eqv X Z:=⟨λ t=>(h.1 t).trans (k.1 t),λ i=>(h.2 i).trans (k.2 i)⟩
theorem Eqv.app {X Y:St} (h:Eqv X Y) (dst:Option Tmp) (e:Eff):Eqv (X.app dst e) (Y.app dst e):=
 ⟨λ t=>by rw [Gk,Gk,h.1],λ i=>by rw [Jv,Jv,h.2]⟩
theorem Eqv.fold {D:Nat->Bool} : ∀ (tr:Tr) (k:Nat) {X Y:St},Eqv X Y->Eqv (fold D tr k X) (fold D tr k Y)
 | [],_,_,_,h=>h
 | (o,e)::r,k,X,Y,h=>by
  simp only [Go.Proofs.YtkffpiaagjcmpaaGreat.fold]
  cases D k with
  | true=>exact Eqv.fold r (k+1) (h.app _ _)
  | false=>exact Eqv.fold r (k+1) h
theorem Sc (u v:List Nat) (E:En):FP u (FP v E)=FP v (FP u E):=by
 unfold FP
 cases h1:En.hangs u E <;> cases h2:En.hangs v E <;> simp [h1,h2] <;> simp [En.hangs]
theorem XD {x y:Oper×Eff} (h:IM x y=true) (X:St):Eqv ((X.app x.1.dst x.2).app y.1.dst y.2) ((X.app y.1.dst y.2).app x.1.dst x.2):=by
 simp only [IM,Bool.and_eq_true,Bool.not_eq_true'] at h
 obtain ⟨⟨⟨h1,h2⟩,h3⟩,h4⟩:=h
 have hdj:∀ i,i ∈ x.2.us->i ∉ y.2.us:=λ i hi=>by
  have:=List.all_eq_true.1 h2 i hi
  exact FO.1 (by simpa using this)
 refine ⟨λ t=>?_,λ i=>?_⟩
 ·simp only [Gk]
  unfold AAn at h1
  by_cases hx:x.1.dst=some t
  ·by_cases hy:y.1.dst=some t
   ·rw [hx,hy] at h1;simp at h1
   ·simp [hx,hy]
  ·simp [hx]
 ·simp only [Jv]
  cases hx:lkp x.2.upd i with
  | some E=>
   have hmx:i ∈ x.2.us:=List.mem_map.2 ⟨_,D6 hx,rfl⟩
   have hy:lkp y.2.upd i=none:=by
    cases hy:lkp y.2.upd i with
    | none=>rfl
    | some E'=>exact absurd (List.mem_map.2 ⟨_,D6 hy,rfl⟩) (hdj i hmx)
   have hh:En.hangs y.2.us E=false:=by
    have:=List.any_eq_false.1 h3 _ (D6 hx)
    simpa using this
   simp [hy,FP,hh]
  | none=>
   cases hy:lkp y.2.upd i with
   | some E=>
    have hh:En.hangs x.2.us E=false:=by
     have:=List.any_eq_false.1 h4 _ (D6 hy)
     simpa using this
    simp [FP,hh]
   | none=>
    simp only [Option.none_or]
    cases lkp X.en i with
    | none=>rfl
    | some E=>simp only [Option.map_some];rw [Sc]
theorem O3 {a b:Nat} (h:a≠b):Nat.beq a b=false:=by
 cases hb:Nat.beq a b with
 | false=>rfl
 | true=>exact absurd (Nat.eq_of_beq_eq_true hb) h
theorem Jw {D:Nat->Bool} {x:Oper×Eff} : ∀ (tr:Tr) (k:Nat) (X:St),(∀ q y,tr[q]?=some y->D (k+q)=true->IM x y=true)->Eqv (fold D tr k (X.app x.1.dst x.2)) ((fold D tr k X).app x.1.dst x.2)
 | [],_,X,_=>Eqv.refl _
 | (o,e)::r,k,X,h=>by
  have h' : ∀ q y,r[q]?=some y->D (k+1+q)=true->IM x y=true:=λ q y hq hD=>h (q+1) y (by simpa using hq) (by rwa [show k+(q+1)=k+1+q by omega])
  simp only [fold]
  cases hD:D k with
  | true=>
   have:=XD (h 0 (o,e) (by simp) (by simpa using hD)) X
   exact (Eqv.fold r (k+1) this).trans (Jw r (k+1) _ h')
  | false=>exact Jw r (k+1) X h'
theorem Nz {D D' : Nat->Bool} {i:Nat} {x:Oper×Eff} (hi:D i=false) (hD:∀ k,D' k=(D k || Nat.beq k i)):∀ (tr:Tr) (k:Nat) (X:St),k<=i->tr[i-k]?=some x->(∀ q y,tr[q]?=some y->i<k+q->D (k+q)=true->IM x y=true) ->
  Eqv (fold D' tr k X) ((fold D tr k X).app x.1.dst x.2)
 | [],k,X,_,hx,_=>by simp at hx
 | (o,e)::r,k,X,hk,hx,h=>by
  simp only [fold]
  by_cases hki:k=i
  ·subst hki
   simp at hx
   subst hx
   have e1:D' k=true:=by rw [hD];simp
   rw [e1,hi]
   have e2:∀ (r:Tr) (k' : Nat) (X:St),k<k'->fold D' r k' X=fold D r k' X:=by
    intro r
    induction r with
    | nil=>intro k' X _;rfl
    | cons y r ih=>
     intro k' X hk'
     obtain ⟨o',e'⟩:=y
     have:D' k'=D k':=by rw [hD,O3 (by omega),Bool.or_false]
     simp only [fold,this,ih (k' + 1) _ (by omega)]
   rw [e2 r (k+1) _ (by omega)]
   exact Jw r (k+1) X λ q y hq hDq=>h (q+1) y (by simpa using hq) (by omega) (by rwa [show k+(q+1)=k+1+q by omega])
  ·have e1:D' k=D k:=by rw [hD,O3 hki,Bool.or_false]
   rw [e1]
   exact Nz hi hD r (k+1) _ (by omega) (by rw [show i-k=(i-(k+1))+1 by omega] at hx;simpa using hx) λ q y hq hlt hDq=>h (q+1) y (by simpa using hq) (by omega) (by rwa [show k+(q+1)=k+1+q by omega])
theorem Is {us:List Nat} {D:Nat->Bool} : ∀ (tr tr' : Tr) (k:Nat) (X:St),(∀ q,k+tr.length<=q->D q=false)->H8 us D (tr++tr') k X=H8 us D tr k X
 | [],tr',k,X,h=>by
  simp only [List.nil_append,H8]
  induction tr' generalizing k X with
  | nil=>rfl
  | cons y r ih=>
   obtain ⟨o,e⟩:=y
   simp only [H8,h k (by simp)]
   exact ih (k+1) X (λ q hq=>h q (by simp at hq ⊢;omega))
 | (o,e)::r,tr',k,X,h=>by
  simp only [List.cons_append,H8]
  exact Is r tr' (k+1) _ λ q hq=>h q (by simp at hq ⊢;omega)
end Go.Proofs.YtkffpiaagjcmpaaGreat
namespace Go.Proofs.YtkffpiaagjcmpaaGreat
set_option linter.unusedVariables false
set_option linter.unusedSimpArgs false
open Go.RowKit
theorem Kh {tr:Tr} {j:Nat} {b want:Bool} (h:Qd tr j=some b) (e:b=want):Js tr j (T.ofV (.bool want))=tr:=by
 subst e
 unfold Qd at h
 unfold Js
 split at h
 ·rename_i o b' u hj
  simp only [Option.some.injEq] at h
  subst h
  rw [hj]
  simp only
  have hl:=(List.getElem?_eq_some_iff.1 hj)
  obtain ⟨h1,h2⟩:=hl
  have e3:(o,({ val:=T.ofV (.bool b'),upd:=u } : Eff))=tr[j]:=h2.symm
  rw [e3,List.set_getElem_self]
 ·cases h
theorem Qf {tr suf:Tr} {j:Nat} {b:Bool} (h:Qd tr j=some b):Qd (tr++suf) j=some b:=by
 unfold Qd at h ⊢
 split at h
 ·rename_i o b' u hj
  rw [List.getElem?_append_left (List.getElem?_eq_some_iff.1 hj).1,hj]
  exact h
 ·cases h
theorem XF {tr suf:Tr} {j:Nat} (h:VO tr j=true):VO (tr++suf) j=true:=by
 unfold VO at h ⊢
 split at h
 ·rename_i o b' u hj
  rw [List.getElem?_append_left (List.getElem?_eq_some_iff.1 hj).1,hj]
 ·cases h
def XG (tt:TT) (ct:CTs) (hints:List Nat) (n:Nat) (all:List Oper) (A:List (List Nat)) (s0:St) (nx:Nat) (TR:Tr) (i:Nat):Prop:=
 ∃ o e lit,TR[i]?=some (o,e)/\all[i]?=some o/\Kd n o=true /\
  match o.guard with
  | none=>xop tt ct hints o (GR A all s0 TR i lit) (nx+32*i) (·=e)
  | some (j,want)=>anc A i j=true/\∃ t,Ci all j=some t/\((VO TR j=true/\e=Kf)∨∃ b,Qd TR j=some b/\((b=want/\xop tt ct hints o (GR A all s0 TR i lit) (nx+32*i) (·=e))∨(b≠want/\e=Kf)))
theorem EX {A:List (List Nat)} : ∀ {l:List Oper} {k i:Nat} {o:Oper},Gj A l k=true->l[i]?=some o ->
  (∀ j ∈ MB o,j<k+i/\anc A (k+i) j=true/\∀ q,anc A j q=true->anc A (k+i) q=true)/\(∀ q,anc A (k+i) q=true->q<k+i/\∃ j ∈ MB o,j=q∨anc A j q=true)
 | [],_,_,_,_,h=>by simp at h
 | o0::r,k,0,o,hc,h=>by
  simp at h
  subst h
  simp only [Gj,Bool.and_eq_true] at hc
  obtain ⟨⟨h1,h2⟩,-⟩:=hc
  refine ⟨λ j hj=>?_,λ q hq=>?_⟩
  ·have:=List.all_eq_true.1 h1 j hj
   simp only [Bool.and_eq_true,Nat.ble_eq] at this
   exact ⟨by omega,this.1.2,λ q hq=>List.all_eq_true.1 this.2 q (mem_iff.1 hq)⟩
  ·have:=List.all_eq_true.1 h2 q (mem_iff.1 hq)
   simp only [Bool.and_eq_true,Nat.ble_eq] at this
   obtain ⟨j,hj,e⟩:=List.any_eq_true.1 this.2
   simp only [Bool.or_eq_true,Nat.beq_eq] at e
   exact ⟨by omega,j,hj,e⟩
 | o0::r,k,i+1,o,hc,h=>by
  simp only [Gj,Bool.and_eq_true] at hc
  have:=EX (i:=i) hc.2 (by simpa using h)
  rwa [show k+1+i=k+(i+1) by omega] at this
theorem Ki {tt : TT} {ct : CTs} {hints : List Nat} {n : Nat} {all : List Oper} {A : List (List Nat)} {s0 : St} {nx : Nat} (hdet : ∀ f c, (f, c) ∈ ct → c.alt = none) (hA : Gj A all 0 = true) : ∀ (r : List Oper) (i : Nat) (tr : Tr) (lit : List Nat) (q : Tr → List Nat → Prop),
    Iq tt ct hints n all A s0 nx r i tr lit q → tr.length = i → (∀ k, r[k]? = all[i + k]?) → ∃ suf lit', q (tr ++ suf) lit' ∧ suf.length = r.length ∧ ∀ k, k < r.length → XG tt ct hints n all A s0 nx (tr ++ suf) (i + k)
  | [], i, tr, lit, q, h, _, _ => ⟨[], lit, by simpa [Iq] using h, rfl, by simp⟩
  | o :: r, i, tr, lit, q, h, hl, hall => by
    have ho : all[i]? = some o := by simpa using (hall 0).symm
    have hall' : ∀ k, r[k]? = all[i + 1 + k]? := fun k => by
      have := hall (k + 1)
      simpa [show i + (k + 1) = i + 1 + k by omega] using this
    have hfr : ∀ q, i ≤ q → anc A i q = false := fun q hq => by
      cases ha : anc A i q with
      | false => rfl
      | true =>
        have := ((EX hA ho).2 q (by simpa using ha)).1
        omega
    have hvis : ∀ (e : Eff) (suf : Tr) (lit : List Nat), GR A all s0 (tr ++ [(o, e)] ++ suf) i lit = GR A all s0 tr i lit := fun e suf lit => by
      unfold GR
      rw [List.append_assoc, Is tr _ 0 _ (fun q hq => hfr q (by omega))]
    -- one way on
    have go : ∀ (e : Eff) (lit1 : List Nat), Iq tt ct hints n all A s0 nx r (i + 1) (tr ++ [(o, e)]) lit1 q → (∀ suf, XG tt ct hints n all A s0 nx (tr ++ [(o, e)] ++ suf) i) →
        ∃ suf lit', q (tr ++ suf) lit' ∧ suf.length = (o :: r).length ∧ ∀ k, k < (o :: r).length → XG tt ct hints n all A s0 nx (tr ++ suf) (i + k) := by
      intro e lit1 hx hop
      obtain ⟨suf, lit', q1, q2, q3⟩ := Ki hdet hA r (i + 1) _ _ q hx (by simp [hl]) hall'
      refine ⟨(o, e) :: suf, lit', by simpa using q1, by simp [q2], fun k hk => ?_⟩
      cases k with
      | zero => simpa using hop suf
      | succ k => simpa [show i + (k + 1) = i + 1 + k by omega] using q3 k (by simpa using hk)
    have hget : ∀ (e : Eff) (suf : Tr), (tr ++ [(o, e)] ++ suf)[i]? = some (o, e) := fun e suf => by
      rw [List.append_assoc, List.getElem?_append_right (by omega)]
      simp [hl]
    simp only [Iq] at h
    split at h
    · exact h.elim
    · rename_i hd
      split at h
      · rename_i hg
        obtain ⟨e, he1, he2⟩ := UB hdet h
        refine go e _ he1 fun suf => ⟨o, e, lit, hget e suf, ho, hd, ?_⟩
        rw [hg]
        simp only
        rw [hvis]; exact he2
      · rename_i j want hg
        split at h
        · rename_i t b ha ht hv
          obtain ⟨g1, g2⟩ := EW h
          by_cases hbw : b = want
          · have hx := g1 (by subst hbw; cases b <;> rfl)
            rw [Kh hv hbw] at hx
            obtain ⟨e, he1, he2⟩ := UB hdet hx
            refine go e _ he1 fun suf => ⟨o, e, t :: lit, hget e suf, ho, hd, ?_⟩
            rw [hg]
            simp only
            refine ⟨ha, t, ht, .inr ⟨b, ?_, .inl ⟨hbw, by rw [hvis]; exact he2⟩⟩⟩
            rw [List.append_assoc]; exact Qf hv
          · have hbw' : b = !want := by cases b <;> cases want <;> simp at hbw ⊢
            have hx := g2 (by subst hbw'; cases want <;> rfl)
            rw [Kh hv hbw'] at hx
            refine go Kf _ hx fun suf => ⟨o, Kf, lit, hget _ suf, ho, hd, ?_⟩
            rw [hg]
            simp only
            refine ⟨ha, t, ht, .inr ⟨b, ?_, .inr ⟨hbw, trivial⟩⟩⟩
            rw [List.append_assoc]; exact Qf hv
        · rename_i t ha ht hv
          split at h
          · rename_i hu
            refine go Kf _ h fun suf => ⟨o, Kf, lit, hget _ suf, ho, hd, ?_⟩
            rw [hg]
            simp only
            refine ⟨ha, t, ht, .inl ⟨?_, trivial⟩⟩
            rw [List.append_assoc]; exact XF hu
          · exact h.elim
        · exact h.elim
theorem IN {α:Type} {p:Nat->Bool} : ∀ {l:List (Nat×α)} {t:Nat} {v:α},lkp (l.filter λ x=>p x.1) t=some v->p t=true/\lkp l t=some v
 | [],t,v,h=>by simp [lkp] at h
 | (i,x)::r,t,v,h=>by
  rw [List.filter_cons] at h
  split at h
  ·rename_i hp
   rw [AR] at h ⊢
   split at h
   ·rename_i e;subst e;rw [if_pos rfl];exact ⟨hp,h⟩
   ·rename_i e;rw [if_neg e];exact IN h
  ·rename_i hp
   obtain ⟨h1,h2⟩:=IN h
   refine ⟨h1,?_⟩
   rw [AR,if_neg]
   ·exact h2
   ·intro e;subst e;exact hp h1
theorem MC {A:List (List Nat)} {i:Nat} : ∀ {l:List Oper} {k q:Nat} {o:Oper} {t:Nat},l[q]?=some o->o.dst=some t->k+q≠i->anc A i (k+q)=false->anc A (k+q) i=false->t ∈ IL A i l k
 | [],_,_,_,_,h,_,_,_,_=>by simp at h
 | o0::r,k,0,o,t,h,ht,h1,h2,h3=>by
  simp at h
  subst h
  simp only [IL]
  simp only [Nat.add_zero] at h1 h2 h3
  rw [h2,h3,O3 h1]
  exact List.mem_append.2 (.inl (by simp [ht]))
 | o0::r,k,q+1,o,t,h,ht,h1,h2,h3=>by
  simp only [IL]
  refine List.mem_append.2 (.inr (MC (q:=q) (by simpa using h) ht ?_ ?_ ?_)) <;> rw [show k+1+q=k+(q+1) by omega] <;> assumption
theorem MD {D:Nat->Bool} : ∀ {tr:Tr} {k q:Nat} {X:St} {o:Oper} {e:Eff} {t:Nat},(FF (tr.map (·.1))).Nodup->tr[q]?=some (o,e)->o.dst=some t->D (k+q)=true->lkp (fold D tr k X).tm t=some e.val
 | [],_,_,_,_,_,_,_,h,_,_=>by simp at h
 | (o0,e0)::r,k,0,X,o,e,t,hn,h,ht,hD=>by
  simp at h
  obtain ⟨rfl,rfl⟩:=h
  simp only [fold]
  rw [show D k=true by simpa using hD]
  simp only [List.map_cons,FF,ht,Option.toList_some,List.singleton_append,List.nodup_cons] at hn
  have key:∀ (r:Tr) (k:Nat) (Y:St),t ∉ FF (r.map (·.1))->lkp (fold D r k Y).tm t=lkp Y.tm t:=by
   intro r
   induction r with
   | nil=>intro k Y _;rfl
   | cons y r ih=>
    intro k Y hn
    obtain ⟨o',e'⟩:=y
    simp only [List.map_cons,FF,List.mem_append,not_or] at hn
    simp only [fold]
    rw [ih (k+1) _ hn.2]
    cases D k with
    | false=>rfl
    | true=>simp only;rw [Gk,if_neg (λ e=>hn.1 (by simp [e]))]
  rw [key r (k+1) _ hn.1,Gk,if_pos ht]
 | (o0,e0)::r,k,q+1,X,o,e,t,hn,h,ht,hD=>by
  simp only [fold]
  simp only [List.map_cons,FF] at hn
  exact MD (q:=q) (List.nodup_append.1 hn).2.1 (by simpa using h) ht (by rwa [show k+1+q=k+(q+1) by omega])
theorem Gl {A:List (List Nat)} {s0:St} {TR:Tr} : ∀ {l:Tr} {k i:Nat} {x:Oper×Eff},Fm A s0 TR l k=true->l[i]?=some x->Jt A (Ip A s0 (k+i) (TR.map (·.1)) 0) (k+i) TR 0 (Fl (Ip A s0 (k+i) (TR.map (·.1)) 0) s0)=true/\Hb A (k+i) x TR 0=true
 | [],_,_,_,_,h=>by simp at h
 | x0::r,k,0,x,hc,h=>by
  simp at h
  subst h
  simp only [Fm,Bool.and_eq_true] at hc
  exact hc.1
 | x0::r,k,i+1,x,hc,h=>by
  simp only [Fm,Bool.and_eq_true] at hc
  have:=Gl (i:=i) hc.2 (by simpa using h)
  rwa [show k+1+i=k+(i+1) by omega] at this
theorem Kj {A:List (List Nat)} {i:Nat} {x:Oper×Eff} : ∀ {l:Tr} {k q:Nat} {y:Oper×Eff},Hb A i x l k=true->l[q]?=some y->i<k+q->anc A i (k+q)=false->anc A (k+q) i=false->IM x y=true
 | [],_,_,_,_,h,_,_,_=>by simp at h
 | y0::r,k,0,y,hc,h,h1,h2,h3=>by
  simp at h
  subst h
  simp only [Hb,Bool.and_eq_true,Bool.or_eq_true,Nat.ble_eq] at hc
  simp only [Nat.add_zero] at h1 h2 h3
  rw [h3] at hc
  rcases hc.1 with (h|h)|h
  ·omega
  ·cases h
  ·exact h
 | y0::r,k,q+1,y,hc,h,h1,h2,h3=>by
  simp only [Hb,Bool.and_eq_true] at hc
  refine Kj (q:=q) hc.2 (by simpa using h) ?_ ?_ ?_ <;> rw [show k+1+q=k+(q+1) by omega] <;> assumption
section
variable {P : Program} {tt : TT} {ct : CTs} {Γ : Env} {n : Nat} {w0 : World} {s : St} {m : Maps} {a : Act} {w : World} {nx : Nat}
theorem R.drew {al:Nat->Prop} (h:R Γ n w0 al s m a w):R Γ n w0 al s m a { w with drawn:=w.drawn+1 } where
 size:=h.size
 defers:=h.defers
 old:=h.old
 below:=h.below.drew
 tm:=h.tm
 en:=λ i E hE=>by
  obtain ⟨h1,h2,h3⟩:=h.en i E hE
  exact ⟨h1.keep (S:=al) (us:=[]) h2 h3 (λ _ _=>⟨rfl,rfl⟩) (by simp) (by simp) (Ju E) (Nat.le_refl _) (λ _ _ _=>rfl) (λ _ _ _=>rfl),h2,h3⟩
 pos:=h.pos
 st:=h.st
 gh:=h.gh
def alD (nx N:Nat) (D:Nat->Bool) (i:Nat):Prop:=alN nx i∨∃ j,j<N/\D j=true/\nx+32*j<=i/\i<nx+32*j+32
def BF (listed:Array Bool) (k:Nat):Bool:=listed.getD k false
theorem VP (hT:TTok P tt) (hct:CTok P ct Γ.mono) {hints:List Nat} {ops:Array Oper} {A:List (List Nat)} {TR:Tr} (hA:Gj A ops.toList 0=true) (hN:(FF ops.toList).Nodup) (hTR:TR.map (·.1)=ops.toList) (h0:0<nx)
  (hok:∀ i,i<ops.size->XG tt ct hints n ops.toList A s nx TR i) (hck:Fm A s TR TR 0=true) {D D' : Nat->Bool} {i:Nat} (hi:i<ops.size) (hDi:D i=false) (hD' : ∀ k,D' k=(D k || Nat.beq k i))
  (hcl:∀ k,D k=true->∀ q,anc A k q=true->D q=true) (hanc:∀ q,anc A i q=true->D q=true) (hDN:∀ k,D k=true->k<ops.size) (h:R Γ n w0 (alD nx ops.size D) (fold D TR 0 s) m a w) {Q:Exit->Act->World->Prop} :
  wpOp P ops Q i (λ a' w'=>∃ m',R Γ n w0 (alD nx ops.size D') (fold D' TR 0 s) m' a' w') a w:=by
 obtain ⟨o,e,lit,hTi,hoi,hd,hrest⟩:=hok i hi
 have hoi' : ops[i]?=some o:=by simpa using hoi
 have hlen:TR.length=ops.size:=by have:=congrArg List.length hTR;simpa using this
 obtain ⟨hvc,hcc⟩:=Gl hck hTi
 simp only [Nat.zero_add] at hvc hcc
 have hnanc:∀ k,D k=true->anc A k i=false:=λ k hk=>by
  cases ha:anc A k i with
  | false=>rfl
  | true=>have:=hcl k hk i ha;rw [hDi] at this;cases this
 have hdst:∀ {q:Nat} {o' : Oper} {e' : Eff},TR[q]?=some (o',e')->ops.toList[q]?=some o':=λ {q o' e'} hq=>by
  rw [← hTR,List.getElem?_map,hq];rfl
 -- the small state lies in the big one
 rw [hTR] at hvc
 have hvis:Vis (IL A i ops.toList 0) (H8 (Ip A s i ops.toList 0) (anc A i) TR 0 (Fl (Ip A s i ops.toList 0) s)) (fold D TR 0 s):=by
  refine Ir (D:=D) hanc hDi hnanc TR 0 (Fl (Ip A s i ops.toList 0) s) s (λ q o' e' hq hDq hna t ht=>?_) hvc (Vis.hide _ _ _)
  simp only [Nat.zero_add] at hDq hna
  refine MC (hdst hq) ht ?_ ?_ ?_ <;> simp only [Nat.zero_add]
  ·intro e;subst e;rw [hDi] at hDq;cases hDq
  ·exact hna
  ·exact hnanc q hDq
 have hsmall:∀ lit,R Γ n w0 (alD nx ops.size D) (GR A ops.toList s TR i lit) m a w:=λ lit=>by
  refine h.less ?_ ?_
  ·intro t v hv
   simp only [GR,XB] at hv
   obtain ⟨p1,p2⟩:=IN (p:=λ t=>!(mem (IL A i ops.toList 0) t)) hv
   rw [← hvis.1 t (FO.1 (by simpa using p1))];exact p2
  ·intro j E hE
   rcases hvis.2 j E hE with ⟨h1,E',h2⟩|h1
   ·exact .inl ⟨h1,(h.en _ _ h2).2.1⟩
   ·exact .inr h1
 have hend:∀ (e:Eff) (m' : Maps) (a' : Act) (w' : World),TR[i]?=some (o,e)->Stp Γ (alD nx ops.size D) (λ j=>nx+32*i<=j/\j<nx+32*i+32) o.dst m a w e m' a' w'->∃ m',R Γ n w0 (alD nx ops.size D') (fold D' TR 0 s) m' a' w':=by
  intro e m' a' w' hTi' hs
  have hr:=Stp.r h hs (by omega) (L9 hd)
  have heq:=Nz (D:=D) (D':=D') (i:=i) (x:=(o,e)) hDi hD' TR 0 s (Nat.zero_le _) (by simpa using hTi') (λ q y hq hlt hDq=>by
   simp only [Nat.zero_add] at hlt hDq
   have hcc':=(Gl hck hTi').2
   simp only [Nat.zero_add] at hcc'
   exact Kj hcc' hq (by omega) (by
    cases ha:anc A i (0+q) with
    | false=>rfl
    | true=>
     have:=((EX hA hoi).2 (0+q) (by simpa using ha)).1
     omega) (by simpa using hnanc q hDq))
  refine ⟨m',(hr.more (al':=alD nx ops.size D') ?_ ?_).less (λ t v hv=>by rw [← heq.1];exact hv) (λ j E hE=>.inr (by rw [← heq.2];exact hE))⟩
  ·intro j hj
   rcases hj with (hj|⟨k,h1,h2,h3⟩)|hj
   ·exact .inl hj
   ·exact .inr ⟨k,h1,by rw [hD',h2];rfl,h3⟩
   ·exact .inr ⟨i,hi,by rw [hD'];simp,hj⟩
  ·rintro (hj|⟨k,_,_,h3,_⟩)
   ·exact absurd hj.1 (by omega)
   ·omega
 have hal:∀ j,alD nx ops.size D j->¬ (nx+32*i<=j/\j<nx+32*i+32):=by
  rintro j (hj|⟨k,h1,h2,h3,h4⟩) hx
  ·have:=hj.2;omega
  ·have:k=i:=by omega
   subst this;rw [hDi] at h2;cases h2
 have hrun:∀ lit,xop tt ct hints o (GR A ops.toList s TR i lit) (nx+32*i) (·=e)->o.wp P a w (λ a' w'=>∃ m',R Γ n w0 (alD nx ops.size D') (fold D' TR 0 s) m' a' w') Q:=λ lit hx=>by
  have hs:=W5 (o:=o) (fr:=λ j=>nx+32*i<=j/\j<nx+32*i+32) hT hct (hsmall lit) hints hal (λ j h1 h2=>⟨h1,h2⟩) _ hx Q
  refine Oper.wp_mono ?_ hs
  rintro a' w' ⟨e',m',rfl,hstp⟩
  exact hend _ m' a' w' hTi hstp
 unfold wpOp
 simp only [hoi']
 cases hg:o.guard with
 | none=>
  rw [hg] at hrest
  rw [if_pos (by simp [Region.wanted,hg])]
  exact .inl (hrun lit hrest)
 | some jw=>
  obtain ⟨j,want⟩:=jw
  rw [hg] at hrest
  obtain ⟨ha,t,ht,hrest⟩:=hrest
  have hDj:=hanc j ha
  rcases hrest with ⟨hu,rfl⟩|⟨b,hv,hcase⟩
  ·have hbv:∃ x,a.tmps.getD t undef=.tuple x:=by
    unfold VO at hu
    split at hu
    ·rename_i oj x u hj
     have hdj:oj.dst=some t:=by
      unfold Ci at ht
      rw [hdst hj] at ht
      simpa using ht
     have:=MD (D:=D) (k:=0) (X:=s) (by rw [hTR];exact hN) hj hdj (by simpa using hDj)
     exact ⟨x,(h.tm _ _ this).1⟩
    ·cases hu
   obtain ⟨x,hbv⟩:=hbv
   rw [IJ rfl hg ht hbv]
   simp only [Bool.false_eq_true,if_false]
   exact hend _ m _ _ hTi (Stp.skip h)
  have hbv:a.tmps.getD t undef=.bool b:=by
   unfold Qd at hv
   split at hv
   ·rename_i oj b' u hj
    simp only [Option.some.injEq] at hv
    subst hv
    have hdj:oj.dst=some t:=by
     unfold Ci at ht
     rw [hdst hj] at ht
     simpa using ht
    have:=MD (D:=D) (k:=0) (X:=s) (by rw [hTR];exact hN) hj hdj (by simpa using hDj)
    exact (h.tm _ _ this).1
   ·cases hv
  rw [Jr rfl hg ht hbv]
  rcases hcase with ⟨hbw,hx⟩|⟨hbw,rfl⟩
  ·subst hbw
   simp only [beq_self_eq_true,if_true]
   exact .inl (hrun lit hx)
  ·have hne:(b == want)=false:=by simpa using hbw
   rw [hne]
   simp only [Bool.false_eq_true,if_false]
   exact hend _ m _ _ hTi (Stp.skip h)
end
end Go.Proofs.YtkffpiaagjcmpaaGreat
namespace Go.Proofs.YtkffpiaagjcmpaaGreat
set_option linter.unusedVariables false
set_option linter.unusedSimpArgs false
open Go.RowKit
def cnt (l:List Bool):Nat:=(l.filter (!·)).length
theorem UC:∀ {l:List Bool} {i:Nat},l[i]?=some false->cnt (l.set i true)+1=cnt l
 | [],_,h=>by simp at h
 | x::r,0,h=>by simp at h;subst h;simp [cnt]
 | x::r,i+1,h=>by
  have:=UC (l:=r) (i:=i) (by simpa using h)
  cases x <;> simp [cnt] at this ⊢ <;> omega
theorem UD:∀ {l:List Bool} {i:Nat},l[i]?=some false->0<cnt l
 | [],_,h=>by simp at h
 | x::r,0,h=>by simp at h;subst h;simp [cnt]
 | x::r,i+1,h=>by
  have:=UD (l:=r) (i:=i) (by simpa using h)
  cases x <;> simp [cnt] at this ⊢ <;> omega
section
variable {P : Program} {tt : TT} {ct : CTs} {Γ : Env} {n : Nat} {w0 : World} {s : St} {m : Maps} {a : Act} {w : World} {nx : Nat}
theorem N0 {ops:Array Oper} {listed:Array Bool} (hs:listed.size=ops.size) {i:Nat} (h:i ∈ Region.ready .any ops listed) :
  i<ops.size/\BF listed i=false/\∀ o,ops[i]?=some o->∀ j ∈ MB o,BF listed j=true:=by
 simp only [Region.ready,List.mem_filter,List.mem_range,Bool.and_eq_true,Bool.not_eq_true'] at h
 obtain ⟨h1,h2,h3⟩:=h
 refine ⟨h1,?_,λ o ho j hj=>?_⟩
 ·unfold BF
  rw [Array.getD_eq_getD_getElem?] at h2 ⊢
  rw [Array.getElem?_eq_getElem (by omega)] at h2 ⊢
  simpa using h2
 ·rw [ho] at h3
  simp only [Option.map_some,Option.getD_some] at h3
  obtain ⟨e,he,rfl⟩:=List.mem_map.1 hj
  obtain ⟨he1,he2⟩:=List.mem_filter.1 he
  have:=Array.all_eq_true_iff_forall_mem.1 h3 e (by simpa using he1)
  simp only [Bool.or_eq_true,Bool.not_eq_true'] at this
  rcases this with h|h
  ·rw [he2] at h;cases h
  ·exact h
theorem XH {ops:Array Oper} {listed:Array Bool} (hs:listed.size=ops.size) {i:Nat} {o:Oper} (hi:ops[i]?=some o) (hd:BF listed i=false) (h:∀ j ∈ MB o,BF listed j=true):i ∈ Region.ready .any ops listed:=by
 have hlt:i<ops.size:=(Array.getElem?_eq_some_iff.1 hi).1
 simp only [Region.ready,List.mem_filter,List.mem_range,Bool.and_eq_true,Bool.not_eq_true']
 refine ⟨hlt,?_,?_⟩
 ·unfold BF at hd
  rw [Array.getD_eq_getD_getElem?] at hd ⊢
  rw [Array.getElem?_eq_getElem (by omega)] at hd ⊢
  simpa using hd
 ·rw [hi]
  simp only [Option.map_some,Option.getD_some]
  refine Array.all_eq_true_iff_forall_mem.2 λ e he=>?_
  simp only [Bool.or_eq_true,Bool.not_eq_true']
  cases hb:Region.binds .any e with
  | false=>exact .inl rfl
  | true=>exact .inr (h _ (List.mem_map.2 ⟨e,List.mem_filter.2 ⟨by simpa using he,hb⟩,rfl⟩))
theorem XI (hT:TTok P tt) (hct:CTok P ct Γ.mono) {hints:List Nat} {ops:Array Oper} {A:List (List Nat)} {TR:Tr} (hA:Gj A ops.toList 0=true) (hN:(FF ops.toList).Nodup) (hTR:TR.map (·.1)=ops.toList) (h0:0<nx)
  (hok:∀ i,i<ops.size->XG tt ct hints n ops.toList A s nx TR i) (hck:Fm A s TR TR 0=true) {Q:Exit->Act->World->Prop} (hQ:∀ m a w,R Γ n w0 (alN (nx+32*ops.size)) (fold (λ _=>true) TR 0 s) m a w->Q .normal a w) :
  ∀ (fuel:Nat) (listed:Array Bool) {m:Maps} {a:Act} {w:World},listed.size=ops.size->cnt listed.toList<=fuel->(∀ k,BF listed k=true->∀ q,anc A k q=true->BF listed q=true) ->
   R Γ n w0 (alD nx ops.size (BF listed)) (fold (BF listed) TR 0 s) m a w->wpAny P .any ops Q fuel listed a w:=by
 have hlen:TR.length=ops.size:=by have:=congrArg List.length hTR;simpa using this
 have hfin:∀ (listed:Array Bool) (m:Maps) (a:Act) (w:World),listed.size=ops.size->Region.ready .any ops listed=[]->R Γ n w0 (alD nx ops.size (BF listed)) (fold (BF listed) TR 0 s) m a w->Q .normal a w:=by
  intro listed m a w hs hr h
  have hall:∀ i,i<ops.size->BF listed i=true:=by
   intro i
   induction i using Nat.strongRecOn with
   | _ i ih=>
    intro hi
    cases hd:BF listed i with
    | true=>rfl
    | false=>
     have ho:ops[i]?=some ops[i]:=Array.getElem?_eq_getElem hi
     have:=XH hs ho hd λ j hj=>by
      have hj':=((EX (i:=i) (o:=ops[i]) hA (by rw [Array.getElem?_toList];exact ho)).1 j hj).1
      exact ih j (by omega) (by omega)
     rw [hr] at this
     cases this
  have hf:∀ (tr:Tr) (k:Nat) (X:St),k+tr.length<=ops.size->fold (BF listed) tr k X=fold (λ _=>true) tr k X:=by
   intro tr
   induction tr with
   | nil=>intro k X _;rfl
   | cons y r ih=>
    intro k X hk
    obtain ⟨o,e⟩:=y
    simp only [List.length_cons] at hk
    simp only [fold,hall k (by omega)]
    exact ih (k+1) _ (by omega)
  rw [hf TR 0 s (by omega)] at h
  refine hQ m a w (h.more ?_ ?_)
  ·rintro j (hj|⟨k,h1,_,h3,h4⟩)
   ·unfold alN at *;omega
   ·unfold alN;omega
  ·unfold alN;omega
 intro fuel
 induction fuel with
 | zero=>
  intro listed m a w hs hc hcl h
  have hr:Region.ready .any ops listed=[]:=by
   cases hr:Region.ready .any ops listed with
   | nil=>rfl
   | cons i r=>
    obtain ⟨h1,h2,-⟩:=N0 hs (i:=i) (by rw [hr];simp)
    have:listed.toList[i]?=some false:=by
     unfold BF at h2
     rw [Array.getD_eq_getD_getElem?,Array.getElem?_eq_getElem (by omega)] at h2
     rw [Array.getElem?_toList,Array.getElem?_eq_getElem (by omega)]
     simpa using h2
    have:=UD this
    omega
  exact ⟨hr,hfin listed m a w hs hr h⟩
 | succ fuel ih=>
  intro listed m a w hs hc hcl h
  refine ⟨λ hr=>hfin listed m a w hs hr h,λ i hi=>?_⟩
  obtain ⟨h1,h2,h3⟩:=N0 hs hi
  have ho:ops[i]?=some ops[i]:=Array.getElem?_eq_getElem h1
  have hanc:∀ q,anc A i q=true->BF listed q=true:=λ q hq=>by
   obtain ⟨-,j,hj,e⟩:=(EX (i:=i) (o:=ops[i]) hA (by rw [Array.getElem?_toList];exact ho)).2 q (by simpa using hq)
   have hdj:=h3 _ ho j hj
   rcases e with rfl|e
   ·exact hdj
   ·exact hcl j hdj q e
  have hset:∀ k,BF (listed.setIfInBounds i true) k=(BF listed k || Nat.beq k i):=λ k=>by
   unfold BF
   rw [Array.getD_eq_getD_getElem?,Array.getD_eq_getD_getElem?]
   by_cases hk:k=i
   ·subst hk
    rw [Array.getElem?_setIfInBounds_self_of_lt (by omega)];simp
   ·rw [Array.getElem?_setIfInBounds_ne (λ e=>hk e.symm),O3 hk,Bool.or_false]
  have hDN:∀ k,BF listed k=true->k<ops.size:=λ k hk=>by
   rcases Nat.lt_or_ge k ops.size with h|h
   ·exact h
   ·unfold BF at hk
    rw [Array.getD_eq_getD_getElem?,Array.getElem?_eq_none (by omega)] at hk
    cases hk
  have hstep:=VP (D:=BF listed) (D':=BF (listed.setIfInBounds i true)) (Q:=Q) hT hct hA hN hTR h0 hok hck h1 h2 hset hcl hanc hDN h
  refine wpOp_mono ?_ hstep
  rintro a' w' ⟨m',h'⟩
  refine ih _ (by simp [hs]) ?_ ?_ h'
  ·have:listed.toList[i]?=some false:=by
    unfold BF at h2
    rw [Array.getD_eq_getD_getElem?,Array.getElem?_eq_getElem (by omega)] at h2
    rw [Array.getElem?_toList,Array.getElem?_eq_getElem (by omega)]
    simpa using h2
   have:=UC this
   rw [Array.toList_setIfInBounds]
   omega
  ·intro k hk q hq
   rw [hset,Bool.or_eq_true] at hk ⊢
   rcases hk with hk|hk
   ·exact .inl (hcl k hk q hq)
   ·obtain rfl:=Nat.eq_of_beq_eq_true hk
    exact .inl (hanc q hq)
theorem R.lits {al:Nat->Prop} (h:R Γ n w0 al s m a w) (lit:List Nat):R Γ n w0 al { s with lit:=lit } m a w:=h.eq rfl rfl
theorem It (hm:P.follows .mixedOrders=true) (hT:TTok P tt) (hct:CTok P ct Γ.mono) (hdet:∀ f c,(f,c) ∈ ct->c.alt=none) {hints:List Nat} {id:Nat} {ops:Array Oper} {q:St->Nat->Prop} (hx:O2 tt ct hints n ops.toList s nx q) (h0:0<nx) (h:R Γ n w0 (alN nx) s m a w) {Q:Exit->Act->World->Prop}
  (hQ:∀ s' nx' m' a' w',0<nx'->q s' nx'->R Γ n w0 (alN nx') s' m' a' w'->Q .normal a' w'):(Code.region id ops true).wp P Q a w:=by
 unfold O2 at hx
 split at hx
 ·exact hx.elim
 ·rename_i hc
  simp only [Bool.and_eq_true] at hc
  obtain ⟨hA,hN⟩:=hc
  obtain ⟨TR,lit,hq,hl,hok⟩:=Ki hdet hA _ 0 [] _ _ hx rfl (λ k=>by simp)
  simp only [List.nil_append,Nat.zero_add] at hq hok
  split at hq
  ·exact hq.elim
  ·rename_i hck
   have hTR:TR.map (·.1)=ops.toList:=by
    apply List.ext_getElem?
    intro i
    by_cases hi:i<ops.toList.length
    ·obtain ⟨o,e,lit,h1,h2,-⟩:=hok i hi
     rw [List.getElem?_map,h1,h2];rfl
    ·rw [List.getElem?_eq_none (by simp [hl] at hi ⊢;omega),List.getElem?_eq_none (by omega)]
   refine wp_region_any hm (XI hT hct hA (C1 hN) hTR h0 (λ i hi=>hok i (by simpa using hi)) hck (λ m' a' w' h'=>hQ _ _ m' a' w' (by omega) hq (by rw [Array.length_toList];exact h'.lits lit)) ops.size _ (by simp) ?_ ?_ (m:=m) ?_)
   ·have:∀ l:List Bool,cnt l<=l.length:=λ l=>List.length_filter_le _ _
    exact Nat.le_trans (this _) (by simp)
   ·intro k hk
    exfalso
    unfold BF at hk
    rw [Array.getD_eq_getD_getElem?] at hk
    rw [Array.getElem?_replicate] at hk
    split at hk <;> cases hk
   ·have hf:∀ (tr:Tr) (k:Nat) (X:St),fold (BF (Array.replicate ops.size false)) tr k X=X:=by
     intro tr
     induction tr with
     | nil=>intro k X;rfl
     | cons y r ih=>
      intro k X
      obtain ⟨o,e⟩:=y
      have:BF (Array.replicate ops.size false) k=false:=by
       unfold BF
       rw [Array.getD_eq_getD_getElem?]
       rw [Array.getElem?_replicate]
       split <;> rfl
      simp only [fold,this]
      exact ih _ _
    rw [hf]
    exact h.drew.more (λ i hi=>.inl hi) (by
     rintro (hj|⟨k,_,_,h3,_⟩)
     ·exact absurd hj.1 (by omega)
     ·omega)
end
end Go.Proofs.YtkffpiaagjcmpaaGreat
