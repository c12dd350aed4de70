import Derived.Test.YthoidhehmmcgnaaGreatWtExA
import Derived.Test.YthoidhehmmcgnaaGreatWtBas
import Derived.Laws.Cover3
namespace Go.Proofs.YthoidhehmmcgnaaGreat
set_option linter.unusedVariables false
set_option linter.unusedSimpArgs false
open Go.RowKit
inductive DC where
 |im (v:Value)
 |sl (e:Nat) (ts:List Ty) (rows:List (List Dat))
 |ro (d:RO)
inductive DA where
 |one (c:DC)
 |agg (cs:List DC)
def DA.cells:DA->List DC
 | .one c=>[c]| .agg cs=>cs
inductive RC where
 |im (v:Value)
 |own (e:Nat) (ts:List Ty) (rows:List (List Dat))
 |view (e:Nat) (ts:List Ty) (rows:List (List Dat))
 |top (e:Nat) (ts:List Ty) (rows:List (List Dat))
structure RT where
 tup:Bool
 sh:List (Option Nat)
 cells:List RC
def Be:List DA->List Value->List Value
 | [],_=>[]| .one _::r,us=>us.headD undef::Be r us.tail| .agg cs::r,us=>.agg (us.take cs.length).toArray::Be r (us.drop cs.length)
def MJ:List (Option Nat)->List Value->List Value
 | [],_=>[]|none::r,us=>us.headD undef::MJ r us.tail|some n::r,us=>.agg (us.take n).toArray::MJ r (us.drop n)
def RT.val(r:RT)(us:List Value):Value:=if r.tup then .tuple (MJ r.sh us).toArray else(MJ r.sh us).headD undef
def asA:List (Option Nat)->List C->List A
 | [],_=>[]|none::r,cs=>.one (cs.headD (.im undef))::asA r cs.tail|some n::r,cs=>.agg (cs.take n)::asA r (cs.drop n)
def RT.t(r:RT)(cs:List C):T:=if r.tup then .tup (asA r.sh cs)else .one ((asA r.sh cs).headD (.one (.im undef)))
theorem Lb(m:Maps):∀(sh:List (Option Nat))(cs:List C),(asA sh cs).map (A.den m)=MJ sh (cs.map (C.den m))
 | [],cs=>rfl|none::r,cs=>by simp only[asA,MJ,List.map_cons,Lb m r];cases cs <;> simp[A.den,C.den]|some n::r,cs=>by simp only[asA,MJ,List.map_cons,Lb m r,A.den,List.map_take,List.map_drop]
theorem RT.t_den(m:Maps)(r:RT)(cs:List C):(r.t cs).den m=r.val (cs.map (C.den m)):=by unfold RT.t RT.val;split;simp[T.den,Lb];simp only[T.den];rw[← Lb];cases asA r.sh cs <;> simp[A.den,C.den]
theorem UD{sh:List (Option Nat)} : ∀{cs:List C}{x:A},x ∈ asA sh cs->∀i ∈ x.ids,∃c ∈ cs,i ∈ c.ids:=by
 induction sh with
 |nil=>intro cs x hx;simp[asA]at hx|cons q r ih=>
  intro cs x hx i hi;cases q with
  |none=>
   simp only[asA,List.mem_cons]at hx;rcases hx with rfl|hx;cases cs with|nil=>simp[A.ids,C.ids]at hi|cons c cs=>exact⟨c,by simp,by simpa[A.ids]using hi⟩
   obtain⟨c,hc,h⟩:=ih hx i hi;exact⟨c,List.mem_of_mem_tail hc,h⟩
  |some n=>simp only[asA,List.mem_cons]at hx;rcases hx with rfl|hx;simp only[A.ids,List.mem_flatMap]at hi;obtain⟨c,hc,h⟩:=hi;exact⟨c,List.mem_of_mem_take hc,h⟩;obtain⟨c,hc,h⟩:=ih hx i hi;exact⟨c,List.mem_of_mem_drop hc,h⟩
theorem RT.t_ids{r:RT}{cs:List C}{i:Nat}(h:i ∈ (r.t cs).ids):∃c ∈ cs,i ∈ c.ids:=by
 unfold RT.t at h;split at h;simp only[T.ids,List.mem_flatMap]at h;obtain⟨x,hx,h⟩:=h;exact UD hx i h;simp only[T.ids]at h;cases hq:asA r.sh cs with|nil=>rw[hq]at h;simp[A.ids,C.ids]at h|cons x y=>rw[hq]at h;exact UD (sh:=r.sh) (x:=x) (by rw[hq];simp) i (by simpa using h)
inductive PC where
 |im (v:Value)
 |bt (bs:List UInt8)
structure Con where
 ι:Type
 pre:ι->Prop
 args:ι->List DA
 mu:List Nat:=[]
 gone:List Nat:=[]
 new:ι->List (List (List Dat)):=λ_=>[]
 res:ι->RT
 /-- which function argument is meant: its number and one; 0: any -/
 tag:Nat:=0
 /-- the draws that are counted grow only -/
 mono:Bool:=false
 /-- what comes back need not be i's: it is that of some j that goes with i -/
 alt:Option (ι->ι->Prop):=none
 /-- ahead of the arguments stands a pointer to a variable: its cells before, and behind -/
 ptr:Option ((ι->List PC)×(ι->List PC)):=none
 /-- what comes back is a pointer to a new variable: its cells; the bytes are those of the first argument -/
 newp:Option (ι->List PC):=none
 /-- a nil slice that is handed over is meant as that very value -/
 nilA:Bool:=false
 /-- the first argument is a slice whose rows are only looked at: they are put in another order -/
 top:Option ((ι->DC)×(ι->List Nat)):=none
def DE(F:Nat->Prop)(w:World):DC->Value->Prop
 | .im v,u=>u=v| .sl e ts rows,u=>RdS F w (.sl e ts) (.sl rows) u| .ro d,u=>ROAt F w d u
structure ArgsAt(F:Nat->Prop)(w:World)(mu:List Nat)(mb:Nat->List Nat)(dcs:List DC)(us:List Value):Prop where
 len:us.length=dcs.length
 lt:∀b,F b->b<w.heap.size
 rd:∀p d u,dcs[p]?=some d->us[p]?=some u->p ∉ mu->DE F w d u
 own:∀j p,mu[j]?=some p->∃e ts rows u,dcs[p]?=some (.sl e ts rows)/\us[p]?=some u/\Fp w (.sl e ts) (.sl rows) u (mb j)/\(mb j).Nodup
 dis:∀i j b,i≠j->i<mu.length->j<mu.length->b ∈ mb i->b ∉ mb j
 out:∀j b,j<mu.length->b ∈ mb j->¬F b
 st:Stood w
 sb:∀j b,j<mu.length->b ∈ mb j->b ∉ stB
def BU(F:Nat->Prop)(w w' : World)(all:List Nat):List RC->List Value->List Nat->Prop
 | [],[],bs=>bs=[]| .im v::r,u::us,bs=>u=v/\BU F w w' all r us bs| .own e ts rows::r,u::us,bs=>∃b1 b2,bs=b1++b2/\Fp w' (.sl e ts) (.sl rows) u b1/\BU F w w' all r us b2| .top e ts rows::r,u::us,bs=>∃b1 b2,bs=b1++b2/\(∃rv:List (List Value),w'.ownsRow 0 e ts.length u rv.length rv.flatten/\rv.length=rows.length/\(∀r ∈ rv,r.length=ts.length) /\
  (∀k,k<rows.length->RdRowS (λb=>F b\/(w.heap.size<=b/\b ∉ all)) w' ts (rows.getD k []) (rv.getD k []))/\∀b,u.ownBlock=some b->b ∈ b1)/\BU F w w' all r us b2
 | .view e ts rows::r,u::us,bs=>RdS (λb=>F b\/(w.heap.size<=b/\b ∉ all)) w' (.sl e ts) (.sl rows) u/\BU F w w' all r us bs|_,_,_=>False
structure Con.PostA(c:Con)(i j0:c.ι)(F:Nat->Prop)(w:World)(us:List Value)(mb:Nat->List Nat)(rs:List Value)(bs:List Nat)(w' : World):Prop where
 res:BU F w w' bs (c.res j0).cells rs bs
 nd:bs.Nodup
 fresh:∀b ∈ bs,w.heap.size<=b\/∃j,j ∈ c.gone/\j<c.mu.length/\b ∈ mb j
 /-- what was turned holds its new rows; its blocks may stand in another order (a sort), unless a value comes back alone -/
 turned:∀j p e ts rows u,j ∉ c.gone->c.mu[j]?=some p->((c.args i).flatMap DA.cells)[p]?=some (.sl e ts rows)->us[p]?=some u->∃bt,Fp w' (.sl e ts) (.sl ((c.new j0).getD j [])) u bt/\bt.Nodup/\(∀b ∈ bt,b ∈ mb j)/\((∃v,c.res j0=⟨false,[none],[.im v]⟩)->bt=mb j)
 os:w'.os=w.os
 tape:w'.tape=w.tape
 output:w'.output=w.output
 size:w.heap.size<=w'.heap.size
 keep:∀b,b<w.heap.size->(∀j,j<c.mu.length->b ∉ mb j)->w'.heap[b]?=w.heap[b]?
abbrev Con.Post(c:Con)(i:c.ι)(F:Nat->Prop)(w:World)(us:List Value)(mb:Nat->List Nat)(rs:List Value)(bs:List Nat)(w' : World):Prop:=c.PostA i i F w us mb rs bs w'
structure Con.Ok(P:Program)(f:Nat)(c:Con):Prop where
 enter:∃fn,P.funcs[f]?=some fn/\fn.name ≠ "runtime.NumGoroutine" /\ fn.body.isNone=false
 small:∀i,(c.res i).cells.length<=32
 calls:∀i,c.pre i->∀F w us mb,ArgsAt F w c.mu mb ((c.args i).flatMap DA.cells) us->Calls P f (Be (c.args i) us).toArray w λe w'=>∃rs bs,e=.returned ((c.res i).val rs)/\c.Post i F w us mb rs bs w'
 quiet:c.mono=true->∀i,c.pre i->∀F w us mb,ArgsAt F w c.mu mb ((c.args i).flatMap DA.cells) us->Calls P f (Be (c.args i) us).toArray w λe w'=>∃rs bs,e=.returned ((c.res i).val rs)/\c.Post i F w us mb rs bs w'/\w.drawn<=w'.drawn:=by intro h;cases h
theorem Con.Ok.run{P:Program}{f:Nat}{c:Con}(a0:c.Ok P f){M:Bool}(hM:M=true->c.mono=true):∀i,c.pre i->∀F w us mb,ArgsAt F w c.mu mb ((c.args i).flatMap DA.cells) us->Calls P f (Be (c.args i) us).toArray w λe w'=>∃rs bs,e=.returned ((c.res i).val rs)/\c.Post i F w us mb rs bs w'/\(M=true->w.drawn<=w'.drawn):=by
 intro i hp F w us mb h;cases M with|false=>exact(a0.calls i hp F w us mb h).mono λe w' ⟨rs,bs,he,hq⟩=>⟨rs,bs,he,hq,λh=>by cases h⟩|true=>exact(a0.quiet (hM rfl) i hp F w us mb h).mono λe w' ⟨rs,bs,he,hq,hd⟩=>⟨rs,bs,he,hq,λ_=>hd⟩
structure Con.OkE(P:Program)(f:Nat)(c:Con)(a:c.ι->c.ι->Prop):Prop where
 enter:∃fn,P.funcs[f]?=some fn/\fn.name ≠ "runtime.NumGoroutine" /\ fn.body.isNone=false
 small:∀i,(c.res i).cells.length<=32
 mu:c.mu=[]
 calls:∀i,c.pre i->∀F w us mb,ArgsAt F w c.mu mb ((c.args i).flatMap DA.cells) us->Calls P f (Be (c.args i) us).toArray w λe w'=>∃j,a i j/\∃rs bs,e=.returned ((c.res j).val rs)/\c.PostA i j F w us mb rs bs w'/\(c.mono=true->w.drawn<=w'.drawn)
def Con.OkA(P:Program)(f:Nat)(c:Con):Prop:=(c.alt=none/\c.Ok P f)\/∃a,c.alt=some a/\c.OkE P f a
def Con.to(c:Con)(i j:c.ι):Prop:=match c.alt with|none=>j=i|some a=>a i j
theorem Con.OkA.ok{P:Program}{f:Nat}{c:Con}(h:c.OkA P f)(hm:c.mu≠[]):c.Ok P f:=by rcases h with h|⟨a,_,h⟩;exact h.2;exact absurd h.mu hm
theorem Con.OkA.enter{P:Program}{f:Nat}{c:Con}(h:c.OkA P f):∃fn,P.funcs[f]?=some fn/\fn.name ≠ "runtime.NumGoroutine" /\ fn.body.isNone=false:=by rcases h with h|⟨a,_,h⟩;exact h.2.enter;exact h.enter
theorem Con.OkA.small{P:Program}{f:Nat}{c:Con}(h:c.OkA P f):∀i,(c.res i).cells.length<=32:=by rcases h with h|⟨a,_,h⟩;exact h.2.small;exact h.small
theorem Con.OkA.run{P:Program}{f:Nat}{c:Con}(a0:c.OkA P f){M:Bool}(hM:M=true->c.mono=true):∀i,c.pre i->∀F w us mb,ArgsAt F w c.mu mb ((c.args i).flatMap DA.cells) us->Calls P f (Be (c.args i) us).toArray w λe w'=>∃j,c.to i j/\∃rs bs,e=.returned ((c.res j).val rs)/\c.PostA i j F w us mb rs bs w'/\(M=true->w.drawn<=w'.drawn):=by intro i hp F w us mb h;rcases a0 with⟨ha,a0⟩|⟨a,ha,a0⟩;exact(a0.run hM i hp F w us mb h).mono λe w' hq=>⟨i,by unfold Con.to;rw[ha],hq⟩;exact(a0.calls i hp F w us mb h).mono λe w' ⟨j,hj,rs,bs,he,hq,hd⟩=>⟨j,by unfold Con.to;rw[ha];exact hj,rs,bs,he,hq,λh=>hd (hM h)⟩
def ACB(F:Nat->Prop)(w:World):PC->Value->Prop
 | .im v,u=>u=v| .bt bs,u=>T6 F w bs u
def Wx:List PC->List Value->List Value
 | .im v::r,_::us=>v::Wx r us| .bt _::r,u::us=>u::Wx r us|_,us=>us
structure PtrIn(F:Nat->Prop)(w:World)(cs:List PC)(B:Nat)(vs:List Value):Prop where
 out:¬F B
 sb:B ∉ stB
 at_:∃t,w.heap[B]?=some (.cells vs.toArray t (0,0))
 len:vs.length=cs.length
 rd:∀(q:Nat)(d:PC)(u:Value),cs[q]?=some d->vs[q]?=some u->ACB F w d u
structure Con.PostP(c:Con)(i:c.ι)(pn:c.ι->List PC)(F:Nat->Prop)(w:World)(B:Nat)(vs rs:List Value)(bs:List Nat)(w' : World):Prop where
 res:BU F w w' bs (c.res i).cells rs bs
 nd:bs.Nodup
 fresh:∀b ∈ bs,w.heap.size<=b
 turned:∃t,w'.heap[B]?=some (.cells (Wx (pn i) vs).toArray t (0,0))
 os:w'.os=w.os
 tape:w'.tape=w.tape
 output:w'.output=w.output
 size:w.heap.size<=w'.heap.size
 keep:∀b,b<w.heap.size->b≠B->w'.heap[b]?=w.heap[b]?
structure Con.OkP(P:Program)(f:Nat)(c:Con)(cs pn:c.ι->List PC):Prop where
 enter:∃fn,P.funcs[f]?=some fn/\fn.name ≠ "runtime.NumGoroutine" /\ fn.body.isNone=false
 small:∀i,(c.res i).cells.length<=32
 calls:∀i,c.pre i->∀F w us B vs,ArgsAt F w [] (λ_=>[]) ((c.args i).flatMap DA.cells) us->PtrIn F w (cs i) B vs->Calls P f (.pointer (some ⟨B,0,none⟩)::Be (c.args i) us).toArray w λe w'=>∃rs bs,e=.returned ((c.res i).val rs)/\c.PostP i pn F w B vs rs bs w'/\(c.mono=true->w.drawn<=w'.drawn)
def AAb(v:Value):List PC->List Value
 | []=>[]| .im x::r=>x::AAb v r| .bt _::r=>v::AAb v r
structure Con.PostN(c:Con)(i:c.ι)(pc:c.ι->List PC)(w:World)(us:List Value)(B:Nat)(w' : World):Prop where
 fresh:w.heap.size<=B
 at_:∃t,w'.heap[B]?=some (.cells (AAb (us.headD undef) (pc i)).toArray t (0,0))
 os:w'.os=w.os
 tape:w'.tape=w.tape
 output:w'.output=w.output
 size:w.heap.size<=w'.heap.size
 keep:∀b,b<w.heap.size->w'.heap[b]?=w.heap[b]?
structure Con.OkN(P:Program)(f:Nat)(c:Con)(pc:c.ι->List PC):Prop where
 enter:∃fn,P.funcs[f]?=some fn/\fn.name ≠ "runtime.NumGoroutine" /\ fn.body.isNone=false
 calls:∀i,c.pre i->∀F w us,ArgsAt F w [] (λ_=>[]) ((c.args i).flatMap DA.cells) us->Calls P f (Be (c.args i) us).toArray w λe w'=>∃B,e=.returned (.pointer (some ⟨B,0,none⟩))/\c.PostN i pc w us B w'/\(c.mono=true->w.drawn<=w'.drawn)
structure Con.OkT(P:Program)(f:Nat)(c:Con)(r0:c.ι->DC)(tp:c.ι->List Nat):Prop where
 enter:∃fn,P.funcs[f]?=some fn/\fn.name ≠ "runtime.NumGoroutine" /\ fn.body.isNone=false
 perm:∀i,c.pre i->∀e ts rows,r0 i=.sl e ts rows->(tp i).length=rows.length/\(∀j ∈ tp i,j<rows.length)/\(c.new i).headD []=(tp i).map λj=>rows.getD j []
 calls:∀i,c.pre i->∀(F:Nat->Prop)(w:World)(e:Nat)(ts:List Ty)(rows:List (List Dat))(u:Value)(rv:List (List Value))(us:List Value),r0 i=.sl e ts rows->w.ownsRow 0 e ts.length u rv.length rv.flatten->rv.length=rows.length->(∀r ∈ rv,r.length=ts.length)->(∀k,k<rows.length->RdRowS F w ts (rows.getD k []) (rv.getD k []))->(∀b,u.ownBlock=some b->¬F b)->ArgsAt F w [] (λ_=>[]) ((c.args i).flatMap DA.cells) us ->
  Calls P f (u::Be (c.args i) us).toArray w λed w'=>ed=.returned ((c.res i).val [])/\w'.ownsRow 0 e ts.length u rv.length ((tp i).map λk=>rv.getD k []).flatten/\OnlyIn (λb=>u.ownBlock=some b) w w'/\(c.mono=true->w.drawn<=w'.drawn)
def Con.OkB(P:Program)(f:Nat)(c:Con):Prop:=(c.ptr=none/\c.newp=none/\c.top=none/\c.OkA P f)\/(∃cs pn,c.ptr=some (cs,pn)/\c.OkP P f cs pn)\/(∃pc,c.ptr=none/\c.newp=some pc/\c.OkN P f pc)\/∃r0 tp,c.ptr=none/\c.newp=none/\c.top=some (r0,tp)/\c.OkT P f r0 tp
theorem Con.OkB.a{P:Program}{f:Nat}{c:Con}(h:c.OkB P f)(h0:c.ptr=none)(h1:c.newp=none)(h2:c.top=none):c.OkA P f:=by rcases h with h|⟨cs,pn,h,-⟩|⟨pc,-,h,-⟩|⟨r0,tp,-,-,h,-⟩;exact h.2.2.2;rw[h0]at h;cases h;rw[h1]at h;cases h;rw[h2]at h;cases h
theorem Con.OkB.p{P:Program}{f:Nat}{c:Con}{cs pn:c.ι->List PC}(h:c.OkB P f)(h0:c.ptr=some (cs,pn)):c.OkP P f cs pn:=by rcases h with⟨h,-⟩|⟨cs',pn',h,hp⟩|⟨pc,h,-,-⟩|⟨r0,tp,h,-⟩;rw[h0]at h;cases h;rw[h0]at h;cases h;exact hp;rw[h0]at h;cases h;rw[h0]at h;cases h
theorem Con.OkB.n{P:Program}{f:Nat}{c:Con}{pc:c.ι->List PC}(h:c.OkB P f)(h0:c.ptr=none)(h1:c.newp=some pc):c.OkN P f pc:=by rcases h with⟨-,h,-⟩|⟨cs',pn',h,hp⟩|⟨pc',-,h,hp⟩|⟨r0,tp,-,h,-⟩;rw[h1]at h;cases h;rw[h0]at h;cases h;rw[h1]at h;cases h;exact hp;rw[h1]at h;cases h
theorem Con.OkB.t{P:Program}{f:Nat}{c:Con}{r0:c.ι->DC}{tp:c.ι->List Nat}(h:c.OkB P f)(h0:c.ptr=none)(h1:c.newp=none)(h2:c.top=some (r0,tp)):c.OkT P f r0 tp:=by rcases h with⟨-,-,h,-⟩|⟨cs',pn',h,-⟩|⟨pc',-,h,-⟩|⟨r0',tp',-,-,h,hp⟩;rw[h2]at h;cases h;rw[h0]at h;cases h;rw[h1]at h;cases h;rw[h2]at h;cases h;exact hp
abbrev CTs:=List (Nat×Con)
def CTok(P:Program)(ct:CTs)(M:Bool):Prop:=∀f c,(f,c) ∈ ct->c.OkB P f/\(M=true->c.mono=true)
theorem CTok.nil(P:Program){M:Bool} : CTok P [] M:=λt i h=>by simp at h
theorem CTok.cons{P:Program}{M:Bool}{t:Nat}{i:Con}{ct:CTs}(h:i.Ok P t)(hT:CTok P ct M)(hM:M=true->i.mono=true:=by intro h;first|rfl|exact absurd h (by decide))(hA:i.alt=none:=by rfl)(hP:i.ptr=none:=by rfl)(hN:i.newp=none:=by rfl)(hO:i.top=none:=by rfl):CTok P ((t,i)::ct) M:=λu j hj=>by rcases List.mem_cons.1 hj with e|hj;obtain⟨rfl,rfl⟩:=Prod.mk.inj e;exact⟨.inl ⟨hP,hN,hO,.inl ⟨hA,h⟩⟩,hM⟩;exact hT u j hj
theorem CTok.consT{P:Program}{M:Bool}{t:Nat}{i:Con}{ct:CTs}{r0:i.ι->DC}{tp:i.ι->List Nat}(h:i.OkT P t r0 tp)(hT:CTok P ct M)(hM:M=true->i.mono=true:=by intro h;first|rfl|exact absurd h (by decide))(hP:i.ptr=none:=by rfl)(hN:i.newp=none:=by rfl)(hO:i.top=some (r0,tp):=by rfl):CTok P ((t,i)::ct) M:=λu j hj=>by rcases List.mem_cons.1 hj with e|hj;obtain⟨rfl,rfl⟩:=Prod.mk.inj e;exact⟨.inr (.inr (.inr ⟨r0,tp,hP,hN,hO,h⟩)),hM⟩;exact hT u j hj
def QV:CTs->Nat->Nat->Option Con
 | [],_,_=>none|(g,c)::r,f,tag=>match Nat.beq g f && (Nat.beq c.tag 0 || Nat.beq c.tag tag)with|true=>some c|false=>QV r f tag
theorem JB{P:Program}{M:Bool} : ∀{ct:CTs},CTok P ct M->∀{f tag:Nat}{c:Con},QV ct f tag=some c->c.OkB P f/\(M=true->c.mono=true)
 | [],_,f,tag,c,h=>by simp[QV]at h|(g,d)::r,hT,f,tag,c,h=>by simp only[QV]at h;split at h;rename_i e;simp only[Bool.and_eq_true,Nat.beq_eq]at e;obtain rfl:=Option.some.inj h;rw[← e.1];exact hT g d (by simp);exact JB (λf c hc=>hT f c (List.mem_cons_of_mem _ hc)) h
theorem QW:∀{ct:CTs}{f tag:Nat}{c:Con},QV ct f tag=some c->∃g,(g,c) ∈ ct
 | [],f,tag,c,h=>by simp[QV]at h|(g,d)::r,f,tag,c,h=>by simp only[QV]at h;split at h;obtain rfl:=Option.some.inj h;exact⟨g,by simp⟩;obtain⟨g',h'⟩:=QW h;exact⟨g',List.mem_cons_of_mem _ h'⟩
def Zy(c:Con):Bool:=match c.alt with|none=>true|some _=>false
def Kq:CTs->CTs
 | []=>[]|(f,c)::r=>match Zy c with|true=>(f,c)::Kq r|false=>Kq r
theorem Dw:∀{ct:CTs}{f:Nat}{c:Con},(f,c) ∈ Kq ct->(f,c) ∈ ct/\c.alt=none
 | [],f,c,h=>by simp[Kq]at h|(g,d)::r,f,c,h=>by simp only[Kq]at h;split at h;rename_i e;rcases List.mem_cons.1 h with h|h;obtain⟨rfl,rfl⟩:=Prod.mk.inj h;refine⟨by simp,?_⟩;unfold Zy at e;split at e;assumption;cases e;exact⟨List.mem_cons_of_mem _ (Dw h).1,(Dw h).2⟩;exact⟨List.mem_cons_of_mem _ (Dw h).1,(Dw h).2⟩
theorem CTok.det{P:Program}{M:Bool}{ct:CTs}(h:CTok P ct M):CTok P (Kq ct) M:=λf c hc=>h f c (Dw hc).1
def Zz:List DA->Nat
 | []=>0| .one (.ro (.fn g _))::_=>g+1|_::r=>Zz r
def ACC(x:Option (List DA×List C)):Nat:=
 match x with|some y=>Zz y.1|none=>0
def FK(tt:TT):Nat->Nat->List Ty
 | 0,_=>[]|f+1,t=>
  match lkp tt t with|some {d:=.int _,..}=>[.int]|some {d:=.bool,..}=>[.bool]|some {d:=.str,..}=>[.str]|some {d:=.slice e,..}=>[.sl e (FK tt f e)]|some {d:=.struct fs,..}=>fs.flatMap λx=>FK tt f x.2.1|_=>[.int]
def SI(s:St):C->Option LC
 | .im v=>if v.oneCell'=true then some (.im v)else none
 | .ext k=>
  match EI s k with|some (e,ts,rows,_)=>some (.sl e ts rows)|none=>none
 |_=>none
def Dd(s:St):C->List Nat
 | .ext k=>
  match EI s k with|some (_,_,_,deps)=>deps|none=>[]
 |_=>[]
def HY(s:St):List C->Option (List LC)
 | []=>some []|c::cs=>
  match SI s c,HY s cs with|some d,some ds=>some (d::ds)|_,_=>none
def QX(s:St)(i:Nat):Option (List LC):=
 match lkp s.en i with|some (.box cs)=>HY s cs|_=>none
def D9(s:St)(i:Nat):List Nat:=
 match lkp s.en i with|some (.box cs)=>i::cs.flatMap (Dd s)|_=>[]
def JC(s:St):List Nat->Option (List (List LC))
 | []=>some []|i::is=>
  match QX s i,JC s is with|some d,some ds=>some (d::ds)|_,_=>none
def SJ(s:St)(k:Nat):Option RO:=
 match lkp s.en k with|some (.ro d _)=>some d|_=>none
def Ha(s:St)(k:Nat):List Nat:=
 match lkp s.en k with|some (.ro _ deps)=>deps|_=>[]
def Wy(s:St)(x:Bool×Nat):Option (List LC):=
 if x.1=true then QX s x.2 else
 match SJ s x.2 with|some (.ptr cs)=>some cs|_=>none
def FL(s:St)(x:Bool×Nat):List Nat:=if x.1=true then D9 s x.2 else Ha s x.2
def MK(s:St):List (Bool×Nat)->Option (List (List LC))
 | []=>some []|i::is=>
  match Wy s i,MK s is with|some d,some ds=>some (d::ds)|_,_=>none
def ML(na:Bool)(s:St)(t:Ty)(c:C):Option DC:=
 match na,t,c with
 |false,.sl e ts,.im (.slice none 0 0)=>some (.sl e ts [])|_,_,.im v=>some (.im v)|_,_,.ext k=>
  match EI s k with|some (e,ts,rows,_)=>some (.sl e ts rows)|none=>(SJ s k).map .ro
 |_,_,.bp i 0=>(QX s i).map λcs=>.ro (.ptr cs)|_,_,.clo g is=>(JC s is).map λl=>.ro (.fn g l)|_,_,.clx g is=>(MK s is).map λl=>.ro (.fn g l)|_,_,.cp k j=>
  match SJ s k with|some (.fn _ caps)=>(caps[j]?).map λcs=>.ro (.ptr cs)|_=>none
 |_,_,_=>none
def Kr(na:Bool)(s:St):List Ty->List C->Option (List DC)
 | [],[]=>some []|t::ts,c::cs=>
  match ML na s t c,Kr na s ts cs with|some d,some ds=>some (d::ds)|_,_=>none
 |_,_=>none
def ABX(na:Bool)(tt:TT)(s:St)(t:Nat)(a:T):Option (DA×List C):=
 match a with
 | .one (.one c)=>
  match FK tt 9 t with| [ty]=>(ML na s ty c).map λd=>(.one d,[c])|_=>none
 | .one (.agg cs)=>(Kr na s (FK tt 9 t) cs).map λds=>(.agg ds,cs)| .tup _=>none
def Ih(na:Bool)(tt:TT)(s:St):List Nat->List T->Option (List DA×List C)
 | [],[]=>some ([],[])|t::ts,a::as=>
  match ABX na tt s t a,Ih na tt s ts as with|some (d,c),some (ds,cs)=>some (d::ds,c++cs)|_,_=>none
 |_,_=>none
def CD(s:St)(c:C):List Nat:=
 match c with
 | .ext k=>
  match EI s k with|some (_,_,_,deps)=>deps|none=>Ha s k
 | .bp i _=>D9 s i| .clo _ is=>is.flatMap (D9 s)| .clx _ is=>is.flatMap (FL s)| .cp k _=>Ha s k|_=>[]
def CN(s:St)(mu:List Nat):List C->Nat->List Nat
 | [],_=>[]|c::cs,p=>(if(mu.any (Nat.beq p))=true then[]else CD s c)++CN s mu cs (p+1)
def ABY(s:St)(cells:List C)(p:Nat):Option Nat:=
 match cells[p]? with
 |some (.ext k)=>
  match lkp s.en k with|some (.own _ _ _)=>some k|_=>none
 |_=>none
def QY(s:St)(cells:List C):List Nat->Option (List Nat)
 | []=>some []|p::ps=>
  match ABY s cells p,QY s cells ps with|some k,some ks=>some (k::ks)|_,_=>none
def CB:List RC->Nat->List C
 | [],_=>[]| .im v::r,nx=>.im v::CB r (nx+1)| .own _ _ _::r,nx=>.ext nx::CB r (nx+1)| .view _ _ _::r,nx=>.ext nx::CB r (nx+1)| .top _ _ _::r,nx=>.ext nx::CB r (nx+1)
def MM(deps:List Nat):List RC->Nat->List (Nat×En)
 | [],_=>[]| .im _::r,nx=>MM deps r (nx+1)| .own e ts rows::r,nx=>(nx,.own e ts rows)::MM deps r (nx+1)| .view e ts rows::r,nx=>(nx,.view e ts rows deps)::MM deps r (nx+1)| .top e ts rows::r,nx=>(nx,.top e ts rows deps)::MM deps r (nx+1)
def Y2(l:List Nat)(j:Nat):Bool:=l.any (Nat.beq j)
theorem SK{l:List Nat}{j:Nat}(h:Y2 l j=false):j ∉ l:=λhm=>by have:=List.any_eq_false.1 h j hm;simp at this
def SL(s:St)(gone:List Nat)(new:List (List (List Dat))):List Nat->Nat->List (Nat×En)
 | [],_=>[]|k::ks,j=>(k,match Y2 gone j with|true=>.dead|false=>match lkp s.en k with|some (.own e ts _)=>.own e ts (new.getD j [])|_=>.dead)::SL s gone new ks (j+1)
def FM(s:St)(nx:Nat)(deps ks gone:List Nat)(r:RT)(new:List (List (List Dat))):Eff:=
 ⟨r.t (CB r.cells nx),MM deps r.cells nx++SL s gone new ks 0⟩
def Wz(s:St)(cells:List C)(p:Nat):Option (Nat×List Prop×(List (List Dat)->List (List Dat))×(List (List Dat)->En)):=
 match cells[p]? with
 |some (.ext x)=>
  match lkp s.en x with
  |some (.mu e ts _ j)=>some (x,[],λnew=>new,λR=>.mu e ts R j)|some (.part e ts rows k sz r c)=>
   match lkp s.en k with
   |some (.mu e0 ts0 rows0 j0)=>
    match ts0[c]? with|some (.sl e' ts')=>if(Nat.beq sz ts0.length && Nat.beq e e' && Ty.beqs ts ts')=true then some (k,[r<rows0.length,rows=((rows0.getD r []).getD c (.int 0)).r],λnew=>Fh rows0 r c (.sl new),λR=>.mu e0 ts0 R j0)else none|_=>none
   |_=>none
  |_=>none
 |_=>none
def obs:List Prop->Prop->Prop
 | [],q=>q|p::r,q=>p/\obs r q
def J1(tt:TT)(s:St)(c:Con)(ds:List DA)(cells:List C)(q:Eff->Prop):Prop:=
 match c.mu with
 | [p]=>
  match Wz s cells p with
  |some (k,ps,rw,mk)=>
   if(!((CN s c.mu cells 0).any (Nat.beq k)))=true then
    ∃i:c.ι,ds=c.args i/\c.pre i/\obs ps (match c.gone,c.res i with| [],⟨false,[none],[.im v]⟩=>∀R:List (List Dat),R=rw ((c.new i).getD 0 [])->q ⟨.one (.one (.im v)),[(k,mk R)]⟩|_,_=>False)
   else False
  |none=>False
 |_=>False
def J2(tt:TT)(s:St)(nx:Nat)(c:Con)(cs pn:c.ι->List PC)(tys:List Nat)(as:List T)(q:Eff->Prop):Prop:=False
def J3(tt:TT)(s:St)(nx:Nat)(c:Con)(pc:c.ι->List PC)(tys:List Nat)(as:List T)(q:Eff->Prop):Prop:=False
def J4(tt:TT)(s:St)(nx:Nat)(c:Con)(r0:c.ι->DC)(tp:c.ι->List Nat)(tys:List Nat)(as:List T)(q:Eff->Prop):Prop:=
 match tys,as with
 |_::tys,.one (.one (.ext k))::as=>
  match lkp s.en k,Ih false tt s tys as with
  |some (.top e ts rows deps),some (ds,cells)=>
   if(!((deps++CN s [] cells 0).any (Nat.beq k)))=true then
    ∃i:c.ι,ds=c.args i/\DC.sl e ts rows=r0 i/\c.pre i/\q ⟨(c.res i).t [],[(k,.top e ts ((c.new i).headD []) deps)]⟩
   else False
  |_,_=>False
 |_,_=>False
def N2(tt:TT)(ct:CTs)(s:St)(nx f:Nat)(tys:List Nat)(as:List T)(q:Eff->Prop):Prop:=
 match QV ct f (ACC (Ih false tt s tys as))with
 |none=>False|some c=>
  match c.ptr with
  |some (cs,pn)=>J2 tt s nx c cs pn tys as q|none=>
   match c.newp with
   |some pc=>J3 tt s nx c pc tys as q|none=>
   match c.top with
   |some (r0,tp)=>J4 tt s nx c r0 tp tys as q|none=>
   match Ih c.nilA tt s tys as with
   |none=>False|some (ds,cells)=>
    match QY s cells c.mu with
    |none=>J1 tt s c ds cells q|some ks=>if(GO ks && !(ks.any λk=>(CN s c.mu cells 0).any (Nat.beq k)))=true then ∃i:c.ι,ds=c.args i/\c.pre i/\(match c.alt with|none=>q (FM s nx (CN s c.mu cells 0) ks c.gone (c.res i) (c.new i))|some a=>∀j:c.ι,a i j->q (FM s nx (CN s c.mu cells 0) ks c.gone (c.res j) (c.new j)))else False
section
variable {P : Program} {tt : TT} {ct : CTs} {Γ : Env} {n : Nat} {w0 : World} {al fr : Nat → Prop} {s : St} {m : Maps} {a : Act} {w : World} {nx : Nat} {o : Oper}
theorem VZ(h:R Γ n w0 al s m a w){c:C}{d:LC}(hx:SI s c=some d):LCAt (λb=>Γ.may m (Dd s c) b/\b<w.heap.size) w d (c.den m)/\∀i ∈ Dd s c,al i:=by unfold SI at hx;split at hx;split at hx;rename_i v hv;simp only[Option.some.injEq]at hx;subst hx;exact⟨⟨rfl,hv⟩,by simp[Dd]⟩;cases hx;split at hx;rename_i k e ts rows deps hk;simp only[Option.some.injEq]at hx;subst hx;obtain⟨⟨F,f1,f2⟩,-,f3⟩:=h.sl hk;simp only[LCAt,C.den,Dd,hk];have:=RdS.step (Nat.le_refl _) (λ_ _ _=>rfl) _ _ _ f1;exact⟨RdS.mono (λb hb=>⟨f2 b hb.1,hb.2⟩) _ _ _ this,f3⟩;cases hx;cases hx
theorem Cx{Γ:Env}{m:Maps}{d1 d2:List Nat}(h:∀i ∈ d1,i ∈ d2){b:Nat}(hb:Γ.may m d1 b):Γ.may m d2 b:=by rcases hb with hb|hb|hb;exact .inl hb;exact .inr (.inl hb);exact .inr (.inr ⟨hb.1,h _ hb.2⟩)
theorem Ks(h:R Γ n w0 al s m a w):∀{cs:List C}{ds:List LC},HY s cs=some ds->(cs.map (C.den m)).length=ds.length/\(∀(p:Nat)(d:LC)(v:Value),ds[p]?=some d->(cs.map (C.den m))[p]?=some v->LCAt (λb=>Γ.may m (cs.flatMap (Dd s)) b/\b<w.heap.size) w d v)/\∀i ∈ cs.flatMap (Dd s),al i
 | [],ds,hx=>by simp only[HY,Option.some.injEq]at hx;subst hx;simp|c::cs,ds,hx=>by
  simp only[HY]at hx;split at hx;rename_i d ds' h1 h2;simp only[Option.some.injEq]at hx;subst hx;obtain⟨y1,y2⟩:=VZ h h1;obtain⟨z1,z2,z3⟩:=Ks h h2;refine⟨by simpa using z1,λp d' v hd hv=>?_,λi hi=>?_⟩;cases p with|zero=>simp at hd hv;subst hd;subst hv;exact y1.mono λb hb=>⟨Cx (λi hi=>by simp[hi]) hb.1,hb.2⟩|succ p=>exact(z2 p d' v (by simpa using hd) (by simpa using hv)).mono λb hb=>⟨Cx (λi hi=>by rw[List.flatMap_cons];exact List.mem_append.2 (.inr hi)) hb.1,hb.2⟩
  rw[List.flatMap_cons]at hi;rcases List.mem_append.1 hi with hi|hi;exact y2 i hi;exact z3 i hi;cases hx
theorem MN(h:R Γ n w0 al s m a w){i:Nat}{cs:List LC}(hx:QX s i=some cs):PtrAt (λb=>Γ.may m (D9 s i) b/\b<w.heap.size) w cs (.pointer (some ⟨m.β i,0,none⟩))/\∀j ∈ D9 s i,al j:=by unfold QX at hx;split at hx;rename_i ds hl;obtain⟨⟨b1,b2,e,b3⟩,b4,b5⟩:=h.en _ _ hl;obtain⟨z1,z2,z3⟩:=Ks h hx;simp only[D9,hl];refine⟨⟨m.β i,e,ds.map (C.den m),rfl,⟨.inr (.inr ⟨b1,by rw[b2];simp⟩),(Array.getElem?_eq_some_iff.1 b3).1⟩,b3,z1,λp d v hd hv=>?_⟩,λj hj=>?_⟩;exact(z2 p d v hd hv).mono λb hb=>⟨Cx (λi hi=>List.mem_cons_of_mem _ hi) hb.1,hb.2⟩;rcases List.mem_cons.1 hj with rfl|hj;exact b4;exact z3 j hj;cases hx
theorem MO(h:R Γ n w0 al s m a w):∀{is:List Nat}{l:List (List LC)},JC s is=some l->is.length=l.length/\(∀(p:Nat)(cs:List LC)(v:Value),l[p]?=some cs->(is.map λi=>Value.pointer (some ⟨m.β i,0,none⟩))[p]?=some v->PtrAt (λb=>Γ.may m (is.flatMap (D9 s)) b/\b<w.heap.size) w cs v)/\∀j ∈ is.flatMap (D9 s),al j
 | [],l,hx=>by simp only[JC,Option.some.injEq]at hx;subst hx;simp|i::is,l,hx=>by
  simp only[JC]at hx;split at hx;rename_i d ds' h1 h2;simp only[Option.some.injEq]at hx;subst hx;obtain⟨y1,y2⟩:=MN h h1;obtain⟨z1,z2,z3⟩:=MO h h2;refine⟨by simpa using z1,λp d' v hd hv=>?_,λi hi=>?_⟩;cases p with|zero=>simp at hd hv;subst hd;subst hv;exact y1.mono λb hb=>⟨Cx (λi hi=>by simp[hi]) hb.1,hb.2⟩|succ p=>exact(z2 p d' v (by simpa using hd) (by simpa using hv)).mono λb hb=>⟨Cx (λi hi=>by rw[List.flatMap_cons];exact List.mem_append.2 (.inr hi)) hb.1,hb.2⟩
  rw[List.flatMap_cons]at hi;rcases List.mem_append.1 hi with hi|hi;exact y2 i hi;exact z3 i hi;cases hx
theorem Hz(h:R Γ n w0 al s m a w){k:Nat}{d:RO}(hx:SJ s k=some d):ROAt (λb=>Γ.may m (Ha s k) b/\b<w.heap.size) w d (m.ε k)/\al k/\∀j ∈ Ha s k,al j:=by unfold SJ at hx;split at hx;rename_i d' deps hl;simp only[Option.some.injEq]at hx;subst hx;obtain⟨⟨F,f1,f2⟩,f3,f4⟩:=h.en _ _ hl;simp only[Ha,hl];exact⟨(f1.step (Nat.le_refl _) λ_ _ _=>rfl).mono λb hb=>⟨f2 b hb.1,hb.2⟩,f3,f4⟩;cases hx
theorem J5(h:R Γ n w0 al s m a w){k:Nat} : ∀j ∈ Ha s k,al j:=by intro j hj;unfold Ha at hj;split at hj;rename_i hl;exact(h.en _ _ hl).2.2 j hj;simp at hj
theorem QZ(h:R Γ n w0 al s m a w){c:C} : ∀j ∈ Dd s c,al j:=by intro j hj;unfold Dd at hj;split at hj;split at hj;rename_i hk;exact(h.sl hk).2.2 j hj;simp at hj;simp at hj
theorem Ip(h:R Γ n w0 al s m a w){i:Nat} : ∀j ∈ D9 s i,al j:=by intro j hj;unfold D9 at hj;split at hj;rename_i hl;rcases List.mem_cons.1 hj with rfl|hj;exact(h.en _ _ hl).2.1;obtain⟨c,_,hj⟩:=List.mem_flatMap.1 hj;exact QZ h j hj;simp at hj
theorem SM(h:R Γ n w0 al s m a w){x:Bool×Nat} : ∀j ∈ FL s x,al j:=by intro j hj;unfold FL at hj;split at hj;exact Ip h j hj;exact J5 h j hj
theorem W0(h:R Γ n w0 al s m a w){x:Bool×Nat}{cs:List LC}(hx:Wy s x=some cs):PtrAt (λb=>Γ.may m (FL s x) b/\b<w.heap.size) w cs (Nd m x)/\∀j ∈ FL s x,al j:=by unfold Wy at hx;unfold FL Nd;split at hx;rename_i h1;rw[if_pos h1,if_pos h1];exact MN h hx;rename_i h1;rw[if_neg h1,if_neg h1];split at hx;rename_i cs' hk;obtain rfl:=Option.some.inj hx;exact⟨(Hz h hk).1,(Hz h hk).2.2⟩;cases hx
theorem N3(h:R Γ n w0 al s m a w):∀{is:List (Bool×Nat)}{l:List (List LC)},MK s is=some l->is.length=l.length/\(∀(p:Nat)(cs:List LC)(v:Value),l[p]?=some cs->(is.map (Nd m))[p]?=some v->PtrAt (λb=>Γ.may m (is.flatMap (FL s)) b/\b<w.heap.size) w cs v)/\∀j ∈ is.flatMap (FL s),al j
 | [],l,hx=>by simp only[MK,Option.some.injEq]at hx;subst hx;simp|i::is,l,hx=>by
  simp only[MK]at hx;split at hx;rename_i d ds' h1 h2;simp only[Option.some.injEq]at hx;subst hx;obtain⟨y1,y2⟩:=W0 h h1;obtain⟨z1,z2,z3⟩:=N3 h h2;refine⟨by simpa using z1,λp d' v hd hv=>?_,λi hi=>?_⟩;cases p with|zero=>simp at hd hv;subst hd;subst hv;exact y1.mono λb hb=>⟨Cx (λi hi=>by simp[hi]) hb.1,hb.2⟩|succ p=>exact(z2 p d' v (by simpa using hd) (by simpa using hv)).mono λb hb=>⟨Cx (λi hi=>by rw[List.flatMap_cons];exact List.mem_append.2 (.inr hi)) hb.1,hb.2⟩
  rw[List.flatMap_cons]at hi;rcases List.mem_append.1 hi with hi|hi;exact y2 i hi;exact z3 i hi;cases hx
theorem Qa(h:R Γ n w0 al s m a w){c:C} : ∀j ∈ CD s c,al j:=by intro j hj;unfold CD at hj;split at hj;split at hj;rename_i hk;exact(h.sl hk).2.2 j hj;exact J5 h j hj;exact Ip h j hj;obtain⟨i,_,hj⟩:=List.mem_flatMap.1 hj;exact Ip h j hj;obtain⟨i,_,hj⟩:=List.mem_flatMap.1 hj;exact SM h j hj;exact J5 h j hj;simp at hj
theorem O4(h:R Γ n w0 al s m a w){na:Bool}{t:Ty}{c:C}{d:DC}(hx:ML na s t c=some d):DE (λb=>Γ.may m (CD s c) b/\b<w.heap.size) w d (c.den m):=by
 unfold ML at hx;split at hx;simp only[Option.some.injEq]at hx;subst hx;simp only[DE,RdS,C.den];exact⟨[],⟨none,0,rfl,Nat.le_refl _,by unfold maxLen;omega,by simp,.inl ⟨rfl,λ_=>rfl⟩⟩,by simp,rfl,by simp⟩;simp only[Option.some.injEq]at hx;subst hx;rfl;split at hx;rename_i k e ts rows deps hk;simp only[Option.some.injEq]at hx;subst hx;obtain⟨⟨F,f1,f2⟩,-,-⟩:=h.sl hk;simp only[DE,C.den,CD,hk];have:=RdS.step (Nat.le_refl _) (λ_ _ _=>rfl) _ _ _ f1;exact RdS.mono (λb hb=>⟨f2 b hb.1,hb.2⟩) _ _ _ this;rename_i k hk;obtain⟨d',e1,rfl⟩:=Option.map_eq_some_iff.1 hx;simp only[DE,C.den,CD,hk];exact(Hz h e1).1;obtain⟨cs,e1,rfl⟩:=Option.map_eq_some_iff.1 hx;exact(MN h e1).1;obtain⟨l,e1,rfl⟩:=Option.map_eq_some_iff.1 hx;obtain⟨z1,z2,z3⟩:=MO h e1;simp only[DE,C.den,CD,ROAt];exact⟨_,rfl,by simpa using z1,z2⟩;obtain⟨l,e1,rfl⟩:=Option.map_eq_some_iff.1 hx;obtain⟨z1,z2,z3⟩:=N3 h e1;simp only[DE,C.den,CD,ROAt];exact⟨_,rfl,by simpa using z1,z2⟩;split at hx;rename_i k j _ g caps hk;obtain⟨cs,e1,rfl⟩:=Option.map_eq_some_iff.1 hx;obtain⟨⟨ps,q1,q2,q3⟩,-⟩:=Hz h hk;simp only[DE,C.den,CD,ROAt,Wj,q1];have a1:j<ps.length:=by rw[q2];exact(List.getElem?_eq_some_iff.1 e1).1
 have a0:=List.getElem?_eq_getElem a1;have e:ps.toArray.getD j undef=ps[j]:=by simp[Array.getD_eq_getD_getElem?,a0]
 rw[e];exact q3 j cs _ e1 a0;cases hx;cases hx
theorem Qb{na:Bool}{t:Ty}{k e:Nat}{ts:List Ty}{rows:List (List Dat)}{d:DC}(hx:ML na s t (.ext k)=some d)(hl:lkp s.en k=some (.own e ts rows)):d=.sl e ts rows:=by unfold ML at hx;simp only[EI,hl,Option.bind_some,En.sl,Option.some.injEq]at hx;exact hx.symm
theorem Qc{na:Bool} : ∀{ts:List Ty}{cs:List C}{ds:List DC},Kr na s ts cs=some ds->All2 (λc d=>∃t,ML na s t c=some d) cs ds
 | [],[],ds,hx=>by simp only[Kr,Option.some.injEq]at hx;subst hx;exact .nil| [],_::_,_,hx=>by simp[Kr]at hx|_::_,[],_,hx=>by simp[Kr]at hx|t::ts,c::cs,ds,hx=>by simp only[Kr]at hx;split at hx;rename_i d ds' h1 h2;simp only[Option.some.injEq]at hx;subst hx;exact .cons ⟨t,h1⟩ (Qc h2);cases hx
theorem All2.len{α β:Type}{p:α->β->Prop}{l:List α}{r:List β}(h:All2 p l r):l.length=r.length:=by
 induction h with|nil=>rfl|cons _ _ ih=>simp[ih]
theorem All2.get{α β:Type}{p:α->β->Prop}{l:List α}{r:List β}(h:All2 p l r){j:Nat}{x:α}{y:β}(hx:l[j]?=some x)(hy:r[j]?=some y):p x y:=by
 induction h generalizing j with
 |nil=>simp at hx|cons h1 _ ih=>
  cases j with|zero=>simp at hx hy;subst hx;subst hy;exact h1|succ j=>exact ih (by simpa using hx) (by simpa using hy)
theorem All2.append{α β:Type}{p:α->β->Prop}{l l' : List α}{r r' : List β}(h:All2 p l r)(h' : All2 p l' r'):All2 p (l++l') (r++r'):=by
 induction h with|nil=>exact h'|cons h1 _ ih=>exact .cons h1 ih
theorem JD{na:Bool} : ∀{tys:List Nat}{as:List T}{ds:List DA}{cells:List C},Ih na tt s tys as=some (ds,cells) ->
  All2 (λc d=>∃t,ML na s t c=some d) cells (ds.flatMap DA.cells)/\as.map (T.den m)=Be ds (cells.map (C.den m))
 | [],[],ds,cells,hx=>by simp only[Ih,Option.some.injEq,Prod.mk.injEq]at hx;obtain⟨rfl,rfl⟩:=hx;exact⟨.nil,rfl⟩| [],_::_,_,_,hx=>by simp[Ih]at hx|_::_,[],_,_,hx=>by simp[Ih]at hx|t::ts,x::as,ds,cells,hx=>by
  simp only[Ih]at hx;split at hx;rename_i d c ds' cs' h1 h2;simp only[Option.some.injEq,Prod.mk.injEq]at hx;obtain⟨rfl,rfl⟩:=hx;obtain⟨i1,i2⟩:=JD h2;unfold ABX at h1;split at h1;rename_i c0;split at h1;rename_i ty _;cases hc:ML na s ty c0 with|none=>rw[hc]at h1;cases h1|some d0=>rw[hc]at h1;simp only[Option.map_some,Option.some.injEq,Prod.mk.injEq]at h1;obtain⟨rfl,rfl⟩:=h1;exact⟨by simpa[DA.cells]using All2.append (.cons ⟨ty,hc⟩ .nil) i1,by simp[Be,i2,T.den,A.den]⟩
  cases h1;rename_i cs0;cases hc:Kr na s (FK tt 9 t) cs0 with|none=>rw[hc]at h1;cases h1|some d0=>rw[hc]at h1;simp only[Option.map_some,Option.some.injEq,Prod.mk.injEq]at h1;obtain⟨rfl,rfl⟩:=h1;have a0:=Qc hc;have hl:=a0.len;refine⟨by simpa[DA.cells]using All2.append a0 i1,?_⟩;simp only[List.map_cons,Be,i2,T.den,A.den,List.map_append];rw[← hl];have e1:(cs0.map (C.den m)++cs'.map (C.den m)).take cs0.length=cs0.map (C.den m):=(by rw[List.take_left' (by simp)]);have e2:(cs0.map (C.den m)++cs'.map (C.den m)).drop cs0.length=cs'.map (C.den m):=(by rw[List.drop_left' (by simp)]);rw[e1,e2]
  cases h1;cases hx
theorem FN{mu:List Nat} : ∀{cells:List C}{p0 p:Nat}{c:C},cells[p]?=some c->(p0+p) ∉ mu->∀i ∈ CD s c,i ∈ CN s mu cells p0
 | [],_,_,_,h,_=>by simp at h|c0::cs,p0,p,c,h,hp=>by
  intro i hi;simp only[CN];cases p with|zero=>simp at h;subst h;refine List.mem_append.2 (.inl ?_);rw[if_neg];exact hi;intro he;obtain⟨q,hq,e⟩:=List.any_eq_true.1 he;simp at e;subst e;exact hp (by simpa using hq)|succ p=>exact List.mem_append.2 (.inr (FN (p0:=p0+1) (by simpa using h) (by rw[Nat.add_assoc,Nat.add_comm 1];exact hp) i hi))
theorem MP(h:R Γ n w0 al s m a w){mu:List Nat} : ∀{cells:List C}{p0 i:Nat},i ∈ CN s mu cells p0->al i
 | [],_,_,hi=>by simp[CN]at hi|c0::cs,p0,i,hi=>by simp only[CN]at hi;rcases List.mem_append.1 hi with hi|hi;split at hi;simp at hi;exact Qa h i hi;exact MP h hi
theorem Qd{cells:List C} : ∀{mu ks:List Nat},QY s cells mu=some ks->ks.length=mu.length/\∀j p:Nat,mu[j]?=some p->∃(k e:Nat)(ts:List Ty)(rows:List (List Dat)),ks[j]?=some k/\cells[p]?=some (C.ext k)/\lkp s.en k=some (.own e ts rows)
 | [],ks,hx=>by simp only[QY,Option.some.injEq]at hx;subst hx;exact⟨rfl,by simp⟩|p::ps,ks,hx=>by
  simp only[QY]at hx;split at hx;rename_i k ks' h1 h2;simp only[Option.some.injEq]at hx;subst hx;obtain⟨i1,i2⟩:=Qd h2;refine⟨by simp[i1],λj q hq=>?_⟩;cases j with|zero=>simp at hq;subst hq;unfold ABY at h1;split at h1;rename_i k' hk';split at h1;rename_i e ts rows hl;simp only[Option.some.injEq]at h1;subst h1;exact⟨_,e,ts,rows,rfl,hk',hl⟩;cases h1;cases h1|succ j=>simpa using i2 j q (by simpa using hq)
  cases hx
theorem MQ{F:Nat->Prop}{w' : World}{all deps:List Nat} : ∀{rcs:List RC}{us:List Value}{bs:List Nat}{nx:Nat},BU F w w' all rcs us bs->bs.Nodup->(∀b ∈ bs,Γ.mine b) ->
  us.length=rcs.length/\(∀c ∈ CB rcs nx,∀i ∈ c.ids,nx<=i/\i<nx+rcs.length) /\
  ∃g:Nat->Nat,(∀b ∈ bs,nx<=g b/\g b<nx+rcs.length)/\∀M:Maps,(∀b,F b\/(w.heap.size<=b/\b ∉ all)->Γ.may M deps b)->(∀q,q<rcs.length->M.ε (nx+q)=us.getD q undef)->(∀b ∈ bs,M.π b=g b) ->
   (CB rcs nx).map (C.den M)=us/\∀i E,lkp (MM deps rcs nx) i=some E->(nx<=i/\i<nx+rcs.length)/\EnAt Γ M w' i E/\∀j ∈ E.ids,j ∈ deps
 | [],[],bs,nx,h,_,_=>by simp only[BU]at h;subst h;exact⟨rfl,by simp[CB],λ_=>0,by simp,λ_ _ _ _=>⟨rfl,λi E hE=>by simp[MM,lkp]at hE⟩⟩| [],_::_,_,_,h,_,_=>by simp[BU]at h|rc::_,[],_,_,h,_,_=>by cases rc <;> simp[BU]at h|rc::r,u::us,bs,nx,h,hn,hb=>by
  have a0:∀{M:Maps}{us' : List Value}{N:Nat},(∀q,q<N+1->M.ε (nx+q)=(u::us').getD q undef)->∀q,q<N->M.ε (nx+1+q)=us'.getD q undef:=λhm q hq=>by have:=hm (q+1) (by omega);simpa[Nat.add_assoc,Nat.add_comm 1]using this
  have hm0:∀{M:Maps}{N:Nat},(∀q,q<N+1->M.ε (nx+q)=(u::us).getD q undef)->M.ε nx=u:=λhm=>by simpa using hm 0 (by omega)
  cases rc with
  |im v=>simp only[BU]at h;obtain⟨rfl,h⟩:=h;obtain⟨a1,a3,g,a4,a5⟩:=MQ (nx:=nx+1) h hn hb;refine⟨by simp[a1],λc hc i hi=>?_,g,λb hb=>by have:=a4 b hb;simp;omega,λM hF hm hg=>?_⟩;simp only[CB,List.mem_cons]at hc;rcases hc with rfl|hc;simp[C.ids]at hi;have:=a3 c hc i hi;simp;omega;obtain⟨x1,x2⟩:=a5 M hF (a0 hm) hg;refine⟨by simp only[CB,List.map_cons,C.den];rw[x1],λi E hE=>?_⟩;obtain⟨e1,e2⟩:=x2 i E hE;exact⟨by simp;omega,e2⟩
  |own e ts rows=>simp only[BU]at h;obtain⟨b1,b2,rfl,h1,h⟩:=h;obtain⟨n1,n2,n3⟩:=List.nodup_append.1 hn;obtain⟨a1,a3,g,a4,a5⟩:=MQ (nx:=nx+1) h n2 (λb hb'=>hb b (List.mem_append.2 (.inr hb')));refine⟨by simp[a1],λc hc i hi=>?_,λb=>if b ∈ b1 then nx else g b,λb hb=>?_,λM hF hm hg=>?_⟩;simp only[CB,List.mem_cons]at hc;rcases hc with rfl|hc;simp[C.ids]at hi;subst hi;simp;have:=a3 c hc i hi;simp;omega;by_cases hb1:b ∈ b1;simp[hb1];simp only[hb1,if_false];have:=a4 b ((List.mem_append.1 hb).resolve_left hb1);simp;omega;obtain⟨x1,x2⟩:=a5 M hF (a0 hm) (λb hb'=>(hg b (List.mem_append.2 (.inr hb'))).trans (if_neg (λhb1=>n3 b hb1 b hb' rfl)));refine⟨by simp only[CB,List.map_cons,C.den];rw[x1,hm0 hm],λi E hE=>?_⟩;simp only[MM,AY]at hE;split at hE;rename_i e';subst e';obtain rfl:=Option.some.inj hE;refine⟨by simp,⟨b1,by rw[hm0 hm];exact h1,n1,λb hb'=>⟨hb b (List.mem_append.2 (.inl hb')),?_⟩⟩,by simp[En.ids]⟩;exact(hg b (List.mem_append.2 (.inl hb'))).trans (if_pos hb');obtain⟨e1,e2⟩:=x2 i E hE;exact⟨by simp;omega,e2⟩
  |top e ts rows=>simp only[BU]at h;obtain⟨b1,b2,rfl,⟨rv,v1,v2,v3,v4,v5⟩,h⟩:=h;obtain⟨n1,n2,n3⟩:=List.nodup_append.1 hn;obtain⟨a1,a3,g,a4,a5⟩:=MQ (nx:=nx+1) h n2 (λb hb'=>hb b (List.mem_append.2 (.inr hb')));refine⟨by simp[a1],λc hc i hi=>?_,λb=>if b ∈ b1 then nx else g b,λb hb=>?_,λM hF hm hg=>?_⟩;simp only[CB,List.mem_cons]at hc;rcases hc with rfl|hc;simp[C.ids]at hi;subst hi;simp;have:=a3 c hc i hi;simp;omega;by_cases hb1:b ∈ b1;simp[hb1];simp only[hb1,if_false];have:=a4 b ((List.mem_append.1 hb).resolve_left hb1);simp;omega;obtain⟨x1,x2⟩:=a5 M hF (a0 hm) (λb hb'=>(hg b (List.mem_append.2 (.inr hb'))).trans (if_neg (λhb1=>n3 b hb1 b hb' rfl)));refine⟨by simp only[CB,List.map_cons,C.den];rw[x1,hm0 hm],λi E hE=>?_⟩;simp only[MM,AY]at hE;split at hE;rename_i e';subst e';obtain rfl:=Option.some.inj hE;refine⟨by simp,⟨rv,by rw[hm0 hm];exact v1,v2,v3,λk hk=>⟨_,v4 k hk,hF⟩,λb hb'=>?_⟩,by simp[En.ids]⟩;rw[hm0 hm]at hb';exact⟨hb b (List.mem_append.2 (.inl (v5 b hb'))),(hg b (List.mem_append.2 (.inl (v5 b hb')))).trans (if_pos (v5 b hb'))⟩;obtain⟨e1,e2⟩:=x2 i E hE;exact⟨by simp;omega,e2⟩
  |view e ts rows=>simp only[BU]at h;obtain⟨h1,h⟩:=h;obtain⟨a1,a3,g,a4,a5⟩:=MQ (nx:=nx+1) h hn hb;refine⟨by simp[a1],λc hc i hi=>?_,g,λb hb=>by have:=a4 b hb;simp;omega,λM hF hm hg=>?_⟩;simp only[CB,List.mem_cons]at hc;rcases hc with rfl|hc;simp[C.ids]at hi;subst hi;simp;have:=a3 c hc i hi;simp;omega;obtain⟨x1,x2⟩:=a5 M hF (a0 hm) hg;refine⟨by simp only[CB,List.map_cons,C.den];rw[x1,hm0 hm],λi E hE=>?_⟩;simp only[MM,AY]at hE;split at hE;rename_i e';subst e';obtain rfl:=Option.some.inj hE;exact⟨by simp,⟨_,by rw[hm0 hm];exact h1,hF⟩,by simp[En.ids]⟩;obtain⟨e1,e2⟩:=x2 i E hE;exact⟨by simp;omega,e2⟩
theorem Qe{gone:List Nat}{new:List (List (List Dat))} : ∀{ks:List Nat}{j0 i:Nat}{E:En},lkp (SL s gone new ks j0) i=some E->∃j,ks[j]?=some i/\E=(match Y2 gone (j0+j)with|true=>.dead|false=>match lkp s.en i with|some (.own e ts _)=>.own e ts (new.getD (j0+j) [])|_=>.dead)
 | [],j0,i,E,h=>by simp[SL,lkp]at h|k::ks,j0,i,E,h=>by simp only[SL,AY]at h;split at h;rename_i e;subst e;obtain rfl:=Option.some.inj h;exact⟨0,rfl,rfl⟩;obtain⟨j,h1,h2⟩:=Qe h;exact⟨j+1,by simpa using h1,by rw[h2,Nat.add_assoc,Nat.add_comm 1]⟩
theorem N4{α:Type} : ∀{l:List α}{x:α}{i j:Nat},l.Nodup->l[i]?=some x->l[j]?=some x->i=j
 | [],_,_,_,_,h,_=>by simp at h|y::r,x,i,j,hn,h,k=>by
  obtain⟨n1,n2⟩:=List.nodup_cons.1 hn;cases i with
  |zero=>
   cases j with|zero=>rfl|succ j=>simp at h k;subst h;exact absurd (List.mem_of_getElem? k) n1
  |succ i=>
   cases j with|zero=>simp at h k;subst k;exact absurd (List.mem_of_getElem? h) n1|succ j=>exact congrArg (· + 1) (N4 n2 (x:=x) (i:=i) (j:=j) (by simpa using h) (by simpa using k))
theorem Qf{gone:List Nat}{new:List (List (List Dat))} : ∀{ks:List Nat}{j0:Nat},(SL s gone new ks j0).map (·.1)=ks
 | [],_=>rfl|k::ks,j0=>by simp[SL,Qf (ks:=ks)]
def N5(s:St)(c:C):Option (Nat×List T):=
 match c with
 | .clo g is=>some (g,is.map λi=>.one (.one (.bp i 0)))| .clx g is=>some (g,is.map λx=>.one (.one (if x.1=true then .bp x.2 0 else .ext x.2)))| .ext k=>
  match SJ s k with|some (.fn g caps)=>some (g,(List.range caps.length).map λj=>.one (.one (.cp k j)))|_=>none
 |_=>none
theorem Qg(h:R Γ n w0 al s m a w){c:C}{g:Nat}{ext:List T}(hx:N5 s c=some (g,ext)):c.den m=.func (.func g) #[] (ext.map (T.den m)).toArray:=by
 unfold N5 at hx;split at hx;simp only[Option.some.injEq,Prod.mk.injEq]at hx;obtain⟨rfl,rfl⟩:=hx;simp only[C.den,List.map_map];rfl;simp only[Option.some.injEq,Prod.mk.injEq]at hx;obtain⟨rfl,rfl⟩:=hx;simp only[C.den,List.map_map];congr 2;refine List.map_congr_left λx _=>?_;unfold Nd;simp only[Function.comp,T.den,A.den];split <;> rfl;split at hx;rename_i k _ g' caps hk;simp only[Option.some.injEq,Prod.mk.injEq]at hx;obtain⟨rfl,rfl⟩:=hx;obtain⟨⟨ps,q1,q2,q3⟩,-⟩:=Hz h hk;simp only[C.den,List.map_map,q1];have:ps=(List.range caps.length).map (T.den m∘λj=>T.one (A.one (C.cp k j))):=by apply List.ext_getElem?;intro j;by_cases hj:j<ps.length;rw[List.getElem?_map,List.getElem?_range (by omega),List.getElem?_eq_getElem hj];simp[T.den,A.den,C.den,Wj,q1,Array.getD_eq_getD_getElem?,hj];rw[List.getElem?_eq_none (by omega),List.getElem?_eq_none (by simp;omega)]
 rw[← this];cases hx;cases hx
theorem Fp.nested{w:World}{e:Nat}{ts:List Ty}{L:List (List Dat)}{g len cap j c:Nat}{t:Ty}{bs:List Nat}(h:Fp w (.sl e ts) (.sl L) (.slice (some ⟨g,0,none⟩) len cap) bs)(hn:bs.Nodup)(hj:j<L.length)(hc:ts[c]?=some t) :
  ∃v b2,w.cell? ⟨g,j*ts.length+c,none⟩=some v/\Fp w t ((L.getD j []).getD c (.int 0)) v b2/\b2.Nodup/\(∀b ∈ b2,b ∈ bs) /\
   ∀w' d',OnlyIn (λb=>b ∈ b2) w w'->Fp w' t d' v b2->Fp w' (.sl e ts) (.sl (L.set j ((L.getD j []).set c d'))) (.slice (some ⟨g,0,none⟩) len cap) bs:=by
 obtain⟨row,bj,h1,h2,h3,h4,h5,h6,h7,h8⟩:=Fp.row h hn hj;have hl:=(RdRow.lens _ _ _ (FpRow.rd _ _ _ _ h3)).1;have a0:=(List.getElem?_eq_some_iff.1 hc).1;have split:∀{α:Type}(l:List α)(d x:α),c<l.length->l.take c++[x]++l.drop (c+1)=l.set c x:=λl d x hx=>by rw[List.set_eq_take_append_cons_drop,if_pos hx];simp
 have e0:L.set j ((L.getD j []).take c++[(L.getD j []).getD c (.int 0)]++(L.getD j []).drop (c+1))=L:=by
  rw[split _ (.int 0) _ (by omega)];have key:∀r:List Dat,c<r.length->r.set c (r.getD c (.int 0))=r:=λr hr=>by simp[List.getD,hr]
  rw[key _ (by omega)];simp[List.getD,hj]
 have et:ts=ts.take c++[t]++ts.drop (c+1):=by rw[split ts .int t a0];have:=(List.getElem?_eq_some_iff.1 hc).2;rw[← this];simp
 have a1:(ts.take c).length=c:=by simp;omega
 obtain⟨v,b2,q1,q2,q3,q4,q5⟩:=Fp.nestedAt (ts.take c) t (ts.drop (c+1)) ((L.getD j []).take c) ((L.getD j []).getD c (.int 0)) ((L.getD j []).drop (c+1)) (by rw[e0];exact h) hn hj et (by rw[List.length_take,List.length_take];omega);rw[a1]at q1;refine⟨v,b2,q1,q2,q3,q4,λw' d' ho hf=>?_⟩;have:=q5 w' d' ho hf;rwa [split _ (.int 0) _ (by omega)]at this
theorem MR:∀{ps:List Prop}{q:Prop},obs ps q->(∀p ∈ ps,p)/\q
 | [],q,h=>⟨by simp,h⟩|p::r,q,h=>by obtain⟨h1,h2⟩:=h;obtain⟨h3,h4⟩:=MR h2;refine⟨λx hx=>?_,h4⟩;rcases List.mem_cons.1 hx with rfl|hx;exact h1;exact h3 x hx
theorem UE{na:Bool}{t:Ty}{k e:Nat}{ts:List Ty}{rows:List (List Dat)}{deps:List Nat}{d:DC}(hx:ML na s t (.ext k)=some d)(hl:EI s k=some (e,ts,rows,deps)):d=.sl e ts rows:=by unfold ML at hx;simp only[hl,Option.some.injEq]at hx;exact hx.symm
theorem W1(h:R Γ n w0 al s m a w){cells:List C}{p k:Nat}{ps:List Prop}{rw:List (List Dat)->List (List Dat)}{mk:List (List Dat)->En}(hx:Wz s cells p=some (k,ps,rw,mk))(a3:∀q ∈ ps,q) :
  ∃(x e:Nat)(ts:List Ty)(rows:List (List Dat))(bs:List Nat),cells[p]?=some (.ext x)/\EI s x=some (e,ts,rows,[k])/\Fp w (.sl e ts) (.sl rows) (m.ε x) bs/\bs.Nodup/\(∀b ∈ bs,Γ.mine b/\m.π b=k)/\al k /\
   ∀w' new,OnlyIn (λb=>b ∈ bs) w w'->Fp w' (.sl e ts) (.sl new) (m.ε x) bs->EnAt Γ m w' k (mk (rw new))/\(mk (rw new)).ids=[]:=by
 unfold Wz at hx;split at hx;rename_i x hc;split at hx;rename_i e ts rows j hl;simp only[Option.some.injEq,Prod.mk.injEq]at hx;obtain⟨rfl,rfl,rfl,rfl⟩:=hx;obtain⟨⟨h0,h1,h2,h3⟩,a1,-⟩:=h.en _ _ hl;exact⟨x,e,ts,rows,Γ.mb j,hc,by simp[EI,hl,En.sl],h1,h2,λb hb=>⟨.inr ⟨j,hb⟩,h3 b hb⟩,a1,λw' new _ hf=>⟨⟨h0,hf,h2,h3⟩,rfl⟩⟩;rename_i e ts rows k' sz r c hl;split at hx;rename_i e0 ts0 rows0 j0 hl0;split at hx;rename_i e' ts' a4;split at hx;rename_i a0;simp only[Option.some.injEq,Prod.mk.injEq]at hx;obtain⟨rfl,rfl,rfl,rfl⟩:=hx;simp only[Bool.and_eq_true,Nat.beq_eq]at a0;obtain⟨⟨a5,he⟩,hc2⟩:=a0;have hc2:=Ty.beqs_ok _ _ hc2;subst a5 he hc2;have hr:r<rows0.length:=a3 _ (by simp);have a2:rows=((rows0.getD r []).getD c (.int 0)).r:=a3 _ (by simp);obtain⟨⟨h0,h1,h2,h3⟩,a1,-⟩:=h.en _ _ hl0;obtain⟨⟨-,g,len,cap,g1,g2,g3⟩,-,-⟩:=h.en _ _ hl;rw[g1]at h1;obtain⟨v,b2,q1,q2,q3,q4,q5⟩:=Fp.nested h1 h2 hr a4;rw[q1]at g2;obtain rfl:=Option.some.inj g2
 have hd:(rows0.getD r []).getD c (.int 0)=.sl rows:=by
  cases hd:(rows0.getD r []).getD c (.int 0)with|sl l=>rw[a2,hd];rfl|_=>rw[hd]at q2;simp[Fp]at q2
 rw[hd]at q2;refine⟨x,e,ts,rows,b2,hc,by simp[EI,hl,En.sl],q2,q3,λb hb=>⟨.inr ⟨j0,q4 b hb⟩,h3 b (q4 b hb)⟩,a1,λw' new ho hf=>⟨⟨h0,?_,h2,h3⟩,rfl⟩⟩;rw[g1];exact q5 w' (.sl new) ho hf;cases hx;cases hx;cases hx;cases hx;cases hx
theorem Va(hct:CTok P ct Γ.mono)(h:R Γ n w0 al s m a w){f:Nat}{fo:Operand}{as:Array Operand}{tys0:Array Nat}{tys:List Nat}{ts ext:List T}{c:Con}{ds:List DA}{cells:List C}(ho:o.op=.call {callee:=.value fo,args:=as,argTypes:=tys0})(aI:a.eval fo=.func (.func f) #[] (ext.map (T.den m)).toArray)(has:All2 (λx t=>ev s x=some t) as.toList ts)
  (a6:c.OkA P f/\(Γ.mono=true->c.mono=true)) (aH:Ih c.nilA tt s tys (ts++ext)=some (ds,cells)):Snd P Γ al fr m a w o (J1 tt s c ds cells):=by
 intro q hk Q;unfold J1 at hk;split at hk;rename_i p a7;have aD:c.Ok P f/\(Γ.mono=true->c.mono=true):=⟨a6.1.ok (by rw[a7];simp),a6.2⟩;split at hk;rename_i k ps rw mk aE;split at hk;rename_i a2;obtain⟨i,rfl,aF,hk⟩:=hk;obtain⟨aJ,hk⟩:=MR hk;split at hk;rename_i v a8 hr;obtain⟨d1,d2⟩:=JD (m:=m) aH
 have aK:as.toList.map a.eval=ts.map (T.den m):=by
  clear aH d2 hk;generalize as.toList=l at has;induction has with|nil=>rfl|cons h1 _ ih=>simp[ih,(h.ev h1).1]
 obtain⟨x,e,ts',rows,bs,c1,c2,c3,c4,c5,c6,c7⟩:=W1 h aE aJ;have aL:k ∉ CN s c.mu cells 0:=λhm=>by rw[Bool.not_eq_true']at a2;have:=List.any_eq_false.1 a2 k hm;simp at this
 let F:Nat->Prop:=λb=>Γ.may m (CN s c.mu cells 0) b/\b<w.heap.size
 have a9 : ∀{j q:Nat},c.mu[j]?=some q->j=0/\q=p:=λ{j q} hj=>by
  rw[a7]at hj;cases j with|zero=>exact⟨rfl,by simpa using hj.symm⟩|succ j=>simp at hj
 have a3:ArgsAt F w c.mu (λ_=>bs) ((c.args i).flatMap DA.cells) (cells.map (C.den m)):=by
  refine⟨by simp[d1.len],λb hb=>hb.2,λp d u hd hu hp=>?_,λj q hj=>?_,λj1 j2 b hne h1 h2 hb1 hb2=>?_,λj b hj hb hF=>?_,h.stood,λj b hj hb hs=>?_⟩;simp only[List.getElem?_map,Option.map_eq_some_iff]at hu;obtain⟨c0,hc0,rfl⟩:=hu;obtain⟨t,ht⟩:=d1.get hc0 hd;have:=O4 h ht;have aA:∀b,Γ.may m (CD s c0) b/\b<w.heap.size->F b:=λb hb=>⟨EJ (FN (p0:=0) hc0 (by simpa using hp)) hb.1,hb.2⟩;cases d with|im v=>exact this|sl e ts rows=>exact RdS.mono aA _ _ _ this|ro d=>exact ROAt.mono aA this
  obtain⟨rfl,rfl⟩:=a9 hj;have a4:q<((c.args i).flatMap DA.cells).length:=by rw[← d1.len];exact(List.getElem?_eq_some_iff.1 c1).1
  obtain⟨t,ht⟩:=d1.get c1 (List.getElem?_eq_getElem a4);exact⟨e,ts',rows,m.ε x,by rw[List.getElem?_eq_getElem a4,UE ht c2],by simp[c1,C.den],c3,c4⟩;rw[a7]at h1 h2;simp at h1 h2;omega;obtain⟨e1,e2⟩:=c5 b hb;rcases hF.1 with h1|h1|h1;exact Γ.hG b h1 e1;rw[e2]at h1;exact h.pos (h1.2 ▸ c6);rw[e2]at h1;exact aL h1.2;exact Γ.hst b hs (c5 b hb).1
 have a5:=aD.1.run aD.2 i aF F w _ _ a3;obtain⟨fn,e1,e2,e3⟩:=aD.1.enter
 have aB:(execOp a.eval o).run P w=.ok (.enter f (Be (c.args i) (cells.map (C.den m))).toArray) w:=by
  have aG:as.map a.eval++(ext.map (T.den m)).toArray=(Be (c.args i) (cells.map (C.den m))).toArray:=by apply Array.ext';rw[Array.toList_append,Array.toList_map,aK,← d2,List.map_append]
  simp only[execOp,ho,resolve,aI,Deferred.ofValue,Sem.run_bind,Sem.run_pure,Result.andThen_ok,invoke,callFunc,program,Sem.run,e1,aG,Array.empty_append];simp[e2,e3]
 unfold Oper.wp;rw[aB];simp only[Oper.upon];refine a5.mono ?_;rintro e w' ⟨rs,bs',rfl,hp,aM⟩;simp only;have a0:=hp.res;rw[hr]at a0 ⊢
 obtain⟨u,rfl⟩:∃u,rs=[u]:=by
  cases rs with
  |nil=>simp[BU]at a0|cons u us=>
   cases us with|nil=>exact⟨u,rfl⟩|cons _ _=>simp[BU]at a0
 simp only[BU]at a0;obtain⟨rfl,rfl⟩:=a0;have a1:∀b,b<w.heap.size->b ∉ bs->w'.heap[b]?=w.heap[b]?:=λb hb h2=>hp.keep b hb λ_ _=>h2;have aN:OnlyIn (λb=>b ∈ bs) w w':=⟨hp.os,hp.tape,hp.output,hp.size,a1⟩;have aC:Fp w' (.sl e ts') (.sl ((c.new i).getD 0 [])) (m.ε x) bs:=by obtain⟨e',t',r',u',q1,q2,-,-⟩:=a3.own 0 p (by rw[a7];rfl);obtain⟨bt,this,-,-,ebt⟩:=hp.turned 0 p e' t' r' u' (by rw[a8];simp) (by rw[a7];rfl) q1 q2;obtain rfl:=ebt ⟨_,hr⟩;have a4:p<((c.args i).flatMap DA.cells).length:=(List.getElem?_eq_some_iff.1 q1).1;obtain⟨t,ht⟩:=d1.get c1 q1;have ha:=UE ht c2;simp only[DC.sl.injEq]at ha;obtain⟨rfl,rfl,rfl⟩:=ha;simp only[List.getElem?_map,c1,Option.map_some,Option.some.injEq,C.den]at q2;rw[q2];exact this
 obtain⟨g1,g2⟩:=c7 w' _ aN aC;refine⟨_,m,hk _ rfl,⟨rfl,λ_ _=>⟨rfl,rfl⟩,⟨aM,hp.os,hp.tape,hp.output,hp.size,λb hb=>a1 b (Nat.lt_of_lt_of_le (Env.old hb) h.old) λhm=>hb (c5 b hm).1⟩,λb hb h2=>a1 b hb λhm=>?_,λ_ _ _=>rfl,λz E hE=>?_,by simp[T.ids,A.ids,C.ids]⟩⟩;obtain⟨q1,q2⟩:=c5 b hm;rcases h2 with h2|h2;exact h2 q1;exact h2 (by rw[q2];simp[Eff.us]);rw[AY]at hE;split at hE;rename_i ez;subst ez;obtain rfl:=Option.some.inj hE;exact⟨g1,.inl c6,by rw[g2];simp⟩;simp[lkp]at hE;exact hk.elim;exact hk.elim;exact hk.elim;exact hk.elim
theorem Vb(hct:CTok P ct Γ.mono)(h:R Γ n w0 al s m a w){f:Nat}{fo:Operand}{as:Array Operand}{tys0:Array Nat}{tys:List Nat}{ts ext:List T}{c:Con}{cs pn:c.ι->List PC}(ho:o.op=.call {callee:=.value fo,args:=as,argTypes:=tys0})(hfo:a.eval fo=.func (.func f) #[] (ext.map (T.den m)).toArray)(has:All2 (λx t=>ev s x=some t) as.toList ts)
  (hokB:c.OkB P f/\(Γ.mono=true->c.mono=true)) (hptr:c.ptr=some (cs,pn)) (hal:∀i,al i->¬(nx<=i/\i<nx+32)) (hfr:∀i,nx<=i->i<nx+32->fr i):Snd P Γ al fr m a w o (J2 tt s nx c cs pn tys (ts++ext)):=by intro q hk Q;unfold J2 at hk;exact hk.elim
theorem Vc(hct:CTok P ct Γ.mono)(h:R Γ n w0 al s m a w){f:Nat}{fo:Operand}{as:Array Operand}{tys0:Array Nat}{tys:List Nat}{ts ext:List T}{c:Con}{pc:c.ι->List PC}(ho:o.op=.call {callee:=.value fo,args:=as,argTypes:=tys0})(hfo:a.eval fo=.func (.func f) #[] (ext.map (T.den m)).toArray)(has:All2 (λx t=>ev s x=some t) as.toList ts)
  (hokB:c.OkB P f/\(Γ.mono=true->c.mono=true)) (hptr:c.ptr=none) (hnp:c.newp=some pc) (hal:∀i,al i->¬(nx<=i/\i<nx+32)) (hfr:∀i,nx<=i->i<nx+32->fr i):Snd P Γ al fr m a w o (J3 tt s nx c pc tys (ts++ext)):=by intro q hk Q;unfold J3 at hk;exact hk.elim
theorem Vd(hct:CTok P ct Γ.mono)(h:R Γ n w0 al s m a w){f:Nat}{fo:Operand}{as:Array Operand}{tys0:Array Nat}{tys:List Nat}{ts ext:List T}{c:Con}{r0:c.ι->DC}{tp:c.ι->List Nat}(ho:o.op=.call {callee:=.value fo,args:=as,argTypes:=tys0})(aH:a.eval fo=.func (.func f) #[] (ext.map (T.den m)).toArray)(has:All2 (λx t=>ev s x=some t) as.toList ts)
  (a3:c.OkB P f/\(Γ.mono=true->c.mono=true)) (aA:c.ptr=none) (aI:c.newp=none) (aB:c.top=some (r0,tp)):Snd P Γ al fr m a w o (J4 tt s nx c r0 tp tys (ts++ext)):=by
 intro q hk Q;have aC:=a3.1.t aA aI aB;generalize a4:ts++ext=all at hk;unfold J4 at hk;split at hk;case h_2=>exact hk.elim
 rename_i t0 tys k as';split at hk;case h_2=>exact hk.elim
 rename_i e ts1 rows deps ds cells aJ aK;split at hk;case isFalse=>exact hk.elim
 rename_i a1;simp only[Bool.not_eq_true']at a1;obtain⟨i,rfl,hr0,a5,hk⟩:=hk;obtain⟨d1,d2⟩:=JD (m:=m) aK
 have aL:as.toList.map a.eval=ts.map (T.den m):=by
  clear hk a4;generalize as.toList=l at has;induction has with|nil=>rfl|cons h1 _ ih=>simp[ih,(h.ev h1).1]
 obtain⟨⟨rv,v1,v2,v3,v4,v5⟩,b4,b5⟩:=h.en _ _ aJ;let deps':=deps++CN s [] cells 0
 let F:Nat->Prop:=λb=>Γ.may m deps' b/\b<w.heap.size
 have aM:k ∉ deps':=λhm=>by have:=List.any_eq_false.1 a1 k hm;simp at this
 have hk0:k≠0:=λe=>h.pos (e ▸ b4)
 have aF:∀b,Γ.may m deps' b->¬Γ.mine b\/m.π b≠k:=λb hb=>by
  rcases hb with h1|h1|h1;·exact .inl (Γ.hG b h1)
  ·exact .inr λe=>hk0 (by rw[← e];exact h1.2)
  ·exact .inr λe=>aM (by rw[← e];exact h1.2)
 have aD:∀b,(m.ε k).ownBlock=some b->¬F b:=λb hb hF=>by
  obtain⟨g1,g2⟩:=v5 b hb;rcases aF b hF.1 with h1|h1;·exact h1 g1
  ·exact h1 g2
 have a6:ArgsAt F w [] (λ_=>[]) ((c.args i).flatMap DA.cells) (cells.map (C.den m)):=by
  refine⟨by simp[d1.len],λb hb=>hb.2,λp d u hd hu hp=>?_,λj p hj=>by simp at hj,λj1 j2 b hne h1=>by simp at h1,λj b hj=>by simp at hj,h.stood,λj b hj=>by simp at hj⟩;simp only[List.getElem?_map,Option.map_eq_some_iff]at hu;obtain⟨c0,hc0,rfl⟩:=hu;obtain⟨t,ht⟩:=d1.get hc0 hd;have:=O4 h ht;have a7:∀b,Γ.may m (CD s c0) b/\b<w.heap.size->F b:=λb hb=>⟨Cx (λj hj=>List.mem_append.2 (.inr (FN (p0:=0) hc0 (by simp) j hj))) hb.1,hb.2⟩;cases d with|im v=>exact this|sl e ts rows=>exact RdS.mono a7 _ _ _ this|ro d=>exact ROAt.mono a7 this
 have a8:∀b,Γ.may m deps b->Γ.may m deps' b:=λb hb=>Cx (λj hj=>List.mem_append.2 (.inl hj)) hb;have aN:∀l,l<rows.length->RdRowS F w ts1 (rows.getD l []) (rv.getD l []):=λl hl=>by obtain⟨F0,f1,f2⟩:=v4 l hl;exact RdRowS.mono (λb hb=>⟨a8 b (f2 b hb.1),hb.2⟩) _ _ _ (RdRowS.step (Nat.le_refl _) (λb _ _=>rfl) _ _ _ f1)
 have a2:=aC.calls i a5 F w e ts1 rows (m.ε k) rv _ hr0.symm v1 v2 v3 aN aD a6;obtain⟨p1,p2,p3⟩:=aC.perm i a5 e ts1 rows hr0.symm;obtain⟨fn,e1,e2,e3⟩:=aC.enter
 have a9:(execOp a.eval o).run P w=.ok (.enter f (m.ε k::Be (c.args i) (cells.map (C.den m))).toArray) w:=by
  have aE:as.map a.eval++(ext.map (T.den m)).toArray=(m.ε k::Be (c.args i) (cells.map (C.den m))).toArray:=by apply Array.ext';rw[Array.toList_append,Array.toList_map,aL,← d2];show ts.map (T.den m)++ext.map (T.den m)=_;rw[← List.map_append,a4];rfl
  simp only[execOp,ho,resolve,aH,Deferred.ofValue,Sem.run_bind,Sem.run_pure,Result.andThen_ok,invoke,callFunc,program,Sem.run,e1,aE,Array.empty_append];simp[e2,e3]
 unfold Oper.wp;rw[a9];simp only[Oper.upon];refine a2.mono ?_;rintro ed w' ⟨rfl,o1,o2,aO⟩;simp only
 have a0:∀b,b<w.heap.size->(¬Γ.mine b\/m.π b≠k)->w'.heap[b]?=w.heap[b]?:=λb hb h2=>o2.block b hb λe=>by
  obtain⟨g1,g2⟩:=v5 b e;rcases h2 with h2|h2;·exact h2 g1
  ·exact h2 g2
 rw[p3]at hk;refine⟨_,m,hk,⟨?_,λ_ _=>⟨rfl,rfl⟩,?_,λb hb h2=>a0 b hb (h2.imp id λhx e=>hx (e ▸ by simp[Eff.us])),λ_ _ _=>rfl,λj E hE=>?_,λj hj=>?_⟩⟩;·simp only[RT.t_den,List.map_nil]
 ·exact⟨λhm=>aO (a3.2 hm),o2.os,o2.tape,o2.output,o2.size,λb hb=>by
   by_cases aG:b<w.heap.size;·exact a0 b aG (.inl hb)
   ·exact absurd (.inl (Nat.le_trans h.old (Nat.not_lt.1 aG))) hb⟩
 ·rw[AY]at hE
  split at hE
  ·rename_i ej
   subst ej;obtain rfl:=Option.some.inj hE;have hl0:((tp i).map λk=>rv.getD k []).length=rv.length:=(by rw[List.length_map,p1,v2]);have aP:∀l,l<(tp i).length->∃q,q<rows.length/\((tp i).map λj=>rows.getD j []).getD l []=rows.getD q []/\((tp i).map λj=>rv.getD j []).getD l []=rv.getD q []:=λl hl=>⟨(tp i)[l],p2 _ (List.getElem_mem hl),by simp[List.getD,hl],by simp[List.getD,hl]⟩;refine⟨⟨(tp i).map λk=>rv.getD k [],by rw[hl0];exact o1,by simp[p1,v2],λr hr=>?_,λl hl=>?_,v5⟩,.inl b4,λx hx=>.inl (b5 x hx)⟩
   ·obtain⟨q,hq,rfl⟩:=List.mem_map.1 hr
    have:=p2 q hq;exact v3 _ (by simp[List.getD,show q<rv.length by omega])
   ·rw[List.length_map]at hl
    obtain⟨q,q1,q2,q3⟩:=aP l hl;rw[q2,q3];obtain⟨F0,f1,f2⟩:=v4 q q1;exact⟨_,RdRowS.step o2.size (λb hb hF=>a0 b hb (aF b (a8 b (f2 b hF)))) _ _ _ f1,λb hb=>f2 b hb.1⟩
  ·simp[lkp]at hE
 ·obtain⟨c',hc',hj⟩:=RT.t_ids hj
  simp at hc'
theorem W2(a5:CTok P ct Γ.mono)(h:R Γ n w0 al s m a w){f:Nat}{fo:Operand}{as:Array Operand}{tys0:Array Nat}{tys:List Nat}{ts ext:List T}(ho:o.op=.call {callee:=.value fo,args:=as,argTypes:=tys0})(aD:a.eval fo=.func (.func f) #[] (ext.map (T.den m)).toArray)(has:All2 (λx t=>ev s x=some t) as.toList ts)
  (aQ:∀i,al i->¬(nx<=i/\i<nx+32)) (aN:∀i,nx<=i->i<nx+32->fr i):Snd P Γ al fr m a w o (N2 tt ct s nx f tys (ts++ext)):=by
 intro q hk Q;unfold N2 at hk;split at hk;case h_1=>exact hk.elim
 rename_i c hc;split at hk;case h_1=>rename_i cs pn a2;exact Vb a5 h ho aD has (JB a5 hc) a2 aQ aN q hk Q
 rename_i a2;split at hk;case h_1=>rename_i pc aO;exact Vc a5 h ho aD has (JB a5 hc) a2 aO aQ aN q hk Q
 rename_i aO;split at hk;case h_1=>rename_i r0 tp a9;exact Vd a5 h ho aD has (JB a5 hc) a2 aO a9 q hk Q
 rename_i a9;have aA:=JB a5 hc;have aE:c.OkA P f/\(Γ.mono=true->c.mono=true):=⟨aA.1.a a2 aO a9,aA.2⟩;clear aA;split at hk;·exact hk.elim
 ·rename_i ds cells aR
  split at hk;·exact Va a5 h ho aD has aE aR q hk Q
  ·rename_i ks aY
   split at hk
   ·rename_i a6
    simp only[Bool.and_eq_true,Bool.not_eq_true']at a6;obtain⟨aS,aF⟩:=a6;have aS:=Ef aS;obtain⟨i,rfl,aT,hk⟩:=hk;obtain⟨d1,d2⟩:=JD (m:=m) aR;obtain⟨m1,m2⟩:=Qd aY
    have aZ:as.toList.map a.eval=ts.map (T.den m):=by
     clear hc aR d2 hk;generalize as.toList=l at has;induction has with|nil=>rfl|cons h1 _ ih=>simp[ih,(h.ev h1).1]
    let deps:=CN s c.mu cells 0
    let F:Nat->Prop:=λb=>Γ.may m deps b/\b<w.heap.size
    have a3:∀k ∈ ks,k ∉ deps:=λk hk hd=>by have:=List.any_eq_false.1 aF k hk;exact this (List.any_eq_true.2 ⟨k,hd,by simp⟩)
    obtain⟨mb,aU⟩:∃mb:Nat->List Nat,∀j k:Nat,ks[j]?=some k->∀(e:Nat)(ts:List Ty)(rows:List (List Dat)),lkp s.en k=some (.own e ts rows)->Fp w (.sl e ts) (.sl rows) (m.ε k) (mb j)/\(mb j).Nodup/\∀b ∈ mb j,Γ.mine b/\m.π b=k:=by
     have:∀j:Nat,∃bs:List Nat,∀k:Nat,ks[j]?=some k->∀(e:Nat)(ts:List Ty)(rows:List (List Dat)),lkp s.en k=some (.own e ts rows)->Fp w (.sl e ts) (.sl rows) (m.ε k) bs/\bs.Nodup/\∀b ∈ bs,Γ.mine b/\m.π b=k:=λj=>by
      cases hj:ks[j]? with
      |none=>exact⟨[],by simp⟩|some k=>
       cases hl:lkp s.en k with
       |none=>exact⟨[],λk' hk' e ts rows hl'=>by simp at hk';subst hk';rw[hl]at hl';cases hl'⟩|some E=>
        cases E with|own e ts rows=>obtain⟨bs,b1,b2,b3⟩:=(h.en _ _ hl).1;exact⟨bs,λk' hk' e' ts' rows' hl'=>by simp at hk';subst hk';rw[hl]at hl';simp only[Option.some.injEq,En.own.injEq]at hl';obtain⟨rfl,rfl,rfl⟩:=hl';exact⟨b1,b2,b3⟩⟩|_=>exact⟨[],λk' hk' e ts rows hl'=>by simp at hk';subst hk';rw[hl]at hl';cases hl'⟩
     exact Classical.skolem.1 this
    have a0:∀j,j<c.mu.length->∃k,ks[j]?=some k/\al k/\∀b ∈ mb j,Γ.mine b/\m.π b=k:=λj hj=>by obtain⟨k,e,ts,rows,k1,k2,k3⟩:=m2 j _ (List.getElem?_eq_getElem hj);exact⟨k,k1,(h.en _ _ k3).2.1,(aU j k k1 _ _ _ k3).2.2⟩
    have a4:ArgsAt F w c.mu mb ((c.args i).flatMap DA.cells) (cells.map (C.den m)):=by
     refine⟨by simp[d1.len],λb hb=>hb.2,λp d u hd hu hp=>?_,λj p hj=>?_,λj1 j2 b b0 h1 h2 hb1 hb2=>?_,λj b hj hb hF=>?_,h.stood,λj b hj hb hs=>?_⟩
     ·simp only[List.getElem?_map,Option.map_eq_some_iff]at hu
      obtain⟨c0,hc0,rfl⟩:=hu;obtain⟨t,ht⟩:=d1.get hc0 hd;have:=O4 h ht;have aG:∀b,Γ.may m (CD s c0) b/\b<w.heap.size->F b:=λb hb=>⟨EJ (FN (p0:=0) hc0 (by simpa using hp)) hb.1,hb.2⟩;cases d with|im v=>exact this|sl e ts rows=>exact RdS.mono aG _ _ _ this|ro d=>exact ROAt.mono aG this
     ·obtain⟨k,e,ts,rows,k1,k2,k3⟩:=m2 j p hj
      have hb:=aU j k k1 _ _ _ k3;refine⟨e,ts,rows,m.ε k,?_,by simp[k2,C.den],hb.1,hb.2.1⟩;have aH:p<((c.args i).flatMap DA.cells).length:=(by rw[← d1.len];exact(List.getElem?_eq_some_iff.1 k2).1);obtain⟨t,ht⟩:=d1.get k2 (List.getElem?_eq_getElem aH);rw[List.getElem?_eq_getElem aH,Qb ht k3]
     ·obtain⟨k,k1,-,k2⟩:=a0 j1 h1
      obtain⟨k',k1',-,k2'⟩:=a0 j2 h2;have e1:=(k2 b hb1).2;have e2:=(k2' b hb2).2;rw[e1]at e2;subst e2;exact b0 (N4 aS k1 k1')
     ·obtain⟨k,k1,k0,k2⟩:=a0 j hj
      have b4:k ∈ ks:=List.mem_of_getElem? k1;obtain⟨e1,e2⟩:=k2 b hb;rcases hF.1 with h1|h1|h1;·exact Γ.hG b h1 e1
      ·rw[e2]at h1;exact h.pos (h1.2 ▸ k0)
      ·rw[e2]at h1;exact a3 k b4 h1.2
     ·obtain⟨k,k1,k0,k2⟩:=a0 j hj
      exact Γ.hst b hs (k2 b hb).1
    have aB:=aE.1.run aE.2 i aT F w _ mb a4;obtain⟨fn,e1,e2,e3⟩:=aE.1.enter;have aI:(execOp a.eval o).run P w=.ok (.enter f (Be (c.args i) (cells.map (C.den m))).toArray) w:=(by have aV:as.map a.eval++(ext.map (T.den m)).toArray=(Be (c.args i) (cells.map (C.den m))).toArray:=(by apply Array.ext';rw[Array.toList_append,Array.toList_map,aZ,← d2,List.map_append]);simp only[execOp,ho,resolve,aD,Deferred.ofValue,Sem.run_bind,Sem.run_pure,Result.andThen_ok,invoke,callFunc,program,Sem.run,e1,aV,Array.empty_append];simp[e2,e3]);unfold Oper.wp;rw[aI];simp only[Oper.upon];refine aB.mono ?_;rintro e w' ⟨i1,aJ,rs,bs,rfl,hp,b5⟩;simp only
    have hk:q (FM s nx deps ks c.gone (c.res i1) (c.new i1)):=by
     unfold Con.to at aJ;cases halt:c.alt with|none=>rw[halt]at hk aJ;subst aJ;exact hk|some a=>rw[halt]at hk aJ;exact hk i1 aJ
    have hsm:=aE.1.small i1;let N:=(c.res i1).cells.length
    have aK:∀b ∈ bs,Γ.mine b:=λb hb=>by
     rcases hp.fresh b hb with h1|⟨j,_,hj,aL⟩;·exact .inl (Nat.le_trans h.old h1)
     ·obtain⟨k,-,-,k2⟩:=a0 j hj
      exact(k2 b aL).1
    obtain⟨r1,r2,g,r3,r4⟩:=MQ (Γ:=Γ) (deps:=deps) (nx:=nx) hp.res hp.nd aK;let π' : Nat->Nat:=λb=>if b ∈ bs then g b else if b<w.heap.size then m.π b else 0
    let M:Maps:=⟨m.β,λj=>if nx<=j/\j<nx+N then rs.getD (j-nx) undef else m.ε j,π'⟩
    have aW:∀b,b<w.heap.size->m.π b ∉ ks->b ∉ bs:=λb hb hk hx=>by
     rcases hp.fresh b hx with h1|⟨j,_,hj,aL⟩;·omega
     ·obtain⟨k,k1,-,k2⟩:=a0 j hj
      exact hk ((k2 b aL).2 ▸ List.mem_of_getElem? k1)
    have hπ:∀b,b<w.heap.size->m.π b ∉ ks->π' b=m.π b:=λb hb hk=>by simp only[π',if_neg (aW b hb hk),if_pos hb]
    have hFk:∀b,F b->Γ.mine b->m.π b ∉ ks:=λb hF hb hk=>by
     rcases hF.1 with h1|h1|h1;·exact Γ.hG b h1 hb
     ·obtain⟨j,hj⟩:=List.getElem?_of_mem hk
      have b6:j<c.mu.length:=(by rw[← m1];exact(List.getElem?_eq_some_iff.1 hj).1);obtain⟨k,k1,k0,-⟩:=a0 j b6;rw[k1]at hj;simp only[Option.some.injEq]at hj;rw[h1.2]at hj;exact h.pos (hj ▸ k0)
     ·exact a3 _ hk h1.2
    have aM:∀b,F b\/(w.heap.size<=b/\b ∉ bs)->Γ.may M deps b:=by
     intro b hb;rcases hb with⟨hb,aP⟩|⟨hb,hx⟩
     ·have e:Γ.mine b->M.π b=m.π b:=λh0=>hπ b aP (hFk b ⟨hb,aP⟩ h0)
      rcases hb with h1|h1|h1;·exact .inl h1
      ·exact .inr (.inl ⟨h1.1,by rw[e h1.1];exact h1.2⟩)
      ·exact .inr (.inr ⟨h1.1,by rw[e h1.1];exact h1.2⟩)
     ·exact .inr (.inl ⟨.inl (Nat.le_trans h.old hb),by show π' b=0;simp only[π',if_neg hx,if_neg (Nat.not_lt.2 hb)]⟩)
    obtain⟨x1,x2⟩:=r4 M aM (λq hq=>by show(if nx<=nx+q/\nx+q<nx+N then rs.getD (nx+q-nx) undef else m.ε (nx+q))=_;rw[if_pos ⟨by omega,by omega⟩,Nat.add_sub_cancel_left]) (λb hb=>by show π' b=_;simp only[π',if_pos hb]);have a7:Maps.same al m M:=λj hj=>⟨rfl,if_neg (by have:=aQ j hj;omega)⟩;have aX:∀k ∈ ks,k ∈ (FM s nx deps ks c.gone (c.res i1) (c.new i1)).us:=λk hk=>by simp only[Eff.us,FM,List.map_append,Qf];exact List.mem_append.2 (.inr hk)
    have a8:∀b,b<w.heap.size->(¬Γ.mine b\/m.π b ∉ ks)->w'.heap[b]?=w.heap[b]?:=λb hb h2=>hp.keep b hb λj hj aL=>by
     obtain⟨k,k1,-,k2⟩:=a0 j hj;have:=k2 b aL;rcases h2 with h2|h2;·exact h2 this.1
     ·exact h2 (this.2 ▸ List.mem_of_getElem? k1)
    refine⟨FM s nx deps ks c.gone (c.res i1) (c.new i1),M,hk,⟨?_,a7,?_,λb hb h2=>a8 b hb (h2.imp id λhx hy=>hx (aX _ hy)),λb hb hu=>hπ b hb λhk'=>hu (aX _ hk'),λj E hE=>?_,λj hj=>?_⟩⟩;·simp only[FM,RT.t_den,x1]
    ·exact⟨b5,hp.os,hp.tape,hp.output,hp.size,λb hb=>a8 b (Nat.lt_of_lt_of_le (Env.old hb) h.old) (.inl hb)⟩
    ·simp only[FM,Eu]at hE
     cases hl:lkp (MM deps (c.res i1).cells nx) j with
     |some E'=>rw[hl]at hE;obtain rfl:=Option.some.inj hE;obtain⟨e1,e2,e3⟩:=x2 j E' hl;exact⟨e2,.inr (aN j e1.1 (by omega)),λj' hj'=>.inl (MP h (e3 j' hj'))⟩
     |none=>
      rw[hl,Option.none_or]at hE;obtain⟨j',k1,rfl⟩:=Qe hE;have hj' : j' < c.mu.length:=(by rw[← m1];exact(List.getElem?_eq_some_iff.1 k1).1);obtain⟨k,e,ts,rows,k1',k2,k3⟩:=m2 j' _ (List.getElem?_eq_getElem hj');rw[k1]at k1';obtain rfl:=Option.some.inj k1';rw[k3];simp only[Nat.zero_add];obtain⟨b1,b2,b3⟩:=aU j' j k1 _ _ _ k3;have aC:=(h.en _ _ k3).2.1;cases a1:Y2 c.gone j' with
      |true=>exact⟨trivial,.inl aC,by simp[En.ids]⟩|false=>
      have a1:=SK a1;obtain⟨e',ts',rows',u,q1,q2,-,-⟩:=a4.own j' _ (List.getElem?_eq_getElem hj');obtain⟨bt,b7,t2,t3,-⟩:=hp.turned j' _ e' ts' rows' u a1 (List.getElem?_eq_getElem hj') q1 q2;refine⟨⟨bt,?_,t2,λb hb=>⟨(b3 b (t3 b hb)).1,?_⟩⟩,.inl aC,by simp[En.ids]⟩
      ·have this:=b7
       have hu:u=m.ε j:=(by simp only[List.getElem?_map,k2,Option.map_some,Option.some.injEq,C.den]at q2;exact q2.symm);rw[hu]at this;rw[(a7 j aC).2];have hd:e'=e/\ts'=ts:=(by obtain⟨t,ht⟩:=d1.get k2 q1;have:=Qb ht k3;simp only[DC.sl.injEq]at this;exact⟨this.1,this.2.1⟩);rw[← hd.1,← hd.2];exact this
      ·show π' b=j
       have hb:=t3 b hb;have aP:=Fp.lt _ _ _ _ b1 b hb
       have aW:b ∉ bs:=λhx=>by
        rcases hp.fresh b hx with h1|⟨j2,hj2,hl2,hb2⟩;·omega
        ·exact a4.dis j' j2 b (λe=>a1 (e ▸ hj2)) hj' hl2 hb hb2
       simp only[π',if_neg aW,if_pos aP];exact(b3 b hb).2
    ·obtain⟨c',hc',hj⟩:=RT.t_ids hj
     have:=r2 c' hc' j hj;exact .inr (aN j this.1 (by omega))
   ·exact hk.elim
end
theorem FpRow.setAt{w:World}{d' : Dat}{c:Value}{b2:List Nat} : ∀(ts:List Ty)(ds:List Dat)(vs:List Value)(bs:List Nat)(i:Nat),FpRow w ts ds vs bs->bs.Nodup->i<ts.length->Fp w (ts.getD i .int) d' c b2->b2.Nodup->(∀b ∈ b2,b ∉ bs) ->
  ∃bs',FpRow w ts (ds.set i d') (vs.set i c) bs'/\bs'.Nodup/\∀b ∈ bs',b ∈ bs\/b ∈ b2
 | [],_,_,_,_,_,_,hi,_,_,_=>by simp at hi|t::ts,[],_,_,_,h,_,_,_,_,_=>by simp[FpRow]at h|t::ts,_::_,[],_,_,h,_,_,_,_,_=>by simp[FpRow]at h|t::ts,d::ds,v::vs,bs,0,h,hn,_,hf,h2,hd=>by simp only[List.getD_cons_zero,List.set_cons_zero,FpRow]at *;obtain⟨b1,b3,rfl,h1,h3⟩:=h;have hn':=List.nodup_append.1 hn;refine⟨b2++b3,⟨b2,b3,rfl,hf,h3⟩,List.nodup_append.2 ⟨h2,hn'.2.1,λa ha b hb e=>hd a ha (by subst e;simp[hb])⟩,λb hb=>?_⟩;rcases List.mem_append.1 hb with hb|hb;exact .inr hb;exact .inl (by simp[hb])
 |t::ts,d::ds,v::vs,bs,i+1,h,hn,hi,hf,h2,hd=>by simp only[List.getD_cons_succ,List.set_cons_succ,FpRow]at *;obtain⟨b1,b3,rfl,h1,h3⟩:=h;have hn':=List.nodup_append.1 hn;obtain⟨bs',q1,q2,q3⟩:=FpRow.setAt ts ds vs b3 i h3 hn'.2.1 (by simpa using hi) hf h2 (λb hb hb3=>hd b hb (by simp[hb3]));refine⟨b1++bs',⟨b1,bs',rfl,h1,q1⟩,List.nodup_append.2 ⟨hn'.1,q2,λa ha b hb e=>?_⟩,λb hb=>?_⟩;subst e;rcases q3 a hb with hb|hb;exact hn'.2.2 a ha a hb rfl;exact hd a hb (by simp[ha]);rcases List.mem_append.1 hb with hb|hb;exact .inl (by simp[hb]);rcases q3 b hb with hb|hb;exact .inl (by simp[hb]);exact .inr hb
theorem N6{bss:List (List Nat)}{j:Nat}{bj:List Nat}(h:bss.flatten.Nodup)(hj:j<bss.length)(hb:bj.Nodup)(hd:∀b ∈ bj,b ∈ bss.flatten->b ∈ bss.getD j []):(bss.set j bj).flatten.Nodup:=by
 refine List.pairwise_flatten.2 ⟨λl hl=>?_,?_⟩;rcases List.mem_or_eq_of_mem_set hl with hl|rfl;exact(List.pairwise_flatten.1 h).1 l hl;exact hb;rw[List.pairwise_iff_getElem];intro a b ha hb' a0 x hx y hy e;subst e;simp only[List.length_set]at ha hb';rw[List.getElem_set]at hx hy;have key:∀k,k<bss.length->k≠j->x ∈ bss.getD k []->x ∈ bj->False:=λk hk a1 h1 h2=>by exact Il h a1 h1 (hd x h2 (AM h1))
 have eg:∀k (hk:k<bss.length),bss.getD k []=bss[k]:=λk hk=>by simp[List.getD,hk]
 split at hx;split at hy;omega;rename_i e1 e2;exact key b hb' (λe=>e2 e.symm) (by rw[eg b hb'];exact hy) hx;split at hy;rename_i e1 e2;exact key a ha (λe=>e1 e.symm) (by rw[eg a ha];exact hx) hy;exact Il h (Nat.ne_of_lt a0) (by rw[eg a ha];exact hx) (by rw[eg b hb'];exact hy)
theorem DD{bss:List (List Nat)}{j:Nat}{bj:List Nat}{b:Nat}(h:b ∈ (bss.set j bj).flatten):b ∈ bss.flatten\/b ∈ bj:=by obtain⟨l,hl,hb⟩:=List.mem_flatten.1 h;rcases List.mem_or_eq_of_mem_set hl with hl|rfl;exact .inl (List.mem_flatten.2 ⟨l,hl,hb⟩);exact .inr hb
theorem Kt{sz:Nat}{row' : List Value}(a0 : row'.length=sz):∀(rows:List (List Value))(j:Nat),(∀r ∈ rows,r.length=sz)->j<rows.length->rows.flatten.take (j*sz)++row'++rows.flatten.drop (j*sz+row'.length)=(rows.set j row').flatten:=by
 intro rows;induction rows with
 |nil=>intro j _ hj;simp at hj|cons x r ih=>
  intro j hr hj;have hx:=hr x (by simp);cases j with|zero=>simp[a0,hx]|succ j=>have:=ih j (λq hq=>hr q (by simp[hq])) (by simpa using hj);simp only[List.flatten_cons,List.set_cons_succ,← this];rw[List.take_append,List.drop_append,List.take_of_length_le (by rw[hx,Nat.add_mul];omega),List.drop_of_length_le (by rw[hx,Nat.add_mul];omega)];have e1:(j+1)*sz-x.length=j*sz:=(by rw[hx,Nat.add_mul];omega);have e2:(j+1)*sz+row'.length-x.length=j*sz+row'.length:=(by rw[hx,Nat.add_mul];omega);rw[e1,e2];simp
theorem Fp.setCell{w:World}{e:Nat}{ts:List Ty}{L:List (List Dat)}{g len cap:Nat}{bs:List Nat}{j i:Nat}(h:Fp w (.sl e ts) (.sl L) (.slice (some ⟨g,0,none⟩) len cap) bs)(hn:bs.Nodup)(hj:j<L.length)(hi:i<ts.length)
  {d' : Dat} {c:Value} {b2:List Nat} (hf:Fp w (ts.getD i .int) d' c b2) (h2:b2.Nodup) (hd:∀b ∈ b2,b ∉ bs) :
  ∃bs',Fp (w.setCell ⟨g,j*ts.length+i,none⟩ c) (.sl e ts) (.sl (L.set j ((L.getD j []).set i d'))) (.slice (some ⟨g,0,none⟩) len cap) bs'/\bs'.Nodup/\∀b ∈ bs',b ∈ bs\/b ∈ b2:=by
 simp only[Fp]at h;obtain⟨rows,bss,h1,h2',h3,h4,h5,rfl⟩:=h;have hn':=hn;simp only[Value.ownBlock,Option.toList_some,List.singleton_append,List.nodup_cons]at hn';have a6:len=rows.length:=by rcases h1.2 with⟨h,_⟩|⟨g',cap',cur,h,_⟩;simp at h;simp at h;exact h.2.1
 subst a6;have a4:(rows.getD j []).length=ts.length:=h4 _ (by simp[List.getD,show j<rows.length by omega]);have hxl:rows.flatten.length=rows.length*ts.length:=h1.1;have hjl:j*ts.length+ts.length<=rows.length*ts.length:=by have:=Nat.mul_le_mul_right ts.length (show j+1<=rows.length by omega);rw[Nat.add_mul]at this;omega
 have a3:g ∉ bss.flatten:=hn'.1;have hg2:g ∉ b2:=λhb=>hd g hb (by simp[Value.ownBlock]);have a0:∀i,i<ts.length->w.cell? ⟨g,j*ts.length+i,none⟩=(rows.getD j [])[i]?:=λi hi=>by rw[h1.cellAt _ (by omega)];have:=CJ rows ts.length h4 (j*ts.length+i) (by rw[Nat.mul_comm,Nat.mul_add_div (by omega),Nat.div_eq_of_lt hi];omega) (Nat.mod_lt _ (by omega));rw[this,Nat.mul_comm,Nat.mul_add_div (by omega),Nat.div_eq_of_lt hi,Nat.mul_add_mod,Nat.mod_eq_of_lt hi,Nat.add_zero];simp only[List.getD,List.getElem?_eq_getElem (show i<(rows[j]?.getD []).length by have:=a4;simp only[List.getD]at this;omega),Option.getD_some]
 have hst:=Oz g (rows.getD j []) w (j*ts.length) i c (λk hk=>a0 k (by omega)) (by omega);obtain⟨bj',q1,q2,q3⟩:=FpRow.setAt ts _ _ _ i (h5 j hj) (Nn hn'.2 j) hi hf h2 (λb hb hb3=>hd b hb (List.mem_append.2 (.inr (AM hb3))));have a5:g ∉ bj':=λhb=>(q3 g hb).elim (λh=>a3 (AM h)) hg2;have ho:OnlyIn (λb=>b=g) w (w.setCell ⟨g,j*ts.length+i,none⟩ c):=(OnlyIn.refl _ w).setCell (S:=λb=>b=g) rfl c;have a1 : ((rows.getD j []).set i c).length=ts.length:=by rw[List.length_set];exact a4
 refine⟨[g]++(bss.set j bj').flatten,?_,?_,?_⟩;simp only[Fp];refine⟨rows.set j ((rows.getD j []).set i c),bss.set j bj',?_,by simp[h2'],by simp[h3],?_,?_,by simp[Value.ownBlock]⟩;have o1:=HL ((rows.getD j []).set i c) w (j*ts.length) rows.flatten h1 (by omega);rw[hst,Kt a1 rows j h4 (by omega)]at o1;simpa using o1;intro r hr;rcases List.mem_or_eq_of_mem_set hr with hr|rfl;exact h4 r hr;exact a1;intro k hk;simp only[List.length_set]at hk;by_cases a2:k=j;subst a2;have e1:(L.set k ((L.getD k []).set i d')).getD k []=(L.getD k []).set i d':=by simp[List.getD,hk]
 have e2:(rows.set k ((rows.getD k []).set i c)).getD k []=(rows.getD k []).set i c:=by simp[List.getD,show k<rows.length by omega]
 have e3:(bss.set k bj').getD k []=bj':=by simp[List.getD,show k<bss.length by omega]
 rw[e1,e2,e3];exact FpRow.only ho _ _ _ _ q1 (λb hb e=>a5 (e ▸ hb));have e1:(L.set j ((L.getD j []).set i d')).getD k []=L.getD k []:=by simp[List.getD,List.getElem?_set_ne (λe=>a2 e.symm)]
 have e2:(rows.set j ((rows.getD j []).set i c)).getD k []=rows.getD k []:=by simp[List.getD,List.getElem?_set_ne (λe=>a2 e.symm)]
 have e3:(bss.set j bj').getD k []=bss.getD k []:=by simp[List.getD,List.getElem?_set_ne (λe=>a2 e.symm)]
 rw[e1,e2,e3];exact FpRow.only ho _ _ _ _ (h5 k hk) (λb hb e=>a3 (AM (e ▸ hb)));simp only[List.singleton_append,List.nodup_cons];refine⟨λhb=>?_,N6 hn'.2 (by omega) q2 (λb hb hb2=>?_)⟩;rcases DD hb with hb|hb;exact a3 hb;exact a5 hb;rcases q3 b hb with hb|hb;exact hb;exact absurd (List.mem_append.2 (.inr hb2)) (hd b hb);intro b hb;simp only[List.singleton_append,List.mem_cons]at hb;rcases hb with rfl|hb;exact .inl (by simp[Value.ownBlock]);rcases DD hb with hb|hb;exact .inl (List.mem_append.2 (.inr hb));rcases q3 b hb with hb|hb;exact .inl (List.mem_append.2 (.inr (AM hb)));exact .inr hb
theorem Fp.setRow{w:World}{e:Nat}{ts:List Ty}{L:List (List Dat)}{g len cap:Nat}{bs:List Nat}{j:Nat}(h:Fp w (.sl e ts) (.sl L) (.slice (some ⟨g,0,none⟩) len cap) bs)(hn:bs.Nodup)(hj:j<L.length)
  {ds:List Dat} {cs:List Value} {b2:List Nat} (hf:FpRow w ts ds cs b2) (h2:b2.Nodup) (hd:∀b ∈ b2,b ∉ bs) :
  ∃bs',Fp (stN w g (j*ts.length) cs) (.sl e ts) (.sl (L.set j ds)) (.slice (some ⟨g,0,none⟩) len cap) bs'/\bs'.Nodup/\∀b ∈ bs',b ∈ bs\/b ∈ b2:=by
 simp only[Fp]at h;obtain⟨rows,bss,h1,h2',h3,h4,h5,rfl⟩:=h;have hn':=hn;simp only[Value.ownBlock,Option.toList_some,List.singleton_append,List.nodup_cons]at hn';have a3:len=rows.length:=by rcases h1.2 with⟨h,_⟩|⟨g',cap',cur,h,_⟩;simp at h;simp at h;exact h.2.1
 subst a3;have a0 : cs.length=ts.length:=(RdRow.lens _ _ _ (FpRow.rd _ _ _ _ hf)).2;have hxl:rows.flatten.length=rows.length*ts.length:=h1.1;have hjl:j*ts.length+ts.length<=rows.length*ts.length:=by have:=Nat.mul_le_mul_right ts.length (show j+1<=rows.length by omega);rw[Nat.add_mul]at this;omega
 have a2:g ∉ bss.flatten:=hn'.1;have hg2:g ∉ b2:=λhb=>hd g hb (by simp[Value.ownBlock]);have ho:OnlyIn (λb=>b=g) w (stN w g (j*ts.length) cs):=Et g cs w _;refine⟨[g]++(bss.set j b2).flatten,?_,?_,?_⟩;simp only[Fp];refine⟨rows.set j cs,bss.set j b2,?_,by simp[h2'],by simp[h3],?_,?_,by simp[Value.ownBlock]⟩;have o1:=HL cs w (j*ts.length) rows.flatten h1 (by omega);rw[Kt a0 rows j h4 (by omega)]at o1;simpa using o1;intro r hr;rcases List.mem_or_eq_of_mem_set hr with hr|rfl;exact h4 r hr;exact a0;intro k hk;simp only[List.length_set]at hk;by_cases a1:k=j;subst a1;have e1:(L.set k ds).getD k []=ds:=by simp[List.getD,hk]
 have e2:(rows.set k cs).getD k []=cs:=by simp[List.getD,show k<rows.length by omega]
 have e3:(bss.set k b2).getD k []=b2:=by simp[List.getD,show k<bss.length by omega]
 rw[e1,e2,e3];exact FpRow.only ho _ _ _ _ hf (λb hb e=>hg2 (e ▸ hb));have e1:(L.set j ds).getD k []=L.getD k []:=by simp[List.getD,List.getElem?_set_ne (λe=>a1 e.symm)]
 have e2:(rows.set j cs).getD k []=rows.getD k []:=by simp[List.getD,List.getElem?_set_ne (λe=>a1 e.symm)]
 have e3:(bss.set j b2).getD k []=bss.getD k []:=by simp[List.getD,List.getElem?_set_ne (λe=>a1 e.symm)]
 rw[e1,e2,e3];exact FpRow.only ho _ _ _ _ (h5 k hk) (λb hb e=>a2 (AM (e ▸ hb)));simp only[List.singleton_append,List.nodup_cons];refine⟨λhb=>?_,N6 hn'.2 (by omega) h2 (λb hb hb2=>absurd (List.mem_append.2 (.inr hb2)) (hd b hb))⟩;rcases DD hb with hb|hb;exact a2 hb;exact hg2 hb;intro b hb;simp only[List.singleton_append,List.mem_cons]at hb;rcases hb with rfl|hb;exact .inl (by simp[Value.ownBlock]);rcases DD hb with hb|hb;exact .inl (List.mem_append.2 (.inr hb));exact .inr hb
def H4(tt:TT)(s:St)(t k sz i j:Nat)(v:T)(q:Eff->Prop):Prop:=False
def ABZ(tt:TT)(t:Nat):Bool:=
 match lkp tt t with|some ti=>Nat.beq ti.size 1|none=>true
def H5(tt:TT)(s:St)(t k sz i j:Nat)(v:T)(q:Eff->Prop):Prop:=
 match lkp tt t,lkp s.en k,v.cs with
 |some ti,some (.own e ts rows),some [c]=>
  match UC s (ts.getD j .int) c with
  |some (d,ks)=>
   if(c.fit s && Nat.beq ti.size 1 && Nat.blt j ts.length && Nat.beq sz ts.length && !(ks.any (Nat.beq k)))=true then
    i<rows.length/\q ⟨T.ofV undef,(k,.own e ts (rows.set i ((rows.getD i []).set j d)))::ks.map λx=>(x,.dead)⟩
   else False
  |none=>False
 |_,_,_=>False
section
variable {P : Program} {tt : TT} {Γ : Env} {n : Nat} {w0 : World} {al fr : Nat → Prop} {s : St} {m : Maps} {a : Act} {w : World} {nx : Nat} {o : Oper}
theorem W3{ks:List Nat}{i:Nat}{E:En}(h:lkp (ks.map λx=>(x,En.dead)) i=some E):E=.dead/\i ∈ ks:=by
 induction ks with|nil=>simp[lkp]at h|cons x r ih=>rw[List.map_cons,AY]at h;split at h;rename_i e;subst e;obtain rfl:=Option.some.inj h;exact⟨rfl,by simp⟩;obtain⟨h1,h2⟩:=ih h;exact⟨h1,by simp[h2]⟩
theorem SN(hT:TTok P tt)(h:R Γ n w0 al s m a w){t k sz i j:Nat}{x y:Operand}{v:T}(ho:o.op=.store t x y)(hx:a.eval x=C5 (m.ε k) (i*sz+j))(hy:a.eval y=v.den m) :
  Snd P Γ al fr m a w o (H5 tt s t k sz i j v):=by
 intro q hq Q;unfold H5 at hq;split at hq;rename_i ti e ts rows c aA hk hc;split at hq;rename_i d ks a5;split at hq;rename_i a0;simp only[Bool.and_eq_true,Nat.beq_eq,Nat.blt_eq,Bool.not_eq_true']at a0;obtain⟨⟨⟨⟨a6,hs1⟩,hj⟩,aB⟩,a7⟩:=a0;subst aB;have a7:k ∉ ks:=λhm=>by have:=List.any_eq_false.1 a7 k hm;simp at this
 obtain⟨hi,hq⟩:=hq;obtain⟨⟨bs,f1,f2,f3⟩,aC,-⟩:=h.en _ _ hk;obtain⟨⟨b2,g1,g2,g3⟩,aD⟩:=QN h a5;obtain⟨g,len,cap,he,aE,a1,a8⟩:∃g len cap,m.ε k=.slice (some ⟨g,0,none⟩) len cap/\g ∈ bs/\(w.cell? ⟨g,i*ts.length+j,none⟩).isSome=true/\w.frozen? ⟨g,i*ts.length+j,none⟩=false:=by have f1':=f1;simp only[Fp]at f1';obtain⟨rv,bss,o1,o2,o3,o4,o5,o6⟩:=f1';rcases o1.2 with⟨e1,e2⟩|⟨g,cap,cur,e1,_⟩;omega;have f1'':=f1;rw[e1]at f1'';obtain⟨row,bj,r1,r2,r3,r4,r5,r6,_⟩:=Fp.row f1'' f2 hi;exact⟨g,_,_,e1,r6,by rw[r1 j hj];rfl,r2 _⟩
 rw[he]at f1;obtain⟨bs',p1,p2,p3⟩:=Fp.setCell f1 f2 hi hj g1 g2 (λb hb hb2=>a7 (by have:=(g3 b hb).2;rw[(f3 b hb2).2]at this;exact this));have a2:=h.fit a6;have aF:=T.cs_cells hc (m:=m) (λx hx=>by simp only[List.mem_singleton]at hx;subst hx;exact a2);have hg:=f3 g aE;refine Oper.wp_skip (w':=w.setCell ⟨g,i*ts.length+j,none⟩ (c.den m)) ?_ ⟨_,⟨m.β,m.ε,λb=>if b ∈ bs' then k else m.π b⟩,hq,?_⟩;have hst:=run_store P w ⟨g,i*ts.length+j,none⟩ (c.den m) .plain a2;obtain⟨u,hu⟩:=Option.isSome_iff_exists.1 a1;rw[hu]at hst;simp only[a8,Bool.false_eq_true,if_false]at hst;have a9:(⟨g,0,none⟩:Addr).add (i*ts.length+j)=⟨g,i*ts.length+j,none⟩:=by unfold Addr.add;split;rename_i h0;rw[h0];simp
 have a3:(⟨g,i*ts.length+j,none⟩:Addr).add 0=⟨g,i*ts.length+j,none⟩:=rfl;simp only[execOp,ho,Sem.run_bind,Sem.run_pure,hx,hy,he,C5,a9,Instr.storeAt,Instr.sureAddr,storeVar,Result.andThen_ok,(hT _ _ aA).sizeOf,aF];rw[if_neg (by simp[hs1])];simp[storeCells,a3,hst];have aG:∀b,b ∈ bs'->m.π b ∈ (k::ks):=λb hb=>by rcases p3 b hb with hb|hb;rw[(f3 b hb).2];simp;have:=(g3 b hb).2;simp[this]
 have a4:Eff.us ⟨T.ofV undef,(k,En.own e ts (rows.set i ((rows.getD i []).set j d)))::ks.map λx=>(x,En.dead)⟩=k::ks:=by simp[Eff.us,List.map_map,Function.comp_def]
 refine⟨rfl,λ_ _=>⟨rfl,rfl⟩,⟨λ_=>Nat.le_refl _,rfl,rfl,rfl,by simp[World.setCell],λb hb=>Below.heap_setCell _ _ _ _ (λe=>by simp only at e;exact hb (e ▸ hg.1))⟩,?_,?_,?_,by simp[T.ofV,T.ids,A.ids,C.ids]⟩;intro b hb hb2;refine Below.heap_setCell _ _ _ _ (λe=>?_);simp only at e;subst e;rw[a4]at hb2;rcases hb2 with hb2|hb2;exact hb2 hg.1;exact hb2 (by rw[hg.2];simp);intro b hb hb2;rw[a4]at hb2;exact if_neg λhm=>hb2 (aG b hm);intro z E hE;rw[AY]at hE;split at hE;rename_i ez;subst ez;obtain rfl:=Option.some.inj hE;refine⟨⟨bs',by simp only[he];exact p1,p2,λb hb=>⟨?_,if_pos hb⟩⟩,.inl aC,by simp[En.ids]⟩;rcases p3 b hb with hb|hb;exact(f3 b hb).1;exact(g3 b hb).1;obtain⟨rfl,hz⟩:=W3 hE;exact⟨trivial,.inl (aD z hz),by simp[En.ids]⟩;exact hq.elim;exact hq.elim;exact hq.elim
theorem SO(hT:TTok P tt)(h:R Γ n w0 al s m a w){t k sz i j:Nat}{x y:Operand}{v:T}(ho:o.op=.store t x y)(hx:a.eval x=C5 (m.ε k) (i*sz+j))(hy:a.eval y=v.den m) :
  Snd P Γ al fr m a w o (H4 tt s t k sz i j v):=by intro q hk Q;unfold H4 at hk;exact hk.elim
end
def H6(tt:TT)(s:St)(t k sz i j:Nat)(v:T)(q:Eff->Prop):Prop:=False
def ABa(s:St)(k:Nat):Bool:=
 match lkp s.en k with|some (.top _ _ _ _)=>true|_=>false
def ACD(s:St)(k:Nat):Bool:=
 match lkp s.en k with|some (.mu _ _ _ _)=>true|_=>false
def W4:T->Ty->Option (Dat×Value)
 | .one (.one (.im (.int .i64 n))),.int=>some (.int n,.int .i64 n)| .one (.one (.im (.bool b))),.bool=>some (.bool b,.bool b)| .one (.one (.im (.string b))),.str=>some (.str b,.string b)|_,_=>none
def H7(tt:TT)(s:St)(t k sz i j:Nat)(v:T)(q:Eff->Prop):Prop:=
 match lkp tt t,lkp s.en k with
 |some ti,some (.mu e ts rows j0)=>
  match W4 v (ts.getD j .int)with
  |some (d,_)=>
   if(Nat.beq ti.size 1 && Nat.blt j ts.length && Nat.beq sz ts.length)=true then
    i<rows.length/\∀R:List (List Dat),R=Fh rows i j d->q ⟨T.ofV undef,[(k,.mu e ts R j0)]⟩
   else False
  |none=>False
 |_,_=>False
theorem RdRowS.setAt{F:Nat->Prop}{w:World}{d:Dat}{c:Value} : ∀(ts:List Ty)(ds:List Dat)(vs:List Value)(i:Nat),RdRowS F w ts ds vs->i<ts.length->RdS F w (ts.getD i .int) d c->RdRowS F w ts (ds.set i d) (vs.set i c)
 | [],_,_,_,_,hi,_=>by simp at hi|t::ts,[],_,_,h,_,_=>by simp[RdRowS]at h|t::ts,_::_,[],_,h,_,_=>by simp[RdRowS]at h|t::ts,d0::ds,v::vs,0,h,_,hd=>by simp only[List.getD_cons_zero,List.set_cons_zero,RdRowS]at *;exact⟨hd,h.2⟩|t::ts,d0::ds,v::vs,i+1,h,hi,hd=>by simp only[List.getD_cons_succ,List.set_cons_succ,RdRowS]at *;exact⟨h.1,RdRowS.setAt ts ds vs i h.2 (by simpa using hi) hd⟩
section
variable {P : Program} {tt : TT} {Γ : Env} {n : Nat} {w0 : World} {al fr : Nat → Prop} {s : St} {m : Maps} {a : Act} {w : World} {nx : Nat} {o : Oper}
theorem W5{v:T}{t:Ty}{d:Dat}{u:Value}(h:W4 v t=some (d,u)):t.leaf=true/\(∀m:Maps,v.den m=u)/\v.ids=[]/\(∀w,Fp w t d u [])/\u.oneCell'=true/\u.cells=#[u]:=by unfold W4 at h;split at h;simp only[Option.some.injEq,Prod.mk.injEq]at h;obtain⟨rfl,rfl⟩:=h;exact⟨rfl,λ_=>rfl,rfl,λw=>by simp[Fp],rfl,rfl⟩;simp only[Option.some.injEq,Prod.mk.injEq]at h;obtain⟨rfl,rfl⟩:=h;exact⟨rfl,λ_=>rfl,rfl,λw=>by simp[Fp],rfl,rfl⟩;simp only[Option.some.injEq,Prod.mk.injEq]at h;obtain⟨rfl,rfl⟩:=h;exact⟨rfl,λ_=>rfl,rfl,λw=>by simp[Fp],rfl,rfl⟩;cases h
theorem SP(hT:TTok P tt)(h:R Γ n w0 al s m a w){t k sz i j:Nat}{x y:Operand}{v:T}(ho:o.op=.store t x y)(hx:a.eval x=C5 (m.ε k) (i*sz+j))(hy:a.eval y=v.den m) :
  Snd P Γ al fr m a w o (H7 tt s t k sz i j v):=by
 intro q hq Q;unfold H7 at hq;split at hq;rename_i ti e ts rows j0 a7 hk;split at hq;rename_i d u hd;split at hq;rename_i a0;simp only[Bool.and_eq_true,Nat.beq_eq,Nat.blt_eq]at a0;obtain⟨⟨hs1,hj⟩,a8⟩:=a0;subst a8;obtain⟨l1,l2,l3,l4,l5,l6⟩:=W5 hd;rw[l2]at hy;obtain⟨hi,hq⟩:=hq;obtain⟨⟨f0,f1,f2,f3⟩,a9,-⟩:=h.en _ _ hk;obtain⟨g,cap,he,a3⟩:∃g cap,m.ε k=.slice (some ⟨g,0,none⟩) rows.length cap/\g ∈ Γ.mb j0:=by have f1':=f1;simp only[Fp]at f1';obtain⟨rv,bss,o1,o2,o3,o4,o5,o6⟩:=f1';rcases o1.2 with⟨e1,e2⟩|⟨g,cap,cur,e1,_⟩;omega;exact⟨g,cap,by rw[e1,o2],by rw[o6,e1];simp[Value.ownBlock]⟩
 rw[he]at f1;obtain⟨row,bj,r1,r2,r3,r4,r5,r6,_⟩:=Fp.row f1 f2 hi;have a4:rows.set i (rows.getD i [])=rows:=by simp[List.getD,hi]
 have a5:=Fp.leafAt (ld:=rows.getD i []) (by rw[a4];exact f1) f2 hi j hj (by simpa[List.getD,hj]using l1) d u (λw'=>by simpa[List.getD,hj]using l4 w');have a1:=r1 j hj;have hst:=run_store P w ⟨g,i*ts.length+j,none⟩ u .plain l5;rw[a1]at hst;simp only[r2,Bool.false_eq_true,if_false]at hst;have a6:(⟨g,0,none⟩:Addr).add (i*ts.length+j)=⟨g,i*ts.length+j,none⟩:=by unfold Addr.add;split;rename_i h0;rw[h0];simp
 have a2:(⟨g,i*ts.length+j,none⟩:Addr).add 0=⟨g,i*ts.length+j,none⟩:=rfl;refine Oper.wp_skip (w':=w.setCell ⟨g,i*ts.length+j,none⟩ u) ?_ ⟨_,m,hq _ rfl,?_⟩;simp only[execOp,ho,Sem.run_bind,Sem.run_pure,hx,hy,he,C5,a6,Instr.storeAt,Instr.sureAddr,storeVar,Result.andThen_ok,(hT _ _ a7).sizeOf,l6];rw[if_neg (by simp[hs1])];simp[storeCells,a2,hst];refine⟨rfl,λ_ _=>⟨rfl,rfl⟩,⟨λ_=>Nat.le_refl _,rfl,rfl,rfl,by simp[World.setCell],λb hb=>Below.heap_setCell _ _ _ _ (λe=>by simp only at e;exact hb (e ▸ .inr ⟨j0,a3⟩))⟩,?_,λ_ _ _=>rfl,?_,by simp[T.ofV,T.ids,A.ids,C.ids]⟩;intro b hb hb2;refine Below.heap_setCell _ _ _ _ (λe=>?_);simp only at e;subst e;rcases hb2 with hb2|hb2;exact hb2 (.inr ⟨j0,a3⟩);exact hb2 (by rw[f3 _ a3];simp[Eff.us]);intro z E hE;rw[AY]at hE;split at hE;rename_i ez;subst ez;obtain rfl:=Option.some.inj hE;exact⟨⟨f0,by rw[he];exact a5,f2,f3⟩,.inl a9,by simp[En.ids]⟩;simp[lkp]at hE;exact hq.elim;exact hq.elim;exact hq.elim
theorem SQ(hT:TTok P tt)(h:R Γ n w0 al s m a w){t k sz i j:Nat}{x y:Operand}{v:T}(ho:o.op=.store t x y)(hx:a.eval x=C5 (m.ε k) (i*sz+j))(hy:a.eval y=v.den m) :
  Snd P Γ al fr m a w o (H6 tt s t k sz i j v):=by intro q hk Q;unfold H6 at hk;exact hk.elim
end
def LX(s:St)(x:Operand):Option Value:=(ev s x).bind T.im
def cOf(s:St)(x:Operand):Option C:=(ev s x).bind T.c?
def W6(s:St)(c a b:Operand):Option (Option Prop×T):=
 match LX s c,LX s a,LX s b with|some (.bool t),some va,some vb=>some (none,T.ofV (match t with|true=>va|false=>vb))|_,_,_=>none
def O5(tt:TT)(t:Nat):Bool:=
 match lkp tt t with|some {d:=.bool,..}=>true|_=>false
def SU(tt:TT)(s:St)(op:BinOp)(t:Nat)(x y:Operand):Option (Option Prop×T):=
 match LX s x,LX s y with
 |some (.bool a),some (.bool b)=>
  match O5 tt t,op with|true,.eql=>some (none,T.ofV (.bool (a == b)))|true,.neq=>some (none,T.ofV (.bool (a != b)))|_,_=>none
 |some a,some b=>(AAY op a b).map λr=>(r.1,T.ofV r.2)|_,_=>none
def W7(s:St)(op:UnOp)(x:Operand):Option (Option Prop×T):=
 match LX s x with|some a=>(xun op a).map λr=>(none,T.ofV r)|none=>none
def MS(s:St)(x:Operand)(i:Nat):Option (Option Prop×T):=
 match ev s x with|some (.tup as)=>(as[i]?).map λa=>(none,.one a)|_=>none
def SV(tt:TT)(s:St)(t:Nat)(x:Operand)(f:Nat):Option (Option Prop×T):=
 match ev s x,QK tt t f with
 |some (.one (.agg cs)),some (o,ti)=>
  match sub cs o ti.size with|some c=>(T.ofCs ti.d.agg c).map (none,·)|none=>none
 |_,_=>none
def xfa(tt:TT)(s:St)(t:Nat)(x:Operand)(f:Nat):Option (Option Prop×T):=
 match cOf s x with
 |some (.ep k _ i _)=>
  match EI s k,Ev tt t (ev s x) f with|some (_,_,rows,_),some (none,v)=>some (some (i<rows.length),v)|_,_=>none
 |some (.ext k)=>Y0 tt s t k 0 f|some (.pp k o)=>Y0 tt s t k o f|_=>Ev tt t (ev s x) f
def AAc(s:St)(x:Operand):Option (Option Prop×T):=
 match cOf s x with|some (.bp i o)=>some (none,.one (.one (.bp i o)))|_=>none
def AAd(tt:TT)(s:St)(t:Nat)(x:Operand):Option (Option Prop×T):=
 match cOf s x,lkp tt t with
 |some (.ext k),some {d:=.slice _,..}=>
  match EI s k with
  |some (_,_,rows,_)=>some (none,T.ofV (.int .i64 (rows.length:Nat)))|none=>match SJ s k with|some (.bytes bs)=>some (none,T.ofV (.int .i64 (bs.length:Nat)))|_=>none
 |some (.im (.slice _ n _)),some {d:=.slice _,..}=>some (none,T.ofV (.int .i64 (n:Nat)))|some (.im (.string b)),some {d:=.str,..}=>some (none,T.ofV (.int .i64 (b.size:Nat)))|_,_=>none
def SW(tt:TT)(s:St)(t:Nat)(x i:Operand):Option (Option Prop×T):=
 match LX s x,LX s i,lkp tt t with|some (.string b),some (.int _ i),some {d:=.str,..}=>some (some (0<=i/\i<(b.size:Int)),T.ofV (.int .u8 (b.get! i.toNat).toNat))|_,_,_=>none
def AAe(s:St)(x:Operand):Bool:=false
def evs(s:St):List Operand->Option (List T)
 | []=>some []|x::r=>
  match ev s x,evs s r with|some v,some vs=>some (v::vs)|_,_=>none
def N7(mx:Bool)(s:St):List Operand->Option (Option Prop×T)
 | [x,y]=>
  match LX s x,LX s y with|some (.int k a),some (.int _ b)=>some (none,T.ofV (.int k (match mx with|true=>max a b|false=>min a b)))|_,_=>none
 |_=>none
def ACE(tt:TT)(t:Nat):Bool:=
 match lkp tt t with|some {d:=.int .u8,size:=z,..}=>Nat.beq z 1|_=>false
def MT(tt:TT)(s:St)(nx t u:Nat)(x:Operand)(q:Eff->Prop):Prop:=xp (QU tt s t u x) q
def O6(tt:TT)(s:St)(t:Nat)(x i:Operand):Option (Option Prop×T):=none
def O7(tt:TT)(s:St)(t k sz i j:Nat):Option (Option Prop×T):=none
def H8(tt:TT)(s:St)(nx t len:Nat)(ps:List (Nat×Operand))(q:Eff->Prop):Prop:=False
def Ew:List C->List Ty->Nat->Option (List C×List (Nat×En))
 | [],[],_=>some ([],[])|c::cs,t::ts,i=>
  match Ew cs ts (i+1)with
  |some (ds,es)=>
   match t,c with| .sl e us,.im (.slice none 0 0)=>some (.ext i::ds,(i,.own e us [])::es)|_,c=>some (c::ds,es)
  |none=>none
 |_,_,_=>none
def H9(tt:TT)(s:St)(nx t:Nat)(ps:List (Nat×Operand))(shape:List Ty)(q:Eff->Prop):Prop:=
 match Ly tt s t ps with
 |some (.one (.agg cs0))=>
  match Nat.ble cs0.length 32,Ew cs0 shape nx with|true,some (cs,es)=>q ⟨.one (.agg cs),es⟩|_,_=>False
 |_=>False
def xop(tt:TT)(ct:CTs)(hints:List Nat)(o:Oper)(s:St)(nx:Nat)(q:Eff->Prop):Prop:=
 match o.op with
 | .move x=>xp ((ev s x).map (none,·)) q| .assign x=>xp ((ev s x).map (none,·)) q| .pick c a b=>xp (W6 s c a b) q| .binOp op t x y _=>
  match AAe s x with|true=>xp (Y1 tt s op t x y) q|false=>xp (SU tt s op t x y) q
 | .convert t u x=>MT tt s nx t u x q| .makeFunc fn first caps=>xp (Hy s fn first.toList caps.toList) q
 | .makeSlice t x y=>
  match Ig tt t with|some (e,_)=>N1 tt s nx t (FK tt 9 e) x y q|none=>False
 | .unOp op _ x=>xp (W7 s op x) q| .extract x i=>xp (MS s x i) q| .field t x f=>xp (SV tt s t x f) q| .fieldAddr t x f=>xp (xfa tt s t x f) q| .indexAddr t x i=>
  match O6 tt s t x i with|some r=>xp (some r) q|none=>xp (GN tt s t (ev s x) (ev s i)) q
 | .index t x i=>xp (SW tt s t x i) q| .nilCheck x=>xp (AAc s x) q| .build t ps=>
  match (match o.dst with|some d=>hints.any (Nat.beq d)|none=>false)with|true=>H9 tt s nx t ps.toList (FK tt 9 t) q|false=>xp ((Ly tt s t ps.toList).map (none,·)) q
 | .box _ x=>VP s nx x q| .alloc t=>Jy tt nx t q| .load t x=>
  match cOf s x with
  |some (.bp i off)=>xp ((L3 tt s t i off).map (none,·)) q|some (.ep k sz i j)=>
   match O7 tt s t k sz i j with|some r=>xp (some r) q|none=>Jz tt s nx t k sz i j q
  |some (.pp k o)=>Io tt s nx t k o q|some (.ext k)=>Io tt s nx t k 0 q|_=>False
 | .store t x y=>
  match cOf s x,ev s y with
  |some (.bp i off),some v=>Hv tt s t i off v q|some (.ep k sz i j),some v=>
   match ACD s k with
   |true=>H7 tt s t k sz i j v q|false=>
    match ABa s k with
    |true=>H6 tt s t k sz i j v q|false=>
     match ABZ tt t with|true=>H5 tt s t k sz i j v q|false=>H4 tt s t k sz i j v q
  |_,_=>False
 | .slice t x lo hi none=>
  match (match o.dst with|some d=>hints.any (Nat.beq d)|none=>false)with|true=>VV tt s nx t (ev s x) lo hi q|false=>J0 tt s nx t (ev s x) lo hi q
 | .buildSlice t len ps=>
  match Ig tt t with
  |some (e,_)=>
   match ACE tt e with|true=>H8 tt s nx t len ps.toList q|false=>DR tt s nx t len (FK tt 9 e) ps.toList (match o.dst with|some d=>hints.any (Nat.beq d)|none=>false) q
  |none=>False
 | .call c=>
  match c.callee with
  | .builtin .append=>
   match c.args.toList,c.argTypes.toList with
   | [x,y],[t,u]=>if Nat.beq t u=true then Hx tt s nx t (ev s x) (ev s y) q else False
   |_,_=>False
  | .builtin .len=>
   match c.args.toList,c.argTypes.toList with| [x],[t]=>xp (AAd tt s t x) q|_,_=>False
  | .builtin .min=>xp (N7 false s c.args.toList) q| .builtin .max=>xp (N7 true s c.args.toList) q| .value f=>
   match cOf s f,evs s c.args.toList with
   |some c0,some ts=>
    match N5 s c0 with|some (k,ext)=>N2 tt ct s nx k (c.argTypes.toList++ext.map λ_=>4294967) (ts++ext) q|none=>False
   |_,_=>False
  |_=>False
 |_=>False
section
variable {P : Program} {tt : TT} {ct : CTs} {Γ : Env} {n : Nat} {w0 : World} {al fr : Nat → Prop} {s : St} {m : Maps} {a : Act} {w : World} {nx : Nat} {o : Oper}
theorem R.im(h:R Γ n w0 al s m a w){x:Operand}{v:Value}(hx:LX s x=some v):a.eval x=v:=by obtain⟨t,e1,e2⟩:=Option.bind_eq_some_iff.1 hx;rw[(h.ev e1).1,(T.im_den m e2).1]
theorem R.cc(h:R Γ n w0 al s m a w){x:Operand}{c:C}(hx:cOf s x=some c):a.eval x=c.den m/\∀i ∈ c.ids,al i:=by obtain⟨t,e1,e2⟩:=Option.bind_eq_some_iff.1 hx;have:=h.ev e1;rw[T.c?_some e2]at this;exact this
theorem SX:∀{l:List Operand}{ts:List T},evs s l=some ts->All2 (λx t=>ev s x=some t) l ts
 | [],ts,h=>by simp only[evs,Option.some.injEq]at h;subst h;exact .nil|x::r,ts,h=>by simp only[evs]at h;split at h;rename_i v vs h1 h2;simp only[Option.some.injEq]at h;subst h;exact .cons h1 (SX h2);cases h
theorem SY{t:Nat}{a b:Bool}(ht:P.underlying t=some .bool):(Op.equal t (.bool a) (.bool b)).run P w=.ok (a == b) w:=by
 have hu:(underlying t).run P w=.ok TypeDesc.bool w:=by simp[underlying,program,Sem.run,ht]
 show(Op.equalIn (9999+1) t (.bool a) (.bool b)).run P w=_;rw[Op.equalIn];simp only[Sem.run_bind,hu,Result.andThen_ok,Sem.run_pure]
theorem W8(b:ByteArray)(i:Nat)(h:i<b.size):b[i]?=some (b.get! i):=by have e:b.get! i=b.data[i]! := rfl;rw[e];have hd:i<b.data.size:=h;rw[getElem!_pos b.data i hd];simp[h];rfl
theorem Ve(hT:TTok P tt)(h:R Γ n w0 al s m a w){t u:Nat}{x:Operand}(ho:o.op=.convert t u x)(hnx:¬al nx)(hf:fr nx):Snd P Γ al fr m a w o (MT tt s nx t u x):=by show Snd P Γ al fr m a w o (xp (QU tt s t u x));refine BI h (X:=QU tt s t u x) λp v hx hp=>?_;obtain⟨r1,r2⟩:=VY hT h hx hp;exact⟨by simp only[execOp,ho,Sem.run_bind,r1,Result.andThen_ok,Sem.run_pure],by simp[r2]⟩
theorem Qh(hT:TTok P tt)(h:R Γ n w0 al s m a w){t:Nat}{x i:Operand}{p:Option Prop}{v:T}(hx:O6 tt s t x i=some (p,v))(hp:∀q,p=some q->q) :
  (Instr.indexAt t (a.eval x) (a.eval i)).run P w=.ok (v.den m) w/\∀j ∈ v.ids,al j:=by unfold O6 at hx;cases hx
theorem SZ(hT:TTok P tt)(h:R Γ n w0 al s m a w){t k sz i j:Nat}{x:Operand}{r:Option Prop×T}(hr:O7 tt s t k sz i j=some r)(ho:o.op=.load t x)(hx:a.eval x=C.den m (.ep k sz i j)):Snd P Γ al fr m a w o (xp (some r)):=by unfold O7 at hr;cases hr
theorem Sa(hT:TTok P tt)(h:R Γ n w0 al s m a w){t len:Nat}{ps:Array (Nat×Operand)}(ho:o.op=.buildSlice t len ps)(hnx:¬al nx)(hf:fr nx):Snd P Γ al fr m a w o (H8 tt s nx t len ps.toList):=by intro q hk Q;unfold H8 at hk;exact hk.elim
theorem Ku{m m' : Maps} : ∀{zs:List C}{ts:List Ty}{i:Nat}{cs:List C}{es:List (Nat×En)},Ew zs ts i=some (cs,es)->(∀c ∈ zs,c.den m'=c.den m)->(∀j,j<zs.length->m'.ε (i+j)=(zs.map (C.den m)).getD j undef) ->
  cs.map (C.den m')=zs.map (C.den m)/\(∀k E,lkp es k=some E->i<=k/\k<i+zs.length/\EnAt Γ m' w k E/\E.ids=[])/\∀c ∈ cs,∀j ∈ c.ids,(i<=j/\j<i+zs.length)\/∃c0 ∈ zs,j ∈ c0.ids
 | [],[],i,cs,es,h,_,_=>by simp only[Ew,Option.some.injEq,Prod.mk.injEq]at h;obtain⟨rfl,rfl⟩:=h;exact⟨rfl,λk E hk=>by simp[lkp]at hk,λc hc=>by simp at hc⟩| [],t::ts,i,cs,es,h,_,_=>by simp[Ew]at h|z::zs,[],i,cs,es,h,_,_=>by simp[Ew]at h|z::zs,t::ts,i,cs,es,h,hs,hε=>by unfold Ew at h;split at h;rename_i cs' es' hr;obtain⟨i1,i2,i3⟩:=Ku (m:=m) (m':=m') hr (λc hc=>hs c (List.mem_cons_of_mem _ hc)) (λj hj=>by have:=hε (j+1) (by simpa using hj);rw[show i+1+j=i+(j+1) by omega];simpa using this);have h0:=hε 0 (by simp);split at h;rename_i e us;simp only[Option.some.injEq,Prod.mk.injEq]at h;obtain⟨rfl,rfl⟩:=h;refine⟨?_,λk E hk=>?_,λc hc j hj=>?_⟩;simp only[List.map_cons,i1,C.den];simp only[Nat.add_zero]at h0;rw[h0];rfl;rw[AY]at hk;split at hk;rename_i ek;subst ek;obtain rfl:=Option.some.inj hk;refine⟨Nat.le_refl _,by simp,⟨[],?_,by simp,by simp⟩,rfl⟩;simp only[Nat.add_zero]at h0;rw[h0];simp only[List.map_cons,List.getD_cons_zero,C.den,Fp];exact⟨[],[],⟨by simp,.inl ⟨rfl,rfl⟩⟩,rfl,rfl,by simp,λk hk=>by simp at hk,rfl⟩;obtain⟨j1,j2,j3,j4⟩:=i2 k E hk;exact⟨by omega,by simp;omega,j3,j4⟩;rcases List.mem_cons.1 hc with rfl|hc;simp only[C.ids,List.mem_singleton]at hj;subst hj;exact .inl ⟨Nat.le_refl _,by simp⟩;rcases i3 c hc j hj with h|⟨c0,h1,h2⟩;exact .inl ⟨by omega,by simp;omega⟩;exact .inr ⟨c0,List.mem_cons_of_mem _ h1,h2⟩;simp only[Option.some.injEq,Prod.mk.injEq]at h;obtain⟨rfl,rfl⟩:=h;refine⟨by simp only[List.map_cons,i1,hs z (by simp)],λk E hk=>?_,λc hc j hj=>?_⟩;obtain⟨j1,j2,j3,j4⟩:=i2 k E hk;exact⟨by omega,by simp;omega,j3,j4⟩;rcases List.mem_cons.1 hc with rfl|hc;exact .inr ⟨_,by simp,hj⟩;rcases i3 c hc j hj with h|⟨c0,h1,h2⟩;exact .inl ⟨by omega,by simp;omega⟩;exact .inr ⟨c0,List.mem_cons_of_mem _ h1,h2⟩;cases h
theorem Sb(hT:TTok P tt)(h:R Γ n w0 al s m a w){t:Nat}{shape:List Ty}{ps:Array (Nat×Operand)}(ho:o.op=.build t ps)(a8:∀i,al i->¬(nx<=i/\i<nx+32))(a7:∀i,nx<=i->i<nx+32->fr i):Snd P Γ al fr m a w o (H9 tt s nx t ps.toList shape):=by
 intro q hk Q;unfold H9 at hk;split at hk;rename_i cs0 a9;split at hk;rename_i cs es hc a3;have hc:=Nat.le_of_ble_eq_true hc;obtain⟨a4,a5⟩:=Lz hT h (ps:=ps) a9;let m':=EP m nx (cs0.map (C.den m))
 have hε:∀j,j<cs0.length->m'.ε (nx+j)=(cs0.map (C.den m)).getD j undef:=λj hj=>by show(if nx<=nx+j/\nx+j<nx+(cs0.map (C.den m)).length then(cs0.map (C.den m)).getD (nx+j-nx) undef else m.ε (nx+j))=_;rw[if_pos (by rw[List.length_map];omega),Nat.add_sub_cancel_left]
 have a0:Maps.same al m m':=λi hi=>⟨rfl,by simp only[m',EP,List.length_map];rw[if_neg (by have:=a8 i hi;omega)]⟩;have a1:∀c ∈ cs0,∀i ∈ c.ids,al i:=λc hc i hi=>a5 i (by simp only[T.ids,A.ids];exact List.mem_flatMap.2 ⟨c,hc,hi⟩);obtain⟨n1,n2,n3⟩:=Ku (Γ:=Γ) (w:=w) (m:=m) (m':=m') a3 (λc hc=>C.den_same a0 (a1 c hc)) hε;have a6:(T.one (.agg cs)).den m'=(T.one (.agg cs0)).den m:=by simp only[T.den,A.den,n1]
 have a2:(execOp a.eval o).run P w=.ok (.value ((T.one (.agg cs)).den m')) w:=by rw[a6];simp only[execOp,ho,Sem.run_bind,a4,Result.andThen_ok,Sem.run_pure]
 refine Oper.wp_value a2 ⟨_,m',hk,⟨rfl,a0,Bel.refl _ _,λ_ _ _=>rfl,λ_ _ _=>rfl,λp E hE=>?_,λp hp=>?_⟩⟩;obtain⟨e1,e2,e3,e4⟩:=n2 p E hE;exact⟨e3,.inr (a7 p e1 (by omega)),λj hj=>by rw[e4]at hj;simp at hj⟩;obtain⟨c,hc',hp⟩:=List.mem_flatMap.1 hp;rcases n3 c hc' p hp with this|⟨c0,h1,h2⟩;exact .inr (a7 p this.1 (by omega));exact .inl (a1 c0 h1 p h2);exact hk.elim;exact hk.elim
theorem W9(hT:TTok P tt)(a6:CTok P ct Γ.mono)(h:R Γ n w0 al s m a w)(hints:List Nat)(a1:∀i,al i->¬(nx<=i/\i<nx+32))(a2:∀i,nx<=i->i<nx+32->fr i):Snd P Γ al fr m a w o (xop tt ct hints o s nx):=by
 have a0:¬al nx:=λhx=>a1 nx hx ⟨Nat.le_refl _,by omega⟩;have hf:fr nx:=a2 nx (Nat.le_refl _) (by omega);unfold xop;cases ho:o.op with
 |move x=>refine BI h (X:=(ev s x).map (none,·)) λp v hx _=>?_;obtain⟨t,e1,e2⟩:=Option.map_eq_some_iff.1 hx;simp only[Prod.mk.injEq]at e2;obtain⟨rfl,rfl⟩:=e2;exact⟨by simp[execOp,ho,(h.ev e1).1],(h.ev e1).2⟩|assign x=>refine BI h (X:=(ev s x).map (none,·)) λp v hx _=>?_;obtain⟨t,e1,e2⟩:=Option.map_eq_some_iff.1 hx;simp only[Prod.mk.injEq]at e2;obtain⟨rfl,rfl⟩:=e2;exact⟨by simp[execOp,ho,(h.ev e1).1],(h.ev e1).2⟩|pick c x y=>refine BI h (X:=W6 s c x y) λp v hx _=>?_;unfold W6 at hx;split at hx;rename_i t va vb h1 h2 h3;simp only[Option.some.injEq,Prod.mk.injEq]at hx;obtain⟨rfl,rfl⟩:=hx;refine⟨?_,by simp[T.ofV_ids]⟩;simp only[execOp,ho,h.im h1,h.im h2,h.im h3,asBool,Sem.run_bind,Sem.run_pure,Result.andThen_ok,T.ofV_den];cases t <;> simp;cases hx|convert t u x=>exact Ve hT h ho a0 hf|makeFunc fn first caps=>refine BI h (X:=Hy s fn first.toList caps.toList) λp v hx _=>?_;obtain⟨r1,r2⟩:=Nf (P:=P) h hx;exact⟨by simp only[execOp,ho,Sem.run_bind,r1,Result.andThen_ok,Sem.run_pure],r2⟩
 |makeSlice t x y=>simp only;split;exact Wv hT h ho a0 hf;intro k hk;exact hk.elim|binOp op t x y t2=>
  simp only;split;refine BI h (X:=Y1 tt s op t x y) λp v hx _=>?_;obtain⟨r1,r2⟩:=Ww hT h hx;refine⟨?_,by simp[r2]⟩;simp only[Sem.run_bind]at r1;simp only[execOp,ho,Sem.run_bind,r1,Result.andThen_ok,Sem.run_pure];refine BI h (X:=SU tt s op t x y) λp v hx hp=>?_;unfold SU at hx;split at hx;rename_i va vb h1 h2;have hb:∀hh:O5 tt t=true,(Op.equal t (.bool va) (.bool vb)).run P w=.ok (va == vb) w:=λhh=>by unfold O5 at hh;split at hh;rename_i hl;have hk:P.underlying t=some .bool:=(hT _ _ hl).d;exact SY hk;cases hh
  split at hx;rename_i hh;simp only[Option.some.injEq,Prod.mk.injEq]at hx;obtain⟨rfl,rfl⟩:=hx;refine⟨?_,by simp[T.ofV_ids]⟩;simp[execOp,ho,h.im h1,h.im h2,T.ofV_den,eqGuard,binOp,hb hh];rename_i hh;simp only[Option.some.injEq,Prod.mk.injEq]at hx;obtain⟨rfl,rfl⟩:=hx;refine⟨?_,by simp[T.ofV_ids]⟩;simp[execOp,ho,h.im h1,h.im h2,T.ofV_den,eqGuard,binOp,hb hh,bne];cases hx;rename_i va vb _ h1 h2;obtain⟨⟨p',r⟩,e1,e2⟩:=Option.map_eq_some_iff.1 hx;simp only[Prod.mk.injEq]at e2;obtain⟨rfl,rfl⟩:=e2;have:=Wm (P:=P) (w:=w) (t:=t) (a:=x) (b:=y) e1 hp;refine⟨?_,by simp[T.ofV_ids]⟩;simp only[Sem.run_bind]at this;simp only[execOp,ho,h.im h1,h.im h2,Sem.run_bind,this,Result.andThen_ok,Sem.run_pure,T.ofV_den];cases hx
 |unOp op t x=>refine BI h (X:=W7 s op x) λp v hx _=>?_;unfold W7 at hx;split at hx;rename_i va h1;obtain⟨r,e1,e2⟩:=Option.map_eq_some_iff.1 hx;simp only[Prod.mk.injEq]at e2;obtain⟨rfl,rfl⟩:=e2;have:=Yw (P:=P) (w:=w) e1;exact⟨by simp[execOp,ho,h.im h1,this,T.ofV_den],by simp[T.ofV_ids]⟩;cases hx|extract x i=>
  refine BI h (X:=MS s x i) λp v hx _=>?_;unfold MS at hx;split at hx;rename_i as h1;obtain⟨r,e1,e2⟩:=Option.map_eq_some_iff.1 hx;simp only[Prod.mk.injEq]at e2;obtain⟨rfl,rfl⟩:=e2;obtain⟨x1,x2⟩:=h.ev h1;refine⟨?_,λj hj=>x2 j (List.mem_flatMap.2 ⟨r,List.mem_of_getElem? e1,hj⟩)⟩;have e3:(as.map (A.den m)).toArray[i]?=some (r.den m):=by simp[e1]
  simp only[execOp,ho,x1,T.den,Instr.extract,e3];simp;cases hx
 |field t x f=>
  refine BI h (X:=SV tt s t x f) λp v hx _=>?_;unfold SV at hx;split at hx;rename_i cs off ti h1 h2;split at hx;rename_i c hc;obtain⟨r,e1,e2⟩:=Option.map_eq_some_iff.1 hx;simp only[Prod.mk.injEq]at e2;obtain⟨rfl,rfl⟩:=e2;obtain⟨x1,x2⟩:=h.ev h1;obtain⟨fl,fd,u1,u2,rfl,u3⟩:=I7 hT h2;obtain⟨d1,d2⟩:=T.ofCs_den m e1;refine⟨?_,λj hj=>?_⟩;have x1' : a.eval x=.agg (cs.map (C.den m)).toArray:=x1;have a3:=Hu hc;obtain⟨s1,s2⟩:=Ft hc
  have a4:(part fd.type (cs.map (C.den m)).toArray fd.offset).run P w=.ok (r.den m) w:=by
   rw[d1];simp only[part,Sem.run_bind,u3.isAgg,Result.andThen_ok];cases hg:ti.d.agg with
   |true=>simp only[if_true,Sem.run_bind,u3.sizeOf,Result.andThen_ok,Sem.run_pure,Ko];rw[s2];simp[List.map_take,List.map_drop]|false=>
    have hl:=d2 hg
    obtain⟨c0,rfl⟩:∃c0,c=[c0]:=by
     match c,hl with| [c0],_=>exact⟨c0,rfl⟩
    have:=T8 hc 0 (by simp at a3;omega);simp at this;simp[this,Ko]
  simp only[execOp,ho,x1',Instr.field,Sem.run_bind,Ad u1,Result.andThen_ok,u2,asAgg,Sem.run_pure,a4];rw[T.ofCs_ids e1]at hj;obtain⟨y,hy,hj⟩:=List.mem_flatMap.1 hj;exact x2 j (List.mem_flatMap.2 ⟨y,T7 hc y hy,hj⟩);cases hx;cases hx
 |fieldAddr t x f=>
  refine BI h (X:=xfa tt s t x f) λp v hx hp=>?_;have key:∀p',Ev tt t (ev s x) f=some (p',v)->(∀k sz i j,cOf s x=some (.ep k sz i j)->∃ad nn cc,m.ε k=.slice (some ad) nn cc)->(execOp a.eval o).run P w=.ok (.value (v.den m)) w/\∀i ∈ v.ids,al i:=by intro p' hx' hd;obtain⟨r1,r2⟩:=L7 hT h hx' hd;exact⟨by simp[execOp,ho,r1],r2⟩
  unfold xfa at hx;split at hx;rename_i k sz i j hk;split at hx;rename_i e ts rows deps v' a3 a7;simp only[Option.some.injEq,Prod.mk.injEq]at hx;obtain⟨rfl,rfl⟩:=hx;refine key none a7 λk' sz' i' j' hk'=>?_;rw[hk]at hk';simp only[Option.some.injEq,C.ep.injEq]at hk';obtain⟨rfl,-,rfl,-⟩:=hk';obtain⟨⟨F,f1,f2⟩,-,-⟩:=h.sl a3;obtain⟨ad,cap,hv,-,-,-,a5⟩:=f1.open;obtain⟨b,off,row,rfl,-⟩:=a5 i (hp _ rfl);exact⟨_,_,_,hv⟩;cases hx;rename_i k hk;obtain⟨r1,r2⟩:=QT hT h hx (.inr ⟨rfl,(h.cc hk).1⟩);exact⟨by simp[execOp,ho,r1],r2⟩;rename_i k off hk;obtain⟨r1,r2⟩:=QT hT h hx (.inl (h.cc hk).1);exact⟨by simp[execOp,ho,r1],r2⟩;rename_i a8 _ _;exact key p hx λk sz i j hk=>absurd hk (a8 k sz i j)
 |indexAddr t x i=>simp only;split;rename_i r hr;refine BI h (X:=some r) λp v hx hp=>?_;obtain⟨r1,r2⟩:=Qh hT h (hr.trans hx) hp;exact⟨by simp[execOp,ho,r1],r2⟩;refine BI h (X:=GN tt s t (ev s x) (ev s i)) λp v hx hp=>?_;obtain⟨r1,r2⟩:=L6 hT h hx hp;exact⟨by simp[execOp,ho,r1],r2⟩|index t x i=>refine BI h (X:=SW tt s t x i) λp v hx hp=>?_;unfold SW at hx;split at hx;rename_i b kk iv _ _ _ _ h1 h2 h3;simp only[Option.some.injEq,Prod.mk.injEq]at hx;obtain⟨rfl,rfl⟩:=hx;obtain⟨p1,p2⟩:=hp _ rfl;have hu:=(hT _ _ h3).d;simp only[TD.fits]at hu;refine⟨?_,by simp[T.ofV_ids]⟩;have:=W8 b iv.toNat (by omega);simp[execOp,ho,h.im h1,h.im h2,Instr.index,asIntOf,Ad hu,p1,this,T.ofV_den];cases hx|nilCheck x=>refine BI h (X:=AAc s x) λp v hx _=>?_;unfold AAc at hx;split at hx;rename_i i off h1;simp only[Option.some.injEq,Prod.mk.injEq]at hx;obtain⟨rfl,rfl⟩:=hx;obtain⟨x1,x2⟩:=h.cc h1;exact⟨by simp[execOp,ho,x1,C.den,T.den,A.den],by simpa[T.ids,A.ids]using x2⟩;cases hx|build t ps=>simp only;split;rename_i hh;exact Sb hT h ho a1 a2;refine BI h (X:=(Ly tt s t ps.toList).map (none,·)) λp v hx _=>?_;obtain⟨r,e1,e2⟩:=Option.map_eq_some_iff.1 hx;simp only[Prod.mk.injEq]at e2;obtain⟨rfl,rfl⟩:=e2;obtain⟨r1,r2⟩:=Lz hT h e1;exact⟨by simp only[execOp,ho,Sem.run_bind,r1,Result.andThen_ok,Sem.run_pure],r2⟩|box t x=>exact Yx h ho a0 hf|alloc t=>exact VQ hT h ho a0 hf|load t x=>simp only;split;rename_i i off hc;refine BI h (X:=(L3 tt s t i off).map (none,·)) λp v hx _=>?_;obtain⟨r,e1,e2⟩:=Option.map_eq_some_iff.1 hx;simp only[Prod.mk.injEq]at e2;obtain⟨rfl,rfl⟩:=e2;obtain⟨r1,r2⟩:=Im hT h e1;obtain⟨x1,x2⟩:=h.cc hc;exact⟨by simp only[execOp,ho,x1,C.den,Sem.run_bind,r1,Result.andThen_ok,Sem.run_pure],r2⟩;rename_i k sz i j hc;split;rename_i r hr;exact SZ hT h hr ho (h.cc hc).1;exact VT hT h ho (h.cc hc).1 a1 a2;rename_i k off hc;exact Nz hT h ho (.inl (h.cc hc).1) a1 a2;rename_i k hc;exact Nz hT h ho (.inr ⟨rfl,(h.cc hc).1⟩) a1 a2;intro k hk;exact hk.elim|store t x y=>simp only;split;rename_i i off v hc hv;exact SF hT h ho (h.cc hc).1 (h.ev hv).1 (h.ev hv).2;rename_i k sz i j v hc hv;split;exact SP hT h ho (h.cc hc).1 (h.ev hv).1;split;exact SQ hT h ho (h.cc hc).1 (h.ev hv).1;split;exact SN hT h ho (h.cc hc).1 (h.ev hv).1;exact SO hT h ho (h.cc hc).1 (h.ev hv).1;intro k hk;exact hk.elim|slice t x lo hi mx=>
  cases mx with|some _=>intro k hk;exact hk.elim|none=>simp only;split;exact Yy hT h ho a0 hf;exact VU hT h ho a0 hf
 |buildSlice t len ps=>simp only;split;split;exact Sa hT h ho a0 hf;exact MF hT h _ ho a0 hf;intro k hk;exact hk.elim|call c=>
  obtain⟨callee,args,argTypes⟩:=c;simp only;cases callee with
  |value f=>simp only;split;rename_i c0 ts h1 h2;split;rename_i k ext h3;exact W2 a6 h ho ((h.cc h1).1.trans (Qg h h3)) (SX h2) a1 a2;intro k hk;exact hk.elim;intro k hk;exact hk.elim|invoke r me=>intro k hk;exact hk.elim|builtin b=>
   cases b with
   |append=>simp only;split;rename_i x y t u h1 h2;split;rename_i e;have e:=Nat.eq_of_beq_eq_true e;subst e;have h1:args=#[x,y]:=Array.ext' h1;have h2:argTypes=#[t,t]:=Array.ext' h2;subst h1 h2;exact SH hT h ho a0 hf;intro k hk;exact hk.elim;intro k hk;exact hk.elim|len=>
    simp only;split;rename_i x t h1 h2;have h1:args=#[x]:=Array.ext' h1;have h2:argTypes=#[t]:=Array.ext' h2;subst h1 h2;refine BI h (X:=AAd tt s t x) λp v hx _=>?_;unfold AAd at hx;split at hx;rename_i k _ _ _ _ _ hc hl;have hu:=(hT _ _ hl).d;simp only[TD.fits]at hu;split at hx;rename_i e' ts rows deps a3;simp only[Option.some.injEq,Prod.mk.injEq]at hx;obtain⟨rfl,rfl⟩:=hx;obtain⟨⟨F,f1,f2⟩,-,-⟩:=h.sl a3;obtain⟨ad,cap,hv,-⟩:=f1.open;refine⟨?_,by simp[T.ofV_ids]⟩;have hx1:a.eval x=.slice ad rows.length cap:=by rw[(h.cc hc).1];exact hv
    simp[execOp,ho,resolve,invoke,builtin,Builtin.len_,hx1,Ad hu,T.ofV_den,goInt];split at hx;rename_i nb a9;simp only[Option.some.injEq,Prod.mk.injEq]at hx;obtain⟨rfl,rfl⟩:=hx;obtain⟨⟨ad,cap,hv,-⟩,-,-⟩:=Hz h a9;refine⟨?_,by simp[T.ofV_ids]⟩;have hx1:a.eval x=.slice ad nb.length cap:=by rw[(h.cc hc).1];exact hv
    simp[execOp,ho,resolve,invoke,builtin,Builtin.len_,hx1,Ad hu,T.ofV_den,goInt];cases hx;rename_i ad nn cc _ _ _ _ _ hc hl;have hu:=(hT _ _ hl).d;simp only[TD.fits]at hu;simp only[Option.some.injEq,Prod.mk.injEq]at hx;obtain⟨rfl,rfl⟩:=hx;have hx1:=(h.cc hc).1;simp only[C.den]at hx1;exact⟨by simp[execOp,ho,resolve,invoke,builtin,Builtin.len_,hx1,Ad hu,T.ofV_den,goInt],by simp[T.ofV_ids]⟩;rename_i b _ _ _ _ hc hl;have hu:=(hT _ _ hl).d;simp only[TD.fits]at hu;simp only[Option.some.injEq,Prod.mk.injEq]at hx;obtain⟨rfl,rfl⟩:=hx;have hx1:=(h.cc hc).1;simp only[C.den]at hx1;exact⟨by simp[execOp,ho,resolve,invoke,builtin,Builtin.len_,hx1,Ad hu,T.ofV_den,goInt],by simp[T.ofV_ids]⟩;cases hx;intro k hk;exact hk.elim
   |min=>refine BI h (X:=N7 false s args.toList) λp v hx _=>?_;unfold N7 at hx;split at hx;rename_i x y h1;split at hx;rename_i k av _ bv e1 e2;simp only[Option.some.injEq,Prod.mk.injEq]at hx;obtain⟨rfl,rfl⟩:=hx;have h1:args=#[x,y]:=Array.ext' h1;subst h1;refine⟨?_,by simp[T.ofV_ids]⟩;have e:(if bv<av then bv else av)=min av bv:=(by omega);simp[execOp,ho,resolve,invoke,builtin,Builtin.min_,Builtin.min2,h.im e1,h.im e2,T.ofV_den,e];cases hx;cases hx|max=>refine BI h (X:=N7 true s args.toList) λp v hx _=>?_;unfold N7 at hx;split at hx;rename_i x y h1;split at hx;rename_i k av _ bv e1 e2;simp only[Option.some.injEq,Prod.mk.injEq]at hx;obtain⟨rfl,rfl⟩:=hx;have h1:args=#[x,y]:=Array.ext' h1;subst h1;refine⟨?_,by simp[T.ofV_ids]⟩;have e:(if bv>av then bv else av)=max av bv:=(by omega);simp[execOp,ho,resolve,invoke,builtin,Builtin.max_,Builtin.max2,h.im e1,h.im e2,T.ofV_den];omega;cases hx;cases hx|_=>intro k hk;exact hk.elim
 |_=>intro k hk;exact hk.elim
end
def MU(f b:Bool)(X Y:Prop):Prop:=
 match f with|true=>(match b with|true=>X|false=>Y)|false=>(b=true->X)/\(b=false->Y)
theorem Ex{f b:Bool}{X Y:Prop}(h:MU f b X Y):(b=true->X)/\(b=false->Y):=by
 unfold MU at h;cases f with|true=>cases b <;> exact⟨λe=>(by first|exact h|cases e),λe=>(by first|exact h|cases e)⟩|false=>exact h
def St.know(s:St)(t:Nat)(b:Bool):St:={s with tm:=(t,T.ofV (.bool b))::s.tm,lit:=t::s.lit}
def XA(s:St):Operand->Bool
 | .tmp t=>s.lit.any (Nat.beq t)| .const (.bool _)=>true|_=>false
def XB(s:St):Op->Bool
 | .move x=>XA s x| .assign x=>XA s x| .pick c a b=>
  match XA s c with
  |true=>
   match LX s c with|some (.bool true)=>XA s a|some (.bool false)=>XA s b|_=>false
  |false=>false
 |_=>false
def St.setLit(s:St)(f:Bool)(dst:Option Tmp):St:=
 match f,dst with|true,some t=>{s with lit:=t::s.lit}|_,_=>s
def St.put(s:St)(o:Oper)(e:Eff):St:=(s.app o.dst e).setLit (XB s o.op) o.dst
def Kv(n:Nat)(o:Oper):Bool:=
 match o.dst with|some t=>Nat.ble (t+1) n|none=>true
def alN(nx i:Nat):Prop:=0<i/\i<nx
section
variable {P : Program} {tt : TT} {ct : CTs} {Γ : Env} {n : Nat} {w0 : World} {al fr : Nat → Prop} {s : St} {m : Maps} {a : Act} {w : World} {nx : Nat} {o : Oper}
theorem R.eq(h:R Γ n w0 al s m a w){s' : St}(ht:s'.tm=s.tm)(he:s'.en=s.en):R Γ n w0 al s' m a w:=
 {h with tm:=by rw[ht];exact h.tm,en:=by rw[he];exact h.en}
theorem N8(s:St)(f:Bool)(dst:Option Tmp):(s.setLit f dst).tm=s.tm/\(s.setLit f dst).en=s.en:=by unfold St.setLit;split <;> exact⟨rfl,rfl⟩
theorem R.know(h:R Γ n w0 al s m a w){t:Nat}{b:Bool}(hb:a.tmps.getD t undef=.bool b):R Γ n w0 al (s.know t b) m a w:=
 {
  h with
  tm:=λu v hv=>by simp only[St.know,AY]at hv;split at hv;rename_i e;subst e;obtain rfl:=Option.some.inj hv;exact⟨hb,by simp[T.ofV_ids]⟩;exact h.tm u v hv}
theorem MV(h:Kv n o=true):∀t,o.dst=some t->t<n:=by intro t ht;unfold Kv at h;rw[ht]at h;exact Nat.le_of_ble_eq_true h
theorem R.put(h:R Γ n w0 (alN nx) s m a w){e:Eff}{m' : Maps}{a' : Act}{w' : World}(hnx:0<nx)(hs:Stp Γ (alN nx) (λi=>nx<=i/\i<nx+32) o.dst m a w e m' a' w')(hd:Kv n o=true):R Γ n w0 (alN (nx+32)) (s.put o e) m' a' w':=by have:=(Stp.r h hs (by omega) (MV hd)).more (al':=alN (nx+32)) (λi hi=>by unfold alN at *;omega) (by unfold alN;omega);exact this.eq (N8 _ _ _).1 (N8 _ _ _).2
theorem Stp.skip(_:R Γ n w0 al s m a w){dst:Option Tmp} : Stp Γ al fr dst m a w ⟨T.ofV undef,[]⟩ m (a.put dst undef) w:=
 ⟨rfl,λ_ _=>⟨rfl,rfl⟩,Bel.refl _ _,λ_ _ _=>rfl,λ_ _ _=>rfl,λi E h=>by simp[lkp]at h,by simp[T.ofV_ids]⟩
end
def Z0(tt:TT)(s:St):Op->Option (List (List Dat)×Bool)
 | .binOp op t x (.const (.slice none 0 0)) _=>
  match op,cOf s x,lkp tt t with| .eql,some (.ext k),some {d:=.slice _,..}=>(EI s k).map λy=>(y.2.2.1,false)| .neq,some (.ext k),some {d:=.slice _,..}=>(EI s k).map λy=>(y.2.2.1,true)|_,_,_=>none
 |_=>none
def Qi(tt:TT)(ct:CTs)(hints:List Nat)(o:Oper)(s:St)(nx:Nat)(q:Eff->Prop):Prop:=
 match Z0 tt s o.op with|some (rows,neg)=>∀b:Bool,(b=true->rows=[])->q ⟨T.ofV (.bool (match neg with|true=>!b|false=>b)),[]⟩|none=>xop tt ct hints o s nx q
theorem UF{P:Program}{tt:TT}{ct:CTs}{Γ:Env}{n:Nat}{w0:World}{al fr:Nat->Prop}{s:St}{m:Maps}{a:Act}{w:World}{nx:Nat}{o:Oper}(hT:TTok P tt)(a1:CTok P ct Γ.mono)(h:R Γ n w0 al s m a w)(hints:List Nat)(a2:∀i,al i->¬(nx<=i/\i<nx+32))(a3:∀i,nx<=i->i<nx+32->fr i):Snd P Γ al fr m a w o (Qi tt ct hints o s nx):=by
 intro k hk Q;unfold Qi at hk;split at hk;rename_i rows neg hn
 have key:∀(op:BinOp)(t:Nat)(x:Operand)(y:Nat)(i:Nat),o.op=.binOp op t x (.const (.slice none 0 0)) y->cOf s x=some (.ext i)->(∃z,lkp tt t=some z/\∃e,z.d=.slice e)->(EI s i).map (λy=>y.2.2.1)=some rows ->
  ∃b:Bool,(b=true->rows=[])/\(Op.equal t (a.eval x) (.slice none 0 0)).run P w=.ok b w/\(eqGuard op t x (.const (.slice none 0 0)) (a.eval x) (.slice none 0 0)).run P w=.ok () w/\∃ad n c,a.eval x=.slice ad n c:=by
  intro op t x y i ho hc ⟨z,hz,e,he⟩ hs;obtain⟨⟨e',ts,rows',deps⟩,h1,h2⟩:=Option.map_eq_some_iff.1 hs;simp only at h2;subst h2;obtain⟨⟨F,f1,f2⟩,-,-⟩:=h.sl h1;obtain⟨ad,cap,hv,-,-,a0,-⟩:=f1.open;have hx:a.eval x=.slice ad rows'.length cap:=by rw[(h.cc hc).1];exact hv
  have hu:=(hT _ _ hz).d;rw[he]at hu;simp only[TD.fits]at hu;refine⟨ad.isNone,λhb=>(a0 (by simpa using hb)).1,?_,?_,_,_,_,hx⟩;rw[hx];exact run_equalIn_slice_nil w 9999 t e ad rows'.length cap hu;rw[hx];cases op <;> simp[eqGuard]
 unfold Z0 at hn;split at hn;rename_i op t x y ho;split at hn;rename_i i _ _ _ _ _ hc hz;obtain⟨q1,q2,q3⟩:=Option.map_eq_some_iff.1 hn;simp only[Prod.mk.injEq]at q3;obtain⟨rfl,rfl⟩:=q3;obtain⟨b,b1,b2,b3,ad,n',c,hx⟩:=key _ t x y i ho hc ⟨_,hz,_,rfl⟩ (by rw[q2];rfl);rw[hx]at b2 b3;have hb:(Go.binOp .eql t (.slice ad n' c) (.slice none 0 0)).run P w=.ok (.bool b) w:=by simp[Go.binOp,b2]
 refine Oper.wp_value (v:=.bool b) (w':=w) ?_ ⟨_,m,hk b b1,Stp.pure h (T.ofV (.bool b)) (by simp[T.ofV_ids])⟩;simp only[execOp,ho,hx,show a.eval (.const (.slice none 0 0))=.slice none 0 0 from rfl,Sem.run_bind,b3,Result.andThen_ok,hb,Sem.run_pure];rename_i i _ _ _ _ _ hc hz;obtain⟨q1,q2,q3⟩:=Option.map_eq_some_iff.1 hn;simp only[Prod.mk.injEq]at q3;obtain⟨rfl,rfl⟩:=q3;obtain⟨b,b1,b2,b3,ad,n',c,hx⟩:=key _ t x y i ho hc ⟨_,hz,_,rfl⟩ (by rw[q2];rfl);rw[hx]at b2 b3;have hb:(Go.binOp .neq t (.slice ad n' c) (.slice none 0 0)).run P w=.ok (.bool !b) w:=by simp[Go.binOp,b2]
 refine Oper.wp_value (v:=.bool !b) (w':=w) ?_ ⟨_,m,hk b b1,Stp.pure h (T.ofV (.bool !b)) (by simp[T.ofV_ids])⟩;simp only[execOp,ho,hx,show a.eval (.const (.slice none 0 0))=.slice none 0 0 from rfl,Sem.run_bind,b3,Result.andThen_ok,hb,Sem.run_pure];cases hn;cases hn;exact W9 hT a1 h hints a2 a3 k hk Q
def C7(all:List Oper)(j:Nat):Option Nat:=(all[j]?).bind (·.dst)
def J6(s:St)(t:Nat):Option Bool:=
 match (lkp s.tm t).bind T.im with|some (.bool b)=>some b|_=>none
def Lc(s:St)(t:Nat):Bool:=
 match (lkp s.tm t).bind T.im with|some (.tuple _)=>true|_=>false
def Kw(tt:TT)(ct:CTs)(hints:List Nat)(n:Nat)(all:List Oper):List Oper->St->Nat->(St->Nat->Prop)->Prop
 | [],s,nx,q=>q s nx|o::r,s,nx,q=>
  match Kv n o with
  |false=>False|true=>
   match o.guard with
   |none=>Qi tt ct hints o s nx λe=>Kw tt ct hints n all r (s.put o e) (nx+32) q|some (j,want)=>
    match C7 all j with
    |none=>False|some t=>
     match J6 s t with
     |none=>
      match Lc s t with|true=>Kw tt ct hints n all r (s.put o ⟨T.ofV undef,[]⟩) (nx+32) q|false=>False
     |some b=>
      MU (s.lit.any (Nat.beq t)) (match want with|true=>b|false=>!b)
       (Qi tt ct hints o (s.know t want) nx λe=>Kw tt ct hints n all r ((s.know t want).put o e) (nx+32) q)
       (Kw tt ct hints n all r ((s.know t (!want)).put o ⟨T.ofV undef,[]⟩) (nx+32) q)
section
variable {P : Program} {tt : TT} {ct : CTs} {Γ : Env} {n : Nat} {w0 : World} {al fr : Nat → Prop} {s : St} {m : Maps} {a : Act} {w : World} {nx : Nat} {o : Oper}
theorem IA(h:R Γ n w0 al s m a w){t:Nat}{b:Bool}(hb:J6 s t=some b):a.tmps.getD t undef=.bool b:=by unfold J6 at hb;split at hb;rename_i b' h1;simp only[Option.some.injEq]at hb;subst hb;obtain⟨v,e1,e2⟩:=Option.bind_eq_some_iff.1 h1;rw[(h.tm t v e1).1,(T.im_den m e2).1];cases hb
theorem J7{ops:Array Oper}{all:List Oper}(a0:all=ops.toList){j t:Nat}{want b:Bool}(hg:o.guard=some (j,want))(ht:C7 all j=some t)(hb:a.tmps.getD t undef=.bool b):Region.wanted o (yielded ops a.tmps)=(b == want):=by
 subst a0;have h1:(ops[j]?).bind (·.dst)=some t:=by unfold C7 at ht;simpa using ht
 have h2:a.tmps[t]?=some (.bool b):=by
  rw[Array.getD_eq_getD_getElem?]at hb;cases hx:a.tmps[t]? with|none=>rw[hx]at hb;simp[undef]at hb|some v=>rw[hx]at hb;simpa using hb
 simp only[Region.wanted,hg,yielded,h1,Option.bind_some,h2];rfl
theorem Iq{ops:Array Oper}{all:List Oper}(a0:all=ops.toList){j t:Nat}{want:Bool}(hg:o.guard=some (j,want))(ht:C7 all j=some t){x:Array Value}(hb:a.tmps.getD t undef=.tuple x):Region.wanted o (yielded ops a.tmps)=false:=by
 subst a0;have h1:(ops[j]?).bind (·.dst)=some t:=by unfold C7 at ht;simpa using ht
 simp only[Region.wanted,hg,yielded,h1,Option.bind_some];rw[Array.getD_eq_getD_getElem?]at hb;cases hx:a.tmps[t]? with|none=>rfl|some v=>rw[hx]at hb;simp only[Option.getD_some]at hb;subst hb;rfl
theorem MW(h:R Γ n w0 al s m a w){t:Nat}(hb:Lc s t=true):∃x,a.tmps.getD t undef=.tuple x:=by unfold Lc at hb;split at hb;rename_i x h1;obtain⟨v,e1,e2⟩:=Option.bind_eq_some_iff.1 h1;exact⟨x,by rw[(h.tm t v e1).1,(T.im_den m e2).1]⟩;cases hb
theorem FO(hT:TTok P tt)(a2:CTok P ct Γ.mono){hints:List Nat}{ops:Array Oper}{all:List Oper}(a0:all=ops.toList){Q:Exit->Act->World->Prop} :
  ∀(l:List Oper){s:St}{nx:Nat}{m:Maps}{a:Act}{w:World}{q:St->Nat->Prop},Kw tt ct hints n all l s nx q->0<nx->R Γ n w0 (alN nx) s m a w ->
   (∀s' nx' m' a' w',0<nx'->q s' nx'->R Γ n w0 (alN nx') s' m' a' w'->Q .normal a' w')->wpList P ops Q l a w
 | [],s,nx,m,a,w,q,hx,h0,h,hq=>wpList_nil (hq _ _ _ _ _ h0 hx h)|o::r,s,nx,m,a,w,q,hx,h0,h,hq=>by
  refine wpList_step λK hK=>?_;simp only[Kw]at hx;split at hx;exact hx.elim;rename_i hd;have run:∀s2:St,R Γ n w0 (alN nx) s2 m a w->(Qi tt ct hints o s2 nx λe=>Kw tt ct hints n all r (s2.put o e) (nx+32) q)->o.wp P a w K Q:=by intro s2 h2 hx2;have hs:=UF (o:=o) (fr:=λi=>nx<=i/\i<nx+32) hT a2 h2 hints (λi hi=>by unfold alN at hi;omega) (λi h1 h2=>⟨h1,h2⟩) _ hx2 Q;refine Oper.wp_mono ?_ hs;rintro a' w' ⟨e,m',he,a3⟩;exact hK _ _ (FO hT a2 a0 r he (by omega) (h2.put h0 a3 hd) hq)
  split at hx;rename_i hg;rw[if_pos (by simp[Region.wanted,hg])];exact run s h hx;rename_i j want hg;split at hx;exact hx.elim;rename_i t ht;split at hx;split at hx;rename_i hu;obtain⟨x,hu⟩:=MW h hu;rw[Iq a0 hg ht hu];simp only[Bool.false_eq_true,if_false];exact hK _ _ (FO hT a2 a0 r hx (by omega) (h.put h0 (Stp.skip h) hd) hq);exact hx.elim;rename_i b hb;have a4:=IA h hb;rw[J7 a0 hg ht a4];obtain⟨g1,g2⟩:=Ex hx;by_cases a5:b=want;subst a5;have hk:=g1 (by cases b <;> rfl);simp only[beq_self_eq_true,if_true];exact run _ (h.know a4) hk;have a1 : b=!want:=by cases b <;> cases want <;> simp at a5 ⊢
  have hk:=g2 (by subst a1;cases want <;> rfl);have a6:(b == want)=false:=by simpa using a5
  rw[a6];simp only[Bool.false_eq_true,if_false];have h2:=h.know (b:=!want) (by rw[a4,a1]);exact hK _ _ (FO hT a2 a0 r hk (by omega) (h2.put h0 (Stp.skip h2) hd) hq)
end
theorem XC{X:Option (Option Prop×T)}{q:Eff->Prop}(h:xp X q):∃e,q e/\xp X (·=e):=by
 unfold xp at h ⊢;split at h;rename_i p v;cases p with|none=>exact⟨_,h,rfl⟩|some p=>exact⟨_,h.2,h.1,rfl⟩
 exact h.elim
theorem XD{s:St}{nx:Nat}{x:Operand}{q:Eff->Prop}(h:VP s nx x q):∃e,q e/\VP s nx x (·=e):=by unfold VP at h ⊢;split at h;split at h;split at h;rename_i hc;exact⟨_,h,by rw[if_pos hc]⟩;exact h.elim;exact h.elim;exact h.elim
theorem Sc{tt:TT}{nx t:Nat}{q:Eff->Prop}(h:Jy tt nx t q):∃e,q e/\Jy tt nx t (·=e):=by unfold Jy at h ⊢;split at h;exact⟨_,h,rfl⟩;exact h.elim
theorem Sd{tt:TT}{s:St}{nx t k sz i j:Nat}{q:Eff->Prop}(h:Jz tt s nx t k sz i j q):∃e,q e/\Jz tt s nx t k sz i j (·=e):=by unfold Jz at h ⊢;split at h;split at h;rename_i hc;simp only[if_pos hc];split at h;split at h;exact⟨_,h.2,h.1,rfl⟩;exact h.elim;exact h.elim;exact h.elim;exact h.elim
theorem Qj{tt:TT}{s:St}{t i off:Nat}{v:T}{q:Eff->Prop}(h:Hv tt s t i off v q):∃e,q e/\Hv tt s t i off v (·=e):=by unfold Hv at h ⊢;split at h;split at h;rename_i hc;exact⟨_,h,by rw[if_pos hc]⟩;exact h.elim;exact h.elim
theorem Se{tt:TT}{s:St}{nx t:Nat}{x:Option T}{lo hi:Option Operand}{q:Eff->Prop}(h:J0 tt s nx t x lo hi q):∃e,q e/\J0 tt s nx t x lo hi (·=e):=by unfold J0 at h ⊢;split at h;split at h;split at h;obtain⟨h1,h2,h3,h4,h⟩:=h;exact⟨_,h,h1,h2,h3,h4,rfl⟩;exact h.elim;exact h.elim;split at h;split at h;obtain⟨h1,h2,h3,h⟩:=h;exact⟨_,h,h1,h2,h3,rfl⟩;exact h.elim;exact h.elim;exact h.elim
theorem XF{tt:TT}{s:St}{nx t:Nat}{x:Option T}{lo hi:Option Operand}{q:Eff->Prop}(h:VV tt s nx t x lo hi q):∃e,q e/\VV tt s nx t x lo hi (·=e):=by unfold VV at h;exact h.elim
theorem LY{tt:TT}{s:St}{nx t len:Nat}{shape:List Ty}{ps:List (Nat×Operand)}{top:Bool}{q:Eff->Prop}(h:DR tt s nx t len shape ps top q):∃e,q e/\DR tt s nx t len shape ps top (·=e):=by unfold DR at h ⊢;split at h;split at h;rename_i hc;simp only[if_pos hc];split at h;split at h;rename_i hn;exact⟨_,h,by rw[if_pos hn]⟩;exact h.elim;split at h;exact⟨_,h,rfl⟩;exact h.elim;exact h.elim;exact h.elim
theorem Qk{tt:TT}{s:St}{nx t:Nat}{x y:Option T}{q:Eff->Prop}(h:Hx tt s nx t x y q):∃e,q e/\Hx tt s nx t x y (·=e):=by unfold Hx at h ⊢;split at h;split at h;split at h;split at h;rename_i hc;simp only[if_pos hc];obtain⟨hl,h⟩:=h;split at h;exact⟨_,h,hl,rfl⟩;split at h;exact h.elim;rename_i hn;exact⟨_,h,hl,by rw[if_neg hn]⟩;split at h;exact h.elim;rename_i hn;exact⟨_,h,hl,by rw[if_neg hn]⟩;exact h.elim;exact h.elim;exact h.elim;exact h.elim
theorem Ql{tt:TT}{s:St}{t k sz i j:Nat}{v:T}{q:Eff->Prop}(h:H5 tt s t k sz i j v q):∃e,q e/\H5 tt s t k sz i j v (·=e):=by unfold H5 at h ⊢;split at h;split at h;split at h;rename_i a0 hc;simp only[a0,if_pos hc];obtain⟨hi,h⟩:=h;exact⟨_,h,hi,rfl⟩;exact h.elim;exact h.elim;exact h.elim
theorem Qm{tt:TT}{s:St}{t k sz i j:Nat}{v:T}{q:Eff->Prop}(h:H4 tt s t k sz i j v q):∃e,q e/\H4 tt s t k sz i j v (·=e):=by unfold H4 at h;exact h.elim
theorem Sf{tt:TT}{s:St}{c:Con}{ds:List DA}{cells:List C}{q:Eff->Prop}(h:J1 tt s c ds cells q):∃e,q e/\J1 tt s c ds cells (·=e):=by
 unfold J1 at h ⊢;split at h;split at h;split at h;rename_i hc;simp only[if_pos hc];obtain⟨i,h1,h2,h⟩:=h;obtain⟨h3,h⟩:=MR h;split at h;rename_i e1 e2;refine⟨_,h _ rfl,i,h1,h2,?_⟩
 have:∀{ps:List Prop}{p:Prop},(∀x ∈ ps,x)->p->obs ps p:=by
  intro ps;induction ps with|nil=>intro p _ h;exact h|cons x r ih=>intro p hx h;exact⟨hx x (by simp),ih (λy hy=>hx y (List.mem_cons_of_mem _ hy)) h⟩
 exact this h3 (by rw[e1,e2];intro R hR;rw[hR]);exact h.elim;exact h.elim;exact h.elim;exact h.elim
theorem Qn{tt:TT}{s:St}{t k sz i j:Nat}{v:T}{q:Eff->Prop}(h:H7 tt s t k sz i j v q):∃e,q e/\H7 tt s t k sz i j v (·=e):=by unfold H7 at h ⊢;split at h;split at h;split at h;rename_i a0 hc;simp only[a0,if_pos hc];obtain⟨hi,h⟩:=h;exact⟨_,h _ rfl,hi,λR hR=>by rw[hR]⟩;exact h.elim;exact h.elim;exact h.elim
theorem Sg{tt:TT}{s:St}{nx:Nat}{c:Con}{cs pn:c.ι->List PC}{tys:List Nat}{as:List T}{q:Eff->Prop}(h:J2 tt s nx c cs pn tys as q):∃e,q e/\J2 tt s nx c cs pn tys as (·=e):=by unfold J2 at h;exact h.elim
theorem Sh{tt:TT}{s:St}{nx:Nat}{c:Con}{pc:c.ι->List PC}{tys:List Nat}{as:List T}{q:Eff->Prop}(h:J3 tt s nx c pc tys as q):∃e,q e/\J3 tt s nx c pc tys as (·=e):=by unfold J3 at h;exact h.elim
theorem Si{tt:TT}{s:St}{nx:Nat}{c:Con}{r0:c.ι->DC}{tp:c.ι->List Nat}{tys:List Nat}{as:List T}{q:Eff->Prop}(h:J4 tt s nx c r0 tp tys as q):∃e,q e/\J4 tt s nx c r0 tp tys as (·=e):=by unfold J4 at h ⊢;split at h;split at h;split at h;rename_i hc;simp only[if_pos hc];obtain⟨i,h1,h2,h3,h⟩:=h;exact⟨_,h,i,h1,h2,h3,rfl⟩;exact h.elim;exact h.elim;exact h.elim
theorem Vf{tt:TT}{ct:CTs}{s:St}{nx f:Nat}{tys:List Nat}{as:List T}{q:Eff->Prop}(a0:∀f c,(f,c) ∈ ct->c.alt=none)(h:N2 tt ct s nx f tys as q):∃e,q e/\N2 tt ct s nx f tys as (·=e):=by unfold N2 at h ⊢;split at h;exact h.elim;rename_i c hl;obtain⟨g,hg⟩:=QW hl;have ha:=a0 g c hg;split at h;exact Sg h;split at h;exact Sh h;split at h;exact Si h;split at h;exact h.elim;split at h;exact Sf h;split at h;rename_i hc;simp only[if_pos hc];obtain⟨i,h1,h2,h⟩:=h;rw[ha]at h;exact⟨_,h,i,h1,h2,by rw[ha]⟩;exact h.elim
theorem Qo{tt:TT}{s:St}{t k sz i j:Nat}{v:T}{q:Eff->Prop}(h:H6 tt s t k sz i j v q):∃e,q e/\H6 tt s t k sz i j v (·=e):=by unfold H6 at h;exact h.elim
theorem Vg{tt:TT}{s:St}{nx t:Nat}{shape:List Ty}{x y:Operand}{q:Eff->Prop}(h:N1 tt s nx t shape x y q):∃e,q e/\N1 tt s nx t shape x y (·=e):=by unfold N1 at h ⊢;split at h;split at h;split at h;rename_i hz hc;simp only[hz,if_pos hc];obtain⟨h1,h2,h3,h⟩:=h;exact⟨_,h,h1,h2,h3,rfl⟩;exact h.elim;exact h.elim;exact h.elim
theorem Sj{tt:TT}{s:St}{nx t k o:Nat}{q:Eff->Prop}(h:Io tt s nx t k o q):∃e,q e/\Io tt s nx t k o (·=e):=by unfold Io at h ⊢;split at h;split at h;rename_i hc;simp only[if_pos hc];split at h;split at h;rename_i h2;exact⟨_,h,by simp only[h2]⟩;exact h.elim;exact h.elim;exact h.elim;exact h.elim
theorem Sk{tt:TT}{s:St}{nx t u:Nat}{x:Operand}{q:Eff->Prop}(h:MT tt s nx t u x q):∃e,q e/\MT tt s nx t u x (·=e):=by unfold MT at h ⊢;exact XC h
theorem Qp{tt:TT}{s:St}{nx t:Nat}{ps:List (Nat×Operand)}{shape:List Ty}{q:Eff->Prop}(h:H9 tt s nx t ps shape q):∃e,q e/\H9 tt s nx t ps shape (·=e):=by unfold H9 at h ⊢;split at h;split at h;exact⟨_,h,rfl⟩;exact h.elim;exact h.elim
theorem Qq{tt:TT}{s:St}{nx t len:Nat}{ps:List (Nat×Operand)}{q:Eff->Prop}(h:H8 tt s nx t len ps q):∃e,q e/\H8 tt s nx t len ps (·=e):=by unfold H8 at h;exact h.elim
theorem UG{tt:TT}{ct:CTs}{hints:List Nat}{o:Oper}{s:St}{nx:Nat}{q:Eff->Prop}(a0:∀f c,(f,c) ∈ ct->c.alt=none)(h:xop tt ct hints o s nx q):∃e,q e/\xop tt ct hints o s nx (·=e):=by
 unfold xop at h ⊢
 repeat' (first
  |exact XC h
  |exact Sk h
  |exact Qq h
  |exact Qp h
  |exact XD h
  |exact Sc h
  |exact Sd h
  |exact Qj h
  |exact Ql h
  |exact Qm h
  |exact Qn h
  |exact Se h
  |exact XF h
  |exact LY h
  |exact Qk h
  |exact Vf a0 h
  |exact Qo h
  |exact Vg h
  |exact Sj h
  |exact h.elim
  |(split at h <;> simp only[*])
  |split at h)
abbrev Tr:=List (Oper×Eff)
def mem(l:List Nat)(x:Nat):Bool:=l.any (Nat.beq x)
theorem mem_iff{l:List Nat}{x:Nat} : mem l x=true<->x ∈ l:=by unfold mem;constructor;intro h;obtain⟨y,hy,e⟩:=List.any_eq_true.1 h;simp at e;subst e;exact hy;intro h;exact List.any_eq_true.2 ⟨x,h,by simp⟩
theorem Fw{l:List Nat}{x:Nat} : mem l x=false<->x ∉ l:=by rw[← mem_iff];cases mem l x <;> simp
def MX(o:Oper):List Nat:=(o.after.toList.filter (Region.binds .any)).map (·.on)
def XG:List Nat->List Nat->List Nat
 | [],acc=>acc|x::r,acc=>if mem acc x=true then XG r acc else XG r (x::acc)
def Y3:List Oper->List (List Nat)->List (List Nat)
 | [],acc=>acc|o::r,acc=>Y3 r (acc++[XG ((MX o).flatMap λj=>j::acc.getD j []) []])
def anc(A:List (List Nat))(i k:Nat):Bool:=mem (A.getD i []) k
def Hb(A:List (List Nat)):List Oper->Nat->Bool
 | [],_=>true|o::r,i=>
  ((MX o).all λj=>Nat.ble (j+1) i && anc A i j && (A.getD j []).all λk=>anc A i k) &&
  ((A.getD i []).all λk=>Nat.ble (k+1) i && (MX o).any λj=>Nat.beq j k || anc A j k) && Hb A r (i+1)
def fold(D:Nat->Bool):Tr->Nat->St->St
 | [],_,s=>s|(o,e)::r,k,s=>fold D r (k+1) (match D k with|true=>s.app o.dst e|false=>s)
def Ir(A:List (List Nat))(i:Nat):List Oper->Nat->List Nat
 | [],_=>[]|o::r,k=>(match Nat.beq k i || anc A i k || anc A k i with|true=>[]|false=>o.dst.toList)++Ir A i r (k+1)
def XH(ts:List Nat)(s:St)(lit:List Nat):St:={tm:=s.tm.filter λx=>!(mem ts x.1),en:=s.en,lit:=lit}
def Kx:Eff:=⟨T.ofV undef,[]⟩
def J8(tr:Tr)(j:Nat)(v:T):Tr:=
 match tr[j]? with|some (o,e)=>tr.set j (o,{e with val:=v})|none=>tr
def Qr(tr:Tr)(j:Nat):Option Bool:=
 match tr[j]? with|some (_,⟨.one (.one (.im (.bool b))),_⟩)=>some b|_=>none
def Vh(tr:Tr)(j:Nat):Bool:=
 match tr[j]? with|some (_,⟨.one (.one (.im (.tuple _))),_⟩)=>true|_=>false
def XI(f:Bool)(dst:Option Tmp)(lit:List Nat):List Nat:=
 match f,dst with|true,some t=>t::lit|_,_=>lit
def stored(s:St)(o:Oper):List Nat:=
 match o.op with
 | .store _ x _=>
  match cOf s x with|some (.bp i _)=>[i]|_=>[]
 |_=>[]
def AAf(o:Oper):Bool:=
 match o.op with| .move _=>true|_=>false
def O8(s:St)(t:Nat):List Oper->Option C
 | []=>none|o::r=>
  match o.dst with
  |some t'=>match Nat.beq t t' with|true=>(match o.op with|.move x=>cOf s x|_=>none)|false=>O8 s t r
  |none=>O8 s t r
def AAg(s:St)(all:List Oper)(o:Oper):List Nat:=
 match o.op with
 | .call c=>
  match c.args.toList with
  | .tmp t::_=>
   match (match O8 s t all with|some c=>some c|none=>cOf s (.tmp t))with
   |some (.bp i _)=>match lkp s.en i with|some (.box cs)=>(match cs.any (λc=>match c with|.ext k=>AAZ s k|_=>false)with|true=>[i]|false=>[])|_=>[]
   |_=>[]
  |_=>[]
 |_=>[]
def AAA(all:List Oper)(A:List (List Nat))(s:St)(i:Nat):List Oper->Nat->List Nat
 | [],_=>[]|o::r,k=>(match Nat.beq k i with|true=>(match AAf o with|true=>s.en.map (·.1)|false=>[])|false=>match anc A i k || anc A k i with|true=>[]|false=>stored s o++AAg s all o)++AAA all A s i r (k+1)
def JE(A:List (List Nat))(s:St)(i:Nat)(l:List Oper)(k:Nat):List Nat:=AAA l A s i l k
def GP(us:List Nat)(s:St):St:=
 match us with| []=>s|us=>{tm:=s.tm,en:=s.en.filter λx=>!(mem us x.1),lit:=s.lit}
def Ii(us:List Nat)(D:Nat->Bool):Tr->Nat->St->St
 | [],_,s=>s|(o,e)::r,k,s=>Ii us D r (k+1) (match D k with|true=>GP us (s.app o.dst e)|false=>s)
def G4(A:List (List Nat))(all:List Oper)(s0:St)(tr:Tr)(i:Nat)(lit:List Nat):St:=XH (Ir A i all 0) (Ii (JE A s0 i all 0) (anc A i) tr 0 (GP (JE A s0 i all 0) s0)) lit
def JF(tt:TT)(ct:CTs)(hints:List Nat)(n:Nat)(all:List Oper)(A:List (List Nat))(s0:St)(nx:Nat):List Oper->Nat->Tr->List Nat->(Tr->List Nat->Prop)->Prop
 | [],_,tr,lit,q=>q tr lit|o::r,i,tr,lit,q=>
  match Kv n o with
  |false=>False|true=>
   match o.guard with
   |none=>xop tt ct hints o (G4 A all s0 tr i lit) (nx+32*i) λe=>JF tt ct hints n all A s0 nx r (i+1) (tr++[(o,e)]) (XI (XB (G4 A all s0 tr i lit) o.op) o.dst lit) q|some (j,want)=>
    match anc A i j,C7 all j,Qr tr j with
    |true,some t,some b=>
     MU (mem lit t) (match want with|true=>b|false=>!b)
      (xop tt ct hints o (G4 A all s0 (J8 tr j (T.ofV (.bool want))) i (t::lit)) (nx+32*i) λe=>
       JF tt ct hints n all A s0 nx r (i+1) (J8 tr j (T.ofV (.bool want))++[(o,e)]) (XI (XB (G4 A all s0 (J8 tr j (T.ofV (.bool want))) i (t::lit)) o.op) o.dst (t::lit)) q)
      (JF tt ct hints n all A s0 nx r (i+1) (J8 tr j (T.ofV (.bool (!want)))++[(o,Kx)]) (t::lit) q)
    |true,some _,none=>
     match Vh tr j with|true=>JF tt ct hints n all A s0 nx r (i+1) (tr++[(o,Kx)]) lit q|false=>False
    |_,_,_=>False
def AAB(x y:Oper):Bool:=
 match x.dst,y.dst with|some a,some b=>!(Nat.beq a b)|_,_=>true
def AAh(a b:List Nat):Bool:=a.all λx=>!(mem b x)
def Qs(us:List Nat)(u:List (Nat×En)):Bool:=u.any λx=>En.hangs us x.2
def Is(x y:Oper×Eff):Bool:=AAB x.1 y.1 && AAh x.2.us y.2.us && !(Qs y.2.us x.2.upd) && !(Qs x.2.us y.2.upd)
def O9(us:List Nat)(en:List (Nat×En)):Bool:=
 match us with| []=>true|_=>en.all λx=>!(mem us x.1) && !(En.hangs us x.2)
def J9(A:List (List Nat))(us:List Nat)(i:Nat):Tr->Nat->St->Bool
 | [],_,_=>true|(o,e)::r,k,V=>
  match anc A i k with|true=>J9 A us i r (k+1) (GP us (V.app o.dst e))|false=>(match Nat.beq k i || anc A k i with|true=>true|false=>O9 e.us V.en) && J9 A us i r (k+1) V
def IB(A:List (List Nat))(i:Nat)(x:Oper×Eff):Tr->Nat->Bool
 | [],_=>true|y::r,k=>(Nat.ble k i || anc A k i || Is x y) && IB A i x r (k+1)
def GQ(A:List (List Nat))(s0:St)(tr:Tr):Tr->Nat->Bool
 | [],_=>true|x::r,i=>J9 A (JE A s0 i (tr.map (·.1)) 0) i tr 0 (GP (JE A s0 i (tr.map (·.1)) 0) s0) && IB A i x tr 0 && GQ A s0 tr r (i+1)
def Fk:List Oper->List Nat
 | []=>[]|o::r=>o.dst.toList++Fk r
def PA(tt:TT)(ct:CTs)(hints:List Nat)(n:Nat)(all:List Oper)(s0:St)(nx:Nat)(q:St->Nat->Prop):Prop:=
 match Hb (Y3 all []) all 0 && GO (Fk all)with
 |false=>False|true=>JF tt ct hints n all (Y3 all []) s0 nx all 0 [] (s0.lit.filter λt=>!(mem (Fk all) t)) λtr lit=>
  match GQ (Y3 all []) s0 tr tr 0 with|false=>False|true=>q {fold (λ_=>true) tr 0 s0 with lit:=lit} (nx+32*all.length)
theorem Hc(s:St)(dst:Option Tmp)(e:Eff)(t:Nat):lkp (s.app dst e).tm t=if dst=some t then some e.val else lkp s.tm t:=by
 cases dst with|none=>simp[St.app]|some d=>simp only[St.app,AY,Option.some.injEq]
def Fx(us:List Nat)(E:En):En:=if En.hangs us E then .dead else E
theorem KA(E:En):En.hangs [] E=false:=by cases E <;> simp[En.hangs]
theorem KB(s:St)(dst:Option Tmp)(e:Eff)(i:Nat):lkp (s.app dst e).en i=(lkp e.upd i).or ((lkp s.en i).map (Fx e.us)):=by
 have key:lkp (e.upd++O0 e.us s.en) i=(lkp e.upd i).or ((lkp s.en i).map (Fx e.us)):=by rw[Eu,QJ];rfl
 simp only[St.app];cases hu:e.upd with
 |nil=>
  have a0:e.us=[]:=by simp[Eff.us,hu]
  have:Fx e.us=id:=by funext E;simp[Fx,a0,KA]
  rw[this];simp[lkp]
 |cons x r=>rw[hu]at key;exact key
def Vis(U:List Nat)(V S:St):Prop:=(∀t,t ∉ U->lkp V.tm t=lkp S.tm t)/\∀i E,lkp V.en i=some E->(E=.dead/\∃E',lkp S.en i=some E')\/lkp S.en i=some E
theorem Vis.refl(U:List Nat)(s:St):Vis U s s:=⟨λ_ _=>rfl,λ_ _ h=>.inr h⟩
theorem Ky{us:List Nat}{l:List (Nat×En)}{i:Nat}{E:En}(h:lkp (l.filter λx=>!(mem us x.1)) i=some E):lkp l i=some E:=by
 induction l with
 |nil=>simp[lkp]at h|cons x r ih=>
  obtain⟨j,F⟩:=x;rw[AY];by_cases hj:mem us j=true;rw[List.filter_cons_of_neg (by simp[hj])]at h;split;rename_i e;subst e;exfalso
  have:∀r:List (Nat×En),lkp (r.filter λx=>!(mem us x.1)) j≠some E:=by
   intro r;induction r with|nil=>simp[lkp]|cons y r ih2=>obtain⟨q,G⟩:=y;by_cases hq:mem us q=true;rw[List.filter_cons_of_neg (by simp[hq])];exact ih2;rw[List.filter_cons_of_pos (by simpa using hq),AY];split;rename_i e;subst e;exact absurd hj hq;exact ih2
  exact this r h;exact ih h;rw[List.filter_cons_of_pos (by simpa using hj),AY]at h;split;rename_i e;rw[if_pos e]at h;exact h;rename_i e;rw[if_neg e]at h;exact ih h
theorem Vis.hide(U us:List Nat)(s:St):Vis U (GP us s) s:=by
 cases us with|nil=>exact Vis.refl U s|cons u us=>exact⟨λ_ _=>rfl,λi E h=>.inr (Ky h)⟩
theorem Vis.hid{U:List Nat}{V S:St}(h:Vis U V S)(us:List Nat):Vis U (GP us V) S:=by
 obtain⟨h1,h2⟩:=Vis.hide U us V;refine⟨λt ht=>(h1 t ht).trans (h.1 t ht),λi E hE=>?_⟩
 have:lkp V.en i=some E:=by
  cases us with|nil=>exact hE|cons u us=>exact Ky hE
 exact h.2 i E this
theorem Vis.both{U:List Nat}{V S:St}(h:Vis U V S)(dst:Option Tmp)(e:Eff):Vis U (V.app dst e) (S.app dst e):=by
 refine⟨λt ht=>by rw[Hc,Hc,h.1 t ht],λi E hE=>?_⟩;rw[KB]at hE ⊢;cases hu:lkp e.upd i with
 |some E'=>rw[hu]at hE;exact .inr hE|none=>
  rw[hu,Option.none_or]at hE;rw[Option.none_or];cases hv:lkp V.en i with|none=>rw[hv]at hE;cases hE|some E0=>rw[hv]at hE;rcases h.2 i E0 hv with⟨rfl,E',h2⟩|h2;simp[Fx,En.hangs]at hE;exact .inl ⟨hE.symm,by rw[h2];exact⟨_,rfl⟩⟩;rw[h2];exact .inr hE
theorem Vis.other{U:List Nat}{V S:St}(h:Vis U V S){dst:Option Tmp}{e:Eff}(hd:∀t,dst=some t->t ∈ U)(hc:O9 e.us V.en=true):Vis U V (S.app dst e):=by
 have hc:∀i E,lkp V.en i=some E->i ∉ e.us/\En.hangs e.us E=false:=by intro i E hE;unfold O9 at hc;split at hc;rename_i a0;rw[a0];exact⟨by simp,KA E⟩;have:=List.all_eq_true.1 hc _ (ET hE);simp only[Bool.and_eq_true,Bool.not_eq_true']at this;exact⟨Fw.1 this.1,this.2⟩
 refine⟨λt ht=>?_,λi E hE=>?_⟩;rw[Hc,if_neg (λe=>ht (hd t e)),h.1 t ht];obtain⟨c1,c2⟩:=hc i E hE;rcases h.2 i E hE with⟨h2,E',h3⟩|h2;left;refine⟨h2,?_⟩;rw[KB,h3];cases lkp e.upd i with|none=>exact⟨_,rfl⟩|some E2=>exact⟨_,rfl⟩
 right;rw[KB,h2]
 have:lkp e.upd i=none:=by
  cases hl:lkp e.upd i with|none=>rfl|some E'=>exact absurd (List.mem_map.2 ⟨_,ET hl,rfl⟩) c1
 rw[this];simp[Fx,c2]
theorem JG{A:List (List Nat)}{us:List Nat}{i:Nat}{U:List Nat}{D:Nat->Bool}(h1:∀k,anc A i k=true->D k=true)(h2:D i=false)(h3:∀k,D k=true->anc A k i=false):∀(tr:Tr)(k:Nat)(V S:St),
  (∀q o e,tr[q]?=some (o,e)->D (k+q)=true->anc A i (k+q)=false->∀t,o.dst=some t->t ∈ U)->J9 A us i tr k V=true->Vis U V S->Vis U (Ii us (anc A i) tr k V) (fold D tr k S)
 | [],k,V,S,_,_,h=>h|(o,e)::r,k,V,S,hU,hc,h=>by
  have hU' : ∀q o e,r[q]?=some (o,e)->D (k+1+q)=true->anc A i (k+1+q)=false->∀t,o.dst=some t->t ∈ U:=λq o e hq=>by have:=hU (q+1) o e (by simpa using hq);rwa [show k+(q+1)=k+1+q by omega]at this
  simp only[fold,Ii];simp only[J9]at hc;cases ha:anc A i k with
  |true=>rw[ha]at hc;rw[h1 k ha];exact JG h1 h2 h3 r (k+1) _ _ hU' hc ((h.both _ _).hid _)|false=>
   rw[ha]at hc;simp only[Bool.and_eq_true]at hc;cases hD:D k with
   |false=>exact JG h1 h2 h3 r (k+1) _ _ hU' hc.2 h|true=>
    have a0:(Nat.beq k i || anc A k i)=false:=by
     have e1:Nat.beq k i=false:=by
      cases he:Nat.beq k i with|false=>rfl|true=>have:=Nat.eq_of_beq_eq_true he;subst this;rw[h2]at hD;cases hD
     rw[e1,h3 k hD];rfl
    rw[a0]at hc;exact JG h1 h2 h3 r (k+1) _ _ hU' hc.2 (h.other (hU 0 o e (by simp) (by simpa using hD) (by simpa using ha)) hc.1)
def Eqv(X Y:St):Prop:=(∀t,lkp X.tm t=lkp Y.tm t)/\∀i,lkp X.en i=lkp Y.en i
theorem Eqv.refl(X:St):Eqv X X:=⟨λ_=>rfl,λ_=>rfl⟩
theorem Eqv.trans{X Y Z:St}(h:Eqv X Y)(k:Eqv Y Z):Eqv X Z:=⟨λt=>(h.1 t).trans (k.1 t),λi=>(h.2 i).trans (k.2 i)⟩
theorem Eqv.app{X Y:St}(h:Eqv X Y)(dst:Option Tmp)(e:Eff):Eqv (X.app dst e) (Y.app dst e):=
 ⟨λt=>by rw[Hc,Hc,h.1],λi=>by rw[KB,KB,h.2]⟩
theorem Eqv.fold{D:Nat->Bool} : ∀(tr:Tr)(k:Nat){X Y:St},Eqv X Y->Eqv (fold D tr k X) (fold D tr k Y)
 | [],_,_,_,h=>h|(o,e)::r,k,X,Y,h=>by
  simp only[Go.Proofs.YthoidhehmmcgnaaGreat.fold];cases D k with|true=>exact Eqv.fold r (k+1) (h.app _ _)|false=>exact Eqv.fold r (k+1) h
theorem Sl(u v:List Nat)(E:En):Fx u (Fx v E)=Fx v (Fx u E):=by unfold Fx;cases h1:En.hangs u E <;> cases h2:En.hangs v E <;> simp[h1,h2] <;> simp[En.hangs]
theorem XJ{x y:Oper×Eff}(h:Is x y=true)(X:St):Eqv ((X.app x.1.dst x.2).app y.1.dst y.2) ((X.app y.1.dst y.2).app x.1.dst x.2):=by
 simp only[Is,Bool.and_eq_true,Bool.not_eq_true']at h;obtain⟨⟨⟨h1,h2⟩,h3⟩,h4⟩:=h;have a0:∀i,i ∈ x.2.us->i ∉ y.2.us:=λi hi=>by have:=List.all_eq_true.1 h2 i hi;exact Fw.1 (by simpa using this)
 refine⟨λt=>?_,λi=>?_⟩;simp only[Hc];unfold AAB at h1;by_cases hx:x.1.dst=some t;by_cases hy:y.1.dst=some t;rw[hx,hy]at h1;simp at h1;simp[hx,hy];simp[hx];simp only[KB];cases hx:lkp x.2.upd i with
 |some E=>
  have a1:i ∈ x.2.us:=List.mem_map.2 ⟨_,ET hx,rfl⟩
  have hy:lkp y.2.upd i=none:=by
   cases hy:lkp y.2.upd i with|none=>rfl|some E'=>exact absurd (List.mem_map.2 ⟨_,ET hy,rfl⟩) (a0 i a1)
  have hh:En.hangs y.2.us E=false:=by have:=List.any_eq_false.1 h3 _ (ET hx);simpa using this
  simp[hy,Fx,hh]
 |none=>
  cases hy:lkp y.2.upd i with
  |some E=>have hh:En.hangs x.2.us E=false:=(by have:=List.any_eq_false.1 h4 _ (ET hy);simpa using this);simp[Fx,hh]|none=>
   simp only[Option.none_or];cases lkp X.en i with|none=>rfl|some E=>simp only[Option.map_some];rw[Sl]
theorem PB{a b:Nat}(h:a≠b):Nat.beq a b=false:=by
 cases hb:Nat.beq a b with|false=>rfl|true=>exact absurd (Nat.eq_of_beq_eq_true hb) h
theorem KC{D:Nat->Bool}{x:Oper×Eff} : ∀(tr:Tr)(k:Nat)(X:St),(∀q y,tr[q]?=some y->D (k+q)=true->Is x y=true)->Eqv (fold D tr k (X.app x.1.dst x.2)) ((fold D tr k X).app x.1.dst x.2)
 | [],_,X,_=>Eqv.refl _|(o,e)::r,k,X,h=>by
  have h' : ∀q y,r[q]?=some y->D (k+1+q)=true->Is x y=true:=λq y hq hD=>h (q+1) y (by simpa using hq) (by rwa [show k+(q+1)=k+1+q by omega]);simp only[fold];cases hD:D k with|true=>have:=XJ (h 0 (o,e) (by simp) (by simpa using hD)) X;exact(Eqv.fold r (k+1) this).trans (KC r (k+1) _ h')|false=>exact KC r (k+1) X h'
theorem N9{D D' : Nat->Bool}{i:Nat}{x:Oper×Eff}(hi:D i=false)(hD:∀k,D' k=(D k || Nat.beq k i)):∀(tr:Tr)(k:Nat)(X:St),k<=i->tr[i-k]?=some x->(∀q y,tr[q]?=some y->i<k+q->D (k+q)=true->Is x y=true) ->
  Eqv (fold D' tr k X) ((fold D tr k X).app x.1.dst x.2)
 | [],k,X,_,hx,_=>by simp at hx|(o,e)::r,k,X,hk,hx,h=>by
  simp only[fold];by_cases a0:k=i;subst a0;simp at hx;subst hx;have e1:D' k=true:=by rw[hD];simp
  rw[e1,hi]
  have e2:∀(r:Tr)(k' : Nat)(X:St),k<k'->fold D' r k' X=fold D r k' X:=by
   intro r;induction r with|nil=>intro k' X _;rfl|cons y r ih=>intro k' X hk';obtain⟨o',e'⟩:=y;have:D' k'=D k':=(by rw[hD,PB (by omega),Bool.or_false]);simp only[fold,this,ih (k' + 1) _ (by omega)]
  rw[e2 r (k+1) _ (by omega)];exact KC r (k+1) X λq y hq hDq=>h (q+1) y (by simpa using hq) (by omega) (by rwa [show k+(q+1)=k+1+q by omega]);have e1:D' k=D k:=by rw[hD,PB a0,Bool.or_false]
  rw[e1];exact N9 hi hD r (k+1) _ (by omega) (by rw[show i-k=(i-(k+1))+1 by omega]at hx;simpa using hx) λq y hq hlt hDq=>h (q+1) y (by simpa using hq) (by omega) (by rwa [show k+(q+1)=k+1+q by omega])
theorem JH{us:List Nat}{D:Nat->Bool} : ∀(tr tr' : Tr)(k:Nat)(X:St),(∀q,k+tr.length<=q->D q=false)->Ii us D (tr++tr') k X=Ii us D tr k X
 | [],tr',k,X,h=>by
  simp only[List.nil_append,Ii];induction tr' generalizing k X with|nil=>rfl|cons y r ih=>obtain⟨o,e⟩:=y;simp only[Ii,h k (by simp)];exact ih (k+1) X (λq hq=>h q (by simp at hq ⊢;omega))
 |(o,e)::r,tr',k,X,h=>by simp only[List.cons_append,Ii];exact JH r tr' (k+1) _ λq hq=>h q (by simp at hq ⊢;omega)
theorem Kz{tr:Tr}{j:Nat}{b want:Bool}(h:Qr tr j=some b)(e:b=want):J8 tr j (T.ofV (.bool want))=tr:=by subst e;unfold Qr at h;unfold J8;split at h;rename_i o b' u hj;simp only[Option.some.injEq]at h;subst h;rw[hj];simp only;have hl:=(List.getElem?_eq_some_iff.1 hj);obtain⟨h1,h2⟩:=hl;have e3:(o,({val:=T.ofV (.bool b'),upd:=u} : Eff))=tr[j]:=h2.symm;rw[e3,List.set_getElem_self];cases h
theorem Qt{tr suf:Tr}{j:Nat}{b:Bool}(h:Qr tr j=some b):Qr (tr++suf) j=some b:=by unfold Qr at h ⊢;split at h;rename_i o b' u hj;rw[List.getElem?_append_left (List.getElem?_eq_some_iff.1 hj).1,hj];exact h;cases h
theorem XK{tr suf:Tr}{j:Nat}(h:Vh tr j=true):Vh (tr++suf) j=true:=by unfold Vh at h ⊢;split at h;rename_i o b' u hj;rw[List.getElem?_append_left (List.getElem?_eq_some_iff.1 hj).1,hj];cases h
def XL(tt:TT)(ct:CTs)(hints:List Nat)(n:Nat)(all:List Oper)(A:List (List Nat))(s0:St)(nx:Nat)(TR:Tr)(i:Nat):Prop:=
 ∃o e lit,TR[i]?=some (o,e)/\all[i]?=some o/\Kv n o=true /\
  match o.guard with|none=>xop tt ct hints o (G4 A all s0 TR i lit) (nx+32*i) (·=e)|some (j,want)=>anc A i j=true/\∃t,C7 all j=some t/\((Vh TR j=true/\e=Kx)\/∃b,Qr TR j=some b/\((b=want/\xop tt ct hints o (G4 A all s0 TR i lit) (nx+32*i) (·=e))\/(b≠want/\e=Kx)))
theorem Ey{A:List (List Nat)} : ∀{l:List Oper}{k i:Nat}{o:Oper},Hb A l k=true->l[i]?=some o ->
  (∀j ∈ MX o,j<k+i/\anc A (k+i) j=true/\∀q,anc A j q=true->anc A (k+i) q=true)/\(∀q,anc A (k+i) q=true->q<k+i/\∃j ∈ MX o,j=q\/anc A j q=true)
 | [],_,_,_,_,h=>by simp at h|o0::r,k,0,o,hc,h=>by simp at h;subst h;simp only[Hb,Bool.and_eq_true]at hc;obtain⟨⟨h1,h2⟩,-⟩:=hc;refine⟨λj hj=>?_,λq hq=>?_⟩;have:=List.all_eq_true.1 h1 j hj;simp only[Bool.and_eq_true,Nat.ble_eq]at this;exact⟨by omega,this.1.2,λq hq=>List.all_eq_true.1 this.2 q (mem_iff.1 hq)⟩;have:=List.all_eq_true.1 h2 q (mem_iff.1 hq);simp only[Bool.and_eq_true,Nat.ble_eq]at this;obtain⟨j,hj,e⟩:=List.any_eq_true.1 this.2;simp only[Bool.or_eq_true,Nat.beq_eq]at e;exact⟨by omega,j,hj,e⟩|o0::r,k,i+1,o,hc,h=>by simp only[Hb,Bool.and_eq_true]at hc;have:=Ey (i:=i) hc.2 (by simpa using h);rwa [show k+1+i=k+(i+1) by omega]at this
theorem K6{tt:TT}{ct:CTs}{hints:List Nat}{n:Nat}{all:List Oper}{A:List (List Nat)}{s0:St}{nx:Nat}(a1:∀f c,(f,c) ∈ ct->c.alt=none)(hA:Hb A all 0=true):∀(r:List Oper)(i:Nat)(tr:Tr)(lit:List Nat)(q:Tr->List Nat->Prop),
 JF tt ct hints n all A s0 nx r i tr lit q->tr.length=i->(∀k,r[k]?=all[i+k]?)->∃suf lit',q (tr++suf) lit'/\suf.length=r.length/\∀k,k<r.length->XL tt ct hints n all A s0 nx (tr++suf) (i+k)
 | [],i,tr,lit,q,h,_,_=>⟨[],lit,by simpa[JF]using h,rfl,by simp⟩|o::r,i,tr,lit,q,h,hl,a2=>by
  have ho:all[i]?=some o:=by simpa using(a2 0).symm
  have a3 : ∀k,r[k]?=all[i+1+k]?:=λk=>by have:=a2 (k+1);simpa[show i+(k+1)=i+1+k by omega]using this
  have a7:∀q,i<=q->anc A i q=false:=λq hq=>by
   cases ha:anc A i q with|false=>rfl|true=>have:=((Ey hA ho).2 q (by simpa using ha)).1;omega
  have a4:∀(e:Eff)(suf:Tr)(lit:List Nat),G4 A all s0 (tr++[(o,e)]++suf) i lit=G4 A all s0 tr i lit:=λe suf lit=>by unfold G4;rw[List.append_assoc,JH tr _ 0 _ (λq hq=>a7 q (by omega))]
  have go:∀(e:Eff)(lit1:List Nat),JF tt ct hints n all A s0 nx r (i+1) (tr++[(o,e)]) lit1 q->(∀suf,XL tt ct hints n all A s0 nx (tr++[(o,e)]++suf) i) ->
   ∃suf lit',q (tr++suf) lit'/\suf.length=(o::r).length/\∀k,k<(o::r).length->XL tt ct hints n all A s0 nx (tr++suf) (i+k):=by
   intro e lit1 hx a8;obtain⟨suf,lit',q1,q2,q3⟩:=K6 a1 hA r (i+1) _ _ q hx (by simp[hl]) a3;refine⟨(o,e)::suf,lit',by simpa using q1,by simp[q2],λk hk=>?_⟩;cases k with|zero=>simpa using a8 suf|succ k=>simpa[show i+(k+1)=i+1+k by omega]using q3 k (by simpa using hk)
  have a0:∀(e:Eff)(suf:Tr),(tr++[(o,e)]++suf)[i]?=some (o,e):=λe suf=>by rw[List.append_assoc,List.getElem?_append_right (by omega)];simp[hl]
  simp only[JF]at h;split at h;exact h.elim;rename_i hd;split at h;rename_i hg;obtain⟨e,he1,he2⟩:=UG a1 h;refine go e _ he1 λsuf=>⟨o,e,lit,a0 e suf,ho,hd,?_⟩;rw[hg];simp only;rw[a4];exact he2;rename_i j want hg;split at h;rename_i t b ha ht hv;obtain⟨g1,g2⟩:=Ex h;by_cases a5:b=want;have hx:=g1 (by subst a5;cases b <;> rfl);rw[Kz hv a5]at hx;obtain⟨e,he1,he2⟩:=UG a1 hx;refine go e _ he1 λsuf=>⟨o,e,t::lit,a0 e suf,ho,hd,?_⟩;rw[hg];simp only;refine⟨ha,t,ht,.inr ⟨b,?_,.inl ⟨a5,by rw[a4];exact he2⟩⟩⟩;rw[List.append_assoc];exact Qt hv;have a6 : b=!want:=by cases b <;> cases want <;> simp at a5 ⊢
  have hx:=g2 (by subst a6;cases want <;> rfl);rw[Kz hv a6]at hx;refine go Kx _ hx λsuf=>⟨o,Kx,lit,a0 _ suf,ho,hd,?_⟩;rw[hg];simp only;refine⟨ha,t,ht,.inr ⟨b,?_,.inr ⟨a5,trivial⟩⟩⟩;rw[List.append_assoc];exact Qt hv;rename_i t ha ht hv;split at h;rename_i hu;refine go Kx _ h λsuf=>⟨o,Kx,lit,a0 _ suf,ho,hd,?_⟩;rw[hg];simp only;refine⟨ha,t,ht,.inl ⟨?_,trivial⟩⟩;rw[List.append_assoc];exact XK hu;exact h.elim;exact h.elim
theorem It{α:Type}{p:Nat->Bool} : ∀{l:List (Nat×α)}{t:Nat}{v:α},lkp (l.filter λx=>p x.1) t=some v->p t=true/\lkp l t=some v
 | [],t,v,h=>by simp[lkp]at h|(i,x)::r,t,v,h=>by rw[List.filter_cons]at h;split at h;rename_i hp;rw[AY]at h ⊢;split at h;rename_i e;subst e;rw[if_pos rfl];exact⟨hp,h⟩;rename_i e;rw[if_neg e];exact It h;rename_i hp;obtain⟨h1,h2⟩:=It h;refine⟨h1,?_⟩;rw[AY,if_neg];exact h2;intro e;subst e;exact hp h1
theorem MY{A:List (List Nat)}{i:Nat} : ∀{l:List Oper}{k q:Nat}{o:Oper}{t:Nat},l[q]?=some o->o.dst=some t->k+q≠i->anc A i (k+q)=false->anc A (k+q) i=false->t ∈ Ir A i l k
 | [],_,_,_,_,h,_,_,_,_=>by simp at h|o0::r,k,0,o,t,h,ht,h1,h2,h3=>by simp at h;subst h;simp only[Ir];simp only[Nat.add_zero]at h1 h2 h3;rw[h2,h3,PB h1];exact List.mem_append.2 (.inl (by simp[ht]))|o0::r,k,q+1,o,t,h,ht,h1,h2,h3=>by simp only[Ir];refine List.mem_append.2 (.inr (MY (q:=q) (by simpa using h) ht ?_ ?_ ?_)) <;> rw[show k+1+q=k+(q+1) by omega] <;> assumption
theorem MZ{D:Nat->Bool} : ∀{tr:Tr}{k q:Nat}{X:St}{o:Oper}{e:Eff}{t:Nat},(Fk (tr.map (·.1))).Nodup->tr[q]?=some (o,e)->o.dst=some t->D (k+q)=true->lkp (fold D tr k X).tm t=some e.val
 | [],_,_,_,_,_,_,_,h,_,_=>by simp at h|(o0,e0)::r,k,0,X,o,e,t,hn,h,ht,hD=>by
  simp at h;obtain⟨rfl,rfl⟩:=h;simp only[fold];rw[show D k=true by simpa using hD];simp only[List.map_cons,Fk,ht,Option.toList_some,List.singleton_append,List.nodup_cons]at hn
  have key:∀(r:Tr)(k:Nat)(Y:St),t ∉ Fk (r.map (·.1))->lkp (fold D r k Y).tm t=lkp Y.tm t:=by
   intro r;induction r with
   |nil=>intro k Y _;rfl|cons y r ih=>
    intro k Y hn;obtain⟨o',e'⟩:=y;simp only[List.map_cons,Fk,List.mem_append,not_or]at hn;simp only[fold];rw[ih (k+1) _ hn.2];cases D k with|false=>rfl|true=>simp only;rw[Hc,if_neg (λe=>hn.1 (by simp[e]))]
  rw[key r (k+1) _ hn.1,Hc,if_pos ht]
 |(o0,e0)::r,k,q+1,X,o,e,t,hn,h,ht,hD=>by simp only[fold];simp only[List.map_cons,Fk]at hn;exact MZ (q:=q) (List.nodup_append.1 hn).2.1 (by simpa using h) ht (by rwa [show k+1+q=k+(q+1) by omega])
theorem Hd{A:List (List Nat)}{s0:St}{TR:Tr} : ∀{l:Tr}{k i:Nat}{x:Oper×Eff},GQ A s0 TR l k=true->l[i]?=some x->J9 A (JE A s0 (k+i) (TR.map (·.1)) 0) (k+i) TR 0 (GP (JE A s0 (k+i) (TR.map (·.1)) 0) s0)=true/\IB A (k+i) x TR 0=true
 | [],_,_,_,_,h=>by simp at h|x0::r,k,0,x,hc,h=>by simp at h;subst h;simp only[GQ,Bool.and_eq_true]at hc;exact hc.1|x0::r,k,i+1,x,hc,h=>by simp only[GQ,Bool.and_eq_true]at hc;have:=Hd (i:=i) hc.2 (by simpa using h);rwa [show k+1+i=k+(i+1) by omega]at this
theorem K7{A:List (List Nat)}{i:Nat}{x:Oper×Eff} : ∀{l:Tr}{k q:Nat}{y:Oper×Eff},IB A i x l k=true->l[q]?=some y->i<k+q->anc A i (k+q)=false->anc A (k+q) i=false->Is x y=true
 | [],_,_,_,_,h,_,_,_=>by simp at h|y0::r,k,0,y,hc,h,h1,h2,h3=>by simp at h;subst h;simp only[IB,Bool.and_eq_true,Bool.or_eq_true,Nat.ble_eq]at hc;simp only[Nat.add_zero]at h1 h2 h3;rw[h3]at hc;rcases hc.1 with (h|h)|h;omega;cases h;exact h
 |y0::r,k,q+1,y,hc,h,h1,h2,h3=>by simp only[IB,Bool.and_eq_true]at hc;refine K7 (q:=q) hc.2 (by simpa using h) ?_ ?_ ?_ <;> rw[show k+1+q=k+(q+1) by omega] <;> assumption
section
variable {P : Program} {tt : TT} {ct : CTs} {Γ : Env} {n : Nat} {w0 : World} {s : St} {m : Maps} {a : Act} {w : World} {nx : Nat}
theorem R.drew{al:Nat->Prop}(h:R Γ n w0 al s m a w):R Γ n w0 al s m a {w with drawn:=w.drawn+1} where
 size:=h.size
 defers:=h.defers
 old:=h.old
 below:=h.below.drew
 tm:=h.tm
 en:=λi E hE=>by obtain⟨h1,h2,h3⟩:=h.en i E hE;exact⟨h1.keep (S:=al) (us:=[]) h2 h3 (λ_ _=>⟨rfl,rfl⟩) (by simp) (by simp) (KA E) (Nat.le_refl _) (λ_ _ _=>rfl) (λ_ _ _=>rfl),h2,h3⟩
 pos:=h.pos
 st:=h.st
 gh:=h.gh
def alD(nx N:Nat)(D:Nat->Bool)(i:Nat):Prop:=alN nx i\/∃j,j<N/\D j=true/\nx+32*j<=i/\i<nx+32*j+32
def BM(listed:Array Bool)(k:Nat):Bool:=listed.getD k false
theorem Vi(hT:TTok P tt)(aK:CTok P ct Γ.mono){hints:List Nat}{ops:Array Oper}{A:List (List Nat)}{TR:Tr}(hA:Hb A ops.toList 0=true)(hN:(Fk ops.toList).Nodup)(hTR:TR.map (·.1)=ops.toList)(h0:0<nx)
  (aL:∀i,i<ops.size->XL tt ct hints n ops.toList A s nx TR i) (aG:GQ A s TR TR 0=true) {D D' : Nat->Bool} {i:Nat} (hi:i<ops.size) (hDi:D i=false) (hD' : ∀k,D' k=(D k || Nat.beq k i))
  (aM:∀k,D k=true->∀q,anc A k q=true->D q=true) (a5:∀q,anc A i q=true->D q=true) (hDN:∀k,D k=true->k<ops.size) (h:R Γ n w0 (alD nx ops.size D) (fold D TR 0 s) m a w) {Q:Exit->Act->World->Prop} :
  wpOp P ops Q i (λa' w'=>∃m',R Γ n w0 (alD nx ops.size D') (fold D' TR 0 s) m' a' w') a w:=by
 obtain⟨o,e,lit,hTi,aH,hd,a0⟩:=aL i hi;have aB : ops[i]?=some o:=by simpa using aH
 have hlen:TR.length=ops.size:=by have:=congrArg List.length hTR;simpa using this
 obtain⟨aC,aN⟩:=Hd aG hTi;simp only[Nat.zero_add]at aC aN
 have a1:∀k,D k=true->anc A k i=false:=λk hk=>by
  cases ha:anc A k i with|false=>rfl|true=>have:=aM k hk i ha;rw[hDi]at this;cases this
 have a2:∀{q:Nat}{o' : Oper}{e' : Eff},TR[q]?=some (o',e')->ops.toList[q]?=some o':=λ{q o' e'} hq=>by rw[← hTR,List.getElem?_map,hq];rfl
 rw[hTR]at aC;have a6:Vis (Ir A i ops.toList 0) (Ii (JE A s i ops.toList 0) (anc A i) TR 0 (GP (JE A s i ops.toList 0) s)) (fold D TR 0 s):=by refine JG (D:=D) a5 hDi a1 TR 0 (GP (JE A s i ops.toList 0) s) s (λq o' e' hq hDq aI t ht=>?_) aC (Vis.hide _ _ _);simp only[Nat.zero_add]at hDq aI;refine MY (a2 hq) ht ?_ ?_ ?_ <;> simp only[Nat.zero_add];intro e;subst e;rw[hDi]at hDq;cases hDq;exact aI;exact a1 q hDq
 have a3:∀lit,R Γ n w0 (alD nx ops.size D) (G4 A ops.toList s TR i lit) m a w:=λlit=>by refine h.less ?_ ?_;intro t v hv;simp only[G4,XH]at hv;obtain⟨p1,p2⟩:=It (p:=λt=>!(mem (Ir A i ops.toList 0) t)) hv;rw[← a6.1 t (Fw.1 (by simpa using p1))];exact p2;intro j E hE;rcases a6.2 j E hE with⟨h1,E',h2⟩|h1;exact .inl ⟨h1,(h.en _ _ h2).2.1⟩;exact .inr h1
 have a4:∀(e:Eff)(m' : Maps)(a' : Act)(w' : World),TR[i]?=some (o,e)->Stp Γ (alD nx ops.size D) (λj=>nx+32*i<=j/\j<nx+32*i+32) o.dst m a w e m' a' w'->∃m',R Γ n w0 (alD nx ops.size D') (fold D' TR 0 s) m' a' w':=by
  intro e m' a' w' hTi' hs;have hr:=Stp.r h hs (by omega) (MV hd)
  have aJ:=N9 (D:=D) (D':=D') (i:=i) (x:=(o,e)) hDi hD' TR 0 s (Nat.zero_le _) (by simpa using hTi') (λq y hq aO hDq=>by
   simp only[Nat.zero_add]at aO hDq;have a7:=(Hd aG hTi').2;simp only[Nat.zero_add]at a7
   exact K7 a7 hq (by omega) (by
    cases ha:anc A i (0+q)with|false=>rfl|true=>have:=((Ey hA aH).2 (0+q) (by simpa using ha)).1;omega) (by simpa using a1 q hDq))
  refine⟨m',(hr.more (al':=alD nx ops.size D') ?_ ?_).less (λt v hv=>by rw[← aJ.1];exact hv) (λj E hE=>.inr (by rw[← aJ.2];exact hE))⟩;intro j hj;rcases hj with (hj|⟨k,h1,h2,h3⟩)|hj;exact .inl hj;exact .inr ⟨k,h1,by rw[hD',h2];rfl,h3⟩;exact .inr ⟨i,hi,by rw[hD'];simp,hj⟩;rintro (hj|⟨k,_,_,h3,_⟩);exact absurd hj.1 (by omega);omega
 have aP:∀j,alD nx ops.size D j->¬(nx+32*i<=j/\j<nx+32*i+32):=by
  rintro j (hj|⟨k,h1,h2,h3,h4⟩) hx;have:=hj.2;omega;have:k=i:=by omega
  subst this;rw[hDi]at h2;cases h2
 have a8:∀lit,xop tt ct hints o (G4 A ops.toList s TR i lit) (nx+32*i) (·=e)->o.wp P a w (λa' w'=>∃m',R Γ n w0 (alD nx ops.size D') (fold D' TR 0 s) m' a' w') Q:=λlit hx=>by have hs:=W9 (o:=o) (fr:=λj=>nx+32*i<=j/\j<nx+32*i+32) hT aK (a3 lit) hints aP (λj h1 h2=>⟨h1,h2⟩) _ hx Q;refine Oper.wp_mono ?_ hs;rintro a' w' ⟨e',m',rfl,aD⟩;exact a4 _ m' a' w' hTi aD
 unfold wpOp;simp only[aB];cases hg:o.guard with
 |none=>rw[hg]at a0;rw[if_pos (by simp[Region.wanted,hg])];exact .inl (a8 lit a0)|some jw=>
  obtain⟨j,want⟩:=jw;rw[hg]at a0;obtain⟨ha,t,ht,a0⟩:=a0;have hDj:=a5 j ha;rcases a0 with⟨hu,rfl⟩|⟨b,hv,a9⟩
  have aA:∃x,a.tmps.getD t undef=.tuple x:=by
   unfold Vh at hu;split at hu;rename_i oj x u hj;have aE:oj.dst=some t:=by unfold C7 at ht;rw[a2 hj]at ht;simpa using ht
   have:=MZ (D:=D) (k:=0) (X:=s) (by rw[hTR];exact hN) hj aE (by simpa using hDj);exact⟨x,(h.tm _ _ this).1⟩;cases hu
  obtain⟨x,aA⟩:=aA;rw[Iq rfl hg ht aA];simp only[Bool.false_eq_true,if_false];exact a4 _ m _ _ hTi (Stp.skip h)
  have aA:a.tmps.getD t undef=.bool b:=by
   unfold Qr at hv;split at hv;rename_i oj b' u hj;simp only[Option.some.injEq]at hv;subst hv;have aE:oj.dst=some t:=by unfold C7 at ht;rw[a2 hj]at ht;simpa using ht
   have:=MZ (D:=D) (k:=0) (X:=s) (by rw[hTR];exact hN) hj aE (by simpa using hDj);exact(h.tm _ _ this).1;cases hv
  rw[J7 rfl hg ht aA];rcases a9 with⟨aF,hx⟩|⟨aF,rfl⟩;subst aF;simp only[beq_self_eq_true,if_true];exact .inl (a8 lit hx);have aQ:(b == want)=false:=by simpa using aF
  rw[aQ];simp only[Bool.false_eq_true,if_false];exact a4 _ m _ _ hTi (Stp.skip h)
end
def cnt(l:List Bool):Nat:=(l.filter (!·)).length
theorem UH:∀{l:List Bool}{i:Nat},l[i]?=some false->cnt (l.set i true)+1=cnt l
 | [],_,h=>by simp at h|x::r,0,h=>by simp at h;subst h;simp[cnt]|x::r,i+1,h=>by have:=UH (l:=r) (i:=i) (by simpa using h);cases x <;> simp[cnt]at this ⊢ <;> omega
theorem UI:∀{l:List Bool}{i:Nat},l[i]?=some false->0<cnt l
 | [],_,h=>by simp at h|x::r,0,h=>by simp at h;subst h;simp[cnt]|x::r,i+1,h=>by have:=UI (l:=r) (i:=i) (by simpa using h);cases x <;> simp[cnt]at this ⊢ <;> omega
section
variable {P : Program} {tt : TT} {ct : CTs} {Γ : Env} {n : Nat} {w0 : World} {s : St} {m : Maps} {a : Act} {w : World} {nx : Nat}
theorem OA{ops:Array Oper}{listed:Array Bool}(hs:listed.size=ops.size){i:Nat}(h:i ∈ Region.ready .any ops listed) :
  i<ops.size/\BM listed i=false/\∀o,ops[i]?=some o->∀j ∈ MX o,BM listed j=true:=by
 simp only[Region.ready,List.mem_filter,List.mem_range,Bool.and_eq_true,Bool.not_eq_true']at h;obtain⟨h1,h2,h3⟩:=h;refine⟨h1,?_,λo ho j hj=>?_⟩;unfold BM;rw[Array.getD_eq_getD_getElem?]at h2 ⊢;rw[Array.getElem?_eq_getElem (by omega)]at h2 ⊢;simpa using h2;rw[ho]at h3;simp only[Option.map_some,Option.getD_some]at h3;obtain⟨e,he,rfl⟩:=List.mem_map.1 hj;obtain⟨he1,he2⟩:=List.mem_filter.1 he;have:=Array.all_eq_true_iff_forall_mem.1 h3 e (by simpa using he1);simp only[Bool.or_eq_true,Bool.not_eq_true']at this;rcases this with h|h;rw[he2]at h;cases h;exact h
theorem XM{ops:Array Oper}{listed:Array Bool}(hs:listed.size=ops.size){i:Nat}{o:Oper}(hi:ops[i]?=some o)(hd:BM listed i=false)(h:∀j ∈ MX o,BM listed j=true):i ∈ Region.ready .any ops listed:=by
 have a0:i<ops.size:=(Array.getElem?_eq_some_iff.1 hi).1;simp only[Region.ready,List.mem_filter,List.mem_range,Bool.and_eq_true,Bool.not_eq_true'];refine⟨a0,?_,?_⟩;unfold BM at hd;rw[Array.getD_eq_getD_getElem?]at hd ⊢;rw[Array.getElem?_eq_getElem (by omega)]at hd ⊢;simpa using hd;rw[hi];simp only[Option.map_some,Option.getD_some];refine Array.all_eq_true_iff_forall_mem.2 λe he=>?_;simp only[Bool.or_eq_true,Bool.not_eq_true'];cases hb:Region.binds .any e with|false=>exact .inl rfl|true=>exact .inr (h _ (List.mem_map.2 ⟨e,List.mem_filter.2 ⟨by simpa using he,hb⟩,rfl⟩))
theorem XN(hT:TTok P tt)(a7:CTok P ct Γ.mono){hints:List Nat}{ops:Array Oper}{A:List (List Nat)}{TR:Tr}(hA:Hb A ops.toList 0=true)(hN:(Fk ops.toList).Nodup)(hTR:TR.map (·.1)=ops.toList)(h0:0<nx)
  (a8:∀i,i<ops.size->XL tt ct hints n ops.toList A s nx TR i) (a9:GQ A s TR TR 0=true) {Q:Exit->Act->World->Prop} (hQ:∀m a w,R Γ n w0 (alN (nx+32*ops.size)) (fold (λ_=>true) TR 0 s) m a w->Q .normal a w) :
  ∀(fuel:Nat)(listed:Array Bool){m:Maps}{a:Act}{w:World},listed.size=ops.size->cnt listed.toList<=fuel->(∀k,BM listed k=true->∀q,anc A k q=true->BM listed q=true) ->
   R Γ n w0 (alD nx ops.size (BM listed)) (fold (BM listed) TR 0 s) m a w->wpAny P .any ops Q fuel listed a w:=by
 have hlen:TR.length=ops.size:=by have:=congrArg List.length hTR;simpa using this
 have a0:∀(listed:Array Bool)(m:Maps)(a:Act)(w:World),listed.size=ops.size->Region.ready .any ops listed=[]->R Γ n w0 (alD nx ops.size (BM listed)) (fold (BM listed) TR 0 s) m a w->Q .normal a w:=by
  intro listed m a w hs hr h
  have a5:∀i,i<ops.size->BM listed i=true:=by
   intro i;induction i using Nat.strongRecOn with
   |_ i ih=>
    intro hi;cases hd:BM listed i with
    |true=>rfl|false=>
     have ho:ops[i]?=some ops[i]:=Array.getElem?_eq_getElem hi;have:=XM hs ho hd λj hj=>by have hj':=((Ey (i:=i) (o:=ops[i]) hA (by rw[Array.getElem?_toList];exact ho)).1 j hj).1;exact ih j (by omega) (by omega)
     rw[hr]at this;cases this
  have hf:∀(tr:Tr)(k:Nat)(X:St),k+tr.length<=ops.size->fold (BM listed) tr k X=fold (λ_=>true) tr k X:=by
   intro tr;induction tr with|nil=>intro k X _;rfl|cons y r ih=>intro k X hk;obtain⟨o,e⟩:=y;simp only[List.length_cons]at hk;simp only[fold,a5 k (by omega)];exact ih (k+1) _ (by omega)
  rw[hf TR 0 s (by omega)]at h;refine hQ m a w (h.more ?_ ?_);rintro j (hj|⟨k,h1,_,h3,h4⟩);unfold alN at *;omega;unfold alN;omega;unfold alN;omega
 intro fuel;induction fuel with
 |zero=>
  intro listed m a w hs hc a4 h
  have hr:Region.ready .any ops listed=[]:=by
   cases hr:Region.ready .any ops listed with
   |nil=>rfl|cons i r=>
    obtain⟨h1,h2,-⟩:=OA hs (i:=i) (by rw[hr];simp);have:listed.toList[i]?=some false:=by unfold BM at h2;rw[Array.getD_eq_getD_getElem?,Array.getElem?_eq_getElem (by omega)]at h2;rw[Array.getElem?_toList,Array.getElem?_eq_getElem (by omega)];simpa using h2
    have:=UI this;omega
  exact⟨hr,a0 listed m a w hs hr h⟩
 |succ fuel ih=>
  intro listed m a w hs hc a4 h;refine⟨λhr=>a0 listed m a w hs hr h,λi hi=>?_⟩;obtain⟨h1,h2,h3⟩:=OA hs hi;have ho:ops[i]?=some ops[i]:=Array.getElem?_eq_getElem h1;have a1:∀q,anc A i q=true->BM listed q=true:=λq hq=>by obtain⟨-,j,hj,e⟩:=(Ey (i:=i) (o:=ops[i]) hA (by rw[Array.getElem?_toList];exact ho)).2 q (by simpa using hq);have a6:=h3 _ ho j hj;rcases e with rfl|e;exact a6;exact a4 j a6 q e
  have a2:∀k,BM (listed.setIfInBounds i true) k=(BM listed k || Nat.beq k i):=λk=>by unfold BM;rw[Array.getD_eq_getD_getElem?,Array.getD_eq_getD_getElem?];by_cases hk:k=i;subst hk;rw[Array.getElem?_setIfInBounds_self_of_lt (by omega)];simp;rw[Array.getElem?_setIfInBounds_ne (λe=>hk e.symm),PB hk,Bool.or_false]
  have hDN:∀k,BM listed k=true->k<ops.size:=λk hk=>by rcases Nat.lt_or_ge k ops.size with h|h;exact h;unfold BM at hk;rw[Array.getD_eq_getD_getElem?,Array.getElem?_eq_none (by omega)]at hk;cases hk
  have a3:=Vi (D:=BM listed) (D':=BM (listed.setIfInBounds i true)) (Q:=Q) hT a7 hA hN hTR h0 a8 a9 h1 h2 a2 a4 a1 hDN h;refine wpOp_mono ?_ a3;rintro a' w' ⟨m',h'⟩;refine ih _ (by simp[hs]) ?_ ?_ h';have:listed.toList[i]?=some false:=by unfold BM at h2;rw[Array.getD_eq_getD_getElem?,Array.getElem?_eq_getElem (by omega)]at h2;rw[Array.getElem?_toList,Array.getElem?_eq_getElem (by omega)];simpa using h2
  have:=UH this;rw[Array.toList_setIfInBounds];omega;intro k hk q hq;rw[a2,Bool.or_eq_true]at hk ⊢;rcases hk with hk|hk;exact .inl (a4 k hk q hq);obtain rfl:=Nat.eq_of_beq_eq_true hk;exact .inl (a1 q hq)
theorem R.lits{al:Nat->Prop}(h:R Γ n w0 al s m a w)(lit:List Nat):R Γ n w0 al {s with lit:=lit} m a w:=h.eq rfl rfl
theorem JI(hm:P.follows .mixedOrders=true)(hT:TTok P tt)(a2:CTok P ct Γ.mono)(a0:∀f c,(f,c) ∈ ct->c.alt=none){hints:List Nat}{id:Nat}{ops:Array Oper}{q:St->Nat->Prop}(hx:PA tt ct hints n ops.toList s nx q)(h0:0<nx)(h:R Γ n w0 (alN nx) s m a w){Q:Exit->Act->World->Prop}
  (hQ:∀s' nx' m' a' w',0<nx'->q s' nx'->R Γ n w0 (alN nx') s' m' a' w'->Q .normal a' w'):(Code.region id ops true).wp P Q a w:=by
 unfold PA at hx;split at hx;exact hx.elim;rename_i hc;simp only[Bool.and_eq_true]at hc;obtain⟨hA,hN⟩:=hc;obtain⟨TR,lit,hq,hl,a1⟩:=K6 a0 hA _ 0 [] _ _ hx rfl (λk=>by simp);simp only[List.nil_append,Nat.zero_add]at hq a1;split at hq;exact hq.elim;rename_i a3;have hTR:TR.map (·.1)=ops.toList:=by apply List.ext_getElem?;intro i;by_cases hi:i<ops.toList.length;obtain⟨o,e,lit,h1,h2,-⟩:=a1 i hi;rw[List.getElem?_map,h1,h2];rfl;rw[List.getElem?_eq_none (by simp[hl]at hi ⊢;omega),List.getElem?_eq_none (by omega)]
 refine wp_region_any hm (XN hT a2 hA (Ef hN) hTR h0 (λi hi=>a1 i (by simpa using hi)) a3 (λm' a' w' h'=>hQ _ _ m' a' w' (by omega) hq (by rw[Array.length_toList];exact h'.lits lit)) ops.size _ (by simp) ?_ ?_ (m:=m) ?_);have:∀l:List Bool,cnt l<=l.length:=λl=>List.length_filter_le _ _;exact Nat.le_trans (this _) (by simp);intro k hk;exfalso;unfold BM at hk;rw[Array.getD_eq_getD_getElem?]at hk;rw[Array.getElem?_replicate]at hk;split at hk <;> cases hk
 have hf:∀(tr:Tr)(k:Nat)(X:St),fold (BM (Array.replicate ops.size false)) tr k X=X:=by
  intro tr;induction tr with
  |nil=>intro k X;rfl|cons y r ih=>
   intro k X;obtain⟨o,e⟩:=y;have:BM (Array.replicate ops.size false) k=false:=by unfold BM;rw[Array.getD_eq_getD_getElem?];rw[Array.getElem?_replicate];split <;> rfl
   simp only[fold,this];exact ih _ _
 rw[hf];exact h.drew.more (λi hi=>.inl hi) (by rintro (hj|⟨k,_,_,h3,_⟩);exact absurd hj.1 (by omega);omega)
end
end Go.Proofs.YthoidhehmmcgnaaGreat
