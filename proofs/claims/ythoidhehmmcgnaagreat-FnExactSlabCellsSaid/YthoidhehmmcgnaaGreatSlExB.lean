import Derived.Test.YthoidhehmmcgnaaGreatSlExA
import Derived.Test.YthoidhehmmcgnaaGreatSlBas
import Derived.Laws.Cover3
namespace Go.Proofs.YthoidhehmmcgnaaGreat
set_option linter.unusedVariables false
set_option linter.unusedSimpArgs false
open Go.RowKit
inductive DC where
 |im (v:Value)
 |sl (e:Nat) (ts:List Ty) (rows:List (List Dat))
 |ro (d:RO)
inductive DA where
 |one (c:DC)
 |agg (cs:List DC)
def DA.cells:DA->List DC
 | .one c=>[c]| .agg cs=>cs
inductive RC where
 |im (v:Value)
 |own (e:Nat) (ts:List Ty) (rows:List (List Dat))
 |view (e:Nat) (ts:List Ty) (rows:List (List Dat))
 |top (e:Nat) (ts:List Ty) (rows:List (List Dat))
structure RT where
 tup:Bool
 sh:List (Option Nat)
 cells:List RC
def By:List DA->List Value->List Value
 | [],_=>[]| .one _::r,us=>us.headD undef::By r us.tail| .agg cs::r,us=>.agg (us.take cs.length).toArray::By r (us.drop cs.length)
def Ma:List (Option Nat)->List Value->List Value
 | [],_=>[]|none::r,us=>us.headD undef::Ma r us.tail|some n::r,us=>.agg (us.take n).toArray::Ma r (us.drop n)
def RT.val(r:RT)(us:List Value):Value:=if r.tup then .tuple (Ma r.sh us).toArray else(Ma r.sh us).headD undef
def asA:List (Option Nat)->List C->List A
 | [],_=>[]|none::r,cs=>.one (cs.headD (.im undef))::asA r cs.tail|some n::r,cs=>.agg (cs.take n)::asA r (cs.drop n)
def RT.t(r:RT)(cs:List C):T:=if r.tup then .tup (asA r.sh cs)else .one ((asA r.sh cs).headD (.one (.im undef)))
theorem Ls(m:Maps):∀(sh:List (Option Nat))(cs:List C),(asA sh cs).map (A.den m)=Ma sh (cs.map (C.den m))
 | [],cs=>rfl|none::r,cs=>by simp only[asA,Ma,List.map_cons,Ls m r];cases cs <;> simp[A.den,C.den]|some n::r,cs=>by simp only[asA,Ma,List.map_cons,Ls m r,A.den,List.map_take,List.map_drop]
theorem RT.t_den(m:Maps)(r:RT)(cs:List C):(r.t cs).den m=r.val (cs.map (C.den m)):=by unfold RT.t RT.val;split;simp[T.den,Ls];simp only[T.den];rw[← Ls];cases asA r.sh cs <;> simp[A.den,C.den]
theorem UV{sh:List (Option Nat)} : ∀{cs:List C}{x:A},x ∈ asA sh cs->∀i ∈ x.ids,∃c ∈ cs,i ∈ c.ids:=by
 induction sh with
 |nil=>intro cs x hx;simp[asA]at hx|cons q r ih=>
  intro cs x hx i hi;cases q with
  |none=>
   simp only[asA,List.mem_cons]at hx;rcases hx with rfl|hx;cases cs with|nil=>simp[A.ids,C.ids]at hi|cons c cs=>exact⟨c,by simp,by simpa[A.ids]using hi⟩
   obtain⟨c,hc,h⟩:=ih hx i hi;exact⟨c,List.mem_of_mem_tail hc,h⟩
  |some n=>simp only[asA,List.mem_cons]at hx;rcases hx with rfl|hx;simp only[A.ids,List.mem_flatMap]at hi;obtain⟨c,hc,h⟩:=hi;exact⟨c,List.mem_of_mem_take hc,h⟩;obtain⟨c,hc,h⟩:=ih hx i hi;exact⟨c,List.mem_of_mem_drop hc,h⟩
theorem RT.t_ids{r:RT}{cs:List C}{i:Nat}(h:i ∈ (r.t cs).ids):∃c ∈ cs,i ∈ c.ids:=by
 unfold RT.t at h;split at h;simp only[T.ids,List.mem_flatMap]at h;obtain⟨x,hx,h⟩:=h;exact UV hx i h;simp only[T.ids]at h;cases hq:asA r.sh cs with|nil=>rw[hq]at h;simp[A.ids,C.ids]at h|cons x y=>rw[hq]at h;exact UV (sh:=r.sh) (x:=x) (by rw[hq];simp) i (by simpa using h)
inductive PC where
 |im (v:Value)
 |bt (bs:List UInt8)
structure Con where
 ι:Type
 pre:ι->Prop
 args:ι->List DA
 mu:List Nat:=[]
 gone:List Nat:=[]
 new:ι->List (List (List Dat)):=λ_=>[]
 res:ι->RT
 /-- which function argument is meant: its number and one; 0: any -/
 tag:Nat:=0
 /-- the draws that are counted grow only -/
 mono:Bool:=false
 /-- what comes back need not be i's: it is that of some j that goes with i -/
 alt:Option (ι->ι->Prop):=none
 /-- ahead of the arguments stands a pointer to a variable: its cells before, and behind -/
 ptr:Option ((ι->List PC)×(ι->List PC)):=none
 /-- what comes back is a pointer to a new variable: its cells; the bytes are those of the first argument -/
 newp:Option (ι->List PC):=none
 /-- a nil slice that is handed over is meant as that very value -/
 nilA:Bool:=false
def DH(F:Nat->Prop)(w:World):DC->Value->Prop
 | .im v,u=>u=v| .sl e ts rows,u=>RdS F w (.sl e ts) (.sl rows) u| .ro d,u=>ROAt F w d u
structure ArgsAt(F:Nat->Prop)(w:World)(mu:List Nat)(mb:Nat->List Nat)(dcs:List DC)(us:List Value):Prop where
 len:us.length=dcs.length
 lt:∀b,F b->b<w.heap.size
 rd:∀p d u,dcs[p]?=some d->us[p]?=some u->p ∉ mu->DH F w d u
 own:∀j p,mu[j]?=some p->∃e ts rows u,dcs[p]?=some (.sl e ts rows)/\us[p]?=some u/\Fp w (.sl e ts) (.sl rows) u (mb j)/\(mb j).Nodup
 dis:∀i j b,i≠j->i<mu.length->j<mu.length->b ∈ mb i->b ∉ mb j
 out:∀j b,j<mu.length->b ∈ mb j->¬F b
 st:Stood w
 sb:∀j b,j<mu.length->b ∈ mb j->b ∉ stB
def Bi(F:Nat->Prop)(w w' : World)(all:List Nat):List RC->List Value->List Nat->Prop
 | [],[],bs=>bs=[]| .im v::r,u::us,bs=>u=v/\Bi F w w' all r us bs| .own e ts rows::r,u::us,bs=>∃b1 b2,bs=b1++b2/\Fp w' (.sl e ts) (.sl rows) u b1/\Bi F w w' all r us b2| .top e ts rows::r,u::us,bs=>∃b1 b2,bs=b1++b2/\(∃rv:List (List Value),w'.ownsRow 0 e ts.length u rv.length rv.flatten/\rv.length=rows.length/\(∀r ∈ rv,r.length=ts.length) /\
  (∀k,k<rows.length->RdRowS (λb=>F b\/(w.heap.size<=b/\b ∉ all)) w' ts (rows.getD k []) (rv.getD k []))/\∀b,u.ownBlock=some b->b ∈ b1)/\Bi F w w' all r us b2
 | .view e ts rows::r,u::us,bs=>RdS (λb=>F b\/(w.heap.size<=b/\b ∉ all)) w' (.sl e ts) (.sl rows) u/\Bi F w w' all r us bs|_,_,_=>False
structure Con.PostA(c:Con)(i j0:c.ι)(F:Nat->Prop)(w:World)(us:List Value)(mb:Nat->List Nat)(rs:List Value)(bs:List Nat)(w' : World):Prop where
 res:Bi F w w' bs (c.res j0).cells rs bs
 nd:bs.Nodup
 fresh:∀b ∈ bs,w.heap.size<=b\/∃j,j ∈ c.gone/\j<c.mu.length/\b ∈ mb j
 /-- what was turned holds its new rows; its blocks may stand in another order (a sort), unless a value comes back alone -/
 turned:∀j p e ts rows u,j ∉ c.gone->c.mu[j]?=some p->((c.args i).flatMap DA.cells)[p]?=some (.sl e ts rows)->us[p]?=some u->∃bt,Fp w' (.sl e ts) (.sl ((c.new j0).getD j [])) u bt/\bt.Nodup/\(∀b ∈ bt,b ∈ mb j)/\((∃v,c.res j0=⟨false,[none],[.im v]⟩)->bt=mb j)
 os:w'.os=w.os
 tape:w'.tape=w.tape
 output:w'.output=w.output
 size:w.heap.size<=w'.heap.size
 keep:∀b,b<w.heap.size->(∀j,j<c.mu.length->b ∉ mb j)->w'.heap[b]?=w.heap[b]?
abbrev Con.Post(c:Con)(i:c.ι)(F:Nat->Prop)(w:World)(us:List Value)(mb:Nat->List Nat)(rs:List Value)(bs:List Nat)(w' : World):Prop:=c.PostA i i F w us mb rs bs w'
structure Con.Ok(P:Program)(f:Nat)(c:Con):Prop where
 enter:∃fn,P.funcs[f]?=some fn/\fn.name ≠ "runtime.NumGoroutine" /\ fn.body.isNone=false
 small:∀i,(c.res i).cells.length<=32
 calls:∀i,c.pre i->∀F w us mb,ArgsAt F w c.mu mb ((c.args i).flatMap DA.cells) us->Calls P f (By (c.args i) us).toArray w λe w'=>∃rs bs,e=.returned ((c.res i).val rs)/\c.Post i F w us mb rs bs w'
 quiet:c.mono=true->∀i,c.pre i->∀F w us mb,ArgsAt F w c.mu mb ((c.args i).flatMap DA.cells) us->Calls P f (By (c.args i) us).toArray w λe w'=>∃rs bs,e=.returned ((c.res i).val rs)/\c.Post i F w us mb rs bs w'/\w.drawn<=w'.drawn:=by intro h;cases h
theorem Con.Ok.run{P:Program}{f:Nat}{c:Con}(a0:c.Ok P f){M:Bool}(hM:M=true->c.mono=true):∀i,c.pre i->∀F w us mb,ArgsAt F w c.mu mb ((c.args i).flatMap DA.cells) us->Calls P f (By (c.args i) us).toArray w λe w'=>∃rs bs,e=.returned ((c.res i).val rs)/\c.Post i F w us mb rs bs w'/\(M=true->w.drawn<=w'.drawn):=by
 intro i hp F w us mb h;cases M with|false=>exact(a0.calls i hp F w us mb h).mono λe w' ⟨rs,bs,he,hq⟩=>⟨rs,bs,he,hq,λh=>by cases h⟩|true=>exact(a0.quiet (hM rfl) i hp F w us mb h).mono λe w' ⟨rs,bs,he,hq,hd⟩=>⟨rs,bs,he,hq,λ_=>hd⟩
structure Con.OkE(P:Program)(f:Nat)(c:Con)(a:c.ι->c.ι->Prop):Prop where
 enter:∃fn,P.funcs[f]?=some fn/\fn.name ≠ "runtime.NumGoroutine" /\ fn.body.isNone=false
 small:∀i,(c.res i).cells.length<=32
 mu:c.mu=[]
 calls:∀i,c.pre i->∀F w us mb,ArgsAt F w c.mu mb ((c.args i).flatMap DA.cells) us->Calls P f (By (c.args i) us).toArray w λe w'=>∃j,a i j/\∃rs bs,e=.returned ((c.res j).val rs)/\c.PostA i j F w us mb rs bs w'/\(c.mono=true->w.drawn<=w'.drawn)
def Con.OkA(P:Program)(f:Nat)(c:Con):Prop:=(c.alt=none/\c.Ok P f)\/∃a,c.alt=some a/\c.OkE P f a
def Con.to(c:Con)(i j:c.ι):Prop:=match c.alt with|none=>j=i|some a=>a i j
theorem Con.OkA.ok{P:Program}{f:Nat}{c:Con}(h:c.OkA P f)(hm:c.mu≠[]):c.Ok P f:=by rcases h with h|⟨a,_,h⟩;exact h.2;exact absurd h.mu hm
theorem Con.OkA.enter{P:Program}{f:Nat}{c:Con}(h:c.OkA P f):∃fn,P.funcs[f]?=some fn/\fn.name ≠ "runtime.NumGoroutine" /\ fn.body.isNone=false:=by rcases h with h|⟨a,_,h⟩;exact h.2.enter;exact h.enter
theorem Con.OkA.small{P:Program}{f:Nat}{c:Con}(h:c.OkA P f):∀i,(c.res i).cells.length<=32:=by rcases h with h|⟨a,_,h⟩;exact h.2.small;exact h.small
theorem Con.OkA.run{P:Program}{f:Nat}{c:Con}(a0:c.OkA P f){M:Bool}(hM:M=true->c.mono=true):∀i,c.pre i->∀F w us mb,ArgsAt F w c.mu mb ((c.args i).flatMap DA.cells) us->Calls P f (By (c.args i) us).toArray w λe w'=>∃j,c.to i j/\∃rs bs,e=.returned ((c.res j).val rs)/\c.PostA i j F w us mb rs bs w'/\(M=true->w.drawn<=w'.drawn):=by intro i hp F w us mb h;rcases a0 with⟨ha,a0⟩|⟨a,ha,a0⟩;exact(a0.run hM i hp F w us mb h).mono λe w' hq=>⟨i,by unfold Con.to;rw[ha],hq⟩;exact(a0.calls i hp F w us mb h).mono λe w' ⟨j,hj,rs,bs,he,hq,hd⟩=>⟨j,by unfold Con.to;rw[ha];exact hj,rs,bs,he,hq,λh=>hd (hM h)⟩
def ACh(F:Nat->Prop)(w:World):PC->Value->Prop
 | .im v,u=>u=v| .bt bs,u=>UP F w bs u
def XD:List PC->List Value->List Value
 | .im v::r,_::us=>v::XD r us| .bt _::r,u::us=>u::XD r us|_,us=>us
structure PtrIn(F:Nat->Prop)(w:World)(cs:List PC)(B:Nat)(vs:List Value):Prop where
 out:¬F B
 sb:B ∉ stB
 at_:∃t,w.heap[B]?=some (.cells vs.toArray t (0,0))
 len:vs.length=cs.length
 rd:∀(q:Nat)(d:PC)(u:Value),cs[q]?=some d->vs[q]?=some u->ACh F w d u
structure Con.PostP(c:Con)(i:c.ι)(pn:c.ι->List PC)(F:Nat->Prop)(w:World)(B:Nat)(vs rs:List Value)(bs:List Nat)(w' : World):Prop where
 res:Bi F w w' bs (c.res i).cells rs bs
 nd:bs.Nodup
 fresh:∀b ∈ bs,w.heap.size<=b
 turned:∃t,w'.heap[B]?=some (.cells (XD (pn i) vs).toArray t (0,0))
 os:w'.os=w.os
 tape:w'.tape=w.tape
 output:w'.output=w.output
 size:w.heap.size<=w'.heap.size
 keep:∀b,b<w.heap.size->b≠B->w'.heap[b]?=w.heap[b]?
structure Con.OkP(P:Program)(f:Nat)(c:Con)(cs pn:c.ι->List PC):Prop where
 enter:∃fn,P.funcs[f]?=some fn/\fn.name ≠ "runtime.NumGoroutine" /\ fn.body.isNone=false
 small:∀i,(c.res i).cells.length<=32
 calls:∀i,c.pre i->∀F w us B vs,ArgsAt F w [] (λ_=>[]) ((c.args i).flatMap DA.cells) us->PtrIn F w (cs i) B vs->Calls P f (.pointer (some ⟨B,0,none⟩)::By (c.args i) us).toArray w λe w'=>∃rs bs,e=.returned ((c.res i).val rs)/\c.PostP i pn F w B vs rs bs w'/\(c.mono=true->w.drawn<=w'.drawn)
def AA6(v:Value):List PC->List Value
 | []=>[]| .im x::r=>x::AA6 v r| .bt _::r=>v::AA6 v r
structure Con.PostN(c:Con)(i:c.ι)(pc:c.ι->List PC)(w:World)(us:List Value)(B:Nat)(w' : World):Prop where
 fresh:w.heap.size<=B
 at_:∃t,w'.heap[B]?=some (.cells (AA6 (us.headD undef) (pc i)).toArray t (0,0))
 os:w'.os=w.os
 tape:w'.tape=w.tape
 output:w'.output=w.output
 size:w.heap.size<=w'.heap.size
 keep:∀b,b<w.heap.size->w'.heap[b]?=w.heap[b]?
structure Con.OkN(P:Program)(f:Nat)(c:Con)(pc:c.ι->List PC):Prop where
 enter:∃fn,P.funcs[f]?=some fn/\fn.name ≠ "runtime.NumGoroutine" /\ fn.body.isNone=false
 calls:∀i,c.pre i->∀F w us,ArgsAt F w [] (λ_=>[]) ((c.args i).flatMap DA.cells) us->Calls P f (By (c.args i) us).toArray w λe w'=>∃B,e=.returned (.pointer (some ⟨B,0,none⟩))/\c.PostN i pc w us B w'/\(c.mono=true->w.drawn<=w'.drawn)
def Con.OkB(P:Program)(f:Nat)(c:Con):Prop:=(c.ptr=none/\c.newp=none/\c.OkA P f)\/(∃cs pn,c.ptr=some (cs,pn)/\c.OkP P f cs pn)\/∃pc,c.ptr=none/\c.newp=some pc/\c.OkN P f pc
theorem Con.OkB.a{P:Program}{f:Nat}{c:Con}(h:c.OkB P f)(h0:c.ptr=none)(h1:c.newp=none):c.OkA P f:=by rcases h with h|⟨cs,pn,h,-⟩|⟨pc,-,h,-⟩;exact h.2.2;rw[h0]at h;cases h;rw[h1]at h;cases h
theorem Con.OkB.p{P:Program}{f:Nat}{c:Con}{cs pn:c.ι->List PC}(h:c.OkB P f)(h0:c.ptr=some (cs,pn)):c.OkP P f cs pn:=by rcases h with⟨h,-⟩|⟨cs',pn',h,hp⟩|⟨pc,h,-,-⟩;rw[h0]at h;cases h;rw[h0]at h;cases h;exact hp;rw[h0]at h;cases h
theorem Con.OkB.n{P:Program}{f:Nat}{c:Con}{pc:c.ι->List PC}(h:c.OkB P f)(h0:c.ptr=none)(h1:c.newp=some pc):c.OkN P f pc:=by rcases h with⟨-,h,-⟩|⟨cs',pn',h,hp⟩|⟨pc',-,h,hp⟩;rw[h1]at h;cases h;rw[h0]at h;cases h;rw[h1]at h;cases h;exact hp
abbrev CTs:=List (Nat×Con)
def CTok(P:Program)(ct:CTs)(M:Bool):Prop:=∀f c,(f,c) ∈ ct->c.OkB P f/\(M=true->c.mono=true)
theorem CTok.nil(P:Program){M:Bool} : CTok P [] M:=λt i h=>by simp at h
theorem CTok.cons{P:Program}{M:Bool}{t:Nat}{i:Con}{ct:CTs}(h:i.Ok P t)(hT:CTok P ct M)(hM:M=true->i.mono=true:=by intro h;first|rfl|exact absurd h (by decide))(hA:i.alt=none:=by rfl)(hP:i.ptr=none:=by rfl)(hN:i.newp=none:=by rfl):CTok P ((t,i)::ct) M:=λu j hj=>by rcases List.mem_cons.1 hj with e|hj;obtain⟨rfl,rfl⟩:=Prod.mk.inj e;exact⟨.inl ⟨hP,hN,.inl ⟨hA,h⟩⟩,hM⟩;exact hT u j hj
def Qp:CTs->Nat->Nat->Option Con
 | [],_,_=>none|(g,c)::r,f,tag=>match Nat.beq g f && (Nat.beq c.tag 0 || Nat.beq c.tag tag)with|true=>some c|false=>Qp r f tag
theorem Lt{P:Program}{M:Bool} : ∀{ct:CTs},CTok P ct M->∀{f tag:Nat}{c:Con},Qp ct f tag=some c->c.OkB P f/\(M=true->c.mono=true)
 | [],_,f,tag,c,h=>by simp[Qp]at h|(g,d)::r,hT,f,tag,c,h=>by simp only[Qp]at h;split at h;rename_i e;simp only[Bool.and_eq_true,Nat.beq_eq]at e;obtain rfl:=Option.some.inj h;rw[← e.1];exact hT g d (by simp);exact Lt (λf c hc=>hT f c (List.mem_cons_of_mem _ hc)) h
theorem Qq:∀{ct:CTs}{f tag:Nat}{c:Con},Qp ct f tag=some c->∃g,(g,c) ∈ ct
 | [],f,tag,c,h=>by simp[Qp]at h|(g,d)::r,f,tag,c,h=>by simp only[Qp]at h;split at h;obtain rfl:=Option.some.inj h;exact⟨g,by simp⟩;obtain⟨g',h'⟩:=Qq h;exact⟨g',List.mem_cons_of_mem _ h'⟩
def AAd(c:Con):Bool:=match c.alt with|none=>true|some _=>false
def LG:CTs->CTs
 | []=>[]|(f,c)::r=>match AAd c with|true=>(f,c)::LG r|false=>LG r
theorem D8:∀{ct:CTs}{f:Nat}{c:Con},(f,c) ∈ LG ct->(f,c) ∈ ct/\c.alt=none
 | [],f,c,h=>by simp[LG]at h|(g,d)::r,f,c,h=>by simp only[LG]at h;split at h;rename_i e;rcases List.mem_cons.1 h with h|h;obtain⟨rfl,rfl⟩:=Prod.mk.inj h;refine⟨by simp,?_⟩;unfold AAd at e;split at e;assumption;cases e;exact⟨List.mem_cons_of_mem _ (D8 h).1,(D8 h).2⟩;exact⟨List.mem_cons_of_mem _ (D8 h).1,(D8 h).2⟩
theorem CTok.det{P:Program}{M:Bool}{ct:CTs}(h:CTok P ct M):CTok P (LG ct) M:=λf c hc=>h f c (D8 hc).1
def AAe:List DA->Nat
 | []=>0| .one (.ro (.fn g _))::_=>g+1|_::r=>AAe r
def ACi(x:Option (List DA×List C)):Nat:=
 match x with|some y=>AAe y.1|none=>0
def Fe(tt:TT):Nat->Nat->List Ty
 | 0,_=>[]|f+1,t=>
  match lkp tt t with|some {d:=.int _,..}=>[.int]|some {d:=.bool,..}=>[.bool]|some {d:=.str,..}=>[.str]|some {d:=.slice e,..}=>[.sl e (Fe tt f e)]|some {d:=.struct fs,..}=>fs.flatMap λx=>Fe tt f x.2.1|_=>[.int]
def Sg(s:St):C->Option LC
 | .im v=>if v.oneCell'=true then some (.im v)else none
 | .ext k=>
  match EZ s k with|some (e,ts,rows,_)=>some (.sl e ts rows)|none=>none
 |_=>none
def Dj(s:St):C->List Nat
 | .ext k=>
  match EZ s k with|some (_,_,_,deps)=>deps|none=>[]
 |_=>[]
def Ho(s:St):List C->Option (List LC)
 | []=>some []|c::cs=>
  match Sg s c,Ho s cs with|some d,some ds=>some (d::ds)|_,_=>none
def Qr(s:St)(i:Nat):Option (List LC):=
 match lkp s.en i with|some (.box cs)=>Ho s cs|_=>none
def ER(s:St)(i:Nat):List Nat:=
 match lkp s.en i with|some (.box cs)=>i::cs.flatMap (Dj s)|_=>[]
def JV(s:St):List Nat->Option (List (List LC))
 | []=>some []|i::is=>
  match Qr s i,JV s is with|some d,some ds=>some (d::ds)|_,_=>none
def Sh(s:St)(k:Nat):Option RO:=
 match lkp s.en k with|some (.ro d _)=>some d|_=>none
def Hp(s:St)(k:Nat):List Nat:=
 match lkp s.en k with|some (.ro _ deps)=>deps|_=>[]
def XF(s:St)(x:Bool×Nat):Option (List LC):=
 if x.1=true then Qr s x.2 else
 match Sh s x.2 with|some (.ptr cs)=>some cs|_=>none
def Ff(s:St)(x:Bool×Nat):List Nat:=if x.1=true then ER s x.2 else Hp s x.2
def Mb(s:St):List (Bool×Nat)->Option (List (List LC))
 | []=>some []|i::is=>
  match XF s i,Mb s is with|some d,some ds=>some (d::ds)|_,_=>none
def Mc(na:Bool)(s:St)(t:Ty)(c:C):Option DC:=
 match na,t,c with
 |false,.sl e ts,.im (.slice none 0 0)=>some (.sl e ts [])|_,_,.im v=>some (.im v)|_,_,.ext k=>
  match EZ s k with|some (e,ts,rows,_)=>some (.sl e ts rows)|none=>(Sh s k).map .ro
 |_,_,.bp i 0=>(Qr s i).map λcs=>.ro (.ptr cs)|_,_,.clo g is=>(JV s is).map λl=>.ro (.fn g l)|_,_,.clx g is=>(Mb s is).map λl=>.ro (.fn g l)|_,_,.cp k j=>
  match Sh s k with|some (.fn _ caps)=>(caps[j]?).map λcs=>.ro (.ptr cs)|_=>none
 |_,_,_=>none
def LH(na:Bool)(s:St):List Ty->List C->Option (List DC)
 | [],[]=>some []|t::ts,c::cs=>
  match Mc na s t c,LH na s ts cs with|some d,some ds=>some (d::ds)|_,_=>none
 |_,_=>none
def AB1(na:Bool)(tt:TT)(s:St)(t:Nat)(a:T):Option (DA×List C):=
 match a with
 | .one (.one c)=>
  match Fe tt 9 t with| [ty]=>(Mc na s ty c).map λd=>(.one d,[c])|_=>none
 | .one (.agg cs)=>(LH na s (Fe tt 9 t) cs).map λds=>(.agg ds,cs)| .tup _=>none
def JW(na:Bool)(tt:TT)(s:St):List Nat->List T->Option (List DA×List C)
 | [],[]=>some ([],[])|t::ts,a::as=>
  match AB1 na tt s t a,JW na tt s ts as with|some (d,c),some (ds,cs)=>some (d::ds,c++cs)|_,_=>none
 |_,_=>none
def Ce(s:St)(c:C):List Nat:=
 match c with
 | .ext k=>
  match EZ s k with|some (_,_,_,deps)=>deps|none=>Hp s k
 | .bp i _=>ER s i| .clo _ is=>is.flatMap (ER s)| .clx _ is=>is.flatMap (Ff s)| .cp k _=>Hp s k|_=>[]
def Cy(s:St)(mu:List Nat):List C->Nat->List Nat
 | [],_=>[]|c::cs,p=>(if(mu.any (Nat.beq p))=true then[]else Ce s c)++Cy s mu cs (p+1)
def AB2(s:St)(cells:List C)(p:Nat):Option Nat:=
 match cells[p]? with
 |some (.ext k)=>
  match lkp s.en k with|some (.own _ _ _)=>some k|_=>none
 |_=>none
def Qs(s:St)(cells:List C):List Nat->Option (List Nat)
 | []=>some []|p::ps=>
  match AB2 s cells p,Qs s cells ps with|some k,some ks=>some (k::ks)|_,_=>none
def CL:List RC->Nat->List C
 | [],_=>[]| .im v::r,nx=>.im v::CL r (nx+1)| .own _ _ _::r,nx=>.ext nx::CL r (nx+1)| .view _ _ _::r,nx=>.ext nx::CL r (nx+1)| .top _ _ _::r,nx=>.ext nx::CL r (nx+1)
def Md(deps:List Nat):List RC->Nat->List (Nat×En)
 | [],_=>[]| .im _::r,nx=>Md deps r (nx+1)| .own e ts rows::r,nx=>(nx,.own e ts rows)::Md deps r (nx+1)| .view e ts rows::r,nx=>(nx,.view e ts rows deps)::Md deps r (nx+1)| .top e ts rows::r,nx=>(nx,.top e ts rows deps)::Md deps r (nx+1)
def ZZ(l:List Nat)(j:Nat):Bool:=l.any (Nat.beq j)
theorem Si{l:List Nat}{j:Nat}(h:ZZ l j=false):j ∉ l:=λhm=>by have:=List.any_eq_false.1 h j hm;simp at this
def Sj(s:St)(gone:List Nat)(new:List (List (List Dat))):List Nat->Nat->List (Nat×En)
 | [],_=>[]|k::ks,j=>(k,match ZZ gone j with|true=>.dead|false=>match lkp s.en k with|some (.own e ts _)=>.own e ts (new.getD j [])|_=>.dead)::Sj s gone new ks (j+1)
def Fg(s:St)(nx:Nat)(deps ks gone:List Nat)(r:RT)(new:List (List (List Dat))):Eff:=
 ⟨r.t (CL r.cells nx),Md deps r.cells nx++Sj s gone new ks 0⟩
def XG(s:St)(cells:List C)(p:Nat):Option (Nat×List Prop×(List (List Dat)->List (List Dat))×(List (List Dat)->En)):=
 match cells[p]? with
 |some (.ext x)=>
  match lkp s.en x with
  |some (.mu e ts _ j)=>some (x,[],λnew=>new,λR=>.mu e ts R j)|some (.part e ts rows k sz r c)=>
   match lkp s.en k with
   |some (.mu e0 ts0 rows0 j0)=>
    match ts0[c]? with|some (.sl e' ts')=>if(Nat.beq sz ts0.length && Nat.beq e e' && Ty.beqs ts ts')=true then some (k,[r<rows0.length,rows=((rows0.getD r []).getD c (.int 0)).r],λnew=>Df rows0 r c (.sl new),λR=>.mu e0 ts0 R j0)else none|_=>none
   |_=>none
  |_=>none
 |_=>none
def obs:List Prop->Prop->Prop
 | [],q=>q|p::r,q=>p/\obs r q
def KL(tt:TT)(s:St)(c:Con)(ds:List DA)(cells:List C)(q:Eff->Prop):Prop:=
 match c.mu with
 | [p]=>
  match XG s cells p with
  |some (k,ps,rw,mk)=>
   if(!((Cy s c.mu cells 0).any (Nat.beq k)))=true then
    ∃i:c.ι,ds=c.args i/\c.pre i/\obs ps (match c.gone,c.res i with| [],⟨false,[none],[.im v]⟩=>∀R:List (List Dat),R=rw ((c.new i).getD 0 [])->q ⟨.one (.one (.im v)),[(k,mk R)]⟩|_,_=>False)
   else False
  |none=>False
 |_=>False
def KM(tt:TT)(s:St)(nx:Nat)(c:Con)(cs pn:c.ι->List PC)(tys:List Nat)(as:List T)(q:Eff->Prop):Prop:=False
def KN(tt:TT)(s:St)(nx:Nat)(c:Con)(pc:c.ι->List PC)(tys:List Nat)(as:List T)(q:Eff->Prop):Prop:=False
def OF(tt:TT)(ct:CTs)(s:St)(nx f:Nat)(tys:List Nat)(as:List T)(q:Eff->Prop):Prop:=
 match Qp ct f (ACi (JW false tt s tys as))with
 |none=>False|some c=>
  match c.ptr with
  |some (cs,pn)=>KM tt s nx c cs pn tys as q|none=>
   match c.newp with
   |some pc=>KN tt s nx c pc tys as q|none=>
   match JW c.nilA tt s tys as with
   |none=>False|some (ds,cells)=>
    match Qs s cells c.mu with
    |none=>KL tt s c ds cells q|some ks=>if(GY ks && !(ks.any λk=>(Cy s c.mu cells 0).any (Nat.beq k)))=true then ∃i:c.ι,ds=c.args i/\c.pre i/\(match c.alt with|none=>q (Fg s nx (Cy s c.mu cells 0) ks c.gone (c.res i) (c.new i))|some a=>∀j:c.ι,a i j->q (Fg s nx (Cy s c.mu cells 0) ks c.gone (c.res j) (c.new j)))else False
section
variable {P : Program} {tt : TT} {ct : CTs} {Γ : Env} {n : Nat} {w0 : World} {al fr : Nat → Prop} {s : St} {m : Maps} {a : Act} {w : World} {nx : Nat} {o : Oper}
theorem Vl(h:R Γ n w0 al s m a w){c:C}{d:LC}(hx:Sg s c=some d):LCAt (λb=>Γ.may m (Dj s c) b/\b<w.heap.size) w d (c.den m)/\∀i ∈ Dj s c,al i:=by unfold Sg at hx;split at hx;split at hx;rename_i v hv;simp only[Option.some.injEq]at hx;subst hx;exact⟨⟨rfl,hv⟩,by simp[Dj]⟩;cases hx;split at hx;rename_i k e ts rows deps hk;simp only[Option.some.injEq]at hx;subst hx;obtain⟨⟨F,f1,f2⟩,-,f3⟩:=h.sl hk;simp only[LCAt,C.den,Dj,hk];have:=RdS.step (Nat.le_refl _) (λ_ _ _=>rfl) _ _ _ f1;exact⟨RdS.mono (λb hb=>⟨f2 b hb.1,hb.2⟩) _ _ _ this,f3⟩;cases hx;cases hx
theorem D9{Γ:Env}{m:Maps}{d1 d2:List Nat}(h:∀i ∈ d1,i ∈ d2){b:Nat}(hb:Γ.may m d1 b):Γ.may m d2 b:=by rcases hb with hb|hb|hb;exact .inl hb;exact .inr (.inl hb);exact .inr (.inr ⟨hb.1,h _ hb.2⟩)
theorem LJ(h:R Γ n w0 al s m a w):∀{cs:List C}{ds:List LC},Ho s cs=some ds->(cs.map (C.den m)).length=ds.length/\(∀(p:Nat)(d:LC)(v:Value),ds[p]?=some d->(cs.map (C.den m))[p]?=some v->LCAt (λb=>Γ.may m (cs.flatMap (Dj s)) b/\b<w.heap.size) w d v)/\∀i ∈ cs.flatMap (Dj s),al i
 | [],ds,hx=>by simp only[Ho,Option.some.injEq]at hx;subst hx;simp|c::cs,ds,hx=>by
  simp only[Ho]at hx;split at hx;rename_i d ds' h1 h2;simp only[Option.some.injEq]at hx;subst hx;obtain⟨y1,y2⟩:=Vl h h1;obtain⟨z1,z2,z3⟩:=LJ h h2;refine⟨by simpa using z1,λp d' v hd hv=>?_,λi hi=>?_⟩;cases p with|zero=>simp at hd hv;subst hd;subst hv;exact y1.mono λb hb=>⟨D9 (λi hi=>by simp[hi]) hb.1,hb.2⟩|succ p=>exact(z2 p d' v (by simpa using hd) (by simpa using hv)).mono λb hb=>⟨D9 (λi hi=>by rw[List.flatMap_cons];exact List.mem_append.2 (.inr hi)) hb.1,hb.2⟩
  rw[List.flatMap_cons]at hi;rcases List.mem_append.1 hi with hi|hi;exact y2 i hi;exact z3 i hi;cases hx
theorem Me(h:R Γ n w0 al s m a w){i:Nat}{cs:List LC}(hx:Qr s i=some cs):PtrAt (λb=>Γ.may m (ER s i) b/\b<w.heap.size) w cs (.pointer (some ⟨m.β i,0,none⟩))/\∀j ∈ ER s i,al j:=by unfold Qr at hx;split at hx;rename_i ds hl;obtain⟨⟨b1,b2,e,b3⟩,b4,b5⟩:=h.en _ _ hl;obtain⟨z1,z2,z3⟩:=LJ h hx;simp only[ER,hl];refine⟨⟨m.β i,e,ds.map (C.den m),rfl,⟨.inr (.inr ⟨b1,by rw[b2];simp⟩),(Array.getElem?_eq_some_iff.1 b3).1⟩,b3,z1,λp d v hd hv=>?_⟩,λj hj=>?_⟩;exact(z2 p d v hd hv).mono λb hb=>⟨D9 (λi hi=>List.mem_cons_of_mem _ hi) hb.1,hb.2⟩;rcases List.mem_cons.1 hj with rfl|hj;exact b4;exact z3 j hj;cases hx
theorem Mf(h:R Γ n w0 al s m a w):∀{is:List Nat}{l:List (List LC)},JV s is=some l->is.length=l.length/\(∀(p:Nat)(cs:List LC)(v:Value),l[p]?=some cs->(is.map λi=>Value.pointer (some ⟨m.β i,0,none⟩))[p]?=some v->PtrAt (λb=>Γ.may m (is.flatMap (ER s)) b/\b<w.heap.size) w cs v)/\∀j ∈ is.flatMap (ER s),al j
 | [],l,hx=>by simp only[JV,Option.some.injEq]at hx;subst hx;simp|i::is,l,hx=>by
  simp only[JV]at hx;split at hx;rename_i d ds' h1 h2;simp only[Option.some.injEq]at hx;subst hx;obtain⟨y1,y2⟩:=Me h h1;obtain⟨z1,z2,z3⟩:=Mf h h2;refine⟨by simpa using z1,λp d' v hd hv=>?_,λi hi=>?_⟩;cases p with|zero=>simp at hd hv;subst hd;subst hv;exact y1.mono λb hb=>⟨D9 (λi hi=>by simp[hi]) hb.1,hb.2⟩|succ p=>exact(z2 p d' v (by simpa using hd) (by simpa using hv)).mono λb hb=>⟨D9 (λi hi=>by rw[List.flatMap_cons];exact List.mem_append.2 (.inr hi)) hb.1,hb.2⟩
  rw[List.flatMap_cons]at hi;rcases List.mem_append.1 hi with hi|hi;exact y2 i hi;exact z3 i hi;cases hx
theorem IL(h:R Γ n w0 al s m a w){k:Nat}{d:RO}(hx:Sh s k=some d):ROAt (λb=>Γ.may m (Hp s k) b/\b<w.heap.size) w d (m.ε k)/\al k/\∀j ∈ Hp s k,al j:=by unfold Sh at hx;split at hx;rename_i d' deps hl;simp only[Option.some.injEq]at hx;subst hx;obtain⟨⟨F,f1,f2⟩,f3,f4⟩:=h.en _ _ hl;simp only[Hp,hl];exact⟨(f1.step (Nat.le_refl _) λ_ _ _=>rfl).mono λb hb=>⟨f2 b hb.1,hb.2⟩,f3,f4⟩;cases hx
theorem KO(h:R Γ n w0 al s m a w){k:Nat} : ∀j ∈ Hp s k,al j:=by intro j hj;unfold Hp at hj;split at hj;rename_i hl;exact(h.en _ _ hl).2.2 j hj;simp at hj
theorem Qt(h:R Γ n w0 al s m a w){c:C} : ∀j ∈ Dj s c,al j:=by intro j hj;unfold Dj at hj;split at hj;split at hj;rename_i hk;exact(h.sl hk).2.2 j hj;simp at hj;simp at hj
theorem I8(h:R Γ n w0 al s m a w){i:Nat} : ∀j ∈ ER s i,al j:=by intro j hj;unfold ER at hj;split at hj;rename_i hl;rcases List.mem_cons.1 hj with rfl|hj;exact(h.en _ _ hl).2.1;obtain⟨c,_,hj⟩:=List.mem_flatMap.1 hj;exact Qt h j hj;simp at hj
theorem Sk(h:R Γ n w0 al s m a w){x:Bool×Nat} : ∀j ∈ Ff s x,al j:=by intro j hj;unfold Ff at hj;split at hj;exact I8 h j hj;exact KO h j hj
theorem XH(h:R Γ n w0 al s m a w){x:Bool×Nat}{cs:List LC}(hx:XF s x=some cs):PtrAt (λb=>Γ.may m (Ff s x) b/\b<w.heap.size) w cs (Np m x)/\∀j ∈ Ff s x,al j:=by unfold XF at hx;unfold Ff Np;split at hx;rename_i h1;rw[if_pos h1,if_pos h1];exact Me h hx;rename_i h1;rw[if_neg h1,if_neg h1];split at hx;rename_i cs' hk;obtain rfl:=Option.some.inj hx;exact⟨(IL h hk).1,(IL h hk).2.2⟩;cases hx
theorem OG(h:R Γ n w0 al s m a w):∀{is:List (Bool×Nat)}{l:List (List LC)},Mb s is=some l->is.length=l.length/\(∀(p:Nat)(cs:List LC)(v:Value),l[p]?=some cs->(is.map (Np m))[p]?=some v->PtrAt (λb=>Γ.may m (is.flatMap (Ff s)) b/\b<w.heap.size) w cs v)/\∀j ∈ is.flatMap (Ff s),al j
 | [],l,hx=>by simp only[Mb,Option.some.injEq]at hx;subst hx;simp|i::is,l,hx=>by
  simp only[Mb]at hx;split at hx;rename_i d ds' h1 h2;simp only[Option.some.injEq]at hx;subst hx;obtain⟨y1,y2⟩:=XH h h1;obtain⟨z1,z2,z3⟩:=OG h h2;refine⟨by simpa using z1,λp d' v hd hv=>?_,λi hi=>?_⟩;cases p with|zero=>simp at hd hv;subst hd;subst hv;exact y1.mono λb hb=>⟨D9 (λi hi=>by simp[hi]) hb.1,hb.2⟩|succ p=>exact(z2 p d' v (by simpa using hd) (by simpa using hv)).mono λb hb=>⟨D9 (λi hi=>by rw[List.flatMap_cons];exact List.mem_append.2 (.inr hi)) hb.1,hb.2⟩
  rw[List.flatMap_cons]at hi;rcases List.mem_append.1 hi with hi|hi;exact y2 i hi;exact z3 i hi;cases hx
theorem Qu(h:R Γ n w0 al s m a w){c:C} : ∀j ∈ Ce s c,al j:=by intro j hj;unfold Ce at hj;split at hj;split at hj;rename_i hk;exact(h.sl hk).2.2 j hj;exact KO h j hj;exact I8 h j hj;obtain⟨i,_,hj⟩:=List.mem_flatMap.1 hj;exact I8 h j hj;obtain⟨i,_,hj⟩:=List.mem_flatMap.1 hj;exact Sk h j hj;exact KO h j hj;simp at hj
theorem UW(h:R Γ n w0 al s m a w){na:Bool}{t:Ty}{c:C}{d:DC}(hx:Mc na s t c=some d):DH (λb=>Γ.may m (Ce s c) b/\b<w.heap.size) w d (c.den m):=by
 unfold Mc at hx;split at hx;simp only[Option.some.injEq]at hx;subst hx;simp only[DH,RdS,C.den];exact⟨[],⟨none,0,rfl,Nat.le_refl _,by unfold maxLen;omega,by simp,.inl ⟨rfl,λ_=>rfl⟩⟩,by simp,rfl,by simp⟩;simp only[Option.some.injEq]at hx;subst hx;rfl;split at hx;rename_i k e ts rows deps hk;simp only[Option.some.injEq]at hx;subst hx;obtain⟨⟨F,f1,f2⟩,-,-⟩:=h.sl hk;simp only[DH,C.den,Ce,hk];have:=RdS.step (Nat.le_refl _) (λ_ _ _=>rfl) _ _ _ f1;exact RdS.mono (λb hb=>⟨f2 b hb.1,hb.2⟩) _ _ _ this;rename_i k hk;obtain⟨d',e1,rfl⟩:=Option.map_eq_some_iff.1 hx;simp only[DH,C.den,Ce,hk];exact(IL h e1).1;obtain⟨cs,e1,rfl⟩:=Option.map_eq_some_iff.1 hx;exact(Me h e1).1;obtain⟨l,e1,rfl⟩:=Option.map_eq_some_iff.1 hx;obtain⟨z1,z2,z3⟩:=Mf h e1;simp only[DH,C.den,Ce,ROAt];exact⟨_,rfl,by simpa using z1,z2⟩;obtain⟨l,e1,rfl⟩:=Option.map_eq_some_iff.1 hx;obtain⟨z1,z2,z3⟩:=OG h e1;simp only[DH,C.den,Ce,ROAt];exact⟨_,rfl,by simpa using z1,z2⟩;split at hx;rename_i k j _ g caps hk;obtain⟨cs,e1,rfl⟩:=Option.map_eq_some_iff.1 hx;obtain⟨⟨ps,q1,q2,q3⟩,-⟩:=IL h hk;simp only[DH,C.den,Ce,ROAt,W0,q1];have a1:j<ps.length:=by rw[q2];exact(List.getElem?_eq_some_iff.1 e1).1
 have a0:=List.getElem?_eq_getElem a1;have e:ps.toArray.getD j undef=ps[j]:=by simp[Array.getD_eq_getD_getElem?,a0]
 rw[e];exact q3 j cs _ e1 a0;cases hx;cases hx
theorem Qv{na:Bool}{t:Ty}{k e:Nat}{ts:List Ty}{rows:List (List Dat)}{d:DC}(hx:Mc na s t (.ext k)=some d)(hl:lkp s.en k=some (.own e ts rows)):d=.sl e ts rows:=by unfold Mc at hx;simp only[EZ,hl,Option.bind_some,En.sl,Option.some.injEq]at hx;exact hx.symm
theorem Qw{na:Bool} : ∀{ts:List Ty}{cs:List C}{ds:List DC},LH na s ts cs=some ds->All2 (λc d=>∃t,Mc na s t c=some d) cs ds
 | [],[],ds,hx=>by simp only[LH,Option.some.injEq]at hx;subst hx;exact .nil| [],_::_,_,hx=>by simp[LH]at hx|_::_,[],_,hx=>by simp[LH]at hx|t::ts,c::cs,ds,hx=>by simp only[LH]at hx;split at hx;rename_i d ds' h1 h2;simp only[Option.some.injEq]at hx;subst hx;exact .cons ⟨t,h1⟩ (Qw h2);cases hx
theorem All2.len{α β:Type}{p:α->β->Prop}{l:List α}{r:List β}(h:All2 p l r):l.length=r.length:=by
 induction h with|nil=>rfl|cons _ _ ih=>simp[ih]
theorem All2.get{α β:Type}{p:α->β->Prop}{l:List α}{r:List β}(h:All2 p l r){j:Nat}{x:α}{y:β}(hx:l[j]?=some x)(hy:r[j]?=some y):p x y:=by
 induction h generalizing j with
 |nil=>simp at hx|cons h1 _ ih=>
  cases j with|zero=>simp at hx hy;subst hx;subst hy;exact h1|succ j=>exact ih (by simpa using hx) (by simpa using hy)
theorem All2.append{α β:Type}{p:α->β->Prop}{l l' : List α}{r r' : List β}(h:All2 p l r)(h' : All2 p l' r'):All2 p (l++l') (r++r'):=by
 induction h with|nil=>exact h'|cons h1 _ ih=>exact .cons h1 ih
theorem Mg{na:Bool} : ∀{tys:List Nat}{as:List T}{ds:List DA}{cells:List C},JW na tt s tys as=some (ds,cells) ->
  All2 (λc d=>∃t,Mc na s t c=some d) cells (ds.flatMap DA.cells)/\as.map (T.den m)=By ds (cells.map (C.den m))
 | [],[],ds,cells,hx=>by simp only[JW,Option.some.injEq,Prod.mk.injEq]at hx;obtain⟨rfl,rfl⟩:=hx;exact⟨.nil,rfl⟩| [],_::_,_,_,hx=>by simp[JW]at hx|_::_,[],_,_,hx=>by simp[JW]at hx|t::ts,x::as,ds,cells,hx=>by
  simp only[JW]at hx;split at hx;rename_i d c ds' cs' h1 h2;simp only[Option.some.injEq,Prod.mk.injEq]at hx;obtain⟨rfl,rfl⟩:=hx;obtain⟨i1,i2⟩:=Mg h2;unfold AB1 at h1;split at h1;rename_i c0;split at h1;rename_i ty _;cases hc:Mc na s ty c0 with|none=>rw[hc]at h1;cases h1|some d0=>rw[hc]at h1;simp only[Option.map_some,Option.some.injEq,Prod.mk.injEq]at h1;obtain⟨rfl,rfl⟩:=h1;exact⟨by simpa[DA.cells]using All2.append (.cons ⟨ty,hc⟩ .nil) i1,by simp[By,i2,T.den,A.den]⟩
  cases h1;rename_i cs0;cases hc:LH na s (Fe tt 9 t) cs0 with|none=>rw[hc]at h1;cases h1|some d0=>rw[hc]at h1;simp only[Option.map_some,Option.some.injEq,Prod.mk.injEq]at h1;obtain⟨rfl,rfl⟩:=h1;have a0:=Qw hc;have hl:=a0.len;refine⟨by simpa[DA.cells]using All2.append a0 i1,?_⟩;simp only[List.map_cons,By,i2,T.den,A.den,List.map_append];rw[← hl];have e1:(cs0.map (C.den m)++cs'.map (C.den m)).take cs0.length=cs0.map (C.den m):=(by rw[List.take_left' (by simp)]);have e2:(cs0.map (C.den m)++cs'.map (C.den m)).drop cs0.length=cs'.map (C.den m):=(by rw[List.drop_left' (by simp)]);rw[e1,e2]
  cases h1;cases hx
theorem Hq{mu:List Nat} : ∀{cells:List C}{p0 p:Nat}{c:C},cells[p]?=some c->(p0+p) ∉ mu->∀i ∈ Ce s c,i ∈ Cy s mu cells p0
 | [],_,_,_,h,_=>by simp at h|c0::cs,p0,p,c,h,hp=>by
  intro i hi;simp only[Cy];cases p with|zero=>simp at h;subst h;refine List.mem_append.2 (.inl ?_);rw[if_neg];exact hi;intro he;obtain⟨q,hq,e⟩:=List.any_eq_true.1 he;simp at e;subst e;exact hp (by simpa using hq)|succ p=>exact List.mem_append.2 (.inr (Hq (p0:=p0+1) (by simpa using h) (by rw[Nat.add_assoc,Nat.add_comm 1];exact hp) i hi))
theorem Mh(h:R Γ n w0 al s m a w){mu:List Nat} : ∀{cells:List C}{p0 i:Nat},i ∈ Cy s mu cells p0->al i
 | [],_,_,hi=>by simp[Cy]at hi|c0::cs,p0,i,hi=>by simp only[Cy]at hi;rcases List.mem_append.1 hi with hi|hi;split at hi;simp at hi;exact Qu h i hi;exact Mh h hi
theorem Qx{cells:List C} : ∀{mu ks:List Nat},Qs s cells mu=some ks->ks.length=mu.length/\∀j p:Nat,mu[j]?=some p->∃(k e:Nat)(ts:List Ty)(rows:List (List Dat)),ks[j]?=some k/\cells[p]?=some (C.ext k)/\lkp s.en k=some (.own e ts rows)
 | [],ks,hx=>by simp only[Qs,Option.some.injEq]at hx;subst hx;exact⟨rfl,by simp⟩|p::ps,ks,hx=>by
  simp only[Qs]at hx;split at hx;rename_i k ks' h1 h2;simp only[Option.some.injEq]at hx;subst hx;obtain⟨i1,i2⟩:=Qx h2;refine⟨by simp[i1],λj q hq=>?_⟩;cases j with|zero=>simp at hq;subst hq;unfold AB2 at h1;split at h1;rename_i k' hk';split at h1;rename_i e ts rows hl;simp only[Option.some.injEq]at h1;subst h1;exact⟨_,e,ts,rows,rfl,hk',hl⟩;cases h1;cases h1|succ j=>simpa using i2 j q (by simpa using hq)
  cases hx
theorem Mi{F:Nat->Prop}{w' : World}{all deps:List Nat} : ∀{rcs:List RC}{us:List Value}{bs:List Nat}{nx:Nat},Bi F w w' all rcs us bs->bs.Nodup->(∀b ∈ bs,Γ.mine b) ->
  us.length=rcs.length/\(∀c ∈ CL rcs nx,∀i ∈ c.ids,nx<=i/\i<nx+rcs.length) /\
  ∃g:Nat->Nat,(∀b ∈ bs,nx<=g b/\g b<nx+rcs.length)/\∀M:Maps,(∀b,F b\/(w.heap.size<=b/\b ∉ all)->Γ.may M deps b)->(∀q,q<rcs.length->M.ε (nx+q)=us.getD q undef)->(∀b ∈ bs,M.π b=g b) ->
   (CL rcs nx).map (C.den M)=us/\∀i E,lkp (Md deps rcs nx) i=some E->(nx<=i/\i<nx+rcs.length)/\EnAt Γ M w' i E/\∀j ∈ E.ids,j ∈ deps
 | [],[],bs,nx,h,_,_=>by simp only[Bi]at h;subst h;exact⟨rfl,by simp[CL],λ_=>0,by simp,λ_ _ _ _=>⟨rfl,λi E hE=>by simp[Md,lkp]at hE⟩⟩| [],_::_,_,_,h,_,_=>by simp[Bi]at h|rc::_,[],_,_,h,_,_=>by cases rc <;> simp[Bi]at h|rc::r,u::us,bs,nx,h,hn,hb=>by
  have a0:∀{M:Maps}{us' : List Value}{N:Nat},(∀q,q<N+1->M.ε (nx+q)=(u::us').getD q undef)->∀q,q<N->M.ε (nx+1+q)=us'.getD q undef:=λhm q hq=>by have:=hm (q+1) (by omega);simpa[Nat.add_assoc,Nat.add_comm 1]using this
  have hm0:∀{M:Maps}{N:Nat},(∀q,q<N+1->M.ε (nx+q)=(u::us).getD q undef)->M.ε nx=u:=λhm=>by simpa using hm 0 (by omega)
  cases rc with
  |im v=>simp only[Bi]at h;obtain⟨rfl,h⟩:=h;obtain⟨a1,a3,g,a4,a5⟩:=Mi (nx:=nx+1) h hn hb;refine⟨by simp[a1],λc hc i hi=>?_,g,λb hb=>by have:=a4 b hb;simp;omega,λM hF hm hg=>?_⟩;simp only[CL,List.mem_cons]at hc;rcases hc with rfl|hc;simp[C.ids]at hi;have:=a3 c hc i hi;simp;omega;obtain⟨x1,x2⟩:=a5 M hF (a0 hm) hg;refine⟨by simp only[CL,List.map_cons,C.den];rw[x1],λi E hE=>?_⟩;obtain⟨e1,e2⟩:=x2 i E hE;exact⟨by simp;omega,e2⟩
  |own e ts rows=>simp only[Bi]at h;obtain⟨b1,b2,rfl,h1,h⟩:=h;obtain⟨n1,n2,n3⟩:=List.nodup_append.1 hn;obtain⟨a1,a3,g,a4,a5⟩:=Mi (nx:=nx+1) h n2 (λb hb'=>hb b (List.mem_append.2 (.inr hb')));refine⟨by simp[a1],λc hc i hi=>?_,λb=>if b ∈ b1 then nx else g b,λb hb=>?_,λM hF hm hg=>?_⟩;simp only[CL,List.mem_cons]at hc;rcases hc with rfl|hc;simp[C.ids]at hi;subst hi;simp;have:=a3 c hc i hi;simp;omega;by_cases hb1:b ∈ b1;simp[hb1];simp only[hb1,if_false];have:=a4 b ((List.mem_append.1 hb).resolve_left hb1);simp;omega;obtain⟨x1,x2⟩:=a5 M hF (a0 hm) (λb hb'=>(hg b (List.mem_append.2 (.inr hb'))).trans (if_neg (λhb1=>n3 b hb1 b hb' rfl)));refine⟨by simp only[CL,List.map_cons,C.den];rw[x1,hm0 hm],λi E hE=>?_⟩;simp only[Md,Ad]at hE;split at hE;rename_i e';subst e';obtain rfl:=Option.some.inj hE;refine⟨by simp,⟨b1,by rw[hm0 hm];exact h1,n1,λb hb'=>⟨hb b (List.mem_append.2 (.inl hb')),?_⟩⟩,by simp[En.ids]⟩;exact(hg b (List.mem_append.2 (.inl hb'))).trans (if_pos hb');obtain⟨e1,e2⟩:=x2 i E hE;exact⟨by simp;omega,e2⟩
  |top e ts rows=>simp only[Bi]at h;obtain⟨b1,b2,rfl,⟨rv,v1,v2,v3,v4,v5⟩,h⟩:=h;obtain⟨n1,n2,n3⟩:=List.nodup_append.1 hn;obtain⟨a1,a3,g,a4,a5⟩:=Mi (nx:=nx+1) h n2 (λb hb'=>hb b (List.mem_append.2 (.inr hb')));refine⟨by simp[a1],λc hc i hi=>?_,λb=>if b ∈ b1 then nx else g b,λb hb=>?_,λM hF hm hg=>?_⟩;simp only[CL,List.mem_cons]at hc;rcases hc with rfl|hc;simp[C.ids]at hi;subst hi;simp;have:=a3 c hc i hi;simp;omega;by_cases hb1:b ∈ b1;simp[hb1];simp only[hb1,if_false];have:=a4 b ((List.mem_append.1 hb).resolve_left hb1);simp;omega;obtain⟨x1,x2⟩:=a5 M hF (a0 hm) (λb hb'=>(hg b (List.mem_append.2 (.inr hb'))).trans (if_neg (λhb1=>n3 b hb1 b hb' rfl)));refine⟨by simp only[CL,List.map_cons,C.den];rw[x1,hm0 hm],λi E hE=>?_⟩;simp only[Md,Ad]at hE;split at hE;rename_i e';subst e';obtain rfl:=Option.some.inj hE;refine⟨by simp,⟨rv,by rw[hm0 hm];exact v1,v2,v3,λk hk=>⟨_,v4 k hk,hF⟩,λb hb'=>?_⟩,by simp[En.ids]⟩;rw[hm0 hm]at hb';exact⟨hb b (List.mem_append.2 (.inl (v5 b hb'))),(hg b (List.mem_append.2 (.inl (v5 b hb')))).trans (if_pos (v5 b hb'))⟩;obtain⟨e1,e2⟩:=x2 i E hE;exact⟨by simp;omega,e2⟩
  |view e ts rows=>simp only[Bi]at h;obtain⟨h1,h⟩:=h;obtain⟨a1,a3,g,a4,a5⟩:=Mi (nx:=nx+1) h hn hb;refine⟨by simp[a1],λc hc i hi=>?_,g,λb hb=>by have:=a4 b hb;simp;omega,λM hF hm hg=>?_⟩;simp only[CL,List.mem_cons]at hc;rcases hc with rfl|hc;simp[C.ids]at hi;subst hi;simp;have:=a3 c hc i hi;simp;omega;obtain⟨x1,x2⟩:=a5 M hF (a0 hm) hg;refine⟨by simp only[CL,List.map_cons,C.den];rw[x1,hm0 hm],λi E hE=>?_⟩;simp only[Md,Ad]at hE;split at hE;rename_i e';subst e';obtain rfl:=Option.some.inj hE;exact⟨by simp,⟨_,by rw[hm0 hm];exact h1,hF⟩,by simp[En.ids]⟩;obtain⟨e1,e2⟩:=x2 i E hE;exact⟨by simp;omega,e2⟩
theorem Qy{gone:List Nat}{new:List (List (List Dat))} : ∀{ks:List Nat}{j0 i:Nat}{E:En},lkp (Sj s gone new ks j0) i=some E->∃j,ks[j]?=some i/\E=(match ZZ gone (j0+j)with|true=>.dead|false=>match lkp s.en i with|some (.own e ts _)=>.own e ts (new.getD (j0+j) [])|_=>.dead)
 | [],j0,i,E,h=>by simp[Sj,lkp]at h|k::ks,j0,i,E,h=>by simp only[Sj,Ad]at h;split at h;rename_i e;subst e;obtain rfl:=Option.some.inj h;exact⟨0,rfl,rfl⟩;obtain⟨j,h1,h2⟩:=Qy h;exact⟨j+1,by simpa using h1,by rw[h2,Nat.add_assoc,Nat.add_comm 1]⟩
theorem OH{α:Type} : ∀{l:List α}{x:α}{i j:Nat},l.Nodup->l[i]?=some x->l[j]?=some x->i=j
 | [],_,_,_,_,h,_=>by simp at h|y::r,x,i,j,hn,h,k=>by
  obtain⟨n1,n2⟩:=List.nodup_cons.1 hn;cases i with
  |zero=>
   cases j with|zero=>rfl|succ j=>simp at h k;subst h;exact absurd (List.mem_of_getElem? k) n1
  |succ i=>
   cases j with|zero=>simp at h k;subst k;exact absurd (List.mem_of_getElem? h) n1|succ j=>exact congrArg (· + 1) (OH n2 (x:=x) (i:=i) (j:=j) (by simpa using h) (by simpa using k))
theorem Qz{gone:List Nat}{new:List (List (List Dat))} : ∀{ks:List Nat}{j0:Nat},(Sj s gone new ks j0).map (·.1)=ks
 | [],_=>rfl|k::ks,j0=>by simp[Sj,Qz (ks:=ks)]
def OI(s:St)(c:C):Option (Nat×List T):=
 match c with
 | .clo g is=>some (g,is.map λi=>.one (.one (.bp i 0)))| .clx g is=>some (g,is.map λx=>.one (.one (if x.1=true then .bp x.2 0 else .ext x.2)))| .ext k=>
  match Sh s k with|some (.fn g caps)=>some (g,(List.range caps.length).map λj=>.one (.one (.cp k j)))|_=>none
 |_=>none
theorem Q0(h:R Γ n w0 al s m a w){c:C}{g:Nat}{ext:List T}(hx:OI s c=some (g,ext)):c.den m=.func (.func g) #[] (ext.map (T.den m)).toArray:=by
 unfold OI at hx;split at hx;simp only[Option.some.injEq,Prod.mk.injEq]at hx;obtain⟨rfl,rfl⟩:=hx;simp only[C.den,List.map_map];rfl;simp only[Option.some.injEq,Prod.mk.injEq]at hx;obtain⟨rfl,rfl⟩:=hx;simp only[C.den,List.map_map];congr 2;refine List.map_congr_left λx _=>?_;unfold Np;simp only[Function.comp,T.den,A.den];split <;> rfl;split at hx;rename_i k _ g' caps hk;simp only[Option.some.injEq,Prod.mk.injEq]at hx;obtain⟨rfl,rfl⟩:=hx;obtain⟨⟨ps,q1,q2,q3⟩,-⟩:=IL h hk;simp only[C.den,List.map_map,q1];have:ps=(List.range caps.length).map (T.den m∘λj=>T.one (A.one (C.cp k j))):=by apply List.ext_getElem?;intro j;by_cases hj:j<ps.length;rw[List.getElem?_map,List.getElem?_range (by omega),List.getElem?_eq_getElem hj];simp[T.den,A.den,C.den,W0,q1,Array.getD_eq_getD_getElem?,hj];rw[List.getElem?_eq_none (by omega),List.getElem?_eq_none (by simp;omega)]
 rw[← this];cases hx;cases hx
theorem Fp.nested{w:World}{e:Nat}{ts:List Ty}{L:List (List Dat)}{g len cap j c:Nat}{t:Ty}{bs:List Nat}(h:Fp w (.sl e ts) (.sl L) (.slice (some ⟨g,0,none⟩) len cap) bs)(hn:bs.Nodup)(hj:j<L.length)(hc:ts[c]?=some t) :
  ∃v b2,w.cell? ⟨g,j*ts.length+c,none⟩=some v/\Fp w t ((L.getD j []).getD c (.int 0)) v b2/\b2.Nodup/\(∀b ∈ b2,b ∈ bs) /\
   ∀w' d',OnlyIn (λb=>b ∈ b2) w w'->Fp w' t d' v b2->Fp w' (.sl e ts) (.sl (L.set j ((L.getD j []).set c d'))) (.slice (some ⟨g,0,none⟩) len cap) bs:=by
 obtain⟨row,bj,h1,h2,h3,h4,h5,h6,h7,h8⟩:=Fp.row h hn hj;have hl:=(RdRow.lens _ _ _ (FpRow.rd _ _ _ _ h3)).1;have a0:=(List.getElem?_eq_some_iff.1 hc).1;have split:∀{α:Type}(l:List α)(d x:α),c<l.length->l.take c++[x]++l.drop (c+1)=l.set c x:=λl d x hx=>by rw[List.set_eq_take_append_cons_drop,if_pos hx];simp
 have e0:L.set j ((L.getD j []).take c++[(L.getD j []).getD c (.int 0)]++(L.getD j []).drop (c+1))=L:=by
  rw[split _ (.int 0) _ (by omega)];have key:∀r:List Dat,c<r.length->r.set c (r.getD c (.int 0))=r:=λr hr=>by simp[List.getD,hr]
  rw[key _ (by omega)];simp[List.getD,hj]
 have et:ts=ts.take c++[t]++ts.drop (c+1):=by rw[split ts .int t a0];have:=(List.getElem?_eq_some_iff.1 hc).2;rw[← this];simp
 have a1:(ts.take c).length=c:=by simp;omega
 obtain⟨v,b2,q1,q2,q3,q4,q5⟩:=Fp.nestedAt (ts.take c) t (ts.drop (c+1)) ((L.getD j []).take c) ((L.getD j []).getD c (.int 0)) ((L.getD j []).drop (c+1)) (by rw[e0];exact h) hn hj et (by rw[List.length_take,List.length_take];omega);rw[a1]at q1;refine⟨v,b2,q1,q2,q3,q4,λw' d' ho hf=>?_⟩;have:=q5 w' d' ho hf;rwa [split _ (.int 0) _ (by omega)]at this
theorem Mj:∀{ps:List Prop}{q:Prop},obs ps q->(∀p ∈ ps,p)/\q
 | [],q,h=>⟨by simp,h⟩|p::r,q,h=>by obtain⟨h1,h2⟩:=h;obtain⟨h3,h4⟩:=Mj h2;refine⟨λx hx=>?_,h4⟩;rcases List.mem_cons.1 hx with rfl|hx;exact h1;exact h3 x hx
theorem UX{na:Bool}{t:Ty}{k e:Nat}{ts:List Ty}{rows:List (List Dat)}{deps:List Nat}{d:DC}(hx:Mc na s t (.ext k)=some d)(hl:EZ s k=some (e,ts,rows,deps)):d=.sl e ts rows:=by unfold Mc at hx;simp only[hl,Option.some.injEq]at hx;exact hx.symm
theorem XI(h:R Γ n w0 al s m a w){cells:List C}{p k:Nat}{ps:List Prop}{rw:List (List Dat)->List (List Dat)}{mk:List (List Dat)->En}(hx:XG s cells p=some (k,ps,rw,mk))(a3:∀q ∈ ps,q) :
  ∃(x e:Nat)(ts:List Ty)(rows:List (List Dat))(bs:List Nat),cells[p]?=some (.ext x)/\EZ s x=some (e,ts,rows,[k])/\Fp w (.sl e ts) (.sl rows) (m.ε x) bs/\bs.Nodup/\(∀b ∈ bs,Γ.mine b/\m.π b=k)/\al k /\
   ∀w' new,OnlyIn (λb=>b ∈ bs) w w'->Fp w' (.sl e ts) (.sl new) (m.ε x) bs->EnAt Γ m w' k (mk (rw new))/\(mk (rw new)).ids=[]:=by
 unfold XG at hx;split at hx;rename_i x hc;split at hx;rename_i e ts rows j hl;simp only[Option.some.injEq,Prod.mk.injEq]at hx;obtain⟨rfl,rfl,rfl,rfl⟩:=hx;obtain⟨⟨h0,h1,h2,h3⟩,a1,-⟩:=h.en _ _ hl;exact⟨x,e,ts,rows,Γ.mb j,hc,by simp[EZ,hl,En.sl],h1,h2,λb hb=>⟨.inr ⟨j,hb⟩,h3 b hb⟩,a1,λw' new _ hf=>⟨⟨h0,hf,h2,h3⟩,rfl⟩⟩;rename_i e ts rows k' sz r c hl;split at hx;rename_i e0 ts0 rows0 j0 hl0;split at hx;rename_i e' ts' a4;split at hx;rename_i a0;simp only[Option.some.injEq,Prod.mk.injEq]at hx;obtain⟨rfl,rfl,rfl,rfl⟩:=hx;simp only[Bool.and_eq_true,Nat.beq_eq]at a0;obtain⟨⟨a5,he⟩,hc2⟩:=a0;have hc2:=Ty.beqs_ok _ _ hc2;subst a5 he hc2;have hr:r<rows0.length:=a3 _ (by simp);have a2:rows=((rows0.getD r []).getD c (.int 0)).r:=a3 _ (by simp);obtain⟨⟨h0,h1,h2,h3⟩,a1,-⟩:=h.en _ _ hl0;obtain⟨⟨-,g,len,cap,g1,g2,g3⟩,-,-⟩:=h.en _ _ hl;rw[g1]at h1;obtain⟨v,b2,q1,q2,q3,q4,q5⟩:=Fp.nested h1 h2 hr a4;rw[q1]at g2;obtain rfl:=Option.some.inj g2
 have hd:(rows0.getD r []).getD c (.int 0)=.sl rows:=by
  cases hd:(rows0.getD r []).getD c (.int 0)with|sl l=>rw[a2,hd];rfl|_=>rw[hd]at q2;simp[Fp]at q2
 rw[hd]at q2;refine⟨x,e,ts,rows,b2,hc,by simp[EZ,hl,En.sl],q2,q3,λb hb=>⟨.inr ⟨j0,q4 b hb⟩,h3 b (q4 b hb)⟩,a1,λw' new ho hf=>⟨⟨h0,?_,h2,h3⟩,rfl⟩⟩;rw[g1];exact q5 w' (.sl new) ho hf;cases hx;cases hx;cases hx;cases hx;cases hx
theorem Vm(hct:CTok P ct Γ.mono)(h:R Γ n w0 al s m a w){f:Nat}{fo:Operand}{as:Array Operand}{tys0:Array Nat}{tys:List Nat}{ts ext:List T}{c:Con}{ds:List DA}{cells:List C}(ho:o.op=.call {callee:=.value fo,args:=as,argTypes:=tys0})(aI:a.eval fo=.func (.func f) #[] (ext.map (T.den m)).toArray)(has:All2 (λx t=>ev s x=some t) as.toList ts)
  (a6:c.OkA P f/\(Γ.mono=true->c.mono=true)) (aH:JW c.nilA tt s tys (ts++ext)=some (ds,cells)):Snd P Γ al fr m a w o (KL tt s c ds cells):=by
 intro q hk Q;unfold KL at hk;split at hk;rename_i p a7;have aD:c.Ok P f/\(Γ.mono=true->c.mono=true):=⟨a6.1.ok (by rw[a7];simp),a6.2⟩;split at hk;rename_i k ps rw mk aE;split at hk;rename_i a2;obtain⟨i,rfl,aF,hk⟩:=hk;obtain⟨aJ,hk⟩:=Mj hk;split at hk;rename_i v a8 hr;obtain⟨d1,d2⟩:=Mg (m:=m) aH
 have aK:as.toList.map a.eval=ts.map (T.den m):=by
  clear aH d2 hk;generalize as.toList=l at has;induction has with|nil=>rfl|cons h1 _ ih=>simp[ih,(h.ev h1).1]
 obtain⟨x,e,ts',rows,bs,c1,c2,c3,c4,c5,c6,c7⟩:=XI h aE aJ;have aL:k ∉ Cy s c.mu cells 0:=λhm=>by rw[Bool.not_eq_true']at a2;have:=List.any_eq_false.1 a2 k hm;simp at this
 let F:Nat->Prop:=λb=>Γ.may m (Cy s c.mu cells 0) b/\b<w.heap.size
 have a9 : ∀{j q:Nat},c.mu[j]?=some q->j=0/\q=p:=λ{j q} hj=>by
  rw[a7]at hj;cases j with|zero=>exact⟨rfl,by simpa using hj.symm⟩|succ j=>simp at hj
 have a3:ArgsAt F w c.mu (λ_=>bs) ((c.args i).flatMap DA.cells) (cells.map (C.den m)):=by
  refine⟨by simp[d1.len],λb hb=>hb.2,λp d u hd hu hp=>?_,λj q hj=>?_,λj1 j2 b hne h1 h2 hb1 hb2=>?_,λj b hj hb hF=>?_,h.stood,λj b hj hb hs=>?_⟩;simp only[List.getElem?_map,Option.map_eq_some_iff]at hu;obtain⟨c0,hc0,rfl⟩:=hu;obtain⟨t,ht⟩:=d1.get hc0 hd;have:=UW h ht;have aA:∀b,Γ.may m (Ce s c0) b/\b<w.heap.size->F b:=λb hb=>⟨Ea (Hq (p0:=0) hc0 (by simpa using hp)) hb.1,hb.2⟩;cases d with|im v=>exact this|sl e ts rows=>exact RdS.mono aA _ _ _ this|ro d=>exact ROAt.mono aA this
  obtain⟨rfl,rfl⟩:=a9 hj;have a4:q<((c.args i).flatMap DA.cells).length:=by rw[← d1.len];exact(List.getElem?_eq_some_iff.1 c1).1
  obtain⟨t,ht⟩:=d1.get c1 (List.getElem?_eq_getElem a4);exact⟨e,ts',rows,m.ε x,by rw[List.getElem?_eq_getElem a4,UX ht c2],by simp[c1,C.den],c3,c4⟩;rw[a7]at h1 h2;simp at h1 h2;omega;obtain⟨e1,e2⟩:=c5 b hb;rcases hF.1 with h1|h1|h1;exact Γ.hG b h1 e1;rw[e2]at h1;exact h.pos (h1.2 ▸ c6);rw[e2]at h1;exact aL h1.2;exact Γ.hst b hs (c5 b hb).1
 have a5:=aD.1.run aD.2 i aF F w _ _ a3;obtain⟨fn,e1,e2,e3⟩:=aD.1.enter
 have aB:(execOp a.eval o).run P w=.ok (.enter f (By (c.args i) (cells.map (C.den m))).toArray) w:=by
  have aG:as.map a.eval++(ext.map (T.den m)).toArray=(By (c.args i) (cells.map (C.den m))).toArray:=by apply Array.ext';rw[Array.toList_append,Array.toList_map,aK,← d2,List.map_append]
  simp only[execOp,ho,resolve,aI,Deferred.ofValue,Sem.run_bind,Sem.run_pure,Result.andThen_ok,invoke,callFunc,program,Sem.run,e1,aG,Array.empty_append];simp[e2,e3]
 unfold Oper.wp;rw[aB];simp only[Oper.upon];refine a5.mono ?_;rintro e w' ⟨rs,bs',rfl,hp,aM⟩;simp only;have a0:=hp.res;rw[hr]at a0 ⊢
 obtain⟨u,rfl⟩:∃u,rs=[u]:=by
  cases rs with
  |nil=>simp[Bi]at a0|cons u us=>
   cases us with|nil=>exact⟨u,rfl⟩|cons _ _=>simp[Bi]at a0
 simp only[Bi]at a0;obtain⟨rfl,rfl⟩:=a0;have a1:∀b,b<w.heap.size->b ∉ bs->w'.heap[b]?=w.heap[b]?:=λb hb h2=>hp.keep b hb λ_ _=>h2;have aN:OnlyIn (λb=>b ∈ bs) w w':=⟨hp.os,hp.tape,hp.output,hp.size,a1⟩;have aC:Fp w' (.sl e ts') (.sl ((c.new i).getD 0 [])) (m.ε x) bs:=by obtain⟨e',t',r',u',q1,q2,-,-⟩:=a3.own 0 p (by rw[a7];rfl);obtain⟨bt,this,-,-,ebt⟩:=hp.turned 0 p e' t' r' u' (by rw[a8];simp) (by rw[a7];rfl) q1 q2;obtain rfl:=ebt ⟨_,hr⟩;have a4:p<((c.args i).flatMap DA.cells).length:=(List.getElem?_eq_some_iff.1 q1).1;obtain⟨t,ht⟩:=d1.get c1 q1;have ha:=UX ht c2;simp only[DC.sl.injEq]at ha;obtain⟨rfl,rfl,rfl⟩:=ha;simp only[List.getElem?_map,c1,Option.map_some,Option.some.injEq,C.den]at q2;rw[q2];exact this
 obtain⟨g1,g2⟩:=c7 w' _ aN aC;refine⟨_,m,hk _ rfl,⟨rfl,λ_ _=>⟨rfl,rfl⟩,⟨aM,hp.os,hp.tape,hp.output,hp.size,λb hb=>a1 b (Nat.lt_of_lt_of_le (Env.old hb) h.old) λhm=>hb (c5 b hm).1⟩,λb hb h2=>a1 b hb λhm=>?_,λ_ _ _=>rfl,λz E hE=>?_,by simp[T.ids,A.ids,C.ids]⟩⟩;obtain⟨q1,q2⟩:=c5 b hm;rcases h2 with h2|h2;exact h2 q1;exact h2 (by rw[q2];simp[Eff.us]);rw[Ad]at hE;split at hE;rename_i ez;subst ez;obtain rfl:=Option.some.inj hE;exact⟨g1,.inl c6,by rw[g2];simp⟩;simp[lkp]at hE;exact hk.elim;exact hk.elim;exact hk.elim;exact hk.elim
theorem Vn(hct:CTok P ct Γ.mono)(h:R Γ n w0 al s m a w){f:Nat}{fo:Operand}{as:Array Operand}{tys0:Array Nat}{tys:List Nat}{ts ext:List T}{c:Con}{cs pn:c.ι->List PC}(ho:o.op=.call {callee:=.value fo,args:=as,argTypes:=tys0})(hfo:a.eval fo=.func (.func f) #[] (ext.map (T.den m)).toArray)(has:All2 (λx t=>ev s x=some t) as.toList ts)
  (hokB:c.OkB P f/\(Γ.mono=true->c.mono=true)) (hptr:c.ptr=some (cs,pn)) (hal:∀i,al i->¬(nx<=i/\i<nx+32)) (hfr:∀i,nx<=i->i<nx+32->fr i):Snd P Γ al fr m a w o (KM tt s nx c cs pn tys (ts++ext)):=by intro q hk Q;unfold KM at hk;exact hk.elim
theorem Vo(hct:CTok P ct Γ.mono)(h:R Γ n w0 al s m a w){f:Nat}{fo:Operand}{as:Array Operand}{tys0:Array Nat}{tys:List Nat}{ts ext:List T}{c:Con}{pc:c.ι->List PC}(ho:o.op=.call {callee:=.value fo,args:=as,argTypes:=tys0})(hfo:a.eval fo=.func (.func f) #[] (ext.map (T.den m)).toArray)(has:All2 (λx t=>ev s x=some t) as.toList ts)
  (hokB:c.OkB P f/\(Γ.mono=true->c.mono=true)) (hptr:c.ptr=none) (hnp:c.newp=some pc) (hal:∀i,al i->¬(nx<=i/\i<nx+32)) (hfr:∀i,nx<=i->i<nx+32->fr i):Snd P Γ al fr m a w o (KN tt s nx c pc tys (ts++ext)):=by intro q hk Q;unfold KN at hk;exact hk.elim
theorem XJ(aB:CTok P ct Γ.mono)(h:R Γ n w0 al s m a w){f:Nat}{fo:Operand}{as:Array Operand}{tys0:Array Nat}{tys:List Nat}{ts ext:List T}(ho:o.op=.call {callee:=.value fo,args:=as,argTypes:=tys0})(aL:a.eval fo=.func (.func f) #[] (ext.map (T.den m)).toArray)(has:All2 (λx t=>ev s x=some t) as.toList ts)
  (aO:∀i,al i->¬(nx<=i/\i<nx+32)) (aM:∀i,nx<=i->i<nx+32->fr i):Snd P Γ al fr m a w o (OF tt ct s nx f tys (ts++ext)):=by
 intro q hk Q;unfold OF at hk;split at hk;case h_1=>exact hk.elim
 rename_i c hc;split at hk;case h_1=>rename_i cs pn a4;exact Vn aB h ho aL has (Lt aB hc) a4 aO aM q hk Q
 rename_i a4;split at hk;case h_1=>rename_i pc aP;exact Vo aB h ho aL has (Lt aB hc) a4 aP aO aM q hk Q
 rename_i aP;have a8:=Lt aB hc;have aC:c.OkA P f/\(Γ.mono=true->c.mono=true):=⟨a8.1.a a4 aP,a8.2⟩;clear a8;split at hk;·exact hk.elim
 ·rename_i ds cells aQ
  split at hk;·exact Vm aB h ho aL has aC aQ q hk Q
  ·rename_i ks aX
   split at hk
   ·rename_i a5
    simp only[Bool.and_eq_true,Bool.not_eq_true']at a5;obtain⟨aR,aD⟩:=a5;have aR:=Ex aR;obtain⟨i,rfl,aS,hk⟩:=hk;obtain⟨d1,d2⟩:=Mg (m:=m) aQ;obtain⟨m1,m2⟩:=Qx aX
    have aY:as.toList.map a.eval=ts.map (T.den m):=by
     clear hc aQ d2 hk;generalize as.toList=l at has;induction has with|nil=>rfl|cons h1 _ ih=>simp[ih,(h.ev h1).1]
    let deps:=Cy s c.mu cells 0
    let F:Nat->Prop:=λb=>Γ.may m deps b/\b<w.heap.size
    have a2:∀k ∈ ks,k ∉ deps:=λk hk hd=>by have:=List.any_eq_false.1 aD k hk;exact this (List.any_eq_true.2 ⟨k,hd,by simp⟩)
    obtain⟨mb,aT⟩:∃mb:Nat->List Nat,∀j k:Nat,ks[j]?=some k->∀(e:Nat)(ts:List Ty)(rows:List (List Dat)),lkp s.en k=some (.own e ts rows)->Fp w (.sl e ts) (.sl rows) (m.ε k) (mb j)/\(mb j).Nodup/\∀b ∈ mb j,Γ.mine b/\m.π b=k:=by
     have:∀j:Nat,∃bs:List Nat,∀k:Nat,ks[j]?=some k->∀(e:Nat)(ts:List Ty)(rows:List (List Dat)),lkp s.en k=some (.own e ts rows)->Fp w (.sl e ts) (.sl rows) (m.ε k) bs/\bs.Nodup/\∀b ∈ bs,Γ.mine b/\m.π b=k:=λj=>by
      cases hj:ks[j]? with
      |none=>exact⟨[],by simp⟩|some k=>
       cases hl:lkp s.en k with
       |none=>exact⟨[],λk' hk' e ts rows hl'=>by simp at hk';subst hk';rw[hl]at hl';cases hl'⟩|some E=>
        cases E with|own e ts rows=>obtain⟨bs,b1,b2,b3⟩:=(h.en _ _ hl).1;exact⟨bs,λk' hk' e' ts' rows' hl'=>by simp at hk';subst hk';rw[hl]at hl';simp only[Option.some.injEq,En.own.injEq]at hl';obtain⟨rfl,rfl,rfl⟩:=hl';exact⟨b1,b2,b3⟩⟩|_=>exact⟨[],λk' hk' e ts rows hl'=>by simp at hk';subst hk';rw[hl]at hl';cases hl'⟩
     exact Classical.skolem.1 this
    have a0:∀j,j<c.mu.length->∃k,ks[j]?=some k/\al k/\∀b ∈ mb j,Γ.mine b/\m.π b=k:=λj hj=>by obtain⟨k,e,ts,rows,k1,k2,k3⟩:=m2 j _ (List.getElem?_eq_getElem hj);exact⟨k,k1,(h.en _ _ k3).2.1,(aT j k k1 _ _ _ k3).2.2⟩
    have a3:ArgsAt F w c.mu mb ((c.args i).flatMap DA.cells) (cells.map (C.den m)):=by
     refine⟨by simp[d1.len],λb hb=>hb.2,λp d u hd hu hp=>?_,λj p hj=>?_,λj1 j2 b aZ h1 h2 hb1 hb2=>?_,λj b hj hb hF=>?_,h.stood,λj b hj hb hs=>?_⟩
     ·simp only[List.getElem?_map,Option.map_eq_some_iff]at hu
      obtain⟨c0,hc0,rfl⟩:=hu;obtain⟨t,ht⟩:=d1.get hc0 hd;have:=UW h ht;have aE:∀b,Γ.may m (Ce s c0) b/\b<w.heap.size->F b:=λb hb=>⟨Ea (Hq (p0:=0) hc0 (by simpa using hp)) hb.1,hb.2⟩;cases d with|im v=>exact this|sl e ts rows=>exact RdS.mono aE _ _ _ this|ro d=>exact ROAt.mono aE this
     ·obtain⟨k,e,ts,rows,k1,k2,k3⟩:=m2 j p hj
      have hb:=aT j k k1 _ _ _ k3;refine⟨e,ts,rows,m.ε k,?_,by simp[k2,C.den],hb.1,hb.2.1⟩;have aF:p<((c.args i).flatMap DA.cells).length:=(by rw[← d1.len];exact(List.getElem?_eq_some_iff.1 k2).1);obtain⟨t,ht⟩:=d1.get k2 (List.getElem?_eq_getElem aF);rw[List.getElem?_eq_getElem aF,Qv ht k3]
     ·obtain⟨k,k1,-,k2⟩:=a0 j1 h1
      obtain⟨k',k1',-,k2'⟩:=a0 j2 h2;have e1:=(k2 b hb1).2;have e2:=(k2' b hb2).2;rw[e1]at e2;subst e2;exact aZ (OH aR k1 k1')
     ·obtain⟨k,k1,k0,k2⟩:=a0 j hj
      have b0:k ∈ ks:=List.mem_of_getElem? k1;obtain⟨e1,e2⟩:=k2 b hb;rcases hF.1 with h1|h1|h1;·exact Γ.hG b h1 e1
      ·rw[e2]at h1;exact h.pos (h1.2 ▸ k0)
      ·rw[e2]at h1;exact a2 k b0 h1.2
     ·obtain⟨k,k1,k0,k2⟩:=a0 j hj
      exact Γ.hst b hs (k2 b hb).1
    have a9:=aC.1.run aC.2 i aS F w _ mb a3;obtain⟨fn,e1,e2,e3⟩:=aC.1.enter;have aG:(execOp a.eval o).run P w=.ok (.enter f (By (c.args i) (cells.map (C.den m))).toArray) w:=(by have aU:as.map a.eval++(ext.map (T.den m)).toArray=(By (c.args i) (cells.map (C.den m))).toArray:=(by apply Array.ext';rw[Array.toList_append,Array.toList_map,aY,← d2,List.map_append]);simp only[execOp,ho,resolve,aL,Deferred.ofValue,Sem.run_bind,Sem.run_pure,Result.andThen_ok,invoke,callFunc,program,Sem.run,e1,aU,Array.empty_append];simp[e2,e3]);unfold Oper.wp;rw[aG];simp only[Oper.upon];refine a9.mono ?_;rintro e w' ⟨i1,aH,rs,bs,rfl,hp,b4⟩;simp only
    have hk:q (Fg s nx deps ks c.gone (c.res i1) (c.new i1)):=by
     unfold Con.to at aH;cases halt:c.alt with|none=>rw[halt]at hk aH;subst aH;exact hk|some a=>rw[halt]at hk aH;exact hk i1 aH
    have hsm:=aC.1.small i1;let N:=(c.res i1).cells.length
    have aI:∀b ∈ bs,Γ.mine b:=λb hb=>by
     rcases hp.fresh b hb with h1|⟨j,_,hj,aJ⟩;·exact .inl (Nat.le_trans h.old h1)
     ·obtain⟨k,-,-,k2⟩:=a0 j hj
      exact(k2 b aJ).1
    obtain⟨r1,r2,g,r3,r4⟩:=Mi (Γ:=Γ) (deps:=deps) (nx:=nx) hp.res hp.nd aI;let π' : Nat->Nat:=λb=>if b ∈ bs then g b else if b<w.heap.size then m.π b else 0
    let M:Maps:=⟨m.β,λj=>if nx<=j/\j<nx+N then rs.getD (j-nx) undef else m.ε j,π'⟩
    have aV:∀b,b<w.heap.size->m.π b ∉ ks->b ∉ bs:=λb hb hk hx=>by
     rcases hp.fresh b hx with h1|⟨j,_,hj,aJ⟩;·omega
     ·obtain⟨k,k1,-,k2⟩:=a0 j hj
      exact hk ((k2 b aJ).2 ▸ List.mem_of_getElem? k1)
    have hπ:∀b,b<w.heap.size->m.π b ∉ ks->π' b=m.π b:=λb hb hk=>by simp only[π',if_neg (aV b hb hk),if_pos hb]
    have hFk:∀b,F b->Γ.mine b->m.π b ∉ ks:=λb hF hb hk=>by
     rcases hF.1 with h1|h1|h1;·exact Γ.hG b h1 hb
     ·obtain⟨j,hj⟩:=List.getElem?_of_mem hk
      have b5:j<c.mu.length:=(by rw[← m1];exact(List.getElem?_eq_some_iff.1 hj).1);obtain⟨k,k1,k0,-⟩:=a0 j b5;rw[k1]at hj;simp only[Option.some.injEq]at hj;rw[h1.2]at hj;exact h.pos (hj ▸ k0)
     ·exact a2 _ hk h1.2
    have aK:∀b,F b\/(w.heap.size<=b/\b ∉ bs)->Γ.may M deps b:=by
     intro b hb;rcases hb with⟨hb,aN⟩|⟨hb,hx⟩
     ·have e:Γ.mine b->M.π b=m.π b:=λh0=>hπ b aN (hFk b ⟨hb,aN⟩ h0)
      rcases hb with h1|h1|h1;·exact .inl h1
      ·exact .inr (.inl ⟨h1.1,by rw[e h1.1];exact h1.2⟩)
      ·exact .inr (.inr ⟨h1.1,by rw[e h1.1];exact h1.2⟩)
     ·exact .inr (.inl ⟨.inl (Nat.le_trans h.old hb),by show π' b=0;simp only[π',if_neg hx,if_neg (Nat.not_lt.2 hb)]⟩)
    obtain⟨x1,x2⟩:=r4 M aK (λq hq=>by show(if nx<=nx+q/\nx+q<nx+N then rs.getD (nx+q-nx) undef else m.ε (nx+q))=_;rw[if_pos ⟨by omega,by omega⟩,Nat.add_sub_cancel_left]) (λb hb=>by show π' b=_;simp only[π',if_pos hb]);have a6:Maps.same al m M:=λj hj=>⟨rfl,if_neg (by have:=aO j hj;omega)⟩;have aW:∀k ∈ ks,k ∈ (Fg s nx deps ks c.gone (c.res i1) (c.new i1)).us:=λk hk=>by simp only[Eff.us,Fg,List.map_append,Qz];exact List.mem_append.2 (.inr hk)
    have a7:∀b,b<w.heap.size->(¬Γ.mine b\/m.π b ∉ ks)->w'.heap[b]?=w.heap[b]?:=λb hb h2=>hp.keep b hb λj hj aJ=>by
     obtain⟨k,k1,-,k2⟩:=a0 j hj;have:=k2 b aJ;rcases h2 with h2|h2;·exact h2 this.1
     ·exact h2 (this.2 ▸ List.mem_of_getElem? k1)
    refine⟨Fg s nx deps ks c.gone (c.res i1) (c.new i1),M,hk,⟨?_,a6,?_,λb hb h2=>a7 b hb (h2.imp id λhx hy=>hx (aW _ hy)),λb hb hu=>hπ b hb λhk'=>hu (aW _ hk'),λj E hE=>?_,λj hj=>?_⟩⟩;·simp only[Fg,RT.t_den,x1]
    ·exact⟨b4,hp.os,hp.tape,hp.output,hp.size,λb hb=>a7 b (Nat.lt_of_lt_of_le (Env.old hb) h.old) (.inl hb)⟩
    ·simp only[Fg,FK]at hE
     cases hl:lkp (Md deps (c.res i1).cells nx) j with
     |some E'=>rw[hl]at hE;obtain rfl:=Option.some.inj hE;obtain⟨e1,e2,e3⟩:=x2 j E' hl;exact⟨e2,.inr (aM j e1.1 (by omega)),λj' hj'=>.inl (Mh h (e3 j' hj'))⟩
     |none=>
      rw[hl,Option.none_or]at hE;obtain⟨j',k1,rfl⟩:=Qy hE;have hj' : j' < c.mu.length:=(by rw[← m1];exact(List.getElem?_eq_some_iff.1 k1).1);obtain⟨k,e,ts,rows,k1',k2,k3⟩:=m2 j' _ (List.getElem?_eq_getElem hj');rw[k1]at k1';obtain rfl:=Option.some.inj k1';rw[k3];simp only[Nat.zero_add];obtain⟨b1,b2,b3⟩:=aT j' j k1 _ _ _ k3;have aA:=(h.en _ _ k3).2.1;cases a1:ZZ c.gone j' with
      |true=>exact⟨trivial,.inl aA,by simp[En.ids]⟩|false=>
      have a1:=Si a1;obtain⟨e',ts',rows',u,q1,q2,-,-⟩:=a3.own j' _ (List.getElem?_eq_getElem hj');obtain⟨bt,b6,t2,t3,-⟩:=hp.turned j' _ e' ts' rows' u a1 (List.getElem?_eq_getElem hj') q1 q2;refine⟨⟨bt,?_,t2,λb hb=>⟨(b3 b (t3 b hb)).1,?_⟩⟩,.inl aA,by simp[En.ids]⟩
      ·have this:=b6
       have hu:u=m.ε j:=(by simp only[List.getElem?_map,k2,Option.map_some,Option.some.injEq,C.den]at q2;exact q2.symm);rw[hu]at this;rw[(a6 j aA).2];have hd:e'=e/\ts'=ts:=(by obtain⟨t,ht⟩:=d1.get k2 q1;have:=Qv ht k3;simp only[DC.sl.injEq]at this;exact⟨this.1,this.2.1⟩);rw[← hd.1,← hd.2];exact this
      ·show π' b=j
       have hb:=t3 b hb;have aN:=Fp.lt _ _ _ _ b1 b hb
       have aV:b ∉ bs:=λhx=>by
        rcases hp.fresh b hx with h1|⟨j2,hj2,hl2,hb2⟩;·omega
        ·exact a3.dis j' j2 b (λe=>a1 (e ▸ hj2)) hj' hl2 hb hb2
       simp only[π',if_neg aV,if_pos aN];exact(b3 b hb).2
    ·obtain⟨c',hc',hj⟩:=RT.t_ids hj
     have:=r2 c' hc' j hj;exact .inr (aM j this.1 (by omega))
   ·exact hk.elim
end
theorem FpRow.setAt{w:World}{d' : Dat}{c:Value}{b2:List Nat} : ∀(ts:List Ty)(ds:List Dat)(vs:List Value)(bs:List Nat)(i:Nat),FpRow w ts ds vs bs->bs.Nodup->i<ts.length->Fp w (ts.getD i .int) d' c b2->b2.Nodup->(∀b ∈ b2,b ∉ bs) ->
  ∃bs',FpRow w ts (ds.set i d') (vs.set i c) bs'/\bs'.Nodup/\∀b ∈ bs',b ∈ bs\/b ∈ b2
 | [],_,_,_,_,_,_,hi,_,_,_=>by simp at hi|t::ts,[],_,_,_,h,_,_,_,_,_=>by simp[FpRow]at h|t::ts,_::_,[],_,_,h,_,_,_,_,_=>by simp[FpRow]at h|t::ts,d::ds,v::vs,bs,0,h,hn,_,hf,h2,hd=>by simp only[List.getD_cons_zero,List.set_cons_zero,FpRow]at *;obtain⟨b1,b3,rfl,h1,h3⟩:=h;have hn':=List.nodup_append.1 hn;refine⟨b2++b3,⟨b2,b3,rfl,hf,h3⟩,List.nodup_append.2 ⟨h2,hn'.2.1,λa ha b hb e=>hd a ha (by subst e;simp[hb])⟩,λb hb=>?_⟩;rcases List.mem_append.1 hb with hb|hb;exact .inr hb;exact .inl (by simp[hb])
 |t::ts,d::ds,v::vs,bs,i+1,h,hn,hi,hf,h2,hd=>by simp only[List.getD_cons_succ,List.set_cons_succ,FpRow]at *;obtain⟨b1,b3,rfl,h1,h3⟩:=h;have hn':=List.nodup_append.1 hn;obtain⟨bs',q1,q2,q3⟩:=FpRow.setAt ts ds vs b3 i h3 hn'.2.1 (by simpa using hi) hf h2 (λb hb hb3=>hd b hb (by simp[hb3]));refine⟨b1++bs',⟨b1,bs',rfl,h1,q1⟩,List.nodup_append.2 ⟨hn'.1,q2,λa ha b hb e=>?_⟩,λb hb=>?_⟩;subst e;rcases q3 a hb with hb|hb;exact hn'.2.2 a ha a hb rfl;exact hd a hb (by simp[ha]);rcases List.mem_append.1 hb with hb|hb;exact .inl (by simp[hb]);rcases q3 b hb with hb|hb;exact .inl (by simp[hb]);exact .inr hb
theorem OJ{bss:List (List Nat)}{j:Nat}{bj:List Nat}(h:bss.flatten.Nodup)(hj:j<bss.length)(hb:bj.Nodup)(hd:∀b ∈ bj,b ∈ bss.flatten->b ∈ bss.getD j []):(bss.set j bj).flatten.Nodup:=by
 refine List.pairwise_flatten.2 ⟨λl hl=>?_,?_⟩;rcases List.mem_or_eq_of_mem_set hl with hl|rfl;exact(List.pairwise_flatten.1 h).1 l hl;exact hb;rw[List.pairwise_iff_getElem];intro a b ha hb' a0 x hx y hy e;subst e;simp only[List.length_set]at ha hb';rw[List.getElem_set]at hx hy;have key:∀k,k<bss.length->k≠j->x ∈ bss.getD k []->x ∈ bj->False:=λk hk a1 h1 h2=>by exact I4 h a1 h1 (hd x h2 (AR h1))
 have eg:∀k (hk:k<bss.length),bss.getD k []=bss[k]:=λk hk=>by simp[List.getD,hk]
 split at hx;split at hy;omega;rename_i e1 e2;exact key b hb' (λe=>e2 e.symm) (by rw[eg b hb'];exact hy) hx;split at hy;rename_i e1 e2;exact key a ha (λe=>e1 e.symm) (by rw[eg a ha];exact hx) hy;exact I4 h (Nat.ne_of_lt a0) (by rw[eg a ha];exact hx) (by rw[eg b hb'];exact hy)
theorem DF{bss:List (List Nat)}{j:Nat}{bj:List Nat}{b:Nat}(h:b ∈ (bss.set j bj).flatten):b ∈ bss.flatten\/b ∈ bj:=by obtain⟨l,hl,hb⟩:=List.mem_flatten.1 h;rcases List.mem_or_eq_of_mem_set hl with hl|rfl;exact .inl (List.mem_flatten.2 ⟨l,hl,hb⟩);exact .inr hb
theorem LK{sz:Nat}{row' : List Value}(a0 : row'.length=sz):∀(rows:List (List Value))(j:Nat),(∀r ∈ rows,r.length=sz)->j<rows.length->rows.flatten.take (j*sz)++row'++rows.flatten.drop (j*sz+row'.length)=(rows.set j row').flatten:=by
 intro rows;induction rows with
 |nil=>intro j _ hj;simp at hj|cons x r ih=>
  intro j hr hj;have hx:=hr x (by simp);cases j with|zero=>simp[a0,hx]|succ j=>have:=ih j (λq hq=>hr q (by simp[hq])) (by simpa using hj);simp only[List.flatten_cons,List.set_cons_succ,← this];rw[List.take_append,List.drop_append,List.take_of_length_le (by rw[hx,Nat.add_mul];omega),List.drop_of_length_le (by rw[hx,Nat.add_mul];omega)];have e1:(j+1)*sz-x.length=j*sz:=(by rw[hx,Nat.add_mul];omega);have e2:(j+1)*sz+row'.length-x.length=j*sz+row'.length:=(by rw[hx,Nat.add_mul];omega);rw[e1,e2];simp
theorem Fp.setCell{w:World}{e:Nat}{ts:List Ty}{L:List (List Dat)}{g len cap:Nat}{bs:List Nat}{j i:Nat}(h:Fp w (.sl e ts) (.sl L) (.slice (some ⟨g,0,none⟩) len cap) bs)(hn:bs.Nodup)(hj:j<L.length)(hi:i<ts.length)
  {d' : Dat} {c:Value} {b2:List Nat} (hf:Fp w (ts.getD i .int) d' c b2) (h2:b2.Nodup) (hd:∀b ∈ b2,b ∉ bs) :
  ∃bs',Fp (w.setCell ⟨g,j*ts.length+i,none⟩ c) (.sl e ts) (.sl (L.set j ((L.getD j []).set i d'))) (.slice (some ⟨g,0,none⟩) len cap) bs'/\bs'.Nodup/\∀b ∈ bs',b ∈ bs\/b ∈ b2:=by
 simp only[Fp]at h;obtain⟨rows,bss,h1,h2',h3,h4,h5,rfl⟩:=h;have hn':=hn;simp only[Value.ownBlock,Option.toList_some,List.singleton_append,List.nodup_cons]at hn';have a6:len=rows.length:=by rcases h1.2 with⟨h,_⟩|⟨g',cap',cur,h,_⟩;simp at h;simp at h;exact h.2.1
 subst a6;have a4:(rows.getD j []).length=ts.length:=h4 _ (by simp[List.getD,show j<rows.length by omega]);have hxl:rows.flatten.length=rows.length*ts.length:=h1.1;have hjl:j*ts.length+ts.length<=rows.length*ts.length:=by have:=Nat.mul_le_mul_right ts.length (show j+1<=rows.length by omega);rw[Nat.add_mul]at this;omega
 have a3:g ∉ bss.flatten:=hn'.1;have hg2:g ∉ b2:=λhb=>hd g hb (by simp[Value.ownBlock]);have a0:∀i,i<ts.length->w.cell? ⟨g,j*ts.length+i,none⟩=(rows.getD j [])[i]?:=λi hi=>by rw[h1.cellAt _ (by omega)];have:=DT rows ts.length h4 (j*ts.length+i) (by rw[Nat.mul_comm,Nat.mul_add_div (by omega),Nat.div_eq_of_lt hi];omega) (Nat.mod_lt _ (by omega));rw[this,Nat.mul_comm,Nat.mul_add_div (by omega),Nat.div_eq_of_lt hi,Nat.mul_add_mod,Nat.mod_eq_of_lt hi,Nat.add_zero];simp only[List.getD,List.getElem?_eq_getElem (show i<(rows[j]?.getD []).length by have:=a4;simp only[List.getD]at this;omega),Option.getD_some]
 have hst:=PH g (rows.getD j []) w (j*ts.length) i c (λk hk=>a0 k (by omega)) (by omega);obtain⟨bj',q1,q2,q3⟩:=FpRow.setAt ts _ _ _ i (h5 j hj) (N0 hn'.2 j) hi hf h2 (λb hb hb3=>hd b hb (List.mem_append.2 (.inr (AR hb3))));have a5:g ∉ bj':=λhb=>(q3 g hb).elim (λh=>a3 (AR h)) hg2;have ho:OnlyIn (λb=>b=g) w (w.setCell ⟨g,j*ts.length+i,none⟩ c):=(OnlyIn.refl _ w).setCell (S:=λb=>b=g) rfl c;have a1 : ((rows.getD j []).set i c).length=ts.length:=by rw[List.length_set];exact a4
 refine⟨[g]++(bss.set j bj').flatten,?_,?_,?_⟩;simp only[Fp];refine⟨rows.set j ((rows.getD j []).set i c),bss.set j bj',?_,by simp[h2'],by simp[h3],?_,?_,by simp[Value.ownBlock]⟩;have o1:=Hk ((rows.getD j []).set i c) w (j*ts.length) rows.flatten h1 (by omega);rw[hst,LK a1 rows j h4 (by omega)]at o1;simpa using o1;intro r hr;rcases List.mem_or_eq_of_mem_set hr with hr|rfl;exact h4 r hr;exact a1;intro k hk;simp only[List.length_set]at hk;by_cases a2:k=j;subst a2;have e1:(L.set k ((L.getD k []).set i d')).getD k []=(L.getD k []).set i d':=by simp[List.getD,hk]
 have e2:(rows.set k ((rows.getD k []).set i c)).getD k []=(rows.getD k []).set i c:=by simp[List.getD,show k<rows.length by omega]
 have e3:(bss.set k bj').getD k []=bj':=by simp[List.getD,show k<bss.length by omega]
 rw[e1,e2,e3];exact FpRow.only ho _ _ _ _ q1 (λb hb e=>a5 (e ▸ hb));have e1:(L.set j ((L.getD j []).set i d')).getD k []=L.getD k []:=by simp[List.getD,List.getElem?_set_ne (λe=>a2 e.symm)]
 have e2:(rows.set j ((rows.getD j []).set i c)).getD k []=rows.getD k []:=by simp[List.getD,List.getElem?_set_ne (λe=>a2 e.symm)]
 have e3:(bss.set j bj').getD k []=bss.getD k []:=by simp[List.getD,List.getElem?_set_ne (λe=>a2 e.symm)]
 rw[e1,e2,e3];exact FpRow.only ho _ _ _ _ (h5 k hk) (λb hb e=>a3 (AR (e ▸ hb)));simp only[List.singleton_append,List.nodup_cons];refine⟨λhb=>?_,OJ hn'.2 (by omega) q2 (λb hb hb2=>?_)⟩;rcases DF hb with hb|hb;exact a3 hb;exact a5 hb;rcases q3 b hb with hb|hb;exact hb;exact absurd (List.mem_append.2 (.inr hb2)) (hd b hb);intro b hb;simp only[List.singleton_append,List.mem_cons]at hb;rcases hb with rfl|hb;exact .inl (by simp[Value.ownBlock]);rcases DF hb with hb|hb;exact .inl (List.mem_append.2 (.inr hb));rcases q3 b hb with hb|hb;exact .inl (List.mem_append.2 (.inr (AR hb)));exact .inr hb
theorem Fp.setRow{w:World}{e:Nat}{ts:List Ty}{L:List (List Dat)}{g len cap:Nat}{bs:List Nat}{j:Nat}(h:Fp w (.sl e ts) (.sl L) (.slice (some ⟨g,0,none⟩) len cap) bs)(hn:bs.Nodup)(hj:j<L.length)
  {ds:List Dat} {cs:List Value} {b2:List Nat} (hf:FpRow w ts ds cs b2) (h2:b2.Nodup) (hd:∀b ∈ b2,b ∉ bs) :
  ∃bs',Fp (stN w g (j*ts.length) cs) (.sl e ts) (.sl (L.set j ds)) (.slice (some ⟨g,0,none⟩) len cap) bs'/\bs'.Nodup/\∀b ∈ bs',b ∈ bs\/b ∈ b2:=by
 simp only[Fp]at h;obtain⟨rows,bss,h1,h2',h3,h4,h5,rfl⟩:=h;have hn':=hn;simp only[Value.ownBlock,Option.toList_some,List.singleton_append,List.nodup_cons]at hn';have a3:len=rows.length:=by rcases h1.2 with⟨h,_⟩|⟨g',cap',cur,h,_⟩;simp at h;simp at h;exact h.2.1
 subst a3;have a0 : cs.length=ts.length:=(RdRow.lens _ _ _ (FpRow.rd _ _ _ _ hf)).2;have hxl:rows.flatten.length=rows.length*ts.length:=h1.1;have hjl:j*ts.length+ts.length<=rows.length*ts.length:=by have:=Nat.mul_le_mul_right ts.length (show j+1<=rows.length by omega);rw[Nat.add_mul]at this;omega
 have a2:g ∉ bss.flatten:=hn'.1;have hg2:g ∉ b2:=λhb=>hd g hb (by simp[Value.ownBlock]);have ho:OnlyIn (λb=>b=g) w (stN w g (j*ts.length) cs):=FJ g cs w _;refine⟨[g]++(bss.set j b2).flatten,?_,?_,?_⟩;simp only[Fp];refine⟨rows.set j cs,bss.set j b2,?_,by simp[h2'],by simp[h3],?_,?_,by simp[Value.ownBlock]⟩;have o1:=Hk cs w (j*ts.length) rows.flatten h1 (by omega);rw[LK a0 rows j h4 (by omega)]at o1;simpa using o1;intro r hr;rcases List.mem_or_eq_of_mem_set hr with hr|rfl;exact h4 r hr;exact a0;intro k hk;simp only[List.length_set]at hk;by_cases a1:k=j;subst a1;have e1:(L.set k ds).getD k []=ds:=by simp[List.getD,hk]
 have e2:(rows.set k cs).getD k []=cs:=by simp[List.getD,show k<rows.length by omega]
 have e3:(bss.set k b2).getD k []=b2:=by simp[List.getD,show k<bss.length by omega]
 rw[e1,e2,e3];exact FpRow.only ho _ _ _ _ hf (λb hb e=>hg2 (e ▸ hb));have e1:(L.set j ds).getD k []=L.getD k []:=by simp[List.getD,List.getElem?_set_ne (λe=>a1 e.symm)]
 have e2:(rows.set j cs).getD k []=rows.getD k []:=by simp[List.getD,List.getElem?_set_ne (λe=>a1 e.symm)]
 have e3:(bss.set j b2).getD k []=bss.getD k []:=by simp[List.getD,List.getElem?_set_ne (λe=>a1 e.symm)]
 rw[e1,e2,e3];exact FpRow.only ho _ _ _ _ (h5 k hk) (λb hb e=>a2 (AR (e ▸ hb)));simp only[List.singleton_append,List.nodup_cons];refine⟨λhb=>?_,OJ hn'.2 (by omega) h2 (λb hb hb2=>absurd (List.mem_append.2 (.inr hb2)) (hd b hb))⟩;rcases DF hb with hb|hb;exact a2 hb;exact hg2 hb;intro b hb;simp only[List.singleton_append,List.mem_cons]at hb;rcases hb with rfl|hb;exact .inl (by simp[Value.ownBlock]);rcases DF hb with hb|hb;exact .inl (List.mem_append.2 (.inr hb));exact .inr hb
def IM(tt:TT)(s:St)(t k sz i j:Nat)(v:T)(q:Eff->Prop):Prop:=False
def AB3(tt:TT)(t:Nat):Bool:=
 match lkp tt t with|some ti=>Nat.beq ti.size 1|none=>true
def IN(tt:TT)(s:St)(t k sz i j:Nat)(v:T)(q:Eff->Prop):Prop:=
 match lkp tt t,lkp s.en k,v.cs with
 |some ti,some (.own e ts rows),some [c]=>
  match UU s (ts.getD j .int) c with
  |some (d,ks)=>
   if(c.fit s && Nat.beq ti.size 1 && Nat.blt j ts.length && Nat.beq sz ts.length && !(ks.any (Nat.beq k)))=true then
    i<rows.length/\q ⟨T.ofV undef,(k,.own e ts (rows.set i ((rows.getD i []).set j d)))::ks.map λx=>(x,.dead)⟩
   else False
  |none=>False
 |_,_,_=>False
section
variable {P : Program} {tt : TT} {Γ : Env} {n : Nat} {w0 : World} {al fr : Nat → Prop} {s : St} {m : Maps} {a : Act} {w : World} {nx : Nat} {o : Oper}
theorem XK{ks:List Nat}{i:Nat}{E:En}(h:lkp (ks.map λx=>(x,En.dead)) i=some E):E=.dead/\i ∈ ks:=by
 induction ks with|nil=>simp[lkp]at h|cons x r ih=>rw[List.map_cons,Ad]at h;split at h;rename_i e;subst e;obtain rfl:=Option.some.inj h;exact⟨rfl,by simp⟩;obtain⟨h1,h2⟩:=ih h;exact⟨h1,by simp[h2]⟩
theorem Sl(hT:TTok P tt)(h:R Γ n w0 al s m a w){t k sz i j:Nat}{x y:Operand}{v:T}(ho:o.op=.store t x y)(hx:a.eval x=C6 (m.ε k) (i*sz+j))(hy:a.eval y=v.den m) :
  Snd P Γ al fr m a w o (IN tt s t k sz i j v):=by
 intro q hq Q;unfold IN at hq;split at hq;rename_i ti e ts rows c aA hk hc;split at hq;rename_i d ks a5;split at hq;rename_i a0;simp only[Bool.and_eq_true,Nat.beq_eq,Nat.blt_eq,Bool.not_eq_true']at a0;obtain⟨⟨⟨⟨a6,hs1⟩,hj⟩,aB⟩,a7⟩:=a0;subst aB;have a7:k ∉ ks:=λhm=>by have:=List.any_eq_false.1 a7 k hm;simp at this
 obtain⟨hi,hq⟩:=hq;obtain⟨⟨bs,f1,f2,f3⟩,aC,-⟩:=h.en _ _ hk;obtain⟨⟨b2,g1,g2,g3⟩,aD⟩:=Qi h a5;obtain⟨g,len,cap,he,aE,a1,a8⟩:∃g len cap,m.ε k=.slice (some ⟨g,0,none⟩) len cap/\g ∈ bs/\(w.cell? ⟨g,i*ts.length+j,none⟩).isSome=true/\w.frozen? ⟨g,i*ts.length+j,none⟩=false:=by have f1':=f1;simp only[Fp]at f1';obtain⟨rv,bss,o1,o2,o3,o4,o5,o6⟩:=f1';rcases o1.2 with⟨e1,e2⟩|⟨g,cap,cur,e1,_⟩;omega;have f1'':=f1;rw[e1]at f1'';obtain⟨row,bj,r1,r2,r3,r4,r5,r6,_⟩:=Fp.row f1'' f2 hi;exact⟨g,_,_,e1,r6,by rw[r1 j hj];rfl,r2 _⟩
 rw[he]at f1;obtain⟨bs',p1,p2,p3⟩:=Fp.setCell f1 f2 hi hj g1 g2 (λb hb hb2=>a7 (by have:=(g3 b hb).2;rw[(f3 b hb2).2]at this;exact this));have a2:=h.fit a6;have aF:=T.cs_cells hc (m:=m) (λx hx=>by simp only[List.mem_singleton]at hx;subst hx;exact a2);have hg:=f3 g aE;refine Oper.wp_skip (w':=w.setCell ⟨g,i*ts.length+j,none⟩ (c.den m)) ?_ ⟨_,⟨m.β,m.ε,λb=>if b ∈ bs' then k else m.π b⟩,hq,?_⟩;have hst:=run_store P w ⟨g,i*ts.length+j,none⟩ (c.den m) .plain a2;obtain⟨u,hu⟩:=Option.isSome_iff_exists.1 a1;rw[hu]at hst;simp only[a8,Bool.false_eq_true,if_false]at hst;have a9:(⟨g,0,none⟩:Addr).add (i*ts.length+j)=⟨g,i*ts.length+j,none⟩:=by unfold Addr.add;split;rename_i h0;rw[h0];simp
 have a3:(⟨g,i*ts.length+j,none⟩:Addr).add 0=⟨g,i*ts.length+j,none⟩:=rfl;simp only[execOp,ho,Sem.run_bind,Sem.run_pure,hx,hy,he,C6,a9,Instr.storeAt,Instr.sureAddr,storeVar,Result.andThen_ok,(hT _ _ aA).sizeOf,aF];rw[if_neg (by simp[hs1])];simp[storeCells,a3,hst];have aG:∀b,b ∈ bs'->m.π b ∈ (k::ks):=λb hb=>by rcases p3 b hb with hb|hb;rw[(f3 b hb).2];simp;have:=(g3 b hb).2;simp[this]
 have a4:Eff.us ⟨T.ofV undef,(k,En.own e ts (rows.set i ((rows.getD i []).set j d)))::ks.map λx=>(x,En.dead)⟩=k::ks:=by simp[Eff.us,List.map_map,Function.comp_def]
 refine⟨rfl,λ_ _=>⟨rfl,rfl⟩,⟨λ_=>Nat.le_refl _,rfl,rfl,rfl,by simp[World.setCell],λb hb=>Below.heap_setCell _ _ _ _ (λe=>by simp only at e;exact hb (e ▸ hg.1))⟩,?_,?_,?_,by simp[T.ofV,T.ids,A.ids,C.ids]⟩;intro b hb hb2;refine Below.heap_setCell _ _ _ _ (λe=>?_);simp only at e;subst e;rw[a4]at hb2;rcases hb2 with hb2|hb2;exact hb2 hg.1;exact hb2 (by rw[hg.2];simp);intro b hb hb2;rw[a4]at hb2;exact if_neg λhm=>hb2 (aG b hm);intro z E hE;rw[Ad]at hE;split at hE;rename_i ez;subst ez;obtain rfl:=Option.some.inj hE;refine⟨⟨bs',by simp only[he];exact p1,p2,λb hb=>⟨?_,if_pos hb⟩⟩,.inl aC,by simp[En.ids]⟩;rcases p3 b hb with hb|hb;exact(f3 b hb).1;exact(g3 b hb).1;obtain⟨rfl,hz⟩:=XK hE;exact⟨trivial,.inl (aD z hz),by simp[En.ids]⟩;exact hq.elim;exact hq.elim;exact hq.elim
theorem Sm(hT:TTok P tt)(h:R Γ n w0 al s m a w){t k sz i j:Nat}{x y:Operand}{v:T}(ho:o.op=.store t x y)(hx:a.eval x=C6 (m.ε k) (i*sz+j))(hy:a.eval y=v.den m) :
  Snd P Γ al fr m a w o (IM tt s t k sz i j v):=by intro q hk Q;unfold IM at hk;exact hk.elim
end
def IO(tt:TT)(s:St)(t k sz i j:Nat)(v:T)(q:Eff->Prop):Prop:=False
def AB4(s:St)(k:Nat):Bool:=
 match lkp s.en k with|some (.top _ _ _ _)=>true|_=>false
def ACj(s:St)(k:Nat):Bool:=
 match lkp s.en k with|some (.mu _ _ _ _)=>true|_=>false
def XL:T->Ty->Option (Dat×Value)
 | .one (.one (.im (.int .i64 n))),.int=>some (.int n,.int .i64 n)| .one (.one (.im (.bool b))),.bool=>some (.bool b,.bool b)| .one (.one (.im (.string b))),.str=>some (.str b,.string b)|_,_=>none
def IP(tt:TT)(s:St)(t k sz i j:Nat)(v:T)(q:Eff->Prop):Prop:=
 match lkp tt t,lkp s.en k with
 |some ti,some (.mu e ts rows j0)=>
  match XL v (ts.getD j .int)with
  |some (d,_)=>
   if(Nat.beq ti.size 1 && Nat.blt j ts.length && Nat.beq sz ts.length)=true then
    i<rows.length/\∀R:List (List Dat),R=Df rows i j d->q ⟨T.ofV undef,[(k,.mu e ts R j0)]⟩
   else False
  |none=>False
 |_,_=>False
theorem RdRowS.setAt{F:Nat->Prop}{w:World}{d:Dat}{c:Value} : ∀(ts:List Ty)(ds:List Dat)(vs:List Value)(i:Nat),RdRowS F w ts ds vs->i<ts.length->RdS F w (ts.getD i .int) d c->RdRowS F w ts (ds.set i d) (vs.set i c)
 | [],_,_,_,_,hi,_=>by simp at hi|t::ts,[],_,_,h,_,_=>by simp[RdRowS]at h|t::ts,_::_,[],_,h,_,_=>by simp[RdRowS]at h|t::ts,d0::ds,v::vs,0,h,_,hd=>by simp only[List.getD_cons_zero,List.set_cons_zero,RdRowS]at *;exact⟨hd,h.2⟩|t::ts,d0::ds,v::vs,i+1,h,hi,hd=>by simp only[List.getD_cons_succ,List.set_cons_succ,RdRowS]at *;exact⟨h.1,RdRowS.setAt ts ds vs i h.2 (by simpa using hi) hd⟩
section
variable {P : Program} {tt : TT} {Γ : Env} {n : Nat} {w0 : World} {al fr : Nat → Prop} {s : St} {m : Maps} {a : Act} {w : World} {nx : Nat} {o : Oper}
theorem XM{v:T}{t:Ty}{d:Dat}{u:Value}(h:XL v t=some (d,u)):t.leaf=true/\(∀m:Maps,v.den m=u)/\v.ids=[]/\(∀w,Fp w t d u [])/\u.oneCell'=true/\u.cells=#[u]:=by unfold XL at h;split at h;simp only[Option.some.injEq,Prod.mk.injEq]at h;obtain⟨rfl,rfl⟩:=h;exact⟨rfl,λ_=>rfl,rfl,λw=>by simp[Fp],rfl,rfl⟩;simp only[Option.some.injEq,Prod.mk.injEq]at h;obtain⟨rfl,rfl⟩:=h;exact⟨rfl,λ_=>rfl,rfl,λw=>by simp[Fp],rfl,rfl⟩;simp only[Option.some.injEq,Prod.mk.injEq]at h;obtain⟨rfl,rfl⟩:=h;exact⟨rfl,λ_=>rfl,rfl,λw=>by simp[Fp],rfl,rfl⟩;cases h
theorem Sn(hT:TTok P tt)(h:R Γ n w0 al s m a w){t k sz i j:Nat}{x y:Operand}{v:T}(ho:o.op=.store t x y)(hx:a.eval x=C6 (m.ε k) (i*sz+j))(hy:a.eval y=v.den m) :
  Snd P Γ al fr m a w o (IP tt s t k sz i j v):=by
 intro q hq Q;unfold IP at hq;split at hq;rename_i ti e ts rows j0 a7 hk;split at hq;rename_i d u hd;split at hq;rename_i a0;simp only[Bool.and_eq_true,Nat.beq_eq,Nat.blt_eq]at a0;obtain⟨⟨hs1,hj⟩,a8⟩:=a0;subst a8;obtain⟨l1,l2,l3,l4,l5,l6⟩:=XM hd;rw[l2]at hy;obtain⟨hi,hq⟩:=hq;obtain⟨⟨f0,f1,f2,f3⟩,a9,-⟩:=h.en _ _ hk;obtain⟨g,cap,he,a3⟩:∃g cap,m.ε k=.slice (some ⟨g,0,none⟩) rows.length cap/\g ∈ Γ.mb j0:=by have f1':=f1;simp only[Fp]at f1';obtain⟨rv,bss,o1,o2,o3,o4,o5,o6⟩:=f1';rcases o1.2 with⟨e1,e2⟩|⟨g,cap,cur,e1,_⟩;omega;exact⟨g,cap,by rw[e1,o2],by rw[o6,e1];simp[Value.ownBlock]⟩
 rw[he]at f1;obtain⟨row,bj,r1,r2,r3,r4,r5,r6,_⟩:=Fp.row f1 f2 hi;have a4:rows.set i (rows.getD i [])=rows:=by simp[List.getD,hi]
 have a5:=Fp.leafAt (ld:=rows.getD i []) (by rw[a4];exact f1) f2 hi j hj (by simpa[List.getD,hj]using l1) d u (λw'=>by simpa[List.getD,hj]using l4 w');have a1:=r1 j hj;have hst:=run_store P w ⟨g,i*ts.length+j,none⟩ u .plain l5;rw[a1]at hst;simp only[r2,Bool.false_eq_true,if_false]at hst;have a6:(⟨g,0,none⟩:Addr).add (i*ts.length+j)=⟨g,i*ts.length+j,none⟩:=by unfold Addr.add;split;rename_i h0;rw[h0];simp
 have a2:(⟨g,i*ts.length+j,none⟩:Addr).add 0=⟨g,i*ts.length+j,none⟩:=rfl;refine Oper.wp_skip (w':=w.setCell ⟨g,i*ts.length+j,none⟩ u) ?_ ⟨_,m,hq _ rfl,?_⟩;simp only[execOp,ho,Sem.run_bind,Sem.run_pure,hx,hy,he,C6,a6,Instr.storeAt,Instr.sureAddr,storeVar,Result.andThen_ok,(hT _ _ a7).sizeOf,l6];rw[if_neg (by simp[hs1])];simp[storeCells,a2,hst];refine⟨rfl,λ_ _=>⟨rfl,rfl⟩,⟨λ_=>Nat.le_refl _,rfl,rfl,rfl,by simp[World.setCell],λb hb=>Below.heap_setCell _ _ _ _ (λe=>by simp only at e;exact hb (e ▸ .inr ⟨j0,a3⟩))⟩,?_,λ_ _ _=>rfl,?_,by simp[T.ofV,T.ids,A.ids,C.ids]⟩;intro b hb hb2;refine Below.heap_setCell _ _ _ _ (λe=>?_);simp only at e;subst e;rcases hb2 with hb2|hb2;exact hb2 (.inr ⟨j0,a3⟩);exact hb2 (by rw[f3 _ a3];simp[Eff.us]);intro z E hE;rw[Ad]at hE;split at hE;rename_i ez;subst ez;obtain rfl:=Option.some.inj hE;exact⟨⟨f0,by rw[he];exact a5,f2,f3⟩,.inl a9,by simp[En.ids]⟩;simp[lkp]at hE;exact hq.elim;exact hq.elim;exact hq.elim
theorem So(hT:TTok P tt)(h:R Γ n w0 al s m a w){t k sz i j:Nat}{x y:Operand}{v:T}(ho:o.op=.store t x y)(hx:a.eval x=C6 (m.ε k) (i*sz+j))(hy:a.eval y=v.den m) :
  Snd P Γ al fr m a w o (IO tt s t k sz i j v):=by intro q hk Q;unfold IO at hk;exact hk.elim
end
def Lo(s:St)(x:Operand):Option Value:=(ev s x).bind T.im
def cOf(s:St)(x:Operand):Option C:=(ev s x).bind T.c?
def XN(s:St)(c a b:Operand):Option (Option Prop×T):=
 match Lo s c,Lo s a,Lo s b with|some (.bool t),some va,some vb=>some (none,T.ofV (match t with|true=>va|false=>vb))|_,_,_=>none
def PK(tt:TT)(t:Nat):Bool:=
 match lkp tt t with|some {d:=.bool,..}=>true|_=>false
def Sq(tt:TT)(s:St)(op:BinOp)(t:Nat)(x y:Operand):Option (Option Prop×T):=
 match Lo s x,Lo s y with
 |some (.bool a),some (.bool b)=>
  match PK tt t,op with|true,.eql=>some (none,T.ofV (.bool (a == b)))|true,.neq=>some (none,T.ofV (.bool (a != b)))|_,_=>none
 |some a,some b=>(AA3 op a b).map λr=>(r.1,T.ofV r.2)|_,_=>none
def XO(s:St)(op:UnOp)(x:Operand):Option (Option Prop×T):=
 match Lo s x with|some a=>(xun op a).map λr=>(none,T.ofV r)|none=>none
def Mk(s:St)(x:Operand)(i:Nat):Option (Option Prop×T):=
 match ev s x with|some (.tup as)=>(as[i]?).map λa=>(none,.one a)|_=>none
def Sr(tt:TT)(s:St)(t:Nat)(x:Operand)(f:Nat):Option (Option Prop×T):=
 match ev s x,Qf tt t f with
 |some (.one (.agg cs)),some (o,ti)=>
  match sub cs o ti.size with|some c=>(T.ofCs ti.d.agg c).map (none,·)|none=>none
 |_,_=>none
def xfa(tt:TT)(s:St)(t:Nat)(x:Operand)(f:Nat):Option (Option Prop×T):=
 match cOf s x with
 |some (.ep k _ i _)=>
  match EZ s k,FL tt t (ev s x) f with|some (_,_,rows,_),some (none,v)=>some (some (i<rows.length),v)|_,_=>none
 |some (.ext k)=>ZX tt s t k 0 f|some (.pp k o)=>ZX tt s t k o f|_=>FL tt t (ev s x) f
def AA7(s:St)(x:Operand):Option (Option Prop×T):=
 match cOf s x with|some (.bp i o)=>some (none,.one (.one (.bp i o)))|_=>none
def AA8(tt:TT)(s:St)(t:Nat)(x:Operand):Option (Option Prop×T):=
 match cOf s x,lkp tt t with
 |some (.ext k),some {d:=.slice _,..}=>
  match EZ s k with
  |some (_,_,rows,_)=>some (none,T.ofV (.int .i64 (rows.length:Nat)))|none=>match Sh s k with|some (.bytes bs)=>some (none,T.ofV (.int .i64 (bs.length:Nat)))|_=>none
 |some (.im (.slice _ n _)),some {d:=.slice _,..}=>some (none,T.ofV (.int .i64 (n:Nat)))|some (.im (.string b)),some {d:=.str,..}=>some (none,T.ofV (.int .i64 (b.size:Nat)))|_,_=>none
def Ss(tt:TT)(s:St)(t:Nat)(x i:Operand):Option (Option Prop×T):=
 match Lo s x,Lo s i,lkp tt t with|some (.string b),some (.int _ i),some {d:=.str,..}=>some (some (0<=i/\i<(b.size:Int)),T.ofV (.int .u8 (b.get! i.toNat).toNat))|_,_,_=>none
def AA9(s:St)(x:Operand):Bool:=false
def evs(s:St):List Operand->Option (List T)
 | []=>some []|x::r=>
  match ev s x,evs s r with|some v,some vs=>some (v::vs)|_,_=>none
def OK(mx:Bool)(s:St):List Operand->Option (Option Prop×T)
 | [x,y]=>
  match Lo s x,Lo s y with|some (.int k a),some (.int _ b)=>some (none,T.ofV (.int k (match mx with|true=>max a b|false=>min a b)))|_,_=>none
 |_=>none
def ACk(tt:TT)(t:Nat):Bool:=
 match lkp tt t with|some {d:=.int .u8,size:=z,..}=>Nat.beq z 1|_=>false
def Ml(tt:TT)(s:St)(nx t u:Nat)(x:Operand)(q:Eff->Prop):Prop:=xp (Qo tt s t u x) q
def PL(tt:TT)(s:St)(t:Nat)(x i:Operand):Option (Option Prop×T):=none
def PM(tt:TT)(s:St)(t k sz i j:Nat):Option (Option Prop×T):=none
def IQ(tt:TT)(s:St)(nx t len:Nat)(ps:List (Nat×Operand))(q:Eff->Prop):Prop:=False
def FM:List C->List Ty->Nat->Option (List C×List (Nat×En))
 | [],[],_=>some ([],[])|c::cs,t::ts,i=>
  match FM cs ts (i+1)with
  |some (ds,es)=>
   match t,c with| .sl e us,.im (.slice none 0 0)=>some (.ext i::ds,(i,.own e us [])::es)|_,c=>some (c::ds,es)
  |none=>none
 |_,_,_=>none
def IR(tt:TT)(s:St)(nx t:Nat)(ps:List (Nat×Operand))(shape:List Ty)(q:Eff->Prop):Prop:=
 match MH tt s t ps with
 |some (.one (.agg cs0))=>
  match Nat.ble cs0.length 32,FM cs0 shape nx with|true,some (cs,es)=>q ⟨.one (.agg cs),es⟩|_,_=>False
 |_=>False
def xop(tt:TT)(ct:CTs)(hints:List Nat)(o:Oper)(s:St)(nx:Nat)(q:Eff->Prop):Prop:=
 match o.op with
 | .move x=>xp ((ev s x).map (none,·)) q| .assign x=>xp ((ev s x).map (none,·)) q| .pick c a b=>xp (XN s c a b) q| .binOp op t x y _=>
  match AA9 s x with|true=>xp (ZY tt s op t x y) q|false=>xp (Sq tt s op t x y) q
 | .convert t u x=>Ml tt s nx t u x q| .makeFunc fn first caps=>xp (IK s fn first.toList caps.toList) q
 | .makeSlice t x y=>
  match Iz tt t with|some (e,_)=>OE tt s nx t (Fe tt 9 e) x y q|none=>False
 | .unOp op _ x=>xp (XO s op x) q| .extract x i=>xp (Mk s x i) q| .field t x f=>xp (Sr tt s t x f) q| .fieldAddr t x f=>xp (xfa tt s t x f) q| .indexAddr t x i=>
  match PL tt s t x i with|some r=>xp (some r) q|none=>xp (GX tt s t (ev s x) (ev s i)) q
 | .index t x i=>xp (Ss tt s t x i) q| .nilCheck x=>xp (AA7 s x) q| .build t ps=>
  match (match o.dst with|some d=>hints.any (Nat.beq d)|none=>false)with|true=>IR tt s nx t ps.toList (Fe tt 9 t) q|false=>xp ((MH tt s t ps.toList).map (none,·)) q
 | .box _ x=>Vb s nx x q| .alloc t=>KI tt nx t q| .load t x=>
  match cOf s x with
  |some (.bp i off)=>xp ((MK tt s t i off).map (none,·)) q|some (.ep k sz i j)=>
   match PM tt s t k sz i j with|some r=>xp (some r) q|none=>KJ tt s nx t k sz i j q
  |some (.pp k o)=>I7 tt s nx t k o q|some (.ext k)=>I7 tt s nx t k 0 q|_=>False
 | .store t x y=>
  match cOf s x,ev s y with
  |some (.bp i off),some v=>IG tt s t i off v q|some (.ep k sz i j),some v=>
   match ACj s k with
   |true=>IP tt s t k sz i j v q|false=>
    match AB4 s k with
    |true=>IO tt s t k sz i j v q|false=>
     match AB3 tt t with|true=>IN tt s t k sz i j v q|false=>IM tt s t k sz i j v q
  |_,_=>False
 | .slice t x lo hi none=>
  match (match o.dst with|some d=>hints.any (Nat.beq d)|none=>false)with|true=>Vh tt s nx t (ev s x) lo hi q|false=>KK tt s nx t (ev s x) lo hi q
 | .buildSlice t len ps=>
  match Iz tt t with
  |some (e,_)=>
   match ACk tt e with|true=>IQ tt s nx t len ps.toList q|false=>DU tt s nx t len (Fe tt 9 e) ps.toList (match o.dst with|some d=>hints.any (Nat.beq d)|none=>false) q
  |none=>False
 | .call c=>
  match c.callee with
  | .builtin .append=>
   match c.args.toList,c.argTypes.toList with
   | [x,y],[t,u]=>if Nat.beq t u=true then IJ tt s nx t (ev s x) (ev s y) q else False
   |_,_=>False
  | .builtin .len=>
   match c.args.toList,c.argTypes.toList with| [x],[t]=>xp (AA8 tt s t x) q|_,_=>False
  | .builtin .min=>xp (OK false s c.args.toList) q| .builtin .max=>xp (OK true s c.args.toList) q| .value f=>
   match cOf s f,evs s c.args.toList with
   |some c0,some ts=>
    match OI s c0 with|some (k,ext)=>OF tt ct s nx k (c.argTypes.toList++ext.map λ_=>4294967) (ts++ext) q|none=>False
   |_,_=>False
  |_=>False
 |_=>False
section
variable {P : Program} {tt : TT} {ct : CTs} {Γ : Env} {n : Nat} {w0 : World} {al fr : Nat → Prop} {s : St} {m : Maps} {a : Act} {w : World} {nx : Nat} {o : Oper}
theorem R.im(h:R Γ n w0 al s m a w){x:Operand}{v:Value}(hx:Lo s x=some v):a.eval x=v:=by obtain⟨t,e1,e2⟩:=Option.bind_eq_some_iff.1 hx;rw[(h.ev e1).1,(T.im_den m e2).1]
theorem R.cc(h:R Γ n w0 al s m a w){x:Operand}{c:C}(hx:cOf s x=some c):a.eval x=c.den m/\∀i ∈ c.ids,al i:=by obtain⟨t,e1,e2⟩:=Option.bind_eq_some_iff.1 hx;have:=h.ev e1;rw[T.c?_some e2]at this;exact this
theorem Su:∀{l:List Operand}{ts:List T},evs s l=some ts->All2 (λx t=>ev s x=some t) l ts
 | [],ts,h=>by simp only[evs,Option.some.injEq]at h;subst h;exact .nil|x::r,ts,h=>by simp only[evs]at h;split at h;rename_i v vs h1 h2;simp only[Option.some.injEq]at h;subst h;exact .cons h1 (Su h2);cases h
theorem Sv{t:Nat}{a b:Bool}(ht:P.underlying t=some .bool):(Op.equal t (.bool a) (.bool b)).run P w=.ok (a == b) w:=by
 have hu:(underlying t).run P w=.ok TypeDesc.bool w:=by simp[underlying,program,Sem.run,ht]
 show(Op.equalIn (9999+1) t (.bool a) (.bool b)).run P w=_;rw[Op.equalIn];simp only[Sem.run_bind,hu,Result.andThen_ok,Sem.run_pure]
theorem XP(b:ByteArray)(i:Nat)(h:i<b.size):b[i]?=some (b.get! i):=by have e:b.get! i=b.data[i]! := rfl;rw[e];have hd:i<b.data.size:=h;rw[getElem!_pos b.data i hd];simp[h];rfl
theorem Vp(hT:TTok P tt)(h:R Γ n w0 al s m a w){t u:Nat}{x:Operand}(ho:o.op=.convert t u x)(hnx:¬al nx)(hf:fr nx):Snd P Γ al fr m a w o (Ml tt s nx t u x):=by show Snd P Γ al fr m a w o (xp (Qo tt s t u x));refine BQ h (X:=Qo tt s t u x) λp v hx hp=>?_;obtain⟨r1,r2⟩:=Vk hT h hx hp;exact⟨by simp only[execOp,ho,Sem.run_bind,r1,Result.andThen_ok,Sem.run_pure],by simp[r2]⟩
theorem Q1(hT:TTok P tt)(h:R Γ n w0 al s m a w){t:Nat}{x i:Operand}{p:Option Prop}{v:T}(hx:PL tt s t x i=some (p,v))(hp:∀q,p=some q->q) :
  (Instr.indexAt t (a.eval x) (a.eval i)).run P w=.ok (v.den m) w/\∀j ∈ v.ids,al j:=by unfold PL at hx;cases hx
theorem Sw(hT:TTok P tt)(h:R Γ n w0 al s m a w){t k sz i j:Nat}{x:Operand}{r:Option Prop×T}(hr:PM tt s t k sz i j=some r)(ho:o.op=.load t x)(hx:a.eval x=C.den m (.ep k sz i j)):Snd P Γ al fr m a w o (xp (some r)):=by unfold PM at hr;cases hr
theorem Sx(hT:TTok P tt)(h:R Γ n w0 al s m a w){t len:Nat}{ps:Array (Nat×Operand)}(ho:o.op=.buildSlice t len ps)(hnx:¬al nx)(hf:fr nx):Snd P Γ al fr m a w o (IQ tt s nx t len ps.toList):=by intro q hk Q;unfold IQ at hk;exact hk.elim
theorem LL{m m' : Maps} : ∀{zs:List C}{ts:List Ty}{i:Nat}{cs:List C}{es:List (Nat×En)},FM zs ts i=some (cs,es)->(∀c ∈ zs,c.den m'=c.den m)->(∀j,j<zs.length->m'.ε (i+j)=(zs.map (C.den m)).getD j undef) ->
  cs.map (C.den m')=zs.map (C.den m)/\(∀k E,lkp es k=some E->i<=k/\k<i+zs.length/\EnAt Γ m' w k E/\E.ids=[])/\∀c ∈ cs,∀j ∈ c.ids,(i<=j/\j<i+zs.length)\/∃c0 ∈ zs,j ∈ c0.ids
 | [],[],i,cs,es,h,_,_=>by simp only[FM,Option.some.injEq,Prod.mk.injEq]at h;obtain⟨rfl,rfl⟩:=h;exact⟨rfl,λk E hk=>by simp[lkp]at hk,λc hc=>by simp at hc⟩| [],t::ts,i,cs,es,h,_,_=>by simp[FM]at h|z::zs,[],i,cs,es,h,_,_=>by simp[FM]at h|z::zs,t::ts,i,cs,es,h,hs,hε=>by unfold FM at h;split at h;rename_i cs' es' hr;obtain⟨i1,i2,i3⟩:=LL (m:=m) (m':=m') hr (λc hc=>hs c (List.mem_cons_of_mem _ hc)) (λj hj=>by have:=hε (j+1) (by simpa using hj);rw[show i+1+j=i+(j+1) by omega];simpa using this);have h0:=hε 0 (by simp);split at h;rename_i e us;simp only[Option.some.injEq,Prod.mk.injEq]at h;obtain⟨rfl,rfl⟩:=h;refine⟨?_,λk E hk=>?_,λc hc j hj=>?_⟩;simp only[List.map_cons,i1,C.den];simp only[Nat.add_zero]at h0;rw[h0];rfl;rw[Ad]at hk;split at hk;rename_i ek;subst ek;obtain rfl:=Option.some.inj hk;refine⟨Nat.le_refl _,by simp,⟨[],?_,by simp,by simp⟩,rfl⟩;simp only[Nat.add_zero]at h0;rw[h0];simp only[List.map_cons,List.getD_cons_zero,C.den,Fp];exact⟨[],[],⟨by simp,.inl ⟨rfl,rfl⟩⟩,rfl,rfl,by simp,λk hk=>by simp at hk,rfl⟩;obtain⟨j1,j2,j3,j4⟩:=i2 k E hk;exact⟨by omega,by simp;omega,j3,j4⟩;rcases List.mem_cons.1 hc with rfl|hc;simp only[C.ids,List.mem_singleton]at hj;subst hj;exact .inl ⟨Nat.le_refl _,by simp⟩;rcases i3 c hc j hj with h|⟨c0,h1,h2⟩;exact .inl ⟨by omega,by simp;omega⟩;exact .inr ⟨c0,List.mem_cons_of_mem _ h1,h2⟩;simp only[Option.some.injEq,Prod.mk.injEq]at h;obtain⟨rfl,rfl⟩:=h;refine⟨by simp only[List.map_cons,i1,hs z (by simp)],λk E hk=>?_,λc hc j hj=>?_⟩;obtain⟨j1,j2,j3,j4⟩:=i2 k E hk;exact⟨by omega,by simp;omega,j3,j4⟩;rcases List.mem_cons.1 hc with rfl|hc;exact .inr ⟨_,by simp,hj⟩;rcases i3 c hc j hj with h|⟨c0,h1,h2⟩;exact .inl ⟨by omega,by simp;omega⟩;exact .inr ⟨c0,List.mem_cons_of_mem _ h1,h2⟩;cases h
theorem Sy(hT:TTok P tt)(h:R Γ n w0 al s m a w){t:Nat}{shape:List Ty}{ps:Array (Nat×Operand)}(ho:o.op=.build t ps)(a8:∀i,al i->¬(nx<=i/\i<nx+32))(a7:∀i,nx<=i->i<nx+32->fr i):Snd P Γ al fr m a w o (IR tt s nx t ps.toList shape):=by
 intro q hk Q;unfold IR at hk;split at hk;rename_i cs0 a9;split at hk;rename_i cs es hc a3;have hc:=Nat.le_of_ble_eq_true hc;obtain⟨a4,a5⟩:=MI hT h (ps:=ps) a9;let m':=Ef m nx (cs0.map (C.den m))
 have hε:∀j,j<cs0.length->m'.ε (nx+j)=(cs0.map (C.den m)).getD j undef:=λj hj=>by show(if nx<=nx+j/\nx+j<nx+(cs0.map (C.den m)).length then(cs0.map (C.den m)).getD (nx+j-nx) undef else m.ε (nx+j))=_;rw[if_pos (by rw[List.length_map];omega),Nat.add_sub_cancel_left]
 have a0:Maps.same al m m':=λi hi=>⟨rfl,by simp only[m',Ef,List.length_map];rw[if_neg (by have:=a8 i hi;omega)]⟩;have a1:∀c ∈ cs0,∀i ∈ c.ids,al i:=λc hc i hi=>a5 i (by simp only[T.ids,A.ids];exact List.mem_flatMap.2 ⟨c,hc,hi⟩);obtain⟨n1,n2,n3⟩:=LL (Γ:=Γ) (w:=w) (m:=m) (m':=m') a3 (λc hc=>C.den_same a0 (a1 c hc)) hε;have a6:(T.one (.agg cs)).den m'=(T.one (.agg cs0)).den m:=by simp only[T.den,A.den,n1]
 have a2:(execOp a.eval o).run P w=.ok (.value ((T.one (.agg cs)).den m')) w:=by rw[a6];simp only[execOp,ho,Sem.run_bind,a4,Result.andThen_ok,Sem.run_pure]
 refine Oper.wp_value a2 ⟨_,m',hk,⟨rfl,a0,Bel.refl _ _,λ_ _ _=>rfl,λ_ _ _=>rfl,λp E hE=>?_,λp hp=>?_⟩⟩;obtain⟨e1,e2,e3,e4⟩:=n2 p E hE;exact⟨e3,.inr (a7 p e1 (by omega)),λj hj=>by rw[e4]at hj;simp at hj⟩;obtain⟨c,hc',hp⟩:=List.mem_flatMap.1 hp;rcases n3 c hc' p hp with this|⟨c0,h1,h2⟩;exact .inr (a7 p this.1 (by omega));exact .inl (a1 c0 h1 p h2);exact hk.elim;exact hk.elim
theorem XQ(hT:TTok P tt)(a6:CTok P ct Γ.mono)(h:R Γ n w0 al s m a w)(hints:List Nat)(a1:∀i,al i->¬(nx<=i/\i<nx+32))(a2:∀i,nx<=i->i<nx+32->fr i):Snd P Γ al fr m a w o (xop tt ct hints o s nx):=by
 have a0:¬al nx:=λhx=>a1 nx hx ⟨Nat.le_refl _,by omega⟩;have hf:fr nx:=a2 nx (Nat.le_refl _) (by omega);unfold xop;cases ho:o.op with
 |move x=>refine BQ h (X:=(ev s x).map (none,·)) λp v hx _=>?_;obtain⟨t,e1,e2⟩:=Option.map_eq_some_iff.1 hx;simp only[Prod.mk.injEq]at e2;obtain⟨rfl,rfl⟩:=e2;exact⟨by simp[execOp,ho,(h.ev e1).1],(h.ev e1).2⟩|assign x=>refine BQ h (X:=(ev s x).map (none,·)) λp v hx _=>?_;obtain⟨t,e1,e2⟩:=Option.map_eq_some_iff.1 hx;simp only[Prod.mk.injEq]at e2;obtain⟨rfl,rfl⟩:=e2;exact⟨by simp[execOp,ho,(h.ev e1).1],(h.ev e1).2⟩|pick c x y=>refine BQ h (X:=XN s c x y) λp v hx _=>?_;unfold XN at hx;split at hx;rename_i t va vb h1 h2 h3;simp only[Option.some.injEq,Prod.mk.injEq]at hx;obtain⟨rfl,rfl⟩:=hx;refine⟨?_,by simp[T.ofV_ids]⟩;simp only[execOp,ho,h.im h1,h.im h2,h.im h3,asBool,Sem.run_bind,Sem.run_pure,Result.andThen_ok,T.ofV_den];cases t <;> simp;cases hx|convert t u x=>exact Vp hT h ho a0 hf|makeFunc fn first caps=>refine BQ h (X:=IK s fn first.toList caps.toList) λp v hx _=>?_;obtain⟨r1,r2⟩:=Nr (P:=P) h hx;exact⟨by simp only[execOp,ho,Sem.run_bind,r1,Result.andThen_ok,Sem.run_pure],r2⟩
 |makeSlice t x y=>simp only;split;exact XB hT h ho a0 hf;intro k hk;exact hk.elim|binOp op t x y t2=>
  simp only;split;refine BQ h (X:=ZY tt s op t x y) λp v hx _=>?_;obtain⟨r1,r2⟩:=XC hT h hx;refine⟨?_,by simp[r2]⟩;simp only[Sem.run_bind]at r1;simp only[execOp,ho,Sem.run_bind,r1,Result.andThen_ok,Sem.run_pure];refine BQ h (X:=Sq tt s op t x y) λp v hx hp=>?_;unfold Sq at hx;split at hx;rename_i va vb h1 h2;have hb:∀hh:PK tt t=true,(Op.equal t (.bool va) (.bool vb)).run P w=.ok (va == vb) w:=λhh=>by unfold PK at hh;split at hh;rename_i hl;have hk:P.underlying t=some .bool:=(hT _ _ hl).d;exact Sv hk;cases hh
  split at hx;rename_i hh;simp only[Option.some.injEq,Prod.mk.injEq]at hx;obtain⟨rfl,rfl⟩:=hx;refine⟨?_,by simp[T.ofV_ids]⟩;simp[execOp,ho,h.im h1,h.im h2,T.ofV_den,eqGuard,binOp,hb hh];rename_i hh;simp only[Option.some.injEq,Prod.mk.injEq]at hx;obtain⟨rfl,rfl⟩:=hx;refine⟨?_,by simp[T.ofV_ids]⟩;simp[execOp,ho,h.im h1,h.im h2,T.ofV_den,eqGuard,binOp,hb hh,bne];cases hx;rename_i va vb _ h1 h2;obtain⟨⟨p',r⟩,e1,e2⟩:=Option.map_eq_some_iff.1 hx;simp only[Prod.mk.injEq]at e2;obtain⟨rfl,rfl⟩:=e2;have:=W2 (P:=P) (w:=w) (t:=t) (a:=x) (b:=y) e1 hp;refine⟨?_,by simp[T.ofV_ids]⟩;simp only[Sem.run_bind]at this;simp only[execOp,ho,h.im h1,h.im h2,Sem.run_bind,this,Result.andThen_ok,Sem.run_pure,T.ofV_den];cases hx
 |unOp op t x=>refine BQ h (X:=XO s op x) λp v hx _=>?_;unfold XO at hx;split at hx;rename_i va h1;obtain⟨r,e1,e2⟩:=Option.map_eq_some_iff.1 hx;simp only[Prod.mk.injEq]at e2;obtain⟨rfl,rfl⟩:=e2;have:=ZT (P:=P) (w:=w) e1;exact⟨by simp[execOp,ho,h.im h1,this,T.ofV_den],by simp[T.ofV_ids]⟩;cases hx|extract x i=>
  refine BQ h (X:=Mk s x i) λp v hx _=>?_;unfold Mk at hx;split at hx;rename_i as h1;obtain⟨r,e1,e2⟩:=Option.map_eq_some_iff.1 hx;simp only[Prod.mk.injEq]at e2;obtain⟨rfl,rfl⟩:=e2;obtain⟨x1,x2⟩:=h.ev h1;refine⟨?_,λj hj=>x2 j (List.mem_flatMap.2 ⟨r,List.mem_of_getElem? e1,hj⟩)⟩;have e3:(as.map (A.den m)).toArray[i]?=some (r.den m):=by simp[e1]
  simp only[execOp,ho,x1,T.den,Instr.extract,e3];simp;cases hx
 |field t x f=>
  refine BQ h (X:=Sr tt s t x f) λp v hx _=>?_;unfold Sr at hx;split at hx;rename_i cs off ti h1 h2;split at hx;rename_i c hc;obtain⟨r,e1,e2⟩:=Option.map_eq_some_iff.1 hx;simp only[Prod.mk.injEq]at e2;obtain⟨rfl,rfl⟩:=e2;obtain⟨x1,x2⟩:=h.ev h1;obtain⟨fl,fd,u1,u2,rfl,u3⟩:=JR hT h2;obtain⟨d1,d2⟩:=T.ofCs_den m e1;refine⟨?_,λj hj=>?_⟩;have x1' : a.eval x=.agg (cs.map (C.den m)).toArray:=x1;have a3:=IF hc;obtain⟨s1,s2⟩:=GB hc
  have a4:(part fd.type (cs.map (C.den m)).toArray fd.offset).run P w=.ok (r.den m) w:=by
   rw[d1];simp only[part,Sem.run_bind,u3.isAgg,Result.andThen_ok];cases hg:ti.d.agg with
   |true=>simp only[if_true,Sem.run_bind,u3.sizeOf,Result.andThen_ok,Sem.run_pure,LD];rw[s2];simp[List.map_take,List.map_drop]|false=>
    have hl:=d2 hg
    obtain⟨c0,rfl⟩:∃c0,c=[c0]:=by
     match c,hl with| [c0],_=>exact⟨c0,rfl⟩
    have:=UR hc 0 (by simp at a3;omega);simp at this;simp[this,LD]
  simp only[execOp,ho,x1',Instr.field,Sem.run_bind,Ai u1,Result.andThen_ok,u2,asAgg,Sem.run_pure,a4];rw[T.ofCs_ids e1]at hj;obtain⟨y,hy,hj⟩:=List.mem_flatMap.1 hj;exact x2 j (List.mem_flatMap.2 ⟨y,UQ hc y hy,hj⟩);cases hx;cases hx
 |fieldAddr t x f=>
  refine BQ h (X:=xfa tt s t x f) λp v hx hp=>?_;have key:∀p',FL tt t (ev s x) f=some (p',v)->(∀k sz i j,cOf s x=some (.ep k sz i j)->∃ad nn cc,m.ε k=.slice (some ad) nn cc)->(execOp a.eval o).run P w=.ok (.value (v.den m)) w/\∀i ∈ v.ids,al i:=by intro p' hx' hd;obtain⟨r1,r2⟩:=MO hT h hx' hd;exact⟨by simp[execOp,ho,r1],r2⟩
  unfold xfa at hx;split at hx;rename_i k sz i j hk;split at hx;rename_i e ts rows deps v' a3 a7;simp only[Option.some.injEq,Prod.mk.injEq]at hx;obtain⟨rfl,rfl⟩:=hx;refine key none a7 λk' sz' i' j' hk'=>?_;rw[hk]at hk';simp only[Option.some.injEq,C.ep.injEq]at hk';obtain⟨rfl,-,rfl,-⟩:=hk';obtain⟨⟨F,f1,f2⟩,-,-⟩:=h.sl a3;obtain⟨ad,cap,hv,-,-,-,a5⟩:=f1.open;obtain⟨b,off,row,rfl,-⟩:=a5 i (hp _ rfl);exact⟨_,_,_,hv⟩;cases hx;rename_i k hk;obtain⟨r1,r2⟩:=Qn hT h hx (.inr ⟨rfl,(h.cc hk).1⟩);exact⟨by simp[execOp,ho,r1],r2⟩;rename_i k off hk;obtain⟨r1,r2⟩:=Qn hT h hx (.inl (h.cc hk).1);exact⟨by simp[execOp,ho,r1],r2⟩;rename_i a8 _ _;exact key p hx λk sz i j hk=>absurd hk (a8 k sz i j)
 |indexAddr t x i=>simp only;split;rename_i r hr;refine BQ h (X:=some r) λp v hx hp=>?_;obtain⟨r1,r2⟩:=Q1 hT h (hr.trans hx) hp;exact⟨by simp[execOp,ho,r1],r2⟩;refine BQ h (X:=GX tt s t (ev s x) (ev s i)) λp v hx hp=>?_;obtain⟨r1,r2⟩:=MN hT h hx hp;exact⟨by simp[execOp,ho,r1],r2⟩|index t x i=>refine BQ h (X:=Ss tt s t x i) λp v hx hp=>?_;unfold Ss at hx;split at hx;rename_i b kk iv _ _ _ _ h1 h2 h3;simp only[Option.some.injEq,Prod.mk.injEq]at hx;obtain⟨rfl,rfl⟩:=hx;obtain⟨p1,p2⟩:=hp _ rfl;have hu:=(hT _ _ h3).d;simp only[TD.fits]at hu;refine⟨?_,by simp[T.ofV_ids]⟩;have:=XP b iv.toNat (by omega);simp[execOp,ho,h.im h1,h.im h2,Instr.index,asIntOf,Ai hu,p1,this,T.ofV_den];cases hx|nilCheck x=>refine BQ h (X:=AA7 s x) λp v hx _=>?_;unfold AA7 at hx;split at hx;rename_i i off h1;simp only[Option.some.injEq,Prod.mk.injEq]at hx;obtain⟨rfl,rfl⟩:=hx;obtain⟨x1,x2⟩:=h.cc h1;exact⟨by simp[execOp,ho,x1,C.den,T.den,A.den],by simpa[T.ids,A.ids]using x2⟩;cases hx|build t ps=>simp only;split;rename_i hh;exact Sy hT h ho a1 a2;refine BQ h (X:=(MH tt s t ps.toList).map (none,·)) λp v hx _=>?_;obtain⟨r,e1,e2⟩:=Option.map_eq_some_iff.1 hx;simp only[Prod.mk.injEq]at e2;obtain⟨rfl,rfl⟩:=e2;obtain⟨r1,r2⟩:=MI hT h e1;exact⟨by simp only[execOp,ho,Sem.run_bind,r1,Result.andThen_ok,Sem.run_pure],r2⟩|box t x=>exact ZU h ho a0 hf|alloc t=>exact Vc hT h ho a0 hf|load t x=>simp only;split;rename_i i off hc;refine BQ h (X:=(MK tt s t i off).map (none,·)) λp v hx _=>?_;obtain⟨r,e1,e2⟩:=Option.map_eq_some_iff.1 hx;simp only[Prod.mk.injEq]at e2;obtain⟨rfl,rfl⟩:=e2;obtain⟨r1,r2⟩:=I5 hT h e1;obtain⟨x1,x2⟩:=h.cc hc;exact⟨by simp only[execOp,ho,x1,C.den,Sem.run_bind,r1,Result.andThen_ok,Sem.run_pure],r2⟩;rename_i k sz i j hc;split;rename_i r hr;exact Sw hT h hr ho (h.cc hc).1;exact Vf hT h ho (h.cc hc).1 a1 a2;rename_i k off hc;exact OC hT h ho (.inl (h.cc hc).1) a1 a2;rename_i k hc;exact OC hT h ho (.inr ⟨rfl,(h.cc hc).1⟩) a1 a2;intro k hk;exact hk.elim|store t x y=>simp only;split;rename_i i off v hc hv;exact Sd hT h ho (h.cc hc).1 (h.ev hv).1 (h.ev hv).2;rename_i k sz i j v hc hv;split;exact Sn hT h ho (h.cc hc).1 (h.ev hv).1;split;exact So hT h ho (h.cc hc).1 (h.ev hv).1;split;exact Sl hT h ho (h.cc hc).1 (h.ev hv).1;exact Sm hT h ho (h.cc hc).1 (h.ev hv).1;intro k hk;exact hk.elim|slice t x lo hi mx=>
  cases mx with|some _=>intro k hk;exact hk.elim|none=>simp only;split;exact ZV hT h ho a0 hf;exact Vg hT h ho a0 hf
 |buildSlice t len ps=>simp only;split;split;exact Sx hT h ho a0 hf;exact MW hT h _ ho a0 hf;intro k hk;exact hk.elim|call c=>
  obtain⟨callee,args,argTypes⟩:=c;simp only;cases callee with
  |value f=>simp only;split;rename_i c0 ts h1 h2;split;rename_i k ext h3;exact XJ a6 h ho ((h.cc h1).1.trans (Q0 h h3)) (Su h2) a1 a2;intro k hk;exact hk.elim;intro k hk;exact hk.elim|invoke r me=>intro k hk;exact hk.elim|builtin b=>
   cases b with
   |append=>simp only;split;rename_i x y t u h1 h2;split;rename_i e;have e:=Nat.eq_of_beq_eq_true e;subst e;have h1:args=#[x,y]:=Array.ext' h1;have h2:argTypes=#[t,t]:=Array.ext' h2;subst h1 h2;exact Sf hT h ho a0 hf;intro k hk;exact hk.elim;intro k hk;exact hk.elim|len=>
    simp only;split;rename_i x t h1 h2;have h1:args=#[x]:=Array.ext' h1;have h2:argTypes=#[t]:=Array.ext' h2;subst h1 h2;refine BQ h (X:=AA8 tt s t x) λp v hx _=>?_;unfold AA8 at hx;split at hx;rename_i k _ _ _ _ _ hc hl;have hu:=(hT _ _ hl).d;simp only[TD.fits]at hu;split at hx;rename_i e' ts rows deps a3;simp only[Option.some.injEq,Prod.mk.injEq]at hx;obtain⟨rfl,rfl⟩:=hx;obtain⟨⟨F,f1,f2⟩,-,-⟩:=h.sl a3;obtain⟨ad,cap,hv,-⟩:=f1.open;refine⟨?_,by simp[T.ofV_ids]⟩;have hx1:a.eval x=.slice ad rows.length cap:=by rw[(h.cc hc).1];exact hv
    simp[execOp,ho,resolve,invoke,builtin,Builtin.len_,hx1,Ai hu,T.ofV_den,goInt];split at hx;rename_i nb a9;simp only[Option.some.injEq,Prod.mk.injEq]at hx;obtain⟨rfl,rfl⟩:=hx;obtain⟨⟨ad,cap,hv,-⟩,-,-⟩:=IL h a9;refine⟨?_,by simp[T.ofV_ids]⟩;have hx1:a.eval x=.slice ad nb.length cap:=by rw[(h.cc hc).1];exact hv
    simp[execOp,ho,resolve,invoke,builtin,Builtin.len_,hx1,Ai hu,T.ofV_den,goInt];cases hx;rename_i ad nn cc _ _ _ _ _ hc hl;have hu:=(hT _ _ hl).d;simp only[TD.fits]at hu;simp only[Option.some.injEq,Prod.mk.injEq]at hx;obtain⟨rfl,rfl⟩:=hx;have hx1:=(h.cc hc).1;simp only[C.den]at hx1;exact⟨by simp[execOp,ho,resolve,invoke,builtin,Builtin.len_,hx1,Ai hu,T.ofV_den,goInt],by simp[T.ofV_ids]⟩;rename_i b _ _ _ _ hc hl;have hu:=(hT _ _ hl).d;simp only[TD.fits]at hu;simp only[Option.some.injEq,Prod.mk.injEq]at hx;obtain⟨rfl,rfl⟩:=hx;have hx1:=(h.cc hc).1;simp only[C.den]at hx1;exact⟨by simp[execOp,ho,resolve,invoke,builtin,Builtin.len_,hx1,Ai hu,T.ofV_den,goInt],by simp[T.ofV_ids]⟩;cases hx;intro k hk;exact hk.elim
   |min=>refine BQ h (X:=OK false s args.toList) λp v hx _=>?_;unfold OK at hx;split at hx;rename_i x y h1;split at hx;rename_i k av _ bv e1 e2;simp only[Option.some.injEq,Prod.mk.injEq]at hx;obtain⟨rfl,rfl⟩:=hx;have h1:args=#[x,y]:=Array.ext' h1;subst h1;refine⟨?_,by simp[T.ofV_ids]⟩;have e:(if bv<av then bv else av)=min av bv:=(by omega);simp[execOp,ho,resolve,invoke,builtin,Builtin.min_,Builtin.min2,h.im e1,h.im e2,T.ofV_den,e];cases hx;cases hx|max=>refine BQ h (X:=OK true s args.toList) λp v hx _=>?_;unfold OK at hx;split at hx;rename_i x y h1;split at hx;rename_i k av _ bv e1 e2;simp only[Option.some.injEq,Prod.mk.injEq]at hx;obtain⟨rfl,rfl⟩:=hx;have h1:args=#[x,y]:=Array.ext' h1;subst h1;refine⟨?_,by simp[T.ofV_ids]⟩;have e:(if bv>av then bv else av)=max av bv:=(by omega);simp[execOp,ho,resolve,invoke,builtin,Builtin.max_,Builtin.max2,h.im e1,h.im e2,T.ofV_den];omega;cases hx;cases hx|_=>intro k hk;exact hk.elim
 |_=>intro k hk;exact hk.elim
end
def Mm(f b:Bool)(X Y:Prop):Prop:=
 match f with|true=>(match b with|true=>X|false=>Y)|false=>(b=true->X)/\(b=false->Y)
theorem FN{f b:Bool}{X Y:Prop}(h:Mm f b X Y):(b=true->X)/\(b=false->Y):=by
 unfold Mm at h;cases f with|true=>cases b <;> exact⟨λe=>(by first|exact h|cases e),λe=>(by first|exact h|cases e)⟩|false=>exact h
def St.know(s:St)(t:Nat)(b:Bool):St:={s with tm:=(t,T.ofV (.bool b))::s.tm,lit:=t::s.lit}
def XR(s:St):Operand->Bool
 | .tmp t=>s.lit.any (Nat.beq t)| .const (.bool _)=>true|_=>false
def XS(s:St):Op->Bool
 | .move x=>XR s x| .assign x=>XR s x| .pick c a b=>
  match XR s c with
  |true=>
   match Lo s c with|some (.bool true)=>XR s a|some (.bool false)=>XR s b|_=>false
  |false=>false
 |_=>false
def St.setLit(s:St)(f:Bool)(dst:Option Tmp):St:=
 match f,dst with|true,some t=>{s with lit:=t::s.lit}|_,_=>s
def St.put(s:St)(o:Oper)(e:Eff):St:=(s.app o.dst e).setLit (XS s o.op) o.dst
def LM(n:Nat)(o:Oper):Bool:=
 match o.dst with|some t=>Nat.ble (t+1) n|none=>true
def alN(nx i:Nat):Prop:=0<i/\i<nx
section
variable {P : Program} {tt : TT} {ct : CTs} {Γ : Env} {n : Nat} {w0 : World} {al fr : Nat → Prop} {s : St} {m : Maps} {a : Act} {w : World} {nx : Nat} {o : Oper}
theorem R.eq(h:R Γ n w0 al s m a w){s' : St}(ht:s'.tm=s.tm)(he:s'.en=s.en):R Γ n w0 al s' m a w:=
 {h with tm:=by rw[ht];exact h.tm,en:=by rw[he];exact h.en}
theorem OL(s:St)(f:Bool)(dst:Option Tmp):(s.setLit f dst).tm=s.tm/\(s.setLit f dst).en=s.en:=by unfold St.setLit;split <;> exact⟨rfl,rfl⟩
theorem R.know(h:R Γ n w0 al s m a w){t:Nat}{b:Bool}(hb:a.tmps.getD t undef=.bool b):R Γ n w0 al (s.know t b) m a w:=
 {
  h with
  tm:=λu v hv=>by simp only[St.know,Ad]at hv;split at hv;rename_i e;subst e;obtain rfl:=Option.some.inj hv;exact⟨hb,by simp[T.ofV_ids]⟩;exact h.tm u v hv}
theorem Mn(h:LM n o=true):∀t,o.dst=some t->t<n:=by intro t ht;unfold LM at h;rw[ht]at h;exact Nat.le_of_ble_eq_true h
theorem R.put(h:R Γ n w0 (alN nx) s m a w){e:Eff}{m' : Maps}{a' : Act}{w' : World}(hnx:0<nx)(hs:Stp Γ (alN nx) (λi=>nx<=i/\i<nx+32) o.dst m a w e m' a' w')(hd:LM n o=true):R Γ n w0 (alN (nx+32)) (s.put o e) m' a' w':=by have:=(Stp.r h hs (by omega) (Mn hd)).more (al':=alN (nx+32)) (λi hi=>by unfold alN at *;omega) (by unfold alN;omega);exact this.eq (OL _ _ _).1 (OL _ _ _).2
theorem Stp.skip(_:R Γ n w0 al s m a w){dst:Option Tmp} : Stp Γ al fr dst m a w ⟨T.ofV undef,[]⟩ m (a.put dst undef) w:=
 ⟨rfl,λ_ _=>⟨rfl,rfl⟩,Bel.refl _ _,λ_ _ _=>rfl,λ_ _ _=>rfl,λi E h=>by simp[lkp]at h,by simp[T.ofV_ids]⟩
end
def AAf(tt:TT)(s:St):Op->Option (List (List Dat)×Bool)
 | .binOp op t x (.const (.slice none 0 0)) _=>
  match op,cOf s x,lkp tt t with| .eql,some (.ext k),some {d:=.slice _,..}=>(EZ s k).map λy=>(y.2.2.1,false)| .neq,some (.ext k),some {d:=.slice _,..}=>(EZ s k).map λy=>(y.2.2.1,true)|_,_,_=>none
 |_=>none
def Q2(tt:TT)(ct:CTs)(hints:List Nat)(o:Oper)(s:St)(nx:Nat)(q:Eff->Prop):Prop:=
 match AAf tt s o.op with|some (rows,neg)=>∀b:Bool,(b=true->rows=[])->q ⟨T.ofV (.bool (match neg with|true=>!b|false=>b)),[]⟩|none=>xop tt ct hints o s nx q
theorem UY{P:Program}{tt:TT}{ct:CTs}{Γ:Env}{n:Nat}{w0:World}{al fr:Nat->Prop}{s:St}{m:Maps}{a:Act}{w:World}{nx:Nat}{o:Oper}(hT:TTok P tt)(a1:CTok P ct Γ.mono)(h:R Γ n w0 al s m a w)(hints:List Nat)(a2:∀i,al i->¬(nx<=i/\i<nx+32))(a3:∀i,nx<=i->i<nx+32->fr i):Snd P Γ al fr m a w o (Q2 tt ct hints o s nx):=by
 intro k hk Q;unfold Q2 at hk;split at hk;rename_i rows neg hn
 have key:∀(op:BinOp)(t:Nat)(x:Operand)(y:Nat)(i:Nat),o.op=.binOp op t x (.const (.slice none 0 0)) y->cOf s x=some (.ext i)->(∃z,lkp tt t=some z/\∃e,z.d=.slice e)->(EZ s i).map (λy=>y.2.2.1)=some rows ->
  ∃b:Bool,(b=true->rows=[])/\(Op.equal t (a.eval x) (.slice none 0 0)).run P w=.ok b w/\(eqGuard op t x (.const (.slice none 0 0)) (a.eval x) (.slice none 0 0)).run P w=.ok () w/\∃ad n c,a.eval x=.slice ad n c:=by
  intro op t x y i ho hc ⟨z,hz,e,he⟩ hs;obtain⟨⟨e',ts,rows',deps⟩,h1,h2⟩:=Option.map_eq_some_iff.1 hs;simp only at h2;subst h2;obtain⟨⟨F,f1,f2⟩,-,-⟩:=h.sl h1;obtain⟨ad,cap,hv,-,-,a0,-⟩:=f1.open;have hx:a.eval x=.slice ad rows'.length cap:=by rw[(h.cc hc).1];exact hv
  have hu:=(hT _ _ hz).d;rw[he]at hu;simp only[TD.fits]at hu;refine⟨ad.isNone,λhb=>(a0 (by simpa using hb)).1,?_,?_,_,_,_,hx⟩;rw[hx];exact run_equalIn_slice_nil w 9999 t e ad rows'.length cap hu;rw[hx];cases op <;> simp[eqGuard]
 unfold AAf at hn;split at hn;rename_i op t x y ho;split at hn;rename_i i _ _ _ _ _ hc hz;obtain⟨q1,q2,q3⟩:=Option.map_eq_some_iff.1 hn;simp only[Prod.mk.injEq]at q3;obtain⟨rfl,rfl⟩:=q3;obtain⟨b,b1,b2,b3,ad,n',c,hx⟩:=key _ t x y i ho hc ⟨_,hz,_,rfl⟩ (by rw[q2];rfl);rw[hx]at b2 b3;have hb:(Go.binOp .eql t (.slice ad n' c) (.slice none 0 0)).run P w=.ok (.bool b) w:=by simp[Go.binOp,b2]
 refine Oper.wp_value (v:=.bool b) (w':=w) ?_ ⟨_,m,hk b b1,Stp.pure h (T.ofV (.bool b)) (by simp[T.ofV_ids])⟩;simp only[execOp,ho,hx,show a.eval (.const (.slice none 0 0))=.slice none 0 0 from rfl,Sem.run_bind,b3,Result.andThen_ok,hb,Sem.run_pure];rename_i i _ _ _ _ _ hc hz;obtain⟨q1,q2,q3⟩:=Option.map_eq_some_iff.1 hn;simp only[Prod.mk.injEq]at q3;obtain⟨rfl,rfl⟩:=q3;obtain⟨b,b1,b2,b3,ad,n',c,hx⟩:=key _ t x y i ho hc ⟨_,hz,_,rfl⟩ (by rw[q2];rfl);rw[hx]at b2 b3;have hb:(Go.binOp .neq t (.slice ad n' c) (.slice none 0 0)).run P w=.ok (.bool !b) w:=by simp[Go.binOp,b2]
 refine Oper.wp_value (v:=.bool !b) (w':=w) ?_ ⟨_,m,hk b b1,Stp.pure h (T.ofV (.bool !b)) (by simp[T.ofV_ids])⟩;simp only[execOp,ho,hx,show a.eval (.const (.slice none 0 0))=.slice none 0 0 from rfl,Sem.run_bind,b3,Result.andThen_ok,hb,Sem.run_pure];cases hn;cases hn;exact XQ hT a1 h hints a2 a3 k hk Q
def C8(all:List Oper)(j:Nat):Option Nat:=(all[j]?).bind (·.dst)
def KP(s:St)(t:Nat):Option Bool:=
 match (lkp s.tm t).bind T.im with|some (.bool b)=>some b|_=>none
def Lu(s:St)(t:Nat):Bool:=
 match (lkp s.tm t).bind T.im with|some (.tuple _)=>true|_=>false
def LN(tt:TT)(ct:CTs)(hints:List Nat)(n:Nat)(all:List Oper):List Oper->St->Nat->(St->Nat->Prop)->Prop
 | [],s,nx,q=>q s nx|o::r,s,nx,q=>
  match LM n o with
  |false=>False|true=>
   match o.guard with
   |none=>Q2 tt ct hints o s nx λe=>LN tt ct hints n all r (s.put o e) (nx+32) q|some (j,want)=>
    match C8 all j with
    |none=>False|some t=>
     match KP s t with
     |none=>
      match Lu s t with|true=>LN tt ct hints n all r (s.put o ⟨T.ofV undef,[]⟩) (nx+32) q|false=>False
     |some b=>
      Mm (s.lit.any (Nat.beq t)) (match want with|true=>b|false=>!b)
       (Q2 tt ct hints o (s.know t want) nx λe=>LN tt ct hints n all r ((s.know t want).put o e) (nx+32) q)
       (LN tt ct hints n all r ((s.know t (!want)).put o ⟨T.ofV undef,[]⟩) (nx+32) q)
section
variable {P : Program} {tt : TT} {ct : CTs} {Γ : Env} {n : Nat} {w0 : World} {al fr : Nat → Prop} {s : St} {m : Maps} {a : Act} {w : World} {nx : Nat} {o : Oper}
theorem IS(h:R Γ n w0 al s m a w){t:Nat}{b:Bool}(hb:KP s t=some b):a.tmps.getD t undef=.bool b:=by unfold KP at hb;split at hb;rename_i b' h1;simp only[Option.some.injEq]at hb;subst hb;obtain⟨v,e1,e2⟩:=Option.bind_eq_some_iff.1 h1;rw[(h.tm t v e1).1,(T.im_den m e2).1];cases hb
theorem KQ{ops:Array Oper}{all:List Oper}(a0:all=ops.toList){j t:Nat}{want b:Bool}(hg:o.guard=some (j,want))(ht:C8 all j=some t)(hb:a.tmps.getD t undef=.bool b):Region.wanted o (yielded ops a.tmps)=(b == want):=by
 subst a0;have h1:(ops[j]?).bind (·.dst)=some t:=by unfold C8 at ht;simpa using ht
 have h2:a.tmps[t]?=some (.bool b):=by
  rw[Array.getD_eq_getD_getElem?]at hb;cases hx:a.tmps[t]? with|none=>rw[hx]at hb;simp[undef]at hb|some v=>rw[hx]at hb;simpa using hb
 simp only[Region.wanted,hg,yielded,h1,Option.bind_some,h2];rfl
theorem I9{ops:Array Oper}{all:List Oper}(a0:all=ops.toList){j t:Nat}{want:Bool}(hg:o.guard=some (j,want))(ht:C8 all j=some t){x:Array Value}(hb:a.tmps.getD t undef=.tuple x):Region.wanted o (yielded ops a.tmps)=false:=by
 subst a0;have h1:(ops[j]?).bind (·.dst)=some t:=by unfold C8 at ht;simpa using ht
 simp only[Region.wanted,hg,yielded,h1,Option.bind_some];rw[Array.getD_eq_getD_getElem?]at hb;cases hx:a.tmps[t]? with|none=>rfl|some v=>rw[hx]at hb;simp only[Option.getD_some]at hb;subst hb;rfl
theorem Mo(h:R Γ n w0 al s m a w){t:Nat}(hb:Lu s t=true):∃x,a.tmps.getD t undef=.tuple x:=by unfold Lu at hb;split at hb;rename_i x h1;obtain⟨v,e1,e2⟩:=Option.bind_eq_some_iff.1 h1;exact⟨x,by rw[(h.tm t v e1).1,(T.im_den m e2).1]⟩;cases hb
theorem Fh(hT:TTok P tt)(a2:CTok P ct Γ.mono){hints:List Nat}{ops:Array Oper}{all:List Oper}(a0:all=ops.toList){Q:Exit->Act->World->Prop} :
  ∀(l:List Oper){s:St}{nx:Nat}{m:Maps}{a:Act}{w:World}{q:St->Nat->Prop},LN tt ct hints n all l s nx q->0<nx->R Γ n w0 (alN nx) s m a w ->
   (∀s' nx' m' a' w',0<nx'->q s' nx'->R Γ n w0 (alN nx') s' m' a' w'->Q .normal a' w')->wpList P ops Q l a w
 | [],s,nx,m,a,w,q,hx,h0,h,hq=>wpList_nil (hq _ _ _ _ _ h0 hx h)|o::r,s,nx,m,a,w,q,hx,h0,h,hq=>by
  refine wpList_step λK hK=>?_;simp only[LN]at hx;split at hx;exact hx.elim;rename_i hd;have run:∀s2:St,R Γ n w0 (alN nx) s2 m a w->(Q2 tt ct hints o s2 nx λe=>LN tt ct hints n all r (s2.put o e) (nx+32) q)->o.wp P a w K Q:=by intro s2 h2 hx2;have hs:=UY (o:=o) (fr:=λi=>nx<=i/\i<nx+32) hT a2 h2 hints (λi hi=>by unfold alN at hi;omega) (λi h1 h2=>⟨h1,h2⟩) _ hx2 Q;refine Oper.wp_mono ?_ hs;rintro a' w' ⟨e,m',he,a3⟩;exact hK _ _ (Fh hT a2 a0 r he (by omega) (h2.put h0 a3 hd) hq)
  split at hx;rename_i hg;rw[if_pos (by simp[Region.wanted,hg])];exact run s h hx;rename_i j want hg;split at hx;exact hx.elim;rename_i t ht;split at hx;split at hx;rename_i hu;obtain⟨x,hu⟩:=Mo h hu;rw[I9 a0 hg ht hu];simp only[Bool.false_eq_true,if_false];exact hK _ _ (Fh hT a2 a0 r hx (by omega) (h.put h0 (Stp.skip h) hd) hq);exact hx.elim;rename_i b hb;have a4:=IS h hb;rw[KQ a0 hg ht a4];obtain⟨g1,g2⟩:=FN hx;by_cases a5:b=want;subst a5;have hk:=g1 (by cases b <;> rfl);simp only[beq_self_eq_true,if_true];exact run _ (h.know a4) hk;have a1 : b=!want:=by cases b <;> cases want <;> simp at a5 ⊢
  have hk:=g2 (by subst a1;cases want <;> rfl);have a6:(b == want)=false:=by simpa using a5
  rw[a6];simp only[Bool.false_eq_true,if_false];have h2:=h.know (b:=!want) (by rw[a4,a1]);exact hK _ _ (Fh hT a2 a0 r hk (by omega) (h2.put h0 (Stp.skip h2) hd) hq)
end
theorem XT{X:Option (Option Prop×T)}{q:Eff->Prop}(h:xp X q):∃e,q e/\xp X (·=e):=by
 unfold xp at h ⊢;split at h;rename_i p v;cases p with|none=>exact⟨_,h,rfl⟩|some p=>exact⟨_,h.2,h.1,rfl⟩
 exact h.elim
theorem XU{s:St}{nx:Nat}{x:Operand}{q:Eff->Prop}(h:Vb s nx x q):∃e,q e/\Vb s nx x (·=e):=by unfold Vb at h ⊢;split at h;split at h;split at h;rename_i hc;exact⟨_,h,by rw[if_pos hc]⟩;exact h.elim;exact h.elim;exact h.elim
theorem Sz{tt:TT}{nx t:Nat}{q:Eff->Prop}(h:KI tt nx t q):∃e,q e/\KI tt nx t (·=e):=by unfold KI at h ⊢;split at h;exact⟨_,h,rfl⟩;exact h.elim
theorem S7{tt:TT}{s:St}{nx t k sz i j:Nat}{q:Eff->Prop}(h:KJ tt s nx t k sz i j q):∃e,q e/\KJ tt s nx t k sz i j (·=e):=by unfold KJ at h ⊢;split at h;split at h;rename_i hc;simp only[if_pos hc];split at h;split at h;exact⟨_,h.2,h.1,rfl⟩;exact h.elim;exact h.elim;exact h.elim;exact h.elim
theorem Q3{tt:TT}{s:St}{t i off:Nat}{v:T}{q:Eff->Prop}(h:IG tt s t i off v q):∃e,q e/\IG tt s t i off v (·=e):=by unfold IG at h ⊢;split at h;split at h;rename_i hc;exact⟨_,h,by rw[if_pos hc]⟩;exact h.elim;exact h.elim
theorem S8{tt:TT}{s:St}{nx t:Nat}{x:Option T}{lo hi:Option Operand}{q:Eff->Prop}(h:KK tt s nx t x lo hi q):∃e,q e/\KK tt s nx t x lo hi (·=e):=by unfold KK at h ⊢;split at h;split at h;split at h;obtain⟨h1,h2,h3,h4,h⟩:=h;exact⟨_,h,h1,h2,h3,h4,rfl⟩;exact h.elim;exact h.elim;split at h;split at h;obtain⟨h1,h2,h3,h⟩:=h;exact⟨_,h,h1,h2,h3,rfl⟩;exact h.elim;exact h.elim;exact h.elim
theorem XV{tt:TT}{s:St}{nx t:Nat}{x:Option T}{lo hi:Option Operand}{q:Eff->Prop}(h:Vh tt s nx t x lo hi q):∃e,q e/\Vh tt s nx t x lo hi (·=e):=by unfold Vh at h;exact h.elim
theorem Lp{tt:TT}{s:St}{nx t len:Nat}{shape:List Ty}{ps:List (Nat×Operand)}{top:Bool}{q:Eff->Prop}(h:DU tt s nx t len shape ps top q):∃e,q e/\DU tt s nx t len shape ps top (·=e):=by unfold DU at h ⊢;split at h;split at h;rename_i hc;simp only[if_pos hc];split at h;split at h;rename_i hn;exact⟨_,h,by rw[if_pos hn]⟩;exact h.elim;split at h;exact⟨_,h,rfl⟩;exact h.elim;exact h.elim;exact h.elim
theorem Q4{tt:TT}{s:St}{nx t:Nat}{x y:Option T}{q:Eff->Prop}(h:IJ tt s nx t x y q):∃e,q e/\IJ tt s nx t x y (·=e):=by unfold IJ at h ⊢;split at h;split at h;split at h;split at h;rename_i hc;simp only[if_pos hc];obtain⟨hl,h⟩:=h;split at h;exact⟨_,h,hl,rfl⟩;split at h;exact h.elim;rename_i hn;exact⟨_,h,hl,by rw[if_neg hn]⟩;split at h;exact h.elim;rename_i hn;exact⟨_,h,hl,by rw[if_neg hn]⟩;exact h.elim;exact h.elim;exact h.elim;exact h.elim
theorem Q5{tt:TT}{s:St}{t k sz i j:Nat}{v:T}{q:Eff->Prop}(h:IN tt s t k sz i j v q):∃e,q e/\IN tt s t k sz i j v (·=e):=by unfold IN at h ⊢;split at h;split at h;split at h;rename_i a0 hc;simp only[a0,if_pos hc];obtain⟨hi,h⟩:=h;exact⟨_,h,hi,rfl⟩;exact h.elim;exact h.elim;exact h.elim
theorem Q6{tt:TT}{s:St}{t k sz i j:Nat}{v:T}{q:Eff->Prop}(h:IM tt s t k sz i j v q):∃e,q e/\IM tt s t k sz i j v (·=e):=by unfold IM at h;exact h.elim
theorem S9{tt:TT}{s:St}{c:Con}{ds:List DA}{cells:List C}{q:Eff->Prop}(h:KL tt s c ds cells q):∃e,q e/\KL tt s c ds cells (·=e):=by
 unfold KL at h ⊢;split at h;split at h;split at h;rename_i hc;simp only[if_pos hc];obtain⟨i,h1,h2,h⟩:=h;obtain⟨h3,h⟩:=Mj h;split at h;rename_i e1 e2;refine⟨_,h _ rfl,i,h1,h2,?_⟩
 have:∀{ps:List Prop}{p:Prop},(∀x ∈ ps,x)->p->obs ps p:=by
  intro ps;induction ps with|nil=>intro p _ h;exact h|cons x r ih=>intro p hx h;exact⟨hx x (by simp),ih (λy hy=>hx y (List.mem_cons_of_mem _ hy)) h⟩
 exact this h3 (by rw[e1,e2];intro R hR;rw[hR]);exact h.elim;exact h.elim;exact h.elim;exact h.elim
theorem Q7{tt:TT}{s:St}{t k sz i j:Nat}{v:T}{q:Eff->Prop}(h:IP tt s t k sz i j v q):∃e,q e/\IP tt s t k sz i j v (·=e):=by unfold IP at h ⊢;split at h;split at h;split at h;rename_i a0 hc;simp only[a0,if_pos hc];obtain⟨hi,h⟩:=h;exact⟨_,h _ rfl,hi,λR hR=>by rw[hR]⟩;exact h.elim;exact h.elim;exact h.elim
theorem TA{tt:TT}{s:St}{nx:Nat}{c:Con}{cs pn:c.ι->List PC}{tys:List Nat}{as:List T}{q:Eff->Prop}(h:KM tt s nx c cs pn tys as q):∃e,q e/\KM tt s nx c cs pn tys as (·=e):=by unfold KM at h;exact h.elim
theorem TB{tt:TT}{s:St}{nx:Nat}{c:Con}{pc:c.ι->List PC}{tys:List Nat}{as:List T}{q:Eff->Prop}(h:KN tt s nx c pc tys as q):∃e,q e/\KN tt s nx c pc tys as (·=e):=by unfold KN at h;exact h.elim
theorem Vq{tt:TT}{ct:CTs}{s:St}{nx f:Nat}{tys:List Nat}{as:List T}{q:Eff->Prop}(a0:∀f c,(f,c) ∈ ct->c.alt=none)(h:OF tt ct s nx f tys as q):∃e,q e/\OF tt ct s nx f tys as (·=e):=by unfold OF at h ⊢;split at h;exact h.elim;rename_i c hl;obtain⟨g,hg⟩:=Qq hl;have ha:=a0 g c hg;split at h;exact TA h;split at h;exact TB h;split at h;exact h.elim;split at h;exact S9 h;split at h;rename_i hc;simp only[if_pos hc];obtain⟨i,h1,h2,h⟩:=h;rw[ha]at h;exact⟨_,h,i,h1,h2,by rw[ha]⟩;exact h.elim
theorem Q8{tt:TT}{s:St}{t k sz i j:Nat}{v:T}{q:Eff->Prop}(h:IO tt s t k sz i j v q):∃e,q e/\IO tt s t k sz i j v (·=e):=by unfold IO at h;exact h.elim
theorem Vr{tt:TT}{s:St}{nx t:Nat}{shape:List Ty}{x y:Operand}{q:Eff->Prop}(h:OE tt s nx t shape x y q):∃e,q e/\OE tt s nx t shape x y (·=e):=by unfold OE at h ⊢;split at h;split at h;split at h;rename_i hz hc;simp only[hz,if_pos hc];obtain⟨h1,h2,h3,h⟩:=h;exact⟨_,h,h1,h2,h3,rfl⟩;exact h.elim;exact h.elim;exact h.elim
theorem TC{tt:TT}{s:St}{nx t k o:Nat}{q:Eff->Prop}(h:I7 tt s nx t k o q):∃e,q e/\I7 tt s nx t k o (·=e):=by unfold I7 at h ⊢;split at h;split at h;rename_i hc;simp only[if_pos hc];split at h;split at h;rename_i h2;exact⟨_,h,by simp only[h2]⟩;exact h.elim;exact h.elim;exact h.elim;exact h.elim
theorem TE{tt:TT}{s:St}{nx t u:Nat}{x:Operand}{q:Eff->Prop}(h:Ml tt s nx t u x q):∃e,q e/\Ml tt s nx t u x (·=e):=by unfold Ml at h ⊢;exact XT h
theorem Q9{tt:TT}{s:St}{nx t:Nat}{ps:List (Nat×Operand)}{shape:List Ty}{q:Eff->Prop}(h:IR tt s nx t ps shape q):∃e,q e/\IR tt s nx t ps shape (·=e):=by unfold IR at h ⊢;split at h;split at h;exact⟨_,h,rfl⟩;exact h.elim;exact h.elim
theorem RA{tt:TT}{s:St}{nx t len:Nat}{ps:List (Nat×Operand)}{q:Eff->Prop}(h:IQ tt s nx t len ps q):∃e,q e/\IQ tt s nx t len ps (·=e):=by unfold IQ at h;exact h.elim
theorem UZ{tt:TT}{ct:CTs}{hints:List Nat}{o:Oper}{s:St}{nx:Nat}{q:Eff->Prop}(a0:∀f c,(f,c) ∈ ct->c.alt=none)(h:xop tt ct hints o s nx q):∃e,q e/\xop tt ct hints o s nx (·=e):=by
 unfold xop at h ⊢
 repeat' (first
  |exact XT h
  |exact TE h
  |exact RA h
  |exact Q9 h
  |exact XU h
  |exact Sz h
  |exact S7 h
  |exact Q3 h
  |exact Q5 h
  |exact Q6 h
  |exact Q7 h
  |exact S8 h
  |exact XV h
  |exact Lp h
  |exact Q4 h
  |exact Vq a0 h
  |exact Q8 h
  |exact Vr h
  |exact TC h
  |exact h.elim
  |(split at h <;> simp only[*])
  |split at h)
abbrev Tr:=List (Oper×Eff)
def mem(l:List Nat)(x:Nat):Bool:=l.any (Nat.beq x)
theorem mem_iff{l:List Nat}{x:Nat} : mem l x=true<->x ∈ l:=by unfold mem;constructor;intro h;obtain⟨y,hy,e⟩:=List.any_eq_true.1 h;simp at e;subst e;exact hy;intro h;exact List.any_eq_true.2 ⟨x,h,by simp⟩
theorem GD{l:List Nat}{x:Nat} : mem l x=false<->x ∉ l:=by rw[← mem_iff];cases mem l x <;> simp
def Mp(o:Oper):List Nat:=(o.after.toList.filter (Region.binds .any)).map (·.on)
def XW:List Nat->List Nat->List Nat
 | [],acc=>acc|x::r,acc=>if mem acc x=true then XW r acc else XW r (x::acc)
def Za:List Oper->List (List Nat)->List (List Nat)
 | [],acc=>acc|o::r,acc=>Za r (acc++[XW ((Mp o).flatMap λj=>j::acc.getD j []) []])
def anc(A:List (List Nat))(i k:Nat):Bool:=mem (A.getD i []) k
def Hr(A:List (List Nat)):List Oper->Nat->Bool
 | [],_=>true|o::r,i=>
  ((Mp o).all λj=>Nat.ble (j+1) i && anc A i j && (A.getD j []).all λk=>anc A i k) &&
  ((A.getD i []).all λk=>Nat.ble (k+1) i && (Mp o).any λj=>Nat.beq j k || anc A j k) && Hr A r (i+1)
def fold(D:Nat->Bool):Tr->Nat->St->St
 | [],_,s=>s|(o,e)::r,k,s=>fold D r (k+1) (match D k with|true=>s.app o.dst e|false=>s)
def JA(A:List (List Nat))(i:Nat):List Oper->Nat->List Nat
 | [],_=>[]|o::r,k=>(match Nat.beq k i || anc A i k || anc A k i with|true=>[]|false=>o.dst.toList)++JA A i r (k+1)
def XX(ts:List Nat)(s:St)(lit:List Nat):St:={tm:=s.tm.filter λx=>!(mem ts x.1),en:=s.en,lit:=lit}
def LO:Eff:=⟨T.ofV undef,[]⟩
def KR(tr:Tr)(j:Nat)(v:T):Tr:=
 match tr[j]? with|some (o,e)=>tr.set j (o,{e with val:=v})|none=>tr
def RB(tr:Tr)(j:Nat):Option Bool:=
 match tr[j]? with|some (_,⟨.one (.one (.im (.bool b))),_⟩)=>some b|_=>none
def Vs(tr:Tr)(j:Nat):Bool:=
 match tr[j]? with|some (_,⟨.one (.one (.im (.tuple _))),_⟩)=>true|_=>false
def XZ(f:Bool)(dst:Option Tmp)(lit:List Nat):List Nat:=
 match f,dst with|true,some t=>t::lit|_,_=>lit
def stored(s:St)(o:Oper):List Nat:=
 match o.op with
 | .store _ x _=>
  match cOf s x with|some (.bp i _)=>[i]|_=>[]
 |_=>[]
def ABA(o:Oper):Bool:=
 match o.op with| .move _=>true|_=>false
def PN(s:St)(t:Nat):List Oper->Option C
 | []=>none|o::r=>
  match o.dst with
  |some t'=>match Nat.beq t t' with|true=>(match o.op with|.move x=>cOf s x|_=>none)|false=>PN s t r
  |none=>PN s t r
def ABB(s:St)(all:List Oper)(o:Oper):List Nat:=
 match o.op with
 | .call c=>
  match c.args.toList with
  | .tmp t::_=>
   match (match PN s t all with|some c=>some c|none=>cOf s (.tmp t))with
   |some (.bp i _)=>match lkp s.en i with|some (.box cs)=>(match cs.any (λc=>match c with|.ext k=>AA4 s k|_=>false)with|true=>[i]|false=>[])|_=>[]
   |_=>[]
  |_=>[]
 |_=>[]
def AAg(all:List Oper)(A:List (List Nat))(s:St)(i:Nat):List Oper->Nat->List Nat
 | [],_=>[]|o::r,k=>(match Nat.beq k i with|true=>(match ABA o with|true=>s.en.map (·.1)|false=>[])|false=>match anc A i k || anc A k i with|true=>[]|false=>stored s o++ABB s all o)++AAg all A s i r (k+1)
def JX(A:List (List Nat))(s:St)(i:Nat)(l:List Oper)(k:Nat):List Nat:=AAg l A s i l k
def GZ(us:List Nat)(s:St):St:=
 match us with| []=>s|us=>{tm:=s.tm,en:=s.en.filter λx=>!(mem us x.1),lit:=s.lit}
def I0(us:List Nat)(D:Nat->Bool):Tr->Nat->St->St
 | [],_,s=>s|(o,e)::r,k,s=>I0 us D r (k+1) (match D k with|true=>GZ us (s.app o.dst e)|false=>s)
def Hd(A:List (List Nat))(all:List Oper)(s0:St)(tr:Tr)(i:Nat)(lit:List Nat):St:=XX (JA A i all 0) (I0 (JX A s0 i all 0) (anc A i) tr 0 (GZ (JX A s0 i all 0) s0)) lit
def JY(tt:TT)(ct:CTs)(hints:List Nat)(n:Nat)(all:List Oper)(A:List (List Nat))(s0:St)(nx:Nat):List Oper->Nat->Tr->List Nat->(Tr->List Nat->Prop)->Prop
 | [],_,tr,lit,q=>q tr lit|o::r,i,tr,lit,q=>
  match LM n o with
  |false=>False|true=>
   match o.guard with
   |none=>xop tt ct hints o (Hd A all s0 tr i lit) (nx+32*i) λe=>JY tt ct hints n all A s0 nx r (i+1) (tr++[(o,e)]) (XZ (XS (Hd A all s0 tr i lit) o.op) o.dst lit) q|some (j,want)=>
    match anc A i j,C8 all j,RB tr j with
    |true,some t,some b=>
     Mm (mem lit t) (match want with|true=>b|false=>!b)
      (xop tt ct hints o (Hd A all s0 (KR tr j (T.ofV (.bool want))) i (t::lit)) (nx+32*i) λe=>
       JY tt ct hints n all A s0 nx r (i+1) (KR tr j (T.ofV (.bool want))++[(o,e)]) (XZ (XS (Hd A all s0 (KR tr j (T.ofV (.bool want))) i (t::lit)) o.op) o.dst (t::lit)) q)
      (JY tt ct hints n all A s0 nx r (i+1) (KR tr j (T.ofV (.bool (!want)))++[(o,LO)]) (t::lit) q)
    |true,some _,none=>
     match Vs tr j with|true=>JY tt ct hints n all A s0 nx r (i+1) (tr++[(o,LO)]) lit q|false=>False
    |_,_,_=>False
def AAh(x y:Oper):Bool:=
 match x.dst,y.dst with|some a,some b=>!(Nat.beq a b)|_,_=>true
def ABC(a b:List Nat):Bool:=a.all λx=>!(mem b x)
def RD(us:List Nat)(u:List (Nat×En)):Bool:=u.any λx=>En.hangs us x.2
def JB(x y:Oper×Eff):Bool:=AAh x.1 y.1 && ABC x.2.us y.2.us && !(RD y.2.us x.2.upd) && !(RD x.2.us y.2.upd)
def PO(us:List Nat)(en:List (Nat×En)):Bool:=
 match us with| []=>true|_=>en.all λx=>!(mem us x.1) && !(En.hangs us x.2)
def KS(A:List (List Nat))(us:List Nat)(i:Nat):Tr->Nat->St->Bool
 | [],_,_=>true|(o,e)::r,k,V=>
  match anc A i k with|true=>KS A us i r (k+1) (GZ us (V.app o.dst e))|false=>(match Nat.beq k i || anc A k i with|true=>true|false=>PO e.us V.en) && KS A us i r (k+1) V
def IT(A:List (List Nat))(i:Nat)(x:Oper×Eff):Tr->Nat->Bool
 | [],_=>true|y::r,k=>(Nat.ble k i || anc A k i || JB x y) && IT A i x r (k+1)
def Ga(A:List (List Nat))(s0:St)(tr:Tr):Tr->Nat->Bool
 | [],_=>true|x::r,i=>KS A (JX A s0 i (tr.map (·.1)) 0) i tr 0 (GZ (JX A s0 i (tr.map (·.1)) 0) s0) && IT A i x tr 0 && Ga A s0 tr r (i+1)
def F6:List Oper->List Nat
 | []=>[]|o::r=>o.dst.toList++F6 r
def PP(tt:TT)(ct:CTs)(hints:List Nat)(n:Nat)(all:List Oper)(s0:St)(nx:Nat)(q:St->Nat->Prop):Prop:=
 match Hr (Za all []) all 0 && GY (F6 all)with
 |false=>False|true=>JY tt ct hints n all (Za all []) s0 nx all 0 [] (s0.lit.filter λt=>!(mem (F6 all) t)) λtr lit=>
  match Ga (Za all []) s0 tr tr 0 with|false=>False|true=>q {fold (λ_=>true) tr 0 s0 with lit:=lit} (nx+32*all.length)
theorem Hs(s:St)(dst:Option Tmp)(e:Eff)(t:Nat):lkp (s.app dst e).tm t=if dst=some t then some e.val else lkp s.tm t:=by
 cases dst with|none=>simp[St.app]|some d=>simp only[St.app,Ad,Option.some.injEq]
def GE(us:List Nat)(E:En):En:=if En.hangs us E then .dead else E
theorem KT(E:En):En.hangs [] E=false:=by cases E <;> simp[En.hangs]
theorem KU(s:St)(dst:Option Tmp)(e:Eff)(i:Nat):lkp (s.app dst e).en i=(lkp e.upd i).or ((lkp s.en i).map (GE e.us)):=by
 have key:lkp (e.upd++PI e.us s.en) i=(lkp e.upd i).or ((lkp s.en i).map (GE e.us)):=by rw[FK,Qe];rfl
 simp only[St.app];cases hu:e.upd with
 |nil=>
  have a0:e.us=[]:=by simp[Eff.us,hu]
  have:GE e.us=id:=by funext E;simp[GE,a0,KT]
  rw[this];simp[lkp]
 |cons x r=>rw[hu]at key;exact key
def Vis(U:List Nat)(V S:St):Prop:=(∀t,t ∉ U->lkp V.tm t=lkp S.tm t)/\∀i E,lkp V.en i=some E->(E=.dead/\∃E',lkp S.en i=some E')\/lkp S.en i=some E
theorem Vis.refl(U:List Nat)(s:St):Vis U s s:=⟨λ_ _=>rfl,λ_ _ h=>.inr h⟩
theorem LP{us:List Nat}{l:List (Nat×En)}{i:Nat}{E:En}(h:lkp (l.filter λx=>!(mem us x.1)) i=some E):lkp l i=some E:=by
 induction l with
 |nil=>simp[lkp]at h|cons x r ih=>
  obtain⟨j,F⟩:=x;rw[Ad];by_cases hj:mem us j=true;rw[List.filter_cons_of_neg (by simp[hj])]at h;split;rename_i e;subst e;exfalso
  have:∀r:List (Nat×En),lkp (r.filter λx=>!(mem us x.1)) j≠some E:=by
   intro r;induction r with|nil=>simp[lkp]|cons y r ih2=>obtain⟨q,G⟩:=y;by_cases hq:mem us q=true;rw[List.filter_cons_of_neg (by simp[hq])];exact ih2;rw[List.filter_cons_of_pos (by simpa using hq),Ad];split;rename_i e;subst e;exact absurd hj hq;exact ih2
  exact this r h;exact ih h;rw[List.filter_cons_of_pos (by simpa using hj),Ad]at h;split;rename_i e;rw[if_pos e]at h;exact h;rename_i e;rw[if_neg e]at h;exact ih h
theorem Vis.hide(U us:List Nat)(s:St):Vis U (GZ us s) s:=by
 cases us with|nil=>exact Vis.refl U s|cons u us=>exact⟨λ_ _=>rfl,λi E h=>.inr (LP h)⟩
theorem Vis.hid{U:List Nat}{V S:St}(h:Vis U V S)(us:List Nat):Vis U (GZ us V) S:=by
 obtain⟨h1,h2⟩:=Vis.hide U us V;refine⟨λt ht=>(h1 t ht).trans (h.1 t ht),λi E hE=>?_⟩
 have:lkp V.en i=some E:=by
  cases us with|nil=>exact hE|cons u us=>exact LP hE
 exact h.2 i E this
theorem Vis.both{U:List Nat}{V S:St}(h:Vis U V S)(dst:Option Tmp)(e:Eff):Vis U (V.app dst e) (S.app dst e):=by
 refine⟨λt ht=>by rw[Hs,Hs,h.1 t ht],λi E hE=>?_⟩;rw[KU]at hE ⊢;cases hu:lkp e.upd i with
 |some E'=>rw[hu]at hE;exact .inr hE|none=>
  rw[hu,Option.none_or]at hE;rw[Option.none_or];cases hv:lkp V.en i with|none=>rw[hv]at hE;cases hE|some E0=>rw[hv]at hE;rcases h.2 i E0 hv with⟨rfl,E',h2⟩|h2;simp[GE,En.hangs]at hE;exact .inl ⟨hE.symm,by rw[h2];exact⟨_,rfl⟩⟩;rw[h2];exact .inr hE
theorem Vis.other{U:List Nat}{V S:St}(h:Vis U V S){dst:Option Tmp}{e:Eff}(hd:∀t,dst=some t->t ∈ U)(hc:PO e.us V.en=true):Vis U V (S.app dst e):=by
 have hc:∀i E,lkp V.en i=some E->i ∉ e.us/\En.hangs e.us E=false:=by intro i E hE;unfold PO at hc;split at hc;rename_i a0;rw[a0];exact⟨by simp,KT E⟩;have:=List.all_eq_true.1 hc _ (Ej hE);simp only[Bool.and_eq_true,Bool.not_eq_true']at this;exact⟨GD.1 this.1,this.2⟩
 refine⟨λt ht=>?_,λi E hE=>?_⟩;rw[Hs,if_neg (λe=>ht (hd t e)),h.1 t ht];obtain⟨c1,c2⟩:=hc i E hE;rcases h.2 i E hE with⟨h2,E',h3⟩|h2;left;refine⟨h2,?_⟩;rw[KU,h3];cases lkp e.upd i with|none=>exact⟨_,rfl⟩|some E2=>exact⟨_,rfl⟩
 right;rw[KU,h2]
 have:lkp e.upd i=none:=by
  cases hl:lkp e.upd i with|none=>rfl|some E'=>exact absurd (List.mem_map.2 ⟨_,Ej hl,rfl⟩) c1
 rw[this];simp[GE,c2]
theorem JZ{A:List (List Nat)}{us:List Nat}{i:Nat}{U:List Nat}{D:Nat->Bool}(h1:∀k,anc A i k=true->D k=true)(h2:D i=false)(h3:∀k,D k=true->anc A k i=false):∀(tr:Tr)(k:Nat)(V S:St),
  (∀q o e,tr[q]?=some (o,e)->D (k+q)=true->anc A i (k+q)=false->∀t,o.dst=some t->t ∈ U)->KS A us i tr k V=true->Vis U V S->Vis U (I0 us (anc A i) tr k V) (fold D tr k S)
 | [],k,V,S,_,_,h=>h|(o,e)::r,k,V,S,hU,hc,h=>by
  have hU' : ∀q o e,r[q]?=some (o,e)->D (k+1+q)=true->anc A i (k+1+q)=false->∀t,o.dst=some t->t ∈ U:=λq o e hq=>by have:=hU (q+1) o e (by simpa using hq);rwa [show k+(q+1)=k+1+q by omega]at this
  simp only[fold,I0];simp only[KS]at hc;cases ha:anc A i k with
  |true=>rw[ha]at hc;rw[h1 k ha];exact JZ h1 h2 h3 r (k+1) _ _ hU' hc ((h.both _ _).hid _)|false=>
   rw[ha]at hc;simp only[Bool.and_eq_true]at hc;cases hD:D k with
   |false=>exact JZ h1 h2 h3 r (k+1) _ _ hU' hc.2 h|true=>
    have a0:(Nat.beq k i || anc A k i)=false:=by
     have e1:Nat.beq k i=false:=by
      cases he:Nat.beq k i with|false=>rfl|true=>have:=Nat.eq_of_beq_eq_true he;subst this;rw[h2]at hD;cases hD
     rw[e1,h3 k hD];rfl
    rw[a0]at hc;exact JZ h1 h2 h3 r (k+1) _ _ hU' hc.2 (h.other (hU 0 o e (by simp) (by simpa using hD) (by simpa using ha)) hc.1)
def Eqv(X Y:St):Prop:=(∀t,lkp X.tm t=lkp Y.tm t)/\∀i,lkp X.en i=lkp Y.en i
theorem Eqv.refl(X:St):Eqv X X:=⟨λ_=>rfl,λ_=>rfl⟩
theorem Eqv.trans{X Y Z:St}(h:Eqv X Y)(k:Eqv Y Z):Eqv X Z:=⟨λt=>(h.1 t).trans (k.1 t),λi=>(h.2 i).trans (k.2 i)⟩
theorem Eqv.app{X Y:St}(h:Eqv X Y)(dst:Option Tmp)(e:Eff):Eqv (X.app dst e) (Y.app dst e):=
 ⟨λt=>by rw[Hs,Hs,h.1],λi=>by rw[KU,KU,h.2]⟩
theorem Eqv.fold{D:Nat->Bool} : ∀(tr:Tr)(k:Nat){X Y:St},Eqv X Y->Eqv (fold D tr k X) (fold D tr k Y)
 | [],_,_,_,h=>h|(o,e)::r,k,X,Y,h=>by
  simp only[Go.Proofs.YthoidhehmmcgnaaGreat.fold];cases D k with|true=>exact Eqv.fold r (k+1) (h.app _ _)|false=>exact Eqv.fold r (k+1) h
theorem TF(u v:List Nat)(E:En):GE u (GE v E)=GE v (GE u E):=by unfold GE;cases h1:En.hangs u E <;> cases h2:En.hangs v E <;> simp[h1,h2] <;> simp[En.hangs]
theorem Xa{x y:Oper×Eff}(h:JB x y=true)(X:St):Eqv ((X.app x.1.dst x.2).app y.1.dst y.2) ((X.app y.1.dst y.2).app x.1.dst x.2):=by
 simp only[JB,Bool.and_eq_true,Bool.not_eq_true']at h;obtain⟨⟨⟨h1,h2⟩,h3⟩,h4⟩:=h;have a0:∀i,i ∈ x.2.us->i ∉ y.2.us:=λi hi=>by have:=List.all_eq_true.1 h2 i hi;exact GD.1 (by simpa using this)
 refine⟨λt=>?_,λi=>?_⟩;simp only[Hs];unfold AAh at h1;by_cases hx:x.1.dst=some t;by_cases hy:y.1.dst=some t;rw[hx,hy]at h1;simp at h1;simp[hx,hy];simp[hx];simp only[KU];cases hx:lkp x.2.upd i with
 |some E=>
  have a1:i ∈ x.2.us:=List.mem_map.2 ⟨_,Ej hx,rfl⟩
  have hy:lkp y.2.upd i=none:=by
   cases hy:lkp y.2.upd i with|none=>rfl|some E'=>exact absurd (List.mem_map.2 ⟨_,Ej hy,rfl⟩) (a0 i a1)
  have hh:En.hangs y.2.us E=false:=by have:=List.any_eq_false.1 h3 _ (Ej hx);simpa using this
  simp[hy,GE,hh]
 |none=>
  cases hy:lkp y.2.upd i with
  |some E=>have hh:En.hangs x.2.us E=false:=(by have:=List.any_eq_false.1 h4 _ (Ej hy);simpa using this);simp[GE,hh]|none=>
   simp only[Option.none_or];cases lkp X.en i with|none=>rfl|some E=>simp only[Option.map_some];rw[TF]
theorem PQ{a b:Nat}(h:a≠b):Nat.beq a b=false:=by
 cases hb:Nat.beq a b with|false=>rfl|true=>exact absurd (Nat.eq_of_beq_eq_true hb) h
theorem KV{D:Nat->Bool}{x:Oper×Eff} : ∀(tr:Tr)(k:Nat)(X:St),(∀q y,tr[q]?=some y->D (k+q)=true->JB x y=true)->Eqv (fold D tr k (X.app x.1.dst x.2)) ((fold D tr k X).app x.1.dst x.2)
 | [],_,X,_=>Eqv.refl _|(o,e)::r,k,X,h=>by
  have h' : ∀q y,r[q]?=some y->D (k+1+q)=true->JB x y=true:=λq y hq hD=>h (q+1) y (by simpa using hq) (by rwa [show k+(q+1)=k+1+q by omega]);simp only[fold];cases hD:D k with|true=>have:=Xa (h 0 (o,e) (by simp) (by simpa using hD)) X;exact(Eqv.fold r (k+1) this).trans (KV r (k+1) _ h')|false=>exact KV r (k+1) X h'
theorem OM{D D' : Nat->Bool}{i:Nat}{x:Oper×Eff}(hi:D i=false)(hD:∀k,D' k=(D k || Nat.beq k i)):∀(tr:Tr)(k:Nat)(X:St),k<=i->tr[i-k]?=some x->(∀q y,tr[q]?=some y->i<k+q->D (k+q)=true->JB x y=true) ->
  Eqv (fold D' tr k X) ((fold D tr k X).app x.1.dst x.2)
 | [],k,X,_,hx,_=>by simp at hx|(o,e)::r,k,X,hk,hx,h=>by
  simp only[fold];by_cases a0:k=i;subst a0;simp at hx;subst hx;have e1:D' k=true:=by rw[hD];simp
  rw[e1,hi]
  have e2:∀(r:Tr)(k' : Nat)(X:St),k<k'->fold D' r k' X=fold D r k' X:=by
   intro r;induction r with|nil=>intro k' X _;rfl|cons y r ih=>intro k' X hk';obtain⟨o',e'⟩:=y;have:D' k'=D k':=(by rw[hD,PQ (by omega),Bool.or_false]);simp only[fold,this,ih (k' + 1) _ (by omega)]
  rw[e2 r (k+1) _ (by omega)];exact KV r (k+1) X λq y hq hDq=>h (q+1) y (by simpa using hq) (by omega) (by rwa [show k+(q+1)=k+1+q by omega]);have e1:D' k=D k:=by rw[hD,PQ a0,Bool.or_false]
  rw[e1];exact OM hi hD r (k+1) _ (by omega) (by rw[show i-k=(i-(k+1))+1 by omega]at hx;simpa using hx) λq y hq hlt hDq=>h (q+1) y (by simpa using hq) (by omega) (by rwa [show k+(q+1)=k+1+q by omega])
theorem Ja{us:List Nat}{D:Nat->Bool} : ∀(tr tr' : Tr)(k:Nat)(X:St),(∀q,k+tr.length<=q->D q=false)->I0 us D (tr++tr') k X=I0 us D tr k X
 | [],tr',k,X,h=>by
  simp only[List.nil_append,I0];induction tr' generalizing k X with|nil=>rfl|cons y r ih=>obtain⟨o,e⟩:=y;simp only[I0,h k (by simp)];exact ih (k+1) X (λq hq=>h q (by simp at hq ⊢;omega))
 |(o,e)::r,tr',k,X,h=>by simp only[List.cons_append,I0];exact Ja r tr' (k+1) _ λq hq=>h q (by simp at hq ⊢;omega)
theorem LQ{tr:Tr}{j:Nat}{b want:Bool}(h:RB tr j=some b)(e:b=want):KR tr j (T.ofV (.bool want))=tr:=by subst e;unfold RB at h;unfold KR;split at h;rename_i o b' u hj;simp only[Option.some.injEq]at h;subst h;rw[hj];simp only;have hl:=(List.getElem?_eq_some_iff.1 hj);obtain⟨h1,h2⟩:=hl;have e3:(o,({val:=T.ofV (.bool b'),upd:=u} : Eff))=tr[j]:=h2.symm;rw[e3,List.set_getElem_self];cases h
theorem RE{tr suf:Tr}{j:Nat}{b:Bool}(h:RB tr j=some b):RB (tr++suf) j=some b:=by unfold RB at h ⊢;split at h;rename_i o b' u hj;rw[List.getElem?_append_left (List.getElem?_eq_some_iff.1 hj).1,hj];exact h;cases h
theorem Xb{tr suf:Tr}{j:Nat}(h:Vs tr j=true):Vs (tr++suf) j=true:=by unfold Vs at h ⊢;split at h;rename_i o b' u hj;rw[List.getElem?_append_left (List.getElem?_eq_some_iff.1 hj).1,hj];cases h
def Xc(tt:TT)(ct:CTs)(hints:List Nat)(n:Nat)(all:List Oper)(A:List (List Nat))(s0:St)(nx:Nat)(TR:Tr)(i:Nat):Prop:=
 ∃o e lit,TR[i]?=some (o,e)/\all[i]?=some o/\LM n o=true /\
  match o.guard with|none=>xop tt ct hints o (Hd A all s0 TR i lit) (nx+32*i) (·=e)|some (j,want)=>anc A i j=true/\∃t,C8 all j=some t/\((Vs TR j=true/\e=LO)\/∃b,RB TR j=some b/\((b=want/\xop tt ct hints o (Hd A all s0 TR i lit) (nx+32*i) (·=e))\/(b≠want/\e=LO)))
theorem FO{A:List (List Nat)} : ∀{l:List Oper}{k i:Nat}{o:Oper},Hr A l k=true->l[i]?=some o ->
  (∀j ∈ Mp o,j<k+i/\anc A (k+i) j=true/\∀q,anc A j q=true->anc A (k+i) q=true)/\(∀q,anc A (k+i) q=true->q<k+i/\∃j ∈ Mp o,j=q\/anc A j q=true)
 | [],_,_,_,_,h=>by simp at h|o0::r,k,0,o,hc,h=>by simp at h;subst h;simp only[Hr,Bool.and_eq_true]at hc;obtain⟨⟨h1,h2⟩,-⟩:=hc;refine⟨λj hj=>?_,λq hq=>?_⟩;have:=List.all_eq_true.1 h1 j hj;simp only[Bool.and_eq_true,Nat.ble_eq]at this;exact⟨by omega,this.1.2,λq hq=>List.all_eq_true.1 this.2 q (mem_iff.1 hq)⟩;have:=List.all_eq_true.1 h2 q (mem_iff.1 hq);simp only[Bool.and_eq_true,Nat.ble_eq]at this;obtain⟨j,hj,e⟩:=List.any_eq_true.1 this.2;simp only[Bool.or_eq_true,Nat.beq_eq]at e;exact⟨by omega,j,hj,e⟩|o0::r,k,i+1,o,hc,h=>by simp only[Hr,Bool.and_eq_true]at hc;have:=FO (i:=i) hc.2 (by simpa using h);rwa [show k+1+i=k+(i+1) by omega]at this
theorem LR{tt:TT}{ct:CTs}{hints:List Nat}{n:Nat}{all:List Oper}{A:List (List Nat)}{s0:St}{nx:Nat}(a1:∀f c,(f,c) ∈ ct->c.alt=none)(hA:Hr A all 0=true):∀(r:List Oper)(i:Nat)(tr:Tr)(lit:List Nat)(q:Tr->List Nat->Prop),
 JY tt ct hints n all A s0 nx r i tr lit q->tr.length=i->(∀k,r[k]?=all[i+k]?)->∃suf lit',q (tr++suf) lit'/\suf.length=r.length/\∀k,k<r.length->Xc tt ct hints n all A s0 nx (tr++suf) (i+k)
 | [],i,tr,lit,q,h,_,_=>⟨[],lit,by simpa[JY]using h,rfl,by simp⟩|o::r,i,tr,lit,q,h,hl,a2=>by
  have ho:all[i]?=some o:=by simpa using(a2 0).symm
  have a3 : ∀k,r[k]?=all[i+1+k]?:=λk=>by have:=a2 (k+1);simpa[show i+(k+1)=i+1+k by omega]using this
  have a7:∀q,i<=q->anc A i q=false:=λq hq=>by
   cases ha:anc A i q with|false=>rfl|true=>have:=((FO hA ho).2 q (by simpa using ha)).1;omega
  have a4:∀(e:Eff)(suf:Tr)(lit:List Nat),Hd A all s0 (tr++[(o,e)]++suf) i lit=Hd A all s0 tr i lit:=λe suf lit=>by unfold Hd;rw[List.append_assoc,Ja tr _ 0 _ (λq hq=>a7 q (by omega))]
  have go:∀(e:Eff)(lit1:List Nat),JY tt ct hints n all A s0 nx r (i+1) (tr++[(o,e)]) lit1 q->(∀suf,Xc tt ct hints n all A s0 nx (tr++[(o,e)]++suf) i) ->
   ∃suf lit',q (tr++suf) lit'/\suf.length=(o::r).length/\∀k,k<(o::r).length->Xc tt ct hints n all A s0 nx (tr++suf) (i+k):=by
   intro e lit1 hx a8;obtain⟨suf,lit',q1,q2,q3⟩:=LR a1 hA r (i+1) _ _ q hx (by simp[hl]) a3;refine⟨(o,e)::suf,lit',by simpa using q1,by simp[q2],λk hk=>?_⟩;cases k with|zero=>simpa using a8 suf|succ k=>simpa[show i+(k+1)=i+1+k by omega]using q3 k (by simpa using hk)
  have a0:∀(e:Eff)(suf:Tr),(tr++[(o,e)]++suf)[i]?=some (o,e):=λe suf=>by rw[List.append_assoc,List.getElem?_append_right (by omega)];simp[hl]
  simp only[JY]at h;split at h;exact h.elim;rename_i hd;split at h;rename_i hg;obtain⟨e,he1,he2⟩:=UZ a1 h;refine go e _ he1 λsuf=>⟨o,e,lit,a0 e suf,ho,hd,?_⟩;rw[hg];simp only;rw[a4];exact he2;rename_i j want hg;split at h;rename_i t b ha ht hv;obtain⟨g1,g2⟩:=FN h;by_cases a5:b=want;have hx:=g1 (by subst a5;cases b <;> rfl);rw[LQ hv a5]at hx;obtain⟨e,he1,he2⟩:=UZ a1 hx;refine go e _ he1 λsuf=>⟨o,e,t::lit,a0 e suf,ho,hd,?_⟩;rw[hg];simp only;refine⟨ha,t,ht,.inr ⟨b,?_,.inl ⟨a5,by rw[a4];exact he2⟩⟩⟩;rw[List.append_assoc];exact RE hv;have a6 : b=!want:=by cases b <;> cases want <;> simp at a5 ⊢
  have hx:=g2 (by subst a6;cases want <;> rfl);rw[LQ hv a6]at hx;refine go LO _ hx λsuf=>⟨o,LO,lit,a0 _ suf,ho,hd,?_⟩;rw[hg];simp only;refine⟨ha,t,ht,.inr ⟨b,?_,.inr ⟨a5,trivial⟩⟩⟩;rw[List.append_assoc];exact RE hv;rename_i t ha ht hv;split at h;rename_i hu;refine go LO _ h λsuf=>⟨o,LO,lit,a0 _ suf,ho,hd,?_⟩;rw[hg];simp only;refine⟨ha,t,ht,.inl ⟨?_,trivial⟩⟩;rw[List.append_assoc];exact Xb hu;exact h.elim;exact h.elim
theorem JC{α:Type}{p:Nat->Bool} : ∀{l:List (Nat×α)}{t:Nat}{v:α},lkp (l.filter λx=>p x.1) t=some v->p t=true/\lkp l t=some v
 | [],t,v,h=>by simp[lkp]at h|(i,x)::r,t,v,h=>by rw[List.filter_cons]at h;split at h;rename_i hp;rw[Ad]at h ⊢;split at h;rename_i e;subst e;rw[if_pos rfl];exact⟨hp,h⟩;rename_i e;rw[if_neg e];exact JC h;rename_i hp;obtain⟨h1,h2⟩:=JC h;refine⟨h1,?_⟩;rw[Ad,if_neg];exact h2;intro e;subst e;exact hp h1
theorem Mq{A:List (List Nat)}{i:Nat} : ∀{l:List Oper}{k q:Nat}{o:Oper}{t:Nat},l[q]?=some o->o.dst=some t->k+q≠i->anc A i (k+q)=false->anc A (k+q) i=false->t ∈ JA A i l k
 | [],_,_,_,_,h,_,_,_,_=>by simp at h|o0::r,k,0,o,t,h,ht,h1,h2,h3=>by simp at h;subst h;simp only[JA];simp only[Nat.add_zero]at h1 h2 h3;rw[h2,h3,PQ h1];exact List.mem_append.2 (.inl (by simp[ht]))|o0::r,k,q+1,o,t,h,ht,h1,h2,h3=>by simp only[JA];refine List.mem_append.2 (.inr (Mq (q:=q) (by simpa using h) ht ?_ ?_ ?_)) <;> rw[show k+1+q=k+(q+1) by omega] <;> assumption
theorem Mr{D:Nat->Bool} : ∀{tr:Tr}{k q:Nat}{X:St}{o:Oper}{e:Eff}{t:Nat},(F6 (tr.map (·.1))).Nodup->tr[q]?=some (o,e)->o.dst=some t->D (k+q)=true->lkp (fold D tr k X).tm t=some e.val
 | [],_,_,_,_,_,_,_,h,_,_=>by simp at h|(o0,e0)::r,k,0,X,o,e,t,hn,h,ht,hD=>by
  simp at h;obtain⟨rfl,rfl⟩:=h;simp only[fold];rw[show D k=true by simpa using hD];simp only[List.map_cons,F6,ht,Option.toList_some,List.singleton_append,List.nodup_cons]at hn
  have key:∀(r:Tr)(k:Nat)(Y:St),t ∉ F6 (r.map (·.1))->lkp (fold D r k Y).tm t=lkp Y.tm t:=by
   intro r;induction r with
   |nil=>intro k Y _;rfl|cons y r ih=>
    intro k Y hn;obtain⟨o',e'⟩:=y;simp only[List.map_cons,F6,List.mem_append,not_or]at hn;simp only[fold];rw[ih (k+1) _ hn.2];cases D k with|false=>rfl|true=>simp only;rw[Hs,if_neg (λe=>hn.1 (by simp[e]))]
  rw[key r (k+1) _ hn.1,Hs,if_pos ht]
 |(o0,e0)::r,k,q+1,X,o,e,t,hn,h,ht,hD=>by simp only[fold];simp only[List.map_cons,F6]at hn;exact Mr (q:=q) (List.nodup_append.1 hn).2.1 (by simpa using h) ht (by rwa [show k+1+q=k+(q+1) by omega])
theorem Ht{A:List (List Nat)}{s0:St}{TR:Tr} : ∀{l:Tr}{k i:Nat}{x:Oper×Eff},Ga A s0 TR l k=true->l[i]?=some x->KS A (JX A s0 (k+i) (TR.map (·.1)) 0) (k+i) TR 0 (GZ (JX A s0 (k+i) (TR.map (·.1)) 0) s0)=true/\IT A (k+i) x TR 0=true
 | [],_,_,_,_,h=>by simp at h|x0::r,k,0,x,hc,h=>by simp at h;subst h;simp only[Ga,Bool.and_eq_true]at hc;exact hc.1|x0::r,k,i+1,x,hc,h=>by simp only[Ga,Bool.and_eq_true]at hc;have:=Ht (i:=i) hc.2 (by simpa using h);rwa [show k+1+i=k+(i+1) by omega]at this
theorem LS{A:List (List Nat)}{i:Nat}{x:Oper×Eff} : ∀{l:Tr}{k q:Nat}{y:Oper×Eff},IT A i x l k=true->l[q]?=some y->i<k+q->anc A i (k+q)=false->anc A (k+q) i=false->JB x y=true
 | [],_,_,_,_,h,_,_,_=>by simp at h|y0::r,k,0,y,hc,h,h1,h2,h3=>by simp at h;subst h;simp only[IT,Bool.and_eq_true,Bool.or_eq_true,Nat.ble_eq]at hc;simp only[Nat.add_zero]at h1 h2 h3;rw[h3]at hc;rcases hc.1 with (h|h)|h;omega;cases h;exact h
 |y0::r,k,q+1,y,hc,h,h1,h2,h3=>by simp only[IT,Bool.and_eq_true]at hc;refine LS (q:=q) hc.2 (by simpa using h) ?_ ?_ ?_ <;> rw[show k+1+q=k+(q+1) by omega] <;> assumption
section
variable {P : Program} {tt : TT} {ct : CTs} {Γ : Env} {n : Nat} {w0 : World} {s : St} {m : Maps} {a : Act} {w : World} {nx : Nat}
theorem R.drew{al:Nat->Prop}(h:R Γ n w0 al s m a w):R Γ n w0 al s m a {w with drawn:=w.drawn+1} where
 size:=h.size
 defers:=h.defers
 old:=h.old
 below:=h.below.drew
 tm:=h.tm
 en:=λi E hE=>by obtain⟨h1,h2,h3⟩:=h.en i E hE;exact⟨h1.keep (S:=al) (us:=[]) h2 h3 (λ_ _=>⟨rfl,rfl⟩) (by simp) (by simp) (KT E) (Nat.le_refl _) (λ_ _ _=>rfl) (λ_ _ _=>rfl),h2,h3⟩
 pos:=h.pos
 st:=h.st
 gh:=h.gh
def alD(nx N:Nat)(D:Nat->Bool)(i:Nat):Prop:=alN nx i\/∃j,j<N/\D j=true/\nx+32*j<=i/\i<nx+32*j+32
def BX(listed:Array Bool)(k:Nat):Bool:=listed.getD k false
theorem Vt(hT:TTok P tt)(aK:CTok P ct Γ.mono){hints:List Nat}{ops:Array Oper}{A:List (List Nat)}{TR:Tr}(hA:Hr A ops.toList 0=true)(hN:(F6 ops.toList).Nodup)(hTR:TR.map (·.1)=ops.toList)(h0:0<nx)
  (aL:∀i,i<ops.size->Xc tt ct hints n ops.toList A s nx TR i) (aG:Ga A s TR TR 0=true) {D D' : Nat->Bool} {i:Nat} (hi:i<ops.size) (hDi:D i=false) (hD' : ∀k,D' k=(D k || Nat.beq k i))
  (aM:∀k,D k=true->∀q,anc A k q=true->D q=true) (a5:∀q,anc A i q=true->D q=true) (hDN:∀k,D k=true->k<ops.size) (h:R Γ n w0 (alD nx ops.size D) (fold D TR 0 s) m a w) {Q:Exit->Act->World->Prop} :
  wpOp P ops Q i (λa' w'=>∃m',R Γ n w0 (alD nx ops.size D') (fold D' TR 0 s) m' a' w') a w:=by
 obtain⟨o,e,lit,hTi,aH,hd,a0⟩:=aL i hi;have aB : ops[i]?=some o:=by simpa using aH
 have hlen:TR.length=ops.size:=by have:=congrArg List.length hTR;simpa using this
 obtain⟨aC,aN⟩:=Ht aG hTi;simp only[Nat.zero_add]at aC aN
 have a1:∀k,D k=true->anc A k i=false:=λk hk=>by
  cases ha:anc A k i with|false=>rfl|true=>have:=aM k hk i ha;rw[hDi]at this;cases this
 have a2:∀{q:Nat}{o' : Oper}{e' : Eff},TR[q]?=some (o',e')->ops.toList[q]?=some o':=λ{q o' e'} hq=>by rw[← hTR,List.getElem?_map,hq];rfl
 rw[hTR]at aC;have a6:Vis (JA A i ops.toList 0) (I0 (JX A s i ops.toList 0) (anc A i) TR 0 (GZ (JX A s i ops.toList 0) s)) (fold D TR 0 s):=by refine JZ (D:=D) a5 hDi a1 TR 0 (GZ (JX A s i ops.toList 0) s) s (λq o' e' hq hDq aI t ht=>?_) aC (Vis.hide _ _ _);simp only[Nat.zero_add]at hDq aI;refine Mq (a2 hq) ht ?_ ?_ ?_ <;> simp only[Nat.zero_add];intro e;subst e;rw[hDi]at hDq;cases hDq;exact aI;exact a1 q hDq
 have a3:∀lit,R Γ n w0 (alD nx ops.size D) (Hd A ops.toList s TR i lit) m a w:=λlit=>by refine h.less ?_ ?_;intro t v hv;simp only[Hd,XX]at hv;obtain⟨p1,p2⟩:=JC (p:=λt=>!(mem (JA A i ops.toList 0) t)) hv;rw[← a6.1 t (GD.1 (by simpa using p1))];exact p2;intro j E hE;rcases a6.2 j E hE with⟨h1,E',h2⟩|h1;exact .inl ⟨h1,(h.en _ _ h2).2.1⟩;exact .inr h1
 have a4:∀(e:Eff)(m' : Maps)(a' : Act)(w' : World),TR[i]?=some (o,e)->Stp Γ (alD nx ops.size D) (λj=>nx+32*i<=j/\j<nx+32*i+32) o.dst m a w e m' a' w'->∃m',R Γ n w0 (alD nx ops.size D') (fold D' TR 0 s) m' a' w':=by
  intro e m' a' w' hTi' hs;have hr:=Stp.r h hs (by omega) (Mn hd)
  have aJ:=OM (D:=D) (D':=D') (i:=i) (x:=(o,e)) hDi hD' TR 0 s (Nat.zero_le _) (by simpa using hTi') (λq y hq aO hDq=>by
   simp only[Nat.zero_add]at aO hDq;have a7:=(Ht aG hTi').2;simp only[Nat.zero_add]at a7
   exact LS a7 hq (by omega) (by
    cases ha:anc A i (0+q)with|false=>rfl|true=>have:=((FO hA aH).2 (0+q) (by simpa using ha)).1;omega) (by simpa using a1 q hDq))
  refine⟨m',(hr.more (al':=alD nx ops.size D') ?_ ?_).less (λt v hv=>by rw[← aJ.1];exact hv) (λj E hE=>.inr (by rw[← aJ.2];exact hE))⟩;intro j hj;rcases hj with (hj|⟨k,h1,h2,h3⟩)|hj;exact .inl hj;exact .inr ⟨k,h1,by rw[hD',h2];rfl,h3⟩;exact .inr ⟨i,hi,by rw[hD'];simp,hj⟩;rintro (hj|⟨k,_,_,h3,_⟩);exact absurd hj.1 (by omega);omega
 have aP:∀j,alD nx ops.size D j->¬(nx+32*i<=j/\j<nx+32*i+32):=by
  rintro j (hj|⟨k,h1,h2,h3,h4⟩) hx;have:=hj.2;omega;have:k=i:=by omega
  subst this;rw[hDi]at h2;cases h2
 have a8:∀lit,xop tt ct hints o (Hd A ops.toList s TR i lit) (nx+32*i) (·=e)->o.wp P a w (λa' w'=>∃m',R Γ n w0 (alD nx ops.size D') (fold D' TR 0 s) m' a' w') Q:=λlit hx=>by have hs:=XQ (o:=o) (fr:=λj=>nx+32*i<=j/\j<nx+32*i+32) hT aK (a3 lit) hints aP (λj h1 h2=>⟨h1,h2⟩) _ hx Q;refine Oper.wp_mono ?_ hs;rintro a' w' ⟨e',m',rfl,aD⟩;exact a4 _ m' a' w' hTi aD
 unfold wpOp;simp only[aB];cases hg:o.guard with
 |none=>rw[hg]at a0;rw[if_pos (by simp[Region.wanted,hg])];exact .inl (a8 lit a0)|some jw=>
  obtain⟨j,want⟩:=jw;rw[hg]at a0;obtain⟨ha,t,ht,a0⟩:=a0;have hDj:=a5 j ha;rcases a0 with⟨hu,rfl⟩|⟨b,hv,a9⟩
  have aA:∃x,a.tmps.getD t undef=.tuple x:=by
   unfold Vs at hu;split at hu;rename_i oj x u hj;have aE:oj.dst=some t:=by unfold C8 at ht;rw[a2 hj]at ht;simpa using ht
   have:=Mr (D:=D) (k:=0) (X:=s) (by rw[hTR];exact hN) hj aE (by simpa using hDj);exact⟨x,(h.tm _ _ this).1⟩;cases hu
  obtain⟨x,aA⟩:=aA;rw[I9 rfl hg ht aA];simp only[Bool.false_eq_true,if_false];exact a4 _ m _ _ hTi (Stp.skip h)
  have aA:a.tmps.getD t undef=.bool b:=by
   unfold RB at hv;split at hv;rename_i oj b' u hj;simp only[Option.some.injEq]at hv;subst hv;have aE:oj.dst=some t:=by unfold C8 at ht;rw[a2 hj]at ht;simpa using ht
   have:=Mr (D:=D) (k:=0) (X:=s) (by rw[hTR];exact hN) hj aE (by simpa using hDj);exact(h.tm _ _ this).1;cases hv
  rw[KQ rfl hg ht aA];rcases a9 with⟨aF,hx⟩|⟨aF,rfl⟩;subst aF;simp only[beq_self_eq_true,if_true];exact .inl (a8 lit hx);have aQ:(b == want)=false:=by simpa using aF
  rw[aQ];simp only[Bool.false_eq_true,if_false];exact a4 _ m _ _ hTi (Stp.skip h)
end
def cnt(l:List Bool):Nat:=(l.filter (!·)).length
theorem Ua:∀{l:List Bool}{i:Nat},l[i]?=some false->cnt (l.set i true)+1=cnt l
 | [],_,h=>by simp at h|x::r,0,h=>by simp at h;subst h;simp[cnt]|x::r,i+1,h=>by have:=Ua (l:=r) (i:=i) (by simpa using h);cases x <;> simp[cnt]at this ⊢ <;> omega
theorem Ub:∀{l:List Bool}{i:Nat},l[i]?=some false->0<cnt l
 | [],_,h=>by simp at h|x::r,0,h=>by simp at h;subst h;simp[cnt]|x::r,i+1,h=>by have:=Ub (l:=r) (i:=i) (by simpa using h);cases x <;> simp[cnt]at this ⊢ <;> omega
section
variable {P : Program} {tt : TT} {ct : CTs} {Γ : Env} {n : Nat} {w0 : World} {s : St} {m : Maps} {a : Act} {w : World} {nx : Nat}
theorem ON{ops:Array Oper}{listed:Array Bool}(hs:listed.size=ops.size){i:Nat}(h:i ∈ Region.ready .any ops listed) :
  i<ops.size/\BX listed i=false/\∀o,ops[i]?=some o->∀j ∈ Mp o,BX listed j=true:=by
 simp only[Region.ready,List.mem_filter,List.mem_range,Bool.and_eq_true,Bool.not_eq_true']at h;obtain⟨h1,h2,h3⟩:=h;refine⟨h1,?_,λo ho j hj=>?_⟩;unfold BX;rw[Array.getD_eq_getD_getElem?]at h2 ⊢;rw[Array.getElem?_eq_getElem (by omega)]at h2 ⊢;simpa using h2;rw[ho]at h3;simp only[Option.map_some,Option.getD_some]at h3;obtain⟨e,he,rfl⟩:=List.mem_map.1 hj;obtain⟨he1,he2⟩:=List.mem_filter.1 he;have:=Array.all_eq_true_iff_forall_mem.1 h3 e (by simpa using he1);simp only[Bool.or_eq_true,Bool.not_eq_true']at this;rcases this with h|h;rw[he2]at h;cases h;exact h
theorem Xd{ops:Array Oper}{listed:Array Bool}(hs:listed.size=ops.size){i:Nat}{o:Oper}(hi:ops[i]?=some o)(hd:BX listed i=false)(h:∀j ∈ Mp o,BX listed j=true):i ∈ Region.ready .any ops listed:=by
 have a0:i<ops.size:=(Array.getElem?_eq_some_iff.1 hi).1;simp only[Region.ready,List.mem_filter,List.mem_range,Bool.and_eq_true,Bool.not_eq_true'];refine⟨a0,?_,?_⟩;unfold BX at hd;rw[Array.getD_eq_getD_getElem?]at hd ⊢;rw[Array.getElem?_eq_getElem (by omega)]at hd ⊢;simpa using hd;rw[hi];simp only[Option.map_some,Option.getD_some];refine Array.all_eq_true_iff_forall_mem.2 λe he=>?_;simp only[Bool.or_eq_true,Bool.not_eq_true'];cases hb:Region.binds .any e with|false=>exact .inl rfl|true=>exact .inr (h _ (List.mem_map.2 ⟨e,List.mem_filter.2 ⟨by simpa using he,hb⟩,rfl⟩))
theorem Xe(hT:TTok P tt)(a7:CTok P ct Γ.mono){hints:List Nat}{ops:Array Oper}{A:List (List Nat)}{TR:Tr}(hA:Hr A ops.toList 0=true)(hN:(F6 ops.toList).Nodup)(hTR:TR.map (·.1)=ops.toList)(h0:0<nx)
  (a8:∀i,i<ops.size->Xc tt ct hints n ops.toList A s nx TR i) (a9:Ga A s TR TR 0=true) {Q:Exit->Act->World->Prop} (hQ:∀m a w,R Γ n w0 (alN (nx+32*ops.size)) (fold (λ_=>true) TR 0 s) m a w->Q .normal a w) :
  ∀(fuel:Nat)(listed:Array Bool){m:Maps}{a:Act}{w:World},listed.size=ops.size->cnt listed.toList<=fuel->(∀k,BX listed k=true->∀q,anc A k q=true->BX listed q=true) ->
   R Γ n w0 (alD nx ops.size (BX listed)) (fold (BX listed) TR 0 s) m a w->wpAny P .any ops Q fuel listed a w:=by
 have hlen:TR.length=ops.size:=by have:=congrArg List.length hTR;simpa using this
 have a0:∀(listed:Array Bool)(m:Maps)(a:Act)(w:World),listed.size=ops.size->Region.ready .any ops listed=[]->R Γ n w0 (alD nx ops.size (BX listed)) (fold (BX listed) TR 0 s) m a w->Q .normal a w:=by
  intro listed m a w hs hr h
  have a5:∀i,i<ops.size->BX listed i=true:=by
   intro i;induction i using Nat.strongRecOn with
   |_ i ih=>
    intro hi;cases hd:BX listed i with
    |true=>rfl|false=>
     have ho:ops[i]?=some ops[i]:=Array.getElem?_eq_getElem hi;have:=Xd hs ho hd λj hj=>by have hj':=((FO (i:=i) (o:=ops[i]) hA (by rw[Array.getElem?_toList];exact ho)).1 j hj).1;exact ih j (by omega) (by omega)
     rw[hr]at this;cases this
  have hf:∀(tr:Tr)(k:Nat)(X:St),k+tr.length<=ops.size->fold (BX listed) tr k X=fold (λ_=>true) tr k X:=by
   intro tr;induction tr with|nil=>intro k X _;rfl|cons y r ih=>intro k X hk;obtain⟨o,e⟩:=y;simp only[List.length_cons]at hk;simp only[fold,a5 k (by omega)];exact ih (k+1) _ (by omega)
  rw[hf TR 0 s (by omega)]at h;refine hQ m a w (h.more ?_ ?_);rintro j (hj|⟨k,h1,_,h3,h4⟩);unfold alN at *;omega;unfold alN;omega;unfold alN;omega
 intro fuel;induction fuel with
 |zero=>
  intro listed m a w hs hc a4 h
  have hr:Region.ready .any ops listed=[]:=by
   cases hr:Region.ready .any ops listed with
   |nil=>rfl|cons i r=>
    obtain⟨h1,h2,-⟩:=ON hs (i:=i) (by rw[hr];simp);have:listed.toList[i]?=some false:=by unfold BX at h2;rw[Array.getD_eq_getD_getElem?,Array.getElem?_eq_getElem (by omega)]at h2;rw[Array.getElem?_toList,Array.getElem?_eq_getElem (by omega)];simpa using h2
    have:=Ub this;omega
  exact⟨hr,a0 listed m a w hs hr h⟩
 |succ fuel ih=>
  intro listed m a w hs hc a4 h;refine⟨λhr=>a0 listed m a w hs hr h,λi hi=>?_⟩;obtain⟨h1,h2,h3⟩:=ON hs hi;have ho:ops[i]?=some ops[i]:=Array.getElem?_eq_getElem h1;have a1:∀q,anc A i q=true->BX listed q=true:=λq hq=>by obtain⟨-,j,hj,e⟩:=(FO (i:=i) (o:=ops[i]) hA (by rw[Array.getElem?_toList];exact ho)).2 q (by simpa using hq);have a6:=h3 _ ho j hj;rcases e with rfl|e;exact a6;exact a4 j a6 q e
  have a2:∀k,BX (listed.setIfInBounds i true) k=(BX listed k || Nat.beq k i):=λk=>by unfold BX;rw[Array.getD_eq_getD_getElem?,Array.getD_eq_getD_getElem?];by_cases hk:k=i;subst hk;rw[Array.getElem?_setIfInBounds_self_of_lt (by omega)];simp;rw[Array.getElem?_setIfInBounds_ne (λe=>hk e.symm),PQ hk,Bool.or_false]
  have hDN:∀k,BX listed k=true->k<ops.size:=λk hk=>by rcases Nat.lt_or_ge k ops.size with h|h;exact h;unfold BX at hk;rw[Array.getD_eq_getD_getElem?,Array.getElem?_eq_none (by omega)]at hk;cases hk
  have a3:=Vt (D:=BX listed) (D':=BX (listed.setIfInBounds i true)) (Q:=Q) hT a7 hA hN hTR h0 a8 a9 h1 h2 a2 a4 a1 hDN h;refine wpOp_mono ?_ a3;rintro a' w' ⟨m',h'⟩;refine ih _ (by simp[hs]) ?_ ?_ h';have:listed.toList[i]?=some false:=by unfold BX at h2;rw[Array.getD_eq_getD_getElem?,Array.getElem?_eq_getElem (by omega)]at h2;rw[Array.getElem?_toList,Array.getElem?_eq_getElem (by omega)];simpa using h2
  have:=Ua this;rw[Array.toList_setIfInBounds];omega;intro k hk q hq;rw[a2,Bool.or_eq_true]at hk ⊢;rcases hk with hk|hk;exact .inl (a4 k hk q hq);obtain rfl:=Nat.eq_of_beq_eq_true hk;exact .inl (a1 q hq)
theorem R.lits{al:Nat->Prop}(h:R Γ n w0 al s m a w)(lit:List Nat):R Γ n w0 al {s with lit:=lit} m a w:=h.eq rfl rfl
theorem Jb(hm:P.follows .mixedOrders=true)(hT:TTok P tt)(a2:CTok P ct Γ.mono)(a0:∀f c,(f,c) ∈ ct->c.alt=none){hints:List Nat}{id:Nat}{ops:Array Oper}{q:St->Nat->Prop}(hx:PP tt ct hints n ops.toList s nx q)(h0:0<nx)(h:R Γ n w0 (alN nx) s m a w){Q:Exit->Act->World->Prop}
  (hQ:∀s' nx' m' a' w',0<nx'->q s' nx'->R Γ n w0 (alN nx') s' m' a' w'->Q .normal a' w'):(Code.region id ops true).wp P Q a w:=by
 unfold PP at hx;split at hx;exact hx.elim;rename_i hc;simp only[Bool.and_eq_true]at hc;obtain⟨hA,hN⟩:=hc;obtain⟨TR,lit,hq,hl,a1⟩:=LR a0 hA _ 0 [] _ _ hx rfl (λk=>by simp);simp only[List.nil_append,Nat.zero_add]at hq a1;split at hq;exact hq.elim;rename_i a3;have hTR:TR.map (·.1)=ops.toList:=by apply List.ext_getElem?;intro i;by_cases hi:i<ops.toList.length;obtain⟨o,e,lit,h1,h2,-⟩:=a1 i hi;rw[List.getElem?_map,h1,h2];rfl;rw[List.getElem?_eq_none (by simp[hl]at hi ⊢;omega),List.getElem?_eq_none (by omega)]
 refine wp_region_any hm (Xe hT a2 hA (Ex hN) hTR h0 (λi hi=>a1 i (by simpa using hi)) a3 (λm' a' w' h'=>hQ _ _ m' a' w' (by omega) hq (by rw[Array.length_toList];exact h'.lits lit)) ops.size _ (by simp) ?_ ?_ (m:=m) ?_);have:∀l:List Bool,cnt l<=l.length:=λl=>List.length_filter_le _ _;exact Nat.le_trans (this _) (by simp);intro k hk;exfalso;unfold BX at hk;rw[Array.getD_eq_getD_getElem?]at hk;rw[Array.getElem?_replicate]at hk;split at hk <;> cases hk
 have hf:∀(tr:Tr)(k:Nat)(X:St),fold (BX (Array.replicate ops.size false)) tr k X=X:=by
  intro tr;induction tr with
  |nil=>intro k X;rfl|cons y r ih=>
   intro k X;obtain⟨o,e⟩:=y;have:BX (Array.replicate ops.size false) k=false:=by unfold BX;rw[Array.getD_eq_getD_getElem?];rw[Array.getElem?_replicate];split <;> rfl
   simp only[fold,this];exact ih _ _
 rw[hf];exact h.drew.more (λi hi=>.inl hi) (by rintro (hj|⟨k,_,_,h3,_⟩);exact absurd hj.1 (by omega);omega)
end
end Go.Proofs.YthoidhehmmcgnaaGreat
