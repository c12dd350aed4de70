import Derived.Test.YtkffpiaagjcmpaaGreatFrExC
import Derived.Deep.Slices
import Derived.OpenShut
namespace Go.Proofs.YtkffpiaagjcmpaaGreat
set_option linter.unusedVariables false
set_option linter.unusedSimpArgs false
open Go.RowKit Go.Deep Go.ChangeShapes Go.WideShapes
mutual
def Dat.fit:Dat->Prop
 | .int n=>-9223372036854775808<=n/\n<=9223372036854775807
 | .sl ls=>Tv ls
 | _=>True
def fitRow:List Dat->Prop
 | []=>True
 | d::ds=>d.fit/\fitRow ds
def Tv:List (List Dat)->Prop
 | []=>True
 | r::rs=>fitRow r/\Tv rs
end
theorem fitRow.app:∀ {a b:List Dat},fitRow a->fitRow b->fitRow (a++b)
 | [],_,_,h=>h
 | _::_,_,h,h2=>by simp only [List.cons_append,fitRow] at h ⊢;exact ⟨h.1,fitRow.app h.2 h2⟩
section
variable {P : Program} {tt : TT} {H : Type} {enc : TypeId × Value → H} {w : World} {spare : Nat → Bool} {held : Bool}
theorem TIok.cellsOf {t:Nat} {i:TI} (h:TIok P t i):P.cellsOf t=i.size:=by
 obtain ⟨inf,h1,h2,_⟩:=h.info
 simp [Program.cellsOf,h1,h2]
theorem QO {a:Addr} {v:Value} (h:w.cell? a=some v):∃ b off,a=⟨b,off,none⟩/\b<w.heap.size:=by
 obtain ⟨b,off,s⟩:=a
 have:=World.cell?_spot h
 simp at this
 subst this
 exact ⟨b,off,rfl,World.block_lt_of_cell? w ⟨b,off,none⟩ h⟩
theorem Y3 {b off n:Nat} : (⟨b,off,none⟩:Addr).add n=⟨b,off+n,none⟩:=by
 unfold Addr.add
 split
 ·rename_i h;subst h;rfl
 ·rfl
end
end Go.Proofs.YtkffpiaagjcmpaaGreat
namespace Go.Proofs.YtkffpiaagjcmpaaGreat
set_option linter.unusedVariables false
set_option linter.unusedSimpArgs false
open Go.RowKit Go.Deep Go.ChangeShapes Go.WideShapes
section
variable {P : Program}
theorem VG {w:World} {r:Reach} {base:Nat} {t e:TypeId} {v:Value} (ht:P.underlying t=some (.slice e)) (h:Value.okWide P w r base t v):v.cells.toList=[v]:=by
 simp only [Value.okWide,ht,Cell.okWide] at h
 cases v <;> simp_all [Cell.ok,Value.cells]
theorem ST {w:World} {d:DC} {u:Value} (h:Rd w d.ty d.dat u) (hok:d.ok=true):CT (λ b=>b<w.heap.size) w d u:=by
 cases d with
 | sl e ts rows=>exact RdS.of_rd _ _ _ h
 | ro d=>cases hok
 | im v=>
  have h2:=Fp.rd _ _ _ _ (DC.im_ok hok w)
  simp only [CT]
  unfold DC.ok at hok
  split at hok <;> first|cases hok|skip
  all_goals simp_all [DC.ty,DC.dat,Rd]
theorem KH {w:World} : ∀ {dcs:List DC} {us:List Value},RdRow w (dcs.map DC.ty) (dcs.map DC.dat) us->dcs.all DC.ok=true->us.length=dcs.length/\∀ (p:Nat) (d:DC) (u:Value),dcs[p]?=some d->us[p]?=some u->CT (λ b=>b<w.heap.size) w d u
 | [],us,h,_=>by obtain ⟨-,rfl⟩:=RdRow.nil_inv h;simp
 | d::ds,us,h,hok=>by
  simp only [List.all_cons,Bool.and_eq_true] at hok
  obtain ⟨u,us,rfl,h1,h2⟩:=RdRow.cons2 (by simpa using h)
  obtain ⟨i1,i2⟩:=KH h2 hok.2
  refine ⟨by simp [i1],λ p d' u' hp hu=>?_⟩
  cases p with
  | zero=>simp only [List.getElem?_cons_zero,Option.some.injEq] at hp hu;subst hp;subst hu;exact ST h1 hok.1
  | succ p=>exact i2 p d' u' (by simpa using hp) (by simpa using hu)
theorem XO {cs:List DC} {r:List DA} {l us:List Value} (h:l.length=cs.length):A3 (.agg cs::r) (l++us)=.agg l.toArray::A3 r us:=by
 simp only [A3]
 rw [List.take_left' h,List.drop_left' h]
end
end Go.Proofs.YtkffpiaagjcmpaaGreat
namespace Go.Proofs.YtkffpiaagjcmpaaGreat
set_option linter.unusedVariables false
set_option linter.unusedSimpArgs false
open Go.RowKit
section
variable {P : Program} {f : Nat}
theorem Bv {c:Con} (hmu:c.mu=[]) (en:ABJ P f) (hs:∀ i,(c.res i).cells.length<=32) (hok:∀ i,((c.args i).flatMap DA.cells).all DC.ok=true) (out:c.ι->List DC) (hout:∀ i,(c.res i).cells=(out i).map DC.rc) (hoo:∀ i,(out i).all DC.ok=true)
  (hc:∀ i,c.pre i->∀ w us,RdRow w (((c.args i).flatMap DA.cells).map DC.ty) (((c.args i).flatMap DA.cells).map DC.dat) us->Calls P f (A3 (c.args i) us).toArray w λ e w'=>∃ rs,e=.returned ((c.res i).val rs)/\Own w' w.heap.size w'.heap.size ((out i).map DC.ty) ((out i).map DC.dat) rs/\Below w.heap.size w w') (hqm:c.mono=false:=by rfl):c.Ok P f where
 enter:=en
 small:=hs
 calls:=by
  intro i hp F w us mb h
  rw [hmu] at h
  refine (hc i hp w us (XM h (hok i))).mono ?_
  rintro e w' ⟨rs,rfl,ho,hb⟩
  obtain ⟨bs,hpost⟩:=XN (c:=c) (i:=i) (F:=F) (us:=us) (mb:=mb) hmu (hout i) hb ho rfl (hoo i)
  exact ⟨rs,bs,rfl,hpost⟩
 quiet:=λ h=>by rw [hqm] at h;cases h
theorem Con.Ok.rd {c:Con} (hc:c.Ok P f) (hmu:c.mu=[]) (i:c.ι) (hp:c.pre i) {ts:List Ty} {ds:List Dat} {us:List Value} {w:World} (h:RdRow w ts ds us) (hst:Stood w)
  (hts:Ty.eras ts=Ty.eras (((c.args i).flatMap DA.cells).map DC.ty)) (hds:ds=((c.args i).flatMap DA.cells).map DC.dat) (hok:((c.args i).flatMap DA.cells).all DC.ok=true) {v:Value} (hres:c.res i=⟨false,[none],[.im v]⟩) :
  Calls P f (A3 (c.args i) us).toArray w λ e w'=>e=.returned v/\Below w.heap.size w w':=by
 subst hds
 obtain ⟨h1,h2⟩:=KH (h.cast hts) hok
 refine (hc.calls i hp (λ b=>b<w.heap.size) w us (λ _=>[]) ⟨h1,λ _ h=>h,λ p d u hd hu _=>h2 p d u hd hu,λ j p hj=>?_,λ a b x _ _ _ hx=>by simp at hx,λ j b _ hb=>by simp at hb,hst,λ j b _ hb=>by simp at hb⟩).mono ?_
 ·rw [hmu] at hj;simp at hj
 ·rintro e w' ⟨rs,bs,rfl,hpost⟩
  have hr:=hpost.res
  rw [hres] at hr
  refine ⟨?_,hpost.os,hpost.tape,hpost.output,hpost.size,λ b hb=>hpost.keep b hb (λ j hj=>by rw [hmu] at hj;simp at hj)⟩
  rw [hres]
  cases rs with
  | nil=>simp [A6] at hr
  | cons u us=>
   simp only [A6] at hr
   obtain ⟨rfl,hr⟩:=hr
   rfl
theorem If {w:World} {us:List Value} {t:List Ty} {x:Ty} {ds:List Dat} {dx:Dat} (h:RdRow w (t++[x]) (ds++[dx]) us) (hl:t.length=ds.length):∃ cs v,us=cs++[v]/\RdRow w t ds cs/\Rd w x dx v/\∀ (cells:List DC) (d:DC),cells.length=ds.length->A3 [.agg cells,.one d] us=[.agg cs.toArray,v]:=by
 obtain ⟨h1,h2⟩:=RdRow.split hl h
 obtain ⟨v,vs,e,h3,h4⟩:=RdRow.cons2 h2
 obtain ⟨-,rfl⟩:=RdRow.nil_inv h4
 have hu:us=us.take ds.length++[v]:=by rw [← e,List.take_append_drop]
 refine ⟨us.take ds.length,v,hu,h1,h3,λ cells d hc=>?_⟩
 have hlen:=(RdRow.lens _ _ _ h1).2
 have hlen1:=(RdRow.lens _ _ _ h1).1
 conv=>lhs;rw [hu]
 rw [XO (by omega)]
 rfl
theorem FQ {cells:List DC} {us:List Value} (h:us.length=cells.length):A3 [.agg cells] us=[.agg us.toArray]:=by
 simp only [A3]
 rw [List.take_of_length_le (by omega)]
end
end Go.Proofs.YtkffpiaagjcmpaaGreat
namespace Go.Proofs.YtkffpiaagjcmpaaGreat
set_option linter.unusedVariables false
set_option linter.unusedSimpArgs false
open Go.RowKit
theorem AR {a b:Int} {k:IntKind} (h:a=b):Value.int k a=Value.int k b:=by rw [h]
def Ty.num:Ty->Bool
 | .int=>true
 | .bool=>true
 | _=>false
theorem Y4 {e:Nat} {ts:List Ty} {l:List (List Dat)} (h:Dat.has (.sl e ts) (.sl l)):l.length<=9223372036854775807:=by
 simp only [Dat.has] at h;exact h.1
theorem hasRow.cons {t:Ty} {ts:List Ty} {ds:List Dat} (h:hasRow (t::ts) ds):∃ d ds',ds=d::ds'/\Dat.has t d/\hasRow ts ds':=by
 cases ds with
 | nil=>simp [hasRow] at h
 | cons d ds=>exact ⟨d,ds,rfl,by simpa [hasRow] using h⟩
theorem hasRow.nil {ds:List Dat} (h:hasRow [] ds):ds=[]:=by cases ds <;> simp [hasRow] at h ⊢
end Go.Proofs.YtkffpiaagjcmpaaGreat
namespace Go.Proofs.YtkffpiaagjcmpaaGreat
set_option linter.unusedVariables false
set_option linter.unusedSimpArgs false
open Go.RowKit
mutual
def Ty.K:Ty->Nat
 | .sl _ ts=>Mt ts
 | _=>1
def Mt:List Ty->Nat
 | []=>0
 | t::ts=>t.K+Mt ts
end
mutual
theorem AAb:∀ (t:Ty) (d:Dat),Dat.has t d->d.cnt<=t.K*(1+d.sz)
 | .int,d,h=>by cases d <;> simp [Dat.has,Dat.cnt,Ty.K] at h ⊢
 | .bool,d,h=>by cases d <;> simp [Dat.has,Dat.cnt,Ty.K] at h ⊢
 | .str,d,h=>by cases d <;> simp [Dat.has,Dat.cnt,Ty.K] at h ⊢
 | .sl e ts,d,h=>by
  cases d with
  | sl ls=>
   simp only [Dat.has] at h
   simp only [Dat.cnt,Ty.K,Dat.sz]
   have key:∀ k,k<=ls.length->CB (ls.take k)<=Mt ts*(k+Du (ls.take k)):=by
    intro k
    induction k with
    | zero=>intro _;simp [CB]
    | succ k ih=>
     intro hk
     rw [OL ls k (by omega),PM ls k (by omega)]
     have h1:=ih (by omega)
     have h2:=Jh ts _ (h.2 k (by omega))
     rw [Nat.mul_add] at h1 h2
     rw [Nat.mul_add,Nat.mul_add,Nat.mul_add]
     omega
   have:=key ls.length (Nat.le_refl _)
   rw [List.take_length] at this
   refine Nat.le_trans this ?_
   exact Nat.mul_le_mul_left _ (by omega)
  | _=>simp [Dat.has] at h
theorem Jh:∀ (ts:List Ty) (ds:List Dat),hasRow ts ds->FJ ds<=Mt ts*(1+EK ds)
 | [],ds,h=>by cases ds <;> simp [hasRow,FJ] at h ⊢
 | t::ts,[],h=>by simp [hasRow] at h
 | t::ts,d::ds,h=>by
  simp only [hasRow] at h
  have h1:=AAb t d h.1
  have h2:=Jh ts ds h.2
  simp only [FJ,Mt,EK]
  have h3:t.K*(1+d.sz)<=t.K*(1+(d.sz+EK ds)):=Nat.mul_le_mul_left _ (by omega)
  have h4:Mt ts*(1+EK ds)<=Mt ts*(1+(d.sz+EK ds)):=Nat.mul_le_mul_left _ (by omega)
  rw [Nat.add_mul]
  omega
end
theorem KI:∀ ds:List Dat,cntV ds<=FJ ds
 | []=>Nat.le_refl _
 | d::ds=>by
  simp only [cntV,FJ]
  have:=KI ds
  have:d.cntV<=d.cnt:=by cases d <;> simp [Dat.cntV,Dat.cnt]
  omega
theorem SU {ts:List Ty} {ds:List Dat} (h:hasRow ts ds) (hs:EK ds<=1048576) (hK:Mt ts<=1000):(cntV ds:Int)<=2000000000:=by
 have h1:=KI ds
 have h2:=Jh ts ds h
 have h3:Mt ts*(1+EK ds)<=1000*(1+EK ds):=Nat.mul_le_mul_right _ hK
 omega
def Y5 (e:Nat):List Ty:=[.int,.bool,.sl e [.int],.sl e [.int],.bool,.sl e [.int],.sl e [.int]]
def plGood (e:Nat) (p:PlD):Prop:=(∃ w vs,RdRow w (Y5 e) p.row vs)/\EK p.row<=1048576
theorem plGood.has {e:Nat} {p:PlD} (h:plGood e p):hasRow (Y5 e) p.row:=by obtain ⟨⟨w,vs,h⟩,_⟩:=h;exact RdRow.has _ _ _ h
theorem plGood.ok {e:Nat} {p:PlD} (h:plGood e p):p.ok:=by
 have:=h.2
 simp only [PlD.row,EK,Dat.sz] at this
 refine ⟨⟨?_,?_⟩,⟨?_,?_⟩⟩ <;> omega
theorem plGood.cnt {e:Nat} {p:PlD} (h:plGood e p):(cntV p.row:Int)<=2000000000:=SU h.has h.2 (by simp [Mt,Y5,Ty.K])
theorem plGood.at {e:Nat} {p:PlD} (n:Int) (h:plGood e p):plGood e ⟨n,p.pt⟩:=by
 obtain ⟨⟨w,vs,h⟩,hs⟩:=h
 refine ⟨?_,by simpa [PlD.row,EK,Dat.sz] using hs⟩
 simp only [PlD.row,Y5] at h ⊢
 obtain ⟨v,vs,rfl,h1,h2⟩:=RdRow.cons2 h
 exact ⟨w,.int .i64 n::vs,RdRow.mk_cons (Rd.mk_int n) h2⟩
theorem plGood.after {e:Nat} {q x:PlD} (hq:plGood e q) (hx:plGood e x):plGood e (XL q x):=by
 unfold XL
 split
 ·exact hx.at q.h
 ·split
  ·exact hq.at _
  ·exact hq
end Go.Proofs.YtkffpiaagjcmpaaGreat
namespace Go.Proofs.YtkffpiaagjcmpaaGreat
set_option linter.unusedVariables false
set_option linter.unusedSimpArgs false
open Go.RowKit
end Go.Proofs.YtkffpiaagjcmpaaGreat
namespace Go.Proofs.YtkffpiaagjcmpaaGreat
set_option linter.unusedVariables false
set_option linter.unusedSimpArgs false
open Go.RowKit
def Cv:List PC->Nat->List C
 | [],_=>[]
 | .im v::r,id=>.im v::Cv r (id+1)
 | .bt _::r,id=>.ext id::Cv r (id+1)
def SV:List PC->Nat->List (Nat×En)
 | [],_=>[]
 | .im _::r,id=>SV r (id+1)
 | .bt bs::r,id=>(id,.ro (.bytes bs) [])::SV r (id+1)
def Lw (pcs:List PC) (as:List DA):St:=
 { tm:=(0,.one (.one (.bp 1 0)))::EQ as 1 (2+pcs.length),en:=(1,.box (Cv pcs 2))::(SV pcs 2++Ce [] (as.flatMap DA.cells) (2+pcs.length)),lit:=[] }
def VH:List C->List PC->List C->Prop
 | _::r,.im v::p,.im u::b=>u=v/\VH r p b
 | .ext k::r,.bt _::p,.ext k'::b=>match Nat.beq k k' with|true=>VH r p b|false=>False
 | [],[],[]=>True
 | _,_,_=>False
def Y6:RC->Bool
 | .im _=>true
 | .own _ _ _=>true
 | _=>false
def VI:List C->List PC->List C->Option (List Prop)
 | _::r,.im v::p,.im u::b=>(VI r p b).map ((u=v)::·)
 | .ext k::r,.bt _::p,.ext k'::b=>match Nat.beq k k' with|true=>VI r p b|false=>none
 | [],[],[]=>some []
 | _,_,_=>none
def Y7 (tt:TT) (rvs:List ResultVar) (s:St) (ini:List C) (pn:List PC) (r:RT):Prop:=
 match lkp s.en 1 with
 | some (.box bx)=>
  match r.cells.all Y6,VI ini pn bx,E3 tt s rvs with
  | true,some qs,some as=>
   match KX (as.map A.sh) r.sh && D0 (AS r.cells (as.flatMap A.cells)) && (match r.tup with|true=>!(Nat.beq as.length 1)|false=>Nat.beq as.length 1) with
   | false=>False
   | true=>
    match E5 s (AS r.cells (as.flatMap A.cells)) r.cells (as.flatMap A.cells) with
    | none=>False
    | some ps=>SO (ps++qs)
  | _,_,_=>False
 | _=>False
theorem Oh:∀ {ini:List C} {pn:List PC} {bx:List C} {qs:List Prop},VI ini pn bx=some qs->(∀ q ∈ qs,q)->VH ini pn bx
 | [],[],[],_,_,_=>trivial
 | c::r,.im v::p,.im u::b,qs,h,hq=>by
  simp only [VI] at h
  obtain ⟨qs',h1,rfl⟩:=Option.map_eq_some_iff.1 h
  exact ⟨hq _ (by simp),Oh h1 λ q hq'=>hq q (List.mem_cons_of_mem _ hq')⟩
 | .ext k::r,.bt _::p,.ext k'::b,qs,h,hq=>by
  simp only [VI] at h
  split at h
  ·rename_i e
   simp only [VH,e]
   exact Oh h hq
  ·cases h
theorem Ji:∀ {as:List DA} {p id t:Nat} {v:T},lkp (EQ as p id) t=some v->∀ i ∈ v.ids,id<=i
 | [],p,id,t,v,h,i,hi=>by simp [EQ,lkp] at h
 | .one d::r,p,id,t,v,h,i,hi=>by
  simp only [EQ,AL] at h
  split at h
  ·obtain rfl:=Option.some.inj h
   cases d <;> simp only [Ms,T.ids,A.ids,C.ids,List.mem_singleton,List.not_mem_nil] at hi
   all_goals omega
  ·have:=Ji h i hi;omega
 | .agg ds::r,p,id,t,v,h,i,hi=>by
  simp only [EQ,AL] at h
  split at h
  ·obtain rfl:=Option.some.inj h
   have key:∀ (ds:List DC) (id:Nat),∀ c ∈ E4 ds id,∀ i ∈ c.ids,id<=i:=by
    intro ds
    induction ds with
    | nil=>intro id c hc;simp [E4] at hc
    | cons d r ih=>
     intro id c hc i hi
     simp only [E4,List.mem_cons] at hc
     rcases hc with rfl|hc
     ·cases d <;> simp only [Ms,C.ids,List.mem_singleton,List.not_mem_nil] at hi
      all_goals omega
     ·have:=ih (id+1) c hc i hi;omega
   simp only [T.ids,A.ids,List.mem_flatMap] at hi
   obtain ⟨c,hc,hi⟩:=hi
   exact key ds id c hc i hi
  ·have:=Ji h i hi;omega
theorem DL:∀ {ds:List DC} {id i:Nat} {E:En},lkp (Ce [] ds id) i=some E->id<=i/\((∃ e ts rows,E=.view e ts rows [])∨∃ d,E=.ro d [])
 | [],id,i,E,h=>by simp [Ce,lkp] at h
 | .im _::r,id,i,E,h=>by
  obtain ⟨h1,h2⟩:=DL (ds:=r) (id:=id+1) h
  exact ⟨by omega,h2⟩
 | .sl e ts rows::r,id,i,E,h=>by
  simp only [Ce,Fw,AL] at h
  split at h
  ·rename_i q;obtain rfl:=Option.some.inj h;exact ⟨by omega,.inl ⟨_,_,_,rfl⟩⟩
  ·obtain ⟨h1,h2⟩:=DL (ds:=r) (id:=id+1) h
   exact ⟨by omega,h2⟩
 | .ro d::r,id,i,E,h=>by
  simp only [Ce,AL] at h
  split at h
  ·rename_i q;obtain rfl:=Option.some.inj h;exact ⟨by omega,.inr ⟨_,rfl⟩⟩
  ·obtain ⟨h1,h2⟩:=DL (ds:=r) (id:=id+1) h
   exact ⟨by omega,h2⟩
theorem H3:∀ {pcs:List PC} {id i:Nat} {E:En},lkp (SV pcs id) i=some E->∃ q bs,i=id+q/\q<pcs.length/\pcs[q]?=some (.bt bs)/\E=.ro (.bytes bs) []
 | [],id,i,E,h=>by simp [SV,lkp] at h
 | .im _::r,id,i,E,h=>by
  obtain ⟨q,bs,h1,h2,h3,h4⟩:=H3 (pcs:=r) (id:=id+1) h
  exact ⟨q+1,bs,by omega,by simp;omega,by simpa using h3,h4⟩
 | .bt bs::r,id,i,E,h=>by
  simp only [SV,AL] at h
  split at h
  ·rename_i e;obtain rfl:=Option.some.inj h;exact ⟨0,bs,by omega,by simp,rfl,rfl⟩
  ·obtain ⟨q,bs',h1,h2,h3,h4⟩:=H3 (pcs:=r) (id:=id+1) h
   exact ⟨q+1,bs',by omega,by simp;omega,by simpa using h3,h4⟩
theorem Jj {F:Nat->Prop} {w:World} {m:Maps} : ∀ {pcs:List PC} {id:Nat} {vs:List Value},vs.length=pcs.length->(∀ (q:Nat) (d:PC) (u:Value),pcs[q]?=some d->vs[q]?=some u->Wj F w d u)->(∀ (q:Nat) (u:Value),vs[q]?=some u->m.ε (id+q)=u) ->
  (Cv pcs id).map (C.den m)=vs/\∀ c ∈ Cv pcs id,∀ i ∈ c.ids,id<=i/\i<id+pcs.length
 | [],id,vs,hl,_,_=>by
  obtain rfl:=List.eq_nil_of_length_eq_zero (by simpa using hl)
  exact ⟨rfl,by simp [Cv]⟩
 | d::r,id,[],hl,_,_=>by simp at hl
 | d::r,id,v::vs,hl,h1,h2=>by
  obtain ⟨i1,i2⟩:=Jj (F:=F) (w:=w) (m:=m) (pcs:=r) (id:=id+1) (vs:=vs) (by simpa using hl) (λ q d u hq hu=>h1 (q+1) d u (by simpa using hq) (by simpa using hu)) (λ q u hu=>by
   have:=h2 (q+1) u (by simpa using hu)
   rwa [show id+(q+1)=id+1+q by omega] at this)
  have g1:=h1 0 d v (by simp) (by simp)
  have g2:=h2 0 v (by simp)
  cases d with
  | im x=>
   refine ⟨by simp only [Cv,List.map_cons,C.den,i1];rw [show v=x from g1],λ c hc i hi=>?_⟩
   simp only [Cv,List.mem_cons] at hc
   rcases hc with rfl|hc
   ·simp [C.ids] at hi
   ·have:=i2 c hc i hi;simp;omega
  | bt bs=>
   refine ⟨by simp only [Cv,List.map_cons,C.den,i1];rw [show m.ε id=v from g2],λ c hc i hi=>?_⟩
   simp only [Cv,List.mem_cons] at hc
   rcases hc with rfl|hc
   ·simp only [C.ids,List.mem_singleton] at hi;subst hi;simp
   ·have:=i2 c hc i hi;simp;omega
theorem Lx {m0 m:Maps} : ∀ {ini:List C} {pn:List PC} {bx:List C},VH ini pn bx->(∀ c ∈ ini,∀ i ∈ c.ids,m.ε i=m0.ε i)->bx.map (C.den m)=Hj pn (ini.map (C.den m0))
 | [],[],[],_,_=>rfl
 | c::r,.im v::p,.im u::b,h,hs=>by
  obtain ⟨rfl,h⟩:=h
  have:=Lx h λ c hc=>hs c (List.mem_cons_of_mem _ hc)
  simp only [List.map_cons,Hj,this]
  rfl
 | .ext k::r,.bt _::p,.ext k'::b,h,hs=>by
  simp only [VH] at h
  split at h
  ·rename_i e
   have e:=Nat.eq_of_beq_eq_true e
   subst e
   have:=Lx h λ c hc=>hs c (List.mem_cons_of_mem _ hc)
   simp only [List.map_cons,Hj,this,C.den]
   rw [hs (.ext k) (by simp) k (by simp [C.ids])]
  ·exact h.elim
theorem Ly (v:Value):∀ (L:Nat) (r:List DC) (id:Nat),Ce [] (List.replicate L (.im v)++r) id=Ce [] r (id+L)
 | 0,r,id=>by simp
 | L+1,r,id=>by
  rw [List.replicate_succ,List.cons_append]
  simp only [Ce]
  rw [Ly v L r (id+1),show id+1+L=id+(L+1) by omega]
theorem XP {pcs:List PC} {bs:List UInt8} (h:pcs[0]?=some (.bt bs)):0<pcs.length:=(List.getElem?_eq_some_iff.1 h).1
def ER (B:Nat) (vs us:List Value):Maps:=⟨λ i=>if i=1 then B else 0,λ i=>if i<2+vs.length then vs.getD (i-2) undef else us.getD (i-(2+vs.length)) undef,λ b=>if b=B then 1 else 0⟩
def ABR (F : Nat → Prop) (w : World) (B : Nat) (vs us : List Value) (M : Bool) (h1 : ∀ b, F b → b < w.heap.size) (h2 : ¬ F B) (h3 : ∀ b ∈ stB, b < w.heap.size) (h4 : B ∉ stB) : Env :=
  { base := w.heap.size, mono := M, G := F, mb := fun j => if j = 0 then [B] else [], K := 3, m0 := ER B vs us
    hG := fun b hb hq => by
      rcases hq with hq | ⟨j, hq⟩
      · have := h1 b hb; omega
      · split at hq
        · obtain rfl := List.mem_singleton.1 hq; exact h2 hb
        · cases hq
    hst := fun b hb hq => by
      rcases hq with hq | ⟨j, hq⟩
      · have := h3 b hb; omega
      · split at hq
        · obtain rfl := List.mem_singleton.1 hq; exact h4 hb
        · cases hq }
theorem Lz:∀ (as:List DA) (us:List Value),(A3 as us).length=as.length
 | [],us=>rfl
 | .one _::r,us=>by simp [A3,Lz r]
 | .agg _::r,us=>by simp [A3,Lz r]
theorem Y8 {F:Nat->Prop} {w:World} {as:List DA} {us:List Value} {pcs:List PC} {B:Nat} {vs:List Value} {N:Nat} {M:Bool} (h:ArgsAt F w [] (λ _=>[]) (as.flatMap DA.cells) us) (hp:PtrIn F w pcs B vs) (hbt:∃ bs,pcs[0]?=some (.bt bs)) (hN:as.length+1<=N) :
  R (ABR F w B vs us M h.lt hp.out h.st.1 hp.sb) N w (alN (2+pcs.length+(as.flatMap DA.cells).length)) (Lw pcs as) (ER B vs us) { tmps:=(Value.pointer (some ⟨B,0,none⟩)::A3 as us).toArray++Array.replicate (N-(Value.pointer (some ⟨B,0,none⟩)::A3 as us).toArray.size) undef,defers:=[] } w:=by
 obtain ⟨bs0,hbt⟩:=hbt
 have hL:=XP hbt
 obtain ⟨t0,hat⟩:=hp.at_
 have hBlt:B<w.heap.size:=(Array.getElem?_eq_some_iff.1 hat).1
 let ptr:Value:=.pointer (some ⟨B,0,none⟩)
 let pre:List DC:=.im ptr::List.replicate pcs.length (.im undef)
 let as2:List DA:=.agg pre::as
 let us2:List Value:=(ptr::List.replicate pcs.length undef)++us
 have hpl:pre.length=pcs.length+1:=by simp [pre]
 have h2:ArgsAt F w [] (λ _=>[]) (as2.flatMap DA.cells) us2:=by
  have hcells:as2.flatMap DA.cells=pre++as.flatMap DA.cells:=rfl
  rw [hcells]
  refine ⟨by simp [us2,pre,h.len],h.lt,λ p d u hd hu hm=>?_,λ j p hj=>by simp at hj,λ j1 j2 b hne h1=>by simp at h1,λ j b hj=>by simp at hj,h.st,λ j b hj=>by simp at hj⟩
  by_cases hlt:p<pre.length
  ·rw [List.getElem?_append_left hlt] at hd
   rw [List.getElem?_append_left (by simp;omega)] at hu
   cases p with
   | zero=>simp [pre] at hd hu;subst hd;subst hu;rfl
   | succ p=>
    simp only [pre,List.getElem?_cons_succ,List.getElem?_replicate] at hd hu
    split at hd
    ·obtain rfl:=Option.some.inj hd
     rename_i hq
     rw [if_pos hq] at hu
     exact (Option.some.inj hu).symm
    ·cases hd
  ·rw [List.getElem?_append_right (by omega)] at hd
   rw [List.getElem?_append_right (by simp;omega)] at hu
   exact h.rd _ _ _ hd (by simpa [hpl] using hu) (by simp)
 have hR:=SR (N:=N) (M:=M) h2 (by simp [as2];omega)
 have hen2:(Ie [] as2).en=Ce [] (as.flatMap DA.cells) (2+pcs.length):=by
  show Ce [] (pre++as.flatMap DA.cells) 1=_
  simp only [pre,List.cons_append,Ce]
  rw [Ly]
 have htm2:(Ie [] as2).tm=(0,.one (.agg (E4 pre 1)))::EQ as 1 (2+pcs.length):=by
  show (0,_)::EQ as 1 (1+pre.length)=_
  rw [hpl,show 1+(pcs.length+1)=2+pcs.length by omega]
 have hvd:A3 as2 us2=.agg (us2.take pre.length).toArray::A3 as us:=by
  show _::A3 as (us2.drop pre.length)=_
  rw [show us2.drop pre.length=us by simp [us2,hpl]]
 have hε2:∀ i,2+pcs.length<=i->us2.getD (i-1) undef=(ER B vs us).ε i:=λ i hi=>by
  simp only [ER]
  rw [if_neg (by rw [hp.len];omega)]
  simp only [us2,List.getD_eq_getElem?_getD]
  rw [List.getElem?_append_right (by simp;omega)]
  congr 2
  simp [hp.len];omega
 have hmine:∀ b,w.heap.size<=b->(ER B vs us).π b=0:=λ b hb=>if_neg (by omega)
 have hbox:=Jj (F:=F) (w:=w) (m:=ER B vs us) (id:=2) hp.len hp.rd (λ q u hu=>by
  have hq:=(List.getElem?_eq_some_iff.1 hu).1
  simp only [ER]
  rw [if_pos (by omega)]
  simp [List.getD_eq_getElem?_getD,hu])
 refine ⟨?_,rfl,Nat.le_refl _,Bel.refl _ _,λ t v hv=>?_,λ i E hE=>?_,by unfold alN;omega,h.st,λ i h1 h2=>?_,λ i hi=>⟨rfl,rfl⟩⟩
 ·simp [Lz];omega
 ·simp only [Lw,AL] at hv
  split at hv
  ·rename_i e
   subst e
   obtain rfl:=Option.some.inj hv
   refine ⟨?_,λ i hi=>?_⟩
   ·rw [Array.getD_eq_getD_getElem?,Array.getElem?_append_left (by simp)]
    simp [T.den,A.den,C.den,ER]
   ·simp only [T.ids,A.ids,C.ids,List.mem_singleton] at hi
    subst hi;unfold alN;omega
  ·rename_i ht
   have ht0:t≠0:=λ e=>ht e.symm
   obtain ⟨r1,r2⟩:=hR.tm t v (by rw [htm2,AL,if_neg ht];exact hv)
   have hids:=Ji hv
   have hrange:∀ i ∈ v.ids,2+pcs.length<=i/\i<2+pcs.length+(as.flatMap DA.cells).length:=λ i hi=>by
    have a1:=hids i hi
    have a2:=(r2 i hi).2
    have e:(as2.flatMap DA.cells).length=pre.length+(as.flatMap DA.cells).length:=by
     show (pre++as.flatMap DA.cells).length=_
     simp
    rw [e,hpl] at a2
    omega
   refine ⟨?_,λ i hi=>by have:=hrange i hi;unfold alN;omega⟩
   have hsame:Maps.same (λ i=>2+pcs.length<=i) ⟨λ _=>0,λ i=>us2.getD (i-1) undef,λ b=>match (List.range ([]:List Nat).length).find? (λ j=>decide (b ∈ (λ _=>([]:List Nat)) j)) with|some j=>([]:List Nat).getD j 0+1|none=>0⟩ (ER B vs us):=λ i hi=>by
    refine ⟨?_,(hε2 i hi).symm⟩
    show (if i=1 then B else 0)=0
    rw [if_neg (by omega)]
   rw [T.den_same hsame λ i hi=>(hrange i hi).1]
   refine Eq.trans ?_ r1
   rw [hvd]
   obtain ⟨t',rfl⟩:∃ t',t=t' + 1:=⟨t-1,by omega⟩
   simp only [Array.getD_eq_getD_getElem?,Array.getElem?_append,List.size_toArray,List.length_cons,List.getElem?_toArray,List.getElem?_cons_succ]
 ·simp only [Lw,AL] at hE
  split at hE
  ·rename_i e
   subst e
   obtain rfl:=Option.some.inj hE
   refine ⟨⟨.inr ⟨0,by show B ∈ (if 0=0 then [B] else []);simp⟩,by show (if B=B then 1 else 0)=1;simp,t0,?_⟩,by unfold alN;omega,λ j hj=>?_⟩
   ·rw [hbox.1];exact hat
   ·simp only [En.ids,List.mem_flatMap] at hj
    obtain ⟨c,hc,hj⟩:=hj
    have:=hbox.2 c hc j hj
    unfold alN;omega
  ·rw [CS] at hE
   cases hpc:lkp (SV pcs 2) i with
   | some E'=>
    rw [hpc] at hE
    obtain rfl:=Option.some.inj hE
    obtain ⟨q,bs,rfl,hq,hd,rfl⟩:=H3 hpc
    obtain ⟨u,hu⟩:∃ u,vs[q]?=some u:=⟨_,List.getElem?_eq_getElem (show q<vs.length by rw [hp.len];exact hq)⟩
    refine ⟨⟨F,?_,λ b hb=>.inl hb⟩,by unfold alN;omega,by simp [En.ids]⟩
    have:=hp.rd q _ _ hd hu
    simp only [ER]
    rw [if_pos (by rw [hp.len];omega),Nat.add_sub_cancel_left]
    simpa [List.getD_eq_getElem?_getD,hu,ROAt,Wj] using this
   | none=>
    rw [hpc,Option.none_or] at hE
    obtain ⟨r1,r2,r3⟩:=hR.en i E (by rw [hen2];exact hE)
    obtain ⟨s1,s2⟩:=DL hE
    have e:(as2.flatMap DA.cells).length=pre.length+(as.flatMap DA.cells).length:=by
     show (pre++as.flatMap DA.cells).length=_
     simp
    have r2':=r2.2
    rw [e,hpl] at r2'
    have hε:=hε2 i s1
    have hmay:∀ b,b<w.heap.size∨w.heap.size<=b:=λ b=>Nat.lt_or_ge _ _
    rcases s2 with ⟨e',ts,rows,rfl⟩|⟨d,rfl⟩
    ·obtain ⟨F',f1,f2⟩:=r1
     refine ⟨⟨F',?_,λ b hb=>?_⟩,by unfold alN;omega,by simp [En.ids]⟩
     ·rw [← hε];exact f1
     ·rcases f2 b hb with g|⟨g,-⟩|⟨g,g2⟩
      ·exact .inl g
      ·rcases g with g|⟨j,g⟩
       ·exact .inr (.inl ⟨.inl g,hmine b g⟩)
       ·simp at g
      ·simp at g2
    ·obtain ⟨F',f1,f2⟩:=r1
     refine ⟨⟨F',?_,λ b hb=>?_⟩,by unfold alN;omega,by simp [En.ids]⟩
     ·rw [← hε];exact f1
     ·rcases f2 b hb with g|⟨g,-⟩|⟨g,g2⟩
      ·exact .inl g
      ·rcases g with g|⟨j,g⟩
       ·exact .inr (.inl ⟨.inl g,hmine b g⟩)
       ·simp at g
      ·simp at g2
 ·have h2:i<3:=h2
  unfold alN;omega
section
variable {P : Program} {Γ : Env} {n : Nat} {w0 : World} {al : Nat → Prop} {s : St} {m : Maps} {a : Act} {w : World}
theorem Gv (h:R Γ n w0 al s m a w) (hm:∀ b,Γ.mine b->m.π b≠1->Γ.base<=b) {bx:List C} (hb1:lkp s.en 1=some (.box bx)) {owns:List Nat} {w1:World} : ∀ {rcs:List RC} {cs:List C} {ps:List Prop},rcs.all Y6=true->E5 s owns rcs cs=some ps->(∀ p ∈ ps,p)->(AS rcs cs).Nodup ->
  ∃ bs:List Nat,bs.Nodup/\(∀ b ∈ bs,Γ.base<=b/\m.π b ∈ AS rcs cs)/\∀ all:List Nat,A6 Γ.G w1 w all rcs (cs.map (C.den m)) bs
 | [],[],ps,_,_,_,_=>⟨[],List.nodup_nil,by simp,λ _=>rfl⟩
 | [],_::_,ps,_,h,_,_=>by simp [E5] at h
 | _::_,[],ps,_,h,_,_=>by simp [E5] at h
 | rc::rcs,c::cs,ps,hio,hx,hp,hn=>by
  simp only [List.all_cons,Bool.and_eq_true] at hio
  simp only [E5] at hx
  split at hx
  ·rename_i p ps' h1 h2
   simp only [Option.some.injEq] at hx
   subst hx
   have hp1:=hp p (by simp)
   have hp2:∀ p ∈ ps',p:=λ q hq=>hp q (List.mem_cons_of_mem _ hq)
   cases rc with
   | im v=>
    cases c with
    | im u=>
     simp only [Of,Option.some.injEq] at h1
     rw [← h1] at hp1
     obtain ⟨bs,b1,b2,b3⟩:=Gv h hm hb1 (w1:=w1) hio.2 h2 hp2 (by simpa [AS] using hn)
     exact ⟨bs,b1,by simpa [AS] using b2,λ all=>by simp only [List.map_cons,A6,C.den];exact ⟨hp1,b3 all⟩⟩
    | _=>simp [Of] at h1
   | own e ts rows=>
    cases c with
    | ext k=>
     simp only [Of] at h1
     split at h1
     ·rename_i e' ts' rows' he
      split at h1
      ·rename_i hc
       simp only [Bool.and_eq_true,Nat.beq_eq] at hc
       obtain ⟨rfl,hc⟩:=hc
       have hc:=Ty.beqs_ok _ _ hc
       subst hc
       simp only [Option.some.injEq] at h1
       rw [← h1] at hp1
       simp only [AS,List.nodup_cons] at hn
       obtain ⟨bs,b1,b2,b3⟩:=Gv h hm hb1 (w1:=w1) hio.2 h2 hp2 hn.2
       obtain ⟨q,q1,q2,q3⟩:=(h.en _ _ he).1
       rw [hp1] at q1
       have hk1:k≠1:=λ e=>by subst e;rw [hb1] at he;cases he
       refine ⟨q++bs,List.nodup_append.2 ⟨q2,b1,λ x hx y hy e=>?_⟩,λ b hb=>?_,λ all=>?_⟩
       ·subst e
        have:=(b2 x hy).2
        rw [(q3 x hx).2] at this
        exact hn.1 this
       ·rcases List.mem_append.1 hb with hb|hb
        ·exact ⟨hm _ (q3 b hb).1 (by rw [(q3 b hb).2];exact hk1),by rw [(q3 b hb).2];simp [AS]⟩
        ·exact ⟨(b2 b hb).1,by simp only [AS];exact List.mem_cons_of_mem _ (b2 b hb).2⟩
       ·simp only [List.map_cons,A6,C.den]
        exact ⟨q,bs,rfl,q1,b3 all⟩
      ·cases h1
     ·cases h1
    | im u=>
     have hu:u=.slice none 0 0/\([]=rows):=by
      unfold Of at h1
      split at h1
      all_goals first|(rename_i g1 g2;cases g1)|skip
      all_goals simp_all
     obtain ⟨rfl,rfl⟩:=hu
     obtain ⟨bs,b1,b2,b3⟩:=Gv h hm hb1 (w1:=w1) hio.2 h2 hp2 (by simpa [AS] using hn)
     refine ⟨bs,b1,by simpa [AS] using b2,λ all=>?_⟩
     simp only [List.map_cons,A6,C.den]
     refine ⟨[],bs,rfl,?_,b3 all⟩
     simp only [Fp]
     exact ⟨[],[],World.ownsRow_nil _ _ _ _,rfl,rfl,by simp,by simp,by simp [Value.ownBlock]⟩
    | _=>simp [Of] at h1
   | view _ _ _=>simp [Y6] at hio
   | top _ _ _=>simp [Y6] at hio
  ·cases hx
def XQ:PC->Bool
 | .im _=>true
 | .bt _=>false
def Ig:List PC->Bool
 | .bt _::r=>r.all XQ
 | _=>false
theorem Np:∀ {r:List PC} {id:Nat},r.all XQ=true->∀ c ∈ Cv r id,∀ i ∈ c.ids,False
 | [],_,_,c,hc,_,_=>by simp [Cv] at hc
 | .im v::r,id,h,c,hc,i,hi=>by
  simp only [List.all_cons,Bool.and_eq_true] at h
  simp only [Cv,List.mem_cons] at hc
  rcases hc with rfl|hc
  ·simp [C.ids] at hi
  ·exact Np h.2 c hc i hi
 | .bt _::r,id,h,c,hc,i,hi=>by simp [XQ] at h
theorem VJ {pcs:List PC} (h:Ig pcs=true):∀ c ∈ Cv pcs 2,∀ i ∈ c.ids,i=2:=by
 unfold Ig at h
 split at h
 ·intro c hc i hi
  simp only [Cv,List.mem_cons] at hc
  rcases hc with rfl|hc
  ·simpa [C.ids] using hi
  ·exact (Np h c hc i hi).elim
 ·cases h
theorem AAc {X:Ctx} {f:Nat} {fn:Func} {body:Code} {c:Con} {cs pn:c.ι->List PC} (hm:P.follows .mixedOrders=true) (hT:TTok P X.tt) (hct:CTok P X.ct c.mono) (hil:InlOk P X.il) (hf:P.funcs[f]?=some fn) (hname:fn.name ≠ "runtime.NumGoroutine") (hb:fn.body=some body) (hn:fn.ntmps=X.n)
  (hsmall:∀ i,(c.res i).cells.length<=32) (hlen:∀ i,(c.args i).length+1<=X.n) (hpk:KW X.hints=3) (hsh:∀ i,Ig (cs i)=true) (iv:c.ι->List (Nat×Inv))
  (h:∀ i,c.pre i->DJ X body (iv i) (Lw (cs i) (c.args i)) (2+(cs i).length+((c.args i).flatMap DA.cells).length) λ e s _=>
   match e with
   | .exit _=>False
   | _=>Y7 X.tt fn.results.toList s (Cv (cs i) 2) (pn i) (c.res i)):c.OkP P f cs pn:=by
 refine ⟨⟨fn,hf,hname,by rw [hb];rfl⟩,hsmall,λ i hi F w us B vs hargs hpin=>?_⟩
 have hbt:∃ bs,(cs i)[0]?=some (.bt bs):=by
  have:=hsh i
  unfold Ig at this
  split at this
  ·rename_i bs r e;exact ⟨bs,by rw [e];rfl⟩
  ·cases this
 have hini:=Y8 (N:=X.n) (M:=c.mono) hargs hpin hbt (hlen i)
 refine calls_of_wp hf hb ?_
 rw [hn]
 refine BN hm hT hct hil (.inr hpk.symm) body (al:=λ _=>True) (h i hi) (by omega) hini ?_
 intro e s' nx' m' a' w' h1 h2 h3
 have fin:Y7 X.tt fn.results.toList s' (Cv (cs i) 2) (pn i) (c.res i)->a'.defers=[]/\∃ v,(results fn a'.tmps).run P w'=.ok v w'/\∃ rs bs,Ending.returned v=.returned ((c.res i).val rs)/\c.PostP i pn F w B vs rs bs w'/\(c.mono=true->w.drawn<=w'.drawn):=by
  intro hr
  refine ⟨h3.defers,?_⟩
  unfold Y7 at hr
  split at hr
  case h_2=>exact hr.elim
  rename_i bx hbx
  split at hr
  case h_2=>exact hr.elim
  ·rename_i qs as hio hqs has
   split at hr
   ·exact hr.elim
   ·rename_i hchk
    simp only [Bool.and_eq_true] at hchk
    obtain ⟨⟨hshp,hnd⟩,htup⟩:=hchk
    split at hr
    ·exact hr.elim
    ·rename_i ps hps
     have hpq:=Ez hr
     have hp:∀ q ∈ ps,q:=λ q hq=>hpq q (List.mem_append.2 (.inl hq))
     have hend:=Oh hqs λ q hq=>hpq q (List.mem_append.2 (.inr hq))
     have hnd:=Cb hnd
     have hshp:=Km hshp
     let cs':=as.flatMap A.cells
     have hvals:(results fn a'.tmps).run P w'=.ok ((c.res i).val (cs'.map (C.den m'))) w':=by
      have e1:=Dm hT h3 has
      have e2:results fn a'.tmps=(do let vs ← fn.results.mapM (EP a'.tmps);pure (if h:vs.size=1 then vs[0] else .tuple vs)):=by
       unfold results
       congr 1
      rw [e2]
      have e3:(fn.results.mapM (EP a'.tmps)).run P w'=.ok (as.map (A.den m')).toArray w':=by
       rw [Array.mapM_eq_mapM_toList,Sem.run_map]
       rw [e1]
       rfl
      simp only [Sem.run_bind,e3,Result.andThen_ok,Sem.run_pure]
      congr 1
      have hva:=Kn m' as
      rw [hshp] at hva
      unfold RT.val
      cases ht:(c.res i).tup with
      | true=>
       rw [ht] at htup
       simp only [Bool.not_eq_true'] at htup
       have hne:as.length≠1:=λ e=>by rw [e] at htup;simp at htup
       rw [dif_neg (by simp [hne])]
       simp [cs',hva]
      | false=>
       rw [ht] at htup
       have h1:=Nat.eq_of_beq_eq_true htup
       rw [dif_pos (by simp [h1])]
       obtain ⟨x,rfl⟩:∃ x,as=[x]:=by
        match as,h1 with
        | [x],_=>exact ⟨x,rfl⟩
       simp only [cs',hva]
       rfl
     obtain ⟨⟨g1,g2,e0,g3⟩,-,-⟩:=h3.en _ _ hbx
     have hβ:m'.β 1=B:=(h3.gh.2 1 ⟨by omega,by show 1<3;omega⟩).1
     have hε:m'.ε 2=(ER B vs us).ε 2:=(h3.gh.2 2 ⟨by omega,by show 2<3;omega⟩).2
     rw [hβ] at g2 g3
     have hmine:∀ b,(ABR F w B vs us c.mono hargs.lt hpin.out hargs.st.1 hpin.sb).mine b->w.heap.size<=b∨b=B:=λ b hb=>by
      rcases hb with hb|⟨j,hb⟩
      ·exact .inl hb
      ·have hb:b ∈ (if j=0 then [B] else []):=hb
       split at hb
       ·exact .inr (List.mem_singleton.1 hb)
       ·cases hb
     obtain ⟨bs,c1,c2,c3⟩:=Gv h3 (λ b hb hne=>by
      rcases hmine b hb with h|rfl
      ·exact h
      ·exact absurd g2 hne) hbx (w1:=w) hio hps hp hnd
     have hboxd:=Jj (F:=F) (w:=w) (m:=ER B vs us) (id:=2) hpin.len hpin.rd (λ q u hu=>by
      have hq:=(List.getElem?_eq_some_iff.1 hu).1
      simp only [ER]
      rw [if_pos (by omega)]
      simp [List.getD_eq_getElem?_getD,hu])
     have hturn:=Lx (m0:=ER B vs us) (m:=m') hend (λ c0 hc0 j hj=>by rw [VJ (hsh i) c0 hc0 j hj];exact hε)
     rw [hboxd.1] at hturn
     refine ⟨_,hvals,cs'.map (C.den m'),bs,rfl,⟨c3 bs,c1,λ b hb=>(c2 b hb).1,⟨e0,by rw [← hturn];exact g3⟩,h3.below.os,h3.below.tape,h3.below.output,h3.below.size,λ b hb hne=>h3.below.block b λ hq=>?_⟩,λ hmo=>h3.below.drawn hmo⟩
     rcases hmine b hq with h|h
     ·omega
     ·exact hne h
 cases e with
 | normal=>obtain ⟨d1,v,d2,d3⟩:=fin h2;exact ⟨d1,v,d2,d3⟩
 | ret=>obtain ⟨d1,v,d2,d3⟩:=fin h2;exact ⟨d1,v,d2,d3⟩
 | exit id=>exact h2.elim
theorem XR {X:Ctx} {f:Nat} {fn:Func} {body:Code} {c:Con} {cs pn:c.ι->List PC} (hm:P.follows .mixedOrders=true) (hT:TTok P X.tt) (hct:CTok P X.ct c.mono) (hf:P.funcs[f]?=some fn) (iv:c.ι->List (Nat×Inv))
  (h:∀ i,c.pre i->DJ X body (iv i) (Lw (cs i) (c.args i)) (2+(cs i).length+((c.args i).flatMap DA.cells).length) λ e s _=>
   match e with
   | .exit _=>False
   | _=>Y7 X.tt fn.results.toList s (Cv (cs i) 2) (pn i) (c.res i)) (hil:InlOk P X.il:=by exact InlOk.nil _) (hname:fn.name ≠ "runtime.NumGoroutine" := by decide) (hb:fn.body=some body:=by exact rfl) (hn:fn.ntmps=X.n:=by exact rfl)
  (hsmall:∀ i,(c.res i).cells.length<=32:=by exact λ _=>Nat.le_of_ble_eq_true rfl) (hlen:∀ i,(c.args i).length+1<=X.n:=by exact λ _=>Nat.le_of_ble_eq_true rfl) (hpk:KW X.hints=3:=by rfl) (hsh:∀ i,Ig (cs i)=true:=by exact λ _=>rfl):c.OkP P f cs pn:=
 AAc hm hT hct hil hf hname hb hn hsmall hlen hpk hsh iv h
def VK:List PC->List C->Option (List Prop)
 | .im v::p,.im u::b=>(VK p b).map ((u=v)::·)
 | .bt _::p,.ext k::b=>match Nat.beq k 1 with|true=>VK p b|false=>none
 | [],[]=>some []
 | _,_=>none
def Y9 (tt:TT) (rvs:List ResultVar) (s:St) (pc:List PC):Prop:=
 match E3 tt s rvs with
 | some [.one (.bp k 0)]=>
  match lkp s.en k with
  | some (.box bx)=>match VK pc bx with|some qs=>SO qs|none=>False
  | _=>False
 | _=>False
theorem L0 {m:Maps} {v:Value} (hv:m.ε 1=v):∀ {pc:List PC} {bx:List C} {qs:List Prop},VK pc bx=some qs->(∀ q ∈ qs,q)->bx.map (C.den m)=OU v pc
 | [],[],_,_,_=>rfl
 | .im x::p,.im u::b,qs,h,hq=>by
  simp only [VK] at h
  obtain ⟨qs',h1,rfl⟩:=Option.map_eq_some_iff.1 h
  have:=L0 hv h1 λ q hq'=>hq q (List.mem_cons_of_mem _ hq')
  simp only [List.map_cons,OU,this,C.den]
  rw [show u=x from hq _ (by simp)]
 | .bt _::p,.ext k::b,qs,h,hq=>by
  simp only [VK] at h
  split at h
  ·rename_i e
   have e:=Nat.eq_of_beq_eq_true e
   subst e
   have:=L0 hv h hq
   simp only [List.map_cons,OU,this,C.den,hv]
  ·cases h
theorem AAd {X : Ctx} {f : Nat} {fn : Func} {body : Code} {c : Con} {pc : c.ι → List PC} (hm : P.follows .mixedOrders = true) (hT : TTok P X.tt) (hct : CTok P X.ct c.mono) (hil : InlOk P X.il) (hf : P.funcs[f]? = some fn) (hname : fn.name ≠ "runtime.NumGoroutine") (hb : fn.body = some body) (hn : fn.ntmps = X.n)
    (hlen : ∀ i, (c.args i).length ≤ X.n) (hpk : KW X.hints = 2) (hone : ∀ i, ((c.args i).flatMap DA.cells).isEmpty = false) (iv : c.ι → List (Nat × Inv))
    (h : ∀ i, c.pre i → DJ X body (iv i) (Ie [] (c.args i)) (1 + ((c.args i).flatMap DA.cells).length) fun e s _ =>
      match e with
      | .exit _ => False
      | _ => Y9 X.tt fn.results.toList s (pc i)) : c.OkN P f pc := by
  refine ⟨⟨fn, hf, hname, by rw [hb]; rfl⟩, fun i hi F w us hargs => ?_⟩
  have hini := SR (N := X.n) (M := c.mono) hargs (hlen i)
  have hne : 0 < ((c.args i).flatMap DA.cells).length := by
    have := hone i
    cases hq : (c.args i).flatMap DA.cells with
    | nil => rw [hq] at this; cases this
    | cons _ _ => simp
  let m0 : Maps := ⟨fun _ => 0, fun i => us.getD (i - 1) undef, fun _ => 0⟩
  let Γ : Env := { base := w.heap.size, mono := c.mono, G := F, K := 2, m0 := m0
                   hG := fun b hb hq => by
                     rcases hq with hq | ⟨j, hq⟩
                     · have := hargs.lt b hb; omega
                     · cases hq
                   hst := fun b hb hq => by
                     rcases hq with hq | ⟨j, hq⟩
                     · have := hargs.st.1 b hb; omega
                     · cases hq }
  have hini2 : R Γ X.n w (alN (1 + ((c.args i).flatMap DA.cells).length)) (Ie [] (c.args i)) m0 { tmps := (A3 (c.args i) us).toArray ++ Array.replicate (X.n - (A3 (c.args i) us).toArray.size) undef, defers := [] } w :=
    ⟨hini.size, rfl, Nat.le_refl _, Bel.refl _ _, hini.tm, fun i E hE => by
      obtain ⟨e1, e2, e3⟩ := hini.en i E hE
      refine ⟨?_, e2, e3⟩
      have hsh : (∃ e ts rows, E = .view e ts rows []) ∨ ∃ d, E = .ro d [] := (DL hE).2
      rcases hsh with ⟨e, ts, rows, rfl⟩ | ⟨d, rfl⟩
      · obtain ⟨F', f1, f2⟩ := e1
        refine ⟨F', f1, fun b hb => ?_⟩
        rcases f2 b hb with g | ⟨g, g2⟩ | ⟨g, g2⟩
        · exact .inl g
        · exact .inr (.inl ⟨g.imp id fun ⟨j, g⟩ => by simp at g, g2⟩)
        · simp at g2
      · obtain ⟨F', f1, f2⟩ := e1
        refine ⟨F', f1, fun b hb => ?_⟩
        rcases f2 b hb with g | ⟨g, g2⟩ | ⟨g, g2⟩
        · exact .inl g
        · exact .inr (.inl ⟨g.imp id fun ⟨j, g⟩ => by simp at g, g2⟩)
        · simp at g2, hini.pos, hini.st, fun i h1 h2 => by
      have h2 : i < 2 := h2
      unfold alN; omega, fun i hi => ⟨rfl, rfl⟩⟩
  refine calls_of_wp hf hb ?_
  rw [hn]
  refine BN hm hT hct hil (.inr hpk.symm) body (al := fun _ => True) (h i hi) (by omega) hini2 ?_
  intro e s' nx' m' a' w' h1 h2 h3
  have fin : Y9 X.tt fn.results.toList s' (pc i) → a'.defers = [] ∧ ∃ v, (results fn a'.tmps).run P w' = .ok v w' ∧ ∃ B, Ending.returned v = .returned (.pointer (some ⟨B, 0, none⟩)) ∧ c.PostN i pc w us B w' ∧ (c.mono = true → w.drawn ≤ w'.drawn) := by
    intro hr
    refine ⟨h3.defers, ?_⟩
    unfold Y9 at hr
    split at hr
    case h_2 => exact hr.elim
    rename_i k has
    split at hr
    case h_2 => exact hr.elim
    rename_i bx hbx
    split at hr
    case h_2 => exact hr.elim
    rename_i qs hqs
    have hq := Ez hr
    have hvals : (results fn a'.tmps).run P w' = .ok (.pointer (some ⟨m'.β k, 0, none⟩)) w' := by
      have e1 := Dm hT h3 has
      have e2 : results fn a'.tmps = (do let vs ← fn.results.mapM (EP a'.tmps); pure (if h : vs.size = 1 then vs[0] else .tuple vs)) := by
        unfold results
        congr 1
      rw [e2]
      have e3 : (fn.results.mapM (EP a'.tmps)).run P w' = .ok ([A.one (.bp k 0)].map (A.den m')).toArray w' := by
        rw [Array.mapM_eq_mapM_toList, Sem.run_map]
        rw [e1]
        rfl
      simp only [Sem.run_bind, e3, Result.andThen_ok, Sem.run_pure]
      rw [dif_pos (by simp)]
      simp [A.den, C.den]
    obtain ⟨⟨g1, g2, e0, g3⟩, -, -⟩ := h3.en _ _ hbx
    have hmine : ∀ b, Γ.mine b → w.heap.size ≤ b := fun b hb => hb.resolve_right fun ⟨j, hj⟩ => by cases hj
    have hε : m'.ε 1 = us.headD undef := by
      have := (h3.gh.2 1 ⟨by omega, by show 1 < 2; omega⟩).2
      rw [this]
      show us.getD 0 undef = _
      cases us <;> rfl
    refine ⟨_, hvals, m'.β k, rfl, ⟨hmine _ g1, ⟨e0, ?_⟩, h3.below.os, h3.below.tape, h3.below.output, h3.below.size, fun b hb => h3.below.block b fun hq => ?_⟩, fun hmo => h3.below.drawn hmo⟩
    · rw [← L0 hε hqs hq]; exact g3
    · have := hmine b hq; omega
  cases e with
  | normal => obtain ⟨d1, v, d2, d3⟩ := fin h2; exact ⟨d1, v, d2, d3⟩
  | ret => obtain ⟨d1, v, d2, d3⟩ := fin h2; exact ⟨d1, v, d2, d3⟩
  | exit id => exact h2.elim
theorem ABS {X:Ctx} {f:Nat} {fn:Func} {body:Code} {c:Con} {pc:c.ι->List PC} (hm:P.follows .mixedOrders=true) (hT:TTok P X.tt) (hct:CTok P X.ct c.mono) (hf:P.funcs[f]?=some fn) (iv:c.ι->List (Nat×Inv))
  (h:∀ i,c.pre i->DJ X body (iv i) (Ie [] (c.args i)) (1+((c.args i).flatMap DA.cells).length) λ e s _=>
   match e with
   | .exit _=>False
   | _=>Y9 X.tt fn.results.toList s (pc i)) (hil:InlOk P X.il:=by exact InlOk.nil _) (hname:fn.name ≠ "runtime.NumGoroutine" := by decide) (hb:fn.body=some body:=by exact rfl) (hn:fn.ntmps=X.n:=by exact rfl)
  (hlen:∀ i,(c.args i).length<=X.n:=by exact λ _=>Nat.le_of_ble_eq_true rfl) (hpk:KW X.hints=2:=by rfl) (hone:∀ i,((c.args i).flatMap DA.cells).isEmpty=false:=by exact λ _=>rfl):c.OkN P f pc:=
 AAd hm hT hct hil hf hname hb hn hlen hpk hone iv h
end
section
open Go.Deep Go.ChangeShapes Go.WideShapes
variable {H : Type} {enc : TypeId × Value → H} {P : Program} {w : World} {held : Bool}
theorem SW {spare:Nat->Bool} {t e fuel:Nat} {v:Value} {x:DataW H×List MemPlace} (ht:P.underlying t=some (.slice e)) (he:P.underlying e=some (.int .u8)) (hc:P.cellsOf e=1) (hx:DataW.trod enc P w 0 spare held fuel t [v]=some x):∃ bs:List UInt8,FM (λ b=>b<w.heap.size) w bs v:=by
 rcases open_slice ht hx with ⟨hcs,_⟩|⟨a,len,cap,m,n,D,Pl,hcs,_,hle,hm,hmm,_,hel⟩
 ·obtain rfl:v=_:=by simpa using hcs
  exact ⟨[],none,0,rfl,λ j hj=>by simp at hj⟩
 ·obtain rfl:v=_:=by simpa using hcs
  have hlm:len<=m:=by rw [hmm];split <;> omega
  obtain ⟨g,hg⟩:=choose_lt (n:=len) (p:=λ i (k:UInt8)=>w.cell? (a.add i)=some (.int .u8 ((k.toNat:Nat):Int))) λ i hi=>by
   obtain ⟨r,h1,h2⟩:=hel i (by omega)
   obtain ⟨k,rfl,_,hw⟩:=DataW.trod_int he h2
   have hw:(decide ((0:Int)<=k) && decide (k<=255))=true:=hw
   simp at hw
   refine ⟨UInt8.ofNat k.toNat,?_⟩
   have c0:=(World.cells?_some h1).2.2 0 (by rw [hc];omega)
   rw [hc,Nat.mul_one] at c0
   have e1:(a.add i).add 0=a.add i:=by unfold Addr.add;simp
   rw [e1] at c0
   rw [c0]
   have:(UInt8.ofNat k.toNat).toNat=k.toNat:=by rw [UInt8.toNat_ofNat'];omega
   rw [this]
   simp only [List.getElem?_cons_zero]
   rw [Int.toNat_of_nonneg hw.1]
  refine ⟨(List.range len).map g,some a,cap,by simp,λ j hj=>?_⟩
  simp only [List.length_map,List.length_range] at hj
  have h1:=hg j hj
  have h0:=hg 0 (by omega)
  rw [show a.add 0=a by unfold Addr.add;simp] at h0
  obtain ⟨b,off,rfl,hb⟩:=QO h0
  rw [Y3] at h1
  exact ⟨b,off,rfl,hb,hb,by rw [h1];simp [List.getD,hj]⟩
theorem SX {c:Con} {f:Nat} (hc:c.Ok P f) (hmu:c.mu=[]) (i:c.ι) (hp:c.pre i) (hres:c.res i=⟨false,[none],[.im (.bool true)]⟩) {bs:List UInt8} {v:Value} (ha:c.args i=[.one (.ro (.bytes bs))]) (h:FM (λ b=>b<w.heap.size) w bs v) (hst:Stood w:=by exact ⟨λ _ hb=>(List.not_mem_nil hb).elim,trivial⟩) :
  Calls P f #[v] w λ e w'=>e=.returned (.bool true)/\Below w.heap.size w w':=by
 have hv:(A3 (c.args i) [v]).toArray=#[v]:=by rw [ha];rfl
 rw [← hv]
 refine (hc.calls i hp (λ b=>b<w.heap.size) w [v] (λ _=>[]) ⟨by rw [ha];rfl,λ _ h=>h,λ p d u hd hu _=>?_,λ j p hj=>?_,λ a b x _ _ _ hx=>by simp at hx,λ j b _ hb=>by simp at hb,hst,λ j b _ hb=>by simp at hb⟩).mono ?_
 ·rw [ha] at hd
  have hp0:p=0:=by have:=(List.getElem?_eq_some_iff.1 hu).1;simp at this;exact this
  subst hp0
  simp [DA.cells] at hd hu
  subst hd
  subst hu
  exact h
 ·rw [hmu] at hj;simp at hj
 ·rintro e w' ⟨rs,bs',rfl,hpost⟩
  have hr:=hpost.res
  rw [hres] at hr
  refine ⟨?_,hpost.os,hpost.tape,hpost.output,hpost.size,λ b hb=>hpost.keep b hb (λ j hj=>by rw [hmu] at hj;simp at hj)⟩
  rw [hres]
  cases rs with
  | nil=>simp [A6] at hr
  | cons r rs=>
   obtain ⟨rfl,hr⟩:=(by simpa only [A6] using hr:r=_/\_)
   rfl
end
end Go.Proofs.YtkffpiaagjcmpaaGreat
