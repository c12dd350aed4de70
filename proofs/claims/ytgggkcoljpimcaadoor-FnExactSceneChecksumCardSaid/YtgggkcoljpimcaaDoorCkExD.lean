import Derived.Test.YtgggkcoljpimcaaDoorCkExC
import Derived.Deep.Slices
import Derived.OpenShut
namespace Go.Proofs.YtgggkcoljpimcaaDoor
set_option linter.unusedVariables false
set_option linter.unusedSimpArgs false
open Go.RowKit Go.Deep Go.ChangeShapes Go.WideShapes
mutual
def Dat.fit:Dat->Prop
 | .int n=>-9223372036854775808<=n/\n<=9223372036854775807
 | .sl ls=>DH ls
 | _=>True
def fitRow:List Dat->Prop
 | []=>True
 | d::ds=>d.fit/\fitRow ds
def DH:List (List Dat)->Prop
 | []=>True
 | r::rs=>fitRow r/\DH rs
end
theorem fitRow.app:∀ {a b:List Dat},fitRow a->fitRow b->fitRow (a++b)
 | [],_,_,h=>h
 | _::_,_,h,h2=>by simp only [List.cons_append,fitRow] at h ⊢;exact ⟨h.1,fitRow.app h.2 h2⟩
theorem F0:∀ {l:List (List Dat)},(∀ r ∈ l,fitRow r)->DH l
 | [],_=>by simp [DH]
 | r::l,h=>by simp only [DH];exact ⟨h r (by simp),F0 λ x hx=>h x (by simp [hx])⟩
def Dy (tr:Nat->Option (List Ty)):List (Nat×Nat×Nat)->Nat->Option (List Ty)
 | [],_=>some []
 | (off,t,sz)::r,acc=>
  if Nat.beq off acc=true then
   match tr t,Dy tr r (acc+sz) with
   | some a,some b=>if Nat.beq a.length sz=true then some (a++b) else none
   | _,_=>none
  else none
def ES (tt:TT):Nat->Nat->Option (List Ty)
 | 0,_=>none
 | f+1,t=>
  match lkp tt t with
  | some { d:=.int .i64,.. }=>some [.int]
  | some { d:=.bool,.. }=>some [.bool]
  | some { d:=.str,.. }=>some [.str]
  | some { d:=.slice e,.. }=>
   match ES tt f e,lkp tt e with
   | some ts,some i=>if (Nat.beq ts.length i.size && Nat.blt 0 ts.length)=true then some [.sl e ts] else none
   | _,_=>none
  | some { d:=.struct fs,size:=sz,.. }=>
   match Dy (ES tt f) fs 0 with
   | some ts=>if Nat.beq ts.length sz=true then some ts else none
   | none=>none
  | _=>none
section
variable {P : Program} {tt : TT} {H : Type} {enc : TypeId × Value → H} {w : World} {spare : Nat → Bool} {held : Bool}
theorem TIok.cellsOf {t:Nat} {i:TI} (h:TIok P t i):P.cellsOf t=i.size:=by
 obtain ⟨inf,h1,h2,_⟩:=h.info
 simp [Program.cellsOf,h1,h2]
theorem L2 {n:Nat} {p:Nat->List Value->Prop} (h:∀ i,i<n->∃ r,p i r):∃ rows:List (List Value),rows.length=n/\∀ i,i<n->p i (rows.getD i []):=by
 obtain ⟨f,hf⟩:=choose_lt h
 refine ⟨(List.range n).map f,by simp,λ i hi=>?_⟩
 have:((List.range n).map f).getD i []=f i:=by simp [List.getD,hi]
 rw [this];exact hf i hi
theorem I2 {a:Addr} {v:Value} (h:w.cell? a=some v):∃ b off,a=⟨b,off,none⟩/\b<w.heap.size:=by
 obtain ⟨b,off,s⟩:=a
 have:=World.cell?_spot h
 simp at this
 subst this
 exact ⟨b,off,rfl,World.block_lt_of_cell? w ⟨b,off,none⟩ h⟩
theorem Kn {α:Type} {l:List α} {i:Nat} {d:α} (h:i<l.length):l[i]?=some (l.getD i d):=by simp [List.getD,h]
theorem I3 {α β:Type} {g:α->Option β} : ∀ {l:List α} {r:List β},l.mapM g=some r->∀ {i:Nat} (h:i<l.length) (h' : i<r.length),g l[i]=some r[i]
 | [],r,_,i,h,_=>by simp at h
 | a::l,r,e,i,h,h'=>by
  simp only [List.mapM_cons,Option.bind_eq_bind,Option.bind_eq_some_iff,Option.pure_def,Option.some.injEq] at e
  obtain ⟨b,h1,bs,h2,rfl⟩:=e
  cases i with
  | zero=>simpa using h1
  | succ i=>simpa using I3 h2 (i:=i) (by simpa using h) (by simpa using h')
theorem KM {b off n:Nat} : (⟨b,off,none⟩:Addr).add n=⟨b,off+n,none⟩:=by
 unfold Addr.add
 split
 ·rename_i h;subst h;rfl
 ·rfl
theorem Et {tr:Nat->Option (List Ty)} {n:Nat} {cs:List Value} (ih:∀ t ts cs (x:DataW H×List MemPlace),tr t=some ts->DataW.trod enc P w 0 spare held n t cs=some x->∃ ds,RdRow w ts ds cs/\fitRow ds) :
  ∀ {fs:List (Nat×Nat×Nat)} {acc:Nat} {ts:List Ty},Dy tr fs acc=some ts->(∀ x ∈ fs,∃ d,DataW.trod enc P w 0 spare held n x.2.1 ((cs.drop x.1).take x.2.2)=some d)->∃ ds,RdRow w ts ds ((cs.drop acc).take ts.length)/\fitRow ds
 | [],acc,ts,h,_=>by
  simp only [Dy,Option.some.injEq] at h
  subst h
  exact ⟨[],by simp [RdRow],by simp [fitRow]⟩
 | (off,t,sz)::r,acc,ts,h,hf=>by
  simp only [Dy] at h
  split at h
  ·rename_i ho
   simp only [Nat.beq_eq] at ho
   subst ho
   split at h
   ·rename_i a b h1 h2
    split at h
    ·rename_i hs
     simp only [Nat.beq_eq] at hs
     simp only [Option.some.injEq] at h
     subst h
     obtain ⟨d,hd⟩:=hf (off,t,sz) (by simp)
     obtain ⟨d1,q1,f1⟩:=ih _ _ _ _ h1 hd
     obtain ⟨d2,q2,f2⟩:=Et ih h2 (λ x hx=>hf x (List.mem_cons_of_mem _ hx))
     refine ⟨d1++d2,?_,f1.app f2⟩
     have e:(cs.drop off).take (a++b).length=(cs.drop off).take a.length++(cs.drop (off+sz)).take b.length:=by
      rw [List.length_append,List.take_add,List.drop_drop,hs]
     rw [e]
     refine RdRow.app _ _ _ ?_ q2
     rw [hs];exact q1
    ·cases h
   ·cases h
  ·cases h
theorem F1 (hT:TTok P tt):∀ (f t:Nat) (ts:List Ty) (fuel:Nat) (cs:List Value) (x:DataW H×List MemPlace),ES tt f t=some ts->DataW.trod enc P w 0 spare held fuel t cs=some x->∃ ds,RdRow w ts ds cs/\fitRow ds
 | 0,t,ts,fuel,cs,x,h,_=>by simp [ES] at h
 | f+1,t,ts,fuel,cs,x,h,hx=>by
  simp only [ES] at h
  split at h
  ·rename_i z b zz hl
   simp only [Option.some.injEq] at h;subst h
   have hk:=(hT _ _ hl).d
   obtain ⟨n,e,_,hw⟩:=DataW.trod_int hk hx
   subst e
   refine ⟨[.int n],RdRow.mk_cons (Rd.mk_int n) RdRow.mk_nil,?_⟩
   have h2:(decide ((-9223372036854775808:Int)<=n) && decide (n<=9223372036854775807))=true:=hw
   simp only [fitRow,Dat.fit];simp at h2;exact ⟨h2,trivial⟩
  ·rename_i z b zz hl
   simp only [Option.some.injEq] at h;subst h
   have hk:=(hT _ _ hl).d
   obtain ⟨n,e,_⟩:=DataW.trod_bool hk hx
   subst e
   exact ⟨[.bool n],RdRow.mk_cons (Rd.mk_bool n) RdRow.mk_nil,by simp [fitRow,Dat.fit]⟩
  ·rename_i z b zz hl
   simp only [Option.some.injEq] at h;subst h
   have hk:=(hT _ _ hl).d
   obtain ⟨n,e,_⟩:=DataW.trod_string hk hx
   subst e
   exact ⟨[.str n],RdRow.mk_cons (Rd.mk_str n) RdRow.mk_nil,by simp [fitRow,Dat.fit]⟩
  ·rename_i e z b zz _ hl
   split at h
   ·rename_i ts' i h1 h2
    split at h
    ·rename_i hs
     simp only [Bool.and_eq_true,Nat.beq_eq,Nat.blt_eq] at hs
     simp only [Option.some.injEq] at h;subst h
     have hk:=(hT _ _ hl).d
     have hc:=(hT _ _ h2).cellsOf
     rcases open_slice hk hx with ⟨hcs,_⟩|⟨a,len,cap,m,n,D,Pl,hcs,_,hle,hm,hmm,_,hel⟩
     ·subst hcs
      refine ⟨[.sl []],RdRow.mk_cons ?_ RdRow.mk_nil,by simp [fitRow,DH,Dat.fit]⟩
      simp only [Rd]
      exact ⟨[],⟨none,0,rfl,by simp,by decide,by simp,.inl ⟨rfl,λ _=>rfl⟩⟩,rfl,by simp⟩
     ·subst hcs
      have hlm:len<=m:=by rw [hmm];split <;> omega
      obtain ⟨rows,hr,hp⟩:=L2 (n:=len) (p:=λ i r=>w.cells? 0 (a.add (i*P.cellsOf e)) (P.cellsOf e)=some r/\DataW.trod enc P w 0 spare held n e r=some (D i,Pl i)) λ i hi=>hel i (by omega)
      obtain ⟨g,hg⟩:=choose_lt (n:=len) (p:=λ i (ds:List Dat)=>RdRow w ts' ds (rows.getD i [])/\fitRow ds) λ i hi=>F1 hT f e ts' n _ _ h1 (hp i hi).2
      have hgl:∀ i,i<len->(((List.range len).map g).getD i [])=g i:=λ i hi=>by simp [List.getD,hi]
      refine ⟨[.sl ((List.range len).map g)],RdRow.mk_cons ?_ RdRow.mk_nil,?_⟩
      rotate_left
      ·simp only [fitRow,Dat.fit]
       refine ⟨F0 λ r hr=>?_,trivial⟩
       obtain ⟨i,hi,rfl⟩:=List.mem_map.1 hr
       exact (hg i (List.mem_range.1 hi)).2
      simp only [Rd]
      have hrl:∀ i,i<len->(rows.getD i []).length=ts'.length:=λ i hi=>by
       have:=RdRow.lens _ _ _ (hg i hi).1;omega
      refine ⟨rows,⟨some a,cap,by rw [hr],by omega,hm,λ r hmem=>?_,?_⟩,by simp [hr],λ k hk=>?_⟩
      ·obtain ⟨i,hi,e⟩:=List.getElem_of_mem hmem
       have:=hrl i (by omega)
       simpa [List.getD,hi,e] using this
      ·by_cases h0:len=0
       ·left;exact ⟨List.eq_nil_of_length_eq_zero (by omega),by simp⟩
       ·right
        have c0:=World.cells?_some (hp 0 (by omega)).1
        have c0':=c0.2.2 0 (by omega)
        have hlt0:0<(rows.getD 0 []).length:=by rw [hrl 0 (by omega)];omega
        rw [List.getElem?_eq_getElem hlt0] at c0'
        obtain ⟨b,off,e1,hb⟩:=I2 (by rw [Nat.zero_mul] at c0';simpa [Addr.add] using c0')
        subst e1
        refine ⟨b,off,rfl,hb,λ j hj i hi=>?_⟩
        have cj:=(World.cells?_some (hp j (by omega)).1).2.2 i (by omega)
        rw [KM,KM,hc,← hs.1] at cj
        rw [← Nat.add_assoc,cj]
        have:=hrl j (by omega)
        exact Kn (by omega)
      ·have hk:=(by simpa using hk:k<len)
       rw [hgl k hk];exact (hg k hk).1
    ·cases h
   ·cases h
  ·rename_i fs z b zz _ hl
   split at h
   ·rename_i ts' h1
    split at h
    ·rename_i hs
     simp only [Nat.beq_eq] at hs
     simp only [Option.some.injEq] at h;subst h
     obtain ⟨fl,k1,k2,k3⟩:=(hT _ _ hl).d
     have hc:P.cellsOf t=z:=(hT _ _ hl).cellsOf
     obtain ⟨xs,n,rfl,rfl,hlen,hxl,hf⟩:=DataW.trod_struct k1 hx
     have key:∀ x ∈ fs,∃ d,DataW.trod enc P w 0 spare held n x.2.1 ((cs.drop x.1).take x.2.2)=some d:=by
      intro x hmem
      obtain ⟨i,hi,e⟩:=List.getElem_of_mem hmem
      have hsz:fl.size=fs.length:=by have:=congrArg List.length k2;simpa using this
      have hfi:fl[i]?=some fl[i]:=by simp [show i<fl.size by omega]
      have:=hf i fl[i] hfi
      have k2' : (fl[i].offset,fl[i].type)=(fs[i].1,fs[i].2.1):=by
       have:=congrArg (λ l=>l[i]?) k2
       simpa [hi,show i<fl.size by omega] using this
      have k3' : P.cellsOf fl[i].type=fs[i].2.2:=by
       have h3:=I3 k3 (i:=i) (by simp;omega) (by simp;omega)
       simp only [Option.map_eq_some_iff] at h3
       obtain ⟨inf,q1,q2⟩:=h3
       simp at q2
       simp at q1
       simp [Program.cellsOf,q1,q2]
      simp only [Prod.mk.injEq] at k2'
      rw [← e]
      rw [k2'.1,k2'.2] at this
      rw [k2'.2] at k3'
      rw [k3'] at this
      exact ⟨xs[i]'(by omega),by rw [this];simp⟩
     obtain ⟨ds,hds⟩:=Et (λ t ts cs x h hx=>F1 hT f t ts n cs x h hx) h1 key
     refine ⟨ds,?_⟩
     rw [List.drop_zero,List.take_of_length_le (by omega)] at hds
     exact hds
    ·cases h
   ·cases h
  ·cases h
theorem MY (hT:TTok P tt) (f t:Nat) (ts:List Ty) (fuel:Nat) (cs:List Value) (x:DataW H×List MemPlace) (h:ES tt f t=some ts) (hx:DataW.trod enc P w 0 spare held fuel t cs=some x):∃ ds,RdRow w ts ds cs:=(F1 hT f t ts fuel cs x h hx).imp λ _ h=>h.1
end
end Go.Proofs.YtgggkcoljpimcaaDoor
namespace Go.Proofs.YtgggkcoljpimcaaDoor
set_option linter.unusedVariables false
set_option linter.unusedSimpArgs false
open Go.RowKit Go.Deep Go.ChangeShapes Go.WideShapes
section
variable {P : Program}
theorem Ko {w:World} {r:Reach} {base:Nat} {t:TypeId} {fs:Array Field} {cs:Array Value} (ht:P.underlying t=some (.struct fs)) (h:Value.okWide P w r base t (.agg cs)) {i:Nat} {n:Int} (hi:cs[i]?=some (.int .i64 n)):-9223372036854775808<=n/\n<=9223372036854775807:=by
 simp only [Value.okWide,ht] at h
 obtain ⟨cs',h1,h2,h3⟩:=h
 obtain rfl:cs'=cs:=(Value.agg.inj h1).symm
 obtain ⟨ts,_,_,h4⟩:=h3
 obtain ⟨u,_,h5⟩:=h4 i _ hi
 unfold Cell.okWide at h5
 have h6:Cell.ok P w r base u (.int .i64 n):=by
  split at h5 <;> first|exact h5|(rename_i e;cases e)
 unfold Cell.ok at h6
 split at h6 <;> first|exact h6.elim|skip
 all_goals try (rename_i e;cases e)
 all_goals first|(obtain ⟨e,h7⟩:=h6;subst e;exact ⟨h7.1,h7.2⟩)|(obtain ⟨e,h7⟩:=h6;cases e)
theorem RdRow.int_at {w:World} : ∀ {ts:List Ty} {ds:List Dat} {vs:List Value} (_:RdRow w ts ds vs) {i:Nat} (_:ts[i]?=some .int),∃ n,ds.getD i (.int 0)=.int n/\vs[i]?=some (.int .i64 n)
 | [],_,_,_,i,hi=>by simp at hi
 | t::ts,[],_,h,_,_=>by simp [RdRow] at h
 | t::ts,d::ds,[],h,_,_=>by simp [RdRow] at h
 | t::ts,d::ds,v::vs,h,0,hi=>by
  simp only [RdRow] at h
  have hi:t=.int:=by simpa using hi
  subst hi
  cases d with
  | int n=>exact ⟨n,rfl,by have:=h.1;simp only [Rd] at this;simp [this]⟩
  | _=>have:=h.1;simp [Rd] at this
 | t::ts,d::ds,v::vs,h,i+1,hi=>by
  simp only [RdRow] at h
  obtain ⟨n,e1,e2⟩:=RdRow.int_at h.2 (i:=i) (by simpa using hi)
  exact ⟨n,by simpa using e1,by simpa using e2⟩
theorem Jh {w:World} {r:Reach} {base:Nat} {t:TypeId} {fs:Array Field} {cs:Array Value} {ts:List Ty} {ds:List Dat} (ht:P.underlying t=some (.struct fs)) (h:Value.okWide P w r base t (.agg cs)) (hr:RdRow w ts ds cs.toList) {i:Nat} (hi:ts[i]?=some .int):-9223372036854775808<=(ds.getD i (.int 0)).n/\(ds.getD i (.int 0)).n<=9223372036854775807:=by
 obtain ⟨n,e1,e2⟩:=RdRow.int_at hr hi
 rw [e1]
 have e2:cs[i]?=some (.int .i64 n):=by simpa using e2
 exact Ko ht h e2
theorem Ji {w:World} {d:DC} {u:Value} (h:Rd w d.ty d.dat u) (hok:d.ok=true):BD (λ b=>b<w.heap.size) w d u:=by
 cases d with
 | sl e ts rows=>exact RdS.of_rd _ _ _ h
 | ro d=>cases hok
 | im v=>
  have h2:=Fp.rd _ _ _ _ (DC.im_ok hok w)
  simp only [BD]
  unfold DC.ok at hok
  split at hok <;> first|cases hok|skip
  all_goals simp_all [DC.ty,DC.dat,Rd]
theorem Cq {w:World} : ∀ {dcs:List DC} {us:List Value},RdRow w (dcs.map DC.ty) (dcs.map DC.dat) us->dcs.all DC.ok=true->us.length=dcs.length/\∀ (p:Nat) (d:DC) (u:Value),dcs[p]?=some d->us[p]?=some u->BD (λ b=>b<w.heap.size) w d u
 | [],us,h,_=>by obtain ⟨-,rfl⟩:=RdRow.nil_inv h;simp
 | d::ds,us,h,hok=>by
  simp only [List.all_cons,Bool.and_eq_true] at hok
  obtain ⟨u,us,rfl,h1,h2⟩:=RdRow.cons2 (by simpa using h)
  obtain ⟨i1,i2⟩:=Cq h2 hok.2
  refine ⟨by simp [i1],λ p d' u' hp hu=>?_⟩
  cases p with
  | zero=>simp only [List.getElem?_cons_zero,Option.some.injEq] at hp hu;subst hp;subst hu;exact Ji h1 hok.1
  | succ p=>exact i2 p d' u' (by simpa using hp) (by simpa using hu)
theorem Kp {c:Con} {f:Nat} (hc:c.Ok P f) (hmu:c.mu=[]) (i:c.ι) (hp:c.pre i) (hres:c.res i=⟨false,[none],[.im (.bool true)]⟩) {ts:List Ty} {ds:List Dat} {us:List Value} {w:World} (h:RdRow w ts ds us)
  (hts:Ty.eras ts=Ty.eras (((c.args i).flatMap DA.cells).map DC.ty)) (hds:ds=((c.args i).flatMap DA.cells).map DC.dat) (hok:((c.args i).flatMap DA.cells).all DC.ok=true) (hst:Stood w:=by exact ⟨λ _ hb=>(List.not_mem_nil hb).elim,trivial⟩) :
  Calls P f (Am (c.args i) us).toArray w λ e w'=>e=.returned (.bool true)/\Below w.heap.size w w':=by
 subst hds
 obtain ⟨h1,h2⟩:=Cq (h.cast hts) hok
 refine (hc.calls i hp (λ b=>b<w.heap.size) w us (λ _=>[]) ⟨h1,λ _ h=>h,λ p d u hd hu _=>h2 p d u hd hu,λ j p hj=>?_,λ a b x _ _ _ hx=>by simp at hx,λ j b _ hb=>by simp at hb,hst,λ j b _ hb=>by simp at hb⟩).mono ?_
 ·rw [hmu] at hj;simp at hj
 ·rintro e w' ⟨rs,bs,rfl,hpost⟩
  have hr:=hpost.res
  rw [hres] at hr
  refine ⟨?_,hpost.os,hpost.tape,hpost.output,hpost.size,λ b hb=>hpost.keep b hb (λ j hj=>by rw [hmu] at hj;simp at hj)⟩
  rw [hres]
  cases rs with
  | nil=>simp [AY] at hr
  | cons r rs=>
   obtain ⟨rfl,hr⟩:=(by simpa only [AY] using hr:r=_/\_)
   rfl
end
end Go.Proofs.YtgggkcoljpimcaaDoor
namespace Go.Proofs.YtgggkcoljpimcaaDoor
set_option linter.unusedVariables false
set_option linter.unusedSimpArgs false
open Go.RowKit
section
variable {P : Program} {f : Nat}
theorem CL {c:Con} (hmu:c.mu=[]) (en:KL P f) (hs:∀ i,(c.res i).cells.length<=32) (hok:∀ i,((c.args i).flatMap DA.cells).all DC.ok=true) (out:c.ι->List DC) (hout:∀ i,(c.res i).cells=(out i).map DC.rc) (hoo:∀ i,(out i).all DC.ok=true)
  (hc:∀ i,c.pre i->∀ w us,RdRow w (((c.args i).flatMap DA.cells).map DC.ty) (((c.args i).flatMap DA.cells).map DC.dat) us->Calls P f (Am (c.args i) us).toArray w λ e w'=>∃ rs,e=.returned ((c.res i).val rs)/\Own w' w.heap.size w'.heap.size ((out i).map DC.ty) ((out i).map DC.dat) rs/\Below w.heap.size w w') (hqm:c.mono=false:=by rfl):c.Ok P f where
 enter:=en
 small:=hs
 calls:=by
  intro i hp F w us mb h
  rw [hmu] at h
  refine (hc i hp w us (Dx h (hok i))).mono ?_
  rintro e w' ⟨rs,rfl,ho,hb⟩
  obtain ⟨bs,hpost⟩:=Fz (c:=c) (i:=i) (F:=F) (us:=us) (mb:=mb) hmu (hout i) hb ho rfl (hoo i)
  exact ⟨rs,bs,rfl,hpost⟩
 quiet:=λ h=>by rw [hqm] at h;cases h
theorem F3 {c:Con} (hmu:c.mu=[]) (en:KL P f) (hs:∀ i,(c.res i).cells.length<=32) (hok:∀ i,((c.args i).flatMap DA.cells).all DC.ok=true) (out:c.ι->List DC) (hout:∀ i,(c.res i).cells=(out i).map DC.rc) (hoo:∀ i,(out i).all DC.ok=true)
  (hc:∀ i,c.pre i->∀ w us,Stood w->RdRow w (((c.args i).flatMap DA.cells).map DC.ty) (((c.args i).flatMap DA.cells).map DC.dat) us->Calls P f (Am (c.args i) us).toArray w λ e w'=>∃ rs,e=.returned ((c.res i).val rs)/\Own w' w.heap.size w'.heap.size ((out i).map DC.ty) ((out i).map DC.dat) rs/\Below w.heap.size w w') (hqm:c.mono=false:=by rfl):c.Ok P f where
 enter:=en
 small:=hs
 calls:=by
  intro i hp F w us mb h
  have hst:=h.st
  rw [hmu] at h
  refine (hc i hp w us hst (Dx h (hok i))).mono ?_
  rintro e w' ⟨rs,rfl,ho,hb⟩
  obtain ⟨bs,hpost⟩:=Fz (c:=c) (i:=i) (F:=F) (us:=us) (mb:=mb) hmu (hout i) hb ho rfl (hoo i)
  exact ⟨rs,bs,rfl,hpost⟩
 quiet:=λ h=>by rw [hqm] at h;cases h
theorem Con.Ok.rd {c:Con} (hc:c.Ok P f) (hmu:c.mu=[]) (i:c.ι) (hp:c.pre i) {ts:List Ty} {ds:List Dat} {us:List Value} {w:World} (h:RdRow w ts ds us) (hst:Stood w)
  (hts:Ty.eras ts=Ty.eras (((c.args i).flatMap DA.cells).map DC.ty)) (hds:ds=((c.args i).flatMap DA.cells).map DC.dat) (hok:((c.args i).flatMap DA.cells).all DC.ok=true) {v:Value} (hres:c.res i=⟨false,[none],[.im v]⟩) :
  Calls P f (Am (c.args i) us).toArray w λ e w'=>e=.returned v/\Below w.heap.size w w':=by
 subst hds
 obtain ⟨h1,h2⟩:=Cq (h.cast hts) hok
 refine (hc.calls i hp (λ b=>b<w.heap.size) w us (λ _=>[]) ⟨h1,λ _ h=>h,λ p d u hd hu _=>h2 p d u hd hu,λ j p hj=>?_,λ a b x _ _ _ hx=>by simp at hx,λ j b _ hb=>by simp at hb,hst,λ j b _ hb=>by simp at hb⟩).mono ?_
 ·rw [hmu] at hj;simp at hj
 ·rintro e w' ⟨rs,bs,rfl,hpost⟩
  have hr:=hpost.res
  rw [hres] at hr
  refine ⟨?_,hpost.os,hpost.tape,hpost.output,hpost.size,λ b hb=>hpost.keep b hb (λ j hj=>by rw [hmu] at hj;simp at hj)⟩
  rw [hres]
  cases rs with
  | nil=>simp [AY] at hr
  | cons u us=>
   simp only [AY] at hr
   obtain ⟨rfl,hr⟩:=hr
   rfl
theorem Ba {cells:List DC} {us:List Value} (h:us.length=cells.length):Am [.agg cells] us=[.agg us.toArray]:=by
 simp only [Am]
 rw [List.take_of_length_le (by omega)]
end
end Go.Proofs.YtgggkcoljpimcaaDoor
namespace Go.Proofs.YtgggkcoljpimcaaDoor
set_option linter.unusedVariables false
set_option linter.unusedSimpArgs false
open Go.RowKit
def szR (a:Nat) (n:Int):Int:=if n<(a:Int) then -1 else n-a
theorem Ay {a b:Int} {k:IntKind} (h:a=b):Value.int k a=Value.int k b:=by rw [h]
def Ty.num:Ty->Bool
 | .int=>true
 | .bool=>true
 | _=>false
theorem F4:∀ {ts:List Ty} {ds:List Dat},ts.all Ty.num=true->hasRow ts ds->AO ds=0
 | [],[],_,_=>rfl
 | [],_::_,_,h=>by simp [hasRow] at h
 | _::_,[],_,h=>by simp [hasRow] at h
 | t::ts,d::ds,hl,h=>by
  simp only [List.all_cons,Bool.and_eq_true] at hl
  simp only [hasRow] at h
  have:=F4 hl.2 h.2
  cases t <;> cases d <;> simp_all [Dat.has,Ty.num,AO,Dat.sz]
theorem L3 {e:Nat} {ts:List Ty} {l:List (List Dat)} (hl:ts.all Ty.num=true) (h:Dat.has (.sl e ts) (.sl l)):AI l=0:=by
 simp only [Dat.has] at h
 exact IF λ k hk=>F4 hl (h.2 k hk)
theorem F5 {e:Nat} {ts:List Ty} {l:List (List Dat)} (h:Dat.has (.sl e ts) (.sl l)):∀ k,k<l.length->hasRow ts (l.getD k []):=by
 simp only [Dat.has] at h;exact h.2
theorem MZ {e:Nat} {ts:List Ty} {l:List (List Dat)} (h:Dat.has (.sl e ts) (.sl l)):l.length<=9223372036854775807:=by
 simp only [Dat.has] at h;exact h.1
theorem hasRow.cons {t:Ty} {ts:List Ty} {ds:List Dat} (h:hasRow (t::ts) ds):∃ d ds',ds=d::ds'/\Dat.has t d/\hasRow ts ds':=by
 cases ds with
 | nil=>simp [hasRow] at h
 | cons d ds=>exact ⟨d,ds,rfl,by simpa [hasRow] using h⟩
theorem hasRow.nil {ds:List Dat} (h:hasRow [] ds):ds=[]:=by cases ds <;> simp [hasRow] at h ⊢
theorem Dat.has_int {d:Dat} (h:Dat.has .int d):∃ n,d=.int n:=by cases d <;> simp [Dat.has] at h ⊢
theorem Dat.has_sl {d:Dat} {e:Nat} {ts:List Ty} (h:Dat.has (.sl e ts) d):∃ n,d=.sl n:=by cases d <;> simp [Dat.has] at h ⊢
end Go.Proofs.YtgggkcoljpimcaaDoor
namespace Go.Proofs.YtgggkcoljpimcaaDoor
set_option linter.unusedVariables false
set_option linter.unusedSimpArgs false
open Go.RowKit
mutual
def Ty.K:Ty->Nat
 | .sl _ ts=>GV ts
 | _=>1
def GV:List Ty->Nat
 | []=>0
 | t::ts=>t.K+GV ts
end
mutual
theorem M5:∀ (t:Ty) (d:Dat),Dat.has t d->d.cnt<=t.K*(1+d.sz)
 | .int,d,h=>by cases d <;> simp [Dat.has,Dat.cnt,Ty.K] at h ⊢
 | .bool,d,h=>by cases d <;> simp [Dat.has,Dat.cnt,Ty.K] at h ⊢
 | .str,d,h=>by cases d <;> simp [Dat.has,Dat.cnt,Ty.K] at h ⊢
 | .sl e ts,d,h=>by
  cases d with
  | sl ls=>
   simp only [Dat.has] at h
   simp only [Dat.cnt,Ty.K,Dat.sz]
   have key:∀ k,k<=ls.length->Aw (ls.take k)<=GV ts*(k+AI (ls.take k)):=by
    intro k
    induction k with
    | zero=>intro _;simp [Aw]
    | succ k ih=>
     intro hk
     rw [He ls k (by omega),EZ ls k (by omega)]
     have h1:=ih (by omega)
     have h2:=ET ts _ (h.2 k (by omega))
     rw [Nat.mul_add] at h1 h2
     rw [Nat.mul_add,Nat.mul_add,Nat.mul_add]
     omega
   have:=key ls.length (Nat.le_refl _)
   rw [List.take_length] at this
   refine Nat.le_trans this ?_
   exact Nat.mul_le_mul_left _ (by omega)
  | _=>simp [Dat.has] at h
theorem ET:∀ (ts:List Ty) (ds:List Dat),hasRow ts ds->CN ds<=GV ts*(1+AO ds)
 | [],ds,h=>by cases ds <;> simp [hasRow,CN] at h ⊢
 | t::ts,[],h=>by simp [hasRow] at h
 | t::ts,d::ds,h=>by
  simp only [hasRow] at h
  have h1:=M5 t d h.1
  have h2:=ET ts ds h.2
  simp only [CN,GV,AO]
  have h3:t.K*(1+d.sz)<=t.K*(1+(d.sz+AO ds)):=Nat.mul_le_mul_left _ (by omega)
  have h4:GV ts*(1+AO ds)<=GV ts*(1+(d.sz+AO ds)):=Nat.mul_le_mul_left _ (by omega)
  rw [Nat.add_mul]
  omega
end
theorem Eu:∀ ds:List Dat,cntV ds<=CN ds
 | []=>Nat.le_refl _
 | d::ds=>by
  simp only [cntV,CN]
  have:=Eu ds
  have:d.cntV<=d.cnt:=by cases d <;> simp [Dat.cntV,Dat.cnt]
  omega
theorem Jj {ts:List Ty} {ds:List Dat} (h:hasRow ts ds) (hs:AO ds<=1048576) (hK:GV ts<=1000):(cntV ds:Int)<=2000000000:=by
 have h1:=Eu ds
 have h2:=ET ts ds h
 have h3:GV ts*(1+AO ds)<=1000*(1+AO ds):=Nat.mul_le_mul_right _ hK
 omega
def Ma (e:Nat):List Ty:=[.int,.bool,.sl e [.int],.sl e [.int],.bool,.sl e [.int],.sl e [.int]]
def plGood (e:Nat) (p:PlD):Prop:=(∃ w vs,RdRow w (Ma e) p.row vs)/\AO p.row<=1048576
theorem plGood.has {e:Nat} {p:PlD} (h:plGood e p):hasRow (Ma e) p.row:=by obtain ⟨⟨w,vs,h⟩,_⟩:=h;exact RdRow.has _ _ _ h
theorem plGood.ok {e:Nat} {p:PlD} (h:plGood e p):p.ok:=by
 have:=h.2
 simp only [PlD.row,AO,Dat.sz] at this
 refine ⟨⟨?_,?_⟩,⟨?_,?_⟩⟩ <;> omega
theorem plGood.cnt {e:Nat} {p:PlD} (h:plGood e p):(cntV p.row:Int)<=2000000000:=Jj h.has h.2 (by simp [GV,Ma,Ty.K])
theorem plGood.at {e:Nat} {p:PlD} (n:Int) (h:plGood e p):plGood e ⟨n,p.pt⟩:=by
 obtain ⟨⟨w,vs,h⟩,hs⟩:=h
 refine ⟨?_,by simpa [PlD.row,AO,Dat.sz] using hs⟩
 simp only [PlD.row,Ma] at h ⊢
 obtain ⟨v,vs,rfl,h1,h2⟩:=RdRow.cons2 h
 exact ⟨w,.int .i64 n::vs,RdRow.mk_cons (Rd.mk_int n) h2⟩
theorem plGood.after {e:Nat} {q x:PlD} (hq:plGood e q) (hx:plGood e x):plGood e (Lz q x):=by
 unfold Lz
 split
 ·exact hx.at q.h
 ·split
  ·exact hq.at _
  ·exact hq
theorem M6 {a:Nat} {n:Int} (h:0<=szR a n):szR a n=n-a/\(a:Int)<=n:=by
 unfold szR at *
 split at h
 ·omega
 ·rename_i hn;rw [if_neg hn];exact ⟨rfl,by omega⟩
end Go.Proofs.YtgggkcoljpimcaaDoor
namespace Go.Proofs.YtgggkcoljpimcaaDoor
set_option linter.unusedVariables false
set_option linter.unusedSimpArgs false
open Go.RowKit
end Go.Proofs.YtgggkcoljpimcaaDoor
