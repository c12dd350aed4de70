import Derived.Test.YtdgmbbjoifneiaaGreatDoorPyExC
import Derived.Deep.Slices
import Derived.OpenShut
namespace Go.Proofs.YtdgmbbjoifneiaaGreatDoor
set_option linter.unusedVariables false
set_option linter.unusedSimpArgs false
open Go.RowKit Go.Deep Go.ChangeShapes Go.WideShapes
mutual
def Dat.fit:Dat->Prop
 | .int n=>-9223372036854775808<=n/\n<=9223372036854775807
 | .sl ls=>P7 ls
 | _=>True
def fitRow:List Dat->Prop
 | []=>True
 | d::ds=>d.fit/\fitRow ds
def P7:List (List Dat)->Prop
 | []=>True
 | r::rs=>fitRow r/\P7 rs
end
theorem fitRow.app:∀ {a b:List Dat},fitRow a->fitRow b->fitRow (a++b)
 | [],_,_,h=>h
 | _::_,_,h,h2=>by simp only [List.cons_append,fitRow] at h ⊢;exact ⟨h.1,fitRow.app h.2 h2⟩
section
variable {P : Program} {tt : TT} {H : Type} {enc : TypeId × Value → H} {w : World} {spare : Nat → Bool} {held : Bool}
theorem TIok.cellsOf {t:Nat} {i:TI} (h:TIok P t i):P.cellsOf t=i.size:=by
 obtain ⟨inf,h1,h2,_⟩:=h.info
 simp [Program.cellsOf,h1,h2]
theorem NU {a:Addr} {v:Value} (h:w.cell? a=some v):∃ b off,a=⟨b,off,none⟩/\b<w.heap.size:=by
 obtain ⟨b,off,s⟩:=a
 have:=World.cell?_spot h
 simp at this
 subst this
 exact ⟨b,off,rfl,World.block_lt_of_cell? w ⟨b,off,none⟩ h⟩
theorem U5 {b off n:Nat} : (⟨b,off,none⟩:Addr).add n=⟨b,off+n,none⟩:=by
 unfold Addr.add
 split
 ·rename_i h;subst h;rfl
 ·rfl
end
end Go.Proofs.YtdgmbbjoifneiaaGreatDoor
namespace Go.Proofs.YtdgmbbjoifneiaaGreatDoor
set_option linter.unusedVariables false
set_option linter.unusedSimpArgs false
open Go.RowKit Go.Deep Go.ChangeShapes Go.WideShapes
section
variable {P : Program}
theorem RL {w:World} {r:Reach} {base:Nat} {t e:TypeId} {v:Value} (ht:P.underlying t=some (.slice e)) (h:Value.okWide P w r base t v):v.cells.toList=[v]:=by
 simp only [Value.okWide,ht,Cell.okWide] at h
 cases v <;> simp_all [Cell.ok,Value.cells]
theorem O5 {w:World} {d:DC} {u:Value} (h:Rd w d.ty d.dat u) (hok:d.ok=true):B4 (λ b=>b<w.heap.size) w d u:=by
 cases d with
 | sl e ts rows=>exact RdS.of_rd _ _ _ h
 | ro d=>cases hok
 | im v=>
  have h2:=Fp.rd _ _ _ _ (DC.im_ok hok w)
  simp only [B4]
  unfold DC.ok at hok
  split at hok <;> first|cases hok|skip
  all_goals simp_all [DC.ty,DC.dat,Rd]
theorem IY {w:World} : ∀ {dcs:List DC} {us:List Value},RdRow w (dcs.map DC.ty) (dcs.map DC.dat) us->dcs.all DC.ok=true->us.length=dcs.length/\∀ (p:Nat) (d:DC) (u:Value),dcs[p]?=some d->us[p]?=some u->B4 (λ b=>b<w.heap.size) w d u
 | [],us,h,_=>by obtain ⟨-,rfl⟩:=RdRow.nil_inv h;simp
 | d::ds,us,h,hok=>by
  simp only [List.all_cons,Bool.and_eq_true] at hok
  obtain ⟨u,us,rfl,h1,h2⟩:=RdRow.cons2 (by simpa using h)
  obtain ⟨i1,i2⟩:=IY h2 hok.2
  refine ⟨by simp [i1],λ p d' u' hp hu=>?_⟩
  cases p with
  | zero=>simp only [List.getElem?_cons_zero,Option.some.injEq] at hp hu;subst hp;subst hu;exact O5 h1 hok.1
  | succ p=>exact i2 p d' u' (by simpa using hp) (by simpa using hu)
end
end Go.Proofs.YtdgmbbjoifneiaaGreatDoor
namespace Go.Proofs.YtdgmbbjoifneiaaGreatDoor
set_option linter.unusedVariables false
set_option linter.unusedSimpArgs false
open Go.RowKit
section
variable {P : Program} {f : Nat}
theorem CF {c:Con} (hmu:c.mu=[]) (en:V1 P f) (hs:∀ i,(c.res i).cells.length<=32) (hok:∀ i,((c.args i).flatMap DA.cells).all DC.ok=true) (out:c.ι->List DC) (hout:∀ i,(c.res i).cells=(out i).map DC.rc) (hoo:∀ i,(out i).all DC.ok=true)
  (hc:∀ i,c.pre i->∀ w us,RdRow w (((c.args i).flatMap DA.cells).map DC.ty) (((c.args i).flatMap DA.cells).map DC.dat) us->Calls P f (A3 (c.args i) us).toArray w λ e w'=>∃ rs,e=.returned ((c.res i).val rs)/\Own w' w.heap.size w'.heap.size ((out i).map DC.ty) ((out i).map DC.dat) rs/\Below w.heap.size w w') (hqm:c.mono=false:=by rfl):c.Ok P f where
 enter:=en
 small:=hs
 calls:=by
  intro i hp F w us mb h
  rw [hmu] at h
  refine (hc i hp w us (NS h (hok i))).mono ?_
  rintro e w' ⟨rs,rfl,ho,hb⟩
  obtain ⟨bs,hpost⟩:=NT (c:=c) (i:=i) (F:=F) (us:=us) (mb:=mb) hmu (hout i) hb ho rfl (hoo i)
  exact ⟨rs,bs,rfl,hpost⟩
 quiet:=λ h=>by rw [hqm] at h;cases h
theorem El {c:Con} (hmu:c.mu=[]) (en:V1 P f) (hs:∀ i,(c.res i).cells.length<=32) (hok:∀ i,((c.args i).flatMap DA.cells).all DC.ok=true) (out:c.ι->List DC) (hout:∀ i,(c.res i).cells=(out i).map DC.rc) (hoo:∀ i,(out i).all DC.ok=true)
  (hc:∀ i,c.pre i->∀ w us,Stood w->RdRow w (((c.args i).flatMap DA.cells).map DC.ty) (((c.args i).flatMap DA.cells).map DC.dat) us->Calls P f (A3 (c.args i) us).toArray w λ e w'=>∃ rs,e=.returned ((c.res i).val rs)/\Own w' w.heap.size w'.heap.size ((out i).map DC.ty) ((out i).map DC.dat) rs/\Below w.heap.size w w') (hqm:c.mono=false:=by rfl):c.Ok P f where
 enter:=en
 small:=hs
 calls:=by
  intro i hp F w us mb h
  have hst:=h.st
  rw [hmu] at h
  refine (hc i hp w us hst (NS h (hok i))).mono ?_
  rintro e w' ⟨rs,rfl,ho,hb⟩
  obtain ⟨bs,hpost⟩:=NT (c:=c) (i:=i) (F:=F) (us:=us) (mb:=mb) hmu (hout i) hb ho rfl (hoo i)
  exact ⟨rs,bs,rfl,hpost⟩
 quiet:=λ h=>by rw [hqm] at h;cases h
theorem Con.Ok.rd {c:Con} (hc:c.Ok P f) (hmu:c.mu=[]) (i:c.ι) (hp:c.pre i) {ts:List Ty} {ds:List Dat} {us:List Value} {w:World} (h:RdRow w ts ds us) (hst:Stood w)
  (hts:Ty.eras ts=Ty.eras (((c.args i).flatMap DA.cells).map DC.ty)) (hds:ds=((c.args i).flatMap DA.cells).map DC.dat) (hok:((c.args i).flatMap DA.cells).all DC.ok=true) {v:Value} (hres:c.res i=⟨false,[none],[.im v]⟩) :
  Calls P f (A3 (c.args i) us).toArray w λ e w'=>e=.returned v/\Below w.heap.size w w':=by
 subst hds
 obtain ⟨h1,h2⟩:=IY (h.cast hts) hok
 refine (hc.calls i hp (λ b=>b<w.heap.size) w us (λ _=>[]) ⟨h1,λ _ h=>h,λ p d u hd hu _=>h2 p d u hd hu,λ j p hj=>?_,λ a b x _ _ _ hx=>by simp at hx,λ j b _ hb=>by simp at hb,hst,λ j b _ hb=>by simp at hb⟩).mono ?_
 ·rw [hmu] at hj;simp at hj
 ·rintro e w' ⟨rs,bs,rfl,hpost⟩
  have hr:=hpost.res
  rw [hres] at hr
  refine ⟨?_,hpost.os,hpost.tape,hpost.output,hpost.size,λ b hb=>hpost.keep b hb (λ j hj=>by rw [hmu] at hj;simp at hj)⟩
  rw [hres]
  cases rs with
  | nil=>simp [Ap] at hr
  | cons u us=>
   simp only [Ap] at hr
   obtain ⟨rfl,hr⟩:=hr
   rfl
end
end Go.Proofs.YtdgmbbjoifneiaaGreatDoor
namespace Go.Proofs.YtdgmbbjoifneiaaGreatDoor
set_option linter.unusedVariables false
set_option linter.unusedSimpArgs false
open Go.RowKit
theorem AQ {a b:Int} {k:IntKind} (h:a=b):Value.int k a=Value.int k b:=by rw [h]
def Ty.num:Ty->Bool
 | .int=>true
 | .bool=>true
 | _=>false
theorem U6 {e:Nat} {ts:List Ty} {l:List (List Dat)} (h:Dat.has (.sl e ts) (.sl l)):l.length<=9223372036854775807:=by
 simp only [Dat.has] at h;exact h.1
theorem hasRow.cons {t:Ty} {ts:List Ty} {ds:List Dat} (h:hasRow (t::ts) ds):∃ d ds',ds=d::ds'/\Dat.has t d/\hasRow ts ds':=by
 cases ds with
 | nil=>simp [hasRow] at h
 | cons d ds=>exact ⟨d,ds,rfl,by simpa [hasRow] using h⟩
theorem hasRow.nil {ds:List Dat} (h:hasRow [] ds):ds=[]:=by cases ds <;> simp [hasRow] at h ⊢
end Go.Proofs.YtdgmbbjoifneiaaGreatDoor
namespace Go.Proofs.YtdgmbbjoifneiaaGreatDoor
set_option linter.unusedVariables false
set_option linter.unusedSimpArgs false
open Go.RowKit
mutual
def Ty.K:Ty->Nat
 | .sl _ ts=>KZ ts
 | _=>1
def KZ:List Ty->Nat
 | []=>0
 | t::ts=>t.K+KZ ts
end
mutual
theorem WT:∀ (t:Ty) (d:Dat),Dat.has t d->d.cnt<=t.K*(1+d.sz)
 | .int,d,h=>by cases d <;> simp [Dat.has,Dat.cnt,Ty.K] at h ⊢
 | .bool,d,h=>by cases d <;> simp [Dat.has,Dat.cnt,Ty.K] at h ⊢
 | .str,d,h=>by cases d <;> simp [Dat.has,Dat.cnt,Ty.K] at h ⊢
 | .sl e ts,d,h=>by
  cases d with
  | sl ls=>
   simp only [Dat.has] at h
   simp only [Dat.cnt,Ty.K,Dat.sz]
   have key:∀ k,k<=ls.length->Bh (ls.take k)<=KZ ts*(k+DO (ls.take k)):=by
    intro k
    induction k with
    | zero=>intro _;simp [Bh]
    | succ k ih=>
     intro hk
     rw [Ln ls k (by omega),Ma ls k (by omega)]
     have h1:=ih (by omega)
     have h2:=H0 ts _ (h.2 k (by omega))
     rw [Nat.mul_add] at h1 h2
     rw [Nat.mul_add,Nat.mul_add,Nat.mul_add]
     omega
   have:=key ls.length (Nat.le_refl _)
   rw [List.take_length] at this
   refine Nat.le_trans this ?_
   exact Nat.mul_le_mul_left _ (by omega)
  | _=>simp [Dat.has] at h
theorem H0:∀ (ts:List Ty) (ds:List Dat),hasRow ts ds->Ee ds<=KZ ts*(1+Dn ds)
 | [],ds,h=>by cases ds <;> simp [hasRow,Ee] at h ⊢
 | t::ts,[],h=>by simp [hasRow] at h
 | t::ts,d::ds,h=>by
  simp only [hasRow] at h
  have h1:=WT t d h.1
  have h2:=H0 ts ds h.2
  simp only [Ee,KZ,Dn]
  have h3:t.K*(1+d.sz)<=t.K*(1+(d.sz+Dn ds)):=Nat.mul_le_mul_left _ (by omega)
  have h4:KZ ts*(1+Dn ds)<=KZ ts*(1+(d.sz+Dn ds)):=Nat.mul_le_mul_left _ (by omega)
  rw [Nat.add_mul]
  omega
end
theorem IZ:∀ ds:List Dat,cntV ds<=Ee ds
 | []=>Nat.le_refl _
 | d::ds=>by
  simp only [cntV,Ee]
  have:=IZ ds
  have:d.cntV<=d.cnt:=by cases d <;> simp [Dat.cntV,Dat.cnt]
  omega
theorem O6 {ts:List Ty} {ds:List Dat} (h:hasRow ts ds) (hs:Dn ds<=1048576) (hK:KZ ts<=1000):(cntV ds:Int)<=2000000000:=by
 have h1:=IZ ds
 have h2:=H0 ts ds h
 have h3:KZ ts*(1+Dn ds)<=1000*(1+Dn ds):=Nat.mul_le_mul_right _ hK
 omega
def U7 (e:Nat):List Ty:=[.int,.bool,.sl e [.int],.sl e [.int],.bool,.sl e [.int],.sl e [.int]]
def plGood (e:Nat) (p:PlD):Prop:=(∃ w vs,RdRow w (U7 e) p.row vs)/\Dn p.row<=1048576
theorem plGood.has {e:Nat} {p:PlD} (h:plGood e p):hasRow (U7 e) p.row:=by obtain ⟨⟨w,vs,h⟩,_⟩:=h;exact RdRow.has _ _ _ h
theorem plGood.ok {e:Nat} {p:PlD} (h:plGood e p):p.ok:=by
 have:=h.2
 simp only [PlD.row,Dn,Dat.sz] at this
 refine ⟨⟨?_,?_⟩,⟨?_,?_⟩⟩ <;> omega
theorem plGood.cnt {e:Nat} {p:PlD} (h:plGood e p):(cntV p.row:Int)<=2000000000:=O6 h.has h.2 (by simp [KZ,U7,Ty.K])
theorem plGood.at {e:Nat} {p:PlD} (n:Int) (h:plGood e p):plGood e ⟨n,p.pt⟩:=by
 obtain ⟨⟨w,vs,h⟩,hs⟩:=h
 refine ⟨?_,by simpa [PlD.row,Dn,Dat.sz] using hs⟩
 simp only [PlD.row,U7] at h ⊢
 obtain ⟨v,vs,rfl,h1,h2⟩:=RdRow.cons2 h
 exact ⟨w,.int .i64 n::vs,RdRow.mk_cons (Rd.mk_int n) h2⟩
theorem plGood.after {e:Nat} {q x:PlD} (hq:plGood e q) (hx:plGood e x):plGood e (TB q x):=by
 unfold TB
 split
 ·exact hx.at q.h
 ·split
  ·exact hq.at _
  ·exact hq
end Go.Proofs.YtdgmbbjoifneiaaGreatDoor
namespace Go.Proofs.YtdgmbbjoifneiaaGreatDoor
set_option linter.unusedVariables false
set_option linter.unusedSimpArgs false
open Go.RowKit
end Go.Proofs.YtdgmbbjoifneiaaGreatDoor
