import Derived.Test.YtkffpiaagjcmpaaGreatProg
import Derived.Shelf.SlGeneric
import Derived.Shelf.SlLaysF0
import Derived.Test.YtkffpiaagjcmpaaGreatEvRkEv0
import Derived.Shelf.SlSortCmp.NoneTotal
import Derived.Deep.LoopGhost
import Derived.WalkKit
import Derived.RegionTactic
import Derived.Deep.RegionHeld3
namespace Go.Proofs.YtkffpiaagjcmpaaGreat
set_option linter.unusedVariables false
open Go.Shelf
def X8:Go.Shelf.Ren:=⟨fun|6=>118|15=>155|14=>154|28=>191|29=>192|20=>183|21=>184|22=>185|23=>186|24=>187|25=>188|26=>189|27=>190|46=>205|47=>206|48=>207|49=>208|50=>209|57=>222|n=>n,fun|22=>54|24=>40|25=>89|3=>3|39=>100|0=>0|53=>172|55=>174|4=>4|46=>165|45=>164|50=>169|5=>5|9=>9|66=>180|70=>184|76=>191|77=>192|n=>n,fun|n=>n⟩
theorem ABc:Go.Proofs.SlLaysF0.n6 Tryz.prog X8:={
 mixed:=by kernel_rfl,
 f6:=⟨ "slices.SortFunc[[]loop.example/g00811/impl.Rat,loop.example/g00811/impl.Rat]",by decide,Tryz.func118.trans (congrArg some (by kernel_rfl))⟩,
 f14:=⟨ "slices.pdqsortCmpFunc[loop.example/g00811/impl.Rat]",by decide,Tryz.func154.trans (congrArg some (by kernel_rfl))⟩,
 f15:=Tryz.func155.trans (congrArg some (by kernel_rfl)),
 f20:=⟨ "slices.insertionSortCmpFunc[loop.example/g00811/impl.Rat]",by decide,Tryz.func183.trans (congrArg some (by kernel_rfl))⟩,
 f21:=⟨ "slices.heapSortCmpFunc[loop.example/g00811/impl.Rat]",by decide,Tryz.func184.trans (congrArg some (by kernel_rfl))⟩,
 f22:=⟨ "slices.breakPatternsCmpFunc[loop.example/g00811/impl.Rat]",by decide,Tryz.func185.trans (congrArg some (by kernel_rfl))⟩,
 f23:=⟨ "slices.choosePivotCmpFunc[loop.example/g00811/impl.Rat]",by decide,Tryz.func186.trans (congrArg some (by kernel_rfl))⟩,
 f24:=⟨ "slices.reverseRangeCmpFunc[loop.example/g00811/impl.Rat]",by decide,Tryz.func187.trans (congrArg some (by kernel_rfl))⟩,
 f25:=⟨ "slices.partialInsertionSortCmpFunc[loop.example/g00811/impl.Rat]",by decide,Tryz.func188.trans (congrArg some (by kernel_rfl))⟩,
 f26:=⟨ "slices.partitionEqualCmpFunc[loop.example/g00811/impl.Rat]",by decide,Tryz.func189.trans (congrArg some (by kernel_rfl))⟩,
 f27:=⟨ "slices.partitionCmpFunc[loop.example/g00811/impl.Rat]",by decide,Tryz.func190.trans (congrArg some (by kernel_rfl))⟩,
 f28:=Tryz.func191.trans (congrArg some (by kernel_rfl)),
 f29:=Tryz.func192.trans (congrArg some (by kernel_rfl)),
 f46:=⟨ "slices.siftDownCmpFunc[loop.example/g00811/impl.Rat]",by decide,Tryz.func205.trans (congrArg some (by kernel_rfl))⟩,
 f47:=Tryz.func206.trans (congrArg some (by kernel_rfl)),
 f48:=Tryz.func207.trans (congrArg some (by kernel_rfl)),
 f49:=⟨ "slices.medianAdjacentCmpFunc[loop.example/g00811/impl.Rat]",by decide,Tryz.func208.trans (congrArg some (by kernel_rfl))⟩,
 f50:=⟨ "slices.medianCmpFunc[loop.example/g00811/impl.Rat]",by decide,Tryz.func209.trans (congrArg some (by kernel_rfl))⟩,
 f57:=⟨ "slices.order2CmpFunc[loop.example/g00811/impl.Rat]",by decide,Tryz.func222.trans (congrArg some (by kernel_rfl))⟩,
 t0:=Tryz.underlying0,
 a0:=Tryz.isAgg0,
 z0:=Tryz.sizeOf0,
 v0:=Tryz.zeroValue0,
 t3:=Tryz.underlying3,
 a3:=Tryz.isAgg3,
 z3:=Tryz.sizeOf3,
 v3:=Tryz.zeroValue3,
 t4:=Tryz.underlying4,
 a4:=Tryz.isAgg4,
 z4:=Tryz.sizeOf4,
 v4:=Tryz.zeroValue4,
 t5:=Tryz.underlying5,
 a5:=Tryz.isAgg5,
 z5:=Tryz.sizeOf5,
 v5:=Tryz.zeroValue5,
 t9:=Tryz.underlying9,
 a9:=Tryz.isAgg9,
 z9:=Tryz.sizeOf9,
 v9:=Tryz.zeroValue9,
 t22:=Tryz.underlying54,
 a22:=Tryz.isAgg54,
 z22:=Tryz.sizeOf54,
 v22:=Tryz.zeroValue54,
 t25:=Tryz.underlying89,
 a25:=Tryz.isAgg89,
 z25:=Tryz.sizeOf89,
 v25:=Tryz.zeroValue89,
 t39:=Tryz.underlying100,
 a39:=Tryz.isAgg100,
 z39:=Tryz.sizeOf100,
 v39:=Tryz.zeroValue100,
 t45:=Tryz.underlying164,
 a45:=Tryz.isAgg164,
 z45:=Tryz.sizeOf164,
 v45:=Tryz.zeroValue164,
 t46:=Tryz.underlying165,
 a46:=Tryz.isAgg165,
 z46:=Tryz.sizeOf165,
 v46:=Tryz.zeroValue165,
 t50:=Tryz.underlying169,
 a50:=Tryz.isAgg169,
 z50:=Tryz.sizeOf169,
 v50:=Tryz.zeroValue169,
 t53:=Tryz.underlying172,
 a53:=Tryz.isAgg172,
 z53:=Tryz.sizeOf172,
 v53:=Tryz.zeroValue172,
 t55:=Tryz.underlying174,
 a55:=Tryz.isAgg174,
 z55:=Tryz.sizeOf174,
 v55:=Tryz.zeroValue174,
 t66:=Tryz.underlying180,
 a66:=Tryz.isAgg180,
 z66:=Tryz.sizeOf180,
 v66:=Tryz.zeroValue180,
 t70:=Tryz.underlying184,
 a70:=Tryz.isAgg184,
 z70:=Tryz.sizeOf184,
 v70:=Tryz.zeroValue184,
 t76:=Tryz.underlying191,
 a76:=Tryz.isAgg191,
 z76:=Tryz.sizeOf191,
 v76:=Tryz.zeroValue191,
 t77:=Tryz.underlying192,
 a77:=Tryz.isAgg192,
 z77:=Tryz.sizeOf192,
 v77:=Tryz.zeroValue192 }
end Go.Proofs.YtkffpiaagjcmpaaGreat
namespace Go.Proofs.YtkffpiaagjcmpaaGreat
set_option linter.unusedVariables false
set_option linter.unusedSimpArgs false
open Go.RowKit Go.Sort Go.Shelf
theorem AAB {w w' : World} (hb:Below w.heap.size w w') (hd:w.drawn<=w'.drawn):∃ q os,w'=grow (w.drewN q) os:=by
 refine ⟨w'.drawn-w.drawn,w'.heap.extract w.heap.size w'.heap.size,?_⟩
 have hs:=hb.size
 have e:w.heap++w'.heap.extract w.heap.size w'.heap.size=w'.heap:=by
  apply Array.ext_getElem?
  intro i
  by_cases hi:i<w.heap.size
  ·rw [Array.getElem?_append_left hi,← hb.block i hi]
  ·rw [Array.getElem?_append_right (by omega),Array.getElem?_extract]
   by_cases h2:i<w'.heap.size
   ·rw [if_pos (by omega),show w.heap.size+(i-w.heap.size)=i by omega]
   ·rw [if_neg (by omega),Array.getElem?_eq_none (by omega)]
 have e1:=hb.os
 have e2:=hb.tape
 have e3:=hb.output
 cases w
 cases w'
 simp only [grow,World.drewN] at *
 subst e1 e2 e3
 rw [e]
 congr 1
 omega
theorem RQ {P:Program} {c:Con} {f:Nat} (hc:c.Ok P f) (hm:c.mono=true) (hmu:c.mu=[]) (i:c.ι) (hp:c.pre i) {v:Value} (hres:c.res i=⟨false,[none],[.im v]⟩) {ts:List Ty} {ds:List Dat} {us:List Value} {w:World} (h:RdRow w ts ds us)
  (hts:Ty.eras ts=Ty.eras (((c.args i).flatMap DA.cells).map DC.ty)) (hds:ds=((c.args i).flatMap DA.cells).map DC.dat) (hok:((c.args i).flatMap DA.cells).all DC.ok=true) (hst:Stood w:=by exact ⟨λ _ hb=>(List.not_mem_nil hb).elim,trivial⟩) :
  Calls P f (BA (c.args i) us).toArray w λ e w'=>e=.returned v/\∃ q os,w'=grow (w.drewN q) os:=by
 subst hds
 obtain ⟨h1,h2⟩:=Gr (h.cast hts) hok
 refine (hc.quiet hm i hp (λ b=>b<w.heap.size) w us (λ _=>[]) ⟨h1,λ _ h=>h,λ p d u hd hu _=>h2 p d u hd hu,λ j p hj=>?_,λ a b x _ _ _ hx=>by simp at hx,λ j b _ hb=>by simp at hb,hst,λ j b _ hb=>by simp at hb⟩).mono ?_
 ·rw [hmu] at hj;simp at hj
 ·rintro e w' ⟨rs,bs,rfl,hpost,hd⟩
  have hr:=hpost.res
  rw [hres] at hr
  refine ⟨?_,AAB ⟨hpost.os,hpost.tape,hpost.output,hpost.size,λ b hb=>hpost.keep b hb (λ j hj=>by rw [hmu] at hj;simp at hj)⟩ hd⟩
  rw [hres]
  cases rs with
  | nil=>simp [BE] at hr
  | cons r rs=>
   obtain ⟨rfl,hr⟩:=(by simpa only [BE] using hr:r=_/\_)
   rfl
abbrev rTy:List Ty:=[.bool,.sl 3 [.int],.sl 3 [.int]]
theorem X9 {r s:Fr} {xs ys:List Value} {w:World} (h1:RdRow w rTy (frD r) xs) (h2:RdRow w rTy (frD s) ys):Calls Tryz.prog 58 #[.agg xs.toArray,.agg ys.toArray] w λ e w'=>e=.returned (.int .i64 (Fr.cmp r s))/\∃ q os,w'=grow (w.drewN q) os:=by
 have h:=RQ FY rfl rfl (r,s) trivial (v:=.int .i64 (Fr.cmp r s)) rfl (RdRow.app _ _ _ h1 h2) rfl rfl rfl
 have l1:=(RdRow.lens _ _ _ h1).2
 have l2:=(RdRow.lens _ _ _ h2).2
 have hv:BA (AJ.args (r,s)) (xs++ys)=[.agg xs.toArray,.agg ys.toArray]:=by
  simp only [AJ]
  rw [MN (by exact l1),Fs (by exact l2)]
 rw [hv] at h;exact h
theorem AAC {r s:Fr} {xs ys:List Value} {w:World} (h1:RdRow w rTy (frD r) xs) (h2:RdRow w rTy (frD s) ys):Calls Tryz.prog 25 #[.agg xs.toArray,.agg ys.toArray] w λ e w'=>e=.returned (.bool (eqF r s))/\∃ q os,w'=grow (w.drewN q) os:=by
 have h:=RQ Gw rfl rfl (r,s) trivial (v:=.bool (eqF r s)) rfl (RdRow.app _ _ _ h1 h2) rfl rfl rfl
 have l1:=(RdRow.lens _ _ _ h1).2
 have l2:=(RdRow.lens _ _ _ h2).2
 have hv:BA (BG.args (r,s)) (xs++ys)=[.agg xs.toArray,.agg ys.toArray]:=by
  simp only [BG]
  rw [MN (by exact l1),Fs (by exact l2)]
 rw [hv] at h;exact h
abbrev SR (G:Nat->Prop) (w:World) (g:Nat):Type:={ x:List Value×Fr // RdRowS (λ b=>(G b/\b≠g)/\b<w.heap.size) w rTy (frD x.2) x.1/\x.2.d≠0 }
def JA {G:Nat->Prop} {w:World} {g:Nat} (x:SR G w g):List Value:=x.1.1
def cfR {G:Nat->Prop} {w:World} {g:Nat} (x y:SR G w g):Int:=Fr.cmp x.1.2 y.1.2
theorem AC0 {G:Nat->Prop} {w:World} {g:Nat} : SWO (ltOf (cfR (G:=G) (w:=w) (g:=g))) where
 irrefl x:=by unfold ltOf cfR;rw [Fc];rfl
 trans x y z h1 h2:=by
  unfold ltOf cfR at *
  exact decide_eq_true (PS (of_decide_eq_true h1) (of_decide_eq_true h2))
 ntrans x y z h1 h2:=by
  unfold ltOf cfR at *
  have h1:=of_decide_eq_false h1
  have h2:=of_decide_eq_false h2
  refine decide_eq_false λ h3=>?_
  obtain ⟨p,hp,_⟩:=Fr.some_d x.2.2
  obtain ⟨q,hq,_⟩:=Fr.some_d y.2.2
  obtain ⟨r,hr,_⟩:=Fr.some_d z.2.2
  rw [IV hp hq] at h1
  rw [IV hq hr] at h2
  rw [IV hp hr] at h3
  grind
theorem RR {G:Nat->Prop} {w:World} {g:Nat} (x:SR G w g):(JA x).length=3:=(RdRow.lens _ _ _ (RdRowS.rd _ _ _ x.2.1)).2
theorem YA {G:Nat->Prop} {w:World} {g:Nat} (x:SR G w g):∀ v ∈ JA x,v.oneCell'=true:=RdRow.one _ _ _ (RdRowS.rd _ _ _ x.2.1)
theorem YB {α:Type} [Inhabited α] (enc:α->List Value) (w:World) (g n:Nat) (D:Array α) (os:Array Obj) {cur:Array Value} {e:Nat} {fr:Nat×Nat} (h1:w.heap[g]?=some (.cells cur e fr)) :
  (∃ cur',(grow (putRowK enc 3 (Sort.ahead w n) g 0 D) os).heap[g]?=some (.cells cur' e fr)/\cur'.size=cur.size)/\(∀ b,b<w.heap.size->b≠g->(grow (putRowK enc 3 (Sort.ahead w n) g 0 D) os).heap[b]?=w.heap[b]?)/\w.heap.size<=(grow (putRowK enc 3 (Sort.ahead w n) g 0 D) os).heap.size:=by
 have hs:(putRowK enc 3 (Sort.ahead w n) g 0 D).heap.size=w.heap.size:=by simp [putRowK,putRow,mapBlock,Sort.ahead]
 have hg:g<w.heap.size:=(Array.getElem?_eq_some_iff.1 h1).1
 have hold:∀ b,b<w.heap.size->(grow (putRowK enc 3 (Sort.ahead w n) g 0 D) os).heap[b]?=(w.heap.modify g (onCells (putCells id 0 (flatK enc 3 D))))[b]?:=by
  intro b hb
  rw [Sort.heap_grow_old _ _ (by rw [hs];exact hb)]
  rfl
 refine ⟨⟨putCells id 0 (flatK enc 3 D) cur,?_,?_⟩,?_,?_⟩
 ·rw [hold g hg,Array.getElem?_modify,if_pos rfl,h1];rfl
 ·simp [putCells]
 ·intro b hb hne
  rw [hold b hb,Array.getElem?_modify,if_neg (λ e=>hne e.symm)]
 ·rw [Sort.size_grow,hs];omega
theorem Vz {G:Nat->Prop} {w:World} {g n:Nat} {e:Nat} {fr:Nat×Nat} {cur:Array Value} (h1:w.heap[g]?=some (.cells cur e fr)) [Inhabited (SR G w g)]:CmpLays Tryz.prog 58 #[] (JA (G:=G) (w:=w) (g:=g)) 3 cfR g 0 n w:=by
 intro m os dk _ x y
 obtain ⟨-,p2,p3⟩:=YB JA w g m dk os h1
 have rd:∀ z:SR G w g,RdRow (sortWorldK JA 3 w g 0 m dk os) rTy (frD z.1.2) (JA z):=λ z=>
  RdRowS.rd _ _ _ (RdRowS.step p3 (λ b hb hG=>p2 b hb hG.1.2) _ _ _ z.2.1)
 exact X9 (rd x) (rd y)
structure SortedW (G:Nat->Prop) (w w' : World) (g e:Nat) (fr:Nat×Nat) (n:Nat) (ls:List Fr) (ls' : List Fr) (rv' : List (List Value)):Prop where
 perm:ls'.Perm ls
 asc:∀ i j,i<j->j<n->¬ Fr.cmp (ls'.getD j Fr.none) (ls'.getD i Fr.none)<0
 len:ls'.length=n/\rv'.length=n
 rd:∀ k,k<n->RdRowS (λ b=>(G b/\b≠g)/\b<w.heap.size) w rTy (frD (ls'.getD k Fr.none)) (rv'.getD k [])
 cells:∀ k i,k<n->i<3->w'.cell? ⟨g,k*3+i,none⟩=(rv'.getD k [])[i]?/\w'.frozen? ⟨g,k*3+i,none⟩=false
 block:∃ cur' : Array Value,w'.heap[g]?=some (.cells cur' e fr)
 old:∀ b,b<w.heap.size->b≠g->w'.heap[b]?=w.heap[b]?
 size:w.heap.size<=w'.heap.size
 os:w'.os=w.os
 tape:w'.tape=w.tape
 output:w'.output=w.output
def YC (G:Nat->Prop) (w:World) (g e:Nat) (fr:Nat×Nat) (n:Nat) (ls:List Fr) (w' : World):Prop:=∃ ls' rv',SortedW G w w' g e fr n ls ls' rv'
theorem ABd {G:Nat->Prop} {w:World} {g e cap:Nat} {fr:Nat×Nat} {cur:Array Value} {ls:List Fr} {rv:List (List Value)} (h1:w.heap[g]?=some (.cells cur e fr)) (hl:rv.length=ls.length) (hgood:BC ls) (hn:ls.length<=4000000000000)
  (hrd:∀ k,k<ls.length->RdRowS (λ b=>(G b/\b≠g)/\b<w.heap.size) w rTy (frD (ls.getD k Fr.none)) (rv.getD k []))
  (hc:∀ k i,k<ls.length->i<3->w.cell? ⟨g,k*3+i,none⟩=(rv.getD k [])[i]?/\w.frozen? ⟨g,k*3+i,none⟩=false) :
  Calls Tryz.prog 118 #[.slice (some ⟨g,0,none⟩) ls.length cap,.func (.func 58) #[] #[]] w λ en w'=>en=.returned (.tuple #[])/\YC G w g e fr ls.length ls w':=by
 by_cases h0:ls.length=0
 ·rw [h0]
  refine (AnyF.slices_SortFunc_none ABc (some ⟨g,0,none⟩) cap (.func (.func 58) #[] #[]) w).mono ?_
  rintro en w' ⟨rfl,rfl⟩
  exact ⟨rfl,ls,rv,List.Perm.refl _,λ i j _ hj=>by omega,⟨h0,by omega⟩,λ k hk=>by omega,λ k i hk=>by omega,⟨cur,h1⟩,λ _ _ _=>rfl,Nat.le_refl _,rfl,rfl,rfl⟩
 ·have hpos:0<ls.length:=by omega
  have mk:∀ k,k<ls.length->RdRowS (λ b=>(G b/\b≠g)/\b<w.heap.size) w rTy (frD (rv.getD k [],ls.getD k Fr.none).2) (rv.getD k [],ls.getD k Fr.none).1/\(rv.getD k [],ls.getD k Fr.none).2.d≠0:=λ k hk=>
   ⟨hrd k hk,hgood _ (by simp [List.getD,hk])⟩
  letI:Inhabited (SR G w g):=⟨⟨_,mk 0 hpos⟩⟩
  let D:List (SR G w g):=List.pmap (λ k hk=>(⟨(rv.getD k [],ls.getD k Fr.none),mk k hk⟩:SR G w g)) (List.range ls.length) (λ k hk=>List.mem_range.1 hk)
  have hD:D.length=ls.length:=by simp [D]
  have hDk:∀ k (hk:k<ls.length),(D.toArray)[k]! = (⟨(rv.getD k [],ls.getD k Fr.none),mk k hk⟩:SR G w g):=λ k hk=>by simp [D,hk]
  have hg:g<w.heap.size:=(Array.getElem?_eq_some_iff.1 h1).1
  have hH:HoldsK (JA (G:=G) (w:=w) (g:=g)) 3 w g 0 D.toArray:=by
   intro j hj
   have hj2:j<ls.length*3:=by simpa [hD] using hj
   have hk:j/3<ls.length:=by omega
   obtain ⟨c1,c2⟩:=hc (j/3) (j%3) hk (by omega)
   have e3:j/3*3+j%3=j:=by omega
   rw [e3] at c1 c2
   refine ⟨?_,by rw [Nat.zero_add];exact c2⟩
   rw [Nat.zero_add,c1,get_flatK _ _ _ _ (by simpa using hj),hDk _ hk]
   have hlen:=(RdRow.lens _ _ _ (RdRowS.rd _ _ _ (hrd _ hk))).2
   have h3:j%3<(rv.getD (j/3) []).length:=by rw [hlen];show j%3<3;omega
   show _=some ((rv.getD (j/3) [])[j%3]!)
   rw [List.getElem?_eq_getElem h3,getElem!_pos (rv.getD (j/3) []) (j%3) h3]
  have eg:∀ args w,(callFunc 58 args).run Tryz.prog w=.ok (.enter 58 args) w:=enters_of Tryz.func58 (by kernel_rfl) rfl
  have hcon:=AnyQ.slices_SortFunc ABc 3 Tryz.isAgg40 Tryz.sizeOf40 JA RR YA cfR AC0 58 #[] g 0 cap D.toArray w eg (Vz h1) hH hg (by simp only [List.size_toArray,hD];omega)
  have hs2:D.toArray.size=ls.length:=by rw [List.size_toArray,hD]
  rw [hs2] at hcon
  refine Calls.mono (P:=Tryz.prog) hcon ?_
  rintro en w' ⟨rfl,d',n,os,hp,hso,rfl⟩
  refine ⟨rfl,?_⟩
  obtain ⟨⟨cur',p1,p2⟩,p3,p4⟩:=YB JA w g n d' os h1
  have hsz:d'.size=ls.length:=by rw [hp.1];exact hs2
  have hHK:=holdsK_sortWorldK_c JA 3 w g 0 D.toArray d' n os hH hg (by rw [hsz,hs2])
  have hget:∀ k,k<ls.length->(d'.toList.map (·.1.2)).getD k Fr.none=d'[k]!.1.2:=λ k hk=>by simp [List.getD,show k<d'.size by omega]
  have hget2:∀ k,k<ls.length->(d'.toList.map (·.1.1)).getD k []=d'[k]!.1.1:=λ k hk=>by simp [List.getD,show k<d'.size by omega]
  refine ⟨d'.toList.map (·.1.2),d'.toList.map (·.1.1),?_,λ i j hij hj=>?_,⟨by simp [hsz],by simp [hsz]⟩,λ k hk=>?_,λ k i hk hi=>?_,⟨cur',p1⟩,p3,p4,rfl,rfl,rfl⟩
  ·have h2:=hp.2.2
   have e1:(d'.extract 0 ls.length).toList=d'.toList:=by rw [← hsz];simp
   have e2:(D.toArray.extract 0 ls.length).toList=D:=by rw [← hs2];simp
   rw [e1,e2] at h2
   have h3:=h2.map (·.1.2)
   have e3:D.map (·.1.2)=ls:=by
    apply List.ext_getElem
    ·rw [List.length_map,hD]
    ·intro k hk hk2
     simp [D,List.getD,hk2]
   rw [e3] at h3
   exact h3
  ·rw [hget j hj,hget i (by omega)]
   exact of_decide_eq_false (hso i j (Nat.zero_le _) hij hj)
  ·rw [hget k hk,hget2 k hk];exact d'[k]!.2.1
  ·have h2:=hHK (k*3+i) (by rw [size_flatK,hsz];omega)
   rw [Nat.zero_add,get_flatK _ _ _ _ (by rw [hsz];omega),show (k*3+i)/3=k by omega,show (k*3+i)%3=i by omega] at h2
   rw [hget2 k hk]
   refine ⟨?_,h2.2⟩
   rw [h2.1]
   have h3:i<(JA d'[k]!).length:=by rw [RR];exact hi
   show some ((JA d'[k]!)[i]!)=(JA d'[k]!)[i]?
   rw [List.getElem?_eq_getElem h3,getElem!_pos (JA d'[k]!) i h3]
end Go.Proofs.YtkffpiaagjcmpaaGreat
namespace Go.Proofs.YtkffpiaagjcmpaaGreat
set_option linter.unusedVariables false
set_option linter.unusedSimpArgs false
open Go.RowKit Go.Sort Go.Shelf Go.Lib
structure R3 where
 b:Bool
 p:Option Addr
 m:Nat
 c:Nat
 q:Option Addr
 n:Nat
 e:Nat
 f:Fr
instance:Inhabited R3:=⟨⟨false,none,0,0,none,0,0,Fr.none⟩⟩
def rE (x:R3):List Value:=[.bool x.b,.slice x.p x.m x.c,.slice x.q x.n x.e]
theorem TO {P:Program} (w:World) (t e ty:TypeId) (ht:P.underlying t=some (.slice e)) (hv:∀ w,(zeroValue e).run P w=.ok (.agg #[.bool false,.slice none 0 0,.slice none 0 0]) w) (b o n c:Nat) (hn:0<n)
  (hc:∀ j,j<n*3->(w.cell? ⟨b,o+j,none⟩).isSome=true) (hf:∀ j,j<n*3->w.frozen? ⟨b,o+j,none⟩=false) :
  (Builtin.clear_ #[t] ty #[.slice (some ⟨b,o,none⟩) n c]).run P w=.ok (.tuple #[]) (w.setCells b o (Builtin.zeroCells (Value.agg #[.bool false,.slice none 0 0,.slice none 0 0]).cells n).toList):=by
 have hs:(Value.agg #[.bool false,.slice none 0 0,.slice none 0 0]).cells=#[.bool false,.slice none 0 0,.slice none 0 0]:=rfl
 have hl:(Builtin.zeroCells (Value.agg #[.bool false,.slice none 0 0,.slice none 0 0]).cells n).toList.length=n*3:=by rw [hs];simp [Builtin.zeroCells]
 have hst:=run_storeCells_cells (P:=P) b o (Builtin.zeroCells (Value.agg #[.bool false,.slice none 0 0,.slice none 0 0]).cells n).toList 0 w (by rw [hl];simpa using hc) (by rw [hl];simpa using hf) (by
  intro v hv'
  simp only [Builtin.zeroCells,Array.toList_map,List.mem_map] at hv'
  obtain ⟨i,_,rfl⟩:=hv'
  rw [hs]
  have:i%3=0∨i%3=1∨i%3=2:=by omega
  show (#[Value.bool false,Value.slice none 0 0,Value.slice none 0 0][i%3]!).oneCell'=true
  rcases this with e|e|e <;> rw [e] <;> rfl)
 simp only [Nat.add_zero] at hst
 obtain ⟨m,rfl⟩:∃ m,n=m+1:=⟨n-1,by omega⟩
 simp [Builtin.clear_,run_underlying ht,hv,hst]
theorem Gy (g:Nat):∀ (cs:List Value) (w:World) (o:Nat),OnlyIn (λ b=>b=g) w (w.setCells g o cs)
 | [],w,o=>OnlyIn.refl _ _
 | c::cs,w,o=>by
  have h1:OnlyIn (λ b=>b=g) w (w.setCell ⟨g,o,none⟩ c):=OnlyIn.setCell (OnlyIn.refl _ _) (show (⟨g,o,none⟩:Addr).block=g from rfl) c
  exact h1.trans (Gy g cs (w.setCell ⟨g,o,none⟩ c) (o+1))
theorem Dm (g:Nat):∀ (cs:List Value) (w:World) (o a:Nat),a<o->(w.setCells g o cs).cell? ⟨g,a,none⟩=w.cell? ⟨g,a,none⟩
 | [],w,o,a,_=>rfl
 | c::cs,w,o,a,h=>by
  show ((w.setCell ⟨g,o,none⟩ c).setCells g (o+1) cs).cell? ⟨g,a,none⟩=_
  rw [Dm g cs _ (o+1) a (by omega)]
  go_simp
def Row3 (w:World) (g off:Nat) (d:Array R3):Prop:=∀ j,j<d.size->(w.cell? ⟨g,off+j*3,none⟩=some (.bool (d[j]!).b)/\w.cell? ⟨g,off+j*3+1,none⟩=some (.slice (d[j]!).p (d[j]!).m (d[j]!).c)/\w.cell? ⟨g,off+j*3+2,none⟩=some (.slice (d[j]!).q (d[j]!).n (d[j]!).e))/\w.frozen? ⟨g,off+j*3,none⟩=false/\w.frozen? ⟨g,off+j*3+1,none⟩=false/\w.frozen? ⟨g,off+j*3+2,none⟩=false
theorem Row3.below {w w' : World} {g off:Nat} {d:Array R3} (h:Row3 w g off d) (hb:Below w.heap.size w w') (hg:g<w.heap.size):Row3 w' g off d:=λ j hj=>by
 have e:=hb.block g hg
 have h:=h j hj
 simp only [World.cell?,World.frozen?,e] at h ⊢
 exact h
theorem Row3.set {w:World} {g off i:Nat} {d:Array R3} (h:Row3 w g off d) (hi:i<d.size) (x:R3):Row3 (((w.setCell ⟨g,off+i*3,none⟩ (.bool x.b)).setCell ⟨g,off+i*3+1,none⟩ (.slice x.p x.m x.c)).setCell ⟨g,off+i*3+2,none⟩ (.slice x.q x.n x.e)) g off (d.setIfInBounds i x):=λ j hj=>by
 have hj2:j<d.size:=by simpa using hj
 obtain ⟨⟨c0,c1,c2⟩,f0,f1,f2⟩:=h j hj2
 by_cases e:j=i
 ·subst e
  rw [getElem!_set_same d j _ hi]
  exact ⟨⟨by go_simp,by go_simp,by go_simp⟩,by go_simp,by go_simp,by go_simp⟩
 ·rw [getElem!_set_other d i j _ e]
  have n1:¬ off+j*3=off+i*3:=by omega
  have n2:¬ off+j*3=off+i*3+1:=by omega
  have n3:¬ off+j*3=off+i*3+2:=by omega
  have n4:¬ off+j*3+1=off+i*3:=by omega
  have n5:¬ off+j*3+1=off+i*3+1:=by omega
  have n6:¬ off+j*3+1=off+i*3+2:=by omega
  have n7:¬ off+j*3+2=off+i*3:=by omega
  have n8:¬ off+j*3+2=off+i*3+1:=by omega
  have n9:¬ off+j*3+2=off+i*3+2:=by omega
  exact ⟨⟨by go_simp,by go_simp,by go_simp⟩,by go_simp,by go_simp,by go_simp⟩
structure CI (d:Array R3) (m k:Nat) (dk:Array R3):Prop where
 size:dk.size=d.size
 le:k<=m
 sub:∀ j,j<k->∃ i,i<d.size/\dk[j]! = d[i]!
 asc:∀ i j,i<j->j<k->Fr.cmp (dk[i]!).f (dk[j]!).f<0
 mem:∀ x,(∃ j,j<k/\(dk[j]!).f=x)↔∃ j,j<m/\(d[j]!).f=x
 high:∀ j,k<=j->dk[j]! = d[j]!
structure Inc (d:Array R3):Prop where
 good:∀ j,j<d.size->(d[j]!).f.d≠0
 inc:∀ i j,i<j->j<d.size->¬ Fr.cmp (d[j]!).f (d[i]!).f<0
theorem CI.one {d:Array R3} (h:0<d.size):CI d 1 1 d where
 size:=rfl
 le:=Nat.le_refl _
 sub:=λ j hj=>⟨j,by omega,rfl⟩
 asc:=λ i j hij hj=>by omega
 mem:=λ x=>Iff.rfl
 high:=λ _ _=>rfl
theorem Inc.lt {d:Array R3} (h:Inc d) {m p:Nat} (hm:m<d.size) (hp:p<m) (hne:eqF (d[m]!).f (d[m-1]!).f=false):Fr.cmp (d[p]!).f (d[m]!).f<0:=by
 have g1:=h.good m hm
 have g2:=h.good (m-1) (by omega)
 have g3:=h.good p (by omega)
 have c1:=h.inc (m-1) m (by omega) hm
 have s1:=KD g1 g2
 have l1:Fr.cmp (d[m-1]!).f (d[m]!).f<0:=by
  by_cases e:Fr.cmp (d[m]!).f (d[m-1]!).f=0
  ·have:=PO g1 g2 e
   rw [Hj.2 this] at hne;cases hne
  ·omega
 by_cases e:p=m-1
 ·rw [e];exact l1
 ·have c2:=h.inc p (m-1) (by omega) (by omega)
  have s2:=KD g2 g3
  by_cases e2:Fr.cmp (d[p]!).f (d[m-1]!).f=0
  ·rw [PO g3 g2 e2];exact l1
  ·exact PS (by omega) l1
theorem CI.keep {d dk dk' : Array R3} {m k:Nat} (h:CI d m k dk) (hd:Inc d) (hm:m<d.size) (hne:eqF (d[m]!).f (d[m-1]!).f=false) (hs:dk'.size=d.size) (hl:∀ j,j<k->dk'[j]! = dk[j]!) (hk:dk'[k]! = d[m]!) (hh:∀ j,k+1<=j->dk'[j]! = d[j]!):CI d (m+1) (k+1) dk' where
 size:=hs
 le:=by have:=h.le;omega
 sub:=λ j hj=>by
  by_cases e:j=k
  ·subst e;exact ⟨m,hm,hk⟩
  ·rw [hl j (by omega)];exact h.sub j (by omega)
 asc:=λ i j hij hj=>by
  by_cases e:j=k
  ·subst e
   rw [hk,hl i hij]
   obtain ⟨p,hp,e⟩:=(h.mem (dk[i]!).f).1 ⟨i,hij,rfl⟩
   rw [← e]
   exact hd.lt hm hp hne
  ·rw [hl i (by omega),hl j (by omega)];exact h.asc i j hij (by omega)
 mem:=λ x=>by
  constructor
  ·rintro ⟨j,hj,e⟩
   by_cases e2:j=k
   ·subst e2;rw [hk] at e;exact ⟨m,by omega,e⟩
   ·rw [hl j (by omega)] at e
    obtain ⟨p,hp,e⟩:=(h.mem x).1 ⟨j,by omega,e⟩
    exact ⟨p,by omega,e⟩
  ·rintro ⟨j,hj,e⟩
   by_cases e2:j=m
   ·subst e2;exact ⟨k,by omega,by rw [hk];exact e⟩
   ·obtain ⟨p,hp,e⟩:=(h.mem x).2 ⟨j,by omega,e⟩
    exact ⟨p,by omega,by rw [hl p hp];exact e⟩
 high:=hh
theorem CI.skip {d dk:Array R3} {m k:Nat} (h:CI d m k dk) (hm0:0<m) (he:eqF (d[m]!).f (d[m-1]!).f=true):CI d (m+1) k dk where
 size:=h.size
 le:=by have:=h.le;omega
 sub:=h.sub
 asc:=h.asc
 mem:=λ x=>by
  rw [h.mem x]
  constructor
  ·rintro ⟨j,hj,e⟩;exact ⟨j,by omega,e⟩
  ·rintro ⟨j,hj,e⟩
   by_cases e2:j=m
   ·subst e2;rw [Hj.1 he] at e;exact ⟨j-1,by omega,e⟩
   ·exact ⟨j,by omega,e⟩
 high:=h.high
theorem CI.set {d dk:Array R3} {m k:Nat} (h:CI d m k dk) (hd:Inc d) (hm:m<d.size) (hne:eqF (d[m]!).f (d[m-1]!).f=false):CI d (m+1) (k+1) (dk.setIfInBounds k d[m]!):=
 h.keep hd hm hne (by simp [h.size]) (λ j hj=>getElem!_set_other dk k j _ (by omega)) (getElem!_set_same dk k _ (by have:=h.le;have:=h.size;omega)) (λ j hj=>by rw [getElem!_set_other dk k j _ (by omega)];exact h.high j (by omega))
theorem CI.next {d:Array R3} {k:Nat} (h:CI d k k d) (hd:Inc d) (hm:k<d.size) (hne:eqF (d[k]!).f (d[k-1]!).f=false):CI d (k+1) (k+1) d:=
 h.keep hd hm hne rfl (λ _ _=>rfl) rfl (λ _ _=>rfl)
def Rd3 (G:Nat->Prop) (w:World) (g:Nat) (d:Array R3):Prop:=∀ j,j<d.size->RdRowS (λ b=>(G b/\b≠g)/\b<w.heap.size) w rTy (frD (d[j]!).f) (rE d[j]!)
theorem Rd3.at {G:Nat->Prop} {w w' : World} {g:Nat} {d:Array R3} (h:Rd3 G w g d) (ho:OnlyIn (λ b=>b=g) w w') {j:Nat} (hj:j<d.size) {x:R3} (hx:d[j]! = x):RdRow w' rTy (frD x.f) (rE x):=by
 have h:=h j hj
 rw [hx] at h
 exact RdRowS.rd _ _ _ (RdRowS.step ho.size (λ b hb hG=>ho.block b hb hG.1.2) _ _ _ h)
theorem RS (w:World) (q:Nat) (os:Array Obj):Below w.heap.size w (grow (w.drewN q) os):=⟨rfl,rfl,rfl,by rw [Sort.size_grow];exact Nat.le_add_right _ _,λ k hk=>Sort.heap_grow_old _ _ hk⟩
theorem LY {r s:Fr} {x0 y0:Bool} {x1 x2 y1 y2:Value} {w:World} (h1:RdRow w rTy (frD r) [.bool x0,x1,x2]) (h2:RdRow w rTy (frD s) [.bool y0,y1,y2]):Calls Tryz.prog 25 #[.agg #[.bool x0,x1,x2],.agg #[.bool y0,y1,y2]] w λ e w'=>e=.returned (.bool (eqF r s))/\Below w.heap.size w w':=
 (AAC h1 h2).mono λ e w' ⟨h,q,os,e2⟩=>⟨h,by subst e2;exact RS w q os⟩
def ABe (w:World) (g off cap:Nat) (d:Array R3) (e:Ending) (w' : World):Prop:=∃ (m:Nat) (d' : Array R3),e=.returned (.slice (some ⟨g,off,none⟩) m cap)/\CI d d.size m d'/\OnlyIn (λ b=>b=g) w w'/\∀ j,j<m->w'.cell? ⟨g,off+j*3,none⟩=some (.bool (d'[j]!).b)/\w'.cell? ⟨g,off+j*3+1,none⟩=some (.slice (d'[j]!).p (d'[j]!).m (d'[j]!).c)/\w'.cell? ⟨g,off+j*3+2,none⟩=some (.slice (d'[j]!).q (d'[j]!).n (d'[j]!).e)
set_option maxHeartbeats 4000000 in
theorem TP {G : Nat → Prop} (g off cap : Nat) (d : Array R3) (w : World) (hH : Row3 w g off d) (hR : Rd3 G w g d) (hI : Inc d) (hg : g < w.heap.size) (hsz : d.size ≤ 4000000000000) (hpos : 0 < d.size) (hcap : d.size ≤ cap) (hcm : cap ≤ 9223372036854775807) :
    Calls Tryz.prog 119 #[.slice (some ⟨g, off, none⟩) d.size cap, .func (.func 25) #[] #[]] w (ABe w g off cap d) := by
  have HH := Lib.hid hH
  have HR := Lib.hid hR
  have HI := Lib.hid hI
  clear hH hR hI
  have eg : ∀ args w, (callFunc 25 args).run Tryz.prog w = .ok (.enter 25 args) w := enters_of Tryz.func25 (by kernel_rfl) rfl
  by_cases h2 : d.size < 2
  · go_enter Tryz.func119, Tryz.ntmps119
    go_wp2
    go_ret
    have e1 : d.size = 1 := by omega
    refine ⟨d.size, d, rfl, ?_, OnlyIn.refl _ _, fun j hj => (HH.out j hj).1⟩
    rw [e1]; exact CI.one (by omega)
  · go_enter Tryz.func119, Tryz.ntmps119
    go_wp2
    go_loopw [5] (fun s3 wr => ∃ k : Nat, 1 ≤ k ∧ k ≤ d.size ∧ s3 = .int .i64 k ∧ Below w.heap.size w wr ∧ CI d k k d) (fun i _ => d.size - (intOf i).toNat)
    case atStart => exact ⟨1, Nat.le_refl _, by omega, rfl, Below.refl _ _, CI.one (by omega)⟩
    case round =>
      obtain ⟨k, hk1, hk, rfl, hb, hall⟩ := hrel
      by_cases hlt : k < d.size
      · have HA := Lib.hid hall; clear hall
        obtain ⟨a0, a1, a2⟩ := (HH.out k hlt).1
        obtain ⟨p0, p1, p2⟩ := (HH.out (k - 1) (by omega)).1
        have c0 := (hb.cell (p := ⟨g, off + k * 3, none⟩) hg).trans a0
        have c1 := (hb.cell (p := ⟨g, off + k * 3 + 1, none⟩) hg).trans a1
        have c2 := (hb.cell (p := ⟨g, off + k * 3 + 2, none⟩) hg).trans a2
        have r0 := (hb.cell (p := ⟨g, off + (k - 1) * 3, none⟩) hg).trans p0
        have r1 := (hb.cell (p := ⟨g, off + (k - 1) * 3 + 1, none⟩) hg).trans p1
        have r2 := (hb.cell (p := ⟨g, off + (k - 1) * 3 + 2, none⟩) hg).trans p2
        clear a0 a1 a2 p0 p1 p2
        obtain ⟨x, hx⟩ : ∃ x, d[k]! = x := ⟨_, rfl⟩
        obtain ⟨y, hy⟩ : ∃ y, d[k - 1]! = y := ⟨_, rfl⟩
        have HX := Lib.hid (And.intro hx hy)
        rw [hx] at c0 c1 c2
        rw [hy] at r0 r1 r2
        clear hx hy
        obtain ⟨x1, x2, x3, x4, x5, x6, x7, xf⟩ := x
        obtain ⟨y1, y2, y3, y4, y5, y6, y7, yf⟩ := y
        simp only at c0 c1 c2 r0 r1 r2
        have HB := Lib.hid hb
        have hws := hb.size
        clear hb
        have hkm : IntKind.i64.wrap (((k : Nat) : Int) - 1) = ((k - 1 : Nat) : Int) := by rw [AC (by omega) (by omega)]; omega
        have mixed : Tryz.prog.follows Departure.mixedOrders = true := by kernel_rfl
        have hA := HX.out.1
        have hB := HX.out.2
        have rx := Lib.hid (HR.out.at (OnlyIn.of_below (Below.drew HB.out)) hlt hA)
        have ry := Lib.hid (HR.out.at (OnlyIn.of_below (Below.drew HB.out)) (show k - 1 < d.size by omega) hB)
        clear hA hB
        have l1 : k - 1 < d.size := by omega
        have l2 : (0 : Int) ≤ ((k - 1 : Nat) : Int) := by omega
        have l3 : ((k - 1 : Nat) : Int) < ((d.size : Nat) : Int) := by omega
        cases hq : eqF xf yf with
        | false =>
          have HQ := Lib.hid hq; clear hq
          go_wp2_with fail
          go_region_held3 (fun w' => w'.cell? ⟨g, off + k * 3, none⟩ = some (.bool x1) ∧ w'.cell? ⟨g, off + k * 3 + 1, none⟩ = some (.slice x2 x3 x4) ∧ w'.cell? ⟨g, off + k * 3 + 2, none⟩ = some (.slice x5 x6 x7) ∧ w'.cell? ⟨g, off + (k - 1) * 3, none⟩ = some (.bool y1) ∧ w'.cell? ⟨g, off + (k - 1) * 3 + 1, none⟩ = some (.slice y2 y3 y4) ∧ w'.cell? ⟨g, off + (k - 1) * 3 + 2, none⟩ = some (.slice y5 y6 y7)) ((first | exact ⟨c0, c1, c2, r0, r1, r2⟩ | exact ⟨K0, K1, K2, K3, K4, K5⟩)) (first | (go_at_fn 25; refine (LY rx.out ry.out).mono ?_; rw [HQ.out]; rintro e w2 ⟨rfl, hb⟩; have K0 := (hb.cell (p := ⟨g, off + k * 3, none⟩) (show g < wr.heap.size by omega)).trans c0; have K1 := (hb.cell (p := ⟨g, off + k * 3 + 1, none⟩) (show g < wr.heap.size by omega)).trans c1; have K2 := (hb.cell (p := ⟨g, off + k * 3 + 2, none⟩) (show g < wr.heap.size by omega)).trans c2; have K3 := (hb.cell (p := ⟨g, off + (k - 1) * 3, none⟩) (show g < wr.heap.size by omega)).trans r0; have K4 := (hb.cell (p := ⟨g, off + (k - 1) * 3 + 1, none⟩) (show g < wr.heap.size by omega)).trans r1; have K5 := (hb.cell (p := ⟨g, off + (k - 1) * 3 + 2, none⟩) (show g < wr.heap.size by omega)).trans r2))
          have HB2 := Lib.hid ((Below.drew HB.out).trans (hb.mono hws))
          clear hb K0 K1 K2 K3 K4 K5
          go_wp2
          go_roundw
          case rel => exact ⟨k + 1, by omega, by omega, by go_num, HB2.out, HA.out.next HI.out hlt (by rw [HX.out.1, HX.out.2]; exact HQ.out)⟩
          case measure => simp [intOf]; omega
        | true =>
          have HQ := Lib.hid hq; clear hq
          go_wp2_with fail
          go_region_held3 (fun w' => w'.cell? ⟨g, off + k * 3, none⟩ = some (.bool x1) ∧ w'.cell? ⟨g, off + k * 3 + 1, none⟩ = some (.slice x2 x3 x4) ∧ w'.cell? ⟨g, off + k * 3 + 2, none⟩ = some (.slice x5 x6 x7) ∧ w'.cell? ⟨g, off + (k - 1) * 3, none⟩ = some (.bool y1) ∧ w'.cell? ⟨g, off + (k - 1) * 3 + 1, none⟩ = some (.slice y2 y3 y4) ∧ w'.cell? ⟨g, off + (k - 1) * 3 + 2, none⟩ = some (.slice y5 y6 y7)) ((first | exact ⟨c0, c1, c2, r0, r1, r2⟩ | exact ⟨K0, K1, K2, K3, K4, K5⟩)) (first | (go_at_fn 25; refine (LY rx.out ry.out).mono ?_; rw [HQ.out]; rintro e w2 ⟨rfl, hb⟩; have K0 := (hb.cell (p := ⟨g, off + k * 3, none⟩) (show g < wr.heap.size by omega)).trans c0; have K1 := (hb.cell (p := ⟨g, off + k * 3 + 1, none⟩) (show g < wr.heap.size by omega)).trans c1; have K2 := (hb.cell (p := ⟨g, off + k * 3 + 2, none⟩) (show g < wr.heap.size by omega)).trans c2; have K3 := (hb.cell (p := ⟨g, off + (k - 1) * 3, none⟩) (show g < wr.heap.size by omega)).trans r0; have K4 := (hb.cell (p := ⟨g, off + (k - 1) * 3 + 1, none⟩) (show g < wr.heap.size by omega)).trans r1; have K5 := (hb.cell (p := ⟨g, off + (k - 1) * 3 + 2, none⟩) (show g < wr.heap.size by omega)).trans r2))
          have HB2 := Lib.hid ((Below.drew HB.out).trans (hb.mono hws))
          have hws2 := HB2.out.size
          clear hb K0 K1 K2 K3 K4 K5 c0 c1 c2 r0 r1 r2 hkm
          go_wp2
          go_loopw [5, 7] (fun s3 s5 wr' => ∃ (kk k2 : Nat) (dk : Array R3), s3 = .int .i64 kk ∧ s5 = .int .i64 k2 ∧ 1 ≤ k2 ∧ k + k2 ≤ d.size ∧ kk < k + k2 ∧ OnlyIn (fun b => b = g) w wr' ∧ Row3 wr' g off dk ∧ CI d (k + k2) kk dk) (fun _ i _ => d.size - k - (intOf i).toNat)
          case atStart => exact ⟨k, 1, d, rfl, rfl, Nat.le_refl _, by omega, by omega, OnlyIn.of_below HB2.out, HH.out.below HB2.out hg, HA.out.skip (by omega) (by rw [HX.out.1, HX.out.2]; exact HQ.out)⟩
          case round =>
            obtain ⟨kk, k2, dk, rfl, rfl, h1, hle, hkk, ho, hsh, hI⟩ := hrel
            have hds := hI.size
            have hsz2 := ho.size
            have HO := Lib.hid ho; clear ho
            have HJ := Lib.hid hI; clear hI
            have HS := Lib.hid hsh; clear hsh
            by_cases hlt2 : k + k2 < d.size
            · obtain ⟨m0, m1, m2⟩ := (HS.out (k + k2) (by omega)).1
              obtain ⟨p0, p1, p2⟩ := (HS.out (k + k2 - 1) (by omega)).1
              have e1 : off + (k + k2) * 3 = off + k * 3 + k2 * 3 := by omega
              have e2 : off + (k + k2 - 1) * 3 = off + k * 3 + (k2 - 1) * 3 := by omega
              rw [HJ.out.high (k + k2) (by omega), e1] at m0 m1 m2
              rw [HJ.out.high (k + k2 - 1) (by omega), e2] at p0 p1 p2
              obtain ⟨u, hu⟩ : ∃ u, d[k + k2]! = u := ⟨_, rfl⟩
              obtain ⟨v, hv⟩ : ∃ v, d[k + k2 - 1]! = v := ⟨_, rfl⟩
              have HU := Lib.hid (And.intro hu hv)
              rw [hu] at m0 m1 m2
              rw [hv] at p0 p1 p2
              clear hu hv
              obtain ⟨u1, u2, u3, u4, u5, u6, u7, uf⟩ := u
              obtain ⟨v1, v2, v3, v4, v5, v6, v7, vf⟩ := v
              simp only at m0 m1 m2 p0 p1 p2
              have hk2m : IntKind.i64.wrap (((k2 : Nat) : Int) - 1) = ((k2 - 1 : Nat) : Int) := by rw [AC (by omega) (by omega)]; omega
              have hA := HU.out.1
              have hB := HU.out.2
              have BD : Below wr.heap.size wr wr.drew := Below.drew (Below.refl _ _)
              have HOD := Lib.hid (HO.out.trans (OnlyIn.of_below (Below.drew (Below.refl _ _))))
              have rx := Lib.hid (HR.out.at HOD.out hlt2 hA)
              have ry := Lib.hid (HR.out.at HOD.out (show k + k2 - 1 < d.size by omega) hB)
              clear hA hB BD
              have l4 : k2 - 1 < d.size - k := by omega
              have l5 : (0 : Int) ≤ ((k2 - 1 : Nat) : Int) := by omega
              have l6 : ((k2 - 1 : Nat) : Int) < ((d.size - k : Nat) : Int) := by omega
              cases hq : eqF uf vf with
              | true =>
                have HQ2 := Lib.hid hq; clear hq e1 e2
                go_wp2_with fail
                go_region_held3 (fun w' => w'.cell? ⟨g, off + k * 3 + k2 * 3, none⟩ = some (.bool u1) ∧ w'.cell? ⟨g, off + k * 3 + k2 * 3 + 1, none⟩ = some (.slice u2 u3 u4) ∧ w'.cell? ⟨g, off + k * 3 + k2 * 3 + 2, none⟩ = some (.slice u5 u6 u7) ∧ w'.cell? ⟨g, off + k * 3 + (k2 - 1) * 3, none⟩ = some (.bool v1) ∧ w'.cell? ⟨g, off + k * 3 + (k2 - 1) * 3 + 1, none⟩ = some (.slice v2 v3 v4) ∧ w'.cell? ⟨g, off + k * 3 + (k2 - 1) * 3 + 2, none⟩ = some (.slice v5 v6 v7)) ((first | exact ⟨m0, m1, m2, p0, p1, p2⟩ | exact ⟨K0, K1, K2, K3, K4, K5⟩)) (first | (go_at_fn 25; refine (LY rx.out ry.out).mono ?_; rw [HQ2.out]; rintro e w3 ⟨rfl, hb⟩; have K0 := (hb.cell (p := ⟨g, off + k * 3 + k2 * 3, none⟩) (show g < wr.heap.size by omega)).trans m0; have K1 := (hb.cell (p := ⟨g, off + k * 3 + k2 * 3 + 1, none⟩) (show g < wr.heap.size by omega)).trans m1; have K2 := (hb.cell (p := ⟨g, off + k * 3 + k2 * 3 + 2, none⟩) (show g < wr.heap.size by omega)).trans m2; have K3 := (hb.cell (p := ⟨g, off + k * 3 + (k2 - 1) * 3, none⟩) (show g < wr.heap.size by omega)).trans p0; have K4 := (hb.cell (p := ⟨g, off + k * 3 + (k2 - 1) * 3 + 1, none⟩) (show g < wr.heap.size by omega)).trans p1; have K5 := (hb.cell (p := ⟨g, off + k * 3 + (k2 - 1) * 3 + 2, none⟩) (show g < wr.heap.size by omega)).trans p2))
                have HB3 := Lib.hid ((Below.drew (Below.refl wr.heap.size wr)).trans hb)
                clear hb K0 K1 K2 K3 K4 K5
                go_wp2
                go_roundw
                case rel => exact ⟨kk, k2 + 1, dk, rfl, by go_num, by omega, by omega, by omega, HO.out.trans (OnlyIn.of_below HB3.out), HS.out.below HB3.out (by omega), HJ.out.skip (by omega) (by rw [HU.out.1, HU.out.2]; exact HQ2.out)⟩
                case measure => simp [intOf]; omega
              | false =>
                have HQ2 := Lib.hid hq; clear hq
                have HE1 := Lib.hid e1; clear e1 e2
                go_wp2_with fail
                go_region_held3 (fun w' => w'.cell? ⟨g, off + k * 3 + k2 * 3, none⟩ = some (.bool u1) ∧ w'.cell? ⟨g, off + k * 3 + k2 * 3 + 1, none⟩ = some (.slice u2 u3 u4) ∧ w'.cell? ⟨g, off + k * 3 + k2 * 3 + 2, none⟩ = some (.slice u5 u6 u7) ∧ w'.cell? ⟨g, off + k * 3 + (k2 - 1) * 3, none⟩ = some (.bool v1) ∧ w'.cell? ⟨g, off + k * 3 + (k2 - 1) * 3 + 1, none⟩ = some (.slice v2 v3 v4) ∧ w'.cell? ⟨g, off + k * 3 + (k2 - 1) * 3 + 2, none⟩ = some (.slice v5 v6 v7)) ((first | exact ⟨m0, m1, m2, p0, p1, p2⟩ | exact ⟨K0, K1, K2, K3, K4, K5⟩)) (first | (go_at_fn 25; refine (LY rx.out ry.out).mono ?_; rw [HQ2.out]; rintro e w3 ⟨rfl, hb⟩; have K0 := (hb.cell (p := ⟨g, off + k * 3 + k2 * 3, none⟩) (show g < wr.heap.size by omega)).trans m0; have K1 := (hb.cell (p := ⟨g, off + k * 3 + k2 * 3 + 1, none⟩) (show g < wr.heap.size by omega)).trans m1; have K2 := (hb.cell (p := ⟨g, off + k * 3 + k2 * 3 + 2, none⟩) (show g < wr.heap.size by omega)).trans m2; have K3 := (hb.cell (p := ⟨g, off + k * 3 + (k2 - 1) * 3, none⟩) (show g < wr.heap.size by omega)).trans p0; have K4 := (hb.cell (p := ⟨g, off + k * 3 + (k2 - 1) * 3 + 1, none⟩) (show g < wr.heap.size by omega)).trans p1; have K5 := (hb.cell (p := ⟨g, off + k * 3 + (k2 - 1) * 3 + 2, none⟩) (show g < wr.heap.size by omega)).trans p2))
                have HB3 := Lib.hid ((Below.drew (Below.refl wr.heap.size wr)).trans hb)
                clear hb K0 K1 K2 K3 K4 K5 m0 m1 m2 p0 p1 p2 hk2m
                have HS3 := Lib.hid (HS.out.below HB3.out (by omega))
                obtain ⟨m0, m1, m2⟩ := (HS3.out (k + k2) (by omega)).1
                rw [HJ.out.high (k + k2) (by omega), HE1.out, HU.out.1] at m0 m1 m2
                simp only at m0 m1 m2
                obtain ⟨⟨s0, s1, s2⟩, sf0, sf1, sf2⟩ := HS3.out kk (by omega)
                go_wp2
                go_roundw
                case rel =>
                  have hki := HJ.out.set HI.out hlt2 (by rw [HU.out.1, HU.out.2]; exact HQ2.out)
                  have hrw := HS3.out.set (show kk < dk.size by omega) (d[k + k2]!)
                  rw [HU.out.1] at hki hrw
                  exact ⟨kk + 1, k2 + 1, _, by go_num, by go_num, by omega, by omega, by omega, OnlyIn.setCell (OnlyIn.setCell (OnlyIn.setCell (HO.out.trans (OnlyIn.of_below HB3.out)) rfl _) rfl _) rfl _, hrw, hki⟩
                case measure => simp [intOf]; omega
            · have hend : k + k2 = d.size := by omega
              have hcl : ∀ ty, (Builtin.clear_ #[54] ty #[.slice (some ⟨g, off + kk * 3, none⟩) (d.size - kk) (cap - kk)]).run Tryz.prog wr = .ok (.tuple #[]) (wr.setCells g (off + kk * 3) (Builtin.zeroCells (Value.agg #[.bool false, .slice none 0 0, .slice none 0 0]).cells (d.size - kk)).toList) := fun ty =>
                TO wr _ _ ty Tryz.underlying54 Tryz.zeroValue40 g (off + kk * 3) (d.size - kk) (cap - kk) (by omega) (fun j hj => by
                  obtain ⟨⟨q0, q1, q2⟩, -⟩ := HS.out (kk + j / 3) (by omega)
                  have : j % 3 = 0 ∨ j % 3 = 1 ∨ j % 3 = 2 := by omega
                  rcases this with e | e | e
                  · rw [show off + kk * 3 + j = off + (kk + j / 3) * 3 by omega, q0]; rfl
                  · rw [show off + kk * 3 + j = off + (kk + j / 3) * 3 + 1 by omega, q1]; rfl
                  · rw [show off + kk * 3 + j = off + (kk + j / 3) * 3 + 2 by omega, q2]; rfl) (fun j hj => by
                  obtain ⟨-, q0, q1, q2⟩ := HS.out (kk + j / 3) (by omega)
                  have : j % 3 = 0 ∨ j % 3 = 1 ∨ j % 3 = 2 := by omega
                  rcases this with e | e | e
                  · rw [show off + kk * 3 + j = off + (kk + j / 3) * 3 by omega, q0]
                  · rw [show off + kk * 3 + j = off + (kk + j / 3) * 3 + 1 by omega, q1]
                  · rw [show off + kk * 3 + j = off + (kk + j / 3) * 3 + 2 by omega, q2])
              obtain ⟨zs, hzs⟩ : ∃ zs, (Builtin.zeroCells (Value.agg #[.bool false, .slice none 0 0, .slice none 0 0]).cells (d.size - kk)).toList = zs := ⟨_, rfl⟩
              rw [hzs] at hcl
              clear hzs
              go_wp2
              go_ret
              have hI := HJ.out
              rw [hend] at hI
              refine ⟨kk, dk, rfl, hI, HO.out.trans (Gy g zs _ _), fun j hj => ?_⟩
              obtain ⟨⟨q0, q1, q2⟩, -⟩ := HS.out j (by omega)
              exact ⟨by rw [Dm g zs _ _ _ (by omega)]; exact q0, by rw [Dm g zs _ _ _ (by omega)]; exact q1, by rw [Dm g zs _ _ _ (by omega)]; exact q2⟩
      · have hke : k = d.size := by omega
        have HB := Lib.hid hb; clear hb
        have HA := Lib.hid hall; clear hall
        go_wp2
        go_ret
        have hA := HA.out
        rw [hke] at hA
        exact ⟨d.size, d, rfl, hA, OnlyIn.of_below HB.out, fun j hj => (HH.out.below HB.out hg j hj).1⟩
end Go.Proofs.YtkffpiaagjcmpaaGreat
namespace Go.Proofs.YtkffpiaagjcmpaaGreat
set_option linter.unusedVariables false
set_option linter.unusedSimpArgs false
open Go.RowKit
def Mi:Con:={ ι:=(List Fr),pre:=λ i=>i.length<=2000000000000,args:=λ i=>[.one (DC.sl 40 z39 (AG i))],res:=λ i=>⟨false,[none],[.top 40 [.bool,.sl 3 [.int],.sl 3 [.int]] (AG i)]⟩ }
set_option maxRecDepth 100000 in
theorem V0:Mi.Ok Tryz.prog 117:=by
 refine fok (X:=⟨tt,[],[],8,[]⟩) mixed AQ (CTok.nil _) Tryz.func117 (λ _=>[]) ?_
 intro (l:List Fr) hpre
 have hpre:l.length<=2000000000000:=hpre
 refine AP (q:=∀ b1:Bool,(b1=true->(AG l)=[])->(ifB (b1) ((([]:List (List Dat))=AG l)) ((([]:List (List Dat)).length+(AG l).length<=2199023255552)/\(((([]:List (List Dat))++(AG l))=AG l))))) (by kernel_rfl) ?_
 delta ifB
 have hfl:=BM l
 intro b1 q1
 refine ⟨λ c2=>?_,λ c2=>?_⟩
 ·try simp only [nrm] at c2
  exact (q1 c2).symm
 try simp only [nrm] at c2
 refine ao (by first|rfl|omega|(simp only [List.length_cons,List.length_nil];omega)) λ o4=>?_
 rfl
def BS:Con:={ ι:=(List Fr),pre:=λ i=>BC i/\i.length<=2000000000000,args:=λ i=>[.one (DC.sl 40 z39 (AG i))],res:=λ i=>⟨false,[none],[.view 40 [.bool,.sl 3 [.int],.sl 3 [.int]] (AG (Bp [] i))]⟩ }
open Go.Sort Go.Shelf
abbrev Gn (F:Nat->Prop) (w:World) (b:Nat):Prop:=F b∨w.heap.size<=b
def S1 (F:Nat->Prop) (w w1:World) (l:List Fr) (u:Value):Prop:=∃ rv:List (List Value),Below w.heap.size w w1/\w1.ownsRow 0 40 3 u rv.length rv.flatten/\rv.length=l.length/\(∀ r ∈ rv,r.length=3)/\(∀ g,u.ownBlock=some g->w.heap.size<=g)/\∀ k,k<l.length->RdRowS (λ b=>Gn F w b/\∀ g,u.ownBlock=some g->b≠g) w1 rTy (frD (l.getD k Fr.none)) (rv.getD k [])
theorem AAD {F:Nat->Prop} {l:List Fr} (hl:l.length<=2000000000000) {w:World} {u0:Value} (hF:∀ b,F b->b<w.heap.size) (h:RdS F w (.sl 40 rTy) (.sl (AG l)) u0):Calls Tryz.prog 117 #[u0] w λ e w1=>∃ u,e=.returned u/\S1 F w w1 l u:=by
 refine (V0.calls l hl F w [u0] (λ _=>[]) ⟨rfl,hF,λ p d u hd hu _=>?_,λ j p hj=>by simp [Mi] at hj,λ i j b _ hi=>absurd hi (Nat.not_lt_zero _),λ j b hj=>absurd hj (Nat.not_lt_zero _),⟨λ _ hb=>(List.not_mem_nil hb).elim,trivial⟩,λ j b hj=>absurd hj (Nat.not_lt_zero _)⟩).mono ?_
 ·match p,hd,hu with
  | 0,hd,hu=>cases hd;cases hu;exact h
  | p+1,hd,_=>cases hd
 ·rintro e w1 ⟨rs,bs,rfl,hq⟩
  have hr:=hq.res
  cases rs with
  | nil=>exact hr.elim
  | cons u us=>
   obtain ⟨b1,b2,rfl,⟨rv,h1,h2,h3,h4,h5⟩,h6⟩:=hr
   have h2' : rv.length=l.length:=by rw [h2];exact BM l
   have hfr:∀ g,u.ownBlock=some g->w.heap.size<=g:=λ g hg=>by
    rcases hq.fresh g (List.mem_append_left _ (h5 g hg)) with h|⟨j,hj,_⟩
    ·exact h
    ·exact absurd hj (List.not_mem_nil)
   refine ⟨u,rfl,rv,⟨hq.os,hq.tape,hq.output,hq.size,λ b hb=>hq.keep b hb (λ j hj=>absurd hj (Nat.not_lt_zero _))⟩,h1,h2',h3,hfr,λ k hk=>?_⟩
   have h7:=h4 k (by rw [BM];exact hk)
   rw [BL hk] at h7
   refine RdRowS.mono (λ b hb=>?_) _ _ _ h7
   rcases hb with hb|⟨hb,hn⟩
   ·exact ⟨.inl hb,λ g hg e=>by have:=hF b hb;have:=hfr g hg;omega⟩
   ·exact ⟨.inr hb,λ g hg e=>hn (e ▸ List.mem_append_left _ (h5 g hg))⟩
def S2 (F:Nat->Prop) (w w2:World) (l:List Fr) (u:Value):Prop:=Below w.heap.size w w2/\((l=[]/\∃ a cap,u=.slice a 0 cap/\cap<=maxLen/\(a=none->cap=0)) ∨
 ∃ (g cap:Nat) (d:Array R3),u=.slice (some ⟨g,0,none⟩) d.size cap/\0<d.size/\d.size=l.length/\d.size<=cap/\cap<=maxLen/\w.heap.size<=g/\g<w2.heap.size/\Row3 w2 g 0 d/\Rd3 (Gn F w) w2 g d/\Inc d/\∀ x,(∃ j,j<d.size/\(d[j]!).f=x)↔x ∈ l)
theorem AAE {F:Nat->Prop} {w:World} {r:Fr} {us:List Value} (h:RdRowS F w rTy (frD r) us):∃ x:R3,rE x=us/\x.f=r:=by
 have h:=RdRowS.rd _ _ _ h
 match us,h with
 | [a,b,c],h=>
  obtain ⟨h1,h2,h3,-⟩:=h
  obtain ⟨_,s1,_⟩:=h2
  obtain ⟨_,s2,_⟩:=h3
  obtain ⟨p,m,e1,-⟩:=s1
  obtain ⟨q,n,e2,-⟩:=s2
  exact ⟨⟨_,p,_,m,q,_,n,r⟩,by rw [show a=_ from h1,e1,e2];rfl,rfl⟩
theorem YD {F : Nat → Prop} {w w1 : World} {l : List Fr} {u : Value} (hgd : BC l) (hl : l.length ≤ 2000000000000) (h : S1 F w w1 l u) : Calls Tryz.prog 118 #[u, .func (.func 58) #[] #[]] w1 fun e w2 => e = .returned (.tuple #[]) ∧ S2 F w w2 l u := by
  obtain ⟨rv, hb, ho, hlen, h3, hfr, hrd⟩ := h
  by_cases h0 : l.length = 0
  · have hl0 : l = [] := List.eq_nil_of_length_eq_zero h0
    obtain ⟨a, cap, rfl, hm, ha⟩ : ∃ a cap, u = .slice a 0 cap ∧ cap ≤ maxLen ∧ (a = none → cap = 0) := by
      rcases ho.2 with ⟨rfl, _⟩ | ⟨g, cap, cur, rfl, -, -, -, hm, -⟩
      · exact ⟨none, 0, rfl, by decide, fun _ => rfl⟩
      · exact ⟨some ⟨g, 0, none⟩, cap, by rw [hlen, h0], hm, fun h => by cases h⟩
    refine Calls.mono (P := Tryz.prog) (AnyF.slices_SortFunc_none ABc a cap (.func (.func 58) #[] #[]) w1) ?_
    rintro e w' ⟨rfl, rfl⟩
    exact ⟨rfl, hb, .inl ⟨hl0, a, cap, rfl, hm, ha⟩⟩
  · rcases ho.2 with ⟨_, h⟩ | ⟨g, cap, cur, rfl, -, hh, hc, hm, hcs, ht⟩
    · omega
    · have hS := EE ho h3
      obtain ⟨_, _, e0, _, _, _, e1⟩ := hS
      cases e0
      rcases e1 with ⟨e1, _⟩ | ⟨b, off, e1, hbl, hcell⟩
      · rw [e1] at hlen; simp at hlen; omega
      · cases e1
        have hgw : w.heap.size ≤ g := hfr g rfl
        have hs := ABd (G := Gn F w) (w := w1) (cap := cap) hh hlen hgd (by omega) (fun k hk => RdRowS.mono (fun b hb => ⟨⟨hb.1.1, hb.1.2 g rfl⟩, hb.2⟩) _ _ _ (RdRowS.step (Nat.le_refl _) (fun _ _ _ => rfl) _ _ _ (hrd k hk))) (fun k i hk hi => ⟨by
            have h1 := hcell k (by omega) i hi
            rw [Nat.zero_add] at h1
            have h2 : (rv.getD k []).length = 3 := h3 _ (by simp [List.getD, show k < rv.length by omega])
            rw [h1]
            have h4 : i < (rv.getD k []).length := by omega
            show some (((rv.getD k [])[i]?).getD undef) = _
            rw [List.getElem?_eq_getElem h4]; rfl, by simp [World.frozen?, hh]⟩)
        rw [hlen]
        refine hs.mono ?_
        rintro e w2 ⟨rfl, ls', rv', hS⟩
        have hex : ∀ k, ∃ x : R3, k < l.length → rE x = rv'.getD k [] ∧ x.f = ls'.getD k Fr.none := fun k => by
          by_cases hk : k < l.length
          · obtain ⟨x, e1, e2⟩ := AAE (hS.rd k hk)
            exact ⟨x, fun _ => ⟨e1, e2⟩⟩
          · exact ⟨default, fun h => absurd h hk⟩
        obtain ⟨f, hf⟩ := Classical.axiomOfChoice hex
        let d : Array R3 := ((List.range l.length).map f).toArray
        have hds : d.size = l.length := by simp [d]
        have hdk : ∀ k, k < l.length → d[k]! = f k := fun k hk => by simp [d, hk]
        refine ⟨rfl, hb.trans ⟨hS.os, hS.tape, hS.output, hS.size, fun b hb' => hS.old b (Nat.lt_of_lt_of_le hb' hb.size) (by omega)⟩, .inr ⟨g, cap, d, by rw [hds], by omega, hds, by omega, hm, hgw, Nat.lt_of_lt_of_le hbl hS.size, fun j hj => ?_, fun j hj => ?_, ⟨fun j hj => ?_, fun i j hij hj => ?_⟩, fun x => ?_⟩⟩
        · rw [hds] at hj
          obtain ⟨e1, e2⟩ := hf j hj
          have c0 := hS.cells j 0 hj (by omega)
          have c1 := hS.cells j 1 hj (by omega)
          have c2 := hS.cells j 2 hj (by omega)
          rw [← e1] at c0 c1 c2
          rw [hdk j hj, Nat.zero_add]
          exact ⟨⟨c0.1, c1.1, c2.1⟩, c0.2, c1.2, c2.2⟩
        · rw [hds] at hj
          obtain ⟨e1, e2⟩ := hf j hj
          rw [hdk j hj, e1, e2]
          refine RdRowS.mono (fun b hb => ⟨hb.1.1, Nat.lt_of_lt_of_le hb.2 hS.size⟩) _ _ _ (RdRowS.step hS.size (fun b hb hG => hS.old b hb hG.1.2) _ _ _ (hS.rd j hj))
        · rw [hds] at hj
          rw [hdk j hj, (hf j hj).2]
          refine hgd _ (hS.perm.mem_iff.1 ?_)
          simp [List.getD, hS.len.1, hj]
        · rw [hds] at hj
          rw [hdk j hj, hdk i (by omega), (hf j hj).2, (hf i (by omega)).2]
          exact hS.asc i j hij hj
        · rw [← hS.perm.mem_iff]
          constructor
          · rintro ⟨j, hj, e⟩
            rw [hds] at hj
            rw [hdk j hj, (hf j hj).2] at e
            rw [← e]
            simp [List.getD, hS.len.1, hj]
          · intro hx
            obtain ⟨j, hj, e⟩ := List.getElem_of_mem hx
            have hj2 : j < l.length := by rw [← hS.len.1]; exact hj
            refine ⟨j, by rw [hds]; exact hj2, ?_⟩
            rw [hdk j hj2, (hf j hj2).2, ← e]
            simp [List.getD, hj]
theorem TQ (a:Option Addr) (cap:Nat) (w:World):Calls Tryz.prog 119 #[.slice a 0 cap,.func (.func 25) #[] #[]] w λ e w'=>e=.returned (.slice a 0 cap)/\w'=w:=by
 go_enter Tryz.func119,Tryz.ntmps119
 go_wp2
 go_ret
 exact ⟨rfl,rfl⟩
theorem YE {F:Nat->Prop} {w w2:World} {l:List Fr} {u:Value} (hgd:BC l) (hl:l.length<=2000000000000) (h:S2 F w w2 l u):Calls Tryz.prog 119 #[u,.func (.func 25) #[] #[]] w2 λ e w3=>∃ v,e=.returned v/\Below w.heap.size w w3/\RdS (Gn F w) w3 (.sl 40 rTy) (.sl (AG (Bp [] l))) v:=by
 obtain ⟨hb,h⟩:=h
 rcases h with ⟨rfl,a,cap,rfl,hm,ha⟩|⟨g,cap,d,rfl,hpos,hdl,hc,hm,hgw,hg2,hR,hD,hI,hmem⟩
 ·refine (TQ a cap w2).mono ?_
  rintro e w3 ⟨rfl,rfl⟩
  refine ⟨_,rfl,hb,[],⟨a,cap,rfl,Nat.zero_le _,hm,λ x hx=>by simp at hx,.inl ⟨rfl,ha⟩⟩,λ h=>absurd rfl h,rfl,λ k hk=>by simp [AG,Bp] at hk⟩
 ·refine (TP (G:=Gn F w) g 0 cap d w2 hR hD hI hg2 (by omega) hpos hc hm).mono ?_
  rintro e w3 ⟨m,d',rfl,hC,hO,hcells⟩
  have hK:Bp [] l=(List.range m).map (λ j=>(d'[j]!).f):=by
   obtain ⟨_,a2,a3⟩:=Fd hgd (acc:=[]) (λ x hx=>by simp at hx) List.Pairwise.nil
   refine LX a2 ?_ λ x=>?_
   ·unfold asc
    rw [List.pairwise_iff_getElem]
    intro i j hi hj hij
    simp only [List.length_map,List.length_range] at hi hj
    simpa using hC.asc i j hij hj
   ·rw [a3,← hmem x,← hC.mem x]
    simp
  have hm' : m<=d.size:=hC.le
  have hw3:=hO.size
  refine ⟨_,rfl,hb.trans (hO.below (λ k hk=>by rw [hk];exact hgw) hb.size),(List.range m).map (λ j=>rE d'[j]!),⟨some ⟨g,0,none⟩,cap,by simp,by simp;omega,hm,?_,.inr ⟨g,0,rfl,Nat.lt_of_lt_of_le hg2 hw3,λ j hj i hi=>?_⟩⟩,λ _ b hb'=>?_,by rw [hK,BM];simp,λ k hk=>?_⟩
  ·intro x hx
   obtain ⟨j,_,rfl⟩:=List.mem_map.1 hx
   rfl
  ·have hj2:j<m:=by simpa using hj
   obtain ⟨c0,c1,c2⟩:=hcells j hj2
   have e1:((List.range m).map (λ j=>rE d'[j]!)).getD j []=rE d'[j]! := by simp [List.getD,hj2]
   rw [e1]
   simp only [Nat.zero_add] at c0 c1 c2 ⊢
   match i,hi with
   | 0,_=>exact c0
   | 1,_=>exact c1
   | 2,_=>exact c2
  ·obtain rfl:g=b:=Option.some.inj hb'
   exact .inr hgw
  ·rw [BM,hK] at hk
   have hk2:k<m:=by simpa using hk
   rw [BL (by rw [hK];exact hk),hK]
   have e1:((List.range m).map (λ j=>rE d'[j]!)).getD k []=rE d'[k]! := by simp [List.getD,hk2]
   have e2:((List.range m).map (λ j=>(d'[j]!).f)).getD k Fr.none=(d'[k]!).f:=by simp [List.getD,hk2]
   rw [e1,e2]
   obtain ⟨i,hi,e3⟩:=hC.sub k hk2
   rw [e3]
   exact RdRowS.mono (λ b hb=>hb.1.1.1) _ _ _ (RdRowS.step hw3 (λ b hb hG=>hO.block b hb hG.1.2) _ _ _ (hD i hi))
theorem PU {F:Nat->Prop} {l:List Fr} (hgd:BC l) (hl:l.length<=2000000000000) {w:World} {u0:Value} (hF:∀ b,F b->b<w.heap.size) (h:RdS F w (.sl 40 rTy) (.sl (AG l)) u0):Calls Tryz.prog 65 #[u0] w λ e w'=>∃ v,e=.returned v/\Below w.heap.size w w'/\RdS (Gn F w) w' (.sl 40 rTy) (.sl (AG (Bp [] l))) v:=by
 have HC:=Lib.hid (AAD hl hF h)
 have HG:=Lib.hid hgd
 clear hF h hgd
 go_enter Tryz.func65,Tryz.ntmps65
 go_wp2_with (go_at_call 117;refine HC.out.mono ?_;rintro e w1 ⟨u,rfl,h1⟩;have H1:=Lib.hid h1;clear h1)
 go_wp2_with (go_at_call 118;refine (YD HG.out hl H1.out).mono ?_;rintro e w2 ⟨rfl,h2⟩;have H2:=Lib.hid h2;clear h2)
 go_wp2_with (go_at_call 119;refine (YE HG.out hl H2.out).mono ?_;rintro e w3 ⟨v,rfl,h3⟩;have H3:=Lib.hid h3;clear h3)
 go_wp2
 go_ret
 exact ⟨v,rfl,H3.out⟩
theorem IC:BS.Ok Tryz.prog 65 where
 enter:=⟨_,Tryz.func65,by decide,rfl⟩
 small:=λ _=>Nat.le_of_ble_eq_true rfl
 calls:=by
  intro (l:List Fr) hp F w us mb h
  obtain ⟨u0,rfl⟩:∃ u,us=[u]:=match us,h.len with|[_],_=>⟨_,rfl⟩
  have hrd:RdS F w (.sl 40 rTy) (.sl (AG l)) u0:=h.rd 0 _ u0 rfl rfl (List.not_mem_nil)
  refine (PU hp.1 hp.2 h.lt hrd).mono ?_
  rintro e w' ⟨v,rfl,hb,hr⟩
  exact ⟨[v],[],rfl,⟨⟨RdS.mono (λ b hb=>hb.elim .inl λ h=>.inr ⟨h,List.not_mem_nil⟩) _ _ _ hr,rfl⟩,List.nodup_nil,λ b hb=>absurd hb List.not_mem_nil,λ j p e ts rows u _ hj=>(by cases hj),hb.os,hb.tape,hb.output,hb.size,λ b hb' _=>hb.block b hb'⟩⟩
end Go.Proofs.YtkffpiaagjcmpaaGreat
