import Derived.Test.YtmedodfenejimaaGreatEvRkEv0
import Derived.Shelf.SlSortCmp.NoneTotal
import Derived.Test.YtmedodfenejimaaGreatEvSrtS
namespace Go.Proofs.YtmedodfenejimaaGreat
set_option linter.unusedVariables false
set_option linter.unusedSimpArgs false
open Go.RowKit Go.Sort Go.Shelf
theorem VK {w w' : World} (hb:Below w.heap.size w w') (hd:w.drawn<=w'.drawn):∃ q os,w'=grow (w.drewN q) os:=by
 refine ⟨w'.drawn-w.drawn,w'.heap.extract w.heap.size w'.heap.size,?_⟩
 have hs:=hb.size
 have e:w.heap++w'.heap.extract w.heap.size w'.heap.size=w'.heap:=by
  apply Array.ext_getElem?
  intro i
  by_cases hi:i<w.heap.size
  ·rw [Array.getElem?_append_left hi,← hb.block i hi]
  ·rw [Array.getElem?_append_right (by omega),Array.getElem?_extract]
   by_cases h2:i<w'.heap.size
   ·rw [if_pos (by omega),show w.heap.size+(i-w.heap.size)=i by omega]
   ·rw [if_neg (by omega),Array.getElem?_eq_none (by omega)]
 have e1:=hb.os
 have e2:=hb.tape
 have e3:=hb.output
 cases w
 cases w'
 simp only [grow,World.drewN] at *
 subst e1 e2 e3
 rw [e]
 congr 1
 omega
theorem Oz {P:Program} {c:Con} {f:Nat} (hc:c.Ok P f) (hm:c.mono=true) (hmu:c.mu=[]) (i:c.ι) (hp:c.pre i) {v:Value} (hres:c.res i=⟨false,[none],[.im v]⟩) {ts:List Ty} {ds:List Dat} {us:List Value} {w:World} (h:RdRow w ts ds us)
  (hts:Ty.eras ts=Ty.eras (((c.args i).flatMap DA.cells).map DC.ty)) (hds:ds=((c.args i).flatMap DA.cells).map DC.dat) (hok:((c.args i).flatMap DA.cells).all DC.ok=true) :
  Calls P f (B7 (c.args i) us).toArray w λ e w'=>e=.returned v/\∃ q os,w'=grow (w.drewN q) os:=by
 subst hds
 obtain ⟨h1,h2⟩:=GX (h.cast hts) hok
 refine (hc.quiet hm i hp (λ b=>b<w.heap.size) w us (λ _=>[]) ⟨h1,λ _ h=>h,λ p d u hd hu _=>h2 p d u hd hu,λ j p hj=>?_,λ a b x _ _ _ hx=>by simp at hx,λ j b _ hb=>by simp at hb⟩).mono ?_
 ·rw [hmu] at hj;simp at hj
 ·rintro e w' ⟨rs,bs,rfl,hpost,hd⟩
  have hr:=hpost.res
  rw [hres] at hr
  refine ⟨?_,VK ⟨hpost.os,hpost.tape,hpost.output,hpost.size,λ b hb=>hpost.keep b hb (λ j hj=>by rw [hmu] at hj;simp at hj)⟩ hd⟩
  rw [hres]
  cases rs with
  | nil=>simp [BW] at hr
  | cons r rs=>
   obtain ⟨rfl,hr⟩:=(by simpa only [BW] using hr:r=_/\_)
   rfl
abbrev rTy:List Ty:=[.bool,.sl 3 [.int],.sl 3 [.int]]
theorem UM {r s:Fr} {xs ys:List Value} {w:World} (h1:RdRow w rTy (frD r) xs) (h2:RdRow w rTy (frD s) ys):Calls Tryz.prog 153 #[.agg xs.toArray,.agg ys.toArray] w λ e w'=>e=.returned (.int .i64 (Fr.cmp r s))/\∃ q os,w'=grow (w.drewN q) os:=by
 have h:=Oz I6 rfl rfl (r,s) trivial (v:=.int .i64 (Fr.cmp r s)) rfl (RdRow.app _ _ _ h1 h2) rfl rfl rfl
 have l1:=(RdRow.lens _ _ _ h1).2
 have l2:=(RdRow.lens _ _ _ h2).2
 have hv:B7 (AT.args (r,s)) (xs++ys)=[.agg xs.toArray,.agg ys.toArray]:=by
  simp only [AT]
  rw [Kx (by exact l1),IN (by exact l2)]
 rw [hv] at h;exact h
theorem VL {r s:Fr} {xs ys:List Value} {w:World} (h1:RdRow w rTy (frD r) xs) (h2:RdRow w rTy (frD s) ys):Calls Tryz.prog 109 #[.agg xs.toArray,.agg ys.toArray] w λ e w'=>e=.returned (.bool (eqF r s))/\∃ q os,w'=grow (w.drewN q) os:=by
 have h:=Oz Om rfl rfl (r,s) trivial (v:=.bool (eqF r s)) rfl (RdRow.app _ _ _ h1 h2) rfl rfl rfl
 have l1:=(RdRow.lens _ _ _ h1).2
 have l2:=(RdRow.lens _ _ _ h2).2
 have hv:B7 (F0.args (r,s)) (xs++ys)=[.agg xs.toArray,.agg ys.toArray]:=by
  simp only [F0]
  rw [Kx (by exact l1),IN (by exact l2)]
 rw [hv] at h;exact h
abbrev SR (G:Nat->Prop) (w:World) (g:Nat):Type:={ x:List Value×Fr // RdRowS (λ b=>(G b/\b≠g)/\b<w.heap.size) w rTy (frD x.2) x.1/\x.2.d≠0 }
def Ic {G:Nat->Prop} {w:World} {g:Nat} (x:SR G w g):List Value:=x.1.1
def cfR {G:Nat->Prop} {w:World} {g:Nat} (x y:SR G w g):Int:=Fr.cmp x.1.2 y.1.2
theorem YE {G:Nat->Prop} {w:World} {g:Nat} : SWO (ltOf (cfR (G:=G) (w:=w) (g:=g))) where
 irrefl x:=by unfold ltOf cfR;rw [Ow];rfl
 trans x y z h1 h2:=by
  unfold ltOf cfR at *
  exact decide_eq_true (NT (of_decide_eq_true h1) (of_decide_eq_true h2))
 ntrans x y z h1 h2:=by
  unfold ltOf cfR at *
  have h1:=of_decide_eq_false h1
  have h2:=of_decide_eq_false h2
  refine decide_eq_false λ h3=>?_
  obtain ⟨p,hp,_⟩:=Fr.some_d x.2.2
  obtain ⟨q,hq,_⟩:=Fr.some_d y.2.2
  obtain ⟨r,hr,_⟩:=Fr.some_d z.2.2
  rw [Ht hp hq] at h1
  rw [Ht hq hr] at h2
  rw [Ht hp hr] at h3
  grind
theorem O0 {G:Nat->Prop} {w:World} {g:Nat} (x:SR G w g):(Ic x).length=3:=(RdRow.lens _ _ _ (RdRowS.rd _ _ _ x.2.1)).2
theorem UN {G:Nat->Prop} {w:World} {g:Nat} (x:SR G w g):∀ v ∈ Ic x,v.oneCell'=true:=RdRow.one _ _ _ (RdRowS.rd _ _ _ x.2.1)
theorem UO {α:Type} [Inhabited α] (enc:α->List Value) (w:World) (g n:Nat) (D:Array α) (os:Array Obj) {cur:Array Value} {e:Nat} {fr:Nat×Nat} (h1:w.heap[g]?=some (.cells cur e fr)) :
  (∃ cur',(grow (putRowK enc 3 (Sort.ahead w n) g 0 D) os).heap[g]?=some (.cells cur' e fr)/\cur'.size=cur.size)/\(∀ b,b<w.heap.size->b≠g->(grow (putRowK enc 3 (Sort.ahead w n) g 0 D) os).heap[b]?=w.heap[b]?)/\w.heap.size<=(grow (putRowK enc 3 (Sort.ahead w n) g 0 D) os).heap.size:=by
 have hs:(putRowK enc 3 (Sort.ahead w n) g 0 D).heap.size=w.heap.size:=by simp [putRowK,putRow,mapBlock,Sort.ahead]
 have hg:g<w.heap.size:=(Array.getElem?_eq_some_iff.1 h1).1
 have hold:∀ b,b<w.heap.size->(grow (putRowK enc 3 (Sort.ahead w n) g 0 D) os).heap[b]?=(w.heap.modify g (onCells (putCells id 0 (flatK enc 3 D))))[b]?:=by
  intro b hb
  rw [Sort.heap_grow_old _ _ (by rw [hs];exact hb)]
  rfl
 refine ⟨⟨putCells id 0 (flatK enc 3 D) cur,?_,?_⟩,?_,?_⟩
 ·rw [hold g hg,Array.getElem?_modify,if_pos rfl,h1];rfl
 ·simp [putCells]
 ·intro b hb hne
  rw [hold b hb,Array.getElem?_modify,if_neg (λ e=>hne e.symm)]
 ·rw [Sort.size_grow,hs];omega
theorem SU {G:Nat->Prop} {w:World} {g n:Nat} {e:Nat} {fr:Nat×Nat} {cur:Array Value} (h1:w.heap[g]?=some (.cells cur e fr)) [Inhabited (SR G w g)]:CmpLays Tryz.prog 153 #[] (Ic (G:=G) (w:=w) (g:=g)) 3 cfR g 0 n w:=by
 intro m os dk _ x y
 obtain ⟨-,p2,p3⟩:=UO Ic w g m dk os h1
 have rd:∀ z:SR G w g,RdRow (sortWorldK Ic 3 w g 0 m dk os) rTy (frD z.1.2) (Ic z):=λ z=>
  RdRowS.rd _ _ _ (RdRowS.step p3 (λ b hb hG=>p2 b hb hG.1.2) _ _ _ z.2.1)
 exact UM (rd x) (rd y)
structure SortedW (G:Nat->Prop) (w w' : World) (g e:Nat) (fr:Nat×Nat) (n:Nat) (ls:List Fr) (ls' : List Fr) (rv' : List (List Value)):Prop where
 perm:ls'.Perm ls
 asc:∀ i j,i<j->j<n->¬ Fr.cmp (ls'.getD j Fr.none) (ls'.getD i Fr.none)<0
 len:ls'.length=n/\rv'.length=n
 rd:∀ k,k<n->RdRowS (λ b=>(G b/\b≠g)/\b<w.heap.size) w rTy (frD (ls'.getD k Fr.none)) (rv'.getD k [])
 cells:∀ k i,k<n->i<3->w'.cell? ⟨g,k*3+i,none⟩=(rv'.getD k [])[i]?/\w'.frozen? ⟨g,k*3+i,none⟩=false
 block:∃ cur' : Array Value,w'.heap[g]?=some (.cells cur' e fr)
 old:∀ b,b<w.heap.size->b≠g->w'.heap[b]?=w.heap[b]?
 size:w.heap.size<=w'.heap.size
 os:w'.os=w.os
 tape:w'.tape=w.tape
 output:w'.output=w.output
def UP (G:Nat->Prop) (w:World) (g e:Nat) (fr:Nat×Nat) (n:Nat) (ls:List Fr) (w' : World):Prop:=∃ ls' rv',SortedW G w w' g e fr n ls ls' rv'
theorem WQ {G:Nat->Prop} {w:World} {g e cap:Nat} {fr:Nat×Nat} {cur:Array Value} {ls:List Fr} {rv:List (List Value)} (h1:w.heap[g]?=some (.cells cur e fr)) (hl:rv.length=ls.length) (hgood:Da ls) (hn:ls.length<=4000000000000)
  (hrd:∀ k,k<ls.length->RdRowS (λ b=>(G b/\b≠g)/\b<w.heap.size) w rTy (frD (ls.getD k Fr.none)) (rv.getD k []))
  (hc:∀ k i,k<ls.length->i<3->w.cell? ⟨g,k*3+i,none⟩=(rv.getD k [])[i]?/\w.frozen? ⟨g,k*3+i,none⟩=false) :
  Calls Tryz.prog 226 #[.slice (some ⟨g,0,none⟩) ls.length cap,.func (.func 153) #[] #[]] w λ en w'=>en=.returned (.tuple #[])/\UP G w g e fr ls.length ls w':=by
 by_cases h0:ls.length=0
 ·rw [h0]
  refine (AnyF.slices_SortFunc_none WP (some ⟨g,0,none⟩) cap (.func (.func 153) #[] #[]) w).mono ?_
  rintro en w' ⟨rfl,rfl⟩
  exact ⟨rfl,ls,rv,List.Perm.refl _,λ i j _ hj=>by omega,⟨h0,by omega⟩,λ k hk=>by omega,λ k i hk=>by omega,⟨cur,h1⟩,λ _ _ _=>rfl,Nat.le_refl _,rfl,rfl,rfl⟩
 ·have hpos:0<ls.length:=by omega
  have mk:∀ k,k<ls.length->RdRowS (λ b=>(G b/\b≠g)/\b<w.heap.size) w rTy (frD (rv.getD k [],ls.getD k Fr.none).2) (rv.getD k [],ls.getD k Fr.none).1/\(rv.getD k [],ls.getD k Fr.none).2.d≠0:=λ k hk=>
   ⟨hrd k hk,hgood _ (by simp [List.getD,hk])⟩
  letI:Inhabited (SR G w g):=⟨⟨_,mk 0 hpos⟩⟩
  let D:List (SR G w g):=List.pmap (λ k hk=>(⟨(rv.getD k [],ls.getD k Fr.none),mk k hk⟩:SR G w g)) (List.range ls.length) (λ k hk=>List.mem_range.1 hk)
  have hD:D.length=ls.length:=by simp [D]
  have hDk:∀ k (hk:k<ls.length),(D.toArray)[k]! = (⟨(rv.getD k [],ls.getD k Fr.none),mk k hk⟩:SR G w g):=λ k hk=>by simp [D,hk]
  have hg:g<w.heap.size:=(Array.getElem?_eq_some_iff.1 h1).1
  have hH:HoldsK (Ic (G:=G) (w:=w) (g:=g)) 3 w g 0 D.toArray:=by
   intro j hj
   have hj2:j<ls.length*3:=by simpa [hD] using hj
   have hk:j/3<ls.length:=by omega
   obtain ⟨c1,c2⟩:=hc (j/3) (j%3) hk (by omega)
   have e3:j/3*3+j%3=j:=by omega
   rw [e3] at c1 c2
   refine ⟨?_,by rw [Nat.zero_add];exact c2⟩
   rw [Nat.zero_add,c1,get_flatK _ _ _ _ (by simpa using hj),hDk _ hk]
   have hlen:=(RdRow.lens _ _ _ (RdRowS.rd _ _ _ (hrd _ hk))).2
   have h3:j%3<(rv.getD (j/3) []).length:=by rw [hlen];show j%3<3;omega
   show _=some ((rv.getD (j/3) [])[j%3]!)
   rw [List.getElem?_eq_getElem h3,getElem!_pos (rv.getD (j/3) []) (j%3) h3]
  have eg:∀ args w,(callFunc 153 args).run Tryz.prog w=.ok (.enter 153 args) w:=enters_of Tryz.func153 (by kernel_rfl) rfl
  have hcon:=AnyQ.slices_SortFunc WP 3 Tryz.isAgg90 Tryz.sizeOf90 Ic O0 UN cfR YE 153 #[] g 0 cap D.toArray w eg (SU h1) hH hg (by simp only [List.size_toArray,hD];omega)
  have hs2:D.toArray.size=ls.length:=by rw [List.size_toArray,hD]
  rw [hs2] at hcon
  refine Calls.mono (P:=Tryz.prog) hcon ?_
  rintro en w' ⟨rfl,d',n,os,hp,hso,rfl⟩
  refine ⟨rfl,?_⟩
  obtain ⟨⟨cur',p1,p2⟩,p3,p4⟩:=UO Ic w g n d' os h1
  have hsz:d'.size=ls.length:=by rw [hp.1];exact hs2
  have hHK:=holdsK_sortWorldK_c Ic 3 w g 0 D.toArray d' n os hH hg (by rw [hsz,hs2])
  have hget:∀ k,k<ls.length->(d'.toList.map (·.1.2)).getD k Fr.none=d'[k]!.1.2:=λ k hk=>by simp [List.getD,show k<d'.size by omega]
  have hget2:∀ k,k<ls.length->(d'.toList.map (·.1.1)).getD k []=d'[k]!.1.1:=λ k hk=>by simp [List.getD,show k<d'.size by omega]
  refine ⟨d'.toList.map (·.1.2),d'.toList.map (·.1.1),?_,λ i j hij hj=>?_,⟨by simp [hsz],by simp [hsz]⟩,λ k hk=>?_,λ k i hk hi=>?_,⟨cur',p1⟩,p3,p4,rfl,rfl,rfl⟩
  ·have h2:=hp.2.2
   have e1:(d'.extract 0 ls.length).toList=d'.toList:=by rw [← hsz];simp
   have e2:(D.toArray.extract 0 ls.length).toList=D:=by rw [← hs2];simp
   rw [e1,e2] at h2
   have h3:=h2.map (·.1.2)
   have e3:D.map (·.1.2)=ls:=by
    apply List.ext_getElem
    ·rw [List.length_map,hD]
    ·intro k hk hk2
     simp [D,List.getD,hk2]
   rw [e3] at h3
   exact h3
  ·rw [hget j hj,hget i (by omega)]
   exact of_decide_eq_false (hso i j (Nat.zero_le _) hij hj)
  ·rw [hget k hk,hget2 k hk];exact d'[k]!.2.1
  ·have h2:=hHK (k*3+i) (by rw [size_flatK,hsz];omega)
   rw [Nat.zero_add,get_flatK _ _ _ _ (by rw [hsz];omega),show (k*3+i)/3=k by omega,show (k*3+i)%3=i by omega] at h2
   rw [hget2 k hk]
   refine ⟨?_,h2.2⟩
   rw [h2.1]
   have h3:i<(Ic d'[k]!).length:=by rw [O0];exact hi
   show some ((Ic d'[k]!)[i]!)=(Ic d'[k]!)[i]?
   rw [List.getElem?_eq_getElem h3,getElem!_pos (Ic d'[k]!) i h3]
end Go.Proofs.YtmedodfenejimaaGreat
