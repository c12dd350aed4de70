import Derived.Test.YtkffpiaagjcmpaaGreatEvHus
import Derived.Test.YtkffpiaagjcmpaaGreatEvRkG
import Derived.Shelf.SlSortCmp.NoneTotal
import Derived.Shelf.SlicesQ.Reverse
import Derived.Lib.SlicesCompact
import Derived.Deep.LoopGhost
import Derived.WalkKit
import Derived.RegionTactic
import Derived.Test.YtkffpiaagjcmpaaGreatProg
import Derived.Shelf.SlGeneric
import Derived.Shelf.SlLaysE0
import Derived.Shelf.SlLaysF0
namespace Go.Proofs.YtkffpiaagjcmpaaGreat
set_option linter.unusedVariables false
set_option linter.unusedSimpArgs false
open Go.RowKit Go.Sort Go.Shelf
theorem G1:∀ (l:List V2) (j:Nat),j<l.length*2->(l.map Ag).flatten[j]?=some ((Ag (l.getD (j/2) (0,0)))[j%2]!)
 | [],j,h=>by simp at h
 | a::l,0,_=>by simp [Ag]
 | a::l,1,_=>by simp [Ag]
 | a::l,j+2,h=>by
  have ih:=G1 l j (by simp only [List.length_cons] at h;omega)
  have e:(j+2)/2=j/2+1:=by omega
  have e2:(j+2)%2=j%2:=by omega
  rw [e,e2,List.getD_cons_succ,← ih]
  simp [Ag]
theorem My (l:List V2):(l.map Ag).flatten.length=l.length*2:=by
 induction l with
 | nil=>rfl
 | cons a l ih=>simp only [List.map_cons,List.flatten_cons,List.length_append,ih,List.length_cons];simp [Ag];omega
theorem Pd {w:World} {e:Nat} {l:List V2} {v:Value} {bs:List Nat} (h:Fp w (.sl e [.int,.int]) (.sl (AA l)) v bs) :
  (v=.slice none 0 0/\l=[]/\bs=[])∨∃ g cap cur,v=.slice (some ⟨g,0,none⟩) l.length cap/\w.heap[g]?=some (.cells cur e (0,0))/\l.length<=cap/\cap<=maxLen/\cur.size=cap*2/\cur.toList.take (l.length*2)=(l.map Ag).flatten/\bs=[g]:=by
 simp only [Fp] at h
 obtain ⟨rows,bss,⟨h0,h1⟩,h2,h3,h4,h5,rfl⟩:=h
 rw [AB] at h2 h3 h5
 have hr:rows=l.map Ag/\bss.flatten=[]:=by
  have key:∀ k,k<l.length->rows.getD k []=Ag (l.getD k (0,0))/\bss.getD k []=[]:=by
   intro k hk
   have:=h5 k hk
   rw [I2 hk] at this
   unfold Hz at this
   generalize rows.getD k []=r at *
   generalize bss.getD k []=z at *
   match r,this with
   | [],t=>exact absurd t (by simp [FpRow])
   | [_],t=>exact absurd t (by simp [FpRow])
   | [x,y],t=>
    simp only [FpRow,Fp] at t
    obtain ⟨b1,b2,rfl,⟨rfl,rfl⟩,b3,b4,rfl,⟨rfl,rfl⟩,rfl⟩:=t
    exact ⟨rfl,rfl⟩
   | _::_::_::_,t=>exact absurd t (by simp [FpRow])
  constructor
  ·apply List.ext_getElem
   ·rw [h2,List.length_map]
   ·intro k hk hk2
    have:=(key k (by omega)).1
    simp only [List.getD,hk,List.getElem?_eq_getElem,Option.getD_some] at this
    rw [this]
    simp [List.getElem_map,List.getD,show k<l.length by omega]
  ·rw [List.flatten_eq_nil_iff]
   intro x hx
   obtain ⟨k,hk,rfl⟩:=List.getElem_of_mem hx
   have:=(key k (by omega)).2
   simpa [List.getD,hk] using this
 obtain ⟨rfl,hb⟩:=hr
 rw [List.length_map] at h1
 rcases h1 with ⟨rfl,hn⟩|⟨g,cap,cur,rfl,_,q1,q2,q3,q4,q5⟩
 ·exact .inl ⟨rfl,List.eq_nil_of_length_eq_zero hn,by rw [hb];rfl⟩
 ·exact .inr ⟨g,cap,cur,rfl,q1,q2,q3,q4,q5,by rw [hb];rfl⟩
theorem YV {w:World} {e:Nat} {l:List V2} {g cap:Nat} {cur:Array Value} (h1:w.heap[g]?=some (.cells cur e (0,0))) (h2:l.length<=cap) (h3:cap<=maxLen) (h4:cur.size=cap*2) (h5:cur.toList.take (l.length*2)=(l.map Ag).flatten) :
  Fp w (.sl e [.int,.int]) (.sl (AA l)) (.slice (some ⟨g,0,none⟩) l.length cap) [g]:=by
 simp only [Fp]
 refine ⟨l.map Ag,l.map λ _=>[],⟨?_,.inr ⟨g,cap,cur,by rw [List.length_map],Nat.zero_le _,h1,by rw [List.length_map];exact h2,h3,h4,by rw [List.length_map];exact h5⟩⟩,by simp [AA],by simp [AA],?_,?_,?_⟩
 ·rw [My,List.length_map];rfl
 ·intro r hr
  simp only [List.mem_map] at hr
  obtain ⟨x,_,rfl⟩:=hr
  rfl
 ·intro k hk
  rw [AB] at hk
  rw [I2 hk]
  simp [List.getD,hk,Hz,Ag,FpRow,Fp]
 ·simp [Value.ownBlock]
theorem Ff {w:World} {g e:Nat} {cur:Array Value} {fr:Nat×Nat} (h:w.heap[g]?=some (.cells cur e fr)) (j:Nat):w.cell? ⟨g,j,none⟩=cur[j]?:=by
 simp [World.cell?,h]
theorem Rc {w:World} {e:Nat} {l:List V2} {g cap:Nat} {cur:Array Value} (h1:w.heap[g]?=some (.cells cur e (0,0))) (h2:l.length<=cap) (h4:cur.size=cap*2) (h5:cur.toList.take (l.length*2)=(l.map Ag).flatten):HoldsK Ag 2 w g 0 l.toArray:=by
 intro j hj
 have hj2:j<l.length*2:=by simpa using hj
 refine ⟨?_,?_⟩
 ·rw [Ff h1,Nat.zero_add,get_flatK _ _ _ _ (by simpa using hj2)]
  have:=G1 l j hj2
  rw [← h5,List.getElem?_take,if_pos hj2] at this
  rw [Array.getElem?_toList] at this
  rw [this]
  congr 2
  simp [List.getD,show j/2<l.length by omega]
 ·simp [World.frozen?,h1]
theorem YW {w:World} {e:Nat} {l:List V2} {g cap:Nat} {cur:Array Value} {fr:Nat×Nat} (h1:w.heap[g]?=some (.cells cur e fr)) (h2:l.length<=cap) (h4:cur.size=cap*2) (hH:HoldsK Ag 2 w g 0 l.toArray):cur.toList.take (l.length*2)=(l.map Ag).flatten:=by
 apply List.ext_getElem?
 intro j
 by_cases hj:j<l.length*2
 ·rw [G1 l j hj,List.getElem?_take,if_pos hj,Array.getElem?_toList]
  have:=(hH j (by simpa using hj)).1
  rw [Ff h1,Nat.zero_add,get_flatK _ _ _ _ (by simpa using hj)] at this
  rw [this]
  congr 2
  simp [List.getD,show j/2<l.length by omega]
 ·rw [List.getElem?_eq_none (by simp only [List.length_take];omega),List.getElem?_eq_none (by rw [My];omega)]
theorem Od {α:Type} [Inhabited α] (enc:α->List Value) (w:World) (g n:Nat) (D:Array α) (os:Array Obj) {cur:Array Value} {e:Nat} {fr:Nat×Nat} (h1:w.heap[g]?=some (.cells cur e fr)) :
  (∃ cur',(grow (putRowK enc 2 (Sort.ahead w n) g 0 D) os).heap[g]?=some (.cells cur' e fr)/\cur'.size=cur.size)/\(∀ b,b<w.heap.size->b≠g->(grow (putRowK enc 2 (Sort.ahead w n) g 0 D) os).heap[b]?=w.heap[b]?)/\w.heap.size<=(grow (putRowK enc 2 (Sort.ahead w n) g 0 D) os).heap.size:=by
 have hs:(putRowK enc 2 (Sort.ahead w n) g 0 D).heap.size=w.heap.size:=by simp [putRowK,putRow,mapBlock,Sort.ahead]
 have hg:g<w.heap.size:=(Array.getElem?_eq_some_iff.1 h1).1
 have hold:∀ b,b<w.heap.size->(grow (putRowK enc 2 (Sort.ahead w n) g 0 D) os).heap[b]?=(w.heap.modify g (onCells (putCells id 0 (flatK enc 2 D))))[b]?:=by
  intro b hb
  rw [Sort.heap_grow_old _ _ (by rw [hs];exact hb)]
  rfl
 refine ⟨⟨putCells id 0 (flatK enc 2 D) cur,?_,?_⟩,?_,?_⟩
 ·rw [hold g hg,Array.getElem?_modify,if_pos rfl,h1];rfl
 ·simp [putCells]
 ·intro b hb hne
  rw [hold b hb,Array.getElem?_modify,if_neg (λ e=>hne e.symm)]
 ·rw [Sort.size_grow,hs];omega
abbrev VV:Type:={ v:V2 // AE v=true }
instance:Inhabited VV:=⟨⟨(0,0),by decide⟩⟩
def Kv (x:VV):List Value:=Ag x.1
def cfV (x y:VV):Int:=if x.1.1=y.1.1 then x.1.2-y.1.2 else x.1.1-y.1.1
def GU:(l:List V2)->l.all AE=true->List VV
 | [],_=>[]
 | a::t,h=>⟨a,by simp only [List.all_cons,Bool.and_eq_true] at h;exact h.1⟩::GU t (by simp only [List.all_cons,Bool.and_eq_true] at h;exact h.2)
theorem Ho:∀ (l:List V2) (h:l.all AE=true),(GU l h).map (·.1)=l
 | [],_=>rfl
 | a::t,h=>by simp only [GU,List.map_cons];rw [Ho t]
theorem Mz (x y:VV):ltOf cfV x y=Ac x.1 y.1:=by
 unfold ltOf cfV Ac
 by_cases h:x.1.1=y.1.1
 ·rw [if_pos h]
  simp [h]
  by_cases h2:x.1.2<y.1.2
  ·simp [h2];omega
  ·simp [h2];omega
 ·rw [if_neg h]
  simp [h]
  by_cases h2:x.1.1<y.1.1
  ·simp [h2];omega
  ·simp [h2];omega
theorem AC1:SWO (ltOf cfV) where
 irrefl x:=by rw [Mz];exact Ms _
 trans x y z h1 h2:=by rw [Mz] at *;exact Mt h1 h2
 ntrans x y z h1 h2:=by
  rw [Mz] at *
  have e:=OZ z.1 y.1 x.1 (by unfold leV;rw [h2];rfl) (by unfold leV;rw [h1];rfl)
  unfold leV at e
  simpa using e
theorem AC2 (x y:VV) (h1:ltOf cfV x y=false) (h2:ltOf cfV y x=false):x=y:=by
 rw [Mz] at *
 exact Subtype.ext (Mu h1 h2)
theorem Re (m:List VV):flatK Kv 2 m.toArray=flatK Ag 2 (m.map (·.1)).toArray:=by
 unfold flatK
 simp only [List.size_toArray,List.length_map]
 apply Array.ext
 ·simp
 ·intro i h1 h2
  have hi:i<m.length*2:=by simpa using h1
  have h3:i/2<m.length:=by omega
  simp [Kv,h3]
theorem YX (l:List V2) (h:l.all AE=true):((GU l h).mergeSort λ x y=>!(ltOf cfV) y x).map (·.1)=CD l:=by
 rw [List.map_mergeSort (s:=leV) (f:=λ x:VV=>x.1) (by intro a _ b _;rw [Mz];rfl),Ho];rfl
theorem Oe (x:V2):∀ l:List V2,BH (l++[x])=if l.getLast?=some x then BH l else BH l++[x]
 | []=>by simp [BH]
 | [a]=>by
  by_cases h:a=x
  ·subst h;simp [BH]
  ·simp [BH,h]
 | a::b::t=>by
  have ih:=Oe x (b::t)
  have e:(a::b::t).getLast?=(b::t).getLast?:=by simp [List.getLast?_cons_cons]
  rw [e]
  show BH (a::b::(t++[x]))=_
  by_cases h:a=b
  ·subst h
   have e1:BH (a::a::(t++[x]))=BH (a::(t++[x])):=by conv=>lhs;unfold BH;rw [if_pos rfl]
   have e2:BH (a::a::t)=BH (a::t):=by conv=>lhs;unfold BH;rw [if_pos rfl]
   rw [e1,e2];exact ih
  ·have e1:BH (a::b::(t++[x]))=a::BH (b::(t++[x])):=by conv=>lhs;unfold BH;rw [if_neg h]
   have e2:BH (a::b::t)=a::BH (b::t):=by conv=>lhs;unfold BH;rw [if_neg h]
   rw [e1,e2]
   have ih' : BH (b::(t++[x]))=_:=ih
   rw [ih']
   split <;> rfl
theorem JI (l:List V2):∀ m,m<=l.length->Lib.compactUpTo l.toArray m=BH (l.take m)
 | 0,_=>by simp [Lib.compactUpTo,BH]
 | m+1,h=>by
  have ih:=JI l m (by omega)
  have hx:(l.toArray)[m]! = l[m]:=by simp [show m<l.length by omega]
  have e:l.take (m+1)=l.take m++[l[m]]:=by rw [List.take_add_one];simp [show m<l.length by omega]
  rw [Lib.compactUpTo_succ,ih,e,Oe,hx]
  by_cases h0:m=0
  ·subst h0;simp [Lib.keeps,BH]
  ·have hy:(l.toArray)[m-1]! = l[m-1]:=by simp [show m-1<l.length by omega]
   have hl:(l.take m).getLast?=some l[m-1]:=by
    rw [List.getLast?_eq_getElem?,List.length_take,Nat.min_eq_left (by omega)]
    simp [show m-1<m by omega,show m-1<l.length by omega]
   rw [hl]
   by_cases hq:l[m-1]=l[m]
   ·have:Lib.keeps l.toArray m=false:=Lib.keeps_neg (by omega) (by rw [hx,hy,hq])
    rw [this];simp [hq]
   ·have:Lib.keeps l.toArray m=true:=Lib.keeps_pos (by rw [hx,hy];exact λ e=>hq e.symm)
    rw [this];simp [hq]
end Go.Proofs.YtkffpiaagjcmpaaGreat
namespace Go.Proofs.YtkffpiaagjcmpaaGreat
set_option linter.unusedVariables false
set_option linter.unusedSimpArgs false
open Go.RowKit Go.Sort Go.Shelf Go.Lib
theorem WA {P:Program} (w:World) (t e ty:TypeId) (ht:P.underlying t=some (.slice e)) (hv:∀ w,(zeroValue e).run P w=.ok (.agg #[.int .i64 0,.int .i64 0]) w) (b o n c:Nat) (hn:0<n)
  (hc:∀ j,j<n*2->(w.cell? ⟨b,o+j,none⟩).isSome=true) (hf:∀ j,j<n*2->w.frozen? ⟨b,o+j,none⟩=false) :
  (Builtin.clear_ #[t] ty #[.slice (some ⟨b,o,none⟩) n c]).run P w=.ok (.tuple #[]) (w.setCells b o (Builtin.zeroCells (Value.agg #[.int .i64 0,.int .i64 0]).cells n).toList):=by
 have hl:(Builtin.zeroCells (Value.agg #[.int .i64 0,.int .i64 0]).cells n).toList.length=n*2:=by simp [Builtin.zeroCells,Value.cells]
 have hst:=run_storeCells_cells (P:=P) b o (Builtin.zeroCells (Value.agg #[.int .i64 0,.int .i64 0]).cells n).toList 0 w (by rw [hl];simpa using hc) (by rw [hl];simpa using hf) (by
  intro v hv'
  simp only [Builtin.zeroCells,Array.toList_map,List.mem_map] at hv'
  obtain ⟨i,_,rfl⟩:=hv'
  have hs:(Value.agg #[.int .i64 0,.int .i64 0]).cells=#[.int .i64 0,.int .i64 0]:=rfl
  rw [hs]
  have:i%2=0∨i%2=1:=by omega
  show (#[Value.int .i64 0,Value.int .i64 0][i%2]!).oneCell'=true
  rcases this with e|e <;> rw [e] <;> rfl)
 simp only [Nat.add_zero] at hst
 obtain ⟨m,rfl⟩:∃ m,n=m+1:=⟨n-1,by omega⟩
 simp [Builtin.clear_,run_underlying ht,hv,hst]
def Sh (w w' : World) (g:Nat):Prop:=∀ cur e fr,w.heap[g]?=some (.cells cur e fr)->∃ cur',w'.heap[g]?=some (.cells cur' e fr)/\cur'.size=cur.size
theorem Sh.refl (w:World) (g:Nat):Sh w w g:=λ cur e fr h=>⟨cur,h,rfl⟩
theorem Sh.trans {a b c:World} {g:Nat} (h:Sh a b g) (k:Sh b c g):Sh a c g:=λ cur e fr hx=>by
 obtain ⟨c1,h1,h2⟩:=h cur e fr hx
 obtain ⟨c2,h3,h4⟩:=k c1 e fr h1
 exact ⟨c2,h3,h4.trans h2⟩
theorem Sh.below {w w' : World} {g:Nat} (hb:Below w.heap.size w w') (hg:g<w.heap.size):Sh w w' g:=λ cur e fr h=>⟨cur,by rw [hb.block g hg];exact h,rfl⟩
theorem Sh.setCell (w:World) (g o:Nat) (v:Value):Sh w (w.setCell ⟨g,o,none⟩ v) g:=λ cur e fr h=>by
 rw [setCell_eq]
 refine ⟨cur.setIfInBounds o v,?_,by simp⟩
 simp only [mapBlock,Array.getElem?_modify,if_pos,h];rfl
theorem Sh.setCells (g:Nat):∀ (cs:List Value) (w:World) (o:Nat),Sh w (w.setCells g o cs) g
 | [],w,o=>Sh.refl _ _
 | c::cs,w,o=>(Sh.setCell w g o c).trans (Sh.setCells g cs (w.setCell ⟨g,o,none⟩ c) (o+1))
def RowA (w:World) (g off:Nat) (d:Array V2):Prop:=∀ j,j<d.size->w.cell? ⟨g,off+j*2,none⟩=some (.int .i64 (d[j]!).1)/\w.cell? ⟨g,off+j*2+1,none⟩=some (.int .i64 (d[j]!).2)/\w.frozen? ⟨g,off+j*2,none⟩=false/\w.frozen? ⟨g,off+j*2+1,none⟩=false
theorem G2 (g:Nat):∀ (cs:List Value) (w:World) (o:Nat),OnlyIn (λ b=>b=g) w (w.setCells g o cs)
 | [],w,o=>OnlyIn.refl _ _
 | c::cs,w,o=>by
  have h1:OnlyIn (λ b=>b=g) w (w.setCell ⟨g,o,none⟩ c):=OnlyIn.setCell (OnlyIn.refl _ _) (show (⟨g,o,none⟩:Addr).block=g from rfl) c
  exact h1.trans (G2 g cs (w.setCell ⟨g,o,none⟩ c) (o+1))
theorem RowA.below {w w' : World} {g off:Nat} {d:Array V2} (h:RowA w g off d) (hb:Below w.heap.size w w') (hg:g<w.heap.size):RowA w' g off d:=λ j hj=>by
 have e:=hb.block g hg
 have h:=h j hj
 simp only [World.cell?,World.frozen?,e] at h ⊢
 exact h
theorem GC (g:Nat):∀ (cs:List Value) (w:World) (o a:Nat),a<o->(w.setCells g o cs).cell? ⟨g,a,none⟩=w.cell? ⟨g,a,none⟩
 | [],w,o,a,_=>rfl
 | c::cs,w,o,a,h=>by
  show ((w.setCell ⟨g,o,none⟩ c).setCells g (o+1) cs).cell? ⟨g,a,none⟩=_
  rw [GC g cs _ (o+1) a (by omega)]
  go_simp
theorem RowA.set {w:World} {g off i:Nat} {d:Array V2} (h:RowA w g off d) (hi:i<d.size) (a b:Int):RowA ((w.setCell ⟨g,off+i*2,none⟩ (.int .i64 a)).setCell ⟨g,off+i*2+1,none⟩ (.int .i64 b)) g off (d.setIfInBounds i (a,b)):=λ j hj=>by
 have hj2:j<d.size:=by simpa using hj
 obtain ⟨c0,c1,f0,f1⟩:=h j hj2
 by_cases e:j=i
 ·subst e
  rw [getElem!_set_same d j _ hi]
  exact ⟨by go_simp,by go_simp,by go_simp,by go_simp⟩
 ·rw [getElem!_set_other d i j _ e]
  have n1:¬ off+j*2=off+i*2:=by omega
  have n2:¬ off+j*2=off+i*2+1:=by omega
  have n3:¬ off+j*2+1=off+i*2:=by omega
  have n4:¬ off+j*2+1=off+i*2+1:=by omega
  exact ⟨by go_simp,by go_simp,by go_simp,by go_simp⟩
theorem Rf {d:Array V2} (h:∀ j,j<d.size->keeps d j=true):(compactUpTo d d.size).length=d.size/\∀ j,j<d.size->(compactUpTo d d.size)[j]?=some d[j]! := by
 have e:compactUpTo d d.size=d.toList:=by rw [compactUpTo_all d _ h,range_map_get]
 rw [e]
 refine ⟨by simp,λ j hj=>?_⟩
 simp [hj]
set_option maxHeartbeats 4000000 in
theorem Ta (g off cap : Nat) (d : Array V2) (w : World) (hH : RowA w g off d) (hg : g < w.heap.size) (hsz : d.size ≤ 1048576) (hcap : d.size ≤ cap) (hcm : cap ≤ 9223372036854775807) :
    Calls Tryz.prog 178 #[.slice (some ⟨g, off, none⟩) d.size cap] w fun e w' => e = .returned (.slice (some ⟨g, off, none⟩) (compactUpTo d d.size).length cap) ∧
      OnlyIn (fun b => b = g) w w' ∧ Sh w w' g ∧ ∃ d' : Array V2, d'.size = d.size ∧ (∀ j, j < (compactUpTo d d.size).length → (compactUpTo d d.size)[j]? = some d'[j]!) ∧ ∀ j, j < (compactUpTo d d.size).length → w'.cell? ⟨g, off + j * 2, none⟩ = some (.int .i64 (d'[j]!).1) ∧ w'.cell? ⟨g, off + j * 2 + 1, none⟩ = some (.int .i64 (d'[j]!).2) := by
  have HH := Lib.hid hH
  clear hH
  by_cases h2 : d.size < 2
  · have HK := Lib.hid (Rf (fun j hj => keeps_lt_one d j (show j < 1 by omega)))
    go_enter Tryz.func178, Tryz.ntmps178
    go_wp2
    go_ret
    have hk := HK.out
    refine ⟨by rw [hk.1]; rfl, OnlyIn.refl _ _, Sh.refl _ _, d, rfl, fun j hj => hk.2 j (by rw [hk.1] at hj; exact hj), fun j hj => ?_⟩
    rw [hk.1] at hj
    obtain ⟨q0, q1, -, -⟩ := HH.out j hj
    exact ⟨q0, q1⟩
  · go_enter Tryz.func178, Tryz.ntmps178
    go_wp2
    go_loopw [3] (fun s3 wr => ∃ k : Nat, 1 ≤ k ∧ k ≤ d.size ∧ s3 = .int .i64 k ∧ Below w.heap.size w wr ∧ ∀ j, j < k → keeps d j = true) (fun i _ => d.size - (intOf i).toNat)
    case atStart => exact ⟨1, Nat.le_refl _, by omega, rfl, Below.refl _ _, keeps_lt_one d⟩
    case round =>
      obtain ⟨k, hk1, hk, rfl, hb, hall⟩ := hrel
      by_cases hlt : k < d.size
      · have HA := Lib.hid hall; clear hall
        obtain ⟨a0, a1, -, -⟩ := HH.out k hlt
        obtain ⟨p0, p1, -, -⟩ := HH.out (k - 1) (by omega)
        have c0 := (hb.cell (p := ⟨g, off + k * 2, none⟩) hg).trans a0
        have c1 := (hb.cell (p := ⟨g, off + k * 2 + 1, none⟩) hg).trans a1
        have r0 := (hb.cell (p := ⟨g, off + (k - 1) * 2, none⟩) hg).trans p0
        have r1 := (hb.cell (p := ⟨g, off + (k - 1) * 2 + 1, none⟩) hg).trans p1
        clear a0 a1 p0 p1
        obtain ⟨x, hx⟩ : ∃ x, d[k]! = x := ⟨_, rfl⟩
        obtain ⟨y, hy⟩ : ∃ y, d[k - 1]! = y := ⟨_, rfl⟩
        obtain ⟨x1, x2⟩ := x
        obtain ⟨y1, y2⟩ := y
        rw [hx] at c0 c1
        rw [hy] at r0 r1
        simp only at c0 c1 r0 r1
        have HX := Lib.hid (And.intro hx hy); clear hx hy
        have HB := Lib.hid hb
        have hws := hb.size
        clear hb
        have hkm : IntKind.i64.wrap (((k : Nat) : Int) - 1) = ((k - 1 : Nat) : Int) := by rw [AC (by omega) (by omega)]; omega
        have mixed : Tryz.prog.follows Departure.mixedOrders = true := by kernel_rfl
        by_cases hd1 : x1 = y1
        · by_cases hd2 : x2 = y2
          · subst hd1 hd2
            go_wp2_with fail
            go_region_o
            go_wp2
            go_loopw [3, 5] (fun s3 s5 wr' => ∃ (kk k2 : Nat) (dk : Array V2), s3 = .int .i64 kk ∧ s5 = .int .i64 k2 ∧ 1 ≤ k2 ∧ k + k2 ≤ d.size ∧ OnlyIn (fun b => b = g) w wr' ∧ Sh w wr' g ∧ RowA wr' g off dk ∧ CompInv d (k + k2) kk dk) (fun _ i _ => d.size - k - (intOf i).toNat)
            case atStart => exact ⟨k, 1, d, rfl, rfl, Nat.le_refl _, by omega, OnlyIn.of_below (Below.drew HB.out), Sh.below (Below.drew HB.out) hg, HH.out.below (Below.drew HB.out) hg, CompInv.start HA.out (keeps_neg (by omega) (by rw [HX.out.1, HX.out.2]))⟩
            case round =>
              obtain ⟨kk, k2, dk, rfl, rfl, h1, hle, ho, hsh, hR, hI⟩ := hrel
              have hkk := hI.lt
              have hds := hI.size
              have hsz2 := ho.size
              have HO := Lib.hid ho; clear ho
              have HS := Lib.hid hsh; clear hsh
              have HI := Lib.hid hI; clear hI
              have HR := Lib.hid hR; clear hR
              clear c0 c1 r0 r1 hkm
              by_cases hlt2 : k + k2 < d.size
              · obtain ⟨m0, m1, -, -⟩ := HR.out (k + k2) (by omega)
                obtain ⟨p0, p1, -, -⟩ := HR.out (k + k2 - 1) (by omega)
                obtain ⟨s0, s1, sf0, sf1⟩ := HR.out kk (by omega)
                have e1 : off + (k + k2) * 2 = off + k * 2 + k2 * 2 := by omega
                have e2 : off + (k + k2 - 1) * 2 = off + k * 2 + (k2 - 1) * 2 := by omega
                rw [HI.out.high (k + k2) (by omega), e1] at m0 m1
                rw [HI.out.high (k + k2 - 1) (by omega), e2] at p0 p1
                obtain ⟨u, hu⟩ : ∃ u, d[k + k2]! = u := ⟨_, rfl⟩
                obtain ⟨v, hv⟩ : ∃ v, d[k + k2 - 1]! = v := ⟨_, rfl⟩
                obtain ⟨u1, u2⟩ := u
                obtain ⟨v1, v2⟩ := v
                rw [hu] at m0 m1
                rw [hv] at p0 p1
                simp only at m0 m1 p0 p1
                have HU := Lib.hid (And.intro hu hv)
                clear hu hv e1 e2
                have hk2m : IntKind.i64.wrap (((k2 : Nat) : Int) - 1) = ((k2 - 1 : Nat) : Int) := by rw [AC (by omega) (by omega)]; omega
                by_cases hu1 : u1 = v1
                · subst hu1
                  by_cases hu2 : u2 = v2
                  · subst hu2
                    clear s0 s1 sf0 sf1
                    go_wp2_with fail
                    go_region_o
                    go_wp2
                    go_roundw
                    case rel => exact ⟨kk, k2 + 1, dk, rfl, by go_num, by omega, by omega, HO.out.trans (OnlyIn.of_below (Below.drew (Below.refl _ _))), HS.out.trans (Sh.below (Below.drew (Below.refl _ _)) (by omega)), HR.out.below (Below.drew (Below.refl _ _)) (by omega), HI.out.skip (keeps_neg (by omega) (by rw [HU.out.1, HU.out.2]))⟩
                    case measure => simp [intOf]; omega
                  · go_wp2_with fail
                    go_region_o
                    go_wp2
                    go_roundw
                    case rel =>
                      have hki := HI.out.keep hlt2 (keeps_pos (by rw [HU.out.1, HU.out.2]; simp [hu2]))
                      rw [HU.out.1] at hki
                      exact ⟨kk + 1, k2 + 1, _, by go_num, by go_num, by omega, by omega, OnlyIn.setCell (OnlyIn.setCell (HO.out.trans (OnlyIn.of_below (Below.drew (Below.refl _ _)))) rfl _) rfl _, ((HS.out.trans (Sh.below (Below.drew (Below.refl _ _)) (by omega))).trans (Sh.setCell _ _ _ _)).trans (Sh.setCell _ _ _ _), (HR.out.below (Below.drew (Below.refl _ _)) (by omega)).set (by omega) _ _, hki⟩
                    case measure => simp [intOf]; omega
                · go_wp2_with fail
                  go_region_o
                  go_wp2
                  go_roundw
                  case rel =>
                    have hki := HI.out.keep hlt2 (keeps_pos (by rw [HU.out.1, HU.out.2]; simp [hu1]))
                    rw [HU.out.1] at hki
                    exact ⟨kk + 1, k2 + 1, _, by go_num, by go_num, by omega, by omega, OnlyIn.setCell (OnlyIn.setCell (HO.out.trans (OnlyIn.of_below (Below.drew (Below.refl _ _)))) rfl _) rfl _, ((HS.out.trans (Sh.below (Below.drew (Below.refl _ _)) (by omega))).trans (Sh.setCell _ _ _ _)).trans (Sh.setCell _ _ _ _), (HR.out.below (Below.drew (Below.refl _ _)) (by omega)).set (by omega) _ _, hki⟩
                  case measure => simp [intOf]; omega
              · have hend : k + k2 = d.size := by omega
                have hcl : ∀ ty, (Builtin.clear_ #[25] ty #[.slice (some ⟨g, off + kk * 2, none⟩) (d.size - kk) (cap - kk)]).run Tryz.prog wr = .ok (.tuple #[]) (wr.setCells g (off + kk * 2) (Builtin.zeroCells (Value.agg #[.int .i64 0, .int .i64 0]).cells (d.size - kk)).toList) := fun ty =>
                  WA wr _ _ ty Tryz.underlying25 Tryz.zeroValue24 g (off + kk * 2) (d.size - kk) (cap - kk) (by omega) (fun j hj => by
                    obtain ⟨q0, q1, -, -⟩ := HR.out (kk + j / 2) (by omega)
                    have : j % 2 = 0 ∨ j % 2 = 1 := by omega
                    rcases this with e | e
                    · rw [show off + kk * 2 + j = off + (kk + j / 2) * 2 by omega, q0]; rfl
                    · rw [show off + kk * 2 + j = off + (kk + j / 2) * 2 + 1 by omega, q1]; rfl) (fun j hj => by
                    obtain ⟨-, -, q0, q1⟩ := HR.out (kk + j / 2) (by omega)
                    have : j % 2 = 0 ∨ j % 2 = 1 := by omega
                    rcases this with e | e
                    · rw [show off + kk * 2 + j = off + (kk + j / 2) * 2 by omega, q0]
                    · rw [show off + kk * 2 + j = off + (kk + j / 2) * 2 + 1 by omega, q1])
                obtain ⟨zs, hzs⟩ : ∃ zs, (Builtin.zeroCells (Value.agg #[.int .i64 0, .int .i64 0]).cells (d.size - kk)).toList = zs := ⟨_, rfl⟩
                rw [hzs] at hcl
                clear hzs
                go_wp2
                go_ret
                have hI := HI.out
                rw [hend] at hI
                refine ⟨by rw [hI.len]; rfl, HO.out.trans (G2 g zs _ _), HS.out.trans (Sh.setCells g zs _ _), dk, hds, fun j hj => hI.low j (by rw [hI.len] at hj; exact hj), fun j hj => ?_⟩
                rw [hI.len] at hj
                obtain ⟨q0, q1, -, -⟩ := HR.out j (by omega)
                exact ⟨by rw [GC g zs _ _ _ (by omega)]; exact q0, by rw [GC g zs _ _ _ (by omega)]; exact q1⟩
          · go_wp2_with fail
            go_region_o
            go_wp2
            go_roundw
            case rel =>
              refine ⟨k + 1, by omega, by omega, by go_num, Below.drew HB.out, fun j hj => ?_⟩
              by_cases e : j = k
              · subst e
                exact keeps_pos (by rw [HX.out.1, HX.out.2]; simp [hd2])
              · exact HA.out j (by omega)
            case measure => simp [intOf]; omega
        · go_wp2_with fail
          go_region_o
          go_wp2
          go_roundw
          case rel =>
            refine ⟨k + 1, by omega, by omega, by go_num, Below.drew HB.out, fun j hj => ?_⟩
            by_cases e : j = k
            · subst e
              exact keeps_pos (by rw [HX.out.1, HX.out.2]; simp [hd1])
            · exact HA.out j (by omega)
          case measure => simp [intOf]; omega
      · have hke : k = d.size := by omega
        subst hke
        have HB := Lib.hid hb; clear hb
        have HA := Lib.hid hall; clear hall
        go_wp2
        go_ret
        have hk := Rf HA.out
        refine ⟨by rw [hk.1]; rfl, OnlyIn.of_below HB.out, Sh.below HB.out hg, d, rfl, fun j hj => hk.2 j (by rw [hk.1] at hj; exact hj), fun j hj => ?_⟩
        rw [hk.1] at hj
        obtain ⟨q0, q1, -, -⟩ := HH.out.below HB.out hg j hj
        exact ⟨q0, q1⟩
theorem Pe (w:World):Calls Tryz.prog 178 #[.slice none 0 0] w λ e w'=>e=.returned (.slice none 0 0)/\w'=w:=by
 go_enter Tryz.func178,Tryz.ntmps178
 go_wp2
 go_ret
 exact ⟨rfl,rfl⟩
set_option maxHeartbeats 1000000 in
theorem NX (x y : V2) (hx : AE x = true) (hy : AE y = true) (W : World) : Calls Tryz.prog 177 #[.agg #[.int .i64 x.1, .int .i64 x.2], .agg #[.int .i64 y.1, .int .i64 y.2]] W fun e w' =>
    e = .returned (.int .i64 (if x.1 = y.1 then x.2 - y.2 else x.1 - y.1)) ∧ ∃ q os', w' = grow (W.drewN q) os' := by
  have bx := Bs hx
  have by_ := Bs hy
  clear hx hy
  obtain ⟨a, b⟩ := x
  obtain ⟨c, d⟩ := y
  simp only at bx by_
  have e1 : IntKind.i64.wrap (a - c) = a - c := AC (by omega) (by omega)
  have e2 : IntKind.i64.wrap (b - d) = b - d := AC (by omega) (by omega)
  by_cases h : a = c
  · subst h
    go_enter Tryz.func177, Tryz.ntmps177
    go_wp2
    go_ret
    refine ⟨?_, 0, _, by rw [alloc_eq_grow, alloc_eq_grow, grow_grow]; rfl⟩
    simp [e2]
  · go_enter Tryz.func177, Tryz.ntmps177
    go_wp2
    go_ret
    refine ⟨?_, 0, _, by rw [alloc_eq_grow, alloc_eq_grow, grow_grow]; rfl⟩
    simp [e1, h]
end Go.Proofs.YtkffpiaagjcmpaaGreat
namespace Go.Proofs.YtkffpiaagjcmpaaGreat
set_option linter.unusedVariables false
open Go.Shelf
def YY:Go.Shelf.Ren:=⟨fun|6=>176|15=>155|14=>203|28=>191|29=>192|20=>214|21=>215|22=>216|23=>217|24=>218|25=>219|26=>220|27=>221|46=>223|47=>206|48=>207|49=>224|50=>225|57=>226|n=>n,fun|22=>25|24=>24|25=>160|3=>3|39=>100|0=>0|53=>172|55=>174|4=>4|46=>165|45=>164|50=>169|5=>5|9=>9|66=>180|70=>184|76=>191|77=>192|n=>n,fun|n=>n⟩
theorem ACO:Go.Proofs.SlLaysF0.n6 Tryz.prog YY:={
 mixed:=by kernel_rfl,
 f6:=⟨ "slices.SortFunc[[]loop.example/g00811/impl.Vec,loop.example/g00811/impl.Vec]",by decide,Tryz.func176.trans (congrArg some (by kernel_rfl))⟩,
 f14:=⟨ "slices.pdqsortCmpFunc[loop.example/g00811/impl.Vec]",by decide,Tryz.func203.trans (congrArg some (by kernel_rfl))⟩,
 f15:=Tryz.func155.trans (congrArg some (by kernel_rfl)),
 f20:=⟨ "slices.insertionSortCmpFunc[loop.example/g00811/impl.Vec]",by decide,Tryz.func214.trans (congrArg some (by kernel_rfl))⟩,
 f21:=⟨ "slices.heapSortCmpFunc[loop.example/g00811/impl.Vec]",by decide,Tryz.func215.trans (congrArg some (by kernel_rfl))⟩,
 f22:=⟨ "slices.breakPatternsCmpFunc[loop.example/g00811/impl.Vec]",by decide,Tryz.func216.trans (congrArg some (by kernel_rfl))⟩,
 f23:=⟨ "slices.choosePivotCmpFunc[loop.example/g00811/impl.Vec]",by decide,Tryz.func217.trans (congrArg some (by kernel_rfl))⟩,
 f24:=⟨ "slices.reverseRangeCmpFunc[loop.example/g00811/impl.Vec]",by decide,Tryz.func218.trans (congrArg some (by kernel_rfl))⟩,
 f25:=⟨ "slices.partialInsertionSortCmpFunc[loop.example/g00811/impl.Vec]",by decide,Tryz.func219.trans (congrArg some (by kernel_rfl))⟩,
 f26:=⟨ "slices.partitionEqualCmpFunc[loop.example/g00811/impl.Vec]",by decide,Tryz.func220.trans (congrArg some (by kernel_rfl))⟩,
 f27:=⟨ "slices.partitionCmpFunc[loop.example/g00811/impl.Vec]",by decide,Tryz.func221.trans (congrArg some (by kernel_rfl))⟩,
 f28:=Tryz.func191.trans (congrArg some (by kernel_rfl)),
 f29:=Tryz.func192.trans (congrArg some (by kernel_rfl)),
 f46:=⟨ "slices.siftDownCmpFunc[loop.example/g00811/impl.Vec]",by decide,Tryz.func223.trans (congrArg some (by kernel_rfl))⟩,
 f47:=Tryz.func206.trans (congrArg some (by kernel_rfl)),
 f48:=Tryz.func207.trans (congrArg some (by kernel_rfl)),
 f49:=⟨ "slices.medianAdjacentCmpFunc[loop.example/g00811/impl.Vec]",by decide,Tryz.func224.trans (congrArg some (by kernel_rfl))⟩,
 f50:=⟨ "slices.medianCmpFunc[loop.example/g00811/impl.Vec]",by decide,Tryz.func225.trans (congrArg some (by kernel_rfl))⟩,
 f57:=⟨ "slices.order2CmpFunc[loop.example/g00811/impl.Vec]",by decide,Tryz.func226.trans (congrArg some (by kernel_rfl))⟩,
 t0:=Tryz.underlying0,
 a0:=Tryz.isAgg0,
 z0:=Tryz.sizeOf0,
 v0:=Tryz.zeroValue0,
 t3:=Tryz.underlying3,
 a3:=Tryz.isAgg3,
 z3:=Tryz.sizeOf3,
 v3:=Tryz.zeroValue3,
 t4:=Tryz.underlying4,
 a4:=Tryz.isAgg4,
 z4:=Tryz.sizeOf4,
 v4:=Tryz.zeroValue4,
 t5:=Tryz.underlying5,
 a5:=Tryz.isAgg5,
 z5:=Tryz.sizeOf5,
 v5:=Tryz.zeroValue5,
 t9:=Tryz.underlying9,
 a9:=Tryz.isAgg9,
 z9:=Tryz.sizeOf9,
 v9:=Tryz.zeroValue9,
 t22:=Tryz.underlying25,
 a22:=Tryz.isAgg25,
 z22:=Tryz.sizeOf25,
 v22:=Tryz.zeroValue25,
 t25:=Tryz.underlying160,
 a25:=Tryz.isAgg160,
 z25:=Tryz.sizeOf160,
 v25:=Tryz.zeroValue160,
 t39:=Tryz.underlying100,
 a39:=Tryz.isAgg100,
 z39:=Tryz.sizeOf100,
 v39:=Tryz.zeroValue100,
 t45:=Tryz.underlying164,
 a45:=Tryz.isAgg164,
 z45:=Tryz.sizeOf164,
 v45:=Tryz.zeroValue164,
 t46:=Tryz.underlying165,
 a46:=Tryz.isAgg165,
 z46:=Tryz.sizeOf165,
 v46:=Tryz.zeroValue165,
 t50:=Tryz.underlying169,
 a50:=Tryz.isAgg169,
 z50:=Tryz.sizeOf169,
 v50:=Tryz.zeroValue169,
 t53:=Tryz.underlying172,
 a53:=Tryz.isAgg172,
 z53:=Tryz.sizeOf172,
 v53:=Tryz.zeroValue172,
 t55:=Tryz.underlying174,
 a55:=Tryz.isAgg174,
 z55:=Tryz.sizeOf174,
 v55:=Tryz.zeroValue174,
 t66:=Tryz.underlying180,
 a66:=Tryz.isAgg180,
 z66:=Tryz.sizeOf180,
 v66:=Tryz.zeroValue180,
 t70:=Tryz.underlying184,
 a70:=Tryz.isAgg184,
 z70:=Tryz.sizeOf184,
 v70:=Tryz.zeroValue184,
 t76:=Tryz.underlying191,
 a76:=Tryz.isAgg191,
 z76:=Tryz.sizeOf191,
 v76:=Tryz.zeroValue191,
 t77:=Tryz.underlying192,
 a77:=Tryz.isAgg192,
 z77:=Tryz.sizeOf192,
 v77:=Tryz.zeroValue192 }
def YZ:Go.Shelf.Ren:=⟨fun|35=>180|n=>n,fun|22=>25|23=>24|3=>3|4=>4|0=>0|n=>n,fun|n=>n⟩
theorem ACP:Go.Proofs.SlLaysE0.n35 Tryz.prog YZ:={
 mixed:=by kernel_rfl,
 f35:=⟨ "slices.Reverse[[]loop.example/g00811/impl.Vec,loop.example/g00811/impl.Vec]",by decide,Tryz.func180.trans (congrArg some (by kernel_rfl))⟩,
 t0:=Tryz.underlying0,
 a0:=Tryz.isAgg0,
 z0:=Tryz.sizeOf0,
 v0:=Tryz.zeroValue0,
 t3:=Tryz.underlying3,
 a3:=Tryz.isAgg3,
 z3:=Tryz.sizeOf3,
 v3:=Tryz.zeroValue3,
 t4:=Tryz.underlying4,
 a4:=Tryz.isAgg4,
 z4:=Tryz.sizeOf4,
 v4:=Tryz.zeroValue4,
 t22:=Tryz.underlying25,
 a22:=Tryz.isAgg25,
 z22:=Tryz.sizeOf25,
 v22:=Tryz.zeroValue25 }
end Go.Proofs.YtkffpiaagjcmpaaGreat
