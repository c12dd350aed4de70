import Derived.Test.YtndnhlhnjiopfaaGreatToHul
import Derived.Test.YtndnhlhnjiopfaaGreatToScW
import Derived.Shelf.SlSortCmp.NoneTotal
import Derived.Shelf.SlicesQ.Reverse
import Derived.Lib.SlicesCompact
namespace Go.Proofs.YtndnhlhnjiopfaaGreat
set_option linter.unusedVariables false
set_option linter.unusedSimpArgs false
open Go.RowKit Go.Sort Go.Shelf
theorem FT:∀ (l:List V2) (j:Nat),j<l.length*2->(l.map AT).flatten[j]?=some ((AT (l.getD (j/2) (0,0)))[j%2]!)
 | [],j,h=>by simp at h
 | a::l,0,_=>by simp [AT]
 | a::l,1,_=>by simp [AT]
 | a::l,j+2,h=>by
  have ih:=FT l j (by simp only [List.length_cons] at h;omega)
  have e:(j+2)/2=j/2+1:=by omega
  have e2:(j+2)%2=j%2:=by omega
  rw [e,e2,List.getD_cons_succ,← ih]
  simp [AT]
theorem KW (l:List V2):(l.map AT).flatten.length=l.length*2:=by
 induction l with
 | nil=>rfl
 | cons a l ih=>simp only [List.map_cons,List.flatten_cons,List.length_append,ih,List.length_cons];simp [AT];omega
theorem Ml {w:World} {e:Nat} {l:List V2} {v:Value} {bs:List Nat} (h:Fp w (.sl e [.int,.int]) (.sl (AA l)) v bs) :
  (v=.slice none 0 0/\l=[]/\bs=[])∨∃ g cap cur,v=.slice (some ⟨g,0,none⟩) l.length cap/\w.heap[g]?=some (.cells cur e (0,0))/\l.length<=cap/\cap<=maxLen/\cur.size=cap*2/\cur.toList.take (l.length*2)=(l.map AT).flatten/\bs=[g]:=by
 simp only [Fp] at h
 obtain ⟨rows,bss,⟨h0,h1⟩,h2,h3,h4,h5,rfl⟩:=h
 rw [AD] at h2 h3 h5
 have hr:rows=l.map AT/\bss.flatten=[]:=by
  have key:∀ k,k<l.length->rows.getD k []=AT (l.getD k (0,0))/\bss.getD k []=[]:=by
   intro k hk
   have:=h5 k hk
   rw [G9 hk] at this
   unfold GG at this
   generalize rows.getD k []=r at *
   generalize bss.getD k []=z at *
   match r,this with
   | [],t=>exact absurd t (by simp [FpRow])
   | [_],t=>exact absurd t (by simp [FpRow])
   | [x,y],t=>
    simp only [FpRow,Fp] at t
    obtain ⟨b1,b2,rfl,⟨rfl,rfl⟩,b3,b4,rfl,⟨rfl,rfl⟩,rfl⟩:=t
    exact ⟨rfl,rfl⟩
   | _::_::_::_,t=>exact absurd t (by simp [FpRow])
  constructor
  ·apply List.ext_getElem
   ·rw [h2,List.length_map]
   ·intro k hk hk2
    have:=(key k (by omega)).1
    simp only [List.getD,hk,List.getElem?_eq_getElem,Option.getD_some] at this
    rw [this]
    simp [List.getElem_map,List.getD,show k<l.length by omega]
  ·rw [List.flatten_eq_nil_iff]
   intro x hx
   obtain ⟨k,hk,rfl⟩:=List.getElem_of_mem hx
   have:=(key k (by omega)).2
   simpa [List.getD,hk] using this
 obtain ⟨rfl,hb⟩:=hr
 rw [List.length_map] at h1
 rcases h1 with ⟨rfl,hn⟩|⟨g,cap,cur,rfl,_,q1,q2,q3,q4,q5⟩
 ·exact .inl ⟨rfl,List.eq_nil_of_length_eq_zero hn,by rw [hb];rfl⟩
 ·exact .inr ⟨g,cap,cur,rfl,q1,q2,q3,q4,q5,by rw [hb];rfl⟩
theorem Ue {w:World} {e:Nat} {l:List V2} {g cap:Nat} {cur:Array Value} (h1:w.heap[g]?=some (.cells cur e (0,0))) (h2:l.length<=cap) (h3:cap<=maxLen) (h4:cur.size=cap*2) (h5:cur.toList.take (l.length*2)=(l.map AT).flatten) :
  Fp w (.sl e [.int,.int]) (.sl (AA l)) (.slice (some ⟨g,0,none⟩) l.length cap) [g]:=by
 simp only [Fp]
 refine ⟨l.map AT,l.map λ _=>[],⟨?_,.inr ⟨g,cap,cur,by rw [List.length_map],Nat.zero_le _,h1,by rw [List.length_map];exact h2,h3,h4,by rw [List.length_map];exact h5⟩⟩,by simp [AA],by simp [AA],?_,?_,?_⟩
 ·rw [KW,List.length_map];rfl
 ·intro r hr
  simp only [List.mem_map] at hr
  obtain ⟨x,_,rfl⟩:=hr
  rfl
 ·intro k hk
  rw [AD] at hk
  rw [G9 hk]
  simp [List.getD,hk,GG,AT,FpRow,Fp]
 ·simp [Value.ownBlock]
theorem EP {w:World} {g e:Nat} {cur:Array Value} {fr:Nat×Nat} (h:w.heap[g]?=some (.cells cur e fr)) (j:Nat):w.cell? ⟨g,j,none⟩=cur[j]?:=by
 simp [World.cell?,h]
theorem OU {w:World} {e:Nat} {l:List V2} {g cap:Nat} {cur:Array Value} (h1:w.heap[g]?=some (.cells cur e (0,0))) (h2:l.length<=cap) (h4:cur.size=cap*2) (h5:cur.toList.take (l.length*2)=(l.map AT).flatten):HoldsK AT 2 w g 0 l.toArray:=by
 intro j hj
 have hj2:j<l.length*2:=by simpa using hj
 refine ⟨?_,?_⟩
 ·rw [EP h1,Nat.zero_add,get_flatK _ _ _ _ (by simpa using hj2)]
  have:=FT l j hj2
  rw [← h5,List.getElem?_take,if_pos hj2] at this
  rw [Array.getElem?_toList] at this
  rw [this]
  congr 2
  simp [List.getD,show j/2<l.length by omega]
 ·simp [World.frozen?,h1]
theorem Uf {w:World} {e:Nat} {l:List V2} {g cap:Nat} {cur:Array Value} {fr:Nat×Nat} (h1:w.heap[g]?=some (.cells cur e fr)) (h2:l.length<=cap) (h4:cur.size=cap*2) (hH:HoldsK AT 2 w g 0 l.toArray):cur.toList.take (l.length*2)=(l.map AT).flatten:=by
 apply List.ext_getElem?
 intro j
 by_cases hj:j<l.length*2
 ·rw [FT l j hj,List.getElem?_take,if_pos hj,Array.getElem?_toList]
  have:=(hH j (by simpa using hj)).1
  rw [EP h1,Nat.zero_add,get_flatK _ _ _ _ (by simpa using hj)] at this
  rw [this]
  congr 2
  simp [List.getD,show j/2<l.length by omega]
 ·rw [List.getElem?_eq_none (by simp only [List.length_take];omega),List.getElem?_eq_none (by rw [KW];omega)]
theorem L1 {α:Type} [Inhabited α] (enc:α->List Value) (w:World) (g n:Nat) (D:Array α) (os:Array Obj) {cur:Array Value} {e:Nat} {fr:Nat×Nat} (h1:w.heap[g]?=some (.cells cur e fr)) :
  (∃ cur',(grow (putRowK enc 2 (Sort.ahead w n) g 0 D) os).heap[g]?=some (.cells cur' e fr)/\cur'.size=cur.size)/\(∀ b,b<w.heap.size->b≠g->(grow (putRowK enc 2 (Sort.ahead w n) g 0 D) os).heap[b]?=w.heap[b]?)/\w.heap.size<=(grow (putRowK enc 2 (Sort.ahead w n) g 0 D) os).heap.size:=by
 have hs:(putRowK enc 2 (Sort.ahead w n) g 0 D).heap.size=w.heap.size:=by simp [putRowK,putRow,mapBlock,Sort.ahead]
 have hg:g<w.heap.size:=(Array.getElem?_eq_some_iff.1 h1).1
 have hold:∀ b,b<w.heap.size->(grow (putRowK enc 2 (Sort.ahead w n) g 0 D) os).heap[b]?=(w.heap.modify g (onCells (putCells id 0 (flatK enc 2 D))))[b]?:=by
  intro b hb
  rw [Sort.heap_grow_old _ _ (by rw [hs];exact hb)]
  rfl
 refine ⟨⟨putCells id 0 (flatK enc 2 D) cur,?_,?_⟩,?_,?_⟩
 ·rw [hold g hg,Array.getElem?_modify,if_pos rfl,h1];rfl
 ·simp [putCells]
 ·intro b hb hne
  rw [hold b hb,Array.getElem?_modify,if_neg (λ e=>hne e.symm)]
 ·rw [Sort.size_grow,hs];omega
abbrev VV:Type:={ v:V2 // AB v=true }
instance:Inhabited VV:=⟨⟨(0,0),by decide⟩⟩
def Is (x:VV):List Value:=AT x.1
def cfV (x y:VV):Int:=if x.1.1=y.1.1 then x.1.2-y.1.2 else x.1.1-y.1.1
def E3:(l:List V2)->l.all AB=true->List VV
 | [],_=>[]
 | a::t,h=>⟨a,by simp only [List.all_cons,Bool.and_eq_true] at h;exact h.1⟩::E3 t (by simp only [List.all_cons,Bool.and_eq_true] at h;exact h.2)
theorem F1:∀ (l:List V2) (h:l.all AB=true),(E3 l h).map (·.1)=l
 | [],_=>rfl
 | a::t,h=>by simp only [E3,List.map_cons];rw [F1 t]
theorem KX (x y:VV):ltOf cfV x y=AO x.1 y.1:=by
 unfold ltOf cfV AO
 by_cases h:x.1.1=y.1.1
 ·rw [if_pos h]
  simp [h]
  by_cases h2:x.1.2<y.1.2
  ·simp [h2];omega
  ·simp [h2];omega
 ·rw [if_neg h]
  simp [h]
  by_cases h2:x.1.1<y.1.1
  ·simp [h2];omega
  ·simp [h2];omega
theorem X6:SWO (ltOf cfV) where
 irrefl x:=by rw [KX];exact JR _
 trans x y z h1 h2:=by rw [KX] at *;exact JS h1 h2
 ntrans x y z h1 h2:=by
  rw [KX] at *
  have e:=K5 z.1 y.1 x.1 (by unfold leV;rw [h2];rfl) (by unfold leV;rw [h1];rfl)
  unfold leV at e
  simpa using e
theorem X7 (x y:VV) (h1:ltOf cfV x y=false) (h2:ltOf cfV y x=false):x=y:=by
 rw [KX] at *
 exact Subtype.ext (JT h1 h2)
theorem OV (m:List VV):flatK Is 2 m.toArray=flatK AT 2 (m.map (·.1)).toArray:=by
 unfold flatK
 simp only [List.size_toArray,List.length_map]
 apply Array.ext
 ·simp
 ·intro i h1 h2
  have hi:i<m.length*2:=by simpa using h1
  have h3:i/2<m.length:=by omega
  simp [Is,h3]
theorem Ug (l:List V2) (h:l.all AB=true):((E3 l h).mergeSort λ x y=>!(ltOf cfV) y x).map (·.1)=BW l:=by
 rw [List.map_mergeSort (s:=leV) (f:=λ x:VV=>x.1) (by intro a _ b _;rw [KX];rfl),F1];rfl
theorem L2 (x:V2):∀ l:List V2,Aj (l++[x])=if l.getLast?=some x then Aj l else Aj l++[x]
 | []=>by simp [Aj]
 | [a]=>by
  by_cases h:a=x
  ·subst h;simp [Aj]
  ·simp [Aj,h]
 | a::b::t=>by
  have ih:=L2 x (b::t)
  have e:(a::b::t).getLast?=(b::t).getLast?:=by simp [List.getLast?_cons_cons]
  rw [e]
  show Aj (a::b::(t++[x]))=_
  by_cases h:a=b
  ·subst h
   have e1:Aj (a::a::(t++[x]))=Aj (a::(t++[x])):=by conv=>lhs;unfold Aj;rw [if_pos rfl]
   have e2:Aj (a::a::t)=Aj (a::t):=by conv=>lhs;unfold Aj;rw [if_pos rfl]
   rw [e1,e2];exact ih
  ·have e1:Aj (a::b::(t++[x]))=a::Aj (b::(t++[x])):=by conv=>lhs;unfold Aj;rw [if_neg h]
   have e2:Aj (a::b::t)=a::Aj (b::t):=by conv=>lhs;unfold Aj;rw [if_neg h]
   rw [e1,e2]
   have ih' : Aj (b::(t++[x]))=_:=ih
   rw [ih']
   split <;> rfl
theorem HG (l:List V2):∀ m,m<=l.length->Lib.compactUpTo l.toArray m=Aj (l.take m)
 | 0,_=>by simp [Lib.compactUpTo,Aj]
 | m+1,h=>by
  have ih:=HG l m (by omega)
  have hx:(l.toArray)[m]! = l[m]:=by simp [show m<l.length by omega]
  have e:l.take (m+1)=l.take m++[l[m]]:=by rw [List.take_add_one];simp [show m<l.length by omega]
  rw [Lib.compactUpTo_succ,ih,e,L2,hx]
  by_cases h0:m=0
  ·subst h0;simp [Lib.keeps,Aj]
  ·have hy:(l.toArray)[m-1]! = l[m-1]:=by simp [show m-1<l.length by omega]
   have hl:(l.take m).getLast?=some l[m-1]:=by
    rw [List.getLast?_eq_getElem?,List.length_take,Nat.min_eq_left (by omega)]
    simp [show m-1<m by omega,show m-1<l.length by omega]
   rw [hl]
   by_cases hq:l[m-1]=l[m]
   ·have:Lib.keeps l.toArray m=false:=Lib.keeps_neg (by omega) (by rw [hx,hy,hq])
    rw [this];simp [hq]
   ·have:Lib.keeps l.toArray m=true:=Lib.keeps_pos (by rw [hx,hy];exact λ e=>hq e.symm)
    rw [this];simp [hq]
end Go.Proofs.YtndnhlhnjiopfaaGreat
