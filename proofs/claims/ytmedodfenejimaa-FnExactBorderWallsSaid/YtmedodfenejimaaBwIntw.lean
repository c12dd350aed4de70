import Derived.Test.YtmedodfenejimaaBwExD
import Derived.Shelf.Sort.Plain
import Derived.Shelf.Slices.CompactI
import Derived.Shelf.Slices.In.SortNone
import Derived.Lib.SlicesCompact
namespace Go.Proofs.Ytmedodfenejimaa
set_option linter.unusedVariables false
set_option linter.unusedSimpArgs false
open Go.RowKit Go.Sort Go.Shelf
def rI (l:List Int):List (List Dat):=l.map λ n=>[Dat.int n]
theorem rI_len (l:List Int):(rI l).length=l.length:=by simp [rI]
theorem rI_at {l:List Int} {k:Nat} (hk:k<l.length):(rI l).getD k []=[.int (l.getD k 0)]:=by simp [rI,List.getD,hk]
theorem rI_n {l:List Int} {k:Nat} (hk:k<l.length):(((rI l).getD k []).getD 0 (.int 0)).n=l.getD k 0:=by rw [rI_at hk];rfl
theorem rI_app (a b:List Int):rI a++rI b=rI (a++b):=by simp [rI]
theorem flat_ints (l:List Int):(l.map λ x=>[Value.int .i64 x]).flatten=l.map (Value.int .i64):=by
 induction l with
 | nil=>rfl
 | cons a l ih=>rw [List.map_cons,List.flatten_cons,ih];rfl
theorem fp_ints {w:World} {e:Nat} {l:List Int} {v:Value} {bs:List Nat} (h:Fp w (.sl e [.int]) (.sl (rI l)) v bs) :
  (v=.slice none 0 0/\l=[]/\bs=[])∨∃ g cap cur,v=.slice (some ⟨g,0,none⟩) l.length cap/\w.heap[g]?=some (.cells cur e (0,0))/\l.length<=cap/\cap<=maxLen/\cur.size=cap/\cur.toList.take l.length=l.map (Value.int .i64)/\bs=[g]:=by
 simp only [Fp] at h
 obtain ⟨rows,bss,⟨h0,h1⟩,h2,h3,h4,h5,rfl⟩:=h
 rw [rI_len] at h2 h3 h5
 have hr:rows=(l.map λ x=>[Value.int .i64 x])/\bss.flatten=[]:=by
  have key:∀ k,k<l.length->rows.getD k []=[Value.int .i64 (l.getD k 0)]/\bss.getD k []=[]:=by
   intro k hk
   have:=h5 k hk
   rw [rI_at hk] at this
   generalize rows.getD k []=r at *
   generalize bss.getD k []=z at *
   match r,this with
   | [],t=>exact absurd t (by simp [FpRow])
   | [x],t=>
    simp only [FpRow,Fp] at t
    obtain ⟨b1,b2,rfl,⟨rfl,rfl⟩,rfl⟩:=t
    exact ⟨rfl,rfl⟩
   | _::_::_,t=>exact absurd t (by simp [FpRow])
  constructor
  ·apply List.ext_getElem
   ·rw [h2,List.length_map]
   ·intro k hk hk2
    have:=(key k (by omega)).1
    simp only [List.getD,hk,List.getElem?_eq_getElem,Option.getD_some] at this
    rw [this]
    simp [List.getElem_map,List.getD,show k<l.length by omega]
  ·rw [List.flatten_eq_nil_iff]
   intro x hx
   obtain ⟨k,hk,rfl⟩:=List.getElem_of_mem hx
   have:=(key k (by omega)).2
   simpa [List.getD,hk] using this
 obtain ⟨rfl,hb⟩:=hr
 have hfl:=flat_ints l
 rw [List.length_map] at h1
 rcases h1 with ⟨rfl,hn⟩|⟨g,cap,cur,rfl,_,q1,q2,q3,q4,q5⟩
 ·exact .inl ⟨rfl,List.eq_nil_of_length_eq_zero hn,by rw [hb];rfl⟩
 ·refine .inr ⟨g,cap,cur,rfl,q1,q2,q3,by simpa using q4,?_,by rw [hb];rfl⟩
  rw [hfl] at q5
  simpa using q5
theorem fpi_of {w:World} {e:Nat} {l:List Int} {g cap:Nat} {cur:Array Value} (h1:w.heap[g]?=some (.cells cur e (0,0))) (h2:l.length<=cap) (h3:cap<=maxLen) (h4:cur.size=cap) (h5:cur.toList.take l.length=l.map (Value.int .i64)) :
  Fp w (.sl e [.int]) (.sl (rI l)) (.slice (some ⟨g,0,none⟩) l.length cap) [g]:=by
 have hfl:=flat_ints l
 simp only [Fp]
 refine ⟨l.map λ x=>[Value.int .i64 x],l.map λ _=>[],⟨?_,.inr ⟨g,cap,cur,by rw [List.length_map],Nat.zero_le _,h1,by rw [List.length_map];exact h2,h3,by simpa using h4,by rw [hfl];simpa using h5⟩⟩,by simp [rI],by simp [rI],?_,?_,?_⟩
 ·rw [hfl,List.length_map,List.length_map];simp
 ·intro r hr
  simp only [List.mem_map] at hr
  obtain ⟨x,_,rfl⟩:=hr
  rfl
 ·intro k hk
  rw [rI_len] at hk
  rw [rI_at hk]
  simp [List.getD,hk,FpRow,Fp]
 ·simp [Value.ownBlock]
theorem holdsI_of {w:World} {e:Nat} {l:List Int} {g cap:Nat} {cur:Array Value} (h1:w.heap[g]?=some (.cells cur e (0,0))) (h5:cur.toList.take l.length=l.map (Value.int .i64)):Holds (Value.int .i64) w g 0 l.toArray:=by
 intro j hj
 have hj2:j<l.length:=by simpa using hj
 refine ⟨?_,by simp [World.frozen?,h1]⟩
 have e:w.cell? ⟨g,j,none⟩=cur[j]?:=by simp [World.cell?,h1]
 rw [Nat.zero_add,e]
 have:(cur.toList.take l.length)[j]?=cur[j]?:=by rw [List.getElem?_take,if_pos hj2,Array.getElem?_toList]
 rw [← this,h5]
 simp [hj2]
theorem putI_world (w:World) (g n:Nat) (D:Array Int) (os:Array Obj) {cur:Array Value} {e:Nat} {fr:Nat×Nat} (h1:w.heap[g]?=some (.cells cur e fr)) :
  (grow (putRow (Value.int .i64) (Sort.ahead w n) g 0 D) os).heap[g]?=some (.cells (putCells (Value.int .i64) 0 D cur) e fr)/\(∀ b,b<w.heap.size->b≠g->(grow (putRow (Value.int .i64) (Sort.ahead w n) g 0 D) os).heap[b]?=w.heap[b]?)/\w.heap.size<=(grow (putRow (Value.int .i64) (Sort.ahead w n) g 0 D) os).heap.size:=by
 have hs:(putRow (Value.int .i64) (Sort.ahead w n) g 0 D).heap.size=w.heap.size:=by simp [putRow,mapBlock,Sort.ahead]
 have hg:g<w.heap.size:=(Array.getElem?_eq_some_iff.1 h1).1
 have hold:∀ b,b<w.heap.size->(grow (putRow (Value.int .i64) (Sort.ahead w n) g 0 D) os).heap[b]?=(w.heap.modify g (onCells (putCells (Value.int .i64) 0 D)))[b]?:=by
  intro b hb
  rw [Sort.heap_grow_old _ _ (by rw [hs];exact hb)]
  rfl
 refine ⟨?_,?_,?_⟩
 ·rw [hold g hg,Array.getElem?_modify,if_pos rfl,h1];rfl
 ·intro b hb hne
  rw [hold b hb,Array.getElem?_modify,if_neg (λ e=>hne e.symm)]
 ·rw [Sort.size_grow,hs];omega
theorem putI_take {D:Array Int} {cur:Array Value} {m:Nat} (h:D.size<=cur.size) (hm:m<=D.size):(putCells (Value.int .i64) 0 D cur).toList.take m=(D.toList.take m).map (Value.int .i64):=by
 apply List.ext_getElem?
 intro j
 by_cases hj:j<m
 ·rw [List.getElem?_take,if_pos hj,Array.getElem?_toList,List.getElem?_map,List.getElem?_take,if_pos hj]
  simp [putCells,show j<cur.size by omega,show j<D.size by omega]
 ·rw [List.getElem?_eq_none (by simp only [List.length_take];omega),List.getElem?_eq_none (by simp only [List.length_map,List.length_take];omega)]
theorem putI_size (D:Array Int) (cur:Array Value):(putCells (Value.int .i64) 0 D cur).size=cur.size:=by simp [putCells]
def srtI (l:List Int):List Int:=l.mergeSort λ x y=>decide (x<=y)
theorem srtI_perm (l:List Int):(srtI l).Perm l:=List.mergeSort_perm l _
theorem srtI_len (l:List Int):(srtI l).length=l.length:=(srtI_perm l).length_eq
theorem srtI_up (l:List Int):(srtI l).Pairwise (·<=·):=
 (List.pairwise_mergeSort (λ a b c h1 h2=>by simp only [decide_eq_true_eq] at *;omega) (λ a b=>by simp only [Bool.or_eq_true,decide_eq_true_eq];omega) l).imp λ h=>by simpa using h
def dedI:List Int->List Int
 | []=>[]
 | [a]=>[a]
 | a::b::t=>if a=b then dedI (b::t) else a::dedI (b::t)
theorem mem_dedI {x:Int} : ∀ {l:List Int},x ∈ dedI l↔x ∈ l
 | []=>by simp [dedI]
 | [a]=>by simp [dedI]
 | a::b::t=>by
  have ih:=mem_dedI (x:=x) (l:=b::t)
  unfold dedI
  split
  ·next e=>subst e;rw [ih];simp
  ·rw [List.mem_cons,ih,List.mem_cons (a:=x) (b:=a)]
theorem dedI_up:∀ {l:List Int},l.Pairwise (·<=·)->(dedI l).Pairwise (· < ·)
 | [],_=>by simp [dedI]
 | [a],_=>by simp [dedI]
 | a::b::t,h=>by
  have h1:=List.pairwise_cons.1 h
  have ih:=dedI_up (l:=b::t) h1.2
  unfold dedI
  split
  ·exact ih
  ·next e=>
   refine List.pairwise_cons.2 ⟨λ x hx=>?_,ih⟩
   have hx:=mem_dedI.1 hx
   have h2:=List.pairwise_cons.1 h1.2
   have:=h1.1 b (by simp)
   rcases List.mem_cons.1 hx with rfl|hx
   ·omega
   ·have:=h2.1 x hx;omega
theorem dedI_len:∀ l:List Int,(dedI l).length<=l.length
 | []=>by simp [dedI]
 | [a]=>by simp [dedI]
 | a::b::t=>by
  have:=dedI_len (b::t)
  unfold dedI
  split
  ·simp only [List.length_cons] at *;omega
  ·simp only [List.length_cons] at *;omega
theorem dedI_snoc (x:Int):∀ l:List Int,dedI (l++[x])=if l.getLast?=some x then dedI l else dedI l++[x]
 | []=>by simp [dedI]
 | [a]=>by
  by_cases h:a=x
  ·subst h;simp [dedI]
  ·simp [dedI,h]
 | a::b::t=>by
  have ih:=dedI_snoc x (b::t)
  have e:(a::b::t).getLast?=(b::t).getLast?:=by simp [List.getLast?_cons_cons]
  rw [e]
  show dedI (a::b::(t++[x]))=_
  by_cases h:a=b
  ·subst h
   have e1:dedI (a::a::(t++[x]))=dedI (a::(t++[x])):=by conv=>lhs;unfold dedI;rw [if_pos rfl]
   have e2:dedI (a::a::t)=dedI (a::t):=by conv=>lhs;unfold dedI;rw [if_pos rfl]
   rw [e1,e2];exact ih
  ·have e1:dedI (a::b::(t++[x]))=a::dedI (b::(t++[x])):=by conv=>lhs;unfold dedI;rw [if_neg h]
   have e2:dedI (a::b::t)=a::dedI (b::t):=by conv=>lhs;unfold dedI;rw [if_neg h]
   rw [e1,e2]
   have ih' : dedI (b::(t++[x]))=_:=ih
   rw [ih']
   split <;> rfl
theorem compact_dedI (l:List Int):∀ m,m<=l.length->Lib.compactUpTo l.toArray m=dedI (l.take m)
 | 0,_=>by simp [Lib.compactUpTo,dedI]
 | m+1,h=>by
  have ih:=compact_dedI l m (by omega)
  have hx:(l.toArray)[m]! = l[m]:=by simp [show m<l.length by omega]
  have e:l.take (m+1)=l.take m++[l[m]]:=by rw [List.take_add_one];simp [show m<l.length by omega]
  rw [Lib.compactUpTo_succ,ih,e,dedI_snoc,hx]
  by_cases h0:m=0
  ·subst h0;simp [Lib.keeps,dedI]
  ·have hy:(l.toArray)[m-1]! = l[m-1]:=by simp [show m-1<l.length by omega]
   have hl:(l.take m).getLast?=some l[m-1]:=by
    rw [List.getLast?_eq_getElem?,List.length_take,Nat.min_eq_left (by omega)]
    simp [show m-1<m by omega,show m-1<l.length by omega]
   rw [hl]
   by_cases hq:l[m-1]=l[m]
   ·have:Lib.keeps l.toArray m=false:=Lib.keeps_neg (by omega) (by rw [hx,hy,hq])
    rw [this];simp [hq]
   ·have:Lib.keeps l.toArray m=true:=Lib.keeps_pos (by rw [hx,hy];exact λ e=>hq e.symm)
    rw [this];simp [hq]
theorem compactI (l:List Int):Lib.compact l=dedI l:=by
 have:=compact_dedI l l.length (Nat.le_refl _)
 rw [List.take_length] at this
 simpa [Lib.compact] using this
theorem upI_ext:∀ {a b:List Int},a.Pairwise (· < ·)->b.Pairwise (· < ·)->(∀ x,x ∈ a↔x ∈ b)->a=b
 | [],[],_,_,_=>rfl
 | [],y::b,_,_,h=>absurd ((h y).2 (List.mem_cons_self ..)) (by simp)
 | x::a,[],_,_,h=>absurd ((h x).1 (List.mem_cons_self ..)) (by simp)
 | x::a,y::b,ha,hb,h=>by
  have ha':=List.pairwise_cons.1 ha
  have hb':=List.pairwise_cons.1 hb
  have hxy:x=y:=by
   rcases List.mem_cons.1 ((h x).1 (List.mem_cons_self ..)) with e|e
   ·exact e
   ·rcases List.mem_cons.1 ((h y).2 (List.mem_cons_self ..)) with e2|e2
    ·exact e2.symm
    ·have h1:=hb'.1 x e
     have h2:=ha'.1 y e2
     omega
  subst hxy
  rw [upI_ext ha'.2 hb'.2 λ z=>?_]
  constructor
  ·intro hz
   rcases List.mem_cons.1 ((h z).1 (List.mem_cons_of_mem _ hz)) with e|e
   ·have:=ha'.1 z hz;omega
   ·exact e
  ·intro hz
   rcases List.mem_cons.1 ((h z).2 (List.mem_cons_of_mem _ hz)) with e|e
   ·have:=hb'.1 z hz;omega
   ·exact e
def insI (p:Int):List Int->List Int
 | []=>[p]
 | a::t=>if a<p then a::insI p t else if a=p then a::t else p::a::t
theorem mem_insI {p x : Int} : ∀ {s : List Int}, x ∈ insI p s ↔ x = p ∨ x ∈ s
  | [] => by simp [insI]
  | a :: t => by
    have ih := mem_insI (p := p) (x := x) (s := t)
    unfold insI
    split
    · rw [List.mem_cons, ih, List.mem_cons]; constructor
      · rintro (h | h | h) <;> simp [h]
      · rintro (h | h | h) <;> simp [h]
    · split
      · next e => subst e; rw [List.mem_cons]; constructor
                  · intro h; exact .inr h
                  · rintro (h | h)
                    · exact .inl h
                    · exact h
      · rw [List.mem_cons]
theorem insI_up {p:Int} : ∀ {s:List Int},s.Pairwise (· < ·)->(insI p s).Pairwise (· < ·)
 | [],_=>by simp [insI]
 | a::t,h=>by
  have h1:=List.pairwise_cons.1 h
  unfold insI
  split
  ·next hc=>
   refine List.pairwise_cons.2 ⟨λ x hx=>?_,insI_up h1.2⟩
   rcases mem_insI.1 hx with rfl|hx
   ·exact hc
   ·exact h1.1 x hx
  ·split
   ·exact h
   ·refine List.pairwise_cons.2 ⟨λ x hx=>?_,h⟩
    rcases List.mem_cons.1 hx with rfl|hx
    ·omega
    ·have:=h1.1 x hx;omega
theorem insI_at {p:Int} : ∀ {s:List Int} {n:Nat},n<=s.length->(∀ j,j<n->s.getD j 0<p)->(n<s.length->¬ s.getD n 0<p)->insI p s=if n<s.length/\s.getD n 0=p then s else s.take n++[p]++s.drop n
 | [],n,hn,_,_=>by
  have:n=0:=by simpa using hn
  subst this;simp [insI]
 | a::t,0,_,_,hc=>by
  have hc:¬ a<p:=by simpa using hc (by simp)
  unfold insI
  rw [if_neg hc]
  by_cases e:a=p
  ·simp [e]
  ·simp [e]
 | a::t,n+1,hn,hl,hc=>by
  have h0:a<p:=by simpa using hl 0 (by omega)
  have ih:=insI_at (p:=p) (s:=t) (n:=n) (by simpa using hn) (λ j hj=>by simpa using hl (j+1) (by omega)) (λ h=>by simpa using hc (by simpa using h))
  unfold insI
  rw [if_pos h0,ih]
  by_cases e:n<t.length/\t.getD n 0=p
  ·rw [if_pos e,if_pos (by simpa using e)]
  ·rw [if_neg e,if_neg (by simpa using e)]
   simp
def setI (l:List Int):List Int:=l.foldl (λ s x=>insI x s) []
theorem fold_insI (l:List Int):∀ s:List Int,s.Pairwise (· < ·)->(l.foldl (λ s x=>insI x s) s).Pairwise (· < ·)/\∀ x,x ∈ l.foldl (λ s x=>insI x s) s↔x ∈ l∨x ∈ s:=by
 induction l with
 | nil=>intro s h;exact ⟨h,λ x=>by simp⟩
 | cons a l ih=>
  intro s h
  obtain ⟨h1,h2⟩:=ih (insI a s) (insI_up h)
  refine ⟨h1,λ x=>?_⟩
  rw [List.foldl_cons,h2,mem_insI,List.mem_cons]
  constructor
  ·rintro (h|h|h) <;> simp [h]
  ·rintro ((h|h)|h) <;> simp [h]
theorem setI_up (l:List Int):(setI l).Pairwise (· < ·):=(fold_insI l [] List.Pairwise.nil).1
theorem mem_setI {l:List Int} {x:Int} : x ∈ setI l↔x ∈ l:=by
 have:=(fold_insI l [] List.Pairwise.nil).2 x
 simpa [setI] using this
theorem ded_srt (l:List Int):dedI (srtI l)=setI l:=
 upI_ext (dedI_up (srtI_up l)) (setI_up l) λ x=>by rw [mem_dedI,mem_setI];exact (srtI_perm l).mem_iff
theorem setI_len (l:List Int):(setI l).length<=l.length:=by
 rw [← ded_srt]
 exact Nat.le_trans (dedI_len _) (by rw [srtI_len];exact Nat.le_refl _)
end Go.Proofs.Ytmedodfenejimaa
