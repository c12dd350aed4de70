import Derived.Test.YtmedodfenejimaaGreatLkExD
import Derived.Shelf.Sort.Plain
import Derived.Shelf.Slices.CompactI
import Derived.Shelf.Slices.In.SortNone
import Derived.Lib.SlicesCompact
namespace Go.Proofs.YtmedodfenejimaaGreat
set_option linter.unusedVariables false
set_option linter.unusedSimpArgs false
open Go.RowKit Go.Sort Go.Shelf
def rI (l:List Int):List (List Dat):=l.map λ n=>[Dat.int n]
theorem PS (l:List Int):(rI l).length=l.length:=by simp [rI]
theorem VF {l:List Int} {k:Nat} (hk:k<l.length):(rI l).getD k []=[.int (l.getD k 0)]:=by simp [rI,List.getD,hk]
def iR (l:List (List Dat)):List Int:=l.map λ r=>(r.getD 0 (.int 0)).n
theorem FP (l:List (List Dat)):(iR l).length=l.length:=by simp [iR]
theorem Wk {e:Nat} {l:List (List Dat)} (h:Dat.has (.sl e [.int]) (.sl l)):rI (iR l)=l:=by
 have h2:=BH h
 apply List.ext_getElem
 ·simp [rI,iR]
 ·intro k hk hk2
  have:=h2 k hk2
  have eg:l.getD k []=l[k]:=by simp [List.getD,hk2]
  rw [eg] at this
  obtain ⟨_,_,e,q0,h1⟩:=this.cons
  obtain ⟨a,rfl⟩:=Dat.has_int q0
  obtain rfl:=hasRow.nil h1
  simp [rI,iR,e,Dat.n]
theorem VG {l:List (List Dat)} {k:Nat} (hk:k<l.length):(iR l).getD k 0=((l.getD k []).getD 0 (.int 0)).n:=by simp [iR,List.getD,hk]
theorem Lz (l:List Int):(l.map λ x=>[Value.int .i64 x]).flatten=l.map (Value.int .i64):=by
 induction l with
 | nil=>rfl
 | cons a l ih=>rw [List.map_cons,List.flatten_cons,ih];rfl
theorem QY {w:World} {e:Nat} {l:List Int} {v:Value} {bs:List Nat} (h:Fp w (.sl e [.int]) (.sl (rI l)) v bs) :
  (v=.slice none 0 0/\l=[]/\bs=[])∨∃ g cap cur,v=.slice (some ⟨g,0,none⟩) l.length cap/\w.heap[g]?=some (.cells cur e (0,0))/\l.length<=cap/\cap<=maxLen/\cur.size=cap/\cur.toList.take l.length=l.map (Value.int .i64)/\bs=[g]:=by
 simp only [Fp] at h
 obtain ⟨rows,bss,⟨h0,h1⟩,h2,h3,h4,h5,rfl⟩:=h
 rw [PS] at h2 h3 h5
 have hr:rows=(l.map λ x=>[Value.int .i64 x])/\bss.flatten=[]:=by
  have key:∀ k,k<l.length->rows.getD k []=[Value.int .i64 (l.getD k 0)]/\bss.getD k []=[]:=by
   intro k hk
   have:=h5 k hk
   rw [VF hk] at this
   generalize rows.getD k []=r at *
   generalize bss.getD k []=z at *
   match r,this with
   | [],t=>exact absurd t (by simp [FpRow])
   | [x],t=>
    simp only [FpRow,Fp] at t
    obtain ⟨b1,b2,rfl,⟨rfl,rfl⟩,rfl⟩:=t
    exact ⟨rfl,rfl⟩
   | _::_::_,t=>exact absurd t (by simp [FpRow])
  constructor
  ·apply List.ext_getElem
   ·rw [h2,List.length_map]
   ·intro k hk hk2
    have:=(key k (by omega)).1
    simp only [List.getD,hk,List.getElem?_eq_getElem,Option.getD_some] at this
    rw [this]
    simp [List.getElem_map,List.getD,show k<l.length by omega]
  ·rw [List.flatten_eq_nil_iff]
   intro x hx
   obtain ⟨k,hk,rfl⟩:=List.getElem_of_mem hx
   have:=(key k (by omega)).2
   simpa [List.getD,hk] using this
 obtain ⟨rfl,hb⟩:=hr
 have hfl:=Lz l
 rw [List.length_map] at h1
 rcases h1 with ⟨rfl,hn⟩|⟨g,cap,cur,rfl,_,q1,q2,q3,q4,q5⟩
 ·exact .inl ⟨rfl,List.eq_nil_of_length_eq_zero hn,by rw [hb];rfl⟩
 ·refine .inr ⟨g,cap,cur,rfl,q1,q2,q3,by simpa using q4,?_,by rw [hb];rfl⟩
  rw [hfl] at q5
  simpa using q5
theorem TW {w:World} {e:Nat} {l:List Int} {g cap:Nat} {cur:Array Value} (h1:w.heap[g]?=some (.cells cur e (0,0))) (h2:l.length<=cap) (h3:cap<=maxLen) (h4:cur.size=cap) (h5:cur.toList.take l.length=l.map (Value.int .i64)) :
  Fp w (.sl e [.int]) (.sl (rI l)) (.slice (some ⟨g,0,none⟩) l.length cap) [g]:=by
 have hfl:=Lz l
 simp only [Fp]
 refine ⟨l.map λ x=>[Value.int .i64 x],l.map λ _=>[],⟨?_,.inr ⟨g,cap,cur,by rw [List.length_map],Nat.zero_le _,h1,by rw [List.length_map];exact h2,h3,by simpa using h4,by rw [hfl];simpa using h5⟩⟩,by simp [rI],by simp [rI],?_,?_,?_⟩
 ·rw [hfl,List.length_map,List.length_map];simp
 ·intro r hr
  simp only [List.mem_map] at hr
  obtain ⟨x,_,rfl⟩:=hr
  rfl
 ·intro k hk
  rw [PS] at hk
  rw [VF hk]
  simp [List.getD,hk,FpRow,Fp]
 ·simp [Value.ownBlock]
theorem L0 {w:World} {e:Nat} {l:List Int} {g cap:Nat} {cur:Array Value} (h1:w.heap[g]?=some (.cells cur e (0,0))) (h5:cur.toList.take l.length=l.map (Value.int .i64)):Holds (Value.int .i64) w g 0 l.toArray:=by
 intro j hj
 have hj2:j<l.length:=by simpa using hj
 refine ⟨?_,by simp [World.frozen?,h1]⟩
 have e:w.cell? ⟨g,j,none⟩=cur[j]?:=by simp [World.cell?,h1]
 rw [Nat.zero_add,e]
 have:(cur.toList.take l.length)[j]?=cur[j]?:=by rw [List.getElem?_take,if_pos hj2,Array.getElem?_toList]
 rw [← this,h5]
 simp [hj2]
theorem Km (w:World) (g n:Nat) (D:Array Int) (os:Array Obj) {cur:Array Value} {e:Nat} {fr:Nat×Nat} (h1:w.heap[g]?=some (.cells cur e fr)) :
  (grow (putRow (Value.int .i64) (Sort.ahead w n) g 0 D) os).heap[g]?=some (.cells (putCells (Value.int .i64) 0 D cur) e fr)/\(∀ b,b<w.heap.size->b≠g->(grow (putRow (Value.int .i64) (Sort.ahead w n) g 0 D) os).heap[b]?=w.heap[b]?)/\w.heap.size<=(grow (putRow (Value.int .i64) (Sort.ahead w n) g 0 D) os).heap.size:=by
 have hs:(putRow (Value.int .i64) (Sort.ahead w n) g 0 D).heap.size=w.heap.size:=by simp [putRow,mapBlock,Sort.ahead]
 have hg:g<w.heap.size:=(Array.getElem?_eq_some_iff.1 h1).1
 have hold:∀ b,b<w.heap.size->(grow (putRow (Value.int .i64) (Sort.ahead w n) g 0 D) os).heap[b]?=(w.heap.modify g (onCells (putCells (Value.int .i64) 0 D)))[b]?:=by
  intro b hb
  rw [Sort.heap_grow_old _ _ (by rw [hs];exact hb)]
  rfl
 refine ⟨?_,?_,?_⟩
 ·rw [hold g hg,Array.getElem?_modify,if_pos rfl,h1];rfl
 ·intro b hb hne
  rw [hold b hb,Array.getElem?_modify,if_neg (λ e=>hne e.symm)]
 ·rw [Sort.size_grow,hs];omega
theorem L1 {D:Array Int} {cur:Array Value} {m:Nat} (h:D.size<=cur.size) (hm:m<=D.size):(putCells (Value.int .i64) 0 D cur).toList.take m=(D.toList.take m).map (Value.int .i64):=by
 apply List.ext_getElem?
 intro j
 by_cases hj:j<m
 ·rw [List.getElem?_take,if_pos hj,Array.getElem?_toList,List.getElem?_map,List.getElem?_take,if_pos hj]
  simp [putCells,show j<cur.size by omega,show j<D.size by omega]
 ·rw [List.getElem?_eq_none (by simp only [List.length_take];omega),List.getElem?_eq_none (by simp only [List.length_map,List.length_take];omega)]
theorem L2 (D:Array Int) (cur:Array Value):(putCells (Value.int .i64) 0 D cur).size=cur.size:=by simp [putCells]
def Iy (l:List Int):List Int:=l.mergeSort λ x y=>decide (x<=y)
theorem L3 (l:List Int):(Iy l).Perm l:=List.mergeSort_perm l _
theorem Dp (l:List Int):(Iy l).length=l.length:=(L3 l).length_eq
theorem Uj (l:List Int):(Iy l).Pairwise (·<=·):=
 (List.pairwise_mergeSort (λ a b c h1 h2=>by simp only [decide_eq_true_eq] at *;omega) (λ a b=>by simp only [Bool.or_eq_true,decide_eq_true_eq];omega) l).imp λ h=>by simpa using h
def BC:List Int->List Int
 | []=>[]
 | [a]=>[a]
 | a::b::t=>if a=b then BC (b::t) else a::BC (b::t)
theorem Kn {x:Int} : ∀ {l:List Int},x ∈ BC l↔x ∈ l
 | []=>by simp [BC]
 | [a]=>by simp [BC]
 | a::b::t=>by
  have ih:=Kn (x:=x) (l:=b::t)
  unfold BC
  split
  ·next e=>subst e;rw [ih];simp
  ·rw [List.mem_cons,ih,List.mem_cons (a:=x) (b:=a)]
theorem QZ:∀ {l:List Int},l.Pairwise (·<=·)->(BC l).Pairwise (· < ·)
 | [],_=>by simp [BC]
 | [a],_=>by simp [BC]
 | a::b::t,h=>by
  have h1:=List.pairwise_cons.1 h
  have ih:=QZ (l:=b::t) h1.2
  unfold BC
  split
  ·exact ih
  ·next e=>
   refine List.pairwise_cons.2 ⟨λ x hx=>?_,ih⟩
   have hx:=Kn.1 hx
   have h2:=List.pairwise_cons.1 h1.2
   have:=h1.1 b (by simp)
   rcases List.mem_cons.1 hx with rfl|hx
   ·omega
   ·have:=h2.1 x hx;omega
theorem Ko:∀ l:List Int,(BC l).length<=l.length
 | []=>by simp [BC]
 | [a]=>by simp [BC]
 | a::b::t=>by
  have:=Ko (b::t)
  unfold BC
  split
  ·simp only [List.length_cons] at *;omega
  ·simp only [List.length_cons] at *;omega
theorem L4 (x:Int):∀ l:List Int,BC (l++[x])=if l.getLast?=some x then BC l else BC l++[x]
 | []=>by simp [BC]
 | [a]=>by
  by_cases h:a=x
  ·subst h;simp [BC]
  ·simp [BC,h]
 | a::b::t=>by
  have ih:=L4 x (b::t)
  have e:(a::b::t).getLast?=(b::t).getLast?:=by simp [List.getLast?_cons_cons]
  rw [e]
  show BC (a::b::(t++[x]))=_
  by_cases h:a=b
  ·subst h
   have e1:BC (a::a::(t++[x]))=BC (a::(t++[x])):=by conv=>lhs;unfold BC;rw [if_pos rfl]
   have e2:BC (a::a::t)=BC (a::t):=by conv=>lhs;unfold BC;rw [if_pos rfl]
   rw [e1,e2];exact ih
  ·have e1:BC (a::b::(t++[x]))=a::BC (b::(t++[x])):=by conv=>lhs;unfold BC;rw [if_neg h]
   have e2:BC (a::b::t)=a::BC (b::t):=by conv=>lhs;unfold BC;rw [if_neg h]
   rw [e1,e2]
   have ih' : BC (b::(t++[x]))=_:=ih
   rw [ih']
   split <;> rfl
theorem IQ (l:List Int):∀ m,m<=l.length->Lib.compactUpTo l.toArray m=BC (l.take m)
 | 0,_=>by simp [Lib.compactUpTo,BC]
 | m+1,h=>by
  have ih:=IQ l m (by omega)
  have hx:(l.toArray)[m]! = l[m]:=by simp [show m<l.length by omega]
  have e:l.take (m+1)=l.take m++[l[m]]:=by rw [List.take_add_one];simp [show m<l.length by omega]
  rw [Lib.compactUpTo_succ,ih,e,L4,hx]
  by_cases h0:m=0
  ·subst h0;simp [Lib.keeps,BC]
  ·have hy:(l.toArray)[m-1]! = l[m-1]:=by simp [show m-1<l.length by omega]
   have hl:(l.take m).getLast?=some l[m-1]:=by
    rw [List.getLast?_eq_getElem?,List.length_take,Nat.min_eq_left (by omega)]
    simp [show m-1<m by omega,show m-1<l.length by omega]
   rw [hl]
   by_cases hq:l[m-1]=l[m]
   ·have:Lib.keeps l.toArray m=false:=Lib.keeps_neg (by omega) (by rw [hx,hy,hq])
    rw [this];simp [hq]
   ·have:Lib.keeps l.toArray m=true:=Lib.keeps_pos (by rw [hx,hy];exact λ e=>hq e.symm)
    rw [this];simp [hq]
theorem TX (l:List Int):Lib.compact l=BC l:=by
 have:=IQ l l.length (Nat.le_refl _)
 rw [List.take_length] at this
 simpa [Lib.compact] using this
theorem Qa:∀ {a b:List Int},a.Pairwise (· < ·)->b.Pairwise (· < ·)->(∀ x,x ∈ a↔x ∈ b)->a=b
 | [],[],_,_,_=>rfl
 | [],y::b,_,_,h=>absurd ((h y).2 (List.mem_cons_self ..)) (by simp)
 | x::a,[],_,_,h=>absurd ((h x).1 (List.mem_cons_self ..)) (by simp)
 | x::a,y::b,ha,hb,h=>by
  have ha':=List.pairwise_cons.1 ha
  have hb':=List.pairwise_cons.1 hb
  have hxy:x=y:=by
   rcases List.mem_cons.1 ((h x).1 (List.mem_cons_self ..)) with e|e
   ·exact e
   ·rcases List.mem_cons.1 ((h y).2 (List.mem_cons_self ..)) with e2|e2
    ·exact e2.symm
    ·have h1:=hb'.1 x e
     have h2:=ha'.1 y e2
     omega
  subst hxy
  rw [Qa ha'.2 hb'.2 λ z=>?_]
  constructor
  ·intro hz
   rcases List.mem_cons.1 ((h z).1 (List.mem_cons_of_mem _ hz)) with e|e
   ·have:=ha'.1 z hz;omega
   ·exact e
  ·intro hz
   rcases List.mem_cons.1 ((h z).2 (List.mem_cons_of_mem _ hz)) with e|e
   ·have:=hb'.1 z hz;omega
   ·exact e
def Hx (p:Int):List Int->List Int
 | []=>[p]
 | a::t=>if a<p then a::Hx p t else if a=p then a::t else p::a::t
theorem Kp {p x : Int} : ∀ {s : List Int}, x ∈ Hx p s ↔ x = p ∨ x ∈ s
  | [] => by simp [Hx]
  | a :: t => by
    have ih := Kp (p := p) (x := x) (s := t)
    unfold Hx
    split
    · rw [List.mem_cons, ih, List.mem_cons]; constructor
      · rintro (h | h | h) <;> simp [h]
      · rintro (h | h | h) <;> simp [h]
    · split
      · next e => subst e; rw [List.mem_cons]; constructor
                  · intro h; exact .inr h
                  · rintro (h | h)
                    · exact .inl h
                    · exact h
      · rw [List.mem_cons]
theorem Qb {p:Int} : ∀ {s:List Int},s.Pairwise (· < ·)->(Hx p s).Pairwise (· < ·)
 | [],_=>by simp [Hx]
 | a::t,h=>by
  have h1:=List.pairwise_cons.1 h
  unfold Hx
  split
  ·next hc=>
   refine List.pairwise_cons.2 ⟨λ x hx=>?_,Qb h1.2⟩
   rcases Kp.1 hx with rfl|hx
   ·exact hc
   ·exact h1.1 x hx
  ·split
   ·exact h
   ·refine List.pairwise_cons.2 ⟨λ x hx=>?_,h⟩
    rcases List.mem_cons.1 hx with rfl|hx
    ·omega
    ·have:=h1.1 x hx;omega
def Kq (l:List Int):List Int:=l.foldl (λ s x=>Hx x s) []
theorem L5 (l:List Int):∀ s:List Int,s.Pairwise (· < ·)->(l.foldl (λ s x=>Hx x s) s).Pairwise (· < ·)/\∀ x,x ∈ l.foldl (λ s x=>Hx x s) s↔x ∈ l∨x ∈ s:=by
 induction l with
 | nil=>intro s h;exact ⟨h,λ x=>by simp⟩
 | cons a l ih=>
  intro s h
  obtain ⟨h1,h2⟩:=ih (Hx a s) (Qb h)
  refine ⟨h1,λ x=>?_⟩
  rw [List.foldl_cons,h2,Kp,List.mem_cons]
  constructor
  ·rintro (h|h|h) <;> simp [h]
  ·rintro ((h|h)|h) <;> simp [h]
theorem Qc (l:List Int):(Kq l).Pairwise (· < ·):=(L5 l [] List.Pairwise.nil).1
theorem Kr {l:List Int} {x:Int} : x ∈ Kq l↔x ∈ l:=by
 have:=(L5 l [] List.Pairwise.nil).2 x
 simpa [Kq] using this
theorem Qd (l:List Int):BC (Iy l)=Kq l:=
 Qa (QZ (Uj l)) (Qc l) λ x=>by rw [Kn,Kr];exact (L3 l).mem_iff
theorem Ro (l:List Int) (x:Int):Kq (l++[x])=Hx x (Kq l):=by simp [Kq]
theorem Nw (l:List Int):(Kq l).length<=l.length:=by
 rw [← Qd]
 exact Nat.le_trans (Ko _) (by rw [Dp];exact Nat.le_refl _)
end Go.Proofs.YtmedodfenejimaaGreat
