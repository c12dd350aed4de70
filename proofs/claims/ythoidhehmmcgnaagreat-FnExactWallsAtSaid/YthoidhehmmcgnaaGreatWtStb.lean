import Derived.Test.YthoidhehmmcgnaaGreatWtSyn
import Derived.Test.YthoidhehmmcgnaaGreatWtExD
import Derived.Shelf.SlSortCmp.InsertionK
namespace Go.Proofs.YthoidhehmmcgnaaGreat
set_option linter.unusedVariables false
set_option linter.unusedSimpArgs false
open Go.RowKit Go.Sort Go.Shelf
def clI(n i:Nat):Nat:=if i<n then i else 0
theorem NQ{n i:Nat}(h:0<n):clI n i<n:=by unfold clI;split <;> omega
theorem TY{n i:Nat}(h:i<n):clI n i=i:=if_pos h
def GF(rows:List (List Value))(i:Nat):List Value:=rows.getD (clI rows.length i) []
theorem Ay{α:Type}{l:List α}{d:α}{i:Nat}(h:i<l.length):l.getD i d ∈ l:=by simp[List.getD,h]
theorem YT{rows:List (List Value)}{k:Nat}(h0:0<rows.length)(h4:∀r ∈ rows,r.length=k)(i:Nat):(GF rows i).length=k:=h4 _ (Ay (NQ h0))
theorem Lq{rows:List (List Value)}{i:Nat}(h:i<rows.length):GF rows i=rows.getD i []:=by unfold GF;rw[TY h]
theorem Jp{k:Nat} : ∀{rows:List (List Value)},(∀r ∈ rows,r.length=k)->rows.flatten.length=rows.length*k
 | [],_=>by simp|r::rs,h=>by rw[List.flatten_cons,List.length_append,Jp λx hx=>h x (List.mem_cons_of_mem _ hx),h r (List.mem_cons_self ..),List.length_cons,Nat.add_mul];omega
theorem Uy{w:World}{g e:Nat}{cur:Array Value}{fr:Nat×Nat}(h:w.heap[g]?=some (.cells cur e fr))(j:Nat):w.cell? ⟨g,j,none⟩=cur[j]?:=by simp[World.cell?,h]
theorem TZ{α:Type}[Inhabited α](enc:α->List Value)(k:Nat)(w:World)(g n:Nat)(D:Array α)(os:Array Obj){cur:Array Value}{e:Nat}{fr:Nat×Nat}(h1:w.heap[g]?=some (.cells cur e fr)) :
  (∃cur',(sortWorldK enc k w g 0 n D os).heap[g]?=some (.cells cur' e fr)/\cur'.size=cur.size)/\OnlyIn (λb=>b=g) w (sortWorldK enc k w g 0 n D os):=by
 have hs:(putRowK enc k (Sort.ahead w n) g 0 D).heap.size=w.heap.size:=by simp[putRowK,putRow,mapBlock,Sort.ahead]
 have hg:g<w.heap.size:=(Array.getElem?_eq_some_iff.1 h1).1;have a0:∀b,b<w.heap.size->(sortWorldK enc k w g 0 n D os).heap[b]?=(w.heap.modify g (onCells (putCells id 0 (flatK enc k D))))[b]?:=by intro b hb;unfold sortWorldK;rw[Sort.heap_grow_old _ _ (by rw[hs];exact hb)];rfl
 refine⟨⟨putCells id 0 (flatK enc k D) cur,?_,?_⟩,rfl,rfl,rfl,?_,?_⟩;rw[a0 g hg,Array.getElem?_modify,if_pos rfl,h1];rfl;simp[putCells];unfold sortWorldK;rw[Sort.size_grow,hs];omega;intro b hb a1;rw[a0 b hb,Array.getElem?_modify,if_neg (λe=>a1 e.symm)]
section
variable {w : World} {ts : List Ty} {e g cap : Nat} {L : List (List Dat)} {bs : List Nat}
structure RowsF(w:World)(e:Nat)(ts:List Ty)(L:List (List Dat))(g cap:Nat)(bs:List Nat)(rows:List (List Value))(bss:List (List Nat))(cur:Array Value):Prop where
 len:rows.length=L.length
 lenb:bss.length=L.length
 each:∀r ∈ rows,r.length=ts.length
 fp:∀k,k<L.length->FpRow w ts (L.getD k []) (rows.getD k []) (bss.getD k [])
 blk:w.heap[g]?=some (.cells cur e (0,0))
 fit:L.length<=cap
 max:cap<=maxLen
 size:cur.size=cap*ts.length
 take:cur.toList.take (L.length*ts.length)=rows.flatten
 all:bs=g::bss.flatten
theorem RowsF.of(h:Fp w (.sl e ts) (.sl L) (.slice (some ⟨g,0,none⟩) L.length cap) bs):∃rows bss cur,RowsF w e ts L g cap bs rows bss cur:=by simp only[Fp]at h;obtain⟨rows,bss,⟨h0,h1⟩,h2,h3,h4,h5,rfl⟩:=h;rcases h1 with⟨h1,-⟩|⟨g',cap',cur,h1,-,q1,q2,q3,q4,q5⟩;cases h1;simp only[Value.slice.injEq,Option.some.injEq,Addr.mk.injEq]at h1;obtain⟨⟨rfl,-⟩,-,rfl⟩:=h1;rw[h2]at q2 q5;exact⟨rows,bss,cur,h2,h3,h4,h5,q1,q2,q3,q4,q5,rfl⟩
theorem Hs{α β:Type}{f:α->β}{T:List α}{a:α}{b:β}{k:Nat}(h:k<T.length):(T.map f).getD k b=f (T.getD k a):=by simp[List.getD,h]
theorem RowsF.perm{rows:List (List Value)}{bss:List (List Nat)}{cur cur' : Array Value}(R:RowsF w e ts L g cap bs rows bss cur)(hn:bs.Nodup){w' : World}(ho:OnlyIn (λb=>b=g) w w')(hb:w'.heap[g]?=some (.cells cur' e (0,0)))(hs:cur'.size=cur.size)
  {T:List Nat} (hT:T.Perm (List.range L.length)) (ht:cur'.toList.take (L.length*ts.length)=(T.map λi=>rows.getD i []).flatten) :
  ∃bt,Fp w' (.sl e ts) (.sl (T.map λi=>L.getD i [])) (.slice (some ⟨g,0,none⟩) L.length cap) bt/\bt.Nodup/\∀b ∈ bt,b ∈ bs:=by
 have hl:T.length=L.length:=by rw[hT.length_eq,List.length_range]
 have a1:∀i ∈ T,i<L.length:=λi hi=>List.mem_range.1 (hT.mem_iff.1 hi);have a0:=R.all;rw[a0,List.nodup_cons]at hn
 have a2:(T.map λi=>bss.getD i []).Perm bss:=by
  have h1:=hT.map λi=>bss.getD i [];have e:(List.range L.length).map (λi=>bss.getD i [])=bss:=by apply List.ext_getElem;simp[R.lenb];intro k h1 h2;simp[List.getD,h2]
  rwa [e]at h1
 have a3:=a2.flatten;refine⟨g::(T.map λi=>bss.getD i []).flatten,?_,List.nodup_cons.2 ⟨λh=>hn.1 (a3.mem_iff.1 h),a3.nodup_iff.2 hn.2⟩,λb hb=>?_⟩;simp only[Fp];refine⟨T.map λi=>rows.getD i [],T.map λi=>bss.getD i [],⟨?_,.inr ⟨g,cap,cur',?_,Nat.zero_le _,hb,?_,R.max,by rw[hs];exact R.size,?_⟩⟩,by simp,by simp,?_,?_,rfl⟩;refine Jp λr hr=>?_;obtain⟨i,hi,rfl⟩:=List.mem_map.1 hr;exact R.each _ (Ay (by rw[R.len];exact a1 i hi));rw[List.length_map,hl];rw[List.length_map,hl];exact R.fit;rw[List.length_map,hl];exact ht;intro r hr;obtain⟨i,hi,rfl⟩:=List.mem_map.1 hr;exact R.each _ (Ay (by rw[R.len];exact a1 i hi));intro k hk;rw[List.length_map]at hk;rw[Hs (a:=0) hk,Hs (a:=0) hk,Hs (a:=0) hk];have hi:=a1 _ (Ay (d:=0) hk);refine FpRow.only ho _ _ _ _ (R.fp _ hi) λb hb2 e=>hn.1 ?_;rw[e]at hb2;exact List.mem_flatten.2 ⟨_,Ay (by rw[R.lenb];exact hi),hb2⟩;rw[a0];rcases List.mem_cons.1 hb with rfl|hb;exact List.mem_cons_self ..;exact List.mem_cons_of_mem _ (a3.mem_iff.1 hb)
theorem RowsF.holds{rows:List (List Value)}{bss:List (List Nat)}{cur:Array Value}(R:RowsF w e ts L g cap bs rows bss cur):HoldsK (GF rows) ts.length w g 0 (Array.range L.length):=by
 intro j hj;have hj2:j<L.length*ts.length:=by simpa using hj
 have hk:0<ts.length:=by rcases Nat.eq_zero_or_pos ts.length with h|h;rw[h]at hj2;omega;exact h
 have hd:j/ts.length<L.length:=Nat.div_lt_of_lt_mul (by rw[Nat.mul_comm];exact hj2);refine⟨?_,by simp[World.frozen?,R.blk]⟩;rw[Uy R.blk,Nat.zero_add,get_flatK _ _ _ _ (by simpa using hj2)];have h1:=CJ rows ts.length R.each j (by rw[R.len];exact hd) (Nat.mod_lt _ hk);rw[← R.take,List.getElem?_take,if_pos hj2,Array.getElem?_toList]at h1;rw[h1];have h2:(Array.range L.length)[j/ts.length]! = j/ts.length:=by simp[hd]
 rw[h2,Lq (by rw[R.len];exact hd)];have h3:j%ts.length<(rows.getD (j/ts.length) []).length:=by rw[R.each _ (Ay (by rw[R.len];exact hd))];exact Nat.mod_lt _ hk
 show some _=some ((rows.getD (j/ts.length) [])[j%ts.length]!);rw[getElem!_pos (rows.getD (j/ts.length) []) (j%ts.length) h3];generalize rows.getD (j/ts.length) []=r at *;simp[List.getD,h3]
theorem RowsF.sorted{rows:List (List Value)}{bss:List (List Nat)}{cur:Array Value}(R:RowsF w e ts L g cap bs rows bss cur)(hn:bs.Nodup){D:Array Nat}(hD:D.toList.Perm (List.range L.length))(n:Nat)(os:Array Obj) :
  OnlyIn (λb=>b=g) w (sortWorldK (GF rows) ts.length w g 0 n D os)/\∃bt,Fp (sortWorldK (GF rows) ts.length w g 0 n D os) (.sl e ts) (.sl (D.toList.map λi=>L.getD i [])) (.slice (some ⟨g,0,none⟩) L.length cap) bt/\bt.Nodup/\∀b ∈ bt,b ∈ bs:=by
 obtain⟨⟨cur',c1,c2⟩,ho⟩:=TZ (GF rows) ts.length w g n D os R.blk;have hz:D.size=L.length:=by have:=hD.length_eq;simpa using this
 have hg:g<w.heap.size:=(Array.getElem?_eq_some_iff.1 R.blk).1;have hH:=holdsK_sortWorldK_c (GF rows) ts.length w g 0 (Array.range L.length) D n os R.holds hg (by rw[hz];simp);refine⟨ho,R.perm hn ho c1 c2 hD ?_⟩;have a0:∀i ∈ D.toList,i<L.length:=λi hi=>List.mem_range.1 (hD.mem_iff.1 hi);have a1:∀r ∈ D.toList.map (λi=>rows.getD i []),r.length=ts.length:=λr hr=>by obtain⟨i,hi,rfl⟩:=List.mem_map.1 hr;exact R.each _ (Ay (by rw[R.len];exact a0 i hi))
 apply List.ext_getElem?;intro j;by_cases hj:j<L.length*ts.length;have hk:0<ts.length:=by rcases Nat.eq_zero_or_pos ts.length with h|h;rw[h]at hj;omega;exact h
 have hd:j/ts.length<L.length:=Nat.div_lt_of_lt_mul (by rw[Nat.mul_comm];exact hj);have hd2:j/ts.length<D.toList.length:=by have:D.toList.length=D.size:=Array.length_toList;omega
 rw[CJ _ ts.length a1 j (by rw[List.length_map];exact hd2) (Nat.mod_lt _ hk),List.getElem?_take,if_pos hj,Array.getElem?_toList];have h1:=(hH j (by simpa[hz]using hj)).1;rw[Uy c1,Nat.zero_add,get_flatK _ _ _ _ (by rw[hz];exact hj)]at h1;rw[h1,Hs (a:=0) hd2];have e1:D[j/ts.length]! = D.toList.getD (j/ts.length) 0:=by simp[List.getD,show j/ts.length<D.size by omega]
 have hi:=a0 _ (Ay (d:=0) hd2);rw[e1,Lq (by rw[R.len];exact hi)];have h3:j%ts.length<(rows.getD (D.toList.getD (j/ts.length) 0) []).length:=by rw[R.each _ (Ay (by rw[R.len];exact hi))];exact Nat.mod_lt _ hk
 show some ((rows.getD (D.toList.getD (j/ts.length) 0) [])[j%ts.length]!)=some _;rw[getElem!_pos (rows.getD (D.toList.getD (j/ts.length) 0) []) (j%ts.length) h3];generalize rows.getD (D.toList.getD (j/ts.length) 0) []=r at *;simp[List.getD,h3];rw[List.getElem?_eq_none (by simp only[List.length_take];omega),List.getElem?_eq_none (by rw[Jp a1,List.length_map,Array.length_toList,hz];omega)]
end
end Go.Proofs.YthoidhehmmcgnaaGreat
