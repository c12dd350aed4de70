import Derived.Test.YtmedodfenejimaaBwRkSt
import Derived.Test.YtmedodfenejimaaBwIntw
import Derived.Test.YtmedodfenejimaaBwIntS
import Derived.Test.YtmedodfenejimaaBwNum
namespace Go.Proofs.Ytmedodfenejimaa
set_option linter.unusedVariables false
set_option linter.unusedSimpArgs false
open Go.RowKit Go.Sort Go.Shelf
theorem len1' {us:List Value} (h:us.length=1):∃ u,us=[u]:=
 match us,h with
 | [_],_=>⟨_,rfl⟩
def sortI_con:Con:={ ι:=(List Int),pre:=λ i=>i.length<=1048576,args:=λ i=>[.one (.sl 3 [.int] (rI i))],mu:=[0],new:=λ i=>[rI (srtI i)],res:=λ i=>⟨true,[],[]⟩ }
def compI_con:Con:={ ι:=(List Int),pre:=λ i=>i.length<=1048576,args:=λ i=>[.one (.sl 3 [.int] (rI i))],mu:=[0],gone:=[0],new:=λ i=>[],res:=λ i=>⟨false,[none],[.own 3 [.int] (rI (dedI i))]⟩ }
theorem sortI_ok:sortI_con.Ok Try.prog 29 where
 enter:=⟨_,Try.func29,by decide,rfl⟩
 small:=λ _=>Nat.le_of_ble_eq_true rfl
 calls:=by
  intro (l:List Int) (hp:l.length<=1048576) F w us mb h
  obtain ⟨u0,rfl⟩:=len1' h.len
  obtain ⟨_,_,_,_,e1,e2,f1,m1⟩:=h.own 0 0 rfl
  cases e1;cases e2
  have hv:valD (sortI_con.args l) [u0]=[u0]:=rfl
  rw [hv]
  rcases fp_ints f1 with ⟨rfl,rfl,hbs⟩|⟨g,cap,cur,rfl,q1,q2,q3,q4,q5,hbs⟩
  ·refine Calls.mono (P:=Try.prog) (Any.slices_Sort_int_none layS none 0 w) ?_
   rintro e w' ⟨rfl,rfl⟩
   refine ⟨[],[],rfl,⟨rfl,List.nodup_nil,λ b hb=>by simp at hb,λ j q e ts rows u hj hq hd hu=>?_,rfl,rfl,rfl,Nat.le_refl _,λ b _ _=>rfl⟩⟩
   obtain rfl:j=0:=by have:=(List.getElem?_eq_some_iff.1 hq).1;have hl:sortI_con.mu.length=1:=rfl;omega
   cases hq
   cases hd
   cases hu
   have es:srtI []=[]:=List.eq_nil_of_length_eq_zero (srtI_len [])
   show Fp w' _ (.sl (rI (srtI []))) _ _
   rw [es]
   exact f1
  ·have hg:g<w.heap.size:=(Array.getElem?_eq_some_iff.1 q1).1
   refine Calls.mono (P:=Try.prog) (Any.slices_Sort_int layS g 0 cap l w (holdsI_of (cap:=cap) q1 q5) hg (by omega)) ?_
   rintro e w' ⟨rfl,n,os,rfl⟩
   obtain ⟨p1,p3,p4⟩:=putI_world w g n (srtI l).toArray os q1
   have hsz:(srtI l).toArray.size=l.length:=by rw [List.size_toArray,srtI_len]
   have hfp:=fpi_of (l:=srtI l) p1 (by rw [srtI_len];exact q2) q3 (by rw [putI_size];exact q4) (by
    rw [putI_take (by rw [hsz,q4];exact q2) (by rw [List.size_toArray];exact Nat.le_refl _)]
    simp)
   rw [srtI_len] at hfp
   refine ⟨[],[],rfl,⟨rfl,List.nodup_nil,λ b hb=>by simp at hb,λ j q e ts rows u hj hq hd hu=>?_,rfl,rfl,rfl,p4,λ b hb hm=>p3 b hb λ e=>hm 0 (by decide) (by rw [hbs];simp [e])⟩⟩
   obtain rfl:j=0:=by have:=(List.getElem?_eq_some_iff.1 hq).1;have hl:sortI_con.mu.length=1:=rfl;omega
   cases hq
   cases hd
   cases hu
   rw [hbs]
   exact hfp
theorem compI_ok:compI_con.Ok Try.prog 30 where
 enter:=⟨_,Try.func30,by decide,rfl⟩
 small:=λ _=>Nat.le_of_ble_eq_true rfl
 calls:=by
  intro (l:List Int) (hp:l.length<=1048576) F w us mb h
  obtain ⟨u0,rfl⟩:=len1' h.len
  obtain ⟨_,_,_,_,e1,e2,f1,m1⟩:=h.own 0 0 rfl
  cases e1;cases e2
  have hv:valD (compI_con.args l) [u0]=[u0]:=rfl
  rw [hv]
  have hfresh:∀ b ∈ mb 0,w.heap.size<=b∨∃ j,j ∈ compI_con.gone/\j<compI_con.mu.length/\b ∈ mb j:=λ b hb=>.inr ⟨0,by decide,by decide,hb⟩
  have hgone:∀ (w' : World) j p e ts rows u,j ∉ compI_con.gone->compI_con.mu[j]?=some p->((compI_con.args l).flatMap DA.cells)[p]?=some (.sl e ts rows)->[u0][p]?=some u->Fp w' (.sl e ts) (.sl ((compI_con.new l).getD j [])) u (mb j):=λ w' j p e ts rows u hj hq=>by
   exfalso
   have:=(List.getElem?_eq_some_iff.1 hq).1
   have hl:compI_con.mu.length=1:=rfl
   obtain rfl:j=0:=by omega
   exact hj (by decide)
  rcases fp_ints f1 with ⟨rfl,rfl,hbs⟩|⟨g,cap,cur,rfl,q1,q2,q3,q4,q5,hbs⟩
  ·refine Calls.mono (P:=Try.prog) (Any.slices_Compact_int_empty layC none 0 w) ?_
   rintro e w' ⟨rfl,rfl⟩
   exact ⟨[.slice none 0 0],mb 0,rfl,⟨⟨mb 0,[],by simp,f1,rfl⟩,m1,hfresh,hgone _,rfl,rfl,rfl,Nat.le_refl _,λ b _ _=>rfl⟩⟩
  ·have hg:g<w.heap.size:=(Array.getElem?_eq_some_iff.1 q1).1
   have hcc:=Any.slices_Compact_int layC g 0 cap l w (holdsI_of (cap:=cap) q1 q5) (by omega) q2
   rw [compactI] at hcc
   refine Calls.mono (P:=Try.prog) hcc ?_
   rintro e w' ⟨rfl,n,rfl⟩
   have hlen:=dedI_len l
   have hgr:putRow (Value.int .i64) (Sort.ahead w n) g 0 (dedI l++List.replicate (l.length-(dedI l).length) 0).toArray=grow (putRow (Value.int .i64) (Sort.ahead w n) g 0 (dedI l++List.replicate (l.length-(dedI l).length) 0).toArray) #[]:=(grow_empty _).symm
   rw [hgr]
   obtain ⟨p1,p3,p4⟩:=putI_world w g n (dedI l++List.replicate (l.length-(dedI l).length) 0).toArray #[] q1
   have hsz:(dedI l++List.replicate (l.length-(dedI l).length) (0:Int)).toArray.size=l.length:=by simp;omega
   have hfp:=fpi_of (l:=dedI l) p1 (by omega) q3 (by rw [putI_size];exact q4) (by
    rw [putI_take (by rw [hsz,q4];exact q2) (by rw [hsz];exact hlen)]
    simp)
   exact ⟨[.slice (some ⟨g,0,none⟩) (dedI l).length cap],mb 0,rfl,⟨⟨mb 0,[],by simp,by rw [hbs];exact hfp,rfl⟩,m1,hfresh,hgone _,rfl,rfl,rfl,p4,λ b hb hm=>p3 b hb λ e=>hm 0 (by decide) (by rw [hbs];simp [e])⟩⟩
end Go.Proofs.Ytmedodfenejimaa
