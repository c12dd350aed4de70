import Derived.Test.YtmedodfenejimaaGreatEvExD
import Derived.Test.YtmedodfenejimaaGreatEvScA
namespace Go.Proofs.YtmedodfenejimaaGreat
set_option linter.unusedVariables false
set_option linter.unusedSimpArgs false
open Go.RowKit
theorem NI {e:Nat} {ts:List Ty} {r:List Dat} (h0:hasRow [.sl e ts] r):[Dat.sl ((r.getD 0 (.int 0)).r)]=r:=by
 obtain ⟨_,_,rfl,q0,h1⟩:=h0.cons
 obtain ⟨_,rfl⟩:=Dat.has_sl q0
 obtain rfl:=h1.nil
 rfl
theorem Oj {e:Nat} {l:List (List Dat)} (h:Dat.has (.sl e [.int,.int]) (.sl l)):∃ vs:List V2,l=An vs:=by
 refine ⟨l.map λ r=>((r.getD 0 (.int 0)).n,(r.getD 1 (.int 0)).n),?_⟩
 have hr:=DR h
 unfold An
 rw [List.map_map]
 conv=>lhs;rw [← List.map_id l]
 refine List.map_congr_left λ r hm=>?_
 obtain ⟨k,hk,e1⟩:=List.getElem_of_mem hm
 have:=hr k hk
 simp only [List.getD,List.getElem?_eq_getElem hk,Option.getD_some,e1] at this
 obtain ⟨_,_,rfl,q0,h1⟩:=hasRow.cons this
 obtain ⟨_,rfl⟩:=Dat.has_int q0
 obtain ⟨_,_,rfl,q1,h2⟩:=h1.cons
 obtain ⟨_,rfl⟩:=Dat.has_int q1
 obtain rfl:=h2.nil
 rfl
theorem NJ {e e' : Nat} {l:List (List Dat)} (h:Dat.has (.sl e [.sl e' [.int,.int]]) (.sl l)):∃ vs:List (List V2),l=AW vs:=by
 have hr:=DR h
 have key:∀ (l:List (List Dat)),(∀ k,k<l.length->hasRow [.sl e' [.int,.int]] (l.getD k []))->∃ vs:List (List V2),l=AW vs:=by
  intro l
  induction l with
  | nil=>intro _;exact ⟨[],rfl⟩
  | cons r l ih=>
   intro h
   obtain ⟨vs,rfl⟩:=ih λ k hk=>by simpa using h (k+1) (by simpa using hk)
   have h0:=h 0 (by simp)
   simp only [List.getD_cons_zero] at h0
   obtain ⟨_,_,rfl,q0,h1⟩:=hasRow.cons h0
   obtain ⟨_,rfl⟩:=Dat.has_sl q0
   obtain rfl:=h1.nil
   obtain ⟨v,rfl⟩:=Oj q0
   exact ⟨v::vs,rfl⟩
 exact key l hr
theorem Ol {l:List V2} {k:Nat} (hk:k<l.length):(An l).getD k []=PC (l.getD k (0,0)):=by simp [An,List.getD,hk]
theorem BF {l:List V2} {k:Nat} (hk:k<l.length):(((An l).getD k []).getD 0 (.int 0)).n=(l.getD k (0,0)).1:=by rw [Ol hk];rfl
theorem Gc {l:List V2} {k:Nat} (hk:k<l.length):(((An l).getD k []).getD 1 (.int 0)).n=(l.getD k (0,0)).2:=by rw [Ol hk];rfl
theorem Ep {l:List V2} {k:Nat} (h:l.all A0=true) (hk:k<l.length):A0 (l.getD k (0,0))=true:=by
 simp only [List.getD,List.getElem?_eq_getElem hk,Option.getD_some]
 exact List.all_eq_true.1 h _ (List.getElem_mem hk)
end Go.Proofs.YtmedodfenejimaaGreat
namespace Go.Proofs.YtmedodfenejimaaGreat
set_option linter.unusedVariables false
set_option linter.unusedSimpArgs false
open Go.RowKit
theorem AL {l:List (List V2)} {k:Nat} (hk:k<l.length):(((AW l).getD k []).getD 0 (.int 0)).r=An (l.getD k []):=by simp [AW,List.getD,hk,Dat.r]
end Go.Proofs.YtmedodfenejimaaGreat
