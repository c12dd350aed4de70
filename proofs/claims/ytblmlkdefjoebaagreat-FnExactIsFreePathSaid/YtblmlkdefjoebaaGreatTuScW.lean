import Derived.Test.YtblmlkdefjoebaaGreatTuExD
import Derived.Test.YtblmlkdefjoebaaGreatTuScA
namespace Go.Proofs.YtblmlkdefjoebaaGreat
set_option linter.unusedVariables false
set_option linter.unusedSimpArgs false
open Go.RowKit
theorem one_row {e:Nat} {ts:List Ty} {r:List Dat} (h0:hasRow [.sl e ts] r):[Dat.sl ((r.getD 0 (.int 0)).r)]=r:=by
 obtain ⟨_,_,rfl,q0,h1⟩:=h0.cons
 obtain ⟨_,rfl⟩:=Dat.has_sl q0
 obtain rfl:=h1.nil
 rfl
theorem vecs_of_has {e:Nat} {l:List (List Dat)} (h:Dat.has (.sl e [.int,.int]) (.sl l)):∃ vs:List V2,l=vecsD vs:=by
 refine ⟨l.map fun r=>((r.getD 0 (.int 0)).n,(r.getD 1 (.int 0)).n),?_⟩
 have hr:=has_rows h
 unfold vecsD
 rw [List.map_map]
 conv=>lhs;rw [← List.map_id l]
 refine List.map_congr_left fun r hm=>?_
 obtain ⟨k,hk,e1⟩:=List.getElem_of_mem hm
 have:=hr k hk
 simp only [List.getD,List.getElem?_eq_getElem hk,Option.getD_some,e1] at this
 obtain ⟨_,_,rfl,q0,h1⟩:=hasRow.cons this
 obtain ⟨_,rfl⟩:=Dat.has_int q0
 obtain ⟨_,_,rfl,q1,h2⟩:=h1.cons
 obtain ⟨_,rfl⟩:=Dat.has_int q1
 obtain rfl:=h2.nil
 rfl
theorem areas_of_has {e e' : Nat} {l:List (List Dat)} (h:Dat.has (.sl e [.sl e' [.int,.int]]) (.sl l)):∃ vs:List (List V2),l=areasD vs:=by
 have hr:=has_rows h
 have key:∀ (l:List (List Dat)),(∀ k,k < l.length→hasRow [.sl e' [.int,.int]] (l.getD k []))→∃ vs:List (List V2),l=areasD vs:=by
  intro l
  induction l with
  | nil=>intro _;exact ⟨[],rfl⟩
  | cons r l ih=>
   intro h
   obtain ⟨vs,rfl⟩:=ih fun k hk=>by simpa using h (k+1) (by simpa using hk)
   have h0:=h 0 (by simp)
   simp only [List.getD_cons_zero] at h0
   obtain ⟨_,_,rfl,q0,h1⟩:=hasRow.cons h0
   obtain ⟨_,rfl⟩:=Dat.has_sl q0
   obtain rfl:=h1.nil
   obtain ⟨v,rfl⟩:=vecs_of_has q0
   exact ⟨v::vs,rfl⟩
 exact key l hr
theorem vecsD_at {l:List V2} {k:Nat} (hk:k < l.length):(vecsD l).getD k []=vecD (l.getD k (0,0)):=by simp [vecsD,List.getD,hk]
theorem vecs_x {l:List V2} {k:Nat} (hk:k < l.length):(((vecsD l).getD k []).getD 0 (.int 0)).n=(l.getD k (0,0)).1:=by rw [vecsD_at hk];rfl
theorem vecs_y {l:List V2} {k:Nat} (hk:k < l.length):(((vecsD l).getD k []).getD 1 (.int 0)).n=(l.getD k (0,0)).2:=by rw [vecsD_at hk];rfl
theorem allVec_getD {l:List V2} {k:Nat} (h:l.all isVec=true) (hk:k < l.length):isVec (l.getD k (0,0))=true:=by
 simp only [List.getD,List.getElem?_eq_getElem hk,Option.getD_some]
 exact List.all_eq_true.1 h _ (List.getElem_mem hk)
end Go.Proofs.YtblmlkdefjoebaaGreat
namespace Go.Proofs.YtblmlkdefjoebaaGreat
set_option linter.unusedVariables false
set_option linter.unusedSimpArgs false
open Go.RowKit
theorem areasD_at {l:List (List V2)} {k:Nat} (hk:k < l.length):(((areasD l).getD k []).getD 0 (.int 0)).r=vecsD (l.getD k []):=by simp [areasD,List.getD,hk,Dat.r]
end Go.Proofs.YtblmlkdefjoebaaGreat
