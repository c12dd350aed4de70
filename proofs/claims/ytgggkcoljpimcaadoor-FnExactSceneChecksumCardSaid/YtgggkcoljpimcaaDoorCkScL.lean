import Derived.Test.YtgggkcoljpimcaaDoorCkExD
import Derived.Test.YtgggkcoljpimcaaDoorCkScB
namespace Go.Proofs.YtgggkcoljpimcaaDoor
set_option linter.unusedVariables false
set_option linter.unusedSimpArgs false
open Go.RowKit
theorem KP {e:Nat} {ts:List Ty} {r:List Dat} (h0:hasRow [.sl e ts] r):[Dat.sl ((r.getD 0 (.int 0)).r)]=r:=by
 obtain ⟨_,_,rfl,q0,h1⟩:=h0.cons
 obtain ⟨_,rfl⟩:=Dat.has_sl q0
 obtain rfl:=h1.nil
 rfl
theorem Cv {e:Nat} {l:List (List Dat)} (h:Dat.has (.sl e [.int,.int]) (.sl l)):∃ vs:List V2,l=AA vs:=by
 refine ⟨l.map λ r=>((r.getD 0 (.int 0)).n,(r.getD 1 (.int 0)).n),?_⟩
 have hr:=F5 h
 unfold AA
 rw [List.map_map]
 conv=>lhs;rw [← List.map_id l]
 refine List.map_congr_left λ r hm=>?_
 obtain ⟨k,hk,e1⟩:=List.getElem_of_mem hm
 have:=hr k hk
 simp only [List.getD,List.getElem?_eq_getElem hk,Option.getD_some,e1] at this
 obtain ⟨_,_,rfl,q0,h1⟩:=hasRow.cons this
 obtain ⟨_,rfl⟩:=Dat.has_int q0
 obtain ⟨_,_,rfl,q1,h2⟩:=h1.cons
 obtain ⟨_,rfl⟩:=Dat.has_int q1
 obtain rfl:=h2.nil
 rfl
theorem H1 {e e' : Nat} {l:List (List Dat)} (h:Dat.has (.sl e [.sl e' [.int,.int]]) (.sl l)):∃ vs:List (List V2),l=AH vs:=by
 have hr:=F5 h
 have key:∀ (l:List (List Dat)),(∀ k,k<l.length->hasRow [.sl e' [.int,.int]] (l.getD k []))->∃ vs:List (List V2),l=AH vs:=by
  intro l
  induction l with
  | nil=>intro _;exact ⟨[],rfl⟩
  | cons r l ih=>
   intro h
   obtain ⟨vs,rfl⟩:=ih λ k hk=>by simpa using h (k+1) (by simpa using hk)
   have h0:=h 0 (by simp)
   simp only [List.getD_cons_zero] at h0
   obtain ⟨_,_,rfl,q0,h1⟩:=hasRow.cons h0
   obtain ⟨_,rfl⟩:=Dat.has_sl q0
   obtain rfl:=h1.nil
   obtain ⟨v,rfl⟩:=Cv q0
   exact ⟨v::vs,rfl⟩
 exact key l hr
theorem Jn {e1 e2 e3 e4:Nat} {ds:List Dat} (h0:hasRow [.int,.int,.int,.int,.sl e1 [.int,.int],.sl e2 [.sl e3 [.int,.int]],.sl e4 [.int,.int]] ds):∃ s:Scn,ds=Hf s:=by
 obtain ⟨_,_,rfl,q0,h1⟩:=h0.cons
 obtain ⟨a,rfl⟩:=Dat.has_int q0
 obtain ⟨_,_,rfl,q1,h2⟩:=h1.cons
 obtain ⟨b,rfl⟩:=Dat.has_int q1
 obtain ⟨_,_,rfl,q2,h3⟩:=h2.cons
 obtain ⟨c,rfl⟩:=Dat.has_int q2
 obtain ⟨_,_,rfl,q3,h4⟩:=h3.cons
 obtain ⟨d,rfl⟩:=Dat.has_int q3
 obtain ⟨_,_,rfl,q4,h5⟩:=h4.cons
 obtain ⟨_,rfl⟩:=Dat.has_sl q4
 obtain ⟨r,rfl⟩:=Cv q4
 obtain ⟨_,_,rfl,q5,h6⟩:=h5.cons
 obtain ⟨_,rfl⟩:=Dat.has_sl q5
 obtain ⟨o,rfl⟩:=H1 q5
 obtain ⟨_,_,rfl,q6,h7⟩:=h6.cons
 obtain ⟨_,rfl⟩:=Dat.has_sl q6
 obtain ⟨t,rfl⟩:=Cv q6
 obtain rfl:=h7.nil
 exact ⟨⟨(a,b),(c,d),r,o,t⟩,rfl⟩
end Go.Proofs.YtgggkcoljpimcaaDoor
namespace Go.Proofs.YtgggkcoljpimcaaDoor
set_option linter.unusedVariables false
set_option linter.unusedSimpArgs false
open Go.RowKit
theorem I4 {l:List V2} {k:Nat} (hk:k<l.length):(AA l).getD k []=LA (l.getD k (0,0)):=by simp [AA,List.getD,hk]
theorem Jo {l:List V2} {k:Nat} (hk:k<l.length):(((AA l).getD k []).getD 0 (.int 0)).n=(l.getD k (0,0)).1:=by rw [I4 hk];rfl
theorem Jp {l:List V2} {k:Nat} (hk:k<l.length):(((AA l).getD k []).getD 1 (.int 0)).n=(l.getD k (0,0)).2:=by rw [I4 hk];rfl
theorem Cw {l:List V2} {k:Nat} (h:l.all AJ=true) (hk:k<l.length):AJ (l.getD k (0,0))=true:=by
 simp only [List.getD,List.getElem?_eq_getElem hk,Option.getD_some]
 exact List.all_eq_true.1 h _ (List.getElem_mem hk)
end Go.Proofs.YtgggkcoljpimcaaDoor
namespace Go.Proofs.YtgggkcoljpimcaaDoor
set_option linter.unusedVariables false
set_option linter.unusedSimpArgs false
open Go.RowKit
theorem Kw {l:List (List V2)} {k:Nat} (hk:k<l.length):(((AH l).getD k []).getD 0 (.int 0)).r=AA (l.getD k []):=by simp [AH,List.getD,hk,Dat.r]
end Go.Proofs.YtgggkcoljpimcaaDoor
