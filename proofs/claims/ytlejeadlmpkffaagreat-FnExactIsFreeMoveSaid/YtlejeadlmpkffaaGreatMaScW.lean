import Derived.Test.YtlejeadlmpkffaaGreatMaExD
import Derived.Test.YtlejeadlmpkffaaGreatMaScA
namespace Go.Proofs.YtlejeadlmpkffaaGreat
set_option linter.unusedVariables false
set_option linter.unusedSimpArgs false
open Go.RowKit
def scnSz (s:Scn):Prop:=s.robot.length<=1048576/\s.obst.length<=1048576/\(∀ x ∈ s.obst,x.length<=1048576)/\s.tables.length<=1048576
theorem one_row {e:Nat} {ts:List Ty} {r:List Dat} (h0:hasRow [.sl e ts] r):[Dat.sl ((r.getD 0 (.int 0)).r)]=r:=by
 obtain ⟨_,_,rfl,q0,h1⟩:=h0.cons
 obtain ⟨_,rfl⟩:=Dat.has_sl q0
 obtain rfl:=h1.nil
 rfl
theorem scnD_sz {s:Scn} (h:szRow (scnD s)<=1048576):scnSz s:=by
 simp only [scnD,szRow,Dat.sz,vecsD_length,areasD_length] at h
 refine ⟨by omega,by omega,λ x hx=>?_,by omega⟩
 obtain ⟨k,hk,e⟩:=List.getElem_of_mem hx
 have:=szRows_getD (a:=areasD s.obst) (k:=k) (by rw [areasD_length];exact hk)
 have e2:(areasD s.obst).getD k []=[.sl (vecsD x)]:=by simp [areasD,List.getD,hk,e]
 rw [e2] at this
 simp only [szRow,Dat.sz,vecsD_length] at this
 omega
theorem vecs_of_has {e:Nat} {l:List (List Dat)} (h:Dat.has (.sl e [.int,.int]) (.sl l)):∃ vs:List V2,l=vecsD vs:=by
 refine ⟨l.map λ r=>((r.getD 0 (.int 0)).n,(r.getD 1 (.int 0)).n),?_⟩
 have hr:=has_rows h
 unfold vecsD
 rw [List.map_map]
 conv=>lhs;rw [← List.map_id l]
 refine List.map_congr_left λ r hm=>?_
 obtain ⟨k,hk,e1⟩:=List.getElem_of_mem hm
 have:=hr k hk
 simp only [List.getD,List.getElem?_eq_getElem hk,Option.getD_some,e1] at this
 obtain ⟨_,_,rfl,q0,h1⟩:=hasRow.cons this
 obtain ⟨_,rfl⟩:=Dat.has_int q0
 obtain ⟨_,_,rfl,q1,h2⟩:=h1.cons
 obtain ⟨_,rfl⟩:=Dat.has_int q1
 obtain rfl:=h2.nil
 rfl
theorem areas_of_has {e e' : Nat} {l:List (List Dat)} (h:Dat.has (.sl e [.sl e' [.int,.int]]) (.sl l)):∃ vs:List (List V2),l=areasD vs:=by
 have hr:=has_rows h
 have key:∀ (l:List (List Dat)),(∀ k,k<l.length->hasRow [.sl e' [.int,.int]] (l.getD k []))->∃ vs:List (List V2),l=areasD vs:=by
  intro l
  induction l with
  | nil=>intro _;exact ⟨[],rfl⟩
  | cons r l ih=>
   intro h
   obtain ⟨vs,rfl⟩:=ih λ k hk=>by simpa using h (k+1) (by simpa using hk)
   have h0:=h 0 (by simp)
   simp only [List.getD_cons_zero] at h0
   obtain ⟨_,_,rfl,q0,h1⟩:=hasRow.cons h0
   obtain ⟨_,rfl⟩:=Dat.has_sl q0
   obtain rfl:=h1.nil
   obtain ⟨v,rfl⟩:=vecs_of_has q0
   exact ⟨v::vs,rfl⟩
 exact key l hr
theorem scn_of_has {e1 e2 e3 e4:Nat} {ds:List Dat} (h0:hasRow [.int,.int,.int,.int,.sl e1 [.int,.int],.sl e2 [.sl e3 [.int,.int]],.sl e4 [.int,.int]] ds):∃ s:Scn,ds=scnD s:=by
 obtain ⟨_,_,rfl,q0,h1⟩:=h0.cons
 obtain ⟨a,rfl⟩:=Dat.has_int q0
 obtain ⟨_,_,rfl,q1,h2⟩:=h1.cons
 obtain ⟨b,rfl⟩:=Dat.has_int q1
 obtain ⟨_,_,rfl,q2,h3⟩:=h2.cons
 obtain ⟨c,rfl⟩:=Dat.has_int q2
 obtain ⟨_,_,rfl,q3,h4⟩:=h3.cons
 obtain ⟨d,rfl⟩:=Dat.has_int q3
 obtain ⟨_,_,rfl,q4,h5⟩:=h4.cons
 obtain ⟨_,rfl⟩:=Dat.has_sl q4
 obtain ⟨r,rfl⟩:=vecs_of_has q4
 obtain ⟨_,_,rfl,q5,h6⟩:=h5.cons
 obtain ⟨_,rfl⟩:=Dat.has_sl q5
 obtain ⟨o,rfl⟩:=areas_of_has q5
 obtain ⟨_,_,rfl,q6,h7⟩:=h6.cons
 obtain ⟨_,rfl⟩:=Dat.has_sl q6
 obtain ⟨t,rfl⟩:=vecs_of_has q6
 obtain rfl:=h7.nil
 exact ⟨⟨(a,b),(c,d),r,o,t⟩,rfl⟩
def movV (dx dy:Int) (p:V2):V2:=(IntKind.i64.wrap (p.1+dx),IntKind.i64.wrap (p.2+dy))
def movL (l:List V2) (dx dy:Int):List V2:=l.map (movV dx dy)
theorem vecsD_at {l:List V2} {k:Nat} (hk:k<l.length):(vecsD l).getD k []=vecD (l.getD k (0,0)):=by simp [vecsD,List.getD,hk]
theorem vecs_x {l:List V2} {k:Nat} (hk:k<l.length):(((vecsD l).getD k []).getD 0 (.int 0)).n=(l.getD k (0,0)).1:=by rw [vecsD_at hk];rfl
theorem vecs_y {l:List V2} {k:Nat} (hk:k<l.length):(((vecsD l).getD k []).getD 1 (.int 0)).n=(l.getD k (0,0)).2:=by rw [vecsD_at hk];rfl
theorem movL_take {l:List V2} {k:Nat} {dx dy:Int} (hk:k<l.length):movL (l.take (k+1)) dx dy=movL (l.take k) dx dy++[movV dx dy (l.getD k (0,0))]:=by
 unfold movL
 rw [take_snoc' l (0,0) k hk,List.map_append]
 rfl
theorem movL_succ {l:List V2} {k:Nat} {dx dy:Int} (hk:k<l.length):vecsD (movL (l.take k) dx dy)++[[Dat.int (IntKind.i64.wrap ((((vecsD l).getD k []).getD 0 (.int 0)).n+dx)),Dat.int (IntKind.i64.wrap ((((vecsD l).getD k []).getD 1 (.int 0)).n+dy))]]=vecsD (movL (l.take (k+1)) dx dy):=by
 rw [vecs_x hk,vecs_y hk,movL_take hk]
 simp [vecsD,movV,vecD]
theorem movL_len (l:List V2) (dx dy:Int):(movL l dx dy).length=l.length:=by simp [movL]
theorem allVec_getD {l:List V2} {k:Nat} (h:l.all isVec=true) (hk:k<l.length):isVec (l.getD k (0,0))=true:=by
 simp only [List.getD,List.getElem?_eq_getElem hk,Option.getD_some]
 exact List.all_eq_true.1 h _ (List.getElem_mem hk)
end Go.Proofs.YtlejeadlmpkffaaGreat
namespace Go.Proofs.YtlejeadlmpkffaaGreat
set_option linter.unusedVariables false
set_option linter.unusedSimpArgs false
open Go.RowKit
theorem areasD_at {l:List (List V2)} {k:Nat} (hk:k<l.length):(((areasD l).getD k []).getD 0 (.int 0)).r=vecsD (l.getD k []):=by simp [areasD,List.getD,hk,Dat.r]
end Go.Proofs.YtlejeadlmpkffaaGreat
