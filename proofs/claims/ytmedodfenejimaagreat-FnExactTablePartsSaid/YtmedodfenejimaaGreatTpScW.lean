import Derived.Test.YtmedodfenejimaaGreatTpExD
import Derived.Test.YtmedodfenejimaaGreatTpScA
namespace Go.Proofs.YtmedodfenejimaaGreat
set_option linter.unusedVariables false
set_option linter.unusedSimpArgs false
open Go.RowKit
def Ct (s:Scn):Prop:=s.robot.length<=1048576/\s.obst.length<=1048576/\(∀ x ∈ s.obst,x.length<=1048576)/\s.tables.length<=1048576
theorem PR {e:Nat} {ts:List Ty} {r:List Dat} (h0:hasRow [.sl e ts] r):[Dat.sl ((r.getD 0 (.int 0)).r)]=r:=by
 obtain ⟨_,_,rfl,q0,h1⟩:=h0.cons
 obtain ⟨_,rfl⟩:=Dat.has_sl q0
 obtain rfl:=h1.nil
 rfl
theorem Ye {s:Scn} (h:AE (Dc s)<=1048576):Ct s:=by
 simp only [Dc,AE,Dat.sz,Ar,Bq] at h
 refine ⟨by omega,by omega,λ x hx=>?_,by omega⟩
 obtain ⟨k,hk,e⟩:=List.getElem_of_mem hx
 have:=Ei (a:=Aa s.obst) (k:=k) (by rw [Bq];exact hk)
 have e2:(Aa s.obst).getD k []=[.sl (AJ x)]:=by simp [Aa,List.getD,hk,e]
 rw [e2] at this
 simp only [AE,Dat.sz,Ar] at this
 omega
theorem Is {e:Nat} {l:List (List Dat)} (h:Dat.has (.sl e [.int,.int]) (.sl l)):∃ vs:List V2,l=AJ vs:=by
 refine ⟨l.map λ r=>((r.getD 0 (.int 0)).n,(r.getD 1 (.int 0)).n),?_⟩
 have hr:=Bh h
 unfold AJ
 rw [List.map_map]
 conv=>lhs;rw [← List.map_id l]
 refine List.map_congr_left λ r hm=>?_
 obtain ⟨k,hk,e1⟩:=List.getElem_of_mem hm
 have:=hr k hk
 simp only [List.getD,List.getElem?_eq_getElem hk,Option.getD_some,e1] at this
 obtain ⟨_,_,rfl,q0,h1⟩:=hasRow.cons this
 obtain ⟨_,rfl⟩:=Dat.has_int q0
 obtain ⟨_,_,rfl,q1,h2⟩:=h1.cons
 obtain ⟨_,rfl⟩:=Dat.has_int q1
 obtain rfl:=h2.nil
 rfl
theorem Po {e e' : Nat} {l:List (List Dat)} (h:Dat.has (.sl e [.sl e' [.int,.int]]) (.sl l)):∃ vs:List (List V2),l=Aa vs:=by
 have hr:=Bh h
 have key:∀ (l:List (List Dat)),(∀ k,k<l.length->hasRow [.sl e' [.int,.int]] (l.getD k []))->∃ vs:List (List V2),l=Aa vs:=by
  intro l
  induction l with
  | nil=>intro _;exact ⟨[],rfl⟩
  | cons r l ih=>
   intro h
   obtain ⟨vs,rfl⟩:=ih λ k hk=>by simpa using h (k+1) (by simpa using hk)
   have h0:=h 0 (by simp)
   simp only [List.getD_cons_zero] at h0
   obtain ⟨_,_,rfl,q0,h1⟩:=hasRow.cons h0
   obtain ⟨_,rfl⟩:=Dat.has_sl q0
   obtain rfl:=h1.nil
   obtain ⟨v,rfl⟩:=Is q0
   exact ⟨v::vs,rfl⟩
 exact key l hr
theorem TA {e1 e2 e3 e4:Nat} {ds:List Dat} (h0:hasRow [.int,.int,.int,.int,.sl e1 [.int,.int],.sl e2 [.sl e3 [.int,.int]],.sl e4 [.int,.int]] ds):∃ s:Scn,ds=Dc s:=by
 obtain ⟨_,_,rfl,q0,h1⟩:=h0.cons
 obtain ⟨a,rfl⟩:=Dat.has_int q0
 obtain ⟨_,_,rfl,q1,h2⟩:=h1.cons
 obtain ⟨b,rfl⟩:=Dat.has_int q1
 obtain ⟨_,_,rfl,q2,h3⟩:=h2.cons
 obtain ⟨c,rfl⟩:=Dat.has_int q2
 obtain ⟨_,_,rfl,q3,h4⟩:=h3.cons
 obtain ⟨d,rfl⟩:=Dat.has_int q3
 obtain ⟨_,_,rfl,q4,h5⟩:=h4.cons
 obtain ⟨_,rfl⟩:=Dat.has_sl q4
 obtain ⟨r,rfl⟩:=Is q4
 obtain ⟨_,_,rfl,q5,h6⟩:=h5.cons
 obtain ⟨_,rfl⟩:=Dat.has_sl q5
 obtain ⟨o,rfl⟩:=Po q5
 obtain ⟨_,_,rfl,q6,h7⟩:=h6.cons
 obtain ⟨_,rfl⟩:=Dat.has_sl q6
 obtain ⟨t,rfl⟩:=Is q6
 obtain rfl:=h7.nil
 exact ⟨⟨(a,b),(c,d),r,o,t⟩,rfl⟩
theorem RX {l:List V2} {k:Nat} (hk:k<l.length):(AJ l).getD k []=WA (l.getD k (0,0)):=by simp [AJ,List.getD,hk]
theorem Dk {l:List V2} {k:Nat} (hk:k<l.length):(((AJ l).getD k []).getD 0 (.int 0)).n=(l.getD k (0,0)).1:=by rw [RX hk];rfl
theorem Dl {l:List V2} {k:Nat} (hk:k<l.length):(((AJ l).getD k []).getD 1 (.int 0)).n=(l.getD k (0,0)).2:=by rw [RX hk];rfl
theorem Dw {l:List V2} {k:Nat} (h:l.all A2=true) (hk:k<l.length):A2 (l.getD k (0,0))=true:=by
 simp only [List.getD,List.getElem?_eq_getElem hk,Option.getD_some]
 exact List.all_eq_true.1 h _ (List.getElem_mem hk)
end Go.Proofs.YtmedodfenejimaaGreat
namespace Go.Proofs.YtmedodfenejimaaGreat
set_option linter.unusedVariables false
set_option linter.unusedSimpArgs false
open Go.RowKit
theorem Oz {l:List (List V2)} {k:Nat} (hk:k<l.length):(((Aa l).getD k []).getD 0 (.int 0)).r=AJ (l.getD k []):=by simp [Aa,List.getD,hk,Dat.r]
end Go.Proofs.YtmedodfenejimaaGreat
