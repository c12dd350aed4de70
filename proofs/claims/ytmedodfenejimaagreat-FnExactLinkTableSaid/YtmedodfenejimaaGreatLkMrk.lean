import Derived.Test.YtmedodfenejimaaGreatLkExD
namespace Go.Proofs.YtmedodfenejimaaGreat
set_option linter.unusedVariables false
set_option linter.unusedSimpArgs false
open Go.RowKit
theorem UJ {l:List (List Dat)} {i j:Nat} {r:List Dat} {d:Dat} (h:i<l.length):OY (l.set i r) i j d=l.set i (r.set j d):=by
 simp [OY,List.getD,h,List.set_set]
def Wx (c:Nat) (m:Int) (r:List Dat):List Dat:=Gd m (r.take c)++r.drop c
def cn (m:Int) (r:List Dat) (c:Nat):Int:=m+(BQ (r.take c):Int)
def mkR (k:Int) (j:Nat) (l:List (List Dat)) (m:Int) (c:Nat):List (List Dat):=(OU k j l).set j (Wx c m (l.getD j []))
theorem MM:∀ (m:Int) (r:List Dat),(Gd m r).length=r.length
 | _,[]=>rfl
 | m,d::r=>by simp [Gd,MM]
theorem MN:∀ (m:Int) (a b:List Dat),Gd m (a++b)=Gd m a++Gd (m+(BQ a:Int)) b
 | m,[],b=>by simp [Gd,BQ]
 | m,d::a,b=>by simp [Gd,BQ,MN,Int.add_assoc]
theorem LL:∀ (a b:List Dat),BQ (a++b)=BQ a+BQ b
 | [],b=>by simp [BQ]
 | d::a,b=>by simp [BQ,LL,Nat.add_assoc]
theorem SP {r:List Dat} {c:Nat} (h:c<r.length):r.take (c+1)=r.take c++[r.getD c (.int 0)]:=by
 rw [List.take_add_one];simp [List.getD,h]
theorem Wy (m:Int) (r:List Dat) (c:Nat):m<=cn m r c/\cn m r c<=m+(BQ r:Int):=by
 have:BQ r=BQ (r.take c)+BQ (r.drop c):=by rw [← LL,List.take_append_drop]
 unfold cn;omega
theorem OS {k m:Int} {j c:Nat} {l R R' : List (List Dat)} {d:Dat} (h:j<l.length) (hc:c<(l.getD j []).length) (e:R=mkR k j l m c) (hd:d=((l.getD j []).getD c (.int 0)).mk' (cn m (l.getD j []) c)) (hR:R'=OY R j c d):R'=mkR k j l m (c+1):=by
 rw [hR,e]
 unfold mkR
 rw [UJ (by rw [LO];exact h)]
 congr 1
 unfold Wx
 have hl:(Gd m ((l.getD j []).take c)).length=c:=by rw [MM,List.length_take];omega
 rw [List.set_append_right _ _ (by omega),hl,Nat.sub_self,SP hc,MN,hd]
 have e2:∀ r:List Dat,c<r.length->r.drop c=r.getD c (.int 0)::r.drop (c+1):=λ r h=>by
  rw [List.drop_eq_getElem_cons h];simp [List.getD,h]
 rw [e2 _ hc,List.set_cons_zero,List.append_assoc]
 simp [Gd,cn]
theorem U8 {ts:List Ty} {r:List Dat} (h:hasRow ts r):r.length=ts.length:=by
 induction ts generalizing r with
 | nil=>cases r <;> simp [hasRow] at h ⊢
 | cons t ts ih=>
  obtain ⟨d,ds,rfl,h1,h2⟩:=h.cons
  simp [ih h2]
theorem Bl {ts:List Ty} {r:List Dat} {c:Nat} {t:Ty} (h:hasRow ts r) (ht:ts[c]?=some t):Dat.has t (r.getD c (.int 0)):=by
 induction ts generalizing r c with
 | nil=>simp at ht
 | cons t' ts ih=>
  obtain ⟨d,ds,rfl,h1,h2⟩:=h.cons
  cases c with
  | zero=>simp at ht;subst ht;simpa using h1
  | succ c=>simpa using ih h2 (c:=c) (by simpa using ht)
theorem UK {ts:List Ty} {r:List Dat} {c:Nat} {t:Ty} (h:hasRow ts r) (ht:ts[c]?=some t):c<r.length:=by
 rw [U8 h];exact (List.getElem?_eq_some_iff.1 ht).1
section
variable {ts : List Ty} {k m : Int} {j c : Nat} {l R R' : List (List Dat)} {kx : Int}
theorem mk_bool (h:j<l.length) (hr:hasRow ts (l.getD j [])) (ht:ts[c]?=some .bool) (e:R=mkR k j l m c) (hk:kx=cn m (l.getD j []) c) (h0:0<=m) (hR:R'=OY R j c (.bool (Int.tmod kx 3 == 0))):R'=mkR k j l m (c+1):=by
 refine OS h (UK hr ht) e ?_ hR
 have:=Bl hr ht
 obtain ⟨b,hb⟩:=Dat.has_bool this
 have hn:=(Wy m (l.getD j []) c).1
 rw [hb,hk,Int.tmod_eq_emod_of_nonneg (by omega)]
 rfl
theorem mk_int (h:j<l.length) (hr:hasRow ts (l.getD j [])) (ht:ts[c]?=some .int) (e:R=mkR k j l m c) (hk:kx=cn m (l.getD j []) c) (hR:R'=OY R j c (.int kx)):R'=mkR k j l m (c+1):=by
 refine OS h (UK hr ht) e ?_ hR
 obtain ⟨b,hb⟩:=Dat.has_int (Bl hr ht)
 rw [hb,hk];rfl
end
section
variable {ts : List Ty} {k m : Int} {j c : Nat} {l : List (List Dat)} {kx : Int}
end
end Go.Proofs.YtmedodfenejimaaGreat
