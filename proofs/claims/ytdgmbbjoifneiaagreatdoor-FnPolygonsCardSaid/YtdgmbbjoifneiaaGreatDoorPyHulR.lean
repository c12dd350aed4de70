import Derived.Test.YtdgmbbjoifneiaaGreatDoorPyHulP
import Derived.Test.YtdgmbbjoifneiaaGreatDoorPyHus
import Derived.Test.YtdgmbbjoifneiaaGreatDoorPyArea
namespace Go.Proofs.YtdgmbbjoifneiaaGreatDoor
set_option linter.unusedVariables false
set_option linter.unusedSimpArgs false
def fan (o:V2):List V2->Int
 | a::b::r=>AM o a b+fan o (b::r)
 | _=>0
theorem Ring.congr {S T:V2->Prop} {h:List V2} (r:Ring S h) (e:∀ x,S x↔T x):Ring T h where
 mem:=λ i hi=>(e _).1 (r.mem i hi)
 ext:=λ i hi x y hx hy h1 h2 h3=>r.ext i hi x y ((e _).2 hx) ((e _).2 hy) h1 h2 h3
 side:=λ i hi x hx=>r.side i hi x ((e _).2 hx)
 inj:=r.inj
theorem Band.congr {S T:V2->Prop} {p q:V2} {lo up:List V2} (B:Band S p q lo up) (e:∀ x,S x↔T x):Band T p q lo up where
 ends:=B.ends
 lo1:=B.lo1
 lo2:=B.lo2
 lo3:=λ x hx=>(e _).1 (B.lo3 x hx)
 lo4:=B.lo4.imp λ a b h x hx=>h x ((e _).2 hx)
 up1':=B.up1'
 up2:=B.up2
 up3:=λ x hx=>(e _).1 (B.up3 x hx)
 up4:=B.up4.imp λ a b h x hx=>h x ((e _).2 hx)
 low:=λ x hx=>B.low x ((e _).2 hx)
 high:=λ x hx=>B.high x ((e _).2 hx)
def Pj (h:List V2):Int:=fan (h.getD 0 (0,0)) h
structure HullOk (S:V2->Prop) (h:List V2):Prop where
 ring:Ring S h
 three:3<=h.length
 band:∃ p q lo up,Band S p q lo up/\Pj h=Fc p lo up/\(∀ x ∈ p::lo,x ∈ h)/\∀ x ∈ p::up,x ∈ h
theorem Band.restrict {S T:V2->Prop} {p q:V2} {lo up:List V2} (B:Band S p q lo up) (e:∀ x,T x->S x) (h1:∀ x ∈ p::lo,T x) (h2:∀ x ∈ p::up,T x):Band T p q lo up where
 ends:=B.ends
 lo1:=B.lo1
 lo2:=B.lo2
 lo3:=h1
 lo4:=B.lo4.imp λ a b h x hx=>h x (e _ hx)
 up1':=B.up1'
 up2:=B.up2
 up3:=h2
 up4:=B.up4.imp λ a b h x hx=>h x (e _ hx)
 low:=λ x hx=>B.low x (e _ hx)
 high:=λ x hx=>B.high x (e _ hx)
theorem Dk {R Q:V2->V2->Prop} {f:V2->V2} (h:∀ a b,R a b->Q (f a) (f b)):∀ {l:List V2},pairsP R l->pairsP Q (l.map f)
 | [],_=>trivial
 | [_],_=>trivial
 | a::b::r,⟨h1,h2⟩=>⟨h a b h1,Dk h (l:=b::r) h2⟩
theorem GE (t a b x:V2):AM (A9 t a) (A9 t b) (A9 t x)=AM a b x:=by unfold AM A9;grind
theorem Gh (t:V2):∀ (a:V2) (l:List V2),Bp ((a::l).map (A9 t))=Bp (a::l)+2*t.2*(((a::l).getLast (by simp)).1-a.1)
 | a,[]=>by simp [Bp]
 | a,b::r=>by
  have ih:=Gh t b r
  rw [List.getLast_cons (by simp)]
  simp only [List.map_cons,Bp] at ih ⊢
  rw [ih]
  unfold trI A9
  grind
theorem Band.shift {S T:V2->Prop} {p q:V2} {lo up:List V2} (B:Band S p q lo up) (t:V2) (e:∀ x,T x↔∃ y,S y/\x=A9 t y):Band T (A9 t p) (A9 t q) (lo.map (A9 t)) (up.map (A9 t))/\Fc (A9 t p) (lo.map (A9 t)) (up.map (A9 t))=Fc p lo up:=by
 have cm:∀ l:List V2,A9 t p::l.map (A9 t)=(p::l).map (A9 t):=λ l=>rfl
 have gl:∀ l:List V2,(A9 t p::l.map (A9 t)).getLast (by simp)=A9 t ((p::l).getLast (by simp)):=λ l=>by
  have:=List.getLast_map (f:=A9 t) (l:=p::l) (by simp)
  simpa using this
 refine ⟨⟨?_,Dk (λ a b h=>?_) B.lo1,?_,λ x hx=>?_,Dk (λ a b h=>?_) B.lo4,Dk (λ a b h=>?_) B.up1',?_,λ x hx=>?_,Dk (λ a b h=>?_) B.up4,λ x hx=>?_,λ x hx=>?_⟩,?_⟩
 ·have:=B.ends;simp only [A9];omega
 ·unfold up1 at h ⊢;simp only [A9];omega
 ·rw [gl,B.lo2]
 ·rw [cm] at hx
  obtain ⟨y,hy,rfl⟩:=List.mem_map.1 hx
  exact (e _).2 ⟨y,B.lo3 y hy,rfl⟩
 ·intro x hx
  obtain ⟨y,hy,rfl⟩:=(e _).1 hx
  rw [GE];exact h y hy
 ·unfold up1 at h ⊢;simp only [A9];omega
 ·rw [gl,B.up2]
 ·rw [cm] at hx
  obtain ⟨y,hy,rfl⟩:=List.mem_map.1 hx
  exact (e _).2 ⟨y,B.up3 y hy,rfl⟩
 ·intro x hx
  obtain ⟨y,hy,rfl⟩:=(e _).1 hx
  rw [GE];exact h y hy
 ·obtain ⟨y,hy,rfl⟩:=(e _).1 hx
  have:=B.low y hy;simp only [A9];omega
 ·obtain ⟨y,hy,rfl⟩:=(e _).1 hx
  have:=B.high y hy;simp only [A9];omega
 ·unfold Fc
  rw [cm,cm,Gh,Gh,B.lo2,B.up2]
  omega
theorem Band.area {S:V2->Prop} {h:List V2} (H:HullOk S h) {T:V2->Prop} (e:∀ x,T x->S x) (e2:∀ x ∈ h,T x):∃ p q lo up,Band T p q lo up/\Pj h=Fc p lo up:=by
 obtain ⟨p,q,lo,up,B,hd,m1,m2⟩:=H.band
 exact ⟨p,q,lo,up,B.restrict e (λ x hx=>e2 x (m1 x hx)) (λ x hx=>e2 x (m2 x hx)),hd⟩
theorem Qp (o:V2):∀ l:List V2,∀ n,n+1=l.length->fan o l=((List.range n).map λ i=>AM o (l.getD i (0,0)) (l.getD (i+1) (0,0))).sum
 | [],n,h=>by simp at h
 | [a],n,h=>by
  obtain rfl:n=0:=by simpa using h
  simp [fan]
 | a::b::r,0,h=>by simp at h
 | a::b::r,n+1,h=>by
  have ih:=Qp o (b::r) n (by simpa using h)
  rw [List.range_succ_eq_map,List.map_cons,List.sum_cons,List.map_map]
  simp only [fan,ih]
  rfl
end Go.Proofs.YtdgmbbjoifneiaaGreatDoor
