import Derived.Test.YtndnhlhnjiopfaaGreatDi2HulP
import Derived.Test.YtndnhlhnjiopfaaGreatDi2Hus
import Derived.Test.YtndnhlhnjiopfaaGreatDi2Area
namespace Go.Proofs.YtndnhlhnjiopfaaGreat
set_option linter.unusedVariables false
set_option linter.unusedSimpArgs false
def fan (o:V2):List V2->Int
 | a::b::r=>Aa o a b+fan o (b::r)
 | _=>0
theorem Ring.congr {S T:V2->Prop} {h:List V2} (r:Ring S h) (e:∀ x,S x↔T x):Ring T h where
 mem:=λ i hi=>(e _).1 (r.mem i hi)
 ext:=λ i hi x y hx hy h1 h2 h3=>r.ext i hi x y ((e _).2 hx) ((e _).2 hy) h1 h2 h3
 side:=λ i hi x hx=>r.side i hi x ((e _).2 hx)
 inj:=r.inj
theorem Band.congr {S T:V2->Prop} {p q:V2} {lo up:List V2} (B:Band S p q lo up) (e:∀ x,S x↔T x):Band T p q lo up where
 ends:=B.ends
 lo1:=B.lo1
 lo2:=B.lo2
 lo3:=λ x hx=>(e _).1 (B.lo3 x hx)
 lo4:=B.lo4.imp λ a b h x hx=>h x ((e _).2 hx)
 up1':=B.up1'
 up2:=B.up2
 up3:=λ x hx=>(e _).1 (B.up3 x hx)
 up4:=B.up4.imp λ a b h x hx=>h x ((e _).2 hx)
 low:=λ x hx=>B.low x ((e _).2 hx)
 high:=λ x hx=>B.high x ((e _).2 hx)
def ZO (h:List V2):Int:=fan (h.getD 0 (0,0)) h
structure HullOk (S:V2->Prop) (h:List V2):Prop where
 ring:Ring S h
 three:3<=h.length
 band:∃ p q lo up,Band S p q lo up/\ZO h=Fz p lo up/\(∀ x ∈ p::lo,x ∈ h)/\∀ x ∈ p::up,x ∈ h
theorem Et {R Q:V2->V2->Prop} {f:V2->V2} (h:∀ a b,R a b->Q (f a) (f b)):∀ {l:List V2},pairsP R l->pairsP Q (l.map f)
 | [],_=>trivial
 | [_],_=>trivial
 | a::b::r,⟨h1,h2⟩=>⟨h a b h1,Et h (l:=b::r) h2⟩
theorem NS (t a b x:V2):Aa (EF t a) (EF t b) (EF t x)=Aa a b x:=by unfold Aa EF;grind
theorem IF (t:V2):∀ (a:V2) (l:List V2),Cx ((a::l).map (EF t))=Cx (a::l)+2*t.2*(((a::l).getLast (by simp)).1-a.1)
 | a,[]=>by simp [Cx]
 | a,b::r=>by
  have ih:=IF t b r
  rw [List.getLast_cons (by simp)]
  simp only [List.map_cons,Cx] at ih ⊢
  rw [ih]
  unfold trI EF
  grind
theorem Band.shift {S T:V2->Prop} {p q:V2} {lo up:List V2} (B:Band S p q lo up) (t:V2) (e:∀ x,T x↔∃ y,S y/\x=EF t y):Band T (EF t p) (EF t q) (lo.map (EF t)) (up.map (EF t))/\Fz (EF t p) (lo.map (EF t)) (up.map (EF t))=Fz p lo up:=by
 have cm:∀ l:List V2,EF t p::l.map (EF t)=(p::l).map (EF t):=λ l=>rfl
 have gl:∀ l:List V2,(EF t p::l.map (EF t)).getLast (by simp)=EF t ((p::l).getLast (by simp)):=λ l=>by
  have:=List.getLast_map (f:=EF t) (l:=p::l) (by simp)
  simpa using this
 refine ⟨⟨?_,Et (λ a b h=>?_) B.lo1,?_,λ x hx=>?_,Et (λ a b h=>?_) B.lo4,Et (λ a b h=>?_) B.up1',?_,λ x hx=>?_,Et (λ a b h=>?_) B.up4,λ x hx=>?_,λ x hx=>?_⟩,?_⟩
 ·have:=B.ends;simp only [EF];omega
 ·unfold up1 at h ⊢;simp only [EF];omega
 ·rw [gl,B.lo2]
 ·rw [cm] at hx
  obtain ⟨y,hy,rfl⟩:=List.mem_map.1 hx
  exact (e _).2 ⟨y,B.lo3 y hy,rfl⟩
 ·intro x hx
  obtain ⟨y,hy,rfl⟩:=(e _).1 hx
  rw [NS];exact h y hy
 ·unfold up1 at h ⊢;simp only [EF];omega
 ·rw [gl,B.up2]
 ·rw [cm] at hx
  obtain ⟨y,hy,rfl⟩:=List.mem_map.1 hx
  exact (e _).2 ⟨y,B.up3 y hy,rfl⟩
 ·intro x hx
  obtain ⟨y,hy,rfl⟩:=(e _).1 hx
  rw [NS];exact h y hy
 ·obtain ⟨y,hy,rfl⟩:=(e _).1 hx
  have:=B.low y hy;simp only [EF];omega
 ·obtain ⟨y,hy,rfl⟩:=(e _).1 hx
  have:=B.high y hy;simp only [EF];omega
 ·unfold Fz
  rw [cm,cm,IF,IF,B.lo2,B.up2]
  omega
end Go.Proofs.YtndnhlhnjiopfaaGreat
