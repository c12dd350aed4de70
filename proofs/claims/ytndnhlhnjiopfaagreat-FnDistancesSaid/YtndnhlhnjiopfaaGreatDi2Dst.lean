import Derived.Test.YtndnhlhnjiopfaaGreatDi2Sgm
namespace Go.Proofs.YtndnhlhnjiopfaaGreat
set_option linter.unusedVariables false
set_option linter.unusedSimpArgs false
def PqB (k:Nat) (p:Pq) (a:Q2):Prop:=FrS k p.x a.1/\FrS k p.y a.2
def dq (x y:Q2):Rat:=(x.1-y.1)*(x.1-y.1)+(x.2-y.2)*(x.2-y.2)
theorem V0 (x y:Q2):0<=dq x y:=by
 have h1:=Cr (x.1-y.1)
 have h2:=Cr (x.2-y.2)
 unfold dq;grind
theorem Sf {x y:Q2} (h:dq x y=0):x=y:=by
 have h1:=Cr (x.1-y.1)
 have h2:=Cr (x.2-y.2)
 unfold dq at h
 have e1:=Hq (x:=x.1-y.1) (by grind)
 have e2:=Hq (x:=x.2-y.2) (by grind)
 ext <;> grind
theorem Sg (x y:Q2):dq x y=dq y x:=by unfold dq;grind
theorem W7 {p q:Pq} {a b:Q2} {j k:Nat} (hp:PqB j p a) (hq:PqB k q b) (h:4*(j+k+1)+1<=700):FrS (4*(j+k+1)+1) (sdQ p q) (dq a b):=by
 have h1:=hp.1.sub hq.1 (by omega)
 have h2:=hp.2.sub hq.2 (by omega)
 exact ((h1.mul h1 (by omega)).add (h2.mul h2 (by omega)) (by omega)).mono (by omega)
def inr (a b c:Q2):Rat:=(b.1-a.1)*(c.1-a.1)+(b.2-a.2)*(c.2-a.2)
theorem Xa {p q r:Pq} {a b c:Q2} {i j k:Nat} (hp:PqB i p a) (hq:PqB j q b) (hr:PqB k r c) (h:2*(2*i+j+k+2)+1<=700):FrS (2*(2*i+j+k+2)+1) (Cq p q r) (inr a b c):=
 (((hq.1.sub hp.1 (by omega)).mul (hr.1.sub hp.1 (by omega)) (by omega)).add ((hq.2.sub hp.2 (by omega)).mul (hr.2.sub hp.2 (by omega)) (by omega)) (by omega)).mono (by omega)
theorem W8 (x u v:Q2) (s t:Rat):dq x (atQ u v s)-dq x (atQ u v t)=(s-t)*((s+t)*dq u v-2*inr u x v):=by
 unfold dq atQ inr;simp only;grind
theorem T4 {d n s:Rat} (hd:0<d) (h0:0<=s) (h1:s<=1):0<=(s-Min.min 1 (Max.max 0 (n/d)))*((s+Min.min 1 (Max.max 0 (n/d)))*d-2*n):=by
 have hn:n/d*d=n:=Rat.div_mul_cancel (by grind)
 obtain ⟨w,hw⟩:∃ w,n/d=w:=⟨_,rfl⟩
 rw [hw] at hn ⊢
 have e2:Max.max 0 w=if 0<=w then w else 0:=rfl
 have e1:∀ z:Rat,Min.min 1 z=if 1<=z then 1 else z:=λ _=>rfl
 rw [e1,e2,← hn]
 by_cases c0:0<=w
 ·rw [if_pos c0]
  by_cases c1:1<=w
  ·rw [if_pos c1]
   have k1:=DM (show 0<=1-s by grind) (show 0<=2*w-(s+1) by grind)
   have k2:=DM k1 (Rat.le_of_lt hd)
   grind
  ·rw [if_neg c1]
   have k1:=Cr (s-w)
   have k2:=DM k1 (Rat.le_of_lt hd)
   grind
 ·rw [if_neg c0]
  rw [if_neg (show ¬ (1:Rat)<=0 by grind)]
  have k1:=DM h0 (show 0<=s-2*w by grind)
  have k2:=DM k1 (Rat.le_of_lt hd)
  grind
theorem V1 (w:Rat):0<=Min.min 1 (Max.max 0 w)/\Min.min 1 (Max.max 0 w)<=1:=by
 have e2:Max.max 0 w=if 0<=w then w else 0:=rfl
 have e1:∀ z:Rat,Min.min 1 z=if 1<=z then 1 else z:=λ _=>rfl
 rw [e1,e2]
 by_cases c0:0<=w
 ·rw [if_pos c0]
  by_cases c1:1<=w
  ·rw [if_pos c1];exact ⟨by grind,by grind⟩
  ·rw [if_neg c1];exact ⟨by grind,by grind⟩
 ·rw [if_neg c0,if_neg (show ¬ (1:Rat)<=0 by grind)];exact ⟨by grind,by grind⟩
def Ys (z:Rat) (x u v:Q2):Prop:=(∃ y,A0 y u v/\z=dq x y)/\∀ y,A0 y u v->z<=dq x y
theorem Si {p a b:Pq} {x u v:Q2} {i j:Nat} (hp:PqB i p x) (ha:PqB j a u) (hb:PqB j b v) (h:12*i+68*j+53<=700):∃ z,FrS (12*i+68*j+53) (BL p a b) z/\Ys z x u v:=by
 unfold BL
 split
 ·rename_i he
  obtain rfl:=SY.1 he
  have e1:u.1=v.1:=Option.some.inj (ha.1.1.symm.trans hb.1.1)
  have e2:u.2=v.2:=Option.some.inj (ha.2.1.symm.trans hb.2.1)
  have e:u=v:=by ext <;> assumption
  subst e
  refine ⟨_,(W7 hp ha (by omega)).mono (by omega),⟨u,Ge u u,rfl⟩,?_⟩
  rintro y ⟨s,-,-,rfl⟩
  rw [L8];exact Rat.le_refl
 ·rename_i hne
  have hd:=W7 ha hb (by omega)
  have hn:=Xa ha hp hb (by omega)
  have d0:dq u v≠0:=λ e=>hne (SY.2 (Wu (by rw [hd.1,e])))
  have dp:0<dq u v:=by have:=V0 u v;grind
  have ht:=(FrS.int (n:=1) (k:=0) (by decide) (by omega)).min ((FrS.int (n:=0) (k:=0) (by decide) (by omega)).max (hn.div hd d0 (by omega)))
  have ht:=ht.mono (k:=14*j+2*i+10) (by simp only [Nat.zero_max,Nat.max_eq_right (Nat.zero_le _)];omega)
  have hq:PqB (17*j+2*i+12) (SX a b (tQ p a b)) (atQ u v (Min.min 1 (Max.max 0 (inr u x v/dq u v)))):=
   ⟨(ha.1.add (ht.mul (hb.1.sub ha.1 (by omega)) (by omega)) (by omega)).mono (by omega),(ha.2.add (ht.mul (hb.2.sub ha.2 (by omega)) (by omega)) (by omega)).mono (by omega)⟩
  have hc:=V1 (inr u x v/dq u v)
  refine ⟨_,(W7 hp hq (by omega)).mono (by omega),⟨_,⟨_,hc.1,hc.2,rfl⟩,rfl⟩,?_⟩
  rintro y ⟨s,s0,s1,rfl⟩
  have k1:=W8 x u v s (Min.min 1 (Max.max 0 (inr u x v/dq u v)))
  have k2:=T4 (n:=inr u x v) dp s0 s1
  rw [← k1] at k2
  grind
theorem V3 {l:List V2} (h:∀ x ∈ l,(-8<=x.1/\x.1<=8)/\-8<=x.2/\x.2<=8) {k:Nat} (hk:k<l.length):PqB 3 (By l k) (qv (l.getD k (0,0))):=by
 have:=h _ (Pn hk)
 exact ⟨FrS.int (n:=(l.getD k (0,0)).1) (k:=3) (by omega) (by omega),FrS.int (n:=(l.getD k (0,0)).2) (k:=3) (by omega) (by omega)⟩
def OL (l:List V2) (i:Nat):Q2:=qv (l.getD i (0,0))
def T5 (l:List V2) (i:Nat):Q2:=qv (l.getD ((i+1)%l.length) (0,0))
theorem Xb {l:List V2} (h:∀ x ∈ l,(-8<=x.1/\x.1<=8)/\-8<=x.2/\x.2<=8) {p:Pq} {x:Q2} {i:Nat} (hp:PqB i p x) (hi:12*i+257<=700) (h0:0<l.length):∀ k,k<l.length->∃ z,FrS (12*i+257) (Iv l p k) z /\
  (∃ j y,j<l.length/\A0 y (OL l j) (T5 l j)/\z=dq x y)/\∀ j y,(j<k∨j=l.length-1)->A0 y (OL l j) (T5 l j)->z<=dq x y
 | 0,_=>by
  obtain ⟨z,z1,⟨y,y1,y2⟩,z3⟩:=Si hp (V3 h (show l.length-1<l.length by omega)) (V3 h (Nat.mod_lt (l.length-1+1) h0)) (by omega)
  exact ⟨z,z1.mono (by omega),⟨_,y,by omega,y1,y2⟩,λ j y hj hy=>z3 y (by
   have:j=l.length-1:=by omega
   subst this;exact hy)⟩
 | k+1,hk=>by
  obtain ⟨z,z1,z2,z3⟩:=Xb h hp hi h0 k (by omega)
  obtain ⟨w,w1,⟨y,y1,y2⟩,w3⟩:=Si hp (V3 h (show k<l.length by omega)) (V3 h (Nat.mod_lt (k+1) h0)) (by omega)
  have hm:=(z1.min (w1.mono (k:=12*i+257) (by omega))).mono (k:=12*i+257) (Nat.max_le.2 ⟨Nat.le_refl _,Nat.le_refl _⟩)
  have e:Min.min z w=if z<=w then z else w:=rfl
  refine ⟨_,hm,?_,?_⟩
  ·rw [e]
   split
   ·exact z2
   ·exact ⟨k,y,by omega,y1,y2⟩
  ·intro j y' hj hy
   rw [e]
   by_cases c:j<k∨j=l.length-1
   ·have:=z3 j y' c hy
    split <;> grind
   ·have hjk:j=k:=by omega
    subst hjk
    have:=w3 y' hy
    split <;> grind
theorem Jq {l:List V2} (hl:AU l=true) {j:Nat} {y:Q2} (hj:j<l.length) (hy:A0 y (OL l j) (T5 l j)):Jp l y:=QB hl hj hy
structure PolyD (l:List V2) (x:Q2) (z:Rat):Prop where
 nn:0<=z
 ins:Jp l x->z=0
 out:¬ Jp l x->(∃ j y,j<l.length/\A0 y (OL l j) (T5 l j)/\z=dq x y)/\∀ j y,j<l.length->A0 y (OL l j) (T5 l j)->z<=dq x y
theorem PolyD.zero {l:List V2} (hl:AU l=true) {x:Q2} {z:Rat} (h:PolyD l x z):z=0↔Jp l x:=by
 refine ⟨λ e=>?_,h.ins⟩
 apply Classical.byContradiction
 intro hn
 obtain ⟨⟨j,y,hj,hy,e2⟩,-⟩:=h.out hn
 have:=Sf (e2.symm.trans e)
 rw [this] at hn
 exact hn (Jq hl hj hy)
theorem RS {l:List V2} (hl:AU l=true) (h:∀ x ∈ l,(-8<=x.1/\x.1<=8)/\-8<=x.2/\x.2<=8) {p:Pq} {x:Q2} {i:Nat} (hp:PqB i p x) (hi:12*i+257<=700) (h20:i<=20):∃ z,FrS (12*i+257) (A7 l p) z/\PolyD l x z:=by
 obtain ⟨h3,-,hv⟩:=G6 hl
 have hc:=OH hv (p:=p) (x:=x) ⟨hp.1.mono h20,hp.2.mono h20⟩
 by_cases c:FU l p≥0
 ·rw [Pw c]
  exact ⟨_,(FrS.int (n:=0) (k:=0) (by decide) (by omega)).mono (by omega),by decide,λ _=>rfl,λ hn=>absurd (hc.1 c) hn⟩
 ·rw [Px c]
  obtain ⟨z,z1,⟨j,y,hj,hy,e⟩,z3⟩:=Xb h hp hi (by omega) (l.length-1) (by omega)
  exact ⟨z,z1,by rw [e];exact V0 _ _,λ hx=>absurd (hc.2 hx) c,λ _=>⟨⟨j,y,hj,hy,e⟩,λ j y hj hy=>z3 j y (by omega) hy⟩⟩
theorem YN {a b c d:Q2} (hn:¬ ∃ x,A0 x a b/\A0 x c d) {x y:Q2} (hx:A0 x a b) (hy:A0 y c d) {m:Rat} (h1:∀ y,A0 y c d->m<=dq a y) (h2:∀ y,A0 y c d->m<=dq b y) (h3:∀ x,A0 x a b->m<=dq x c) (h4:∀ x,A0 x a b->m<=dq x d):m<=dq x y:=by
 obtain ⟨s,s0,s1,rfl⟩:=hx
 obtain ⟨t,t0,t1,rfl⟩:=hy
 -- the square of the two parameters
 let f:Nat->Q2×Q2:=λ i=>if i=0 then ((0,0),(1,0)) else if i=1 then ((1,0),(1,1)) else if i=2 then ((1,1),(0,1)) else ((0,1),(0,0))
 have sq:∀ s t:Rat,(∀ i,i<4->0<=crR (f i).1 (f i).2 (s,t))↔(0<=s/\s<=1)/\0<=t/\t<=1:=λ s t=>by
  constructor
  ·intro h
   have e0:=h 0 (by omega)
   have e1:=h 1 (by omega)
   have e2:=h 2 (by omega)
   have e3:=h 3 (by omega)
   simp [f,crR] at e0 e1 e2 e3
   grind
  ·rintro ⟨⟨a0,a1⟩,b0,b1⟩ i hi
   have:i=0∨i=1∨i=2∨i=3:=by omega
   rcases this with rfl|rfl|rfl|rfl <;> simp [f,crR] <;> grind
 have bd:∀ s t:Rat,(0<=s/\s<=1)/\0<=t/\t<=1->(∃ i,i<4/\crR (f i).1 (f i).2 (s,t)=0)->m<=dq (atQ a b s) (atQ c d t):=λ s t hin=>by
  rintro ⟨i,hi,e⟩
  have:i=0∨i=1∨i=2∨i=3:=by omega
  rcases this with rfl|rfl|rfl|rfl <;> simp [f,crR] at e
  ·have:t=0:=by grind
   subst this;rw [Ps];exact h3 _ ⟨s,hin.1.1,hin.1.2,rfl⟩
  ·have:s=1:=by grind
   subst this;rw [Pt];exact h2 _ ⟨t,hin.2.1,hin.2.2,rfl⟩
  ·have:t=1:=by grind
   subst this;rw [Pt];exact h4 _ ⟨s,hin.1.1,hin.1.2,rfl⟩
  ·have:s=0:=by grind
   subst this;rw [Ps];exact h1 _ ⟨t,hin.2.1,hin.2.2,rfl⟩
 -- a way out of the square along which the distance does not grow
 have go:∀ s' t' : Rat,¬ ((0<=s'/\s'<=1)/\0<=t'/\t'<=1)->(∀ r:Rat,0<=r->r<=1->dq (atQ a b (s+r*(s' - s))) (atQ c d (t+r*(t' - t)))<=dq (atQ a b s) (atQ c d t))->m<=dq (atQ a b s) (atQ c d t):=λ s' t' hout hle=>by
  obtain ⟨z,⟨r,r0,r1,rfl⟩,z2,z3⟩:=OK (f:=f) (x:=(s,t)) (y:=(s',t')) 4 ((sq s t).2 ⟨⟨s0,s1⟩,t0,t1⟩)
  rcases z3 with e|z3
  ·rw [e] at z2
   exact absurd ((sq s' t').1 z2) hout
  ·have:=bd _ _ ((sq _ _).1 z2) z3
   exact Rat.le_trans this (hle r r0 r1)
 by_cases hdet:(b.1-a.1)*(d.2-c.2)-(b.2-a.2)*(d.1-c.1)=0
 ·-- parallel: a direction that keeps the difference
  by_cases hu:b.1-a.1=0/\b.2-a.2=0
  ·refine go 2 t (by grind) λ r r0 r1=>?_
   unfold dq atQ;simp only
   rw [hu.1,hu.2]
   grind
  ·-- move the second until it leaves: s + r (v . u), t + r (u . u)
   obtain ⟨U,hU⟩:∃ U,(b.1-a.1)*(b.1-a.1)+(b.2-a.2)*(b.2-a.2)=U:=⟨_,rfl⟩
   obtain ⟨V,hV⟩:∃ V,(b.1-a.1)*(d.1-c.1)+(b.2-a.2)*(d.2-c.2)=V:=⟨_,rfl⟩
   have hUp:0<U:=by
    have k1:=Cr (b.1-a.1)
    have k2:=Cr (b.2-a.2)
    rcases Classical.em (U=0) with e|e
    ·exact absurd ⟨Hq (x:=b.1-a.1) (by grind),Hq (x:=b.2-a.2) (by grind)⟩ hu
    ·grind
   refine go (s+2*(V/U)) (t+2) (by grind) λ r r0 r1=>?_
   have q:V/U*U=V:=Rat.div_mul_cancel (by grind)
   have k1:V/U*(b.1-a.1)=d.1-c.1:=by
    have:(V/U*(b.1-a.1)-(d.1-c.1))*U=0:=by grind
    rcases Rat.mul_eq_zero.1 this with h|h <;> grind
   have k2:V/U*(b.2-a.2)=d.2-c.2:=by
    have:(V/U*(b.2-a.2)-(d.2-c.2))*U=0:=by grind
    rcases Rat.mul_eq_zero.1 this with h|h <;> grind
   have e1:(atQ a b (s+r*(s+2*(V/U)-s))).1-(atQ c d (t+r*(t+2-t))).1=(atQ a b s).1-(atQ c d t).1:=by unfold atQ;simp only;grind
   have e2:(atQ a b (s+r*(s+2*(V/U)-s))).2-(atQ c d (t+r*(t+2-t))).2=(atQ a b s).2-(atQ c d t).2:=by unfold atQ;simp only;grind
   unfold dq
   rw [e1,e2];exact Rat.le_refl
 ·-- the lines cross
  obtain ⟨D,hD⟩:∃ D,(b.1-a.1)*(d.2-c.2)-(b.2-a.2)*(d.1-c.1)=D:=⟨_,rfl⟩
  rw [hD] at hdet
  obtain ⟨S,hS⟩:∃ S,((c.1-a.1)*(d.2-c.2)-(c.2-a.2)*(d.1-c.1))/D=S:=⟨_,rfl⟩
  obtain ⟨T,hT⟩:∃ T,((c.1-a.1)*(b.2-a.2)-(c.2-a.2)*(b.1-a.1))/D=T:=⟨_,rfl⟩
  have q1:S*D=(c.1-a.1)*(d.2-c.2)-(c.2-a.2)*(d.1-c.1):=by rw [← hS];exact Rat.div_mul_cancel hdet
  have q2:T*D=(c.1-a.1)*(b.2-a.2)-(c.2-a.2)*(b.1-a.1):=by rw [← hT];exact Rat.div_mul_cancel hdet
  have w1:a.1+S*(b.1-a.1)=c.1+T*(d.1-c.1):=by
   have:(a.1+S*(b.1-a.1)-(c.1+T*(d.1-c.1)))*D=0:=by grind
   rcases Rat.mul_eq_zero.1 this with h|h <;> grind
  have w2:a.2+S*(b.2-a.2)=c.2+T*(d.2-c.2):=by
   have:(a.2+S*(b.2-a.2)-(c.2+T*(d.2-c.2)))*D=0:=by grind
   rcases Rat.mul_eq_zero.1 this with h|h <;> grind
  refine go S T (λ hin=>hn ⟨atQ a b S,⟨S,hin.1.1,hin.1.2,rfl⟩,T,hin.2.1,hin.2.2,by unfold atQ;ext <;> assumption⟩) λ r r0 r1=>?_
  have e1:(atQ a b (s+r*(S-s))).1-(atQ c d (t+r*(T-t))).1=(1-r)*((atQ a b s).1-(atQ c d t).1):=by unfold atQ;simp only;grind
  have e2:(atQ a b (s+r*(S-s))).2-(atQ c d (t+r*(T-t))).2=(1-r)*((atQ a b s).2-(atQ c d t).2):=by unfold atQ;simp only;grind
  unfold dq
  rw [e1,e2]
  have k0:=V0 (atQ a b s) (atQ c d t)
  unfold dq at k0
  have k1:=DM (DM r0 (show 0<=2-r by grind)) k0
  grind
theorem Yt {l:List V2} (h:∀ x ∈ l,(-8<=x.1/\x.1<=8)/\-8<=x.2/\x.2<=8) {p q:Pq} {a b:Q2} (hp:PqB 7 p a) (hq:PqB 7 q b) {P Q:Rat} (hP:FrS 565 (A7 l p) P) (hQ:FrS 565 (A7 l q) Q):∀ k,k<=l.length->∃ z,FrS 565 (btT l p q k) z/\(z<=P/\z<=Q)/\(∀ j,j<k->∀ y,A0 y a b->z<=dq (OL l j) y)/\(z=P∨z=Q∨∃ j y,j<k/\A0 y a b/\z=dq (OL l j) y)
 | 0,_=>by
  have hm:=(hP.min hQ).mono (k:=565) (Nat.max_le.2 ⟨Nat.le_refl _,Nat.le_refl _⟩)
  have e:Min.min P Q=if P<=Q then P else Q:=rfl
  refine ⟨_,hm,?_,λ j hj=>by omega,?_⟩ <;> rw [e]
  ·split <;> grind
  ·split
   ·exact .inl rfl
   ·exact .inr (.inl rfl)
 | k+1,hk=>by
  obtain ⟨z,z1,z2,z3,z4⟩:=Yt h hp hq hP hQ k (by omega)
  obtain ⟨w,w1,⟨y,y1,y2⟩,w3⟩:=Si (V3 h (show k<l.length by omega)) hp hq (by omega)
  have hm:=(z1.min (w1.mono (k:=565) (by omega))).mono (k:=565) (Nat.max_le.2 ⟨Nat.le_refl _,Nat.le_refl _⟩)
  have e:Min.min z w=if z<=w then z else w:=rfl
  refine ⟨_,hm,?_,?_,?_⟩
  ·rw [e];split <;> grind
  ·intro j hj y' hy
   rw [e]
   by_cases c:j<k
   ·have:=z3 j c y' hy
    split <;> grind
   ·have hjk:j=k:=by omega
    subst hjk
    have:=w3 y' hy
    unfold OL
    split <;> grind
  ·rw [e]
   split
   ·rcases z4 with h|h|⟨j,y',h1,h2,h3⟩
    ·exact .inl h
    ·exact .inr (.inl h)
    ·exact .inr (.inr ⟨j,y',by omega,h2,h3⟩)
   ·exact .inr (.inr ⟨k,y,by omega,y1,y2⟩)
structure DistLaw (l:List V2) (p q m:Pq) (c:V2):Prop where
 gd:(btQ l p q).good=true
 ge:(A7 l m).good=true
 gp:(A7 l p).good=true
 de:Fr.cmp (btQ l p q) (A7 l m)<=0
 dp:Fr.cmp (btQ l p q) (A7 l p)<=0
 dz:(btQ l p q).sgn=0↔smB l p q=true
 ez:(A7 l m).sgn=0↔FU l m≥0
 gs:(BL p q (ptV c)).good=true/\(sdQ p q).good=true
 sd:Fr.cmp (BL p q (ptV c)) (sdQ p q)<=0
 eq:eqF (Cq p q q) (sdQ p q)=true
theorem V4 {l:List V2} (hl:AU l=true) (h:∀ x ∈ l,(-8<=x.1/\x.1<=8)/\-8<=x.2/\x.2<=8) {p q m:Pq} {a b:Q2} (hp:PqB 7 p a) (hq:PqB 7 q b) (hm:PqB 16 m (RR a b)) {c:V2} (hcv:(-8<=c.1/\c.1<=8)/\-8<=c.2/\c.2<=8):DistLaw l p q m c:=by
 obtain ⟨h3,-,hv⟩:=G6 hl
 obtain ⟨P,P1,P2⟩:=RS hl h hp (by omega) (by omega)
 obtain ⟨Q,Q1,Q2⟩:=RS hl h hq (by omega) (by omega)
 obtain ⟨E,E1,E2⟩:=RS hl h hm (by omega) (by omega)
 obtain ⟨Z,Z1,Z2,Z3,Z4⟩:=Yt h hp hq (P1.mono (by omega)) (Q1.mono (by omega)) l.length (Nat.le_refl _)
 have hsm:=YM hl (p:=p) (q:=q) (a:=a) (b:=b) ⟨hp.1.mono (by omega),hp.2.mono (by omega)⟩ ⟨hq.1.mono (by omega),hq.2.mono (by omega)⟩
 have hcm:=OH hv (p:=m) (x:=RR a b) ⟨hm.1.mono (by omega),hm.2.mono (by omega)⟩
 obtain ⟨D,D1,D2,D3,D4⟩:∃ D,FrS 565 (btQ l p q) D/\D<=E/\D<=P/\(D=0↔smB l p q=true):=by
  by_cases c:smB l p q=true
  ·rw [Vo c]
   exact ⟨_,(FrS.int (n:=0) (k:=0) (by decide) (by omega)).mono (by omega),E2.nn,P2.nn,⟨λ _=>c,λ _=>rfl⟩⟩
  ·rw [XW (by simpa using c)]
   have hno:¬ ∃ x,A0 x a b/\Jp l x:=λ hx=>c (hsm.2 hx)
   have na:¬ Jp l a:=λ hi=>hno ⟨a,Ge a b,hi⟩
   have nb:¬ Jp l b:=λ hi=>hno ⟨b,OJ (Ge b a),hi⟩
   have nm:¬ Jp l (RR a b):=λ hi=>hno ⟨_,Vz a b,hi⟩
   refine ⟨Z,Z1,?_,Z2.1,⟨λ hz=>?_,λ hc=>absurd hc c⟩⟩
   ·obtain ⟨⟨j,y,hj,hy,e⟩,-⟩:=E2.out nm
    rw [e]
    refine YN (a:=a) (b:=b) (c:=OL l j) (d:=T5 l j) (λ ⟨x,x1,x2⟩=>hno ⟨x,x1,Jq hl hj x2⟩) (Vz a b) hy ?_ ?_ ?_ ?_
    ·exact λ y hy=>Rat.le_trans Z2.1 ((P2.out na).2 j y hj hy)
    ·exact λ y hy=>Rat.le_trans Z2.2 ((Q2.out nb).2 j y hj hy)
    ·exact λ x hx=>by rw [Sg];exact Z3 j hj x hx
    ·exact λ x hx=>by rw [Sg];exact Z3 _ (NN hj) x hx
   ·exfalso
    rcases Z4 with e|e|⟨j,y,hj,hy,e⟩
    ·exact na ((P2.zero hl).1 (e.symm.trans hz))
    ·exact nb ((Q2.zero hl).1 (e.symm.trans hz))
    ·have e2:=Sf (e.symm.trans hz)
     rw [← e2] at hy
     exact hno ⟨_,hy,Jq hl hj (Ge _ _)⟩
 have hc:PqB 7 (ptV c) (qv c):=⟨FrS.int (n:=c.1) (k:=7) (by omega) (by omega),FrS.int (n:=c.2) (k:=7) (by omega) (by omega)⟩
 obtain ⟨S,S1,-,S3⟩:=Si hp hq hc (by omega)
 have sd:=W7 hp hq (by omega)
 have inn:=Xa hp hq hq (by omega)
 refine ⟨D1.good,E1.good,P1.good,?_,?_,?_,?_,⟨S1.good,sd.good⟩,?_,?_⟩
 ·rw [D1.cmp E1,Ks];exact D2
 ·rw [D1.cmp P1,Ks];exact D3
 ·rw [D1.sgn,F3];exact D4
 ·rw [E1.sgn,F3,hcm];exact E2.zero hl
 ·rw [S1.cmp sd,Ks];exact S3 _ (Ge _ _)
 ·rw [OC]
  apply Fr.ext
  rw [sd.1,inn.1]
  congr 1
  unfold inr dq;grind
end Go.Proofs.YtndnhlhnjiopfaaGreat
