import Derived.Test.YtndnhlhnjiopfaaGreatDi2Fr
namespace Go.Proofs.YtndnhlhnjiopfaaGreat
set_option linter.unusedVariables false
set_option linter.unusedSimpArgs false
abbrev Q2:=Rat×Rat
def crR (a b c:Q2):Rat:=(b.1-a.1)*(c.2-a.2)-(b.2-a.2)*(c.1-a.1)
def atQ (a b:Q2) (s:Rat):Q2:=(a.1+s*(b.1-a.1),a.2+s*(b.2-a.2))
def A0 (x a b:Q2):Prop:=∃ s:Rat,0<=s/\s<=1/\x=atQ a b s
def btw (x a b:Rat):Prop:=(a<=x/\x<=b)∨(b<=x/\x<=a)
def KM (c a b:Q2):Prop:=btw c.1 a.1 b.1/\btw c.2 a.2 b.2
def SU (a b c d:Q2):Prop:=
 (crR a b c=0/\KM c a b)∨(crR a b d=0/\KM d a b)∨(crR c d a=0/\KM a c d)∨(crR c d b=0/\KM b c d)∨(crR a b c*crR a b d<0/\crR c d a*crR c d b<0)
theorem RI {a b:Rat} (ha:0<a) (hb:0<b):0<a*b:=Rat.mul_pos ha hb
theorem DM {a b:Rat} (ha:0<=a) (hb:0<=b):0<=a*b:=Rat.mul_nonneg ha hb
theorem FE {a b:Rat} (ha:0<=a) (hb:0<b):0<=a/b:=by
 rw [Rat.div_def]
 exact Rat.mul_nonneg ha (Rat.le_of_lt (Rat.inv_pos.2 hb))
theorem Cp {a b:Rat} (h:a<=b) (hb:0<b):a/b<=1:=by
 have h1:0<=(b-a)/b:=FE (by grind) hb
 have e:(b-a)/b=1-a/b:=by
  have:b≠0:=by grind
  grind
 grind
theorem GZ {c a b:Q2} (h:crR a b c=0) (hs:KM c a b):A0 c a b:=by
 obtain ⟨a1,a2⟩:=a
 obtain ⟨b1,b2⟩:=b
 obtain ⟨c1,c2⟩:=c
 unfold crR at h
 obtain ⟨h1,h2⟩:=hs
 simp only at h h1 h2
 by_cases hx:a1=b1
 ·subst hx
  have hc:c1=a1:=by rcases h1 with h1|h1 <;> grind
  subst hc
  by_cases hy:a2=b2
  ·subst hy
   have hc:c2=a2:=by rcases h2 with h2|h2 <;> grind
   subst hc
   exact ⟨0,by grind,by grind,by unfold atQ;simp only;ext <;> grind⟩
  ·rcases h2 with ⟨p,q⟩|⟨p,q⟩
   ·have hd:0<b2-a2:=by grind
    refine ⟨(c2-a2)/(b2-a2),FE (by grind) hd,Cp (by grind) hd,?_⟩
    have:b2-a2≠0:=by grind
    unfold atQ;simp only;ext <;> grind
   ·have hd:0<a2-b2:=by grind
    refine ⟨(a2-c2)/(a2-b2),FE (by grind) hd,Cp (by grind) hd,?_⟩
    have:a2-b2≠0:=by grind
    unfold atQ;simp only;ext <;> grind
 ·rcases h1 with ⟨p,q⟩|⟨p,q⟩
  ·have hd:0<b1-a1:=by grind
   refine ⟨(c1-a1)/(b1-a1),FE (by grind) hd,Cp (by grind) hd,?_⟩
   have:b1-a1≠0:=by grind
   unfold atQ;simp only;ext <;> grind
  ·have hd:0<a1-b1:=by grind
   refine ⟨(a1-c1)/(a1-b1),FE (by grind) hd,Cp (by grind) hd,?_⟩
   have:a1-b1≠0:=by grind
   unfold atQ;simp only;ext <;> grind
theorem Vj {a b s:Rat} (h0:0<=s) (h1:s<=1):btw (a+s*(b-a)) a b:=by
 rcases (Rat.le_total:a<=b∨b<=a) with h|h
 ·left
  have k1:=DM h0 (show 0<=b-a by grind)
  have k2:=DM (show 0<=1-s by grind) (show 0<=b-a by grind)
  constructor <;> grind
 ·right
  have k1:=DM h0 (show 0<=a-b by grind)
  have k2:=DM (show 0<=1-s by grind) (show 0<=a-b by grind)
  constructor <;> grind
theorem Ae {c a b:Q2} (h:A0 c a b):crR a b c=0/\KM c a b:=by
 obtain ⟨s,h0,h1,rfl⟩:=h
 refine ⟨?_,Vj h0 h1,Vj h0 h1⟩
 unfold crR atQ;simp only;grind
theorem Eu {a b:Rat} (h:a*b<0):(0<a/\b<0)∨(a<0/\0<b):=by
 by_cases ha:0<a
 ·left
  refine ⟨ha,Classical.byContradiction λ hb=>?_⟩
  have:=DM (Rat.le_of_lt ha) (show 0<=b by grind)
  grind
 ·by_cases ha0:a=0
  ·subst ha0;grind
  ·right
   refine ⟨by grind,Classical.byContradiction λ hb=>?_⟩
   have:=DM (show 0<=-a by grind) (show 0<=-b by grind)
   grind
theorem Vk {a b c d:Q2} (h1:crR a b c*crR a b d<0) (h2:crR c d a*crR c d b<0):∃ x,A0 x a b/\A0 x c d:=by
 obtain ⟨u,hu⟩:∃ u,crR c d a=u:=⟨_,rfl⟩
 obtain ⟨v,hv⟩:∃ v,crR c d b=v:=⟨_,rfl⟩
 obtain ⟨y,hy⟩:∃ y,crR a b c=y:=⟨_,rfl⟩
 obtain ⟨z,hz⟩:∃ z,crR a b d=z:=⟨_,rfl⟩
 rw [hu,hv] at h2
 rw [hy,hz] at h1
 have e0:y-z=v-u:=by rw [← hu,← hv,← hy,← hz];unfold crR;grind
 have n1:u-v≠0:=by rcases Eu h2 with ⟨p,q⟩|⟨p,q⟩ <;> grind
 have n2:y-z≠0:=by rcases Eu h1 with ⟨p,q⟩|⟨p,q⟩ <;> grind
 have r1:0<=u/(u-v)/\u/(u-v)<=1:=by
  rcases Eu h2 with ⟨p,q⟩|⟨p,q⟩
  ·exact ⟨FE (by grind) (by grind),Cp (by grind) (by grind)⟩
  ·have e:u/(u-v)=(-u)/(v-u):=by
    have:v-u≠0:=by grind
    grind
   rw [e]
   exact ⟨FE (by grind) (by grind),Cp (by grind) (by grind)⟩
 have r2:0<=y/(y-z)/\y/(y-z)<=1:=by
  rcases Eu h1 with ⟨p,q⟩|⟨p,q⟩
  ·exact ⟨FE (by grind) (by grind),Cp (by grind) (by grind)⟩
  ·have e:y/(y-z)=(-y)/(z-y):=by
    have:z-y≠0:=by grind
    grind
   rw [e]
   exact ⟨FE (by grind) (by grind),Cp (by grind) (by grind)⟩
 refine ⟨atQ a b (u/(u-v)),⟨_,r1.1,r1.2,rfl⟩,y/(y-z),r2.1,r2.2,?_⟩
 have k1:(u-v)*(u/(u-v))=u:=by grind
 have k2:(y-z)*(y/(y-z))=y:=by grind
 obtain ⟨s,hs⟩:∃ s,u/(u-v)=s:=⟨_,rfl⟩
 obtain ⟨t,ht⟩:∃ t,y/(y-z)=t:=⟨_,rfl⟩
 rw [hs] at k1 ⊢
 rw [ht] at k2 ⊢
 have m1:(u-v)*(a.1+s*(b.1-a.1))=(u-v)*(c.1+t*(d.1-c.1)):=by
  have:(u-v)*(a.1+s*(b.1-a.1))=(u-v)*a.1+u*(b.1-a.1):=by grind
  have:(u-v)*(c.1+t*(d.1-c.1))=(u-v)*c.1-y*(d.1-c.1):=by grind
  rw [← hu,← hv,← hy] at *
  unfold crR at *
  grind
 have m2:(u-v)*(a.2+s*(b.2-a.2))=(u-v)*(c.2+t*(d.2-c.2)):=by
  have:(u-v)*(a.2+s*(b.2-a.2))=(u-v)*a.2+u*(b.2-a.2):=by grind
  have:(u-v)*(c.2+t*(d.2-c.2))=(u-v)*c.2-y*(d.2-c.2):=by grind
  rw [← hu,← hv,← hy] at *
  unfold crR at *
  grind
 have cancel:∀ p q:Rat,(u-v)*p=(u-v)*q->p=q:=λ p q h=>by
  have h3:(u-v)*(p-q)=0:=by grind
  rcases Rat.mul_eq_zero.1 h3 with h4|h4
  ·exact absurd h4 n1
  ·grind
 exact Prod.ext (cancel _ _ m1) (cancel _ _ m2)
theorem Wp {a b c d:Q2} (h:SU a b c d):∃ x,A0 x a b/\A0 x c d:=by
 have ends:∀ p q:Q2,A0 p p q/\A0 q p q:=λ p q=>
  ⟨⟨0,by grind,by grind,by unfold atQ;ext <;> simp only <;> grind⟩,⟨1,by grind,by grind,by unfold atQ;ext <;> simp only <;> grind⟩⟩
 rcases h with ⟨h,s⟩|⟨h,s⟩|⟨h,s⟩|⟨h,s⟩|⟨h1,h2⟩
 ·exact ⟨c,GZ h s,(ends c d).1⟩
 ·exact ⟨d,GZ h s,(ends c d).2⟩
 ·exact ⟨a,(ends a b).1,GZ h s⟩
 ·exact ⟨b,(ends a b).2,GZ h s⟩
 ·exact Vk h1 h2
theorem IG {c a b:Q2} (h:crR a b c=0) (hx:a.1≠b.1) (hs:btw c.1 a.1 b.1):A0 c a b:=by
 obtain ⟨a1,a2⟩:=a
 obtain ⟨b1,b2⟩:=b
 obtain ⟨c1,c2⟩:=c
 unfold crR at h
 simp only at h hx hs
 rcases hs with ⟨p,q⟩|⟨p,q⟩
 ·have hd:0<b1-a1:=by grind
  refine ⟨(c1-a1)/(b1-a1),FE (by grind) hd,Cp (by grind) hd,?_⟩
  have:b1-a1≠0:=by grind
  unfold atQ;simp only;ext <;> grind
 ·have hd:0<a1-b1:=by grind
  refine ⟨(a1-c1)/(a1-b1),FE (by grind) hd,Cp (by grind) hd,?_⟩
  have:a1-b1≠0:=by grind
  unfold atQ;simp only;ext <;> grind
theorem Ev {c a b:Q2} (h:crR a b c=0) (hx:a.2≠b.2) (hs:btw c.2 a.2 b.2):A0 c a b:=by
 obtain ⟨a1,a2⟩:=a
 obtain ⟨b1,b2⟩:=b
 obtain ⟨c1,c2⟩:=c
 unfold crR at h
 simp only at h hx hs
 rcases hs with ⟨p,q⟩|⟨p,q⟩
 ·have hd:0<b2-a2:=by grind
  refine ⟨(c2-a2)/(b2-a2),FE (by grind) hd,Cp (by grind) hd,?_⟩
  have:b2-a2≠0:=by grind
  unfold atQ;simp only;ext <;> grind
 ·have hd:0<a2-b2:=by grind
  refine ⟨(a2-c2)/(a2-b2),FE (by grind) hd,Cp (by grind) hd,?_⟩
  have:a2-b2≠0:=by grind
  unfold atQ;simp only;ext <;> grind
theorem L7 {x a b c d:Rat} (h1:btw x a b) (h2:btw x c d):btw c a b∨btw d a b∨(c≠d/\btw a c d):=by
 unfold btw at *
 by_cases hc:c=d
 ·subst hc;left;grind
 ·by_cases k1:(a<=c/\c<=b)∨(b<=c/\c<=a)
  ·exact .inl k1
  ·by_cases k2:(a<=d/\d<=b)∨(b<=d/\d<=a)
   ·exact .inr (.inl k2)
   ·right;right
    refine ⟨hc,?_⟩
    grind
theorem ZP (a b c d:Q2):(b.1-a.1)*crR c d a=(c.1-a.1)*(crR a b d-crR a b c)-(d.1-c.1)*crR a b c:=by unfold crR;grind
theorem ZQ (a b c d:Q2):(b.2-a.2)*crR c d a=(c.2-a.2)*(crR a b d-crR a b c)-(d.2-c.2)*crR a b c:=by unfold crR;grind
theorem Pp {a b c d:Q2} (hy:crR a b c=0) (hz:crR a b d=0) (h:a.1≠b.1):crR c d a=0:=by
 have e:=ZP a b c d
 rw [hy,hz] at e
 have e:(b.1-a.1)*crR c d a=0:=by grind
 rcases Rat.mul_eq_zero.1 e with k|k
 ·exact absurd (by grind) h
 ·exact k
theorem Pr {a b c d:Q2} (hy:crR a b c=0) (hz:crR a b d=0) (h:a.2≠b.2):crR c d a=0:=by
 have e:=ZQ a b c d
 rw [hy,hz] at e
 have e:(b.2-a.2)*crR c d a=0:=by grind
 rcases Rat.mul_eq_zero.1 e with k|k
 ·exact absurd (by grind) h
 ·exact k
theorem Vl {r y z:Rat} (r0:0<r) (r1:r<1) (e:(1-r)*y+r*z=0) (hy:y≠0):y*z<0:=by
 have e2:r*(y*z)=-((1-r)*(y*y)):=by grind
 have hyy:0<y*y:=by
  rcases (show 0<y∨0 < -y by grind) with h|h
  ·exact RI h h
  ·have:=RI h h;grind
 have:=RI (show 0<1-r by grind) hyy
 apply Classical.byContradiction
 intro hc
 have:=DM (Rat.le_of_lt r0) (show 0<=y*z by grind)
 grind
theorem SV {r y z:Rat} (r0:0<r) (e:(1-r)*y+r*z=0) (hy:y=0):z=0:=by
 subst hy
 have:r*z=0:=by grind
 rcases Rat.mul_eq_zero.1 this with h|h
 ·grind
 ·exact h
theorem Ps (p q:Q2):atQ p q 0=p:=by unfold atQ;ext <;> simp only <;> grind
theorem Pt (p q:Q2):atQ p q 1=q:=by unfold atQ;ext <;> simp only <;> grind
theorem L8 (p:Q2) (s:Rat):atQ p p s=p:=by unfold atQ;ext <;> simp only <;> grind
theorem NU (a b c d:Q2) (t:Rat):crR a b (atQ c d t)=(1-t)*crR a b c+t*crR a b d:=by unfold crR atQ;simp only;grind
theorem Wq {a b c d x:Q2} (h1:A0 x a b) (h2:A0 x c d):SU a b c d:=by
 have h1':=h1
 have h2':=h2
 obtain ⟨s,s0,s1,es⟩:=h1'
 obtain ⟨t,t0,t1,et⟩:=h2'
 by_cases hs0:s=0
 ·subst hs0;rw [Ps] at es;subst es;exact .inr (.inr (.inl (Ae h2)))
 by_cases hs1:s=1
 ·subst hs1;rw [Pt] at es;subst es;exact .inr (.inr (.inr (.inl (Ae h2))))
 by_cases ht0:t=0
 ·subst ht0;rw [Ps] at et;subst et;exact .inl (Ae h1)
 by_cases ht1:t=1
 ·subst ht1;rw [Pt] at et;subst et;exact .inr (.inl (Ae h1))
 have s0:0<s:=by clear h1 h2 es et;grind
 have s1:s<1:=by clear h1 h2 es et;grind
 have t0:0<t:=by clear h1 h2 es et;grind
 have t1:t<1:=by clear h1 h2 es et;grind
 have ey:(1-t)*crR a b c+t*crR a b d=0:=by
  rw [← NU,← et];exact (Ae h1).1
 have eu:(1-s)*crR c d a+s*crR c d b=0:=by
  rw [← NU,← es];exact (Ae h2).1
 by_cases hy:crR a b c=0
 ·have hz:=SV t0 ey hy
  by_cases hab1:a.1=b.1
  ·by_cases hab2:a.2=b.2
   ·have:a=b:=Prod.ext hab1 hab2
    subst this
    rw [L8] at es
    subst es
    exact .inr (.inr (.inl (Ae h2)))
   ·rcases L7 (Ae h1).2.2 (Ae h2).2.2 with h|h|⟨hne,h⟩
    ·exact .inl (Ae (Ev hy hab2 h))
    ·exact .inr (.inl (Ae (Ev hz hab2 h)))
    ·exact .inr (.inr (.inl (Ae (Ev (Pr hy hz hab2) hne h))))
  ·rcases L7 (Ae h1).2.1 (Ae h2).2.1 with h|h|⟨hne,h⟩
   ·exact .inl (Ae (IG hy hab1 h))
   ·exact .inr (.inl (Ae (IG hz hab1 h)))
   ·exact .inr (.inr (.inl (Ae (IG (Pp hy hz hab1) hne h))))
 ·by_cases hu:crR c d a=0
  ·have hv:=SV s0 eu hu
   by_cases hcd1:c.1=d.1
   ·by_cases hcd2:c.2=d.2
    ·have:c=d:=Prod.ext hcd1 hcd2
     subst this
     rw [L8] at et
     subst et
     exact .inl (Ae h1)
    ·rcases L7 (Ae h2).2.2 (Ae h1).2.2 with h|h|⟨hne,h⟩
     ·exact .inr (.inr (.inl (Ae (Ev hu hcd2 h))))
     ·exact .inr (.inr (.inr (.inl (Ae (Ev hv hcd2 h)))))
     ·exact absurd (Pr hu hv hcd2) hy
   ·exact absurd (Pp hu hv hcd1) hy
  ·exact .inr (.inr (.inr (.inr ⟨Vl t0 t1 ey hy,Vl s0 s1 eu hu⟩)))
theorem Vm {a b c d:Q2} : SU a b c d↔∃ x,A0 x a b/\A0 x c d:=⟨Wp,λ ⟨_,h1,h2⟩=>Wq h1 h2⟩
end Go.Proofs.YtndnhlhnjiopfaaGreat
