import Derived.Test.YtkffpiaagjcmpaaGreatFmExD
namespace Go.Proofs.YtkffpiaagjcmpaaGreat
set_option linter.unusedVariables false
set_option linter.unusedSimpArgs false
abbrev Q2:=Rat×Rat
def crR (a b c:Q2):Rat:=(b.1-a.1)*(c.2-a.2)-(b.2-a.2)*(c.1-a.1)
def atQ (a b:Q2) (s:Rat):Q2:=(a.1+s*(b.1-a.1),a.2+s*(b.2-a.2))
def Be (x a b:Q2):Prop:=∃ s:Rat,0<=s/\s<=1/\x=atQ a b s
def btw (x a b:Rat):Prop:=(a<=x/\x<=b)∨(b<=x/\x<=a)
def L2 (c a b:Q2):Prop:=btw c.1 a.1 b.1/\btw c.2 a.2 b.2
def Vw (a b c d:Q2):Prop:=
 (crR a b c=0/\L2 c a b)∨(crR a b d=0/\L2 d a b)∨(crR c d a=0/\L2 a c d)∨(crR c d b=0/\L2 b c d)∨(crR a b c*crR a b d<0/\crR c d a*crR c d b<0)
theorem Uh {a b:Rat} (ha:0<a) (hb:0<b):0<a*b:=Rat.mul_pos ha hb
theorem GS {a b:Rat} (ha:0<=a) (hb:0<=b):0<=a*b:=Rat.mul_nonneg ha hb
theorem Fj {a b:Rat} (ha:0<=a) (hb:0<b):0<=a/b:=by
 rw [Rat.div_def]
 exact Rat.mul_nonneg ha (Rat.le_of_lt (Rat.inv_pos.2 hb))
theorem C8 {a b:Rat} (h:a<=b) (hb:0<b):a/b<=1:=by
 have h1:0<=(b-a)/b:=Fj (by grind) hb
 have e:(b-a)/b=1-a/b:=by
  have:b≠0:=by grind
  grind
 grind
theorem G4 {c a b:Q2} (h:crR a b c=0) (hs:L2 c a b):Be c a b:=by
 obtain ⟨a1,a2⟩:=a
 obtain ⟨b1,b2⟩:=b
 obtain ⟨c1,c2⟩:=c
 unfold crR at h
 obtain ⟨h1,h2⟩:=hs
 simp only at h h1 h2
 by_cases hx:a1=b1
 ·subst hx
  have hc:c1=a1:=by rcases h1 with h1|h1 <;> grind
  subst hc
  by_cases hy:a2=b2
  ·subst hy
   have hc:c2=a2:=by rcases h2 with h2|h2 <;> grind
   subst hc
   exact ⟨0,by grind,by grind,by unfold atQ;simp only;ext <;> grind⟩
  ·rcases h2 with ⟨p,q⟩|⟨p,q⟩
   ·have hd:0<b2-a2:=by grind
    refine ⟨(c2-a2)/(b2-a2),Fj (by grind) hd,C8 (by grind) hd,?_⟩
    have:b2-a2≠0:=by grind
    unfold atQ;simp only;ext <;> grind
   ·have hd:0<a2-b2:=by grind
    refine ⟨(a2-c2)/(a2-b2),Fj (by grind) hd,C8 (by grind) hd,?_⟩
    have:a2-b2≠0:=by grind
    unfold atQ;simp only;ext <;> grind
 ·rcases h1 with ⟨p,q⟩|⟨p,q⟩
  ·have hd:0<b1-a1:=by grind
   refine ⟨(c1-a1)/(b1-a1),Fj (by grind) hd,C8 (by grind) hd,?_⟩
   have:b1-a1≠0:=by grind
   unfold atQ;simp only;ext <;> grind
  ·have hd:0<a1-b1:=by grind
   refine ⟨(a1-c1)/(a1-b1),Fj (by grind) hd,C8 (by grind) hd,?_⟩
   have:a1-b1≠0:=by grind
   unfold atQ;simp only;ext <;> grind
theorem Za {a b s:Rat} (h0:0<=s) (h1:s<=1):btw (a+s*(b-a)) a b:=by
 rcases (Rat.le_total:a<=b∨b<=a) with h|h
 ·left
  have k1:=GS h0 (show 0<=b-a by grind)
  have k2:=GS (show 0<=1-s by grind) (show 0<=b-a by grind)
  constructor <;> grind
 ·right
  have k1:=GS h0 (show 0<=a-b by grind)
  have k2:=GS (show 0<=1-s by grind) (show 0<=a-b by grind)
  constructor <;> grind
theorem Ak {c a b:Q2} (h:Be c a b):crR a b c=0/\L2 c a b:=by
 obtain ⟨s,h0,h1,rfl⟩:=h
 refine ⟨?_,Za h0 h1,Za h0 h1⟩
 unfold crR atQ;simp only;grind
theorem FM {a b:Rat} (h:a*b<0):(0<a/\b<0)∨(a<0/\0<b):=by
 by_cases ha:0<a
 ·left
  refine ⟨ha,Classical.byContradiction λ hb=>?_⟩
  have:=GS (Rat.le_of_lt ha) (show 0<=b by grind)
  grind
 ·by_cases ha0:a=0
  ·subst ha0;grind
  ·right
   refine ⟨by grind,Classical.byContradiction λ hb=>?_⟩
   have:=GS (show 0<=-a by grind) (show 0<=-b by grind)
   grind
theorem Zb {a b c d:Q2} (h1:crR a b c*crR a b d<0) (h2:crR c d a*crR c d b<0):∃ x,Be x a b/\Be x c d:=by
 obtain ⟨u,hu⟩:∃ u,crR c d a=u:=⟨_,rfl⟩
 obtain ⟨v,hv⟩:∃ v,crR c d b=v:=⟨_,rfl⟩
 obtain ⟨y,hy⟩:∃ y,crR a b c=y:=⟨_,rfl⟩
 obtain ⟨z,hz⟩:∃ z,crR a b d=z:=⟨_,rfl⟩
 rw [hu,hv] at h2
 rw [hy,hz] at h1
 have e0:y-z=v-u:=by rw [← hu,← hv,← hy,← hz];unfold crR;grind
 have n1:u-v≠0:=by rcases FM h2 with ⟨p,q⟩|⟨p,q⟩ <;> grind
 have n2:y-z≠0:=by rcases FM h1 with ⟨p,q⟩|⟨p,q⟩ <;> grind
 have r1:0<=u/(u-v)/\u/(u-v)<=1:=by
  rcases FM h2 with ⟨p,q⟩|⟨p,q⟩
  ·exact ⟨Fj (by grind) (by grind),C8 (by grind) (by grind)⟩
  ·have e:u/(u-v)=(-u)/(v-u):=by
    have:v-u≠0:=by grind
    grind
   rw [e]
   exact ⟨Fj (by grind) (by grind),C8 (by grind) (by grind)⟩
 have r2:0<=y/(y-z)/\y/(y-z)<=1:=by
  rcases FM h1 with ⟨p,q⟩|⟨p,q⟩
  ·exact ⟨Fj (by grind) (by grind),C8 (by grind) (by grind)⟩
  ·have e:y/(y-z)=(-y)/(z-y):=by
    have:z-y≠0:=by grind
    grind
   rw [e]
   exact ⟨Fj (by grind) (by grind),C8 (by grind) (by grind)⟩
 refine ⟨atQ a b (u/(u-v)),⟨_,r1.1,r1.2,rfl⟩,y/(y-z),r2.1,r2.2,?_⟩
 have k1:(u-v)*(u/(u-v))=u:=by grind
 have k2:(y-z)*(y/(y-z))=y:=by grind
 obtain ⟨s,hs⟩:∃ s,u/(u-v)=s:=⟨_,rfl⟩
 obtain ⟨t,ht⟩:∃ t,y/(y-z)=t:=⟨_,rfl⟩
 rw [hs] at k1 ⊢
 rw [ht] at k2 ⊢
 have m1:(u-v)*(a.1+s*(b.1-a.1))=(u-v)*(c.1+t*(d.1-c.1)):=by
  have:(u-v)*(a.1+s*(b.1-a.1))=(u-v)*a.1+u*(b.1-a.1):=by grind
  have:(u-v)*(c.1+t*(d.1-c.1))=(u-v)*c.1-y*(d.1-c.1):=by grind
  rw [← hu,← hv,← hy] at *
  unfold crR at *
  grind
 have m2:(u-v)*(a.2+s*(b.2-a.2))=(u-v)*(c.2+t*(d.2-c.2)):=by
  have:(u-v)*(a.2+s*(b.2-a.2))=(u-v)*a.2+u*(b.2-a.2):=by grind
  have:(u-v)*(c.2+t*(d.2-c.2))=(u-v)*c.2-y*(d.2-c.2):=by grind
  rw [← hu,← hv,← hy] at *
  unfold crR at *
  grind
 have cancel:∀ p q:Rat,(u-v)*p=(u-v)*q->p=q:=λ p q h=>by
  have h3:(u-v)*(p-q)=0:=by grind
  rcases Rat.mul_eq_zero.1 h3 with h4|h4
  ·exact absurd h4 n1
  ·grind
 exact Prod.ext (cancel _ _ m1) (cancel _ _ m2)
theorem ABO {a b c d:Q2} (h:Vw a b c d):∃ x,Be x a b/\Be x c d:=by
 have ends:∀ p q:Q2,Be p p q/\Be q p q:=λ p q=>
  ⟨⟨0,by grind,by grind,by unfold atQ;ext <;> simp only <;> grind⟩,⟨1,by grind,by grind,by unfold atQ;ext <;> simp only <;> grind⟩⟩
 rcases h with ⟨h,s⟩|⟨h,s⟩|⟨h,s⟩|⟨h,s⟩|⟨h1,h2⟩
 ·exact ⟨c,G4 h s,(ends c d).1⟩
 ·exact ⟨d,G4 h s,(ends c d).2⟩
 ·exact ⟨a,(ends a b).1,G4 h s⟩
 ·exact ⟨b,(ends a b).2,G4 h s⟩
 ·exact Zb h1 h2
theorem JK {c a b:Q2} (h:crR a b c=0) (hx:a.1≠b.1) (hs:btw c.1 a.1 b.1):Be c a b:=by
 obtain ⟨a1,a2⟩:=a
 obtain ⟨b1,b2⟩:=b
 obtain ⟨c1,c2⟩:=c
 unfold crR at h
 simp only at h hx hs
 rcases hs with ⟨p,q⟩|⟨p,q⟩
 ·have hd:0<b1-a1:=by grind
  refine ⟨(c1-a1)/(b1-a1),Fj (by grind) hd,C8 (by grind) hd,?_⟩
  have:b1-a1≠0:=by grind
  unfold atQ;simp only;ext <;> grind
 ·have hd:0<a1-b1:=by grind
  refine ⟨(a1-c1)/(a1-b1),Fj (by grind) hd,C8 (by grind) hd,?_⟩
  have:a1-b1≠0:=by grind
  unfold atQ;simp only;ext <;> grind
theorem FN {c a b:Q2} (h:crR a b c=0) (hx:a.2≠b.2) (hs:btw c.2 a.2 b.2):Be c a b:=by
 obtain ⟨a1,a2⟩:=a
 obtain ⟨b1,b2⟩:=b
 obtain ⟨c1,c2⟩:=c
 unfold crR at h
 simp only at h hx hs
 rcases hs with ⟨p,q⟩|⟨p,q⟩
 ·have hd:0<b2-a2:=by grind
  refine ⟨(c2-a2)/(b2-a2),Fj (by grind) hd,C8 (by grind) hd,?_⟩
  have:b2-a2≠0:=by grind
  unfold atQ;simp only;ext <;> grind
 ·have hd:0<a2-b2:=by grind
  refine ⟨(a2-c2)/(a2-b2),Fj (by grind) hd,C8 (by grind) hd,?_⟩
  have:a2-b2≠0:=by grind
  unfold atQ;simp only;ext <;> grind
theorem Nx {x a b c d:Rat} (h1:btw x a b) (h2:btw x c d):btw c a b∨btw d a b∨(c≠d/\btw a c d):=by
 unfold btw at *
 by_cases hc:c=d
 ·subst hc;left;grind
 ·by_cases k1:(a<=c/\c<=b)∨(b<=c/\c<=a)
  ·exact .inl k1
  ·by_cases k2:(a<=d/\d<=b)∨(b<=d/\d<=a)
   ·exact .inr (.inl k2)
   ·right;right
    refine ⟨hc,?_⟩
    grind
theorem AEF (a b c d:Q2):(b.1-a.1)*crR c d a=(c.1-a.1)*(crR a b d-crR a b c)-(d.1-c.1)*crR a b c:=by unfold crR;grind
theorem AEG (a b c d:Q2):(b.2-a.2)*crR c d a=(c.2-a.2)*(crR a b d-crR a b c)-(d.2-c.2)*crR a b c:=by unfold crR;grind
theorem SY {a b c d:Q2} (hy:crR a b c=0) (hz:crR a b d=0) (h:a.1≠b.1):crR c d a=0:=by
 have e:=AEF a b c d
 rw [hy,hz] at e
 have e:(b.1-a.1)*crR c d a=0:=by grind
 rcases Rat.mul_eq_zero.1 e with k|k
 ·exact absurd (by grind) h
 ·exact k
theorem SZ {a b c d:Q2} (hy:crR a b c=0) (hz:crR a b d=0) (h:a.2≠b.2):crR c d a=0:=by
 have e:=AEG a b c d
 rw [hy,hz] at e
 have e:(b.2-a.2)*crR c d a=0:=by grind
 rcases Rat.mul_eq_zero.1 e with k|k
 ·exact absurd (by grind) h
 ·exact k
theorem Zc {r y z:Rat} (r0:0<r) (r1:r<1) (e:(1-r)*y+r*z=0) (hy:y≠0):y*z<0:=by
 have e2:r*(y*z)=-((1-r)*(y*y)):=by grind
 have hyy:0<y*y:=by
  rcases (show 0<y∨0 < -y by grind) with h|h
  ·exact Uh h h
  ·have:=Uh h h;grind
 have:=Uh (show 0<1-r by grind) hyy
 apply Classical.byContradiction
 intro hc
 have:=GS (Rat.le_of_lt r0) (show 0<=y*z by grind)
 grind
theorem Vx {r y z:Rat} (r0:0<r) (e:(1-r)*y+r*z=0) (hy:y=0):z=0:=by
 subst hy
 have:r*z=0:=by grind
 rcases Rat.mul_eq_zero.1 this with h|h
 ·grind
 ·exact h
theorem Zd (p q:Q2):atQ p q 0=p:=by unfold atQ;ext <;> simp only <;> grind
theorem Ze (p q:Q2):atQ p q 1=q:=by unfold atQ;ext <;> simp only <;> grind
theorem Sa (p:Q2) (s:Rat):atQ p p s=p:=by unfold atQ;ext <;> simp only <;> grind
theorem Pp (a b c d:Q2) (t:Rat):crR a b (atQ c d t)=(1-t)*crR a b c+t*crR a b d:=by unfold crR atQ;simp only;grind
theorem ABP {a b c d x:Q2} (h1:Be x a b) (h2:Be x c d):Vw a b c d:=by
 have h1':=h1
 have h2':=h2
 obtain ⟨s,s0,s1,es⟩:=h1'
 obtain ⟨t,t0,t1,et⟩:=h2'
 by_cases hs0:s=0
 ·subst hs0;rw [Zd] at es;subst es;exact .inr (.inr (.inl (Ak h2)))
 by_cases hs1:s=1
 ·subst hs1;rw [Ze] at es;subst es;exact .inr (.inr (.inr (.inl (Ak h2))))
 by_cases ht0:t=0
 ·subst ht0;rw [Zd] at et;subst et;exact .inl (Ak h1)
 by_cases ht1:t=1
 ·subst ht1;rw [Ze] at et;subst et;exact .inr (.inl (Ak h1))
 have s0:0<s:=by clear h1 h2 es et;grind
 have s1:s<1:=by clear h1 h2 es et;grind
 have t0:0<t:=by clear h1 h2 es et;grind
 have t1:t<1:=by clear h1 h2 es et;grind
 have ey:(1-t)*crR a b c+t*crR a b d=0:=by
  rw [← Pp,← et];exact (Ak h1).1
 have eu:(1-s)*crR c d a+s*crR c d b=0:=by
  rw [← Pp,← es];exact (Ak h2).1
 by_cases hy:crR a b c=0
 ·have hz:=Vx t0 ey hy
  by_cases hab1:a.1=b.1
  ·by_cases hab2:a.2=b.2
   ·have:a=b:=Prod.ext hab1 hab2
    subst this
    rw [Sa] at es
    subst es
    exact .inr (.inr (.inl (Ak h2)))
   ·rcases Nx (Ak h1).2.2 (Ak h2).2.2 with h|h|⟨hne,h⟩
    ·exact .inl (Ak (FN hy hab2 h))
    ·exact .inr (.inl (Ak (FN hz hab2 h)))
    ·exact .inr (.inr (.inl (Ak (FN (SZ hy hz hab2) hne h))))
  ·rcases Nx (Ak h1).2.1 (Ak h2).2.1 with h|h|⟨hne,h⟩
   ·exact .inl (Ak (JK hy hab1 h))
   ·exact .inr (.inl (Ak (JK hz hab1 h)))
   ·exact .inr (.inr (.inl (Ak (JK (SY hy hz hab1) hne h))))
 ·by_cases hu:crR c d a=0
  ·have hv:=Vx s0 eu hu
   by_cases hcd1:c.1=d.1
   ·by_cases hcd2:c.2=d.2
    ·have:c=d:=Prod.ext hcd1 hcd2
     subst this
     rw [Sa] at et
     subst et
     exact .inl (Ak h1)
    ·rcases Nx (Ak h2).2.2 (Ak h1).2.2 with h|h|⟨hne,h⟩
     ·exact .inr (.inr (.inl (Ak (FN hu hcd2 h))))
     ·exact .inr (.inr (.inr (.inl (Ak (FN hv hcd2 h)))))
     ·exact absurd (SZ hu hv hcd2) hy
   ·exact absurd (SY hu hv hcd1) hy
  ·exact .inr (.inr (.inr (.inr ⟨Zc t0 t1 ey hy,Zc s0 s1 eu hu⟩)))
theorem Zf {a b c d:Q2} : Vw a b c d↔∃ x,Be x a b/\Be x c d:=⟨ABO,λ ⟨_,h1,h2⟩=>ABP h1 h2⟩
end Go.Proofs.YtkffpiaagjcmpaaGreat
namespace Go.Proofs.YtkffpiaagjcmpaaGreat
set_option linter.unusedVariables false
set_option linter.unusedSimpArgs false
open Go.RowKit
def D0:List PC->Nat->List C
 | [],_=>[]
 | .im v::r,id=>.im v::D0 r (id+1)
 | .bt _::r,id=>.ext id::D0 r (id+1)
def Ui:List PC->Nat->List (Nat×En)
 | [],_=>[]
 | .im _::r,id=>Ui r (id+1)
 | .bt bs::r,id=>(id,.ro (.bytes bs) [])::Ui r (id+1)
def Ny (pcs:List PC) (as:List DA):St:=
 { tm:=(0,.one (.one (.bp 1 0)))::Fd as 1 (2+pcs.length),en:=(1,.box (D0 pcs 2))::(Ui pcs 2++Df [] (as.flatMap DA.cells) (2+pcs.length)),lit:=[] }
def XI:List C->List PC->List C->Prop
 | _::r,.im v::p,.im u::b=>u=v/\XI r p b
 | .ext k::r,.bt _::p,.ext k'::b=>match Nat.beq k k' with|true=>XI r p b|false=>False
 | [],[],[]=>True
 | _,_,_=>False
def ABQ:RC->Bool
 | .im _=>true
 | .own _ _ _=>true
 | _=>false
def XJ:List C->List PC->List C->Option (List Prop)
 | _::r,.im v::p,.im u::b=>(XJ r p b).map ((u=v)::·)
 | .ext k::r,.bt _::p,.ext k'::b=>match Nat.beq k k' with|true=>XJ r p b|false=>none
 | [],[],[]=>some []
 | _,_,_=>none
def ABR (tt:TT) (rvs:List ResultVar) (s:St) (ini:List C) (pn:List PC) (r:RT):Prop:=
 match lkp s.en 1 with
 | some (.box bx)=>
  match r.cells.all ABQ,XJ ini pn bx,F8 tt s rvs with
  | true,some qs,some as=>
   match L8 (as.map A.sh) r.sh && FA (Ab r.cells (as.flatMap A.cells)) && (match r.tup with|true=>!(Nat.beq as.length 1)|false=>Nat.beq as.length 1) with
   | false=>False
   | true=>
    match GA s (Ab r.cells (as.flatMap A.cells)) r.cells (as.flatMap A.cells) with
    | none=>False
    | some ps=>T6 (ps++qs)
  | _,_,_=>False
 | _=>False
theorem Qg:∀ {ini:List C} {pn:List PC} {bx:List C} {qs:List Prop},XJ ini pn bx=some qs->(∀ q ∈ qs,q)->XI ini pn bx
 | [],[],[],_,_,_=>trivial
 | c::r,.im v::p,.im u::b,qs,h,hq=>by
  simp only [XJ] at h
  obtain ⟨qs',h1,rfl⟩:=Option.map_eq_some_iff.1 h
  exact ⟨hq _ (by simp),Qg h1 λ q hq'=>hq q (List.mem_cons_of_mem _ hq')⟩
 | .ext k::r,.bt _::p,.ext k'::b,qs,h,hq=>by
  simp only [XJ] at h
  split at h
  ·rename_i e
   simp only [XI,e]
   exact Qg h hq
  ·cases h
theorem LM:∀ {as:List DA} {p id t:Nat} {v:T},lkp (Fd as p id) t=some v->∀ i ∈ v.ids,id<=i
 | [],p,id,t,v,h,i,hi=>by simp [Fd,lkp] at h
 | .one d::r,p,id,t,v,h,i,hi=>by
  simp only [Fd,AQ] at h
  split at h
  ·obtain rfl:=Option.some.inj h
   cases d <;> simp only [OR,T.ids,A.ids,C.ids,List.mem_singleton,List.not_mem_nil] at hi
   all_goals omega
  ·have:=LM h i hi;omega
 | .agg ds::r,p,id,t,v,h,i,hi=>by
  simp only [Fd,AQ] at h
  split at h
  ·obtain rfl:=Option.some.inj h
   have key:∀ (ds:List DC) (id:Nat),∀ c ∈ F9 ds id,∀ i ∈ c.ids,id<=i:=by
    intro ds
    induction ds with
    | nil=>intro id c hc;simp [F9] at hc
    | cons d r ih=>
     intro id c hc i hi
     simp only [F9,List.mem_cons] at hc
     rcases hc with rfl|hc
     ·cases d <;> simp only [OR,C.ids,List.mem_singleton,List.not_mem_nil] at hi
      all_goals omega
     ·have:=ih (id+1) c hc i hi;omega
   simp only [T.ids,A.ids,List.mem_flatMap] at hi
   obtain ⟨c,hc,hi⟩:=hi
   exact key ds id c hc i hi
  ·have:=LM h i hi;omega
theorem Ea:∀ {ds:List DC} {id i:Nat} {E:En},lkp (Df [] ds id) i=some E->id<=i/\((∃ e ts rows,E=.view e ts rows [])∨∃ d,E=.ro d [])
 | [],id,i,E,h=>by simp [Df,lkp] at h
 | .im _::r,id,i,E,h=>by
  obtain ⟨h1,h2⟩:=Ea (ds:=r) (id:=id+1) h
  exact ⟨by omega,h2⟩
 | .sl e ts rows::r,id,i,E,h=>by
  simp only [Df,Ha,AQ] at h
  split at h
  ·rename_i q;obtain rfl:=Option.some.inj h;exact ⟨by omega,.inl ⟨_,_,_,rfl⟩⟩
  ·obtain ⟨h1,h2⟩:=Ea (ds:=r) (id:=id+1) h
   exact ⟨by omega,h2⟩
 | .ro d::r,id,i,E,h=>by
  simp only [Df,AQ] at h
  split at h
  ·rename_i q;obtain rfl:=Option.some.inj h;exact ⟨by omega,.inr ⟨_,rfl⟩⟩
  ·obtain ⟨h1,h2⟩:=Ea (ds:=r) (id:=id+1) h
   exact ⟨by omega,h2⟩
theorem JL:∀ {pcs:List PC} {id i:Nat} {E:En},lkp (Ui pcs id) i=some E->∃ q bs,i=id+q/\q<pcs.length/\pcs[q]?=some (.bt bs)/\E=.ro (.bytes bs) []
 | [],id,i,E,h=>by simp [Ui,lkp] at h
 | .im _::r,id,i,E,h=>by
  obtain ⟨q,bs,h1,h2,h3,h4⟩:=JL (pcs:=r) (id:=id+1) h
  exact ⟨q+1,bs,by omega,by simp;omega,by simpa using h3,h4⟩
 | .bt bs::r,id,i,E,h=>by
  simp only [Ui,AQ] at h
  split at h
  ·rename_i e;obtain rfl:=Option.some.inj h;exact ⟨0,bs,by omega,by simp,rfl,rfl⟩
  ·obtain ⟨q,bs',h1,h2,h3,h4⟩:=JL (pcs:=r) (id:=id+1) h
   exact ⟨q+1,bs',by omega,by simp;omega,by simpa using h3,h4⟩
theorem LN {F:Nat->Prop} {w:World} {m:Maps} : ∀ {pcs:List PC} {id:Nat} {vs:List Value},vs.length=pcs.length->(∀ (q:Nat) (d:PC) (u:Value),pcs[q]?=some d->vs[q]?=some u->X5 F w d u)->(∀ (q:Nat) (u:Value),vs[q]?=some u->m.ε (id+q)=u) ->
  (D0 pcs id).map (C.den m)=vs/\∀ c ∈ D0 pcs id,∀ i ∈ c.ids,id<=i/\i<id+pcs.length
 | [],id,vs,hl,_,_=>by
  obtain rfl:=List.eq_nil_of_length_eq_zero (by simpa using hl)
  exact ⟨rfl,by simp [D0]⟩
 | d::r,id,[],hl,_,_=>by simp at hl
 | d::r,id,v::vs,hl,h1,h2=>by
  obtain ⟨i1,i2⟩:=LN (F:=F) (w:=w) (m:=m) (pcs:=r) (id:=id+1) (vs:=vs) (by simpa using hl) (λ q d u hq hu=>h1 (q+1) d u (by simpa using hq) (by simpa using hu)) (λ q u hu=>by
   have:=h2 (q+1) u (by simpa using hu)
   rwa [show id+(q+1)=id+1+q by omega] at this)
  have g1:=h1 0 d v (by simp) (by simp)
  have g2:=h2 0 v (by simp)
  cases d with
  | im x=>
   refine ⟨by simp only [D0,List.map_cons,C.den,i1];rw [show v=x from g1],λ c hc i hi=>?_⟩
   simp only [D0,List.mem_cons] at hc
   rcases hc with rfl|hc
   ·simp [C.ids] at hi
   ·have:=i2 c hc i hi;simp;omega
  | bt bs=>
   refine ⟨by simp only [D0,List.map_cons,C.den,i1];rw [show m.ε id=v from g2],λ c hc i hi=>?_⟩
   simp only [D0,List.mem_cons] at hc
   rcases hc with rfl|hc
   ·simp only [C.ids,List.mem_singleton] at hi;subst hi;simp
   ·have:=i2 c hc i hi;simp;omega
theorem Nz {m0 m:Maps} : ∀ {ini:List C} {pn:List PC} {bx:List C},XI ini pn bx->(∀ c ∈ ini,∀ i ∈ c.ids,m.ε i=m0.ε i)->bx.map (C.den m)=Ix pn (ini.map (C.den m0))
 | [],[],[],_,_=>rfl
 | c::r,.im v::p,.im u::b,h,hs=>by
  obtain ⟨rfl,h⟩:=h
  have:=Nz h λ c hc=>hs c (List.mem_cons_of_mem _ hc)
  simp only [List.map_cons,Ix,this]
  rfl
 | .ext k::r,.bt _::p,.ext k'::b,h,hs=>by
  simp only [XI] at h
  split at h
  ·rename_i e
   have e:=Nat.eq_of_beq_eq_true e
   subst e
   have:=Nz h λ c hc=>hs c (List.mem_cons_of_mem _ hc)
   simp only [List.map_cons,Ix,this,C.den]
   rw [hs (.ext k) (by simp) k (by simp [C.ids])]
  ·exact h.elim
theorem N0 (v:Value):∀ (L:Nat) (r:List DC) (id:Nat),Df [] (List.replicate L (.im v)++r) id=Df [] r (id+L)
 | 0,r,id=>by simp
 | L+1,r,id=>by
  rw [List.replicate_succ,List.cons_append]
  simp only [Df]
  rw [N0 v L r (id+1),show id+1+L=id+(L+1) by omega]
theorem Zg {pcs:List PC} {bs:List UInt8} (h:pcs[0]?=some (.bt bs)):0<pcs.length:=(List.getElem?_eq_some_iff.1 h).1
def Fk (B:Nat) (vs us:List Value):Maps:=⟨λ i=>if i=1 then B else 0,λ i=>if i<2+vs.length then vs.getD (i-2) undef else us.getD (i-(2+vs.length)) undef,λ b=>if b=B then 1 else 0⟩
def ADY (F : Nat → Prop) (w : World) (B : Nat) (vs us : List Value) (M : Bool) (h1 : ∀ b, F b → b < w.heap.size) (h2 : ¬ F B) (h3 : ∀ b ∈ stB, b < w.heap.size) (h4 : B ∉ stB) : Env :=
  { base := w.heap.size, mono := M, G := F, mb := fun j => if j = 0 then [B] else [], K := 3, m0 := Fk B vs us
    hG := fun b hb hq => by
      rcases hq with hq | ⟨j, hq⟩
      · have := h1 b hb; omega
      · split at hq
        · obtain rfl := List.mem_singleton.1 hq; exact h2 hb
        · cases hq
    hst := fun b hb hq => by
      rcases hq with hq | ⟨j, hq⟩
      · have := h3 b hb; omega
      · split at hq
        · obtain rfl := List.mem_singleton.1 hq; exact h4 hb
        · cases hq }
theorem N1:∀ (as:List DA) (us:List Value),(BN as us).length=as.length
 | [],us=>rfl
 | .one _::r,us=>by simp [BN,N1 r]
 | .agg _::r,us=>by simp [BN,N1 r]
theorem ABS {F:Nat->Prop} {w:World} {as:List DA} {us:List Value} {pcs:List PC} {B:Nat} {vs:List Value} {N:Nat} {M:Bool} (h:ArgsAt F w [] (λ _=>[]) (as.flatMap DA.cells) us) (hp:PtrIn F w pcs B vs) (hbt:∃ bs,pcs[0]?=some (.bt bs)) (hN:as.length+1<=N) :
  R (ADY F w B vs us M h.lt hp.out h.st.1 hp.sb) N w (alN (2+pcs.length+(as.flatMap DA.cells).length)) (Ny pcs as) (Fk B vs us) { tmps:=(Value.pointer (some ⟨B,0,none⟩)::BN as us).toArray++Array.replicate (N-(Value.pointer (some ⟨B,0,none⟩)::BN as us).toArray.size) undef,defers:=[] } w:=by
 obtain ⟨bs0,hbt⟩:=hbt
 have hL:=Zg hbt
 obtain ⟨t0,hat⟩:=hp.at_
 have hBlt:B<w.heap.size:=(Array.getElem?_eq_some_iff.1 hat).1
 let ptr:Value:=.pointer (some ⟨B,0,none⟩)
 let pre:List DC:=.im ptr::List.replicate pcs.length (.im undef)
 let as2:List DA:=.agg pre::as
 let us2:List Value:=(ptr::List.replicate pcs.length undef)++us
 have hpl:pre.length=pcs.length+1:=by simp [pre]
 have h2:ArgsAt F w [] (λ _=>[]) (as2.flatMap DA.cells) us2:=by
  have hcells:as2.flatMap DA.cells=pre++as.flatMap DA.cells:=rfl
  rw [hcells]
  refine ⟨by simp [us2,pre,h.len],h.lt,λ p d u hd hu hm=>?_,λ j p hj=>by simp at hj,λ j1 j2 b hne h1=>by simp at h1,λ j b hj=>by simp at hj,h.st,λ j b hj=>by simp at hj⟩
  by_cases hlt:p<pre.length
  ·rw [List.getElem?_append_left hlt] at hd
   rw [List.getElem?_append_left (by simp;omega)] at hu
   cases p with
   | zero=>simp [pre] at hd hu;subst hd;subst hu;rfl
   | succ p=>
    simp only [pre,List.getElem?_cons_succ,List.getElem?_replicate] at hd hu
    split at hd
    ·obtain rfl:=Option.some.inj hd
     rename_i hq
     rw [if_pos hq] at hu
     exact (Option.some.inj hu).symm
    ·cases hd
  ·rw [List.getElem?_append_right (by omega)] at hd
   rw [List.getElem?_append_right (by simp;omega)] at hu
   exact h.rd _ _ _ hd (by simpa [hpl] using hu) (by simp)
 have hR:=T9 (N:=N) (M:=M) h2 (by simp [as2];omega)
 have hen2:(Jk [] as2).en=Df [] (as.flatMap DA.cells) (2+pcs.length):=by
  show Df [] (pre++as.flatMap DA.cells) 1=_
  simp only [pre,List.cons_append,Df]
  rw [N0]
 have htm2:(Jk [] as2).tm=(0,.one (.agg (F9 pre 1)))::Fd as 1 (2+pcs.length):=by
  show (0,_)::Fd as 1 (1+pre.length)=_
  rw [hpl,show 1+(pcs.length+1)=2+pcs.length by omega]
 have hvd:BN as2 us2=.agg (us2.take pre.length).toArray::BN as us:=by
  show _::BN as (us2.drop pre.length)=_
  rw [show us2.drop pre.length=us by simp [us2,hpl]]
 have hε2:∀ i,2+pcs.length<=i->us2.getD (i-1) undef=(Fk B vs us).ε i:=λ i hi=>by
  simp only [Fk]
  rw [if_neg (by rw [hp.len];omega)]
  simp only [us2,List.getD_eq_getElem?_getD]
  rw [List.getElem?_append_right (by simp;omega)]
  congr 2
  simp [hp.len];omega
 have hmine:∀ b,w.heap.size<=b->(Fk B vs us).π b=0:=λ b hb=>if_neg (by omega)
 have hbox:=LN (F:=F) (w:=w) (m:=Fk B vs us) (id:=2) hp.len hp.rd (λ q u hu=>by
  have hq:=(List.getElem?_eq_some_iff.1 hu).1
  simp only [Fk]
  rw [if_pos (by omega)]
  simp [List.getD_eq_getElem?_getD,hu])
 refine ⟨?_,rfl,Nat.le_refl _,Bel.refl _ _,λ t v hv=>?_,λ i E hE=>?_,by unfold alN;omega,h.st,λ i h1 h2=>?_,λ i hi=>⟨rfl,rfl⟩⟩
 ·simp [N1];omega
 ·simp only [Ny,AQ] at hv
  split at hv
  ·rename_i e
   subst e
   obtain rfl:=Option.some.inj hv
   refine ⟨?_,λ i hi=>?_⟩
   ·rw [Array.getD_eq_getD_getElem?,Array.getElem?_append_left (by simp)]
    simp [T.den,A.den,C.den,Fk]
   ·simp only [T.ids,A.ids,C.ids,List.mem_singleton] at hi
    subst hi;unfold alN;omega
  ·rename_i ht
   have ht0:t≠0:=λ e=>ht e.symm
   obtain ⟨r1,r2⟩:=hR.tm t v (by rw [htm2,AQ,if_neg ht];exact hv)
   have hids:=LM hv
   have hrange:∀ i ∈ v.ids,2+pcs.length<=i/\i<2+pcs.length+(as.flatMap DA.cells).length:=λ i hi=>by
    have a1:=hids i hi
    have a2:=(r2 i hi).2
    have e:(as2.flatMap DA.cells).length=pre.length+(as.flatMap DA.cells).length:=by
     show (pre++as.flatMap DA.cells).length=_
     simp
    rw [e,hpl] at a2
    omega
   refine ⟨?_,λ i hi=>by have:=hrange i hi;unfold alN;omega⟩
   have hsame:Maps.same (λ i=>2+pcs.length<=i) ⟨λ _=>0,λ i=>us2.getD (i-1) undef,λ b=>match (List.range ([]:List Nat).length).find? (λ j=>decide (b ∈ (λ _=>([]:List Nat)) j)) with|some j=>([]:List Nat).getD j 0+1|none=>0⟩ (Fk B vs us):=λ i hi=>by
    refine ⟨?_,(hε2 i hi).symm⟩
    show (if i=1 then B else 0)=0
    rw [if_neg (by omega)]
   rw [T.den_same hsame λ i hi=>(hrange i hi).1]
   refine Eq.trans ?_ r1
   rw [hvd]
   obtain ⟨t',rfl⟩:∃ t',t=t' + 1:=⟨t-1,by omega⟩
   simp only [Array.getD_eq_getD_getElem?,Array.getElem?_append,List.size_toArray,List.length_cons,List.getElem?_toArray,List.getElem?_cons_succ]
 ·simp only [Ny,AQ] at hE
  split at hE
  ·rename_i e
   subst e
   obtain rfl:=Option.some.inj hE
   refine ⟨⟨.inr ⟨0,by show B ∈ (if 0=0 then [B] else []);simp⟩,by show (if B=B then 1 else 0)=1;simp,t0,?_⟩,by unfold alN;omega,λ j hj=>?_⟩
   ·rw [hbox.1];exact hat
   ·simp only [En.ids,List.mem_flatMap] at hj
    obtain ⟨c,hc,hj⟩:=hj
    have:=hbox.2 c hc j hj
    unfold alN;omega
  ·rw [DS] at hE
   cases hpc:lkp (Ui pcs 2) i with
   | some E'=>
    rw [hpc] at hE
    obtain rfl:=Option.some.inj hE
    obtain ⟨q,bs,rfl,hq,hd,rfl⟩:=JL hpc
    obtain ⟨u,hu⟩:∃ u,vs[q]?=some u:=⟨_,List.getElem?_eq_getElem (show q<vs.length by rw [hp.len];exact hq)⟩
    refine ⟨⟨F,?_,λ b hb=>.inl hb⟩,by unfold alN;omega,by simp [En.ids]⟩
    have:=hp.rd q _ _ hd hu
    simp only [Fk]
    rw [if_pos (by rw [hp.len];omega),Nat.add_sub_cancel_left]
    simpa [List.getD_eq_getElem?_getD,hu,ROAt,X5] using this
   | none=>
    rw [hpc,Option.none_or] at hE
    obtain ⟨r1,r2,r3⟩:=hR.en i E (by rw [hen2];exact hE)
    obtain ⟨s1,s2⟩:=Ea hE
    have e:(as2.flatMap DA.cells).length=pre.length+(as.flatMap DA.cells).length:=by
     show (pre++as.flatMap DA.cells).length=_
     simp
    have r2':=r2.2
    rw [e,hpl] at r2'
    have hε:=hε2 i s1
    have hmay:∀ b,b<w.heap.size∨w.heap.size<=b:=λ b=>Nat.lt_or_ge _ _
    rcases s2 with ⟨e',ts,rows,rfl⟩|⟨d,rfl⟩
    ·obtain ⟨F',f1,f2⟩:=r1
     refine ⟨⟨F',?_,λ b hb=>?_⟩,by unfold alN;omega,by simp [En.ids]⟩
     ·rw [← hε];exact f1
     ·rcases f2 b hb with g|⟨g,-⟩|⟨g,g2⟩
      ·exact .inl g
      ·rcases g with g|⟨j,g⟩
       ·exact .inr (.inl ⟨.inl g,hmine b g⟩)
       ·simp at g
      ·simp at g2
    ·obtain ⟨F',f1,f2⟩:=r1
     refine ⟨⟨F',?_,λ b hb=>?_⟩,by unfold alN;omega,by simp [En.ids]⟩
     ·rw [← hε];exact f1
     ·rcases f2 b hb with g|⟨g,-⟩|⟨g,g2⟩
      ·exact .inl g
      ·rcases g with g|⟨j,g⟩
       ·exact .inr (.inl ⟨.inl g,hmine b g⟩)
       ·simp at g
      ·simp at g2
 ·have h2:i<3:=h2
  unfold alN;omega
section
variable {P : Program} {Γ : Env} {n : Nat} {w0 : World} {al : Nat → Prop} {s : St} {m : Maps} {a : Act} {w : World}
theorem Ih (h:R Γ n w0 al s m a w) (hm:∀ b,Γ.mine b->m.π b≠1->Γ.base<=b) {bx:List C} (hb1:lkp s.en 1=some (.box bx)) {owns:List Nat} {w1:World} : ∀ {rcs:List RC} {cs:List C} {ps:List Prop},rcs.all ABQ=true->GA s owns rcs cs=some ps->(∀ p ∈ ps,p)->(Ab rcs cs).Nodup ->
  ∃ bs:List Nat,bs.Nodup/\(∀ b ∈ bs,Γ.base<=b/\m.π b ∈ Ab rcs cs)/\∀ all:List Nat,BP Γ.G w1 w all rcs (cs.map (C.den m)) bs
 | [],[],ps,_,_,_,_=>⟨[],List.nodup_nil,by simp,λ _=>rfl⟩
 | [],_::_,ps,_,h,_,_=>by simp [GA] at h
 | _::_,[],ps,_,h,_,_=>by simp [GA] at h
 | rc::rcs,c::cs,ps,hio,hx,hp,hn=>by
  simp only [List.all_cons,Bool.and_eq_true] at hio
  simp only [GA] at hx
  split at hx
  ·rename_i p ps' h1 h2
   simp only [Option.some.injEq] at hx
   subst hx
   have hp1:=hp p (by simp)
   have hp2:∀ p ∈ ps',p:=λ q hq=>hp q (List.mem_cons_of_mem _ hq)
   cases rc with
   | im v=>
    cases c with
    | im u=>
     simp only [QG,Option.some.injEq] at h1
     rw [← h1] at hp1
     obtain ⟨bs,b1,b2,b3⟩:=Ih h hm hb1 (w1:=w1) hio.2 h2 hp2 (by simpa [Ab] using hn)
     exact ⟨bs,b1,by simpa [Ab] using b2,λ all=>by simp only [List.map_cons,BP,C.den];exact ⟨hp1,b3 all⟩⟩
    | _=>simp [QG] at h1
   | own e ts rows=>
    cases c with
    | ext k=>
     simp only [QG] at h1
     split at h1
     ·rename_i e' ts' rows' he
      split at h1
      ·rename_i hc
       simp only [Bool.and_eq_true,Nat.beq_eq] at hc
       obtain ⟨rfl,hc⟩:=hc
       have hc:=Ty.beqs_ok _ _ hc
       subst hc
       simp only [Option.some.injEq] at h1
       rw [← h1] at hp1
       simp only [Ab,List.nodup_cons] at hn
       obtain ⟨bs,b1,b2,b3⟩:=Ih h hm hb1 (w1:=w1) hio.2 h2 hp2 hn.2
       obtain ⟨q,q1,q2,q3⟩:=(h.en _ _ he).1
       rw [hp1] at q1
       have hk1:k≠1:=λ e=>by subst e;rw [hb1] at he;cases he
       refine ⟨q++bs,List.nodup_append.2 ⟨q2,b1,λ x hx y hy e=>?_⟩,λ b hb=>?_,λ all=>?_⟩
       ·subst e
        have:=(b2 x hy).2
        rw [(q3 x hx).2] at this
        exact hn.1 this
       ·rcases List.mem_append.1 hb with hb|hb
        ·exact ⟨hm _ (q3 b hb).1 (by rw [(q3 b hb).2];exact hk1),by rw [(q3 b hb).2];simp [Ab]⟩
        ·exact ⟨(b2 b hb).1,by simp only [Ab];exact List.mem_cons_of_mem _ (b2 b hb).2⟩
       ·simp only [List.map_cons,BP,C.den]
        exact ⟨q,bs,rfl,q1,b3 all⟩
      ·cases h1
     ·cases h1
    | im u=>
     have hu:u=.slice none 0 0/\([]=rows):=by
      unfold QG at h1
      split at h1
      all_goals first|(rename_i g1 g2;cases g1)|skip
      all_goals simp_all
     obtain ⟨rfl,rfl⟩:=hu
     obtain ⟨bs,b1,b2,b3⟩:=Ih h hm hb1 (w1:=w1) hio.2 h2 hp2 (by simpa [Ab] using hn)
     refine ⟨bs,b1,by simpa [Ab] using b2,λ all=>?_⟩
     simp only [List.map_cons,BP,C.den]
     refine ⟨[],bs,rfl,?_,b3 all⟩
     simp only [Fp]
     exact ⟨[],[],World.ownsRow_nil _ _ _ _,rfl,rfl,by simp,by simp,by simp [Value.ownBlock]⟩
    | _=>simp [QG] at h1
   | view _ _ _=>simp [ABQ] at hio
   | top _ _ _=>simp [ABQ] at hio
  ·cases hx
def Zh:PC->Bool
 | .im _=>true
 | .bt _=>false
def J7:List PC->Bool
 | .bt _::r=>r.all Zh
 | _=>false
theorem Pr:∀ {r:List PC} {id:Nat},r.all Zh=true->∀ c ∈ D0 r id,∀ i ∈ c.ids,False
 | [],_,_,c,hc,_,_=>by simp [D0] at hc
 | .im v::r,id,h,c,hc,i,hi=>by
  simp only [List.all_cons,Bool.and_eq_true] at h
  simp only [D0,List.mem_cons] at hc
  rcases hc with rfl|hc
  ·simp [C.ids] at hi
  ·exact Pr h.2 c hc i hi
 | .bt _::r,id,h,c,hc,i,hi=>by simp [Zh] at h
theorem XK {pcs:List PC} (h:J7 pcs=true):∀ c ∈ D0 pcs 2,∀ i ∈ c.ids,i=2:=by
 unfold J7 at h
 split at h
 ·intro c hc i hi
  simp only [D0,List.mem_cons] at hc
  rcases hc with rfl|hc
  ·simpa [C.ids] using hi
  ·exact (Pr h c hc i hi).elim
 ·cases h
theorem ACn {X:Ctx} {f:Nat} {fn:Func} {body:Code} {c:Con} {cs pn:c.ι->List PC} (hm:P.follows .mixedOrders=true) (hT:TTok P X.tt) (hct:CTok P X.ct c.mono) (hil:InlOk P X.il) (hf:P.funcs[f]?=some fn) (hname:fn.name ≠ "runtime.NumGoroutine") (hb:fn.body=some body) (hn:fn.ntmps=X.n)
  (hsmall:∀ i,(c.res i).cells.length<=32) (hlen:∀ i,(c.args i).length+1<=X.n) (hpk:L7 X.hints=3) (hsh:∀ i,J7 (cs i)=true) (iv:c.ι->List (Nat×Inv))
  (h:∀ i,c.pre i->EW X body (iv i) (Ny (cs i) (c.args i)) (2+(cs i).length+((c.args i).flatMap DA.cells).length) λ e s _=>
   match e with
   | .exit _=>False
   | _=>ABR X.tt fn.results.toList s (D0 (cs i) 2) (pn i) (c.res i)):c.OkP P f cs pn:=by
 refine ⟨⟨fn,hf,hname,by rw [hb];rfl⟩,hsmall,λ i hi F w us B vs hargs hpin=>?_⟩
 have hbt:∃ bs,(cs i)[0]?=some (.bt bs):=by
  have:=hsh i
  unfold J7 at this
  split at this
  ·rename_i bs r e;exact ⟨bs,by rw [e];rfl⟩
  ·cases this
 have hini:=ABS (N:=X.n) (M:=c.mono) hargs hpin hbt (hlen i)
 refine calls_of_wp hf hb ?_
 rw [hn]
 refine Bn hm hT hct hil (.inr hpk.symm) body (al:=λ _=>True) (h i hi) (by omega) hini ?_
 intro e s' nx' m' a' w' h1 h2 h3
 have fin:ABR X.tt fn.results.toList s' (D0 (cs i) 2) (pn i) (c.res i)->a'.defers=[]/\∃ v,(results fn a'.tmps).run P w'=.ok v w'/\∃ rs bs,Ending.returned v=.returned ((c.res i).val rs)/\c.PostP i pn F w B vs rs bs w'/\(c.mono=true->w.drawn<=w'.drawn):=by
  intro hr
  refine ⟨h3.defers,?_⟩
  unfold ABR at hr
  split at hr
  case h_2=>exact hr.elim
  rename_i bx hbx
  split at hr
  case h_2=>exact hr.elim
  ·rename_i qs as hio hqs has
   split at hr
   ·exact hr.elim
   ·rename_i hchk
    simp only [Bool.and_eq_true] at hchk
    obtain ⟨⟨hshp,hnd⟩,htup⟩:=hchk
    split at hr
    ·exact hr.elim
    ·rename_i ps hps
     have hpq:=F7 hr
     have hp:∀ q ∈ ps,q:=λ q hq=>hpq q (List.mem_append.2 (.inl hq))
     have hend:=Qg hqs λ q hq=>hpq q (List.mem_append.2 (.inr hq))
     have hnd:=Dc hnd
     have hshp:=MM hshp
     let cs':=as.flatMap A.cells
     have hvals:(results fn a'.tmps).run P w'=.ok ((c.res i).val (cs'.map (C.den m'))) w':=by
      have e1:=Ex hT h3 has
      have e2:results fn a'.tmps=(do let vs ← fn.results.mapM (Fc a'.tmps);pure (if h:vs.size=1 then vs[0] else .tuple vs)):=by
       unfold results
       congr 1
      rw [e2]
      have e3:(fn.results.mapM (Fc a'.tmps)).run P w'=.ok (as.map (A.den m')).toArray w':=by
       rw [Array.mapM_eq_mapM_toList,Sem.run_map]
       rw [e1]
       rfl
      simp only [Sem.run_bind,e3,Result.andThen_ok,Sem.run_pure]
      congr 1
      have hva:=MN m' as
      rw [hshp] at hva
      unfold RT.val
      cases ht:(c.res i).tup with
      | true=>
       rw [ht] at htup
       simp only [Bool.not_eq_true'] at htup
       have hne:as.length≠1:=λ e=>by rw [e] at htup;simp at htup
       rw [dif_neg (by simp [hne])]
       simp [cs',hva]
      | false=>
       rw [ht] at htup
       have h1:=Nat.eq_of_beq_eq_true htup
       rw [dif_pos (by simp [h1])]
       obtain ⟨x,rfl⟩:∃ x,as=[x]:=by
        match as,h1 with
        | [x],_=>exact ⟨x,rfl⟩
       simp only [cs',hva]
       rfl
     obtain ⟨⟨g1,g2,e0,g3⟩,-,-⟩:=h3.en _ _ hbx
     have hβ:m'.β 1=B:=(h3.gh.2 1 ⟨by omega,by show 1<3;omega⟩).1
     have hε:m'.ε 2=(Fk B vs us).ε 2:=(h3.gh.2 2 ⟨by omega,by show 2<3;omega⟩).2
     rw [hβ] at g2 g3
     have hmine:∀ b,(ADY F w B vs us c.mono hargs.lt hpin.out hargs.st.1 hpin.sb).mine b->w.heap.size<=b∨b=B:=λ b hb=>by
      rcases hb with hb|⟨j,hb⟩
      ·exact .inl hb
      ·have hb:b ∈ (if j=0 then [B] else []):=hb
       split at hb
       ·exact .inr (List.mem_singleton.1 hb)
       ·cases hb
     obtain ⟨bs,c1,c2,c3⟩:=Ih h3 (λ b hb hne=>by
      rcases hmine b hb with h|rfl
      ·exact h
      ·exact absurd g2 hne) hbx (w1:=w) hio hps hp hnd
     have hboxd:=LN (F:=F) (w:=w) (m:=Fk B vs us) (id:=2) hpin.len hpin.rd (λ q u hu=>by
      have hq:=(List.getElem?_eq_some_iff.1 hu).1
      simp only [Fk]
      rw [if_pos (by omega)]
      simp [List.getD_eq_getElem?_getD,hu])
     have hturn:=Nz (m0:=Fk B vs us) (m:=m') hend (λ c0 hc0 j hj=>by rw [XK (hsh i) c0 hc0 j hj];exact hε)
     rw [hboxd.1] at hturn
     refine ⟨_,hvals,cs'.map (C.den m'),bs,rfl,⟨c3 bs,c1,λ b hb=>(c2 b hb).1,⟨e0,by rw [← hturn];exact g3⟩,h3.below.os,h3.below.tape,h3.below.output,h3.below.size,λ b hb hne=>h3.below.block b λ hq=>?_⟩,λ hmo=>h3.below.drawn hmo⟩
     rcases hmine b hq with h|h
     ·omega
     ·exact hne h
 cases e with
 | normal=>obtain ⟨d1,v,d2,d3⟩:=fin h2;exact ⟨d1,v,d2,d3⟩
 | ret=>obtain ⟨d1,v,d2,d3⟩:=fin h2;exact ⟨d1,v,d2,d3⟩
 | exit id=>exact h2.elim
theorem XL {X:Ctx} {f:Nat} {fn:Func} {body:Code} {c:Con} {cs pn:c.ι->List PC} (hm:P.follows .mixedOrders=true) (hT:TTok P X.tt) (hct:CTok P X.ct c.mono) (hf:P.funcs[f]?=some fn) (iv:c.ι->List (Nat×Inv))
  (h:∀ i,c.pre i->EW X body (iv i) (Ny (cs i) (c.args i)) (2+(cs i).length+((c.args i).flatMap DA.cells).length) λ e s _=>
   match e with
   | .exit _=>False
   | _=>ABR X.tt fn.results.toList s (D0 (cs i) 2) (pn i) (c.res i)) (hil:InlOk P X.il:=by exact InlOk.nil _) (hname:fn.name ≠ "runtime.NumGoroutine" := by decide) (hb:fn.body=some body:=by exact rfl) (hn:fn.ntmps=X.n:=by exact rfl)
  (hsmall:∀ i,(c.res i).cells.length<=32:=by exact λ _=>Nat.le_of_ble_eq_true rfl) (hlen:∀ i,(c.args i).length+1<=X.n:=by exact λ _=>Nat.le_of_ble_eq_true rfl) (hpk:L7 X.hints=3:=by rfl) (hsh:∀ i,J7 (cs i)=true:=by exact λ _=>rfl):c.OkP P f cs pn:=
 ACn hm hT hct hil hf hname hb hn hsmall hlen hpk hsh iv h
def XM:List PC->List C->Option (List Prop)
 | .im v::p,.im u::b=>(XM p b).map ((u=v)::·)
 | .bt _::p,.ext k::b=>match Nat.beq k 1 with|true=>XM p b|false=>none
 | [],[]=>some []
 | _,_=>none
def ABT (tt:TT) (rvs:List ResultVar) (s:St) (pc:List PC):Prop:=
 match F8 tt s rvs with
 | some [.one (.bp k 0)]=>
  match lkp s.en k with
  | some (.box bx)=>match XM pc bx with|some qs=>T6 qs|none=>False
  | _=>False
 | _=>False
theorem N2 {m:Maps} {v:Value} (hv:m.ε 1=v):∀ {pc:List PC} {bx:List C} {qs:List Prop},XM pc bx=some qs->(∀ q ∈ qs,q)->bx.map (C.den m)=P5 v pc
 | [],[],_,_,_=>rfl
 | .im x::p,.im u::b,qs,h,hq=>by
  simp only [XM] at h
  obtain ⟨qs',h1,rfl⟩:=Option.map_eq_some_iff.1 h
  have:=N2 hv h1 λ q hq'=>hq q (List.mem_cons_of_mem _ hq')
  simp only [List.map_cons,P5,this,C.den]
  rw [show u=x from hq _ (by simp)]
 | .bt _::p,.ext k::b,qs,h,hq=>by
  simp only [XM] at h
  split at h
  ·rename_i e
   have e:=Nat.eq_of_beq_eq_true e
   subst e
   have:=N2 hv h hq
   simp only [List.map_cons,P5,this,C.den,hv]
  ·cases h
theorem ACo {X : Ctx} {f : Nat} {fn : Func} {body : Code} {c : Con} {pc : c.ι → List PC} (hm : P.follows .mixedOrders = true) (hT : TTok P X.tt) (hct : CTok P X.ct c.mono) (hil : InlOk P X.il) (hf : P.funcs[f]? = some fn) (hname : fn.name ≠ "runtime.NumGoroutine") (hb : fn.body = some body) (hn : fn.ntmps = X.n)
    (hlen : ∀ i, (c.args i).length ≤ X.n) (hpk : L7 X.hints = 2) (hone : ∀ i, ((c.args i).flatMap DA.cells).isEmpty = false) (iv : c.ι → List (Nat × Inv))
    (h : ∀ i, c.pre i → EW X body (iv i) (Jk [] (c.args i)) (1 + ((c.args i).flatMap DA.cells).length) fun e s _ =>
      match e with
      | .exit _ => False
      | _ => ABT X.tt fn.results.toList s (pc i)) : c.OkN P f pc := by
  refine ⟨⟨fn, hf, hname, by rw [hb]; rfl⟩, fun i hi F w us hargs => ?_⟩
  have hini := T9 (N := X.n) (M := c.mono) hargs (hlen i)
  have hne : 0 < ((c.args i).flatMap DA.cells).length := by
    have := hone i
    cases hq : (c.args i).flatMap DA.cells with
    | nil => rw [hq] at this; cases this
    | cons _ _ => simp
  let m0 : Maps := ⟨fun _ => 0, fun i => us.getD (i - 1) undef, fun _ => 0⟩
  let Γ : Env := { base := w.heap.size, mono := c.mono, G := F, K := 2, m0 := m0
                   hG := fun b hb hq => by
                     rcases hq with hq | ⟨j, hq⟩
                     · have := hargs.lt b hb; omega
                     · cases hq
                   hst := fun b hb hq => by
                     rcases hq with hq | ⟨j, hq⟩
                     · have := hargs.st.1 b hb; omega
                     · cases hq }
  have hini2 : R Γ X.n w (alN (1 + ((c.args i).flatMap DA.cells).length)) (Jk [] (c.args i)) m0 { tmps := (BN (c.args i) us).toArray ++ Array.replicate (X.n - (BN (c.args i) us).toArray.size) undef, defers := [] } w :=
    ⟨hini.size, rfl, Nat.le_refl _, Bel.refl _ _, hini.tm, fun i E hE => by
      obtain ⟨e1, e2, e3⟩ := hini.en i E hE
      refine ⟨?_, e2, e3⟩
      have hsh : (∃ e ts rows, E = .view e ts rows []) ∨ ∃ d, E = .ro d [] := (Ea hE).2
      rcases hsh with ⟨e, ts, rows, rfl⟩ | ⟨d, rfl⟩
      · obtain ⟨F', f1, f2⟩ := e1
        refine ⟨F', f1, fun b hb => ?_⟩
        rcases f2 b hb with g | ⟨g, g2⟩ | ⟨g, g2⟩
        · exact .inl g
        · exact .inr (.inl ⟨g.imp id fun ⟨j, g⟩ => by simp at g, g2⟩)
        · simp at g2
      · obtain ⟨F', f1, f2⟩ := e1
        refine ⟨F', f1, fun b hb => ?_⟩
        rcases f2 b hb with g | ⟨g, g2⟩ | ⟨g, g2⟩
        · exact .inl g
        · exact .inr (.inl ⟨g.imp id fun ⟨j, g⟩ => by simp at g, g2⟩)
        · simp at g2, hini.pos, hini.st, fun i h1 h2 => by
      have h2 : i < 2 := h2
      unfold alN; omega, fun i hi => ⟨rfl, rfl⟩⟩
  refine calls_of_wp hf hb ?_
  rw [hn]
  refine Bn hm hT hct hil (.inr hpk.symm) body (al := fun _ => True) (h i hi) (by omega) hini2 ?_
  intro e s' nx' m' a' w' h1 h2 h3
  have fin : ABT X.tt fn.results.toList s' (pc i) → a'.defers = [] ∧ ∃ v, (results fn a'.tmps).run P w' = .ok v w' ∧ ∃ B, Ending.returned v = .returned (.pointer (some ⟨B, 0, none⟩)) ∧ c.PostN i pc w us B w' ∧ (c.mono = true → w.drawn ≤ w'.drawn) := by
    intro hr
    refine ⟨h3.defers, ?_⟩
    unfold ABT at hr
    split at hr
    case h_2 => exact hr.elim
    rename_i k has
    split at hr
    case h_2 => exact hr.elim
    rename_i bx hbx
    split at hr
    case h_2 => exact hr.elim
    rename_i qs hqs
    have hq := F7 hr
    have hvals : (results fn a'.tmps).run P w' = .ok (.pointer (some ⟨m'.β k, 0, none⟩)) w' := by
      have e1 := Ex hT h3 has
      have e2 : results fn a'.tmps = (do let vs ← fn.results.mapM (Fc a'.tmps); pure (if h : vs.size = 1 then vs[0] else .tuple vs)) := by
        unfold results
        congr 1
      rw [e2]
      have e3 : (fn.results.mapM (Fc a'.tmps)).run P w' = .ok ([A.one (.bp k 0)].map (A.den m')).toArray w' := by
        rw [Array.mapM_eq_mapM_toList, Sem.run_map]
        rw [e1]
        rfl
      simp only [Sem.run_bind, e3, Result.andThen_ok, Sem.run_pure]
      rw [dif_pos (by simp)]
      simp [A.den, C.den]
    obtain ⟨⟨g1, g2, e0, g3⟩, -, -⟩ := h3.en _ _ hbx
    have hmine : ∀ b, Γ.mine b → w.heap.size ≤ b := fun b hb => hb.resolve_right fun ⟨j, hj⟩ => by cases hj
    have hε : m'.ε 1 = us.headD undef := by
      have := (h3.gh.2 1 ⟨by omega, by show 1 < 2; omega⟩).2
      rw [this]
      show us.getD 0 undef = _
      cases us <;> rfl
    refine ⟨_, hvals, m'.β k, rfl, ⟨hmine _ g1, ⟨e0, ?_⟩, h3.below.os, h3.below.tape, h3.below.output, h3.below.size, fun b hb => h3.below.block b fun hq => ?_⟩, fun hmo => h3.below.drawn hmo⟩
    · rw [← N2 hε hqs hq]; exact g3
    · have := hmine b hq; omega
  cases e with
  | normal => obtain ⟨d1, v, d2, d3⟩ := fin h2; exact ⟨d1, v, d2, d3⟩
  | ret => obtain ⟨d1, v, d2, d3⟩ := fin h2; exact ⟨d1, v, d2, d3⟩
  | exit id => exact h2.elim
theorem ADZ {X:Ctx} {f:Nat} {fn:Func} {body:Code} {c:Con} {pc:c.ι->List PC} (hm:P.follows .mixedOrders=true) (hT:TTok P X.tt) (hct:CTok P X.ct c.mono) (hf:P.funcs[f]?=some fn) (iv:c.ι->List (Nat×Inv))
  (h:∀ i,c.pre i->EW X body (iv i) (Jk [] (c.args i)) (1+((c.args i).flatMap DA.cells).length) λ e s _=>
   match e with
   | .exit _=>False
   | _=>ABT X.tt fn.results.toList s (pc i)) (hil:InlOk P X.il:=by exact InlOk.nil _) (hname:fn.name ≠ "runtime.NumGoroutine" := by decide) (hb:fn.body=some body:=by exact rfl) (hn:fn.ntmps=X.n:=by exact rfl)
  (hlen:∀ i,(c.args i).length<=X.n:=by exact λ _=>Nat.le_of_ble_eq_true rfl) (hpk:L7 X.hints=2:=by rfl) (hone:∀ i,((c.args i).flatMap DA.cells).isEmpty=false:=by exact λ _=>rfl):c.OkN P f pc:=
 ACo hm hT hct hil hf hname hb hn hlen hpk hone iv h
end
section
open Go.Deep Go.ChangeShapes Go.WideShapes
variable {H : Type} {enc : TypeId × Value → H} {P : Program} {w : World} {held : Bool}
theorem Uj {spare:Nat->Bool} {t e fuel:Nat} {v:Value} {x:DataW H×List MemPlace} (ht:P.underlying t=some (.slice e)) (he:P.underlying e=some (.int .u8)) (hc:P.cellsOf e=1) (hx:DataW.trod enc P w 0 spare held fuel t [v]=some x):∃ bs:List UInt8,Gb (λ b=>b<w.heap.size) w bs v:=by
 rcases open_slice ht hx with ⟨hcs,_⟩|⟨a,len,cap,m,n,D,Pl,hcs,_,hle,hm,hmm,_,hel⟩
 ·obtain rfl:v=_:=by simpa using hcs
  exact ⟨[],none,0,rfl,λ j hj=>by simp at hj⟩
 ·obtain rfl:v=_:=by simpa using hcs
  have hlm:len<=m:=by rw [hmm];split <;> omega
  obtain ⟨g,hg⟩:=choose_lt (n:=len) (p:=λ i (k:UInt8)=>w.cell? (a.add i)=some (.int .u8 ((k.toNat:Nat):Int))) λ i hi=>by
   obtain ⟨r,h1,h2⟩:=hel i (by omega)
   obtain ⟨k,rfl,_,hw⟩:=DataW.trod_int he h2
   have hw:(decide ((0:Int)<=k) && decide (k<=255))=true:=hw
   simp at hw
   refine ⟨UInt8.ofNat k.toNat,?_⟩
   have c0:=(World.cells?_some h1).2.2 0 (by rw [hc];omega)
   rw [hc,Nat.mul_one] at c0
   have e1:(a.add i).add 0=a.add i:=by unfold Addr.add;simp
   rw [e1] at c0
   rw [c0]
   have:(UInt8.ofNat k.toNat).toNat=k.toNat:=by rw [UInt8.toNat_ofNat'];omega
   rw [this]
   simp only [List.getElem?_cons_zero]
   rw [Int.toNat_of_nonneg hw.1]
  refine ⟨(List.range len).map g,some a,cap,by simp,λ j hj=>?_⟩
  simp only [List.length_map,List.length_range] at hj
  have h1:=hg j hj
  have h0:=hg 0 (by omega)
  rw [show a.add 0=a by unfold Addr.add;simp] at h0
  obtain ⟨b,off,rfl,hb⟩:=R7 h0
  rw [AAx] at h1
  exact ⟨b,off,rfl,hb,hb,by rw [h1];simp [List.getD,hj]⟩
theorem Uk {c:Con} {f:Nat} (hc:c.Ok P f) (hmu:c.mu=[]) (i:c.ι) (hp:c.pre i) (hres:c.res i=⟨false,[none],[.im (.bool true)]⟩) {bs:List UInt8} {v:Value} (ha:c.args i=[.one (.ro (.bytes bs))]) (h:Gb (λ b=>b<w.heap.size) w bs v) (hst:Stood w:=by exact ⟨λ _ hb=>(List.not_mem_nil hb).elim,trivial⟩) :
  Calls P f #[v] w λ e w'=>e=.returned (.bool true)/\Below w.heap.size w w':=by
 have hv:(BN (c.args i) [v]).toArray=#[v]:=by rw [ha];rfl
 rw [← hv]
 refine (hc.calls i hp (λ b=>b<w.heap.size) w [v] (λ _=>[]) ⟨by rw [ha];rfl,λ _ h=>h,λ p d u hd hu _=>?_,λ j p hj=>?_,λ a b x _ _ _ hx=>by simp at hx,λ j b _ hb=>by simp at hb,hst,λ j b _ hb=>by simp at hb⟩).mono ?_
 ·rw [ha] at hd
  have hp0:p=0:=by have:=(List.getElem?_eq_some_iff.1 hu).1;simp at this;exact this
  subst hp0
  simp [DA.cells] at hd hu
  subst hd
  subst hu
  exact h
 ·rw [hmu] at hj;simp at hj
 ·rintro e w' ⟨rs,bs',rfl,hpost⟩
  have hr:=hpost.res
  rw [hres] at hr
  refine ⟨?_,hpost.os,hpost.tape,hpost.output,hpost.size,λ b hb=>hpost.keep b hb (λ j hj=>by rw [hmu] at hj;simp at hj)⟩
  rw [hres]
  cases rs with
  | nil=>simp [BP] at hr
  | cons r rs=>
   obtain ⟨rfl,hr⟩:=(by simpa only [BP] using hr:r=_/\_)
   rfl
end
end Go.Proofs.YtkffpiaagjcmpaaGreat
