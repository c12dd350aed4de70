import Derived.Test.YtndnhlhnjiopfaaGreatSgCon
import Derived.Test.YtndnhlhnjiopfaaGreatSgGeo
import Derived.Test.YtndnhlhnjiopfaaGreatSgDsc
import Derived.Test.YtndnhlhnjiopfaaGreatSgRkG
namespace Go.Proofs.YtndnhlhnjiopfaaGreat
set_option linter.unusedVariables false
set_option linter.unusedSimpArgs false
theorem Vr {a b:Rat} : 0<=Dr a b↔b<=a:=by
 unfold Dr
 split
 ·exact ⟨λ h=>by omega,λ h=>by grind⟩
 ·split
  ·exact ⟨λ _=>by grind,λ _=>by omega⟩
  ·exact ⟨λ _=>by grind,λ _=>by omega⟩
theorem Vs {a b:Rat} : Dr a b<=0↔a<=b:=by
 unfold Dr
 split
 ·exact ⟨λ h=>by grind,λ h=>by omega⟩
 ·split
  ·exact ⟨λ _=>by grind,λ _=>by omega⟩
  ·exact ⟨λ h=>by omega,λ h=>by grind⟩
theorem IF {a b:Rat} : Dr a b=0↔a=b:=by
 unfold Dr
 split
 ·exact ⟨λ h=>by omega,λ h=>by grind⟩
 ·split
  ·rename_i h;exact ⟨λ _=>h,λ _=>rfl⟩
  ·rename_i h;exact ⟨λ h'=>by omega,λ h'=>absurd h' h⟩
theorem PD {a b:Rat} : a*b<0↔(0<a/\b<0)∨(a<0/\0<b):=by
 refine ⟨EL,?_⟩
 rintro (⟨h1,h2⟩|⟨h1,h2⟩)
 ·have:=Rat.mul_pos h1 (show 0 < -b by grind)
  grind
 ·have:=Rat.mul_pos (show 0 < -a by grind) h2
  grind
theorem PE (a:Rat):(Dr a 0=-1/\a<0)∨(Dr a 0=0/\a=0)∨(Dr a 0=1/\0<a):=by
 unfold Dr
 by_cases h1:a<0
 ·rw [if_pos h1];exact .inl ⟨rfl,h1⟩
 ·rw [if_neg h1]
  by_cases h2:a=0
  ·rw [if_pos h2];exact .inr (.inl ⟨rfl,h2⟩)
  ·rw [if_neg h2];exact .inr (.inr ⟨rfl,by grind⟩)
theorem PF {a b:Rat} : Dr a 0*Dr b 0<0↔a*b<0:=by
 rw [PD]
 rcases PE a with ⟨e,h⟩|⟨e,h⟩|⟨e,h⟩ <;> rcases PE b with ⟨e',h'⟩|⟨e',h'⟩|⟨e',h'⟩ <;> rw [e,e'] <;> constructor <;> intro q <;> first|omega|grind
def PqAt (p:Pq) (q:Q2):Prop:=FrS 20 p.x q.1/\FrS 20 p.y q.2
theorem PqAt.good {p:Pq} {q:Q2} (h:PqAt p q):p.good=true:=by
 unfold Pq.good;rw [h.1.good,h.2.good];rfl
def qv (v:V2):Q2:=((v.1:Rat),(v.2:Rat))
theorem RY {v:V2} (h:AP v=true):PqAt (ptV v) (qv v):=⟨(UZ h).1.mono (by omega),(UZ h).2.mono (by omega)⟩
theorem IG {p q r:Pq} {a b c:Q2} (hp:PqAt p a) (hq:PqAt q b) (hr:PqAt r c):Bh p q r=Dr (crR a b c) 0:=by
 have h:=((hq.1.sub hp.1 (by omega)).mul (hr.2.sub hp.2 (by omega)) (by omega)).sub ((hq.2.sub hp.2 (by omega)).mul (hr.1.sub hp.1 (by omega)) (by omega)) (by omega)
 unfold Bh
 rw [h.sgn];rfl
theorem Uq {x a b:Fr} {u v w:Rat} (hx:FrS 20 x u) (ha:FrS 20 a v) (hb:FrS 20 b w):LQ x a b=true↔btw u v w:=by
 unfold LQ btw
 rw [Bool.and_eq_true,decide_eq_true_eq,decide_eq_true_eq,hx.cmp (ha.min hb),hx.cmp (ha.max hb),ge_iff_le,Vr,Vs]
 have e1:Min.min v w=if v<=w then v else w:=rfl
 have e2:Max.max v w=if v<=w then w else v:=rfl
 rw [e1,e2]
 by_cases h:v<=w
 ·rw [if_pos h,if_pos h];grind
 ·rw [if_neg h,if_neg h];grind
theorem J9 {p a b:Pq} {x u v:Q2} (hp:PqAt p x) (ha:PqAt a u) (hb:PqAt b v):B4 p a b=true↔Je x u v:=by
 unfold B4 Je
 rw [Bool.and_eq_true,Uq hp.1 ha.1 hb.1,Uq hp.2 ha.2 hb.2]
theorem KA {p q r t:Pq} {a b c d:Q2} (hp:PqAt p a) (hq:PqAt q b) (hr:PqAt r c) (ht:PqAt t d):AR p q r t=true↔∃ x,BP x a b/\BP x c d:=by
 rw [← Uf]
 unfold AR RP
 simp only [Bool.or_eq_true,Bool.and_eq_true,decide_eq_true_eq]
 rw [IG hp hq hr,IG hp hq ht,IG hr ht hp,IG hr ht hq,J9 hr hp hq,J9 ht hp hq,J9 hp hr ht,J9 hq hr ht,PF,PF,IF,IF,IF,IF]
def Ur (l:List V2) (x:Q2):Prop:=∀ i,i<l.length->0<=crR (qv (l.getD i (0,0))) (qv (l.getD ((i+1)%l.length) (0,0))) x
theorem QS {l:List V2} (hl:l.all AP=true) {p:Pq} {x:Q2} (hp:PqAt p x):Gy l p≥0↔Ur l x:=by
 have hs:∀ i,i<l.length->(0<=Bh (Fo l i) (Fo l ((i+1)%l.length)) p↔0<=crR (qv (l.getD i (0,0))) (qv (l.getD ((i+1)%l.length) (0,0))) x):=λ i hi=>by
  unfold Fo
  rw [IG (RY (B0 hl hi)) (RY (B0 hl (Nat.mod_lt _ (by omega)))) hp,Vg]
 constructor
 ·intro h i hi
  exact (hs i hi).1 (Oy _ h i hi)
 ·intro h
  exact RN _ λ i hi=>(hs i hi).2 (h i hi)
theorem NV (a b c:V2):crR (qv a) (qv b) (qv c)=((AZ a b c:Int):Rat):=by
 unfold crR qv AZ
 push_cast
 grind
theorem DZ {x a b:Q2} (h:BP x a b):BP x b a:=by
 obtain ⟨s,h0,h1,rfl⟩:=h
 refine ⟨1-s,by grind,by grind,?_⟩
 unfold atQ
 ext <;> simp only <;> grind
theorem KB (a b:Q2):BP a a b:=⟨0,by grind,by grind,(Ud a b).symm⟩
theorem IH {z x a b:Q2} (h:BP z a x) (hx:BP x a b):BP z a b:=by
 obtain ⟨s,h0,h1,rfl⟩:=hx
 obtain ⟨t,t0,t1,rfl⟩:=h
 refine ⟨t*s,FN t0 h0,?_,?_⟩
 ·have:=FN (show 0<=1-t by grind) h0
  grind
 ·unfold atQ
  ext <;> simp only <;> grind
def Jn (a b:Q2):Q2:=((a.1+b.1)*(1/2),(a.2+b.2)*(1/2))
theorem QT (a b:Q2):BP (Jn a b) a b:=⟨1/2,by grind,by grind,by unfold atQ Jn;ext <;> simp only <;> grind⟩
theorem Us (a b:Q2):Jn a b=Jn b a:=by unfold Jn;ext <;> simp only <;> grind
theorem QU {x a b:Q2} : BP x a b↔BP x a (Jn a b)∨BP x (Jn a b) b:=by
 constructor
 ·rintro ⟨s,h0,h1,rfl⟩
  by_cases h:s<=1/2
  ·refine .inl ⟨2*s,by grind,by grind,?_⟩
   unfold atQ Jn
   ext <;> simp only <;> grind
  ·refine .inr ⟨2*s-1,by grind,by grind,?_⟩
   unfold atQ Jn
   ext <;> simp only <;> grind
 ·rintro (h|h)
  ·exact IH h (QT a b)
  ·refine DZ (IH (DZ h) ?_)
   rw [Us];exact QT b a
theorem Ut {l:List V2} (hl:Af l=true) {i:Nat} (hi:i<l.length) {z:Q2} (hz:BP z (qv (l.getD i (0,0))) (qv (l.getD ((i+1)%l.length) (0,0)))):Ur l z:=by
 intro j hj
 obtain ⟨s,h0,h1,rfl⟩:=hz
 rw [Mh,NV,NV]
 have q1:=Mg hl hj hi
 have q2:=Mg hl hj (Ox hi)
 have r1:(0:Rat)<=((AZ (l.getD j (0,0)) (l.getD ((j+1)%l.length) (0,0)) (l.getD i (0,0)):Int):Rat):=by exact_mod_cast q1
 have r2:(0:Rat)<=((AZ (l.getD j (0,0)) (l.getD ((j+1)%l.length) (0,0)) (l.getD ((i+1)%l.length) (0,0)):Int):Rat):=by exact_mod_cast q2
 have k1:=FN (show 0<=1-s by grind) r1
 have k2:=FN h0 r2
 grind
theorem RZ {f:Nat->Q2×Q2} {x y:Q2} : ∀ k,(∀ i,i<k->0<=crR (f i).1 (f i).2 x)->∃ z,BP z x y/\(∀ i,i<k->0<=crR (f i).1 (f i).2 z)/\(z=y∨∃ i,i<k/\crR (f i).1 (f i).2 z=0)
 | 0,_=>⟨y,⟨1,by grind,by grind,(Ue x y).symm⟩,λ i hi=>by omega,.inl rfl⟩
 | k+1,h=>by
  obtain ⟨z,z1,z2,z3⟩:=RZ (f:=f) (x:=x) (y:=y) k λ i hi=>h i (by omega)
  by_cases c:0<=crR (f k).1 (f k).2 z
  ·refine ⟨z,z1,λ i hi=>?_,z3.imp id λ ⟨i,hi,e⟩=>⟨i,by omega,e⟩⟩
   by_cases e:i=k
   ·rw [e];exact c
   ·exact z2 i (by omega)
  ·obtain ⟨u,hu⟩:∃ u,crR (f k).1 (f k).2 x=u:=⟨_,rfl⟩
   obtain ⟨v,hv⟩:∃ v,crR (f k).1 (f k).2 z=v:=⟨_,rfl⟩
   have u0:0<=u:=by rw [← hu];exact h k (by omega)
   have v0:v<0:=by rw [hv] at c;grind
   have hd:0<u-v:=by grind
   have hne:u-v≠0:=by grind
   have key:(1-u/(u-v))*u+u/(u-v)*v=0:=by
    have:=Rat.div_mul_cancel (a:=u) hne
    grind
   have t0:=Eb u0 hd
   have t1:=CX (show u<=u-v by grind) hd
   refine ⟨atQ x z (u/(u-v)),IH ⟨_,t0,t1,rfl⟩ z1,λ i hi=>?_,.inr ⟨k,by omega,?_⟩⟩
   ·rw [Mh]
    by_cases e:i=k
    ·rw [e,hu,hv,key];exact Rat.le_refl
    ·have k1:=FN (show 0<=1-u/(u-v) by grind) (h i (by omega))
     have k2:=FN t0 (z2 i (by omega))
     grind
   ·rw [Mh,hu,hv,key]
theorem W1 {i n:Nat} (hi:i<n) (h3:3<=n):i≠((i+1)%n+1)%n:=by
 by_cases h:i+1<n
 ·rw [Nat.mod_eq_of_lt h]
  by_cases h2:i+1+1<n
  ·rw [Nat.mod_eq_of_lt h2];omega
  ·rw [show i+1+1=n by omega,Nat.mod_self];omega
 ·rw [show i+1=n by omega,Nat.mod_self,Nat.mod_eq_of_lt (by omega)];omega
theorem Vt {A B z:Q2} (h:crR A B z=0) (hne:A≠B):∃ s:Rat,z=atQ A B s:=by
 obtain ⟨a1,a2⟩:=A
 obtain ⟨b1,b2⟩:=B
 obtain ⟨c1,c2⟩:=z
 unfold crR at h
 simp only at h
 by_cases hx:a1=b1
 ·have hy:a2≠b2:=λ e=>hne (by rw [hx,e])
  have hd:b2-a2≠0:=by grind
  refine ⟨(c2-a2)/(b2-a2),?_⟩
  unfold atQ;simp only;ext <;> grind
 ·have hd:b1-a1≠0:=by grind
  refine ⟨(c1-a1)/(b1-a1),?_⟩
  unfold atQ;simp only;ext <;> grind
theorem WI {s c:Rat} (h:0<=s*c) (hc:0<c):0<=s:=by
 apply Classical.byContradiction
 intro hn
 have:=Rat.mul_pos (show 0 < -s by grind) hc
 grind
theorem Vu {l:List V2} (hl:Af l=true) {i:Nat} (hi:i<l.length) {z:Q2} (hz:Ur l z) (h0:crR (qv (l.getD i (0,0))) (qv (l.getD ((i+1)%l.length) (0,0))) z=0):BP z (qv (l.getD i (0,0))) (qv (l.getD ((i+1)%l.length) (0,0))):=by
 obtain ⟨⟨h3,-⟩,-,hs⟩:=LN.1 hl
 obtain ⟨j,hj,ej,n1,n2⟩:=Vf hi h3
 have g1:=hz j hj
 have g2:=hz _ (Ox hi)
 have s1:=hs j ((i+1)%l.length) hj (Ox hi) n1 (by rw [ej];exact n2)
 have s2:=hs ((i+1)%l.length) i (Ox hi) hi (λ e=>n2 e.symm) (W1 hi h3)
 rw [ej] at g1 s1
 have r1:(0:Rat)<((AZ (l.getD j (0,0)) (l.getD i (0,0)) (l.getD ((i+1)%l.length) (0,0)):Int):Rat):=by exact_mod_cast s1
 have r2:(0:Rat)<((AZ (l.getD ((i+1)%l.length) (0,0)) (l.getD (((i+1)%l.length+1)%l.length) (0,0)) (l.getD i (0,0)):Int):Rat):=by exact_mod_cast s2
 rw [← NV] at r1 r2
 generalize qv (l.getD j (0,0))=P at *
 generalize qv (l.getD (((i+1)%l.length+1)%l.length) (0,0))=N at *
 generalize qv (l.getD ((i+1)%l.length) (0,0))=B at *
 generalize qv (l.getD i (0,0))=A at *
 have hne:A≠B:=by
  rintro rfl
  unfold crR at r1;grind
 obtain ⟨s,rfl⟩:=Vt h0 hne
 rw [Mh] at g1 g2
 have z1:crR P A A=0:=by unfold crR;grind
 have z2:crR B N B=0:=by unfold crR;grind
 rw [z1] at g1
 rw [z2] at g2
 refine ⟨s,WI (c:=crR P A B) (by grind) r1,?_,rfl⟩
 have:=WI (s:=1-s) (c:=crR B N A) (by grind) r2
 grind
theorem I6 {l:List V2} (hl:Af l=true) {p q:Pq} {a b:Q2} (hp:PqAt p a) (hq:PqAt q b):smB l p q=true↔∃ x,BP x a b/\Ur l x:=by
 have hv:=(O5 hl).2.2
 have he:∀ i,i<l.length->(GO l p q i=true↔∃ x,BP x a b/\BP x (qv (l.getD i (0,0))) (qv (l.getD ((i+1)%l.length) (0,0)))):=λ i hi=>
  KA hp hq (RY (B0 hv hi)) (RY (B0 hv (Ox hi)))
 unfold smB
 rw [Bool.or_eq_true,Bool.or_eq_true,decide_eq_true_eq,decide_eq_true_eq,QS hv hp,QS hv hq,List.any_eq_true]
 constructor
 ·rintro (h|h|⟨i,hi,h⟩)
  ·exact ⟨a,KB a b,h⟩
  ·exact ⟨b,DZ (KB b a),h⟩
  ·have hi:=List.mem_range.1 hi
   obtain ⟨x,h1,h2⟩:=(he i hi).1 h
   exact ⟨x,h1,Ut hl hi h2⟩
 ·rintro ⟨x,h1,h2⟩
  by_cases c:Ur l a
  ·exact .inl c
  ·refine .inr (.inr ?_)
   obtain ⟨z,z1,z2,z3⟩:=RZ (f:=λ i=>(qv (l.getD i (0,0)),qv (l.getD ((i+1)%l.length) (0,0)))) (x:=x) (y:=a) l.length h2
   rcases z3 with rfl|⟨i,hi,e⟩
   ·exact absurd z2 c
   ·exact ⟨i,List.mem_range.2 hi,(he i hi).2 ⟨z,IH (DZ z1) h1,Vu hl hi z2 e⟩⟩
structure SegLaw (l:List V2) (p q r t m:Pq):Prop where
 s1:AR p q m r=true
 s2:AR p q r t=AR t r q p
 s3:smB l p q=smB l q p
 s4:(smB l p m || smB l m q)=smB l p q
 s5:Gy l p≥0->smB l p q=true
theorem Vv {l:List V2} (hl:Af l=true) {p q r t m:Pq} {a b c d:Q2} (hp:PqAt p a) (hq:PqAt q b) (hr:PqAt r c) (ht:PqAt t d) (hm:PqAt m (Jn a b)):SegLaw l p q r t m:=by
 have hv:=(O5 hl).2.2
 refine ⟨(KA hp hq hm hr).2 ⟨_,QT a b,KB _ _⟩,?_,?_,?_,λ h=>(I6 hl hp hq).2 ⟨a,KB a b,(QS hv hp).1 h⟩⟩
 ·rw [Bool.eq_iff_iff,KA hp hq hr ht,KA ht hr hq hp]
  exact ⟨λ ⟨x,h1,h2⟩=>⟨x,DZ h2,DZ h1⟩,λ ⟨x,h1,h2⟩=>⟨x,DZ h2,DZ h1⟩⟩
 ·rw [Bool.eq_iff_iff,I6 hl hp hq,I6 hl hq hp]
  exact ⟨λ ⟨x,h1,h2⟩=>⟨x,DZ h1,h2⟩,λ ⟨x,h1,h2⟩=>⟨x,DZ h1,h2⟩⟩
 ·rw [Bool.eq_iff_iff,Bool.or_eq_true,I6 hl hp hm,I6 hl hm hq,I6 hl hp hq]
  constructor
  ·rintro (⟨x,h1,h2⟩|⟨x,h1,h2⟩)
   ·exact ⟨x,QU.2 (.inl h1),h2⟩
   ·exact ⟨x,QU.2 (.inr h1),h2⟩
  ·rintro ⟨x,h1,h2⟩
   rcases QU.1 h1 with h|h
   ·exact .inl ⟨x,h,h2⟩
   ·exact .inr ⟨x,h,h2⟩
end Go.Proofs.YtndnhlhnjiopfaaGreat
