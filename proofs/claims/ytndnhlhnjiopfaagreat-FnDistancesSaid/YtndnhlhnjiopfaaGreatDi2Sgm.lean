import Derived.Test.YtndnhlhnjiopfaaGreatDi2Con
import Derived.Test.YtndnhlhnjiopfaaGreatDi2Geo
import Derived.Test.YtndnhlhnjiopfaaGreatDi2Dsc
import Derived.Test.YtndnhlhnjiopfaaGreatDi2RkG
namespace Go.Proofs.YtndnhlhnjiopfaaGreat
set_option linter.unusedVariables false
set_option linter.unusedSimpArgs false
theorem W3 {a b:Rat} : 0<=EM a b↔b<=a:=by
 unfold EM
 split
 ·exact ⟨λ h=>by omega,λ h=>by grind⟩
 ·split
  ·exact ⟨λ _=>by grind,λ _=>by omega⟩
  ·exact ⟨λ _=>by grind,λ _=>by omega⟩
theorem Ks {a b:Rat} : EM a b<=0↔a<=b:=by
 unfold EM
 split
 ·exact ⟨λ h=>by grind,λ h=>by omega⟩
 ·split
  ·exact ⟨λ _=>by grind,λ _=>by omega⟩
  ·exact ⟨λ h=>by omega,λ h=>by grind⟩
theorem F3 {a b:Rat} : EM a b=0↔a=b:=by
 unfold EM
 split
 ·exact ⟨λ h=>by omega,λ h=>by grind⟩
 ·split
  ·rename_i h;exact ⟨λ _=>h,λ _=>rfl⟩
  ·rename_i h;exact ⟨λ h'=>by omega,λ h'=>absurd h' h⟩
theorem P7 {a b:Rat} : a*b<0↔(0<a/\b<0)∨(a<0/\0<b):=by
 refine ⟨Eu,?_⟩
 rintro (⟨h1,h2⟩|⟨h1,h2⟩)
 ·have:=Rat.mul_pos h1 (show 0 < -b by grind)
  grind
 ·have:=Rat.mul_pos (show 0 < -a by grind) h2
  grind
theorem P8 (a:Rat):(EM a 0=-1/\a<0)∨(EM a 0=0/\a=0)∨(EM a 0=1/\0<a):=by
 unfold EM
 by_cases h1:a<0
 ·rw [if_pos h1];exact .inl ⟨rfl,h1⟩
 ·rw [if_neg h1]
  by_cases h2:a=0
  ·rw [if_pos h2];exact .inr (.inl ⟨rfl,h2⟩)
  ·rw [if_neg h2];exact .inr (.inr ⟨rfl,by grind⟩)
theorem P9 {a b:Rat} : EM a 0*EM b 0<0↔a*b<0:=by
 rw [P7]
 rcases P8 a with ⟨e,h⟩|⟨e,h⟩|⟨e,h⟩ <;> rcases P8 b with ⟨e',h'⟩|⟨e',h'⟩|⟨e',h'⟩ <;> rw [e,e'] <;> constructor <;> intro q <;> first|omega|grind
def PqAt (p:Pq) (q:Q2):Prop:=FrS 20 p.x q.1/\FrS 20 p.y q.2
theorem PqAt.good {p:Pq} {q:Q2} (h:PqAt p q):p.good=true:=by
 unfold Pq.good;rw [h.1.good,h.2.good];rfl
def qv (v:V2):Q2:=((v.1:Rat),(v.2:Rat))
theorem Se {v:V2} (h:AQ v=true):PqAt (ptV v) (qv v):=⟨(Vi h).1.mono (by omega),(Vi h).2.mono (by omega)⟩
theorem I0 {p q r:Pq} {a b c:Q2} (hp:PqAt p a) (hq:PqAt q b) (hr:PqAt r c):Bz p q r=EM (crR a b c) 0:=by
 have h:=((hq.1.sub hp.1 (by omega)).mul (hr.2.sub hp.2 (by omega)) (by omega)).sub ((hq.2.sub hp.2 (by omega)).mul (hr.1.sub hp.1 (by omega)) (by omega)) (by omega)
 unfold Bz
 rw [h.sgn];rfl
theorem Vy {x a b:Fr} {u v w:Rat} (hx:FrS 20 x u) (ha:FrS 20 a v) (hb:FrS 20 b w):L9 x a b=true↔btw u v w:=by
 unfold L9 btw
 rw [Bool.and_eq_true,decide_eq_true_eq,decide_eq_true_eq,hx.cmp (ha.min hb),hx.cmp (ha.max hb),ge_iff_le,W3,Ks]
 have e1:Min.min v w=if v<=w then v else w:=rfl
 have e2:Max.max v w=if v<=w then w else v:=rfl
 rw [e1,e2]
 by_cases h:v<=w
 ·rw [if_pos h,if_pos h];grind
 ·rw [if_neg h,if_neg h];grind
theorem Kt {p a b:Pq} {x u v:Q2} (hp:PqAt p x) (ha:PqAt a u) (hb:PqAt b v):CJ p a b=true↔KM x u v:=by
 unfold CJ KM
 rw [Bool.and_eq_true,Vy hp.1 ha.1 hb.1,Vy hp.2 ha.2 hb.2]
theorem W4 {p q r t:Pq} {a b c d:Q2} (hp:PqAt p a) (hq:PqAt q b) (hr:PqAt r c) (ht:PqAt t d):An p q r t=true↔∃ x,A0 x a b/\A0 x c d:=by
 rw [← Vm]
 unfold An SU
 simp only [Bool.or_eq_true,Bool.and_eq_true,decide_eq_true_eq]
 rw [I0 hp hq hr,I0 hp hq ht,I0 hr ht hp,I0 hr ht hq,Kt hr hp hq,Kt ht hp hq,Kt hp hr ht,Kt hq hr ht,P9,P9,F3,F3,F3,F3]
def Jp (l:List V2) (x:Q2):Prop:=∀ i,i<l.length->0<=crR (qv (l.getD i (0,0))) (qv (l.getD ((i+1)%l.length) (0,0))) x
theorem OH {l:List V2} (hl:l.all AQ=true) {p:Pq} {x:Q2} (hp:PqAt p x):FU l p≥0↔Jp l x:=by
 have hs:∀ i,i<l.length->(0<=Bz (By l i) (By l ((i+1)%l.length)) p↔0<=crR (qv (l.getD i (0,0))) (qv (l.getD ((i+1)%l.length) (0,0))) x):=λ i hi=>by
  unfold By
  rw [I0 (Se (Bx hl hi)) (Se (Bx hl (Nat.mod_lt _ (by omega)))) hp,Wo]
 constructor
 ·intro h i hi
  exact (hs i hi).1 (Po _ h i hi)
 ·intro h
  exact ST _ λ i hi=>(hs i hi).2 (h i hi)
theorem OI (a b c:V2):crR (qv a) (qv b) (qv c)=((Aa a b c:Int):Rat):=by
 unfold crR qv Aa
 push_cast
 grind
theorem OJ {x a b:Q2} (h:A0 x a b):A0 x b a:=by
 obtain ⟨s,h0,h1,rfl⟩:=h
 refine ⟨1-s,by grind,by grind,?_⟩
 unfold atQ
 ext <;> simp only <;> grind
theorem Ge (a b:Q2):A0 a a b:=⟨0,by grind,by grind,(Ps a b).symm⟩
theorem QA {z x a b:Q2} (h:A0 z a x) (hx:A0 x a b):A0 z a b:=by
 obtain ⟨s,h0,h1,rfl⟩:=hx
 obtain ⟨t,t0,t1,rfl⟩:=h
 refine ⟨t*s,DM t0 h0,?_,?_⟩
 ·have:=DM (show 0<=1-t by grind) h0
  grind
 ·unfold atQ
  ext <;> simp only <;> grind
def RR (a b:Q2):Q2:=((a.1+b.1)*(1/2),(a.2+b.2)*(1/2))
theorem Vz (a b:Q2):A0 (RR a b) a b:=⟨1/2,by grind,by grind,by unfold atQ RR;ext <;> simp only <;> grind⟩
theorem QB {l:List V2} (hl:AU l=true) {i:Nat} (hi:i<l.length) {z:Q2} (hz:A0 z (qv (l.getD i (0,0))) (qv (l.getD ((i+1)%l.length) (0,0)))):Jp l z:=by
 intro j hj
 obtain ⟨s,h0,h1,rfl⟩:=hz
 rw [NU,OI,OI]
 have q1:=NT hl hj hi
 have q2:=NT hl hj (NN hi)
 have r1:(0:Rat)<=((Aa (l.getD j (0,0)) (l.getD ((j+1)%l.length) (0,0)) (l.getD i (0,0)):Int):Rat):=by exact_mod_cast q1
 have r2:(0:Rat)<=((Aa (l.getD j (0,0)) (l.getD ((j+1)%l.length) (0,0)) (l.getD ((i+1)%l.length) (0,0)):Int):Rat):=by exact_mod_cast q2
 have k1:=DM (show 0<=1-s by grind) r1
 have k2:=DM h0 r2
 grind
theorem OK {f:Nat->Q2×Q2} {x y:Q2} : ∀ k,(∀ i,i<k->0<=crR (f i).1 (f i).2 x)->∃ z,A0 z x y/\(∀ i,i<k->0<=crR (f i).1 (f i).2 z)/\(z=y∨∃ i,i<k/\crR (f i).1 (f i).2 z=0)
 | 0,_=>⟨y,⟨1,by grind,by grind,(Pt x y).symm⟩,λ i hi=>by omega,.inl rfl⟩
 | k+1,h=>by
  obtain ⟨z,z1,z2,z3⟩:=OK (f:=f) (x:=x) (y:=y) k λ i hi=>h i (by omega)
  by_cases c:0<=crR (f k).1 (f k).2 z
  ·refine ⟨z,z1,λ i hi=>?_,z3.imp id λ ⟨i,hi,e⟩=>⟨i,by omega,e⟩⟩
   by_cases e:i=k
   ·rw [e];exact c
   ·exact z2 i (by omega)
  ·obtain ⟨u,hu⟩:∃ u,crR (f k).1 (f k).2 x=u:=⟨_,rfl⟩
   obtain ⟨v,hv⟩:∃ v,crR (f k).1 (f k).2 z=v:=⟨_,rfl⟩
   have u0:0<=u:=by rw [← hu];exact h k (by omega)
   have v0:v<0:=by rw [hv] at c;grind
   have hd:0<u-v:=by grind
   have hne:u-v≠0:=by grind
   have key:(1-u/(u-v))*u+u/(u-v)*v=0:=by
    have:=Rat.div_mul_cancel (a:=u) hne
    grind
   have t0:=FE u0 hd
   have t1:=Cp (show u<=u-v by grind) hd
   refine ⟨atQ x z (u/(u-v)),QA ⟨_,t0,t1,rfl⟩ z1,λ i hi=>?_,.inr ⟨k,by omega,?_⟩⟩
   ·rw [NU]
    by_cases e:i=k
    ·rw [e,hu,hv,key];exact Rat.le_refl
    ·have k1:=DM (show 0<=1-u/(u-v) by grind) (h i (by omega))
     have k2:=DM t0 (z2 i (by omega))
     grind
   ·rw [NU,hu,hv,key]
theorem YL {i n:Nat} (hi:i<n) (h3:3<=n):i≠((i+1)%n+1)%n:=by
 by_cases h:i+1<n
 ·rw [Nat.mod_eq_of_lt h]
  by_cases h2:i+1+1<n
  ·rw [Nat.mod_eq_of_lt h2];omega
  ·rw [show i+1+1=n by omega,Nat.mod_self];omega
 ·rw [show i+1=n by omega,Nat.mod_self,Nat.mod_eq_of_lt (by omega)];omega
theorem W5 {A B z:Q2} (h:crR A B z=0) (hne:A≠B):∃ s:Rat,z=atQ A B s:=by
 obtain ⟨a1,a2⟩:=A
 obtain ⟨b1,b2⟩:=B
 obtain ⟨c1,c2⟩:=z
 unfold crR at h
 simp only at h
 by_cases hx:a1=b1
 ·have hy:a2≠b2:=λ e=>hne (by rw [hx,e])
  have hd:b2-a2≠0:=by grind
  refine ⟨(c2-a2)/(b2-a2),?_⟩
  unfold atQ;simp only;ext <;> grind
 ·have hd:b1-a1≠0:=by grind
  refine ⟨(c1-a1)/(b1-a1),?_⟩
  unfold atQ;simp only;ext <;> grind
theorem XZ {s c:Rat} (h:0<=s*c) (hc:0<c):0<=s:=by
 apply Classical.byContradiction
 intro hn
 have:=Rat.mul_pos (show 0 < -s by grind) hc
 grind
theorem W6 {l:List V2} (hl:AU l=true) {i:Nat} (hi:i<l.length) {z:Q2} (hz:Jp l z) (h0:crR (qv (l.getD i (0,0))) (qv (l.getD ((i+1)%l.length) (0,0))) z=0):A0 z (qv (l.getD i (0,0))) (qv (l.getD ((i+1)%l.length) (0,0))):=by
 obtain ⟨⟨h3,-⟩,-,hs⟩:=L5.1 hl
 obtain ⟨j,hj,ej,n1,n2⟩:=Wn hi h3
 have g1:=hz j hj
 have g2:=hz _ (NN hi)
 have s1:=hs j ((i+1)%l.length) hj (NN hi) n1 (by rw [ej];exact n2)
 have s2:=hs ((i+1)%l.length) i (NN hi) hi (λ e=>n2 e.symm) (YL hi h3)
 rw [ej] at g1 s1
 have r1:(0:Rat)<((Aa (l.getD j (0,0)) (l.getD i (0,0)) (l.getD ((i+1)%l.length) (0,0)):Int):Rat):=by exact_mod_cast s1
 have r2:(0:Rat)<((Aa (l.getD ((i+1)%l.length) (0,0)) (l.getD (((i+1)%l.length+1)%l.length) (0,0)) (l.getD i (0,0)):Int):Rat):=by exact_mod_cast s2
 rw [← OI] at r1 r2
 generalize qv (l.getD j (0,0))=P at *
 generalize qv (l.getD (((i+1)%l.length+1)%l.length) (0,0))=N at *
 generalize qv (l.getD ((i+1)%l.length) (0,0))=B at *
 generalize qv (l.getD i (0,0))=A at *
 have hne:A≠B:=by
  rintro rfl
  unfold crR at r1;grind
 obtain ⟨s,rfl⟩:=W5 h0 hne
 rw [NU] at g1 g2
 have z1:crR P A A=0:=by unfold crR;grind
 have z2:crR B N B=0:=by unfold crR;grind
 rw [z1] at g1
 rw [z2] at g2
 refine ⟨s,XZ (c:=crR P A B) (by grind) r1,?_,rfl⟩
 have:=XZ (s:=1-s) (c:=crR B N A) (by grind) r2
 grind
theorem YM {l:List V2} (hl:AU l=true) {p q:Pq} {a b:Q2} (hp:PqAt p a) (hq:PqAt q b):smB l p q=true↔∃ x,A0 x a b/\Jp l x:=by
 have hv:=(G6 hl).2.2
 have he:∀ i,i<l.length->(G5 l p q i=true↔∃ x,A0 x a b/\A0 x (qv (l.getD i (0,0))) (qv (l.getD ((i+1)%l.length) (0,0)))):=λ i hi=>
  W4 hp hq (Se (Bx hv hi)) (Se (Bx hv (NN hi)))
 unfold smB
 rw [Bool.or_eq_true,Bool.or_eq_true,decide_eq_true_eq,decide_eq_true_eq,OH hv hp,OH hv hq,List.any_eq_true]
 constructor
 ·rintro (h|h|⟨i,hi,h⟩)
  ·exact ⟨a,Ge a b,h⟩
  ·exact ⟨b,OJ (Ge b a),h⟩
  ·have hi:=List.mem_range.1 hi
   obtain ⟨x,h1,h2⟩:=(he i hi).1 h
   exact ⟨x,h1,QB hl hi h2⟩
 ·rintro ⟨x,h1,h2⟩
  by_cases c:Jp l a
  ·exact .inl c
  ·refine .inr (.inr ?_)
   obtain ⟨z,z1,z2,z3⟩:=OK (f:=λ i=>(qv (l.getD i (0,0)),qv (l.getD ((i+1)%l.length) (0,0)))) (x:=x) (y:=a) l.length h2
   rcases z3 with rfl|⟨i,hi,e⟩
   ·exact absurd z2 c
   ·exact ⟨i,List.mem_range.2 hi,(he i hi).2 ⟨z,QA (OJ z1) h1,W6 hl hi z2 e⟩⟩
end Go.Proofs.YtndnhlhnjiopfaaGreat
