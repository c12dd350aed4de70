import Derived.Test.YtndnhlhnjiopfaaGreatToExC
namespace Go.Proofs.YtndnhlhnjiopfaaGreat
set_option linter.unusedVariables false
set_option linter.unusedSimpArgs false
def BB:Nat:=1000000000
def dig (n:Nat):List Nat:=if h:n=0 then [] else n%BB::dig (n/BB)
termination_by n
decreasing_by exact Nat.div_lt_self (Nat.pos_of_ne_zero h) (by decide)
def AS:Nat->Nat->List Nat
 | 0,_=>[]
 | k+1,n=>n%BB::AS k (n/BB)
def AV:List Nat->Nat
 | []=>0
 | d::r=>d+BB*AV r
def dgt (n i:Nat):Nat:=n/BB^i%BB
theorem DQ:0<BB:=by decide
theorem BBp (i:Nat):0<BB^i:=Nat.pow_pos DQ
theorem Be:dig 0=[]:=by rw [dig];simp
theorem Di {n:Nat} (h:n≠0):dig n=n%BB::dig (n/BB):=by rw [dig];simp [h]
theorem T8:∀ (n:Nat),∀ d ∈ dig n,d<BB:=by
 intro n
 induction n using Nat.strongRecOn with
 | _ n ih=>
  intro d hd
  by_cases h:n=0
  ·subst h;rw [Be] at hd;simp at hd
  ·rw [Di h] at hd
   rcases List.mem_cons.1 hd with rfl|hd
   ·exact Nat.mod_lt _ DQ
   ·exact ih _ (Nat.div_lt_self (Nat.pos_of_ne_zero h) (by decide)) d hd
theorem Lj:∀ (n:Nat),AV (dig n)=n:=by
 intro n
 induction n using Nat.strongRecOn with
 | _ n ih=>
  by_cases h:n=0
  ·subst h;rw [Be];rfl
  ·rw [Di h,AV,ih _ (Nat.div_lt_self (Nat.pos_of_ne_zero h) (by decide))]
   exact Nat.mod_add_div n BB
theorem IF {d:Nat} {r:List Nat} (hd:d<BB):dig (d+BB*AV r)=if d=0/\AV r=0 then [] else d::dig (AV r):=by
 have hm:(d+BB*AV r)%BB=d:=by rw [Nat.add_mul_mod_self_left,Nat.mod_eq_of_lt hd]
 have hq:(d+BB*AV r)/BB=AV r:=by rw [Nat.add_mul_div_left _ _ DQ,Nat.div_eq_of_lt hd,Nat.zero_add]
 split
 ·rename_i h;rw [h.1,h.2];simp [Be]
 ·rename_i h
  have:d+BB*AV r≠0:=λ e=>h ⟨by omega,by
   have:BB*AV r=0:=by omega
   rcases Nat.mul_eq_zero.1 this with h|h
   ·simp [BB] at h
   ·exact h⟩
  rw [Di this,hm,hq]
theorem IG:∀ (l:List Nat),(∀ d ∈ l,d<BB)->(∀ h:l≠[],l.getLast h≠0)->dig (AV l)=l
 | [],_,_=>Be
 | d::r,hd,hl=>by
  rw [AV,IF (hd d (by simp))]
  have ih:=IG r (λ x hx=>hd x (by simp [hx])) (λ h=>by have:=hl (by simp);rwa [List.getLast_cons h] at this)
  split
  ·rename_i h
   obtain ⟨rfl,h2⟩:=h
   rw [h2,Be] at ih
   subst ih
   exact absurd rfl (hl (by simp))
  ·rw [ih]
theorem Qk:∀ (i n:Nat),i<(dig n).length↔BB^i<=n
 | i,n=>by
  by_cases h:n=0
  ·subst h;rw [Be];have:=BBp i;exact ⟨λ h=>absurd h (by simp),λ h=>by omega⟩
  ·rw [Di h]
   cases i with
   | zero=>simp;omega
   | succ i=>
    have ih:=Qk i (n/BB)
    simp only [List.length_cons,Nat.add_lt_add_iff_right,ih]
    rw [Nat.le_div_iff_mul_le DQ,Nat.pow_succ]
theorem Il (k n:Nat):(dig n).length<=k↔n<BB^k:=by
 have:=Qk k n
 omega
theorem MV:∀ (n i:Nat),i<(dig n).length->(dig n)[i]?=some (dgt n i)
 | n,i,hi=>by
  by_cases h:n=0
  ·subst h;rw [Be] at hi;simp at hi
  ·rw [Di h] at hi ⊢
   cases i with
   | zero=>simp [dgt]
   | succ i=>
    have ih:=MV (n/BB) i (by simpa using hi)
    simp only [List.getElem?_cons_succ,ih,dgt,Nat.div_div_eq_div_mul,Nat.pow_succ]
    rw [Nat.mul_comm]
theorem N0 {n i:Nat} (h:n<BB^i):dgt n i=0:=by unfold dgt;rw [Nat.div_eq_of_lt h];rfl
theorem BZ (n i:Nat):dgt n i<BB:=Nat.mod_lt _ DQ
theorem T9 (n i:Nat):(dig n).getD i 0=dgt n i:=by
 by_cases h:i<(dig n).length
 ·simp [List.getD,MV n i h]
 ·have:=(Il i n).1 (by omega)
  rw [N0 this];simp [List.getD,List.getElem?_eq_none (Nat.le_of_not_lt h)]
theorem Ae:∀ (k n:Nat),(AS k n).length=k
 | 0,_=>rfl
 | k+1,n=>by simp [AS,Ae k]
theorem CI:∀ (k n i:Nat),i<k->(AS k n)[i]?=some (dgt n i)
 | 0,_,_,h=>by omega
 | k+1,n,0,_=>by simp [AS,dgt]
 | k+1,n,i+1,h=>by
  simp only [AS,List.getElem?_cons_succ,CI k (n/BB) i (by omega),dgt,Nat.div_div_eq_div_mul,Nat.pow_succ]
  rw [Nat.mul_comm]
theorem EK (k n:Nat):AS (k+1) n=AS k n++[dgt n k]:=by
 apply List.ext_getElem?
 intro i
 by_cases h:i<k
 ·rw [CI _ _ _ (by omega),List.getElem?_append_left (by rw [Ae];exact h),CI _ _ _ h]
 ·by_cases h2:i=k
  ·subst h2;rw [CI _ _ _ (by omega),List.getElem?_append_right (by rw [Ae];exact Nat.le_refl _),Ae];simp
  ·rw [List.getElem?_eq_none (by rw [Ae];omega),List.getElem?_eq_none (by simp [Ae];omega)]
theorem UA {k n:Nat} (h:(dig n).length=k):AS k n=dig n:=by
 apply List.ext_getElem?
 intro i
 by_cases hi:i<k
 ·rw [CI _ _ _ hi,MV _ _ (by omega)]
 ·rw [List.getElem?_eq_none (by rw [Ae];omega),List.getElem?_eq_none (by omega)]
theorem Ql {n i k:Nat} (h:i<k):dgt (n%BB^k) i=dgt n i:=by
 unfold dgt
 have e:BB^k=BB^i*BB^(k-i):=by rw [← Nat.pow_add];congr 1;omega
 rw [e,Nat.mod_mul_right_div_self]
 have e2:BB^(k-i)=BB*BB^(k-i-1):=by rw [Nat.mul_comm,← Nat.pow_succ];congr 1;omega
 rw [e2,Nat.mod_mul_right_mod]
theorem KE:∀ (k n:Nat),AV (AS k n)=n%BB^k
 | 0,n=>by simp [AS,AV,Nat.mod_one]
 | k+1,n=>by
  rw [AS,AV,KE k,Nat.pow_succ,Nat.mul_comm (BB^k),Nat.mod_mul]
theorem FL (n i:Nat):n%BB^(i+1)=n%BB^i+BB^i*dgt n i:=by
 rw [Nat.pow_succ,Nat.mod_mul];rfl
theorem A2 (n i:Nat):n/BB^i=n/BB^(i+1)*BB+dgt n i:=by
 rw [Nat.pow_succ,← Nat.div_div_eq_div_mul,dgt]
 have:=Nat.div_add_mod (n/BB^i) BB
 rw [Nat.mul_comm] at this
 exact this.symm
theorem KF:∀ (l:List Nat) (d:Nat),AV (l++[d])=AV l+BB^l.length*d
 | [],d=>by simp [AV]
 | x::r,d=>by
  simp only [List.cons_append,AV,KF r d,List.length_cons,Nat.pow_succ,Nat.mul_add]
  rw [Nat.mul_comm (BB^r.length) BB,Nat.mul_assoc,Nat.add_assoc]
theorem N1:∀ (l:List Nat),(∀ d ∈ l,d<BB)->AV l<BB^l.length
 | [],_=>by simp [AV]
 | d::r,h=>by
  have h1:=N1 r (λ x hx=>h x (by simp [hx]))
  have h2:=h d (by simp)
  simp only [AV,List.length_cons,Nat.pow_succ]
  have:=Nat.mul_le_mul_left BB (show AV r+1<=BB^r.length by omega)
  rw [Nat.mul_comm (BB^r.length)]
  rw [Nat.mul_add] at this
  omega
theorem N2 {N V p d:Nat} (hp:p<N) (hd:d<BB):(AS N V).set p d=AS N (V-dgt V p*BB^p+d*BB^p):=by
 have hle:dgt V p*BB^p<=V:=by
  unfold dgt
  have h1:=Nat.mod_le (V/BB^p) BB
  have h2:=Nat.mul_le_mul_right (BB^p) h1
  have h3:=Nat.div_mul_le_self V (BB^p)
  omega
 -- V = low + dgt * B^p + high * B^(p+1)
 have e1:=Nat.div_add_mod V (BB^p)
 have e2:=A2 V p
 have eV:V=V%BB^p+(dgt V p+BB*(V/BB^(p+1)))*BB^p:=by
  rw [Nat.mul_comm _ BB,Nat.add_comm] at e2
  rw [← e2,Nat.mul_comm _ (BB^p)];omega
 have eW:V-dgt V p*BB^p+d*BB^p=V%BB^p+(d+BB*(V/BB^(p+1)))*BB^p:=by
  rw [Nat.add_mul] at eV ⊢
  omega
 rw [eW]
 apply List.ext_getElem?
 intro i
 by_cases hi:i<N
 ·rw [CI _ _ _ hi]
  by_cases hip:i=p
  ·subst hip
   rw [List.getElem?_set_self (by rw [Ae];exact hi)]
   congr 1
   unfold dgt
   rw [Nat.add_mul_div_right _ _ (BBp i),Nat.div_eq_of_lt (Nat.mod_lt _ (BBp i)),Nat.zero_add,Nat.add_mul_mod_self_left,Nat.mod_eq_of_lt hd]
  ·rw [List.getElem?_set_ne (λ e=>hip e.symm),CI _ _ _ hi]
   congr 1
   by_cases hlt:i<p
   ·rw [← Ql (n:=V) hlt,← Ql (n:=V%BB^p+_) hlt,Nat.add_mul_mod_self_right,Nat.mod_mod]
   ·have hgt:i=(p+1)+(i-p-1):=by omega
    unfold dgt
    rw [hgt,Nat.pow_add,← Nat.div_div_eq_div_mul,← Nat.div_div_eq_div_mul]
    congr 2
    rw [Nat.pow_succ,← Nat.div_div_eq_div_mul,← Nat.div_div_eq_div_mul,Nat.add_mul_div_right _ _ (BBp p),Nat.div_eq_of_lt (Nat.mod_lt _ (BBp p)),Nat.zero_add,Nat.add_mul_div_left _ _ DQ,Nat.div_eq_of_lt hd,Nat.zero_add]
 ·rw [List.getElem?_eq_none (by rw [List.length_set,Ae];omega),List.getElem?_eq_none (by rw [Ae];omega)]
theorem Lk (k:Nat):AS k 0=List.replicate k 0:=by
 induction k with
 | zero=>rfl
 | succ k ih=>simp [AS,ih,List.replicate_succ]
theorem XQ {n k:Nat} (h1:n<BB^k) (h2:k=0∨BB^(k-1)<=n):(dig n).length=k:=by
 have a:=(Il k n).2 h1
 rcases h2 with h2|h2
 ·omega
 ·have:=(Qk (k-1) n).2 h2;omega
theorem KG {n k:Nat} (h:n<BB^(k+1)) (h0:dgt n k=0):n<BB^k:=by
 have:=FL n k
 rw [Nat.mod_eq_of_lt h,h0,Nat.mul_zero,Nat.add_zero] at this
 rw [this];exact Nat.mod_lt _ (BBp k)
theorem VQ {a b k:Nat} (h:a/BB^(k+1)=b/BB^(k+1)) (hd:dgt a k=dgt b k):a/BB^k=b/BB^k:=by
 rw [A2 a k,A2 b k,h,hd]
theorem Ll {a b k:Nat} (h:a/BB^(k+1)=b/BB^(k+1)) (hd:dgt a k<dgt b k):a<b:=by
 have e1:=A2 a k
 have e2:=A2 b k
 rw [h] at e1
 have:a/BB^k<b/BB^k:=by omega
 apply Nat.lt_of_not_le
 intro hle
 exact absurd (Nat.div_le_div_right (c:=BB^k) hle) (by omega)
def Bo (a b i:Nat):Nat:=(a%BB^i+b%BB^i)/BB^i
theorem R1 (a b:Nat):Bo a b 0=0:=by simp [Bo,Nat.mod_one]
theorem Qm (a b i:Nat):(a+b)/BB^i=a/BB^i+b/BB^i+Bo a b i:=by
 have h:a+b=a%BB^i+b%BB^i+BB^i*(a/BB^i+b/BB^i):=by
  have e1:=Nat.div_add_mod a (BB^i)
  have e2:=Nat.div_add_mod b (BB^i)
  rw [Nat.mul_add];omega
 unfold Bo
 conv=>lhs;rw [h]
 rw [Nat.add_mul_div_left _ _ (BBp i)];omega
theorem VR (a b i:Nat):(dgt a i+dgt b i+Bo a b i)%BB=dgt (a+b) i/\(dgt a i+dgt b i+Bo a b i)/BB=Bo a b (i+1):=by
 constructor
 ·unfold dgt
  rw [Qm]
  simp [Nat.add_mod,Nat.mod_mod]
 ·unfold Bo
  rw [FL,FL]
  have e:a%BB^i+BB^i*dgt a i+(b%BB^i+BB^i*dgt b i)=a%BB^i+b%BB^i+BB^i*(dgt a i+dgt b i):=by rw [Nat.mul_add];omega
  rw [e,Nat.pow_succ,← Nat.div_div_eq_div_mul,Nat.add_mul_div_left _ _ (BBp i)]
  congr 1;omega
theorem JF (a b i:Nat):Bo a b i<=1:=by
 unfold Bo
 have h1:=Nat.mod_lt a (BBp i)
 have h2:=Nat.mod_lt b (BBp i)
 have:(a%BB^i+b%BB^i)/BB^i<2:=by rw [Nat.div_lt_iff_lt_mul (BBp i)];omega
 omega
theorem N3 {a b i:Nat} (h:0<Bo a b i):BB^i<=a+b:=by
 unfold Bo at h
 have h1:=Nat.mod_le a (BB^i)
 have h2:=Nat.mod_le b (BB^i)
 apply Nat.le_of_not_lt
 intro hlt
 rw [Nat.div_eq_of_lt (by omega)] at h;omega
theorem UB {a b i:Nat} (ha:a<BB^i) (hb:b<BB^i) (h:Bo a b i=0):a+b<BB^i:=by
 unfold Bo at h
 rw [Nat.mod_eq_of_lt ha,Nat.mod_eq_of_lt hb] at h
 rcases (Nat.div_eq_zero_iff).1 h with h|h
 ·have:=BBp i;omega
 ·exact h
def brw (a b i:Nat):Nat:=if a%BB^i<b%BB^i then 1 else 0
theorem UC (a b:Nat):brw a b 0=0:=by simp [brw,Nat.mod_one]
theorem Ph (a b i:Nat):brw a b i<=1:=by unfold brw;split <;> omega
theorem Qn {a b:Nat} (h:b<=a) (i:Nat):a/BB^i=b/BB^i+brw a b i+(a-b)/BB^i:=by
 obtain ⟨c,rfl⟩:∃ c,a=b+c:=⟨a-b,by omega⟩
 rw [Nat.add_sub_cancel_left,Qm]
 have:Bo b c i=brw (b+c) b i:=by
  unfold Bo brw
  have h1:=Nat.mod_lt b (BBp i)
  have h2:=Nat.mod_lt c (BBp i)
  have e:=Nat.add_mod b c (BB^i)
  rw [e]
  generalize b%BB^i=B' at *
  generalize c%BB^i=C' at *
  generalize BB^i=P at *
  by_cases hlt:B' + C' < P
  ·rw [Nat.div_eq_of_lt hlt,Nat.mod_eq_of_lt hlt,if_neg (by omega)]
  ·have e2:(B' + C')%P=B' + C' - P:=by
    rw [Nat.mod_eq_sub_mod (by omega),Nat.mod_eq_of_lt (by omega)]
   rw [e2,if_pos (show B' + C' - P<B' by omega)]
   apply Nat.le_antisymm
   ·have:(B' + C')/P<2:=by rw [Nat.div_lt_iff_lt_mul (by omega)];omega
    omega
   ·rw [Nat.le_div_iff_mul_le (by omega)];omega
 omega
theorem VS {a b:Nat} (h:b<=a) (i:Nat) :
  (((dgt a i:Int)-dgt b i-brw a b i<0->(dgt a i:Int)-dgt b i-brw a b i+1000000000=dgt (a-b) i/\brw a b (i+1)=1)) /\
  (((0:Int)<=dgt a i-dgt b i-brw a b i->(dgt a i:Int)-dgt b i-brw a b i=dgt (a-b) i/\brw a b (i+1)=0)):=by
 have e:=Qn h i
 have e1:=A2 a i
 have e2:=A2 b i
 have e3:=A2 (a-b) i
 have e4:=Qn h (i+1)
 have d1:=BZ a i
 have d2:=BZ b i
 have d3:=BZ (a-b) i
 have hb:=Ph a b i
 have hb':=Ph a b (i+1)
 rw [e1,e2,e3] at e
 rw [e4] at e
 rw [Nat.add_mul,Nat.add_mul] at e
 unfold BB at *
 constructor <;> intro hn <;> constructor <;> omega
theorem Qo {A x b V c i k:Nat} (h:V+c*BB^(i+k)=A*b+x*BB^i*(b%BB^k)) :
  V-dgt V (i+k)*BB^(i+k)+(dgt V (i+k)+x*dgt b k+c)%BB*BB^(i+k)+(dgt V (i+k)+x*dgt b k+c)/BB*BB^(i+(k+1))=A*b+x*BB^i*(b%BB^(k+1)):=by
 have hle:dgt V (i+k)*BB^(i+k)<=V:=by
  unfold dgt
  have h1:=Nat.mod_le (V/BB^(i+k)) BB
  have h2:=Nat.mul_le_mul_right (BB^(i+k)) h1
  have h3:=Nat.div_mul_le_self V (BB^(i+k))
  omega
 have e1:=Nat.div_add_mod (dgt V (i+k)+x*dgt b k+c) BB
 have e2:(dgt V (i+k)+x*dgt b k+c)%BB*BB^(i+k)+(dgt V (i+k)+x*dgt b k+c)/BB*BB^(i+(k+1))=(dgt V (i+k)+x*dgt b k+c)*BB^(i+k):=by
  conv=>rhs;rw [← e1]
  rw [show i+(k+1)=(i+k)+1 from rfl,Nat.pow_succ,Nat.add_mul]
  rw [Nat.mul_comm (BB^(i+k)) BB,← Nat.mul_assoc,Nat.mul_comm BB,Nat.add_comm]
 rw [Nat.add_assoc,e2,FL,Nat.mul_add,← Nat.add_assoc,← h,Nat.add_mul,Nat.add_mul]
 have e3:x*BB^i*(BB^k*dgt b k)=x*dgt b k*BB^(i+k):=by
  rw [Nat.pow_add]
  simp only [Nat.mul_assoc,Nat.mul_comm,Nat.mul_left_comm]
 rw [e3];omega
theorem UD {a b i:Nat} : a%BB^i*b+dgt a i*BB^i*b=a%BB^(i+1)*b:=by
 rw [FL,Nat.add_mul,Nat.mul_comm (dgt a i)]
theorem Qp (a n i:Nat) (hn:0<n):((a/BB^(i+1))%n*BB+dgt a i)/n=dgt (a/n) i/\((a/BB^(i+1))%n*BB+dgt a i)%n=(a/BB^i)%n:=by
 have e:=A2 a i
 have e1:=Nat.div_add_mod (a/BB^(i+1)) n
 have hr:=Nat.mod_lt (a/BB^(i+1)) hn
 have hd:=BZ a i
 have key:a/BB^i=((a/BB^(i+1))%n*BB+dgt a i)+n*(a/BB^(i+1)/n*BB):=by
  conv=>lhs;rw [e,← e1]
  rw [Nat.add_mul,Nat.mul_assoc];omega
 constructor
 ·have hq:((a/BB^(i+1))%n*BB+dgt a i)/n<BB:=by
   rw [Nat.div_lt_iff_lt_mul hn]
   have:=Nat.mul_le_mul_right BB (show (a/BB^(i+1))%n+1<=n by omega)
   rw [Nat.add_mul] at this
   rw [Nat.mul_comm BB n];omega
  unfold dgt
  have e5:a/n/BB^i=a/BB^i/n:=by rw [Nat.div_div_eq_div_mul,Nat.mul_comm n,← Nat.div_div_eq_div_mul]
  have e6:∀ X Y:Nat,X<BB->X=(X+Y*BB)%BB:=λ X Y h=>by rw [Nat.add_mul_mod_self_right,Nat.mod_eq_of_lt h]
  rw [e5]
  conv=>rhs;rw [key]
  rw [Nat.add_mul_div_left _ _ hn]
  exact e6 _ _ hq
 ·rw [key,Nat.add_mul_mod_self_left]
theorem UE {a k:Nat} (n:Nat) (h:a<BB^k):a/BB^k%n=0:=by rw [Nat.div_eq_of_lt h];exact Nat.zero_mod n
def hi (q i:Nat):Nat:=q/BB^i*BB^i
theorem We {q k:Nat} (h:q<BB^k):hi q k=0:=by unfold hi;rw [Nat.div_eq_of_lt h];simp
theorem VT (q:Nat):hi q 0=q:=by simp [hi]
theorem Wf (q i:Nat):dgt (hi q (i+1)) i=0:=by
 unfold dgt hi
 rw [Nat.pow_succ,Nat.mul_comm (BB^i) BB,← Nat.mul_assoc,Nat.mul_div_cancel _ (BBp i),Nat.mul_mod_left]
theorem Qq (q i:Nat):hi q i=hi q (i+1)+dgt q i*BB^i:=by
 unfold hi
 conv=>lhs;rw [A2 q i]
 rw [Nat.add_mul,Nat.pow_succ,Nat.mul_comm (BB^i) BB,Nat.mul_assoc]
theorem VU {N q i d:Nat} (hi' : i<N) (hd:d=dgt q i):(AS N (hi q (i+1))).set i d=AS N (hi q i):=by
 subst hd
 rw [N2 hi' (BZ q i),Wf,Nat.zero_mul,Nat.sub_zero,← Qq]
theorem Eb (d n:Nat):AV (d::dig n)=d+BB*n:=by rw [AV,Lj]
theorem MW (k:Nat):List.replicate k 0=AS k 0:=(Lk k).symm
def rn (r:List Dat):Int:=(r.getD 0 (.int 0)).n
def AH (l:List Nat):List (List Dat):=l.map λ (d:Nat)=>[Dat.int (d:Int)]
def L (n:Nat):List (List Dat):=AH (dig n)
def nl (n:Nat):Nat:=(dig n).length
theorem BX (l:List Nat):(AH l).length=l.length:=by simp [AH]
theorem Ar (n:Nat):(L n).length=nl n:=BX _
theorem IH:L 0=[]:=by unfold L;rw [Be];rfl
theorem By:nl 0=0:=by unfold nl;rw [Be];rfl
theorem GU {n:Nat} (h:n≠0):0<nl n:=by unfold nl;rw [Di h];simp
theorem DR {n:Nat} : nl n=0↔n=0:=⟨λ h=>by rcases Nat.eq_zero_or_pos n with h' | h';exact h';have:=GU (n:=n) (by omega);omega,λ h=>by subst h;exact By⟩
theorem DS (k n:Nat):nl n<=k↔n<BB^k:=Il k n
theorem UF (i n:Nat):i<nl n↔BB^i<=n:=Qk i n
theorem Cx (n:Nat):n<BB^nl n:=(Il _ _).1 (Nat.le_refl _)
theorem Fs {a b:Nat} (h:a<=b):nl a<=nl b:=(Il _ _).2 (Nat.lt_of_le_of_lt h (Cx b))
theorem DD (a b:Nat):nl (a*b)<=nl a+nl b:=by
 refine (Il _ _).2 ?_
 rw [Nat.pow_add]
 have h1:=Cx a
 have h2:=Cx b
 exact Nat.mul_lt_mul'' h1 h2
theorem Lm (a b:Nat):nl (a+b)<=max (nl a) (nl b)+1:=by
 refine (Il _ _).2 ?_
 have h1:=Cx a
 have h2:=Cx b
 have m1:BB^nl a<=BB^max (nl a) (nl b):=Nat.pow_le_pow_right DQ (by omega)
 have m2:BB^nl b<=BB^max (nl a) (nl b):=Nat.pow_le_pow_right DQ (by omega)
 rw [Nat.pow_succ]
 have:BB^max (nl a) (nl b)*2<=BB^max (nl a) (nl b)*BB:=Nat.mul_le_mul_left _ (by decide)
 omega
theorem UG {n:Nat} (h:n≠0) (h2:n<BB):nl n=1:=by
 have:=GU h
 have:=(Il 1 n).2 (by simpa using h2)
 unfold nl at *;omega
theorem Pi (x:Int):rn [Dat.int x]=x:=rfl
theorem II (l:List Nat) (i:Nat):(((AH l).getD i []).getD 0 (.int 0))=.int ((l.getD i 0:Nat):Int):=by
 unfold AH
 simp only [List.getD,List.getElem?_map]
 cases l[i]? <;> rfl
theorem WJ (n i:Nat):(((L n).getD i []).getD 0 (.int 0))=.int ((dgt n i:Nat):Int):=by
 unfold L;rw [II,T9]
theorem UH (l:List Nat) (i:Nat):rn ((AH l).getD i [])=((l.getD i 0:Nat):Int):=by
 unfold rn;rw [II];rfl
theorem KH {l:List Nat} {i:Nat} (h:i<l.length):(AH l).getD i []=[Dat.int ((l.getD i 0:Nat):Int)]:=by
 unfold AH;simp [List.getD,h]
theorem Ln {l:List Nat} {i:Nat} (h:i<l.length) (x:Nat):(AH l).set i (((AH l).getD i []).set 0 (Dat.int (x:Int)))=AH (l.set i x):=by
 rw [KH h]
 unfold AH
 rw [List.map_set];rfl
theorem CS (l:List Nat) (x:Nat):AH l++[[Dat.int (x:Int)]]=AH (l++[x]):=by simp [AH]
theorem Pj (l:List Nat) (k:Nat):(AH l).take k=AH (l.take k):=by simp [AH,List.map_take]
theorem Ez (k:Nat):List.replicate k [Dat.int 0]=AH (List.replicate k 0):=by simp [AH,List.map_replicate]
theorem JG (k n:Nat):∀ d ∈ AS k n,d<BB:=by
 intro d hd
 obtain ⟨i,hi,rfl⟩:=List.getElem_of_mem hd
 have:=CI k n i (by rw [Ae] at hi;exact hi)
 rw [List.getElem?_eq_getElem hi] at this
 rw [Option.some.inj this];exact BZ n i
theorem R2 {k n i:Nat} (h:i<k):(AS k n).getD i 0=dgt n i:=by simp [List.getD,CI k n i h]
def inB (n:Int):Bool:=decide (0<=n) && decide (n<=999999999)
def A3 (l:List (List Dat)):Bool:=decide (l.length<=60) && l.all (λ r=>inB (rn r)) && (decide (l.length=0) || !decide (rn (l.getD (l.length-1) [])=0))
theorem Im {n:Nat} (h:n≠0):dgt n (nl n-1)≠0:=by
 intro h0
 have hp:=GU h
 have h1:=Cx n
 have:nl n=nl n-1+1:=by omega
 rw [this] at h1
 have:=KG h1 h0
 have:=(DS _ _).2 this
 omega
theorem N4 (n:Nat):A3 (L n)=decide (nl n<=60):=by
 have h1:(L n).all (λ r=>inB (rn r))=true:=by
  refine List.all_eq_true.2 λ r hr=>?_
  obtain ⟨d,hd,rfl⟩:=List.mem_map.1 hr
  have:=T8 n d hd
  unfold BB at this
  simp only [Pi,inB,Bool.and_eq_true];exact ⟨decide_eq_true (by omega),decide_eq_true (by omega)⟩
 have h2:(decide ((L n).length=0) || !decide (rn ((L n).getD ((L n).length-1) [])=0))=true:=by
  rw [Ar]
  by_cases h:n=0
  ·subst h;simp [By]
  ·have e:rn ((L n).getD (nl n-1) [])=(dgt n (nl n-1):Int):=by unfold rn;rw [WJ];rfl
   rw [e]
   have:=Im h
   simp;right;omega
 unfold A3
 rw [h1,h2,Ar];simp
theorem Ec {e:Nat} {l:List (List Dat)} (hs:Dat.has (.sl e [.int]) (.sl l)) (h:A3 l=true):∃ n,l=L n/\nl n<=60:=by
 simp only [A3,Bool.and_eq_true,decide_eq_true_eq] at h
 obtain ⟨⟨h1,h2⟩,h3⟩:=h
 have hrow:∀ r ∈ l,∃ d:Nat,r=[Dat.int (d:Int)]/\d<BB:=by
  intro r hr
  obtain ⟨i,hi,rfl⟩:=List.getElem_of_mem hr
  simp only [Dat.has] at hs
  have hh:=hs.2 i hi
  have eg:l.getD i []=l[i]:=by simp [List.getD,hi]
  rw [eg] at hh
  match hq:l[i],hh with
  | [.int n],_=>
   have hb:=List.all_eq_true.1 h2 _ hr
   rw [hq] at hb
   simp only [Pi,inB,Bool.and_eq_true] at hb
   have hb:0<=n/\n<=999999999:=⟨of_decide_eq_true hb.1,of_decide_eq_true hb.2⟩
   exact ⟨n.toNat,by rw [Int.toNat_of_nonneg hb.1],by unfold BB;omega⟩
 obtain ⟨ds,rfl,hds⟩:∃ ds:List Nat,l=AH ds/\∀ d ∈ ds,d<BB:=by
  clear hs h1 h2 h3
  induction l with
  | nil=>exact ⟨[],rfl,by simp⟩
  | cons r l ih=>
   obtain ⟨ds,rfl,hd⟩:=ih λ x hx=>hrow x (by simp [hx])
   obtain ⟨d,rfl,hd1⟩:=hrow r (by simp)
   exact ⟨d::ds,rfl,λ x hx=>by rcases List.mem_cons.1 hx with rfl|hx;exact hd1;exact hd x hx⟩
 refine ⟨AV ds,?_,?_⟩
 ·unfold L
  rw [IG ds hds]
  intro hne h0
  rw [BX,UH] at h3
  have hlen:0<ds.length:=List.length_pos_iff.2 hne
  rw [List.getLast_eq_getElem] at h0
  simp [List.getD,show ds.length-1<ds.length by omega,h0] at h3
  exact hne h3
 ·rw [BX] at h1
  refine (DS _ _).2 (Nat.lt_of_lt_of_le (N1 ds hds) (Nat.pow_le_pow_right DQ h1))
def DT (a b:Nat):Int:=if a<b then -1 else if a=b then 0 else 1
def FM (a b:Int):Int:=if a<b then -1 else if a=b then 0 else 1
theorem Qr {a b:Nat} (h:a<b):DT a b=-1:=by unfold DT;rw [if_pos h]
theorem Qs {a b:Nat} (h:b<a):DT a b=1:=by unfold DT;rw [if_neg (by omega),if_neg (by omega)]
theorem VW (a:Nat):DT a a=0:=by unfold DT;simp
theorem N5 {a b:Nat} (h:nl a<nl b):a<b:=by
 apply Nat.lt_of_not_le
 intro hle;have:=Fs hle;omega
theorem MX (l:List Nat) (i:Nat):(((AH l).getD i []).getD 0 (.int 0)).n=((l.getD i 0:Nat):Int):=by rw [II];rfl
theorem L_n (n i:Nat):(((L n).getD i []).getD 0 (.int 0)).n=(dgt n i:Int):=by rw [WJ];rfl
theorem Pk {k n i:Nat} (h:i<k):(((AH (AS k n)).getD i []).getD 0 (.int 0)).n=(dgt n i:Int):=by rw [MX,R2 h]
theorem WK (a b:Nat):Int.tdiv (a:Int) (b:Int)=((a/b:Nat):Int):=rfl
theorem WL (a b:Nat):Int.tmod (a:Int) (b:Int)=((a%b:Nat):Int):=rfl
theorem Lo (a:Nat):Int.tdiv (a:Int) (1000000000:Int)=((a/BB:Nat):Int):=rfl
theorem N6 (a:Nat):Int.tmod (a:Int) (1000000000:Int)=((a%BB:Nat):Int):=rfl
theorem Dj {a:Nat} (h:a<=9223372036854775807):IntKind.i64.wrap (a:Int)=(a:Int):=AE (by omega) (by omega)
theorem Qt (n i:Nat):(0:Int)<=(dgt n i:Int)/\(dgt n i:Int)<1000000000:=by
 have:=BZ n i
 unfold BB at this;omega
def I1 (p:List Dat->Bool) (l:List (List Dat)):Int:=match l.findIdx? p with|some k=>(k:Int)|none=>-1
theorem Qu {p:List Dat->Bool} {l:List (List Dat)} {k:Nat} (hk:k<l.length) (h:∀ j,j<k->p (l.getD j [])=false) (hp:p (l.getD k [])=true):I1 p l=(k:Int):=by
 have:l.findIdx? p=some k:=by
  rw [List.findIdx?_eq_some_iff_getElem]
  refine ⟨hk,?_,λ j hj=>?_⟩
  ·simpa [List.getD,hk] using hp
  ·have:=h j hj
   simpa [List.getD,show j<l.length by omega] using this
 unfold I1;rw [this]
theorem Lp {p:List Dat->Bool} {l:List (List Dat)} (h:∀ j,j<l.length->p (l.getD j [])=false):I1 p l=-1:=by
 have:l.findIdx? p=none:=by
  rw [List.findIdx?_eq_none_iff]
  intro x hx
  obtain ⟨j,hj,rfl⟩:=List.getElem_of_mem hx
  have:=h j hj
  simpa [List.getD,hj] using this
 unfold I1;rw [this]
theorem N7 (p:List Dat->Bool) (l:List (List Dat)):decide (I1 p l≥0)=l.any p:=by
 unfold I1
 cases h:l.findIdx? p with
 | none=>
  rw [List.findIdx?_eq_none_iff] at h
  have:l.any p=false:=by
   rw [List.any_eq_false];intro x hx;rw [h x hx];simp
  rw [this];rfl
 | some k=>
  rw [List.findIdx?_eq_some_iff_getElem] at h
  obtain ⟨hk,hp,_⟩:=h
  have:l.any p=true:=List.any_eq_true.2 ⟨_,List.getElem_mem hk,hp⟩
  rw [this]
  exact decide_eq_true (show (0:Int)<=(k:Int) by omega)
theorem Qv {P:Nat->Prop} {k:Nat} (h:∀ j,j<k->P j) (hk:P k):∀ j,j<k+1->P j:=λ j hj=>by
 rcases Nat.lt_succ_iff_lt_or_eq.1 hj with hj|rfl
 ·exact h j hj
 ·exact hk
theorem Lq {l:List Nat} {k:Nat} (hk:k≠0) (hl:k<=l.length):l.take k=l.take (k-1)++[l.getD (k-1) 0]:=by
 have:k=(k-1)+1:=by omega
 conv=>lhs;rw [this]
 rw [List.take_add_one]
 simp [List.getD,show k-1<l.length by omega]
theorem R3 {l:List Nat} {k:Nat} (hk:k≠0) (hl:k<=l.length) (h0:l.getD (k-1) 0=0):AV (l.take (k-1))=AV (l.take k):=by
 rw [Lq hk hl,h0,KF];simp
theorem N8 {l:List Nat} {k:Nat} (hd:∀ d ∈ l,d<BB) (hl:k<=l.length) (h:AV (l.take k)=AV l) (h0:k=0∨l.getD (k-1) 0≠0):(AH l).take k=L (AV l):=by
 rw [Pj,← h]
 unfold L
 rw [IG _ (λ d hd'=>hd d (List.mem_of_mem_take hd'))]
 intro hne
 have hk:k≠0:=by rintro rfl;simp at hne
 have h1:=h0.resolve_left hk
 have e:l.take k=l.take (k-1)++[l.getD (k-1) 0]:=Lq hk hl
 have e2:∀ (m:List Nat) (x:Nat) (h:m++[x]≠[]),(m++[x]).getLast h=x:=λ m x h=>by simp
 have e3:∀ (m:List Nat) (hm:m≠[]),m=l.take (k-1)++[l.getD (k-1) 0]->m.getLast hm≠0:=λ m hm he=>by subst he;rw [e2];exact h1
 exact e3 _ hne e
theorem UI {o:List Nat} {n:Nat} (h:o=dig n):AH o=L n:=by subst h;rfl
end Go.Proofs.YtndnhlhnjiopfaaGreat
