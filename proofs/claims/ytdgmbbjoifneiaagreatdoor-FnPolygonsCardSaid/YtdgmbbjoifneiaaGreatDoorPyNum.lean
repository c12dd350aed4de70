import Derived.Test.YtdgmbbjoifneiaaGreatDoorPyExC
namespace Go.Proofs.YtdgmbbjoifneiaaGreatDoor
set_option linter.unusedVariables false
set_option linter.unusedSimpArgs false
def BB:Nat:=1000000000
def dig (n:Nat):List Nat:=if h:n=0 then [] else n%BB::dig (n/BB)
termination_by n
decreasing_by exact Nat.div_lt_self (Nat.pos_of_ne_zero h) (by decide)
def AV:Nat->Nat->List Nat
 | 0,_=>[]
 | k+1,n=>n%BB::AV k (n/BB)
def AZ:List Nat->Nat
 | []=>0
 | d::r=>d+BB*AZ r
def dgt (n i:Nat):Nat:=n/BB^i%BB
theorem Da:0<BB:=by decide
theorem BBp (i:Nat):0<BB^i:=Nat.pow_pos Da
theorem Bd:dig 0=[]:=by rw [dig];simp
theorem D0 {n:Nat} (h:n≠0):dig n=n%BB::dig (n/BB):=by rw [dig];simp [h]
theorem TS:∀ (n:Nat),∀ d ∈ dig n,d<BB:=by
 intro n
 induction n using Nat.strongRecOn with
 | _ n ih=>
  intro d hd
  by_cases h:n=0
  ·subst h;rw [Bd] at hd;simp at hd
  ·rw [D0 h] at hd
   rcases List.mem_cons.1 hd with rfl|hd
   ·exact Nat.mod_lt _ Da
   ·exact ih _ (Nat.div_lt_self (Nat.pos_of_ne_zero h) (by decide)) d hd
theorem LK:∀ (n:Nat),AZ (dig n)=n:=by
 intro n
 induction n using Nat.strongRecOn with
 | _ n ih=>
  by_cases h:n=0
  ·subst h;rw [Bd];rfl
  ·rw [D0 h,AZ,ih _ (Nat.div_lt_self (Nat.pos_of_ne_zero h) (by decide))]
   exact Nat.mod_add_div n BB
theorem H6 {d:Nat} {r:List Nat} (hd:d<BB):dig (d+BB*AZ r)=if d=0/\AZ r=0 then [] else d::dig (AZ r):=by
 have hm:(d+BB*AZ r)%BB=d:=by rw [Nat.add_mul_mod_self_left,Nat.mod_eq_of_lt hd]
 have hq:(d+BB*AZ r)/BB=AZ r:=by rw [Nat.add_mul_div_left _ _ Da,Nat.div_eq_of_lt hd,Nat.zero_add]
 split
 ·rename_i h;rw [h.1,h.2];simp [Bd]
 ·rename_i h
  have:d+BB*AZ r≠0:=λ e=>h ⟨by omega,by
   have:BB*AZ r=0:=by omega
   rcases Nat.mul_eq_zero.1 this with h|h
   ·simp [BB] at h
   ·exact h⟩
  rw [D0 this,hm,hq]
theorem H7:∀ (l:List Nat),(∀ d ∈ l,d<BB)->(∀ h:l≠[],l.getLast h≠0)->dig (AZ l)=l
 | [],_,_=>Bd
 | d::r,hd,hl=>by
  rw [AZ,H6 (hd d (by simp))]
  have ih:=H7 r (λ x hx=>hd x (by simp [hx])) (λ h=>by have:=hl (by simp);rwa [List.getLast_cons h] at this)
  split
  ·rename_i h
   obtain ⟨rfl,h2⟩:=h
   rw [h2,Bd] at ih
   subst ih
   exact absurd rfl (hl (by simp))
  ·rw [ih]
theorem QH:∀ (i n:Nat),i<(dig n).length↔BB^i<=n
 | i,n=>by
  by_cases h:n=0
  ·subst h;rw [Bd];have:=BBp i;exact ⟨λ h=>absurd h (by simp),λ h=>by omega⟩
  ·rw [D0 h]
   cases i with
   | zero=>simp;omega
   | succ i=>
    have ih:=QH i (n/BB)
    simp only [List.length_cons,Nat.add_lt_add_iff_right,ih]
    rw [Nat.le_div_iff_mul_le Da,Nat.pow_succ]
theorem Ie (k n:Nat):(dig n).length<=k↔n<BB^k:=by
 have:=QH k n
 omega
theorem MA:∀ (n i:Nat),i<(dig n).length->(dig n)[i]?=some (dgt n i)
 | n,i,hi=>by
  by_cases h:n=0
  ·subst h;rw [Bd] at hi;simp at hi
  ·rw [D0 h] at hi ⊢
   cases i with
   | zero=>simp [dgt]
   | succ i=>
    have ih:=MA (n/BB) i (by simpa using hi)
    simp only [List.getElem?_cons_succ,ih,dgt,Nat.div_div_eq_div_mul,Nat.pow_succ]
    rw [Nat.mul_comm]
theorem Nk {n i:Nat} (h:n<BB^i):dgt n i=0:=by unfold dgt;rw [Nat.div_eq_of_lt h];rfl
theorem BZ (n i:Nat):dgt n i<BB:=Nat.mod_lt _ Da
theorem TU (n i:Nat):(dig n).getD i 0=dgt n i:=by
 by_cases h:i<(dig n).length
 ·simp [List.getD,MA n i h]
 ·have:=(Ie i n).1 (by omega)
  rw [Nk this];simp [List.getD,List.getElem?_eq_none (Nat.le_of_not_lt h)]
theorem Ag:∀ (k n:Nat),(AV k n).length=k
 | 0,_=>rfl
 | k+1,n=>by simp [AV,Ag k]
theorem CM:∀ (k n i:Nat),i<k->(AV k n)[i]?=some (dgt n i)
 | 0,_,_,h=>by omega
 | k+1,n,0,_=>by simp [AV,dgt]
 | k+1,n,i+1,h=>by
  simp only [AV,List.getElem?_cons_succ,CM k (n/BB) i (by omega),dgt,Nat.div_div_eq_div_mul,Nat.pow_succ]
  rw [Nat.mul_comm]
theorem ER (k n:Nat):AV (k+1) n=AV k n++[dgt n k]:=by
 apply List.ext_getElem?
 intro i
 by_cases h:i<k
 ·rw [CM _ _ _ (by omega),List.getElem?_append_left (by rw [Ag];exact h),CM _ _ _ h]
 ·by_cases h2:i=k
  ·subst h2;rw [CM _ _ _ (by omega),List.getElem?_append_right (by rw [Ag];exact Nat.le_refl _),Ag];simp
  ·rw [List.getElem?_eq_none (by rw [Ag];omega),List.getElem?_eq_none (by simp [Ag];omega)]
theorem TV {k n:Nat} (h:(dig n).length=k):AV k n=dig n:=by
 apply List.ext_getElem?
 intro i
 by_cases hi:i<k
 ·rw [CM _ _ _ hi,MA _ _ (by omega)]
 ·rw [List.getElem?_eq_none (by rw [Ag];omega),List.getElem?_eq_none (by omega)]
theorem QI {n i k:Nat} (h:i<k):dgt (n%BB^k) i=dgt n i:=by
 unfold dgt
 have e:BB^k=BB^i*BB^(k-i):=by rw [← Nat.pow_add];congr 1;omega
 rw [e,Nat.mod_mul_right_div_self]
 have e2:BB^(k-i)=BB*BB^(k-i-1):=by rw [Nat.mul_comm,← Nat.pow_succ];congr 1;omega
 rw [e2,Nat.mod_mul_right_mod]
theorem Jx:∀ (k n:Nat),AZ (AV k n)=n%BB^k
 | 0,n=>by simp [AV,AZ,Nat.mod_one]
 | k+1,n=>by
  rw [AV,AZ,Jx k,Nat.pow_succ,Nat.mul_comm (BB^k),Nat.mod_mul]
theorem FT (n i:Nat):n%BB^(i+1)=n%BB^i+BB^i*dgt n i:=by
 rw [Nat.pow_succ,Nat.mod_mul];rfl
theorem A5 (n i:Nat):n/BB^i=n/BB^(i+1)*BB+dgt n i:=by
 rw [Nat.pow_succ,← Nat.div_div_eq_div_mul,dgt]
 have:=Nat.div_add_mod (n/BB^i) BB
 rw [Nat.mul_comm] at this
 exact this.symm
theorem Jy:∀ (l:List Nat) (d:Nat),AZ (l++[d])=AZ l+BB^l.length*d
 | [],d=>by simp [AZ]
 | x::r,d=>by
  simp only [List.cons_append,AZ,Jy r d,List.length_cons,Nat.pow_succ,Nat.mul_add]
  rw [Nat.mul_comm (BB^r.length) BB,Nat.mul_assoc,Nat.add_assoc]
theorem Nl:∀ (l:List Nat),(∀ d ∈ l,d<BB)->AZ l<BB^l.length
 | [],_=>by simp [AZ]
 | d::r,h=>by
  have h1:=Nl r (λ x hx=>h x (by simp [hx]))
  have h2:=h d (by simp)
  simp only [AZ,List.length_cons,Nat.pow_succ]
  have:=Nat.mul_le_mul_left BB (show AZ r+1<=BB^r.length by omega)
  rw [Nat.mul_comm (BB^r.length)]
  rw [Nat.mul_add] at this
  omega
theorem Nm {N V p d:Nat} (hp:p<N) (hd:d<BB):(AV N V).set p d=AV N (V-dgt V p*BB^p+d*BB^p):=by
 have hle:dgt V p*BB^p<=V:=by
  unfold dgt
  have h1:=Nat.mod_le (V/BB^p) BB
  have h2:=Nat.mul_le_mul_right (BB^p) h1
  have h3:=Nat.div_mul_le_self V (BB^p)
  omega
 -- V = low + dgt * B^p + high * B^(p+1)
 have e1:=Nat.div_add_mod V (BB^p)
 have e2:=A5 V p
 have eV:V=V%BB^p+(dgt V p+BB*(V/BB^(p+1)))*BB^p:=by
  rw [Nat.mul_comm _ BB,Nat.add_comm] at e2
  rw [← e2,Nat.mul_comm _ (BB^p)];omega
 have eW:V-dgt V p*BB^p+d*BB^p=V%BB^p+(d+BB*(V/BB^(p+1)))*BB^p:=by
  rw [Nat.add_mul] at eV ⊢
  omega
 rw [eW]
 apply List.ext_getElem?
 intro i
 by_cases hi:i<N
 ·rw [CM _ _ _ hi]
  by_cases hip:i=p
  ·subst hip
   rw [List.getElem?_set_self (by rw [Ag];exact hi)]
   congr 1
   unfold dgt
   rw [Nat.add_mul_div_right _ _ (BBp i),Nat.div_eq_of_lt (Nat.mod_lt _ (BBp i)),Nat.zero_add,Nat.add_mul_mod_self_left,Nat.mod_eq_of_lt hd]
  ·rw [List.getElem?_set_ne (λ e=>hip e.symm),CM _ _ _ hi]
   congr 1
   by_cases hlt:i<p
   ·rw [← QI (n:=V) hlt,← QI (n:=V%BB^p+_) hlt,Nat.add_mul_mod_self_right,Nat.mod_mod]
   ·have hgt:i=(p+1)+(i-p-1):=by omega
    unfold dgt
    rw [hgt,Nat.pow_add,← Nat.div_div_eq_div_mul,← Nat.div_div_eq_div_mul]
    congr 2
    rw [Nat.pow_succ,← Nat.div_div_eq_div_mul,← Nat.div_div_eq_div_mul,Nat.add_mul_div_right _ _ (BBp p),Nat.div_eq_of_lt (Nat.mod_lt _ (BBp p)),Nat.zero_add,Nat.add_mul_div_left _ _ Da,Nat.div_eq_of_lt hd,Nat.zero_add]
 ·rw [List.getElem?_eq_none (by rw [List.length_set,Ag];omega),List.getElem?_eq_none (by rw [Ag];omega)]
theorem LL (k:Nat):AV k 0=List.replicate k 0:=by
 induction k with
 | zero=>rfl
 | succ k ih=>simp [AV,ih,List.replicate_succ]
theorem XM {n k:Nat} (h1:n<BB^k) (h2:k=0∨BB^(k-1)<=n):(dig n).length=k:=by
 have a:=(Ie k n).2 h1
 rcases h2 with h2|h2
 ·omega
 ·have:=(QH (k-1) n).2 h2;omega
theorem Jz {n k:Nat} (h:n<BB^(k+1)) (h0:dgt n k=0):n<BB^k:=by
 have:=FT n k
 rw [Nat.mod_eq_of_lt h,h0,Nat.mul_zero,Nat.add_zero] at this
 rw [this];exact Nat.mod_lt _ (BBp k)
theorem VJ {a b k:Nat} (h:a/BB^(k+1)=b/BB^(k+1)) (hd:dgt a k=dgt b k):a/BB^k=b/BB^k:=by
 rw [A5 a k,A5 b k,h,hd]
theorem LM {a b k:Nat} (h:a/BB^(k+1)=b/BB^(k+1)) (hd:dgt a k<dgt b k):a<b:=by
 have e1:=A5 a k
 have e2:=A5 b k
 rw [h] at e1
 have:a/BB^k<b/BB^k:=by omega
 apply Nat.lt_of_not_le
 intro hle
 exact absurd (Nat.div_le_div_right (c:=BB^k) hle) (by omega)
def Bm (a b i:Nat):Nat:=(a%BB^i+b%BB^i)/BB^i
theorem Rb (a b:Nat):Bm a b 0=0:=by simp [Bm,Nat.mod_one]
theorem QJ (a b i:Nat):(a+b)/BB^i=a/BB^i+b/BB^i+Bm a b i:=by
 have h:a+b=a%BB^i+b%BB^i+BB^i*(a/BB^i+b/BB^i):=by
  have e1:=Nat.div_add_mod a (BB^i)
  have e2:=Nat.div_add_mod b (BB^i)
  rw [Nat.mul_add];omega
 unfold Bm
 conv=>lhs;rw [h]
 rw [Nat.add_mul_div_left _ _ (BBp i)];omega
theorem VK (a b i:Nat):(dgt a i+dgt b i+Bm a b i)%BB=dgt (a+b) i/\(dgt a i+dgt b i+Bm a b i)/BB=Bm a b (i+1):=by
 constructor
 ·unfold dgt
  rw [QJ]
  simp [Nat.add_mod,Nat.mod_mod]
 ·unfold Bm
  rw [FT,FT]
  have e:a%BB^i+BB^i*dgt a i+(b%BB^i+BB^i*dgt b i)=a%BB^i+b%BB^i+BB^i*(dgt a i+dgt b i):=by rw [Nat.mul_add];omega
  rw [e,Nat.pow_succ,← Nat.div_div_eq_div_mul,Nat.add_mul_div_left _ _ (BBp i)]
  congr 1;omega
theorem I0 (a b i:Nat):Bm a b i<=1:=by
 unfold Bm
 have h1:=Nat.mod_lt a (BBp i)
 have h2:=Nat.mod_lt b (BBp i)
 have:(a%BB^i+b%BB^i)/BB^i<2:=by rw [Nat.div_lt_iff_lt_mul (BBp i)];omega
 omega
theorem Nn {a b i:Nat} (h:0<Bm a b i):BB^i<=a+b:=by
 unfold Bm at h
 have h1:=Nat.mod_le a (BB^i)
 have h2:=Nat.mod_le b (BB^i)
 apply Nat.le_of_not_lt
 intro hlt
 rw [Nat.div_eq_of_lt (by omega)] at h;omega
theorem TW {a b i:Nat} (ha:a<BB^i) (hb:b<BB^i) (h:Bm a b i=0):a+b<BB^i:=by
 unfold Bm at h
 rw [Nat.mod_eq_of_lt ha,Nat.mod_eq_of_lt hb] at h
 rcases (Nat.div_eq_zero_iff).1 h with h|h
 ·have:=BBp i;omega
 ·exact h
def brw (a b i:Nat):Nat:=if a%BB^i<b%BB^i then 1 else 0
theorem TX (a b:Nat):brw a b 0=0:=by simp [brw,Nat.mod_one]
theorem PI (a b i:Nat):brw a b i<=1:=by unfold brw;split <;> omega
theorem QK {a b:Nat} (h:b<=a) (i:Nat):a/BB^i=b/BB^i+brw a b i+(a-b)/BB^i:=by
 obtain ⟨c,rfl⟩:∃ c,a=b+c:=⟨a-b,by omega⟩
 rw [Nat.add_sub_cancel_left,QJ]
 have:Bm b c i=brw (b+c) b i:=by
  unfold Bm brw
  have h1:=Nat.mod_lt b (BBp i)
  have h2:=Nat.mod_lt c (BBp i)
  have e:=Nat.add_mod b c (BB^i)
  rw [e]
  generalize b%BB^i=B' at *
  generalize c%BB^i=C' at *
  generalize BB^i=P at *
  by_cases hlt:B' + C' < P
  ·rw [Nat.div_eq_of_lt hlt,Nat.mod_eq_of_lt hlt,if_neg (by omega)]
  ·have e2:(B' + C')%P=B' + C' - P:=by
    rw [Nat.mod_eq_sub_mod (by omega),Nat.mod_eq_of_lt (by omega)]
   rw [e2,if_pos (show B' + C' - P<B' by omega)]
   apply Nat.le_antisymm
   ·have:(B' + C')/P<2:=by rw [Nat.div_lt_iff_lt_mul (by omega)];omega
    omega
   ·rw [Nat.le_div_iff_mul_le (by omega)];omega
 omega
theorem VL {a b:Nat} (h:b<=a) (i:Nat) :
  (((dgt a i:Int)-dgt b i-brw a b i<0->(dgt a i:Int)-dgt b i-brw a b i+1000000000=dgt (a-b) i/\brw a b (i+1)=1)) /\
  (((0:Int)<=dgt a i-dgt b i-brw a b i->(dgt a i:Int)-dgt b i-brw a b i=dgt (a-b) i/\brw a b (i+1)=0)):=by
 have e:=QK h i
 have e1:=A5 a i
 have e2:=A5 b i
 have e3:=A5 (a-b) i
 have e4:=QK h (i+1)
 have d1:=BZ a i
 have d2:=BZ b i
 have d3:=BZ (a-b) i
 have hb:=PI a b i
 have hb':=PI a b (i+1)
 rw [e1,e2,e3] at e
 rw [e4] at e
 rw [Nat.add_mul,Nat.add_mul] at e
 unfold BB at *
 constructor <;> intro hn <;> constructor <;> omega
theorem QL {A x b V c i k:Nat} (h:V+c*BB^(i+k)=A*b+x*BB^i*(b%BB^k)) :
  V-dgt V (i+k)*BB^(i+k)+(dgt V (i+k)+x*dgt b k+c)%BB*BB^(i+k)+(dgt V (i+k)+x*dgt b k+c)/BB*BB^(i+(k+1))=A*b+x*BB^i*(b%BB^(k+1)):=by
 have hle:dgt V (i+k)*BB^(i+k)<=V:=by
  unfold dgt
  have h1:=Nat.mod_le (V/BB^(i+k)) BB
  have h2:=Nat.mul_le_mul_right (BB^(i+k)) h1
  have h3:=Nat.div_mul_le_self V (BB^(i+k))
  omega
 have e1:=Nat.div_add_mod (dgt V (i+k)+x*dgt b k+c) BB
 have e2:(dgt V (i+k)+x*dgt b k+c)%BB*BB^(i+k)+(dgt V (i+k)+x*dgt b k+c)/BB*BB^(i+(k+1))=(dgt V (i+k)+x*dgt b k+c)*BB^(i+k):=by
  conv=>rhs;rw [← e1]
  rw [show i+(k+1)=(i+k)+1 from rfl,Nat.pow_succ,Nat.add_mul]
  rw [Nat.mul_comm (BB^(i+k)) BB,← Nat.mul_assoc,Nat.mul_comm BB,Nat.add_comm]
 rw [Nat.add_assoc,e2,FT,Nat.mul_add,← Nat.add_assoc,← h,Nat.add_mul,Nat.add_mul]
 have e3:x*BB^i*(BB^k*dgt b k)=x*dgt b k*BB^(i+k):=by
  rw [Nat.pow_add]
  simp only [Nat.mul_assoc,Nat.mul_comm,Nat.mul_left_comm]
 rw [e3];omega
theorem TY {a b i:Nat} : a%BB^i*b+dgt a i*BB^i*b=a%BB^(i+1)*b:=by
 rw [FT,Nat.add_mul,Nat.mul_comm (dgt a i)]
theorem QM (a n i:Nat) (hn:0<n):((a/BB^(i+1))%n*BB+dgt a i)/n=dgt (a/n) i/\((a/BB^(i+1))%n*BB+dgt a i)%n=(a/BB^i)%n:=by
 have e:=A5 a i
 have e1:=Nat.div_add_mod (a/BB^(i+1)) n
 have hr:=Nat.mod_lt (a/BB^(i+1)) hn
 have hd:=BZ a i
 have key:a/BB^i=((a/BB^(i+1))%n*BB+dgt a i)+n*(a/BB^(i+1)/n*BB):=by
  conv=>lhs;rw [e,← e1]
  rw [Nat.add_mul,Nat.mul_assoc];omega
 constructor
 ·have hq:((a/BB^(i+1))%n*BB+dgt a i)/n<BB:=by
   rw [Nat.div_lt_iff_lt_mul hn]
   have:=Nat.mul_le_mul_right BB (show (a/BB^(i+1))%n+1<=n by omega)
   rw [Nat.add_mul] at this
   rw [Nat.mul_comm BB n];omega
  unfold dgt
  have e5:a/n/BB^i=a/BB^i/n:=by rw [Nat.div_div_eq_div_mul,Nat.mul_comm n,← Nat.div_div_eq_div_mul]
  have e6:∀ X Y:Nat,X<BB->X=(X+Y*BB)%BB:=λ X Y h=>by rw [Nat.add_mul_mod_self_right,Nat.mod_eq_of_lt h]
  rw [e5]
  conv=>rhs;rw [key]
  rw [Nat.add_mul_div_left _ _ hn]
  exact e6 _ _ hq
 ·rw [key,Nat.add_mul_mod_self_left]
theorem TZ {a k:Nat} (n:Nat) (h:a<BB^k):a/BB^k%n=0:=by rw [Nat.div_eq_of_lt h];exact Nat.zero_mod n
def hi (q i:Nat):Nat:=q/BB^i*BB^i
theorem WX {q k:Nat} (h:q<BB^k):hi q k=0:=by unfold hi;rw [Nat.div_eq_of_lt h];simp
theorem VM (q:Nat):hi q 0=q:=by simp [hi]
theorem WY (q i:Nat):dgt (hi q (i+1)) i=0:=by
 unfold dgt hi
 rw [Nat.pow_succ,Nat.mul_comm (BB^i) BB,← Nat.mul_assoc,Nat.mul_div_cancel _ (BBp i),Nat.mul_mod_left]
theorem QN (q i:Nat):hi q i=hi q (i+1)+dgt q i*BB^i:=by
 unfold hi
 conv=>lhs;rw [A5 q i]
 rw [Nat.add_mul,Nat.pow_succ,Nat.mul_comm (BB^i) BB,Nat.mul_assoc]
theorem VN {N q i d:Nat} (hi' : i<N) (hd:d=dgt q i):(AV N (hi q (i+1))).set i d=AV N (hi q i):=by
 subst hd
 rw [Nm hi' (BZ q i),WY,Nat.zero_mul,Nat.sub_zero,← QN]
theorem Eo (d n:Nat):AZ (d::dig n)=d+BB*n:=by rw [AZ,LK]
theorem MB (k:Nat):List.replicate k 0=AV k 0:=(LL k).symm
def rn (r:List Dat):Int:=(r.getD 0 (.int 0)).n
def AJ (l:List Nat):List (List Dat):=l.map λ (d:Nat)=>[Dat.int (d:Int)]
def L (n:Nat):List (List Dat):=AJ (dig n)
def nl (n:Nat):Nat:=(dig n).length
theorem BX (l:List Nat):(AJ l).length=l.length:=by simp [AJ]
theorem Aq (n:Nat):(L n).length=nl n:=BX _
theorem H8:L 0=[]:=by unfold L;rw [Bd];rfl
theorem By:nl 0=0:=by unfold nl;rw [Bd];rfl
theorem GZ {n:Nat} (h:n≠0):0<nl n:=by unfold nl;rw [D0 h];simp
theorem Db {n:Nat} : nl n=0↔n=0:=⟨λ h=>by rcases Nat.eq_zero_or_pos n with h' | h';exact h';have:=GZ (n:=n) (by omega);omega,λ h=>by subst h;exact By⟩
theorem Dc (k n:Nat):nl n<=k↔n<BB^k:=Ie k n
theorem Ta (i n:Nat):i<nl n↔BB^i<=n:=QH i n
theorem C1 (n:Nat):n<BB^nl n:=(Ie _ _).1 (Nat.le_refl _)
theorem Fz {a b:Nat} (h:a<=b):nl a<=nl b:=(Ie _ _).2 (Nat.lt_of_le_of_lt h (C1 b))
theorem DG (a b:Nat):nl (a*b)<=nl a+nl b:=by
 refine (Ie _ _).2 ?_
 rw [Nat.pow_add]
 have h1:=C1 a
 have h2:=C1 b
 exact Nat.mul_lt_mul'' h1 h2
theorem LN (a b:Nat):nl (a+b)<=max (nl a) (nl b)+1:=by
 refine (Ie _ _).2 ?_
 have h1:=C1 a
 have h2:=C1 b
 have m1:BB^nl a<=BB^max (nl a) (nl b):=Nat.pow_le_pow_right Da (by omega)
 have m2:BB^nl b<=BB^max (nl a) (nl b):=Nat.pow_le_pow_right Da (by omega)
 rw [Nat.pow_succ]
 have:BB^max (nl a) (nl b)*2<=BB^max (nl a) (nl b)*BB:=Nat.mul_le_mul_left _ (by decide)
 omega
theorem Tb {n:Nat} (h:n≠0) (h2:n<BB):nl n=1:=by
 have:=GZ h
 have:=(Ie 1 n).2 (by simpa using h2)
 unfold nl at *;omega
theorem PJ (x:Int):rn [Dat.int x]=x:=rfl
theorem H9 (l:List Nat) (i:Nat):(((AJ l).getD i []).getD 0 (.int 0))=.int ((l.getD i 0:Nat):Int):=by
 unfold AJ
 simp only [List.getD,List.getElem?_map]
 cases l[i]? <;> rfl
theorem V4 (n i:Nat):(((L n).getD i []).getD 0 (.int 0))=.int ((dgt n i:Nat):Int):=by
 unfold L;rw [H9,TU]
theorem Tc (l:List Nat) (i:Nat):rn ((AJ l).getD i [])=((l.getD i 0:Nat):Int):=by
 unfold rn;rw [H9];rfl
theorem J0 {l:List Nat} {i:Nat} (h:i<l.length):(AJ l).getD i []=[Dat.int ((l.getD i 0:Nat):Int)]:=by
 unfold AJ;simp [List.getD,h]
theorem LO {l:List Nat} {i:Nat} (h:i<l.length) (x:Nat):(AJ l).set i (((AJ l).getD i []).set 0 (Dat.int (x:Int)))=AJ (l.set i x):=by
 rw [J0 h]
 unfold AJ
 rw [List.map_set];rfl
theorem CU (l:List Nat) (x:Nat):AJ l++[[Dat.int (x:Int)]]=AJ (l++[x]):=by simp [AJ]
theorem PK (l:List Nat) (k:Nat):(AJ l).take k=AJ (l.take k):=by simp [AJ,List.map_take]
theorem FE (k:Nat):List.replicate k [Dat.int 0]=AJ (List.replicate k 0):=by simp [AJ,List.map_replicate]
theorem I1 (k n:Nat):∀ d ∈ AV k n,d<BB:=by
 intro d hd
 obtain ⟨i,hi,rfl⟩:=List.getElem_of_mem hd
 have:=CM k n i (by rw [Ag] at hi;exact hi)
 rw [List.getElem?_eq_getElem hi] at this
 rw [Option.some.inj this];exact BZ n i
theorem Rc {k n i:Nat} (h:i<k):(AV k n).getD i 0=dgt n i:=by simp [List.getD,CM k n i h]
def inB (n:Int):Bool:=decide (0<=n) && decide (n<=999999999)
def A6 (l:List (List Dat)):Bool:=decide (l.length<=60) && l.all (λ r=>inB (rn r)) && (decide (l.length=0) || !decide (rn (l.getD (l.length-1) [])=0))
theorem If {n:Nat} (h:n≠0):dgt n (nl n-1)≠0:=by
 intro h0
 have hp:=GZ h
 have h1:=C1 n
 have:nl n=nl n-1+1:=by omega
 rw [this] at h1
 have:=Jz h1 h0
 have:=(Dc _ _).2 this
 omega
theorem No (n:Nat):A6 (L n)=decide (nl n<=60):=by
 have h1:(L n).all (λ r=>inB (rn r))=true:=by
  refine List.all_eq_true.2 λ r hr=>?_
  obtain ⟨d,hd,rfl⟩:=List.mem_map.1 hr
  have:=TS n d hd
  unfold BB at this
  simp only [PJ,inB,Bool.and_eq_true];exact ⟨decide_eq_true (by omega),decide_eq_true (by omega)⟩
 have h2:(decide ((L n).length=0) || !decide (rn ((L n).getD ((L n).length-1) [])=0))=true:=by
  rw [Aq]
  by_cases h:n=0
  ·subst h;simp [By]
  ·have e:rn ((L n).getD (nl n-1) [])=(dgt n (nl n-1):Int):=by unfold rn;rw [V4];rfl
   rw [e]
   have:=If h
   simp;right;omega
 unfold A6
 rw [h1,h2,Aq];simp
theorem Ep {e:Nat} {l:List (List Dat)} (hs:Dat.has (.sl e [.int]) (.sl l)) (h:A6 l=true):∃ n,l=L n/\nl n<=60:=by
 simp only [A6,Bool.and_eq_true,decide_eq_true_eq] at h
 obtain ⟨⟨h1,h2⟩,h3⟩:=h
 have hrow:∀ r ∈ l,∃ d:Nat,r=[Dat.int (d:Int)]/\d<BB:=by
  intro r hr
  obtain ⟨i,hi,rfl⟩:=List.getElem_of_mem hr
  simp only [Dat.has] at hs
  have hh:=hs.2 i hi
  have eg:l.getD i []=l[i]:=by simp [List.getD,hi]
  rw [eg] at hh
  match hq:l[i],hh with
  | [.int n],_=>
   have hb:=List.all_eq_true.1 h2 _ hr
   rw [hq] at hb
   simp only [PJ,inB,Bool.and_eq_true] at hb
   have hb:0<=n/\n<=999999999:=⟨of_decide_eq_true hb.1,of_decide_eq_true hb.2⟩
   exact ⟨n.toNat,by rw [Int.toNat_of_nonneg hb.1],by unfold BB;omega⟩
 obtain ⟨ds,rfl,hds⟩:∃ ds:List Nat,l=AJ ds/\∀ d ∈ ds,d<BB:=by
  clear hs h1 h2 h3
  induction l with
  | nil=>exact ⟨[],rfl,by simp⟩
  | cons r l ih=>
   obtain ⟨ds,rfl,hd⟩:=ih λ x hx=>hrow x (by simp [hx])
   obtain ⟨d,rfl,hd1⟩:=hrow r (by simp)
   exact ⟨d::ds,rfl,λ x hx=>by rcases List.mem_cons.1 hx with rfl|hx;exact hd1;exact hd x hx⟩
 refine ⟨AZ ds,?_,?_⟩
 ·unfold L
  rw [H7 ds hds]
  intro hne h0
  rw [BX,Tc] at h3
  have hlen:0<ds.length:=List.length_pos_iff.2 hne
  rw [List.getLast_eq_getElem] at h0
  simp [List.getD,show ds.length-1<ds.length by omega,h0] at h3
  exact hne h3
 ·rw [BX] at h1
  refine (Dc _ _).2 (Nat.lt_of_lt_of_le (Nl ds hds) (Nat.pow_le_pow_right Da h1))
def Dd (a b:Nat):Int:=if a<b then -1 else if a=b then 0 else 1
def FU (a b:Int):Int:=if a<b then -1 else if a=b then 0 else 1
theorem QO {a b:Nat} (h:a<b):Dd a b=-1:=by unfold Dd;rw [if_pos h]
theorem QP {a b:Nat} (h:b<a):Dd a b=1:=by unfold Dd;rw [if_neg (by omega),if_neg (by omega)]
theorem VO (a:Nat):Dd a a=0:=by unfold Dd;simp
theorem Np {a b:Nat} (h:nl a<nl b):a<b:=by
 apply Nat.lt_of_not_le
 intro hle;have:=Fz hle;omega
theorem MC (l:List Nat) (i:Nat):(((AJ l).getD i []).getD 0 (.int 0)).n=((l.getD i 0:Nat):Int):=by rw [H9];rfl
theorem L_n (n i:Nat):(((L n).getD i []).getD 0 (.int 0)).n=(dgt n i:Int):=by rw [V4];rfl
theorem PL {k n i:Nat} (h:i<k):(((AJ (AV k n)).getD i []).getD 0 (.int 0)).n=(dgt n i:Int):=by rw [MC,Rc h]
theorem V5 (a b:Nat):Int.tdiv (a:Int) (b:Int)=((a/b:Nat):Int):=rfl
theorem V6 (a b:Nat):Int.tmod (a:Int) (b:Int)=((a%b:Nat):Int):=rfl
theorem LP (a:Nat):Int.tdiv (a:Int) (1000000000:Int)=((a/BB:Nat):Int):=rfl
theorem Nq (a:Nat):Int.tmod (a:Int) (1000000000:Int)=((a%BB:Nat):Int):=rfl
theorem D1 {a:Nat} (h:a<=9223372036854775807):IntKind.i64.wrap (a:Int)=(a:Int):=AF (by omega) (by omega)
theorem QQ (n i:Nat):(0:Int)<=(dgt n i:Int)/\(dgt n i:Int)<1000000000:=by
 have:=BZ n i
 unfold BB at this;omega
def In (p:List Dat->Bool) (l:List (List Dat)):Int:=match l.findIdx? p with|some k=>(k:Int)|none=>-1
theorem QR {p:List Dat->Bool} {l:List (List Dat)} {k:Nat} (hk:k<l.length) (h:∀ j,j<k->p (l.getD j [])=false) (hp:p (l.getD k [])=true):In p l=(k:Int):=by
 have:l.findIdx? p=some k:=by
  rw [List.findIdx?_eq_some_iff_getElem]
  refine ⟨hk,?_,λ j hj=>?_⟩
  ·simpa [List.getD,hk] using hp
  ·have:=h j hj
   simpa [List.getD,show j<l.length by omega] using this
 unfold In;rw [this]
theorem LQ {p:List Dat->Bool} {l:List (List Dat)} (h:∀ j,j<l.length->p (l.getD j [])=false):In p l=-1:=by
 have:l.findIdx? p=none:=by
  rw [List.findIdx?_eq_none_iff]
  intro x hx
  obtain ⟨j,hj,rfl⟩:=List.getElem_of_mem hx
  have:=h j hj
  simpa [List.getD,hj] using this
 unfold In;rw [this]
theorem Nr (p:List Dat->Bool) (l:List (List Dat)):decide (In p l≥0)=l.any p:=by
 unfold In
 cases h:l.findIdx? p with
 | none=>
  rw [List.findIdx?_eq_none_iff] at h
  have:l.any p=false:=by
   rw [List.any_eq_false];intro x hx;rw [h x hx];simp
  rw [this];rfl
 | some k=>
  rw [List.findIdx?_eq_some_iff_getElem] at h
  obtain ⟨hk,hp,_⟩:=h
  have:l.any p=true:=List.any_eq_true.2 ⟨_,List.getElem_mem hk,hp⟩
  rw [this]
  exact decide_eq_true (show (0:Int)<=(k:Int) by omega)
theorem QS {P:Nat->Prop} {k:Nat} (h:∀ j,j<k->P j) (hk:P k):∀ j,j<k+1->P j:=λ j hj=>by
 rcases Nat.lt_succ_iff_lt_or_eq.1 hj with hj|rfl
 ·exact h j hj
 ·exact hk
theorem LR {l:List Nat} {k:Nat} (hk:k≠0) (hl:k<=l.length):l.take k=l.take (k-1)++[l.getD (k-1) 0]:=by
 have:k=(k-1)+1:=by omega
 conv=>lhs;rw [this]
 rw [List.take_add_one]
 simp [List.getD,show k-1<l.length by omega]
theorem Re {l:List Nat} {k:Nat} (hk:k≠0) (hl:k<=l.length) (h0:l.getD (k-1) 0=0):AZ (l.take (k-1))=AZ (l.take k):=by
 rw [LR hk hl,h0,Jy];simp
theorem Ns {l:List Nat} {k:Nat} (hd:∀ d ∈ l,d<BB) (hl:k<=l.length) (h:AZ (l.take k)=AZ l) (h0:k=0∨l.getD (k-1) 0≠0):(AJ l).take k=L (AZ l):=by
 rw [PK,← h]
 unfold L
 rw [H7 _ (λ d hd'=>hd d (List.mem_of_mem_take hd'))]
 intro hne
 have hk:k≠0:=by rintro rfl;simp at hne
 have h1:=h0.resolve_left hk
 have e:l.take k=l.take (k-1)++[l.getD (k-1) 0]:=LR hk hl
 have e2:∀ (m:List Nat) (x:Nat) (h:m++[x]≠[]),(m++[x]).getLast h=x:=λ m x h=>by simp
 have e3:∀ (m:List Nat) (hm:m≠[]),m=l.take (k-1)++[l.getD (k-1) 0]->m.getLast hm≠0:=λ m hm he=>by subst he;rw [e2];exact h1
 exact e3 _ hne e
theorem Td {o:List Nat} {n:Nat} (h:o=dig n):AJ o=L n:=by subst h;rfl
end Go.Proofs.YtdgmbbjoifneiaaGreatDoor
