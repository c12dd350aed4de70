import Derived.Test.YtkffpiaagjcmpaaGreatEvExC
import Derived.Deep.Slices
import Derived.OpenShut
namespace Go.Proofs.YtkffpiaagjcmpaaGreat
set_option linter.unusedVariables false
set_option linter.unusedSimpArgs false
def BB:Nat:=1000000000
def dig (n:Nat):List Nat:=if h:n=0 then [] else n%BB::dig (n/BB)
termination_by n
decreasing_by exact Nat.div_lt_self (Nat.pos_of_ne_zero h) (by decide)
def AX:Nat->Nat->List Nat
 | 0,_=>[]
 | k+1,n=>n%BB::AX k (n/BB)
def Ap:List Nat->Nat
 | []=>0
 | d::r=>d+BB*Ap r
def dgt (n i:Nat):Nat:=n/BB^i%BB
theorem EZ:0<BB:=by decide
theorem BBp (i:Nat):0<BB^i:=Nat.pow_pos EZ
theorem CP:dig 0=[]:=by rw [dig];simp
theorem Ew {n:Nat} (h:n≠0):dig n=n%BB::dig (n/BB):=by rw [dig];simp [h]
theorem XX:∀ (n:Nat),∀ d ∈ dig n,d<BB:=by
 intro n
 induction n using Nat.strongRecOn with
 | _ n ih=>
  intro d hd
  by_cases h:n=0
  ·subst h;rw [CP] at hd;simp at hd
  ·rw [Ew h] at hd
   rcases List.mem_cons.1 hd with rfl|hd
   ·exact Nat.mod_lt _ EZ
   ·exact ih _ (Nat.div_lt_self (Nat.pos_of_ne_zero h) (by decide)) d hd
theorem N9:∀ (n:Nat),Ap (dig n)=n:=by
 intro n
 induction n using Nat.strongRecOn with
 | _ n ih=>
  by_cases h:n=0
  ·subst h;rw [CP];rfl
  ·rw [Ew h,Ap,ih _ (Nat.div_lt_self (Nat.pos_of_ne_zero h) (by decide))]
   exact Nat.mod_add_div n BB
theorem Jz {d:Nat} {r:List Nat} (hd:d<BB):dig (d+BB*Ap r)=if d=0/\Ap r=0 then [] else d::dig (Ap r):=by
 have hm:(d+BB*Ap r)%BB=d:=by rw [Nat.add_mul_mod_self_left,Nat.mod_eq_of_lt hd]
 have hq:(d+BB*Ap r)/BB=Ap r:=by rw [Nat.add_mul_div_left _ _ EZ,Nat.div_eq_of_lt hd,Nat.zero_add]
 split
 ·rename_i h;rw [h.1,h.2];simp [CP]
 ·rename_i h
  have:d+BB*Ap r≠0:=λ e=>h ⟨by omega,by
   have:BB*Ap r=0:=by omega
   rcases Nat.mul_eq_zero.1 this with h|h
   ·simp [BB] at h
   ·exact h⟩
  rw [Ew this,hm,hq]
theorem J0:∀ (l:List Nat),(∀ d ∈ l,d<BB)->(∀ h:l≠[],l.getLast h≠0)->dig (Ap l)=l
 | [],_,_=>CP
 | d::r,hd,hl=>by
  rw [Ap,Jz (hd d (by simp))]
  have ih:=J0 r (λ x hx=>hd x (by simp [hx])) (λ h=>by have:=hl (by simp);rwa [List.getLast_cons h] at this)
  split
  ·rename_i h
   obtain ⟨rfl,h2⟩:=h
   rw [h2,CP] at ih
   subst ih
   exact absurd rfl (hl (by simp))
  ·rw [ih]
theorem UG:∀ (i n:Nat),i<(dig n).length↔BB^i<=n
 | i,n=>by
  by_cases h:n=0
  ·subst h;rw [CP];have:=BBp i;exact ⟨λ h=>absurd h (by simp),λ h=>by omega⟩
  ·rw [Ew h]
   cases i with
   | zero=>simp;omega
   | succ i=>
    have ih:=UG i (n/BB)
    simp only [List.length_cons,Nat.add_lt_add_iff_right,ih]
    rw [Nat.le_div_iff_mul_le EZ,Nat.pow_succ]
theorem Kl (k n:Nat):(dig n).length<=k↔n<BB^k:=by
 have:=UG k n
 omega
theorem O8:∀ (n i:Nat),i<(dig n).length->(dig n)[i]?=some (dgt n i)
 | n,i,hi=>by
  by_cases h:n=0
  ·subst h;rw [CP] at hi;simp at hi
  ·rw [Ew h] at hi ⊢
   cases i with
   | zero=>simp [dgt]
   | succ i=>
    have ih:=O8 (n/BB) i (by simpa using hi)
    simp only [List.getElem?_cons_succ,ih,dgt,Nat.div_div_eq_div_mul,Nat.pow_succ]
    rw [Nat.mul_comm]
theorem Ql {n i:Nat} (h:n<BB^i):dgt n i=0:=by unfold dgt;rw [Nat.div_eq_of_lt h];rfl
theorem CH (n i:Nat):dgt n i<BB:=Nat.mod_lt _ EZ
theorem XY (n i:Nat):(dig n).getD i 0=dgt n i:=by
 by_cases h:i<(dig n).length
 ·simp [List.getD,O8 n i h]
 ·have:=(Kl i n).1 (by omega)
  rw [Ql this];simp [List.getD,List.getElem?_eq_none (Nat.le_of_not_lt h)]
theorem A0:∀ (k n:Nat),(AX k n).length=k
 | 0,_=>rfl
 | k+1,n=>by simp [AX,A0 k]
theorem DE:∀ (k n i:Nat),i<k->(AX k n)[i]?=some (dgt n i)
 | 0,_,_,h=>by omega
 | k+1,n,0,_=>by simp [AX,dgt]
 | k+1,n,i+1,h=>by
  simp only [AX,List.getElem?_cons_succ,DE k (n/BB) i (by omega),dgt,Nat.div_div_eq_div_mul,Nat.pow_succ]
  rw [Nat.mul_comm]
theorem DR (k n:Nat):AX (k+1) n=AX k n++[dgt n k]:=by
 apply List.ext_getElem?
 intro i
 by_cases h:i<k
 ·rw [DE _ _ _ (by omega),List.getElem?_append_left (by rw [A0];exact h),DE _ _ _ h]
 ·by_cases h2:i=k
  ·subst h2;rw [DE _ _ _ (by omega),List.getElem?_append_right (by rw [A0];exact Nat.le_refl _),A0];simp
  ·rw [List.getElem?_eq_none (by rw [A0];omega),List.getElem?_eq_none (by simp [A0];omega)]
theorem XZ {k n:Nat} (h:(dig n).length=k):AX k n=dig n:=by
 apply List.ext_getElem?
 intro i
 by_cases hi:i<k
 ·rw [DE _ _ _ hi,O8 _ _ (by omega)]
 ·rw [List.getElem?_eq_none (by rw [A0];omega),List.getElem?_eq_none (by omega)]
theorem UH {n i k:Nat} (h:i<k):dgt (n%BB^k) i=dgt n i:=by
 unfold dgt
 have e:BB^k=BB^i*BB^(k-i):=by rw [← Nat.pow_add];congr 1;omega
 rw [e,Nat.mod_mul_right_div_self]
 have e2:BB^(k-i)=BB*BB^(k-i-1):=by rw [Nat.mul_comm,← Nat.pow_succ];congr 1;omega
 rw [e2,Nat.mod_mul_right_mod]
theorem Fo:∀ (k n:Nat),Ap (AX k n)=n%BB^k
 | 0,n=>by simp [AX,Ap,Nat.mod_one]
 | k+1,n=>by
  rw [AX,Ap,Fo k,Nat.pow_succ,Nat.mul_comm (BB^k),Nat.mod_mul]
theorem Gp (n i:Nat):n%BB^(i+1)=n%BB^i+BB^i*dgt n i:=by
 rw [Nat.pow_succ,Nat.mod_mul];rfl
theorem Bc (n i:Nat):n/BB^i=n/BB^(i+1)*BB+dgt n i:=by
 rw [Nat.pow_succ,← Nat.div_div_eq_div_mul,dgt]
 have:=Nat.div_add_mod (n/BB^i) BB
 rw [Nat.mul_comm] at this
 exact this.symm
theorem MJ:∀ (l:List Nat) (d:Nat),Ap (l++[d])=Ap l+BB^l.length*d
 | [],d=>by simp [Ap]
 | x::r,d=>by
  simp only [List.cons_append,Ap,MJ r d,List.length_cons,Nat.pow_succ,Nat.mul_add]
  rw [Nat.mul_comm (BB^r.length) BB,Nat.mul_assoc,Nat.add_assoc]
theorem Qm:∀ (l:List Nat),(∀ d ∈ l,d<BB)->Ap l<BB^l.length
 | [],_=>by simp [Ap]
 | d::r,h=>by
  have h1:=Qm r (λ x hx=>h x (by simp [hx]))
  have h2:=h d (by simp)
  simp only [Ap,List.length_cons,Nat.pow_succ]
  have:=Nat.mul_le_mul_left BB (show Ap r+1<=BB^r.length by omega)
  rw [Nat.mul_comm (BB^r.length)]
  rw [Nat.mul_add] at this
  omega
theorem Qn {N V p d:Nat} (hp:p<N) (hd:d<BB):(AX N V).set p d=AX N (V-dgt V p*BB^p+d*BB^p):=by
 have hle:dgt V p*BB^p<=V:=by
  unfold dgt
  have h1:=Nat.mod_le (V/BB^p) BB
  have h2:=Nat.mul_le_mul_right (BB^p) h1
  have h3:=Nat.div_mul_le_self V (BB^p)
  omega
 -- V = low + dgt * B^p + high * B^(p+1)
 have e1:=Nat.div_add_mod V (BB^p)
 have e2:=Bc V p
 have eV:V=V%BB^p+(dgt V p+BB*(V/BB^(p+1)))*BB^p:=by
  rw [Nat.mul_comm _ BB,Nat.add_comm] at e2
  rw [← e2,Nat.mul_comm _ (BB^p)];omega
 have eW:V-dgt V p*BB^p+d*BB^p=V%BB^p+(d+BB*(V/BB^(p+1)))*BB^p:=by
  rw [Nat.add_mul] at eV ⊢
  omega
 rw [eW]
 apply List.ext_getElem?
 intro i
 by_cases hi:i<N
 ·rw [DE _ _ _ hi]
  by_cases hip:i=p
  ·subst hip
   rw [List.getElem?_set_self (by rw [A0];exact hi)]
   congr 1
   unfold dgt
   rw [Nat.add_mul_div_right _ _ (BBp i),Nat.div_eq_of_lt (Nat.mod_lt _ (BBp i)),Nat.zero_add,Nat.add_mul_mod_self_left,Nat.mod_eq_of_lt hd]
  ·rw [List.getElem?_set_ne (λ e=>hip e.symm),DE _ _ _ hi]
   congr 1
   by_cases hlt:i<p
   ·rw [← UH (n:=V) hlt,← UH (n:=V%BB^p+_) hlt,Nat.add_mul_mod_self_right,Nat.mod_mod]
   ·have hgt:i=(p+1)+(i-p-1):=by omega
    unfold dgt
    rw [hgt,Nat.pow_add,← Nat.div_div_eq_div_mul,← Nat.div_div_eq_div_mul]
    congr 2
    rw [Nat.pow_succ,← Nat.div_div_eq_div_mul,← Nat.div_div_eq_div_mul,Nat.add_mul_div_right _ _ (BBp p),Nat.div_eq_of_lt (Nat.mod_lt _ (BBp p)),Nat.zero_add,Nat.add_mul_div_left _ _ EZ,Nat.div_eq_of_lt hd,Nat.zero_add]
 ·rw [List.getElem?_eq_none (by rw [List.length_set,A0];omega),List.getElem?_eq_none (by rw [A0];omega)]
theorem OA (k:Nat):AX k 0=List.replicate k 0:=by
 induction k with
 | zero=>rfl
 | succ k ih=>simp [AX,ih,List.replicate_succ]
theorem ACD {n k:Nat} (h1:n<BB^k) (h2:k=0∨BB^(k-1)<=n):(dig n).length=k:=by
 have a:=(Kl k n).2 h1
 rcases h2 with h2|h2
 ·omega
 ·have:=(UG (k-1) n).2 h2;omega
theorem MK {n k:Nat} (h:n<BB^(k+1)) (h0:dgt n k=0):n<BB^k:=by
 have:=Gp n k
 rw [Nat.mod_eq_of_lt h,h0,Nat.mul_zero,Nat.add_zero] at this
 rw [this];exact Nat.mod_lt _ (BBp k)
theorem ZV {a b k:Nat} (h:a/BB^(k+1)=b/BB^(k+1)) (hd:dgt a k=dgt b k):a/BB^k=b/BB^k:=by
 rw [Bc a k,Bc b k,h,hd]
theorem OB {a b k:Nat} (h:a/BB^(k+1)=b/BB^(k+1)) (hd:dgt a k<dgt b k):a<b:=by
 have e1:=Bc a k
 have e2:=Bc b k
 rw [h] at e1
 have:a/BB^k<b/BB^k:=by omega
 apply Nat.lt_of_not_le
 intro hle
 exact absurd (Nat.div_le_div_right (c:=BB^k) hle) (by omega)
def Ce (a b i:Nat):Nat:=(a%BB^i+b%BB^i)/BB^i
theorem VS (a b:Nat):Ce a b 0=0:=by simp [Ce,Nat.mod_one]
theorem UI (a b i:Nat):(a+b)/BB^i=a/BB^i+b/BB^i+Ce a b i:=by
 have h:a+b=a%BB^i+b%BB^i+BB^i*(a/BB^i+b/BB^i):=by
  have e1:=Nat.div_add_mod a (BB^i)
  have e2:=Nat.div_add_mod b (BB^i)
  rw [Nat.mul_add];omega
 unfold Ce
 conv=>lhs;rw [h]
 rw [Nat.add_mul_div_left _ _ (BBp i)];omega
theorem ZW (a b i:Nat):(dgt a i+dgt b i+Ce a b i)%BB=dgt (a+b) i/\(dgt a i+dgt b i+Ce a b i)/BB=Ce a b (i+1):=by
 constructor
 ·unfold dgt
  rw [UI]
  simp [Nat.add_mod,Nat.mod_mod]
 ·unfold Ce
  rw [Gp,Gp]
  have e:a%BB^i+BB^i*dgt a i+(b%BB^i+BB^i*dgt b i)=a%BB^i+b%BB^i+BB^i*(dgt a i+dgt b i):=by rw [Nat.mul_add];omega
  rw [e,Nat.pow_succ,← Nat.div_div_eq_div_mul,Nat.add_mul_div_left _ _ (BBp i)]
  congr 1;omega
theorem LO (a b i:Nat):Ce a b i<=1:=by
 unfold Ce
 have h1:=Nat.mod_lt a (BBp i)
 have h2:=Nat.mod_lt b (BBp i)
 have:(a%BB^i+b%BB^i)/BB^i<2:=by rw [Nat.div_lt_iff_lt_mul (BBp i)];omega
 omega
theorem Qo {a b i:Nat} (h:0<Ce a b i):BB^i<=a+b:=by
 unfold Ce at h
 have h1:=Nat.mod_le a (BB^i)
 have h2:=Nat.mod_le b (BB^i)
 apply Nat.le_of_not_lt
 intro hlt
 rw [Nat.div_eq_of_lt (by omega)] at h;omega
theorem Xa {a b i:Nat} (ha:a<BB^i) (hb:b<BB^i) (h:Ce a b i=0):a+b<BB^i:=by
 unfold Ce at h
 rw [Nat.mod_eq_of_lt ha,Nat.mod_eq_of_lt hb] at h
 rcases (Nat.div_eq_zero_iff).1 h with h|h
 ·have:=BBp i;omega
 ·exact h
def brw (a b i:Nat):Nat:=if a%BB^i<b%BB^i then 1 else 0
theorem Xb (a b:Nat):brw a b 0=0:=by simp [brw,Nat.mod_one]
theorem Sk (a b i:Nat):brw a b i<=1:=by unfold brw;split <;> omega
theorem UJ {a b:Nat} (h:b<=a) (i:Nat):a/BB^i=b/BB^i+brw a b i+(a-b)/BB^i:=by
 obtain ⟨c,rfl⟩:∃ c,a=b+c:=⟨a-b,by omega⟩
 rw [Nat.add_sub_cancel_left,UI]
 have:Ce b c i=brw (b+c) b i:=by
  unfold Ce brw
  have h1:=Nat.mod_lt b (BBp i)
  have h2:=Nat.mod_lt c (BBp i)
  have e:=Nat.add_mod b c (BB^i)
  rw [e]
  generalize b%BB^i=B' at *
  generalize c%BB^i=C' at *
  generalize BB^i=P at *
  by_cases hlt:B' + C' < P
  ·rw [Nat.div_eq_of_lt hlt,Nat.mod_eq_of_lt hlt,if_neg (by omega)]
  ·have e2:(B' + C')%P=B' + C' - P:=by
    rw [Nat.mod_eq_sub_mod (by omega),Nat.mod_eq_of_lt (by omega)]
   rw [e2,if_pos (show B' + C' - P<B' by omega)]
   apply Nat.le_antisymm
   ·have:(B' + C')/P<2:=by rw [Nat.div_lt_iff_lt_mul (by omega)];omega
    omega
   ·rw [Nat.le_div_iff_mul_le (by omega)];omega
 omega
theorem ZX {a b:Nat} (h:b<=a) (i:Nat) :
  (((dgt a i:Int)-dgt b i-brw a b i<0->(dgt a i:Int)-dgt b i-brw a b i+1000000000=dgt (a-b) i/\brw a b (i+1)=1)) /\
  (((0:Int)<=dgt a i-dgt b i-brw a b i->(dgt a i:Int)-dgt b i-brw a b i=dgt (a-b) i/\brw a b (i+1)=0)):=by
 have e:=UJ h i
 have e1:=Bc a i
 have e2:=Bc b i
 have e3:=Bc (a-b) i
 have e4:=UJ h (i+1)
 have d1:=CH a i
 have d2:=CH b i
 have d3:=CH (a-b) i
 have hb:=Sk a b i
 have hb':=Sk a b (i+1)
 rw [e1,e2,e3] at e
 rw [e4] at e
 rw [Nat.add_mul,Nat.add_mul] at e
 unfold BB at *
 constructor <;> intro hn <;> constructor <;> omega
theorem UK {A x b V c i k:Nat} (h:V+c*BB^(i+k)=A*b+x*BB^i*(b%BB^k)) :
  V-dgt V (i+k)*BB^(i+k)+(dgt V (i+k)+x*dgt b k+c)%BB*BB^(i+k)+(dgt V (i+k)+x*dgt b k+c)/BB*BB^(i+(k+1))=A*b+x*BB^i*(b%BB^(k+1)):=by
 have hle:dgt V (i+k)*BB^(i+k)<=V:=by
  unfold dgt
  have h1:=Nat.mod_le (V/BB^(i+k)) BB
  have h2:=Nat.mul_le_mul_right (BB^(i+k)) h1
  have h3:=Nat.div_mul_le_self V (BB^(i+k))
  omega
 have e1:=Nat.div_add_mod (dgt V (i+k)+x*dgt b k+c) BB
 have e2:(dgt V (i+k)+x*dgt b k+c)%BB*BB^(i+k)+(dgt V (i+k)+x*dgt b k+c)/BB*BB^(i+(k+1))=(dgt V (i+k)+x*dgt b k+c)*BB^(i+k):=by
  conv=>rhs;rw [← e1]
  rw [show i+(k+1)=(i+k)+1 from rfl,Nat.pow_succ,Nat.add_mul]
  rw [Nat.mul_comm (BB^(i+k)) BB,← Nat.mul_assoc,Nat.mul_comm BB,Nat.add_comm]
 rw [Nat.add_assoc,e2,Gp,Nat.mul_add,← Nat.add_assoc,← h,Nat.add_mul,Nat.add_mul]
 have e3:x*BB^i*(BB^k*dgt b k)=x*dgt b k*BB^(i+k):=by
  rw [Nat.pow_add]
  simp only [Nat.mul_assoc,Nat.mul_comm,Nat.mul_left_comm]
 rw [e3];omega
theorem Xc {a b i:Nat} : a%BB^i*b+dgt a i*BB^i*b=a%BB^(i+1)*b:=by
 rw [Gp,Nat.add_mul,Nat.mul_comm (dgt a i)]
theorem UL (a n i:Nat) (hn:0<n):((a/BB^(i+1))%n*BB+dgt a i)/n=dgt (a/n) i/\((a/BB^(i+1))%n*BB+dgt a i)%n=(a/BB^i)%n:=by
 have e:=Bc a i
 have e1:=Nat.div_add_mod (a/BB^(i+1)) n
 have hr:=Nat.mod_lt (a/BB^(i+1)) hn
 have hd:=CH a i
 have key:a/BB^i=((a/BB^(i+1))%n*BB+dgt a i)+n*(a/BB^(i+1)/n*BB):=by
  conv=>lhs;rw [e,← e1]
  rw [Nat.add_mul,Nat.mul_assoc];omega
 constructor
 ·have hq:((a/BB^(i+1))%n*BB+dgt a i)/n<BB:=by
   rw [Nat.div_lt_iff_lt_mul hn]
   have:=Nat.mul_le_mul_right BB (show (a/BB^(i+1))%n+1<=n by omega)
   rw [Nat.add_mul] at this
   rw [Nat.mul_comm BB n];omega
  unfold dgt
  have e5:a/n/BB^i=a/BB^i/n:=by rw [Nat.div_div_eq_div_mul,Nat.mul_comm n,← Nat.div_div_eq_div_mul]
  have e6:∀ X Y:Nat,X<BB->X=(X+Y*BB)%BB:=λ X Y h=>by rw [Nat.add_mul_mod_self_right,Nat.mod_eq_of_lt h]
  rw [e5]
  conv=>rhs;rw [key]
  rw [Nat.add_mul_div_left _ _ hn]
  exact e6 _ _ hq
 ·rw [key,Nat.add_mul_mod_self_left]
theorem Xd {a k:Nat} (n:Nat) (h:a<BB^k):a/BB^k%n=0:=by rw [Nat.div_eq_of_lt h];exact Nat.zero_mod n
def hi (q i:Nat):Nat:=q/BB^i*BB^i
theorem ABH {q k:Nat} (h:q<BB^k):hi q k=0:=by unfold hi;rw [Nat.div_eq_of_lt h];simp
theorem ZY (q:Nat):hi q 0=q:=by simp [hi]
theorem ABI (q i:Nat):dgt (hi q (i+1)) i=0:=by
 unfold dgt hi
 rw [Nat.pow_succ,Nat.mul_comm (BB^i) BB,← Nat.mul_assoc,Nat.mul_div_cancel _ (BBp i),Nat.mul_mod_left]
theorem UM (q i:Nat):hi q i=hi q (i+1)+dgt q i*BB^i:=by
 unfold hi
 conv=>lhs;rw [Bc q i]
 rw [Nat.add_mul,Nat.pow_succ,Nat.mul_comm (BB^i) BB,Nat.mul_assoc]
theorem ZZ {N q i d:Nat} (hi' : i<N) (hd:d=dgt q i):(AX N (hi q (i+1))).set i d=AX N (hi q i):=by
 subst hd
 rw [Qn hi' (CH q i),ABI,Nat.zero_mul,Nat.sub_zero,← UM]
theorem Fq (d n:Nat):Ap (d::dig n)=d+BB*n:=by rw [Ap,N9]
theorem O9 (k:Nat):List.replicate k 0=AX k 0:=(OA k).symm
def rn (r:List Dat):Int:=(r.getD 0 (.int 0)).n
def AN (l:List Nat):List (List Dat):=l.map λ (d:Nat)=>[Dat.int (d:Int)]
def L (n:Nat):List (List Dat):=AN (dig n)
def nl (n:Nat):Nat:=(dig n).length
theorem CE (l:List Nat):(AN l).length=l.length:=by simp [AN]
theorem Aq (n:Nat):(L n).length=nl n:=CE _
theorem Gq:L 0=[]:=by unfold L;rw [CP];rfl
theorem Cn:nl 0=0:=by unfold nl;rw [CP];rfl
theorem IP {n:Nat} (h:n≠0):0<nl n:=by unfold nl;rw [Ew h];simp
theorem DS {n:Nat} : nl n=0↔n=0:=⟨λ h=>by rcases Nat.eq_zero_or_pos n with h' | h';exact h';have:=IP (n:=n) (by omega);omega,λ h=>by subst h;exact Cn⟩
theorem Ea (k n:Nat):nl n<=k↔n<BB^k:=Kl k n
theorem Xe (i n:Nat):i<nl n↔BB^i<=n:=UG i n
theorem D5 (n:Nat):n<BB^nl n:=(Kl _ _).1 (Nat.le_refl _)
theorem Ex {a b:Nat} (h:a<=b):nl a<=nl b:=(Kl _ _).2 (Nat.lt_of_le_of_lt h (D5 b))
theorem DT (a b:Nat):nl (a*b)<=nl a+nl b:=by
 refine (Kl _ _).2 ?_
 rw [Nat.pow_add]
 have h1:=D5 a
 have h2:=D5 b
 exact Nat.mul_lt_mul'' h1 h2
theorem OC (a b:Nat):nl (a+b)<=max (nl a) (nl b)+1:=by
 refine (Kl _ _).2 ?_
 have h1:=D5 a
 have h2:=D5 b
 have m1:BB^nl a<=BB^max (nl a) (nl b):=Nat.pow_le_pow_right EZ (by omega)
 have m2:BB^nl b<=BB^max (nl a) (nl b):=Nat.pow_le_pow_right EZ (by omega)
 rw [Nat.pow_succ]
 have:BB^max (nl a) (nl b)*2<=BB^max (nl a) (nl b)*BB:=Nat.mul_le_mul_left _ (by decide)
 omega
theorem Xf {n:Nat} (h:n≠0) (h2:n<BB):nl n=1:=by
 have:=IP h
 have:=(Kl 1 n).2 (by simpa using h2)
 unfold nl at *;omega
theorem Sl (x:Int):rn [Dat.int x]=x:=rfl
theorem J1 (l:List Nat) (i:Nat):(((AN l).getD i []).getD 0 (.int 0))=.int ((l.getD i 0:Nat):Int):=by
 unfold AN
 simp only [List.getD,List.getElem?_map]
 cases l[i]? <;> rfl
theorem AAr (n i:Nat):(((L n).getD i []).getD 0 (.int 0))=.int ((dgt n i:Nat):Int):=by
 unfold L;rw [J1,XY]
theorem Xg (l:List Nat) (i:Nat):rn ((AN l).getD i [])=((l.getD i 0:Nat):Int):=by
 unfold rn;rw [J1];rfl
theorem ML {l:List Nat} {i:Nat} (h:i<l.length):(AN l).getD i []=[Dat.int ((l.getD i 0:Nat):Int)]:=by
 unfold AN;simp [List.getD,h]
theorem OD {l:List Nat} {i:Nat} (h:i<l.length) (x:Nat):(AN l).set i (((AN l).getD i []).set 0 (Dat.int (x:Int)))=AN (l.set i x):=by
 rw [ML h]
 unfold AN
 rw [List.map_set];rfl
theorem DU (l:List Nat) (x:Nat):AN l++[[Dat.int (x:Int)]]=AN (l++[x]):=by simp [AN]
theorem Sm (l:List Nat) (k:Nat):(AN l).take k=AN (l.take k):=by simp [AN,List.map_take]
theorem GT (k:Nat):List.replicate k [Dat.int 0]=AN (List.replicate k 0):=by simp [AN,List.map_replicate]
theorem LP (k n:Nat):∀ d ∈ AX k n,d<BB:=by
 intro d hd
 obtain ⟨i,hi,rfl⟩:=List.getElem_of_mem hd
 have:=DE k n i (by rw [A0] at hi;exact hi)
 rw [List.getElem?_eq_getElem hi] at this
 rw [Option.some.inj this];exact CH n i
theorem VT {k n i:Nat} (h:i<k):(AX k n).getD i 0=dgt n i:=by simp [List.getD,DE k n i h]
def inB (n:Int):Bool:=decide (0<=n) && decide (n<=999999999)
def Bd (l:List (List Dat)):Bool:=decide (l.length<=60) && l.all (λ r=>inB (rn r)) && (decide (l.length=0) || !decide (rn (l.getD (l.length-1) [])=0))
theorem Km {n:Nat} (h:n≠0):dgt n (nl n-1)≠0:=by
 intro h0
 have hp:=IP h
 have h1:=D5 n
 have:nl n=nl n-1+1:=by omega
 rw [this] at h1
 have:=MK h1 h0
 have:=(Ea _ _).2 this
 omega
theorem Qp (n:Nat):Bd (L n)=decide (nl n<=60):=by
 have h1:(L n).all (λ r=>inB (rn r))=true:=by
  refine List.all_eq_true.2 λ r hr=>?_
  obtain ⟨d,hd,rfl⟩:=List.mem_map.1 hr
  have:=XX n d hd
  unfold BB at this
  simp only [Sl,inB,Bool.and_eq_true];exact ⟨decide_eq_true (by omega),decide_eq_true (by omega)⟩
 have h2:(decide ((L n).length=0) || !decide (rn ((L n).getD ((L n).length-1) [])=0))=true:=by
  rw [Aq]
  by_cases h:n=0
  ·subst h;simp [Cn]
  ·have e:rn ((L n).getD (nl n-1) [])=(dgt n (nl n-1):Int):=by unfold rn;rw [AAr];rfl
   rw [e]
   have:=Km h
   simp;right;omega
 unfold Bd
 rw [h1,h2,Aq];simp
theorem MM {e:Nat} {l:List (List Dat)} (hs:Dat.has (.sl e [.int]) (.sl l)) (h:Bd l=true):∃ n,l=L n/\nl n<=60:=by
 simp only [Bd,Bool.and_eq_true,decide_eq_true_eq] at h
 obtain ⟨⟨h1,h2⟩,h3⟩:=h
 have hrow:∀ r ∈ l,∃ d:Nat,r=[Dat.int (d:Int)]/\d<BB:=by
  intro r hr
  obtain ⟨i,hi,rfl⟩:=List.getElem_of_mem hr
  simp only [Dat.has] at hs
  have hh:=hs.2 i hi
  have eg:l.getD i []=l[i]:=by simp [List.getD,hi]
  rw [eg] at hh
  match hq:l[i],hh with
  | [.int n],_=>
   have hb:=List.all_eq_true.1 h2 _ hr
   rw [hq] at hb
   simp only [Sl,inB,Bool.and_eq_true] at hb
   have hb:0<=n/\n<=999999999:=⟨of_decide_eq_true hb.1,of_decide_eq_true hb.2⟩
   exact ⟨n.toNat,by rw [Int.toNat_of_nonneg hb.1],by unfold BB;omega⟩
 obtain ⟨ds,rfl,hds⟩:∃ ds:List Nat,l=AN ds/\∀ d ∈ ds,d<BB:=by
  clear hs h1 h2 h3
  induction l with
  | nil=>exact ⟨[],rfl,by simp⟩
  | cons r l ih=>
   obtain ⟨ds,rfl,hd⟩:=ih λ x hx=>hrow x (by simp [hx])
   obtain ⟨d,rfl,hd1⟩:=hrow r (by simp)
   exact ⟨d::ds,rfl,λ x hx=>by rcases List.mem_cons.1 hx with rfl|hx;exact hd1;exact hd x hx⟩
 refine ⟨Ap ds,?_,?_⟩
 ·unfold L
  rw [J0 ds hds]
  intro hne h0
  rw [CE,Xg] at h3
  have hlen:0<ds.length:=List.length_pos_iff.2 hne
  rw [List.getLast_eq_getElem] at h0
  simp [List.getD,show ds.length-1<ds.length by omega,h0] at h3
  exact hne h3
 ·rw [CE] at h1
  refine (Ea _ _).2 (Nat.lt_of_lt_of_le (Qm ds hds) (Nat.pow_le_pow_right EZ h1))
def C6 (a b:Nat):Int:=if a<b then -1 else if a=b then 0 else 1
def DN (a b:Int):Int:=if a<b then -1 else if a=b then 0 else 1
theorem UN {a b:Nat} (h:a<b):C6 a b=-1:=by unfold C6;rw [if_pos h]
theorem UO {a b:Nat} (h:b<a):C6 a b=1:=by unfold C6;rw [if_neg (by omega),if_neg (by omega)]
theorem Za (a:Nat):C6 a a=0:=by unfold C6;simp
theorem Qq {a b:Nat} (h:nl a<nl b):a<b:=by
 apply Nat.lt_of_not_le
 intro hle;have:=Ex hle;omega
theorem PA (l:List Nat) (i:Nat):(((AN l).getD i []).getD 0 (.int 0)).n=((l.getD i 0:Nat):Int):=by rw [J1];rfl
theorem L_n (n i:Nat):(((L n).getD i []).getD 0 (.int 0)).n=(dgt n i:Int):=by rw [AAr];rfl
theorem Sn {k n i:Nat} (h:i<k):(((AN (AX k n)).getD i []).getD 0 (.int 0)).n=(dgt n i:Int):=by rw [PA,VT h]
theorem AAs (a b:Nat):Int.tdiv (a:Int) (b:Int)=((a/b:Nat):Int):=rfl
theorem AAt (a b:Nat):Int.tmod (a:Int) (b:Int)=((a%b:Nat):Int):=rfl
theorem OE (a:Nat):Int.tdiv (a:Int) (1000000000:Int)=((a/BB:Nat):Int):=rfl
theorem Qr (a:Nat):Int.tmod (a:Int) (1000000000:Int)=((a%BB:Nat):Int):=rfl
theorem Ey {a:Nat} (h:a<=9223372036854775807):IntKind.i64.wrap (a:Int)=(a:Int):=AC (by omega) (by omega)
theorem UP (n i:Nat):(0:Int)<=(dgt n i:Int)/\(dgt n i:Int)<1000000000:=by
 have:=CH n i
 unfold BB at this;omega
def PB (p:List Dat->Bool) (l:List (List Dat)):Int:=match l.findIdx? p with|some k=>(k:Int)|none=>-1
theorem Zb {p:List Dat->Bool} {l:List (List Dat)} {k:Nat} (hk:k<l.length) (h:∀ j,j<k->p (l.getD j [])=false) (hp:p (l.getD k [])=true):PB p l=(k:Int):=by
 have:l.findIdx? p=some k:=by
  rw [List.findIdx?_eq_some_iff_getElem]
  refine ⟨hk,?_,λ j hj=>?_⟩
  ·simpa [List.getD,hk] using hp
  ·have:=h j hj
   simpa [List.getD,show j<l.length by omega] using this
 unfold PB;rw [this]
theorem VU {p:List Dat->Bool} {l:List (List Dat)} (h:∀ j,j<l.length->p (l.getD j [])=false):PB p l=-1:=by
 have:l.findIdx? p=none:=by
  rw [List.findIdx?_eq_none_iff]
  intro x hx
  obtain ⟨j,hj,rfl⟩:=List.getElem_of_mem hx
  have:=h j hj
  simpa [List.getD,hj] using this
 unfold PB;rw [this]
theorem Xh (p:List Dat->Bool) (l:List (List Dat)):decide (PB p l≥0)=l.any p:=by
 unfold PB
 cases h:l.findIdx? p with
 | none=>
  rw [List.findIdx?_eq_none_iff] at h
  have:l.any p=false:=by
   rw [List.any_eq_false];intro x hx;rw [h x hx];simp
  rw [this];rfl
 | some k=>
  rw [List.findIdx?_eq_some_iff_getElem] at h
  obtain ⟨hk,hp,_⟩:=h
  have:l.any p=true:=List.any_eq_true.2 ⟨_,List.getElem_mem hk,hp⟩
  rw [this]
  exact decide_eq_true (show (0:Int)<=(k:Int) by omega)
theorem UQ {P:Nat->Prop} {k:Nat} (h:∀ j,j<k->P j) (hk:P k):∀ j,j<k+1->P j:=λ j hj=>by
 rcases Nat.lt_succ_iff_lt_or_eq.1 hj with hj|rfl
 ·exact h j hj
 ·exact hk
theorem OF {l:List Nat} {k:Nat} (hk:k≠0) (hl:k<=l.length):l.take k=l.take (k-1)++[l.getD (k-1) 0]:=by
 have:k=(k-1)+1:=by omega
 conv=>lhs;rw [this]
 rw [List.take_add_one]
 simp [List.getD,show k-1<l.length by omega]
theorem VW {l:List Nat} {k:Nat} (hk:k≠0) (hl:k<=l.length) (h0:l.getD (k-1) 0=0):Ap (l.take (k-1))=Ap (l.take k):=by
 rw [OF hk hl,h0,MJ];simp
theorem Qs {l:List Nat} {k:Nat} (hd:∀ d ∈ l,d<BB) (hl:k<=l.length) (h:Ap (l.take k)=Ap l) (h0:k=0∨l.getD (k-1) 0≠0):(AN l).take k=L (Ap l):=by
 rw [Sm,← h]
 unfold L
 rw [J0 _ (λ d hd'=>hd d (List.mem_of_mem_take hd'))]
 intro hne
 have hk:k≠0:=by rintro rfl;simp at hne
 have h1:=h0.resolve_left hk
 have e:l.take k=l.take (k-1)++[l.getD (k-1) 0]:=OF hk hl
 have e2:∀ (m:List Nat) (x:Nat) (h:m++[x]≠[]),(m++[x]).getLast h=x:=λ m x h=>by simp
 have e3:∀ (m:List Nat) (hm:m≠[]),m=l.take (k-1)++[l.getD (k-1) 0]->m.getLast hm≠0:=λ m hm he=>by subst he;rw [e2];exact h1
 exact e3 _ hne e
theorem Xi {o:List Nat} {n:Nat} (h:o=dig n):AN o=L n:=by subst h;rfl
end Go.Proofs.YtkffpiaagjcmpaaGreat
namespace Go.Proofs.YtkffpiaagjcmpaaGreat
set_option linter.unusedVariables false
set_option linter.unusedSimpArgs false
def PD (q:Rat):Bool:=decide (nl q.num.natAbs<=24) && decide (nl q.den<=24)
structure Fr where
 v:Option Rat
 ok:∀ q,v=some q->PD q=true
theorem Fr.ext {r s:Fr} (h:r.v=s.v):r=s:=by cases r;cases s;simp only at h;subst h;rfl
def Fr.neg (r:Fr):Bool:=match r.v with|none=>false|some q=>decide (q.num<0)
def Fr.num (r:Fr):List (List Dat):=match r.v with|none=>[]|some q=>L q.num.natAbs
def Fr.den (r:Fr):List (List Dat):=match r.v with|none=>[]|some q=>L q.den
def Fr.good (r:Fr):Bool:=r.v.isSome
def Fr.none:Fr:=⟨.none,by simp⟩
def clamp (q:Rat):Fr:=if h:PD q=true then ⟨some q,λ _ e=>by rw [← Option.some.inj e];exact h⟩ else Fr.none
def Fr.bin (f:Rat->Rat->Fr) (r s:Fr):Fr:=match r.v,s.v with|some a,some b=>f a b|_,_=>Fr.none
def Fr.add (r s:Fr):Fr:=Fr.bin (λ a b=>clamp (a+b)) r s
def Fr.sub (r s:Fr):Fr:=Fr.bin (λ a b=>clamp (a-b)) r s
def Fr.mul (r s:Fr):Fr:=Fr.bin (λ a b=>clamp (a*b)) r s
def Fr.div (r s:Fr):Fr:=Fr.bin (λ a b=>if b=0 then Fr.none else clamp (a/b)) r s
def Fr.opp (r:Fr):Fr:=match r.v with|some a=>clamp (-a)|_=>Fr.none
def NS (a b:Rat):Int:=if a<b then -1 else if a=b then 0 else 1
def Fr.cmp (r s:Fr):Int:=match r.v,s.v with|some a,some b=>NS a b|_,_=>0
def Fr.min (r s:Fr):Fr:=Fr.bin (λ a b=>if a<=b then r else s) r s
def Fr.max (r s:Fr):Fr:=Fr.bin (λ a b=>if b<=a then r else s) r s
def Fr.ofInt (n:Int):Fr:=clamp (n:Rat)
theorem Dw {q:Rat} : PD q=true↔nl q.num.natAbs<=24/\nl q.den<=24:=by simp [PD]
theorem Zc (q:Rat):(clamp q).v=if PD q=true then some q else .none:=by unfold clamp;split <;> rfl
theorem FU {q:Rat} (h:PD q=true):(clamp q).v=some q:=by rw [Zc,if_pos h]
theorem Xj {q:Rat} (h:¬ PD q=true):clamp q=Fr.none:=by unfold clamp;rw [dif_neg h]
theorem Fr.none_v:Fr.none.v=.none:=rfl
theorem Fr.of_none {r:Fr} (h:r.v=.none):r=Fr.none:=Fr.ext h
theorem Fr.num_some {r:Fr} {q:Rat} (h:r.v=some q):r.num=L q.num.natAbs:=by unfold Fr.num;rw [h]
theorem Fr.den_some {r:Fr} {q:Rat} (h:r.v=some q):r.den=L q.den:=by unfold Fr.den;rw [h]
theorem Fr.neg_some {r:Fr} {q:Rat} (h:r.v=some q):r.neg=decide (q.num<0):=by unfold Fr.neg;rw [h]
theorem Fr.good_some {r:Fr} {q:Rat} (h:r.v=some q):r.good=true:=by unfold Fr.good;rw [h];rfl
theorem Fr.good_inv {r:Fr} (h:r.good=true):∃ q,r.v=some q/\nl q.num.natAbs<=24/\nl q.den<=24:=by
 unfold Fr.good at h
 obtain ⟨q,hq⟩:=Option.isSome_iff_exists.1 h
 exact ⟨q,hq,Dw.1 (r.ok q hq)⟩
theorem Fr.bad_inv {r:Fr} (h:r.good=false):r=Fr.none:=by
 apply Fr.of_none
 unfold Fr.good at h
 cases hv:r.v with
 | none=>rfl
 | some q=>rw [hv] at h;cases h
theorem Fr.cases (r:Fr):r=Fr.none∨∃ q,r.v=some q/\nl q.num.natAbs<=24/\nl q.den<=24:=by
 cases h:r.good with
 | false=>exact .inl (Fr.bad_inv h)
 | true=>exact .inr (Fr.good_inv h)
def Fr.mk' (z:Int) (d:Nat):Fr:=clamp (mkRat z d)
theorem DV {z:Int} {d:Nat} (hd:d≠0):(mkRat z d).num=z/((z.natAbs.gcd d:Nat):Int)/\(mkRat z d).den=d/z.natAbs.gcd d:=by
 have e:mkRat z d=Rat.normalize z d hd:=by unfold mkRat;simp [hd]
 rw [e,Rat.normalize_eq hd]
 exact ⟨rfl,rfl⟩
theorem DF {z:Int} {d:Nat} (hd:d≠0):(mkRat z d).num.natAbs=z.natAbs/z.natAbs.gcd d:=by
 rw [(DV hd).1]
 have hg:((z.natAbs.gcd d:Nat):Int) ∣ z:=by
  exact Int.ofNat_dvd_left.2 (Nat.gcd_dvd_left _ _)
 obtain ⟨c,hc⟩:=hg
 have hg0:z.natAbs.gcd d≠0:=λ e=>hd (Nat.eq_zero_of_gcd_eq_zero_right e)
 generalize z.natAbs.gcd d=g at *
 subst hc
 rw [Int.mul_ediv_cancel_left _ (by omega),Int.natAbs_mul,Int.natAbs_natCast,Nat.mul_div_cancel_left _ (by omega)]
theorem VX {z:Int} {d:Nat} (hd:d≠0):decide ((mkRat z d).num<0)=decide (z<0):=by
 rw [(DV hd).1]
 have hg:((z.natAbs.gcd d:Nat):Int) ∣ z:=by
  exact Int.ofNat_dvd_left.2 (Nat.gcd_dvd_left _ _)
 obtain ⟨c,hc⟩:=hg
 have hg0:z.natAbs.gcd d≠0:=λ e=>hd (Nat.eq_zero_of_gcd_eq_zero_right e)
 generalize z.natAbs.gcd d=g at *
 subst hc
 rw [Int.mul_ediv_cancel_left _ (by omega)]
 have hgp:(0:Int)<(g:Int):=by omega
 congr 1
 apply propext
 constructor
 ·intro h;exact Int.mul_neg_of_pos_of_neg hgp h
 ·intro h
  apply Int.lt_of_not_ge
  intro h2
  have:=Int.mul_nonneg (Int.le_of_lt hgp) h2
  omega
theorem Xk (a b:Rat):NS a b=DN (a.num*b.den) (b.num*a.den):=by
 unfold NS DN
 simp only [Rat.lt_iff]
 have:a=b↔a.num*b.den=b.num*a.den:=by
  constructor
  ·intro h;subst h;rfl
  ·intro h
   have h1:¬ a<b:=by rw [Rat.lt_iff];omega
   have h2:¬ b<a:=by rw [Rat.lt_iff];omega
   grind
 simp only [this]
theorem ABJ {b:Rat} (hb:b≠0):b⁻¹=mkRat (if b.num<0 then -(b.den:Int) else b.den) b.num.natAbs:=by
 rw [Rat.inv_def]
 have h0:b.num≠0:=λ h=>hb (Rat.num_eq_zero.1 h)
 generalize b.num=n at *
 generalize b.den=d
 cases n with
 | ofNat k=>
  rw [if_neg (by simp)]
  exact Rat.divInt_ofNat _ _
 | negSucc k=>
  rw [if_pos (Int.negSucc_lt_zero k)]
  show Rat.normalize (-(d:Int)) (k+1) (Nat.succ_ne_zero k)=_
  rw [Rat.normalize_eq_mkRat]
  rfl
theorem div_mk {a b:Rat} (hb:b≠0):a/b=mkRat (if b.num<0 then -(a.num*b.den) else a.num*b.den) (a.den*b.num.natAbs):=by
 rw [Rat.div_def,ABJ hb]
 conv=>lhs;rw [← Rat.mkRat_self a]
 rw [Rat.mkRat_mul_mkRat]
 congr 1
 by_cases h:b.num<0
 ·rw [if_pos h,if_pos h,Int.mul_neg]
 ·rw [if_neg h,if_neg h]
theorem Fr.add_mk {r s:Fr} {a b:Rat} (hr:r.v=some a) (hs:s.v=some b):Fr.add r s=Fr.mk' (a.num*b.den+b.num*a.den) (a.den*b.den):=by
 unfold Fr.add Fr.bin Fr.mk';rw [hr,hs];simp only;rw [Rat.add_def']
theorem Fr.mul_mk {r s:Fr} {a b:Rat} (hr:r.v=some a) (hs:s.v=some b):Fr.mul r s=Fr.mk' (a.num*b.num) (a.den*b.den):=by
 unfold Fr.mul Fr.bin Fr.mk';rw [hr,hs];simp only;rw [Rat.mul_def']
theorem Fr.div_mk {r s:Fr} {a b:Rat} (hr:r.v=some a) (hs:s.v=some b) (hb:b≠0):Fr.div r s=Fr.mk' (if b.num<0 then -(a.num*b.den) else a.num*b.den) (a.den*b.num.natAbs):=by
 unfold Fr.div Fr.bin Fr.mk';rw [hr,hs];simp only;rw [if_neg hb,_root_.Go.Proofs.YtkffpiaagjcmpaaGreat.div_mk hb]
theorem Fr.div_zero {r s:Fr} {b:Rat} (hs:s.v=some b) (hb:b=0):Fr.div r s=Fr.none:=by
 unfold Fr.div Fr.bin;rw [hs];cases r.v <;> simp [hb]
theorem Fr.bin_none2 (f:Rat->Rat->Fr) (r:Fr):Fr.bin f r Fr.none=Fr.none:=by
 unfold Fr.bin;rw [Fr.none_v];cases r.v <;> rfl
theorem Fr.cmp_mk {r s:Fr} {a b:Rat} (hr:r.v=some a) (hs:s.v=some b):Fr.cmp r s=DN (a.num*b.den) (b.num*a.den):=by
 unfold Fr.cmp;rw [hr,hs];exact Xk a b
theorem Fr.cmp_none2 (r:Fr):Fr.cmp r Fr.none=0:=by unfold Fr.cmp;rw [Fr.none_v];cases r.v <;> rfl
theorem Fr.opp_v {r:Fr} {a:Rat} (hr:r.v=some a):r.opp.v=some (-a):=by
 unfold Fr.opp;rw [hr]
 refine FU ?_
 have:=Dw.1 (r.ok a hr)
 refine Dw.2 ?_
 rw [Rat.neg_num,Rat.neg_den,Int.natAbs_neg];exact this
theorem Fr.sub_opp (r s:Fr):Fr.add r s.opp=Fr.sub r s:=by
 rcases Fr.cases s with rfl|⟨b,hb,_⟩
 ·have:Fr.none.opp=Fr.none:=rfl
  rw [this];unfold Fr.add Fr.sub;rw [Fr.bin_none2,Fr.bin_none2]
 ·rcases Fr.cases r with rfl|⟨a,ha,_⟩
  ·rfl
  ·unfold Fr.add Fr.sub Fr.bin
   rw [ha,hb,Fr.opp_v hb]
   simp only
   congr 1
   grind
structure Pq where
 x:Fr
 y:Fr
def Pq.good (p:Pq):Bool:=p.x.good && p.y.good
def Pq.none:Pq:=⟨Fr.none,Fr.none⟩
theorem LQ {n:Int} (h:nl n.natAbs<=24):(Fr.ofInt n).v=some (n:Rat):=by
 unfold Fr.ofInt
 refine FU (Dw.2 ⟨by rw [Rat.num_intCast];exact h,?_⟩)
 rw [Rat.den_intCast,Xf (by decide) (by decide)];decide
end Go.Proofs.YtkffpiaagjcmpaaGreat
namespace Go.Proofs.YtkffpiaagjcmpaaGreat
set_option linter.unusedVariables false
set_option linter.unusedSimpArgs false
open Go.RowKit Go.Deep Go.ChangeShapes Go.WideShapes
mutual
def Dat.fit:Dat->Prop
 | .int n=>-9223372036854775808<=n/\n<=9223372036854775807
 | .sl ls=>UR ls
 | _=>True
def fitRow:List Dat->Prop
 | []=>True
 | d::ds=>d.fit/\fitRow ds
def UR:List (List Dat)->Prop
 | []=>True
 | r::rs=>fitRow r/\UR rs
end
theorem fitRow.app:∀ {a b:List Dat},fitRow a->fitRow b->fitRow (a++b)
 | [],_,_,h=>h
 | _::_,_,h,h2=>by simp only [List.cons_append,fitRow] at h ⊢;exact ⟨h.1,fitRow.app h.2 h2⟩
section
variable {P : Program} {tt : TT} {H : Type} {enc : TypeId × Value → H} {w : World} {spare : Nat → Bool} {held : Bool}
theorem TIok.cellsOf {t:Nat} {i:TI} (h:TIok P t i):P.cellsOf t=i.size:=by
 obtain ⟨inf,h1,h2,_⟩:=h.info
 simp [Program.cellsOf,h1,h2]
theorem Qt {a:Addr} {v:Value} (h:w.cell? a=some v):∃ b off,a=⟨b,off,none⟩/\b<w.heap.size:=by
 obtain ⟨b,off,s⟩:=a
 have:=World.cell?_spot h
 simp at this
 subst this
 exact ⟨b,off,rfl,World.block_lt_of_cell? w ⟨b,off,none⟩ h⟩
theorem Zd {b off n:Nat} : (⟨b,off,none⟩:Addr).add n=⟨b,off+n,none⟩:=by
 unfold Addr.add
 split
 ·rename_i h;subst h;rfl
 ·rfl
end
end Go.Proofs.YtkffpiaagjcmpaaGreat
namespace Go.Proofs.YtkffpiaagjcmpaaGreat
set_option linter.unusedVariables false
set_option linter.unusedSimpArgs false
open Go.RowKit Go.Deep Go.ChangeShapes Go.WideShapes
section
variable {P : Program}
theorem VY {w:World} {r:Reach} {base:Nat} {t e:TypeId} {v:Value} (ht:P.underlying t=some (.slice e)) (h:Value.okWide P w r base t v):v.cells.toList=[v]:=by
 simp only [Value.okWide,ht,Cell.okWide] at h
 cases v <;> simp_all [Cell.ok,Value.cells]
theorem So {w:World} {d:DC} {u:Value} (h:Rd w d.ty d.dat u) (hok:d.ok=true):Cr (λ b=>b<w.heap.size) w d u:=by
 cases d with
 | sl e ts rows=>exact RdS.of_rd _ _ _ h
 | ro d=>cases hok
 | im v=>
  have h2:=Fp.rd _ _ _ _ (DC.im_ok hok w)
  simp only [Cr]
  unfold DC.ok at hok
  split at hok <;> first|cases hok|skip
  all_goals simp_all [DC.ty,DC.dat,Rd]
theorem Gr {w:World} : ∀ {dcs:List DC} {us:List Value},RdRow w (dcs.map DC.ty) (dcs.map DC.dat) us->dcs.all DC.ok=true->us.length=dcs.length/\∀ (p:Nat) (d:DC) (u:Value),dcs[p]?=some d->us[p]?=some u->Cr (λ b=>b<w.heap.size) w d u
 | [],us,h,_=>by obtain ⟨-,rfl⟩:=RdRow.nil_inv h;simp
 | d::ds,us,h,hok=>by
  simp only [List.all_cons,Bool.and_eq_true] at hok
  obtain ⟨u,us,rfl,h1,h2⟩:=RdRow.cons2 (by simpa using h)
  obtain ⟨i1,i2⟩:=Gr h2 hok.2
  refine ⟨by simp [i1],λ p d' u' hp hu=>?_⟩
  cases p with
  | zero=>simp only [List.getElem?_cons_zero,Option.some.injEq] at hp hu;subst hp;subst hu;exact So h1 hok.1
  | succ p=>exact i2 p d' u' (by simpa using hp) (by simpa using hu)
theorem MN {cs:List DC} {r:List DA} {l us:List Value} (h:l.length=cs.length):BA (.agg cs::r) (l++us)=.agg l.toArray::BA r us:=by
 simp only [BA]
 rw [List.take_left' h,List.drop_left' h]
end
end Go.Proofs.YtkffpiaagjcmpaaGreat
namespace Go.Proofs.YtkffpiaagjcmpaaGreat
set_option linter.unusedVariables false
set_option linter.unusedSimpArgs false
open Go.RowKit
section
variable {P : Program} {f : Nat}
theorem CY {c:Con} (hmu:c.mu=[]) (en:AB5 P f) (hs:∀ i,(c.res i).cells.length<=32) (hok:∀ i,((c.args i).flatMap DA.cells).all DC.ok=true) (out:c.ι->List DC) (hout:∀ i,(c.res i).cells=(out i).map DC.rc) (hoo:∀ i,(out i).all DC.ok=true)
  (hc:∀ i,c.pre i->∀ w us,RdRow w (((c.args i).flatMap DA.cells).map DC.ty) (((c.args i).flatMap DA.cells).map DC.dat) us->Calls P f (BA (c.args i) us).toArray w λ e w'=>∃ rs,e=.returned ((c.res i).val rs)/\Own w' w.heap.size w'.heap.size ((out i).map DC.ty) ((out i).map DC.dat) rs/\Below w.heap.size w w') (hqm:c.mono=false:=by rfl):c.Ok P f where
 enter:=en
 small:=hs
 calls:=by
  intro i hp F w us mb h
  rw [hmu] at h
  refine (hc i hp w us (XU h (hok i))).mono ?_
  rintro e w' ⟨rs,rfl,ho,hb⟩
  obtain ⟨bs,hpost⟩:=XV (c:=c) (i:=i) (F:=F) (us:=us) (mb:=mb) hmu (hout i) hb ho rfl (hoo i)
  exact ⟨rs,bs,rfl,hpost⟩
 quiet:=λ h=>by rw [hqm] at h;cases h
theorem Con.Ok.rd {c:Con} (hc:c.Ok P f) (hmu:c.mu=[]) (i:c.ι) (hp:c.pre i) {ts:List Ty} {ds:List Dat} {us:List Value} {w:World} (h:RdRow w ts ds us) (hst:Stood w)
  (hts:Ty.eras ts=Ty.eras (((c.args i).flatMap DA.cells).map DC.ty)) (hds:ds=((c.args i).flatMap DA.cells).map DC.dat) (hok:((c.args i).flatMap DA.cells).all DC.ok=true) {v:Value} (hres:c.res i=⟨false,[none],[.im v]⟩) :
  Calls P f (BA (c.args i) us).toArray w λ e w'=>e=.returned v/\Below w.heap.size w w':=by
 subst hds
 obtain ⟨h1,h2⟩:=Gr (h.cast hts) hok
 refine (hc.calls i hp (λ b=>b<w.heap.size) w us (λ _=>[]) ⟨h1,λ _ h=>h,λ p d u hd hu _=>h2 p d u hd hu,λ j p hj=>?_,λ a b x _ _ _ hx=>by simp at hx,λ j b _ hb=>by simp at hb,hst,λ j b _ hb=>by simp at hb⟩).mono ?_
 ·rw [hmu] at hj;simp at hj
 ·rintro e w' ⟨rs,bs,rfl,hpost⟩
  have hr:=hpost.res
  rw [hres] at hr
  refine ⟨?_,hpost.os,hpost.tape,hpost.output,hpost.size,λ b hb=>hpost.keep b hb (λ j hj=>by rw [hmu] at hj;simp at hj)⟩
  rw [hres]
  cases rs with
  | nil=>simp [BE] at hr
  | cons u us=>
   simp only [BE] at hr
   obtain ⟨rfl,hr⟩:=hr
   rfl
theorem Ix {w:World} {us:List Value} {t:List Ty} {x:Ty} {ds:List Dat} {dx:Dat} (h:RdRow w (t++[x]) (ds++[dx]) us) (hl:t.length=ds.length):∃ cs v,us=cs++[v]/\RdRow w t ds cs/\Rd w x dx v/\∀ (cells:List DC) (d:DC),cells.length=ds.length->BA [.agg cells,.one d] us=[.agg cs.toArray,v]:=by
 obtain ⟨h1,h2⟩:=RdRow.split hl h
 obtain ⟨v,vs,e,h3,h4⟩:=RdRow.cons2 h2
 obtain ⟨-,rfl⟩:=RdRow.nil_inv h4
 have hu:us=us.take ds.length++[v]:=by rw [← e,List.take_append_drop]
 refine ⟨us.take ds.length,v,hu,h1,h3,λ cells d hc=>?_⟩
 have hlen:=(RdRow.lens _ _ _ h1).2
 have hlen1:=(RdRow.lens _ _ _ h1).1
 conv=>lhs;rw [hu]
 rw [MN (by omega)]
 rfl
theorem Fs {cells:List DC} {us:List Value} (h:us.length=cells.length):BA [.agg cells] us=[.agg us.toArray]:=by
 simp only [BA]
 rw [List.take_of_length_le (by omega)]
end
end Go.Proofs.YtkffpiaagjcmpaaGreat
namespace Go.Proofs.YtkffpiaagjcmpaaGreat
set_option linter.unusedVariables false
set_option linter.unusedSimpArgs false
open Go.RowKit
theorem AS {a b:Int} {k:IntKind} (h:a=b):Value.int k a=Value.int k b:=by rw [h]
def Ty.num:Ty->Bool
 | .int=>true
 | .bool=>true
 | _=>false
theorem hasRow.cons {t:Ty} {ts:List Ty} {ds:List Dat} (h:hasRow (t::ts) ds):∃ d ds',ds=d::ds'/\Dat.has t d/\hasRow ts ds':=by
 cases ds with
 | nil=>simp [hasRow] at h
 | cons d ds=>exact ⟨d,ds,rfl,by simpa [hasRow] using h⟩
theorem hasRow.nil {ds:List Dat} (h:hasRow [] ds):ds=[]:=by cases ds <;> simp [hasRow] at h ⊢
end Go.Proofs.YtkffpiaagjcmpaaGreat
namespace Go.Proofs.YtkffpiaagjcmpaaGreat
set_option linter.unusedVariables false
set_option linter.unusedSimpArgs false
open Go.RowKit
mutual
def Ty.K:Ty->Nat
 | .sl _ ts=>NT ts
 | _=>1
def NT:List Ty->Nat
 | []=>0
 | t::ts=>t.K+NT ts
end
mutual
theorem ABK:∀ (t:Ty) (d:Dat),Dat.has t d->d.cnt<=t.K*(1+d.sz)
 | .int,d,h=>by cases d <;> simp [Dat.has,Dat.cnt,Ty.K] at h ⊢
 | .bool,d,h=>by cases d <;> simp [Dat.has,Dat.cnt,Ty.K] at h ⊢
 | .str,d,h=>by cases d <;> simp [Dat.has,Dat.cnt,Ty.K] at h ⊢
 | .sl e ts,d,h=>by
  cases d with
  | sl ls=>
   simp only [Dat.has] at h
   simp only [Dat.cnt,Ty.K,Dat.sz]
   have key:∀ k,k<=ls.length->CX (ls.take k)<=NT ts*(k+EP (ls.take k)):=by
    intro k
    induction k with
    | zero=>intro _;simp [CX]
    | succ k ih=>
     intro hk
     rw [Oq ls k (by omega),Py ls k (by omega)]
     have h1:=ih (by omega)
     have h2:=J2 ts _ (h.2 k (by omega))
     rw [Nat.mul_add] at h1 h2
     rw [Nat.mul_add,Nat.mul_add,Nat.mul_add]
     omega
   have:=key ls.length (Nat.le_refl _)
   rw [List.take_length] at this
   refine Nat.le_trans this ?_
   exact Nat.mul_le_mul_left _ (by omega)
  | _=>simp [Dat.has] at h
theorem J2:∀ (ts:List Ty) (ds:List Dat),hasRow ts ds->Fi ds<=NT ts*(1+Eo ds)
 | [],ds,h=>by cases ds <;> simp [hasRow,Fi] at h ⊢
 | t::ts,[],h=>by simp [hasRow] at h
 | t::ts,d::ds,h=>by
  simp only [hasRow] at h
  have h1:=ABK t d h.1
  have h2:=J2 ts ds h.2
  simp only [Fi,NT,Eo]
  have h3:t.K*(1+d.sz)<=t.K*(1+(d.sz+Eo ds)):=Nat.mul_le_mul_left _ (by omega)
  have h4:NT ts*(1+Eo ds)<=NT ts*(1+(d.sz+Eo ds)):=Nat.mul_le_mul_left _ (by omega)
  rw [Nat.add_mul]
  omega
end
theorem Kn:∀ ds:List Dat,cntV ds<=Fi ds
 | []=>Nat.le_refl _
 | d::ds=>by
  simp only [cntV,Fi]
  have:=Kn ds
  have:d.cntV<=d.cnt:=by cases d <;> simp [Dat.cntV,Dat.cnt]
  omega
theorem Sp {ts:List Ty} {ds:List Dat} (h:hasRow ts ds) (hs:Eo ds<=1048576) (hK:NT ts<=1000):(cntV ds:Int)<=2000000000:=by
 have h1:=Kn ds
 have h2:=J2 ts ds h
 have h3:NT ts*(1+Eo ds)<=1000*(1+Eo ds):=Nat.mul_le_mul_right _ hK
 omega
def Ze (e:Nat):List Ty:=[.int,.bool,.sl e [.int],.sl e [.int],.bool,.sl e [.int],.sl e [.int]]
def plGood (e:Nat) (p:PlD):Prop:=(∃ w vs,RdRow w (Ze e) p.row vs)/\Eo p.row<=1048576
theorem plGood.has {e:Nat} {p:PlD} (h:plGood e p):hasRow (Ze e) p.row:=by obtain ⟨⟨w,vs,h⟩,_⟩:=h;exact RdRow.has _ _ _ h
theorem plGood.ok {e:Nat} {p:PlD} (h:plGood e p):p.ok:=by
 have:=h.2
 simp only [PlD.row,Eo,Dat.sz] at this
 refine ⟨⟨?_,?_⟩,⟨?_,?_⟩⟩ <;> omega
theorem plGood.cnt {e:Nat} {p:PlD} (h:plGood e p):(cntV p.row:Int)<=2000000000:=Sp h.has h.2 (by simp [NT,Ze,Ty.K])
theorem plGood.at {e:Nat} {p:PlD} (n:Int) (h:plGood e p):plGood e ⟨n,p.pt⟩:=by
 obtain ⟨⟨w,vs,h⟩,hs⟩:=h
 refine ⟨?_,by simpa [PlD.row,Eo,Dat.sz] using hs⟩
 simp only [PlD.row,Ze] at h ⊢
 obtain ⟨v,vs,rfl,h1,h2⟩:=RdRow.cons2 h
 exact ⟨w,.int .i64 n::vs,RdRow.mk_cons (Rd.mk_int n) h2⟩
theorem plGood.after {e:Nat} {q x:PlD} (hq:plGood e q) (hx:plGood e x):plGood e (XT q x):=by
 unfold XT
 split
 ·exact hx.at q.h
 ·split
  ·exact hq.at _
  ·exact hq
end Go.Proofs.YtkffpiaagjcmpaaGreat
namespace Go.Proofs.YtkffpiaagjcmpaaGreat
set_option linter.unusedVariables false
set_option linter.unusedSimpArgs false
open Go.RowKit
end Go.Proofs.YtkffpiaagjcmpaaGreat
