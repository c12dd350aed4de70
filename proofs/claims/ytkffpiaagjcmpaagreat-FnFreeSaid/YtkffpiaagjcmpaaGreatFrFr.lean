import Derived.Test.YtkffpiaagjcmpaaGreatFrExC
namespace Go.Proofs.YtkffpiaagjcmpaaGreat
set_option linter.unusedVariables false
set_option linter.unusedSimpArgs false
def BB:Nat:=1000000000
def dig (n:Nat):List Nat:=if h:n=0 then [] else n%BB::dig (n/BB)
termination_by n
decreasing_by exact Nat.div_lt_self (Nat.pos_of_ne_zero h) (by decide)
def AX:Nat->Nat->List Nat
 | 0,_=>[]
 | k+1,n=>n%BB::AX k (n/BB)
def Ag:List Nat->Nat
 | []=>0
 | d::r=>d+BB*Ag r
def dgt (n i:Nat):Nat:=n/BB^i%BB
theorem D7:0<BB:=by decide
theorem BBp (i:Nat):0<BB^i:=Nat.pow_pos D7
theorem B7:dig 0=[]:=by rw [dig];simp
theorem ES {n:Nat} (h:n≠0):dig n=n%BB::dig (n/BB):=by rw [dig];simp [h]
theorem XV:∀ (n:Nat),∀ d ∈ dig n,d<BB:=by
 intro n
 induction n using Nat.strongRecOn with
 | _ n ih=>
  intro d hd
  by_cases h:n=0
  ·subst h;rw [B7] at hd;simp at hd
  ·rw [ES h] at hd
   rcases List.mem_cons.1 hd with rfl|hd
   ·exact Nat.mod_lt _ D7
   ·exact ih _ (Nat.div_lt_self (Nat.pos_of_ne_zero h) (by decide)) d hd
theorem Nr:∀ (n:Nat),Ag (dig n)=n:=by
 intro n
 induction n using Nat.strongRecOn with
 | _ n ih=>
  by_cases h:n=0
  ·subst h;rw [B7];rfl
  ·rw [ES h,Ag,ih _ (Nat.div_lt_self (Nat.pos_of_ne_zero h) (by decide))]
   exact Nat.mod_add_div n BB
theorem Jo {d:Nat} {r:List Nat} (hd:d<BB):dig (d+BB*Ag r)=if d=0/\Ag r=0 then [] else d::dig (Ag r):=by
 have hm:(d+BB*Ag r)%BB=d:=by rw [Nat.add_mul_mod_self_left,Nat.mod_eq_of_lt hd]
 have hq:(d+BB*Ag r)/BB=Ag r:=by rw [Nat.add_mul_div_left _ _ D7,Nat.div_eq_of_lt hd,Nat.zero_add]
 split
 ·rename_i h;rw [h.1,h.2];simp [B7]
 ·rename_i h
  have:d+BB*Ag r≠0:=λ e=>h ⟨by omega,by
   have:BB*Ag r=0:=by omega
   rcases Nat.mul_eq_zero.1 this with h|h
   ·simp [BB] at h
   ·exact h⟩
  rw [ES this,hm,hq]
theorem Jp:∀ (l:List Nat),(∀ d ∈ l,d<BB)->(∀ h:l≠[],l.getLast h≠0)->dig (Ag l)=l
 | [],_,_=>B7
 | d::r,hd,hl=>by
  rw [Ag,Jo (hd d (by simp))]
  have ih:=Jp r (λ x hx=>hd x (by simp [hx])) (λ h=>by have:=hl (by simp);rwa [List.getLast_cons h] at this)
  split
  ·rename_i h
   obtain ⟨rfl,h2⟩:=h
   rw [h2,B7] at ih
   subst ih
   exact absurd rfl (hl (by simp))
  ·rw [ih]
theorem Tz:∀ (i n:Nat),i<(dig n).length↔BB^i<=n
 | i,n=>by
  by_cases h:n=0
  ·subst h;rw [B7];have:=BBp i;exact ⟨λ h=>absurd h (by simp),λ h=>by omega⟩
  ·rw [ES h]
   cases i with
   | zero=>simp;omega
   | succ i=>
    have ih:=Tz i (n/BB)
    simp only [List.length_cons,Nat.add_lt_add_iff_right,ih]
    rw [Nat.le_div_iff_mul_le D7,Nat.pow_succ]
theorem KM (k n:Nat):(dig n).length<=k↔n<BB^k:=by
 have:=Tz k n
 omega
theorem Oo:∀ (n i:Nat),i<(dig n).length->(dig n)[i]?=some (dgt n i)
 | n,i,hi=>by
  by_cases h:n=0
  ·subst h;rw [B7] at hi;simp at hi
  ·rw [ES h] at hi ⊢
   cases i with
   | zero=>simp [dgt]
   | succ i=>
    have ih:=Oo (n/BB) i (by simpa using hi)
    simp only [List.getElem?_cons_succ,ih,dgt,Nat.div_div_eq_div_mul,Nat.pow_succ]
    rw [Nat.mul_comm]
theorem QT {n i:Nat} (h:n<BB^i):dgt n i=0:=by unfold dgt;rw [Nat.div_eq_of_lt h];rfl
theorem By (n i:Nat):dgt n i<BB:=Nat.mod_lt _ D7
theorem XW (n i:Nat):(dig n).getD i 0=dgt n i:=by
 by_cases h:i<(dig n).length
 ·simp [List.getD,Oo n i h]
 ·have:=(KM i n).1 (by omega)
  rw [QT this];simp [List.getD,List.getElem?_eq_none (Nat.le_of_not_lt h)]
theorem Av:∀ (k n:Nat),(AX k n).length=k
 | 0,_=>rfl
 | k+1,n=>by simp [AX,Av k]
theorem Cq:∀ (k n i:Nat),i<k->(AX k n)[i]?=some (dgt n i)
 | 0,_,_,h=>by omega
 | k+1,n,0,_=>by simp [AX,dgt]
 | k+1,n,i+1,h=>by
  simp only [AX,List.getElem?_cons_succ,Cq k (n/BB) i (by omega),dgt,Nat.div_div_eq_div_mul,Nat.pow_succ]
  rw [Nat.mul_comm]
theorem E7 (k n:Nat):AX (k+1) n=AX k n++[dgt n k]:=by
 apply List.ext_getElem?
 intro i
 by_cases h:i<k
 ·rw [Cq _ _ _ (by omega),List.getElem?_append_left (by rw [Av];exact h),Cq _ _ _ h]
 ·by_cases h2:i=k
  ·subst h2;rw [Cq _ _ _ (by omega),List.getElem?_append_right (by rw [Av];exact Nat.le_refl _),Av];simp
  ·rw [List.getElem?_eq_none (by rw [Av];omega),List.getElem?_eq_none (by simp [Av];omega)]
theorem XX {k n:Nat} (h:(dig n).length=k):AX k n=dig n:=by
 apply List.ext_getElem?
 intro i
 by_cases hi:i<k
 ·rw [Cq _ _ _ hi,Oo _ _ (by omega)]
 ·rw [List.getElem?_eq_none (by rw [Av];omega),List.getElem?_eq_none (by omega)]
theorem T5 {n i k:Nat} (h:i<k):dgt (n%BB^k) i=dgt n i:=by
 unfold dgt
 have e:BB^k=BB^i*BB^(k-i):=by rw [← Nat.pow_add];congr 1;omega
 rw [e,Nat.mod_mul_right_div_self]
 have e2:BB^(k-i)=BB*BB^(k-i-1):=by rw [Nat.mul_comm,← Nat.pow_succ];congr 1;omega
 rw [e2,Nat.mod_mul_right_mod]
theorem L4:∀ (k n:Nat),Ag (AX k n)=n%BB^k
 | 0,n=>by simp [AX,Ag,Nat.mod_one]
 | k+1,n=>by
  rw [AX,Ag,L4 k,Nat.pow_succ,Nat.mul_comm (BB^k),Nat.mod_mul]
theorem GO (n i:Nat):n%BB^(i+1)=n%BB^i+BB^i*dgt n i:=by
 rw [Nat.pow_succ,Nat.mod_mul];rfl
theorem BP (n i:Nat):n/BB^i=n/BB^(i+1)*BB+dgt n i:=by
 rw [Nat.pow_succ,← Nat.div_div_eq_div_mul,dgt]
 have:=Nat.div_add_mod (n/BB^i) BB
 rw [Nat.mul_comm] at this
 exact this.symm
theorem L5:∀ (l:List Nat) (d:Nat),Ag (l++[d])=Ag l+BB^l.length*d
 | [],d=>by simp [Ag]
 | x::r,d=>by
  simp only [List.cons_append,Ag,L5 r d,List.length_cons,Nat.pow_succ,Nat.mul_add]
  rw [Nat.mul_comm (BB^r.length) BB,Nat.mul_assoc,Nat.add_assoc]
theorem QU:∀ (l:List Nat),(∀ d ∈ l,d<BB)->Ag l<BB^l.length
 | [],_=>by simp [Ag]
 | d::r,h=>by
  have h1:=QU r (λ x hx=>h x (by simp [hx]))
  have h2:=h d (by simp)
  simp only [Ag,List.length_cons,Nat.pow_succ]
  have:=Nat.mul_le_mul_left BB (show Ag r+1<=BB^r.length by omega)
  rw [Nat.mul_comm (BB^r.length)]
  rw [Nat.mul_add] at this
  omega
theorem QV {N V p d:Nat} (hp:p<N) (hd:d<BB):(AX N V).set p d=AX N (V-dgt V p*BB^p+d*BB^p):=by
 have hle:dgt V p*BB^p<=V:=by
  unfold dgt
  have h1:=Nat.mod_le (V/BB^p) BB
  have h2:=Nat.mul_le_mul_right (BB^p) h1
  have h3:=Nat.div_mul_le_self V (BB^p)
  omega
 -- V = low + dgt * B^p + high * B^(p+1)
 have e1:=Nat.div_add_mod V (BB^p)
 have e2:=BP V p
 have eV:V=V%BB^p+(dgt V p+BB*(V/BB^(p+1)))*BB^p:=by
  rw [Nat.mul_comm _ BB,Nat.add_comm] at e2
  rw [← e2,Nat.mul_comm _ (BB^p)];omega
 have eW:V-dgt V p*BB^p+d*BB^p=V%BB^p+(d+BB*(V/BB^(p+1)))*BB^p:=by
  rw [Nat.add_mul] at eV ⊢
  omega
 rw [eW]
 apply List.ext_getElem?
 intro i
 by_cases hi:i<N
 ·rw [Cq _ _ _ hi]
  by_cases hip:i=p
  ·subst hip
   rw [List.getElem?_set_self (by rw [Av];exact hi)]
   congr 1
   unfold dgt
   rw [Nat.add_mul_div_right _ _ (BBp i),Nat.div_eq_of_lt (Nat.mod_lt _ (BBp i)),Nat.zero_add,Nat.add_mul_mod_self_left,Nat.mod_eq_of_lt hd]
  ·rw [List.getElem?_set_ne (λ e=>hip e.symm),Cq _ _ _ hi]
   congr 1
   by_cases hlt:i<p
   ·rw [← T5 (n:=V) hlt,← T5 (n:=V%BB^p+_) hlt,Nat.add_mul_mod_self_right,Nat.mod_mod]
   ·have hgt:i=(p+1)+(i-p-1):=by omega
    unfold dgt
    rw [hgt,Nat.pow_add,← Nat.div_div_eq_div_mul,← Nat.div_div_eq_div_mul]
    congr 2
    rw [Nat.pow_succ,← Nat.div_div_eq_div_mul,← Nat.div_div_eq_div_mul,Nat.add_mul_div_right _ _ (BBp p),Nat.div_eq_of_lt (Nat.mod_lt _ (BBp p)),Nat.zero_add,Nat.add_mul_div_left _ _ D7,Nat.div_eq_of_lt hd,Nat.zero_add]
 ·rw [List.getElem?_eq_none (by rw [List.length_set,Av];omega),List.getElem?_eq_none (by rw [Av];omega)]
theorem Ns (k:Nat):AX k 0=List.replicate k 0:=by
 induction k with
 | zero=>rfl
 | succ k ih=>simp [AX,ih,List.replicate_succ]
theorem ABT {n k:Nat} (h1:n<BB^k) (h2:k=0∨BB^(k-1)<=n):(dig n).length=k:=by
 have a:=(KM k n).2 h1
 rcases h2 with h2|h2
 ·omega
 ·have:=(Tz (k-1) n).2 h2;omega
theorem L6 {n k:Nat} (h:n<BB^(k+1)) (h0:dgt n k=0):n<BB^k:=by
 have:=GO n k
 rw [Nat.mod_eq_of_lt h,h0,Nat.mul_zero,Nat.add_zero] at this
 rw [this];exact Nat.mod_lt _ (BBp k)
theorem ZA {a b k:Nat} (h:a/BB^(k+1)=b/BB^(k+1)) (hd:dgt a k=dgt b k):a/BB^k=b/BB^k:=by
 rw [BP a k,BP b k,h,hd]
theorem Nt {a b k:Nat} (h:a/BB^(k+1)=b/BB^(k+1)) (hd:dgt a k<dgt b k):a<b:=by
 have e1:=BP a k
 have e2:=BP b k
 rw [h] at e1
 have:a/BB^k<b/BB^k:=by omega
 apply Nat.lt_of_not_le
 intro hle
 exact absurd (Nat.div_le_div_right (c:=BB^k) hle) (by omega)
def CG (a b i:Nat):Nat:=(a%BB^i+b%BB^i)/BB^i
theorem VM (a b:Nat):CG a b 0=0:=by simp [CG,Nat.mod_one]
theorem T6 (a b i:Nat):(a+b)/BB^i=a/BB^i+b/BB^i+CG a b i:=by
 have h:a+b=a%BB^i+b%BB^i+BB^i*(a/BB^i+b/BB^i):=by
  have e1:=Nat.div_add_mod a (BB^i)
  have e2:=Nat.div_add_mod b (BB^i)
  rw [Nat.mul_add];omega
 unfold CG
 conv=>lhs;rw [h]
 rw [Nat.add_mul_div_left _ _ (BBp i)];omega
theorem ZB (a b i:Nat):(dgt a i+dgt b i+CG a b i)%BB=dgt (a+b) i/\(dgt a i+dgt b i+CG a b i)/BB=CG a b (i+1):=by
 constructor
 ·unfold dgt
  rw [T6]
  simp [Nat.add_mod,Nat.mod_mod]
 ·unfold CG
  rw [GO,GO]
  have e:a%BB^i+BB^i*dgt a i+(b%BB^i+BB^i*dgt b i)=a%BB^i+b%BB^i+BB^i*(dgt a i+dgt b i):=by rw [Nat.mul_add];omega
  rw [e,Nat.pow_succ,← Nat.div_div_eq_div_mul,Nat.add_mul_div_left _ _ (BBp i)]
  congr 1;omega
theorem Ko (a b i:Nat):CG a b i<=1:=by
 unfold CG
 have h1:=Nat.mod_lt a (BBp i)
 have h2:=Nat.mod_lt b (BBp i)
 have:(a%BB^i+b%BB^i)/BB^i<2:=by rw [Nat.div_lt_iff_lt_mul (BBp i)];omega
 omega
theorem QW {a b i:Nat} (h:0<CG a b i):BB^i<=a+b:=by
 unfold CG at h
 have h1:=Nat.mod_le a (BB^i)
 have h2:=Nat.mod_le b (BB^i)
 apply Nat.le_of_not_lt
 intro hlt
 rw [Nat.div_eq_of_lt (by omega)] at h;omega
theorem XY {a b i:Nat} (ha:a<BB^i) (hb:b<BB^i) (h:CG a b i=0):a+b<BB^i:=by
 unfold CG at h
 rw [Nat.mod_eq_of_lt ha,Nat.mod_eq_of_lt hb] at h
 rcases (Nat.div_eq_zero_iff).1 h with h|h
 ·have:=BBp i;omega
 ·exact h
def brw (a b i:Nat):Nat:=if a%BB^i<b%BB^i then 1 else 0
theorem XZ (a b:Nat):brw a b 0=0:=by simp [brw,Nat.mod_one]
theorem Sk (a b i:Nat):brw a b i<=1:=by unfold brw;split <;> omega
theorem T7 {a b:Nat} (h:b<=a) (i:Nat):a/BB^i=b/BB^i+brw a b i+(a-b)/BB^i:=by
 obtain ⟨c,rfl⟩:∃ c,a=b+c:=⟨a-b,by omega⟩
 rw [Nat.add_sub_cancel_left,T6]
 have:CG b c i=brw (b+c) b i:=by
  unfold CG brw
  have h1:=Nat.mod_lt b (BBp i)
  have h2:=Nat.mod_lt c (BBp i)
  have e:=Nat.add_mod b c (BB^i)
  rw [e]
  generalize b%BB^i=B' at *
  generalize c%BB^i=C' at *
  generalize BB^i=P at *
  by_cases hlt:B' + C' < P
  ·rw [Nat.div_eq_of_lt hlt,Nat.mod_eq_of_lt hlt,if_neg (by omega)]
  ·have e2:(B' + C')%P=B' + C' - P:=by
    rw [Nat.mod_eq_sub_mod (by omega),Nat.mod_eq_of_lt (by omega)]
   rw [e2,if_pos (show B' + C' - P<B' by omega)]
   apply Nat.le_antisymm
   ·have:(B' + C')/P<2:=by rw [Nat.div_lt_iff_lt_mul (by omega)];omega
    omega
   ·rw [Nat.le_div_iff_mul_le (by omega)];omega
 omega
theorem ZC {a b:Nat} (h:b<=a) (i:Nat) :
  (((dgt a i:Int)-dgt b i-brw a b i<0->(dgt a i:Int)-dgt b i-brw a b i+1000000000=dgt (a-b) i/\brw a b (i+1)=1)) /\
  (((0:Int)<=dgt a i-dgt b i-brw a b i->(dgt a i:Int)-dgt b i-brw a b i=dgt (a-b) i/\brw a b (i+1)=0)):=by
 have e:=T7 h i
 have e1:=BP a i
 have e2:=BP b i
 have e3:=BP (a-b) i
 have e4:=T7 h (i+1)
 have d1:=By a i
 have d2:=By b i
 have d3:=By (a-b) i
 have hb:=Sk a b i
 have hb':=Sk a b (i+1)
 rw [e1,e2,e3] at e
 rw [e4] at e
 rw [Nat.add_mul,Nat.add_mul] at e
 unfold BB at *
 constructor <;> intro hn <;> constructor <;> omega
theorem T8 {A x b V c i k:Nat} (h:V+c*BB^(i+k)=A*b+x*BB^i*(b%BB^k)) :
  V-dgt V (i+k)*BB^(i+k)+(dgt V (i+k)+x*dgt b k+c)%BB*BB^(i+k)+(dgt V (i+k)+x*dgt b k+c)/BB*BB^(i+(k+1))=A*b+x*BB^i*(b%BB^(k+1)):=by
 have hle:dgt V (i+k)*BB^(i+k)<=V:=by
  unfold dgt
  have h1:=Nat.mod_le (V/BB^(i+k)) BB
  have h2:=Nat.mul_le_mul_right (BB^(i+k)) h1
  have h3:=Nat.div_mul_le_self V (BB^(i+k))
  omega
 have e1:=Nat.div_add_mod (dgt V (i+k)+x*dgt b k+c) BB
 have e2:(dgt V (i+k)+x*dgt b k+c)%BB*BB^(i+k)+(dgt V (i+k)+x*dgt b k+c)/BB*BB^(i+(k+1))=(dgt V (i+k)+x*dgt b k+c)*BB^(i+k):=by
  conv=>rhs;rw [← e1]
  rw [show i+(k+1)=(i+k)+1 from rfl,Nat.pow_succ,Nat.add_mul]
  rw [Nat.mul_comm (BB^(i+k)) BB,← Nat.mul_assoc,Nat.mul_comm BB,Nat.add_comm]
 rw [Nat.add_assoc,e2,GO,Nat.mul_add,← Nat.add_assoc,← h,Nat.add_mul,Nat.add_mul]
 have e3:x*BB^i*(BB^k*dgt b k)=x*dgt b k*BB^(i+k):=by
  rw [Nat.pow_add]
  simp only [Nat.mul_assoc,Nat.mul_comm,Nat.mul_left_comm]
 rw [e3];omega
theorem Xa {a b i:Nat} : a%BB^i*b+dgt a i*BB^i*b=a%BB^(i+1)*b:=by
 rw [GO,Nat.add_mul,Nat.mul_comm (dgt a i)]
theorem T9 (a n i:Nat) (hn:0<n):((a/BB^(i+1))%n*BB+dgt a i)/n=dgt (a/n) i/\((a/BB^(i+1))%n*BB+dgt a i)%n=(a/BB^i)%n:=by
 have e:=BP a i
 have e1:=Nat.div_add_mod (a/BB^(i+1)) n
 have hr:=Nat.mod_lt (a/BB^(i+1)) hn
 have hd:=By a i
 have key:a/BB^i=((a/BB^(i+1))%n*BB+dgt a i)+n*(a/BB^(i+1)/n*BB):=by
  conv=>lhs;rw [e,← e1]
  rw [Nat.add_mul,Nat.mul_assoc];omega
 constructor
 ·have hq:((a/BB^(i+1))%n*BB+dgt a i)/n<BB:=by
   rw [Nat.div_lt_iff_lt_mul hn]
   have:=Nat.mul_le_mul_right BB (show (a/BB^(i+1))%n+1<=n by omega)
   rw [Nat.add_mul] at this
   rw [Nat.mul_comm BB n];omega
  unfold dgt
  have e5:a/n/BB^i=a/BB^i/n:=by rw [Nat.div_div_eq_div_mul,Nat.mul_comm n,← Nat.div_div_eq_div_mul]
  have e6:∀ X Y:Nat,X<BB->X=(X+Y*BB)%BB:=λ X Y h=>by rw [Nat.add_mul_mod_self_right,Nat.mod_eq_of_lt h]
  rw [e5]
  conv=>rhs;rw [key]
  rw [Nat.add_mul_div_left _ _ hn]
  exact e6 _ _ hq
 ·rw [key,Nat.add_mul_mod_self_left]
theorem Xb {a k:Nat} (n:Nat) (h:a<BB^k):a/BB^k%n=0:=by rw [Nat.div_eq_of_lt h];exact Nat.zero_mod n
def hi (q i:Nat):Nat:=q/BB^i*BB^i
theorem AAf {q k:Nat} (h:q<BB^k):hi q k=0:=by unfold hi;rw [Nat.div_eq_of_lt h];simp
theorem ZD (q:Nat):hi q 0=q:=by simp [hi]
theorem AAg (q i:Nat):dgt (hi q (i+1)) i=0:=by
 unfold dgt hi
 rw [Nat.pow_succ,Nat.mul_comm (BB^i) BB,← Nat.mul_assoc,Nat.mul_div_cancel _ (BBp i),Nat.mul_mod_left]
theorem UA (q i:Nat):hi q i=hi q (i+1)+dgt q i*BB^i:=by
 unfold hi
 conv=>lhs;rw [BP q i]
 rw [Nat.add_mul,Nat.pow_succ,Nat.mul_comm (BB^i) BB,Nat.mul_assoc]
theorem ZE {N q i d:Nat} (hi' : i<N) (hd:d=dgt q i):(AX N (hi q (i+1))).set i d=AX N (hi q i):=by
 subst hd
 rw [QV hi' (By q i),AAg,Nat.zero_mul,Nat.sub_zero,← UA]
theorem FT (d n:Nat):Ag (d::dig n)=d+BB*n:=by rw [Ag,Nr]
theorem Oq (k:Nat):List.replicate k 0=AX k 0:=(Ns k).symm
def rn (r:List Dat):Int:=(r.getD 0 (.int 0)).n
def AJ (l:List Nat):List (List Dat):=l.map λ (d:Nat)=>[Dat.int (d:Int)]
def L (n:Nat):List (List Dat):=AJ (dig n)
def nl (n:Nat):Nat:=(dig n).length
theorem Bw (l:List Nat):(AJ l).length=l.length:=by simp [AJ]
theorem BD (n:Nat):(L n).length=nl n:=Bw _
theorem GP:L 0=[]:=by unfold L;rw [B7];rfl
theorem CR:nl 0=0:=by unfold nl;rw [B7];rfl
theorem H6 {n:Nat} (h:n≠0):0<nl n:=by unfold nl;rw [ES h];simp
theorem D8 {n:Nat} : nl n=0↔n=0:=⟨λ h=>by rcases Nat.eq_zero_or_pos n with h' | h';exact h';have:=H6 (n:=n) (by omega);omega,λ h=>by subst h;exact CR⟩
theorem D9 (k n:Nat):nl n<=k↔n<BB^k:=KM k n
theorem Xc (i n:Nat):i<nl n↔BB^i<=n:=Tz i n
theorem DZ (n:Nat):n<BB^nl n:=(KM _ _).1 (Nat.le_refl _)
theorem Gw {a b:Nat} (h:a<=b):nl a<=nl b:=(KM _ _).2 (Nat.lt_of_le_of_lt h (DZ b))
theorem Dp (a b:Nat):nl (a*b)<=nl a+nl b:=by
 refine (KM _ _).2 ?_
 rw [Nat.pow_add]
 have h1:=DZ a
 have h2:=DZ b
 exact Nat.mul_lt_mul'' h1 h2
theorem Nu (a b:Nat):nl (a+b)<=max (nl a) (nl b)+1:=by
 refine (KM _ _).2 ?_
 have h1:=DZ a
 have h2:=DZ b
 have m1:BB^nl a<=BB^max (nl a) (nl b):=Nat.pow_le_pow_right D7 (by omega)
 have m2:BB^nl b<=BB^max (nl a) (nl b):=Nat.pow_le_pow_right D7 (by omega)
 rw [Nat.pow_succ]
 have:BB^max (nl a) (nl b)*2<=BB^max (nl a) (nl b)*BB:=Nat.mul_le_mul_left _ (by decide)
 omega
theorem Xd {n:Nat} (h:n≠0) (h2:n<BB):nl n=1:=by
 have:=H6 h
 have:=(KM 1 n).2 (by simpa using h2)
 unfold nl at *;omega
theorem Sl (x:Int):rn [Dat.int x]=x:=rfl
theorem Jq (l:List Nat) (i:Nat):(((AJ l).getD i []).getD 0 (.int 0))=.int ((l.getD i 0:Nat):Int):=by
 unfold AJ
 simp only [List.getD,List.getElem?_map]
 cases l[i]? <;> rfl
theorem AAE (n i:Nat):(((L n).getD i []).getD 0 (.int 0))=.int ((dgt n i:Nat):Int):=by
 unfold L;rw [Jq,XW]
theorem Xe (l:List Nat) (i:Nat):rn ((AJ l).getD i [])=((l.getD i 0:Nat):Int):=by
 unfold rn;rw [Jq];rfl
theorem L7 {l:List Nat} {i:Nat} (h:i<l.length):(AJ l).getD i []=[Dat.int ((l.getD i 0:Nat):Int)]:=by
 unfold AJ;simp [List.getD,h]
theorem Nv {l:List Nat} {i:Nat} (h:i<l.length) (x:Nat):(AJ l).set i (((AJ l).getD i []).set 0 (Dat.int (x:Int)))=AJ (l.set i x):=by
 rw [L7 h]
 unfold AJ
 rw [List.map_set];rfl
theorem Cx (l:List Nat) (x:Nat):AJ l++[[Dat.int (x:Int)]]=AJ (l++[x]):=by simp [AJ]
theorem Sm (l:List Nat) (k:Nat):(AJ l).take k=AJ (l.take k):=by simp [AJ,List.map_take]
theorem Fx (k:Nat):List.replicate k [Dat.int 0]=AJ (List.replicate k 0):=by simp [AJ,List.map_replicate]
theorem Kp (k n:Nat):∀ d ∈ AX k n,d<BB:=by
 intro d hd
 obtain ⟨i,hi,rfl⟩:=List.getElem_of_mem hd
 have:=Cq k n i (by rw [Av] at hi;exact hi)
 rw [List.getElem?_eq_getElem hi] at this
 rw [Option.some.inj this];exact By n i
theorem VN {k n i:Nat} (h:i<k):(AX k n).getD i 0=dgt n i:=by simp [List.getD,Cq k n i h]
def inB (n:Int):Bool:=decide (0<=n) && decide (n<=999999999)
def BQ (l:List (List Dat)):Bool:=decide (l.length<=60) && l.all (λ r=>inB (rn r)) && (decide (l.length=0) || !decide (rn (l.getD (l.length-1) [])=0))
theorem KN {n:Nat} (h:n≠0):dgt n (nl n-1)≠0:=by
 intro h0
 have hp:=H6 h
 have h1:=DZ n
 have:nl n=nl n-1+1:=by omega
 rw [this] at h1
 have:=L6 h1 h0
 have:=(D9 _ _).2 this
 omega
theorem QX (n:Nat):BQ (L n)=decide (nl n<=60):=by
 have h1:(L n).all (λ r=>inB (rn r))=true:=by
  refine List.all_eq_true.2 λ r hr=>?_
  obtain ⟨d,hd,rfl⟩:=List.mem_map.1 hr
  have:=XV n d hd
  unfold BB at this
  simp only [Sl,inB,Bool.and_eq_true];exact ⟨decide_eq_true (by omega),decide_eq_true (by omega)⟩
 have h2:(decide ((L n).length=0) || !decide (rn ((L n).getD ((L n).length-1) [])=0))=true:=by
  rw [BD]
  by_cases h:n=0
  ·subst h;simp [CR]
  ·have e:rn ((L n).getD (nl n-1) [])=(dgt n (nl n-1):Int):=by unfold rn;rw [AAE];rfl
   rw [e]
   have:=KN h
   simp;right;omega
 unfold BQ
 rw [h1,h2,BD];simp
theorem FU {e:Nat} {l:List (List Dat)} (hs:Dat.has (.sl e [.int]) (.sl l)) (h:BQ l=true):∃ n,l=L n/\nl n<=60:=by
 simp only [BQ,Bool.and_eq_true,decide_eq_true_eq] at h
 obtain ⟨⟨h1,h2⟩,h3⟩:=h
 have hrow:∀ r ∈ l,∃ d:Nat,r=[Dat.int (d:Int)]/\d<BB:=by
  intro r hr
  obtain ⟨i,hi,rfl⟩:=List.getElem_of_mem hr
  simp only [Dat.has] at hs
  have hh:=hs.2 i hi
  have eg:l.getD i []=l[i]:=by simp [List.getD,hi]
  rw [eg] at hh
  match hq:l[i],hh with
  | [.int n],_=>
   have hb:=List.all_eq_true.1 h2 _ hr
   rw [hq] at hb
   simp only [Sl,inB,Bool.and_eq_true] at hb
   have hb:0<=n/\n<=999999999:=⟨of_decide_eq_true hb.1,of_decide_eq_true hb.2⟩
   exact ⟨n.toNat,by rw [Int.toNat_of_nonneg hb.1],by unfold BB;omega⟩
 obtain ⟨ds,rfl,hds⟩:∃ ds:List Nat,l=AJ ds/\∀ d ∈ ds,d<BB:=by
  clear hs h1 h2 h3
  induction l with
  | nil=>exact ⟨[],rfl,by simp⟩
  | cons r l ih=>
   obtain ⟨ds,rfl,hd⟩:=ih λ x hx=>hrow x (by simp [hx])
   obtain ⟨d,rfl,hd1⟩:=hrow r (by simp)
   exact ⟨d::ds,rfl,λ x hx=>by rcases List.mem_cons.1 hx with rfl|hx;exact hd1;exact hd x hx⟩
 refine ⟨Ag ds,?_,?_⟩
 ·unfold L
  rw [Jp ds hds]
  intro hne h0
  rw [Bw,Xe] at h3
  have hlen:0<ds.length:=List.length_pos_iff.2 hne
  rw [List.getLast_eq_getElem] at h0
  simp [List.getD,show ds.length-1<ds.length by omega,h0] at h3
  exact hne h3
 ·rw [Bw] at h1
  refine (D9 _ _).2 (Nat.lt_of_lt_of_le (QU ds hds) (Nat.pow_le_pow_right D7 h1))
def Ci (a b:Nat):Int:=if a<b then -1 else if a=b then 0 else 1
def CK (a b:Int):Int:=if a<b then -1 else if a=b then 0 else 1
theorem UB {a b:Nat} (h:a<b):Ci a b=-1:=by unfold Ci;rw [if_pos h]
theorem UC {a b:Nat} (h:b<a):Ci a b=1:=by unfold Ci;rw [if_neg (by omega),if_neg (by omega)]
theorem ZF (a:Nat):Ci a a=0:=by unfold Ci;simp
theorem QY {a b:Nat} (h:nl a<nl b):a<b:=by
 apply Nat.lt_of_not_le
 intro hle;have:=Gw hle;omega
theorem Ot (l:List Nat) (i:Nat):(((AJ l).getD i []).getD 0 (.int 0)).n=((l.getD i 0:Nat):Int):=by rw [Jq];rfl
theorem L_n (n i:Nat):(((L n).getD i []).getD 0 (.int 0)).n=(dgt n i:Int):=by rw [AAE];rfl
theorem Sn {k n i:Nat} (h:i<k):(((AJ (AX k n)).getD i []).getD 0 (.int 0)).n=(dgt n i:Int):=by rw [Ot,VN h]
theorem AAF (a b:Nat):Int.tdiv (a:Int) (b:Int)=((a/b:Nat):Int):=rfl
theorem AAG (a b:Nat):Int.tmod (a:Int) (b:Int)=((a%b:Nat):Int):=rfl
theorem Nw (a:Nat):Int.tdiv (a:Int) (1000000000:Int)=((a/BB:Nat):Int):=rfl
theorem QZ (a:Nat):Int.tmod (a:Int) (1000000000:Int)=((a%BB:Nat):Int):=rfl
theorem ET {a:Nat} (h:a<=9223372036854775807):IntKind.i64.wrap (a:Int)=(a:Int):=AE (by omega) (by omega)
theorem UD (n i:Nat):(0:Int)<=(dgt n i:Int)/\(dgt n i:Int)<1000000000:=by
 have:=By n i
 unfold BB at this;omega
def KY (p:List Dat->Bool) (l:List (List Dat)):Int:=match l.findIdx? p with|some k=>(k:Int)|none=>-1
theorem UE {p:List Dat->Bool} {l:List (List Dat)} {k:Nat} (hk:k<l.length) (h:∀ j,j<k->p (l.getD j [])=false) (hp:p (l.getD k [])=true):KY p l=(k:Int):=by
 have:l.findIdx? p=some k:=by
  rw [List.findIdx?_eq_some_iff_getElem]
  refine ⟨hk,?_,λ j hj=>?_⟩
  ·simpa [List.getD,hk] using hp
  ·have:=h j hj
   simpa [List.getD,show j<l.length by omega] using this
 unfold KY;rw [this]
theorem Nx {p:List Dat->Bool} {l:List (List Dat)} (h:∀ j,j<l.length->p (l.getD j [])=false):KY p l=-1:=by
 have:l.findIdx? p=none:=by
  rw [List.findIdx?_eq_none_iff]
  intro x hx
  obtain ⟨j,hj,rfl⟩:=List.getElem_of_mem hx
  have:=h j hj
  simpa [List.getD,hj] using this
 unfold KY;rw [this]
theorem Qa (p:List Dat->Bool) (l:List (List Dat)):decide (KY p l≥0)=l.any p:=by
 unfold KY
 cases h:l.findIdx? p with
 | none=>
  rw [List.findIdx?_eq_none_iff] at h
  have:l.any p=false:=by
   rw [List.any_eq_false];intro x hx;rw [h x hx];simp
  rw [this];rfl
 | some k=>
  rw [List.findIdx?_eq_some_iff_getElem] at h
  obtain ⟨hk,hp,_⟩:=h
  have:l.any p=true:=List.any_eq_true.2 ⟨_,List.getElem_mem hk,hp⟩
  rw [this]
  exact decide_eq_true (show (0:Int)<=(k:Int) by omega)
theorem Kq {P:Nat->Prop} {k:Nat} (h:∀ j,j<k->P j) (hk:P k):∀ j,j<k+1->P j:=λ j hj=>by
 rcases Nat.lt_succ_iff_lt_or_eq.1 hj with hj|rfl
 ·exact h j hj
 ·exact hk
theorem Ny {l:List Nat} {k:Nat} (hk:k≠0) (hl:k<=l.length):l.take k=l.take (k-1)++[l.getD (k-1) 0]:=by
 have:k=(k-1)+1:=by omega
 conv=>lhs;rw [this]
 rw [List.take_add_one]
 simp [List.getD,show k-1<l.length by omega]
theorem VO {l:List Nat} {k:Nat} (hk:k≠0) (hl:k<=l.length) (h0:l.getD (k-1) 0=0):Ag (l.take (k-1))=Ag (l.take k):=by
 rw [Ny hk hl,h0,L5];simp
theorem Qb {l:List Nat} {k:Nat} (hd:∀ d ∈ l,d<BB) (hl:k<=l.length) (h:Ag (l.take k)=Ag l) (h0:k=0∨l.getD (k-1) 0≠0):(AJ l).take k=L (Ag l):=by
 rw [Sm,← h]
 unfold L
 rw [Jp _ (λ d hd'=>hd d (List.mem_of_mem_take hd'))]
 intro hne
 have hk:k≠0:=by rintro rfl;simp at hne
 have h1:=h0.resolve_left hk
 have e:l.take k=l.take (k-1)++[l.getD (k-1) 0]:=Ny hk hl
 have e2:∀ (m:List Nat) (x:Nat) (h:m++[x]≠[]),(m++[x]).getLast h=x:=λ m x h=>by simp
 have e3:∀ (m:List Nat) (hm:m≠[]),m=l.take (k-1)++[l.getD (k-1) 0]->m.getLast hm≠0:=λ m hm he=>by subst he;rw [e2];exact h1
 exact e3 _ hne e
theorem Xf {o:List Nat} {n:Nat} (h:o=dig n):AJ o=L n:=by subst h;rfl
end Go.Proofs.YtkffpiaagjcmpaaGreat
namespace Go.Proofs.YtkffpiaagjcmpaaGreat
set_option linter.unusedVariables false
set_option linter.unusedSimpArgs false
def Ou (q:Rat):Bool:=decide (nl q.num.natAbs<=24) && decide (nl q.den<=24)
structure Fr where
 v:Option Rat
 ok:∀ q,v=some q->Ou q=true
theorem Fr.ext {r s:Fr} (h:r.v=s.v):r=s:=by cases r;cases s;simp only at h;subst h;rfl
def Fr.neg (r:Fr):Bool:=match r.v with|none=>false|some q=>decide (q.num<0)
def Fr.num (r:Fr):List (List Dat):=match r.v with|none=>[]|some q=>L q.num.natAbs
def Fr.den (r:Fr):List (List Dat):=match r.v with|none=>[]|some q=>L q.den
def Fr.good (r:Fr):Bool:=r.v.isSome
def Fr.none:Fr:=⟨.none,by simp⟩
def clamp (q:Rat):Fr:=if h:Ou q=true then ⟨some q,λ _ e=>by rw [← Option.some.inj e];exact h⟩ else Fr.none
def Fr.bin (f:Rat->Rat->Fr) (r s:Fr):Fr:=match r.v,s.v with|some a,some b=>f a b|_,_=>Fr.none
def Fr.add (r s:Fr):Fr:=Fr.bin (λ a b=>clamp (a+b)) r s
def Fr.sub (r s:Fr):Fr:=Fr.bin (λ a b=>clamp (a-b)) r s
def Fr.mul (r s:Fr):Fr:=Fr.bin (λ a b=>clamp (a*b)) r s
def Fr.div (r s:Fr):Fr:=Fr.bin (λ a b=>if b=0 then Fr.none else clamp (a/b)) r s
def Fr.opp (r:Fr):Fr:=match r.v with|some a=>clamp (-a)|_=>Fr.none
def Mw (a b:Rat):Int:=if a<b then -1 else if a=b then 0 else 1
def Fr.cmp (r s:Fr):Int:=match r.v,s.v with|some a,some b=>Mw a b|_,_=>0
def Fr.sgn (r:Fr):Int:=match r.v with|some a=>Mw a 0|_=>0
def Fr.min (r s:Fr):Fr:=Fr.bin (λ a b=>if a<=b then r else s) r s
def Fr.max (r s:Fr):Fr:=Fr.bin (λ a b=>if b<=a then r else s) r s
def Fr.ofInt (n:Int):Fr:=clamp (n:Rat)
theorem DM {q:Rat} : Ou q=true↔nl q.num.natAbs<=24/\nl q.den<=24:=by simp [Ou]
theorem ZG (q:Rat):(clamp q).v=if Ou q=true then some q else .none:=by unfold clamp;split <;> rfl
theorem CD {q:Rat} (h:Ou q=true):(clamp q).v=some q:=by rw [ZG,if_pos h]
theorem Xg {q:Rat} (h:¬ Ou q=true):clamp q=Fr.none:=by unfold clamp;rw [dif_neg h]
theorem Fr.none_v:Fr.none.v=.none:=rfl
theorem Fr.of_none {r:Fr} (h:r.v=.none):r=Fr.none:=Fr.ext h
theorem Fr.of_some {r:Fr} {q:Rat} (h:r.v=some q):r=clamp q:=Fr.ext (by rw [CD (r.ok q h),h])
theorem Fr.num_some {r:Fr} {q:Rat} (h:r.v=some q):r.num=L q.num.natAbs:=by unfold Fr.num;rw [h]
theorem Fr.den_some {r:Fr} {q:Rat} (h:r.v=some q):r.den=L q.den:=by unfold Fr.den;rw [h]
theorem Fr.neg_some {r:Fr} {q:Rat} (h:r.v=some q):r.neg=decide (q.num<0):=by unfold Fr.neg;rw [h]
theorem Fr.good_some {r:Fr} {q:Rat} (h:r.v=some q):r.good=true:=by unfold Fr.good;rw [h];rfl
theorem Fr.good_inv {r:Fr} (h:r.good=true):∃ q,r.v=some q/\nl q.num.natAbs<=24/\nl q.den<=24:=by
 unfold Fr.good at h
 obtain ⟨q,hq⟩:=Option.isSome_iff_exists.1 h
 exact ⟨q,hq,DM.1 (r.ok q hq)⟩
theorem Fr.bad_inv {r:Fr} (h:r.good=false):r=Fr.none:=by
 apply Fr.of_none
 unfold Fr.good at h
 cases hv:r.v with
 | none=>rfl
 | some q=>rw [hv] at h;cases h
theorem Fr.cases (r:Fr):r=Fr.none∨∃ q,r.v=some q/\nl q.num.natAbs<=24/\nl q.den<=24:=by
 cases h:r.good with
 | false=>exact .inl (Fr.bad_inv h)
 | true=>exact .inr (Fr.good_inv h)
def Fr.mk' (z:Int) (d:Nat):Fr:=clamp (mkRat z d)
theorem Dq {z:Int} {d:Nat} (hd:d≠0):(mkRat z d).num=z/((z.natAbs.gcd d:Nat):Int)/\(mkRat z d).den=d/z.natAbs.gcd d:=by
 have e:mkRat z d=Rat.normalize z d hd:=by unfold mkRat;simp [hd]
 rw [e,Rat.normalize_eq hd]
 exact ⟨rfl,rfl⟩
theorem Dd {z:Int} {d:Nat} (hd:d≠0):(mkRat z d).num.natAbs=z.natAbs/z.natAbs.gcd d:=by
 rw [(Dq hd).1]
 have hg:((z.natAbs.gcd d:Nat):Int) ∣ z:=by
  exact Int.ofNat_dvd_left.2 (Nat.gcd_dvd_left _ _)
 obtain ⟨c,hc⟩:=hg
 have hg0:z.natAbs.gcd d≠0:=λ e=>hd (Nat.eq_zero_of_gcd_eq_zero_right e)
 generalize z.natAbs.gcd d=g at *
 subst hc
 rw [Int.mul_ediv_cancel_left _ (by omega),Int.natAbs_mul,Int.natAbs_natCast,Nat.mul_div_cancel_left _ (by omega)]
theorem VP {z:Int} {d:Nat} (hd:d≠0):decide ((mkRat z d).num<0)=decide (z<0):=by
 rw [(Dq hd).1]
 have hg:((z.natAbs.gcd d:Nat):Int) ∣ z:=by
  exact Int.ofNat_dvd_left.2 (Nat.gcd_dvd_left _ _)
 obtain ⟨c,hc⟩:=hg
 have hg0:z.natAbs.gcd d≠0:=λ e=>hd (Nat.eq_zero_of_gcd_eq_zero_right e)
 generalize z.natAbs.gcd d=g at *
 subst hc
 rw [Int.mul_ediv_cancel_left _ (by omega)]
 have hgp:(0:Int)<(g:Int):=by omega
 congr 1
 apply propext
 constructor
 ·intro h;exact Int.mul_neg_of_pos_of_neg hgp h
 ·intro h
  apply Int.lt_of_not_ge
  intro h2
  have:=Int.mul_nonneg (Int.le_of_lt hgp) h2
  omega
theorem Qc (a b:Rat):Mw a b=CK (a.num*b.den) (b.num*a.den):=by
 unfold Mw CK
 simp only [Rat.lt_iff]
 have:a=b↔a.num*b.den=b.num*a.den:=by
  constructor
  ·intro h;subst h;rfl
  ·intro h
   have h1:¬ a<b:=by rw [Rat.lt_iff];omega
   have h2:¬ b<a:=by rw [Rat.lt_iff];omega
   grind
 simp only [this]
theorem VQ (a:Rat):Mw a 0=CK a.num 0:=by rw [Qc];simp
theorem AAh {b:Rat} (hb:b≠0):b⁻¹=mkRat (if b.num<0 then -(b.den:Int) else b.den) b.num.natAbs:=by
 rw [Rat.inv_def]
 have h0:b.num≠0:=λ h=>hb (Rat.num_eq_zero.1 h)
 generalize b.num=n at *
 generalize b.den=d
 cases n with
 | ofNat k=>
  rw [if_neg (by simp)]
  exact Rat.divInt_ofNat _ _
 | negSucc k=>
  rw [if_pos (Int.negSucc_lt_zero k)]
  show Rat.normalize (-(d:Int)) (k+1) (Nat.succ_ne_zero k)=_
  rw [Rat.normalize_eq_mkRat]
  rfl
theorem div_mk {a b:Rat} (hb:b≠0):a/b=mkRat (if b.num<0 then -(a.num*b.den) else a.num*b.den) (a.den*b.num.natAbs):=by
 rw [Rat.div_def,AAh hb]
 conv=>lhs;rw [← Rat.mkRat_self a]
 rw [Rat.mkRat_mul_mkRat]
 congr 1
 by_cases h:b.num<0
 ·rw [if_pos h,if_pos h,Int.mul_neg]
 ·rw [if_neg h,if_neg h]
theorem Fr.add_mk {r s:Fr} {a b:Rat} (hr:r.v=some a) (hs:s.v=some b):Fr.add r s=Fr.mk' (a.num*b.den+b.num*a.den) (a.den*b.den):=by
 unfold Fr.add Fr.bin Fr.mk';rw [hr,hs];simp only;rw [Rat.add_def']
theorem Fr.mul_mk {r s:Fr} {a b:Rat} (hr:r.v=some a) (hs:s.v=some b):Fr.mul r s=Fr.mk' (a.num*b.num) (a.den*b.den):=by
 unfold Fr.mul Fr.bin Fr.mk';rw [hr,hs];simp only;rw [Rat.mul_def']
theorem Fr.div_mk {r s:Fr} {a b:Rat} (hr:r.v=some a) (hs:s.v=some b) (hb:b≠0):Fr.div r s=Fr.mk' (if b.num<0 then -(a.num*b.den) else a.num*b.den) (a.den*b.num.natAbs):=by
 unfold Fr.div Fr.bin Fr.mk';rw [hr,hs];simp only;rw [if_neg hb,_root_.Go.Proofs.YtkffpiaagjcmpaaGreat.div_mk hb]
theorem Fr.bin_none2 (f:Rat->Rat->Fr) (r:Fr):Fr.bin f r Fr.none=Fr.none:=by
 unfold Fr.bin;rw [Fr.none_v];cases r.v <;> rfl
theorem Fr.cmp_mk {r s:Fr} {a b:Rat} (hr:r.v=some a) (hs:s.v=some b):Fr.cmp r s=CK (a.num*b.den) (b.num*a.den):=by
 unfold Fr.cmp;rw [hr,hs];exact Qc a b
theorem Fr.cmp_none2 (r:Fr):Fr.cmp r Fr.none=0:=by unfold Fr.cmp;rw [Fr.none_v];cases r.v <;> rfl
theorem Fr.opp_v {r:Fr} {a:Rat} (hr:r.v=some a):r.opp.v=some (-a):=by
 unfold Fr.opp;rw [hr]
 refine CD ?_
 have:=DM.1 (r.ok a hr)
 refine DM.2 ?_
 rw [Rat.neg_num,Rat.neg_den,Int.natAbs_neg];exact this
theorem Fr.sub_opp (r s:Fr):Fr.add r s.opp=Fr.sub r s:=by
 rcases Fr.cases s with rfl|⟨b,hb,_⟩
 ·have:Fr.none.opp=Fr.none:=rfl
  rw [this];unfold Fr.add Fr.sub;rw [Fr.bin_none2,Fr.bin_none2]
 ·rcases Fr.cases r with rfl|⟨a,ha,_⟩
  ·rfl
  ·unfold Fr.add Fr.sub Fr.bin
   rw [ha,hb,Fr.opp_v hb]
   simp only
   congr 1
   grind
structure Pq where
 x:Fr
 y:Fr
def Pq.good (p:Pq):Bool:=p.x.good && p.y.good
def Pq.none:Pq:=⟨Fr.none,Fr.none⟩
theorem Kr {n:Int} (h:nl n.natAbs<=24):(Fr.ofInt n).v=some (n:Rat):=by
 unfold Fr.ofInt
 refine CD (DM.2 ⟨by rw [Rat.num_intCast];exact h,?_⟩)
 rw [Rat.den_intCast,Xd (by decide) (by decide)];decide
end Go.Proofs.YtkffpiaagjcmpaaGreat
