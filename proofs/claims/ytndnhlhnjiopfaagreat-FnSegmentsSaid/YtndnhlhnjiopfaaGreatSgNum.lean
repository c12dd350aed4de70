import Derived.Test.YtndnhlhnjiopfaaGreatSgExC
namespace Go.Proofs.YtndnhlhnjiopfaaGreat
set_option linter.unusedVariables false
set_option linter.unusedSimpArgs false
def BB:Nat:=1000000000
def dig (n:Nat):List Nat:=if h:n=0 then [] else n%BB::dig (n/BB)
termination_by n
decreasing_by exact Nat.div_lt_self (Nat.pos_of_ne_zero h) (by decide)
def AJ:Nat->Nat->List Nat
 | 0,_=>[]
 | k+1,n=>n%BB::AJ k (n/BB)
def AW:List Nat->Nat
 | []=>0
 | d::r=>d+BB*AW r
def dgt (n i:Nat):Nat:=n/BB^i%BB
theorem C4:0<BB:=by decide
theorem BBp (i:Nat):0<BB^i:=Nat.pow_pos C4
theorem Bd:dig 0=[]:=by rw [dig];simp
theorem B6 {n:Nat} (h:n≠0):dig n=n%BB::dig (n/BB):=by rw [dig];simp [h]
theorem Ku:∀ (n:Nat),∀ d ∈ dig n,d<BB:=by
 intro n
 induction n using Nat.strongRecOn with
 | _ n ih=>
  intro d hd
  by_cases h:n=0
  ·subst h;rw [Bd] at hd;simp at hd
  ·rw [B6 h] at hd
   rcases List.mem_cons.1 hd with rfl|hd
   ·exact Nat.mod_lt _ C4
   ·exact ih _ (Nat.div_lt_self (Nat.pos_of_ne_zero h) (by decide)) d hd
theorem E8:∀ (n:Nat),AW (dig n)=n:=by
 intro n
 induction n using Nat.strongRecOn with
 | _ n ih=>
  by_cases h:n=0
  ·subst h;rw [Bd];rfl
  ·rw [B6 h,AW,ih _ (Nat.div_lt_self (Nat.pos_of_ne_zero h) (by decide))]
   exact Nat.mod_add_div n BB
theorem Io {d:Nat} {r:List Nat} (hd:d<BB):dig (d+BB*AW r)=if d=0/\AW r=0 then [] else d::dig (AW r):=by
 have hm:(d+BB*AW r)%BB=d:=by rw [Nat.add_mul_mod_self_left,Nat.mod_eq_of_lt hd]
 have hq:(d+BB*AW r)/BB=AW r:=by rw [Nat.add_mul_div_left _ _ C4,Nat.div_eq_of_lt hd,Nat.zero_add]
 split
 ·rename_i h;rw [h.1,h.2];simp [Bd]
 ·rename_i h
  have:d+BB*AW r≠0:=λ e=>h ⟨by omega,by
   have:BB*AW r=0:=by omega
   rcases Nat.mul_eq_zero.1 this with h|h
   ·simp [BB] at h
   ·exact h⟩
  rw [B6 this,hm,hq]
theorem Ip:∀ (l:List Nat),(∀ d ∈ l,d<BB)->(∀ h:l≠[],l.getLast h≠0)->dig (AW l)=l
 | [],_,_=>Bd
 | d::r,hd,hl=>by
  rw [AW,Io (hd d (by simp))]
  have ih:=Ip r (λ x hx=>hd x (by simp [hx])) (λ h=>by have:=hl (by simp);rwa [List.getLast_cons h] at this)
  split
  ·rename_i h
   obtain ⟨rfl,h2⟩:=h
   rw [h2,Bd] at ih
   subst ih
   exact absurd rfl (hl (by simp))
  ·rw [ih]
theorem Qr:∀ (i n:Nat),i<(dig n).length↔BB^i<=n
 | i,n=>by
  by_cases h:n=0
  ·subst h;rw [Bd];have:=BBp i;exact ⟨λ h=>absurd h (by simp),λ h=>by omega⟩
  ·rw [B6 h]
   cases i with
   | zero=>simp;omega
   | succ i=>
    have ih:=Qr i (n/BB)
    simp only [List.length_cons,Nat.add_lt_add_iff_right,ih]
    rw [Nat.le_div_iff_mul_le C4,Nat.pow_succ]
theorem JO (k n:Nat):(dig n).length<=k↔n<BB^k:=by
 have:=Qr k n
 omega
theorem M6:∀ (n i:Nat),i<(dig n).length->(dig n)[i]?=some (dgt n i)
 | n,i,hi=>by
  by_cases h:n=0
  ·subst h;rw [Bd] at hi;simp at hi
  ·rw [B6 h] at hi ⊢
   cases i with
   | zero=>simp [dgt]
   | succ i=>
    have ih:=M6 (n/BB) i (by simpa using hi)
    simp only [List.getElem?_cons_succ,ih,dgt,Nat.div_div_eq_div_mul,Nat.pow_succ]
    rw [Nat.mul_comm]
theorem E9 {n i:Nat} (h:n<BB^i):dgt n i=0:=by unfold dgt;rw [Nat.div_eq_of_lt h];rfl
theorem BA (n i:Nat):dgt n i<BB:=Nat.mod_lt _ C4
theorem Ts (n i:Nat):(dig n).getD i 0=dgt n i:=by
 by_cases h:i<(dig n).length
 ·simp [List.getD,M6 n i h]
 ·have:=(JO i n).1 (by omega)
  rw [E9 this];simp [List.getD,List.getElem?_eq_none (Nat.le_of_not_lt h)]
theorem AX:∀ (k n:Nat),(AJ k n).length=k
 | 0,_=>rfl
 | k+1,n=>by simp [AJ,AX k]
theorem C5:∀ (k n i:Nat),i<k->(AJ k n)[i]?=some (dgt n i)
 | 0,_,_,h=>by omega
 | k+1,n,0,_=>by simp [AJ,dgt]
 | k+1,n,i+1,h=>by
  simp only [AJ,List.getElem?_cons_succ,C5 k (n/BB) i (by omega),dgt,Nat.div_div_eq_div_mul,Nat.pow_succ]
  rw [Nat.mul_comm]
theorem Ai (k n:Nat):AJ (k+1) n=AJ k n++[dgt n k]:=by
 apply List.ext_getElem?
 intro i
 by_cases h:i<k
 ·rw [C5 _ _ _ (by omega),List.getElem?_append_left (by rw [AX];exact h),C5 _ _ _ h]
 ·by_cases h2:i=k
  ·subst h2;rw [C5 _ _ _ (by omega),List.getElem?_append_right (by rw [AX];exact Nat.le_refl _),AX];simp
  ·rw [List.getElem?_eq_none (by rw [AX];omega),List.getElem?_eq_none (by simp [AX];omega)]
theorem Tt {k n:Nat} (h:(dig n).length=k):AJ k n=dig n:=by
 apply List.ext_getElem?
 intro i
 by_cases hi:i<k
 ·rw [C5 _ _ _ hi,M6 _ _ (by omega)]
 ·rw [List.getElem?_eq_none (by rw [AX];omega),List.getElem?_eq_none (by omega)]
theorem Qs {n i k:Nat} (h:i<k):dgt (n%BB^k) i=dgt n i:=by
 unfold dgt
 have e:BB^k=BB^i*BB^(k-i):=by rw [← Nat.pow_add];congr 1;omega
 rw [e,Nat.mod_mul_right_div_self]
 have e2:BB^(k-i)=BB*BB^(k-i-1):=by rw [Nat.mul_comm,← Nat.pow_succ];congr 1;omega
 rw [e2,Nat.mod_mul_right_mod]
theorem DI:∀ (k n:Nat),AW (AJ k n)=n%BB^k
 | 0,n=>by simp [AJ,AW,Nat.mod_one]
 | k+1,n=>by
  rw [AJ,AW,DI k,Nat.pow_succ,Nat.mul_comm (BB^k),Nat.mod_mul]
theorem FA (n i:Nat):n%BB^(i+1)=n%BB^i+BB^i*dgt n i:=by
 rw [Nat.pow_succ,Nat.mod_mul];rfl
theorem BI (n i:Nat):n/BB^i=n/BB^(i+1)*BB+dgt n i:=by
 rw [Nat.pow_succ,← Nat.div_div_eq_div_mul,dgt]
 have:=Nat.div_add_mod (n/BB^i) BB
 rw [Nat.mul_comm] at this
 exact this.symm
theorem Kv:∀ (l:List Nat) (d:Nat),AW (l++[d])=AW l+BB^l.length*d
 | [],d=>by simp [AW]
 | x::r,d=>by
  simp only [List.cons_append,AW,Kv r d,List.length_cons,Nat.pow_succ,Nat.mul_add]
  rw [Nat.mul_comm (BB^r.length) BB,Nat.mul_assoc,Nat.add_assoc]
theorem OQ:∀ (l:List Nat),(∀ d ∈ l,d<BB)->AW l<BB^l.length
 | [],_=>by simp [AW]
 | d::r,h=>by
  have h1:=OQ r (λ x hx=>h x (by simp [hx]))
  have h2:=h d (by simp)
  simp only [AW,List.length_cons,Nat.pow_succ]
  have:=Nat.mul_le_mul_left BB (show AW r+1<=BB^r.length by omega)
  rw [Nat.mul_comm (BB^r.length)]
  rw [Nat.mul_add] at this
  omega
theorem Kw {N V p d:Nat} (hp:p<N) (hd:d<BB):(AJ N V).set p d=AJ N (V-dgt V p*BB^p+d*BB^p):=by
 have hle:dgt V p*BB^p<=V:=by
  unfold dgt
  have h1:=Nat.mod_le (V/BB^p) BB
  have h2:=Nat.mul_le_mul_right (BB^p) h1
  have h3:=Nat.div_mul_le_self V (BB^p)
  omega
 -- V = low + dgt * B^p + high * B^(p+1)
 have e1:=Nat.div_add_mod V (BB^p)
 have e2:=BI V p
 have eV:V=V%BB^p+(dgt V p+BB*(V/BB^(p+1)))*BB^p:=by
  rw [Nat.mul_comm _ BB,Nat.add_comm] at e2
  rw [← e2,Nat.mul_comm _ (BB^p)];omega
 have eW:V-dgt V p*BB^p+d*BB^p=V%BB^p+(d+BB*(V/BB^(p+1)))*BB^p:=by
  rw [Nat.add_mul] at eV ⊢
  omega
 rw [eW]
 apply List.ext_getElem?
 intro i
 by_cases hi:i<N
 ·rw [C5 _ _ _ hi]
  by_cases hip:i=p
  ·subst hip
   rw [List.getElem?_set_self (by rw [AX];exact hi)]
   congr 1
   unfold dgt
   rw [Nat.add_mul_div_right _ _ (BBp i),Nat.div_eq_of_lt (Nat.mod_lt _ (BBp i)),Nat.zero_add,Nat.add_mul_mod_self_left,Nat.mod_eq_of_lt hd]
  ·rw [List.getElem?_set_ne (λ e=>hip e.symm),C5 _ _ _ hi]
   congr 1
   by_cases hlt:i<p
   ·rw [← Qs (n:=V) hlt,← Qs (n:=V%BB^p+_) hlt,Nat.add_mul_mod_self_right,Nat.mod_mod]
   ·have hgt:i=(p+1)+(i-p-1):=by omega
    unfold dgt
    rw [hgt,Nat.pow_add,← Nat.div_div_eq_div_mul,← Nat.div_div_eq_div_mul]
    congr 2
    rw [Nat.pow_succ,← Nat.div_div_eq_div_mul,← Nat.div_div_eq_div_mul,Nat.add_mul_div_right _ _ (BBp p),Nat.div_eq_of_lt (Nat.mod_lt _ (BBp p)),Nat.zero_add,Nat.add_mul_div_left _ _ C4,Nat.div_eq_of_lt hd,Nat.zero_add]
 ·rw [List.getElem?_eq_none (by rw [List.length_set,AX];omega),List.getElem?_eq_none (by rw [AX];omega)]
theorem Iq (k:Nat):AJ k 0=List.replicate k 0:=by
 induction k with
 | zero=>rfl
 | succ k ih=>simp [AJ,ih,List.replicate_succ]
theorem XL {n k:Nat} (h1:n<BB^k) (h2:k=0∨BB^(k-1)<=n):(dig n).length=k:=by
 have a:=(JO k n).2 h1
 rcases h2 with h2|h2
 ·omega
 ·have:=(Qr (k-1) n).2 h2;omega
theorem Kx {n k:Nat} (h:n<BB^(k+1)) (h0:dgt n k=0):n<BB^k:=by
 have:=FA n k
 rw [Nat.mod_eq_of_lt h,h0,Nat.mul_zero,Nat.add_zero] at this
 rw [this];exact Nat.mod_lt _ (BBp k)
theorem Qt {a b k:Nat} (h:a/BB^(k+1)=b/BB^(k+1)) (hd:dgt a k=dgt b k):a/BB^k=b/BB^k:=by
 rw [BI a k,BI b k,h,hd]
theorem Gf {a b k:Nat} (h:a/BB^(k+1)=b/BB^(k+1)) (hd:dgt a k<dgt b k):a<b:=by
 have e1:=BI a k
 have e2:=BI b k
 rw [h] at e1
 have:a/BB^k<b/BB^k:=by omega
 apply Nat.lt_of_not_le
 intro hle
 exact absurd (Nat.div_le_div_right (c:=BB^k) hle) (by omega)
def Ar (a b i:Nat):Nat:=(a%BB^i+b%BB^i)/BB^i
theorem MJ (a b:Nat):Ar a b 0=0:=by simp [Ar,Nat.mod_one]
theorem Qu (a b i:Nat):(a+b)/BB^i=a/BB^i+b/BB^i+Ar a b i:=by
 have h:a+b=a%BB^i+b%BB^i+BB^i*(a/BB^i+b/BB^i):=by
  have e1:=Nat.div_add_mod a (BB^i)
  have e2:=Nat.div_add_mod b (BB^i)
  rw [Nat.mul_add];omega
 unfold Ar
 conv=>lhs;rw [h]
 rw [Nat.add_mul_div_left _ _ (BBp i)];omega
theorem Qv (a b i:Nat):(dgt a i+dgt b i+Ar a b i)%BB=dgt (a+b) i/\(dgt a i+dgt b i+Ar a b i)/BB=Ar a b (i+1):=by
 constructor
 ·unfold dgt
  rw [Qu]
  simp [Nat.add_mod,Nat.mod_mod]
 ·unfold Ar
  rw [FA,FA]
  have e:a%BB^i+BB^i*dgt a i+(b%BB^i+BB^i*dgt b i)=a%BB^i+b%BB^i+BB^i*(dgt a i+dgt b i):=by rw [Nat.mul_add];omega
  rw [e,Nat.pow_succ,← Nat.div_div_eq_div_mul,Nat.add_mul_div_left _ _ (BBp i)]
  congr 1;omega
theorem Be (a b i:Nat):Ar a b i<=1:=by
 unfold Ar
 have h1:=Nat.mod_lt a (BBp i)
 have h2:=Nat.mod_lt b (BBp i)
 have:(a%BB^i+b%BB^i)/BB^i<2:=by rw [Nat.div_lt_iff_lt_mul (BBp i)];omega
 omega
theorem OR {a b i:Nat} (h:0<Ar a b i):BB^i<=a+b:=by
 unfold Ar at h
 have h1:=Nat.mod_le a (BB^i)
 have h2:=Nat.mod_le b (BB^i)
 apply Nat.le_of_not_lt
 intro hlt
 rw [Nat.div_eq_of_lt (by omega)] at h;omega
theorem Tu {a b i:Nat} (ha:a<BB^i) (hb:b<BB^i) (h:Ar a b i=0):a+b<BB^i:=by
 unfold Ar at h
 rw [Nat.mod_eq_of_lt ha,Nat.mod_eq_of_lt hb] at h
 rcases (Nat.div_eq_zero_iff).1 h with h|h
 ·have:=BBp i;omega
 ·exact h
def brw (a b i:Nat):Nat:=if a%BB^i<b%BB^i then 1 else 0
theorem OS (a b:Nat):brw a b 0=0:=by simp [brw,Nat.mod_one]
theorem M7 (a b i:Nat):brw a b i<=1:=by unfold brw;split <;> omega
theorem Qw {a b:Nat} (h:b<=a) (i:Nat):a/BB^i=b/BB^i+brw a b i+(a-b)/BB^i:=by
 obtain ⟨c,rfl⟩:∃ c,a=b+c:=⟨a-b,by omega⟩
 rw [Nat.add_sub_cancel_left,Qu]
 have:Ar b c i=brw (b+c) b i:=by
  unfold Ar brw
  have h1:=Nat.mod_lt b (BBp i)
  have h2:=Nat.mod_lt c (BBp i)
  have e:=Nat.add_mod b c (BB^i)
  rw [e]
  generalize b%BB^i=B' at *
  generalize c%BB^i=C' at *
  generalize BB^i=P at *
  by_cases hlt:B' + C' < P
  ·rw [Nat.div_eq_of_lt hlt,Nat.mod_eq_of_lt hlt,if_neg (by omega)]
  ·have e2:(B' + C')%P=B' + C' - P:=by
    rw [Nat.mod_eq_sub_mod (by omega),Nat.mod_eq_of_lt (by omega)]
   rw [e2,if_pos (show B' + C' - P<B' by omega)]
   apply Nat.le_antisymm
   ·have:(B' + C')/P<2:=by rw [Nat.div_lt_iff_lt_mul (by omega)];omega
    omega
   ·rw [Nat.le_div_iff_mul_le (by omega)];omega
 omega
theorem Qx {a b:Nat} (h:b<=a) (i:Nat) :
  (((dgt a i:Int)-dgt b i-brw a b i<0->(dgt a i:Int)-dgt b i-brw a b i+1000000000=dgt (a-b) i/\brw a b (i+1)=1)) /\
  (((0:Int)<=dgt a i-dgt b i-brw a b i->(dgt a i:Int)-dgt b i-brw a b i=dgt (a-b) i/\brw a b (i+1)=0)):=by
 have e:=Qw h i
 have e1:=BI a i
 have e2:=BI b i
 have e3:=BI (a-b) i
 have e4:=Qw h (i+1)
 have d1:=BA a i
 have d2:=BA b i
 have d3:=BA (a-b) i
 have hb:=M7 a b i
 have hb':=M7 a b (i+1)
 rw [e1,e2,e3] at e
 rw [e4] at e
 rw [Nat.add_mul,Nat.add_mul] at e
 unfold BB at *
 constructor <;> intro hn <;> constructor <;> omega
theorem M8 {A x b V c i k:Nat} (h:V+c*BB^(i+k)=A*b+x*BB^i*(b%BB^k)) :
  V-dgt V (i+k)*BB^(i+k)+(dgt V (i+k)+x*dgt b k+c)%BB*BB^(i+k)+(dgt V (i+k)+x*dgt b k+c)/BB*BB^(i+(k+1))=A*b+x*BB^i*(b%BB^(k+1)):=by
 have hle:dgt V (i+k)*BB^(i+k)<=V:=by
  unfold dgt
  have h1:=Nat.mod_le (V/BB^(i+k)) BB
  have h2:=Nat.mul_le_mul_right (BB^(i+k)) h1
  have h3:=Nat.div_mul_le_self V (BB^(i+k))
  omega
 have e1:=Nat.div_add_mod (dgt V (i+k)+x*dgt b k+c) BB
 have e2:(dgt V (i+k)+x*dgt b k+c)%BB*BB^(i+k)+(dgt V (i+k)+x*dgt b k+c)/BB*BB^(i+(k+1))=(dgt V (i+k)+x*dgt b k+c)*BB^(i+k):=by
  conv=>rhs;rw [← e1]
  rw [show i+(k+1)=(i+k)+1 from rfl,Nat.pow_succ,Nat.add_mul]
  rw [Nat.mul_comm (BB^(i+k)) BB,← Nat.mul_assoc,Nat.mul_comm BB,Nat.add_comm]
 rw [Nat.add_assoc,e2,FA,Nat.mul_add,← Nat.add_assoc,← h,Nat.add_mul,Nat.add_mul]
 have e3:x*BB^i*(BB^k*dgt b k)=x*dgt b k*BB^(i+k):=by
  rw [Nat.pow_add]
  simp only [Nat.mul_assoc,Nat.mul_comm,Nat.mul_left_comm]
 rw [e3];omega
theorem Px {a b i:Nat} : a%BB^i*b+dgt a i*BB^i*b=a%BB^(i+1)*b:=by
 rw [FA,Nat.add_mul,Nat.mul_comm (dgt a i)]
theorem M9 (a n i:Nat) (hn:0<n):((a/BB^(i+1))%n*BB+dgt a i)/n=dgt (a/n) i/\((a/BB^(i+1))%n*BB+dgt a i)%n=(a/BB^i)%n:=by
 have e:=BI a i
 have e1:=Nat.div_add_mod (a/BB^(i+1)) n
 have hr:=Nat.mod_lt (a/BB^(i+1)) hn
 have hd:=BA a i
 have key:a/BB^i=((a/BB^(i+1))%n*BB+dgt a i)+n*(a/BB^(i+1)/n*BB):=by
  conv=>lhs;rw [e,← e1]
  rw [Nat.add_mul,Nat.mul_assoc];omega
 constructor
 ·have hq:((a/BB^(i+1))%n*BB+dgt a i)/n<BB:=by
   rw [Nat.div_lt_iff_lt_mul hn]
   have:=Nat.mul_le_mul_right BB (show (a/BB^(i+1))%n+1<=n by omega)
   rw [Nat.add_mul] at this
   rw [Nat.mul_comm BB n];omega
  unfold dgt
  have e5:a/n/BB^i=a/BB^i/n:=by rw [Nat.div_div_eq_div_mul,Nat.mul_comm n,← Nat.div_div_eq_div_mul]
  have e6:∀ X Y:Nat,X<BB->X=(X+Y*BB)%BB:=λ X Y h=>by rw [Nat.add_mul_mod_self_right,Nat.mod_eq_of_lt h]
  rw [e5]
  conv=>rhs;rw [key]
  rw [Nat.add_mul_div_left _ _ hn]
  exact e6 _ _ hq
 ·rw [key,Nat.add_mul_mod_self_left]
theorem NA {a k:Nat} (n:Nat) (h:a<BB^k):a/BB^k%n=0:=by rw [Nat.div_eq_of_lt h];exact Nat.zero_mod n
def hi (q i:Nat):Nat:=q/BB^i*BB^i
theorem WV {q k:Nat} (h:q<BB^k):hi q k=0:=by unfold hi;rw [Nat.div_eq_of_lt h];simp
theorem NB (q:Nat):hi q 0=q:=by simp [hi]
theorem WW (q i:Nat):dgt (hi q (i+1)) i=0:=by
 unfold dgt hi
 rw [Nat.pow_succ,Nat.mul_comm (BB^i) BB,← Nat.mul_assoc,Nat.mul_div_cancel _ (BBp i),Nat.mul_mod_left]
theorem Qy (q i:Nat):hi q i=hi q (i+1)+dgt q i*BB^i:=by
 unfold hi
 conv=>lhs;rw [BI q i]
 rw [Nat.add_mul,Nat.pow_succ,Nat.mul_comm (BB^i) BB,Nat.mul_assoc]
theorem VD {N q i d:Nat} (hi' : i<N) (hd:d=dgt q i):(AJ N (hi q (i+1))).set i d=AJ N (hi q i):=by
 subst hd
 rw [Kw hi' (BA q i),WW,Nat.zero_mul,Nat.sub_zero,← Qy]
theorem EG (d n:Nat):AW (d::dig n)=d+BB*n:=by rw [AW,E8]
theorem NC (k:Nat):List.replicate k 0=AJ k 0:=(Iq k).symm
def rn (r:List Dat):Int:=(r.getD 0 (.int 0)).n
def AC (l:List Nat):List (List Dat):=l.map λ (d:Nat)=>[Dat.int (d:Int)]
def L (n:Nat):List (List Dat):=AC (dig n)
def nl (n:Nat):Nat:=(dig n).length
theorem Ax (l:List Nat):(AC l).length=l.length:=by simp [AC]
theorem AO (n:Nat):(L n).length=nl n:=Ax _
theorem DJ:L 0=[]:=by unfold L;rw [Bd];rfl
theorem B7:nl 0=0:=by unfold nl;rw [Bd];rfl
theorem GH {n:Nat} (h:n≠0):0<nl n:=by unfold nl;rw [B6 h];simp
theorem CK {n:Nat} : nl n=0↔n=0:=⟨λ h=>by rcases Nat.eq_zero_or_pos n with h' | h';exact h';have:=GH (n:=n) (by omega);omega,λ h=>by subst h;exact B7⟩
theorem C6 (k n:Nat):nl n<=k↔n<BB^k:=JO k n
theorem Tv (i n:Nat):i<nl n↔BB^i<=n:=Qr i n
theorem CY (n:Nat):n<BB^nl n:=(JO _ _).1 (Nat.le_refl _)
theorem CS {a b:Nat} (h:a<=b):nl a<=nl b:=(JO _ _).2 (Nat.lt_of_le_of_lt h (CY b))
theorem BQ (a b:Nat):nl (a*b)<=nl a+nl b:=by
 refine (JO _ _).2 ?_
 rw [Nat.pow_add]
 have h1:=CY a
 have h2:=CY b
 exact Nat.mul_lt_mul'' h1 h2
theorem Ir (a b:Nat):nl (a+b)<=max (nl a) (nl b)+1:=by
 refine (JO _ _).2 ?_
 have h1:=CY a
 have h2:=CY b
 have m1:BB^nl a<=BB^max (nl a) (nl b):=Nat.pow_le_pow_right C4 (by omega)
 have m2:BB^nl b<=BB^max (nl a) (nl b):=Nat.pow_le_pow_right C4 (by omega)
 rw [Nat.pow_succ]
 have:BB^max (nl a) (nl b)*2<=BB^max (nl a) (nl b)*BB:=Nat.mul_le_mul_left _ (by decide)
 omega
theorem Tw {n:Nat} (h:n≠0) (h2:n<BB):nl n=1:=by
 have:=GH h
 have:=(JO 1 n).2 (by simpa using h2)
 unfold nl at *;omega
theorem Py (x:Int):rn [Dat.int x]=x:=rfl
theorem Is (l:List Nat) (i:Nat):(((AC l).getD i []).getD 0 (.int 0))=.int ((l.getD i 0:Nat):Int):=by
 unfold AC
 simp only [List.getD,List.getElem?_map]
 cases l[i]? <;> rfl
theorem WA (n i:Nat):(((L n).getD i []).getD 0 (.int 0))=.int ((dgt n i:Nat):Int):=by
 unfold L;rw [Is,Ts]
theorem Tx (l:List Nat) (i:Nat):rn ((AC l).getD i [])=((l.getD i 0:Nat):Int):=by
 unfold rn;rw [Is];rfl
theorem Ky {l:List Nat} {i:Nat} (h:i<l.length):(AC l).getD i []=[Dat.int ((l.getD i 0:Nat):Int)]:=by
 unfold AC;simp [List.getD,h]
theorem It {l:List Nat} {i:Nat} (h:i<l.length) (x:Nat):(AC l).set i (((AC l).getD i []).set 0 (Dat.int (x:Int)))=AC (l.set i x):=by
 rw [Ky h]
 unfold AC
 rw [List.map_set];rfl
theorem Aa (l:List Nat) (x:Nat):AC l++[[Dat.int (x:Int)]]=AC (l++[x]):=by simp [AC]
theorem Pz (l:List Nat) (k:Nat):(AC l).take k=AC (l.take k):=by simp [AC,List.map_take]
theorem Dn (k:Nat):List.replicate k [Dat.int 0]=AC (List.replicate k 0):=by simp [AC,List.map_replicate]
theorem EX (k n:Nat):∀ d ∈ AJ k n,d<BB:=by
 intro d hd
 obtain ⟨i,hi,rfl⟩:=List.getElem_of_mem hd
 have:=C5 k n i (by rw [AX] at hi;exact hi)
 rw [List.getElem?_eq_getElem hi] at this
 rw [Option.some.inj this];exact BA n i
theorem R3 {k n i:Nat} (h:i<k):(AJ k n).getD i 0=dgt n i:=by simp [List.getD,C5 k n i h]
def inB (n:Int):Bool:=decide (0<=n) && decide (n<=999999999)
def Au (l:List (List Dat)):Bool:=decide (l.length<=60) && l.all (λ r=>inB (rn r)) && (decide (l.length=0) || !decide (rn (l.getD (l.length-1) [])=0))
theorem JP {n:Nat} (h:n≠0):dgt n (nl n-1)≠0:=by
 intro h0
 have hp:=GH h
 have h1:=CY n
 have:nl n=nl n-1+1:=by omega
 rw [this] at h1
 have:=Kx h1 h0
 have:=(C6 _ _).2 this
 omega
theorem Kz (n:Nat):Au (L n)=decide (nl n<=60):=by
 have h1:(L n).all (λ r=>inB (rn r))=true:=by
  refine List.all_eq_true.2 λ r hr=>?_
  obtain ⟨d,hd,rfl⟩:=List.mem_map.1 hr
  have:=Ku n d hd
  unfold BB at this
  simp only [Py,inB,Bool.and_eq_true];exact ⟨decide_eq_true (by omega),decide_eq_true (by omega)⟩
 have h2:(decide ((L n).length=0) || !decide (rn ((L n).getD ((L n).length-1) [])=0))=true:=by
  rw [AO]
  by_cases h:n=0
  ·subst h;simp [B7]
  ·have e:rn ((L n).getD (nl n-1) [])=(dgt n (nl n-1):Int):=by unfold rn;rw [WA];rfl
   rw [e]
   have:=JP h
   simp;right;omega
 unfold Au
 rw [h1,h2,AO];simp
theorem DK {e:Nat} {l:List (List Dat)} (hs:Dat.has (.sl e [.int]) (.sl l)) (h:Au l=true):∃ n,l=L n/\nl n<=60:=by
 simp only [Au,Bool.and_eq_true,decide_eq_true_eq] at h
 obtain ⟨⟨h1,h2⟩,h3⟩:=h
 have hrow:∀ r ∈ l,∃ d:Nat,r=[Dat.int (d:Int)]/\d<BB:=by
  intro r hr
  obtain ⟨i,hi,rfl⟩:=List.getElem_of_mem hr
  simp only [Dat.has] at hs
  have hh:=hs.2 i hi
  have eg:l.getD i []=l[i]:=by simp [List.getD,hi]
  rw [eg] at hh
  match hq:l[i],hh with
  | [.int n],_=>
   have hb:=List.all_eq_true.1 h2 _ hr
   rw [hq] at hb
   simp only [Py,inB,Bool.and_eq_true] at hb
   have hb:0<=n/\n<=999999999:=⟨of_decide_eq_true hb.1,of_decide_eq_true hb.2⟩
   exact ⟨n.toNat,by rw [Int.toNat_of_nonneg hb.1],by unfold BB;omega⟩
 obtain ⟨ds,rfl,hds⟩:∃ ds:List Nat,l=AC ds/\∀ d ∈ ds,d<BB:=by
  clear hs h1 h2 h3
  induction l with
  | nil=>exact ⟨[],rfl,by simp⟩
  | cons r l ih=>
   obtain ⟨ds,rfl,hd⟩:=ih λ x hx=>hrow x (by simp [hx])
   obtain ⟨d,rfl,hd1⟩:=hrow r (by simp)
   exact ⟨d::ds,rfl,λ x hx=>by rcases List.mem_cons.1 hx with rfl|hx;exact hd1;exact hd x hx⟩
 refine ⟨AW ds,?_,?_⟩
 ·unfold L
  rw [Ip ds hds]
  intro hne h0
  rw [Ax,Tx] at h3
  have hlen:0<ds.length:=List.length_pos_iff.2 hne
  rw [List.getLast_eq_getElem] at h0
  simp [List.getD,show ds.length-1<ds.length by omega,h0] at h3
  exact hne h3
 ·rw [Ax] at h1
  refine (C6 _ _).2 (Nat.lt_of_lt_of_le (OQ ds hds) (Nat.pow_le_pow_right C4 h1))
def CC (a b:Nat):Int:=if a<b then -1 else if a=b then 0 else 1
def Ca (a b:Int):Int:=if a<b then -1 else if a=b then 0 else 1
theorem Jx {a b:Nat} (h:a<b):CC a b=-1:=by unfold CC;rw [if_pos h]
theorem Jy {a b:Nat} (h:b<a):CC a b=1:=by unfold CC;rw [if_neg (by omega),if_neg (by omega)]
theorem Qz (a:Nat):CC a a=0:=by unfold CC;simp
theorem Hu {a b:Nat} (h:nl a<nl b):a<b:=by
 apply Nat.lt_of_not_le
 intro hle;have:=CS hle;omega
theorem Hv (l:List Nat) (i:Nat):(((AC l).getD i []).getD 0 (.int 0)).n=((l.getD i 0:Nat):Int):=by rw [Is];rfl
theorem L_n (n i:Nat):(((L n).getD i []).getD 0 (.int 0)).n=(dgt n i:Int):=by rw [WA];rfl
theorem ND {k n i:Nat} (h:i<k):(((AC (AJ k n)).getD i []).getD 0 (.int 0)).n=(dgt n i:Int):=by rw [Hv,R3 h]
theorem Tz (a b:Nat):Int.tdiv (a:Int) (b:Int)=((a/b:Nat):Int):=rfl
theorem T4 (a b:Nat):Int.tmod (a:Int) (b:Int)=((a%b:Nat):Int):=rfl
theorem Cy (a:Nat):Int.tdiv (a:Int) (1000000000:Int)=((a/BB:Nat):Int):=rfl
theorem DF (a:Nat):Int.tmod (a:Int) (1000000000:Int)=((a%BB:Nat):Int):=rfl
theorem BN {a:Nat} (h:a<=9223372036854775807):IntKind.i64.wrap (a:Int)=(a:Int):=AB (by omega) (by omega)
theorem JQ (n i:Nat):(0:Int)<=(dgt n i:Int)/\(dgt n i:Int)<1000000000:=by
 have:=BA n i
 unfold BB at this;omega
def Jl (p:List Dat->Bool) (l:List (List Dat)):Int:=match l.findIdx? p with|some k=>(k:Int)|none=>-1
theorem Q0 {p:List Dat->Bool} {l:List (List Dat)} {k:Nat} (hk:k<l.length) (h:∀ j,j<k->p (l.getD j [])=false) (hp:p (l.getD k [])=true):Jl p l=(k:Int):=by
 have:l.findIdx? p=some k:=by
  rw [List.findIdx?_eq_some_iff_getElem]
  refine ⟨hk,?_,λ j hj=>?_⟩
  ·simpa [List.getD,hk] using hp
  ·have:=h j hj
   simpa [List.getD,show j<l.length by omega] using this
 unfold Jl;rw [this]
theorem MK {p:List Dat->Bool} {l:List (List Dat)} (h:∀ j,j<l.length->p (l.getD j [])=false):Jl p l=-1:=by
 have:l.findIdx? p=none:=by
  rw [List.findIdx?_eq_none_iff]
  intro x hx
  obtain ⟨j,hj,rfl⟩:=List.getElem_of_mem hx
  have:=h j hj
  simpa [List.getD,hj] using this
 unfold Jl;rw [this]
theorem OT (p:List Dat->Bool) (l:List (List Dat)):decide (Jl p l≥0)=l.any p:=by
 unfold Jl
 cases h:l.findIdx? p with
 | none=>
  rw [List.findIdx?_eq_none_iff] at h
  have:l.any p=false:=by
   rw [List.any_eq_false];intro x hx;rw [h x hx];simp
  rw [this];rfl
 | some k=>
  rw [List.findIdx?_eq_some_iff_getElem] at h
  obtain ⟨hk,hp,_⟩:=h
  have:l.any p=true:=List.any_eq_true.2 ⟨_,List.getElem_mem hk,hp⟩
  rw [this]
  exact decide_eq_true (show (0:Int)<=(k:Int) by omega)
theorem Jz {P:Nat->Prop} {k:Nat} (h:∀ j,j<k->P j) (hk:P k):∀ j,j<k+1->P j:=λ j hj=>by
 rcases Nat.lt_succ_iff_lt_or_eq.1 hj with hj|rfl
 ·exact h j hj
 ·exact hk
theorem ML {l:List Nat} {k:Nat} (hk:k≠0) (hl:k<=l.length):l.take k=l.take (k-1)++[l.getD (k-1) 0]:=by
 have:k=(k-1)+1:=by omega
 conv=>lhs;rw [this]
 rw [List.take_add_one]
 simp [List.getD,show k-1<l.length by omega]
theorem MM {l:List Nat} {k:Nat} (hk:k≠0) (hl:k<=l.length) (h0:l.getD (k-1) 0=0):AW (l.take (k-1))=AW (l.take k):=by
 rw [ML hk hl,h0,Kv];simp
theorem Hw {l:List Nat} {k:Nat} (hd:∀ d ∈ l,d<BB) (hl:k<=l.length) (h:AW (l.take k)=AW l) (h0:k=0∨l.getD (k-1) 0≠0):(AC l).take k=L (AW l):=by
 rw [Pz,← h]
 unfold L
 rw [Ip _ (λ d hd'=>hd d (List.mem_of_mem_take hd'))]
 intro hne
 have hk:k≠0:=by rintro rfl;simp at hne
 have h1:=h0.resolve_left hk
 have e:l.take k=l.take (k-1)++[l.getD (k-1) 0]:=ML hk hl
 have e2:∀ (m:List Nat) (x:Nat) (h:m++[x]≠[]),(m++[x]).getLast h=x:=λ m x h=>by simp
 have e3:∀ (m:List Nat) (hm:m≠[]),m=l.take (k-1)++[l.getD (k-1) 0]->m.getLast hm≠0:=λ m hm he=>by subst he;rw [e2];exact h1
 exact e3 _ hne e
theorem OU {o:List Nat} {n:Nat} (h:o=dig n):AC o=L n:=by subst h;rfl
end Go.Proofs.YtndnhlhnjiopfaaGreat
