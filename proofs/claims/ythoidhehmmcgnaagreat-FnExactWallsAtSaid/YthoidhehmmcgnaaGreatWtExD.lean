import Derived.Test.YthoidhehmmcgnaaGreatWtExC
import Derived.Deep.Slices
import Derived.OpenShut
namespace Go.Proofs.YthoidhehmmcgnaaGreat
set_option linter.unusedVariables false
set_option linter.unusedSimpArgs false
def BB:Nat:=1000000000
def dig(n:Nat):List Nat:=if h:n=0 then[]else n%BB::dig (n/BB)
termination_by n
decreasing_by exact Nat.div_lt_self (Nat.pos_of_ne_zero h) (by decide)
def AS:Nat->Nat->List Nat
 | 0,_=>[]|k+1,n=>n%BB::AS k (n/BB)
def Ah:List Nat->Nat
 | []=>0|d::r=>d+BB*Ah r
def dgt(n i:Nat):Nat:=n/BB^i%BB
theorem Dg:0<BB:=by decide
theorem BBp(i:Nat):0<BB^i:=Nat.pow_pos Dg
theorem Bv:dig 0=[]:=by rw[dig];simp
theorem CO{n:Nat}(h:n≠0):dig n=n%BB::dig (n/BB):=by rw[dig];simp[h]
theorem Mj:∀(n:Nat),∀d ∈ dig n,d<BB:=by
 intro n;induction n using Nat.strongRecOn with|_ n ih=>intro d hd;by_cases h:n=0;subst h;rw[Bv]at hd;simp at hd;rw[CO h]at hd;rcases List.mem_cons.1 hd with rfl|hd;exact Nat.mod_lt _ Dg;exact ih _ (Nat.div_lt_self (Nat.pos_of_ne_zero h) (by decide)) d hd
theorem Fz:∀(n:Nat),Ah (dig n)=n:=by
 intro n;induction n using Nat.strongRecOn with|_ n ih=>by_cases h:n=0;subst h;rw[Bv];rfl;rw[CO h,Ah,ih _ (Nat.div_lt_self (Nat.pos_of_ne_zero h) (by decide))];exact Nat.mod_add_div n BB
theorem KE{d:Nat}{r:List Nat}(hd:d<BB):dig (d+BB*Ah r)=if d=0/\Ah r=0 then[]else d::dig (Ah r):=by
 have hm:(d+BB*Ah r)%BB=d:=by rw[Nat.add_mul_mod_self_left,Nat.mod_eq_of_lt hd]
 have hq:(d+BB*Ah r)/BB=Ah r:=by rw[Nat.add_mul_div_left _ _ Dg,Nat.div_eq_of_lt hd,Nat.zero_add]
 split;rename_i h;rw[h.1,h.2];simp[Bv];rename_i h
 have:d+BB*Ah r≠0:=λe=>h ⟨by omega,by
  have:BB*Ah r=0:=by omega
  rcases Nat.mul_eq_zero.1 this with h|h;simp[BB]at h;exact h⟩
 rw[CO this,hm,hq]
theorem KF:∀(l:List Nat),(∀d ∈ l,d<BB)->(∀h:l≠[],l.getLast h≠0)->dig (Ah l)=l
 | [],_,_=>Bv|d::r,hd,hl=>by rw[Ah,KE (hd d (by simp))];have ih:=KF r (λx hx=>hd x (by simp[hx])) (λh=>by have:=hl (by simp);rwa [List.getLast_cons h]at this);split;rename_i h;obtain⟨rfl,h2⟩:=h;rw[h2,Bv]at ih;subst ih;exact absurd rfl (hl (by simp));rw[ih]
theorem UN:∀(i n:Nat),i<(dig n).length<->BB^i<=n
 |i,n=>by
  by_cases h:n=0;subst h;rw[Bv];have:=BBp i;exact⟨λh=>absurd h (by simp),λh=>by omega⟩;rw[CO h];cases i with|zero=>simp;omega|succ i=>have ih:=UN i (n/BB);simp only[List.length_cons,Nat.add_lt_add_iff_right,ih];rw[Nat.le_div_iff_mul_le Dg,Nat.pow_succ]
theorem LA(k n:Nat):(dig n).length<=k<->n<BB^k:=by have:=UN k n;omega
theorem PJ:∀(n i:Nat),i<(dig n).length->(dig n)[i]?=some (dgt n i)
 |n,i,hi=>by
  by_cases h:n=0;subst h;rw[Bv]at hi;simp at hi;rw[CO h]at hi ⊢;cases i with|zero=>simp[dgt]|succ i=>have ih:=PJ (n/BB) i (by simpa using hi);simp only[List.getElem?_cons_succ,ih,dgt,Nat.div_div_eq_div_mul,Nat.pow_succ];rw[Nat.mul_comm]
theorem F1{n i:Nat}(h:n<BB^i):dgt n i=0:=by unfold dgt;rw[Nat.div_eq_of_lt h];rfl
theorem Bb(n i:Nat):dgt n i<BB:=Nat.mod_lt _ Dg
theorem Xd(n i:Nat):(dig n).getD i 0=dgt n i:=by by_cases h:i<(dig n).length;simp[List.getD,PJ n i h];have:=(LA i n).1 (by omega);rw[F1 this];simp[List.getD,List.getElem?_eq_none (Nat.le_of_not_lt h)]
theorem Ai:∀(k n:Nat),(AS k n).length=k
 | 0,_=>rfl|k+1,n=>by simp[AS,Ai k]
theorem Dh:∀(k n i:Nat),i<k->(AS k n)[i]?=some (dgt n i)
 | 0,_,_,h=>by omega|k+1,n,0,_=>by simp[AS,dgt]|k+1,n,i+1,h=>by simp only[AS,List.getElem?_cons_succ,Dh k (n/BB) i (by omega),dgt,Nat.div_div_eq_div_mul,Nat.pow_succ];rw[Nat.mul_comm]
theorem At(k n:Nat):AS (k+1) n=AS k n++[dgt n k]:=by apply List.ext_getElem?;intro i;by_cases h:i<k;rw[Dh _ _ _ (by omega),List.getElem?_append_left (by rw[Ai];exact h),Dh _ _ _ h];by_cases h2:i=k;subst h2;rw[Dh _ _ _ (by omega),List.getElem?_append_right (by rw[Ai];exact Nat.le_refl _),Ai];simp;rw[List.getElem?_eq_none (by rw[Ai];omega),List.getElem?_eq_none (by simp[Ai];omega)]
theorem Xe{k n:Nat}(h:(dig n).length=k):AS k n=dig n:=by apply List.ext_getElem?;intro i;by_cases hi:i<k;rw[Dh _ _ _ hi,PJ _ _ (by omega)];rw[List.getElem?_eq_none (by rw[Ai];omega),List.getElem?_eq_none (by omega)]
theorem UO{n i k:Nat}(h:i<k):dgt (n%BB^k) i=dgt n i:=by
 unfold dgt;have e:BB^k=BB^i*BB^(k-i):=by rw[← Nat.pow_add];congr 1;omega
 rw[e,Nat.mod_mul_right_div_self];have e2:BB^(k-i)=BB*BB^(k-i-1):=by rw[Nat.mul_comm,← Nat.pow_succ];congr 1;omega
 rw[e2,Nat.mod_mul_right_mod]
theorem Ci:∀(k n:Nat),Ah (AS k n)=n%BB^k
 | 0,n=>by simp[AS,Ah,Nat.mod_one]|k+1,n=>by rw[AS,Ah,Ci k,Nat.pow_succ,Nat.mul_comm (BB^k),Nat.mod_mul]
theorem F3(n i:Nat):n%BB^(i+1)=n%BB^i+BB^i*dgt n i:=by rw[Nat.pow_succ,Nat.mod_mul];rfl
theorem Bf(n i:Nat):n/BB^i=n/BB^(i+1)*BB+dgt n i:=by rw[Nat.pow_succ,← Nat.div_div_eq_div_mul,dgt];have:=Nat.div_add_mod (n/BB^i) BB;rw[Nat.mul_comm]at this;exact this.symm
theorem Mk:∀(l:List Nat)(d:Nat),Ah (l++[d])=Ah l+BB^l.length*d
 | [],d=>by simp[Ah]|x::r,d=>by simp only[List.cons_append,Ah,Mk r d,List.length_cons,Nat.pow_succ,Nat.mul_add];rw[Nat.mul_comm (BB^r.length) BB,Nat.mul_assoc,Nat.add_assoc]
theorem Q4:∀(l:List Nat),(∀d ∈ l,d<BB)->Ah l<BB^l.length
 | [],_=>by simp[Ah]|d::r,h=>by have h1:=Q4 r (λx hx=>h x (by simp[hx]));have h2:=h d (by simp);simp only[Ah,List.length_cons,Nat.pow_succ];have:=Nat.mul_le_mul_left BB (show Ah r+1<=BB^r.length by omega);rw[Nat.mul_comm (BB^r.length)];rw[Nat.mul_add]at this;omega
theorem Ml{N V p d:Nat}(hp:p<N)(hd:d<BB):(AS N V).set p d=AS N (V-dgt V p*BB^p+d*BB^p):=by
 have hle:dgt V p*BB^p<=V:=by unfold dgt;have h1:=Nat.mod_le (V/BB^p) BB;have h2:=Nat.mul_le_mul_right (BB^p) h1;have h3:=Nat.div_mul_le_self V (BB^p);omega
 have e1:=Nat.div_add_mod V (BB^p);have e2:=Bf V p;have eV:V=V%BB^p+(dgt V p+BB*(V/BB^(p+1)))*BB^p:=by rw[Nat.mul_comm _ BB,Nat.add_comm]at e2;rw[← e2,Nat.mul_comm _ (BB^p)];omega
 have eW:V-dgt V p*BB^p+d*BB^p=V%BB^p+(d+BB*(V/BB^(p+1)))*BB^p:=by rw[Nat.add_mul]at eV ⊢;omega
 rw[eW];apply List.ext_getElem?;intro i;by_cases hi:i<N;rw[Dh _ _ _ hi];by_cases a0:i=p;subst a0;rw[List.getElem?_set_self (by rw[Ai];exact hi)];congr 1;unfold dgt;rw[Nat.add_mul_div_right _ _ (BBp i),Nat.div_eq_of_lt (Nat.mod_lt _ (BBp i)),Nat.zero_add,Nat.add_mul_mod_self_left,Nat.mod_eq_of_lt hd];rw[List.getElem?_set_ne (λe=>a0 e.symm),Dh _ _ _ hi];congr 1;by_cases a1:i<p;rw[← UO (n:=V) a1,← UO (n:=V%BB^p+_) a1,Nat.add_mul_mod_self_right,Nat.mod_mod];have hgt:i=(p+1)+(i-p-1):=by omega
 unfold dgt;rw[hgt,Nat.pow_add,← Nat.div_div_eq_div_mul,← Nat.div_div_eq_div_mul];congr 2;rw[Nat.pow_succ,← Nat.div_div_eq_div_mul,← Nat.div_div_eq_div_mul,Nat.add_mul_div_right _ _ (BBp p),Nat.div_eq_of_lt (Nat.mod_lt _ (BBp p)),Nat.zero_add,Nat.add_mul_div_left _ _ Dg,Nat.div_eq_of_lt hd,Nat.zero_add];rw[List.getElem?_eq_none (by rw[List.length_set,Ai];omega),List.getElem?_eq_none (by rw[Ai];omega)]
theorem KG(k:Nat):AS k 0=List.replicate k 0:=by
 induction k with|zero=>rfl|succ k ih=>simp[AS,ih,List.replicate_succ]
theorem ABo{n k:Nat}(h1:n<BB^k)(h2:k=0\/BB^(k-1)<=n):(dig n).length=k:=by have a:=(LA k n).2 h1;rcases h2 with h2|h2;omega;have:=(UN (k-1) n).2 h2;omega
theorem Mm{n k:Nat}(h:n<BB^(k+1))(h0:dgt n k=0):n<BB^k:=by have:=F3 n k;rw[Nat.mod_eq_of_lt h,h0,Nat.mul_zero,Nat.add_zero]at this;rw[this];exact Nat.mod_lt _ (BBp k)
theorem UP{a b k:Nat}(h:a/BB^(k+1)=b/BB^(k+1))(hd:dgt a k=dgt b k):a/BB^k=b/BB^k:=by rw[Bf a k,Bf b k,h,hd]
theorem ID{a b k:Nat}(h:a/BB^(k+1)=b/BB^(k+1))(hd:dgt a k<dgt b k):a<b:=by
 have e1:=Bf a k;have e2:=Bf b k;rw[h]at e1;have:a/BB^k<b/BB^k:=by omega
 apply Nat.lt_of_not_le;intro a0;exact absurd (Nat.div_le_div_right (c:=BB^k) a0) (by omega)
def BC(a b i:Nat):Nat:=(a%BB^i+b%BB^i)/BB^i
theorem OI(a b:Nat):BC a b 0=0:=by simp[BC,Nat.mod_one]
theorem UQ(a b i:Nat):(a+b)/BB^i=a/BB^i+b/BB^i+BC a b i:=by
 have h:a+b=a%BB^i+b%BB^i+BB^i*(a/BB^i+b/BB^i):=by have e1:=Nat.div_add_mod a (BB^i);have e2:=Nat.div_add_mod b (BB^i);rw[Nat.mul_add];omega
 unfold BC;conv=>lhs;rw[h]
 rw[Nat.add_mul_div_left _ _ (BBp i)];omega
theorem UR(a b i:Nat):(dgt a i+dgt b i+BC a b i)%BB=dgt (a+b) i/\(dgt a i+dgt b i+BC a b i)/BB=BC a b (i+1):=by
 constructor;unfold dgt;rw[UQ];simp[Nat.add_mod,Nat.mod_mod];unfold BC;rw[F3,F3];have e:a%BB^i+BB^i*dgt a i+(b%BB^i+BB^i*dgt b i)=a%BB^i+b%BB^i+BB^i*(dgt a i+dgt b i):=by rw[Nat.mul_add];omega
 rw[e,Nat.pow_succ,← Nat.div_div_eq_div_mul,Nat.add_mul_div_left _ _ (BBp i)];congr 1;omega
theorem Bw(a b i:Nat):BC a b i<=1:=by
 unfold BC;have h1:=Nat.mod_lt a (BBp i);have h2:=Nat.mod_lt b (BBp i);have:(a%BB^i+b%BB^i)/BB^i<2:=by rw[Nat.div_lt_iff_lt_mul (BBp i)];omega
 omega
theorem Q5{a b i:Nat}(h:0<BC a b i):BB^i<=a+b:=by unfold BC at h;have h1:=Nat.mod_le a (BB^i);have h2:=Nat.mod_le b (BB^i);apply Nat.le_of_not_lt;intro hlt;rw[Nat.div_eq_of_lt (by omega)]at h;omega
theorem Xf{a b i:Nat}(ha:a<BB^i)(hb:b<BB^i)(h:BC a b i=0):a+b<BB^i:=by unfold BC at h;rw[Nat.mod_eq_of_lt ha,Nat.mod_eq_of_lt hb]at h;rcases(Nat.div_eq_zero_iff).1 h with h|h;have:=BBp i;omega;exact h
def brw(a b i:Nat):Nat:=if a%BB^i<b%BB^i then 1 else 0
theorem Q6(a b:Nat):brw a b 0=0:=by simp[brw,Nat.mod_one]
theorem PK(a b i:Nat):brw a b i<=1:=by unfold brw;split <;> omega
theorem US{a b:Nat}(h:b<=a)(i:Nat):a/BB^i=b/BB^i+brw a b i+(a-b)/BB^i:=by
 obtain⟨c,rfl⟩:∃c,a=b+c:=⟨a-b,by omega⟩;rw[Nat.add_sub_cancel_left,UQ]
 have:BC b c i=brw (b+c) b i:=by
  unfold BC brw;have h1:=Nat.mod_lt b (BBp i);have h2:=Nat.mod_lt c (BBp i);have e:=Nat.add_mod b c (BB^i);rw[e];generalize b%BB^i=B' at *;generalize c%BB^i=C' at *;generalize BB^i=P at *;by_cases a0:B' + C' < P;rw[Nat.div_eq_of_lt a0,Nat.mod_eq_of_lt a0,if_neg (by omega)];have e2:(B' + C')%P=B' + C' - P:=by rw[Nat.mod_eq_sub_mod (by omega),Nat.mod_eq_of_lt (by omega)]
  rw[e2,if_pos (show B' + C' - P<B' by omega)];apply Nat.le_antisymm;have:(B' + C')/P<2:=by rw[Nat.div_lt_iff_lt_mul (by omega)];omega
  omega;rw[Nat.le_div_iff_mul_le (by omega)];omega
 omega
theorem UT{a b:Nat}(h:b<=a)(i:Nat) :
  (((dgt a i:Int)-dgt b i-brw a b i<0->(dgt a i:Int)-dgt b i-brw a b i+1000000000=dgt (a-b) i/\brw a b (i+1)=1)) /\
  (((0:Int)<=dgt a i-dgt b i-brw a b i->(dgt a i:Int)-dgt b i-brw a b i=dgt (a-b) i/\brw a b (i+1)=0)):=by
 have e:=US h i;have e1:=Bf a i;have e2:=Bf b i;have e3:=Bf (a-b) i;have e4:=US h (i+1);have d1:=Bb a i;have d2:=Bb b i;have d3:=Bb (a-b) i;have hb:=PK a b i;have hb':=PK a b (i+1);rw[e1,e2,e3]at e;rw[e4]at e;rw[Nat.add_mul,Nat.add_mul]at e;unfold BB at *;constructor <;> intro hn <;> constructor <;> omega
theorem PL{A x b V c i k:Nat}(h:V+c*BB^(i+k)=A*b+x*BB^i*(b%BB^k)) :
  V-dgt V (i+k)*BB^(i+k)+(dgt V (i+k)+x*dgt b k+c)%BB*BB^(i+k)+(dgt V (i+k)+x*dgt b k+c)/BB*BB^(i+(k+1))=A*b+x*BB^i*(b%BB^(k+1)):=by
 have hle:dgt V (i+k)*BB^(i+k)<=V:=by unfold dgt;have h1:=Nat.mod_le (V/BB^(i+k)) BB;have h2:=Nat.mul_le_mul_right (BB^(i+k)) h1;have h3:=Nat.div_mul_le_self V (BB^(i+k));omega
 have e1:=Nat.div_add_mod (dgt V (i+k)+x*dgt b k+c) BB
 have e2:(dgt V (i+k)+x*dgt b k+c)%BB*BB^(i+k)+(dgt V (i+k)+x*dgt b k+c)/BB*BB^(i+(k+1))=(dgt V (i+k)+x*dgt b k+c)*BB^(i+k):=by
  conv=>rhs;rw[← e1]
  rw[show i+(k+1)=(i+k)+1 from rfl,Nat.pow_succ,Nat.add_mul];rw[Nat.mul_comm (BB^(i+k)) BB,← Nat.mul_assoc,Nat.mul_comm BB,Nat.add_comm]
 rw[Nat.add_assoc,e2,F3,Nat.mul_add,← Nat.add_assoc,← h,Nat.add_mul,Nat.add_mul];have e3:x*BB^i*(BB^k*dgt b k)=x*dgt b k*BB^(i+k):=by rw[Nat.pow_add];simp only[Nat.mul_assoc,Nat.mul_comm,Nat.mul_left_comm]
 rw[e3];omega
theorem Sq{a b i:Nat} : a%BB^i*b+dgt a i*BB^i*b=a%BB^(i+1)*b:=by rw[F3,Nat.add_mul,Nat.mul_comm (dgt a i)]
theorem PM(a n i:Nat)(hn:0<n):((a/BB^(i+1))%n*BB+dgt a i)/n=dgt (a/n) i/\((a/BB^(i+1))%n*BB+dgt a i)%n=(a/BB^i)%n:=by
 have e:=Bf a i;have e1:=Nat.div_add_mod (a/BB^(i+1)) n;have hr:=Nat.mod_lt (a/BB^(i+1)) hn;have hd:=Bb a i
 have key:a/BB^i=((a/BB^(i+1))%n*BB+dgt a i)+n*(a/BB^(i+1)/n*BB):=by
  conv=>lhs;rw[e,← e1]
  rw[Nat.add_mul,Nat.mul_assoc];omega
 constructor;have hq:((a/BB^(i+1))%n*BB+dgt a i)/n<BB:=by rw[Nat.div_lt_iff_lt_mul hn];have:=Nat.mul_le_mul_right BB (show(a/BB^(i+1))%n+1<=n by omega);rw[Nat.add_mul]at this;rw[Nat.mul_comm BB n];omega
 unfold dgt;have e5:a/n/BB^i=a/BB^i/n:=by rw[Nat.div_div_eq_div_mul,Nat.mul_comm n,← Nat.div_div_eq_div_mul]
 have e6:∀X Y:Nat,X<BB->X=(X+Y*BB)%BB:=λX Y h=>by rw[Nat.add_mul_mod_self_right,Nat.mod_eq_of_lt h]
 rw[e5];conv=>rhs;rw[key]
 rw[Nat.add_mul_div_left _ _ hn];exact e6 _ _ hq;rw[key,Nat.add_mul_mod_self_left]
theorem PN{a k:Nat}(n:Nat)(h:a<BB^k):a/BB^k%n=0:=by rw[Nat.div_eq_of_lt h];exact Nat.zero_mod n
def hi(q i:Nat):Nat:=q/BB^i*BB^i
theorem AAo{q k:Nat}(h:q<BB^k):hi q k=0:=by unfold hi;rw[Nat.div_eq_of_lt h];simp
theorem PO(q:Nat):hi q 0=q:=by simp[hi]
theorem AAp(q i:Nat):dgt (hi q (i+1)) i=0:=by unfold dgt hi;rw[Nat.pow_succ,Nat.mul_comm (BB^i) BB,← Nat.mul_assoc,Nat.mul_div_cancel _ (BBp i),Nat.mul_mod_left]
theorem UU(q i:Nat):hi q i=hi q (i+1)+dgt q i*BB^i:=by
 unfold hi;conv=>lhs;rw[Bf q i]
 rw[Nat.add_mul,Nat.pow_succ,Nat.mul_comm (BB^i) BB,Nat.mul_assoc]
theorem Y9{N q i d:Nat}(hi' : i<N)(hd:d=dgt q i):(AS N (hi q (i+1))).set i d=AS N (hi q i):=by subst hd;rw[Ml hi' (Bb q i),AAp,Nat.zero_mul,Nat.sub_zero,← UU]
theorem E3(d n:Nat):Ah (d::dig n)=d+BB*n:=by rw[Ah,Fz]
theorem PP(k:Nat):List.replicate k 0=AS k 0:=(KG k).symm
def rn(r:List Dat):Int:=(r.getD 0 (.int 0)).n
def AF(l:List Nat):List (List Dat):=l.map λ(d:Nat)=>[Dat.int (d:Int)]
def L(n:Nat):List (List Dat):=AF (dig n)
def nl(n:Nat):Nat:=(dig n).length
theorem BJ(l:List Nat):(AF l).length=l.length:=by simp[AF]
theorem AJ(n:Nat):(L n).length=nl n:=BJ _
theorem Cj:L 0=[]:=by unfold L;rw[Bv];rfl
theorem CP:nl 0=0:=by unfold nl;rw[Bv];rfl
theorem Hi{n:Nat}(h:n≠0):0<nl n:=by unfold nl;rw[CO h];simp
theorem Ck{n:Nat} : nl n=0<->n=0:=⟨λh=>by rcases Nat.eq_zero_or_pos n with h' | h';exact h';have:=Hi (n:=n) (by omega);omega,λh=>by subst h;exact CP⟩
theorem Di(k n:Nat):nl n<=k<->n<BB^k:=LA k n
theorem Xg(i n:Nat):i<nl n<->BB^i<=n:=UN i n
theorem C3(n:Nat):n<BB^nl n:=(LA _ _).1 (Nat.le_refl _)
theorem Cy{a b:Nat}(h:a<=b):nl a<=nl b:=(LA _ _).2 (Nat.lt_of_le_of_lt h (C3 b))
theorem As(a b:Nat):nl (a*b)<=nl a+nl b:=by refine(LA _ _).2 ?_;rw[Nat.pow_add];have h1:=C3 a;have h2:=C3 b;exact Nat.mul_lt_mul'' h1 h2
theorem KH(a b:Nat):nl (a+b)<=max (nl a) (nl b)+1:=by refine(LA _ _).2 ?_;have h1:=C3 a;have h2:=C3 b;have m1:BB^nl a<=BB^max (nl a) (nl b):=Nat.pow_le_pow_right Dg (by omega);have m2:BB^nl b<=BB^max (nl a) (nl b):=Nat.pow_le_pow_right Dg (by omega);rw[Nat.pow_succ];have:BB^max (nl a) (nl b)*2<=BB^max (nl a) (nl b)*BB:=Nat.mul_le_mul_left _ (by decide);omega
theorem Xh{n:Nat}(h:n≠0)(h2:n<BB):nl n=1:=by have:=Hi h;have:=(LA 1 n).2 (by simpa using h2);unfold nl at *;omega
theorem Sr(x:Int):rn [Dat.int x]=x:=rfl
theorem KI(l:List Nat)(i:Nat):(((AF l).getD i []).getD 0 (.int 0))=.int ((l.getD i 0:Nat):Int):=by unfold AF;simp only[List.getD,List.getElem?_map];cases l[i]? <;> rfl
theorem AAE(n i:Nat):(((L n).getD i []).getD 0 (.int 0))=.int ((dgt n i:Nat):Int):=by unfold L;rw[KI,Xd]
theorem Xi(l:List Nat)(i:Nat):rn ((AF l).getD i [])=((l.getD i 0:Nat):Int):=by unfold rn;rw[KI];rfl
theorem Mn{l:List Nat}{i:Nat}(h:i<l.length):(AF l).getD i []=[Dat.int ((l.getD i 0:Nat):Int)]:=by unfold AF;simp[List.getD,h]
theorem KJ{l:List Nat}{i:Nat}(h:i<l.length)(x:Nat):(AF l).set i (((AF l).getD i []).set 0 (Dat.int (x:Int)))=AF (l.set i x):=by rw[Mn h];unfold AF;rw[List.map_set];rfl
theorem Ak(l:List Nat)(x:Nat):AF l++[[Dat.int (x:Int)]]=AF (l++[x]):=by simp[AF]
theorem Ss(l:List Nat)(k:Nat):(AF l).take k=AF (l.take k):=by simp[AF,List.map_take]
theorem EQ(k:Nat):List.replicate k [Dat.int 0]=AF (List.replicate k 0):=by simp[AF,List.map_replicate]
theorem FP(k n:Nat):∀d ∈ AS k n,d<BB:=by intro d hd;obtain⟨i,hi,rfl⟩:=List.getElem_of_mem hd;have:=Dh k n i (by rw[Ai]at hi;exact hi);rw[List.getElem?_eq_getElem hi]at this;rw[Option.some.inj this];exact Bb n i
theorem Vl{k n i:Nat}(h:i<k):(AS k n).getD i 0=dgt n i:=by simp[List.getD,Dh k n i h]
def inB(n:Int):Bool:=decide (0<=n) && decide (n<=999999999)
def BG(l:List (List Dat)):Bool:=decide (l.length<=60) && l.all (λr=>inB (rn r)) && (decide (l.length=0) || !decide (rn (l.getD (l.length-1) [])=0))
theorem LB{n:Nat}(h:n≠0):dgt n (nl n-1)≠0:=by
 intro h0;have hp:=Hi h;have h1:=C3 n;have:nl n=nl n-1+1:=by omega
 rw[this]at h1;have:=Mm h1 h0;have:=(Di _ _).2 this;omega
theorem Mo(n:Nat):BG (L n)=decide (nl n<=60):=by
 have h1:(L n).all (λr=>inB (rn r))=true:=by refine List.all_eq_true.2 λr hr=>?_;obtain⟨d,hd,rfl⟩:=List.mem_map.1 hr;have:=Mj n d hd;unfold BB at this;simp only[Sr,inB,Bool.and_eq_true];exact⟨decide_eq_true (by omega),decide_eq_true (by omega)⟩
 have h2:(decide ((L n).length=0) || !decide (rn ((L n).getD ((L n).length-1) [])=0))=true:=by
  rw[AJ];by_cases h:n=0;subst h;simp[CP];have e:rn ((L n).getD (nl n-1) [])=(dgt n (nl n-1):Int):=by unfold rn;rw[AAE];rfl
  rw[e];have:=LB h;simp;right;omega
 unfold BG;rw[h1,h2,AJ];simp
theorem Mp{e:Nat}{l:List (List Dat)}(hs:Dat.has (.sl e [.int]) (.sl l))(h:BG l=true):∃n,l=L n/\nl n<=60:=by
 simp only[BG,Bool.and_eq_true,decide_eq_true_eq]at h;obtain⟨⟨h1,h2⟩,h3⟩:=h
 have a0:∀r ∈ l,∃d:Nat,r=[Dat.int (d:Int)]/\d<BB:=by
  intro r hr;obtain⟨i,hi,rfl⟩:=List.getElem_of_mem hr;simp only[Dat.has]at hs;have hh:=hs.2 i hi;have eg:l.getD i []=l[i]:=by simp[List.getD,hi]
  rw[eg]at hh;match hq:l[i],hh with| [.int n],_=>have hb:=List.all_eq_true.1 h2 _ hr;rw[hq]at hb;simp only[Sr,inB,Bool.and_eq_true]at hb;have hb:0<=n/\n<=999999999:=⟨of_decide_eq_true hb.1,of_decide_eq_true hb.2⟩;exact⟨n.toNat,by rw[Int.toNat_of_nonneg hb.1],by unfold BB;omega⟩
 obtain⟨ds,rfl,a1⟩:∃ds:List Nat,l=AF ds/\∀d ∈ ds,d<BB:=by
  clear hs h1 h2 h3;induction l with|nil=>exact⟨[],rfl,by simp⟩|cons r l ih=>obtain⟨ds,rfl,hd⟩:=ih λx hx=>a0 x (by simp[hx]);obtain⟨d,rfl,hd1⟩:=a0 r (by simp);exact⟨d::ds,rfl,λx hx=>by rcases List.mem_cons.1 hx with rfl|hx;exact hd1;exact hd x hx⟩
 refine⟨Ah ds,?_,?_⟩;unfold L;rw[KF ds a1];intro a2 h0;rw[BJ,Xi]at h3;have hlen:0<ds.length:=List.length_pos_iff.2 a2;rw[List.getLast_eq_getElem]at h0;simp[List.getD,show ds.length-1<ds.length by omega,h0]at h3;exact a2 h3;rw[BJ]at h1;refine(Di _ _).2 (Nat.lt_of_lt_of_le (Q4 ds a1) (Nat.pow_le_pow_right Dg h1))
def Br(a b:Nat):Int:=if a<b then -1 else if a=b then 0 else 1
def DG(a b:Int):Int:=if a<b then -1 else if a=b then 0 else 1
theorem Ld{a b:Nat}(h:a<b):Br a b=-1:=by unfold Br;rw[if_pos h]
theorem Le{a b:Nat}(h:b<a):Br a b=1:=by unfold Br;rw[if_neg (by omega),if_neg (by omega)]
theorem UV(a:Nat):Br a a=0:=by unfold Br;simp
theorem JO{a b:Nat}(h:nl a<nl b):a<b:=by apply Nat.lt_of_not_le;intro a0;have:=Cy a0;omega
theorem JP(l:List Nat)(i:Nat):(((AF l).getD i []).getD 0 (.int 0)).n=((l.getD i 0:Nat):Int):=by rw[KI];rfl
theorem L_n(n i:Nat):(((L n).getD i []).getD 0 (.int 0)).n=(dgt n i:Int):=by rw[AAE];rfl
theorem PQ{k n i:Nat}(h:i<k):(((AF (AS k n)).getD i []).getD 0 (.int 0)).n=(dgt n i:Int):=by rw[JP,Vl h]
theorem Xj(a b:Nat):Int.tdiv (a:Int) (b:Int)=((a/b:Nat):Int):=rfl
theorem Xk(a b:Nat):Int.tmod (a:Int) (b:Int)=((a%b:Nat):Int):=rfl
theorem DU(a:Nat):Int.tdiv (a:Int) (1000000000:Int)=((a/BB:Nat):Int):=rfl
theorem Du(a:Nat):Int.tmod (a:Int) (1000000000:Int)=((a%BB:Nat):Int):=rfl
theorem Bk{a:Nat}(h:a<=9223372036854775807):IntKind.i64.wrap (a:Int)=(a:Int):=AB (by omega) (by omega)
theorem LD(n i:Nat):(0:Int)<=(dgt n i:Int)/\(dgt n i:Int)<1000000000:=by have:=Bb n i;unfold BB at this;omega
def PR(p:List Dat->Bool)(l:List (List Dat)):Int:=match l.findIdx? p with|some k=>(k:Int)|none=>-1
theorem ZA{p:List Dat->Bool}{l:List (List Dat)}{k:Nat}(hk:k<l.length)(h:∀j,j<k->p (l.getD j [])=false)(hp:p (l.getD k [])=true):PR p l=(k:Int):=by
 have:l.findIdx? p=some k:=by rw[List.findIdx?_eq_some_iff_getElem];refine⟨hk,?_,λj hj=>?_⟩;simpa[List.getD,hk]using hp;have:=h j hj;simpa[List.getD,show j<l.length by omega]using this
 unfold PR;rw[this]
theorem Vm{p:List Dat->Bool}{l:List (List Dat)}(h:∀j,j<l.length->p (l.getD j [])=false):PR p l=-1:=by
 have:l.findIdx? p=none:=by rw[List.findIdx?_eq_none_iff];intro x hx;obtain⟨j,hj,rfl⟩:=List.getElem_of_mem hx;have:=h j hj;simpa[List.getD,hj]using this
 unfold PR;rw[this]
theorem Xl(p:List Dat->Bool)(l:List (List Dat)):decide (PR p l>=0)=l.any p:=by
 unfold PR;cases h:l.findIdx? p with
 |none=>
  rw[List.findIdx?_eq_none_iff]at h;have:l.any p=false:=by rw[List.any_eq_false];intro x hx;rw[h x hx];simp
  rw[this];rfl
 |some k=>rw[List.findIdx?_eq_some_iff_getElem]at h;obtain⟨hk,hp,_⟩:=h;have:l.any p=true:=List.any_eq_true.2 ⟨_,List.getElem_mem hk,hp⟩;rw[this];exact decide_eq_true (show(0:Int)<=(k:Int) by omega)
theorem JQ{P:Nat->Prop}{k:Nat}(h:∀j,j<k->P j)(hk:P k):∀j,j<k+1->P j:=λj hj=>by rcases Nat.lt_succ_iff_lt_or_eq.1 hj with hj|rfl;exact h j hj;exact hk
theorem OJ{l:List Nat}{k:Nat}(hk:k≠0)(hl:k<=l.length):l.take k=l.take (k-1)++[l.getD (k-1) 0]:=by
 have:k=(k-1)+1:=by omega
 conv=>lhs;rw[this]
 rw[List.take_add_one];simp[List.getD,show k-1<l.length by omega]
theorem OK{l:List Nat}{k:Nat}(hk:k≠0)(hl:k<=l.length)(h0:l.getD (k-1) 0=0):Ah (l.take (k-1))=Ah (l.take k):=by rw[OJ hk hl,h0,Mk];simp
theorem JR{l:List Nat}{k:Nat}(hd:∀d ∈ l,d<BB)(hl:k<=l.length)(h:Ah (l.take k)=Ah l)(h0:k=0\/l.getD (k-1) 0≠0):(AF l).take k=L (Ah l):=by
 rw[Ss,← h];unfold L;rw[KF _ (λd hd'=>hd d (List.mem_of_mem_take hd'))];intro a0;have hk:k≠0:=by rintro rfl;simp at a0
 have h1:=h0.resolve_left hk;have e:l.take k=l.take (k-1)++[l.getD (k-1) 0]:=OJ hk hl;have e2:∀(m:List Nat)(x:Nat)(h:m++[x]≠[]),(m++[x]).getLast h=x:=λm x h=>by simp
 have e3:∀(m:List Nat)(hm:m≠[]),m=l.take (k-1)++[l.getD (k-1) 0]->m.getLast hm≠0:=λm hm he=>by subst he;rw[e2];exact h1
 exact e3 _ a0 e
theorem Q7{o:List Nat}{n:Nat}(h:o=dig n):AF o=L n:=by subst h;rfl
end Go.Proofs.YthoidhehmmcgnaaGreat
namespace Go.Proofs.YthoidhehmmcgnaaGreat
set_option linter.unusedVariables false
set_option linter.unusedSimpArgs false
def PS(q:Rat):Bool:=decide (nl q.num.natAbs<=24) && decide (nl q.den<=24)
structure Fr where
 v:Option Rat
 ok:∀q,v=some q->PS q=true
theorem Fr.ext{r s:Fr}(h:r.v=s.v):r=s:=by cases r;cases s;simp only at h;subst h;rfl
def Fr.neg(r:Fr):Bool:=match r.v with|none=>false|some q=>decide (q.num<0)
def Fr.num(r:Fr):List (List Dat):=match r.v with|none=>[]|some q=>L q.num.natAbs
def Fr.den(r:Fr):List (List Dat):=match r.v with|none=>[]|some q=>L q.den
def Fr.good(r:Fr):Bool:=r.v.isSome
def Fr.none:Fr:=⟨.none,by simp⟩
def clamp(q:Rat):Fr:=if h:PS q=true then⟨some q,λ_ e=>by rw[← Option.some.inj e];exact h⟩else Fr.none
def Fr.bin(f:Rat->Rat->Fr)(r s:Fr):Fr:=match r.v,s.v with|some a,some b=>f a b|_,_=>Fr.none
def Fr.add(r s:Fr):Fr:=Fr.bin (λa b=>clamp (a+b)) r s
def Fr.sub(r s:Fr):Fr:=Fr.bin (λa b=>clamp (a-b)) r s
def Fr.mul(r s:Fr):Fr:=Fr.bin (λa b=>clamp (a*b)) r s
def Fr.div(r s:Fr):Fr:=Fr.bin (λa b=>if b=0 then Fr.none else clamp (a/b)) r s
def Fr.opp(r:Fr):Fr:=match r.v with|some a=>clamp (-a)|_=>Fr.none
def LZ(a b:Rat):Int:=if a<b then -1 else if a=b then 0 else 1
def Fr.cmp(r s:Fr):Int:=match r.v,s.v with|some a,some b=>LZ a b|_,_=>0
def Fr.min(r s:Fr):Fr:=Fr.bin (λa b=>if a<=b then r else s) r s
def Fr.max(r s:Fr):Fr:=Fr.bin (λa b=>if b<=a then r else s) r s
def Fr.ofInt(n:Int):Fr:=clamp (n:Rat)
theorem Dj{q:Rat} : PS q=true<->nl q.num.natAbs<=24/\nl q.den<=24:=by simp[PS]
theorem ZB(q:Rat):(clamp q).v=if PS q=true then some q else .none:=by unfold clamp;split <;> rfl
theorem Eh{q:Rat}(h:PS q=true):(clamp q).v=some q:=by rw[ZB,if_pos h]
theorem Xm{q:Rat}(h:¬PS q=true):clamp q=Fr.none:=by unfold clamp;rw[dif_neg h]
theorem Fr.none_v:Fr.none.v=.none:=rfl
theorem Fr.of_none{r:Fr}(h:r.v=.none):r=Fr.none:=Fr.ext h
theorem Fr.num_some{r:Fr}{q:Rat}(h:r.v=some q):r.num=L q.num.natAbs:=by unfold Fr.num;rw[h]
theorem Fr.den_some{r:Fr}{q:Rat}(h:r.v=some q):r.den=L q.den:=by unfold Fr.den;rw[h]
theorem Fr.neg_some{r:Fr}{q:Rat}(h:r.v=some q):r.neg=decide (q.num<0):=by unfold Fr.neg;rw[h]
theorem Fr.good_some{r:Fr}{q:Rat}(h:r.v=some q):r.good=true:=by unfold Fr.good;rw[h];rfl
theorem Fr.good_inv{r:Fr}(h:r.good=true):∃q,r.v=some q/\nl q.num.natAbs<=24/\nl q.den<=24:=by unfold Fr.good at h;obtain⟨q,hq⟩:=Option.isSome_iff_exists.1 h;exact⟨q,hq,Dj.1 (r.ok q hq)⟩
theorem Fr.bad_inv{r:Fr}(h:r.good=false):r=Fr.none:=by
 apply Fr.of_none;unfold Fr.good at h;cases hv:r.v with|none=>rfl|some q=>rw[hv]at h;cases h
theorem Fr.cases(r:Fr):r=Fr.none\/∃q,r.v=some q/\nl q.num.natAbs<=24/\nl q.den<=24:=by
 cases h:r.good with|false=>exact .inl (Fr.bad_inv h)|true=>exact .inr (Fr.good_inv h)
def Fr.mk'(z:Int)(d:Nat):Fr:=clamp (mkRat z d)
theorem Dx{z:Int}{d:Nat}(hd:d≠0):(mkRat z d).num=z/((z.natAbs.gcd d:Nat):Int)/\(mkRat z d).den=d/z.natAbs.gcd d:=by
 have e:mkRat z d=Rat.normalize z d hd:=by unfold mkRat;simp[hd]
 rw[e,Rat.normalize_eq hd];exact⟨rfl,rfl⟩
theorem Dk{z:Int}{d:Nat}(hd:d≠0):(mkRat z d).num.natAbs=z.natAbs/z.natAbs.gcd d:=by
 rw[(Dx hd).1];have hg:((z.natAbs.gcd d:Nat):Int) ∣ z:=by exact Int.ofNat_dvd_left.2 (Nat.gcd_dvd_left _ _)
 obtain⟨c,hc⟩:=hg;have hg0:z.natAbs.gcd d≠0:=λe=>hd (Nat.eq_zero_of_gcd_eq_zero_right e);generalize z.natAbs.gcd d=g at *;subst hc;rw[Int.mul_ediv_cancel_left _ (by omega),Int.natAbs_mul,Int.natAbs_natCast,Nat.mul_div_cancel_left _ (by omega)]
theorem Vn{z:Int}{d:Nat}(hd:d≠0):decide ((mkRat z d).num<0)=decide (z<0):=by
 rw[(Dx hd).1];have hg:((z.natAbs.gcd d:Nat):Int) ∣ z:=by exact Int.ofNat_dvd_left.2 (Nat.gcd_dvd_left _ _)
 obtain⟨c,hc⟩:=hg;have hg0:z.natAbs.gcd d≠0:=λe=>hd (Nat.eq_zero_of_gcd_eq_zero_right e);generalize z.natAbs.gcd d=g at *;subst hc;rw[Int.mul_ediv_cancel_left _ (by omega)];have a0:(0:Int)<(g:Int):=by omega
 congr 1;apply propext;constructor;intro h;exact Int.mul_neg_of_pos_of_neg a0 h;intro h;apply Int.lt_of_not_ge;intro h2;have:=Int.mul_nonneg (Int.le_of_lt a0) h2;omega
theorem Xn(a b:Rat):LZ a b=DG (a.num*b.den) (b.num*a.den):=by
 unfold LZ DG;simp only[Rat.lt_iff]
 have:a=b<->a.num*b.den=b.num*a.den:=by
  constructor;intro h;subst h;rfl;intro h;have h1:¬a<b:=by rw[Rat.lt_iff];omega
  have h2:¬b<a:=by rw[Rat.lt_iff];omega
  grind
 simp only[this]
theorem AAq{b:Rat}(hb:b≠0):b⁻¹=mkRat (if b.num<0 then -(b.den:Int)else b.den) b.num.natAbs:=by
 rw[Rat.inv_def];have h0:b.num≠0:=λh=>hb (Rat.num_eq_zero.1 h);generalize b.num=n at *;generalize b.den=d;cases n with|ofNat k=>rw[if_neg (by simp)];exact Rat.divInt_ofNat _ _|negSucc k=>rw[if_pos (Int.negSucc_lt_zero k)];show Rat.normalize (-(d:Int)) (k+1) (Nat.succ_ne_zero k)=_;rw[Rat.normalize_eq_mkRat];rfl
theorem div_mk{a b:Rat}(hb:b≠0):a/b=mkRat (if b.num<0 then -(a.num*b.den)else a.num*b.den) (a.den*b.num.natAbs):=by
 rw[Rat.div_def,AAq hb];conv=>lhs;rw[← Rat.mkRat_self a]
 rw[Rat.mkRat_mul_mkRat];congr 1;by_cases h:b.num<0;rw[if_pos h,if_pos h,Int.mul_neg];rw[if_neg h,if_neg h]
theorem Fr.add_mk{r s:Fr}{a b:Rat}(hr:r.v=some a)(hs:s.v=some b):Fr.add r s=Fr.mk' (a.num*b.den+b.num*a.den) (a.den*b.den):=by unfold Fr.add Fr.bin Fr.mk';rw[hr,hs];simp only;rw[Rat.add_def']
theorem Fr.mul_mk{r s:Fr}{a b:Rat}(hr:r.v=some a)(hs:s.v=some b):Fr.mul r s=Fr.mk' (a.num*b.num) (a.den*b.den):=by unfold Fr.mul Fr.bin Fr.mk';rw[hr,hs];simp only;rw[Rat.mul_def']
theorem Fr.div_mk{r s:Fr}{a b:Rat}(hr:r.v=some a)(hs:s.v=some b)(hb:b≠0):Fr.div r s=Fr.mk' (if b.num<0 then -(a.num*b.den)else a.num*b.den) (a.den*b.num.natAbs):=by unfold Fr.div Fr.bin Fr.mk';rw[hr,hs];simp only;rw[if_neg hb,_root_.Go.Proofs.YthoidhehmmcgnaaGreat.div_mk hb]
theorem Fr.div_zero{r s:Fr}{b:Rat}(hs:s.v=some b)(hb:b=0):Fr.div r s=Fr.none:=by unfold Fr.div Fr.bin;rw[hs];cases r.v <;> simp[hb]
theorem Fr.bin_none2(f:Rat->Rat->Fr)(r:Fr):Fr.bin f r Fr.none=Fr.none:=by unfold Fr.bin;rw[Fr.none_v];cases r.v <;> rfl
theorem Fr.cmp_mk{r s:Fr}{a b:Rat}(hr:r.v=some a)(hs:s.v=some b):Fr.cmp r s=DG (a.num*b.den) (b.num*a.den):=by unfold Fr.cmp;rw[hr,hs];exact Xn a b
theorem Fr.cmp_none2(r:Fr):Fr.cmp r Fr.none=0:=by unfold Fr.cmp;rw[Fr.none_v];cases r.v <;> rfl
theorem Fr.opp_v{r:Fr}{a:Rat}(hr:r.v=some a):r.opp.v=some (-a):=by unfold Fr.opp;rw[hr];refine Eh ?_;have:=Dj.1 (r.ok a hr);refine Dj.2 ?_;rw[Rat.neg_num,Rat.neg_den,Int.natAbs_neg];exact this
theorem Fr.sub_opp(r s:Fr):Fr.add r s.opp=Fr.sub r s:=by rcases Fr.cases s with rfl|⟨b,hb,_⟩;have:Fr.none.opp=Fr.none:=rfl;rw[this];unfold Fr.add Fr.sub;rw[Fr.bin_none2,Fr.bin_none2];rcases Fr.cases r with rfl|⟨a,ha,_⟩;rfl;unfold Fr.add Fr.sub Fr.bin;rw[ha,hb,Fr.opp_v hb];simp only;congr 1;grind
structure Pq where
 x:Fr
 y:Fr
def Pq.good(p:Pq):Bool:=p.x.good && p.y.good
def Pq.none:Pq:=⟨Fr.none,Fr.none⟩
theorem JS{n:Int}(h:nl n.natAbs<=24):(Fr.ofInt n).v=some (n:Rat):=by unfold Fr.ofInt;refine Eh (Dj.2 ⟨by rw[Rat.num_intCast];exact h,?_⟩);rw[Rat.den_intCast,Xh (by decide) (by decide)];decide
end Go.Proofs.YthoidhehmmcgnaaGreat
namespace Go.Proofs.YthoidhehmmcgnaaGreat
set_option linter.unusedVariables false
set_option linter.unusedSimpArgs false
open Go.RowKit Go.Deep Go.ChangeShapes Go.WideShapes
mutual
theorem PT:∀(t:Ty)(d:Dat),Dat.has t.era d<->Dat.has t d
 | .int,d=>Iff.rfl| .bool,d=>Iff.rfl| .str,d=>Iff.rfl| .sl e ts,d=>by
  cases d with|sl ls=>simp only[Ty.era,Dat.has];exact⟨λh=>⟨h.1,λk hk=>(Iv ts _).1 (h.2 k hk)⟩,λh=>⟨h.1,λk hk=>(Iv ts _).2 (h.2 k hk)⟩⟩|_=>simp[Ty.era,Dat.has]
theorem Iv:∀(ts:List Ty)(ds:List Dat),hasRow (Ty.eras ts) ds<->hasRow ts ds
 | [],ds=>Iff.rfl|t::ts,[]=>by simp[Ty.eras,hasRow]|t::ts,d::ds=>by simp only[Ty.eras,hasRow,PT t d,Iv ts ds]
end
theorem Xo{t t' : Ty}{d:Dat}(e:t.era=t'.era)(h:Dat.has t d):Dat.has t' d:=(PT _ _).1 (e ▸ (PT _ _).2 h)
mutual
def Dat.fit:Dat->Prop
 | .int n=>-9223372036854775808<=n/\n<=9223372036854775807| .sl ls=>IE ls|_=>True
def fitRow:List Dat->Prop
 | []=>True|d::ds=>d.fit/\fitRow ds
def IE:List (List Dat)->Prop
 | []=>True|r::rs=>fitRow r/\IE rs
end
theorem fitRow.app:∀{a b:List Dat},fitRow a->fitRow b->fitRow (a++b)
 | [],_,_,h=>h|_::_,_,h,h2=>by simp only[List.cons_append,fitRow]at h ⊢;exact⟨h.1,fitRow.app h.2 h2⟩
theorem Mq:∀{l:List (List Dat)},(∀r ∈ l,fitRow r)->IE l
 | [],_=>by simp[IE]|r::l,h=>by simp only[IE];exact⟨h r (by simp),Mq λx hx=>h x (by simp[hx])⟩
theorem F4:∀{ds:List Dat}{k:Nat},fitRow ds->(ds.getD k (.int 0)).fit
 | [],_,_=>by simp[Dat.fit]|d::ds,0,h=>by simp only[fitRow]at h;simpa using h.1|d::ds,k+1,h=>by simp only[fitRow]at h;simpa using F4 (k:=k) h.2
def JT(tr:Nat->Option (List Ty)):List (Nat×Nat×Nat)->Nat->Option (List Ty)
 | [],_=>some []|(off,t,sz)::r,acc=>
  if Nat.beq off acc=true then
   match tr t,JT tr r (acc+sz)with
   |some a,some b=>if Nat.beq a.length sz=true then some (a++b)else none
   |_,_=>none
  else none
def KK(tt:TT):Nat->Nat->Option (List Ty)
 | 0,_=>none|f+1,t=>
  match lkp tt t with
  |some {d:=.int .i64,..}=>some [.int]|some {d:=.bool,..}=>some [.bool]|some {d:=.str,..}=>some [.str]|some {d:=.slice e,..}=>
   match KK tt f e,lkp tt e with|some ts,some i=>if(Nat.beq ts.length i.size && Nat.blt 0 ts.length)=true then some [.sl e ts]else none|_,_=>none
  |some {d:=.struct fs,size:=sz,..}=>
   match JT (KK tt f) fs 0 with
   |some ts=>if Nat.beq ts.length sz=true then some ts else none
   |none=>none
  |_=>none
section
variable {P : Program} {tt : TT} {H : Type} {enc : TypeId × Value → H} {w : World} {spare : Nat → Bool} {held : Bool}
theorem TIok.cellsOf{t:Nat}{i:TI}(h:TIok P t i):P.cellsOf t=i.size:=by obtain⟨inf,h1,h2,_⟩:=h.info;simp[Program.cellsOf,h1,h2]
theorem Xp{n:Nat}{p:Nat->List Value->Prop}(h:∀i,i<n->∃r,p i r):∃rows:List (List Value),rows.length=n/\∀i,i<n->p i (rows.getD i []):=by
 obtain⟨f,hf⟩:=choose_lt h;refine⟨(List.range n).map f,by simp,λi hi=>?_⟩;have:((List.range n).map f).getD i []=f i:=by simp[List.getD,hi]
 rw[this];exact hf i hi
theorem Q8{a:Addr}{v:Value}(h:w.cell? a=some v):∃b off,a=⟨b,off,none⟩/\b<w.heap.size:=by obtain⟨b,off,s⟩:=a;have:=World.cell?_spot h;simp at this;subst this;exact⟨b,off,rfl,World.block_lt_of_cell? w ⟨b,off,none⟩ h⟩
theorem Vo{α:Type}{l:List α}{i:Nat}{d:α}(h:i<l.length):l[i]?=some (l.getD i d):=by simp[List.getD,h]
theorem Q9{α β:Type}{g:α->Option β} : ∀{l:List α}{r:List β},l.mapM g=some r->∀{i:Nat}(h:i<l.length)(h' : i<r.length),g l[i]=some r[i]
 | [],r,_,i,h,_=>by simp at h|a::l,r,e,i,h,h'=>by
  simp only[List.mapM_cons,Option.bind_eq_bind,Option.bind_eq_some_iff,Option.pure_def,Option.some.injEq]at e;obtain⟨b,h1,bs,h2,rfl⟩:=e;cases i with|zero=>simpa using h1|succ i=>simpa using Q9 h2 (i:=i) (by simpa using h) (by simpa using h')
theorem UW{b off n:Nat} : (⟨b,off,none⟩:Addr).add n=⟨b,off+n,none⟩:=by unfold Addr.add;split;rename_i h;subst h;rfl;rfl
theorem LF{tr:Nat->Option (List Ty)}{n:Nat}{cs:List Value}(ih:∀t ts cs (x:DataW H×List MemPlace),tr t=some ts->DataW.trod enc P w 0 spare held n t cs=some x->∃ds,RdRow w ts ds cs/\fitRow ds) :
  ∀{fs:List (Nat×Nat×Nat)}{acc:Nat}{ts:List Ty},JT tr fs acc=some ts->(∀x ∈ fs,∃d,DataW.trod enc P w 0 spare held n x.2.1 ((cs.drop x.1).take x.2.2)=some d)->∃ds,RdRow w ts ds ((cs.drop acc).take ts.length)/\fitRow ds
 | [],acc,ts,h,_=>by simp only[JT,Option.some.injEq]at h;subst h;exact⟨[],by simp[RdRow],by simp[fitRow]⟩|(off,t,sz)::r,acc,ts,h,hf=>by
  simp only[JT]at h;split at h;rename_i ho;simp only[Nat.beq_eq]at ho;subst ho;split at h;rename_i a b h1 h2;split at h;rename_i hs;simp only[Nat.beq_eq]at hs;simp only[Option.some.injEq]at h;subst h;obtain⟨d,hd⟩:=hf (off,t,sz) (by simp);obtain⟨d1,q1,f1⟩:=ih _ _ _ _ h1 hd;obtain⟨d2,q2,f2⟩:=LF ih h2 (λx hx=>hf x (List.mem_cons_of_mem _ hx));refine⟨d1++d2,?_,f1.app f2⟩;have e:(cs.drop off).take (a++b).length=(cs.drop off).take a.length++(cs.drop (off+sz)).take b.length:=by rw[List.length_append,List.take_add,List.drop_drop,hs]
  rw[e];refine RdRow.app _ _ _ ?_ q2;rw[hs];exact q1;cases h;cases h;cases h
theorem JU(hT:TTok P tt):∀(f t:Nat)(ts:List Ty)(fuel:Nat)(cs:List Value)(x:DataW H×List MemPlace),KK tt f t=some ts->DataW.trod enc P w 0 spare held fuel t cs=some x->∃ds,RdRow w ts ds cs/\fitRow ds
 | 0,t,ts,fuel,cs,x,h,_=>by simp[KK]at h|f+1,t,ts,fuel,cs,x,h,hx=>by
  simp only[KK]at h;split at h
  ·rename_i z b zz hl
   simp only[Option.some.injEq]at h;subst h;have hk:=(hT _ _ hl).d;obtain⟨n,e,_,hw⟩:=DataW.trod_int hk hx;subst e;refine⟨[.int n],RdRow.mk_cons (Rd.mk_int n) RdRow.mk_nil,?_⟩;have h2:(decide ((-9223372036854775808:Int)<=n) && decide (n<=9223372036854775807))=true:=hw;simp only[fitRow,Dat.fit];simp at h2;exact⟨h2,trivial⟩
  ·rename_i z b zz hl
   simp only[Option.some.injEq]at h;subst h;have hk:=(hT _ _ hl).d;obtain⟨n,e,_⟩:=DataW.trod_bool hk hx;subst e;exact⟨[.bool n],RdRow.mk_cons (Rd.mk_bool n) RdRow.mk_nil,by simp[fitRow,Dat.fit]⟩
  ·rename_i z b zz hl
   simp only[Option.some.injEq]at h;subst h;have hk:=(hT _ _ hl).d;obtain⟨n,e,_⟩:=DataW.trod_string hk hx;subst e;exact⟨[.str n],RdRow.mk_cons (Rd.mk_str n) RdRow.mk_nil,by simp[fitRow,Dat.fit]⟩
  ·rename_i e z b zz _ hl
   split at h
   ·rename_i ts' i h1 h2
    split at h
    ·rename_i hs
     simp only[Bool.and_eq_true,Nat.beq_eq,Nat.blt_eq]at hs;simp only[Option.some.injEq]at h;subst h;have hk:=(hT _ _ hl).d;have hc:=(hT _ _ h2).cellsOf;rcases open_slice hk hx with⟨a1,_⟩|⟨a,len,cap,m,n,D,Pl,a1,_,hle,hm,a5,_,a6⟩
     ·subst a1
      refine⟨[.sl []],RdRow.mk_cons ?_ RdRow.mk_nil,by simp[fitRow,IE,Dat.fit]⟩;simp only[Rd];exact⟨[],⟨none,0,rfl,by simp,by decide,by simp,.inl ⟨rfl,λ_=>rfl⟩⟩,rfl,by simp⟩
     ·subst a1
      have hlm:len<=m:=(by rw[a5];split <;> omega);obtain⟨rows,hr,hp⟩:=Xp (n:=len) (p:=λi r=>w.cells? 0 (a.add (i*P.cellsOf e)) (P.cellsOf e)=some r/\DataW.trod enc P w 0 spare held n e r=some (D i,Pl i)) λi hi=>a6 i (by omega);obtain⟨g,hg⟩:=choose_lt (n:=len) (p:=λi (ds:List Dat)=>RdRow w ts' ds (rows.getD i [])/\fitRow ds) λi hi=>JU hT f e ts' n _ _ h1 (hp i hi).2;have a7:∀i,i<len->(((List.range len).map g).getD i [])=g i:=λi hi=>by simp[List.getD,hi]
      refine⟨[.sl ((List.range len).map g)],RdRow.mk_cons ?_ RdRow.mk_nil,?_⟩;rotate_left
      ·simp only[fitRow,Dat.fit]
       refine⟨Mq λr hr=>?_,trivial⟩;obtain⟨i,hi,rfl⟩:=List.mem_map.1 hr;exact(hg i (List.mem_range.1 hi)).2
      simp only[Rd];have a2:∀i,i<len->(rows.getD i []).length=ts'.length:=λi hi=>by have:=RdRow.lens _ _ _ (hg i hi).1;omega
      refine⟨rows,⟨some a,cap,by rw[hr],by omega,hm,λr a0=>?_,?_⟩,by simp[hr],λk hk=>?_⟩
      ·obtain⟨i,hi,e⟩:=List.getElem_of_mem a0
       have:=a2 i (by omega);simpa[List.getD,hi,e]using this
      ·by_cases h0:len=0
       ·left;exact⟨List.eq_nil_of_length_eq_zero (by omega),by simp⟩
       ·right
        have c0:=World.cells?_some (hp 0 (by omega)).1;have c0':=c0.2.2 0 (by omega);have a3:0<(rows.getD 0 []).length:=(by rw[a2 0 (by omega)];omega);rw[List.getElem?_eq_getElem a3]at c0';obtain⟨b,off,e1,hb⟩:=Q8 (by rw[Nat.zero_mul]at c0';simpa[Addr.add]using c0');subst e1;refine⟨b,off,rfl,hb,λj hj i hi=>?_⟩;have cj:=(World.cells?_some (hp j (by omega)).1).2.2 i (by omega);rw[UW,UW,hc,← hs.1]at cj;rw[← Nat.add_assoc,cj];have:=a2 j (by omega);exact Vo (by omega)
      ·have hk:=(by simpa using hk:k<len)
       rw[a7 k hk];exact(hg k hk).1
    ·cases h
   ·cases h
  ·rename_i fs z b zz _ hl
   split at h
   ·rename_i ts' h1
    split at h
    ·rename_i hs
     simp only[Nat.beq_eq]at hs;simp only[Option.some.injEq]at h;subst h;obtain⟨fl,k1,k2,k3⟩:=(hT _ _ hl).d;have hc:P.cellsOf t=z:=(hT _ _ hl).cellsOf;obtain⟨xs,n,rfl,rfl,hlen,hxl,hf⟩:=DataW.trod_struct k1 hx
     have key:∀x ∈ fs,∃d,DataW.trod enc P w 0 spare held n x.2.1 ((cs.drop x.1).take x.2.2)=some d:=by
      intro x a0;obtain⟨i,hi,e⟩:=List.getElem_of_mem a0;have hsz:fl.size=fs.length:=(by have:=congrArg List.length k2;simpa using this);have a8:fl[i]?=some fl[i]:=by simp[show i<fl.size by omega]
      have:=hf i fl[i] a8;have k2' : (fl[i].offset,fl[i].type)=(fs[i].1,fs[i].2.1):=(by have:=congrArg (λl=>l[i]?) k2;simpa[hi,show i<fl.size by omega]using this);have k3' : P.cellsOf fl[i].type=fs[i].2.2:=(by have h3:=Q9 k3 (i:=i) (by simp;omega) (by simp;omega);simp only[Option.map_eq_some_iff]at h3;obtain⟨inf,q1,q2⟩:=h3;simp at q2;simp at q1;simp[Program.cellsOf,q1,q2]);simp only[Prod.mk.injEq]at k2';rw[← e];rw[k2'.1,k2'.2]at this;rw[k2'.2]at k3';rw[k3']at this;exact⟨xs[i]'(by omega),by rw[this];simp⟩
     obtain⟨ds,a4⟩:=LF (λt ts cs x h hx=>JU hT f t ts n cs x h hx) h1 key;refine⟨ds,?_⟩;rw[List.drop_zero,List.take_of_length_le (by omega)]at a4;exact a4
    ·cases h
   ·cases h
  ·cases h
theorem UX(hT:TTok P tt)(f t:Nat)(ts:List Ty)(fuel:Nat)(cs:List Value)(x:DataW H×List MemPlace)(h:KK tt f t=some ts)(hx:DataW.trod enc P w 0 spare held fuel t cs=some x):∃ds,RdRow w ts ds cs:=(JU hT f t ts fuel cs x h hx).imp λ_ h=>h.1
end
end Go.Proofs.YthoidhehmmcgnaaGreat
namespace Go.Proofs.YthoidhehmmcgnaaGreat
set_option linter.unusedVariables false
set_option linter.unusedSimpArgs false
open Go.RowKit Go.Deep Go.ChangeShapes Go.WideShapes
section
variable {P : Program}
theorem Vp{w:World}{r:Reach}{base:Nat}{t:TypeId}{fs:Array Field}{cs:Array Value}(ht:P.underlying t=some (.struct fs))(h:Value.okWide P w r base t (.agg cs)){i:Nat}{n:Int}(hi:cs[i]?=some (.int .i64 n)):-9223372036854775808<=n/\n<=9223372036854775807:=by
 simp only[Value.okWide,ht]at h;obtain⟨cs',h1,h2,h3⟩:=h;obtain rfl:cs'=cs:=(Value.agg.inj h1).symm;obtain⟨ts,_,_,h4⟩:=h3;obtain⟨u,_,h5⟩:=h4 i _ hi;unfold Cell.okWide at h5;have h6:Cell.ok P w r base u (.int .i64 n):=by split at h5 <;> first|exact h5|(rename_i e;cases e)
 unfold Cell.ok at h6;split at h6 <;> first|exact h6.elim|skip
 all_goals try (rename_i e;cases e)
 all_goals first|(obtain⟨e,h7⟩:=h6;subst e;exact⟨h7.1,h7.2⟩)|(obtain⟨e,h7⟩:=h6;cases e)
theorem RdRow.int_at{w:World} : ∀{ts:List Ty}{ds:List Dat}{vs:List Value}(_:RdRow w ts ds vs){i:Nat}(_:ts[i]?=some .int),∃n,ds.getD i (.int 0)=.int n/\vs[i]?=some (.int .i64 n)
 | [],_,_,_,i,hi=>by simp at hi|t::ts,[],_,h,_,_=>by simp[RdRow]at h|t::ts,d::ds,[],h,_,_=>by simp[RdRow]at h|t::ts,d::ds,v::vs,h,0,hi=>by
  simp only[RdRow]at h;have hi:t=.int:=by simpa using hi
  subst hi;cases d with|int n=>exact⟨n,rfl,by have:=h.1;simp only[Rd]at this;simp[this]⟩|_=>have:=h.1;simp[Rd]at this
 |t::ts,d::ds,v::vs,h,i+1,hi=>by simp only[RdRow]at h;obtain⟨n,e1,e2⟩:=RdRow.int_at h.2 (i:=i) (by simpa using hi);exact⟨n,by simpa using e1,by simpa using e2⟩
theorem Mr{w:World}{r:Reach}{base:Nat}{t:TypeId}{fs:Array Field}{cs:Array Value}{ts:List Ty}{ds:List Dat}(ht:P.underlying t=some (.struct fs))(h:Value.okWide P w r base t (.agg cs))(hr:RdRow w ts ds cs.toList){i:Nat}(hi:ts[i]?=some .int):-9223372036854775808<=(ds.getD i (.int 0)).n/\(ds.getD i (.int 0)).n<=9223372036854775807:=by
 obtain⟨n,e1,e2⟩:=RdRow.int_at hr hi;rw[e1];have e2:cs[i]?=some (.int .i64 n):=by simpa using e2
 exact Vp ht h e2
theorem Vq{w:World}{r:Reach}{base:Nat}{t e:TypeId}{v:Value}(ht:P.underlying t=some (.slice e))(h:Value.okWide P w r base t v):v.cells.toList=[v]:=by simp only[Value.okWide,ht,Cell.okWide]at h;cases v <;> simp_all [Cell.ok,Value.cells]
theorem Su{w:World}{d:DC}{u:Value}(h:Rd w d.ty d.dat u)(a0:d.ok=true):DE (λb=>b<w.heap.size) w d u:=by
 cases d with
 |sl e ts rows=>exact RdS.of_rd _ _ _ h|ro d=>cases a0|im v=>
  have h2:=Fp.rd _ _ _ _ (DC.im_ok a0 w);simp only[DE];unfold DC.ok at a0;split at a0 <;> first|cases a0|skip
  all_goals simp_all [DC.ty,DC.dat,Rd]
theorem FQ{w:World} : ∀{dcs:List DC}{us:List Value},RdRow w (dcs.map DC.ty) (dcs.map DC.dat) us->dcs.all DC.ok=true->us.length=dcs.length/\∀(p:Nat)(d:DC)(u:Value),dcs[p]?=some d->us[p]?=some u->DE (λb=>b<w.heap.size) w d u
 | [],us,h,_=>by obtain⟨-,rfl⟩:=RdRow.nil_inv h;simp|d::ds,us,h,a0=>by
  simp only[List.all_cons,Bool.and_eq_true]at a0;obtain⟨u,us,rfl,h1,h2⟩:=RdRow.cons2 (by simpa using h);obtain⟨i1,i2⟩:=FQ h2 a0.2;refine⟨by simp[i1],λp d' u' hp hu=>?_⟩;cases p with|zero=>simp only[List.getElem?_cons_zero,Option.some.injEq]at hp hu;subst hp;subst hu;exact Su h1 a0.1|succ p=>exact i2 p d' u' (by simpa using hp) (by simpa using hu)
theorem JV{cs:List DC}{r:List DA}{l us:List Value}(h:l.length=cs.length):Be (.agg cs::r) (l++us)=.agg l.toArray::Be r us:=by simp only[Be];rw[List.take_left' h,List.drop_left' h]
theorem Xq{c:DC}{r:List DA}{u:Value}{us:List Value} : Be (.one c::r) (u::us)=u::Be r us:=rfl
theorem Vr{c:Con}{f:Nat}(hc:c.Ok P f)(a2:c.mu=[])(i:c.ι)(hp:c.pre i)(a1:c.res i=⟨false,[none],[.im (.bool true)]⟩){ts:List Ty}{ds:List Dat}{us:List Value}{w:World}(h:RdRow w ts ds us)
  (a3:Ty.eras ts=Ty.eras (((c.args i).flatMap DA.cells).map DC.ty)) (a4:ds=((c.args i).flatMap DA.cells).map DC.dat) (a5:((c.args i).flatMap DA.cells).all DC.ok=true) (hst:Stood w:=by exact⟨λ_ hb=>(List.not_mem_nil hb).elim,trivial⟩) :
  Calls P f (Be (c.args i) us).toArray w λe w'=>e=.returned (.bool true)/\Below w.heap.size w w':=by
 subst a4;obtain⟨h1,h2⟩:=FQ (h.cast a3) a5;refine(hc.calls i hp (λb=>b<w.heap.size) w us (λ_=>[]) ⟨h1,λ_ h=>h,λp d u hd hu _=>h2 p d u hd hu,λj p hj=>?_,λa b x _ _ _ hx=>by simp at hx,λj b _ hb=>by simp at hb,hst,λj b _ hb=>by simp at hb⟩).mono ?_;rw[a2]at hj;simp at hj;rintro e w' ⟨rs,bs,rfl,a0⟩;have hr:=a0.res;rw[a1]at hr;refine⟨?_,a0.os,a0.tape,a0.output,a0.size,λb hb=>a0.keep b hb (λj hj=>by rw[a2]at hj;simp at hj)⟩;rw[a1];cases rs with|nil=>simp[BU]at hr|cons r rs=>obtain⟨rfl,hr⟩:=(by simpa only[BU]using hr:r=_/\_);rfl
end
end Go.Proofs.YthoidhehmmcgnaaGreat
namespace Go.Proofs.YthoidhehmmcgnaaGreat
set_option linter.unusedVariables false
set_option linter.unusedSimpArgs false
open Go.RowKit
section
variable {P : Program} {f : Nat}
theorem IF{c:Con}(a2:c.mu=[])(en:Q3 P f)(hs:∀i,(c.res i).cells.length<=32)(a3:∀i,((c.args i).flatMap DA.cells).all DC.ok=true)(out:c.ι->List DC)(a1:∀i,(c.res i).cells=(out i).map DC.rc)(a4:∀i,(out i).all DC.ok=true)
  (hc:∀i,c.pre i->∀w us,RdRow w (((c.args i).flatMap DA.cells).map DC.ty) (((c.args i).flatMap DA.cells).map DC.dat) us->Calls P f (Be (c.args i) us).toArray w λe w'=>∃rs,e=.returned ((c.res i).val rs)/\Own w' w.heap.size w'.heap.size ((out i).map DC.ty) ((out i).map DC.dat) rs/\Below w.heap.size w w') (a5:c.mono=false:=by rfl):c.Ok P f where
 enter:=en
 small:=hs
 calls:=by intro i hp F w us mb h;rw[a2]at h;refine(hc i hp w us (Hh h (a3 i))).mono ?_;rintro e w' ⟨rs,rfl,ho,hb⟩;obtain⟨bs,a0⟩:=Mh (c:=c) (i:=i) (F:=F) (us:=us) (mb:=mb) a2 (a1 i) hb ho rfl (a4 i);exact⟨rs,bs,rfl,a0⟩
 quiet:=λh=>by rw[a5]at h;cases h
theorem Con.Ok.rd{c:Con}(hc:c.Ok P f)(a2:c.mu=[])(i:c.ι)(hp:c.pre i){ts:List Ty}{ds:List Dat}{us:List Value}{w:World}(h:RdRow w ts ds us)(hst:Stood w)
  (a3:Ty.eras ts=Ty.eras (((c.args i).flatMap DA.cells).map DC.ty)) (a4:ds=((c.args i).flatMap DA.cells).map DC.dat) (a5:((c.args i).flatMap DA.cells).all DC.ok=true) {v:Value} (a1:c.res i=⟨false,[none],[.im v]⟩) :
  Calls P f (Be (c.args i) us).toArray w λe w'=>e=.returned v/\Below w.heap.size w w':=by
 subst a4;obtain⟨h1,h2⟩:=FQ (h.cast a3) a5;refine(hc.calls i hp (λb=>b<w.heap.size) w us (λ_=>[]) ⟨h1,λ_ h=>h,λp d u hd hu _=>h2 p d u hd hu,λj p hj=>?_,λa b x _ _ _ hx=>by simp at hx,λj b _ hb=>by simp at hb,hst,λj b _ hb=>by simp at hb⟩).mono ?_;rw[a2]at hj;simp at hj;rintro e w' ⟨rs,bs,rfl,a0⟩;have hr:=a0.res;rw[a1]at hr;refine⟨?_,a0.os,a0.tape,a0.output,a0.size,λb hb=>a0.keep b hb (λj hj=>by rw[a2]at hj;simp at hj)⟩;rw[a1];cases rs with|nil=>simp[BU]at hr|cons u us=>simp only[BU]at hr;obtain⟨rfl,hr⟩:=hr;rfl
theorem EU{cells:List DC}{us:List Value}(h:us.length=cells.length):Be [.agg cells] us=[.agg us.toArray]:=by simp only[Be];rw[List.take_of_length_le (by omega)]
end
end Go.Proofs.YthoidhehmmcgnaaGreat
namespace Go.Proofs.YthoidhehmmcgnaaGreat
set_option linter.unusedVariables false
set_option linter.unusedSimpArgs false
open Go.RowKit
structure BigD where
 neg:Bool
 num:List (List Dat)
def szR(a:Nat)(n:Int):Int:=if n<(a:Int)then -1 else n-a
theorem AU{a b:Int}{k:IntKind}(h:a=b):Value.int k a=Value.int k b:=by rw[h]
def Ty.num:Ty->Bool
 | .int=>true| .bool=>true|_=>false
theorem Iw:∀{ts:List Ty}{ds:List Dat},ts.all Ty.num=true->hasRow ts ds->Ae ds=0
 | [],[],_,_=>rfl| [],_::_,_,h=>by simp[hasRow]at h|_::_,[],_,h=>by simp[hasRow]at h|t::ts,d::ds,hl,h=>by simp only[List.all_cons,Bool.and_eq_true]at hl;simp only[hasRow]at h;have:=Iw hl.2 h.2;cases t <;> cases d <;> simp_all [Dat.has,Ty.num,Ae,Dat.sz]
theorem JW{e:Nat}{ts:List Ty}{l:List (List Dat)}(hl:ts.all Ty.num=true)(h:Dat.has (.sl e ts) (.sl l)):Aa l=0:=by simp only[Dat.has]at h;exact QG λk hk=>Iw hl (h.2 k hk)
theorem Dl{e:Nat}{ts:List Ty}{l:List (List Dat)}(h:Dat.has (.sl e ts) (.sl l)):∀k,k<l.length->hasRow ts (l.getD k []):=by simp only[Dat.has]at h;exact h.2
theorem GR{e:Nat}{ts:List Ty}{l:List (List Dat)}(h:Dat.has (.sl e ts) (.sl l)):l.length<=9223372036854775807:=by simp only[Dat.has]at h;exact h.1
theorem hasRow.cons{t:Ty}{ts:List Ty}{ds:List Dat}(h:hasRow (t::ts) ds):∃d ds',ds=d::ds'/\Dat.has t d/\hasRow ts ds':=by
 cases ds with|nil=>simp[hasRow]at h|cons d ds=>exact⟨d,ds,rfl,by simpa[hasRow]using h⟩
theorem hasRow.nil{ds:List Dat}(h:hasRow [] ds):ds=[]:=by cases ds <;> simp[hasRow]at h ⊢
theorem Dat.has_int{d:Dat}(h:Dat.has .int d):∃n,d=.int n:=by cases d <;> simp[Dat.has]at h ⊢
theorem Dat.has_bool{d:Dat}(h:Dat.has .bool d):∃n,d=.bool n:=by cases d <;> simp[Dat.has]at h ⊢
theorem Dat.has_sl{d:Dat}{e:Nat}{ts:List Ty}(h:Dat.has (.sl e ts) d):∃n,d=.sl n:=by cases d <;> simp[Dat.has]at h ⊢
end Go.Proofs.YthoidhehmmcgnaaGreat
namespace Go.Proofs.YthoidhehmmcgnaaGreat
set_option linter.unusedVariables false
set_option linter.unusedSimpArgs false
open Go.RowKit
mutual
def Ty.K:Ty->Nat
 | .sl _ ts=>Hj ts|_=>1
def Hj:List Ty->Nat
 | []=>0|t::ts=>t.K+Hj ts
end
mutual
theorem Xr:∀(t:Ty)(d:Dat),Dat.has t d->d.cnt<=t.K*(1+d.sz)
 | .int,d,h=>by cases d <;> simp[Dat.has,Dat.cnt,Ty.K]at h ⊢| .bool,d,h=>by cases d <;> simp[Dat.has,Dat.cnt,Ty.K]at h ⊢| .str,d,h=>by cases d <;> simp[Dat.has,Dat.cnt,Ty.K]at h ⊢| .sl e ts,d,h=>by
  cases d with
  |sl ls=>
   simp only[Dat.has]at h;simp only[Dat.cnt,Ty.K,Dat.sz]
   have key:∀k,k<=ls.length->AA (ls.take k)<=Hj ts*(k+Aa (ls.take k)):=by
    intro k;induction k with|zero=>intro _;simp[AA]|succ k ih=>intro hk;rw[I3 ls k (by omega),Kl ls k (by omega)];have h1:=ih (by omega);have h2:=IG ts _ (h.2 k (by omega));rw[Nat.mul_add]at h1 h2;rw[Nat.mul_add,Nat.mul_add,Nat.mul_add];omega
   have:=key ls.length (Nat.le_refl _);rw[List.take_length]at this;refine Nat.le_trans this ?_;exact Nat.mul_le_mul_left _ (by omega)
  |_=>simp[Dat.has]at h
theorem IG:∀(ts:List Ty)(ds:List Dat),hasRow ts ds->Aj ds<=Hj ts*(1+Ae ds)
 | [],ds,h=>by cases ds <;> simp[hasRow,Aj]at h ⊢|t::ts,[],h=>by simp[hasRow]at h|t::ts,d::ds,h=>by simp only[hasRow]at h;have h1:=Xr t d h.1;have h2:=IG ts ds h.2;simp only[Aj,Hj,Ae];have h3:t.K*(1+d.sz)<=t.K*(1+(d.sz+Ae ds)):=Nat.mul_le_mul_left _ (by omega);have h4:Hj ts*(1+Ae ds)<=Hj ts*(1+(d.sz+Ae ds)):=Nat.mul_le_mul_left _ (by omega);rw[Nat.add_mul];omega
end
theorem LG:∀ds:List Dat,cntV ds<=Aj ds
 | []=>Nat.le_refl _|d::ds=>by
  simp only[cntV,Aj];have:=LG ds;have:d.cntV<=d.cnt:=by cases d <;> simp[Dat.cntV,Dat.cnt]
  omega
theorem Sv{ts:List Ty}{ds:List Dat}(h:hasRow ts ds)(hs:Ae ds<=1048576)(hK:Hj ts<=1000):(cntV ds:Int)<=2000000000:=by have h1:=LG ds;have h2:=IG ts ds h;have h3:Hj ts*(1+Ae ds)<=1000*(1+Ae ds):=Nat.mul_le_mul_right _ hK;omega
theorem Fl{e:Nat}{ts:List Ty}{l:List (List Dat)}(h:Dat.has (.sl e ts) (.sl l))(hs:l.length+Aa l<=1048576)(hK:Hj ts<=1000):(AA l:Int)<=2000000000:=by have h2:=Xr _ _ h;simp only[Dat.cnt,Ty.K,Dat.sz]at h2;have h3:Hj ts*(1+(l.length+Aa l))<=1000*(1+(l.length+Aa l)):=Nat.mul_le_mul_right _ hK;omega
def ZC(e:Nat):List Ty:=[.int,.bool,.sl e [.int],.sl e [.int],.bool,.sl e [.int],.sl e [.int]]
def plGood(e:Nat)(p:PlD):Prop:=(∃w vs,RdRow w (ZC e) p.row vs)/\Ae p.row<=1048576
theorem plGood.has{e:Nat}{p:PlD}(h:plGood e p):hasRow (ZC e) p.row:=by obtain⟨⟨w,vs,h⟩,_⟩:=h;exact RdRow.has _ _ _ h
theorem plGood.ok{e:Nat}{p:PlD}(h:plGood e p):p.ok:=by have:=h.2;simp only[PlD.row,Ae,Dat.sz]at this;refine⟨⟨?_,?_⟩,⟨?_,?_⟩⟩ <;> omega
theorem plGood.cnt{e:Nat}{p:PlD}(h:plGood e p):(cntV p.row:Int)<=2000000000:=Sv h.has h.2 (by simp[Hj,ZC,Ty.K])
theorem plGood.at{e:Nat}{p:PlD}(n:Int)(h:plGood e p):plGood e ⟨n,p.pt⟩:=by obtain⟨⟨w,vs,h⟩,hs⟩:=h;refine⟨?_,by simpa[PlD.row,Ae,Dat.sz]using hs⟩;simp only[PlD.row,ZC]at h ⊢;obtain⟨v,vs,rfl,h1,h2⟩:=RdRow.cons2 h;exact⟨w,.int .i64 n::vs,RdRow.mk_cons (Rd.mk_int n) h2⟩
theorem plGood.after{e:Nat}{q x:PlD}(hq:plGood e q)(hx:plGood e x):plGood e (Xa q x):=by unfold Xa;split;exact hx.at q.h;split;exact hq.at _;exact hq
theorem Sw{a:Nat}{n:Int}(h:0<=szR a n):szR a n=n-a/\(a:Int)<=n:=by unfold szR at *;split at h;omega;rename_i hn;rw[if_neg hn];exact⟨rfl,by omega⟩
end Go.Proofs.YthoidhehmmcgnaaGreat
namespace Go.Proofs.YthoidhehmmcgnaaGreat
set_option linter.unusedVariables false
set_option linter.unusedSimpArgs false
open Go.RowKit
end Go.Proofs.YthoidhehmmcgnaaGreat
