import Ieee.Arith
import Derived.Laws.FloatArith
import Derived.Test.YthoidhehmmcgnaaGreatWtExD
namespace Go.Proofs.YthoidhehmmcgnaaGreat
set_option linter.unusedVariables false
set_option linter.unusedSimpArgs false
namespace Flt
open Ieee
abbrev D:Format:=Ieee.double
theorem UY:D.leastPlace=-1074:=by decide
theorem RA:D.binade=2^52:=by decide
theorem AAF:D.infRung=2047*2^52:=by decide +kernel
theorem AAr:D.signWeight=2^63:=by decide
theorem Vv{t k:Nat}(hk:k<=2^53)(h0:t=0\/2^52<=k)(ht:t<=2000):∃m e:Nat,D.read (t*2^52+k)=.number false m ((e:Int)-1074)/\m*2^e=k*2^t/\m<=2^53:=by
 have hb:(t*2^52+k)/2^63%2=0:=by rw[Nat.div_eq_of_lt (by omega)]
 have hm:(t*2^52+k)%2^63=t*2^52+k:=Nat.mod_eq_of_lt (by omega);unfold Format.read;have a0:((0:Nat) == 1)=false:=by decide
 simp only[AAr,hb,hm,RA,AAF,UY,a0];by_cases h1:t*2^52+k<2^52;rw[if_pos h1];have:t=0:=by omega
 subst this;refine⟨0*2^52+k,0,?_,by omega,by omega⟩;rw[show(((0:Nat):Int)-1074)=-1074 by omega];rw[if_neg h1,if_pos (by omega)];by_cases h2:k=2^53;have e1:(t*2^52+k)%2^52=0:=by omega
 have e2:(t*2^52+k)/2^52=t+2:=by omega
 rw[e1,e2];refine⟨2^52+0,t+1,?_,?_,by omega⟩;rw[show(-1074+((t+2-1:Nat):Int))=((t+1:Nat):Int)-1074 by omega];rw[h2,Nat.pow_succ 2 t];omega;by_cases h3:k<2^52;have:t=0:=by omega
 omega;have e1:(t*2^52+k)%2^52=k-2^52:=by omega
 have e2:(t*2^52+k)/2^52=t+1:=by omega
 rw[e1,e2];refine⟨2^52+(k-2^52),t,?_,?_,by omega⟩;rw[show(-1074+((t+1-1:Nat):Int))=(t:Int)-1074 by omega];rw[show 2^52+(k-2^52)=k by omega]
def Near(X Y:Nat):Prop:=Y*2^52<=X*(2^52+1)/\X*(2^52-1)<=Y*2^52
theorem ACm(n:Nat):Toward.even.cut false n 0=n:=by unfold Toward.cut;simp[Nat.mod_one]
theorem ACn{n d:Nat}(h:d<=n.log2+2):∃c,Toward.even.cut false n d=n/2^d+c/\((c=0/\2*(n%2^d)<=2^d)\/(c=1/\2^d<=2*(n%2^d))):=by unfold Toward.cut;rw[Nat.min_eq_left h,Nat.shiftLeft_eq,Nat.one_mul];refine⟨_,rfl,?_⟩;generalize n%2^d=r;generalize n/2^d%2=z;generalize 2^d=g;by_cases a1:g<2*r;right;simp[a1];omega;by_cases a0:g=2*r;by_cases hz:z=1;right;simp[a0,hz];left;simp[a0,hz];left;simp[a1,a0];omega
theorem AAs{X Y k:Nat}(h:Near X Y):Near (X*k) (Y*k):=by
 obtain⟨h1,h2⟩:=h;have a1:=Nat.mul_le_mul_right k h1;have a2:=Nat.mul_le_mul_right k h2;unfold Near;constructor
 calc Y*k*2^52=Y*2^52*k:=Nat.mul_right_comm _ _ _
  _<=_:=a1
  _=_:=Nat.mul_right_comm _ _ _
 calc X*k*(2^52-1)=X*(2^52-1)*k:=Nat.mul_right_comm _ _ _
  _<=_:=a2
  _=_:=Nat.mul_right_comm _ _ _
theorem IJ(X:Nat):Near X X:=by unfold Near;omega
theorem ACo{m P L t:Nat}(hL1:2^L<=m)(hL2:m<2^(L+1))(hl:m.log2=L)(ht:P+L-52=t):∃k,Toward.even.cut false (m <<< (P-t)) (t-P)=k/\k<=2^53/\(t=0\/2^52<=k)/\Near (m*2^P) (k*2^t):=by
 refine⟨_,rfl,?_⟩;by_cases hL:L<=52;have h0:t-P=0:=by omega
 rw[h0,ACm,Nat.shiftLeft_eq];have a2:m*2^(P-t)<2^(L+1+(P-t)):=by rw[Nat.pow_add];exact Nat.mul_lt_mul_of_pos_right hL2 (Nat.pow_pos (by decide))
 have a3:2^(L+(P-t))<=m*2^(P-t):=by rw[Nat.pow_add];exact Nat.mul_le_mul_right _ hL1
 have hX:m*2^(P-t)*2^t=m*2^P:=by rw[Nat.mul_assoc,← Nat.pow_add];congr 2;omega
 refine⟨?_,?_,?_⟩;exact Nat.le_of_lt (Nat.lt_of_lt_of_le a2 (Nat.pow_le_pow_right (by decide) (by omega)));by_cases h:t=0;exact .inl h;exact .inr (Nat.le_trans (Nat.pow_le_pow_right (by decide) (by omega)) a3);rw[hX];exact IJ _;have h0:P-t=0:=by omega
 have h1:t-P=L-52:=by omega
 rw[h0,h1,Nat.shiftLeft_zero];obtain⟨c,hc,a0⟩:=ACn (n:=m) (d:=L-52) (by omega);rw[hc];have a1:=Nat.div_add_mod m (2^(L-52));have hr:=Nat.mod_lt m (Nat.pow_pos (n:=L-52) (show 0<2 by decide));have hq1:2^52<=m/2^(L-52):=by rw[Nat.le_div_iff_mul_le (Nat.pow_pos (by decide)),← Nat.pow_add,show 52+(L-52)=L by omega];exact hL1
 have hq2:m/2^(L-52)<2^53:=by rw[Nat.div_lt_iff_lt_mul (Nat.pow_pos (by decide)),← Nat.pow_add,show 53+(L-52)=L+1 by omega];exact hL2
 have hc1:c<=1:=by omega
 refine⟨by omega,.inr (by omega),?_⟩;have hX:m*2^P=(2^(L-52)*(m/2^(L-52))+m%2^(L-52))*2^P:=by rw[a1]
 have hY:(m/2^(L-52)+c)*2^t=((m/2^(L-52)+c)*2^(L-52))*2^P:=by rw[Nat.mul_assoc,← Nat.pow_add];congr 2;omega
 rw[hX,hY];apply AAs;generalize m/2^(L-52)=q at *;generalize m%2^(L-52)=r at *;generalize 2^(L-52)=g at *;have hgq:g*2^52<=g*q:=Nat.mul_le_mul_left g hq1;clear hX hY a1 hc hL1 hL2;unfold Near;rcases a0 with⟨rfl,h⟩|⟨rfl,h⟩;rw[Nat.add_zero,Nat.mul_comm q g];generalize g*q=z at *;omega;rw[Nat.add_mul,Nat.mul_comm q g,Nat.one_mul];generalize g*q=z at *;omega
theorem RB(r:Nat):D.word false r=r:=by unfold Format.word;exact if_neg (by decide)
theorem Xt{t k:Nat}(hk:k<=2^53)(ht:t<=2000):min (t*2^52+k) (2047*2^52)=t*2^52+k:=Nat.min_eq_left (by omega)
theorem PV{m P:Nat}(hm:m≠0)(hPL:P+m.log2<1900) :
  ∃m' e' : Nat,D.read (D.nearest false m ((P:Int)-1074))=.number false m' ((e' : Int)-1074)/\Near (m*2^P) (m' * 2^e')/\m'<=2^53:=by
 have hL1:=Nat.log2_self_le hm;have hL2:=Nat.lt_log2_self (n:=m);obtain⟨L,hLe⟩:∃L,m.log2=L:=⟨_,rfl⟩;rw[hLe]at hPL hL1 hL2;obtain⟨t,ht⟩:∃t,P+L-52=t:=⟨_,rfl⟩;obtain⟨k,hk,hk1,hk2,hk3⟩:=ACo hL1 hL2 hLe ht
 have key:D.nearest false m ((P:Int)-1074)=t*2^52+k:=by
  unfold Format.nearest;rw[if_neg hm];simp only[UY,RA,AAF,hLe];have a0:max ((P:Int)-1074+(L:Nat)-(D.fractionBits:Nat)) (-1074)=(t:Int)-1074:=by have:D.fractionBits=52:=rfl;rw[this];omega
  rw[a0];have e1:((P:Int)-1074-((t:Int)-1074)).toNat=P-t:=by omega
  have e2:((t:Int)-1074-((P:Int)-1074)).toNat=t-P:=by omega
  have e3:((t:Int)-1074 - -1074).toNat=t:=by omega
  rw[e1,e2,e3,hk];have a1:=Xt hk1 (show t<=2000 by clear hk hk1 hk2 hk3 hL1 hL2;omega);exact(congrArg (D.word false) a1).trans (RB _)
 obtain⟨m',e',r1,r2,r3⟩:=Vv hk1 hk2 (show t<=2000 by clear hk hk1 hk2 hk3 hL1 hL2 key;omega);rw[← key]at r1;rw[← r2]at hk3;exact⟨m',e',r1,hk3,r3⟩
def Fv(b X:Nat):Prop:=∃m e:Nat,D.read b=.number false m ((e:Int)-1074)/\m*2^e=X/\m<=2^53
theorem ABp:D.read 0=.number false 0 (-1074):=by decide +kernel
theorem ABq(p:Int):D.nearest false 0 p=0:=by unfold Format.nearest;rw[if_pos rfl];exact RB 0
theorem Fv.zero(p:Int):Fv (D.nearest false 0 p) 0:=by refine⟨0,0,?_,Nat.zero_mul _,Nat.zero_le _⟩;rw[ABq,ABp];rfl
theorem AAt{m P K:Nat}(hm:m≠0)(h:m*2^P<2^K):P+m.log2<K:=by
 have h1:=Nat.log2_self_le hm;apply Nat.lt_of_not_le;intro a0;have h2:2^K<=2^(P+m.log2):=Nat.pow_le_pow_right (by decide) a0;have h3:2^(P+m.log2)<=m*2^P:=by rw[Nat.pow_add,Nat.mul_comm];exact Nat.mul_le_mul_right _ h1
 exact absurd (Nat.le_trans h2 h3) (Nat.not_le.2 h)
theorem JX(m P:Nat){K:Nat}(hK:K<=1900)(hX:m*2^P<2^K):∃Y,Fv (D.nearest false m ((P:Int)-1074)) Y/\Near (m*2^P) Y:=by by_cases hm:m=0;subst hm;refine⟨0,Fv.zero _,?_⟩;rw[Nat.zero_mul];exact IJ 0;obtain⟨m',e',h1,h2,h3⟩:=PV hm (Nat.lt_of_lt_of_le (AAt hm hX) hK);exact⟨_,⟨m',e',h1,rfl,h3⟩,h2⟩
theorem AAu{E:Nat}(hE:E=1074)(n:Nat)(h:n<2^64):∃Y,Fv (D.nearest false n ((E:Int)-1074)) Y/\Near (n*2^E) Y:=by have h2:n*2^E<2^64*2^E:=Nat.mul_lt_mul_of_pos_right h (Nat.pow_pos (by decide));rw[← Nat.pow_add]at h2;exact JX n E (K:=64+E) (by omega) h2
theorem AAv{x y X Y:Nat}(hx:Fv x X)(hy:Fv y Y){K:Nat}(hK:K<=1900)(h:X+Y<2^K):∃r Z,D.add x y=some r/\Fv r Z/\Near (X+Y) Z:=by
 obtain⟨m,i,r1,rfl,_⟩:=hx;obtain⟨n,j,r2,rfl,_⟩:=hy;unfold Format.add;rw[r1,r2];have e1:((i:Int)-1074-min ((i:Int)-1074) ((j:Int)-1074)).toNat=i-min i j:=by omega
 have e2:((j:Int)-1074-min ((i:Int)-1074) ((j:Int)-1074)).toNat=j-min i j:=by omega
 have e3:min ((i:Int)-1074) ((j:Int)-1074)=((min i j:Nat):Int)-1074:=by omega
 simp only[Datum.sum,e1,e2,signed,Bool.false_eq_true,if_false,Option.map_some,Format.write,Nat.shiftLeft_eq];have hn:(((m*2^(i-min i j):Nat):Int)+((n*2^(j-min i j):Nat):Int))=((m*2^(i-min i j)+n*2^(j-min i j):Nat):Int):=by simp
 rw[hn];have hs:∀t:Nat,(if(t:Int)=0 then(false && false)else decide ((t:Int)<0))=false:=by intro t;split;rfl;exact decide_eq_false (by omega)
 rw[hs,Int.natAbs_natCast,e3];have hX:(m*2^(i-min i j)+n*2^(j-min i j))*2^(min i j)=m*2^i+n*2^j:=by rw[Nat.add_mul,Nat.mul_assoc,Nat.mul_assoc,← Nat.pow_add,← Nat.pow_add];congr 3 <;> omega
 obtain⟨Z,z1,z2⟩:=JX (m*2^(i-min i j)+n*2^(j-min i j)) (min i j) hK (by rw[hX];exact h);exact⟨_,Z,rfl,z1,by rw[hX]at z2;exact z2⟩
theorem Cb{m e k:Nat}(hm:m<=2^53)(h:2^(53+k)<=m*2^e):k<=e:=by apply Nat.le_of_not_lt;intro a0;have h1:m*2^e<=2^53*2^e:=Nat.mul_le_mul_right _ hm;have h2:2^53*2^e<2^53*2^k:=Nat.mul_lt_mul_of_pos_left (Nat.pow_lt_pow_right (by decide) a0) (by decide);rw[← Nat.pow_add 2 53 k]at h2;omega
theorem AAw{E:Nat}(hE:E=1074){x y X Y:Nat}(hx:Fv x X)(hy:Fv y Y)(h0:X=0\/2^E<=X)(h1:2^E<=Y){K:Nat}(hK:K<=1900)(h:X*Y<2^K*2^E) :
  ∃r Z V,D.mul x y=some r/\Fv r Z/\Near V Z/\V*2^E=X*Y:=by
 obtain⟨m,i,r1,rfl,hm⟩:=hx;obtain⟨n,j,r2,rfl,hn⟩:=hy;unfold Format.mul;rw[r1,r2];simp only[Datum.product,Bool.bne_false,Option.map_some,Format.write];by_cases hm0:m=0;subst hm0;refine⟨_,0,0,rfl,?_,IJ 0,by rw[Nat.zero_mul,Nat.zero_mul,Nat.zero_mul]⟩;rw[Nat.zero_mul];exact Fv.zero _;have hX:2^E<=m*2^i:=by rcases h0 with h0|h0;rcases Nat.mul_eq_zero.1 h0 with h0|h0;exact absurd h0 hm0;exact absurd h0 (Nat.ne_of_gt (Nat.pow_pos (by decide)));exact h0
 have hi:E-53<=i:=Cb hm (by rw[show 53+(E-53)=E by omega];exact hX);have hj:E-53<=j:=Cb hn (by rw[show 53+(E-53)=E by omega];exact h1);have e3:(i:Int)-1074+((j:Int)-1074)=((i+j-E:Nat):Int)-1074:=by omega
 rw[e3];have hV:m*n*2^(i+j-E)*2^E=m*2^i*(n*2^j):=by rw[Nat.mul_assoc (m*n),← Nat.pow_add,show i+j-E+E=i+j by omega,Nat.pow_add];simp only[Nat.mul_assoc,Nat.mul_comm,Nat.mul_left_comm]
 obtain⟨Z,z1,z2⟩:=JX (m*n) (i+j-E) hK (by apply Nat.lt_of_mul_lt_mul_right (a:=2^E);rw[hV];exact h);exact⟨_,Z,_,rfl,z1,z2,hV⟩
theorem Xu{E:Nat}(hE:E=1074){x X:Nat}(hx:Fv x X)(h:X/2^E<2^62):(D.read x).toInt .zero=some ((X/2^E:Nat):Int):=by
 obtain⟨m,i,r1,rfl,hm⟩:=hx;rw[r1];simp only[Datum.toInt,Datum.integral,signed,Bool.false_eq_true,if_false,Nat.shiftLeft_zero];congr 2;unfold Toward.cut;simp only[Bool.toNat_false,Nat.add_zero,Nat.shiftLeft_eq,Nat.one_mul];by_cases hi:E<=i;have e1:(-((i:Int)-1074)).toNat=0:=by omega
 have e2:((i:Int)-1074).toNat=i-E:=by omega
 rw[e1,e2,Nat.zero_min,Nat.pow_zero,Nat.div_one];have:m*2^i=m*2^(i-E)*2^E:=by rw[Nat.mul_assoc,← Nat.pow_add];congr 2;omega
 rw[this,Nat.mul_div_cancel _ (Nat.pow_pos (by decide))];have e1:(-((i:Int)-1074)).toNat=E-i:=by omega
 have e2:((i:Int)-1074).toNat=0:=by omega
 rw[e1,e2,Nat.pow_zero,Nat.mul_one]
 have hd:m*2^i/2^E=m/2^(E-i):=by
  have:(2:Nat)^E=2^(E-i)*2^i:=by rw[← Nat.pow_add];congr 1;omega
  rw[this,Nat.mul_div_mul_right _ _ (Nat.pow_pos (by decide))]
 rw[hd];by_cases a0:E-i<=m.log2+2;rw[Nat.min_eq_left a0];rw[Nat.min_eq_right (by omega)];have h1:m<2^(m.log2+2):=Nat.lt_of_lt_of_le Nat.lt_log2_self (Nat.pow_le_pow_right (by decide) (by omega));have h2:m<2^(E-i):=Nat.lt_of_lt_of_le h1 (Nat.pow_le_pow_right (by decide) (by omega));rw[Nat.div_eq_of_lt h1,Nat.div_eq_of_lt h2]
theorem qb1{A C n:Nat}(h1:A<=C+n)(h2:n*2^52<=C):A*2^52<=C*(2^52+1):=by have h3:=Nat.mul_le_mul_right (2^52) h1;rw[Nat.add_mul]at h3;rw[Nat.mul_add,Nat.mul_one];exact Nat.le_trans h3 (Nat.add_le_add_left h2 _)
theorem qb2{A C n:Nat}(h1:C<=A+2*n)(h2:2*n*2^52<=C):C*(2^52-1)<=A*2^52:=by have h3:=Nat.mul_le_mul_right (2^52) h1;rw[Nat.add_mul]at h3;rw[Nat.mul_sub,Nat.mul_one];exact Nat.sub_le_of_le_add (Nat.le_trans h3 (Nat.add_le_add_left h2 _))
theorem UZ{n B:Nat}(h:n*2^53<=B):n*2^52<=2*B/\2*n*2^52<=2*B:=by omega
theorem AAx{E:Nat}(hE:E=1074){x y X Y:Nat}(hx:Fv x X)(hy:Fv y Y)(h0:2^E<=X)(h1:2^E<=Y){K:Nat}(hK:K<=1200)(hX:X<2^K)(hY:Y<2^K) :
  ∃r Z V,D.div x y=some r/\Fv r Z/\Near V Z/\V*Y*2^52<=X*2^E*(2^52+1)/\X*2^E*(2^52-1)<=V*Y*2^52:=by
 obtain⟨m,i,r1,rfl,hm⟩:=hx;obtain⟨n,j,r2,rfl,hn⟩:=hy;have hi:E-53<=i:=Cb hm (by rw[show 53+(E-53)=E by omega];exact h0);have hj:E-53<=j:=Cb hn (by rw[show 53+(E-53)=E by omega];exact h1);have hm0:m≠0:=by rintro rfl;rw[Nat.zero_mul]at h0;exact absurd h0 (Nat.not_le.2 (Nat.pow_pos (by decide)))
 have hn0:n≠0:=by rintro rfl;rw[Nat.zero_mul]at h1;exact absurd h1 (Nat.not_le.2 (Nat.pow_pos (by decide)))
 have lt_e:∀{a e:Nat},a≠0->a*2^e<2^K->e<K:=by intro a e ha h;apply Nat.lt_of_not_le;intro a7;have h1:2^K<=2^e:=Nat.pow_le_pow_right (by decide) a7;have h2:2^e<=a*2^e:=Nat.le_mul_of_pos_left _ (Nat.pos_of_ne_zero ha);omega
 have hi2:=lt_e hm0 hX;have hj2:=lt_e hn0 hY;unfold Format.div;rw[r1,r2];simp only[Datum.quotient,if_neg hn0,Bool.bne_false,Option.map_some,Format.write];have hf:D.fractionBits+2=54:=rfl;rw[hf];generalize hk:54+n.log2-m.log2=k;have lm1:=Nat.log2_self_le hm0;have lm2:=Nat.lt_log2_self (n:=m);have ln1:=Nat.log2_self_le hn0;have ln2:=Nat.lt_log2_self (n:=n);have lnle:n.log2<=53:=by apply Nat.le_of_not_lt;intro a6;have:2^54<=2^n.log2:=Nat.pow_le_pow_right (by decide) a6;omega
 have lmle:m.log2<=53:=by apply Nat.le_of_not_lt;intro a6;have:2^54<=2^m.log2:=Nat.pow_le_pow_right (by decide) a6;omega
 have e3:(i:Int)-1074-((j:Int)-1074)-(k:Int)-1=((i+(E-1)-j-k:Nat):Int)-1074:=by omega
 rw[e3,Nat.shiftLeft_eq];generalize hP:i+(E-1)-j-k=P
 have a0:n*2^53<=m*2^k:=by
  have a1:n*2^53<=2^(n.log2+1)*2^53:=Nat.mul_le_mul_right _ (Nat.le_of_lt ln2);have a2:2^m.log2*2^k<=m*2^k:=Nat.mul_le_mul_right _ lm1;rw[← Nat.pow_add]at a1 a2;have:n.log2+1+53=m.log2+k:=by omega
  rw[this]at a1;omega
 have a8:=Nat.div_add_mod (m*2^k) n;have hr:=Nat.mod_lt (m*2^k) (Nat.pos_of_ne_zero hn0)
 obtain⟨q,hq,hq1,hq2⟩:∃q,2*(m*2^k/n)+(m*2^k%n != 0).toNat=q/\q*n<=2*(m*2^k)+n/\2*(m*2^k)<=q*n+2*n:=by
  refine⟨_,rfl,?_,?_⟩
  ·rw[Nat.add_mul,Nat.mul_assoc,Nat.mul_comm (m*2^k/n) n]
   by_cases hz:m*2^k%n=0;·simp only[hz,bne_self_eq_false,Bool.toNat_false,Nat.zero_mul];omega
   ·have:(m*2^k%n != 0)=true:=by simpa using hz
    simp only[this,Bool.toNat_true,Nat.one_mul];omega
  ·rw[Nat.add_mul,Nat.mul_assoc,Nat.mul_comm (m*2^k/n) n]
   have:=Nat.zero_le ((m*2^k%n != 0).toNat*n);omega
 rw[hq];have a4:q<=2^60*2^k:=by have a1:q<=q*n:=Nat.le_mul_of_pos_right _ (Nat.pos_of_ne_zero hn0);have a2:m*2^k<=2^53*2^k:=Nat.mul_le_mul_right _ hm;have a3:1<=2^k:=Nat.pow_pos (by decide);omega
 obtain⟨K2,hK2⟩:∃K2,K2=1900:=⟨_,rfl⟩;have a5:q*2^P<2^K2:=by have a1:q*2^P<=2^60*2^k*2^P:=Nat.mul_le_mul_right _ a4;rw[← Nat.pow_add,← Nat.pow_add]at a1;have:2^(60+k+P)<2^K2:=Nat.pow_lt_pow_right (by decide) (by omega);omega
 obtain⟨Z,z1,z2⟩:=JX q P (by omega) a5;refine⟨_,Z,_,rfl,z1,z2,?_,?_⟩
 all_goals
  have hVY:q*2^P*(n*2^j)=q*n*2^(P+j):=by rw[Nat.pow_add];simp only[Nat.mul_assoc,Nat.mul_comm,Nat.mul_left_comm]
  have hXS:m*2^i*2^E=2*(m*2^k)*2^(P+j):=by have e4:i+E=1+(k+(P+j)):=(by clear hX hY h0 h1 a0 a8 hr hq hq1 hq2 a4 a5 z1 z2 hVY lm1 lm2 ln1 ln2;omega);rw[Nat.mul_assoc,← Nat.pow_add,e4];generalize P+j=u;rw[Nat.pow_add,Nat.pow_add,Nat.pow_one];rw[Nat.mul_assoc 2,Nat.mul_assoc m,← Nat.mul_assoc m 2,Nat.mul_comm m 2,Nat.mul_assoc 2]
  rw[hVY,hXS]
 ·have:q*n*2^52<=2*(m*2^k)*(2^52+1):=qb1 hq1 (UZ a0).1
  have:=Nat.mul_le_mul_right (2^(P+j)) this
  calc q*n*2^(P+j)*2^52=q*n*2^52*2^(P+j):=by simp only[Nat.mul_assoc,Nat.mul_comm,Nat.mul_left_comm]
   _<=_:=this
   _=_:=by simp only[Nat.mul_assoc,Nat.mul_comm,Nat.mul_left_comm]
 ·have:2*(m*2^k)*(2^52-1)<=q*n*2^52:=qb2 hq2 (UZ a0).2
  have:=Nat.mul_le_mul_right (2^(P+j)) this
  calc 2*(m*2^k)*2^(P+j)*(2^52-1)=2*(m*2^k)*(2^52-1)*2^(P+j):=by simp only[Nat.mul_assoc,Nat.mul_comm,Nat.mul_left_comm]
   _<=_:=this
   _=_:=by simp only[Nat.mul_assoc,Nat.mul_comm,Nat.mul_left_comm]
def Rel(c X Y:Nat):Prop:=1000000000*Y<=(1000000000+c)*X/\1000000000*X<=(1000000000+c)*Y
theorem ACp{X Y:Nat}(h:Y*2^52<=X*2^52+X):1000000000*Y<=1000000001*X:=by by_cases hle:Y<=X;omega;obtain⟨d,rfl⟩:∃d,Y=X+d:=⟨Y-X,by omega⟩;rw[Nat.add_mul]at h;have h1:d*2^52<=X:=Nat.le_of_add_le_add_left h;have h2:d*1000000000<=d*2^52:=Nat.mul_le_mul_left _ (by decide);have h3:=Nat.le_trans h2 h1;rw[Nat.mul_comm]at h3;clear h h1 h2;omega
theorem Near.rel{X Y:Nat}(h:Near X Y):Rel 2 X Y:=by
 obtain⟨h1,h2⟩:=h;rw[Nat.mul_add,Nat.mul_one]at h1;rw[Nat.mul_sub,Nat.mul_one]at h2;have h3:X*2^52<=Y*2^52+X:=Nat.le_add_of_sub_le h2;have k1:=ACp h1;have k2:1000000000*X<=1000000002*Y:=by by_cases hle:X<=Y;clear h1 h2 h3 k1;omega;obtain⟨d,rfl⟩:∃d,X=Y+d:=⟨X-Y,by omega⟩;rw[Nat.add_mul]at h3;have e1:d*2^52<=Y+d:=Nat.le_of_add_le_add_left h3;have e2:d*2000000000<=d*2^52:=Nat.mul_le_mul_left _ (by decide);have e3:=Nat.le_trans e2 e1;rw[Nat.mul_comm]at e3;clear h1 h2 h3 e1 e2 k1;omega
 clear h1 h2 h3;unfold Rel;simp only[Nat.reduceAdd];omega
theorem Ua{X Y Z:Nat}(h:Rel 2 X Y)(k:Rel 2 Y Z):Rel 5 X Z:=by unfold Rel at *;simp only[Nat.reduceAdd]at *;omega
theorem AAG{X Y Z:Nat}(h:Rel 5 X Y)(k:Rel 2 Y Z):Rel 8 X Z:=by unfold Rel at *;simp only[Nat.reduceAdd]at *;omega
theorem ABr{X Y Z:Nat}(h:Rel 8 X Y)(k:Rel 2 Y Z):Rel 11 X Z:=by unfold Rel at *;simp only[Nat.reduceAdd]at *;omega
theorem AAy{X Y Z:Nat}(h:Rel 11 X Y)(k:Rel 2 Y Z):Rel 14 X Z:=by unfold Rel at *;simp only[Nat.reduceAdd]at *;omega
theorem ABs{X Y Z:Nat}(h:Rel 5 X Y)(k:Rel 8 Y Z):Rel 14 X Z:=by unfold Rel at *;simp only[Nat.reduceAdd]at *;omega
theorem ZD{X Y Z:Nat}(h:Rel 14 X Y)(k:Rel 14 Y Z):Rel 29 X Z:=by unfold Rel at *;simp only[Nat.reduceAdd]at *;omega
theorem Rel.add{c X Y X' Y' : Nat}(h:Rel c X Y)(k:Rel c X' Y'):Rel c (X+X') (Y+Y'):=by unfold Rel at *;rw[Nat.mul_add,Nat.mul_add,Nat.mul_add,Nat.mul_add];exact⟨Nat.add_le_add h.1 k.1,Nat.add_le_add h.2 k.2⟩
theorem Rel.symm{c X Y:Nat}(h:Rel c X Y):Rel c Y X:=⟨h.2,h.1⟩
theorem Rel.mono{c d X Y:Nat}(a0:c<=d)(h:Rel c X Y):Rel d X Y:=
 ⟨Nat.le_trans h.1 (Nat.mul_le_mul_right _ (Nat.add_le_add_left a0 _)),Nat.le_trans h.2 (Nat.mul_le_mul_right _ (Nat.add_le_add_left a0 _))⟩
theorem Rel.scale{c X Y:Nat}(k:Nat)(h:Rel c X Y):Rel c (X*k) (Y*k):=by obtain⟨h1,h2⟩:=h;unfold Rel;rw[← Nat.mul_assoc,← Nat.mul_assoc,← Nat.mul_assoc,← Nat.mul_assoc];exact⟨Nat.mul_le_mul_right k h1,Nat.mul_le_mul_right k h2⟩
theorem Rel.cancel{c X Y k:Nat}(hk:0<k)(h:Rel c (X*k) (Y*k)):Rel c X Y:=by unfold Rel at h;rw[← Nat.mul_assoc,← Nat.mul_assoc,← Nat.mul_assoc,← Nat.mul_assoc]at h;exact⟨Nat.le_of_mul_le_mul_right h.1 hk,Nat.le_of_mul_le_mul_right h.2 hk⟩
def SS(E:Nat):Nat:=2^E
theorem Mt{E:Nat} : 0<SS E:=Nat.pow_pos (by decide)
def cB:Nat:=4741671816366391296
theorem AAH{E:Nat}(hE:E=1074):Fv cB (1000000000*SS E):=by
 refine⟨1000000000*2^23,E-23,?_,?_,by decide⟩;have:D.read cB=.number false (1000000000*2^23) (-23):=by decide +kernel
 rw[this];congr 1;omega;unfold SS;rw[Nat.mul_assoc,← Nat.pow_add,show 23+(E-23)=E by omega]
theorem JY{E:Nat}(hE:E=1074){n:Nat}(h:n<1000000000):∃Y,Fv (D.nearest false n 0) Y/\Rel 2 (n*SS E) Y/\(n=0->Y=0):=by by_cases h0:n=0;subst h0;refine⟨0,Fv.zero 0,?_,λ_=>rfl⟩;rw[Nat.zero_mul];exact(IJ 0).rel;obtain⟨Y,y1,y2⟩:=AAu hE n (Nat.lt_trans h (by decide));rw[show(E:Int)-1074=0 by omega]at y1;exact⟨Y,y1,y2.rel,λe=>absurd e h0⟩
theorem Sx{c X Y:Nat}(hc:c<=100)(h:Rel c X Y):X<=2*Y:=by have h1:=h.2;have h2:(1000000000+c)*Y<=1000000100*Y:=Nat.mul_le_mul_right _ (by omega);have h3:=Nat.le_trans h1 h2;clear h1 h2 h;omega
theorem Mu{c X Y:Nat}(hc:c<=100)(h:Rel c X Y):Y<=2*X:=Sx hc h.symm
theorem AAI{E k:Nat}(h:0<k):2^E<=k*SS E:=Nat.le_mul_of_pos_left (SS E) h
theorem bil:0<1000000000:=by omega
theorem AAJ(E k:Nat)(hk:k<2^100):k*SS E<2^(100+E):=by unfold SS;rw[Nat.pow_add];exact Nat.mul_lt_mul_of_pos_right hk (Nat.pow_pos (by decide))
theorem PW{E k X:Nat}(hk:k<2^100)(hX:X<=k*SS E){e:Nat}(he:100+E<=e):X<2^e:=
 Nat.lt_of_lt_of_le (Nat.lt_of_le_of_lt hX (AAJ E k hk)) (Nat.pow_le_pow_right (by decide) he)
theorem Lg{E:Nat}(hE:E=1074){c x X n:Nat}(hx:Fv x X)(hr:Rel c (n*SS E) X)(hc:c<=100)(hn:n<2^60)(h0:n=0->X=0):∃r Z,D.mul x cB=some r/\Fv r Z/\Rel 2 (X*1000000000) Z/\(n=0->Z=0):=by
 have hX:X<=(2*n)*SS E:=by rw[Nat.mul_assoc];exact Mu hc hr
 have hXl:=PW (k:=2*n) (by clear hr hX;omega) hX (Nat.le_refl _);have hBl:=AAJ E 1000000000 (by decide);have a0:X*(1000000000*SS E)<2^(200+E)*2^E:=by have h1:X*(1000000000*SS E)<2^(100+E)*2^(100+E):=Nat.mul_lt_mul'' hXl hBl;rw[← Nat.pow_add]at h1 ⊢;rw[show 200+E+E=100+E+(100+E) by omega];exact h1
 have hge:X=0\/2^1074<=X\/True:=.inr (.inr trivial);by_cases hn0:n=0;have hX0:=h0 hn0;obtain⟨r,Z,V,z1,z2,z3,z4⟩:=AAw hE hx (AAH hE) (.inl hX0) (AAI bil) (by omega) a0;refine⟨r,Z,z1,z2,?_,λ_=>?_⟩;have hV:V=X*1000000000:=by apply Nat.eq_of_mul_eq_mul_right Mt;rw[Nat.mul_assoc];exact z4
 rw[← hV];exact z3.rel
 have hV:V=0:=by
  have:V*2^E=0:=by rw[z4,hX0,Nat.zero_mul]
  exact(Nat.mul_eq_zero.1 this).resolve_right (Nat.ne_of_gt (Nat.pow_pos (by decide)))
 have:=Mu (by decide) z3.rel;rw[hV]at this;exact Nat.eq_zero_of_le_zero this;have hX1:SS E<=2*X:=Nat.le_trans (Nat.le_mul_of_pos_left _ (Nat.pos_of_ne_zero hn0)) (Sx hc hr);obtain⟨m,i,r1,rfl,hm⟩:=hx;obtain⟨n',j,r2,e2,hn'⟩:=AAH hE
 have hi:E-54<=i:=by
  refine Cb hm ?_;have e:SS E=2*2^(53+(E-54)):=by unfold SS;rw[← Nat.pow_succ',show(53+(E-54)).succ=E by omega]
  rw[e]at hX1;exact Nat.le_of_mul_le_mul_left hX1 (by decide)
 have hj:E-53<=j:=Cb hn' (by rw[e2,show 53+(E-53)=E by omega];exact AAI bil);unfold Format.mul;rw[r1,r2];simp only[Datum.product,Bool.bne_false,Option.map_some,Format.write];have e3:(i:Int)-1074+((j:Int)-1074)=((i+j-E:Nat):Int)-1074:=by clear hX hXl hBl a0 hX1 e2 hr;omega
 rw[e3];have hV:m*n' * 2^(i+j-E)*SS E=m*2^i*(n' * 2^j):=by unfold SS;rw[Nat.mul_assoc (m*n'),← Nat.pow_add,show i+j-E+E=i+j by clear hX hXl hBl a0 hX1 e2 hr;omega,Nat.pow_add,Nat.mul_mul_mul_comm]
 have hV2:m*n' * 2^(i+j-E)=m*2^i*1000000000:=by apply Nat.eq_of_mul_eq_mul_right Mt;rw[hV,e2];exact(Nat.mul_assoc _ _ _).symm
 have hl:m*2^i*1000000000<2^(100+E)*2^60:=Nat.mul_lt_mul'' hXl (by decide);rw[← Nat.pow_add]at hl;obtain⟨Z,z1,z2⟩:=JX (m*n') (i+j-E) (K:=100+E+60) (by clear hX hXl hBl a0 hX1 e2 hr hV hV2 hl;omega) (by rw[hV2];exact hl);refine⟨_,Z,rfl,z1,?_,λe=>absurd e hn0⟩;rw[hV2]at z2;exact z2.rel
theorem guess_law{T Dv Q G:Nat}(hD:1000000000<=Dv)(hT:T<1000000000*(Dv+1))(hQ1:Q*Dv<=T)(hQ2:T<(Q+1)*(Dv+1))
  (g1:1000000000*(G*Dv)<=1000000029*T) (g2:1000000000*T<1000000029*((G+1)*Dv)):Q<=G+2000/\G<=Q+2000:=by
 have hD0:0<Dv:=by omega
 have hT2:T<=2000000000*Dv:=by omega
 have hQB:Q<=2000000000:=Nat.le_of_mul_le_mul_right (Nat.le_trans hQ1 hT2) hD0
 have hGB:G<=4000000000:=by
  have h1:G*Dv<=4000000000*Dv:=by omega
  exact Nat.le_of_mul_le_mul_right h1 hD0
 constructor;have h1:1000000000*(Q*Dv)<1000000029*((G+1)*Dv):=by omega
 rw[← Nat.mul_assoc,← Nat.mul_assoc]at h1;have h3:=Nat.lt_of_mul_lt_mul_right h1;omega;have h1:1000000000*(Dv+1)<=1000000001*Dv:=by omega
 have h2:(Q+1)*(1000000000*(Dv+1))<=(Q+1)*(1000000001*Dv):=Nat.mul_le_mul_left _ h1;rw[Nat.mul_left_comm,Nat.mul_left_comm (Q+1) 1000000001]at h2;have h4:1000000000000000000*(G*Dv)<1000000030000000029*((Q+1)*Dv):=by omega
 rw[← Nat.mul_assoc,← Nat.mul_assoc]at h4;have h5:=Nat.lt_of_mul_lt_mul_right h4;omega
theorem ZE{X Y:Nat}(h1:Y*2^52<=X*(2^52+1))(h2:X*(2^52-1)<=Y*2^52):Near X Y:=⟨h1,h2⟩
theorem AAz{n k:Nat}(hn:n<2^97)(hk:k<2^97):2*(n+k)<2^100:=by
 have e:(2:Nat)^100=2*(4*2^97):=by decide
 rw[e];generalize 2^97=z at *;omega
theorem Sy{E:Nat}(hE:E=1074){c x y X Y n k:Nat}(hx:Fv x X)(hy:Fv y Y)(h1:Rel c (n*SS E) X)(h2:Rel c (k*SS E) Y)(hc:c<=100)(hn:n<2^97)(hk:k<2^97):∃r Z,D.add x y=some r/\Fv r Z/\Rel c ((n+k)*SS E) (X+Y)/\Rel 2 (X+Y) Z:=by have h3:=h1.add h2;rw[← Nat.add_mul]at h3;have h4:=Mu hc h3;rw[← Nat.mul_assoc]at h4;obtain⟨r,Z,z1,z2,z3⟩:=AAv hx hy (K:=100+E) (by omega) (PW (k:=2*(n+k)) (AAz hn hk) h4 (Nat.le_refl _));exact⟨r,Z,z1,z2,h3,z3.rel⟩
theorem Xv{E n X c:Nat}(hn:2<=n)(hc:c<=100)(h:Rel c (n*SS E) X):2^E<=X:=by
 have h1:=Sx hc h;have h2:2*SS E<=n*SS E:=Nat.mul_le_mul_right _ hn;have h3:=Nat.le_trans h2 h1;have h4:SS E<=X:=by generalize SS E=z at *;omega
 exact h4
theorem ZF{E c n X:Nat}(h:Rel c (n*SS E) X):Rel c (1000000000*n*SS E) (X*1000000000):=by rw[Nat.mul_assoc,Nat.mul_comm 1000000000];exact h.scale _
theorem guess_run{A C E b1 b2:Nat}(hA:A<1000000000)(hC:C<1000000000)(hE0:E<1000000000)(hb1:b1<1000000000)(hb0:0<b1)(hb2:b2<1000000000)
  (hT:1000000000*(1000000000*A)+1000000000*C+E<1000000000*(1000000000*b1+b2+1)) (hT2:2<=1000000000*(1000000000*A)+1000000000*C+E) :
  ∃(m1 m2 c1 s1 t d1 y q G:Nat),D.mul (D.nearest false A 0) cB=some m1/\D.mul m1 cB=some m2/\D.mul (D.nearest false C 0) cB=some c1/\D.add m2 c1=some s1/\D.add s1 (D.nearest false E 0)=some t /\
   D.mul (D.nearest false b1 0) cB=some d1/\D.add d1 (D.nearest false b2 0)=some y/\D.div t y=some q/\(D.read q).toInt .zero=some (G:Int)/\G<2^62 /\
   1000000000*(G*(1000000000*b1+b2))<=1000000029*(1000000000*(1000000000*A)+1000000000*C+E)/\1000000000*(1000000000*(1000000000*A)+1000000000*C+E)<1000000029*((G+1)*(1000000000*b1+b2)):=by
 obtain⟨E',hE⟩:∃E' : Nat,E'=1074:=⟨_,rfl⟩;obtain⟨a0,fa0,ra0,za0⟩:=JY hE hA;obtain⟨m1,m1v,e1,fm1,rm1,zm1⟩:=Lg hE fa0 ra0 (by decide) (by omega) za0;have rm1:Rel 5 (1000000000*A*SS E') m1v:=Ua (ZF ra0) rm1;obtain⟨m2,m2v,e2,fm2,rm2,-⟩:=Lg hE (n:=1000000000*A) fm1 rm1 (by decide) (by omega) (λh=>zm1 (by omega));have rm2:Rel 8 (1000000000*(1000000000*A)*SS E') m2v:=AAG (ZF rm1) rm2;obtain⟨c0,fc0,rc0,zc0⟩:=JY hE hC;obtain⟨c1,c1v,e3,fc1,rc1,-⟩:=Lg hE fc0 rc0 (by decide) (by omega) zc0;have rc1:Rel 5 (1000000000*C*SS E') c1v:=Ua (ZF rc0) rc1;obtain⟨s1,s1v,e4,fs1,rs1,rs1'⟩:=Sy hE fm2 fc1 rm2 (rc1.mono (by decide)) (by decide) (by omega) (by omega);have rs1:=ABr rs1 rs1';obtain⟨e0,fe0,re0,-⟩:=JY hE hE0;obtain⟨t,tv,e5,ft,rt,rt'⟩:=Sy hE fs1 fe0 rs1 (re0.mono (by decide)) (by decide) (by omega) (by omega);have rt:=AAy rt rt';obtain⟨d0,fd0,rd0,zd0⟩:=JY hE hb1;obtain⟨d1,d1v,e6,fd1,rd1,-⟩:=Lg hE fd0 rd0 (by decide) (by omega) zd0;have rd1:Rel 5 (1000000000*b1*SS E') d1v:=Ua (ZF rd0) rd1;obtain⟨f0,ff0,rf0,-⟩:=JY hE hb2;obtain⟨y,yv,e7,fy,ry,ry'⟩:=Sy hE fd1 ff0 rd1 (rf0.mono (by decide)) (by decide) (by omega) (by omega);have ry:=AAG ry ry';generalize hTe:1000000000*(1000000000*A)+1000000000*C+E=T at *;generalize hDe:1000000000*b1+b2=Dv at *;have hD1:1000000000<=Dv:=by omega
 have hDv:Dv<2^61:=by omega
 have hTl:T<2^91:=by omega
 clear hTe hDe rm1 rm2 rc1 rs1 rd1 ra0 rc0 re0 rd0 rf0 fa0 fm1 fm2 fc0 fc1 fs1 fe0 fd0 fd1 ff0 za0 zm1 zc0 zd0;have lt1:=PW (k:=2*T) (e:=100+E') (by omega) (by rw[Nat.mul_assoc];exact Mu (by decide) rt) (Nat.le_refl _);have lt2:=PW (k:=2*Dv) (e:=100+E') (by omega) (by rw[Nat.mul_assoc];exact Mu (by decide) ry) (Nat.le_refl _);obtain⟨q,qv,V,e8,fq,nq,v1,v2⟩:=AAx hE ft fy (Xv hT2 (by decide) rt) (Xv (by omega) (by decide) ry) (by omega) lt1 lt2;clear lt1 lt2;have r1:Rel 2 (tv*SS E') (V*yv):=(ZE v1 v2).rel;have r2:Rel 5 (tv*SS E') (qv*yv):=Ua r1 (nq.rel.scale yv);have r3:Rel 8 (qv*yv) (Dv*SS E' * qv):=by rw[Nat.mul_comm qv];exact(ry.scale qv).symm
 have r4:Rel 14 (tv*SS E') (Dv*SS E' * qv):=ABs r2 r3;have r5:Rel 29 (T*SS E' * SS E') (Dv*SS E' * qv):=ZD (rt.scale (SS E')) r4;rw[Nat.mul_right_comm Dv]at r5;have r6:Rel 29 (T*SS E') (Dv*qv):=r5.cancel Mt;have q1:qv/SS E' * SS E'<=qv:=Nat.div_mul_le_self _ _;have q2:qv<(qv/SS E' + 1)*SS E':=by have:=Nat.lt_div_mul_add (a:=qv) (Mt (E:=E'));rw[Nat.add_mul,Nat.one_mul];exact this
 have hG:∃G,qv/SS E'=G:=⟨_,rfl⟩;obtain⟨G,hG⟩:=hG;rw[hG]at q1 q2;obtain⟨k1,k2⟩:=r6;simp only[Nat.reduceAdd]at k1 k2
 have g1:1000000000*(G*Dv)<=1000000029*T:=by
  refine Nat.le_of_mul_le_mul_right (c:=SS E') ?_ Mt;have h1:G*Dv*SS E'<=Dv*qv:=by rw[Nat.mul_comm G,Nat.mul_assoc];exact Nat.mul_le_mul_left _ q1
  have e1:1000000000*(G*Dv)*SS E'=1000000000*(G*Dv*SS E'):=Nat.mul_assoc _ _ _;have e2:1000000029*T*SS E'=1000000029*(T*SS E'):=Nat.mul_assoc _ _ _;rw[e1,e2];have h2:1000000000*(G*Dv*SS E')<=1000000000*(Dv*qv):=Nat.mul_le_mul_left 1000000000 h1;exact Nat.le_trans h2 k1
 have g2:1000000000*T<1000000029*((G+1)*Dv):=by
  apply Nat.lt_of_mul_lt_mul_right (a:=SS E');have h1:Dv*qv<(G+1)*Dv*SS E':=by rw[Nat.mul_comm (G+1),Nat.mul_assoc];exact Nat.mul_lt_mul_of_pos_left q2 (by omega)
  have e1:1000000000*T*SS E'=1000000000*(T*SS E'):=Nat.mul_assoc _ _ _;have e2:1000000029*((G+1)*Dv)*SS E'=1000000029*((G+1)*Dv*SS E'):=Nat.mul_assoc _ _ _;rw[e1,e2];have h2:1000000029*(Dv*qv)<1000000029*((G+1)*Dv*SS E'):=by generalize Dv*qv=a at *;generalize (G+1)*Dv*SS E'=b at *;clear k1 k2 q1 q2;omega
  exact Nat.lt_of_le_of_lt k2 h2
 have hGl:G<=4000000000:=by
  have h1:G*Dv<=4000000000*Dv:=by omega
  exact Nat.le_of_mul_le_mul_right h1 (Nat.lt_of_lt_of_le bil hD1)
 have hq:=Xu hE fq (show qv/2^E' < 2^62 by have:qv/2^E'=G:=hG;rw[this];omega);have hq' : (D.read q).toInt .zero=some (G:Int):=by have:qv/2^E'=G:=hG;rw[this]at hq;exact hq
 exact⟨m1,m2,c1,s1,t,d1,y,q,G,e1,e2,e3,e4,e5,e6,e7,e8,hq',by omega,g1,g2⟩
end Flt
theorem EL(n:Nat):FloatKind.nearest .f64 (n:Int)=Flt.D.nearest false n 0:=by show Flt.D.nearest (decide ((n:Int)<0)) ((n:Int).natAbs) 0=_;rw[decide_eq_false (by omega),Int.natAbs_natCast]
theorem ABt{A C E b1 b2:Nat}(hA:A<1000000000)(hC:C<1000000000)(hE:E<1000000000)(hb1:b1<1000000000)(hb0:0<b1)(hb2:b2<1000000000)
  (hT:1000000000*(1000000000*A)+1000000000*C+E<1000000000*(1000000000*b1+b2+1)) (hT2:2<=1000000000*(1000000000*A)+1000000000*C+E) :
  ∃(m1 m2 c1 s1 t d1 y q G:Nat),floatBits .mul .f64 (FloatKind.nearest .f64 (A:Int)) 4741671816366391296=some m1/\floatBits .mul .f64 m1 4741671816366391296=some m2/\floatBits .mul .f64 (FloatKind.nearest .f64 (C:Int)) 4741671816366391296=some c1 /\
   floatBits .add .f64 m2 c1=some s1/\floatBits .add .f64 s1 (FloatKind.nearest .f64 (E:Int))=some t/\floatBits .mul .f64 (FloatKind.nearest .f64 (b1:Int)) 4741671816366391296=some d1/\floatBits .add .f64 d1 (FloatKind.nearest .f64 (b2:Int))=some y /\
   floatBits .quo .f64 t y=some q/\floatToIntVal .f64 q .i64=some (G:Int) /\
   ∀Q:Nat,Q*(1000000000*b1+b2)<=1000000000*(1000000000*A)+1000000000*C+E->1000000000*(1000000000*A)+1000000000*C+E<(Q+1)*(1000000000*b1+b2+1)->Q<=G+2000/\G<=Q+2000:=by
 obtain⟨m1,m2,c1,s1,t,d1,y,q,G,e1,e2,e3,e4,e5,e6,e7,e8,e9,hG,g1,g2⟩:=Flt.guess_run hA hC hE hb1 hb0 hb2 hT hT2;rw[EL,EL,EL,EL,EL];refine⟨m1,m2,c1,s1,t,d1,y,q,G,e1,e2,e3,e4,e5,e6,e7,e8,?_,λQ h1 h2=>?_⟩;have hd:FloatKind.decode .f64 q=Flt.D.read q:=rfl;unfold floatToIntVal;rw[hd,e9];have e1:IntKind.i64.min=-9223372036854775808:=by decide
 have e2:IntKind.i64.max=9223372036854775807:=by decide
 simp only;rw[if_pos];have h3:(2:Nat)^62=4611686018427387904:=by decide
 rw[h3]at hG;rw[e1,e2];clear e9 g1 g2 hT hT2;omega;exact Flt.guess_law (by clear g1 g2 hT hT2;omega) hT h1 h2 g1 g2
theorem ZG{a b:Nat}(h:nl a≠nl b):DG ((nl a:Nat):Int) ((nl b:Nat):Int)=Br a b:=by unfold DG;by_cases a0:nl a<nl b;rw[if_pos (by omega),Ld (JO a0)];have:=JO (a:=b) (b:=a) (by omega);rw[if_neg (by omega),if_neg (by omega),Le this]
theorem Xw{a b k:Nat}(h:a/BB^(k+1)=b/BB^(k+1))(hd:dgt a k≠dgt b k):DG ((dgt a k:Nat):Int) ((dgt b k:Nat):Int)=Br a b:=by unfold DG;by_cases a0:dgt a k<dgt b k;rw[if_pos (by omega),Ld (ID h a0)];rw[if_neg (by omega),if_neg (by omega),Le (ID h.symm (by omega))]
theorem Hk{a b:Nat} : Br a b<=0<->a<=b:=by unfold Br;split <;> (try split) <;> omega
theorem E4{a b:Nat} : 0<=Br a b<->b<=a:=by unfold Br;split <;> (try split) <;> omega
theorem Dm{a b:Nat} : Br a b<0<->a<b:=by unfold Br;split <;> (try split) <;> omega
theorem OL{i n:Nat}(h:i<nl n):BB^i<=n:=(Xg _ _).1 h
theorem GU{i n:Nat}(h:nl n<=i):n<BB^i:=(Di _ _).1 h
theorem Bn{a b i:Nat}(h:0<BC a b i):i<=max (nl a) (nl b):=by have h1:=(Xg i (a+b)).2 (Q5 h);have h2:=KH a b;omega
theorem A4{a b i:Nat}(h:i<nl a\/i<nl b\/0<BC a b i):BB^(i+1-1)<=a+b:=by rw[Nat.add_sub_cancel];rcases h with h|h|h;have:=OL h;omega;have:=OL h;omega;exact Q5 h
theorem Ub{a b i:Nat}(h1:nl a<=i)(h2:nl b<=i)(h3:BC a b i=0)(h4:i=0\/BB^(i-1)<=a+b):AF (AS i (a+b))=L (a+b):=by unfold L;rw[Xe (ABo (Xf (GU h1) (GU h2) h3) h4)]
theorem KL{k n:Nat}(h:nl n<=k):L (Ah (AS k n))=L n:=by rw[Ci,Nat.mod_eq_of_lt (GU h)]
theorem GV{a i:Nat}(h:nl a<=i):a%BB^i=a:=Nat.mod_eq_of_lt (GU h)
theorem OM{a b i k V c:Nat}(hi:i<nl a)(h:V+c*BB^(i+k)=a%BB^i*b+dgt a i*BB^i*(b%BB^k))(hc:0<c):k<=nl b:=by
 have h1:BB^(i+k)<=V+c*BB^(i+k):=Nat.le_trans (Nat.le_mul_of_pos_left _ hc) (Nat.le_add_left _ _);have h2:a%BB^i*b+dgt a i*BB^i*(b%BB^k)<=a%BB^(i+1)*b:=by rw[← Sq];exact Nat.add_le_add_left (Nat.mul_le_mul_left _ (Nat.mod_le _ _)) _
 have h3:a%BB^(i+1)*b<BB^(i+1)*BB^nl b:=Nat.mul_lt_mul'' (Nat.mod_lt _ (BBp _)) (C3 b);rw[← Nat.pow_add]at h3;have h4:BB^(i+k)<BB^(i+1+nl b):=by omega
 have h5:=(Nat.pow_lt_pow_iff_right (show 1<BB by decide)).1 h4;omega
theorem KM{x y z c:Nat}(hx:x<BB)(hy:y<BB)(hz:z<BB)(hc:c<BB):(z+x*y+c)/BB<BB/\z+x*y+c<=1000000000000000000/\x*y<=999999998000000001:=by
 have h1:x*y<=999999999*999999999:=Nat.mul_le_mul (by unfold BB at hx;omega) (by unfold BB at hy;omega);have e:999999999*999999999=999999998000000001:=by decide
 rw[e]at h1;unfold BB at *;refine⟨?_,by omega,h1⟩;rw[Nat.div_lt_iff_lt_mul (by decide)];omega
theorem Mv{N V p x:Nat}(hp:p<N):(AF (AS N V)).set p (((AF (AS N V)).getD p []).set 0 (Dat.int ((x%BB:Nat):Int)))=AF (AS N (V-dgt V p*BB^p+x%BB*BB^p)):=by rw[KJ (by rw[Ai];exact hp),Ml hp (Nat.mod_lt _ Dg)]
theorem ZH(q i:Nat):dgt (hi q i) i=dgt q i:=by unfold dgt hi;rw[Nat.mul_div_cancel _ (BBp i)]
theorem Lh{a q:Nat}(h:q<=a):List.replicate (nl a) [Dat.int 0]=AF (AS (nl a) (hi q (nl a))):=by rw[AAo (Nat.lt_of_le_of_lt h (C3 a)),← PP,EQ]
theorem AA0{N q i x:Nat}(hi' : i<N)(hx:x=dgt q i):(AF (AS N (hi q (i+1)))).set i (((AF (AS N (hi q (i+1)))).getD i []).set 0 (Dat.int ((x:Nat):Int)))=AF (AS N (hi q i)):=by rw[KJ (by rw[Ai];exact hi'),Y9 hi' hx]
theorem Xx{a q:Nat}(h:q<=a):L (Ah (AS (nl a) (hi q 0)))=L q:=by rw[PO,KL (Cy h)]
theorem Uc{q i:Nat}(h:dgt q i=0):hi q (i+1)=hi q i:=by rw[UU q i,h,Nat.zero_mul];exact(Nat.add_zero _).symm
theorem Hl{b:Nat}(h:nl b=1):dgt b 0=b/\b<BB/\0<b:=by
 have h1:b<BB:=by have:=C3 b;rw[h]at this;simpa using this
 have h2:b≠0:=by rintro rfl;rw[CP]at h;omega
 refine⟨?_,h1,by omega⟩;unfold dgt;rw[Nat.pow_zero,Nat.div_one,Nat.mod_eq_of_lt h1]
theorem Xy{n:Nat}(h0:0<n)(h:n<BB):[[Dat.int ((n:Nat):Int)]]=L n:=by unfold L;rw[CO (by omega),Nat.mod_eq_of_lt h,Nat.div_eq_of_lt h,Bv];rfl
theorem LH{d n:Nat}(h:d<BB):∀x ∈ d::dig n,x<BB:=λx hx=>by rcases List.mem_cons.1 hx with rfl|hx;exact h;exact Mj n x hx
theorem ACq{b:Nat}(h:2<=nl b):b/BB^(nl b-2)=1000000000*dgt b (nl b-1)+dgt b (nl b-2):=by
 have e1:nl b-2+1=nl b-1:=by omega
 have e2:nl b-1+1=nl b:=by omega
 rw[Bf b (nl b-2),e1,Bf b (nl b-1),e2,Nat.div_eq_of_lt (C3 b),Nat.zero_mul,Nat.zero_add,Nat.mul_comm];rfl
theorem ACr{a k:Nat}(h:a<BB^(k+1))(hk:2<=k):a/BB^(k-2)=1000000000*(1000000000*dgt a k)+1000000000*dgt a (k-1)+dgt a (k-2):=by
 have e1:k-2+1=k-1:=by omega
 have e2:k-1+1=k:=by omega
 rw[Bf a (k-2),e1,Bf a (k-1),e2,Bf a k,Nat.div_eq_of_lt h,Nat.zero_mul,Nat.zero_add];unfold BB;omega
theorem AA1{a b:Nat}(h2:2<=nl b)(a2:b<=a)(a0:a<b*BB) :
  ∃(m1 m2 c1 s1 t d1 y q G:Nat),floatBits .mul .f64 (FloatKind.nearest .f64 ((dgt a (nl b):Nat):Int)) 4741671816366391296=some m1/\floatBits .mul .f64 m1 4741671816366391296=some m2/\floatBits .mul .f64 (FloatKind.nearest .f64 ((dgt a (nl b-1):Nat):Int)) 4741671816366391296=some c1 /\
   floatBits .add .f64 m2 c1=some s1/\floatBits .add .f64 s1 (FloatKind.nearest .f64 ((dgt a (nl b-2):Nat):Int))=some t/\floatBits .mul .f64 (FloatKind.nearest .f64 ((dgt b (nl b-1):Nat):Int)) 4741671816366391296=some d1/\floatBits .add .f64 d1 (FloatKind.nearest .f64 ((dgt b (nl b-2):Nat):Int))=some y /\
   floatBits .quo .f64 t y=some q/\floatToIntVal .f64 q .i64=some (G:Int)/\a/b<=G+2000/\G<=a/b+2000:=by
 have hb0:b≠0:=by rintro rfl;rw[CP]at h2;omega
 have hk:a<BB^(nl b+1):=by rw[Nat.pow_succ];exact Nat.lt_of_lt_of_le a0 (Nat.mul_le_mul_right _ (Nat.le_of_lt (C3 b)))
 have t2:=ACq h2;have t3:=ACr hk h2;have w0:=BBp (nl b-2);have a1:b<(b/BB^(nl b-2)+1)*BB^(nl b-2):=by have:=Nat.lt_div_mul_add (a:=b) w0;rw[Nat.add_mul,Nat.one_mul];exact this
 have hT:a/BB^(nl b-2)<1000000000*(b/BB^(nl b-2)+1):=by
  rw[Nat.div_lt_iff_lt_mul w0];have h1:b*BB<=(b/BB^(nl b-2)+1)*BB^(nl b-2)*BB:=Nat.mul_le_mul_right _ (Nat.le_of_lt a1);have h2:(b/BB^(nl b-2)+1)*BB^(nl b-2)*BB=1000000000*(b/BB^(nl b-2)+1)*BB^(nl b-2):=by rw[Nat.mul_right_comm,Nat.mul_comm (b/BB^(nl b-2)+1) BB];rfl
  rw[h2]at h1;exact Nat.lt_of_lt_of_le a0 h1
 have hd1:dgt b (nl b-1)≠0:=LB hb0;have hDle:b/BB^(nl b-2)<=a/BB^(nl b-2):=Nat.div_le_div_right a2;have lts:∀n i,dgt n i<1000000000:=Bb;have hQ1:a/b*(b/BB^(nl b-2))<=a/BB^(nl b-2):=by rw[Nat.le_div_iff_mul_le w0,Nat.mul_assoc];exact Nat.le_trans (Nat.mul_le_mul_left _ (Nat.div_mul_le_self _ _)) (Nat.div_mul_le_self _ _)
 have hQ2:a/BB^(nl b-2)<(a/b+1)*(b/BB^(nl b-2)+1):=by
  rw[Nat.div_lt_iff_lt_mul w0,Nat.mul_assoc];have h1:a<(a/b+1)*b:=by have:=Nat.lt_div_mul_add (a:=a) (Nat.pos_of_ne_zero hb0);rw[Nat.add_mul,Nat.one_mul];exact this
  exact Nat.lt_of_lt_of_le h1 (Nat.mul_le_mul_left _ (Nat.le_of_lt a1))
 rw[t2]at hT hDle hQ1 hQ2;rw[t3]at hT hDle hQ1 hQ2;obtain⟨m1,m2,c1,s1,t,d1,y,q,G,e1,e2,e3,e4,e5,e6,e7,e8,e9,hG⟩:=ABt (lts a (nl b)) (lts a (nl b-1)) (lts a (nl b-2)) (lts b (nl b-1)) (by omega) (lts b (nl b-2)) hT (by omega);exact⟨m1,m2,c1,s1,t,d1,y,q,G,e1,e2,e3,e4,e5,e6,e7,e8,e9,hG _ hQ1 hQ2⟩
theorem F5{a b m:Nat}(hb:b≠0)(h:b*m<=a):m<=a/b:=by rw[Nat.le_div_iff_mul_le (Nat.pos_of_ne_zero hb),Nat.mul_comm];exact h
theorem div_lt_of_lt_mul{a b m:Nat}(h:a<b*m):a/b<m:=Nat.div_lt_of_lt_mul h
theorem LJ(r b:Nat):r-b*(r/b)=r%b:=by have:=Nat.div_add_mod r b;omega
theorem F6{a b:Nat}(hb:b≠0):nl (a%b)<=nl b:=Cy (Nat.le_of_lt (Nat.mod_lt _ (Nat.pos_of_ne_zero hb)))
theorem LK{a b j:Nat}(hb:b≠0):dgt a j+BB*(a/BB^(j+1)%b)<b*BB:=by have h1:=Nat.mod_lt (a/BB^(j+1)) (Nat.pos_of_ne_zero hb);have h2:=Bb a j;have h3:=Nat.mul_le_mul_left BB (show a/BB^(j+1)%b+1<=b from h1);rw[Nat.mul_add,Nat.mul_one]at h3;rw[Nat.mul_comm b];omega
theorem LL{a b j:Nat}(hb:b≠0):(dgt a j+BB*(a/BB^(j+1)%b))/b=dgt (a/b) j/\(dgt a j+BB*(a/BB^(j+1)%b))%b=a/BB^j%b:=by have:=PM a b j (Nat.pos_of_ne_zero hb);rw[Nat.mul_comm (a/BB^(j+1)%b),Nat.add_comm]at this;exact this
end Go.Proofs.YthoidhehmmcgnaaGreat
