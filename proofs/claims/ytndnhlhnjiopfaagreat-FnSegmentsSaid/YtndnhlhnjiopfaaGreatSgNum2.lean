import Derived.Test.YtndnhlhnjiopfaaGreatSgNum
import Derived.Test.YtndnhlhnjiopfaaGreatSgFlt
namespace Go.Proofs.YtndnhlhnjiopfaaGreat
set_option linter.unusedVariables false
set_option linter.unusedSimpArgs false
theorem VL {a b:Nat} (h:nl a≠nl b):Ca ((nl a:Nat):Int) ((nl b:Nat):Int)=CC a b:=by
 unfold Ca
 by_cases hlt:nl a<nl b
 ·rw [if_pos (by omega),Jx (Hu hlt)]
 ·have:=Hu (a:=b) (b:=a) (by omega)
  rw [if_neg (by omega),if_neg (by omega),Jy this]
theorem UA {a b k:Nat} (h:a/BB^(k+1)=b/BB^(k+1)) (hd:dgt a k≠dgt b k):Ca ((dgt a k:Nat):Int) ((dgt b k:Nat):Int)=CC a b:=by
 unfold Ca
 by_cases hlt:dgt a k<dgt b k
 ·rw [if_pos (by omega),Jx (Gf h hlt)]
 ·rw [if_neg (by omega),if_neg (by omega),Jy (Gf h.symm (by omega))]
theorem GI {a b:Nat} : CC a b<=0↔a<=b:=by unfold CC;split <;> (try split) <;> omega
theorem EH {a b:Nat} : 0<=CC a b↔b<=a:=by unfold CC;split <;> (try split) <;> omega
theorem C9 {a b:Nat} : CC a b<0↔a<b:=by unfold CC;split <;> (try split) <;> omega
theorem MN {i n:Nat} (h:i<nl n):BB^i<=n:=(Tv _ _).1 h
theorem FY {i n:Nat} (h:nl n<=i):n<BB^i:=(C6 _ _).1 h
theorem BR {a b i:Nat} (h:0<Ar a b i):i<=max (nl a) (nl b):=by
 have h1:=(Tv i (a+b)).2 (OR h)
 have h2:=Ir a b
 omega
theorem Ap {a b i:Nat} (h:i<nl a∨i<nl b∨0<Ar a b i):BB^(i+1-1)<=a+b:=by
 rw [Nat.add_sub_cancel]
 rcases h with h|h|h
 ·have:=MN h;omega
 ·have:=MN h;omega
 ·exact OR h
theorem Q7 {a b i:Nat} (h1:nl a<=i) (h2:nl b<=i) (h3:Ar a b i=0) (h4:i=0∨BB^(i-1)<=a+b):AC (AJ i (a+b))=L (a+b):=by
 unfold L
 rw [Tt (XL (Tu (FY h1) (FY h2) h3) h4)]
theorem Iv {k n:Nat} (h:nl n<=k):L (AW (AJ k n))=L n:=by
 rw [DI,Nat.mod_eq_of_lt (FY h)]
theorem GJ {a i:Nat} (h:nl a<=i):a%BB^i=a:=Nat.mod_eq_of_lt (FY h)
theorem MO {a b i k V c:Nat} (hi:i<nl a) (h:V+c*BB^(i+k)=a%BB^i*b+dgt a i*BB^i*(b%BB^k)) (hc:0<c):k<=nl b:=by
 have h1:BB^(i+k)<=V+c*BB^(i+k):=Nat.le_trans (Nat.le_mul_of_pos_left _ hc) (Nat.le_add_left _ _)
 have h2:a%BB^i*b+dgt a i*BB^i*(b%BB^k)<=a%BB^(i+1)*b:=by
  rw [← Px]
  exact Nat.add_le_add_left (Nat.mul_le_mul_left _ (Nat.mod_le _ _)) _
 have h3:a%BB^(i+1)*b<BB^(i+1)*BB^nl b:=Nat.mul_lt_mul'' (Nat.mod_lt _ (BBp _)) (CY b)
 rw [← Nat.pow_add] at h3
 have h4:BB^(i+k)<BB^(i+1+nl b):=by omega
 have h5:=(Nat.pow_lt_pow_iff_right (show 1<BB by decide)).1 h4
 omega
theorem Iw {x y z c:Nat} (hx:x<BB) (hy:y<BB) (hz:z<BB) (hc:c<BB):(z+x*y+c)/BB<BB/\z+x*y+c<=1000000000000000000/\x*y<=999999998000000001:=by
 have h1:x*y<=999999999*999999999:=Nat.mul_le_mul (by unfold BB at hx;omega) (by unfold BB at hy;omega)
 have e:999999999*999999999=999999998000000001:=by decide
 rw [e] at h1
 unfold BB at *
 refine ⟨?_,by omega,h1⟩
 rw [Nat.div_lt_iff_lt_mul (by decide)]
 omega
theorem K4 {N V p x:Nat} (hp:p<N):(AC (AJ N V)).set p (((AC (AJ N V)).getD p []).set 0 (Dat.int ((x%BB:Nat):Int)))=AC (AJ N (V-dgt V p*BB^p+x%BB*BB^p)):=by
 rw [It (by rw [AX];exact hp),Kw hp (Nat.mod_lt _ C4)]
theorem VM (q i:Nat):dgt (hi q i) i=dgt q i:=by
 unfold dgt hi
 rw [Nat.mul_div_cancel _ (BBp i)]
theorem J2 {a q:Nat} (h:q<=a):List.replicate (nl a) [Dat.int 0]=AC (AJ (nl a) (hi q (nl a))):=by
 rw [WV (Nat.lt_of_le_of_lt h (CY a)),← NC,Dn]
theorem Wi {N q i x:Nat} (hi' : i<N) (hx:x=dgt q i):(AC (AJ N (hi q (i+1)))).set i (((AC (AJ N (hi q (i+1)))).getD i []).set 0 (Dat.int ((x:Nat):Int)))=AC (AJ N (hi q i)):=by
 rw [It (by rw [AX];exact hi'),VD hi' hx]
theorem UB {a q:Nat} (h:q<=a):L (AW (AJ (nl a) (hi q 0)))=L q:=by
 rw [NB,Iv (CS h)]
theorem Q8 {q i:Nat} (h:dgt q i=0):hi q (i+1)=hi q i:=by rw [Qy q i,h,Nat.zero_mul];exact (Nat.add_zero _).symm
theorem GK {b:Nat} (h:nl b=1):dgt b 0=b/\b<BB/\0<b:=by
 have h1:b<BB:=by have:=CY b;rw [h] at this;simpa using this
 have h2:b≠0:=by rintro rfl;rw [B7] at h;omega
 refine ⟨?_,h1,by omega⟩
 unfold dgt
 rw [Nat.pow_zero,Nat.div_one,Nat.mod_eq_of_lt h1]
theorem UC {n:Nat} (h0:0<n) (h:n<BB):[[Dat.int ((n:Nat):Int)]]=L n:=by
 unfold L
 rw [B6 (by omega),Nat.mod_eq_of_lt h,Nat.div_eq_of_lt h,Bd]
 rfl
theorem JT {d n:Nat} (h:d<BB):∀ x ∈ d::dig n,x<BB:=λ x hx=>by
 rcases List.mem_cons.1 hx with rfl|hx
 ·exact h
 ·exact Ku n x hx
theorem Xx {b:Nat} (h:2<=nl b):b/BB^(nl b-2)=1000000000*dgt b (nl b-1)+dgt b (nl b-2):=by
 have e1:nl b-2+1=nl b-1:=by omega
 have e2:nl b-1+1=nl b:=by omega
 rw [BI b (nl b-2),e1,BI b (nl b-1),e2,Nat.div_eq_of_lt (CY b),Nat.zero_mul,Nat.zero_add,Nat.mul_comm]
 rfl
theorem Xy {a k:Nat} (h:a<BB^(k+1)) (hk:2<=k):a/BB^(k-2)=1000000000*(1000000000*dgt a k)+1000000000*dgt a (k-1)+dgt a (k-2):=by
 have e1:k-2+1=k-1:=by omega
 have e2:k-1+1=k:=by omega
 rw [BI a (k-2),e1,BI a (k-1),e2,BI a k,Nat.div_eq_of_lt h,Nat.zero_mul,Nat.zero_add]
 unfold BB
 omega
theorem Wj {a b:Nat} (h2:2<=nl b) (hba:b<=a) (hab:a<b*BB) :
  ∃ (m1 m2 c1 s1 t d1 y q G:Nat),floatBits .mul .f64 (FloatKind.nearest .f64 ((dgt a (nl b):Nat):Int)) 4741671816366391296=some m1/\floatBits .mul .f64 m1 4741671816366391296=some m2/\floatBits .mul .f64 (FloatKind.nearest .f64 ((dgt a (nl b-1):Nat):Int)) 4741671816366391296=some c1 /\
   floatBits .add .f64 m2 c1=some s1/\floatBits .add .f64 s1 (FloatKind.nearest .f64 ((dgt a (nl b-2):Nat):Int))=some t/\floatBits .mul .f64 (FloatKind.nearest .f64 ((dgt b (nl b-1):Nat):Int)) 4741671816366391296=some d1/\floatBits .add .f64 d1 (FloatKind.nearest .f64 ((dgt b (nl b-2):Nat):Int))=some y /\
   floatBits .quo .f64 t y=some q/\floatToIntVal .f64 q .i64=some (G:Int)/\a/b<=G+2000/\G<=a/b+2000:=by
 have hb0:b≠0:=by rintro rfl;rw [B7] at h2;omega
 have hk:a<BB^(nl b+1):=by
  rw [Nat.pow_succ]
  exact Nat.lt_of_lt_of_le hab (Nat.mul_le_mul_right _ (Nat.le_of_lt (CY b)))
 have t2:=Xx h2
 have t3:=Xy hk h2
 have w0:=BBp (nl b-2)
 have hbl:b<(b/BB^(nl b-2)+1)*BB^(nl b-2):=by
  have:=Nat.lt_div_mul_add (a:=b) w0
  rw [Nat.add_mul,Nat.one_mul];exact this
 have hT:a/BB^(nl b-2)<1000000000*(b/BB^(nl b-2)+1):=by
  rw [Nat.div_lt_iff_lt_mul w0]
  have h1:b*BB<=(b/BB^(nl b-2)+1)*BB^(nl b-2)*BB:=Nat.mul_le_mul_right _ (Nat.le_of_lt hbl)
  have h2:(b/BB^(nl b-2)+1)*BB^(nl b-2)*BB=1000000000*(b/BB^(nl b-2)+1)*BB^(nl b-2):=by
   rw [Nat.mul_right_comm,Nat.mul_comm (b/BB^(nl b-2)+1) BB];rfl
  rw [h2] at h1
  exact Nat.lt_of_lt_of_le hab h1
 have hd1:dgt b (nl b-1)≠0:=JP hb0
 have hDle:b/BB^(nl b-2)<=a/BB^(nl b-2):=Nat.div_le_div_right hba
 have lts:∀ n i,dgt n i<1000000000:=BA
 have hQ1:a/b*(b/BB^(nl b-2))<=a/BB^(nl b-2):=by
  rw [Nat.le_div_iff_mul_le w0,Nat.mul_assoc]
  exact Nat.le_trans (Nat.mul_le_mul_left _ (Nat.div_mul_le_self _ _)) (Nat.div_mul_le_self _ _)
 have hQ2:a/BB^(nl b-2)<(a/b+1)*(b/BB^(nl b-2)+1):=by
  rw [Nat.div_lt_iff_lt_mul w0,Nat.mul_assoc]
  have h1:a<(a/b+1)*b:=by
   have:=Nat.lt_div_mul_add (a:=a) (Nat.pos_of_ne_zero hb0)
   rw [Nat.add_mul,Nat.one_mul];exact this
  exact Nat.lt_of_lt_of_le h1 (Nat.mul_le_mul_left _ (Nat.le_of_lt hbl))
 rw [t2] at hT hDle hQ1 hQ2
 rw [t3] at hT hDle hQ1 hQ2
 obtain ⟨m1,m2,c1,s1,t,d1,y,q,G,e1,e2,e3,e4,e5,e6,e7,e8,e9,hG⟩:=XQ (lts a (nl b)) (lts a (nl b-1)) (lts a (nl b-2)) (lts b (nl b-1)) (by omega) (lts b (nl b-2)) hT (by omega)
 exact ⟨m1,m2,c1,s1,t,d1,y,q,G,e1,e2,e3,e4,e5,e6,e7,e8,e9,hG _ hQ1 hQ2⟩
theorem FB {a b m:Nat} (hb:b≠0) (h:b*m<=a):m<=a/b:=by
 rw [Nat.le_div_iff_mul_le (Nat.pos_of_ne_zero hb),Nat.mul_comm];exact h
theorem div_lt_of_lt_mul {a b m:Nat} (h:a<b*m):a/b<m:=Nat.div_lt_of_lt_mul h
theorem JU (r b:Nat):r-b*(r/b)=r%b:=by
 have:=Nat.div_add_mod r b
 omega
theorem FC {a b:Nat} (hb:b≠0):nl (a%b)<=nl b:=CS (Nat.le_of_lt (Nat.mod_lt _ (Nat.pos_of_ne_zero hb)))
theorem JV {a b j:Nat} (hb:b≠0):dgt a j+BB*(a/BB^(j+1)%b)<b*BB:=by
 have h1:=Nat.mod_lt (a/BB^(j+1)) (Nat.pos_of_ne_zero hb)
 have h2:=BA a j
 have h3:=Nat.mul_le_mul_left BB (show a/BB^(j+1)%b+1<=b from h1)
 rw [Nat.mul_add,Nat.mul_one] at h3
 rw [Nat.mul_comm b]
 omega
theorem JW {a b j:Nat} (hb:b≠0):(dgt a j+BB*(a/BB^(j+1)%b))/b=dgt (a/b) j/\(dgt a j+BB*(a/BB^(j+1)%b))%b=a/BB^j%b:=by
 have:=M9 a b j (Nat.pos_of_ne_zero hb)
 rw [Nat.mul_comm (a/BB^(j+1)%b),Nat.add_comm] at this
 exact this
end Go.Proofs.YtndnhlhnjiopfaaGreat
