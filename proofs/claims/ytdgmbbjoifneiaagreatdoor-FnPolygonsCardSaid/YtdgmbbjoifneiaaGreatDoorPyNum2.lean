import Derived.Test.YtdgmbbjoifneiaaGreatDoorPyNum
import Derived.Test.YtdgmbbjoifneiaaGreatDoorPyFlt
namespace Go.Proofs.YtdgmbbjoifneiaaGreatDoor
set_option linter.unusedVariables false
set_option linter.unusedSimpArgs false
theorem VT {a b:Nat} (h:nl a≠nl b):FU ((nl a:Nat):Int) ((nl b:Nat):Int)=Dd a b:=by
 unfold FU
 by_cases hlt:nl a<nl b
 ·rw [if_pos (by omega),QO (Np hlt)]
 ·have:=Np (a:=b) (b:=a) (by omega)
  rw [if_neg (by omega),if_neg (by omega),QP this]
theorem Tk {a b k:Nat} (h:a/BB^(k+1)=b/BB^(k+1)) (hd:dgt a k≠dgt b k):FU ((dgt a k:Nat):Int) ((dgt b k:Nat):Int)=Dd a b:=by
 unfold FU
 by_cases hlt:dgt a k<dgt b k
 ·rw [if_pos (by omega),QO (LM h hlt)]
 ·rw [if_neg (by omega),if_neg (by omega),QP (LM h.symm (by omega))]
theorem Nv {a b:Nat} : Dd a b<=0↔a<=b:=by unfold Dd;split <;> (try split) <;> omega
theorem FV {a b:Nat} : 0<=Dd a b↔b<=a:=by unfold Dd;split <;> (try split) <;> omega
theorem ES {a b:Nat} : Dd a b<0↔a<b:=by unfold Dd;split <;> (try split) <;> omega
theorem LS {i n:Nat} (h:i<nl n):BB^i<=n:=(Ta _ _).1 h
theorem MH {i n:Nat} (h:nl n<=i):n<BB^i:=(Dc _ _).1 h
theorem J4 {a b i:Nat} (h:0<Bm a b i):i<=max (nl a) (nl b):=by
 have h1:=(Ta i (a+b)).2 (Nn h)
 have h2:=LN a b
 omega
theorem FW {a b i:Nat} (h:i<nl a∨i<nl b∨0<Bm a b i):BB^(i+1-1)<=a+b:=by
 rw [Nat.add_sub_cancel]
 rcases h with h|h|h
 ·have:=LS h;omega
 ·have:=LS h;omega
 ·exact Nn h
theorem VU {a b i:Nat} (h1:nl a<=i) (h2:nl b<=i) (h3:Bm a b i=0) (h4:i=0∨BB^(i-1)<=a+b):AJ (AV i (a+b))=L (a+b):=by
 unfold L
 rw [TV (XM (TW (MH h1) (MH h2) h3) h4)]
theorem IA {k n:Nat} (h:nl n<=k):L (AZ (AV k n))=L n:=by
 rw [Jx,Nat.mod_eq_of_lt (MH h)]
theorem Tl {a i:Nat} (h:nl a<=i):a%BB^i=a:=Nat.mod_eq_of_lt (MH h)
theorem LU {a b i k V c:Nat} (hi:i<nl a) (h:V+c*BB^(i+k)=a%BB^i*b+dgt a i*BB^i*(b%BB^k)) (hc:0<c):k<=nl b:=by
 have h1:BB^(i+k)<=V+c*BB^(i+k):=Nat.le_trans (Nat.le_mul_of_pos_left _ hc) (Nat.le_add_left _ _)
 have h2:a%BB^i*b+dgt a i*BB^i*(b%BB^k)<=a%BB^(i+1)*b:=by
  rw [← TY]
  exact Nat.add_le_add_left (Nat.mul_le_mul_left _ (Nat.mod_le _ _)) _
 have h3:a%BB^(i+1)*b<BB^(i+1)*BB^nl b:=Nat.mul_lt_mul'' (Nat.mod_lt _ (BBp _)) (C1 b)
 rw [← Nat.pow_add] at h3
 have h4:BB^(i+k)<BB^(i+1+nl b):=by omega
 have h5:=(Nat.pow_lt_pow_iff_right (show 1<BB by decide)).1 h4
 omega
theorem LV {x y z c:Nat} (hx:x<BB) (hy:y<BB) (hz:z<BB) (hc:c<BB):(z+x*y+c)/BB<BB/\z+x*y+c<=1000000000000000000/\x*y<=999999998000000001:=by
 have h1:x*y<=999999999*999999999:=Nat.mul_le_mul (by unfold BB at hx;omega) (by unfold BB at hy;omega)
 have e:999999999*999999999=999999998000000001:=by decide
 rw [e] at h1
 unfold BB at *
 refine ⟨?_,by omega,h1⟩
 rw [Nat.div_lt_iff_lt_mul (by decide)]
 omega
theorem Nw {N V p x:Nat} (hp:p<N):(AJ (AV N V)).set p (((AJ (AV N V)).getD p []).set 0 (Dat.int ((x%BB:Nat):Int)))=AJ (AV N (V-dgt V p*BB^p+x%BB*BB^p)):=by
 rw [LO (by rw [Ag];exact hp),Nm hp (Nat.mod_lt _ Da)]
theorem VV (q i:Nat):dgt (hi q i) i=dgt q i:=by
 unfold dgt hi
 rw [Nat.mul_div_cancel _ (BBp i)]
theorem QX {a q:Nat} (h:q<=a):List.replicate (nl a) [Dat.int 0]=AJ (AV (nl a) (hi q (nl a))):=by
 rw [WX (Nat.lt_of_le_of_lt h (C1 a)),← MB,FE]
theorem Wj {N q i x:Nat} (hi' : i<N) (hx:x=dgt q i):(AJ (AV N (hi q (i+1)))).set i (((AJ (AV N (hi q (i+1)))).getD i []).set 0 (Dat.int ((x:Nat):Int)))=AJ (AV N (hi q i)):=by
 rw [LO (by rw [Ag];exact hi'),VN hi' hx]
theorem Tm {a q:Nat} (h:q<=a):L (AZ (AV (nl a) (hi q 0)))=L q:=by
 rw [VM,IA (Fz h)]
theorem VW {q i:Nat} (h:dgt q i=0):hi q (i+1)=hi q i:=by rw [QN q i,h,Nat.zero_mul];exact (Nat.add_zero _).symm
theorem J5 {b:Nat} (h:nl b=1):dgt b 0=b/\b<BB/\0<b:=by
 have h1:b<BB:=by have:=C1 b;rw [h] at this;simpa using this
 have h2:b≠0:=by rintro rfl;rw [By] at h;omega
 refine ⟨?_,h1,by omega⟩
 unfold dgt
 rw [Nat.pow_zero,Nat.div_one,Nat.mod_eq_of_lt h1]
theorem WC {n:Nat} (h0:0<n) (h:n<BB):[[Dat.int ((n:Nat):Int)]]=L n:=by
 unfold L
 rw [D0 (by omega),Nat.mod_eq_of_lt h,Nat.div_eq_of_lt h,Bd]
 rfl
theorem Nx {d n:Nat} (h:d<BB):∀ x ∈ d::dig n,x<BB:=λ x hx=>by
 rcases List.mem_cons.1 hx with rfl|hx
 ·exact h
 ·exact TS n x hx
theorem Xx {b:Nat} (h:2<=nl b):b/BB^(nl b-2)=1000000000*dgt b (nl b-1)+dgt b (nl b-2):=by
 have e1:nl b-2+1=nl b-1:=by omega
 have e2:nl b-1+1=nl b:=by omega
 rw [A5 b (nl b-2),e1,A5 b (nl b-1),e2,Nat.div_eq_of_lt (C1 b),Nat.zero_mul,Nat.zero_add,Nat.mul_comm]
 rfl
theorem Xy {a k:Nat} (h:a<BB^(k+1)) (hk:2<=k):a/BB^(k-2)=1000000000*(1000000000*dgt a k)+1000000000*dgt a (k-1)+dgt a (k-2):=by
 have e1:k-2+1=k-1:=by omega
 have e2:k-1+1=k:=by omega
 rw [A5 a (k-2),e1,A5 a (k-1),e2,A5 a k,Nat.div_eq_of_lt h,Nat.zero_mul,Nat.zero_add]
 unfold BB
 omega
theorem Wk {a b:Nat} (h2:2<=nl b) (hba:b<=a) (hab:a<b*BB) :
  ∃ (m1 m2 c1 s1 t d1 y q G:Nat),floatBits .mul .f64 (FloatKind.nearest .f64 ((dgt a (nl b):Nat):Int)) 4741671816366391296=some m1/\floatBits .mul .f64 m1 4741671816366391296=some m2/\floatBits .mul .f64 (FloatKind.nearest .f64 ((dgt a (nl b-1):Nat):Int)) 4741671816366391296=some c1 /\
   floatBits .add .f64 m2 c1=some s1/\floatBits .add .f64 s1 (FloatKind.nearest .f64 ((dgt a (nl b-2):Nat):Int))=some t/\floatBits .mul .f64 (FloatKind.nearest .f64 ((dgt b (nl b-1):Nat):Int)) 4741671816366391296=some d1/\floatBits .add .f64 d1 (FloatKind.nearest .f64 ((dgt b (nl b-2):Nat):Int))=some y /\
   floatBits .quo .f64 t y=some q/\floatToIntVal .f64 q .i64=some (G:Int)/\a/b<=G+2000/\G<=a/b+2000:=by
 have hb0:b≠0:=by rintro rfl;rw [By] at h2;omega
 have hk:a<BB^(nl b+1):=by
  rw [Nat.pow_succ]
  exact Nat.lt_of_lt_of_le hab (Nat.mul_le_mul_right _ (Nat.le_of_lt (C1 b)))
 have t2:=Xx h2
 have t3:=Xy hk h2
 have w0:=BBp (nl b-2)
 have hbl:b<(b/BB^(nl b-2)+1)*BB^(nl b-2):=by
  have:=Nat.lt_div_mul_add (a:=b) w0
  rw [Nat.add_mul,Nat.one_mul];exact this
 have hT:a/BB^(nl b-2)<1000000000*(b/BB^(nl b-2)+1):=by
  rw [Nat.div_lt_iff_lt_mul w0]
  have h1:b*BB<=(b/BB^(nl b-2)+1)*BB^(nl b-2)*BB:=Nat.mul_le_mul_right _ (Nat.le_of_lt hbl)
  have h2:(b/BB^(nl b-2)+1)*BB^(nl b-2)*BB=1000000000*(b/BB^(nl b-2)+1)*BB^(nl b-2):=by
   rw [Nat.mul_right_comm,Nat.mul_comm (b/BB^(nl b-2)+1) BB];rfl
  rw [h2] at h1
  exact Nat.lt_of_lt_of_le hab h1
 have hd1:dgt b (nl b-1)≠0:=If hb0
 have hDle:b/BB^(nl b-2)<=a/BB^(nl b-2):=Nat.div_le_div_right hba
 have lts:∀ n i,dgt n i<1000000000:=BZ
 have hQ1:a/b*(b/BB^(nl b-2))<=a/BB^(nl b-2):=by
  rw [Nat.le_div_iff_mul_le w0,Nat.mul_assoc]
  exact Nat.le_trans (Nat.mul_le_mul_left _ (Nat.div_mul_le_self _ _)) (Nat.div_mul_le_self _ _)
 have hQ2:a/BB^(nl b-2)<(a/b+1)*(b/BB^(nl b-2)+1):=by
  rw [Nat.div_lt_iff_lt_mul w0,Nat.mul_assoc]
  have h1:a<(a/b+1)*b:=by
   have:=Nat.lt_div_mul_add (a:=a) (Nat.pos_of_ne_zero hb0)
   rw [Nat.add_mul,Nat.one_mul];exact this
  exact Nat.lt_of_lt_of_le h1 (Nat.mul_le_mul_left _ (Nat.le_of_lt hbl))
 rw [t2] at hT hDle hQ1 hQ2
 rw [t3] at hT hDle hQ1 hQ2
 obtain ⟨m1,m2,c1,s1,t,d1,y,q,G,e1,e2,e3,e4,e5,e6,e7,e8,e9,hG⟩:=XR (lts a (nl b)) (lts a (nl b-1)) (lts a (nl b-2)) (lts b (nl b-1)) (by omega) (lts b (nl b-2)) hT (by omega)
 exact ⟨m1,m2,c1,s1,t,d1,y,q,G,e1,e2,e3,e4,e5,e6,e7,e8,e9,hG _ hQ1 hQ2⟩
theorem IB {a b m:Nat} (hb:b≠0) (h:b*m<=a):m<=a/b:=by
 rw [Nat.le_div_iff_mul_le (Nat.pos_of_ne_zero hb),Nat.mul_comm];exact h
theorem div_lt_of_lt_mul {a b m:Nat} (h:a<b*m):a/b<m:=Nat.div_lt_of_lt_mul h
theorem Ny (r b:Nat):r-b*(r/b)=r%b:=by
 have:=Nat.div_add_mod r b
 omega
theorem LW {a b:Nat} (hb:b≠0):nl (a%b)<=nl b:=Fz (Nat.le_of_lt (Nat.mod_lt _ (Nat.pos_of_ne_zero hb)))
theorem Nz {a b j:Nat} (hb:b≠0):dgt a j+BB*(a/BB^(j+1)%b)<b*BB:=by
 have h1:=Nat.mod_lt (a/BB^(j+1)) (Nat.pos_of_ne_zero hb)
 have h2:=BZ a j
 have h3:=Nat.mul_le_mul_left BB (show a/BB^(j+1)%b+1<=b from h1)
 rw [Nat.mul_add,Nat.mul_one] at h3
 rw [Nat.mul_comm b]
 omega
theorem N0 {a b j:Nat} (hb:b≠0):(dgt a j+BB*(a/BB^(j+1)%b))/b=dgt (a/b) j/\(dgt a j+BB*(a/BB^(j+1)%b))%b=a/BB^j%b:=by
 have:=QM a b j (Nat.pos_of_ne_zero hb)
 rw [Nat.mul_comm (a/BB^(j+1)%b),Nat.add_comm] at this
 exact this
end Go.Proofs.YtdgmbbjoifneiaaGreatDoor
