import Derived.Test.YthoidhehmmcgnaaGreatWtNum2
import Derived.Test.YthoidhehmmcgnaaGreatWtExD
namespace Go.Proofs.YthoidhehmmcgnaaGreat
set_option linter.unusedVariables false
set_option linter.unusedSimpArgs false
def zOf(neg:Bool)(m:Nat):Int:=if neg=true then -(m:Int)else(m:Int)
theorem EV(n:Bool)(m:Nat):(zOf n m).natAbs=m:=by unfold zOf;cases n <;> simp
theorem AA2(n:Bool)(m:Nat):decide (zOf n m<0)=(n && decide ((L m).length>0)):=by rw[AJ];have h:nl m>0<->m≠0:=⟨λh e=>by rw[Ck.2 e]at h;omega,Hi⟩;unfold zOf;cases n;simp;simp only[if_true,Bool.true_and];congr 1;apply propext;rw[h];omega
theorem F9(z:Int):zOf (decide (z<0)) z.natAbs=z:=by unfold zOf;by_cases h:z<0;simp only[h,decide_true,if_true];omega;simp only[h,decide_false];simp;omega
theorem PX(z:Int):zOf (!decide (z<0)) z.natAbs=-z:=by unfold zOf;by_cases h:z<0;simp only[h,decide_true];simp;omega;simp only[h,decide_false];simp;omega
theorem Mw{x y:Int}(h:decide (x<0)=decide (y<0)):zOf (decide (x<0)) (x.natAbs+y.natAbs)=x+y:=by
 unfold zOf;by_cases hx:x<0;have hy:y<0:=by rw[decide_eq_true hx]at h;exact of_decide_eq_true h.symm
 simp only[hx,decide_true,if_true];omega;have hy:¬y<0:=by rw[decide_eq_false hx]at h;exact of_decide_eq_false h.symm
 simp only[hx,decide_false];simp;omega
theorem Ja{x y:Int}(h:decide (x<0)≠decide (y<0))(hle:y.natAbs<=x.natAbs):zOf (decide (x<0)) (x.natAbs-y.natAbs)=x+y:=by
 unfold zOf;by_cases hx:x<0;have hy:¬y<0:=λhy=>h (by rw[decide_eq_true hx,decide_eq_true hy]);simp only[hx,decide_true,if_true];omega;have hy:y<0:=by apply Classical.byContradiction;intro hy;exact h (by rw[decide_eq_false hx,decide_eq_false hy])
 simp only[hx,decide_false];simp;omega
theorem Mx{x y:Int}(h:decide (x<0)≠decide (y<0))(a0:x.natAbs<=y.natAbs):zOf (decide (y<0)) (y.natAbs-x.natAbs)=x+y:=by rw[Int.add_comm];exact Ja (λe=>h e.symm) a0
theorem Lj(x y:Int):zOf (decide (x<0) != decide (y<0)) (x.natAbs*y.natAbs)=x*y:=by
 unfold zOf;rw[Int.natCast_mul];by_cases hx:x<0 <;> by_cases hy:y<0;have e1:(x.natAbs:Int)=-x:=by omega
 have e2:(y.natAbs:Int)=-y:=by omega
 simp only[hx,hy,decide_true,e1,e2];simp[Int.neg_mul_neg];have e1:(x.natAbs:Int)=-x:=by omega
 have e2:(y.natAbs:Int)=y:=by omega
 simp only[hx,hy,decide_true,decide_false,e1,e2];simp[Int.neg_mul];have e1:(x.natAbs:Int)=x:=by omega
 have e2:(y.natAbs:Int)=-y:=by omega
 simp only[hx,hy,decide_true,decide_false,e1,e2];simp[Int.mul_neg];have e1:(x.natAbs:Int)=x:=by omega
 have e2:(y.natAbs:Int)=y:=by omega
 simp only[hx,hy,decide_false,e1,e2];simp
theorem X0{a b:Nat} : Br a b=DG a b:=by unfold Br DG;simp only[Int.ofNat_lt,Int.natCast_inj]
theorem Ud{x y:Int}(hx:x<0)(hy:y<0):Br y.natAbs x.natAbs=DG x y:=by rw[X0];unfold DG;by_cases h:x<y;rw[if_pos h,if_pos (by omega)];rw[if_neg h,if_neg (by omega)];by_cases h2:x=y;rw[if_pos h2,if_pos (by omega)];rw[if_neg h2,if_neg (by omega)]
theorem Ue{x y:Int}(hx:¬x<0)(hy:¬y<0):Br x.natAbs y.natAbs=DG x y:=by rw[X0];unfold DG;by_cases h:x<y;rw[if_pos h,if_pos (by omega)];rw[if_neg h,if_neg (by omega)];by_cases h2:x=y;rw[if_pos h2,if_pos (by omega)];rw[if_neg h2,if_neg (by omega)]
theorem Uf{x y:Int}(hx:x<0)(hy:¬y<0):(-1:Int)=DG x y:=by unfold DG;rw[if_pos (by omega)]
theorem Ug{x y:Int}(hx:¬x<0)(hy:y<0):(1:Int)=DG x y:=by unfold DG;rw[if_neg (by omega),if_neg (by omega)]
theorem E5(x y:Int):nl (x+y).natAbs<=max (nl x.natAbs) (nl y.natAbs)+1:=by have h1:(x+y).natAbs<=x.natAbs+y.natAbs:=Int.natAbs_add_le x y;exact Nat.le_trans (Cy h1) (KH _ _)
theorem BQ(x y:Int):nl (x*y).natAbs<=nl x.natAbs+nl y.natAbs:=by rw[Int.natAbs_mul];exact As _ _
theorem Dn(n:Nat):nl ((n:Int)).natAbs=nl n:=by rw[Int.natAbs_natCast]
theorem E6{z:Int}{d:Nat}(hd:d≠0)(h:¬(nl (z.natAbs/z.natAbs.gcd d)<=24/\nl (d/z.natAbs.gcd d)<=24)):Fr.mk' z d=Fr.none:=
 Xm λhf=>h (by have:=Dj.1 hf;rw[Dk hd,(Dx hd).2]at this;exact this)
def Fr.z(r:Fr):Int:=match r.v with|.none=>0|some q=>q.num
def Fr.d(r:Fr):Nat:=match r.v with|.none=>0|some q=>q.den
theorem Fr.z_some{r:Fr}{q:Rat}(h:r.v=some q):r.z=q.num:=by unfold Fr.z;rw[h]
theorem Fr.d_some{r:Fr}{q:Rat}(h:r.v=some q):r.d=q.den:=by unfold Fr.d;rw[h]
theorem Fr.neg_z(r:Fr):r.neg=decide (r.z<0):=by rcases Fr.cases r with rfl|⟨q,hq,_⟩;rfl;rw[Fr.neg_some hq,Fr.z_some hq]
theorem Fr.num_z(r:Fr):r.num=L r.z.natAbs:=by rcases Fr.cases r with rfl|⟨q,hq,_⟩;exact Cj.symm;rw[Fr.num_some hq,Fr.z_some hq]
theorem Fr.den_d(r:Fr):r.den=L r.d:=by rcases Fr.cases r with rfl|⟨q,hq,_⟩;exact Cj.symm;rw[Fr.den_some hq,Fr.d_some hq]
theorem Fr.nlz(r:Fr):nl r.z.natAbs<=24:=by rcases Fr.cases r with rfl|⟨q,hq,h,_⟩;show nl 0<=24;rw[CP];omega;rw[Fr.z_some hq];exact h
theorem Fr.nld(r:Fr):nl r.d<=24:=by rcases Fr.cases r with rfl|⟨q,hq,_,h⟩;show nl 0<=24;rw[CP];omega;rw[Fr.d_some hq];exact h
theorem Fr.d_good{r:Fr} : r.good=true<->r.d≠0:=by rcases Fr.cases r with rfl|⟨q,hq,_⟩;exact⟨(λh=>by cases h),(λh=>absurd rfl h)⟩;rw[Fr.good_some hq,Fr.d_some hq];simp[q.den_nz]
theorem Fr.d_good'{r:Fr} : decide ((L r.d).length>0)=r.good:=by
 have:=@Fr.d_good r;rw[AJ];cases h:r.good;have:r.d=0:=by apply Classical.byContradiction;intro h2;rw[this.2 h2]at h;cases h
 rw[this,CP];rfl;exact decide_eq_true (Hi (this.1 h))
theorem Fr.bad_z{r:Fr}(h:r.d=0):r=Fr.none:=by apply Fr.bad_inv;cases hg:r.good;rfl;exact absurd h (Fr.d_good.1 hg)
theorem Fr.some_d{r:Fr}(h:r.d≠0):∃q,r.v=some q/\r.z=q.num/\r.d=q.den:=by obtain⟨q,hq,_⟩:=Fr.good_inv (Fr.d_good.2 h);exact⟨q,hq,Fr.z_some hq,Fr.d_some hq⟩
theorem Fr.add_zd{r s:Fr}(hr:r.d≠0)(hs:s.d≠0):Fr.add r s=Fr.mk' (r.z*s.d+s.z*r.d) (r.d*s.d):=by obtain⟨a,ha,e1,e2⟩:=Fr.some_d hr;obtain⟨b,hb,e3,e4⟩:=Fr.some_d hs;rw[e1,e2,e3,e4];exact Fr.add_mk ha hb
theorem Fr.mul_zd{r s:Fr}(hr:r.d≠0)(hs:s.d≠0):Fr.mul r s=Fr.mk' (r.z*s.z) (r.d*s.d):=by obtain⟨a,ha,e1,e2⟩:=Fr.some_d hr;obtain⟨b,hb,e3,e4⟩:=Fr.some_d hs;rw[e1,e2,e3,e4];exact Fr.mul_mk ha hb
theorem Fr.div_zd{r s:Fr}(hr:r.d≠0)(hs:s.d≠0)(hz:s.z≠0):Fr.div r s=Fr.mk' (zOf (decide (r.z*s.d<0) != decide (s.z<0)) (r.z*s.d).natAbs) (r.d*s.z.natAbs):=by obtain⟨a,ha,e1,e2⟩:=Fr.some_d hr;obtain⟨b,hb,e3,e4⟩:=Fr.some_d hs;have hb0:b≠0:=λh=>hz (by rw[e3,h];rfl);rw[e1,e2,e3,e4,Fr.div_mk ha hb hb0];congr 1;unfold zOf;by_cases h1:b.num<0 <;> by_cases h2:a.num*b.den<0;simp only[h1,h2,decide_true,if_true];simp;omega;simp only[h1,h2,decide_true,decide_false,if_true];simp;omega;simp only[h1,h2,decide_true,decide_false,if_false];simp;omega;simp only[h1,h2,decide_false,if_false];simp;omega
theorem Fr.div_bad{r s:Fr}(h:r.d=0\/s.d=0\/s.z=0):Fr.div r s=Fr.none:=by rcases h with h|h|h;rw[Fr.bad_z h];rfl;rw[Fr.bad_z h];exact Fr.bin_none2 _ _;by_cases hs:s.d=0;rw[Fr.bad_z hs];exact Fr.bin_none2 _ _;obtain⟨b,hb,e3,e4⟩:=Fr.some_d hs;exact Fr.div_zero hb (Rat.num_eq_zero.1 (by rw[← e3];exact h))
theorem Fr.bin_bad(f:Rat->Rat->Fr){r s:Fr}(h:r.d=0\/s.d=0):Fr.bin f r s=Fr.none:=by rcases h with h|h;rw[Fr.bad_z h];rfl;rw[Fr.bad_z h];exact Fr.bin_none2 _ _
theorem Fr.cmp_zd{r s:Fr}(hr:r.d≠0)(hs:s.d≠0):Fr.cmp r s=DG (r.z*s.d) (s.z*r.d):=by obtain⟨a,ha,e1,e2⟩:=Fr.some_d hr;obtain⟨b,hb,e3,e4⟩:=Fr.some_d hs;rw[e1,e2,e3,e4];exact Fr.cmp_mk ha hb
theorem Fr.cmp_bad{r s:Fr}(h:r.d=0\/s.d=0):Fr.cmp r s=0:=by rcases h with h|h;rw[Fr.bad_z h];rfl;rw[Fr.bad_z h];exact Fr.cmp_none2 _
theorem Fr.opp_z(r:Fr):r.opp.z=-r.z:=by rcases Fr.cases r with rfl|⟨q,hq,_⟩;rfl;rw[Fr.z_some hq,Fr.z_some (Fr.opp_v hq),Rat.neg_num]
theorem Fr.opp_d(r:Fr):r.opp.d=r.d:=by rcases Fr.cases r with rfl|⟨q,hq,_⟩;rfl;rw[Fr.d_some hq,Fr.d_some (Fr.opp_v hq),Rat.neg_den]
theorem Fr.zd_ext{r s:Fr}(h1:r.z=s.z)(h2:r.d=s.d):r=s:=by by_cases hd:r.d=0;rw[Fr.bad_z hd,Fr.bad_z (r:=s) (by rw[← h2];exact hd)];obtain⟨a,ha,e1,e2⟩:=Fr.some_d hd;obtain⟨b,hb,e3,e4⟩:=Fr.some_d (h2 ▸ hd:s.d≠0);apply Fr.ext;rw[ha,hb];congr 1;exact Rat.ext (by rw[← e1,← e3,h1]) (by rw[← e2,← e4,h2])
theorem Fr.cop(r:Fr)(h:r.d≠0):r.z.natAbs.gcd r.d=1:=by obtain⟨a,ha,e1,e2⟩:=Fr.some_d h;rw[e1,e2];exact a.reduced
theorem Fr.min_pick(r s:Fr):Fr.min r s=if r.d=0\/s.d=0 then Fr.none else if Fr.cmp r s<=0 then r else s:=by
 split;rename_i h;exact Fr.bin_bad _ h;rename_i h;obtain⟨a,ha,e1,e2⟩:=Fr.some_d (λe=>h (.inl e));obtain⟨b,hb,e3,e4⟩:=Fr.some_d (λe=>h (.inr e));unfold Fr.min Fr.bin Fr.cmp LZ;rw[ha,hb];simp only;by_cases h1:a<b;have h3:a<=b:=by grind
 simp[h1,h3];by_cases h2:a=b;subst h2;simp;have h3:¬a<=b:=by grind
 simp[h1,h2,h3]
theorem Fr.max_pick(r s:Fr):Fr.max r s=if r.d=0\/s.d=0 then Fr.none else if 0<=Fr.cmp r s then r else s:=by
 split;rename_i h;exact Fr.bin_bad _ h;rename_i h;obtain⟨a,ha,e1,e2⟩:=Fr.some_d (λe=>h (.inl e));obtain⟨b,hb,e3,e4⟩:=Fr.some_d (λe=>h (.inr e));unfold Fr.max Fr.bin Fr.cmp LZ;rw[ha,hb];simp only;by_cases h1:a<b;have h3:¬b<=a:=by grind
 simp[h1,h3];by_cases h2:a=b;subst h2;simp;have h3:b<=a:=by grind
 simp[h1,h2,h3]
def Vx(l:List (List Dat)):Nat:=Ah (l.map λr=>(rn r).toNat)
theorem PY(n:Nat):Vx (L n)=n:=by
 unfold Vx L AF;rw[List.map_map];have:(λr=>(rn r).toNat)∘(λ(d:Nat)=>[Dat.int (d:Int)])=id:=by funext d;simp[Sr]
 rw[this,List.map_id];exact Fz n
def Bg(neg:Bool)(m:List (List Dat)):Bool:=BG m && !(neg && decide (m.length=0))
def GX(neg:Bool)(m d:List (List Dat)):Bool:=Bg neg m && (BG d && (!decide (d.length=0) && (decide (m.length<=24) && (decide (d.length<=24) && decide ((Vx m).gcd (Vx d)=1)))))
theorem RE(z:Int):Bg (decide (z<0)) (L z.natAbs)=decide (nl z.natAbs<=60):=by
 unfold Bg;rw[Mo,AJ]
 have:(!(decide (z<0) && decide (nl z.natAbs=0)))=true:=by
  by_cases h:z<0;have:nl z.natAbs≠0:=λe=>by have:=Ck.1 e;omega
  simp[this];simp[h]
 rw[this,Bool.and_true]
theorem Vy(r:Fr):GX r.neg r.num r.den=r.good:=by
 rw[Fr.neg_z,Fr.num_z,Fr.den_d];unfold GX;rw[RE,Mo,AJ,AJ,PY,PY];have h1:=Fr.nlz r;have h2:=Fr.nld r;rw[decide_eq_true (show nl r.z.natAbs<=60 by omega),decide_eq_true (show nl r.d<=60 by omega),decide_eq_true h1,decide_eq_true h2];simp only[Bool.true_and];cases hg:r.good;have:r.d=0:=by apply Classical.byContradiction;intro h;rw[Fr.d_good.2 h]at hg;cases hg
 simp[this,CP];have:=Fr.d_good.1 hg;have h0:nl r.d≠0:=λe=>this (Ck.1 e);simp[h0,Fr.cop r this]
abbrev dB(z:Int):DA:=.agg [cB (decide (z<0)),cS (L z.natAbs)]
abbrev dF(r:Fr):DA:=.agg [cB (decide (r.z<0)),cS (L r.z.natAbs),cS (L r.d)]
def eqC(r s:Fr):Prop:=(Value.bool (decide (r.z<0))=Value.bool (decide (s.z<0)))/\(L r.z.natAbs=L s.z.natAbs)/\(L r.d=L s.d)
def eqN(r:Fr):Prop:=(Value.bool false=Value.bool (decide (r.z<0)))/\(([]:List (List Dat))=L r.z.natAbs)/\(([]:List (List Dat))=L r.d)
def eqD(r s:Fr)(q:Prop):Prop:=(Value.bool (decide (r.z<0))=Value.bool (decide (s.z<0)))/\(L r.z.natAbs=L s.z.natAbs)/\(L r.d=L s.d)/\q
def eqM(r:Fr)(q:Prop):Prop:=(Value.bool false=Value.bool (decide (r.z<0)))/\(([]:List (List Dat))=L r.z.natAbs)/\(([]:List (List Dat))=L r.d)/\q
theorem KO{r s:Fr}{q:Prop}(h:r=s)(hq:q):eqD r s q:=by subst h;exact⟨rfl,rfl,rfl,hq⟩
theorem DI{r:Fr}{q:Prop}(h:r=Fr.none)(hq:q):eqM r q:=by subst h;exact⟨rfl,Cj.symm,Cj.symm,hq⟩
theorem Bo{r s:Fr}(h:r=s):eqC r s:=by subst h;exact⟨rfl,rfl,rfl⟩
theorem Ax{r:Fr}(h:r=Fr.none):eqN r:=by subst h;exact⟨rfl,Cj.symm,Cj.symm⟩
end Go.Proofs.YthoidhehmmcgnaaGreat
