import Derived.Test.YthoidhehmmcgnaaGreatWtExD
namespace Go.Proofs.YthoidhehmmcgnaaGreat
set_option linter.unusedVariables false
set_option linter.unusedSimpArgs false
def sm(k:Nat)(q:Rat):Prop:=q.num.natAbs<=2^k/\q.den<=2^k
theorem sm.mono{j k:Nat}{q:Rat}(h:sm j q)(a0:j<=k):sm k q:=
 ⟨Nat.le_trans h.1 (Nat.pow_le_pow_right (by omega) a0),Nat.le_trans h.2 (Nat.pow_le_pow_right (by omega) a0)⟩
theorem YV{z:Int}{d k:Nat}(hd:d≠0)(h1:z.natAbs<=2^k)(h2:d<=2^k):sm k (mkRat z d):=by refine⟨?_,?_⟩;rw[Dk hd];exact Nat.le_trans (Nat.div_le_self _ _) h1;rw[(Dx hd).2];exact Nat.le_trans (Nat.div_le_self _ _) h2
theorem DP{a b j k:Nat}(ha:a<=2^j)(hb:b<=2^k):a*b<=2^(j+k):=by rw[Nat.pow_add];exact Nat.mul_le_mul ha hb
theorem YW{a b:Rat}{j k:Nat}(ha:sm j a)(hb:sm k b)(z:Int)(hz:z=a.num*b.den+b.num*a.den\/z=a.num*b.den-b.num*a.den):sm (j+k+1) (mkRat z (a.den*b.den)):=by
 have h1:(a.num*b.den).natAbs<=2^(j+k):=by rw[Int.natAbs_mul,Int.natAbs_natCast];exact DP ha.1 hb.2
 have h2:(b.num*a.den).natAbs<=2^(j+k):=by rw[Int.natAbs_mul,Int.natAbs_natCast,Nat.add_comm];exact DP hb.1 ha.2
 refine YV (Nat.mul_ne_zero a.den_nz b.den_nz) ?_ ?_;rw[Nat.pow_succ];rcases hz with rfl|rfl <;> omega;exact Nat.le_trans (DP ha.2 hb.2) (Nat.pow_le_pow_right (by omega) (by omega))
theorem ABF{a b:Rat}{j k:Nat}(ha:sm j a)(hb:sm k b):sm (j+k+1) (a+b):=by rw[Rat.add_def'];exact YW ha hb _ (.inl rfl)
theorem ABG{a b:Rat}{j k:Nat}(ha:sm j a)(hb:sm k b):sm (j+k+1) (a-b):=by rw[Rat.sub_def'];exact YW ha hb _ (.inr rfl)
theorem ABH{a b:Rat}{j k:Nat}(ha:sm j a)(hb:sm k b):sm (j+k) (a*b):=by rw[Rat.mul_def'];exact YV (Nat.mul_ne_zero a.den_nz b.den_nz) (by rw[Int.natAbs_mul];exact DP ha.1 hb.1) (DP ha.2 hb.2)
theorem Ta{a b:Rat}{j k:Nat}(ha:sm j a)(hb:sm k b)(h0:b≠0):sm (j+k) (a/b):=by
 rw[div_mk h0];have hn:b.num.natAbs≠0:=λh=>h0 (Rat.num_eq_zero.1 (Int.natAbs_eq_zero.1 h));refine YV (Nat.mul_ne_zero a.den_nz hn) ?_ (DP ha.2 hb.1);have h1:(a.num*b.den).natAbs<=2^(j+k):=by rw[Int.natAbs_mul,Int.natAbs_natCast];exact DP ha.1 hb.2
 split;rw[Int.natAbs_neg];exact h1;exact h1
theorem NS{n:Int}{k:Nat}(h:n.natAbs<=2^k):sm k (n:Rat):=
 ⟨by rw[Rat.num_intCast];exact h,by rw[Rat.den_intCast];exact Nat.one_le_two_pow⟩
theorem Rc{n k:Nat}(h:n<=2^k)(hk:k<=700):nl n<=24:=by refine(Di _ _).2 ?_;refine Nat.lt_of_le_of_lt (Nat.le_trans h (Nat.pow_le_pow_right (by omega) hk)) ?_;decide +kernel
theorem ABI{q:Rat}{k:Nat}(h:sm k q)(hk:k<=700):PS q=true:=Dj.2 ⟨Rc h.1 hk,Rc h.2 hk⟩
def FrS(k:Nat)(r:Fr)(q:Rat):Prop:=r.v=some q/\sm k q
theorem FrS.clamp{q:Rat}{k:Nat}(h:sm k q)(hk:k<=700):FrS k (clamp q) q:=⟨Eh (ABI h hk),h⟩
theorem FrS.mono{j k:Nat}{r:Fr}{q:Rat}(h:FrS j r q)(a0:j<=k):FrS k r q:=⟨h.1,h.2.mono a0⟩
theorem FrS.good{k:Nat}{r:Fr}{q:Rat}(h:FrS k r q):r.good=true:=Fr.good_some h.1
theorem FrS.int{n:Int}{k:Nat}(h:n.natAbs<=2^k)(hk:k<=700):FrS k (Fr.ofInt n) (n:Rat):=FrS.clamp (NS h) hk
theorem FrS.add{j k:Nat}{r s:Fr}{a b:Rat}(hr:FrS j r a)(hs:FrS k s b)(h:j+k+1<=700):FrS (j+k+1) (Fr.add r s) (a+b):=by unfold Fr.add Fr.bin;rw[hr.1,hs.1];exact FrS.clamp (ABF hr.2 hs.2) h
theorem FrS.sub{j k:Nat}{r s:Fr}{a b:Rat}(hr:FrS j r a)(hs:FrS k s b)(h:j+k+1<=700):FrS (j+k+1) (Fr.sub r s) (a-b):=by unfold Fr.sub Fr.bin;rw[hr.1,hs.1];exact FrS.clamp (ABG hr.2 hs.2) h
theorem FrS.mul{j k:Nat}{r s:Fr}{a b:Rat}(hr:FrS j r a)(hs:FrS k s b)(h:j+k<=700):FrS (j+k) (Fr.mul r s) (a*b):=by unfold Fr.mul Fr.bin;rw[hr.1,hs.1];exact FrS.clamp (ABH hr.2 hs.2) h
theorem FrS.div{j k:Nat}{r s:Fr}{a b:Rat}(hr:FrS j r a)(hs:FrS k s b)(h0:b≠0)(h:j+k<=700):FrS (j+k) (Fr.div r s) (a/b):=by unfold Fr.div Fr.bin;rw[hr.1,hs.1];simp only;rw[if_neg h0];exact FrS.clamp (Ta hr.2 hs.2 h0) h
theorem FrS.cmp{j k:Nat}{r s:Fr}{a b:Rat}(hr:FrS j r a)(hs:FrS k s b):Fr.cmp r s=LZ a b:=by unfold Fr.cmp;rw[hr.1,hs.1]
theorem FrS.min{j k:Nat}{r s:Fr}{a b:Rat}(hr:FrS j r a)(hs:FrS k s b):FrS (Nat.max j k) (Fr.min r s) (Min.min a b):=by unfold Fr.min Fr.bin;rw[hr.1,hs.1];simp only;by_cases h:a<=b;rw[if_pos h,show Min.min a b=a from if_pos h];exact hr.mono (Nat.le_max_left _ _);rw[if_neg h,show Min.min a b=b from if_neg h];exact hs.mono (Nat.le_max_right _ _)
theorem FrS.max{j k:Nat}{r s:Fr}{a b:Rat}(hr:FrS j r a)(hs:FrS k s b):FrS (Nat.max j k) (Fr.max r s) (Max.max a b):=by
 unfold Fr.max Fr.bin;rw[hr.1,hs.1];simp only;by_cases h:b<=a;rw[if_pos h];have e:Max.max a b=a:=by show(if a<=b then b else a)=a;split <;> grind
 rw[e];exact hr.mono (Nat.le_max_left _ _);rw[if_neg h];have e:Max.max a b=b:=by show(if a<=b then b else a)=b;split <;> grind
 rw[e];exact hs.mono (Nat.le_max_right _ _)
end Go.Proofs.YthoidhehmmcgnaaGreat
