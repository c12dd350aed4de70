import Derived.Test.YtkffpiaagjcmpaaGreatFmExD
import Derived.Test.YtkffpiaagjcmpaaGreatFmBas
namespace Go.Proofs.YtkffpiaagjcmpaaGreat
set_option linter.unusedVariables false
set_option linter.unusedSimpArgs false
def sm (k:Nat) (q:Rat):Prop:=q.num.natAbs<=2^k/\q.den<=2^k
theorem sm.mono {j k:Nat} {q:Rat} (h:sm j q) (hjk:j<=k):sm k q:=
 ⟨Nat.le_trans h.1 (Nat.pow_le_pow_right (by omega) hjk),Nat.le_trans h.2 (Nat.pow_le_pow_right (by omega) hjk)⟩
theorem ZH {z:Int} {d k:Nat} (hd:d≠0) (h1:z.natAbs<=2^k) (h2:d<=2^k):sm k (mkRat z d):=by
 refine ⟨?_,?_⟩
 ·rw [Dr hd];exact Nat.le_trans (Nat.div_le_self _ _) h1
 ·rw [(D7 hd).2];exact Nat.le_trans (Nat.div_le_self _ _) h2
theorem DZ {a b j k:Nat} (ha:a<=2^j) (hb:b<=2^k):a*b<=2^(j+k):=by
 rw [Nat.pow_add];exact Nat.mul_le_mul ha hb
theorem ZI {a b:Rat} {j k:Nat} (ha:sm j a) (hb:sm k b) (z:Int) (hz:z=a.num*b.den+b.num*a.den∨z=a.num*b.den-b.num*a.den):sm (j+k+1) (mkRat z (a.den*b.den)):=by
 have h1:(a.num*b.den).natAbs<=2^(j+k):=by rw [Int.natAbs_mul,Int.natAbs_natCast];exact DZ ha.1 hb.2
 have h2:(b.num*a.den).natAbs<=2^(j+k):=by rw [Int.natAbs_mul,Int.natAbs_natCast,Nat.add_comm];exact DZ hb.1 ha.2
 refine ZH (Nat.mul_ne_zero a.den_nz b.den_nz) ?_ ?_
 ·rw [Nat.pow_succ]
  rcases hz with rfl|rfl <;> omega
 ·exact Nat.le_trans (DZ ha.2 hb.2) (Nat.pow_le_pow_right (by omega) (by omega))
theorem ACi {a b:Rat} {j k:Nat} (ha:sm j a) (hb:sm k b):sm (j+k+1) (a+b):=by
 rw [Rat.add_def'];exact ZI ha hb _ (.inl rfl)
theorem ACj {a b:Rat} {j k:Nat} (ha:sm j a) (hb:sm k b):sm (j+k+1) (a-b):=by
 rw [Rat.sub_def'];exact ZI ha hb _ (.inr rfl)
theorem ACk {a b:Rat} {j k:Nat} (ha:sm j a) (hb:sm k b):sm (j+k) (a*b):=by
 rw [Rat.mul_def']
 exact ZH (Nat.mul_ne_zero a.den_nz b.den_nz) (by rw [Int.natAbs_mul];exact DZ ha.1 hb.1) (DZ ha.2 hb.2)
theorem Uc {a b:Rat} {j k:Nat} (ha:sm j a) (hb:sm k b) (h0:b≠0):sm (j+k) (a/b):=by
 rw [div_mk h0]
 have hn:b.num.natAbs≠0:=λ h=>h0 (Rat.num_eq_zero.1 (Int.natAbs_eq_zero.1 h))
 refine ZH (Nat.mul_ne_zero a.den_nz hn) ?_ (DZ ha.2 hb.1)
 have h1:(a.num*b.den).natAbs<=2^(j+k):=by rw [Int.natAbs_mul,Int.natAbs_natCast];exact DZ ha.1 hb.2
 split
 ·rw [Int.natAbs_neg];exact h1
 ·exact h1
theorem Nm {n:Int} {k:Nat} (h:n.natAbs<=2^k):sm k (n:Rat):=
 ⟨by rw [Rat.num_intCast];exact h,by rw [Rat.den_intCast];exact Nat.one_le_two_pow⟩
theorem GO {n k:Nat} (h:n<=2^k) (hk:k<=700):nl n<=24:=by
 refine (Dp _ _).2 ?_
 refine Nat.lt_of_le_of_lt (Nat.le_trans h (Nat.pow_le_pow_right (by omega) hk)) ?_
 decide +kernel
theorem ACl {q:Rat} {k:Nat} (h:sm k q) (hk:k<=700):OS q=true:=Dq.2 ⟨GO h.1 hk,GO h.2 hk⟩
def FrS (k:Nat) (r:Fr) (q:Rat):Prop:=r.v=some q/\sm k q
theorem FrS.clamp {q:Rat} {k:Nat} (h:sm k q) (hk:k<=700):FrS k (clamp q) q:=⟨Cj (ACl h hk),h⟩
theorem FrS.mono {j k:Nat} {r:Fr} {q:Rat} (h:FrS j r q) (hjk:j<=k):FrS k r q:=⟨h.1,h.2.mono hjk⟩
theorem FrS.good {k:Nat} {r:Fr} {q:Rat} (h:FrS k r q):r.good=true:=Fr.good_some h.1
theorem FrS.int {n:Int} {k:Nat} (h:n.natAbs<=2^k) (hk:k<=700):FrS k (Fr.ofInt n) (n:Rat):=FrS.clamp (Nm h) hk
theorem FrS.add {j k:Nat} {r s:Fr} {a b:Rat} (hr:FrS j r a) (hs:FrS k s b) (h:j+k+1<=700):FrS (j+k+1) (Fr.add r s) (a+b):=by
 unfold Fr.add Fr.bin;rw [hr.1,hs.1];exact FrS.clamp (ACi hr.2 hs.2) h
theorem FrS.sub {j k:Nat} {r s:Fr} {a b:Rat} (hr:FrS j r a) (hs:FrS k s b) (h:j+k+1<=700):FrS (j+k+1) (Fr.sub r s) (a-b):=by
 unfold Fr.sub Fr.bin;rw [hr.1,hs.1];exact FrS.clamp (ACj hr.2 hs.2) h
theorem FrS.mul {j k:Nat} {r s:Fr} {a b:Rat} (hr:FrS j r a) (hs:FrS k s b) (h:j+k<=700):FrS (j+k) (Fr.mul r s) (a*b):=by
 unfold Fr.mul Fr.bin;rw [hr.1,hs.1];exact FrS.clamp (ACk hr.2 hs.2) h
theorem FrS.div {j k:Nat} {r s:Fr} {a b:Rat} (hr:FrS j r a) (hs:FrS k s b) (h0:b≠0) (h:j+k<=700):FrS (j+k) (Fr.div r s) (a/b):=by
 unfold Fr.div Fr.bin;rw [hr.1,hs.1];simp only;rw [if_neg h0];exact FrS.clamp (Uc hr.2 hs.2 h0) h
theorem FrS.cmp {j k:Nat} {r s:Fr} {a b:Rat} (hr:FrS j r a) (hs:FrS k s b):Fr.cmp r s=EY a b:=by
 unfold Fr.cmp;rw [hr.1,hs.1]
theorem FrS.sgn {j:Nat} {r:Fr} {a:Rat} (hr:FrS j r a):r.sgn=EY a 0:=by
 unfold Fr.sgn;rw [hr.1]
theorem FrS.min {j k:Nat} {r s:Fr} {a b:Rat} (hr:FrS j r a) (hs:FrS k s b):FrS (Nat.max j k) (Fr.min r s) (Min.min a b):=by
 unfold Fr.min Fr.bin;rw [hr.1,hs.1];simp only
 by_cases h:a<=b
 ·rw [if_pos h,show Min.min a b=a from if_pos h];exact hr.mono (Nat.le_max_left _ _)
 ·rw [if_neg h,show Min.min a b=b from if_neg h];exact hs.mono (Nat.le_max_right _ _)
theorem FrS.max {j k:Nat} {r s:Fr} {a b:Rat} (hr:FrS j r a) (hs:FrS k s b):FrS (Nat.max j k) (Fr.max r s) (Max.max a b):=by
 unfold Fr.max Fr.bin;rw [hr.1,hs.1];simp only
 by_cases h:b<=a
 ·rw [if_pos h]
  have e:Max.max a b=a:=by
   show (if a<=b then b else a)=a
   split <;> grind
  rw [e];exact hr.mono (Nat.le_max_left _ _)
 ·rw [if_neg h]
  have e:Max.max a b=b:=by
   show (if a<=b then b else a)=b
   split <;> grind
  rw [e];exact hs.mono (Nat.le_max_right _ _)
end Go.Proofs.YtkffpiaagjcmpaaGreat
namespace Go.Proofs.YtkffpiaagjcmpaaGreat
set_option linter.unusedVariables false
set_option linter.unusedSimpArgs false
def Af (a b:V2):Bool:=decide (a.1<b.1) || (decide (a.1=b.1) && decide (a.2<b.2))
theorem Bk {a b:V2} : Af a b=true↔a.1<b.1∨(a.1=b.1/\a.2<b.2):=by simp [Af]
theorem Nn (a:V2):Af a a=false:=by simp [Af]
theorem No {a b c:V2} (h:Af a b=true) (h' : Af b c=true):Af a c=true:=by rw [Bk] at *;omega
theorem PY {a b:V2} (h:Af a b=true):Af b a=false:=by
 rw [Bk] at h
 cases hb:Af b a with
 | false=>rfl
 | true=>rw [Bk] at hb;omega
theorem Np {a b:V2} (h:Af a b=false) (h' : Af b a=false):a=b:=by
 have e1:¬ (Af a b=true):=by rw [h];simp
 have e2:¬ (Af b a=true):=by rw [h'];simp
 rw [Bk] at e1 e2
 exact Prod.ext (by omega) (by omega)
def upV (s:List V2):Prop:=s.Pairwise λ a b=>Af a b=true
theorem ZJ:∀ {a b:List V2},upV a->upV b->(∀ x,x ∈ a↔x ∈ b)->a=b
 | [],[],_,_,_=>rfl
 | [],y::b,_,_,h=>absurd ((h y).2 (List.mem_cons_self ..)) (by simp)
 | x::a,[],_,_,h=>absurd ((h x).1 (List.mem_cons_self ..)) (by simp)
 | x::a,y::b,ha,hb,h=>by
  have ha':=List.pairwise_cons.1 ha
  have hb':=List.pairwise_cons.1 hb
  have hxy:x=y:=by
   rcases List.mem_cons.1 ((h x).1 (List.mem_cons_self ..)) with e|e
   ·exact e
   ·rcases List.mem_cons.1 ((h y).2 (List.mem_cons_self ..)) with e2|e2
    ·exact e2.symm
    ·have:=PY (hb'.1 x e)
     rw [ha'.1 y e2] at this;cases this
  subst hxy
  rw [ZJ ha'.2 hb'.2 λ z=>?_]
  constructor
  ·intro hz
   rcases List.mem_cons.1 ((h z).1 (List.mem_cons_of_mem _ hz)) with e|e
   ·subst e;have:=ha'.1 z hz;rw [Nn] at this;cases this
   ·exact e
  ·intro hz
   rcases List.mem_cons.1 ((h z).2 (List.mem_cons_of_mem _ hz)) with e|e
   ·subst e;have:=hb'.1 z hz;rw [Nn] at this;cases this
   ·exact e
def H1 (p:V2):List V2->List V2
 | []=>[p]
 | a::t=>if Af a p=true then a::H1 p t else if a=p then a::t else p::a::t
theorem Nq {p x:V2} : ∀ {s:List V2},x ∈ H1 p s↔x=p∨x ∈ s
 | []=>by simp [H1]
 | a::t=>by
  unfold H1
  split
  ·rw [List.mem_cons,Nq (s:=t),List.mem_cons]
   constructor
   ·rintro (h|h|h) <;> simp [h]
   ·rintro (h|h|h) <;> simp [h]
  ·split
   ·next h=>subst h;simp
   ·simp
theorem Vj {p:V2} : ∀ {s:List V2},upV s->upV (H1 p s)
 | [],_=>by simp [H1,upV]
 | a::t,h=>by
  have h':=List.pairwise_cons.1 h
  unfold H1
  split
  ·next hl=>
   refine List.pairwise_cons.2 ⟨λ x hx=>?_,Vj h'.2⟩
   rcases Nq.1 hx with e|e
   ·subst e;exact hl
   ·exact h'.1 x e
  ·split
   ·exact h
   ·next hl hne=>
    have hpa:Af p a=true:=by
     cases hc:Af p a with
     | true=>rfl
     | false=>exact absurd (Np (by simpa using hl) hc) hne
    refine List.pairwise_cons.2 ⟨λ x hx=>?_,h⟩
    rcases List.mem_cons.1 hx with e|e
    ·subst e;exact hpa
    ·exact No hpa (h'.1 x e)
def Au (l:List V2):Nat->List V2
 | 0=>[]
 | k+1=>H1 (l.getD k (0,0)) (Au l k)
theorem QZ (l:List V2):∀ k,upV (Au l k)
 | 0=>List.Pairwise.nil
 | k+1=>Vj (QZ l k)
theorem H2 (l:List V2) (x:V2):∀ k,k<=l.length->(x ∈ Au l k↔x ∈ l.take k)
 | 0,_=>by simp [Au]
 | k+1,hk=>by
  have ih:=H2 l x k (by omega)
  have e:l.take (k+1)=l.take k++[l.getD k (0,0)]:=by
   rw [List.take_add_one];simp [List.getD,show k<l.length by omega]
  unfold Au
  rw [Nq,e,List.mem_append,ih]
  simp only [List.mem_singleton]
  exact Or.comm
theorem SO (p:V2):∀ s:List V2,(H1 p s).length<=s.length+1
 | []=>by simp [H1]
 | a::t=>by
  have:=SO p t
  unfold H1
  split
  ·simp only [List.length_cons];omega
  ·split <;> simp
theorem J0 (l:List V2):∀ k,(Au l k).length<=k
 | 0=>Nat.le_refl _
 | k+1=>by have:=J0 l k;have:=SO (l.getD k (0,0)) (Au l k);unfold Au;omega
theorem SP {l:List V2} (h:l.all AF=true) {k:Nat} (hk:k<=l.length):(Au l k).all AF=true:=by
 rw [List.all_eq_true] at *
 intro x hx
 exact h x (List.mem_of_mem_take ((H2 l x k hk).1 hx))
theorem Ud {p:V2} : ∀ {s:List V2} {n:Nat},n<=s.length->(∀ j,j<n->Af (s.getD j (0,0)) p=true)->(n<s.length->Af (s.getD n (0,0)) p=false) ->
  H1 p s=if n<s.length/\s.getD n (0,0)=p then s else s.take n++p::s.drop n
 | [],n,hn,_,_=>by
  have:n=0:=by simpa using hn
  subst this
  simp [H1]
 | a::t,0,_,_,h0=>by
  have h0:=h0 (by simp)
  simp only [List.getD_cons_zero] at h0
  unfold H1
  rw [if_neg (by rw [h0];simp)]
  simp
 | a::t,n+1,hn,hl,hc=>by
  have h0:=hl 0 (by omega)
  simp only [List.getD_cons_zero] at h0
  have ih:=Ud (p:=p) (s:=t) (n:=n) (by simpa using hn) (λ j hj=>by have:=hl (j+1) (by omega);simpa using this) (λ h=>by have:=hc (by simpa using h);simpa using this)
  unfold H1
  rw [if_pos h0,ih]
  simp only [List.length_cons,Nat.add_lt_add_iff_right,List.getD_cons_succ,List.take_succ_cons,List.drop_succ_cons,List.cons_append]
  split <;> rfl
def CV (s:List V2) (v:V2):List V2:=
 if h:1<s.length/\AG (s.getD (s.length-2) (0,0)) (s.getD (s.length-1) (0,0)) v<=0 then CV (s.take (s.length-1)) v else s
termination_by s.length
decreasing_by simp only [List.length_take]; omega
theorem J1 {s:List V2} {v:V2} (h:1<s.length) (h2:AG (s.getD (s.length-2) (0,0)) (s.getD (s.length-1) (0,0)) v<=0):CV (s.take (s.length-1)) v=CV s v:=by
 conv=>rhs;rw [CV,dif_pos ⟨h,h2⟩]
theorem DQ {s:List V2} {v:V2} (h:¬ (1<s.length/\AG (s.getD (s.length-2) (0,0)) (s.getD (s.length-1) (0,0)) v<=0)):CV s v=s:=by
 rw [CV,dif_neg h]
theorem LF (v:V2):∀ (n:Nat) (s:List V2),s.length<=n->∃ m,m<=s.length/\CV s v=s.take m
 | 0,s,h=>⟨0,by omega,by rw [DQ (by omega)];simp [List.eq_nil_of_length_eq_zero (by omega:s.length=0)]⟩
 | n+1,s,h=>by
  by_cases hc:1<s.length/\AG (s.getD (s.length-2) (0,0)) (s.getD (s.length-1) (0,0)) v<=0
  ·obtain ⟨m,h1,h2⟩:=LF v n (s.take (s.length-1)) (by simp only [List.length_take];omega)
   simp only [List.length_take] at h1
   exact ⟨m,by omega,by rw [← J1 hc.1 hc.2,h2,List.take_take,Nat.min_eq_left (by omega)]⟩
  ·exact ⟨s.length,Nat.le_refl _,by rw [DQ hc,List.take_length]⟩
def chT (l:List V2):Nat->List V2
 | 0=>[]
 | k+1=>CV (chT l k) (l.getD k (0,0))++[l.getD k (0,0)]
theorem LG {l:List V2} (h:l.all AF=true):∀ k,k<=l.length->(chT l k).length<=k/\(chT l k).all AF=true
 | 0,_=>⟨Nat.le_refl _,rfl⟩
 | k+1,hk=>by
  obtain ⟨h1,h2⟩:=LG h k (by omega)
  obtain ⟨m,hm,e⟩:=LF (l.getD k (0,0)) _ (chT l k) (Nat.le_refl _)
  unfold chT
  rw [e]
  refine ⟨by simp only [List.length_append,List.length_take,List.length_cons,List.length_nil];omega,?_⟩
  rw [List.all_append,Bool.and_eq_true]
  refine ⟨?_,?_⟩
  ·rw [List.all_eq_true] at *
   exact λ x hx=>h2 x (List.mem_of_mem_take hx)
  ·have:AF (l.getD k (0,0))=true:=List.all_eq_true.1 h _ (by simp [List.getD,show k<l.length by omega])
   simp only [List.all_cons,List.all_nil,this];rfl
theorem Vk (l:List V2) (k:Nat):0<(chT l (k+1)).length:=by unfold chT;simp
theorem J2 {l o:List V2} {k:Nat} (h:CV o (l.getD k (0,0))=CV (chT l k) (l.getD k (0,0))) (hn:CV o (l.getD k (0,0))=o):o++[l.getD k (0,0)]=chT l (k+1):=by
 unfold chT;rw [← h,hn]
def MC (l:List V2):List V2:=l.take (l.length-1)
def A9 (l:List V2):List V2:=MC (chT l l.length)
def OW (s:List V2):List V2:=if s.length<3 then s else A9 s++A9 s.reverse
def Bw (l:List V2):List V2:=if l.length<=64/\l.all AF=true then OW (Au l l.length) else []
theorem XA (a b:V2):A9 [a,b]++A9 [b,a]=[a,b]:=by
 have h (x y:V2):A9 [x,y]=[x]:=by
  have e1:chT [x,y] 1=[x]:=by
   show CV [] x++[x]=[x]
   rw [DQ (by simp)];rfl
  have e2:chT [x,y] 2=[x,y]:=by
   show CV (chT [x,y] 1) y++[y]=[x,y]
   rw [e1,DQ (by simp)];rfl
  show MC (chT [x,y] 2)=[x]
  rw [e2];rfl
 rw [h,h];rfl
theorem ZK {s:List V2} (h:s.length=2):A9 s++A9 s.reverse=OW s:=by
 match s,h with
 | [a,b],_=>exact XA a b
theorem PZ {l:List V2} (h:l.all AF=true):(A9 l).all AF=true/\(A9 l).length<=l.length:=by
 have hb:=LG h l.length (Nat.le_refl _)
 unfold A9 MC
 refine ⟨?_,by simp only [List.length_take];omega⟩
 rw [List.all_eq_true]
 intro x hx
 exact List.all_eq_true.1 hb.2 x (List.mem_of_mem_take hx)
def leV (x y:V2):Bool:=!Af y x
def Ci (l:List V2):List V2:=l.mergeSort leV
theorem Pa (a b c:V2) (h1:leV a b=true) (h2:leV b c=true):leV a c=true:=by
 unfold leV at *
 rw [Bool.not_eq_true'] at *
 cases hc:Af c a with
 | false=>rfl
 | true=>
  rw [Bk] at hc
  have e1:¬ (Af b a=true):=by rw [h1];simp
  have e2:¬ (Af c b=true):=by rw [h2];simp
  rw [Bk] at e1 e2
  omega
theorem XB (a b:V2):(leV a b || leV b a)=true:=by
 unfold leV
 cases h:Af b a with
 | false=>rfl
 | true=>rw [PY h];rfl
theorem Nr (l:List V2):(Ci l).Perm l:=List.mergeSort_perm l leV
theorem ZL (l:List V2):(Ci l).Pairwise λ a b=>leV a b=true:=List.pairwise_mergeSort Pa XB l
theorem GP (l:List V2):(Ci l).length=l.length:=(Nr l).length_eq
def BT:List V2->List V2
 | a::b::t=>if a=b then BT (b::t) else a::BT (b::t)
 | l=>l
theorem J3 {x:V2} : ∀ {l:List V2},x ∈ BT l↔x ∈ l
 | []=>by simp [BT]
 | [a]=>by simp [BT]
 | a::b::t=>by
  unfold BT
  split
  ·next h=>subst h;rw [J3 (l:=a::t)];simp
  ·rw [List.mem_cons,J3 (l:=b::t)];simp only [List.mem_cons]
theorem Vl:∀ {l:List V2},(l.Pairwise λ a b=>leV a b=true)->upV (BT l)
 | [],_=>List.Pairwise.nil
 | [a],_=>by simp [BT,upV]
 | a::b::t,h=>by
  have h':=List.pairwise_cons.1 h
  have ih:=Vl h'.2
  unfold BT
  split
  ·exact ih
  ·next hne=>
   refine List.pairwise_cons.2 ⟨λ x hx=>?_,ih⟩
   have hx:=J3.1 hx
   have hab:=h'.1 b (List.mem_cons_self ..)
   have hlt:Af a b=true:=by
    cases hc:Af a b with
    | true=>rfl
    | false=>exact absurd (Np hc (by unfold leV at hab;simpa using hab)) hne
   rcases List.mem_cons.1 hx with e|e
   ·subst e;exact hlt
   ·have hbx:=(List.pairwise_cons.1 h'.2).1 x e
    have e2:¬ (Af x b=true):=by unfold leV at hbx;simpa using hbx
    rw [Bk] at e2 hlt ⊢
    omega
theorem XC (l:List V2):BT (Ci l)=Au l l.length:=
 ZJ (Vl (ZL l)) (QZ l _) λ x=>by
  rw [J3,(Nr l).mem_iff,H2 l x l.length (Nat.le_refl _),List.take_length]
theorem ZM {P:Nat->Prop} {k:Nat} (h:∀ j,j<k->P j) (hk:P k):∀ j,j<k+1->P j:=λ j hj=>by
 rcases Nat.lt_succ_iff_lt_or_eq.1 hj with hj|rfl
 ·exact h j hj
 ·exact hk
theorem LH {l:List V2} (h1:l.length<=64) (h2:l.all AF=true):Bw l=OW (Au l l.length):=by unfold Bw;rw [if_pos ⟨h1,h2⟩]
theorem Ns {l:List V2} (h:64<l.length):Bw l=[]:=by unfold Bw;rw [if_neg (by omega)]
theorem Pb {l:List V2} (h:l.all AF=false):Bw l=[]:=by unfold Bw;rw [if_neg (by rw [h];simp)]
theorem ZN {l:List V2} {k:Nat} (hk:k<l.length) (h:AF (l.getD k (0,0))=false):Bw l=[]:=
 Pb (by rw [List.all_eq_false];exact ⟨l.getD k (0,0),by simp [List.getD,hk],by rw [h];simp⟩)
theorem Qa {l:List V2} {k:Nat} (hk:k<l.length) (h:(l.take k).all AF=true) (hV:AF (l.getD k (0,0))=true):(l.take (k+1)).all AF=true:=by
 have e:l.take (k+1)=l.take k++[l.getD k (0,0)]:=by
  rw [List.take_add_one];simp [List.getD,show k<l.length by omega]
 rw [e,List.all_append,h]
 simp only [List.all_cons,List.all_nil,hV];rfl
theorem ABH {a b:V2} (h:[a.1,a.2]=[b.1,b.2]):a=b:=by
 simp only [List.cons.injEq,and_true] at h
 exact Prod.ext h.1 h.2
theorem ZO {l:List V2} {k n:Nat} (hn:n<(Au l k).length) (hl:∀ j,j<n->Af ((Au l k).getD j (0,0)) (l.getD k (0,0))=true) (hc:Af ((Au l k).getD n (0,0)) (l.getD k (0,0))=false) (hq:(Au l k).getD n (0,0)=l.getD k (0,0)):Au l k=Au l (k+1):=by
 show _=H1 _ _
 rw [Ud (Nat.le_of_lt hn) hl (λ _=>hc),if_pos ⟨hn,hq⟩]
theorem Vm {l:List V2} {k n:Nat} (hn:n<=(Au l k).length) (hl:∀ j,j<n->Af ((Au l k).getD j (0,0)) (l.getD k (0,0))=true) (hc:n<(Au l k).length->Af ((Au l k).getD n (0,0)) (l.getD k (0,0))=false) (hq:n<(Au l k).length->(Au l k).getD n (0,0)≠l.getD k (0,0)):(Au l k).take n++l.getD k (0,0)::(Au l k).drop n=Au l (k+1):=by
 show _=H1 _ _
 rw [Ud hn hl hc,if_neg (λ h=>hq h.1 h.2)]
theorem SQ {s:List V2} (h:s.length<3):OW s=s:=by unfold OW;rw [if_pos h]
theorem LI {s:List V2} (h:¬ s.length<3):OW s=A9 s++A9 s.reverse:=by unfold OW;rw [if_neg h]
theorem MX {l:List V2} (h:l.all AF=true):l.reverse.all AF=true:=by
 rw [List.all_eq_true] at *
 exact λ x hx=>h x (List.mem_reverse.1 hx)
theorem Vn {l:List V2} (h:l.all AF=true) (h0:0<l.length):0<(chT l l.length).length/\(chT l l.length).length<=l.length:=by
 refine ⟨?_,(LG h _ (Nat.le_refl _)).1⟩
 obtain ⟨m,hm⟩:∃ m,l.length=m+1:=⟨l.length-1,by omega⟩
 rw [hm];exact Vk l m
theorem SR (l:List V2):(AA (chT l l.length)).take ((chT l l.length).length-1)=AA (A9 l):=by simp [AA,A9,MC,List.map_take]
theorem If (a b:List V2):AA (a++b)=AA a++AA b:=by simp [AA]
theorem ZP {s:List V2} {j:Nat} (hj:j<s.length):AA (s.reverse.take j)++[[.int (s.getD (s.length-1-j) (0,0)).1,.int (s.getD (s.length-1-j) (0,0)).2]]=AA (s.reverse.take (j+1)):=by
 have e:s.reverse.take (j+1)=s.reverse.take j++[s.getD (s.length-1-j) (0,0)]:=by
  rw [List.take_add_one,List.getElem?_reverse hj]
  simp [List.getD,show s.length-1-j<s.length by omega]
 rw [e,If];rfl
theorem ST (s:List V2) (n:Nat) (v:V2):(((([]:List (List Dat))++(AA s).take n)++([[Dat.int v.1,Dat.int v.2]]:List (List Dat)))++((AA s).take (((AA s).length:Int).toNat)).drop n)=AA (s.take n++v::s.drop n):=by
 rw [Int.toNat_natCast,List.take_length]
 simp [AA,Iu,List.map_take,List.map_drop]
end Go.Proofs.YtkffpiaagjcmpaaGreat
namespace Go.Proofs.YtkffpiaagjcmpaaGreat
set_option linter.unusedVariables false
set_option linter.unusedSimpArgs false
theorem Ue {u1 u2 w1 w2 z1 z2:Int} (hu:0<u1∨(u1=0/\0<u2)) (hw:0<w1∨(w1=0/\0<w2)) (hz:0<z1∨(z1=0/\0<=z2)) (h1:0<=u1*w2-u2*w1) (h2:0<=w1*z2-w2*z1):0<=u1*z2-u2*z1:=by
 have hu0:0<=u1:=by omega
 have hz0:0<=z1:=by omega
 rcases hw with hw|⟨rfl,hw⟩
 ·have e:w1*(u1*z2-u2*z1)=z1*(u1*w2-u2*w1)+u1*(w1*z2-w2*z1):=by grind
  have h3:0<=w1*(u1*z2-u2*z1):=by rw [e];exact Int.add_nonneg (Int.mul_nonneg hz0 h1) (Int.mul_nonneg hu0 h2)
  exact Int.nonneg_of_mul_nonneg_right h3 hw
 ·have hz1:z1=0:=by
   rcases hz with hz|hz
   ·have:=Int.mul_pos hw hz;omega
   ·exact hz.1
  subst hz1
  have:0<=u1*z2:=Int.mul_nonneg hu0 (by omega)
  omega
theorem Pc {z a b v:V2} (h1:Af z a=true) (h2:Af a b=true) (h3:Af b v=true) (h4:0<AG z a b) (h5:0<AG a b v):0<AG z a v:=by
 rw [Bk] at h1 h2 h3
 have:=Ue (u1:=a.1-z.1) (u2:=a.2-z.2) (w1:=b.1-a.1) (w2:=b.2-a.2) (z1:=v.1-b.1) (z2:=v.2-b.2) (by omega) (by omega) (by omega) (by unfold AG at h4;grind) (by unfold AG at h5;grind)
 unfold AG at *
 grind
structure OrdG (lt:V2->V2->Prop):Prop where
 trans:∀ {a b c},lt a b->lt b c->lt a c
 irr:∀ a,¬ lt a a
 tri:∀ a b,lt a b∨a=b∨lt b a
 high:∀ {c b v x},lt c b->lt c v->(x=c∨lt c x)->AG c b v<=0->0<=AG c b x->0<=AG c v x
 next:∀ {z a b v},lt z a->lt a b->lt b v->0<AG z a b->0<AG a b v->0<AG z a v
 low:∀ {a b v x},lt a b->lt b v->lt x b->0<=AG a b x->0<AG a b v->0<=AG b v x
theorem Ae:OrdG (λ a b=>Af a b=true) where
 trans:=λ h h'=>by rw [Bk] at *;omega
 irr:=λ a h=>by rw [Bk] at h;omega
 tri:=λ a b=>by
  simp only [Bk]
  rcases a with ⟨a1,a2⟩;rcases b with ⟨b1,b2⟩
  simp only [Prod.mk.injEq]
  omega
 high:=λ {c b v x} h1 h2 h3 h4 h5=>by
  have h3:0<x.1-c.1∨(x.1-c.1=0/\0<=x.2-c.2):=by
   rcases h3 with rfl|h3
   ·omega
   ·rw [Bk] at h3;omega
  rw [Bk] at h1 h2
  exact Ue (u1:=v.1-c.1) (u2:=v.2-c.2) (w1:=b.1-c.1) (w2:=b.2-c.2) (by omega) (by omega) h3 (by unfold AG at h4;grind) h5
 next:=Pc
 low:=λ {a b v x} h1 h2 h3 h4 h5=>by
  rw [Bk] at h1 h2 h3
  have:=Ue (u1:=b.1-x.1) (u2:=b.2-x.2) (w1:=b.1-a.1) (w2:=b.2-a.2) (z1:=v.1-b.1) (z2:=v.2-b.2) (by omega) (by omega) (by omega) (by unfold AG at h4;grind) (by unfold AG at h5;grind)
  unfold AG
  grind
theorem Ig:OrdG (λ a b=>Af b a=true):=by
 have hn:∀ a b:V2,Af b a=true↔Af (-a.1,-a.2) (-b.1,-b.2)=true:=λ a b=>by simp only [Bk];omega
 have ht:∀ a b c:V2,AG (-a.1,-a.2) (-b.1,-b.2) (-c.1,-c.2)=AG a b c:=λ a b c=>by simp only [AG];grind
 refine ⟨λ h h'=>Ae.trans h' h,λ a h=>Ae.irr a h,λ a b=>?_,λ h1 h2 h3 h4 h5=>?_,λ h1 h2 h3 h4 h5=>?_,λ h1 h2 h3 h4 h5=>?_⟩
 ·rcases Ae.tri a b with h|h|h
  ·exact .inr (.inr h)
  ·exact .inr (.inl h)
  ·exact .inl h
 ·rw [hn] at h1 h2
  rw [← ht] at h4 h5 ⊢
  refine Ae.high h1 h2 ?_ h4 h5
  rcases h3 with rfl|h3
  ·exact .inl rfl
  ·exact .inr ((hn _ _).1 h3)
 ·rw [hn] at h1 h2 h3
  rw [← ht] at h4 h5 ⊢
  exact Pc h1 h2 h3 h4 h5
 ·rw [hn] at h1 h2 h3
  rw [← ht] at h4 h5 ⊢
  exact Ae.low h1 h2 h3 h4 h5
def LJ (v:V2):List V2->List V2
 | b::a::t=>if AG a b v<=0 then LJ v (a::t) else b::a::t
 | l=>l
theorem SU (v:V2):∀ st:List V2,CV st.reverse v=(LJ v st).reverse
 | []=>by rw [DQ (by simp)];rfl
 | [b]=>by rw [DQ (by simp)];rfl
 | b::a::t=>by
  have e1:(b::a::t).reverse.getD ((b::a::t).reverse.length-2) (0,0)=a:=by
   simp [List.getD]
  have e2:(b::a::t).reverse.getD ((b::a::t).reverse.length-1) (0,0)=b:=by
   simp [List.getD]
  have e3:(b::a::t).reverse.take ((b::a::t).reverse.length-1)=(a::t).reverse:=by
   have:t.reverse.length=t.length:=List.length_reverse
   simp [List.take_append,List.take_of_length_le]
  unfold LJ
  by_cases h:AG a b v<=0
  ·rw [if_pos h,← J1 (by simp) (by rw [e1,e2];exact h),e3,SU v (a::t)]
  ·rw [if_neg h,DQ (by rw [e1,e2];exact λ q=>h q.2)]
def ZQ (lt:V2->V2->Prop) (S:V2->Prop) (a b:V2):Prop:=lt a b/\∀ x,S x->0<=AG a b x
def H3 (R:V2->V2->Prop):List V2->Prop
 | b::a::t=>R a b/\H3 R (a::t)
 | _=>True
def LK:List V2->Prop
 | b::a::z::t=>0<AG z a b/\LK (a::z::t)
 | _=>True
theorem SV {b:V2} {t:List V2} (h:LK (b::t)):LK t:=by
 match t,h with
 | [],_=>trivial
 | [a],_=>trivial
 | a::z::t,h=>exact h.2
structure Stk (lt:V2->V2->Prop) (S:V2->Prop) (st:List V2):Prop where
 ne:st≠[]
 mem:∀ v ∈ st,S v
 edge:H3 (ZQ lt S) st
 left:LK st
 low:∀ b,st.getLast?=some b->∀ x,S x->x=b∨lt b x
theorem Stk.pop {lt:V2->V2->Prop} (G:OrdG lt) {S:V2->Prop} {v:V2} (hv:∀ x,S x->lt x v):∀ st:List V2,Stk lt S st->(∀ b t,st=b::t->∀ x,S x->(x=b∨lt b x)->0<=AG b v x) ->
  Stk lt S (LJ v st)/\(∀ b t,LJ v st=b::t->∀ x,S x->(x=b∨lt b x)->0<=AG b v x)/\(∀ b a t,LJ v st=b::a::t->0<AG a b v)
 | [],h,hH=>⟨h,hH,λ b a t e=>by simp [LJ] at e⟩
 | [b],h,hH=>⟨h,hH,λ b a t e=>by simp [LJ] at e⟩
 | b::a::t,h,hH=>by
  unfold LJ
  by_cases hc:AG a b v<=0
  ·rw [if_pos hc]
   refine Stk.pop G hv (a::t) ⟨by simp,λ x hx=>h.mem x (List.mem_cons_of_mem _ hx),h.edge.2,SV h.left,λ q hq=>h.low q (by rw [List.getLast?_cons_cons];exact hq)⟩ ?_
   intro a' t' e x hx hle
   cases e
   exact G.high h.edge.1.1 (hv _ (h.mem _ (by simp))) hle hc (h.edge.1.2 x hx)
  ·rw [if_neg hc]
   refine ⟨h,hH,λ b' a' t' e=>?_⟩
   cases e
   omega
theorem Vo {lt:V2->V2->Prop} (G:OrdG lt) {S:V2->Prop} {v:V2} : ∀ (t:List V2) (a b:V2),H3 (ZQ lt S) (b::a::t)->LK (b::a::t)->lt b v->0<AG a b v->H3 (λ a b=>0<=AG a b v) (b::a::t)
 | [],a,b,h1,h2,h3,h4=>⟨by omega,trivial⟩
 | z::t,a,b,h1,h2,h3,h4=>by
  refine ⟨by omega,Vo G t z a h1.2 h2.2 (G.trans h1.1.1 h3) (G.next h1.2.1.1 h1.1.1 h3 h2.1 h4)⟩
theorem Pd {R Q T:V2->V2->Prop} (h:∀ a b,R a b->Q a b->T a b):∀ st,H3 R st->H3 Q st->H3 T st
 | [],_,_=>trivial
 | [b],_,_=>trivial
 | b::a::t,h1,h2=>⟨h a b h1.1 h2.1,Pd h (a::t) h1.2 h2.2⟩
theorem Pe (b v:V2):AG b v b=0:=by unfold AG;grind
theorem JH (b v:V2):AG b v v=0:=by unfold AG;grind
theorem Stk.push {lt:V2->V2->Prop} (G:OrdG lt) {S:V2->Prop} {v:V2} (hv:∀ x,S x->lt x v) {st:List V2} (h:Stk lt S st) (hm:∀ b t,st=b::t->∀ x,S x->x=b∨lt x b):Stk lt (λ x=>S x∨x=v) (v::LJ v st):=by
 obtain ⟨h1,h2,h3⟩:=h.pop G hv st (λ b t e x hx hle=>by
  have hxb:x=b:=by
   rcases hle with e' | hl
   ·exact e'
   ·rcases hm b t e x hx with e' | hl'
    ·exact e'
    ·exact absurd (G.trans hl hl') (G.irr _)
  rw [hxb,Pe];exact Int.le_refl 0)
 have hall:∀ b t,LJ v st=b::t->∀ x,S x->0<=AG b v x:=by
  intro b t e x hx
  rcases G.tri x b with hl|he|hl
  ·cases t with
   | nil=>
    exfalso
    rcases h1.low b (by rw [e];rfl) x hx with e' | hl'
    ·exact G.irr _ (e' ▸ hl)
    ·exact G.irr _ (G.trans hl hl')
   | cons a t=>
    have he:=h1.edge
    rw [e] at he
    exact G.low he.1.1 (hv b (h1.mem b (by rw [e];simp))) hl (he.1.2 x hx) (h3 b a t e)
  ·exact h2 b t e x hx (.inl he)
  ·exact h2 b t e x hx (.inr hl)
 match hs:LJ v st,h1,h2,h3,hall with
 | [],h1,_,_,_=>exact absurd rfl h1.ne
 | [b],h1,_,_,hall=>
  have hlt:=hv b (h1.mem b (by simp))
  refine ⟨by simp,λ x hx=>?_,⟨⟨hlt,λ x hx=>?_⟩,trivial⟩,trivial,λ q hq x hx=>?_⟩
  ·rcases List.mem_cons.1 hx with e|hx
   ·exact .inr e
   ·exact .inl (h1.mem x hx)
  ·rcases hx with hx|rfl
   ·exact hall b [] rfl x hx
   ·rw [JH];exact Int.le_refl 0
  ·rcases hx with hx|rfl
   ·exact h1.low q hq x hx
   ·have:b=q:=by simpa using hq
    exact .inr (this ▸ hlt)
 | b::a::t,h1,h2,h3,hall=>
  have hlt:=hv b (h1.mem b (by simp))
  have hp:=Vo G t a b h1.edge h1.left hlt (h3 b a t rfl)
  refine ⟨by simp,λ x hx=>?_,⟨⟨hlt,λ x hx=>?_⟩,?_⟩,⟨h3 b a t rfl,h1.left⟩,λ q hq x hx=>?_⟩
  ·rcases List.mem_cons.1 hx with e|hx
   ·exact .inr e
   ·exact .inl (h1.mem x hx)
  ·rcases hx with hx|rfl
   ·exact hall b _ rfl x hx
   ·rw [JH];exact Int.le_refl 0
  ·refine Pd (λ a b h h'=>⟨h.1,λ x hx=>?_⟩) _ h1.edge hp
   rcases hx with hx|rfl
   ·exact h.2 x hx
   ·exact h'
  ·rcases hx with hx|rfl
   ·exact h1.low q (by rw [List.getLast?_cons_cons] at hq;exact hq) x hx
   ·rw [List.getLast?_cons_cons] at hq
    have hq:=List.mem_of_getLast? hq
    exact .inr (hv q (h1.mem q (by first|exact hq|(rw [hs];exact hq))))
theorem Qb {lt : V2 → V2 → Prop} (G : OrdG lt) {l : List V2} (hl : l.Pairwise lt) : ∀ k, k + 1 ≤ l.length → Stk lt (fun x => x ∈ l.take (k + 1)) (chT l (k + 1)).reverse ∧ (chT l (k + 1)).reverse.head? = some (l.getD k (0, 0))
  | 0, hk => by
    have e : l.take 1 = [l.getD 0 (0, 0)] := by
      cases l with
      | nil => simp at hk
      | cons a t => simp
    have e1 : chT l 1 = [l.getD 0 (0, 0)] := by
      show CV [] _ ++ _ = _
      rw [DQ (by simp)]; rfl
    rw [e, e1]
    refine ⟨⟨by simp, fun v hv => by simpa using hv, trivial, trivial, fun b hb x hx => .inl ?_⟩, rfl⟩
    have hb : l.getD 0 (0, 0) = b := by simpa using hb
    have hx : x = l.getD 0 (0, 0) := by simpa using hx
    rw [hx, hb]
  | k + 1, hk => by
    obtain ⟨ih, hd⟩ := Qb G hl k (by omega)
    have e : (chT l (k + 1 + 1)).reverse = l.getD (k + 1) (0, 0) :: LJ (l.getD (k + 1) (0, 0)) (chT l (k + 1)).reverse := by
      have : chT l (k + 1) = (chT l (k + 1)).reverse.reverse := by simp
      show (CV (chT l (k + 1)) _ ++ [_]).reverse = _
      rw [List.reverse_append]
      conv => lhs; rw [this, SU]
      simp
    have hg : ∀ j, j < l.length → l[j]? = some (l.getD j (0, 0)) := fun j hj => by simp [List.getD, hj]
    have hlt : ∀ i j, i < j → j < l.length → lt (l.getD i (0, 0)) (l.getD j (0, 0)) := fun i j hij hj => by
      have := List.pairwise_iff_getElem.1 hl i j (by omega) hj hij
      simpa [List.getD, hj, show i < l.length by omega] using this
    have hmem : ∀ x m, x ∈ l.take m → m ≤ l.length → ∃ i, i < m ∧ x = l.getD i (0, 0) := fun x m hx hm => by
      obtain ⟨i, hi, rfl⟩ := List.getElem_of_mem hx
      have : i < m := by simp only [List.length_take] at hi; omega
      exact ⟨i, this, by simp [List.getD, show i < l.length by omega]⟩
    rw [e]
    refine ⟨?_, rfl⟩
    have := ih.push G (v := l.getD (k + 1) (0, 0)) (fun x hx => by
        obtain ⟨i, hi, rfl⟩ := hmem x _ hx (by omega)
        exact hlt i (k + 1) hi (by omega)) (fun b t e x hx => by
        rw [e] at hd
        have hd : b = l.getD k (0, 0) := by simpa using hd
        obtain ⟨i, hi, rfl⟩ := hmem x _ hx (by omega)
        by_cases hik : i = k
        · exact .inl (by rw [hd, hik])
        · exact .inr (hd ▸ hlt i k (by omega) (by omega)))
    have hS : (fun x => x ∈ l.take (k + 1 + 1)) = fun x => x ∈ l.take (k + 1) ∨ x = l.getD (k + 1) (0, 0) := by
      funext x
      have : l.take (k + 1 + 1) = l.take (k + 1) ++ [l.getD (k + 1) (0, 0)] := by
        rw [List.take_add_one (i := k + 1), hg _ (by omega)]; rfl
      rw [this]; simp
    rw [hS]; exact this
theorem Nt {R:V2->V2->Prop} : ∀ {st:List V2},H3 R st->∀ i,i+1<st.length->R (st.getD (i+1) (0,0)) (st.getD i (0,0))
 | [],_,i,hi=>absurd hi (by simp)
 | [b],_,i,hi=>absurd hi (by simp)
 | b::a::t,h,0,hi=>h.1
 | b::a::t,h,i+1,hi=>by
  have:=Nt h.2 i (by simpa using hi)
  simpa only [List.getD_cons_succ] using this
theorem Nu:∀ {st:List V2},LK st->∀ i,i+2<st.length->0<AG (st.getD (i+2) (0,0)) (st.getD (i+1) (0,0)) (st.getD i (0,0))
 | [],_,i,hi=>absurd hi (by simp)
 | [b],_,i,hi=>absurd hi (by simp)
 | [b,a],_,i,hi=>absurd hi (by simp)
 | b::a::z::t,h,0,hi=>h.1
 | b::a::z::t,h,i+1,hi=>by
  have:=Nu (st:=a::z::t) h.2 i (by simpa using hi)
  simpa only [List.getD_cons_succ] using this
structure Chn (lt:V2->V2->Prop) (S:V2->Prop) (c:List V2):Prop where
 mem:∀ i,i<c.length->S (c.getD i (0,0))
 edge:∀ i,i+1<c.length->ZQ lt S (c.getD i (0,0)) (c.getD (i+1) (0,0))
 left:∀ i,i+2<c.length->0<AG (c.getD i (0,0)) (c.getD (i+1) (0,0)) (c.getD (i+2) (0,0))
theorem G2 (st:List V2) {i:Nat} (hi:i<st.length):st.reverse.getD i (0,0)=st.getD (st.length-1-i) (0,0):=by
 simp [List.getD,hi,show st.length-1-i<st.length by omega]
theorem Stk.chn {lt:V2->V2->Prop} {S:V2->Prop} {st:List V2} (h:Stk lt S st):Chn lt S st.reverse where
 mem:=λ i hi=>by
  rw [List.length_reverse] at hi
  rw [G2 st hi]
  exact h.mem _ (by simp [List.getD,show st.length-1-i<st.length by omega])
 edge:=λ i hi=>by
  rw [List.length_reverse] at hi
  rw [G2 st (by omega),G2 st (by omega)]
  have:=Nt h.edge (st.length-1-(i+1)) (by omega)
  rwa [show st.length-1-(i+1)+1=st.length-1-i by omega] at this
 left:=λ i hi=>by
  rw [List.length_reverse] at hi
  rw [G2 st (by omega),G2 st (by omega),G2 st (by omega)]
  have:=Nu h.left (st.length-1-(i+2)) (by omega)
  rwa [show st.length-1-(i+2)+1=st.length-1-(i+1) by omega,show st.length-1-(i+2)+2=st.length-1-i by omega] at this
theorem Chn.lt {lt:V2->V2->Prop} (G:OrdG lt) {S:V2->Prop} {c:List V2} (h:Chn lt S c) (i:Nat):∀ d,i+d+1<c.length->lt (c.getD i (0,0)) (c.getD (i+d+1) (0,0))
 | 0,hd=>(h.edge i hd).1
 | d+1,hd=>G.trans (h.lt G i d (by omega)) (h.edge (i+d+1) hd).1
theorem Chn.lt' {lt:V2->V2->Prop} (G:OrdG lt) {S:V2->Prop} {c:List V2} (h:Chn lt S c) {i j:Nat} (hij:i<j) (hj:j<c.length):lt (c.getD i (0,0)) (c.getD j (0,0)):=by
 have:=h.lt G i (j-i-1) (by omega)
 rwa [show i+(j-i-1)+1=j by omega] at this
theorem XD {u1 u2 w1 w2 p1 p2 q1 q2:Int} (h1:0<=u1*p2-u2*p1) (h2:0<=u1*q2-u2*q1) (h3:0<=w1*p2-w2*p1) (h4:0<=w1*q2-w2*q1) (h5:0<u1*w2-u2*w1) (h6:p1*q2=p2*q1) (hp:p1<0∨(p1=0/\p2<0)) (hq:0<q1∨(q1=0/\0<q2)):False:=by
 rcases hp with hp|⟨rfl,hp⟩
 ·have hq1:0<q1:=by
   rcases hq with h|⟨h,h'⟩
   ·exact h
   ·subst h
    have:=Int.mul_neg_of_neg_of_pos hp h'
    omega
  have key:∀ a b:Int,0<=a*p2-b*p1->0<=a*q2-b*q1->a*p2-b*p1=0:=λ a b k1 k2=>by
   have e:(a*q2-b*q1)*p1=q1*(a*p2-b*p1):=by grind
   have k3:(a*q2-b*q1)*p1<=0:=Int.mul_nonpos_of_nonneg_of_nonpos k2 (by omega)
   rw [e] at k3
   by_cases hz:0<a*p2-b*p1
   ·have:=Int.mul_pos hq1 hz;omega
   ·omega
  have k1:=key _ _ h1 h2
  have k2:=key _ _ h3 h4
  have e:(u1*w2-u2*w1)*p1=(u1*p2-u2*p1)*w1-(w1*p2-w2*p1)*u1:=by grind
  rw [k1,k2] at e
  have:=Int.mul_neg_of_pos_of_neg h5 hp
  omega
 ·have hq1:q1=0:=by
   have h6:p2*q1=0:=by omega
   rcases Int.mul_eq_zero.1 h6 with h|h
   ·omega
   ·exact h
  subst hq1
  have hq2:0<q2:=by omega
  have key:∀ a:Int,0<=a*p2->0<=a*q2->a=0:=λ a k1 k2=>by
   by_cases ha:0<a
   ·have:=Int.mul_neg_of_pos_of_neg ha hp;omega
   ·by_cases ha' : a<0
    ·have:=Int.mul_neg_of_neg_of_pos ha' hq2;omega
    ·omega
  have k1:=key u1 (by omega) (by omega)
  have k2:=key w1 (by omega) (by omega)
  subst k1;subst k2
  omega
def Nv (S:V2->Prop) (r:V2):Prop:=∀ x y,S x->S y->Af x r=true->Af r y=true->AG x r y=0->False
theorem ABI {S:V2->Prop} {a r b:V2} (h1:∀ x,S x->0<=AG a r x) (h2:∀ x,S x->0<=AG r b x) (h3:0<AG a r b):Nv S r:=by
 intro x y hx hy hl hr h0
 rw [Bk] at hl hr
 have a1:=h1 x hx
 have a2:=h1 y hy
 have a3:=h2 x hx
 have a4:=h2 y hy
 unfold AG at *
 exact XD (u1:=r.1-a.1) (u2:=r.2-a.2) (w1:=b.1-r.1) (w2:=b.2-r.2) (p1:=x.1-r.1) (p2:=x.2-r.2) (q1:=y.1-r.1) (q2:=y.2-r.2)
  (by grind) (by grind) a3 a4 (by grind) (by grind) (by omega) (by omega)
theorem ABJ {S:V2->Prop} {r:V2} (h:∀ x,S x->x=r∨Af r x=true):Nv S r:=by
 intro x y hx hy hl hr h0
 rcases h x hx with rfl|h
 ·exact Ae.irr _ hl
 ·exact Ae.irr _ (Ae.trans hl h)
theorem ZR {S:V2->Prop} {r:V2} (h:∀ x,S x->x=r∨Af x r=true):Nv S r:=by
 intro x y hx hy hl hr h0
 rcases h y hy with rfl|h
 ·exact Ae.irr _ hr
 ·exact Ae.irr _ (Ae.trans hr h)
theorem Chn.ext {lt:V2->V2->Prop} {S:V2->Prop} {c:List V2} (h:Chn lt S c) {i:Nat} (h0:0<i) (h1:i+1<c.length):Nv S (c.getD i (0,0)):=by
 have e1:=h.edge (i-1) (by omega)
 have e2:=h.edge i h1
 have e3:=h.left (i-1) (by omega)
 rw [show i-1+1=i by omega] at e1
 rw [show i-1+1=i by omega,show i-1+2=i+1 by omega] at e3
 exact ABI e1.2 e2.2 e3
theorem ZS {S:V2->Prop} {p q r:V2} (hp:S p) (hq:S q) (hr:S r) (ep:Nv S p) (eq:Nv S q) (er:Nv S r) (n1:p≠q) (n2:p≠r) (n3:q≠r) (h0:AG p q r=0):False:=by
 have T:∀ a b:V2,a≠b->Af a b=true∨Af b a=true:=λ a b hab=>by
  rcases Ae.tri a b with h|h|h
  ·exact .inl h
  ·exact absurd h hab
  ·exact .inr h
 unfold AG at h0
 have z1:AG p r q=0:=by unfold AG;grind
 have z2:AG q p r=0:=by unfold AG;grind
 have z3:AG q r p=0:=by unfold AG;grind
 have z4:AG r p q=0:=by unfold AG;grind
 have z5:AG r q p=0:=by unfold AG;grind
 have z6:AG p q r=0:=h0
 rcases T p q n1 with a|a <;> rcases T p r n2 with b|b <;> rcases T q r n3 with c|c
 ·exact eq p r hp hr a c z6
 ·exact er p q hp hq b c z1
 ·exact absurd (Ae.trans (Ae.trans a c) b) (Ae.irr _)
 ·exact ep r q hr hq b a z4
 ·exact ep q r hq hr a b z2
 ·exact absurd (Ae.trans (Ae.trans b c) a) (Ae.irr _)
 ·exact er q p hq hp c b z3
 ·exact eq r p hr hp c a z5
theorem XF {a v w:V2} (h1:0<=AG a v w) (h2:0<=AG w v a):AG a v w=0:=by
 have e:AG w v a=-AG a v w:=by unfold AG;grind
 omega
theorem XG {a b x:V2} (h1:0<=AG a b x) (h2:0<=AG b a x):AG a b x=0:=by
 have e:AG b a x=-AG a b x:=by unfold AG;grind
 omega
theorem ZT {a b:List V2} {i:Nat} (hi:i<a.length):(a++b).getD i (0,0)=a.getD i (0,0):=by
 simp [List.getD,List.getElem?_append,hi]
theorem ZU {a b:List V2} {i:Nat} (hi:a.length<=i):(a++b).getD i (0,0)=b.getD (i-a.length) (0,0):=by
 simp [List.getD,List.getElem?_append,show ¬ i<a.length by omega]
theorem Vp (l:List V2):(MC l).length=l.length-1:=by simp [MC]
theorem Vq {l:List V2} {i:Nat} (hi:i+1<l.length):(MC l).getD i (0,0)=l.getD i (0,0):=by
 simp [MC,List.getD,show i<l.length-1 by omega,show i<l.length by omega]
theorem Ep {a b:V2} (h:Af a b=true):a≠b:=λ e=>Ae.irr _ (e ▸ h)
structure Ring (S:V2->Prop) (h:List V2):Prop where
 mem:∀ i,i<h.length->S (h.getD i (0,0))
 ext:∀ i,i<h.length->Nv S (h.getD i (0,0))
 side:∀ i,i<h.length->∀ x,S x->0<=AG (h.getD i (0,0)) (h.getD ((i+1)%h.length) (0,0)) x
 inj:∀ i j,i<h.length->j<h.length->i≠j->h.getD i (0,0)≠h.getD j (0,0)
theorem XH {s:List V2} (hs:upV s) (h2:2<=s.length):Ring (λ x=>x ∈ s) (A9 s++A9 s.reverse)/\2<=(A9 s++A9 s.reverse).length /\
  ((A9 s++A9 s.reverse).length=2->∀ x,x ∈ s->AG (s.getD 0 (0,0)) (s.getD (s.length-1) (0,0)) x=0):=by
 obtain ⟨m,hm⟩:∃ m,s.length=m+1:=⟨s.length-1,by omega⟩
 obtain ⟨A,hA⟩:=Qb Ae hs m (by omega)
 obtain ⟨B,hB⟩:=Qb Ig (l:=s.reverse) (by rw [List.pairwise_reverse];exact hs) m (by simp;omega)
 have tA:s.take (m+1)=s:=by rw [← hm,List.take_length]
 have tB:s.reverse.take (m+1)=s.reverse:=by rw [← hm,← List.length_reverse,List.take_length]
 rw [tA] at A
 rw [tB] at B
 simp only [List.mem_reverse] at B
 obtain ⟨L,hL⟩:∃ L,chT s (m+1)=L:=⟨_,rfl⟩
 obtain ⟨U,hU⟩:∃ U,chT s.reverse (m+1)=U:=⟨_,rfl⟩
 have cA:Chn (λ a b=>Af a b=true) (λ x=>x ∈ s) L:=by have:=A.chn;rwa [List.reverse_reverse,hL] at this
 have cB:Chn (λ a b=>Af b a=true) (λ x=>x ∈ s) U:=by have:=B.chn;rwa [List.reverse_reverse,hU] at this
 have e1:A9 s=MC L:=by unfold A9;rw [hm,hL]
 have e2:A9 s.reverse=MC U:=by unfold A9;rw [List.length_reverse,hm,hU]
 rw [hL] at A hA
 rw [hU] at B hB
 have lowL:=A.low
 have lowU:=B.low
 have last:∀ c:List V2,∀ v,c.reverse.head?=some v->0<c.length/\c.getD (c.length-1) (0,0)=v:=λ c v h=>by
  rw [List.head?_reverse] at h
  have h0:c≠[]:=λ e=>by subst e;simp at h
  have hl:=List.length_pos_iff.2 h0
  refine ⟨hl,?_⟩
  rw [List.getLast?_eq_getElem?] at h
  rw [List.getD,h];rfl
 have first:∀ c:List V2,0<c.length->c.reverse.getLast?=some (c.getD 0 (0,0)):=λ c hc=>by
  rw [List.getLast?_reverse]
  cases c with
  | nil=>simp at hc
  | cons a t=>rfl
 obtain ⟨pL,topL⟩:=last L _ hA
 obtain ⟨pU,topU⟩:=last U _ hB
 have botL:=lowL _ (first L pL)
 have botU:=lowU _ (first U pU)
 have rg:∀ i,i<s.length->s.reverse.getD i (0,0)=s.getD (s.length-1-i) (0,0):=λ i hi=>G2 s hi
 rw [rg m (by omega),hm,show m+1-1-m=0 by omega] at topU
 have mem0:s.getD 0 (0,0) ∈ s:=by simp [List.getD,show 0<s.length by omega]
 have memm:s.getD m (0,0) ∈ s:=by simp [List.getD,show m<s.length by omega]
 have sorted:∀ i j,i<j->j<s.length->Af (s.getD i (0,0)) (s.getD j (0,0))=true:=λ i j hij hj=>by
  have:=List.pairwise_iff_getElem.1 hs i j (by omega) hj hij
  simpa [List.getD,hj,show i<s.length by omega] using this
 have lt0:=sorted 0 m (by omega) (by omega)
 have memL0:L.getD 0 (0,0) ∈ s:=cA.mem 0 pL
 have memU0:U.getD 0 (0,0) ∈ s:=cB.mem 0 pU
 have idx:∀ x,x ∈ s->∃ i,i<s.length/\x=s.getD i (0,0):=λ x hx=>by
  obtain ⟨i,hi,rfl⟩:=List.getElem_of_mem hx
  exact ⟨i,hi,by simp [List.getD,hi]⟩
 have zL:L.getD 0 (0,0)=s.getD 0 (0,0):=by
  rcases botL _ mem0 with e|e
  ·exact e.symm
  ·obtain ⟨i,hi,q⟩:=idx _ memL0
   by_cases hi0:i=0
   ·rw [q,hi0]
   ·exact absurd (Ae.trans e (q ▸ sorted 0 i (by omega) hi)) (Ae.irr _)
 have zU:U.getD 0 (0,0)=s.getD m (0,0):=by
  rcases botU _ memm with e|e
  ·exact e.symm
  ·obtain ⟨i,hi,q⟩:=idx _ memU0
   by_cases him:i=m
   ·rw [q,him]
   ·have e:Af (U.getD 0 (0,0)) (s.getD m (0,0))=true->False:=λ h=>by
     exact absurd (Ae.trans e h) (Ae.irr _)
    exact absurd (q ▸ sorted i m (by omega) (by omega)) e
 have lenL:2<=L.length:=by
  by_cases h:L.length=1
  ·rw [h,zL] at topL
   exact absurd topL (Ep lt0)
  ·omega
 have lenU:2<=U.length:=by
  by_cases h:U.length=1
  ·rw [h,zU] at topU
   exact absurd topU.symm (Ep lt0)
  ·omega
 have n1:(A9 s).length=L.length-1:=by rw [e1,Vp]
 have n2:(A9 s.reverse).length=U.length-1:=by rw [e2,Vp]
 have nn:(A9 s++A9 s.reverse).length=(L.length-1)+(U.length-1):=by rw [List.length_append,n1,n2]
 have g1:∀ i,i<L.length-1->(A9 s++A9 s.reverse).getD i (0,0)=L.getD i (0,0):=λ i hi=>by
  rw [ZT (by omega),e1,Vq (by omega)]
 have g2:∀ j,j<U.length-1->(A9 s++A9 s.reverse).getD (L.length-1+j) (0,0)=U.getD j (0,0):=λ j hj=>by
  rw [ZU (by omega),n1,show L.length-1+j-(L.length-1)=j by omega,e2,Vq (by omega)]
 obtain ⟨H,hH⟩:∃ H,A9 s++A9 s.reverse=H:=⟨_,rfl⟩
 rw [hH] at g1 g2 nn ⊢
 have cas:∀ i,i<H.length->i<L.length-1∨∃ j,j<U.length-1/\i=L.length-1+j:=λ i hi=>by
  by_cases h:i<L.length-1
  ·exact .inl h
  ·exact .inr ⟨i-(L.length-1),by omega,by omega⟩
 have exL:∀ i,i<L.length-1->Nv (λ x=>x ∈ s) (L.getD i (0,0)):=λ i hi=>by
  by_cases h:i=0
  ·subst h
   exact ABJ λ x hx=>botL x hx
  ·exact cA.ext (by omega) (by omega)
 have exU:∀ i,i<U.length-1->Nv (λ x=>x ∈ s) (U.getD i (0,0)):=λ i hi=>by
  by_cases h:i=0
  ·subst h
   exact ZR λ x hx=>botU x hx
  ·exact cB.ext (by omega) (by omega)
 have ex:∀ i,i<H.length->Nv (λ x=>x ∈ s) (H.getD i (0,0)):=λ i hi=>by
  rcases cas i hi with h|⟨j,hj,rfl⟩
  ·rw [g1 i h];exact exL i h
  ·rw [g2 j hj];exact exU j hj
 have ne:∀ i j,i<L.length-1->j<U.length-1->L.getD i (0,0)≠U.getD j (0,0):=λ i j hi hj e=>by
  by_cases hi0:i=0
  ·subst hi0
   rw [zL,← topU] at e
   exact Ep (cB.lt' Ig (i:=j) (j:=U.length-1) (by omega) (by omega)) e
  ·by_cases hj0:j=0
   ·subst hj0
    rw [zU,show s.getD m (0,0)=L.getD (L.length-1) (0,0) from topL.symm] at e
    exact Ep (cA.lt' Ae (i:=i) (j:=L.length-1) (by omega) (by omega)) e
   ·have ea:=cA.edge (i-1) (by omega)
    have eb:=cB.edge (j-1) (by omega)
    rw [show i-1+1=i by omega] at ea
    rw [show j-1+1=j by omega,← e] at eb
    have ma:=cA.mem (i-1) (by omega)
    have mb:=cB.mem (j-1) (by omega)
    have t1:=ea.2 _ mb
    have t2:=eb.2 _ ma
    exact exL i hi _ _ ma mb ea.1 eb.1 (XF t1 t2)
 refine ⟨⟨λ i hi=>?_,ex,λ i hi x hx=>?_,λ i j hi hj hij=>?_⟩,by omega,λ h x hx=>?_⟩
 ·rcases cas i hi with h|⟨j,hj,rfl⟩
  ·rw [g1 i h];exact cA.mem i (by omega)
  ·rw [g2 j hj];exact cB.mem j (by omega)
 ·rcases cas i hi with h|⟨j,hj,rfl⟩
  ·have hmod:(i+1)%H.length=i+1:=Nat.mod_eq_of_lt (by omega)
   have e:H.getD (i+1) (0,0)=L.getD (i+1) (0,0):=by
    by_cases hl:i+1<L.length-1
    ·exact g1 _ hl
    ·have:=g2 0 (by omega)
     rw [show L.length-1+0=i+1 by omega,zU] at this
     rw [this,show i+1=L.length-1 by omega,topL]
   rw [hmod,g1 i h,e]
   exact (cA.edge i (by omega)).2 x hx
  ·rw [g2 j hj]
   have e:H.getD ((L.length-1+j+1)%H.length) (0,0)=U.getD (j+1) (0,0):=by
    by_cases hl:j+1<U.length-1
    ·rw [Nat.mod_eq_of_lt (by omega),show L.length-1+j+1=L.length-1+(j+1) by omega,g2 _ hl]
    ·rw [show L.length-1+j+1=H.length by omega,Nat.mod_self,g1 0 (by omega),zL,show j+1=U.length-1 by omega,topU]
   rw [e]
   exact (cB.edge j (by omega)).2 x hx
 ·rcases cas i hi with h|⟨i',hi',rfl⟩
  ·rcases cas j hj with h' | ⟨j',hj',rfl⟩
   ·rw [g1 i h,g1 j h']
    rcases Nat.lt_or_gt_of_ne hij with q|q
    ·exact Ep (cA.lt' Ae q (by omega))
    ·exact (Ep (cA.lt' Ae q (by omega))).symm
   ·rw [g1 i h,g2 j' hj'];exact ne i j' h hj'
  ·rcases cas j hj with h' | ⟨j',hj',rfl⟩
   ·rw [g1 j h',g2 i' hi'];exact (ne j i' h' hi').symm
   ·rw [g2 i' hi',g2 j' hj']
    rcases Nat.lt_or_gt_of_ne (show i'≠j' by omega) with q|q
    ·exact (Ep (cB.lt' Ig q (by omega))).symm
    ·exact Ep (cB.lt' Ig q (by omega))
 ·have l1:L.length=2:=by omega
  have l2:U.length=2:=by omega
  have t1:=(cA.edge 0 (by omega)).2 x hx
  have t2:=(cB.edge 0 (by omega)).2 x hx
  rw [l1] at topL
  rw [l2] at topU
  rw [zL,show L.getD (0+1) (0,0)=s.getD m (0,0) from topL] at t1
  rw [zU,show U.getD (0+1) (0,0)=s.getD 0 (0,0) from topU] at t2
  rw [show s.length-1=m by omega]
  exact XG t1 t2
theorem Uf {p q x y z:V2} (h:p≠q) (h1:AG p q x=0) (h2:AG p q y=0) (h3:AG p q z=0):AG x y z=0:=by
 have hd:q.1-p.1≠0∨q.2-p.2≠0:=by
  by_cases h' : q.1-p.1=0
  ·refine .inr λ h''=>h ?_
   rcases p with ⟨p1,p2⟩;rcases q with ⟨q1,q2⟩
   simp only [Prod.mk.injEq] at *
   omega
  ·exact .inl h'
 have e1:(q.1-p.1)*AG x y z=0:=by unfold AG at *;grind
 have e2:(q.2-p.2)*AG x y z=0:=by unfold AG at *;grind
 rcases hd with hd|hd
 ·exact (Int.mul_eq_zero.1 e1).resolve_left hd
 ·exact (Int.mul_eq_zero.1 e2).resolve_left hd
theorem Bx {l:List V2} : AJ l=true↔(3<=l.length/\l.length<=16)/\l.all AF=true/\∀ i j,i<l.length->j<l.length->j≠i->j≠(i+1)%l.length->0<AG (l.getD i (0,0)) (l.getD ((i+1)%l.length) (0,0)) (l.getD j (0,0)):=by
 unfold AJ
 rw [Bool.and_eq_true,Bool.and_eq_true,BO]
 simp only [List.all_eq_true,List.mem_range,HW,Di,Bool.or_eq_true,decide_eq_true_eq]
 constructor
 ·rintro ⟨⟨h1,h2⟩,h3⟩
  exact ⟨⟨by omega,by omega⟩,h2,λ i j hi hj n1 n2=>by rcases h3 i hi j hj with (h|h)|h <;> first|exact absurd h n1|exact absurd h n2|exact h⟩
 ·rintro ⟨⟨h1,h1'⟩,h2,h3⟩
  refine ⟨⟨⟨by omega,by omega⟩,h2⟩,λ i hi j hj=>?_⟩
  by_cases n1:j=i
  ·exact .inl (.inl n1)
  ·by_cases n2:j=(i+1)%l.length
   ·exact .inl (.inr n2)
   ·exact .inr (h3 i j hi hj n1 n2)
theorem Hb {i n:Nat} (h:i<n):(i+1)%n<n:=Nat.mod_lt _ (by omega)
theorem Vr {i n:Nat} (h:i<n) (h2:2<=n):(i+1)%n≠i:=by
 by_cases e:i+1=n
 ·rw [e,Nat.mod_self];omega
 ·rw [Nat.mod_eq_of_lt (by omega)];omega
theorem ABK {i j n:Nat} (hi:i<n) (hj:j<n) (h3:3<=n) (e1:j=(i+1)%n) (e2:i=(j+1)%n):False:=by
 by_cases e:i+1=n
 ·rw [e,Nat.mod_self] at e1
  subst e1
  rw [Nat.mod_eq_of_lt (by omega)] at e2
  omega
 ·rw [Nat.mod_eq_of_lt (by omega)] at e1
  subst e1
  by_cases e' : i+1+1=n
  ·rw [e',Nat.mod_self] at e2;omega
  ·rw [Nat.mod_eq_of_lt (by omega)] at e2;omega
theorem Ring.strict {S:V2->Prop} {h:List V2} (r:Ring S h) (h3:3<=h.length) {i k:Nat} (hi:i<h.length) (hk:k<h.length) (n1:k≠i) (n2:k≠(i+1)%h.length):0<AG (h.getD i (0,0)) (h.getD ((i+1)%h.length) (0,0)) (h.getD k (0,0)):=by
 have h0:=r.side i hi _ (r.mem k hk)
 by_cases hz:AG (h.getD i (0,0)) (h.getD ((i+1)%h.length) (0,0)) (h.getD k (0,0))=0
 ·exact (ZS (r.mem i hi) (r.mem _ (Hb hi)) (r.mem k hk) (r.ext i hi) (r.ext _ (Hb hi)) (r.ext k hk) (r.inj _ _ hi (Hb hi) (Vr hi (by omega)).symm) (r.inj _ _ hi hk n1.symm) (r.inj _ _ (Hb hi) hk n2.symm) hz).elim
 ·omega
theorem Ring.poly {S:V2->Prop} {h:List V2} (r:Ring S h) (h3:3<=h.length) (h16:h.length<=16) (hv:h.all AF=true):AJ h=true:=
 Bx.2 ⟨⟨h3,h16⟩,hv,λ i j hi hj n1 n2=>r.strict h3 hi hj n1 n2⟩
def J4 (d e:V2):Prop:=d.1*e.2-d.2*e.1=0/\0<d.1*e.1+d.2*e.2
def Dx (a b:V2):V2:=(b.1-a.1,b.2-a.2)
theorem Qc {d:V2} (h:d≠(0,0)):0<d.1*d.1+d.2*d.2:=by
 have h1:∀ a:Int,0<=a*a:=λ a=>by
  rcases Int.le_total 0 a with h|h
  ·exact Int.mul_nonneg h h
  ·exact Int.mul_nonneg_of_nonpos_of_nonpos h h
 have h2:=h1 d.1
 have h3:=h1 d.2
 by_cases hz:d.1*d.1+d.2*d.2=0
 ·exfalso
  apply h
  have e1:d.1*d.1=0:=by omega
  have e2:d.2*d.2=0:=by omega
  have e1:d.1=0:=by rcases Int.mul_eq_zero.1 e1 with e|e <;> exact e
  have e2:d.2=0:=by rcases Int.mul_eq_zero.1 e2 with e|e <;> exact e
  exact Prod.ext e1 e2
 ·omega
theorem LL {d e:V2} (h:J4 d e) (z:V2) (hz:0<=d.1*z.2-d.2*z.1):0<=e.1*z.2-e.2*z.1:=by
 obtain ⟨h1,h2⟩:=h
 have hd:d≠(0,0):=λ q=>by rw [q] at h2;simp at h2
 have key:(d.1*d.1+d.2*d.2)*(e.1*z.2-e.2*z.1)=(d.1*e.1+d.2*e.2)*(d.1*z.2-d.2*z.1):=by grind
 have h3:0<=(d.1*d.1+d.2*d.2)*(e.1*z.2-e.2*z.1):=by rw [key];exact Int.mul_nonneg (by omega) hz
 exact Int.nonneg_of_mul_nonneg_right h3 (Qc hd)
theorem Pf {d e f:V2} (h:J4 d e) (h' : J4 f e):J4 d f:=by
 obtain ⟨h1,h2⟩:=h
 obtain ⟨h3,h4⟩:=h'
 have he:e≠(0,0):=λ q=>by rw [q] at h2;simp at h2
 have hp:=Qc he
 have k1:(e.1*e.1+e.2*e.2)*(d.1*f.2-d.2*f.1)=0:=by grind
 have k2:(e.1*e.1+e.2*e.2)*(d.1*f.1+d.2*f.2)=(d.1*e.1+d.2*e.2)*(f.1*e.1+f.2*e.2):=by grind
 refine ⟨(Int.mul_eq_zero.1 k1).resolve_left (by omega),?_⟩
 have k3:=Int.mul_pos h2 h4
 rw [← k2] at k3
 exact Int.pos_of_mul_pos_right k3 (by omega)
theorem ZV {d e:V2} (h:J4 d e):J4 e d:=⟨by have:=h.1;grind,by have:=h.2;grind⟩
theorem Ring.edges {S:V2->Prop} {h:List V2} (r:Ring S h) (h3:3<=h.length) {i k:Nat} (hi:i<h.length) (hk:k<h.length)
  (hp:J4 (Dx (h.getD i (0,0)) (h.getD ((i+1)%h.length) (0,0))) (Dx (h.getD k (0,0)) (h.getD ((k+1)%h.length) (0,0)))):i=k:=by
 by_cases hik:i=k
 ·exact hik
 exfalso
 have a1:=r.side i hi _ (r.mem k hk)
 have a2:=r.side k hk _ (r.mem i hi)
 have b1:=LL hp (Dx (h.getD i (0,0)) (h.getD k (0,0))) a1
 have b2:=LL (ZV hp) (Dx (h.getD k (0,0)) (h.getD i (0,0))) a2
 have c1:AG (h.getD i (0,0)) (h.getD ((i+1)%h.length) (0,0)) (h.getD k (0,0))=0:=by
  generalize h.getD i (0,0)=p at *
  generalize h.getD ((i+1)%h.length) (0,0)=q at *
  generalize h.getD k (0,0)=s at *
  unfold AG at *
  simp only [Dx] at *
  clear a2 b1 hp r hi hk
  have:(q.1-p.1)*(p.2-s.2)-(q.2-p.2)*(p.1-s.1)=-((q.1-p.1)*(s.2-p.2)-(q.2-p.2)*(s.1-p.1)):=by grind
  omega
 have c2:AG (h.getD k (0,0)) (h.getD ((k+1)%h.length) (0,0)) (h.getD i (0,0))=0:=by
  generalize h.getD k (0,0)=p at *
  generalize h.getD ((k+1)%h.length) (0,0)=q at *
  generalize h.getD i (0,0)=s at *
  unfold AG at *
  simp only [Dx] at *
  clear a1 b2 hp r hi hk c1
  have:(q.1-p.1)*(p.2-s.2)-(q.2-p.2)*(p.1-s.1)=-((q.1-p.1)*(s.2-p.2)-(q.2-p.2)*(s.1-p.1)):=by grind
  omega
 have e1:k=(i+1)%h.length:=Classical.byContradiction λ hn=>by have:=r.strict h3 hi hk (λ e=>hik e.symm) hn;omega
 have e2:i=(k+1)%h.length:=Classical.byContradiction λ hn=>by have:=r.strict h3 hk hi hik hn;omega
 exact ABK hi hk h3 e1 e2
theorem J5:∀ (M:Nat) (l:List Nat),l.Nodup->(∀ x ∈ l,x<M)->l.length<=M
 | 0,l,_,h=>by
  cases l with
  | nil=>exact Nat.le_refl _
  | cons a t=>exact absurd (h a (by simp)) (by omega)
 | M+1,l,hn,h=>by
  by_cases hm:M ∈ l
  ·have:=J5 M (l.erase M) (hn.erase M) (λ x hx=>by
    have hx:=(hn.mem_erase_iff).1 hx
    have:=h x hx.2
    omega)
   rw [List.length_erase_of_mem hm] at this
   have:=List.length_pos_of_mem hm
   omega
  ·have:=J5 M l hn (λ x hx=>by
    have:=h x hx
    have:x≠M:=λ e=>hm (e ▸ hx)
    omega)
   omega
theorem ACm {N M:Nat} {R:Nat->Nat->Prop} (h1:∀ k,k<N->∃ c,c<M/\R k c) (h2:∀ k k' c,k<N->k' < N->R k c->R k' c->k=k'):N<=M:=by
 have:∃ f:Nat->Nat,∀ k,k<N->f k<M/\R k (f k):=by
  refine ⟨λ k=>if h:k<N then Classical.choose (h1 k h) else 0,λ k hk=>?_⟩
  simp only [dif_pos hk]
  exact Classical.choose_spec (h1 k hk)
 obtain ⟨f,hf⟩:=this
 have:=J5 M ((List.range N).map f) (by
  rw [List.Nodup,List.pairwise_map]
  refine List.Pairwise.imp_of_mem ?_ List.nodup_range
  intro a b ha hb hab e
  have ha:=List.mem_range.1 ha
  have hb:=List.mem_range.1 hb
  exact hab (h2 a b (f a) ha hb (hf a ha).2 (e ▸ (hf b hb).2))) (λ x hx=>by
  obtain ⟨k,hk,rfl⟩:=List.mem_map.1 hx
  exact (hf k (List.mem_range.1 hk)).1)
 simpa using this
def BU (p q:V2):V2:=(p.1+q.1,p.2+q.2)
theorem Pg {l:List V2} (hl:AJ l=true) {i i' : Nat} (hi:i<l.length) (hi' : i' < l.length) {d:V2} (hd:∀ j,j<l.length->0<=d.1*((l.getD j (0,0)).2-(l.getD i (0,0)).2)-d.2*((l.getD j (0,0)).1-(l.getD i (0,0)).1)) (hp:J4 d (Dx (l.getD i (0,0)) (l.getD i' (0,0)))):J4 d (Dx (l.getD i (0,0)) (l.getD ((i+1)%l.length) (0,0))):=by
 obtain ⟨⟨h3,_⟩,_,hs⟩:=Bx.1 hl
 by_cases e:i'=(i+1)%l.length
 ·rw [← e];exact hp
 exfalso
 have hne:i'≠i:=by
  rintro rfl
  have:=hp.2
  simp [Dx] at this
 have h1:=hs i i' hi hi' hne e
 have h2:=LL hp (Dx (l.getD i (0,0)) (l.getD ((i+1)%l.length) (0,0))) (hd _ (Hb hi))
 generalize l.getD i (0,0)=p at *
 generalize l.getD ((i+1)%l.length) (0,0)=q at *
 generalize l.getD i' (0,0)=s at *
 unfold AG at h1
 simp only [Dx] at h2
 clear hp hd hs hi hi' hl
 have:(s.1-p.1)*(q.2-p.2)-(s.2-p.2)*(q.1-p.1)=-((q.1-p.1)*(s.2-p.2)-(q.2-p.2)*(s.1-p.1)):=by grind
 omega
def SW (a b:List V2) (x:V2):Prop:=∃ i j,i<a.length/\j<b.length/\x=BU (a.getD i (0,0)) (b.getD j (0,0))
theorem ABL {a1 a2 b1 b2:Int} (hd:0<(a1+b1)*(a1+b1)+(a2+b2)*(a2+b2)) (h1:0<=(a1+b1)*a2-(a2+b2)*a1) (h2:0<=(a1+b1)*b2-(a2+b2)*b1) :
  ((a1+b1)*a2-(a2+b2)*a1=0/\0<(a1+b1)*a1+(a2+b2)*a2)∨((a1+b1)*b2-(a2+b2)*b1=0/\0<(a1+b1)*b1+(a2+b2)*b2):=by
 have e:(a1+b1)*a2-(a2+b2)*a1=-((a1+b1)*b2-(a2+b2)*b1):=by grind
 have e2:(a1+b1)*(a1+b1)+(a2+b2)*(a2+b2)=((a1+b1)*a1+(a2+b2)*a2)+((a1+b1)*b1+(a2+b2)*b2):=by grind
 by_cases hc:0<(a1+b1)*a1+(a2+b2)*a2
 ·exact .inl ⟨by omega,hc⟩
 ·exact .inr ⟨by omega,by omega⟩
theorem ZW {P Q p q p' q' : V2} (hP:P=BU p q) (hQ:Q=BU p' q') (hne:P≠Q) (h1:0<=AG P Q (BU p' q)) (h2:0<=AG P Q (BU p q')):J4 (Dx P Q) (Dx p p')∨J4 (Dx P Q) (Dx q q'):=by
 have hd:Dx P Q≠(0,0):=λ e=>hne (by
  simp only [Dx,Prod.mk.injEq] at e
  exact Prod.ext (by omega) (by omega))
 have hpos:=Qc hd
 subst hP;subst hQ
 simp only [AG,BU,Dx,J4] at *
 have a1:p'.1+q'.1-(p.1+q.1)=(p'.1-p.1)+(q'.1-q.1):=by omega
 have a2:p'.2+q'.2-(p.2+q.2)=(p'.2-p.2)+(q'.2-q.2):=by omega
 rw [a1,a2] at hpos h1 h2 ⊢
 rw [show p'.2+q.2-(p.2+q.2)=p'.2-p.2 by omega,show p'.1+q.1-(p.1+q.1)=p'.1-p.1 by omega] at h1
 rw [show p.2+q'.2-(p.2+q.2)=q'.2-q.2 by omega,show p.1+q'.1-(p.1+q.1)=q'.1-q.1 by omega] at h2
 exact ABL hpos h1 h2
theorem ZX {P Q p q x:V2} (hP:P=BU p q):AG P Q (BU x q)=(Dx P Q).1*(x.2-p.2)-(Dx P Q).2*(x.1-p.1):=by
 subst hP;simp only [AG,BU,Dx];grind
theorem ZY {P Q p q x:V2} (hP:P=BU p q):AG P Q (BU p x)=(Dx P Q).1*(x.2-q.2)-(Dx P Q).2*(x.1-q.1):=by
 subst hP;simp only [AG,BU,Dx];grind
theorem Ring.few {a b h:List V2} (ha:AJ a=true) (hb:AJ b=true) (r:Ring (SW a b) h) (h3:3<=h.length):h.length<=a.length+b.length:=by
 refine ACm (R:=λ k c=>c<a.length/\J4 (Dx (h.getD k (0,0)) (h.getD ((k+1)%h.length) (0,0))) (Dx (a.getD c (0,0)) (a.getD ((c+1)%a.length) (0,0)))∨a.length<=c/\J4 (Dx (h.getD k (0,0)) (h.getD ((k+1)%h.length) (0,0))) (Dx (b.getD (c-a.length) (0,0)) (b.getD ((c-a.length+1)%b.length) (0,0)))) ?_ ?_
 ·intro k hk
  obtain ⟨i,j,hi,hj,eP⟩:=r.mem k hk
  obtain ⟨i',j',hi',hj',eQ⟩:=r.mem _ (Hb hk)
  have hs:=r.side k hk
  have hne:=r.inj _ _ hk (Hb hk) (Vr hk (by omega)).symm
  rcases ZW eP eQ hne (hs _ ⟨i',j,hi',hj,rfl⟩) (hs _ ⟨i,j',hi,hj',rfl⟩) with hp|hp
  ·exact ⟨i,by omega,.inl ⟨hi,Pg ha hi hi' (λ l hl=>by rw [← ZX eP];exact hs _ ⟨l,j,hl,hj,rfl⟩) hp⟩⟩
  ·refine ⟨a.length+j,by omega,.inr ⟨by omega,?_⟩⟩
   rw [show a.length+j-a.length=j by omega]
   exact Pg hb hj hj' (λ l hl=>by rw [← ZY eP];exact hs _ ⟨i,l,hi,hl,rfl⟩) hp
 ·intro k k' c hk hk' h1 h2
  rcases h1 with ⟨q1,p1⟩|⟨q1,p1⟩
  ·rcases h2 with ⟨q2,p2⟩|⟨q2,p2⟩
   ·exact r.edges h3 hk hk' (Pf p1 p2)
   ·omega
  ·rcases h2 with ⟨q2,p2⟩|⟨q2,p2⟩
   ·omega
   ·exact r.edges h3 hk hk' (Pf p1 p2)
end Go.Proofs.YtkffpiaagjcmpaaGreat
namespace Go.Proofs.YtkffpiaagjcmpaaGreat
set_option linter.unusedVariables false
set_option linter.unusedSimpArgs false
theorem Vs (l:List V2):∀ k,k<=l.length->∀ x ∈ chT l k,x ∈ l
 | 0,_,x,hx=>by simp [chT] at hx
 | k+1,hk,x,hx=>by
  have ih:=Vs l k (by omega)
  obtain ⟨m,hm,e⟩:=LF (l.getD k (0,0)) _ (chT l k) (Nat.le_refl _)
  unfold chT at hx
  rw [e] at hx
  rcases List.mem_append.1 hx with hx|hx
  ·exact ih x (List.mem_of_mem_take hx)
  ·rw [List.mem_singleton.1 hx]
   have hk' : k<l.length:=by omega
   simp [List.getD,hk']
theorem Ph {l:List V2} {x:V2} (h:x ∈ A9 l):x ∈ l:=Vs l l.length (Nat.le_refl _) x (List.mem_of_mem_take h)
theorem Pi {l:List V2} {x:V2} (h:x ∈ Bw l):x ∈ l:=by
 unfold Bw at h
 split at h
 ·unfold OW at h
  have hs:∀ y ∈ Au l l.length,y ∈ l:=λ y hy=>List.mem_of_mem_take ((H2 l y l.length (Nat.le_refl _)).1 hy)
  split at h
  ·exact hs x h
  ·rcases List.mem_append.1 h with h|h
   ·exact hs x (Ph h)
   ·exact hs x (by simpa using Ph h)
 ·cases h
end Go.Proofs.YtkffpiaagjcmpaaGreat
