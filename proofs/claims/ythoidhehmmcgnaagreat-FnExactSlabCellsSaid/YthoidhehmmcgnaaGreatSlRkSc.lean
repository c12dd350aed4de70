import Derived.Test.YthoidhehmmcgnaaGreatSlRkCe
import Derived.Test.YthoidhehmmcgnaaGreatSlSml
import Derived.Test.YthoidhehmmcgnaaGreatSlRkEv
namespace Go.Proofs.YthoidhehmmcgnaaGreat
set_option linter.unusedVariables false
set_option linter.unusedSimpArgs false
open Go.Sort
theorem Iq{l:List V2}(h:AW l=true){i j:Nat}(hi:i<l.length)(hj:j<l.length)(h1:j≠i)(h2:j≠(i+1)%l.length):0<Fb (l.getD i (0,0)) (l.getD ((i+1)%l.length) (0,0)) (l.getD j (0,0)):=by simp only[AW,Bool.and_eq_true]at h;have h3:=List.all_eq_true.1 h.2 i (List.mem_range.2 hi);have h4:=List.all_eq_true.1 h3 j (List.mem_range.2 hj);unfold F9 at h4;simp only[Bool.or_eq_true,decide_eq_true_eq]at h4;rcases h4 with (h4|h4)|h4;exact absurd h4 h1;exact absurd h4 h2;exact h4
theorem SI{P Q R S:V2}(s:Int)(h1:0<Fb P Q R)(h2:0<Fb P Q S)(h3:0<Fb R S P)(h4:0<Fb R S Q)(a:0<s*(Q.1-P.1))(b:0<s*(S.1-R.1))(c:0<s*(Q.1-R.1))(d:0<s*(S.1-P.1)):False:=by
 unfold Fb at *;have k1:=Int.add_pos (Int.mul_pos h1 b) (Int.mul_pos h4 a);have k2:=Int.add_pos (Int.mul_pos h2 b) (Int.mul_pos h3 a);have e1:((Q.1-P.1)*(R.2-P.2)-(Q.2-P.2)*(R.1-P.1))*(s*(S.1-R.1))+((S.1-R.1)*(Q.2-R.2)-(S.2-R.2)*(Q.1-R.1))*(s*(Q.1-P.1))=(s*(Q.1-R.1))*((S.1-R.1)*(Q.2-P.2)-(Q.1-P.1)*(S.2-R.2)):=by grind
 have e2:((Q.1-P.1)*(S.2-P.2)-(Q.2-P.2)*(S.1-P.1))*(s*(S.1-R.1))+((S.1-R.1)*(P.2-R.2)-(S.2-R.2)*(P.1-R.1))*(s*(Q.1-P.1))=(s*(S.1-P.1)) * -((S.1-R.1)*(Q.2-P.2)-(Q.1-P.1)*(S.2-R.2)):=by grind
 rw[e1]at k1;rw[e2]at k2;have p1:=Int.pos_of_mul_pos_right k1 c;have p2:=Int.pos_of_mul_pos_right k2 d;omega
theorem vd{r:Fr}{q:Rat}(h:r.v=some q):r.d≠0:=by rw[Fr.d_some h];exact Rat.den_nz _
theorem Yx{e:Edg}{lo hi:Fr}{p q:Rat}(he:e.ok=true)(hp:lo.v=some p)(hq:hi.v=some q)(h:spn e lo hi=true):((e.a.1:Int):Rat)<=p/\q<=((e.b.1:Int):Rat):=by
 unfold spn at h;have hb:=Edg.bd he;rw[Bool.and_eq_true,decide_eq_true_eq,decide_eq_true_eq]at h;have v1:(Fr.ofInt e.a.1).v=some (e.a.1:Rat):=Gb (Nat.le_trans (CN ⟨by omega,by omega⟩) (by decide));have v2:(Fr.ofInt e.b.1).v=some (e.b.1:Rat):=Gb (Nat.le_trans (CN ⟨by omega,by omega⟩) (by decide));have s1:=G8 (vd v1) (vd hp);have c1:¬p<(e.a.1:Rat):=λa0=>by have:=(EK hp v1).2 a0;omega
 have c2:¬(e.b.1:Rat)<q:=λa0=>by have:=(EK v2 hq).2 a0;omega
 exact⟨by grind,by grind⟩
theorem Ir{a b:V2}{k:Int}{e:Edg}(h:e ∈ Ed a b k):(e.low=true/\e.a=a/\e.b=b/\a.1<b.1)\/(e.low=false/\e.a=b/\e.b=a/\b.1<a.1):=by unfold Ed at h;split at h;rename_i q;obtain rfl:=List.mem_singleton.1 h;exact .inl ⟨rfl,rfl,rfl,q⟩;split at h;rename_i q;obtain rfl:=List.mem_singleton.1 h;exact .inr ⟨rfl,rfl,rfl,q⟩;cases h
theorem Oz{l:List V2}{k:Int}{e:Edg} : ∀n,e ∈ Ba l k n->∃t,t<n/\e ∈ Ed (l.getD t (0,0)) (l.getD ((t+1)%l.length) (0,0)) k
 | 0,h=>by cases h|n+1,h=>by rcases List.mem_append.1 h with h|h;obtain⟨t,ht,he⟩:=Oz n h;exact⟨t,by omega,he⟩;exact⟨n,by omega,h⟩
theorem SJ{n i:Nat}(h:i<n):(i+1)%n=if i+1=n then 0 else i+1:=by split;rename_i e;rw[e,Nat.mod_self];exact Nat.mod_eq_of_lt (by omega)
theorem Yy{l:List V2}(hl:AW l=true){k:Int}{i j:Nat}(hi:i<l.length)(hj:j<l.length)(a3:i≠j){e f:Edg}(he:e ∈ Ed (l.getD i (0,0)) (l.getD ((i+1)%l.length) (0,0)) k)(hf:f ∈ Ed (l.getD j (0,0)) (l.getD ((j+1)%l.length) (0,0)) k)
  (a0:e.low=f.low) (c:e.a.1<f.b.1) (d:f.a.1<e.b.1):False:=by
 have hn:0<l.length:=by omega
 have hi1:(i+1)%l.length<l.length:=Nat.mod_lt _ hn;have hj1:(j+1)%l.length<l.length:=Nat.mod_lt _ hn;have a4:(j+1)%l.length≠(i+1)%l.length:=by rw[SJ hi,SJ hj];split <;> split <;> omega
 have key:(j≠(i+1)%l.length)/\((j+1)%l.length≠i):=by rcases Ir he with⟨l1,a1,b1,x1⟩|⟨l1,a1,b1,x1⟩ <;> rcases Ir hf with⟨l2,a2,b2,x2⟩|⟨l2,a2,b2,x2⟩;rw[a1,b2]at c;rw[a2,b1]at d;exact⟨λe=>by rw[← e]at d;omega,λe=>by rw[e]at c;omega⟩;rw[l1,l2]at a0;cases a0;rw[l1,l2]at a0;cases a0;rw[a1,b2]at c;rw[a2,b1]at d;exact⟨λe=>by rw[← e]at c;omega,λe=>by rw[e]at d;omega⟩
 have t1:=Iq hl hi hj (λh=>a3 h.symm) key.1;have t2:=Iq hl hi hj1 key.2 a4;have t3:=Iq hl hj hi a3 (λh=>key.2 h.symm);have t4:=Iq hl hj hi1 (λh=>key.1 h.symm) (λh=>a4 h.symm);rcases Ir he with⟨l1,a1,b1,x1⟩|⟨l1,a1,b1,x1⟩ <;> rcases Ir hf with⟨l2,a2,b2,x2⟩|⟨l2,a2,b2,x2⟩;rw[a1,b2]at c;rw[a2,b1]at d;exact SI 1 t1 t2 t3 t4 (by omega) (by omega) (by omega) (by omega);rw[l1,l2]at a0;cases a0;rw[l1,l2]at a0;cases a0;rw[a1,b2]at c;rw[a2,b1]at d;exact SI (-1) t1 t2 t3 t4 (by omega) (by omega) (by omega) (by omega)
theorem Nh{l:List V2}(hl:AW l=true)(k:Int):∀n,n<=l.length->(Ba l k n).Pairwise λe f=>e.low=f.low->e.a.1<f.b.1->f.a.1<e.b.1->False
 | 0,_=>List.Pairwise.nil|n+1,h=>by
  refine List.pairwise_append.2 ⟨Nh hl k n (by omega),?_,λe he f hf q1 q2 q3=>?_⟩;have:=On (l.getD n (0,0)) (l.getD ((n+1)%l.length) (0,0)) k;match Ed (l.getD n (0,0)) (l.getD ((n+1)%l.length) (0,0)) k,this with| [],_=>exact List.Pairwise.nil| [x],_=>exact List.pairwise_singleton _ _
  obtain⟨t,ht,he⟩:=Oz n he;exact Yy hl (show t<l.length by omega) (show n<l.length by omega) (by omega) he hf q1 q2 q3
def VJ(es:List Edg)(lo hi:Fr):Prop:=es.Pairwise λe f=>e.low=f.low->spn e lo hi=true->spn f lo hi=true->False
theorem Yz{l:List V2}(hl:AW l=true)(k:Int){lo hi:Fr}{p q:Rat}(hp:lo.v=some p)(hq:hi.v=some q)(h:p<q):VJ (AD l k) lo hi:=by
 have a0:=Jz (k:=k) (BH hl).1 l.length (Nat.le_refl _);refine List.Pairwise.imp_of_mem ?_ (Nh hl k l.length (Nat.le_refl _));intro e f he hf hR h1 h2 h3;have s1:=Yx (a0 e he) hp hq h2;have s2:=Yx (a0 f hf) hp hq h3;have c1:((e.a.1:Int):Rat)<((f.b.1:Int):Rat):=by grind
 have c2:((f.a.1:Int):Rat)<((e.b.1:Int):Rat):=by grind
 exact hR h1 (by exact_mod_cast c1) (by exact_mod_cast c2)
structure Sp(es:List Edg)(lo hi:Fr)(k:Nat)(a b:Bool):Prop where
 num:(spS es lo hi k).2.2=a.toNat+b.toNat
 ay:a=true->∃i,i<k/\spn (es.getD i noE) lo hi=true/\(es.getD i noE).low=true/\(spS es lo hi k).1=HD (es.getD i noE) lo hi
 by_:b=true->∃i,i<k/\spn (es.getD i noE) lo hi=true/\(es.getD i noE).low=false/\(spS es lo hi k).2.1=HD (es.getD i noE) lo hi
theorem VK{es:List Edg}{lo hi:Fr}(U:VJ es lo hi):∀k,k<=es.length->∃a b,Sp es lo hi k a b
 | 0,_=>⟨false,false,rfl,λh=>(by cases h),λh=>(by cases h)⟩|k+1,hk=>by
  obtain⟨a,b,h⟩:=VK U k (by omega)
  have up:∀i,i<k->(es.getD i noE).low=(es.getD k noE).low->spn (es.getD i noE) lo hi=true->spn (es.getD k noE) lo hi=true->False:=λi hi=>by
   have:=List.pairwise_iff_getElem.1 U i k (by omega) (by omega) hi;have g:∀(m:Nat)(h:m<es.length),es.getD m noE=es[m]:=λm h=>by simp[List.getD,h]
   rw[g i (by omega),g k (by omega)];exact this
  cases hs:spn (es.getD k noE) lo hi with
  |false=>refine⟨a,b,by rw[Ks hs];exact h.num,λq=>?_,λq=>?_⟩;obtain⟨i,i1,i2,i3,i4⟩:=h.ay q;exact⟨i,by omega,i2,i3,by rw[Ks hs];exact i4⟩;obtain⟨i,i1,i2,i3,i4⟩:=h.by_ q;exact⟨i,by omega,i2,i3,by rw[Ks hs];exact i4⟩|true=>
   cases hl:(es.getD k noE).low with
   |true=>
    have e:=P8 hs hl
    have ha:a=false:=by
     cases a with|false=>rfl|true=>obtain⟨i,i1,i2,i3,-⟩:=h.ay rfl;exact(up i i1 (by rw[i3,hl]) i2 hs).elim
    subst ha;refine⟨true,b,by rw[e];show _+1=_;rw[h.num];simp[Bool.toNat];omega,λ_=>⟨k,by omega,hs,hl,by rw[e]⟩,λq=>?_⟩;obtain⟨i,i1,i2,i3,i4⟩:=h.by_ q;exact⟨i,by omega,i2,i3,by rw[e];exact i4⟩
   |false=>
    have e:=P9 hs hl
    have ha:b=false:=by
     cases b with|false=>rfl|true=>obtain⟨i,i1,i2,i3,-⟩:=h.by_ rfl;exact(up i i1 (by rw[i3,hl]) i2 hs).elim
    subst ha;refine⟨a,true,by rw[e];show _+1=_;rw[h.num];simp[Bool.toNat],λq=>?_,λ_=>⟨k,by omega,hs,hl,by rw[e]⟩⟩;obtain⟨i,i1,i2,i3,i4⟩:=h.ay q;exact⟨i,by omega,i2,i3,by rw[e];exact i4⟩
theorem ADa{e:Edg}(h:e.ok=true):FrS 22 (slp e) (((e.b.2-e.a.2:Int):Rat)/((e.b.1-e.a.1:Int):Rat)):=by have hb:=Edg.bd h;refine⟨Rr h,?_⟩;have:=T8 (Ng (n:=e.b.2-e.a.2) (k:=11) (by omega)) (Ng (n:=e.b.1-e.a.1) (k:=11) (by omega)) (Es (by omega));exact this
theorem ACb{e:Edg}(h:e.ok=true){x:Fr}{p:Rat}(hx:FrS 200 x p):∃q,FrS 244 (hgt e x) q:=by have hb:=Edg.bd h;have h1:=FrS.sub hx (FrS.int (n:=e.a.1) (k:=10) (by omega) (by decide)) (by decide);have h2:=FrS.mul (ADa h) h1 (by decide);have h3:=FrS.add (FrS.int (n:=e.a.2) (k:=10) (by omega) (by decide)) h2 (by decide);exact⟨_,h3⟩
theorem ACc{e:Edg}(h:e.ok=true){lo hi:Fr}{p q:Rat}(hp:FrS 200 lo p)(hq:FrS 200 hi q):(HD e lo hi).lev.d≠0:=by obtain⟨a,ha⟩:=ACb h hp;obtain⟨b,hb⟩:=ACb h hq;exact vd (FrS.add ha hb (by decide)).1
def Y0(c:Nat->Nat->Int)(n:Nat):List Nat->List Nat
 | []=>[n]|x::l=>if c n x<0 then n::x::l else x::Y0 c n l
def UA(c:Nat->Nat->Int):Nat->List Nat
 | 0=>[]|n+1=>Y0 c n (UA c n)
theorem Kw(c:Nat->Nat->Int)(n:Nat):∀l,(Y0 c n l).Perm (n::l)
 | []=>List.Perm.refl _|x::l=>by show(if _ then _ else _:List Nat).Perm _;split;exact List.Perm.refl _;exact((Kw c n l).cons x).trans (List.Perm.swap n x l)
theorem Lk{c:Nat->Nat->Int}(h:TPre c){n:Nat} : ∀l:List Nat,(∀x ∈ l,x<n)->(l.Pairwise λx y=>ltL c y x=false)->((Y0 c n l).Pairwise λx y=>ltL c y x=false)
 | [],_,_=>List.pairwise_singleton _ _|x::l,hx,hp=>by
  have W:=h.swo;obtain⟨p1,p2⟩:=List.pairwise_cons.1 hp;have hxn:=hx x (List.mem_cons_self ..);show(if _ then _ else _:List Nat).Pairwise _;split;rename_i a0;have t:ltL c n x=true:=QB.2 (.inl a0)
  have t2:ltL c x n=false:=by
   cases e:ltL c x n with|false=>rfl|true=>have:=W.trans _ _ _ e t;rw[W.irrefl]at this;cases this
  refine List.pairwise_cons.2 ⟨λy hy=>?_,hp⟩;rcases List.mem_cons.1 hy with rfl|hy;exact t2;exact W.ntrans _ _ _ (p1 y hy) t2;rename_i a0
  have t:ltL c n x=false:=by
   cases e:ltL c n x with|false=>rfl|true=>rcases QB.1 e with q|q <;> omega
  refine List.pairwise_cons.2 ⟨λy hy=>?_,Lk h l (λy hy=>hx y (List.mem_cons_of_mem _ hy)) p2⟩;rcases List.mem_cons.1 ((Kw c n l).mem_iff.1 hy)with rfl|hy;exact t;exact p1 y hy
theorem Kx(c:Nat->Nat->Int):∀n,(UA c n).Perm (List.range n)
 | 0=>List.Perm.refl _|n+1=>by rw[List.range_succ];exact(Kw c n _).trans (((Kx c n).cons n).trans (List.perm_append_comm (l₁:=[n])))
theorem VL{c:Nat->Nat->Int}{n x:Nat}(h:x ∈ UA c n):x<n:=List.mem_range.1 ((Kx c n).mem_iff.1 h)
theorem Ll{c:Nat->Nat->Int}(h:TPre c):∀n,(UA c n).Pairwise λx y=>ltL c y x=false
 | 0=>List.Pairwise.nil|n+1=>Lk h _ (λ_ hx=>VL hx) (Ll h n)
theorem QL{c:Nat->Nat->Int}(h:TPre c)(n:Nat):(He c n).Pairwise λx y=>ltL c y x=false:=by
 have W:=h.swo
 have:=List.pairwise_mergeSort (le:=λx y=>!ltL c y x) (λa b d h1 h2=>by
  simp only[Bool.not_eq_true']at *;exact W.ntrans _ _ _ h2 h1) (λa b=>by
  cases e:ltL c b a with
  |false=>simp|true=>
   cases e2:ltL c a b with|false=>simp|true=>have:=W.trans _ _ _ e e2;rw[W.irrefl]at this;cases this) (List.range n)
 exact this.imp λh=>by simpa using h
theorem Wn{c:Nat->Nat->Int}(h:TPre c)(n:Nat):UA c n=He c n:=
 List.Perm.eq_of_pairwise (λa b _ _ h1 h2=>VD h h2 h1) (Ll h n) (QL h n) ((Kx c n).trans (HL c n).symm)
theorem Y1(l:List Blk)(n:Nat)(c:Nat->Nat->Int)(J:List Nat)(hc:∀x ∈ J,(c n x<0<->less (l.getD n noK).lo (l.getD x noK).lo=true)):Nw (J.map λi=>l.getD i noK) (l.getD n noK)=(Y0 c n J).map λi=>l.getD i noK:=by
 induction J with|nil=>rfl|cons x J ih=>have h0:=hc x (List.mem_cons_self ..);show(if _ then _ else _:List Blk)=List.map _ (if _ then _ else _);by_cases h:c n x<0;rw[if_pos h,if_pos (h0.1 h)];rfl;rw[if_neg h,if_neg λq=>h (h0.2 q),ih λy hy=>hc y (List.mem_cons_of_mem _ hy)];rfl
theorem Wo{l:List Blk}(hg:∀x ∈ l,x.lo.lev.d≠0):l.foldl Nw []=IC (λx=>x.lo.lev) noK l:=by
 by_cases h0:l=[];subst h0;exact(List.eq_nil_of_length_eq_zero (Kt _ _ _)).symm;have hp:0<l.length:=List.length_pos_iff.2 h0;have hc:=SA (key:=λx:Blk=>x.lo.lev) (d0:=noK) hg hp
 have key:∀n,n<=l.length->(l.take n).foldl Nw []=(UA (R0 (λx:Blk=>x.lo.lev) noK l) n).map λi=>l.getD i noK:=by
  intro n;induction n with
  |zero=>intro _;simp[UA]|succ n ih=>
   intro hn;have e:l.take (n+1)=l.take n++[l.getD n noK]:=by rw[List.take_succ_eq_append_getElem (by omega)];simp[List.getD,show n<l.length by omega]
   rw[e,List.foldl_append,ih (by omega)];show Nw _ _=_;refine Y1 l n _ _ λx hx=>?_;have a0:x<l.length:=by have:=VL hx;omega
   unfold R0 less;rw[Tw (show n<l.length by omega),Tw a0,decide_eq_true_eq]
 have:=key l.length (Nat.le_refl _);rw[List.take_length]at this;rw[this,Wn hc];rfl
theorem AAR(a b:V2)(k:Int):Ed a b k=(Ed a b 0).map λe=>{e with k:=k}:=by unfold Ed;split;rfl;split <;> rfl
theorem VM(l:List V2)(k:Int):∀n,Ba l k n=(Ba l 0 n).map λe=>{e with k:=k}
 | 0=>rfl|n+1=>by rw[Ba,Ba,List.map_append,← VM l k n,← AAR]
theorem AAx{es:List Edg}{lo hi:Fr}(k:Int):∀n,n<=es.length->spS (es.map λe=>{e with k:=k}) lo hi n=spS es lo hi n
 | 0,_=>rfl|n+1,h=>by
  have ih:=AAx (es:=es) (lo:=lo) (hi:=hi) k n (by omega);have e:(es.map λe=>{e with k:=k}).getD n noE={es.getD n noE with k:=k}:=by simp[List.getD,show n<es.length by omega]
  show(if _ then(if _ then _ else _)else _)=(if _ then(if _ then _ else _)else _);rw[e,ih];rfl
theorem ACd(v:List V2)(i:Int)(lo hi:Fr):bkO v i lo hi=bkO v 0 lo hi:=by have e:AD v i=(AD v 0).map λe=>{e with k:=i}:=VM v i v.length;unfold bkO;rw[e,List.length_map,AAx i _ (Nat.le_refl _)]
theorem O0(ls:List (List V2))(lo hi:Fr):∀k,Aq ls lo hi k=(bkT ls lo hi k).foldl Nw []
 | 0=>rfl|k+1=>by rw[bkT,ACd,List.foldl_append,← O0 ls lo hi k,Aq];unfold bkO;split <;> rfl
theorem KA{ls:List (List V2)}(hl:A3 ls=true){lo hi:Fr}{p q:Rat}(hp:FrS 200 lo p)(hq:FrS 200 hi q)(h:p<q):∀k,k<=ls.length->∀x ∈ bkT ls lo hi k,x.lo.lev.d≠0/\x.hi.lev.d≠0
 | 0,_,x,hx=>by cases hx|k+1,hk,x,hx=>by
  rcases List.mem_append.1 hx with hx|hx;exact KA hl hp hq h k (by omega) x hx;unfold bkO at hx;split at hx;rename_i hc;obtain rfl:=List.mem_singleton.1 hx;have hv:=C9 hl (show k<ls.length by omega);obtain⟨a,b,S⟩:=VK (Yz hv (k:Int) hp.1 hq.1 h) _ (Nat.le_refl _);have hn:=S.num;rw[hc]at hn;have a0:a=true/\b=true:=by cases a <;> cases b <;> simp[Bool.toNat]at hn ⊢
  obtain⟨i,i1,-,-,i4⟩:=S.ay a0.1;obtain⟨j,j1,-,-,j4⟩:=S.by_ a0.2;constructor;show(spS _ _ _ _).1.lev.d≠0;rw[i4];exact ACc (Io hv i1) hp hq;show(spS _ _ _ _).2.1.lev.d≠0;rw[j4];exact ACc (Io hv j1) hp hq;cases hx
theorem AAS{ls:List (List V2)}(hl:A3 ls=true){lo hi:Fr}{p q:Rat}(hp:FrS 200 lo p)(hq:FrS 200 hi q)(h:p<q):Aq ls lo hi ls.length=bkS ls lo hi:=by rw[O0];exact Wo λx hx=>(KA hl hp hq h _ (Nat.le_refl _) x hx).1
theorem Y2{ls:List (List V2)}(hl:A3 ls=true){lo hi:Fr}{p q:Rat}(hp:FrS 200 lo p)(hq:FrS 200 hi q)(h:p<q):∀x ∈ bkS ls lo hi,x.lo.lev.d≠0/\x.hi.lev.d≠0:=
 λx hx=>KA hl hp hq h _ (Nat.le_refl _) x (Wi hx)
theorem KB{x y:Brd}(hx:x.lev.d≠0)(hy:y.lev.d≠0):abv x y=less y x:=by have:=G8 hx hy;unfold abv less;rw[Bool.eq_iff_iff,decide_eq_true_eq,decide_eq_true_eq];omega
theorem Ni{x y:Brd}{p q:Rat}(hx:x.lev.v=some p)(hy:y.lev.v=some q):less x y=true<->p<q:=by unfold less;rw[decide_eq_true_eq,EK hx hy]
theorem Y3{lo hi:Fr}{rf f t:Brd}(hr:rf.lev.d≠0)(hf:f.lev.d≠0)(ht:t.lev.d≠0):ID lo hi rf f t=Nx lo hi rf f (cap rf t):=by unfold ID Nx cap;rw[KB ht hf,KB hr hf,KB ht hr];obtain⟨a,ha,-⟩:=Fr.some_d hr;obtain⟨b,hb,-⟩:=Fr.some_d hf;obtain⟨c,hc,-⟩:=Fr.some_d ht;have l1:=Ni hb hc;have l2:=Ni hb ha;have l3:=Ni ha hc;by_cases h3:less rf t=true;rw[if_pos h3];by_cases h2:less f rf=true;rw[if_pos ⟨l1.2 (by have:=l2.1 h2;have:=l3.1 h3;grind),h2⟩,if_pos h2];rw[if_neg λh=>h2 h.2,if_neg h2];rw[if_neg h3];by_cases h1:less f t=true;rw[if_pos ⟨h1,l2.2 (by have:=l1.1 h1;have:¬a<c:=λh=>h3 (l3.2 h);grind)⟩,if_pos h1];rw[if_neg λh=>h1 h.1,if_neg h1]
theorem Y4{lo hi:Fr}{fl rf:Brd}{bl:List Blk}(hf:fl.lev.d≠0)(hr:rf.lev.d≠0)(hb:∀x ∈ bl,x.lo.lev.d≠0/\x.hi.lev.d≠0):∀k,k<=bl.length->A4 lo hi fl rf bl k=Bh lo hi fl rf bl k/\(A4 lo hi fl rf bl k).1.lev.d≠0
 | 0,_=>⟨rfl,hf⟩|k+1,hk=>by obtain⟨e,g⟩:=Y4 hf hr hb k (by omega);have hx:=hb (bl.getD k noK) (Bx (show k<bl.length by omega));constructor;show(_,_)=(_,_);rw[KB hx.2 g,Y3 hr g hx.1,e];show(if _ then _ else _:Brd).lev.d≠0;split;exact hx.2;exact g
theorem ABq{lo hi:Fr}{fl rf:Brd}{bl:List Blk}(hf:fl.lev.d≠0)(hr:rf.lev.d≠0)(hb:∀x ∈ bl,x.lo.lev.d≠0/\x.hi.lev.d≠0):Nc lo hi fl rf bl=Lj lo hi fl rf bl:=by
 obtain⟨e,g⟩:=Y4 (lo:=lo) (hi:=hi) hf hr hb bl.length (Nat.le_refl _);unfold Nc Lj;rw[Y3 hr g hr,e];have:cap rf rf=rf:=by unfold cap;split <;> rfl
 rw[this]
theorem O3{y:Int}(h:-9223372036854775808<=y/\y<=9223372036854775807):(AB y).lev.d≠0:=by have h1:FrS 63 (Fr.ofInt y) (y:Rat):=FrS.int (by omega) (by decide);exact vd (FrS.add h1 h1 (by decide)).1
theorem Wp{ls:List (List V2)}(hl:A3 ls=true){lo hi:Fr}{p q:Rat}(hp:FrS 200 lo p)(hq:FrS 200 hi q)(h:p<q){ly hy:Int}(h1:-9223372036854775808<=ly/\ly<=9223372036854775807)(h2:-9223372036854775808<=hy/\hy<=9223372036854775807) :
  Nc lo hi (AB ly) (AB hy) (bkS ls lo hi)=Lj lo hi (AB ly) (AB hy) (Aq ls lo hi ls.length):=by
 rw[AAS hl hp hq h];exact ABq (O3 h1) (O3 h2) (Y2 hl hp hq h)
open Go.RowKit
abbrev ACe(x:Int):Prop:=-9223372036854775808<=x/\x<=9223372036854775807
section
variable {lx ly hx hy : Int} {ls : List (List V2)}
theorem QM(hp:A3 ls=true)(h:lx<hx)(hl:ACe lx)(hh:ACe hx):Dx (evR lx ly hx hy ls)/\asc (evR lx ly hx hy ls)/\∀x,x ∈ evR lx ly hx hy ls<->x ∈ [Fr.ofInt lx,Fr.ofInt hx]\/x ∈ evF (Fr.ofInt lx) (Fr.ofInt hx) (cA ls ls.length++cE (edA ls) ly hy (edA ls).length):=by unfold evR;rw[if_pos ⟨hp,h⟩];refine In (NX _ _ _) (acc:=[Fr.ofInt lx,Fr.ofInt hx]) (λx hx'=>?_) (List.pairwise_cons.2 ⟨λb hb=>?_,List.pairwise_singleton _ _⟩);simp only[List.mem_cons,List.not_mem_nil,or_false]at hx';rcases hx' with rfl|rfl;exact Ou hl;exact Ou hh;simp at hb;subst hb;exact YY hl hh h
theorem UB{l:List Fr}(h:asc l){i j:Nat}(a0:i<j)(hj:j<l.length):Fr.cmp (l.getD i Fr.none) (l.getD j Fr.none)<0:=by have:=(List.pairwise_iff_getElem.1 h) i j (by omega) hj a0;simpa[List.getD,hj,show i<l.length by omega]using this
theorem SK{l:List Fr}{i:Nat}(h:i<l.length):l.getD i Fr.none ∈ l:=by simp[List.getD,h]
end
theorem QN{e:Edg}(h:e.ok=true):FrS 22 (slp e) (((e.b.2-e.a.2:Int):Rat)/((e.b.1-e.a.1:Int):Rat)):=by have hb:=Edg.bd h;exact⟨Rr h,T8 (j:=11) (k:=11) (Ng (by omega)) (Ng (by omega)) (Es (by omega))⟩
theorem Y5{e:Edg}(h:e.ok=true):∃q,FrS 44 (hgt e (Fr.ofInt 0)) q:=by have hb:=Edg.bd h;have h1:=FrS.int (n:=e.a.2) (k:=10) (by omega) (by omega);have h2:=(FrS.int (n:=0) (k:=0) (by omega) (by omega)).sub (FrS.int (n:=e.a.1) (k:=10) (by omega) (by omega)) (by omega);exact⟨_,h1.add ((QN h).mul h2 (by omega)) (by omega)⟩
theorem ABr{e f:Edg}(he:e.ok=true)(hf:f.ok=true)(h:C5 e f=true):∃q,FrS 200 (Fa e f) q:=by
 rw[NP h];have hg:(GS e f).good=true:=by unfold C5 at h;rw[Bool.and_eq_true]at h;exact h.1
 obtain⟨u,hu⟩:=Y5 he;obtain⟨v,hv⟩:=Y5 hf;have h1:=hv.sub hu (by omega);have h2:=(QN he).sub (QN hf) (by omega);by_cases h0:((e.b.2-e.a.2:Int):Rat)/((e.b.1-e.a.1:Int):Rat)-((f.b.2-f.a.2:Int):Rat)/((f.b.1-f.a.1:Int):Rat)=0;have:GS e f=Fr.none:=Fr.div_zero h2.1 h0;rw[this]at hg;cases hg;exact⟨_,(h1.div h2 h0 (by omega)).mono (by omega)⟩
theorem Y6{e:Edg}{y:Int}(he:e.ok=true)(h:Bs e y=true):∃q,FrS 200 (CT e y) q:=by
 rw[NQ h];have hb:=Edg.bd he;unfold Bs at h;simp only[Bool.and_eq_true,Bool.not_eq_true',decide_eq_false_iff_not,decide_eq_true_eq]at h;obtain⟨hn,⟨hy1,hy2⟩,-⟩:=h;have h0:¬(((e.b.2-e.a.2:Int):Rat)/((e.b.1-e.a.1:Int):Rat))=0:=by have h3:=Es (show e.b.2-e.a.2≠0 by omega);have h4:=Es (show e.b.1-e.a.1≠0 by omega);grind
 have h1:=(FrS.int (n:=y-e.a.2) (k:=11) (by omega) (by omega)).div (QN he) h0 (by omega);exact⟨_,((FrS.int (n:=e.a.1) (k:=10) (by omega) (by omega)).add h1 (by omega)).mono (by omega)⟩
def ACf(c:Cnd):Prop:=c.2=true->∃q,FrS 200 c.1 q
theorem AAy{ls:List (List V2)}(hp:A3 ls=true):∀k,k<=ls.length->∀c ∈ cA ls k,ACf c
 | 0,_,c,hc=>by simp[cA]at hc|k+1,hk,c,hc=>by rcases List.mem_append.1 hc with hc|hc;exact AAy hp k (by omega) c hc;unfold cV at hc;obtain⟨v,hv,rfl⟩:=List.mem_map.1 hc;intro _;have hm:=List.mem_of_mem_take hv;have:=Dg (List.all_eq_true.1 (BH (C9 hp (show k<ls.length by omega))).1 v hm);exact⟨_,(FrS.int (n:=v.1) (k:=10) (by omega) (by omega)).mono (by omega)⟩
theorem AAz{es:List Edg}(he:∀e ∈ es,e.ok=true)(ly hy:Int):∀i,i<=es.length->∀c ∈ cE es ly hy i,ACf c
 | 0,_,c,hc=>by simp[cE]at hc|i+1,hi,c,hc=>by have a0:(es.getD i noE).ok=true:=he _ (by simp[List.getD,show i<es.length by omega]);simp only[cE,List.mem_append]at hc;rcases hc with hc|hc|hc|hc;exact AAz he ly hy i (by omega) c hc;unfold cC at hc;obtain⟨f,hf,rfl⟩:=List.mem_map.1 hc;exact λh=>ABr a0 (he f (List.mem_of_mem_take (List.mem_of_mem_take hf))) h;simp only[cL,List.mem_singleton]at hc;subst hc;exact λh=>Y6 a0 h;simp only[cL,List.mem_singleton]at hc;subst hc;exact λh=>Y6 a0 h
theorem AAT{a b:Rat} : Ns a b<0<->a<b:=by unfold Ns;split;exact⟨λ_=>by assumption,λ_=>by omega⟩;split;exact⟨λh=>by omega,λh=>by grind⟩;exact⟨λh=>by omega,λh=>by grind⟩
set_option maxRecDepth 100000
def nAt(m:List (List Dat))(k:Nat):Int:=((m.getD k []).getD 0 (.int 0)).n
theorem UC{r:List Dat}(h:hasRow [.int] r):r=[.int (r.getD 0 (.int 0)).n]:=by
 match r,h with| [.int n],_=>rfl| [.bool _],h=>exact h.1.elim| [.str _],h=>exact h.1.elim| [.sl _],h=>exact h.1.elim
theorem has_int{m:List (List Dat)}(h:Dat.has (.sl 3 [.int]) (.sl m)){k:Nat}(hk:k<m.length):m.getD k []=[.int (nAt m k)]:=UC (h.2 k hk)
theorem Y7{a b:List (List Dat)}(ha:Dat.has (.sl 3 [.int]) (.sl a))(hb:Dat.has (.sl 3 [.int]) (.sl b))(hl:a.length=b.length)(h:∀j,j<a.length->nAt a j=nAt b j):a=b:=by apply List.ext_getElem hl;intro j h1 h2;have e1:=has_int ha h1;have e2:=has_int hb h2;rw[← h j h1]at e2;simp only[List.getD,h1,h2,List.getElem?_eq_getElem,Option.getD_some]at e1 e2;rw[e1,e2]
theorem O4{P:Nat->Prop}{k:Nat}(h:∀j,j<k->P j)(hk:P k):∀j,j<k+1->P j:=Nf h hk
def eqZ(a b:List (List Dat)):Bool:=decide (a.length=b.length) && (List.range a.length).all λj=>decide (nAt a j=nAt b j)
theorem VN{a b:List (List Dat)}(h:a.length≠b.length):eqZ a b=false:=by unfold eqZ;rw[decide_eq_false h];rfl
theorem VO{a b:List (List Dat)}{j:Nat}(hj:j<a.length)(h:nAt a j≠nAt b j):eqZ a b=false:=by unfold eqZ;rw[Bool.and_eq_false_iff];refine .inr ?_;rw[List.all_eq_false];exact⟨j,List.mem_range.2 hj,by simpa using h⟩
theorem VP{a b:List (List Dat)}(hl:a.length=b.length)(h:∀j,j<a.length->nAt a j=nAt b j):eqZ a b=true:=by unfold eqZ;rw[decide_eq_true hl,Bool.true_and,List.all_eq_true];exact λj hj=>decide_eq_true (h j (List.mem_range.1 hj))
theorem VQ{a b:List (List Dat)}(ha:Dat.has (.sl 3 [.int]) (.sl a))(hb:Dat.has (.sl 3 [.int]) (.sl b))(h:eqZ a b=true):a=b:=by unfold eqZ at h;rw[Bool.and_eq_true,decide_eq_true_eq,List.all_eq_true]at h;exact Y7 ha hb h.1 λj hj=>of_decide_eq_true (h.2 j (List.mem_range.2 hj))
def eqX(r:Fr)(n:Bool)(m d:List (List Dat)):Bool:=(decide (r.z<0) == n) && (eqZ (L r.z.natAbs) m && eqZ (L r.d) d)
abbrev CS(m d:List (List Dat)):Prop:=(m.length<=1048576/\Dat.has (.sl 3 [.int]) (.sl m))/\d.length<=1048576/\Dat.has (.sl 3 [.int]) (.sl d)
theorem Is{r:Fr}{n:Bool}{m d:List (List Dat)}(ho:CS m d)(h:eqX r n m d=true):n=decide (r.z<0)/\m=L r.z.natAbs/\d=L r.d:=by unfold eqX at h;simp only[Bool.and_eq_true,beq_iff_eq]at h;have h1:=r.nlz;have h2:=r.nld;exact⟨h.1.symm,(VQ (B8 3 (by omega)) ho.1.2 h.2.1).symm,(VQ (B8 3 (by omega)) ho.2.2 h.2.2).symm⟩
def GT:Con:={ι:=Nat×(List (List Dat)),pre:=λi=>nl i.1<=1048576/\i.2.length<=1048576,args:=λi=>[.one (cS (L i.1)),.one (cS i.2)],res:=λi=>⟨false,[none],[rcB (eqZ (L i.1) i.2)]⟩}
theorem AAU:GT.Ok Tryz.prog 67:=by
 refine fok (X:=⟨tt,[],[],26,[]⟩) mixed AF (CTok.nil _) Tryz.func67 (λ(i:Nat×(List (List Dat)))=>[(4,.mk 3 (Nat) (λx1=>{tm:=[(0,tX 1),(1,tX 2),(12,tI (nI ((L i.1).length))),(13,tI (nI x1))],en:=[(1,eV (L i.1)),(2,eV i.2)]}) (λx1=>x1<=(L i.1).length/\(L i.1).length=i.2.length/\∀j,j<x1->nAt (L i.1) j=nAt i.2 j) (λx1=>(L i.1).length-x1) (λ_=>[]))]) ?_;rintro⟨a,m⟩ a1;have a1:nl a<=1048576/\m.length<=1048576:=a1;refine AG (q:=let Z2:=(vB false=vB (eqZ (L a) m));let Z1:=nI ((L a).length);ifB ((Z1 != (nI m.length))) Z2 ((∃x1:Nat,(x1<=(L a).length/\(L a).length=m.length/\∀j,j<x1->nAt (L a) j=nAt m j)/\((rf (vI Z1))/\(vI (0:Int)=vI (nI x1))/\(rf (L a))/\(rf (m))))/\∀x1:Nat,(x1<=(L a).length/\(L a).length=m.length/\∀j,j<x1->nAt (L a) j=nAt m j)->(ifB ((decide ((nI x1)<Z1))) ((0<=(nI x1)/\(nI x1)<((L a).length:Int))/\((x1<(L a).length)/\((0<=(nI x1)/\(nI x1)<(m.length:Int))/\((x1<m.length)/\(ifB ((((((L a).getD x1 []).getD 0 (.int 0))).n != (((m.getD x1 []).getD 0 (.int 0))).n)) Z2 (∃y2:Nat,(y2<=(L a).length/\(L a).length=m.length/\∀j,j<y2->nAt (L a) j=nAt m j)/\((L a).length-y2<(L a).length-x1)/\((rf (vI Z1))/\(vI (wR ((nI x1)+(1:Int)))=vI (nI y2))/\(rf (L a))/\(rf (m))))))))) ((vB true=vB (eqZ (L a) m)))))) (by kernel_rfl) ?_;conv=>zeta
 delta ifB vB vI wR nI;have ha:=AK a;refine⟨λc1=>?_,λc1=>?_⟩;simp only[nrm]at c1;have hE:eqZ (L a) m=false:=VN (by omega);rw[hE];simp only[nrm]at c1;refine⟨⟨0,by exact⟨Nat.zero_le _,by omega,λj h=>absurd h (Nat.not_lt_zero _)⟩,?_⟩,?_⟩;refine⟨rfl,?_,rfl,rfl⟩;rfl;intro (k:Nat) a0;have a0:k<=(L a).length/\(L a).length=m.length/\∀j,j<k->nAt (L a) j=nAt m j:=a0;refine And.symm ⟨λc9=>?_,λc9=>?_⟩;simp only[nrm]at c9;have hE:eqZ (L a) m=true:=VP a0.2.1 (λj hj=>a0.2.2 j (by omega));rw[hE];simp only[nrm]at c9;have hk:k<(L a).length:=by omega
 refine ao (by omega) λo10=>?_;refine ao (by omega) λo11=>?_;refine ao (by omega) λo12=>?_;refine ao (by omega) λo13=>?_;refine⟨λa2=>?_,λa2=>?_⟩;simp only[nrm]at a2;have hE:eqZ (L a) m=false:=VO (j:=k) (by omega) (λe=>a2 e);rw[hE];simp only[nrm]at a2;have hN:nAt (L a) k=nAt m k:=a2
 refine⟨k+1,by
  exact⟨by omega,a0.2.1,O4 a0.2.2 (by exact hN)⟩,by
  omega,?_⟩
 refine⟨rfl,?_,rfl,rfl⟩;exact AS (AC (by omega) (by omega))
def FC:Con:={ι:=Nat×(List (List Dat)),pre:=λi=>nl i.1<=1048576/\i.2.length<=1048576,args:=λi=>[.one (cS (L i.1)),.one (cS i.2)],res:=λi=>⟨false,[none],[rcB (eqZ (L i.1) i.2)]⟩}
theorem Y8:FC.Ok Tryz.prog 99:=by
 refine fok (X:=⟨tt,[],[],26,[]⟩) mixed AF (CTok.nil _) Tryz.func99 (λ(i:Nat×(List (List Dat)))=>[(4,.mk 3 (Nat) (λx1=>{tm:=[(0,tX 1),(1,tX 2),(12,tI (nI ((L i.1).length))),(13,tI (nI x1))],en:=[(1,eV (L i.1)),(2,eV i.2)]}) (λx1=>x1<=(L i.1).length/\(L i.1).length=i.2.length/\∀j,j<x1->nAt (L i.1) j=nAt i.2 j) (λx1=>(L i.1).length-x1) (λ_=>[]))]) ?_;rintro⟨a,m⟩ a1;have a1:nl a<=1048576/\m.length<=1048576:=a1;refine AG (q:=let Z2:=(vB false=vB (eqZ (L a) m));let Z1:=nI ((L a).length);ifB ((Z1 != (nI m.length))) Z2 ((∃x1:Nat,(x1<=(L a).length/\(L a).length=m.length/\∀j,j<x1->nAt (L a) j=nAt m j)/\((rf (vI Z1))/\(vI (0:Int)=vI (nI x1))/\(rf (L a))/\(rf (m))))/\∀x1:Nat,(x1<=(L a).length/\(L a).length=m.length/\∀j,j<x1->nAt (L a) j=nAt m j)->(ifB ((decide ((nI x1)<Z1))) ((0<=(nI x1)/\(nI x1)<((L a).length:Int))/\((x1<(L a).length)/\((0<=(nI x1)/\(nI x1)<(m.length:Int))/\((x1<m.length)/\(ifB ((((((L a).getD x1 []).getD 0 (.int 0))).n != (((m.getD x1 []).getD 0 (.int 0))).n)) Z2 (∃y2:Nat,(y2<=(L a).length/\(L a).length=m.length/\∀j,j<y2->nAt (L a) j=nAt m j)/\((L a).length-y2<(L a).length-x1)/\((rf (vI Z1))/\(vI (wR ((nI x1)+(1:Int)))=vI (nI y2))/\(rf (L a))/\(rf (m))))))))) ((vB true=vB (eqZ (L a) m)))))) (by kernel_rfl) ?_;conv=>zeta
 delta ifB vB vI wR nI;have ha:=AK a;refine⟨λc1=>?_,λc1=>?_⟩;simp only[nrm]at c1;have hE:eqZ (L a) m=false:=VN (by omega);rw[hE];simp only[nrm]at c1;refine⟨⟨0,by exact⟨Nat.zero_le _,by omega,λj h=>absurd h (Nat.not_lt_zero _)⟩,?_⟩,?_⟩;refine⟨rfl,?_,rfl,rfl⟩;rfl;intro (k:Nat) a0;have a0:k<=(L a).length/\(L a).length=m.length/\∀j,j<k->nAt (L a) j=nAt m j:=a0;refine And.symm ⟨λc9=>?_,λc9=>?_⟩;simp only[nrm]at c9;have hE:eqZ (L a) m=true:=VP a0.2.1 (λj hj=>a0.2.2 j (by omega));rw[hE];simp only[nrm]at c9;have hk:k<(L a).length:=by omega
 refine ao (by omega) λo10=>?_;refine ao (by omega) λo11=>?_;refine ao (by omega) λo12=>?_;refine ao (by omega) λo13=>?_;refine⟨λa2=>?_,λa2=>?_⟩;simp only[nrm]at a2;have hE:eqZ (L a) m=false:=VO (j:=k) (by omega) (λe=>a2 e);rw[hE];simp only[nrm]at a2;have hN:nAt (L a) k=nAt m k:=a2
 refine⟨k+1,by
  exact⟨by omega,a0.2.1,O4 a0.2.2 (by exact hN)⟩,by
  omega,?_⟩
 refine⟨rfl,?_,rfl,rfl⟩;exact AS (AC (by omega) (by omega))
def DS:Con:={ι:=Fr×Bool×(List (List Dat))×(List (List Dat)),pre:=λi=>CS i.2.2.1 i.2.2.2,args:=λi=>[dF i.1,DA.agg [cB i.2.1,cS i.2.2.1,cS i.2.2.2]],res:=λi=>⟨false,[none],[rcB (eqX i.1 i.2.1 i.2.2.1 i.2.2.2)]⟩}
theorem O5:DS.Ok Tryz.prog 36:=by
 refine fok (X:=⟨tt,[(67,GT)],[],28,[]⟩) mixed AF (CTok.cons AAU (CTok.nil _)) Tryz.func36 (λ_=>[]) ?_;rintro⟨r,n,m,d⟩ a0;have a0:CS m d:=a0;refine AG (q:=let Z1:=(vB false=vB (eqX r n m d));ifB (((decide (r.z<0)) == n)) (∃i1:Nat×(List (List Dat)),[DA.one (cS (L r.z.natAbs)),DA.one (cS m)]=GT.args i1/\GT.pre i1/\(ifB ((eqZ (L i1.1) i1.2)) (∃i2:Nat×(List (List Dat)),[DA.one (cS (L r.d)),DA.one (cS d)]=GT.args i2/\GT.pre i2/\((vB (eqZ (L i2.1) i2.2)=vB (eqX r n m d)))) Z1)) Z1) (by kernel_rfl) ?_;conv=>zeta
 delta ifB vB;have h1r:=r.nlz;have h2r:=r.nld;have l1r:=AK r.d;have l2r:=AK r.z.natAbs;refine And.symm ⟨λc1=>?_,λc1=>?_⟩;simp only[nrm]at c1;exact congrArg Value.bool (by unfold eqX;simp_all);simp only[nrm]at c1
 refine⟨(r.z.natAbs,m),by
  rfl,by
  show nl r.z.natAbs<=1048576/\m.length<=1048576;exact⟨by omega,a0.1.1⟩,?_⟩
 refine And.symm ⟨λc5=>?_,λc5=>?_⟩;simp only[nrm]at c5;exact congrArg Value.bool (by unfold eqX;simp_all);simp only[nrm]at c5
 refine⟨(r.d,d),by
  rfl,by
  show nl r.d<=1048576/\d.length<=1048576;exact⟨by omega,a0.2.1⟩,?_⟩
 exact congrArg Value.bool (by unfold eqX;simp_all)
def Fx:Con:={ι:=Fr×Bool×(List (List Dat))×(List (List Dat)),pre:=λi=>CS i.2.2.1 i.2.2.2,args:=λi=>[dF i.1,DA.agg [cB i.2.1,cS i.2.2.1,cS i.2.2.2]],res:=λi=>⟨false,[none],[rcB (eqX i.1 i.2.1 i.2.2.1 i.2.2.2)]⟩}
theorem UD:Fx.Ok Tryz.prog 57:=by
 refine fok (X:=⟨tt,[(99,FC)],[],28,[]⟩) mixed AF (CTok.cons Y8 (CTok.nil _)) Tryz.func57 (λ_=>[]) ?_;rintro⟨r,n,m,d⟩ a0;have a0:CS m d:=a0;refine AG (q:=let Z1:=(vB false=vB (eqX r n m d));ifB (((decide (r.z<0)) == n)) (∃i1:Nat×(List (List Dat)),[DA.one (cS (L r.z.natAbs)),DA.one (cS m)]=FC.args i1/\FC.pre i1/\(ifB ((eqZ (L i1.1) i1.2)) (∃i2:Nat×(List (List Dat)),[DA.one (cS (L r.d)),DA.one (cS d)]=FC.args i2/\FC.pre i2/\((vB (eqZ (L i2.1) i2.2)=vB (eqX r n m d)))) Z1)) Z1) (by kernel_rfl) ?_;conv=>zeta
 delta ifB vB;have h1r:=r.nlz;have h2r:=r.nld;have l1r:=AK r.d;have l2r:=AK r.z.natAbs;refine And.symm ⟨λc1=>?_,λc1=>?_⟩;simp only[nrm]at c1;exact congrArg Value.bool (by unfold eqX;simp_all);simp only[nrm]at c1
 refine⟨(r.z.natAbs,m),by
  rfl,by
  show nl r.z.natAbs<=1048576/\m.length<=1048576;exact⟨by omega,a0.1.1⟩,?_⟩
 refine And.symm ⟨λc5=>?_,λc5=>?_⟩;simp only[nrm]at c5;exact congrArg Value.bool (by unfold eqX;simp_all);simp only[nrm]at c5
 refine⟨(r.d,d),by
  rfl,by
  show nl r.d<=1048576/\d.length<=1048576;exact⟨by omega,a0.2.1⟩,?_⟩
 exact congrArg Value.bool (by unfold eqX;simp_all)
def KC:Con:={ι:=Fr×Bool×(List (List Dat))×(List (List Dat)),pre:=λi=>CS i.2.2.1 i.2.2.2,args:=λi=>[dF i.1,.one (.ro (.ptr [.im (Value.bool i.2.1),.sl 3 [.int] i.2.2.1,.sl 3 [.int] i.2.2.2]))],res:=λi=>⟨false,[none],[rcB (eqX i.1 i.2.1 i.2.2.1 i.2.2.2)]⟩}
theorem AAV:KC.Ok Tryz.prog 66:=by
 refine fok (X:=⟨tt,[(36,DS)],[],7,[]⟩) mixed AF (CTok.cons O5 (CTok.nil _)) Tryz.func66 (λ_=>[]) ?_;rintro⟨r,n,m,d⟩ a0;have a0:CS m d:=a0;refine AG (q:=∃i1:Fr×Bool×(List (List Dat))×(List (List Dat)),[dF r,DA.agg [cB n,cS m,cS d]]=DS.args i1/\DS.pre i1/\((vB (eqX i1.1 i1.2.1 i1.2.2.1 i1.2.2.2)=vB (eqX r n m d)))) (by kernel_rfl) ?_;delta vB
 refine⟨(r,n,m,d),by
  rfl,by
  exact a0,?_⟩
 exact rfl
theorem SL{P:Nat->Bool}{k:Nat}(h:∀j,j<k->P j=false)(hk:P k=false):∀j,j<k+1->P j=false:=Nf h hk
def HT:Con:={ι:=(List Fr)×Bool×(List (List Dat))×(List (List Dat)),pre:=λi=>i.1.length<=2000000000000/\CS i.2.2.1 i.2.2.2,args:=λi=>[.one (DC.sl 44 z30 (AI i.1)),.one (.ro (.fn 66 [[.im (Value.bool i.2.1),.sl 3 [.int] i.2.2.1,.sl 3 [.int] i.2.2.2]]))],tag:=67,res:=λi=>⟨false,[none],[rcI (Cf (λr=>eqX r i.2.1 i.2.2.1 i.2.2.2) i.1)]⟩}
theorem Wq:HT.Ok Tryz.prog 65:=by
 refine fok (X:=⟨tt,[(66,KC)],[],19,[]⟩) mixed AF (CTok.cons AAV (CTok.nil _)) Tryz.func65 (λ(i:(List Fr)×Bool×(List (List Dat))×(List (List Dat)))=>[(2,.mk 3 (Nat) (λx1=>{tm:=[(0,tX 1),(1,tX 2),(7,tI (nI ((AI i.1).length))),(8,tI (nI x1))],en:=[(1,.view 44 z30 (AI i.1) []),(2,.ro (.fn 66 [[.im (Value.bool i.2.1),.sl 3 [.int] i.2.2.1,.sl 3 [.int] i.2.2.2]]) [])]}) (λx1=>x1<=i.1.length/\∀j,j<x1->(λr=>eqX r i.2.1 i.2.2.1 i.2.2.2) (i.1.getD j Fr.none)=false) (λx1=>i.1.length-x1) (λ_=>[]))]) ?_;rintro⟨l,n,m,d⟩ a1;have a1:l.length<=2000000000000/\CS m d:=a1;refine AG (q:=let Z4:=Cf (λr=>eqX r n m d) l;let Z2:=nI ((AI l).length);let Z1:=(.fn 66 [[.im (vB n),.sl 3 [.int] m,.sl 3 [.int] d]]:RO)=.fn 66 [[.im (vB n),.sl 3 [.int] m,.sl 3 [.int] d]];(∃x1:Nat,(x1<=l.length/\∀j,j<x1->(λr=>eqX r n m d) (l.getD j Fr.none)=false)/\((rf (vI Z2))/\(vI (0:Int)=vI (nI x1))/\(rf (AI l))/\Z1))/\∀x1:Nat,let Z3:=(AI l).getD x1 [];(x1<=l.length/\∀j,j<x1->(λr=>eqX r n m d) (l.getD j Fr.none)=false)->(ifB ((decide ((nI x1)<Z2))) ((0<=(nI x1)/\(nI x1)<((AI l).length:Int))/\((x1<(AI l).length)/\(∃i1:Fr×Bool×(List (List Dat))×(List (List Dat)),[DA.agg [cB (((Z3.getD 0 (.int 0))).b),cS (((Z3.getD 1 (.int 0))).r),cS (((Z3.getD 2 (.int 0))).r)],DA.one (DC.ro (.ptr [.im (vB n),.sl 3 [.int] m,.sl 3 [.int] d]))]=KC.args i1/\KC.pre i1/\(ifB ((eqX i1.1 i1.2.1 i1.2.2.1 i1.2.2.2)) ((vI (nI x1)=vI Z4)) (∃y2:Nat,(y2<=l.length/\∀j,j<y2->(λr=>eqX r n m d) (l.getD j Fr.none)=false)/\(l.length-y2<l.length-x1)/\((rf (vI Z2))/\(vI (wR ((nI x1)+(1:Int)))=vI (nI y2))/\(rf (AI l))/\Z1)))))) ((vI (-1:Int)=vI Z4)))) (by kernel_rfl) ?_;conv=>zeta
 delta ifB vB vI wR nI;have hfl:=A5 l;refine⟨⟨0,by exact⟨Nat.zero_le _,λj hj=>absurd hj (Nat.not_lt_zero j)⟩,?_⟩,?_⟩;refine⟨rfl,?_,rfl,?_⟩;rfl;rfl;intro (k:Nat) a0;have a0:k<=l.length/\∀j,j<k->(λr=>eqX r n m d) (l.getD j Fr.none)=false:=a0;refine And.symm ⟨λc7=>?_,λc7=>?_⟩;simp only[nrm]at c7;rw[Kl (d:=Fr.none) (λj hj=>a0.2 j (by omega))];simp only[nrm]at c7;refine ao (by omega) λo8=>?_;refine ao (by omega) λo9=>?_
 refine⟨(l.getD k Fr.none,n,m,d),by
  (rw[Dy (by omega)];rfl),by
  exact a1.2,?_⟩
 refine⟨λa2=>?_,λa2=>?_⟩;simp only[nrm]at a2;rw[Pu (d:=Fr.none) (by omega) a0.2 a2];simp only[nrm]at a2
 refine⟨k+1,by
  exact⟨by omega,SL a0.2 a2⟩,by
  omega,?_⟩
 refine⟨rfl,?_,rfl,?_⟩;exact AS (AC (by omega) (by omega));rfl
def HW:Con:={ι:=(List Fr)×Bool×(List (List Dat))×(List (List Dat)),pre:=λi=>i.1.length<=2000000000000/\CS i.2.2.1 i.2.2.2,args:=λi=>[.one (DC.sl 44 z30 (AI i.1)),DA.agg [cB i.2.1,cS i.2.2.1,cS i.2.2.2]],res:=λi=>⟨false,[none],[rcI (Cf (λr=>eqX r i.2.1 i.2.2.1 i.2.2.2) i.1)]⟩}
theorem Wr:HW.Ok Tryz.prog 35:=by
 refine fok (X:=⟨tt,[(65,HT)],[],8,[]⟩) mixed AF (CTok.cons Wq (CTok.nil _)) Tryz.func35 (λ_=>[]) ?_;rintro⟨l,n,m,d⟩ a0;have a0:l.length<=2000000000000/\CS m d:=a0;refine AG (q:=∃i1:(List Fr)×Bool×(List (List Dat))×(List (List Dat)),[DA.one (DC.sl 44 z30 (AI l)),DA.one (DC.ro (.fn 66 [[.im (vB n),.sl 3 [.int] m,.sl 3 [.int] d]]))]=HT.args i1/\HT.pre i1/\((vI (Cf (λr=>eqX r i1.2.1 i1.2.2.1 i1.2.2.2) i1.1)=vI (Cf (λr=>eqX r n m d) l)))) (by kernel_rfl) ?_;delta vB vI
 refine⟨(l,n,m,d),by
  rfl,by
  exact a0,?_⟩
 exact rfl
def EO:Con:={ι:=(List Fr)×Bool×(List (List Dat))×(List (List Dat)),pre:=λi=>i.1.length<=2000000000000/\CS i.2.2.1 i.2.2.2,args:=λi=>[.one (DC.sl 44 z30 (AI i.1)),DA.agg [cB i.2.1,cS i.2.2.1,cS i.2.2.2]],res:=λi=>⟨false,[none],[rcI (Cf (λr=>eqX r i.2.1 i.2.2.1 i.2.2.2) i.1)]⟩}
theorem Ws:EO.Ok Tryz.prog 28:=by
 refine fok (X:=⟨tt,[(57,Fx)],[],19,[]⟩) mixed AF (CTok.cons UD (CTok.nil _)) Tryz.func28 (λ(i:(List Fr)×Bool×(List (List Dat))×(List (List Dat)))=>[(2,.mk 5 (Nat) (λx1=>{tm:=[(0,tX 1),(3,tP 2 0),(7,tX 1),(8,tI (nI ((AI i.1).length))),(9,tI (nI x1))],en:=[(2,.box [kB i.2.1,.ext 3,.ext 4]),(1,.view 44 z30 (AI i.1) []),(3,eV i.2.2.1),(4,eV i.2.2.2)]}) (λx1=>x1<=i.1.length/\∀j,j<x1->(λr=>eqX r i.2.1 i.2.2.1 i.2.2.2) (i.1.getD j Fr.none)=false) (λx1=>i.1.length-x1) (λ_=>[]))]) ?_;rintro⟨l,n,m,d⟩ a1;have a1:l.length<=2000000000000/\CS m d:=a1;refine AG (q:=let Z3:=Cf (λr=>eqX r n m d) l;let Z1:=nI ((AI l).length);(∃x1:Nat,(x1<=l.length/\∀j,j<x1->(λr=>eqX r n m d) (l.getD j Fr.none)=false)/\((rf (vI Z1))/\(vI (0:Int)=vI (nI x1))/\(rf (vB n))/\(rf (AI l))/\(rf (m))/\(rf (d))))/\∀x1:Nat,let Z2:=(AI l).getD x1 [];(x1<=l.length/\∀j,j<x1->(λr=>eqX r n m d) (l.getD j Fr.none)=false)->(ifB ((decide ((nI x1)<Z1))) ((0<=(nI x1)/\(nI x1)<((AI l).length:Int))/\((x1<(AI l).length)/\(∃i1:Fr×Bool×(List (List Dat))×(List (List Dat)),[DA.agg [cB (((Z2.getD 0 (.int 0))).b),cS (((Z2.getD 1 (.int 0))).r),cS (((Z2.getD 2 (.int 0))).r)],DA.agg [cB n,cS m,cS d]]=Fx.args i1/\Fx.pre i1/\(ifB ((eqX i1.1 i1.2.1 i1.2.2.1 i1.2.2.2)) ((vI (nI x1)=vI Z3)) (∃y2:Nat,(y2<=l.length/\∀j,j<y2->(λr=>eqX r n m d) (l.getD j Fr.none)=false)/\(l.length-y2<l.length-x1)/\((rf (vI Z1))/\(vI (wR ((nI x1)+(1:Int)))=vI (nI y2))/\(rf (vB n))/\(rf (AI l))/\(rf (m))/\(rf (d)))))))) ((vI (-1:Int)=vI Z3)))) (by kernel_rfl) ?_;conv=>zeta
 delta ifB vB vI wR nI;have hfl:=A5 l;refine⟨⟨0,by exact⟨Nat.zero_le _,λj hj=>absurd hj (Nat.not_lt_zero j)⟩,?_⟩,?_⟩;refine⟨rfl,?_,rfl,rfl,rfl,rfl⟩;rfl;intro (k:Nat) a0;have a0:k<=l.length/\∀j,j<k->(λr=>eqX r n m d) (l.getD j Fr.none)=false:=a0;refine And.symm ⟨λc9=>?_,λc9=>?_⟩;simp only[nrm]at c9;have hE:Cf (λr=>eqX r n m d) l=-1:=Kl (d:=Fr.none) (λj hj=>a0.2 j (by omega));rw[hE];simp only[nrm]at c9;have hk:k<l.length:=by omega
 refine ao (by omega) λo10=>?_;refine ao (by omega) λo11=>?_
 refine⟨(l.getD k Fr.none,n,m,d),by
  rw[Dy (by omega)];rfl,by
  exact a1.2,?_⟩
 refine⟨λa2=>?_,λa2=>?_⟩;simp only[nrm]at a2;have hE:Cf (λr=>eqX r n m d) l=(k:Int):=Pu (d:=Fr.none) hk a0.2 a2;rw[hE];simp only[nrm]at a2
 refine⟨k+1,by
  exact⟨by omega,SL a0.2 a2⟩,by
  omega,?_⟩
 refine⟨rfl,?_,rfl,rfl,rfl,rfl⟩;exact AS (AC (by omega) (by omega))
theorem AA0{lx ly hx hy:Int}{ls:List (List V2)}(hp:A3 ls=true)(h:lx<hx)(hl:-9223372036854775808<=lx/\lx<=9223372036854775807)(hh:-9223372036854775808<=hx/\hx<=9223372036854775807):∀x ∈ evR lx ly hx hy ls,∃q,FrS 200 x q:=by
 intro x hm;have hA:=QM (ly:=ly) (hy:=hy) hp h hl hh;have s0:=FrS.int (n:=lx) (k:=63) (by omega) (by omega);have s9:=FrS.int (n:=hx) (k:=63) (by omega) (by omega);rcases(hA.2.2 _).1 hm with h1|h1;simp only[List.mem_cons,List.not_mem_nil,or_false]at h1;rcases h1 with h1|h1 <;> rw[h1];exact⟨_,s0.mono (by omega)⟩;exact⟨_,s9.mono (by omega)⟩;unfold evF at h1;obtain⟨c,hc,e⟩:=List.mem_map.1 h1;have hc:=List.mem_filter.1 hc;have hb:c.2=true:=by have:=hc.2;unfold evP at this;rw[Bool.and_eq_true]at this;exact this.1
 rw[← e];rcases List.mem_append.1 hc.1 with h3|h3;exact AAy hp _ (Nat.le_refl _) c h3 hb;exact AAz (Ko hp _ (Nat.le_refl _)) ly hy _ (Nat.le_refl _) c h3 hb
def slI(ev:List Fr)(n:Bool)(m d:List (List Dat)):Int:=Cf (λr=>eqX r n m d) ev
abbrev slA(ev:List Fr)(n:Bool)(m d:List (List Dat)):Fr:=ev.getD (slI ev n m d).toNat Fr.none
abbrev slB(ev:List Fr)(n:Bool)(m d:List (List Dat)):Fr:=ev.getD ((slI ev n m d).toNat+1) Fr.none
def SM(ev:List Fr)(n:Bool)(m d:List (List Dat))(n2:Bool)(m2 d2:List (List Dat)):Prop:=0<=slI ev n m d/\slI ev n m d+1<(ev.length:Int)/\eqX (slB ev n m d) n2 m2 d2=true
instance (ev:List Fr)(n:Bool)(m d:List (List Dat))(n2:Bool)(m2 d2:List (List Dat)):Decidable (SM ev n m d n2 m2 d2):=by unfold SM;infer_instance
def slR(ev:List Fr)(n:Bool)(m d:List (List Dat))(n2:Bool)(m2 d2:List (List Dat))(ly hy:Int)(ls:List (List V2)):List Cel:=if SM ev n m d n2 m2 d2 then Nc (slA ev n m d) (slB ev n m d) (AB ly) (AB hy) (bkS ls (slA ev n m d) (slB ev n m d))else[]
theorem Nj{ev:List Fr}{n:Bool}{m d:List (List Dat)}{n2:Bool}{m2 d2:List (List Dat)}{ly hy:Int}{ls:List (List V2)}(h:¬SM ev n m d n2 m2 d2):slR ev n m d n2 m2 d2 ly hy ls=[]:=by unfold slR;rw[if_neg h]
theorem VR{ev:List Fr}{n:Bool}{m d:List (List Dat)}{n2:Bool}{m2 d2:List (List Dat)}{ly hy:Int}{ls:List (List V2)}(h:SM ev n m d n2 m2 d2):slR ev n m d n2 m2 d2 ly hy ls=Nc (slA ev n m d) (slB ev n m d) (AB ly) (AB hy) (bkS ls (slA ev n m d) (slB ev n m d)):=by unfold slR;rw[if_pos h]
theorem KD{α:Type}{p:α->Bool}{l:List α}{d:α} : -1<=Cf p l/\Cf p l<(l.length:Int)/\(0<=Cf p l->p (l.getD (Cf p l).toNat d)=true):=by
 unfold Cf;cases h:l.findIdx? p with|none=>exact⟨Int.le_refl _,by show(-1:Int)<_;omega,λh=>by have h:(0:Int)<=-1:=h;omega⟩|some k=>obtain⟨hk,hp,-⟩:=List.findIdx?_eq_some_iff_getElem.1 h;refine⟨by show(-1:Int)<=(k:Int);omega,by show(k:Int)<_;omega,λ_=>?_⟩;simpa[List.getD,hk]using hp
theorem SN{lx ly hx hy:Int}{ls:List (List V2)}(h1:ls.length<=1048576)(h2:Eh ls ls.length<=1048576):(evR lx ly hx hy ls).length<=1300000000000:=by unfold evR;split;rename_i h;have a0:Pz ls:=⟨h.1,h1,h2⟩;have hb:=(P0 a0 (lo:=Fr.ofInt lx) (hi:=Fr.ofInt hx) (ly:=ly) (hy:=hy) (Nat.le_refl _) 0).2;rw[A5]at hb;have hp:=Kq (evF (Fr.ofInt lx) (Fr.ofInt hx) (cA ls ls.length++cE (edA ls) ly hy (edA ls).length)) [Fr.ofInt lx,Fr.ofInt hx];simp only[List.length_cons,List.length_nil]at hp;omega;simp
theorem VS{lx ly hx hy:Int}{ls:List (List V2)}{n:Bool}{m d:List (List Dat)}(hl:-9223372036854775808<=lx/\lx<=9223372036854775807)(hh:-9223372036854775808<=hx/\hx<=9223372036854775807)(h0:0<=slI (evR lx ly hx hy ls) n m d)(h1:slI (evR lx ly hx hy ls) n m d+1<((evR lx ly hx hy ls).length:Int)) :
  A3 ls=true/\∃p q,FrS 200 (slA (evR lx ly hx hy ls) n m d) p/\FrS 200 (slB (evR lx ly hx hy ls) n m d) q/\p<q:=by
 have hc:A3 ls=true/\lx<hx:=by by_cases h:A3 ls=true/\lx<hx;exact h;rw[Kr h]at h0 h1;simp at h1;omega
 have hA:=QM (ly:=ly) (hy:=hy) hc.1 hc.2 hl hh;obtain⟨p,hp⟩:=AA0 (ly:=ly) (hy:=hy) hc.1 hc.2 hl hh _ (SK (l:=evR lx ly hx hy ls) (i:=(slI (evR lx ly hx hy ls) n m d).toNat) (by omega));obtain⟨q,hq⟩:=AA0 (ly:=ly) (hy:=hy) hc.1 hc.2 hl hh _ (SK (l:=evR lx ly hx hy ls) (i:=(slI (evR lx ly hx hy ls) n m d).toNat+1) (by omega));have a0:=UB hA.2.1 (show(slI (evR lx ly hx hy ls) n m d).toNat<(slI (evR lx ly hx hy ls) n m d).toNat+1 by omega) (by omega);rw[hp.cmp hq]at a0;exact⟨hc.1,p,q,hp,hq,AAT.1 a0⟩
def Dc:Con:={ι:=Int×Int×Int×Int×(List (List V2))×Bool×(List (List Dat))×(List (List Dat))×Bool×(List (List Dat))×(List (List Dat)),pre:=λi=>(i.2.2.2.2.1.length<=1048576/\Eh i.2.2.2.2.1 i.2.2.2.2.1.length<=1048576/\(-9223372036854775808<=i.1/\i.1<=9223372036854775807)/\(-9223372036854775808<=i.2.1/\i.2.1<=9223372036854775807)/\(-9223372036854775808<=i.2.2.1/\i.2.2.1<=9223372036854775807)/\(-9223372036854775808<=i.2.2.2.1/\i.2.2.2.1<=9223372036854775807))/\CS i.2.2.2.2.2.2.1 i.2.2.2.2.2.2.2.1/\CS i.2.2.2.2.2.2.2.2.2.1 i.2.2.2.2.2.2.2.2.2.2,args:=λi=>[DA.agg [cI i.1,cI i.2.1,cI i.2.2.1,cI i.2.2.2.1],.one (DC.sl 66 [.sl 36 [.int,.int]] (AP i.2.2.2.2.1)),DA.agg [cB i.2.2.2.2.2.1,cS i.2.2.2.2.2.2.1,cS i.2.2.2.2.2.2.2.1],DA.agg [cB i.2.2.2.2.2.2.2.2.1,cS i.2.2.2.2.2.2.2.2.2.1,cS i.2.2.2.2.2.2.2.2.2.2]],res:=λi=>⟨false,[none],[.own 72 [.bool,.sl 3 [.int],.sl 3 [.int],.bool,.sl 3 [.int],.sl 3 [.int],.bool,.sl 3 [.int],.sl 3 [.int],.bool,.sl 3 [.int],.sl 3 [.int],.bool,.sl 3 [.int],.sl 3 [.int],.bool,.sl 3 [.int],.sl 3 [.int]] (Aw (slR (evR i.1 i.2.1 i.2.2.1 i.2.2.2.1 i.2.2.2.2.1) i.2.2.2.2.2.1 i.2.2.2.2.2.2.1 i.2.2.2.2.2.2.2.1 i.2.2.2.2.2.2.2.2.1 i.2.2.2.2.2.2.2.2.2.1 i.2.2.2.2.2.2.2.2.2.2 i.2.1 i.2.2.2.1 i.2.2.2.2.1))]⟩}
theorem Y9:Dc.Ok Tryz.prog 11:=by
 refine fok (X:=⟨tt,[(34,EX),(35,HW),(36,DS),(37,FY)],[],41,[]⟩) mixed AF (CTok.cons P7 (CTok.cons Wr (CTok.cons O5 (CTok.cons Wl (CTok.nil _))))) Tryz.func11 (λ_=>[]) ?_;rintro⟨lx,ly,hx,hy,ls,n,m,d,n2,m2,d2⟩ a0;have a0:(ls.length<=1048576/\Eh ls ls.length<=1048576/\(-9223372036854775808<=lx/\lx<=9223372036854775807)/\(-9223372036854775808<=ly/\ly<=9223372036854775807)/\(-9223372036854775808<=hx/\hx<=9223372036854775807)/\(-9223372036854775808<=hy/\hy<=9223372036854775807))/\CS m d/\CS m2 d2:=a0;refine AG (q:=let Z7:=List (List Dat);let Z6:=DC.sl 66 [.sl 36 [.int,.int]] (AP ls);let Z5:=slR (evR lx ly hx hy ls) n m d n2 m2 d2 ly hy ls;let Z3:=(([]:List (List Dat))=Aw Z5);∃i1:Int×Int×Int×Int×(List (List V2)),let Z2:=AI (evR i1.1 i1.2.1 i1.2.2.1 i1.2.2.2.1 i1.2.2.2.2);[DA.agg [cI lx,cI ly,cI hx,cI hy],DA.one Z6]=EX.args i1/\EX.pre i1/\(∃i2:(List Fr)×Bool×Z7×Z7,let Z4:=Cf (λr=>eqX r i2.2.1 i2.2.2.1 i2.2.2.2) i2.1;let Z1:=wR (Z4+(1:Int));let Z8:=Z2.getD (Z1.toNat) [];[DA.one (DC.sl 44 z30 Z2),DA.agg [cB n,cS m,cS d]]=HW.args i2/\HW.pre i2/\(ifB ((!(decide (Z4<(0:Int))))) (ifB ((!(decide (Z1>=(nI (Z2.length)))))) ((0<=Z1/\Z1<(Z2.length:Int))/\((Z1.toNat<Z2.length)/\(∃i3:Fr×Bool×Z7×Z7,[DA.agg [cB (((Z8.getD 0 (.int 0))).b),cS (((Z8.getD 1 (.int 0))).r),cS (((Z8.getD 2 (.int 0))).r)],DA.agg [cB n2,cS m2,cS d2]]=DS.args i3/\DS.pre i3/\(ifB ((!(eqX i3.1 i3.2.1 i3.2.2.1 i3.2.2.2))) Z3 (∃i4:Int×Int×Int×Int×(List (List V2))×Fr×Fr,[DA.agg [cI lx,cI ly,cI hx,cI hy],DA.one Z6,DA.agg [cB n,cS m,cS d],DA.agg [cB n2,cS m2,cS d2]]=FY.args i4/\FY.pre i4/\((Aw (Nc i4.2.2.2.2.2.1 i4.2.2.2.2.2.2 (AB i4.2.1) (AB i4.2.2.2.1) (bkS i4.2.2.2.2.1 i4.2.2.2.2.2.1 i4.2.2.2.2.2.2))=Aw Z5))))))) Z3) Z3))) (by kernel_rfl) ?_;conv=>zeta
 delta ifB wR nI;have hev:=SN (lx:=lx) (ly:=ly) (hx:=hx) (hy:=hy) a0.1.1 a0.1.2.1;have hfl:=A5 (evR lx ly hx hy ls);obtain⟨hi1,hi2,hi3⟩:=KD (p:=λr=>eqX r n m d) (l:=(evR lx ly hx hy ls)) (d:=Fr.none);have a2:Cf (λr=>eqX r n m d) (evR lx ly hx hy ls)=(slI (evR lx ly hx hy ls) n m d):=rfl;have hw:IntKind.i64.wrap (Cf (λr=>eqX r n m d) (evR lx ly hx hy ls)+(1:Int))=Cf (λr=>eqX r n m d) (evR lx ly hx hy ls)+1:=AC (by omega) (by omega)
 refine⟨(lx,ly,hx,hy,ls),by
  rfl,by
  exact a0.1,?_⟩
 refine⟨((evR lx ly hx hy ls),n,m,d),by
  rfl,by
  show(evR lx ly hx hy ls).length<=2000000000000/\CS m d;exact⟨by omega,a0.2.1⟩,?_⟩
 refine And.symm ⟨λc7=>?_,λc7=>?_⟩;simp only[nrm]at c7;have hE:slR (evR lx ly hx hy ls) n m d n2 m2 d2 ly hy ls=[]:=Nj (λh=>by have:=h.1;rw[← a2]at this;omega);rw[hE];rfl;simp only[nrm]at c7;refine And.symm ⟨λc8=>?_,λc8=>?_⟩;simp only[nrm]at c8;have hE:slR (evR lx ly hx hy ls) n m d n2 m2 d2 ly hy ls=[]:=Nj (λh=>by have:=h.2.1;rw[← a2]at this;omega);rw[hE];rfl;simp only[nrm]at c8;refine ao (by dsimp only;omega) λo9=>?_;refine ao (by omega) λo10=>?_
 refine⟨((slB (evR lx ly hx hy ls) n m d),n2,m2,d2),by
  dsimp only;rw[hw,show(Cf (λr=>eqX r n m d) (evR lx ly hx hy ls)+1).toNat=(slI (evR lx ly hx hy ls) n m d).toNat+1 from by rw[a2];omega,Dy (by omega)];rfl,by
  exact a0.2.2,?_⟩
 refine⟨λa1=>?_,λa1=>?_⟩;simp only[nrm]at a1;have hE:slR (evR lx ly hx hy ls) n m d n2 m2 d2 ly hy ls=[]:=Nj (λh=>by have q:=h.2.2;rw[q]at a1;cases a1);rw[hE];rfl;simp only[nrm]at a1;have a3:SM (evR lx ly hx hy ls) n m d n2 m2 d2:=⟨by rw[← a2];omega,by rw[← a2];omega,by simpa using a1⟩;have hE:=VR (ly:=ly) (hy:=hy) (ls:=ls) a3;obtain⟨e1,e2,e3⟩:n=decide ((slA (evR lx ly hx hy ls) n m d).z<0)/\m=L (slA (evR lx ly hx hy ls) n m d).z.natAbs/\d=L (slA (evR lx ly hx hy ls) n m d).d:=Is a0.2.1 (hi3 (by omega));obtain⟨f1,f2,f3⟩:n2=decide ((slB (evR lx ly hx hy ls) n m d).z<0)/\m2=L (slB (evR lx ly hx hy ls) n m d).z.natAbs/\d2=L (slB (evR lx ly hx hy ls) n m d).d:=Is a0.2.2 a3.2.2;obtain⟨a4,p,q,hp,hq,a5⟩:=VS a0.1.2.2.1 a0.1.2.2.2.2.1 a3.1 a3.2.1;have a6:=λx hx=>(KA a4 hp hq a5 ls.length (Nat.le_refl _) x hx).1
 refine⟨(lx,ly,hx,hy,ls,(slA (evR lx ly hx hy ls) n m d),(slB (evR lx ly hx hy ls) n m d)),by
  generalize (slA (evR lx ly hx hy ls) n m d)=A at e1 e2 e3 ⊢;generalize (slB (evR lx ly hx hy ls) n m d)=B at f1 f2 f3 ⊢;rw[e1,e2,e3,f1,f2,f3];rfl,by
  try dsimp only[FY]
  exact⟨⟨a4,a0.1.1,a6⟩,a0.1.2.2.2.1,a0.1.2.2.2.2.2⟩,?_⟩
 rw[hE]
theorem Wt{α:Type}{p:α->Bool}{l:List α}{d:α}{k:Nat}(hk:k<l.length)(h:p (l.getD k d)=true):0<=Cf p l:=by
 unfold Cf;cases e:l.findIdx? p with|none=>have:=List.findIdx?_eq_none_iff.1 e (l.getD k d) (by simp[List.getD,hk]);rw[h]at this;cases this|some j=>show(0:Int)<=(j:Int);omega
theorem AAW{r s:Fr}{n:Bool}{m d:List (List Dat)}(ho:CS m d)(h1:eqX r n m d=true)(h2:eqX s n m d=true):r=s:=by
 obtain⟨a1,a2,a3⟩:=Is ho h1;obtain⟨b1,b2,b3⟩:=Is ho h2;rw[a1]at b1;have e2:=AAl (a2.symm.trans b2);have e3:=AAl (a3.symm.trans b3);have e1:(r.z<0<->s.z<0):=by simpa using b1
 exact Fr.zd_ext (by omega) e3
theorem ZA{lx ly hx hy:Int}{ls:List (List V2)}{n:Bool}{m d:List (List Dat)}{n2:Bool}{m2 d2:List (List Dat)}(hl:-9223372036854775808<=lx/\lx<=9223372036854775807)(hh:-9223372036854775808<=hx/\hx<=9223372036854775807)(hr:CS m2 d2) :
  SM (evR lx ly hx hy ls) n m d n2 m2 d2<->0<=slI (evR lx ly hx hy ls) n m d/\slI (evR lx ly hx hy ls) n2 m2 d2=slI (evR lx ly hx hy ls) n m d+1:=by
 obtain⟨h1,h2,h3⟩:=KD (p:=λr=>eqX r n2 m2 d2) (l:=evR lx ly hx hy ls) (d:=Fr.none);have hs:Cf (λr=>eqX r n2 m2 d2) (evR lx ly hx hy ls)=slI (evR lx ly hx hy ls) n2 m2 d2:=rfl;rw[hs]at h1 h2 h3;constructor;rintro⟨q1,q2,q3⟩;refine⟨q1,?_⟩;have hc:A3 ls=true/\lx<hx:=by by_cases h:A3 ls=true/\lx<hx;exact h;rw[Kr h]at q1 q2;simp at q2;omega
 have hA:=QM (ly:=ly) (hy:=hy) hc.1 hc.2 hl hh;have k0:0<=slI (evR lx ly hx hy ls) n2 m2 d2:=Wt (d:=Fr.none) (k:=(slI (evR lx ly hx hy ls) n m d).toNat+1) (by omega) q3;have e:=AAW hr (h3 k0) q3;by_cases c1:(slI (evR lx ly hx hy ls) n2 m2 d2).toNat<(slI (evR lx ly hx hy ls) n m d).toNat+1;have:=UB hA.2.1 c1 (by omega);rw[e,J3]at this;omega;by_cases c2:(slI (evR lx ly hx hy ls) n m d).toNat+1<(slI (evR lx ly hx hy ls) n2 m2 d2).toNat;have:=UB hA.2.1 c2 (by omega);rw[e,J3]at this;omega;omega;rintro⟨q1,q2⟩;refine⟨q1,by omega,?_⟩;have:=h3 (by omega);rw[show(slI (evR lx ly hx hy ls) n2 m2 d2).toNat=(slI (evR lx ly hx hy ls) n m d).toNat+1 by omega]at this;exact this
def GU:Con:={ι:=Int×Int×Int×Int×(List (List V2))×Bool×(List (List Dat))×(List (List Dat))×Bool×(List (List Dat))×(List (List Dat)),pre:=λi=>(i.2.2.2.2.1.length<=1048576/\Eh i.2.2.2.2.1 i.2.2.2.2.1.length<=1048576/\(-9223372036854775808<=i.1/\i.1<=9223372036854775807)/\(-9223372036854775808<=i.2.1/\i.2.1<=9223372036854775807)/\(-9223372036854775808<=i.2.2.1/\i.2.2.1<=9223372036854775807)/\(-9223372036854775808<=i.2.2.2.1/\i.2.2.2.1<=9223372036854775807))/\CS i.2.2.2.2.2.2.1 i.2.2.2.2.2.2.2.1/\CS i.2.2.2.2.2.2.2.2.2.1 i.2.2.2.2.2.2.2.2.2.2,args:=λi=>[DA.agg [cI i.1,cI i.2.1,cI i.2.2.1,cI i.2.2.2.1],.one (DC.sl 66 [.sl 36 [.int,.int]] (AP i.2.2.2.2.1)),DA.agg [cB i.2.2.2.2.2.1,cS i.2.2.2.2.2.2.1,cS i.2.2.2.2.2.2.2.1],DA.agg [cB i.2.2.2.2.2.2.2.2.1,cS i.2.2.2.2.2.2.2.2.2.1,cS i.2.2.2.2.2.2.2.2.2.2]],res:=λi=>⟨false,[none],[.own 72 [.bool,.sl 3 [.int],.sl 3 [.int],.bool,.sl 3 [.int],.sl 3 [.int],.bool,.sl 3 [.int],.sl 3 [.int],.bool,.sl 3 [.int],.sl 3 [.int],.bool,.sl 3 [.int],.sl 3 [.int],.bool,.sl 3 [.int],.sl 3 [.int]] (Aw (slR (evR i.1 i.2.1 i.2.2.1 i.2.2.2.1 i.2.2.2.2.1) i.2.2.2.2.2.1 i.2.2.2.2.2.2.1 i.2.2.2.2.2.2.2.1 i.2.2.2.2.2.2.2.2.1 i.2.2.2.2.2.2.2.2.2.1 i.2.2.2.2.2.2.2.2.2.2 i.2.1 i.2.2.2.1 i.2.2.2.2.1))]⟩}
theorem ZB:GU.Ok Tryz.prog 7:=by
 refine fok (X:=⟨tt,[(27,EW),(28,EO),(29,FZ)],[],32,[]⟩) mixed AF (CTok.cons P6 (CTok.cons Ws (CTok.cons Wm (CTok.nil _)))) Tryz.func7 (λ_=>[]) ?_;rintro⟨lx,ly,hx,hy,ls,n,m,d,n2,m2,d2⟩ a0;have a0:(ls.length<=1048576/\Eh ls ls.length<=1048576/\(-9223372036854775808<=lx/\lx<=9223372036854775807)/\(-9223372036854775808<=ly/\ly<=9223372036854775807)/\(-9223372036854775808<=hx/\hx<=9223372036854775807)/\(-9223372036854775808<=hy/\hy<=9223372036854775807))/\CS m d/\CS m2 d2:=a0;refine AG (q:=let Z5:=List (List Dat);let Z4:=DC.sl 66 [.sl 36 [.int,.int]] (AP ls);let Z1:=slR (evR lx ly hx hy ls) n m d n2 m2 d2 ly hy ls;let Z6:=(([]:List (List Dat))=Aw Z1);∃i1:Int×Int×Int×Int×(List (List V2)),let Z2:=DC.sl 44 z30 (AI (evR i1.1 i1.2.1 i1.2.2.1 i1.2.2.2.1 i1.2.2.2.2));[DA.agg [cI lx,cI ly,cI hx,cI hy],DA.one Z4]=EW.args i1/\EW.pre i1/\(∃i2:(List Fr)×Bool×Z5×Z5,let Z3:=Cf (λr=>eqX r i2.2.1 i2.2.2.1 i2.2.2.2) i2.1;[DA.one Z2,DA.agg [cB n,cS m,cS d]]=EO.args i2/\EO.pre i2/\(ifB ((!(decide (Z3<(0:Int))))) (∃i3:(List Fr)×Bool×Z5×Z5,[DA.one Z2,DA.agg [cB n2,cS m2,cS d2]]=EO.args i3/\EO.pre i3/\(ifB (((Cf (λr=>eqX r i3.2.1 i3.2.2.1 i3.2.2.2) i3.1) != (wR (Z3+(1:Int))))) Z6 (∃i4:Int×Int×Int×Int×(List (List V2))×Fr×Fr,[DA.agg [cI lx,cI ly,cI hx,cI hy],DA.one Z4,DA.agg [cB n,cS m,cS d],DA.agg [cB n2,cS m2,cS d2]]=FZ.args i4/\FZ.pre i4/\((Aw (Lj i4.2.2.2.2.2.1 i4.2.2.2.2.2.2 (AB i4.2.1) (AB i4.2.2.2.1) (Aq i4.2.2.2.2.1 i4.2.2.2.2.2.1 i4.2.2.2.2.2.2 i4.2.2.2.2.1.length))=Aw Z1))))) Z6))) (by kernel_rfl) ?_;conv=>zeta
 delta ifB wR;have hev:=SN (lx:=lx) (ly:=ly) (hx:=hx) (hy:=hy) a0.1.1 a0.1.2.1;have hfl:=A5 (evR lx ly hx hy ls);obtain⟨hi1,hi2,hi3⟩:=KD (p:=λr=>eqX r n m d) (l:=(evR lx ly hx hy ls)) (d:=Fr.none);have a2:Cf (λr=>eqX r n m d) (evR lx ly hx hy ls)=(slI (evR lx ly hx hy ls) n m d):=rfl;have hw:IntKind.i64.wrap (Cf (λr=>eqX r n m d) (evR lx ly hx hy ls)+(1:Int))=Cf (λr=>eqX r n m d) (evR lx ly hx hy ls)+1:=AC (by omega) (by omega);obtain⟨hj1,hj2,hj3⟩:=KD (p:=λr=>eqX r n2 m2 d2) (l:=(evR lx ly hx hy ls)) (d:=Fr.none);have a4:Cf (λr=>eqX r n2 m2 d2) (evR lx ly hx hy ls)=slI (evR lx ly hx hy ls) n2 m2 d2:=rfl
 refine⟨(lx,ly,hx,hy,ls),by
  rfl,by
  exact a0.1,?_⟩
 refine⟨((evR lx ly hx hy ls),n,m,d),by
  rfl,by
  show(evR lx ly hx hy ls).length<=2000000000000/\CS m d;exact⟨by omega,a0.2.1⟩,?_⟩
 refine And.symm ⟨λc7=>?_,λc7=>?_⟩;simp only[nrm]at c7;have hE:slR (evR lx ly hx hy ls) n m d n2 m2 d2 ly hy ls=[]:=Nj (λh=>by have:=h.1;rw[← a2]at this;omega);rw[hE];rfl;simp only[nrm]at c7
 refine⟨((evR lx ly hx hy ls),n2,m2,d2),by
  rfl,by
  show(evR lx ly hx hy ls).length<=2000000000000/\CS m2 d2;exact⟨by omega,a0.2.2⟩,?_⟩
 refine⟨λa1=>?_,λa1=>?_⟩;simp only[nrm]at a1;have hE:slR (evR lx ly hx hy ls) n m d n2 m2 d2 ly hy ls=[]:=Nj (λh=>by have q:=((ZA a0.1.2.2.1 a0.1.2.2.2.2.1 a0.2.2).1 h).2;rw[← a2,← a4]at q;rw[hw]at a1;omega);rw[hE];rfl;simp only[nrm]at a1;rw[hw]at a1;have a3:SM (evR lx ly hx hy ls) n m d n2 m2 d2:=(ZA a0.1.2.2.1 a0.1.2.2.2.2.1 a0.2.2).2 ⟨by rw[← a2];omega,by rw[← a2,← a4];omega⟩;have hE:=VR (ly:=ly) (hy:=hy) (ls:=ls) a3;obtain⟨e1,e2,e3⟩:n=decide ((slA (evR lx ly hx hy ls) n m d).z<0)/\m=L (slA (evR lx ly hx hy ls) n m d).z.natAbs/\d=L (slA (evR lx ly hx hy ls) n m d).d:=Is a0.2.1 (hi3 (by omega));obtain⟨f1,f2,f3⟩:n2=decide ((slB (evR lx ly hx hy ls) n m d).z<0)/\m2=L (slB (evR lx ly hx hy ls) n m d).z.natAbs/\d2=L (slB (evR lx ly hx hy ls) n m d).d:=Is a0.2.2 a3.2.2;obtain⟨a5,p,q,hp,hq,a6⟩:=VS a0.1.2.2.1 a0.1.2.2.2.2.1 a3.1 a3.2.1;have a7:=Wp a5 hp hq a6 a0.1.2.2.2.1 a0.1.2.2.2.2.2;have hgA:=hp.good;have hgB:=hq.good
 refine⟨(lx,ly,hx,hy,ls,(slA (evR lx ly hx hy ls) n m d),(slB (evR lx ly hx hy ls) n m d)),by
  generalize (slA (evR lx ly hx hy ls) n m d)=A at e1 e2 e3 ⊢;generalize (slB (evR lx ly hx hy ls) n m d)=B at f1 f2 f3 ⊢;rw[e1,e2,e3,f1,f2,f3];rfl,by
  try dsimp only[FZ]
  exact⟨⟨a5,a0.1.1,hgA,hgB⟩,a0.1.2.2.2.1,a0.1.2.2.2.2.2⟩,?_⟩
 rw[hE,a7]
end Go.Proofs.YthoidhehmmcgnaaGreat
