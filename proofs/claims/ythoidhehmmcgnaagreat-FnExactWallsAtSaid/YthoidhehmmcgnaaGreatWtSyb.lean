import Derived.Test.YthoidhehmmcgnaaGreatWtSyn
namespace Go.Proofs.YthoidhehmmcgnaaGreat
set_option linter.unusedVariables false
set_option linter.unusedSimpArgs false
open Go.Sort
section
variable {c : Nat → Nat → Int}
theorem Uw{a:Nat} : ∀(j:Nat)(d:Array Nat),j<d.size->(∀q,a<=q->q<j->d[q]! < d[j]!)->insInner (ltC c) a j d=insInner (ltL c) a j d
 | 0,d,_,_=>rfl|j+1,d,hs,hq=>by
  unfold insInner;by_cases ha:j+1>a;have h1:=hq j (by omega) (by omega);have e:ltC c d[j+1]! d[j]! = ltL c d[j+1]! d[j]! := by unfold ltC ltL;rw[Bool.eq_iff_iff,decide_eq_true_eq,decide_eq_true_eq];omega
  rw[e];split;have g:=swp_get d (i:=j+1) (j:=j) hs (by omega);refine Uw j (swp d (j+1) j) (by rw[swp_size];omega) λq a0 hqj=>?_;rw[g,g,if_neg (by omega),if_neg (by omega),if_pos rfl];exact hq q a0 (by omega);rfl;rw[decide_eq_false ha,Bool.false_and,Bool.false_and,if_neg Bool.false_ne_true,if_neg Bool.false_ne_true]
theorem Ux(h:TPre c)(a b:Nat):∀(m i:Nat)(d:Array Nat),b-i=m->b<=d.size->a<i->(∀q,a<=q->q<i->q<b->d[q]! < i)->(∀q,i<=q->q<b->d[q]! = q)->SortedIn (ltL c) a i d->insOuter (ltC c) a b i d=insOuter (ltL c) a b i d
 | 0,i,d,hm,hs,_,_,_,_=>by rw[insOuter,if_neg (by omega),insOuter,if_neg (by omega)]|m+1,i,d,hm,hs,hi,h1,h2,h3=>by
  have a1:i<b:=by omega
  have ue:∀lt:Nat->Nat->Bool,insOuter lt a b i d=insOuter lt a b (i+1) (insInner lt a i d):=λlt=>by conv=>lhs;rw[insOuter,if_pos a1]
  rw[ue,ue];rw[Uw (c:=c) (a:=a) i d (by omega) λq a2 hq=>by rw[h2 i (Nat.le_refl _) a1];exact h1 q a2 hq (by omega)];have a0:=insInner_spec h.swo swp_permIn permIn_refl permIn_trans a (i+1) i (by omega) i d (by omega) (Nat.le_refl _) (by omega) ⟨λp q a4 a5 hqi _ hq=>h3 p q a4 a5 (by omega),λq h1 h2=>by omega⟩;refine Ux h a b m (i+1) _ (by omega) (by rw[a0.1.1];exact hs) (by omega) (λq a2 hq a3=>?_) (λq hq a3=>?_) a0.2;exact permIn_all d _ a (i+1) (λx=>x<i+1) (by omega) a0.1 (λp a6 hp=>by by_cases e:p=i;subst e;rw[h2 p (Nat.le_refl _) a1];omega;have:=h1 p a6 (by omega) (by omega);omega) q a2 hq;rw[a0.1.2.1 q (.inr (by omega))];exact h2 q (by omega) a3
theorem Zg(h:TPre c)(a b:Nat)(d:Array Nat)(a0:a<=b)(hb:b<=d.size)(hd:∀q,a<=q->q<b->d[q]! = q):PermIn a b d (insertionSort (ltC c) d a b)/\SortedIn (ltL c) a b (insertionSort (ltC c) d a b):=by
 have e:insertionSort (ltC c) d a b=insertionSort (ltL c) d a b:=by unfold insertionSort;by_cases h0:a+1<=b;exact Ux h a b (b-(a+1)) (a+1) d rfl hb (by omega) (λq h1 h2 h3=>by rw[hd q h1 h3];exact h2) (λq h1 h2=>hd q (by omega) h2) (λp q h1 h2 h3=>by omega);rw[insOuter,if_neg (by omega),insOuter,if_neg (by omega)]
 rw[e];exact insertionSort_holds h.swo d a b a0 hb
theorem TPre.swoC(h:TPre c):SWO (ltC c) where
 irrefl x:=by have:=h.sw x x;unfold ltC;rw[decide_eq_false_iff_not];omega
 trans x y z:=by have s1:=h.sw x y;have s2:=h.sw y z;have s3:=h.sw x z;have t1:=h.tr x y z;have t2:=h.tr z x y;have t3:=h.tr y z x;unfold ltC;rw[decide_eq_true_eq,decide_eq_true_eq,decide_eq_true_eq];omega
 ntrans x y z:=by have s1:=h.sw x y;have s2:=h.sw y z;have s3:=h.sw x z;have t1:=h.tr x y z;have t2:=h.tr z y x;unfold ltC;rw[decide_eq_false_iff_not,decide_eq_false_iff_not,decide_eq_false_iff_not];omega
theorem dvm{s u i:Nat}(h1:s*u<=i)(h2:i<s*u+s):i/s=u:=by apply Nat.div_eq_of_lt_le;rw[Nat.mul_comm];exact h1;rw[Nat.add_mul,Nat.one_mul,Nat.mul_comm];exact h2
theorem YS{s u i j:Nat}(hs:0<s)(h1:i<s*u)(h2:s*u<=j):i/s<j/s:=by have a1:i/s<u:=Nat.div_lt_of_lt_mul h1;have a2:u<=j/s:=(Nat.le_div_iff_mul_le hs).2 (by rw[Nat.mul_comm];exact h2);omega
def Seg(c:Nat->Nat->Int)(s lo hi:Nat)(D:Array Nat):Prop:=∀i j,lo<=i->i<j->j<hi->i/s=j/s->ltL c D[j]! D[i]! = false
def Num(s lo hi:Nat)(D:Array Nat):Prop:=∀i,lo<=i->i<hi->D[i]! / s=i/s
theorem Seg.step{s u e:Nat}{D D' : Array Nat}(hs:0<s)(h:Seg c s 0 (s*u) D)(p:PermIn (s*u) e D D')(so:SortedIn (ltL c) (s*u) e D'):Seg c s 0 e D':=λi j h1 h2 h3 h4=>by by_cases hj:j<s*u;rw[p.2.1 i (.inl (by omega)),p.2.1 j (.inl hj)];exact h i j h1 h2 hj h4;by_cases hi:i<s*u;have:=YS hs hi (Nat.le_of_not_lt hj);omega;exact so i j (by omega) h2 h3
theorem Num.step{s u e:Nat}{D D' : Array Nat}(h:Num s 0 (s*u) D)(he:e<=D.size)(he2:e<=s*u+s)(p:PermIn (s*u) e D D')(hn:∀i,s*u<=i->i<e->D[i]! / s=i/s):Num s 0 e D':=λi _ h2=>by by_cases hi:i<s*u;rw[p.2.1 i (.inl hi)];exact h i (Nat.zero_le _) hi;rw[dvm (Nat.le_of_not_lt hi) (by omega)];exact permIn_all D D' (s*u) e (λx=>x/s=u) he p (λq q1 q2=>by rw[hn q q1 q2];exact dvm q1 (by omega)) i (Nat.le_of_not_lt hi) h2
structure Ini(c:Nat->Nat->Int)(s t n:Nat)(D:Array Nat):Prop where
 size:D.size=n
 perm:PermIn 0 n (Array.range n) D
 seg:Seg c s 0 t D
 num:Num s 0 t D
 rest:∀q,t<=q->q<n->D[q]! = q
theorem WS{n q:Nat}(h:q<n):(Array.range n)[q]! = q:=by simp[h]
theorem Ini.start(c:Nat->Nat->Int)(s n:Nat):Ini c s 0 n (Array.range n):=⟨by simp,permIn_refl _ _ _,λi j h1 h2 h3=>by omega,λi h1 h2=>by omega,λq _ h=>WS h⟩
theorem Ini.step{s u e n:Nat}{D:Array Nat}(hc:TPre c)(hs:0<s)(I:Ini c s (s*u) n D)(h1:s*u<=e)(h2:e<=s*u+s)(h3:e<=n):Ini c s e n (insertionSort (ltC c) D (s*u) e):=by
 obtain⟨p,so⟩:=Zg hc (s*u) e D h1 (by rw[I.size];exact h3) λq q1 q2=>I.rest q q1 (by omega)
 exact⟨by rw[p.1];exact I.size,permIn_trans _ _ _ 0 n I.perm (permIn_mono _ _ _ _ 0 n (Nat.zero_le _) h3 (by rw[I.size];exact Nat.le_refl _) p),I.seg.step hs p so,
  I.num.step (by rw[I.size];exact h3) h2 p (λi i1 i2=>by rw[I.rest i i1 (by omega)]),λq q1 q2=>by rw[p.2.1 q (.inr q1)];exact I.rest q (by omega) q2⟩
structure Lay(c:Nat->Nat->Int)(s n:Nat)(D:Array Nat):Prop where
 size:D.size=n
 perm:PermIn 0 n (Array.range n) D
 seg:Seg c s 0 n D
 num:Num s 0 n D
theorem Ini.lay{s n:Nat}{D:Array Nat}(I:Ini c s n n D):Lay c s n D:=⟨I.size,I.perm,I.seg,I.num⟩
theorem Lay.done{s n:Nat}{D:Array Nat}(hc:TPre c)(L:Lay c s n D)(h:n<=s):D.toList=G5 c n:=by
 have hz:(Array.range n).size=n:=by simp
 have:=sorted_unique_holds (lt:=ltL c) hc.swo (λx y=>Uv hc) (Array.range n) D (by rw[hz];exact L.perm) (by rw[hz];intro i j h1 h2 h3;exact L.seg i j h1 h2 h3 (by rw[Nat.div_eq_of_lt (by omega),Nat.div_eq_of_lt (by omega)]));rw[this];simp[G5]
structure Pass(c:Nat->Nat->Int)(s t n:Nat)(D:Array Nat):Prop where
 size:D.size=n
 perm:PermIn 0 n (Array.range n) D
 seg2:Seg c (s*2) 0 t D
 num2:Num (s*2) 0 t D
 seg:Seg c s t n D
 num:Num s t n D
theorem Lay.pass{s n:Nat}{D:Array Nat}(L:Lay c s n D):Pass c s 0 n D:=⟨L.size,L.perm,λi j h1 h2 h3=>by omega,λi h1 h2=>by omega,L.seg,L.num⟩
theorem Pass.done{s n:Nat}{D:Array Nat}(P:Pass c s n n D):Lay c (s*2) n D:=⟨P.size,P.perm,P.seg2,P.num2⟩
theorem Zh{s x i:Nat}(h:x/s=i/s):x/(s*2)=i/(s*2):=by rw[← Nat.div_div_eq_div_mul,← Nat.div_div_eq_div_mul,h]
theorem Pass.runs{s u e n:Nat}{D:Array Nat}(hs:0<s)(P:Pass c s (s*2*u) n D)(h1:s*2*u+s<=e)(h2:e<=s*2*u+s*2)(h3:e<=n):Runs c (s*2*u) (s*2*u+s) e D:=by
 have e1:s*(2*u)=s*2*u:=by rw[Nat.mul_assoc]
 have e2:s*(2*u+1)=s*2*u+s:=by rw[Nat.mul_add,e1,Nat.mul_one]
 have dl:∀i,s*2*u<=i->i<s*2*u+s->i/s=2*u:=λi h1 h2=>dvm (by rw[e1];exact h1) (by rw[e1];exact h2);have dr:∀i,s*2*u+s<=i->i<e->i/s=2*u+1:=λi h1 h2=>dvm (by rw[e2];exact h1) (by rw[e2];omega);refine⟨by omega,h1,by rw[P.size];exact h3,λi j i1 i2 i3=>?_,λi j i1 i2 i3=>?_,λp q p1 p2 q1 q2=>?_⟩;exact P.seg i j i1 i2 (by omega) (by rw[dl i i1 (by omega),dl j (by omega) i3]);exact P.seg i j (by omega) i2 (by omega) (by rw[dr i i1 (by omega),dr j (by omega) i3]);have n1:=P.num p p1 (by omega);have n2:=P.num q (by omega) (by omega);rw[dl p p1 p2]at n1;rw[dr q q1 q2]at n2;apply Nat.lt_of_not_le;intro a0;have:=Nat.div_le_div_right (c:=s) a0;omega
theorem Pass.step{s u e n:Nat}{D D' : Array Nat}(hs:0<s)(P:Pass c s (s*2*u) n D)(h1:s*2*u<=e)(h2:e<=s*2*u+s*2)(h3:e<=n)(p:PermIn (s*2*u) e D D')(so:SortedIn (ltL c) (s*2*u) e D'):Pass c s e n D':=
 ⟨by rw[p.1];exact P.size,permIn_trans _ _ _ 0 n P.perm (permIn_mono _ _ _ _ 0 n (Nat.zero_le _) h3 (by rw[P.size];exact Nat.le_refl _) p),P.seg2.step (by omega) p so,
  P.num2.step (by rw[P.size];exact h3) h2 p (λi i1 i2=>Zh (P.num i i1 (by omega))),λi j i1 i2 i3 i4=>by rw[p.2.1 i (.inr i1),p.2.1 j (.inr (by omega))];exact P.seg i j (by omega) i2 i3 i4,λi i1 i2=>by rw[p.2.1 i (.inr i1)];exact P.num i (by omega) i2⟩
theorem Pass.tail{s u n:Nat}{D:Array Nat}(hs:0<s)(P:Pass c s (s*2*u) n D)(h1:s*2*u<=n)(h2:n<=s*2*u+s):Lay c (s*2) n D:=by
 have e1:s*(2*u)=s*2*u:=by rw[Nat.mul_assoc]
 refine(P.step (u:=u) (e:=n) hs h1 (by omega) (Nat.le_refl _) (permIn_refl _ _ _) λi j i1 i2 i3=>?_).done;exact P.seg i j i1 i2 i3 (by rw[dvm (u:=2*u) (by rw[e1];exact i1) (by rw[e1];omega),dvm (u:=2*u) (by rw[e1];omega) (by rw[e1];omega)])
end
end Go.Proofs.YthoidhehmmcgnaaGreat
