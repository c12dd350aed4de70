import Derived.Sort.LotA
namespace Go.Proofs.YthoidhehmmcgnaaGreat
set_option linter.unusedVariables false
set_option linter.unusedSimpArgs false
open Go.Sort
structure TPre(c:Nat->Nat->Int):Prop where
 sw:∀i j,c j i=- c i j
 tr:∀i j k,c i j<=0->c j k<=0->c i k<=0
def ltC(c:Nat->Nat->Int)(i j:Nat):Bool:=decide (c i j<0)
def ltL(c:Nat->Nat->Int)(i j:Nat):Bool:=decide (c i j<0\/(c i j=0/\i<j))
theorem Ps{c:Nat->Nat->Int}{i j:Nat} : ltL c i j=true<->c i j<0\/(c i j=0/\i<j):=by unfold ltL;rw[decide_eq_true_eq]
theorem Jo{c:Nat->Nat->Int}{i j:Nat} : ltL c i j=false<->0<c i j\/(c i j=0/\j<=i):=by unfold ltL;rw[decide_eq_false_iff_not];omega
theorem TPre.swo{c:Nat->Nat->Int}(h:TPre c):SWO (ltL c) where
 irrefl i:=Jo.2 (by have:=h.sw i i;omega)
 trans i j k h1 h2:=by rw[Ps]at *;have a:=h.tr i j k;have b:=h.tr k i j;have d:=h.tr j k i;have s1:=h.sw i j;have s2:=h.sw j k;have s3:=h.sw i k;omega
 ntrans i j k h1 h2:=by rw[Jo]at *;have a:=h.tr k j i;have b:=h.tr i k j;have d:=h.tr j i k;have s1:=h.sw i j;have s2:=h.sw j k;have s3:=h.sw i k;omega
theorem Uv{c:Nat->Nat->Int}(h:TPre c){i j:Nat}(h1:ltL c i j=false)(h2:ltL c j i=false):i=j:=by rw[Jo]at h1 h2;have:=h.sw i j;omega
def G5(c:Nat->Nat->Int)(n:Nat):List Nat:=(List.range n).mergeSort λx y=>!ltL c y x
theorem Gs(c:Nat->Nat->Int)(n:Nat):(G5 c n).Perm (List.range n):=List.mergeSort_perm _ _
theorem Kb(c:Nat->Nat->Int)(n:Nat):(G5 c n).length=n:=by rw[(Gs c n).length_eq,List.length_range]
theorem RY{c:Nat->Nat->Int}{n i:Nat}(h:i ∈ G5 c n):i<n:=List.mem_range.1 ((Gs c n).mem_iff.1 h)
structure Runs(c:Nat->Nat->Int)(a m b:Nat)(D:Array Nat):Prop where
 am:a<=m
 mb:m<=b
 size:b<=D.size
 fst:SortedIn (ltL c) a m D
 snd:SortedIn (ltL c) m b D
 num:∀p q,a<=p->p<m->m<=q->q<b->D[p]! < D[q]!
theorem Runs.le{c:Nat->Nat->Int}{a m b:Nat}{D:Array Nat}(R:Runs c a m b D){p q:Nat}(h1:a<=p)(h2:p<m)(h3:m<=q)(h4:q<b)(h:¬c D[q]! D[p]! < 0):ltL c D[q]! D[p]! = false:=by have:=R.num p q h1 h2 h3 h4;rw[Jo];omega
theorem Runs.lt{c:Nat->Nat->Int}(hc:TPre c){a m b:Nat}{D:Array Nat}{p q:Nat}(h:c D[q]! D[p]! < 0):ltL c D[p]! D[q]! = false:=by have:=hc.sw D[q]! D[p]!;rw[Jo];omega
theorem CE{c:Nat->Nat->Int}(hc:TPre c){a b:Nat}{D:Array Nat}(h:SortedIn (ltL c) a b D){i j:Nat}(h1:a<=i)(h2:i<=j)(h3:j<b):ltL c D[j]! D[i]! = false:=by by_cases e:i=j;subst e;exact hc.swo.irrefl _;exact h i j h1 (by omega) h3
theorem Runs.done{c:Nat->Nat->Int}{a m b:Nat}{D:Array Nat}(R:Runs c a m b D)(h:a=m\/m=b):SortedIn (ltL c) a b D:=by rcases h with rfl|rfl;exact R.snd;exact R.fst
structure Cut(c:Nat->Nat->Int)(a m b s:Nat)(D:Array Nat):Prop where
 lo:a<=s
 hi:s<=m
 e1:m<=(a+b)/2+m-s
 e2:(a+b)/2+m-s<=b
 mid:s<=(a+b)/2
 no:s=a\/(a+b)/2+m-s=b\/¬c D[(a+b)/2+m-s]! D[s-1]! < 0
 yes:s=m\/(a+b)/2+m-s=m\/c D[(a+b)/2+m-s-1]! D[s]! < 0
structure Turned(m s e:Nat)(D D' : Array Nat):Prop where
 size:D'.size=D.size
 out:∀i,i<s\/e<=i->D'[i]! = D[i]!
 fst:∀t,t<e-m->D'[s+t]! = D[m+t]!
 snd:∀t,t<m-s->D'[s+(e-m)+t]! = D[s+t]!
section
variable {c : Nat → Nat → Int} {a m b s : Nat} {D D' : Array Nat}
theorem Cut.left(R:Runs c a m b D)(K:Cut c a m b s D)(T:Turned m s ((a+b)/2+m-s) D D'):Runs c a s ((a+b)/2) D':=by
 obtain⟨k1,k2,k3,k4,k5,-,-⟩:=K;have r1:=R.am;have r2:=R.mb;have r3:=R.size;have hB:∀i,s<=i->i<(a+b)/2->D'[i]! = D[m+(i-s)]! := λi h1 h2=>by have:=T.fst (i-s) (by omega);rwa [show s+(i-s)=i by omega]at this
 refine⟨k1,k5,by rw[T.size];omega,λi j h1 h2 h3=>?_,λi j h1 h2 h3=>?_,λp q h1 h2 h3 h4=>?_⟩;rw[T.out i (.inl (by omega)),T.out j (.inl h3)];exact R.fst i j h1 h2 (by omega);rw[hB i h1 (by omega),hB j (by omega) h3];exact R.snd _ _ (by omega) (by omega) (by omega);rw[T.out p (.inl h2),hB q h3 h4];exact R.num _ _ h1 (by omega) (by omega) (by omega)
theorem Cut.right(R:Runs c a m b D)(K:Cut c a m b s D)(T:Turned m s ((a+b)/2+m-s) D D'):Runs c ((a+b)/2) ((a+b)/2+m-s) b D':=by
 obtain⟨k1,k2,k3,k4,k5,-,-⟩:=K;have r1:=R.am;have r2:=R.mb;have r3:=R.size;have hA:∀i,(a+b)/2<=i->i<(a+b)/2+m-s->D'[i]! = D[s+(i-(a+b)/2)]! := λi h1 h2=>by have:=T.snd (i-(a+b)/2) (by omega);rwa [show s+((a+b)/2+m-s-m)+(i-(a+b)/2)=i by omega]at this
 refine⟨by omega,k4,by rw[T.size];exact r3,λi j h1 h2 h3=>?_,λi j h1 h2 h3=>?_,λp q h1 h2 h3 h4=>?_⟩;rw[hA i h1 (by omega),hA j (by omega) h3];exact R.fst _ _ (by omega) (by omega) (by omega);rw[T.out i (.inr h1),T.out j (.inr (by omega))];exact R.snd _ _ (by omega) h2 h3;rw[hA p h1 h2,T.out q (.inr h3)];exact R.num _ _ (by omega) (by omega) (by omega) h4
theorem Cut.sides(hc:TPre c)(R:Runs c a m b D)(K:Cut c a m b s D)(T:Turned m s ((a+b)/2+m-s) D D'){i j:Nat}(h1:a<=i)(h2:i<(a+b)/2)(h3:(a+b)/2<=j)(h4:j<b):ltL c D'[j]! D'[i]! = false:=by
 obtain⟨k1,k2,k3,k4,k5,k6,k7⟩:=K;have r1:=R.am;have r2:=R.mb;have S:=hc.swo;have hB:∀i,s<=i->i<(a+b)/2->D'[i]! = D[m+(i-s)]! := λi h1 h2=>by have:=T.fst (i-s) (by omega);rwa [show s+(i-s)=i by omega]at this
 have hA:∀i,(a+b)/2<=i->i<(a+b)/2+m-s->D'[i]! = D[s+(i-(a+b)/2)]! := λi h1 h2=>by have:=T.snd (i-(a+b)/2) (by omega);rwa [show s+((a+b)/2+m-s-m)+(i-(a+b)/2)=i by omega]at this
 by_cases hi:i<s;rw[T.out i (.inl hi)];by_cases hj:j<(a+b)/2+m-s;rw[hA j h3 hj];exact CE hc R.fst h1 (by omega) (by omega);rw[T.out j (.inr (by omega))];have q1:=CE hc R.fst h1 (show i<=s-1 by omega) (by omega);have q3:=CE hc R.snd (show m<=(a+b)/2+m-s by omega) (show(a+b)/2+m-s<=j by omega) h4;have q2:=R.le (p:=s-1) (q:=(a+b)/2+m-s) (by omega) (by omega) (by omega) (by omega) (by rcases k6 with h|h|h;omega;omega;exact h);exact S.ntrans _ _ _ q3 (S.ntrans _ _ _ q2 q1);rw[hB i (by omega) h2];by_cases hj:j<(a+b)/2+m-s;rw[hA j h3 hj];have q1:=CE hc R.snd (show m<=m+(i-s) by omega) (show m+(i-s)<=(a+b)/2+m-s-1 by omega) (by omega);have q3:=CE hc R.fst (show a<=s by omega) (show s<=s+(j-(a+b)/2) by omega) (by omega);have q2:ltL c D[s]! D[(a+b)/2+m-s-1]! = false:=Runs.lt (a:=a) (m:=m) (b:=b) hc (by rcases k7 with h|h|h;omega;omega;exact h);exact S.ntrans _ _ _ q3 (S.ntrans _ _ _ q2 q1);rw[T.out j (.inr (by omega))];exact CE hc R.snd (by omega) (by omega) h4
theorem RZ{D2 D3:Array Nat}{k:Nat}(a0:a<=k)(a1:k<=b)(hb:b<=D'.size)(hs:∀i j,a<=i->i<k->k<=j->j<b->ltL c D'[j]! D'[i]! = false)
  (p1:PermIn a k D' D2) (s1:SortedIn (ltL c) a k D2) (p2:PermIn k b D2 D3) (s2:SortedIn (ltL c) k b D3):PermIn a b D' D3/\SortedIn (ltL c) a b D3:=by
 have z2:D2.size=D'.size:=p1.1;refine⟨permIn_trans _ _ _ a b (permIn_mono _ _ a k a b (Nat.le_refl _) a1 hb p1) (permIn_mono _ _ k b a b a0 (Nat.le_refl _) (by omega) p2),λi j h1 h2 h3=>?_⟩;by_cases hi:i<k;by_cases hj:j<k;rw[p2.2.1 i (.inl hi),p2.2.1 j (.inl hj)];exact s1 i j h1 h2 hj;rw[p2.2.1 i (.inl hi)];refine permIn_all D2 D3 k b (λy=>ltL c y D2[i]! = false) (by omega) p2 (λq q1 q2=>?_) j (by omega) h3;rw[p1.2.1 q (.inr q1)];exact permIn_all D' D2 a k (λx=>ltL c D'[q]! x=false) (by omega) p1 (λp p3 p4=>hs p q p3 p4 q1 q2) i h1 hi;exact s2 i j (by omega) h2 h3
end
structure Swapped(x y n:Nat)(D D' : Array Nat):Prop where
 size:D'.size=D.size
 out:∀i,(i<x\/x+n<=i)->(i<y\/y+n<=i)->D'[i]! = D[i]!
 fst:∀t,t<n->D'[x+t]! = D[y+t]!
 snd:∀t,t<n->D'[y+t]! = D[x+t]!
theorem Swapped.zero(x y:Nat)(D:Array Nat):Swapped x y 0 D D:=⟨rfl,λ_ _ _=>rfl,λt h=>by omega,λt h=>by omega⟩
theorem Swapped.step{x y n:Nat}{D D' : Array Nat}(h:Swapped x y n D D')(hd:x+n<y\/y+n<x)(hx:x+n<D.size)(hy:y+n<D.size):Swapped x y (n+1) D (swp D' (x+n) (y+n)):=by have g:=swp_get D' (i:=x+n) (j:=y+n) (by rw[h.size];exact hx) (by rw[h.size];exact hy);refine⟨by rw[swp_size,h.size],λi h1 h2=>?_,λt ht=>?_,λt ht=>?_⟩;rw[g,if_neg (by omega),if_neg (by omega)];exact h.out i (by omega) (by omega);rw[g,if_neg (by omega)];by_cases e:t=n;subst e;rw[if_pos rfl];exact h.out _ (by omega) (by omega);rw[if_neg (by omega)];exact h.fst t (by omega);rw[g];by_cases e:t=n;subst e;rw[if_pos rfl];exact h.out _ (by omega) (by omega);rw[if_neg (by omega),if_neg (by omega)];exact h.snd t (by omega)
theorem Turned.big{m i j:Nat}{D D1 D' : Array Nat}(hij:j<i)(him:i<=m)(S:Swapped (m-i) m j D D1)(T:Turned m (m-(i-j)) (m+j) D1 D'):Turned m (m-i) (m+j) D D':=by refine⟨by rw[T.size,S.size],λk hk=>?_,λt ht=>?_,λt ht=>?_⟩;rw[T.out k (by omega),S.out k (by omega) (by omega)];rw[T.out (m-i+t) (by omega)];exact S.fst t (by omega);by_cases h:t<j;have h1:=T.fst t (by omega);rw[show m-(i-j)+t=m-i+(m+j-m)+t by omega]at h1;rw[h1];exact S.snd t h;have h1:=T.snd (t-j) (by omega);rw[show m-(i-j)+(m+j-m)+(t-j)=m-i+(m+j-m)+t by omega]at h1;rw[h1,S.out _ (by omega) (by omega)];congr 1;omega
theorem Turned.less{m i j:Nat}{D D1 D' : Array Nat}(hij:i<j)(him:i<=m)(S:Swapped (m-i) (m+j-i) i D D1)(T:Turned m (m-i) (m+(j-i)) D1 D'):Turned m (m-i) (m+j) D D':=by refine⟨by rw[T.size,S.size],λk hk=>?_,λt ht=>?_,λt ht=>?_⟩;rw[T.out k (by omega),S.out k (by omega) (by omega)];by_cases h:t<j-i;rw[T.fst t (by omega)];exact S.out _ (by omega) (by omega);have h1:=T.snd (t-(j-i)) (by omega);rw[show m-i+(m+(j-i)-m)+(t-(j-i))=m-i+t by omega]at h1;rw[h1];have h2:=S.fst (t-(j-i)) (by omega);rw[h2];congr 1;omega;rw[T.out _ (by omega)];have h2:=S.snd t (by omega);rw[show m+j-i+t=m-i+(m+j-m)+t by omega]at h2;exact h2
theorem Turned.same{m i:Nat}{D D' : Array Nat}(him:i<=m)(S:Swapped (m-i) m i D D'):Turned m (m-i) (m+i) D D':=by refine⟨S.size,λk hk=>S.out k (by omega) (by omega),λt ht=>S.fst t (by omega),λt ht=>?_⟩;have h:=S.snd t (by omega);rwa [show m+t=m-i+(m+i-m)+t by omega]at h
structure ShiftR(a i:Nat)(D D' : Array Nat):Prop where
 size:D'.size=D.size
 out:∀t,t<a\/i<=t->D'[t]! = D[t]!
 mv:∀t,a<=t->t+1<i->D'[t]! = D[t+1]!
 at_:D'[i-1]! = D[a]!
theorem ShiftR.zero(a:Nat)(D:Array Nat):ShiftR a (a+1) D D:=⟨rfl,λ_ _=>rfl,λt h1 h2=>by omega,rfl⟩
theorem ShiftR.step{a k:Nat}{D D' : Array Nat}(h:ShiftR a (k+1) D D')(hak:a<=k)(hs:k+1<D.size):ShiftR a (k+2) D (swp D' k (k+1)):=by have g:=swp_get D' (i:=k) (j:=k+1) (by rw[h.size];omega) (by rw[h.size];exact hs);refine⟨by rw[swp_size,h.size],λt ht=>?_,λt h1 h2=>?_,?_⟩;rw[g,if_neg (by omega),if_neg (by omega)];exact h.out t (by omega);rw[g,if_neg (by omega)];by_cases e:t=k;subst e;rw[if_pos rfl];exact h.out _ (by omega);rw[if_neg e];exact h.mv t h1 (by omega);rw[show k+2-1=k+1 by omega,g,if_pos rfl];have:=h.at_;rwa [show k+1-1=k by omega]at this
structure ShiftL(i m:Nat)(D D' : Array Nat):Prop where
 size:D'.size=D.size
 out:∀t,t<i\/m<t->D'[t]! = D[t]!
 mv:∀t,i<=t->t<m->D'[t+1]! = D[t]!
 at_:D'[i]! = D[m]!
theorem ShiftL.zero(m:Nat)(D:Array Nat):ShiftL m m D D:=⟨rfl,λ_ _=>rfl,λt h1 h2=>by omega,rfl⟩
theorem ShiftL.step{k m:Nat}{D D' : Array Nat}(h:ShiftL (k+1) m D D')(hkm:k+1<=m)(hs:m<D.size):ShiftL k m D (swp D' (k+1) k):=by have g:=swp_get D' (i:=k+1) (j:=k) (by rw[h.size];omega) (by rw[h.size];omega);refine⟨by rw[swp_size,h.size],λt ht=>?_,λt h1 h2=>?_,?_⟩;rw[g,if_neg (by omega),if_neg (by omega)];exact h.out t (by omega);rw[g,if_neg (by omega)];by_cases e:t=k;subst e;rw[if_pos rfl];exact h.out _ (by omega);rw[if_neg (by omega)];exact h.mv t (by omega) h2;rw[g,if_pos rfl];exact h.at_
section
variable {c : Nat → Nat → Int} {a m b i : Nat} {D D' : Array Nat}
theorem WR(hc:TPre c)(R:Runs c a (a+1) b D)(h1:a+1<=i)(h2:i<=b)(e1:i=b\/¬c D[i]! D[a]! < 0)(e2:i=a+1\/c D[i-1]! D[a]! < 0)(S:ShiftR a i D D'):SortedIn (ltL c) a b D':=by
 have W:=hc.swo;have hx:∀q,a+1<=q->q<i->ltL c D[a]! D[q]! = false:=λq q1 q2=>by have l1:ltL c D[a]! D[i-1]! = false:=Runs.lt (a:=a) (m:=a+1) (b:=b) hc (by rcases e2 with e|e;omega;exact e);exact W.ntrans _ _ _ l1 (CE hc R.snd q1 (by omega) (by omega))
 have hy:∀q,i<=q->q<b->ltL c D[q]! D[a]! = false:=λq q1 q2=>by have l1:=R.le (p:=a) (q:=i) (Nat.le_refl _) (by omega) h1 (by omega) (by rcases e1 with e|e;omega;exact e);exact W.ntrans _ _ _ (CE hc R.snd h1 q1 q2) l1
 intro p q p1 pq q2;by_cases hq:i<=q;rw[S.out q (.inr hq)];by_cases hp:i<=p;rw[S.out p (.inr hp)];exact R.snd p q (by omega) pq q2;by_cases he:p=i-1;rw[he,S.at_];exact hy q hq q2;rw[S.mv p p1 (by omega)];exact R.snd (p+1) q (by omega) (by omega) q2;rw[S.mv p p1 (by omega)];by_cases he:q=i-1;rw[he,S.at_];exact hx (p+1) (by omega) (by omega);rw[S.mv q (by omega) (by omega)];exact R.snd (p+1) (q+1) (by omega) (by omega) (by omega)
theorem YR(hc:TPre c)(R:Runs c a m (m+1) D)(h1:a<=i)(h2:i<=m)(e1:i=m\/c D[m]! D[i]! < 0)(e2:i=a\/¬c D[m]! D[i-1]! < 0)(S:ShiftL i m D D'):SortedIn (ltL c) a (m+1) D':=by
 have W:=hc.swo;have hx:∀q,i<=q->q<m->ltL c D[q]! D[m]! = false:=λq q1 q2=>by have l1:ltL c D[i]! D[m]! = false:=Runs.lt (a:=a) (m:=m) (b:=m+1) hc (by rcases e1 with e|e;omega;exact e);exact W.ntrans _ _ _ (CE hc R.fst h1 q1 q2) l1
 have hy:∀q,a<=q->q<i->ltL c D[m]! D[q]! = false:=λq q1 q2=>by have l1:=R.le (p:=i-1) (q:=m) (by omega) (by omega) (Nat.le_refl _) (by omega) (by rcases e2 with e|e;omega;exact e);exact W.ntrans _ _ _ l1 (CE hc R.fst q1 (by omega) (by omega))
 intro p q p1 pq q2;by_cases hp:p<i;rw[S.out p (.inl hp)];by_cases hq:q<i;rw[S.out q (.inl hq)];exact R.fst p q p1 pq (by omega);by_cases he:q=i;rw[he,S.at_];exact hy p p1 hp;have:=S.mv (q-1) (by omega) (by omega);rw[show q-1+1=q by omega]at this;rw[this];exact CE hc R.fst p1 (by omega) (by omega);have h3:=S.mv (q-1) (by omega) (by omega);rw[show q-1+1=q by omega]at h3;rw[h3];by_cases he:p=i;rw[he,S.at_];exact hx (q-1) (by omega) (by omega);have h4:=S.mv (p-1) (by omega) (by omega);rw[show p-1+1=p by omega]at h4;rw[h4];exact R.fst (p-1) (q-1) (by omega) (by omega) (by omega)
end
theorem Turned.none{m s e:Nat}(h:s=m\/e=m)(hs:s<=m)(he:m<=e)(D:Array Nat):Turned m s e D D:=by refine⟨rfl,λ_ _=>rfl,λt ht=>?_,λt ht=>?_⟩;rcases h with h|h;rw[h];omega;rcases h with h|h;omega;rw[h,Nat.sub_self,Nat.add_zero]
theorem Cut.parts{c:Nat->Nat->Int}{a m b s k:Nat}{D D' : Array Nat}(hk:k=(a+b)/2)(hc:TPre c)(K:Cut c a m b s D)(R:Runs c a m b D)(T:Turned m s (k+m-s) D D'):Runs c a s k D'/\Runs c k (k+m-s) b D'/\∀i j,a<=i->i<k->k<=j->j<b->ltL c D'[j]! D'[i]! = false:=by subst hk;exact⟨K.left R T,K.right R T,λi j q1 q2 q3 q4=>K.sides hc R T q1 q2 q3 q4⟩
theorem Runs.keep{c:Nat->Nat->Int}{a k e b:Nat}{D D' : Array Nat}(R:Runs c k e b D)(p:PermIn a k D D'):Runs c k e b D':=by have h1:=R.am;have h2:=R.mb;exact⟨R.am,R.mb,by rw[p.1];exact R.size,λi j q1 q2 q3=>by rw[p.2.1 i (.inr q1),p.2.1 j (.inr (by omega))];exact R.fst i j q1 q2 q3,λi j q1 q2 q3=>by rw[p.2.1 i (.inr (by omega)),p.2.1 j (.inr (by omega))];exact R.snd i j q1 q2 q3,λi j q1 q2 q3 q4=>by rw[p.2.1 i (.inr q1),p.2.1 j (.inr (by omega))];exact R.num i j q1 q2 q3 q4⟩
theorem CF{c:Nat->Nat->Int}{a k b:Nat}{D D1 D2 D3:Array Nat}(a0:a<=k)(a1:k<=b)(hb:b<=D1.size)(p0:PermIn a b D D1)(hs:∀i j,a<=i->i<k->k<=j->j<b->ltL c D1[j]! D1[i]! = false)(t2:PermIn a k D1 D2/\SortedIn (ltL c) a k D2)(p2:PermIn k b D2 D3)(s2:SortedIn (ltL c) k b D3):PermIn a b D D3/\SortedIn (ltL c) a b D3:=by obtain⟨f1,f2⟩:=RZ a0 a1 hb hs t2.1 t2.2 p2 s2;exact⟨permIn_trans _ _ _ a b p0 f1,f2⟩
end Go.Proofs.YthoidhehmmcgnaaGreat
