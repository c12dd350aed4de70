import Derived.Test.YthoidhehmmcgnaaGreatWtRkWl
import Derived.Test.YthoidhehmmcgnaaGreatWtSy2W
import Derived.Test.YthoidhehmmcgnaaGreatWtSml
import Derived.Test.YthoidhehmmcgnaaGreatProg
import Derived.Test.YthoidhehmmcgnaaGreatWtBas
import Derived.Outline
import Derived.Laws.MakeOwn
import Derived.RegionTactic
import Derived.BigRegion
import Derived.Deep.RegionHeld3
import Derived.Deep.DrawnRows
namespace Go.Proofs.YthoidhehmmcgnaaGreat
set_option linter.unusedVariables false
set_option linter.unusedSimpArgs false
open Go.Sort
def hsT(es:List Edg)(x:Fr):Nat->List Fr
 | 0=>[]|k+1=>if spn (es.getD k noE) x x=true then hsT es x k++[hgt (es.getD k noE) x]else hsT es x k
theorem Py{es:List Edg}{x y:Fr} : ∀{n:Nat},y ∈ hsT es x n<->∃k,k<n/\spn (es.getD k noE) x x=true/\y=hgt (es.getD k noE) x
 | 0=>⟨λh=>(by cases h),λ⟨k,h,_⟩=>(by omega)⟩|n+1=>by have ih:=Py (es:=es) (x:=x) (y:=y) (n:=n);rw[hsT];constructor;intro h;split at h;rename_i hs;rcases List.mem_append.1 h with h|h;obtain⟨k,k1,k2⟩:=ih.1 h;exact⟨k,by omega,k2⟩;exact⟨n,by omega,hs,List.mem_singleton.1 h⟩;obtain⟨k,k1,k2⟩:=ih.1 h;exact⟨k,by omega,k2⟩;rintro⟨k,k1,k2,k3⟩;by_cases hk:k=n;subst hk;rw[if_pos k2];exact List.mem_append.2 (.inr (List.mem_singleton.2 k3));have:=ih.2 ⟨k,by omega,k2,k3⟩;split;exact List.mem_append.2 (.inl this);exact this
def SecOk(l:List Fr)(p:Fr×Fr×Bool):Prop:=(l=[]/\p=(Fr.none,Fr.none,false))\/(p.2.2=true/\(p.1 ∈ l/\∀y ∈ l,Fr.cmp p.1 y<=0)/\p.2.1 ∈ l/\∀y ∈ l,Fr.cmp y p.2.1<=0)
theorem Rm{a b:Fr}(ha:a.d≠0)(hb:b.d≠0)(h1:Fr.cmp a b<=0)(h2:Fr.cmp b a<=0):a=b:=by have:=ES ha hb;exact FX ha hb (by omega)
theorem SecOk.uniq{l l' : List Fr}{p q:Fr×Fr×Bool}(hg:CA l)(hm:∀y,y ∈ l<->y ∈ l')(h1:SecOk l p)(h2:SecOk l' q):p=q:=by rcases h1 with⟨a1,a2⟩|⟨a1,⟨a2,a3⟩,a4,a5⟩ <;> rcases h2 with⟨b1,b2⟩|⟨b1,⟨b2,b3⟩,b4,b5⟩;rw[a2,b2];have:=(hm _).2 b2;rw[a1]at this;cases this;have:=(hm _).1 a2;rw[b1]at this;cases this;have g1:=hg _ a2;have g2:=hg _ ((hm _).2 b2);have g3:=hg _ a4;have g4:=hg _ ((hm _).2 b4);have e1:=Rm g1 g2 (a3 _ ((hm _).2 b2)) (b3 _ ((hm _).1 a2));have e2:=Rm g3 g4 (b5 _ ((hm _).1 a4)) (a5 _ ((hm _).2 b4));obtain⟨p1,p2,p3⟩:=p;obtain⟨q1,q2,q3⟩:=q;simp only at a1 b1 e1 e2;rw[e1,e2,a1,b1]
theorem Om{a b c:Fr}(ha:a.d≠0)(hb:b.d≠0)(hc:c.d≠0)(h1:Fr.cmp a b<=0)(h2:Fr.cmp b c<=0):Fr.cmp a c<=0:=by by_cases e1:Fr.cmp a b=0;rw[FX ha hb e1];exact h2;by_cases e2:Fr.cmp b c=0;rw[← FX hb hc e2];exact h1;have:=NL (show Fr.cmp a b<0 by omega) (show Fr.cmp b c<0 by omega);omega
theorem Ti{a b:Fr}(ha:a.d≠0)(hb:b.d≠0):(Fr.min a b=a/\Fr.cmp a b<=0)\/(Fr.min a b=b/\Fr.cmp b a<=0):=by have hs:=ES ha hb;rw[Fr.min_pick,if_neg (by intro h;rcases h with h|h;exact ha h;exact hb h)];by_cases h:Fr.cmp a b<=0;rw[if_pos h];exact .inl ⟨rfl,h⟩;rw[if_neg h];exact .inr ⟨rfl,by omega⟩
theorem Tj{a b:Fr}(ha:a.d≠0)(hb:b.d≠0):(Fr.max a b=a/\Fr.cmp b a<=0)\/(Fr.max a b=b/\Fr.cmp a b<=0):=by have hs:=ES ha hb;rw[Fr.max_pick,if_neg (by intro h;rcases h with h|h;exact ha h;exact hb h)];by_cases h:0<=Fr.cmp a b;rw[if_pos h];exact .inl ⟨rfl,by omega⟩;rw[if_neg h];exact .inr ⟨rfl,by omega⟩
theorem Pz{es:List Edg}{x:Fr}(hg:∀n,n<=es.length->CA (hsT es x n)):∀n,n<=es.length->SecOk (hsT es x n) (GH es x n)
 | 0,_=>.inl ⟨rfl,rfl⟩|n+1,hn=>by
  have ih:=Pz hg n (by omega);have g1:=hg (n+1) hn;cases hs:spn (es.getD n noE) x x with|false=>rw[U6 hs,hsT,if_neg (by rw[hs];simp)];exact ih|true=>rw[hsT,if_pos hs]at g1 ⊢;have gy:(hgt (es.getD n noE) x).d≠0:=g1 _ (by simp);rcases ih with⟨a1,a2⟩|⟨a1,⟨a2,a3⟩,a4,a5⟩;rw[Rj hs (by rw[a2]),a1];refine .inr ⟨rfl,⟨by simp,λy hy=>?_⟩,by simp,λy hy=>?_⟩ <;> (rw[List.nil_append]at hy;obtain rfl:=List.mem_singleton.1 hy;show Fr.cmp _ _<=0;rw[Dp];exact Int.le_refl _);rw[Ol hs a1];have ga:=hg n (by omega) _ a2;have gb:=hg n (by omega) _ a4;refine .inr ⟨rfl,⟨?_,λy hy=>?_⟩,?_,λy hy=>?_⟩;rcases Ti ga gy with⟨e,_⟩|⟨e,_⟩ <;> (show Fr.min _ _ ∈ _;rw[e]);exact List.mem_append.2 (.inl a2);simp;show Fr.cmp (Fr.min _ _) _<=0;have gz:=g1 _ hy;rcases List.mem_append.1 hy with hy|hy;rcases Ti ga gy with⟨e,_⟩|⟨e,h⟩;rw[e];exact a3 _ hy;rw[e];exact Om gy ga gz h (a3 _ hy);obtain rfl:=List.mem_singleton.1 hy;rcases Ti ga gy with⟨e,h⟩|⟨e,h⟩;rw[e];exact h;rw[e,Dp];exact Int.le_refl _;rcases Tj gb gy with⟨e,_⟩|⟨e,_⟩ <;> (show Fr.max _ _ ∈ _;rw[e]);exact List.mem_append.2 (.inl a4);simp;show Fr.cmp _ (Fr.max _ _)<=0;have gz:=g1 _ hy;rcases List.mem_append.1 hy with hy|hy;rcases Tj gb gy with⟨e,_⟩|⟨e,h⟩;rw[e];exact a5 _ hy;rw[e];exact Om gz gb gy (a5 _ hy) h;obtain rfl:=List.mem_singleton.1 hy;rcases Tj gb gy with⟨e,h⟩|⟨e,h⟩;rw[e];exact h;rw[e,Dp];exact Int.le_refl _
theorem Zn{v:List V2}{x:Fr}(ha:asc (hAt v x)):SecOk (hAt v x) (DQ v x):=by
 by_cases h:(hAt v x).length=0;exact .inl ⟨List.eq_nil_of_length_eq_zero h,U7 h⟩;rw[Rk h];have at_:∀y ∈ hAt v x,∃j,j<(hAt v x).length/\y=(hAt v x).getD j Fr.none:=λy hy=>by obtain⟨j,hj,e⟩:=List.getElem_of_mem hy;exact⟨j,hj,by simp[List.getD,hj,e]⟩
 refine .inr ⟨rfl,⟨Ay (by omega),λy hy=>?_⟩,Ay (by omega),λy hy=>?_⟩;obtain⟨j,hj,rfl⟩:=at_ y hy;by_cases h0:j=0;subst h0;show Fr.cmp _ _<=0;rw[Dp];exact Int.le_refl _;exact Int.le_of_lt (Tc ha (show 0<j by omega) hj);obtain⟨j,hj,rfl⟩:=at_ y hy;by_cases h0:j=(hAt v x).length-1;rw[h0];show Fr.cmp _ _<=0;rw[Dp];exact Int.le_refl _;exact Int.le_of_lt (Tc ha (show j<(hAt v x).length-1 by omega) (by omega))
theorem NV{l:List V2}{k:Int}{e:Edg} : ∀n t,t<n->e ∈ Hq (l.getD t (0,0)) (l.getD ((t+1)%l.length) (0,0)) k->e ∈ BZ l k n
 | 0,_,h,_=>by omega|n+1,t,ht,h=>by rw[BZ];by_cases e:t=n;subst e;exact List.mem_append.2 (.inr h);exact List.mem_append.2 (.inl (NV n t (by omega) h))
theorem Ro{a b:V2}{k:Int}(h:a.1≠b.1):∃e ∈ Hq a b k,(e.a=a/\e.b=b)\/(e.a=b/\e.b=a):=by unfold Hq;by_cases h1:a.1<b.1;rw[if_pos h1];exact⟨_,List.mem_singleton.2 rfl,.inl ⟨rfl,rfl⟩⟩;rw[if_neg h1,if_pos (by omega)];exact⟨_,List.mem_singleton.2 rfl,.inr ⟨rfl,rfl⟩⟩
theorem Rp{l:List V2}(hl:AV l=true){i:Nat}(hi:i<l.length):∃e ∈ AO l 0,e.a=l.getD i (0,0)\/e.b=l.getD i (0,0):=by
 have h3:=(Aw hl).2.1;by_cases h:(l.getD i (0,0)).1=(l.getD ((i+1)%l.length) (0,0)).1;obtain⟨j,hj,a0⟩:∃j,j<l.length/\(j+1)%l.length=i:=by by_cases h0:i=0;exact⟨l.length-1,by omega,by rw[show l.length-1+1=l.length by omega,Nat.mod_self,h0]⟩;exact⟨i-1,by omega,by rw[show i-1+1=i by omega,Nat.mod_eq_of_lt hi]⟩
 have hn1:(i+1)%l.length<l.length:=Nat.mod_lt _ (by omega);have s1:=Re hi;have s2:=Re hj;have k1:(i+1)%l.length≠j:=by rw[s1];rw[s2]at a0;split at a0 <;> split <;> omega
 have k2:(i+1)%l.length≠(j+1)%l.length:=by rw[a0,s1];split <;> omega
 have ht:=WT hl hj hn1 k1 k2;rw[a0]at ht;have a2:(l.getD j (0,0)).1≠(l.getD i (0,0)).1:=λe=>by unfold Ie at ht;rw[← h,e]at ht;simp at ht
 obtain⟨e,he,a1⟩:=Ro (k:=0) a2;refine⟨e,NV _ j hj (by rw[a0];exact he),?_⟩;rcases a1 with⟨_,h2⟩|⟨h1,_⟩;exact .inr h2;exact .inl h1;obtain⟨e,he,a1⟩:=Ro (k:=0) h;refine⟨e,NV _ i hi he,?_⟩;rcases a1 with⟨h1,_⟩|⟨_,h2⟩;exact .inl h1;exact .inr h2
theorem FrS.eq{j k:Nat}{r s:Fr}{a:Rat}(hr:FrS j r a)(hs:FrS k s a):r=s:=by exact Fr.ext (by rw[hr.1,hs.1])
theorem Tk{e:Edg}(he:e.ok=true){c:V2}(hc:e.a=c\/e.b=c):spn e (Fr.ofInt c.1) (Fr.ofInt c.1)=true/\hgt e (Fr.ofInt c.1)=Fr.ofInt c.2:=by
 have hb:=Edg.bd he;have i1:-1000<=c.1/\c.1<=1000/\-1000<=c.2/\c.2<=1000:=by rcases hc with rfl|rfl <;> omega
 have xS:FrS 10 (Fr.ofInt c.1) (c.1:Rat):=FrS.int (by omega) (by decide);have aS:FrS 10 (Fr.ofInt e.a.1) (e.a.1:Rat):=FrS.int (by omega) (by decide);have bS:FrS 10 (Fr.ofInt e.b.1) (e.b.1:Rat):=FrS.int (by omega) (by decide);have h1:=FrS.sub xS aS (by decide);have h2:=FrS.mul (AB0 he) h1 (by decide);have h3:=FrS.add (FrS.int (n:=e.a.2) (k:=10) (by omega) (by decide)) h2 (by decide);have cS:FrS 10 (Fr.ofInt c.2) (c.2:Rat):=FrS.int (by omega) (by decide);constructor;unfold spn;rw[Bool.and_eq_true,decide_eq_true_eq,decide_eq_true_eq];rcases hc with rfl|rfl;refine⟨by rw[Dp];exact Int.le_refl _,?_⟩;have:=Pn (a:=e.a.1) (b:=e.b.1) (by omega) (by omega) (by omega);have hs:=ES (vd aS.1) (vd bS.1);omega;refine⟨Int.le_of_lt (Pn (by omega) (by omega) (by omega)),?_⟩;rw[Dp];exact Int.le_refl _;have hd:((e.b.1-e.a.1:Int):Rat)≠0:=ED (by omega)
 have e0:((e.a.2:Int):Rat)+((e.b.2-e.a.2:Int):Rat)/((e.b.1-e.a.1:Int):Rat)*(((c.1:Int):Rat)-((e.a.1:Int):Rat))=((c.2:Int):Rat):=by
  rcases hc with rfl|rfl;grind;have q1:((e.b.1:Int):Rat)-((e.a.1:Int):Rat)=((e.b.1-e.a.1:Int):Rat):=by rw[Rat.intCast_sub]
  have q2:((e.b.2-e.a.2:Int):Rat)=((e.b.2:Int):Rat)-((e.a.2:Int):Rat):=by rw[Rat.intCast_sub]
  rw[q1,Rat.div_mul_cancel hd,q2];grind
 rw[e0]at h3;exact h3.eq cS
theorem VE{v:List V2}{x:Fr}(hv:v.all A1=true):∀n,n<=v.length->CA (vAt v x n)/\asc (vAt v x n)/\∀y ∈ vAt v x n,∃i,i<n/\Fr.cmp (Fr.ofInt (v.getD i (0,0)).1) x=0/\y=Fr.ofInt (v.getD i (0,0)).2
 | 0,_=>⟨λy h=>(by cases h),List.Pairwise.nil,λy h=>(by cases h)⟩|n+1,h=>by obtain⟨i1,i2,i3⟩:=VE (x:=x) hv n (by omega);by_cases hc:Fr.cmp (Fr.ofInt (v.getD n (0,0)).1) x=0;have hb:=CW (List.all_eq_true.1 hv _ (Ay (d:=(0,0)) (show n<v.length by omega)));have gy:(Fr.ofInt (v.getD n (0,0)).2).d≠0:=LQ (by omega);rw[AAS hc];refine⟨KZ gy i1,Jm gy i1 i2,λy hy=>?_⟩;rcases(GE gy i1).1 hy with rfl|hy;exact⟨n,by omega,hc,rfl⟩;obtain⟨i,j1,j2⟩:=i3 y hy;exact⟨i,by omega,j2⟩;rw[AAT hc];refine⟨i1,i2,λy hy=>?_⟩;obtain⟨i,j1,j2⟩:=i3 y hy;exact⟨i,by omega,j2⟩
theorem VF{es:List Edg}{x:Fr}{l:List Fr}(hg:∀n,n<=es.length->CA (hsT es x n))(h1:CA l)(h2:asc l):∀n,n<=es.length->CA (eAt es x l n)/\asc (eAt es x l n)/\∀y,y ∈ eAt es x l n<->y ∈ l\/y ∈ hsT es x n
 | 0,_=>⟨h1,h2,λy=>by simp[eAt,hsT]⟩|n+1,hn=>by
  obtain⟨i1,i2,i3⟩:=VF hg h1 h2 n (by omega);have g1:=hg (n+1) hn;cases hs:spn (es.getD n noE) x x with|false=>rw[AAV hs,hsT,if_neg (by rw[hs];simp)];exact⟨i1,i2,i3⟩|true=>rw[hsT,if_pos hs]at g1;have gy:(hgt (es.getD n noE) x).d≠0:=g1 _ (by simp);rw[AAU hs,hsT,if_pos hs];refine⟨KZ gy i1,Jm gy i1 i2,λy=>?_⟩;rw[GE gy i1,i3 y];simp only[List.mem_append,List.mem_singleton];constructor;rintro (h|h|h);exact .inr (.inr h);exact .inl h;exact .inr (.inl h);rintro (h|h|h);exact .inr (.inl h);exact .inr (.inr h);exact .inl h
theorem Rq{v:List V2}(hv:AV v=true){x:Fr}{p:Rat}(hx:FrS 200 x p){n:Nat}(hn:n<=(AO v 0).length):CA (hsT (AO v 0) x n):=λy hy=>by obtain⟨k,k1,-,rfl⟩:=Py.1 hy;obtain⟨q,hq⟩:=ACx (IW hv (show k<(AO v 0).length by omega)) hx;exact vd hq.1
theorem Kf{es:List Edg}{k:Nat}(h:k<es.length):es.getD k noE=es[k]:=by simp[List.getD,h]
theorem ABM{v:List V2}(hv:AV v=true){x:Fr}{p:Rat}(hx:FrS 200 x p):GI v x=DQ v x:=by have hg:∀n,n<=(AO v 0).length->CA (hsT (AO v 0) x n):=λn hn=>Rq hv hx hn;obtain⟨a1,a2,a3⟩:=VE (x:=x) (Aw hv).1 v.length (Nat.le_refl _);obtain⟨b1,b2,b3⟩:=VF hg a1 a2 (AO v 0).length (Nat.le_refl _);refine SecOk.uniq (hg _ (Nat.le_refl _)) (λy=>?_) (Pz hg _ (Nat.le_refl _)) (Zn b2);rw[b3 y];refine⟨.inr,λh=>?_⟩;rcases h with h|h;obtain⟨i,i1,i2,rfl⟩:=a3 y h;have hb:=CW (List.all_eq_true.1 (Aw hv).1 _ (Ay (d:=(0,0)) i1));have ex:Fr.ofInt (v.getD i (0,0)).1=x:=FX (LQ (by omega)) (vd hx.1) i2;obtain⟨e,he,hc⟩:=Rp hv i1;obtain⟨k,hk,rfl⟩:=List.getElem_of_mem he;have a0:=IW hv hk;rw[Kf hk]at a0;obtain⟨s1,s2⟩:=Tk a0 hc;rw[ex]at s1 s2;exact Py.2 ⟨k,hk,by rw[Kf hk];exact s1,by rw[Kf hk];exact s2.symm⟩;exact h
theorem NW{ls:List (List V2)}(hl:A0 ls=true){x:Fr}{p:Rat}(hx:FrS 200 x p):∀k,k<=ls.length->∀b ∈ wsT ls x k,b.l.d≠0
 | 0,_,b,hb=>by cases hb|k+1,hk,b,hb=>by rcases List.mem_append.1 hb with hb|hb;exact NW hl hx k (by omega) b hb;unfold wsO at hb;split at hb;rename_i hc;obtain rfl:=List.mem_singleton.1 hb;have hv:=Cp hl (show k<ls.length by omega);have hg:∀n,n<=(AO (ls.getD k []) 0).length->CA (hsT (AO (ls.getD k []) 0) x n):=λn hn=>Rq hv hx hn;rcases Pz hg _ (Nat.le_refl _)with⟨_,h2⟩|⟨_,⟨h2,_⟩,_⟩;rw[show GI (ls.getD k []) x=_ from h2]at hc;cases hc;exact hg _ (Nat.le_refl _) _ h2;cases hb
theorem Yg(l:List Brd)(n:Nat)(c:Nat->Nat->Int)(J:List Nat)(hc:∀x ∈ J,(c n x<0<->¬Fr.cmp (l.getD x zB).l (l.getD n zB).l<=0)):Nj (J.map λi=>l.getD i zB) (l.getD n zB)=(YX c n J).map λi=>l.getD i zB:=by
 induction J with|nil=>rfl|cons x J ih=>have h0:=hc x (List.mem_cons_self ..);show(if _ then _ else _:List Brd)=List.map _ (if _ then _ else _);by_cases h:c n x<0;rw[if_pos h,if_neg (h0.1 h)];rfl;rw[if_neg h,if_pos (Decidable.not_not.1 λq=>h (h0.2 q)),ih λy hy=>hc y (List.mem_cons_of_mem _ hy)];rfl
theorem Tl{l:List Brd}(hg:∀x ∈ l,x.l.d≠0):l.foldl Nj []=LR (λx:Brd=>x.l) zB l:=by
 by_cases h0:l=[];subst h0;exact(List.eq_nil_of_length_eq_zero (Oi _ _ _)).symm;have hp:0<l.length:=List.length_pos_iff.2 h0;have hc:=Rb (key:=λx:Brd=>x.l) (d0:=zB) hg hp
 have key:∀n,n<=l.length->(l.take n).foldl Nj []=(Tb (Ra (λx:Brd=>x.l) zB l) n).map λi=>l.getD i zB:=by
  intro n;induction n with
  |zero=>intro _;simp[Tb]|succ n ih=>
   intro hn;have e:l.take (n+1)=l.take n++[l.getD n zB]:=by rw[List.take_succ_eq_append_getElem (by omega)];simp[List.getD,show n<l.length by omega]
   rw[e,List.foldl_append,ih (by omega)];show Nj _ _=_;refine Yg l n _ _ λx hx=>?_;have a0:x<l.length:=by have:=Uz hx;omega
   have s:=ES (hg _ (Ay (d:=zB) (show n<l.length by omega))) (hg _ (Ay (d:=zB) a0));unfold Ra;rw[TY (show n<l.length by omega),TY a0];dsimp only;omega
 have:=key l.length (Nat.le_refl _);rw[List.take_length]at this;rw[this,WU hc];rfl
theorem Rr{ls:List (List V2)}(hl:A0 ls=true){x:Fr}{p:Rat}(hx:FrS 200 x p):∀k,k<=ls.length->wsI ls x k=(wsT ls x k).foldl Nj []
 | 0,_=>rfl|k+1,hk=>by rw[wsT,List.foldl_append,← Rr hl hx k (by omega),wsI,← ABM (Cp hl (show k<ls.length by omega)) hx];unfold wsO;split <;> rfl
theorem Zo{ls:List (List V2)}(hl:A0 ls=true){x:Fr}{p:Rat}(hx:FrS 200 x p):wsI ls x ls.length=bsS ls x:=by rw[Rr hl hx _ (Nat.le_refl _)];exact Tl (NW hl hx _ (Nat.le_refl _))
set_option maxRecDepth 100000
open Go.RowKit
def wlP(ev:List Fr)(n:Bool)(m d:List (List Dat)):Prop:=1<=slI ev n m d/\slI ev n m d+1<(ev.length:Int)
instance (ev:List Fr)(n:Bool)(m d:List (List Dat)):Decidable (wlP ev n m d):=by unfold wlP;infer_instance
def wlR(ev:List Fr)(n:Bool)(m d:List (List Dat))(ly hy:Int)(ls:List (List V2)):List Wl:=if wlP ev n m d then wls (slA ev n m d) (Fr.ofInt hy) (Fr.ofInt ly) (bsS ls (slA ev n m d))else[]
theorem Tm{ev:List Fr}{n:Bool}{m d:List (List Dat)}{ly hy:Int}{ls:List (List V2)}(h:¬wlP ev n m d):wlR ev n m d ly hy ls=[]:=by unfold wlR;rw[if_neg h]
theorem VG{ev:List Fr}{n:Bool}{m d:List (List Dat)}{ly hy:Int}{ls:List (List V2)}(h:wlP ev n m d):wlR ev n m d ly hy ls=wls (slA ev n m d) (Fr.ofInt hy) (Fr.ofInt ly) (bsS ls (slA ev n m d)):=by unfold wlR;rw[if_pos h]
theorem VH{lx ly hx hy:Int}{ls:List (List V2)}{n:Bool}{m d:List (List Dat)}(hl:-9223372036854775808<=lx/\lx<=9223372036854775807)(hh:-9223372036854775808<=hx/\hx<=9223372036854775807)(h:wlP (evR lx ly hx hy ls) n m d):A0 ls=true/\∃p,FrS 200 (slA (evR lx ly hx hy ls) n m d) p:=by obtain⟨h1,p,q,h2,_⟩:=Zl (n:=n) (m:=m) (d:=d) hl hh (by have:=h.1;omega) h.2;exact⟨h1,p,h2⟩
def B4:Con:={ι:=Int×Int×Int×Int×(List (List V2))×Bool×(List (List Dat))×(List (List Dat)),pre:=λi=>(i.2.2.2.2.1.length<=1048576/\ER i.2.2.2.2.1 i.2.2.2.2.1.length<=1048576/\(-9223372036854775808<=i.1/\i.1<=9223372036854775807)/\(-9223372036854775808<=i.2.1/\i.2.1<=9223372036854775807)/\(-9223372036854775808<=i.2.2.1/\i.2.2.1<=9223372036854775807)/\(-9223372036854775808<=i.2.2.2.1/\i.2.2.2.1<=9223372036854775807))/\DZ i.2.2.2.2.2.2.1 i.2.2.2.2.2.2.2,args:=λi=>[DA.agg [cI i.1,cI i.2.1,cI i.2.2.1,cI i.2.2.2.1],.one (DC.sl 66 [.sl 36 [.int,.int]] (AN i.2.2.2.2.1)),DA.agg [cB i.2.2.2.2.2.1,cS i.2.2.2.2.2.2.1,cS i.2.2.2.2.2.2.2]],res:=λi=>⟨false,[none],[.own 81 [.bool,.sl 3 [.int],.sl 3 [.int],.bool,.sl 3 [.int],.sl 3 [.int],.bool,.sl 3 [.int],.sl 3 [.int]] (Bs (wlR (evR i.1 i.2.1 i.2.2.1 i.2.2.2.1 i.2.2.2.2.1) i.2.2.2.2.2.1 i.2.2.2.2.2.2.1 i.2.2.2.2.2.2.2 i.2.1 i.2.2.2.1 i.2.2.2.2.1))]⟩}
theorem Rs:B4.Ok Tryz.prog 20:=by
 refine fok (X:=⟨tt,[(34,EG),(35,Gv),(48,FC)],[],28,[]⟩) mixed AG (CTok.cons Pr (CTok.cons WX (CTok.cons Wb (CTok.nil _)))) Tryz.func20 (λ_=>[]) ?_;rintro⟨lx,ly,hx,hy,ls,n,m,d⟩ a0;have a0:(ls.length<=1048576/\ER ls ls.length<=1048576/\(-9223372036854775808<=lx/\lx<=9223372036854775807)/\(-9223372036854775808<=ly/\ly<=9223372036854775807)/\(-9223372036854775808<=hx/\hx<=9223372036854775807)/\(-9223372036854775808<=hy/\hy<=9223372036854775807))/\DZ m d:=a0;refine AH (q:=let Z4:=DC.sl 66 [.sl 36 [.int,.int]] (AN ls);let Z1:=wlR (evR lx ly hx hy ls) n m d ly hy ls;let Z5:=(([]:List (List Dat))=Bs Z1);∃i1:Int×Int×Int×Int×(List (List V2)),let Z2:=AC (evR i1.1 i1.2.1 i1.2.2.1 i1.2.2.2.1 i1.2.2.2.2);[DA.agg [cI lx,cI ly,cI hx,cI hy],DA.one Z4]=EG.args i1/\EG.pre i1/\(∃i2:(List Fr)×Bool×(List (List Dat))×(List (List Dat)),let Z3:=Do (λr=>eqX r i2.2.1 i2.2.2.1 i2.2.2.2) i2.1;[DA.one (DC.sl 44 z30 Z2),DA.agg [cB n,cS m,cS d]]=Gv.args i2/\Gv.pre i2/\(ifB ((!(decide (Z3<(1:Int))))) (ifB ((Z3 == (wR ((nI (Z2.length))-(1:Int))))) Z5 (∃i3:Int×Int×Int×Int×(List (List V2))×Fr,[DA.agg [cI lx,cI ly,cI hx,cI hy],DA.one Z4,DA.agg [cB n,cS m,cS d]]=FC.args i3/\FC.pre i3/\((Bs (wls i3.2.2.2.2.2 (Fr.ofInt i3.2.2.2.1) (Fr.ofInt i3.2.1) (bsS i3.2.2.2.2.1 i3.2.2.2.2.2))=Bs Z1)))) Z5))) (by kernel_rfl) ?_;conv=>zeta
 delta ifB wR nI;have hev:=Ri (lx:=lx) (ly:=ly) (hx:=hx) (hy:=hy) a0.1.1 a0.1.2.1;have hfl:=Ao (evR lx ly hx hy ls);obtain⟨hi1,hi2,hi3⟩:=Rh (p:=λr=>eqX r n m d) (l:=(evR lx ly hx hy ls)) (d:=Fr.none);have a1:Do (λr=>eqX r n m d) (evR lx ly hx hy ls)=(slI (evR lx ly hx hy ls) n m d):=rfl;have hw1:IntKind.i64.wrap ((((AC (evR lx ly hx hy ls)).length:Nat):Int)-(1:Int))=(((AC (evR lx ly hx hy ls)).length:Nat):Int)-1:=AB (by omega) (by omega);have hw2:IntKind.i64.wrap ((((AC (evR lx ly hx hy ls)).length:Nat):Int)-(2:Int))=(((AC (evR lx ly hx hy ls)).length:Nat):Int)-2:=AB (by omega) (by omega)
 refine⟨(lx,ly,hx,hy,ls),by
  rfl,by
  exact a0.1,?_⟩
 refine⟨((evR lx ly hx hy ls),n,m,d),by
  rfl,by
  show(evR lx ly hx hy ls).length<=2000000000000/\DZ m d;exact⟨by omega,a0.2⟩,?_⟩
 refine And.symm ⟨λc7=>?_,λc7=>?_⟩;simp only[nrm]at c7;have hE:wlR (evR lx ly hx hy ls) n m d ly hy ls=[]:=Tm (λh=>by have q1:=h.1;have q2:=h.2;rw[← a1]at q1 q2;omega);rw[hE];rfl;simp only[nrm]at c7;refine⟨λc8=>?_,λc8=>?_⟩;simp only[nrm]at c8;rw[hw1]at c8;have hE:wlR (evR lx ly hx hy ls) n m d ly hy ls=[]:=Tm (λh=>by have q1:=h.1;have q2:=h.2;rw[← a1]at q1 q2;omega);rw[hE];rfl;simp only[nrm]at c8;rw[hw1]at c8;have a2:wlP (evR lx ly hx hy ls) n m d:=⟨by rw[← a1];omega,by rw[← a1];omega⟩;have hE:=VG (ly:=ly) (hy:=hy) (ls:=ls) a2;obtain⟨e1,e2,e3⟩:n=decide ((slA (evR lx ly hx hy ls) n m d).z<0)/\m=L (slA (evR lx ly hx hy ls) n m d).z.natAbs/\d=L (slA (evR lx ly hx hy ls) n m d).d:=U5 a0.2 (hi3 (by omega));obtain⟨a3,p,hp⟩:=VH a0.1.2.2.1 a0.1.2.2.2.2.1 a2
 refine⟨(lx,ly,hx,hy,ls,(slA (evR lx ly hx hy ls) n m d)),by
  generalize (slA (evR lx ly hx hy ls) n m d)=A at e1 e2 e3 ⊢;rw[e1,e2,e3];rfl,by
  try dsimp only[FC]
  exact⟨⟨a3,a0.1.1,NW a3 hp ls.length (Nat.le_refl _)⟩,a0.1.2.2.2.1,a0.1.2.2.2.2.2⟩,?_⟩
 rw[hE]
def Dr:Con:={ι:=Int×Int×Int×Int×(List (List V2))×Bool×(List (List Dat))×(List (List Dat)),pre:=λi=>(i.2.2.2.2.1.length<=1048576/\ER i.2.2.2.2.1 i.2.2.2.2.1.length<=1048576/\(-9223372036854775808<=i.1/\i.1<=9223372036854775807)/\(-9223372036854775808<=i.2.1/\i.2.1<=9223372036854775807)/\(-9223372036854775808<=i.2.2.1/\i.2.2.1<=9223372036854775807)/\(-9223372036854775808<=i.2.2.2.1/\i.2.2.2.1<=9223372036854775807))/\DZ i.2.2.2.2.2.2.1 i.2.2.2.2.2.2.2,args:=λi=>[DA.agg [cI i.1,cI i.2.1,cI i.2.2.1,cI i.2.2.2.1],.one (DC.sl 66 [.sl 36 [.int,.int]] (AN i.2.2.2.2.1)),DA.agg [cB i.2.2.2.2.2.1,cS i.2.2.2.2.2.2.1,cS i.2.2.2.2.2.2.2]],res:=λi=>⟨false,[none],[.own 81 [.bool,.sl 3 [.int],.sl 3 [.int],.bool,.sl 3 [.int],.sl 3 [.int],.bool,.sl 3 [.int],.sl 3 [.int]] (Bs (wlR (evR i.1 i.2.1 i.2.2.1 i.2.2.2.1 i.2.2.2.2.1) i.2.2.2.2.2.1 i.2.2.2.2.2.2.1 i.2.2.2.2.2.2.2 i.2.1 i.2.2.2.1 i.2.2.2.2.1))]⟩}
theorem Rt:Dr.Ok Tryz.prog 19:=by
 refine fok (X:=⟨tt,[(27,EF),(28,Gw),(46,Ca),(47,FD)],[],23,[]⟩) mixed AG (CTok.cons Pp (CTok.cons WY (CTok.cons Mi (CTok.cons Wc (CTok.nil _))))) Tryz.func19 (λ_=>[]) ?_;rintro⟨lx,ly,hx,hy,ls,n,m,d⟩ a0;have a0:(ls.length<=1048576/\ER ls ls.length<=1048576/\(-9223372036854775808<=lx/\lx<=9223372036854775807)/\(-9223372036854775808<=ly/\ly<=9223372036854775807)/\(-9223372036854775808<=hx/\hx<=9223372036854775807)/\(-9223372036854775808<=hy/\hy<=9223372036854775807))/\DZ m d:=a0;refine AH (q:=let Z3:=wlR (evR lx ly hx hy ls) n m d ly hy ls;let Z2:=DC.sl 66 [.sl 36 [.int,.int]] (AN ls);∃i1:Int×Int×Int×Int×(List (List V2)),let Z1:=AC (evR i1.1 i1.2.1 i1.2.2.1 i1.2.2.2.1 i1.2.2.2.2);[DA.agg [cI lx,cI ly,cI hx,cI hy],DA.one Z2]=EF.args i1/\EF.pre i1/\(∃i2:(List Fr)×Bool×(List (List Dat))×(List (List Dat)),[DA.one (DC.sl 44 z30 Z1),DA.agg [cB n,cS m,cS d]]=Gw.args i2/\Gw.pre i2/\(∃i3:Int×Int×Int,[DA.one (cI (Do (λr=>eqX r i2.2.1 i2.2.2.1 i2.2.2.2) i2.1)),DA.one (cI (1:Int)),DA.one (cI (wR ((nI (Z1.length))-(2:Int))))]=Ca.args i3/\Ca.pre i3/\(ifB ((!(decide (i3.1>=i3.2.1) && decide (i3.1<=i3.2.2)))) ((([]:List (List Dat))=Bs Z3)) (∃i4:Int×Int×Int×Int×(List (List V2))×Fr,[DA.agg [cI lx,cI ly,cI hx,cI hy],DA.one Z2,DA.agg [cB n,cS m,cS d]]=FD.args i4/\FD.pre i4/\((Bs (wls i4.2.2.2.2.2 (Fr.ofInt i4.2.2.2.1) (Fr.ofInt i4.2.1) (wsI i4.2.2.2.2.1 i4.2.2.2.2.2 i4.2.2.2.2.1.length))=Bs Z3))))))) (by kernel_rfl) ?_;conv=>zeta
 delta ifB wR nI;have hev:=Ri (lx:=lx) (ly:=ly) (hx:=hx) (hy:=hy) a0.1.1 a0.1.2.1;have hfl:=Ao (evR lx ly hx hy ls);obtain⟨hi1,hi2,hi3⟩:=Rh (p:=λr=>eqX r n m d) (l:=(evR lx ly hx hy ls)) (d:=Fr.none);have a2:Do (λr=>eqX r n m d) (evR lx ly hx hy ls)=(slI (evR lx ly hx hy ls) n m d):=rfl;have hw1:IntKind.i64.wrap ((((AC (evR lx ly hx hy ls)).length:Nat):Int)-(1:Int))=(((AC (evR lx ly hx hy ls)).length:Nat):Int)-1:=AB (by omega) (by omega);have hw2:IntKind.i64.wrap ((((AC (evR lx ly hx hy ls)).length:Nat):Int)-(2:Int))=(((AC (evR lx ly hx hy ls)).length:Nat):Int)-2:=AB (by omega) (by omega)
 refine⟨(lx,ly,hx,hy,ls),by
  rfl,by
  exact a0.1,?_⟩
 refine⟨((evR lx ly hx hy ls),n,m,d),by
  rfl,by
  show(evR lx ly hx hy ls).length<=2000000000000/\DZ m d;exact⟨by omega,a0.2⟩,?_⟩
 refine⟨((Do (λr=>eqX r n m d) (evR lx ly hx hy ls)),(1:Int),(IntKind.i64.wrap ((((AC (evR lx ly hx hy ls)).length:Nat):Int)-(2:Int)))),by
  rfl,by
  trivial,?_⟩
 refine⟨λa1=>?_,λa1=>?_⟩;try dsimp only at a1
 simp only[nrm]at a1;rw[hw2]at a1;have hE:wlR (evR lx ly hx hy ls) n m d ly hy ls=[]:=Tm (λh=>by have q1:=h.1;have q2:=h.2;rw[← a2]at q1 q2;omega);rw[hE];rfl;try dsimp only at a1
 simp only[nrm]at a1;rw[hw2]at a1;have a3:wlP (evR lx ly hx hy ls) n m d:=⟨by rw[← a2];omega,by rw[← a2];omega⟩;have hE:=VG (ly:=ly) (hy:=hy) (ls:=ls) a3;obtain⟨e1,e2,e3⟩:n=decide ((slA (evR lx ly hx hy ls) n m d).z<0)/\m=L (slA (evR lx ly hx hy ls) n m d).z.natAbs/\d=L (slA (evR lx ly hx hy ls) n m d).d:=U5 a0.2 (hi3 (by omega));obtain⟨a4,p,hp⟩:=VH a0.1.2.2.1 a0.1.2.2.2.2.1 a3
 refine⟨(lx,ly,hx,hy,ls,(slA (evR lx ly hx hy ls) n m d)),by
  generalize (slA (evR lx ly hx hy ls) n m d)=A at e1 e2 e3 ⊢;rw[e1,e2,e3];rfl,by
  try dsimp only[FD]
  exact⟨⟨a4,a0.1.1,hp.good⟩,a0.1.2.2.2.1,a0.1.2.2.2.2.2⟩,?_⟩
 rw[hE,Zo a4 hp]
attribute [local go_sem ↓] Go.wp_at_zero Go.wp_at_succ
set_option maxHeartbeats 4000000 in
theorem Ru(ls:List (List Dat))(v u:Value)(w:World)(h:Rd w (.sl 3 [.int]) (.sl ls) v)(h' : Rd w (.sl 3 [.int]) (.sl ls) u) :
 Calls Tryz.prog 41 #[v,u] w λe w'=>e=.returned (.bool true)/\Below w.heap.size w w':=by
 obtain⟨a,cap,rfl,hl,hc,a1⟩:=h.open;obtain⟨a',cap',rfl,hl',hc',a0⟩:=h'.open;have HC:=Lib.hid a1;have HC':=Lib.hid a0;clear a1 h a0 h';go_enter Tryz.func41,Tryz.ntmps41;go_wp2;go_loopw [5] (λi wr=>∃k:Nat,k<=ls.length/\i=.int .i64 k/\Below w.heap.size w wr) (λi _=>ls.length-(intOf i).toNat);case atStart=>exact⟨0,Nat.zero_le _,rfl,Below.refl _ _⟩
 case round=>
  obtain⟨k,hk,rfl,hb⟩:=hrel;by_cases a7:k<ls.length
  ·obtain⟨b,off,row,rfl,a9,a8,a4⟩:=HC.out k a7
   obtain⟨b',off',row',rfl,a6,a5,a2⟩:=HC'.out k a7;generalize ls.getD k []=ld at a4 a2;obtain⟨pd,pds,pv,pvs,rfl,rfl,ph,a3⟩:=RdRow.cons_inv a4;obtain⟨px0,rfl,rfl⟩:=Rd.int_inv ph;obtain⟨rfl,rfl⟩:=RdRow.nil_inv a3;obtain⟨qv,qvs,rfl,qh,hrow'_0⟩:=RdRow.cons2 a2;obtain rfl:=Rd.int2 qh;obtain⟨-,rfl⟩:=RdRow.nil_inv hrow'_0;have d0:wr.cell? ⟨b,off+k,none⟩=some (.int .i64 px0):=(hb.cell (p:=⟨b,_,none⟩) a9).trans (by have q:=a8 0 (by decide);simpa[Nat.add_assoc]using q);have d'0:wr.cell? ⟨b',off' + k,none⟩=some (.int .i64 px0):=(hb.cell (p:=⟨b',_,none⟩) a6).trans (by have q:=a5 0 (by decide);simpa[Nat.add_assoc]using q);have HB:=Lib.hid hb;have T9:=hb.size;clear a8 a5 hb;go_wp2;go_region
   all_goals
    go_wp2
    go_roundw
    case rel=>exact⟨k+1,by omega,by go_num,by first|exact HB.out|exact HB.out.drew⟩
    case measure=>simp[intOf];omega
  ·have HB:=Lib.hid hb
   clear hb;go_wp2;go_ret;exact⟨rfl,HB.out⟩
theorem Yh:∃bytes,bytes<=1024/\ElemT Tryz.prog 27 3 1 bytes:=by
 cases hi:Tryz.prog.info? 3 with
 |none=>exact absurd hi (by
  have:(Tryz.prog.info? 3).isSome=true:=by kernel_rfl
  intro h;rw[h]at this;cases this)
 |some i=>
  have h1:(Tryz.prog.info? 3).map (λi=>i.zero)=some (some ((.int .i64 0))):=by kernel_rfl
  have h2:(Tryz.prog.info? 3).map (λi=>i.size)=some 1:=by kernel_rfl
  have h3:(Tryz.prog.info? 3).map (λi=>decide (i.bytes<=1024))=some true:=by kernel_rfl
  rw[hi]at h1 h2 h3;simp only[Option.map_some,Option.some.injEq,decide_eq_true_eq]at h1 h2 h3;exact⟨i.bytes,h3,Tryz.underlying27,⟨i,_,hi,h1,h2,rfl,rfl⟩,by decide⟩
set_option maxHeartbeats 4000000 in
theorem Rv(ls:List (List Dat))(a9:ls.length+Aa ls<=1048576)(v:Value)(w:World)(h:Rd w (.sl 3 [.int]) (.sl ls) v) :
 Calls Tryz.prog 33 #[v] w λe w'=>∃u:Value,e=.returned u/\Own w' w.heap.size w'.heap.size [.sl 3 [.int]] [.sl ls] [u]/\Below w.heap.size w w':=by
 obtain⟨a,cap,rfl,hl,hc,a0⟩:=h.open;have HC:=Lib.hid a0;clear a0 h;have aC:ls.length<=1048576:=by omega
 have HZ:=Lib.hid a9;clear a9;obtain⟨bytes,a6,hE⟩:=Yh;obtain⟨i,z,hi,hz,hs1,aD,aE⟩:=hE.info;obtain⟨C,hCs,aF⟩:∃C:Array Value,C.size=ls.length*1/\∀W:World,(Instr.makeSlice 27 (.int .i64 (ls.length:Int)) (.int .i64 (ls.length:Int))).run Tryz.prog W=.ok (.slice (some ⟨W.heap.size,0,none⟩) ls.length ls.length) (W.alloc (.cells C 3)):=by refine⟨madeCells z.cells (ls.length*i.size),by rw[size_madeCells,hs1],λW=>?_⟩;have hbb:ls.length*i.bytes<=1048576*1024:=Nat.mul_le_mul aC (by omega);have hbc:=Nat.mul_comm ls.length i.bytes;have:=run_make (P:=Tryz.prog) W 27 3 i z hE.slice hi hz .i64 .i64 ls.length ls.length (by omega) (Int.le_refl _) (by omega) (by omega);simpa using this
 have a1:(w.alloc (.cells C 3)).ownsRow w.heap.size 3 1 (.slice (some ⟨w.heap.size,0,none⟩) ls.length ls.length) ls.length C.toList:=World.ownsRow_lit w _ ls.length (Nat.le_refl _) (by unfold maxLen;omega) hCs;have HO0:=Lib.hid (Part.zero (ts:=[.int]) (ls:=ls) a1);clear a1 hi hz hs1 aD aE hCs hE a6;go_enter Tryz.func33,Tryz.ntmps33;go_wp2;clear aF;go_loopw [4] (λi wr=>∃k:Nat,k<=ls.length/\i=.int .i64 k/\Part wr w.heap.size 3 [.int] (.slice (some ⟨w.heap.size,0,none⟩) ls.length ls.length) ls.length k ls/\Below w.heap.size w wr) (λi _=>ls.length-(intOf i).toNat);case atStart=>exact⟨0,Nat.zero_le _,rfl,HO0.out,(Below.refl _ _).alloc (Nat.le_refl _) _⟩
 case round=>
  clear HO0;obtain⟨k,hk,rfl,hp,hb⟩:=hrel;by_cases a7:k<ls.length
  ·obtain⟨b,off,row,rfl,aG,aA,a3⟩:=HC.out k a7
   have a4:=G9 a7;obtain⟨ld,a8⟩:∃ld,ls.getD k []=ld:=⟨_,rfl⟩;rw[a8]at a3 a4;obtain⟨pd,pds,pv,pvs,rfl,rfl,ph,a2⟩:=RdRow.cons_inv a3;obtain⟨px0,rfl,rfl⟩:=Rd.int_inv ph;obtain⟨rfl,rfl⟩:=RdRow.nil_inv a2;have d0:wr.cell? ⟨b,off+k,none⟩=some (.int .i64 px0):=(hb.cell (p:=⟨b,_,none⟩) aG).trans (by have q:=aA 0 (by decide);simpa[Nat.add_assoc]using q);simp only[Ae,Dat.sz]at a4;have HSN:=Lib.hid a4;have HLD:=Lib.hid a8;have HP:=Lib.hid hp;have HB:=Lib.hid hb;have T9:=hb.size;have hgs:w.heap.size<wr.heap.size:=(by obtain⟨xs,q⟩:=HP.out.owns;exact(World.ownsRow.lt q _ rfl).2);clear a8 a4 aA hb hp;have HP1:=Lib.hid (Part.below HP.out (Below.refl _ _));obtain⟨xs,a5⟩:=HP.out.owns;have OW:Hid (Own wr wr.heap.size wr.heap.size [.int] [.int px0] [.int .i64 px0]):=Own.leaf (Fp.mk_int _);obtain⟨old0,hd0⟩:∃u,wr.cell? ⟨w.heap.size,k,none⟩=some u:=(by rw[a5.cellAt (k) (by simp only[List.length_cons,List.length_nil];omega)];exact⟨_,List.getElem?_eq_getElem (by have:=a5.1;simp only[List.length_cons,List.length_nil]at this;omega)⟩);have hf0:=a5.frozenAt (k);have ST:=Part.step (cs:=[.int .i64 px0]) HP.out (Below.refl _ _) a7 (by rw[HLD.out];exact OW.out) (by omega);have SB:=(HB.out).trans (OnlyIn.below (B:=w.heap.size) (Et w.heap.size [.int .i64 px0] wr (k*1)) (λb hb=>by subst hb;exact Nat.le_refl _) (by omega));simp only[stN,List.length_cons,List.length_nil,Nat.reduceAdd,Nat.mul_one]at ST;simp only[stN,Nat.mul_one]at SB;have HST:=Lib.hid ST;have HSB:=Lib.hid SB;clear ST SB a5;go_wp2;go_roundw;case rel=>exact⟨k+1,by omega,by go_num,HST.out,HSB.out⟩
   case measure=>simp[intOf];omega
  ·have aB:k=ls.length:=by omega
   have HF:=Lib.hid (Part.done hp aB);have HB:=Lib.hid hb;clear hp hb aB;go_wp2;go_ret;exact⟨_,rfl,HF.out,HB.out⟩
attribute [local go_sem ↓] Go.wp_at_zero Go.wp_at_succ
set_option maxHeartbeats 4000000 in
theorem Tn(ds:List Dat)(vs us:List Value)(w:World)(h:RdRow w [.bool,.sl 3 [.int]] ds vs)(h' : RdRow w [.bool,.sl 3 [.int]] ds us) :
 Calls Tryz.prog 40 #[.agg vs.toArray,.agg us.toArray] w λe w'=>e=.returned (.bool true)/\Below w.heap.size w w':=by
 obtain⟨pd,pds,pv,pvs,rfl,rfl,ph,a0⟩:=RdRow.cons_inv h;obtain⟨px0,rfl,rfl⟩:=Rd.bool_inv ph;obtain⟨pd,pds,pv,pvs,rfl,rfl,ph,a1⟩:=RdRow.cons_inv a0;obtain⟨pl1,pa1,pc1,rfl,rfl,pe1,pf1,pr1⟩:=Rd.sl_inv ph;obtain⟨rfl,rfl⟩:=RdRow.nil_inv a1;obtain⟨qv,qvs,rfl,qh,h'_0⟩:=RdRow.cons2 h';obtain rfl:=Rd.bool2 qh;obtain⟨qv,qvs,rfl,qh,h'_1⟩:=RdRow.cons2 h'_0;obtain⟨qa1,qc1,rfl,qe1,qf1,qr1⟩:=Rd.sl2 qh;obtain⟨-,rfl⟩:=RdRow.nil_inv h'_1;have H1:=Lib.hid pr1;have G1:=Lib.hid qr1;clear pr1 qr1;go_enter Tryz.func40,Tryz.ntmps40;go_wp2_with fail;refine(Ru pl1 _ _ _ (Rd.below (by(with_reducible repeat (first|exact Below.refl _ _|assumption|refine Below.drew ?_|refine Below.setCell ?_ ?_ _|refine Below.alloc ?_ ?_ _));all_goals first|(simp;done)|(simp;omega)|omega) _ _ _ H1.out) (Rd.below (by(with_reducible repeat (first|exact Below.refl _ _|assumption|refine Below.drew ?_|refine Below.setCell ?_ ?_ _|refine Below.alloc ?_ ?_ _));all_goals first|(simp;done)|(simp;omega)|omega) _ _ _ G1.out)).mono ?_;rintro e w1 ⟨rfl,h1⟩;have B1:Below w.heap.size w w1:=Below.trans (by(with_reducible repeat (first|exact Below.refl _ _|assumption|refine Below.drew ?_|refine Below.setCell ?_ ?_ _|refine Below.alloc ?_ ?_ _));all_goals first|(simp;done)|(simp;omega)|omega) (h1.mono (by first|(simp;done)|(simp;omega)|omega));have S1:=h1.size;have T1:=B1.size;try simp at S1
 obtain⟨k1,f1⟩:=Es h1;try simp at k1
 try simp at f1
 have Hc1:=Lib.hid h1;clear h1;have u1_0:w.heap.size<w1.heap.size:=by omega
 have u1_1:w.heap.size+1<w1.heap.size:=by omega
 go_wp2;go_ret;exact⟨rfl,(by(with_reducible repeat (first|exact Below.refl _ _|assumption|refine Below.drew ?_|refine Below.setCell ?_ ?_ _|refine Below.alloc ?_ ?_ _));all_goals first|(simp;done)|(simp;omega)|omega)⟩
set_option maxHeartbeats 4000000 in
theorem To(ds:List Dat)(a0:Ae ds<=1048576)(vs:List Value)(w:World)(h:RdRow w [.bool,.sl 3 [.int]] ds vs) :
 Calls Tryz.prog 32 #[.agg vs.toArray] w λe w'=>∃us:List Value,e=.returned (.agg us.toArray)/\Own w' w.heap.size w'.heap.size [.bool,.sl 3 [.int]] ds us/\Below w.heap.size w w':=by
 obtain⟨pd,pds,pv,pvs,rfl,rfl,ph,a2⟩:=RdRow.cons_inv h;obtain⟨px0,rfl,rfl⟩:=Rd.bool_inv ph;obtain⟨pd,pds,pv,pvs,rfl,rfl,ph,a3⟩:=RdRow.cons_inv a2;obtain⟨pl1,pa1,pc1,rfl,rfl,pe1,pf1,pr1⟩:=Rd.sl_inv ph;obtain⟨rfl,rfl⟩:=RdRow.nil_inv a3;have H1:=Lib.hid pr1;clear pr1;simp only[Ae,Dat.sz]at a0;have HZ:=Lib.hid a0;clear a0;go_enter Tryz.func32,Tryz.ntmps32;go_wp2_with fail;refine(Rv pl1 (by have hz:=HZ.out;omega) _ _ (Rd.below (by(with_reducible repeat (first|exact Below.refl _ _|assumption|refine Below.drew ?_|refine Below.setCell ?_ ?_ _|refine Below.alloc ?_ ?_ _));all_goals first|(simp;done)|(simp;omega)|omega) _ _ _ H1.out)).mono ?_;rintro e w1 ⟨u1,rfl,ho1,h1⟩;have B1:Below w.heap.size w w1:=Below.trans (by(with_reducible repeat (first|exact Below.refl _ _|assumption|refine Below.drew ?_|refine Below.setCell ?_ ?_ _|refine Below.alloc ?_ ?_ _));all_goals first|(simp;done)|(simp;omega)|omega) (h1.mono (by first|(simp;done)|(simp;omega)|omega));have S1:=h1.size;have T1:=B1.size;try simp at S1
 obtain⟨k1,f1⟩:=Es h1;try simp at k1
 try simp at f1
 have Hc1:=Lib.hid h1;clear h1;have u1_0:w.heap.size<w1.heap.size:=by omega
 have u1_1:w.heap.size+1<w1.heap.size:=by omega
 have u1_2:w.heap.size+1+1<w1.heap.size:=by omega
 obtain⟨ub1,uc1,rfl⟩:∃a c,u1=.slice a pl1.length c:=by obtain⟨q,q1,-,-⟩:=Own.one ho1;obtain⟨a,c,q2,-⟩:=Rd.sl2 (Fp.rd _ _ _ _ q1);exact⟨a,c,q2⟩
 have P1:OnlyIn (λb=>b<w.heap.size+3) w w1:=OnlyIn.trans (by(with_reducible repeat (first|exact OnlyIn.refl _ _|refine OnlyIn.setCell ?_ ?_ _|refine OnlyIn.alloc ?_ _));all_goals (show _<_;first|(simp;done)|(simp;omega)|omega)) (OnlyIn.of_below Hc1.out);have O1:=Lib.hid ho1;have PP1:=Lib.hid P1;clear ho1 P1;have r0_:w1.cell? ⟨w.heap.size+1+1,0,none⟩=some (.bool px0):=by go_simp
 have s0_:w1.cell? ⟨w.heap.size+1,0,none⟩=some (.bool false):=by go_simp
 have f0_:w1.frozen? ⟨w.heap.size+1,0,none⟩=false:=by go_simp
 have r1_:w1.cell? ⟨w.heap.size+1+1,1,none⟩=some (.slice none 0 0):=by go_simp
 have s1_:w1.cell? ⟨w.heap.size+1,1,none⟩=some (.slice none 0 0):=by go_simp
 have f1_:w1.frozen? ⟨w.heap.size+1,1,none⟩=false:=by go_simp
 have g1_:w1.frozen? ⟨w.heap.size+1+1,1,none⟩=false:=by go_simp
 clear k1 f1;have q0_:(((w1.setCell ⟨w.heap.size+1+1,1,none⟩ (.slice ub1 pl1.length uc1)).setCell ⟨w.heap.size+1,0,none⟩ (.bool px0)).setCell ⟨w.heap.size+1,1,none⟩ (.slice ub1 pl1.length uc1)).cell? ⟨w.heap.size+1,0,none⟩=some (.bool px0):=by go_simp
 have q1_:(((w1.setCell ⟨w.heap.size+1+1,1,none⟩ (.slice ub1 pl1.length uc1)).setCell ⟨w.heap.size+1,0,none⟩ (.bool px0)).setCell ⟨w.heap.size+1,1,none⟩ (.slice ub1 pl1.length uc1)).cell? ⟨w.heap.size+1,1,none⟩=some (.slice ub1 pl1.length uc1):=by go_simp
 have QQ:=Lib.hid (And.intro q0_ (q1_));clear q0_ q1_;have PF:OnlyIn (λb=>b<w.heap.size+3) w1 (((w1.setCell ⟨w.heap.size+1+1,1,none⟩ (.slice ub1 pl1.length uc1)).setCell ⟨w.heap.size+1,0,none⟩ (.bool px0)).setCell ⟨w.heap.size+1,1,none⟩ (.slice ub1 pl1.length uc1)):=(by(with_reducible repeat (first|exact OnlyIn.refl _ _|refine OnlyIn.setCell ?_ ?_ _|refine OnlyIn.alloc ?_ _));all_goals (show _<_;first|(simp;done)|(simp;omega)|omega));have BF:Below w.heap.size w (((w1.setCell ⟨w.heap.size+1+1,1,none⟩ (.slice ub1 pl1.length uc1)).setCell ⟨w.heap.size+1,0,none⟩ (.bool px0)).setCell ⟨w.heap.size+1,1,none⟩ (.slice ub1 pl1.length uc1)):=(by(with_reducible repeat (first|exact Below.refl _ _|assumption|refine Below.drew ?_|refine Below.setCell ?_ ?_ _|refine Below.alloc ?_ ?_ _));all_goals first|(simp;done)|(simp;omega)|omega)
 have FIN:Own (((w1.setCell ⟨w.heap.size+1+1,1,none⟩ (.slice ub1 pl1.length uc1)).setCell ⟨w.heap.size+1,0,none⟩ (.bool px0)).setCell ⟨w.heap.size+1,1,none⟩ (.slice ub1 pl1.length uc1)) w.heap.size (((w1.setCell ⟨w.heap.size+1+1,1,none⟩ (.slice ub1 pl1.length uc1)).setCell ⟨w.heap.size+1,0,none⟩ (.bool px0)).setCell ⟨w.heap.size+1,1,none⟩ (.slice ub1 pl1.length uc1)).heap.size [.bool,.sl 3 [.int]] [.bool px0,.sl pl1] [.bool px0,.slice ub1 pl1.length uc1]:=by
  have a1:(((w1.setCell ⟨w.heap.size+1+1,1,none⟩ (.slice ub1 pl1.length uc1)).setCell ⟨w.heap.size+1,0,none⟩ (.bool px0)).setCell ⟨w.heap.size+1,1,none⟩ (.slice ub1 pl1.length uc1)).heap.size=w1.heap.size:=by simp[World.setCell]
  rw[a1];have own1:Own (((w1.setCell ⟨w.heap.size+1+1,1,none⟩ (.slice ub1 pl1.length uc1)).setCell ⟨w.heap.size+1,0,none⟩ (.bool px0)).setCell ⟨w.heap.size+1,1,none⟩ (.slice ub1 pl1.length uc1)) (w.heap.size+3) w1.heap.size [.sl 3 [.int]] [.sl pl1] [.slice ub1 pl1.length uc1]:=by have o:=O1.out;simp only[World.size_alloc]at o;exact(o.only (PF) (λb hb=>.inl (by omega))).mono (by omega) (Nat.le_refl _)
  exact(((Own.nil _ w.heap.size (w.heap.size+3)).append (Own.leaf (hi:=w.heap.size+3) (Fp.mk_bool _)) (by omega) (by omega)).append own1 (by omega) (by omega)).mono (Nat.le_refl _) (by omega)
 have FF:=Lib.hid FIN;clear FIN PF;go_wp2;obtain⟨q0_,q1_⟩:=QQ.out;exact bodyPost_ret (v:=.agg #[.bool px0,.slice ub1 pl1.length uc1]) (by simp[results,Tryz.results32,go_sem,q0_,q1_]) rfl ⟨_,rfl,FF.out,BF⟩
set_option maxHeartbeats 4000000 in
theorem Zp(ds:List Dat)(vs us:List Value)(w:World)(h:RdRow w [.bool,.sl 3 [.int],.sl 3 [.int]] ds vs)(h' : RdRow w [.bool,.sl 3 [.int],.sl 3 [.int]] ds us) :
 Calls Tryz.prog 14 #[.agg vs.toArray,.agg us.toArray] w λe w'=>e=.returned (.bool true)/\Below w.heap.size w w':=by
 obtain⟨pd,pds,pv,pvs,rfl,rfl,ph,a0⟩:=RdRow.cons_inv h;obtain⟨px0,rfl,rfl⟩:=Rd.bool_inv ph;obtain⟨pd,pds,pv,pvs,rfl,rfl,ph,a1⟩:=RdRow.cons_inv a0;obtain⟨pl1,pa1,pc1,rfl,rfl,pe1,pf1,pr1⟩:=Rd.sl_inv ph;obtain⟨pd,pds,pv,pvs,rfl,rfl,ph,a2⟩:=RdRow.cons_inv a1;obtain⟨pl2,pa2,pc2,rfl,rfl,pe2,pf2,pr2⟩:=Rd.sl_inv ph;obtain⟨rfl,rfl⟩:=RdRow.nil_inv a2;obtain⟨qv,qvs,rfl,qh,h'_0⟩:=RdRow.cons2 h';obtain rfl:=Rd.bool2 qh;obtain⟨qv,qvs,rfl,qh,h'_1⟩:=RdRow.cons2 h'_0;obtain⟨qa1,qc1,rfl,qe1,qf1,qr1⟩:=Rd.sl2 qh;obtain⟨qv,qvs,rfl,qh,h'_2⟩:=RdRow.cons2 h'_1;obtain⟨qa2,qc2,rfl,qe2,qf2,qr2⟩:=Rd.sl2 qh;obtain⟨-,rfl⟩:=RdRow.nil_inv h'_2;have H1:=Lib.hid pr1;have G1:=Lib.hid qr1;clear pr1 qr1;have H2:=Lib.hid pr2;have G2:=Lib.hid qr2;clear pr2 qr2;go_enter Tryz.func14,Tryz.ntmps14;go_wp2_with fail;refine(Tn [.bool px0,.sl pl1] [.bool px0,.slice pa1 pl1.length pc1] [.bool px0,.slice qa1 pl1.length qc1] _ (RdRow.below (by(with_reducible repeat (first|exact Below.refl _ _|assumption|refine Below.drew ?_|refine Below.setCell ?_ ?_ _|refine Below.alloc ?_ ?_ _));all_goals first|(simp;done)|(simp;omega)|omega) _ _ _ (RdRow.mk_cons (Rd.mk_bool px0) (RdRow.mk_cons H1.out RdRow.mk_nil))) (RdRow.below (by(with_reducible repeat (first|exact Below.refl _ _|assumption|refine Below.drew ?_|refine Below.setCell ?_ ?_ _|refine Below.alloc ?_ ?_ _));all_goals first|(simp;done)|(simp;omega)|omega) _ _ _ (RdRow.mk_cons (Rd.mk_bool px0) (RdRow.mk_cons G1.out RdRow.mk_nil)))).mono ?_;rintro e w1 ⟨rfl,h1⟩;have B1:Below w.heap.size w w1:=Below.trans (by(with_reducible repeat (first|exact Below.refl _ _|assumption|refine Below.drew ?_|refine Below.setCell ?_ ?_ _|refine Below.alloc ?_ ?_ _));all_goals first|(simp;done)|(simp;omega)|omega) (h1.mono (by first|(simp;done)|(simp;omega)|omega));have S1:=h1.size;have T1:=B1.size;try simp at S1
 obtain⟨k1,f1⟩:=Es h1;try simp at k1
 try simp at f1
 have Hc1:=Lib.hid h1;clear h1;have u1_0:w.heap.size<w1.heap.size:=by omega
 have u1_1:w.heap.size+1<w1.heap.size:=by omega
 go_wp2_with fail;refine(Ru pl2 _ _ _ (Rd.below (by(with_reducible repeat (first|exact Below.refl _ _|assumption|refine Below.drew ?_|refine Below.setCell ?_ ?_ _|refine Below.alloc ?_ ?_ _));all_goals first|(simp;done)|(simp;omega)|omega) _ _ _ H2.out) (Rd.below (by(with_reducible repeat (first|exact Below.refl _ _|assumption|refine Below.drew ?_|refine Below.setCell ?_ ?_ _|refine Below.alloc ?_ ?_ _));all_goals first|(simp;done)|(simp;omega)|omega) _ _ _ G2.out)).mono ?_;rintro e w2 ⟨rfl,h2⟩;have B2:Below w.heap.size w w2:=Below.trans (by(with_reducible repeat (first|exact Below.refl _ _|assumption|refine Below.drew ?_|refine Below.setCell ?_ ?_ _|refine Below.alloc ?_ ?_ _));all_goals first|(simp;done)|(simp;omega)|omega) (h2.mono (by first|(simp;done)|(simp;omega)|omega));have S2:=h2.size;have T2:=B2.size;try simp at S2
 obtain⟨k2,f2⟩:=Es h2;try simp at k2
 try simp at f2
 have Hc2:=Lib.hid h2;clear h2;have u2_0:w.heap.size<w2.heap.size:=by omega
 have u2_1:w.heap.size+1<w2.heap.size:=by omega
 go_wp2;go_ret;exact⟨rfl,(by(with_reducible repeat (first|exact Below.refl _ _|assumption|refine Below.drew ?_|refine Below.setCell ?_ ?_ _|refine Below.alloc ?_ ?_ _));all_goals first|(simp;done)|(simp;omega)|omega)⟩
set_option maxHeartbeats 4000000 in
theorem Zq(ds:List Dat)(a0:Ae ds<=1048576)(vs:List Value)(w:World)(h:RdRow w [.bool,.sl 3 [.int],.sl 3 [.int]] ds vs) :
 Calls Tryz.prog 10 #[.agg vs.toArray] w λe w'=>∃us:List Value,e=.returned (.agg us.toArray)/\Own w' w.heap.size w'.heap.size [.bool,.sl 3 [.int],.sl 3 [.int]] ds us/\Below w.heap.size w w':=by
 obtain⟨pd,pds,pv,pvs,rfl,rfl,ph,a3⟩:=RdRow.cons_inv h;obtain⟨px0,rfl,rfl⟩:=Rd.bool_inv ph;obtain⟨pd,pds,pv,pvs,rfl,rfl,ph,a4⟩:=RdRow.cons_inv a3;obtain⟨pl1,pa1,pc1,rfl,rfl,pe1,pf1,pr1⟩:=Rd.sl_inv ph;obtain⟨pd,pds,pv,pvs,rfl,rfl,ph,a5⟩:=RdRow.cons_inv a4;obtain⟨pl2,pa2,pc2,rfl,rfl,pe2,pf2,pr2⟩:=Rd.sl_inv ph;obtain⟨rfl,rfl⟩:=RdRow.nil_inv a5;have H1:=Lib.hid pr1;clear pr1;have H2:=Lib.hid pr2;clear pr2;simp only[Ae,Dat.sz]at a0;have HZ:=Lib.hid a0;clear a0;go_enter Tryz.func10,Tryz.ntmps10;go_wp2_with fail;refine(To [.bool px0,.sl pl1] (by have hz:=HZ.out;simp only[Ae,Dat.sz];omega) [.bool px0,.slice pa1 pl1.length pc1] _ (RdRow.below (by(with_reducible repeat (first|exact Below.refl _ _|assumption|refine Below.drew ?_|refine Below.setCell ?_ ?_ _|refine Below.alloc ?_ ?_ _));all_goals first|(simp;done)|(simp;omega)|omega) _ _ _ (RdRow.mk_cons (Rd.mk_bool px0) (RdRow.mk_cons H1.out RdRow.mk_nil)))).mono ?_;rintro e w1 ⟨u1,rfl,ho1,h1⟩;have B1:Below w.heap.size w w1:=Below.trans (by(with_reducible repeat (first|exact Below.refl _ _|assumption|refine Below.drew ?_|refine Below.setCell ?_ ?_ _|refine Below.alloc ?_ ?_ _));all_goals first|(simp;done)|(simp;omega)|omega) (h1.mono (by first|(simp;done)|(simp;omega)|omega));have S1:=h1.size;have T1:=B1.size;try simp at S1
 obtain⟨k1,f1⟩:=Es h1;try simp at k1
 try simp at f1
 have Hc1:=Lib.hid h1;clear h1;have u1_0:w.heap.size<w1.heap.size:=by omega
 have u1_1:w.heap.size+1<w1.heap.size:=by omega
 have u1_2:w.heap.size+1+1<w1.heap.size:=by omega
 obtain⟨ub1,uc1,rfl⟩:∃ub1 uc1,u1=[.bool px0,.slice ub1 pl1.length uc1]:=by have q:=ho1.rd;obtain⟨v0,q0,rfl,e0,a6⟩:=RdRow.cons2 q;obtain rfl:=Rd.bool2 e0;obtain⟨v1,q1,rfl,e1,a7⟩:=RdRow.cons2 a6;obtain⟨a1,c1,rfl,-⟩:=Rd.sl2 e1;obtain⟨-,rfl⟩:=RdRow.nil_inv a7;exact⟨a1,c1,rfl⟩
 have P1:OnlyIn (λb=>b<w.heap.size+3) w w1:=OnlyIn.trans (by(with_reducible repeat (first|exact OnlyIn.refl _ _|refine OnlyIn.setCell ?_ ?_ _|refine OnlyIn.alloc ?_ _));all_goals (show _<_;first|(simp;done)|(simp;omega)|omega)) (OnlyIn.of_below Hc1.out);have O1:=Lib.hid ho1;have PP1:=Lib.hid P1;clear ho1 P1;go_wp2_with fail;refine(Rv pl2 (by have hz:=HZ.out;omega) _ _ (Rd.below (by(with_reducible repeat (first|exact Below.refl _ _|assumption|refine Below.drew ?_|refine Below.setCell ?_ ?_ _|refine Below.alloc ?_ ?_ _));all_goals first|(simp;done)|(simp;omega)|omega) _ _ _ H2.out)).mono ?_;rintro e w2 ⟨u2,rfl,ho2,h2⟩;have B2:Below w.heap.size w w2:=Below.trans (by(with_reducible repeat (first|exact Below.refl _ _|assumption|refine Below.drew ?_|refine Below.setCell ?_ ?_ _|refine Below.alloc ?_ ?_ _));all_goals first|(simp;done)|(simp;omega)|omega) (h2.mono (by first|(simp;done)|(simp;omega)|omega));have S2:=h2.size;have T2:=B2.size;try simp at S2
 obtain⟨k2,f2⟩:=Es h2;try simp at k2
 try simp at f2
 have Hc2:=Lib.hid h2;clear h2;have u2_0:w.heap.size<w2.heap.size:=by omega
 have u2_1:w.heap.size+1<w2.heap.size:=by omega
 have u2_2:w.heap.size+1+1<w2.heap.size:=by omega
 obtain⟨ub2,uc2,rfl⟩:∃a c,u2=.slice a pl2.length c:=by obtain⟨q,q1,-,-⟩:=Own.one ho2;obtain⟨a,c,q2,-⟩:=Rd.sl2 (Fp.rd _ _ _ _ q1);exact⟨a,c,q2⟩
 have P2:OnlyIn (λb=>b<w.heap.size+3) w1 w2:=OnlyIn.trans (by(with_reducible repeat (first|exact OnlyIn.refl _ _|refine OnlyIn.setCell ?_ ?_ _|refine OnlyIn.alloc ?_ _));all_goals (show _<_;first|(simp;done)|(simp;omega)|omega)) (OnlyIn.of_below Hc2.out);have O2:=Lib.hid ho2;have PP2:=Lib.hid P2;clear ho2 P2;have r0_:w2.cell? ⟨w.heap.size+1+1,0,none⟩=some (.bool px0):=by go_simp
 have s0_:w2.cell? ⟨w.heap.size+1,0,none⟩=some (.bool false):=by go_simp
 have f0_:w2.frozen? ⟨w.heap.size+1,0,none⟩=false:=by go_simp
 have r1_:w2.cell? ⟨w.heap.size+1+1,1,none⟩=some (.slice ub1 pl1.length uc1):=by go_simp
 have s1_:w2.cell? ⟨w.heap.size+1,1,none⟩=some (.slice none 0 0):=by go_simp
 have f1_:w2.frozen? ⟨w.heap.size+1,1,none⟩=false:=by go_simp
 have r2_:w2.cell? ⟨w.heap.size+1+1,2,none⟩=some (.slice none 0 0):=by go_simp
 have s2_:w2.cell? ⟨w.heap.size+1,2,none⟩=some (.slice none 0 0):=by go_simp
 have f2_:w2.frozen? ⟨w.heap.size+1,2,none⟩=false:=by go_simp
 have g2_:w2.frozen? ⟨w.heap.size+1+1,2,none⟩=false:=by go_simp
 clear k1 f1 k2 f2;have q0_:((((w2.setCell ⟨w.heap.size+1+1,2,none⟩ (.slice ub2 pl2.length uc2)).setCell ⟨w.heap.size+1,0,none⟩ (.bool px0)).setCell ⟨w.heap.size+1,1,none⟩ (.slice ub1 pl1.length uc1)).setCell ⟨w.heap.size+1,2,none⟩ (.slice ub2 pl2.length uc2)).cell? ⟨w.heap.size+1,0,none⟩=some (.bool px0):=by go_simp
 have q1_:((((w2.setCell ⟨w.heap.size+1+1,2,none⟩ (.slice ub2 pl2.length uc2)).setCell ⟨w.heap.size+1,0,none⟩ (.bool px0)).setCell ⟨w.heap.size+1,1,none⟩ (.slice ub1 pl1.length uc1)).setCell ⟨w.heap.size+1,2,none⟩ (.slice ub2 pl2.length uc2)).cell? ⟨w.heap.size+1,1,none⟩=some (.slice ub1 pl1.length uc1):=by go_simp
 have q2_:((((w2.setCell ⟨w.heap.size+1+1,2,none⟩ (.slice ub2 pl2.length uc2)).setCell ⟨w.heap.size+1,0,none⟩ (.bool px0)).setCell ⟨w.heap.size+1,1,none⟩ (.slice ub1 pl1.length uc1)).setCell ⟨w.heap.size+1,2,none⟩ (.slice ub2 pl2.length uc2)).cell? ⟨w.heap.size+1,2,none⟩=some (.slice ub2 pl2.length uc2):=by go_simp
 have QQ:=Lib.hid (And.intro q0_ (And.intro q1_ (q2_)));clear q0_ q1_ q2_;have PF:OnlyIn (λb=>b<w.heap.size+3) w2 ((((w2.setCell ⟨w.heap.size+1+1,2,none⟩ (.slice ub2 pl2.length uc2)).setCell ⟨w.heap.size+1,0,none⟩ (.bool px0)).setCell ⟨w.heap.size+1,1,none⟩ (.slice ub1 pl1.length uc1)).setCell ⟨w.heap.size+1,2,none⟩ (.slice ub2 pl2.length uc2)):=(by(with_reducible repeat (first|exact OnlyIn.refl _ _|refine OnlyIn.setCell ?_ ?_ _|refine OnlyIn.alloc ?_ _));all_goals (show _<_;first|(simp;done)|(simp;omega)|omega));have BF:Below w.heap.size w ((((w2.setCell ⟨w.heap.size+1+1,2,none⟩ (.slice ub2 pl2.length uc2)).setCell ⟨w.heap.size+1,0,none⟩ (.bool px0)).setCell ⟨w.heap.size+1,1,none⟩ (.slice ub1 pl1.length uc1)).setCell ⟨w.heap.size+1,2,none⟩ (.slice ub2 pl2.length uc2)):=(by(with_reducible repeat (first|exact Below.refl _ _|assumption|refine Below.drew ?_|refine Below.setCell ?_ ?_ _|refine Below.alloc ?_ ?_ _));all_goals first|(simp;done)|(simp;omega)|omega)
 have FIN:Own ((((w2.setCell ⟨w.heap.size+1+1,2,none⟩ (.slice ub2 pl2.length uc2)).setCell ⟨w.heap.size+1,0,none⟩ (.bool px0)).setCell ⟨w.heap.size+1,1,none⟩ (.slice ub1 pl1.length uc1)).setCell ⟨w.heap.size+1,2,none⟩ (.slice ub2 pl2.length uc2)) w.heap.size ((((w2.setCell ⟨w.heap.size+1+1,2,none⟩ (.slice ub2 pl2.length uc2)).setCell ⟨w.heap.size+1,0,none⟩ (.bool px0)).setCell ⟨w.heap.size+1,1,none⟩ (.slice ub1 pl1.length uc1)).setCell ⟨w.heap.size+1,2,none⟩ (.slice ub2 pl2.length uc2)).heap.size [.bool,.sl 3 [.int],.sl 3 [.int]] [.bool px0,.sl pl1,.sl pl2] [.bool px0,.slice ub1 pl1.length uc1,.slice ub2 pl2.length uc2]:=by
  have a2:((((w2.setCell ⟨w.heap.size+1+1,2,none⟩ (.slice ub2 pl2.length uc2)).setCell ⟨w.heap.size+1,0,none⟩ (.bool px0)).setCell ⟨w.heap.size+1,1,none⟩ (.slice ub1 pl1.length uc1)).setCell ⟨w.heap.size+1,2,none⟩ (.slice ub2 pl2.length uc2)).heap.size=w2.heap.size:=by simp[World.setCell]
  rw[a2];have own1:Own ((((w2.setCell ⟨w.heap.size+1+1,2,none⟩ (.slice ub2 pl2.length uc2)).setCell ⟨w.heap.size+1,0,none⟩ (.bool px0)).setCell ⟨w.heap.size+1,1,none⟩ (.slice ub1 pl1.length uc1)).setCell ⟨w.heap.size+1,2,none⟩ (.slice ub2 pl2.length uc2)) (w.heap.size+3) w1.heap.size [.bool,.sl 3 [.int]] [.bool px0,.sl pl1] [.bool px0,.slice ub1 pl1.length uc1]:=by have o:=O1.out;simp only[World.size_alloc]at o;exact(o.only (PP2.out.trans (PF)) (λb hb=>.inl (by omega))).mono (by omega) (Nat.le_refl _)
  have own2:Own ((((w2.setCell ⟨w.heap.size+1+1,2,none⟩ (.slice ub2 pl2.length uc2)).setCell ⟨w.heap.size+1,0,none⟩ (.bool px0)).setCell ⟨w.heap.size+1,1,none⟩ (.slice ub1 pl1.length uc1)).setCell ⟨w.heap.size+1,2,none⟩ (.slice ub2 pl2.length uc2)) (w1.heap.size) w2.heap.size [.sl 3 [.int]] [.sl pl2] [.slice ub2 pl2.length uc2]:=by have o:=O2.out;simp only[World.size_setCell]at o;exact(o.only (PF) (λb hb=>.inl (by omega))).mono (by omega) (Nat.le_refl _)
  exact(((Own.nil _ w.heap.size (w.heap.size+3)).append own1 (by omega) (by omega)).append own2 (by omega) (by omega)).mono (Nat.le_refl _) (by omega)
 have FF:=Lib.hid FIN;clear FIN PF;go_wp2;obtain⟨q0_,q1_,q2_⟩:=QQ.out;exact bodyPost_ret (v:=.agg #[.bool px0,.slice ub1 pl1.length uc1,.slice ub2 pl2.length uc2]) (by simp[results,Tryz.results10,go_sem,q0_,q1_,q2_]) rfl ⟨_,rfl,FF.out,BF⟩
end Go.Proofs.YthoidhehmmcgnaaGreat
