import Derived.Test.YthoidhehmmcgnaaGreatWtExD
namespace Go.Proofs.YthoidhehmmcgnaaGreat
set_option linter.unusedVariables false
set_option linter.unusedSimpArgs false
open Go.RowKit
theorem Yp{l:List (List Dat)}{i j:Nat}{r:List Dat}{d:Dat}(h:i<l.length):Fh (l.set i r) i j d=l.set i (r.set j d):=by simp[Fh,List.getD,h,List.set_set]
def Tv(c:Nat)(m:Int)(r:List Dat):List Dat:=Db m (r.take c)++r.drop c
def cn(m:Int)(r:List Dat)(c:Nat):Int:=m+(Aj (r.take c):Int)
def mkR(k:Int)(j:Nat)(l:List (List Dat))(m:Int)(c:Nat):List (List Dat):=(BE k j l).set j (Tv c m (l.getD j []))
theorem Ia:∀(m:Int)(r:List Dat),(Db m r).length=r.length
 |_,[]=>rfl|m,d::r=>by simp[Db,Ia]
theorem Oo:∀(m:Int)(a b:List Dat),Db m (a++b)=Db m a++Db (m+(Aj a:Int)) b
 |m,[],b=>by simp[Db,Aj]|m,d::a,b=>by simp[Db,Aj,Oo,Int.add_assoc]
theorem I0:∀(a b:List Dat),Aj (a++b)=Aj a+Aj b
 | [],b=>by simp[Aj]|d::a,b=>by simp[Aj,I0,Nat.add_assoc]
theorem Oq{r:List Dat}{c:Nat}(h:c<r.length):r.take (c+1)=r.take c++[r.getD c (.int 0)]:=by rw[List.take_add_one];simp[List.getD,h]
theorem Ib(m:Int)(r:List Dat):cn m r 0=m:=by simp[cn,Aj]
theorem P0{m:Int}{r:List Dat}{c:Nat}(h:c<r.length):cn m r (c+1)=cn m r c+((r.getD c (.int 0)).cnt:Int):=by unfold cn;rw[Oq h,I0];simp[Aj];omega
theorem ABP{m:Int}{r:List Dat}{c:Nat}(h:r.length<=c):cn m r c=m+(Aj r:Int):=by unfold cn;rw[List.take_of_length_le h]
theorem G6(m:Int)(r:List Dat)(c:Nat):m<=cn m r c/\cn m r c<=m+(Aj r:Int):=by
 have:Aj r=Aj (r.take c)+Aj (r.drop c):=by rw[← I0,List.take_append_drop]
 unfold cn;omega
theorem Ju{k m:Int}{j:Nat}{l:List (List Dat)}(h:j<l.length):BE k j l=mkR k j l m 0:=by
 unfold mkR Tv;simp only[List.take_zero,List.drop_zero,Db,List.nil_append];rw[← QD k j l h];have hl:j<(BE k j l).length:=by rw[Bj];exact h
 simp[List.getD,hl]
theorem Zs(k:Int)(j:Nat)(l:List (List Dat))(m:Int)(c:Nat):(mkR k j l m c).length=l.length:=by unfold mkR;rw[List.length_set,Bj]
theorem Zt{k m:Int}{j c:Nat}{l:List (List Dat)}(h:j<l.length):(mkR k j l m c).getD j []=Tv c m (l.getD j []):=by
 have hl:j<(BE k j l).length:=by rw[Bj];exact h
 simp[mkR,List.getD,hl]
theorem Yq{m:Int}{r:List Dat}{c c' : Nat}{x:Dat}(h:c<=c'):(Tv c m r).getD c' x=r.getD c' x:=by
 unfold Tv;have hl:(Db m (r.take c)).length<=c':=by rw[Ia,List.length_take];omega
 simp only[List.getD,List.getElem?_append_right hl,Ia,List.length_take,List.getElem?_drop];by_cases hc:c<=r.length;rw[Nat.min_eq_left hc,Nat.add_sub_cancel' h];rw[List.getElem?_eq_none (by omega),List.getElem?_eq_none (by omega)]
theorem NX{k m:Int}{j c:Nat}{l R R' : List (List Dat)}{d:Dat}(h:j<l.length)(hc:c<(l.getD j []).length)(e:R=mkR k j l m c)(hd:d=((l.getD j []).getD c (.int 0)).mk' (cn m (l.getD j []) c))(hR:R'=Fh R j c d):R'=mkR k j l m (c+1):=by
 rw[hR,e];unfold mkR;rw[Yp (by rw[Bj];exact h)];congr 1;unfold Tv;have hl:(Db m ((l.getD j []).take c)).length=c:=by rw[Ia,List.length_take];omega
 rw[List.set_append_right _ _ (by omega),hl,Nat.sub_self,Oq hc,Oo,hd];have e2:∀r:List Dat,c<r.length->r.drop c=r.getD c (.int 0)::r.drop (c+1):=λr h=>by rw[List.drop_eq_getElem_cons h];simp[List.getD,h]
 rw[e2 _ hc,List.set_cons_zero,List.append_assoc];simp[Db,cn]
theorem Lt{ts:List Ty}{r:List Dat}(h:hasRow ts r):r.length=ts.length:=by
 induction ts generalizing r with|nil=>cases r <;> simp[hasRow]at h ⊢|cons t ts ih=>obtain⟨d,ds,rfl,h1,h2⟩:=h.cons;simp[ih h2]
theorem Fo{ts:List Ty}{r:List Dat}{c:Nat}{t:Ty}(h:hasRow ts r)(ht:ts[c]?=some t):Dat.has t (r.getD c (.int 0)):=by
 induction ts generalizing r c with
 |nil=>simp at ht|cons t' ts ih=>
  obtain⟨d,ds,rfl,h1,h2⟩:=h.cons;cases c with|zero=>simp at ht;subst ht;simpa using h1|succ c=>simpa using ih h2 (c:=c) (by simpa using ht)
theorem Gz{ts:List Ty}{r:List Dat}{c:Nat}{t:Ty}(h:hasRow ts r)(ht:ts[c]?=some t):c<r.length:=by rw[Lt h];exact(List.getElem?_eq_some_iff.1 ht).1
section
variable {ts : List Ty} {k m : Int} {j c : Nat} {l R R' : List (List Dat)} {kx : Int}
theorem mk_bool(h:j<l.length)(hr:hasRow ts (l.getD j []))(ht:ts[c]?=some .bool)(e:R=mkR k j l m c)(hk:kx=cn m (l.getD j []) c)(h0:0<=m)(hR:R'=Fh R j c (.bool (Int.tmod kx 3 == 0))):R'=mkR k j l m (c+1):=by refine NX h (Gz hr ht) e ?_ hR;have:=Fo hr ht;obtain⟨b,hb⟩:=Dat.has_bool this;have hn:=(G6 m (l.getD j []) c).1;rw[hb,hk,Int.tmod_eq_emod_of_nonneg (by omega)];rfl
theorem mk_int(h:j<l.length)(hr:hasRow ts (l.getD j []))(ht:ts[c]?=some .int)(e:R=mkR k j l m c)(hk:kx=cn m (l.getD j []) c)(hR:R'=Fh R j c (.int kx)):R'=mkR k j l m (c+1):=by refine NX h (Gz hr ht) e ?_ hR;obtain⟨b,hb⟩:=Dat.has_int (Fo hr ht);rw[hb,hk];rfl
theorem NY{e' : Nat}{ts' : List Ty}(h:j<l.length)(hr:hasRow ts (l.getD j []))(ht:ts[c]?=some (.sl e' ts'))(e:R=mkR k j l m c)(hR:R'=Fh R j c (.sl (Ac (cn m (l.getD j []) c) (((l.getD j []).getD c (.int 0)).r)))):R'=mkR k j l m (c+1):=by refine NX h (Gz hr ht) e ?_ hR;obtain⟨b,hb⟩:=Dat.has_sl (Fo hr ht);rw[hb];rfl
theorem Ic(hr:hasRow ts (l.getD j []))(ht:ts[c]?=some .bool)(hk:kx=cn m (l.getD j []) c)(h0:0<=m)(hb:m+(Aj (l.getD j []):Int)<=4611686018427387904):IntKind.i64.wrap (kx+1)=cn m (l.getD j []) (c+1):=by obtain⟨b,hb'⟩:=Dat.has_bool (Fo hr ht);have h1:=G6 m (l.getD j []) c;rw[hk,P0 (Gz hr ht),hb',AB (by omega) (by omega)];rfl
theorem P3(hr:hasRow ts (l.getD j []))(ht:ts[c]?=some .int)(hk:kx=cn m (l.getD j []) c)(h0:0<=m)(hb:m+(Aj (l.getD j []):Int)<=4611686018427387904):IntKind.i64.wrap (kx+1)=cn m (l.getD j []) (c+1):=by obtain⟨b,hb'⟩:=Dat.has_int (Fo hr ht);have h1:=G6 m (l.getD j []) c;rw[hk,P0 (Gz hr ht),hb',AB (by omega) (by omega)];rfl
theorem Fd{e' : Nat}{ts' : List Ty}(hr:hasRow ts (l.getD j []))(ht:ts[c]?=some (.sl e' ts')):cn m (l.getD j []) c+(AA (((l.getD j []).getD c (.int 0)).r):Int)=cn m (l.getD j []) (c+1):=by obtain⟨b,hb'⟩:=Dat.has_sl (Fo hr ht);rw[P0 (Gz hr ht),hb'];rfl
theorem Kg{e' : Nat}{ts' : List Ty}(hr:hasRow ts (l.getD j []))(ht:ts[c]?=some (.sl e' ts'))(h0:0<=m)(hb:m+(Aj (l.getD j []):Int)<=4611686018427387904) :
  Dat.has (.sl e' ts') (.sl (((l.getD j []).getD c (.int 0)).r))/\0<=cn m (l.getD j []) c/\cn m (l.getD j []) c+(AA (((l.getD j []).getD c (.int 0)).r):Int)<=4611686018427387904:=by
 have h3:=Fo hr ht;obtain⟨b,hb'⟩:=Dat.has_sl h3;have h1:=G6 m (l.getD j []) c;have h2:=G6 m (l.getD j []) (c+1);have h4:=Fd (m:=m) hr ht;rw[hb']at h3;refine⟨by rw[hb'];exact h3,by omega,by omega⟩
theorem Tw{e' : Nat}{ts' : List Ty}(h:j<l.length)(e:R=mkR k j l m c)(hk:kx=cn m (l.getD j []) c):[DA.one (.sl e' ts' (((R.getD j []).getD c (.int 0)).r)),DA.one (.im (.int .i64 kx))]=[DA.one (.sl e' ts' (((l.getD j []).getD c (.int 0)).r)),DA.one (.im (.int .i64 (cn m (l.getD j []) c)))]:=by rw[e,Zt h,Yq (Nat.le_refl _),hk]
theorem mkL(e:R=mkR k j l m c):R.length=l.length:=by rw[e,Zs]
theorem ixL{R:List (List Dat)}{n j:Nat}(hL:R.length=n)(hj:j<n):j<R.length:=hL ▸ hj
theorem ixI{R:List (List Dat)}{n j:Nat}(hL:R.length=n)(hj:j<n):0<=((j:Nat):Int)/\((j:Nat):Int)<(R.length:Int):=by subst hL;omega
theorem Or{n j:Nat}(hj:j<n):n-(j+1)<n-j:=by omega
theorem Kh{n j:Nat}(hl:n<=9223372036854775807)(hj:j<n):IntKind.i64.wrap (((j:Nat):Int)+1)=(((j+1:Nat)):Int):=by rw[AB (by omega) (by omega)];rfl
theorem P4(h:j<l.length)(hr:hasRow ts (l.getD j []))(hc:ts.length<=c)(e:R=mkR k j l m c)(hm:m=k+(AA (l.take j):Int)):R=BE k (j+1) l:=by rw[e,QE k j l h,← hm];unfold mkR Tv;rw[List.take_of_length_le (by rw[Lt hr];exact hc),List.drop_of_length_le (by rw[Lt hr];exact hc),List.append_nil]
theorem Ot(hr:hasRow ts (l.getD j []))(hc:ts.length<=c)(hk:kx=cn m (l.getD j []) c):kx=m+(Aj (l.getD j []):Int):=hk.trans (ABP (by rw[Lt hr];exact hc))
end
theorem GM{k m:Int}{j:Nat}{l:List (List Dat)}(h:j<l.length)(hm:m=k+(AA (l.take j):Int)):m+(Aj (l.getD j []):Int)=k+(AA (l.take (j+1)):Int)/\m+(Aj (l.getD j []):Int)<=k+(AA l:Int):=by have h1:=I3 l j h;have h2:=LV l (j+1);omega
theorem Ki{k m:Int}{j:Nat}{l:List (List Dat)}(hm:m=k+(AA (l.take j):Int)):k<=m:=by omega
theorem Id{k m:Int}{j:Nat}{l:List (List Dat)}(h:l.length<=j)(hm:m=k+(AA (l.take j):Int)):m=k+(AA l:Int):=by rw[hm,List.take_of_length_le h]
theorem G3{k:Int}{j:Nat}{l:List (List Dat)}(h:j<=l.length)(h2:l.length<=j):BE k j l=Ac k l:=by
 obtain rfl:j=l.length:=by omega
 exact SD k l
theorem Ry:∀{r:List Dat}{m:Int}{c:Nat},c<r.length->(Db m r).getD c (.int 0)=(r.getD c (.int 0)).mk' (cn m r c)
 |d::r,m,0,_=>by simp[Db,cn,Aj]|d::r,m,c+1,h=>by have:=Ry (r:=r) (m:=m+(d.cnt:Int)) (c:=c) (by simpa using h);simp only[Db,List.getD_cons_succ,this];congr 1;simp[cn,Aj,Int.add_assoc]
section
variable {ts : List Ty} {k m : Int} {j c : Nat} {l : List (List Dat)} {kx : Int}
theorem P5(h:j<l.length)(hm:m=k+(AA (l.take j):Int))(hc:c<(l.getD j []).length):((Ac k l).getD j []).getD c (.int 0)=((l.getD j []).getD c (.int 0)).mk' (cn m (l.getD j []) c):=by rw[QH k l j h,← hm,Ry hc]
theorem P6(h:j<l.length)(hm:m=k+(AA (l.take j):Int))(hr:hasRow ts (l.getD j []))(ht:ts[c]?=some .bool)(hk:kx=cn m (l.getD j []) c)(h0:0<=m):(((Ac k l).getD j []).getD c (.int 0)).b=(Int.tmod kx 3 == 0):=by obtain⟨b,hb⟩:=Dat.has_bool (Fo hr ht);have hn:=(G6 m (l.getD j []) c).1;rw[P5 h hm (Gz hr ht),hb,hk,Int.tmod_eq_emod_of_nonneg (by omega)];rfl
theorem ABQ(h:j<l.length)(hm:m=k+(AA (l.take j):Int))(hr:hasRow ts (l.getD j []))(ht:ts[c]?=some .int)(hk:kx=cn m (l.getD j []) c):(((Ac k l).getD j []).getD c (.int 0)).n=kx:=by obtain⟨b,hb⟩:=Dat.has_int (Fo hr ht);rw[P5 h hm (Gz hr ht),hb,hk];rfl
theorem Ou{e' : Nat}{ts' : List Ty}(h:j<l.length)(hm:m=k+(AA (l.take j):Int))(hr:hasRow ts (l.getD j []))(ht:ts[c]?=some (.sl e' ts'))(hk:kx=cn m (l.getD j []) c) :
  [DA.one (.sl e' ts' ((((Ac k l).getD j []).getD c (.int 0)).r)),DA.one (.im (.int .i64 kx))]=[DA.one (.sl e' ts' (Ac (cn m (l.getD j []) c) (((l.getD j []).getD c (.int 0)).r))),DA.one (.im (.int .i64 (cn m (l.getD j []) c)))]:=by
 obtain⟨b,hb⟩:=Dat.has_sl (Fo hr ht);rw[P5 h hm (Gz hr ht),hb,hk];rfl
end
end Go.Proofs.YthoidhehmmcgnaaGreat
