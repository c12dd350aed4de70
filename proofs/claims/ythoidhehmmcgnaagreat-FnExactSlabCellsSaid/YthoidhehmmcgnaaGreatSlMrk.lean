import Derived.Test.YthoidhehmmcgnaaGreatSlExD
namespace Go.Proofs.YthoidhehmmcgnaaGreat
set_option linter.unusedVariables false
set_option linter.unusedSimpArgs false
open Go.RowKit
theorem ZK{l:List (List Dat)}{i j:Nat}{r:List Dat}{d:Dat}(h:i<l.length):Df (l.set i r) i j d=l.set i (r.set j d):=by simp[Df,List.getD,h,List.set_set]
def UL(c:Nat)(m:Int)(r:List Dat):List Dat:=Dh m (r.take c)++r.drop c
def cn(m:Int)(r:List Dat)(c:Nat):Int:=m+(An (r.take c):Int)
def mkR(k:Int)(j:Nat)(l:List (List Dat))(m:Int)(c:Nat):List (List Dat):=(BN k j l).set j (UL c m (l.getD j []))
theorem It:∀(m:Int)(r:List Dat),(Dh m r).length=r.length
 |_,[]=>rfl|m,d::r=>by simp[Dh,It]
theorem O7:∀(m:Int)(a b:List Dat),Dh m (a++b)=Dh m a++Dh (m+(An a:Int)) b
 |m,[],b=>by simp[Dh,An]|m,d::a,b=>by simp[Dh,An,O7,Int.add_assoc]
theorem JM:∀(a b:List Dat),An (a++b)=An a+An b
 | [],b=>by simp[An]|d::a,b=>by simp[An,JM,Nat.add_assoc]
theorem O8{r:List Dat}{c:Nat}(h:c<r.length):r.take (c+1)=r.take c++[r.getD c (.int 0)]:=by rw[List.take_add_one];simp[List.getD,h]
theorem Iu(m:Int)(r:List Dat):cn m r 0=m:=by simp[cn,An]
theorem QO{m:Int}{r:List Dat}{c:Nat}(h:c<r.length):cn m r (c+1)=cn m r c+((r.getD c (.int 0)).cnt:Int):=by unfold cn;rw[O8 h,JM];simp[An];omega
theorem ABu{m:Int}{r:List Dat}{c:Nat}(h:r.length<=c):cn m r c=m+(An r:Int):=by unfold cn;rw[List.take_of_length_le h]
theorem D7(m:Int)(r:List Dat)(c:Nat):m<=cn m r c/\cn m r c<=m+(An r:Int):=by
 have:An r=An (r.take c)+An (r.drop c):=by rw[← JM,List.take_append_drop]
 unfold cn;omega
theorem KE{k m:Int}{j:Nat}{l:List (List Dat)}(h:j<l.length):BN k j l=mkR k j l m 0:=by
 unfold mkR UL;simp only[List.take_zero,List.drop_zero,Dh,List.nil_append];rw[← QY k j l h];have hl:j<(BN k j l).length:=by rw[Bt];exact h
 simp[List.getD,hl]
theorem AAa(k:Int)(j:Nat)(l:List (List Dat))(m:Int)(c:Nat):(mkR k j l m c).length=l.length:=by unfold mkR;rw[List.length_set,Bt]
theorem AAb{k m:Int}{j c:Nat}{l:List (List Dat)}(h:j<l.length):(mkR k j l m c).getD j []=UL c m (l.getD j []):=by
 have hl:j<(BN k j l).length:=by rw[Bt];exact h
 simp[mkR,List.getD,hl]
theorem ZL{m:Int}{r:List Dat}{c c' : Nat}{x:Dat}(h:c<=c'):(UL c m r).getD c' x=r.getD c' x:=by
 unfold UL;have hl:(Dh m (r.take c)).length<=c':=by rw[It,List.length_take];omega
 simp only[List.getD,List.getElem?_append_right hl,It,List.length_take,List.getElem?_drop];by_cases hc:c<=r.length;rw[Nat.min_eq_left hc,Nat.add_sub_cancel' h];rw[List.getElem?_eq_none (by omega),List.getElem?_eq_none (by omega)]
theorem Nk{k m:Int}{j c:Nat}{l R R' : List (List Dat)}{d:Dat}(h:j<l.length)(hc:c<(l.getD j []).length)(e:R=mkR k j l m c)(hd:d=((l.getD j []).getD c (.int 0)).mk' (cn m (l.getD j []) c))(hR:R'=Df R j c d):R'=mkR k j l m (c+1):=by
 rw[hR,e];unfold mkR;rw[ZK (by rw[Bt];exact h)];congr 1;unfold UL;have hl:(Dh m ((l.getD j []).take c)).length=c:=by rw[It,List.length_take];omega
 rw[List.set_append_right _ _ (by omega),hl,Nat.sub_self,O8 hc,O7,hd];have e2:∀r:List Dat,c<r.length->r.drop c=r.getD c (.int 0)::r.drop (c+1):=λr h=>by rw[List.drop_eq_getElem_cons h];simp[List.getD,h]
 rw[e2 _ hc,List.set_cons_zero,List.append_assoc];simp[Dh,cn]
theorem MC{ts:List Ty}{r:List Dat}(h:hasRow ts r):r.length=ts.length:=by
 induction ts generalizing r with|nil=>cases r <;> simp[hasRow]at h ⊢|cons t ts ih=>obtain⟨d,ds,rfl,h1,h2⟩:=h.cons;simp[ih h2]
theorem F8{ts:List Ty}{r:List Dat}{c:Nat}{t:Ty}(h:hasRow ts r)(ht:ts[c]?=some t):Dat.has t (r.getD c (.int 0)):=by
 induction ts generalizing r c with
 |nil=>simp at ht|cons t' ts ih=>
  obtain⟨d,ds,rfl,h1,h2⟩:=h.cons;cases c with|zero=>simp at ht;subst ht;simpa using h1|succ c=>simpa using ih h2 (c:=c) (by simpa using ht)
theorem Hb{ts:List Ty}{r:List Dat}{c:Nat}{t:Ty}(h:hasRow ts r)(ht:ts[c]?=some t):c<r.length:=by rw[MC h];exact(List.getElem?_eq_some_iff.1 ht).1
section
variable {ts : List Ty} {k m : Int} {j c : Nat} {l R R' : List (List Dat)} {kx : Int}
theorem mk_bool(h:j<l.length)(hr:hasRow ts (l.getD j []))(ht:ts[c]?=some .bool)(e:R=mkR k j l m c)(hk:kx=cn m (l.getD j []) c)(h0:0<=m)(hR:R'=Df R j c (.bool (Int.tmod kx 3 == 0))):R'=mkR k j l m (c+1):=by refine Nk h (Hb hr ht) e ?_ hR;have:=F8 hr ht;obtain⟨b,hb⟩:=Dat.has_bool this;have hn:=(D7 m (l.getD j []) c).1;rw[hb,hk,Int.tmod_eq_emod_of_nonneg (by omega)];rfl
theorem mk_int(h:j<l.length)(hr:hasRow ts (l.getD j []))(ht:ts[c]?=some .int)(e:R=mkR k j l m c)(hk:kx=cn m (l.getD j []) c)(hR:R'=Df R j c (.int kx)):R'=mkR k j l m (c+1):=by refine Nk h (Hb hr ht) e ?_ hR;obtain⟨b,hb⟩:=Dat.has_int (F8 hr ht);rw[hb,hk];rfl
theorem GV{e' : Nat}{ts' : List Ty}(h:j<l.length)(hr:hasRow ts (l.getD j []))(ht:ts[c]?=some (.sl e' ts'))(e:R=mkR k j l m c)(hR:R'=Df R j c (.sl (AY (cn m (l.getD j []) c) (((l.getD j []).getD c (.int 0)).r)))):R'=mkR k j l m (c+1):=by refine Nk h (Hb hr ht) e ?_ hR;obtain⟨b,hb⟩:=Dat.has_sl (F8 hr ht);rw[hb];rfl
theorem DG(hr:hasRow ts (l.getD j []))(ht:ts[c]?=some .bool)(hk:kx=cn m (l.getD j []) c)(h0:0<=m)(hb:m+(An (l.getD j []):Int)<=4611686018427387904):IntKind.i64.wrap (kx+1)=cn m (l.getD j []) (c+1):=by obtain⟨b,hb'⟩:=Dat.has_bool (F8 hr ht);have h1:=D7 m (l.getD j []) c;rw[hk,QO (Hb hr ht),hb',AC (by omega) (by omega)];rfl
theorem QP(hr:hasRow ts (l.getD j []))(ht:ts[c]?=some .int)(hk:kx=cn m (l.getD j []) c)(h0:0<=m)(hb:m+(An (l.getD j []):Int)<=4611686018427387904):IntKind.i64.wrap (kx+1)=cn m (l.getD j []) (c+1):=by obtain⟨b,hb'⟩:=Dat.has_int (F8 hr ht);have h1:=D7 m (l.getD j []) c;rw[hk,QO (Hb hr ht),hb',AC (by omega) (by omega)];rfl
theorem CX{e' : Nat}{ts' : List Ty}(hr:hasRow ts (l.getD j []))(ht:ts[c]?=some (.sl e' ts')):cn m (l.getD j []) c+(AA (((l.getD j []).getD c (.int 0)).r):Int)=cn m (l.getD j []) (c+1):=by obtain⟨b,hb'⟩:=Dat.has_sl (F8 hr ht);rw[QO (Hb hr ht),hb'];rfl
theorem Ei{e' : Nat}{ts' : List Ty}(hr:hasRow ts (l.getD j []))(ht:ts[c]?=some (.sl e' ts'))(h0:0<=m)(hb:m+(An (l.getD j []):Int)<=4611686018427387904) :
  Dat.has (.sl e' ts') (.sl (((l.getD j []).getD c (.int 0)).r))/\0<=cn m (l.getD j []) c/\cn m (l.getD j []) c+(AA (((l.getD j []).getD c (.int 0)).r):Int)<=4611686018427387904:=by
 have h3:=F8 hr ht;obtain⟨b,hb'⟩:=Dat.has_sl h3;have h1:=D7 m (l.getD j []) c;have h2:=D7 m (l.getD j []) (c+1);have h4:=CX (m:=m) hr ht;rw[hb']at h3;refine⟨by rw[hb'];exact h3,by omega,by omega⟩
theorem Ky{e' : Nat}{ts' : List Ty}(h:j<l.length)(e:R=mkR k j l m c)(hk:kx=cn m (l.getD j []) c):[DA.one (.sl e' ts' (((R.getD j []).getD c (.int 0)).r)),DA.one (.im (.int .i64 kx))]=[DA.one (.sl e' ts' (((l.getD j []).getD c (.int 0)).r)),DA.one (.im (.int .i64 (cn m (l.getD j []) c)))]:=by rw[e,AAb h,ZL (Nat.le_refl _),hk]
theorem mkL(e:R=mkR k j l m c):R.length=l.length:=by rw[e,AAa]
theorem ixL{R:List (List Dat)}{n j:Nat}(hL:R.length=n)(hj:j<n):j<R.length:=hL ▸ hj
theorem ixI{R:List (List Dat)}{n j:Nat}(hL:R.length=n)(hj:j<n):0<=((j:Nat):Int)/\((j:Nat):Int)<(R.length:Int):=by subst hL;omega
theorem O9{n j:Nat}(hj:j<n):n-(j+1)<n-j:=by omega
theorem Kz{n j:Nat}(hl:n<=9223372036854775807)(hj:j<n):IntKind.i64.wrap (((j:Nat):Int)+1)=(((j+1:Nat)):Int):=by rw[AC (by omega) (by omega)];rfl
theorem QR(h:j<l.length)(hr:hasRow ts (l.getD j []))(hc:ts.length<=c)(e:R=mkR k j l m c)(hm:m=k+(AA (l.take j):Int)):R=BN k (j+1) l:=by rw[e,QZ k j l h,← hm];unfold mkR UL;rw[List.take_of_length_le (by rw[MC hr];exact hc),List.drop_of_length_le (by rw[MC hr];exact hc),List.append_nil]
theorem PA(hr:hasRow ts (l.getD j []))(hc:ts.length<=c)(hk:kx=cn m (l.getD j []) c):kx=m+(An (l.getD j []):Int):=hk.trans (ABu (by rw[MC hr];exact hc))
end
theorem GW{k m:Int}{j:Nat}{l:List (List Dat)}(h:j<l.length)(hm:m=k+(AA (l.take j):Int)):m+(An (l.getD j []):Int)=k+(AA (l.take (j+1)):Int)/\m+(An (l.getD j []):Int)<=k+(AA l:Int):=by have h1:=JN l j h;have h2:=Lm l (j+1);omega
theorem K6{k m:Int}{j:Nat}{l:List (List Dat)}(hm:m=k+(AA (l.take j):Int)):k<=m:=by omega
theorem Iv{k m:Int}{j:Nat}{l:List (List Dat)}(h:l.length<=j)(hm:m=k+(AA (l.take j):Int)):m=k+(AA l:Int):=by rw[hm,List.take_of_length_le h]
theorem Hc{k:Int}{j:Nat}{l:List (List Dat)}(h:j<=l.length)(h2:l.length<=j):BN k j l=AY k l:=by
 obtain rfl:j=l.length:=by omega
 exact Sb k l
theorem SV:∀{r:List Dat}{m:Int}{c:Nat},c<r.length->(Dh m r).getD c (.int 0)=(r.getD c (.int 0)).mk' (cn m r c)
 |d::r,m,0,_=>by simp[Dh,cn,An]|d::r,m,c+1,h=>by have:=SV (r:=r) (m:=m+(d.cnt:Int)) (c:=c) (by simpa using h);simp only[Dh,List.getD_cons_succ,this];congr 1;simp[cn,An,Int.add_assoc]
section
variable {ts : List Ty} {k m : Int} {j c : Nat} {l : List (List Dat)} {kx : Int}
theorem QS(h:j<l.length)(hm:m=k+(AA (l.take j):Int))(hc:c<(l.getD j []).length):((AY k l).getD j []).getD c (.int 0)=((l.getD j []).getD c (.int 0)).mk' (cn m (l.getD j []) c):=by rw[Qc k l j h,← hm,SV hc]
theorem Iw(h:j<l.length)(hm:m=k+(AA (l.take j):Int))(hr:hasRow ts (l.getD j []))(ht:ts[c]?=some .bool)(hk:kx=cn m (l.getD j []) c)(h0:0<=m):(((AY k l).getD j []).getD c (.int 0)).b=(Int.tmod kx 3 == 0):=by obtain⟨b,hb⟩:=Dat.has_bool (F8 hr ht);have hn:=(D7 m (l.getD j []) c).1;rw[QS h hm (Hb hr ht),hb,hk,Int.tmod_eq_emod_of_nonneg (by omega)];rfl
theorem ABv(h:j<l.length)(hm:m=k+(AA (l.take j):Int))(hr:hasRow ts (l.getD j []))(ht:ts[c]?=some .int)(hk:kx=cn m (l.getD j []) c):(((AY k l).getD j []).getD c (.int 0)).n=kx:=by obtain⟨b,hb⟩:=Dat.has_int (F8 hr ht);rw[QS h hm (Hb hr ht),hb,hk];rfl
theorem Hf{e' : Nat}{ts' : List Ty}(h:j<l.length)(hm:m=k+(AA (l.take j):Int))(hr:hasRow ts (l.getD j []))(ht:ts[c]?=some (.sl e' ts'))(hk:kx=cn m (l.getD j []) c) :
  [DA.one (.sl e' ts' ((((AY k l).getD j []).getD c (.int 0)).r)),DA.one (.im (.int .i64 kx))]=[DA.one (.sl e' ts' (AY (cn m (l.getD j []) c) (((l.getD j []).getD c (.int 0)).r))),DA.one (.im (.int .i64 (cn m (l.getD j []) c)))]:=by
 obtain⟨b,hb⟩:=Dat.has_sl (F8 hr ht);rw[QS h hm (Hb hr ht),hb,hk];rfl
end
end Go.Proofs.YthoidhehmmcgnaaGreat
