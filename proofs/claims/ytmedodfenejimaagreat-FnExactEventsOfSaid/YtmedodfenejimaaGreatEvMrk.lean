import Derived.Test.YtmedodfenejimaaGreatEvExD
namespace Go.Proofs.YtmedodfenejimaaGreat
set_option linter.unusedVariables false
set_option linter.unusedSimpArgs false
open Go.RowKit
theorem UY {l:List (List Dat)} {i j:Nat} {r:List Dat} {d:Dat} (h:i<l.length):Hf (l.set i r) i j d=l.set i (r.set j d):=by
 simp [Hf,List.getD,h,List.set_set]
def QH (c:Nat) (m:Int) (r:List Dat):List Dat:=DJ m (r.take c)++r.drop c
def cn (m:Int) (r:List Dat) (c:Nat):Int:=m+(Af (r.take c):Int)
def mkR (k:Int) (j:Nat) (l:List (List Dat)) (m:Int) (c:Nat):List (List Dat):=(AZ k j l).set j (QH c m (l.getD j []))
theorem HW:∀ (m:Int) (r:List Dat),(DJ m r).length=r.length
 | _,[]=>rfl
 | m,d::r=>by simp [DJ,HW]
theorem MZ:∀ (m:Int) (a b:List Dat),DJ m (a++b)=DJ m a++DJ (m+(Af a:Int)) b
 | m,[],b=>by simp [DJ,Af]
 | m,d::a,b=>by simp [DJ,Af,MZ,Int.add_assoc]
theorem Hu:∀ (a b:List Dat),Af (a++b)=Af a+Af b
 | [],b=>by simp [Af]
 | d::a,b=>by simp [Af,Hu,Nat.add_assoc]
theorem Ma {r:List Dat} {c:Nat} (h:c<r.length):r.take (c+1)=r.take c++[r.getD c (.int 0)]:=by
 rw [List.take_add_one];simp [List.getD,h]
theorem HY (m:Int) (r:List Dat):cn m r 0=m:=by simp [cn,Af]
theorem NZ {m:Int} {r:List Dat} {c:Nat} (h:c<r.length):cn m r (c+1)=cn m r c+((r.getD c (.int 0)).cnt:Int):=by
 unfold cn;rw [Ma h,Hu];simp [Af];omega
theorem WV {m:Int} {r:List Dat} {c:Nat} (h:r.length<=c):cn m r c=m+(Af r:Int):=by unfold cn;rw [List.take_of_length_le h]
theorem Jl (m:Int) (r:List Dat) (c:Nat):m<=cn m r c/\cn m r c<=m+(Af r:Int):=by
 have:Af r=Af (r.take c)+Af (r.drop c):=by rw [← Hu,List.take_append_drop]
 unfold cn;omega
theorem Id {k m:Int} {j:Nat} {l:List (List Dat)} (h:j<l.length):AZ k j l=mkR k j l m 0:=by
 unfold mkR QH
 simp only [List.take_zero,List.drop_zero,DJ,List.nil_append]
 rw [← Nf k j l h]
 have hl:j<(AZ k j l).length:=by rw [Ba];exact h
 simp [List.getD,hl]
theorem VS (k:Int) (j:Nat) (l:List (List Dat)) (m:Int) (c:Nat):(mkR k j l m c).length=l.length:=by unfold mkR;rw [List.length_set,Ba]
theorem VT {k m:Int} {j c:Nat} {l:List (List Dat)} (h:j<l.length):(mkR k j l m c).getD j []=QH c m (l.getD j []):=by
 have hl:j<(AZ k j l).length:=by rw [Ba];exact h
 simp [mkR,List.getD,hl]
theorem UZ {m:Int} {r:List Dat} {c c' : Nat} {x:Dat} (h:c<=c'):(QH c m r).getD c' x=r.getD c' x:=by
 unfold QH
 have hl:(DJ m (r.take c)).length<=c':=by rw [HW,List.length_take];omega
 simp only [List.getD,List.getElem?_append_right hl,HW,List.length_take,List.getElem?_drop]
 by_cases hc:c<=r.length
 ·rw [Nat.min_eq_left hc,Nat.add_sub_cancel' h]
 ·rw [List.getElem?_eq_none (by omega),List.getElem?_eq_none (by omega)]
theorem LS {k m:Int} {j c:Nat} {l R R' : List (List Dat)} {d:Dat} (h:j<l.length) (hc:c<(l.getD j []).length) (e:R=mkR k j l m c) (hd:d=((l.getD j []).getD c (.int 0)).mk' (cn m (l.getD j []) c)) (hR:R'=Hf R j c d):R'=mkR k j l m (c+1):=by
 rw [hR,e]
 unfold mkR
 rw [UY (by rw [Ba];exact h)]
 congr 1
 unfold QH
 have hl:(DJ m ((l.getD j []).take c)).length=c:=by rw [HW,List.length_take];omega
 rw [List.set_append_right _ _ (by omega),hl,Nat.sub_self,Ma hc,MZ,hd]
 have e2:∀ r:List Dat,c<r.length->r.drop c=r.getD c (.int 0)::r.drop (c+1):=λ r h=>by
  rw [List.drop_eq_getElem_cons h];simp [List.getD,h]
 rw [e2 _ hc,List.set_cons_zero,List.append_assoc]
 simp [DJ,cn]
theorem J6 {ts:List Ty} {r:List Dat} (h:hasRow ts r):r.length=ts.length:=by
 induction ts generalizing r with
 | nil=>cases r <;> simp [hasRow] at h ⊢
 | cons t ts ih=>
  obtain ⟨d,ds,rfl,h1,h2⟩:=h.cons
  simp [ih h2]
theorem E7 {ts:List Ty} {r:List Dat} {c:Nat} {t:Ty} (h:hasRow ts r) (ht:ts[c]?=some t):Dat.has t (r.getD c (.int 0)):=by
 induction ts generalizing r c with
 | nil=>simp at ht
 | cons t' ts ih=>
  obtain ⟨d,ds,rfl,h1,h2⟩:=h.cons
  cases c with
  | zero=>simp at ht;subst ht;simpa using h1
  | succ c=>simpa using ih h2 (c:=c) (by simpa using ht)
theorem F9 {ts:List Ty} {r:List Dat} {c:Nat} {t:Ty} (h:hasRow ts r) (ht:ts[c]?=some t):c<r.length:=by
 rw [J6 h];exact (List.getElem?_eq_some_iff.1 ht).1
section
variable {ts : List Ty} {k m : Int} {j c : Nat} {l R R' : List (List Dat)} {kx : Int}
theorem mk_bool (h:j<l.length) (hr:hasRow ts (l.getD j [])) (ht:ts[c]?=some .bool) (e:R=mkR k j l m c) (hk:kx=cn m (l.getD j []) c) (h0:0<=m) (hR:R'=Hf R j c (.bool (Int.tmod kx 3 == 0))):R'=mkR k j l m (c+1):=by
 refine LS h (F9 hr ht) e ?_ hR
 have:=E7 hr ht
 obtain ⟨b,hb⟩:=Dat.has_bool this
 have hn:=(Jl m (l.getD j []) c).1
 rw [hb,hk,Int.tmod_eq_emod_of_nonneg (by omega)]
 rfl
theorem mk_int (h:j<l.length) (hr:hasRow ts (l.getD j [])) (ht:ts[c]?=some .int) (e:R=mkR k j l m c) (hk:kx=cn m (l.getD j []) c) (hR:R'=Hf R j c (.int kx)):R'=mkR k j l m (c+1):=by
 refine LS h (F9 hr ht) e ?_ hR
 obtain ⟨b,hb⟩:=Dat.has_int (E7 hr ht)
 rw [hb,hk];rfl
theorem Ua {e' : Nat} {ts' : List Ty} (h:j<l.length) (hr:hasRow ts (l.getD j [])) (ht:ts[c]?=some (.sl e' ts')) (e:R=mkR k j l m c) (hR:R'=Hf R j c (.sl (AY (cn m (l.getD j []) c) (((l.getD j []).getD c (.int 0)).r)))):R'=mkR k j l m (c+1):=by
 refine LS h (F9 hr ht) e ?_ hR
 obtain ⟨b,hb⟩:=Dat.has_sl (E7 hr ht)
 rw [hb];rfl
theorem RB (hr:hasRow ts (l.getD j [])) (ht:ts[c]?=some .bool) (hk:kx=cn m (l.getD j []) c) (h0:0<=m) (hb:m+(Af (l.getD j []):Int)<=4611686018427387904):IntKind.i64.wrap (kx+1)=cn m (l.getD j []) (c+1):=by
 obtain ⟨b,hb'⟩:=Dat.has_bool (E7 hr ht)
 have h1:=Jl m (l.getD j []) c
 rw [hk,NZ (F9 hr ht),hb',AB (by omega) (by omega)];rfl
theorem Na (hr:hasRow ts (l.getD j [])) (ht:ts[c]?=some .int) (hk:kx=cn m (l.getD j []) c) (h0:0<=m) (hb:m+(Af (l.getD j []):Int)<=4611686018427387904):IntKind.i64.wrap (kx+1)=cn m (l.getD j []) (c+1):=by
 obtain ⟨b,hb'⟩:=Dat.has_int (E7 hr ht)
 have h1:=Jl m (l.getD j []) c
 rw [hk,NZ (F9 hr ht),hb',AB (by omega) (by omega)];rfl
theorem Mb {e' : Nat} {ts' : List Ty} (hr:hasRow ts (l.getD j [])) (ht:ts[c]?=some (.sl e' ts')):cn m (l.getD j []) c+(AD (((l.getD j []).getD c (.int 0)).r):Int)=cn m (l.getD j []) (c+1):=by
 obtain ⟨b,hb'⟩:=Dat.has_sl (E7 hr ht)
 rw [NZ (F9 hr ht),hb'];rfl
theorem Ub {e' : Nat} {ts' : List Ty} (hr:hasRow ts (l.getD j [])) (ht:ts[c]?=some (.sl e' ts')) (h0:0<=m) (hb:m+(Af (l.getD j []):Int)<=4611686018427387904) :
  Dat.has (.sl e' ts') (.sl (((l.getD j []).getD c (.int 0)).r))/\0<=cn m (l.getD j []) c/\cn m (l.getD j []) c+(AD (((l.getD j []).getD c (.int 0)).r):Int)<=4611686018427387904:=by
 have h3:=E7 hr ht
 obtain ⟨b,hb'⟩:=Dat.has_sl h3
 have h1:=Jl m (l.getD j []) c
 have h2:=Jl m (l.getD j []) (c+1)
 have h4:=Mb (m:=m) hr ht
 rw [hb'] at h3
 refine ⟨by rw [hb'];exact h3,by omega,by omega⟩
theorem WW {e' : Nat} {ts' : List Ty} (h:j<l.length) (e:R=mkR k j l m c) (hk:kx=cn m (l.getD j []) c):[DA.one (.sl e' ts' (((R.getD j []).getD c (.int 0)).r)),DA.one (.im (.int .i64 kx))]=[DA.one (.sl e' ts' (((l.getD j []).getD c (.int 0)).r)),DA.one (.im (.int .i64 (cn m (l.getD j []) c)))]:=by
 rw [e,VT h,UZ (Nat.le_refl _),hk]
theorem mkL (e:R=mkR k j l m c):R.length=l.length:=by rw [e,VS]
theorem ixL {R:List (List Dat)} {n j:Nat} (hL:R.length=n) (hj:j<n):j<R.length:=hL ▸ hj
theorem ixI {R:List (List Dat)} {n j:Nat} (hL:R.length=n) (hj:j<n):0<=((j:Nat):Int)/\((j:Nat):Int)<(R.length:Int):=by subst hL;omega
theorem Mc {n j:Nat} (hj:j<n):n-(j+1)<n-j:=by omega
theorem Cu {n j:Nat} (hl:n<=9223372036854775807) (hj:j<n):IntKind.i64.wrap (((j:Nat):Int)+1)=(((j+1:Nat)):Int):=by rw [AB (by omega) (by omega)];rfl
theorem D0 (h:j<l.length) (hr:hasRow ts (l.getD j [])) (hc:ts.length<=c) (e:R=mkR k j l m c) (hm:m=k+(AD (l.take j):Int)):R=AZ k (j+1) l:=by
 rw [e,Ng k j l h,← hm]
 unfold mkR QH
 rw [List.take_of_length_le (by rw [J6 hr];exact hc),List.drop_of_length_le (by rw [J6 hr];exact hc),List.append_nil]
theorem D2 (hr:hasRow ts (l.getD j [])) (hc:ts.length<=c) (hk:kx=cn m (l.getD j []) c):kx=m+(Af (l.getD j []):Int):=hk.trans (WV (by rw [J6 hr];exact hc))
end
theorem FV {k m:Int} {j:Nat} {l:List (List Dat)} (h:j<l.length) (hm:m=k+(AD (l.take j):Int)):m+(Af (l.getD j []):Int)=k+(AD (l.take (j+1)):Int)/\m+(Af (l.getD j []):Int)<=k+(AD l:Int):=by
 have h1:=Hv l j h
 have h2:=Jm l (j+1)
 omega
theorem JE {k m:Int} {j:Nat} {l:List (List Dat)} (hm:m=k+(AD (l.take j):Int)):k<=m:=by omega
theorem Dp {k m:Int} {j:Nat} {l:List (List Dat)} (h:l.length<=j) (hm:m=k+(AD (l.take j):Int)):m=k+(AD l:Int):=by rw [hm,List.take_of_length_le h]
theorem Cf {k:Int} {j:Nat} {l:List (List Dat)} (h:j<=l.length) (h2:l.length<=j):AZ k j l=AY k l:=by
 obtain rfl:j=l.length:=by omega
 exact PB k l
theorem O3:∀ {r:List Dat} {m:Int} {c:Nat},c<r.length->(DJ m r).getD c (.int 0)=(r.getD c (.int 0)).mk' (cn m r c)
 | d::r,m,0,_=>by simp [DJ,cn,Af]
 | d::r,m,c+1,h=>by
  have:=O3 (r:=r) (m:=m+(d.cnt:Int)) (c:=c) (by simpa using h)
  simp only [DJ,List.getD_cons_succ,this]
  congr 1
  simp [cn,Af,Int.add_assoc]
section
variable {ts : List Ty} {k m : Int} {j c : Nat} {l : List (List Dat)} {kx : Int}
theorem Nb (h:j<l.length) (hm:m=k+(AD (l.take j):Int)) (hc:c<(l.getD j []).length):((AY k l).getD j []).getD c (.int 0)=((l.getD j []).getD c (.int 0)).mk' (cn m (l.getD j []) c):=by
 rw [Nj k l j h,← hm,O3 hc]
theorem VU (h:j<l.length) (hm:m=k+(AD (l.take j):Int)) (hr:hasRow ts (l.getD j [])) (ht:ts[c]?=some .bool) (hk:kx=cn m (l.getD j []) c) (h0:0<=m):(((AY k l).getD j []).getD c (.int 0)).b=(Int.tmod kx 3 == 0):=by
 obtain ⟨b,hb⟩:=Dat.has_bool (E7 hr ht)
 have hn:=(Jl m (l.getD j []) c).1
 rw [Nb h hm (F9 hr ht),hb,hk,Int.tmod_eq_emod_of_nonneg (by omega)];rfl
theorem WX (h:j<l.length) (hm:m=k+(AD (l.take j):Int)) (hr:hasRow ts (l.getD j [])) (ht:ts[c]?=some .int) (hk:kx=cn m (l.getD j []) c):(((AY k l).getD j []).getD c (.int 0)).n=kx:=by
 obtain ⟨b,hb⟩:=Dat.has_int (E7 hr ht)
 rw [Nb h hm (F9 hr ht),hb,hk];rfl
theorem Vm {e' : Nat} {ts' : List Ty} (h:j<l.length) (hm:m=k+(AD (l.take j):Int)) (hr:hasRow ts (l.getD j [])) (ht:ts[c]?=some (.sl e' ts')) (hk:kx=cn m (l.getD j []) c) :
  [DA.one (.sl e' ts' ((((AY k l).getD j []).getD c (.int 0)).r)),DA.one (.im (.int .i64 kx))]=[DA.one (.sl e' ts' (AY (cn m (l.getD j []) c) (((l.getD j []).getD c (.int 0)).r))),DA.one (.im (.int .i64 (cn m (l.getD j []) c)))]:=by
 obtain ⟨b,hb⟩:=Dat.has_sl (E7 hr ht)
 rw [Nb h hm (F9 hr ht),hb,hk];rfl
end
end Go.Proofs.YtmedodfenejimaaGreat
