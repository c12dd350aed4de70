import Derived.Test.YtmedodfenejimaaBwExD
namespace Go.Proofs.Ytmedodfenejimaa
set_option linter.unusedVariables false
set_option linter.unusedSimpArgs false
open Go.RowKit
theorem setC_set {l:List (List Dat)} {i j:Nat} {r:List Dat} {d:Dat} (h:i<l.length):setC (l.set i r) i j d=l.set i (r.set j d):=by
 simp [setC,List.getD,h,List.set_set]
def mkTo (c:Nat) (m:Int) (r:List Dat):List Dat:=mkRow m (r.take c)++r.drop c
def cn (m:Int) (r:List Dat) (c:Nat):Int:=m+(cntRow (r.take c):Int)
def mkR (k:Int) (j:Nat) (l:List (List Dat)) (m:Int) (c:Nat):List (List Dat):=(marked k j l).set j (mkTo c m (l.getD j []))
theorem mkRow_len:∀ (m:Int) (r:List Dat),(mkRow m r).length=r.length
 | _,[]=>rfl
 | m,d::r=>by simp [mkRow,mkRow_len]
theorem mkRow_app:∀ (m:Int) (a b:List Dat),mkRow m (a++b)=mkRow m a++mkRow (m+(cntRow a:Int)) b
 | m,[],b=>by simp [mkRow,cntRow]
 | m,d::a,b=>by simp [mkRow,cntRow,mkRow_app,Int.add_assoc]
theorem cntRow_app:∀ (a b:List Dat),cntRow (a++b)=cntRow a+cntRow b
 | [],b=>by simp [cntRow]
 | d::a,b=>by simp [cntRow,cntRow_app,Nat.add_assoc]
theorem take_cell {r:List Dat} {c:Nat} (h:c<r.length):r.take (c+1)=r.take c++[r.getD c (.int 0)]:=by
 rw [List.take_add_one];simp [List.getD,h]
theorem cn_zero (m:Int) (r:List Dat):cn m r 0=m:=by simp [cn,cntRow]
theorem cn_succ {m:Int} {r:List Dat} {c:Nat} (h:c<r.length):cn m r (c+1)=cn m r c+((r.getD c (.int 0)).cnt:Int):=by
 unfold cn;rw [take_cell h,cntRow_app];simp [cntRow];omega
theorem cn_all {m:Int} {r:List Dat} {c:Nat} (h:r.length<=c):cn m r c=m+(cntRow r:Int):=by unfold cn;rw [List.take_of_length_le h]
theorem cn_le (m:Int) (r:List Dat) (c:Nat):m<=cn m r c/\cn m r c<=m+(cntRow r:Int):=by
 have:cntRow r=cntRow (r.take c)+cntRow (r.drop c):=by rw [← cntRow_app,List.take_append_drop]
 unfold cn;omega
theorem mkR_zero {k m:Int} {j:Nat} {l:List (List Dat)} (h:j<l.length):marked k j l=mkR k j l m 0:=by
 unfold mkR mkTo
 simp only [List.take_zero,List.drop_zero,mkRow,List.nil_append]
 rw [← marked_getD k j l h]
 have hl:j<(marked k j l).length:=by rw [marked_length];exact h
 simp [List.getD,hl]
theorem mkR_len (k:Int) (j:Nat) (l:List (List Dat)) (m:Int) (c:Nat):(mkR k j l m c).length=l.length:=by unfold mkR;rw [List.length_set,marked_length]
theorem mkR_row {k m:Int} {j c:Nat} {l:List (List Dat)} (h:j<l.length):(mkR k j l m c).getD j []=mkTo c m (l.getD j []):=by
 have hl:j<(marked k j l).length:=by rw [marked_length];exact h
 simp [mkR,List.getD,hl]
theorem mkTo_get {m:Int} {r:List Dat} {c c' : Nat} {x:Dat} (h:c<=c'):(mkTo c m r).getD c' x=r.getD c' x:=by
 unfold mkTo
 have hl:(mkRow m (r.take c)).length<=c':=by rw [mkRow_len,List.length_take];omega
 simp only [List.getD,List.getElem?_append_right hl,mkRow_len,List.length_take,List.getElem?_drop]
 by_cases hc:c<=r.length
 ·rw [Nat.min_eq_left hc,Nat.add_sub_cancel' h]
 ·rw [List.getElem?_eq_none (by omega),List.getElem?_eq_none (by omega)]
theorem mkR_step {k m:Int} {j c:Nat} {l R R' : List (List Dat)} {d:Dat} (h:j<l.length) (hc:c<(l.getD j []).length) (e:R=mkR k j l m c) (hd:d=((l.getD j []).getD c (.int 0)).mk' (cn m (l.getD j []) c)) (hR:R'=setC R j c d):R'=mkR k j l m (c+1):=by
 rw [hR,e]
 unfold mkR
 rw [setC_set (by rw [marked_length];exact h)]
 congr 1
 unfold mkTo
 have hl:(mkRow m ((l.getD j []).take c)).length=c:=by rw [mkRow_len,List.length_take];omega
 rw [List.set_append_right _ _ (by omega),hl,Nat.sub_self,take_cell hc,mkRow_app,hd]
 have e2:∀ r:List Dat,c<r.length->r.drop c=r.getD c (.int 0)::r.drop (c+1):=λ r h=>by
  rw [List.drop_eq_getElem_cons h];simp [List.getD,h]
 rw [e2 _ hc,List.set_cons_zero,List.append_assoc]
 simp [mkRow,cn]
theorem row_len {ts:List Ty} {r:List Dat} (h:hasRow ts r):r.length=ts.length:=by
 induction ts generalizing r with
 | nil=>cases r <;> simp [hasRow] at h ⊢
 | cons t ts ih=>
  obtain ⟨d,ds,rfl,h1,h2⟩:=h.cons
  simp [ih h2]
theorem row_at {ts:List Ty} {r:List Dat} {c:Nat} {t:Ty} (h:hasRow ts r) (ht:ts[c]?=some t):Dat.has t (r.getD c (.int 0)):=by
 induction ts generalizing r c with
 | nil=>simp at ht
 | cons t' ts ih=>
  obtain ⟨d,ds,rfl,h1,h2⟩:=h.cons
  cases c with
  | zero=>simp at ht;subst ht;simpa using h1
  | succ c=>simpa using ih h2 (c:=c) (by simpa using ht)
theorem row_lt {ts:List Ty} {r:List Dat} {c:Nat} {t:Ty} (h:hasRow ts r) (ht:ts[c]?=some t):c<r.length:=by
 rw [row_len h];exact (List.getElem?_eq_some_iff.1 ht).1
section
variable {ts : List Ty} {k m : Int} {j c : Nat} {l R R' : List (List Dat)} {kx : Int}
theorem mk_bool (h:j<l.length) (hr:hasRow ts (l.getD j [])) (ht:ts[c]?=some .bool) (e:R=mkR k j l m c) (hk:kx=cn m (l.getD j []) c) (h0:0<=m) (hR:R'=setC R j c (.bool (Int.tmod kx 3 == 0))):R'=mkR k j l m (c+1):=by
 refine mkR_step h (row_lt hr ht) e ?_ hR
 have:=row_at hr ht
 obtain ⟨b,hb⟩:=Dat.has_bool this
 have hn:=(cn_le m (l.getD j []) c).1
 rw [hb,hk,Int.tmod_eq_emod_of_nonneg (by omega)]
 rfl
theorem mk_int (h:j<l.length) (hr:hasRow ts (l.getD j [])) (ht:ts[c]?=some .int) (e:R=mkR k j l m c) (hk:kx=cn m (l.getD j []) c) (hR:R'=setC R j c (.int kx)):R'=mkR k j l m (c+1):=by
 refine mkR_step h (row_lt hr ht) e ?_ hR
 obtain ⟨b,hb⟩:=Dat.has_int (row_at hr ht)
 rw [hb,hk];rfl
theorem mk_sl {e' : Nat} {ts' : List Ty} (h:j<l.length) (hr:hasRow ts (l.getD j [])) (ht:ts[c]?=some (.sl e' ts')) (e:R=mkR k j l m c) (hR:R'=setC R j c (.sl (mkRows (cn m (l.getD j []) c) (((l.getD j []).getD c (.int 0)).r)))):R'=mkR k j l m (c+1):=by
 refine mkR_step h (row_lt hr ht) e ?_ hR
 obtain ⟨b,hb⟩:=Dat.has_sl (row_at hr ht)
 rw [hb];rfl
theorem nx_bool (hr:hasRow ts (l.getD j [])) (ht:ts[c]?=some .bool) (hk:kx=cn m (l.getD j []) c) (h0:0<=m) (hb:m+(cntRow (l.getD j []):Int)<=4611686018427387904):IntKind.i64.wrap (kx+1)=cn m (l.getD j []) (c+1):=by
 obtain ⟨b,hb'⟩:=Dat.has_bool (row_at hr ht)
 have h1:=cn_le m (l.getD j []) c
 rw [hk,cn_succ (row_lt hr ht),hb',wrap64 (by omega) (by omega)];rfl
theorem nx_int (hr:hasRow ts (l.getD j [])) (ht:ts[c]?=some .int) (hk:kx=cn m (l.getD j []) c) (h0:0<=m) (hb:m+(cntRow (l.getD j []):Int)<=4611686018427387904):IntKind.i64.wrap (kx+1)=cn m (l.getD j []) (c+1):=by
 obtain ⟨b,hb'⟩:=Dat.has_int (row_at hr ht)
 have h1:=cn_le m (l.getD j []) c
 rw [hk,cn_succ (row_lt hr ht),hb',wrap64 (by omega) (by omega)];rfl
theorem nx_sl {e' : Nat} {ts' : List Ty} (hr:hasRow ts (l.getD j [])) (ht:ts[c]?=some (.sl e' ts')):cn m (l.getD j []) c+(cntRows (((l.getD j []).getD c (.int 0)).r):Int)=cn m (l.getD j []) (c+1):=by
 obtain ⟨b,hb'⟩:=Dat.has_sl (row_at hr ht)
 rw [cn_succ (row_lt hr ht),hb'];rfl
theorem p_sl {e' : Nat} {ts' : List Ty} (hr:hasRow ts (l.getD j [])) (ht:ts[c]?=some (.sl e' ts')) (h0:0<=m) (hb:m+(cntRow (l.getD j []):Int)<=4611686018427387904) :
  Dat.has (.sl e' ts') (.sl (((l.getD j []).getD c (.int 0)).r))/\0<=cn m (l.getD j []) c/\cn m (l.getD j []) c+(cntRows (((l.getD j []).getD c (.int 0)).r):Int)<=4611686018427387904:=by
 have h3:=row_at hr ht
 obtain ⟨b,hb'⟩:=Dat.has_sl h3
 have h1:=cn_le m (l.getD j []) c
 have h2:=cn_le m (l.getD j []) (c+1)
 have h4:=nx_sl (m:=m) hr ht
 rw [hb'] at h3
 refine ⟨by rw [hb'];exact h3,by omega,by omega⟩
theorem a_sl {e' : Nat} {ts' : List Ty} (h:j<l.length) (e:R=mkR k j l m c) (hk:kx=cn m (l.getD j []) c):[DA.one (.sl e' ts' (((R.getD j []).getD c (.int 0)).r)),DA.one (.im (.int .i64 kx))]=[DA.one (.sl e' ts' (((l.getD j []).getD c (.int 0)).r)),DA.one (.im (.int .i64 (cn m (l.getD j []) c)))]:=by
 rw [e,mkR_row h,mkTo_get (Nat.le_refl _),hk]
theorem mkL (e:R=mkR k j l m c):R.length=l.length:=by rw [e,mkR_len]
theorem ixL {R:List (List Dat)} {n j:Nat} (hL:R.length=n) (hj:j<n):j<R.length:=hL ▸ hj
theorem ixI {R:List (List Dat)} {n j:Nat} (hL:R.length=n) (hj:j<n):0<=((j:Nat):Int)/\((j:Nat):Int)<(R.length:Int):=by subst hL;omega
theorem mu_lt {n j:Nat} (hj:j<n):n-(j+1)<n-j:=by omega
theorem wrap_j {n j:Nat} (hl:n<=9223372036854775807) (hj:j<n):IntKind.i64.wrap (((j:Nat):Int)+1)=(((j+1:Nat)):Int):=by rw [wrap64 (by omega) (by omega)];rfl
theorem mk_end (h:j<l.length) (hr:hasRow ts (l.getD j [])) (hc:ts.length<=c) (e:R=mkR k j l m c) (hm:m=k+(cntRows (l.take j):Int)):R=marked k (j+1) l:=by
 rw [e,marked_succ k j l h,← hm]
 unfold mkR mkTo
 rw [List.take_of_length_le (by rw [row_len hr];exact hc),List.drop_of_length_le (by rw [row_len hr];exact hc),List.append_nil]
theorem k_end (hr:hasRow ts (l.getD j [])) (hc:ts.length<=c) (hk:kx=cn m (l.getD j []) c):kx=m+(cntRow (l.getD j []):Int):=hk.trans (cn_all (by rw [row_len hr];exact hc))
end
theorem cnt_next {k m:Int} {j:Nat} {l:List (List Dat)} (h:j<l.length) (hm:m=k+(cntRows (l.take j):Int)):m+(cntRow (l.getD j []):Int)=k+(cntRows (l.take (j+1)):Int)/\m+(cntRow (l.getD j []):Int)<=k+(cntRows l:Int):=by
 have h1:=cntRows_take l j h
 have h2:=cntRows_take_le l (j+1)
 omega
theorem cnt_ge {k m:Int} {j:Nat} {l:List (List Dat)} (hm:m=k+(cntRows (l.take j):Int)):k<=m:=by omega
theorem cnt_all {k m:Int} {j:Nat} {l:List (List Dat)} (h:l.length<=j) (hm:m=k+(cntRows (l.take j):Int)):m=k+(cntRows l:Int):=by rw [hm,List.take_of_length_le h]
theorem marked_end {k:Int} {j:Nat} {l:List (List Dat)} (h:j<=l.length) (h2:l.length<=j):marked k j l=mkRows k l:=by
 obtain rfl:j=l.length:=by omega
 exact marked_all k l
theorem mkRow_at:∀ {r:List Dat} {m:Int} {c:Nat},c<r.length->(mkRow m r).getD c (.int 0)=(r.getD c (.int 0)).mk' (cn m r c)
 | d::r,m,0,_=>by simp [mkRow,cn,cntRow]
 | d::r,m,c+1,h=>by
  have:=mkRow_at (r:=r) (m:=m+(d.cnt:Int)) (c:=c) (by simpa using h)
  simp only [mkRow,List.getD_cons_succ,this]
  congr 1
  simp [cn,cntRow,Int.add_assoc]
section
variable {ts : List Ty} {k m : Int} {j c : Nat} {l : List (List Dat)} {kx : Int}
theorem held_at (h:j<l.length) (hm:m=k+(cntRows (l.take j):Int)) (hc:c<(l.getD j []).length):((mkRows k l).getD j []).getD c (.int 0)=((l.getD j []).getD c (.int 0)).mk' (cn m (l.getD j []) c):=by
 rw [mkRows_getD k l j h,← hm,mkRow_at hc]
theorem hd_int (h:j<l.length) (hm:m=k+(cntRows (l.take j):Int)) (hr:hasRow ts (l.getD j [])) (ht:ts[c]?=some .int) (hk:kx=cn m (l.getD j []) c):(((mkRows k l).getD j []).getD c (.int 0)).n=kx:=by
 obtain ⟨b,hb⟩:=Dat.has_int (row_at hr ht)
 rw [held_at h hm (row_lt hr ht),hb,hk];rfl
end
end Go.Proofs.Ytmedodfenejimaa
