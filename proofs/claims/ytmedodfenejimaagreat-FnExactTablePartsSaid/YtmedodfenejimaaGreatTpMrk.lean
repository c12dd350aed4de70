import Derived.Test.YtmedodfenejimaaGreatTpExD
namespace Go.Proofs.YtmedodfenejimaaGreat
set_option linter.unusedVariables false
set_option linter.unusedSimpArgs false
open Go.RowKit
theorem X4 {l:List (List Dat)} {i j:Nat} {r:List Dat} {d:Dat} (h:i<l.length):CT (l.set i r) i j d=l.set i (r.set j d):=by
 simp [CT,List.getD,h,List.set_set]
def Tf (c:Nat) (m:Int) (r:List Dat):List Dat:=D1 m (r.take c)++r.drop c
def cn (m:Int) (r:List Dat) (c:Nat):Int:=m+(Ah (r.take c):Int)
def mkR (k:Int) (j:Nat) (l:List (List Dat)) (m:Int) (c:Nat):List (List Dat):=(AR k j l).set j (Tf c m (l.getD j []))
theorem Jg:∀ (m:Int) (r:List Dat),(D1 m r).length=r.length
 | _,[]=>rfl
 | m,d::r=>by simp [D1,Jg]
theorem O8:∀ (m:Int) (a b:List Dat),D1 m (a++b)=D1 m a++D1 (m+(Ah a:Int)) b
 | m,[],b=>by simp [D1,Ah]
 | m,d::a,b=>by simp [D1,Ah,O8,Int.add_assoc]
theorem J2:∀ (a b:List Dat),Ah (a++b)=Ah a+Ah b
 | [],b=>by simp [Ah]
 | d::a,b=>by simp [Ah,J2,Nat.add_assoc]
theorem O9 {r:List Dat} {c:Nat} (h:c<r.length):r.take (c+1)=r.take c++[r.getD c (.int 0)]:=by
 rw [List.take_add_one];simp [List.getD,h]
theorem IL (m:Int) (r:List Dat):cn m r 0=m:=by simp [cn,Ah]
theorem P5 {m:Int} {r:List Dat} {c:Nat} (h:c<r.length):cn m r (c+1)=cn m r c+((r.getD c (.int 0)).cnt:Int):=by
 unfold cn;rw [O9 h,J2];simp [Ah];omega
theorem Zm {m:Int} {r:List Dat} {c:Nat} (h:r.length<=c):cn m r c=m+(Ah r:Int):=by unfold cn;rw [List.take_of_length_le h]
theorem Rn (m:Int) (r:List Dat) (c:Nat):m<=cn m r c/\cn m r c<=m+(Ah r:Int):=by
 have:Ah r=Ah (r.take c)+Ah (r.drop c):=by rw [← J2,List.take_append_drop]
 unfold cn;omega
theorem G8 {k m:Int} {j:Nat} {l:List (List Dat)} (h:j<l.length):AR k j l=mkR k j l m 0:=by
 unfold mkR Tf
 simp only [List.take_zero,List.drop_zero,D1,List.nil_append]
 rw [← QE k j l h]
 have hl:j<(AR k j l).length:=by rw [BU];exact h
 simp [List.getD,hl]
theorem Yv (k:Int) (j:Nat) (l:List (List Dat)) (m:Int) (c:Nat):(mkR k j l m c).length=l.length:=by unfold mkR;rw [List.length_set,BU]
theorem Yw {k m:Int} {j c:Nat} {l:List (List Dat)} (h:j<l.length):(mkR k j l m c).getD j []=Tf c m (l.getD j []):=by
 have hl:j<(AR k j l).length:=by rw [BU];exact h
 simp [mkR,List.getD,hl]
theorem X5 {m:Int} {r:List Dat} {c c' : Nat} {x:Dat} (h:c<=c'):(Tf c m r).getD c' x=r.getD c' x:=by
 unfold Tf
 have hl:(D1 m (r.take c)).length<=c':=by rw [Jg,List.length_take];omega
 simp only [List.getD,List.getElem?_append_right hl,Jg,List.length_take,List.getElem?_drop]
 by_cases hc:c<=r.length
 ·rw [Nat.min_eq_left hc,Nat.add_sub_cancel' h]
 ·rw [List.getElem?_eq_none (by omega),List.getElem?_eq_none (by omega)]
theorem Nx {k m:Int} {j c:Nat} {l R R' : List (List Dat)} {d:Dat} (h:j<l.length) (hc:c<(l.getD j []).length) (e:R=mkR k j l m c) (hd:d=((l.getD j []).getD c (.int 0)).mk' (cn m (l.getD j []) c)) (hR:R'=CT R j c d):R'=mkR k j l m (c+1):=by
 rw [hR,e]
 unfold mkR
 rw [X4 (by rw [BU];exact h)]
 congr 1
 unfold Tf
 have hl:(D1 m ((l.getD j []).take c)).length=c:=by rw [Jg,List.length_take];omega
 rw [List.set_append_right _ _ (by omega),hl,Nat.sub_self,O9 hc,O8,hd]
 have e2:∀ r:List Dat,c<r.length->r.drop c=r.getD c (.int 0)::r.drop (c+1):=λ r h=>by
  rw [List.drop_eq_getElem_cons h];simp [List.getD,h]
 rw [e2 _ hc,List.set_cons_zero,List.append_assoc]
 simp [D1,cn]
theorem MP {ts:List Ty} {r:List Dat} (h:hasRow ts r):r.length=ts.length:=by
 induction ts generalizing r with
 | nil=>cases r <;> simp [hasRow] at h ⊢
 | cons t ts ih=>
  obtain ⟨d,ds,rfl,h1,h2⟩:=h.cons
  simp [ih h2]
theorem Bj {ts:List Ty} {r:List Dat} {c:Nat} {t:Ty} (h:hasRow ts r) (ht:ts[c]?=some t):Dat.has t (r.getD c (.int 0)):=by
 induction ts generalizing r c with
 | nil=>simp at ht
 | cons t' ts ih=>
  obtain ⟨d,ds,rfl,h1,h2⟩:=h.cons
  cases c with
  | zero=>simp at ht;subst ht;simpa using h1
  | succ c=>simpa using ih h2 (c:=c) (by simpa using ht)
theorem J3 {ts:List Ty} {r:List Dat} {c:Nat} {t:Ty} (h:hasRow ts r) (ht:ts[c]?=some t):c<r.length:=by
 rw [MP h];exact (List.getElem?_eq_some_iff.1 ht).1
section
variable {ts : List Ty} {k m : Int} {j c : Nat} {l R R' : List (List Dat)} {kx : Int}
theorem mk_bool (h:j<l.length) (hr:hasRow ts (l.getD j [])) (ht:ts[c]?=some .bool) (e:R=mkR k j l m c) (hk:kx=cn m (l.getD j []) c) (h0:0<=m) (hR:R'=CT R j c (.bool (Int.tmod kx 3 == 0))):R'=mkR k j l m (c+1):=by
 refine Nx h (J3 hr ht) e ?_ hR
 have:=Bj hr ht
 obtain ⟨b,hb⟩:=Dat.has_bool this
 have hn:=(Rn m (l.getD j []) c).1
 rw [hb,hk,Int.tmod_eq_emod_of_nonneg (by omega)]
 rfl
theorem mk_int (h:j<l.length) (hr:hasRow ts (l.getD j [])) (ht:ts[c]?=some .int) (e:R=mkR k j l m c) (hk:kx=cn m (l.getD j []) c) (hR:R'=CT R j c (.int kx)):R'=mkR k j l m (c+1):=by
 refine Nx h (J3 hr ht) e ?_ hR
 obtain ⟨b,hb⟩:=Dat.has_int (Bj hr ht)
 rw [hb,hk];rfl
theorem EH {e' : Nat} {ts' : List Ty} (h:j<l.length) (hr:hasRow ts (l.getD j [])) (ht:ts[c]?=some (.sl e' ts')) (e:R=mkR k j l m c) (hR:R'=CT R j c (.sl (AP (cn m (l.getD j []) c) (((l.getD j []).getD c (.int 0)).r)))):R'=mkR k j l m (c+1):=by
 refine Nx h (J3 hr ht) e ?_ hR
 obtain ⟨b,hb⟩:=Dat.has_sl (Bj hr ht)
 rw [hb];rfl
theorem FM (hr:hasRow ts (l.getD j [])) (ht:ts[c]?=some .bool) (hk:kx=cn m (l.getD j []) c) (h0:0<=m) (hb:m+(Ah (l.getD j []):Int)<=4611686018427387904):IntKind.i64.wrap (kx+1)=cn m (l.getD j []) (c+1):=by
 obtain ⟨b,hb'⟩:=Dat.has_bool (Bj hr ht)
 have h1:=Rn m (l.getD j []) c
 rw [hk,P5 (J3 hr ht),hb',AD (by omega) (by omega)];rfl
theorem LM (hr:hasRow ts (l.getD j [])) (ht:ts[c]?=some .int) (hk:kx=cn m (l.getD j []) c) (h0:0<=m) (hb:m+(Ah (l.getD j []):Int)<=4611686018427387904):IntKind.i64.wrap (kx+1)=cn m (l.getD j []) (c+1):=by
 obtain ⟨b,hb'⟩:=Dat.has_int (Bj hr ht)
 have h1:=Rn m (l.getD j []) c
 rw [hk,P5 (J3 hr ht),hb',AD (by omega) (by omega)];rfl
theorem Dy {e' : Nat} {ts' : List Ty} (hr:hasRow ts (l.getD j [])) (ht:ts[c]?=some (.sl e' ts')):cn m (l.getD j []) c+(AA (((l.getD j []).getD c (.int 0)).r):Int)=cn m (l.getD j []) (c+1):=by
 obtain ⟨b,hb'⟩:=Dat.has_sl (Bj hr ht)
 rw [P5 (J3 hr ht),hb'];rfl
theorem IM {e' : Nat} {ts' : List Ty} (hr:hasRow ts (l.getD j [])) (ht:ts[c]?=some (.sl e' ts')) (h0:0<=m) (hb:m+(Ah (l.getD j []):Int)<=4611686018427387904) :
  Dat.has (.sl e' ts') (.sl (((l.getD j []).getD c (.int 0)).r))/\0<=cn m (l.getD j []) c/\cn m (l.getD j []) c+(AA (((l.getD j []).getD c (.int 0)).r):Int)<=4611686018427387904:=by
 have h3:=Bj hr ht
 obtain ⟨b,hb'⟩:=Dat.has_sl h3
 have h1:=Rn m (l.getD j []) c
 have h2:=Rn m (l.getD j []) (c+1)
 have h4:=Dy (m:=m) hr ht
 rw [hb'] at h3
 refine ⟨by rw [hb'];exact h3,by omega,by omega⟩
theorem IN {e' : Nat} {ts' : List Ty} (h:j<l.length) (e:R=mkR k j l m c) (hk:kx=cn m (l.getD j []) c):[DA.one (.sl e' ts' (((R.getD j []).getD c (.int 0)).r)),DA.one (.im (.int .i64 kx))]=[DA.one (.sl e' ts' (((l.getD j []).getD c (.int 0)).r)),DA.one (.im (.int .i64 (cn m (l.getD j []) c)))]:=by
 rw [e,Yw h,X5 (Nat.le_refl _),hk]
theorem mkL (e:R=mkR k j l m c):R.length=l.length:=by rw [e,Yv]
theorem ixL {R:List (List Dat)} {n j:Nat} (hL:R.length=n) (hj:j<n):j<R.length:=hL ▸ hj
theorem ixI {R:List (List Dat)} {n j:Nat} (hL:R.length=n) (hj:j<n):0<=((j:Nat):Int)/\((j:Nat):Int)<(R.length:Int):=by subst hL;omega
theorem Ny {n j:Nat} (hj:j<n):n-(j+1)<n-j:=by omega
theorem CX {n j:Nat} (hl:n<=9223372036854775807) (hj:j<n):IntKind.i64.wrap (((j:Nat):Int)+1)=(((j+1:Nat)):Int):=by rw [AD (by omega) (by omega)];rfl
theorem Co (h:j<l.length) (hr:hasRow ts (l.getD j [])) (hc:ts.length<=c) (e:R=mkR k j l m c) (hm:m=k+(AA (l.take j):Int)):R=AR k (j+1) l:=by
 rw [e,QF k j l h,← hm]
 unfold mkR Tf
 rw [List.take_of_length_le (by rw [MP hr];exact hc),List.drop_of_length_le (by rw [MP hr];exact hc),List.append_nil]
theorem Dz (hr:hasRow ts (l.getD j [])) (hc:ts.length<=c) (hk:kx=cn m (l.getD j []) c):kx=m+(Ah (l.getD j []):Int):=hk.trans (Zm (by rw [MP hr];exact hc))
end
theorem Fm {k m:Int} {j:Nat} {l:List (List Dat)} (h:j<l.length) (hm:m=k+(AA (l.take j):Int)):m+(Ah (l.getD j []):Int)=k+(AA (l.take (j+1)):Int)/\m+(Ah (l.getD j []):Int)<=k+(AA l:Int):=by
 have h1:=J5 l j h
 have h2:=Lz l (j+1)
 omega
theorem J4 {k m:Int} {j:Nat} {l:List (List Dat)} (hm:m=k+(AA (l.take j):Int)):k<=m:=by omega
theorem DJ {k m:Int} {j:Nat} {l:List (List Dat)} (h:l.length<=j) (hm:m=k+(AA (l.take j):Int)):m=k+(AA l:Int):=by rw [hm,List.take_of_length_le h]
theorem Bn {k:Int} {j:Nat} {l:List (List Dat)} (h:j<=l.length) (h2:l.length<=j):AR k j l=AP k l:=by
 obtain rfl:j=l.length:=by omega
 exact Rr k l
theorem Ro:∀ {r:List Dat} {m:Int} {c:Nat},c<r.length->(D1 m r).getD c (.int 0)=(r.getD c (.int 0)).mk' (cn m r c)
 | d::r,m,0,_=>by simp [D1,cn,Ah]
 | d::r,m,c+1,h=>by
  have:=Ro (r:=r) (m:=m+(d.cnt:Int)) (c:=c) (by simpa using h)
  simp only [D1,List.getD_cons_succ,this]
  congr 1
  simp [cn,Ah,Int.add_assoc]
section
variable {ts : List Ty} {k m : Int} {j c : Nat} {l : List (List Dat)} {kx : Int}
theorem Yx (h:j<l.length) (hm:m=k+(AA (l.take j):Int)) (hc:c<(l.getD j []).length):((AP k l).getD j []).getD c (.int 0)=((l.getD j []).getD c (.int 0)).mk' (cn m (l.getD j []) c):=by
 rw [QI k l j h,← hm,Ro hc]
theorem Zn (h:j<l.length) (hm:m=k+(AA (l.take j):Int)) (hr:hasRow ts (l.getD j [])) (ht:ts[c]?=some .int) (hk:kx=cn m (l.getD j []) c):(((AP k l).getD j []).getD c (.int 0)).n=kx:=by
 obtain ⟨b,hb⟩:=Dat.has_int (Bj hr ht)
 rw [Yx h hm (J3 hr ht),hb,hk];rfl
end
end Go.Proofs.YtmedodfenejimaaGreat
