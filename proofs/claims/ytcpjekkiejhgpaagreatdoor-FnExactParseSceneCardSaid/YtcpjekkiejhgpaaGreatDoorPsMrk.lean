import Derived.Test.YtcpjekkiejhgpaaGreatDoorPsExD
namespace Go.Proofs.YtcpjekkiejhgpaaGreatDoor
set_option linter.unusedVariables false
set_option linter.unusedSimpArgs false
open Go.RowKit
theorem Pl {l:List (List Dat)} {i j:Nat} {r:List Dat} {d:Dat} (h:i<l.length):Hj (l.set i r) i j d=l.set i (r.set j d):=by
 simp [Hj,List.getD,h,List.set_set]
def Mq (c:Nat) (m:Int) (r:List Dat):List Dat:=Bt m (r.take c)++r.drop c
def cn (m:Int) (r:List Dat) (c:Nat):Int:=m+(Aa (r.take c):Int)
def mkR (k:Int) (j:Nat) (l:List (List Dat)) (m:Int) (c:Nat):List (List Dat):=(Ag k j l).set j (Mq c m (l.getD j []))
theorem Ek:∀ (m:Int) (r:List Dat),(Bt m r).length=r.length
 | _,[]=>rfl
 | m,d::r=>by simp [Bt,Ek]
theorem Jt:∀ (m:Int) (a b:List Dat),Bt m (a++b)=Bt m a++Bt (m+(Aa a:Int)) b
 | m,[],b=>by simp [Bt,Aa]
 | m,d::a,b=>by simp [Bt,Aa,Jt,Int.add_assoc]
theorem FI:∀ (a b:List Dat),Aa (a++b)=Aa a+Aa b
 | [],b=>by simp [Aa]
 | d::a,b=>by simp [Aa,FI,Nat.add_assoc]
theorem Ju {r:List Dat} {c:Nat} (h:c<r.length):r.take (c+1)=r.take c++[r.getD c (.int 0)]:=by
 rw [List.take_add_one];simp [List.getD,h]
theorem HS (m:Int) (r:List Dat):cn m r 0=m:=by simp [cn,Aa]
theorem NU {m:Int} {r:List Dat} {c:Nat} (h:c<r.length):cn m r (c+1)=cn m r c+((r.getD c (.int 0)).cnt:Int):=by
 unfold cn;rw [Ju h,FI];simp [Aa];omega
theorem Qr {m:Int} {r:List Dat} {c:Nat} (h:r.length<=c):cn m r c=m+(Aa r:Int):=by unfold cn;rw [List.take_of_length_le h]
theorem Lz (m:Int) (r:List Dat) (c:Nat):m<=cn m r c/\cn m r c<=m+(Aa r:Int):=by
 have:Aa r=Aa (r.take c)+Aa (r.drop c):=by rw [← FI,List.take_append_drop]
 unfold cn;omega
theorem L0 {k m:Int} {j:Nat} {l:List (List Dat)} (h:j<l.length):Ag k j l=mkR k j l m 0:=by
 unfold mkR Mq
 simp only [List.take_zero,List.drop_zero,Bt,List.nil_append]
 rw [← Kc k j l h]
 have hl:j<(Ag k j l).length:=by rw [BI];exact h
 simp [List.getD,hl]
theorem QM (k:Int) (j:Nat) (l:List (List Dat)) (m:Int) (c:Nat):(mkR k j l m c).length=l.length:=by unfold mkR;rw [List.length_set,BI]
theorem QN {k m:Int} {j c:Nat} {l:List (List Dat)} (h:j<l.length):(mkR k j l m c).getD j []=Mq c m (l.getD j []):=by
 have hl:j<(Ag k j l).length:=by rw [BI];exact h
 simp [mkR,List.getD,hl]
theorem Pm {m:Int} {r:List Dat} {c c' : Nat} {x:Dat} (h:c<=c'):(Mq c m r).getD c' x=r.getD c' x:=by
 unfold Mq
 have hl:(Bt m (r.take c)).length<=c':=by rw [Ek,List.length_take];omega
 simp only [List.getD,List.getElem?_append_right hl,Ek,List.length_take,List.getElem?_drop]
 by_cases hc:c<=r.length
 ·rw [Nat.min_eq_left hc,Nat.add_sub_cancel' h]
 ·rw [List.getElem?_eq_none (by omega),List.getElem?_eq_none (by omega)]
theorem Ix {k m:Int} {j c:Nat} {l R R' : List (List Dat)} {d:Dat} (h:j<l.length) (hc:c<(l.getD j []).length) (e:R=mkR k j l m c) (hd:d=((l.getD j []).getD c (.int 0)).mk' (cn m (l.getD j []) c)) (hR:R'=Hj R j c d):R'=mkR k j l m (c+1):=by
 rw [hR,e]
 unfold mkR
 rw [Pl (by rw [BI];exact h)]
 congr 1
 unfold Mq
 have hl:(Bt m ((l.getD j []).take c)).length=c:=by rw [Ek,List.length_take];omega
 rw [List.set_append_right _ _ (by omega),hl,Nat.sub_self,Ju hc,Jt,hd]
 have e2:∀ r:List Dat,c<r.length->r.drop c=r.getD c (.int 0)::r.drop (c+1):=λ r h=>by
  rw [List.drop_eq_getElem_cons h];simp [List.getD,h]
 rw [e2 _ hc,List.set_cons_zero,List.append_assoc]
 simp [Bt,cn]
theorem HW {ts:List Ty} {r:List Dat} (h:hasRow ts r):r.length=ts.length:=by
 induction ts generalizing r with
 | nil=>cases r <;> simp [hasRow] at h ⊢
 | cons t ts ih=>
  obtain ⟨d,ds,rfl,h1,h2⟩:=h.cons
  simp [ih h2]
theorem EM {ts:List Ty} {r:List Dat} {c:Nat} {t:Ty} (h:hasRow ts r) (ht:ts[c]?=some t):Dat.has t (r.getD c (.int 0)):=by
 induction ts generalizing r c with
 | nil=>simp at ht
 | cons t' ts ih=>
  obtain ⟨d,ds,rfl,h1,h2⟩:=h.cons
  cases c with
  | zero=>simp at ht;subst ht;simpa using h1
  | succ c=>simpa using ih h2 (c:=c) (by simpa using ht)
theorem FJ {ts:List Ty} {r:List Dat} {c:Nat} {t:Ty} (h:hasRow ts r) (ht:ts[c]?=some t):c<r.length:=by
 rw [HW h];exact (List.getElem?_eq_some_iff.1 ht).1
section
variable {ts : List Ty} {k m : Int} {j c : Nat} {l R R' : List (List Dat)} {kx : Int}
theorem mk_bool (h:j<l.length) (hr:hasRow ts (l.getD j [])) (ht:ts[c]?=some .bool) (e:R=mkR k j l m c) (hk:kx=cn m (l.getD j []) c) (h0:0<=m) (hR:R'=Hj R j c (.bool (Int.tmod kx 3 == 0))):R'=mkR k j l m (c+1):=by
 refine Ix h (FJ hr ht) e ?_ hR
 have:=EM hr ht
 obtain ⟨b,hb⟩:=Dat.has_bool this
 have hn:=(Lz m (l.getD j []) c).1
 rw [hb,hk,Int.tmod_eq_emod_of_nonneg (by omega)]
 rfl
theorem mk_int (h:j<l.length) (hr:hasRow ts (l.getD j [])) (ht:ts[c]?=some .int) (e:R=mkR k j l m c) (hk:kx=cn m (l.getD j []) c) (hR:R'=Hj R j c (.int kx)):R'=mkR k j l m (c+1):=by
 refine Ix h (FJ hr ht) e ?_ hR
 obtain ⟨b,hb⟩:=Dat.has_int (EM hr ht)
 rw [hb,hk];rfl
theorem RL {e' : Nat} {ts' : List Ty} (h:j<l.length) (hr:hasRow ts (l.getD j [])) (ht:ts[c]?=some (.sl e' ts')) (e:R=mkR k j l m c) (hR:R'=Hj R j c (.sl (AT (cn m (l.getD j []) c) (((l.getD j []).getD c (.int 0)).r)))):R'=mkR k j l m (c+1):=by
 refine Ix h (FJ hr ht) e ?_ hR
 obtain ⟨b,hb⟩:=Dat.has_sl (EM hr ht)
 rw [hb];rfl
theorem KS (hr:hasRow ts (l.getD j [])) (ht:ts[c]?=some .int) (hk:kx=cn m (l.getD j []) c) (h0:0<=m) (hb:m+(Aa (l.getD j []):Int)<=4611686018427387904):IntKind.i64.wrap (kx+1)=cn m (l.getD j []) (c+1):=by
 obtain ⟨b,hb'⟩:=Dat.has_int (EM hr ht)
 have h1:=Lz m (l.getD j []) c
 rw [hk,NU (FJ hr ht),hb',AG (by omega) (by omega)];rfl
theorem Pn {e' : Nat} {ts' : List Ty} (hr:hasRow ts (l.getD j [])) (ht:ts[c]?=some (.sl e' ts')):cn m (l.getD j []) c+(AC (((l.getD j []).getD c (.int 0)).r):Int)=cn m (l.getD j []) (c+1):=by
 obtain ⟨b,hb'⟩:=Dat.has_sl (EM hr ht)
 rw [NU (FJ hr ht),hb'];rfl
theorem RM {e' : Nat} {ts' : List Ty} (hr:hasRow ts (l.getD j [])) (ht:ts[c]?=some (.sl e' ts')) (h0:0<=m) (hb:m+(Aa (l.getD j []):Int)<=4611686018427387904) :
  Dat.has (.sl e' ts') (.sl (((l.getD j []).getD c (.int 0)).r))/\0<=cn m (l.getD j []) c/\cn m (l.getD j []) c+(AC (((l.getD j []).getD c (.int 0)).r):Int)<=4611686018427387904:=by
 have h3:=EM hr ht
 obtain ⟨b,hb'⟩:=Dat.has_sl h3
 have h1:=Lz m (l.getD j []) c
 have h2:=Lz m (l.getD j []) (c+1)
 have h4:=Pn (m:=m) hr ht
 rw [hb'] at h3
 refine ⟨by rw [hb'];exact h3,by omega,by omega⟩
theorem Ri {e' : Nat} {ts' : List Ty} (h:j<l.length) (e:R=mkR k j l m c) (hk:kx=cn m (l.getD j []) c):[DA.one (.sl e' ts' (((R.getD j []).getD c (.int 0)).r)),DA.one (.im (.int .i64 kx))]=[DA.one (.sl e' ts' (((l.getD j []).getD c (.int 0)).r)),DA.one (.im (.int .i64 (cn m (l.getD j []) c)))]:=by
 rw [e,QN h,Pm (Nat.le_refl _),hk]
theorem mkL (e:R=mkR k j l m c):R.length=l.length:=by rw [e,QM]
theorem ixL {R:List (List Dat)} {n j:Nat} (hL:R.length=n) (hj:j<n):j<R.length:=hL ▸ hj
theorem ixI {R:List (List Dat)} {n j:Nat} (hL:R.length=n) (hj:j<n):0<=((j:Nat):Int)/\((j:Nat):Int)<(R.length:Int):=by subst hL;omega
theorem NV {n j:Nat} (hj:j<n):n-(j+1)<n-j:=by omega
theorem DP {n j:Nat} (hl:n<=9223372036854775807) (hj:j<n):IntKind.i64.wrap (((j:Nat):Int)+1)=(((j+1:Nat)):Int):=by rw [AG (by omega) (by omega)];rfl
theorem GQ (h:j<l.length) (hr:hasRow ts (l.getD j [])) (hc:ts.length<=c) (e:R=mkR k j l m c) (hm:m=k+(AC (l.take j):Int)):R=Ag k (j+1) l:=by
 rw [e,Kd k j l h,← hm]
 unfold mkR Mq
 rw [List.take_of_length_le (by rw [HW hr];exact hc),List.drop_of_length_le (by rw [HW hr];exact hc),List.append_nil]
theorem Eu (hr:hasRow ts (l.getD j [])) (hc:ts.length<=c) (hk:kx=cn m (l.getD j []) c):kx=m+(Aa (l.getD j []):Int):=hk.trans (Qr (by rw [HW hr];exact hc))
end
theorem Fr {k m:Int} {j:Nat} {l:List (List Dat)} (h:j<l.length) (hm:m=k+(AC (l.take j):Int)):m+(Aa (l.getD j []):Int)=k+(AC (l.take (j+1)):Int)/\m+(Aa (l.getD j []):Int)<=k+(AC l:Int):=by
 have h1:=FL l j h
 have h2:=Gu l (j+1)
 omega
theorem KT {k m:Int} {j:Nat} {l:List (List Dat)} (hm:m=k+(AC (l.take j):Int)):k<=m:=by omega
theorem El {k m:Int} {j:Nat} {l:List (List Dat)} (h:l.length<=j) (hm:m=k+(AC (l.take j):Int)):m=k+(AC l:Int):=by rw [hm,List.take_of_length_le h]
theorem Dt {k:Int} {j:Nat} {l:List (List Dat)} (h:j<=l.length) (h2:l.length<=j):Ag k j l=AT k l:=by
 obtain rfl:j=l.length:=by omega
 exact L4 k l
theorem L1:∀ {r:List Dat} {m:Int} {c:Nat},c<r.length->(Bt m r).getD c (.int 0)=(r.getD c (.int 0)).mk' (cn m r c)
 | d::r,m,0,_=>by simp [Bt,cn,Aa]
 | d::r,m,c+1,h=>by
  have:=L1 (r:=r) (m:=m+(d.cnt:Int)) (c:=c) (by simpa using h)
  simp only [Bt,List.getD_cons_succ,this]
  congr 1
  simp [cn,Aa,Int.add_assoc]
section
variable {ts : List Ty} {k m : Int} {j c : Nat} {l : List (List Dat)} {kx : Int}
theorem NW (h:j<l.length) (hm:m=k+(AC (l.take j):Int)) (hc:c<(l.getD j []).length):((AT k l).getD j []).getD c (.int 0)=((l.getD j []).getD c (.int 0)).mk' (cn m (l.getD j []) c):=by
 rw [Kf k l j h,← hm,L1 hc]
theorem Po (h:j<l.length) (hm:m=k+(AC (l.take j):Int)) (hr:hasRow ts (l.getD j [])) (ht:ts[c]?=some .int) (hk:kx=cn m (l.getD j []) c):(((AT k l).getD j []).getD c (.int 0)).n=kx:=by
 obtain ⟨b,hb⟩:=Dat.has_int (EM hr ht)
 rw [NW h hm (FJ hr ht),hb,hk];rfl
theorem RN {e' : Nat} {ts' : List Ty} (h:j<l.length) (hm:m=k+(AC (l.take j):Int)) (hr:hasRow ts (l.getD j [])) (ht:ts[c]?=some (.sl e' ts')) (hk:kx=cn m (l.getD j []) c) :
  [DA.one (.sl e' ts' ((((AT k l).getD j []).getD c (.int 0)).r)),DA.one (.im (.int .i64 kx))]=[DA.one (.sl e' ts' (AT (cn m (l.getD j []) c) (((l.getD j []).getD c (.int 0)).r))),DA.one (.im (.int .i64 (cn m (l.getD j []) c)))]:=by
 obtain ⟨b,hb⟩:=Dat.has_sl (EM hr ht)
 rw [NW h hm (FJ hr ht),hb,hk];rfl
end
end Go.Proofs.YtcpjekkiejhgpaaGreatDoor
