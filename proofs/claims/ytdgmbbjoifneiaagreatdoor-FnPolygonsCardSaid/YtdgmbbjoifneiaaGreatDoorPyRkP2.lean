import Derived.Test.YtdgmbbjoifneiaaGreatDoorPyRkW1
import Derived.Test.YtdgmbbjoifneiaaGreatDoorPyGro
import Derived.Test.YtdgmbbjoifneiaaGreatDoorPyCon
import Derived.Test.YtdgmbbjoifneiaaGreatDoorPyHulR
namespace Go.Proofs.YtdgmbbjoifneiaaGreatDoor
set_option maxRecDepth 100000
set_option linter.unusedVariables false
set_option linter.unusedSimpArgs false
open Go.RowKit
def GF:Con:={ ι:=Int,pre:=λ i=>0<i/\i<=1048576,args:=λ i=>[.one (.im (.slice none 0 0)),.one (.im (.int .i64 i))],nilA:=true,res:=λ i=>⟨false,[none],[.own 26 [.int,.int] ([]:List (List Dat))]⟩ }
theorem Ub:GF.Ok Tryz.prog 46 where
 enter:=⟨_,Tryz.func46,by decide,rfl⟩
 small:=λ _=>Nat.le_of_ble_eq_true rfl
 calls:=by
  intro i hi F w us mb h
  obtain ⟨u0,u1,rfl⟩:∃ u0 u1,us=[u0,u1]:=by
   match us,h.len with
   | [a,b],_=>exact ⟨a,b,rfl⟩
  have e0:u0=.slice none 0 0:=h.rd 0 _ _ rfl rfl (List.not_mem_nil)
  have e1:u1=.int .i64 i:=h.rd 1 _ _ rfl rfl (List.not_mem_nil)
  subst e0;subst e1
  refine (Wu i hi.1 hi.2 w).mono ?_
  rintro e w' ⟨cap,rfl,ho,hb⟩
  refine ⟨[.slice (some ⟨w.heap.size,0,none⟩) 0 cap],[w.heap.size],rfl,⟨⟨[w.heap.size],[],rfl,?_,rfl⟩,by simp,λ b hb=>.inl (by rw [List.mem_singleton.1 hb];exact Nat.le_refl _),λ j p e ts rows u _ hj=>(by cases hj),hb.os,hb.tape,hb.output,hb.size,λ b hb' _=>hb.block b hb'⟩⟩
  simp only [Fp]
  refine ⟨[],[],?_,rfl,rfl,by simp,by simp,rfl⟩
  refine ⟨ho.1,?_⟩
  rcases ho.2 with h|⟨gg,cp,cur,h1,h2,h3⟩
  ·exact .inl h
  ·exact .inr ⟨gg,cp,cur,h1,Nat.zero_le _,h3⟩
theorem Vp {α:Type} [DecidableEq α] {a b:List α} {k:Nat} {d:α} (ha:k<a.length) (hb:k<b.length) (h:a.getD k d≠b.getD k d):a≠b:=λ e=>h (by rw [e])
theorem R8 {α:Type} {a b:List α} {k:Nat} {d:α} (ha:k<a.length) (hb:k<b.length) (h0:a.take k=b.take k) (h:a.getD k d=b.getD k d):a.take (k+1)=b.take (k+1):=by
 rw [Bz a d k ha,Bz b d k hb,h0,h]
theorem R9 {α:Type} {a b:List α} {k:Nat} (hk:k=a.length) (hl:a.length=b.length) (h0:a.take k=b.take k):a=b:=by
 rw [List.take_of_length_le (by omega),List.take_of_length_le (by omega)] at h0;exact h0
theorem Vq {p q:V2} (h:[p.1,p.2]=[q.1,q.2]):p=q:=by
 injection h with h1 h2
 injection h2 with h2
 exact Prod.ext h1 h2
theorem Li {l:List (List V2)} {k:Nat} (hk:k<l.length):(((AS l).getD k []).getD 0 (.int 0)).r=AA (l.getD k []):=by simp [AS,List.getD,hk,Dat.r]
theorem Lj {l:List (List V2)} {k:Nat} (hk:k<l.length):(l.take (k+1)).flatten=(l.take k).flatten++l.getD k []:=by
 rw [Bz l [] k hk,List.flatten_append];simp
theorem Qr {l:List (List V2)} (k:Nat):(l.take k).flatten.length<=l.flatten.length:=by
 conv=>rhs;rw [← List.take_append_drop k l]
 rw [List.flatten_append,List.length_append];omega
def A1 (l m:List V2):Bool:=decide (l.length=m.length) && (decide (l.length=0) || (List.range l.length).any λ i=>decide (l=m.drop i++m.take i))
theorem Uc {l m:List V2} (h:l.length≠m.length):A1 l m=false:=by unfold A1;rw [decide_eq_false h];rfl
theorem OP {l m:List V2} {k:Nat} (h:l.length=m.length) (hk:k<l.length) (e:l=m.drop k++m.take k):A1 l m=true:=by
 unfold A1
 rw [decide_eq_true h,List.any_eq_true.2 ⟨k,List.mem_range.2 hk,decide_eq_true e⟩];simp
theorem SA {l m:List V2} (h:l.length=m.length) (hn:∀ i,i<l.length->l≠m.drop i++m.take i):A1 l m=decide (l.length=0):=by
 unfold A1
 have:((List.range l.length).any λ i=>decide (l=m.drop i++m.take i))=false:=by
  rw [List.any_eq_false]
  intro i hi
  simpa using hn i (List.mem_range.1 hi)
 rw [decide_eq_true h,this];simp
def Dl (l:List V2) (n:Nat):Int:=((List.range n).map λ i=>AM (l.getD 0 (0,0)) (l.getD i (0,0)) (l.getD (i+1) (0,0))).sum
def DD (l:List V2):Int:=if AI l=true then Pj l else 0
theorem Lk (l:List V2) (n:Nat):Dl l (n+1)=Dl l n+AM (l.getD 0 (0,0)) (l.getD n (0,0)) (l.getD (n+1) (0,0)):=by
 unfold Dl;rw [List.range_succ,List.map_append,List.sum_append];simp
theorem Ud (l:List V2):Dl l 1=0:=by
 unfold Dl;simp [List.range_succ]
 unfold AM;grind
theorem KN {l:List V2} (h:1<=l.length):Dl l (l.length-1)=Pj l:=by
 unfold Pj;rw [Qp _ _ (l.length-1) (by omega)];rfl
theorem Vr {a b c:V2} (ha:AE a=true) (hb:AE b=true) (hc:AE c=true):-16000000<=AM a b c/\AM a b c<=16000000:=by
 have:=Ay ha
 have:=Ay hb
 have:=Ay hc
 have key:∀ x y:Int,-2000<=x->x<=2000->-2000<=y->y<=2000->-4000000<=x*y/\x*y<=4000000:=by
  intro x y h1 h2 h3 h4
  have e1:=Int.mul_nonneg (show 0<=2000-x by omega) (show 0<=2000-y by omega)
  have e2:=Int.mul_nonneg (show 0<=2000+x by omega) (show 0<=2000+y by omega)
  have e3:=Int.mul_nonneg (show 0<=2000-x by omega) (show 0<=2000+y by omega)
  have e4:=Int.mul_nonneg (show 0<=2000+x by omega) (show 0<=2000-y by omega)
  constructor <;> grind
 have k1:=key (b.1-a.1) (c.2-a.2) (by omega) (by omega) (by omega) (by omega)
 have k2:=key (b.2-a.2) (c.1-a.1) (by omega) (by omega) (by omega) (by omega)
 unfold AM;omega
theorem MW {l:List V2} (hl:l.all AE=true):∀ n,n<l.length->-16000000*(n:Int)<=Dl l n/\Dl l n<=16000000*(n:Int)
 | 0,_=>by unfold Dl;simp
 | n+1,h=>by
  have ih:=MW hl n (by omega)
  have:=Vr (AW hl (show 0<l.length by omega)) (AW hl (show n<l.length by omega)) (AW hl h)
  rw [Lk];omega
def FB:Con:={ ι:=(List V2)×(List V2),pre:=λ i=>i.1.length<=1048576/\i.2.length<=1048576,args:=λ i=>[.one (.sl 26 [.int,.int] (AA i.1)),.one (.sl 26 [.int,.int] (AA i.2))],res:=λ i=>⟨false,[none],[.im (Value.bool (decide (i.1=i.2)))]⟩ }
theorem SB:FB.Ok Tryz.prog 27:=by
 refine fok (X:=⟨tt,[],[],26,[]⟩) mixed AP (CTok.nil _) Tryz.func27 (λ (i:(List V2)×(List V2))=>[(4,.mk 3 (Nat) (λ x1=>{ tm:=[(0,.one (.one (.ext 1))),(1,.one (.one (.ext 2))),(12,.one (.one (.im (Value.int .i64 ((i.1.length:Nat):Int))))),(13,.one (.one (.im (Value.int .i64 (x1:Int)))))],en:=[(1,.view 26 [.int,.int] (AA i.1) []),(2,.view 26 [.int,.int] (AA i.2) [])] }) (λ x1=>x1<=i.1.length/\i.1.length=i.2.length/\i.1.take x1=i.2.take x1) (λ x1=>i.1.length-x1) (λ _=>[]))]) ?_
 rintro ⟨a,b⟩ hpre
 have hpre:a.length<=1048576/\b.length<=1048576:=hpre
 refine AO (q:=(((((AA a).length:Nat):Int) != (((AA b).length:Nat):Int))=true->((Value.bool false=Value.bool (decide (a=b)))))/\(((((AA a).length:Nat):Int) != (((AA b).length:Nat):Int))=false->((∃ x1:Nat,(x1<=a.length/\a.length=b.length/\a.take x1=b.take x1)/\((Value.int .i64 (((AA a).length:Nat):Int)=Value.int .i64 ((a.length:Nat):Int))/\(Value.int .i64 (0:Int)=Value.int .i64 (x1:Int))/\(rf (AA a))/\(rf (AA b))))/\∀ x1:Nat,(x1<=a.length/\a.length=b.length/\a.take x1=b.take x1)->(((decide ((x1:Int)<((a.length:Nat):Int)))=true->((0<=(x1:Int)/\(x1:Int)<((AA a).length:Int))/\((x1<(AA a).length)/\((0<=(x1:Int)/\(x1:Int)<((AA b).length:Int))/\((x1<(AA b).length)/\(((!([((((AA a).getD x1 []).getD 0 (.int 0))).n,((((AA a).getD x1 []).getD 1 (.int 0))).n] == [((((AA b).getD x1 []).getD 0 (.int 0))).n,((((AA b).getD x1 []).getD 1 (.int 0))).n]))=true->((Value.bool false=Value.bool (decide (a=b)))))/\((!([((((AA a).getD x1 []).getD 0 (.int 0))).n,((((AA a).getD x1 []).getD 1 (.int 0))).n] == [((((AA b).getD x1 []).getD 0 (.int 0))).n,((((AA b).getD x1 []).getD 1 (.int 0))).n]))=false->(∃ y2:Nat,(y2<=a.length/\a.length=b.length/\a.take y2=b.take y2)/\(a.length-y2<a.length-x1)/\((rf (Value.int .i64 ((a.length:Nat):Int)))/\(Value.int .i64 (IntKind.i64.wrap ((x1:Int)+(1:Int)))=Value.int .i64 (y2:Int))/\(rf (AA a))/\(rf (AA b)))))))))))/\((decide ((x1:Int)<((a.length:Nat):Int)))=false->((Value.bool true=Value.bool (decide (a=b))))))))) (by kernel_rfl) ?_
 have hva:=AB a
 have hvb:=AB b
 refine ⟨λ c1=>?_,λ c1=>?_⟩
 ·-- c1t: ((((AA a).length : Nat) : Int) != (((AA b).length : Nat) : Int)) = true
  replace c1:((((AA a).length:Nat):Int) != (((AA b).length:Nat):Int))=true:=c1
  try simp only [nrm] at c1
  have hne:a≠b:=λ e=>c1 (by rw [e])
  -- l2: Value.bool false = Value.bool (decide (a = b))
  show Value.bool false=Value.bool (decide (a=b))
  exact congrArg Value.bool (decide_eq_false hne).symm
 -- c1f: ((((AA a).length : Nat) : Int) != (((AA b).length : Nat) : Int)) = false
 replace c1:((((AA a).length:Nat):Int) != (((AA b).length:Nat):Int))=false:=c1
 try simp only [nrm] at c1
 -- i3
 refine ⟨⟨0,by
  first|exact ⟨Nat.zero_le _,by omega,rfl⟩|omega|trivial,?_⟩,?_⟩
 ·-- the beginning
  refine ⟨?_,rfl,rfl,rfl⟩
  -- b5: Value.int .i64 (((AA a).length : Nat) : Int) = Value.int .i64 ((a.length : Nat) : Int)
  show Value.int .i64 (((AA a).length:Nat):Int)=Value.int .i64 ((a.length:Nat):Int)
  first|rfl|exact AQ (by rw [hva])
 intro (k:Nat) hki3
 have hki3:k<=a.length/\a.length=b.length/\a.take k=b.take k:=hki3
 refine And.symm ⟨λ c9=>?_,λ c9=>?_⟩
 ·-- c9f: (decide ((k : Int) < ((a.length : Nat) : Int))) = false
  replace c9:(decide ((k:Int)<((a.length:Nat):Int)))=false:=c9
  try simp only [nrm] at c9
  have he:a=b:=R9 (by omega) hki3.2.1 hki3.2.2
  -- l23: Value.bool true = Value.bool (decide (a = b))
  show Value.bool true=Value.bool (decide (a=b))
  exact congrArg Value.bool (decide_eq_true he).symm
 -- c9t: (decide ((k : Int) < ((a.length : Nat) : Int))) = true
 replace c9:(decide ((k:Int)<((a.length:Nat):Int)))=true:=c9
 try simp only [nrm] at c9
 refine ao (a:=0<=(k:Int)/\(k:Int)<((AA a).length:Int)) (by first|omega|rfl) λ o10=>?_
 refine ao (a:=k<(AA a).length) (by first|omega|rfl) λ o11=>?_
 refine ao (a:=0<=(k:Int)/\(k:Int)<((AA b).length:Int)) (by first|omega|rfl) λ o12=>?_
 refine ao (a:=k<(AA b).length) (by first|omega|rfl) λ o13=>?_
 refine ⟨λ c14=>?_,λ c14=>?_⟩
 ·-- c14t: (!([((((AA a).getD k []).getD 0 (.int 0))).n, ((((AA a).getD k []).getD 1 (.int 0))).n] == [((((AA b).getD k []).getD 0 (.int 0))).n, ((((AA b).getD k []).getD 1 (.int 0))).n])) = true
  try dsimp only at c14
  try simp only [nrm] at c14
  rw [AT (show k<a.length by omega),AU (show k<a.length by omega),AT (show k<b.length by omega),AU (show k<b.length by omega)] at c14
  have hne:a≠b:=Vp (d:=(0,0)) (k:=k) (by omega) (by omega) (λ e=>c14 (by rw [e]))
  -- l15: Value.bool false = Value.bool (decide (a = b))
  show Value.bool false=Value.bool (decide (a=b))
  exact congrArg Value.bool (decide_eq_false hne).symm
 -- c14f: (!([((((AA a).getD k []).getD 0 (.int 0))).n, ((((AA a).getD k []).getD 1 (.int 0))).n] == [((((AA b).getD k []).getD 0 (.int 0))).n, ((((AA b).getD k []).getD 1 (.int 0))).n])) = false
 try dsimp only at c14
 try simp only [nrm] at c14
 rw [AT (show k<a.length by omega),AU (show k<a.length by omega),AT (show k<b.length by omega),AU (show k<b.length by omega)] at c14
 have hq:=R8 (d:=(0,0)) (by omega) (by omega) hki3.2.2 (Vq c14)
 -- n16
 refine ⟨k+1,by
  exact ⟨by omega,hki3.2.1,hq⟩,by
  first|omega|(simp;omega),?_⟩
 refine ⟨rfl,?_,rfl,rfl⟩
 -- e20: Value.int .i64 (IntKind.i64.wrap ((k : Int) + (1 : Int))) = Value.int .i64 ((k + 1) : Int)
 show Value.int .i64 (IntKind.i64.wrap ((k:Int)+(1:Int)))=Value.int .i64 ((k+1):Int)
 first|rfl|exact AQ (AF (by omega) (by omega))
def GG:Con:={ ι:=(List (List V2)),pre:=λ i=>i.length<=1048576/\0<i.flatten.length/\i.flatten.length<=1048576,args:=λ i=>[.one (.sl 23 [.sl 26 [.int,.int]] (AS i))],res:=λ i=>⟨false,[none],[.own 26 [.int,.int] (AA i.flatten)]⟩ }
theorem Ue:GG.Ok Tryz.prog 28:=by
 refine fok (X:=⟨tt,[(46,GF)],[],36,[]⟩) mixed AP (CTok.cons Ub (CTok.nil _)) Tryz.func28 (λ (i:(List (List V2)))=>[(11,.mk 3 (Nat) (λ x3=>{ tm:=[(25,.one (.one (.ext 1))),(6,.one (.one (.ext 2))),(26,.one (.one (.im (Value.int .i64 ((i.length:Nat):Int))))),(27,.one (.one (.im (Value.int .i64 (x3:Int)))))],en:=[(1,.view 23 [.sl 26 [.int,.int]] (AS i) []),(2,.own 26 [.int,.int] (AA (i.take x3).flatten))] }) (λ x3=>x3<=i.length) (λ x3=>i.length-x3) (λ _=>[])),(3,.mk 2 (Nat) (λ x1=>{ tm:=[(0,.one (.one (.ext 1))),(9,.one (.one (.ext 1))),(3,.one (.one (.im (Value.int .i64 (((i.take x1).flatten.length:Nat):Int))))),(10,.one (.one (.im (Value.int .i64 ((i.length:Nat):Int))))),(11,.one (.one (.im (Value.int .i64 (x1:Int)))))],en:=[(1,.view 23 [.sl 26 [.int,.int]] (AS i) [])] }) (λ x1=>x1<=i.length) (λ x1=>i.length-x1) (λ _=>[]))]) ?_
 intro (l:List (List V2)) hpre
 have hpre:l.length<=1048576/\0<l.flatten.length/\l.flatten.length<=1048576:=hpre
 refine AO (q:=(∃ x1:Nat,(x1<=l.length)/\((Value.int .i64 (0:Int)=Value.int .i64 (((l.take x1).flatten.length:Nat):Int))/\(Value.int .i64 (((AS l).length:Nat):Int)=Value.int .i64 ((l.length:Nat):Int))/\(Value.int .i64 (0:Int)=Value.int .i64 (x1:Int))/\(rf (AS l))))/\∀ x1:Nat,(x1<=l.length)->(((decide ((x1:Int)<((l.length:Nat):Int)))=true->((0<=(x1:Int)/\(x1:Int)<((AS l).length:Int))/\((x1<(AS l).length)/\(((decide ((IntKind.i64.wrap ((((l.take x1).flatten.length:Nat):Int)+(((((((AS l).getD x1 []).getD 0 (.int 0))).r).length:Nat):Int)))<(0:Int)))=true->((False)))/\((decide ((IntKind.i64.wrap ((((l.take x1).flatten.length:Nat):Int)+(((((((AS l).getD x1 []).getD 0 (.int 0))).r).length:Nat):Int)))<(0:Int)))=false->(∃ y2:Nat,(y2<=l.length)/\(l.length-y2<l.length-x1)/\((Value.int .i64 (IntKind.i64.wrap ((((l.take x1).flatten.length:Nat):Int)+(((((((AS l).getD x1 []).getD 0 (.int 0))).r).length:Nat):Int)))=Value.int .i64 (((l.take y2).flatten.length:Nat):Int))/\(rf (Value.int .i64 ((l.length:Nat):Int)))/\(Value.int .i64 (IntKind.i64.wrap ((x1:Int)+(1:Int)))=Value.int .i64 (y2:Int))/\(rf (AS l)))))))))/\((decide ((x1:Int)<((l.length:Nat):Int)))=false->(∃ i1:Int,[DA.one (DC.im (Value.slice none 0 0)),DA.one (cI (((l.take x1).flatten.length:Nat):Int))]=GF.args i1/\GF.pre i1/\((∃ x3:Nat,(x3<=l.length)/\((Value.int .i64 (((AS l).length:Nat):Int)=Value.int .i64 ((l.length:Nat):Int))/\(Value.int .i64 (0:Int)=Value.int .i64 (x3:Int))/\(rf (AS l))/\(([]:List (List Dat))=(AA (l.take x3).flatten))))/\∀ x3:Nat,(x3<=l.length)->(((decide ((x3:Int)<((l.length:Nat):Int)))=true->((0<=(x3:Int)/\(x3:Int)<((AS l).length:Int))/\((x3<(AS l).length)/\(((AA (l.take x3).flatten).length+(((((AS l).getD x3 []).getD 0 (.int 0))).r).length<=2199023255552)/\(∃ y4:Nat,(y4<=l.length)/\(l.length-y4<l.length-x3)/\((rf (Value.int .i64 ((l.length:Nat):Int)))/\(Value.int .i64 (IntKind.i64.wrap ((x3:Int)+(1:Int)))=Value.int .i64 (y4:Int))/\(rf (AS l))/\(((AA (l.take x3).flatten)++((((AS l).getD x3 []).getD 0 (.int 0))).r)=(AA (l.take y4).flatten))))))))/\((decide ((x3:Int)<((l.length:Nat):Int)))=false->(((AA (l.take x3).flatten)=AA l.flatten))))))))) (by kernel_rfl) ?_
 have hva:=Ce l
 -- i1
 refine ⟨⟨0,by
  first|omega|trivial,?_⟩,?_⟩
 ·-- the beginning
  refine ⟨?_,?_,rfl,rfl⟩
  ·-- b3: Value.int .i64 (0 : Int) = Value.int .i64 (((l.take 0).flatten.length : Nat) : Int)
   show Value.int .i64 (0:Int)=Value.int .i64 (((l.take 0).flatten.length:Nat):Int)
   first|rfl|exact AQ (by rw [hva])
  -- b4: Value.int .i64 (((AS l).length : Nat) : Int) = Value.int .i64 ((l.length : Nat) : Int)
  show Value.int .i64 (((AS l).length:Nat):Int)=Value.int .i64 ((l.length:Nat):Int)
  first|rfl|exact AQ (by rw [hva])
 intro (k:Nat) hki1
 have hki1:k<=l.length:=hki1
 refine ⟨λ c7=>?_,λ c7=>?_⟩
 ·-- c7t: (decide ((k : Int) < ((l.length : Nat) : Int))) = true
  replace c7:(decide ((k:Int)<((l.length:Nat):Int)))=true:=c7
  try simp only [nrm] at c7
  have hkl:k<l.length:=by omega
  have ha:=Li hkl
  have hv:=AB (l.getD k [])
  have hf:=Lj hkl
  have hfl:=Qr (l:=l) (k+1)
  have hlen:=congrArg List.length hf
  rw [List.length_append] at hlen
  refine ao (a:=0<=(k:Int)/\(k:Int)<((AS l).length:Int)) (by first|rfl|omega|(rw [ha,hv,AB];omega)) λ o8=>?_
  refine ao (a:=k<(AS l).length) (by first|rfl|omega|(rw [ha,hv,AB];omega)) λ o9=>?_
  refine ⟨λ c10=>?_,λ c10=>?_⟩
  ·-- c10t: (decide ((IntKind.i64.wrap ((((l.take k).flatten.length : Nat) : Int) + (((((((AS l).getD k []).getD 0 (.int 0))).r).length : Nat) : Int))) < (0 : Int))) = true
   replace c10:(decide ((IntKind.i64.wrap ((((l.take k).flatten.length:Nat):Int)+(((((((AS l).getD k []).getD 0 (.int 0))).r).length:Nat):Int)))<(0:Int)))=true:=c10
   try simp only [nrm] at c10
   rw [ha,hv,AF (by omega) (by omega)] at c10
   -- l11: False
   show False
   exfalso;omega
  -- c10f: (decide ((IntKind.i64.wrap ((((l.take k).flatten.length : Nat) : Int) + (((((((AS l).getD k []).getD 0 (.int 0))).r).length : Nat) : Int))) < (0 : Int))) = false
  replace c10:(decide ((IntKind.i64.wrap ((((l.take k).flatten.length:Nat):Int)+(((((((AS l).getD k []).getD 0 (.int 0))).r).length:Nat):Int)))<(0:Int)))=false:=c10
  try simp only [nrm] at c10
  -- n12
  refine ⟨k+1,by
   first|omega|trivial,by
   first|omega|(simp;omega),?_⟩
  refine ⟨?_,rfl,?_,rfl⟩
  ·-- e15: Value.int .i64 (IntKind.i64.wrap ((((l.take k).flatten.length : Nat) : Int) + (((((((AS l).getD k []).getD 0 (.int 0))).r).length : Nat) : Int))) = Value.int .i64 (((l.take (k + 1)).flatten.length : Nat) : Int)
   show Value.int .i64 (IntKind.i64.wrap ((((l.take k).flatten.length:Nat):Int)+(((((((AS l).getD k []).getD 0 (.int 0))).r).length:Nat):Int)))=Value.int .i64 (((l.take (k+1)).flatten.length:Nat):Int)
   first|rfl|exact AQ (by rw [ha,hv,hlen,AF (by omega) (by omega)];rfl)|exact AQ (AF (by omega) (by omega))
  -- e17: Value.int .i64 (IntKind.i64.wrap ((k : Int) + (1 : Int))) = Value.int .i64 ((k + 1) : Int)
  show Value.int .i64 (IntKind.i64.wrap ((k:Int)+(1:Int)))=Value.int .i64 ((k+1):Int)
  first|rfl|exact AQ (by rw [ha,hv,hlen,AF (by omega) (by omega)];rfl)|exact AQ (AF (by omega) (by omega))
 -- c7f: (decide ((k : Int) < ((l.length : Nat) : Int))) = false
 replace c7:(decide ((k:Int)<((l.length:Nat):Int)))=false:=c7
 try simp only [nrm] at c7
 have hkt:l.take k=l:=List.take_of_length_le (by omega)
 -- w19: growV [DA.one (DC.im (Value.slice none 0 0)), DA.one (DC.im (Value.int .i64 (((l.take k).flatten.length : Nat) : Int)))]
 refine ⟨(((l.take k).flatten.length:Nat):Int),by
  rfl,by
  show 0<(((l.take k).flatten.length:Nat):Int)/\(((l.take k).flatten.length:Nat):Int)<=1048576
  (rw [hkt];omega),?_⟩
 -- i22
 refine ⟨⟨0,by
  first|omega|trivial,?_⟩,?_⟩
 ·-- the beginning
  refine ⟨?_,rfl,rfl,?_⟩
  ·-- b24: Value.int .i64 (((AS l).length : Nat) : Int) = Value.int .i64 ((l.length : Nat) : Int)
   show Value.int .i64 (((AS l).length:Nat):Int)=Value.int .i64 ((l.length:Nat):Int)
   first|rfl|exact AQ (by rw [hva])
  -- b27: ([] : List (List Dat)) = (AA (l.take 0).flatten)
  show ([]:List (List Dat))=(AA (l.take 0).flatten)
  first|rfl|exact AQ (by rw [hva])
 intro (k:Nat) hki22
 have hki22:k<=l.length:=hki22
 refine And.symm ⟨λ c28=>?_,λ c28=>?_⟩
 ·-- c28f: (decide ((k : Int) < ((l.length : Nat) : Int))) = false
  replace c28:(decide ((k:Int)<((l.length:Nat):Int)))=false:=c28
  try simp only [nrm] at c28
  -- l39: (AA (l.take k).flatten) = AA l.flatten
  show (AA (l.take k).flatten)=AA l.flatten
  rw [List.take_of_length_le (show l.length<=k by omega)]
 -- c28t: (decide ((k : Int) < ((l.length : Nat) : Int))) = true
 replace c28:(decide ((k:Int)<((l.length:Nat):Int)))=true:=c28
 try simp only [nrm] at c28
 have hkl:k<l.length:=by omega
 have ha:=Li hkl
 have hv:=AB (l.getD k [])
 have hf:=Lj hkl
 have hfl:=Qr (l:=l) (k+1)
 have hlen:=congrArg List.length hf
 rw [List.length_append] at hlen
 refine ao (a:=0<=(k:Int)/\(k:Int)<((AS l).length:Int)) (by first|rfl|omega|(rw [ha,hv,AB];omega)) λ o29=>?_
 refine ao (a:=k<(AS l).length) (by first|rfl|omega|(rw [ha,hv,AB];omega)) λ o30=>?_
 refine ao (a:=(AA (l.take k).flatten).length+(((((AS l).getD k []).getD 0 (.int 0))).r).length<=2199023255552) (by first|rfl|omega|(rw [ha,hv,AB];omega)) λ o31=>?_
 -- n32
 refine ⟨k+1,by
  first|omega|trivial,by
  first|omega|(simp;omega),?_⟩
 refine ⟨rfl,?_,rfl,?_⟩
 ·-- e36: Value.int .i64 (IntKind.i64.wrap ((k : Int) + (1 : Int))) = Value.int .i64 ((k + 1) : Int)
  show Value.int .i64 (IntKind.i64.wrap ((k:Int)+(1:Int)))=Value.int .i64 ((k+1):Int)
  first|rfl|(rw [ha,hf,Fw])|exact AQ (AF (by omega) (by omega))
 -- e38: ((AA (l.take k).flatten) ++ ((((AS l).getD k []).getD 0 (.int 0))).r) = (AA (l.take (k + 1)).flatten)
 show ((AA (l.take k).flatten)++((((AS l).getD k []).getD 0 (.int 0))).r)=(AA (l.take (k+1)).flatten)
 first|rfl|(rw [ha,hf,Fw])|exact AQ (AF (by omega) (by omega))
def Bl:Con:={ ι:=(List V2)×(List V2),pre:=λ i=>i.1.length<=1024/\i.2.length<=1024,args:=λ i=>[.one (.sl 26 [.int,.int] (AA i.1)),.one (.sl 26 [.int,.int] (AA i.2))],res:=λ i=>⟨false,[none],[.im (Value.bool (A1 i.1 i.2))]⟩ }
theorem Uf:Bl.Ok Tryz.prog 11:=by
 refine fok (X:=⟨tt,[(28,GG),(27,FB)],[],30,[]⟩) mixed AP (CTok.cons Ue (CTok.cons SB (CTok.nil _))) Tryz.func11 (λ (i:(List V2)×(List V2))=>[(4,.mk 3 (Nat) (λ x1=>{ tm:=[(0,.one (.one (.ext 1))),(1,.one (.one (.ext 2))),(12,.one (.one (.im (Value.int .i64 ((i.1.length:Nat):Int))))),(13,.one (.one (.im (Value.int .i64 (x1:Int)))))],en:=[(1,.view 26 [.int,.int] (AA i.1) []),(2,.view 26 [.int,.int] (AA i.2) [])] }) (λ x1=>x1<=i.1.length/\i.1.length=i.2.length/\∀ r,r<x1->i.1≠i.2.drop r++i.2.take r) (λ x1=>i.1.length-x1) (λ _=>[]))]) ?_
 rintro ⟨l,m⟩ hpre
 have hpre:l.length<=1024/\m.length<=1024:=hpre
 refine AO (q:=(((((AA l).length:Nat):Int) != (((AA m).length:Nat):Int))=true->((Value.bool false=Value.bool (A1 l m))))/\(((((AA l).length:Nat):Int) != (((AA m).length:Nat):Int))=false->((∃ x1:Nat,(x1<=l.length/\l.length=m.length/\∀ r,r<x1->l≠m.drop r++m.take r)/\((Value.int .i64 (((AA l).length:Nat):Int)=Value.int .i64 ((l.length:Nat):Int))/\(Value.int .i64 (0:Int)=Value.int .i64 (x1:Int))/\(rf (AA l))/\(rf (AA m))))/\∀ x1:Nat,(x1<=l.length/\l.length=m.length/\∀ r,r<x1->l≠m.drop r++m.take r)->(((decide ((x1:Int)<((l.length:Nat):Int)))=true->((Nat.beq 2 2=true)/\((0<=(x1:Int))/\(((x1:Int)<=((AA m).length:Int))/\((((AA m).length:Int)<=((AA m).length:Int))/\((Nat.beq 2 2=true)/\((0<=(0:Int))/\(((0:Int)<=(x1:Int))/\(((x1:Int)<=((AA m).length:Int))/\(∃ i1:(List (List V2)),[DA.one (DC.sl 23 [.sl 26 [.int,.int]] ([[Dat.sl (((AA m).take (((AA m).length:Int).toNat)).drop x1)],[Dat.sl ((AA m).take x1)]]:List (List Dat)))]=GG.args i1/\GG.pre i1/\(∃ i2:(List V2)×(List V2),[DA.one (DC.sl 26 [.int,.int] (AA l)),DA.one (DC.sl 26 [.int,.int] (AA i1.flatten))]=FB.args i2/\FB.pre i2/\(((decide (i2.1=i2.2))=true->((Value.bool true=Value.bool (A1 l m))))/\((decide (i2.1=i2.2))=false->(∃ y2:Nat,(y2<=l.length/\l.length=m.length/\∀ r,r<y2->l≠m.drop r++m.take r)/\(l.length-y2<l.length-x1)/\((rf (Value.int .i64 ((l.length:Nat):Int)))/\(Value.int .i64 (IntKind.i64.wrap ((x1:Int)+(1:Int)))=Value.int .i64 (y2:Int))/\(rf (AA l))/\(rf (AA m)))))))))))))))))/\((decide ((x1:Int)<((l.length:Nat):Int)))=false->((Value.bool ((((AA l).length:Nat):Int) == (0:Int))=Value.bool (A1 l m)))))))) (by kernel_rfl) ?_
 have hvl:=AB l
 have hvm:=AB m
 refine ⟨λ c1=>?_,λ c1=>?_⟩
 ·-- c1t: ((((AA l).length : Nat) : Int) != (((AA m).length : Nat) : Int)) = true
  replace c1:((((AA l).length:Nat):Int) != (((AA m).length:Nat):Int))=true:=c1
  try simp only [nrm] at c1
  -- l2: Value.bool false = Value.bool (A1 l m)
  show Value.bool false=Value.bool (A1 l m)
  exact congrArg Value.bool (Uc (by omega)).symm
 -- c1f: ((((AA l).length : Nat) : Int) != (((AA m).length : Nat) : Int)) = false
 replace c1:((((AA l).length:Nat):Int) != (((AA m).length:Nat):Int))=false:=c1
 try simp only [nrm] at c1
 -- i3
 refine ⟨⟨0,by
  first|exact ⟨Nat.zero_le _,by omega,λ r h=>absurd h (Nat.not_lt_zero _)⟩|exact ⟨by omega,hki3.2.1,λ r h=>(Nat.lt_succ_iff_lt_or_eq.1 h).elim (hki3.2.2 r) (λ e=>by rw [e,← hfe];exact c24)⟩|omega|trivial,?_⟩,?_⟩
 ·-- the beginning
  refine ⟨?_,rfl,rfl,rfl⟩
  -- b5: Value.int .i64 (((AA l).length : Nat) : Int) = Value.int .i64 ((l.length : Nat) : Int)
  show Value.int .i64 (((AA l).length:Nat):Int)=Value.int .i64 ((l.length:Nat):Int)
  first|rfl|exact AQ (by rw [hvl])
 intro (k:Nat) hki3
 have hki3:k<=l.length/\l.length=m.length/\∀ r,r<k->l≠m.drop r++m.take r:=hki3
 refine And.symm ⟨λ c9=>?_,λ c9=>?_⟩
 ·-- c9f: (decide ((k : Int) < ((l.length : Nat) : Int))) = false
  replace c9:(decide ((k:Int)<((l.length:Nat):Int)))=false:=c9
  try simp only [nrm] at c9
  -- l33: Value.bool ((((AA l).length : Nat) : Int) == (0 : Int)) = Value.bool (A1 l m)
  show Value.bool ((((AA l).length:Nat):Int) == (0:Int))=Value.bool (A1 l m)
  exact congrArg Value.bool (by rw [SA hki3.2.1 (λ r h=>hki3.2.2 r (by omega)),hvl];by_cases h0:l.length=0 <;> simp [h0])
 -- c9t: (decide ((k : Int) < ((l.length : Nat) : Int))) = true
 replace c9:(decide ((k:Int)<((l.length:Nat):Int)))=true:=c9
 try simp only [nrm] at c9
 have hkm:k<m.length:=by omega
 have hdm:AA (m.drop k)=(AA m).drop k:=by simp [AA]
 have htm:AA (m.take k)=(AA m).take k:=by simp [AA]
 have hfl:([m.drop k,m.take k]:List (List V2)).flatten.length=m.length:=by simp;omega
 have hfe:([m.drop k,m.take k]:List (List V2)).flatten=m.drop k++m.take k:=by simp
 refine ao (a:=Nat.beq 2 2=true) (by first|rfl|omega) λ o10=>?_
 refine ao (a:=0<=(k:Int)) (by first|rfl|omega) λ o11=>?_
 refine ao (a:=(k:Int)<=((AA m).length:Int)) (by first|rfl|omega) λ o12=>?_
 refine ao (a:=((AA m).length:Int)<=((AA m).length:Int)) (by first|rfl|omega) λ o13=>?_
 refine ao (a:=Nat.beq 2 2=true) (by first|rfl|omega) λ o14=>?_
 refine ao (a:=0<=(0:Int)) (by first|rfl|omega) λ o15=>?_
 refine ao (a:=(0:Int)<=(k:Int)) (by first|rfl|omega) λ o16=>?_
 refine ao (a:=(k:Int)<=((AA m).length:Int)) (by first|rfl|omega) λ o17=>?_
 -- w18: concV [DA.one (DC.sl 23 [.sl 26 [.int, .int]] ([[Dat.sl (((AA m).take (((AA m).length : Int).toNat)).drop k)], [Dat.sl ((AA m).take k)]] : List (List Dat)))]
 refine ⟨[m.drop k,m.take k],by
  first|rfl|(show [DA.one (DC.sl 23 [.sl 26 [.int,.int]] [[Dat.sl (((AA m).take (((AA m).length:Int).toNat)).drop k)],[Dat.sl ((AA m).take k)]])]=[DA.one (DC.sl 23 [.sl 26 [.int,.int]] [[Dat.sl (AA (m.drop k))],[Dat.sl (AA (m.take k))]])];rw [Int.toNat_natCast,List.take_length,hdm,htm]),by
  show [m.drop k,m.take k].length<=1048576/\0 < [m.drop k,m.take k].flatten.length/\[m.drop k,m.take k].flatten.length<=1048576
  (rw [hfl];first|omega|(simp only [List.length_cons,List.length_nil];omega)),?_⟩
 -- w21: eqVecs [DA.one (DC.sl 26 [.int, .int] (AA l)), DA.one (DC.sl 26 [.int, .int] (AA [m.drop k, m.take k].flatten))]
 refine ⟨(l,[m.drop k,m.take k].flatten),by
  first|rfl|(show [DA.one (DC.sl 23 [.sl 26 [.int,.int]] [[Dat.sl (((AA m).take (((AA m).length:Int).toNat)).drop k)],[Dat.sl ((AA m).take k)]])]=[DA.one (DC.sl 23 [.sl 26 [.int,.int]] [[Dat.sl (AA (m.drop k))],[Dat.sl (AA (m.take k))]])];rw [Int.toNat_natCast,List.take_length,hdm,htm]),by
  show l.length<=1048576/\([m.drop k,m.take k].flatten).length<=1048576
  (rw [hfl];first|omega|(simp only [List.length_cons,List.length_nil];omega)),?_⟩
 refine ⟨λ c24=>?_,λ c24=>?_⟩
 ·-- c24t: (decide (l = ([m.drop k, m.take k].flatten))) = true
  replace c24:(decide (l=([m.drop k,m.take k].flatten)))=true:=c24
  try simp only [nrm] at c24
  -- l25: Value.bool true = Value.bool (A1 l m)
  show Value.bool true=Value.bool (A1 l m)
  exact congrArg Value.bool (OP hki3.2.1 (by omega) (c24.trans hfe)).symm
 -- c24f: (decide (l = ([m.drop k, m.take k].flatten))) = false
 replace c24:(decide (l=([m.drop k,m.take k].flatten)))=false:=c24
 try simp only [nrm] at c24
 -- n26
 refine ⟨k+1,by
  first|exact ⟨Nat.zero_le _,by omega,λ r h=>absurd h (Nat.not_lt_zero _)⟩|exact ⟨by omega,hki3.2.1,λ r h=>(Nat.lt_succ_iff_lt_or_eq.1 h).elim (hki3.2.2 r) (λ e=>by rw [e,← hfe];exact c24)⟩|omega|trivial,by
  first|omega|(simp;omega),?_⟩
 refine ⟨rfl,?_,rfl,rfl⟩
 -- e30: Value.int .i64 (IntKind.i64.wrap ((k : Int) + (1 : Int))) = Value.int .i64 ((k + 1) : Int)
 show Value.int .i64 (IntKind.i64.wrap ((k:Int)+(1:Int)))=Value.int .i64 ((k+1):Int)
 first|rfl|exact AQ (AF (by omega) (by omega))
def DM:Con:={ ι:=(List V2),pre:=λ i=>True,args:=λ i=>[.one (.sl 26 [.int,.int] (AA i))],res:=λ i=>⟨false,[none],[.im (Value.int .i64 (DD i))]⟩ }
theorem Ug:DM.Ok Tryz.prog 12:=by
 refine fok (X:=⟨tt,[(24,AY),(29,EZ)],[],30,[]⟩) mixed AP (CTok.cons Ca (CTok.cons UK (CTok.nil _))) Tryz.func12 (λ (i:(List V2))=>[(5,.mk 2 (Nat) (λ x1=>{ tm:=[(0,.one (.one (.ext 1))),(3,.one (.one (.im (Value.int .i64 (Dl i (x1-1)))))),(4,.one (.one (.im (Value.int .i64 (x1:Int)))))],en:=[(1,.view 26 [.int,.int] (AA i) [])] }) (λ x1=>2<=x1/\x1<=i.length) (λ x1=>i.length-x1) (λ _=>[]))]) ?_
 intro (l:List V2) hpre
 have hpre:True:=hpre
 refine AO (q:=∃ i1:(List V2),[DA.one (DC.sl 26 [.int,.int] (AA l))]=AY.args i1/\AY.pre i1/\(((!(AI i1))=true->((Value.int .i64 (0:Int)=Value.int .i64 (DD l))))/\((!(AI i1))=false->((∃ x1:Nat,(2<=x1/\x1<=l.length)/\((Value.int .i64 (0:Int)=Value.int .i64 (Dl l (x1-1)))/\(Value.int .i64 (2:Int)=Value.int .i64 (x1:Int))/\(rf (AA l))))/\∀ x1:Nat,(2<=x1/\x1<=l.length)->(((decide ((x1:Int)<(((AA l).length:Nat):Int)))=true->((0<=(0:Int)/\(0:Int)<((AA l).length:Int))/\((0<(AA l).length)/\((0<=(IntKind.i64.wrap ((x1:Int)-(1:Int)))/\(IntKind.i64.wrap ((x1:Int)-(1:Int)))<((AA l).length:Int))/\(((IntKind.i64.wrap ((x1:Int)-(1:Int))).toNat<(AA l).length)/\((0<=(x1:Int)/\(x1:Int)<((AA l).length:Int))/\((x1<(AA l).length)/\(∃ i2:Int×Int×Int×Int×Int×Int,[DA.agg [cI (((((AA l).getD 0 []).getD 0 (.int 0))).n),cI (((((AA l).getD 0 []).getD 1 (.int 0))).n)],DA.agg [cI (((((AA l).getD ((IntKind.i64.wrap ((x1:Int)-(1:Int))).toNat) []).getD 0 (.int 0))).n),cI (((((AA l).getD ((IntKind.i64.wrap ((x1:Int)-(1:Int))).toNat) []).getD 1 (.int 0))).n)],DA.agg [cI (((((AA l).getD x1 []).getD 0 (.int 0))).n),cI (((((AA l).getD x1 []).getD 1 (.int 0))).n)]]=EZ.args i2/\EZ.pre i2/\(∃ y2:Nat,(2<=y2/\y2<=l.length)/\(l.length-y2<l.length-x1)/\((Value.int .i64 (IntKind.i64.wrap ((Dl l (x1-1))+(AM (i2.1,i2.2.1) (i2.2.2.1,i2.2.2.2.1) (i2.2.2.2.2.1,i2.2.2.2.2.2))))=Value.int .i64 (Dl l (y2-1)))/\(Value.int .i64 (IntKind.i64.wrap ((x1:Int)+(1:Int)))=Value.int .i64 (y2:Int))/\(rf (AA l))))))))))))/\((decide ((x1:Int)<(((AA l).length:Nat):Int)))=false->((Value.int .i64 (Dl l (x1-1))=Value.int .i64 (DD l))))))))) (by kernel_rfl) ?_
 have hvl:=AB l
 -- w1: iIsPoly [DA.one (DC.sl 26 [.int, .int] (AA l))]
 refine ⟨l,by
  rfl,by
  first|trivial|(rw [hw2,AT (show 0<l.length by omega),AU (show 0<l.length by omega),AT (show k-1<l.length by omega),AU (show k-1<l.length by omega),AT hkl,AU hkl];exact ⟨v0,v1,v2⟩),?_⟩
 refine ⟨λ c4=>?_,λ c4=>?_⟩
 ·-- c4t: (!(AI l)) = true
  replace c4:(!(AI l))=true:=c4
  try simp only [nrm] at c4
  -- l5: Value.int .i64 (0 : Int) = Value.int .i64 (DD l)
  show Value.int .i64 (0:Int)=Value.int .i64 (DD l)
  exact AQ (by unfold DD;rw [if_neg (by rw [c4];simp)])
 -- c4f: (!(AI l)) = false
 replace c4:(!(AI l))=false:=c4
 try simp only [nrm] at c4
 obtain ⟨hp3,hp16,hall⟩:=Cu c4
 -- i6
 refine ⟨⟨2,by
  first|omega|trivial,?_⟩,?_⟩
 ·-- the beginning
  refine ⟨?_,rfl,rfl⟩
  -- b8: Value.int .i64 (0 : Int) = Value.int .i64 (Dl l (2 - 1))
  show Value.int .i64 (0:Int)=Value.int .i64 (Dl l (2-1))
  first|rfl|exact AQ (Ud l).symm
 intro (k:Nat) hki6
 have hki6:2<=k/\k<=l.length:=hki6
 refine And.symm ⟨λ c11=>?_,λ c11=>?_⟩
 ·-- c11f: (decide ((k : Int) < (((AA l).length : Nat) : Int))) = false
  replace c11:(decide ((k:Int)<(((AA l).length:Nat):Int)))=false:=c11
  try simp only [nrm] at c11
  -- l27: Value.int .i64 (Dl l (k - 1)) = Value.int .i64 (DD l)
  show Value.int .i64 (Dl l (k-1))=Value.int .i64 (DD l)
  exact AQ (by unfold DD;rw [if_pos c4,show k-1=l.length-1 by omega,KN (by omega)])
 -- c11t: (decide ((k : Int) < (((AA l).length : Nat) : Int))) = true
 replace c11:(decide ((k:Int)<(((AA l).length:Nat):Int)))=true:=c11
 try simp only [nrm] at c11
 have hkl:k<l.length:=by omega
 have hw1:IntKind.i64.wrap ((k:Int)-1)=((k-1:Nat):Int):=by rw [AF (by omega) (by omega)];omega
 have hw2:(IntKind.i64.wrap ((k:Int)-1)).toNat=k-1:=by rw [hw1];rfl
 have hts:=Lk l (k-1)
 rw [show k-1+1=k by omega] at hts
 have hbd:=MW hall (k-1) (by omega)
 have hbe:=MW hall k (by omega)
 have v0:=AW hall (show 0<l.length by omega)
 have v1:=AW hall (show k-1<l.length by omega)
 have v2:=AW hall hkl
 refine ao (a:=0<=(0:Int)/\(0:Int)<((AA l).length:Int)) (by first|rfl|omega|(rw [hw1];omega)|(rw [hw2];omega)) λ o12=>?_
 refine ao (a:=0<(AA l).length) (by first|rfl|omega|(rw [hw1];omega)|(rw [hw2];omega)) λ o13=>?_
 refine ao (a:=0<=(IntKind.i64.wrap ((k:Int)-(1:Int)))/\(IntKind.i64.wrap ((k:Int)-(1:Int)))<((AA l).length:Int)) (by first|rfl|omega|(rw [hw1];omega)|(rw [hw2];omega)) λ o14=>?_
 refine ao (a:=(IntKind.i64.wrap ((k:Int)-(1:Int))).toNat<(AA l).length) (by first|rfl|omega|(rw [hw1];omega)|(rw [hw2];omega)) λ o15=>?_
 refine ao (a:=0<=(k:Int)/\(k:Int)<((AA l).length:Int)) (by first|rfl|omega|(rw [hw1];omega)|(rw [hw2];omega)) λ o16=>?_
 refine ao (a:=k<(AA l).length) (by first|rfl|omega|(rw [hw1];omega)|(rw [hw2];omega)) λ o17=>?_
 -- w18: iTurn [DA.agg [DC.im (Value.int .i64 ((((AA l).getD 0 []).getD 0 (.int 0))).n), DC.im (Value.int .i64 ((((AA l).getD 0 []).getD 1 (.int 0))).n)], DA.agg [DC.im (Value.int .i64 ((((AA l).getD ((IntKind.i64.wrap ((k : Int) - (1 : Int))).toNat) []).getD 0 (.int 0))).n), DC.im (Value.int .i64 ((((vec
 refine ⟨(((((AA l).getD 0 []).getD 0 (.int 0))).n,((((AA l).getD 0 []).getD 1 (.int 0))).n,((((AA l).getD ((IntKind.i64.wrap ((k:Int)-(1:Int))).toNat) []).getD 0 (.int 0))).n,((((AA l).getD ((IntKind.i64.wrap ((k:Int)-(1:Int))).toNat) []).getD 1 (.int 0))).n,((((AA l).getD k []).getD 0 (.int 0))).n,((((AA l).getD k []).getD 1 (.int 0))).n),by
  rfl,by
  try dsimp only [EZ]
  first|trivial|(rw [hw2,AT (show 0<l.length by omega),AU (show 0<l.length by omega),AT (show k-1<l.length by omega),AU (show k-1<l.length by omega),AT hkl,AU hkl];exact ⟨v0,v1,v2⟩),?_⟩
 -- n21
 refine ⟨k+1,by
  first|omega|trivial,by
  first|omega|(simp;omega),?_⟩
 refine ⟨?_,?_,rfl⟩
 ·-- e24: Value.int .i64 (IntKind.i64.wrap ((Dl l (k - 1)) + (AM ((((((AA l).getD 0 []).getD 0 (.int 0))).n), (((((AA l).getD 0 []).getD 1 (.int 0))).n)) ((((((AA l).getD ((IntKind.i64.wrap ((k : Int) - (1 : Int))).toNat) []).getD 0 (.int 0))).n), (((((AA l).getD ((IntKind.i64.wrap ((k : Int) - (1 : Int))).toNat) []).getD 1 (.int 0))).n)) ((((((AA l).getD k []).getD 0 (.int 0))).n), ((((
  show Value.int .i64 (IntKind.i64.wrap ((Dl l (k-1))+(AM ((((((AA l).getD 0 []).getD 0 (.int 0))).n),(((((AA l).getD 0 []).getD 1 (.int 0))).n)) ((((((AA l).getD ((IntKind.i64.wrap ((k:Int)-(1:Int))).toNat) []).getD 0 (.int 0))).n),(((((AA l).getD ((IntKind.i64.wrap ((k:Int)-(1:Int))).toNat) []).getD 1 (.int 0))).n)) ((((((AA l).getD k []).getD 0 (.int 0))).n),(((((AA l).getD k []).getD 1 (.int 0))).n)))))=Value.int .i64 (Dl l ((k+1)-1))
  first|rfl|exact AQ (by rw [hw2,AT (show 0<l.length by omega),AU (show 0<l.length by omega),AT (show k-1<l.length by omega),AU (show k-1<l.length by omega),AT hkl,AU hkl,show k+1-1=k by omega];exact (AF (by rw [← hts];omega) (by rw [← hts];omega)).trans hts.symm)|exact AQ (AF (by omega) (by omega))
 -- e25: Value.int .i64 (IntKind.i64.wrap ((k : Int) + (1 : Int))) = Value.int .i64 ((k + 1) : Int)
 show Value.int .i64 (IntKind.i64.wrap ((k:Int)+(1:Int)))=Value.int .i64 ((k+1):Int)
 first|rfl|exact AQ (by rw [hw2,AT (show 0<l.length by omega),AU (show 0<l.length by omega),AT (show k-1<l.length by omega),AU (show k-1<l.length by omega),AT hkl,AU hkl,show k+1-1=k by omega];exact (AF (by rw [← hts];omega) (by rw [← hts];omega)).trans hts.symm)|exact AQ (AF (by omega) (by omega))
end Go.Proofs.YtdgmbbjoifneiaaGreatDoor
