import Derived.Test.YtmedodfenejimaaGreatTpRkT
import Derived.Test.YtmedodfenejimaaGreatTpExD
import Derived.Test.YtmedodfenejimaaGreatTpTyB
import Derived.Test.YtmedodfenejimaaGreatTpTyH
namespace Go.Proofs.YtmedodfenejimaaGreat
set_option maxRecDepth 100000
set_option linter.unusedVariables false
set_option linter.unusedSimpArgs false
open Go.RowKit
def Bk:Con:={ ι:=(List (List Dat))×Int,pre:=λ i=>Dat.has (.sl 3 [.int]) (.sl i.1)/\0<=i.2/\i.2<=1048576,args:=λ i=>[.one (cS i.1),.one (cI i.2)],res:=λ i=>⟨false,[none],[rcI (szR (i.1.length+AG i.1) i.2)]⟩ }
theorem Kz:Bk.Ok Tryz.prog 54:=by
 refine fok (X:=⟨tt,[],[],12,[]⟩) AI AF (CTok.nil _) Tryz.func54 (λ _=>[]) ?_
 rintro ⟨l,n⟩ hpre
 have hpre:Dat.has (.sl 3 [.int]) (.sl l)/\0<=n/\n<=1048576:=hpre
 refine AH (q:=let Z2:=wR (n-(nI l.length));let Z1:=szR (l.length+AG l) n;ifB ((decide (Z2<(0:Int)))) ((vI (-1:Int)=vI Z1)) ((vI Z2=vI Z1))) (by kernel_rfl) ?_
 conv=>zeta
 delta ifB vI wR nI
 obtain ⟨hh,h0,h1⟩:=hpre
 have hz:=KO (by decide) hh
 simp only [Dat.has] at hh
 obtain ⟨hl,-⟩:=hh
 have hw:IntKind.i64.wrap (n-(l.length:Int))=n-l.length:=AD (by omega) (by omega)
 refine ⟨λ c1=>?_,λ c1=>?_⟩
 ·try simp only [nrm] at c1
  refine AK ?_;try rw [hw] at *;grind [szR]
 try simp only [nrm] at c1
 refine AK ?_;try rw [hw] at *;grind [szR]
def CI:Con:={ ι:=(List (List Dat))×Int,pre:=λ i=>Dat.has (.sl 39 [.int,.int]) (.sl i.1)/\0<=i.2/\i.2<=1048576,args:=λ i=>[.one (DC.sl 23 [.int,.int] i.1),.one (cI i.2)],res:=λ i=>⟨false,[none],[rcI (szR (i.1.length+AG i.1) i.2)]⟩ }
theorem Oc:CI.Ok Tryz.prog 50:=by
 refine fok (X:=⟨tt,[],[],12,[]⟩) AI AF (CTok.nil _) Tryz.func50 (λ _=>[]) ?_
 rintro ⟨l,n⟩ hpre
 have hpre:Dat.has (.sl 39 [.int,.int]) (.sl l)/\0<=n/\n<=1048576:=hpre
 refine AH (q:=let Z2:=wR (n-(nI l.length));let Z1:=szR (l.length+AG l) n;ifB ((decide (Z2<(0:Int)))) ((vI (-1:Int)=vI Z1)) ((vI Z2=vI Z1))) (by kernel_rfl) ?_
 conv=>zeta
 delta ifB vI wR nI
 obtain ⟨hh,h0,h1⟩:=hpre
 have hz:=KO (by decide) hh
 simp only [Dat.has] at hh
 obtain ⟨hl,-⟩:=hh
 have hw:IntKind.i64.wrap (n-(l.length:Int))=n-l.length:=AD (by omega) (by omega)
 refine ⟨λ c1=>?_,λ c1=>?_⟩
 ·try simp only [nrm] at c1
  refine AK ?_;try rw [hw] at *;grind [szR]
 try simp only [nrm] at c1
 refine AK ?_;try rw [hw] at *;grind [szR]
def E9:Con:={ ι:=BigD×Int,pre:=λ i=>hasRow [.bool,.sl 3 [.int]] [.bool i.1.neg,.sl i.1.num]/\0<=i.2/\i.2<=1048576,args:=λ i=>[DA.agg [cB i.1.neg,cS i.1.num],.one (cI i.2)],res:=λ i=>⟨false,[none],[rcI (szR (AE [.bool i.1.neg,.sl i.1.num]) i.2)]⟩ }
theorem Q2:E9.Ok Tryz.prog 99:=by
 refine fok (X:=⟨tt,[(54,Bk)],[],12,[]⟩) AI AF (CTok.cons Kz (CTok.nil _)) Tryz.func99 (λ _=>[]) ?_
 rintro ⟨b,n⟩ hpre
 have hpre:hasRow [.bool,.sl 3 [.int]] [.bool b.neg,.sl b.num]/\0<=n/\n<=1048576:=hpre
 refine AH (q:=let Z1:=szR (AE [.bool b.neg,.sl b.num]) n;∃ i1:(List (List Dat))×Int,let Z2:=szR (i1.1.length+AG i1.1) i1.2;[DA.one (cS b.num),DA.one (cI n)]=Bk.args i1/\Bk.pre i1/\(ifB ((decide (Z2<(0:Int)))) ((vI (-1:Int)=vI Z1)) ((vI Z2=vI Z1)))) (by kernel_rfl) ?_
 conv=>zeta
 delta ifB vI
 obtain ⟨hh,h0,h1⟩:=hpre
 simp only [hasRow] at hh
 refine ⟨(b.num,n),by
  rfl,by
  show Dat.has (.sl 3 [.int]) (.sl b.num)/\0<=n/\n<=1048576
  refine ⟨?_,?_,?_⟩ <;> first|(simp only [hasRow];simp only [hh,and_self];done)|exact hh.1|exact hh.2.1|exact hh.2.2.1|exact hh.2.2.2.1|exact hh.2.2.2.2.1|exact hh.2.2.2.2.2.1|exact hh.2.2.2.2.2.2.1|omega|(unfold szR;grind)|(simp [hh];done),?_⟩
 refine ⟨λ c4=>?_,λ c4=>?_⟩
 ·try simp only [nrm] at c4
  refine AK ?_;try simp only [AE,Dat.sz,Nat.add_zero,Nat.zero_add] at *;all_goals grind [szR]
 try simp only [nrm] at c4
 show Value.int .i64 (szR (b.num.length+AG b.num) n)=Value.int .i64 (szR (AE [.bool b.neg,.sl b.num]) n)
 refine AK ?_;try simp only [AE,Dat.sz,Nat.add_zero,Nat.zero_add] at *;all_goals grind [szR]
def Ai:Con:={ ι:=RatD×Int,pre:=λ i=>hasRow [.bool,.sl 3 [.int],.sl 3 [.int]] [.bool i.1.neg,.sl i.1.num,.sl i.1.den]/\0<=i.2/\i.2<=1048576,args:=λ i=>[DA.agg [cB i.1.neg,cS i.1.num,cS i.1.den],.one (cI i.2)],res:=λ i=>⟨false,[none],[rcI (szR (AE [.bool i.1.neg,.sl i.1.num,.sl i.1.den]) i.2)]⟩ }
theorem Q3:Ai.Ok Tryz.prog 36:=by
 refine fok (X:=⟨tt,[(99,E9),(54,Bk)],[],18,[]⟩) AI AF (CTok.cons Q2 (CTok.cons Kz (CTok.nil _))) Tryz.func36 (λ _=>[]) ?_
 rintro ⟨r,n⟩ hpre
 have hpre:hasRow [.bool,.sl 3 [.int],.sl 3 [.int]] [.bool r.neg,.sl r.num,.sl r.den]/\0<=n/\n<=1048576:=hpre
 refine AH (q:=let Z1:=szR (AE [.bool r.neg,.sl r.num,.sl r.den]) n;let Z4:=(vI (-1:Int)=vI Z1);∃ i1:BigD×Int,let Z2:=szR (AE [.bool i1.1.neg,.sl i1.1.num]) i1.2;[DA.agg [cB r.neg,cS r.num],DA.one (cI n)]=E9.args i1/\E9.pre i1/\(ifB ((decide (Z2<(0:Int)))) Z4 (∃ i2:(List (List Dat))×Int,let Z3:=szR (i2.1.length+AG i2.1) i2.2;[DA.one (cS r.den),DA.one (cI Z2)]=Bk.args i2/\Bk.pre i2/\(ifB ((decide (Z3<(0:Int)))) Z4 ((vI Z3=vI Z1)))))) (by kernel_rfl) ?_
 conv=>zeta
 delta ifB vI
 obtain ⟨hh,h0,h1⟩:=hpre
 simp only [hasRow] at hh
 refine ⟨(BigD.mk r.neg r.num,n),by
  rfl,by
  show hasRow [.bool,.sl 3 [.int]] [.bool (BigD.mk r.neg r.num).neg,.sl (BigD.mk r.neg r.num).num]/\0<=n/\n<=1048576
  refine ⟨?_,?_,?_⟩ <;> first|(simp only [hasRow];simp only [hh,and_self];done)|exact hh.1|exact hh.2.1|exact hh.2.2.1|exact hh.2.2.2.1|exact hh.2.2.2.2.1|exact hh.2.2.2.2.2.1|exact hh.2.2.2.2.2.2.1|omega|(unfold szR;grind)|(simp [hh];done),?_⟩
 refine ⟨λ c4=>?_,λ c4=>?_⟩
 ·try simp only [nrm] at c4
  refine AK ?_;try simp only [AE,Dat.sz,Nat.add_zero,Nat.zero_add] at *;all_goals grind [szR]
 try simp only [nrm] at c4
 refine ⟨(r.den,(szR (AE [.bool (BigD.mk r.neg r.num).neg,.sl (BigD.mk r.neg r.num).num]) n)),by
  rfl,by
  try dsimp only [Bk]
  refine ⟨?_,?_,?_⟩ <;> first|(simp only [hasRow];simp only [hh,and_self];done)|exact hh.1|exact hh.2.1|exact hh.2.2.1|exact hh.2.2.2.1|exact hh.2.2.2.2.1|exact hh.2.2.2.2.2.1|exact hh.2.2.2.2.2.2.1|omega|(unfold szR;grind)|(simp [hh];done),?_⟩
 refine ⟨λ c9=>?_,λ c9=>?_⟩
 ·try simp only [nrm] at c9
  refine AK ?_;try simp only [AE,Dat.sz,Nat.add_zero,Nat.zero_add] at *;all_goals grind [szR]
 try simp only [nrm] at c9
 refine AK ?_;try simp only [AE,Dat.sz,Nat.add_zero,Nat.zero_add] at *;all_goals grind [szR]
def A6:Con:={ ι:=RatD,pre:=λ i=>True,args:=λ i=>[DA.agg [cB i.neg,cS i.num,cS i.den],DA.agg [cB i.neg,cS i.num,cS i.den]],res:=λ i=>⟨false,[none],[rcB true]⟩ }
theorem Q4:A6.Ok Tryz.prog 41:=Wy [.bool,.sl 3 [.int],.sl 3 [.int]] ⟨_,Tryz.func41,by decide,rfl⟩ (λ _=>rfl) (λ _=>rfl) (λ ds vs us w=>YO ds vs us w)
def Aj:Con:={ ι:=RatD,pre:=λ i=>AE [.bool i.neg,.sl i.num,.sl i.den]<=1048576,args:=λ i=>[DA.agg [cB i.neg,cS i.num,cS i.den]],res:=λ i=>⟨false,[some 3],[rcB i.neg,.own 3 [.int] i.num,.own 3 [.int] i.den]⟩ }
theorem Q5:Aj.Ok Tryz.prog 38:=Wz (out:=λ r=>[.im (.bool r.neg),.sl 3 [.int] r.num,.sl 3 [.int] r.den]) [.bool,.sl 3 [.int],.sl 3 [.int]] ⟨_,Tryz.func38,by decide,rfl⟩ (λ _=>rfl) (λ _=>rfl) (λ _=>rfl) (λ _=>rfl) (λ _=>rfl) (λ _=>rfl) (λ _=>rfl) (λ _=>Nat.le_of_ble_eq_true rfl) (λ _ h=>h) (λ ds h vs w=>YP ds h vs w)
def By:Con:={ ι:=(List (List Dat)),pre:=λ i=>True,args:=λ i=>[.one (cS i),.one (cS i)],res:=λ i=>⟨false,[none],[rcB true]⟩ }
theorem Od:By.Ok Tryz.prog 14:=SU (.sl 3 [.int]) ⟨_,Tryz.func14,by decide,rfl⟩ (λ _=>rfl) (λ _=>rfl) (λ d v u w h h'=>by obtain ⟨l,_,_,rfl,_⟩:=Rd.sl_inv h;exact ND l v u w h h')
def HQ:Con:={ ι:=(List (List Dat)),pre:=λ i=>i.length+AG i<=1048576,args:=λ i=>[.one (cS i)],res:=λ i=>⟨false,[none],[.own 3 [.int] i]⟩ }
theorem VE:HQ.Ok Tryz.prog 65:=SV 3 [.int] ⟨_,Tryz.func65,by decide,rfl⟩ (λ _=>rfl) (λ _=>rfl) (λ _=>rfl) (λ _ h=>h) (λ ls h v w=>NE ls h v w)
def EM:Con:={ ι:=(List (List Dat)),pre:=λ i=>True,args:=λ i=>[.one (DC.sl 39 [.int,.int] i),.one (DC.sl 39 [.int,.int] i)],res:=λ i=>⟨false,[none],[rcB true]⟩ }
theorem VF:EM.Ok Tryz.prog 72:=SU (.sl 39 [.int,.int]) ⟨_,Tryz.func72,by decide,rfl⟩ (λ _=>rfl) (λ _=>rfl) (λ d v u w h h'=>by obtain ⟨l,_,_,rfl,_⟩:=Rd.sl_inv h;exact Q0 l v u w h h')
def EN:Con:={ ι:=(List (List Dat)),pre:=λ i=>i.length+AG i<=1048576,args:=λ i=>[.one (DC.sl 23 [.int,.int] i)],res:=λ i=>⟨false,[none],[.own 39 [.int,.int] i]⟩ }
theorem VG:EN.Ok Tryz.prog 61:=SV 39 [.int,.int] ⟨_,Tryz.func61,by decide,rfl⟩ (λ _=>rfl) (λ _=>rfl) (λ _=>rfl) (λ _ h=>h) (λ ls h v w=>Q1 ls h v w)
def Cz:Con:={ ι:=(List (List Dat)),pre:=λ i=>True,args:=λ i=>[.one (DC.sl 40 [.sl 39 [.int,.int]] i),.one (DC.sl 40 [.sl 39 [.int,.int]] i)],res:=λ i=>⟨false,[none],[rcB true]⟩ }
theorem NF:Cz.Ok Tryz.prog 32:=SU (.sl 40 [.sl 39 [.int,.int]]) ⟨_,Tryz.func32,by decide,rfl⟩ (λ _=>rfl) (λ _=>rfl) (λ d v u w h h'=>by obtain ⟨l,_,_,rfl,_⟩:=Rd.sl_inv h;exact VB l v u w h h')
def C0:Con:={ ι:=(List (List Dat)),pre:=λ i=>i.length+AG i<=1048576,args:=λ i=>[.one (DC.sl 24 [.sl 23 [.int,.int]] i)],res:=λ i=>⟨false,[none],[.own 40 [.sl 39 [.int,.int]] i]⟩ }
theorem NG:C0.Ok Tryz.prog 29:=SV 40 [.sl 39 [.int,.int]] ⟨_,Tryz.func29,by decide,rfl⟩ (λ _=>rfl) (λ _=>rfl) (λ _=>rfl) (λ _ h=>h) (λ ls h v w=>VD ls h v w)
def CU:Con:={ ι:=(Int×Int),pre:=λ i=>AE [.int i.1,.int i.2]<=1048576,args:=λ i=>[DA.agg [cI i.1,cI i.2]],res:=λ i=>⟨false,[some 2],[rcI i.1,rcI i.2]⟩ }
theorem Q6:CU.Ok Tryz.prog 60:=Wz (out:=λ p=>[.im (.int .i64 p.1),.im (.int .i64 p.2)]) [.int,.int] ⟨_,Tryz.func60,by decide,rfl⟩ (λ _=>rfl) (λ _=>rfl) (λ _=>rfl) (λ _=>rfl) (λ _=>rfl) (λ _=>rfl) (λ _=>rfl) (λ _=>Nat.le_of_ble_eq_true rfl) (λ _ h=>h) (λ ds h vs w=>UA ds h vs w)
def CV:Con:={ ι:=(Int×Int),pre:=λ i=>True,args:=λ i=>[DA.agg [cI i.1,cI i.2],DA.agg [cI i.1,cI i.2]],res:=λ i=>⟨false,[none],[rcB true]⟩ }
theorem Q7:CV.Ok Tryz.prog 71:=Wy [.int,.int] ⟨_,Tryz.func71,by decide,rfl⟩ (λ _=>rfl) (λ _=>rfl) (λ ds vs us w=>T8 ds vs us w)
theorem PR {e:Nat} {ts:List Ty} {r:List Dat} (h0:hasRow [.sl e ts] r):[Dat.sl ((r.getD 0 (.int 0)).r)]=r:=by
 obtain ⟨_,_,rfl,q0,h1⟩:=h0.cons
 obtain ⟨_,rfl⟩:=Dat.has_sl q0
 obtain rfl:=h1.nil
 rfl
theorem Bz (a:Nat) (n:Int):szR a n=-1/\n<(a:Int)∨szR a n=n-a/\(a:Int)<=n:=by unfold szR;split <;> omega
theorem PS {l:List (List Dat)} {k:Nat} {z:List Dat} (h:k<=l.length):(l.take k++List.replicate (l.length-k) z).length=l.length:=by rw [List.length_append,List.length_take,List.length_replicate];omega
theorem NH {l:List (List Dat)} {k:Nat} {z x:List Dat} (h:k<l.length) (e:l.getD k []=x):(l.take k++List.replicate (l.length-k) z).set k x=l.take (k+1)++List.replicate (l.length-(k+1)) z:=by
 have e1:l.length-k=l.length-(k+1)+1:=by omega
 rw [e1,List.replicate_succ,List.set_append_right _ _ (by rw [List.length_take];omega)]
 have e2:k-(l.take k).length=0:=by rw [List.length_take];omega
 rw [e2,List.set_cons_zero,List.take_add_one,← e]
 have e3:l[k]?.toList=[l.getD k []]:=by simp [List.getD,h]
 rw [e3,List.append_assoc,List.singleton_append]
theorem PT {l:List (List Dat)} {k:Nat} {z:List Dat} (h:l.length<=k):l.take k++List.replicate (l.length-k) z=l:=by
 rw [List.take_of_length_le h,show l.length-k=0 by omega];simp
def CZ:Con:={ ι:=(List (List Dat))×Int,pre:=λ i=>Dat.has (.sl 24 [.sl 23 [.int,.int]]) (.sl i.1)/\0<=i.2/\i.2<=1048576,args:=λ i=>[.one (DC.sl 24 [.sl 23 [.int,.int]] i.1),.one (cI i.2)],res:=λ i=>⟨false,[none],[rcI (szR (i.1.length+AG i.1) i.2)]⟩ }
theorem NI:CZ.Ok Tryz.prog 26:=by
 refine fok (X:=⟨tt,[(50,CI)],[],27,[]⟩) AI AF (CTok.cons Oc (CTok.nil _)) Tryz.func26 (λ (i:(List (List Dat))×Int)=>[(5,.mk 2 (Nat×Int) (λ x1=>{ tm:=[(0,tX 1),(4,tI (0:Int)),(5,tI (x1.1:Int)),(1,tI x1.2)],en:=[(1,.view 24 [.sl 23 [.int,.int]] i.1 [])] }) (λ x1=>x1.1<=i.1.length/\0<=x1.2/\x1.2+i.1.length+AG (i.1.take x1.1)=i.2) (λ x1=>i.1.length-x1.1) (λ _=>[]))]) ?_
 rintro ⟨l,n⟩ hpre
 have hpre:Dat.has (.sl 24 [.sl 23 [.int,.int]]) (.sl l)/\0<=n/\n<=1048576:=hpre
 refine AH (q:=let Z5:=wR (n-(nI l.length));let Z1:=szR (l.length+AG l) n;let Z4:=(vI (-1:Int)=vI Z1);ifB ((decide (Z5<(0:Int)))) Z4 ((∃ x1:Nat×Int,(x1.1<=l.length/\0<=x1.2/\x1.2+l.length+AG (l.take x1.1)=n)/\((rf (vI (0:Int)))/\(vI (0:Int)=vI (x1.1:Int))/\(vI Z5=vI x1.2)/\(rf (l))))/\∀ x1:Nat×Int,let Z3:=(x1.1:Int);(x1.1<=l.length/\0<=x1.2/\x1.2+l.length+AG (l.take x1.1)=n)->(ifB ((decide (Z3<(nI l.length)))) ((0<=Z3/\Z3<(l.length:Int))/\((x1.1<l.length)/\(∃ i1:(List (List Dat))×Int,let Z2:=szR (i1.1.length+AG i1.1) i1.2;[DA.one (DC.sl 23 [.int,.int] ((((l.getD x1.1 []).getD 0 (.int 0))).r)),DA.one (cI x1.2)]=CI.args i1/\CI.pre i1/\(ifB ((decide (Z2<(0:Int)))) Z4 (∃ y2:Nat×Int,(y2.1<=l.length/\0<=y2.2/\y2.2+l.length+AG (l.take y2.1)=n)/\(l.length-y2.1<l.length-x1.1)/\((rf (vI (0:Int)))/\(vI (wR (Z3+(1:Int)))=vI (y2.1:Int))/\(vI Z2=vI y2.2)/\(rf (l)))))))) ((vI x1.2=vI Z1))))) (by kernel_rfl) ?_
 conv=>zeta
 delta ifB vI wR nI
 obtain ⟨hh,h0,h1⟩:=hpre
 have hh2:=Bh hh
 have hl:=Cr hh
 have hw:IntKind.i64.wrap (n-(l.length:Int))=n-l.length:=AD (by omega) (by omega)
 refine ⟨λ c1=>?_,λ c1=>?_⟩
 ·try simp only [nrm] at c1
  refine AK ?_;try rw [hw] at *;grind [szR]
 try simp only [nrm] at c1
 refine ⟨⟨(0,n-l.length),by
  rw [hw] at c1;simp [AG];omega,?_⟩,?_⟩
 ·refine ⟨rfl,rfl,?_,rfl⟩
  exact AK hw
 rintro ⟨k,m⟩ hki3
 have hki3:k<=l.length/\0<=m/\m+l.length+AG (l.take k)=n:=hki3
 have hle:=CS l k
 refine And.symm ⟨λ c9=>?_,λ c9=>?_⟩
 ·try simp only [nrm] at c9
  obtain rfl:k=l.length:=by omega
  rw [List.take_length] at hki3
  refine AK ?_;try rw [hw] at *;grind [szR]
 try simp only [nrm] at c9
 refine ao (a:=0<=(k:Int)/\(k:Int)<(l.length:Int)) (by omega) λ o10=>?_
 refine ao (a:=k<l.length) (by omega) λ o11=>?_
 refine ⟨(((l.getD k []).getD 0 (.int 0)).r,m),by
  rfl,by
  show Dat.has (.sl 39 [.int,.int]) (.sl (((l.getD k []).getD 0 (.int 0)).r))/\0<=m/\m<=1048576
  refine ⟨?_,by omega,by omega⟩
  have:=hh2 k (by omega)
  rw [← PR this] at this
  exact this.1,?_⟩
 have hle:=CS l (k+1)
 have hts:=Fq l k (by omega)
 have hrow:=hh2 k (by omega)
 rw [← PR hrow] at hts
 have hts:AG (l.take (k+1))=AG (l.take k)+((((l.getD k []).getD 0 (.int 0)).r).length+AG (((l.getD k []).getD 0 (.int 0)).r)):=by first|exact hts|simpa only [AE,Dat.sz,Nat.add_zero] using hts
 refine ⟨λ c15=>?_,λ c15=>?_⟩
 ·try simp only [nrm] at c15
  refine AK ?_;try rw [hw] at *;grind [szR]
 try simp only [nrm] at c15
 refine ⟨(k+1,szR ((((l.getD k []).getD 0 (.int 0)).r).length+AG (((l.getD k []).getD 0 (.int 0)).r)) m),by
  unfold szR at *;grind,by
  omega,?_⟩
 refine ⟨rfl,?_,rfl,rfl⟩
 exact AK (AD (by omega) (by omega))
theorem PU {r:List Dat} (h:hasRow [.int,.int] r):r=[.int (r.getD 0 (.int 0)).n,.int (r.getD 1 (.int 0)).n]:=by
 obtain ⟨_,_,rfl,q0,h0⟩:=h.cons
 obtain ⟨_,rfl⟩:=Dat.has_int q0
 obtain ⟨_,_,rfl,q1,h1⟩:=h0.cons
 obtain ⟨_,rfl⟩:=Dat.has_int q1
 obtain rfl:=hasRow.nil h1
 rfl
theorem YQ {r:List Dat} (h:hasRow [.int,.int] r):AE r=0:=by
 rw [PU h]
 simp only [AE,Dat.sz]
theorem YR {r:List Dat} (h:hasRow [.int,.int] r):Dat.has .int (.int (r.getD 0 (.int 0)).n)/\Dat.has .int (.int (r.getD 1 (.int 0)).n):=by
 rw [PU h] at h
 simpa only [hasRow,and_true] using h
def HS:Con:={ ι:=(List Dat),pre:=λ i=>hasRow [.int,.int] i/\AE i<=1048576,args:=λ i=>[DA.agg [cI ((i.getD 0 (.int 0)).n),cI ((i.getD 1 (.int 0)).n)]],res:=λ i=>⟨false,[some 2],[rcI ((i.getD 0 (.int 0)).n),rcI ((i.getD 1 (.int 0)).n)]⟩ }
theorem VH:HS.Ok Tryz.prog 121:=by
 refine fok (X:=⟨tt,[],[],11,[]⟩) AI AF (CTok.nil _) Tryz.func121 (λ _=>[]) ?_
 intro (r:List Dat) hpre
 have hpre:hasRow [.int,.int] r/\AE r<=1048576:=hpre
 refine AH (q:=(vI ((r.getD 0 (.int 0)).n)=vI ((r.getD 0 (.int 0)).n))/\(vI ((r.getD 1 (.int 0)).n)=vI ((r.getD 1 (.int 0)).n))) (by kernel_rfl) ?_
 delta vI
 have hz:=YQ hpre.1
 have hs:=hpre.2
 have hp:=YR hpre.1
 obtain ⟨p0,p1⟩:=hp
 exact ⟨rfl,rfl⟩
def HW:Con:={ ι:=(List Dat),pre:=λ i=>True,args:=λ i=>[DA.agg [cI ((i.getD 0 (.int 0)).n),cI ((i.getD 1 (.int 0)).n)],DA.agg [cI ((i.getD 0 (.int 0)).n),cI ((i.getD 1 (.int 0)).n)]],res:=λ i=>⟨false,[none],[rcB true]⟩ }
theorem VI:HW.Ok Tryz.prog 130:=by
 refine fok (X:=⟨tt,[],[],15,[]⟩) AI AF (CTok.nil _) Tryz.func130 (λ _=>[]) ?_
 intro (r:List Dat) hpre
 have hpre:True:=hpre
 refine AH (q:=ifB ((((r.getD 0 (.int 0)).n) != ((r.getD 0 (.int 0)).n))) ((vB false=vB true)) (ifB ((((r.getD 1 (.int 0)).n) != ((r.getD 1 (.int 0)).n))) ((vB false=vB true)) ((vB true=vB true)))) (by kernel_rfl) ?_
 delta ifB vB
 refine ⟨λ c1=>?_,λ c1=>?_⟩
 ·try simp only [nrm] at c1
  exfalso;simp_all;done
 try simp only [nrm] at c1
 refine ⟨λ c3=>?_,λ c3=>?_⟩
 ·try simp only [nrm] at c3
  exfalso;simp_all;done
 try simp only [nrm] at c3
 exact rfl
theorem PV {r:List Dat} (h:hasRow [.bool,.sl 3 [.int],.sl 3 [.int],.bool,.sl 3 [.int],.sl 3 [.int],.bool,.sl 3 [.int],.sl 3 [.int]] r):r=[.bool (r.getD 0 (.int 0)).b,.sl (r.getD 1 (.int 0)).r,.sl (r.getD 2 (.int 0)).r,.bool (r.getD 3 (.int 0)).b,.sl (r.getD 4 (.int 0)).r,.sl (r.getD 5 (.int 0)).r,.bool (r.getD 6 (.int 0)).b,.sl (r.getD 7 (.int 0)).r,.sl (r.getD 8 (.int 0)).r]:=by
 obtain ⟨_,_,rfl,q0,h0⟩:=h.cons
 obtain ⟨_,rfl⟩:=Dat.has_bool q0
 obtain ⟨_,_,rfl,q1,h1⟩:=h0.cons
 obtain ⟨_,rfl⟩:=Dat.has_sl q1
 obtain ⟨_,_,rfl,q2,h2⟩:=h1.cons
 obtain ⟨_,rfl⟩:=Dat.has_sl q2
 obtain ⟨_,_,rfl,q3,h3⟩:=h2.cons
 obtain ⟨_,rfl⟩:=Dat.has_bool q3
 obtain ⟨_,_,rfl,q4,h4⟩:=h3.cons
 obtain ⟨_,rfl⟩:=Dat.has_sl q4
 obtain ⟨_,_,rfl,q5,h5⟩:=h4.cons
 obtain ⟨_,rfl⟩:=Dat.has_sl q5
 obtain ⟨_,_,rfl,q6,h6⟩:=h5.cons
 obtain ⟨_,rfl⟩:=Dat.has_bool q6
 obtain ⟨_,_,rfl,q7,h7⟩:=h6.cons
 obtain ⟨_,rfl⟩:=Dat.has_sl q7
 obtain ⟨_,_,rfl,q8,h8⟩:=h7.cons
 obtain ⟨_,rfl⟩:=Dat.has_sl q8
 obtain rfl:=hasRow.nil h8
 rfl
theorem UB {r:List Dat} (h:hasRow [.bool,.sl 3 [.int],.sl 3 [.int],.bool,.sl 3 [.int],.sl 3 [.int],.bool,.sl 3 [.int],.sl 3 [.int]] r):AE r=(AE [.bool (r.getD 0 (.int 0)).b,.sl (r.getD 1 (.int 0)).r,.sl (r.getD 2 (.int 0)).r])+(AE [.bool (r.getD 3 (.int 0)).b,.sl (r.getD 4 (.int 0)).r,.sl (r.getD 5 (.int 0)).r])+(AE [.bool (r.getD 6 (.int 0)).b,.sl (r.getD 7 (.int 0)).r,.sl (r.getD 8 (.int 0)).r]):=by
 conv=>lhs;rw [PV h]
 simp only [AE,Dat.sz]
 omega
theorem UC {r:List Dat} (h:hasRow [.bool,.sl 3 [.int],.sl 3 [.int],.bool,.sl 3 [.int],.sl 3 [.int],.bool,.sl 3 [.int],.sl 3 [.int]] r):Dat.has .bool (.bool (r.getD 0 (.int 0)).b)/\Dat.has (.sl 3 [.int]) (.sl (r.getD 1 (.int 0)).r)/\Dat.has (.sl 3 [.int]) (.sl (r.getD 2 (.int 0)).r)/\Dat.has .bool (.bool (r.getD 3 (.int 0)).b)/\Dat.has (.sl 3 [.int]) (.sl (r.getD 4 (.int 0)).r)/\Dat.has (.sl 3 [.int]) (.sl (r.getD 5 (.int 0)).r)/\Dat.has .bool (.bool (r.getD 6 (.int 0)).b)/\Dat.has (.sl 3 [.int]) (.sl (r.getD 7 (.int 0)).r)/\Dat.has (.sl 3 [.int]) (.sl (r.getD 8 (.int 0)).r):=by
 rw [PV h] at h
 simpa only [hasRow,and_true] using h
def HY:Con:={ ι:=(List Dat)×Int,pre:=λ i=>hasRow [.bool,.sl 3 [.int],.sl 3 [.int],.bool,.sl 3 [.int],.sl 3 [.int],.bool,.sl 3 [.int],.sl 3 [.int]] i.1/\0<=i.2/\i.2<=1048576,args:=λ i=>[Ig i.1,.one (cI i.2)],res:=λ i=>⟨false,[none],[rcI (szR (AE i.1) i.2)]⟩ }
theorem VJ:HY.Ok Tryz.prog 113:=by
 refine fok (X:=⟨tt,[(36,Ai)],[],24,[]⟩) AI AF (CTok.cons Q3 (CTok.nil _)) Tryz.func113 (λ _=>[]) ?_
 rintro ⟨r,n⟩ hpre
 have hpre:hasRow [.bool,.sl 3 [.int],.sl 3 [.int],.bool,.sl 3 [.int],.sl 3 [.int],.bool,.sl 3 [.int],.sl 3 [.int]] r/\0<=n/\n<=1048576:=hpre
 refine AH (q:=let Z1:=(vI (-1:Int)=vI (szR (AE r) n));∃ i1:RatD×Int,let Z2:=szR (AE [.bool i1.1.neg,.sl i1.1.num,.sl i1.1.den]) i1.2;[w84 r,DA.one (cI n)]=Ai.args i1/\Ai.pre i1/\(ifB ((decide (Z2<(0:Int)))) Z1 (∃ i2:RatD×Int,let Z3:=szR (AE [.bool i2.1.neg,.sl i2.1.num,.sl i2.1.den]) i2.2;[dA r 3 4 5,DA.one (cI Z2)]=Ai.args i2/\Ai.pre i2/\(ifB ((decide (Z3<(0:Int)))) Z1 (∃ i3:RatD×Int,let Z4:=szR (AE [.bool i3.1.neg,.sl i3.1.num,.sl i3.1.den]) i3.2;[dA r 6 7 8,DA.one (cI Z3)]=Ai.args i3/\Ai.pre i3/\(ifB ((decide (Z4<(0:Int)))) Z1 ((vI Z4=vI (szR (AE r) n))))))))) (by kernel_rfl) ?_
 conv=>zeta
 delta dA w84 ifB vI
 obtain ⟨hh,h0,h1⟩:=hpre
 have hz:=UB hh
 have hp:=UC hh
 obtain ⟨p0,p1,p2,p3,p4,p5,p6,p7,p8⟩:=hp
 have f0:=Bz (AE [.bool (r.getD 0 (.int 0)).b,.sl (r.getD 1 (.int 0)).r,.sl (r.getD 2 (.int 0)).r]) (n)
 have f1:=Bz (AE [.bool (r.getD 3 (.int 0)).b,.sl (r.getD 4 (.int 0)).r,.sl (r.getD 5 (.int 0)).r]) (szR (AE [.bool (r.getD 0 (.int 0)).b,.sl (r.getD 1 (.int 0)).r,.sl (r.getD 2 (.int 0)).r]) (n))
 have f2:=Bz (AE [.bool (r.getD 6 (.int 0)).b,.sl (r.getD 7 (.int 0)).r,.sl (r.getD 8 (.int 0)).r]) (szR (AE [.bool (r.getD 3 (.int 0)).b,.sl (r.getD 4 (.int 0)).r,.sl (r.getD 5 (.int 0)).r]) (szR (AE [.bool (r.getD 0 (.int 0)).b,.sl (r.getD 1 (.int 0)).r,.sl (r.getD 2 (.int 0)).r]) (n)))
 have ft:=Bz (AE r) n
 refine ⟨((RatD.mk ((r.getD 0 (.int 0)).b) ((r.getD 1 (.int 0)).r) ((r.getD 2 (.int 0)).r)),n),by
  rfl,by
  try dsimp only [Ai]
  refine ⟨?_,?_,?_⟩ <;> (try dsimp only) <;> first|assumption|omega|exact ⟨p0,p1,p2,trivial⟩|exact ⟨p3,p4,p5,trivial⟩|exact ⟨p6,p7,p8,trivial⟩,?_⟩
 refine ⟨λ c4=>?_,λ c4=>?_⟩
 ·try dsimp only at c4
  try simp only [nrm] at c4
  refine AK ?_;try dsimp only
  omega
 try dsimp only at c4
 try simp only [nrm] at c4
 refine ⟨((RatD.mk ((r.getD 3 (.int 0)).b) ((r.getD 4 (.int 0)).r) ((r.getD 5 (.int 0)).r)),(szR (AE [.bool (RatD.mk ((r.getD 0 (.int 0)).b) ((r.getD 1 (.int 0)).r) ((r.getD 2 (.int 0)).r)).neg,.sl (RatD.mk ((r.getD 0 (.int 0)).b) ((r.getD 1 (.int 0)).r) ((r.getD 2 (.int 0)).r)).num,.sl (RatD.mk ((r.getD 0 (.int 0)).b) ((r.getD 1 (.int 0)).r) ((r.getD 2 (.int 0)).r)).den]) n)),by
  rfl,by
  try dsimp only [Ai]
  refine ⟨?_,?_,?_⟩ <;> (try dsimp only) <;> first|assumption|omega|exact ⟨p0,p1,p2,trivial⟩|exact ⟨p3,p4,p5,trivial⟩|exact ⟨p6,p7,p8,trivial⟩,?_⟩
 refine ⟨λ c9=>?_,λ c9=>?_⟩
 ·try dsimp only at c9
  try simp only [nrm] at c9
  refine AK ?_;try dsimp only
  omega
 try dsimp only at c9
 try simp only [nrm] at c9
 refine ⟨((RatD.mk ((r.getD 6 (.int 0)).b) ((r.getD 7 (.int 0)).r) ((r.getD 8 (.int 0)).r)),(szR (AE [.bool (RatD.mk ((r.getD 3 (.int 0)).b) ((r.getD 4 (.int 0)).r) ((r.getD 5 (.int 0)).r)).neg,.sl (RatD.mk ((r.getD 3 (.int 0)).b) ((r.getD 4 (.int 0)).r) ((r.getD 5 (.int 0)).r)).num,.sl (RatD.mk ((r.getD 3 (.int 0)).b) ((r.getD 4 (.int 0)).r) ((r.getD 5 (.int 0)).r)).den]) (szR (AE [.bool (RatD.mk ((r.getD 0 (.int 0)).b) ((r.getD 1 (.int 0)).r) ((r.getD 2 (.int 0)).r)).neg,.sl (RatD.mk ((r.getD 0 (.int 0)).b) ((r.getD 1 (.int 0)).r) ((r.getD 2 (.int 0)).r)).num,.sl (RatD.mk ((r.getD 0 (.int 0)).b) ((r.getD 1 (.int 0)).r) ((r.getD 2 (.int 0)).r)).den]) n))),by
  rfl,by
  try dsimp only [Ai]
  refine ⟨?_,?_,?_⟩ <;> (try dsimp only) <;> first|assumption|omega|exact ⟨p0,p1,p2,trivial⟩|exact ⟨p3,p4,p5,trivial⟩|exact ⟨p6,p7,p8,trivial⟩,?_⟩
 refine ⟨λ c14=>?_,λ c14=>?_⟩
 ·try dsimp only at c14
  try simp only [nrm] at c14
  refine AK ?_;try dsimp only
  omega
 try dsimp only at c14
 try simp only [nrm] at c14
 show Value.int .i64 (szR (AE [.bool (RatD.mk ((r.getD 6 (.int 0)).b) ((r.getD 7 (.int 0)).r) ((r.getD 8 (.int 0)).r)).neg,.sl (RatD.mk ((r.getD 6 (.int 0)).b) ((r.getD 7 (.int 0)).r) ((r.getD 8 (.int 0)).r)).num,.sl (RatD.mk ((r.getD 6 (.int 0)).b) ((r.getD 7 (.int 0)).r) ((r.getD 8 (.int 0)).r)).den]) (szR (AE [.bool (RatD.mk ((r.getD 3 (.int 0)).b) ((r.getD 4 (.int 0)).r) ((r.getD 5 (.int 0)).r)).neg,.sl (RatD.mk ((r.getD 3 (.int 0)).b) ((r.getD 4 (.int 0)).r) ((r.getD 5 (.int 0)).r)).num,.sl (RatD.mk ((r.getD 3 (.int 0)).b) ((r.getD 4 (.int 0)).r) ((r.getD 5 (.int 0)).r)).den]) (szR (AE [.bool (RatD.mk ((r.getD 0 (.int 0)).b) ((r.getD 1 (.int 0)).r) ((r.getD 2 (.int 0)).r)).neg,.sl (RatD.mk ((r.getD 0 (.int 0)).b) ((r.getD 1 (.int 0)).r) ((r.getD 2 (.int 0)).r)).num,.sl (RatD.mk ((r.getD 0 (.int 0)).b) ((r.getD 1 (.int 0)).r) ((r.getD 2 (.int 0)).r)).den]) n)))=Value.int .i64 (szR (AE r) n)
 refine AK ?_;try dsimp only
 omega
def Ha:Con:={ ι:=(List Dat),pre:=λ i=>hasRow [.bool,.sl 3 [.int],.sl 3 [.int],.bool,.sl 3 [.int],.sl 3 [.int],.bool,.sl 3 [.int],.sl 3 [.int]] i/\AE i<=1048576,args:=λ i=>[Ig i],res:=λ i=>⟨false,[some 9],[rcB ((i.getD 0 (.int 0)).b),.own 3 [.int] ((i.getD 1 (.int 0)).r),.own 3 [.int] ((i.getD 2 (.int 0)).r),rcB ((i.getD 3 (.int 0)).b),.own 3 [.int] ((i.getD 4 (.int 0)).r),.own 3 [.int] ((i.getD 5 (.int 0)).r),rcB ((i.getD 6 (.int 0)).b),.own 3 [.int] ((i.getD 7 (.int 0)).r),.own 3 [.int] ((i.getD 8 (.int 0)).r)]⟩ }
theorem VK:Ha.Ok Tryz.prog 120:=by
 refine fok (X:=⟨tt,[(38,Aj)],[],17,[]⟩) AI AF (CTok.cons Q5 (CTok.nil _)) Tryz.func120 (λ _=>[]) ?_
 intro (r:List Dat) hpre
 have hpre:hasRow [.bool,.sl 3 [.int],.sl 3 [.int],.bool,.sl 3 [.int],.sl 3 [.int],.bool,.sl 3 [.int],.sl 3 [.int]] r/\AE r<=1048576:=hpre
 refine AH (q:=∃ i1:RatD,[w84 r]=Aj.args i1/\Aj.pre i1/\(∃ i2:RatD,[dA r 3 4 5]=Aj.args i2/\Aj.pre i2/\(∃ i3:RatD,[dA r 6 7 8]=Aj.args i3/\Aj.pre i3/\((vB i1.neg=vB ((r.getD 0 (.int 0)).b))/\(i1.num=(r.getD 1 (.int 0)).r)/\(i1.den=(r.getD 2 (.int 0)).r)/\(vB i2.neg=vB ((r.getD 3 (.int 0)).b))/\(i2.num=(r.getD 4 (.int 0)).r)/\(i2.den=(r.getD 5 (.int 0)).r)/\(vB i3.neg=vB ((r.getD 6 (.int 0)).b))/\(i3.num=(r.getD 7 (.int 0)).r)/\(i3.den=(r.getD 8 (.int 0)).r))))) (by kernel_rfl) ?_
 delta dA w84 vB
 have hz:=UB hpre.1
 have hs:=hpre.2
 have hp:=UC hpre.1
 obtain ⟨p0,p1,p2,p3,p4,p5,p6,p7,p8⟩:=hp
 refine ⟨(RatD.mk ((r.getD 0 (.int 0)).b) ((r.getD 1 (.int 0)).r) ((r.getD 2 (.int 0)).r)),by
  rfl,by
  try dsimp only [Aj]
  omega,?_⟩
 refine ⟨(RatD.mk ((r.getD 3 (.int 0)).b) ((r.getD 4 (.int 0)).r) ((r.getD 5 (.int 0)).r)),by
  rfl,by
  try dsimp only [Aj]
  omega,?_⟩
 refine ⟨(RatD.mk ((r.getD 6 (.int 0)).b) ((r.getD 7 (.int 0)).r) ((r.getD 8 (.int 0)).r)),by
  rfl,by
  try dsimp only [Aj]
  omega,?_⟩
 refine ⟨?_,?_,?_,?_,?_,?_,?_,?_,?_⟩
 ·rfl
 ·rfl
 ·rfl
 ·rfl
 ·rfl
 ·rfl
 ·rfl
 ·rfl
 rfl
def Hb:Con:={ ι:=(List Dat),pre:=λ i=>True,args:=λ i=>[Ig i,Ig i],res:=λ i=>⟨false,[none],[rcB true]⟩ }
theorem VL:Hb.Ok Tryz.prog 105:=by
 refine fok (X:=⟨tt,[(41,A6)],[],23,[]⟩) AI AF (CTok.cons Q4 (CTok.nil _)) Tryz.func105 (λ _=>[]) ?_
 intro (r:List Dat) hpre
 have hpre:True:=hpre
 refine AH (q:=let Z1:=(vB false=vB true);∃ i1:RatD,[w84 r,w84 r]=A6.args i1/\A6.pre i1/\(ifB ((!true)) Z1 (∃ i2:RatD,[dA r 3 4 5,dA r 3 4 5]=A6.args i2/\A6.pre i2/\(ifB ((!true)) Z1 (∃ i3:RatD,[dA r 6 7 8,dA r 6 7 8]=A6.args i3/\A6.pre i3/\(ifB ((!true)) Z1 ((vB true=vB true)))))))) (by kernel_rfl) ?_
 conv=>zeta
 delta dA w84 ifB vB
 refine ⟨(RatD.mk ((r.getD 0 (.int 0)).b) ((r.getD 1 (.int 0)).r) ((r.getD 2 (.int 0)).r)),by
  rfl,by
  trivial,?_⟩
 refine ⟨λ c4=>?_,λ c4=>?_⟩
 ·try simp only [nrm] at c4
  exfalso;simp_all;done
 try simp only [nrm] at c4
 refine ⟨(RatD.mk ((r.getD 3 (.int 0)).b) ((r.getD 4 (.int 0)).r) ((r.getD 5 (.int 0)).r)),by
  rfl,by
  trivial,?_⟩
 refine ⟨λ c9=>?_,λ c9=>?_⟩
 ·try simp only [nrm] at c9
  exfalso;simp_all;done
 try simp only [nrm] at c9
 refine ⟨(RatD.mk ((r.getD 6 (.int 0)).b) ((r.getD 7 (.int 0)).r) ((r.getD 8 (.int 0)).r)),by
  rfl,by
  trivial,?_⟩
 refine ⟨λ c14=>?_,λ c14=>?_⟩
 ·try simp only [nrm] at c14
  exfalso;simp_all;done
 try simp only [nrm] at c14
 exact rfl
theorem PW {r:List Dat} (h:hasRow [.bool,.sl 3 [.int],.sl 3 [.int],.bool,.sl 3 [.int],.sl 3 [.int],.bool,.sl 3 [.int],.sl 3 [.int],.bool,.sl 3 [.int],.sl 3 [.int],.bool,.sl 3 [.int],.sl 3 [.int],.bool,.sl 3 [.int],.sl 3 [.int]] r):r=[.bool (r.getD 0 (.int 0)).b,.sl (r.getD 1 (.int 0)).r,.sl (r.getD 2 (.int 0)).r,.bool (r.getD 3 (.int 0)).b,.sl (r.getD 4 (.int 0)).r,.sl (r.getD 5 (.int 0)).r,.bool (r.getD 6 (.int 0)).b,.sl (r.getD 7 (.int 0)).r,.sl (r.getD 8 (.int 0)).r,.bool (r.getD 9 (.int 0)).b,.sl (r.getD 10 (.int 0)).r,.sl (r.getD 11 (.int 0)).r,.bool (r.getD 12 (.int 0)).b,.sl (r.getD 13 (.int 0)).r,.sl (r.getD 14 (.int 0)).r,.bool (r.getD 15 (.int 0)).b,.sl (r.getD 16 (.int 0)).r,.sl (r.getD 17 (.int 0)).r]:=by
 obtain ⟨_,_,rfl,q0,h0⟩:=h.cons
 obtain ⟨_,rfl⟩:=Dat.has_bool q0
 obtain ⟨_,_,rfl,q1,h1⟩:=h0.cons
 obtain ⟨_,rfl⟩:=Dat.has_sl q1
 obtain ⟨_,_,rfl,q2,h2⟩:=h1.cons
 obtain ⟨_,rfl⟩:=Dat.has_sl q2
 obtain ⟨_,_,rfl,q3,h3⟩:=h2.cons
 obtain ⟨_,rfl⟩:=Dat.has_bool q3
 obtain ⟨_,_,rfl,q4,h4⟩:=h3.cons
 obtain ⟨_,rfl⟩:=Dat.has_sl q4
 obtain ⟨_,_,rfl,q5,h5⟩:=h4.cons
 obtain ⟨_,rfl⟩:=Dat.has_sl q5
 obtain ⟨_,_,rfl,q6,h6⟩:=h5.cons
 obtain ⟨_,rfl⟩:=Dat.has_bool q6
 obtain ⟨_,_,rfl,q7,h7⟩:=h6.cons
 obtain ⟨_,rfl⟩:=Dat.has_sl q7
 obtain ⟨_,_,rfl,q8,h8⟩:=h7.cons
 obtain ⟨_,rfl⟩:=Dat.has_sl q8
 obtain ⟨_,_,rfl,q9,h9⟩:=h8.cons
 obtain ⟨_,rfl⟩:=Dat.has_bool q9
 obtain ⟨_,_,rfl,q10,h10⟩:=h9.cons
 obtain ⟨_,rfl⟩:=Dat.has_sl q10
 obtain ⟨_,_,rfl,q11,h11⟩:=h10.cons
 obtain ⟨_,rfl⟩:=Dat.has_sl q11
 obtain ⟨_,_,rfl,q12,h12⟩:=h11.cons
 obtain ⟨_,rfl⟩:=Dat.has_bool q12
 obtain ⟨_,_,rfl,q13,h13⟩:=h12.cons
 obtain ⟨_,rfl⟩:=Dat.has_sl q13
 obtain ⟨_,_,rfl,q14,h14⟩:=h13.cons
 obtain ⟨_,rfl⟩:=Dat.has_sl q14
 obtain ⟨_,_,rfl,q15,h15⟩:=h14.cons
 obtain ⟨_,rfl⟩:=Dat.has_bool q15
 obtain ⟨_,_,rfl,q16,h16⟩:=h15.cons
 obtain ⟨_,rfl⟩:=Dat.has_sl q16
 obtain ⟨_,_,rfl,q17,h17⟩:=h16.cons
 obtain ⟨_,rfl⟩:=Dat.has_sl q17
 obtain rfl:=hasRow.nil h17
 rfl
theorem UD {r:List Dat} (h:hasRow [.bool,.sl 3 [.int],.sl 3 [.int],.bool,.sl 3 [.int],.sl 3 [.int],.bool,.sl 3 [.int],.sl 3 [.int],.bool,.sl 3 [.int],.sl 3 [.int],.bool,.sl 3 [.int],.sl 3 [.int],.bool,.sl 3 [.int],.sl 3 [.int]] r):AE r=(AE [.bool (r.getD 0 (.int 0)).b,.sl (r.getD 1 (.int 0)).r,.sl (r.getD 2 (.int 0)).r])+(AE [.bool (r.getD 3 (.int 0)).b,.sl (r.getD 4 (.int 0)).r,.sl (r.getD 5 (.int 0)).r])+(AE [.bool (r.getD 6 (.int 0)).b,.sl (r.getD 7 (.int 0)).r,.sl (r.getD 8 (.int 0)).r])+(AE [.bool (r.getD 9 (.int 0)).b,.sl (r.getD 10 (.int 0)).r,.sl (r.getD 11 (.int 0)).r])+(AE [.bool (r.getD 12 (.int 0)).b,.sl (r.getD 13 (.int 0)).r,.sl (r.getD 14 (.int 0)).r])+(AE [.bool (r.getD 15 (.int 0)).b,.sl (r.getD 16 (.int 0)).r,.sl (r.getD 17 (.int 0)).r]):=by
 conv=>lhs;rw [PW h]
 simp only [AE,Dat.sz]
 omega
theorem UE {r:List Dat} (h:hasRow [.bool,.sl 3 [.int],.sl 3 [.int],.bool,.sl 3 [.int],.sl 3 [.int],.bool,.sl 3 [.int],.sl 3 [.int],.bool,.sl 3 [.int],.sl 3 [.int],.bool,.sl 3 [.int],.sl 3 [.int],.bool,.sl 3 [.int],.sl 3 [.int]] r):Dat.has .bool (.bool (r.getD 0 (.int 0)).b)/\Dat.has (.sl 3 [.int]) (.sl (r.getD 1 (.int 0)).r)/\Dat.has (.sl 3 [.int]) (.sl (r.getD 2 (.int 0)).r)/\Dat.has .bool (.bool (r.getD 3 (.int 0)).b)/\Dat.has (.sl 3 [.int]) (.sl (r.getD 4 (.int 0)).r)/\Dat.has (.sl 3 [.int]) (.sl (r.getD 5 (.int 0)).r)/\Dat.has .bool (.bool (r.getD 6 (.int 0)).b)/\Dat.has (.sl 3 [.int]) (.sl (r.getD 7 (.int 0)).r)/\Dat.has (.sl 3 [.int]) (.sl (r.getD 8 (.int 0)).r)/\Dat.has .bool (.bool (r.getD 9 (.int 0)).b)/\Dat.has (.sl 3 [.int]) (.sl (r.getD 10 (.int 0)).r)/\Dat.has (.sl 3 [.int]) (.sl (r.getD 11 (.int 0)).r)/\Dat.has .bool (.bool (r.getD 12 (.int 0)).b)/\Dat.has (.sl 3 [.int]) (.sl (r.getD 13 (.int 0)).r)/\Dat.has (.sl 3 [.int]) (.sl (r.getD 14 (.int 0)).r)/\Dat.has .bool (.bool (r.getD 15 (.int 0)).b)/\Dat.has (.sl 3 [.int]) (.sl (r.getD 16 (.int 0)).r)/\Dat.has (.sl 3 [.int]) (.sl (r.getD 17 (.int 0)).r):=by
 rw [PW h] at h
 simpa only [hasRow,and_true] using h
def Fc:Con:={ ι:=(List Dat)×Int,pre:=λ i=>hasRow [.bool,.sl 3 [.int],.sl 3 [.int],.bool,.sl 3 [.int],.sl 3 [.int],.bool,.sl 3 [.int],.sl 3 [.int],.bool,.sl 3 [.int],.sl 3 [.int],.bool,.sl 3 [.int],.sl 3 [.int],.bool,.sl 3 [.int],.sl 3 [.int]] i.1/\0<=i.2/\i.2<=1048576,args:=λ i=>[Ih i.1,.one (cI i.2)],res:=λ i=>⟨false,[none],[rcI (szR (AE i.1) i.2)]⟩ }
theorem VM:Fc.Ok Tryz.prog 112:=by
 refine fok (X:=⟨tt,[(36,Ai)],[],42,[]⟩) AI AF (CTok.cons Q3 (CTok.nil _)) Tryz.func112 (λ _=>[]) ?_
 rintro ⟨r,n⟩ hpre
 have hpre:hasRow [.bool,.sl 3 [.int],.sl 3 [.int],.bool,.sl 3 [.int],.sl 3 [.int],.bool,.sl 3 [.int],.sl 3 [.int],.bool,.sl 3 [.int],.sl 3 [.int],.bool,.sl 3 [.int],.sl 3 [.int],.bool,.sl 3 [.int],.sl 3 [.int]] r/\0<=n/\n<=1048576:=hpre
 refine AH (q:=let Z1:=(vI (-1:Int)=vI (szR (AE r) n));∃ i1:RatD×Int,let Z2:=szR (AE [.bool i1.1.neg,.sl i1.1.num,.sl i1.1.den]) i1.2;[w84 r,DA.one (cI n)]=Ai.args i1/\Ai.pre i1/\(ifB ((decide (Z2<(0:Int)))) Z1 (∃ i2:RatD×Int,let Z3:=szR (AE [.bool i2.1.neg,.sl i2.1.num,.sl i2.1.den]) i2.2;[dA r 3 4 5,DA.one (cI Z2)]=Ai.args i2/\Ai.pre i2/\(ifB ((decide (Z3<(0:Int)))) Z1 (∃ i3:RatD×Int,let Z4:=szR (AE [.bool i3.1.neg,.sl i3.1.num,.sl i3.1.den]) i3.2;[dA r 6 7 8,DA.one (cI Z3)]=Ai.args i3/\Ai.pre i3/\(ifB ((decide (Z4<(0:Int)))) Z1 (∃ i4:RatD×Int,let Z5:=szR (AE [.bool i4.1.neg,.sl i4.1.num,.sl i4.1.den]) i4.2;[dA r 9 10 11,DA.one (cI Z4)]=Ai.args i4/\Ai.pre i4/\(ifB ((decide (Z5<(0:Int)))) Z1 (∃ i5:RatD×Int,let Z6:=szR (AE [.bool i5.1.neg,.sl i5.1.num,.sl i5.1.den]) i5.2;[dA r 12 13 14,DA.one (cI Z5)]=Ai.args i5/\Ai.pre i5/\(ifB ((decide (Z6<(0:Int)))) Z1 (∃ i6:RatD×Int,let Z7:=szR (AE [.bool i6.1.neg,.sl i6.1.num,.sl i6.1.den]) i6.2;[dA r 15 16 17,DA.one (cI Z6)]=Ai.args i6/\Ai.pre i6/\(ifB ((decide (Z7<(0:Int)))) Z1 ((vI Z7=vI (szR (AE r) n))))))))))))))) (by kernel_rfl) ?_
 conv=>zeta
 delta dA w84 ifB vI
 obtain ⟨hh,h0,h1⟩:=hpre
 have hz:=UD hh
 have hp:=UE hh
 obtain ⟨p0,p1,p2,p3,p4,p5,p6,p7,p8,p9,p10,p11,p12,p13,p14,p15,p16,p17⟩:=hp
 have f0:=Bz (AE [.bool (r.getD 0 (.int 0)).b,.sl (r.getD 1 (.int 0)).r,.sl (r.getD 2 (.int 0)).r]) (n)
 have f1:=Bz (AE [.bool (r.getD 3 (.int 0)).b,.sl (r.getD 4 (.int 0)).r,.sl (r.getD 5 (.int 0)).r]) (szR (AE [.bool (r.getD 0 (.int 0)).b,.sl (r.getD 1 (.int 0)).r,.sl (r.getD 2 (.int 0)).r]) (n))
 have f2:=Bz (AE [.bool (r.getD 6 (.int 0)).b,.sl (r.getD 7 (.int 0)).r,.sl (r.getD 8 (.int 0)).r]) (szR (AE [.bool (r.getD 3 (.int 0)).b,.sl (r.getD 4 (.int 0)).r,.sl (r.getD 5 (.int 0)).r]) (szR (AE [.bool (r.getD 0 (.int 0)).b,.sl (r.getD 1 (.int 0)).r,.sl (r.getD 2 (.int 0)).r]) (n)))
 have f3:=Bz (AE [.bool (r.getD 9 (.int 0)).b,.sl (r.getD 10 (.int 0)).r,.sl (r.getD 11 (.int 0)).r]) (szR (AE [.bool (r.getD 6 (.int 0)).b,.sl (r.getD 7 (.int 0)).r,.sl (r.getD 8 (.int 0)).r]) (szR (AE [.bool (r.getD 3 (.int 0)).b,.sl (r.getD 4 (.int 0)).r,.sl (r.getD 5 (.int 0)).r]) (szR (AE [.bool (r.getD 0 (.int 0)).b,.sl (r.getD 1 (.int 0)).r,.sl (r.getD 2 (.int 0)).r]) (n))))
 have f4:=Bz (AE [.bool (r.getD 12 (.int 0)).b,.sl (r.getD 13 (.int 0)).r,.sl (r.getD 14 (.int 0)).r]) (szR (AE [.bool (r.getD 9 (.int 0)).b,.sl (r.getD 10 (.int 0)).r,.sl (r.getD 11 (.int 0)).r]) (szR (AE [.bool (r.getD 6 (.int 0)).b,.sl (r.getD 7 (.int 0)).r,.sl (r.getD 8 (.int 0)).r]) (szR (AE [.bool (r.getD 3 (.int 0)).b,.sl (r.getD 4 (.int 0)).r,.sl (r.getD 5 (.int 0)).r]) (szR (AE [.bool (r.getD 0 (.int 0)).b,.sl (r.getD 1 (.int 0)).r,.sl (r.getD 2 (.int 0)).r]) (n)))))
 have f5:=Bz (AE [.bool (r.getD 15 (.int 0)).b,.sl (r.getD 16 (.int 0)).r,.sl (r.getD 17 (.int 0)).r]) (szR (AE [.bool (r.getD 12 (.int 0)).b,.sl (r.getD 13 (.int 0)).r,.sl (r.getD 14 (.int 0)).r]) (szR (AE [.bool (r.getD 9 (.int 0)).b,.sl (r.getD 10 (.int 0)).r,.sl (r.getD 11 (.int 0)).r]) (szR (AE [.bool (r.getD 6 (.int 0)).b,.sl (r.getD 7 (.int 0)).r,.sl (r.getD 8 (.int 0)).r]) (szR (AE [.bool (r.getD 3 (.int 0)).b,.sl (r.getD 4 (.int 0)).r,.sl (r.getD 5 (.int 0)).r]) (szR (AE [.bool (r.getD 0 (.int 0)).b,.sl (r.getD 1 (.int 0)).r,.sl (r.getD 2 (.int 0)).r]) (n))))))
 have ft:=Bz (AE r) n
 refine ⟨((RatD.mk ((r.getD 0 (.int 0)).b) ((r.getD 1 (.int 0)).r) ((r.getD 2 (.int 0)).r)),n),by
  rfl,by
  try dsimp only [Ai]
  refine ⟨?_,?_,?_⟩ <;> (try dsimp only) <;> first|assumption|omega|exact ⟨p0,p1,p2,trivial⟩|exact ⟨p3,p4,p5,trivial⟩|exact ⟨p6,p7,p8,trivial⟩|exact ⟨p9,p10,p11,trivial⟩|exact ⟨p12,p13,p14,trivial⟩|exact ⟨p15,p16,p17,trivial⟩,?_⟩
 refine ⟨λ c4=>?_,λ c4=>?_⟩
 ·try dsimp only at c4
  try simp only [nrm] at c4
  refine AK ?_;try dsimp only
  omega
 try dsimp only at c4
 try simp only [nrm] at c4
 refine ⟨((RatD.mk ((r.getD 3 (.int 0)).b) ((r.getD 4 (.int 0)).r) ((r.getD 5 (.int 0)).r)),(szR (AE [.bool (RatD.mk ((r.getD 0 (.int 0)).b) ((r.getD 1 (.int 0)).r) ((r.getD 2 (.int 0)).r)).neg,.sl (RatD.mk ((r.getD 0 (.int 0)).b) ((r.getD 1 (.int 0)).r) ((r.getD 2 (.int 0)).r)).num,.sl (RatD.mk ((r.getD 0 (.int 0)).b) ((r.getD 1 (.int 0)).r) ((r.getD 2 (.int 0)).r)).den]) n)),by
  rfl,by
  try dsimp only [Ai]
  refine ⟨?_,?_,?_⟩ <;> (try dsimp only) <;> first|assumption|omega|exact ⟨p0,p1,p2,trivial⟩|exact ⟨p3,p4,p5,trivial⟩|exact ⟨p6,p7,p8,trivial⟩|exact ⟨p9,p10,p11,trivial⟩|exact ⟨p12,p13,p14,trivial⟩|exact ⟨p15,p16,p17,trivial⟩,?_⟩
 refine ⟨λ c9=>?_,λ c9=>?_⟩
 ·try dsimp only at c9
  try simp only [nrm] at c9
  refine AK ?_;try dsimp only
  omega
 try dsimp only at c9
 try simp only [nrm] at c9
 refine ⟨((RatD.mk ((r.getD 6 (.int 0)).b) ((r.getD 7 (.int 0)).r) ((r.getD 8 (.int 0)).r)),(szR (AE [.bool (RatD.mk ((r.getD 3 (.int 0)).b) ((r.getD 4 (.int 0)).r) ((r.getD 5 (.int 0)).r)).neg,.sl (RatD.mk ((r.getD 3 (.int 0)).b) ((r.getD 4 (.int 0)).r) ((r.getD 5 (.int 0)).r)).num,.sl (RatD.mk ((r.getD 3 (.int 0)).b) ((r.getD 4 (.int 0)).r) ((r.getD 5 (.int 0)).r)).den]) (szR (AE [.bool (RatD.mk ((r.getD 0 (.int 0)).b) ((r.getD 1 (.int 0)).r) ((r.getD 2 (.int 0)).r)).neg,.sl (RatD.mk ((r.getD 0 (.int 0)).b) ((r.getD 1 (.int 0)).r) ((r.getD 2 (.int 0)).r)).num,.sl (RatD.mk ((r.getD 0 (.int 0)).b) ((r.getD 1 (.int 0)).r) ((r.getD 2 (.int 0)).r)).den]) n))),by
  rfl,by
  try dsimp only [Ai]
  refine ⟨?_,?_,?_⟩ <;> (try dsimp only) <;> first|assumption|omega|exact ⟨p0,p1,p2,trivial⟩|exact ⟨p3,p4,p5,trivial⟩|exact ⟨p6,p7,p8,trivial⟩|exact ⟨p9,p10,p11,trivial⟩|exact ⟨p12,p13,p14,trivial⟩|exact ⟨p15,p16,p17,trivial⟩,?_⟩
 refine ⟨λ c14=>?_,λ c14=>?_⟩
 ·try dsimp only at c14
  try simp only [nrm] at c14
  refine AK ?_;try dsimp only
  omega
 try dsimp only at c14
 try simp only [nrm] at c14
 refine ⟨((RatD.mk ((r.getD 9 (.int 0)).b) ((r.getD 10 (.int 0)).r) ((r.getD 11 (.int 0)).r)),(szR (AE [.bool (RatD.mk ((r.getD 6 (.int 0)).b) ((r.getD 7 (.int 0)).r) ((r.getD 8 (.int 0)).r)).neg,.sl (RatD.mk ((r.getD 6 (.int 0)).b) ((r.getD 7 (.int 0)).r) ((r.getD 8 (.int 0)).r)).num,.sl (RatD.mk ((r.getD 6 (.int 0)).b) ((r.getD 7 (.int 0)).r) ((r.getD 8 (.int 0)).r)).den]) (szR (AE [.bool (RatD.mk ((r.getD 3 (.int 0)).b) ((r.getD 4 (.int 0)).r) ((r.getD 5 (.int 0)).r)).neg,.sl (RatD.mk ((r.getD 3 (.int 0)).b) ((r.getD 4 (.int 0)).r) ((r.getD 5 (.int 0)).r)).num,.sl (RatD.mk ((r.getD 3 (.int 0)).b) ((r.getD 4 (.int 0)).r) ((r.getD 5 (.int 0)).r)).den]) (szR (AE [.bool (RatD.mk ((r.getD 0 (.int 0)).b) ((r.getD 1 (.int 0)).r) ((r.getD 2 (.int 0)).r)).neg,.sl (RatD.mk ((r.getD 0 (.int 0)).b) ((r.getD 1 (.int 0)).r) ((r.getD 2 (.int 0)).r)).num,.sl (RatD.mk ((r.getD 0 (.int 0)).b) ((r.getD 1 (.int 0)).r) ((r.getD 2 (.int 0)).r)).den]) n)))),by
  rfl,by
  try dsimp only [Ai]
  refine ⟨?_,?_,?_⟩ <;> (try dsimp only) <;> first|assumption|omega|exact ⟨p0,p1,p2,trivial⟩|exact ⟨p3,p4,p5,trivial⟩|exact ⟨p6,p7,p8,trivial⟩|exact ⟨p9,p10,p11,trivial⟩|exact ⟨p12,p13,p14,trivial⟩|exact ⟨p15,p16,p17,trivial⟩,?_⟩
 refine ⟨λ c19=>?_,λ c19=>?_⟩
 ·try dsimp only at c19
  try simp only [nrm] at c19
  refine AK ?_;try dsimp only
  omega
 try dsimp only at c19
 try simp only [nrm] at c19
 refine ⟨((RatD.mk ((r.getD 12 (.int 0)).b) ((r.getD 13 (.int 0)).r) ((r.getD 14 (.int 0)).r)),(szR (AE [.bool (RatD.mk ((r.getD 9 (.int 0)).b) ((r.getD 10 (.int 0)).r) ((r.getD 11 (.int 0)).r)).neg,.sl (RatD.mk ((r.getD 9 (.int 0)).b) ((r.getD 10 (.int 0)).r) ((r.getD 11 (.int 0)).r)).num,.sl (RatD.mk ((r.getD 9 (.int 0)).b) ((r.getD 10 (.int 0)).r) ((r.getD 11 (.int 0)).r)).den]) (szR (AE [.bool (RatD.mk ((r.getD 6 (.int 0)).b) ((r.getD 7 (.int 0)).r) ((r.getD 8 (.int 0)).r)).neg,.sl (RatD.mk ((r.getD 6 (.int 0)).b) ((r.getD 7 (.int 0)).r) ((r.getD 8 (.int 0)).r)).num,.sl (RatD.mk ((r.getD 6 (.int 0)).b) ((r.getD 7 (.int 0)).r) ((r.getD 8 (.int 0)).r)).den]) (szR (AE [.bool (RatD.mk ((r.getD 3 (.int 0)).b) ((r.getD 4 (.int 0)).r) ((r.getD 5 (.int 0)).r)).neg,.sl (RatD.mk ((r.getD 3 (.int 0)).b) ((r.getD 4 (.int 0)).r) ((r.getD 5 (.int 0)).r)).num,.sl (RatD.mk ((r.getD 3 (.int 0)).b) ((r.getD 4 (.int 0)).r) ((r.getD 5 (.int 0)).r)).den]) (szR (AE [.bool (RatD.mk ((r.getD 0 (.int 0)).b) ((r.getD 1 (.int 0)).r) ((r.getD 2 (.int 0)).r)).neg,.sl (RatD.mk ((r.getD 0 (.int 0)).b) ((r.getD 1 (.int 0)).r) ((r.getD 2 (.int 0)).r)).num,.sl (RatD.mk ((r.getD 0 (.int 0)).b) ((r.getD 1 (.int 0)).r) ((r.getD 2 (.int 0)).r)).den]) n))))),by
  rfl,by
  try dsimp only [Ai]
  refine ⟨?_,?_,?_⟩ <;> (try dsimp only) <;> first|assumption|omega|exact ⟨p0,p1,p2,trivial⟩|exact ⟨p3,p4,p5,trivial⟩|exact ⟨p6,p7,p8,trivial⟩|exact ⟨p9,p10,p11,trivial⟩|exact ⟨p12,p13,p14,trivial⟩|exact ⟨p15,p16,p17,trivial⟩,?_⟩
 refine ⟨λ c24=>?_,λ c24=>?_⟩
 ·try dsimp only at c24
  try simp only [nrm] at c24
  refine AK ?_;try dsimp only
  omega
 try dsimp only at c24
 try simp only [nrm] at c24
 refine ⟨((RatD.mk ((r.getD 15 (.int 0)).b) ((r.getD 16 (.int 0)).r) ((r.getD 17 (.int 0)).r)),(szR (AE [.bool (RatD.mk ((r.getD 12 (.int 0)).b) ((r.getD 13 (.int 0)).r) ((r.getD 14 (.int 0)).r)).neg,.sl (RatD.mk ((r.getD 12 (.int 0)).b) ((r.getD 13 (.int 0)).r) ((r.getD 14 (.int 0)).r)).num,.sl (RatD.mk ((r.getD 12 (.int 0)).b) ((r.getD 13 (.int 0)).r) ((r.getD 14 (.int 0)).r)).den]) (szR (AE [.bool (RatD.mk ((r.getD 9 (.int 0)).b) ((r.getD 10 (.int 0)).r) ((r.getD 11 (.int 0)).r)).neg,.sl (RatD.mk ((r.getD 9 (.int 0)).b) ((r.getD 10 (.int 0)).r) ((r.getD 11 (.int 0)).r)).num,.sl (RatD.mk ((r.getD 9 (.int 0)).b) ((r.getD 10 (.int 0)).r) ((r.getD 11 (.int 0)).r)).den]) (szR (AE [.bool (RatD.mk ((r.getD 6 (.int 0)).b) ((r.getD 7 (.int 0)).r) ((r.getD 8 (.int 0)).r)).neg,.sl (RatD.mk ((r.getD 6 (.int 0)).b) ((r.getD 7 (.int 0)).r) ((r.getD 8 (.int 0)).r)).num,.sl (RatD.mk ((r.getD 6 (.int 0)).b) ((r.getD 7 (.int 0)).r) ((r.getD 8 (.int 0)).r)).den]) (szR (AE [.bool (RatD.mk ((r.getD 3 (.int 0)).b) ((r.getD 4 (.int 0)).r) ((r.getD 5 (.int 0)).r)).neg,.sl (RatD.mk ((r.getD 3 (.int 0)).b) ((r.getD 4 (.int 0)).r) ((r.getD 5 (.int 0)).r)).num,.sl (RatD.mk ((r.getD 3 (.int 0)).b) ((r.getD 4 (.int 0)).r) ((r.getD 5 (.int 0)).r)).den]) (szR (AE [.bool (RatD.mk ((r.getD 0 (.int 0)).b) ((r.getD 1 (.int 0)).r) ((r.getD 2 (.int 0)).r)).neg,.sl (RatD.mk ((r.getD 0 (.int 0)).b) ((r.getD 1 (.int 0)).r) ((r.getD 2 (.int 0)).r)).num,.sl (RatD.mk ((r.getD 0 (.int 0)).b) ((r.getD 1 (.int 0)).r) ((r.getD 2 (.int 0)).r)).den]) n)))))),by
  rfl,by
  try dsimp only [Ai]
  refine ⟨?_,?_,?_⟩ <;> (try dsimp only) <;> first|assumption|omega|exact ⟨p0,p1,p2,trivial⟩|exact ⟨p3,p4,p5,trivial⟩|exact ⟨p6,p7,p8,trivial⟩|exact ⟨p9,p10,p11,trivial⟩|exact ⟨p12,p13,p14,trivial⟩|exact ⟨p15,p16,p17,trivial⟩,?_⟩
 refine ⟨λ c29=>?_,λ c29=>?_⟩
 ·try dsimp only at c29
  try simp only [nrm] at c29
  refine AK ?_;try dsimp only
  omega
 try dsimp only at c29
 try simp only [nrm] at c29
 show Value.int .i64 (szR (AE [.bool (RatD.mk ((r.getD 15 (.int 0)).b) ((r.getD 16 (.int 0)).r) ((r.getD 17 (.int 0)).r)).neg,.sl (RatD.mk ((r.getD 15 (.int 0)).b) ((r.getD 16 (.int 0)).r) ((r.getD 17 (.int 0)).r)).num,.sl (RatD.mk ((r.getD 15 (.int 0)).b) ((r.getD 16 (.int 0)).r) ((r.getD 17 (.int 0)).r)).den]) (szR (AE [.bool (RatD.mk ((r.getD 12 (.int 0)).b) ((r.getD 13 (.int 0)).r) ((r.getD 14 (.int 0)).r)).neg,.sl (RatD.mk ((r.getD 12 (.int 0)).b) ((r.getD 13 (.int 0)).r) ((r.getD 14 (.int 0)).r)).num,.sl (RatD.mk ((r.getD 12 (.int 0)).b) ((r.getD 13 (.int 0)).r) ((r.getD 14 (.int 0)).r)).den]) (szR (AE [.bool (RatD.mk ((r.getD 9 (.int 0)).b) ((r.getD 10 (.int 0)).r) ((r.getD 11 (.int 0)).r)).neg,.sl (RatD.mk ((r.getD 9 (.int 0)).b) ((r.getD 10 (.int 0)).r) ((r.getD 11 (.int 0)).r)).num,.sl (RatD.mk ((r.getD 9 (.int 0)).b) ((r.getD 10 (.int 0)).r) ((r.getD 11 (.int 0)).r)).den]) (szR (AE [.bool (RatD.mk ((r.getD 6 (.int 0)).b) ((r.getD 7 (.int 0)).r) ((r.getD 8 (.int 0)).r)).neg,.sl (RatD.mk ((r.getD 6 (.int 0)).b) ((r.getD 7 (.int 0)).r) ((r.getD 8 (.int 0)).r)).num,.sl (RatD.mk ((r.getD 6 (.int 0)).b) ((r.getD 7 (.int 0)).r) ((r.getD 8 (.int 0)).r)).den]) (szR (AE [.bool (RatD.mk ((r.getD 3 (.int 0)).b) ((r.getD 4 (.int 0)).r) ((r.getD 5 (.int 0)).r)).neg,.sl (RatD.mk ((r.getD 3 (.int 0)).b) ((r.getD 4 (.int 0)).r) ((r.getD 5 (.int 0)).r)).num,.sl (RatD.mk ((r.getD 3 (.int 0)).b) ((r.getD 4 (.int 0)).r) ((r.getD 5 (.int 0)).r)).den]) (szR (AE [.bool (RatD.mk ((r.getD 0 (.int 0)).b) ((r.getD 1 (.int 0)).r) ((r.getD 2 (.int 0)).r)).neg,.sl (RatD.mk ((r.getD 0 (.int 0)).b) ((r.getD 1 (.int 0)).r) ((r.getD 2 (.int 0)).r)).num,.sl (RatD.mk ((r.getD 0 (.int 0)).b) ((r.getD 1 (.int 0)).r) ((r.getD 2 (.int 0)).r)).den]) n))))))=Value.int .i64 (szR (AE r) n)
 refine AK ?_;try dsimp only
 omega
def Fd:Con:={ ι:=(List Dat),pre:=λ i=>hasRow [.bool,.sl 3 [.int],.sl 3 [.int],.bool,.sl 3 [.int],.sl 3 [.int],.bool,.sl 3 [.int],.sl 3 [.int],.bool,.sl 3 [.int],.sl 3 [.int],.bool,.sl 3 [.int],.sl 3 [.int],.bool,.sl 3 [.int],.sl 3 [.int]] i/\AE i<=1048576,args:=λ i=>[Ih i],res:=λ i=>⟨false,[some 18],[rcB ((i.getD 0 (.int 0)).b),.own 3 [.int] ((i.getD 1 (.int 0)).r),.own 3 [.int] ((i.getD 2 (.int 0)).r),rcB ((i.getD 3 (.int 0)).b),.own 3 [.int] ((i.getD 4 (.int 0)).r),.own 3 [.int] ((i.getD 5 (.int 0)).r),rcB ((i.getD 6 (.int 0)).b),.own 3 [.int] ((i.getD 7 (.int 0)).r),.own 3 [.int] ((i.getD 8 (.int 0)).r),rcB ((i.getD 9 (.int 0)).b),.own 3 [.int] ((i.getD 10 (.int 0)).r),.own 3 [.int] ((i.getD 11 (.int 0)).r),rcB ((i.getD 12 (.int 0)).b),.own 3 [.int] ((i.getD 13 (.int 0)).r),.own 3 [.int] ((i.getD 14 (.int 0)).r),rcB ((i.getD 15 (.int 0)).b),.own 3 [.int] ((i.getD 16 (.int 0)).r),.own 3 [.int] ((i.getD 17 (.int 0)).r)]⟩ }
theorem VN:Fd.Ok Tryz.prog 119:=by
 refine fok (X:=⟨tt,[(38,Aj)],[],29,[]⟩) AI AF (CTok.cons Q5 (CTok.nil _)) Tryz.func119 (λ _=>[]) ?_
 intro (r:List Dat) hpre
 have hpre:hasRow [.bool,.sl 3 [.int],.sl 3 [.int],.bool,.sl 3 [.int],.sl 3 [.int],.bool,.sl 3 [.int],.sl 3 [.int],.bool,.sl 3 [.int],.sl 3 [.int],.bool,.sl 3 [.int],.sl 3 [.int],.bool,.sl 3 [.int],.sl 3 [.int]] r/\AE r<=1048576:=hpre
 refine AH (q:=∃ i1:RatD,[w84 r]=Aj.args i1/\Aj.pre i1/\(∃ i2:RatD,[dA r 3 4 5]=Aj.args i2/\Aj.pre i2/\(∃ i3:RatD,[dA r 6 7 8]=Aj.args i3/\Aj.pre i3/\(∃ i4:RatD,[dA r 9 10 11]=Aj.args i4/\Aj.pre i4/\(∃ i5:RatD,[dA r 12 13 14]=Aj.args i5/\Aj.pre i5/\(∃ i6:RatD,[dA r 15 16 17]=Aj.args i6/\Aj.pre i6/\((vB i1.neg=vB ((r.getD 0 (.int 0)).b))/\(i1.num=(r.getD 1 (.int 0)).r)/\(i1.den=(r.getD 2 (.int 0)).r)/\(vB i2.neg=vB ((r.getD 3 (.int 0)).b))/\(i2.num=(r.getD 4 (.int 0)).r)/\(i2.den=(r.getD 5 (.int 0)).r)/\(vB i3.neg=vB ((r.getD 6 (.int 0)).b))/\(i3.num=(r.getD 7 (.int 0)).r)/\(i3.den=(r.getD 8 (.int 0)).r)/\(vB i4.neg=vB ((r.getD 9 (.int 0)).b))/\(i4.num=(r.getD 10 (.int 0)).r)/\(i4.den=(r.getD 11 (.int 0)).r)/\(vB i5.neg=vB ((r.getD 12 (.int 0)).b))/\(i5.num=(r.getD 13 (.int 0)).r)/\(i5.den=(r.getD 14 (.int 0)).r)/\(vB i6.neg=vB ((r.getD 15 (.int 0)).b))/\(i6.num=(r.getD 16 (.int 0)).r)/\(i6.den=(r.getD 17 (.int 0)).r)))))))) (by kernel_rfl) ?_
 delta dA w84 vB
 have hz:=UD hpre.1
 have hs:=hpre.2
 have hp:=UE hpre.1
 obtain ⟨p0,p1,p2,p3,p4,p5,p6,p7,p8,p9,p10,p11,p12,p13,p14,p15,p16,p17⟩:=hp
 refine ⟨(RatD.mk ((r.getD 0 (.int 0)).b) ((r.getD 1 (.int 0)).r) ((r.getD 2 (.int 0)).r)),by
  rfl,by
  try dsimp only [Aj]
  omega,?_⟩
 refine ⟨(RatD.mk ((r.getD 3 (.int 0)).b) ((r.getD 4 (.int 0)).r) ((r.getD 5 (.int 0)).r)),by
  rfl,by
  try dsimp only [Aj]
  omega,?_⟩
 refine ⟨(RatD.mk ((r.getD 6 (.int 0)).b) ((r.getD 7 (.int 0)).r) ((r.getD 8 (.int 0)).r)),by
  rfl,by
  try dsimp only [Aj]
  omega,?_⟩
 refine ⟨(RatD.mk ((r.getD 9 (.int 0)).b) ((r.getD 10 (.int 0)).r) ((r.getD 11 (.int 0)).r)),by
  rfl,by
  try dsimp only [Aj]
  omega,?_⟩
 refine ⟨(RatD.mk ((r.getD 12 (.int 0)).b) ((r.getD 13 (.int 0)).r) ((r.getD 14 (.int 0)).r)),by
  rfl,by
  try dsimp only [Aj]
  omega,?_⟩
 refine ⟨(RatD.mk ((r.getD 15 (.int 0)).b) ((r.getD 16 (.int 0)).r) ((r.getD 17 (.int 0)).r)),by
  rfl,by
  try dsimp only [Aj]
  omega,?_⟩
 refine ⟨?_,?_,?_,?_,?_,?_,?_,?_,?_,?_,?_,?_,?_,?_,?_,?_,?_,?_⟩
 ·rfl
 ·rfl
 ·rfl
 ·rfl
 ·rfl
 ·rfl
 ·rfl
 ·rfl
 ·rfl
 ·rfl
 ·rfl
 ·rfl
 ·rfl
 ·rfl
 ·rfl
 ·rfl
 ·rfl
 rfl
def Hc:Con:={ ι:=(List Dat),pre:=λ i=>True,args:=λ i=>[Ih i,Ih i],res:=λ i=>⟨false,[none],[rcB true]⟩ }
theorem VO:Hc.Ok Tryz.prog 111:=by
 refine fok (X:=⟨tt,[(41,A6)],[],41,[]⟩) AI AF (CTok.cons Q4 (CTok.nil _)) Tryz.func111 (λ _=>[]) ?_
 intro (r:List Dat) hpre
 have hpre:True:=hpre
 refine AH (q:=let Z1:=(vB false=vB true);∃ i1:RatD,[w84 r,w84 r]=A6.args i1/\A6.pre i1/\(ifB ((!true)) Z1 (∃ i2:RatD,[dA r 3 4 5,dA r 3 4 5]=A6.args i2/\A6.pre i2/\(ifB ((!true)) Z1 (∃ i3:RatD,[dA r 6 7 8,dA r 6 7 8]=A6.args i3/\A6.pre i3/\(ifB ((!true)) Z1 (∃ i4:RatD,[dA r 9 10 11,dA r 9 10 11]=A6.args i4/\A6.pre i4/\(ifB ((!true)) Z1 (∃ i5:RatD,[dA r 12 13 14,dA r 12 13 14]=A6.args i5/\A6.pre i5/\(ifB ((!true)) Z1 (∃ i6:RatD,[dA r 15 16 17,dA r 15 16 17]=A6.args i6/\A6.pre i6/\(ifB ((!true)) Z1 ((vB true=vB true)))))))))))))) (by kernel_rfl) ?_
 conv=>zeta
 delta dA w84 ifB vB
 refine ⟨(RatD.mk ((r.getD 0 (.int 0)).b) ((r.getD 1 (.int 0)).r) ((r.getD 2 (.int 0)).r)),by
  rfl,by
  trivial,?_⟩
 refine ⟨λ c4=>?_,λ c4=>?_⟩
 ·try simp only [nrm] at c4
  exfalso;simp_all;done
 try simp only [nrm] at c4
 refine ⟨(RatD.mk ((r.getD 3 (.int 0)).b) ((r.getD 4 (.int 0)).r) ((r.getD 5 (.int 0)).r)),by
  rfl,by
  trivial,?_⟩
 refine ⟨λ c9=>?_,λ c9=>?_⟩
 ·try simp only [nrm] at c9
  exfalso;simp_all;done
 try simp only [nrm] at c9
 refine ⟨(RatD.mk ((r.getD 6 (.int 0)).b) ((r.getD 7 (.int 0)).r) ((r.getD 8 (.int 0)).r)),by
  rfl,by
  trivial,?_⟩
 refine ⟨λ c14=>?_,λ c14=>?_⟩
 ·try simp only [nrm] at c14
  exfalso;simp_all;done
 try simp only [nrm] at c14
 refine ⟨(RatD.mk ((r.getD 9 (.int 0)).b) ((r.getD 10 (.int 0)).r) ((r.getD 11 (.int 0)).r)),by
  rfl,by
  trivial,?_⟩
 refine ⟨λ c19=>?_,λ c19=>?_⟩
 ·try simp only [nrm] at c19
  exfalso;simp_all;done
 try simp only [nrm] at c19
 refine ⟨(RatD.mk ((r.getD 12 (.int 0)).b) ((r.getD 13 (.int 0)).r) ((r.getD 14 (.int 0)).r)),by
  rfl,by
  trivial,?_⟩
 refine ⟨λ c24=>?_,λ c24=>?_⟩
 ·try simp only [nrm] at c24
  exfalso;simp_all;done
 try simp only [nrm] at c24
 refine ⟨(RatD.mk ((r.getD 15 (.int 0)).b) ((r.getD 16 (.int 0)).r) ((r.getD 17 (.int 0)).r)),by
  rfl,by
  trivial,?_⟩
 refine ⟨λ c29=>?_,λ c29=>?_⟩
 ·try simp only [nrm] at c29
  exfalso;simp_all;done
 try simp only [nrm] at c29
 exact rfl
def Eo:Con:={ ι:=(List (List Dat))×Int,pre:=λ i=>Dat.has (.sl 168 [.int,.int]) (.sl i.1)/\0<=i.2/\i.2<=1048576,args:=λ i=>[.one (DC.sl 172 [.int,.int] i.1),.one (cI i.2)],res:=λ i=>⟨false,[none],[rcI (szR (i.1.length+AG i.1) i.2)]⟩ }
theorem SZ:Eo.Ok Tryz.prog 53:=by
 refine fok (X:=⟨tt,[],[],12,[]⟩) AI AF (CTok.nil _) Tryz.func53 (λ _=>[]) ?_
 rintro ⟨l,n⟩ hpre
 have hpre:Dat.has (.sl 168 [.int,.int]) (.sl l)/\0<=n/\n<=1048576:=hpre
 refine AH (q:=let Z2:=wR (n-(nI l.length));let Z1:=szR (l.length+AG l) n;ifB ((decide (Z2<(0:Int)))) ((vI (-1:Int)=vI Z1)) ((vI Z2=vI Z1))) (by kernel_rfl) ?_
 conv=>zeta
 delta ifB vI wR nI
 obtain ⟨hh,h0,h1⟩:=hpre
 have hz:=KO (by decide) hh
 simp only [Dat.has] at hh
 obtain ⟨hl,-⟩:=hh
 have hw:IntKind.i64.wrap (n-(l.length:Int))=n-l.length:=AD (by omega) (by omega)
 refine ⟨λ c1=>?_,λ c1=>?_⟩
 ·try simp only [nrm] at c1
  refine AK ?_;try rw [hw] at *;grind [szR]
 try simp only [nrm] at c1
 refine AK ?_;try rw [hw] at *;grind [szR]
def Ep:Con:={ ι:=(List (List Dat))×Int,pre:=λ i=>Dat.has (.sl 164 [.bool,.sl 3 [.int],.sl 3 [.int],.bool,.sl 3 [.int],.sl 3 [.int],.bool,.sl 3 [.int],.sl 3 [.int]]) (.sl i.1)/\0<=i.2/\i.2<=1048576,args:=λ i=>[.one (DC.sl 164 E7 i.1),.one (cI i.2)],res:=λ i=>⟨false,[none],[rcI (szR (i.1.length+AG i.1) i.2)]⟩ }
theorem Sa:Ep.Ok Tryz.prog 52:=by
 refine fok (X:=⟨tt,[(113,HY)],[],27,[]⟩) AI AF (CTok.cons VJ (CTok.nil _)) Tryz.func52 (λ (i:(List (List Dat))×Int)=>[(5,.mk 2 (Nat×Int) (λ x1=>{ tm:=[(0,tX 1),(4,tI (0:Int)),(5,tI (x1.1:Int)),(1,tI x1.2)],en:=[(1,.view 164 E7 i.1 [])] }) (λ x1=>x1.1<=i.1.length/\0<=x1.2/\x1.2+i.1.length+AG (i.1.take x1.1)=i.2) (λ x1=>i.1.length-x1.1) (λ _=>[]))]) ?_
 rintro ⟨l,n⟩ hpre
 have hpre:Dat.has (.sl 164 [.bool,.sl 3 [.int],.sl 3 [.int],.bool,.sl 3 [.int],.sl 3 [.int],.bool,.sl 3 [.int],.sl 3 [.int]]) (.sl l)/\0<=n/\n<=1048576:=hpre
 refine AH (q:=let Z5:=wR (n-(nI l.length));let Z2:=szR (l.length+AG l) n;let Z4:=(vI (-1:Int)=vI Z2);ifB ((decide (Z5<(0:Int)))) Z4 ((∃ x1:Nat×Int,(x1.1<=l.length/\0<=x1.2/\x1.2+l.length+AG (l.take x1.1)=n)/\((rf (vI (0:Int)))/\(vI (0:Int)=vI (x1.1:Int))/\(vI Z5=vI x1.2)/\(rf (l))))/\∀ x1:Nat×Int,let Z3:=(x1.1:Int);let Z1:=l.getD x1.1 [];(x1.1<=l.length/\0<=x1.2/\x1.2+l.length+AG (l.take x1.1)=n)->(ifB ((decide (Z3<(nI l.length)))) ((0<=Z3/\Z3<(l.length:Int))/\((x1.1<l.length)/\(∃ i1:(List Dat)×Int,[DA.agg [cB (((Z1.getD 0 (.int 0))).b),cS (((Z1.getD 1 (.int 0))).r),cS (((Z1.getD 2 (.int 0))).r),cB (((Z1.getD 3 (.int 0))).b),cS (((Z1.getD 4 (.int 0))).r),cS (((Z1.getD 5 (.int 0))).r),cB (((Z1.getD 6 (.int 0))).b),cS (((Z1.getD 7 (.int 0))).r),cS (((Z1.getD 8 (.int 0))).r)],DA.one (cI x1.2)]=HY.args i1/\HY.pre i1/\(ifB ((decide ((szR (AE i1.1) i1.2)<(0:Int)))) Z4 (∃ y2:Nat×Int,(y2.1<=l.length/\0<=y2.2/\y2.2+l.length+AG (l.take y2.1)=n)/\(l.length-y2.1<l.length-x1.1)/\((rf (vI (0:Int)))/\(vI (wR (Z3+(1:Int)))=vI (y2.1:Int))/\(vI (szR (AE i1.1) i1.2)=vI y2.2)/\(rf (l)))))))) ((vI x1.2=vI Z2))))) (by kernel_rfl) ?_
 conv=>zeta
 delta ifB vI wR nI
 obtain ⟨hh,h0,h1⟩:=hpre
 have hh2:=Bh hh
 have hl:=Cr hh
 have hw:IntKind.i64.wrap (n-(l.length:Int))=n-l.length:=AD (by omega) (by omega)
 refine ⟨λ c1=>?_,λ c1=>?_⟩
 ·try simp only [nrm] at c1
  refine AK ?_;try rw [hw] at *;grind [szR]
 try simp only [nrm] at c1
 refine ⟨⟨(0,n-l.length),by
  rw [hw] at c1;simp [AG];omega,?_⟩,?_⟩
 ·refine ⟨rfl,rfl,?_,rfl⟩
  exact AK hw
 rintro ⟨k,m⟩ hki3
 have hki3:k<=l.length/\0<=m/\m+l.length+AG (l.take k)=n:=hki3
 have hle:=CS l k
 refine And.symm ⟨λ c9=>?_,λ c9=>?_⟩
 ·try simp only [nrm] at c9
  obtain rfl:k=l.length:=by omega
  rw [List.take_length] at hki3
  refine AK ?_;try rw [hw] at *;grind [szR]
 try simp only [nrm] at c9
 refine ao (a:=0<=(k:Int)/\(k:Int)<(l.length:Int)) (by omega) λ o10=>?_
 refine ao (a:=k<l.length) (by omega) λ o11=>?_
 refine ⟨(l.getD k [],m),by
  rfl,by
  show hasRow [.bool,.sl 3 [.int],.sl 3 [.int],.bool,.sl 3 [.int],.sl 3 [.int],.bool,.sl 3 [.int],.sl 3 [.int]] (l.getD k [])/\0<=m/\m<=1048576
  refine ⟨?_,by omega,by omega⟩
  have:=hh2 k (by omega)
  exact this,?_⟩
 have hle:=CS l (k+1)
 have hts:=Fq l k (by omega)
 have hrow:=hh2 k (by omega)
 refine ⟨λ c15=>?_,λ c15=>?_⟩
 ·try simp only [nrm] at c15
  refine AK ?_;try rw [hw] at *;grind [szR]
 try simp only [nrm] at c15
 refine ⟨(k+1,szR (AE (l.getD k [])) m),by
  unfold szR at *;grind,by
  omega,?_⟩
 refine ⟨rfl,?_,rfl,rfl⟩
 exact AK (AD (by omega) (by omega))
def Eq:Con:={ ι:=(List (List Dat))×Int,pre:=λ i=>Dat.has (.sl 161 [.bool,.sl 3 [.int],.sl 3 [.int],.bool,.sl 3 [.int],.sl 3 [.int],.bool,.sl 3 [.int],.sl 3 [.int],.bool,.sl 3 [.int],.sl 3 [.int],.bool,.sl 3 [.int],.sl 3 [.int],.bool,.sl 3 [.int],.sl 3 [.int]]) (.sl i.1)/\0<=i.2/\i.2<=1048576,args:=λ i=>[.one (DC.sl 161 E8 i.1),.one (cI i.2)],res:=λ i=>⟨false,[none],[rcI (szR (i.1.length+AG i.1) i.2)]⟩ }
theorem Sb:Eq.Ok Tryz.prog 51:=by
 refine fok (X:=⟨tt,[(112,Fc)],[],27,[]⟩) AI AF (CTok.cons VM (CTok.nil _)) Tryz.func51 (λ (i:(List (List Dat))×Int)=>[(5,.mk 2 (Nat×Int) (λ x1=>{ tm:=[(0,tX 1),(4,tI (0:Int)),(5,tI (x1.1:Int)),(1,tI x1.2)],en:=[(1,.view 161 E8 i.1 [])] }) (λ x1=>x1.1<=i.1.length/\0<=x1.2/\x1.2+i.1.length+AG (i.1.take x1.1)=i.2) (λ x1=>i.1.length-x1.1) (λ _=>[]))]) ?_
 rintro ⟨l,n⟩ hpre
 have hpre:Dat.has (.sl 161 [.bool,.sl 3 [.int],.sl 3 [.int],.bool,.sl 3 [.int],.sl 3 [.int],.bool,.sl 3 [.int],.sl 3 [.int],.bool,.sl 3 [.int],.sl 3 [.int],.bool,.sl 3 [.int],.sl 3 [.int],.bool,.sl 3 [.int],.sl 3 [.int]]) (.sl l)/\0<=n/\n<=1048576:=hpre
 refine AH (q:=let Z5:=wR (n-(nI l.length));let Z2:=szR (l.length+AG l) n;let Z4:=(vI (-1:Int)=vI Z2);ifB ((decide (Z5<(0:Int)))) Z4 ((∃ x1:Nat×Int,(x1.1<=l.length/\0<=x1.2/\x1.2+l.length+AG (l.take x1.1)=n)/\((rf (vI (0:Int)))/\(vI (0:Int)=vI (x1.1:Int))/\(vI Z5=vI x1.2)/\(rf (l))))/\∀ x1:Nat×Int,let Z3:=(x1.1:Int);let Z1:=l.getD x1.1 [];(x1.1<=l.length/\0<=x1.2/\x1.2+l.length+AG (l.take x1.1)=n)->(ifB ((decide (Z3<(nI l.length)))) ((0<=Z3/\Z3<(l.length:Int))/\((x1.1<l.length)/\(∃ i1:(List Dat)×Int,[DA.agg [cB (((Z1.getD 0 (.int 0))).b),cS (((Z1.getD 1 (.int 0))).r),cS (((Z1.getD 2 (.int 0))).r),cB (((Z1.getD 3 (.int 0))).b),cS (((Z1.getD 4 (.int 0))).r),cS (((Z1.getD 5 (.int 0))).r),cB (((Z1.getD 6 (.int 0))).b),cS (((Z1.getD 7 (.int 0))).r),cS (((Z1.getD 8 (.int 0))).r),cB (((Z1.getD 9 (.int 0))).b),cS (((Z1.getD 10 (.int 0))).r),cS (((Z1.getD 11 (.int 0))).r),cB (((Z1.getD 12 (.int 0))).b),cS (((Z1.getD 13 (.int 0))).r),cS (((Z1.getD 14 (.int 0))).r),cB (((Z1.getD 15 (.int 0))).b),cS (((Z1.getD 16 (.int 0))).r),cS (((Z1.getD 17 (.int 0))).r)],DA.one (cI x1.2)]=Fc.args i1/\Fc.pre i1/\(ifB ((decide ((szR (AE i1.1) i1.2)<(0:Int)))) Z4 (∃ y2:Nat×Int,(y2.1<=l.length/\0<=y2.2/\y2.2+l.length+AG (l.take y2.1)=n)/\(l.length-y2.1<l.length-x1.1)/\((rf (vI (0:Int)))/\(vI (wR (Z3+(1:Int)))=vI (y2.1:Int))/\(vI (szR (AE i1.1) i1.2)=vI y2.2)/\(rf (l)))))))) ((vI x1.2=vI Z2))))) (by kernel_rfl) ?_
 conv=>zeta
 delta ifB vI wR nI
 obtain ⟨hh,h0,h1⟩:=hpre
 have hh2:=Bh hh
 have hl:=Cr hh
 have hw:IntKind.i64.wrap (n-(l.length:Int))=n-l.length:=AD (by omega) (by omega)
 refine ⟨λ c1=>?_,λ c1=>?_⟩
 ·try simp only [nrm] at c1
  refine AK ?_;try rw [hw] at *;grind [szR]
 try simp only [nrm] at c1
 refine ⟨⟨(0,n-l.length),by
  rw [hw] at c1;simp [AG];omega,?_⟩,?_⟩
 ·refine ⟨rfl,rfl,?_,rfl⟩
  exact AK hw
 rintro ⟨k,m⟩ hki3
 have hki3:k<=l.length/\0<=m/\m+l.length+AG (l.take k)=n:=hki3
 have hle:=CS l k
 refine And.symm ⟨λ c9=>?_,λ c9=>?_⟩
 ·try simp only [nrm] at c9
  obtain rfl:k=l.length:=by omega
  rw [List.take_length] at hki3
  refine AK ?_;try rw [hw] at *;grind [szR]
 try simp only [nrm] at c9
 refine ao (a:=0<=(k:Int)/\(k:Int)<(l.length:Int)) (by omega) λ o10=>?_
 refine ao (a:=k<l.length) (by omega) λ o11=>?_
 refine ⟨(l.getD k [],m),by
  rfl,by
  try dsimp only [Fc]
  refine ⟨?_,by omega,by omega⟩
  have:=hh2 k (by omega)
  exact this,?_⟩
 have hle:=CS l (k+1)
 have hts:=Fq l k (by omega)
 have hrow:=hh2 k (by omega)
 refine ⟨λ c15=>?_,λ c15=>?_⟩
 ·try simp only [nrm] at c15
  refine AK ?_;try rw [hw] at *;grind [szR]
 try simp only [nrm] at c15
 refine ⟨(k+1,szR (AE (l.getD k [])) m),by
  unfold szR at *;grind,by
  omega,?_⟩
 refine ⟨rfl,?_,rfl,rfl⟩
 exact AK (AD (by omega) (by omega))
def Fw:Con:={ ι:=(List (List Dat)),pre:=λ i=>Dat.has (.sl 172 [.int,.int]) (.sl i)/\i.length+AG i<=1048576,args:=λ i=>[.one (DC.sl 172 [.int,.int] i)],res:=λ i=>⟨false,[none],[.own 168 [.int,.int] i]⟩ }
theorem Sc:Fw.Ok Tryz.prog 64:=by
 refine fok (X:=⟨tt,[(121,HS)],[],23,[]⟩) AI AF (CTok.cons VH (CTok.nil _)) Tryz.func64 (λ (i:(List (List Dat)))=>[(3,.mk 3 (Nat) (λ x1=>{ tm:=[(0,tX 1),(3,tX 2),(4,tI (nI x1))],en:=[(1,.view 172 [.int,.int] i []),(2,.own 168 [.int,.int] (i.take x1++List.replicate (i.length-x1) ([Dat.int (0:Int),Dat.int (0:Int)]:List Dat)))] }) (λ x1=>x1<=i.length) (λ x1=>i.length-x1) (λ _=>[]))]) ?_
 intro (l:List (List Dat)) hpre
 have hpre:Dat.has (.sl 172 [.int,.int]) (.sl l)/\l.length+AG l<=1048576:=hpre
 refine AH (q:=let Z2:=nI l.length;(0<=Z2)/\((Z2<=Z2)/\((Z2<=1073741824)/\((∃ x1:Nat,(x1<=l.length)/\((vI (0:Int)=vI (nI x1))/\(rf (l))/\((List.replicate l.length [Dat.int (0:Int),Dat.int (0:Int)])=(l.take x1++List.replicate (l.length-x1) ([Dat.int (0:Int),Dat.int (0:Int)]:List Dat)))))/\∀ x1:Nat,let Z1:=l.take x1++List.replicate (l.length-x1) ([Dat.int (0:Int),Dat.int (0:Int)]:List Dat);(x1<=l.length)->(ifB ((decide ((nI x1)<Z2))) ((0<=(nI x1)/\(nI x1)<(l.length:Int))/\((x1<l.length)/\(∃ i1:(List Dat),[DA.agg [cI ((((l.getD x1 []).getD 0 (.int 0))).n),cI ((((l.getD x1 []).getD 1 (.int 0))).n)]]=HS.args i1/\HS.pre i1/\((0<=(nI x1)/\(nI x1)<(Z1.length:Int))/\((x1<Z1.length)/\(∃ y2:Nat,(y2<=l.length)/\(l.length-y2<l.length-x1)/\((vI (wR ((nI x1)+(1:Int)))=vI (nI y2))/\(rf (l))/\((Z1.set x1 [Dat.int ((i1.getD 0 (.int 0)).n),Dat.int ((i1.getD 1 (.int 0)).n)])=(l.take y2++List.replicate (l.length-y2) ([Dat.int (0:Int),Dat.int (0:Int)]:List Dat)))))))))) ((Z1=l))))))) (by kernel_rfl) ?_
 conv=>zeta
 delta ifB vI wR nI
 have hh2:=Bh hpre.1
 have hl:=hpre.2
 refine ao (by omega) λ o1=>?_
 refine ao (by omega) λ o2=>?_
 refine ao (by omega) λ o3=>?_
 refine ⟨⟨0,by
  omega,?_⟩,?_⟩
 ·refine ⟨?_,rfl,?_⟩
  ·rfl
  rfl
 intro (k:Nat) hki4
 have hki4:k<=l.length:=hki4
 refine And.symm ⟨λ c9=>?_,λ c9=>?_⟩
 ·try simp only [nrm] at c9
  exact PT (by omega)
 try simp only [nrm] at c9
 refine ao (by omega) λ o10=>?_
 refine ao (by omega) λ o11=>?_
 refine ⟨(l.getD k []),by
  rfl,by
  show hasRow [.int,.int] (l.getD k [])/\AE (l.getD k [])<=1048576
  have hrow:=hh2 k (by omega)
  have hs:=Gg (l:=l) (k:=k) (by omega)
  exact ⟨hrow,by omega⟩,?_⟩
 refine ao (by rw [PS (by omega)];omega) λ o15=>?_
 refine ao (by omega) λ o16=>?_
 refine ⟨k+1,by
  trivial,by
  omega,?_⟩
 refine ⟨?_,rfl,?_⟩
 ·exact AK (AD (by omega) (by omega))
 exact NH (by omega) (PU (hh2 k (by omega)))
def Fx:Con:={ ι:=(List (List Dat)),pre:=λ i=>i.length<=9223372036854775807,args:=λ i=>[.one (DC.sl 168 [.int,.int] i),.one (DC.sl 168 [.int,.int] i)],res:=λ i=>⟨false,[none],[rcB true]⟩ }
theorem Sd:Fx.Ok Tryz.prog 74:=by
 refine fok (X:=⟨tt,[(130,HW)],[],27,[]⟩) AI AF (CTok.cons VI (CTok.nil _)) Tryz.func74 (λ (i:(List (List Dat)))=>[(4,.mk 3 (Nat) (λ x1=>{ tm:=[(0,tX 1),(1,tX 2),(5,tI (nI x1))],en:=[(1,.view 168 [.int,.int] i []),(2,.view 168 [.int,.int] i [])] }) (λ x1=>x1<=i.length) (λ x1=>i.length-x1) (λ _=>[]))]) ?_
 intro (l:List (List Dat)) hpre
 have hpre:l.length<=9223372036854775807:=hpre
 refine AH (q:=ifB (((nI l.length) != (nI l.length))) ((vB false=vB true)) ((∃ x1:Nat,(x1<=l.length)/\((vI (0:Int)=vI (nI x1))/\(rf (l))/\(rf (l))))/\∀ x1:Nat,let Z2:=(((l.getD x1 []).getD 1 (.int 0))).n;let Z1:=(((l.getD x1 []).getD 0 (.int 0))).n;(x1<=l.length)->(ifB ((decide ((nI x1)<(nI l.length)))) ((0<=(nI x1)/\(nI x1)<(l.length:Int))/\((x1<l.length)/\((0<=(nI x1)/\(nI x1)<(l.length:Int))/\((x1<l.length)/\(∃ i1:(List Dat),[DA.agg [cI Z1,cI Z2],DA.agg [cI Z1,cI Z2]]=HW.args i1/\HW.pre i1/\(ifB ((!true)) ((vB false=vB true)) (∃ y2:Nat,(y2<=l.length)/\(l.length-y2<l.length-x1)/\((vI (wR ((nI x1)+(1:Int)))=vI (nI y2))/\(rf (l))/\(rf (l)))))))))) ((vB true=vB true))))) (by kernel_rfl) ?_
 conv=>zeta
 delta ifB vB vI wR nI
 refine ⟨λ c1=>?_,λ c1=>?_⟩
 ·try simp only [nrm] at c1
  exfalso;simp_all;done
 try simp only [nrm] at c1
 refine ⟨⟨0,by
  omega,?_⟩,?_⟩
 ·refine ⟨?_,rfl,rfl⟩
  rfl
 intro (k:Nat) hki3
 have hki3:k<=l.length:=hki3
 refine And.symm ⟨λ c8=>?_,λ c8=>?_⟩
 ·try simp only [nrm] at c8
  exact rfl
 try simp only [nrm] at c8
 refine ao (by omega) λ o9=>?_
 refine ao (by omega) λ o10=>?_
 refine ao (by omega) λ o11=>?_
 refine ao (by omega) λ o12=>?_
 refine ⟨(l.getD k []),by
  rfl,by
  trivial,?_⟩
 refine ⟨λ c16=>?_,λ c16=>?_⟩
 ·try simp only [nrm] at c16
  exfalso;simp_all;done
 try simp only [nrm] at c16
 refine ⟨k+1,by
  trivial,by
  omega,?_⟩
 refine ⟨?_,rfl,rfl⟩
 exact AK (AD (by omega) (by omega))
def Er:Con:={ ι:=(List (List Dat)),pre:=λ i=>Dat.has (.sl 164 [.bool,.sl 3 [.int],.sl 3 [.int],.bool,.sl 3 [.int],.sl 3 [.int],.bool,.sl 3 [.int],.sl 3 [.int]]) (.sl i)/\i.length+AG i<=1048576,args:=λ i=>[.one (DC.sl 164 E7 i)],res:=λ i=>⟨false,[none],[.own 153 [.bool,.sl 3 [.int],.sl 3 [.int],.bool,.sl 3 [.int],.sl 3 [.int],.bool,.sl 3 [.int],.sl 3 [.int]] i]⟩ }
theorem Se:Er.Ok Tryz.prog 63:=by
 refine fok (X:=⟨tt,[(120,Ha)],[],23,[]⟩) AI AF (CTok.cons VK (CTok.nil _)) Tryz.func63 (λ (i:(List (List Dat)))=>let Z1:=List Dat;[(3,.mk 3 (Nat) (λ x1=>{ tm:=[(0,tX 1),(3,tX 2),(4,tI (nI x1))],en:=[(1,.view 164 E7 i []),(2,.own 153 E7 (i.take x1++List.replicate (i.length-x1) ([Dat.bool false,Dat.sl ([]:List Z1),Dat.sl ([]:List Z1),Dat.bool false,Dat.sl ([]:List Z1),Dat.sl ([]:List Z1),Dat.bool false,Dat.sl ([]:List Z1),Dat.sl ([]:List Z1)]:List Dat)))] }) (λ x1=>x1<=i.length) (λ x1=>i.length-x1) (λ _=>[]))]) ?_
 intro (l:List (List Dat)) hpre
 have hpre:Dat.has (.sl 164 [.bool,.sl 3 [.int],.sl 3 [.int],.bool,.sl 3 [.int],.sl 3 [.int],.bool,.sl 3 [.int],.sl 3 [.int]]) (.sl l)/\l.length+AG l<=1048576:=hpre
 refine AH (q:=let Z4:=nI l.length;let Z2:=List Dat;(0<=Z4)/\((Z4<=Z4)/\((Z4<=1073741824)/\((∃ x1:Nat,(x1<=l.length)/\((vI (0:Int)=vI (nI x1))/\(rf (l))/\((List.replicate l.length [Dat.bool false,Dat.sl [],Dat.sl [],Dat.bool false,Dat.sl [],Dat.sl [],Dat.bool false,Dat.sl [],Dat.sl []])=(l.take x1++List.replicate (l.length-x1) ([Dat.bool false,Dat.sl ([]:List Z2),Dat.sl ([]:List Z2),Dat.bool false,Dat.sl ([]:List Z2),Dat.sl ([]:List Z2),Dat.bool false,Dat.sl ([]:List Z2),Dat.sl ([]:List Z2)]:List Dat)))))/\∀ x1:Nat,let Z3:=l.getD x1 [];let Z1:=l.take x1++List.replicate (l.length-x1) ([Dat.bool false,Dat.sl ([]:List Z2),Dat.sl ([]:List Z2),Dat.bool false,Dat.sl ([]:List Z2),Dat.sl ([]:List Z2),Dat.bool false,Dat.sl ([]:List Z2),Dat.sl ([]:List Z2)]:List Dat);(x1<=l.length)->(ifB ((decide ((nI x1)<Z4))) ((0<=(nI x1)/\(nI x1)<(l.length:Int))/\((x1<l.length)/\(∃ i1:Z2,[DA.agg [cB (((Z3.getD 0 (.int 0))).b),cS (((Z3.getD 1 (.int 0))).r),cS (((Z3.getD 2 (.int 0))).r),cB (((Z3.getD 3 (.int 0))).b),cS (((Z3.getD 4 (.int 0))).r),cS (((Z3.getD 5 (.int 0))).r),cB (((Z3.getD 6 (.int 0))).b),cS (((Z3.getD 7 (.int 0))).r),cS (((Z3.getD 8 (.int 0))).r)]]=Ha.args i1/\Ha.pre i1/\((0<=(nI x1)/\(nI x1)<(Z1.length:Int))/\((x1<Z1.length)/\(∃ y2:Nat,(y2<=l.length)/\(l.length-y2<l.length-x1)/\((vI (wR ((nI x1)+(1:Int)))=vI (nI y2))/\(rf (l))/\((Z1.set x1 [Dat.bool ((i1.getD 0 (.int 0)).b),Dat.sl ((i1.getD 1 (.int 0)).r),Dat.sl ((i1.getD 2 (.int 0)).r),Dat.bool ((i1.getD 3 (.int 0)).b),Dat.sl ((i1.getD 4 (.int 0)).r),Dat.sl ((i1.getD 5 (.int 0)).r),Dat.bool ((i1.getD 6 (.int 0)).b),Dat.sl ((i1.getD 7 (.int 0)).r),Dat.sl ((i1.getD 8 (.int 0)).r)])=(l.take y2++List.replicate (l.length-y2) ([Dat.bool false,Dat.sl ([]:List Z2),Dat.sl ([]:List Z2),Dat.bool false,Dat.sl ([]:List Z2),Dat.sl ([]:List Z2),Dat.bool false,Dat.sl ([]:List Z2),Dat.sl ([]:List Z2)]:List Dat)))))))))) ((Z1=l))))))) (by kernel_rfl) ?_
 conv=>zeta
 delta ifB vI wR nI
 have hh2:=Bh hpre.1
 have hl:=hpre.2
 refine ao (by omega) λ o1=>?_
 refine ao (by omega) λ o2=>?_
 refine ao (by omega) λ o3=>?_
 refine ⟨⟨0,by
  omega,?_⟩,?_⟩
 ·refine ⟨?_,rfl,?_⟩
  ·rfl
  rfl
 intro (k:Nat) hki4
 have hki4:k<=l.length:=hki4
 refine And.symm ⟨λ c9=>?_,λ c9=>?_⟩
 ·try simp only [nrm] at c9
  exact PT (by omega)
 try simp only [nrm] at c9
 refine ao (by omega) λ o10=>?_
 refine ao (by omega) λ o11=>?_
 refine ⟨(l.getD k []),by
  rfl,by
  show hasRow [.bool,.sl 3 [.int],.sl 3 [.int],.bool,.sl 3 [.int],.sl 3 [.int],.bool,.sl 3 [.int],.sl 3 [.int]] (l.getD k [])/\AE (l.getD k [])<=1048576
  have hrow:=hh2 k (by omega)
  have hs:=Gg (l:=l) (k:=k) (by omega)
  exact ⟨hrow,by omega⟩,?_⟩
 refine ao (by rw [PS (by omega)];omega) λ o15=>?_
 refine ao (by omega) λ o16=>?_
 refine ⟨k+1,by
  trivial,by
  omega,?_⟩
 refine ⟨?_,rfl,?_⟩
 ·exact AK (AD (by omega) (by omega))
 exact NH (by omega) (PV (hh2 k (by omega)))
def Fy:Con:={ ι:=(List (List Dat)),pre:=λ i=>i.length<=9223372036854775807,args:=λ i=>[.one (DC.sl 153 E7 i),.one (DC.sl 153 E7 i)],res:=λ i=>⟨false,[none],[rcB true]⟩ }
theorem Sf:Fy.Ok Tryz.prog 40:=by
 refine fok (X:=⟨tt,[(105,Hb)],[],27,[]⟩) AI AF (CTok.cons VL (CTok.nil _)) Tryz.func40 (λ (i:(List (List Dat)))=>[(4,.mk 3 (Nat) (λ x1=>{ tm:=[(0,tX 1),(1,tX 2),(5,tI (nI x1))],en:=[(1,.view 153 E7 i []),(2,.view 153 E7 i [])] }) (λ x1=>x1<=i.length) (λ x1=>i.length-x1) (λ _=>[]))]) ?_
 intro (l:List (List Dat)) hpre
 have hpre:l.length<=9223372036854775807:=hpre
 refine AH (q:=ifB (((nI l.length) != (nI l.length))) ((vB false=vB true)) ((∃ x1:Nat,(x1<=l.length)/\((vI (0:Int)=vI (nI x1))/\(rf (l))/\(rf (l))))/\∀ x1:Nat,let Z1:=l.getD x1 [];let Z10:=((Z1.getD 8 (.int 0))).r;let Z9:=((Z1.getD 7 (.int 0))).r;let Z8:=((Z1.getD 6 (.int 0))).b;let Z7:=((Z1.getD 5 (.int 0))).r;let Z6:=((Z1.getD 4 (.int 0))).r;let Z5:=((Z1.getD 3 (.int 0))).b;let Z4:=((Z1.getD 2 (.int 0))).r;let Z3:=((Z1.getD 1 (.int 0))).r;let Z2:=((Z1.getD 0 (.int 0))).b;(x1<=l.length)->(ifB ((decide ((nI x1)<(nI l.length)))) ((0<=(nI x1)/\(nI x1)<(l.length:Int))/\((x1<l.length)/\((0<=(nI x1)/\(nI x1)<(l.length:Int))/\((x1<l.length)/\(∃ i1:(List Dat),[DA.agg [cB Z2,cS Z3,cS Z4,cB Z5,cS Z6,cS Z7,cB Z8,cS Z9,cS Z10],DA.agg [cB Z2,cS Z3,cS Z4,cB Z5,cS Z6,cS Z7,cB Z8,cS Z9,cS Z10]]=Hb.args i1/\Hb.pre i1/\(ifB ((!true)) ((vB false=vB true)) (∃ y2:Nat,(y2<=l.length)/\(l.length-y2<l.length-x1)/\((vI (wR ((nI x1)+(1:Int)))=vI (nI y2))/\(rf (l))/\(rf (l)))))))))) ((vB true=vB true))))) (by kernel_rfl) ?_
 conv=>zeta
 delta ifB vB vI wR nI
 refine ⟨λ c1=>?_,λ c1=>?_⟩
 ·try simp only [nrm] at c1
  exfalso;simp_all;done
 try simp only [nrm] at c1
 refine ⟨⟨0,by
  omega,?_⟩,?_⟩
 ·refine ⟨?_,rfl,rfl⟩
  rfl
 intro (k:Nat) hki3
 have hki3:k<=l.length:=hki3
 refine And.symm ⟨λ c8=>?_,λ c8=>?_⟩
 ·try simp only [nrm] at c8
  exact rfl
 try simp only [nrm] at c8
 refine ao (by omega) λ o9=>?_
 refine ao (by omega) λ o10=>?_
 refine ao (by omega) λ o11=>?_
 refine ao (by omega) λ o12=>?_
 refine ⟨(l.getD k []),by
  rfl,by
  trivial,?_⟩
 refine ⟨λ c16=>?_,λ c16=>?_⟩
 ·try simp only [nrm] at c16
  exfalso;simp_all;done
 try simp only [nrm] at c16
 refine ⟨k+1,by
  trivial,by
  omega,?_⟩
 refine ⟨?_,rfl,rfl⟩
 exact AK (AD (by omega) (by omega))
def Es:Con:={ ι:=(List (List Dat)),pre:=λ i=>Dat.has (.sl 161 [.bool,.sl 3 [.int],.sl 3 [.int],.bool,.sl 3 [.int],.sl 3 [.int],.bool,.sl 3 [.int],.sl 3 [.int],.bool,.sl 3 [.int],.sl 3 [.int],.bool,.sl 3 [.int],.sl 3 [.int],.bool,.sl 3 [.int],.sl 3 [.int]]) (.sl i)/\i.length+AG i<=1048576,args:=λ i=>[.one (DC.sl 161 E8 i)],res:=λ i=>⟨false,[none],[.own 158 [.bool,.sl 3 [.int],.sl 3 [.int],.bool,.sl 3 [.int],.sl 3 [.int],.bool,.sl 3 [.int],.sl 3 [.int],.bool,.sl 3 [.int],.sl 3 [.int],.bool,.sl 3 [.int],.sl 3 [.int],.bool,.sl 3 [.int],.sl 3 [.int]] i]⟩ }
theorem Sg:Es.Ok Tryz.prog 62:=by
 refine fok (X:=⟨tt,[(119,Fd)],[],23,[]⟩) AI AF (CTok.cons VN (CTok.nil _)) Tryz.func62 (λ (i:(List (List Dat)))=>let Z1:=List Dat;[(3,.mk 3 (Nat) (λ x1=>{ tm:=[(0,tX 1),(3,tX 2),(4,tI (nI x1))],en:=[(1,.view 161 E8 i []),(2,.own 158 E8 (i.take x1++List.replicate (i.length-x1) ([Dat.bool false,Dat.sl ([]:List Z1),Dat.sl ([]:List Z1),Dat.bool false,Dat.sl ([]:List Z1),Dat.sl ([]:List Z1),Dat.bool false,Dat.sl ([]:List Z1),Dat.sl ([]:List Z1),Dat.bool false,Dat.sl ([]:List Z1),Dat.sl ([]:List Z1),Dat.bool false,Dat.sl ([]:List Z1),Dat.sl ([]:List Z1),Dat.bool false,Dat.sl ([]:List Z1),Dat.sl ([]:List Z1)]:List Dat)))] }) (λ x1=>x1<=i.length) (λ x1=>i.length-x1) (λ _=>[]))]) ?_
 intro (l:List (List Dat)) hpre
 have hpre:Dat.has (.sl 161 [.bool,.sl 3 [.int],.sl 3 [.int],.bool,.sl 3 [.int],.sl 3 [.int],.bool,.sl 3 [.int],.sl 3 [.int],.bool,.sl 3 [.int],.sl 3 [.int],.bool,.sl 3 [.int],.sl 3 [.int],.bool,.sl 3 [.int],.sl 3 [.int]]) (.sl l)/\l.length+AG l<=1048576:=hpre
 refine AH (q:=let Z4:=nI l.length;let Z2:=List Dat;(0<=Z4)/\((Z4<=Z4)/\((Z4<=1073741824)/\((∃ x1:Nat,(x1<=l.length)/\((vI (0:Int)=vI (nI x1))/\(rf (l))/\((List.replicate l.length [Dat.bool false,Dat.sl [],Dat.sl [],Dat.bool false,Dat.sl [],Dat.sl [],Dat.bool false,Dat.sl [],Dat.sl [],Dat.bool false,Dat.sl [],Dat.sl [],Dat.bool false,Dat.sl [],Dat.sl [],Dat.bool false,Dat.sl [],Dat.sl []])=(l.take x1++List.replicate (l.length-x1) ([Dat.bool false,Dat.sl ([]:List Z2),Dat.sl ([]:List Z2),Dat.bool false,Dat.sl ([]:List Z2),Dat.sl ([]:List Z2),Dat.bool false,Dat.sl ([]:List Z2),Dat.sl ([]:List Z2),Dat.bool false,Dat.sl ([]:List Z2),Dat.sl ([]:List Z2),Dat.bool false,Dat.sl ([]:List Z2),Dat.sl ([]:List Z2),Dat.bool false,Dat.sl ([]:List Z2),Dat.sl ([]:List Z2)]:List Dat)))))/\∀ x1:Nat,let Z3:=l.getD x1 [];let Z1:=l.take x1++List.replicate (l.length-x1) ([Dat.bool false,Dat.sl ([]:List Z2),Dat.sl ([]:List Z2),Dat.bool false,Dat.sl ([]:List Z2),Dat.sl ([]:List Z2),Dat.bool false,Dat.sl ([]:List Z2),Dat.sl ([]:List Z2),Dat.bool false,Dat.sl ([]:List Z2),Dat.sl ([]:List Z2),Dat.bool false,Dat.sl ([]:List Z2),Dat.sl ([]:List Z2),Dat.bool false,Dat.sl ([]:List Z2),Dat.sl ([]:List Z2)]:List Dat);(x1<=l.length)->(ifB ((decide ((nI x1)<Z4))) ((0<=(nI x1)/\(nI x1)<(l.length:Int))/\((x1<l.length)/\(∃ i1:Z2,[DA.agg [cB (((Z3.getD 0 (.int 0))).b),cS (((Z3.getD 1 (.int 0))).r),cS (((Z3.getD 2 (.int 0))).r),cB (((Z3.getD 3 (.int 0))).b),cS (((Z3.getD 4 (.int 0))).r),cS (((Z3.getD 5 (.int 0))).r),cB (((Z3.getD 6 (.int 0))).b),cS (((Z3.getD 7 (.int 0))).r),cS (((Z3.getD 8 (.int 0))).r),cB (((Z3.getD 9 (.int 0))).b),cS (((Z3.getD 10 (.int 0))).r),cS (((Z3.getD 11 (.int 0))).r),cB (((Z3.getD 12 (.int 0))).b),cS (((Z3.getD 13 (.int 0))).r),cS (((Z3.getD 14 (.int 0))).r),cB (((Z3.getD 15 (.int 0))).b),cS (((Z3.getD 16 (.int 0))).r),cS (((Z3.getD 17 (.int 0))).r)]]=Fd.args i1/\Fd.pre i1/\((0<=(nI x1)/\(nI x1)<(Z1.length:Int))/\((x1<Z1.length)/\(∃ y2:Nat,(y2<=l.length)/\(l.length-y2<l.length-x1)/\((vI (wR ((nI x1)+(1:Int)))=vI (nI y2))/\(rf (l))/\((Z1.set x1 [Dat.bool ((i1.getD 0 (.int 0)).b),Dat.sl ((i1.getD 1 (.int 0)).r),Dat.sl ((i1.getD 2 (.int 0)).r),Dat.bool ((i1.getD 3 (.int 0)).b),Dat.sl ((i1.getD 4 (.int 0)).r),Dat.sl ((i1.getD 5 (.int 0)).r),Dat.bool ((i1.getD 6 (.int 0)).b),Dat.sl ((i1.getD 7 (.int 0)).r),Dat.sl ((i1.getD 8 (.int 0)).r),Dat.bool ((i1.getD 9 (.int 0)).b),Dat.sl ((i1.getD 10 (.int 0)).r),Dat.sl ((i1.getD 11 (.int 0)).r),Dat.bool ((i1.getD 12 (.int 0)).b),Dat.sl ((i1.getD 13 (.int 0)).r),Dat.sl ((i1.getD 14 (.int 0)).r),Dat.bool ((i1.getD 15 (.int 0)).b),Dat.sl ((i1.getD 16 (.int 0)).r),Dat.sl ((i1.getD 17 (.int 0)).r)])=(l.take y2++List.replicate (l.length-y2) ([Dat.bool false,Dat.sl ([]:List Z2),Dat.sl ([]:List Z2),Dat.bool false,Dat.sl ([]:List Z2),Dat.sl ([]:List Z2),Dat.bool false,Dat.sl ([]:List Z2),Dat.sl ([]:List Z2),Dat.bool false,Dat.sl ([]:List Z2),Dat.sl ([]:List Z2),Dat.bool false,Dat.sl ([]:List Z2),Dat.sl ([]:List Z2),Dat.bool false,Dat.sl ([]:List Z2),Dat.sl ([]:List Z2)]:List Dat)))))))))) ((Z1=l))))))) (by kernel_rfl) ?_
 conv=>zeta
 delta ifB vI wR nI
 have hh2:=Bh hpre.1
 have hl:=hpre.2
 refine ao (by omega) λ o1=>?_
 refine ao (by omega) λ o2=>?_
 refine ao (by omega) λ o3=>?_
 refine ⟨⟨0,by
  omega,?_⟩,?_⟩
 ·refine ⟨?_,rfl,?_⟩
  ·rfl
  rfl
 intro (k:Nat) hki4
 have hki4:k<=l.length:=hki4
 refine And.symm ⟨λ c9=>?_,λ c9=>?_⟩
 ·try simp only [nrm] at c9
  exact PT (by omega)
 try simp only [nrm] at c9
 refine ao (by omega) λ o10=>?_
 refine ao (by omega) λ o11=>?_
 refine ⟨(l.getD k []),by
  rfl,by
  try dsimp only [Fd]
  have hrow:=hh2 k (by omega)
  have hs:=Gg (l:=l) (k:=k) (by omega)
  exact ⟨hrow,by omega⟩,?_⟩
 refine ao (by rw [PS (by omega)];omega) λ o15=>?_
 refine ao (by omega) λ o16=>?_
 refine ⟨k+1,by
  trivial,by
  omega,?_⟩
 refine ⟨?_,rfl,?_⟩
 ·exact AK (AD (by omega) (by omega))
 exact NH (by omega) (PW (hh2 k (by omega)))
def Fz:Con:={ ι:=(List (List Dat)),pre:=λ i=>i.length<=9223372036854775807,args:=λ i=>[.one (DC.sl 158 E8 i),.one (DC.sl 158 E8 i)],res:=λ i=>⟨false,[none],[rcB true]⟩ }
theorem Sh:Fz.Ok Tryz.prog 47:=by
 refine fok (X:=⟨tt,[(111,Hc)],[],27,[]⟩) AI AF (CTok.cons VO (CTok.nil _)) Tryz.func47 (λ (i:(List (List Dat)))=>[(4,.mk 3 (Nat) (λ x1=>{ tm:=[(0,tX 1),(1,tX 2),(5,tI (nI x1))],en:=[(1,.view 158 E8 i []),(2,.view 158 E8 i [])] }) (λ x1=>x1<=i.length) (λ x1=>i.length-x1) (λ _=>[]))]) ?_
 intro (l:List (List Dat)) hpre
 have hpre:l.length<=9223372036854775807:=hpre
 refine AH (q:=ifB (((nI l.length) != (nI l.length))) ((vB false=vB true)) ((∃ x1:Nat,(x1<=l.length)/\((vI (0:Int)=vI (nI x1))/\(rf (l))/\(rf (l))))/\∀ x1:Nat,let Z1:=l.getD x1 [];let Z19:=((Z1.getD 9 (.int 0))).b;let Z18:=((Z1.getD 8 (.int 0))).r;let Z17:=((Z1.getD 7 (.int 0))).r;let Z16:=((Z1.getD 6 (.int 0))).b;let Z15:=((Z1.getD 5 (.int 0))).r;let Z14:=((Z1.getD 4 (.int 0))).r;let Z13:=((Z1.getD 3 (.int 0))).b;let Z12:=((Z1.getD 2 (.int 0))).r;let Z11:=((Z1.getD 1 (.int 0))).r;let Z10:=((Z1.getD 0 (.int 0))).b;let Z9:=((Z1.getD 17 (.int 0))).r;let Z8:=((Z1.getD 16 (.int 0))).r;let Z7:=((Z1.getD 15 (.int 0))).b;let Z6:=((Z1.getD 14 (.int 0))).r;let Z5:=((Z1.getD 13 (.int 0))).r;let Z4:=((Z1.getD 12 (.int 0))).b;let Z3:=((Z1.getD 11 (.int 0))).r;let Z2:=((Z1.getD 10 (.int 0))).r;(x1<=l.length)->(ifB ((decide ((nI x1)<(nI l.length)))) ((0<=(nI x1)/\(nI x1)<(l.length:Int))/\((x1<l.length)/\((0<=(nI x1)/\(nI x1)<(l.length:Int))/\((x1<l.length)/\(∃ i1:(List Dat),[DA.agg [cB Z10,cS Z11,cS Z12,cB Z13,cS Z14,cS Z15,cB Z16,cS Z17,cS Z18,cB Z19,cS Z2,cS Z3,cB Z4,cS Z5,cS Z6,cB Z7,cS Z8,cS Z9],DA.agg [cB Z10,cS Z11,cS Z12,cB Z13,cS Z14,cS Z15,cB Z16,cS Z17,cS Z18,cB Z19,cS Z2,cS Z3,cB Z4,cS Z5,cS Z6,cB Z7,cS Z8,cS Z9]]=Hc.args i1/\Hc.pre i1/\(ifB ((!true)) ((vB false=vB true)) (∃ y2:Nat,(y2<=l.length)/\(l.length-y2<l.length-x1)/\((vI (wR ((nI x1)+(1:Int)))=vI (nI y2))/\(rf (l))/\(rf (l)))))))))) ((vB true=vB true))))) (by kernel_rfl) ?_
 conv=>zeta
 delta ifB vB vI wR nI
 refine ⟨λ c1=>?_,λ c1=>?_⟩
 ·try simp only [nrm] at c1
  exfalso;simp_all;done
 try simp only [nrm] at c1
 refine ⟨⟨0,by
  omega,?_⟩,?_⟩
 ·refine ⟨?_,rfl,rfl⟩
  rfl
 intro (k:Nat) hki3
 have hki3:k<=l.length:=hki3
 refine And.symm ⟨λ c8=>?_,λ c8=>?_⟩
 ·try simp only [nrm] at c8
  exact rfl
 try simp only [nrm] at c8
 refine ao (by omega) λ o9=>?_
 refine ao (by omega) λ o10=>?_
 refine ao (by omega) λ o11=>?_
 refine ao (by omega) λ o12=>?_
 refine ⟨(l.getD k []),by
  rfl,by
  trivial,?_⟩
 refine ⟨λ c16=>?_,λ c16=>?_⟩
 ·try simp only [nrm] at c16
  exfalso;simp_all;done
 try simp only [nrm] at c16
 refine ⟨k+1,by
  trivial,by
  omega,?_⟩
 refine ⟨?_,rfl,rfl⟩
 exact AK (AD (by omega) (by omega))
theorem W5 {r:List Dat} (h:hasRow [.int,.int,.int,.int] r):r=[.int (r.getD 0 (.int 0)).n,.int (r.getD 1 (.int 0)).n,.int (r.getD 2 (.int 0)).n,.int (r.getD 3 (.int 0)).n]:=by
 obtain ⟨_,_,rfl,q0,h0⟩:=h.cons
 obtain ⟨_,rfl⟩:=Dat.has_int q0
 obtain ⟨_,_,rfl,q1,h1⟩:=h0.cons
 obtain ⟨_,rfl⟩:=Dat.has_int q1
 obtain ⟨_,_,rfl,q2,h2⟩:=h1.cons
 obtain ⟨_,rfl⟩:=Dat.has_int q2
 obtain ⟨_,_,rfl,q3,h3⟩:=h2.cons
 obtain ⟨_,rfl⟩:=Dat.has_int q3
 obtain rfl:=hasRow.nil h3
 rfl
theorem ZL {r:List Dat} (h:hasRow [.int,.int,.int,.int] r):AE r=0:=by
 rw [W5 h]
 simp only [AE,Dat.sz]
theorem ZM {r:List Dat} (h:hasRow [.int,.int,.int,.int] r):Dat.has .int (.int (r.getD 0 (.int 0)).n)/\Dat.has .int (.int (r.getD 1 (.int 0)).n)/\Dat.has .int (.int (r.getD 2 (.int 0)).n)/\Dat.has .int (.int (r.getD 3 (.int 0)).n):=by
 rw [W5 h] at h
 simpa only [hasRow,and_true] using h
def Gs:Con:={ ι:=(List Dat),pre:=λ i=>hasRow [.int,.int,.int,.int] i/\AE i<=1048576,args:=λ i=>[w28 i],res:=λ i=>⟨false,[some 4],[rcI ((i.getD 0 (.int 0)).n),rcI ((i.getD 1 (.int 0)).n),rcI ((i.getD 2 (.int 0)).n),rcI ((i.getD 3 (.int 0)).n)]⟩ }
theorem W6:Gs.Ok Tryz.prog 28:=by
 refine fok (X:=⟨tt,[(60,CU)],[],13,[]⟩) AI AF (CTok.cons Q6 (CTok.nil _)) Tryz.func28 (λ _=>[]) ?_
 intro (r:List Dat) hpre
 have hpre:hasRow [.int,.int,.int,.int] r/\AE r<=1048576:=hpre
 refine AH (q:=∃ i1:(Int×Int),[DA.agg [cI ((r.getD 0 (.int 0)).n),cI ((r.getD 1 (.int 0)).n)]]=CU.args i1/\CU.pre i1/\(∃ i2:(Int×Int),[DA.agg [cI ((r.getD 2 (.int 0)).n),cI ((r.getD 3 (.int 0)).n)]]=CU.args i2/\CU.pre i2/\((vI i1.1=vI ((r.getD 0 (.int 0)).n))/\(vI i1.2=vI ((r.getD 1 (.int 0)).n))/\(vI i2.1=vI ((r.getD 2 (.int 0)).n))/\(vI i2.2=vI ((r.getD 3 (.int 0)).n))))) (by kernel_rfl) ?_
 delta vI
 have hz:=ZL hpre.1
 have hs:=hpre.2
 have hp:=ZM hpre.1
 obtain ⟨p0,p1,p2,p3⟩:=hp
 refine ⟨(((r.getD 0 (.int 0)).n),((r.getD 1 (.int 0)).n)),by
  rfl,by
  show AE [.int (((r.getD 0 (.int 0)).n),((r.getD 1 (.int 0)).n)).1,.int (((r.getD 0 (.int 0)).n),((r.getD 1 (.int 0)).n)).2]<=1048576
  simp [AE,Dat.sz];done,?_⟩
 refine ⟨(((r.getD 2 (.int 0)).n),((r.getD 3 (.int 0)).n)),by
  rfl,by
  show AE [.int (((r.getD 2 (.int 0)).n),((r.getD 3 (.int 0)).n)).1,.int (((r.getD 2 (.int 0)).n),((r.getD 3 (.int 0)).n)).2]<=1048576
  simp [AE,Dat.sz];done,?_⟩
 refine ⟨?_,?_,?_,?_⟩
 ·rfl
 ·rfl
 ·rfl
 rfl
def JA:Con:={ ι:=(List Dat),pre:=λ i=>True,args:=λ i=>[w28 i,w28 i],res:=λ i=>⟨false,[none],[rcB true]⟩ }
theorem W7:JA.Ok Tryz.prog 73:=by
 refine fok (X:=⟨tt,[(71,CV)],[],17,[]⟩) AI AF (CTok.cons Q7 (CTok.nil _)) Tryz.func73 (λ _=>[]) ?_
 intro (r:List Dat) hpre
 have hpre:True:=hpre
 refine AH (q:=∃ i1:(Int×Int),[DA.agg [cI ((r.getD 0 (.int 0)).n),cI ((r.getD 1 (.int 0)).n)],DA.agg [cI ((r.getD 0 (.int 0)).n),cI ((r.getD 1 (.int 0)).n)]]=CV.args i1/\CV.pre i1/\(ifB ((!true)) ((vB false=vB true)) (∃ i2:(Int×Int),[DA.agg [cI ((r.getD 2 (.int 0)).n),cI ((r.getD 3 (.int 0)).n)],DA.agg [cI ((r.getD 2 (.int 0)).n),cI ((r.getD 3 (.int 0)).n)]]=CV.args i2/\CV.pre i2/\(ifB ((!true)) ((vB false=vB true)) ((vB true=vB true)))))) (by kernel_rfl) ?_
 delta ifB vB
 refine ⟨(((r.getD 0 (.int 0)).n),((r.getD 1 (.int 0)).n)),by
  rfl,by
  trivial,?_⟩
 refine ⟨λ c4=>?_,λ c4=>?_⟩
 ·try simp only [nrm] at c4
  exfalso;simp_all;done
 try simp only [nrm] at c4
 refine ⟨(((r.getD 2 (.int 0)).n),((r.getD 3 (.int 0)).n)),by
  rfl,by
  trivial,?_⟩
 refine ⟨λ c9=>?_,λ c9=>?_⟩
 ·try simp only [nrm] at c9
  exfalso;simp_all;done
 try simp only [nrm] at c9
 exact rfl
theorem KP {r:List Dat} (h:hasRow [.int,.bool,.int,.int,.int,.int,.sl 24 [.sl 23 [.int,.int]],.sl 161 [.bool,.sl 3 [.int],.sl 3 [.int],.bool,.sl 3 [.int],.sl 3 [.int],.bool,.sl 3 [.int],.sl 3 [.int],.bool,.sl 3 [.int],.sl 3 [.int],.bool,.sl 3 [.int],.sl 3 [.int],.bool,.sl 3 [.int],.sl 3 [.int]],.sl 164 [.bool,.sl 3 [.int],.sl 3 [.int],.bool,.sl 3 [.int],.sl 3 [.int],.bool,.sl 3 [.int],.sl 3 [.int]],.sl 172 [.int,.int],.sl 3 [.int]] r):r=[.int (r.getD 0 (.int 0)).n,.bool (r.getD 1 (.int 0)).b,.int (r.getD 2 (.int 0)).n,.int (r.getD 3 (.int 0)).n,.int (r.getD 4 (.int 0)).n,.int (r.getD 5 (.int 0)).n,.sl (r.getD 6 (.int 0)).r,.sl (r.getD 7 (.int 0)).r,.sl (r.getD 8 (.int 0)).r,.sl (r.getD 9 (.int 0)).r,.sl (r.getD 10 (.int 0)).r]:=by
 obtain ⟨_,_,rfl,q0,h0⟩:=h.cons
 obtain ⟨_,rfl⟩:=Dat.has_int q0
 obtain ⟨_,_,rfl,q1,h1⟩:=h0.cons
 obtain ⟨_,rfl⟩:=Dat.has_bool q1
 obtain ⟨_,_,rfl,q2,h2⟩:=h1.cons
 obtain ⟨_,rfl⟩:=Dat.has_int q2
 obtain ⟨_,_,rfl,q3,h3⟩:=h2.cons
 obtain ⟨_,rfl⟩:=Dat.has_int q3
 obtain ⟨_,_,rfl,q4,h4⟩:=h3.cons
 obtain ⟨_,rfl⟩:=Dat.has_int q4
 obtain ⟨_,_,rfl,q5,h5⟩:=h4.cons
 obtain ⟨_,rfl⟩:=Dat.has_int q5
 obtain ⟨_,_,rfl,q6,h6⟩:=h5.cons
 obtain ⟨_,rfl⟩:=Dat.has_sl q6
 obtain ⟨_,_,rfl,q7,h7⟩:=h6.cons
 obtain ⟨_,rfl⟩:=Dat.has_sl q7
 obtain ⟨_,_,rfl,q8,h8⟩:=h7.cons
 obtain ⟨_,rfl⟩:=Dat.has_sl q8
 obtain ⟨_,_,rfl,q9,h9⟩:=h8.cons
 obtain ⟨_,rfl⟩:=Dat.has_sl q9
 obtain ⟨_,_,rfl,q10,h10⟩:=h9.cons
 obtain ⟨_,rfl⟩:=Dat.has_sl q10
 obtain rfl:=hasRow.nil h10
 rfl
theorem NJ {r:List Dat} (h:hasRow [.int,.bool,.int,.int,.int,.int,.sl 24 [.sl 23 [.int,.int]],.sl 161 [.bool,.sl 3 [.int],.sl 3 [.int],.bool,.sl 3 [.int],.sl 3 [.int],.bool,.sl 3 [.int],.sl 3 [.int],.bool,.sl 3 [.int],.sl 3 [.int],.bool,.sl 3 [.int],.sl 3 [.int],.bool,.sl 3 [.int],.sl 3 [.int]],.sl 164 [.bool,.sl 3 [.int],.sl 3 [.int],.bool,.sl 3 [.int],.sl 3 [.int],.bool,.sl 3 [.int],.sl 3 [.int]],.sl 172 [.int,.int],.sl 3 [.int]] r):AE r=(((r.getD 6 (.int 0)).r).length+AG ((r.getD 6 (.int 0)).r))+(((r.getD 7 (.int 0)).r).length+AG ((r.getD 7 (.int 0)).r))+(((r.getD 8 (.int 0)).r).length+AG ((r.getD 8 (.int 0)).r))+(((r.getD 9 (.int 0)).r).length+AG ((r.getD 9 (.int 0)).r))+(((r.getD 10 (.int 0)).r).length+AG ((r.getD 10 (.int 0)).r)):=by
 conv=>lhs;rw [KP h]
 simp only [AE,Dat.sz]
 omega
theorem Ii {r:List Dat} (h:hasRow [.int,.bool,.int,.int,.int,.int,.sl 24 [.sl 23 [.int,.int]],.sl 161 [.bool,.sl 3 [.int],.sl 3 [.int],.bool,.sl 3 [.int],.sl 3 [.int],.bool,.sl 3 [.int],.sl 3 [.int],.bool,.sl 3 [.int],.sl 3 [.int],.bool,.sl 3 [.int],.sl 3 [.int],.bool,.sl 3 [.int],.sl 3 [.int]],.sl 164 [.bool,.sl 3 [.int],.sl 3 [.int],.bool,.sl 3 [.int],.sl 3 [.int],.bool,.sl 3 [.int],.sl 3 [.int]],.sl 172 [.int,.int],.sl 3 [.int]] r):Dat.has .int (.int (r.getD 0 (.int 0)).n)/\Dat.has .bool (.bool (r.getD 1 (.int 0)).b)/\Dat.has .int (.int (r.getD 2 (.int 0)).n)/\Dat.has .int (.int (r.getD 3 (.int 0)).n)/\Dat.has .int (.int (r.getD 4 (.int 0)).n)/\Dat.has .int (.int (r.getD 5 (.int 0)).n)/\Dat.has (.sl 24 [.sl 23 [.int,.int]]) (.sl (r.getD 6 (.int 0)).r)/\Dat.has (.sl 161 [.bool,.sl 3 [.int],.sl 3 [.int],.bool,.sl 3 [.int],.sl 3 [.int],.bool,.sl 3 [.int],.sl 3 [.int],.bool,.sl 3 [.int],.sl 3 [.int],.bool,.sl 3 [.int],.sl 3 [.int],.bool,.sl 3 [.int],.sl 3 [.int]]) (.sl (r.getD 7 (.int 0)).r)/\Dat.has (.sl 164 [.bool,.sl 3 [.int],.sl 3 [.int],.bool,.sl 3 [.int],.sl 3 [.int],.bool,.sl 3 [.int],.sl 3 [.int]]) (.sl (r.getD 8 (.int 0)).r)/\Dat.has (.sl 172 [.int,.int]) (.sl (r.getD 9 (.int 0)).r)/\Dat.has (.sl 3 [.int]) (.sl (r.getD 10 (.int 0)).r):=by
 rw [KP h] at h
 simpa only [hasRow,and_true] using h
def Et:Con:={ ι:=(List Dat)×Int,pre:=λ i=>hasRow [.int,.bool,.int,.int,.int,.int,.sl 24 [.sl 23 [.int,.int]],.sl 161 [.bool,.sl 3 [.int],.sl 3 [.int],.bool,.sl 3 [.int],.sl 3 [.int],.bool,.sl 3 [.int],.sl 3 [.int],.bool,.sl 3 [.int],.sl 3 [.int],.bool,.sl 3 [.int],.sl 3 [.int],.bool,.sl 3 [.int],.sl 3 [.int]],.sl 164 [.bool,.sl 3 [.int],.sl 3 [.int],.bool,.sl 3 [.int],.sl 3 [.int],.bool,.sl 3 [.int],.sl 3 [.int]],.sl 172 [.int,.int],.sl 3 [.int]] i.1/\0<=i.2/\i.2<=1048576,args:=λ i=>[w34 i.1,.one (cI i.2)],res:=λ i=>⟨false,[none],[rcI (szR (AE i.1) i.2)]⟩ }
theorem Si:Et.Ok Tryz.prog 9:=by
 refine fok (X:=⟨tt,[(26,CZ),(51,Eq),(52,Ep),(53,Eo),(54,Bk)],[],36,[]⟩) AI AF (CTok.cons NI (CTok.cons Sb (CTok.cons Sa (CTok.cons SZ (CTok.cons Kz (CTok.nil _)))))) Tryz.func9 (λ _=>[]) ?_
 rintro ⟨r,n⟩ hpre
 have hpre:hasRow [.int,.bool,.int,.int,.int,.int,.sl 24 [.sl 23 [.int,.int]],.sl 161 [.bool,.sl 3 [.int],.sl 3 [.int],.bool,.sl 3 [.int],.sl 3 [.int],.bool,.sl 3 [.int],.sl 3 [.int],.bool,.sl 3 [.int],.sl 3 [.int],.bool,.sl 3 [.int],.sl 3 [.int],.bool,.sl 3 [.int],.sl 3 [.int]],.sl 164 [.bool,.sl 3 [.int],.sl 3 [.int],.bool,.sl 3 [.int],.sl 3 [.int],.bool,.sl 3 [.int],.sl 3 [.int]],.sl 172 [.int,.int],.sl 3 [.int]] r/\0<=n/\n<=1048576:=hpre
 refine AH (q:=let Z2:=List (List Dat);let Z1:=(vI (-1:Int)=vI (szR (AE r) n));∃ i1:Z2×Int,let Z3:=szR (i1.1.length+AG i1.1) i1.2;[DA.one (DC.sl 24 [.sl 23 [.int,.int]] ((r.getD 6 (.int 0)).r)),DA.one (cI n)]=CZ.args i1/\CZ.pre i1/\(ifB ((decide (Z3<(0:Int)))) Z1 (∃ i2:Z2×Int,let Z4:=szR (i2.1.length+AG i2.1) i2.2;[DA.one (DC.sl 161 E8 ((r.getD 7 (.int 0)).r)),DA.one (cI Z3)]=Eq.args i2/\Eq.pre i2/\(ifB ((decide (Z4<(0:Int)))) Z1 (∃ i3:Z2×Int,let Z5:=szR (i3.1.length+AG i3.1) i3.2;[DA.one (DC.sl 164 E7 ((r.getD 8 (.int 0)).r)),DA.one (cI Z4)]=Ep.args i3/\Ep.pre i3/\(ifB ((decide (Z5<(0:Int)))) Z1 (∃ i4:Z2×Int,let Z6:=szR (i4.1.length+AG i4.1) i4.2;[DA.one (DC.sl 172 [.int,.int] ((r.getD 9 (.int 0)).r)),DA.one (cI Z5)]=Eo.args i4/\Eo.pre i4/\(ifB ((decide (Z6<(0:Int)))) Z1 (∃ i5:Z2×Int,let Z7:=szR (i5.1.length+AG i5.1) i5.2;[DA.one (cS ((r.getD 10 (.int 0)).r)),DA.one (cI Z6)]=Bk.args i5/\Bk.pre i5/\(ifB ((decide (Z7<(0:Int)))) Z1 ((vI Z7=vI (szR (AE r) n))))))))))))) (by kernel_rfl) ?_
 conv=>zeta
 delta ifB vI
 obtain ⟨hh,h0,h1⟩:=hpre
 have hz:=NJ hh
 have hp:=Ii hh
 obtain ⟨p0,p1,p2,p3,p4,p5,p6,p7,p8,p9,p10⟩:=hp
 have f0:=Bz (((r.getD 6 (.int 0)).r).length+AG ((r.getD 6 (.int 0)).r)) (n)
 have f1:=Bz (((r.getD 7 (.int 0)).r).length+AG ((r.getD 7 (.int 0)).r)) (szR (((r.getD 6 (.int 0)).r).length+AG ((r.getD 6 (.int 0)).r)) (n))
 have f2:=Bz (((r.getD 8 (.int 0)).r).length+AG ((r.getD 8 (.int 0)).r)) (szR (((r.getD 7 (.int 0)).r).length+AG ((r.getD 7 (.int 0)).r)) (szR (((r.getD 6 (.int 0)).r).length+AG ((r.getD 6 (.int 0)).r)) (n)))
 have f3:=Bz (((r.getD 9 (.int 0)).r).length+AG ((r.getD 9 (.int 0)).r)) (szR (((r.getD 8 (.int 0)).r).length+AG ((r.getD 8 (.int 0)).r)) (szR (((r.getD 7 (.int 0)).r).length+AG ((r.getD 7 (.int 0)).r)) (szR (((r.getD 6 (.int 0)).r).length+AG ((r.getD 6 (.int 0)).r)) (n))))
 have f4:=Bz (((r.getD 10 (.int 0)).r).length+AG ((r.getD 10 (.int 0)).r)) (szR (((r.getD 9 (.int 0)).r).length+AG ((r.getD 9 (.int 0)).r)) (szR (((r.getD 8 (.int 0)).r).length+AG ((r.getD 8 (.int 0)).r)) (szR (((r.getD 7 (.int 0)).r).length+AG ((r.getD 7 (.int 0)).r)) (szR (((r.getD 6 (.int 0)).r).length+AG ((r.getD 6 (.int 0)).r)) (n)))))
 have ft:=Bz (AE r) n
 refine ⟨(((r.getD 6 (.int 0)).r),n),by
  rfl,by
  show Dat.has (.sl 24 [.sl 23 [.int,.int]]) (.sl ((r.getD 6 (.int 0)).r))/\0<=n/\n<=1048576
  refine ⟨?_,?_,?_⟩ <;> (try dsimp only) <;> first|assumption|omega|exact ⟨⟩,?_⟩
 refine ⟨λ c4=>?_,λ c4=>?_⟩
 ·try simp only [nrm] at c4
  refine AK ?_;try dsimp only
  omega
 try simp only [nrm] at c4
 refine ⟨(((r.getD 7 (.int 0)).r),(szR (((r.getD 6 (.int 0)).r).length+AG ((r.getD 6 (.int 0)).r)) n)),by
  rfl,by
  try dsimp only [Eq]
  refine ⟨?_,?_,?_⟩ <;> (try dsimp only) <;> first|assumption|omega|exact ⟨⟩,?_⟩
 refine ⟨λ c9=>?_,λ c9=>?_⟩
 ·try simp only [nrm] at c9
  refine AK ?_;try dsimp only
  omega
 try simp only [nrm] at c9
 refine ⟨(((r.getD 8 (.int 0)).r),(szR (((r.getD 7 (.int 0)).r).length+AG ((r.getD 7 (.int 0)).r)) (szR (((r.getD 6 (.int 0)).r).length+AG ((r.getD 6 (.int 0)).r)) n))),by
  rfl,by
  try dsimp only [Ep]
  refine ⟨?_,?_,?_⟩ <;> (try dsimp only) <;> first|assumption|omega|exact ⟨⟩,?_⟩
 refine ⟨λ c14=>?_,λ c14=>?_⟩
 ·try dsimp only at c14
  try simp only [nrm] at c14
  refine AK ?_;try dsimp only
  omega
 try dsimp only at c14
 try simp only [nrm] at c14
 refine ⟨(((r.getD 9 (.int 0)).r),(szR (((r.getD 8 (.int 0)).r).length+AG ((r.getD 8 (.int 0)).r)) (szR (((r.getD 7 (.int 0)).r).length+AG ((r.getD 7 (.int 0)).r)) (szR (((r.getD 6 (.int 0)).r).length+AG ((r.getD 6 (.int 0)).r)) n)))),by
  rfl,by
  try dsimp only [Eo]
  refine ⟨?_,?_,?_⟩ <;> (try dsimp only) <;> first|assumption|omega|exact ⟨⟩,?_⟩
 refine ⟨λ c19=>?_,λ c19=>?_⟩
 ·try dsimp only at c19
  try simp only [nrm] at c19
  refine AK ?_;try dsimp only
  omega
 try dsimp only at c19
 try simp only [nrm] at c19
 refine ⟨(((r.getD 10 (.int 0)).r),(szR (((r.getD 9 (.int 0)).r).length+AG ((r.getD 9 (.int 0)).r)) (szR (((r.getD 8 (.int 0)).r).length+AG ((r.getD 8 (.int 0)).r)) (szR (((r.getD 7 (.int 0)).r).length+AG ((r.getD 7 (.int 0)).r)) (szR (((r.getD 6 (.int 0)).r).length+AG ((r.getD 6 (.int 0)).r)) n))))),by
  rfl,by
  try dsimp only [Bk]
  refine ⟨?_,?_,?_⟩ <;> (try dsimp only) <;> first|assumption|omega|exact ⟨⟩,?_⟩
 refine ⟨λ c24=>?_,λ c24=>?_⟩
 ·try dsimp only at c24
  try simp only [nrm] at c24
  refine AK ?_;try dsimp only
  omega
 try dsimp only at c24
 try simp only [nrm] at c24
 show Value.int .i64 (szR (((r.getD 10 (.int 0)).r).length+AG ((r.getD 10 (.int 0)).r)) (szR (((r.getD 9 (.int 0)).r).length+AG ((r.getD 9 (.int 0)).r)) (szR (((r.getD 8 (.int 0)).r).length+AG ((r.getD 8 (.int 0)).r)) (szR (((r.getD 7 (.int 0)).r).length+AG ((r.getD 7 (.int 0)).r)) (szR (((r.getD 6 (.int 0)).r).length+AG ((r.getD 6 (.int 0)).r)) n)))))=Value.int .i64 (szR (AE r) n)
 refine AK ?_;try dsimp only
 omega
def BK:Con:={ ι:=(List Dat),pre:=λ i=>hasRow [.int,.bool,.int,.int,.int,.int,.sl 24 [.sl 23 [.int,.int]],.sl 161 [.bool,.sl 3 [.int],.sl 3 [.int],.bool,.sl 3 [.int],.sl 3 [.int],.bool,.sl 3 [.int],.sl 3 [.int],.bool,.sl 3 [.int],.sl 3 [.int],.bool,.sl 3 [.int],.sl 3 [.int],.bool,.sl 3 [.int],.sl 3 [.int]],.sl 164 [.bool,.sl 3 [.int],.sl 3 [.int],.bool,.sl 3 [.int],.sl 3 [.int],.bool,.sl 3 [.int],.sl 3 [.int]],.sl 172 [.int,.int],.sl 3 [.int]] i/\AE i<=1048576,args:=λ i=>[w34 i],res:=λ i=>⟨false,[some 11],[rcI ((i.getD 0 (.int 0)).n),rcB ((i.getD 1 (.int 0)).b),rcI ((i.getD 2 (.int 0)).n),rcI ((i.getD 3 (.int 0)).n),rcI ((i.getD 4 (.int 0)).n),rcI ((i.getD 5 (.int 0)).n),.own 40 [.sl 39 [.int,.int]] ((i.getD 6 (.int 0)).r),.own 158 [.bool,.sl 3 [.int],.sl 3 [.int],.bool,.sl 3 [.int],.sl 3 [.int],.bool,.sl 3 [.int],.sl 3 [.int],.bool,.sl 3 [.int],.sl 3 [.int],.bool,.sl 3 [.int],.sl 3 [.int],.bool,.sl 3 [.int],.sl 3 [.int]] ((i.getD 7 (.int 0)).r),.own 153 [.bool,.sl 3 [.int],.sl 3 [.int],.bool,.sl 3 [.int],.sl 3 [.int],.bool,.sl 3 [.int],.sl 3 [.int]] ((i.getD 8 (.int 0)).r),.own 168 [.int,.int] ((i.getD 9 (.int 0)).r),.own 3 [.int] ((i.getD 10 (.int 0)).r)]⟩ }
theorem Sj:BK.Ok Tryz.prog 12:=by
 refine fok (X:=⟨tt,[(28,Gs),(29,C0),(62,Es),(63,Er),(64,Fw),(65,HQ)],[],35,[]⟩) AI AF (CTok.cons W6 (CTok.cons NG (CTok.cons Sg (CTok.cons Se (CTok.cons Sc (CTok.cons VE (CTok.nil _))))))) Tryz.func12 (λ _=>[]) ?_
 intro (r:List Dat) hpre
 have hpre:hasRow [.int,.bool,.int,.int,.int,.int,.sl 24 [.sl 23 [.int,.int]],.sl 161 [.bool,.sl 3 [.int],.sl 3 [.int],.bool,.sl 3 [.int],.sl 3 [.int],.bool,.sl 3 [.int],.sl 3 [.int],.bool,.sl 3 [.int],.sl 3 [.int],.bool,.sl 3 [.int],.sl 3 [.int],.bool,.sl 3 [.int],.sl 3 [.int]],.sl 164 [.bool,.sl 3 [.int],.sl 3 [.int],.bool,.sl 3 [.int],.sl 3 [.int],.bool,.sl 3 [.int],.sl 3 [.int]],.sl 172 [.int,.int],.sl 3 [.int]] r/\AE r<=1048576:=hpre
 refine AH (q:=let Z1:=List (List Dat);∃ i1:(List Dat),[DA.agg [cI ((r.getD 2 (.int 0)).n),cI ((r.getD 3 (.int 0)).n),cI ((r.getD 4 (.int 0)).n),cI ((r.getD 5 (.int 0)).n)]]=Gs.args i1/\Gs.pre i1/\(∃ i2:Z1,[DA.one (DC.sl 24 [.sl 23 [.int,.int]] ((r.getD 6 (.int 0)).r))]=C0.args i2/\C0.pre i2/\(∃ i3:Z1,[DA.one (DC.sl 161 E8 ((r.getD 7 (.int 0)).r))]=Es.args i3/\Es.pre i3/\(∃ i4:Z1,[DA.one (DC.sl 164 E7 ((r.getD 8 (.int 0)).r))]=Er.args i4/\Er.pre i4/\(∃ i5:Z1,[DA.one (DC.sl 172 [.int,.int] ((r.getD 9 (.int 0)).r))]=Fw.args i5/\Fw.pre i5/\(∃ i6:Z1,[DA.one (cS ((r.getD 10 (.int 0)).r))]=HQ.args i6/\HQ.pre i6/\((vI ((r.getD 0 (.int 0)).n)=vI ((r.getD 0 (.int 0)).n))/\(vB ((r.getD 1 (.int 0)).b)=vB ((r.getD 1 (.int 0)).b))/\(vI ((i1.getD 0 (.int 0)).n)=vI ((r.getD 2 (.int 0)).n))/\(vI ((i1.getD 1 (.int 0)).n)=vI ((r.getD 3 (.int 0)).n))/\(vI ((i1.getD 2 (.int 0)).n)=vI ((r.getD 4 (.int 0)).n))/\(vI ((i1.getD 3 (.int 0)).n)=vI ((r.getD 5 (.int 0)).n))/\(i2=(r.getD 6 (.int 0)).r)/\(i3=(r.getD 7 (.int 0)).r)/\(i4=(r.getD 8 (.int 0)).r)/\(i5=(r.getD 9 (.int 0)).r)/\(i6=(r.getD 10 (.int 0)).r)))))))) (by kernel_rfl) ?_
 conv=>zeta
 delta vB vI
 have hz:=NJ hpre.1
 have hs:=hpre.2
 have hp:=Ii hpre.1
 obtain ⟨p0,p1,p2,p3,p4,p5,p6,p7,p8,p9,p10⟩:=hp
 refine ⟨([Dat.int ((r.getD 2 (.int 0)).n),Dat.int ((r.getD 3 (.int 0)).n),Dat.int ((r.getD 4 (.int 0)).n),Dat.int ((r.getD 5 (.int 0)).n)]:List Dat),by
  rfl,by
  try dsimp only [Gs]
  simp [hasRow,Dat.has,AE,Dat.sz];done,?_⟩
 refine ⟨((r.getD 6 (.int 0)).r),by
  rfl,by
  show ((r.getD 6 (.int 0)).r).length+AG ((r.getD 6 (.int 0)).r)<=1048576
  omega,?_⟩
 refine ⟨((r.getD 7 (.int 0)).r),by
  rfl,by
  try dsimp only [Es]
  exact ⟨p7,by omega⟩,?_⟩
 refine ⟨((r.getD 8 (.int 0)).r),by
  rfl,by
  try dsimp only [Er]
  exact ⟨p8,by omega⟩,?_⟩
 refine ⟨((r.getD 9 (.int 0)).r),by
  rfl,by
  show Dat.has (.sl 172 [.int,.int]) (.sl ((r.getD 9 (.int 0)).r))/\((r.getD 9 (.int 0)).r).length+AG ((r.getD 9 (.int 0)).r)<=1048576
  exact ⟨p9,by omega⟩,?_⟩
 refine ⟨((r.getD 10 (.int 0)).r),by
  rfl,by
  show ((r.getD 10 (.int 0)).r).length+AG ((r.getD 10 (.int 0)).r)<=1048576
  omega,?_⟩
 refine ⟨rfl,rfl,?_,?_,?_,?_,rfl,rfl,rfl,rfl,rfl⟩
 ·rfl
 ·rfl
 ·rfl
 rfl
def Eu:Con:={ ι:=(List Dat),pre:=λ i=>hasRow [.int,.bool,.int,.int,.int,.int,.sl 24 [.sl 23 [.int,.int]],.sl 161 [.bool,.sl 3 [.int],.sl 3 [.int],.bool,.sl 3 [.int],.sl 3 [.int],.bool,.sl 3 [.int],.sl 3 [.int],.bool,.sl 3 [.int],.sl 3 [.int],.bool,.sl 3 [.int],.sl 3 [.int],.bool,.sl 3 [.int],.sl 3 [.int]],.sl 164 [.bool,.sl 3 [.int],.sl 3 [.int],.bool,.sl 3 [.int],.sl 3 [.int],.bool,.sl 3 [.int],.sl 3 [.int]],.sl 172 [.int,.int],.sl 3 [.int]] i,args:=λ i=>[w50 i,w50 i],res:=λ i=>⟨false,[none],[rcB true]⟩ }
theorem Sk:Eu.Ok Tryz.prog 16:=by
 refine fok (X:=⟨tt,[(73,JA),(32,Cz),(47,Fz),(40,Fy),(74,Fx),(14,By)],[],51,[]⟩) AI AF (CTok.cons W7 (CTok.cons NF (CTok.cons Sh (CTok.cons Sf (CTok.cons Sd (CTok.cons Od (CTok.nil _))))))) Tryz.func16 (λ _=>[]) ?_
 intro (r:List Dat) hpre
 have hpre:hasRow [.int,.bool,.int,.int,.int,.int,.sl 24 [.sl 23 [.int,.int]],.sl 161 [.bool,.sl 3 [.int],.sl 3 [.int],.bool,.sl 3 [.int],.sl 3 [.int],.bool,.sl 3 [.int],.sl 3 [.int],.bool,.sl 3 [.int],.sl 3 [.int],.bool,.sl 3 [.int],.sl 3 [.int],.bool,.sl 3 [.int],.sl 3 [.int]],.sl 164 [.bool,.sl 3 [.int],.sl 3 [.int],.bool,.sl 3 [.int],.sl 3 [.int],.bool,.sl 3 [.int],.sl 3 [.int]],.sl 172 [.int,.int],.sl 3 [.int]] r:=hpre
 refine AH (q:=let Z7:=cS ((r.getD 10 (.int 0)).r);let Z6:=DC.sl 153 E7 ((r.getD 8 (.int 0)).r);let Z5:=DC.sl 158 E8 ((r.getD 7 (.int 0)).r);let Z4:=DC.sl 168 [.int,.int] ((r.getD 9 (.int 0)).r);let Z3:=DC.sl 40 [.sl 39 [.int,.int]] ((r.getD 6 (.int 0)).r);let Z2:=List (List Dat);let Z1:=(vB false=vB true);ifB ((((r.getD 0 (.int 0)).n) != ((r.getD 0 (.int 0)).n))) Z1 (ifB ((((r.getD 1 (.int 0)).b) != ((r.getD 1 (.int 0)).b))) Z1 (∃ i1:(List Dat),[DA.agg [cI ((r.getD 2 (.int 0)).n),cI ((r.getD 3 (.int 0)).n),cI ((r.getD 4 (.int 0)).n),cI ((r.getD 5 (.int 0)).n)],DA.agg [cI ((r.getD 2 (.int 0)).n),cI ((r.getD 3 (.int 0)).n),cI ((r.getD 4 (.int 0)).n),cI ((r.getD 5 (.int 0)).n)]]=JA.args i1/\JA.pre i1/\(ifB ((!true)) Z1 (∃ i2:Z2,[DA.one Z3,DA.one Z3]=Cz.args i2/\Cz.pre i2/\(ifB ((!true)) Z1 (∃ i3:Z2,[DA.one Z5,DA.one Z5]=Fz.args i3/\Fz.pre i3/\(ifB ((!true)) Z1 (∃ i4:Z2,[DA.one Z6,DA.one Z6]=Fy.args i4/\Fy.pre i4/\(ifB ((!true)) Z1 (∃ i5:Z2,[DA.one Z4,DA.one Z4]=Fx.args i5/\Fx.pre i5/\(ifB ((!true)) Z1 (∃ i6:Z2,[DA.one Z7,DA.one Z7]=By.args i6/\By.pre i6/\(ifB ((!true)) Z1 ((vB true=vB true)))))))))))))))) (by kernel_rfl) ?_
 conv=>zeta
 delta ifB vB
 have hp:=Ii hpre
 obtain ⟨p0,p1,p2,p3,p4,p5,p6,p7,p8,p9,p10⟩:=hp
 refine ⟨λ c1=>?_,λ c1=>?_⟩
 ·try simp only [nrm] at c1
  exfalso;simp_all;done
 try simp only [nrm] at c1
 refine ⟨λ c3=>?_,λ c3=>?_⟩
 ·try simp only [nrm] at c3
  exfalso;simp_all;done
 try simp only [nrm] at c3
 refine ⟨([Dat.int ((r.getD 2 (.int 0)).n),Dat.int ((r.getD 3 (.int 0)).n),Dat.int ((r.getD 4 (.int 0)).n),Dat.int ((r.getD 5 (.int 0)).n)]:List Dat),by
  rfl,by
  trivial,?_⟩
 refine ⟨λ c8=>?_,λ c8=>?_⟩
 ·try simp only [nrm] at c8
  exfalso;simp_all;done
 try simp only [nrm] at c8
 refine ⟨((r.getD 6 (.int 0)).r),by
  rfl,by
  trivial,?_⟩
 refine ⟨λ c13=>?_,λ c13=>?_⟩
 ·try simp only [nrm] at c13
  exfalso;simp_all;done
 try simp only [nrm] at c13
 refine ⟨((r.getD 7 (.int 0)).r),by
  rfl,by
  exact Cr p7,?_⟩
 refine ⟨λ c18=>?_,λ c18=>?_⟩
 ·try simp only [nrm] at c18
  exfalso;simp_all;done
 try simp only [nrm] at c18
 refine ⟨((r.getD 8 (.int 0)).r),by
  rfl,by
  exact Cr p8,?_⟩
 refine ⟨λ c23=>?_,λ c23=>?_⟩
 ·try simp only [nrm] at c23
  exfalso;simp_all;done
 try simp only [nrm] at c23
 refine ⟨((r.getD 9 (.int 0)).r),by
  rfl,by
  exact Cr p9,?_⟩
 refine ⟨λ c28=>?_,λ c28=>?_⟩
 ·try simp only [nrm] at c28
  exfalso;simp_all;done
 try simp only [nrm] at c28
 refine ⟨((r.getD 10 (.int 0)).r),by
  rfl,by
  trivial,?_⟩
 refine ⟨λ c33=>?_,λ c33=>?_⟩
 ·try simp only [nrm] at c33
  exfalso;simp_all;done
 try simp only [nrm] at c33
 exact rfl
theorem Q8 {r:List Dat} (h:hasRow [.int,.int,.int,.int,.sl 23 [.int,.int],.sl 24 [.sl 23 [.int,.int]],.sl 23 [.int,.int]] r):r=[.int (r.getD 0 (.int 0)).n,.int (r.getD 1 (.int 0)).n,.int (r.getD 2 (.int 0)).n,.int (r.getD 3 (.int 0)).n,.sl (r.getD 4 (.int 0)).r,.sl (r.getD 5 (.int 0)).r,.sl (r.getD 6 (.int 0)).r]:=by
 obtain ⟨_,_,rfl,q0,h0⟩:=h.cons
 obtain ⟨_,rfl⟩:=Dat.has_int q0
 obtain ⟨_,_,rfl,q1,h1⟩:=h0.cons
 obtain ⟨_,rfl⟩:=Dat.has_int q1
 obtain ⟨_,_,rfl,q2,h2⟩:=h1.cons
 obtain ⟨_,rfl⟩:=Dat.has_int q2
 obtain ⟨_,_,rfl,q3,h3⟩:=h2.cons
 obtain ⟨_,rfl⟩:=Dat.has_int q3
 obtain ⟨_,_,rfl,q4,h4⟩:=h3.cons
 obtain ⟨_,rfl⟩:=Dat.has_sl q4
 obtain ⟨_,_,rfl,q5,h5⟩:=h4.cons
 obtain ⟨_,rfl⟩:=Dat.has_sl q5
 obtain ⟨_,_,rfl,q6,h6⟩:=h5.cons
 obtain ⟨_,rfl⟩:=Dat.has_sl q6
 obtain rfl:=hasRow.nil h6
 rfl
theorem Q9 {r:List Dat} (h:hasRow [.int,.int,.int,.int,.sl 23 [.int,.int],.sl 24 [.sl 23 [.int,.int]],.sl 23 [.int,.int]] r):AE r=(((r.getD 4 (.int 0)).r).length+AG ((r.getD 4 (.int 0)).r))+(((r.getD 5 (.int 0)).r).length+AG ((r.getD 5 (.int 0)).r))+(((r.getD 6 (.int 0)).r).length+AG ((r.getD 6 (.int 0)).r)):=by
 conv=>lhs;rw [Q8 h]
 simp only [AE,Dat.sz]
 omega
theorem NK {r:List Dat} (h:hasRow [.int,.int,.int,.int,.sl 23 [.int,.int],.sl 24 [.sl 23 [.int,.int]],.sl 23 [.int,.int]] r):Dat.has .int (.int (r.getD 0 (.int 0)).n)/\Dat.has .int (.int (r.getD 1 (.int 0)).n)/\Dat.has .int (.int (r.getD 2 (.int 0)).n)/\Dat.has .int (.int (r.getD 3 (.int 0)).n)/\Dat.has (.sl 23 [.int,.int]) (.sl (r.getD 4 (.int 0)).r)/\Dat.has (.sl 24 [.sl 23 [.int,.int]]) (.sl (r.getD 5 (.int 0)).r)/\Dat.has (.sl 23 [.int,.int]) (.sl (r.getD 6 (.int 0)).r):=by
 rw [Q8 h] at h
 simpa only [hasRow,and_true] using h
def F0:Con:={ ι:=(List Dat)×Int,pre:=λ i=>hasRow [.int,.int,.int,.int,.sl 23 [.int,.int],.sl 24 [.sl 23 [.int,.int]],.sl 23 [.int,.int]] i.1/\0<=i.2/\i.2<=1048576,args:=λ i=>[w26 i.1,.one (cI i.2)],res:=λ i=>⟨false,[none],[rcI (szR (AE i.1) i.2)]⟩ }
theorem Sl:F0.Ok Tryz.prog 8:=by
 refine fok (X:=⟨tt,[(50,CI),(26,CZ)],[],24,[]⟩) AI AF (CTok.cons Oc (CTok.cons NI (CTok.nil _))) Tryz.func8 (λ _=>[]) ?_
 rintro ⟨r,n⟩ hpre
 have hpre:hasRow [.int,.int,.int,.int,.sl 23 [.int,.int],.sl 24 [.sl 23 [.int,.int]],.sl 23 [.int,.int]] r/\0<=n/\n<=1048576:=hpre
 refine AH (q:=let Z5:=List (List Dat);let Z1:=(vI (-1:Int)=vI (szR (AE r) n));∃ i1:Z5×Int,let Z2:=szR (i1.1.length+AG i1.1) i1.2;[DA.one (DC.sl 23 [.int,.int] ((r.getD 4 (.int 0)).r)),DA.one (cI n)]=CI.args i1/\CI.pre i1/\(ifB ((decide (Z2<(0:Int)))) Z1 (∃ i2:Z5×Int,let Z3:=szR (i2.1.length+AG i2.1) i2.2;[DA.one (DC.sl 24 [.sl 23 [.int,.int]] ((r.getD 5 (.int 0)).r)),DA.one (cI Z2)]=CZ.args i2/\CZ.pre i2/\(ifB ((decide (Z3<(0:Int)))) Z1 (∃ i3:Z5×Int,let Z4:=szR (i3.1.length+AG i3.1) i3.2;[DA.one (DC.sl 23 [.int,.int] ((r.getD 6 (.int 0)).r)),DA.one (cI Z3)]=CI.args i3/\CI.pre i3/\(ifB ((decide (Z4<(0:Int)))) Z1 ((vI Z4=vI (szR (AE r) n))))))))) (by kernel_rfl) ?_
 conv=>zeta
 delta ifB vI
 obtain ⟨hh,h0,h1⟩:=hpre
 have hz:=Q9 hh
 have hp:=NK hh
 obtain ⟨p0,p1,p2,p3,p4,p5,p6⟩:=hp
 have f0:=Bz (((r.getD 4 (.int 0)).r).length+AG ((r.getD 4 (.int 0)).r)) (n)
 have f1:=Bz (((r.getD 5 (.int 0)).r).length+AG ((r.getD 5 (.int 0)).r)) (szR (((r.getD 4 (.int 0)).r).length+AG ((r.getD 4 (.int 0)).r)) (n))
 have f2:=Bz (((r.getD 6 (.int 0)).r).length+AG ((r.getD 6 (.int 0)).r)) (szR (((r.getD 5 (.int 0)).r).length+AG ((r.getD 5 (.int 0)).r)) (szR (((r.getD 4 (.int 0)).r).length+AG ((r.getD 4 (.int 0)).r)) (n)))
 have ft:=Bz (AE r) n
 refine ⟨(((r.getD 4 (.int 0)).r),n),by
  rfl,by
  show Dat.has (.sl 39 [.int,.int]) (.sl ((r.getD 4 (.int 0)).r))/\0<=n/\n<=1048576
  refine ⟨?_,?_,?_⟩ <;> (try dsimp only) <;> first|assumption|omega|exact ⟨⟩,?_⟩
 refine ⟨λ c4=>?_,λ c4=>?_⟩
 ·try simp only [nrm] at c4
  refine AK ?_;try dsimp only
  omega
 try simp only [nrm] at c4
 refine ⟨(((r.getD 5 (.int 0)).r),(szR (((r.getD 4 (.int 0)).r).length+AG ((r.getD 4 (.int 0)).r)) n)),by
  rfl,by
  try dsimp only [CZ]
  refine ⟨?_,?_,?_⟩ <;> (try dsimp only) <;> first|assumption|omega|exact ⟨⟩,?_⟩
 refine ⟨λ c9=>?_,λ c9=>?_⟩
 ·try simp only [nrm] at c9
  refine AK ?_;try dsimp only
  omega
 try simp only [nrm] at c9
 refine ⟨(((r.getD 6 (.int 0)).r),(szR (((r.getD 5 (.int 0)).r).length+AG ((r.getD 5 (.int 0)).r)) (szR (((r.getD 4 (.int 0)).r).length+AG ((r.getD 4 (.int 0)).r)) n))),by
  rfl,by
  try dsimp only [CI]
  refine ⟨?_,?_,?_⟩ <;> (try dsimp only) <;> first|assumption|omega|exact ⟨⟩,?_⟩
 refine ⟨λ c14=>?_,λ c14=>?_⟩
 ·try dsimp only at c14
  try simp only [nrm] at c14
  refine AK ?_;try dsimp only
  omega
 try dsimp only at c14
 try simp only [nrm] at c14
 show Value.int .i64 (szR (((r.getD 6 (.int 0)).r).length+AG ((r.getD 6 (.int 0)).r)) (szR (((r.getD 5 (.int 0)).r).length+AG ((r.getD 5 (.int 0)).r)) (szR (((r.getD 4 (.int 0)).r).length+AG ((r.getD 4 (.int 0)).r)) n)))=Value.int .i64 (szR (AE r) n)
 refine AK ?_;try dsimp only
 omega
def Br:Con:={ ι:=(List Dat),pre:=λ i=>hasRow [.int,.int,.int,.int,.sl 23 [.int,.int],.sl 24 [.sl 23 [.int,.int]],.sl 23 [.int,.int]] i/\AE i<=1048576,args:=λ i=>[w26 i],res:=λ i=>⟨false,[some 7],[rcI ((i.getD 0 (.int 0)).n),rcI ((i.getD 1 (.int 0)).n),rcI ((i.getD 2 (.int 0)).n),rcI ((i.getD 3 (.int 0)).n),.own 39 [.int,.int] ((i.getD 4 (.int 0)).r),.own 40 [.sl 39 [.int,.int]] ((i.getD 5 (.int 0)).r),.own 39 [.int,.int] ((i.getD 6 (.int 0)).r)]⟩ }
theorem Sm:Br.Ok Tryz.prog 11:=by
 refine fok (X:=⟨tt,[(60,CU),(61,EN),(29,C0)],[],25,[]⟩) AI AF (CTok.cons Q6 (CTok.cons VG (CTok.cons NG (CTok.nil _)))) Tryz.func11 (λ _=>[]) ?_
 intro (r:List Dat) hpre
 have hpre:hasRow [.int,.int,.int,.int,.sl 23 [.int,.int],.sl 24 [.sl 23 [.int,.int]],.sl 23 [.int,.int]] r/\AE r<=1048576:=hpre
 refine AH (q:=let Z1:=List (List Dat);∃ i1:(Int×Int),[DA.agg [cI ((r.getD 0 (.int 0)).n),cI ((r.getD 1 (.int 0)).n)]]=CU.args i1/\CU.pre i1/\(∃ i2:(Int×Int),[DA.agg [cI ((r.getD 2 (.int 0)).n),cI ((r.getD 3 (.int 0)).n)]]=CU.args i2/\CU.pre i2/\(∃ i3:Z1,[DA.one (DC.sl 23 [.int,.int] ((r.getD 4 (.int 0)).r))]=EN.args i3/\EN.pre i3/\(∃ i4:Z1,[DA.one (DC.sl 24 [.sl 23 [.int,.int]] ((r.getD 5 (.int 0)).r))]=C0.args i4/\C0.pre i4/\(∃ i5:Z1,[DA.one (DC.sl 23 [.int,.int] ((r.getD 6 (.int 0)).r))]=EN.args i5/\EN.pre i5/\((vI i1.1=vI ((r.getD 0 (.int 0)).n))/\(vI i1.2=vI ((r.getD 1 (.int 0)).n))/\(vI i2.1=vI ((r.getD 2 (.int 0)).n))/\(vI i2.2=vI ((r.getD 3 (.int 0)).n))/\(i3=(r.getD 4 (.int 0)).r)/\(i4=(r.getD 5 (.int 0)).r)/\(i5=(r.getD 6 (.int 0)).r))))))) (by kernel_rfl) ?_
 conv=>zeta
 delta vI
 have hz:=Q9 hpre.1
 have hs:=hpre.2
 have hp:=NK hpre.1
 obtain ⟨p0,p1,p2,p3,p4,p5,p6⟩:=hp
 refine ⟨(((r.getD 0 (.int 0)).n),((r.getD 1 (.int 0)).n)),by
  rfl,by
  show AE [.int (((r.getD 0 (.int 0)).n),((r.getD 1 (.int 0)).n)).1,.int (((r.getD 0 (.int 0)).n),((r.getD 1 (.int 0)).n)).2]<=1048576
  first|trivial|omega|(dsimp only;omega)|exact ⟨p4,by omega⟩|exact ⟨p5,by omega⟩|exact ⟨p6,by omega⟩|(simp [AE,Dat.sz];done)|(simp [hasRow,Dat.has,AE,Dat.sz];done),?_⟩
 refine ⟨(((r.getD 2 (.int 0)).n),((r.getD 3 (.int 0)).n)),by
  rfl,by
  show AE [.int (((r.getD 2 (.int 0)).n),((r.getD 3 (.int 0)).n)).1,.int (((r.getD 2 (.int 0)).n),((r.getD 3 (.int 0)).n)).2]<=1048576
  first|trivial|omega|(dsimp only;omega)|exact ⟨p4,by omega⟩|exact ⟨p5,by omega⟩|exact ⟨p6,by omega⟩|(simp [AE,Dat.sz];done)|(simp [hasRow,Dat.has,AE,Dat.sz];done),?_⟩
 refine ⟨((r.getD 4 (.int 0)).r),by
  rfl,by
  show ((r.getD 4 (.int 0)).r).length+AG ((r.getD 4 (.int 0)).r)<=1048576
  first|trivial|omega|(dsimp only;omega)|exact ⟨p4,by omega⟩|exact ⟨p5,by omega⟩|exact ⟨p6,by omega⟩|(simp [AE,Dat.sz];done)|(simp [hasRow,Dat.has,AE,Dat.sz];done),?_⟩
 refine ⟨((r.getD 5 (.int 0)).r),by
  rfl,by
  show ((r.getD 5 (.int 0)).r).length+AG ((r.getD 5 (.int 0)).r)<=1048576
  first|trivial|omega|(dsimp only;omega)|exact ⟨p4,by omega⟩|exact ⟨p5,by omega⟩|exact ⟨p6,by omega⟩|(simp [AE,Dat.sz];done)|(simp [hasRow,Dat.has,AE,Dat.sz];done),?_⟩
 refine ⟨((r.getD 6 (.int 0)).r),by
  rfl,by
  show ((r.getD 6 (.int 0)).r).length+AG ((r.getD 6 (.int 0)).r)<=1048576
  first|trivial|omega|(dsimp only;omega)|exact ⟨p4,by omega⟩|exact ⟨p5,by omega⟩|exact ⟨p6,by omega⟩|(simp [AE,Dat.sz];done)|(simp [hasRow,Dat.has,AE,Dat.sz];done),?_⟩
 refine ⟨?_,?_,?_,?_,rfl,rfl,rfl⟩
 ·rfl
 ·rfl
 ·rfl
 rfl
def F1:Con:={ ι:=(List Dat),pre:=λ i=>True,args:=λ i=>[w42 i,w42 i],res:=λ i=>⟨false,[none],[rcB true]⟩ }
theorem Sn:F1.Ok Tryz.prog 15:=by
 refine fok (X:=⟨tt,[(71,CV),(72,EM),(32,Cz)],[],35,[]⟩) AI AF (CTok.cons Q7 (CTok.cons VF (CTok.cons NF (CTok.nil _)))) Tryz.func15 (λ _=>[]) ?_
 intro (r:List Dat) hpre
 have hpre:True:=hpre
 refine AH (q:=let Z5:=List (List Dat);let Z4:=DC.sl 39 [.int,.int] ((r.getD 6 (.int 0)).r);let Z3:=DC.sl 39 [.int,.int] ((r.getD 4 (.int 0)).r);let Z2:=DC.sl 40 [.sl 39 [.int,.int]] ((r.getD 5 (.int 0)).r);let Z1:=(vB false=vB true);∃ i1:(Int×Int),[DA.agg [cI ((r.getD 0 (.int 0)).n),cI ((r.getD 1 (.int 0)).n)],DA.agg [cI ((r.getD 0 (.int 0)).n),cI ((r.getD 1 (.int 0)).n)]]=CV.args i1/\CV.pre i1/\(ifB ((!true)) Z1 (∃ i2:(Int×Int),[DA.agg [cI ((r.getD 2 (.int 0)).n),cI ((r.getD 3 (.int 0)).n)],DA.agg [cI ((r.getD 2 (.int 0)).n),cI ((r.getD 3 (.int 0)).n)]]=CV.args i2/\CV.pre i2/\(ifB ((!true)) Z1 (∃ i3:Z5,[DA.one Z3,DA.one Z3]=EM.args i3/\EM.pre i3/\(ifB ((!true)) Z1 (∃ i4:Z5,[DA.one Z2,DA.one Z2]=Cz.args i4/\Cz.pre i4/\(ifB ((!true)) Z1 (∃ i5:Z5,[DA.one Z4,DA.one Z4]=EM.args i5/\EM.pre i5/\(ifB ((!true)) Z1 ((vB true=vB true)))))))))))) (by kernel_rfl) ?_
 conv=>zeta
 delta ifB vB
 refine ⟨(((r.getD 0 (.int 0)).n),((r.getD 1 (.int 0)).n)),by
  rfl,by
  first|trivial|(first|omega|assumption|exact hpre.1|exact hpre.2|(simp;done)),?_⟩
 refine ⟨λ c4=>?_,λ c4=>?_⟩
 ·try simp only [nrm] at c4
  exfalso;simp_all;done
 try simp only [nrm] at c4
 refine ⟨(((r.getD 2 (.int 0)).n),((r.getD 3 (.int 0)).n)),by
  rfl,by
  first|trivial|(first|omega|assumption|exact hpre.1|exact hpre.2|(simp;done)),?_⟩
 refine ⟨λ c9=>?_,λ c9=>?_⟩
 ·try simp only [nrm] at c9
  exfalso;simp_all;done
 try simp only [nrm] at c9
 refine ⟨((r.getD 4 (.int 0)).r),by
  rfl,by
  first|trivial|(first|omega|assumption|exact hpre.1|exact hpre.2|(simp;done)),?_⟩
 refine ⟨λ c14=>?_,λ c14=>?_⟩
 ·try simp only [nrm] at c14
  exfalso;simp_all;done
 try simp only [nrm] at c14
 refine ⟨((r.getD 5 (.int 0)).r),by
  rfl,by
  first|trivial|(first|omega|assumption|exact hpre.1|exact hpre.2|(simp;done)),?_⟩
 refine ⟨λ c19=>?_,λ c19=>?_⟩
 ·try simp only [nrm] at c19
  exfalso;simp_all;done
 try simp only [nrm] at c19
 refine ⟨((r.getD 6 (.int 0)).r),by
  rfl,by
  first|trivial|(first|omega|assumption|exact hpre.1|exact hpre.2|(simp;done)),?_⟩
 refine ⟨λ c24=>?_,λ c24=>?_⟩
 ·try simp only [nrm] at c24
  exfalso;simp_all;done
 try simp only [nrm] at c24
 exact rfl
end Go.Proofs.YtmedodfenejimaaGreat
