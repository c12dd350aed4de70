import Derived.Test.YtmedodfenejimaaGreatLkRkT
import Derived.Test.YtmedodfenejimaaGreatLkExD
import Derived.Test.YtmedodfenejimaaGreatLkTyB
import Derived.Test.YtmedodfenejimaaGreatLkTyH
namespace Go.Proofs.YtmedodfenejimaaGreat
set_option maxRecDepth 100000
set_option linter.unusedVariables false
set_option linter.unusedSimpArgs false
open Go.RowKit
def Aj:Con:={ ι:=(List (List Dat))×Int,pre:=λ i=>Dat.has (.sl 3 [.int]) (.sl i.1)/\0<=i.2/\i.2<=1048576,args:=λ i=>[.one (cS i.1),.one (cI i.2)],res:=λ i=>⟨false,[none],[rcI (szR (i.1.length+AA i.1) i.2)]⟩ }
theorem Fa:Aj.Ok Tryz.prog 54:=by
 refine fok (X:=⟨tt,[],[],12,[]⟩) mixed AH (CTok.nil _) Tryz.func54 (λ _=>[]) ?_
 rintro ⟨l,n⟩ hpre
 have hpre:Dat.has (.sl 3 [.int]) (.sl l)/\0<=n/\n<=1048576:=hpre
 refine AI (q:=let Z2:=wR (n-(nI l.length));let Z1:=szR (l.length+AA l) n;ifB ((decide (Z2<(0:Int)))) ((vI (-1:Int)=vI Z1)) ((vI Z2=vI Z1))) (by kernel_rfl) ?_
 conv=>zeta
 delta ifB vI wR nI
 obtain ⟨hh,h0,h1⟩:=hpre
 have hz:=Kf (by decide) hh
 simp only [Dat.has] at hh
 obtain ⟨hl,-⟩:=hh
 have hw:IntKind.i64.wrap (n-(l.length:Int))=n-l.length:=AD (by omega) (by omega)
 refine ⟨λ c1=>?_,λ c1=>?_⟩
 ·try simp only [nrm] at c1
  refine AF ?_;try rw [hw] at *;grind [szR]
 try simp only [nrm] at c1
 refine AF ?_;try rw [hw] at *;grind [szR]
def BV:Con:={ ι:=(List (List Dat))×Int,pre:=λ i=>Dat.has (.sl 39 [.int,.int]) (.sl i.1)/\0<=i.2/\i.2<=1048576,args:=λ i=>[.one (DC.sl 23 [.int,.int] i.1),.one (cI i.2)],res:=λ i=>⟨false,[none],[rcI (szR (i.1.length+AA i.1) i.2)]⟩ }
theorem Ly:BV.Ok Tryz.prog 50:=by
 refine fok (X:=⟨tt,[],[],12,[]⟩) mixed AH (CTok.nil _) Tryz.func50 (λ _=>[]) ?_
 rintro ⟨l,n⟩ hpre
 have hpre:Dat.has (.sl 39 [.int,.int]) (.sl l)/\0<=n/\n<=1048576:=hpre
 refine AI (q:=let Z2:=wR (n-(nI l.length));let Z1:=szR (l.length+AA l) n;ifB ((decide (Z2<(0:Int)))) ((vI (-1:Int)=vI Z1)) ((vI Z2=vI Z1))) (by kernel_rfl) ?_
 conv=>zeta
 delta ifB vI wR nI
 obtain ⟨hh,h0,h1⟩:=hpre
 have hz:=Kf (by decide) hh
 simp only [Dat.has] at hh
 obtain ⟨hl,-⟩:=hh
 have hw:IntKind.i64.wrap (n-(l.length:Int))=n-l.length:=AD (by omega) (by omega)
 refine ⟨λ c1=>?_,λ c1=>?_⟩
 ·try simp only [nrm] at c1
  refine AF ?_;try rw [hw] at *;grind [szR]
 try simp only [nrm] at c1
 refine AF ?_;try rw [hw] at *;grind [szR]
def D1:Con:={ ι:=BigD×Int,pre:=λ i=>hasRow [.bool,.sl 3 [.int]] [.bool i.1.neg,.sl i.1.num]/\0<=i.2/\i.2<=1048576,args:=λ i=>[DA.agg [cB i.1.neg,cS i.1.num],.one (cI i.2)],res:=λ i=>⟨false,[none],[rcI (szR (AC [.bool i.1.neg,.sl i.1.num]) i.2)]⟩ }
theorem Nk:D1.Ok Tryz.prog 99:=by
 refine fok (X:=⟨tt,[(54,Aj)],[],12,[]⟩) mixed AH (CTok.cons Fa (CTok.nil _)) Tryz.func99 (λ _=>[]) ?_
 rintro ⟨b,n⟩ hpre
 have hpre:hasRow [.bool,.sl 3 [.int]] [.bool b.neg,.sl b.num]/\0<=n/\n<=1048576:=hpre
 refine AI (q:=let Z1:=szR (AC [.bool b.neg,.sl b.num]) n;∃ i1:(List (List Dat))×Int,let Z2:=szR (i1.1.length+AA i1.1) i1.2;[DA.one (cS b.num),DA.one (cI n)]=Aj.args i1/\Aj.pre i1/\(ifB ((decide (Z2<(0:Int)))) ((vI (-1:Int)=vI Z1)) ((vI Z2=vI Z1)))) (by kernel_rfl) ?_
 conv=>zeta
 delta ifB vI
 obtain ⟨hh,h0,h1⟩:=hpre
 simp only [hasRow] at hh
 refine ⟨(b.num,n),by
  rfl,by
  show Dat.has (.sl 3 [.int]) (.sl b.num)/\0<=n/\n<=1048576
  refine ⟨?_,?_,?_⟩ <;> first|(simp only [hasRow];simp only [hh,and_self];done)|exact hh.1|exact hh.2.1|exact hh.2.2.1|exact hh.2.2.2.1|exact hh.2.2.2.2.1|exact hh.2.2.2.2.2.1|exact hh.2.2.2.2.2.2.1|omega|(unfold szR;grind)|(simp [hh];done),?_⟩
 refine ⟨λ c4=>?_,λ c4=>?_⟩
 ·try simp only [nrm] at c4
  refine AF ?_;try simp only [AC,Dat.sz,Nat.add_zero,Nat.zero_add] at *;all_goals grind [szR]
 try simp only [nrm] at c4
 show Value.int .i64 (szR (b.num.length+AA b.num) n)=Value.int .i64 (szR (AC [.bool b.neg,.sl b.num]) n)
 refine AF ?_;try simp only [AC,Dat.sz,Nat.add_zero,Nat.zero_add] at *;all_goals grind [szR]
def AS:Con:={ ι:=RatD×Int,pre:=λ i=>hasRow [.bool,.sl 3 [.int],.sl 3 [.int]] [.bool i.1.neg,.sl i.1.num,.sl i.1.den]/\0<=i.2/\i.2<=1048576,args:=λ i=>[DA.agg [cB i.1.neg,cS i.1.num,cS i.1.den],.one (cI i.2)],res:=λ i=>⟨false,[none],[rcI (szR (AC [.bool i.1.neg,.sl i.1.num,.sl i.1.den]) i.2)]⟩ }
theorem Nl:AS.Ok Tryz.prog 36:=by
 refine fok (X:=⟨tt,[(99,D1),(54,Aj)],[],18,[]⟩) mixed AH (CTok.cons Nk (CTok.cons Fa (CTok.nil _))) Tryz.func36 (λ _=>[]) ?_
 rintro ⟨r,n⟩ hpre
 have hpre:hasRow [.bool,.sl 3 [.int],.sl 3 [.int]] [.bool r.neg,.sl r.num,.sl r.den]/\0<=n/\n<=1048576:=hpre
 refine AI (q:=let Z1:=szR (AC [.bool r.neg,.sl r.num,.sl r.den]) n;let Z4:=(vI (-1:Int)=vI Z1);∃ i1:BigD×Int,let Z2:=szR (AC [.bool i1.1.neg,.sl i1.1.num]) i1.2;[DA.agg [cB r.neg,cS r.num],DA.one (cI n)]=D1.args i1/\D1.pre i1/\(ifB ((decide (Z2<(0:Int)))) Z4 (∃ i2:(List (List Dat))×Int,let Z3:=szR (i2.1.length+AA i2.1) i2.2;[DA.one (cS r.den),DA.one (cI Z2)]=Aj.args i2/\Aj.pre i2/\(ifB ((decide (Z3<(0:Int)))) Z4 ((vI Z3=vI Z1)))))) (by kernel_rfl) ?_
 conv=>zeta
 delta ifB vI
 obtain ⟨hh,h0,h1⟩:=hpre
 simp only [hasRow] at hh
 refine ⟨(BigD.mk r.neg r.num,n),by
  rfl,by
  show hasRow [.bool,.sl 3 [.int]] [.bool (BigD.mk r.neg r.num).neg,.sl (BigD.mk r.neg r.num).num]/\0<=n/\n<=1048576
  refine ⟨?_,?_,?_⟩ <;> first|(simp only [hasRow];simp only [hh,and_self];done)|exact hh.1|exact hh.2.1|exact hh.2.2.1|exact hh.2.2.2.1|exact hh.2.2.2.2.1|exact hh.2.2.2.2.2.1|exact hh.2.2.2.2.2.2.1|omega|(unfold szR;grind)|(simp [hh];done),?_⟩
 refine ⟨λ c4=>?_,λ c4=>?_⟩
 ·try simp only [nrm] at c4
  refine AF ?_;try simp only [AC,Dat.sz,Nat.add_zero,Nat.zero_add] at *;all_goals grind [szR]
 try simp only [nrm] at c4
 refine ⟨(r.den,(szR (AC [.bool (BigD.mk r.neg r.num).neg,.sl (BigD.mk r.neg r.num).num]) n)),by
  rfl,by
  try dsimp only [Aj]
  refine ⟨?_,?_,?_⟩ <;> first|(simp only [hasRow];simp only [hh,and_self];done)|exact hh.1|exact hh.2.1|exact hh.2.2.1|exact hh.2.2.2.1|exact hh.2.2.2.2.1|exact hh.2.2.2.2.2.1|exact hh.2.2.2.2.2.2.1|omega|(unfold szR;grind)|(simp [hh];done),?_⟩
 refine ⟨λ c9=>?_,λ c9=>?_⟩
 ·try simp only [nrm] at c9
  refine AF ?_;try simp only [AC,Dat.sz,Nat.add_zero,Nat.zero_add] at *;all_goals grind [szR]
 try simp only [nrm] at c9
 refine AF ?_;try simp only [AC,Dat.sz,Nat.add_zero,Nat.zero_add] at *;all_goals grind [szR]
def Am:Con:={ ι:=RatD,pre:=λ i=>True,args:=λ i=>[DA.agg [cB i.neg,cS i.num,cS i.den],DA.agg [cB i.neg,cS i.num,cS i.den]],res:=λ i=>⟨false,[none],[rcB true]⟩ }
theorem Nm:Am.Ok Tryz.prog 41:=TL [.bool,.sl 3 [.int],.sl 3 [.int]] ⟨_,Tryz.func41,by decide,rfl⟩ (λ _=>rfl) (λ _=>rfl) (λ ds vs us w=>Uf ds vs us w)
def AT:Con:={ ι:=RatD,pre:=λ i=>AC [.bool i.neg,.sl i.num,.sl i.den]<=1048576,args:=λ i=>[DA.agg [cB i.neg,cS i.num,cS i.den]],res:=λ i=>⟨false,[some 3],[rcB i.neg,.own 3 [.int] i.num,.own 3 [.int] i.den]⟩ }
theorem Nn:AT.Ok Tryz.prog 38:=TM (out:=λ r=>[.im (.bool r.neg),.sl 3 [.int] r.num,.sl 3 [.int] r.den]) [.bool,.sl 3 [.int],.sl 3 [.int]] ⟨_,Tryz.func38,by decide,rfl⟩ (λ _=>rfl) (λ _=>rfl) (λ _=>rfl) (λ _=>rfl) (λ _=>rfl) (λ _=>rfl) (λ _=>rfl) (λ _=>Nat.le_of_ble_eq_true rfl) (λ _ h=>h) (λ ds h vs w=>Ug ds h vs w)
def BW:Con:={ ι:=(List (List Dat)),pre:=λ i=>True,args:=λ i=>[.one (cS i),.one (cS i)],res:=λ i=>⟨false,[none],[rcB true]⟩ }
theorem Iw:BW.Ok Tryz.prog 14:=O0 (.sl 3 [.int]) ⟨_,Tryz.func14,by decide,rfl⟩ (λ _=>rfl) (λ _=>rfl) (λ d v u w h h'=>by obtain ⟨l,_,_,rfl,_⟩:=Rd.sl_inv h;exact Kg l v u w h h')
def BX:Con:={ ι:=(List (List Dat)),pre:=λ i=>i.length+AA i<=1048576,args:=λ i=>[.one (cS i)],res:=λ i=>⟨false,[none],[.own 3 [.int] i]⟩ }
theorem Ix:BX.Ok Tryz.prog 65:=O3 3 [.int] ⟨_,Tryz.func65,by decide,rfl⟩ (λ _=>rfl) (λ _=>rfl) (λ _=>rfl) (λ _ h=>h) (λ ls h v w=>Kh ls h v w)
def DG:Con:={ ι:=(List (List Dat)),pre:=λ i=>True,args:=λ i=>[.one (DC.sl 39 [.int,.int] i),.one (DC.sl 39 [.int,.int] i)],res:=λ i=>⟨false,[none],[rcB true]⟩ }
theorem RZ:DG.Ok Tryz.prog 72:=O0 (.sl 39 [.int,.int]) ⟨_,Tryz.func72,by decide,rfl⟩ (λ _=>rfl) (λ _=>rfl) (λ d v u w h h'=>by obtain ⟨l,_,_,rfl,_⟩:=Rd.sl_inv h;exact Ni l v u w h h')
def DH:Con:={ ι:=(List (List Dat)),pre:=λ i=>i.length+AA i<=1048576,args:=λ i=>[.one (DC.sl 23 [.int,.int] i)],res:=λ i=>⟨false,[none],[.own 39 [.int,.int] i]⟩ }
theorem Ra:DH.Ok Tryz.prog 61:=O3 39 [.int,.int] ⟨_,Tryz.func61,by decide,rfl⟩ (λ _=>rfl) (λ _=>rfl) (λ _=>rfl) (λ _ h=>h) (λ ls h v w=>Nj ls h v w)
def B8:Con:={ ι:=(List (List Dat)),pre:=λ i=>True,args:=λ i=>[.one (DC.sl 40 [.sl 39 [.int,.int]] i),.one (DC.sl 40 [.sl 39 [.int,.int]] i)],res:=λ i=>⟨false,[none],[rcB true]⟩ }
theorem Ki:B8.Ok Tryz.prog 32:=O0 (.sl 40 [.sl 39 [.int,.int]]) ⟨_,Tryz.func32,by decide,rfl⟩ (λ _=>rfl) (λ _=>rfl) (λ d v u w h h'=>by obtain ⟨l,_,_,rfl,_⟩:=Rd.sl_inv h;exact RW l v u w h h')
def B9:Con:={ ι:=(List (List Dat)),pre:=λ i=>i.length+AA i<=1048576,args:=λ i=>[.one (DC.sl 24 [.sl 23 [.int,.int]] i)],res:=λ i=>⟨false,[none],[.own 40 [.sl 39 [.int,.int]] i]⟩ }
theorem Kj:B9.Ok Tryz.prog 29:=O3 40 [.sl 39 [.int,.int]] ⟨_,Tryz.func29,by decide,rfl⟩ (λ _=>rfl) (λ _=>rfl) (λ _=>rfl) (λ _ h=>h) (λ ls h v w=>RY ls h v w)
def Bh:Con:={ ι:=(Int×Int),pre:=λ i=>AC [.int i.1,.int i.2]<=1048576,args:=λ i=>[DA.agg [cI i.1,cI i.2]],res:=λ i=>⟨false,[some 2],[rcI i.1,rcI i.2]⟩ }
theorem No:Bh.Ok Tryz.prog 60:=TM (out:=λ p=>[.im (.int .i64 p.1),.im (.int .i64 p.2)]) [.int,.int] ⟨_,Tryz.func60,by decide,rfl⟩ (λ _=>rfl) (λ _=>rfl) (λ _=>rfl) (λ _=>rfl) (λ _=>rfl) (λ _=>rfl) (λ _=>rfl) (λ _=>Nat.le_of_ble_eq_true rfl) (λ _ h=>h) (λ ds h vs w=>QT ds h vs w)
def Bi:Con:={ ι:=(Int×Int),pre:=λ i=>True,args:=λ i=>[DA.agg [cI i.1,cI i.2],DA.agg [cI i.1,cI i.2]],res:=λ i=>⟨false,[none],[rcB true]⟩ }
theorem Np:Bi.Ok Tryz.prog 71:=TL [.int,.int] ⟨_,Tryz.func71,by decide,rfl⟩ (λ _=>rfl) (λ _=>rfl) (λ ds vs us w=>QS ds vs us w)
theorem F1 {e:Nat} {ts:List Ty} {r:List Dat} (h0:hasRow [.sl e ts] r):[Dat.sl ((r.getD 0 (.int 0)).r)]=r:=by
 obtain ⟨_,_,rfl,q0,h1⟩:=h0.cons
 obtain ⟨_,rfl⟩:=Dat.has_sl q0
 obtain rfl:=h1.nil
 rfl
theorem A7 (a:Nat) (n:Int):szR a n=-1/\n<(a:Int)∨szR a n=n-a/\(a:Int)<=n:=by unfold szR;split <;> omega
theorem IL {l:List (List Dat)} {k:Nat} {z:List Dat} (h:k<=l.length):(l.take k++List.replicate (l.length-k) z).length=l.length:=by rw [List.length_append,List.length_take,List.length_replicate];omega
theorem Gz {l:List (List Dat)} {k:Nat} {z x:List Dat} (h:k<l.length) (e:l.getD k []=x):(l.take k++List.replicate (l.length-k) z).set k x=l.take (k+1)++List.replicate (l.length-(k+1)) z:=by
 have e1:l.length-k=l.length-(k+1)+1:=by omega
 rw [e1,List.replicate_succ,List.set_append_right _ _ (by rw [List.length_take];omega)]
 have e2:k-(l.take k).length=0:=by rw [List.length_take];omega
 rw [e2,List.set_cons_zero,List.take_add_one,← e]
 have e3:l[k]?.toList=[l.getD k []]:=by simp [List.getD,h]
 rw [e3,List.append_assoc,List.singleton_append]
theorem Rb {l:List (List Dat)} {k:Nat} {x y:Dat} (h:k<l.length) (e:l.getD k []=[x]):(l.take k++List.replicate (l.length-k) ([y]:List Dat)).set k (((l.take k++List.replicate (l.length-k) ([y]:List Dat)).getD k []).set 0 x)=l.take (k+1)++List.replicate (l.length-(k+1)) [y]:=by
 have e1:(l.take k++List.replicate (l.length-k) ([y]:List Dat)).getD k []=[y]:=by
  rw [show l.length-k=l.length-(k+1)+1 by omega,List.replicate_succ,List.getD,List.getElem?_append_right (by rw [List.length_take];omega),show k-(l.take k).length=0 by rw [List.length_take];omega]
  rfl
 rw [e1]
 exact Gz h e
theorem IM {l:List (List Dat)} {k:Nat} {z:List Dat} (h:l.length<=k):l.take k++List.replicate (l.length-k) z=l:=by
 rw [List.take_of_length_le h,show l.length-k=0 by omega];simp
def Bn:Con:={ ι:=(List (List Dat))×Int,pre:=λ i=>Dat.has (.sl 24 [.sl 23 [.int,.int]]) (.sl i.1)/\0<=i.2/\i.2<=1048576,args:=λ i=>[.one (DC.sl 24 [.sl 23 [.int,.int]] i.1),.one (cI i.2)],res:=λ i=>⟨false,[none],[rcI (szR (i.1.length+AA i.1) i.2)]⟩ }
theorem Kk:Bn.Ok Tryz.prog 26:=by
 refine fok (X:=⟨tt,[(50,BV)],[],27,[]⟩) mixed AH (CTok.cons Ly (CTok.nil _)) Tryz.func26 (λ (i:(List (List Dat))×Int)=>[(5,.mk 2 (Nat×Int) (λ x1=>{ tm:=[(0,tX 1),(4,tI (0:Int)),(5,tI (x1.1:Int)),(1,tI x1.2)],en:=[(1,.view 24 [.sl 23 [.int,.int]] i.1 [])] }) (λ x1=>x1.1<=i.1.length/\0<=x1.2/\x1.2+i.1.length+AA (i.1.take x1.1)=i.2) (λ x1=>i.1.length-x1.1) (λ _=>[]))]) ?_
 rintro ⟨l,n⟩ hpre
 have hpre:Dat.has (.sl 24 [.sl 23 [.int,.int]]) (.sl l)/\0<=n/\n<=1048576:=hpre
 refine AI (q:=let Z5:=wR (n-(nI l.length));let Z1:=szR (l.length+AA l) n;let Z4:=(vI (-1:Int)=vI Z1);ifB ((decide (Z5<(0:Int)))) Z4 ((∃ x1:Nat×Int,(x1.1<=l.length/\0<=x1.2/\x1.2+l.length+AA (l.take x1.1)=n)/\((rf (vI (0:Int)))/\(vI (0:Int)=vI (x1.1:Int))/\(vI Z5=vI x1.2)/\(rf (l))))/\∀ x1:Nat×Int,let Z3:=(x1.1:Int);(x1.1<=l.length/\0<=x1.2/\x1.2+l.length+AA (l.take x1.1)=n)->(ifB ((decide (Z3<(nI l.length)))) ((0<=Z3/\Z3<(l.length:Int))/\((x1.1<l.length)/\(∃ i1:(List (List Dat))×Int,let Z2:=szR (i1.1.length+AA i1.1) i1.2;[DA.one (DC.sl 23 [.int,.int] ((((l.getD x1.1 []).getD 0 (.int 0))).r)),DA.one (cI x1.2)]=BV.args i1/\BV.pre i1/\(ifB ((decide (Z2<(0:Int)))) Z4 (∃ y2:Nat×Int,(y2.1<=l.length/\0<=y2.2/\y2.2+l.length+AA (l.take y2.1)=n)/\(l.length-y2.1<l.length-x1.1)/\((rf (vI (0:Int)))/\(vI (wR (Z3+(1:Int)))=vI (y2.1:Int))/\(vI Z2=vI y2.2)/\(rf (l)))))))) ((vI x1.2=vI Z1))))) (by kernel_rfl) ?_
 conv=>zeta
 delta ifB vI wR nI
 obtain ⟨hh,h0,h1⟩:=hpre
 have hh2:=BH hh
 have hl:=Cz hh
 have hw:IntKind.i64.wrap (n-(l.length:Int))=n-l.length:=AD (by omega) (by omega)
 refine ⟨λ c1=>?_,λ c1=>?_⟩
 ·try simp only [nrm] at c1
  refine AF ?_;try rw [hw] at *;grind [szR]
 try simp only [nrm] at c1
 refine ⟨⟨(0,n-l.length),by
  rw [hw] at c1;simp [AA];omega,?_⟩,?_⟩
 ·refine ⟨rfl,rfl,?_,rfl⟩
  exact AF hw
 rintro ⟨k,m⟩ hki3
 have hki3:k<=l.length/\0<=m/\m+l.length+AA (l.take k)=n:=hki3
 have hle:=Aq l k
 refine And.symm ⟨λ c9=>?_,λ c9=>?_⟩
 ·try simp only [nrm] at c9
  obtain rfl:k=l.length:=by omega
  rw [List.take_length] at hki3
  refine AF ?_;try rw [hw] at *;grind [szR]
 try simp only [nrm] at c9
 refine ao (a:=0<=(k:Int)/\(k:Int)<(l.length:Int)) (by omega) λ o10=>?_
 refine ao (a:=k<l.length) (by omega) λ o11=>?_
 refine ⟨(((l.getD k []).getD 0 (.int 0)).r,m),by
  rfl,by
  show Dat.has (.sl 39 [.int,.int]) (.sl (((l.getD k []).getD 0 (.int 0)).r))/\0<=m/\m<=1048576
  refine ⟨?_,by omega,by omega⟩
  have:=hh2 k (by omega)
  rw [← F1 this] at this
  exact this.1,?_⟩
 have hle:=Aq l (k+1)
 have hts:=B3 l k (by omega)
 have hrow:=hh2 k (by omega)
 rw [← F1 hrow] at hts
 have hts:AA (l.take (k+1))=AA (l.take k)+((((l.getD k []).getD 0 (.int 0)).r).length+AA (((l.getD k []).getD 0 (.int 0)).r)):=by first|exact hts|simpa only [AC,Dat.sz,Nat.add_zero] using hts
 refine ⟨λ c15=>?_,λ c15=>?_⟩
 ·try simp only [nrm] at c15
  refine AF ?_;try rw [hw] at *;grind [szR]
 try simp only [nrm] at c15
 refine ⟨(k+1,szR ((((l.getD k []).getD 0 (.int 0)).r).length+AA (((l.getD k []).getD 0 (.int 0)).r)) m),by
  unfold szR at *;grind,by
  omega,?_⟩
 refine ⟨rfl,?_,rfl,rfl⟩
 exact AF (AD (by omega) (by omega))
theorem Mc {r:List Dat} (h:hasRow [.int,.int] r):r=[.int (r.getD 0 (.int 0)).n,.int (r.getD 1 (.int 0)).n]:=by
 obtain ⟨_,_,rfl,q0,h0⟩:=h.cons
 obtain ⟨_,rfl⟩:=Dat.has_int q0
 obtain ⟨_,_,rfl,q1,h1⟩:=h0.cons
 obtain ⟨_,rfl⟩:=Dat.has_int q1
 obtain rfl:=hasRow.nil h1
 rfl
theorem Uh {r:List Dat} (h:hasRow [.int,.int] r):AC r=0:=by
 rw [Mc h]
 simp only [AC,Dat.sz]
theorem Ui {r:List Dat} (h:hasRow [.int,.int] r):Dat.has .int (.int (r.getD 0 (.int 0)).n)/\Dat.has .int (.int (r.getD 1 (.int 0)).n):=by
 rw [Mc h] at h
 simpa only [hasRow,and_true] using h
def F3:Con:={ ι:=(List Dat),pre:=λ i=>hasRow [.int,.int] i/\AC i<=1048576,args:=λ i=>[DA.agg [cI ((i.getD 0 (.int 0)).n),cI ((i.getD 1 (.int 0)).n)]],res:=λ i=>⟨false,[some 2],[rcI ((i.getD 0 (.int 0)).n),rcI ((i.getD 1 (.int 0)).n)]⟩ }
theorem Rc:F3.Ok Tryz.prog 121:=by
 refine fok (X:=⟨tt,[],[],11,[]⟩) mixed AH (CTok.nil _) Tryz.func121 (λ _=>[]) ?_
 intro (r:List Dat) hpre
 have hpre:hasRow [.int,.int] r/\AC r<=1048576:=hpre
 refine AI (q:=(vI ((r.getD 0 (.int 0)).n)=vI ((r.getD 0 (.int 0)).n))/\(vI ((r.getD 1 (.int 0)).n)=vI ((r.getD 1 (.int 0)).n))) (by kernel_rfl) ?_
 delta vI
 have hz:=Uh hpre.1
 have hs:=hpre.2
 have hp:=Ui hpre.1
 obtain ⟨p0,p1⟩:=hp
 exact ⟨rfl,rfl⟩
def F4:Con:={ ι:=(List Dat),pre:=λ i=>True,args:=λ i=>[DA.agg [cI ((i.getD 0 (.int 0)).n),cI ((i.getD 1 (.int 0)).n)],DA.agg [cI ((i.getD 0 (.int 0)).n),cI ((i.getD 1 (.int 0)).n)]],res:=λ i=>⟨false,[none],[rcB true]⟩ }
theorem Re:F4.Ok Tryz.prog 130:=by
 refine fok (X:=⟨tt,[],[],15,[]⟩) mixed AH (CTok.nil _) Tryz.func130 (λ _=>[]) ?_
 intro (r:List Dat) hpre
 have hpre:True:=hpre
 refine AI (q:=ifB ((((r.getD 0 (.int 0)).n) != ((r.getD 0 (.int 0)).n))) ((vB false=vB true)) (ifB ((((r.getD 1 (.int 0)).n) != ((r.getD 1 (.int 0)).n))) ((vB false=vB true)) ((vB true=vB true)))) (by kernel_rfl) ?_
 delta ifB vB
 refine ⟨λ c1=>?_,λ c1=>?_⟩
 ·try simp only [nrm] at c1
  exfalso;simp_all;done
 try simp only [nrm] at c1
 refine ⟨λ c3=>?_,λ c3=>?_⟩
 ·try simp only [nrm] at c3
  exfalso;simp_all;done
 try simp only [nrm] at c3
 exact rfl
theorem Md {r:List Dat} (h:hasRow [.bool,.sl 3 [.int],.sl 3 [.int],.bool,.sl 3 [.int],.sl 3 [.int],.bool,.sl 3 [.int],.sl 3 [.int]] r):r=[.bool (r.getD 0 (.int 0)).b,.sl (r.getD 1 (.int 0)).r,.sl (r.getD 2 (.int 0)).r,.bool (r.getD 3 (.int 0)).b,.sl (r.getD 4 (.int 0)).r,.sl (r.getD 5 (.int 0)).r,.bool (r.getD 6 (.int 0)).b,.sl (r.getD 7 (.int 0)).r,.sl (r.getD 8 (.int 0)).r]:=by
 obtain ⟨_,_,rfl,q0,h0⟩:=h.cons
 obtain ⟨_,rfl⟩:=Dat.has_bool q0
 obtain ⟨_,_,rfl,q1,h1⟩:=h0.cons
 obtain ⟨_,rfl⟩:=Dat.has_sl q1
 obtain ⟨_,_,rfl,q2,h2⟩:=h1.cons
 obtain ⟨_,rfl⟩:=Dat.has_sl q2
 obtain ⟨_,_,rfl,q3,h3⟩:=h2.cons
 obtain ⟨_,rfl⟩:=Dat.has_bool q3
 obtain ⟨_,_,rfl,q4,h4⟩:=h3.cons
 obtain ⟨_,rfl⟩:=Dat.has_sl q4
 obtain ⟨_,_,rfl,q5,h5⟩:=h4.cons
 obtain ⟨_,rfl⟩:=Dat.has_sl q5
 obtain ⟨_,_,rfl,q6,h6⟩:=h5.cons
 obtain ⟨_,rfl⟩:=Dat.has_bool q6
 obtain ⟨_,_,rfl,q7,h7⟩:=h6.cons
 obtain ⟨_,rfl⟩:=Dat.has_sl q7
 obtain ⟨_,_,rfl,q8,h8⟩:=h7.cons
 obtain ⟨_,rfl⟩:=Dat.has_sl q8
 obtain rfl:=hasRow.nil h8
 rfl
theorem QU {r:List Dat} (h:hasRow [.bool,.sl 3 [.int],.sl 3 [.int],.bool,.sl 3 [.int],.sl 3 [.int],.bool,.sl 3 [.int],.sl 3 [.int]] r):AC r=(AC [.bool (r.getD 0 (.int 0)).b,.sl (r.getD 1 (.int 0)).r,.sl (r.getD 2 (.int 0)).r])+(AC [.bool (r.getD 3 (.int 0)).b,.sl (r.getD 4 (.int 0)).r,.sl (r.getD 5 (.int 0)).r])+(AC [.bool (r.getD 6 (.int 0)).b,.sl (r.getD 7 (.int 0)).r,.sl (r.getD 8 (.int 0)).r]):=by
 conv=>lhs;rw [Md h]
 simp only [AC,Dat.sz]
 omega
theorem QV {r:List Dat} (h:hasRow [.bool,.sl 3 [.int],.sl 3 [.int],.bool,.sl 3 [.int],.sl 3 [.int],.bool,.sl 3 [.int],.sl 3 [.int]] r):Dat.has .bool (.bool (r.getD 0 (.int 0)).b)/\Dat.has (.sl 3 [.int]) (.sl (r.getD 1 (.int 0)).r)/\Dat.has (.sl 3 [.int]) (.sl (r.getD 2 (.int 0)).r)/\Dat.has .bool (.bool (r.getD 3 (.int 0)).b)/\Dat.has (.sl 3 [.int]) (.sl (r.getD 4 (.int 0)).r)/\Dat.has (.sl 3 [.int]) (.sl (r.getD 5 (.int 0)).r)/\Dat.has .bool (.bool (r.getD 6 (.int 0)).b)/\Dat.has (.sl 3 [.int]) (.sl (r.getD 7 (.int 0)).r)/\Dat.has (.sl 3 [.int]) (.sl (r.getD 8 (.int 0)).r):=by
 rw [Md h] at h
 simpa only [hasRow,and_true] using h
def F5:Con:={ ι:=(List Dat)×Int,pre:=λ i=>hasRow [.bool,.sl 3 [.int],.sl 3 [.int],.bool,.sl 3 [.int],.sl 3 [.int],.bool,.sl 3 [.int],.sl 3 [.int]] i.1/\0<=i.2/\i.2<=1048576,args:=λ i=>[Gx i.1,.one (cI i.2)],res:=λ i=>⟨false,[none],[rcI (szR (AC i.1) i.2)]⟩ }
theorem Rf:F5.Ok Tryz.prog 113:=by
 refine fok (X:=⟨tt,[(36,AS)],[],24,[]⟩) mixed AH (CTok.cons Nl (CTok.nil _)) Tryz.func113 (λ _=>[]) ?_
 rintro ⟨r,n⟩ hpre
 have hpre:hasRow [.bool,.sl 3 [.int],.sl 3 [.int],.bool,.sl 3 [.int],.sl 3 [.int],.bool,.sl 3 [.int],.sl 3 [.int]] r/\0<=n/\n<=1048576:=hpre
 refine AI (q:=let Z1:=(vI (-1:Int)=vI (szR (AC r) n));∃ i1:RatD×Int,let Z2:=szR (AC [.bool i1.1.neg,.sl i1.1.num,.sl i1.1.den]) i1.2;[w84 r,DA.one (cI n)]=AS.args i1/\AS.pre i1/\(ifB ((decide (Z2<(0:Int)))) Z1 (∃ i2:RatD×Int,let Z3:=szR (AC [.bool i2.1.neg,.sl i2.1.num,.sl i2.1.den]) i2.2;[dA r 3 4 5,DA.one (cI Z2)]=AS.args i2/\AS.pre i2/\(ifB ((decide (Z3<(0:Int)))) Z1 (∃ i3:RatD×Int,let Z4:=szR (AC [.bool i3.1.neg,.sl i3.1.num,.sl i3.1.den]) i3.2;[dA r 6 7 8,DA.one (cI Z3)]=AS.args i3/\AS.pre i3/\(ifB ((decide (Z4<(0:Int)))) Z1 ((vI Z4=vI (szR (AC r) n))))))))) (by kernel_rfl) ?_
 conv=>zeta
 delta dA w84 ifB vI
 obtain ⟨hh,h0,h1⟩:=hpre
 have hz:=QU hh
 have hp:=QV hh
 obtain ⟨p0,p1,p2,p3,p4,p5,p6,p7,p8⟩:=hp
 have f0:=A7 (AC [.bool (r.getD 0 (.int 0)).b,.sl (r.getD 1 (.int 0)).r,.sl (r.getD 2 (.int 0)).r]) (n)
 have f1:=A7 (AC [.bool (r.getD 3 (.int 0)).b,.sl (r.getD 4 (.int 0)).r,.sl (r.getD 5 (.int 0)).r]) (szR (AC [.bool (r.getD 0 (.int 0)).b,.sl (r.getD 1 (.int 0)).r,.sl (r.getD 2 (.int 0)).r]) (n))
 have f2:=A7 (AC [.bool (r.getD 6 (.int 0)).b,.sl (r.getD 7 (.int 0)).r,.sl (r.getD 8 (.int 0)).r]) (szR (AC [.bool (r.getD 3 (.int 0)).b,.sl (r.getD 4 (.int 0)).r,.sl (r.getD 5 (.int 0)).r]) (szR (AC [.bool (r.getD 0 (.int 0)).b,.sl (r.getD 1 (.int 0)).r,.sl (r.getD 2 (.int 0)).r]) (n)))
 have ft:=A7 (AC r) n
 refine ⟨((RatD.mk ((r.getD 0 (.int 0)).b) ((r.getD 1 (.int 0)).r) ((r.getD 2 (.int 0)).r)),n),by
  rfl,by
  try dsimp only [AS]
  refine ⟨?_,?_,?_⟩ <;> (try dsimp only) <;> first|assumption|omega|exact ⟨p0,p1,p2,trivial⟩|exact ⟨p3,p4,p5,trivial⟩|exact ⟨p6,p7,p8,trivial⟩,?_⟩
 refine ⟨λ c4=>?_,λ c4=>?_⟩
 ·try dsimp only at c4
  try simp only [nrm] at c4
  refine AF ?_;try dsimp only
  omega
 try dsimp only at c4
 try simp only [nrm] at c4
 refine ⟨((RatD.mk ((r.getD 3 (.int 0)).b) ((r.getD 4 (.int 0)).r) ((r.getD 5 (.int 0)).r)),(szR (AC [.bool (RatD.mk ((r.getD 0 (.int 0)).b) ((r.getD 1 (.int 0)).r) ((r.getD 2 (.int 0)).r)).neg,.sl (RatD.mk ((r.getD 0 (.int 0)).b) ((r.getD 1 (.int 0)).r) ((r.getD 2 (.int 0)).r)).num,.sl (RatD.mk ((r.getD 0 (.int 0)).b) ((r.getD 1 (.int 0)).r) ((r.getD 2 (.int 0)).r)).den]) n)),by
  rfl,by
  try dsimp only [AS]
  refine ⟨?_,?_,?_⟩ <;> (try dsimp only) <;> first|assumption|omega|exact ⟨p0,p1,p2,trivial⟩|exact ⟨p3,p4,p5,trivial⟩|exact ⟨p6,p7,p8,trivial⟩,?_⟩
 refine ⟨λ c9=>?_,λ c9=>?_⟩
 ·try dsimp only at c9
  try simp only [nrm] at c9
  refine AF ?_;try dsimp only
  omega
 try dsimp only at c9
 try simp only [nrm] at c9
 refine ⟨((RatD.mk ((r.getD 6 (.int 0)).b) ((r.getD 7 (.int 0)).r) ((r.getD 8 (.int 0)).r)),(szR (AC [.bool (RatD.mk ((r.getD 3 (.int 0)).b) ((r.getD 4 (.int 0)).r) ((r.getD 5 (.int 0)).r)).neg,.sl (RatD.mk ((r.getD 3 (.int 0)).b) ((r.getD 4 (.int 0)).r) ((r.getD 5 (.int 0)).r)).num,.sl (RatD.mk ((r.getD 3 (.int 0)).b) ((r.getD 4 (.int 0)).r) ((r.getD 5 (.int 0)).r)).den]) (szR (AC [.bool (RatD.mk ((r.getD 0 (.int 0)).b) ((r.getD 1 (.int 0)).r) ((r.getD 2 (.int 0)).r)).neg,.sl (RatD.mk ((r.getD 0 (.int 0)).b) ((r.getD 1 (.int 0)).r) ((r.getD 2 (.int 0)).r)).num,.sl (RatD.mk ((r.getD 0 (.int 0)).b) ((r.getD 1 (.int 0)).r) ((r.getD 2 (.int 0)).r)).den]) n))),by
  rfl,by
  try dsimp only [AS]
  refine ⟨?_,?_,?_⟩ <;> (try dsimp only) <;> first|assumption|omega|exact ⟨p0,p1,p2,trivial⟩|exact ⟨p3,p4,p5,trivial⟩|exact ⟨p6,p7,p8,trivial⟩,?_⟩
 refine ⟨λ c14=>?_,λ c14=>?_⟩
 ·try dsimp only at c14
  try simp only [nrm] at c14
  refine AF ?_;try dsimp only
  omega
 try dsimp only at c14
 try simp only [nrm] at c14
 show Value.int .i64 (szR (AC [.bool (RatD.mk ((r.getD 6 (.int 0)).b) ((r.getD 7 (.int 0)).r) ((r.getD 8 (.int 0)).r)).neg,.sl (RatD.mk ((r.getD 6 (.int 0)).b) ((r.getD 7 (.int 0)).r) ((r.getD 8 (.int 0)).r)).num,.sl (RatD.mk ((r.getD 6 (.int 0)).b) ((r.getD 7 (.int 0)).r) ((r.getD 8 (.int 0)).r)).den]) (szR (AC [.bool (RatD.mk ((r.getD 3 (.int 0)).b) ((r.getD 4 (.int 0)).r) ((r.getD 5 (.int 0)).r)).neg,.sl (RatD.mk ((r.getD 3 (.int 0)).b) ((r.getD 4 (.int 0)).r) ((r.getD 5 (.int 0)).r)).num,.sl (RatD.mk ((r.getD 3 (.int 0)).b) ((r.getD 4 (.int 0)).r) ((r.getD 5 (.int 0)).r)).den]) (szR (AC [.bool (RatD.mk ((r.getD 0 (.int 0)).b) ((r.getD 1 (.int 0)).r) ((r.getD 2 (.int 0)).r)).neg,.sl (RatD.mk ((r.getD 0 (.int 0)).b) ((r.getD 1 (.int 0)).r) ((r.getD 2 (.int 0)).r)).num,.sl (RatD.mk ((r.getD 0 (.int 0)).b) ((r.getD 1 (.int 0)).r) ((r.getD 2 (.int 0)).r)).den]) n)))=Value.int .i64 (szR (AC r) n)
 refine AF ?_;try dsimp only
 omega
def F6:Con:={ ι:=(List Dat),pre:=λ i=>hasRow [.bool,.sl 3 [.int],.sl 3 [.int],.bool,.sl 3 [.int],.sl 3 [.int],.bool,.sl 3 [.int],.sl 3 [.int]] i/\AC i<=1048576,args:=λ i=>[Gx i],res:=λ i=>⟨false,[some 9],[rcB ((i.getD 0 (.int 0)).b),.own 3 [.int] ((i.getD 1 (.int 0)).r),.own 3 [.int] ((i.getD 2 (.int 0)).r),rcB ((i.getD 3 (.int 0)).b),.own 3 [.int] ((i.getD 4 (.int 0)).r),.own 3 [.int] ((i.getD 5 (.int 0)).r),rcB ((i.getD 6 (.int 0)).b),.own 3 [.int] ((i.getD 7 (.int 0)).r),.own 3 [.int] ((i.getD 8 (.int 0)).r)]⟩ }
theorem Rg:F6.Ok Tryz.prog 120:=by
 refine fok (X:=⟨tt,[(38,AT)],[],17,[]⟩) mixed AH (CTok.cons Nn (CTok.nil _)) Tryz.func120 (λ _=>[]) ?_
 intro (r:List Dat) hpre
 have hpre:hasRow [.bool,.sl 3 [.int],.sl 3 [.int],.bool,.sl 3 [.int],.sl 3 [.int],.bool,.sl 3 [.int],.sl 3 [.int]] r/\AC r<=1048576:=hpre
 refine AI (q:=∃ i1:RatD,[w84 r]=AT.args i1/\AT.pre i1/\(∃ i2:RatD,[dA r 3 4 5]=AT.args i2/\AT.pre i2/\(∃ i3:RatD,[dA r 6 7 8]=AT.args i3/\AT.pre i3/\((vB i1.neg=vB ((r.getD 0 (.int 0)).b))/\(i1.num=(r.getD 1 (.int 0)).r)/\(i1.den=(r.getD 2 (.int 0)).r)/\(vB i2.neg=vB ((r.getD 3 (.int 0)).b))/\(i2.num=(r.getD 4 (.int 0)).r)/\(i2.den=(r.getD 5 (.int 0)).r)/\(vB i3.neg=vB ((r.getD 6 (.int 0)).b))/\(i3.num=(r.getD 7 (.int 0)).r)/\(i3.den=(r.getD 8 (.int 0)).r))))) (by kernel_rfl) ?_
 delta dA w84 vB
 have hz:=QU hpre.1
 have hs:=hpre.2
 have hp:=QV hpre.1
 obtain ⟨p0,p1,p2,p3,p4,p5,p6,p7,p8⟩:=hp
 refine ⟨(RatD.mk ((r.getD 0 (.int 0)).b) ((r.getD 1 (.int 0)).r) ((r.getD 2 (.int 0)).r)),by
  rfl,by
  try dsimp only [AT]
  omega,?_⟩
 refine ⟨(RatD.mk ((r.getD 3 (.int 0)).b) ((r.getD 4 (.int 0)).r) ((r.getD 5 (.int 0)).r)),by
  rfl,by
  try dsimp only [AT]
  omega,?_⟩
 refine ⟨(RatD.mk ((r.getD 6 (.int 0)).b) ((r.getD 7 (.int 0)).r) ((r.getD 8 (.int 0)).r)),by
  rfl,by
  try dsimp only [AT]
  omega,?_⟩
 refine ⟨?_,?_,?_,?_,?_,?_,?_,?_,?_⟩
 ·rfl
 ·rfl
 ·rfl
 ·rfl
 ·rfl
 ·rfl
 ·rfl
 ·rfl
 rfl
def F7:Con:={ ι:=(List Dat),pre:=λ i=>True,args:=λ i=>[Gx i,Gx i],res:=λ i=>⟨false,[none],[rcB true]⟩ }
theorem Rh:F7.Ok Tryz.prog 105:=by
 refine fok (X:=⟨tt,[(41,Am)],[],23,[]⟩) mixed AH (CTok.cons Nm (CTok.nil _)) Tryz.func105 (λ _=>[]) ?_
 intro (r:List Dat) hpre
 have hpre:True:=hpre
 refine AI (q:=let Z1:=(vB false=vB true);∃ i1:RatD,[w84 r,w84 r]=Am.args i1/\Am.pre i1/\(ifB ((!true)) Z1 (∃ i2:RatD,[dA r 3 4 5,dA r 3 4 5]=Am.args i2/\Am.pre i2/\(ifB ((!true)) Z1 (∃ i3:RatD,[dA r 6 7 8,dA r 6 7 8]=Am.args i3/\Am.pre i3/\(ifB ((!true)) Z1 ((vB true=vB true)))))))) (by kernel_rfl) ?_
 conv=>zeta
 delta dA w84 ifB vB
 refine ⟨(RatD.mk ((r.getD 0 (.int 0)).b) ((r.getD 1 (.int 0)).r) ((r.getD 2 (.int 0)).r)),by
  rfl,by
  trivial,?_⟩
 refine ⟨λ c4=>?_,λ c4=>?_⟩
 ·try simp only [nrm] at c4
  exfalso;simp_all;done
 try simp only [nrm] at c4
 refine ⟨(RatD.mk ((r.getD 3 (.int 0)).b) ((r.getD 4 (.int 0)).r) ((r.getD 5 (.int 0)).r)),by
  rfl,by
  trivial,?_⟩
 refine ⟨λ c9=>?_,λ c9=>?_⟩
 ·try simp only [nrm] at c9
  exfalso;simp_all;done
 try simp only [nrm] at c9
 refine ⟨(RatD.mk ((r.getD 6 (.int 0)).b) ((r.getD 7 (.int 0)).r) ((r.getD 8 (.int 0)).r)),by
  rfl,by
  trivial,?_⟩
 refine ⟨λ c14=>?_,λ c14=>?_⟩
 ·try simp only [nrm] at c14
  exfalso;simp_all;done
 try simp only [nrm] at c14
 exact rfl
theorem Me {r:List Dat} (h:hasRow [.bool,.sl 3 [.int],.sl 3 [.int],.bool,.sl 3 [.int],.sl 3 [.int],.bool,.sl 3 [.int],.sl 3 [.int],.bool,.sl 3 [.int],.sl 3 [.int],.bool,.sl 3 [.int],.sl 3 [.int],.bool,.sl 3 [.int],.sl 3 [.int]] r):r=[.bool (r.getD 0 (.int 0)).b,.sl (r.getD 1 (.int 0)).r,.sl (r.getD 2 (.int 0)).r,.bool (r.getD 3 (.int 0)).b,.sl (r.getD 4 (.int 0)).r,.sl (r.getD 5 (.int 0)).r,.bool (r.getD 6 (.int 0)).b,.sl (r.getD 7 (.int 0)).r,.sl (r.getD 8 (.int 0)).r,.bool (r.getD 9 (.int 0)).b,.sl (r.getD 10 (.int 0)).r,.sl (r.getD 11 (.int 0)).r,.bool (r.getD 12 (.int 0)).b,.sl (r.getD 13 (.int 0)).r,.sl (r.getD 14 (.int 0)).r,.bool (r.getD 15 (.int 0)).b,.sl (r.getD 16 (.int 0)).r,.sl (r.getD 17 (.int 0)).r]:=by
 obtain ⟨_,_,rfl,q0,h0⟩:=h.cons
 obtain ⟨_,rfl⟩:=Dat.has_bool q0
 obtain ⟨_,_,rfl,q1,h1⟩:=h0.cons
 obtain ⟨_,rfl⟩:=Dat.has_sl q1
 obtain ⟨_,_,rfl,q2,h2⟩:=h1.cons
 obtain ⟨_,rfl⟩:=Dat.has_sl q2
 obtain ⟨_,_,rfl,q3,h3⟩:=h2.cons
 obtain ⟨_,rfl⟩:=Dat.has_bool q3
 obtain ⟨_,_,rfl,q4,h4⟩:=h3.cons
 obtain ⟨_,rfl⟩:=Dat.has_sl q4
 obtain ⟨_,_,rfl,q5,h5⟩:=h4.cons
 obtain ⟨_,rfl⟩:=Dat.has_sl q5
 obtain ⟨_,_,rfl,q6,h6⟩:=h5.cons
 obtain ⟨_,rfl⟩:=Dat.has_bool q6
 obtain ⟨_,_,rfl,q7,h7⟩:=h6.cons
 obtain ⟨_,rfl⟩:=Dat.has_sl q7
 obtain ⟨_,_,rfl,q8,h8⟩:=h7.cons
 obtain ⟨_,rfl⟩:=Dat.has_sl q8
 obtain ⟨_,_,rfl,q9,h9⟩:=h8.cons
 obtain ⟨_,rfl⟩:=Dat.has_bool q9
 obtain ⟨_,_,rfl,q10,h10⟩:=h9.cons
 obtain ⟨_,rfl⟩:=Dat.has_sl q10
 obtain ⟨_,_,rfl,q11,h11⟩:=h10.cons
 obtain ⟨_,rfl⟩:=Dat.has_sl q11
 obtain ⟨_,_,rfl,q12,h12⟩:=h11.cons
 obtain ⟨_,rfl⟩:=Dat.has_bool q12
 obtain ⟨_,_,rfl,q13,h13⟩:=h12.cons
 obtain ⟨_,rfl⟩:=Dat.has_sl q13
 obtain ⟨_,_,rfl,q14,h14⟩:=h13.cons
 obtain ⟨_,rfl⟩:=Dat.has_sl q14
 obtain ⟨_,_,rfl,q15,h15⟩:=h14.cons
 obtain ⟨_,rfl⟩:=Dat.has_bool q15
 obtain ⟨_,_,rfl,q16,h16⟩:=h15.cons
 obtain ⟨_,rfl⟩:=Dat.has_sl q16
 obtain ⟨_,_,rfl,q17,h17⟩:=h16.cons
 obtain ⟨_,rfl⟩:=Dat.has_sl q17
 obtain rfl:=hasRow.nil h17
 rfl
theorem QW {r:List Dat} (h:hasRow [.bool,.sl 3 [.int],.sl 3 [.int],.bool,.sl 3 [.int],.sl 3 [.int],.bool,.sl 3 [.int],.sl 3 [.int],.bool,.sl 3 [.int],.sl 3 [.int],.bool,.sl 3 [.int],.sl 3 [.int],.bool,.sl 3 [.int],.sl 3 [.int]] r):AC r=(AC [.bool (r.getD 0 (.int 0)).b,.sl (r.getD 1 (.int 0)).r,.sl (r.getD 2 (.int 0)).r])+(AC [.bool (r.getD 3 (.int 0)).b,.sl (r.getD 4 (.int 0)).r,.sl (r.getD 5 (.int 0)).r])+(AC [.bool (r.getD 6 (.int 0)).b,.sl (r.getD 7 (.int 0)).r,.sl (r.getD 8 (.int 0)).r])+(AC [.bool (r.getD 9 (.int 0)).b,.sl (r.getD 10 (.int 0)).r,.sl (r.getD 11 (.int 0)).r])+(AC [.bool (r.getD 12 (.int 0)).b,.sl (r.getD 13 (.int 0)).r,.sl (r.getD 14 (.int 0)).r])+(AC [.bool (r.getD 15 (.int 0)).b,.sl (r.getD 16 (.int 0)).r,.sl (r.getD 17 (.int 0)).r]):=by
 conv=>lhs;rw [Me h]
 simp only [AC,Dat.sz]
 omega
theorem QX {r:List Dat} (h:hasRow [.bool,.sl 3 [.int],.sl 3 [.int],.bool,.sl 3 [.int],.sl 3 [.int],.bool,.sl 3 [.int],.sl 3 [.int],.bool,.sl 3 [.int],.sl 3 [.int],.bool,.sl 3 [.int],.sl 3 [.int],.bool,.sl 3 [.int],.sl 3 [.int]] r):Dat.has .bool (.bool (r.getD 0 (.int 0)).b)/\Dat.has (.sl 3 [.int]) (.sl (r.getD 1 (.int 0)).r)/\Dat.has (.sl 3 [.int]) (.sl (r.getD 2 (.int 0)).r)/\Dat.has .bool (.bool (r.getD 3 (.int 0)).b)/\Dat.has (.sl 3 [.int]) (.sl (r.getD 4 (.int 0)).r)/\Dat.has (.sl 3 [.int]) (.sl (r.getD 5 (.int 0)).r)/\Dat.has .bool (.bool (r.getD 6 (.int 0)).b)/\Dat.has (.sl 3 [.int]) (.sl (r.getD 7 (.int 0)).r)/\Dat.has (.sl 3 [.int]) (.sl (r.getD 8 (.int 0)).r)/\Dat.has .bool (.bool (r.getD 9 (.int 0)).b)/\Dat.has (.sl 3 [.int]) (.sl (r.getD 10 (.int 0)).r)/\Dat.has (.sl 3 [.int]) (.sl (r.getD 11 (.int 0)).r)/\Dat.has .bool (.bool (r.getD 12 (.int 0)).b)/\Dat.has (.sl 3 [.int]) (.sl (r.getD 13 (.int 0)).r)/\Dat.has (.sl 3 [.int]) (.sl (r.getD 14 (.int 0)).r)/\Dat.has .bool (.bool (r.getD 15 (.int 0)).b)/\Dat.has (.sl 3 [.int]) (.sl (r.getD 16 (.int 0)).r)/\Dat.has (.sl 3 [.int]) (.sl (r.getD 17 (.int 0)).r):=by
 rw [Me h] at h
 simpa only [hasRow,and_true] using h
def EO:Con:={ ι:=(List Dat)×Int,pre:=λ i=>hasRow [.bool,.sl 3 [.int],.sl 3 [.int],.bool,.sl 3 [.int],.sl 3 [.int],.bool,.sl 3 [.int],.sl 3 [.int],.bool,.sl 3 [.int],.sl 3 [.int],.bool,.sl 3 [.int],.sl 3 [.int],.bool,.sl 3 [.int],.sl 3 [.int]] i.1/\0<=i.2/\i.2<=1048576,args:=λ i=>[Gy i.1,.one (cI i.2)],res:=λ i=>⟨false,[none],[rcI (szR (AC i.1) i.2)]⟩ }
theorem Ri:EO.Ok Tryz.prog 112:=by
 refine fok (X:=⟨tt,[(36,AS)],[],42,[]⟩) mixed AH (CTok.cons Nl (CTok.nil _)) Tryz.func112 (λ _=>[]) ?_
 rintro ⟨r,n⟩ hpre
 have hpre:hasRow [.bool,.sl 3 [.int],.sl 3 [.int],.bool,.sl 3 [.int],.sl 3 [.int],.bool,.sl 3 [.int],.sl 3 [.int],.bool,.sl 3 [.int],.sl 3 [.int],.bool,.sl 3 [.int],.sl 3 [.int],.bool,.sl 3 [.int],.sl 3 [.int]] r/\0<=n/\n<=1048576:=hpre
 refine AI (q:=let Z1:=(vI (-1:Int)=vI (szR (AC r) n));∃ i1:RatD×Int,let Z2:=szR (AC [.bool i1.1.neg,.sl i1.1.num,.sl i1.1.den]) i1.2;[w84 r,DA.one (cI n)]=AS.args i1/\AS.pre i1/\(ifB ((decide (Z2<(0:Int)))) Z1 (∃ i2:RatD×Int,let Z3:=szR (AC [.bool i2.1.neg,.sl i2.1.num,.sl i2.1.den]) i2.2;[dA r 3 4 5,DA.one (cI Z2)]=AS.args i2/\AS.pre i2/\(ifB ((decide (Z3<(0:Int)))) Z1 (∃ i3:RatD×Int,let Z4:=szR (AC [.bool i3.1.neg,.sl i3.1.num,.sl i3.1.den]) i3.2;[dA r 6 7 8,DA.one (cI Z3)]=AS.args i3/\AS.pre i3/\(ifB ((decide (Z4<(0:Int)))) Z1 (∃ i4:RatD×Int,let Z5:=szR (AC [.bool i4.1.neg,.sl i4.1.num,.sl i4.1.den]) i4.2;[dA r 9 10 11,DA.one (cI Z4)]=AS.args i4/\AS.pre i4/\(ifB ((decide (Z5<(0:Int)))) Z1 (∃ i5:RatD×Int,let Z6:=szR (AC [.bool i5.1.neg,.sl i5.1.num,.sl i5.1.den]) i5.2;[dA r 12 13 14,DA.one (cI Z5)]=AS.args i5/\AS.pre i5/\(ifB ((decide (Z6<(0:Int)))) Z1 (∃ i6:RatD×Int,let Z7:=szR (AC [.bool i6.1.neg,.sl i6.1.num,.sl i6.1.den]) i6.2;[dA r 15 16 17,DA.one (cI Z6)]=AS.args i6/\AS.pre i6/\(ifB ((decide (Z7<(0:Int)))) Z1 ((vI Z7=vI (szR (AC r) n))))))))))))))) (by kernel_rfl) ?_
 conv=>zeta
 delta dA w84 ifB vI
 obtain ⟨hh,h0,h1⟩:=hpre
 have hz:=QW hh
 have hp:=QX hh
 obtain ⟨p0,p1,p2,p3,p4,p5,p6,p7,p8,p9,p10,p11,p12,p13,p14,p15,p16,p17⟩:=hp
 have f0:=A7 (AC [.bool (r.getD 0 (.int 0)).b,.sl (r.getD 1 (.int 0)).r,.sl (r.getD 2 (.int 0)).r]) (n)
 have f1:=A7 (AC [.bool (r.getD 3 (.int 0)).b,.sl (r.getD 4 (.int 0)).r,.sl (r.getD 5 (.int 0)).r]) (szR (AC [.bool (r.getD 0 (.int 0)).b,.sl (r.getD 1 (.int 0)).r,.sl (r.getD 2 (.int 0)).r]) (n))
 have f2:=A7 (AC [.bool (r.getD 6 (.int 0)).b,.sl (r.getD 7 (.int 0)).r,.sl (r.getD 8 (.int 0)).r]) (szR (AC [.bool (r.getD 3 (.int 0)).b,.sl (r.getD 4 (.int 0)).r,.sl (r.getD 5 (.int 0)).r]) (szR (AC [.bool (r.getD 0 (.int 0)).b,.sl (r.getD 1 (.int 0)).r,.sl (r.getD 2 (.int 0)).r]) (n)))
 have f3:=A7 (AC [.bool (r.getD 9 (.int 0)).b,.sl (r.getD 10 (.int 0)).r,.sl (r.getD 11 (.int 0)).r]) (szR (AC [.bool (r.getD 6 (.int 0)).b,.sl (r.getD 7 (.int 0)).r,.sl (r.getD 8 (.int 0)).r]) (szR (AC [.bool (r.getD 3 (.int 0)).b,.sl (r.getD 4 (.int 0)).r,.sl (r.getD 5 (.int 0)).r]) (szR (AC [.bool (r.getD 0 (.int 0)).b,.sl (r.getD 1 (.int 0)).r,.sl (r.getD 2 (.int 0)).r]) (n))))
 have f4:=A7 (AC [.bool (r.getD 12 (.int 0)).b,.sl (r.getD 13 (.int 0)).r,.sl (r.getD 14 (.int 0)).r]) (szR (AC [.bool (r.getD 9 (.int 0)).b,.sl (r.getD 10 (.int 0)).r,.sl (r.getD 11 (.int 0)).r]) (szR (AC [.bool (r.getD 6 (.int 0)).b,.sl (r.getD 7 (.int 0)).r,.sl (r.getD 8 (.int 0)).r]) (szR (AC [.bool (r.getD 3 (.int 0)).b,.sl (r.getD 4 (.int 0)).r,.sl (r.getD 5 (.int 0)).r]) (szR (AC [.bool (r.getD 0 (.int 0)).b,.sl (r.getD 1 (.int 0)).r,.sl (r.getD 2 (.int 0)).r]) (n)))))
 have f5:=A7 (AC [.bool (r.getD 15 (.int 0)).b,.sl (r.getD 16 (.int 0)).r,.sl (r.getD 17 (.int 0)).r]) (szR (AC [.bool (r.getD 12 (.int 0)).b,.sl (r.getD 13 (.int 0)).r,.sl (r.getD 14 (.int 0)).r]) (szR (AC [.bool (r.getD 9 (.int 0)).b,.sl (r.getD 10 (.int 0)).r,.sl (r.getD 11 (.int 0)).r]) (szR (AC [.bool (r.getD 6 (.int 0)).b,.sl (r.getD 7 (.int 0)).r,.sl (r.getD 8 (.int 0)).r]) (szR (AC [.bool (r.getD 3 (.int 0)).b,.sl (r.getD 4 (.int 0)).r,.sl (r.getD 5 (.int 0)).r]) (szR (AC [.bool (r.getD 0 (.int 0)).b,.sl (r.getD 1 (.int 0)).r,.sl (r.getD 2 (.int 0)).r]) (n))))))
 have ft:=A7 (AC r) n
 refine ⟨((RatD.mk ((r.getD 0 (.int 0)).b) ((r.getD 1 (.int 0)).r) ((r.getD 2 (.int 0)).r)),n),by
  rfl,by
  try dsimp only [AS]
  refine ⟨?_,?_,?_⟩ <;> (try dsimp only) <;> first|assumption|omega|exact ⟨p0,p1,p2,trivial⟩|exact ⟨p3,p4,p5,trivial⟩|exact ⟨p6,p7,p8,trivial⟩|exact ⟨p9,p10,p11,trivial⟩|exact ⟨p12,p13,p14,trivial⟩|exact ⟨p15,p16,p17,trivial⟩,?_⟩
 refine ⟨λ c4=>?_,λ c4=>?_⟩
 ·try dsimp only at c4
  try simp only [nrm] at c4
  refine AF ?_;try dsimp only
  omega
 try dsimp only at c4
 try simp only [nrm] at c4
 refine ⟨((RatD.mk ((r.getD 3 (.int 0)).b) ((r.getD 4 (.int 0)).r) ((r.getD 5 (.int 0)).r)),(szR (AC [.bool (RatD.mk ((r.getD 0 (.int 0)).b) ((r.getD 1 (.int 0)).r) ((r.getD 2 (.int 0)).r)).neg,.sl (RatD.mk ((r.getD 0 (.int 0)).b) ((r.getD 1 (.int 0)).r) ((r.getD 2 (.int 0)).r)).num,.sl (RatD.mk ((r.getD 0 (.int 0)).b) ((r.getD 1 (.int 0)).r) ((r.getD 2 (.int 0)).r)).den]) n)),by
  rfl,by
  try dsimp only [AS]
  refine ⟨?_,?_,?_⟩ <;> (try dsimp only) <;> first|assumption|omega|exact ⟨p0,p1,p2,trivial⟩|exact ⟨p3,p4,p5,trivial⟩|exact ⟨p6,p7,p8,trivial⟩|exact ⟨p9,p10,p11,trivial⟩|exact ⟨p12,p13,p14,trivial⟩|exact ⟨p15,p16,p17,trivial⟩,?_⟩
 refine ⟨λ c9=>?_,λ c9=>?_⟩
 ·try dsimp only at c9
  try simp only [nrm] at c9
  refine AF ?_;try dsimp only
  omega
 try dsimp only at c9
 try simp only [nrm] at c9
 refine ⟨((RatD.mk ((r.getD 6 (.int 0)).b) ((r.getD 7 (.int 0)).r) ((r.getD 8 (.int 0)).r)),(szR (AC [.bool (RatD.mk ((r.getD 3 (.int 0)).b) ((r.getD 4 (.int 0)).r) ((r.getD 5 (.int 0)).r)).neg,.sl (RatD.mk ((r.getD 3 (.int 0)).b) ((r.getD 4 (.int 0)).r) ((r.getD 5 (.int 0)).r)).num,.sl (RatD.mk ((r.getD 3 (.int 0)).b) ((r.getD 4 (.int 0)).r) ((r.getD 5 (.int 0)).r)).den]) (szR (AC [.bool (RatD.mk ((r.getD 0 (.int 0)).b) ((r.getD 1 (.int 0)).r) ((r.getD 2 (.int 0)).r)).neg,.sl (RatD.mk ((r.getD 0 (.int 0)).b) ((r.getD 1 (.int 0)).r) ((r.getD 2 (.int 0)).r)).num,.sl (RatD.mk ((r.getD 0 (.int 0)).b) ((r.getD 1 (.int 0)).r) ((r.getD 2 (.int 0)).r)).den]) n))),by
  rfl,by
  try dsimp only [AS]
  refine ⟨?_,?_,?_⟩ <;> (try dsimp only) <;> first|assumption|omega|exact ⟨p0,p1,p2,trivial⟩|exact ⟨p3,p4,p5,trivial⟩|exact ⟨p6,p7,p8,trivial⟩|exact ⟨p9,p10,p11,trivial⟩|exact ⟨p12,p13,p14,trivial⟩|exact ⟨p15,p16,p17,trivial⟩,?_⟩
 refine ⟨λ c14=>?_,λ c14=>?_⟩
 ·try dsimp only at c14
  try simp only [nrm] at c14
  refine AF ?_;try dsimp only
  omega
 try dsimp only at c14
 try simp only [nrm] at c14
 refine ⟨((RatD.mk ((r.getD 9 (.int 0)).b) ((r.getD 10 (.int 0)).r) ((r.getD 11 (.int 0)).r)),(szR (AC [.bool (RatD.mk ((r.getD 6 (.int 0)).b) ((r.getD 7 (.int 0)).r) ((r.getD 8 (.int 0)).r)).neg,.sl (RatD.mk ((r.getD 6 (.int 0)).b) ((r.getD 7 (.int 0)).r) ((r.getD 8 (.int 0)).r)).num,.sl (RatD.mk ((r.getD 6 (.int 0)).b) ((r.getD 7 (.int 0)).r) ((r.getD 8 (.int 0)).r)).den]) (szR (AC [.bool (RatD.mk ((r.getD 3 (.int 0)).b) ((r.getD 4 (.int 0)).r) ((r.getD 5 (.int 0)).r)).neg,.sl (RatD.mk ((r.getD 3 (.int 0)).b) ((r.getD 4 (.int 0)).r) ((r.getD 5 (.int 0)).r)).num,.sl (RatD.mk ((r.getD 3 (.int 0)).b) ((r.getD 4 (.int 0)).r) ((r.getD 5 (.int 0)).r)).den]) (szR (AC [.bool (RatD.mk ((r.getD 0 (.int 0)).b) ((r.getD 1 (.int 0)).r) ((r.getD 2 (.int 0)).r)).neg,.sl (RatD.mk ((r.getD 0 (.int 0)).b) ((r.getD 1 (.int 0)).r) ((r.getD 2 (.int 0)).r)).num,.sl (RatD.mk ((r.getD 0 (.int 0)).b) ((r.getD 1 (.int 0)).r) ((r.getD 2 (.int 0)).r)).den]) n)))),by
  rfl,by
  try dsimp only [AS]
  refine ⟨?_,?_,?_⟩ <;> (try dsimp only) <;> first|assumption|omega|exact ⟨p0,p1,p2,trivial⟩|exact ⟨p3,p4,p5,trivial⟩|exact ⟨p6,p7,p8,trivial⟩|exact ⟨p9,p10,p11,trivial⟩|exact ⟨p12,p13,p14,trivial⟩|exact ⟨p15,p16,p17,trivial⟩,?_⟩
 refine ⟨λ c19=>?_,λ c19=>?_⟩
 ·try dsimp only at c19
  try simp only [nrm] at c19
  refine AF ?_;try dsimp only
  omega
 try dsimp only at c19
 try simp only [nrm] at c19
 refine ⟨((RatD.mk ((r.getD 12 (.int 0)).b) ((r.getD 13 (.int 0)).r) ((r.getD 14 (.int 0)).r)),(szR (AC [.bool (RatD.mk ((r.getD 9 (.int 0)).b) ((r.getD 10 (.int 0)).r) ((r.getD 11 (.int 0)).r)).neg,.sl (RatD.mk ((r.getD 9 (.int 0)).b) ((r.getD 10 (.int 0)).r) ((r.getD 11 (.int 0)).r)).num,.sl (RatD.mk ((r.getD 9 (.int 0)).b) ((r.getD 10 (.int 0)).r) ((r.getD 11 (.int 0)).r)).den]) (szR (AC [.bool (RatD.mk ((r.getD 6 (.int 0)).b) ((r.getD 7 (.int 0)).r) ((r.getD 8 (.int 0)).r)).neg,.sl (RatD.mk ((r.getD 6 (.int 0)).b) ((r.getD 7 (.int 0)).r) ((r.getD 8 (.int 0)).r)).num,.sl (RatD.mk ((r.getD 6 (.int 0)).b) ((r.getD 7 (.int 0)).r) ((r.getD 8 (.int 0)).r)).den]) (szR (AC [.bool (RatD.mk ((r.getD 3 (.int 0)).b) ((r.getD 4 (.int 0)).r) ((r.getD 5 (.int 0)).r)).neg,.sl (RatD.mk ((r.getD 3 (.int 0)).b) ((r.getD 4 (.int 0)).r) ((r.getD 5 (.int 0)).r)).num,.sl (RatD.mk ((r.getD 3 (.int 0)).b) ((r.getD 4 (.int 0)).r) ((r.getD 5 (.int 0)).r)).den]) (szR (AC [.bool (RatD.mk ((r.getD 0 (.int 0)).b) ((r.getD 1 (.int 0)).r) ((r.getD 2 (.int 0)).r)).neg,.sl (RatD.mk ((r.getD 0 (.int 0)).b) ((r.getD 1 (.int 0)).r) ((r.getD 2 (.int 0)).r)).num,.sl (RatD.mk ((r.getD 0 (.int 0)).b) ((r.getD 1 (.int 0)).r) ((r.getD 2 (.int 0)).r)).den]) n))))),by
  rfl,by
  try dsimp only [AS]
  refine ⟨?_,?_,?_⟩ <;> (try dsimp only) <;> first|assumption|omega|exact ⟨p0,p1,p2,trivial⟩|exact ⟨p3,p4,p5,trivial⟩|exact ⟨p6,p7,p8,trivial⟩|exact ⟨p9,p10,p11,trivial⟩|exact ⟨p12,p13,p14,trivial⟩|exact ⟨p15,p16,p17,trivial⟩,?_⟩
 refine ⟨λ c24=>?_,λ c24=>?_⟩
 ·try dsimp only at c24
  try simp only [nrm] at c24
  refine AF ?_;try dsimp only
  omega
 try dsimp only at c24
 try simp only [nrm] at c24
 refine ⟨((RatD.mk ((r.getD 15 (.int 0)).b) ((r.getD 16 (.int 0)).r) ((r.getD 17 (.int 0)).r)),(szR (AC [.bool (RatD.mk ((r.getD 12 (.int 0)).b) ((r.getD 13 (.int 0)).r) ((r.getD 14 (.int 0)).r)).neg,.sl (RatD.mk ((r.getD 12 (.int 0)).b) ((r.getD 13 (.int 0)).r) ((r.getD 14 (.int 0)).r)).num,.sl (RatD.mk ((r.getD 12 (.int 0)).b) ((r.getD 13 (.int 0)).r) ((r.getD 14 (.int 0)).r)).den]) (szR (AC [.bool (RatD.mk ((r.getD 9 (.int 0)).b) ((r.getD 10 (.int 0)).r) ((r.getD 11 (.int 0)).r)).neg,.sl (RatD.mk ((r.getD 9 (.int 0)).b) ((r.getD 10 (.int 0)).r) ((r.getD 11 (.int 0)).r)).num,.sl (RatD.mk ((r.getD 9 (.int 0)).b) ((r.getD 10 (.int 0)).r) ((r.getD 11 (.int 0)).r)).den]) (szR (AC [.bool (RatD.mk ((r.getD 6 (.int 0)).b) ((r.getD 7 (.int 0)).r) ((r.getD 8 (.int 0)).r)).neg,.sl (RatD.mk ((r.getD 6 (.int 0)).b) ((r.getD 7 (.int 0)).r) ((r.getD 8 (.int 0)).r)).num,.sl (RatD.mk ((r.getD 6 (.int 0)).b) ((r.getD 7 (.int 0)).r) ((r.getD 8 (.int 0)).r)).den]) (szR (AC [.bool (RatD.mk ((r.getD 3 (.int 0)).b) ((r.getD 4 (.int 0)).r) ((r.getD 5 (.int 0)).r)).neg,.sl (RatD.mk ((r.getD 3 (.int 0)).b) ((r.getD 4 (.int 0)).r) ((r.getD 5 (.int 0)).r)).num,.sl (RatD.mk ((r.getD 3 (.int 0)).b) ((r.getD 4 (.int 0)).r) ((r.getD 5 (.int 0)).r)).den]) (szR (AC [.bool (RatD.mk ((r.getD 0 (.int 0)).b) ((r.getD 1 (.int 0)).r) ((r.getD 2 (.int 0)).r)).neg,.sl (RatD.mk ((r.getD 0 (.int 0)).b) ((r.getD 1 (.int 0)).r) ((r.getD 2 (.int 0)).r)).num,.sl (RatD.mk ((r.getD 0 (.int 0)).b) ((r.getD 1 (.int 0)).r) ((r.getD 2 (.int 0)).r)).den]) n)))))),by
  rfl,by
  try dsimp only [AS]
  refine ⟨?_,?_,?_⟩ <;> (try dsimp only) <;> first|assumption|omega|exact ⟨p0,p1,p2,trivial⟩|exact ⟨p3,p4,p5,trivial⟩|exact ⟨p6,p7,p8,trivial⟩|exact ⟨p9,p10,p11,trivial⟩|exact ⟨p12,p13,p14,trivial⟩|exact ⟨p15,p16,p17,trivial⟩,?_⟩
 refine ⟨λ c29=>?_,λ c29=>?_⟩
 ·try dsimp only at c29
  try simp only [nrm] at c29
  refine AF ?_;try dsimp only
  omega
 try dsimp only at c29
 try simp only [nrm] at c29
 show Value.int .i64 (szR (AC [.bool (RatD.mk ((r.getD 15 (.int 0)).b) ((r.getD 16 (.int 0)).r) ((r.getD 17 (.int 0)).r)).neg,.sl (RatD.mk ((r.getD 15 (.int 0)).b) ((r.getD 16 (.int 0)).r) ((r.getD 17 (.int 0)).r)).num,.sl (RatD.mk ((r.getD 15 (.int 0)).b) ((r.getD 16 (.int 0)).r) ((r.getD 17 (.int 0)).r)).den]) (szR (AC [.bool (RatD.mk ((r.getD 12 (.int 0)).b) ((r.getD 13 (.int 0)).r) ((r.getD 14 (.int 0)).r)).neg,.sl (RatD.mk ((r.getD 12 (.int 0)).b) ((r.getD 13 (.int 0)).r) ((r.getD 14 (.int 0)).r)).num,.sl (RatD.mk ((r.getD 12 (.int 0)).b) ((r.getD 13 (.int 0)).r) ((r.getD 14 (.int 0)).r)).den]) (szR (AC [.bool (RatD.mk ((r.getD 9 (.int 0)).b) ((r.getD 10 (.int 0)).r) ((r.getD 11 (.int 0)).r)).neg,.sl (RatD.mk ((r.getD 9 (.int 0)).b) ((r.getD 10 (.int 0)).r) ((r.getD 11 (.int 0)).r)).num,.sl (RatD.mk ((r.getD 9 (.int 0)).b) ((r.getD 10 (.int 0)).r) ((r.getD 11 (.int 0)).r)).den]) (szR (AC [.bool (RatD.mk ((r.getD 6 (.int 0)).b) ((r.getD 7 (.int 0)).r) ((r.getD 8 (.int 0)).r)).neg,.sl (RatD.mk ((r.getD 6 (.int 0)).b) ((r.getD 7 (.int 0)).r) ((r.getD 8 (.int 0)).r)).num,.sl (RatD.mk ((r.getD 6 (.int 0)).b) ((r.getD 7 (.int 0)).r) ((r.getD 8 (.int 0)).r)).den]) (szR (AC [.bool (RatD.mk ((r.getD 3 (.int 0)).b) ((r.getD 4 (.int 0)).r) ((r.getD 5 (.int 0)).r)).neg,.sl (RatD.mk ((r.getD 3 (.int 0)).b) ((r.getD 4 (.int 0)).r) ((r.getD 5 (.int 0)).r)).num,.sl (RatD.mk ((r.getD 3 (.int 0)).b) ((r.getD 4 (.int 0)).r) ((r.getD 5 (.int 0)).r)).den]) (szR (AC [.bool (RatD.mk ((r.getD 0 (.int 0)).b) ((r.getD 1 (.int 0)).r) ((r.getD 2 (.int 0)).r)).neg,.sl (RatD.mk ((r.getD 0 (.int 0)).b) ((r.getD 1 (.int 0)).r) ((r.getD 2 (.int 0)).r)).num,.sl (RatD.mk ((r.getD 0 (.int 0)).b) ((r.getD 1 (.int 0)).r) ((r.getD 2 (.int 0)).r)).den]) n))))))=Value.int .i64 (szR (AC r) n)
 refine AF ?_;try dsimp only
 omega
def EP:Con:={ ι:=(List Dat),pre:=λ i=>hasRow [.bool,.sl 3 [.int],.sl 3 [.int],.bool,.sl 3 [.int],.sl 3 [.int],.bool,.sl 3 [.int],.sl 3 [.int],.bool,.sl 3 [.int],.sl 3 [.int],.bool,.sl 3 [.int],.sl 3 [.int],.bool,.sl 3 [.int],.sl 3 [.int]] i/\AC i<=1048576,args:=λ i=>[Gy i],res:=λ i=>⟨false,[some 18],[rcB ((i.getD 0 (.int 0)).b),.own 3 [.int] ((i.getD 1 (.int 0)).r),.own 3 [.int] ((i.getD 2 (.int 0)).r),rcB ((i.getD 3 (.int 0)).b),.own 3 [.int] ((i.getD 4 (.int 0)).r),.own 3 [.int] ((i.getD 5 (.int 0)).r),rcB ((i.getD 6 (.int 0)).b),.own 3 [.int] ((i.getD 7 (.int 0)).r),.own 3 [.int] ((i.getD 8 (.int 0)).r),rcB ((i.getD 9 (.int 0)).b),.own 3 [.int] ((i.getD 10 (.int 0)).r),.own 3 [.int] ((i.getD 11 (.int 0)).r),rcB ((i.getD 12 (.int 0)).b),.own 3 [.int] ((i.getD 13 (.int 0)).r),.own 3 [.int] ((i.getD 14 (.int 0)).r),rcB ((i.getD 15 (.int 0)).b),.own 3 [.int] ((i.getD 16 (.int 0)).r),.own 3 [.int] ((i.getD 17 (.int 0)).r)]⟩ }
theorem Rj:EP.Ok Tryz.prog 119:=by
 refine fok (X:=⟨tt,[(38,AT)],[],29,[]⟩) mixed AH (CTok.cons Nn (CTok.nil _)) Tryz.func119 (λ _=>[]) ?_
 intro (r:List Dat) hpre
 have hpre:hasRow [.bool,.sl 3 [.int],.sl 3 [.int],.bool,.sl 3 [.int],.sl 3 [.int],.bool,.sl 3 [.int],.sl 3 [.int],.bool,.sl 3 [.int],.sl 3 [.int],.bool,.sl 3 [.int],.sl 3 [.int],.bool,.sl 3 [.int],.sl 3 [.int]] r/\AC r<=1048576:=hpre
 refine AI (q:=∃ i1:RatD,[w84 r]=AT.args i1/\AT.pre i1/\(∃ i2:RatD,[dA r 3 4 5]=AT.args i2/\AT.pre i2/\(∃ i3:RatD,[dA r 6 7 8]=AT.args i3/\AT.pre i3/\(∃ i4:RatD,[dA r 9 10 11]=AT.args i4/\AT.pre i4/\(∃ i5:RatD,[dA r 12 13 14]=AT.args i5/\AT.pre i5/\(∃ i6:RatD,[dA r 15 16 17]=AT.args i6/\AT.pre i6/\((vB i1.neg=vB ((r.getD 0 (.int 0)).b))/\(i1.num=(r.getD 1 (.int 0)).r)/\(i1.den=(r.getD 2 (.int 0)).r)/\(vB i2.neg=vB ((r.getD 3 (.int 0)).b))/\(i2.num=(r.getD 4 (.int 0)).r)/\(i2.den=(r.getD 5 (.int 0)).r)/\(vB i3.neg=vB ((r.getD 6 (.int 0)).b))/\(i3.num=(r.getD 7 (.int 0)).r)/\(i3.den=(r.getD 8 (.int 0)).r)/\(vB i4.neg=vB ((r.getD 9 (.int 0)).b))/\(i4.num=(r.getD 10 (.int 0)).r)/\(i4.den=(r.getD 11 (.int 0)).r)/\(vB i5.neg=vB ((r.getD 12 (.int 0)).b))/\(i5.num=(r.getD 13 (.int 0)).r)/\(i5.den=(r.getD 14 (.int 0)).r)/\(vB i6.neg=vB ((r.getD 15 (.int 0)).b))/\(i6.num=(r.getD 16 (.int 0)).r)/\(i6.den=(r.getD 17 (.int 0)).r)))))))) (by kernel_rfl) ?_
 delta dA w84 vB
 have hz:=QW hpre.1
 have hs:=hpre.2
 have hp:=QX hpre.1
 obtain ⟨p0,p1,p2,p3,p4,p5,p6,p7,p8,p9,p10,p11,p12,p13,p14,p15,p16,p17⟩:=hp
 refine ⟨(RatD.mk ((r.getD 0 (.int 0)).b) ((r.getD 1 (.int 0)).r) ((r.getD 2 (.int 0)).r)),by
  rfl,by
  try dsimp only [AT]
  omega,?_⟩
 refine ⟨(RatD.mk ((r.getD 3 (.int 0)).b) ((r.getD 4 (.int 0)).r) ((r.getD 5 (.int 0)).r)),by
  rfl,by
  try dsimp only [AT]
  omega,?_⟩
 refine ⟨(RatD.mk ((r.getD 6 (.int 0)).b) ((r.getD 7 (.int 0)).r) ((r.getD 8 (.int 0)).r)),by
  rfl,by
  try dsimp only [AT]
  omega,?_⟩
 refine ⟨(RatD.mk ((r.getD 9 (.int 0)).b) ((r.getD 10 (.int 0)).r) ((r.getD 11 (.int 0)).r)),by
  rfl,by
  try dsimp only [AT]
  omega,?_⟩
 refine ⟨(RatD.mk ((r.getD 12 (.int 0)).b) ((r.getD 13 (.int 0)).r) ((r.getD 14 (.int 0)).r)),by
  rfl,by
  try dsimp only [AT]
  omega,?_⟩
 refine ⟨(RatD.mk ((r.getD 15 (.int 0)).b) ((r.getD 16 (.int 0)).r) ((r.getD 17 (.int 0)).r)),by
  rfl,by
  try dsimp only [AT]
  omega,?_⟩
 refine ⟨?_,?_,?_,?_,?_,?_,?_,?_,?_,?_,?_,?_,?_,?_,?_,?_,?_,?_⟩
 ·rfl
 ·rfl
 ·rfl
 ·rfl
 ·rfl
 ·rfl
 ·rfl
 ·rfl
 ·rfl
 ·rfl
 ·rfl
 ·rfl
 ·rfl
 ·rfl
 ·rfl
 ·rfl
 ·rfl
 rfl
def F8:Con:={ ι:=(List Dat),pre:=λ i=>True,args:=λ i=>[Gy i,Gy i],res:=λ i=>⟨false,[none],[rcB true]⟩ }
theorem Rk:F8.Ok Tryz.prog 111:=by
 refine fok (X:=⟨tt,[(41,Am)],[],41,[]⟩) mixed AH (CTok.cons Nm (CTok.nil _)) Tryz.func111 (λ _=>[]) ?_
 intro (r:List Dat) hpre
 have hpre:True:=hpre
 refine AI (q:=let Z1:=(vB false=vB true);∃ i1:RatD,[w84 r,w84 r]=Am.args i1/\Am.pre i1/\(ifB ((!true)) Z1 (∃ i2:RatD,[dA r 3 4 5,dA r 3 4 5]=Am.args i2/\Am.pre i2/\(ifB ((!true)) Z1 (∃ i3:RatD,[dA r 6 7 8,dA r 6 7 8]=Am.args i3/\Am.pre i3/\(ifB ((!true)) Z1 (∃ i4:RatD,[dA r 9 10 11,dA r 9 10 11]=Am.args i4/\Am.pre i4/\(ifB ((!true)) Z1 (∃ i5:RatD,[dA r 12 13 14,dA r 12 13 14]=Am.args i5/\Am.pre i5/\(ifB ((!true)) Z1 (∃ i6:RatD,[dA r 15 16 17,dA r 15 16 17]=Am.args i6/\Am.pre i6/\(ifB ((!true)) Z1 ((vB true=vB true)))))))))))))) (by kernel_rfl) ?_
 conv=>zeta
 delta dA w84 ifB vB
 refine ⟨(RatD.mk ((r.getD 0 (.int 0)).b) ((r.getD 1 (.int 0)).r) ((r.getD 2 (.int 0)).r)),by
  rfl,by
  trivial,?_⟩
 refine ⟨λ c4=>?_,λ c4=>?_⟩
 ·try simp only [nrm] at c4
  exfalso;simp_all;done
 try simp only [nrm] at c4
 refine ⟨(RatD.mk ((r.getD 3 (.int 0)).b) ((r.getD 4 (.int 0)).r) ((r.getD 5 (.int 0)).r)),by
  rfl,by
  trivial,?_⟩
 refine ⟨λ c9=>?_,λ c9=>?_⟩
 ·try simp only [nrm] at c9
  exfalso;simp_all;done
 try simp only [nrm] at c9
 refine ⟨(RatD.mk ((r.getD 6 (.int 0)).b) ((r.getD 7 (.int 0)).r) ((r.getD 8 (.int 0)).r)),by
  rfl,by
  trivial,?_⟩
 refine ⟨λ c14=>?_,λ c14=>?_⟩
 ·try simp only [nrm] at c14
  exfalso;simp_all;done
 try simp only [nrm] at c14
 refine ⟨(RatD.mk ((r.getD 9 (.int 0)).b) ((r.getD 10 (.int 0)).r) ((r.getD 11 (.int 0)).r)),by
  rfl,by
  trivial,?_⟩
 refine ⟨λ c19=>?_,λ c19=>?_⟩
 ·try simp only [nrm] at c19
  exfalso;simp_all;done
 try simp only [nrm] at c19
 refine ⟨(RatD.mk ((r.getD 12 (.int 0)).b) ((r.getD 13 (.int 0)).r) ((r.getD 14 (.int 0)).r)),by
  rfl,by
  trivial,?_⟩
 refine ⟨λ c24=>?_,λ c24=>?_⟩
 ·try simp only [nrm] at c24
  exfalso;simp_all;done
 try simp only [nrm] at c24
 refine ⟨(RatD.mk ((r.getD 15 (.int 0)).b) ((r.getD 16 (.int 0)).r) ((r.getD 17 (.int 0)).r)),by
  rfl,by
  trivial,?_⟩
 refine ⟨λ c29=>?_,λ c29=>?_⟩
 ·try simp only [nrm] at c29
  exfalso;simp_all;done
 try simp only [nrm] at c29
 exact rfl
def De:Con:={ ι:=(List (List Dat))×Int,pre:=λ i=>Dat.has (.sl 168 [.int,.int]) (.sl i.1)/\0<=i.2/\i.2<=1048576,args:=λ i=>[.one (DC.sl 172 [.int,.int] i.1),.one (cI i.2)],res:=λ i=>⟨false,[none],[rcI (szR (i.1.length+AA i.1) i.2)]⟩ }
theorem O9:De.Ok Tryz.prog 53:=by
 refine fok (X:=⟨tt,[],[],12,[]⟩) mixed AH (CTok.nil _) Tryz.func53 (λ _=>[]) ?_
 rintro ⟨l,n⟩ hpre
 have hpre:Dat.has (.sl 168 [.int,.int]) (.sl l)/\0<=n/\n<=1048576:=hpre
 refine AI (q:=let Z2:=wR (n-(nI l.length));let Z1:=szR (l.length+AA l) n;ifB ((decide (Z2<(0:Int)))) ((vI (-1:Int)=vI Z1)) ((vI Z2=vI Z1))) (by kernel_rfl) ?_
 conv=>zeta
 delta ifB vI wR nI
 obtain ⟨hh,h0,h1⟩:=hpre
 have hz:=Kf (by decide) hh
 simp only [Dat.has] at hh
 obtain ⟨hl,-⟩:=hh
 have hw:IntKind.i64.wrap (n-(l.length:Int))=n-l.length:=AD (by omega) (by omega)
 refine ⟨λ c1=>?_,λ c1=>?_⟩
 ·try simp only [nrm] at c1
  refine AF ?_;try rw [hw] at *;grind [szR]
 try simp only [nrm] at c1
 refine AF ?_;try rw [hw] at *;grind [szR]
def Df:Con:={ ι:=(List (List Dat))×Int,pre:=λ i=>Dat.has (.sl 164 [.bool,.sl 3 [.int],.sl 3 [.int],.bool,.sl 3 [.int],.sl 3 [.int],.bool,.sl 3 [.int],.sl 3 [.int]]) (.sl i.1)/\0<=i.2/\i.2<=1048576,args:=λ i=>[.one (DC.sl 164 CR i.1),.one (cI i.2)],res:=λ i=>⟨false,[none],[rcI (szR (i.1.length+AA i.1) i.2)]⟩ }
theorem PA:Df.Ok Tryz.prog 52:=by
 refine fok (X:=⟨tt,[(113,F5)],[],27,[]⟩) mixed AH (CTok.cons Rf (CTok.nil _)) Tryz.func52 (λ (i:(List (List Dat))×Int)=>[(5,.mk 2 (Nat×Int) (λ x1=>{ tm:=[(0,tX 1),(4,tI (0:Int)),(5,tI (x1.1:Int)),(1,tI x1.2)],en:=[(1,.view 164 CR i.1 [])] }) (λ x1=>x1.1<=i.1.length/\0<=x1.2/\x1.2+i.1.length+AA (i.1.take x1.1)=i.2) (λ x1=>i.1.length-x1.1) (λ _=>[]))]) ?_
 rintro ⟨l,n⟩ hpre
 have hpre:Dat.has (.sl 164 [.bool,.sl 3 [.int],.sl 3 [.int],.bool,.sl 3 [.int],.sl 3 [.int],.bool,.sl 3 [.int],.sl 3 [.int]]) (.sl l)/\0<=n/\n<=1048576:=hpre
 refine AI (q:=let Z5:=wR (n-(nI l.length));let Z2:=szR (l.length+AA l) n;let Z4:=(vI (-1:Int)=vI Z2);ifB ((decide (Z5<(0:Int)))) Z4 ((∃ x1:Nat×Int,(x1.1<=l.length/\0<=x1.2/\x1.2+l.length+AA (l.take x1.1)=n)/\((rf (vI (0:Int)))/\(vI (0:Int)=vI (x1.1:Int))/\(vI Z5=vI x1.2)/\(rf (l))))/\∀ x1:Nat×Int,let Z3:=(x1.1:Int);let Z1:=l.getD x1.1 [];(x1.1<=l.length/\0<=x1.2/\x1.2+l.length+AA (l.take x1.1)=n)->(ifB ((decide (Z3<(nI l.length)))) ((0<=Z3/\Z3<(l.length:Int))/\((x1.1<l.length)/\(∃ i1:(List Dat)×Int,[DA.agg [cB (((Z1.getD 0 (.int 0))).b),cS (((Z1.getD 1 (.int 0))).r),cS (((Z1.getD 2 (.int 0))).r),cB (((Z1.getD 3 (.int 0))).b),cS (((Z1.getD 4 (.int 0))).r),cS (((Z1.getD 5 (.int 0))).r),cB (((Z1.getD 6 (.int 0))).b),cS (((Z1.getD 7 (.int 0))).r),cS (((Z1.getD 8 (.int 0))).r)],DA.one (cI x1.2)]=F5.args i1/\F5.pre i1/\(ifB ((decide ((szR (AC i1.1) i1.2)<(0:Int)))) Z4 (∃ y2:Nat×Int,(y2.1<=l.length/\0<=y2.2/\y2.2+l.length+AA (l.take y2.1)=n)/\(l.length-y2.1<l.length-x1.1)/\((rf (vI (0:Int)))/\(vI (wR (Z3+(1:Int)))=vI (y2.1:Int))/\(vI (szR (AC i1.1) i1.2)=vI y2.2)/\(rf (l)))))))) ((vI x1.2=vI Z2))))) (by kernel_rfl) ?_
 conv=>zeta
 delta ifB vI wR nI
 obtain ⟨hh,h0,h1⟩:=hpre
 have hh2:=BH hh
 have hl:=Cz hh
 have hw:IntKind.i64.wrap (n-(l.length:Int))=n-l.length:=AD (by omega) (by omega)
 refine ⟨λ c1=>?_,λ c1=>?_⟩
 ·try simp only [nrm] at c1
  refine AF ?_;try rw [hw] at *;grind [szR]
 try simp only [nrm] at c1
 refine ⟨⟨(0,n-l.length),by
  rw [hw] at c1;simp [AA];omega,?_⟩,?_⟩
 ·refine ⟨rfl,rfl,?_,rfl⟩
  exact AF hw
 rintro ⟨k,m⟩ hki3
 have hki3:k<=l.length/\0<=m/\m+l.length+AA (l.take k)=n:=hki3
 have hle:=Aq l k
 refine And.symm ⟨λ c9=>?_,λ c9=>?_⟩
 ·try simp only [nrm] at c9
  obtain rfl:k=l.length:=by omega
  rw [List.take_length] at hki3
  refine AF ?_;try rw [hw] at *;grind [szR]
 try simp only [nrm] at c9
 refine ao (a:=0<=(k:Int)/\(k:Int)<(l.length:Int)) (by omega) λ o10=>?_
 refine ao (a:=k<l.length) (by omega) λ o11=>?_
 refine ⟨(l.getD k [],m),by
  rfl,by
  show hasRow [.bool,.sl 3 [.int],.sl 3 [.int],.bool,.sl 3 [.int],.sl 3 [.int],.bool,.sl 3 [.int],.sl 3 [.int]] (l.getD k [])/\0<=m/\m<=1048576
  refine ⟨?_,by omega,by omega⟩
  have:=hh2 k (by omega)
  exact this,?_⟩
 have hle:=Aq l (k+1)
 have hts:=B3 l k (by omega)
 have hrow:=hh2 k (by omega)
 refine ⟨λ c15=>?_,λ c15=>?_⟩
 ·try simp only [nrm] at c15
  refine AF ?_;try rw [hw] at *;grind [szR]
 try simp only [nrm] at c15
 refine ⟨(k+1,szR (AC (l.getD k [])) m),by
  unfold szR at *;grind,by
  omega,?_⟩
 refine ⟨rfl,?_,rfl,rfl⟩
 exact AF (AD (by omega) (by omega))
def Dg:Con:={ ι:=(List (List Dat))×Int,pre:=λ i=>Dat.has (.sl 161 [.bool,.sl 3 [.int],.sl 3 [.int],.bool,.sl 3 [.int],.sl 3 [.int],.bool,.sl 3 [.int],.sl 3 [.int],.bool,.sl 3 [.int],.sl 3 [.int],.bool,.sl 3 [.int],.sl 3 [.int],.bool,.sl 3 [.int],.sl 3 [.int]]) (.sl i.1)/\0<=i.2/\i.2<=1048576,args:=λ i=>[.one (DC.sl 161 CS i.1),.one (cI i.2)],res:=λ i=>⟨false,[none],[rcI (szR (i.1.length+AA i.1) i.2)]⟩ }
theorem PB:Dg.Ok Tryz.prog 51:=by
 refine fok (X:=⟨tt,[(112,EO)],[],27,[]⟩) mixed AH (CTok.cons Ri (CTok.nil _)) Tryz.func51 (λ (i:(List (List Dat))×Int)=>[(5,.mk 2 (Nat×Int) (λ x1=>{ tm:=[(0,tX 1),(4,tI (0:Int)),(5,tI (x1.1:Int)),(1,tI x1.2)],en:=[(1,.view 161 CS i.1 [])] }) (λ x1=>x1.1<=i.1.length/\0<=x1.2/\x1.2+i.1.length+AA (i.1.take x1.1)=i.2) (λ x1=>i.1.length-x1.1) (λ _=>[]))]) ?_
 rintro ⟨l,n⟩ hpre
 have hpre:Dat.has (.sl 161 [.bool,.sl 3 [.int],.sl 3 [.int],.bool,.sl 3 [.int],.sl 3 [.int],.bool,.sl 3 [.int],.sl 3 [.int],.bool,.sl 3 [.int],.sl 3 [.int],.bool,.sl 3 [.int],.sl 3 [.int],.bool,.sl 3 [.int],.sl 3 [.int]]) (.sl l)/\0<=n/\n<=1048576:=hpre
 refine AI (q:=let Z5:=wR (n-(nI l.length));let Z2:=szR (l.length+AA l) n;let Z4:=(vI (-1:Int)=vI Z2);ifB ((decide (Z5<(0:Int)))) Z4 ((∃ x1:Nat×Int,(x1.1<=l.length/\0<=x1.2/\x1.2+l.length+AA (l.take x1.1)=n)/\((rf (vI (0:Int)))/\(vI (0:Int)=vI (x1.1:Int))/\(vI Z5=vI x1.2)/\(rf (l))))/\∀ x1:Nat×Int,let Z3:=(x1.1:Int);let Z1:=l.getD x1.1 [];(x1.1<=l.length/\0<=x1.2/\x1.2+l.length+AA (l.take x1.1)=n)->(ifB ((decide (Z3<(nI l.length)))) ((0<=Z3/\Z3<(l.length:Int))/\((x1.1<l.length)/\(∃ i1:(List Dat)×Int,[DA.agg [cB (((Z1.getD 0 (.int 0))).b),cS (((Z1.getD 1 (.int 0))).r),cS (((Z1.getD 2 (.int 0))).r),cB (((Z1.getD 3 (.int 0))).b),cS (((Z1.getD 4 (.int 0))).r),cS (((Z1.getD 5 (.int 0))).r),cB (((Z1.getD 6 (.int 0))).b),cS (((Z1.getD 7 (.int 0))).r),cS (((Z1.getD 8 (.int 0))).r),cB (((Z1.getD 9 (.int 0))).b),cS (((Z1.getD 10 (.int 0))).r),cS (((Z1.getD 11 (.int 0))).r),cB (((Z1.getD 12 (.int 0))).b),cS (((Z1.getD 13 (.int 0))).r),cS (((Z1.getD 14 (.int 0))).r),cB (((Z1.getD 15 (.int 0))).b),cS (((Z1.getD 16 (.int 0))).r),cS (((Z1.getD 17 (.int 0))).r)],DA.one (cI x1.2)]=EO.args i1/\EO.pre i1/\(ifB ((decide ((szR (AC i1.1) i1.2)<(0:Int)))) Z4 (∃ y2:Nat×Int,(y2.1<=l.length/\0<=y2.2/\y2.2+l.length+AA (l.take y2.1)=n)/\(l.length-y2.1<l.length-x1.1)/\((rf (vI (0:Int)))/\(vI (wR (Z3+(1:Int)))=vI (y2.1:Int))/\(vI (szR (AC i1.1) i1.2)=vI y2.2)/\(rf (l)))))))) ((vI x1.2=vI Z2))))) (by kernel_rfl) ?_
 conv=>zeta
 delta ifB vI wR nI
 obtain ⟨hh,h0,h1⟩:=hpre
 have hh2:=BH hh
 have hl:=Cz hh
 have hw:IntKind.i64.wrap (n-(l.length:Int))=n-l.length:=AD (by omega) (by omega)
 refine ⟨λ c1=>?_,λ c1=>?_⟩
 ·try simp only [nrm] at c1
  refine AF ?_;try rw [hw] at *;grind [szR]
 try simp only [nrm] at c1
 refine ⟨⟨(0,n-l.length),by
  rw [hw] at c1;simp [AA];omega,?_⟩,?_⟩
 ·refine ⟨rfl,rfl,?_,rfl⟩
  exact AF hw
 rintro ⟨k,m⟩ hki3
 have hki3:k<=l.length/\0<=m/\m+l.length+AA (l.take k)=n:=hki3
 have hle:=Aq l k
 refine And.symm ⟨λ c9=>?_,λ c9=>?_⟩
 ·try simp only [nrm] at c9
  obtain rfl:k=l.length:=by omega
  rw [List.take_length] at hki3
  refine AF ?_;try rw [hw] at *;grind [szR]
 try simp only [nrm] at c9
 refine ao (a:=0<=(k:Int)/\(k:Int)<(l.length:Int)) (by omega) λ o10=>?_
 refine ao (a:=k<l.length) (by omega) λ o11=>?_
 refine ⟨(l.getD k [],m),by
  rfl,by
  try dsimp only [EO]
  refine ⟨?_,by omega,by omega⟩
  have:=hh2 k (by omega)
  exact this,?_⟩
 have hle:=Aq l (k+1)
 have hts:=B3 l k (by omega)
 have hrow:=hh2 k (by omega)
 refine ⟨λ c15=>?_,λ c15=>?_⟩
 ·try simp only [nrm] at c15
  refine AF ?_;try rw [hw] at *;grind [szR]
 try simp only [nrm] at c15
 refine ⟨(k+1,szR (AC (l.getD k [])) m),by
  unfold szR at *;grind,by
  omega,?_⟩
 refine ⟨rfl,?_,rfl,rfl⟩
 exact AF (AD (by omega) (by omega))
def Ed:Con:={ ι:=(List (List Dat)),pre:=λ i=>Dat.has (.sl 172 [.int,.int]) (.sl i)/\i.length+AA i<=1048576,args:=λ i=>[.one (DC.sl 172 [.int,.int] i)],res:=λ i=>⟨false,[none],[.own 168 [.int,.int] i]⟩ }
theorem PC:Ed.Ok Tryz.prog 64:=by
 refine fok (X:=⟨tt,[(121,F3)],[],23,[]⟩) mixed AH (CTok.cons Rc (CTok.nil _)) Tryz.func64 (λ (i:(List (List Dat)))=>[(3,.mk 3 (Nat) (λ x1=>{ tm:=[(0,tX 1),(3,tX 2),(4,tI (nI x1))],en:=[(1,.view 172 [.int,.int] i []),(2,.own 168 [.int,.int] (i.take x1++List.replicate (i.length-x1) ([Dat.int (0:Int),Dat.int (0:Int)]:List Dat)))] }) (λ x1=>x1<=i.length) (λ x1=>i.length-x1) (λ _=>[]))]) ?_
 intro (l:List (List Dat)) hpre
 have hpre:Dat.has (.sl 172 [.int,.int]) (.sl l)/\l.length+AA l<=1048576:=hpre
 refine AI (q:=let Z2:=nI l.length;(0<=Z2)/\((Z2<=Z2)/\((Z2<=1073741824)/\((∃ x1:Nat,(x1<=l.length)/\((vI (0:Int)=vI (nI x1))/\(rf (l))/\((List.replicate l.length [Dat.int (0:Int),Dat.int (0:Int)])=(l.take x1++List.replicate (l.length-x1) ([Dat.int (0:Int),Dat.int (0:Int)]:List Dat)))))/\∀ x1:Nat,let Z1:=l.take x1++List.replicate (l.length-x1) ([Dat.int (0:Int),Dat.int (0:Int)]:List Dat);(x1<=l.length)->(ifB ((decide ((nI x1)<Z2))) ((0<=(nI x1)/\(nI x1)<(l.length:Int))/\((x1<l.length)/\(∃ i1:(List Dat),[DA.agg [cI ((((l.getD x1 []).getD 0 (.int 0))).n),cI ((((l.getD x1 []).getD 1 (.int 0))).n)]]=F3.args i1/\F3.pre i1/\((0<=(nI x1)/\(nI x1)<(Z1.length:Int))/\((x1<Z1.length)/\(∃ y2:Nat,(y2<=l.length)/\(l.length-y2<l.length-x1)/\((vI (wR ((nI x1)+(1:Int)))=vI (nI y2))/\(rf (l))/\((Z1.set x1 [Dat.int ((i1.getD 0 (.int 0)).n),Dat.int ((i1.getD 1 (.int 0)).n)])=(l.take y2++List.replicate (l.length-y2) ([Dat.int (0:Int),Dat.int (0:Int)]:List Dat)))))))))) ((Z1=l))))))) (by kernel_rfl) ?_
 conv=>zeta
 delta ifB vI wR nI
 have hh2:=BH hpre.1
 have hl:=hpre.2
 refine ao (by omega) λ o1=>?_
 refine ao (by omega) λ o2=>?_
 refine ao (by omega) λ o3=>?_
 refine ⟨⟨0,by
  omega,?_⟩,?_⟩
 ·refine ⟨?_,rfl,?_⟩
  ·rfl
  rfl
 intro (k:Nat) hki4
 have hki4:k<=l.length:=hki4
 refine And.symm ⟨λ c9=>?_,λ c9=>?_⟩
 ·try simp only [nrm] at c9
  exact IM (by omega)
 try simp only [nrm] at c9
 refine ao (by omega) λ o10=>?_
 refine ao (by omega) λ o11=>?_
 refine ⟨(l.getD k []),by
  rfl,by
  show hasRow [.int,.int] (l.getD k [])/\AC (l.getD k [])<=1048576
  have hrow:=hh2 k (by omega)
  have hs:=CW (l:=l) (k:=k) (by omega)
  exact ⟨hrow,by omega⟩,?_⟩
 refine ao (by rw [IL (by omega)];omega) λ o15=>?_
 refine ao (by omega) λ o16=>?_
 refine ⟨k+1,by
  trivial,by
  omega,?_⟩
 refine ⟨?_,rfl,?_⟩
 ·exact AF (AD (by omega) (by omega))
 exact Gz (by omega) (Mc (hh2 k (by omega)))
def Ee:Con:={ ι:=(List (List Dat)),pre:=λ i=>i.length<=9223372036854775807,args:=λ i=>[.one (DC.sl 168 [.int,.int] i),.one (DC.sl 168 [.int,.int] i)],res:=λ i=>⟨false,[none],[rcB true]⟩ }
theorem PD:Ee.Ok Tryz.prog 74:=by
 refine fok (X:=⟨tt,[(130,F4)],[],27,[]⟩) mixed AH (CTok.cons Re (CTok.nil _)) Tryz.func74 (λ (i:(List (List Dat)))=>[(4,.mk 3 (Nat) (λ x1=>{ tm:=[(0,tX 1),(1,tX 2),(5,tI (nI x1))],en:=[(1,.view 168 [.int,.int] i []),(2,.view 168 [.int,.int] i [])] }) (λ x1=>x1<=i.length) (λ x1=>i.length-x1) (λ _=>[]))]) ?_
 intro (l:List (List Dat)) hpre
 have hpre:l.length<=9223372036854775807:=hpre
 refine AI (q:=ifB (((nI l.length) != (nI l.length))) ((vB false=vB true)) ((∃ x1:Nat,(x1<=l.length)/\((vI (0:Int)=vI (nI x1))/\(rf (l))/\(rf (l))))/\∀ x1:Nat,let Z2:=(((l.getD x1 []).getD 1 (.int 0))).n;let Z1:=(((l.getD x1 []).getD 0 (.int 0))).n;(x1<=l.length)->(ifB ((decide ((nI x1)<(nI l.length)))) ((0<=(nI x1)/\(nI x1)<(l.length:Int))/\((x1<l.length)/\((0<=(nI x1)/\(nI x1)<(l.length:Int))/\((x1<l.length)/\(∃ i1:(List Dat),[DA.agg [cI Z1,cI Z2],DA.agg [cI Z1,cI Z2]]=F4.args i1/\F4.pre i1/\(ifB ((!true)) ((vB false=vB true)) (∃ y2:Nat,(y2<=l.length)/\(l.length-y2<l.length-x1)/\((vI (wR ((nI x1)+(1:Int)))=vI (nI y2))/\(rf (l))/\(rf (l)))))))))) ((vB true=vB true))))) (by kernel_rfl) ?_
 conv=>zeta
 delta ifB vB vI wR nI
 refine ⟨λ c1=>?_,λ c1=>?_⟩
 ·try simp only [nrm] at c1
  exfalso;simp_all;done
 try simp only [nrm] at c1
 refine ⟨⟨0,by
  omega,?_⟩,?_⟩
 ·refine ⟨?_,rfl,rfl⟩
  rfl
 intro (k:Nat) hki3
 have hki3:k<=l.length:=hki3
 refine And.symm ⟨λ c8=>?_,λ c8=>?_⟩
 ·try simp only [nrm] at c8
  exact rfl
 try simp only [nrm] at c8
 refine ao (by omega) λ o9=>?_
 refine ao (by omega) λ o10=>?_
 refine ao (by omega) λ o11=>?_
 refine ao (by omega) λ o12=>?_
 refine ⟨(l.getD k []),by
  rfl,by
  trivial,?_⟩
 refine ⟨λ c16=>?_,λ c16=>?_⟩
 ·try simp only [nrm] at c16
  exfalso;simp_all;done
 try simp only [nrm] at c16
 refine ⟨k+1,by
  trivial,by
  omega,?_⟩
 refine ⟨?_,rfl,rfl⟩
 exact AF (AD (by omega) (by omega))
def Dh:Con:={ ι:=(List (List Dat)),pre:=λ i=>Dat.has (.sl 164 [.bool,.sl 3 [.int],.sl 3 [.int],.bool,.sl 3 [.int],.sl 3 [.int],.bool,.sl 3 [.int],.sl 3 [.int]]) (.sl i)/\i.length+AA i<=1048576,args:=λ i=>[.one (DC.sl 164 CR i)],res:=λ i=>⟨false,[none],[.own 153 [.bool,.sl 3 [.int],.sl 3 [.int],.bool,.sl 3 [.int],.sl 3 [.int],.bool,.sl 3 [.int],.sl 3 [.int]] i]⟩ }
theorem PE:Dh.Ok Tryz.prog 63:=by
 refine fok (X:=⟨tt,[(120,F6)],[],23,[]⟩) mixed AH (CTok.cons Rg (CTok.nil _)) Tryz.func63 (λ (i:(List (List Dat)))=>let Z1:=List Dat;[(3,.mk 3 (Nat) (λ x1=>{ tm:=[(0,tX 1),(3,tX 2),(4,tI (nI x1))],en:=[(1,.view 164 CR i []),(2,.own 153 CR (i.take x1++List.replicate (i.length-x1) ([Dat.bool false,Dat.sl ([]:List Z1),Dat.sl ([]:List Z1),Dat.bool false,Dat.sl ([]:List Z1),Dat.sl ([]:List Z1),Dat.bool false,Dat.sl ([]:List Z1),Dat.sl ([]:List Z1)]:List Dat)))] }) (λ x1=>x1<=i.length) (λ x1=>i.length-x1) (λ _=>[]))]) ?_
 intro (l:List (List Dat)) hpre
 have hpre:Dat.has (.sl 164 [.bool,.sl 3 [.int],.sl 3 [.int],.bool,.sl 3 [.int],.sl 3 [.int],.bool,.sl 3 [.int],.sl 3 [.int]]) (.sl l)/\l.length+AA l<=1048576:=hpre
 refine AI (q:=let Z4:=nI l.length;let Z2:=List Dat;(0<=Z4)/\((Z4<=Z4)/\((Z4<=1073741824)/\((∃ x1:Nat,(x1<=l.length)/\((vI (0:Int)=vI (nI x1))/\(rf (l))/\((List.replicate l.length [Dat.bool false,Dat.sl [],Dat.sl [],Dat.bool false,Dat.sl [],Dat.sl [],Dat.bool false,Dat.sl [],Dat.sl []])=(l.take x1++List.replicate (l.length-x1) ([Dat.bool false,Dat.sl ([]:List Z2),Dat.sl ([]:List Z2),Dat.bool false,Dat.sl ([]:List Z2),Dat.sl ([]:List Z2),Dat.bool false,Dat.sl ([]:List Z2),Dat.sl ([]:List Z2)]:List Dat)))))/\∀ x1:Nat,let Z3:=l.getD x1 [];let Z1:=l.take x1++List.replicate (l.length-x1) ([Dat.bool false,Dat.sl ([]:List Z2),Dat.sl ([]:List Z2),Dat.bool false,Dat.sl ([]:List Z2),Dat.sl ([]:List Z2),Dat.bool false,Dat.sl ([]:List Z2),Dat.sl ([]:List Z2)]:List Dat);(x1<=l.length)->(ifB ((decide ((nI x1)<Z4))) ((0<=(nI x1)/\(nI x1)<(l.length:Int))/\((x1<l.length)/\(∃ i1:Z2,[DA.agg [cB (((Z3.getD 0 (.int 0))).b),cS (((Z3.getD 1 (.int 0))).r),cS (((Z3.getD 2 (.int 0))).r),cB (((Z3.getD 3 (.int 0))).b),cS (((Z3.getD 4 (.int 0))).r),cS (((Z3.getD 5 (.int 0))).r),cB (((Z3.getD 6 (.int 0))).b),cS (((Z3.getD 7 (.int 0))).r),cS (((Z3.getD 8 (.int 0))).r)]]=F6.args i1/\F6.pre i1/\((0<=(nI x1)/\(nI x1)<(Z1.length:Int))/\((x1<Z1.length)/\(∃ y2:Nat,(y2<=l.length)/\(l.length-y2<l.length-x1)/\((vI (wR ((nI x1)+(1:Int)))=vI (nI y2))/\(rf (l))/\((Z1.set x1 [Dat.bool ((i1.getD 0 (.int 0)).b),Dat.sl ((i1.getD 1 (.int 0)).r),Dat.sl ((i1.getD 2 (.int 0)).r),Dat.bool ((i1.getD 3 (.int 0)).b),Dat.sl ((i1.getD 4 (.int 0)).r),Dat.sl ((i1.getD 5 (.int 0)).r),Dat.bool ((i1.getD 6 (.int 0)).b),Dat.sl ((i1.getD 7 (.int 0)).r),Dat.sl ((i1.getD 8 (.int 0)).r)])=(l.take y2++List.replicate (l.length-y2) ([Dat.bool false,Dat.sl ([]:List Z2),Dat.sl ([]:List Z2),Dat.bool false,Dat.sl ([]:List Z2),Dat.sl ([]:List Z2),Dat.bool false,Dat.sl ([]:List Z2),Dat.sl ([]:List Z2)]:List Dat)))))))))) ((Z1=l))))))) (by kernel_rfl) ?_
 conv=>zeta
 delta ifB vI wR nI
 have hh2:=BH hpre.1
 have hl:=hpre.2
 refine ao (by omega) λ o1=>?_
 refine ao (by omega) λ o2=>?_
 refine ao (by omega) λ o3=>?_
 refine ⟨⟨0,by
  omega,?_⟩,?_⟩
 ·refine ⟨?_,rfl,?_⟩
  ·rfl
  rfl
 intro (k:Nat) hki4
 have hki4:k<=l.length:=hki4
 refine And.symm ⟨λ c9=>?_,λ c9=>?_⟩
 ·try simp only [nrm] at c9
  exact IM (by omega)
 try simp only [nrm] at c9
 refine ao (by omega) λ o10=>?_
 refine ao (by omega) λ o11=>?_
 refine ⟨(l.getD k []),by
  rfl,by
  show hasRow [.bool,.sl 3 [.int],.sl 3 [.int],.bool,.sl 3 [.int],.sl 3 [.int],.bool,.sl 3 [.int],.sl 3 [.int]] (l.getD k [])/\AC (l.getD k [])<=1048576
  have hrow:=hh2 k (by omega)
  have hs:=CW (l:=l) (k:=k) (by omega)
  exact ⟨hrow,by omega⟩,?_⟩
 refine ao (by rw [IL (by omega)];omega) λ o15=>?_
 refine ao (by omega) λ o16=>?_
 refine ⟨k+1,by
  trivial,by
  omega,?_⟩
 refine ⟨?_,rfl,?_⟩
 ·exact AF (AD (by omega) (by omega))
 exact Gz (by omega) (Md (hh2 k (by omega)))
def Ef:Con:={ ι:=(List (List Dat)),pre:=λ i=>i.length<=9223372036854775807,args:=λ i=>[.one (DC.sl 153 CR i),.one (DC.sl 153 CR i)],res:=λ i=>⟨false,[none],[rcB true]⟩ }
theorem PG:Ef.Ok Tryz.prog 40:=by
 refine fok (X:=⟨tt,[(105,F7)],[],27,[]⟩) mixed AH (CTok.cons Rh (CTok.nil _)) Tryz.func40 (λ (i:(List (List Dat)))=>[(4,.mk 3 (Nat) (λ x1=>{ tm:=[(0,tX 1),(1,tX 2),(5,tI (nI x1))],en:=[(1,.view 153 CR i []),(2,.view 153 CR i [])] }) (λ x1=>x1<=i.length) (λ x1=>i.length-x1) (λ _=>[]))]) ?_
 intro (l:List (List Dat)) hpre
 have hpre:l.length<=9223372036854775807:=hpre
 refine AI (q:=ifB (((nI l.length) != (nI l.length))) ((vB false=vB true)) ((∃ x1:Nat,(x1<=l.length)/\((vI (0:Int)=vI (nI x1))/\(rf (l))/\(rf (l))))/\∀ x1:Nat,let Z1:=l.getD x1 [];let Z10:=((Z1.getD 8 (.int 0))).r;let Z9:=((Z1.getD 7 (.int 0))).r;let Z8:=((Z1.getD 6 (.int 0))).b;let Z7:=((Z1.getD 5 (.int 0))).r;let Z6:=((Z1.getD 4 (.int 0))).r;let Z5:=((Z1.getD 3 (.int 0))).b;let Z4:=((Z1.getD 2 (.int 0))).r;let Z3:=((Z1.getD 1 (.int 0))).r;let Z2:=((Z1.getD 0 (.int 0))).b;(x1<=l.length)->(ifB ((decide ((nI x1)<(nI l.length)))) ((0<=(nI x1)/\(nI x1)<(l.length:Int))/\((x1<l.length)/\((0<=(nI x1)/\(nI x1)<(l.length:Int))/\((x1<l.length)/\(∃ i1:(List Dat),[DA.agg [cB Z2,cS Z3,cS Z4,cB Z5,cS Z6,cS Z7,cB Z8,cS Z9,cS Z10],DA.agg [cB Z2,cS Z3,cS Z4,cB Z5,cS Z6,cS Z7,cB Z8,cS Z9,cS Z10]]=F7.args i1/\F7.pre i1/\(ifB ((!true)) ((vB false=vB true)) (∃ y2:Nat,(y2<=l.length)/\(l.length-y2<l.length-x1)/\((vI (wR ((nI x1)+(1:Int)))=vI (nI y2))/\(rf (l))/\(rf (l)))))))))) ((vB true=vB true))))) (by kernel_rfl) ?_
 conv=>zeta
 delta ifB vB vI wR nI
 refine ⟨λ c1=>?_,λ c1=>?_⟩
 ·try simp only [nrm] at c1
  exfalso;simp_all;done
 try simp only [nrm] at c1
 refine ⟨⟨0,by
  omega,?_⟩,?_⟩
 ·refine ⟨?_,rfl,rfl⟩
  rfl
 intro (k:Nat) hki3
 have hki3:k<=l.length:=hki3
 refine And.symm ⟨λ c8=>?_,λ c8=>?_⟩
 ·try simp only [nrm] at c8
  exact rfl
 try simp only [nrm] at c8
 refine ao (by omega) λ o9=>?_
 refine ao (by omega) λ o10=>?_
 refine ao (by omega) λ o11=>?_
 refine ao (by omega) λ o12=>?_
 refine ⟨(l.getD k []),by
  rfl,by
  trivial,?_⟩
 refine ⟨λ c16=>?_,λ c16=>?_⟩
 ·try simp only [nrm] at c16
  exfalso;simp_all;done
 try simp only [nrm] at c16
 refine ⟨k+1,by
  trivial,by
  omega,?_⟩
 refine ⟨?_,rfl,rfl⟩
 exact AF (AD (by omega) (by omega))
def Di:Con:={ ι:=(List (List Dat)),pre:=λ i=>Dat.has (.sl 161 [.bool,.sl 3 [.int],.sl 3 [.int],.bool,.sl 3 [.int],.sl 3 [.int],.bool,.sl 3 [.int],.sl 3 [.int],.bool,.sl 3 [.int],.sl 3 [.int],.bool,.sl 3 [.int],.sl 3 [.int],.bool,.sl 3 [.int],.sl 3 [.int]]) (.sl i)/\i.length+AA i<=1048576,args:=λ i=>[.one (DC.sl 161 CS i)],res:=λ i=>⟨false,[none],[.own 158 [.bool,.sl 3 [.int],.sl 3 [.int],.bool,.sl 3 [.int],.sl 3 [.int],.bool,.sl 3 [.int],.sl 3 [.int],.bool,.sl 3 [.int],.sl 3 [.int],.bool,.sl 3 [.int],.sl 3 [.int],.bool,.sl 3 [.int],.sl 3 [.int]] i]⟩ }
theorem PH:Di.Ok Tryz.prog 62:=by
 refine fok (X:=⟨tt,[(119,EP)],[],23,[]⟩) mixed AH (CTok.cons Rj (CTok.nil _)) Tryz.func62 (λ (i:(List (List Dat)))=>let Z1:=List Dat;[(3,.mk 3 (Nat) (λ x1=>{ tm:=[(0,tX 1),(3,tX 2),(4,tI (nI x1))],en:=[(1,.view 161 CS i []),(2,.own 158 CS (i.take x1++List.replicate (i.length-x1) ([Dat.bool false,Dat.sl ([]:List Z1),Dat.sl ([]:List Z1),Dat.bool false,Dat.sl ([]:List Z1),Dat.sl ([]:List Z1),Dat.bool false,Dat.sl ([]:List Z1),Dat.sl ([]:List Z1),Dat.bool false,Dat.sl ([]:List Z1),Dat.sl ([]:List Z1),Dat.bool false,Dat.sl ([]:List Z1),Dat.sl ([]:List Z1),Dat.bool false,Dat.sl ([]:List Z1),Dat.sl ([]:List Z1)]:List Dat)))] }) (λ x1=>x1<=i.length) (λ x1=>i.length-x1) (λ _=>[]))]) ?_
 intro (l:List (List Dat)) hpre
 have hpre:Dat.has (.sl 161 [.bool,.sl 3 [.int],.sl 3 [.int],.bool,.sl 3 [.int],.sl 3 [.int],.bool,.sl 3 [.int],.sl 3 [.int],.bool,.sl 3 [.int],.sl 3 [.int],.bool,.sl 3 [.int],.sl 3 [.int],.bool,.sl 3 [.int],.sl 3 [.int]]) (.sl l)/\l.length+AA l<=1048576:=hpre
 refine AI (q:=let Z4:=nI l.length;let Z2:=List Dat;(0<=Z4)/\((Z4<=Z4)/\((Z4<=1073741824)/\((∃ x1:Nat,(x1<=l.length)/\((vI (0:Int)=vI (nI x1))/\(rf (l))/\((List.replicate l.length [Dat.bool false,Dat.sl [],Dat.sl [],Dat.bool false,Dat.sl [],Dat.sl [],Dat.bool false,Dat.sl [],Dat.sl [],Dat.bool false,Dat.sl [],Dat.sl [],Dat.bool false,Dat.sl [],Dat.sl [],Dat.bool false,Dat.sl [],Dat.sl []])=(l.take x1++List.replicate (l.length-x1) ([Dat.bool false,Dat.sl ([]:List Z2),Dat.sl ([]:List Z2),Dat.bool false,Dat.sl ([]:List Z2),Dat.sl ([]:List Z2),Dat.bool false,Dat.sl ([]:List Z2),Dat.sl ([]:List Z2),Dat.bool false,Dat.sl ([]:List Z2),Dat.sl ([]:List Z2),Dat.bool false,Dat.sl ([]:List Z2),Dat.sl ([]:List Z2),Dat.bool false,Dat.sl ([]:List Z2),Dat.sl ([]:List Z2)]:List Dat)))))/\∀ x1:Nat,let Z3:=l.getD x1 [];let Z1:=l.take x1++List.replicate (l.length-x1) ([Dat.bool false,Dat.sl ([]:List Z2),Dat.sl ([]:List Z2),Dat.bool false,Dat.sl ([]:List Z2),Dat.sl ([]:List Z2),Dat.bool false,Dat.sl ([]:List Z2),Dat.sl ([]:List Z2),Dat.bool false,Dat.sl ([]:List Z2),Dat.sl ([]:List Z2),Dat.bool false,Dat.sl ([]:List Z2),Dat.sl ([]:List Z2),Dat.bool false,Dat.sl ([]:List Z2),Dat.sl ([]:List Z2)]:List Dat);(x1<=l.length)->(ifB ((decide ((nI x1)<Z4))) ((0<=(nI x1)/\(nI x1)<(l.length:Int))/\((x1<l.length)/\(∃ i1:Z2,[DA.agg [cB (((Z3.getD 0 (.int 0))).b),cS (((Z3.getD 1 (.int 0))).r),cS (((Z3.getD 2 (.int 0))).r),cB (((Z3.getD 3 (.int 0))).b),cS (((Z3.getD 4 (.int 0))).r),cS (((Z3.getD 5 (.int 0))).r),cB (((Z3.getD 6 (.int 0))).b),cS (((Z3.getD 7 (.int 0))).r),cS (((Z3.getD 8 (.int 0))).r),cB (((Z3.getD 9 (.int 0))).b),cS (((Z3.getD 10 (.int 0))).r),cS (((Z3.getD 11 (.int 0))).r),cB (((Z3.getD 12 (.int 0))).b),cS (((Z3.getD 13 (.int 0))).r),cS (((Z3.getD 14 (.int 0))).r),cB (((Z3.getD 15 (.int 0))).b),cS (((Z3.getD 16 (.int 0))).r),cS (((Z3.getD 17 (.int 0))).r)]]=EP.args i1/\EP.pre i1/\((0<=(nI x1)/\(nI x1)<(Z1.length:Int))/\((x1<Z1.length)/\(∃ y2:Nat,(y2<=l.length)/\(l.length-y2<l.length-x1)/\((vI (wR ((nI x1)+(1:Int)))=vI (nI y2))/\(rf (l))/\((Z1.set x1 [Dat.bool ((i1.getD 0 (.int 0)).b),Dat.sl ((i1.getD 1 (.int 0)).r),Dat.sl ((i1.getD 2 (.int 0)).r),Dat.bool ((i1.getD 3 (.int 0)).b),Dat.sl ((i1.getD 4 (.int 0)).r),Dat.sl ((i1.getD 5 (.int 0)).r),Dat.bool ((i1.getD 6 (.int 0)).b),Dat.sl ((i1.getD 7 (.int 0)).r),Dat.sl ((i1.getD 8 (.int 0)).r),Dat.bool ((i1.getD 9 (.int 0)).b),Dat.sl ((i1.getD 10 (.int 0)).r),Dat.sl ((i1.getD 11 (.int 0)).r),Dat.bool ((i1.getD 12 (.int 0)).b),Dat.sl ((i1.getD 13 (.int 0)).r),Dat.sl ((i1.getD 14 (.int 0)).r),Dat.bool ((i1.getD 15 (.int 0)).b),Dat.sl ((i1.getD 16 (.int 0)).r),Dat.sl ((i1.getD 17 (.int 0)).r)])=(l.take y2++List.replicate (l.length-y2) ([Dat.bool false,Dat.sl ([]:List Z2),Dat.sl ([]:List Z2),Dat.bool false,Dat.sl ([]:List Z2),Dat.sl ([]:List Z2),Dat.bool false,Dat.sl ([]:List Z2),Dat.sl ([]:List Z2),Dat.bool false,Dat.sl ([]:List Z2),Dat.sl ([]:List Z2),Dat.bool false,Dat.sl ([]:List Z2),Dat.sl ([]:List Z2),Dat.bool false,Dat.sl ([]:List Z2),Dat.sl ([]:List Z2)]:List Dat)))))))))) ((Z1=l))))))) (by kernel_rfl) ?_
 conv=>zeta
 delta ifB vI wR nI
 have hh2:=BH hpre.1
 have hl:=hpre.2
 refine ao (by omega) λ o1=>?_
 refine ao (by omega) λ o2=>?_
 refine ao (by omega) λ o3=>?_
 refine ⟨⟨0,by
  omega,?_⟩,?_⟩
 ·refine ⟨?_,rfl,?_⟩
  ·rfl
  rfl
 intro (k:Nat) hki4
 have hki4:k<=l.length:=hki4
 refine And.symm ⟨λ c9=>?_,λ c9=>?_⟩
 ·try simp only [nrm] at c9
  exact IM (by omega)
 try simp only [nrm] at c9
 refine ao (by omega) λ o10=>?_
 refine ao (by omega) λ o11=>?_
 refine ⟨(l.getD k []),by
  rfl,by
  try dsimp only [EP]
  have hrow:=hh2 k (by omega)
  have hs:=CW (l:=l) (k:=k) (by omega)
  exact ⟨hrow,by omega⟩,?_⟩
 refine ao (by rw [IL (by omega)];omega) λ o15=>?_
 refine ao (by omega) λ o16=>?_
 refine ⟨k+1,by
  trivial,by
  omega,?_⟩
 refine ⟨?_,rfl,?_⟩
 ·exact AF (AD (by omega) (by omega))
 exact Gz (by omega) (Me (hh2 k (by omega)))
def Eg:Con:={ ι:=(List (List Dat)),pre:=λ i=>i.length<=9223372036854775807,args:=λ i=>[.one (DC.sl 158 CS i),.one (DC.sl 158 CS i)],res:=λ i=>⟨false,[none],[rcB true]⟩ }
theorem PI:Eg.Ok Tryz.prog 47:=by
 refine fok (X:=⟨tt,[(111,F8)],[],27,[]⟩) mixed AH (CTok.cons Rk (CTok.nil _)) Tryz.func47 (λ (i:(List (List Dat)))=>[(4,.mk 3 (Nat) (λ x1=>{ tm:=[(0,tX 1),(1,tX 2),(5,tI (nI x1))],en:=[(1,.view 158 CS i []),(2,.view 158 CS i [])] }) (λ x1=>x1<=i.length) (λ x1=>i.length-x1) (λ _=>[]))]) ?_
 intro (l:List (List Dat)) hpre
 have hpre:l.length<=9223372036854775807:=hpre
 refine AI (q:=ifB (((nI l.length) != (nI l.length))) ((vB false=vB true)) ((∃ x1:Nat,(x1<=l.length)/\((vI (0:Int)=vI (nI x1))/\(rf (l))/\(rf (l))))/\∀ x1:Nat,let Z1:=l.getD x1 [];let Z19:=((Z1.getD 9 (.int 0))).b;let Z18:=((Z1.getD 8 (.int 0))).r;let Z17:=((Z1.getD 7 (.int 0))).r;let Z16:=((Z1.getD 6 (.int 0))).b;let Z15:=((Z1.getD 5 (.int 0))).r;let Z14:=((Z1.getD 4 (.int 0))).r;let Z13:=((Z1.getD 3 (.int 0))).b;let Z12:=((Z1.getD 2 (.int 0))).r;let Z11:=((Z1.getD 1 (.int 0))).r;let Z10:=((Z1.getD 0 (.int 0))).b;let Z9:=((Z1.getD 17 (.int 0))).r;let Z8:=((Z1.getD 16 (.int 0))).r;let Z7:=((Z1.getD 15 (.int 0))).b;let Z6:=((Z1.getD 14 (.int 0))).r;let Z5:=((Z1.getD 13 (.int 0))).r;let Z4:=((Z1.getD 12 (.int 0))).b;let Z3:=((Z1.getD 11 (.int 0))).r;let Z2:=((Z1.getD 10 (.int 0))).r;(x1<=l.length)->(ifB ((decide ((nI x1)<(nI l.length)))) ((0<=(nI x1)/\(nI x1)<(l.length:Int))/\((x1<l.length)/\((0<=(nI x1)/\(nI x1)<(l.length:Int))/\((x1<l.length)/\(∃ i1:(List Dat),[DA.agg [cB Z10,cS Z11,cS Z12,cB Z13,cS Z14,cS Z15,cB Z16,cS Z17,cS Z18,cB Z19,cS Z2,cS Z3,cB Z4,cS Z5,cS Z6,cB Z7,cS Z8,cS Z9],DA.agg [cB Z10,cS Z11,cS Z12,cB Z13,cS Z14,cS Z15,cB Z16,cS Z17,cS Z18,cB Z19,cS Z2,cS Z3,cB Z4,cS Z5,cS Z6,cB Z7,cS Z8,cS Z9]]=F8.args i1/\F8.pre i1/\(ifB ((!true)) ((vB false=vB true)) (∃ y2:Nat,(y2<=l.length)/\(l.length-y2<l.length-x1)/\((vI (wR ((nI x1)+(1:Int)))=vI (nI y2))/\(rf (l))/\(rf (l)))))))))) ((vB true=vB true))))) (by kernel_rfl) ?_
 conv=>zeta
 delta ifB vB vI wR nI
 refine ⟨λ c1=>?_,λ c1=>?_⟩
 ·try simp only [nrm] at c1
  exfalso;simp_all;done
 try simp only [nrm] at c1
 refine ⟨⟨0,by
  omega,?_⟩,?_⟩
 ·refine ⟨?_,rfl,rfl⟩
  rfl
 intro (k:Nat) hki3
 have hki3:k<=l.length:=hki3
 refine And.symm ⟨λ c8=>?_,λ c8=>?_⟩
 ·try simp only [nrm] at c8
  exact rfl
 try simp only [nrm] at c8
 refine ao (by omega) λ o9=>?_
 refine ao (by omega) λ o10=>?_
 refine ao (by omega) λ o11=>?_
 refine ao (by omega) λ o12=>?_
 refine ⟨(l.getD k []),by
  rfl,by
  trivial,?_⟩
 refine ⟨λ c16=>?_,λ c16=>?_⟩
 ·try simp only [nrm] at c16
  exfalso;simp_all;done
 try simp only [nrm] at c16
 refine ⟨k+1,by
  trivial,by
  omega,?_⟩
 refine ⟨?_,rfl,rfl⟩
 exact AF (AD (by omega) (by omega))
theorem TS {r:List Dat} (h:hasRow [.int,.int,.int,.int] r):r=[.int (r.getD 0 (.int 0)).n,.int (r.getD 1 (.int 0)).n,.int (r.getD 2 (.int 0)).n,.int (r.getD 3 (.int 0)).n]:=by
 obtain ⟨_,_,rfl,q0,h0⟩:=h.cons
 obtain ⟨_,rfl⟩:=Dat.has_int q0
 obtain ⟨_,_,rfl,q1,h1⟩:=h0.cons
 obtain ⟨_,rfl⟩:=Dat.has_int q1
 obtain ⟨_,_,rfl,q2,h2⟩:=h1.cons
 obtain ⟨_,rfl⟩:=Dat.has_int q2
 obtain ⟨_,_,rfl,q3,h3⟩:=h2.cons
 obtain ⟨_,rfl⟩:=Dat.has_int q3
 obtain rfl:=hasRow.nil h3
 rfl
theorem Vd {r:List Dat} (h:hasRow [.int,.int,.int,.int] r):AC r=0:=by
 rw [TS h]
 simp only [AC,Dat.sz]
theorem Ve {r:List Dat} (h:hasRow [.int,.int,.int,.int] r):Dat.has .int (.int (r.getD 0 (.int 0)).n)/\Dat.has .int (.int (r.getD 1 (.int 0)).n)/\Dat.has .int (.int (r.getD 2 (.int 0)).n)/\Dat.has .int (.int (r.getD 3 (.int 0)).n):=by
 rw [TS h] at h
 simpa only [hasRow,and_true] using h
def Fb:Con:={ ι:=(List Dat),pre:=λ i=>hasRow [.int,.int,.int,.int] i/\AC i<=1048576,args:=λ i=>[w28 i],res:=λ i=>⟨false,[some 4],[rcI ((i.getD 0 (.int 0)).n),rcI ((i.getD 1 (.int 0)).n),rcI ((i.getD 2 (.int 0)).n),rcI ((i.getD 3 (.int 0)).n)]⟩ }
theorem TU:Fb.Ok Tryz.prog 28:=by
 refine fok (X:=⟨tt,[(60,Bh)],[],13,[]⟩) mixed AH (CTok.cons No (CTok.nil _)) Tryz.func28 (λ _=>[]) ?_
 intro (r:List Dat) hpre
 have hpre:hasRow [.int,.int,.int,.int] r/\AC r<=1048576:=hpre
 refine AI (q:=∃ i1:(Int×Int),[DA.agg [cI ((r.getD 0 (.int 0)).n),cI ((r.getD 1 (.int 0)).n)]]=Bh.args i1/\Bh.pre i1/\(∃ i2:(Int×Int),[DA.agg [cI ((r.getD 2 (.int 0)).n),cI ((r.getD 3 (.int 0)).n)]]=Bh.args i2/\Bh.pre i2/\((vI i1.1=vI ((r.getD 0 (.int 0)).n))/\(vI i1.2=vI ((r.getD 1 (.int 0)).n))/\(vI i2.1=vI ((r.getD 2 (.int 0)).n))/\(vI i2.2=vI ((r.getD 3 (.int 0)).n))))) (by kernel_rfl) ?_
 delta vI
 have hz:=Vd hpre.1
 have hs:=hpre.2
 have hp:=Ve hpre.1
 obtain ⟨p0,p1,p2,p3⟩:=hp
 refine ⟨(((r.getD 0 (.int 0)).n),((r.getD 1 (.int 0)).n)),by
  rfl,by
  show AC [.int (((r.getD 0 (.int 0)).n),((r.getD 1 (.int 0)).n)).1,.int (((r.getD 0 (.int 0)).n),((r.getD 1 (.int 0)).n)).2]<=1048576
  simp [AC,Dat.sz];done,?_⟩
 refine ⟨(((r.getD 2 (.int 0)).n),((r.getD 3 (.int 0)).n)),by
  rfl,by
  show AC [.int (((r.getD 2 (.int 0)).n),((r.getD 3 (.int 0)).n)).1,.int (((r.getD 2 (.int 0)).n),((r.getD 3 (.int 0)).n)).2]<=1048576
  simp [AC,Dat.sz];done,?_⟩
 refine ⟨?_,?_,?_,?_⟩
 ·rfl
 ·rfl
 ·rfl
 rfl
def HT:Con:={ ι:=(List Dat),pre:=λ i=>True,args:=λ i=>[w28 i,w28 i],res:=λ i=>⟨false,[none],[rcB true]⟩ }
theorem TV:HT.Ok Tryz.prog 73:=by
 refine fok (X:=⟨tt,[(71,Bi)],[],17,[]⟩) mixed AH (CTok.cons Np (CTok.nil _)) Tryz.func73 (λ _=>[]) ?_
 intro (r:List Dat) hpre
 have hpre:True:=hpre
 refine AI (q:=∃ i1:(Int×Int),[DA.agg [cI ((r.getD 0 (.int 0)).n),cI ((r.getD 1 (.int 0)).n)],DA.agg [cI ((r.getD 0 (.int 0)).n),cI ((r.getD 1 (.int 0)).n)]]=Bi.args i1/\Bi.pre i1/\(ifB ((!true)) ((vB false=vB true)) (∃ i2:(Int×Int),[DA.agg [cI ((r.getD 2 (.int 0)).n),cI ((r.getD 3 (.int 0)).n)],DA.agg [cI ((r.getD 2 (.int 0)).n),cI ((r.getD 3 (.int 0)).n)]]=Bi.args i2/\Bi.pre i2/\(ifB ((!true)) ((vB false=vB true)) ((vB true=vB true)))))) (by kernel_rfl) ?_
 delta ifB vB
 refine ⟨(((r.getD 0 (.int 0)).n),((r.getD 1 (.int 0)).n)),by
  rfl,by
  trivial,?_⟩
 refine ⟨λ c4=>?_,λ c4=>?_⟩
 ·try simp only [nrm] at c4
  exfalso;simp_all;done
 try simp only [nrm] at c4
 refine ⟨(((r.getD 2 (.int 0)).n),((r.getD 3 (.int 0)).n)),by
  rfl,by
  trivial,?_⟩
 refine ⟨λ c9=>?_,λ c9=>?_⟩
 ·try simp only [nrm] at c9
  exfalso;simp_all;done
 try simp only [nrm] at c9
 exact rfl
theorem Kl {r:List Dat} (h:hasRow [.int,.bool,.int,.int,.int,.int,.sl 24 [.sl 23 [.int,.int]],.sl 161 [.bool,.sl 3 [.int],.sl 3 [.int],.bool,.sl 3 [.int],.sl 3 [.int],.bool,.sl 3 [.int],.sl 3 [.int],.bool,.sl 3 [.int],.sl 3 [.int],.bool,.sl 3 [.int],.sl 3 [.int],.bool,.sl 3 [.int],.sl 3 [.int]],.sl 164 [.bool,.sl 3 [.int],.sl 3 [.int],.bool,.sl 3 [.int],.sl 3 [.int],.bool,.sl 3 [.int],.sl 3 [.int]],.sl 172 [.int,.int],.sl 3 [.int]] r):r=[.int (r.getD 0 (.int 0)).n,.bool (r.getD 1 (.int 0)).b,.int (r.getD 2 (.int 0)).n,.int (r.getD 3 (.int 0)).n,.int (r.getD 4 (.int 0)).n,.int (r.getD 5 (.int 0)).n,.sl (r.getD 6 (.int 0)).r,.sl (r.getD 7 (.int 0)).r,.sl (r.getD 8 (.int 0)).r,.sl (r.getD 9 (.int 0)).r,.sl (r.getD 10 (.int 0)).r]:=by
 obtain ⟨_,_,rfl,q0,h0⟩:=h.cons
 obtain ⟨_,rfl⟩:=Dat.has_int q0
 obtain ⟨_,_,rfl,q1,h1⟩:=h0.cons
 obtain ⟨_,rfl⟩:=Dat.has_bool q1
 obtain ⟨_,_,rfl,q2,h2⟩:=h1.cons
 obtain ⟨_,rfl⟩:=Dat.has_int q2
 obtain ⟨_,_,rfl,q3,h3⟩:=h2.cons
 obtain ⟨_,rfl⟩:=Dat.has_int q3
 obtain ⟨_,_,rfl,q4,h4⟩:=h3.cons
 obtain ⟨_,rfl⟩:=Dat.has_int q4
 obtain ⟨_,_,rfl,q5,h5⟩:=h4.cons
 obtain ⟨_,rfl⟩:=Dat.has_int q5
 obtain ⟨_,_,rfl,q6,h6⟩:=h5.cons
 obtain ⟨_,rfl⟩:=Dat.has_sl q6
 obtain ⟨_,_,rfl,q7,h7⟩:=h6.cons
 obtain ⟨_,rfl⟩:=Dat.has_sl q7
 obtain ⟨_,_,rfl,q8,h8⟩:=h7.cons
 obtain ⟨_,rfl⟩:=Dat.has_sl q8
 obtain ⟨_,_,rfl,q9,h9⟩:=h8.cons
 obtain ⟨_,rfl⟩:=Dat.has_sl q9
 obtain ⟨_,_,rfl,q10,h10⟩:=h9.cons
 obtain ⟨_,rfl⟩:=Dat.has_sl q10
 obtain rfl:=hasRow.nil h10
 rfl
theorem IN {r:List Dat} (h:hasRow [.int,.bool,.int,.int,.int,.int,.sl 24 [.sl 23 [.int,.int]],.sl 161 [.bool,.sl 3 [.int],.sl 3 [.int],.bool,.sl 3 [.int],.sl 3 [.int],.bool,.sl 3 [.int],.sl 3 [.int],.bool,.sl 3 [.int],.sl 3 [.int],.bool,.sl 3 [.int],.sl 3 [.int],.bool,.sl 3 [.int],.sl 3 [.int]],.sl 164 [.bool,.sl 3 [.int],.sl 3 [.int],.bool,.sl 3 [.int],.sl 3 [.int],.bool,.sl 3 [.int],.sl 3 [.int]],.sl 172 [.int,.int],.sl 3 [.int]] r):AC r=(((r.getD 6 (.int 0)).r).length+AA ((r.getD 6 (.int 0)).r))+(((r.getD 7 (.int 0)).r).length+AA ((r.getD 7 (.int 0)).r))+(((r.getD 8 (.int 0)).r).length+AA ((r.getD 8 (.int 0)).r))+(((r.getD 9 (.int 0)).r).length+AA ((r.getD 9 (.int 0)).r))+(((r.getD 10 (.int 0)).r).length+AA ((r.getD 10 (.int 0)).r)):=by
 conv=>lhs;rw [Kl h]
 simp only [AC,Dat.sz]
 omega
theorem G3 {r:List Dat} (h:hasRow [.int,.bool,.int,.int,.int,.int,.sl 24 [.sl 23 [.int,.int]],.sl 161 [.bool,.sl 3 [.int],.sl 3 [.int],.bool,.sl 3 [.int],.sl 3 [.int],.bool,.sl 3 [.int],.sl 3 [.int],.bool,.sl 3 [.int],.sl 3 [.int],.bool,.sl 3 [.int],.sl 3 [.int],.bool,.sl 3 [.int],.sl 3 [.int]],.sl 164 [.bool,.sl 3 [.int],.sl 3 [.int],.bool,.sl 3 [.int],.sl 3 [.int],.bool,.sl 3 [.int],.sl 3 [.int]],.sl 172 [.int,.int],.sl 3 [.int]] r):Dat.has .int (.int (r.getD 0 (.int 0)).n)/\Dat.has .bool (.bool (r.getD 1 (.int 0)).b)/\Dat.has .int (.int (r.getD 2 (.int 0)).n)/\Dat.has .int (.int (r.getD 3 (.int 0)).n)/\Dat.has .int (.int (r.getD 4 (.int 0)).n)/\Dat.has .int (.int (r.getD 5 (.int 0)).n)/\Dat.has (.sl 24 [.sl 23 [.int,.int]]) (.sl (r.getD 6 (.int 0)).r)/\Dat.has (.sl 161 [.bool,.sl 3 [.int],.sl 3 [.int],.bool,.sl 3 [.int],.sl 3 [.int],.bool,.sl 3 [.int],.sl 3 [.int],.bool,.sl 3 [.int],.sl 3 [.int],.bool,.sl 3 [.int],.sl 3 [.int],.bool,.sl 3 [.int],.sl 3 [.int]]) (.sl (r.getD 7 (.int 0)).r)/\Dat.has (.sl 164 [.bool,.sl 3 [.int],.sl 3 [.int],.bool,.sl 3 [.int],.sl 3 [.int],.bool,.sl 3 [.int],.sl 3 [.int]]) (.sl (r.getD 8 (.int 0)).r)/\Dat.has (.sl 172 [.int,.int]) (.sl (r.getD 9 (.int 0)).r)/\Dat.has (.sl 3 [.int]) (.sl (r.getD 10 (.int 0)).r):=by
 rw [Kl h] at h
 simpa only [hasRow,and_true] using h
def Dj:Con:={ ι:=(List Dat)×Int,pre:=λ i=>hasRow [.int,.bool,.int,.int,.int,.int,.sl 24 [.sl 23 [.int,.int]],.sl 161 [.bool,.sl 3 [.int],.sl 3 [.int],.bool,.sl 3 [.int],.sl 3 [.int],.bool,.sl 3 [.int],.sl 3 [.int],.bool,.sl 3 [.int],.sl 3 [.int],.bool,.sl 3 [.int],.sl 3 [.int],.bool,.sl 3 [.int],.sl 3 [.int]],.sl 164 [.bool,.sl 3 [.int],.sl 3 [.int],.bool,.sl 3 [.int],.sl 3 [.int],.bool,.sl 3 [.int],.sl 3 [.int]],.sl 172 [.int,.int],.sl 3 [.int]] i.1/\0<=i.2/\i.2<=1048576,args:=λ i=>[w34 i.1,.one (cI i.2)],res:=λ i=>⟨false,[none],[rcI (szR (AC i.1) i.2)]⟩ }
theorem PJ:Dj.Ok Tryz.prog 9:=by
 refine fok (X:=⟨tt,[(26,Bn),(51,Dg),(52,Df),(53,De),(54,Aj)],[],36,[]⟩) mixed AH (CTok.cons Kk (CTok.cons PB (CTok.cons PA (CTok.cons O9 (CTok.cons Fa (CTok.nil _)))))) Tryz.func9 (λ _=>[]) ?_
 rintro ⟨r,n⟩ hpre
 have hpre:hasRow [.int,.bool,.int,.int,.int,.int,.sl 24 [.sl 23 [.int,.int]],.sl 161 [.bool,.sl 3 [.int],.sl 3 [.int],.bool,.sl 3 [.int],.sl 3 [.int],.bool,.sl 3 [.int],.sl 3 [.int],.bool,.sl 3 [.int],.sl 3 [.int],.bool,.sl 3 [.int],.sl 3 [.int],.bool,.sl 3 [.int],.sl 3 [.int]],.sl 164 [.bool,.sl 3 [.int],.sl 3 [.int],.bool,.sl 3 [.int],.sl 3 [.int],.bool,.sl 3 [.int],.sl 3 [.int]],.sl 172 [.int,.int],.sl 3 [.int]] r/\0<=n/\n<=1048576:=hpre
 refine AI (q:=let Z2:=List (List Dat);let Z1:=(vI (-1:Int)=vI (szR (AC r) n));∃ i1:Z2×Int,let Z3:=szR (i1.1.length+AA i1.1) i1.2;[DA.one (DC.sl 24 [.sl 23 [.int,.int]] ((r.getD 6 (.int 0)).r)),DA.one (cI n)]=Bn.args i1/\Bn.pre i1/\(ifB ((decide (Z3<(0:Int)))) Z1 (∃ i2:Z2×Int,let Z4:=szR (i2.1.length+AA i2.1) i2.2;[DA.one (DC.sl 161 CS ((r.getD 7 (.int 0)).r)),DA.one (cI Z3)]=Dg.args i2/\Dg.pre i2/\(ifB ((decide (Z4<(0:Int)))) Z1 (∃ i3:Z2×Int,let Z5:=szR (i3.1.length+AA i3.1) i3.2;[DA.one (DC.sl 164 CR ((r.getD 8 (.int 0)).r)),DA.one (cI Z4)]=Df.args i3/\Df.pre i3/\(ifB ((decide (Z5<(0:Int)))) Z1 (∃ i4:Z2×Int,let Z6:=szR (i4.1.length+AA i4.1) i4.2;[DA.one (DC.sl 172 [.int,.int] ((r.getD 9 (.int 0)).r)),DA.one (cI Z5)]=De.args i4/\De.pre i4/\(ifB ((decide (Z6<(0:Int)))) Z1 (∃ i5:Z2×Int,let Z7:=szR (i5.1.length+AA i5.1) i5.2;[DA.one (cS ((r.getD 10 (.int 0)).r)),DA.one (cI Z6)]=Aj.args i5/\Aj.pre i5/\(ifB ((decide (Z7<(0:Int)))) Z1 ((vI Z7=vI (szR (AC r) n))))))))))))) (by kernel_rfl) ?_
 conv=>zeta
 delta ifB vI
 obtain ⟨hh,h0,h1⟩:=hpre
 have hz:=IN hh
 have hp:=G3 hh
 obtain ⟨p0,p1,p2,p3,p4,p5,p6,p7,p8,p9,p10⟩:=hp
 have f0:=A7 (((r.getD 6 (.int 0)).r).length+AA ((r.getD 6 (.int 0)).r)) (n)
 have f1:=A7 (((r.getD 7 (.int 0)).r).length+AA ((r.getD 7 (.int 0)).r)) (szR (((r.getD 6 (.int 0)).r).length+AA ((r.getD 6 (.int 0)).r)) (n))
 have f2:=A7 (((r.getD 8 (.int 0)).r).length+AA ((r.getD 8 (.int 0)).r)) (szR (((r.getD 7 (.int 0)).r).length+AA ((r.getD 7 (.int 0)).r)) (szR (((r.getD 6 (.int 0)).r).length+AA ((r.getD 6 (.int 0)).r)) (n)))
 have f3:=A7 (((r.getD 9 (.int 0)).r).length+AA ((r.getD 9 (.int 0)).r)) (szR (((r.getD 8 (.int 0)).r).length+AA ((r.getD 8 (.int 0)).r)) (szR (((r.getD 7 (.int 0)).r).length+AA ((r.getD 7 (.int 0)).r)) (szR (((r.getD 6 (.int 0)).r).length+AA ((r.getD 6 (.int 0)).r)) (n))))
 have f4:=A7 (((r.getD 10 (.int 0)).r).length+AA ((r.getD 10 (.int 0)).r)) (szR (((r.getD 9 (.int 0)).r).length+AA ((r.getD 9 (.int 0)).r)) (szR (((r.getD 8 (.int 0)).r).length+AA ((r.getD 8 (.int 0)).r)) (szR (((r.getD 7 (.int 0)).r).length+AA ((r.getD 7 (.int 0)).r)) (szR (((r.getD 6 (.int 0)).r).length+AA ((r.getD 6 (.int 0)).r)) (n)))))
 have ft:=A7 (AC r) n
 refine ⟨(((r.getD 6 (.int 0)).r),n),by
  rfl,by
  show Dat.has (.sl 24 [.sl 23 [.int,.int]]) (.sl ((r.getD 6 (.int 0)).r))/\0<=n/\n<=1048576
  refine ⟨?_,?_,?_⟩ <;> (try dsimp only) <;> first|assumption|omega|exact ⟨⟩,?_⟩
 refine ⟨λ c4=>?_,λ c4=>?_⟩
 ·try simp only [nrm] at c4
  refine AF ?_;try dsimp only
  omega
 try simp only [nrm] at c4
 refine ⟨(((r.getD 7 (.int 0)).r),(szR (((r.getD 6 (.int 0)).r).length+AA ((r.getD 6 (.int 0)).r)) n)),by
  rfl,by
  try dsimp only [Dg]
  refine ⟨?_,?_,?_⟩ <;> (try dsimp only) <;> first|assumption|omega|exact ⟨⟩,?_⟩
 refine ⟨λ c9=>?_,λ c9=>?_⟩
 ·try simp only [nrm] at c9
  refine AF ?_;try dsimp only
  omega
 try simp only [nrm] at c9
 refine ⟨(((r.getD 8 (.int 0)).r),(szR (((r.getD 7 (.int 0)).r).length+AA ((r.getD 7 (.int 0)).r)) (szR (((r.getD 6 (.int 0)).r).length+AA ((r.getD 6 (.int 0)).r)) n))),by
  rfl,by
  try dsimp only [Df]
  refine ⟨?_,?_,?_⟩ <;> (try dsimp only) <;> first|assumption|omega|exact ⟨⟩,?_⟩
 refine ⟨λ c14=>?_,λ c14=>?_⟩
 ·try dsimp only at c14
  try simp only [nrm] at c14
  refine AF ?_;try dsimp only
  omega
 try dsimp only at c14
 try simp only [nrm] at c14
 refine ⟨(((r.getD 9 (.int 0)).r),(szR (((r.getD 8 (.int 0)).r).length+AA ((r.getD 8 (.int 0)).r)) (szR (((r.getD 7 (.int 0)).r).length+AA ((r.getD 7 (.int 0)).r)) (szR (((r.getD 6 (.int 0)).r).length+AA ((r.getD 6 (.int 0)).r)) n)))),by
  rfl,by
  try dsimp only [De]
  refine ⟨?_,?_,?_⟩ <;> (try dsimp only) <;> first|assumption|omega|exact ⟨⟩,?_⟩
 refine ⟨λ c19=>?_,λ c19=>?_⟩
 ·try dsimp only at c19
  try simp only [nrm] at c19
  refine AF ?_;try dsimp only
  omega
 try dsimp only at c19
 try simp only [nrm] at c19
 refine ⟨(((r.getD 10 (.int 0)).r),(szR (((r.getD 9 (.int 0)).r).length+AA ((r.getD 9 (.int 0)).r)) (szR (((r.getD 8 (.int 0)).r).length+AA ((r.getD 8 (.int 0)).r)) (szR (((r.getD 7 (.int 0)).r).length+AA ((r.getD 7 (.int 0)).r)) (szR (((r.getD 6 (.int 0)).r).length+AA ((r.getD 6 (.int 0)).r)) n))))),by
  rfl,by
  try dsimp only [Aj]
  refine ⟨?_,?_,?_⟩ <;> (try dsimp only) <;> first|assumption|omega|exact ⟨⟩,?_⟩
 refine ⟨λ c24=>?_,λ c24=>?_⟩
 ·try dsimp only at c24
  try simp only [nrm] at c24
  refine AF ?_;try dsimp only
  omega
 try dsimp only at c24
 try simp only [nrm] at c24
 show Value.int .i64 (szR (((r.getD 10 (.int 0)).r).length+AA ((r.getD 10 (.int 0)).r)) (szR (((r.getD 9 (.int 0)).r).length+AA ((r.getD 9 (.int 0)).r)) (szR (((r.getD 8 (.int 0)).r).length+AA ((r.getD 8 (.int 0)).r)) (szR (((r.getD 7 (.int 0)).r).length+AA ((r.getD 7 (.int 0)).r)) (szR (((r.getD 6 (.int 0)).r).length+AA ((r.getD 6 (.int 0)).r)) n)))))=Value.int .i64 (szR (AC r) n)
 refine AF ?_;try dsimp only
 omega
def Dk:Con:={ ι:=(List Dat),pre:=λ i=>hasRow [.int,.bool,.int,.int,.int,.int,.sl 24 [.sl 23 [.int,.int]],.sl 161 [.bool,.sl 3 [.int],.sl 3 [.int],.bool,.sl 3 [.int],.sl 3 [.int],.bool,.sl 3 [.int],.sl 3 [.int],.bool,.sl 3 [.int],.sl 3 [.int],.bool,.sl 3 [.int],.sl 3 [.int],.bool,.sl 3 [.int],.sl 3 [.int]],.sl 164 [.bool,.sl 3 [.int],.sl 3 [.int],.bool,.sl 3 [.int],.sl 3 [.int],.bool,.sl 3 [.int],.sl 3 [.int]],.sl 172 [.int,.int],.sl 3 [.int]] i/\AC i<=1048576,args:=λ i=>[w34 i],res:=λ i=>⟨false,[some 11],[rcI ((i.getD 0 (.int 0)).n),rcB ((i.getD 1 (.int 0)).b),rcI ((i.getD 2 (.int 0)).n),rcI ((i.getD 3 (.int 0)).n),rcI ((i.getD 4 (.int 0)).n),rcI ((i.getD 5 (.int 0)).n),.own 40 [.sl 39 [.int,.int]] ((i.getD 6 (.int 0)).r),.own 158 [.bool,.sl 3 [.int],.sl 3 [.int],.bool,.sl 3 [.int],.sl 3 [.int],.bool,.sl 3 [.int],.sl 3 [.int],.bool,.sl 3 [.int],.sl 3 [.int],.bool,.sl 3 [.int],.sl 3 [.int],.bool,.sl 3 [.int],.sl 3 [.int]] ((i.getD 7 (.int 0)).r),.own 153 [.bool,.sl 3 [.int],.sl 3 [.int],.bool,.sl 3 [.int],.sl 3 [.int],.bool,.sl 3 [.int],.sl 3 [.int]] ((i.getD 8 (.int 0)).r),.own 168 [.int,.int] ((i.getD 9 (.int 0)).r),.own 3 [.int] ((i.getD 10 (.int 0)).r)]⟩ }
theorem PK:Dk.Ok Tryz.prog 12:=by
 refine fok (X:=⟨tt,[(28,Fb),(29,B9),(62,Di),(63,Dh),(64,Ed),(65,BX)],[],35,[]⟩) mixed AH (CTok.cons TU (CTok.cons Kj (CTok.cons PH (CTok.cons PE (CTok.cons PC (CTok.cons Ix (CTok.nil _))))))) Tryz.func12 (λ _=>[]) ?_
 intro (r:List Dat) hpre
 have hpre:hasRow [.int,.bool,.int,.int,.int,.int,.sl 24 [.sl 23 [.int,.int]],.sl 161 [.bool,.sl 3 [.int],.sl 3 [.int],.bool,.sl 3 [.int],.sl 3 [.int],.bool,.sl 3 [.int],.sl 3 [.int],.bool,.sl 3 [.int],.sl 3 [.int],.bool,.sl 3 [.int],.sl 3 [.int],.bool,.sl 3 [.int],.sl 3 [.int]],.sl 164 [.bool,.sl 3 [.int],.sl 3 [.int],.bool,.sl 3 [.int],.sl 3 [.int],.bool,.sl 3 [.int],.sl 3 [.int]],.sl 172 [.int,.int],.sl 3 [.int]] r/\AC r<=1048576:=hpre
 refine AI (q:=let Z1:=List (List Dat);∃ i1:(List Dat),[DA.agg [cI ((r.getD 2 (.int 0)).n),cI ((r.getD 3 (.int 0)).n),cI ((r.getD 4 (.int 0)).n),cI ((r.getD 5 (.int 0)).n)]]=Fb.args i1/\Fb.pre i1/\(∃ i2:Z1,[DA.one (DC.sl 24 [.sl 23 [.int,.int]] ((r.getD 6 (.int 0)).r))]=B9.args i2/\B9.pre i2/\(∃ i3:Z1,[DA.one (DC.sl 161 CS ((r.getD 7 (.int 0)).r))]=Di.args i3/\Di.pre i3/\(∃ i4:Z1,[DA.one (DC.sl 164 CR ((r.getD 8 (.int 0)).r))]=Dh.args i4/\Dh.pre i4/\(∃ i5:Z1,[DA.one (DC.sl 172 [.int,.int] ((r.getD 9 (.int 0)).r))]=Ed.args i5/\Ed.pre i5/\(∃ i6:Z1,[DA.one (cS ((r.getD 10 (.int 0)).r))]=BX.args i6/\BX.pre i6/\((vI ((r.getD 0 (.int 0)).n)=vI ((r.getD 0 (.int 0)).n))/\(vB ((r.getD 1 (.int 0)).b)=vB ((r.getD 1 (.int 0)).b))/\(vI ((i1.getD 0 (.int 0)).n)=vI ((r.getD 2 (.int 0)).n))/\(vI ((i1.getD 1 (.int 0)).n)=vI ((r.getD 3 (.int 0)).n))/\(vI ((i1.getD 2 (.int 0)).n)=vI ((r.getD 4 (.int 0)).n))/\(vI ((i1.getD 3 (.int 0)).n)=vI ((r.getD 5 (.int 0)).n))/\(i2=(r.getD 6 (.int 0)).r)/\(i3=(r.getD 7 (.int 0)).r)/\(i4=(r.getD 8 (.int 0)).r)/\(i5=(r.getD 9 (.int 0)).r)/\(i6=(r.getD 10 (.int 0)).r)))))))) (by kernel_rfl) ?_
 conv=>zeta
 delta vB vI
 have hz:=IN hpre.1
 have hs:=hpre.2
 have hp:=G3 hpre.1
 obtain ⟨p0,p1,p2,p3,p4,p5,p6,p7,p8,p9,p10⟩:=hp
 refine ⟨([Dat.int ((r.getD 2 (.int 0)).n),Dat.int ((r.getD 3 (.int 0)).n),Dat.int ((r.getD 4 (.int 0)).n),Dat.int ((r.getD 5 (.int 0)).n)]:List Dat),by
  rfl,by
  try dsimp only [Fb]
  simp [hasRow,Dat.has,AC,Dat.sz];done,?_⟩
 refine ⟨((r.getD 6 (.int 0)).r),by
  rfl,by
  show ((r.getD 6 (.int 0)).r).length+AA ((r.getD 6 (.int 0)).r)<=1048576
  omega,?_⟩
 refine ⟨((r.getD 7 (.int 0)).r),by
  rfl,by
  try dsimp only [Di]
  exact ⟨p7,by omega⟩,?_⟩
 refine ⟨((r.getD 8 (.int 0)).r),by
  rfl,by
  try dsimp only [Dh]
  exact ⟨p8,by omega⟩,?_⟩
 refine ⟨((r.getD 9 (.int 0)).r),by
  rfl,by
  show Dat.has (.sl 172 [.int,.int]) (.sl ((r.getD 9 (.int 0)).r))/\((r.getD 9 (.int 0)).r).length+AA ((r.getD 9 (.int 0)).r)<=1048576
  exact ⟨p9,by omega⟩,?_⟩
 refine ⟨((r.getD 10 (.int 0)).r),by
  rfl,by
  show ((r.getD 10 (.int 0)).r).length+AA ((r.getD 10 (.int 0)).r)<=1048576
  omega,?_⟩
 refine ⟨rfl,rfl,?_,?_,?_,?_,rfl,rfl,rfl,rfl,rfl⟩
 ·rfl
 ·rfl
 ·rfl
 rfl
def Dl:Con:={ ι:=(List Dat),pre:=λ i=>hasRow [.int,.bool,.int,.int,.int,.int,.sl 24 [.sl 23 [.int,.int]],.sl 161 [.bool,.sl 3 [.int],.sl 3 [.int],.bool,.sl 3 [.int],.sl 3 [.int],.bool,.sl 3 [.int],.sl 3 [.int],.bool,.sl 3 [.int],.sl 3 [.int],.bool,.sl 3 [.int],.sl 3 [.int],.bool,.sl 3 [.int],.sl 3 [.int]],.sl 164 [.bool,.sl 3 [.int],.sl 3 [.int],.bool,.sl 3 [.int],.sl 3 [.int],.bool,.sl 3 [.int],.sl 3 [.int]],.sl 172 [.int,.int],.sl 3 [.int]] i,args:=λ i=>[w50 i,w50 i],res:=λ i=>⟨false,[none],[rcB true]⟩ }
theorem PL:Dl.Ok Tryz.prog 16:=by
 refine fok (X:=⟨tt,[(73,HT),(32,B8),(47,Eg),(40,Ef),(74,Ee),(14,BW)],[],51,[]⟩) mixed AH (CTok.cons TV (CTok.cons Ki (CTok.cons PI (CTok.cons PG (CTok.cons PD (CTok.cons Iw (CTok.nil _))))))) Tryz.func16 (λ _=>[]) ?_
 intro (r:List Dat) hpre
 have hpre:hasRow [.int,.bool,.int,.int,.int,.int,.sl 24 [.sl 23 [.int,.int]],.sl 161 [.bool,.sl 3 [.int],.sl 3 [.int],.bool,.sl 3 [.int],.sl 3 [.int],.bool,.sl 3 [.int],.sl 3 [.int],.bool,.sl 3 [.int],.sl 3 [.int],.bool,.sl 3 [.int],.sl 3 [.int],.bool,.sl 3 [.int],.sl 3 [.int]],.sl 164 [.bool,.sl 3 [.int],.sl 3 [.int],.bool,.sl 3 [.int],.sl 3 [.int],.bool,.sl 3 [.int],.sl 3 [.int]],.sl 172 [.int,.int],.sl 3 [.int]] r:=hpre
 refine AI (q:=let Z7:=cS ((r.getD 10 (.int 0)).r);let Z6:=DC.sl 153 CR ((r.getD 8 (.int 0)).r);let Z5:=DC.sl 158 CS ((r.getD 7 (.int 0)).r);let Z4:=DC.sl 168 [.int,.int] ((r.getD 9 (.int 0)).r);let Z3:=DC.sl 40 [.sl 39 [.int,.int]] ((r.getD 6 (.int 0)).r);let Z2:=List (List Dat);let Z1:=(vB false=vB true);ifB ((((r.getD 0 (.int 0)).n) != ((r.getD 0 (.int 0)).n))) Z1 (ifB ((((r.getD 1 (.int 0)).b) != ((r.getD 1 (.int 0)).b))) Z1 (∃ i1:(List Dat),[DA.agg [cI ((r.getD 2 (.int 0)).n),cI ((r.getD 3 (.int 0)).n),cI ((r.getD 4 (.int 0)).n),cI ((r.getD 5 (.int 0)).n)],DA.agg [cI ((r.getD 2 (.int 0)).n),cI ((r.getD 3 (.int 0)).n),cI ((r.getD 4 (.int 0)).n),cI ((r.getD 5 (.int 0)).n)]]=HT.args i1/\HT.pre i1/\(ifB ((!true)) Z1 (∃ i2:Z2,[DA.one Z3,DA.one Z3]=B8.args i2/\B8.pre i2/\(ifB ((!true)) Z1 (∃ i3:Z2,[DA.one Z5,DA.one Z5]=Eg.args i3/\Eg.pre i3/\(ifB ((!true)) Z1 (∃ i4:Z2,[DA.one Z6,DA.one Z6]=Ef.args i4/\Ef.pre i4/\(ifB ((!true)) Z1 (∃ i5:Z2,[DA.one Z4,DA.one Z4]=Ee.args i5/\Ee.pre i5/\(ifB ((!true)) Z1 (∃ i6:Z2,[DA.one Z7,DA.one Z7]=BW.args i6/\BW.pre i6/\(ifB ((!true)) Z1 ((vB true=vB true)))))))))))))))) (by kernel_rfl) ?_
 conv=>zeta
 delta ifB vB
 have hp:=G3 hpre
 obtain ⟨p0,p1,p2,p3,p4,p5,p6,p7,p8,p9,p10⟩:=hp
 refine ⟨λ c1=>?_,λ c1=>?_⟩
 ·try simp only [nrm] at c1
  exfalso;simp_all;done
 try simp only [nrm] at c1
 refine ⟨λ c3=>?_,λ c3=>?_⟩
 ·try simp only [nrm] at c3
  exfalso;simp_all;done
 try simp only [nrm] at c3
 refine ⟨([Dat.int ((r.getD 2 (.int 0)).n),Dat.int ((r.getD 3 (.int 0)).n),Dat.int ((r.getD 4 (.int 0)).n),Dat.int ((r.getD 5 (.int 0)).n)]:List Dat),by
  rfl,by
  trivial,?_⟩
 refine ⟨λ c8=>?_,λ c8=>?_⟩
 ·try simp only [nrm] at c8
  exfalso;simp_all;done
 try simp only [nrm] at c8
 refine ⟨((r.getD 6 (.int 0)).r),by
  rfl,by
  trivial,?_⟩
 refine ⟨λ c13=>?_,λ c13=>?_⟩
 ·try simp only [nrm] at c13
  exfalso;simp_all;done
 try simp only [nrm] at c13
 refine ⟨((r.getD 7 (.int 0)).r),by
  rfl,by
  exact Cz p7,?_⟩
 refine ⟨λ c18=>?_,λ c18=>?_⟩
 ·try simp only [nrm] at c18
  exfalso;simp_all;done
 try simp only [nrm] at c18
 refine ⟨((r.getD 8 (.int 0)).r),by
  rfl,by
  exact Cz p8,?_⟩
 refine ⟨λ c23=>?_,λ c23=>?_⟩
 ·try simp only [nrm] at c23
  exfalso;simp_all;done
 try simp only [nrm] at c23
 refine ⟨((r.getD 9 (.int 0)).r),by
  rfl,by
  exact Cz p9,?_⟩
 refine ⟨λ c28=>?_,λ c28=>?_⟩
 ·try simp only [nrm] at c28
  exfalso;simp_all;done
 try simp only [nrm] at c28
 refine ⟨((r.getD 10 (.int 0)).r),by
  rfl,by
  trivial,?_⟩
 refine ⟨λ c33=>?_,λ c33=>?_⟩
 ·try simp only [nrm] at c33
  exfalso;simp_all;done
 try simp only [nrm] at c33
 exact rfl
theorem Nq {r:List Dat} (h:hasRow [.int,.int,.int,.int,.sl 23 [.int,.int],.sl 24 [.sl 23 [.int,.int]],.sl 23 [.int,.int]] r):r=[.int (r.getD 0 (.int 0)).n,.int (r.getD 1 (.int 0)).n,.int (r.getD 2 (.int 0)).n,.int (r.getD 3 (.int 0)).n,.sl (r.getD 4 (.int 0)).r,.sl (r.getD 5 (.int 0)).r,.sl (r.getD 6 (.int 0)).r]:=by
 obtain ⟨_,_,rfl,q0,h0⟩:=h.cons
 obtain ⟨_,rfl⟩:=Dat.has_int q0
 obtain ⟨_,_,rfl,q1,h1⟩:=h0.cons
 obtain ⟨_,rfl⟩:=Dat.has_int q1
 obtain ⟨_,_,rfl,q2,h2⟩:=h1.cons
 obtain ⟨_,rfl⟩:=Dat.has_int q2
 obtain ⟨_,_,rfl,q3,h3⟩:=h2.cons
 obtain ⟨_,rfl⟩:=Dat.has_int q3
 obtain ⟨_,_,rfl,q4,h4⟩:=h3.cons
 obtain ⟨_,rfl⟩:=Dat.has_sl q4
 obtain ⟨_,_,rfl,q5,h5⟩:=h4.cons
 obtain ⟨_,rfl⟩:=Dat.has_sl q5
 obtain ⟨_,_,rfl,q6,h6⟩:=h5.cons
 obtain ⟨_,rfl⟩:=Dat.has_sl q6
 obtain rfl:=hasRow.nil h6
 rfl
theorem Nr {r:List Dat} (h:hasRow [.int,.int,.int,.int,.sl 23 [.int,.int],.sl 24 [.sl 23 [.int,.int]],.sl 23 [.int,.int]] r):AC r=(((r.getD 4 (.int 0)).r).length+AA ((r.getD 4 (.int 0)).r))+(((r.getD 5 (.int 0)).r).length+AA ((r.getD 5 (.int 0)).r))+(((r.getD 6 (.int 0)).r).length+AA ((r.getD 6 (.int 0)).r)):=by
 conv=>lhs;rw [Nq h]
 simp only [AC,Dat.sz]
 omega
theorem Ns {r:List Dat} (h:hasRow [.int,.int,.int,.int,.sl 23 [.int,.int],.sl 24 [.sl 23 [.int,.int]],.sl 23 [.int,.int]] r):Dat.has .int (.int (r.getD 0 (.int 0)).n)/\Dat.has .int (.int (r.getD 1 (.int 0)).n)/\Dat.has .int (.int (r.getD 2 (.int 0)).n)/\Dat.has .int (.int (r.getD 3 (.int 0)).n)/\Dat.has (.sl 23 [.int,.int]) (.sl (r.getD 4 (.int 0)).r)/\Dat.has (.sl 24 [.sl 23 [.int,.int]]) (.sl (r.getD 5 (.int 0)).r)/\Dat.has (.sl 23 [.int,.int]) (.sl (r.getD 6 (.int 0)).r):=by
 rw [Nq h] at h
 simpa only [hasRow,and_true] using h
def Dm:Con:={ ι:=(List Dat)×Int,pre:=λ i=>hasRow [.int,.int,.int,.int,.sl 23 [.int,.int],.sl 24 [.sl 23 [.int,.int]],.sl 23 [.int,.int]] i.1/\0<=i.2/\i.2<=1048576,args:=λ i=>[w26 i.1,.one (cI i.2)],res:=λ i=>⟨false,[none],[rcI (szR (AC i.1) i.2)]⟩ }
theorem PM:Dm.Ok Tryz.prog 8:=by
 refine fok (X:=⟨tt,[(50,BV),(26,Bn)],[],24,[]⟩) mixed AH (CTok.cons Ly (CTok.cons Kk (CTok.nil _))) Tryz.func8 (λ _=>[]) ?_
 rintro ⟨r,n⟩ hpre
 have hpre:hasRow [.int,.int,.int,.int,.sl 23 [.int,.int],.sl 24 [.sl 23 [.int,.int]],.sl 23 [.int,.int]] r/\0<=n/\n<=1048576:=hpre
 refine AI (q:=let Z5:=List (List Dat);let Z1:=(vI (-1:Int)=vI (szR (AC r) n));∃ i1:Z5×Int,let Z2:=szR (i1.1.length+AA i1.1) i1.2;[DA.one (DC.sl 23 [.int,.int] ((r.getD 4 (.int 0)).r)),DA.one (cI n)]=BV.args i1/\BV.pre i1/\(ifB ((decide (Z2<(0:Int)))) Z1 (∃ i2:Z5×Int,let Z3:=szR (i2.1.length+AA i2.1) i2.2;[DA.one (DC.sl 24 [.sl 23 [.int,.int]] ((r.getD 5 (.int 0)).r)),DA.one (cI Z2)]=Bn.args i2/\Bn.pre i2/\(ifB ((decide (Z3<(0:Int)))) Z1 (∃ i3:Z5×Int,let Z4:=szR (i3.1.length+AA i3.1) i3.2;[DA.one (DC.sl 23 [.int,.int] ((r.getD 6 (.int 0)).r)),DA.one (cI Z3)]=BV.args i3/\BV.pre i3/\(ifB ((decide (Z4<(0:Int)))) Z1 ((vI Z4=vI (szR (AC r) n))))))))) (by kernel_rfl) ?_
 conv=>zeta
 delta ifB vI
 obtain ⟨hh,h0,h1⟩:=hpre
 have hz:=Nr hh
 have hp:=Ns hh
 obtain ⟨p0,p1,p2,p3,p4,p5,p6⟩:=hp
 have f0:=A7 (((r.getD 4 (.int 0)).r).length+AA ((r.getD 4 (.int 0)).r)) (n)
 have f1:=A7 (((r.getD 5 (.int 0)).r).length+AA ((r.getD 5 (.int 0)).r)) (szR (((r.getD 4 (.int 0)).r).length+AA ((r.getD 4 (.int 0)).r)) (n))
 have f2:=A7 (((r.getD 6 (.int 0)).r).length+AA ((r.getD 6 (.int 0)).r)) (szR (((r.getD 5 (.int 0)).r).length+AA ((r.getD 5 (.int 0)).r)) (szR (((r.getD 4 (.int 0)).r).length+AA ((r.getD 4 (.int 0)).r)) (n)))
 have ft:=A7 (AC r) n
 refine ⟨(((r.getD 4 (.int 0)).r),n),by
  rfl,by
  show Dat.has (.sl 39 [.int,.int]) (.sl ((r.getD 4 (.int 0)).r))/\0<=n/\n<=1048576
  refine ⟨?_,?_,?_⟩ <;> (try dsimp only) <;> first|assumption|omega|exact ⟨⟩,?_⟩
 refine ⟨λ c4=>?_,λ c4=>?_⟩
 ·try simp only [nrm] at c4
  refine AF ?_;try dsimp only
  omega
 try simp only [nrm] at c4
 refine ⟨(((r.getD 5 (.int 0)).r),(szR (((r.getD 4 (.int 0)).r).length+AA ((r.getD 4 (.int 0)).r)) n)),by
  rfl,by
  try dsimp only [Bn]
  refine ⟨?_,?_,?_⟩ <;> (try dsimp only) <;> first|assumption|omega|exact ⟨⟩,?_⟩
 refine ⟨λ c9=>?_,λ c9=>?_⟩
 ·try simp only [nrm] at c9
  refine AF ?_;try dsimp only
  omega
 try simp only [nrm] at c9
 refine ⟨(((r.getD 6 (.int 0)).r),(szR (((r.getD 5 (.int 0)).r).length+AA ((r.getD 5 (.int 0)).r)) (szR (((r.getD 4 (.int 0)).r).length+AA ((r.getD 4 (.int 0)).r)) n))),by
  rfl,by
  try dsimp only [BV]
  refine ⟨?_,?_,?_⟩ <;> (try dsimp only) <;> first|assumption|omega|exact ⟨⟩,?_⟩
 refine ⟨λ c14=>?_,λ c14=>?_⟩
 ·try dsimp only at c14
  try simp only [nrm] at c14
  refine AF ?_;try dsimp only
  omega
 try dsimp only at c14
 try simp only [nrm] at c14
 show Value.int .i64 (szR (((r.getD 6 (.int 0)).r).length+AA ((r.getD 6 (.int 0)).r)) (szR (((r.getD 5 (.int 0)).r).length+AA ((r.getD 5 (.int 0)).r)) (szR (((r.getD 4 (.int 0)).r).length+AA ((r.getD 4 (.int 0)).r)) n)))=Value.int .i64 (szR (AC r) n)
 refine AF ?_;try dsimp only
 omega
def Dn:Con:={ ι:=(List Dat),pre:=λ i=>hasRow [.int,.int,.int,.int,.sl 23 [.int,.int],.sl 24 [.sl 23 [.int,.int]],.sl 23 [.int,.int]] i/\AC i<=1048576,args:=λ i=>[w26 i],res:=λ i=>⟨false,[some 7],[rcI ((i.getD 0 (.int 0)).n),rcI ((i.getD 1 (.int 0)).n),rcI ((i.getD 2 (.int 0)).n),rcI ((i.getD 3 (.int 0)).n),.own 39 [.int,.int] ((i.getD 4 (.int 0)).r),.own 40 [.sl 39 [.int,.int]] ((i.getD 5 (.int 0)).r),.own 39 [.int,.int] ((i.getD 6 (.int 0)).r)]⟩ }
theorem PN:Dn.Ok Tryz.prog 11:=by
 refine fok (X:=⟨tt,[(60,Bh),(61,DH),(29,B9)],[],25,[]⟩) mixed AH (CTok.cons No (CTok.cons Ra (CTok.cons Kj (CTok.nil _)))) Tryz.func11 (λ _=>[]) ?_
 intro (r:List Dat) hpre
 have hpre:hasRow [.int,.int,.int,.int,.sl 23 [.int,.int],.sl 24 [.sl 23 [.int,.int]],.sl 23 [.int,.int]] r/\AC r<=1048576:=hpre
 refine AI (q:=let Z1:=List (List Dat);∃ i1:(Int×Int),[DA.agg [cI ((r.getD 0 (.int 0)).n),cI ((r.getD 1 (.int 0)).n)]]=Bh.args i1/\Bh.pre i1/\(∃ i2:(Int×Int),[DA.agg [cI ((r.getD 2 (.int 0)).n),cI ((r.getD 3 (.int 0)).n)]]=Bh.args i2/\Bh.pre i2/\(∃ i3:Z1,[DA.one (DC.sl 23 [.int,.int] ((r.getD 4 (.int 0)).r))]=DH.args i3/\DH.pre i3/\(∃ i4:Z1,[DA.one (DC.sl 24 [.sl 23 [.int,.int]] ((r.getD 5 (.int 0)).r))]=B9.args i4/\B9.pre i4/\(∃ i5:Z1,[DA.one (DC.sl 23 [.int,.int] ((r.getD 6 (.int 0)).r))]=DH.args i5/\DH.pre i5/\((vI i1.1=vI ((r.getD 0 (.int 0)).n))/\(vI i1.2=vI ((r.getD 1 (.int 0)).n))/\(vI i2.1=vI ((r.getD 2 (.int 0)).n))/\(vI i2.2=vI ((r.getD 3 (.int 0)).n))/\(i3=(r.getD 4 (.int 0)).r)/\(i4=(r.getD 5 (.int 0)).r)/\(i5=(r.getD 6 (.int 0)).r))))))) (by kernel_rfl) ?_
 conv=>zeta
 delta vI
 have hz:=Nr hpre.1
 have hs:=hpre.2
 have hp:=Ns hpre.1
 obtain ⟨p0,p1,p2,p3,p4,p5,p6⟩:=hp
 refine ⟨(((r.getD 0 (.int 0)).n),((r.getD 1 (.int 0)).n)),by
  rfl,by
  show AC [.int (((r.getD 0 (.int 0)).n),((r.getD 1 (.int 0)).n)).1,.int (((r.getD 0 (.int 0)).n),((r.getD 1 (.int 0)).n)).2]<=1048576
  first|trivial|omega|(dsimp only;omega)|exact ⟨p4,by omega⟩|exact ⟨p5,by omega⟩|exact ⟨p6,by omega⟩|(simp [AC,Dat.sz];done)|(simp [hasRow,Dat.has,AC,Dat.sz];done),?_⟩
 refine ⟨(((r.getD 2 (.int 0)).n),((r.getD 3 (.int 0)).n)),by
  rfl,by
  show AC [.int (((r.getD 2 (.int 0)).n),((r.getD 3 (.int 0)).n)).1,.int (((r.getD 2 (.int 0)).n),((r.getD 3 (.int 0)).n)).2]<=1048576
  first|trivial|omega|(dsimp only;omega)|exact ⟨p4,by omega⟩|exact ⟨p5,by omega⟩|exact ⟨p6,by omega⟩|(simp [AC,Dat.sz];done)|(simp [hasRow,Dat.has,AC,Dat.sz];done),?_⟩
 refine ⟨((r.getD 4 (.int 0)).r),by
  rfl,by
  show ((r.getD 4 (.int 0)).r).length+AA ((r.getD 4 (.int 0)).r)<=1048576
  first|trivial|omega|(dsimp only;omega)|exact ⟨p4,by omega⟩|exact ⟨p5,by omega⟩|exact ⟨p6,by omega⟩|(simp [AC,Dat.sz];done)|(simp [hasRow,Dat.has,AC,Dat.sz];done),?_⟩
 refine ⟨((r.getD 5 (.int 0)).r),by
  rfl,by
  show ((r.getD 5 (.int 0)).r).length+AA ((r.getD 5 (.int 0)).r)<=1048576
  first|trivial|omega|(dsimp only;omega)|exact ⟨p4,by omega⟩|exact ⟨p5,by omega⟩|exact ⟨p6,by omega⟩|(simp [AC,Dat.sz];done)|(simp [hasRow,Dat.has,AC,Dat.sz];done),?_⟩
 refine ⟨((r.getD 6 (.int 0)).r),by
  rfl,by
  show ((r.getD 6 (.int 0)).r).length+AA ((r.getD 6 (.int 0)).r)<=1048576
  first|trivial|omega|(dsimp only;omega)|exact ⟨p4,by omega⟩|exact ⟨p5,by omega⟩|exact ⟨p6,by omega⟩|(simp [AC,Dat.sz];done)|(simp [hasRow,Dat.has,AC,Dat.sz];done),?_⟩
 refine ⟨?_,?_,?_,?_,rfl,rfl,rfl⟩
 ·rfl
 ·rfl
 ·rfl
 rfl
def Eh:Con:={ ι:=(List Dat),pre:=λ i=>True,args:=λ i=>[w42 i,w42 i],res:=λ i=>⟨false,[none],[rcB true]⟩ }
theorem PO:Eh.Ok Tryz.prog 15:=by
 refine fok (X:=⟨tt,[(71,Bi),(72,DG),(32,B8)],[],35,[]⟩) mixed AH (CTok.cons Np (CTok.cons RZ (CTok.cons Ki (CTok.nil _)))) Tryz.func15 (λ _=>[]) ?_
 intro (r:List Dat) hpre
 have hpre:True:=hpre
 refine AI (q:=let Z5:=List (List Dat);let Z4:=DC.sl 39 [.int,.int] ((r.getD 6 (.int 0)).r);let Z3:=DC.sl 39 [.int,.int] ((r.getD 4 (.int 0)).r);let Z2:=DC.sl 40 [.sl 39 [.int,.int]] ((r.getD 5 (.int 0)).r);let Z1:=(vB false=vB true);∃ i1:(Int×Int),[DA.agg [cI ((r.getD 0 (.int 0)).n),cI ((r.getD 1 (.int 0)).n)],DA.agg [cI ((r.getD 0 (.int 0)).n),cI ((r.getD 1 (.int 0)).n)]]=Bi.args i1/\Bi.pre i1/\(ifB ((!true)) Z1 (∃ i2:(Int×Int),[DA.agg [cI ((r.getD 2 (.int 0)).n),cI ((r.getD 3 (.int 0)).n)],DA.agg [cI ((r.getD 2 (.int 0)).n),cI ((r.getD 3 (.int 0)).n)]]=Bi.args i2/\Bi.pre i2/\(ifB ((!true)) Z1 (∃ i3:Z5,[DA.one Z3,DA.one Z3]=DG.args i3/\DG.pre i3/\(ifB ((!true)) Z1 (∃ i4:Z5,[DA.one Z2,DA.one Z2]=B8.args i4/\B8.pre i4/\(ifB ((!true)) Z1 (∃ i5:Z5,[DA.one Z4,DA.one Z4]=DG.args i5/\DG.pre i5/\(ifB ((!true)) Z1 ((vB true=vB true)))))))))))) (by kernel_rfl) ?_
 conv=>zeta
 delta ifB vB
 refine ⟨(((r.getD 0 (.int 0)).n),((r.getD 1 (.int 0)).n)),by
  rfl,by
  first|trivial|(first|omega|assumption|exact hpre.1|exact hpre.2|(simp;done)),?_⟩
 refine ⟨λ c4=>?_,λ c4=>?_⟩
 ·try simp only [nrm] at c4
  exfalso;simp_all;done
 try simp only [nrm] at c4
 refine ⟨(((r.getD 2 (.int 0)).n),((r.getD 3 (.int 0)).n)),by
  rfl,by
  first|trivial|(first|omega|assumption|exact hpre.1|exact hpre.2|(simp;done)),?_⟩
 refine ⟨λ c9=>?_,λ c9=>?_⟩
 ·try simp only [nrm] at c9
  exfalso;simp_all;done
 try simp only [nrm] at c9
 refine ⟨((r.getD 4 (.int 0)).r),by
  rfl,by
  first|trivial|(first|omega|assumption|exact hpre.1|exact hpre.2|(simp;done)),?_⟩
 refine ⟨λ c14=>?_,λ c14=>?_⟩
 ·try simp only [nrm] at c14
  exfalso;simp_all;done
 try simp only [nrm] at c14
 refine ⟨((r.getD 5 (.int 0)).r),by
  rfl,by
  first|trivial|(first|omega|assumption|exact hpre.1|exact hpre.2|(simp;done)),?_⟩
 refine ⟨λ c19=>?_,λ c19=>?_⟩
 ·try simp only [nrm] at c19
  exfalso;simp_all;done
 try simp only [nrm] at c19
 refine ⟨((r.getD 6 (.int 0)).r),by
  rfl,by
  first|trivial|(first|omega|assumption|exact hpre.1|exact hpre.2|(simp;done)),?_⟩
 refine ⟨λ c24=>?_,λ c24=>?_⟩
 ·try simp only [nrm] at c24
  exfalso;simp_all;done
 try simp only [nrm] at c24
 exact rfl
def Do:Con:={ ι:=(List (List Dat))×Int,pre:=λ i=>Dat.has (.sl 33 [.sl 3 [.int]]) (.sl i.1)/\0<=i.2/\i.2<=1048576,args:=λ i=>[.one (DC.sl 33 [.sl 3 [.int]] i.1),.one (cI i.2)],res:=λ i=>⟨false,[none],[rcI (szR (i.1.length+AA i.1) i.2)]⟩ }
theorem PP:Do.Ok Tryz.prog 78:=by
 refine fok (X:=⟨tt,[(54,Aj)],[],27,[]⟩) mixed AH (CTok.cons Fa (CTok.nil _)) Tryz.func78 (λ (i:(List (List Dat))×Int)=>[(5,.mk 2 (Nat×Int) (λ x1=>{ tm:=[(0,tX 1),(4,tI (0:Int)),(5,tI (x1.1:Int)),(1,tI x1.2)],en:=[(1,.view 33 [.sl 3 [.int]] i.1 [])] }) (λ x1=>x1.1<=i.1.length/\0<=x1.2/\x1.2+i.1.length+AA (i.1.take x1.1)=i.2) (λ x1=>i.1.length-x1.1) (λ _=>[]))]) ?_
 rintro ⟨l,n⟩ hpre
 have hpre:Dat.has (.sl 33 [.sl 3 [.int]]) (.sl l)/\0<=n/\n<=1048576:=hpre
 refine AI (q:=let Z5:=wR (n-(nI l.length));let Z1:=szR (l.length+AA l) n;let Z4:=(vI (-1:Int)=vI Z1);ifB ((decide (Z5<(0:Int)))) Z4 ((∃ x1:Nat×Int,(x1.1<=l.length/\0<=x1.2/\x1.2+l.length+AA (l.take x1.1)=n)/\((rf (vI (0:Int)))/\(vI (0:Int)=vI (x1.1:Int))/\(vI Z5=vI x1.2)/\(rf (l))))/\∀ x1:Nat×Int,let Z3:=(x1.1:Int);(x1.1<=l.length/\0<=x1.2/\x1.2+l.length+AA (l.take x1.1)=n)->(ifB ((decide (Z3<(nI l.length)))) ((0<=Z3/\Z3<(l.length:Int))/\((x1.1<l.length)/\(∃ i1:(List (List Dat))×Int,let Z2:=szR (i1.1.length+AA i1.1) i1.2;[DA.one (cS ((((l.getD x1.1 []).getD 0 (.int 0))).r)),DA.one (cI x1.2)]=Aj.args i1/\Aj.pre i1/\(ifB ((decide (Z2<(0:Int)))) Z4 (∃ y2:Nat×Int,(y2.1<=l.length/\0<=y2.2/\y2.2+l.length+AA (l.take y2.1)=n)/\(l.length-y2.1<l.length-x1.1)/\((rf (vI (0:Int)))/\(vI (wR (Z3+(1:Int)))=vI (y2.1:Int))/\(vI Z2=vI y2.2)/\(rf (l)))))))) ((vI x1.2=vI Z1))))) (by kernel_rfl) ?_
 conv=>zeta
 delta ifB vI wR nI
 obtain ⟨hh,h0,h1⟩:=hpre
 have hh2:=BH hh
 have hl:=Cz hh
 have hw:IntKind.i64.wrap (n-(l.length:Int))=n-l.length:=AD (by omega) (by omega)
 refine ⟨λ c1=>?_,λ c1=>?_⟩
 ·try simp only [nrm] at c1
  refine AF ?_;try rw [hw] at *;grind [szR]
 try simp only [nrm] at c1
 refine ⟨⟨(0,n-l.length),by
  rw [hw] at c1;simp [AA];omega,?_⟩,?_⟩
 ·refine ⟨rfl,rfl,?_,rfl⟩
  exact AF hw
 rintro ⟨k,m⟩ hki3
 have hki3:k<=l.length/\0<=m/\m+l.length+AA (l.take k)=n:=hki3
 have hle:=Aq l k
 refine And.symm ⟨λ c9=>?_,λ c9=>?_⟩
 ·try simp only [nrm] at c9
  obtain rfl:k=l.length:=by omega
  rw [List.take_length] at hki3
  refine AF ?_;try rw [hw] at *;grind [szR]
 try simp only [nrm] at c9
 refine ao (a:=0<=(k:Int)/\(k:Int)<(l.length:Int)) (by omega) λ o10=>?_
 refine ao (a:=k<l.length) (by omega) λ o11=>?_
 refine ⟨(((l.getD k []).getD 0 (.int 0)).r,m),by
  rfl,by
  show Dat.has (.sl 3 [.int]) (.sl (((l.getD k []).getD 0 (.int 0)).r))/\0<=m/\m<=1048576
  refine ⟨?_,by omega,by omega⟩
  have:=hh2 k (by omega)
  rw [← F1 this] at this
  exact this.1,?_⟩
 have hle:=Aq l (k+1)
 have hts:=B3 l k (by omega)
 have hrow:=hh2 k (by omega)
 rw [← F1 hrow] at hts
 have hts:AA (l.take (k+1))=AA (l.take k)+((((l.getD k []).getD 0 (.int 0)).r).length+AA (((l.getD k []).getD 0 (.int 0)).r)):=by first|exact hts|simpa only [AC,Dat.sz,Nat.add_zero] using hts
 refine ⟨λ c15=>?_,λ c15=>?_⟩
 ·try simp only [nrm] at c15
  refine AF ?_;try rw [hw] at *;grind [szR]
 try simp only [nrm] at c15
 refine ⟨(k+1,szR ((((l.getD k []).getD 0 (.int 0)).r).length+AA (((l.getD k []).getD 0 (.int 0)).r)) m),by
  unfold szR at *;grind,by
  omega,?_⟩
 refine ⟨rfl,?_,rfl,rfl⟩
 exact AF (AD (by omega) (by omega))
def Ei:Con:={ ι:=(List (List Dat)),pre:=λ i=>Dat.has (.sl 33 [.sl 3 [.int]]) (.sl i)/\i.length+AA i<=1048576,args:=λ i=>[.one (DC.sl 33 [.sl 3 [.int]] i)],res:=λ i=>⟨false,[none],[.own 33 [.sl 3 [.int]] i]⟩ }
theorem PQ:Ei.Ok Tryz.prog 83:=by
 refine fok (X:=⟨tt,[(65,BX)],[],23,[]⟩) mixed AH (CTok.cons Ix (CTok.nil _)) Tryz.func83 (λ (i:(List (List Dat)))=>[(3,.mk 3 (Nat) (λ x1=>{ tm:=[(0,tX 1),(3,tX 2),(4,tI (nI x1))],en:=[(1,.view 33 [.sl 3 [.int]] i []),(2,.own 33 [.sl 3 [.int]] (i.take x1++List.replicate (i.length-x1) ([Dat.sl ([]:List (List Dat))]:List Dat)))] }) (λ x1=>x1<=i.length) (λ x1=>i.length-x1) (λ _=>[]))]) ?_
 intro (l:List (List Dat)) hpre
 have hpre:Dat.has (.sl 33 [.sl 3 [.int]]) (.sl l)/\l.length+AA l<=1048576:=hpre
 refine AI (q:=let Z2:=nI l.length;(0<=Z2)/\((Z2<=Z2)/\((Z2<=1073741824)/\((∃ x1:Nat,(x1<=l.length)/\((vI (0:Int)=vI (nI x1))/\(rf (l))/\((List.replicate l.length [Dat.sl []])=(l.take x1++List.replicate (l.length-x1) ([Dat.sl ([]:List (List Dat))]:List Dat)))))/\∀ x1:Nat,let Z1:=l.take x1++List.replicate (l.length-x1) ([Dat.sl ([]:List (List Dat))]:List Dat);(x1<=l.length)->(ifB ((decide ((nI x1)<Z2))) ((0<=(nI x1)/\(nI x1)<(l.length:Int))/\((x1<l.length)/\(∃ i1:(List (List Dat)),[DA.one (cS ((((l.getD x1 []).getD 0 (.int 0))).r))]=BX.args i1/\BX.pre i1/\((0<=(nI x1)/\(nI x1)<(Z1.length:Int))/\((x1<Z1.length)/\(∃ y2:Nat,(y2<=l.length)/\(l.length-y2<l.length-x1)/\((vI (wR ((nI x1)+(1:Int)))=vI (nI y2))/\(rf (l))/\((Z1.set x1 ((Z1.getD x1 []).set 0 (Dat.sl i1)))=(l.take y2++List.replicate (l.length-y2) ([Dat.sl ([]:List (List Dat))]:List Dat)))))))))) ((Z1=l))))))) (by kernel_rfl) ?_
 conv=>zeta
 delta ifB vI wR nI
 have hh2:=BH hpre.1
 have hl:=hpre.2
 refine ao (by omega) λ o1=>?_
 refine ao (by omega) λ o2=>?_
 refine ao (by omega) λ o3=>?_
 refine ⟨⟨0,by
  omega,?_⟩,?_⟩
 ·refine ⟨?_,rfl,?_⟩
  ·rfl
  rfl
 intro (k:Nat) hki4
 have hki4:k<=l.length:=hki4
 refine And.symm ⟨λ c9=>?_,λ c9=>?_⟩
 ·try simp only [nrm] at c9
  exact IM (by omega)
 try simp only [nrm] at c9
 refine ao (by omega) λ o10=>?_
 refine ao (by omega) λ o11=>?_
 refine ⟨(((l.getD k []).getD 0 (.int 0))).r,by
  rfl,by
  show ((((l.getD k []).getD 0 (.int 0))).r).length+AA ((((l.getD k []).getD 0 (.int 0))).r)<=1048576
  have hrow:=hh2 k (by omega)
  have hs:=CW (l:=l) (k:=k) (by omega)
  rw [← F1 hrow] at hs
  simp only [AC,Dat.sz] at hs
  omega,?_⟩
 refine ao (by rw [IL (by omega)];omega) λ o15=>?_
 refine ao (by omega) λ o16=>?_
 refine ⟨k+1,by
  trivial,by
  omega,?_⟩
 refine ⟨?_,rfl,?_⟩
 ·exact AF (AD (by omega) (by omega))
 exact Rb (by omega) (F1 (hh2 k (by omega))).symm
def Ej:Con:={ ι:=(List (List Dat)),pre:=λ i=>i.length<=9223372036854775807,args:=λ i=>[.one (DC.sl 33 [.sl 3 [.int]] i),.one (DC.sl 33 [.sl 3 [.int]] i)],res:=λ i=>⟨false,[none],[rcB true]⟩ }
theorem PR:Ej.Ok Tryz.prog 88:=by
 refine fok (X:=⟨tt,[(14,BW)],[],27,[]⟩) mixed AH (CTok.cons Iw (CTok.nil _)) Tryz.func88 (λ (i:(List (List Dat)))=>[(4,.mk 3 (Nat) (λ x1=>{ tm:=[(0,tX 1),(1,tX 2),(5,tI (nI x1))],en:=[(1,.view 33 [.sl 3 [.int]] i []),(2,.view 33 [.sl 3 [.int]] i [])] }) (λ x1=>x1<=i.length) (λ x1=>i.length-x1) (λ _=>[]))]) ?_
 intro (l:List (List Dat)) hpre
 have hpre:l.length<=9223372036854775807:=hpre
 refine AI (q:=ifB (((nI l.length) != (nI l.length))) ((vB false=vB true)) ((∃ x1:Nat,(x1<=l.length)/\((vI (0:Int)=vI (nI x1))/\(rf (l))/\(rf (l))))/\∀ x1:Nat,let Z1:=cS ((((l.getD x1 []).getD 0 (.int 0))).r);(x1<=l.length)->(ifB ((decide ((nI x1)<(nI l.length)))) ((0<=(nI x1)/\(nI x1)<(l.length:Int))/\((x1<l.length)/\((0<=(nI x1)/\(nI x1)<(l.length:Int))/\((x1<l.length)/\(∃ i1:(List (List Dat)),[DA.one Z1,DA.one Z1]=BW.args i1/\BW.pre i1/\(ifB ((!true)) ((vB false=vB true)) (∃ y2:Nat,(y2<=l.length)/\(l.length-y2<l.length-x1)/\((vI (wR ((nI x1)+(1:Int)))=vI (nI y2))/\(rf (l))/\(rf (l)))))))))) ((vB true=vB true))))) (by kernel_rfl) ?_
 conv=>zeta
 delta ifB vB vI wR nI
 refine ⟨λ c1=>?_,λ c1=>?_⟩
 ·try simp only [nrm] at c1
  exfalso;simp_all;done
 try simp only [nrm] at c1
 refine ⟨⟨0,by
  omega,?_⟩,?_⟩
 ·refine ⟨?_,rfl,rfl⟩
  rfl
 intro (k:Nat) hki3
 have hki3:k<=l.length:=hki3
 refine And.symm ⟨λ c8=>?_,λ c8=>?_⟩
 ·try simp only [nrm] at c8
  exact rfl
 try simp only [nrm] at c8
 refine ao (by omega) λ o9=>?_
 refine ao (by omega) λ o10=>?_
 refine ao (by omega) λ o11=>?_
 refine ao (by omega) λ o12=>?_
 refine ⟨(((l.getD k []).getD 0 (.int 0))).r,by
  rfl,by
  trivial,?_⟩
 refine ⟨λ c16=>?_,λ c16=>?_⟩
 ·try simp only [nrm] at c16
  exfalso;simp_all;done
 try simp only [nrm] at c16
 refine ⟨k+1,by
  trivial,by
  omega,?_⟩
 refine ⟨?_,rfl,rfl⟩
 exact AF (AD (by omega) (by omega))
def C0:Con:={ ι:=(List (List Dat))×Int,pre:=λ i=>Dat.has (.sl 35 [.int,.bool,.int,.int,.int,.int,.sl 24 [.sl 23 [.int,.int]],.sl 161 [.bool,.sl 3 [.int],.sl 3 [.int],.bool,.sl 3 [.int],.sl 3 [.int],.bool,.sl 3 [.int],.sl 3 [.int],.bool,.sl 3 [.int],.sl 3 [.int],.bool,.sl 3 [.int],.sl 3 [.int],.bool,.sl 3 [.int],.sl 3 [.int]],.sl 164 [.bool,.sl 3 [.int],.sl 3 [.int],.bool,.sl 3 [.int],.sl 3 [.int],.bool,.sl 3 [.int],.sl 3 [.int]],.sl 172 [.int,.int],.sl 3 [.int]]) (.sl i.1)/\0<=i.2/\i.2<=1048576,args:=λ i=>[.one (DC.sl 35 z34 i.1),.one (cI i.2)],res:=λ i=>⟨false,[none],[rcI (szR (i.1.length+AA i.1) i.2)]⟩ }
theorem Nt:C0.Ok Tryz.prog 77:=by
 refine fok (X:=⟨tt,[(9,Dj)],[],27,[]⟩) mixed AH (CTok.cons PJ (CTok.nil _)) Tryz.func77 (λ (i:(List (List Dat))×Int)=>[(5,.mk 2 (Nat×Int) (λ x1=>{ tm:=[(0,tX 1),(4,tI (0:Int)),(5,tI (x1.1:Int)),(1,tI x1.2)],en:=[(1,.view 35 z34 i.1 [])] }) (λ x1=>x1.1<=i.1.length/\0<=x1.2/\x1.2+i.1.length+AA (i.1.take x1.1)=i.2) (λ x1=>i.1.length-x1.1) (λ _=>[]))]) ?_
 rintro ⟨l,n⟩ hpre
 have hpre:Dat.has (.sl 35 [.int,.bool,.int,.int,.int,.int,.sl 24 [.sl 23 [.int,.int]],.sl 161 [.bool,.sl 3 [.int],.sl 3 [.int],.bool,.sl 3 [.int],.sl 3 [.int],.bool,.sl 3 [.int],.sl 3 [.int],.bool,.sl 3 [.int],.sl 3 [.int],.bool,.sl 3 [.int],.sl 3 [.int],.bool,.sl 3 [.int],.sl 3 [.int]],.sl 164 [.bool,.sl 3 [.int],.sl 3 [.int],.bool,.sl 3 [.int],.sl 3 [.int],.bool,.sl 3 [.int],.sl 3 [.int]],.sl 172 [.int,.int],.sl 3 [.int]]) (.sl l)/\0<=n/\n<=1048576:=hpre
 refine AI (q:=let Z5:=wR (n-(nI l.length));let Z2:=szR (l.length+AA l) n;let Z4:=(vI (-1:Int)=vI Z2);ifB ((decide (Z5<(0:Int)))) Z4 ((∃ x1:Nat×Int,(x1.1<=l.length/\0<=x1.2/\x1.2+l.length+AA (l.take x1.1)=n)/\((rf (vI (0:Int)))/\(vI (0:Int)=vI (x1.1:Int))/\(vI Z5=vI x1.2)/\(rf (l))))/\∀ x1:Nat×Int,let Z3:=(x1.1:Int);let Z1:=l.getD x1.1 [];(x1.1<=l.length/\0<=x1.2/\x1.2+l.length+AA (l.take x1.1)=n)->(ifB ((decide (Z3<(nI l.length)))) ((0<=Z3/\Z3<(l.length:Int))/\((x1.1<l.length)/\(∃ i1:(List Dat)×Int,[DA.agg [cI (((Z1.getD 0 (.int 0))).n),cB (((Z1.getD 1 (.int 0))).b),cI (((Z1.getD 2 (.int 0))).n),cI (((Z1.getD 3 (.int 0))).n),cI (((Z1.getD 4 (.int 0))).n),cI (((Z1.getD 5 (.int 0))).n),DC.sl 24 [.sl 23 [.int,.int]] (((Z1.getD 6 (.int 0))).r),DC.sl 161 CS (((Z1.getD 7 (.int 0))).r),DC.sl 164 CR (((Z1.getD 8 (.int 0))).r),DC.sl 172 [.int,.int] (((Z1.getD 9 (.int 0))).r),cS (((Z1.getD 10 (.int 0))).r)],DA.one (cI x1.2)]=Dj.args i1/\Dj.pre i1/\(ifB ((decide ((szR (AC i1.1) i1.2)<(0:Int)))) Z4 (∃ y2:Nat×Int,(y2.1<=l.length/\0<=y2.2/\y2.2+l.length+AA (l.take y2.1)=n)/\(l.length-y2.1<l.length-x1.1)/\((rf (vI (0:Int)))/\(vI (wR (Z3+(1:Int)))=vI (y2.1:Int))/\(vI (szR (AC i1.1) i1.2)=vI y2.2)/\(rf (l)))))))) ((vI x1.2=vI Z2))))) (by kernel_rfl) ?_
 conv=>zeta
 delta ifB vI wR nI
 obtain ⟨hh,h0,h1⟩:=hpre
 have hh2:=BH hh
 have hl:=Cz hh
 have hw:IntKind.i64.wrap (n-(l.length:Int))=n-l.length:=AD (by omega) (by omega)
 refine ⟨λ c1=>?_,λ c1=>?_⟩
 ·try simp only [nrm] at c1
  refine AF ?_;try rw [hw] at *;grind [szR]
 try simp only [nrm] at c1
 refine ⟨⟨(0,n-l.length),by
  rw [hw] at c1;simp [AA];omega,?_⟩,?_⟩
 ·refine ⟨rfl,rfl,?_,rfl⟩
  exact AF hw
 rintro ⟨k,m⟩ hki3
 have hki3:k<=l.length/\0<=m/\m+l.length+AA (l.take k)=n:=hki3
 have hle:=Aq l k
 refine And.symm ⟨λ c9=>?_,λ c9=>?_⟩
 ·try simp only [nrm] at c9
  obtain rfl:k=l.length:=by omega
  rw [List.take_length] at hki3
  refine AF ?_;try rw [hw] at *;grind [szR]
 try simp only [nrm] at c9
 refine ao (a:=0<=(k:Int)/\(k:Int)<(l.length:Int)) (by omega) λ o10=>?_
 refine ao (a:=k<l.length) (by omega) λ o11=>?_
 refine ⟨(l.getD k [],m),by
  rfl,by
  try dsimp only [Dj]
  refine ⟨?_,by omega,by omega⟩
  have:=hh2 k (by omega)
  exact this,?_⟩
 have hle:=Aq l (k+1)
 have hts:=B3 l k (by omega)
 have hrow:=hh2 k (by omega)
 refine ⟨λ c15=>?_,λ c15=>?_⟩
 ·try simp only [nrm] at c15
  refine AF ?_;try rw [hw] at *;grind [szR]
 try simp only [nrm] at c15
 refine ⟨(k+1,szR (AC (l.getD k [])) m),by
  unfold szR at *;grind,by
  omega,?_⟩
 refine ⟨rfl,?_,rfl,rfl⟩
 exact AF (AD (by omega) (by omega))
def C1:Con:={ ι:=(List (List Dat)),pre:=λ i=>Dat.has (.sl 35 [.int,.bool,.int,.int,.int,.int,.sl 24 [.sl 23 [.int,.int]],.sl 161 [.bool,.sl 3 [.int],.sl 3 [.int],.bool,.sl 3 [.int],.sl 3 [.int],.bool,.sl 3 [.int],.sl 3 [.int],.bool,.sl 3 [.int],.sl 3 [.int],.bool,.sl 3 [.int],.sl 3 [.int],.bool,.sl 3 [.int],.sl 3 [.int]],.sl 164 [.bool,.sl 3 [.int],.sl 3 [.int],.bool,.sl 3 [.int],.sl 3 [.int],.bool,.sl 3 [.int],.sl 3 [.int]],.sl 172 [.int,.int],.sl 3 [.int]]) (.sl i)/\i.length+AA i<=1048576,args:=λ i=>[.one (DC.sl 35 z34 i)],res:=λ i=>⟨false,[none],[.own 51 [.int,.bool,.int,.int,.int,.int,.sl 40 [.sl 39 [.int,.int]],.sl 158 [.bool,.sl 3 [.int],.sl 3 [.int],.bool,.sl 3 [.int],.sl 3 [.int],.bool,.sl 3 [.int],.sl 3 [.int],.bool,.sl 3 [.int],.sl 3 [.int],.bool,.sl 3 [.int],.sl 3 [.int],.bool,.sl 3 [.int],.sl 3 [.int]],.sl 153 [.bool,.sl 3 [.int],.sl 3 [.int],.bool,.sl 3 [.int],.sl 3 [.int],.bool,.sl 3 [.int],.sl 3 [.int]],.sl 168 [.int,.int],.sl 3 [.int]] i]⟩ }
theorem Nu:C1.Ok Tryz.prog 82:=by
 refine fok (X:=⟨tt,[(12,Dk)],[],23,[]⟩) mixed AH (CTok.cons PK (CTok.nil _)) Tryz.func82 (λ (i:(List (List Dat)))=>let Z1:=List Dat;[(3,.mk 3 (Nat) (λ x1=>{ tm:=[(0,tX 1),(3,tX 2),(4,tI (nI x1))],en:=[(1,.view 35 z34 i []),(2,.own 51 z50 (i.take x1++List.replicate (i.length-x1) ([Dat.int (0:Int),Dat.bool false,Dat.int (0:Int),Dat.int (0:Int),Dat.int (0:Int),Dat.int (0:Int),Dat.sl ([]:List Z1),Dat.sl ([]:List Z1),Dat.sl ([]:List Z1),Dat.sl ([]:List Z1),Dat.sl ([]:List Z1)]:List Dat)))] }) (λ x1=>x1<=i.length) (λ x1=>i.length-x1) (λ _=>[]))]) ?_
 intro (l:List (List Dat)) hpre
 have hpre:Dat.has (.sl 35 [.int,.bool,.int,.int,.int,.int,.sl 24 [.sl 23 [.int,.int]],.sl 161 [.bool,.sl 3 [.int],.sl 3 [.int],.bool,.sl 3 [.int],.sl 3 [.int],.bool,.sl 3 [.int],.sl 3 [.int],.bool,.sl 3 [.int],.sl 3 [.int],.bool,.sl 3 [.int],.sl 3 [.int],.bool,.sl 3 [.int],.sl 3 [.int]],.sl 164 [.bool,.sl 3 [.int],.sl 3 [.int],.bool,.sl 3 [.int],.sl 3 [.int],.bool,.sl 3 [.int],.sl 3 [.int]],.sl 172 [.int,.int],.sl 3 [.int]]) (.sl l)/\l.length+AA l<=1048576:=hpre
 refine AI (q:=let Z4:=nI l.length;let Z3:=List Dat;(0<=Z4)/\((Z4<=Z4)/\((Z4<=1073741824)/\((∃ x1:Nat,(x1<=l.length)/\((vI (0:Int)=vI (nI x1))/\(rf (l))/\((List.replicate l.length [Dat.int (0:Int),Dat.bool false,Dat.int (0:Int),Dat.int (0:Int),Dat.int (0:Int),Dat.int (0:Int),Dat.sl [],Dat.sl [],Dat.sl [],Dat.sl [],Dat.sl []])=(l.take x1++List.replicate (l.length-x1) ([Dat.int (0:Int),Dat.bool false,Dat.int (0:Int),Dat.int (0:Int),Dat.int (0:Int),Dat.int (0:Int),Dat.sl ([]:List Z3),Dat.sl ([]:List Z3),Dat.sl ([]:List Z3),Dat.sl ([]:List Z3),Dat.sl ([]:List Z3)]:List Dat)))))/\∀ x1:Nat,let Z2:=l.getD x1 [];let Z1:=l.take x1++List.replicate (l.length-x1) ([Dat.int (0:Int),Dat.bool false,Dat.int (0:Int),Dat.int (0:Int),Dat.int (0:Int),Dat.int (0:Int),Dat.sl ([]:List Z3),Dat.sl ([]:List Z3),Dat.sl ([]:List Z3),Dat.sl ([]:List Z3),Dat.sl ([]:List Z3)]:List Dat);(x1<=l.length)->(ifB ((decide ((nI x1)<Z4))) ((0<=(nI x1)/\(nI x1)<(l.length:Int))/\((x1<l.length)/\(∃ i1:Z3,[DA.agg [cI (((Z2.getD 0 (.int 0))).n),cB (((Z2.getD 1 (.int 0))).b),cI (((Z2.getD 2 (.int 0))).n),cI (((Z2.getD 3 (.int 0))).n),cI (((Z2.getD 4 (.int 0))).n),cI (((Z2.getD 5 (.int 0))).n),DC.sl 24 [.sl 23 [.int,.int]] (((Z2.getD 6 (.int 0))).r),DC.sl 161 CS (((Z2.getD 7 (.int 0))).r),DC.sl 164 CR (((Z2.getD 8 (.int 0))).r),DC.sl 172 [.int,.int] (((Z2.getD 9 (.int 0))).r),cS (((Z2.getD 10 (.int 0))).r)]]=Dk.args i1/\Dk.pre i1/\((0<=(nI x1)/\(nI x1)<(Z1.length:Int))/\((x1<Z1.length)/\(∃ y2:Nat,(y2<=l.length)/\(l.length-y2<l.length-x1)/\((vI (wR ((nI x1)+(1:Int)))=vI (nI y2))/\(rf (l))/\((Z1.set x1 [Dat.int ((i1.getD 0 (.int 0)).n),Dat.bool ((i1.getD 1 (.int 0)).b),Dat.int ((i1.getD 2 (.int 0)).n),Dat.int ((i1.getD 3 (.int 0)).n),Dat.int ((i1.getD 4 (.int 0)).n),Dat.int ((i1.getD 5 (.int 0)).n),Dat.sl ((i1.getD 6 (.int 0)).r),Dat.sl ((i1.getD 7 (.int 0)).r),Dat.sl ((i1.getD 8 (.int 0)).r),Dat.sl ((i1.getD 9 (.int 0)).r),Dat.sl ((i1.getD 10 (.int 0)).r)])=(l.take y2++List.replicate (l.length-y2) ([Dat.int (0:Int),Dat.bool false,Dat.int (0:Int),Dat.int (0:Int),Dat.int (0:Int),Dat.int (0:Int),Dat.sl ([]:List Z3),Dat.sl ([]:List Z3),Dat.sl ([]:List Z3),Dat.sl ([]:List Z3),Dat.sl ([]:List Z3)]:List Dat)))))))))) ((Z1=l))))))) (by kernel_rfl) ?_
 conv=>zeta
 delta ifB vI wR nI
 have hh2:=BH hpre.1
 have hl:=hpre.2
 refine ao (by omega) λ o1=>?_
 refine ao (by omega) λ o2=>?_
 refine ao (by omega) λ o3=>?_
 refine ⟨⟨0,by
  omega,?_⟩,?_⟩
 ·refine ⟨?_,rfl,?_⟩
  ·rfl
  rfl
 intro (k:Nat) hki4
 have hki4:k<=l.length:=hki4
 refine And.symm ⟨λ c9=>?_,λ c9=>?_⟩
 ·try simp only [nrm] at c9
  exact IM (by omega)
 try simp only [nrm] at c9
 refine ao (by omega) λ o10=>?_
 refine ao (by omega) λ o11=>?_
 refine ⟨(l.getD k []),by
  rfl,by
  try dsimp only [Dk]
  have hrow:=hh2 k (by omega)
  have hs:=CW (l:=l) (k:=k) (by omega)
  exact ⟨hrow,by omega⟩,?_⟩
 refine ao (by rw [IL (by omega)];omega) λ o15=>?_
 refine ao (by omega) λ o16=>?_
 refine ⟨k+1,by
  trivial,by
  omega,?_⟩
 refine ⟨?_,rfl,?_⟩
 ·exact AF (AD (by omega) (by omega))
 exact Gz (by omega) (Kl (hh2 k (by omega)))
def C2:Con:={ ι:=(List (List Dat)),pre:=λ i=>Dat.has (.sl 35 [.int,.bool,.int,.int,.int,.int,.sl 24 [.sl 23 [.int,.int]],.sl 161 [.bool,.sl 3 [.int],.sl 3 [.int],.bool,.sl 3 [.int],.sl 3 [.int],.bool,.sl 3 [.int],.sl 3 [.int],.bool,.sl 3 [.int],.sl 3 [.int],.bool,.sl 3 [.int],.sl 3 [.int],.bool,.sl 3 [.int],.sl 3 [.int]],.sl 164 [.bool,.sl 3 [.int],.sl 3 [.int],.bool,.sl 3 [.int],.sl 3 [.int],.bool,.sl 3 [.int],.sl 3 [.int]],.sl 172 [.int,.int],.sl 3 [.int]]) (.sl i),args:=λ i=>[.one (DC.sl 51 z50 i),.one (DC.sl 51 z50 i)],res:=λ i=>⟨false,[none],[rcB true]⟩ }
theorem Nv:C2.Ok Tryz.prog 87:=by
 refine fok (X:=⟨tt,[(16,Dl)],[],27,[]⟩) mixed AH (CTok.cons PL (CTok.nil _)) Tryz.func87 (λ (i:(List (List Dat)))=>[(4,.mk 3 (Nat) (λ x1=>{ tm:=[(0,tX 1),(1,tX 2),(5,tI (nI x1))],en:=[(1,.view 51 z50 i []),(2,.view 51 z50 i [])] }) (λ x1=>x1<=i.length) (λ x1=>i.length-x1) (λ _=>[]))]) ?_
 intro (l:List (List Dat)) hpre
 have hpre:Dat.has (.sl 35 [.int,.bool,.int,.int,.int,.int,.sl 24 [.sl 23 [.int,.int]],.sl 161 [.bool,.sl 3 [.int],.sl 3 [.int],.bool,.sl 3 [.int],.sl 3 [.int],.bool,.sl 3 [.int],.sl 3 [.int],.bool,.sl 3 [.int],.sl 3 [.int],.bool,.sl 3 [.int],.sl 3 [.int],.bool,.sl 3 [.int],.sl 3 [.int]],.sl 164 [.bool,.sl 3 [.int],.sl 3 [.int],.bool,.sl 3 [.int],.sl 3 [.int],.bool,.sl 3 [.int],.sl 3 [.int]],.sl 172 [.int,.int],.sl 3 [.int]]) (.sl l):=hpre
 refine AI (q:=ifB (((nI l.length) != (nI l.length))) ((vB false=vB true)) ((∃ x1:Nat,(x1<=l.length)/\((vI (0:Int)=vI (nI x1))/\(rf (l))/\(rf (l))))/\∀ x1:Nat,let Z1:=l.getD x1 [];let Z12:=((Z1.getD 9 (.int 0))).r;let Z11:=((Z1.getD 8 (.int 0))).r;let Z10:=((Z1.getD 7 (.int 0))).r;let Z9:=((Z1.getD 6 (.int 0))).r;let Z8:=((Z1.getD 5 (.int 0))).n;let Z7:=((Z1.getD 4 (.int 0))).n;let Z6:=((Z1.getD 3 (.int 0))).n;let Z5:=((Z1.getD 2 (.int 0))).n;let Z4:=((Z1.getD 1 (.int 0))).b;let Z3:=((Z1.getD 0 (.int 0))).n;let Z2:=((Z1.getD 10 (.int 0))).r;(x1<=l.length)->(ifB ((decide ((nI x1)<(nI l.length)))) ((0<=(nI x1)/\(nI x1)<(l.length:Int))/\((x1<l.length)/\((0<=(nI x1)/\(nI x1)<(l.length:Int))/\((x1<l.length)/\(∃ i1:(List Dat),[DA.agg [cI Z3,cB Z4,cI Z5,cI Z6,cI Z7,cI Z8,DC.sl 40 [.sl 39 [.int,.int]] Z9,DC.sl 158 CS Z10,DC.sl 153 CR Z11,DC.sl 168 [.int,.int] Z12,cS Z2],DA.agg [cI Z3,cB Z4,cI Z5,cI Z6,cI Z7,cI Z8,DC.sl 40 [.sl 39 [.int,.int]] Z9,DC.sl 158 CS Z10,DC.sl 153 CR Z11,DC.sl 168 [.int,.int] Z12,cS Z2]]=Dl.args i1/\Dl.pre i1/\(ifB ((!true)) ((vB false=vB true)) (∃ y2:Nat,(y2<=l.length)/\(l.length-y2<l.length-x1)/\((vI (wR ((nI x1)+(1:Int)))=vI (nI y2))/\(rf (l))/\(rf (l)))))))))) ((vB true=vB true))))) (by kernel_rfl) ?_
 conv=>zeta
 delta ifB vB vI wR nI
 have hl:=Cz hpre
 have hh2:=BH hpre
 refine ⟨λ c1=>?_,λ c1=>?_⟩
 ·try simp only [nrm] at c1
  exfalso;simp_all;done
 try simp only [nrm] at c1
 refine ⟨⟨0,by
  omega,?_⟩,?_⟩
 ·refine ⟨?_,rfl,rfl⟩
  rfl
 intro (k:Nat) hki3
 have hki3:k<=l.length:=hki3
 refine And.symm ⟨λ c8=>?_,λ c8=>?_⟩
 ·try simp only [nrm] at c8
  exact rfl
 try simp only [nrm] at c8
 refine ao (by omega) λ o9=>?_
 refine ao (by omega) λ o10=>?_
 refine ao (by omega) λ o11=>?_
 refine ao (by omega) λ o12=>?_
 refine ⟨(l.getD k []),by
  rfl,by
  try dsimp only [Dl]
  exact hh2 k (by omega),?_⟩
 refine ⟨λ c16=>?_,λ c16=>?_⟩
 ·try simp only [nrm] at c16
  exfalso;simp_all;done
 try simp only [nrm] at c16
 refine ⟨k+1,by
  trivial,by
  omega,?_⟩
 refine ⟨?_,rfl,rfl⟩
 exact AF (AD (by omega) (by omega))
theorem Mf {r:List Dat} (h:hasRow [.int,.int,.int,.int,.sl 23 [.int,.int],.sl 24 [.sl 23 [.int,.int]],.sl 23 [.int,.int],.sl 35 [.int,.bool,.int,.int,.int,.int,.sl 24 [.sl 23 [.int,.int]],.sl 161 [.bool,.sl 3 [.int],.sl 3 [.int],.bool,.sl 3 [.int],.sl 3 [.int],.bool,.sl 3 [.int],.sl 3 [.int],.bool,.sl 3 [.int],.sl 3 [.int],.bool,.sl 3 [.int],.sl 3 [.int],.bool,.sl 3 [.int],.sl 3 [.int]],.sl 164 [.bool,.sl 3 [.int],.sl 3 [.int],.bool,.sl 3 [.int],.sl 3 [.int],.bool,.sl 3 [.int],.sl 3 [.int]],.sl 172 [.int,.int],.sl 3 [.int]],.sl 3 [.int],.sl 33 [.sl 3 [.int]]] r):r=[.int (r.getD 0 (.int 0)).n,.int (r.getD 1 (.int 0)).n,.int (r.getD 2 (.int 0)).n,.int (r.getD 3 (.int 0)).n,.sl (r.getD 4 (.int 0)).r,.sl (r.getD 5 (.int 0)).r,.sl (r.getD 6 (.int 0)).r,.sl (r.getD 7 (.int 0)).r,.sl (r.getD 8 (.int 0)).r,.sl (r.getD 9 (.int 0)).r]:=by
 obtain ⟨_,_,rfl,q0,h0⟩:=h.cons
 obtain ⟨_,rfl⟩:=Dat.has_int q0
 obtain ⟨_,_,rfl,q1,h1⟩:=h0.cons
 obtain ⟨_,rfl⟩:=Dat.has_int q1
 obtain ⟨_,_,rfl,q2,h2⟩:=h1.cons
 obtain ⟨_,rfl⟩:=Dat.has_int q2
 obtain ⟨_,_,rfl,q3,h3⟩:=h2.cons
 obtain ⟨_,rfl⟩:=Dat.has_int q3
 obtain ⟨_,_,rfl,q4,h4⟩:=h3.cons
 obtain ⟨_,rfl⟩:=Dat.has_sl q4
 obtain ⟨_,_,rfl,q5,h5⟩:=h4.cons
 obtain ⟨_,rfl⟩:=Dat.has_sl q5
 obtain ⟨_,_,rfl,q6,h6⟩:=h5.cons
 obtain ⟨_,rfl⟩:=Dat.has_sl q6
 obtain ⟨_,_,rfl,q7,h7⟩:=h6.cons
 obtain ⟨_,rfl⟩:=Dat.has_sl q7
 obtain ⟨_,_,rfl,q8,h8⟩:=h7.cons
 obtain ⟨_,rfl⟩:=Dat.has_sl q8
 obtain ⟨_,_,rfl,q9,h9⟩:=h8.cons
 obtain ⟨_,rfl⟩:=Dat.has_sl q9
 obtain rfl:=hasRow.nil h9
 rfl
theorem IO {r:List Dat} (h:hasRow [.int,.int,.int,.int,.sl 23 [.int,.int],.sl 24 [.sl 23 [.int,.int]],.sl 23 [.int,.int],.sl 35 [.int,.bool,.int,.int,.int,.int,.sl 24 [.sl 23 [.int,.int]],.sl 161 [.bool,.sl 3 [.int],.sl 3 [.int],.bool,.sl 3 [.int],.sl 3 [.int],.bool,.sl 3 [.int],.sl 3 [.int],.bool,.sl 3 [.int],.sl 3 [.int],.bool,.sl 3 [.int],.sl 3 [.int],.bool,.sl 3 [.int],.sl 3 [.int]],.sl 164 [.bool,.sl 3 [.int],.sl 3 [.int],.bool,.sl 3 [.int],.sl 3 [.int],.bool,.sl 3 [.int],.sl 3 [.int]],.sl 172 [.int,.int],.sl 3 [.int]],.sl 3 [.int],.sl 33 [.sl 3 [.int]]] r):AC r=(AC [.int (r.getD 0 (.int 0)).n,.int (r.getD 1 (.int 0)).n,.int (r.getD 2 (.int 0)).n,.int (r.getD 3 (.int 0)).n,.sl (r.getD 4 (.int 0)).r,.sl (r.getD 5 (.int 0)).r,.sl (r.getD 6 (.int 0)).r])+(((r.getD 7 (.int 0)).r).length+AA ((r.getD 7 (.int 0)).r))+(((r.getD 8 (.int 0)).r).length+AA ((r.getD 8 (.int 0)).r))+(((r.getD 9 (.int 0)).r).length+AA ((r.getD 9 (.int 0)).r)):=by
 conv=>lhs;rw [Mf h]
 simp only [AC,Dat.sz]
 omega
theorem IP {r:List Dat} (h:hasRow [.int,.int,.int,.int,.sl 23 [.int,.int],.sl 24 [.sl 23 [.int,.int]],.sl 23 [.int,.int],.sl 35 [.int,.bool,.int,.int,.int,.int,.sl 24 [.sl 23 [.int,.int]],.sl 161 [.bool,.sl 3 [.int],.sl 3 [.int],.bool,.sl 3 [.int],.sl 3 [.int],.bool,.sl 3 [.int],.sl 3 [.int],.bool,.sl 3 [.int],.sl 3 [.int],.bool,.sl 3 [.int],.sl 3 [.int],.bool,.sl 3 [.int],.sl 3 [.int]],.sl 164 [.bool,.sl 3 [.int],.sl 3 [.int],.bool,.sl 3 [.int],.sl 3 [.int],.bool,.sl 3 [.int],.sl 3 [.int]],.sl 172 [.int,.int],.sl 3 [.int]],.sl 3 [.int],.sl 33 [.sl 3 [.int]]] r):Dat.has .int (.int (r.getD 0 (.int 0)).n)/\Dat.has .int (.int (r.getD 1 (.int 0)).n)/\Dat.has .int (.int (r.getD 2 (.int 0)).n)/\Dat.has .int (.int (r.getD 3 (.int 0)).n)/\Dat.has (.sl 23 [.int,.int]) (.sl (r.getD 4 (.int 0)).r)/\Dat.has (.sl 24 [.sl 23 [.int,.int]]) (.sl (r.getD 5 (.int 0)).r)/\Dat.has (.sl 23 [.int,.int]) (.sl (r.getD 6 (.int 0)).r)/\Dat.has (.sl 35 [.int,.bool,.int,.int,.int,.int,.sl 24 [.sl 23 [.int,.int]],.sl 161 [.bool,.sl 3 [.int],.sl 3 [.int],.bool,.sl 3 [.int],.sl 3 [.int],.bool,.sl 3 [.int],.sl 3 [.int],.bool,.sl 3 [.int],.sl 3 [.int],.bool,.sl 3 [.int],.sl 3 [.int],.bool,.sl 3 [.int],.sl 3 [.int]],.sl 164 [.bool,.sl 3 [.int],.sl 3 [.int],.bool,.sl 3 [.int],.sl 3 [.int],.bool,.sl 3 [.int],.sl 3 [.int]],.sl 172 [.int,.int],.sl 3 [.int]]) (.sl (r.getD 7 (.int 0)).r)/\Dat.has (.sl 3 [.int]) (.sl (r.getD 8 (.int 0)).r)/\Dat.has (.sl 33 [.sl 3 [.int]]) (.sl (r.getD 9 (.int 0)).r):=by
 rw [Mf h] at h
 simpa only [hasRow,and_true] using h
def EQ:Con:={ ι:=(List Dat)×Int,pre:=λ i=>hasRow [.int,.int,.int,.int,.sl 23 [.int,.int],.sl 24 [.sl 23 [.int,.int]],.sl 23 [.int,.int],.sl 35 [.int,.bool,.int,.int,.int,.int,.sl 24 [.sl 23 [.int,.int]],.sl 161 [.bool,.sl 3 [.int],.sl 3 [.int],.bool,.sl 3 [.int],.sl 3 [.int],.bool,.sl 3 [.int],.sl 3 [.int],.bool,.sl 3 [.int],.sl 3 [.int],.bool,.sl 3 [.int],.sl 3 [.int],.bool,.sl 3 [.int],.sl 3 [.int]],.sl 164 [.bool,.sl 3 [.int],.sl 3 [.int],.bool,.sl 3 [.int],.sl 3 [.int],.bool,.sl 3 [.int],.sl 3 [.int]],.sl 172 [.int,.int],.sl 3 [.int]],.sl 3 [.int],.sl 33 [.sl 3 [.int]]] i.1/\0<=i.2/\i.2<=1048576,args:=λ i=>[w62 i.1,.one (cI i.2)],res:=λ i=>⟨false,[none],[rcI (szR (AC i.1) i.2)]⟩ }
theorem Rl:EQ.Ok Tryz.prog 21:=by
 refine fok (X:=⟨tt,[(8,Dm),(77,C0),(54,Aj),(78,Do)],[],30,[]⟩) mixed AH (CTok.cons PM (CTok.cons Nt (CTok.cons Fa (CTok.cons PP (CTok.nil _))))) Tryz.func21 (λ _=>[]) ?_
 rintro ⟨r,n⟩ hpre
 have hpre:hasRow [.int,.int,.int,.int,.sl 23 [.int,.int],.sl 24 [.sl 23 [.int,.int]],.sl 23 [.int,.int],.sl 35 [.int,.bool,.int,.int,.int,.int,.sl 24 [.sl 23 [.int,.int]],.sl 161 [.bool,.sl 3 [.int],.sl 3 [.int],.bool,.sl 3 [.int],.sl 3 [.int],.bool,.sl 3 [.int],.sl 3 [.int],.bool,.sl 3 [.int],.sl 3 [.int],.bool,.sl 3 [.int],.sl 3 [.int],.bool,.sl 3 [.int],.sl 3 [.int]],.sl 164 [.bool,.sl 3 [.int],.sl 3 [.int],.bool,.sl 3 [.int],.sl 3 [.int],.bool,.sl 3 [.int],.sl 3 [.int]],.sl 172 [.int,.int],.sl 3 [.int]],.sl 3 [.int],.sl 33 [.sl 3 [.int]]] r/\0<=n/\n<=1048576:=hpre
 refine AI (q:=let Z5:=List (List Dat);let Z1:=(vI (-1:Int)=vI (szR (AC r) n));∃ i1:(List Dat)×Int,[w26 r,DA.one (cI n)]=Dm.args i1/\Dm.pre i1/\(ifB ((decide ((szR (AC i1.1) i1.2)<(0:Int)))) Z1 (∃ i2:Z5×Int,let Z2:=szR (i2.1.length+AA i2.1) i2.2;[DA.one (DC.sl 35 z34 ((r.getD 7 (.int 0)).r)),DA.one (cI (szR (AC i1.1) i1.2))]=C0.args i2/\C0.pre i2/\(ifB ((decide (Z2<(0:Int)))) Z1 (∃ i3:Z5×Int,let Z3:=szR (i3.1.length+AA i3.1) i3.2;[DA.one (cS ((r.getD 8 (.int 0)).r)),DA.one (cI Z2)]=Aj.args i3/\Aj.pre i3/\(ifB ((decide (Z3<(0:Int)))) Z1 (∃ i4:Z5×Int,let Z4:=szR (i4.1.length+AA i4.1) i4.2;[DA.one (DC.sl 33 [.sl 3 [.int]] ((r.getD 9 (.int 0)).r)),DA.one (cI Z3)]=Do.args i4/\Do.pre i4/\(ifB ((decide (Z4<(0:Int)))) Z1 ((vI Z4=vI (szR (AC r) n))))))))))) (by kernel_rfl) ?_
 conv=>zeta
 delta w26 ifB vI
 obtain ⟨hh,h0,h1⟩:=hpre
 have hz:=IO hh
 have hp:=IP hh
 obtain ⟨p0,p1,p2,p3,p4,p5,p6,p7,p8,p9⟩:=hp
 have f0:=A7 (AC [.int (r.getD 0 (.int 0)).n,.int (r.getD 1 (.int 0)).n,.int (r.getD 2 (.int 0)).n,.int (r.getD 3 (.int 0)).n,.sl (r.getD 4 (.int 0)).r,.sl (r.getD 5 (.int 0)).r,.sl (r.getD 6 (.int 0)).r]) (n)
 have f1:=A7 (((r.getD 7 (.int 0)).r).length+AA ((r.getD 7 (.int 0)).r)) (szR (AC [.int (r.getD 0 (.int 0)).n,.int (r.getD 1 (.int 0)).n,.int (r.getD 2 (.int 0)).n,.int (r.getD 3 (.int 0)).n,.sl (r.getD 4 (.int 0)).r,.sl (r.getD 5 (.int 0)).r,.sl (r.getD 6 (.int 0)).r]) (n))
 have f2:=A7 (((r.getD 8 (.int 0)).r).length+AA ((r.getD 8 (.int 0)).r)) (szR (((r.getD 7 (.int 0)).r).length+AA ((r.getD 7 (.int 0)).r)) (szR (AC [.int (r.getD 0 (.int 0)).n,.int (r.getD 1 (.int 0)).n,.int (r.getD 2 (.int 0)).n,.int (r.getD 3 (.int 0)).n,.sl (r.getD 4 (.int 0)).r,.sl (r.getD 5 (.int 0)).r,.sl (r.getD 6 (.int 0)).r]) (n)))
 have f3:=A7 (((r.getD 9 (.int 0)).r).length+AA ((r.getD 9 (.int 0)).r)) (szR (((r.getD 8 (.int 0)).r).length+AA ((r.getD 8 (.int 0)).r)) (szR (((r.getD 7 (.int 0)).r).length+AA ((r.getD 7 (.int 0)).r)) (szR (AC [.int (r.getD 0 (.int 0)).n,.int (r.getD 1 (.int 0)).n,.int (r.getD 2 (.int 0)).n,.int (r.getD 3 (.int 0)).n,.sl (r.getD 4 (.int 0)).r,.sl (r.getD 5 (.int 0)).r,.sl (r.getD 6 (.int 0)).r]) (n))))
 have ft:=A7 (AC r) n
 refine ⟨(([Dat.int ((r.getD 0 (.int 0)).n),Dat.int ((r.getD 1 (.int 0)).n),Dat.int ((r.getD 2 (.int 0)).n),Dat.int ((r.getD 3 (.int 0)).n),Dat.sl ((r.getD 4 (.int 0)).r),Dat.sl ((r.getD 5 (.int 0)).r),Dat.sl ((r.getD 6 (.int 0)).r)]:List Dat),n),by
  rfl,by
  try dsimp only [Dm]
  refine ⟨?_,?_,?_⟩ <;> (try dsimp only) <;> first|assumption|omega|exact ⟨p0,p1,p2,p3,p4,p5,p6,trivial⟩,?_⟩
 refine ⟨λ c4=>?_,λ c4=>?_⟩
 ·try dsimp only at c4
  try simp only [nrm] at c4
  refine AF ?_;try dsimp only
  omega
 try dsimp only at c4
 try simp only [nrm] at c4
 refine ⟨(((r.getD 7 (.int 0)).r),(szR (AC ([Dat.int ((r.getD 0 (.int 0)).n),Dat.int ((r.getD 1 (.int 0)).n),Dat.int ((r.getD 2 (.int 0)).n),Dat.int ((r.getD 3 (.int 0)).n),Dat.sl ((r.getD 4 (.int 0)).r),Dat.sl ((r.getD 5 (.int 0)).r),Dat.sl ((r.getD 6 (.int 0)).r)]:List Dat)) n)),by
  rfl,by
  try dsimp only [C0]
  refine ⟨?_,?_,?_⟩ <;> (try dsimp only) <;> first|assumption|omega|exact ⟨p0,p1,p2,p3,p4,p5,p6,trivial⟩,?_⟩
 refine ⟨λ c9=>?_,λ c9=>?_⟩
 ·try dsimp only at c9
  try simp only [nrm] at c9
  refine AF ?_;try dsimp only
  omega
 try dsimp only at c9
 try simp only [nrm] at c9
 refine ⟨(((r.getD 8 (.int 0)).r),(szR (((r.getD 7 (.int 0)).r).length+AA ((r.getD 7 (.int 0)).r)) (szR (AC ([Dat.int ((r.getD 0 (.int 0)).n),Dat.int ((r.getD 1 (.int 0)).n),Dat.int ((r.getD 2 (.int 0)).n),Dat.int ((r.getD 3 (.int 0)).n),Dat.sl ((r.getD 4 (.int 0)).r),Dat.sl ((r.getD 5 (.int 0)).r),Dat.sl ((r.getD 6 (.int 0)).r)]:List Dat)) n))),by
  rfl,by
  try dsimp only [Aj]
  refine ⟨?_,?_,?_⟩ <;> (try dsimp only) <;> first|assumption|omega|exact ⟨p0,p1,p2,p3,p4,p5,p6,trivial⟩,?_⟩
 refine ⟨λ c14=>?_,λ c14=>?_⟩
 ·try dsimp only at c14
  try simp only [nrm] at c14
  refine AF ?_;try dsimp only
  omega
 try dsimp only at c14
 try simp only [nrm] at c14
 refine ⟨(((r.getD 9 (.int 0)).r),(szR (((r.getD 8 (.int 0)).r).length+AA ((r.getD 8 (.int 0)).r)) (szR (((r.getD 7 (.int 0)).r).length+AA ((r.getD 7 (.int 0)).r)) (szR (AC ([Dat.int ((r.getD 0 (.int 0)).n),Dat.int ((r.getD 1 (.int 0)).n),Dat.int ((r.getD 2 (.int 0)).n),Dat.int ((r.getD 3 (.int 0)).n),Dat.sl ((r.getD 4 (.int 0)).r),Dat.sl ((r.getD 5 (.int 0)).r),Dat.sl ((r.getD 6 (.int 0)).r)]:List Dat)) n)))),by
  rfl,by
  try dsimp only [Do]
  refine ⟨?_,?_,?_⟩ <;> (try dsimp only) <;> first|assumption|omega|exact ⟨p0,p1,p2,p3,p4,p5,p6,trivial⟩,?_⟩
 refine ⟨λ c19=>?_,λ c19=>?_⟩
 ·try dsimp only at c19
  try simp only [nrm] at c19
  refine AF ?_;try dsimp only
  omega
 try dsimp only at c19
 try simp only [nrm] at c19
 show Value.int .i64 (szR (((r.getD 9 (.int 0)).r).length+AA ((r.getD 9 (.int 0)).r)) (szR (((r.getD 8 (.int 0)).r).length+AA ((r.getD 8 (.int 0)).r)) (szR (((r.getD 7 (.int 0)).r).length+AA ((r.getD 7 (.int 0)).r)) (szR (AC ([Dat.int ((r.getD 0 (.int 0)).n),Dat.int ((r.getD 1 (.int 0)).n),Dat.int ((r.getD 2 (.int 0)).n),Dat.int ((r.getD 3 (.int 0)).n),Dat.sl ((r.getD 4 (.int 0)).r),Dat.sl ((r.getD 5 (.int 0)).r),Dat.sl ((r.getD 6 (.int 0)).r)]:List Dat)) n))))=Value.int .i64 (szR (AC r) n)
 refine AF ?_;try dsimp only
 omega
def BM:Con:={ ι:=(List Dat),pre:=λ i=>hasRow [.int,.int,.int,.int,.sl 23 [.int,.int],.sl 24 [.sl 23 [.int,.int]],.sl 23 [.int,.int],.sl 35 [.int,.bool,.int,.int,.int,.int,.sl 24 [.sl 23 [.int,.int]],.sl 161 [.bool,.sl 3 [.int],.sl 3 [.int],.bool,.sl 3 [.int],.sl 3 [.int],.bool,.sl 3 [.int],.sl 3 [.int],.bool,.sl 3 [.int],.sl 3 [.int],.bool,.sl 3 [.int],.sl 3 [.int],.bool,.sl 3 [.int],.sl 3 [.int]],.sl 164 [.bool,.sl 3 [.int],.sl 3 [.int],.bool,.sl 3 [.int],.sl 3 [.int],.bool,.sl 3 [.int],.sl 3 [.int]],.sl 172 [.int,.int],.sl 3 [.int]],.sl 3 [.int],.sl 33 [.sl 3 [.int]]] i/\AC i<=1048576,args:=λ i=>[w62 i],res:=λ i=>⟨false,[some 10],[rcI ((i.getD 0 (.int 0)).n),rcI ((i.getD 1 (.int 0)).n),rcI ((i.getD 2 (.int 0)).n),rcI ((i.getD 3 (.int 0)).n),.own 39 [.int,.int] ((i.getD 4 (.int 0)).r),.own 40 [.sl 39 [.int,.int]] ((i.getD 5 (.int 0)).r),.own 39 [.int,.int] ((i.getD 6 (.int 0)).r),.own 51 [.int,.bool,.int,.int,.int,.int,.sl 40 [.sl 39 [.int,.int]],.sl 158 [.bool,.sl 3 [.int],.sl 3 [.int],.bool,.sl 3 [.int],.sl 3 [.int],.bool,.sl 3 [.int],.sl 3 [.int],.bool,.sl 3 [.int],.sl 3 [.int],.bool,.sl 3 [.int],.sl 3 [.int],.bool,.sl 3 [.int],.sl 3 [.int]],.sl 153 [.bool,.sl 3 [.int],.sl 3 [.int],.bool,.sl 3 [.int],.sl 3 [.int],.bool,.sl 3 [.int],.sl 3 [.int]],.sl 168 [.int,.int],.sl 3 [.int]] ((i.getD 7 (.int 0)).r),.own 3 [.int] ((i.getD 8 (.int 0)).r),.own 33 [.sl 3 [.int]] ((i.getD 9 (.int 0)).r)]⟩ }
theorem Rm:BM.Ok Tryz.prog 23:=by
 refine fok (X:=⟨tt,[(11,Dn),(82,C1),(65,BX),(83,Ei)],[],21,[]⟩) mixed AH (CTok.cons PN (CTok.cons Nu (CTok.cons Ix (CTok.cons PQ (CTok.nil _))))) Tryz.func23 (λ _=>[]) ?_
 intro (r:List Dat) hpre
 have hpre:hasRow [.int,.int,.int,.int,.sl 23 [.int,.int],.sl 24 [.sl 23 [.int,.int]],.sl 23 [.int,.int],.sl 35 [.int,.bool,.int,.int,.int,.int,.sl 24 [.sl 23 [.int,.int]],.sl 161 [.bool,.sl 3 [.int],.sl 3 [.int],.bool,.sl 3 [.int],.sl 3 [.int],.bool,.sl 3 [.int],.sl 3 [.int],.bool,.sl 3 [.int],.sl 3 [.int],.bool,.sl 3 [.int],.sl 3 [.int],.bool,.sl 3 [.int],.sl 3 [.int]],.sl 164 [.bool,.sl 3 [.int],.sl 3 [.int],.bool,.sl 3 [.int],.sl 3 [.int],.bool,.sl 3 [.int],.sl 3 [.int]],.sl 172 [.int,.int],.sl 3 [.int]],.sl 3 [.int],.sl 33 [.sl 3 [.int]]] r/\AC r<=1048576:=hpre
 refine AI (q:=let Z1:=List (List Dat);∃ i1:(List Dat),[w26 r]=Dn.args i1/\Dn.pre i1/\(∃ i2:Z1,[DA.one (DC.sl 35 z34 ((r.getD 7 (.int 0)).r))]=C1.args i2/\C1.pre i2/\(∃ i3:Z1,[DA.one (cS ((r.getD 8 (.int 0)).r))]=BX.args i3/\BX.pre i3/\(∃ i4:Z1,[DA.one (DC.sl 33 [.sl 3 [.int]] ((r.getD 9 (.int 0)).r))]=Ei.args i4/\Ei.pre i4/\((vI ((i1.getD 0 (.int 0)).n)=vI ((r.getD 0 (.int 0)).n))/\(vI ((i1.getD 1 (.int 0)).n)=vI ((r.getD 1 (.int 0)).n))/\(vI ((i1.getD 2 (.int 0)).n)=vI ((r.getD 2 (.int 0)).n))/\(vI ((i1.getD 3 (.int 0)).n)=vI ((r.getD 3 (.int 0)).n))/\((i1.getD 4 (.int 0)).r=(r.getD 4 (.int 0)).r)/\((i1.getD 5 (.int 0)).r=(r.getD 5 (.int 0)).r)/\((i1.getD 6 (.int 0)).r=(r.getD 6 (.int 0)).r)/\(i2=(r.getD 7 (.int 0)).r)/\(i3=(r.getD 8 (.int 0)).r)/\(i4=(r.getD 9 (.int 0)).r)))))) (by kernel_rfl) ?_
 conv=>zeta
 delta w26 vI
 have hz:=IO hpre.1
 have hs:=hpre.2
 have hp:=IP hpre.1
 obtain ⟨p0,p1,p2,p3,p4,p5,p6,p7,p8,p9⟩:=hp
 refine ⟨([Dat.int ((r.getD 0 (.int 0)).n),Dat.int ((r.getD 1 (.int 0)).n),Dat.int ((r.getD 2 (.int 0)).n),Dat.int ((r.getD 3 (.int 0)).n),Dat.sl ((r.getD 4 (.int 0)).r),Dat.sl ((r.getD 5 (.int 0)).r),Dat.sl ((r.getD 6 (.int 0)).r)]:List Dat),by
  rfl,by
  try dsimp only [Dn]
  exact ⟨⟨p0,p1,p2,p3,p4,p5,p6,trivial⟩,by omega⟩,?_⟩
 refine ⟨((r.getD 7 (.int 0)).r),by
  rfl,by
  try dsimp only [C1]
  exact ⟨p7,by omega⟩,?_⟩
 refine ⟨((r.getD 8 (.int 0)).r),by
  rfl,by
  show ((r.getD 8 (.int 0)).r).length+AA ((r.getD 8 (.int 0)).r)<=1048576
  omega,?_⟩
 refine ⟨((r.getD 9 (.int 0)).r),by
  rfl,by
  show Dat.has (.sl 33 [.sl 3 [.int]]) (.sl ((r.getD 9 (.int 0)).r))/\((r.getD 9 (.int 0)).r).length+AA ((r.getD 9 (.int 0)).r)<=1048576
  exact ⟨p9,by omega⟩,?_⟩
 refine ⟨?_,?_,?_,?_,?_,?_,?_,rfl,rfl,rfl⟩
 ·rfl
 ·rfl
 ·rfl
 ·rfl
 ·rfl
 ·rfl
 rfl
def ER:Con:={ ι:=(List Dat),pre:=λ i=>hasRow [.int,.int,.int,.int,.sl 23 [.int,.int],.sl 24 [.sl 23 [.int,.int]],.sl 23 [.int,.int],.sl 35 [.int,.bool,.int,.int,.int,.int,.sl 24 [.sl 23 [.int,.int]],.sl 161 [.bool,.sl 3 [.int],.sl 3 [.int],.bool,.sl 3 [.int],.sl 3 [.int],.bool,.sl 3 [.int],.sl 3 [.int],.bool,.sl 3 [.int],.sl 3 [.int],.bool,.sl 3 [.int],.sl 3 [.int],.bool,.sl 3 [.int],.sl 3 [.int]],.sl 164 [.bool,.sl 3 [.int],.sl 3 [.int],.bool,.sl 3 [.int],.sl 3 [.int],.bool,.sl 3 [.int],.sl 3 [.int]],.sl 172 [.int,.int],.sl 3 [.int]],.sl 3 [.int],.sl 33 [.sl 3 [.int]]] i,args:=λ i=>[w67 i,w67 i],res:=λ i=>⟨false,[none],[rcB true]⟩ }
theorem Rn:ER.Ok Tryz.prog 25:=by
 refine fok (X:=⟨tt,[(15,Eh),(87,C2),(14,BW),(88,Ej)],[],29,[]⟩) mixed AH (CTok.cons PO (CTok.cons Nv (CTok.cons Iw (CTok.cons PR (CTok.nil _))))) Tryz.func25 (λ _=>[]) ?_
 intro (r:List Dat) hpre
 have hpre:hasRow [.int,.int,.int,.int,.sl 23 [.int,.int],.sl 24 [.sl 23 [.int,.int]],.sl 23 [.int,.int],.sl 35 [.int,.bool,.int,.int,.int,.int,.sl 24 [.sl 23 [.int,.int]],.sl 161 [.bool,.sl 3 [.int],.sl 3 [.int],.bool,.sl 3 [.int],.sl 3 [.int],.bool,.sl 3 [.int],.sl 3 [.int],.bool,.sl 3 [.int],.sl 3 [.int],.bool,.sl 3 [.int],.sl 3 [.int],.bool,.sl 3 [.int],.sl 3 [.int]],.sl 164 [.bool,.sl 3 [.int],.sl 3 [.int],.bool,.sl 3 [.int],.sl 3 [.int],.bool,.sl 3 [.int],.sl 3 [.int]],.sl 172 [.int,.int],.sl 3 [.int]],.sl 3 [.int],.sl 33 [.sl 3 [.int]]] r:=hpre
 refine AI (q:=let Z5:=cS ((r.getD 8 (.int 0)).r);let Z4:=List (List Dat);let Z3:=DC.sl 51 z50 ((r.getD 7 (.int 0)).r);let Z2:=DC.sl 33 [.sl 3 [.int]] ((r.getD 9 (.int 0)).r);let Z1:=(vB false=vB true);∃ i1:(List Dat),[w42 r,w42 r]=Eh.args i1/\Eh.pre i1/\(ifB ((!true)) Z1 (∃ i2:Z4,[DA.one Z3,DA.one Z3]=C2.args i2/\C2.pre i2/\(ifB ((!true)) Z1 (∃ i3:Z4,[DA.one Z5,DA.one Z5]=BW.args i3/\BW.pre i3/\(ifB ((!true)) Z1 (∃ i4:Z4,[DA.one Z2,DA.one Z2]=Ej.args i4/\Ej.pre i4/\(ifB ((!true)) Z1 ((vB true=vB true)))))))))) (by kernel_rfl) ?_
 conv=>zeta
 delta w42 ifB vB
 have hp:=IP hpre
 obtain ⟨p0,p1,p2,p3,p4,p5,p6,p7,p8,p9⟩:=hp
 refine ⟨([Dat.int ((r.getD 0 (.int 0)).n),Dat.int ((r.getD 1 (.int 0)).n),Dat.int ((r.getD 2 (.int 0)).n),Dat.int ((r.getD 3 (.int 0)).n),Dat.sl ((r.getD 4 (.int 0)).r),Dat.sl ((r.getD 5 (.int 0)).r),Dat.sl ((r.getD 6 (.int 0)).r)]:List Dat),by
  rfl,by
  trivial,?_⟩
 refine ⟨λ c4=>?_,λ c4=>?_⟩
 ·try simp only [nrm] at c4
  exfalso;simp_all;done
 try simp only [nrm] at c4
 refine ⟨((r.getD 7 (.int 0)).r),by
  rfl,by
  try dsimp only [C2]
  trivial,?_⟩
 refine ⟨λ c9=>?_,λ c9=>?_⟩
 ·try simp only [nrm] at c9
  exfalso;simp_all;done
 try simp only [nrm] at c9
 refine ⟨((r.getD 8 (.int 0)).r),by
  rfl,by
  trivial,?_⟩
 refine ⟨λ c14=>?_,λ c14=>?_⟩
 ·try simp only [nrm] at c14
  exfalso;simp_all;done
 try simp only [nrm] at c14
 refine ⟨((r.getD 9 (.int 0)).r),by
  rfl,by
  exact Cz p9,?_⟩
 refine ⟨λ c19=>?_,λ c19=>?_⟩
 ·try simp only [nrm] at c19
  exfalso;simp_all;done
 try simp only [nrm] at c19
 exact rfl
end Go.Proofs.YtmedodfenejimaaGreat
