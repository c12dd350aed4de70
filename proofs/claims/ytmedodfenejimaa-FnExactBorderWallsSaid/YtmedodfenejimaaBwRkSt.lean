import Derived.Test.YtmedodfenejimaaBwRkT
import Derived.Test.YtmedodfenejimaaBwExD
import Derived.Test.YtmedodfenejimaaBwTyB
import Derived.Test.YtmedodfenejimaaBwTyH
namespace Go.Proofs.Ytmedodfenejimaa
set_option maxRecDepth 100000
set_option linter.unusedVariables false
set_option linter.unusedSimpArgs false
open Go.RowKit
def szIntS_con:Con:={ ι:=(List (List Dat))×Int,pre:=λ i=>Dat.has (.sl 3 [.int]) (.sl i.1)/\0<=i.2/\i.2<=1048576,args:=λ i=>[.one (.sl 3 [.int] i.1),.one (.im (.int .i64 i.2))],res:=λ i=>⟨false,[none],[.im (Value.int .i64 (szR (i.1.length+szRows i.1) i.2))]⟩ }
theorem szIntS_ok:szIntS_con.Ok Try.prog 18:=by
 refine fok (X:=⟨tt,[],[],12,[]⟩) mixed tt_ok (CTok.nil _) Try.func18 (λ _=>[]) ?_
 rintro ⟨l,n⟩ hpre
 have hpre:Dat.has (.sl 3 [.int]) (.sl l)/\0<=n/\n<=1048576:=hpre
 refine by_nf (q:=((decide ((wR (n-(nI l.length)))<(0:Int)))=true->((vI (-1:Int)=vI (szR (l.length+szRows l) n))))/\((decide ((wR (n-(nI l.length)))<(0:Int)))=false->((vI (wR (n-(nI l.length)))=vI (szR (l.length+szRows l) n))))) (by kernel_rfl) ?_
 delta vI wR nI
 obtain ⟨hh,h0,h1⟩:=hpre
 have hz:=has_leaf (by decide) hh
 simp only [Dat.has] at hh
 obtain ⟨hl,-⟩:=hh
 have hw:IntKind.i64.wrap (n-(l.length:Int))=n-l.length:=wrap64 (by omega) (by omega)
 refine ⟨λ c1=>?_,λ c1=>?_⟩
 ·try simp only [nrm] at c1
  refine vint ?_;try rw [hw] at *;grind [szR]
 try simp only [nrm] at c1
 refine vint ?_;try rw [hw] at *;grind [szR]
def szVecS_con:Con:={ ι:=(List (List Dat))×Int,pre:=λ i=>Dat.has (.sl 35 [.int,.int]) (.sl i.1)/\0<=i.2/\i.2<=1048576,args:=λ i=>[.one (.sl 23 [.int,.int] i.1),.one (.im (.int .i64 i.2))],res:=λ i=>⟨false,[none],[.im (Value.int .i64 (szR (i.1.length+szRows i.1) i.2))]⟩ }
theorem szVecS_ok:szVecS_con.Ok Try.prog 40:=by
 refine fok (X:=⟨tt,[],[],12,[]⟩) mixed tt_ok (CTok.nil _) Try.func40 (λ _=>[]) ?_
 rintro ⟨l,n⟩ hpre
 have hpre:Dat.has (.sl 35 [.int,.int]) (.sl l)/\0<=n/\n<=1048576:=hpre
 refine by_nf (q:=((decide ((wR (n-(nI l.length)))<(0:Int)))=true->((vI (-1:Int)=vI (szR (l.length+szRows l) n))))/\((decide ((wR (n-(nI l.length)))<(0:Int)))=false->((vI (wR (n-(nI l.length)))=vI (szR (l.length+szRows l) n))))) (by kernel_rfl) ?_
 delta vI wR nI
 obtain ⟨hh,h0,h1⟩:=hpre
 have hz:=has_leaf (by decide) hh
 simp only [Dat.has] at hh
 obtain ⟨hl,-⟩:=hh
 have hw:IntKind.i64.wrap (n-(l.length:Int))=n-l.length:=wrap64 (by omega) (by omega)
 refine ⟨λ c1=>?_,λ c1=>?_⟩
 ·try simp only [nrm] at c1
  refine vint ?_;try rw [hw] at *;grind [szR]
 try simp only [nrm] at c1
 refine vint ?_;try rw [hw] at *;grind [szR]
def szBigInt_con:Con:={ ι:=BigD×Int,pre:=λ i=>hasRow [.bool,.sl 3 [.int]] [.bool i.1.neg,.sl i.1.num]/\0<=i.2/\i.2<=1048576,args:=λ i=>[.agg [.im (.bool i.1.neg),.sl 3 [.int] i.1.num],.one (.im (.int .i64 i.2))],res:=λ i=>⟨false,[none],[.im (Value.int .i64 (szR (szRow [.bool i.1.neg,.sl i.1.num]) i.2))]⟩ }
theorem szBigInt_ok:szBigInt_con.Ok Try.prog 72:=by
 refine fok (X:=⟨tt,[(18,szIntS_con)],[],12,[]⟩) mixed tt_ok (CTok.cons szIntS_ok (CTok.nil _)) Try.func72 (λ _=>[]) ?_
 rintro ⟨b,n⟩ hpre
 have hpre:hasRow [.bool,.sl 3 [.int]] [.bool b.neg,.sl b.num]/\0<=n/\n<=1048576:=hpre
 refine by_nf (q:=∃ i1:(List (List Dat))×Int,[DA.one (cS b.num),DA.one (cI n)]=szIntS_con.args i1/\szIntS_con.pre i1/\(((decide ((szR (i1.1.length+szRows i1.1) i1.2)<(0:Int)))=true->((vI (-1:Int)=vI (szR (szRow [.bool b.neg,.sl b.num]) n))))/\((decide ((szR (i1.1.length+szRows i1.1) i1.2)<(0:Int)))=false->((vI (szR (i1.1.length+szRows i1.1) i1.2)=vI (szR (szRow [.bool b.neg,.sl b.num]) n)))))) (by kernel_rfl) ?_
 delta vI
 obtain ⟨hh,h0,h1⟩:=hpre
 simp only [hasRow] at hh
 refine ⟨(b.num,n),by
  rfl,by
  show Dat.has (.sl 3 [.int]) (.sl b.num)/\0<=n/\n<=1048576
  refine ⟨?_,?_,?_⟩ <;> first|(simp only [hasRow];simp only [hh,and_self];done)|exact hh.1|exact hh.2.1|exact hh.2.2.1|exact hh.2.2.2.1|exact hh.2.2.2.2.1|exact hh.2.2.2.2.2.1|exact hh.2.2.2.2.2.2.1|omega|(unfold szR;grind)|(simp [hh];done),?_⟩
 refine ⟨λ c4=>?_,λ c4=>?_⟩
 ·replace c4:(decide ((szR (b.num.length+szRows b.num) n)<(0:Int)))=true:=c4
  try simp only [nrm] at c4
  refine vint ?_;try simp only [szRow,Dat.sz,Nat.add_zero,Nat.zero_add] at *;all_goals grind [szR]
 replace c4:(decide ((szR (b.num.length+szRows b.num) n)<(0:Int)))=false:=c4
 try simp only [nrm] at c4
 show Value.int .i64 (szR (b.num.length+szRows b.num) n)=Value.int .i64 (szR (szRow [.bool b.neg,.sl b.num]) n)
 refine vint ?_;try simp only [szRow,Dat.sz,Nat.add_zero,Nat.zero_add] at *;all_goals grind [szR]
def szRat_con:Con:={ ι:=RatD×Int,pre:=λ i=>hasRow [.bool,.sl 3 [.int],.sl 3 [.int]] [.bool i.1.neg,.sl i.1.num,.sl i.1.den]/\0<=i.2/\i.2<=1048576,args:=λ i=>[.agg [.im (.bool i.1.neg),.sl 3 [.int] i.1.num,.sl 3 [.int] i.1.den],.one (.im (.int .i64 i.2))],res:=λ i=>⟨false,[none],[.im (Value.int .i64 (szR (szRow [.bool i.1.neg,.sl i.1.num,.sl i.1.den]) i.2))]⟩ }
theorem szRat_ok:szRat_con.Ok Try.prog 58:=by
 refine fok (X:=⟨tt,[(72,szBigInt_con),(18,szIntS_con)],[],18,[]⟩) mixed tt_ok (CTok.cons szBigInt_ok (CTok.cons szIntS_ok (CTok.nil _))) Try.func58 (λ _=>[]) ?_
 rintro ⟨r,n⟩ hpre
 have hpre:hasRow [.bool,.sl 3 [.int],.sl 3 [.int]] [.bool r.neg,.sl r.num,.sl r.den]/\0<=n/\n<=1048576:=hpre
 refine by_nf (q:=∃ i1:BigD×Int,[DA.agg [cB r.neg,cS r.num],DA.one (cI n)]=szBigInt_con.args i1/\szBigInt_con.pre i1/\(((decide ((szR (szRow [.bool i1.1.neg,.sl i1.1.num]) i1.2)<(0:Int)))=true->((vI (-1:Int)=vI (szR (szRow [.bool r.neg,.sl r.num,.sl r.den]) n))))/\((decide ((szR (szRow [.bool i1.1.neg,.sl i1.1.num]) i1.2)<(0:Int)))=false->(∃ i2:(List (List Dat))×Int,[DA.one (cS r.den),DA.one (cI (szR (szRow [.bool i1.1.neg,.sl i1.1.num]) i1.2))]=szIntS_con.args i2/\szIntS_con.pre i2/\(((decide ((szR (i2.1.length+szRows i2.1) i2.2)<(0:Int)))=true->((vI (-1:Int)=vI (szR (szRow [.bool r.neg,.sl r.num,.sl r.den]) n))))/\((decide ((szR (i2.1.length+szRows i2.1) i2.2)<(0:Int)))=false->((vI (szR (i2.1.length+szRows i2.1) i2.2)=vI (szR (szRow [.bool r.neg,.sl r.num,.sl r.den]) n))))))))) (by kernel_rfl) ?_
 delta vI
 obtain ⟨hh,h0,h1⟩:=hpre
 simp only [hasRow] at hh
 refine ⟨(BigD.mk r.neg r.num,n),by
  rfl,by
  show hasRow [.bool,.sl 3 [.int]] [.bool (BigD.mk r.neg r.num).neg,.sl (BigD.mk r.neg r.num).num]/\0<=n/\n<=1048576
  refine ⟨?_,?_,?_⟩ <;> first|(simp only [hasRow];simp only [hh,and_self];done)|exact hh.1|exact hh.2.1|exact hh.2.2.1|exact hh.2.2.2.1|exact hh.2.2.2.2.1|exact hh.2.2.2.2.2.1|exact hh.2.2.2.2.2.2.1|omega|(unfold szR;grind)|(simp [hh];done),?_⟩
 refine ⟨λ c4=>?_,λ c4=>?_⟩
 ·replace c4:(decide ((szR (szRow [.bool (BigD.mk r.neg r.num).neg,.sl (BigD.mk r.neg r.num).num]) n)<(0:Int)))=true:=c4
  try simp only [nrm] at c4
  refine vint ?_;try simp only [szRow,Dat.sz,Nat.add_zero,Nat.zero_add] at *;all_goals grind [szR]
 replace c4:(decide ((szR (szRow [.bool (BigD.mk r.neg r.num).neg,.sl (BigD.mk r.neg r.num).num]) n)<(0:Int)))=false:=c4
 try simp only [nrm] at c4
 refine ⟨(r.den,(szR (szRow [.bool (BigD.mk r.neg r.num).neg,.sl (BigD.mk r.neg r.num).num]) n)),by
  rfl,by
  try dsimp only [szIntS_con]
  refine ⟨?_,?_,?_⟩ <;> first|(simp only [hasRow];simp only [hh,and_self];done)|exact hh.1|exact hh.2.1|exact hh.2.2.1|exact hh.2.2.2.1|exact hh.2.2.2.2.1|exact hh.2.2.2.2.2.1|exact hh.2.2.2.2.2.2.1|omega|(unfold szR;grind)|(simp [hh];done),?_⟩
 refine ⟨λ c9=>?_,λ c9=>?_⟩
 ·replace c9:(decide ((szR (r.den.length+szRows r.den) (szR (szRow [.bool (BigD.mk r.neg r.num).neg,.sl (BigD.mk r.neg r.num).num]) n))<(0:Int)))=true:=c9
  try simp only [nrm] at c9
  refine vint ?_;try simp only [szRow,Dat.sz,Nat.add_zero,Nat.zero_add] at *;all_goals grind [szR]
 replace c9:(decide ((szR (r.den.length+szRows r.den) (szR (szRow [.bool (BigD.mk r.neg r.num).neg,.sl (BigD.mk r.neg r.num).num]) n))<(0:Int)))=false:=c9
 try simp only [nrm] at c9
 refine vint ?_;try simp only [szRow,Dat.sz,Nat.add_zero,Nat.zero_add] at *;all_goals grind [szR]
def eqRat_con:Con:={ ι:=RatD,pre:=λ i=>True,args:=λ i=>[.agg [.im (.bool i.neg),.sl 3 [.int] i.num,.sl 3 [.int] i.den],.agg [.im (.bool i.neg),.sl 3 [.int] i.num,.sl 3 [.int] i.den]],res:=λ i=>⟨false,[none],[.im (Value.bool true)]⟩ }
theorem eqRat_ok:eqRat_con.Ok Try.prog 71:=eqA_ok [.bool,.sl 3 [.int],.sl 3 [.int]] ⟨_,Try.func71,by decide,rfl⟩ (λ _=>rfl) (λ _=>rfl) (λ ds vs us w=>eqRat_c ds vs us w)
def toRat_con:Con:={ ι:=RatD,pre:=λ i=>szRow [.bool i.neg,.sl i.num,.sl i.den]<=1048576,args:=λ i=>[.agg [.im (.bool i.neg),.sl 3 [.int] i.num,.sl 3 [.int] i.den]],res:=λ i=>⟨false,[some 3],[.im (Value.bool i.neg),.own 3 [.int] i.num,.own 3 [.int] i.den]⟩ }
theorem toRat_ok:toRat_con.Ok Try.prog 59:=toA_ok (out:=λ r=>[.im (.bool r.neg),.sl 3 [.int] r.num,.sl 3 [.int] r.den]) [.bool,.sl 3 [.int],.sl 3 [.int]] ⟨_,Try.func59,by decide,rfl⟩ (λ _=>rfl) (λ _=>rfl) (λ _=>rfl) (λ _=>rfl) (λ _=>rfl) (λ _=>rfl) (λ _=>rfl) (λ _=>Nat.le_of_ble_eq_true rfl) (λ _ h=>h) (λ ds h vs w=>toRat_c ds h vs w)
def eqIntS_con:Con:={ ι:=(List (List Dat)),pre:=λ i=>True,args:=λ i=>[.one (.sl 3 [.int] i),.one (.sl 3 [.int] i)],res:=λ i=>⟨false,[none],[.im (Value.bool true)]⟩ }
theorem eqIntS_ok:eqIntS_con.Ok Try.prog 9:=eqO_ok (.sl 3 [.int]) ⟨_,Try.func9,by decide,rfl⟩ (λ _=>rfl) (λ _=>rfl) (λ d v u w h h'=>by obtain ⟨l,_,_,rfl,_⟩:=Rd.sl_inv h;exact eqIntS_c l v u w h h')
def toIntS_con:Con:={ ι:=(List (List Dat)),pre:=λ i=>i.length+szRows i<=1048576,args:=λ i=>[.one (.sl 3 [.int] i)],res:=λ i=>⟨false,[none],[.own 3 [.int] i]⟩ }
theorem toIntS_ok:toIntS_con.Ok Try.prog 7:=toO_ok 3 [.int] ⟨_,Try.func7,by decide,rfl⟩ (λ _=>rfl) (λ _=>rfl) (λ _=>rfl) (λ _ h=>h) (λ ls h v w=>toIntS_c ls h v w)
def eqVecSS_con:Con:={ ι:=(List (List Dat)),pre:=λ i=>True,args:=λ i=>[.one (.sl 89 [.sl 35 [.int,.int]] i),.one (.sl 89 [.sl 35 [.int,.int]] i)],res:=λ i=>⟨false,[none],[.im (Value.bool true)]⟩ }
theorem eqVecSS_ok:eqVecSS_con.Ok Try.prog 32:=eqO_ok (.sl 89 [.sl 35 [.int,.int]]) ⟨_,Try.func32,by decide,rfl⟩ (λ _=>rfl) (λ _=>rfl) (λ d v u w h h'=>by obtain ⟨l,_,_,rfl,_⟩:=Rd.sl_inv h;exact eqVecSS_c l v u w h h')
def toVecSS_con:Con:={ ι:=(List (List Dat)),pre:=λ i=>i.length+szRows i<=1048576,args:=λ i=>[.one (.sl 77 [.sl 23 [.int,.int]] i)],res:=λ i=>⟨false,[none],[.own 89 [.sl 35 [.int,.int]] i]⟩ }
theorem toVecSS_ok:toVecSS_con.Ok Try.prog 22:=toO_ok 89 [.sl 35 [.int,.int]] ⟨_,Try.func22,by decide,rfl⟩ (λ _=>rfl) (λ _=>rfl) (λ _=>rfl) (λ _ h=>h) (λ ls h v w=>toVecSS_c ls h v w)
def toVec_con:Con:={ ι:=(Int×Int),pre:=λ i=>szRow [.int i.1,.int i.2]<=1048576,args:=λ i=>[.agg [.im (.int .i64 i.1),.im (.int .i64 i.2)]],res:=λ i=>⟨false,[some 2],[.im (Value.int .i64 i.1),.im (Value.int .i64 i.2)]⟩ }
theorem toVec_ok:toVec_con.Ok Try.prog 43:=toA_ok (out:=λ p=>[.im (.int .i64 p.1),.im (.int .i64 p.2)]) [.int,.int] ⟨_,Try.func43,by decide,rfl⟩ (λ _=>rfl) (λ _=>rfl) (λ _=>rfl) (λ _=>rfl) (λ _=>rfl) (λ _=>rfl) (λ _=>rfl) (λ _=>Nat.le_of_ble_eq_true rfl) (λ _ h=>h) (λ ds h vs w=>toVec_c ds h vs w)
def eqVec_con:Con:={ ι:=(Int×Int),pre:=λ i=>True,args:=λ i=>[.agg [.im (.int .i64 i.1),.im (.int .i64 i.2)],.agg [.im (.int .i64 i.1),.im (.int .i64 i.2)]],res:=λ i=>⟨false,[none],[.im (Value.bool true)]⟩ }
theorem eqVec_ok:eqVec_con.Ok Try.prog 52:=eqA_ok [.int,.int] ⟨_,Try.func52,by decide,rfl⟩ (λ _=>rfl) (λ _=>rfl) (λ ds vs us w=>eqVec_c ds vs us w)
theorem one_row {e:Nat} {ts:List Ty} {r:List Dat} (h0:hasRow [.sl e ts] r):[Dat.sl ((r.getD 0 (.int 0)).r)]=r:=by
 obtain ⟨_,_,rfl,q0,h1⟩:=h0.cons
 obtain ⟨_,rfl⟩:=Dat.has_sl q0
 obtain rfl:=h1.nil
 rfl
theorem szR_or (a:Nat) (n:Int):szR a n=-1/\n<(a:Int)∨szR a n=n-a/\(a:Int)<=n:=by unfold szR;split <;> omega
theorem set_len {l:List (List Dat)} {k:Nat} {z:List Dat} (h:k<=l.length):(l.take k++List.replicate (l.length-k) z).length=l.length:=by rw [List.length_append,List.length_take,List.length_replicate];omega
theorem set_next {l:List (List Dat)} {k:Nat} {z x:List Dat} (h:k<l.length) (e:l.getD k []=x):(l.take k++List.replicate (l.length-k) z).set k x=l.take (k+1)++List.replicate (l.length-(k+1)) z:=by
 have e1:l.length-k=l.length-(k+1)+1:=by omega
 rw [e1,List.replicate_succ,List.set_append_right _ _ (by rw [List.length_take];omega)]
 have e2:k-(l.take k).length=0:=by rw [List.length_take];omega
 rw [e2,List.set_cons_zero,List.take_add_one,← e]
 have e3:l[k]?.toList=[l.getD k []]:=by simp [List.getD,h]
 rw [e3,List.append_assoc,List.singleton_append]
theorem set_all {l:List (List Dat)} {k:Nat} {z:List Dat} (h:l.length<=k):l.take k++List.replicate (l.length-k) z=l:=by
 rw [List.take_of_length_le h,show l.length-k=0 by omega];simp
def szVecSS_con:Con:={ ι:=(List (List Dat))×Int,pre:=λ i=>Dat.has (.sl 77 [.sl 23 [.int,.int]]) (.sl i.1)/\0<=i.2/\i.2<=1048576,args:=λ i=>[.one (.sl 77 [.sl 23 [.int,.int]] i.1),.one (.im (.int .i64 i.2))],res:=λ i=>⟨false,[none],[.im (Value.int .i64 (szR (i.1.length+szRows i.1) i.2))]⟩ }
theorem szVecSS_ok:szVecSS_con.Ok Try.prog 14:=by
 refine fok (X:=⟨tt,[(40,szVecS_con)],[],27,[]⟩) mixed tt_ok (CTok.cons szVecS_ok (CTok.nil _)) Try.func14 (λ (i:(List (List Dat))×Int)=>[(5,.mk 2 (Nat×Int) (λ x1=>{ tm:=[(0,.one (.one (.ext 1))),(4,.one (.one (.im (Value.int .i64 (0:Int))))),(5,.one (.one (.im (Value.int .i64 (x1.1:Int))))),(1,.one (.one (.im (Value.int .i64 x1.2))))],en:=[(1,.view 77 [.sl 23 [.int,.int]] i.1 [])] }) (λ x1=>x1.1<=i.1.length/\0<=x1.2/\x1.2+i.1.length+szRows (i.1.take x1.1)=i.2) (λ x1=>i.1.length-x1.1) (λ _=>[]))]) ?_
 rintro ⟨l,n⟩ hpre
 have hpre:Dat.has (.sl 77 [.sl 23 [.int,.int]]) (.sl l)/\0<=n/\n<=1048576:=hpre
 refine by_nf (q:=((decide ((wR (n-(nI l.length)))<(0:Int)))=true->((vI (-1:Int)=vI (szR (l.length+szRows l) n))))/\((decide ((wR (n-(nI l.length)))<(0:Int)))=false->((∃ x1:Nat×Int,(x1.1<=l.length/\0<=x1.2/\x1.2+l.length+szRows (l.take x1.1)=n)/\((rf (vI (0:Int)))/\(vI (0:Int)=vI (x1.1:Int))/\(vI (wR (n-(nI l.length)))=vI x1.2)/\(rf (l))))/\∀ x1:Nat×Int,(x1.1<=l.length/\0<=x1.2/\x1.2+l.length+szRows (l.take x1.1)=n)->(((decide ((x1.1:Int)<(nI l.length)))=true->((0<=(x1.1:Int)/\(x1.1:Int)<(l.length:Int))/\((x1.1<l.length)/\(∃ i1:(List (List Dat))×Int,[DA.one (DC.sl 23 [.int,.int] ((((l.getD x1.1 []).getD 0 (.int 0))).r)),DA.one (cI x1.2)]=szVecS_con.args i1/\szVecS_con.pre i1/\(((decide ((szR (i1.1.length+szRows i1.1) i1.2)<(0:Int)))=true->((vI (-1:Int)=vI (szR (l.length+szRows l) n))))/\((decide ((szR (i1.1.length+szRows i1.1) i1.2)<(0:Int)))=false->(∃ y2:Nat×Int,(y2.1<=l.length/\0<=y2.2/\y2.2+l.length+szRows (l.take y2.1)=n)/\(l.length-y2.1<l.length-x1.1)/\((rf (vI (0:Int)))/\(vI (wR ((x1.1:Int)+(1:Int)))=vI (y2.1:Int))/\(vI (szR (i1.1.length+szRows i1.1) i1.2)=vI y2.2)/\(rf (l))))))))))/\((decide ((x1.1:Int)<(nI l.length)))=false->((vI x1.2=vI (szR (l.length+szRows l) n)))))))) (by kernel_rfl) ?_
 delta vI wR nI
 obtain ⟨hh,h0,h1⟩:=hpre
 have hh2:=has_rows hh
 have hl:=has_len hh
 have hw:IntKind.i64.wrap (n-(l.length:Int))=n-l.length:=wrap64 (by omega) (by omega)
 refine ⟨λ c1=>?_,λ c1=>?_⟩
 ·try simp only [nrm] at c1
  refine vint ?_;try rw [hw] at *;grind [szR]
 try simp only [nrm] at c1
 refine ⟨⟨(0,n-l.length),by
  rw [hw] at c1;simp [szRows];omega,?_⟩,?_⟩
 ·refine ⟨rfl,rfl,?_,rfl⟩
  exact vint hw
 rintro ⟨k,m⟩ hki3
 have hki3:k<=l.length/\0<=m/\m+l.length+szRows (l.take k)=n:=hki3
 have hle:=szRows_take_le l k
 refine And.symm ⟨λ c9=>?_,λ c9=>?_⟩
 ·replace c9:(decide ((k:Int)<((l.length:Nat):Int)))=false:=c9
  try simp only [nrm] at c9
  obtain rfl:k=l.length:=by omega
  rw [List.take_length] at hki3
  refine vint ?_;try rw [hw] at *;grind [szR]
 replace c9:(decide ((k:Int)<((l.length:Nat):Int)))=true:=c9
 try simp only [nrm] at c9
 refine ao (a:=0<=(k:Int)/\(k:Int)<(l.length:Int)) (by omega) λ o10=>?_
 refine ao (a:=k<l.length) (by omega) λ o11=>?_
 refine ⟨(((l.getD k []).getD 0 (.int 0)).r,m),by
  rfl,by
  show Dat.has (.sl 35 [.int,.int]) (.sl (((l.getD k []).getD 0 (.int 0)).r))/\0<=m/\m<=1048576
  refine ⟨?_,by omega,by omega⟩
  have:=hh2 k (by omega)
  rw [← one_row this] at this
  exact this.1,?_⟩
 have hle:=szRows_take_le l (k+1)
 have hts:=szRows_take l k (by omega)
 have hrow:=hh2 k (by omega)
 rw [← one_row hrow] at hts
 have hts:szRows (l.take (k+1))=szRows (l.take k)+((((l.getD k []).getD 0 (.int 0)).r).length+szRows (((l.getD k []).getD 0 (.int 0)).r)):=by first|exact hts|simpa only [szRow,Dat.sz,Nat.add_zero] using hts
 refine ⟨λ c15=>?_,λ c15=>?_⟩
 ·replace c15:(decide ((szR ((((l.getD k []).getD 0 (.int 0)).r).length+szRows (((l.getD k []).getD 0 (.int 0)).r)) m)<(0:Int)))=true:=c15
  try simp only [nrm] at c15
  refine vint ?_;try rw [hw] at *;grind [szR]
 replace c15:(decide ((szR ((((l.getD k []).getD 0 (.int 0)).r).length+szRows (((l.getD k []).getD 0 (.int 0)).r)) m)<(0:Int)))=false:=c15
 try simp only [nrm] at c15
 refine ⟨(k+1,szR ((((l.getD k []).getD 0 (.int 0)).r).length+szRows (((l.getD k []).getD 0 (.int 0)).r)) m),by
  unfold szR at *;grind,by
  omega,?_⟩
 refine ⟨rfl,?_,rfl,rfl⟩
 exact vint (wrap64 (by omega) (by omega))
theorem etaDoor {r:List Dat} (h:hasRow [.int,.int] r):r=[.int (r.getD 0 (.int 0)).n,.int (r.getD 1 (.int 0)).n]:=by
 obtain ⟨_,_,rfl,q0,h0⟩:=h.cons
 obtain ⟨_,rfl⟩:=Dat.has_int q0
 obtain ⟨_,_,rfl,q1,h1⟩:=h0.cons
 obtain ⟨_,rfl⟩:=Dat.has_int q1
 obtain rfl:=hasRow.nil h1
 rfl
theorem szrDoor {r:List Dat} (h:hasRow [.int,.int] r):szRow r=0:=by
 rw [etaDoor h]
 simp only [szRow,Dat.sz]
theorem hasDoor {r:List Dat} (h:hasRow [.int,.int] r):Dat.has .int (.int (r.getD 0 (.int 0)).n)/\Dat.has .int (.int (r.getD 1 (.int 0)).n):=by
 rw [etaDoor h] at h
 simpa only [hasRow,and_true] using h
def toDoor_con:Con:={ ι:=(List Dat),pre:=λ i=>hasRow [.int,.int] i/\szRow i<=1048576,args:=λ i=>[.agg [.im (.int .i64 ((i.getD 0 (.int 0)).n)),.im (.int .i64 ((i.getD 1 (.int 0)).n))]],res:=λ i=>⟨false,[some 2],[.im (Value.int .i64 ((i.getD 0 (.int 0)).n)),.im (Value.int .i64 ((i.getD 1 (.int 0)).n))]⟩ }
theorem toDoor_ok:toDoor_con.Ok Try.prog 47:=by
 refine fok (X:=⟨tt,[],[],11,[]⟩) mixed tt_ok (CTok.nil _) Try.func47 (λ _=>[]) ?_
 intro (r:List Dat) hpre
 have hpre:hasRow [.int,.int] r/\szRow r<=1048576:=hpre
 refine by_nf (q:=(vI ((r.getD 0 (.int 0)).n)=vI ((r.getD 0 (.int 0)).n))/\(vI ((r.getD 1 (.int 0)).n)=vI ((r.getD 1 (.int 0)).n))) (by kernel_rfl) ?_
 delta vI
 have hz:=szrDoor hpre.1
 have hs:=hpre.2
 have hp:=hasDoor hpre.1
 obtain ⟨p0,p1⟩:=hp
 exact ⟨rfl,rfl⟩
def eqDoor_con:Con:={ ι:=(List Dat),pre:=λ i=>True,args:=λ i=>[.agg [.im (.int .i64 ((i.getD 0 (.int 0)).n)),.im (.int .i64 ((i.getD 1 (.int 0)).n))],.agg [.im (.int .i64 ((i.getD 0 (.int 0)).n)),.im (.int .i64 ((i.getD 1 (.int 0)).n))]],res:=λ i=>⟨false,[none],[.im (Value.bool true)]⟩ }
theorem eqDoor_ok:eqDoor_con.Ok Try.prog 56:=by
 refine fok (X:=⟨tt,[],[],15,[]⟩) mixed tt_ok (CTok.nil _) Try.func56 (λ _=>[]) ?_
 intro (r:List Dat) hpre
 have hpre:True:=hpre
 refine by_nf (q:=((((r.getD 0 (.int 0)).n) != ((r.getD 0 (.int 0)).n))=true->((Value.bool false=Value.bool true)))/\((((r.getD 0 (.int 0)).n) != ((r.getD 0 (.int 0)).n))=false->(((((r.getD 1 (.int 0)).n) != ((r.getD 1 (.int 0)).n))=true->((Value.bool false=Value.bool true)))/\((((r.getD 1 (.int 0)).n) != ((r.getD 1 (.int 0)).n))=false->((Value.bool true=Value.bool true)))))) (by kernel_rfl) ?_
 refine ⟨λ c1=>?_,λ c1=>?_⟩
 ·try simp only [nrm] at c1
  exfalso;simp_all;done
 try simp only [nrm] at c1
 refine ⟨λ c3=>?_,λ c3=>?_⟩
 ·try simp only [nrm] at c3
  exfalso;simp_all;done
 try simp only [nrm] at c3
 exact rfl
theorem etaWall {r:List Dat} (h:hasRow [.bool,.sl 3 [.int],.sl 3 [.int],.bool,.sl 3 [.int],.sl 3 [.int],.bool,.sl 3 [.int],.sl 3 [.int]] r):r=[.bool (r.getD 0 (.int 0)).b,.sl (r.getD 1 (.int 0)).r,.sl (r.getD 2 (.int 0)).r,.bool (r.getD 3 (.int 0)).b,.sl (r.getD 4 (.int 0)).r,.sl (r.getD 5 (.int 0)).r,.bool (r.getD 6 (.int 0)).b,.sl (r.getD 7 (.int 0)).r,.sl (r.getD 8 (.int 0)).r]:=by
 obtain ⟨_,_,rfl,q0,h0⟩:=h.cons
 obtain ⟨_,rfl⟩:=Dat.has_bool q0
 obtain ⟨_,_,rfl,q1,h1⟩:=h0.cons
 obtain ⟨_,rfl⟩:=Dat.has_sl q1
 obtain ⟨_,_,rfl,q2,h2⟩:=h1.cons
 obtain ⟨_,rfl⟩:=Dat.has_sl q2
 obtain ⟨_,_,rfl,q3,h3⟩:=h2.cons
 obtain ⟨_,rfl⟩:=Dat.has_bool q3
 obtain ⟨_,_,rfl,q4,h4⟩:=h3.cons
 obtain ⟨_,rfl⟩:=Dat.has_sl q4
 obtain ⟨_,_,rfl,q5,h5⟩:=h4.cons
 obtain ⟨_,rfl⟩:=Dat.has_sl q5
 obtain ⟨_,_,rfl,q6,h6⟩:=h5.cons
 obtain ⟨_,rfl⟩:=Dat.has_bool q6
 obtain ⟨_,_,rfl,q7,h7⟩:=h6.cons
 obtain ⟨_,rfl⟩:=Dat.has_sl q7
 obtain ⟨_,_,rfl,q8,h8⟩:=h7.cons
 obtain ⟨_,rfl⟩:=Dat.has_sl q8
 obtain rfl:=hasRow.nil h8
 rfl
theorem szrWall {r:List Dat} (h:hasRow [.bool,.sl 3 [.int],.sl 3 [.int],.bool,.sl 3 [.int],.sl 3 [.int],.bool,.sl 3 [.int],.sl 3 [.int]] r):szRow r=(szRow [.bool (r.getD 0 (.int 0)).b,.sl (r.getD 1 (.int 0)).r,.sl (r.getD 2 (.int 0)).r])+(szRow [.bool (r.getD 3 (.int 0)).b,.sl (r.getD 4 (.int 0)).r,.sl (r.getD 5 (.int 0)).r])+(szRow [.bool (r.getD 6 (.int 0)).b,.sl (r.getD 7 (.int 0)).r,.sl (r.getD 8 (.int 0)).r]):=by
 conv=>lhs;rw [etaWall h]
 simp only [szRow,Dat.sz]
 omega
theorem hasWall {r:List Dat} (h:hasRow [.bool,.sl 3 [.int],.sl 3 [.int],.bool,.sl 3 [.int],.sl 3 [.int],.bool,.sl 3 [.int],.sl 3 [.int]] r):Dat.has .bool (.bool (r.getD 0 (.int 0)).b)/\Dat.has (.sl 3 [.int]) (.sl (r.getD 1 (.int 0)).r)/\Dat.has (.sl 3 [.int]) (.sl (r.getD 2 (.int 0)).r)/\Dat.has .bool (.bool (r.getD 3 (.int 0)).b)/\Dat.has (.sl 3 [.int]) (.sl (r.getD 4 (.int 0)).r)/\Dat.has (.sl 3 [.int]) (.sl (r.getD 5 (.int 0)).r)/\Dat.has .bool (.bool (r.getD 6 (.int 0)).b)/\Dat.has (.sl 3 [.int]) (.sl (r.getD 7 (.int 0)).r)/\Dat.has (.sl 3 [.int]) (.sl (r.getD 8 (.int 0)).r):=by
 rw [etaWall h] at h
 simpa only [hasRow,and_true] using h
def szWall_con:Con:={ ι:=(List Dat)×Int,pre:=λ i=>hasRow [.bool,.sl 3 [.int],.sl 3 [.int],.bool,.sl 3 [.int],.sl 3 [.int],.bool,.sl 3 [.int],.sl 3 [.int]] i.1/\0<=i.2/\i.2<=1048576,args:=λ i=>[.agg [.im (.bool ((i.1.getD 0 (.int 0)).b)),.sl 3 [.int] ((i.1.getD 1 (.int 0)).r),.sl 3 [.int] ((i.1.getD 2 (.int 0)).r),.im (.bool ((i.1.getD 3 (.int 0)).b)),.sl 3 [.int] ((i.1.getD 4 (.int 0)).r),.sl 3 [.int] ((i.1.getD 5 (.int 0)).r),.im (.bool ((i.1.getD 6 (.int 0)).b)),.sl 3 [.int] ((i.1.getD 7 (.int 0)).r),.sl 3 [.int] ((i.1.getD 8 (.int 0)).r)],.one (.im (.int .i64 i.2))],res:=λ i=>⟨false,[none],[.im (Value.int .i64 (szR (szRow i.1) i.2))]⟩ }
theorem szWall_ok:szWall_con.Ok Try.prog 42:=by
 refine fok (X:=⟨tt,[(58,szRat_con)],[],24,[]⟩) mixed tt_ok (CTok.cons szRat_ok (CTok.nil _)) Try.func42 (λ _=>[]) ?_
 rintro ⟨r,n⟩ hpre
 have hpre:hasRow [.bool,.sl 3 [.int],.sl 3 [.int],.bool,.sl 3 [.int],.sl 3 [.int],.bool,.sl 3 [.int],.sl 3 [.int]] r/\0<=n/\n<=1048576:=hpre
 refine by_nf (q:=∃ i1:RatD×Int,[DA.agg [cB ((r.getD 0 (.int 0)).b),cS ((r.getD 1 (.int 0)).r),cS ((r.getD 2 (.int 0)).r)],DA.one (cI n)]=szRat_con.args i1/\szRat_con.pre i1/\(((decide ((szR (szRow [.bool i1.1.neg,.sl i1.1.num,.sl i1.1.den]) i1.2)<(0:Int)))=true->((vI (-1:Int)=vI (szR (szRow r) n))))/\((decide ((szR (szRow [.bool i1.1.neg,.sl i1.1.num,.sl i1.1.den]) i1.2)<(0:Int)))=false->(∃ i2:RatD×Int,[DA.agg [cB ((r.getD 3 (.int 0)).b),cS ((r.getD 4 (.int 0)).r),cS ((r.getD 5 (.int 0)).r)],DA.one (cI (szR (szRow [.bool i1.1.neg,.sl i1.1.num,.sl i1.1.den]) i1.2))]=szRat_con.args i2/\szRat_con.pre i2/\(((decide ((szR (szRow [.bool i2.1.neg,.sl i2.1.num,.sl i2.1.den]) i2.2)<(0:Int)))=true->((vI (-1:Int)=vI (szR (szRow r) n))))/\((decide ((szR (szRow [.bool i2.1.neg,.sl i2.1.num,.sl i2.1.den]) i2.2)<(0:Int)))=false->(∃ i3:RatD×Int,[DA.agg [cB ((r.getD 6 (.int 0)).b),cS ((r.getD 7 (.int 0)).r),cS ((r.getD 8 (.int 0)).r)],DA.one (cI (szR (szRow [.bool i2.1.neg,.sl i2.1.num,.sl i2.1.den]) i2.2))]=szRat_con.args i3/\szRat_con.pre i3/\(((decide ((szR (szRow [.bool i3.1.neg,.sl i3.1.num,.sl i3.1.den]) i3.2)<(0:Int)))=true->((vI (-1:Int)=vI (szR (szRow r) n))))/\((decide ((szR (szRow [.bool i3.1.neg,.sl i3.1.num,.sl i3.1.den]) i3.2)<(0:Int)))=false->((vI (szR (szRow [.bool i3.1.neg,.sl i3.1.num,.sl i3.1.den]) i3.2)=vI (szR (szRow r) n)))))))))))) (by kernel_rfl) ?_
 delta vI
 obtain ⟨hh,h0,h1⟩:=hpre
 have hz:=szrWall hh
 have hp:=hasWall hh
 obtain ⟨p0,p1,p2,p3,p4,p5,p6,p7,p8⟩:=hp
 have f0:=szR_or (szRow [.bool (r.getD 0 (.int 0)).b,.sl (r.getD 1 (.int 0)).r,.sl (r.getD 2 (.int 0)).r]) (n)
 have f1:=szR_or (szRow [.bool (r.getD 3 (.int 0)).b,.sl (r.getD 4 (.int 0)).r,.sl (r.getD 5 (.int 0)).r]) (szR (szRow [.bool (r.getD 0 (.int 0)).b,.sl (r.getD 1 (.int 0)).r,.sl (r.getD 2 (.int 0)).r]) (n))
 have f2:=szR_or (szRow [.bool (r.getD 6 (.int 0)).b,.sl (r.getD 7 (.int 0)).r,.sl (r.getD 8 (.int 0)).r]) (szR (szRow [.bool (r.getD 3 (.int 0)).b,.sl (r.getD 4 (.int 0)).r,.sl (r.getD 5 (.int 0)).r]) (szR (szRow [.bool (r.getD 0 (.int 0)).b,.sl (r.getD 1 (.int 0)).r,.sl (r.getD 2 (.int 0)).r]) (n)))
 have ft:=szR_or (szRow r) n
 refine ⟨((RatD.mk ((r.getD 0 (.int 0)).b) ((r.getD 1 (.int 0)).r) ((r.getD 2 (.int 0)).r)),n),by
  rfl,by
  try dsimp only [szRat_con]
  refine ⟨?_,?_,?_⟩ <;> (try dsimp only) <;> first|assumption|omega|exact ⟨p0,p1,p2,trivial⟩|exact ⟨p3,p4,p5,trivial⟩|exact ⟨p6,p7,p8,trivial⟩,?_⟩
 refine ⟨λ c4=>?_,λ c4=>?_⟩
 ·try dsimp only at c4
  try simp only [nrm] at c4
  refine vint ?_;try dsimp only
  omega
 try dsimp only at c4
 try simp only [nrm] at c4
 refine ⟨((RatD.mk ((r.getD 3 (.int 0)).b) ((r.getD 4 (.int 0)).r) ((r.getD 5 (.int 0)).r)),(szR (szRow [.bool (RatD.mk ((r.getD 0 (.int 0)).b) ((r.getD 1 (.int 0)).r) ((r.getD 2 (.int 0)).r)).neg,.sl (RatD.mk ((r.getD 0 (.int 0)).b) ((r.getD 1 (.int 0)).r) ((r.getD 2 (.int 0)).r)).num,.sl (RatD.mk ((r.getD 0 (.int 0)).b) ((r.getD 1 (.int 0)).r) ((r.getD 2 (.int 0)).r)).den]) n)),by
  rfl,by
  try dsimp only [szRat_con]
  refine ⟨?_,?_,?_⟩ <;> (try dsimp only) <;> first|assumption|omega|exact ⟨p0,p1,p2,trivial⟩|exact ⟨p3,p4,p5,trivial⟩|exact ⟨p6,p7,p8,trivial⟩,?_⟩
 refine ⟨λ c9=>?_,λ c9=>?_⟩
 ·try dsimp only at c9
  try simp only [nrm] at c9
  refine vint ?_;try dsimp only
  omega
 try dsimp only at c9
 try simp only [nrm] at c9
 refine ⟨((RatD.mk ((r.getD 6 (.int 0)).b) ((r.getD 7 (.int 0)).r) ((r.getD 8 (.int 0)).r)),(szR (szRow [.bool (RatD.mk ((r.getD 3 (.int 0)).b) ((r.getD 4 (.int 0)).r) ((r.getD 5 (.int 0)).r)).neg,.sl (RatD.mk ((r.getD 3 (.int 0)).b) ((r.getD 4 (.int 0)).r) ((r.getD 5 (.int 0)).r)).num,.sl (RatD.mk ((r.getD 3 (.int 0)).b) ((r.getD 4 (.int 0)).r) ((r.getD 5 (.int 0)).r)).den]) (szR (szRow [.bool (RatD.mk ((r.getD 0 (.int 0)).b) ((r.getD 1 (.int 0)).r) ((r.getD 2 (.int 0)).r)).neg,.sl (RatD.mk ((r.getD 0 (.int 0)).b) ((r.getD 1 (.int 0)).r) ((r.getD 2 (.int 0)).r)).num,.sl (RatD.mk ((r.getD 0 (.int 0)).b) ((r.getD 1 (.int 0)).r) ((r.getD 2 (.int 0)).r)).den]) n))),by
  rfl,by
  try dsimp only [szRat_con]
  refine ⟨?_,?_,?_⟩ <;> (try dsimp only) <;> first|assumption|omega|exact ⟨p0,p1,p2,trivial⟩|exact ⟨p3,p4,p5,trivial⟩|exact ⟨p6,p7,p8,trivial⟩,?_⟩
 refine ⟨λ c14=>?_,λ c14=>?_⟩
 ·try dsimp only at c14
  try simp only [nrm] at c14
  refine vint ?_;try dsimp only
  omega
 try dsimp only at c14
 try simp only [nrm] at c14
 show Value.int .i64 (szR (szRow [.bool (RatD.mk ((r.getD 6 (.int 0)).b) ((r.getD 7 (.int 0)).r) ((r.getD 8 (.int 0)).r)).neg,.sl (RatD.mk ((r.getD 6 (.int 0)).b) ((r.getD 7 (.int 0)).r) ((r.getD 8 (.int 0)).r)).num,.sl (RatD.mk ((r.getD 6 (.int 0)).b) ((r.getD 7 (.int 0)).r) ((r.getD 8 (.int 0)).r)).den]) (szR (szRow [.bool (RatD.mk ((r.getD 3 (.int 0)).b) ((r.getD 4 (.int 0)).r) ((r.getD 5 (.int 0)).r)).neg,.sl (RatD.mk ((r.getD 3 (.int 0)).b) ((r.getD 4 (.int 0)).r) ((r.getD 5 (.int 0)).r)).num,.sl (RatD.mk ((r.getD 3 (.int 0)).b) ((r.getD 4 (.int 0)).r) ((r.getD 5 (.int 0)).r)).den]) (szR (szRow [.bool (RatD.mk ((r.getD 0 (.int 0)).b) ((r.getD 1 (.int 0)).r) ((r.getD 2 (.int 0)).r)).neg,.sl (RatD.mk ((r.getD 0 (.int 0)).b) ((r.getD 1 (.int 0)).r) ((r.getD 2 (.int 0)).r)).num,.sl (RatD.mk ((r.getD 0 (.int 0)).b) ((r.getD 1 (.int 0)).r) ((r.getD 2 (.int 0)).r)).den]) n)))=Value.int .i64 (szR (szRow r) n)
 refine vint ?_;try dsimp only
 omega
def toWall_con:Con:={ ι:=(List Dat),pre:=λ i=>hasRow [.bool,.sl 3 [.int],.sl 3 [.int],.bool,.sl 3 [.int],.sl 3 [.int],.bool,.sl 3 [.int],.sl 3 [.int]] i/\szRow i<=1048576,args:=λ i=>[.agg [.im (.bool ((i.getD 0 (.int 0)).b)),.sl 3 [.int] ((i.getD 1 (.int 0)).r),.sl 3 [.int] ((i.getD 2 (.int 0)).r),.im (.bool ((i.getD 3 (.int 0)).b)),.sl 3 [.int] ((i.getD 4 (.int 0)).r),.sl 3 [.int] ((i.getD 5 (.int 0)).r),.im (.bool ((i.getD 6 (.int 0)).b)),.sl 3 [.int] ((i.getD 7 (.int 0)).r),.sl 3 [.int] ((i.getD 8 (.int 0)).r)]],res:=λ i=>⟨false,[some 9],[.im (Value.bool ((i.getD 0 (.int 0)).b)),.own 3 [.int] ((i.getD 1 (.int 0)).r),.own 3 [.int] ((i.getD 2 (.int 0)).r),.im (Value.bool ((i.getD 3 (.int 0)).b)),.own 3 [.int] ((i.getD 4 (.int 0)).r),.own 3 [.int] ((i.getD 5 (.int 0)).r),.im (Value.bool ((i.getD 6 (.int 0)).b)),.own 3 [.int] ((i.getD 7 (.int 0)).r),.own 3 [.int] ((i.getD 8 (.int 0)).r)]⟩ }
theorem toWall_ok:toWall_con.Ok Try.prog 46:=by
 refine fok (X:=⟨tt,[(59,toRat_con)],[],17,[]⟩) mixed tt_ok (CTok.cons toRat_ok (CTok.nil _)) Try.func46 (λ _=>[]) ?_
 intro (r:List Dat) hpre
 have hpre:hasRow [.bool,.sl 3 [.int],.sl 3 [.int],.bool,.sl 3 [.int],.sl 3 [.int],.bool,.sl 3 [.int],.sl 3 [.int]] r/\szRow r<=1048576:=hpre
 refine by_nf (q:=∃ i1:RatD,[DA.agg [cB ((r.getD 0 (.int 0)).b),cS ((r.getD 1 (.int 0)).r),cS ((r.getD 2 (.int 0)).r)]]=toRat_con.args i1/\toRat_con.pre i1/\(∃ i2:RatD,[DA.agg [cB ((r.getD 3 (.int 0)).b),cS ((r.getD 4 (.int 0)).r),cS ((r.getD 5 (.int 0)).r)]]=toRat_con.args i2/\toRat_con.pre i2/\(∃ i3:RatD,[DA.agg [cB ((r.getD 6 (.int 0)).b),cS ((r.getD 7 (.int 0)).r),cS ((r.getD 8 (.int 0)).r)]]=toRat_con.args i3/\toRat_con.pre i3/\((Value.bool i1.neg=Value.bool ((r.getD 0 (.int 0)).b))/\(i1.num=(r.getD 1 (.int 0)).r)/\(i1.den=(r.getD 2 (.int 0)).r)/\(Value.bool i2.neg=Value.bool ((r.getD 3 (.int 0)).b))/\(i2.num=(r.getD 4 (.int 0)).r)/\(i2.den=(r.getD 5 (.int 0)).r)/\(Value.bool i3.neg=Value.bool ((r.getD 6 (.int 0)).b))/\(i3.num=(r.getD 7 (.int 0)).r)/\(i3.den=(r.getD 8 (.int 0)).r))))) (by kernel_rfl) ?_
 have hz:=szrWall hpre.1
 have hs:=hpre.2
 have hp:=hasWall hpre.1
 obtain ⟨p0,p1,p2,p3,p4,p5,p6,p7,p8⟩:=hp
 refine ⟨(RatD.mk ((r.getD 0 (.int 0)).b) ((r.getD 1 (.int 0)).r) ((r.getD 2 (.int 0)).r)),by
  rfl,by
  try dsimp only [toRat_con]
  omega,?_⟩
 refine ⟨(RatD.mk ((r.getD 3 (.int 0)).b) ((r.getD 4 (.int 0)).r) ((r.getD 5 (.int 0)).r)),by
  rfl,by
  try dsimp only [toRat_con]
  omega,?_⟩
 refine ⟨(RatD.mk ((r.getD 6 (.int 0)).b) ((r.getD 7 (.int 0)).r) ((r.getD 8 (.int 0)).r)),by
  rfl,by
  try dsimp only [toRat_con]
  omega,?_⟩
 refine ⟨?_,?_,?_,?_,?_,?_,?_,?_,?_⟩
 ·rfl
 ·rfl
 ·rfl
 ·rfl
 ·rfl
 ·rfl
 ·rfl
 ·rfl
 rfl
def eqWall_con:Con:={ ι:=(List Dat),pre:=λ i=>True,args:=λ i=>[.agg [.im (.bool ((i.getD 0 (.int 0)).b)),.sl 3 [.int] ((i.getD 1 (.int 0)).r),.sl 3 [.int] ((i.getD 2 (.int 0)).r),.im (.bool ((i.getD 3 (.int 0)).b)),.sl 3 [.int] ((i.getD 4 (.int 0)).r),.sl 3 [.int] ((i.getD 5 (.int 0)).r),.im (.bool ((i.getD 6 (.int 0)).b)),.sl 3 [.int] ((i.getD 7 (.int 0)).r),.sl 3 [.int] ((i.getD 8 (.int 0)).r)],.agg [.im (.bool ((i.getD 0 (.int 0)).b)),.sl 3 [.int] ((i.getD 1 (.int 0)).r),.sl 3 [.int] ((i.getD 2 (.int 0)).r),.im (.bool ((i.getD 3 (.int 0)).b)),.sl 3 [.int] ((i.getD 4 (.int 0)).r),.sl 3 [.int] ((i.getD 5 (.int 0)).r),.im (.bool ((i.getD 6 (.int 0)).b)),.sl 3 [.int] ((i.getD 7 (.int 0)).r),.sl 3 [.int] ((i.getD 8 (.int 0)).r)]],res:=λ i=>⟨false,[none],[.im (Value.bool true)]⟩ }
theorem eqWall_ok:eqWall_con.Ok Try.prog 55:=by
 refine fok (X:=⟨tt,[(71,eqRat_con)],[],23,[]⟩) mixed tt_ok (CTok.cons eqRat_ok (CTok.nil _)) Try.func55 (λ _=>[]) ?_
 intro (r:List Dat) hpre
 have hpre:True:=hpre
 refine by_nf (q:=∃ i1:RatD,[DA.agg [cB ((r.getD 0 (.int 0)).b),cS ((r.getD 1 (.int 0)).r),cS ((r.getD 2 (.int 0)).r)],DA.agg [cB ((r.getD 0 (.int 0)).b),cS ((r.getD 1 (.int 0)).r),cS ((r.getD 2 (.int 0)).r)]]=eqRat_con.args i1/\eqRat_con.pre i1/\(((!true)=true->((Value.bool false=Value.bool true)))/\((!true)=false->(∃ i2:RatD,[DA.agg [cB ((r.getD 3 (.int 0)).b),cS ((r.getD 4 (.int 0)).r),cS ((r.getD 5 (.int 0)).r)],DA.agg [cB ((r.getD 3 (.int 0)).b),cS ((r.getD 4 (.int 0)).r),cS ((r.getD 5 (.int 0)).r)]]=eqRat_con.args i2/\eqRat_con.pre i2/\(((!true)=true->((Value.bool false=Value.bool true)))/\((!true)=false->(∃ i3:RatD,[DA.agg [cB ((r.getD 6 (.int 0)).b),cS ((r.getD 7 (.int 0)).r),cS ((r.getD 8 (.int 0)).r)],DA.agg [cB ((r.getD 6 (.int 0)).b),cS ((r.getD 7 (.int 0)).r),cS ((r.getD 8 (.int 0)).r)]]=eqRat_con.args i3/\eqRat_con.pre i3/\(((!true)=true->((Value.bool false=Value.bool true)))/\((!true)=false->((Value.bool true=Value.bool true))))))))))) (by kernel_rfl) ?_
 refine ⟨(RatD.mk ((r.getD 0 (.int 0)).b) ((r.getD 1 (.int 0)).r) ((r.getD 2 (.int 0)).r)),by
  rfl,by
  trivial,?_⟩
 refine ⟨λ c4=>?_,λ c4=>?_⟩
 ·try simp only [nrm] at c4
  exfalso;simp_all;done
 try simp only [nrm] at c4
 refine ⟨(RatD.mk ((r.getD 3 (.int 0)).b) ((r.getD 4 (.int 0)).r) ((r.getD 5 (.int 0)).r)),by
  rfl,by
  trivial,?_⟩
 refine ⟨λ c9=>?_,λ c9=>?_⟩
 ·try simp only [nrm] at c9
  exfalso;simp_all;done
 try simp only [nrm] at c9
 refine ⟨(RatD.mk ((r.getD 6 (.int 0)).b) ((r.getD 7 (.int 0)).r) ((r.getD 8 (.int 0)).r)),by
  rfl,by
  trivial,?_⟩
 refine ⟨λ c14=>?_,λ c14=>?_⟩
 ·try simp only [nrm] at c14
  exfalso;simp_all;done
 try simp only [nrm] at c14
 exact rfl
theorem etaCell {r:List Dat} (h:hasRow [.bool,.sl 3 [.int],.sl 3 [.int],.bool,.sl 3 [.int],.sl 3 [.int],.bool,.sl 3 [.int],.sl 3 [.int],.bool,.sl 3 [.int],.sl 3 [.int],.bool,.sl 3 [.int],.sl 3 [.int],.bool,.sl 3 [.int],.sl 3 [.int]] r):r=[.bool (r.getD 0 (.int 0)).b,.sl (r.getD 1 (.int 0)).r,.sl (r.getD 2 (.int 0)).r,.bool (r.getD 3 (.int 0)).b,.sl (r.getD 4 (.int 0)).r,.sl (r.getD 5 (.int 0)).r,.bool (r.getD 6 (.int 0)).b,.sl (r.getD 7 (.int 0)).r,.sl (r.getD 8 (.int 0)).r,.bool (r.getD 9 (.int 0)).b,.sl (r.getD 10 (.int 0)).r,.sl (r.getD 11 (.int 0)).r,.bool (r.getD 12 (.int 0)).b,.sl (r.getD 13 (.int 0)).r,.sl (r.getD 14 (.int 0)).r,.bool (r.getD 15 (.int 0)).b,.sl (r.getD 16 (.int 0)).r,.sl (r.getD 17 (.int 0)).r]:=by
 obtain ⟨_,_,rfl,q0,h0⟩:=h.cons
 obtain ⟨_,rfl⟩:=Dat.has_bool q0
 obtain ⟨_,_,rfl,q1,h1⟩:=h0.cons
 obtain ⟨_,rfl⟩:=Dat.has_sl q1
 obtain ⟨_,_,rfl,q2,h2⟩:=h1.cons
 obtain ⟨_,rfl⟩:=Dat.has_sl q2
 obtain ⟨_,_,rfl,q3,h3⟩:=h2.cons
 obtain ⟨_,rfl⟩:=Dat.has_bool q3
 obtain ⟨_,_,rfl,q4,h4⟩:=h3.cons
 obtain ⟨_,rfl⟩:=Dat.has_sl q4
 obtain ⟨_,_,rfl,q5,h5⟩:=h4.cons
 obtain ⟨_,rfl⟩:=Dat.has_sl q5
 obtain ⟨_,_,rfl,q6,h6⟩:=h5.cons
 obtain ⟨_,rfl⟩:=Dat.has_bool q6
 obtain ⟨_,_,rfl,q7,h7⟩:=h6.cons
 obtain ⟨_,rfl⟩:=Dat.has_sl q7
 obtain ⟨_,_,rfl,q8,h8⟩:=h7.cons
 obtain ⟨_,rfl⟩:=Dat.has_sl q8
 obtain ⟨_,_,rfl,q9,h9⟩:=h8.cons
 obtain ⟨_,rfl⟩:=Dat.has_bool q9
 obtain ⟨_,_,rfl,q10,h10⟩:=h9.cons
 obtain ⟨_,rfl⟩:=Dat.has_sl q10
 obtain ⟨_,_,rfl,q11,h11⟩:=h10.cons
 obtain ⟨_,rfl⟩:=Dat.has_sl q11
 obtain ⟨_,_,rfl,q12,h12⟩:=h11.cons
 obtain ⟨_,rfl⟩:=Dat.has_bool q12
 obtain ⟨_,_,rfl,q13,h13⟩:=h12.cons
 obtain ⟨_,rfl⟩:=Dat.has_sl q13
 obtain ⟨_,_,rfl,q14,h14⟩:=h13.cons
 obtain ⟨_,rfl⟩:=Dat.has_sl q14
 obtain ⟨_,_,rfl,q15,h15⟩:=h14.cons
 obtain ⟨_,rfl⟩:=Dat.has_bool q15
 obtain ⟨_,_,rfl,q16,h16⟩:=h15.cons
 obtain ⟨_,rfl⟩:=Dat.has_sl q16
 obtain ⟨_,_,rfl,q17,h17⟩:=h16.cons
 obtain ⟨_,rfl⟩:=Dat.has_sl q17
 obtain rfl:=hasRow.nil h17
 rfl
theorem szrCell {r:List Dat} (h:hasRow [.bool,.sl 3 [.int],.sl 3 [.int],.bool,.sl 3 [.int],.sl 3 [.int],.bool,.sl 3 [.int],.sl 3 [.int],.bool,.sl 3 [.int],.sl 3 [.int],.bool,.sl 3 [.int],.sl 3 [.int],.bool,.sl 3 [.int],.sl 3 [.int]] r):szRow r=(szRow [.bool (r.getD 0 (.int 0)).b,.sl (r.getD 1 (.int 0)).r,.sl (r.getD 2 (.int 0)).r])+(szRow [.bool (r.getD 3 (.int 0)).b,.sl (r.getD 4 (.int 0)).r,.sl (r.getD 5 (.int 0)).r])+(szRow [.bool (r.getD 6 (.int 0)).b,.sl (r.getD 7 (.int 0)).r,.sl (r.getD 8 (.int 0)).r])+(szRow [.bool (r.getD 9 (.int 0)).b,.sl (r.getD 10 (.int 0)).r,.sl (r.getD 11 (.int 0)).r])+(szRow [.bool (r.getD 12 (.int 0)).b,.sl (r.getD 13 (.int 0)).r,.sl (r.getD 14 (.int 0)).r])+(szRow [.bool (r.getD 15 (.int 0)).b,.sl (r.getD 16 (.int 0)).r,.sl (r.getD 17 (.int 0)).r]):=by
 conv=>lhs;rw [etaCell h]
 simp only [szRow,Dat.sz]
 omega
theorem hasCell {r:List Dat} (h:hasRow [.bool,.sl 3 [.int],.sl 3 [.int],.bool,.sl 3 [.int],.sl 3 [.int],.bool,.sl 3 [.int],.sl 3 [.int],.bool,.sl 3 [.int],.sl 3 [.int],.bool,.sl 3 [.int],.sl 3 [.int],.bool,.sl 3 [.int],.sl 3 [.int]] r):Dat.has .bool (.bool (r.getD 0 (.int 0)).b)/\Dat.has (.sl 3 [.int]) (.sl (r.getD 1 (.int 0)).r)/\Dat.has (.sl 3 [.int]) (.sl (r.getD 2 (.int 0)).r)/\Dat.has .bool (.bool (r.getD 3 (.int 0)).b)/\Dat.has (.sl 3 [.int]) (.sl (r.getD 4 (.int 0)).r)/\Dat.has (.sl 3 [.int]) (.sl (r.getD 5 (.int 0)).r)/\Dat.has .bool (.bool (r.getD 6 (.int 0)).b)/\Dat.has (.sl 3 [.int]) (.sl (r.getD 7 (.int 0)).r)/\Dat.has (.sl 3 [.int]) (.sl (r.getD 8 (.int 0)).r)/\Dat.has .bool (.bool (r.getD 9 (.int 0)).b)/\Dat.has (.sl 3 [.int]) (.sl (r.getD 10 (.int 0)).r)/\Dat.has (.sl 3 [.int]) (.sl (r.getD 11 (.int 0)).r)/\Dat.has .bool (.bool (r.getD 12 (.int 0)).b)/\Dat.has (.sl 3 [.int]) (.sl (r.getD 13 (.int 0)).r)/\Dat.has (.sl 3 [.int]) (.sl (r.getD 14 (.int 0)).r)/\Dat.has .bool (.bool (r.getD 15 (.int 0)).b)/\Dat.has (.sl 3 [.int]) (.sl (r.getD 16 (.int 0)).r)/\Dat.has (.sl 3 [.int]) (.sl (r.getD 17 (.int 0)).r):=by
 rw [etaCell h] at h
 simpa only [hasRow,and_true] using h
def szCell_con:Con:={ ι:=(List Dat)×Int,pre:=λ i=>hasRow [.bool,.sl 3 [.int],.sl 3 [.int],.bool,.sl 3 [.int],.sl 3 [.int],.bool,.sl 3 [.int],.sl 3 [.int],.bool,.sl 3 [.int],.sl 3 [.int],.bool,.sl 3 [.int],.sl 3 [.int],.bool,.sl 3 [.int],.sl 3 [.int]] i.1/\0<=i.2/\i.2<=1048576,args:=λ i=>[.agg [.im (.bool ((i.1.getD 0 (.int 0)).b)),.sl 3 [.int] ((i.1.getD 1 (.int 0)).r),.sl 3 [.int] ((i.1.getD 2 (.int 0)).r),.im (.bool ((i.1.getD 3 (.int 0)).b)),.sl 3 [.int] ((i.1.getD 4 (.int 0)).r),.sl 3 [.int] ((i.1.getD 5 (.int 0)).r),.im (.bool ((i.1.getD 6 (.int 0)).b)),.sl 3 [.int] ((i.1.getD 7 (.int 0)).r),.sl 3 [.int] ((i.1.getD 8 (.int 0)).r),.im (.bool ((i.1.getD 9 (.int 0)).b)),.sl 3 [.int] ((i.1.getD 10 (.int 0)).r),.sl 3 [.int] ((i.1.getD 11 (.int 0)).r),.im (.bool ((i.1.getD 12 (.int 0)).b)),.sl 3 [.int] ((i.1.getD 13 (.int 0)).r),.sl 3 [.int] ((i.1.getD 14 (.int 0)).r),.im (.bool ((i.1.getD 15 (.int 0)).b)),.sl 3 [.int] ((i.1.getD 16 (.int 0)).r),.sl 3 [.int] ((i.1.getD 17 (.int 0)).r)],.one (.im (.int .i64 i.2))],res:=λ i=>⟨false,[none],[.im (Value.int .i64 (szR (szRow i.1) i.2))]⟩ }
theorem szCell_ok:szCell_con.Ok Try.prog 41:=by
 refine fok (X:=⟨tt,[(58,szRat_con)],[],42,[]⟩) mixed tt_ok (CTok.cons szRat_ok (CTok.nil _)) Try.func41 (λ _=>[]) ?_
 rintro ⟨r,n⟩ hpre
 have hpre:hasRow [.bool,.sl 3 [.int],.sl 3 [.int],.bool,.sl 3 [.int],.sl 3 [.int],.bool,.sl 3 [.int],.sl 3 [.int],.bool,.sl 3 [.int],.sl 3 [.int],.bool,.sl 3 [.int],.sl 3 [.int],.bool,.sl 3 [.int],.sl 3 [.int]] r/\0<=n/\n<=1048576:=hpre
 refine by_nf (q:=∃ i1:RatD×Int,[DA.agg [cB ((r.getD 0 (.int 0)).b),cS ((r.getD 1 (.int 0)).r),cS ((r.getD 2 (.int 0)).r)],DA.one (cI n)]=szRat_con.args i1/\szRat_con.pre i1/\(((decide ((szR (szRow [.bool i1.1.neg,.sl i1.1.num,.sl i1.1.den]) i1.2)<(0:Int)))=true->((vI (-1:Int)=vI (szR (szRow r) n))))/\((decide ((szR (szRow [.bool i1.1.neg,.sl i1.1.num,.sl i1.1.den]) i1.2)<(0:Int)))=false->(∃ i2:RatD×Int,[DA.agg [cB ((r.getD 3 (.int 0)).b),cS ((r.getD 4 (.int 0)).r),cS ((r.getD 5 (.int 0)).r)],DA.one (cI (szR (szRow [.bool i1.1.neg,.sl i1.1.num,.sl i1.1.den]) i1.2))]=szRat_con.args i2/\szRat_con.pre i2/\(((decide ((szR (szRow [.bool i2.1.neg,.sl i2.1.num,.sl i2.1.den]) i2.2)<(0:Int)))=true->((vI (-1:Int)=vI (szR (szRow r) n))))/\((decide ((szR (szRow [.bool i2.1.neg,.sl i2.1.num,.sl i2.1.den]) i2.2)<(0:Int)))=false->(∃ i3:RatD×Int,[DA.agg [cB ((r.getD 6 (.int 0)).b),cS ((r.getD 7 (.int 0)).r),cS ((r.getD 8 (.int 0)).r)],DA.one (cI (szR (szRow [.bool i2.1.neg,.sl i2.1.num,.sl i2.1.den]) i2.2))]=szRat_con.args i3/\szRat_con.pre i3/\(((decide ((szR (szRow [.bool i3.1.neg,.sl i3.1.num,.sl i3.1.den]) i3.2)<(0:Int)))=true->((vI (-1:Int)=vI (szR (szRow r) n))))/\((decide ((szR (szRow [.bool i3.1.neg,.sl i3.1.num,.sl i3.1.den]) i3.2)<(0:Int)))=false->(∃ i4:RatD×Int,[DA.agg [cB ((r.getD 9 (.int 0)).b),cS ((r.getD 10 (.int 0)).r),cS ((r.getD 11 (.int 0)).r)],DA.one (cI (szR (szRow [.bool i3.1.neg,.sl i3.1.num,.sl i3.1.den]) i3.2))]=szRat_con.args i4/\szRat_con.pre i4/\(((decide ((szR (szRow [.bool i4.1.neg,.sl i4.1.num,.sl i4.1.den]) i4.2)<(0:Int)))=true->((vI (-1:Int)=vI (szR (szRow r) n))))/\((decide ((szR (szRow [.bool i4.1.neg,.sl i4.1.num,.sl i4.1.den]) i4.2)<(0:Int)))=false->(∃ i5:RatD×Int,[DA.agg [cB ((r.getD 12 (.int 0)).b),cS ((r.getD 13 (.int 0)).r),cS ((r.getD 14 (.int 0)).r)],DA.one (cI (szR (szRow [.bool i4.1.neg,.sl i4.1.num,.sl i4.1.den]) i4.2))]=szRat_con.args i5/\szRat_con.pre i5/\(((decide ((szR (szRow [.bool i5.1.neg,.sl i5.1.num,.sl i5.1.den]) i5.2)<(0:Int)))=true->((vI (-1:Int)=vI (szR (szRow r) n))))/\((decide ((szR (szRow [.bool i5.1.neg,.sl i5.1.num,.sl i5.1.den]) i5.2)<(0:Int)))=false->(∃ i6:RatD×Int,[DA.agg [cB ((r.getD 15 (.int 0)).b),cS ((r.getD 16 (.int 0)).r),cS ((r.getD 17 (.int 0)).r)],DA.one (cI (szR (szRow [.bool i5.1.neg,.sl i5.1.num,.sl i5.1.den]) i5.2))]=szRat_con.args i6/\szRat_con.pre i6/\(((decide ((szR (szRow [.bool i6.1.neg,.sl i6.1.num,.sl i6.1.den]) i6.2)<(0:Int)))=true->((vI (-1:Int)=vI (szR (szRow r) n))))/\((decide ((szR (szRow [.bool i6.1.neg,.sl i6.1.num,.sl i6.1.den]) i6.2)<(0:Int)))=false->((vI (szR (szRow [.bool i6.1.neg,.sl i6.1.num,.sl i6.1.den]) i6.2)=vI (szR (szRow r) n))))))))))))))))))))) (by kernel_rfl) ?_
 delta vI
 obtain ⟨hh,h0,h1⟩:=hpre
 have hz:=szrCell hh
 have hp:=hasCell hh
 obtain ⟨p0,p1,p2,p3,p4,p5,p6,p7,p8,p9,p10,p11,p12,p13,p14,p15,p16,p17⟩:=hp
 have f0:=szR_or (szRow [.bool (r.getD 0 (.int 0)).b,.sl (r.getD 1 (.int 0)).r,.sl (r.getD 2 (.int 0)).r]) (n)
 have f1:=szR_or (szRow [.bool (r.getD 3 (.int 0)).b,.sl (r.getD 4 (.int 0)).r,.sl (r.getD 5 (.int 0)).r]) (szR (szRow [.bool (r.getD 0 (.int 0)).b,.sl (r.getD 1 (.int 0)).r,.sl (r.getD 2 (.int 0)).r]) (n))
 have f2:=szR_or (szRow [.bool (r.getD 6 (.int 0)).b,.sl (r.getD 7 (.int 0)).r,.sl (r.getD 8 (.int 0)).r]) (szR (szRow [.bool (r.getD 3 (.int 0)).b,.sl (r.getD 4 (.int 0)).r,.sl (r.getD 5 (.int 0)).r]) (szR (szRow [.bool (r.getD 0 (.int 0)).b,.sl (r.getD 1 (.int 0)).r,.sl (r.getD 2 (.int 0)).r]) (n)))
 have f3:=szR_or (szRow [.bool (r.getD 9 (.int 0)).b,.sl (r.getD 10 (.int 0)).r,.sl (r.getD 11 (.int 0)).r]) (szR (szRow [.bool (r.getD 6 (.int 0)).b,.sl (r.getD 7 (.int 0)).r,.sl (r.getD 8 (.int 0)).r]) (szR (szRow [.bool (r.getD 3 (.int 0)).b,.sl (r.getD 4 (.int 0)).r,.sl (r.getD 5 (.int 0)).r]) (szR (szRow [.bool (r.getD 0 (.int 0)).b,.sl (r.getD 1 (.int 0)).r,.sl (r.getD 2 (.int 0)).r]) (n))))
 have f4:=szR_or (szRow [.bool (r.getD 12 (.int 0)).b,.sl (r.getD 13 (.int 0)).r,.sl (r.getD 14 (.int 0)).r]) (szR (szRow [.bool (r.getD 9 (.int 0)).b,.sl (r.getD 10 (.int 0)).r,.sl (r.getD 11 (.int 0)).r]) (szR (szRow [.bool (r.getD 6 (.int 0)).b,.sl (r.getD 7 (.int 0)).r,.sl (r.getD 8 (.int 0)).r]) (szR (szRow [.bool (r.getD 3 (.int 0)).b,.sl (r.getD 4 (.int 0)).r,.sl (r.getD 5 (.int 0)).r]) (szR (szRow [.bool (r.getD 0 (.int 0)).b,.sl (r.getD 1 (.int 0)).r,.sl (r.getD 2 (.int 0)).r]) (n)))))
 have f5:=szR_or (szRow [.bool (r.getD 15 (.int 0)).b,.sl (r.getD 16 (.int 0)).r,.sl (r.getD 17 (.int 0)).r]) (szR (szRow [.bool (r.getD 12 (.int 0)).b,.sl (r.getD 13 (.int 0)).r,.sl (r.getD 14 (.int 0)).r]) (szR (szRow [.bool (r.getD 9 (.int 0)).b,.sl (r.getD 10 (.int 0)).r,.sl (r.getD 11 (.int 0)).r]) (szR (szRow [.bool (r.getD 6 (.int 0)).b,.sl (r.getD 7 (.int 0)).r,.sl (r.getD 8 (.int 0)).r]) (szR (szRow [.bool (r.getD 3 (.int 0)).b,.sl (r.getD 4 (.int 0)).r,.sl (r.getD 5 (.int 0)).r]) (szR (szRow [.bool (r.getD 0 (.int 0)).b,.sl (r.getD 1 (.int 0)).r,.sl (r.getD 2 (.int 0)).r]) (n))))))
 have ft:=szR_or (szRow r) n
 refine ⟨((RatD.mk ((r.getD 0 (.int 0)).b) ((r.getD 1 (.int 0)).r) ((r.getD 2 (.int 0)).r)),n),by
  rfl,by
  try dsimp only [szRat_con]
  refine ⟨?_,?_,?_⟩ <;> (try dsimp only) <;> first|assumption|omega|exact ⟨p0,p1,p2,trivial⟩|exact ⟨p3,p4,p5,trivial⟩|exact ⟨p6,p7,p8,trivial⟩|exact ⟨p9,p10,p11,trivial⟩|exact ⟨p12,p13,p14,trivial⟩|exact ⟨p15,p16,p17,trivial⟩,?_⟩
 refine ⟨λ c4=>?_,λ c4=>?_⟩
 ·try dsimp only at c4
  try simp only [nrm] at c4
  refine vint ?_;try dsimp only
  omega
 try dsimp only at c4
 try simp only [nrm] at c4
 refine ⟨((RatD.mk ((r.getD 3 (.int 0)).b) ((r.getD 4 (.int 0)).r) ((r.getD 5 (.int 0)).r)),(szR (szRow [.bool (RatD.mk ((r.getD 0 (.int 0)).b) ((r.getD 1 (.int 0)).r) ((r.getD 2 (.int 0)).r)).neg,.sl (RatD.mk ((r.getD 0 (.int 0)).b) ((r.getD 1 (.int 0)).r) ((r.getD 2 (.int 0)).r)).num,.sl (RatD.mk ((r.getD 0 (.int 0)).b) ((r.getD 1 (.int 0)).r) ((r.getD 2 (.int 0)).r)).den]) n)),by
  rfl,by
  try dsimp only [szRat_con]
  refine ⟨?_,?_,?_⟩ <;> (try dsimp only) <;> first|assumption|omega|exact ⟨p0,p1,p2,trivial⟩|exact ⟨p3,p4,p5,trivial⟩|exact ⟨p6,p7,p8,trivial⟩|exact ⟨p9,p10,p11,trivial⟩|exact ⟨p12,p13,p14,trivial⟩|exact ⟨p15,p16,p17,trivial⟩,?_⟩
 refine ⟨λ c9=>?_,λ c9=>?_⟩
 ·try dsimp only at c9
  try simp only [nrm] at c9
  refine vint ?_;try dsimp only
  omega
 try dsimp only at c9
 try simp only [nrm] at c9
 refine ⟨((RatD.mk ((r.getD 6 (.int 0)).b) ((r.getD 7 (.int 0)).r) ((r.getD 8 (.int 0)).r)),(szR (szRow [.bool (RatD.mk ((r.getD 3 (.int 0)).b) ((r.getD 4 (.int 0)).r) ((r.getD 5 (.int 0)).r)).neg,.sl (RatD.mk ((r.getD 3 (.int 0)).b) ((r.getD 4 (.int 0)).r) ((r.getD 5 (.int 0)).r)).num,.sl (RatD.mk ((r.getD 3 (.int 0)).b) ((r.getD 4 (.int 0)).r) ((r.getD 5 (.int 0)).r)).den]) (szR (szRow [.bool (RatD.mk ((r.getD 0 (.int 0)).b) ((r.getD 1 (.int 0)).r) ((r.getD 2 (.int 0)).r)).neg,.sl (RatD.mk ((r.getD 0 (.int 0)).b) ((r.getD 1 (.int 0)).r) ((r.getD 2 (.int 0)).r)).num,.sl (RatD.mk ((r.getD 0 (.int 0)).b) ((r.getD 1 (.int 0)).r) ((r.getD 2 (.int 0)).r)).den]) n))),by
  rfl,by
  try dsimp only [szRat_con]
  refine ⟨?_,?_,?_⟩ <;> (try dsimp only) <;> first|assumption|omega|exact ⟨p0,p1,p2,trivial⟩|exact ⟨p3,p4,p5,trivial⟩|exact ⟨p6,p7,p8,trivial⟩|exact ⟨p9,p10,p11,trivial⟩|exact ⟨p12,p13,p14,trivial⟩|exact ⟨p15,p16,p17,trivial⟩,?_⟩
 refine ⟨λ c14=>?_,λ c14=>?_⟩
 ·try dsimp only at c14
  try simp only [nrm] at c14
  refine vint ?_;try dsimp only
  omega
 try dsimp only at c14
 try simp only [nrm] at c14
 refine ⟨((RatD.mk ((r.getD 9 (.int 0)).b) ((r.getD 10 (.int 0)).r) ((r.getD 11 (.int 0)).r)),(szR (szRow [.bool (RatD.mk ((r.getD 6 (.int 0)).b) ((r.getD 7 (.int 0)).r) ((r.getD 8 (.int 0)).r)).neg,.sl (RatD.mk ((r.getD 6 (.int 0)).b) ((r.getD 7 (.int 0)).r) ((r.getD 8 (.int 0)).r)).num,.sl (RatD.mk ((r.getD 6 (.int 0)).b) ((r.getD 7 (.int 0)).r) ((r.getD 8 (.int 0)).r)).den]) (szR (szRow [.bool (RatD.mk ((r.getD 3 (.int 0)).b) ((r.getD 4 (.int 0)).r) ((r.getD 5 (.int 0)).r)).neg,.sl (RatD.mk ((r.getD 3 (.int 0)).b) ((r.getD 4 (.int 0)).r) ((r.getD 5 (.int 0)).r)).num,.sl (RatD.mk ((r.getD 3 (.int 0)).b) ((r.getD 4 (.int 0)).r) ((r.getD 5 (.int 0)).r)).den]) (szR (szRow [.bool (RatD.mk ((r.getD 0 (.int 0)).b) ((r.getD 1 (.int 0)).r) ((r.getD 2 (.int 0)).r)).neg,.sl (RatD.mk ((r.getD 0 (.int 0)).b) ((r.getD 1 (.int 0)).r) ((r.getD 2 (.int 0)).r)).num,.sl (RatD.mk ((r.getD 0 (.int 0)).b) ((r.getD 1 (.int 0)).r) ((r.getD 2 (.int 0)).r)).den]) n)))),by
  rfl,by
  try dsimp only [szRat_con]
  refine ⟨?_,?_,?_⟩ <;> (try dsimp only) <;> first|assumption|omega|exact ⟨p0,p1,p2,trivial⟩|exact ⟨p3,p4,p5,trivial⟩|exact ⟨p6,p7,p8,trivial⟩|exact ⟨p9,p10,p11,trivial⟩|exact ⟨p12,p13,p14,trivial⟩|exact ⟨p15,p16,p17,trivial⟩,?_⟩
 refine ⟨λ c19=>?_,λ c19=>?_⟩
 ·try dsimp only at c19
  try simp only [nrm] at c19
  refine vint ?_;try dsimp only
  omega
 try dsimp only at c19
 try simp only [nrm] at c19
 refine ⟨((RatD.mk ((r.getD 12 (.int 0)).b) ((r.getD 13 (.int 0)).r) ((r.getD 14 (.int 0)).r)),(szR (szRow [.bool (RatD.mk ((r.getD 9 (.int 0)).b) ((r.getD 10 (.int 0)).r) ((r.getD 11 (.int 0)).r)).neg,.sl (RatD.mk ((r.getD 9 (.int 0)).b) ((r.getD 10 (.int 0)).r) ((r.getD 11 (.int 0)).r)).num,.sl (RatD.mk ((r.getD 9 (.int 0)).b) ((r.getD 10 (.int 0)).r) ((r.getD 11 (.int 0)).r)).den]) (szR (szRow [.bool (RatD.mk ((r.getD 6 (.int 0)).b) ((r.getD 7 (.int 0)).r) ((r.getD 8 (.int 0)).r)).neg,.sl (RatD.mk ((r.getD 6 (.int 0)).b) ((r.getD 7 (.int 0)).r) ((r.getD 8 (.int 0)).r)).num,.sl (RatD.mk ((r.getD 6 (.int 0)).b) ((r.getD 7 (.int 0)).r) ((r.getD 8 (.int 0)).r)).den]) (szR (szRow [.bool (RatD.mk ((r.getD 3 (.int 0)).b) ((r.getD 4 (.int 0)).r) ((r.getD 5 (.int 0)).r)).neg,.sl (RatD.mk ((r.getD 3 (.int 0)).b) ((r.getD 4 (.int 0)).r) ((r.getD 5 (.int 0)).r)).num,.sl (RatD.mk ((r.getD 3 (.int 0)).b) ((r.getD 4 (.int 0)).r) ((r.getD 5 (.int 0)).r)).den]) (szR (szRow [.bool (RatD.mk ((r.getD 0 (.int 0)).b) ((r.getD 1 (.int 0)).r) ((r.getD 2 (.int 0)).r)).neg,.sl (RatD.mk ((r.getD 0 (.int 0)).b) ((r.getD 1 (.int 0)).r) ((r.getD 2 (.int 0)).r)).num,.sl (RatD.mk ((r.getD 0 (.int 0)).b) ((r.getD 1 (.int 0)).r) ((r.getD 2 (.int 0)).r)).den]) n))))),by
  rfl,by
  try dsimp only [szRat_con]
  refine ⟨?_,?_,?_⟩ <;> (try dsimp only) <;> first|assumption|omega|exact ⟨p0,p1,p2,trivial⟩|exact ⟨p3,p4,p5,trivial⟩|exact ⟨p6,p7,p8,trivial⟩|exact ⟨p9,p10,p11,trivial⟩|exact ⟨p12,p13,p14,trivial⟩|exact ⟨p15,p16,p17,trivial⟩,?_⟩
 refine ⟨λ c24=>?_,λ c24=>?_⟩
 ·try dsimp only at c24
  try simp only [nrm] at c24
  refine vint ?_;try dsimp only
  omega
 try dsimp only at c24
 try simp only [nrm] at c24
 refine ⟨((RatD.mk ((r.getD 15 (.int 0)).b) ((r.getD 16 (.int 0)).r) ((r.getD 17 (.int 0)).r)),(szR (szRow [.bool (RatD.mk ((r.getD 12 (.int 0)).b) ((r.getD 13 (.int 0)).r) ((r.getD 14 (.int 0)).r)).neg,.sl (RatD.mk ((r.getD 12 (.int 0)).b) ((r.getD 13 (.int 0)).r) ((r.getD 14 (.int 0)).r)).num,.sl (RatD.mk ((r.getD 12 (.int 0)).b) ((r.getD 13 (.int 0)).r) ((r.getD 14 (.int 0)).r)).den]) (szR (szRow [.bool (RatD.mk ((r.getD 9 (.int 0)).b) ((r.getD 10 (.int 0)).r) ((r.getD 11 (.int 0)).r)).neg,.sl (RatD.mk ((r.getD 9 (.int 0)).b) ((r.getD 10 (.int 0)).r) ((r.getD 11 (.int 0)).r)).num,.sl (RatD.mk ((r.getD 9 (.int 0)).b) ((r.getD 10 (.int 0)).r) ((r.getD 11 (.int 0)).r)).den]) (szR (szRow [.bool (RatD.mk ((r.getD 6 (.int 0)).b) ((r.getD 7 (.int 0)).r) ((r.getD 8 (.int 0)).r)).neg,.sl (RatD.mk ((r.getD 6 (.int 0)).b) ((r.getD 7 (.int 0)).r) ((r.getD 8 (.int 0)).r)).num,.sl (RatD.mk ((r.getD 6 (.int 0)).b) ((r.getD 7 (.int 0)).r) ((r.getD 8 (.int 0)).r)).den]) (szR (szRow [.bool (RatD.mk ((r.getD 3 (.int 0)).b) ((r.getD 4 (.int 0)).r) ((r.getD 5 (.int 0)).r)).neg,.sl (RatD.mk ((r.getD 3 (.int 0)).b) ((r.getD 4 (.int 0)).r) ((r.getD 5 (.int 0)).r)).num,.sl (RatD.mk ((r.getD 3 (.int 0)).b) ((r.getD 4 (.int 0)).r) ((r.getD 5 (.int 0)).r)).den]) (szR (szRow [.bool (RatD.mk ((r.getD 0 (.int 0)).b) ((r.getD 1 (.int 0)).r) ((r.getD 2 (.int 0)).r)).neg,.sl (RatD.mk ((r.getD 0 (.int 0)).b) ((r.getD 1 (.int 0)).r) ((r.getD 2 (.int 0)).r)).num,.sl (RatD.mk ((r.getD 0 (.int 0)).b) ((r.getD 1 (.int 0)).r) ((r.getD 2 (.int 0)).r)).den]) n)))))),by
  rfl,by
  try dsimp only [szRat_con]
  refine ⟨?_,?_,?_⟩ <;> (try dsimp only) <;> first|assumption|omega|exact ⟨p0,p1,p2,trivial⟩|exact ⟨p3,p4,p5,trivial⟩|exact ⟨p6,p7,p8,trivial⟩|exact ⟨p9,p10,p11,trivial⟩|exact ⟨p12,p13,p14,trivial⟩|exact ⟨p15,p16,p17,trivial⟩,?_⟩
 refine ⟨λ c29=>?_,λ c29=>?_⟩
 ·try dsimp only at c29
  try simp only [nrm] at c29
  refine vint ?_;try dsimp only
  omega
 try dsimp only at c29
 try simp only [nrm] at c29
 show Value.int .i64 (szR (szRow [.bool (RatD.mk ((r.getD 15 (.int 0)).b) ((r.getD 16 (.int 0)).r) ((r.getD 17 (.int 0)).r)).neg,.sl (RatD.mk ((r.getD 15 (.int 0)).b) ((r.getD 16 (.int 0)).r) ((r.getD 17 (.int 0)).r)).num,.sl (RatD.mk ((r.getD 15 (.int 0)).b) ((r.getD 16 (.int 0)).r) ((r.getD 17 (.int 0)).r)).den]) (szR (szRow [.bool (RatD.mk ((r.getD 12 (.int 0)).b) ((r.getD 13 (.int 0)).r) ((r.getD 14 (.int 0)).r)).neg,.sl (RatD.mk ((r.getD 12 (.int 0)).b) ((r.getD 13 (.int 0)).r) ((r.getD 14 (.int 0)).r)).num,.sl (RatD.mk ((r.getD 12 (.int 0)).b) ((r.getD 13 (.int 0)).r) ((r.getD 14 (.int 0)).r)).den]) (szR (szRow [.bool (RatD.mk ((r.getD 9 (.int 0)).b) ((r.getD 10 (.int 0)).r) ((r.getD 11 (.int 0)).r)).neg,.sl (RatD.mk ((r.getD 9 (.int 0)).b) ((r.getD 10 (.int 0)).r) ((r.getD 11 (.int 0)).r)).num,.sl (RatD.mk ((r.getD 9 (.int 0)).b) ((r.getD 10 (.int 0)).r) ((r.getD 11 (.int 0)).r)).den]) (szR (szRow [.bool (RatD.mk ((r.getD 6 (.int 0)).b) ((r.getD 7 (.int 0)).r) ((r.getD 8 (.int 0)).r)).neg,.sl (RatD.mk ((r.getD 6 (.int 0)).b) ((r.getD 7 (.int 0)).r) ((r.getD 8 (.int 0)).r)).num,.sl (RatD.mk ((r.getD 6 (.int 0)).b) ((r.getD 7 (.int 0)).r) ((r.getD 8 (.int 0)).r)).den]) (szR (szRow [.bool (RatD.mk ((r.getD 3 (.int 0)).b) ((r.getD 4 (.int 0)).r) ((r.getD 5 (.int 0)).r)).neg,.sl (RatD.mk ((r.getD 3 (.int 0)).b) ((r.getD 4 (.int 0)).r) ((r.getD 5 (.int 0)).r)).num,.sl (RatD.mk ((r.getD 3 (.int 0)).b) ((r.getD 4 (.int 0)).r) ((r.getD 5 (.int 0)).r)).den]) (szR (szRow [.bool (RatD.mk ((r.getD 0 (.int 0)).b) ((r.getD 1 (.int 0)).r) ((r.getD 2 (.int 0)).r)).neg,.sl (RatD.mk ((r.getD 0 (.int 0)).b) ((r.getD 1 (.int 0)).r) ((r.getD 2 (.int 0)).r)).num,.sl (RatD.mk ((r.getD 0 (.int 0)).b) ((r.getD 1 (.int 0)).r) ((r.getD 2 (.int 0)).r)).den]) n))))))=Value.int .i64 (szR (szRow r) n)
 refine vint ?_;try dsimp only
 omega
def toCell_con:Con:={ ι:=(List Dat),pre:=λ i=>hasRow [.bool,.sl 3 [.int],.sl 3 [.int],.bool,.sl 3 [.int],.sl 3 [.int],.bool,.sl 3 [.int],.sl 3 [.int],.bool,.sl 3 [.int],.sl 3 [.int],.bool,.sl 3 [.int],.sl 3 [.int],.bool,.sl 3 [.int],.sl 3 [.int]] i/\szRow i<=1048576,args:=λ i=>[.agg [.im (.bool ((i.getD 0 (.int 0)).b)),.sl 3 [.int] ((i.getD 1 (.int 0)).r),.sl 3 [.int] ((i.getD 2 (.int 0)).r),.im (.bool ((i.getD 3 (.int 0)).b)),.sl 3 [.int] ((i.getD 4 (.int 0)).r),.sl 3 [.int] ((i.getD 5 (.int 0)).r),.im (.bool ((i.getD 6 (.int 0)).b)),.sl 3 [.int] ((i.getD 7 (.int 0)).r),.sl 3 [.int] ((i.getD 8 (.int 0)).r),.im (.bool ((i.getD 9 (.int 0)).b)),.sl 3 [.int] ((i.getD 10 (.int 0)).r),.sl 3 [.int] ((i.getD 11 (.int 0)).r),.im (.bool ((i.getD 12 (.int 0)).b)),.sl 3 [.int] ((i.getD 13 (.int 0)).r),.sl 3 [.int] ((i.getD 14 (.int 0)).r),.im (.bool ((i.getD 15 (.int 0)).b)),.sl 3 [.int] ((i.getD 16 (.int 0)).r),.sl 3 [.int] ((i.getD 17 (.int 0)).r)]],res:=λ i=>⟨false,[some 18],[.im (Value.bool ((i.getD 0 (.int 0)).b)),.own 3 [.int] ((i.getD 1 (.int 0)).r),.own 3 [.int] ((i.getD 2 (.int 0)).r),.im (Value.bool ((i.getD 3 (.int 0)).b)),.own 3 [.int] ((i.getD 4 (.int 0)).r),.own 3 [.int] ((i.getD 5 (.int 0)).r),.im (Value.bool ((i.getD 6 (.int 0)).b)),.own 3 [.int] ((i.getD 7 (.int 0)).r),.own 3 [.int] ((i.getD 8 (.int 0)).r),.im (Value.bool ((i.getD 9 (.int 0)).b)),.own 3 [.int] ((i.getD 10 (.int 0)).r),.own 3 [.int] ((i.getD 11 (.int 0)).r),.im (Value.bool ((i.getD 12 (.int 0)).b)),.own 3 [.int] ((i.getD 13 (.int 0)).r),.own 3 [.int] ((i.getD 14 (.int 0)).r),.im (Value.bool ((i.getD 15 (.int 0)).b)),.own 3 [.int] ((i.getD 16 (.int 0)).r),.own 3 [.int] ((i.getD 17 (.int 0)).r)]⟩ }
theorem toCell_ok:toCell_con.Ok Try.prog 45:=by
 refine fok (X:=⟨tt,[(59,toRat_con)],[],29,[]⟩) mixed tt_ok (CTok.cons toRat_ok (CTok.nil _)) Try.func45 (λ _=>[]) ?_
 intro (r:List Dat) hpre
 have hpre:hasRow [.bool,.sl 3 [.int],.sl 3 [.int],.bool,.sl 3 [.int],.sl 3 [.int],.bool,.sl 3 [.int],.sl 3 [.int],.bool,.sl 3 [.int],.sl 3 [.int],.bool,.sl 3 [.int],.sl 3 [.int],.bool,.sl 3 [.int],.sl 3 [.int]] r/\szRow r<=1048576:=hpre
 refine by_nf (q:=∃ i1:RatD,[DA.agg [cB ((r.getD 0 (.int 0)).b),cS ((r.getD 1 (.int 0)).r),cS ((r.getD 2 (.int 0)).r)]]=toRat_con.args i1/\toRat_con.pre i1/\(∃ i2:RatD,[DA.agg [cB ((r.getD 3 (.int 0)).b),cS ((r.getD 4 (.int 0)).r),cS ((r.getD 5 (.int 0)).r)]]=toRat_con.args i2/\toRat_con.pre i2/\(∃ i3:RatD,[DA.agg [cB ((r.getD 6 (.int 0)).b),cS ((r.getD 7 (.int 0)).r),cS ((r.getD 8 (.int 0)).r)]]=toRat_con.args i3/\toRat_con.pre i3/\(∃ i4:RatD,[DA.agg [cB ((r.getD 9 (.int 0)).b),cS ((r.getD 10 (.int 0)).r),cS ((r.getD 11 (.int 0)).r)]]=toRat_con.args i4/\toRat_con.pre i4/\(∃ i5:RatD,[DA.agg [cB ((r.getD 12 (.int 0)).b),cS ((r.getD 13 (.int 0)).r),cS ((r.getD 14 (.int 0)).r)]]=toRat_con.args i5/\toRat_con.pre i5/\(∃ i6:RatD,[DA.agg [cB ((r.getD 15 (.int 0)).b),cS ((r.getD 16 (.int 0)).r),cS ((r.getD 17 (.int 0)).r)]]=toRat_con.args i6/\toRat_con.pre i6/\((Value.bool i1.neg=Value.bool ((r.getD 0 (.int 0)).b))/\(i1.num=(r.getD 1 (.int 0)).r)/\(i1.den=(r.getD 2 (.int 0)).r)/\(Value.bool i2.neg=Value.bool ((r.getD 3 (.int 0)).b))/\(i2.num=(r.getD 4 (.int 0)).r)/\(i2.den=(r.getD 5 (.int 0)).r)/\(Value.bool i3.neg=Value.bool ((r.getD 6 (.int 0)).b))/\(i3.num=(r.getD 7 (.int 0)).r)/\(i3.den=(r.getD 8 (.int 0)).r)/\(Value.bool i4.neg=Value.bool ((r.getD 9 (.int 0)).b))/\(i4.num=(r.getD 10 (.int 0)).r)/\(i4.den=(r.getD 11 (.int 0)).r)/\(Value.bool i5.neg=Value.bool ((r.getD 12 (.int 0)).b))/\(i5.num=(r.getD 13 (.int 0)).r)/\(i5.den=(r.getD 14 (.int 0)).r)/\(Value.bool i6.neg=Value.bool ((r.getD 15 (.int 0)).b))/\(i6.num=(r.getD 16 (.int 0)).r)/\(i6.den=(r.getD 17 (.int 0)).r)))))))) (by kernel_rfl) ?_
 have hz:=szrCell hpre.1
 have hs:=hpre.2
 have hp:=hasCell hpre.1
 obtain ⟨p0,p1,p2,p3,p4,p5,p6,p7,p8,p9,p10,p11,p12,p13,p14,p15,p16,p17⟩:=hp
 refine ⟨(RatD.mk ((r.getD 0 (.int 0)).b) ((r.getD 1 (.int 0)).r) ((r.getD 2 (.int 0)).r)),by
  rfl,by
  try dsimp only [toRat_con]
  omega,?_⟩
 refine ⟨(RatD.mk ((r.getD 3 (.int 0)).b) ((r.getD 4 (.int 0)).r) ((r.getD 5 (.int 0)).r)),by
  rfl,by
  try dsimp only [toRat_con]
  omega,?_⟩
 refine ⟨(RatD.mk ((r.getD 6 (.int 0)).b) ((r.getD 7 (.int 0)).r) ((r.getD 8 (.int 0)).r)),by
  rfl,by
  try dsimp only [toRat_con]
  omega,?_⟩
 refine ⟨(RatD.mk ((r.getD 9 (.int 0)).b) ((r.getD 10 (.int 0)).r) ((r.getD 11 (.int 0)).r)),by
  rfl,by
  try dsimp only [toRat_con]
  omega,?_⟩
 refine ⟨(RatD.mk ((r.getD 12 (.int 0)).b) ((r.getD 13 (.int 0)).r) ((r.getD 14 (.int 0)).r)),by
  rfl,by
  try dsimp only [toRat_con]
  omega,?_⟩
 refine ⟨(RatD.mk ((r.getD 15 (.int 0)).b) ((r.getD 16 (.int 0)).r) ((r.getD 17 (.int 0)).r)),by
  rfl,by
  try dsimp only [toRat_con]
  omega,?_⟩
 refine ⟨?_,?_,?_,?_,?_,?_,?_,?_,?_,?_,?_,?_,?_,?_,?_,?_,?_,?_⟩
 ·rfl
 ·rfl
 ·rfl
 ·rfl
 ·rfl
 ·rfl
 ·rfl
 ·rfl
 ·rfl
 ·rfl
 ·rfl
 ·rfl
 ·rfl
 ·rfl
 ·rfl
 ·rfl
 ·rfl
 rfl
def eqCell_con:Con:={ ι:=(List Dat),pre:=λ i=>True,args:=λ i=>[.agg [.im (.bool ((i.getD 0 (.int 0)).b)),.sl 3 [.int] ((i.getD 1 (.int 0)).r),.sl 3 [.int] ((i.getD 2 (.int 0)).r),.im (.bool ((i.getD 3 (.int 0)).b)),.sl 3 [.int] ((i.getD 4 (.int 0)).r),.sl 3 [.int] ((i.getD 5 (.int 0)).r),.im (.bool ((i.getD 6 (.int 0)).b)),.sl 3 [.int] ((i.getD 7 (.int 0)).r),.sl 3 [.int] ((i.getD 8 (.int 0)).r),.im (.bool ((i.getD 9 (.int 0)).b)),.sl 3 [.int] ((i.getD 10 (.int 0)).r),.sl 3 [.int] ((i.getD 11 (.int 0)).r),.im (.bool ((i.getD 12 (.int 0)).b)),.sl 3 [.int] ((i.getD 13 (.int 0)).r),.sl 3 [.int] ((i.getD 14 (.int 0)).r),.im (.bool ((i.getD 15 (.int 0)).b)),.sl 3 [.int] ((i.getD 16 (.int 0)).r),.sl 3 [.int] ((i.getD 17 (.int 0)).r)],.agg [.im (.bool ((i.getD 0 (.int 0)).b)),.sl 3 [.int] ((i.getD 1 (.int 0)).r),.sl 3 [.int] ((i.getD 2 (.int 0)).r),.im (.bool ((i.getD 3 (.int 0)).b)),.sl 3 [.int] ((i.getD 4 (.int 0)).r),.sl 3 [.int] ((i.getD 5 (.int 0)).r),.im (.bool ((i.getD 6 (.int 0)).b)),.sl 3 [.int] ((i.getD 7 (.int 0)).r),.sl 3 [.int] ((i.getD 8 (.int 0)).r),.im (.bool ((i.getD 9 (.int 0)).b)),.sl 3 [.int] ((i.getD 10 (.int 0)).r),.sl 3 [.int] ((i.getD 11 (.int 0)).r),.im (.bool ((i.getD 12 (.int 0)).b)),.sl 3 [.int] ((i.getD 13 (.int 0)).r),.sl 3 [.int] ((i.getD 14 (.int 0)).r),.im (.bool ((i.getD 15 (.int 0)).b)),.sl 3 [.int] ((i.getD 16 (.int 0)).r),.sl 3 [.int] ((i.getD 17 (.int 0)).r)]],res:=λ i=>⟨false,[none],[.im (Value.bool true)]⟩ }
theorem eqCell_ok:eqCell_con.Ok Try.prog 54:=by
 refine fok (X:=⟨tt,[(71,eqRat_con)],[],41,[]⟩) mixed tt_ok (CTok.cons eqRat_ok (CTok.nil _)) Try.func54 (λ _=>[]) ?_
 intro (r:List Dat) hpre
 have hpre:True:=hpre
 refine by_nf (q:=∃ i1:RatD,[DA.agg [cB ((r.getD 0 (.int 0)).b),cS ((r.getD 1 (.int 0)).r),cS ((r.getD 2 (.int 0)).r)],DA.agg [cB ((r.getD 0 (.int 0)).b),cS ((r.getD 1 (.int 0)).r),cS ((r.getD 2 (.int 0)).r)]]=eqRat_con.args i1/\eqRat_con.pre i1/\(((!true)=true->((Value.bool false=Value.bool true)))/\((!true)=false->(∃ i2:RatD,[DA.agg [cB ((r.getD 3 (.int 0)).b),cS ((r.getD 4 (.int 0)).r),cS ((r.getD 5 (.int 0)).r)],DA.agg [cB ((r.getD 3 (.int 0)).b),cS ((r.getD 4 (.int 0)).r),cS ((r.getD 5 (.int 0)).r)]]=eqRat_con.args i2/\eqRat_con.pre i2/\(((!true)=true->((Value.bool false=Value.bool true)))/\((!true)=false->(∃ i3:RatD,[DA.agg [cB ((r.getD 6 (.int 0)).b),cS ((r.getD 7 (.int 0)).r),cS ((r.getD 8 (.int 0)).r)],DA.agg [cB ((r.getD 6 (.int 0)).b),cS ((r.getD 7 (.int 0)).r),cS ((r.getD 8 (.int 0)).r)]]=eqRat_con.args i3/\eqRat_con.pre i3/\(((!true)=true->((Value.bool false=Value.bool true)))/\((!true)=false->(∃ i4:RatD,[DA.agg [cB ((r.getD 9 (.int 0)).b),cS ((r.getD 10 (.int 0)).r),cS ((r.getD 11 (.int 0)).r)],DA.agg [cB ((r.getD 9 (.int 0)).b),cS ((r.getD 10 (.int 0)).r),cS ((r.getD 11 (.int 0)).r)]]=eqRat_con.args i4/\eqRat_con.pre i4/\(((!true)=true->((Value.bool false=Value.bool true)))/\((!true)=false->(∃ i5:RatD,[DA.agg [cB ((r.getD 12 (.int 0)).b),cS ((r.getD 13 (.int 0)).r),cS ((r.getD 14 (.int 0)).r)],DA.agg [cB ((r.getD 12 (.int 0)).b),cS ((r.getD 13 (.int 0)).r),cS ((r.getD 14 (.int 0)).r)]]=eqRat_con.args i5/\eqRat_con.pre i5/\(((!true)=true->((Value.bool false=Value.bool true)))/\((!true)=false->(∃ i6:RatD,[DA.agg [cB ((r.getD 15 (.int 0)).b),cS ((r.getD 16 (.int 0)).r),cS ((r.getD 17 (.int 0)).r)],DA.agg [cB ((r.getD 15 (.int 0)).b),cS ((r.getD 16 (.int 0)).r),cS ((r.getD 17 (.int 0)).r)]]=eqRat_con.args i6/\eqRat_con.pre i6/\(((!true)=true->((Value.bool false=Value.bool true)))/\((!true)=false->((Value.bool true=Value.bool true)))))))))))))))))))) (by kernel_rfl) ?_
 refine ⟨(RatD.mk ((r.getD 0 (.int 0)).b) ((r.getD 1 (.int 0)).r) ((r.getD 2 (.int 0)).r)),by
  rfl,by
  trivial,?_⟩
 refine ⟨λ c4=>?_,λ c4=>?_⟩
 ·try simp only [nrm] at c4
  exfalso;simp_all;done
 try simp only [nrm] at c4
 refine ⟨(RatD.mk ((r.getD 3 (.int 0)).b) ((r.getD 4 (.int 0)).r) ((r.getD 5 (.int 0)).r)),by
  rfl,by
  trivial,?_⟩
 refine ⟨λ c9=>?_,λ c9=>?_⟩
 ·try simp only [nrm] at c9
  exfalso;simp_all;done
 try simp only [nrm] at c9
 refine ⟨(RatD.mk ((r.getD 6 (.int 0)).b) ((r.getD 7 (.int 0)).r) ((r.getD 8 (.int 0)).r)),by
  rfl,by
  trivial,?_⟩
 refine ⟨λ c14=>?_,λ c14=>?_⟩
 ·try simp only [nrm] at c14
  exfalso;simp_all;done
 try simp only [nrm] at c14
 refine ⟨(RatD.mk ((r.getD 9 (.int 0)).b) ((r.getD 10 (.int 0)).r) ((r.getD 11 (.int 0)).r)),by
  rfl,by
  trivial,?_⟩
 refine ⟨λ c19=>?_,λ c19=>?_⟩
 ·try simp only [nrm] at c19
  exfalso;simp_all;done
 try simp only [nrm] at c19
 refine ⟨(RatD.mk ((r.getD 12 (.int 0)).b) ((r.getD 13 (.int 0)).r) ((r.getD 14 (.int 0)).r)),by
  rfl,by
  trivial,?_⟩
 refine ⟨λ c24=>?_,λ c24=>?_⟩
 ·try simp only [nrm] at c24
  exfalso;simp_all;done
 try simp only [nrm] at c24
 refine ⟨(RatD.mk ((r.getD 15 (.int 0)).b) ((r.getD 16 (.int 0)).r) ((r.getD 17 (.int 0)).r)),by
  rfl,by
  trivial,?_⟩
 refine ⟨λ c29=>?_,λ c29=>?_⟩
 ·try simp only [nrm] at c29
  exfalso;simp_all;done
 try simp only [nrm] at c29
 exact rfl
def szDoorS_con:Con:={ ι:=(List (List Dat))×Int,pre:=λ i=>Dat.has (.sl 56 [.int,.int]) (.sl i.1)/\0<=i.2/\i.2<=1048576,args:=λ i=>[.one (.sl 101 [.int,.int] i.1),.one (.im (.int .i64 i.2))],res:=λ i=>⟨false,[none],[.im (Value.int .i64 (szR (i.1.length+szRows i.1) i.2))]⟩ }
theorem szDoorS_ok:szDoorS_con.Ok Try.prog 17:=by
 refine fok (X:=⟨tt,[],[],12,[]⟩) mixed tt_ok (CTok.nil _) Try.func17 (λ _=>[]) ?_
 rintro ⟨l,n⟩ hpre
 have hpre:Dat.has (.sl 56 [.int,.int]) (.sl l)/\0<=n/\n<=1048576:=hpre
 refine by_nf (q:=((decide ((wR (n-(nI l.length)))<(0:Int)))=true->((vI (-1:Int)=vI (szR (l.length+szRows l) n))))/\((decide ((wR (n-(nI l.length)))<(0:Int)))=false->((vI (wR (n-(nI l.length)))=vI (szR (l.length+szRows l) n))))) (by kernel_rfl) ?_
 delta vI wR nI
 obtain ⟨hh,h0,h1⟩:=hpre
 have hz:=has_leaf (by decide) hh
 simp only [Dat.has] at hh
 obtain ⟨hl,-⟩:=hh
 have hw:IntKind.i64.wrap (n-(l.length:Int))=n-l.length:=wrap64 (by omega) (by omega)
 refine ⟨λ c1=>?_,λ c1=>?_⟩
 ·try simp only [nrm] at c1
  refine vint ?_;try rw [hw] at *;grind [szR]
 try simp only [nrm] at c1
 refine vint ?_;try rw [hw] at *;grind [szR]
def szWallS_con:Con:={ ι:=(List (List Dat))×Int,pre:=λ i=>Dat.has (.sl 87 [.bool,.sl 3 [.int],.sl 3 [.int],.bool,.sl 3 [.int],.sl 3 [.int],.bool,.sl 3 [.int],.sl 3 [.int]]) (.sl i.1)/\0<=i.2/\i.2<=1048576,args:=λ i=>[.one (.sl 87 [.bool,.sl 3 [.int],.sl 3 [.int],.bool,.sl 3 [.int],.sl 3 [.int],.bool,.sl 3 [.int],.sl 3 [.int]] i.1),.one (.im (.int .i64 i.2))],res:=λ i=>⟨false,[none],[.im (Value.int .i64 (szR (i.1.length+szRows i.1) i.2))]⟩ }
theorem szWallS_ok:szWallS_con.Ok Try.prog 16:=by
 refine fok (X:=⟨tt,[(42,szWall_con)],[],27,[]⟩) mixed tt_ok (CTok.cons szWall_ok (CTok.nil _)) Try.func16 (λ (i:(List (List Dat))×Int)=>[(5,.mk 2 (Nat×Int) (λ x1=>{ tm:=[(0,.one (.one (.ext 1))),(4,.one (.one (.im (Value.int .i64 (0:Int))))),(5,.one (.one (.im (Value.int .i64 (x1.1:Int))))),(1,.one (.one (.im (Value.int .i64 x1.2))))],en:=[(1,.view 87 [.bool,.sl 3 [.int],.sl 3 [.int],.bool,.sl 3 [.int],.sl 3 [.int],.bool,.sl 3 [.int],.sl 3 [.int]] i.1 [])] }) (λ x1=>x1.1<=i.1.length/\0<=x1.2/\x1.2+i.1.length+szRows (i.1.take x1.1)=i.2) (λ x1=>i.1.length-x1.1) (λ _=>[]))]) ?_
 rintro ⟨l,n⟩ hpre
 have hpre:Dat.has (.sl 87 [.bool,.sl 3 [.int],.sl 3 [.int],.bool,.sl 3 [.int],.sl 3 [.int],.bool,.sl 3 [.int],.sl 3 [.int]]) (.sl l)/\0<=n/\n<=1048576:=hpre
 refine by_nf (q:=((decide ((wR (n-(nI l.length)))<(0:Int)))=true->((vI (-1:Int)=vI (szR (l.length+szRows l) n))))/\((decide ((wR (n-(nI l.length)))<(0:Int)))=false->((∃ x1:Nat×Int,(x1.1<=l.length/\0<=x1.2/\x1.2+l.length+szRows (l.take x1.1)=n)/\((rf (vI (0:Int)))/\(vI (0:Int)=vI (x1.1:Int))/\(vI (wR (n-(nI l.length)))=vI x1.2)/\(rf (l))))/\∀ x1:Nat×Int,(x1.1<=l.length/\0<=x1.2/\x1.2+l.length+szRows (l.take x1.1)=n)->(((decide ((x1.1:Int)<(nI l.length)))=true->((0<=(x1.1:Int)/\(x1.1:Int)<(l.length:Int))/\((x1.1<l.length)/\(∃ i1:(List Dat)×Int,[DA.agg [cB ((((l.getD x1.1 []).getD 0 (.int 0))).b),cS ((((l.getD x1.1 []).getD 1 (.int 0))).r),cS ((((l.getD x1.1 []).getD 2 (.int 0))).r),cB ((((l.getD x1.1 []).getD 3 (.int 0))).b),cS ((((l.getD x1.1 []).getD 4 (.int 0))).r),cS ((((l.getD x1.1 []).getD 5 (.int 0))).r),cB ((((l.getD x1.1 []).getD 6 (.int 0))).b),cS ((((l.getD x1.1 []).getD 7 (.int 0))).r),cS ((((l.getD x1.1 []).getD 8 (.int 0))).r)],DA.one (cI x1.2)]=szWall_con.args i1/\szWall_con.pre i1/\(((decide ((szR (szRow i1.1) i1.2)<(0:Int)))=true->((vI (-1:Int)=vI (szR (l.length+szRows l) n))))/\((decide ((szR (szRow i1.1) i1.2)<(0:Int)))=false->(∃ y2:Nat×Int,(y2.1<=l.length/\0<=y2.2/\y2.2+l.length+szRows (l.take y2.1)=n)/\(l.length-y2.1<l.length-x1.1)/\((rf (vI (0:Int)))/\(vI (wR ((x1.1:Int)+(1:Int)))=vI (y2.1:Int))/\(vI (szR (szRow i1.1) i1.2)=vI y2.2)/\(rf (l))))))))))/\((decide ((x1.1:Int)<(nI l.length)))=false->((vI x1.2=vI (szR (l.length+szRows l) n)))))))) (by kernel_rfl) ?_
 delta vI wR nI
 obtain ⟨hh,h0,h1⟩:=hpre
 have hh2:=has_rows hh
 have hl:=has_len hh
 have hw:IntKind.i64.wrap (n-(l.length:Int))=n-l.length:=wrap64 (by omega) (by omega)
 refine ⟨λ c1=>?_,λ c1=>?_⟩
 ·try simp only [nrm] at c1
  refine vint ?_;try rw [hw] at *;grind [szR]
 try simp only [nrm] at c1
 refine ⟨⟨(0,n-l.length),by
  rw [hw] at c1;simp [szRows];omega,?_⟩,?_⟩
 ·refine ⟨rfl,rfl,?_,rfl⟩
  exact vint hw
 rintro ⟨k,m⟩ hki3
 have hki3:k<=l.length/\0<=m/\m+l.length+szRows (l.take k)=n:=hki3
 have hle:=szRows_take_le l k
 refine And.symm ⟨λ c9=>?_,λ c9=>?_⟩
 ·replace c9:(decide ((k:Int)<((l.length:Nat):Int)))=false:=c9
  try simp only [nrm] at c9
  obtain rfl:k=l.length:=by omega
  rw [List.take_length] at hki3
  refine vint ?_;try rw [hw] at *;grind [szR]
 replace c9:(decide ((k:Int)<((l.length:Nat):Int)))=true:=c9
 try simp only [nrm] at c9
 refine ao (a:=0<=(k:Int)/\(k:Int)<(l.length:Int)) (by omega) λ o10=>?_
 refine ao (a:=k<l.length) (by omega) λ o11=>?_
 refine ⟨(l.getD k [],m),by
  rfl,by
  show hasRow [.bool,.sl 3 [.int],.sl 3 [.int],.bool,.sl 3 [.int],.sl 3 [.int],.bool,.sl 3 [.int],.sl 3 [.int]] (l.getD k [])/\0<=m/\m<=1048576
  refine ⟨?_,by omega,by omega⟩
  have:=hh2 k (by omega)
  exact this,?_⟩
 have hle:=szRows_take_le l (k+1)
 have hts:=szRows_take l k (by omega)
 have hrow:=hh2 k (by omega)
 refine ⟨λ c15=>?_,λ c15=>?_⟩
 ·replace c15:(decide ((szR (szRow (l.getD k [])) m)<(0:Int)))=true:=c15
  try simp only [nrm] at c15
  refine vint ?_;try rw [hw] at *;grind [szR]
 replace c15:(decide ((szR (szRow (l.getD k [])) m)<(0:Int)))=false:=c15
 try simp only [nrm] at c15
 refine ⟨(k+1,szR (szRow (l.getD k [])) m),by
  unfold szR at *;grind,by
  omega,?_⟩
 refine ⟨rfl,?_,rfl,rfl⟩
 exact vint (wrap64 (by omega) (by omega))
def szCellS_con:Con:={ ι:=(List (List Dat))×Int,pre:=λ i=>Dat.has (.sl 84 [.bool,.sl 3 [.int],.sl 3 [.int],.bool,.sl 3 [.int],.sl 3 [.int],.bool,.sl 3 [.int],.sl 3 [.int],.bool,.sl 3 [.int],.sl 3 [.int],.bool,.sl 3 [.int],.sl 3 [.int],.bool,.sl 3 [.int],.sl 3 [.int]]) (.sl i.1)/\0<=i.2/\i.2<=1048576,args:=λ i=>[.one (.sl 84 [.bool,.sl 3 [.int],.sl 3 [.int],.bool,.sl 3 [.int],.sl 3 [.int],.bool,.sl 3 [.int],.sl 3 [.int],.bool,.sl 3 [.int],.sl 3 [.int],.bool,.sl 3 [.int],.sl 3 [.int],.bool,.sl 3 [.int],.sl 3 [.int]] i.1),.one (.im (.int .i64 i.2))],res:=λ i=>⟨false,[none],[.im (Value.int .i64 (szR (i.1.length+szRows i.1) i.2))]⟩ }
theorem szCellS_ok:szCellS_con.Ok Try.prog 15:=by
 refine fok (X:=⟨tt,[(41,szCell_con)],[],27,[]⟩) mixed tt_ok (CTok.cons szCell_ok (CTok.nil _)) Try.func15 (λ (i:(List (List Dat))×Int)=>[(5,.mk 2 (Nat×Int) (λ x1=>{ tm:=[(0,.one (.one (.ext 1))),(4,.one (.one (.im (Value.int .i64 (0:Int))))),(5,.one (.one (.im (Value.int .i64 (x1.1:Int))))),(1,.one (.one (.im (Value.int .i64 x1.2))))],en:=[(1,.view 84 [.bool,.sl 3 [.int],.sl 3 [.int],.bool,.sl 3 [.int],.sl 3 [.int],.bool,.sl 3 [.int],.sl 3 [.int],.bool,.sl 3 [.int],.sl 3 [.int],.bool,.sl 3 [.int],.sl 3 [.int],.bool,.sl 3 [.int],.sl 3 [.int]] i.1 [])] }) (λ x1=>x1.1<=i.1.length/\0<=x1.2/\x1.2+i.1.length+szRows (i.1.take x1.1)=i.2) (λ x1=>i.1.length-x1.1) (λ _=>[]))]) ?_
 rintro ⟨l,n⟩ hpre
 have hpre:Dat.has (.sl 84 [.bool,.sl 3 [.int],.sl 3 [.int],.bool,.sl 3 [.int],.sl 3 [.int],.bool,.sl 3 [.int],.sl 3 [.int],.bool,.sl 3 [.int],.sl 3 [.int],.bool,.sl 3 [.int],.sl 3 [.int],.bool,.sl 3 [.int],.sl 3 [.int]]) (.sl l)/\0<=n/\n<=1048576:=hpre
 refine by_nf (q:=((decide ((wR (n-(nI l.length)))<(0:Int)))=true->((vI (-1:Int)=vI (szR (l.length+szRows l) n))))/\((decide ((wR (n-(nI l.length)))<(0:Int)))=false->((∃ x1:Nat×Int,(x1.1<=l.length/\0<=x1.2/\x1.2+l.length+szRows (l.take x1.1)=n)/\((rf (vI (0:Int)))/\(vI (0:Int)=vI (x1.1:Int))/\(vI (wR (n-(nI l.length)))=vI x1.2)/\(rf (l))))/\∀ x1:Nat×Int,(x1.1<=l.length/\0<=x1.2/\x1.2+l.length+szRows (l.take x1.1)=n)->(((decide ((x1.1:Int)<(nI l.length)))=true->((0<=(x1.1:Int)/\(x1.1:Int)<(l.length:Int))/\((x1.1<l.length)/\(∃ i1:(List Dat)×Int,[DA.agg [cB ((((l.getD x1.1 []).getD 0 (.int 0))).b),cS ((((l.getD x1.1 []).getD 1 (.int 0))).r),cS ((((l.getD x1.1 []).getD 2 (.int 0))).r),cB ((((l.getD x1.1 []).getD 3 (.int 0))).b),cS ((((l.getD x1.1 []).getD 4 (.int 0))).r),cS ((((l.getD x1.1 []).getD 5 (.int 0))).r),cB ((((l.getD x1.1 []).getD 6 (.int 0))).b),cS ((((l.getD x1.1 []).getD 7 (.int 0))).r),cS ((((l.getD x1.1 []).getD 8 (.int 0))).r),cB ((((l.getD x1.1 []).getD 9 (.int 0))).b),cS ((((l.getD x1.1 []).getD 10 (.int 0))).r),cS ((((l.getD x1.1 []).getD 11 (.int 0))).r),cB ((((l.getD x1.1 []).getD 12 (.int 0))).b),cS ((((l.getD x1.1 []).getD 13 (.int 0))).r),cS ((((l.getD x1.1 []).getD 14 (.int 0))).r),cB ((((l.getD x1.1 []).getD 15 (.int 0))).b),cS ((((l.getD x1.1 []).getD 16 (.int 0))).r),cS ((((l.getD x1.1 []).getD 17 (.int 0))).r)],DA.one (cI x1.2)]=szCell_con.args i1/\szCell_con.pre i1/\(((decide ((szR (szRow i1.1) i1.2)<(0:Int)))=true->((vI (-1:Int)=vI (szR (l.length+szRows l) n))))/\((decide ((szR (szRow i1.1) i1.2)<(0:Int)))=false->(∃ y2:Nat×Int,(y2.1<=l.length/\0<=y2.2/\y2.2+l.length+szRows (l.take y2.1)=n)/\(l.length-y2.1<l.length-x1.1)/\((rf (vI (0:Int)))/\(vI (wR ((x1.1:Int)+(1:Int)))=vI (y2.1:Int))/\(vI (szR (szRow i1.1) i1.2)=vI y2.2)/\(rf (l))))))))))/\((decide ((x1.1:Int)<(nI l.length)))=false->((vI x1.2=vI (szR (l.length+szRows l) n)))))))) (by kernel_rfl) ?_
 delta vI wR nI
 obtain ⟨hh,h0,h1⟩:=hpre
 have hh2:=has_rows hh
 have hl:=has_len hh
 have hw:IntKind.i64.wrap (n-(l.length:Int))=n-l.length:=wrap64 (by omega) (by omega)
 refine ⟨λ c1=>?_,λ c1=>?_⟩
 ·try simp only [nrm] at c1
  refine vint ?_;try rw [hw] at *;grind [szR]
 try simp only [nrm] at c1
 refine ⟨⟨(0,n-l.length),by
  rw [hw] at c1;simp [szRows];omega,?_⟩,?_⟩
 ·refine ⟨rfl,rfl,?_,rfl⟩
  exact vint hw
 rintro ⟨k,m⟩ hki3
 have hki3:k<=l.length/\0<=m/\m+l.length+szRows (l.take k)=n:=hki3
 have hle:=szRows_take_le l k
 refine And.symm ⟨λ c9=>?_,λ c9=>?_⟩
 ·replace c9:(decide ((k:Int)<((l.length:Nat):Int)))=false:=c9
  try simp only [nrm] at c9
  obtain rfl:k=l.length:=by omega
  rw [List.take_length] at hki3
  refine vint ?_;try rw [hw] at *;grind [szR]
 replace c9:(decide ((k:Int)<((l.length:Nat):Int)))=true:=c9
 try simp only [nrm] at c9
 refine ao (a:=0<=(k:Int)/\(k:Int)<(l.length:Int)) (by omega) λ o10=>?_
 refine ao (a:=k<l.length) (by omega) λ o11=>?_
 refine ⟨(l.getD k [],m),by
  rfl,by
  try dsimp only [szCell_con]
  refine ⟨?_,by omega,by omega⟩
  have:=hh2 k (by omega)
  exact this,?_⟩
 have hle:=szRows_take_le l (k+1)
 have hts:=szRows_take l k (by omega)
 have hrow:=hh2 k (by omega)
 refine ⟨λ c15=>?_,λ c15=>?_⟩
 ·replace c15:(decide ((szR (szRow (l.getD k [])) m)<(0:Int)))=true:=c15
  try simp only [nrm] at c15
  refine vint ?_;try rw [hw] at *;grind [szR]
 replace c15:(decide ((szR (szRow (l.getD k [])) m)<(0:Int)))=false:=c15
 try simp only [nrm] at c15
 refine ⟨(k+1,szR (szRow (l.getD k [])) m),by
  unfold szR at *;grind,by
  omega,?_⟩
 refine ⟨rfl,?_,rfl,rfl⟩
 exact vint (wrap64 (by omega) (by omega))
def toDoorS_con:Con:={ ι:=(List (List Dat)),pre:=λ i=>Dat.has (.sl 101 [.int,.int]) (.sl i)/\i.length+szRows i<=1048576,args:=λ i=>[.one (.sl 101 [.int,.int] i)],res:=λ i=>⟨false,[none],[.own 56 [.int,.int] i]⟩ }
theorem toDoorS_ok:toDoorS_con.Ok Try.prog 25:=by
 refine fok (X:=⟨tt,[(47,toDoor_con)],[],23,[]⟩) mixed tt_ok (CTok.cons toDoor_ok (CTok.nil _)) Try.func25 (λ (i:(List (List Dat)))=>[(3,.mk 3 (Nat) (λ x1=>{ tm:=[(0,.one (.one (.ext 1))),(3,.one (.one (.ext 2))),(4,.one (.one (.im (Value.int .i64 ((x1:Nat):Int)))))],en:=[(1,.view 101 [.int,.int] i []),(2,.own 56 [.int,.int] (i.take x1++List.replicate (i.length-x1) ([Dat.int (0:Int),Dat.int (0:Int)]:List Dat)))] }) (λ x1=>x1<=i.length) (λ x1=>i.length-x1) (λ _=>[]))]) ?_
 intro (l:List (List Dat)) hpre
 have hpre:Dat.has (.sl 101 [.int,.int]) (.sl l)/\l.length+szRows l<=1048576:=hpre
 refine by_nf (q:=(0<=(nI l.length))/\(((nI l.length)<=(nI l.length))/\(((nI l.length)<=1073741824)/\((∃ x1:Nat,(x1<=l.length)/\((vI (0:Int)=vI (nI x1))/\(rf (l))/\((List.replicate l.length [Dat.int (0:Int),Dat.int (0:Int)])=(l.take x1++List.replicate (l.length-x1) ([Dat.int (0:Int),Dat.int (0:Int)]:List Dat)))))/\∀ x1:Nat,(x1<=l.length)->(((decide ((nI x1)<(nI l.length)))=true->((0<=(nI x1)/\(nI x1)<(l.length:Int))/\((x1<l.length)/\(∃ i1:(List Dat),[DA.agg [cI ((((l.getD x1 []).getD 0 (.int 0))).n),cI ((((l.getD x1 []).getD 1 (.int 0))).n)]]=toDoor_con.args i1/\toDoor_con.pre i1/\((0<=(nI x1)/\(nI x1)<((l.take x1++List.replicate (l.length-x1) ([Dat.int (0:Int),Dat.int (0:Int)]:List Dat)).length:Int))/\((x1<(l.take x1++List.replicate (l.length-x1) ([Dat.int (0:Int),Dat.int (0:Int)]:List Dat)).length)/\(∃ y2:Nat,(y2<=l.length)/\(l.length-y2<l.length-x1)/\((vI (wR ((nI x1)+(1:Int)))=vI (nI y2))/\(rf (l))/\(((l.take x1++List.replicate (l.length-x1) ([Dat.int (0:Int),Dat.int (0:Int)]:List Dat)).set x1 [Dat.int ((i1.getD 0 (.int 0)).n),Dat.int ((i1.getD 1 (.int 0)).n)])=(l.take y2++List.replicate (l.length-y2) ([Dat.int (0:Int),Dat.int (0:Int)]:List Dat)))))))))))/\((decide ((nI x1)<(nI l.length)))=false->(((l.take x1++List.replicate (l.length-x1) ([Dat.int (0:Int),Dat.int (0:Int)]:List Dat))=l)))))))) (by kernel_rfl) ?_
 delta vI wR nI
 have hh2:=has_rows hpre.1
 have hl:=hpre.2
 refine ao (by omega) λ o1=>?_
 refine ao (by omega) λ o2=>?_
 refine ao (by omega) λ o3=>?_
 refine ⟨⟨0,by
  omega,?_⟩,?_⟩
 ·refine ⟨?_,rfl,?_⟩
  ·rfl
  rfl
 intro (k:Nat) hki4
 have hki4:k<=l.length:=hki4
 refine And.symm ⟨λ c9=>?_,λ c9=>?_⟩
 ·try simp only [nrm] at c9
  exact set_all (by omega)
 try simp only [nrm] at c9
 refine ao (by omega) λ o10=>?_
 refine ao (by omega) λ o11=>?_
 refine ⟨(l.getD k []),by
  rfl,by
  show hasRow [.int,.int] (l.getD k [])/\szRow (l.getD k [])<=1048576
  have hrow:=hh2 k (by omega)
  have hs:=szRow_getD_le (l:=l) (k:=k) (by omega)
  exact ⟨hrow,by omega⟩,?_⟩
 refine ao (by rw [set_len (by omega)];omega) λ o15=>?_
 refine ao (by omega) λ o16=>?_
 refine ⟨k+1,by
  trivial,by
  omega,?_⟩
 refine ⟨?_,rfl,?_⟩
 ·exact vint (wrap64 (by omega) (by omega))
 exact set_next (by omega) (etaDoor (hh2 k (by omega)))
def eqDoorS_con:Con:={ ι:=(List (List Dat)),pre:=λ i=>i.length<=9223372036854775807,args:=λ i=>[.one (.sl 56 [.int,.int] i),.one (.sl 56 [.int,.int] i)],res:=λ i=>⟨false,[none],[.im (Value.bool true)]⟩ }
theorem eqDoorS_ok:eqDoorS_con.Ok Try.prog 35:=by
 refine fok (X:=⟨tt,[(56,eqDoor_con)],[],27,[]⟩) mixed tt_ok (CTok.cons eqDoor_ok (CTok.nil _)) Try.func35 (λ (i:(List (List Dat)))=>[(4,.mk 3 (Nat) (λ x1=>{ tm:=[(0,.one (.one (.ext 1))),(1,.one (.one (.ext 2))),(5,.one (.one (.im (Value.int .i64 ((x1:Nat):Int)))))],en:=[(1,.view 56 [.int,.int] i []),(2,.view 56 [.int,.int] i [])] }) (λ x1=>x1<=i.length) (λ x1=>i.length-x1) (λ _=>[]))]) ?_
 intro (l:List (List Dat)) hpre
 have hpre:l.length<=9223372036854775807:=hpre
 refine by_nf (q:=(((nI l.length) != (nI l.length))=true->((Value.bool false=Value.bool true)))/\(((nI l.length) != (nI l.length))=false->((∃ x1:Nat,(x1<=l.length)/\((vI (0:Int)=vI (nI x1))/\(rf (l))/\(rf (l))))/\∀ x1:Nat,(x1<=l.length)->(((decide ((nI x1)<(nI l.length)))=true->((0<=(nI x1)/\(nI x1)<(l.length:Int))/\((x1<l.length)/\((0<=(nI x1)/\(nI x1)<(l.length:Int))/\((x1<l.length)/\(∃ i1:(List Dat),[DA.agg [cI ((((l.getD x1 []).getD 0 (.int 0))).n),cI ((((l.getD x1 []).getD 1 (.int 0))).n)],DA.agg [cI ((((l.getD x1 []).getD 0 (.int 0))).n),cI ((((l.getD x1 []).getD 1 (.int 0))).n)]]=eqDoor_con.args i1/\eqDoor_con.pre i1/\(((!true)=true->((Value.bool false=Value.bool true)))/\((!true)=false->(∃ y2:Nat,(y2<=l.length)/\(l.length-y2<l.length-x1)/\((vI (wR ((nI x1)+(1:Int)))=vI (nI y2))/\(rf (l))/\(rf (l))))))))))))/\((decide ((nI x1)<(nI l.length)))=false->((Value.bool true=Value.bool true))))))) (by kernel_rfl) ?_
 delta vI wR nI
 refine ⟨λ c1=>?_,λ c1=>?_⟩
 ·try simp only [nrm] at c1
  exfalso;simp_all;done
 try simp only [nrm] at c1
 refine ⟨⟨0,by
  omega,?_⟩,?_⟩
 ·refine ⟨?_,rfl,rfl⟩
  rfl
 intro (k:Nat) hki3
 have hki3:k<=l.length:=hki3
 refine And.symm ⟨λ c8=>?_,λ c8=>?_⟩
 ·try simp only [nrm] at c8
  exact rfl
 try simp only [nrm] at c8
 refine ao (by omega) λ o9=>?_
 refine ao (by omega) λ o10=>?_
 refine ao (by omega) λ o11=>?_
 refine ao (by omega) λ o12=>?_
 refine ⟨(l.getD k []),by
  rfl,by
  trivial,?_⟩
 refine ⟨λ c16=>?_,λ c16=>?_⟩
 ·try simp only [nrm] at c16
  exfalso;simp_all;done
 try simp only [nrm] at c16
 refine ⟨k+1,by
  trivial,by
  omega,?_⟩
 refine ⟨?_,rfl,rfl⟩
 exact vint (wrap64 (by omega) (by omega))
def toWallS_con:Con:={ ι:=(List (List Dat)),pre:=λ i=>Dat.has (.sl 87 [.bool,.sl 3 [.int],.sl 3 [.int],.bool,.sl 3 [.int],.sl 3 [.int],.bool,.sl 3 [.int],.sl 3 [.int]]) (.sl i)/\i.length+szRows i<=1048576,args:=λ i=>[.one (.sl 87 [.bool,.sl 3 [.int],.sl 3 [.int],.bool,.sl 3 [.int],.sl 3 [.int],.bool,.sl 3 [.int],.sl 3 [.int]] i)],res:=λ i=>⟨false,[none],[.own 98 [.bool,.sl 3 [.int],.sl 3 [.int],.bool,.sl 3 [.int],.sl 3 [.int],.bool,.sl 3 [.int],.sl 3 [.int]] i]⟩ }
theorem toWallS_ok:toWallS_con.Ok Try.prog 24:=by
 refine fok (X:=⟨tt,[(46,toWall_con)],[],23,[]⟩) mixed tt_ok (CTok.cons toWall_ok (CTok.nil _)) Try.func24 (λ (i:(List (List Dat)))=>[(3,.mk 3 (Nat) (λ x1=>{ tm:=[(0,.one (.one (.ext 1))),(3,.one (.one (.ext 2))),(4,.one (.one (.im (Value.int .i64 ((x1:Nat):Int)))))],en:=[(1,.view 87 [.bool,.sl 3 [.int],.sl 3 [.int],.bool,.sl 3 [.int],.sl 3 [.int],.bool,.sl 3 [.int],.sl 3 [.int]] i []),(2,.own 98 [.bool,.sl 3 [.int],.sl 3 [.int],.bool,.sl 3 [.int],.sl 3 [.int],.bool,.sl 3 [.int],.sl 3 [.int]] (i.take x1++List.replicate (i.length-x1) ([Dat.bool false,Dat.sl ([]:List (List Dat)),Dat.sl ([]:List (List Dat)),Dat.bool false,Dat.sl ([]:List (List Dat)),Dat.sl ([]:List (List Dat)),Dat.bool false,Dat.sl ([]:List (List Dat)),Dat.sl ([]:List (List Dat))]:List Dat)))] }) (λ x1=>x1<=i.length) (λ x1=>i.length-x1) (λ _=>[]))]) ?_
 intro (l:List (List Dat)) hpre
 have hpre:Dat.has (.sl 87 [.bool,.sl 3 [.int],.sl 3 [.int],.bool,.sl 3 [.int],.sl 3 [.int],.bool,.sl 3 [.int],.sl 3 [.int]]) (.sl l)/\l.length+szRows l<=1048576:=hpre
 refine by_nf (q:=(0<=(nI l.length))/\(((nI l.length)<=(nI l.length))/\(((nI l.length)<=1073741824)/\((∃ x1:Nat,(x1<=l.length)/\((vI (0:Int)=vI (nI x1))/\(rf (l))/\((List.replicate l.length [Dat.bool false,Dat.sl [],Dat.sl [],Dat.bool false,Dat.sl [],Dat.sl [],Dat.bool false,Dat.sl [],Dat.sl []])=(l.take x1++List.replicate (l.length-x1) ([Dat.bool false,Dat.sl ([]:List (List Dat)),Dat.sl ([]:List (List Dat)),Dat.bool false,Dat.sl ([]:List (List Dat)),Dat.sl ([]:List (List Dat)),Dat.bool false,Dat.sl ([]:List (List Dat)),Dat.sl ([]:List (List Dat))]:List Dat)))))/\∀ x1:Nat,(x1<=l.length)->(((decide ((nI x1)<(nI l.length)))=true->((0<=(nI x1)/\(nI x1)<(l.length:Int))/\((x1<l.length)/\(∃ i1:(List Dat),[DA.agg [cB ((((l.getD x1 []).getD 0 (.int 0))).b),cS ((((l.getD x1 []).getD 1 (.int 0))).r),cS ((((l.getD x1 []).getD 2 (.int 0))).r),cB ((((l.getD x1 []).getD 3 (.int 0))).b),cS ((((l.getD x1 []).getD 4 (.int 0))).r),cS ((((l.getD x1 []).getD 5 (.int 0))).r),cB ((((l.getD x1 []).getD 6 (.int 0))).b),cS ((((l.getD x1 []).getD 7 (.int 0))).r),cS ((((l.getD x1 []).getD 8 (.int 0))).r)]]=toWall_con.args i1/\toWall_con.pre i1/\((0<=(nI x1)/\(nI x1)<((l.take x1++List.replicate (l.length-x1) ([Dat.bool false,Dat.sl ([]:List (List Dat)),Dat.sl ([]:List (List Dat)),Dat.bool false,Dat.sl ([]:List (List Dat)),Dat.sl ([]:List (List Dat)),Dat.bool false,Dat.sl ([]:List (List Dat)),Dat.sl ([]:List (List Dat))]:List Dat)).length:Int))/\((x1<(l.take x1++List.replicate (l.length-x1) ([Dat.bool false,Dat.sl ([]:List (List Dat)),Dat.sl ([]:List (List Dat)),Dat.bool false,Dat.sl ([]:List (List Dat)),Dat.sl ([]:List (List Dat)),Dat.bool false,Dat.sl ([]:List (List Dat)),Dat.sl ([]:List (List Dat))]:List Dat)).length)/\(∃ y2:Nat,(y2<=l.length)/\(l.length-y2<l.length-x1)/\((vI (wR ((nI x1)+(1:Int)))=vI (nI y2))/\(rf (l))/\(((l.take x1++List.replicate (l.length-x1) ([Dat.bool false,Dat.sl ([]:List (List Dat)),Dat.sl ([]:List (List Dat)),Dat.bool false,Dat.sl ([]:List (List Dat)),Dat.sl ([]:List (List Dat)),Dat.bool false,Dat.sl ([]:List (List Dat)),Dat.sl ([]:List (List Dat))]:List Dat)).set x1 [Dat.bool ((i1.getD 0 (.int 0)).b),Dat.sl ((i1.getD 1 (.int 0)).r),Dat.sl ((i1.getD 2 (.int 0)).r),Dat.bool ((i1.getD 3 (.int 0)).b),Dat.sl ((i1.getD 4 (.int 0)).r),Dat.sl ((i1.getD 5 (.int 0)).r),Dat.bool ((i1.getD 6 (.int 0)).b),Dat.sl ((i1.getD 7 (.int 0)).r),Dat.sl ((i1.getD 8 (.int 0)).r)])=(l.take y2++List.replicate (l.length-y2) ([Dat.bool false,Dat.sl ([]:List (List Dat)),Dat.sl ([]:List (List Dat)),Dat.bool false,Dat.sl ([]:List (List Dat)),Dat.sl ([]:List (List Dat)),Dat.bool false,Dat.sl ([]:List (List Dat)),Dat.sl ([]:List (List Dat))]:List Dat)))))))))))/\((decide ((nI x1)<(nI l.length)))=false->(((l.take x1++List.replicate (l.length-x1) ([Dat.bool false,Dat.sl ([]:List (List Dat)),Dat.sl ([]:List (List Dat)),Dat.bool false,Dat.sl ([]:List (List Dat)),Dat.sl ([]:List (List Dat)),Dat.bool false,Dat.sl ([]:List (List Dat)),Dat.sl ([]:List (List Dat))]:List Dat))=l)))))))) (by kernel_rfl) ?_
 delta vI wR nI
 have hh2:=has_rows hpre.1
 have hl:=hpre.2
 refine ao (by omega) λ o1=>?_
 refine ao (by omega) λ o2=>?_
 refine ao (by omega) λ o3=>?_
 refine ⟨⟨0,by
  omega,?_⟩,?_⟩
 ·refine ⟨?_,rfl,?_⟩
  ·rfl
  rfl
 intro (k:Nat) hki4
 have hki4:k<=l.length:=hki4
 refine And.symm ⟨λ c9=>?_,λ c9=>?_⟩
 ·try simp only [nrm] at c9
  exact set_all (by omega)
 try simp only [nrm] at c9
 refine ao (by omega) λ o10=>?_
 refine ao (by omega) λ o11=>?_
 refine ⟨(l.getD k []),by
  rfl,by
  show hasRow [.bool,.sl 3 [.int],.sl 3 [.int],.bool,.sl 3 [.int],.sl 3 [.int],.bool,.sl 3 [.int],.sl 3 [.int]] (l.getD k [])/\szRow (l.getD k [])<=1048576
  have hrow:=hh2 k (by omega)
  have hs:=szRow_getD_le (l:=l) (k:=k) (by omega)
  exact ⟨hrow,by omega⟩,?_⟩
 refine ao (by rw [set_len (by omega)];omega) λ o15=>?_
 refine ao (by omega) λ o16=>?_
 refine ⟨k+1,by
  trivial,by
  omega,?_⟩
 refine ⟨?_,rfl,?_⟩
 ·exact vint (wrap64 (by omega) (by omega))
 exact set_next (by omega) (etaWall (hh2 k (by omega)))
def eqWallS_con:Con:={ ι:=(List (List Dat)),pre:=λ i=>i.length<=9223372036854775807,args:=λ i=>[.one (.sl 98 [.bool,.sl 3 [.int],.sl 3 [.int],.bool,.sl 3 [.int],.sl 3 [.int],.bool,.sl 3 [.int],.sl 3 [.int]] i),.one (.sl 98 [.bool,.sl 3 [.int],.sl 3 [.int],.bool,.sl 3 [.int],.sl 3 [.int],.bool,.sl 3 [.int],.sl 3 [.int]] i)],res:=λ i=>⟨false,[none],[.im (Value.bool true)]⟩ }
theorem eqWallS_ok:eqWallS_con.Ok Try.prog 34:=by
 refine fok (X:=⟨tt,[(55,eqWall_con)],[],27,[]⟩) mixed tt_ok (CTok.cons eqWall_ok (CTok.nil _)) Try.func34 (λ (i:(List (List Dat)))=>[(4,.mk 3 (Nat) (λ x1=>{ tm:=[(0,.one (.one (.ext 1))),(1,.one (.one (.ext 2))),(5,.one (.one (.im (Value.int .i64 ((x1:Nat):Int)))))],en:=[(1,.view 98 [.bool,.sl 3 [.int],.sl 3 [.int],.bool,.sl 3 [.int],.sl 3 [.int],.bool,.sl 3 [.int],.sl 3 [.int]] i []),(2,.view 98 [.bool,.sl 3 [.int],.sl 3 [.int],.bool,.sl 3 [.int],.sl 3 [.int],.bool,.sl 3 [.int],.sl 3 [.int]] i [])] }) (λ x1=>x1<=i.length) (λ x1=>i.length-x1) (λ _=>[]))]) ?_
 intro (l:List (List Dat)) hpre
 have hpre:l.length<=9223372036854775807:=hpre
 refine by_nf (q:=(((nI l.length) != (nI l.length))=true->((Value.bool false=Value.bool true)))/\(((nI l.length) != (nI l.length))=false->((∃ x1:Nat,(x1<=l.length)/\((vI (0:Int)=vI (nI x1))/\(rf (l))/\(rf (l))))/\∀ x1:Nat,(x1<=l.length)->(((decide ((nI x1)<(nI l.length)))=true->((0<=(nI x1)/\(nI x1)<(l.length:Int))/\((x1<l.length)/\((0<=(nI x1)/\(nI x1)<(l.length:Int))/\((x1<l.length)/\(∃ i1:(List Dat),[DA.agg [cB ((((l.getD x1 []).getD 0 (.int 0))).b),cS ((((l.getD x1 []).getD 1 (.int 0))).r),cS ((((l.getD x1 []).getD 2 (.int 0))).r),cB ((((l.getD x1 []).getD 3 (.int 0))).b),cS ((((l.getD x1 []).getD 4 (.int 0))).r),cS ((((l.getD x1 []).getD 5 (.int 0))).r),cB ((((l.getD x1 []).getD 6 (.int 0))).b),cS ((((l.getD x1 []).getD 7 (.int 0))).r),cS ((((l.getD x1 []).getD 8 (.int 0))).r)],DA.agg [cB ((((l.getD x1 []).getD 0 (.int 0))).b),cS ((((l.getD x1 []).getD 1 (.int 0))).r),cS ((((l.getD x1 []).getD 2 (.int 0))).r),cB ((((l.getD x1 []).getD 3 (.int 0))).b),cS ((((l.getD x1 []).getD 4 (.int 0))).r),cS ((((l.getD x1 []).getD 5 (.int 0))).r),cB ((((l.getD x1 []).getD 6 (.int 0))).b),cS ((((l.getD x1 []).getD 7 (.int 0))).r),cS ((((l.getD x1 []).getD 8 (.int 0))).r)]]=eqWall_con.args i1/\eqWall_con.pre i1/\(((!true)=true->((Value.bool false=Value.bool true)))/\((!true)=false->(∃ y2:Nat,(y2<=l.length)/\(l.length-y2<l.length-x1)/\((vI (wR ((nI x1)+(1:Int)))=vI (nI y2))/\(rf (l))/\(rf (l))))))))))))/\((decide ((nI x1)<(nI l.length)))=false->((Value.bool true=Value.bool true))))))) (by kernel_rfl) ?_
 delta vI wR nI
 refine ⟨λ c1=>?_,λ c1=>?_⟩
 ·try simp only [nrm] at c1
  exfalso;simp_all;done
 try simp only [nrm] at c1
 refine ⟨⟨0,by
  omega,?_⟩,?_⟩
 ·refine ⟨?_,rfl,rfl⟩
  rfl
 intro (k:Nat) hki3
 have hki3:k<=l.length:=hki3
 refine And.symm ⟨λ c8=>?_,λ c8=>?_⟩
 ·try simp only [nrm] at c8
  exact rfl
 try simp only [nrm] at c8
 refine ao (by omega) λ o9=>?_
 refine ao (by omega) λ o10=>?_
 refine ao (by omega) λ o11=>?_
 refine ao (by omega) λ o12=>?_
 refine ⟨(l.getD k []),by
  rfl,by
  trivial,?_⟩
 refine ⟨λ c16=>?_,λ c16=>?_⟩
 ·try simp only [nrm] at c16
  exfalso;simp_all;done
 try simp only [nrm] at c16
 refine ⟨k+1,by
  trivial,by
  omega,?_⟩
 refine ⟨?_,rfl,rfl⟩
 exact vint (wrap64 (by omega) (by omega))
def toCellS_con:Con:={ ι:=(List (List Dat)),pre:=λ i=>Dat.has (.sl 84 [.bool,.sl 3 [.int],.sl 3 [.int],.bool,.sl 3 [.int],.sl 3 [.int],.bool,.sl 3 [.int],.sl 3 [.int],.bool,.sl 3 [.int],.sl 3 [.int],.bool,.sl 3 [.int],.sl 3 [.int],.bool,.sl 3 [.int],.sl 3 [.int]]) (.sl i)/\i.length+szRows i<=1048576,args:=λ i=>[.one (.sl 84 [.bool,.sl 3 [.int],.sl 3 [.int],.bool,.sl 3 [.int],.sl 3 [.int],.bool,.sl 3 [.int],.sl 3 [.int],.bool,.sl 3 [.int],.sl 3 [.int],.bool,.sl 3 [.int],.sl 3 [.int],.bool,.sl 3 [.int],.sl 3 [.int]] i)],res:=λ i=>⟨false,[none],[.own 95 [.bool,.sl 3 [.int],.sl 3 [.int],.bool,.sl 3 [.int],.sl 3 [.int],.bool,.sl 3 [.int],.sl 3 [.int],.bool,.sl 3 [.int],.sl 3 [.int],.bool,.sl 3 [.int],.sl 3 [.int],.bool,.sl 3 [.int],.sl 3 [.int]] i]⟩ }
theorem toCellS_ok:toCellS_con.Ok Try.prog 23:=by
 refine fok (X:=⟨tt,[(45,toCell_con)],[],23,[]⟩) mixed tt_ok (CTok.cons toCell_ok (CTok.nil _)) Try.func23 (λ (i:(List (List Dat)))=>[(3,.mk 3 (Nat) (λ x1=>{ tm:=[(0,.one (.one (.ext 1))),(3,.one (.one (.ext 2))),(4,.one (.one (.im (Value.int .i64 ((x1:Nat):Int)))))],en:=[(1,.view 84 [.bool,.sl 3 [.int],.sl 3 [.int],.bool,.sl 3 [.int],.sl 3 [.int],.bool,.sl 3 [.int],.sl 3 [.int],.bool,.sl 3 [.int],.sl 3 [.int],.bool,.sl 3 [.int],.sl 3 [.int],.bool,.sl 3 [.int],.sl 3 [.int]] i []),(2,.own 95 [.bool,.sl 3 [.int],.sl 3 [.int],.bool,.sl 3 [.int],.sl 3 [.int],.bool,.sl 3 [.int],.sl 3 [.int],.bool,.sl 3 [.int],.sl 3 [.int],.bool,.sl 3 [.int],.sl 3 [.int],.bool,.sl 3 [.int],.sl 3 [.int]] (i.take x1++List.replicate (i.length-x1) ([Dat.bool false,Dat.sl ([]:List (List Dat)),Dat.sl ([]:List (List Dat)),Dat.bool false,Dat.sl ([]:List (List Dat)),Dat.sl ([]:List (List Dat)),Dat.bool false,Dat.sl ([]:List (List Dat)),Dat.sl ([]:List (List Dat)),Dat.bool false,Dat.sl ([]:List (List Dat)),Dat.sl ([]:List (List Dat)),Dat.bool false,Dat.sl ([]:List (List Dat)),Dat.sl ([]:List (List Dat)),Dat.bool false,Dat.sl ([]:List (List Dat)),Dat.sl ([]:List (List Dat))]:List Dat)))] }) (λ x1=>x1<=i.length) (λ x1=>i.length-x1) (λ _=>[]))]) ?_
 intro (l:List (List Dat)) hpre
 have hpre:Dat.has (.sl 84 [.bool,.sl 3 [.int],.sl 3 [.int],.bool,.sl 3 [.int],.sl 3 [.int],.bool,.sl 3 [.int],.sl 3 [.int],.bool,.sl 3 [.int],.sl 3 [.int],.bool,.sl 3 [.int],.sl 3 [.int],.bool,.sl 3 [.int],.sl 3 [.int]]) (.sl l)/\l.length+szRows l<=1048576:=hpre
 refine by_nf (q:=(0<=(nI l.length))/\(((nI l.length)<=(nI l.length))/\(((nI l.length)<=1073741824)/\((∃ x1:Nat,(x1<=l.length)/\((vI (0:Int)=vI (nI x1))/\(rf (l))/\((List.replicate l.length [Dat.bool false,Dat.sl [],Dat.sl [],Dat.bool false,Dat.sl [],Dat.sl [],Dat.bool false,Dat.sl [],Dat.sl [],Dat.bool false,Dat.sl [],Dat.sl [],Dat.bool false,Dat.sl [],Dat.sl [],Dat.bool false,Dat.sl [],Dat.sl []])=(l.take x1++List.replicate (l.length-x1) ([Dat.bool false,Dat.sl ([]:List (List Dat)),Dat.sl ([]:List (List Dat)),Dat.bool false,Dat.sl ([]:List (List Dat)),Dat.sl ([]:List (List Dat)),Dat.bool false,Dat.sl ([]:List (List Dat)),Dat.sl ([]:List (List Dat)),Dat.bool false,Dat.sl ([]:List (List Dat)),Dat.sl ([]:List (List Dat)),Dat.bool false,Dat.sl ([]:List (List Dat)),Dat.sl ([]:List (List Dat)),Dat.bool false,Dat.sl ([]:List (List Dat)),Dat.sl ([]:List (List Dat))]:List Dat)))))/\∀ x1:Nat,(x1<=l.length)->(((decide ((nI x1)<(nI l.length)))=true->((0<=(nI x1)/\(nI x1)<(l.length:Int))/\((x1<l.length)/\(∃ i1:(List Dat),[DA.agg [cB ((((l.getD x1 []).getD 0 (.int 0))).b),cS ((((l.getD x1 []).getD 1 (.int 0))).r),cS ((((l.getD x1 []).getD 2 (.int 0))).r),cB ((((l.getD x1 []).getD 3 (.int 0))).b),cS ((((l.getD x1 []).getD 4 (.int 0))).r),cS ((((l.getD x1 []).getD 5 (.int 0))).r),cB ((((l.getD x1 []).getD 6 (.int 0))).b),cS ((((l.getD x1 []).getD 7 (.int 0))).r),cS ((((l.getD x1 []).getD 8 (.int 0))).r),cB ((((l.getD x1 []).getD 9 (.int 0))).b),cS ((((l.getD x1 []).getD 10 (.int 0))).r),cS ((((l.getD x1 []).getD 11 (.int 0))).r),cB ((((l.getD x1 []).getD 12 (.int 0))).b),cS ((((l.getD x1 []).getD 13 (.int 0))).r),cS ((((l.getD x1 []).getD 14 (.int 0))).r),cB ((((l.getD x1 []).getD 15 (.int 0))).b),cS ((((l.getD x1 []).getD 16 (.int 0))).r),cS ((((l.getD x1 []).getD 17 (.int 0))).r)]]=toCell_con.args i1/\toCell_con.pre i1/\((0<=(nI x1)/\(nI x1)<((l.take x1++List.replicate (l.length-x1) ([Dat.bool false,Dat.sl ([]:List (List Dat)),Dat.sl ([]:List (List Dat)),Dat.bool false,Dat.sl ([]:List (List Dat)),Dat.sl ([]:List (List Dat)),Dat.bool false,Dat.sl ([]:List (List Dat)),Dat.sl ([]:List (List Dat)),Dat.bool false,Dat.sl ([]:List (List Dat)),Dat.sl ([]:List (List Dat)),Dat.bool false,Dat.sl ([]:List (List Dat)),Dat.sl ([]:List (List Dat)),Dat.bool false,Dat.sl ([]:List (List Dat)),Dat.sl ([]:List (List Dat))]:List Dat)).length:Int))/\((x1<(l.take x1++List.replicate (l.length-x1) ([Dat.bool false,Dat.sl ([]:List (List Dat)),Dat.sl ([]:List (List Dat)),Dat.bool false,Dat.sl ([]:List (List Dat)),Dat.sl ([]:List (List Dat)),Dat.bool false,Dat.sl ([]:List (List Dat)),Dat.sl ([]:List (List Dat)),Dat.bool false,Dat.sl ([]:List (List Dat)),Dat.sl ([]:List (List Dat)),Dat.bool false,Dat.sl ([]:List (List Dat)),Dat.sl ([]:List (List Dat)),Dat.bool false,Dat.sl ([]:List (List Dat)),Dat.sl ([]:List (List Dat))]:List Dat)).length)/\(∃ y2:Nat,(y2<=l.length)/\(l.length-y2<l.length-x1)/\((vI (wR ((nI x1)+(1:Int)))=vI (nI y2))/\(rf (l))/\(((l.take x1++List.replicate (l.length-x1) ([Dat.bool false,Dat.sl ([]:List (List Dat)),Dat.sl ([]:List (List Dat)),Dat.bool false,Dat.sl ([]:List (List Dat)),Dat.sl ([]:List (List Dat)),Dat.bool false,Dat.sl ([]:List (List Dat)),Dat.sl ([]:List (List Dat)),Dat.bool false,Dat.sl ([]:List (List Dat)),Dat.sl ([]:List (List Dat)),Dat.bool false,Dat.sl ([]:List (List Dat)),Dat.sl ([]:List (List Dat)),Dat.bool false,Dat.sl ([]:List (List Dat)),Dat.sl ([]:List (List Dat))]:List Dat)).set x1 [Dat.bool ((i1.getD 0 (.int 0)).b),Dat.sl ((i1.getD 1 (.int 0)).r),Dat.sl ((i1.getD 2 (.int 0)).r),Dat.bool ((i1.getD 3 (.int 0)).b),Dat.sl ((i1.getD 4 (.int 0)).r),Dat.sl ((i1.getD 5 (.int 0)).r),Dat.bool ((i1.getD 6 (.int 0)).b),Dat.sl ((i1.getD 7 (.int 0)).r),Dat.sl ((i1.getD 8 (.int 0)).r),Dat.bool ((i1.getD 9 (.int 0)).b),Dat.sl ((i1.getD 10 (.int 0)).r),Dat.sl ((i1.getD 11 (.int 0)).r),Dat.bool ((i1.getD 12 (.int 0)).b),Dat.sl ((i1.getD 13 (.int 0)).r),Dat.sl ((i1.getD 14 (.int 0)).r),Dat.bool ((i1.getD 15 (.int 0)).b),Dat.sl ((i1.getD 16 (.int 0)).r),Dat.sl ((i1.getD 17 (.int 0)).r)])=(l.take y2++List.replicate (l.length-y2) ([Dat.bool false,Dat.sl ([]:List (List Dat)),Dat.sl ([]:List (List Dat)),Dat.bool false,Dat.sl ([]:List (List Dat)),Dat.sl ([]:List (List Dat)),Dat.bool false,Dat.sl ([]:List (List Dat)),Dat.sl ([]:List (List Dat)),Dat.bool false,Dat.sl ([]:List (List Dat)),Dat.sl ([]:List (List Dat)),Dat.bool false,Dat.sl ([]:List (List Dat)),Dat.sl ([]:List (List Dat)),Dat.bool false,Dat.sl ([]:List (List Dat)),Dat.sl ([]:List (List Dat))]:List Dat)))))))))))/\((decide ((nI x1)<(nI l.length)))=false->(((l.take x1++List.replicate (l.length-x1) ([Dat.bool false,Dat.sl ([]:List (List Dat)),Dat.sl ([]:List (List Dat)),Dat.bool false,Dat.sl ([]:List (List Dat)),Dat.sl ([]:List (List Dat)),Dat.bool false,Dat.sl ([]:List (List Dat)),Dat.sl ([]:List (List Dat)),Dat.bool false,Dat.sl ([]:List (List Dat)),Dat.sl ([]:List (List Dat)),Dat.bool false,Dat.sl ([]:List (List Dat)),Dat.sl ([]:List (List Dat)),Dat.bool false,Dat.sl ([]:List (List Dat)),Dat.sl ([]:List (List Dat))]:List Dat))=l)))))))) (by kernel_rfl) ?_
 delta vI wR nI
 have hh2:=has_rows hpre.1
 have hl:=hpre.2
 refine ao (by omega) λ o1=>?_
 refine ao (by omega) λ o2=>?_
 refine ao (by omega) λ o3=>?_
 refine ⟨⟨0,by
  omega,?_⟩,?_⟩
 ·refine ⟨?_,rfl,?_⟩
  ·rfl
  rfl
 intro (k:Nat) hki4
 have hki4:k<=l.length:=hki4
 refine And.symm ⟨λ c9=>?_,λ c9=>?_⟩
 ·try simp only [nrm] at c9
  exact set_all (by omega)
 try simp only [nrm] at c9
 refine ao (by omega) λ o10=>?_
 refine ao (by omega) λ o11=>?_
 refine ⟨(l.getD k []),by
  rfl,by
  try dsimp only [toCell_con]
  have hrow:=hh2 k (by omega)
  have hs:=szRow_getD_le (l:=l) (k:=k) (by omega)
  exact ⟨hrow,by omega⟩,?_⟩
 refine ao (by rw [set_len (by omega)];omega) λ o15=>?_
 refine ao (by omega) λ o16=>?_
 refine ⟨k+1,by
  trivial,by
  omega,?_⟩
 refine ⟨?_,rfl,?_⟩
 ·exact vint (wrap64 (by omega) (by omega))
 exact set_next (by omega) (etaCell (hh2 k (by omega)))
def eqCellS_con:Con:={ ι:=(List (List Dat)),pre:=λ i=>i.length<=9223372036854775807,args:=λ i=>[.one (.sl 95 [.bool,.sl 3 [.int],.sl 3 [.int],.bool,.sl 3 [.int],.sl 3 [.int],.bool,.sl 3 [.int],.sl 3 [.int],.bool,.sl 3 [.int],.sl 3 [.int],.bool,.sl 3 [.int],.sl 3 [.int],.bool,.sl 3 [.int],.sl 3 [.int]] i),.one (.sl 95 [.bool,.sl 3 [.int],.sl 3 [.int],.bool,.sl 3 [.int],.sl 3 [.int],.bool,.sl 3 [.int],.sl 3 [.int],.bool,.sl 3 [.int],.sl 3 [.int],.bool,.sl 3 [.int],.sl 3 [.int],.bool,.sl 3 [.int],.sl 3 [.int]] i)],res:=λ i=>⟨false,[none],[.im (Value.bool true)]⟩ }
theorem eqCellS_ok:eqCellS_con.Ok Try.prog 33:=by
 refine fok (X:=⟨tt,[(54,eqCell_con)],[],27,[]⟩) mixed tt_ok (CTok.cons eqCell_ok (CTok.nil _)) Try.func33 (λ (i:(List (List Dat)))=>[(4,.mk 3 (Nat) (λ x1=>{ tm:=[(0,.one (.one (.ext 1))),(1,.one (.one (.ext 2))),(5,.one (.one (.im (Value.int .i64 ((x1:Nat):Int)))))],en:=[(1,.view 95 [.bool,.sl 3 [.int],.sl 3 [.int],.bool,.sl 3 [.int],.sl 3 [.int],.bool,.sl 3 [.int],.sl 3 [.int],.bool,.sl 3 [.int],.sl 3 [.int],.bool,.sl 3 [.int],.sl 3 [.int],.bool,.sl 3 [.int],.sl 3 [.int]] i []),(2,.view 95 [.bool,.sl 3 [.int],.sl 3 [.int],.bool,.sl 3 [.int],.sl 3 [.int],.bool,.sl 3 [.int],.sl 3 [.int],.bool,.sl 3 [.int],.sl 3 [.int],.bool,.sl 3 [.int],.sl 3 [.int],.bool,.sl 3 [.int],.sl 3 [.int]] i [])] }) (λ x1=>x1<=i.length) (λ x1=>i.length-x1) (λ _=>[]))]) ?_
 intro (l:List (List Dat)) hpre
 have hpre:l.length<=9223372036854775807:=hpre
 refine by_nf (q:=(((nI l.length) != (nI l.length))=true->((Value.bool false=Value.bool true)))/\(((nI l.length) != (nI l.length))=false->((∃ x1:Nat,(x1<=l.length)/\((vI (0:Int)=vI (nI x1))/\(rf (l))/\(rf (l))))/\∀ x1:Nat,(x1<=l.length)->(((decide ((nI x1)<(nI l.length)))=true->((0<=(nI x1)/\(nI x1)<(l.length:Int))/\((x1<l.length)/\((0<=(nI x1)/\(nI x1)<(l.length:Int))/\((x1<l.length)/\(∃ i1:(List Dat),[DA.agg [cB ((((l.getD x1 []).getD 0 (.int 0))).b),cS ((((l.getD x1 []).getD 1 (.int 0))).r),cS ((((l.getD x1 []).getD 2 (.int 0))).r),cB ((((l.getD x1 []).getD 3 (.int 0))).b),cS ((((l.getD x1 []).getD 4 (.int 0))).r),cS ((((l.getD x1 []).getD 5 (.int 0))).r),cB ((((l.getD x1 []).getD 6 (.int 0))).b),cS ((((l.getD x1 []).getD 7 (.int 0))).r),cS ((((l.getD x1 []).getD 8 (.int 0))).r),cB ((((l.getD x1 []).getD 9 (.int 0))).b),cS ((((l.getD x1 []).getD 10 (.int 0))).r),cS ((((l.getD x1 []).getD 11 (.int 0))).r),cB ((((l.getD x1 []).getD 12 (.int 0))).b),cS ((((l.getD x1 []).getD 13 (.int 0))).r),cS ((((l.getD x1 []).getD 14 (.int 0))).r),cB ((((l.getD x1 []).getD 15 (.int 0))).b),cS ((((l.getD x1 []).getD 16 (.int 0))).r),cS ((((l.getD x1 []).getD 17 (.int 0))).r)],DA.agg [cB ((((l.getD x1 []).getD 0 (.int 0))).b),cS ((((l.getD x1 []).getD 1 (.int 0))).r),cS ((((l.getD x1 []).getD 2 (.int 0))).r),cB ((((l.getD x1 []).getD 3 (.int 0))).b),cS ((((l.getD x1 []).getD 4 (.int 0))).r),cS ((((l.getD x1 []).getD 5 (.int 0))).r),cB ((((l.getD x1 []).getD 6 (.int 0))).b),cS ((((l.getD x1 []).getD 7 (.int 0))).r),cS ((((l.getD x1 []).getD 8 (.int 0))).r),cB ((((l.getD x1 []).getD 9 (.int 0))).b),cS ((((l.getD x1 []).getD 10 (.int 0))).r),cS ((((l.getD x1 []).getD 11 (.int 0))).r),cB ((((l.getD x1 []).getD 12 (.int 0))).b),cS ((((l.getD x1 []).getD 13 (.int 0))).r),cS ((((l.getD x1 []).getD 14 (.int 0))).r),cB ((((l.getD x1 []).getD 15 (.int 0))).b),cS ((((l.getD x1 []).getD 16 (.int 0))).r),cS ((((l.getD x1 []).getD 17 (.int 0))).r)]]=eqCell_con.args i1/\eqCell_con.pre i1/\(((!true)=true->((Value.bool false=Value.bool true)))/\((!true)=false->(∃ y2:Nat,(y2<=l.length)/\(l.length-y2<l.length-x1)/\((vI (wR ((nI x1)+(1:Int)))=vI (nI y2))/\(rf (l))/\(rf (l))))))))))))/\((decide ((nI x1)<(nI l.length)))=false->((Value.bool true=Value.bool true))))))) (by kernel_rfl) ?_
 delta vI wR nI
 refine ⟨λ c1=>?_,λ c1=>?_⟩
 ·try simp only [nrm] at c1
  exfalso;simp_all;done
 try simp only [nrm] at c1
 refine ⟨⟨0,by
  omega,?_⟩,?_⟩
 ·refine ⟨?_,rfl,rfl⟩
  rfl
 intro (k:Nat) hki3
 have hki3:k<=l.length:=hki3
 refine And.symm ⟨λ c8=>?_,λ c8=>?_⟩
 ·try simp only [nrm] at c8
  exact rfl
 try simp only [nrm] at c8
 refine ao (by omega) λ o9=>?_
 refine ao (by omega) λ o10=>?_
 refine ao (by omega) λ o11=>?_
 refine ao (by omega) λ o12=>?_
 refine ⟨(l.getD k []),by
  rfl,by
  trivial,?_⟩
 refine ⟨λ c16=>?_,λ c16=>?_⟩
 ·try simp only [nrm] at c16
  exfalso;simp_all;done
 try simp only [nrm] at c16
 refine ⟨k+1,by
  trivial,by
  omega,?_⟩
 refine ⟨?_,rfl,rfl⟩
 exact vint (wrap64 (by omega) (by omega))
theorem etaBox {r:List Dat} (h:hasRow [.int,.int,.int,.int] r):r=[.int (r.getD 0 (.int 0)).n,.int (r.getD 1 (.int 0)).n,.int (r.getD 2 (.int 0)).n,.int (r.getD 3 (.int 0)).n]:=by
 obtain ⟨_,_,rfl,q0,h0⟩:=h.cons
 obtain ⟨_,rfl⟩:=Dat.has_int q0
 obtain ⟨_,_,rfl,q1,h1⟩:=h0.cons
 obtain ⟨_,rfl⟩:=Dat.has_int q1
 obtain ⟨_,_,rfl,q2,h2⟩:=h1.cons
 obtain ⟨_,rfl⟩:=Dat.has_int q2
 obtain ⟨_,_,rfl,q3,h3⟩:=h2.cons
 obtain ⟨_,rfl⟩:=Dat.has_int q3
 obtain rfl:=hasRow.nil h3
 rfl
theorem szrBox {r:List Dat} (h:hasRow [.int,.int,.int,.int] r):szRow r=0:=by
 rw [etaBox h]
 simp only [szRow,Dat.sz]
theorem hasBox {r:List Dat} (h:hasRow [.int,.int,.int,.int] r):Dat.has .int (.int (r.getD 0 (.int 0)).n)/\Dat.has .int (.int (r.getD 1 (.int 0)).n)/\Dat.has .int (.int (r.getD 2 (.int 0)).n)/\Dat.has .int (.int (r.getD 3 (.int 0)).n):=by
 rw [etaBox h] at h
 simpa only [hasRow,and_true] using h
def toBox_con:Con:={ ι:=(List Dat),pre:=λ i=>hasRow [.int,.int,.int,.int] i/\szRow i<=1048576,args:=λ i=>[.agg [.im (.int .i64 ((i.getD 0 (.int 0)).n)),.im (.int .i64 ((i.getD 1 (.int 0)).n)),.im (.int .i64 ((i.getD 2 (.int 0)).n)),.im (.int .i64 ((i.getD 3 (.int 0)).n))]],res:=λ i=>⟨false,[some 4],[.im (Value.int .i64 ((i.getD 0 (.int 0)).n)),.im (Value.int .i64 ((i.getD 1 (.int 0)).n)),.im (Value.int .i64 ((i.getD 2 (.int 0)).n)),.im (Value.int .i64 ((i.getD 3 (.int 0)).n))]⟩ }
theorem toBox_ok:toBox_con.Ok Try.prog 21:=by
 refine fok (X:=⟨tt,[(43,toVec_con)],[],13,[]⟩) mixed tt_ok (CTok.cons toVec_ok (CTok.nil _)) Try.func21 (λ _=>[]) ?_
 intro (r:List Dat) hpre
 have hpre:hasRow [.int,.int,.int,.int] r/\szRow r<=1048576:=hpre
 refine by_nf (q:=∃ i1:(Int×Int),[DA.agg [cI ((r.getD 0 (.int 0)).n),cI ((r.getD 1 (.int 0)).n)]]=toVec_con.args i1/\toVec_con.pre i1/\(∃ i2:(Int×Int),[DA.agg [cI ((r.getD 2 (.int 0)).n),cI ((r.getD 3 (.int 0)).n)]]=toVec_con.args i2/\toVec_con.pre i2/\((vI i1.1=vI ((r.getD 0 (.int 0)).n))/\(vI i1.2=vI ((r.getD 1 (.int 0)).n))/\(vI i2.1=vI ((r.getD 2 (.int 0)).n))/\(vI i2.2=vI ((r.getD 3 (.int 0)).n))))) (by kernel_rfl) ?_
 delta vI
 have hz:=szrBox hpre.1
 have hs:=hpre.2
 have hp:=hasBox hpre.1
 obtain ⟨p0,p1,p2,p3⟩:=hp
 refine ⟨(((r.getD 0 (.int 0)).n),((r.getD 1 (.int 0)).n)),by
  rfl,by
  show szRow [.int (((r.getD 0 (.int 0)).n),((r.getD 1 (.int 0)).n)).1,.int (((r.getD 0 (.int 0)).n),((r.getD 1 (.int 0)).n)).2]<=1048576
  simp [szRow,Dat.sz];done,?_⟩
 refine ⟨(((r.getD 2 (.int 0)).n),((r.getD 3 (.int 0)).n)),by
  rfl,by
  show szRow [.int (((r.getD 2 (.int 0)).n),((r.getD 3 (.int 0)).n)).1,.int (((r.getD 2 (.int 0)).n),((r.getD 3 (.int 0)).n)).2]<=1048576
  simp [szRow,Dat.sz];done,?_⟩
 refine ⟨?_,?_,?_,?_⟩
 ·rfl
 ·rfl
 ·rfl
 rfl
def eqBox_con:Con:={ ι:=(List Dat),pre:=λ i=>True,args:=λ i=>[.agg [.im (.int .i64 ((i.getD 0 (.int 0)).n)),.im (.int .i64 ((i.getD 1 (.int 0)).n)),.im (.int .i64 ((i.getD 2 (.int 0)).n)),.im (.int .i64 ((i.getD 3 (.int 0)).n))],.agg [.im (.int .i64 ((i.getD 0 (.int 0)).n)),.im (.int .i64 ((i.getD 1 (.int 0)).n)),.im (.int .i64 ((i.getD 2 (.int 0)).n)),.im (.int .i64 ((i.getD 3 (.int 0)).n))]],res:=λ i=>⟨false,[none],[.im (Value.bool true)]⟩ }
theorem eqBox_ok:eqBox_con.Ok Try.prog 31:=by
 refine fok (X:=⟨tt,[(52,eqVec_con)],[],17,[]⟩) mixed tt_ok (CTok.cons eqVec_ok (CTok.nil _)) Try.func31 (λ _=>[]) ?_
 intro (r:List Dat) hpre
 have hpre:True:=hpre
 refine by_nf (q:=∃ i1:(Int×Int),[DA.agg [cI ((r.getD 0 (.int 0)).n),cI ((r.getD 1 (.int 0)).n)],DA.agg [cI ((r.getD 0 (.int 0)).n),cI ((r.getD 1 (.int 0)).n)]]=eqVec_con.args i1/\eqVec_con.pre i1/\(((!true)=true->((Value.bool false=Value.bool true)))/\((!true)=false->(∃ i2:(Int×Int),[DA.agg [cI ((r.getD 2 (.int 0)).n),cI ((r.getD 3 (.int 0)).n)],DA.agg [cI ((r.getD 2 (.int 0)).n),cI ((r.getD 3 (.int 0)).n)]]=eqVec_con.args i2/\eqVec_con.pre i2/\(((!true)=true->((Value.bool false=Value.bool true)))/\((!true)=false->((Value.bool true=Value.bool true)))))))) (by kernel_rfl) ?_
 refine ⟨(((r.getD 0 (.int 0)).n),((r.getD 1 (.int 0)).n)),by
  rfl,by
  trivial,?_⟩
 refine ⟨λ c4=>?_,λ c4=>?_⟩
 ·try simp only [nrm] at c4
  exfalso;simp_all;done
 try simp only [nrm] at c4
 refine ⟨(((r.getD 2 (.int 0)).n),((r.getD 3 (.int 0)).n)),by
  rfl,by
  trivial,?_⟩
 refine ⟨λ c9=>?_,λ c9=>?_⟩
 ·try simp only [nrm] at c9
  exfalso;simp_all;done
 try simp only [nrm] at c9
 exact rfl
theorem etaSlice {r:List Dat} (h:hasRow [.int,.bool,.int,.int,.int,.int,.sl 77 [.sl 23 [.int,.int]],.sl 84 [.bool,.sl 3 [.int],.sl 3 [.int],.bool,.sl 3 [.int],.sl 3 [.int],.bool,.sl 3 [.int],.sl 3 [.int],.bool,.sl 3 [.int],.sl 3 [.int],.bool,.sl 3 [.int],.sl 3 [.int],.bool,.sl 3 [.int],.sl 3 [.int]],.sl 87 [.bool,.sl 3 [.int],.sl 3 [.int],.bool,.sl 3 [.int],.sl 3 [.int],.bool,.sl 3 [.int],.sl 3 [.int]],.sl 101 [.int,.int],.sl 3 [.int]] r):r=[.int (r.getD 0 (.int 0)).n,.bool (r.getD 1 (.int 0)).b,.int (r.getD 2 (.int 0)).n,.int (r.getD 3 (.int 0)).n,.int (r.getD 4 (.int 0)).n,.int (r.getD 5 (.int 0)).n,.sl (r.getD 6 (.int 0)).r,.sl (r.getD 7 (.int 0)).r,.sl (r.getD 8 (.int 0)).r,.sl (r.getD 9 (.int 0)).r,.sl (r.getD 10 (.int 0)).r]:=by
 obtain ⟨_,_,rfl,q0,h0⟩:=h.cons
 obtain ⟨_,rfl⟩:=Dat.has_int q0
 obtain ⟨_,_,rfl,q1,h1⟩:=h0.cons
 obtain ⟨_,rfl⟩:=Dat.has_bool q1
 obtain ⟨_,_,rfl,q2,h2⟩:=h1.cons
 obtain ⟨_,rfl⟩:=Dat.has_int q2
 obtain ⟨_,_,rfl,q3,h3⟩:=h2.cons
 obtain ⟨_,rfl⟩:=Dat.has_int q3
 obtain ⟨_,_,rfl,q4,h4⟩:=h3.cons
 obtain ⟨_,rfl⟩:=Dat.has_int q4
 obtain ⟨_,_,rfl,q5,h5⟩:=h4.cons
 obtain ⟨_,rfl⟩:=Dat.has_int q5
 obtain ⟨_,_,rfl,q6,h6⟩:=h5.cons
 obtain ⟨_,rfl⟩:=Dat.has_sl q6
 obtain ⟨_,_,rfl,q7,h7⟩:=h6.cons
 obtain ⟨_,rfl⟩:=Dat.has_sl q7
 obtain ⟨_,_,rfl,q8,h8⟩:=h7.cons
 obtain ⟨_,rfl⟩:=Dat.has_sl q8
 obtain ⟨_,_,rfl,q9,h9⟩:=h8.cons
 obtain ⟨_,rfl⟩:=Dat.has_sl q9
 obtain ⟨_,_,rfl,q10,h10⟩:=h9.cons
 obtain ⟨_,rfl⟩:=Dat.has_sl q10
 obtain rfl:=hasRow.nil h10
 rfl
theorem szrSlice {r:List Dat} (h:hasRow [.int,.bool,.int,.int,.int,.int,.sl 77 [.sl 23 [.int,.int]],.sl 84 [.bool,.sl 3 [.int],.sl 3 [.int],.bool,.sl 3 [.int],.sl 3 [.int],.bool,.sl 3 [.int],.sl 3 [.int],.bool,.sl 3 [.int],.sl 3 [.int],.bool,.sl 3 [.int],.sl 3 [.int],.bool,.sl 3 [.int],.sl 3 [.int]],.sl 87 [.bool,.sl 3 [.int],.sl 3 [.int],.bool,.sl 3 [.int],.sl 3 [.int],.bool,.sl 3 [.int],.sl 3 [.int]],.sl 101 [.int,.int],.sl 3 [.int]] r):szRow r=(((r.getD 6 (.int 0)).r).length+szRows ((r.getD 6 (.int 0)).r))+(((r.getD 7 (.int 0)).r).length+szRows ((r.getD 7 (.int 0)).r))+(((r.getD 8 (.int 0)).r).length+szRows ((r.getD 8 (.int 0)).r))+(((r.getD 9 (.int 0)).r).length+szRows ((r.getD 9 (.int 0)).r))+(((r.getD 10 (.int 0)).r).length+szRows ((r.getD 10 (.int 0)).r)):=by
 conv=>lhs;rw [etaSlice h]
 simp only [szRow,Dat.sz]
 omega
theorem hasSlice {r:List Dat} (h:hasRow [.int,.bool,.int,.int,.int,.int,.sl 77 [.sl 23 [.int,.int]],.sl 84 [.bool,.sl 3 [.int],.sl 3 [.int],.bool,.sl 3 [.int],.sl 3 [.int],.bool,.sl 3 [.int],.sl 3 [.int],.bool,.sl 3 [.int],.sl 3 [.int],.bool,.sl 3 [.int],.sl 3 [.int],.bool,.sl 3 [.int],.sl 3 [.int]],.sl 87 [.bool,.sl 3 [.int],.sl 3 [.int],.bool,.sl 3 [.int],.sl 3 [.int],.bool,.sl 3 [.int],.sl 3 [.int]],.sl 101 [.int,.int],.sl 3 [.int]] r):Dat.has .int (.int (r.getD 0 (.int 0)).n)/\Dat.has .bool (.bool (r.getD 1 (.int 0)).b)/\Dat.has .int (.int (r.getD 2 (.int 0)).n)/\Dat.has .int (.int (r.getD 3 (.int 0)).n)/\Dat.has .int (.int (r.getD 4 (.int 0)).n)/\Dat.has .int (.int (r.getD 5 (.int 0)).n)/\Dat.has (.sl 77 [.sl 23 [.int,.int]]) (.sl (r.getD 6 (.int 0)).r)/\Dat.has (.sl 84 [.bool,.sl 3 [.int],.sl 3 [.int],.bool,.sl 3 [.int],.sl 3 [.int],.bool,.sl 3 [.int],.sl 3 [.int],.bool,.sl 3 [.int],.sl 3 [.int],.bool,.sl 3 [.int],.sl 3 [.int],.bool,.sl 3 [.int],.sl 3 [.int]]) (.sl (r.getD 7 (.int 0)).r)/\Dat.has (.sl 87 [.bool,.sl 3 [.int],.sl 3 [.int],.bool,.sl 3 [.int],.sl 3 [.int],.bool,.sl 3 [.int],.sl 3 [.int]]) (.sl (r.getD 8 (.int 0)).r)/\Dat.has (.sl 101 [.int,.int]) (.sl (r.getD 9 (.int 0)).r)/\Dat.has (.sl 3 [.int]) (.sl (r.getD 10 (.int 0)).r):=by
 rw [etaSlice h] at h
 simpa only [hasRow,and_true] using h
def szSlice_con:Con:={ ι:=(List Dat)×Int,pre:=λ i=>hasRow [.int,.bool,.int,.int,.int,.int,.sl 77 [.sl 23 [.int,.int]],.sl 84 [.bool,.sl 3 [.int],.sl 3 [.int],.bool,.sl 3 [.int],.sl 3 [.int],.bool,.sl 3 [.int],.sl 3 [.int],.bool,.sl 3 [.int],.sl 3 [.int],.bool,.sl 3 [.int],.sl 3 [.int],.bool,.sl 3 [.int],.sl 3 [.int]],.sl 87 [.bool,.sl 3 [.int],.sl 3 [.int],.bool,.sl 3 [.int],.sl 3 [.int],.bool,.sl 3 [.int],.sl 3 [.int]],.sl 101 [.int,.int],.sl 3 [.int]] i.1/\0<=i.2/\i.2<=1048576,args:=λ i=>[.agg [.im (.int .i64 ((i.1.getD 0 (.int 0)).n)),.im (.bool ((i.1.getD 1 (.int 0)).b)),.im (.int .i64 ((i.1.getD 2 (.int 0)).n)),.im (.int .i64 ((i.1.getD 3 (.int 0)).n)),.im (.int .i64 ((i.1.getD 4 (.int 0)).n)),.im (.int .i64 ((i.1.getD 5 (.int 0)).n)),.sl 77 [.sl 23 [.int,.int]] ((i.1.getD 6 (.int 0)).r),.sl 84 [.bool,.sl 3 [.int],.sl 3 [.int],.bool,.sl 3 [.int],.sl 3 [.int],.bool,.sl 3 [.int],.sl 3 [.int],.bool,.sl 3 [.int],.sl 3 [.int],.bool,.sl 3 [.int],.sl 3 [.int],.bool,.sl 3 [.int],.sl 3 [.int]] ((i.1.getD 7 (.int 0)).r),.sl 87 [.bool,.sl 3 [.int],.sl 3 [.int],.bool,.sl 3 [.int],.sl 3 [.int],.bool,.sl 3 [.int],.sl 3 [.int]] ((i.1.getD 8 (.int 0)).r),.sl 101 [.int,.int] ((i.1.getD 9 (.int 0)).r),.sl 3 [.int] ((i.1.getD 10 (.int 0)).r)],.one (.im (.int .i64 i.2))],res:=λ i=>⟨false,[none],[.im (Value.int .i64 (szR (szRow i.1) i.2))]⟩ }
theorem szSlice_ok:szSlice_con.Ok Try.prog 4:=by
 refine fok (X:=⟨tt,[(14,szVecSS_con),(15,szCellS_con),(16,szWallS_con),(17,szDoorS_con),(18,szIntS_con)],[],36,[]⟩) mixed tt_ok (CTok.cons szVecSS_ok (CTok.cons szCellS_ok (CTok.cons szWallS_ok (CTok.cons szDoorS_ok (CTok.cons szIntS_ok (CTok.nil _)))))) Try.func4 (λ _=>[]) ?_
 rintro ⟨r,n⟩ hpre
 have hpre:hasRow [.int,.bool,.int,.int,.int,.int,.sl 77 [.sl 23 [.int,.int]],.sl 84 [.bool,.sl 3 [.int],.sl 3 [.int],.bool,.sl 3 [.int],.sl 3 [.int],.bool,.sl 3 [.int],.sl 3 [.int],.bool,.sl 3 [.int],.sl 3 [.int],.bool,.sl 3 [.int],.sl 3 [.int],.bool,.sl 3 [.int],.sl 3 [.int]],.sl 87 [.bool,.sl 3 [.int],.sl 3 [.int],.bool,.sl 3 [.int],.sl 3 [.int],.bool,.sl 3 [.int],.sl 3 [.int]],.sl 101 [.int,.int],.sl 3 [.int]] r/\0<=n/\n<=1048576:=hpre
 refine by_nf (q:=∃ i1:(List (List Dat))×Int,[DA.one (DC.sl 77 [.sl 23 [.int,.int]] ((r.getD 6 (.int 0)).r)),DA.one (cI n)]=szVecSS_con.args i1/\szVecSS_con.pre i1/\(((decide ((szR (i1.1.length+szRows i1.1) i1.2)<(0:Int)))=true->((vI (-1:Int)=vI (szR (szRow r) n))))/\((decide ((szR (i1.1.length+szRows i1.1) i1.2)<(0:Int)))=false->(∃ i2:(List (List Dat))×Int,[DA.one (DC.sl 84 [.bool,.sl 3 [.int],.sl 3 [.int],.bool,.sl 3 [.int],.sl 3 [.int],.bool,.sl 3 [.int],.sl 3 [.int],.bool,.sl 3 [.int],.sl 3 [.int],.bool,.sl 3 [.int],.sl 3 [.int],.bool,.sl 3 [.int],.sl 3 [.int]] ((r.getD 7 (.int 0)).r)),DA.one (cI (szR (i1.1.length+szRows i1.1) i1.2))]=szCellS_con.args i2/\szCellS_con.pre i2/\(((decide ((szR (i2.1.length+szRows i2.1) i2.2)<(0:Int)))=true->((vI (-1:Int)=vI (szR (szRow r) n))))/\((decide ((szR (i2.1.length+szRows i2.1) i2.2)<(0:Int)))=false->(∃ i3:(List (List Dat))×Int,[DA.one (DC.sl 87 [.bool,.sl 3 [.int],.sl 3 [.int],.bool,.sl 3 [.int],.sl 3 [.int],.bool,.sl 3 [.int],.sl 3 [.int]] ((r.getD 8 (.int 0)).r)),DA.one (cI (szR (i2.1.length+szRows i2.1) i2.2))]=szWallS_con.args i3/\szWallS_con.pre i3/\(((decide ((szR (i3.1.length+szRows i3.1) i3.2)<(0:Int)))=true->((vI (-1:Int)=vI (szR (szRow r) n))))/\((decide ((szR (i3.1.length+szRows i3.1) i3.2)<(0:Int)))=false->(∃ i4:(List (List Dat))×Int,[DA.one (DC.sl 101 [.int,.int] ((r.getD 9 (.int 0)).r)),DA.one (cI (szR (i3.1.length+szRows i3.1) i3.2))]=szDoorS_con.args i4/\szDoorS_con.pre i4/\(((decide ((szR (i4.1.length+szRows i4.1) i4.2)<(0:Int)))=true->((vI (-1:Int)=vI (szR (szRow r) n))))/\((decide ((szR (i4.1.length+szRows i4.1) i4.2)<(0:Int)))=false->(∃ i5:(List (List Dat))×Int,[DA.one (cS ((r.getD 10 (.int 0)).r)),DA.one (cI (szR (i4.1.length+szRows i4.1) i4.2))]=szIntS_con.args i5/\szIntS_con.pre i5/\(((decide ((szR (i5.1.length+szRows i5.1) i5.2)<(0:Int)))=true->((vI (-1:Int)=vI (szR (szRow r) n))))/\((decide ((szR (i5.1.length+szRows i5.1) i5.2)<(0:Int)))=false->((vI (szR (i5.1.length+szRows i5.1) i5.2)=vI (szR (szRow r) n)))))))))))))))))) (by kernel_rfl) ?_
 delta vI
 obtain ⟨hh,h0,h1⟩:=hpre
 have hz:=szrSlice hh
 have hp:=hasSlice hh
 obtain ⟨p0,p1,p2,p3,p4,p5,p6,p7,p8,p9,p10⟩:=hp
 have f0:=szR_or (((r.getD 6 (.int 0)).r).length+szRows ((r.getD 6 (.int 0)).r)) (n)
 have f1:=szR_or (((r.getD 7 (.int 0)).r).length+szRows ((r.getD 7 (.int 0)).r)) (szR (((r.getD 6 (.int 0)).r).length+szRows ((r.getD 6 (.int 0)).r)) (n))
 have f2:=szR_or (((r.getD 8 (.int 0)).r).length+szRows ((r.getD 8 (.int 0)).r)) (szR (((r.getD 7 (.int 0)).r).length+szRows ((r.getD 7 (.int 0)).r)) (szR (((r.getD 6 (.int 0)).r).length+szRows ((r.getD 6 (.int 0)).r)) (n)))
 have f3:=szR_or (((r.getD 9 (.int 0)).r).length+szRows ((r.getD 9 (.int 0)).r)) (szR (((r.getD 8 (.int 0)).r).length+szRows ((r.getD 8 (.int 0)).r)) (szR (((r.getD 7 (.int 0)).r).length+szRows ((r.getD 7 (.int 0)).r)) (szR (((r.getD 6 (.int 0)).r).length+szRows ((r.getD 6 (.int 0)).r)) (n))))
 have f4:=szR_or (((r.getD 10 (.int 0)).r).length+szRows ((r.getD 10 (.int 0)).r)) (szR (((r.getD 9 (.int 0)).r).length+szRows ((r.getD 9 (.int 0)).r)) (szR (((r.getD 8 (.int 0)).r).length+szRows ((r.getD 8 (.int 0)).r)) (szR (((r.getD 7 (.int 0)).r).length+szRows ((r.getD 7 (.int 0)).r)) (szR (((r.getD 6 (.int 0)).r).length+szRows ((r.getD 6 (.int 0)).r)) (n)))))
 have ft:=szR_or (szRow r) n
 refine ⟨(((r.getD 6 (.int 0)).r),n),by
  rfl,by
  show Dat.has (.sl 77 [.sl 23 [.int,.int]]) (.sl ((r.getD 6 (.int 0)).r))/\0<=n/\n<=1048576
  refine ⟨?_,?_,?_⟩ <;> (try dsimp only) <;> first|assumption|omega|exact ⟨⟩,?_⟩
 refine ⟨λ c4=>?_,λ c4=>?_⟩
 ·replace c4:(decide ((szR (((r.getD 6 (.int 0)).r).length+szRows ((r.getD 6 (.int 0)).r)) n)<(0:Int)))=true:=c4
  try simp only [nrm] at c4
  refine vint ?_;try dsimp only
  omega
 replace c4:(decide ((szR (((r.getD 6 (.int 0)).r).length+szRows ((r.getD 6 (.int 0)).r)) n)<(0:Int)))=false:=c4
 try simp only [nrm] at c4
 refine ⟨(((r.getD 7 (.int 0)).r),(szR (((r.getD 6 (.int 0)).r).length+szRows ((r.getD 6 (.int 0)).r)) n)),by
  rfl,by
  try dsimp only [szCellS_con]
  refine ⟨?_,?_,?_⟩ <;> (try dsimp only) <;> first|assumption|omega|exact ⟨⟩,?_⟩
 refine ⟨λ c9=>?_,λ c9=>?_⟩
 ·replace c9:(decide ((szR (((r.getD 7 (.int 0)).r).length+szRows ((r.getD 7 (.int 0)).r)) (szR (((r.getD 6 (.int 0)).r).length+szRows ((r.getD 6 (.int 0)).r)) n))<(0:Int)))=true:=c9
  try simp only [nrm] at c9
  refine vint ?_;try dsimp only
  omega
 replace c9:(decide ((szR (((r.getD 7 (.int 0)).r).length+szRows ((r.getD 7 (.int 0)).r)) (szR (((r.getD 6 (.int 0)).r).length+szRows ((r.getD 6 (.int 0)).r)) n))<(0:Int)))=false:=c9
 try simp only [nrm] at c9
 refine ⟨(((r.getD 8 (.int 0)).r),(szR (((r.getD 7 (.int 0)).r).length+szRows ((r.getD 7 (.int 0)).r)) (szR (((r.getD 6 (.int 0)).r).length+szRows ((r.getD 6 (.int 0)).r)) n))),by
  rfl,by
  try dsimp only [szWallS_con]
  refine ⟨?_,?_,?_⟩ <;> (try dsimp only) <;> first|assumption|omega|exact ⟨⟩,?_⟩
 refine ⟨λ c14=>?_,λ c14=>?_⟩
 ·try dsimp only at c14
  try simp only [nrm] at c14
  refine vint ?_;try dsimp only
  omega
 try dsimp only at c14
 try simp only [nrm] at c14
 refine ⟨(((r.getD 9 (.int 0)).r),(szR (((r.getD 8 (.int 0)).r).length+szRows ((r.getD 8 (.int 0)).r)) (szR (((r.getD 7 (.int 0)).r).length+szRows ((r.getD 7 (.int 0)).r)) (szR (((r.getD 6 (.int 0)).r).length+szRows ((r.getD 6 (.int 0)).r)) n)))),by
  rfl,by
  try dsimp only [szDoorS_con]
  refine ⟨?_,?_,?_⟩ <;> (try dsimp only) <;> first|assumption|omega|exact ⟨⟩,?_⟩
 refine ⟨λ c19=>?_,λ c19=>?_⟩
 ·try dsimp only at c19
  try simp only [nrm] at c19
  refine vint ?_;try dsimp only
  omega
 try dsimp only at c19
 try simp only [nrm] at c19
 refine ⟨(((r.getD 10 (.int 0)).r),(szR (((r.getD 9 (.int 0)).r).length+szRows ((r.getD 9 (.int 0)).r)) (szR (((r.getD 8 (.int 0)).r).length+szRows ((r.getD 8 (.int 0)).r)) (szR (((r.getD 7 (.int 0)).r).length+szRows ((r.getD 7 (.int 0)).r)) (szR (((r.getD 6 (.int 0)).r).length+szRows ((r.getD 6 (.int 0)).r)) n))))),by
  rfl,by
  try dsimp only [szIntS_con]
  refine ⟨?_,?_,?_⟩ <;> (try dsimp only) <;> first|assumption|omega|exact ⟨⟩,?_⟩
 refine ⟨λ c24=>?_,λ c24=>?_⟩
 ·try dsimp only at c24
  try simp only [nrm] at c24
  refine vint ?_;try dsimp only
  omega
 try dsimp only at c24
 try simp only [nrm] at c24
 show Value.int .i64 (szR (((r.getD 10 (.int 0)).r).length+szRows ((r.getD 10 (.int 0)).r)) (szR (((r.getD 9 (.int 0)).r).length+szRows ((r.getD 9 (.int 0)).r)) (szR (((r.getD 8 (.int 0)).r).length+szRows ((r.getD 8 (.int 0)).r)) (szR (((r.getD 7 (.int 0)).r).length+szRows ((r.getD 7 (.int 0)).r)) (szR (((r.getD 6 (.int 0)).r).length+szRows ((r.getD 6 (.int 0)).r)) n)))))=Value.int .i64 (szR (szRow r) n)
 refine vint ?_;try dsimp only
 omega
def toSlice_con:Con:={ ι:=(List Dat),pre:=λ i=>hasRow [.int,.bool,.int,.int,.int,.int,.sl 77 [.sl 23 [.int,.int]],.sl 84 [.bool,.sl 3 [.int],.sl 3 [.int],.bool,.sl 3 [.int],.sl 3 [.int],.bool,.sl 3 [.int],.sl 3 [.int],.bool,.sl 3 [.int],.sl 3 [.int],.bool,.sl 3 [.int],.sl 3 [.int],.bool,.sl 3 [.int],.sl 3 [.int]],.sl 87 [.bool,.sl 3 [.int],.sl 3 [.int],.bool,.sl 3 [.int],.sl 3 [.int],.bool,.sl 3 [.int],.sl 3 [.int]],.sl 101 [.int,.int],.sl 3 [.int]] i/\szRow i<=1048576,args:=λ i=>[.agg [.im (.int .i64 ((i.getD 0 (.int 0)).n)),.im (.bool ((i.getD 1 (.int 0)).b)),.im (.int .i64 ((i.getD 2 (.int 0)).n)),.im (.int .i64 ((i.getD 3 (.int 0)).n)),.im (.int .i64 ((i.getD 4 (.int 0)).n)),.im (.int .i64 ((i.getD 5 (.int 0)).n)),.sl 77 [.sl 23 [.int,.int]] ((i.getD 6 (.int 0)).r),.sl 84 [.bool,.sl 3 [.int],.sl 3 [.int],.bool,.sl 3 [.int],.sl 3 [.int],.bool,.sl 3 [.int],.sl 3 [.int],.bool,.sl 3 [.int],.sl 3 [.int],.bool,.sl 3 [.int],.sl 3 [.int],.bool,.sl 3 [.int],.sl 3 [.int]] ((i.getD 7 (.int 0)).r),.sl 87 [.bool,.sl 3 [.int],.sl 3 [.int],.bool,.sl 3 [.int],.sl 3 [.int],.bool,.sl 3 [.int],.sl 3 [.int]] ((i.getD 8 (.int 0)).r),.sl 101 [.int,.int] ((i.getD 9 (.int 0)).r),.sl 3 [.int] ((i.getD 10 (.int 0)).r)]],res:=λ i=>⟨false,[some 11],[.im (Value.int .i64 ((i.getD 0 (.int 0)).n)),.im (Value.bool ((i.getD 1 (.int 0)).b)),.im (Value.int .i64 ((i.getD 2 (.int 0)).n)),.im (Value.int .i64 ((i.getD 3 (.int 0)).n)),.im (Value.int .i64 ((i.getD 4 (.int 0)).n)),.im (Value.int .i64 ((i.getD 5 (.int 0)).n)),.own 89 [.sl 35 [.int,.int]] ((i.getD 6 (.int 0)).r),.own 95 [.bool,.sl 3 [.int],.sl 3 [.int],.bool,.sl 3 [.int],.sl 3 [.int],.bool,.sl 3 [.int],.sl 3 [.int],.bool,.sl 3 [.int],.sl 3 [.int],.bool,.sl 3 [.int],.sl 3 [.int],.bool,.sl 3 [.int],.sl 3 [.int]] ((i.getD 7 (.int 0)).r),.own 98 [.bool,.sl 3 [.int],.sl 3 [.int],.bool,.sl 3 [.int],.sl 3 [.int],.bool,.sl 3 [.int],.sl 3 [.int]] ((i.getD 8 (.int 0)).r),.own 56 [.int,.int] ((i.getD 9 (.int 0)).r),.own 3 [.int] ((i.getD 10 (.int 0)).r)]⟩ }
theorem toSlice_ok:toSlice_con.Ok Try.prog 6:=by
 refine fok (X:=⟨tt,[(21,toBox_con),(22,toVecSS_con),(23,toCellS_con),(24,toWallS_con),(25,toDoorS_con),(7,toIntS_con)],[],35,[]⟩) mixed tt_ok (CTok.cons toBox_ok (CTok.cons toVecSS_ok (CTok.cons toCellS_ok (CTok.cons toWallS_ok (CTok.cons toDoorS_ok (CTok.cons toIntS_ok (CTok.nil _))))))) Try.func6 (λ _=>[]) ?_
 intro (r:List Dat) hpre
 have hpre:hasRow [.int,.bool,.int,.int,.int,.int,.sl 77 [.sl 23 [.int,.int]],.sl 84 [.bool,.sl 3 [.int],.sl 3 [.int],.bool,.sl 3 [.int],.sl 3 [.int],.bool,.sl 3 [.int],.sl 3 [.int],.bool,.sl 3 [.int],.sl 3 [.int],.bool,.sl 3 [.int],.sl 3 [.int],.bool,.sl 3 [.int],.sl 3 [.int]],.sl 87 [.bool,.sl 3 [.int],.sl 3 [.int],.bool,.sl 3 [.int],.sl 3 [.int],.bool,.sl 3 [.int],.sl 3 [.int]],.sl 101 [.int,.int],.sl 3 [.int]] r/\szRow r<=1048576:=hpre
 refine by_nf (q:=∃ i1:(List Dat),[DA.agg [cI ((r.getD 2 (.int 0)).n),cI ((r.getD 3 (.int 0)).n),cI ((r.getD 4 (.int 0)).n),cI ((r.getD 5 (.int 0)).n)]]=toBox_con.args i1/\toBox_con.pre i1/\(∃ i2:(List (List Dat)),[DA.one (DC.sl 77 [.sl 23 [.int,.int]] ((r.getD 6 (.int 0)).r))]=toVecSS_con.args i2/\toVecSS_con.pre i2/\(∃ i3:(List (List Dat)),[DA.one (DC.sl 84 [.bool,.sl 3 [.int],.sl 3 [.int],.bool,.sl 3 [.int],.sl 3 [.int],.bool,.sl 3 [.int],.sl 3 [.int],.bool,.sl 3 [.int],.sl 3 [.int],.bool,.sl 3 [.int],.sl 3 [.int],.bool,.sl 3 [.int],.sl 3 [.int]] ((r.getD 7 (.int 0)).r))]=toCellS_con.args i3/\toCellS_con.pre i3/\(∃ i4:(List (List Dat)),[DA.one (DC.sl 87 [.bool,.sl 3 [.int],.sl 3 [.int],.bool,.sl 3 [.int],.sl 3 [.int],.bool,.sl 3 [.int],.sl 3 [.int]] ((r.getD 8 (.int 0)).r))]=toWallS_con.args i4/\toWallS_con.pre i4/\(∃ i5:(List (List Dat)),[DA.one (DC.sl 101 [.int,.int] ((r.getD 9 (.int 0)).r))]=toDoorS_con.args i5/\toDoorS_con.pre i5/\(∃ i6:(List (List Dat)),[DA.one (cS ((r.getD 10 (.int 0)).r))]=toIntS_con.args i6/\toIntS_con.pre i6/\((vI ((r.getD 0 (.int 0)).n)=vI ((r.getD 0 (.int 0)).n))/\(Value.bool ((r.getD 1 (.int 0)).b)=Value.bool ((r.getD 1 (.int 0)).b))/\(vI ((i1.getD 0 (.int 0)).n)=vI ((r.getD 2 (.int 0)).n))/\(vI ((i1.getD 1 (.int 0)).n)=vI ((r.getD 3 (.int 0)).n))/\(vI ((i1.getD 2 (.int 0)).n)=vI ((r.getD 4 (.int 0)).n))/\(vI ((i1.getD 3 (.int 0)).n)=vI ((r.getD 5 (.int 0)).n))/\(i2=(r.getD 6 (.int 0)).r)/\(i3=(r.getD 7 (.int 0)).r)/\(i4=(r.getD 8 (.int 0)).r)/\(i5=(r.getD 9 (.int 0)).r)/\(i6=(r.getD 10 (.int 0)).r)))))))) (by kernel_rfl) ?_
 delta vI
 have hz:=szrSlice hpre.1
 have hs:=hpre.2
 have hp:=hasSlice hpre.1
 obtain ⟨p0,p1,p2,p3,p4,p5,p6,p7,p8,p9,p10⟩:=hp
 refine ⟨([Dat.int ((r.getD 2 (.int 0)).n),Dat.int ((r.getD 3 (.int 0)).n),Dat.int ((r.getD 4 (.int 0)).n),Dat.int ((r.getD 5 (.int 0)).n)]:List Dat),by
  rfl,by
  try dsimp only [toBox_con]
  simp [hasRow,Dat.has,szRow,Dat.sz];done,?_⟩
 refine ⟨((r.getD 6 (.int 0)).r),by
  rfl,by
  show ((r.getD 6 (.int 0)).r).length+szRows ((r.getD 6 (.int 0)).r)<=1048576
  omega,?_⟩
 refine ⟨((r.getD 7 (.int 0)).r),by
  rfl,by
  try dsimp only [toCellS_con]
  exact ⟨p7,by omega⟩,?_⟩
 refine ⟨((r.getD 8 (.int 0)).r),by
  rfl,by
  try dsimp only [toWallS_con]
  exact ⟨p8,by omega⟩,?_⟩
 refine ⟨((r.getD 9 (.int 0)).r),by
  rfl,by
  show Dat.has (.sl 101 [.int,.int]) (.sl ((r.getD 9 (.int 0)).r))/\((r.getD 9 (.int 0)).r).length+szRows ((r.getD 9 (.int 0)).r)<=1048576
  exact ⟨p9,by omega⟩,?_⟩
 refine ⟨((r.getD 10 (.int 0)).r),by
  rfl,by
  show ((r.getD 10 (.int 0)).r).length+szRows ((r.getD 10 (.int 0)).r)<=1048576
  omega,?_⟩
 refine ⟨rfl,rfl,?_,?_,?_,?_,rfl,rfl,rfl,rfl,rfl⟩
 ·rfl
 ·rfl
 ·rfl
 rfl
def eqSlice_con:Con:={ ι:=(List Dat),pre:=λ i=>hasRow [.int,.bool,.int,.int,.int,.int,.sl 77 [.sl 23 [.int,.int]],.sl 84 [.bool,.sl 3 [.int],.sl 3 [.int],.bool,.sl 3 [.int],.sl 3 [.int],.bool,.sl 3 [.int],.sl 3 [.int],.bool,.sl 3 [.int],.sl 3 [.int],.bool,.sl 3 [.int],.sl 3 [.int],.bool,.sl 3 [.int],.sl 3 [.int]],.sl 87 [.bool,.sl 3 [.int],.sl 3 [.int],.bool,.sl 3 [.int],.sl 3 [.int],.bool,.sl 3 [.int],.sl 3 [.int]],.sl 101 [.int,.int],.sl 3 [.int]] i,args:=λ i=>[.agg [.im (.int .i64 ((i.getD 0 (.int 0)).n)),.im (.bool ((i.getD 1 (.int 0)).b)),.im (.int .i64 ((i.getD 2 (.int 0)).n)),.im (.int .i64 ((i.getD 3 (.int 0)).n)),.im (.int .i64 ((i.getD 4 (.int 0)).n)),.im (.int .i64 ((i.getD 5 (.int 0)).n)),.sl 89 [.sl 35 [.int,.int]] ((i.getD 6 (.int 0)).r),.sl 95 [.bool,.sl 3 [.int],.sl 3 [.int],.bool,.sl 3 [.int],.sl 3 [.int],.bool,.sl 3 [.int],.sl 3 [.int],.bool,.sl 3 [.int],.sl 3 [.int],.bool,.sl 3 [.int],.sl 3 [.int],.bool,.sl 3 [.int],.sl 3 [.int]] ((i.getD 7 (.int 0)).r),.sl 98 [.bool,.sl 3 [.int],.sl 3 [.int],.bool,.sl 3 [.int],.sl 3 [.int],.bool,.sl 3 [.int],.sl 3 [.int]] ((i.getD 8 (.int 0)).r),.sl 56 [.int,.int] ((i.getD 9 (.int 0)).r),.sl 3 [.int] ((i.getD 10 (.int 0)).r)],.agg [.im (.int .i64 ((i.getD 0 (.int 0)).n)),.im (.bool ((i.getD 1 (.int 0)).b)),.im (.int .i64 ((i.getD 2 (.int 0)).n)),.im (.int .i64 ((i.getD 3 (.int 0)).n)),.im (.int .i64 ((i.getD 4 (.int 0)).n)),.im (.int .i64 ((i.getD 5 (.int 0)).n)),.sl 89 [.sl 35 [.int,.int]] ((i.getD 6 (.int 0)).r),.sl 95 [.bool,.sl 3 [.int],.sl 3 [.int],.bool,.sl 3 [.int],.sl 3 [.int],.bool,.sl 3 [.int],.sl 3 [.int],.bool,.sl 3 [.int],.sl 3 [.int],.bool,.sl 3 [.int],.sl 3 [.int],.bool,.sl 3 [.int],.sl 3 [.int]] ((i.getD 7 (.int 0)).r),.sl 98 [.bool,.sl 3 [.int],.sl 3 [.int],.bool,.sl 3 [.int],.sl 3 [.int],.bool,.sl 3 [.int],.sl 3 [.int]] ((i.getD 8 (.int 0)).r),.sl 56 [.int,.int] ((i.getD 9 (.int 0)).r),.sl 3 [.int] ((i.getD 10 (.int 0)).r)]],res:=λ i=>⟨false,[none],[.im (Value.bool true)]⟩ }
theorem eqSlice_ok:eqSlice_con.Ok Try.prog 10:=by
 refine fok (X:=⟨tt,[(31,eqBox_con),(32,eqVecSS_con),(33,eqCellS_con),(34,eqWallS_con),(35,eqDoorS_con),(9,eqIntS_con)],[],51,[]⟩) mixed tt_ok (CTok.cons eqBox_ok (CTok.cons eqVecSS_ok (CTok.cons eqCellS_ok (CTok.cons eqWallS_ok (CTok.cons eqDoorS_ok (CTok.cons eqIntS_ok (CTok.nil _))))))) Try.func10 (λ _=>[]) ?_
 intro (r:List Dat) hpre
 have hpre:hasRow [.int,.bool,.int,.int,.int,.int,.sl 77 [.sl 23 [.int,.int]],.sl 84 [.bool,.sl 3 [.int],.sl 3 [.int],.bool,.sl 3 [.int],.sl 3 [.int],.bool,.sl 3 [.int],.sl 3 [.int],.bool,.sl 3 [.int],.sl 3 [.int],.bool,.sl 3 [.int],.sl 3 [.int],.bool,.sl 3 [.int],.sl 3 [.int]],.sl 87 [.bool,.sl 3 [.int],.sl 3 [.int],.bool,.sl 3 [.int],.sl 3 [.int],.bool,.sl 3 [.int],.sl 3 [.int]],.sl 101 [.int,.int],.sl 3 [.int]] r:=hpre
 refine by_nf (q:=((((r.getD 0 (.int 0)).n) != ((r.getD 0 (.int 0)).n))=true->((Value.bool false=Value.bool true)))/\((((r.getD 0 (.int 0)).n) != ((r.getD 0 (.int 0)).n))=false->(((((r.getD 1 (.int 0)).b) != ((r.getD 1 (.int 0)).b))=true->((Value.bool false=Value.bool true)))/\((((r.getD 1 (.int 0)).b) != ((r.getD 1 (.int 0)).b))=false->(∃ i1:(List Dat),[DA.agg [cI ((r.getD 2 (.int 0)).n),cI ((r.getD 3 (.int 0)).n),cI ((r.getD 4 (.int 0)).n),cI ((r.getD 5 (.int 0)).n)],DA.agg [cI ((r.getD 2 (.int 0)).n),cI ((r.getD 3 (.int 0)).n),cI ((r.getD 4 (.int 0)).n),cI ((r.getD 5 (.int 0)).n)]]=eqBox_con.args i1/\eqBox_con.pre i1/\(((!true)=true->((Value.bool false=Value.bool true)))/\((!true)=false->(∃ i2:(List (List Dat)),[DA.one (DC.sl 89 [.sl 35 [.int,.int]] ((r.getD 6 (.int 0)).r)),DA.one (DC.sl 89 [.sl 35 [.int,.int]] ((r.getD 6 (.int 0)).r))]=eqVecSS_con.args i2/\eqVecSS_con.pre i2/\(((!true)=true->((Value.bool false=Value.bool true)))/\((!true)=false->(∃ i3:(List (List Dat)),[DA.one (DC.sl 95 [.bool,.sl 3 [.int],.sl 3 [.int],.bool,.sl 3 [.int],.sl 3 [.int],.bool,.sl 3 [.int],.sl 3 [.int],.bool,.sl 3 [.int],.sl 3 [.int],.bool,.sl 3 [.int],.sl 3 [.int],.bool,.sl 3 [.int],.sl 3 [.int]] ((r.getD 7 (.int 0)).r)),DA.one (DC.sl 95 [.bool,.sl 3 [.int],.sl 3 [.int],.bool,.sl 3 [.int],.sl 3 [.int],.bool,.sl 3 [.int],.sl 3 [.int],.bool,.sl 3 [.int],.sl 3 [.int],.bool,.sl 3 [.int],.sl 3 [.int],.bool,.sl 3 [.int],.sl 3 [.int]] ((r.getD 7 (.int 0)).r))]=eqCellS_con.args i3/\eqCellS_con.pre i3/\(((!true)=true->((Value.bool false=Value.bool true)))/\((!true)=false->(∃ i4:(List (List Dat)),[DA.one (DC.sl 98 [.bool,.sl 3 [.int],.sl 3 [.int],.bool,.sl 3 [.int],.sl 3 [.int],.bool,.sl 3 [.int],.sl 3 [.int]] ((r.getD 8 (.int 0)).r)),DA.one (DC.sl 98 [.bool,.sl 3 [.int],.sl 3 [.int],.bool,.sl 3 [.int],.sl 3 [.int],.bool,.sl 3 [.int],.sl 3 [.int]] ((r.getD 8 (.int 0)).r))]=eqWallS_con.args i4/\eqWallS_con.pre i4/\(((!true)=true->((Value.bool false=Value.bool true)))/\((!true)=false->(∃ i5:(List (List Dat)),[DA.one (DC.sl 56 [.int,.int] ((r.getD 9 (.int 0)).r)),DA.one (DC.sl 56 [.int,.int] ((r.getD 9 (.int 0)).r))]=eqDoorS_con.args i5/\eqDoorS_con.pre i5/\(((!true)=true->((Value.bool false=Value.bool true)))/\((!true)=false->(∃ i6:(List (List Dat)),[DA.one (cS ((r.getD 10 (.int 0)).r)),DA.one (cS ((r.getD 10 (.int 0)).r))]=eqIntS_con.args i6/\eqIntS_con.pre i6/\(((!true)=true->((Value.bool false=Value.bool true)))/\((!true)=false->((Value.bool true=Value.bool true)))))))))))))))))))))))) (by kernel_rfl) ?_
 have hp:=hasSlice hpre
 obtain ⟨p0,p1,p2,p3,p4,p5,p6,p7,p8,p9,p10⟩:=hp
 refine ⟨λ c1=>?_,λ c1=>?_⟩
 ·try simp only [nrm] at c1
  exfalso;simp_all;done
 try simp only [nrm] at c1
 refine ⟨λ c3=>?_,λ c3=>?_⟩
 ·try simp only [nrm] at c3
  exfalso;simp_all;done
 try simp only [nrm] at c3
 refine ⟨([Dat.int ((r.getD 2 (.int 0)).n),Dat.int ((r.getD 3 (.int 0)).n),Dat.int ((r.getD 4 (.int 0)).n),Dat.int ((r.getD 5 (.int 0)).n)]:List Dat),by
  rfl,by
  trivial,?_⟩
 refine ⟨λ c8=>?_,λ c8=>?_⟩
 ·try simp only [nrm] at c8
  exfalso;simp_all;done
 try simp only [nrm] at c8
 refine ⟨((r.getD 6 (.int 0)).r),by
  rfl,by
  trivial,?_⟩
 refine ⟨λ c13=>?_,λ c13=>?_⟩
 ·try simp only [nrm] at c13
  exfalso;simp_all;done
 try simp only [nrm] at c13
 refine ⟨((r.getD 7 (.int 0)).r),by
  rfl,by
  exact has_len p7,?_⟩
 refine ⟨λ c18=>?_,λ c18=>?_⟩
 ·try simp only [nrm] at c18
  exfalso;simp_all;done
 try simp only [nrm] at c18
 refine ⟨((r.getD 8 (.int 0)).r),by
  rfl,by
  exact has_len p8,?_⟩
 refine ⟨λ c23=>?_,λ c23=>?_⟩
 ·try simp only [nrm] at c23
  exfalso;simp_all;done
 try simp only [nrm] at c23
 refine ⟨((r.getD 9 (.int 0)).r),by
  rfl,by
  exact has_len p9,?_⟩
 refine ⟨λ c28=>?_,λ c28=>?_⟩
 ·try simp only [nrm] at c28
  exfalso;simp_all;done
 try simp only [nrm] at c28
 refine ⟨((r.getD 10 (.int 0)).r),by
  rfl,by
  trivial,?_⟩
 refine ⟨λ c33=>?_,λ c33=>?_⟩
 ·try simp only [nrm] at c33
  exfalso;simp_all;done
 try simp only [nrm] at c33
 exact rfl
end Go.Proofs.Ytmedodfenejimaa
