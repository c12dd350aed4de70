import Derived.Test.YtlejeadlmpkffaaGreatMaRkT
import Derived.Test.YtlejeadlmpkffaaGreatMaExD
import Derived.Test.YtlejeadlmpkffaaGreatMaRkF
import Derived.Test.YtlejeadlmpkffaaGreatMaRkI
namespace Go.Proofs.YtlejeadlmpkffaaGreat
set_option maxRecDepth 100000
set_option linter.unusedVariables false
set_option linter.unusedSimpArgs false
open Go.RowKit
theorem set_len {l:List (List Dat)} {k:Nat} {z:List Dat} (h:k<=l.length):(l.take k++List.replicate (l.length-k) z).length=l.length:=by rw [List.length_append,List.length_take,List.length_replicate];omega
theorem set_next {l:List (List Dat)} {k:Nat} {z x:List Dat} (h:k<l.length) (e:l.getD k []=x):(l.take k++List.replicate (l.length-k) z).set k x=l.take (k+1)++List.replicate (l.length-(k+1)) z:=by
 have e1:l.length-k=l.length-(k+1)+1:=by omega
 rw [e1,List.replicate_succ,List.set_append_right _ _ (by rw [List.length_take];omega)]
 have e2:k-(l.take k).length=0:=by rw [List.length_take];omega
 rw [e2,List.set_cons_zero,List.take_add_one,← e]
 have e3:l[k]?.toList=[l.getD k []]:=by simp [List.getD,h]
 rw [e3,List.append_assoc,List.singleton_append]
theorem set_next1 {l:List (List Dat)} {k:Nat} {x y:Dat} (h:k<l.length) (e:l.getD k []=[x]):(l.take k++List.replicate (l.length-k) ([y]:List Dat)).set k (((l.take k++List.replicate (l.length-k) ([y]:List Dat)).getD k []).set 0 x)=l.take (k+1)++List.replicate (l.length-(k+1)) [y]:=by
 have e1:(l.take k++List.replicate (l.length-k) ([y]:List Dat)).getD k []=[y]:=by
  rw [show l.length-k=l.length-(k+1)+1 by omega,List.replicate_succ,List.getD,List.getElem?_append_right (by rw [List.length_take];omega),show k-(l.take k).length=0 by rw [List.length_take];omega]
  rfl
 rw [e1]
 exact set_next h e
theorem set_all {l:List (List Dat)} {k:Nat} {z:List Dat} (h:l.length<=k):l.take k++List.replicate (l.length-k) z=l:=by
 rw [List.take_of_length_le h,show l.length-k=0 by omega];simp
theorem one_int {r:List Dat} (h0:hasRow [.int] r):r=[Dat.int ((r.getD 0 (.int 0)).n)]:=by
 obtain ⟨_,_,rfl,q0,h1⟩:=h0.cons
 obtain ⟨_,rfl⟩:=Dat.has_int q0
 obtain rfl:=h1.nil
 rfl
theorem two_int {r:List Dat} (h0:hasRow [.int,.int] r):r=[Dat.int ((r.getD 0 (.int 0)).n),Dat.int ((r.getD 1 (.int 0)).n)]:=by
 obtain ⟨_,_,rfl,q0,h1⟩:=h0.cons
 obtain ⟨_,rfl⟩:=Dat.has_int q0
 obtain ⟨_,_,rfl,q1,h2⟩:=h1.cons
 obtain ⟨_,rfl⟩:=Dat.has_int q1
 obtain rfl:=h2.nil
 rfl
def szIntS_con:Con:={ ι:=(List (List Dat))×Int,pre:=λ i=>Dat.has (.sl 3 [.int]) (.sl i.1)/\0<=i.2/\i.2<=1048576,args:=λ i=>[.one (.sl 3 [.int] i.1),.one (.im (.int .i64 i.2))],res:=λ i=>⟨false,[none],[.im (Value.int .i64 (szR (i.1.length+szRows i.1) i.2))]⟩ }
theorem szIntS_ok:szIntS_con.Ok Tryz.prog 30:=by
 refine fok (X:=⟨tt,[],[],12,[]⟩) mixed tt_ok (CTok.nil _) Tryz.func30 (λ _=>[]) ?_
 rintro ⟨l,n⟩ hpre
 have hpre:Dat.has (.sl 3 [.int]) (.sl l)/\0<=n/\n<=1048576:=hpre
 refine by_nf (q:=((decide ((wR (n-(nI l.length)))<(0:Int)))=true->((vI (-1:Int)=vI (szR (l.length+szRows l) n))))/\((decide ((wR (n-(nI l.length)))<(0:Int)))=false->((vI (wR (n-(nI l.length)))=vI (szR (l.length+szRows l) n))))) (by kernel_rfl) ?_
 delta vI wR nI
 obtain ⟨hh,h0,h1⟩:=hpre
 have hz:=has_leaf (by decide) hh
 simp only [Dat.has] at hh
 obtain ⟨hl,-⟩:=hh
 have hw:IntKind.i64.wrap (n-(l.length:Int))=n-l.length:=wrap64 (by omega) (by omega)
 refine ⟨λ c1=>?_,λ c1=>?_⟩
 ·try simp only [nrm] at c1
  refine vint ?_;try rw [hw] at *;grind [szR]
 try simp only [nrm] at c1
 refine vint ?_;try rw [hw] at *;grind [szR]
def szVecS_con:Con:={ ι:=(List (List Dat))×Int,pre:=λ i=>Dat.has (.sl 38 [.int,.int]) (.sl i.1)/\0<=i.2/\i.2<=1048576,args:=λ i=>[.one (.sl 23 [.int,.int] i.1),.one (.im (.int .i64 i.2))],res:=λ i=>⟨false,[none],[.im (Value.int .i64 (szR (i.1.length+szRows i.1) i.2))]⟩ }
theorem szVecS_ok:szVecS_con.Ok Tryz.prog 12:=by
 refine fok (X:=⟨tt,[],[],12,[]⟩) mixed tt_ok (CTok.nil _) Tryz.func12 (λ _=>[]) ?_
 rintro ⟨l,n⟩ hpre
 have hpre:Dat.has (.sl 38 [.int,.int]) (.sl l)/\0<=n/\n<=1048576:=hpre
 refine by_nf (q:=((decide ((wR (n-(nI l.length)))<(0:Int)))=true->((vI (-1:Int)=vI (szR (l.length+szRows l) n))))/\((decide ((wR (n-(nI l.length)))<(0:Int)))=false->((vI (wR (n-(nI l.length)))=vI (szR (l.length+szRows l) n))))) (by kernel_rfl) ?_
 delta vI wR nI
 obtain ⟨hh,h0,h1⟩:=hpre
 have hz:=has_leaf (by decide) hh
 simp only [Dat.has] at hh
 obtain ⟨hl,-⟩:=hh
 have hw:IntKind.i64.wrap (n-(l.length:Int))=n-l.length:=wrap64 (by omega) (by omega)
 refine ⟨λ c1=>?_,λ c1=>?_⟩
 ·try simp only [nrm] at c1
  refine vint ?_;try rw [hw] at *;grind [szR]
 try simp only [nrm] at c1
 refine vint ?_;try rw [hw] at *;grind [szR]
def szBigInt_con:Con:={ ι:=BigD×Int,pre:=λ i=>hasRow [.bool,.sl 3 [.int]] [.bool i.1.neg,.sl i.1.num]/\0<=i.2/\i.2<=1048576,args:=λ i=>[.agg [.im (.bool i.1.neg),.sl 3 [.int] i.1.num],.one (.im (.int .i64 i.2))],res:=λ i=>⟨false,[none],[.im (Value.int .i64 (szR (szRow [.bool i.1.neg,.sl i.1.num]) i.2))]⟩ }
theorem szBigInt_ok:szBigInt_con.Ok Tryz.prog 29:=by
 refine fok (X:=⟨tt,[(30,szIntS_con)],[],12,[]⟩) mixed tt_ok (CTok.cons szIntS_ok (CTok.nil _)) Tryz.func29 (λ _=>[]) ?_
 rintro ⟨b,n⟩ hpre
 have hpre:hasRow [.bool,.sl 3 [.int]] [.bool b.neg,.sl b.num]/\0<=n/\n<=1048576:=hpre
 refine by_nf (q:=∃ i1:(List (List Dat))×Int,[DA.one (cS b.num),DA.one (cI n)]=szIntS_con.args i1/\szIntS_con.pre i1/\(((decide ((szR (i1.1.length+szRows i1.1) i1.2)<(0:Int)))=true->((vI (-1:Int)=vI (szR (szRow [.bool b.neg,.sl b.num]) n))))/\((decide ((szR (i1.1.length+szRows i1.1) i1.2)<(0:Int)))=false->((vI (szR (i1.1.length+szRows i1.1) i1.2)=vI (szR (szRow [.bool b.neg,.sl b.num]) n)))))) (by kernel_rfl) ?_
 delta vI
 obtain ⟨hh,h0,h1⟩:=hpre
 simp only [hasRow] at hh
 refine ⟨(b.num,n),by
  rfl,by
  show Dat.has (.sl 3 [.int]) (.sl b.num)/\0<=n/\n<=1048576
  refine ⟨?_,?_,?_⟩ <;> first|(simp only [hasRow];simp only [hh,and_self];done)|exact hh.1|exact hh.2.1|exact hh.2.2.1|exact hh.2.2.2.1|exact hh.2.2.2.2.1|exact hh.2.2.2.2.2.1|exact hh.2.2.2.2.2.2.1|omega|(unfold szR;grind)|(simp [hh];done),?_⟩
 refine ⟨λ c4=>?_,λ c4=>?_⟩
 ·replace c4:(decide ((szR (b.num.length+szRows b.num) n)<(0:Int)))=true:=c4
  try simp only [nrm] at c4
  refine vint ?_;try simp only [szRow,Dat.sz,Nat.add_zero,Nat.zero_add] at *;all_goals grind [szR]
 replace c4:(decide ((szR (b.num.length+szRows b.num) n)<(0:Int)))=false:=c4
 try simp only [nrm] at c4
 show Value.int .i64 (szR (b.num.length+szRows b.num) n)=Value.int .i64 (szR (szRow [.bool b.neg,.sl b.num]) n)
 refine vint ?_;try simp only [szRow,Dat.sz,Nat.add_zero,Nat.zero_add] at *;all_goals grind [szR]
def szRat_con:Con:={ ι:=RatD×Int,pre:=λ i=>hasRow [.bool,.sl 3 [.int],.sl 3 [.int]] [.bool i.1.neg,.sl i.1.num,.sl i.1.den]/\0<=i.2/\i.2<=1048576,args:=λ i=>[.agg [.im (.bool i.1.neg),.sl 3 [.int] i.1.num,.sl 3 [.int] i.1.den],.one (.im (.int .i64 i.2))],res:=λ i=>⟨false,[none],[.im (Value.int .i64 (szR (szRow [.bool i.1.neg,.sl i.1.num,.sl i.1.den]) i.2))]⟩ }
theorem szRat_ok:szRat_con.Ok Tryz.prog 14:=by
 refine fok (X:=⟨tt,[(29,szBigInt_con),(30,szIntS_con)],[],18,[]⟩) mixed tt_ok (CTok.cons szBigInt_ok (CTok.cons szIntS_ok (CTok.nil _))) Tryz.func14 (λ _=>[]) ?_
 rintro ⟨r,n⟩ hpre
 have hpre:hasRow [.bool,.sl 3 [.int],.sl 3 [.int]] [.bool r.neg,.sl r.num,.sl r.den]/\0<=n/\n<=1048576:=hpre
 refine by_nf (q:=∃ i1:BigD×Int,[DA.agg [cB r.neg,cS r.num],DA.one (cI n)]=szBigInt_con.args i1/\szBigInt_con.pre i1/\(((decide ((szR (szRow [.bool i1.1.neg,.sl i1.1.num]) i1.2)<(0:Int)))=true->((vI (-1:Int)=vI (szR (szRow [.bool r.neg,.sl r.num,.sl r.den]) n))))/\((decide ((szR (szRow [.bool i1.1.neg,.sl i1.1.num]) i1.2)<(0:Int)))=false->(∃ i2:(List (List Dat))×Int,[DA.one (cS r.den),DA.one (cI (szR (szRow [.bool i1.1.neg,.sl i1.1.num]) i1.2))]=szIntS_con.args i2/\szIntS_con.pre i2/\(((decide ((szR (i2.1.length+szRows i2.1) i2.2)<(0:Int)))=true->((vI (-1:Int)=vI (szR (szRow [.bool r.neg,.sl r.num,.sl r.den]) n))))/\((decide ((szR (i2.1.length+szRows i2.1) i2.2)<(0:Int)))=false->((vI (szR (i2.1.length+szRows i2.1) i2.2)=vI (szR (szRow [.bool r.neg,.sl r.num,.sl r.den]) n))))))))) (by kernel_rfl) ?_
 delta vI
 obtain ⟨hh,h0,h1⟩:=hpre
 simp only [hasRow] at hh
 refine ⟨(BigD.mk r.neg r.num,n),by
  rfl,by
  show hasRow [.bool,.sl 3 [.int]] [.bool (BigD.mk r.neg r.num).neg,.sl (BigD.mk r.neg r.num).num]/\0<=n/\n<=1048576
  refine ⟨?_,?_,?_⟩ <;> first|(simp only [hasRow];simp only [hh,and_self];done)|exact hh.1|exact hh.2.1|exact hh.2.2.1|exact hh.2.2.2.1|exact hh.2.2.2.2.1|exact hh.2.2.2.2.2.1|exact hh.2.2.2.2.2.2.1|omega|(unfold szR;grind)|(simp [hh];done),?_⟩
 refine ⟨λ c4=>?_,λ c4=>?_⟩
 ·replace c4:(decide ((szR (szRow [.bool (BigD.mk r.neg r.num).neg,.sl (BigD.mk r.neg r.num).num]) n)<(0:Int)))=true:=c4
  try simp only [nrm] at c4
  refine vint ?_;try simp only [szRow,Dat.sz,Nat.add_zero,Nat.zero_add] at *;all_goals grind [szR]
 replace c4:(decide ((szR (szRow [.bool (BigD.mk r.neg r.num).neg,.sl (BigD.mk r.neg r.num).num]) n)<(0:Int)))=false:=c4
 try simp only [nrm] at c4
 refine ⟨(r.den,(szR (szRow [.bool (BigD.mk r.neg r.num).neg,.sl (BigD.mk r.neg r.num).num]) n)),by
  rfl,by
  try dsimp only [szIntS_con]
  refine ⟨?_,?_,?_⟩ <;> first|(simp only [hasRow];simp only [hh,and_self];done)|exact hh.1|exact hh.2.1|exact hh.2.2.1|exact hh.2.2.2.1|exact hh.2.2.2.2.1|exact hh.2.2.2.2.2.1|exact hh.2.2.2.2.2.2.1|omega|(unfold szR;grind)|(simp [hh];done),?_⟩
 refine ⟨λ c9=>?_,λ c9=>?_⟩
 ·replace c9:(decide ((szR (r.den.length+szRows r.den) (szR (szRow [.bool (BigD.mk r.neg r.num).neg,.sl (BigD.mk r.neg r.num).num]) n))<(0:Int)))=true:=c9
  try simp only [nrm] at c9
  refine vint ?_;try simp only [szRow,Dat.sz,Nat.add_zero,Nat.zero_add] at *;all_goals grind [szR]
 replace c9:(decide ((szR (r.den.length+szRows r.den) (szR (szRow [.bool (BigD.mk r.neg r.num).neg,.sl (BigD.mk r.neg r.num).num]) n))<(0:Int)))=false:=c9
 try simp only [nrm] at c9
 refine vint ?_;try simp only [szRow,Dat.sz,Nat.add_zero,Nat.zero_add] at *;all_goals grind [szR]
def szPoint_con:Con:={ ι:=PtD×Int,pre:=λ i=>hasRow [.bool,.sl 3 [.int],.sl 3 [.int],.bool,.sl 3 [.int],.sl 3 [.int]] [.bool i.1.x.neg,.sl i.1.x.num,.sl i.1.x.den,.bool i.1.y.neg,.sl i.1.y.num,.sl i.1.y.den]/\0<=i.2/\i.2<=1048576,args:=λ i=>[.agg [.im (.bool i.1.x.neg),.sl 3 [.int] i.1.x.num,.sl 3 [.int] i.1.x.den,.im (.bool i.1.y.neg),.sl 3 [.int] i.1.y.num,.sl 3 [.int] i.1.y.den],.one (.im (.int .i64 i.2))],res:=λ i=>⟨false,[none],[.im (Value.int .i64 (szR (szRow [.bool i.1.x.neg,.sl i.1.x.num,.sl i.1.x.den,.bool i.1.y.neg,.sl i.1.y.num,.sl i.1.y.den]) i.2))]⟩ }
theorem szPoint_ok:szPoint_con.Ok Tryz.prog 5:=by
 refine fok (X:=⟨tt,[(14,szRat_con)],[],18,[]⟩) mixed tt_ok (CTok.cons szRat_ok (CTok.nil _)) Tryz.func5 (λ _=>[]) ?_
 rintro ⟨p,n⟩ hpre
 have hpre:hasRow [.bool,.sl 3 [.int],.sl 3 [.int],.bool,.sl 3 [.int],.sl 3 [.int]] [.bool p.x.neg,.sl p.x.num,.sl p.x.den,.bool p.y.neg,.sl p.y.num,.sl p.y.den]/\0<=n/\n<=1048576:=hpre
 refine by_nf (q:=∃ i1:RatD×Int,[DA.agg [cB p.x.neg,cS p.x.num,cS p.x.den],DA.one (cI n)]=szRat_con.args i1/\szRat_con.pre i1/\(((decide ((szR (szRow [.bool i1.1.neg,.sl i1.1.num,.sl i1.1.den]) i1.2)<(0:Int)))=true->((vI (-1:Int)=vI (szR (szRow [.bool p.x.neg,.sl p.x.num,.sl p.x.den,.bool p.y.neg,.sl p.y.num,.sl p.y.den]) n))))/\((decide ((szR (szRow [.bool i1.1.neg,.sl i1.1.num,.sl i1.1.den]) i1.2)<(0:Int)))=false->(∃ i2:RatD×Int,[DA.agg [cB p.y.neg,cS p.y.num,cS p.y.den],DA.one (cI (szR (szRow [.bool i1.1.neg,.sl i1.1.num,.sl i1.1.den]) i1.2))]=szRat_con.args i2/\szRat_con.pre i2/\(((decide ((szR (szRow [.bool i2.1.neg,.sl i2.1.num,.sl i2.1.den]) i2.2)<(0:Int)))=true->((vI (-1:Int)=vI (szR (szRow [.bool p.x.neg,.sl p.x.num,.sl p.x.den,.bool p.y.neg,.sl p.y.num,.sl p.y.den]) n))))/\((decide ((szR (szRow [.bool i2.1.neg,.sl i2.1.num,.sl i2.1.den]) i2.2)<(0:Int)))=false->((vI (szR (szRow [.bool i2.1.neg,.sl i2.1.num,.sl i2.1.den]) i2.2)=vI (szR (szRow [.bool p.x.neg,.sl p.x.num,.sl p.x.den,.bool p.y.neg,.sl p.y.num,.sl p.y.den]) n))))))))) (by kernel_rfl) ?_
 delta vI
 obtain ⟨hh,h0,h1⟩:=hpre
 simp only [hasRow] at hh
 refine ⟨(p.x,n),by
  rfl,by
  show hasRow [.bool,.sl 3 [.int],.sl 3 [.int]] [.bool p.x.neg,.sl p.x.num,.sl p.x.den]/\0<=n/\n<=1048576
  refine ⟨?_,?_,?_⟩ <;> first|(simp only [hasRow];simp only [hh,and_self];done)|exact hh.1|exact hh.2.1|exact hh.2.2.1|exact hh.2.2.2.1|exact hh.2.2.2.2.1|exact hh.2.2.2.2.2.1|exact hh.2.2.2.2.2.2.1|omega|(unfold szR;grind)|(simp [hh];done),?_⟩
 refine ⟨λ c4=>?_,λ c4=>?_⟩
 ·replace c4:(decide ((szR (szRow [.bool p.x.neg,.sl p.x.num,.sl p.x.den]) n)<(0:Int)))=true:=c4
  try simp only [nrm] at c4
  refine vint ?_;try simp only [szRow,Dat.sz,Nat.add_zero,Nat.zero_add] at *;all_goals grind [szR]
 replace c4:(decide ((szR (szRow [.bool p.x.neg,.sl p.x.num,.sl p.x.den]) n)<(0:Int)))=false:=c4
 try simp only [nrm] at c4
 refine ⟨(p.y,(szR (szRow [.bool p.x.neg,.sl p.x.num,.sl p.x.den]) n)),by
  rfl,by
  try dsimp only [szRat_con]
  refine ⟨?_,?_,?_⟩ <;> first|(simp only [hasRow];simp only [hh,and_self];done)|exact hh.1|exact hh.2.1|exact hh.2.2.1|exact hh.2.2.2.1|exact hh.2.2.2.2.1|exact hh.2.2.2.2.2.1|exact hh.2.2.2.2.2.2.1|omega|(unfold szR;grind)|(simp [hh];done),?_⟩
 refine ⟨λ c9=>?_,λ c9=>?_⟩
 ·replace c9:(decide ((szR (szRow [.bool p.y.neg,.sl p.y.num,.sl p.y.den]) (szR (szRow [.bool p.x.neg,.sl p.x.num,.sl p.x.den]) n))<(0:Int)))=true:=c9
  try simp only [nrm] at c9
  refine vint ?_;try simp only [szRow,Dat.sz,Nat.add_zero,Nat.zero_add] at *;all_goals grind [szR]
 replace c9:(decide ((szR (szRow [.bool p.y.neg,.sl p.y.num,.sl p.y.den]) (szR (szRow [.bool p.x.neg,.sl p.x.num,.sl p.x.den]) n))<(0:Int)))=false:=c9
 try simp only [nrm] at c9
 refine vint ?_;try simp only [szRow,Dat.sz,Nat.add_zero,Nat.zero_add] at *;all_goals grind [szR]
def toIntS_con:Con:={ ι:=(List (List Dat)),pre:=λ i=>Dat.has (.sl 3 [.int]) (.sl i)/\i.length+szRows i<=1048576,args:=λ i=>[.one (.sl 3 [.int] i)],res:=λ i=>⟨false,[none],[.own 3 [.int] i]⟩ }
theorem toIntS_ok:toIntS_con.Ok Tryz.prog 37:=by
 refine fok (X:=⟨tt,[],[],22,[]⟩) mixed tt_ok (CTok.nil _) Tryz.func37 (λ (i:(List (List Dat)))=>[(3,.mk 3 (Nat) (λ x1=>{ tm:=[(0,.one (.one (.ext 1))),(3,.one (.one (.ext 2))),(4,.one (.one (.im (Value.int .i64 ((x1:Nat):Int)))))],en:=[(1,.view 3 [.int] i []),(2,.own 3 [.int] (i.take x1++List.replicate (i.length-x1) ([Dat.int (0:Int)]:List Dat)))] }) (λ x1=>x1<=i.length) (λ x1=>i.length-x1) (λ _=>[]))]) ?_
 intro (l:List (List Dat)) hpre
 have hpre:Dat.has (.sl 3 [.int]) (.sl l)/\l.length+szRows l<=1048576:=hpre
 refine by_nf (q:=(0<=(nI l.length))/\(((nI l.length)<=(nI l.length))/\(((nI l.length)<=1073741824)/\((∃ x1:Nat,(x1<=l.length)/\((vI (0:Int)=vI (nI x1))/\(rf (l))/\((List.replicate l.length [Dat.int (0:Int)])=(l.take x1++List.replicate (l.length-x1) ([Dat.int (0:Int)]:List Dat)))))/\∀ x1:Nat,(x1<=l.length)->(((decide ((nI x1)<(nI l.length)))=true->((0<=(nI x1)/\(nI x1)<(l.length:Int))/\((x1<l.length)/\((0<=(nI x1)/\(nI x1)<((l.take x1++List.replicate (l.length-x1) ([Dat.int (0:Int)]:List Dat)).length:Int))/\((x1<(l.take x1++List.replicate (l.length-x1) ([Dat.int (0:Int)]:List Dat)).length)/\(∃ y2:Nat,(y2<=l.length)/\(l.length-y2<l.length-x1)/\((vI (wR ((nI x1)+(1:Int)))=vI (nI y2))/\(rf (l))/\(((l.take x1++List.replicate (l.length-x1) ([Dat.int (0:Int)]:List Dat)).set x1 (((l.take x1++List.replicate (l.length-x1) ([Dat.int (0:Int)]:List Dat)).getD x1 []).set 0 (Dat.int ((((l.getD x1 []).getD 0 (.int 0))).n))))=(l.take y2++List.replicate (l.length-y2) ([Dat.int (0:Int)]:List Dat))))))))))/\((decide ((nI x1)<(nI l.length)))=false->(((l.take x1++List.replicate (l.length-x1) ([Dat.int (0:Int)]:List Dat))=l)))))))) (by kernel_rfl) ?_
 delta vI wR nI
 have hh2:=has_rows hpre.1
 have hl:=hpre.2
 refine ao (by omega) λ o1=>?_
 refine ao (by omega) λ o2=>?_
 refine ao (by omega) λ o3=>?_
 refine ⟨⟨0,by
  omega,?_⟩,?_⟩
 ·refine ⟨?_,rfl,?_⟩
  ·rfl
  rfl
 intro (k:Nat) hki4
 have hki4:k<=l.length:=hki4
 refine And.symm ⟨λ c9=>?_,λ c9=>?_⟩
 ·try simp only [nrm] at c9
  exact set_all (by omega)
 try simp only [nrm] at c9
 refine ao (by omega) λ o10=>?_
 refine ao (by omega) λ o11=>?_
 refine ao (by rw [set_len (by omega)];omega) λ o12=>?_
 refine ao (by omega) λ o13=>?_
 refine ⟨k+1,by
  trivial,by
  omega,?_⟩
 refine ⟨?_,rfl,?_⟩
 ·exact vint (wrap64 (by omega) (by omega))
 exact set_next1 (by omega) (one_int (hh2 k (by omega)))
def eqIntS_con:Con:={ ι:=(List (List Dat)),pre:=λ i=>Dat.has (.sl 3 [.int]) (.sl i),args:=λ i=>[.one (.sl 3 [.int] i),.one (.sl 3 [.int] i)],res:=λ i=>⟨false,[none],[.im (Value.bool true)]⟩ }
theorem eqIntS_ok:eqIntS_con.Ok Tryz.prog 48:=by
 refine fok (X:=⟨tt,[],[],26,[]⟩) mixed tt_ok (CTok.nil _) Tryz.func48 (λ (i:(List (List Dat)))=>[(4,.mk 3 (Nat) (λ x1=>{ tm:=[(0,.one (.one (.ext 1))),(1,.one (.one (.ext 2))),(5,.one (.one (.im (Value.int .i64 ((x1:Nat):Int)))))],en:=[(1,.view 3 [.int] i []),(2,.view 3 [.int] i [])] }) (λ x1=>x1<=i.length) (λ x1=>i.length-x1) (λ _=>[]))]) ?_
 intro (l:List (List Dat)) hpre
 have hpre:Dat.has (.sl 3 [.int]) (.sl l):=hpre
 refine by_nf (q:=(((nI l.length) != (nI l.length))=true->((Value.bool false=Value.bool true)))/\(((nI l.length) != (nI l.length))=false->((∃ x1:Nat,(x1<=l.length)/\((vI (0:Int)=vI (nI x1))/\(rf (l))/\(rf (l))))/\∀ x1:Nat,(x1<=l.length)->(((decide ((nI x1)<(nI l.length)))=true->((0<=(nI x1)/\(nI x1)<(l.length:Int))/\((x1<l.length)/\((0<=(nI x1)/\(nI x1)<(l.length:Int))/\((x1<l.length)/\((((((l.getD x1 []).getD 0 (.int 0))).n != (((l.getD x1 []).getD 0 (.int 0))).n)=true->((Value.bool false=Value.bool true)))/\(((((l.getD x1 []).getD 0 (.int 0))).n != (((l.getD x1 []).getD 0 (.int 0))).n)=false->(∃ y2:Nat,(y2<=l.length)/\(l.length-y2<l.length-x1)/\((vI (wR ((nI x1)+(1:Int)))=vI (nI y2))/\(rf (l))/\(rf (l)))))))))))/\((decide ((nI x1)<(nI l.length)))=false->((Value.bool true=Value.bool true))))))) (by kernel_rfl) ?_
 delta vI wR nI
 have hl:=has_len hpre
 have hh2:=has_rows hpre
 refine ⟨λ c1=>?_,λ c1=>?_⟩
 ·try simp only [nrm] at c1
  exfalso;simp_all;done
 try simp only [nrm] at c1
 refine ⟨⟨0,by
  omega,?_⟩,?_⟩
 ·refine ⟨?_,rfl,rfl⟩
  rfl
 intro (k:Nat) hki3
 have hki3:k<=l.length:=hki3
 refine And.symm ⟨λ c8=>?_,λ c8=>?_⟩
 ·try simp only [nrm] at c8
  exact rfl
 try simp only [nrm] at c8
 refine ao (by omega) λ o9=>?_
 refine ao (by omega) λ o10=>?_
 refine ao (by omega) λ o11=>?_
 refine ao (by omega) λ o12=>?_
 refine ⟨λ c13=>?_,λ c13=>?_⟩
 ·try simp only [nrm] at c13
  exfalso;simp_all;done
 try simp only [nrm] at c13
 refine ⟨k+1,by
  trivial,by
  omega,?_⟩
 refine ⟨?_,rfl,rfl⟩
 exact vint (wrap64 (by omega) (by omega))
def toVec_con:Con:={ ι:=(Int×Int),pre:=λ i=>True,args:=λ i=>[.agg [.im (.int .i64 i.1),.im (.int .i64 i.2)]],res:=λ i=>⟨false,[some 2],[.im (Value.int .i64 i.1),.im (Value.int .i64 i.2)]⟩ }
theorem toVec_ok:toVec_con.Ok Tryz.prog 18:=by
 refine fok (X:=⟨tt,[],[],11,[]⟩) mixed tt_ok (CTok.nil _) Tryz.func18 (λ _=>[]) ?_
 intro (p:Int×Int) hpre
 have hpre:True:=hpre
 refine by_nf (q:=(vI p.1=vI p.1)/\(vI p.2=vI p.2)) (by kernel_rfl) ?_
 delta vI
 exact ⟨rfl,rfl⟩
def eqVec_con:Con:={ ι:=(Int×Int),pre:=λ i=>True,args:=λ i=>[.agg [.im (.int .i64 i.1),.im (.int .i64 i.2)],.agg [.im (.int .i64 i.1),.im (.int .i64 i.2)]],res:=λ i=>⟨false,[none],[.im (Value.bool true)]⟩ }
theorem eqVec_ok:eqVec_con.Ok Tryz.prog 25:=by
 refine fok (X:=⟨tt,[],[],15,[]⟩) mixed tt_ok (CTok.nil _) Tryz.func25 (λ _=>[]) ?_
 intro (p:Int×Int) hpre
 have hpre:True:=hpre
 refine by_nf (q:=((p.1 != p.1)=true->((Value.bool false=Value.bool true)))/\((p.1 != p.1)=false->(((p.2 != p.2)=true->((Value.bool false=Value.bool true)))/\((p.2 != p.2)=false->((Value.bool true=Value.bool true)))))) (by kernel_rfl) ?_
 refine ⟨λ c1=>?_,λ c1=>?_⟩
 ·try simp only [nrm] at c1
  exfalso;simp_all;done
 try simp only [nrm] at c1
 refine ⟨λ c3=>?_,λ c3=>?_⟩
 ·try simp only [nrm] at c3
  exfalso;simp_all;done
 try simp only [nrm] at c3
 exact rfl
def toVecS_con:Con:={ ι:=(List (List Dat)),pre:=λ i=>Dat.has (.sl 38 [.int,.int]) (.sl i)/\i.length+szRows i<=1048576,args:=λ i=>[.one (.sl 23 [.int,.int] i)],res:=λ i=>⟨false,[none],[.own 38 [.int,.int] i]⟩ }
theorem toVecS_ok:toVecS_con.Ok Tryz.prog 19:=by
 refine fok (X:=⟨tt,[(18,toVec_con)],[],23,[]⟩) mixed tt_ok (CTok.cons toVec_ok (CTok.nil _)) Tryz.func19 (λ (i:(List (List Dat)))=>[(3,.mk 3 (Nat) (λ x1=>{ tm:=[(0,.one (.one (.ext 1))),(3,.one (.one (.ext 2))),(4,.one (.one (.im (Value.int .i64 ((x1:Nat):Int)))))],en:=[(1,.view 23 [.int,.int] i []),(2,.own 38 [.int,.int] (i.take x1++List.replicate (i.length-x1) ([Dat.int (0:Int),Dat.int (0:Int)]:List Dat)))] }) (λ x1=>x1<=i.length) (λ x1=>i.length-x1) (λ _=>[]))]) ?_
 intro (l:List (List Dat)) hpre
 have hpre:Dat.has (.sl 38 [.int,.int]) (.sl l)/\l.length+szRows l<=1048576:=hpre
 refine by_nf (q:=(0<=(nI l.length))/\(((nI l.length)<=(nI l.length))/\(((nI l.length)<=1073741824)/\((∃ x1:Nat,(x1<=l.length)/\((vI (0:Int)=vI (nI x1))/\(rf (l))/\((List.replicate l.length [Dat.int (0:Int),Dat.int (0:Int)])=(l.take x1++List.replicate (l.length-x1) ([Dat.int (0:Int),Dat.int (0:Int)]:List Dat)))))/\∀ x1:Nat,(x1<=l.length)->(((decide ((nI x1)<(nI l.length)))=true->((0<=(nI x1)/\(nI x1)<(l.length:Int))/\((x1<l.length)/\(∃ i1:(Int×Int),[DA.agg [cI ((((l.getD x1 []).getD 0 (.int 0))).n),cI ((((l.getD x1 []).getD 1 (.int 0))).n)]]=toVec_con.args i1/\toVec_con.pre i1/\((0<=(nI x1)/\(nI x1)<((l.take x1++List.replicate (l.length-x1) ([Dat.int (0:Int),Dat.int (0:Int)]:List Dat)).length:Int))/\((x1<(l.take x1++List.replicate (l.length-x1) ([Dat.int (0:Int),Dat.int (0:Int)]:List Dat)).length)/\(∃ y2:Nat,(y2<=l.length)/\(l.length-y2<l.length-x1)/\((vI (wR ((nI x1)+(1:Int)))=vI (nI y2))/\(rf (l))/\(((l.take x1++List.replicate (l.length-x1) ([Dat.int (0:Int),Dat.int (0:Int)]:List Dat)).set x1 [Dat.int i1.1,Dat.int i1.2])=(l.take y2++List.replicate (l.length-y2) ([Dat.int (0:Int),Dat.int (0:Int)]:List Dat)))))))))))/\((decide ((nI x1)<(nI l.length)))=false->(((l.take x1++List.replicate (l.length-x1) ([Dat.int (0:Int),Dat.int (0:Int)]:List Dat))=l)))))))) (by kernel_rfl) ?_
 delta vI wR nI
 have hh2:=has_rows hpre.1
 have hl:=hpre.2
 refine ao (by omega) λ o1=>?_
 refine ao (by omega) λ o2=>?_
 refine ao (by omega) λ o3=>?_
 refine ⟨⟨0,by
  omega,?_⟩,?_⟩
 ·refine ⟨?_,rfl,?_⟩
  ·rfl
  rfl
 intro (k:Nat) hki4
 have hki4:k<=l.length:=hki4
 refine And.symm ⟨λ c9=>?_,λ c9=>?_⟩
 ·try simp only [nrm] at c9
  exact set_all (by omega)
 try simp only [nrm] at c9
 refine ao (by omega) λ o10=>?_
 refine ao (by omega) λ o11=>?_
 refine ⟨((((l.getD k []).getD 0 (.int 0))).n,(((l.getD k []).getD 1 (.int 0))).n),by
  rfl,by
  trivial,?_⟩
 refine ao (by rw [set_len (by omega)];omega) λ o15=>?_
 refine ao (by omega) λ o16=>?_
 refine ⟨k+1,by
  trivial,by
  omega,?_⟩
 refine ⟨?_,rfl,?_⟩
 ·exact vint (wrap64 (by omega) (by omega))
 exact set_next (by omega) (two_int (hh2 k (by omega)))
def eqVecS_con:Con:={ ι:=(List (List Dat)),pre:=λ i=>Dat.has (.sl 38 [.int,.int]) (.sl i),args:=λ i=>[.one (.sl 38 [.int,.int] i),.one (.sl 38 [.int,.int] i)],res:=λ i=>⟨false,[none],[.im (Value.bool true)]⟩ }
theorem eqVecS_ok:eqVecS_con.Ok Tryz.prog 26:=by
 refine fok (X:=⟨tt,[(25,eqVec_con)],[],27,[]⟩) mixed tt_ok (CTok.cons eqVec_ok (CTok.nil _)) Tryz.func26 (λ (i:(List (List Dat)))=>[(4,.mk 3 (Nat) (λ x1=>{ tm:=[(0,.one (.one (.ext 1))),(1,.one (.one (.ext 2))),(5,.one (.one (.im (Value.int .i64 ((x1:Nat):Int)))))],en:=[(1,.view 38 [.int,.int] i []),(2,.view 38 [.int,.int] i [])] }) (λ x1=>x1<=i.length) (λ x1=>i.length-x1) (λ _=>[]))]) ?_
 intro (l:List (List Dat)) hpre
 have hpre:Dat.has (.sl 38 [.int,.int]) (.sl l):=hpre
 refine by_nf (q:=(((nI l.length) != (nI l.length))=true->((Value.bool false=Value.bool true)))/\(((nI l.length) != (nI l.length))=false->((∃ x1:Nat,(x1<=l.length)/\((vI (0:Int)=vI (nI x1))/\(rf (l))/\(rf (l))))/\∀ x1:Nat,(x1<=l.length)->(((decide ((nI x1)<(nI l.length)))=true->((0<=(nI x1)/\(nI x1)<(l.length:Int))/\((x1<l.length)/\((0<=(nI x1)/\(nI x1)<(l.length:Int))/\((x1<l.length)/\(∃ i1:(Int×Int),[DA.agg [cI ((((l.getD x1 []).getD 0 (.int 0))).n),cI ((((l.getD x1 []).getD 1 (.int 0))).n)],DA.agg [cI ((((l.getD x1 []).getD 0 (.int 0))).n),cI ((((l.getD x1 []).getD 1 (.int 0))).n)]]=eqVec_con.args i1/\eqVec_con.pre i1/\(((!true)=true->((Value.bool false=Value.bool true)))/\((!true)=false->(∃ y2:Nat,(y2<=l.length)/\(l.length-y2<l.length-x1)/\((vI (wR ((nI x1)+(1:Int)))=vI (nI y2))/\(rf (l))/\(rf (l))))))))))))/\((decide ((nI x1)<(nI l.length)))=false->((Value.bool true=Value.bool true))))))) (by kernel_rfl) ?_
 delta vI wR nI
 have hl:=has_len hpre
 have hh2:=has_rows hpre
 refine ⟨λ c1=>?_,λ c1=>?_⟩
 ·try simp only [nrm] at c1
  exfalso;simp_all;done
 try simp only [nrm] at c1
 refine ⟨⟨0,by
  omega,?_⟩,?_⟩
 ·refine ⟨?_,rfl,rfl⟩
  rfl
 intro (k:Nat) hki3
 have hki3:k<=l.length:=hki3
 refine And.symm ⟨λ c8=>?_,λ c8=>?_⟩
 ·try simp only [nrm] at c8
  exact rfl
 try simp only [nrm] at c8
 refine ao (by omega) λ o9=>?_
 refine ao (by omega) λ o10=>?_
 refine ao (by omega) λ o11=>?_
 refine ao (by omega) λ o12=>?_
 refine ⟨((((l.getD k []).getD 0 (.int 0))).n,(((l.getD k []).getD 1 (.int 0))).n),by
  rfl,by
  trivial,?_⟩
 refine ⟨λ c16=>?_,λ c16=>?_⟩
 ·try simp only [nrm] at c16
  exfalso;simp_all;done
 try simp only [nrm] at c16
 refine ⟨k+1,by
  trivial,by
  omega,?_⟩
 refine ⟨?_,rfl,rfl⟩
 exact vint (wrap64 (by omega) (by omega))
def toVecSS_con:Con:={ ι:=(List (List Dat)),pre:=λ i=>Dat.has (.sl 39 [.sl 38 [.int,.int]]) (.sl i)/\i.length+szRows i<=1048576,args:=λ i=>[.one (.sl 24 [.sl 23 [.int,.int]] i)],res:=λ i=>⟨false,[none],[.own 39 [.sl 38 [.int,.int]] i]⟩ }
theorem toVecSS_ok:toVecSS_con.Ok Tryz.prog 20:=by
 refine fok (X:=⟨tt,[(19,toVecS_con)],[],23,[]⟩) mixed tt_ok (CTok.cons toVecS_ok (CTok.nil _)) Tryz.func20 (λ (i:(List (List Dat)))=>[(3,.mk 3 (Nat) (λ x1=>{ tm:=[(0,.one (.one (.ext 1))),(3,.one (.one (.ext 2))),(4,.one (.one (.im (Value.int .i64 ((x1:Nat):Int)))))],en:=[(1,.view 24 [.sl 23 [.int,.int]] i []),(2,.own 39 [.sl 38 [.int,.int]] (i.take x1++List.replicate (i.length-x1) ([Dat.sl ([]:List (List Dat))]:List Dat)))] }) (λ x1=>x1<=i.length) (λ x1=>i.length-x1) (λ _=>[]))]) ?_
 intro (l:List (List Dat)) hpre
 have hpre:Dat.has (.sl 39 [.sl 38 [.int,.int]]) (.sl l)/\l.length+szRows l<=1048576:=hpre
 refine by_nf (q:=(0<=(nI l.length))/\(((nI l.length)<=(nI l.length))/\(((nI l.length)<=1073741824)/\((∃ x1:Nat,(x1<=l.length)/\((vI (0:Int)=vI (nI x1))/\(rf (l))/\((List.replicate l.length [Dat.sl []])=(l.take x1++List.replicate (l.length-x1) ([Dat.sl ([]:List (List Dat))]:List Dat)))))/\∀ x1:Nat,(x1<=l.length)->(((decide ((nI x1)<(nI l.length)))=true->((0<=(nI x1)/\(nI x1)<(l.length:Int))/\((x1<l.length)/\(∃ i1:(List (List Dat)),[DA.one (DC.sl 23 [.int,.int] ((((l.getD x1 []).getD 0 (.int 0))).r))]=toVecS_con.args i1/\toVecS_con.pre i1/\((0<=(nI x1)/\(nI x1)<((l.take x1++List.replicate (l.length-x1) ([Dat.sl ([]:List (List Dat))]:List Dat)).length:Int))/\((x1<(l.take x1++List.replicate (l.length-x1) ([Dat.sl ([]:List (List Dat))]:List Dat)).length)/\(∃ y2:Nat,(y2<=l.length)/\(l.length-y2<l.length-x1)/\((vI (wR ((nI x1)+(1:Int)))=vI (nI y2))/\(rf (l))/\(((l.take x1++List.replicate (l.length-x1) ([Dat.sl ([]:List (List Dat))]:List Dat)).set x1 (((l.take x1++List.replicate (l.length-x1) ([Dat.sl ([]:List (List Dat))]:List Dat)).getD x1 []).set 0 (Dat.sl i1)))=(l.take y2++List.replicate (l.length-y2) ([Dat.sl ([]:List (List Dat))]:List Dat)))))))))))/\((decide ((nI x1)<(nI l.length)))=false->(((l.take x1++List.replicate (l.length-x1) ([Dat.sl ([]:List (List Dat))]:List Dat))=l)))))))) (by kernel_rfl) ?_
 delta vI wR nI
 have hh2:=has_rows hpre.1
 have hl:=hpre.2
 refine ao (by omega) λ o1=>?_
 refine ao (by omega) λ o2=>?_
 refine ao (by omega) λ o3=>?_
 refine ⟨⟨0,by
  omega,?_⟩,?_⟩
 ·refine ⟨?_,rfl,?_⟩
  ·rfl
  rfl
 intro (k:Nat) hki4
 have hki4:k<=l.length:=hki4
 refine And.symm ⟨λ c9=>?_,λ c9=>?_⟩
 ·try simp only [nrm] at c9
  exact set_all (by omega)
 try simp only [nrm] at c9
 refine ao (by omega) λ o10=>?_
 refine ao (by omega) λ o11=>?_
 refine ⟨(((l.getD k []).getD 0 (.int 0))).r,by
  rfl,by
  show Dat.has (.sl 38 [.int,.int]) (.sl ((((l.getD k []).getD 0 (.int 0))).r))/\((((l.getD k []).getD 0 (.int 0))).r).length+szRows ((((l.getD k []).getD 0 (.int 0))).r)<=1048576
  have hrow:=hh2 k (by omega)
  have hs:=szRow_getD_le (l:=l) (k:=k) (by omega)
  rw [← one_row hrow] at hs
  simp only [szRow,Dat.sz] at hs
  exact ⟨by rw [← one_row hrow] at hrow;exact hrow.1,by omega⟩,?_⟩
 refine ao (by rw [set_len (by omega)];omega) λ o15=>?_
 refine ao (by omega) λ o16=>?_
 refine ⟨k+1,by
  trivial,by
  omega,?_⟩
 refine ⟨?_,rfl,?_⟩
 ·exact vint (wrap64 (by omega) (by omega))
 exact set_next1 (by omega) (one_row (hh2 k (by omega))).symm
def eqVecSS_con:Con:={ ι:=(List (List Dat)),pre:=λ i=>Dat.has (.sl 39 [.sl 38 [.int,.int]]) (.sl i),args:=λ i=>[.one (.sl 39 [.sl 38 [.int,.int]] i),.one (.sl 39 [.sl 38 [.int,.int]] i)],res:=λ i=>⟨false,[none],[.im (Value.bool true)]⟩ }
theorem eqVecSS_ok:eqVecSS_con.Ok Tryz.prog 27:=by
 refine fok (X:=⟨tt,[(26,eqVecS_con)],[],27,[]⟩) mixed tt_ok (CTok.cons eqVecS_ok (CTok.nil _)) Tryz.func27 (λ (i:(List (List Dat)))=>[(4,.mk 3 (Nat) (λ x1=>{ tm:=[(0,.one (.one (.ext 1))),(1,.one (.one (.ext 2))),(5,.one (.one (.im (Value.int .i64 ((x1:Nat):Int)))))],en:=[(1,.view 39 [.sl 38 [.int,.int]] i []),(2,.view 39 [.sl 38 [.int,.int]] i [])] }) (λ x1=>x1<=i.length) (λ x1=>i.length-x1) (λ _=>[]))]) ?_
 intro (l:List (List Dat)) hpre
 have hpre:Dat.has (.sl 39 [.sl 38 [.int,.int]]) (.sl l):=hpre
 refine by_nf (q:=(((nI l.length) != (nI l.length))=true->((Value.bool false=Value.bool true)))/\(((nI l.length) != (nI l.length))=false->((∃ x1:Nat,(x1<=l.length)/\((vI (0:Int)=vI (nI x1))/\(rf (l))/\(rf (l))))/\∀ x1:Nat,(x1<=l.length)->(((decide ((nI x1)<(nI l.length)))=true->((0<=(nI x1)/\(nI x1)<(l.length:Int))/\((x1<l.length)/\((0<=(nI x1)/\(nI x1)<(l.length:Int))/\((x1<l.length)/\(∃ i1:(List (List Dat)),[DA.one (DC.sl 38 [.int,.int] ((((l.getD x1 []).getD 0 (.int 0))).r)),DA.one (DC.sl 38 [.int,.int] ((((l.getD x1 []).getD 0 (.int 0))).r))]=eqVecS_con.args i1/\eqVecS_con.pre i1/\(((!true)=true->((Value.bool false=Value.bool true)))/\((!true)=false->(∃ y2:Nat,(y2<=l.length)/\(l.length-y2<l.length-x1)/\((vI (wR ((nI x1)+(1:Int)))=vI (nI y2))/\(rf (l))/\(rf (l))))))))))))/\((decide ((nI x1)<(nI l.length)))=false->((Value.bool true=Value.bool true))))))) (by kernel_rfl) ?_
 delta vI wR nI
 have hl:=has_len hpre
 have hh2:=has_rows hpre
 refine ⟨λ c1=>?_,λ c1=>?_⟩
 ·try simp only [nrm] at c1
  exfalso;simp_all;done
 try simp only [nrm] at c1
 refine ⟨⟨0,by
  omega,?_⟩,?_⟩
 ·refine ⟨?_,rfl,rfl⟩
  rfl
 intro (k:Nat) hki3
 have hki3:k<=l.length:=hki3
 refine And.symm ⟨λ c8=>?_,λ c8=>?_⟩
 ·try simp only [nrm] at c8
  exact rfl
 try simp only [nrm] at c8
 refine ao (by omega) λ o9=>?_
 refine ao (by omega) λ o10=>?_
 refine ao (by omega) λ o11=>?_
 refine ao (by omega) λ o12=>?_
 refine ⟨(((l.getD k []).getD 0 (.int 0))).r,by
  rfl,by
  show Dat.has (.sl 38 [.int,.int]) (.sl ((((l.getD k []).getD 0 (.int 0))).r))
  have hrow:=hh2 k (by omega)
  rw [← one_row hrow] at hrow
  exact hrow.1,?_⟩
 refine ⟨λ c16=>?_,λ c16=>?_⟩
 ·try simp only [nrm] at c16
  exfalso;simp_all;done
 try simp only [nrm] at c16
 refine ⟨k+1,by
  trivial,by
  omega,?_⟩
 refine ⟨?_,rfl,rfl⟩
 exact vint (wrap64 (by omega) (by omega))
def szVecSS_con:Con:={ ι:=(List (List Dat))×Int,pre:=λ i=>Dat.has (.sl 39 [.sl 38 [.int,.int]]) (.sl i.1)/\0<=i.2/\i.2<=1048576,args:=λ i=>[.one (.sl 24 [.sl 23 [.int,.int]] i.1),.one (.im (.int .i64 i.2))],res:=λ i=>⟨false,[none],[.im (Value.int .i64 (szR (i.1.length+szRows i.1) i.2))]⟩ }
theorem szVecSS_ok:szVecSS_con.Ok Tryz.prog 13:=by
 refine fok (X:=⟨tt,[(12,szVecS_con)],[],27,[]⟩) mixed tt_ok (CTok.cons szVecS_ok (CTok.nil _)) Tryz.func13 (λ (i:(List (List Dat))×Int)=>[(5,.mk 2 (Nat×Int) (λ x1=>{ tm:=[(0,.one (.one (.ext 1))),(4,.one (.one (.im (Value.int .i64 (0:Int))))),(5,.one (.one (.im (Value.int .i64 (x1.1:Int))))),(1,.one (.one (.im (Value.int .i64 x1.2))))],en:=[(1,.view 24 [.sl 23 [.int,.int]] i.1 [])] }) (λ x1=>x1.1<=i.1.length/\0<=x1.2/\x1.2+i.1.length+szRows (i.1.take x1.1)=i.2) (λ x1=>i.1.length-x1.1) (λ _=>[]))]) ?_
 rintro ⟨l,n⟩ hpre
 have hpre:Dat.has (.sl 39 [.sl 38 [.int,.int]]) (.sl l)/\0<=n/\n<=1048576:=hpre
 refine by_nf (q:=((decide ((wR (n-(nI l.length)))<(0:Int)))=true->((vI (-1:Int)=vI (szR (l.length+szRows l) n))))/\((decide ((wR (n-(nI l.length)))<(0:Int)))=false->((∃ x1:Nat×Int,(x1.1<=l.length/\0<=x1.2/\x1.2+l.length+szRows (l.take x1.1)=n)/\((rf (vI (0:Int)))/\(vI (0:Int)=vI (x1.1:Int))/\(vI (wR (n-(nI l.length)))=vI x1.2)/\(rf (l))))/\∀ x1:Nat×Int,(x1.1<=l.length/\0<=x1.2/\x1.2+l.length+szRows (l.take x1.1)=n)->(((decide ((x1.1:Int)<(nI l.length)))=true->((0<=(x1.1:Int)/\(x1.1:Int)<(l.length:Int))/\((x1.1<l.length)/\(∃ i1:(List (List Dat))×Int,[DA.one (DC.sl 23 [.int,.int] ((((l.getD x1.1 []).getD 0 (.int 0))).r)),DA.one (cI x1.2)]=szVecS_con.args i1/\szVecS_con.pre i1/\(((decide ((szR (i1.1.length+szRows i1.1) i1.2)<(0:Int)))=true->((vI (-1:Int)=vI (szR (l.length+szRows l) n))))/\((decide ((szR (i1.1.length+szRows i1.1) i1.2)<(0:Int)))=false->(∃ y2:Nat×Int,(y2.1<=l.length/\0<=y2.2/\y2.2+l.length+szRows (l.take y2.1)=n)/\(l.length-y2.1<l.length-x1.1)/\((rf (vI (0:Int)))/\(vI (wR ((x1.1:Int)+(1:Int)))=vI (y2.1:Int))/\(vI (szR (i1.1.length+szRows i1.1) i1.2)=vI y2.2)/\(rf (l))))))))))/\((decide ((x1.1:Int)<(nI l.length)))=false->((vI x1.2=vI (szR (l.length+szRows l) n)))))))) (by kernel_rfl) ?_
 delta vI wR nI
 obtain ⟨hh,h0,h1⟩:=hpre
 have hh2:=has_rows hh
 have hl:=has_len hh
 have hw:IntKind.i64.wrap (n-(l.length:Int))=n-l.length:=wrap64 (by omega) (by omega)
 refine ⟨λ c1=>?_,λ c1=>?_⟩
 ·try simp only [nrm] at c1
  refine vint ?_;try rw [hw] at *;grind [szR]
 try simp only [nrm] at c1
 refine ⟨⟨(0,n-l.length),by
  rw [hw] at c1;simp [szRows];omega,?_⟩,?_⟩
 ·refine ⟨rfl,rfl,?_,rfl⟩
  exact vint hw
 rintro ⟨k,m⟩ hki3
 have hki3:k<=l.length/\0<=m/\m+l.length+szRows (l.take k)=n:=hki3
 have hle:=szRows_take_le l k
 refine And.symm ⟨λ c9=>?_,λ c9=>?_⟩
 ·replace c9:(decide ((k:Int)<((l.length:Nat):Int)))=false:=c9
  try simp only [nrm] at c9
  obtain rfl:k=l.length:=by omega
  rw [List.take_length] at hki3
  refine vint ?_;try rw [hw] at *;grind [szR]
 replace c9:(decide ((k:Int)<((l.length:Nat):Int)))=true:=c9
 try simp only [nrm] at c9
 refine ao (a:=0<=(k:Int)/\(k:Int)<(l.length:Int)) (by omega) λ o10=>?_
 refine ao (a:=k<l.length) (by omega) λ o11=>?_
 refine ⟨(((l.getD k []).getD 0 (.int 0)).r,m),by
  rfl,by
  show Dat.has (.sl 38 [.int,.int]) (.sl (((l.getD k []).getD 0 (.int 0)).r))/\0<=m/\m<=1048576
  refine ⟨?_,by omega,by omega⟩
  have:=hh2 k (by omega)
  rw [← one_row this] at this
  exact this.1,?_⟩
 have hle:=szRows_take_le l (k+1)
 have hts:=szRows_take l k (by omega)
 have hrow:=hh2 k (by omega)
 rw [← one_row hrow] at hts
 have hts:szRows (l.take (k+1))=szRows (l.take k)+((((l.getD k []).getD 0 (.int 0)).r).length+szRows (((l.getD k []).getD 0 (.int 0)).r)):=by first|exact hts|simpa only [szRow,Dat.sz,Nat.add_zero] using hts
 refine ⟨λ c15=>?_,λ c15=>?_⟩
 ·replace c15:(decide ((szR ((((l.getD k []).getD 0 (.int 0)).r).length+szRows (((l.getD k []).getD 0 (.int 0)).r)) m)<(0:Int)))=true:=c15
  try simp only [nrm] at c15
  refine vint ?_;try rw [hw] at *;grind [szR]
 replace c15:(decide ((szR ((((l.getD k []).getD 0 (.int 0)).r).length+szRows (((l.getD k []).getD 0 (.int 0)).r)) m)<(0:Int)))=false:=c15
 try simp only [nrm] at c15
 refine ⟨(k+1,szR ((((l.getD k []).getD 0 (.int 0)).r).length+szRows (((l.getD k []).getD 0 (.int 0)).r)) m),by
  unfold szR at *;grind,by
  omega,?_⟩
 refine ⟨rfl,?_,rfl,rfl⟩
 exact vint (wrap64 (by omega) (by omega))
def szScene_con:Con:={ ι:=Scn×Int,pre:=λ i=>hasRow [.int,.int,.int,.int,.sl 38 [.int,.int],.sl 39 [.sl 38 [.int,.int]],.sl 38 [.int,.int]] [.int i.1.low.1,.int i.1.low.2,.int i.1.high.1,.int i.1.high.2,.sl (vecsD i.1.robot),.sl (areasD i.1.obst),.sl (vecsD i.1.tables)]/\0<=i.2/\i.2<=1048576,args:=λ i=>[.agg [.im (.int .i64 i.1.low.1),.im (.int .i64 i.1.low.2),.im (.int .i64 i.1.high.1),.im (.int .i64 i.1.high.2),.sl 23 [.int,.int] (vecsD i.1.robot),.sl 24 [.sl 23 [.int,.int]] (areasD i.1.obst),.sl 23 [.int,.int] (vecsD i.1.tables)],.one (.im (.int .i64 i.2))],res:=λ i=>⟨false,[none],[.im (Value.int .i64 (szR (szRow [.int i.1.low.1,.int i.1.low.2,.int i.1.high.1,.int i.1.high.2,.sl (vecsD i.1.robot),.sl (areasD i.1.obst),.sl (vecsD i.1.tables)]) i.2))]⟩ }
theorem szScene_ok:szScene_con.Ok Tryz.prog 4:=by
 refine fok (X:=⟨tt,[(12,szVecS_con),(13,szVecSS_con)],[],24,[]⟩) mixed tt_ok (CTok.cons szVecS_ok (CTok.cons szVecSS_ok (CTok.nil _))) Tryz.func4 (λ _=>[]) ?_
 rintro ⟨s,n⟩ hpre
 have hpre:hasRow [.int,.int,.int,.int,.sl 38 [.int,.int],.sl 39 [.sl 38 [.int,.int]],.sl 38 [.int,.int]] [.int s.low.1,.int s.low.2,.int s.high.1,.int s.high.2,.sl (vecsD s.robot),.sl (areasD s.obst),.sl (vecsD s.tables)]/\0<=n/\n<=1048576:=hpre
 refine by_nf (q:=∃ i1:(List (List Dat))×Int,[DA.one (DC.sl 23 [.int,.int] (vecsD s.robot)),DA.one (cI n)]=szVecS_con.args i1/\szVecS_con.pre i1/\(((decide ((szR (i1.1.length+szRows i1.1) i1.2)<(0:Int)))=true->((vI (-1:Int)=vI (szR (szRow [.int s.low.1,.int s.low.2,.int s.high.1,.int s.high.2,.sl (vecsD s.robot),.sl (areasD s.obst),.sl (vecsD s.tables)]) n))))/\((decide ((szR (i1.1.length+szRows i1.1) i1.2)<(0:Int)))=false->(∃ i2:(List (List Dat))×Int,[DA.one (DC.sl 24 [.sl 23 [.int,.int]] (areasD s.obst)),DA.one (cI (szR (i1.1.length+szRows i1.1) i1.2))]=szVecSS_con.args i2/\szVecSS_con.pre i2/\(((decide ((szR (i2.1.length+szRows i2.1) i2.2)<(0:Int)))=true->((vI (-1:Int)=vI (szR (szRow [.int s.low.1,.int s.low.2,.int s.high.1,.int s.high.2,.sl (vecsD s.robot),.sl (areasD s.obst),.sl (vecsD s.tables)]) n))))/\((decide ((szR (i2.1.length+szRows i2.1) i2.2)<(0:Int)))=false->(∃ i3:(List (List Dat))×Int,[DA.one (DC.sl 23 [.int,.int] (vecsD s.tables)),DA.one (cI (szR (i2.1.length+szRows i2.1) i2.2))]=szVecS_con.args i3/\szVecS_con.pre i3/\(((decide ((szR (i3.1.length+szRows i3.1) i3.2)<(0:Int)))=true->((vI (-1:Int)=vI (szR (szRow [.int s.low.1,.int s.low.2,.int s.high.1,.int s.high.2,.sl (vecsD s.robot),.sl (areasD s.obst),.sl (vecsD s.tables)]) n))))/\((decide ((szR (i3.1.length+szRows i3.1) i3.2)<(0:Int)))=false->((vI (szR (i3.1.length+szRows i3.1) i3.2)=vI (szR (szRow [.int s.low.1,.int s.low.2,.int s.high.1,.int s.high.2,.sl (vecsD s.robot),.sl (areasD s.obst),.sl (vecsD s.tables)]) n)))))))))))) (by kernel_rfl) ?_
 delta vI
 obtain ⟨hh,h0,h1⟩:=hpre
 simp only [hasRow] at hh
 refine ⟨((vecsD s.robot),n),by
  rfl,by
  show Dat.has (.sl 38 [.int,.int]) (.sl (vecsD s.robot))/\0<=n/\n<=1048576
  refine ⟨?_,?_,?_⟩ <;> first|(simp only [hasRow];simp only [hh,and_self];done)|exact hh.1|exact hh.2.1|exact hh.2.2.1|exact hh.2.2.2.1|exact hh.2.2.2.2.1|exact hh.2.2.2.2.2.1|exact hh.2.2.2.2.2.2.1|omega|(unfold szR;grind)|(simp [hh];done),?_⟩
 refine ⟨λ c4=>?_,λ c4=>?_⟩
 ·replace c4:(decide ((szR ((vecsD s.robot).length+szRows (vecsD s.robot)) n)<(0:Int)))=true:=c4
  try simp only [nrm] at c4
  refine vint ?_;try simp only [szRow,Dat.sz,Nat.add_zero,Nat.zero_add] at *;all_goals grind [szR]
 replace c4:(decide ((szR ((vecsD s.robot).length+szRows (vecsD s.robot)) n)<(0:Int)))=false:=c4
 try simp only [nrm] at c4
 refine ⟨((areasD s.obst),(szR ((vecsD s.robot).length+szRows (vecsD s.robot)) n)),by
  rfl,by
  show Dat.has (.sl 39 [.sl 38 [.int,.int]]) (.sl (areasD s.obst))/\0<=(szR ((vecsD s.robot).length+szRows (vecsD s.robot)) n)/\(szR ((vecsD s.robot).length+szRows (vecsD s.robot)) n)<=1048576
  refine ⟨?_,?_,?_⟩ <;> first|(simp only [hasRow];simp only [hh,and_self];done)|exact hh.1|exact hh.2.1|exact hh.2.2.1|exact hh.2.2.2.1|exact hh.2.2.2.2.1|exact hh.2.2.2.2.2.1|exact hh.2.2.2.2.2.2.1|omega|(unfold szR;grind)|(simp [hh];done),?_⟩
 refine ⟨λ c9=>?_,λ c9=>?_⟩
 ·replace c9:(decide ((szR ((areasD s.obst).length+szRows (areasD s.obst)) (szR ((vecsD s.robot).length+szRows (vecsD s.robot)) n))<(0:Int)))=true:=c9
  try simp only [nrm] at c9
  refine vint ?_;try simp only [szRow,Dat.sz,Nat.add_zero,Nat.zero_add] at *;all_goals grind [szR]
 replace c9:(decide ((szR ((areasD s.obst).length+szRows (areasD s.obst)) (szR ((vecsD s.robot).length+szRows (vecsD s.robot)) n))<(0:Int)))=false:=c9
 try simp only [nrm] at c9
 refine ⟨((vecsD s.tables),(szR ((areasD s.obst).length+szRows (areasD s.obst)) (szR ((vecsD s.robot).length+szRows (vecsD s.robot)) n))),by
  rfl,by
  try dsimp only [szVecS_con]
  refine ⟨?_,?_,?_⟩ <;> first|(simp only [hasRow];simp only [hh,and_self];done)|exact hh.1|exact hh.2.1|exact hh.2.2.1|exact hh.2.2.2.1|exact hh.2.2.2.2.1|exact hh.2.2.2.2.2.1|exact hh.2.2.2.2.2.2.1|omega|(unfold szR;grind)|(simp [hh];done),?_⟩
 refine ⟨λ c14=>?_,λ c14=>?_⟩
 ·try dsimp only at c14
  try simp only [nrm] at c14
  refine vint ?_;try simp only [szRow,Dat.sz,Nat.add_zero,Nat.zero_add] at *;all_goals grind [szR]
 try dsimp only at c14
 try simp only [nrm] at c14
 refine vint ?_;try simp only [szRow,Dat.sz,Nat.add_zero,Nat.zero_add] at *;all_goals grind [szR]
def toBigInt_con:Con:={ ι:=BigD,pre:=λ i=>hasRow [.bool,.sl 3 [.int]] [.bool i.neg,.sl i.num]/\szRow [.bool i.neg,.sl i.num]<=1048576,args:=λ i=>[.agg [.im (.bool i.neg),.sl 3 [.int] i.num]],res:=λ i=>⟨false,[some 2],[.im (Value.bool i.neg),.own 3 [.int] i.num]⟩ }
theorem toBigInt_ok:toBigInt_con.Ok Tryz.prog 36:=by
 refine fok (X:=⟨tt,[(37,toIntS_con)],[],12,[]⟩) mixed tt_ok (CTok.cons toIntS_ok (CTok.nil _)) Tryz.func36 (λ _=>[]) ?_
 intro (b:BigD) hpre
 have hpre:hasRow [.bool,.sl 3 [.int]] [.bool b.neg,.sl b.num]/\szRow [.bool b.neg,.sl b.num]<=1048576:=hpre
 refine by_nf (q:=∃ i1:(List (List Dat)),[DA.one (cS b.num)]=toIntS_con.args i1/\toIntS_con.pre i1/\((Value.bool b.neg=Value.bool b.neg)/\(i1=b.num))) (by kernel_rfl) ?_
 obtain ⟨hh,hs⟩:=hpre
 simp only [hasRow] at hh
 simp only [szRow,Dat.sz] at hs
 obtain ⟨p0,p1,p2⟩:=hh
 refine ⟨b.num,by
  rfl,by
  exact ⟨p1,by omega⟩,?_⟩
 exact ⟨rfl,rfl⟩
def eqBigInt_con:Con:={ ι:=BigD,pre:=λ i=>hasRow [.bool,.sl 3 [.int]] [.bool i.neg,.sl i.num],args:=λ i=>[.agg [.im (.bool i.neg),.sl 3 [.int] i.num],.agg [.im (.bool i.neg),.sl 3 [.int] i.num]],res:=λ i=>⟨false,[none],[.im (Value.bool true)]⟩ }
theorem eqBigInt_ok:eqBigInt_con.Ok Tryz.prog 47:=by
 refine fok (X:=⟨tt,[(48,eqIntS_con)],[],16,[]⟩) mixed tt_ok (CTok.cons eqIntS_ok (CTok.nil _)) Tryz.func47 (λ _=>[]) ?_
 intro (b:BigD) hpre
 have hpre:hasRow [.bool,.sl 3 [.int]] [.bool b.neg,.sl b.num]:=hpre
 refine by_nf (q:=((b.neg != b.neg)=true->((Value.bool false=Value.bool true)))/\((b.neg != b.neg)=false->(∃ i1:(List (List Dat)),[DA.one (cS b.num),DA.one (cS b.num)]=eqIntS_con.args i1/\eqIntS_con.pre i1/\(((!true)=true->((Value.bool false=Value.bool true)))/\((!true)=false->((Value.bool true=Value.bool true))))))) (by kernel_rfl) ?_
 have hh:=hpre
 simp only [hasRow] at hh
 obtain ⟨p0,p1,p2⟩:=hh
 refine ⟨λ c1=>?_,λ c1=>?_⟩
 ·try simp only [nrm] at c1
  exfalso;simp_all;done
 try simp only [nrm] at c1
 refine ⟨b.num,by
  rfl,by
  trivial,?_⟩
 refine ⟨λ c6=>?_,λ c6=>?_⟩
 ·try simp only [nrm] at c6
  exfalso;simp_all;done
 try simp only [nrm] at c6
 exact rfl
def toRat_con:Con:={ ι:=RatD,pre:=λ i=>hasRow [.bool,.sl 3 [.int],.sl 3 [.int]] [.bool i.neg,.sl i.num,.sl i.den]/\szRow [.bool i.neg,.sl i.num,.sl i.den]<=1048576,args:=λ i=>[.agg [.im (.bool i.neg),.sl 3 [.int] i.num,.sl 3 [.int] i.den]],res:=λ i=>⟨false,[some 3],[.im (Value.bool i.neg),.own 3 [.int] i.num,.own 3 [.int] i.den]⟩ }
theorem toRat_ok:toRat_con.Ok Tryz.prog 21:=by
 refine fok (X:=⟨tt,[(36,toBigInt_con),(37,toIntS_con)],[],13,[]⟩) mixed tt_ok (CTok.cons toBigInt_ok (CTok.cons toIntS_ok (CTok.nil _))) Tryz.func21 (λ _=>[]) ?_
 intro (r:RatD) hpre
 have hpre:hasRow [.bool,.sl 3 [.int],.sl 3 [.int]] [.bool r.neg,.sl r.num,.sl r.den]/\szRow [.bool r.neg,.sl r.num,.sl r.den]<=1048576:=hpre
 refine by_nf (q:=∃ i1:BigD,[DA.agg [cB r.neg,cS r.num]]=toBigInt_con.args i1/\toBigInt_con.pre i1/\(∃ i2:(List (List Dat)),[DA.one (cS r.den)]=toIntS_con.args i2/\toIntS_con.pre i2/\((Value.bool i1.neg=Value.bool r.neg)/\(i1.num=r.num)/\(i2=r.den)))) (by kernel_rfl) ?_
 obtain ⟨hh,hs⟩:=hpre
 simp only [hasRow] at hh
 simp only [szRow,Dat.sz] at hs
 obtain ⟨p0,p1,p2,p3⟩:=hh
 refine ⟨(BigD.mk r.neg r.num),by
  rfl,by
  exact ⟨⟨p0,p1,trivial⟩,by simp only [szRow,Dat.sz];omega⟩,?_⟩
 refine ⟨r.den,by
  rfl,by
  exact ⟨p2,by omega⟩,?_⟩
 refine ⟨?_,?_,rfl⟩
 ·rfl
 rfl
def eqRat_con:Con:={ ι:=RatD,pre:=λ i=>hasRow [.bool,.sl 3 [.int],.sl 3 [.int]] [.bool i.neg,.sl i.num,.sl i.den],args:=λ i=>[.agg [.im (.bool i.neg),.sl 3 [.int] i.num,.sl 3 [.int] i.den],.agg [.im (.bool i.neg),.sl 3 [.int] i.num,.sl 3 [.int] i.den]],res:=λ i=>⟨false,[none],[.im (Value.bool true)]⟩ }
theorem eqRat_ok:eqRat_con.Ok Tryz.prog 28:=by
 refine fok (X:=⟨tt,[(47,eqBigInt_con),(48,eqIntS_con)],[],17,[]⟩) mixed tt_ok (CTok.cons eqBigInt_ok (CTok.cons eqIntS_ok (CTok.nil _))) Tryz.func28 (λ _=>[]) ?_
 intro (r:RatD) hpre
 have hpre:hasRow [.bool,.sl 3 [.int],.sl 3 [.int]] [.bool r.neg,.sl r.num,.sl r.den]:=hpre
 refine by_nf (q:=∃ i1:BigD,[DA.agg [cB r.neg,cS r.num],DA.agg [cB r.neg,cS r.num]]=eqBigInt_con.args i1/\eqBigInt_con.pre i1/\(((!true)=true->((Value.bool false=Value.bool true)))/\((!true)=false->(∃ i2:(List (List Dat)),[DA.one (cS r.den),DA.one (cS r.den)]=eqIntS_con.args i2/\eqIntS_con.pre i2/\(((!true)=true->((Value.bool false=Value.bool true)))/\((!true)=false->((Value.bool true=Value.bool true)))))))) (by kernel_rfl) ?_
 have hh:=hpre
 simp only [hasRow] at hh
 obtain ⟨p0,p1,p2,p3⟩:=hh
 refine ⟨(BigD.mk r.neg r.num),by
  rfl,by
  trivial,?_⟩
 refine ⟨λ c4=>?_,λ c4=>?_⟩
 ·try simp only [nrm] at c4
  exfalso;simp_all;done
 try simp only [nrm] at c4
 refine ⟨r.den,by
  rfl,by
  trivial,?_⟩
 refine ⟨λ c9=>?_,λ c9=>?_⟩
 ·try simp only [nrm] at c9
  exfalso;simp_all;done
 try simp only [nrm] at c9
 exact rfl
def toPoint_con:Con:={ ι:=PtD,pre:=λ i=>hasRow [.bool,.sl 3 [.int],.sl 3 [.int],.bool,.sl 3 [.int],.sl 3 [.int]] [.bool i.x.neg,.sl i.x.num,.sl i.x.den,.bool i.y.neg,.sl i.y.num,.sl i.y.den]/\szRow [.bool i.x.neg,.sl i.x.num,.sl i.x.den,.bool i.y.neg,.sl i.y.num,.sl i.y.den]<=1048576,args:=λ i=>[.agg [.im (.bool i.x.neg),.sl 3 [.int] i.x.num,.sl 3 [.int] i.x.den,.im (.bool i.y.neg),.sl 3 [.int] i.y.num,.sl 3 [.int] i.y.den]],res:=λ i=>⟨false,[some 6],[.im (Value.bool i.x.neg),.own 3 [.int] i.x.num,.own 3 [.int] i.x.den,.im (Value.bool i.y.neg),.own 3 [.int] i.y.num,.own 3 [.int] i.y.den]⟩ }
theorem toPoint_ok:toPoint_con.Ok Tryz.prog 8:=by
 refine fok (X:=⟨tt,[(21,toRat_con)],[],13,[]⟩) mixed tt_ok (CTok.cons toRat_ok (CTok.nil _)) Tryz.func8 (λ _=>[]) ?_
 intro (p:PtD) hpre
 have hpre:hasRow [.bool,.sl 3 [.int],.sl 3 [.int],.bool,.sl 3 [.int],.sl 3 [.int]] [.bool p.x.neg,.sl p.x.num,.sl p.x.den,.bool p.y.neg,.sl p.y.num,.sl p.y.den]/\szRow [.bool p.x.neg,.sl p.x.num,.sl p.x.den,.bool p.y.neg,.sl p.y.num,.sl p.y.den]<=1048576:=hpre
 refine by_nf (q:=∃ i1:RatD,[DA.agg [cB p.x.neg,cS p.x.num,cS p.x.den]]=toRat_con.args i1/\toRat_con.pre i1/\(∃ i2:RatD,[DA.agg [cB p.y.neg,cS p.y.num,cS p.y.den]]=toRat_con.args i2/\toRat_con.pre i2/\((Value.bool i1.neg=Value.bool p.x.neg)/\(i1.num=p.x.num)/\(i1.den=p.x.den)/\(Value.bool i2.neg=Value.bool p.y.neg)/\(i2.num=p.y.num)/\(i2.den=p.y.den)))) (by kernel_rfl) ?_
 obtain ⟨hh,hs⟩:=hpre
 simp only [hasRow] at hh
 simp only [szRow,Dat.sz] at hs
 obtain ⟨p0,p1,p2,p3,p4,p5,p6⟩:=hh
 refine ⟨p.x,by
  rfl,by
  exact ⟨⟨p0,p1,p2,trivial⟩,by simp only [szRow,Dat.sz];omega⟩,?_⟩
 refine ⟨p.y,by
  rfl,by
  exact ⟨⟨p3,p4,p5,trivial⟩,by simp only [szRow,Dat.sz];omega⟩,?_⟩
 exact ⟨rfl,rfl,rfl,rfl,rfl,rfl⟩
def eqPoint_con:Con:={ ι:=PtD,pre:=λ i=>hasRow [.bool,.sl 3 [.int],.sl 3 [.int],.bool,.sl 3 [.int],.sl 3 [.int]] [.bool i.x.neg,.sl i.x.num,.sl i.x.den,.bool i.y.neg,.sl i.y.num,.sl i.y.den],args:=λ i=>[.agg [.im (.bool i.x.neg),.sl 3 [.int] i.x.num,.sl 3 [.int] i.x.den,.im (.bool i.y.neg),.sl 3 [.int] i.y.num,.sl 3 [.int] i.y.den],.agg [.im (.bool i.x.neg),.sl 3 [.int] i.x.num,.sl 3 [.int] i.x.den,.im (.bool i.y.neg),.sl 3 [.int] i.y.num,.sl 3 [.int] i.y.den]],res:=λ i=>⟨false,[none],[.im (Value.bool true)]⟩ }
theorem eqPoint_ok:eqPoint_con.Ok Tryz.prog 11:=by
 refine fok (X:=⟨tt,[(28,eqRat_con)],[],17,[]⟩) mixed tt_ok (CTok.cons eqRat_ok (CTok.nil _)) Tryz.func11 (λ _=>[]) ?_
 intro (p:PtD) hpre
 have hpre:hasRow [.bool,.sl 3 [.int],.sl 3 [.int],.bool,.sl 3 [.int],.sl 3 [.int]] [.bool p.x.neg,.sl p.x.num,.sl p.x.den,.bool p.y.neg,.sl p.y.num,.sl p.y.den]:=hpre
 refine by_nf (q:=∃ i1:RatD,[DA.agg [cB p.x.neg,cS p.x.num,cS p.x.den],DA.agg [cB p.x.neg,cS p.x.num,cS p.x.den]]=eqRat_con.args i1/\eqRat_con.pre i1/\(((!true)=true->((Value.bool false=Value.bool true)))/\((!true)=false->(∃ i2:RatD,[DA.agg [cB p.y.neg,cS p.y.num,cS p.y.den],DA.agg [cB p.y.neg,cS p.y.num,cS p.y.den]]=eqRat_con.args i2/\eqRat_con.pre i2/\(((!true)=true->((Value.bool false=Value.bool true)))/\((!true)=false->((Value.bool true=Value.bool true)))))))) (by kernel_rfl) ?_
 have hh:=hpre
 simp only [hasRow] at hh
 obtain ⟨p0,p1,p2,p3,p4,p5,p6⟩:=hh
 refine ⟨p.x,by
  rfl,by
  trivial,?_⟩
 refine ⟨λ c4=>?_,λ c4=>?_⟩
 ·try simp only [nrm] at c4
  exfalso;simp_all;done
 try simp only [nrm] at c4
 refine ⟨p.y,by
  rfl,by
  trivial,?_⟩
 refine ⟨λ c9=>?_,λ c9=>?_⟩
 ·try simp only [nrm] at c9
  exfalso;simp_all;done
 try simp only [nrm] at c9
 exact rfl
def toScene_con:Con:={ ι:=Scn,pre:=λ i=>hasRow [.int,.int,.int,.int,.sl 38 [.int,.int],.sl 39 [.sl 38 [.int,.int]],.sl 38 [.int,.int]] [.int i.low.1,.int i.low.2,.int i.high.1,.int i.high.2,.sl (vecsD i.robot),.sl (areasD i.obst),.sl (vecsD i.tables)]/\szRow [.int i.low.1,.int i.low.2,.int i.high.1,.int i.high.2,.sl (vecsD i.robot),.sl (areasD i.obst),.sl (vecsD i.tables)]<=1048576,args:=λ i=>[.agg [.im (.int .i64 i.low.1),.im (.int .i64 i.low.2),.im (.int .i64 i.high.1),.im (.int .i64 i.high.2),.sl 23 [.int,.int] (vecsD i.robot),.sl 24 [.sl 23 [.int,.int]] (areasD i.obst),.sl 23 [.int,.int] (vecsD i.tables)]],res:=λ i=>⟨false,[some 7],[.im (Value.int .i64 i.low.1),.im (Value.int .i64 i.low.2),.im (Value.int .i64 i.high.1),.im (Value.int .i64 i.high.2),.own 38 [.int,.int] (vecsD i.robot),.own 39 [.sl 38 [.int,.int]] (areasD i.obst),.own 38 [.int,.int] (vecsD i.tables)]⟩ }
theorem toScene_ok:toScene_con.Ok Tryz.prog 7:=by
 refine fok (X:=⟨tt,[(18,toVec_con),(19,toVecS_con),(20,toVecSS_con)],[],25,[]⟩) mixed tt_ok (CTok.cons toVec_ok (CTok.cons toVecS_ok (CTok.cons toVecSS_ok (CTok.nil _)))) Tryz.func7 (λ _=>[]) ?_
 intro (s:Scn) hpre
 have hpre:hasRow [.int,.int,.int,.int,.sl 38 [.int,.int],.sl 39 [.sl 38 [.int,.int]],.sl 38 [.int,.int]] [.int s.low.1,.int s.low.2,.int s.high.1,.int s.high.2,.sl (vecsD s.robot),.sl (areasD s.obst),.sl (vecsD s.tables)]/\szRow [.int s.low.1,.int s.low.2,.int s.high.1,.int s.high.2,.sl (vecsD s.robot),.sl (areasD s.obst),.sl (vecsD s.tables)]<=1048576:=hpre
 refine by_nf (q:=∃ i1:(Int×Int),[DA.agg [cI s.low.1,cI s.low.2]]=toVec_con.args i1/\toVec_con.pre i1/\(∃ i2:(Int×Int),[DA.agg [cI s.high.1,cI s.high.2]]=toVec_con.args i2/\toVec_con.pre i2/\(∃ i3:(List (List Dat)),[DA.one (DC.sl 23 [.int,.int] (vecsD s.robot))]=toVecS_con.args i3/\toVecS_con.pre i3/\(∃ i4:(List (List Dat)),[DA.one (DC.sl 24 [.sl 23 [.int,.int]] (areasD s.obst))]=toVecSS_con.args i4/\toVecSS_con.pre i4/\(∃ i5:(List (List Dat)),[DA.one (DC.sl 23 [.int,.int] (vecsD s.tables))]=toVecS_con.args i5/\toVecS_con.pre i5/\((vI i1.1=vI s.low.1)/\(vI i1.2=vI s.low.2)/\(vI i2.1=vI s.high.1)/\(vI i2.2=vI s.high.2)/\(i3=vecsD s.robot)/\(i4=areasD s.obst)/\(i5=vecsD s.tables))))))) (by kernel_rfl) ?_
 delta vI
 obtain ⟨hh,hs⟩:=hpre
 simp only [hasRow] at hh
 simp only [szRow,Dat.sz] at hs
 obtain ⟨p0,p1,p2,p3,p4,p5,p6,p7⟩:=hh
 refine ⟨s.low,by
  rfl,by
  trivial,?_⟩
 refine ⟨s.high,by
  rfl,by
  trivial,?_⟩
 refine ⟨(vecsD s.robot),by
  rfl,by
  show Dat.has (.sl 38 [.int,.int]) (.sl (vecsD s.robot))/\(vecsD s.robot).length+szRows (vecsD s.robot)<=1048576
  exact ⟨p4,by omega⟩,?_⟩
 refine ⟨(areasD s.obst),by
  rfl,by
  show Dat.has (.sl 39 [.sl 38 [.int,.int]]) (.sl (areasD s.obst))/\(areasD s.obst).length+szRows (areasD s.obst)<=1048576
  exact ⟨p5,by omega⟩,?_⟩
 refine ⟨(vecsD s.tables),by
  rfl,by
  show Dat.has (.sl 38 [.int,.int]) (.sl (vecsD s.tables))/\(vecsD s.tables).length+szRows (vecsD s.tables)<=1048576
  exact ⟨p6,by omega⟩,?_⟩
 exact ⟨rfl,rfl,rfl,rfl,rfl,rfl,rfl⟩
def eqScene_con:Con:={ ι:=Scn,pre:=λ i=>hasRow [.int,.int,.int,.int,.sl 38 [.int,.int],.sl 39 [.sl 38 [.int,.int]],.sl 38 [.int,.int]] [.int i.low.1,.int i.low.2,.int i.high.1,.int i.high.2,.sl (vecsD i.robot),.sl (areasD i.obst),.sl (vecsD i.tables)],args:=λ i=>[.agg [.im (.int .i64 i.low.1),.im (.int .i64 i.low.2),.im (.int .i64 i.high.1),.im (.int .i64 i.high.2),.sl 38 [.int,.int] (vecsD i.robot),.sl 39 [.sl 38 [.int,.int]] (areasD i.obst),.sl 38 [.int,.int] (vecsD i.tables)],.agg [.im (.int .i64 i.low.1),.im (.int .i64 i.low.2),.im (.int .i64 i.high.1),.im (.int .i64 i.high.2),.sl 38 [.int,.int] (vecsD i.robot),.sl 39 [.sl 38 [.int,.int]] (areasD i.obst),.sl 38 [.int,.int] (vecsD i.tables)]],res:=λ i=>⟨false,[none],[.im (Value.bool true)]⟩ }
theorem eqScene_ok:eqScene_con.Ok Tryz.prog 10:=by
 refine fok (X:=⟨tt,[(25,eqVec_con),(26,eqVecS_con),(27,eqVecSS_con)],[],35,[]⟩) mixed tt_ok (CTok.cons eqVec_ok (CTok.cons eqVecS_ok (CTok.cons eqVecSS_ok (CTok.nil _)))) Tryz.func10 (λ _=>[]) ?_
 intro (s:Scn) hpre
 have hpre:hasRow [.int,.int,.int,.int,.sl 38 [.int,.int],.sl 39 [.sl 38 [.int,.int]],.sl 38 [.int,.int]] [.int s.low.1,.int s.low.2,.int s.high.1,.int s.high.2,.sl (vecsD s.robot),.sl (areasD s.obst),.sl (vecsD s.tables)]:=hpre
 refine by_nf (q:=∃ i1:(Int×Int),[DA.agg [cI s.low.1,cI s.low.2],DA.agg [cI s.low.1,cI s.low.2]]=eqVec_con.args i1/\eqVec_con.pre i1/\(((!true)=true->((Value.bool false=Value.bool true)))/\((!true)=false->(∃ i2:(Int×Int),[DA.agg [cI s.high.1,cI s.high.2],DA.agg [cI s.high.1,cI s.high.2]]=eqVec_con.args i2/\eqVec_con.pre i2/\(((!true)=true->((Value.bool false=Value.bool true)))/\((!true)=false->(∃ i3:(List (List Dat)),[DA.one (DC.sl 38 [.int,.int] (vecsD s.robot)),DA.one (DC.sl 38 [.int,.int] (vecsD s.robot))]=eqVecS_con.args i3/\eqVecS_con.pre i3/\(((!true)=true->((Value.bool false=Value.bool true)))/\((!true)=false->(∃ i4:(List (List Dat)),[DA.one (DC.sl 39 [.sl 38 [.int,.int]] (areasD s.obst)),DA.one (DC.sl 39 [.sl 38 [.int,.int]] (areasD s.obst))]=eqVecSS_con.args i4/\eqVecSS_con.pre i4/\(((!true)=true->((Value.bool false=Value.bool true)))/\((!true)=false->(∃ i5:(List (List Dat)),[DA.one (DC.sl 38 [.int,.int] (vecsD s.tables)),DA.one (DC.sl 38 [.int,.int] (vecsD s.tables))]=eqVecS_con.args i5/\eqVecS_con.pre i5/\(((!true)=true->((Value.bool false=Value.bool true)))/\((!true)=false->((Value.bool true=Value.bool true))))))))))))))))) (by kernel_rfl) ?_
 have hh:=hpre
 simp only [hasRow] at hh
 obtain ⟨p0,p1,p2,p3,p4,p5,p6,p7⟩:=hh
 refine ⟨s.low,by
  rfl,by
  trivial,?_⟩
 refine ⟨λ c4=>?_,λ c4=>?_⟩
 ·try simp only [nrm] at c4
  exfalso;simp_all;done
 try simp only [nrm] at c4
 refine ⟨s.high,by
  rfl,by
  trivial,?_⟩
 refine ⟨λ c9=>?_,λ c9=>?_⟩
 ·try simp only [nrm] at c9
  exfalso;simp_all;done
 try simp only [nrm] at c9
 refine ⟨(vecsD s.robot),by
  rfl,by
  show Dat.has (.sl 38 [.int,.int]) (.sl (vecsD s.robot))
  trivial,?_⟩
 refine ⟨λ c14=>?_,λ c14=>?_⟩
 ·try simp only [nrm] at c14
  exfalso;simp_all;done
 try simp only [nrm] at c14
 refine ⟨(areasD s.obst),by
  rfl,by
  show Dat.has (.sl 39 [.sl 38 [.int,.int]]) (.sl (areasD s.obst))
  trivial,?_⟩
 refine ⟨λ c19=>?_,λ c19=>?_⟩
 ·try simp only [nrm] at c19
  exfalso;simp_all;done
 try simp only [nrm] at c19
 refine ⟨(vecsD s.tables),by
  rfl,by
  show Dat.has (.sl 38 [.int,.int]) (.sl (vecsD s.tables))
  trivial,?_⟩
 refine ⟨λ c24=>?_,λ c24=>?_⟩
 ·try simp only [nrm] at c24
  exfalso;simp_all;done
 try simp only [nrm] at c24
 exact rfl
theorem ptD_eta {ds:List Dat} (h:hasRow [.bool,.sl 3 [.int],.sl 3 [.int],.bool,.sl 3 [.int],.sl 3 [.int]] ds):ds=ptD (ptOf ds):=by
 obtain ⟨_,_,rfl,q0,h0⟩:=h.cons
 obtain ⟨_,rfl⟩:=Dat.has_bool q0
 obtain ⟨_,_,rfl,q1,h1⟩:=h0.cons
 obtain ⟨_,rfl⟩:=Dat.has_sl q1
 obtain ⟨_,_,rfl,q2,h2⟩:=h1.cons
 obtain ⟨_,rfl⟩:=Dat.has_sl q2
 obtain ⟨_,_,rfl,q3,h3⟩:=h2.cons
 obtain ⟨_,rfl⟩:=Dat.has_bool q3
 obtain ⟨_,_,rfl,q4,h4⟩:=h3.cons
 obtain ⟨_,rfl⟩:=Dat.has_sl q4
 obtain ⟨_,_,rfl,q5,h5⟩:=h4.cons
 obtain ⟨_,rfl⟩:=Dat.has_sl q5
 obtain rfl:=hasRow.nil h5
 rfl
theorem pt_has {p:PtD} (h:hasRow [.bool,.sl 3 [.int],.sl 3 [.int],.bool,.sl 3 [.int],.sl 3 [.int]] (ptD p)):p.has:=by
 simp only [ptD,hasRow] at h
 exact ⟨⟨h.2.1,h.2.2.1⟩,h.2.2.2.2.1,h.2.2.2.2.2.1⟩
end Go.Proofs.YtlejeadlmpkffaaGreat
