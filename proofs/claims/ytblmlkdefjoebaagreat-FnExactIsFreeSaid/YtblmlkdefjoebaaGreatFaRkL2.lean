import Derived.Test.YtblmlkdefjoebaaGreatFaRkF
import Derived.Test.YtblmlkdefjoebaaGreatFaExD
import Derived.Test.YtblmlkdefjoebaaGreatFaTyD
import Derived.Test.YtblmlkdefjoebaaGreatFaTyG
namespace Go.Proofs.YtblmlkdefjoebaaGreat
set_option maxRecDepth 100000
set_option linter.unusedVariables false
set_option linter.unusedSimpArgs false
open Go.RowKit
def szIntS_con:Con:={ ι:=(List (List Dat))×Int,pre:=fun i=>Dat.has (.sl 3 [.int]) (.sl i.1)∧0≤i.2∧i.2≤1048576,args:=fun i=>[.one (.sl 3 [.int] i.1),.one (.im (.int .i64 i.2))],res:=fun i=>⟨false,[none],[.im (Value.int .i64 (szR (i.1.length+szRows i.1) i.2))]⟩ }
theorem szIntS_ok:szIntS_con.Ok Tryz.prog 72:=by
 refine fn_ok (X:=⟨tt,[],[],12,[]⟩) mixed tt_ok (CTok.nil _) (InlOk.nil _) Tryz.func72 (by decide) rfl rfl rfl (fun _=>Nat.le_of_ble_eq_true rfl) (fun _=>Nat.le_of_ble_eq_true rfl) (fun _=>[]) ?_
 rintro ⟨l,n⟩ hpre
 have hpre:Dat.has (.sl 3 [.int]) (.sl l)∧0≤n∧n≤1048576:=hpre
 refine by_nf (q:=((decide ((wR (n - (nI l.length))) < (0:Int)))=true→((vI (-1:Int)=vI (szR (l.length+szRows l) n))))∧((decide ((wR (n - (nI l.length))) < (0:Int)))=false→((vI (wR (n - (nI l.length)))=vI (szR (l.length+szRows l) n))))) (by kernel_rfl) ?_
 delta vI wR nI
 obtain ⟨hh,h0,h1⟩:=hpre
 have hz:=has_leaf (by decide) hh
 simp only [Dat.has] at hh
 obtain ⟨hl,-⟩:=hh
 have hw:IntKind.i64.wrap (n - (l.length:Int))=n - l.length:=wrap64 (by omega) (by omega)
 refine ⟨fun c1=>?_,fun c1=>?_⟩
 ·try simp only [nrm] at c1
  refine vint ?_;try rw [hw] at *;grind [szR]
 try simp only [nrm] at c1
 refine vint ?_;try rw [hw] at *;grind [szR]
def szBigInt_con:Con:={ ι:=BigD×Int,pre:=fun i=>hasRow [.bool,.sl 3 [.int]] [.bool i.1.neg,.sl i.1.num]∧0≤i.2∧i.2≤1048576,args:=fun i=>[.agg [.im (.bool i.1.neg),.sl 3 [.int] i.1.num],.one (.im (.int .i64 i.2))],res:=fun i=>⟨false,[none],[.im (Value.int .i64 (szR (szRow [.bool i.1.neg,.sl i.1.num]) i.2))]⟩ }
theorem szBigInt_ok:szBigInt_con.Ok Tryz.prog 133:=by
 refine fn_ok (X:=⟨tt,[(72,szIntS_con)],[],12,[]⟩) mixed tt_ok (CTok.cons szIntS_ok (CTok.nil _)) (InlOk.nil _) Tryz.func133 (by decide) rfl rfl rfl (fun _=>Nat.le_of_ble_eq_true rfl) (fun _=>Nat.le_of_ble_eq_true rfl) (fun _=>[]) ?_
 rintro ⟨b,n⟩ hpre
 have hpre:hasRow [.bool,.sl 3 [.int]] [.bool b.neg,.sl b.num]∧0≤n∧n≤1048576:=hpre
 refine by_nf (q:=∃ i1:(List (List Dat))×Int,[DA.one (cS b.num),DA.one (cI n)]=szIntS_con.args i1∧szIntS_con.pre i1∧(((decide ((szR (i1.1.length+szRows i1.1) i1.2) < (0:Int)))=true→((vI (-1:Int)=vI (szR (szRow [.bool b.neg,.sl b.num]) n))))∧((decide ((szR (i1.1.length+szRows i1.1) i1.2) < (0:Int)))=false→((vI (szR (i1.1.length+szRows i1.1) i1.2)=vI (szR (szRow [.bool b.neg,.sl b.num]) n)))))) (by kernel_rfl) ?_
 delta vI
 obtain ⟨hh,h0,h1⟩:=hpre
 simp only [hasRow] at hh
 refine ⟨(b.num,n),by
  rfl,by
  show Dat.has (.sl 3 [.int]) (.sl b.num)∧0≤n∧n≤1048576
  refine ⟨?_,?_,?_⟩ <;> first|(simp only [hasRow];simp only [hh,and_self];done)|exact hh.1|exact hh.2.1|exact hh.2.2.1|exact hh.2.2.2.1|exact hh.2.2.2.2.1|exact hh.2.2.2.2.2.1|exact hh.2.2.2.2.2.2.1|omega|(unfold szR;grind)|(simp [hh];done),?_⟩
 refine ⟨fun c4=>?_,fun c4=>?_⟩
 ·replace c4:(decide ((szR (b.num.length+szRows b.num) n) < (0:Int)))=true:=c4
  try simp only [nrm] at c4
  refine vint ?_;try simp only [szRow,Dat.sz,Nat.add_zero,Nat.zero_add] at *;all_goals grind [szR]
 replace c4:(decide ((szR (b.num.length+szRows b.num) n) < (0:Int)))=false:=c4
 try simp only [nrm] at c4
 show Value.int .i64 (szR (b.num.length+szRows b.num) n)=Value.int .i64 (szR (szRow [.bool b.neg,.sl b.num]) n)
 refine vint ?_;try simp only [szRow,Dat.sz,Nat.add_zero,Nat.zero_add] at *;all_goals grind [szR]
def szRat_con:Con:={ ι:=RatD×Int,pre:=fun i=>hasRow [.bool,.sl 3 [.int],.sl 3 [.int]] [.bool i.1.neg,.sl i.1.num,.sl i.1.den]∧0≤i.2∧i.2≤1048576,args:=fun i=>[.agg [.im (.bool i.1.neg),.sl 3 [.int] i.1.num,.sl 3 [.int] i.1.den],.one (.im (.int .i64 i.2))],res:=fun i=>⟨false,[none],[.im (Value.int .i64 (szR (szRow [.bool i.1.neg,.sl i.1.num,.sl i.1.den]) i.2))]⟩ }
theorem szRat_ok:szRat_con.Ok Tryz.prog 52:=by
 refine fn_ok (X:=⟨tt,[(133,szBigInt_con),(72,szIntS_con)],[],18,[]⟩) mixed tt_ok (CTok.cons szBigInt_ok (CTok.cons szIntS_ok (CTok.nil _))) (InlOk.nil _) Tryz.func52 (by decide) rfl rfl rfl (fun _=>Nat.le_of_ble_eq_true rfl) (fun _=>Nat.le_of_ble_eq_true rfl) (fun _=>[]) ?_
 rintro ⟨r,n⟩ hpre
 have hpre:hasRow [.bool,.sl 3 [.int],.sl 3 [.int]] [.bool r.neg,.sl r.num,.sl r.den]∧0≤n∧n≤1048576:=hpre
 refine by_nf (q:=∃ i1:BigD×Int,[DA.agg [cB r.neg,cS r.num],DA.one (cI n)]=szBigInt_con.args i1∧szBigInt_con.pre i1∧(((decide ((szR (szRow [.bool i1.1.neg,.sl i1.1.num]) i1.2) < (0:Int)))=true→((vI (-1:Int)=vI (szR (szRow [.bool r.neg,.sl r.num,.sl r.den]) n))))∧((decide ((szR (szRow [.bool i1.1.neg,.sl i1.1.num]) i1.2) < (0:Int)))=false→(∃ i2:(List (List Dat))×Int,[DA.one (cS r.den),DA.one (cI (szR (szRow [.bool i1.1.neg,.sl i1.1.num]) i1.2))]=szIntS_con.args i2∧szIntS_con.pre i2∧(((decide ((szR (i2.1.length+szRows i2.1) i2.2) < (0:Int)))=true→((vI (-1:Int)=vI (szR (szRow [.bool r.neg,.sl r.num,.sl r.den]) n))))∧((decide ((szR (i2.1.length+szRows i2.1) i2.2) < (0:Int)))=false→((vI (szR (i2.1.length+szRows i2.1) i2.2)=vI (szR (szRow [.bool r.neg,.sl r.num,.sl r.den]) n))))))))) (by kernel_rfl) ?_
 delta vI
 obtain ⟨hh,h0,h1⟩:=hpre
 simp only [hasRow] at hh
 refine ⟨(BigD.mk r.neg r.num,n),by
  rfl,by
  show hasRow [.bool,.sl 3 [.int]] [.bool (BigD.mk r.neg r.num).neg,.sl (BigD.mk r.neg r.num).num]∧0≤n∧n≤1048576
  refine ⟨?_,?_,?_⟩ <;> first|(simp only [hasRow];simp only [hh,and_self];done)|exact hh.1|exact hh.2.1|exact hh.2.2.1|exact hh.2.2.2.1|exact hh.2.2.2.2.1|exact hh.2.2.2.2.2.1|exact hh.2.2.2.2.2.2.1|omega|(unfold szR;grind)|(simp [hh];done),?_⟩
 refine ⟨fun c4=>?_,fun c4=>?_⟩
 ·replace c4:(decide ((szR (szRow [.bool (BigD.mk r.neg r.num).neg,.sl (BigD.mk r.neg r.num).num]) n) < (0:Int)))=true:=c4
  try simp only [nrm] at c4
  refine vint ?_;try simp only [szRow,Dat.sz,Nat.add_zero,Nat.zero_add] at *;all_goals grind [szR]
 replace c4:(decide ((szR (szRow [.bool (BigD.mk r.neg r.num).neg,.sl (BigD.mk r.neg r.num).num]) n) < (0:Int)))=false:=c4
 try simp only [nrm] at c4
 refine ⟨(r.den,(szR (szRow [.bool (BigD.mk r.neg r.num).neg,.sl (BigD.mk r.neg r.num).num]) n)),by
  rfl,by
  try dsimp only [szIntS_con]
  refine ⟨?_,?_,?_⟩ <;> first|(simp only [hasRow];simp only [hh,and_self];done)|exact hh.1|exact hh.2.1|exact hh.2.2.1|exact hh.2.2.2.1|exact hh.2.2.2.2.1|exact hh.2.2.2.2.2.1|exact hh.2.2.2.2.2.2.1|omega|(unfold szR;grind)|(simp [hh];done),?_⟩
 refine ⟨fun c9=>?_,fun c9=>?_⟩
 ·replace c9:(decide ((szR (r.den.length+szRows r.den) (szR (szRow [.bool (BigD.mk r.neg r.num).neg,.sl (BigD.mk r.neg r.num).num]) n)) < (0:Int)))=true:=c9
  try simp only [nrm] at c9
  refine vint ?_;try simp only [szRow,Dat.sz,Nat.add_zero,Nat.zero_add] at *;all_goals grind [szR]
 replace c9:(decide ((szR (r.den.length+szRows r.den) (szR (szRow [.bool (BigD.mk r.neg r.num).neg,.sl (BigD.mk r.neg r.num).num]) n)) < (0:Int)))=false:=c9
 try simp only [nrm] at c9
 refine vint ?_;try simp only [szRow,Dat.sz,Nat.add_zero,Nat.zero_add] at *;all_goals grind [szR]
def szPoint_con:Con:={ ι:=PtD×Int,pre:=fun i=>hasRow [.bool,.sl 3 [.int],.sl 3 [.int],.bool,.sl 3 [.int],.sl 3 [.int]] [.bool i.1.x.neg,.sl i.1.x.num,.sl i.1.x.den,.bool i.1.y.neg,.sl i.1.y.num,.sl i.1.y.den]∧0≤i.2∧i.2≤1048576,args:=fun i=>[.agg [.im (.bool i.1.x.neg),.sl 3 [.int] i.1.x.num,.sl 3 [.int] i.1.x.den,.im (.bool i.1.y.neg),.sl 3 [.int] i.1.y.num,.sl 3 [.int] i.1.y.den],.one (.im (.int .i64 i.2))],res:=fun i=>⟨false,[none],[.im (Value.int .i64 (szR (szRow [.bool i.1.x.neg,.sl i.1.x.num,.sl i.1.x.den,.bool i.1.y.neg,.sl i.1.y.num,.sl i.1.y.den]) i.2))]⟩ }
theorem szPoint_ok:szPoint_con.Ok Tryz.prog 31:=by
 refine fn_ok (X:=⟨tt,[(52,szRat_con)],[],18,[]⟩) mixed tt_ok (CTok.cons szRat_ok (CTok.nil _)) (InlOk.nil _) Tryz.func31 (by decide) rfl rfl rfl (fun _=>Nat.le_of_ble_eq_true rfl) (fun _=>Nat.le_of_ble_eq_true rfl) (fun _=>[]) ?_
 rintro ⟨p,n⟩ hpre
 have hpre:hasRow [.bool,.sl 3 [.int],.sl 3 [.int],.bool,.sl 3 [.int],.sl 3 [.int]] [.bool p.x.neg,.sl p.x.num,.sl p.x.den,.bool p.y.neg,.sl p.y.num,.sl p.y.den]∧0≤n∧n≤1048576:=hpre
 refine by_nf (q:=∃ i1:RatD×Int,[DA.agg [cB p.x.neg,cS p.x.num,cS p.x.den],DA.one (cI n)]=szRat_con.args i1∧szRat_con.pre i1∧(((decide ((szR (szRow [.bool i1.1.neg,.sl i1.1.num,.sl i1.1.den]) i1.2) < (0:Int)))=true→((vI (-1:Int)=vI (szR (szRow [.bool p.x.neg,.sl p.x.num,.sl p.x.den,.bool p.y.neg,.sl p.y.num,.sl p.y.den]) n))))∧((decide ((szR (szRow [.bool i1.1.neg,.sl i1.1.num,.sl i1.1.den]) i1.2) < (0:Int)))=false→(∃ i2:RatD×Int,[DA.agg [cB p.y.neg,cS p.y.num,cS p.y.den],DA.one (cI (szR (szRow [.bool i1.1.neg,.sl i1.1.num,.sl i1.1.den]) i1.2))]=szRat_con.args i2∧szRat_con.pre i2∧(((decide ((szR (szRow [.bool i2.1.neg,.sl i2.1.num,.sl i2.1.den]) i2.2) < (0:Int)))=true→((vI (-1:Int)=vI (szR (szRow [.bool p.x.neg,.sl p.x.num,.sl p.x.den,.bool p.y.neg,.sl p.y.num,.sl p.y.den]) n))))∧((decide ((szR (szRow [.bool i2.1.neg,.sl i2.1.num,.sl i2.1.den]) i2.2) < (0:Int)))=false→((vI (szR (szRow [.bool i2.1.neg,.sl i2.1.num,.sl i2.1.den]) i2.2)=vI (szR (szRow [.bool p.x.neg,.sl p.x.num,.sl p.x.den,.bool p.y.neg,.sl p.y.num,.sl p.y.den]) n))))))))) (by kernel_rfl) ?_
 delta vI
 obtain ⟨hh,h0,h1⟩:=hpre
 simp only [hasRow] at hh
 refine ⟨(p.x,n),by
  rfl,by
  show hasRow [.bool,.sl 3 [.int],.sl 3 [.int]] [.bool p.x.neg,.sl p.x.num,.sl p.x.den]∧0≤n∧n≤1048576
  refine ⟨?_,?_,?_⟩ <;> first|(simp only [hasRow];simp only [hh,and_self];done)|exact hh.1|exact hh.2.1|exact hh.2.2.1|exact hh.2.2.2.1|exact hh.2.2.2.2.1|exact hh.2.2.2.2.2.1|exact hh.2.2.2.2.2.2.1|omega|(unfold szR;grind)|(simp [hh];done),?_⟩
 refine ⟨fun c4=>?_,fun c4=>?_⟩
 ·replace c4:(decide ((szR (szRow [.bool p.x.neg,.sl p.x.num,.sl p.x.den]) n) < (0:Int)))=true:=c4
  try simp only [nrm] at c4
  refine vint ?_;try simp only [szRow,Dat.sz,Nat.add_zero,Nat.zero_add] at *;all_goals grind [szR]
 replace c4:(decide ((szR (szRow [.bool p.x.neg,.sl p.x.num,.sl p.x.den]) n) < (0:Int)))=false:=c4
 try simp only [nrm] at c4
 refine ⟨(p.y,(szR (szRow [.bool p.x.neg,.sl p.x.num,.sl p.x.den]) n)),by
  rfl,by
  try dsimp only [szRat_con]
  refine ⟨?_,?_,?_⟩ <;> first|(simp only [hasRow];simp only [hh,and_self];done)|exact hh.1|exact hh.2.1|exact hh.2.2.1|exact hh.2.2.2.1|exact hh.2.2.2.2.1|exact hh.2.2.2.2.2.1|exact hh.2.2.2.2.2.2.1|omega|(unfold szR;grind)|(simp [hh];done),?_⟩
 refine ⟨fun c9=>?_,fun c9=>?_⟩
 ·replace c9:(decide ((szR (szRow [.bool p.y.neg,.sl p.y.num,.sl p.y.den]) (szR (szRow [.bool p.x.neg,.sl p.x.num,.sl p.x.den]) n)) < (0:Int)))=true:=c9
  try simp only [nrm] at c9
  refine vint ?_;try simp only [szRow,Dat.sz,Nat.add_zero,Nat.zero_add] at *;all_goals grind [szR]
 replace c9:(decide ((szR (szRow [.bool p.y.neg,.sl p.y.num,.sl p.y.den]) (szR (szRow [.bool p.x.neg,.sl p.x.num,.sl p.x.den]) n)) < (0:Int)))=false:=c9
 try simp only [nrm] at c9
 refine vint ?_;try simp only [szRow,Dat.sz,Nat.add_zero,Nat.zero_add] at *;all_goals grind [szR]
def szVecS_con:Con:={ ι:=(List (List Dat))×Int,pre:=fun i=>Dat.has (.sl 37 [.int,.int]) (.sl i.1)∧0≤i.2∧i.2≤1048576,args:=fun i=>[.one (.sl 23 [.int,.int] i.1),.one (.im (.int .i64 i.2))],res:=fun i=>⟨false,[none],[.im (Value.int .i64 (szR (i.1.length+szRows i.1) i.2))]⟩ }
theorem szVecS_ok:szVecS_con.Ok Tryz.prog 87:=by
 refine fn_ok (X:=⟨tt,[],[],12,[]⟩) mixed tt_ok (CTok.nil _) (InlOk.nil _) Tryz.func87 (by decide) rfl rfl rfl (fun _=>Nat.le_of_ble_eq_true rfl) (fun _=>Nat.le_of_ble_eq_true rfl) (fun _=>[]) ?_
 rintro ⟨l,n⟩ hpre
 have hpre:Dat.has (.sl 37 [.int,.int]) (.sl l)∧0≤n∧n≤1048576:=hpre
 refine by_nf (q:=((decide ((wR (n - (nI l.length))) < (0:Int)))=true→((vI (-1:Int)=vI (szR (l.length+szRows l) n))))∧((decide ((wR (n - (nI l.length))) < (0:Int)))=false→((vI (wR (n - (nI l.length)))=vI (szR (l.length+szRows l) n))))) (by kernel_rfl) ?_
 delta vI wR nI
 obtain ⟨hh,h0,h1⟩:=hpre
 have hz:=has_leaf (by decide) hh
 simp only [Dat.has] at hh
 obtain ⟨hl,-⟩:=hh
 have hw:IntKind.i64.wrap (n - (l.length:Int))=n - l.length:=wrap64 (by omega) (by omega)
 refine ⟨fun c1=>?_,fun c1=>?_⟩
 ·try simp only [nrm] at c1
  refine vint ?_;try rw [hw] at *;grind [szR]
 try simp only [nrm] at c1
 refine vint ?_;try rw [hw] at *;grind [szR]
def eqPoint_con:Con:={ ι:=PtD,pre:=fun i=>True,args:=fun i=>[.agg [.im (.bool i.x.neg),.sl 3 [.int] i.x.num,.sl 3 [.int] i.x.den,.im (.bool i.y.neg),.sl 3 [.int] i.y.num,.sl 3 [.int] i.y.den],.agg [.im (.bool i.x.neg),.sl 3 [.int] i.x.num,.sl 3 [.int] i.x.den,.im (.bool i.y.neg),.sl 3 [.int] i.y.num,.sl 3 [.int] i.y.den]],res:=fun i=>⟨false,[none],[.im (Value.bool true)]⟩ }
theorem eqPoint_ok:eqPoint_con.Ok Tryz.prog 37:=eqA_ok [.bool,.sl 3 [.int],.sl 3 [.int],.bool,.sl 3 [.int],.sl 3 [.int]] ⟨_,Tryz.func37,by decide,rfl⟩ (fun _=>rfl) (fun _=>rfl) (fun ds vs us w=>eqPoint_c ds vs us w)
def toPoint_con:Con:={ ι:=PtD,pre:=fun i=>szRow [.bool i.x.neg,.sl i.x.num,.sl i.x.den,.bool i.y.neg,.sl i.y.num,.sl i.y.den]≤1048576,args:=fun i=>[.agg [.im (.bool i.x.neg),.sl 3 [.int] i.x.num,.sl 3 [.int] i.x.den,.im (.bool i.y.neg),.sl 3 [.int] i.y.num,.sl 3 [.int] i.y.den]],res:=fun i=>⟨false,[some 6],[.im (Value.bool i.x.neg),.own 3 [.int] i.x.num,.own 3 [.int] i.x.den,.im (Value.bool i.y.neg),.own 3 [.int] i.y.num,.own 3 [.int] i.y.den]⟩ }
theorem toPoint_ok:toPoint_con.Ok Tryz.prog 34:=toA_ok (out:=fun p=>[.im (.bool p.x.neg),.sl 3 [.int] p.x.num,.sl 3 [.int] p.x.den,.im (.bool p.y.neg),.sl 3 [.int] p.y.num,.sl 3 [.int] p.y.den]) [.bool,.sl 3 [.int],.sl 3 [.int],.bool,.sl 3 [.int],.sl 3 [.int]] ⟨_,Tryz.func34,by decide,rfl⟩ (fun _=>rfl) (fun _=>rfl) (fun _=>rfl) (fun _=>rfl) (fun _=>rfl) (fun _=>rfl) (fun _=>rfl) (fun _=>Nat.le_of_ble_eq_true rfl) (fun _ h=>h) (fun ds h vs w=>toPoint_c ds h vs w)
theorem ptD_eta {ds:List Dat} (h:hasRow [.bool,.sl 3 [.int],.sl 3 [.int],.bool,.sl 3 [.int],.sl 3 [.int]] ds):ds=ptD (ptOf ds):=by
 obtain ⟨_,_,rfl,q0,h0⟩:=h.cons
 obtain ⟨_,rfl⟩:=Dat.has_bool q0
 obtain ⟨_,_,rfl,q1,h1⟩:=h0.cons
 obtain ⟨_,rfl⟩:=Dat.has_sl q1
 obtain ⟨_,_,rfl,q2,h2⟩:=h1.cons
 obtain ⟨_,rfl⟩:=Dat.has_sl q2
 obtain ⟨_,_,rfl,q3,h3⟩:=h2.cons
 obtain ⟨_,rfl⟩:=Dat.has_bool q3
 obtain ⟨_,_,rfl,q4,h4⟩:=h3.cons
 obtain ⟨_,rfl⟩:=Dat.has_sl q4
 obtain ⟨_,_,rfl,q5,h5⟩:=h4.cons
 obtain ⟨_,rfl⟩:=Dat.has_sl q5
 obtain rfl:=hasRow.nil h5
 rfl
theorem pt_has {p:PtD} (h:hasRow [.bool,.sl 3 [.int],.sl 3 [.int],.bool,.sl 3 [.int],.sl 3 [.int]] (ptD p)):p.has:=by
 simp only [ptD,hasRow] at h
 exact ⟨⟨h.2.1,h.2.2.1⟩,h.2.2.2.2.1,h.2.2.2.2.2.1⟩
end Go.Proofs.YtblmlkdefjoebaaGreat
