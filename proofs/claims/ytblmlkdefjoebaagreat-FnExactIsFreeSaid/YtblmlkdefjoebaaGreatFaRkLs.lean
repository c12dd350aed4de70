import Derived.Test.YtblmlkdefjoebaaGreatFaRkI
import Derived.Test.YtblmlkdefjoebaaGreatFaRkL2
import Derived.Test.YtblmlkdefjoebaaGreatFaTyI
namespace Go.Proofs.YtblmlkdefjoebaaGreat
set_option maxRecDepth 100000
set_option linter.unusedVariables false
set_option linter.unusedSimpArgs false
open Go.RowKit
def szVecSS_con:Con:={ ι:=(List (List Dat))×Int,pre:=fun i=>Dat.has (.sl 74 [.sl 37 [.int,.int]]) (.sl i.1)∧0≤i.2∧i.2≤1048576,args:=fun i=>[.one (.sl 62 [.sl 23 [.int,.int]] i.1),.one (.im (.int .i64 i.2))],res:=fun i=>⟨false,[none],[.im (Value.int .i64 (szR (i.1.length+szRows i.1) i.2))]⟩ }
theorem szVecSS_ok:szVecSS_con.Ok Tryz.prog 20:=by
 refine fn_ok (X:=⟨tt,[(87,szVecS_con)],[],27,[]⟩) mixed tt_ok (CTok.cons szVecS_ok (CTok.nil _)) (InlOk.nil _) Tryz.func20 (by decide) rfl rfl rfl (fun _=>Nat.le_of_ble_eq_true rfl) (fun _=>Nat.le_of_ble_eq_true rfl) (fun (i:(List (List Dat))×Int)=>[(5,.mk 2 (Nat×Int) (fun x1=>{ tm:=[(0,.one (.one (.ext 1))),(4,.one (.one (.im (Value.int .i64 (0:Int))))),(5,.one (.one (.im (Value.int .i64 (x1.1:Int))))),(1,.one (.one (.im (Value.int .i64 x1.2))))],en:=[(1,.view 62 [.sl 23 [.int,.int]] i.1 [])] }) (fun x1=>x1.1≤i.1.length∧0≤x1.2∧x1.2+i.1.length+szRows (i.1.take x1.1)=i.2) (fun x1=>i.1.length - x1.1) (fun _=>[]))]) ?_
 rintro ⟨l,n⟩ hpre
 have hpre:Dat.has (.sl 74 [.sl 37 [.int,.int]]) (.sl l)∧0≤n∧n≤1048576:=hpre
 refine by_nf (q:=((decide ((wR (n - (nI l.length))) < (0:Int)))=true→((vI (-1:Int)=vI (szR (l.length+szRows l) n))))∧((decide ((wR (n - (nI l.length))) < (0:Int)))=false→((∃ x1:Nat×Int,(x1.1≤l.length∧0≤x1.2∧x1.2+l.length+szRows (l.take x1.1)=n)∧((rf (vI (0:Int)))∧(vI (0:Int)=vI (x1.1:Int))∧(vI (wR (n - (nI l.length)))=vI x1.2)∧(rf (l))))∧∀ x1:Nat×Int,(x1.1≤l.length∧0≤x1.2∧x1.2+l.length+szRows (l.take x1.1)=n)→(((decide ((x1.1:Int) < (nI l.length)))=true→((0≤(x1.1:Int)∧(x1.1:Int) < (l.length:Int))∧((x1.1 < l.length)∧(∃ i1:(List (List Dat))×Int,[DA.one (DC.sl 23 [.int,.int] ((((l.getD x1.1 []).getD 0 (.int 0))).r)),DA.one (cI x1.2)]=szVecS_con.args i1∧szVecS_con.pre i1∧(((decide ((szR (i1.1.length+szRows i1.1) i1.2) < (0:Int)))=true→((vI (-1:Int)=vI (szR (l.length+szRows l) n))))∧((decide ((szR (i1.1.length+szRows i1.1) i1.2) < (0:Int)))=false→(∃ y2:Nat×Int,(y2.1≤l.length∧0≤y2.2∧y2.2+l.length+szRows (l.take y2.1)=n)∧(l.length - y2.1 < l.length - x1.1)∧((rf (vI (0:Int)))∧(vI (wR ((x1.1:Int)+(1:Int)))=vI (y2.1:Int))∧(vI (szR (i1.1.length+szRows i1.1) i1.2)=vI y2.2)∧(rf (l))))))))))∧((decide ((x1.1:Int) < (nI l.length)))=false→((vI x1.2=vI (szR (l.length+szRows l) n)))))))) (by kernel_rfl) ?_
 delta vI wR nI
 obtain ⟨hh,h0,h1⟩:=hpre
 have hh2:=has_rows hh
 have hl:=has_len hh
 have hw:IntKind.i64.wrap (n - (l.length:Int))=n - l.length:=wrap64 (by omega) (by omega)
 refine ⟨fun c1=>?_,fun c1=>?_⟩
 ·try simp only [nrm] at c1
  refine vint ?_;try rw [hw] at *;grind [szR]
 try simp only [nrm] at c1
 refine ⟨⟨(0,n - l.length),by
  rw [hw] at c1;simp [szRows];omega,?_⟩,?_⟩
 ·refine ⟨rfl,rfl,?_,rfl⟩
  exact vint hw
 rintro ⟨k,m⟩ hki3
 have hki3:k≤l.length∧0≤m∧m+l.length+szRows (l.take k)=n:=hki3
 have hle:=szRows_take_le l k
 refine And.symm ⟨fun c9=>?_,fun c9=>?_⟩
 ·replace c9:(decide ((k:Int) < ((l.length:Nat):Int)))=false:=c9
  try simp only [nrm] at c9
  obtain rfl:k=l.length:=by omega
  rw [List.take_length] at hki3
  refine vint ?_;try rw [hw] at *;grind [szR]
 replace c9:(decide ((k:Int) < ((l.length:Nat):Int)))=true:=c9
 try simp only [nrm] at c9
 refine ao (a:=0≤(k:Int)∧(k:Int) < (l.length:Int)) (by omega) fun o10=>?_
 refine ao (a:=k < l.length) (by omega) fun o11=>?_
 refine ⟨(((l.getD k []).getD 0 (.int 0)).r,m),by
  rfl,by
  show Dat.has (.sl 37 [.int,.int]) (.sl (((l.getD k []).getD 0 (.int 0)).r))∧0≤m∧m≤1048576
  refine ⟨?_,by omega,by omega⟩
  have:=hh2 k (by omega)
  rw [← one_row this] at this
  exact this.1,?_⟩
 have hle:=szRows_take_le l (k+1)
 have hts:=szRows_take l k (by omega)
 have hrow:=hh2 k (by omega)
 rw [← one_row hrow] at hts
 have hts:szRows (l.take (k+1))=szRows (l.take k)+((((l.getD k []).getD 0 (.int 0)).r).length+szRows (((l.getD k []).getD 0 (.int 0)).r)):=by first|exact hts|simpa only [szRow,Dat.sz,Nat.add_zero] using hts
 refine ⟨fun c15=>?_,fun c15=>?_⟩
 ·replace c15:(decide ((szR ((((l.getD k []).getD 0 (.int 0)).r).length+szRows (((l.getD k []).getD 0 (.int 0)).r)) m) < (0:Int)))=true:=c15
  try simp only [nrm] at c15
  refine vint ?_;try rw [hw] at *;grind [szR]
 replace c15:(decide ((szR ((((l.getD k []).getD 0 (.int 0)).r).length+szRows (((l.getD k []).getD 0 (.int 0)).r)) m) < (0:Int)))=false:=c15
 try simp only [nrm] at c15
 refine ⟨(k+1,szR ((((l.getD k []).getD 0 (.int 0)).r).length+szRows (((l.getD k []).getD 0 (.int 0)).r)) m),by
  unfold szR at *;grind,by
  omega,?_⟩
 refine ⟨rfl,?_,rfl,rfl⟩
 exact vint (wrap64 (by omega) (by omega))
def szScene_con:Con:={ ι:=Scn×Int,pre:=fun i=>hasRow [.int,.int,.int,.int,.sl 37 [.int,.int],.sl 74 [.sl 37 [.int,.int]],.sl 37 [.int,.int]] [.int i.1.low.1,.int i.1.low.2,.int i.1.high.1,.int i.1.high.2,.sl (vecsD i.1.robot),.sl (areasD i.1.obst),.sl (vecsD i.1.tables)]∧0≤i.2∧i.2≤1048576,args:=fun i=>[.agg [.im (.int .i64 i.1.low.1),.im (.int .i64 i.1.low.2),.im (.int .i64 i.1.high.1),.im (.int .i64 i.1.high.2),.sl 23 [.int,.int] (vecsD i.1.robot),.sl 62 [.sl 23 [.int,.int]] (areasD i.1.obst),.sl 23 [.int,.int] (vecsD i.1.tables)],.one (.im (.int .i64 i.2))],res:=fun i=>⟨false,[none],[.im (Value.int .i64 (szR (szRow [.int i.1.low.1,.int i.1.low.2,.int i.1.high.1,.int i.1.high.2,.sl (vecsD i.1.robot),.sl (areasD i.1.obst),.sl (vecsD i.1.tables)]) i.2))]⟩ }
theorem szScene_ok:szScene_con.Ok Tryz.prog 30:=by
 refine fn_ok (X:=⟨tt,[(87,szVecS_con),(20,szVecSS_con)],[],24,[]⟩) mixed tt_ok (CTok.cons szVecS_ok (CTok.cons szVecSS_ok (CTok.nil _))) (InlOk.nil _) Tryz.func30 (by decide) rfl rfl rfl (fun _=>Nat.le_of_ble_eq_true rfl) (fun _=>Nat.le_of_ble_eq_true rfl) (fun _=>[]) ?_
 rintro ⟨s,n⟩ hpre
 have hpre:hasRow [.int,.int,.int,.int,.sl 37 [.int,.int],.sl 74 [.sl 37 [.int,.int]],.sl 37 [.int,.int]] [.int s.low.1,.int s.low.2,.int s.high.1,.int s.high.2,.sl (vecsD s.robot),.sl (areasD s.obst),.sl (vecsD s.tables)]∧0≤n∧n≤1048576:=hpre
 refine by_nf (q:=∃ i1:(List (List Dat))×Int,[DA.one (DC.sl 23 [.int,.int] (vecsD s.robot)),DA.one (cI n)]=szVecS_con.args i1∧szVecS_con.pre i1∧(((decide ((szR (i1.1.length+szRows i1.1) i1.2) < (0:Int)))=true→((vI (-1:Int)=vI (szR (szRow [.int s.low.1,.int s.low.2,.int s.high.1,.int s.high.2,.sl (vecsD s.robot),.sl (areasD s.obst),.sl (vecsD s.tables)]) n))))∧((decide ((szR (i1.1.length+szRows i1.1) i1.2) < (0:Int)))=false→(∃ i2:(List (List Dat))×Int,[DA.one (DC.sl 62 [.sl 23 [.int,.int]] (areasD s.obst)),DA.one (cI (szR (i1.1.length+szRows i1.1) i1.2))]=szVecSS_con.args i2∧szVecSS_con.pre i2∧(((decide ((szR (i2.1.length+szRows i2.1) i2.2) < (0:Int)))=true→((vI (-1:Int)=vI (szR (szRow [.int s.low.1,.int s.low.2,.int s.high.1,.int s.high.2,.sl (vecsD s.robot),.sl (areasD s.obst),.sl (vecsD s.tables)]) n))))∧((decide ((szR (i2.1.length+szRows i2.1) i2.2) < (0:Int)))=false→(∃ i3:(List (List Dat))×Int,[DA.one (DC.sl 23 [.int,.int] (vecsD s.tables)),DA.one (cI (szR (i2.1.length+szRows i2.1) i2.2))]=szVecS_con.args i3∧szVecS_con.pre i3∧(((decide ((szR (i3.1.length+szRows i3.1) i3.2) < (0:Int)))=true→((vI (-1:Int)=vI (szR (szRow [.int s.low.1,.int s.low.2,.int s.high.1,.int s.high.2,.sl (vecsD s.robot),.sl (areasD s.obst),.sl (vecsD s.tables)]) n))))∧((decide ((szR (i3.1.length+szRows i3.1) i3.2) < (0:Int)))=false→((vI (szR (i3.1.length+szRows i3.1) i3.2)=vI (szR (szRow [.int s.low.1,.int s.low.2,.int s.high.1,.int s.high.2,.sl (vecsD s.robot),.sl (areasD s.obst),.sl (vecsD s.tables)]) n)))))))))))) (by kernel_rfl) ?_
 delta vI
 obtain ⟨hh,h0,h1⟩:=hpre
 simp only [hasRow] at hh
 refine ⟨((vecsD s.robot),n),by
  rfl,by
  show Dat.has (.sl 37 [.int,.int]) (.sl (vecsD s.robot))∧0≤n∧n≤1048576
  refine ⟨?_,?_,?_⟩ <;> first|(simp only [hasRow];simp only [hh,and_self];done)|exact hh.1|exact hh.2.1|exact hh.2.2.1|exact hh.2.2.2.1|exact hh.2.2.2.2.1|exact hh.2.2.2.2.2.1|exact hh.2.2.2.2.2.2.1|omega|(unfold szR;grind)|(simp [hh];done),?_⟩
 refine ⟨fun c4=>?_,fun c4=>?_⟩
 ·replace c4:(decide ((szR ((vecsD s.robot).length+szRows (vecsD s.robot)) n) < (0:Int)))=true:=c4
  try simp only [nrm] at c4
  first|rfl|(refine vint ?_;try simp only [szRow,Dat.sz,Nat.add_zero,Nat.zero_add] at *;all_goals grind [szR])
 replace c4:(decide ((szR ((vecsD s.robot).length+szRows (vecsD s.robot)) n) < (0:Int)))=false:=c4
 try simp only [nrm] at c4
 refine ⟨((areasD s.obst),(szR ((vecsD s.robot).length+szRows (vecsD s.robot)) n)),by
  rfl,by
  show Dat.has (.sl 74 [.sl 37 [.int,.int]]) (.sl (areasD s.obst))∧0≤(szR ((vecsD s.robot).length+szRows (vecsD s.robot)) n)∧(szR ((vecsD s.robot).length+szRows (vecsD s.robot)) n)≤1048576
  refine ⟨?_,?_,?_⟩ <;> first|(simp only [hasRow];simp only [hh,and_self];done)|exact hh.1|exact hh.2.1|exact hh.2.2.1|exact hh.2.2.2.1|exact hh.2.2.2.2.1|exact hh.2.2.2.2.2.1|exact hh.2.2.2.2.2.2.1|omega|(unfold szR;grind)|(simp [hh];done),?_⟩
 refine ⟨fun c9=>?_,fun c9=>?_⟩
 ·replace c9:(decide ((szR ((areasD s.obst).length+szRows (areasD s.obst)) (szR ((vecsD s.robot).length+szRows (vecsD s.robot)) n)) < (0:Int)))=true:=c9
  try simp only [nrm] at c9
  first|rfl|(refine vint ?_;try simp only [szRow,Dat.sz,Nat.add_zero,Nat.zero_add] at *;all_goals grind [szR])
 replace c9:(decide ((szR ((areasD s.obst).length+szRows (areasD s.obst)) (szR ((vecsD s.robot).length+szRows (vecsD s.robot)) n)) < (0:Int)))=false:=c9
 try simp only [nrm] at c9
 refine ⟨((vecsD s.tables),(szR ((areasD s.obst).length+szRows (areasD s.obst)) (szR ((vecsD s.robot).length+szRows (vecsD s.robot)) n))),by
  rfl,by
  try dsimp only [szVecS_con]
  refine ⟨?_,?_,?_⟩ <;> first|(simp only [hasRow];simp only [hh,and_self];done)|exact hh.1|exact hh.2.1|exact hh.2.2.1|exact hh.2.2.2.1|exact hh.2.2.2.2.1|exact hh.2.2.2.2.2.1|exact hh.2.2.2.2.2.2.1|omega|(unfold szR;grind)|(simp [hh];done),?_⟩
 refine ⟨fun c14=>?_,fun c14=>?_⟩
 ·try dsimp only at c14
  try simp only [nrm] at c14
  first|rfl|(refine vint ?_;try simp only [szRow,Dat.sz,Nat.add_zero,Nat.zero_add] at *;all_goals grind [szR])
 try dsimp only at c14
 try simp only [nrm] at c14
 first|rfl|(refine vint ?_;try simp only [szRow,Dat.sz,Nat.add_zero,Nat.zero_add] at *;all_goals grind [szR])
def eqScene_con:Con:={ ι:=Scn,pre:=fun i=>True,args:=fun i=>[.agg [.im (.int .i64 i.low.1),.im (.int .i64 i.low.2),.im (.int .i64 i.high.1),.im (.int .i64 i.high.2),.sl 37 [.int,.int] (vecsD i.robot),.sl 74 [.sl 37 [.int,.int]] (areasD i.obst),.sl 37 [.int,.int] (vecsD i.tables)],.agg [.im (.int .i64 i.low.1),.im (.int .i64 i.low.2),.im (.int .i64 i.high.1),.im (.int .i64 i.high.2),.sl 37 [.int,.int] (vecsD i.robot),.sl 74 [.sl 37 [.int,.int]] (areasD i.obst),.sl 37 [.int,.int] (vecsD i.tables)]],res:=fun i=>⟨false,[none],[.im (Value.bool true)]⟩ }
theorem eqScene_ok:eqScene_con.Ok Tryz.prog 36:=eqA_ok [.int,.int,.int,.int,.sl 37 [.int,.int],.sl 74 [.sl 37 [.int,.int]],.sl 37 [.int,.int]] ⟨_,Tryz.func36,by decide,rfl⟩ (fun _=>rfl) (fun _=>rfl) (fun ds vs us w=>eqScene_c ds vs us w)
def toScene_con:Con:={ ι:=Scn,pre:=fun i=>szRow [.int i.low.1,.int i.low.2,.int i.high.1,.int i.high.2,.sl (vecsD i.robot),.sl (areasD i.obst),.sl (vecsD i.tables)]≤1048576,args:=fun i=>[.agg [.im (.int .i64 i.low.1),.im (.int .i64 i.low.2),.im (.int .i64 i.high.1),.im (.int .i64 i.high.2),.sl 23 [.int,.int] (vecsD i.robot),.sl 62 [.sl 23 [.int,.int]] (areasD i.obst),.sl 23 [.int,.int] (vecsD i.tables)]],res:=fun i=>⟨false,[some 7],[.im (Value.int .i64 i.low.1),.im (Value.int .i64 i.low.2),.im (Value.int .i64 i.high.1),.im (Value.int .i64 i.high.2),.own 37 [.int,.int] (vecsD i.robot),.own 74 [.sl 37 [.int,.int]] (areasD i.obst),.own 37 [.int,.int] (vecsD i.tables)]⟩ }
theorem toScene_ok:toScene_con.Ok Tryz.prog 33:=toA_ok (out:=fun s=>[.im (.int .i64 s.low.1),.im (.int .i64 s.low.2),.im (.int .i64 s.high.1),.im (.int .i64 s.high.2),.sl 37 [.int,.int] (vecsD s.robot),.sl 74 [.sl 37 [.int,.int]] (areasD s.obst),.sl 37 [.int,.int] (vecsD s.tables)]) [.int,.int,.int,.int,.sl 37 [.int,.int],.sl 74 [.sl 37 [.int,.int]],.sl 37 [.int,.int]] ⟨_,Tryz.func33,by decide,rfl⟩ (fun _=>rfl) (fun _=>rfl) (fun _=>rfl) (fun _=>rfl) (fun _=>rfl) (fun _=>rfl) (fun _=>rfl) (fun _=>Nat.le_of_ble_eq_true rfl) (fun _ h=>h) (fun ds h vs w=>toScene_c ds h vs w)
end Go.Proofs.YtblmlkdefjoebaaGreat
