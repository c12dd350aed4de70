import Derived.Test.YtgggkcoljpimcaaDoorCkRkS1
import Derived.Test.YtgggkcoljpimcaaDoorCkFsc
import Derived.Test.YtgggkcoljpimcaaDoorCkTyI
namespace Go.Proofs.YtgggkcoljpimcaaDoor
set_option maxRecDepth 100000
set_option linter.unusedVariables false
set_option linter.unusedSimpArgs false
open Go.RowKit
def Ah:Con:={ ι:=(List (List Dat))×Int,pre:=λ i=>Dat.has (.sl 36 [.int,.int]) (.sl i.1)/\0<=i.2/\i.2<=1048576,args:=λ i=>[.one (DC.sl 30 [.int,.int] i.1),.one (cI i.2)],res:=λ i=>⟨false,[none],[rcI (szR (i.1.length+AI i.1) i.2)]⟩ }
theorem HW:Ah.Ok Tryd.prog 6:=by
 refine fok (X:=⟨tt,[],[],12,[]⟩) mixed Bp (CTok.nil _) Tryd.func6 (λ _=>[]) ?_
 rintro ⟨l,n⟩ hpre
 have hpre:Dat.has (.sl 36 [.int,.int]) (.sl l)/\0<=n/\n<=1048576:=hpre
 refine Bv (q:=let Z2:=wR (n-(nI l.length));let Z1:=szR (l.length+AI l) n;ifB ((decide (Z2<(0:Int)))) ((vI (-1:Int)=vI Z1)) ((vI Z2=vI Z1))) (by kernel_rfl) ?_
 conv=>zeta
 delta ifB vI wR nI
 obtain ⟨hh,h0,h1⟩:=hpre
 have hz:=L3 (by decide) hh
 simp only [Dat.has] at hh
 obtain ⟨hl,-⟩:=hh
 have hw:IntKind.i64.wrap (n-(l.length:Int))=n-l.length:=AT (by omega) (by omega)
 refine ⟨λ c1=>?_,λ c1=>?_⟩
 ·try simp only [nrm] at c1
  refine Ay ?_;try rw [hw] at *;grind [szR]
 try simp only [nrm] at c1
 refine Ay ?_;try rw [hw] at *;grind [szR]
def Bx:Con:={ ι:=(List (List Dat))×Int,pre:=λ i=>Dat.has (.sl 25 [.sl 36 [.int,.int]]) (.sl i.1)/\0<=i.2/\i.2<=1048576,args:=λ i=>[.one (DC.sl 22 [.sl 30 [.int,.int]] i.1),.one (cI i.2)],res:=λ i=>⟨false,[none],[rcI (szR (i.1.length+AI i.1) i.2)]⟩ }
theorem Ju:Bx.Ok Tryd.prog 25:=by
 refine fok (X:=⟨tt,[(6,Ah)],[],27,[]⟩) mixed Bp (CTok.cons HW (CTok.nil _)) Tryd.func25 (λ (i:(List (List Dat))×Int)=>[(5,.mk 2 (Nat×Int) (λ x1=>{ tm:=[(0,tX 1),(4,tI (0:Int)),(5,tI (x1.1:Int)),(1,tI x1.2)],en:=[(1,.view 22 [.sl 30 [.int,.int]] i.1 [])] }) (λ x1=>x1.1<=i.1.length/\0<=x1.2/\x1.2+i.1.length+AI (i.1.take x1.1)=i.2) (λ x1=>i.1.length-x1.1) (λ _=>[]))]) ?_
 rintro ⟨l,n⟩ hpre
 have hpre:Dat.has (.sl 25 [.sl 36 [.int,.int]]) (.sl l)/\0<=n/\n<=1048576:=hpre
 refine Bv (q:=let Z5:=wR (n-(nI l.length));let Z1:=szR (l.length+AI l) n;let Z4:=(vI (-1:Int)=vI Z1);ifB ((decide (Z5<(0:Int)))) Z4 ((∃ x1:Nat×Int,(x1.1<=l.length/\0<=x1.2/\x1.2+l.length+AI (l.take x1.1)=n)/\((rf (vI (0:Int)))/\(vI (0:Int)=vI (x1.1:Int))/\(vI Z5=vI x1.2)/\(rf (l))))/\∀ x1:Nat×Int,let Z3:=(x1.1:Int);(x1.1<=l.length/\0<=x1.2/\x1.2+l.length+AI (l.take x1.1)=n)->(ifB ((decide (Z3<(nI l.length)))) ((0<=Z3/\Z3<(l.length:Int))/\((x1.1<l.length)/\(∃ i1:(List (List Dat))×Int,let Z2:=szR (i1.1.length+AI i1.1) i1.2;[DA.one (DC.sl 30 [.int,.int] ((((l.getD x1.1 []).getD 0 (.int 0))).r)),DA.one (cI x1.2)]=Ah.args i1/\Ah.pre i1/\(ifB ((decide (Z2<(0:Int)))) Z4 (∃ y2:Nat×Int,(y2.1<=l.length/\0<=y2.2/\y2.2+l.length+AI (l.take y2.1)=n)/\(l.length-y2.1<l.length-x1.1)/\((rf (vI (0:Int)))/\(vI (wR (Z3+(1:Int)))=vI (y2.1:Int))/\(vI Z2=vI y2.2)/\(rf (l)))))))) ((vI x1.2=vI Z1))))) (by kernel_rfl) ?_
 conv=>zeta
 delta ifB vI wR nI
 obtain ⟨hh,h0,h1⟩:=hpre
 have hh2:=F5 hh
 have hl:=MZ hh
 have hw:IntKind.i64.wrap (n-(l.length:Int))=n-l.length:=AT (by omega) (by omega)
 refine ⟨λ c1=>?_,λ c1=>?_⟩
 ·try simp only [nrm] at c1
  refine Ay ?_;try rw [hw] at *;grind [szR]
 try simp only [nrm] at c1
 refine ⟨⟨(0,n-l.length),by
  rw [hw] at c1;simp [AI];omega,?_⟩,?_⟩
 ·refine ⟨rfl,rfl,?_,rfl⟩
  exact Ay hw
 rintro ⟨k,m⟩ hki3
 have hki3:k<=l.length/\0<=m/\m+l.length+AI (l.take k)=n:=hki3
 have hle:=Cb l k
 refine And.symm ⟨λ c9=>?_,λ c9=>?_⟩
 ·try simp only [nrm] at c9
  obtain rfl:k=l.length:=by omega
  rw [List.take_length] at hki3
  refine Ay ?_;try rw [hw] at *;grind [szR]
 try simp only [nrm] at c9
 refine ao (a:=0<=(k:Int)/\(k:Int)<(l.length:Int)) (by omega) λ o10=>?_
 refine ao (a:=k<l.length) (by omega) λ o11=>?_
 refine ⟨(((l.getD k []).getD 0 (.int 0)).r,m),by
  rfl,by
  show Dat.has (.sl 36 [.int,.int]) (.sl (((l.getD k []).getD 0 (.int 0)).r))/\0<=m/\m<=1048576
  refine ⟨?_,by omega,by omega⟩
  have:=hh2 k (by omega)
  rw [← KP this] at this
  exact this.1,?_⟩
 have hle:=Cb l (k+1)
 have hts:=EZ l k (by omega)
 have hrow:=hh2 k (by omega)
 rw [← KP hrow] at hts
 have hts:AI (l.take (k+1))=AI (l.take k)+((((l.getD k []).getD 0 (.int 0)).r).length+AI (((l.getD k []).getD 0 (.int 0)).r)):=by first|exact hts|simpa only [AO,Dat.sz,Nat.add_zero] using hts
 refine ⟨λ c15=>?_,λ c15=>?_⟩
 ·try simp only [nrm] at c15
  refine Ay ?_;try rw [hw] at *;grind [szR]
 try simp only [nrm] at c15
 refine ⟨(k+1,szR ((((l.getD k []).getD 0 (.int 0)).r).length+AI (((l.getD k []).getD 0 (.int 0)).r)) m),by
  unfold szR at *;grind,by
  omega,?_⟩
 refine ⟨rfl,?_,rfl,rfl⟩
 exact Ay (AT (by omega) (by omega))
def BU:Con:={ ι:=Scn×Int,pre:=λ i=>hasRow [.int,.int,.int,.int,.sl 36 [.int,.int],.sl 25 [.sl 36 [.int,.int]],.sl 36 [.int,.int]] [.int i.1.low.1,.int i.1.low.2,.int i.1.high.1,.int i.1.high.2,.sl (AA i.1.robot),.sl (AH i.1.obst),.sl (AA i.1.tables)]/\0<=i.2/\i.2<=1048576,args:=λ i=>[DA.agg [cI i.1.low.1,cI i.1.low.2,cI i.1.high.1,cI i.1.high.2,DC.sl 30 [.int,.int] (AA i.1.robot),DC.sl 22 [.sl 30 [.int,.int]] (AH i.1.obst),DC.sl 30 [.int,.int] (AA i.1.tables)],.one (cI i.2)],res:=λ i=>⟨false,[none],[rcI (szR (AO [.int i.1.low.1,.int i.1.low.2,.int i.1.high.1,.int i.1.high.2,.sl (AA i.1.robot),.sl (AH i.1.obst),.sl (AA i.1.tables)]) i.2)]⟩ }
theorem Jv:BU.Ok Tryd.prog 11:=by
 refine fok (X:=⟨tt,[(6,Ah),(25,Bx)],[],24,[]⟩) mixed Bp (CTok.cons HW (CTok.cons Ju (CTok.nil _))) Tryd.func11 (λ _=>[]) ?_
 rintro ⟨s,n⟩ hpre
 have hpre:hasRow [.int,.int,.int,.int,.sl 36 [.int,.int],.sl 25 [.sl 36 [.int,.int]],.sl 36 [.int,.int]] [.int s.low.1,.int s.low.2,.int s.high.1,.int s.high.2,.sl (AA s.robot),.sl (AH s.obst),.sl (AA s.tables)]/\0<=n/\n<=1048576:=hpre
 refine Bv (q:=let Z6:=List (List Dat);let Z1:=szR (AO [.int s.low.1,.int s.low.2,.int s.high.1,.int s.high.2,.sl (AA s.robot),.sl (AH s.obst),.sl (AA s.tables)]) n;let Z2:=(vI (-1:Int)=vI Z1);∃ i1:Z6×Int,let Z3:=szR (i1.1.length+AI i1.1) i1.2;[DA.one (DC.sl 30 [.int,.int] (AA s.robot)),DA.one (cI n)]=Ah.args i1/\Ah.pre i1/\(ifB ((decide (Z3<(0:Int)))) Z2 (∃ i2:Z6×Int,let Z4:=szR (i2.1.length+AI i2.1) i2.2;[DA.one (DC.sl 22 [.sl 30 [.int,.int]] (AH s.obst)),DA.one (cI Z3)]=Bx.args i2/\Bx.pre i2/\(ifB ((decide (Z4<(0:Int)))) Z2 (∃ i3:Z6×Int,let Z5:=szR (i3.1.length+AI i3.1) i3.2;[DA.one (DC.sl 30 [.int,.int] (AA s.tables)),DA.one (cI Z4)]=Ah.args i3/\Ah.pre i3/\(ifB ((decide (Z5<(0:Int)))) Z2 ((vI Z5=vI Z1)))))))) (by kernel_rfl) ?_
 conv=>zeta
 delta ifB vI
 obtain ⟨hh,h0,h1⟩:=hpre
 simp only [hasRow] at hh
 refine ⟨((AA s.robot),n),by
  rfl,by
  show Dat.has (.sl 36 [.int,.int]) (.sl (AA s.robot))/\0<=n/\n<=1048576
  refine ⟨?_,?_,?_⟩ <;> first|(simp only [hasRow];simp only [hh,and_self];done)|exact hh.1|exact hh.2.1|exact hh.2.2.1|exact hh.2.2.2.1|exact hh.2.2.2.2.1|exact hh.2.2.2.2.2.1|exact hh.2.2.2.2.2.2.1|omega|(unfold szR;grind)|(simp [hh];done),?_⟩
 refine ⟨λ c4=>?_,λ c4=>?_⟩
 ·try simp only [nrm] at c4
  refine Ay ?_;try simp only [AO,Dat.sz,Nat.add_zero,Nat.zero_add] at *;all_goals grind [szR]
 try simp only [nrm] at c4
 refine ⟨((AH s.obst),(szR ((AA s.robot).length+AI (AA s.robot)) n)),by
  rfl,by
  show Dat.has (.sl 25 [.sl 36 [.int,.int]]) (.sl (AH s.obst))/\0<=(szR ((AA s.robot).length+AI (AA s.robot)) n)/\(szR ((AA s.robot).length+AI (AA s.robot)) n)<=1048576
  refine ⟨?_,?_,?_⟩ <;> first|(simp only [hasRow];simp only [hh,and_self];done)|exact hh.1|exact hh.2.1|exact hh.2.2.1|exact hh.2.2.2.1|exact hh.2.2.2.2.1|exact hh.2.2.2.2.2.1|exact hh.2.2.2.2.2.2.1|omega|(unfold szR;grind)|(simp [hh];done),?_⟩
 refine ⟨λ c9=>?_,λ c9=>?_⟩
 ·try simp only [nrm] at c9
  refine Ay ?_;try simp only [AO,Dat.sz,Nat.add_zero,Nat.zero_add] at *;all_goals grind [szR]
 try simp only [nrm] at c9
 refine ⟨((AA s.tables),(szR ((AH s.obst).length+AI (AH s.obst)) (szR ((AA s.robot).length+AI (AA s.robot)) n))),by
  rfl,by
  try dsimp only [Ah]
  refine ⟨?_,?_,?_⟩ <;> first|(simp only [hasRow];simp only [hh,and_self];done)|exact hh.1|exact hh.2.1|exact hh.2.2.1|exact hh.2.2.2.1|exact hh.2.2.2.2.1|exact hh.2.2.2.2.2.1|exact hh.2.2.2.2.2.2.1|omega|(unfold szR;grind)|(simp [hh];done),?_⟩
 refine ⟨λ c14=>?_,λ c14=>?_⟩
 ·try dsimp only at c14
  try simp only [nrm] at c14
  refine Ay ?_;try simp only [AO,Dat.sz,Nat.add_zero,Nat.zero_add] at *;all_goals grind [szR]
 try dsimp only at c14
 try simp only [nrm] at c14
 refine Ay ?_;try simp only [AO,Dat.sz,Nat.add_zero,Nat.zero_add] at *;all_goals grind [szR]
def By:Con:={ ι:=Scn,pre:=λ i=>True,args:=λ i=>[DA.agg [cI i.low.1,cI i.low.2,cI i.high.1,cI i.high.2,DC.sl 36 [.int,.int] (AA i.robot),DC.sl 25 [.sl 36 [.int,.int]] (AH i.obst),DC.sl 36 [.int,.int] (AA i.tables)],DA.agg [cI i.low.1,cI i.low.2,cI i.high.1,cI i.high.2,DC.sl 36 [.int,.int] (AA i.robot),DC.sl 25 [.sl 36 [.int,.int]] (AH i.obst),DC.sl 36 [.int,.int] (AA i.tables)]],res:=λ i=>⟨false,[none],[rcB true]⟩ }
theorem Jw:By.Ok Tryd.prog 15:=Mz [.int,.int,.int,.int,.sl 36 [.int,.int],.sl 25 [.sl 36 [.int,.int]],.sl 36 [.int,.int]] ⟨_,Tryd.func15,by decide,rfl⟩ (λ _=>rfl) (λ _=>rfl) (λ ds vs us w=>K4 ds vs us w)
def Al:Con:={ ι:=Scn,pre:=λ i=>AO [.int i.low.1,.int i.low.2,.int i.high.1,.int i.high.2,.sl (AA i.robot),.sl (AH i.obst),.sl (AA i.tables)]<=1048576,args:=λ i=>[DA.agg [cI i.low.1,cI i.low.2,cI i.high.1,cI i.high.2,DC.sl 30 [.int,.int] (AA i.robot),DC.sl 22 [.sl 30 [.int,.int]] (AH i.obst),DC.sl 30 [.int,.int] (AA i.tables)]],res:=λ i=>⟨false,[some 7],[rcI i.low.1,rcI i.low.2,rcI i.high.1,rcI i.high.2,.own 36 [.int,.int] (AA i.robot),.own 25 [.sl 36 [.int,.int]] (AH i.obst),.own 36 [.int,.int] (AA i.tables)]⟩ }
theorem Jx:Al.Ok Tryd.prog 13:=M0 (out:=λ s=>[.im (.int .i64 s.low.1),.im (.int .i64 s.low.2),.im (.int .i64 s.high.1),.im (.int .i64 s.high.2),.sl 36 [.int,.int] (AA s.robot),.sl 25 [.sl 36 [.int,.int]] (AH s.obst),.sl 36 [.int,.int] (AA s.tables)]) [.int,.int,.int,.int,.sl 36 [.int,.int],.sl 25 [.sl 36 [.int,.int]],.sl 36 [.int,.int]] ⟨_,Tryd.func13,by decide,rfl⟩ (λ _=>rfl) (λ _=>rfl) (λ _=>rfl) (λ _=>rfl) (λ _=>rfl) (λ _=>rfl) (λ _=>rfl) (λ _=>Nat.le_of_ble_eq_true rfl) (λ _ h=>h) (λ ds h vs w=>K6 ds h vs w)
def Br:Con:={ ι:=Scn,pre:=λ i=>True,args:=λ i=>[DA.agg [cI i.low.1,cI i.low.2,cI i.high.1,cI i.high.2,DC.sl 36 [.int,.int] (AA i.robot),DC.sl 25 [.sl 36 [.int,.int]] (AH i.obst),DC.sl 36 [.int,.int] (AA i.tables)]],res:=λ i=>⟨false,[none],[rcB (AD i)]⟩ }
theorem K7:Br.Ok Tryd.prog 28:=CL rfl ⟨_,Tryd.func28,by decide,rfl⟩ (λ _=>Nat.le_of_ble_eq_true rfl) (λ _=>rfl) (λ s=>[.im (.bool (AD s))]) (λ _=>rfl) (λ _=>rfl) (λ i hp w us h=>by
 have h:RdRow w [.int,.int,.int,.int,.sl 36 [.int,.int],.sl 25 [.sl 36 [.int,.int]],.sl 36 [.int,.int]] (Hf i) us:=h
 have hl:=(RdRow.lens _ _ _ h).2
 rw [show Am (Br.args i) us=[.agg us.toArray] from Ba hl]
 refine (GL i _ w (RdRow.scene h)).mono ?_
 rintro e w' ⟨rfl,hb⟩
 exact ⟨[.bool (AD i)],rfl,Own.leaf (Fp.mk_bool _),hb⟩)
def At:Con:={ ι:=Scn,pre:=λ i=>True,args:=λ i=>[DA.agg [cI i.low.1,cI i.low.2,cI i.high.1,cI i.high.2,DC.sl 36 [.int,.int] (AA i.robot),DC.sl 25 [.sl 36 [.int,.int]] (AH i.obst),DC.sl 36 [.int,.int] (AA i.tables)]],res:=λ i=>⟨false,[none],[rcB (AD i)]⟩ }
theorem HY:At.Ok Tryd.prog 26:=CL rfl ⟨_,Tryd.func26,by decide,rfl⟩ (λ _=>Nat.le_of_ble_eq_true rfl) (λ _=>rfl) (λ s=>[.im (.bool (AD s))]) (λ _=>rfl) (λ _=>rfl) (λ i hp w us h=>by
 have h:RdRow w [.int,.int,.int,.int,.sl 36 [.int,.int],.sl 25 [.sl 36 [.int,.int]],.sl 36 [.int,.int]] (Hf i) us:=h
 have hl:=(RdRow.lens _ _ _ h).2
 rw [show Am (At.args i) us=[.agg us.toArray] from Ba hl]
 refine (E4 i _ w (RdRow.scene h)).mono ?_
 rintro e w' ⟨rfl,hb⟩
 exact ⟨[.bool (AD i)],rfl,Own.leaf (Fp.mk_bool _),hb⟩)
def BV:Con:={ ι:=Scn,pre:=λ i=>AD i=true,args:=λ i=>[DA.agg [cI i.low.1,cI i.low.2,cI i.high.1,cI i.high.2,DC.sl 36 [.int,.int] (AA i.robot),DC.sl 25 [.sl 36 [.int,.int]] (AH i.obst),DC.sl 36 [.int,.int] (AA i.tables)]],res:=λ i=>⟨false,[none],[.im (Value.string (AP i))]⟩ }
theorem Jy:BV.Ok Tryd.prog 29:=F3 rfl ⟨_,Tryd.func29,by decide,rfl⟩ (λ _=>Nat.le_of_ble_eq_true rfl) (λ _=>rfl) (λ s=>[.im (.string (AP s))]) (λ _=>rfl) (λ _=>rfl) (λ i hp w us hst h=>by
 have h:RdRow w [.int,.int,.int,.int,.sl 36 [.int,.int],.sl 25 [.sl 36 [.int,.int]],.sl 36 [.int,.int]] (Hf i) us:=h
 have hl:=(RdRow.lens _ _ _ h).2
 rw [show Am (BV.args i) us=[.agg us.toArray] from Ba hl]
 refine (Jt i hp _ w (RdRow.scene h) hst).mono ?_
 rintro e w' ⟨rfl,hb⟩
 exact ⟨[.string (AP i)],rfl,Own.leaf (Fp.mk_str _),hb⟩)
def DN (s:Scn):ByteArray:=if AD s=true then AP s else ⟨#[]⟩
theorem Cy {s:Scn} (h:AD s=true):DN s=AP s:=if_pos h
theorem Jz {s:Scn} (h:AD s=false):DN s=⟨#[]⟩:=if_neg (by rw [h];simp)
theorem JA {s:Scn} {k:Nat} (hk:k<s.obst.length):CY s k++(⟨#[111,98,115,116,97,99,108,101,32]⟩:ByteArray)++BA (s.obst.getD k [])++(⟨#[10]⟩:ByteArray)=CY s (k+1):=by
 rw [EU hk]
 simp only [GA]
 rfl
theorem JB {s:Scn} {k:Nat} (hk:k<s.tables.length):CV s k++(⟨#[116,97,98,108,101,32]⟩:ByteArray)++Ag (s.tables.getD k (0,0))++(⟨#[10]⟩:ByteArray)=CV s (k+1):=by
 rw [EV hk]
 simp only [GA]
 rfl
theorem J0 {s:Scn} (h:AD s=true):Aa s.robot=true/\∀ k,k<s.obst.length->Aa (s.obst.getD k [])=true:=by
 simp only [AD,Bool.and_eq_true,decide_eq_true_eq,List.all_cons,List.all_nil,and_true,shape] at h
 obtain ⟨⟨⟨⟨⟨h1,h2⟩,-⟩,-⟩,⟨h3,h4⟩,-⟩,⟨⟨h5,h6⟩,h7⟩,h8⟩:=h
 refine ⟨h3,λ k hk=>?_⟩
 have hk':=List.all_eq_true.1 h5 (s.obst[k]) (List.getElem_mem hk)
 simp only [shape,Bool.and_eq_true] at hk'
 have e:s.obst.getD k []=s.obst[k]:=by simp [List.getD,hk]
 rw [e]
 exact hk'.1.1
def DO:Con:={ ι:=Scn,pre:=λ i=>True,args:=λ i=>[DA.agg [cI i.low.1,cI i.low.2,cI i.high.1,cI i.high.2,DC.sl 36 [.int,.int] (AA i.robot),DC.sl 25 [.sl 36 [.int,.int]] (AH i.obst),DC.sl 36 [.int,.int] (AA i.tables)]],res:=λ i=>⟨false,[none],[.im (Value.string (DN i))]⟩ }
theorem MG:DO.Ok Tryd.prog 12:=by
 refine fok (X:=⟨tt,[(26,At),(19,AV),(7,BM)],[],55,[]⟩) mixed Bp (CTok.cons HY (CTok.cons GP (CTok.cons Ky (CTok.nil _)))) Tryd.func12 (λ (i:Scn)=>let Z1:=AA i.tables;[(10,.mk 2 (Nat) (λ x3=>{ tm:=[(41,tX 1),(42,tI (nI (Z1.length))),(43,tI (x3:Int)),(3,.one (.one (.im (Value.string (CV i x3)))))],en:=[(1,.view 36 [.int,.int] Z1 [])] }) (λ x3=>x3<=i.tables.length) (λ x3=>i.tables.length-x3) (λ _=>[])),(5,.mk 5 (Nat) (λ x1=>{ tm:=[(1,tP 1 0),(27,tX 3),(28,tI (nI ((AH i.obst).length))),(29,tI (x1:Int)),(3,.one (.one (.im (Value.string (CY i x1)))))],en:=[(1,.box [kI i.low.1,kI i.low.2,kI i.high.1,kI i.high.2,.ext 2,.ext 3,.ext 4]),(2,.view 36 [.int,.int] (AA i.robot) []),(3,.view 25 [.sl 36 [.int,.int]] (AH i.obst) []),(4,.view 36 [.int,.int] Z1 [])] }) (λ x1=>x1<=i.obst.length) (λ x1=>i.obst.length-x1) (λ _=>[]))]) ?_
 intro (s:Scn) hpre
 have hpre:True:=hpre
 refine Bv (q:=let Z8:=AA s.robot;let Z6:=AH s.obst;let Z9:=nI (Z6.length);let Z4:=AA s.tables;let Z10:=nI (Z4.length);∃ i1:Scn,[DA.agg [cI s.low.1,cI s.low.2,cI s.high.1,cI s.high.2,DC.sl 36 [.int,.int] Z8,DC.sl 25 [.sl 36 [.int,.int]] Z6,DC.sl 36 [.int,.int] Z4]]=At.args i1/\At.pre i1/\(ifB ((!(AD i1))) ((Value.string (⟨#[]⟩:ByteArray)=Value.string (DN s))) (∃ i2:Int×Int,let Z7:=(⟨#[114,111,111,109,32]⟩:ByteArray)++AZ (i2.1,i2.2);let Z1:=Z7++(⟨#[32]⟩:ByteArray);[DA.agg [cI s.low.1,cI s.low.2]]=AV.args i2/\AV.pre i2/\(((⟨#[114,111,111,109,32]⟩:ByteArray).size+(AZ (i2.1,i2.2)).size<=1125899906842624)/\((Z7.size+(⟨#[32]⟩:ByteArray).size<=1125899906842624)/\(∃ i3:Int×Int,let Z11:=Z1++AZ (i3.1,i3.2);let Z2:=Z11++(⟨#[10,114,111,98,111,116,32]⟩:ByteArray);[DA.agg [cI s.high.1,cI s.high.2]]=AV.args i3/\AV.pre i3/\((Z1.size+(AZ (i3.1,i3.2)).size<=1125899906842624)/\((Z11.size+(⟨#[10,114,111,98,111,116,32]⟩:ByteArray).size<=1125899906842624)/\(∃ i4:(List V2),[DA.one (DC.sl 36 [.int,.int] Z8)]=BM.args i4/\BM.pre i4/\((Z2.size+(A4 i4).size<=1125899906842624)/\(((Z2++A4 i4).size+(⟨#[10]⟩:ByteArray).size<=1125899906842624)/\((∃ x1:Nat,(x1<=s.obst.length)/\((rf (vI Z9))/\(vI (0:Int)=vI (x1:Int))/\(Value.string ((Z2++A4 i4)++(⟨#[10]⟩:ByteArray))=Value.string (CY s x1))/\(rf (vI s.low.1))/\(rf (vI s.low.2))/\(rf (vI s.high.1))/\(rf (vI s.high.2))/\(rf Z8)/\(rf Z6)/\(rf Z4)))/\∀ x1:Nat,let Z3:=(CY s x1)++(⟨#[111,98,115,116,97,99,108,101,32]⟩:ByteArray);(x1<=s.obst.length)->(ifB ((decide ((x1:Int)<Z9))) ((0<=(x1:Int)/\(x1:Int)<(Z6.length:Int))/\((x1<Z6.length)/\(((CY s x1).size+(⟨#[111,98,115,116,97,99,108,101,32]⟩:ByteArray).size<=1125899906842624)/\(∃ i5:(List V2),[DA.one (DC.sl 36 [.int,.int] ((((Z6.getD x1 []).getD 0 (.int 0))).r))]=BM.args i5/\BM.pre i5/\((Z3.size+(A4 i5).size<=1125899906842624)/\(((Z3++A4 i5).size+(⟨#[10]⟩:ByteArray).size<=1125899906842624)/\(∃ y2:Nat,(y2<=s.obst.length)/\(s.obst.length-y2<s.obst.length-x1)/\((rf (vI Z9))/\(vI (wR ((x1:Int)+(1:Int)))=vI (y2:Int))/\(Value.string ((Z3++A4 i5)++(⟨#[10]⟩:ByteArray))=Value.string (CY s y2))/\(rf (vI s.low.1))/\(rf (vI s.low.2))/\(rf (vI s.high.1))/\(rf (vI s.high.2))/\(rf Z8)/\(rf Z6)/\(rf Z4))))))))) ((∃ x3:Nat,(x3<=s.tables.length)/\((rf (vI Z10))/\(vI (0:Int)=vI (x3:Int))/\(Value.string (CY s x1)=Value.string (CV s x3))/\(rf Z4)))/\∀ x3:Nat,let Z5:=(CV s x3)++(⟨#[116,97,98,108,101,32]⟩:ByteArray);(x3<=s.tables.length)->(ifB ((decide ((x3:Int)<Z10))) ((0<=(x3:Int)/\(x3:Int)<(Z4.length:Int))/\((x3<Z4.length)/\(((CV s x3).size+(⟨#[116,97,98,108,101,32]⟩:ByteArray).size<=1125899906842624)/\(∃ i6:Int×Int,let Z12:=Z5++AZ (i6.1,i6.2);[DA.agg [cI ((((Z4.getD x3 []).getD 0 (.int 0))).n),cI ((((Z4.getD x3 []).getD 1 (.int 0))).n)]]=AV.args i6/\AV.pre i6/\((Z5.size+(AZ (i6.1,i6.2)).size<=1125899906842624)/\((Z12.size+(⟨#[10]⟩:ByteArray).size<=1125899906842624)/\(∃ y4:Nat,(y4<=s.tables.length)/\(s.tables.length-y4<s.tables.length-x3)/\((rf (vI Z10))/\(vI (wR ((x3:Int)+(1:Int)))=vI (y4:Int))/\(Value.string (Z12++(⟨#[10]⟩:ByteArray))=Value.string (CV s y4))/\(rf Z4))))))))) ((Value.string (CV s x3)=Value.string (DN s)))))))))))))))))) (by kernel_rfl) ?_
 conv=>zeta
 delta ifB vI wR nI
 have hvo:=AG s.obst
 have hvt:=AC s.tables
 refine ⟨s,by
  rfl,by
  first|trivial|(first|omega|assumption|exact hpre.1|exact hpre.2|(simp;done)),?_⟩
 refine ⟨λ c4=>?_,λ c4=>?_⟩
 ·try simp only [nrm] at c4
  rw [Jz c4]
 try simp only [nrm] at c4
 obtain ⟨hl,hh,hrb,hv4,hv5⟩:=H3 c4
 have hsp:=J0 c4
 have q1:AZ (s.low.1,s.low.2)=Ag (s.low.1,s.low.2):=BL hl
 have q2:AZ (s.high.1,s.high.2)=Ag (s.high.1,s.high.2):=BL hh
 have q3:=CU hsp.1
 have z1:(Ag (s.low.1,s.low.2)).size<=43:=BN hl
 have z2:(Ag (s.high.1,s.high.2)).size<=43:=BN hh
 have z3:=CM hrb.1
 have z4:=hrb.2
 have zh:=D2 hl hh hrb
 have e1:(⟨#[114,111,111,109,32]⟩:ByteArray).size=5:=rfl
 have e2:(⟨#[32]⟩:ByteArray).size=1:=rfl
 have e3:(⟨#[10,114,111,98,111,116,32]⟩:ByteArray).size=7:=rfl
 have e4:(⟨#[10]⟩:ByteArray).size=1:=rfl
 have e5:(⟨#[111,98,115,116,97,99,108,101,32]⟩:ByteArray).size=9:=rfl
 have e6:(⟨#[116,97,98,108,101,32]⟩:ByteArray).size=6:=rfl
 refine ⟨(s.low.1,s.low.2),by
  rfl,by
  first|trivial|(first|omega|assumption|exact hpre.1|exact hpre.2|(simp;done)),?_⟩
 refine ao (a:=(⟨#[114,111,111,109,32]⟩:ByteArray).size+(AZ (s.low.1,s.low.2)).size<=1125899906842624) (by first|rfl|omega|(simp only [AC,AG];omega)|(simp only [ByteArray.size_append,q1,q2,q3,e1,e2,e3,e4,e5,e6];omega)|(simp only [ByteArray.size_append,q1,q2,q3,e1,e2,e3,e4,e5,e6,hob];omega)|(simp only [ByteArray.size_append,q1,q2,q3,e1,e2,e3,e4,e5,e6,hvx,hvy,hvv];omega)) λ o9=>?_
 refine ao (a:=((⟨#[114,111,111,109,32]⟩:ByteArray)++AZ (s.low.1,s.low.2)).size+(⟨#[32]⟩:ByteArray).size<=1125899906842624) (by first|rfl|omega|(simp only [AC,AG];omega)|(simp only [ByteArray.size_append,q1,q2,q3,e1,e2,e3,e4,e5,e6];omega)|(simp only [ByteArray.size_append,q1,q2,q3,e1,e2,e3,e4,e5,e6,hob];omega)|(simp only [ByteArray.size_append,q1,q2,q3,e1,e2,e3,e4,e5,e6,hvx,hvy,hvv];omega)) λ o10=>?_
 refine ⟨(s.high.1,s.high.2),by
  rfl,by
  first|trivial|(first|omega|assumption|exact hpre.1|exact hpre.2|(simp;done)),?_⟩
 refine ao (a:=(((⟨#[114,111,111,109,32]⟩:ByteArray)++AZ (s.low.1,s.low.2))++(⟨#[32]⟩:ByteArray)).size+(AZ (s.high.1,s.high.2)).size<=1125899906842624) (by first|rfl|omega|(simp only [AC,AG];omega)|(simp only [ByteArray.size_append,q1,q2,q3,e1,e2,e3,e4,e5,e6];omega)|(simp only [ByteArray.size_append,q1,q2,q3,e1,e2,e3,e4,e5,e6,hob];omega)|(simp only [ByteArray.size_append,q1,q2,q3,e1,e2,e3,e4,e5,e6,hvx,hvy,hvv];omega)) λ o14=>?_
 refine ao (a:=((((⟨#[114,111,111,109,32]⟩:ByteArray)++AZ (s.low.1,s.low.2))++(⟨#[32]⟩:ByteArray))++AZ (s.high.1,s.high.2)).size+(⟨#[10,114,111,98,111,116,32]⟩:ByteArray).size<=1125899906842624) (by first|rfl|omega|(simp only [AC,AG];omega)|(simp only [ByteArray.size_append,q1,q2,q3,e1,e2,e3,e4,e5,e6];omega)|(simp only [ByteArray.size_append,q1,q2,q3,e1,e2,e3,e4,e5,e6,hob];omega)|(simp only [ByteArray.size_append,q1,q2,q3,e1,e2,e3,e4,e5,e6,hvx,hvy,hvv];omega)) λ o15=>?_
 refine ⟨s.robot,by
  rfl,by
  first|trivial|(first|omega|assumption|exact hpre.1|exact hpre.2|(simp;done)),?_⟩
 refine ao (a:=(((((⟨#[114,111,111,109,32]⟩:ByteArray)++AZ (s.low.1,s.low.2))++(⟨#[32]⟩:ByteArray))++AZ (s.high.1,s.high.2))++(⟨#[10,114,111,98,111,116,32]⟩:ByteArray)).size+(A4 s.robot).size<=1125899906842624) (by first|rfl|omega|(simp only [AC,AG];omega)|(simp only [ByteArray.size_append,q1,q2,q3,e1,e2,e3,e4,e5,e6];omega)|(simp only [ByteArray.size_append,q1,q2,q3,e1,e2,e3,e4,e5,e6,hob];omega)|(simp only [ByteArray.size_append,q1,q2,q3,e1,e2,e3,e4,e5,e6,hvx,hvy,hvv];omega)) λ o19=>?_
 refine ao (a:=((((((⟨#[114,111,111,109,32]⟩:ByteArray)++AZ (s.low.1,s.low.2))++(⟨#[32]⟩:ByteArray))++AZ (s.high.1,s.high.2))++(⟨#[10,114,111,98,111,116,32]⟩:ByteArray))++A4 s.robot).size+(⟨#[10]⟩:ByteArray).size<=1125899906842624) (by first|rfl|omega|(simp only [AC,AG];omega)|(simp only [ByteArray.size_append,q1,q2,q3,e1,e2,e3,e4,e5,e6];omega)|(simp only [ByteArray.size_append,q1,q2,q3,e1,e2,e3,e4,e5,e6,hob];omega)|(simp only [ByteArray.size_append,q1,q2,q3,e1,e2,e3,e4,e5,e6,hvx,hvy,hvv];omega)) λ o20=>?_
 refine ⟨⟨0,by
  first|trivial|omega|(simp;omega),?_⟩,?_⟩
 ·refine ⟨rfl,rfl,?_,rfl,rfl,rfl,rfl,rfl,rfl,rfl⟩
  show Value.string (((((((⟨#[114,111,111,109,32]⟩:ByteArray)++AZ (s.low.1,s.low.2))++(⟨#[32]⟩:ByteArray))++AZ (s.high.1,s.high.2))++(⟨#[10,114,111,98,111,116,32]⟩:ByteArray))++A4 s.robot)++(⟨#[10]⟩:ByteArray))=Value.string (CY s 0)
  first|(rw [q1,q2,q3];rfl)|rfl
 intro (k:Nat) hki21
 have hki21:k<=s.obst.length:=hki21
 refine ⟨λ c33=>?_,λ c33=>?_⟩
 ·try simp only [nrm] at c33
  have hk:k<s.obst.length:=by omega
  have hob:=CU (hsp.2 k hk)
  have zo:=CM (hv4.2 k hk).1
  have zl:=(hv4.2 k hk).2
  have zs:=DM s zh hv4.2 (show k<=s.obst.length by omega)
  have z9:=hv4.1
  refine ao (by first|rfl|omega|(simp only [AC,AG];omega)|(simp only [ByteArray.size_append,q1,q2,q3,e1,e2,e3,e4,e5,e6];omega)|(simp only [ByteArray.size_append,q1,q2,q3,e1,e2,e3,e4,e5,e6,hob];omega)|(simp only [ByteArray.size_append,q1,q2,q3,e1,e2,e3,e4,e5,e6,hvx,hvy,hvv];omega)) λ o34=>?_
  refine ao (by first|rfl|omega|(simp only [AC,AG];omega)|(simp only [ByteArray.size_append,q1,q2,q3,e1,e2,e3,e4,e5,e6];omega)|(simp only [ByteArray.size_append,q1,q2,q3,e1,e2,e3,e4,e5,e6,hob];omega)|(simp only [ByteArray.size_append,q1,q2,q3,e1,e2,e3,e4,e5,e6,hvx,hvy,hvv];omega)) λ o35=>?_
  refine ao (by first|rfl|omega|(simp only [AC,AG];omega)|(simp only [ByteArray.size_append,q1,q2,q3,e1,e2,e3,e4,e5,e6];omega)|(simp only [ByteArray.size_append,q1,q2,q3,e1,e2,e3,e4,e5,e6,hob];omega)|(simp only [ByteArray.size_append,q1,q2,q3,e1,e2,e3,e4,e5,e6,hvx,hvy,hvv];omega)) λ o36=>?_
  refine ⟨(s.obst.getD k []),by
   exact congrArg (λ x=>[DA.one (DC.sl 36 [.int,.int] x)]) (Kw (by omega)),by
   first|trivial|(first|omega|assumption|exact hpre.1|exact hpre.2|(simp;done)),?_⟩
  refine ao (by first|rfl|omega|(simp only [AC,AG];omega)|(simp only [ByteArray.size_append,q1,q2,q3,e1,e2,e3,e4,e5,e6];omega)|(simp only [ByteArray.size_append,q1,q2,q3,e1,e2,e3,e4,e5,e6,hob];omega)|(simp only [ByteArray.size_append,q1,q2,q3,e1,e2,e3,e4,e5,e6,hvx,hvy,hvv];omega)) λ o40=>?_
  refine ao (by first|rfl|omega|(simp only [AC,AG];omega)|(simp only [ByteArray.size_append,q1,q2,q3,e1,e2,e3,e4,e5,e6];omega)|(simp only [ByteArray.size_append,q1,q2,q3,e1,e2,e3,e4,e5,e6,hob];omega)|(simp only [ByteArray.size_append,q1,q2,q3,e1,e2,e3,e4,e5,e6,hvx,hvy,hvv];omega)) λ o41=>?_
  refine ⟨k+1,by
   first|trivial|omega|(simp;omega),by
   first|omega|(simp;omega),?_⟩
  refine ⟨rfl,?_,?_,rfl,rfl,rfl,rfl,rfl,rfl,rfl⟩
  ·first|exact Ay (AT (by omega) (by omega))|(rw [hob];exact congrArg Value.string (JA hk))
  first|exact Ay (AT (by omega) (by omega))|(rw [hob];exact congrArg Value.string (JA hk))
 try simp only [nrm] at c33
 refine ⟨⟨0,by
  first|trivial|omega|(simp;omega),?_⟩,?_⟩
 ·refine ⟨rfl,rfl,?_,rfl⟩
  rw [show k=s.obst.length by omega];rfl
 intro (k:Nat) hki55
 have hki55:k<=s.tables.length:=hki55
 refine And.symm ⟨λ c61=>?_,λ c61=>?_⟩
 ·try simp only [nrm] at c61
  rw [Cy c4,show k=s.tables.length by omega];rfl
 try simp only [nrm] at c61
 have hk:k<s.tables.length:=by omega
 have hvx:=Jo hk
 have hvy:=Jp hk
 have hvv:AZ ((s.tables.getD k (0,0)).1,(s.tables.getD k (0,0)).2)=Ag (s.tables.getD k (0,0)):=BL (hv5.2 k hk)
 have zo:=BN (hv5.2 k hk)
 have z8:=hv4.1
 have z9:=hv5.1
 have zs:=FC s (Nat.le_trans (DM s zh hv4.2 (Nat.le_refl _)) (by omega)) hv5.2 (show k<=s.tables.length by omega)
 refine ao (by first|rfl|omega|(simp only [AC,AG];omega)|(simp only [ByteArray.size_append,q1,q2,q3,e1,e2,e3,e4,e5,e6];omega)|(simp only [ByteArray.size_append,q1,q2,q3,e1,e2,e3,e4,e5,e6,hob];omega)|(simp only [ByteArray.size_append,q1,q2,q3,e1,e2,e3,e4,e5,e6,hvx,hvy,hvv];omega)) λ o62=>?_
 refine ao (by first|rfl|omega|(simp only [AC,AG];omega)|(simp only [ByteArray.size_append,q1,q2,q3,e1,e2,e3,e4,e5,e6];omega)|(simp only [ByteArray.size_append,q1,q2,q3,e1,e2,e3,e4,e5,e6,hob];omega)|(simp only [ByteArray.size_append,q1,q2,q3,e1,e2,e3,e4,e5,e6,hvx,hvy,hvv];omega)) λ o63=>?_
 refine ao (by first|rfl|omega|(simp only [AC,AG];omega)|(simp only [ByteArray.size_append,q1,q2,q3,e1,e2,e3,e4,e5,e6];omega)|(simp only [ByteArray.size_append,q1,q2,q3,e1,e2,e3,e4,e5,e6,hob];omega)|(simp only [ByteArray.size_append,q1,q2,q3,e1,e2,e3,e4,e5,e6,hvx,hvy,hvv];omega)) λ o64=>?_
 refine ⟨(((((AA s.tables).getD k []).getD 0 (.int 0))).n,((((AA s.tables).getD k []).getD 1 (.int 0))).n),by
  rfl,by
  first|trivial|(first|omega|assumption|exact hpre.1|exact hpre.2|(simp;done)),?_⟩
 refine ao (a:=((CV s k)++(⟨#[116,97,98,108,101,32]⟩:ByteArray)).size+(AZ ((((((AA s.tables).getD k []).getD 0 (.int 0))).n),(((((AA s.tables).getD k []).getD 1 (.int 0))).n))).size<=1125899906842624) (by first|rfl|omega|(simp only [AC,AG];omega)|(simp only [ByteArray.size_append,q1,q2,q3,e1,e2,e3,e4,e5,e6];omega)|(simp only [ByteArray.size_append,q1,q2,q3,e1,e2,e3,e4,e5,e6,hob];omega)|(simp only [ByteArray.size_append,q1,q2,q3,e1,e2,e3,e4,e5,e6,hvx,hvy,hvv];omega)) λ o68=>?_
 refine ao (a:=(((CV s k)++(⟨#[116,97,98,108,101,32]⟩:ByteArray))++AZ ((((((AA s.tables).getD k []).getD 0 (.int 0))).n),(((((AA s.tables).getD k []).getD 1 (.int 0))).n))).size+(⟨#[10]⟩:ByteArray).size<=1125899906842624) (by first|rfl|omega|(simp only [AC,AG];omega)|(simp only [ByteArray.size_append,q1,q2,q3,e1,e2,e3,e4,e5,e6];omega)|(simp only [ByteArray.size_append,q1,q2,q3,e1,e2,e3,e4,e5,e6,hob];omega)|(simp only [ByteArray.size_append,q1,q2,q3,e1,e2,e3,e4,e5,e6,hvx,hvy,hvv];omega)) λ o69=>?_
 refine ⟨k+1,by
  first|trivial|omega|(simp;omega),by
  first|omega|(simp;omega),?_⟩
 refine ⟨rfl,?_,?_,rfl⟩
 ·first|exact Ay (AT (by omega) (by omega))|(rw [hvx,hvy,hvv];exact congrArg Value.string (JB hk))
 show Value.string ((((CV s k)++(⟨#[116,97,98,108,101,32]⟩:ByteArray))++AZ ((((((AA s.tables).getD k []).getD 0 (.int 0))).n),(((((AA s.tables).getD k []).getD 1 (.int 0))).n)))++(⟨#[10]⟩:ByteArray))=Value.string (CV s (k+1))
 first|exact Ay (AT (by omega) (by omega))|(rw [hvx,hvy,hvv];exact congrArg Value.string (JB hk))
theorem Ha {s:Scn} (h:AD s=true):(AP s).size<=8000:=by
 obtain ⟨hl,hh,hrb,hv4,hv5⟩:=H3 h
 have h1:=hv4.1
 have h2:=hv5.1
 have:=FC s (Nat.le_trans (DM s (D2 hl hh hrb) hv4.2 (Nat.le_refl _)) (by omega)) hv5.2 (Nat.le_refl _)
 unfold AP
 omega
def CZ (l:List UInt8) (k:Nat):Nat:=(l.take k).foldl (λ h c=>(31*h+c.toNat)%65521) 7
theorem Mg (l:List UInt8):∀ k,CZ l k<65521:=by
 intro k
 unfold CZ
 have:∀ (m:List UInt8) (h:Nat),h<65521->m.foldl (λ h c=>(31*h+c.toNat)%65521) h<65521:=by
  intro m
  induction m with
  | nil=>intro h hh;exact hh
  | cons c r ih=>intro h hh;exact ih _ (Nat.mod_lt _ (by omega))
 exact this _ _ (by omega)
theorem K8 {l:List UInt8} {k:Nat} (hk:k<l.length):CZ l (k+1)=(31*CZ l k+(l.getD k 0).toNat)%65521:=by
 unfold CZ
 rw [List.take_succ_eq_append_getElem hk,List.foldl_append]
 simp [List.getD,hk]
def GY (s:Scn):Int:=if AD s=true then (CZ (AP s).data.toList (AP s).size:Nat) else -1
theorem D3 {s:Scn} (h:AD s=true):GY s=((CZ (AP s).data.toList (AP s).size:Nat):Int):=if_pos h
theorem FD {s:Scn} (h:AD s=false):GY s=-1:=if_neg (by rw [h];simp)
theorem Hb (b:ByteArray) (k:Nat) (hk:k<b.size):b.get! k=b.data.toList.getD k 0:=by
 have h1:=Ie b k hk
 have hk' : k<b.data.size:=hk
 have h2:b[k]?=some b.data[k]:=by simp [hk];rfl
 rw [h2] at h1
 rw [← Option.some.inj h1]
 rw [List.getD_eq_getElem?_getD,Array.getElem?_toList,Array.getElem?_eq_getElem hk']
 rfl
theorem Cz {l:List UInt8} {k:Nat} (hk:k<l.length):Int.tmod (IntKind.i64.wrap (IntKind.i64.wrap (31*((CZ l k:Nat):Int))+IntKind.i64.wrap (((l.getD k 0).toNat:Nat):Int))) 65521=((CZ l (k+1):Nat):Int):=by
 have h1:=Mg l k
 have h2:=(l.getD k 0).toNat_lt
 rw [AT (x:=31*((CZ l k:Nat):Int)) (by omega) (by omega),AT (x:=(((l.getD k 0).toNat:Nat):Int)) (by omega) (by omega),AT (by omega) (by omega),K8 hk,Int.tmod_eq_emod_of_nonneg (by omega)]
 omega
def D4:Con:={ ι:=Scn,pre:=λ i=>True,args:=λ i=>[DA.agg [cI i.low.1,cI i.low.2,cI i.high.1,cI i.high.2,DC.sl 36 [.int,.int] (AA i.robot),DC.sl 25 [.sl 36 [.int,.int]] (AH i.obst),DC.sl 36 [.int,.int] (AA i.tables)]],res:=λ i=>⟨false,[none],[rcI (GY i)]⟩ }
theorem Mh:D4.Ok Tryd.prog 17:=by
 refine fok (X:=⟨tt,[(28,Br),(29,BV)],[],25,[]⟩) mixed Bp (CTok.cons K7 (CTok.cons Jy (CTok.nil _))) Tryd.func17 (λ (i:Scn)=>let Z1:=AP i;[(5,.mk 2 (Nat) (λ x1=>{ tm:=[(11,tX 1),(12,tI (nI (Z1.data.toList.length))),(13,tI (x1:Int)),(3,tI (nI (CZ Z1.data.toList x1)))],en:=[(1,.ro (.bytes (Z1.data.toList)) [])] }) (λ x1=>x1<=Z1.size) (λ x1=>Z1.size-x1) (λ _=>[]))]) ?_
 intro (s:Scn) hpre
 have hpre:True:=hpre
 refine Bv (q:=let Z1:=AP s;let Z3:=nI (Z1.data.toList.length);let Z2:=Z1.data.toList;∃ i1:Scn,[DA.agg [cI s.low.1,cI s.low.2,cI s.high.1,cI s.high.2,DC.sl 36 [.int,.int] (AA s.robot),DC.sl 25 [.sl 36 [.int,.int]] (AH s.obst),DC.sl 36 [.int,.int] (AA s.tables)]]=Br.args i1/\Br.pre i1/\(ifB ((!(AD i1))) ((vI (-1:Int)=vI (GY s))) (∃ i2:Scn,let Z5:=(AP i2).data.toList;[DA.agg [cI s.low.1,cI s.low.2,cI s.high.1,cI s.high.2,DC.sl 36 [.int,.int] (AA s.robot),DC.sl 25 [.sl 36 [.int,.int]] (AH s.obst),DC.sl 36 [.int,.int] (AA s.tables)]]=BV.args i2/\BV.pre i2/\((∃ x1:Nat,(x1<=Z1.size)/\((vI (nI (Z5.length))=vI Z3)/\(vI (0:Int)=vI (x1:Int))/\(vI (7:Int)=vI (nI (CZ Z1.data.toList x1)))/\((.bytes Z5:RO)=.bytes Z2)))/\∀ x1:Nat,let Z4:=nI (CZ Z1.data.toList x1);(x1<=Z1.size)->(ifB ((decide ((x1:Int)<Z3))) ((0<=(x1:Int)/\(x1:Int)<(Z2.length:Int))/\((x1<Z2.length)/\(((65521:Int)≠0)/\(∃ y2:Nat,(y2<=Z1.size)/\(Z1.size-y2<Z1.size-x1)/\((rf (vI Z3))/\(vI (wR ((x1:Int)+(1:Int)))=vI (y2:Int))/\(vI (Int.tmod (wR ((wR ((31:Int)*Z4))+(wR (nI ((Z2.getD x1 0).toNat))))) (65521:Int))=vI (nI (CZ Z1.data.toList y2)))/\((.bytes Z2:RO)=.bytes Z2)))))) ((vI Z4=vI (GY s)))))))) (by kernel_rfl) ?_
 conv=>zeta
 delta ifB vI wR nI
 have hsz:(AP s).data.toList.length=(AP s).size:=rfl
 refine ⟨s,by
  rfl,by
  first|trivial|exact c4,?_⟩
 refine ⟨λ c4=>?_,λ c4=>?_⟩
 ·try simp only [nrm] at c4
  first|(rw [FD c4])|(rw [D3 c4,show k=(AP s).size by omega])
 try simp only [nrm] at c4
 have hsb:=Ha c4
 refine ⟨s,by
  rfl,by
  show AD s=true
  first|trivial|exact c4,?_⟩
 refine ⟨⟨0,by
  first|trivial|omega|(simp;omega),?_⟩,?_⟩
 ·refine ⟨?_,rfl,?_,?_⟩
  ·rfl
  ·rfl
  rfl
 intro (k:Nat) hki9
 have hki9:k<=(AP s).size:=hki9
 refine And.symm ⟨λ c15=>?_,λ c15=>?_⟩
 ·try simp only [nrm] at c15
  first|(rw [FD c4])|(rw [D3 c4,show k=(AP s).size by omega])
 try simp only [nrm] at c15
 refine ao (by first|rfl|omega) λ o16=>?_
 refine ao (by first|rfl|omega) λ o17=>?_
 refine ao (by first|rfl|omega) λ o18=>?_
 refine ⟨k+1,by
  first|trivial|omega|(simp;omega),by
  first|omega|(simp;omega),?_⟩
 refine ⟨rfl,?_,?_,?_⟩
 ·first|rfl|exact Ay (AT (by omega) (by omega))|exact Ay (Cz (by omega))
 ·first|rfl|exact Ay (AT (by omega) (by omega))|exact Ay (Cz (by omega))
 first|rfl|exact Ay (AT (by omega) (by omega))|exact Ay (Cz (by omega))
def D5:Con:={ ι:=Scn,pre:=λ i=>True,args:=λ i=>[DA.agg [cI i.low.1,cI i.low.2,cI i.high.1,cI i.high.2,DC.sl 36 [.int,.int] (AA i.robot),DC.sl 25 [.sl 36 [.int,.int]] (AH i.obst),DC.sl 36 [.int,.int] (AA i.tables)]],res:=λ i=>⟨false,[none],[rcI (GY i)]⟩ }
theorem Mi:D5.Ok Tryd.prog 16:=by
 refine fok (X:=⟨tt,[(26,At),(12,DO)],[],26,[]⟩) mixed Bp (CTok.cons HY (CTok.cons MG (CTok.nil _))) Tryd.func16 (λ (i:Scn)=>[(6,.mk 1 (Nat) (λ x1=>{ tm:=[(4,.one (.one (.im (Value.string (AP i))))),(5,tI (x1:Int)),(3,tI (nI (CZ (AP i).data.toList x1)))],en:=[] }) (λ x1=>x1<=(AP i).size) (λ x1=>(AP i).size-x1) (λ _=>[]))]) ?_
 intro (s:Scn) hpre
 have hpre:True:=hpre
 refine Bv (q:=let Z1:=AP s;∃ i1:Scn,[DA.agg [cI s.low.1,cI s.low.2,cI s.high.1,cI s.high.2,DC.sl 36 [.int,.int] (AA s.robot),DC.sl 25 [.sl 36 [.int,.int]] (AH s.obst),DC.sl 36 [.int,.int] (AA s.tables)]]=At.args i1/\At.pre i1/\(ifB ((!(AD i1))) ((vI (-1:Int)=vI (GY s))) (∃ i2:Scn,[DA.agg [cI s.low.1,cI s.low.2,cI s.high.1,cI s.high.2,DC.sl 36 [.int,.int] (AA s.robot),DC.sl 25 [.sl 36 [.int,.int]] (AH s.obst),DC.sl 36 [.int,.int] (AA s.tables)]]=DO.args i2/\DO.pre i2/\((∃ x1:Nat,(x1<=Z1.size)/\((Value.string (DN i2)=Value.string Z1)/\(vI (0:Int)=vI (x1:Int))/\(vI (7:Int)=vI (nI (CZ Z1.data.toList x1)))))/\∀ x1:Nat,let Z2:=nI (CZ Z1.data.toList x1);(x1<=Z1.size)->(ifB ((decide ((x1:Int)<(nI (Z1.size))))) ((0<=(x1:Int)/\(x1:Int)<(Z1.size:Int))/\(((65521:Int)≠0)/\(∃ y2:Nat,(y2<=Z1.size)/\(Z1.size-y2<Z1.size-x1)/\((rf (Value.string Z1))/\(vI (wR ((x1:Int)+(1:Int)))=vI (y2:Int))/\(vI (Int.tmod (wR ((wR ((31:Int)*Z2))+(wR ((Z1.get! x1).toNat:Int)))) (65521:Int))=vI (nI (CZ Z1.data.toList y2))))))) ((vI Z2=vI (GY s)))))))) (by kernel_rfl) ?_
 conv=>zeta
 delta ifB vI wR nI
 have hsz:(AP s).data.toList.length=(AP s).size:=rfl
 refine ⟨s,by
  rfl,by
  trivial,?_⟩
 refine ⟨λ c4=>?_,λ c4=>?_⟩
 ·try simp only [nrm] at c4
  first|(rw [FD c4])|(rw [D3 c4,show k=(AP s).size by omega])
 try simp only [nrm] at c4
 have hsb:=Ha c4
 refine ⟨s,by
  rfl,by
  trivial,?_⟩
 refine ⟨⟨0,by
  first|trivial|omega|(simp;omega),?_⟩,?_⟩
 ·refine ⟨?_,rfl,?_⟩
  ·first|rfl|(rw [Cy c4])
  first|rfl|(rw [Cy c4])
 intro (k:Nat) hki9
 have hki9:k<=(AP s).size:=hki9
 refine And.symm ⟨λ c14=>?_,λ c14=>?_⟩
 ·try simp only [nrm] at c14
  first|(rw [FD c4])|(rw [D3 c4,show k=(AP s).size by omega])
 try simp only [nrm] at c14
 refine ao (by first|rfl|omega) λ o15=>?_
 refine ao (by first|rfl|omega) λ o16=>?_
 refine ⟨k+1,by
  first|trivial|omega|(simp;omega),by
  first|omega|(simp;omega),?_⟩
 refine ⟨rfl,?_,?_⟩
 ·first|rfl|exact Ay (AT (by omega) (by omega))|(rw [Hb _ _ (by omega)];exact Ay (Cz (by omega)))
 first|rfl|exact Ay (AT (by omega) (by omega))|(rw [Hb _ _ (by omega)];exact Ay (Cz (by omega)))
end Go.Proofs.YtgggkcoljpimcaaDoor
