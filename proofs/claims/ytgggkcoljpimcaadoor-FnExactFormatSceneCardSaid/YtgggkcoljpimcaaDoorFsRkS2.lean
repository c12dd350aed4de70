import Derived.Test.YtgggkcoljpimcaaDoorFsRkS1
import Derived.Test.YtgggkcoljpimcaaDoorFsFsc
import Derived.Test.YtgggkcoljpimcaaDoorFsTyI
namespace Go.Proofs.YtgggkcoljpimcaaDoor
set_option maxRecDepth 100000
set_option linter.unusedVariables false
set_option linter.unusedSimpArgs false
open Go.RowKit
def Af:Con:={ ι:=(List (List Dat))×Int,pre:=λ i=>Dat.has (.sl 36 [.int,.int]) (.sl i.1)/\0<=i.2/\i.2<=1048576,args:=λ i=>[.one (DC.sl 30 [.int,.int] i.1),.one (cI i.2)],res:=λ i=>⟨false,[none],[rcI (szR (i.1.length+AI i.1) i.2)]⟩ }
theorem G9:Af.Ok Tryd.prog 6:=by
 refine fok (X:=⟨tt,[],[],12,[]⟩) mixed Bu (CTok.nil _) Tryd.func6 (λ _=>[]) ?_
 rintro ⟨l,n⟩ hpre
 have hpre:Dat.has (.sl 36 [.int,.int]) (.sl l)/\0<=n/\n<=1048576:=hpre
 refine CK (q:=let Z2:=wR (n-(nI l.length));let Z1:=szR (l.length+AI l) n;ifB ((decide (Z2<(0:Int)))) ((vI (-1:Int)=vI Z1)) ((vI Z2=vI Z1))) (by kernel_rfl) ?_
 conv=>zeta
 delta ifB vI wR nI
 obtain ⟨hh,h0,h1⟩:=hpre
 have hz:=Lu (by decide) hh
 simp only [Dat.has] at hh
 obtain ⟨hl,-⟩:=hh
 have hw:IntKind.i64.wrap (n-(l.length:Int))=n-l.length:=Al (by omega) (by omega)
 refine ⟨λ c1=>?_,λ c1=>?_⟩
 ·try simp only [nrm] at c1
  refine Bn ?_;try rw [hw] at *;grind [szR]
 try simp only [nrm] at c1
 refine Bn ?_;try rw [hw] at *;grind [szR]
def Bw:Con:={ ι:=(List (List Dat))×Int,pre:=λ i=>Dat.has (.sl 25 [.sl 36 [.int,.int]]) (.sl i.1)/\0<=i.2/\i.2<=1048576,args:=λ i=>[.one (DC.sl 22 [.sl 30 [.int,.int]] i.1),.one (cI i.2)],res:=λ i=>⟨false,[none],[rcI (szR (i.1.length+AI i.1) i.2)]⟩ }
theorem Jk:Bw.Ok Tryd.prog 25:=by
 refine fok (X:=⟨tt,[(6,Af)],[],27,[]⟩) mixed Bu (CTok.cons G9 (CTok.nil _)) Tryd.func25 (λ (i:(List (List Dat))×Int)=>[(5,.mk 2 (Nat×Int) (λ x1=>{ tm:=[(0,tX 1),(4,tI (0:Int)),(5,tI (x1.1:Int)),(1,tI x1.2)],en:=[(1,.view 22 [.sl 30 [.int,.int]] i.1 [])] }) (λ x1=>x1.1<=i.1.length/\0<=x1.2/\x1.2+i.1.length+AI (i.1.take x1.1)=i.2) (λ x1=>i.1.length-x1.1) (λ _=>[]))]) ?_
 rintro ⟨l,n⟩ hpre
 have hpre:Dat.has (.sl 25 [.sl 36 [.int,.int]]) (.sl l)/\0<=n/\n<=1048576:=hpre
 refine CK (q:=let Z5:=wR (n-(nI l.length));let Z1:=szR (l.length+AI l) n;let Z4:=(vI (-1:Int)=vI Z1);ifB ((decide (Z5<(0:Int)))) Z4 ((∃ x1:Nat×Int,(x1.1<=l.length/\0<=x1.2/\x1.2+l.length+AI (l.take x1.1)=n)/\((rf (vI (0:Int)))/\(vI (0:Int)=vI (x1.1:Int))/\(vI Z5=vI x1.2)/\(rf (l))))/\∀ x1:Nat×Int,let Z3:=(x1.1:Int);(x1.1<=l.length/\0<=x1.2/\x1.2+l.length+AI (l.take x1.1)=n)->(ifB ((decide (Z3<(nI l.length)))) ((0<=Z3/\Z3<(l.length:Int))/\((x1.1<l.length)/\(∃ i1:(List (List Dat))×Int,let Z2:=szR (i1.1.length+AI i1.1) i1.2;[DA.one (DC.sl 30 [.int,.int] ((((l.getD x1.1 []).getD 0 (.int 0))).r)),DA.one (cI x1.2)]=Af.args i1/\Af.pre i1/\(ifB ((decide (Z2<(0:Int)))) Z4 (∃ y2:Nat×Int,(y2.1<=l.length/\0<=y2.2/\y2.2+l.length+AI (l.take y2.1)=n)/\(l.length-y2.1<l.length-x1.1)/\((rf (vI (0:Int)))/\(vI (wR (Z3+(1:Int)))=vI (y2.1:Int))/\(vI Z2=vI y2.2)/\(rf (l)))))))) ((vI x1.2=vI Z1))))) (by kernel_rfl) ?_
 conv=>zeta
 delta ifB vI wR nI
 obtain ⟨hh,h0,h1⟩:=hpre
 have hh2:=Fy hh
 have hl:=MR hh
 have hw:IntKind.i64.wrap (n-(l.length:Int))=n-l.length:=Al (by omega) (by omega)
 refine ⟨λ c1=>?_,λ c1=>?_⟩
 ·try simp only [nrm] at c1
  refine Bn ?_;try rw [hw] at *;grind [szR]
 try simp only [nrm] at c1
 refine ⟨⟨(0,n-l.length),by
  rw [hw] at c1;simp [AI];omega,?_⟩,?_⟩
 ·refine ⟨rfl,rfl,?_,rfl⟩
  exact Bn hw
 rintro ⟨k,m⟩ hki3
 have hki3:k<=l.length/\0<=m/\m+l.length+AI (l.take k)=n:=hki3
 have hle:=Ca l k
 refine And.symm ⟨λ c9=>?_,λ c9=>?_⟩
 ·try simp only [nrm] at c9
  obtain rfl:k=l.length:=by omega
  rw [List.take_length] at hki3
  refine Bn ?_;try rw [hw] at *;grind [szR]
 try simp only [nrm] at c9
 refine ao (a:=0<=(k:Int)/\(k:Int)<(l.length:Int)) (by omega) λ o10=>?_
 refine ao (a:=k<l.length) (by omega) λ o11=>?_
 refine ⟨(((l.getD k []).getD 0 (.int 0)).r,m),by
  rfl,by
  show Dat.has (.sl 36 [.int,.int]) (.sl (((l.getD k []).getD 0 (.int 0)).r))/\0<=m/\m<=1048576
  refine ⟨?_,by omega,by omega⟩
  have:=hh2 k (by omega)
  rw [← KE this] at this
  exact this.1,?_⟩
 have hle:=Ca l (k+1)
 have hts:=EV l k (by omega)
 have hrow:=hh2 k (by omega)
 rw [← KE hrow] at hts
 have hts:AI (l.take (k+1))=AI (l.take k)+((((l.getD k []).getD 0 (.int 0)).r).length+AI (((l.getD k []).getD 0 (.int 0)).r)):=by first|exact hts|simpa only [AO,Dat.sz,Nat.add_zero] using hts
 refine ⟨λ c15=>?_,λ c15=>?_⟩
 ·try simp only [nrm] at c15
  refine Bn ?_;try rw [hw] at *;grind [szR]
 try simp only [nrm] at c15
 refine ⟨(k+1,szR ((((l.getD k []).getD 0 (.int 0)).r).length+AI (((l.getD k []).getD 0 (.int 0)).r)) m),by
  unfold szR at *;grind,by
  omega,?_⟩
 refine ⟨rfl,?_,rfl,rfl⟩
 exact Bn (Al (by omega) (by omega))
def BS:Con:={ ι:=Scn×Int,pre:=λ i=>hasRow [.int,.int,.int,.int,.sl 36 [.int,.int],.sl 25 [.sl 36 [.int,.int]],.sl 36 [.int,.int]] [.int i.1.low.1,.int i.1.low.2,.int i.1.high.1,.int i.1.high.2,.sl (AA i.1.robot),.sl (AH i.1.obst),.sl (AA i.1.tables)]/\0<=i.2/\i.2<=1048576,args:=λ i=>[DA.agg [cI i.1.low.1,cI i.1.low.2,cI i.1.high.1,cI i.1.high.2,DC.sl 30 [.int,.int] (AA i.1.robot),DC.sl 22 [.sl 30 [.int,.int]] (AH i.1.obst),DC.sl 30 [.int,.int] (AA i.1.tables)],.one (cI i.2)],res:=λ i=>⟨false,[none],[rcI (szR (AO [.int i.1.low.1,.int i.1.low.2,.int i.1.high.1,.int i.1.high.2,.sl (AA i.1.robot),.sl (AH i.1.obst),.sl (AA i.1.tables)]) i.2)]⟩ }
theorem Jl:BS.Ok Tryd.prog 11:=by
 refine fok (X:=⟨tt,[(6,Af),(25,Bw)],[],24,[]⟩) mixed Bu (CTok.cons G9 (CTok.cons Jk (CTok.nil _))) Tryd.func11 (λ _=>[]) ?_
 rintro ⟨s,n⟩ hpre
 have hpre:hasRow [.int,.int,.int,.int,.sl 36 [.int,.int],.sl 25 [.sl 36 [.int,.int]],.sl 36 [.int,.int]] [.int s.low.1,.int s.low.2,.int s.high.1,.int s.high.2,.sl (AA s.robot),.sl (AH s.obst),.sl (AA s.tables)]/\0<=n/\n<=1048576:=hpre
 refine CK (q:=let Z6:=List (List Dat);let Z1:=szR (AO [.int s.low.1,.int s.low.2,.int s.high.1,.int s.high.2,.sl (AA s.robot),.sl (AH s.obst),.sl (AA s.tables)]) n;let Z2:=(vI (-1:Int)=vI Z1);∃ i1:Z6×Int,let Z3:=szR (i1.1.length+AI i1.1) i1.2;[DA.one (DC.sl 30 [.int,.int] (AA s.robot)),DA.one (cI n)]=Af.args i1/\Af.pre i1/\(ifB ((decide (Z3<(0:Int)))) Z2 (∃ i2:Z6×Int,let Z4:=szR (i2.1.length+AI i2.1) i2.2;[DA.one (DC.sl 22 [.sl 30 [.int,.int]] (AH s.obst)),DA.one (cI Z3)]=Bw.args i2/\Bw.pre i2/\(ifB ((decide (Z4<(0:Int)))) Z2 (∃ i3:Z6×Int,let Z5:=szR (i3.1.length+AI i3.1) i3.2;[DA.one (DC.sl 30 [.int,.int] (AA s.tables)),DA.one (cI Z4)]=Af.args i3/\Af.pre i3/\(ifB ((decide (Z5<(0:Int)))) Z2 ((vI Z5=vI Z1)))))))) (by kernel_rfl) ?_
 conv=>zeta
 delta ifB vI
 obtain ⟨hh,h0,h1⟩:=hpre
 simp only [hasRow] at hh
 refine ⟨((AA s.robot),n),by
  rfl,by
  show Dat.has (.sl 36 [.int,.int]) (.sl (AA s.robot))/\0<=n/\n<=1048576
  refine ⟨?_,?_,?_⟩ <;> first|(simp only [hasRow];simp only [hh,and_self];done)|exact hh.1|exact hh.2.1|exact hh.2.2.1|exact hh.2.2.2.1|exact hh.2.2.2.2.1|exact hh.2.2.2.2.2.1|exact hh.2.2.2.2.2.2.1|omega|(unfold szR;grind)|(simp [hh];done),?_⟩
 refine ⟨λ c4=>?_,λ c4=>?_⟩
 ·try simp only [nrm] at c4
  refine Bn ?_;try simp only [AO,Dat.sz,Nat.add_zero,Nat.zero_add] at *;all_goals grind [szR]
 try simp only [nrm] at c4
 refine ⟨((AH s.obst),(szR ((AA s.robot).length+AI (AA s.robot)) n)),by
  rfl,by
  show Dat.has (.sl 25 [.sl 36 [.int,.int]]) (.sl (AH s.obst))/\0<=(szR ((AA s.robot).length+AI (AA s.robot)) n)/\(szR ((AA s.robot).length+AI (AA s.robot)) n)<=1048576
  refine ⟨?_,?_,?_⟩ <;> first|(simp only [hasRow];simp only [hh,and_self];done)|exact hh.1|exact hh.2.1|exact hh.2.2.1|exact hh.2.2.2.1|exact hh.2.2.2.2.1|exact hh.2.2.2.2.2.1|exact hh.2.2.2.2.2.2.1|omega|(unfold szR;grind)|(simp [hh];done),?_⟩
 refine ⟨λ c9=>?_,λ c9=>?_⟩
 ·try simp only [nrm] at c9
  refine Bn ?_;try simp only [AO,Dat.sz,Nat.add_zero,Nat.zero_add] at *;all_goals grind [szR]
 try simp only [nrm] at c9
 refine ⟨((AA s.tables),(szR ((AH s.obst).length+AI (AH s.obst)) (szR ((AA s.robot).length+AI (AA s.robot)) n))),by
  rfl,by
  try dsimp only [Af]
  refine ⟨?_,?_,?_⟩ <;> first|(simp only [hasRow];simp only [hh,and_self];done)|exact hh.1|exact hh.2.1|exact hh.2.2.1|exact hh.2.2.2.1|exact hh.2.2.2.2.1|exact hh.2.2.2.2.2.1|exact hh.2.2.2.2.2.2.1|omega|(unfold szR;grind)|(simp [hh];done),?_⟩
 refine ⟨λ c14=>?_,λ c14=>?_⟩
 ·try dsimp only at c14
  try simp only [nrm] at c14
  refine Bn ?_;try simp only [AO,Dat.sz,Nat.add_zero,Nat.zero_add] at *;all_goals grind [szR]
 try dsimp only at c14
 try simp only [nrm] at c14
 refine Bn ?_;try simp only [AO,Dat.sz,Nat.add_zero,Nat.zero_add] at *;all_goals grind [szR]
def Bx:Con:={ ι:=Scn,pre:=λ i=>True,args:=λ i=>[DA.agg [cI i.low.1,cI i.low.2,cI i.high.1,cI i.high.2,DC.sl 36 [.int,.int] (AA i.robot),DC.sl 25 [.sl 36 [.int,.int]] (AH i.obst),DC.sl 36 [.int,.int] (AA i.tables)],DA.agg [cI i.low.1,cI i.low.2,cI i.high.1,cI i.high.2,DC.sl 36 [.int,.int] (AA i.robot),DC.sl 25 [.sl 36 [.int,.int]] (AH i.obst),DC.sl 36 [.int,.int] (AA i.tables)]],res:=λ i=>⟨false,[none],[rcB true]⟩ }
theorem Jm:Bx.Ok Tryd.prog 15:=Mo [.int,.int,.int,.int,.sl 36 [.int,.int],.sl 25 [.sl 36 [.int,.int]],.sl 36 [.int,.int]] ⟨_,Tryd.func15,by decide,rfl⟩ (λ _=>rfl) (λ _=>rfl) (λ ds vs us w=>Ku ds vs us w)
def Aj:Con:={ ι:=Scn,pre:=λ i=>AO [.int i.low.1,.int i.low.2,.int i.high.1,.int i.high.2,.sl (AA i.robot),.sl (AH i.obst),.sl (AA i.tables)]<=1048576,args:=λ i=>[DA.agg [cI i.low.1,cI i.low.2,cI i.high.1,cI i.high.2,DC.sl 30 [.int,.int] (AA i.robot),DC.sl 22 [.sl 30 [.int,.int]] (AH i.obst),DC.sl 30 [.int,.int] (AA i.tables)]],res:=λ i=>⟨false,[some 7],[rcI i.low.1,rcI i.low.2,rcI i.high.1,rcI i.high.2,.own 36 [.int,.int] (AA i.robot),.own 25 [.sl 36 [.int,.int]] (AH i.obst),.own 36 [.int,.int] (AA i.tables)]⟩ }
theorem Jn:Aj.Ok Tryd.prog 13:=Mp (out:=λ s=>[.im (.int .i64 s.low.1),.im (.int .i64 s.low.2),.im (.int .i64 s.high.1),.im (.int .i64 s.high.2),.sl 36 [.int,.int] (AA s.robot),.sl 25 [.sl 36 [.int,.int]] (AH s.obst),.sl 36 [.int,.int] (AA s.tables)]) [.int,.int,.int,.int,.sl 36 [.int,.int],.sl 25 [.sl 36 [.int,.int]],.sl 36 [.int,.int]] ⟨_,Tryd.func13,by decide,rfl⟩ (λ _=>rfl) (λ _=>rfl) (λ _=>rfl) (λ _=>rfl) (λ _=>rfl) (λ _=>rfl) (λ _=>rfl) (λ _=>Nat.le_of_ble_eq_true rfl) (λ _ h=>h) (λ ds h vs w=>Kv ds h vs w)
def Bp:Con:={ ι:=Scn,pre:=λ i=>True,args:=λ i=>[DA.agg [cI i.low.1,cI i.low.2,cI i.high.1,cI i.high.2,DC.sl 36 [.int,.int] (AA i.robot),DC.sl 25 [.sl 36 [.int,.int]] (AH i.obst),DC.sl 36 [.int,.int] (AA i.tables)]],res:=λ i=>⟨false,[none],[rcB (AG i)]⟩ }
theorem Kw:Bp.Ok Tryd.prog 28:=CL rfl ⟨_,Tryd.func28,by decide,rfl⟩ (λ _=>Nat.le_of_ble_eq_true rfl) (λ _=>rfl) (λ s=>[.im (.bool (AG s))]) (λ _=>rfl) (λ _=>rfl) (λ i hp w us h=>by
 have h:RdRow w [.int,.int,.int,.int,.sl 36 [.int,.int],.sl 25 [.sl 36 [.int,.int]],.sl 36 [.int,.int]] (HQ i) us:=h
 have hl:=(RdRow.lens _ _ _ h).2
 rw [show Ak (Bp.args i) us=[.agg us.toArray] from BY hl]
 refine (GF i _ w (RdRow.scene h)).mono ?_
 rintro e w' ⟨rfl,hb⟩
 exact ⟨[.bool (AG i)],rfl,Own.leaf (Fp.mk_bool _),hb⟩)
def Bq:Con:={ ι:=Scn,pre:=λ i=>True,args:=λ i=>[DA.agg [cI i.low.1,cI i.low.2,cI i.high.1,cI i.high.2,DC.sl 36 [.int,.int] (AA i.robot),DC.sl 25 [.sl 36 [.int,.int]] (AH i.obst),DC.sl 36 [.int,.int] (AA i.tables)]],res:=λ i=>⟨false,[none],[rcB (AG i)]⟩ }
theorem Kx:Bq.Ok Tryd.prog 26:=CL rfl ⟨_,Tryd.func26,by decide,rfl⟩ (λ _=>Nat.le_of_ble_eq_true rfl) (λ _=>rfl) (λ s=>[.im (.bool (AG s))]) (λ _=>rfl) (λ _=>rfl) (λ i hp w us h=>by
 have h:RdRow w [.int,.int,.int,.int,.sl 36 [.int,.int],.sl 25 [.sl 36 [.int,.int]],.sl 36 [.int,.int]] (HQ i) us:=h
 have hl:=(RdRow.lens _ _ _ h).2
 rw [show Ak (Bq.args i) us=[.agg us.toArray] from BY hl]
 refine (Ex i _ w (RdRow.scene h)).mono ?_
 rintro e w' ⟨rfl,hb⟩
 exact ⟨[.bool (AG i)],rfl,Own.leaf (Fp.mk_bool _),hb⟩)
def BT:Con:={ ι:=Scn,pre:=λ i=>AG i=true,args:=λ i=>[DA.agg [cI i.low.1,cI i.low.2,cI i.high.1,cI i.high.2,DC.sl 36 [.int,.int] (AA i.robot),DC.sl 25 [.sl 36 [.int,.int]] (AH i.obst),DC.sl 36 [.int,.int] (AA i.tables)]],res:=λ i=>⟨false,[none],[.im (Value.string (Cx i))]⟩ }
theorem Jo:BT.Ok Tryd.prog 29:=Fw rfl ⟨_,Tryd.func29,by decide,rfl⟩ (λ _=>Nat.le_of_ble_eq_true rfl) (λ _=>rfl) (λ s=>[.im (.string (Cx s))]) (λ _=>rfl) (λ _=>rfl) (λ i hp w us hst h=>by
 have h:RdRow w [.int,.int,.int,.int,.sl 36 [.int,.int],.sl 25 [.sl 36 [.int,.int]],.sl 36 [.int,.int]] (HQ i) us:=h
 have hl:=(RdRow.lens _ _ _ h).2
 rw [show Ak (BT.args i) us=[.agg us.toArray] from BY hl]
 refine (Jj i hp _ w (RdRow.scene h) hst).mono ?_
 rintro e w' ⟨rfl,hb⟩
 exact ⟨[.string (Cx i)],rfl,Own.leaf (Fp.mk_str _),hb⟩)
def BL (s:Scn):ByteArray:=if AG s=true then Cx s else ⟨#[]⟩
theorem Cy {s:Scn} (h:AG s=true):BL s=Cx s:=if_pos h
theorem Db {s:Scn} (h:AG s=false):BL s=⟨#[]⟩:=if_neg (by rw [h];simp)
theorem Ix {s:Scn} {k:Nat} (hk:k<s.obst.length):CY s k++(⟨#[111,98,115,116,97,99,108,101,32]⟩:ByteArray)++A7 (s.obst.getD k [])++(⟨#[10]⟩:ByteArray)=CY s (k+1):=by
 rw [EQ hk]
 simp only [F4]
 rfl
theorem Iy {s:Scn} {k:Nat} (hk:k<s.tables.length):CV s k++(⟨#[116,97,98,108,101,32]⟩:ByteArray)++Ae (s.tables.getD k (0,0))++(⟨#[10]⟩:ByteArray)=CV s (k+1):=by
 rw [ER hk]
 simp only [F4]
 rfl
theorem Jp {s:Scn} (h:AG s=true):AY s.robot=true/\∀ k,k<s.obst.length->AY (s.obst.getD k [])=true:=by
 simp only [AG,Bool.and_eq_true,decide_eq_true_eq,List.all_cons,List.all_nil,and_true,shape] at h
 obtain ⟨⟨⟨⟨⟨h1,h2⟩,-⟩,-⟩,⟨h3,h4⟩,-⟩,⟨⟨h5,h6⟩,h7⟩,h8⟩:=h
 refine ⟨h3,λ k hk=>?_⟩
 have hk':=List.all_eq_true.1 h5 (s.obst[k]) (List.getElem_mem hk)
 simp only [shape,Bool.and_eq_true] at hk'
 have e:s.obst.getD k []=s.obst[k]:=by simp [List.getD,hk]
 rw [e]
 exact hk'.1.1
def DL:Con:={ ι:=Scn,pre:=λ i=>True,args:=λ i=>[DA.agg [cI i.low.1,cI i.low.2,cI i.high.1,cI i.high.2,DC.sl 36 [.int,.int] (AA i.robot),DC.sl 25 [.sl 36 [.int,.int]] (AH i.obst),DC.sl 36 [.int,.int] (AA i.tables)]],res:=λ i=>⟨false,[none],[.im (Value.string (BL i))]⟩ }
theorem L7:DL.Ok Tryd.prog 14:=by
 refine fok (X:=⟨tt,[(28,Bp),(29,BT)],[],8,[]⟩) mixed Bu (CTok.cons Kw (CTok.cons Jo (CTok.nil _))) Tryd.func14 (λ _=>[]) ?_
 intro (s:Scn) hpre
 have hpre:True:=hpre
 refine CK (q:=∃ i1:Scn,[DA.agg [cI s.low.1,cI s.low.2,cI s.high.1,cI s.high.2,DC.sl 36 [.int,.int] (AA s.robot),DC.sl 25 [.sl 36 [.int,.int]] (AH s.obst),DC.sl 36 [.int,.int] (AA s.tables)]]=Bp.args i1/\Bp.pre i1/\(ifB ((!(AG i1))) ((Value.string (⟨#[]⟩:ByteArray)=Value.string (BL s))) (∃ i2:Scn,[DA.agg [cI s.low.1,cI s.low.2,cI s.high.1,cI s.high.2,DC.sl 36 [.int,.int] (AA s.robot),DC.sl 25 [.sl 36 [.int,.int]] (AH s.obst),DC.sl 36 [.int,.int] (AA s.tables)]]=BT.args i2/\BT.pre i2/\((Value.string (Cx i2)=Value.string (BL s)))))) (by kernel_rfl) ?_
 delta ifB
 refine ⟨s,by
  rfl,by
  first|trivial|exact c4,?_⟩
 refine ⟨λ c4=>?_,λ c4=>?_⟩
 ·try simp only [nrm] at c4
  first|rfl|(rw [Db (by assumption)])|(rw [Cy (by assumption)])
 try simp only [nrm] at c4
 refine ⟨s,by
  rfl,by
  show AG s=true
  first|trivial|exact c4,?_⟩
 first|rfl|(rw [Db (by assumption)])|(rw [Cy (by assumption)])
def DM:Con:={ ι:=Scn,pre:=λ i=>True,args:=λ i=>[DA.agg [cI i.low.1,cI i.low.2,cI i.high.1,cI i.high.2,DC.sl 36 [.int,.int] (AA i.robot),DC.sl 25 [.sl 36 [.int,.int]] (AH i.obst),DC.sl 36 [.int,.int] (AA i.tables)]],res:=λ i=>⟨false,[none],[.im (Value.string (BL i))]⟩ }
theorem L8:DM.Ok Tryd.prog 12:=by
 refine fok (X:=⟨tt,[(26,Bq),(19,AT),(7,BJ)],[],55,[]⟩) mixed Bu (CTok.cons Kx (CTok.cons GJ (CTok.cons Ko (CTok.nil _)))) Tryd.func12 (λ (i:Scn)=>let Z1:=AA i.tables;[(10,.mk 2 (Nat) (λ x3=>{ tm:=[(41,tX 1),(42,tI (nI (Z1.length))),(43,tI (x3:Int)),(3,.one (.one (.im (Value.string (CV i x3)))))],en:=[(1,.view 36 [.int,.int] Z1 [])] }) (λ x3=>x3<=i.tables.length) (λ x3=>i.tables.length-x3) (λ _=>[])),(5,.mk 5 (Nat) (λ x1=>{ tm:=[(1,tP 1 0),(27,tX 3),(28,tI (nI ((AH i.obst).length))),(29,tI (x1:Int)),(3,.one (.one (.im (Value.string (CY i x1)))))],en:=[(1,.box [kI i.low.1,kI i.low.2,kI i.high.1,kI i.high.2,.ext 2,.ext 3,.ext 4]),(2,.view 36 [.int,.int] (AA i.robot) []),(3,.view 25 [.sl 36 [.int,.int]] (AH i.obst) []),(4,.view 36 [.int,.int] Z1 [])] }) (λ x1=>x1<=i.obst.length) (λ x1=>i.obst.length-x1) (λ _=>[]))]) ?_
 intro (s:Scn) hpre
 have hpre:True:=hpre
 refine CK (q:=let Z8:=AA s.robot;let Z6:=AH s.obst;let Z9:=nI (Z6.length);let Z4:=AA s.tables;let Z10:=nI (Z4.length);∃ i1:Scn,[DA.agg [cI s.low.1,cI s.low.2,cI s.high.1,cI s.high.2,DC.sl 36 [.int,.int] Z8,DC.sl 25 [.sl 36 [.int,.int]] Z6,DC.sl 36 [.int,.int] Z4]]=Bq.args i1/\Bq.pre i1/\(ifB ((!(AG i1))) ((Value.string (⟨#[]⟩:ByteArray)=Value.string (BL s))) (∃ i2:Int×Int,let Z7:=(⟨#[114,111,111,109,32]⟩:ByteArray)++AX (i2.1,i2.2);let Z1:=Z7++(⟨#[32]⟩:ByteArray);[DA.agg [cI s.low.1,cI s.low.2]]=AT.args i2/\AT.pre i2/\(((⟨#[114,111,111,109,32]⟩:ByteArray).size+(AX (i2.1,i2.2)).size<=1125899906842624)/\((Z7.size+(⟨#[32]⟩:ByteArray).size<=1125899906842624)/\(∃ i3:Int×Int,let Z11:=Z1++AX (i3.1,i3.2);let Z2:=Z11++(⟨#[10,114,111,98,111,116,32]⟩:ByteArray);[DA.agg [cI s.high.1,cI s.high.2]]=AT.args i3/\AT.pre i3/\((Z1.size+(AX (i3.1,i3.2)).size<=1125899906842624)/\((Z11.size+(⟨#[10,114,111,98,111,116,32]⟩:ByteArray).size<=1125899906842624)/\(∃ i4:(List V2),[DA.one (DC.sl 36 [.int,.int] Z8)]=BJ.args i4/\BJ.pre i4/\((Z2.size+(A0 i4).size<=1125899906842624)/\(((Z2++A0 i4).size+(⟨#[10]⟩:ByteArray).size<=1125899906842624)/\((∃ x1:Nat,(x1<=s.obst.length)/\((rf (vI Z9))/\(vI (0:Int)=vI (x1:Int))/\(Value.string ((Z2++A0 i4)++(⟨#[10]⟩:ByteArray))=Value.string (CY s x1))/\(rf (vI s.low.1))/\(rf (vI s.low.2))/\(rf (vI s.high.1))/\(rf (vI s.high.2))/\(rf Z8)/\(rf Z6)/\(rf Z4)))/\∀ x1:Nat,let Z3:=(CY s x1)++(⟨#[111,98,115,116,97,99,108,101,32]⟩:ByteArray);(x1<=s.obst.length)->(ifB ((decide ((x1:Int)<Z9))) ((0<=(x1:Int)/\(x1:Int)<(Z6.length:Int))/\((x1<Z6.length)/\(((CY s x1).size+(⟨#[111,98,115,116,97,99,108,101,32]⟩:ByteArray).size<=1125899906842624)/\(∃ i5:(List V2),[DA.one (DC.sl 36 [.int,.int] ((((Z6.getD x1 []).getD 0 (.int 0))).r))]=BJ.args i5/\BJ.pre i5/\((Z3.size+(A0 i5).size<=1125899906842624)/\(((Z3++A0 i5).size+(⟨#[10]⟩:ByteArray).size<=1125899906842624)/\(∃ y2:Nat,(y2<=s.obst.length)/\(s.obst.length-y2<s.obst.length-x1)/\((rf (vI Z9))/\(vI (wR ((x1:Int)+(1:Int)))=vI (y2:Int))/\(Value.string ((Z3++A0 i5)++(⟨#[10]⟩:ByteArray))=Value.string (CY s y2))/\(rf (vI s.low.1))/\(rf (vI s.low.2))/\(rf (vI s.high.1))/\(rf (vI s.high.2))/\(rf Z8)/\(rf Z6)/\(rf Z4))))))))) ((∃ x3:Nat,(x3<=s.tables.length)/\((rf (vI Z10))/\(vI (0:Int)=vI (x3:Int))/\(Value.string (CY s x1)=Value.string (CV s x3))/\(rf Z4)))/\∀ x3:Nat,let Z5:=(CV s x3)++(⟨#[116,97,98,108,101,32]⟩:ByteArray);(x3<=s.tables.length)->(ifB ((decide ((x3:Int)<Z10))) ((0<=(x3:Int)/\(x3:Int)<(Z4.length:Int))/\((x3<Z4.length)/\(((CV s x3).size+(⟨#[116,97,98,108,101,32]⟩:ByteArray).size<=1125899906842624)/\(∃ i6:Int×Int,let Z12:=Z5++AX (i6.1,i6.2);[DA.agg [cI ((((Z4.getD x3 []).getD 0 (.int 0))).n),cI ((((Z4.getD x3 []).getD 1 (.int 0))).n)]]=AT.args i6/\AT.pre i6/\((Z5.size+(AX (i6.1,i6.2)).size<=1125899906842624)/\((Z12.size+(⟨#[10]⟩:ByteArray).size<=1125899906842624)/\(∃ y4:Nat,(y4<=s.tables.length)/\(s.tables.length-y4<s.tables.length-x3)/\((rf (vI Z10))/\(vI (wR ((x3:Int)+(1:Int)))=vI (y4:Int))/\(Value.string (Z12++(⟨#[10]⟩:ByteArray))=Value.string (CV s y4))/\(rf Z4))))))))) ((Value.string (CV s x3)=Value.string (BL s)))))))))))))))))) (by kernel_rfl) ?_
 conv=>zeta
 delta ifB vI wR nI
 have hvo:=AF s.obst
 have hvt:=AC s.tables
 refine ⟨s,by
  rfl,by
  first|trivial|(first|omega|assumption|exact hpre.1|exact hpre.2|(simp;done)),?_⟩
 refine ⟨λ c4=>?_,λ c4=>?_⟩
 ·try simp only [nrm] at c4
  rw [Db c4]
 try simp only [nrm] at c4
 obtain ⟨hl,hh,hrb,hv4,hv5⟩:=KG c4
 have hsp:=Jp c4
 have q1:AX (s.low.1,s.low.2)=Ae (s.low.1,s.low.2):=BI hl
 have q2:AX (s.high.1,s.high.2)=Ae (s.high.1,s.high.2):=BI hh
 have q3:=CU hsp.1
 have z1:(Ae (s.low.1,s.low.2)).size<=43:=BK hl
 have z2:(Ae (s.high.1,s.high.2)).size<=43:=BK hh
 have z3:=CM hrb.1
 have z4:=hrb.2
 have zh:=GL hl hh hrb
 have e1:(⟨#[114,111,111,109,32]⟩:ByteArray).size=5:=rfl
 have e2:(⟨#[32]⟩:ByteArray).size=1:=rfl
 have e3:(⟨#[10,114,111,98,111,116,32]⟩:ByteArray).size=7:=rfl
 have e4:(⟨#[10]⟩:ByteArray).size=1:=rfl
 have e5:(⟨#[111,98,115,116,97,99,108,101,32]⟩:ByteArray).size=9:=rfl
 have e6:(⟨#[116,97,98,108,101,32]⟩:ByteArray).size=6:=rfl
 refine ⟨(s.low.1,s.low.2),by
  rfl,by
  first|trivial|(first|omega|assumption|exact hpre.1|exact hpre.2|(simp;done)),?_⟩
 refine ao (a:=(⟨#[114,111,111,109,32]⟩:ByteArray).size+(AX (s.low.1,s.low.2)).size<=1125899906842624) (by first|rfl|omega|(simp only [AC,AF];omega)|(simp only [ByteArray.size_append,q1,q2,q3,e1,e2,e3,e4,e5,e6];omega)|(simp only [ByteArray.size_append,q1,q2,q3,e1,e2,e3,e4,e5,e6,hob];omega)|(simp only [ByteArray.size_append,q1,q2,q3,e1,e2,e3,e4,e5,e6,hvx,hvy,hvv];omega)) λ o9=>?_
 refine ao (a:=((⟨#[114,111,111,109,32]⟩:ByteArray)++AX (s.low.1,s.low.2)).size+(⟨#[32]⟩:ByteArray).size<=1125899906842624) (by first|rfl|omega|(simp only [AC,AF];omega)|(simp only [ByteArray.size_append,q1,q2,q3,e1,e2,e3,e4,e5,e6];omega)|(simp only [ByteArray.size_append,q1,q2,q3,e1,e2,e3,e4,e5,e6,hob];omega)|(simp only [ByteArray.size_append,q1,q2,q3,e1,e2,e3,e4,e5,e6,hvx,hvy,hvv];omega)) λ o10=>?_
 refine ⟨(s.high.1,s.high.2),by
  rfl,by
  first|trivial|(first|omega|assumption|exact hpre.1|exact hpre.2|(simp;done)),?_⟩
 refine ao (a:=(((⟨#[114,111,111,109,32]⟩:ByteArray)++AX (s.low.1,s.low.2))++(⟨#[32]⟩:ByteArray)).size+(AX (s.high.1,s.high.2)).size<=1125899906842624) (by first|rfl|omega|(simp only [AC,AF];omega)|(simp only [ByteArray.size_append,q1,q2,q3,e1,e2,e3,e4,e5,e6];omega)|(simp only [ByteArray.size_append,q1,q2,q3,e1,e2,e3,e4,e5,e6,hob];omega)|(simp only [ByteArray.size_append,q1,q2,q3,e1,e2,e3,e4,e5,e6,hvx,hvy,hvv];omega)) λ o14=>?_
 refine ao (a:=((((⟨#[114,111,111,109,32]⟩:ByteArray)++AX (s.low.1,s.low.2))++(⟨#[32]⟩:ByteArray))++AX (s.high.1,s.high.2)).size+(⟨#[10,114,111,98,111,116,32]⟩:ByteArray).size<=1125899906842624) (by first|rfl|omega|(simp only [AC,AF];omega)|(simp only [ByteArray.size_append,q1,q2,q3,e1,e2,e3,e4,e5,e6];omega)|(simp only [ByteArray.size_append,q1,q2,q3,e1,e2,e3,e4,e5,e6,hob];omega)|(simp only [ByteArray.size_append,q1,q2,q3,e1,e2,e3,e4,e5,e6,hvx,hvy,hvv];omega)) λ o15=>?_
 refine ⟨s.robot,by
  rfl,by
  first|trivial|(first|omega|assumption|exact hpre.1|exact hpre.2|(simp;done)),?_⟩
 refine ao (a:=(((((⟨#[114,111,111,109,32]⟩:ByteArray)++AX (s.low.1,s.low.2))++(⟨#[32]⟩:ByteArray))++AX (s.high.1,s.high.2))++(⟨#[10,114,111,98,111,116,32]⟩:ByteArray)).size+(A0 s.robot).size<=1125899906842624) (by first|rfl|omega|(simp only [AC,AF];omega)|(simp only [ByteArray.size_append,q1,q2,q3,e1,e2,e3,e4,e5,e6];omega)|(simp only [ByteArray.size_append,q1,q2,q3,e1,e2,e3,e4,e5,e6,hob];omega)|(simp only [ByteArray.size_append,q1,q2,q3,e1,e2,e3,e4,e5,e6,hvx,hvy,hvv];omega)) λ o19=>?_
 refine ao (a:=((((((⟨#[114,111,111,109,32]⟩:ByteArray)++AX (s.low.1,s.low.2))++(⟨#[32]⟩:ByteArray))++AX (s.high.1,s.high.2))++(⟨#[10,114,111,98,111,116,32]⟩:ByteArray))++A0 s.robot).size+(⟨#[10]⟩:ByteArray).size<=1125899906842624) (by first|rfl|omega|(simp only [AC,AF];omega)|(simp only [ByteArray.size_append,q1,q2,q3,e1,e2,e3,e4,e5,e6];omega)|(simp only [ByteArray.size_append,q1,q2,q3,e1,e2,e3,e4,e5,e6,hob];omega)|(simp only [ByteArray.size_append,q1,q2,q3,e1,e2,e3,e4,e5,e6,hvx,hvy,hvv];omega)) λ o20=>?_
 refine ⟨⟨0,by
  first|trivial|omega|(simp;omega),?_⟩,?_⟩
 ·refine ⟨rfl,rfl,?_,rfl,rfl,rfl,rfl,rfl,rfl,rfl⟩
  show Value.string (((((((⟨#[114,111,111,109,32]⟩:ByteArray)++AX (s.low.1,s.low.2))++(⟨#[32]⟩:ByteArray))++AX (s.high.1,s.high.2))++(⟨#[10,114,111,98,111,116,32]⟩:ByteArray))++A0 s.robot)++(⟨#[10]⟩:ByteArray))=Value.string (CY s 0)
  first|(rw [q1,q2,q3];rfl)|rfl
 intro (k:Nat) hki21
 have hki21:k<=s.obst.length:=hki21
 refine ⟨λ c33=>?_,λ c33=>?_⟩
 ·try simp only [nrm] at c33
  have hk:k<s.obst.length:=by omega
  have hob:=CU (hsp.2 k hk)
  have zo:=CM (hv4.2 k hk).1
  have zl:=(hv4.2 k hk).2
  have zs:=D0 s zh hv4.2 (show k<=s.obst.length by omega)
  have z9:=hv4.1
  refine ao (by first|rfl|omega|(simp only [AC,AF];omega)|(simp only [ByteArray.size_append,q1,q2,q3,e1,e2,e3,e4,e5,e6];omega)|(simp only [ByteArray.size_append,q1,q2,q3,e1,e2,e3,e4,e5,e6,hob];omega)|(simp only [ByteArray.size_append,q1,q2,q3,e1,e2,e3,e4,e5,e6,hvx,hvy,hvv];omega)) λ o34=>?_
  refine ao (by first|rfl|omega|(simp only [AC,AF];omega)|(simp only [ByteArray.size_append,q1,q2,q3,e1,e2,e3,e4,e5,e6];omega)|(simp only [ByteArray.size_append,q1,q2,q3,e1,e2,e3,e4,e5,e6,hob];omega)|(simp only [ByteArray.size_append,q1,q2,q3,e1,e2,e3,e4,e5,e6,hvx,hvy,hvv];omega)) λ o35=>?_
  refine ao (by first|rfl|omega|(simp only [AC,AF];omega)|(simp only [ByteArray.size_append,q1,q2,q3,e1,e2,e3,e4,e5,e6];omega)|(simp only [ByteArray.size_append,q1,q2,q3,e1,e2,e3,e4,e5,e6,hob];omega)|(simp only [ByteArray.size_append,q1,q2,q3,e1,e2,e3,e4,e5,e6,hvx,hvy,hvv];omega)) λ o36=>?_
  refine ⟨(s.obst.getD k []),by
   exact congrArg (λ x=>[DA.one (DC.sl 36 [.int,.int] x)]) (Km (by omega)),by
   first|trivial|(first|omega|assumption|exact hpre.1|exact hpre.2|(simp;done)),?_⟩
  refine ao (by first|rfl|omega|(simp only [AC,AF];omega)|(simp only [ByteArray.size_append,q1,q2,q3,e1,e2,e3,e4,e5,e6];omega)|(simp only [ByteArray.size_append,q1,q2,q3,e1,e2,e3,e4,e5,e6,hob];omega)|(simp only [ByteArray.size_append,q1,q2,q3,e1,e2,e3,e4,e5,e6,hvx,hvy,hvv];omega)) λ o40=>?_
  refine ao (by first|rfl|omega|(simp only [AC,AF];omega)|(simp only [ByteArray.size_append,q1,q2,q3,e1,e2,e3,e4,e5,e6];omega)|(simp only [ByteArray.size_append,q1,q2,q3,e1,e2,e3,e4,e5,e6,hob];omega)|(simp only [ByteArray.size_append,q1,q2,q3,e1,e2,e3,e4,e5,e6,hvx,hvy,hvv];omega)) λ o41=>?_
  refine ⟨k+1,by
   first|trivial|omega|(simp;omega),by
   first|omega|(simp;omega),?_⟩
  refine ⟨rfl,?_,?_,rfl,rfl,rfl,rfl,rfl,rfl,rfl⟩
  ·first|exact Bn (Al (by omega) (by omega))|(rw [hob];exact congrArg Value.string (Ix hk))
  first|exact Bn (Al (by omega) (by omega))|(rw [hob];exact congrArg Value.string (Ix hk))
 try simp only [nrm] at c33
 refine ⟨⟨0,by
  first|trivial|omega|(simp;omega),?_⟩,?_⟩
 ·refine ⟨rfl,rfl,?_,rfl⟩
  rw [show k=s.obst.length by omega];rfl
 intro (k:Nat) hki55
 have hki55:k<=s.tables.length:=hki55
 refine And.symm ⟨λ c61=>?_,λ c61=>?_⟩
 ·try simp only [nrm] at c61
  rw [Cy c4,show k=s.tables.length by omega];rfl
 try simp only [nrm] at c61
 have hk:k<s.tables.length:=by omega
 have hvx:=Je hk
 have hvy:=Jf hk
 have hvv:AX ((s.tables.getD k (0,0)).1,(s.tables.getD k (0,0)).2)=Ae (s.tables.getD k (0,0)):=BI (hv5.2 k hk)
 have zo:=BK (hv5.2 k hk)
 have z8:=hv4.1
 have z9:=hv5.1
 have zs:=Ht s (Nat.le_trans (D0 s zh hv4.2 (Nat.le_refl _)) (by omega)) hv5.2 (show k<=s.tables.length by omega)
 refine ao (by first|rfl|omega|(simp only [AC,AF];omega)|(simp only [ByteArray.size_append,q1,q2,q3,e1,e2,e3,e4,e5,e6];omega)|(simp only [ByteArray.size_append,q1,q2,q3,e1,e2,e3,e4,e5,e6,hob];omega)|(simp only [ByteArray.size_append,q1,q2,q3,e1,e2,e3,e4,e5,e6,hvx,hvy,hvv];omega)) λ o62=>?_
 refine ao (by first|rfl|omega|(simp only [AC,AF];omega)|(simp only [ByteArray.size_append,q1,q2,q3,e1,e2,e3,e4,e5,e6];omega)|(simp only [ByteArray.size_append,q1,q2,q3,e1,e2,e3,e4,e5,e6,hob];omega)|(simp only [ByteArray.size_append,q1,q2,q3,e1,e2,e3,e4,e5,e6,hvx,hvy,hvv];omega)) λ o63=>?_
 refine ao (by first|rfl|omega|(simp only [AC,AF];omega)|(simp only [ByteArray.size_append,q1,q2,q3,e1,e2,e3,e4,e5,e6];omega)|(simp only [ByteArray.size_append,q1,q2,q3,e1,e2,e3,e4,e5,e6,hob];omega)|(simp only [ByteArray.size_append,q1,q2,q3,e1,e2,e3,e4,e5,e6,hvx,hvy,hvv];omega)) λ o64=>?_
 refine ⟨(((((AA s.tables).getD k []).getD 0 (.int 0))).n,((((AA s.tables).getD k []).getD 1 (.int 0))).n),by
  rfl,by
  first|trivial|(first|omega|assumption|exact hpre.1|exact hpre.2|(simp;done)),?_⟩
 refine ao (a:=((CV s k)++(⟨#[116,97,98,108,101,32]⟩:ByteArray)).size+(AX ((((((AA s.tables).getD k []).getD 0 (.int 0))).n),(((((AA s.tables).getD k []).getD 1 (.int 0))).n))).size<=1125899906842624) (by first|rfl|omega|(simp only [AC,AF];omega)|(simp only [ByteArray.size_append,q1,q2,q3,e1,e2,e3,e4,e5,e6];omega)|(simp only [ByteArray.size_append,q1,q2,q3,e1,e2,e3,e4,e5,e6,hob];omega)|(simp only [ByteArray.size_append,q1,q2,q3,e1,e2,e3,e4,e5,e6,hvx,hvy,hvv];omega)) λ o68=>?_
 refine ao (a:=(((CV s k)++(⟨#[116,97,98,108,101,32]⟩:ByteArray))++AX ((((((AA s.tables).getD k []).getD 0 (.int 0))).n),(((((AA s.tables).getD k []).getD 1 (.int 0))).n))).size+(⟨#[10]⟩:ByteArray).size<=1125899906842624) (by first|rfl|omega|(simp only [AC,AF];omega)|(simp only [ByteArray.size_append,q1,q2,q3,e1,e2,e3,e4,e5,e6];omega)|(simp only [ByteArray.size_append,q1,q2,q3,e1,e2,e3,e4,e5,e6,hob];omega)|(simp only [ByteArray.size_append,q1,q2,q3,e1,e2,e3,e4,e5,e6,hvx,hvy,hvv];omega)) λ o69=>?_
 refine ⟨k+1,by
  first|trivial|omega|(simp;omega),by
  first|omega|(simp;omega),?_⟩
 refine ⟨rfl,?_,?_,rfl⟩
 ·first|exact Bn (Al (by omega) (by omega))|(rw [hvx,hvy,hvv];exact congrArg Value.string (Iy hk))
 show Value.string ((((CV s k)++(⟨#[116,97,98,108,101,32]⟩:ByteArray))++AX ((((((AA s.tables).getD k []).getD 0 (.int 0))).n),(((((AA s.tables).getD k []).getD 1 (.int 0))).n)))++(⟨#[10]⟩:ByteArray))=Value.string (CV s (k+1))
 first|exact Bn (Al (by omega) (by omega))|(rw [hvx,hvy,hvv];exact congrArg Value.string (Iy hk))
end Go.Proofs.YtgggkcoljpimcaaDoor
