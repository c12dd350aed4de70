import Derived.Test.YtcpjekkiejhgpaaGreatDoorPsRkS5
import Derived.Test.YtcpjekkiejhgpaaGreatDoorPsMrk
namespace Go.Proofs.YtcpjekkiejhgpaaGreatDoor
set_option maxRecDepth 100000
set_option linter.unusedVariables false
set_option linter.unusedSimpArgs false
open Go.RowKit
def As:Con:={ ι:=(List (List Dat))×Int,pre:=λ i=>Dat.has (.sl 23 [.int,.int]) (.sl i.1)/\0<=i.2/\i.2+(AC i.1:Int)<=4611686018427387904,args:=λ i=>[.one (DC.sl 23 [.int,.int] i.1),.one (cI i.2)],mu:=[0],new:=λ i=>[AT i.2 i.1],res:=λ i=>⟨false,[none],[rcI (i.2+(AC i.1:Int))]⟩ }
theorem Gs:As.Ok Tryz.prog 19:=by
 refine fok (X:=⟨tt,[],[],27,[]⟩) mixed BG (CTok.nil _) Tryz.func19 (λ (i:(List (List Dat))×Int)=>[(2,.mk 2 (Nat×Int) (λ x1=>{ tm:=[(0,tX 1),(1,tI x1.2),(5,tI (nI x1.1))],en:=[(1,.mu 23 [.int,.int] (Ag i.2 x1.1 i.1) 0)] }) (λ x1=>x1.1<=i.1.length/\x1.2=i.2+(AC (i.1.take x1.1):Int)) (λ x1=>i.1.length-x1.1) (λ _=>[]))]) ?_
 rintro ⟨l,k⟩ hpre
 have hpre:Dat.has (.sl 23 [.int,.int]) (.sl l)/\0<=k/\k+(AC l:Int)<=4611686018427387904:=hpre
 refine BF (q:=(∃ x1:Nat×Int,(x1.1<=l.length/\x1.2=k+(AC (l.take x1.1):Int))/\((vI k=vI x1.2)/\(vI (0:Int)=vI (nI x1.1))/\(l=(Ag k x1.1 l))))/\∀ x1:Nat×Int,let Z1:=Ag k x1.1 l;(x1.1<=l.length/\x1.2=k+(AC (l.take x1.1):Int))->(ifB ((decide ((nI x1.1)<(nI (Z1.length))))) ((0<=(nI x1.1)/\(nI x1.1)<(Z1.length:Int))/\((x1.1<Z1.length)/\((x1.1<Z1.length)/\(∀ R1:List (List Dat),R1=Hj Z1 x1.1 0 (Dat.int x1.2)->((0<=(nI x1.1)/\(nI x1.1)<(R1.length:Int))/\((x1.1<R1.length)/\((x1.1<R1.length)/\(∀ R2:List (List Dat),R2=Hj R1 x1.1 1 (Dat.int (wR (x1.2+(1:Int))))->(∃ y2:Nat×Int,(y2.1<=l.length/\y2.2=k+(AC (l.take y2.1):Int))/\(l.length-y2.1<l.length-x1.1)/\((vI (wR ((wR (x1.2+(1:Int)))+(1:Int)))=vI y2.2)/\(vI (wR ((nI x1.1)+(1:Int)))=vI (nI y2.1))/\(R2=(Ag k y2.1 l)))))))))))) ((vI x1.2=vI (k+(AC l:Int)))/\(Z1=(AT k l))))) (by kernel_rfl) ?_
 conv=>zeta
 delta ifB vI wR nI
 obtain ⟨hh,h0,h1⟩:=hpre
 have hl:=G8 hh
 have hh2:=Fd hh
 refine ⟨⟨(0,k),by
  first|exact ⟨Nat.zero_le _,by simp [AC]⟩|exact ⟨by omega,hcx.1⟩,?_⟩,?_⟩
 ·refine ⟨rfl,?_,?_⟩
  ·show Value.int .i64 (0:Int)=Value.int .i64 ((0:Nat):Int)
   first|rfl|exact (C8 _ _).symm
  show l=(Ag k 0 l)
  first|rfl|exact (C8 _ _).symm
 rintro ⟨j,m⟩ hki1
 have hki1:j<=l.length/\m=k+(AC (l.take j):Int):=hki1
 have hml:=BI k j l
 refine And.symm ⟨λ c6=>?_,λ c6=>?_⟩
 ·try simp only [nrm] at c6
  rw [hml] at c6
  refine ⟨?_,?_⟩
  ·show Value.int .i64 m=Value.int .i64 (k+(AC l:Int))
   first|exact AP (El (by omega) hki1.2)|exact Dt hki1.1 (by omega)
  show (Ag k j l)=(AT k l)
  first|exact AP (El (by omega) hki1.2)|exact Dt hki1.1 (by omega)
 try simp only [nrm] at c6
 rw [hml] at c6
 have hj:j<l.length:=by omega
 have hrow:=hh2 j hj
 have hcx:=Fr hj hki1.2
 have h0m:0<=m:=by have:=KT hki1.2;omega
 have hcb:m+(Aa (l.getD j []):Int)<=4611686018427387904:=by omega
 have e:=L0 (k:=k) (m:=m) hj
 have hk:=(HS m (l.getD j [])).symm
 have hL:=hml
 refine ao (a:=0<=((j:Nat):Int)/\((j:Nat):Int)<((Ag k j l).length:Int)) (by first|exact ixL hL hj|exact ixI hL hj|rfl|omega) λ o7=>?_
 refine ao (a:=j<(Ag k j l).length) (by first|exact ixL hL hj|exact ixI hL hj|rfl|omega) λ o8=>?_
 refine ao (a:=j<(Ag k j l).length) (by first|exact ixL hL hj|exact ixI hL hj|rfl|omega) λ o9=>?_
 intro R1 hR1
 have e:=mk_int hj hrow (c:=0) rfl e hk hR1
 have hk:=KS hrow (c:=0) rfl hk h0m hcb
 have hL:=mkL e
 refine ao (a:=0<=((j:Nat):Int)/\((j:Nat):Int)<(R1.length:Int)) (by first|exact ixL hL hj|exact ixI hL hj|rfl|omega) λ o11=>?_
 refine ao (a:=j<R1.length) (by first|exact ixL hL hj|exact ixI hL hj|rfl|omega) λ o12=>?_
 refine ao (a:=j<R1.length) (by first|exact ixL hL hj|exact ixI hL hj|rfl|omega) λ o13=>?_
 intro R2 hR2
 have e:=mk_int hj hrow (c:=1) rfl e hk hR2
 have hk:=KS hrow (c:=1) rfl hk h0m hcb
 have hL:=mkL e
 refine ⟨(j+1,m+(Aa (l.getD j []):Int)),by
  exact ⟨hj,hcx.1⟩,by
  exact NV hj,?_⟩
 refine ⟨?_,?_,?_⟩
 ·show Value.int .i64 (IntKind.i64.wrap ((IntKind.i64.wrap (m+(1:Int)))+(1:Int)))=Value.int .i64 (m+(Aa (l.getD j []):Int))
  first|rfl|exact GQ hj hrow (by decide) e hki1.2|exact AP (Eu hrow (by decide) hk)|exact AP (DP hl hj)
 ·show Value.int .i64 (IntKind.i64.wrap (((j:Nat):Int)+(1:Int)))=Value.int .i64 (((j+1):Nat):Int)
  first|rfl|exact GQ hj hrow (by decide) e hki1.2|exact AP (Eu hrow (by decide) hk)|exact AP (DP hl hj)
 show R2=(Ag k (j+1) l)
 first|rfl|exact GQ hj hrow (by decide) e hki1.2|exact AP (Eu hrow (by decide) hk)|exact AP (DP hl hj)
def Bc:Con:={ ι:=(List (List Dat))×Int,pre:=λ i=>Dat.has (.sl 24 [.sl 23 [.int,.int]]) (.sl i.1)/\0<=i.2/\i.2+(AC i.1:Int)<=4611686018427387904,args:=λ i=>[.one (DC.sl 24 [.sl 23 [.int,.int]] i.1),.one (cI i.2)],mu:=[0],new:=λ i=>[AT i.2 i.1],res:=λ i=>⟨false,[none],[rcI (i.2+(AC i.1:Int))]⟩ }
theorem KU:Bc.Ok Tryz.prog 20:=by
 refine fok (X:=⟨tt,[(19,As)],[],19,[]⟩) mixed BG (CTok.cons Gs (CTok.nil _)) Tryz.func20 (λ (i:(List (List Dat))×Int)=>[(2,.mk 2 (Nat×Int) (λ x1=>{ tm:=[(0,tX 1),(1,tI x1.2),(5,tI (nI x1.1))],en:=[(1,.mu 24 [.sl 23 [.int,.int]] (Ag i.2 x1.1 i.1) 0)] }) (λ x1=>x1.1<=i.1.length/\x1.2=i.2+(AC (i.1.take x1.1):Int)) (λ x1=>i.1.length-x1.1) (λ _=>[]))]) ?_
 rintro ⟨l,k⟩ hpre
 have hpre:Dat.has (.sl 24 [.sl 23 [.int,.int]]) (.sl l)/\0<=k/\k+(AC l:Int)<=4611686018427387904:=hpre
 refine BF (q:=(∃ x1:Nat×Int,(x1.1<=l.length/\x1.2=k+(AC (l.take x1.1):Int))/\((vI k=vI x1.2)/\(vI (0:Int)=vI (nI x1.1))/\(l=(Ag k x1.1 l))))/\∀ x1:Nat×Int,let Z1:=Ag k x1.1 l;let Z2:=(Z1.getD x1.1 []).getD 0 (.int 0);(x1.1<=l.length/\x1.2=k+(AC (l.take x1.1):Int))->(ifB ((decide ((nI x1.1)<(nI (Z1.length))))) ((0<=(nI x1.1)/\(nI x1.1)<(Z1.length:Int))/\((x1.1<Z1.length)/\(∃ i1:(List (List Dat))×Int,[DA.one (DC.sl 23 [.int,.int] ((Z2).r)),DA.one (cI x1.2)]=As.args i1/\As.pre i1/\((x1.1<Z1.length)/\(((Z2).r=Z2.r)/\(∀ R1:List (List Dat),R1=Hj Z1 x1.1 0 (.sl (AT i1.2 i1.1))->(∃ y2:Nat×Int,(y2.1<=l.length/\y2.2=k+(AC (l.take y2.1):Int))/\(l.length-y2.1<l.length-x1.1)/\((vI (i1.2+(AC i1.1:Int))=vI y2.2)/\(vI (wR ((nI x1.1)+(1:Int)))=vI (nI y2.1))/\(R1=(Ag k y2.1 l)))))))))) ((vI x1.2=vI (k+(AC l:Int)))/\(Z1=(AT k l))))) (by kernel_rfl) ?_
 conv=>zeta
 delta ifB vI wR nI
 obtain ⟨hh,h0,h1⟩:=hpre
 have hl:=G8 hh
 have hh2:=Fd hh
 refine ⟨⟨(0,k),by
  first|exact ⟨Nat.zero_le _,by simp [AC]⟩|exact ⟨by omega,hcx.1⟩,?_⟩,?_⟩
 ·refine ⟨rfl,?_,?_⟩
  ·show Value.int .i64 (0:Int)=Value.int .i64 ((0:Nat):Int)
   first|rfl|exact (C8 _ _).symm
  show l=(Ag k 0 l)
  first|rfl|exact (C8 _ _).symm
 rintro ⟨j,m⟩ hki1
 have hki1:j<=l.length/\m=k+(AC (l.take j):Int):=hki1
 have hml:=BI k j l
 refine And.symm ⟨λ c6=>?_,λ c6=>?_⟩
 ·try simp only [nrm] at c6
  rw [hml] at c6
  refine ⟨?_,?_⟩
  ·show Value.int .i64 m=Value.int .i64 (k+(AC l:Int))
   first|exact AP (El (by omega) hki1.2)|exact Dt hki1.1 (by omega)
  show (Ag k j l)=(AT k l)
  first|exact AP (El (by omega) hki1.2)|exact Dt hki1.1 (by omega)
 try simp only [nrm] at c6
 rw [hml] at c6
 have hj:j<l.length:=by omega
 have hrow:=hh2 j hj
 have hcx:=Fr hj hki1.2
 have h0m:0<=m:=by have:=KT hki1.2;omega
 have hcb:m+(Aa (l.getD j []):Int)<=4611686018427387904:=by omega
 have e:=L0 (k:=k) (m:=m) hj
 have hk:=(HS m (l.getD j [])).symm
 have hL:=hml
 refine ao (a:=0<=((j:Nat):Int)/\((j:Nat):Int)<((Ag k j l).length:Int)) (by first|exact ixL hL hj|exact ixI hL hj|rfl|omega) λ o7=>?_
 refine ao (a:=j<(Ag k j l).length) (by first|exact ixL hL hj|exact ixI hL hj|rfl|omega) λ o8=>?_
 refine ⟨((((l.getD j []).getD 0 (.int 0)).r),(cn m (l.getD j []) 0)),by
  exact Ri hj e hk,by
  try dsimp only [As]
  exact RM hrow (c:=0) rfl h0m hcb,?_⟩
 refine ao (a:=j<(Ag k j l).length) (by first|exact ixL hL hj|exact ixI hL hj|rfl|omega) λ o12=>?_
 refine ao (a:=((((Ag k j l).getD j []).getD 0 (.int 0))).r=(((Ag k j l).getD j []).getD 0 (.int 0)).r) (by first|exact ixL hL hj|exact ixI hL hj|rfl|omega) λ o13=>?_
 intro R1 hR1
 have e:=RL hj hrow (c:=0) rfl e hR1
 have hk:=Pn (m:=m) hrow (c:=0) rfl
 have hL:=mkL e
 refine ⟨(j+1,m+(Aa (l.getD j []):Int)),by
  exact ⟨hj,hcx.1⟩,by
  exact NV hj,?_⟩
 refine ⟨?_,?_,?_⟩
 ·show Value.int .i64 ((cn m (l.getD j []) 0)+(AC (((l.getD j []).getD 0 (.int 0)).r):Int))=Value.int .i64 (m+(Aa (l.getD j []):Int))
  first|rfl|exact GQ hj hrow (by decide) e hki1.2|exact AP (Eu hrow (by decide) hk)|exact AP (DP hl hj)
 ·show Value.int .i64 (IntKind.i64.wrap (((j:Nat):Int)+(1:Int)))=Value.int .i64 (((j+1):Nat):Int)
  first|rfl|exact GQ hj hrow (by decide) e hki1.2|exact AP (Eu hrow (by decide) hk)|exact AP (DP hl hj)
 show R1=(Ag k (j+1) l)
 first|rfl|exact GQ hj hrow (by decide) e hki1.2|exact AP (Eu hrow (by decide) hk)|exact AP (DP hl hj)
def Bd:Con:={ ι:=Scn×Int,pre:=λ i=>Dat.has (.sl 23 [.int,.int]) (.sl (AD i.1.robot))/\Dat.has (.sl 24 [.sl 23 [.int,.int]]) (.sl (AM i.1.obst))/\Dat.has (.sl 23 [.int,.int]) (.sl (AD i.1.tables))/\0<=i.2/\i.2+(AC (AD i.1.robot):Int)+(AC (AM i.1.obst):Int)+(AC (AD i.1.tables):Int)<=4611686018427387904,args:=λ i=>[DA.agg [cI i.1.low.1,cI i.1.low.2,cI i.1.high.1,cI i.1.high.2,DC.sl 23 [.int,.int] (AD i.1.robot),DC.sl 24 [.sl 23 [.int,.int]] (AM i.1.obst),DC.sl 23 [.int,.int] (AD i.1.tables)],.one (cI i.2)],mu:=[4,5,6],new:=λ i=>[AT (i.2) (AD i.1.robot),AT (i.2+(AC (AD i.1.robot):Int)) (AM i.1.obst),AT (i.2+(AC (AD i.1.robot):Int)+(AC (AM i.1.obst):Int)) (AD i.1.tables)],res:=λ i=>⟨false,[none],[rcI (i.2+(AC (AD i.1.robot):Int)+(AC (AM i.1.obst):Int)+(AC (AD i.1.tables):Int))]⟩ }
theorem KV:Bd.Ok Tryz.prog 7:=by
 refine fok (X:=⟨tt,[(19,As),(20,Bc)],[],18,[]⟩) mixed BG (CTok.cons Gs (CTok.cons KU (CTok.nil _))) Tryz.func7 (λ _=>[]) ?_
 rintro ⟨s,k⟩ hpre
 have hpre:Dat.has (.sl 23 [.int,.int]) (.sl (AD s.robot))/\Dat.has (.sl 24 [.sl 23 [.int,.int]]) (.sl (AM s.obst))/\Dat.has (.sl 23 [.int,.int]) (.sl (AD s.tables))/\0<=k/\k+(AC (AD s.robot):Int)+(AC (AM s.obst):Int)+(AC (AD s.tables):Int)<=4611686018427387904:=hpre
 refine BF (q:=let Z5:=AD s.robot;let Z4:=AD s.tables;let Z3:=List Dat;let Z2:=AM s.obst;let Z1:=(AC Z5:Int);∃ i1:(List Z3)×Int,[DA.one (DC.sl 23 [.int,.int] Z5),DA.one (cI k)]=As.args i1/\As.pre i1/\(∀ R1:List Z3,R1=AT i1.2 i1.1->(∃ i2:(List Z3)×Int,[DA.one (DC.sl 24 [.sl 23 [.int,.int]] Z2),DA.one (cI (i1.2+(AC i1.1:Int)))]=Bc.args i2/\Bc.pre i2/\(∀ R2:List Z3,R2=AT i2.2 i2.1->(∃ i3:(List Z3)×Int,[DA.one (DC.sl 23 [.int,.int] Z4),DA.one (cI (i2.2+(AC i2.1:Int)))]=As.args i3/\As.pre i3/\(∀ R3:List Z3,R3=AT i3.2 i3.1->((vI (i3.2+(AC i3.1:Int))=vI (k+Z1+(AC Z2:Int)+(AC Z4:Int)))/\(R1=(AT (k) Z5))/\(R2=(AT (k+Z1) Z2))/\(R3=(AT (k+Z1+(AC Z2:Int)) Z4))))))))) (by kernel_rfl) ?_
 conv=>zeta
 delta vI
 obtain ⟨p4,p5,p6,h0,h1⟩:=hpre
 refine ⟨((AD s.robot),k),by
  rfl,by
  show Dat.has (.sl 23 [.int,.int]) (.sl (AD s.robot))/\0<=k/\k+(AC (AD s.robot):Int)<=4611686018427387904
  exact ⟨p4,by omega,by omega⟩,?_⟩
 intro R1 hR1
 refine ⟨((AM s.obst),(k+(AC (AD s.robot):Int))),by
  rfl,by
  try dsimp only [Bc]
  exact ⟨p5,by omega,by omega⟩,?_⟩
 intro R2 hR2
 refine ⟨((AD s.tables),((k+(AC (AD s.robot):Int))+(AC (AM s.obst):Int))),by
  rfl,by
  try dsimp only [As]
  exact ⟨p6,by omega,by omega⟩,?_⟩
 intro R3 hR3
 refine ⟨?_,?_,?_,?_⟩
 ·show Value.int .i64 (((k+(AC (AD s.robot):Int))+(AC (AM s.obst):Int))+(AC (AD s.tables):Int))=Value.int .i64 (k+(AC (AD s.robot):Int)+(AC (AM s.obst):Int)+(AC (AD s.tables):Int))
  first|rfl|assumption
 ·first|rfl|assumption
 ·first|rfl|assumption
 first|rfl|assumption
def At:Con:={ ι:=(List (List Dat))×Int,pre:=λ i=>Dat.has (.sl 23 [.int,.int]) (.sl i.1)/\0<=i.2/\i.2+(AC i.1:Int)<=4611686018427387904,args:=λ i=>[.one (DC.sl 23 [.int,.int] (AT i.2 i.1)),.one (cI i.2)],res:=λ i=>⟨false,[none],[rcI (i.2+(AC i.1:Int))]⟩ }
theorem Gt:At.Ok Tryz.prog 21:=by
 refine fok (X:=⟨tt,[],[],31,[]⟩) mixed BG (CTok.nil _) Tryz.func21 (λ (i:(List (List Dat))×Int)=>[(2,.mk 2 (Nat×Int) (λ x1=>{ tm:=[(0,tX 1),(1,tI x1.2),(5,tI (nI x1.1))],en:=[(1,.view 23 [.int,.int] (AT i.2 i.1) [])] }) (λ x1=>x1.1<=i.1.length/\x1.2=i.2+(AC (i.1.take x1.1):Int)) (λ x1=>i.1.length-x1.1) (λ _=>[]))]) ?_
 rintro ⟨l,k⟩ hpre
 have hpre:Dat.has (.sl 23 [.int,.int]) (.sl l)/\0<=k/\k+(AC l:Int)<=4611686018427387904:=hpre
 refine BF (q:=let Z3:=(vI (-1:Int)=vI (k+(AC l:Int)));let Z1:=AT k l;(∃ x1:Nat×Int,(x1.1<=l.length/\x1.2=k+(AC (l.take x1.1):Int))/\((vI k=vI x1.2)/\(vI (0:Int)=vI (nI x1.1))/\(rf Z1)))/\∀ x1:Nat×Int,let Z2:=x1.1<Z1.length;(x1.1<=l.length/\x1.2=k+(AC (l.take x1.1):Int))->(ifB ((decide ((nI x1.1)<(nI (Z1.length))))) ((0<=(nI x1.1)/\(nI x1.1)<(Z1.length:Int))/\(Z2/\(Z2/\(ifB (((((Z1.getD x1.1 []).getD 0 (.int 0))).n != x1.2)) Z3 ((0<=(nI x1.1)/\(nI x1.1)<(Z1.length:Int))/\(Z2/\(Z2/\(ifB (((((Z1.getD x1.1 []).getD 1 (.int 0))).n != (wR (x1.2+(1:Int))))) Z3 (∃ y2:Nat×Int,(y2.1<=l.length/\y2.2=k+(AC (l.take y2.1):Int))/\(l.length-y2.1<l.length-x1.1)/\((vI (wR ((wR (x1.2+(1:Int)))+(1:Int)))=vI y2.2)/\(vI (wR ((nI x1.1)+(1:Int)))=vI (nI y2.1))/\(rf Z1))))))))))) ((vI x1.2=vI (k+(AC l:Int)))))) (by kernel_rfl) ?_
 conv=>zeta
 delta ifB vI wR nI
 obtain ⟨hh,h0,h1⟩:=hpre
 have hl:=G8 hh
 have hh2:=Fd hh
 have hml:=BH k l
 refine ⟨⟨(0,k),by
  first|exact ⟨Nat.zero_le _,by simp [AC]⟩|exact ⟨by omega,hcx.1⟩,?_⟩,?_⟩
 ·refine ⟨rfl,?_,rfl⟩
  show Value.int .i64 (0:Int)=Value.int .i64 ((0:Nat):Int)
  rfl
 rintro ⟨j,m⟩ hki1
 have hki1:j<=l.length/\m=k+(AC (l.take j):Int):=hki1
 refine And.symm ⟨λ c6=>?_,λ c6=>?_⟩
 ·try simp only [nrm] at c6
  rw [hml] at c6
  show Value.int .i64 m=Value.int .i64 (k+(AC l:Int))
  exact AP (El (by omega) hki1.2)
 try simp only [nrm] at c6
 rw [hml] at c6
 have hj:j<l.length:=by omega
 have hrow:=hh2 j hj
 have hcx:=Fr hj hki1.2
 have h0m:0<=m:=by have:=KT hki1.2;omega
 have hcb:m+(Aa (l.getD j []):Int)<=4611686018427387904:=by omega
 have hk:=(HS m (l.getD j [])).symm
 refine ao (a:=0<=((j:Nat):Int)/\((j:Nat):Int)<((AT k l).length:Int)) (by first|exact ixL hml hj|exact ixI hml hj|rfl|omega) λ o7=>?_
 refine ao (a:=j<(AT k l).length) (by first|exact ixL hml hj|exact ixI hml hj|rfl|omega) λ o8=>?_
 refine ao (a:=j<(AT k l).length) (by first|exact ixL hml hj|exact ixI hml hj|rfl|omega) λ o9=>?_
 refine ⟨λ c10=>?_,λ c10=>?_⟩
 ·try simp only [nrm] at c10
  exact absurd (Po hj hki1.2 hrow (c:=0) rfl hk) c10 -- done
 try simp only [nrm] at c10
 have hk:=KS hrow (c:=0) rfl hk h0m hcb
 refine ao (a:=0<=((j:Nat):Int)/\((j:Nat):Int)<((AT k l).length:Int)) (by first|exact ixL hml hj|exact ixI hml hj|rfl|omega) λ o12=>?_
 refine ao (a:=j<(AT k l).length) (by first|exact ixL hml hj|exact ixI hml hj|rfl|omega) λ o13=>?_
 refine ao (a:=j<(AT k l).length) (by first|exact ixL hml hj|exact ixI hml hj|rfl|omega) λ o14=>?_
 refine ⟨λ c15=>?_,λ c15=>?_⟩
 ·try simp only [nrm] at c15
  exact absurd (Po hj hki1.2 hrow (c:=1) rfl hk) c15 -- done
 try simp only [nrm] at c15
 have hk:=KS hrow (c:=1) rfl hk h0m hcb
 refine ⟨(j+1,m+(Aa (l.getD j []):Int)),by
  exact ⟨hj,hcx.1⟩,by
  exact NV hj,?_⟩
 refine ⟨?_,?_,rfl⟩
 ·show Value.int .i64 (IntKind.i64.wrap ((IntKind.i64.wrap (m+(1:Int)))+(1:Int)))=Value.int .i64 (m+(Aa (l.getD j []):Int))
  first|rfl|exact AP (Eu hrow (by decide) hk)|exact AP (DP hl hj)
 show Value.int .i64 (IntKind.i64.wrap (((j:Nat):Int)+(1:Int)))=Value.int .i64 (((j+1):Nat):Int)
 first|rfl|exact AP (Eu hrow (by decide) hk)|exact AP (DP hl hj)
def Be:Con:={ ι:=(List (List Dat))×Int,pre:=λ i=>Dat.has (.sl 24 [.sl 23 [.int,.int]]) (.sl i.1)/\0<=i.2/\i.2+(AC i.1:Int)<=4611686018427387904,args:=λ i=>[.one (DC.sl 24 [.sl 23 [.int,.int]] (AT i.2 i.1)),.one (cI i.2)],res:=λ i=>⟨false,[none],[rcI (i.2+(AC i.1:Int))]⟩ }
theorem KW:Be.Ok Tryz.prog 22:=by
 refine fok (X:=⟨tt,[(21,At)],[],21,[]⟩) mixed BG (CTok.cons Gt (CTok.nil _)) Tryz.func22 (λ (i:(List (List Dat))×Int)=>[(2,.mk 2 (Nat×Int) (λ x1=>{ tm:=[(0,tX 1),(1,tI x1.2),(5,tI (nI x1.1))],en:=[(1,.view 24 [.sl 23 [.int,.int]] (AT i.2 i.1) [])] }) (λ x1=>x1.1<=i.1.length/\x1.2=i.2+(AC (i.1.take x1.1):Int)) (λ x1=>i.1.length-x1.1) (λ _=>[]))]) ?_
 rintro ⟨l,k⟩ hpre
 have hpre:Dat.has (.sl 24 [.sl 23 [.int,.int]]) (.sl l)/\0<=k/\k+(AC l:Int)<=4611686018427387904:=hpre
 refine BF (q:=let Z1:=AT k l;(∃ x1:Nat×Int,(x1.1<=l.length/\x1.2=k+(AC (l.take x1.1):Int))/\((vI k=vI x1.2)/\(vI (0:Int)=vI (nI x1.1))/\(rf Z1)))/\∀ x1:Nat×Int,(x1.1<=l.length/\x1.2=k+(AC (l.take x1.1):Int))->(ifB ((decide ((nI x1.1)<(nI (Z1.length))))) ((0<=(nI x1.1)/\(nI x1.1)<(Z1.length:Int))/\((x1.1<Z1.length)/\(∃ i1:(List (List Dat))×Int,let Z2:=i1.2+(AC i1.1:Int);[DA.one (DC.sl 23 [.int,.int] ((((Z1.getD x1.1 []).getD 0 (.int 0))).r)),DA.one (cI x1.2)]=At.args i1/\At.pre i1/\(ifB ((decide (Z2<(0:Int)))) ((vI (-1:Int)=vI (k+(AC l:Int)))) (∃ y2:Nat×Int,(y2.1<=l.length/\y2.2=k+(AC (l.take y2.1):Int))/\(l.length-y2.1<l.length-x1.1)/\((vI Z2=vI y2.2)/\(vI (wR ((nI x1.1)+(1:Int)))=vI (nI y2.1))/\(rf Z1))))))) ((vI x1.2=vI (k+(AC l:Int)))))) (by kernel_rfl) ?_
 conv=>zeta
 delta ifB vI wR nI
 obtain ⟨hh,h0,h1⟩:=hpre
 have hl:=G8 hh
 have hh2:=Fd hh
 have hml:=BH k l
 refine ⟨⟨(0,k),by
  first|exact ⟨Nat.zero_le _,by simp [AC]⟩|exact ⟨by omega,hcx.1⟩,?_⟩,?_⟩
 ·refine ⟨rfl,?_,rfl⟩
  show Value.int .i64 (0:Int)=Value.int .i64 ((0:Nat):Int)
  rfl
 rintro ⟨j,m⟩ hki1
 have hki1:j<=l.length/\m=k+(AC (l.take j):Int):=hki1
 refine And.symm ⟨λ c6=>?_,λ c6=>?_⟩
 ·try simp only [nrm] at c6
  rw [hml] at c6
  show Value.int .i64 m=Value.int .i64 (k+(AC l:Int))
  exact AP (El (by omega) hki1.2)
 try simp only [nrm] at c6
 rw [hml] at c6
 have hj:j<l.length:=by omega
 have hrow:=hh2 j hj
 have hcx:=Fr hj hki1.2
 have h0m:0<=m:=by have:=KT hki1.2;omega
 have hcb:m+(Aa (l.getD j []):Int)<=4611686018427387904:=by omega
 have hk:=(HS m (l.getD j [])).symm
 refine ao (a:=0<=((j:Nat):Int)/\((j:Nat):Int)<((AT k l).length:Int)) (by first|exact ixL hml hj|exact ixI hml hj|rfl|omega) λ o7=>?_
 refine ao (a:=j<(AT k l).length) (by first|exact ixL hml hj|exact ixI hml hj|rfl|omega) λ o8=>?_
 refine ⟨((((l.getD j []).getD 0 (.int 0)).r),(cn m (l.getD j []) 0)),by
  exact RN hj hki1.2 hrow (c:=0) rfl hk,by
  try dsimp only [At]
  exact RM hrow (c:=0) rfl h0m hcb,?_⟩
 refine ⟨λ c12=>?_,λ c12=>?_⟩
 ·try simp only [nrm] at c12
  exfalso
  have:=Lz m (l.getD j []) 0
  omega -- done
 try simp only [nrm] at c12
 have hk:=Pn (m:=m) hrow (c:=0) rfl
 refine ⟨(j+1,m+(Aa (l.getD j []):Int)),by
  exact ⟨hj,hcx.1⟩,by
  exact NV hj,?_⟩
 refine ⟨?_,?_,rfl⟩
 ·show Value.int .i64 ((cn m (l.getD j []) 0)+(AC (((l.getD j []).getD 0 (.int 0)).r):Int))=Value.int .i64 (m+(Aa (l.getD j []):Int))
  first|rfl|exact AP (Eu hrow (by decide) hk)|exact AP (DP hl hj)
 show Value.int .i64 (IntKind.i64.wrap (((j:Nat):Int)+(1:Int)))=Value.int .i64 (((j+1):Nat):Int)
 first|rfl|exact AP (Eu hrow (by decide) hk)|exact AP (DP hl hj)
def A0:Con:={ ι:=Scn×Int,pre:=λ i=>Dat.has (.sl 23 [.int,.int]) (.sl (AD i.1.robot))/\Dat.has (.sl 24 [.sl 23 [.int,.int]]) (.sl (AM i.1.obst))/\Dat.has (.sl 23 [.int,.int]) (.sl (AD i.1.tables))/\0<=i.2/\i.2+(AC (AD i.1.robot):Int)+(AC (AM i.1.obst):Int)+(AC (AD i.1.tables):Int)<=4611686018427387904,args:=λ i=>[DA.agg [cI i.1.low.1,cI i.1.low.2,cI i.1.high.1,cI i.1.high.2,DC.sl 23 [.int,.int] (AT (i.2) (AD i.1.robot)),DC.sl 24 [.sl 23 [.int,.int]] (AT (i.2+(AC (AD i.1.robot):Int)) (AM i.1.obst)),DC.sl 23 [.int,.int] (AT (i.2+(AC (AD i.1.robot):Int)+(AC (AM i.1.obst):Int)) (AD i.1.tables))],.one (cI i.2)],res:=λ i=>⟨false,[none],[rcI (i.2+(AC (AD i.1.robot):Int)+(AC (AM i.1.obst):Int)+(AC (AD i.1.tables):Int))]⟩ }
theorem KX:A0.Ok Tryz.prog 8:=by
 refine fok (X:=⟨tt,[(21,At),(22,Be)],[],24,[]⟩) mixed BG (CTok.cons Gt (CTok.cons KW (CTok.nil _))) Tryz.func8 (λ _=>[]) ?_
 rintro ⟨s,k⟩ hpre
 have hpre:Dat.has (.sl 23 [.int,.int]) (.sl (AD s.robot))/\Dat.has (.sl 24 [.sl 23 [.int,.int]]) (.sl (AM s.obst))/\Dat.has (.sl 23 [.int,.int]) (.sl (AD s.tables))/\0<=k/\k+(AC (AD s.robot):Int)+(AC (AM s.obst):Int)+(AC (AD s.tables):Int)<=4611686018427387904:=hpre
 refine BF (q:=let Z5:=List (List Dat);let Z4:=(AC (AM s.obst):Int);let Z2:=(AC (AD s.robot):Int);let Z1:=k+Z2+Z4+(AC (AD s.tables):Int);let Z3:=(vI (-1:Int)=vI Z1);∃ i1:Z5×Int,let Z6:=i1.2+(AC i1.1:Int);[DA.one (DC.sl 23 [.int,.int] (AT (k) (AD s.robot))),DA.one (cI k)]=At.args i1/\At.pre i1/\(ifB ((decide (Z6<(0:Int)))) Z3 (∃ i2:Z5×Int,let Z7:=i2.2+(AC i2.1:Int);[DA.one (DC.sl 24 [.sl 23 [.int,.int]] (AT (k+Z2) (AM s.obst))),DA.one (cI Z6)]=Be.args i2/\Be.pre i2/\(ifB ((decide (Z7<(0:Int)))) Z3 (∃ i3:Z5×Int,let Z8:=i3.2+(AC i3.1:Int);[DA.one (DC.sl 23 [.int,.int] (AT (k+Z2+Z4) (AD s.tables))),DA.one (cI Z7)]=At.args i3/\At.pre i3/\(ifB ((decide (Z8<(0:Int)))) Z3 ((vI Z8=vI Z1)))))))) (by kernel_rfl) ?_
 conv=>zeta
 delta ifB vI
 obtain ⟨p4,p5,p6,h0,h1⟩:=hpre
 refine ⟨((AD s.robot),(k)),by
  rfl,by
  show Dat.has (.sl 23 [.int,.int]) (.sl (AD s.robot))/\0<=(k)/\(k)+(AC (AD s.robot):Int)<=4611686018427387904
  exact ⟨p4,by omega,by omega⟩,?_⟩
 refine ⟨λ c4=>?_,λ c4=>?_⟩
 ·try simp only [nrm] at c4
  exfalso
  omega -- done
 try simp only [nrm] at c4
 refine ⟨((AM s.obst),(k+(AC (AD s.robot):Int))),by
  rfl,by
  try dsimp only [Be]
  exact ⟨p5,by omega,by omega⟩,?_⟩
 refine ⟨λ c9=>?_,λ c9=>?_⟩
 ·try simp only [nrm] at c9
  exfalso
  omega -- done
 try simp only [nrm] at c9
 refine ⟨((AD s.tables),(k+(AC (AD s.robot):Int)+(AC (AM s.obst):Int))),by
  rfl,by
  try dsimp only [At]
  exact ⟨p6,by omega,by omega⟩,?_⟩
 refine ⟨λ c14=>?_,λ c14=>?_⟩
 ·try simp only [nrm] at c14
  exfalso
  omega -- done
 try simp only [nrm] at c14
 show Value.int .i64 ((k+(AC (AD s.robot):Int)+(AC (AM s.obst):Int))+(AC (AD s.tables):Int))=Value.int .i64 (k+(AC (AD s.robot):Int)+(AC (AM s.obst):Int)+(AC (AD s.tables):Int))
 rfl
theorem Mr (t:ByteArray):(Ab t).robot.length<=16/\(Ab t).obst.length<=4/\(∀ x ∈ (Ab t).obst,x.length<=16)/\(Ab t).tables.length<=3:=by
 cases h:okT t with
 | false=>rw [AJ h];exact ⟨Nat.zero_le _,Nat.zero_le _,λ x (hx:x ∈ C5.obst)=>(List.not_mem_nil (show x ∈ ([]:List (List V2)) from hx)).elim,Nat.zero_le _⟩
 | true=>
  rw [AL h]
  simp only [okT,Bool.and_eq_true] at h
  obtain ⟨-,-,hr,ho,ht⟩:=HQ h.2.1
  refine ⟨hr.2,ho.1,λ x hx=>?_,ht.1⟩
  obtain ⟨k,hk,rfl⟩:=List.mem_iff_getElem.1 hx
  have:=(ho.2 k hk).2
  simpa [List.getD,hk] using this
theorem HY:∀ l:List V2,BK (AD l)=0
 | []=>rfl
 | v::r=>by
  have:=HY r
  simp only [AD,List.map_cons,BK,I1,Cb,Dat.sz] at this ⊢
  omega
theorem L2:∀ l:List (List V2),(∀ x ∈ l,x.length<=16)->BK (AM l)<=16*l.length
 | [],_=>Nat.le_refl _
 | x::r,h=>by
  have h1:=L2 r λ y hy=>h y (List.mem_cons_of_mem _ hy)
  have h2:=h x (by simp)
  have h3:=HY x
  have h4:=AE x
  simp only [AM,List.map_cons,BK,Cb,Dat.sz,List.length_cons] at h1 ⊢
  omega
theorem QO (t:ByteArray):Dat.has (.sl 23 [.int,.int]) (.sl (AD (Ab t).robot))/\Dat.has (.sl 24 [.sl 23 [.int,.int]]) (.sl (AM (Ab t).obst))/\Dat.has (.sl 23 [.int,.int]) (.sl (AD (Ab t).tables)) /\
  (AC (AD (Ab t).robot):Int)<=2000000000/\(AC (AM (Ab t).obst):Int)<=2000000000/\(AC (AD (Ab t).tables):Int)<=2000000000:=by
 obtain ⟨h1,h2,h3,h4⟩:=Mr t
 have hz:QW (Ab t):=⟨by omega,by omega,λ x hx=>by have:=h3 x hx;omega,by omega⟩
 have hh:hasRow [.int,.int,.int,.int,.sl 23 [.int,.int],.sl 24 [.sl 23 [.int,.int]],.sl 23 [.int,.int]] (Kg (Ab t)):=PM hz
 obtain ⟨-,-,-,-,p1,p2,p3,-⟩:=hh
 refine ⟨p1,p2,p3,DO p1 ?_ (by simp [E9,Ty.K]),DO p2 ?_ (by simp [E9,Ty.K]),DO p3 ?_ (by simp [E9,Ty.K])⟩
 ·rw [HY,AE];omega
 ·have:=L2 _ h3;rw [AH];omega
 ·rw [HY,AE];omega
def GR:Con:={ ι:=ByteArray,pre:=λ i=>True,args:=λ i=>[.one (.im (.string i))],res:=λ i=>⟨false,[none],[rcB true]⟩ }
set_option maxHeartbeats 4000000 in
theorem Pp:GR.Ok Tryz.prog 3:=by
 refine fok (X:=⟨tt,[(4,Ej),(5,Cm),(6,Br),(7,Bd),(8,A0)],[],66,[]⟩) mixed BG (CTok.cons Pk (CTok.cons Pj (CTok.cons Mm (CTok.cons KV (CTok.cons KX (CTok.nil _)))))) Tryz.func3 (λ _=>[]) ?_
 intro (s:ByteArray) hpre
 have hpre:True:=hpre
 refine BF (q:=let Z17:=cI (1:Int);let Z10:=DC.im (Value.string s);let Z2:=(vB false=vB true);ifB ((decide ((nI s.size)>(1048576:Int)))) ((vB true=vB true)) (∃ i1:ByteArray,let Z16:=AD (Ab i1).tables;[DA.one Z10]=Ej.args i1/\Ej.pre i1/\(∃ i2:ByteArray,let Z15:=AD (Ab i2).tables;let Z12:=(Ab i2).low.2;let Z11:=(Ab i2).low.1;let Z8:=(Ab i2).high.2;let Z7:=(Ab i2).high.1;[DA.one Z10]=Cm.args i2/\Cm.pre i2/\(∃ i3:Scn,[DA.agg [cI Z11,cI Z12,cI Z7,cI Z8,DC.sl 23 [.int,.int] (AD (Ab i2).robot),DC.sl 24 [.sl 23 [.int,.int]] (AM (Ab i2).obst),DC.sl 23 [.int,.int] Z15],DA.agg [cI ((Ab i1).low.1),cI ((Ab i1).low.2),cI ((Ab i1).high.1),cI ((Ab i1).high.2),DC.sl 23 [.int,.int] (AD (Ab i1).robot),DC.sl 24 [.sl 23 [.int,.int]] (AM (Ab i1).obst),DC.sl 23 [.int,.int] Z16]]=Br.args i3/\Br.pre i3/\(ifB ((!(!true))) (ifB (((okT i2) != (okT i1))) Z2 (∃ i4:Scn×Int,let Z14:=AT (i4.2) (AD i4.1.robot);let Z5:=(AC (AM i4.1.obst):Int);let Z1:=(AC (AD i4.1.robot):Int);let Z13:=AT (i4.2+Z1) (AM i4.1.obst);let Z9:=AT (i4.2+Z1+Z5) (AD i4.1.tables);let Z6:=i4.2+Z1+Z5+(AC (AD i4.1.tables):Int);[DA.agg [cI Z11,cI Z12,cI Z7,cI Z8,DC.sl 23 [.int,.int] (AD (Ab i2).robot),DC.sl 24 [.sl 23 [.int,.int]] (AM (Ab i2).obst),DC.sl 23 [.int,.int] Z15],DA.one Z17]=Bd.args i4/\Bd.pre i4/\(∃ i5:Scn×Int,let Z3:=i5.2+(AC (AD i5.1.robot):Int)+(AC (AM i5.1.obst):Int)+(AC (AD i5.1.tables):Int);[DA.agg [cI Z11,cI Z12,cI Z7,cI Z8,DC.sl 23 [.int,.int] Z14,DC.sl 24 [.sl 23 [.int,.int]] Z13,DC.sl 23 [.int,.int] Z9],DA.one Z17]=A0.args i5/\A0.pre i5/\(ifB ((decide (Z3<(0:Int)))) Z2 (ifB ((Z3 != Z6)) Z2 (∃ i6:ByteArray,[DA.one Z10]=Cm.args i6/\Cm.pre i6/\(∃ i7:Scn,[DA.agg [cI ((Ab i6).low.1),cI ((Ab i6).low.2),cI ((Ab i6).high.1),cI ((Ab i6).high.2),DC.sl 23 [.int,.int] (AD (Ab i6).robot),DC.sl 24 [.sl 23 [.int,.int]] (AM (Ab i6).obst),DC.sl 23 [.int,.int] (AD (Ab i6).tables)],DA.agg [cI ((Ab i1).low.1),cI ((Ab i1).low.2),cI ((Ab i1).high.1),cI ((Ab i1).high.2),DC.sl 23 [.int,.int] (AD (Ab i1).robot),DC.sl 24 [.sl 23 [.int,.int]] (AM (Ab i1).obst),DC.sl 23 [.int,.int] Z16]]=Br.args i7/\Br.pre i7/\(ifB ((!(!true))) (ifB (((okT i6) != (okT i1))) Z2 (∃ i8:Scn×Int,let Z4:=i8.2+(AC (AD i8.1.robot):Int)+(AC (AM i8.1.obst):Int)+(AC (AD i8.1.tables):Int);[DA.agg [cI Z11,cI Z12,cI Z7,cI Z8,DC.sl 23 [.int,.int] Z14,DC.sl 24 [.sl 23 [.int,.int]] Z13,DC.sl 23 [.int,.int] Z9],DA.one Z17]=A0.args i8/\A0.pre i8/\(ifB ((decide (Z4<(0:Int)))) Z2 (ifB ((Z4 != Z6)) Z2 ((vB true=vB true)))))) Z2)))))))) Z2))))) (by kernel_rfl) ?_
 conv=>zeta
 delta ifB vB nI
 obtain ⟨p1,p2,p3,q1,q2,q3⟩:=QO s
 refine ⟨λ c1=>?_,λ c1=>?_⟩
 ·try simp only [nrm] at c1
  exact rfl
 try simp only [nrm] at c1
 refine ⟨s,by
  rfl,by
  show s.size<=1048576
  first|(show s.size<=_;omega)|exact ⟨p1,p2,p3,by omega,by omega⟩|exact ⟨Aj (by rfl) p1,Aj (by rfl) p2,Aj (by rfl) p3,by omega,by omega⟩|exact trivial,?_⟩
 refine ⟨s,by
  rfl,by
  show s.size<=1073741824
  first|(show s.size<=_;omega)|exact ⟨p1,p2,p3,by omega,by omega⟩|exact ⟨Aj (by rfl) p1,Aj (by rfl) p2,Aj (by rfl) p3,by omega,by omega⟩|exact trivial,?_⟩
 refine ⟨(Ab s),by
  rfl,by
  first|(show s.size<=_;omega)|exact ⟨p1,p2,p3,by omega,by omega⟩|exact ⟨Aj (by rfl) p1,Aj (by rfl) p2,Aj (by rfl) p3,by omega,by omega⟩|exact trivial,?_⟩
 refine And.symm ⟨λ c12=>?_,λ c12=>?_⟩
 ·try simp only [nrm] at c12
  first|rfl|contradiction|(exfalso;omega)|simp_all
 try simp only [nrm] at c12
 refine ⟨λ c13=>?_,λ c13=>?_⟩
 ·try simp only [nrm] at c13
  first|rfl|contradiction|(exfalso;omega)|simp_all
 try simp only [nrm] at c13
 refine ⟨((Ab s),(1:Int)),by
  rfl,by
  try dsimp only [Bd]
  first|(show s.size<=_;omega)|exact ⟨p1,p2,p3,by omega,by omega⟩|exact ⟨Aj (by rfl) p1,Aj (by rfl) p2,Aj (by rfl) p3,by omega,by omega⟩|exact trivial,?_⟩
 refine ⟨((Ab s),(1:Int)),by
  rfl,by
  try dsimp only [A0]
  first|(show s.size<=_;omega)|exact ⟨p1,p2,p3,by omega,by omega⟩|exact ⟨Aj (by rfl) p1,Aj (by rfl) p2,Aj (by rfl) p3,by omega,by omega⟩|exact trivial,?_⟩
 refine ⟨λ c21=>?_,λ c21=>?_⟩
 ·try simp only [nrm] at c21
  first|rfl|contradiction|(exfalso;omega)|simp_all
 try simp only [nrm] at c21
 refine ⟨λ c23=>?_,λ c23=>?_⟩
 ·try dsimp only at c23
  try simp only [nrm] at c23
  first|rfl|contradiction|(exfalso;omega)|simp_all
 try dsimp only at c23
 try simp only [nrm] at c23
 refine ⟨s,by
  rfl,by
  show s.size<=1073741824
  first|(show s.size<=_;omega)|exact ⟨p1,p2,p3,by omega,by omega⟩|exact ⟨Aj (by rfl) p1,Aj (by rfl) p2,Aj (by rfl) p3,by omega,by omega⟩|exact trivial,?_⟩
 refine ⟨(Ab s),by
  rfl,by
  first|(show s.size<=_;omega)|exact ⟨p1,p2,p3,by omega,by omega⟩|exact ⟨Aj (by rfl) p1,Aj (by rfl) p2,Aj (by rfl) p3,by omega,by omega⟩|exact trivial,?_⟩
 refine And.symm ⟨λ c31=>?_,λ c31=>?_⟩
 ·try simp only [nrm] at c31
  first|rfl|contradiction|(exfalso;omega)|simp_all
 try simp only [nrm] at c31
 refine ⟨λ c32=>?_,λ c32=>?_⟩
 ·try simp only [nrm] at c32
  first|rfl|contradiction|(exfalso;omega)|simp_all
 try simp only [nrm] at c32
 refine ⟨((Ab s),(1:Int)),by
  rfl,by
  try dsimp only [A0]
  first|(show s.size<=_;omega)|exact ⟨p1,p2,p3,by omega,by omega⟩|exact ⟨Aj (by rfl) p1,Aj (by rfl) p2,Aj (by rfl) p3,by omega,by omega⟩|exact trivial,?_⟩
 refine ⟨λ c37=>?_,λ c37=>?_⟩
 ·try simp only [nrm] at c37
  first|rfl|contradiction|(exfalso;omega)|simp_all
 try simp only [nrm] at c37
 refine ⟨λ c39=>?_,λ c39=>?_⟩
 ·try dsimp only at c39
  try simp only [nrm] at c39
  first|rfl|contradiction|(exfalso;omega)|simp_all
 try dsimp only at c39
 try simp only [nrm] at c39
 exact rfl
end Go.Proofs.YtcpjekkiejhgpaaGreatDoor
