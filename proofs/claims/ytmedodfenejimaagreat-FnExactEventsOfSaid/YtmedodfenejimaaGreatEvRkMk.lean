import Derived.Test.YtmedodfenejimaaGreatEvRkT
import Derived.Test.YtmedodfenejimaaGreatEvMrk
namespace Go.Proofs.YtmedodfenejimaaGreat
set_option maxRecDepth 100000
set_option linter.unusedVariables false
set_option linter.unusedSimpArgs false
open Go.RowKit
def Cq:Con:={ ι:=(List (List Dat))×Int,pre:=λ i=>Dat.has (.sl 3 [.int]) (.sl i.1)/\0<=i.2/\i.2+(AD i.1:Int)<=4611686018427387904,args:=λ i=>[.one (cS i.1),.one (cI i.2)],mu:=[0],new:=λ i=>[AY i.2 i.1],res:=λ i=>⟨false,[none],[rcI (i.2+(AD i.1:Int))]⟩ }
theorem O4:Cq.Ok Tryz.prog 19:=by
 refine fok (X:=⟨tt,[],[],19,[]⟩) mixed AN (CTok.nil _) Tryz.func19 (λ (i:(List (List Dat))×Int)=>[(2,.mk 2 (Nat×Int) (λ x1=>{ tm:=[(0,tX 1),(1,tI x1.2),(5,tI (nI x1.1))],en:=[(1,.mu 3 [.int] (AZ i.2 x1.1 i.1) 0)] }) (λ x1=>x1.1<=i.1.length/\x1.2=i.2+(AD (i.1.take x1.1):Int)) (λ x1=>i.1.length-x1.1) (λ _=>[]))]) ?_
 rintro ⟨l,k⟩ hpre
 have hpre:Dat.has (.sl 3 [.int]) (.sl l)/\0<=k/\k+(AD l:Int)<=4611686018427387904:=hpre
 refine AP (q:=(∃ x1:Nat×Int,(x1.1<=l.length/\x1.2=k+(AD (l.take x1.1):Int))/\((vI k=vI x1.2)/\(vI (0:Int)=vI (nI x1.1))/\(l=(AZ k x1.1 l))))/\∀ x1:Nat×Int,let Z1:=AZ k x1.1 l;(x1.1<=l.length/\x1.2=k+(AD (l.take x1.1):Int))->(ifB ((decide ((nI x1.1)<(nI (Z1.length))))) ((0<=(nI x1.1)/\(nI x1.1)<(Z1.length:Int))/\((x1.1<Z1.length)/\(∀ R1:List (List Dat),R1=Hf Z1 x1.1 0 (Dat.int x1.2)->(∃ y2:Nat×Int,(y2.1<=l.length/\y2.2=k+(AD (l.take y2.1):Int))/\(l.length-y2.1<l.length-x1.1)/\((vI (wR (x1.2+(1:Int)))=vI y2.2)/\(vI (wR ((nI x1.1)+(1:Int)))=vI (nI y2.1))/\(R1=(AZ k y2.1 l))))))) ((vI x1.2=vI (k+(AD l:Int)))/\(Z1=(AY k l))))) (by kernel_rfl) ?_
 conv=>zeta
 delta ifB vI wR nI
 obtain ⟨hh,h0,h1⟩:=hpre
 have hl:=FZ hh
 have hh2:=DR hh
 refine ⟨⟨(0,k),by
  first|exact ⟨Nat.zero_le _,by simp [AD]⟩|exact ⟨by omega,hcx.1⟩,?_⟩,?_⟩
 ·refine ⟨rfl,?_,?_⟩
  ·show Value.int .i64 (0:Int)=Value.int .i64 ((0:Nat):Int)
   first|rfl|exact (B8 _ _).symm
  show l=(AZ k 0 l)
  first|rfl|exact (B8 _ _).symm
 rintro ⟨j,m⟩ hki1
 have hki1:j<=l.length/\m=k+(AD (l.take j):Int):=hki1
 have hml:=Ba k j l
 refine And.symm ⟨λ c6=>?_,λ c6=>?_⟩
 ·try simp only [nrm] at c6
  rw [hml] at c6
  refine ⟨?_,?_⟩
  ·show Value.int .i64 m=Value.int .i64 (k+(AD l:Int))
   first|exact AU (Dp (by omega) hki1.2)|exact Cf hki1.1 (by omega)
  show (AZ k j l)=(AY k l)
  first|exact AU (Dp (by omega) hki1.2)|exact Cf hki1.1 (by omega)
 try simp only [nrm] at c6
 rw [hml] at c6
 have hj:j<l.length:=by omega
 have hrow:=hh2 j hj
 have hcx:=FV hj hki1.2
 have h0m:0<=m:=by have:=JE hki1.2;omega
 have hcb:m+(Af (l.getD j []):Int)<=4611686018427387904:=by omega
 have e:=Id (k:=k) (m:=m) hj
 have hk:=(HY m (l.getD j [])).symm
 have hL:=hml
 refine ao (a:=0<=((j:Nat):Int)/\((j:Nat):Int)<((AZ k j l).length:Int)) (by first|exact ixL hL hj|exact ixI hL hj|rfl|omega) λ o7=>?_
 refine ao (a:=j<(AZ k j l).length) (by first|exact ixL hL hj|exact ixI hL hj|rfl|omega) λ o8=>?_
 intro R1 hR1
 have e:=mk_int hj hrow (c:=0) rfl e hk hR1
 have hk:=Na hrow (c:=0) rfl hk h0m hcb
 have hL:=mkL e
 refine ⟨(j+1,m+(Af (l.getD j []):Int)),by
  exact ⟨hj,hcx.1⟩,by
  exact Mc hj,?_⟩
 refine ⟨?_,?_,?_⟩
 ·show Value.int .i64 (IntKind.i64.wrap (m+(1:Int)))=Value.int .i64 (m+(Af (l.getD j []):Int))
  first|rfl|exact D0 hj hrow (by decide) e hki1.2|exact AU (D2 hrow (by decide) hk)|exact AU (Cu hl hj)
 ·show Value.int .i64 (IntKind.i64.wrap (((j:Nat):Int)+(1:Int)))=Value.int .i64 (((j+1):Nat):Int)
  first|rfl|exact D0 hj hrow (by decide) e hki1.2|exact AU (D2 hrow (by decide) hk)|exact AU (Cu hl hj)
 show R1=(AZ k (j+1) l)
 first|rfl|exact D0 hj hrow (by decide) e hki1.2|exact AU (D2 hrow (by decide) hk)|exact AU (Cu hl hj)
def DW:Con:={ ι:=(List (List Dat))×Int,pre:=λ i=>Dat.has (.sl 39 [.int,.int]) (.sl i.1)/\0<=i.2/\i.2+(AD i.1:Int)<=4611686018427387904,args:=λ i=>[.one (DC.sl 39 [.int,.int] i.1),.one (cI i.2)],mu:=[0],new:=λ i=>[AY i.2 i.1],res:=λ i=>⟨false,[none],[rcI (i.2+(AD i.1:Int))]⟩ }
theorem O5:DW.Ok Tryz.prog 75:=by
 refine fok (X:=⟨tt,[],[],27,[]⟩) mixed AN (CTok.nil _) Tryz.func75 (λ (i:(List (List Dat))×Int)=>[(2,.mk 2 (Nat×Int) (λ x1=>{ tm:=[(0,tX 1),(1,tI x1.2),(5,tI (nI x1.1))],en:=[(1,.mu 39 [.int,.int] (AZ i.2 x1.1 i.1) 0)] }) (λ x1=>x1.1<=i.1.length/\x1.2=i.2+(AD (i.1.take x1.1):Int)) (λ x1=>i.1.length-x1.1) (λ _=>[]))]) ?_
 rintro ⟨l,k⟩ hpre
 have hpre:Dat.has (.sl 39 [.int,.int]) (.sl l)/\0<=k/\k+(AD l:Int)<=4611686018427387904:=hpre
 refine AP (q:=(∃ x1:Nat×Int,(x1.1<=l.length/\x1.2=k+(AD (l.take x1.1):Int))/\((vI k=vI x1.2)/\(vI (0:Int)=vI (nI x1.1))/\(l=(AZ k x1.1 l))))/\∀ x1:Nat×Int,let Z1:=AZ k x1.1 l;(x1.1<=l.length/\x1.2=k+(AD (l.take x1.1):Int))->(ifB ((decide ((nI x1.1)<(nI (Z1.length))))) ((0<=(nI x1.1)/\(nI x1.1)<(Z1.length:Int))/\((x1.1<Z1.length)/\((x1.1<Z1.length)/\(∀ R1:List (List Dat),R1=Hf Z1 x1.1 0 (Dat.int x1.2)->((0<=(nI x1.1)/\(nI x1.1)<(R1.length:Int))/\((x1.1<R1.length)/\((x1.1<R1.length)/\(∀ R2:List (List Dat),R2=Hf R1 x1.1 1 (Dat.int (wR (x1.2+(1:Int))))->(∃ y2:Nat×Int,(y2.1<=l.length/\y2.2=k+(AD (l.take y2.1):Int))/\(l.length-y2.1<l.length-x1.1)/\((vI (wR ((wR (x1.2+(1:Int)))+(1:Int)))=vI y2.2)/\(vI (wR ((nI x1.1)+(1:Int)))=vI (nI y2.1))/\(R2=(AZ k y2.1 l)))))))))))) ((vI x1.2=vI (k+(AD l:Int)))/\(Z1=(AY k l))))) (by kernel_rfl) ?_
 conv=>zeta
 delta ifB vI wR nI
 obtain ⟨hh,h0,h1⟩:=hpre
 have hl:=FZ hh
 have hh2:=DR hh
 refine ⟨⟨(0,k),by
  first|exact ⟨Nat.zero_le _,by simp [AD]⟩|exact ⟨by omega,hcx.1⟩,?_⟩,?_⟩
 ·refine ⟨rfl,?_,?_⟩
  ·show Value.int .i64 (0:Int)=Value.int .i64 ((0:Nat):Int)
   first|rfl|exact (B8 _ _).symm
  show l=(AZ k 0 l)
  first|rfl|exact (B8 _ _).symm
 rintro ⟨j,m⟩ hki1
 have hki1:j<=l.length/\m=k+(AD (l.take j):Int):=hki1
 have hml:=Ba k j l
 refine And.symm ⟨λ c6=>?_,λ c6=>?_⟩
 ·try simp only [nrm] at c6
  rw [hml] at c6
  refine ⟨?_,?_⟩
  ·show Value.int .i64 m=Value.int .i64 (k+(AD l:Int))
   first|exact AU (Dp (by omega) hki1.2)|exact Cf hki1.1 (by omega)
  show (AZ k j l)=(AY k l)
  first|exact AU (Dp (by omega) hki1.2)|exact Cf hki1.1 (by omega)
 try simp only [nrm] at c6
 rw [hml] at c6
 have hj:j<l.length:=by omega
 have hrow:=hh2 j hj
 have hcx:=FV hj hki1.2
 have h0m:0<=m:=by have:=JE hki1.2;omega
 have hcb:m+(Af (l.getD j []):Int)<=4611686018427387904:=by omega
 have e:=Id (k:=k) (m:=m) hj
 have hk:=(HY m (l.getD j [])).symm
 have hL:=hml
 refine ao (a:=0<=((j:Nat):Int)/\((j:Nat):Int)<((AZ k j l).length:Int)) (by first|exact ixL hL hj|exact ixI hL hj|rfl|omega) λ o7=>?_
 refine ao (a:=j<(AZ k j l).length) (by first|exact ixL hL hj|exact ixI hL hj|rfl|omega) λ o8=>?_
 refine ao (a:=j<(AZ k j l).length) (by first|exact ixL hL hj|exact ixI hL hj|rfl|omega) λ o9=>?_
 intro R1 hR1
 have e:=mk_int hj hrow (c:=0) rfl e hk hR1
 have hk:=Na hrow (c:=0) rfl hk h0m hcb
 have hL:=mkL e
 refine ao (a:=0<=((j:Nat):Int)/\((j:Nat):Int)<(R1.length:Int)) (by first|exact ixL hL hj|exact ixI hL hj|rfl|omega) λ o11=>?_
 refine ao (a:=j<R1.length) (by first|exact ixL hL hj|exact ixI hL hj|rfl|omega) λ o12=>?_
 refine ao (a:=j<R1.length) (by first|exact ixL hL hj|exact ixI hL hj|rfl|omega) λ o13=>?_
 intro R2 hR2
 have e:=mk_int hj hrow (c:=1) rfl e hk hR2
 have hk:=Na hrow (c:=1) rfl hk h0m hcb
 have hL:=mkL e
 refine ⟨(j+1,m+(Af (l.getD j []):Int)),by
  exact ⟨hj,hcx.1⟩,by
  exact Mc hj,?_⟩
 refine ⟨?_,?_,?_⟩
 ·show Value.int .i64 (IntKind.i64.wrap ((IntKind.i64.wrap (m+(1:Int)))+(1:Int)))=Value.int .i64 (m+(Af (l.getD j []):Int))
  first|rfl|exact D0 hj hrow (by decide) e hki1.2|exact AU (D2 hrow (by decide) hk)|exact AU (Cu hl hj)
 ·show Value.int .i64 (IntKind.i64.wrap (((j:Nat):Int)+(1:Int)))=Value.int .i64 (((j+1):Nat):Int)
  first|rfl|exact D0 hj hrow (by decide) e hki1.2|exact AU (D2 hrow (by decide) hk)|exact AU (Cu hl hj)
 show R2=(AZ k (j+1) l)
 first|rfl|exact D0 hj hrow (by decide) e hki1.2|exact AU (D2 hrow (by decide) hk)|exact AU (Cu hl hj)
def Dq:Con:={ ι:=(List (List Dat))×Int,pre:=λ i=>Dat.has (.sl 40 [.sl 39 [.int,.int]]) (.sl i.1)/\0<=i.2/\i.2+(AD i.1:Int)<=4611686018427387904,args:=λ i=>[.one (DC.sl 40 [.sl 39 [.int,.int]] i.1),.one (cI i.2)],mu:=[0],new:=λ i=>[AY i.2 i.1],res:=λ i=>⟨false,[none],[rcI (i.2+(AD i.1:Int))]⟩ }
theorem Nc:Dq.Ok Tryz.prog 33:=by
 refine fok (X:=⟨tt,[(75,DW)],[],19,[]⟩) mixed AN (CTok.cons O5 (CTok.nil _)) Tryz.func33 (λ (i:(List (List Dat))×Int)=>[(2,.mk 2 (Nat×Int) (λ x1=>{ tm:=[(0,tX 1),(1,tI x1.2),(5,tI (nI x1.1))],en:=[(1,.mu 40 [.sl 39 [.int,.int]] (AZ i.2 x1.1 i.1) 0)] }) (λ x1=>x1.1<=i.1.length/\x1.2=i.2+(AD (i.1.take x1.1):Int)) (λ x1=>i.1.length-x1.1) (λ _=>[]))]) ?_
 rintro ⟨l,k⟩ hpre
 have hpre:Dat.has (.sl 40 [.sl 39 [.int,.int]]) (.sl l)/\0<=k/\k+(AD l:Int)<=4611686018427387904:=hpre
 refine AP (q:=(∃ x1:Nat×Int,(x1.1<=l.length/\x1.2=k+(AD (l.take x1.1):Int))/\((vI k=vI x1.2)/\(vI (0:Int)=vI (nI x1.1))/\(l=(AZ k x1.1 l))))/\∀ x1:Nat×Int,let Z1:=AZ k x1.1 l;let Z2:=(Z1.getD x1.1 []).getD 0 (.int 0);(x1.1<=l.length/\x1.2=k+(AD (l.take x1.1):Int))->(ifB ((decide ((nI x1.1)<(nI (Z1.length))))) ((0<=(nI x1.1)/\(nI x1.1)<(Z1.length:Int))/\((x1.1<Z1.length)/\(∃ i1:(List (List Dat))×Int,[DA.one (DC.sl 39 [.int,.int] ((Z2).r)),DA.one (cI x1.2)]=DW.args i1/\DW.pre i1/\((x1.1<Z1.length)/\(((Z2).r=Z2.r)/\(∀ R1:List (List Dat),R1=Hf Z1 x1.1 0 (.sl (AY i1.2 i1.1))->(∃ y2:Nat×Int,(y2.1<=l.length/\y2.2=k+(AD (l.take y2.1):Int))/\(l.length-y2.1<l.length-x1.1)/\((vI (i1.2+(AD i1.1:Int))=vI y2.2)/\(vI (wR ((nI x1.1)+(1:Int)))=vI (nI y2.1))/\(R1=(AZ k y2.1 l)))))))))) ((vI x1.2=vI (k+(AD l:Int)))/\(Z1=(AY k l))))) (by kernel_rfl) ?_
 conv=>zeta
 delta ifB vI wR nI
 obtain ⟨hh,h0,h1⟩:=hpre
 have hl:=FZ hh
 have hh2:=DR hh
 refine ⟨⟨(0,k),by
  first|exact ⟨Nat.zero_le _,by simp [AD]⟩|exact ⟨by omega,hcx.1⟩,?_⟩,?_⟩
 ·refine ⟨rfl,?_,?_⟩
  ·show Value.int .i64 (0:Int)=Value.int .i64 ((0:Nat):Int)
   first|rfl|exact (B8 _ _).symm
  show l=(AZ k 0 l)
  first|rfl|exact (B8 _ _).symm
 rintro ⟨j,m⟩ hki1
 have hki1:j<=l.length/\m=k+(AD (l.take j):Int):=hki1
 have hml:=Ba k j l
 refine And.symm ⟨λ c6=>?_,λ c6=>?_⟩
 ·try simp only [nrm] at c6
  rw [hml] at c6
  refine ⟨?_,?_⟩
  ·show Value.int .i64 m=Value.int .i64 (k+(AD l:Int))
   first|exact AU (Dp (by omega) hki1.2)|exact Cf hki1.1 (by omega)
  show (AZ k j l)=(AY k l)
  first|exact AU (Dp (by omega) hki1.2)|exact Cf hki1.1 (by omega)
 try simp only [nrm] at c6
 rw [hml] at c6
 have hj:j<l.length:=by omega
 have hrow:=hh2 j hj
 have hcx:=FV hj hki1.2
 have h0m:0<=m:=by have:=JE hki1.2;omega
 have hcb:m+(Af (l.getD j []):Int)<=4611686018427387904:=by omega
 have e:=Id (k:=k) (m:=m) hj
 have hk:=(HY m (l.getD j [])).symm
 have hL:=hml
 refine ao (a:=0<=((j:Nat):Int)/\((j:Nat):Int)<((AZ k j l).length:Int)) (by first|exact ixL hL hj|exact ixI hL hj|rfl|omega) λ o7=>?_
 refine ao (a:=j<(AZ k j l).length) (by first|exact ixL hL hj|exact ixI hL hj|rfl|omega) λ o8=>?_
 refine ⟨((((l.getD j []).getD 0 (.int 0)).r),(cn m (l.getD j []) 0)),by
  exact WW hj e hk,by
  try dsimp only [DW]
  exact Ub hrow (c:=0) rfl h0m hcb,?_⟩
 refine ao (a:=j<(AZ k j l).length) (by first|exact ixL hL hj|exact ixI hL hj|rfl|omega) λ o12=>?_
 refine ao (a:=((((AZ k j l).getD j []).getD 0 (.int 0))).r=(((AZ k j l).getD j []).getD 0 (.int 0)).r) (by first|exact ixL hL hj|exact ixI hL hj|rfl|omega) λ o13=>?_
 intro R1 hR1
 have e:=Ua hj hrow (c:=0) rfl e hR1
 have hk:=Mb (m:=m) hrow (c:=0) rfl
 have hL:=mkL e
 refine ⟨(j+1,m+(Af (l.getD j []):Int)),by
  exact ⟨hj,hcx.1⟩,by
  exact Mc hj,?_⟩
 refine ⟨?_,?_,?_⟩
 ·show Value.int .i64 ((cn m (l.getD j []) 0)+(AD (((l.getD j []).getD 0 (.int 0)).r):Int))=Value.int .i64 (m+(Af (l.getD j []):Int))
  first|rfl|exact D0 hj hrow (by decide) e hki1.2|exact AU (D2 hrow (by decide) hk)|exact AU (Cu hl hj)
 ·show Value.int .i64 (IntKind.i64.wrap (((j:Nat):Int)+(1:Int)))=Value.int .i64 (((j+1):Nat):Int)
  first|rfl|exact D0 hj hrow (by decide) e hki1.2|exact AU (D2 hrow (by decide) hk)|exact AU (Cu hl hj)
 show R1=(AZ k (j+1) l)
 first|rfl|exact D0 hj hrow (by decide) e hki1.2|exact AU (D2 hrow (by decide) hk)|exact AU (Cu hl hj)
def DX:Con:={ ι:=(List (List Dat))×Int,pre:=λ i=>Dat.has (.sl 90 [.bool,.sl 3 [.int],.sl 3 [.int]]) (.sl i.1)/\0<=i.2/\i.2+(AD i.1:Int)<=4611686018427387904,args:=λ i=>[.one (DC.sl 90 z84 i.1),.one (cI i.2)],mu:=[0],new:=λ i=>[AY i.2 i.1],res:=λ i=>⟨false,[none],[rcI (i.2+(AD i.1:Int))]⟩ }
theorem O6:DX.Ok Tryz.prog 34:=by
 refine fok (X:=⟨tt,[(19,Cq)],[],38,[]⟩) mixed AN (CTok.cons O4 (CTok.nil _)) Tryz.func34 (λ (i:(List (List Dat))×Int)=>[(2,.mk 2 (Nat×Int) (λ x1=>{ tm:=[(0,tX 1),(1,tI x1.2),(5,tI (nI x1.1))],en:=[(1,.mu 90 z84 (AZ i.2 x1.1 i.1) 0)] }) (λ x1=>x1.1<=i.1.length/\x1.2=i.2+(AD (i.1.take x1.1):Int)) (λ x1=>i.1.length-x1.1) (λ _=>[]))]) ?_
 rintro ⟨l,k⟩ hpre
 have hpre:Dat.has (.sl 90 [.bool,.sl 3 [.int],.sl 3 [.int]]) (.sl l)/\0<=k/\k+(AD l:Int)<=4611686018427387904:=hpre
 refine AP (q:=let Z7:=List Dat;(∃ x1:Nat×Int,(x1.1<=l.length/\x1.2=k+(AD (l.take x1.1):Int))/\((vI k=vI x1.2)/\(vI (0:Int)=vI (nI x1.1))/\(l=(AZ k x1.1 l))))/\∀ x1:Nat×Int,let Z1:=AZ k x1.1 l;let Z5:=x1.1<Z1.length;(x1.1<=l.length/\x1.2=k+(AD (l.take x1.1):Int))->(ifB ((decide ((nI x1.1)<(nI (Z1.length))))) (((3:Int)≠0)/\((0<=(nI x1.1)/\(nI x1.1)<(Z1.length:Int))/\(Z5/\(Z5/\(Z5/\(∀ R1:List Z7,let Z4:=x1.1<R1.length;let Z2:=(R1.getD x1.1 []).getD 1 (.int 0);R1=Hf Z1 x1.1 0 (Dat.bool ((Int.tmod x1.2 (3:Int)) == (0:Int)))->((0<=(nI x1.1)/\(nI x1.1)<(R1.length:Int))/\(Z4/\(Z4/\(Z4/\(∃ i2:(List Z7)×Int,[DA.one (cS ((Z2).r)),DA.one (cI (wR (x1.2+(1:Int))))]=Cq.args i2/\Cq.pre i2/\(Z4/\(((Z2).r=Z2.r)/\(∀ R2:List Z7,let Z6:=x1.1<R2.length;let Z3:=(R2.getD x1.1 []).getD 2 (.int 0);R2=Hf R1 x1.1 1 (.sl (AY i2.2 i2.1))->((0<=(nI x1.1)/\(nI x1.1)<(R2.length:Int))/\(Z6/\(Z6/\(∃ i3:(List Z7)×Int,[DA.one (cS ((Z3).r)),DA.one (cI (i2.2+(AD i2.1:Int)))]=Cq.args i3/\Cq.pre i3/\(Z6/\(((Z3).r=Z3.r)/\(∀ R3:List Z7,R3=Hf R2 x1.1 2 (.sl (AY i3.2 i3.1))->(∃ y2:Nat×Int,(y2.1<=l.length/\y2.2=k+(AD (l.take y2.1):Int))/\(l.length-y2.1<l.length-x1.1)/\((vI (i3.2+(AD i3.1:Int))=vI y2.2)/\(vI (wR ((nI x1.1)+(1:Int)))=vI (nI y2.1))/\(R3=(AZ k y2.1 l))))))))))))))))))))))))) ((vI x1.2=vI (k+(AD l:Int)))/\(Z1=(AY k l))))) (by kernel_rfl) ?_
 conv=>zeta
 delta ifB vI wR nI
 obtain ⟨hh,h0,h1⟩:=hpre
 have hl:=FZ hh
 have hh2:=DR hh
 refine ⟨⟨(0,k),by
  first|exact ⟨Nat.zero_le _,by simp [AD]⟩|exact ⟨by omega,hcx.1⟩,?_⟩,?_⟩
 ·refine ⟨rfl,?_,?_⟩
  ·show Value.int .i64 (0:Int)=Value.int .i64 ((0:Nat):Int)
   first|rfl|exact (B8 _ _).symm
  show l=(AZ k 0 l)
  first|rfl|exact (B8 _ _).symm
 rintro ⟨j,m⟩ hki1
 have hki1:j<=l.length/\m=k+(AD (l.take j):Int):=hki1
 have hml:=Ba k j l
 refine And.symm ⟨λ c6=>?_,λ c6=>?_⟩
 ·try simp only [nrm] at c6
  rw [hml] at c6
  refine ⟨?_,?_⟩
  ·show Value.int .i64 m=Value.int .i64 (k+(AD l:Int))
   first|exact AU (Dp (by omega) hki1.2)|exact Cf hki1.1 (by omega)
  show (AZ k j l)=(AY k l)
  first|exact AU (Dp (by omega) hki1.2)|exact Cf hki1.1 (by omega)
 try simp only [nrm] at c6
 rw [hml] at c6
 have hj:j<l.length:=by omega
 have hrow:=hh2 j hj
 have hcx:=FV hj hki1.2
 have h0m:0<=m:=by have:=JE hki1.2;omega
 have hcb:m+(Af (l.getD j []):Int)<=4611686018427387904:=by omega
 have e:=Id (k:=k) (m:=m) hj
 have hk:=(HY m (l.getD j [])).symm
 have hL:=hml
 refine ao (by first|exact ixL hL hj|exact ixI hL hj|rfl|omega) λ o7=>?_
 refine ao (a:=0<=((j:Nat):Int)/\((j:Nat):Int)<((AZ k j l).length:Int)) (by first|exact ixL hL hj|exact ixI hL hj|rfl|omega) λ o8=>?_
 refine ao (a:=j<(AZ k j l).length) (by first|exact ixL hL hj|exact ixI hL hj|rfl|omega) λ o9=>?_
 refine ao (a:=j<(AZ k j l).length) (by first|exact ixL hL hj|exact ixI hL hj|rfl|omega) λ o10=>?_
 refine ao (a:=j<(AZ k j l).length) (by first|exact ixL hL hj|exact ixI hL hj|rfl|omega) λ o11=>?_
 intro R1 hR1
 have e:=mk_bool hj hrow (c:=0) rfl e hk h0m hR1
 have hk:=RB hrow (c:=0) rfl hk h0m hcb
 have hL:=mkL e
 refine ao (a:=0<=((j:Nat):Int)/\((j:Nat):Int)<(R1.length:Int)) (by first|exact ixL hL hj|exact ixI hL hj|rfl|omega) λ o13=>?_
 refine ao (a:=j<R1.length) (by first|exact ixL hL hj|exact ixI hL hj|rfl|omega) λ o14=>?_
 refine ao (a:=j<R1.length) (by first|exact ixL hL hj|exact ixI hL hj|rfl|omega) λ o15=>?_
 refine ao (a:=j<R1.length) (by first|exact ixL hL hj|exact ixI hL hj|rfl|omega) λ o16=>?_
 refine ⟨((((l.getD j []).getD 1 (.int 0)).r),(cn m (l.getD j []) 1)),by
  exact WW hj e hk,by
  show Dat.has (.sl 3 [.int]) (.sl (((l.getD j []).getD 1 (.int 0)).r))/\0<=(cn m (l.getD j []) 1)/\(cn m (l.getD j []) 1)+(AD (((l.getD j []).getD 1 (.int 0)).r):Int)<=4611686018427387904
  exact Ub hrow (c:=1) rfl h0m hcb,?_⟩
 refine ao (a:=j<R1.length) (by first|exact ixL hL hj|exact ixI hL hj|rfl|omega) λ o20=>?_
 refine ao (a:=(((R1.getD j []).getD 1 (.int 0))).r=((R1.getD j []).getD 1 (.int 0)).r) (by first|exact ixL hL hj|exact ixI hL hj|rfl|omega) λ o21=>?_
 intro R2 hR2
 have e:=Ua hj hrow (c:=1) rfl e hR2
 have hk:=Mb (m:=m) hrow (c:=1) rfl
 have hL:=mkL e
 refine ao (a:=0<=((j:Nat):Int)/\((j:Nat):Int)<(R2.length:Int)) (by first|exact ixL hL hj|exact ixI hL hj|rfl|omega) λ o23=>?_
 refine ao (a:=j<R2.length) (by first|exact ixL hL hj|exact ixI hL hj|rfl|omega) λ o24=>?_
 refine ao (a:=j<R2.length) (by first|exact ixL hL hj|exact ixI hL hj|rfl|omega) λ o25=>?_
 refine ⟨((((l.getD j []).getD 2 (.int 0)).r),(cn m (l.getD j []) 2)),by
  exact WW hj e hk,by
  show Dat.has (.sl 3 [.int]) (.sl (((l.getD j []).getD 2 (.int 0)).r))/\0<=(cn m (l.getD j []) 2)/\(cn m (l.getD j []) 2)+(AD (((l.getD j []).getD 2 (.int 0)).r):Int)<=4611686018427387904
  exact Ub hrow (c:=2) rfl h0m hcb,?_⟩
 refine ao (a:=j<R2.length) (by first|exact ixL hL hj|exact ixI hL hj|rfl|omega) λ o29=>?_
 refine ao (a:=(((R2.getD j []).getD 2 (.int 0))).r=((R2.getD j []).getD 2 (.int 0)).r) (by first|exact ixL hL hj|exact ixI hL hj|rfl|omega) λ o30=>?_
 intro R3 hR3
 have e:=Ua hj hrow (c:=2) rfl e hR3
 have hk:=Mb (m:=m) hrow (c:=2) rfl
 have hL:=mkL e
 refine ⟨(j+1,m+(Af (l.getD j []):Int)),by
  exact ⟨hj,hcx.1⟩,by
  exact Mc hj,?_⟩
 refine ⟨?_,?_,?_⟩
 ·show Value.int .i64 ((cn m (l.getD j []) 2)+(AD (((l.getD j []).getD 2 (.int 0)).r):Int))=Value.int .i64 (m+(Af (l.getD j []):Int))
  first|rfl|exact D0 hj hrow (by decide) e hki1.2|exact AU (D2 hrow (by decide) hk)|exact AU (Cu hl hj)
 ·show Value.int .i64 (IntKind.i64.wrap (((j:Nat):Int)+(1:Int)))=Value.int .i64 (((j+1):Nat):Int)
  first|rfl|exact D0 hj hrow (by decide) e hki1.2|exact AU (D2 hrow (by decide) hk)|exact AU (Cu hl hj)
 show R3=(AZ k (j+1) l)
 first|rfl|exact D0 hj hrow (by decide) e hki1.2|exact AU (D2 hrow (by decide) hk)|exact AU (Cu hl hj)
def Cr:Con:={ ι:=(List (List Dat))×Int,pre:=λ i=>Dat.has (.sl 3 [.int]) (.sl i.1)/\0<=i.2/\i.2+(AD i.1:Int)<=4611686018427387904,args:=λ i=>[.one (cS (AY i.2 i.1)),.one (cI i.2)],res:=λ i=>⟨false,[none],[rcI (i.2+(AD i.1:Int))]⟩ }
theorem O7:Cr.Ok Tryz.prog 20:=by
 refine fok (X:=⟨tt,[],[],21,[]⟩) mixed AN (CTok.nil _) Tryz.func20 (λ (i:(List (List Dat))×Int)=>[(2,.mk 2 (Nat×Int) (λ x1=>{ tm:=[(0,tX 1),(1,tI x1.2),(5,tI (nI x1.1))],en:=[(1,eV (AY i.2 i.1))] }) (λ x1=>x1.1<=i.1.length/\x1.2=i.2+(AD (i.1.take x1.1):Int)) (λ x1=>i.1.length-x1.1) (λ _=>[]))]) ?_
 rintro ⟨l,k⟩ hpre
 have hpre:Dat.has (.sl 3 [.int]) (.sl l)/\0<=k/\k+(AD l:Int)<=4611686018427387904:=hpre
 refine AP (q:=let Z1:=AY k l;(∃ x1:Nat×Int,(x1.1<=l.length/\x1.2=k+(AD (l.take x1.1):Int))/\((vI k=vI x1.2)/\(vI (0:Int)=vI (nI x1.1))/\(rf Z1)))/\∀ x1:Nat×Int,(x1.1<=l.length/\x1.2=k+(AD (l.take x1.1):Int))->(ifB ((decide ((nI x1.1)<(nI (Z1.length))))) ((0<=(nI x1.1)/\(nI x1.1)<(Z1.length:Int))/\((x1.1<Z1.length)/\(ifB (((((Z1.getD x1.1 []).getD 0 (.int 0))).n != x1.2)) ((vI (-1:Int)=vI (k+(AD l:Int)))) (∃ y2:Nat×Int,(y2.1<=l.length/\y2.2=k+(AD (l.take y2.1):Int))/\(l.length-y2.1<l.length-x1.1)/\((vI (wR (x1.2+(1:Int)))=vI y2.2)/\(vI (wR ((nI x1.1)+(1:Int)))=vI (nI y2.1))/\(rf Z1)))))) ((vI x1.2=vI (k+(AD l:Int)))))) (by kernel_rfl) ?_
 conv=>zeta
 delta ifB vI wR nI
 obtain ⟨hh,h0,h1⟩:=hpre
 have hl:=FZ hh
 have hh2:=DR hh
 have hml:=CN k l
 refine ⟨⟨(0,k),by
  first|exact ⟨Nat.zero_le _,by simp [AD]⟩|exact ⟨by omega,hcx.1⟩,?_⟩,?_⟩
 ·refine ⟨rfl,?_,rfl⟩
  show Value.int .i64 (0:Int)=Value.int .i64 ((0:Nat):Int)
  rfl
 rintro ⟨j,m⟩ hki1
 have hki1:j<=l.length/\m=k+(AD (l.take j):Int):=hki1
 refine And.symm ⟨λ c6=>?_,λ c6=>?_⟩
 ·try simp only [nrm] at c6
  rw [hml] at c6
  show Value.int .i64 m=Value.int .i64 (k+(AD l:Int))
  exact AU (Dp (by omega) hki1.2)
 try simp only [nrm] at c6
 rw [hml] at c6
 have hj:j<l.length:=by omega
 have hrow:=hh2 j hj
 have hcx:=FV hj hki1.2
 have h0m:0<=m:=by have:=JE hki1.2;omega
 have hcb:m+(Af (l.getD j []):Int)<=4611686018427387904:=by omega
 have hk:=(HY m (l.getD j [])).symm
 refine ao (a:=0<=((j:Nat):Int)/\((j:Nat):Int)<((AY k l).length:Int)) (by first|exact ixL hml hj|exact ixI hml hj|rfl|omega) λ o7=>?_
 refine ao (a:=j<(AY k l).length) (by first|exact ixL hml hj|exact ixI hml hj|rfl|omega) λ o8=>?_
 refine ⟨λ c9=>?_,λ c9=>?_⟩
 ·try simp only [nrm] at c9
  exact absurd (WX hj hki1.2 hrow (c:=0) rfl hk) c9 -- done
 try simp only [nrm] at c9
 have hk:=Na hrow (c:=0) rfl hk h0m hcb
 refine ⟨(j+1,m+(Af (l.getD j []):Int)),by
  exact ⟨hj,hcx.1⟩,by
  exact Mc hj,?_⟩
 refine ⟨?_,?_,rfl⟩
 ·show Value.int .i64 (IntKind.i64.wrap (m+(1:Int)))=Value.int .i64 (m+(Af (l.getD j []):Int))
  first|rfl|exact AU (D2 hrow (by decide) hk)|exact AU (Cu hl hj)
 show Value.int .i64 (IntKind.i64.wrap (((j:Nat):Int)+(1:Int)))=Value.int .i64 (((j+1):Nat):Int)
 first|rfl|exact AU (D2 hrow (by decide) hk)|exact AU (Cu hl hj)
def Bv:Con:={ ι:=(List (List Dat))×Int,pre:=λ i=>Dat.has (.sl 90 [.bool,.sl 3 [.int],.sl 3 [.int]]) (.sl i.1)/\0<=i.2/\i.2+(AD i.1:Int)<=4611686018427387904,args:=λ i=>[.one (DC.sl 90 z84 (AY i.2 i.1)),.one (cI i.2)],res:=λ i=>⟨false,[none],[rcI (i.2+(AD i.1:Int))]⟩ }
theorem O8:Bv.Ok Tryz.prog 35:=by
 refine fok (X:=⟨tt,[(20,Cr)],[],44,[]⟩) mixed AN (CTok.cons O7 (CTok.nil _)) Tryz.func35 (λ (i:(List (List Dat))×Int)=>[(2,.mk 2 (Nat×Int) (λ x1=>{ tm:=[(0,tX 1),(1,tI x1.2),(5,tI (nI x1.1))],en:=[(1,.view 90 z84 (AY i.2 i.1) [])] }) (λ x1=>x1.1<=i.1.length/\x1.2=i.2+(AD (i.1.take x1.1):Int)) (λ x1=>i.1.length-x1.1) (λ _=>[]))]) ?_
 rintro ⟨l,k⟩ hpre
 have hpre:Dat.has (.sl 90 [.bool,.sl 3 [.int],.sl 3 [.int]]) (.sl l)/\0<=k/\k+(AD l:Int)<=4611686018427387904:=hpre
 refine AP (q:=let Z3:=AY k l;let Z4:=(Z3.length:Int);let Z2:=(vI (-1:Int)=vI (k+(AD l:Int)));(∃ x1:Nat×Int,(x1.1<=l.length/\x1.2=k+(AD (l.take x1.1):Int))/\((vI k=vI x1.2)/\(vI (0:Int)=vI (nI x1.1))/\(rf Z3)))/\∀ x1:Nat×Int,let Z5:=Z3.getD x1.1 [];let Z1:=x1.1<Z3.length;(x1.1<=l.length/\x1.2=k+(AD (l.take x1.1):Int))->(ifB ((decide ((nI x1.1)<(nI (Z3.length))))) ((0<=(nI x1.1)/\(nI x1.1)<Z4)/\(Z1/\(Z1/\(Z1/\(((3:Int)≠0)/\(ifB (((((Z5.getD 0 (.int 0))).b) != ((Int.tmod x1.2 (3:Int)) == (0:Int)))) Z2 ((0<=(nI x1.1)/\(nI x1.1)<Z4)/\(Z1/\(Z1/\(Z1/\(∃ i1:(List (List Dat))×Int,let Z6:=i1.2+(AD i1.1:Int);[DA.one (cS (((Z5.getD 1 (.int 0))).r)),DA.one (cI (wR (x1.2+(1:Int))))]=Cr.args i1/\Cr.pre i1/\(ifB ((decide (Z6<(0:Int)))) Z2 ((0<=(nI x1.1)/\(nI x1.1)<Z4)/\(Z1/\(Z1/\(∃ i2:(List (List Dat))×Int,let Z7:=i2.2+(AD i2.1:Int);[DA.one (cS (((Z5.getD 2 (.int 0))).r)),DA.one (cI Z6)]=Cr.args i2/\Cr.pre i2/\(ifB ((decide (Z7<(0:Int)))) Z2 (∃ y2:Nat×Int,(y2.1<=l.length/\y2.2=k+(AD (l.take y2.1):Int))/\(l.length-y2.1<l.length-x1.1)/\((vI Z7=vI y2.2)/\(vI (wR ((nI x1.1)+(1:Int)))=vI (nI y2.1))/\(rf Z3)))))))))))))))))))) ((vI x1.2=vI (k+(AD l:Int)))))) (by kernel_rfl) ?_
 conv=>zeta
 delta ifB vI wR nI
 obtain ⟨hh,h0,h1⟩:=hpre
 have hl:=FZ hh
 have hh2:=DR hh
 have hml:=CN k l
 refine ⟨⟨(0,k),by
  first|exact ⟨Nat.zero_le _,by simp [AD]⟩|exact ⟨by omega,hcx.1⟩,?_⟩,?_⟩
 ·refine ⟨rfl,?_,rfl⟩
  show Value.int .i64 (0:Int)=Value.int .i64 ((0:Nat):Int)
  rfl
 rintro ⟨j,m⟩ hki1
 have hki1:j<=l.length/\m=k+(AD (l.take j):Int):=hki1
 refine And.symm ⟨λ c6=>?_,λ c6=>?_⟩
 ·try simp only [nrm] at c6
  rw [hml] at c6
  show Value.int .i64 m=Value.int .i64 (k+(AD l:Int))
  exact AU (Dp (by omega) hki1.2)
 try simp only [nrm] at c6
 rw [hml] at c6
 have hj:j<l.length:=by omega
 have hrow:=hh2 j hj
 have hcx:=FV hj hki1.2
 have h0m:0<=m:=by have:=JE hki1.2;omega
 have hcb:m+(Af (l.getD j []):Int)<=4611686018427387904:=by omega
 have hk:=(HY m (l.getD j [])).symm
 refine ao (a:=0<=((j:Nat):Int)/\((j:Nat):Int)<((AY k l).length:Int)) (by first|exact ixL hml hj|exact ixI hml hj|rfl|omega) λ o7=>?_
 refine ao (a:=j<(AY k l).length) (by first|exact ixL hml hj|exact ixI hml hj|rfl|omega) λ o8=>?_
 refine ao (a:=j<(AY k l).length) (by first|exact ixL hml hj|exact ixI hml hj|rfl|omega) λ o9=>?_
 refine ao (a:=j<(AY k l).length) (by first|exact ixL hml hj|exact ixI hml hj|rfl|omega) λ o10=>?_
 refine ao (by first|exact ixL hml hj|exact ixI hml hj|rfl|omega) λ o11=>?_
 refine ⟨λ c12=>?_,λ c12=>?_⟩
 ·try simp only [nrm] at c12
  exact absurd (VU hj hki1.2 hrow (c:=0) rfl hk h0m) c12 -- done
 try simp only [nrm] at c12
 have hk:=RB hrow (c:=0) rfl hk h0m hcb
 refine ao (a:=0<=((j:Nat):Int)/\((j:Nat):Int)<((AY k l).length:Int)) (by first|exact ixL hml hj|exact ixI hml hj|rfl|omega) λ o14=>?_
 refine ao (a:=j<(AY k l).length) (by first|exact ixL hml hj|exact ixI hml hj|rfl|omega) λ o15=>?_
 refine ao (a:=j<(AY k l).length) (by first|exact ixL hml hj|exact ixI hml hj|rfl|omega) λ o16=>?_
 refine ao (a:=j<(AY k l).length) (by first|exact ixL hml hj|exact ixI hml hj|rfl|omega) λ o17=>?_
 refine ⟨((((l.getD j []).getD 1 (.int 0)).r),(cn m (l.getD j []) 1)),by
  exact Vm hj hki1.2 hrow (c:=1) rfl hk,by
  show Dat.has (.sl 3 [.int]) (.sl (((l.getD j []).getD 1 (.int 0)).r))/\0<=(cn m (l.getD j []) 1)/\(cn m (l.getD j []) 1)+(AD (((l.getD j []).getD 1 (.int 0)).r):Int)<=4611686018427387904
  exact Ub hrow (c:=1) rfl h0m hcb,?_⟩
 refine ⟨λ c21=>?_,λ c21=>?_⟩
 ·try simp only [nrm] at c21
  exfalso
  have:=Jl m (l.getD j []) 1
  omega -- done
 try simp only [nrm] at c21
 have hk:=Mb (m:=m) hrow (c:=1) rfl
 refine ao (a:=0<=((j:Nat):Int)/\((j:Nat):Int)<((AY k l).length:Int)) (by first|exact ixL hml hj|exact ixI hml hj|rfl|omega) λ o23=>?_
 refine ao (a:=j<(AY k l).length) (by first|exact ixL hml hj|exact ixI hml hj|rfl|omega) λ o24=>?_
 refine ao (a:=j<(AY k l).length) (by first|exact ixL hml hj|exact ixI hml hj|rfl|omega) λ o25=>?_
 refine ⟨((((l.getD j []).getD 2 (.int 0)).r),(cn m (l.getD j []) 2)),by
  exact Vm hj hki1.2 hrow (c:=2) rfl hk,by
  show Dat.has (.sl 3 [.int]) (.sl (((l.getD j []).getD 2 (.int 0)).r))/\0<=(cn m (l.getD j []) 2)/\(cn m (l.getD j []) 2)+(AD (((l.getD j []).getD 2 (.int 0)).r):Int)<=4611686018427387904
  exact Ub hrow (c:=2) rfl h0m hcb,?_⟩
 refine ⟨λ c29=>?_,λ c29=>?_⟩
 ·try simp only [nrm] at c29
  exfalso
  have:=Jl m (l.getD j []) 2
  omega -- done
 try simp only [nrm] at c29
 have hk:=Mb (m:=m) hrow (c:=2) rfl
 refine ⟨(j+1,m+(Af (l.getD j []):Int)),by
  exact ⟨hj,hcx.1⟩,by
  exact Mc hj,?_⟩
 refine ⟨?_,?_,rfl⟩
 ·show Value.int .i64 ((cn m (l.getD j []) 2)+(AD (((l.getD j []).getD 2 (.int 0)).r):Int))=Value.int .i64 (m+(Af (l.getD j []):Int))
  first|rfl|exact AU (D2 hrow (by decide) hk)|exact AU (Cu hl hj)
 show Value.int .i64 (IntKind.i64.wrap (((j:Nat):Int)+(1:Int)))=Value.int .i64 (((j+1):Nat):Int)
 first|rfl|exact AU (D2 hrow (by decide) hk)|exact AU (Cu hl hj)
end Go.Proofs.YtmedodfenejimaaGreat
