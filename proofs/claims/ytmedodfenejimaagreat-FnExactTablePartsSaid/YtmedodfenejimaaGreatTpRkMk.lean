import Derived.Test.YtmedodfenejimaaGreatTpRkT
import Derived.Test.YtmedodfenejimaaGreatTpMrk
namespace Go.Proofs.YtmedodfenejimaaGreat
set_option maxRecDepth 100000
set_option linter.unusedVariables false
set_option linter.unusedSimpArgs false
open Go.RowKit
def AM:Con:={ ι:=(List (List Dat))×Int,pre:=λ i=>Dat.has (.sl 3 [.int]) (.sl i.1)/\0<=i.2/\i.2+(AA i.1:Int)<=4611686018427387904,args:=λ i=>[.one (cS i.1),.one (cI i.2)],mu:=[0],new:=λ i=>[AP i.2 i.1],res:=λ i=>⟨false,[none],[rcI (i.2+(AA i.1:Int))]⟩ }
theorem GY:AM.Ok Tryz.prog 19:=by
 refine fok (X:=⟨tt,[],[],19,[]⟩) AI AF (CTok.nil _) Tryz.func19 (λ (i:(List (List Dat))×Int)=>[(2,.mk 2 (Nat×Int) (λ x1=>{ tm:=[(0,tX 1),(1,tI x1.2),(5,tI (nI x1.1))],en:=[(1,.mu 3 [.int] (AR i.2 x1.1 i.1) 0)] }) (λ x1=>x1.1<=i.1.length/\x1.2=i.2+(AA (i.1.take x1.1):Int)) (λ x1=>i.1.length-x1.1) (λ _=>[]))]) ?_
 rintro ⟨l,k⟩ hpre
 have hpre:Dat.has (.sl 3 [.int]) (.sl l)/\0<=k/\k+(AA l:Int)<=4611686018427387904:=hpre
 refine AH (q:=(∃ x1:Nat×Int,(x1.1<=l.length/\x1.2=k+(AA (l.take x1.1):Int))/\((vI k=vI x1.2)/\(vI (0:Int)=vI (nI x1.1))/\(l=(AR k x1.1 l))))/\∀ x1:Nat×Int,let Z1:=AR k x1.1 l;(x1.1<=l.length/\x1.2=k+(AA (l.take x1.1):Int))->(ifB ((decide ((nI x1.1)<(nI (Z1.length))))) ((0<=(nI x1.1)/\(nI x1.1)<(Z1.length:Int))/\((x1.1<Z1.length)/\(∀ R1:List (List Dat),R1=CT Z1 x1.1 0 (Dat.int x1.2)->(∃ y2:Nat×Int,(y2.1<=l.length/\y2.2=k+(AA (l.take y2.1):Int))/\(l.length-y2.1<l.length-x1.1)/\((vI (wR (x1.2+(1:Int)))=vI y2.2)/\(vI (wR ((nI x1.1)+(1:Int)))=vI (nI y2.1))/\(R1=(AR k y2.1 l))))))) ((vI x1.2=vI (k+(AA l:Int)))/\(Z1=(AP k l))))) (by kernel_rfl) ?_
 conv=>zeta
 delta ifB vI wR nI
 obtain ⟨hh,h0,h1⟩:=hpre
 have hl:=Cr hh
 have hh2:=Bh hh
 refine ⟨⟨(0,k),by
  first|exact ⟨Nat.zero_le _,by simp [AA]⟩|exact ⟨by omega,hcx.1⟩,?_⟩,?_⟩
 ·refine ⟨rfl,?_,?_⟩
  ·show Value.int .i64 (0:Int)=Value.int .i64 ((0:Nat):Int)
   first|rfl|exact (Ba _ _).symm
  show l=(AR k 0 l)
  first|rfl|exact (Ba _ _).symm
 rintro ⟨j,m⟩ hki1
 have hki1:j<=l.length/\m=k+(AA (l.take j):Int):=hki1
 have hml:=BU k j l
 refine And.symm ⟨λ c6=>?_,λ c6=>?_⟩
 ·try simp only [nrm] at c6
  rw [hml] at c6
  refine ⟨?_,?_⟩
  ·show Value.int .i64 m=Value.int .i64 (k+(AA l:Int))
   first|exact AK (DJ (by omega) hki1.2)|exact Bn hki1.1 (by omega)
  show (AR k j l)=(AP k l)
  first|exact AK (DJ (by omega) hki1.2)|exact Bn hki1.1 (by omega)
 try simp only [nrm] at c6
 rw [hml] at c6
 have hj:j<l.length:=by omega
 have hrow:=hh2 j hj
 have hcx:=Fm hj hki1.2
 have h0m:0<=m:=by have:=J4 hki1.2;omega
 have hcb:m+(Ah (l.getD j []):Int)<=4611686018427387904:=by omega
 have e:=G8 (k:=k) (m:=m) hj
 have hk:=(IL m (l.getD j [])).symm
 have hL:=hml
 refine ao (a:=0<=((j:Nat):Int)/\((j:Nat):Int)<((AR k j l).length:Int)) (by first|exact ixL hL hj|exact ixI hL hj|rfl|omega) λ o7=>?_
 refine ao (a:=j<(AR k j l).length) (by first|exact ixL hL hj|exact ixI hL hj|rfl|omega) λ o8=>?_
 intro R1 hR1
 have e:=mk_int hj hrow (c:=0) rfl e hk hR1
 have hk:=LM hrow (c:=0) rfl hk h0m hcb
 have hL:=mkL e
 refine ⟨(j+1,m+(Ah (l.getD j []):Int)),by
  exact ⟨hj,hcx.1⟩,by
  exact Ny hj,?_⟩
 refine ⟨?_,?_,?_⟩
 ·show Value.int .i64 (IntKind.i64.wrap (m+(1:Int)))=Value.int .i64 (m+(Ah (l.getD j []):Int))
  first|rfl|exact Co hj hrow (by decide) e hki1.2|exact AK (Dz hrow (by decide) hk)|exact AK (CX hl hj)
 ·show Value.int .i64 (IntKind.i64.wrap (((j:Nat):Int)+(1:Int)))=Value.int .i64 (((j+1):Nat):Int)
  first|rfl|exact Co hj hrow (by decide) e hki1.2|exact AK (Dz hrow (by decide) hk)|exact AK (CX hl hj)
 show R1=(AR k (j+1) l)
 first|rfl|exact Co hj hrow (by decide) e hki1.2|exact AK (Dz hrow (by decide) hk)|exact AK (CX hl hj)
def BZ:Con:={ ι:=(List (List Dat))×Int,pre:=λ i=>Dat.has (.sl 39 [.int,.int]) (.sl i.1)/\0<=i.2/\i.2+(AA i.1:Int)<=4611686018427387904,args:=λ i=>[.one (DC.sl 39 [.int,.int] i.1),.one (cI i.2)],mu:=[0],new:=λ i=>[AP i.2 i.1],res:=λ i=>⟨false,[none],[rcI (i.2+(AA i.1:Int))]⟩ }
theorem Ly:BZ.Ok Tryz.prog 75:=by
 refine fok (X:=⟨tt,[],[],27,[]⟩) AI AF (CTok.nil _) Tryz.func75 (λ (i:(List (List Dat))×Int)=>[(2,.mk 2 (Nat×Int) (λ x1=>{ tm:=[(0,tX 1),(1,tI x1.2),(5,tI (nI x1.1))],en:=[(1,.mu 39 [.int,.int] (AR i.2 x1.1 i.1) 0)] }) (λ x1=>x1.1<=i.1.length/\x1.2=i.2+(AA (i.1.take x1.1):Int)) (λ x1=>i.1.length-x1.1) (λ _=>[]))]) ?_
 rintro ⟨l,k⟩ hpre
 have hpre:Dat.has (.sl 39 [.int,.int]) (.sl l)/\0<=k/\k+(AA l:Int)<=4611686018427387904:=hpre
 refine AH (q:=(∃ x1:Nat×Int,(x1.1<=l.length/\x1.2=k+(AA (l.take x1.1):Int))/\((vI k=vI x1.2)/\(vI (0:Int)=vI (nI x1.1))/\(l=(AR k x1.1 l))))/\∀ x1:Nat×Int,let Z1:=AR k x1.1 l;(x1.1<=l.length/\x1.2=k+(AA (l.take x1.1):Int))->(ifB ((decide ((nI x1.1)<(nI (Z1.length))))) ((0<=(nI x1.1)/\(nI x1.1)<(Z1.length:Int))/\((x1.1<Z1.length)/\((x1.1<Z1.length)/\(∀ R1:List (List Dat),R1=CT Z1 x1.1 0 (Dat.int x1.2)->((0<=(nI x1.1)/\(nI x1.1)<(R1.length:Int))/\((x1.1<R1.length)/\((x1.1<R1.length)/\(∀ R2:List (List Dat),R2=CT R1 x1.1 1 (Dat.int (wR (x1.2+(1:Int))))->(∃ y2:Nat×Int,(y2.1<=l.length/\y2.2=k+(AA (l.take y2.1):Int))/\(l.length-y2.1<l.length-x1.1)/\((vI (wR ((wR (x1.2+(1:Int)))+(1:Int)))=vI y2.2)/\(vI (wR ((nI x1.1)+(1:Int)))=vI (nI y2.1))/\(R2=(AR k y2.1 l)))))))))))) ((vI x1.2=vI (k+(AA l:Int)))/\(Z1=(AP k l))))) (by kernel_rfl) ?_
 conv=>zeta
 delta ifB vI wR nI
 obtain ⟨hh,h0,h1⟩:=hpre
 have hl:=Cr hh
 have hh2:=Bh hh
 refine ⟨⟨(0,k),by
  first|exact ⟨Nat.zero_le _,by simp [AA]⟩|exact ⟨by omega,hcx.1⟩,?_⟩,?_⟩
 ·refine ⟨rfl,?_,?_⟩
  ·show Value.int .i64 (0:Int)=Value.int .i64 ((0:Nat):Int)
   first|rfl|exact (Ba _ _).symm
  show l=(AR k 0 l)
  first|rfl|exact (Ba _ _).symm
 rintro ⟨j,m⟩ hki1
 have hki1:j<=l.length/\m=k+(AA (l.take j):Int):=hki1
 have hml:=BU k j l
 refine And.symm ⟨λ c6=>?_,λ c6=>?_⟩
 ·try simp only [nrm] at c6
  rw [hml] at c6
  refine ⟨?_,?_⟩
  ·show Value.int .i64 m=Value.int .i64 (k+(AA l:Int))
   first|exact AK (DJ (by omega) hki1.2)|exact Bn hki1.1 (by omega)
  show (AR k j l)=(AP k l)
  first|exact AK (DJ (by omega) hki1.2)|exact Bn hki1.1 (by omega)
 try simp only [nrm] at c6
 rw [hml] at c6
 have hj:j<l.length:=by omega
 have hrow:=hh2 j hj
 have hcx:=Fm hj hki1.2
 have h0m:0<=m:=by have:=J4 hki1.2;omega
 have hcb:m+(Ah (l.getD j []):Int)<=4611686018427387904:=by omega
 have e:=G8 (k:=k) (m:=m) hj
 have hk:=(IL m (l.getD j [])).symm
 have hL:=hml
 refine ao (a:=0<=((j:Nat):Int)/\((j:Nat):Int)<((AR k j l).length:Int)) (by first|exact ixL hL hj|exact ixI hL hj|rfl|omega) λ o7=>?_
 refine ao (a:=j<(AR k j l).length) (by first|exact ixL hL hj|exact ixI hL hj|rfl|omega) λ o8=>?_
 refine ao (a:=j<(AR k j l).length) (by first|exact ixL hL hj|exact ixI hL hj|rfl|omega) λ o9=>?_
 intro R1 hR1
 have e:=mk_int hj hrow (c:=0) rfl e hk hR1
 have hk:=LM hrow (c:=0) rfl hk h0m hcb
 have hL:=mkL e
 refine ao (a:=0<=((j:Nat):Int)/\((j:Nat):Int)<(R1.length:Int)) (by first|exact ixL hL hj|exact ixI hL hj|rfl|omega) λ o11=>?_
 refine ao (a:=j<R1.length) (by first|exact ixL hL hj|exact ixI hL hj|rfl|omega) λ o12=>?_
 refine ao (a:=j<R1.length) (by first|exact ixL hL hj|exact ixI hL hj|rfl|omega) λ o13=>?_
 intro R2 hR2
 have e:=mk_int hj hrow (c:=1) rfl e hk hR2
 have hk:=LM hrow (c:=1) rfl hk h0m hcb
 have hL:=mkL e
 refine ⟨(j+1,m+(Ah (l.getD j []):Int)),by
  exact ⟨hj,hcx.1⟩,by
  exact Ny hj,?_⟩
 refine ⟨?_,?_,?_⟩
 ·show Value.int .i64 (IntKind.i64.wrap ((IntKind.i64.wrap (m+(1:Int)))+(1:Int)))=Value.int .i64 (m+(Ah (l.getD j []):Int))
  first|rfl|exact Co hj hrow (by decide) e hki1.2|exact AK (Dz hrow (by decide) hk)|exact AK (CX hl hj)
 ·show Value.int .i64 (IntKind.i64.wrap (((j:Nat):Int)+(1:Int)))=Value.int .i64 (((j+1):Nat):Int)
  first|rfl|exact Co hj hrow (by decide) e hki1.2|exact AK (Dz hrow (by decide) hk)|exact AK (CX hl hj)
 show R2=(AR k (j+1) l)
 first|rfl|exact Co hj hrow (by decide) e hki1.2|exact AK (Dz hrow (by decide) hk)|exact AK (CX hl hj)
def Bv:Con:={ ι:=(List (List Dat))×Int,pre:=λ i=>Dat.has (.sl 40 [.sl 39 [.int,.int]]) (.sl i.1)/\0<=i.2/\i.2+(AA i.1:Int)<=4611686018427387904,args:=λ i=>[.one (DC.sl 40 [.sl 39 [.int,.int]] i.1),.one (cI i.2)],mu:=[0],new:=λ i=>[AP i.2 i.1],res:=λ i=>⟨false,[none],[rcI (i.2+(AA i.1:Int))]⟩ }
theorem Kg:Bv.Ok Tryz.prog 33:=by
 refine fok (X:=⟨tt,[(75,BZ)],[],19,[]⟩) AI AF (CTok.cons Ly (CTok.nil _)) Tryz.func33 (λ (i:(List (List Dat))×Int)=>[(2,.mk 2 (Nat×Int) (λ x1=>{ tm:=[(0,tX 1),(1,tI x1.2),(5,tI (nI x1.1))],en:=[(1,.mu 40 [.sl 39 [.int,.int]] (AR i.2 x1.1 i.1) 0)] }) (λ x1=>x1.1<=i.1.length/\x1.2=i.2+(AA (i.1.take x1.1):Int)) (λ x1=>i.1.length-x1.1) (λ _=>[]))]) ?_
 rintro ⟨l,k⟩ hpre
 have hpre:Dat.has (.sl 40 [.sl 39 [.int,.int]]) (.sl l)/\0<=k/\k+(AA l:Int)<=4611686018427387904:=hpre
 refine AH (q:=(∃ x1:Nat×Int,(x1.1<=l.length/\x1.2=k+(AA (l.take x1.1):Int))/\((vI k=vI x1.2)/\(vI (0:Int)=vI (nI x1.1))/\(l=(AR k x1.1 l))))/\∀ x1:Nat×Int,let Z1:=AR k x1.1 l;let Z2:=(Z1.getD x1.1 []).getD 0 (.int 0);(x1.1<=l.length/\x1.2=k+(AA (l.take x1.1):Int))->(ifB ((decide ((nI x1.1)<(nI (Z1.length))))) ((0<=(nI x1.1)/\(nI x1.1)<(Z1.length:Int))/\((x1.1<Z1.length)/\(∃ i1:(List (List Dat))×Int,[DA.one (DC.sl 39 [.int,.int] ((Z2).r)),DA.one (cI x1.2)]=BZ.args i1/\BZ.pre i1/\((x1.1<Z1.length)/\(((Z2).r=Z2.r)/\(∀ R1:List (List Dat),R1=CT Z1 x1.1 0 (.sl (AP i1.2 i1.1))->(∃ y2:Nat×Int,(y2.1<=l.length/\y2.2=k+(AA (l.take y2.1):Int))/\(l.length-y2.1<l.length-x1.1)/\((vI (i1.2+(AA i1.1:Int))=vI y2.2)/\(vI (wR ((nI x1.1)+(1:Int)))=vI (nI y2.1))/\(R1=(AR k y2.1 l)))))))))) ((vI x1.2=vI (k+(AA l:Int)))/\(Z1=(AP k l))))) (by kernel_rfl) ?_
 conv=>zeta
 delta ifB vI wR nI
 obtain ⟨hh,h0,h1⟩:=hpre
 have hl:=Cr hh
 have hh2:=Bh hh
 refine ⟨⟨(0,k),by
  first|exact ⟨Nat.zero_le _,by simp [AA]⟩|exact ⟨by omega,hcx.1⟩,?_⟩,?_⟩
 ·refine ⟨rfl,?_,?_⟩
  ·show Value.int .i64 (0:Int)=Value.int .i64 ((0:Nat):Int)
   first|rfl|exact (Ba _ _).symm
  show l=(AR k 0 l)
  first|rfl|exact (Ba _ _).symm
 rintro ⟨j,m⟩ hki1
 have hki1:j<=l.length/\m=k+(AA (l.take j):Int):=hki1
 have hml:=BU k j l
 refine And.symm ⟨λ c6=>?_,λ c6=>?_⟩
 ·try simp only [nrm] at c6
  rw [hml] at c6
  refine ⟨?_,?_⟩
  ·show Value.int .i64 m=Value.int .i64 (k+(AA l:Int))
   first|exact AK (DJ (by omega) hki1.2)|exact Bn hki1.1 (by omega)
  show (AR k j l)=(AP k l)
  first|exact AK (DJ (by omega) hki1.2)|exact Bn hki1.1 (by omega)
 try simp only [nrm] at c6
 rw [hml] at c6
 have hj:j<l.length:=by omega
 have hrow:=hh2 j hj
 have hcx:=Fm hj hki1.2
 have h0m:0<=m:=by have:=J4 hki1.2;omega
 have hcb:m+(Ah (l.getD j []):Int)<=4611686018427387904:=by omega
 have e:=G8 (k:=k) (m:=m) hj
 have hk:=(IL m (l.getD j [])).symm
 have hL:=hml
 refine ao (a:=0<=((j:Nat):Int)/\((j:Nat):Int)<((AR k j l).length:Int)) (by first|exact ixL hL hj|exact ixI hL hj|rfl|omega) λ o7=>?_
 refine ao (a:=j<(AR k j l).length) (by first|exact ixL hL hj|exact ixI hL hj|rfl|omega) λ o8=>?_
 refine ⟨((((l.getD j []).getD 0 (.int 0)).r),(cn m (l.getD j []) 0)),by
  exact IN hj e hk,by
  try dsimp only [BZ]
  exact IM hrow (c:=0) rfl h0m hcb,?_⟩
 refine ao (a:=j<(AR k j l).length) (by first|exact ixL hL hj|exact ixI hL hj|rfl|omega) λ o12=>?_
 refine ao (a:=((((AR k j l).getD j []).getD 0 (.int 0))).r=(((AR k j l).getD j []).getD 0 (.int 0)).r) (by first|exact ixL hL hj|exact ixI hL hj|rfl|omega) λ o13=>?_
 intro R1 hR1
 have e:=EH hj hrow (c:=0) rfl e hR1
 have hk:=Dy (m:=m) hrow (c:=0) rfl
 have hL:=mkL e
 refine ⟨(j+1,m+(Ah (l.getD j []):Int)),by
  exact ⟨hj,hcx.1⟩,by
  exact Ny hj,?_⟩
 refine ⟨?_,?_,?_⟩
 ·show Value.int .i64 ((cn m (l.getD j []) 0)+(AA (((l.getD j []).getD 0 (.int 0)).r):Int))=Value.int .i64 (m+(Ah (l.getD j []):Int))
  first|rfl|exact Co hj hrow (by decide) e hki1.2|exact AK (Dz hrow (by decide) hk)|exact AK (CX hl hj)
 ·show Value.int .i64 (IntKind.i64.wrap (((j:Nat):Int)+(1:Int)))=Value.int .i64 (((j+1):Nat):Int)
  first|rfl|exact Co hj hrow (by decide) e hki1.2|exact AK (Dz hrow (by decide) hk)|exact AK (CX hl hj)
 show R1=(AR k (j+1) l)
 first|rfl|exact Co hj hrow (by decide) e hki1.2|exact AK (Dz hrow (by decide) hk)|exact AK (CX hl hj)
def DT:Con:={ ι:=Scn×Int,pre:=λ i=>Dat.has (.sl 39 [.int,.int]) (.sl (AJ i.1.robot))/\Dat.has (.sl 40 [.sl 39 [.int,.int]]) (.sl (Aa i.1.obst))/\Dat.has (.sl 39 [.int,.int]) (.sl (AJ i.1.tables))/\0<=i.2/\i.2+(AA (AJ i.1.robot):Int)+(AA (Aa i.1.obst):Int)+(AA (AJ i.1.tables):Int)<=4611686018427387904,args:=λ i=>[DA.agg [cI i.1.low.1,cI i.1.low.2,cI i.1.high.1,cI i.1.high.2,DC.sl 39 [.int,.int] (AJ i.1.robot),DC.sl 40 [.sl 39 [.int,.int]] (Aa i.1.obst),DC.sl 39 [.int,.int] (AJ i.1.tables)],.one (cI i.2)],mu:=[4,5,6],new:=λ i=>[AP (i.2) (AJ i.1.robot),AP (i.2+(AA (AJ i.1.robot):Int)) (Aa i.1.obst),AP (i.2+(AA (AJ i.1.robot):Int)+(AA (Aa i.1.obst):Int)) (AJ i.1.tables)],res:=λ i=>⟨false,[none],[rcI (i.2+(AA (AJ i.1.robot):Int)+(AA (Aa i.1.obst):Int)+(AA (AJ i.1.tables):Int))]⟩ }
theorem P6:DT.Ok Tryz.prog 17:=by
 refine fok (X:=⟨tt,[(75,BZ),(33,Bv)],[],18,[]⟩) AI AF (CTok.cons Ly (CTok.cons Kg (CTok.nil _))) Tryz.func17 (λ _=>[]) ?_
 rintro ⟨s,k⟩ hpre
 have hpre:Dat.has (.sl 39 [.int,.int]) (.sl (AJ s.robot))/\Dat.has (.sl 40 [.sl 39 [.int,.int]]) (.sl (Aa s.obst))/\Dat.has (.sl 39 [.int,.int]) (.sl (AJ s.tables))/\0<=k/\k+(AA (AJ s.robot):Int)+(AA (Aa s.obst):Int)+(AA (AJ s.tables):Int)<=4611686018427387904:=hpre
 refine AH (q:=let Z5:=AJ s.robot;let Z4:=AJ s.tables;let Z3:=List Dat;let Z2:=Aa s.obst;let Z1:=(AA Z5:Int);∃ i1:(List Z3)×Int,[DA.one (DC.sl 39 [.int,.int] Z5),DA.one (cI k)]=BZ.args i1/\BZ.pre i1/\(∀ R1:List Z3,R1=AP i1.2 i1.1->(∃ i2:(List Z3)×Int,[DA.one (DC.sl 40 [.sl 39 [.int,.int]] Z2),DA.one (cI (i1.2+(AA i1.1:Int)))]=Bv.args i2/\Bv.pre i2/\(∀ R2:List Z3,R2=AP i2.2 i2.1->(∃ i3:(List Z3)×Int,[DA.one (DC.sl 39 [.int,.int] Z4),DA.one (cI (i2.2+(AA i2.1:Int)))]=BZ.args i3/\BZ.pre i3/\(∀ R3:List Z3,R3=AP i3.2 i3.1->((vI (i3.2+(AA i3.1:Int))=vI (k+Z1+(AA Z2:Int)+(AA Z4:Int)))/\(R1=(AP (k) Z5))/\(R2=(AP (k+Z1) Z2))/\(R3=(AP (k+Z1+(AA Z2:Int)) Z4))))))))) (by kernel_rfl) ?_
 conv=>zeta
 delta vI
 obtain ⟨p4,p5,p6,h0,h1⟩:=hpre
 refine ⟨((AJ s.robot),k),by
  rfl,by
  show Dat.has (.sl 39 [.int,.int]) (.sl (AJ s.robot))/\0<=k/\k+(AA (AJ s.robot):Int)<=4611686018427387904
  exact ⟨p4,by omega,by omega⟩,?_⟩
 intro R1 hR1
 refine ⟨((Aa s.obst),(k+(AA (AJ s.robot):Int))),by
  rfl,by
  try dsimp only [Bv]
  exact ⟨p5,by omega,by omega⟩,?_⟩
 intro R2 hR2
 refine ⟨((AJ s.tables),((k+(AA (AJ s.robot):Int))+(AA (Aa s.obst):Int))),by
  rfl,by
  try dsimp only [BZ]
  exact ⟨p6,by omega,by omega⟩,?_⟩
 intro R3 hR3
 refine ⟨?_,?_,?_,?_⟩
 ·show Value.int .i64 (((k+(AA (AJ s.robot):Int))+(AA (Aa s.obst):Int))+(AA (AJ s.tables):Int))=Value.int .i64 (k+(AA (AJ s.robot):Int)+(AA (Aa s.obst):Int)+(AA (AJ s.tables):Int))
  first|rfl|assumption
 ·first|rfl|assumption
 ·first|rfl|assumption
 first|rfl|assumption
def DU:Con:={ ι:=(List (List Dat))×Int,pre:=λ i=>Dat.has (.sl 153 [.bool,.sl 3 [.int],.sl 3 [.int],.bool,.sl 3 [.int],.sl 3 [.int],.bool,.sl 3 [.int],.sl 3 [.int]]) (.sl i.1)/\0<=i.2/\i.2+(AA i.1:Int)<=4611686018427387904,args:=λ i=>[.one (DC.sl 153 E7 i.1),.one (cI i.2)],mu:=[0],new:=λ i=>[AP i.2 i.1],res:=λ i=>⟨false,[none],[rcI (i.2+(AA i.1:Int))]⟩ }
theorem P7:DU.Ok Tryz.prog 43:=by
 refine fok (X:=⟨tt,[(19,AM)],[],97,[]⟩) AI AF (CTok.cons GY (CTok.nil _)) Tryz.func43 (λ (i:(List (List Dat))×Int)=>[(2,.mk 2 (Nat×Int) (λ x1=>{ tm:=[(0,tX 1),(1,tI x1.2),(5,tI (nI x1.1))],en:=[(1,.mu 153 E7 (AR i.2 x1.1 i.1) 0)] }) (λ x1=>x1.1<=i.1.length/\x1.2=i.2+(AA (i.1.take x1.1):Int)) (λ x1=>i.1.length-x1.1) (λ _=>[]))]) ?_
 rintro ⟨l,k⟩ hpre
 have hpre:Dat.has (.sl 153 [.bool,.sl 3 [.int],.sl 3 [.int],.bool,.sl 3 [.int],.sl 3 [.int],.bool,.sl 3 [.int],.sl 3 [.int]]) (.sl l)/\0<=k/\k+(AA l:Int)<=4611686018427387904:=hpre
 refine AH (q:=let Z18:=(3:Int)≠0;let Z2:=List Dat;(∃ x1:Nat×Int,(x1.1<=l.length/\x1.2=k+(AA (l.take x1.1):Int))/\((vI k=vI x1.2)/\(vI (0:Int)=vI (nI x1.1))/\(l=(AR k x1.1 l))))/\∀ x1:Nat×Int,let Z1:=AR k x1.1 l;let Z12:=x1.1<Z1.length;(x1.1<=l.length/\x1.2=k+(AA (l.take x1.1):Int))->(ifB ((decide ((nI x1.1)<(nI (Z1.length))))) (Z18/\((0<=(nI x1.1)/\(nI x1.1)<(Z1.length:Int))/\(Z12/\(Z12/\(Z12/\(Z12/\(∀ R1:List Z2,let Z9:=x1.1<R1.length;let Z3:=(R1.getD x1.1 []).getD 1 (.int 0);R1=CT Z1 x1.1 0 (Dat.bool ((Int.tmod x1.2 (3:Int)) == (0:Int)))->((0<=(nI x1.1)/\(nI x1.1)<(R1.length:Int))/\(Z9/\(Z9/\(Z9/\(Z9/\(∃ i2:(List Z2)×Int,[DA.one (cS ((Z3).r)),DA.one (cI (wR (x1.2+(1:Int))))]=AM.args i2/\AM.pre i2/\(Z9/\(((Z3).r=Z3.r)/\(∀ R2:List Z2,let Z13:=x1.1<R2.length;let Z4:=(R2.getD x1.1 []).getD 2 (.int 0);R2=CT R1 x1.1 1 (.sl (AP i2.2 i2.1))->((0<=(nI x1.1)/\(nI x1.1)<(R2.length:Int))/\(Z13/\(Z13/\(Z13/\(∃ i3:(List Z2)×Int,let Z19:=i3.2+(AA i3.1:Int);[DA.one (cS ((Z4).r)),DA.one (cI (i2.2+(AA i2.1:Int)))]=AM.args i3/\AM.pre i3/\(Z13/\(((Z4).r=Z4.r)/\(∀ R3:List Z2,let Z14:=x1.1<R3.length;R3=CT R2 x1.1 2 (.sl (AP i3.2 i3.1))->(Z18/\((0<=(nI x1.1)/\(nI x1.1)<(R3.length:Int))/\(Z14/\(Z14/\(Z14/\(Z14/\(∀ R4:List Z2,let Z10:=x1.1<R4.length;let Z5:=(R4.getD x1.1 []).getD 4 (.int 0);R4=CT R3 x1.1 3 (Dat.bool ((Int.tmod Z19 (3:Int)) == (0:Int)))->((0<=(nI x1.1)/\(nI x1.1)<(R4.length:Int))/\(Z10/\(Z10/\(Z10/\(Z10/\(∃ i5:(List Z2)×Int,[DA.one (cS ((Z5).r)),DA.one (cI (wR (Z19+(1:Int))))]=AM.args i5/\AM.pre i5/\(Z10/\(((Z5).r=Z5.r)/\(∀ R5:List Z2,let Z15:=x1.1<R5.length;let Z6:=(R5.getD x1.1 []).getD 5 (.int 0);R5=CT R4 x1.1 4 (.sl (AP i5.2 i5.1))->((0<=(nI x1.1)/\(nI x1.1)<(R5.length:Int))/\(Z15/\(Z15/\(Z15/\(∃ i6:(List Z2)×Int,let Z20:=i6.2+(AA i6.1:Int);[DA.one (cS ((Z6).r)),DA.one (cI (i5.2+(AA i5.1:Int)))]=AM.args i6/\AM.pre i6/\(Z15/\(((Z6).r=Z6.r)/\(∀ R6:List Z2,let Z16:=x1.1<R6.length;R6=CT R5 x1.1 5 (.sl (AP i6.2 i6.1))->(Z18/\((0<=(nI x1.1)/\(nI x1.1)<(R6.length:Int))/\(Z16/\(Z16/\(Z16/\(Z16/\(∀ R7:List Z2,let Z11:=x1.1<R7.length;let Z7:=(R7.getD x1.1 []).getD 7 (.int 0);R7=CT R6 x1.1 6 (Dat.bool ((Int.tmod Z20 (3:Int)) == (0:Int)))->((0<=(nI x1.1)/\(nI x1.1)<(R7.length:Int))/\(Z11/\(Z11/\(Z11/\(Z11/\(∃ i8:(List Z2)×Int,[DA.one (cS ((Z7).r)),DA.one (cI (wR (Z20+(1:Int))))]=AM.args i8/\AM.pre i8/\(Z11/\(((Z7).r=Z7.r)/\(∀ R8:List Z2,let Z17:=x1.1<R8.length;let Z8:=(R8.getD x1.1 []).getD 8 (.int 0);R8=CT R7 x1.1 7 (.sl (AP i8.2 i8.1))->((0<=(nI x1.1)/\(nI x1.1)<(R8.length:Int))/\(Z17/\(Z17/\(Z17/\(∃ i9:(List Z2)×Int,[DA.one (cS ((Z8).r)),DA.one (cI (i8.2+(AA i8.1:Int)))]=AM.args i9/\AM.pre i9/\(Z17/\(((Z8).r=Z8.r)/\(∀ R9:List Z2,R9=CT R8 x1.1 8 (.sl (AP i9.2 i9.1))->(∃ y2:Nat×Int,(y2.1<=l.length/\y2.2=k+(AA (l.take y2.1):Int))/\(l.length-y2.1<l.length-x1.1)/\((vI (i9.2+(AA i9.1:Int))=vI y2.2)/\(vI (wR ((nI x1.1)+(1:Int)))=vI (nI y2.1))/\(R9=(AR k y2.1 l)))))))))))))))))))))))))))))))))))))))))))))))))))))))))))))))))))))))))))) ((vI x1.2=vI (k+(AA l:Int)))/\(Z1=(AP k l))))) (by kernel_rfl) ?_
 conv=>zeta
 delta ifB vI wR nI
 obtain ⟨hh,h0,h1⟩:=hpre
 have hl:=Cr hh
 have hh2:=Bh hh
 refine ⟨⟨(0,k),by
  first|exact ⟨Nat.zero_le _,by simp [AA]⟩|exact ⟨by omega,hcx.1⟩,?_⟩,?_⟩
 ·refine ⟨rfl,?_,?_⟩
  ·show Value.int .i64 (0:Int)=Value.int .i64 ((0:Nat):Int)
   first|rfl|exact (Ba _ _).symm
  show l=(AR k 0 l)
  first|rfl|exact (Ba _ _).symm
 rintro ⟨j,m⟩ hki1
 have hki1:j<=l.length/\m=k+(AA (l.take j):Int):=hki1
 have hml:=BU k j l
 refine And.symm ⟨λ c6=>?_,λ c6=>?_⟩
 ·try simp only [nrm] at c6
  rw [hml] at c6
  refine ⟨?_,?_⟩
  ·show Value.int .i64 m=Value.int .i64 (k+(AA l:Int))
   first|exact AK (DJ (by omega) hki1.2)|exact Bn hki1.1 (by omega)
  show (AR k j l)=(AP k l)
  first|exact AK (DJ (by omega) hki1.2)|exact Bn hki1.1 (by omega)
 try simp only [nrm] at c6
 rw [hml] at c6
 have hj:j<l.length:=by omega
 have hrow:=hh2 j hj
 have hcx:=Fm hj hki1.2
 have h0m:0<=m:=by have:=J4 hki1.2;omega
 have hcb:m+(Ah (l.getD j []):Int)<=4611686018427387904:=by omega
 have e:=G8 (k:=k) (m:=m) hj
 have hk:=(IL m (l.getD j [])).symm
 have hL:=hml
 refine ao (by first|exact ixL hL hj|exact ixI hL hj|rfl|omega) λ o7=>?_
 refine ao (a:=0<=((j:Nat):Int)/\((j:Nat):Int)<((AR k j l).length:Int)) (by first|exact ixL hL hj|exact ixI hL hj|rfl|omega) λ o8=>?_
 refine ao (a:=j<(AR k j l).length) (by first|exact ixL hL hj|exact ixI hL hj|rfl|omega) λ o9=>?_
 refine ao (a:=j<(AR k j l).length) (by first|exact ixL hL hj|exact ixI hL hj|rfl|omega) λ o10=>?_
 refine ao (a:=j<(AR k j l).length) (by first|exact ixL hL hj|exact ixI hL hj|rfl|omega) λ o11=>?_
 refine ao (a:=j<(AR k j l).length) (by first|exact ixL hL hj|exact ixI hL hj|rfl|omega) λ o12=>?_
 intro R1 hR1
 have e:=mk_bool hj hrow (c:=0) rfl e hk h0m hR1
 have hk:=FM hrow (c:=0) rfl hk h0m hcb
 have hL:=mkL e
 refine ao (a:=0<=((j:Nat):Int)/\((j:Nat):Int)<(R1.length:Int)) (by first|exact ixL hL hj|exact ixI hL hj|rfl|omega) λ o14=>?_
 refine ao (a:=j<R1.length) (by first|exact ixL hL hj|exact ixI hL hj|rfl|omega) λ o15=>?_
 refine ao (a:=j<R1.length) (by first|exact ixL hL hj|exact ixI hL hj|rfl|omega) λ o16=>?_
 refine ao (a:=j<R1.length) (by first|exact ixL hL hj|exact ixI hL hj|rfl|omega) λ o17=>?_
 refine ao (a:=j<R1.length) (by first|exact ixL hL hj|exact ixI hL hj|rfl|omega) λ o18=>?_
 refine ⟨((((l.getD j []).getD 1 (.int 0)).r),(cn m (l.getD j []) 1)),by
  exact IN hj e hk,by
  show Dat.has (.sl 3 [.int]) (.sl (((l.getD j []).getD 1 (.int 0)).r))/\0<=(cn m (l.getD j []) 1)/\(cn m (l.getD j []) 1)+(AA (((l.getD j []).getD 1 (.int 0)).r):Int)<=4611686018427387904
  exact IM hrow (c:=1) rfl h0m hcb,?_⟩
 refine ao (a:=j<R1.length) (by first|exact ixL hL hj|exact ixI hL hj|rfl|omega) λ o22=>?_
 refine ao (a:=(((R1.getD j []).getD 1 (.int 0))).r=((R1.getD j []).getD 1 (.int 0)).r) (by first|exact ixL hL hj|exact ixI hL hj|rfl|omega) λ o23=>?_
 intro R2 hR2
 have e:=EH hj hrow (c:=1) rfl e hR2
 have hk:=Dy (m:=m) hrow (c:=1) rfl
 have hL:=mkL e
 refine ao (a:=0<=((j:Nat):Int)/\((j:Nat):Int)<(R2.length:Int)) (by first|exact ixL hL hj|exact ixI hL hj|rfl|omega) λ o25=>?_
 refine ao (a:=j<R2.length) (by first|exact ixL hL hj|exact ixI hL hj|rfl|omega) λ o26=>?_
 refine ao (a:=j<R2.length) (by first|exact ixL hL hj|exact ixI hL hj|rfl|omega) λ o27=>?_
 refine ao (a:=j<R2.length) (by first|exact ixL hL hj|exact ixI hL hj|rfl|omega) λ o28=>?_
 refine ⟨((((l.getD j []).getD 2 (.int 0)).r),(cn m (l.getD j []) 2)),by
  exact IN hj e hk,by
  show Dat.has (.sl 3 [.int]) (.sl (((l.getD j []).getD 2 (.int 0)).r))/\0<=(cn m (l.getD j []) 2)/\(cn m (l.getD j []) 2)+(AA (((l.getD j []).getD 2 (.int 0)).r):Int)<=4611686018427387904
  exact IM hrow (c:=2) rfl h0m hcb,?_⟩
 refine ao (a:=j<R2.length) (by first|exact ixL hL hj|exact ixI hL hj|rfl|omega) λ o32=>?_
 refine ao (a:=(((R2.getD j []).getD 2 (.int 0))).r=((R2.getD j []).getD 2 (.int 0)).r) (by first|exact ixL hL hj|exact ixI hL hj|rfl|omega) λ o33=>?_
 intro R3 hR3
 have e:=EH hj hrow (c:=2) rfl e hR3
 have hk:=Dy (m:=m) hrow (c:=2) rfl
 have hL:=mkL e
 refine ao (by first|exact ixL hL hj|exact ixI hL hj|rfl|omega) λ o35=>?_
 refine ao (a:=0<=((j:Nat):Int)/\((j:Nat):Int)<(R3.length:Int)) (by first|exact ixL hL hj|exact ixI hL hj|rfl|omega) λ o36=>?_
 refine ao (a:=j<R3.length) (by first|exact ixL hL hj|exact ixI hL hj|rfl|omega) λ o37=>?_
 refine ao (a:=j<R3.length) (by first|exact ixL hL hj|exact ixI hL hj|rfl|omega) λ o38=>?_
 refine ao (a:=j<R3.length) (by first|exact ixL hL hj|exact ixI hL hj|rfl|omega) λ o39=>?_
 refine ao (a:=j<R3.length) (by first|exact ixL hL hj|exact ixI hL hj|rfl|omega) λ o40=>?_
 intro R4 hR4
 have e:=mk_bool hj hrow (c:=3) rfl e hk h0m hR4
 have hk:=FM hrow (c:=3) rfl hk h0m hcb
 have hL:=mkL e
 refine ao (a:=0<=((j:Nat):Int)/\((j:Nat):Int)<(R4.length:Int)) (by first|exact ixL hL hj|exact ixI hL hj|rfl|omega) λ o42=>?_
 refine ao (a:=j<R4.length) (by first|exact ixL hL hj|exact ixI hL hj|rfl|omega) λ o43=>?_
 refine ao (a:=j<R4.length) (by first|exact ixL hL hj|exact ixI hL hj|rfl|omega) λ o44=>?_
 refine ao (a:=j<R4.length) (by first|exact ixL hL hj|exact ixI hL hj|rfl|omega) λ o45=>?_
 refine ao (a:=j<R4.length) (by first|exact ixL hL hj|exact ixI hL hj|rfl|omega) λ o46=>?_
 refine ⟨((((l.getD j []).getD 4 (.int 0)).r),(cn m (l.getD j []) 4)),by
  exact IN hj e hk,by
  show Dat.has (.sl 3 [.int]) (.sl (((l.getD j []).getD 4 (.int 0)).r))/\0<=(cn m (l.getD j []) 4)/\(cn m (l.getD j []) 4)+(AA (((l.getD j []).getD 4 (.int 0)).r):Int)<=4611686018427387904
  exact IM hrow (c:=4) rfl h0m hcb,?_⟩
 refine ao (a:=j<R4.length) (by first|exact ixL hL hj|exact ixI hL hj|rfl|omega) λ o50=>?_
 refine ao (a:=(((R4.getD j []).getD 4 (.int 0))).r=((R4.getD j []).getD 4 (.int 0)).r) (by first|exact ixL hL hj|exact ixI hL hj|rfl|omega) λ o51=>?_
 intro R5 hR5
 have e:=EH hj hrow (c:=4) rfl e hR5
 have hk:=Dy (m:=m) hrow (c:=4) rfl
 have hL:=mkL e
 refine ao (a:=0<=((j:Nat):Int)/\((j:Nat):Int)<(R5.length:Int)) (by first|exact ixL hL hj|exact ixI hL hj|rfl|omega) λ o53=>?_
 refine ao (a:=j<R5.length) (by first|exact ixL hL hj|exact ixI hL hj|rfl|omega) λ o54=>?_
 refine ao (a:=j<R5.length) (by first|exact ixL hL hj|exact ixI hL hj|rfl|omega) λ o55=>?_
 refine ao (a:=j<R5.length) (by first|exact ixL hL hj|exact ixI hL hj|rfl|omega) λ o56=>?_
 refine ⟨((((l.getD j []).getD 5 (.int 0)).r),(cn m (l.getD j []) 5)),by
  exact IN hj e hk,by
  show Dat.has (.sl 3 [.int]) (.sl (((l.getD j []).getD 5 (.int 0)).r))/\0<=(cn m (l.getD j []) 5)/\(cn m (l.getD j []) 5)+(AA (((l.getD j []).getD 5 (.int 0)).r):Int)<=4611686018427387904
  exact IM hrow (c:=5) rfl h0m hcb,?_⟩
 refine ao (a:=j<R5.length) (by first|exact ixL hL hj|exact ixI hL hj|rfl|omega) λ o60=>?_
 refine ao (a:=(((R5.getD j []).getD 5 (.int 0))).r=((R5.getD j []).getD 5 (.int 0)).r) (by first|exact ixL hL hj|exact ixI hL hj|rfl|omega) λ o61=>?_
 intro R6 hR6
 have e:=EH hj hrow (c:=5) rfl e hR6
 have hk:=Dy (m:=m) hrow (c:=5) rfl
 have hL:=mkL e
 refine ao (by first|exact ixL hL hj|exact ixI hL hj|rfl|omega) λ o63=>?_
 refine ao (a:=0<=((j:Nat):Int)/\((j:Nat):Int)<(R6.length:Int)) (by first|exact ixL hL hj|exact ixI hL hj|rfl|omega) λ o64=>?_
 refine ao (a:=j<R6.length) (by first|exact ixL hL hj|exact ixI hL hj|rfl|omega) λ o65=>?_
 refine ao (a:=j<R6.length) (by first|exact ixL hL hj|exact ixI hL hj|rfl|omega) λ o66=>?_
 refine ao (a:=j<R6.length) (by first|exact ixL hL hj|exact ixI hL hj|rfl|omega) λ o67=>?_
 refine ao (a:=j<R6.length) (by first|exact ixL hL hj|exact ixI hL hj|rfl|omega) λ o68=>?_
 intro R7 hR7
 have e:=mk_bool hj hrow (c:=6) rfl e hk h0m hR7
 have hk:=FM hrow (c:=6) rfl hk h0m hcb
 have hL:=mkL e
 refine ao (a:=0<=((j:Nat):Int)/\((j:Nat):Int)<(R7.length:Int)) (by first|exact ixL hL hj|exact ixI hL hj|rfl|omega) λ o70=>?_
 refine ao (a:=j<R7.length) (by first|exact ixL hL hj|exact ixI hL hj|rfl|omega) λ o71=>?_
 refine ao (a:=j<R7.length) (by first|exact ixL hL hj|exact ixI hL hj|rfl|omega) λ o72=>?_
 refine ao (a:=j<R7.length) (by first|exact ixL hL hj|exact ixI hL hj|rfl|omega) λ o73=>?_
 refine ao (a:=j<R7.length) (by first|exact ixL hL hj|exact ixI hL hj|rfl|omega) λ o74=>?_
 refine ⟨((((l.getD j []).getD 7 (.int 0)).r),(cn m (l.getD j []) 7)),by
  exact IN hj e hk,by
  show Dat.has (.sl 3 [.int]) (.sl (((l.getD j []).getD 7 (.int 0)).r))/\0<=(cn m (l.getD j []) 7)/\(cn m (l.getD j []) 7)+(AA (((l.getD j []).getD 7 (.int 0)).r):Int)<=4611686018427387904
  exact IM hrow (c:=7) rfl h0m hcb,?_⟩
 refine ao (a:=j<R7.length) (by first|exact ixL hL hj|exact ixI hL hj|rfl|omega) λ o78=>?_
 refine ao (a:=(((R7.getD j []).getD 7 (.int 0))).r=((R7.getD j []).getD 7 (.int 0)).r) (by first|exact ixL hL hj|exact ixI hL hj|rfl|omega) λ o79=>?_
 intro R8 hR8
 have e:=EH hj hrow (c:=7) rfl e hR8
 have hk:=Dy (m:=m) hrow (c:=7) rfl
 have hL:=mkL e
 refine ao (a:=0<=((j:Nat):Int)/\((j:Nat):Int)<(R8.length:Int)) (by first|exact ixL hL hj|exact ixI hL hj|rfl|omega) λ o81=>?_
 refine ao (a:=j<R8.length) (by first|exact ixL hL hj|exact ixI hL hj|rfl|omega) λ o82=>?_
 refine ao (a:=j<R8.length) (by first|exact ixL hL hj|exact ixI hL hj|rfl|omega) λ o83=>?_
 refine ao (a:=j<R8.length) (by first|exact ixL hL hj|exact ixI hL hj|rfl|omega) λ o84=>?_
 refine ⟨((((l.getD j []).getD 8 (.int 0)).r),(cn m (l.getD j []) 8)),by
  exact IN hj e hk,by
  show Dat.has (.sl 3 [.int]) (.sl (((l.getD j []).getD 8 (.int 0)).r))/\0<=(cn m (l.getD j []) 8)/\(cn m (l.getD j []) 8)+(AA (((l.getD j []).getD 8 (.int 0)).r):Int)<=4611686018427387904
  exact IM hrow (c:=8) rfl h0m hcb,?_⟩
 refine ao (a:=j<R8.length) (by first|exact ixL hL hj|exact ixI hL hj|rfl|omega) λ o88=>?_
 refine ao (a:=(((R8.getD j []).getD 8 (.int 0))).r=((R8.getD j []).getD 8 (.int 0)).r) (by first|exact ixL hL hj|exact ixI hL hj|rfl|omega) λ o89=>?_
 intro R9 hR9
 have e:=EH hj hrow (c:=8) rfl e hR9
 have hk:=Dy (m:=m) hrow (c:=8) rfl
 have hL:=mkL e
 refine ⟨(j+1,m+(Ah (l.getD j []):Int)),by
  exact ⟨hj,hcx.1⟩,by
  exact Ny hj,?_⟩
 refine ⟨?_,?_,?_⟩
 ·show Value.int .i64 ((cn m (l.getD j []) 8)+(AA (((l.getD j []).getD 8 (.int 0)).r):Int))=Value.int .i64 (m+(Ah (l.getD j []):Int))
  first|rfl|exact Co hj hrow (by decide) e hki1.2|exact AK (Dz hrow (by decide) hk)|exact AK (CX hl hj)
 ·show Value.int .i64 (IntKind.i64.wrap (((j:Nat):Int)+(1:Int)))=Value.int .i64 (((j+1):Nat):Int)
  first|rfl|exact Co hj hrow (by decide) e hki1.2|exact AK (Dz hrow (by decide) hk)|exact AK (CX hl hj)
 show R9=(AR k (j+1) l)
 first|rfl|exact Co hj hrow (by decide) e hki1.2|exact AK (Dz hrow (by decide) hk)|exact AK (CX hl hj)
def DV:Con:={ ι:=(List (List Dat))×Int,pre:=λ i=>Dat.has (.sl 158 [.bool,.sl 3 [.int],.sl 3 [.int],.bool,.sl 3 [.int],.sl 3 [.int],.bool,.sl 3 [.int],.sl 3 [.int],.bool,.sl 3 [.int],.sl 3 [.int],.bool,.sl 3 [.int],.sl 3 [.int],.bool,.sl 3 [.int],.sl 3 [.int]]) (.sl i.1)/\0<=i.2/\i.2+(AA i.1:Int)<=4611686018427387904,args:=λ i=>[.one (DC.sl 158 E8 i.1),.one (cI i.2)],mu:=[0],new:=λ i=>[AP i.2 i.1],res:=λ i=>⟨false,[none],[rcI (i.2+(AA i.1:Int))]⟩ }
set_option maxHeartbeats 1600000 in
theorem P8:DV.Ok Tryz.prog 48:=by
 refine fok (X:=⟨tt,[(19,AM)],[],181,[]⟩) AI AF (CTok.cons GY (CTok.nil _)) Tryz.func48 (λ (i:(List (List Dat))×Int)=>[(2,.mk 2 (Nat×Int) (λ x1=>{ tm:=[(0,tX 1),(1,tI x1.2),(5,tI (nI x1.1))],en:=[(1,.mu 158 E8 (AR i.2 x1.1 i.1) 0)] }) (λ x1=>x1.1<=i.1.length/\x1.2=i.2+(AA (i.1.take x1.1):Int)) (λ x1=>i.1.length-x1.1) (λ _=>[]))]) ?_
 rintro ⟨l,k⟩ hpre
 have hpre:Dat.has (.sl 158 [.bool,.sl 3 [.int],.sl 3 [.int],.bool,.sl 3 [.int],.sl 3 [.int],.bool,.sl 3 [.int],.sl 3 [.int],.bool,.sl 3 [.int],.sl 3 [.int],.bool,.sl 3 [.int],.sl 3 [.int],.bool,.sl 3 [.int],.sl 3 [.int]]) (.sl l)/\0<=k/\k+(AA l:Int)<=4611686018427387904:=hpre
 refine AH (q:=let Z9:=(3:Int)≠0;let Z1:=List Dat;(∃ x1:Nat×Int,(x1.1<=l.length/\x1.2=k+(AA (l.take x1.1):Int))/\((vI k=vI x1.2)/\(vI (0:Int)=vI (nI x1.1))/\(l=(AR k x1.1 l))))/\∀ x1:Nat×Int,let Z2:=AR k x1.1 l;let Z27:=x1.1<Z2.length;(x1.1<=l.length/\x1.2=k+(AA (l.take x1.1):Int))->(ifB ((decide ((nI x1.1)<(nI (Z2.length))))) (Z9/\((0<=(nI x1.1)/\(nI x1.1)<(Z2.length:Int))/\(Z27/\(Z27/\(Z27/\(Z27/\(∀ R1:List Z1,let Z19:=x1.1<R1.length;let Z10:=(R1.getD x1.1 []).getD 1 (.int 0);R1=CT Z2 x1.1 0 (Dat.bool ((Int.tmod x1.2 (3:Int)) == (0:Int)))->((0<=(nI x1.1)/\(nI x1.1)<(R1.length:Int))/\(Z19/\(Z19/\(Z19/\(Z19/\(∃ i2:(List Z1)×Int,[DA.one (cS ((Z10).r)),DA.one (cI (wR (x1.2+(1:Int))))]=AM.args i2/\AM.pre i2/\(Z19/\(((Z10).r=Z10.r)/\(∀ R2:List Z1,let Z28:=x1.1<R2.length;let Z11:=(R2.getD x1.1 []).getD 2 (.int 0);R2=CT R1 x1.1 1 (.sl (AP i2.2 i2.1))->((0<=(nI x1.1)/\(nI x1.1)<(R2.length:Int))/\(Z28/\(Z28/\(Z28/\(∃ i3:(List Z1)×Int,let Z36:=i3.2+(AA i3.1:Int);[DA.one (cS ((Z11).r)),DA.one (cI (i2.2+(AA i2.1:Int)))]=AM.args i3/\AM.pre i3/\(Z28/\(((Z11).r=Z11.r)/\(∀ R3:List Z1,let Z29:=x1.1<R3.length;R3=CT R2 x1.1 2 (.sl (AP i3.2 i3.1))->(Z9/\((0<=(nI x1.1)/\(nI x1.1)<(R3.length:Int))/\(Z29/\(Z29/\(Z29/\(Z29/\(∀ R4:List Z1,let Z20:=x1.1<R4.length;let Z12:=(R4.getD x1.1 []).getD 4 (.int 0);R4=CT R3 x1.1 3 (Dat.bool ((Int.tmod Z36 (3:Int)) == (0:Int)))->((0<=(nI x1.1)/\(nI x1.1)<(R4.length:Int))/\(Z20/\(Z20/\(Z20/\(Z20/\(∃ i5:(List Z1)×Int,[DA.one (cS ((Z12).r)),DA.one (cI (wR (Z36+(1:Int))))]=AM.args i5/\AM.pre i5/\(Z20/\(((Z12).r=Z12.r)/\(∀ R5:List Z1,let Z30:=x1.1<R5.length;let Z13:=(R5.getD x1.1 []).getD 5 (.int 0);R5=CT R4 x1.1 4 (.sl (AP i5.2 i5.1))->((0<=(nI x1.1)/\(nI x1.1)<(R5.length:Int))/\(Z30/\(Z30/\(Z30/\(∃ i6:(List Z1)×Int,let Z37:=i6.2+(AA i6.1:Int);[DA.one (cS ((Z13).r)),DA.one (cI (i5.2+(AA i5.1:Int)))]=AM.args i6/\AM.pre i6/\(Z30/\(((Z13).r=Z13.r)/\(∀ R6:List Z1,let Z31:=x1.1<R6.length;R6=CT R5 x1.1 5 (.sl (AP i6.2 i6.1))->(Z9/\((0<=(nI x1.1)/\(nI x1.1)<(R6.length:Int))/\(Z31/\(Z31/\(Z31/\(Z31/\(∀ R7:List Z1,let Z21:=x1.1<R7.length;let Z14:=(R7.getD x1.1 []).getD 7 (.int 0);R7=CT R6 x1.1 6 (Dat.bool ((Int.tmod Z37 (3:Int)) == (0:Int)))->((0<=(nI x1.1)/\(nI x1.1)<(R7.length:Int))/\(Z21/\(Z21/\(Z21/\(Z21/\(∃ i8:(List Z1)×Int,[DA.one (cS ((Z14).r)),DA.one (cI (wR (Z37+(1:Int))))]=AM.args i8/\AM.pre i8/\(Z21/\(((Z14).r=Z14.r)/\(∀ R8:List Z1,let Z32:=x1.1<R8.length;let Z15:=(R8.getD x1.1 []).getD 8 (.int 0);R8=CT R7 x1.1 7 (.sl (AP i8.2 i8.1))->((0<=(nI x1.1)/\(nI x1.1)<(R8.length:Int))/\(Z32/\(Z32/\(Z32/\(∃ i9:(List Z1)×Int,let Z38:=i9.2+(AA i9.1:Int);[DA.one (cS ((Z15).r)),DA.one (cI (i8.2+(AA i8.1:Int)))]=AM.args i9/\AM.pre i9/\(Z32/\(((Z15).r=Z15.r)/\(∀ R9:List Z1,let Z33:=x1.1<R9.length;R9=CT R8 x1.1 8 (.sl (AP i9.2 i9.1))->(Z9/\((0<=(nI x1.1)/\(nI x1.1)<(R9.length:Int))/\(Z33/\(Z33/\(Z33/\(Z33/\(∀ R10:List Z1,let Z16:=x1.1<R10.length;let Z3:=(R10.getD x1.1 []).getD 10 (.int 0);R10=CT R9 x1.1 9 (Dat.bool ((Int.tmod Z38 (3:Int)) == (0:Int)))->((0<=(nI x1.1)/\(nI x1.1)<(R10.length:Int))/\(Z16/\(Z16/\(Z16/\(Z16/\(∃ i11:(List Z1)×Int,[DA.one (cS ((Z3).r)),DA.one (cI (wR (Z38+(1:Int))))]=AM.args i11/\AM.pre i11/\(Z16/\(((Z3).r=Z3.r)/\(∀ R11:List Z1,let Z22:=x1.1<R11.length;let Z4:=(R11.getD x1.1 []).getD 11 (.int 0);R11=CT R10 x1.1 10 (.sl (AP i11.2 i11.1))->((0<=(nI x1.1)/\(nI x1.1)<(R11.length:Int))/\(Z22/\(Z22/\(Z22/\(∃ i12:(List Z1)×Int,let Z34:=i12.2+(AA i12.1:Int);[DA.one (cS ((Z4).r)),DA.one (cI (i11.2+(AA i11.1:Int)))]=AM.args i12/\AM.pre i12/\(Z22/\(((Z4).r=Z4.r)/\(∀ R12:List Z1,let Z23:=x1.1<R12.length;R12=CT R11 x1.1 11 (.sl (AP i12.2 i12.1))->(Z9/\((0<=(nI x1.1)/\(nI x1.1)<(R12.length:Int))/\(Z23/\(Z23/\(Z23/\(Z23/\(∀ R13:List Z1,let Z17:=x1.1<R13.length;let Z5:=(R13.getD x1.1 []).getD 13 (.int 0);R13=CT R12 x1.1 12 (Dat.bool ((Int.tmod Z34 (3:Int)) == (0:Int)))->((0<=(nI x1.1)/\(nI x1.1)<(R13.length:Int))/\(Z17/\(Z17/\(Z17/\(Z17/\(∃ i14:(List Z1)×Int,[DA.one (cS ((Z5).r)),DA.one (cI (wR (Z34+(1:Int))))]=AM.args i14/\AM.pre i14/\(Z17/\(((Z5).r=Z5.r)/\(∀ R14:List Z1,let Z24:=x1.1<R14.length;let Z6:=(R14.getD x1.1 []).getD 14 (.int 0);R14=CT R13 x1.1 13 (.sl (AP i14.2 i14.1))->((0<=(nI x1.1)/\(nI x1.1)<(R14.length:Int))/\(Z24/\(Z24/\(Z24/\(∃ i15:(List Z1)×Int,let Z35:=i15.2+(AA i15.1:Int);[DA.one (cS ((Z6).r)),DA.one (cI (i14.2+(AA i14.1:Int)))]=AM.args i15/\AM.pre i15/\(Z24/\(((Z6).r=Z6.r)/\(∀ R15:List Z1,let Z25:=x1.1<R15.length;R15=CT R14 x1.1 14 (.sl (AP i15.2 i15.1))->(Z9/\((0<=(nI x1.1)/\(nI x1.1)<(R15.length:Int))/\(Z25/\(Z25/\(Z25/\(Z25/\(∀ R16:List Z1,let Z18:=x1.1<R16.length;let Z7:=(R16.getD x1.1 []).getD 16 (.int 0);R16=CT R15 x1.1 15 (Dat.bool ((Int.tmod Z35 (3:Int)) == (0:Int)))->((0<=(nI x1.1)/\(nI x1.1)<(R16.length:Int))/\(Z18/\(Z18/\(Z18/\(Z18/\(∃ i17:(List Z1)×Int,[DA.one (cS ((Z7).r)),DA.one (cI (wR (Z35+(1:Int))))]=AM.args i17/\AM.pre i17/\(Z18/\(((Z7).r=Z7.r)/\(∀ R17:List Z1,let Z26:=x1.1<R17.length;let Z8:=(R17.getD x1.1 []).getD 17 (.int 0);R17=CT R16 x1.1 16 (.sl (AP i17.2 i17.1))->((0<=(nI x1.1)/\(nI x1.1)<(R17.length:Int))/\(Z26/\(Z26/\(Z26/\(∃ i18:(List Z1)×Int,[DA.one (cS ((Z8).r)),DA.one (cI (i17.2+(AA i17.1:Int)))]=AM.args i18/\AM.pre i18/\(Z26/\(((Z8).r=Z8.r)/\(∀ R18:List Z1,R18=CT R17 x1.1 17 (.sl (AP i18.2 i18.1))->(∃ y2:Nat×Int,(y2.1<=l.length/\y2.2=k+(AA (l.take y2.1):Int))/\(l.length-y2.1<l.length-x1.1)/\((vI (i18.2+(AA i18.1:Int))=vI y2.2)/\(vI (wR ((nI x1.1)+(1:Int)))=vI (nI y2.1))/\(R18=(AR k y2.1 l)))))))))))))))))))))))))))))))))))))))))))))))))))))))))))))))))))))))))))))))))))))))))))))))))))))))))))))))))))))))))))))))))))))))))))))))))))) ((vI x1.2=vI (k+(AA l:Int)))/\(Z2=(AP k l))))) (by kernel_rfl) ?_
 conv=>zeta
 delta ifB vI wR nI
 obtain ⟨hh,h0,h1⟩:=hpre
 have hl:=Cr hh
 have hh2:=Bh hh
 refine ⟨⟨(0,k),by
  first|exact ⟨Nat.zero_le _,by simp [AA]⟩|exact ⟨by omega,hcx.1⟩,?_⟩,?_⟩
 ·refine ⟨rfl,?_,?_⟩
  ·show Value.int .i64 (0:Int)=Value.int .i64 ((0:Nat):Int)
   first|rfl|exact (Ba _ _).symm
  show l=(AR k 0 l)
  first|rfl|exact (Ba _ _).symm
 rintro ⟨j,m⟩ hki1
 have hki1:j<=l.length/\m=k+(AA (l.take j):Int):=hki1
 have hml:=BU k j l
 refine And.symm ⟨λ c6=>?_,λ c6=>?_⟩
 ·try simp only [nrm] at c6
  rw [hml] at c6
  refine ⟨?_,?_⟩
  ·show Value.int .i64 m=Value.int .i64 (k+(AA l:Int))
   first|exact AK (DJ (by omega) hki1.2)|exact Bn hki1.1 (by omega)
  show (AR k j l)=(AP k l)
  first|exact AK (DJ (by omega) hki1.2)|exact Bn hki1.1 (by omega)
 try simp only [nrm] at c6
 rw [hml] at c6
 have hj:j<l.length:=by omega
 have hrow:=hh2 j hj
 have hcx:=Fm hj hki1.2
 have h0m:0<=m:=by have:=J4 hki1.2;omega
 have hcb:m+(Ah (l.getD j []):Int)<=4611686018427387904:=by omega
 have e:=G8 (k:=k) (m:=m) hj
 have hk:=(IL m (l.getD j [])).symm
 have hL:=hml
 refine ao (by first|exact ixL hL hj|exact ixI hL hj|rfl|omega) λ o7=>?_
 refine ao (a:=0<=((j:Nat):Int)/\((j:Nat):Int)<((AR k j l).length:Int)) (by first|exact ixL hL hj|exact ixI hL hj|rfl|omega) λ o8=>?_
 refine ao (a:=j<(AR k j l).length) (by first|exact ixL hL hj|exact ixI hL hj|rfl|omega) λ o9=>?_
 refine ao (a:=j<(AR k j l).length) (by first|exact ixL hL hj|exact ixI hL hj|rfl|omega) λ o10=>?_
 refine ao (a:=j<(AR k j l).length) (by first|exact ixL hL hj|exact ixI hL hj|rfl|omega) λ o11=>?_
 refine ao (a:=j<(AR k j l).length) (by first|exact ixL hL hj|exact ixI hL hj|rfl|omega) λ o12=>?_
 intro R1 hR1
 have e:=mk_bool hj hrow (c:=0) rfl e hk h0m hR1
 have hk:=FM hrow (c:=0) rfl hk h0m hcb
 have hL:=mkL e
 refine ao (a:=0<=((j:Nat):Int)/\((j:Nat):Int)<(R1.length:Int)) (by first|exact ixL hL hj|exact ixI hL hj|rfl|omega) λ o14=>?_
 refine ao (a:=j<R1.length) (by first|exact ixL hL hj|exact ixI hL hj|rfl|omega) λ o15=>?_
 refine ao (a:=j<R1.length) (by first|exact ixL hL hj|exact ixI hL hj|rfl|omega) λ o16=>?_
 refine ao (a:=j<R1.length) (by first|exact ixL hL hj|exact ixI hL hj|rfl|omega) λ o17=>?_
 refine ao (a:=j<R1.length) (by first|exact ixL hL hj|exact ixI hL hj|rfl|omega) λ o18=>?_
 refine ⟨((((l.getD j []).getD 1 (.int 0)).r),(cn m (l.getD j []) 1)),by
  exact IN hj e hk,by
  show Dat.has (.sl 3 [.int]) (.sl (((l.getD j []).getD 1 (.int 0)).r))/\0<=(cn m (l.getD j []) 1)/\(cn m (l.getD j []) 1)+(AA (((l.getD j []).getD 1 (.int 0)).r):Int)<=4611686018427387904
  exact IM hrow (c:=1) rfl h0m hcb,?_⟩
 refine ao (a:=j<R1.length) (by first|exact ixL hL hj|exact ixI hL hj|rfl|omega) λ o22=>?_
 refine ao (a:=(((R1.getD j []).getD 1 (.int 0))).r=((R1.getD j []).getD 1 (.int 0)).r) (by first|exact ixL hL hj|exact ixI hL hj|rfl|omega) λ o23=>?_
 intro R2 hR2
 have e:=EH hj hrow (c:=1) rfl e hR2
 have hk:=Dy (m:=m) hrow (c:=1) rfl
 have hL:=mkL e
 refine ao (a:=0<=((j:Nat):Int)/\((j:Nat):Int)<(R2.length:Int)) (by first|exact ixL hL hj|exact ixI hL hj|rfl|omega) λ o25=>?_
 refine ao (a:=j<R2.length) (by first|exact ixL hL hj|exact ixI hL hj|rfl|omega) λ o26=>?_
 refine ao (a:=j<R2.length) (by first|exact ixL hL hj|exact ixI hL hj|rfl|omega) λ o27=>?_
 refine ao (a:=j<R2.length) (by first|exact ixL hL hj|exact ixI hL hj|rfl|omega) λ o28=>?_
 refine ⟨((((l.getD j []).getD 2 (.int 0)).r),(cn m (l.getD j []) 2)),by
  exact IN hj e hk,by
  show Dat.has (.sl 3 [.int]) (.sl (((l.getD j []).getD 2 (.int 0)).r))/\0<=(cn m (l.getD j []) 2)/\(cn m (l.getD j []) 2)+(AA (((l.getD j []).getD 2 (.int 0)).r):Int)<=4611686018427387904
  exact IM hrow (c:=2) rfl h0m hcb,?_⟩
 refine ao (a:=j<R2.length) (by first|exact ixL hL hj|exact ixI hL hj|rfl|omega) λ o32=>?_
 refine ao (a:=(((R2.getD j []).getD 2 (.int 0))).r=((R2.getD j []).getD 2 (.int 0)).r) (by first|exact ixL hL hj|exact ixI hL hj|rfl|omega) λ o33=>?_
 intro R3 hR3
 have e:=EH hj hrow (c:=2) rfl e hR3
 have hk:=Dy (m:=m) hrow (c:=2) rfl
 have hL:=mkL e
 refine ao (by first|exact ixL hL hj|exact ixI hL hj|rfl|omega) λ o35=>?_
 refine ao (a:=0<=((j:Nat):Int)/\((j:Nat):Int)<(R3.length:Int)) (by first|exact ixL hL hj|exact ixI hL hj|rfl|omega) λ o36=>?_
 refine ao (a:=j<R3.length) (by first|exact ixL hL hj|exact ixI hL hj|rfl|omega) λ o37=>?_
 refine ao (a:=j<R3.length) (by first|exact ixL hL hj|exact ixI hL hj|rfl|omega) λ o38=>?_
 refine ao (a:=j<R3.length) (by first|exact ixL hL hj|exact ixI hL hj|rfl|omega) λ o39=>?_
 refine ao (a:=j<R3.length) (by first|exact ixL hL hj|exact ixI hL hj|rfl|omega) λ o40=>?_
 intro R4 hR4
 have e:=mk_bool hj hrow (c:=3) rfl e hk h0m hR4
 have hk:=FM hrow (c:=3) rfl hk h0m hcb
 have hL:=mkL e
 refine ao (a:=0<=((j:Nat):Int)/\((j:Nat):Int)<(R4.length:Int)) (by first|exact ixL hL hj|exact ixI hL hj|rfl|omega) λ o42=>?_
 refine ao (a:=j<R4.length) (by first|exact ixL hL hj|exact ixI hL hj|rfl|omega) λ o43=>?_
 refine ao (a:=j<R4.length) (by first|exact ixL hL hj|exact ixI hL hj|rfl|omega) λ o44=>?_
 refine ao (a:=j<R4.length) (by first|exact ixL hL hj|exact ixI hL hj|rfl|omega) λ o45=>?_
 refine ao (a:=j<R4.length) (by first|exact ixL hL hj|exact ixI hL hj|rfl|omega) λ o46=>?_
 refine ⟨((((l.getD j []).getD 4 (.int 0)).r),(cn m (l.getD j []) 4)),by
  exact IN hj e hk,by
  show Dat.has (.sl 3 [.int]) (.sl (((l.getD j []).getD 4 (.int 0)).r))/\0<=(cn m (l.getD j []) 4)/\(cn m (l.getD j []) 4)+(AA (((l.getD j []).getD 4 (.int 0)).r):Int)<=4611686018427387904
  exact IM hrow (c:=4) rfl h0m hcb,?_⟩
 refine ao (a:=j<R4.length) (by first|exact ixL hL hj|exact ixI hL hj|rfl|omega) λ o50=>?_
 refine ao (a:=(((R4.getD j []).getD 4 (.int 0))).r=((R4.getD j []).getD 4 (.int 0)).r) (by first|exact ixL hL hj|exact ixI hL hj|rfl|omega) λ o51=>?_
 intro R5 hR5
 have e:=EH hj hrow (c:=4) rfl e hR5
 have hk:=Dy (m:=m) hrow (c:=4) rfl
 have hL:=mkL e
 refine ao (a:=0<=((j:Nat):Int)/\((j:Nat):Int)<(R5.length:Int)) (by first|exact ixL hL hj|exact ixI hL hj|rfl|omega) λ o53=>?_
 refine ao (a:=j<R5.length) (by first|exact ixL hL hj|exact ixI hL hj|rfl|omega) λ o54=>?_
 refine ao (a:=j<R5.length) (by first|exact ixL hL hj|exact ixI hL hj|rfl|omega) λ o55=>?_
 refine ao (a:=j<R5.length) (by first|exact ixL hL hj|exact ixI hL hj|rfl|omega) λ o56=>?_
 refine ⟨((((l.getD j []).getD 5 (.int 0)).r),(cn m (l.getD j []) 5)),by
  exact IN hj e hk,by
  show Dat.has (.sl 3 [.int]) (.sl (((l.getD j []).getD 5 (.int 0)).r))/\0<=(cn m (l.getD j []) 5)/\(cn m (l.getD j []) 5)+(AA (((l.getD j []).getD 5 (.int 0)).r):Int)<=4611686018427387904
  exact IM hrow (c:=5) rfl h0m hcb,?_⟩
 refine ao (a:=j<R5.length) (by first|exact ixL hL hj|exact ixI hL hj|rfl|omega) λ o60=>?_
 refine ao (a:=(((R5.getD j []).getD 5 (.int 0))).r=((R5.getD j []).getD 5 (.int 0)).r) (by first|exact ixL hL hj|exact ixI hL hj|rfl|omega) λ o61=>?_
 intro R6 hR6
 have e:=EH hj hrow (c:=5) rfl e hR6
 have hk:=Dy (m:=m) hrow (c:=5) rfl
 have hL:=mkL e
 refine ao (by first|exact ixL hL hj|exact ixI hL hj|rfl|omega) λ o63=>?_
 refine ao (a:=0<=((j:Nat):Int)/\((j:Nat):Int)<(R6.length:Int)) (by first|exact ixL hL hj|exact ixI hL hj|rfl|omega) λ o64=>?_
 refine ao (a:=j<R6.length) (by first|exact ixL hL hj|exact ixI hL hj|rfl|omega) λ o65=>?_
 refine ao (a:=j<R6.length) (by first|exact ixL hL hj|exact ixI hL hj|rfl|omega) λ o66=>?_
 refine ao (a:=j<R6.length) (by first|exact ixL hL hj|exact ixI hL hj|rfl|omega) λ o67=>?_
 refine ao (a:=j<R6.length) (by first|exact ixL hL hj|exact ixI hL hj|rfl|omega) λ o68=>?_
 intro R7 hR7
 have e:=mk_bool hj hrow (c:=6) rfl e hk h0m hR7
 have hk:=FM hrow (c:=6) rfl hk h0m hcb
 have hL:=mkL e
 refine ao (a:=0<=((j:Nat):Int)/\((j:Nat):Int)<(R7.length:Int)) (by first|exact ixL hL hj|exact ixI hL hj|rfl|omega) λ o70=>?_
 refine ao (a:=j<R7.length) (by first|exact ixL hL hj|exact ixI hL hj|rfl|omega) λ o71=>?_
 refine ao (a:=j<R7.length) (by first|exact ixL hL hj|exact ixI hL hj|rfl|omega) λ o72=>?_
 refine ao (a:=j<R7.length) (by first|exact ixL hL hj|exact ixI hL hj|rfl|omega) λ o73=>?_
 refine ao (a:=j<R7.length) (by first|exact ixL hL hj|exact ixI hL hj|rfl|omega) λ o74=>?_
 refine ⟨((((l.getD j []).getD 7 (.int 0)).r),(cn m (l.getD j []) 7)),by
  exact IN hj e hk,by
  show Dat.has (.sl 3 [.int]) (.sl (((l.getD j []).getD 7 (.int 0)).r))/\0<=(cn m (l.getD j []) 7)/\(cn m (l.getD j []) 7)+(AA (((l.getD j []).getD 7 (.int 0)).r):Int)<=4611686018427387904
  exact IM hrow (c:=7) rfl h0m hcb,?_⟩
 refine ao (a:=j<R7.length) (by first|exact ixL hL hj|exact ixI hL hj|rfl|omega) λ o78=>?_
 refine ao (a:=(((R7.getD j []).getD 7 (.int 0))).r=((R7.getD j []).getD 7 (.int 0)).r) (by first|exact ixL hL hj|exact ixI hL hj|rfl|omega) λ o79=>?_
 intro R8 hR8
 have e:=EH hj hrow (c:=7) rfl e hR8
 have hk:=Dy (m:=m) hrow (c:=7) rfl
 have hL:=mkL e
 refine ao (a:=0<=((j:Nat):Int)/\((j:Nat):Int)<(R8.length:Int)) (by first|exact ixL hL hj|exact ixI hL hj|rfl|omega) λ o81=>?_
 refine ao (a:=j<R8.length) (by first|exact ixL hL hj|exact ixI hL hj|rfl|omega) λ o82=>?_
 refine ao (a:=j<R8.length) (by first|exact ixL hL hj|exact ixI hL hj|rfl|omega) λ o83=>?_
 refine ao (a:=j<R8.length) (by first|exact ixL hL hj|exact ixI hL hj|rfl|omega) λ o84=>?_
 refine ⟨((((l.getD j []).getD 8 (.int 0)).r),(cn m (l.getD j []) 8)),by
  exact IN hj e hk,by
  show Dat.has (.sl 3 [.int]) (.sl (((l.getD j []).getD 8 (.int 0)).r))/\0<=(cn m (l.getD j []) 8)/\(cn m (l.getD j []) 8)+(AA (((l.getD j []).getD 8 (.int 0)).r):Int)<=4611686018427387904
  exact IM hrow (c:=8) rfl h0m hcb,?_⟩
 refine ao (a:=j<R8.length) (by first|exact ixL hL hj|exact ixI hL hj|rfl|omega) λ o88=>?_
 refine ao (a:=(((R8.getD j []).getD 8 (.int 0))).r=((R8.getD j []).getD 8 (.int 0)).r) (by first|exact ixL hL hj|exact ixI hL hj|rfl|omega) λ o89=>?_
 intro R9 hR9
 have e:=EH hj hrow (c:=8) rfl e hR9
 have hk:=Dy (m:=m) hrow (c:=8) rfl
 have hL:=mkL e
 refine ao (by first|exact ixL hL hj|exact ixI hL hj|rfl|omega) λ o91=>?_
 refine ao (a:=0<=((j:Nat):Int)/\((j:Nat):Int)<(R9.length:Int)) (by first|exact ixL hL hj|exact ixI hL hj|rfl|omega) λ o92=>?_
 refine ao (a:=j<R9.length) (by first|exact ixL hL hj|exact ixI hL hj|rfl|omega) λ o93=>?_
 refine ao (a:=j<R9.length) (by first|exact ixL hL hj|exact ixI hL hj|rfl|omega) λ o94=>?_
 refine ao (a:=j<R9.length) (by first|exact ixL hL hj|exact ixI hL hj|rfl|omega) λ o95=>?_
 refine ao (a:=j<R9.length) (by first|exact ixL hL hj|exact ixI hL hj|rfl|omega) λ o96=>?_
 intro R10 hR10
 have e:=mk_bool hj hrow (c:=9) rfl e hk h0m hR10
 have hk:=FM hrow (c:=9) rfl hk h0m hcb
 have hL:=mkL e
 refine ao (a:=0<=((j:Nat):Int)/\((j:Nat):Int)<(R10.length:Int)) (by first|exact ixL hL hj|exact ixI hL hj|rfl|omega) λ o98=>?_
 refine ao (a:=j<R10.length) (by first|exact ixL hL hj|exact ixI hL hj|rfl|omega) λ o99=>?_
 refine ao (a:=j<R10.length) (by first|exact ixL hL hj|exact ixI hL hj|rfl|omega) λ o100=>?_
 refine ao (a:=j<R10.length) (by first|exact ixL hL hj|exact ixI hL hj|rfl|omega) λ o101=>?_
 refine ao (a:=j<R10.length) (by first|exact ixL hL hj|exact ixI hL hj|rfl|omega) λ o102=>?_
 refine ⟨((((l.getD j []).getD 10 (.int 0)).r),(cn m (l.getD j []) 10)),by
  exact IN hj e hk,by
  try dsimp only [AM]
  exact IM hrow (c:=10) rfl h0m hcb,?_⟩
 refine ao (a:=j<R10.length) (by first|exact ixL hL hj|exact ixI hL hj|rfl|omega) λ o106=>?_
 refine ao (a:=(((R10.getD j []).getD 10 (.int 0))).r=((R10.getD j []).getD 10 (.int 0)).r) (by first|exact ixL hL hj|exact ixI hL hj|rfl|omega) λ o107=>?_
 intro R11 hR11
 have e:=EH hj hrow (c:=10) rfl e hR11
 have hk:=Dy (m:=m) hrow (c:=10) rfl
 have hL:=mkL e
 refine ao (a:=0<=((j:Nat):Int)/\((j:Nat):Int)<(R11.length:Int)) (by first|exact ixL hL hj|exact ixI hL hj|rfl|omega) λ o109=>?_
 refine ao (a:=j<R11.length) (by first|exact ixL hL hj|exact ixI hL hj|rfl|omega) λ o110=>?_
 refine ao (a:=j<R11.length) (by first|exact ixL hL hj|exact ixI hL hj|rfl|omega) λ o111=>?_
 refine ao (a:=j<R11.length) (by first|exact ixL hL hj|exact ixI hL hj|rfl|omega) λ o112=>?_
 refine ⟨((((l.getD j []).getD 11 (.int 0)).r),(cn m (l.getD j []) 11)),by
  exact IN hj e hk,by
  try dsimp only [AM]
  exact IM hrow (c:=11) rfl h0m hcb,?_⟩
 refine ao (a:=j<R11.length) (by first|exact ixL hL hj|exact ixI hL hj|rfl|omega) λ o116=>?_
 refine ao (a:=(((R11.getD j []).getD 11 (.int 0))).r=((R11.getD j []).getD 11 (.int 0)).r) (by first|exact ixL hL hj|exact ixI hL hj|rfl|omega) λ o117=>?_
 intro R12 hR12
 have e:=EH hj hrow (c:=11) rfl e hR12
 have hk:=Dy (m:=m) hrow (c:=11) rfl
 have hL:=mkL e
 refine ao (by first|exact ixL hL hj|exact ixI hL hj|rfl|omega) λ o119=>?_
 refine ao (a:=0<=((j:Nat):Int)/\((j:Nat):Int)<(R12.length:Int)) (by first|exact ixL hL hj|exact ixI hL hj|rfl|omega) λ o120=>?_
 refine ao (a:=j<R12.length) (by first|exact ixL hL hj|exact ixI hL hj|rfl|omega) λ o121=>?_
 refine ao (a:=j<R12.length) (by first|exact ixL hL hj|exact ixI hL hj|rfl|omega) λ o122=>?_
 refine ao (a:=j<R12.length) (by first|exact ixL hL hj|exact ixI hL hj|rfl|omega) λ o123=>?_
 refine ao (a:=j<R12.length) (by first|exact ixL hL hj|exact ixI hL hj|rfl|omega) λ o124=>?_
 intro R13 hR13
 have e:=mk_bool hj hrow (c:=12) rfl e hk h0m hR13
 have hk:=FM hrow (c:=12) rfl hk h0m hcb
 have hL:=mkL e
 refine ao (a:=0<=((j:Nat):Int)/\((j:Nat):Int)<(R13.length:Int)) (by first|exact ixL hL hj|exact ixI hL hj|rfl|omega) λ o126=>?_
 refine ao (a:=j<R13.length) (by first|exact ixL hL hj|exact ixI hL hj|rfl|omega) λ o127=>?_
 refine ao (a:=j<R13.length) (by first|exact ixL hL hj|exact ixI hL hj|rfl|omega) λ o128=>?_
 refine ao (a:=j<R13.length) (by first|exact ixL hL hj|exact ixI hL hj|rfl|omega) λ o129=>?_
 refine ao (a:=j<R13.length) (by first|exact ixL hL hj|exact ixI hL hj|rfl|omega) λ o130=>?_
 refine ⟨((((l.getD j []).getD 13 (.int 0)).r),(cn m (l.getD j []) 13)),by
  exact IN hj e hk,by
  try dsimp only [AM]
  exact IM hrow (c:=13) rfl h0m hcb,?_⟩
 refine ao (a:=j<R13.length) (by first|exact ixL hL hj|exact ixI hL hj|rfl|omega) λ o134=>?_
 refine ao (a:=(((R13.getD j []).getD 13 (.int 0))).r=((R13.getD j []).getD 13 (.int 0)).r) (by first|exact ixL hL hj|exact ixI hL hj|rfl|omega) λ o135=>?_
 intro R14 hR14
 have e:=EH hj hrow (c:=13) rfl e hR14
 have hk:=Dy (m:=m) hrow (c:=13) rfl
 have hL:=mkL e
 refine ao (a:=0<=((j:Nat):Int)/\((j:Nat):Int)<(R14.length:Int)) (by first|exact ixL hL hj|exact ixI hL hj|rfl|omega) λ o137=>?_
 refine ao (a:=j<R14.length) (by first|exact ixL hL hj|exact ixI hL hj|rfl|omega) λ o138=>?_
 refine ao (a:=j<R14.length) (by first|exact ixL hL hj|exact ixI hL hj|rfl|omega) λ o139=>?_
 refine ao (a:=j<R14.length) (by first|exact ixL hL hj|exact ixI hL hj|rfl|omega) λ o140=>?_
 refine ⟨((((l.getD j []).getD 14 (.int 0)).r),(cn m (l.getD j []) 14)),by
  exact IN hj e hk,by
  try dsimp only [AM]
  exact IM hrow (c:=14) rfl h0m hcb,?_⟩
 refine ao (a:=j<R14.length) (by first|exact ixL hL hj|exact ixI hL hj|rfl|omega) λ o144=>?_
 refine ao (a:=(((R14.getD j []).getD 14 (.int 0))).r=((R14.getD j []).getD 14 (.int 0)).r) (by first|exact ixL hL hj|exact ixI hL hj|rfl|omega) λ o145=>?_
 intro R15 hR15
 have e:=EH hj hrow (c:=14) rfl e hR15
 have hk:=Dy (m:=m) hrow (c:=14) rfl
 have hL:=mkL e
 refine ao (by first|exact ixL hL hj|exact ixI hL hj|rfl|omega) λ o147=>?_
 refine ao (a:=0<=((j:Nat):Int)/\((j:Nat):Int)<(R15.length:Int)) (by first|exact ixL hL hj|exact ixI hL hj|rfl|omega) λ o148=>?_
 refine ao (a:=j<R15.length) (by first|exact ixL hL hj|exact ixI hL hj|rfl|omega) λ o149=>?_
 refine ao (a:=j<R15.length) (by first|exact ixL hL hj|exact ixI hL hj|rfl|omega) λ o150=>?_
 refine ao (a:=j<R15.length) (by first|exact ixL hL hj|exact ixI hL hj|rfl|omega) λ o151=>?_
 refine ao (a:=j<R15.length) (by first|exact ixL hL hj|exact ixI hL hj|rfl|omega) λ o152=>?_
 intro R16 hR16
 have e:=mk_bool hj hrow (c:=15) rfl e hk h0m hR16
 have hk:=FM hrow (c:=15) rfl hk h0m hcb
 have hL:=mkL e
 refine ao (a:=0<=((j:Nat):Int)/\((j:Nat):Int)<(R16.length:Int)) (by first|exact ixL hL hj|exact ixI hL hj|rfl|omega) λ o154=>?_
 refine ao (a:=j<R16.length) (by first|exact ixL hL hj|exact ixI hL hj|rfl|omega) λ o155=>?_
 refine ao (a:=j<R16.length) (by first|exact ixL hL hj|exact ixI hL hj|rfl|omega) λ o156=>?_
 refine ao (a:=j<R16.length) (by first|exact ixL hL hj|exact ixI hL hj|rfl|omega) λ o157=>?_
 refine ao (a:=j<R16.length) (by first|exact ixL hL hj|exact ixI hL hj|rfl|omega) λ o158=>?_
 refine ⟨((((l.getD j []).getD 16 (.int 0)).r),(cn m (l.getD j []) 16)),by
  exact IN hj e hk,by
  try dsimp only [AM]
  exact IM hrow (c:=16) rfl h0m hcb,?_⟩
 refine ao (a:=j<R16.length) (by first|exact ixL hL hj|exact ixI hL hj|rfl|omega) λ o162=>?_
 refine ao (a:=(((R16.getD j []).getD 16 (.int 0))).r=((R16.getD j []).getD 16 (.int 0)).r) (by first|exact ixL hL hj|exact ixI hL hj|rfl|omega) λ o163=>?_
 intro R17 hR17
 have e:=EH hj hrow (c:=16) rfl e hR17
 have hk:=Dy (m:=m) hrow (c:=16) rfl
 have hL:=mkL e
 refine ao (a:=0<=((j:Nat):Int)/\((j:Nat):Int)<(R17.length:Int)) (by first|exact ixL hL hj|exact ixI hL hj|rfl|omega) λ o165=>?_
 refine ao (a:=j<R17.length) (by first|exact ixL hL hj|exact ixI hL hj|rfl|omega) λ o166=>?_
 refine ao (a:=j<R17.length) (by first|exact ixL hL hj|exact ixI hL hj|rfl|omega) λ o167=>?_
 refine ao (a:=j<R17.length) (by first|exact ixL hL hj|exact ixI hL hj|rfl|omega) λ o168=>?_
 refine ⟨((((l.getD j []).getD 17 (.int 0)).r),(cn m (l.getD j []) 17)),by
  exact IN hj e hk,by
  try dsimp only [AM]
  exact IM hrow (c:=17) rfl h0m hcb,?_⟩
 refine ao (a:=j<R17.length) (by first|exact ixL hL hj|exact ixI hL hj|rfl|omega) λ o172=>?_
 refine ao (a:=(((R17.getD j []).getD 17 (.int 0))).r=((R17.getD j []).getD 17 (.int 0)).r) (by first|exact ixL hL hj|exact ixI hL hj|rfl|omega) λ o173=>?_
 intro R18 hR18
 have e:=EH hj hrow (c:=17) rfl e hR18
 have hk:=Dy (m:=m) hrow (c:=17) rfl
 have hL:=mkL e
 refine ⟨(j+1,m+(Ah (l.getD j []):Int)),by
  exact ⟨hj,hcx.1⟩,by
  exact Ny hj,?_⟩
 refine ⟨?_,?_,?_⟩
 ·show Value.int .i64 ((cn m (l.getD j []) 17)+(AA (((l.getD j []).getD 17 (.int 0)).r):Int))=Value.int .i64 (m+(Ah (l.getD j []):Int))
  first|rfl|exact Co hj hrow (by decide) e hki1.2|exact AK (Dz hrow (by decide) hk)|exact AK (CX hl hj)
 ·show Value.int .i64 (IntKind.i64.wrap (((j:Nat):Int)+(1:Int)))=Value.int .i64 (((j+1):Nat):Int)
  first|rfl|exact Co hj hrow (by decide) e hki1.2|exact AK (Dz hrow (by decide) hk)|exact AK (CX hl hj)
 show R18=(AR k (j+1) l)
 first|rfl|exact Co hj hrow (by decide) e hki1.2|exact AK (Dz hrow (by decide) hk)|exact AK (CX hl hj)
def DW:Con:={ ι:=(List (List Dat))×Int,pre:=λ i=>Dat.has (.sl 168 [.int,.int]) (.sl i.1)/\0<=i.2/\i.2+(AA i.1:Int)<=4611686018427387904,args:=λ i=>[.one (DC.sl 168 [.int,.int] i.1),.one (cI i.2)],mu:=[0],new:=λ i=>[AP i.2 i.1],res:=λ i=>⟨false,[none],[rcI (i.2+(AA i.1:Int))]⟩ }
theorem P9:DW.Ok Tryz.prog 76:=by
 refine fok (X:=⟨tt,[],[],27,[]⟩) AI AF (CTok.nil _) Tryz.func76 (λ (i:(List (List Dat))×Int)=>[(2,.mk 2 (Nat×Int) (λ x1=>{ tm:=[(0,tX 1),(1,tI x1.2),(5,tI (nI x1.1))],en:=[(1,.mu 168 [.int,.int] (AR i.2 x1.1 i.1) 0)] }) (λ x1=>x1.1<=i.1.length/\x1.2=i.2+(AA (i.1.take x1.1):Int)) (λ x1=>i.1.length-x1.1) (λ _=>[]))]) ?_
 rintro ⟨l,k⟩ hpre
 have hpre:Dat.has (.sl 168 [.int,.int]) (.sl l)/\0<=k/\k+(AA l:Int)<=4611686018427387904:=hpre
 refine AH (q:=(∃ x1:Nat×Int,(x1.1<=l.length/\x1.2=k+(AA (l.take x1.1):Int))/\((vI k=vI x1.2)/\(vI (0:Int)=vI (nI x1.1))/\(l=(AR k x1.1 l))))/\∀ x1:Nat×Int,let Z1:=AR k x1.1 l;(x1.1<=l.length/\x1.2=k+(AA (l.take x1.1):Int))->(ifB ((decide ((nI x1.1)<(nI (Z1.length))))) ((0<=(nI x1.1)/\(nI x1.1)<(Z1.length:Int))/\((x1.1<Z1.length)/\((x1.1<Z1.length)/\(∀ R1:List (List Dat),R1=CT Z1 x1.1 0 (Dat.int x1.2)->((0<=(nI x1.1)/\(nI x1.1)<(R1.length:Int))/\((x1.1<R1.length)/\((x1.1<R1.length)/\(∀ R2:List (List Dat),R2=CT R1 x1.1 1 (Dat.int (wR (x1.2+(1:Int))))->(∃ y2:Nat×Int,(y2.1<=l.length/\y2.2=k+(AA (l.take y2.1):Int))/\(l.length-y2.1<l.length-x1.1)/\((vI (wR ((wR (x1.2+(1:Int)))+(1:Int)))=vI y2.2)/\(vI (wR ((nI x1.1)+(1:Int)))=vI (nI y2.1))/\(R2=(AR k y2.1 l)))))))))))) ((vI x1.2=vI (k+(AA l:Int)))/\(Z1=(AP k l))))) (by kernel_rfl) ?_
 conv=>zeta
 delta ifB vI wR nI
 obtain ⟨hh,h0,h1⟩:=hpre
 have hl:=Cr hh
 have hh2:=Bh hh
 refine ⟨⟨(0,k),by
  first|exact ⟨Nat.zero_le _,by simp [AA]⟩|exact ⟨by omega,hcx.1⟩,?_⟩,?_⟩
 ·refine ⟨rfl,?_,?_⟩
  ·show Value.int .i64 (0:Int)=Value.int .i64 ((0:Nat):Int)
   first|rfl|exact (Ba _ _).symm
  show l=(AR k 0 l)
  first|rfl|exact (Ba _ _).symm
 rintro ⟨j,m⟩ hki1
 have hki1:j<=l.length/\m=k+(AA (l.take j):Int):=hki1
 have hml:=BU k j l
 refine And.symm ⟨λ c6=>?_,λ c6=>?_⟩
 ·try simp only [nrm] at c6
  rw [hml] at c6
  refine ⟨?_,?_⟩
  ·show Value.int .i64 m=Value.int .i64 (k+(AA l:Int))
   first|exact AK (DJ (by omega) hki1.2)|exact Bn hki1.1 (by omega)
  show (AR k j l)=(AP k l)
  first|exact AK (DJ (by omega) hki1.2)|exact Bn hki1.1 (by omega)
 try simp only [nrm] at c6
 rw [hml] at c6
 have hj:j<l.length:=by omega
 have hrow:=hh2 j hj
 have hcx:=Fm hj hki1.2
 have h0m:0<=m:=by have:=J4 hki1.2;omega
 have hcb:m+(Ah (l.getD j []):Int)<=4611686018427387904:=by omega
 have e:=G8 (k:=k) (m:=m) hj
 have hk:=(IL m (l.getD j [])).symm
 have hL:=hml
 refine ao (a:=0<=((j:Nat):Int)/\((j:Nat):Int)<((AR k j l).length:Int)) (by first|exact ixL hL hj|exact ixI hL hj|rfl|omega) λ o7=>?_
 refine ao (a:=j<(AR k j l).length) (by first|exact ixL hL hj|exact ixI hL hj|rfl|omega) λ o8=>?_
 refine ao (a:=j<(AR k j l).length) (by first|exact ixL hL hj|exact ixI hL hj|rfl|omega) λ o9=>?_
 intro R1 hR1
 have e:=mk_int hj hrow (c:=0) rfl e hk hR1
 have hk:=LM hrow (c:=0) rfl hk h0m hcb
 have hL:=mkL e
 refine ao (a:=0<=((j:Nat):Int)/\((j:Nat):Int)<(R1.length:Int)) (by first|exact ixL hL hj|exact ixI hL hj|rfl|omega) λ o11=>?_
 refine ao (a:=j<R1.length) (by first|exact ixL hL hj|exact ixI hL hj|rfl|omega) λ o12=>?_
 refine ao (a:=j<R1.length) (by first|exact ixL hL hj|exact ixI hL hj|rfl|omega) λ o13=>?_
 intro R2 hR2
 have e:=mk_int hj hrow (c:=1) rfl e hk hR2
 have hk:=LM hrow (c:=1) rfl hk h0m hcb
 have hL:=mkL e
 refine ⟨(j+1,m+(Ah (l.getD j []):Int)),by
  exact ⟨hj,hcx.1⟩,by
  exact Ny hj,?_⟩
 refine ⟨?_,?_,?_⟩
 ·show Value.int .i64 (IntKind.i64.wrap ((IntKind.i64.wrap (m+(1:Int)))+(1:Int)))=Value.int .i64 (m+(Ah (l.getD j []):Int))
  first|rfl|exact Co hj hrow (by decide) e hki1.2|exact AK (Dz hrow (by decide) hk)|exact AK (CX hl hj)
 ·show Value.int .i64 (IntKind.i64.wrap (((j:Nat):Int)+(1:Int)))=Value.int .i64 (((j+1):Nat):Int)
  first|rfl|exact Co hj hrow (by decide) e hki1.2|exact AK (Dz hrow (by decide) hk)|exact AK (CX hl hj)
 show R2=(AR k (j+1) l)
 first|rfl|exact Co hj hrow (by decide) e hki1.2|exact AK (Dz hrow (by decide) hk)|exact AK (CX hl hj)
def DX:Con:={ ι:=(List Dat)×Int,pre:=λ i=>Dat.has (.sl 40 [.sl 39 [.int,.int]]) (.sl ((i.1.getD 6 (.int 0)).r))/\Dat.has (.sl 158 [.bool,.sl 3 [.int],.sl 3 [.int],.bool,.sl 3 [.int],.sl 3 [.int],.bool,.sl 3 [.int],.sl 3 [.int],.bool,.sl 3 [.int],.sl 3 [.int],.bool,.sl 3 [.int],.sl 3 [.int],.bool,.sl 3 [.int],.sl 3 [.int]]) (.sl ((i.1.getD 7 (.int 0)).r))/\Dat.has (.sl 153 [.bool,.sl 3 [.int],.sl 3 [.int],.bool,.sl 3 [.int],.sl 3 [.int],.bool,.sl 3 [.int],.sl 3 [.int]]) (.sl ((i.1.getD 8 (.int 0)).r))/\Dat.has (.sl 168 [.int,.int]) (.sl ((i.1.getD 9 (.int 0)).r))/\Dat.has (.sl 3 [.int]) (.sl ((i.1.getD 10 (.int 0)).r))/\0<=i.2/\i.2+(AA ((i.1.getD 6 (.int 0)).r):Int)+(AA ((i.1.getD 7 (.int 0)).r):Int)+(AA ((i.1.getD 8 (.int 0)).r):Int)+(AA ((i.1.getD 9 (.int 0)).r):Int)+(AA ((i.1.getD 10 (.int 0)).r):Int)<=4611686018427387904,args:=λ i=>[w50 i.1,.one (cI i.2)],mu:=[6,7,8,9,10],new:=λ i=>[AP (i.2) ((i.1.getD 6 (.int 0)).r),AP (i.2+(AA ((i.1.getD 6 (.int 0)).r):Int)) ((i.1.getD 7 (.int 0)).r),AP (i.2+(AA ((i.1.getD 6 (.int 0)).r):Int)+(AA ((i.1.getD 7 (.int 0)).r):Int)) ((i.1.getD 8 (.int 0)).r),AP (i.2+(AA ((i.1.getD 6 (.int 0)).r):Int)+(AA ((i.1.getD 7 (.int 0)).r):Int)+(AA ((i.1.getD 8 (.int 0)).r):Int)) ((i.1.getD 9 (.int 0)).r),AP (i.2+(AA ((i.1.getD 6 (.int 0)).r):Int)+(AA ((i.1.getD 7 (.int 0)).r):Int)+(AA ((i.1.getD 8 (.int 0)).r):Int)+(AA ((i.1.getD 9 (.int 0)).r):Int)) ((i.1.getD 10 (.int 0)).r)],res:=λ i=>⟨false,[none],[rcI (i.2+(AA ((i.1.getD 6 (.int 0)).r):Int)+(AA ((i.1.getD 7 (.int 0)).r):Int)+(AA ((i.1.getD 8 (.int 0)).r):Int)+(AA ((i.1.getD 9 (.int 0)).r):Int)+(AA ((i.1.getD 10 (.int 0)).r):Int))]⟩ }
theorem QA:DX.Ok Tryz.prog 18:=by
 refine fok (X:=⟨tt,[(33,Bv),(48,DV),(43,DU),(76,DW),(19,AM)],[],26,[]⟩) AI AF (CTok.cons Kg (CTok.cons P8 (CTok.cons P7 (CTok.cons P9 (CTok.cons GY (CTok.nil _)))))) Tryz.func18 (λ _=>[]) ?_
 rintro ⟨r,k⟩ hpre
 have hpre:Dat.has (.sl 40 [.sl 39 [.int,.int]]) (.sl ((r.getD 6 (.int 0)).r))/\Dat.has (.sl 158 [.bool,.sl 3 [.int],.sl 3 [.int],.bool,.sl 3 [.int],.sl 3 [.int],.bool,.sl 3 [.int],.sl 3 [.int],.bool,.sl 3 [.int],.sl 3 [.int],.bool,.sl 3 [.int],.sl 3 [.int],.bool,.sl 3 [.int],.sl 3 [.int]]) (.sl ((r.getD 7 (.int 0)).r))/\Dat.has (.sl 153 [.bool,.sl 3 [.int],.sl 3 [.int],.bool,.sl 3 [.int],.sl 3 [.int],.bool,.sl 3 [.int],.sl 3 [.int]]) (.sl ((r.getD 8 (.int 0)).r))/\Dat.has (.sl 168 [.int,.int]) (.sl ((r.getD 9 (.int 0)).r))/\Dat.has (.sl 3 [.int]) (.sl ((r.getD 10 (.int 0)).r))/\0<=k/\k+(AA ((r.getD 6 (.int 0)).r):Int)+(AA ((r.getD 7 (.int 0)).r):Int)+(AA ((r.getD 8 (.int 0)).r):Int)+(AA ((r.getD 9 (.int 0)).r):Int)+(AA ((r.getD 10 (.int 0)).r):Int)<=4611686018427387904:=hpre
 refine AH (q:=let Z8:=(r.getD 6 (.int 0)).r;let Z7:=(r.getD 7 (.int 0)).r;let Z6:=(r.getD 10 (.int 0)).r;let Z5:=List Dat;let Z4:=(r.getD 9 (.int 0)).r;let Z3:=(r.getD 8 (.int 0)).r;let Z2:=(AA Z7:Int);let Z1:=(AA Z8:Int);∃ i1:(List Z5)×Int,[DA.one (DC.sl 40 [.sl 39 [.int,.int]] Z8),DA.one (cI k)]=Bv.args i1/\Bv.pre i1/\(∀ R1:List Z5,R1=AP i1.2 i1.1->(∃ i2:(List Z5)×Int,[DA.one (DC.sl 158 E8 Z7),DA.one (cI (i1.2+(AA i1.1:Int)))]=DV.args i2/\DV.pre i2/\(∀ R2:List Z5,R2=AP i2.2 i2.1->(∃ i3:(List Z5)×Int,[DA.one (DC.sl 153 E7 Z3),DA.one (cI (i2.2+(AA i2.1:Int)))]=DU.args i3/\DU.pre i3/\(∀ R3:List Z5,R3=AP i3.2 i3.1->(∃ i4:(List Z5)×Int,[DA.one (DC.sl 168 [.int,.int] Z4),DA.one (cI (i3.2+(AA i3.1:Int)))]=DW.args i4/\DW.pre i4/\(∀ R4:List Z5,R4=AP i4.2 i4.1->(∃ i5:(List Z5)×Int,[DA.one (cS Z6),DA.one (cI (i4.2+(AA i4.1:Int)))]=AM.args i5/\AM.pre i5/\(∀ R5:List Z5,R5=AP i5.2 i5.1->((vI (i5.2+(AA i5.1:Int))=vI (k+Z1+Z2+(AA Z3:Int)+(AA Z4:Int)+(AA Z6:Int)))/\(R1=(AP (k) Z8))/\(R2=(AP (k+Z1) Z7))/\(R3=(AP (k+Z1+Z2) Z3))/\(R4=(AP (k+Z1+Z2+(AA Z3:Int)) Z4))/\(R5=(AP (k+Z1+Z2+(AA Z3:Int)+(AA Z4:Int)) Z6))))))))))))) (by kernel_rfl) ?_
 conv=>zeta
 delta vI
 obtain ⟨p6,p7,p8,p9,p10,h0,h1⟩:=hpre
 refine ⟨(((r.getD 6 (.int 0)).r),k),by
  rfl,by
  show Dat.has (.sl 40 [.sl 39 [.int,.int]]) (.sl ((r.getD 6 (.int 0)).r))/\0<=k/\k+(AA ((r.getD 6 (.int 0)).r):Int)<=4611686018427387904
  exact ⟨p6,by omega,by omega⟩,?_⟩
 intro R1 hR1
 refine ⟨(((r.getD 7 (.int 0)).r),(k+(AA ((r.getD 6 (.int 0)).r):Int))),by
  rfl,by
  try dsimp only [DV]
  exact ⟨p7,by omega,by omega⟩,?_⟩
 intro R2 hR2
 refine ⟨(((r.getD 8 (.int 0)).r),((k+(AA ((r.getD 6 (.int 0)).r):Int))+(AA ((r.getD 7 (.int 0)).r):Int))),by
  rfl,by
  try dsimp only [DU]
  exact ⟨p8,by omega,by omega⟩,?_⟩
 intro R3 hR3
 refine ⟨(((r.getD 9 (.int 0)).r),(((k+(AA ((r.getD 6 (.int 0)).r):Int))+(AA ((r.getD 7 (.int 0)).r):Int))+(AA ((r.getD 8 (.int 0)).r):Int))),by
  rfl,by
  try dsimp only [DW]
  exact ⟨p9,by omega,by omega⟩,?_⟩
 intro R4 hR4
 refine ⟨(((r.getD 10 (.int 0)).r),((((k+(AA ((r.getD 6 (.int 0)).r):Int))+(AA ((r.getD 7 (.int 0)).r):Int))+(AA ((r.getD 8 (.int 0)).r):Int))+(AA ((r.getD 9 (.int 0)).r):Int))),by
  rfl,by
  try dsimp only [AM]
  exact ⟨p10,by omega,by omega⟩,?_⟩
 intro R5 hR5
 refine ⟨?_,?_,?_,?_,?_,?_⟩
 ·show Value.int .i64 (((((k+(AA ((r.getD 6 (.int 0)).r):Int))+(AA ((r.getD 7 (.int 0)).r):Int))+(AA ((r.getD 8 (.int 0)).r):Int))+(AA ((r.getD 9 (.int 0)).r):Int))+(AA ((r.getD 10 (.int 0)).r):Int))=Value.int .i64 (k+(AA ((r.getD 6 (.int 0)).r):Int)+(AA ((r.getD 7 (.int 0)).r):Int)+(AA ((r.getD 8 (.int 0)).r):Int)+(AA ((r.getD 9 (.int 0)).r):Int)+(AA ((r.getD 10 (.int 0)).r):Int))
  first|rfl|assumption
 ·first|rfl|assumption
 ·first|rfl|assumption
 ·first|rfl|assumption
 ·first|rfl|assumption
 first|rfl|assumption
def DK:Con:={ ι:=(List (List Dat))×Int,pre:=λ i=>Dat.has (.sl 3 [.int]) (.sl i.1)/\0<=i.2/\i.2+(AA i.1:Int)<=4611686018427387904,args:=λ i=>[.one (cS (AP i.2 i.1)),.one (cI i.2)],res:=λ i=>⟨false,[none],[rcI (i.2+(AA i.1:Int))]⟩ }
theorem Rp:DK.Ok Tryz.prog 20:=by
 refine fok (X:=⟨tt,[],[],21,[]⟩) AI AF (CTok.nil _) Tryz.func20 (λ (i:(List (List Dat))×Int)=>[(2,.mk 2 (Nat×Int) (λ x1=>{ tm:=[(0,tX 1),(1,tI x1.2),(5,tI (nI x1.1))],en:=[(1,eV (AP i.2 i.1))] }) (λ x1=>x1.1<=i.1.length/\x1.2=i.2+(AA (i.1.take x1.1):Int)) (λ x1=>i.1.length-x1.1) (λ _=>[]))]) ?_
 rintro ⟨l,k⟩ hpre
 have hpre:Dat.has (.sl 3 [.int]) (.sl l)/\0<=k/\k+(AA l:Int)<=4611686018427387904:=hpre
 refine AH (q:=let Z1:=AP k l;(∃ x1:Nat×Int,(x1.1<=l.length/\x1.2=k+(AA (l.take x1.1):Int))/\((vI k=vI x1.2)/\(vI (0:Int)=vI (nI x1.1))/\(rf Z1)))/\∀ x1:Nat×Int,(x1.1<=l.length/\x1.2=k+(AA (l.take x1.1):Int))->(ifB ((decide ((nI x1.1)<(nI (Z1.length))))) ((0<=(nI x1.1)/\(nI x1.1)<(Z1.length:Int))/\((x1.1<Z1.length)/\(ifB (((((Z1.getD x1.1 []).getD 0 (.int 0))).n != x1.2)) ((vI (-1:Int)=vI (k+(AA l:Int)))) (∃ y2:Nat×Int,(y2.1<=l.length/\y2.2=k+(AA (l.take y2.1):Int))/\(l.length-y2.1<l.length-x1.1)/\((vI (wR (x1.2+(1:Int)))=vI y2.2)/\(vI (wR ((nI x1.1)+(1:Int)))=vI (nI y2.1))/\(rf Z1)))))) ((vI x1.2=vI (k+(AA l:Int)))))) (by kernel_rfl) ?_
 conv=>zeta
 delta ifB vI wR nI
 obtain ⟨hh,h0,h1⟩:=hpre
 have hl:=Cr hh
 have hh2:=Bh hh
 have hml:=DN k l
 refine ⟨⟨(0,k),by
  first|exact ⟨Nat.zero_le _,by simp [AA]⟩|exact ⟨by omega,hcx.1⟩,?_⟩,?_⟩
 ·refine ⟨rfl,?_,rfl⟩
  show Value.int .i64 (0:Int)=Value.int .i64 ((0:Nat):Int)
  rfl
 rintro ⟨j,m⟩ hki1
 have hki1:j<=l.length/\m=k+(AA (l.take j):Int):=hki1
 refine And.symm ⟨λ c6=>?_,λ c6=>?_⟩
 ·try simp only [nrm] at c6
  rw [hml] at c6
  show Value.int .i64 m=Value.int .i64 (k+(AA l:Int))
  exact AK (DJ (by omega) hki1.2)
 try simp only [nrm] at c6
 rw [hml] at c6
 have hj:j<l.length:=by omega
 have hrow:=hh2 j hj
 have hcx:=Fm hj hki1.2
 have h0m:0<=m:=by have:=J4 hki1.2;omega
 have hcb:m+(Ah (l.getD j []):Int)<=4611686018427387904:=by omega
 have hk:=(IL m (l.getD j [])).symm
 refine ao (a:=0<=((j:Nat):Int)/\((j:Nat):Int)<((AP k l).length:Int)) (by first|exact ixL hml hj|exact ixI hml hj|rfl|omega) λ o7=>?_
 refine ao (a:=j<(AP k l).length) (by first|exact ixL hml hj|exact ixI hml hj|rfl|omega) λ o8=>?_
 refine ⟨λ c9=>?_,λ c9=>?_⟩
 ·try simp only [nrm] at c9
  exact absurd (Zn hj hki1.2 hrow (c:=0) rfl hk) c9 -- done
 try simp only [nrm] at c9
 have hk:=LM hrow (c:=0) rfl hk h0m hcb
 refine ⟨(j+1,m+(Ah (l.getD j []):Int)),by
  exact ⟨hj,hcx.1⟩,by
  exact Ny hj,?_⟩
 refine ⟨?_,?_,rfl⟩
 ·show Value.int .i64 (IntKind.i64.wrap (m+(1:Int)))=Value.int .i64 (m+(Ah (l.getD j []):Int))
  first|rfl|exact AK (Dz hrow (by decide) hk)|exact AK (CX hl hj)
 show Value.int .i64 (IntKind.i64.wrap (((j:Nat):Int)+(1:Int)))=Value.int .i64 (((j+1):Nat):Int)
 first|rfl|exact AK (Dz hrow (by decide) hk)|exact AK (CX hl hj)
end Go.Proofs.YtmedodfenejimaaGreat
