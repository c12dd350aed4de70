import Derived.Test.YtmedodfenejimaaBwRkT
import Derived.Test.YtmedodfenejimaaBwMrk
namespace Go.Proofs.Ytmedodfenejimaa
set_option maxRecDepth 100000
set_option linter.unusedVariables false
set_option linter.unusedSimpArgs false
open Go.RowKit
def markIntS_con:Con:={ ι:=(List (List Dat))×Int,pre:=λ i=>Dat.has (.sl 3 [.int]) (.sl i.1)/\0<=i.2/\i.2+(cntRows i.1:Int)<=4611686018427387904,args:=λ i=>[.one (.sl 3 [.int] i.1),.one (.im (.int .i64 i.2))],mu:=[0],new:=λ i=>[mkRows i.2 i.1],res:=λ i=>⟨false,[none],[.im (Value.int .i64 (i.2+(cntRows i.1:Int)))]⟩ }
theorem markIntS_ok:markIntS_con.Ok Try.prog 12:=by
 refine fok (X:=⟨tt,[],[],19,[]⟩) mixed tt_ok (CTok.nil _) Try.func12 (λ (i:(List (List Dat))×Int)=>[(2,.mk 2 (Nat×Int) (λ x1=>{ tm:=[(0,.one (.one (.ext 1))),(1,.one (.one (.im (Value.int .i64 x1.2)))),(5,.one (.one (.im (Value.int .i64 ((x1.1:Nat):Int)))))],en:=[(1,.mu 3 [.int] (marked i.2 x1.1 i.1) 0)] }) (λ x1=>x1.1<=i.1.length/\x1.2=i.2+(cntRows (i.1.take x1.1):Int)) (λ x1=>i.1.length-x1.1) (λ _=>[]))]) ?_
 rintro ⟨l,k⟩ hpre
 have hpre:Dat.has (.sl 3 [.int]) (.sl l)/\0<=k/\k+(cntRows l:Int)<=4611686018427387904:=hpre
 refine by_nf (q:=(∃ x1:Nat×Int,(x1.1<=l.length/\x1.2=k+(cntRows (l.take x1.1):Int))/\((vI k=vI x1.2)/\(vI (0:Int)=vI (nI x1.1))/\(l=(marked k x1.1 l))))/\∀ x1:Nat×Int,(x1.1<=l.length/\x1.2=k+(cntRows (l.take x1.1):Int))->(((decide ((nI x1.1)<(nI ((marked k x1.1 l).length))))=true->((0<=(nI x1.1)/\(nI x1.1)<((marked k x1.1 l).length:Int))/\((x1.1<(marked k x1.1 l).length)/\(∀ R1:List (List Dat),R1=setC (marked k x1.1 l) x1.1 0 (Dat.int x1.2)->(∃ y2:Nat×Int,(y2.1<=l.length/\y2.2=k+(cntRows (l.take y2.1):Int))/\(l.length-y2.1<l.length-x1.1)/\((vI (wR (x1.2+(1:Int)))=vI y2.2)/\(vI (wR ((nI x1.1)+(1:Int)))=vI (nI y2.1))/\(R1=(marked k y2.1 l))))))))/\((decide ((nI x1.1)<(nI ((marked k x1.1 l).length))))=false->((vI x1.2=vI (k+(cntRows l:Int)))/\((marked k x1.1 l)=(mkRows k l)))))) (by kernel_rfl) ?_
 delta vI wR nI
 obtain ⟨hh,h0,h1⟩:=hpre
 have hl:=has_len hh
 have hh2:=has_rows hh
 refine ⟨⟨(0,k),by
  first|exact ⟨Nat.zero_le _,by simp [cntRows]⟩|exact ⟨by omega,hcx.1⟩,?_⟩,?_⟩
 ·refine ⟨rfl,?_,?_⟩
  ·show Value.int .i64 (0:Int)=Value.int .i64 ((0:Nat):Int)
   first|rfl|exact (marked_zero _ _).symm
  show l=(marked k 0 l)
  first|rfl|exact (marked_zero _ _).symm
 rintro ⟨j,m⟩ hki1
 have hki1:j<=l.length/\m=k+(cntRows (l.take j):Int):=hki1
 have hml:=marked_length k j l
 refine And.symm ⟨λ c6=>?_,λ c6=>?_⟩
 ·replace c6:(decide (((j:Nat):Int)<(((marked k j l).length:Nat):Int)))=false:=c6
  try simp only [nrm] at c6
  rw [hml] at c6
  refine ⟨?_,?_⟩
  ·show Value.int .i64 m=Value.int .i64 (k+(cntRows l:Int))
   first|exact vint (cnt_all (by omega) hki1.2)|exact marked_end hki1.1 (by omega)
  show (marked k j l)=(mkRows k l)
  first|exact vint (cnt_all (by omega) hki1.2)|exact marked_end hki1.1 (by omega)
 replace c6:(decide (((j:Nat):Int)<(((marked k j l).length:Nat):Int)))=true:=c6
 try simp only [nrm] at c6
 rw [hml] at c6
 have hj:j<l.length:=by omega
 have hrow:=hh2 j hj
 have hcx:=cnt_next hj hki1.2
 have h0m:0<=m:=by have:=cnt_ge hki1.2;omega
 have hcb:m+(cntRow (l.getD j []):Int)<=4611686018427387904:=by omega
 have e:=mkR_zero (k:=k) (m:=m) hj
 have hk:=(cn_zero m (l.getD j [])).symm
 have hL:=hml
 refine ao (a:=0<=((j:Nat):Int)/\((j:Nat):Int)<((marked k j l).length:Int)) (by first|exact ixL hL hj|exact ixI hL hj|rfl|omega) λ o7=>?_
 refine ao (a:=j<(marked k j l).length) (by first|exact ixL hL hj|exact ixI hL hj|rfl|omega) λ o8=>?_
 intro R1 hR1
 have e:=mk_int hj hrow (c:=0) rfl e hk hR1
 have hk:=nx_int hrow (c:=0) rfl hk h0m hcb
 have hL:=mkL e
 refine ⟨(j+1,m+(cntRow (l.getD j []):Int)),by
  exact ⟨hj,hcx.1⟩,by
  exact mu_lt hj,?_⟩
 refine ⟨?_,?_,?_⟩
 ·show Value.int .i64 (IntKind.i64.wrap (m+(1:Int)))=Value.int .i64 (m+(cntRow (l.getD j []):Int))
  first|rfl|exact mk_end hj hrow (by decide) e hki1.2|exact vint (k_end hrow (by decide) hk)|exact vint (wrap_j hl hj)
 ·show Value.int .i64 (IntKind.i64.wrap (((j:Nat):Int)+(1:Int)))=Value.int .i64 (((j+1):Nat):Int)
  first|rfl|exact mk_end hj hrow (by decide) e hki1.2|exact vint (k_end hrow (by decide) hk)|exact vint (wrap_j hl hj)
 show R1=(marked k (j+1) l)
 first|rfl|exact mk_end hj hrow (by decide) e hki1.2|exact vint (k_end hrow (by decide) hk)|exact vint (wrap_j hl hj)
def markVecS_con:Con:={ ι:=(List (List Dat))×Int,pre:=λ i=>Dat.has (.sl 35 [.int,.int]) (.sl i.1)/\0<=i.2/\i.2+(cntRows i.1:Int)<=4611686018427387904,args:=λ i=>[.one (.sl 35 [.int,.int] i.1),.one (.im (.int .i64 i.2))],mu:=[0],new:=λ i=>[mkRows i.2 i.1],res:=λ i=>⟨false,[none],[.im (Value.int .i64 (i.2+(cntRows i.1:Int)))]⟩ }
theorem markVecS_ok:markVecS_con.Ok Try.prog 57:=by
 refine fok (X:=⟨tt,[],[],27,[]⟩) mixed tt_ok (CTok.nil _) Try.func57 (λ (i:(List (List Dat))×Int)=>[(2,.mk 2 (Nat×Int) (λ x1=>{ tm:=[(0,.one (.one (.ext 1))),(1,.one (.one (.im (Value.int .i64 x1.2)))),(5,.one (.one (.im (Value.int .i64 ((x1.1:Nat):Int)))))],en:=[(1,.mu 35 [.int,.int] (marked i.2 x1.1 i.1) 0)] }) (λ x1=>x1.1<=i.1.length/\x1.2=i.2+(cntRows (i.1.take x1.1):Int)) (λ x1=>i.1.length-x1.1) (λ _=>[]))]) ?_
 rintro ⟨l,k⟩ hpre
 have hpre:Dat.has (.sl 35 [.int,.int]) (.sl l)/\0<=k/\k+(cntRows l:Int)<=4611686018427387904:=hpre
 refine by_nf (q:=(∃ x1:Nat×Int,(x1.1<=l.length/\x1.2=k+(cntRows (l.take x1.1):Int))/\((vI k=vI x1.2)/\(vI (0:Int)=vI (nI x1.1))/\(l=(marked k x1.1 l))))/\∀ x1:Nat×Int,(x1.1<=l.length/\x1.2=k+(cntRows (l.take x1.1):Int))->(((decide ((nI x1.1)<(nI ((marked k x1.1 l).length))))=true->((0<=(nI x1.1)/\(nI x1.1)<((marked k x1.1 l).length:Int))/\((x1.1<(marked k x1.1 l).length)/\((x1.1<(marked k x1.1 l).length)/\(∀ R1:List (List Dat),R1=setC (marked k x1.1 l) x1.1 0 (Dat.int x1.2)->((0<=(nI x1.1)/\(nI x1.1)<(R1.length:Int))/\((x1.1<R1.length)/\((x1.1<R1.length)/\(∀ R2:List (List Dat),R2=setC R1 x1.1 1 (Dat.int (wR (x1.2+(1:Int))))->(∃ y2:Nat×Int,(y2.1<=l.length/\y2.2=k+(cntRows (l.take y2.1):Int))/\(l.length-y2.1<l.length-x1.1)/\((vI (wR ((wR (x1.2+(1:Int)))+(1:Int)))=vI y2.2)/\(vI (wR ((nI x1.1)+(1:Int)))=vI (nI y2.1))/\(R2=(marked k y2.1 l)))))))))))))/\((decide ((nI x1.1)<(nI ((marked k x1.1 l).length))))=false->((vI x1.2=vI (k+(cntRows l:Int)))/\((marked k x1.1 l)=(mkRows k l)))))) (by kernel_rfl) ?_
 delta vI wR nI
 obtain ⟨hh,h0,h1⟩:=hpre
 have hl:=has_len hh
 have hh2:=has_rows hh
 refine ⟨⟨(0,k),by
  first|exact ⟨Nat.zero_le _,by simp [cntRows]⟩|exact ⟨by omega,hcx.1⟩,?_⟩,?_⟩
 ·refine ⟨rfl,?_,?_⟩
  ·show Value.int .i64 (0:Int)=Value.int .i64 ((0:Nat):Int)
   first|rfl|exact (marked_zero _ _).symm
  show l=(marked k 0 l)
  first|rfl|exact (marked_zero _ _).symm
 rintro ⟨j,m⟩ hki1
 have hki1:j<=l.length/\m=k+(cntRows (l.take j):Int):=hki1
 have hml:=marked_length k j l
 refine And.symm ⟨λ c6=>?_,λ c6=>?_⟩
 ·replace c6:(decide (((j:Nat):Int)<(((marked k j l).length:Nat):Int)))=false:=c6
  try simp only [nrm] at c6
  rw [hml] at c6
  refine ⟨?_,?_⟩
  ·show Value.int .i64 m=Value.int .i64 (k+(cntRows l:Int))
   first|exact vint (cnt_all (by omega) hki1.2)|exact marked_end hki1.1 (by omega)
  show (marked k j l)=(mkRows k l)
  first|exact vint (cnt_all (by omega) hki1.2)|exact marked_end hki1.1 (by omega)
 replace c6:(decide (((j:Nat):Int)<(((marked k j l).length:Nat):Int)))=true:=c6
 try simp only [nrm] at c6
 rw [hml] at c6
 have hj:j<l.length:=by omega
 have hrow:=hh2 j hj
 have hcx:=cnt_next hj hki1.2
 have h0m:0<=m:=by have:=cnt_ge hki1.2;omega
 have hcb:m+(cntRow (l.getD j []):Int)<=4611686018427387904:=by omega
 have e:=mkR_zero (k:=k) (m:=m) hj
 have hk:=(cn_zero m (l.getD j [])).symm
 have hL:=hml
 refine ao (a:=0<=((j:Nat):Int)/\((j:Nat):Int)<((marked k j l).length:Int)) (by first|exact ixL hL hj|exact ixI hL hj|rfl|omega) λ o7=>?_
 refine ao (a:=j<(marked k j l).length) (by first|exact ixL hL hj|exact ixI hL hj|rfl|omega) λ o8=>?_
 refine ao (a:=j<(marked k j l).length) (by first|exact ixL hL hj|exact ixI hL hj|rfl|omega) λ o9=>?_
 intro R1 hR1
 have e:=mk_int hj hrow (c:=0) rfl e hk hR1
 have hk:=nx_int hrow (c:=0) rfl hk h0m hcb
 have hL:=mkL e
 refine ao (a:=0<=((j:Nat):Int)/\((j:Nat):Int)<(R1.length:Int)) (by first|exact ixL hL hj|exact ixI hL hj|rfl|omega) λ o11=>?_
 refine ao (a:=j<R1.length) (by first|exact ixL hL hj|exact ixI hL hj|rfl|omega) λ o12=>?_
 refine ao (a:=j<R1.length) (by first|exact ixL hL hj|exact ixI hL hj|rfl|omega) λ o13=>?_
 intro R2 hR2
 have e:=mk_int hj hrow (c:=1) rfl e hk hR2
 have hk:=nx_int hrow (c:=1) rfl hk h0m hcb
 have hL:=mkL e
 refine ⟨(j+1,m+(cntRow (l.getD j []):Int)),by
  exact ⟨hj,hcx.1⟩,by
  exact mu_lt hj,?_⟩
 refine ⟨?_,?_,?_⟩
 ·show Value.int .i64 (IntKind.i64.wrap ((IntKind.i64.wrap (m+(1:Int)))+(1:Int)))=Value.int .i64 (m+(cntRow (l.getD j []):Int))
  first|rfl|exact mk_end hj hrow (by decide) e hki1.2|exact vint (k_end hrow (by decide) hk)|exact vint (wrap_j hl hj)
 ·show Value.int .i64 (IntKind.i64.wrap (((j:Nat):Int)+(1:Int)))=Value.int .i64 (((j+1):Nat):Int)
  first|rfl|exact mk_end hj hrow (by decide) e hki1.2|exact vint (k_end hrow (by decide) hk)|exact vint (wrap_j hl hj)
 show R2=(marked k (j+1) l)
 first|rfl|exact mk_end hj hrow (by decide) e hki1.2|exact vint (k_end hrow (by decide) hk)|exact vint (wrap_j hl hj)
def markVecSS_con:Con:={ ι:=(List (List Dat))×Int,pre:=λ i=>Dat.has (.sl 89 [.sl 35 [.int,.int]]) (.sl i.1)/\0<=i.2/\i.2+(cntRows i.1:Int)<=4611686018427387904,args:=λ i=>[.one (.sl 89 [.sl 35 [.int,.int]] i.1),.one (.im (.int .i64 i.2))],mu:=[0],new:=λ i=>[mkRows i.2 i.1],res:=λ i=>⟨false,[none],[.im (Value.int .i64 (i.2+(cntRows i.1:Int)))]⟩ }
theorem markVecSS_ok:markVecSS_con.Ok Try.prog 36:=by
 refine fok (X:=⟨tt,[(57,markVecS_con)],[],19,[]⟩) mixed tt_ok (CTok.cons markVecS_ok (CTok.nil _)) Try.func36 (λ (i:(List (List Dat))×Int)=>[(2,.mk 2 (Nat×Int) (λ x1=>{ tm:=[(0,.one (.one (.ext 1))),(1,.one (.one (.im (Value.int .i64 x1.2)))),(5,.one (.one (.im (Value.int .i64 ((x1.1:Nat):Int)))))],en:=[(1,.mu 89 [.sl 35 [.int,.int]] (marked i.2 x1.1 i.1) 0)] }) (λ x1=>x1.1<=i.1.length/\x1.2=i.2+(cntRows (i.1.take x1.1):Int)) (λ x1=>i.1.length-x1.1) (λ _=>[]))]) ?_
 rintro ⟨l,k⟩ hpre
 have hpre:Dat.has (.sl 89 [.sl 35 [.int,.int]]) (.sl l)/\0<=k/\k+(cntRows l:Int)<=4611686018427387904:=hpre
 refine by_nf (q:=(∃ x1:Nat×Int,(x1.1<=l.length/\x1.2=k+(cntRows (l.take x1.1):Int))/\((vI k=vI x1.2)/\(vI (0:Int)=vI (nI x1.1))/\(l=(marked k x1.1 l))))/\∀ x1:Nat×Int,(x1.1<=l.length/\x1.2=k+(cntRows (l.take x1.1):Int))->(((decide ((nI x1.1)<(nI ((marked k x1.1 l).length))))=true->((0<=(nI x1.1)/\(nI x1.1)<((marked k x1.1 l).length:Int))/\((x1.1<(marked k x1.1 l).length)/\(∃ i1:(List (List Dat))×Int,[DA.one (DC.sl 35 [.int,.int] (((((marked k x1.1 l).getD x1.1 []).getD 0 (.int 0))).r)),DA.one (cI x1.2)]=markVecS_con.args i1/\markVecS_con.pre i1/\((x1.1<(marked k x1.1 l).length)/\((((((marked k x1.1 l).getD x1.1 []).getD 0 (.int 0))).r=(((marked k x1.1 l).getD x1.1 []).getD 0 (.int 0)).r)/\(∀ R1:List (List Dat),R1=setC (marked k x1.1 l) x1.1 0 (.sl (mkRows i1.2 i1.1))->(∃ y2:Nat×Int,(y2.1<=l.length/\y2.2=k+(cntRows (l.take y2.1):Int))/\(l.length-y2.1<l.length-x1.1)/\((vI (i1.2+(cntRows i1.1:Int))=vI y2.2)/\(vI (wR ((nI x1.1)+(1:Int)))=vI (nI y2.1))/\(R1=(marked k y2.1 l)))))))))))/\((decide ((nI x1.1)<(nI ((marked k x1.1 l).length))))=false->((vI x1.2=vI (k+(cntRows l:Int)))/\((marked k x1.1 l)=(mkRows k l)))))) (by kernel_rfl) ?_
 delta vI wR nI
 obtain ⟨hh,h0,h1⟩:=hpre
 have hl:=has_len hh
 have hh2:=has_rows hh
 refine ⟨⟨(0,k),by
  first|exact ⟨Nat.zero_le _,by simp [cntRows]⟩|exact ⟨by omega,hcx.1⟩,?_⟩,?_⟩
 ·refine ⟨rfl,?_,?_⟩
  ·show Value.int .i64 (0:Int)=Value.int .i64 ((0:Nat):Int)
   first|rfl|exact (marked_zero _ _).symm
  show l=(marked k 0 l)
  first|rfl|exact (marked_zero _ _).symm
 rintro ⟨j,m⟩ hki1
 have hki1:j<=l.length/\m=k+(cntRows (l.take j):Int):=hki1
 have hml:=marked_length k j l
 refine And.symm ⟨λ c6=>?_,λ c6=>?_⟩
 ·replace c6:(decide (((j:Nat):Int)<(((marked k j l).length:Nat):Int)))=false:=c6
  try simp only [nrm] at c6
  rw [hml] at c6
  refine ⟨?_,?_⟩
  ·show Value.int .i64 m=Value.int .i64 (k+(cntRows l:Int))
   first|exact vint (cnt_all (by omega) hki1.2)|exact marked_end hki1.1 (by omega)
  show (marked k j l)=(mkRows k l)
  first|exact vint (cnt_all (by omega) hki1.2)|exact marked_end hki1.1 (by omega)
 replace c6:(decide (((j:Nat):Int)<(((marked k j l).length:Nat):Int)))=true:=c6
 try simp only [nrm] at c6
 rw [hml] at c6
 have hj:j<l.length:=by omega
 have hrow:=hh2 j hj
 have hcx:=cnt_next hj hki1.2
 have h0m:0<=m:=by have:=cnt_ge hki1.2;omega
 have hcb:m+(cntRow (l.getD j []):Int)<=4611686018427387904:=by omega
 have e:=mkR_zero (k:=k) (m:=m) hj
 have hk:=(cn_zero m (l.getD j [])).symm
 have hL:=hml
 refine ao (a:=0<=((j:Nat):Int)/\((j:Nat):Int)<((marked k j l).length:Int)) (by first|exact ixL hL hj|exact ixI hL hj|rfl|omega) λ o7=>?_
 refine ao (a:=j<(marked k j l).length) (by first|exact ixL hL hj|exact ixI hL hj|rfl|omega) λ o8=>?_
 refine ⟨((((l.getD j []).getD 0 (.int 0)).r),(cn m (l.getD j []) 0)),by
  exact a_sl hj e hk,by
  try dsimp only [markVecS_con]
  exact p_sl hrow (c:=0) rfl h0m hcb,?_⟩
 refine ao (a:=j<(marked k j l).length) (by first|exact ixL hL hj|exact ixI hL hj|rfl|omega) λ o12=>?_
 refine ao (a:=((((marked k j l).getD j []).getD 0 (.int 0))).r=(((marked k j l).getD j []).getD 0 (.int 0)).r) (by first|exact ixL hL hj|exact ixI hL hj|rfl|omega) λ o13=>?_
 intro R1 hR1
 have e:=mk_sl hj hrow (c:=0) rfl e hR1
 have hk:=nx_sl (m:=m) hrow (c:=0) rfl
 have hL:=mkL e
 refine ⟨(j+1,m+(cntRow (l.getD j []):Int)),by
  exact ⟨hj,hcx.1⟩,by
  exact mu_lt hj,?_⟩
 refine ⟨?_,?_,?_⟩
 ·show Value.int .i64 ((cn m (l.getD j []) 0)+(cntRows (((l.getD j []).getD 0 (.int 0)).r):Int))=Value.int .i64 (m+(cntRow (l.getD j []):Int))
  first|rfl|exact mk_end hj hrow (by decide) e hki1.2|exact vint (k_end hrow (by decide) hk)|exact vint (wrap_j hl hj)
 ·show Value.int .i64 (IntKind.i64.wrap (((j:Nat):Int)+(1:Int)))=Value.int .i64 (((j+1):Nat):Int)
  first|rfl|exact mk_end hj hrow (by decide) e hki1.2|exact vint (k_end hrow (by decide) hk)|exact vint (wrap_j hl hj)
 show R1=(marked k (j+1) l)
 first|rfl|exact mk_end hj hrow (by decide) e hki1.2|exact vint (k_end hrow (by decide) hk)|exact vint (wrap_j hl hj)
def markWallS_con:Con:={ ι:=(List (List Dat))×Int,pre:=λ i=>Dat.has (.sl 98 [.bool,.sl 3 [.int],.sl 3 [.int],.bool,.sl 3 [.int],.sl 3 [.int],.bool,.sl 3 [.int],.sl 3 [.int]]) (.sl i.1)/\0<=i.2/\i.2+(cntRows i.1:Int)<=4611686018427387904,args:=λ i=>[.one (.sl 98 [.bool,.sl 3 [.int],.sl 3 [.int],.bool,.sl 3 [.int],.sl 3 [.int],.bool,.sl 3 [.int],.sl 3 [.int]] i.1),.one (.im (.int .i64 i.2))],mu:=[0],new:=λ i=>[mkRows i.2 i.1],res:=λ i=>⟨false,[none],[.im (Value.int .i64 (i.2+(cntRows i.1:Int)))]⟩ }
theorem markWallS_ok:markWallS_con.Ok Try.prog 38:=by
 refine fok (X:=⟨tt,[(12,markIntS_con)],[],97,[]⟩) mixed tt_ok (CTok.cons markIntS_ok (CTok.nil _)) Try.func38 (λ (i:(List (List Dat))×Int)=>[(2,.mk 2 (Nat×Int) (λ x1=>{ tm:=[(0,.one (.one (.ext 1))),(1,.one (.one (.im (Value.int .i64 x1.2)))),(5,.one (.one (.im (Value.int .i64 ((x1.1:Nat):Int)))))],en:=[(1,.mu 98 [.bool,.sl 3 [.int],.sl 3 [.int],.bool,.sl 3 [.int],.sl 3 [.int],.bool,.sl 3 [.int],.sl 3 [.int]] (marked i.2 x1.1 i.1) 0)] }) (λ x1=>x1.1<=i.1.length/\x1.2=i.2+(cntRows (i.1.take x1.1):Int)) (λ x1=>i.1.length-x1.1) (λ _=>[]))]) ?_
 rintro ⟨l,k⟩ hpre
 have hpre:Dat.has (.sl 98 [.bool,.sl 3 [.int],.sl 3 [.int],.bool,.sl 3 [.int],.sl 3 [.int],.bool,.sl 3 [.int],.sl 3 [.int]]) (.sl l)/\0<=k/\k+(cntRows l:Int)<=4611686018427387904:=hpre
 refine by_nf (q:=(∃ x1:Nat×Int,(x1.1<=l.length/\x1.2=k+(cntRows (l.take x1.1):Int))/\((vI k=vI x1.2)/\(vI (0:Int)=vI (nI x1.1))/\(l=(marked k x1.1 l))))/\∀ x1:Nat×Int,(x1.1<=l.length/\x1.2=k+(cntRows (l.take x1.1):Int))->(((decide ((nI x1.1)<(nI ((marked k x1.1 l).length))))=true->(((3:Int)≠0)/\((0<=(nI x1.1)/\(nI x1.1)<((marked k x1.1 l).length:Int))/\((x1.1<(marked k x1.1 l).length)/\((x1.1<(marked k x1.1 l).length)/\((x1.1<(marked k x1.1 l).length)/\((x1.1<(marked k x1.1 l).length)/\(∀ R1:List (List Dat),R1=setC (marked k x1.1 l) x1.1 0 (Dat.bool ((Int.tmod x1.2 (3:Int)) == (0:Int)))->((0<=(nI x1.1)/\(nI x1.1)<(R1.length:Int))/\((x1.1<R1.length)/\((x1.1<R1.length)/\((x1.1<R1.length)/\((x1.1<R1.length)/\(∃ i2:(List (List Dat))×Int,[DA.one (cS ((((R1.getD x1.1 []).getD 1 (.int 0))).r)),DA.one (cI (wR (x1.2+(1:Int))))]=markIntS_con.args i2/\markIntS_con.pre i2/\((x1.1<R1.length)/\(((((R1.getD x1.1 []).getD 1 (.int 0))).r=((R1.getD x1.1 []).getD 1 (.int 0)).r)/\(∀ R2:List (List Dat),R2=setC R1 x1.1 1 (.sl (mkRows i2.2 i2.1))->((0<=(nI x1.1)/\(nI x1.1)<(R2.length:Int))/\((x1.1<R2.length)/\((x1.1<R2.length)/\((x1.1<R2.length)/\(∃ i3:(List (List Dat))×Int,[DA.one (cS ((((R2.getD x1.1 []).getD 2 (.int 0))).r)),DA.one (cI (i2.2+(cntRows i2.1:Int)))]=markIntS_con.args i3/\markIntS_con.pre i3/\((x1.1<R2.length)/\(((((R2.getD x1.1 []).getD 2 (.int 0))).r=((R2.getD x1.1 []).getD 2 (.int 0)).r)/\(∀ R3:List (List Dat),R3=setC R2 x1.1 2 (.sl (mkRows i3.2 i3.1))->(((3:Int)≠0)/\((0<=(nI x1.1)/\(nI x1.1)<(R3.length:Int))/\((x1.1<R3.length)/\((x1.1<R3.length)/\((x1.1<R3.length)/\((x1.1<R3.length)/\(∀ R4:List (List Dat),R4=setC R3 x1.1 3 (Dat.bool ((Int.tmod (i3.2+(cntRows i3.1:Int)) (3:Int)) == (0:Int)))->((0<=(nI x1.1)/\(nI x1.1)<(R4.length:Int))/\((x1.1<R4.length)/\((x1.1<R4.length)/\((x1.1<R4.length)/\((x1.1<R4.length)/\(∃ i5:(List (List Dat))×Int,[DA.one (cS ((((R4.getD x1.1 []).getD 4 (.int 0))).r)),DA.one (cI (wR ((i3.2+(cntRows i3.1:Int))+(1:Int))))]=markIntS_con.args i5/\markIntS_con.pre i5/\((x1.1<R4.length)/\(((((R4.getD x1.1 []).getD 4 (.int 0))).r=((R4.getD x1.1 []).getD 4 (.int 0)).r)/\(∀ R5:List (List Dat),R5=setC R4 x1.1 4 (.sl (mkRows i5.2 i5.1))->((0<=(nI x1.1)/\(nI x1.1)<(R5.length:Int))/\((x1.1<R5.length)/\((x1.1<R5.length)/\((x1.1<R5.length)/\(∃ i6:(List (List Dat))×Int,[DA.one (cS ((((R5.getD x1.1 []).getD 5 (.int 0))).r)),DA.one (cI (i5.2+(cntRows i5.1:Int)))]=markIntS_con.args i6/\markIntS_con.pre i6/\((x1.1<R5.length)/\(((((R5.getD x1.1 []).getD 5 (.int 0))).r=((R5.getD x1.1 []).getD 5 (.int 0)).r)/\(∀ R6:List (List Dat),R6=setC R5 x1.1 5 (.sl (mkRows i6.2 i6.1))->(((3:Int)≠0)/\((0<=(nI x1.1)/\(nI x1.1)<(R6.length:Int))/\((x1.1<R6.length)/\((x1.1<R6.length)/\((x1.1<R6.length)/\((x1.1<R6.length)/\(∀ R7:List (List Dat),R7=setC R6 x1.1 6 (Dat.bool ((Int.tmod (i6.2+(cntRows i6.1:Int)) (3:Int)) == (0:Int)))->((0<=(nI x1.1)/\(nI x1.1)<(R7.length:Int))/\((x1.1<R7.length)/\((x1.1<R7.length)/\((x1.1<R7.length)/\((x1.1<R7.length)/\(∃ i8:(List (List Dat))×Int,[DA.one (cS ((((R7.getD x1.1 []).getD 7 (.int 0))).r)),DA.one (cI (wR ((i6.2+(cntRows i6.1:Int))+(1:Int))))]=markIntS_con.args i8/\markIntS_con.pre i8/\((x1.1<R7.length)/\(((((R7.getD x1.1 []).getD 7 (.int 0))).r=((R7.getD x1.1 []).getD 7 (.int 0)).r)/\(∀ R8:List (List Dat),R8=setC R7 x1.1 7 (.sl (mkRows i8.2 i8.1))->((0<=(nI x1.1)/\(nI x1.1)<(R8.length:Int))/\((x1.1<R8.length)/\((x1.1<R8.length)/\((x1.1<R8.length)/\(∃ i9:(List (List Dat))×Int,[DA.one (cS ((((R8.getD x1.1 []).getD 8 (.int 0))).r)),DA.one (cI (i8.2+(cntRows i8.1:Int)))]=markIntS_con.args i9/\markIntS_con.pre i9/\((x1.1<R8.length)/\(((((R8.getD x1.1 []).getD 8 (.int 0))).r=((R8.getD x1.1 []).getD 8 (.int 0)).r)/\(∀ R9:List (List Dat),R9=setC R8 x1.1 8 (.sl (mkRows i9.2 i9.1))->(∃ y2:Nat×Int,(y2.1<=l.length/\y2.2=k+(cntRows (l.take y2.1):Int))/\(l.length-y2.1<l.length-x1.1)/\((vI (i9.2+(cntRows i9.1:Int))=vI y2.2)/\(vI (wR ((nI x1.1)+(1:Int)))=vI (nI y2.1))/\(R9=(marked k y2.1 l)))))))))))))))))))))))))))))))))))))))))))))))))))))))))))))))))))))))))))))/\((decide ((nI x1.1)<(nI ((marked k x1.1 l).length))))=false->((vI x1.2=vI (k+(cntRows l:Int)))/\((marked k x1.1 l)=(mkRows k l)))))) (by kernel_rfl) ?_
 delta vI wR nI
 obtain ⟨hh,h0,h1⟩:=hpre
 have hl:=has_len hh
 have hh2:=has_rows hh
 refine ⟨⟨(0,k),by
  first|exact ⟨Nat.zero_le _,by simp [cntRows]⟩|exact ⟨by omega,hcx.1⟩,?_⟩,?_⟩
 ·refine ⟨rfl,?_,?_⟩
  ·show Value.int .i64 (0:Int)=Value.int .i64 ((0:Nat):Int)
   first|rfl|exact (marked_zero _ _).symm
  show l=(marked k 0 l)
  first|rfl|exact (marked_zero _ _).symm
 rintro ⟨j,m⟩ hki1
 have hki1:j<=l.length/\m=k+(cntRows (l.take j):Int):=hki1
 have hml:=marked_length k j l
 refine And.symm ⟨λ c6=>?_,λ c6=>?_⟩
 ·replace c6:(decide (((j:Nat):Int)<(((marked k j l).length:Nat):Int)))=false:=c6
  try simp only [nrm] at c6
  rw [hml] at c6
  refine ⟨?_,?_⟩
  ·show Value.int .i64 m=Value.int .i64 (k+(cntRows l:Int))
   first|exact vint (cnt_all (by omega) hki1.2)|exact marked_end hki1.1 (by omega)
  show (marked k j l)=(mkRows k l)
  first|exact vint (cnt_all (by omega) hki1.2)|exact marked_end hki1.1 (by omega)
 replace c6:(decide (((j:Nat):Int)<(((marked k j l).length:Nat):Int)))=true:=c6
 try simp only [nrm] at c6
 rw [hml] at c6
 have hj:j<l.length:=by omega
 have hrow:=hh2 j hj
 have hcx:=cnt_next hj hki1.2
 have h0m:0<=m:=by have:=cnt_ge hki1.2;omega
 have hcb:m+(cntRow (l.getD j []):Int)<=4611686018427387904:=by omega
 have e:=mkR_zero (k:=k) (m:=m) hj
 have hk:=(cn_zero m (l.getD j [])).symm
 have hL:=hml
 refine ao (by first|exact ixL hL hj|exact ixI hL hj|rfl|omega) λ o7=>?_
 refine ao (a:=0<=((j:Nat):Int)/\((j:Nat):Int)<((marked k j l).length:Int)) (by first|exact ixL hL hj|exact ixI hL hj|rfl|omega) λ o8=>?_
 refine ao (a:=j<(marked k j l).length) (by first|exact ixL hL hj|exact ixI hL hj|rfl|omega) λ o9=>?_
 refine ao (a:=j<(marked k j l).length) (by first|exact ixL hL hj|exact ixI hL hj|rfl|omega) λ o10=>?_
 refine ao (a:=j<(marked k j l).length) (by first|exact ixL hL hj|exact ixI hL hj|rfl|omega) λ o11=>?_
 refine ao (a:=j<(marked k j l).length) (by first|exact ixL hL hj|exact ixI hL hj|rfl|omega) λ o12=>?_
 intro R1 hR1
 have e:=mk_bool hj hrow (c:=0) rfl e hk h0m hR1
 have hk:=nx_bool hrow (c:=0) rfl hk h0m hcb
 have hL:=mkL e
 refine ao (a:=0<=((j:Nat):Int)/\((j:Nat):Int)<(R1.length:Int)) (by first|exact ixL hL hj|exact ixI hL hj|rfl|omega) λ o14=>?_
 refine ao (a:=j<R1.length) (by first|exact ixL hL hj|exact ixI hL hj|rfl|omega) λ o15=>?_
 refine ao (a:=j<R1.length) (by first|exact ixL hL hj|exact ixI hL hj|rfl|omega) λ o16=>?_
 refine ao (a:=j<R1.length) (by first|exact ixL hL hj|exact ixI hL hj|rfl|omega) λ o17=>?_
 refine ao (a:=j<R1.length) (by first|exact ixL hL hj|exact ixI hL hj|rfl|omega) λ o18=>?_
 refine ⟨((((l.getD j []).getD 1 (.int 0)).r),(cn m (l.getD j []) 1)),by
  exact a_sl hj e hk,by
  show Dat.has (.sl 3 [.int]) (.sl (((l.getD j []).getD 1 (.int 0)).r))/\0<=(cn m (l.getD j []) 1)/\(cn m (l.getD j []) 1)+(cntRows (((l.getD j []).getD 1 (.int 0)).r):Int)<=4611686018427387904
  exact p_sl hrow (c:=1) rfl h0m hcb,?_⟩
 refine ao (a:=j<R1.length) (by first|exact ixL hL hj|exact ixI hL hj|rfl|omega) λ o22=>?_
 refine ao (a:=(((R1.getD j []).getD 1 (.int 0))).r=((R1.getD j []).getD 1 (.int 0)).r) (by first|exact ixL hL hj|exact ixI hL hj|rfl|omega) λ o23=>?_
 intro R2 hR2
 have e:=mk_sl hj hrow (c:=1) rfl e hR2
 have hk:=nx_sl (m:=m) hrow (c:=1) rfl
 have hL:=mkL e
 refine ao (a:=0<=((j:Nat):Int)/\((j:Nat):Int)<(R2.length:Int)) (by first|exact ixL hL hj|exact ixI hL hj|rfl|omega) λ o25=>?_
 refine ao (a:=j<R2.length) (by first|exact ixL hL hj|exact ixI hL hj|rfl|omega) λ o26=>?_
 refine ao (a:=j<R2.length) (by first|exact ixL hL hj|exact ixI hL hj|rfl|omega) λ o27=>?_
 refine ao (a:=j<R2.length) (by first|exact ixL hL hj|exact ixI hL hj|rfl|omega) λ o28=>?_
 refine ⟨((((l.getD j []).getD 2 (.int 0)).r),(cn m (l.getD j []) 2)),by
  exact a_sl hj e hk,by
  show Dat.has (.sl 3 [.int]) (.sl (((l.getD j []).getD 2 (.int 0)).r))/\0<=(cn m (l.getD j []) 2)/\(cn m (l.getD j []) 2)+(cntRows (((l.getD j []).getD 2 (.int 0)).r):Int)<=4611686018427387904
  exact p_sl hrow (c:=2) rfl h0m hcb,?_⟩
 refine ao (a:=j<R2.length) (by first|exact ixL hL hj|exact ixI hL hj|rfl|omega) λ o32=>?_
 refine ao (a:=(((R2.getD j []).getD 2 (.int 0))).r=((R2.getD j []).getD 2 (.int 0)).r) (by first|exact ixL hL hj|exact ixI hL hj|rfl|omega) λ o33=>?_
 intro R3 hR3
 have e:=mk_sl hj hrow (c:=2) rfl e hR3
 have hk:=nx_sl (m:=m) hrow (c:=2) rfl
 have hL:=mkL e
 refine ao (by first|exact ixL hL hj|exact ixI hL hj|rfl|omega) λ o35=>?_
 refine ao (a:=0<=((j:Nat):Int)/\((j:Nat):Int)<(R3.length:Int)) (by first|exact ixL hL hj|exact ixI hL hj|rfl|omega) λ o36=>?_
 refine ao (a:=j<R3.length) (by first|exact ixL hL hj|exact ixI hL hj|rfl|omega) λ o37=>?_
 refine ao (a:=j<R3.length) (by first|exact ixL hL hj|exact ixI hL hj|rfl|omega) λ o38=>?_
 refine ao (a:=j<R3.length) (by first|exact ixL hL hj|exact ixI hL hj|rfl|omega) λ o39=>?_
 refine ao (a:=j<R3.length) (by first|exact ixL hL hj|exact ixI hL hj|rfl|omega) λ o40=>?_
 intro R4 hR4
 have e:=mk_bool hj hrow (c:=3) rfl e hk h0m hR4
 have hk:=nx_bool hrow (c:=3) rfl hk h0m hcb
 have hL:=mkL e
 refine ao (a:=0<=((j:Nat):Int)/\((j:Nat):Int)<(R4.length:Int)) (by first|exact ixL hL hj|exact ixI hL hj|rfl|omega) λ o42=>?_
 refine ao (a:=j<R4.length) (by first|exact ixL hL hj|exact ixI hL hj|rfl|omega) λ o43=>?_
 refine ao (a:=j<R4.length) (by first|exact ixL hL hj|exact ixI hL hj|rfl|omega) λ o44=>?_
 refine ao (a:=j<R4.length) (by first|exact ixL hL hj|exact ixI hL hj|rfl|omega) λ o45=>?_
 refine ao (a:=j<R4.length) (by first|exact ixL hL hj|exact ixI hL hj|rfl|omega) λ o46=>?_
 refine ⟨((((l.getD j []).getD 4 (.int 0)).r),(cn m (l.getD j []) 4)),by
  exact a_sl hj e hk,by
  show Dat.has (.sl 3 [.int]) (.sl (((l.getD j []).getD 4 (.int 0)).r))/\0<=(cn m (l.getD j []) 4)/\(cn m (l.getD j []) 4)+(cntRows (((l.getD j []).getD 4 (.int 0)).r):Int)<=4611686018427387904
  exact p_sl hrow (c:=4) rfl h0m hcb,?_⟩
 refine ao (a:=j<R4.length) (by first|exact ixL hL hj|exact ixI hL hj|rfl|omega) λ o50=>?_
 refine ao (a:=(((R4.getD j []).getD 4 (.int 0))).r=((R4.getD j []).getD 4 (.int 0)).r) (by first|exact ixL hL hj|exact ixI hL hj|rfl|omega) λ o51=>?_
 intro R5 hR5
 have e:=mk_sl hj hrow (c:=4) rfl e hR5
 have hk:=nx_sl (m:=m) hrow (c:=4) rfl
 have hL:=mkL e
 refine ao (a:=0<=((j:Nat):Int)/\((j:Nat):Int)<(R5.length:Int)) (by first|exact ixL hL hj|exact ixI hL hj|rfl|omega) λ o53=>?_
 refine ao (a:=j<R5.length) (by first|exact ixL hL hj|exact ixI hL hj|rfl|omega) λ o54=>?_
 refine ao (a:=j<R5.length) (by first|exact ixL hL hj|exact ixI hL hj|rfl|omega) λ o55=>?_
 refine ao (a:=j<R5.length) (by first|exact ixL hL hj|exact ixI hL hj|rfl|omega) λ o56=>?_
 refine ⟨((((l.getD j []).getD 5 (.int 0)).r),(cn m (l.getD j []) 5)),by
  exact a_sl hj e hk,by
  show Dat.has (.sl 3 [.int]) (.sl (((l.getD j []).getD 5 (.int 0)).r))/\0<=(cn m (l.getD j []) 5)/\(cn m (l.getD j []) 5)+(cntRows (((l.getD j []).getD 5 (.int 0)).r):Int)<=4611686018427387904
  exact p_sl hrow (c:=5) rfl h0m hcb,?_⟩
 refine ao (a:=j<R5.length) (by first|exact ixL hL hj|exact ixI hL hj|rfl|omega) λ o60=>?_
 refine ao (a:=(((R5.getD j []).getD 5 (.int 0))).r=((R5.getD j []).getD 5 (.int 0)).r) (by first|exact ixL hL hj|exact ixI hL hj|rfl|omega) λ o61=>?_
 intro R6 hR6
 have e:=mk_sl hj hrow (c:=5) rfl e hR6
 have hk:=nx_sl (m:=m) hrow (c:=5) rfl
 have hL:=mkL e
 refine ao (by first|exact ixL hL hj|exact ixI hL hj|rfl|omega) λ o63=>?_
 refine ao (a:=0<=((j:Nat):Int)/\((j:Nat):Int)<(R6.length:Int)) (by first|exact ixL hL hj|exact ixI hL hj|rfl|omega) λ o64=>?_
 refine ao (a:=j<R6.length) (by first|exact ixL hL hj|exact ixI hL hj|rfl|omega) λ o65=>?_
 refine ao (a:=j<R6.length) (by first|exact ixL hL hj|exact ixI hL hj|rfl|omega) λ o66=>?_
 refine ao (a:=j<R6.length) (by first|exact ixL hL hj|exact ixI hL hj|rfl|omega) λ o67=>?_
 refine ao (a:=j<R6.length) (by first|exact ixL hL hj|exact ixI hL hj|rfl|omega) λ o68=>?_
 intro R7 hR7
 have e:=mk_bool hj hrow (c:=6) rfl e hk h0m hR7
 have hk:=nx_bool hrow (c:=6) rfl hk h0m hcb
 have hL:=mkL e
 refine ao (a:=0<=((j:Nat):Int)/\((j:Nat):Int)<(R7.length:Int)) (by first|exact ixL hL hj|exact ixI hL hj|rfl|omega) λ o70=>?_
 refine ao (a:=j<R7.length) (by first|exact ixL hL hj|exact ixI hL hj|rfl|omega) λ o71=>?_
 refine ao (a:=j<R7.length) (by first|exact ixL hL hj|exact ixI hL hj|rfl|omega) λ o72=>?_
 refine ao (a:=j<R7.length) (by first|exact ixL hL hj|exact ixI hL hj|rfl|omega) λ o73=>?_
 refine ao (a:=j<R7.length) (by first|exact ixL hL hj|exact ixI hL hj|rfl|omega) λ o74=>?_
 refine ⟨((((l.getD j []).getD 7 (.int 0)).r),(cn m (l.getD j []) 7)),by
  exact a_sl hj e hk,by
  show Dat.has (.sl 3 [.int]) (.sl (((l.getD j []).getD 7 (.int 0)).r))/\0<=(cn m (l.getD j []) 7)/\(cn m (l.getD j []) 7)+(cntRows (((l.getD j []).getD 7 (.int 0)).r):Int)<=4611686018427387904
  exact p_sl hrow (c:=7) rfl h0m hcb,?_⟩
 refine ao (a:=j<R7.length) (by first|exact ixL hL hj|exact ixI hL hj|rfl|omega) λ o78=>?_
 refine ao (a:=(((R7.getD j []).getD 7 (.int 0))).r=((R7.getD j []).getD 7 (.int 0)).r) (by first|exact ixL hL hj|exact ixI hL hj|rfl|omega) λ o79=>?_
 intro R8 hR8
 have e:=mk_sl hj hrow (c:=7) rfl e hR8
 have hk:=nx_sl (m:=m) hrow (c:=7) rfl
 have hL:=mkL e
 refine ao (a:=0<=((j:Nat):Int)/\((j:Nat):Int)<(R8.length:Int)) (by first|exact ixL hL hj|exact ixI hL hj|rfl|omega) λ o81=>?_
 refine ao (a:=j<R8.length) (by first|exact ixL hL hj|exact ixI hL hj|rfl|omega) λ o82=>?_
 refine ao (a:=j<R8.length) (by first|exact ixL hL hj|exact ixI hL hj|rfl|omega) λ o83=>?_
 refine ao (a:=j<R8.length) (by first|exact ixL hL hj|exact ixI hL hj|rfl|omega) λ o84=>?_
 refine ⟨((((l.getD j []).getD 8 (.int 0)).r),(cn m (l.getD j []) 8)),by
  exact a_sl hj e hk,by
  show Dat.has (.sl 3 [.int]) (.sl (((l.getD j []).getD 8 (.int 0)).r))/\0<=(cn m (l.getD j []) 8)/\(cn m (l.getD j []) 8)+(cntRows (((l.getD j []).getD 8 (.int 0)).r):Int)<=4611686018427387904
  exact p_sl hrow (c:=8) rfl h0m hcb,?_⟩
 refine ao (a:=j<R8.length) (by first|exact ixL hL hj|exact ixI hL hj|rfl|omega) λ o88=>?_
 refine ao (a:=(((R8.getD j []).getD 8 (.int 0))).r=((R8.getD j []).getD 8 (.int 0)).r) (by first|exact ixL hL hj|exact ixI hL hj|rfl|omega) λ o89=>?_
 intro R9 hR9
 have e:=mk_sl hj hrow (c:=8) rfl e hR9
 have hk:=nx_sl (m:=m) hrow (c:=8) rfl
 have hL:=mkL e
 refine ⟨(j+1,m+(cntRow (l.getD j []):Int)),by
  exact ⟨hj,hcx.1⟩,by
  exact mu_lt hj,?_⟩
 refine ⟨?_,?_,?_⟩
 ·show Value.int .i64 ((cn m (l.getD j []) 8)+(cntRows (((l.getD j []).getD 8 (.int 0)).r):Int))=Value.int .i64 (m+(cntRow (l.getD j []):Int))
  first|rfl|exact mk_end hj hrow (by decide) e hki1.2|exact vint (k_end hrow (by decide) hk)|exact vint (wrap_j hl hj)
 ·show Value.int .i64 (IntKind.i64.wrap (((j:Nat):Int)+(1:Int)))=Value.int .i64 (((j+1):Nat):Int)
  first|rfl|exact mk_end hj hrow (by decide) e hki1.2|exact vint (k_end hrow (by decide) hk)|exact vint (wrap_j hl hj)
 show R9=(marked k (j+1) l)
 first|rfl|exact mk_end hj hrow (by decide) e hki1.2|exact vint (k_end hrow (by decide) hk)|exact vint (wrap_j hl hj)
def markCellS_con:Con:={ ι:=(List (List Dat))×Int,pre:=λ i=>Dat.has (.sl 95 [.bool,.sl 3 [.int],.sl 3 [.int],.bool,.sl 3 [.int],.sl 3 [.int],.bool,.sl 3 [.int],.sl 3 [.int],.bool,.sl 3 [.int],.sl 3 [.int],.bool,.sl 3 [.int],.sl 3 [.int],.bool,.sl 3 [.int],.sl 3 [.int]]) (.sl i.1)/\0<=i.2/\i.2+(cntRows i.1:Int)<=4611686018427387904,args:=λ i=>[.one (.sl 95 [.bool,.sl 3 [.int],.sl 3 [.int],.bool,.sl 3 [.int],.sl 3 [.int],.bool,.sl 3 [.int],.sl 3 [.int],.bool,.sl 3 [.int],.sl 3 [.int],.bool,.sl 3 [.int],.sl 3 [.int],.bool,.sl 3 [.int],.sl 3 [.int]] i.1),.one (.im (.int .i64 i.2))],mu:=[0],new:=λ i=>[mkRows i.2 i.1],res:=λ i=>⟨false,[none],[.im (Value.int .i64 (i.2+(cntRows i.1:Int)))]⟩ }
set_option maxHeartbeats 1600000 in
theorem markCellS_ok:markCellS_con.Ok Try.prog 37:=by
 refine fok (X:=⟨tt,[(12,markIntS_con)],[],181,[]⟩) mixed tt_ok (CTok.cons markIntS_ok (CTok.nil _)) Try.func37 (λ (i:(List (List Dat))×Int)=>[(2,.mk 2 (Nat×Int) (λ x1=>{ tm:=[(0,.one (.one (.ext 1))),(1,.one (.one (.im (Value.int .i64 x1.2)))),(5,.one (.one (.im (Value.int .i64 ((x1.1:Nat):Int)))))],en:=[(1,.mu 95 [.bool,.sl 3 [.int],.sl 3 [.int],.bool,.sl 3 [.int],.sl 3 [.int],.bool,.sl 3 [.int],.sl 3 [.int],.bool,.sl 3 [.int],.sl 3 [.int],.bool,.sl 3 [.int],.sl 3 [.int],.bool,.sl 3 [.int],.sl 3 [.int]] (marked i.2 x1.1 i.1) 0)] }) (λ x1=>x1.1<=i.1.length/\x1.2=i.2+(cntRows (i.1.take x1.1):Int)) (λ x1=>i.1.length-x1.1) (λ _=>[]))]) ?_
 rintro ⟨l,k⟩ hpre
 have hpre:Dat.has (.sl 95 [.bool,.sl 3 [.int],.sl 3 [.int],.bool,.sl 3 [.int],.sl 3 [.int],.bool,.sl 3 [.int],.sl 3 [.int],.bool,.sl 3 [.int],.sl 3 [.int],.bool,.sl 3 [.int],.sl 3 [.int],.bool,.sl 3 [.int],.sl 3 [.int]]) (.sl l)/\0<=k/\k+(cntRows l:Int)<=4611686018427387904:=hpre
 refine by_nf (q:=(∃ x1:Nat×Int,(x1.1<=l.length/\x1.2=k+(cntRows (l.take x1.1):Int))/\((vI k=vI x1.2)/\(vI (0:Int)=vI (nI x1.1))/\(l=(marked k x1.1 l))))/\∀ x1:Nat×Int,(x1.1<=l.length/\x1.2=k+(cntRows (l.take x1.1):Int))->(((decide ((nI x1.1)<(nI ((marked k x1.1 l).length))))=true->(((3:Int)≠0)/\((0<=(nI x1.1)/\(nI x1.1)<((marked k x1.1 l).length:Int))/\((x1.1<(marked k x1.1 l).length)/\((x1.1<(marked k x1.1 l).length)/\((x1.1<(marked k x1.1 l).length)/\((x1.1<(marked k x1.1 l).length)/\(∀ R1:List (List Dat),R1=setC (marked k x1.1 l) x1.1 0 (Dat.bool ((Int.tmod x1.2 (3:Int)) == (0:Int)))->((0<=(nI x1.1)/\(nI x1.1)<(R1.length:Int))/\((x1.1<R1.length)/\((x1.1<R1.length)/\((x1.1<R1.length)/\((x1.1<R1.length)/\(∃ i2:(List (List Dat))×Int,[DA.one (cS ((((R1.getD x1.1 []).getD 1 (.int 0))).r)),DA.one (cI (wR (x1.2+(1:Int))))]=markIntS_con.args i2/\markIntS_con.pre i2/\((x1.1<R1.length)/\(((((R1.getD x1.1 []).getD 1 (.int 0))).r=((R1.getD x1.1 []).getD 1 (.int 0)).r)/\(∀ R2:List (List Dat),R2=setC R1 x1.1 1 (.sl (mkRows i2.2 i2.1))->((0<=(nI x1.1)/\(nI x1.1)<(R2.length:Int))/\((x1.1<R2.length)/\((x1.1<R2.length)/\((x1.1<R2.length)/\(∃ i3:(List (List Dat))×Int,[DA.one (cS ((((R2.getD x1.1 []).getD 2 (.int 0))).r)),DA.one (cI (i2.2+(cntRows i2.1:Int)))]=markIntS_con.args i3/\markIntS_con.pre i3/\((x1.1<R2.length)/\(((((R2.getD x1.1 []).getD 2 (.int 0))).r=((R2.getD x1.1 []).getD 2 (.int 0)).r)/\(∀ R3:List (List Dat),R3=setC R2 x1.1 2 (.sl (mkRows i3.2 i3.1))->(((3:Int)≠0)/\((0<=(nI x1.1)/\(nI x1.1)<(R3.length:Int))/\((x1.1<R3.length)/\((x1.1<R3.length)/\((x1.1<R3.length)/\((x1.1<R3.length)/\(∀ R4:List (List Dat),R4=setC R3 x1.1 3 (Dat.bool ((Int.tmod (i3.2+(cntRows i3.1:Int)) (3:Int)) == (0:Int)))->((0<=(nI x1.1)/\(nI x1.1)<(R4.length:Int))/\((x1.1<R4.length)/\((x1.1<R4.length)/\((x1.1<R4.length)/\((x1.1<R4.length)/\(∃ i5:(List (List Dat))×Int,[DA.one (cS ((((R4.getD x1.1 []).getD 4 (.int 0))).r)),DA.one (cI (wR ((i3.2+(cntRows i3.1:Int))+(1:Int))))]=markIntS_con.args i5/\markIntS_con.pre i5/\((x1.1<R4.length)/\(((((R4.getD x1.1 []).getD 4 (.int 0))).r=((R4.getD x1.1 []).getD 4 (.int 0)).r)/\(∀ R5:List (List Dat),R5=setC R4 x1.1 4 (.sl (mkRows i5.2 i5.1))->((0<=(nI x1.1)/\(nI x1.1)<(R5.length:Int))/\((x1.1<R5.length)/\((x1.1<R5.length)/\((x1.1<R5.length)/\(∃ i6:(List (List Dat))×Int,[DA.one (cS ((((R5.getD x1.1 []).getD 5 (.int 0))).r)),DA.one (cI (i5.2+(cntRows i5.1:Int)))]=markIntS_con.args i6/\markIntS_con.pre i6/\((x1.1<R5.length)/\(((((R5.getD x1.1 []).getD 5 (.int 0))).r=((R5.getD x1.1 []).getD 5 (.int 0)).r)/\(∀ R6:List (List Dat),R6=setC R5 x1.1 5 (.sl (mkRows i6.2 i6.1))->(((3:Int)≠0)/\((0<=(nI x1.1)/\(nI x1.1)<(R6.length:Int))/\((x1.1<R6.length)/\((x1.1<R6.length)/\((x1.1<R6.length)/\((x1.1<R6.length)/\(∀ R7:List (List Dat),R7=setC R6 x1.1 6 (Dat.bool ((Int.tmod (i6.2+(cntRows i6.1:Int)) (3:Int)) == (0:Int)))->((0<=(nI x1.1)/\(nI x1.1)<(R7.length:Int))/\((x1.1<R7.length)/\((x1.1<R7.length)/\((x1.1<R7.length)/\((x1.1<R7.length)/\(∃ i8:(List (List Dat))×Int,[DA.one (cS ((((R7.getD x1.1 []).getD 7 (.int 0))).r)),DA.one (cI (wR ((i6.2+(cntRows i6.1:Int))+(1:Int))))]=markIntS_con.args i8/\markIntS_con.pre i8/\((x1.1<R7.length)/\(((((R7.getD x1.1 []).getD 7 (.int 0))).r=((R7.getD x1.1 []).getD 7 (.int 0)).r)/\(∀ R8:List (List Dat),R8=setC R7 x1.1 7 (.sl (mkRows i8.2 i8.1))->((0<=(nI x1.1)/\(nI x1.1)<(R8.length:Int))/\((x1.1<R8.length)/\((x1.1<R8.length)/\((x1.1<R8.length)/\(∃ i9:(List (List Dat))×Int,[DA.one (cS ((((R8.getD x1.1 []).getD 8 (.int 0))).r)),DA.one (cI (i8.2+(cntRows i8.1:Int)))]=markIntS_con.args i9/\markIntS_con.pre i9/\((x1.1<R8.length)/\(((((R8.getD x1.1 []).getD 8 (.int 0))).r=((R8.getD x1.1 []).getD 8 (.int 0)).r)/\(∀ R9:List (List Dat),R9=setC R8 x1.1 8 (.sl (mkRows i9.2 i9.1))->(((3:Int)≠0)/\((0<=(nI x1.1)/\(nI x1.1)<(R9.length:Int))/\((x1.1<R9.length)/\((x1.1<R9.length)/\((x1.1<R9.length)/\((x1.1<R9.length)/\(∀ R10:List (List Dat),R10=setC R9 x1.1 9 (Dat.bool ((Int.tmod (i9.2+(cntRows i9.1:Int)) (3:Int)) == (0:Int)))->((0<=(nI x1.1)/\(nI x1.1)<(R10.length:Int))/\((x1.1<R10.length)/\((x1.1<R10.length)/\((x1.1<R10.length)/\((x1.1<R10.length)/\(∃ i11:(List (List Dat))×Int,[DA.one (cS ((((R10.getD x1.1 []).getD 10 (.int 0))).r)),DA.one (cI (wR ((i9.2+(cntRows i9.1:Int))+(1:Int))))]=markIntS_con.args i11/\markIntS_con.pre i11/\((x1.1<R10.length)/\(((((R10.getD x1.1 []).getD 10 (.int 0))).r=((R10.getD x1.1 []).getD 10 (.int 0)).r)/\(∀ R11:List (List Dat),R11=setC R10 x1.1 10 (.sl (mkRows i11.2 i11.1))->((0<=(nI x1.1)/\(nI x1.1)<(R11.length:Int))/\((x1.1<R11.length)/\((x1.1<R11.length)/\((x1.1<R11.length)/\(∃ i12:(List (List Dat))×Int,[DA.one (cS ((((R11.getD x1.1 []).getD 11 (.int 0))).r)),DA.one (cI (i11.2+(cntRows i11.1:Int)))]=markIntS_con.args i12/\markIntS_con.pre i12/\((x1.1<R11.length)/\(((((R11.getD x1.1 []).getD 11 (.int 0))).r=((R11.getD x1.1 []).getD 11 (.int 0)).r)/\(∀ R12:List (List Dat),R12=setC R11 x1.1 11 (.sl (mkRows i12.2 i12.1))->(((3:Int)≠0)/\((0<=(nI x1.1)/\(nI x1.1)<(R12.length:Int))/\((x1.1<R12.length)/\((x1.1<R12.length)/\((x1.1<R12.length)/\((x1.1<R12.length)/\(∀ R13:List (List Dat),R13=setC R12 x1.1 12 (Dat.bool ((Int.tmod (i12.2+(cntRows i12.1:Int)) (3:Int)) == (0:Int)))->((0<=(nI x1.1)/\(nI x1.1)<(R13.length:Int))/\((x1.1<R13.length)/\((x1.1<R13.length)/\((x1.1<R13.length)/\((x1.1<R13.length)/\(∃ i14:(List (List Dat))×Int,[DA.one (cS ((((R13.getD x1.1 []).getD 13 (.int 0))).r)),DA.one (cI (wR ((i12.2+(cntRows i12.1:Int))+(1:Int))))]=markIntS_con.args i14/\markIntS_con.pre i14/\((x1.1<R13.length)/\(((((R13.getD x1.1 []).getD 13 (.int 0))).r=((R13.getD x1.1 []).getD 13 (.int 0)).r)/\(∀ R14:List (List Dat),R14=setC R13 x1.1 13 (.sl (mkRows i14.2 i14.1))->((0<=(nI x1.1)/\(nI x1.1)<(R14.length:Int))/\((x1.1<R14.length)/\((x1.1<R14.length)/\((x1.1<R14.length)/\(∃ i15:(List (List Dat))×Int,[DA.one (cS ((((R14.getD x1.1 []).getD 14 (.int 0))).r)),DA.one (cI (i14.2+(cntRows i14.1:Int)))]=markIntS_con.args i15/\markIntS_con.pre i15/\((x1.1<R14.length)/\(((((R14.getD x1.1 []).getD 14 (.int 0))).r=((R14.getD x1.1 []).getD 14 (.int 0)).r)/\(∀ R15:List (List Dat),R15=setC R14 x1.1 14 (.sl (mkRows i15.2 i15.1))->(((3:Int)≠0)/\((0<=(nI x1.1)/\(nI x1.1)<(R15.length:Int))/\((x1.1<R15.length)/\((x1.1<R15.length)/\((x1.1<R15.length)/\((x1.1<R15.length)/\(∀ R16:List (List Dat),R16=setC R15 x1.1 15 (Dat.bool ((Int.tmod (i15.2+(cntRows i15.1:Int)) (3:Int)) == (0:Int)))->((0<=(nI x1.1)/\(nI x1.1)<(R16.length:Int))/\((x1.1<R16.length)/\((x1.1<R16.length)/\((x1.1<R16.length)/\((x1.1<R16.length)/\(∃ i17:(List (List Dat))×Int,[DA.one (cS ((((R16.getD x1.1 []).getD 16 (.int 0))).r)),DA.one (cI (wR ((i15.2+(cntRows i15.1:Int))+(1:Int))))]=markIntS_con.args i17/\markIntS_con.pre i17/\((x1.1<R16.length)/\(((((R16.getD x1.1 []).getD 16 (.int 0))).r=((R16.getD x1.1 []).getD 16 (.int 0)).r)/\(∀ R17:List (List Dat),R17=setC R16 x1.1 16 (.sl (mkRows i17.2 i17.1))->((0<=(nI x1.1)/\(nI x1.1)<(R17.length:Int))/\((x1.1<R17.length)/\((x1.1<R17.length)/\((x1.1<R17.length)/\(∃ i18:(List (List Dat))×Int,[DA.one (cS ((((R17.getD x1.1 []).getD 17 (.int 0))).r)),DA.one (cI (i17.2+(cntRows i17.1:Int)))]=markIntS_con.args i18/\markIntS_con.pre i18/\((x1.1<R17.length)/\(((((R17.getD x1.1 []).getD 17 (.int 0))).r=((R17.getD x1.1 []).getD 17 (.int 0)).r)/\(∀ R18:List (List Dat),R18=setC R17 x1.1 17 (.sl (mkRows i18.2 i18.1))->(∃ y2:Nat×Int,(y2.1<=l.length/\y2.2=k+(cntRows (l.take y2.1):Int))/\(l.length-y2.1<l.length-x1.1)/\((vI (i18.2+(cntRows i18.1:Int))=vI y2.2)/\(vI (wR ((nI x1.1)+(1:Int)))=vI (nI y2.1))/\(R18=(marked k y2.1 l)))))))))))))))))))))))))))))))))))))))))))))))))))))))))))))))))))))))))))))))))))))))))))))))))))))))))))))))))))))))))))))))))))))))))))))))))))))/\((decide ((nI x1.1)<(nI ((marked k x1.1 l).length))))=false->((vI x1.2=vI (k+(cntRows l:Int)))/\((marked k x1.1 l)=(mkRows k l)))))) (by kernel_rfl) ?_
 delta vI wR nI
 obtain ⟨hh,h0,h1⟩:=hpre
 have hl:=has_len hh
 have hh2:=has_rows hh
 refine ⟨⟨(0,k),by
  first|exact ⟨Nat.zero_le _,by simp [cntRows]⟩|exact ⟨by omega,hcx.1⟩,?_⟩,?_⟩
 ·refine ⟨rfl,?_,?_⟩
  ·show Value.int .i64 (0:Int)=Value.int .i64 ((0:Nat):Int)
   first|rfl|exact (marked_zero _ _).symm
  show l=(marked k 0 l)
  first|rfl|exact (marked_zero _ _).symm
 rintro ⟨j,m⟩ hki1
 have hki1:j<=l.length/\m=k+(cntRows (l.take j):Int):=hki1
 have hml:=marked_length k j l
 refine And.symm ⟨λ c6=>?_,λ c6=>?_⟩
 ·replace c6:(decide (((j:Nat):Int)<(((marked k j l).length:Nat):Int)))=false:=c6
  try simp only [nrm] at c6
  rw [hml] at c6
  refine ⟨?_,?_⟩
  ·show Value.int .i64 m=Value.int .i64 (k+(cntRows l:Int))
   first|exact vint (cnt_all (by omega) hki1.2)|exact marked_end hki1.1 (by omega)
  show (marked k j l)=(mkRows k l)
  first|exact vint (cnt_all (by omega) hki1.2)|exact marked_end hki1.1 (by omega)
 replace c6:(decide (((j:Nat):Int)<(((marked k j l).length:Nat):Int)))=true:=c6
 try simp only [nrm] at c6
 rw [hml] at c6
 have hj:j<l.length:=by omega
 have hrow:=hh2 j hj
 have hcx:=cnt_next hj hki1.2
 have h0m:0<=m:=by have:=cnt_ge hki1.2;omega
 have hcb:m+(cntRow (l.getD j []):Int)<=4611686018427387904:=by omega
 have e:=mkR_zero (k:=k) (m:=m) hj
 have hk:=(cn_zero m (l.getD j [])).symm
 have hL:=hml
 refine ao (by first|exact ixL hL hj|exact ixI hL hj|rfl|omega) λ o7=>?_
 refine ao (a:=0<=((j:Nat):Int)/\((j:Nat):Int)<((marked k j l).length:Int)) (by first|exact ixL hL hj|exact ixI hL hj|rfl|omega) λ o8=>?_
 refine ao (a:=j<(marked k j l).length) (by first|exact ixL hL hj|exact ixI hL hj|rfl|omega) λ o9=>?_
 refine ao (a:=j<(marked k j l).length) (by first|exact ixL hL hj|exact ixI hL hj|rfl|omega) λ o10=>?_
 refine ao (a:=j<(marked k j l).length) (by first|exact ixL hL hj|exact ixI hL hj|rfl|omega) λ o11=>?_
 refine ao (a:=j<(marked k j l).length) (by first|exact ixL hL hj|exact ixI hL hj|rfl|omega) λ o12=>?_
 intro R1 hR1
 have e:=mk_bool hj hrow (c:=0) rfl e hk h0m hR1
 have hk:=nx_bool hrow (c:=0) rfl hk h0m hcb
 have hL:=mkL e
 refine ao (a:=0<=((j:Nat):Int)/\((j:Nat):Int)<(R1.length:Int)) (by first|exact ixL hL hj|exact ixI hL hj|rfl|omega) λ o14=>?_
 refine ao (a:=j<R1.length) (by first|exact ixL hL hj|exact ixI hL hj|rfl|omega) λ o15=>?_
 refine ao (a:=j<R1.length) (by first|exact ixL hL hj|exact ixI hL hj|rfl|omega) λ o16=>?_
 refine ao (a:=j<R1.length) (by first|exact ixL hL hj|exact ixI hL hj|rfl|omega) λ o17=>?_
 refine ao (a:=j<R1.length) (by first|exact ixL hL hj|exact ixI hL hj|rfl|omega) λ o18=>?_
 refine ⟨((((l.getD j []).getD 1 (.int 0)).r),(cn m (l.getD j []) 1)),by
  exact a_sl hj e hk,by
  show Dat.has (.sl 3 [.int]) (.sl (((l.getD j []).getD 1 (.int 0)).r))/\0<=(cn m (l.getD j []) 1)/\(cn m (l.getD j []) 1)+(cntRows (((l.getD j []).getD 1 (.int 0)).r):Int)<=4611686018427387904
  exact p_sl hrow (c:=1) rfl h0m hcb,?_⟩
 refine ao (a:=j<R1.length) (by first|exact ixL hL hj|exact ixI hL hj|rfl|omega) λ o22=>?_
 refine ao (a:=(((R1.getD j []).getD 1 (.int 0))).r=((R1.getD j []).getD 1 (.int 0)).r) (by first|exact ixL hL hj|exact ixI hL hj|rfl|omega) λ o23=>?_
 intro R2 hR2
 have e:=mk_sl hj hrow (c:=1) rfl e hR2
 have hk:=nx_sl (m:=m) hrow (c:=1) rfl
 have hL:=mkL e
 refine ao (a:=0<=((j:Nat):Int)/\((j:Nat):Int)<(R2.length:Int)) (by first|exact ixL hL hj|exact ixI hL hj|rfl|omega) λ o25=>?_
 refine ao (a:=j<R2.length) (by first|exact ixL hL hj|exact ixI hL hj|rfl|omega) λ o26=>?_
 refine ao (a:=j<R2.length) (by first|exact ixL hL hj|exact ixI hL hj|rfl|omega) λ o27=>?_
 refine ao (a:=j<R2.length) (by first|exact ixL hL hj|exact ixI hL hj|rfl|omega) λ o28=>?_
 refine ⟨((((l.getD j []).getD 2 (.int 0)).r),(cn m (l.getD j []) 2)),by
  exact a_sl hj e hk,by
  show Dat.has (.sl 3 [.int]) (.sl (((l.getD j []).getD 2 (.int 0)).r))/\0<=(cn m (l.getD j []) 2)/\(cn m (l.getD j []) 2)+(cntRows (((l.getD j []).getD 2 (.int 0)).r):Int)<=4611686018427387904
  exact p_sl hrow (c:=2) rfl h0m hcb,?_⟩
 refine ao (a:=j<R2.length) (by first|exact ixL hL hj|exact ixI hL hj|rfl|omega) λ o32=>?_
 refine ao (a:=(((R2.getD j []).getD 2 (.int 0))).r=((R2.getD j []).getD 2 (.int 0)).r) (by first|exact ixL hL hj|exact ixI hL hj|rfl|omega) λ o33=>?_
 intro R3 hR3
 have e:=mk_sl hj hrow (c:=2) rfl e hR3
 have hk:=nx_sl (m:=m) hrow (c:=2) rfl
 have hL:=mkL e
 refine ao (by first|exact ixL hL hj|exact ixI hL hj|rfl|omega) λ o35=>?_
 refine ao (a:=0<=((j:Nat):Int)/\((j:Nat):Int)<(R3.length:Int)) (by first|exact ixL hL hj|exact ixI hL hj|rfl|omega) λ o36=>?_
 refine ao (a:=j<R3.length) (by first|exact ixL hL hj|exact ixI hL hj|rfl|omega) λ o37=>?_
 refine ao (a:=j<R3.length) (by first|exact ixL hL hj|exact ixI hL hj|rfl|omega) λ o38=>?_
 refine ao (a:=j<R3.length) (by first|exact ixL hL hj|exact ixI hL hj|rfl|omega) λ o39=>?_
 refine ao (a:=j<R3.length) (by first|exact ixL hL hj|exact ixI hL hj|rfl|omega) λ o40=>?_
 intro R4 hR4
 have e:=mk_bool hj hrow (c:=3) rfl e hk h0m hR4
 have hk:=nx_bool hrow (c:=3) rfl hk h0m hcb
 have hL:=mkL e
 refine ao (a:=0<=((j:Nat):Int)/\((j:Nat):Int)<(R4.length:Int)) (by first|exact ixL hL hj|exact ixI hL hj|rfl|omega) λ o42=>?_
 refine ao (a:=j<R4.length) (by first|exact ixL hL hj|exact ixI hL hj|rfl|omega) λ o43=>?_
 refine ao (a:=j<R4.length) (by first|exact ixL hL hj|exact ixI hL hj|rfl|omega) λ o44=>?_
 refine ao (a:=j<R4.length) (by first|exact ixL hL hj|exact ixI hL hj|rfl|omega) λ o45=>?_
 refine ao (a:=j<R4.length) (by first|exact ixL hL hj|exact ixI hL hj|rfl|omega) λ o46=>?_
 refine ⟨((((l.getD j []).getD 4 (.int 0)).r),(cn m (l.getD j []) 4)),by
  exact a_sl hj e hk,by
  show Dat.has (.sl 3 [.int]) (.sl (((l.getD j []).getD 4 (.int 0)).r))/\0<=(cn m (l.getD j []) 4)/\(cn m (l.getD j []) 4)+(cntRows (((l.getD j []).getD 4 (.int 0)).r):Int)<=4611686018427387904
  exact p_sl hrow (c:=4) rfl h0m hcb,?_⟩
 refine ao (a:=j<R4.length) (by first|exact ixL hL hj|exact ixI hL hj|rfl|omega) λ o50=>?_
 refine ao (a:=(((R4.getD j []).getD 4 (.int 0))).r=((R4.getD j []).getD 4 (.int 0)).r) (by first|exact ixL hL hj|exact ixI hL hj|rfl|omega) λ o51=>?_
 intro R5 hR5
 have e:=mk_sl hj hrow (c:=4) rfl e hR5
 have hk:=nx_sl (m:=m) hrow (c:=4) rfl
 have hL:=mkL e
 refine ao (a:=0<=((j:Nat):Int)/\((j:Nat):Int)<(R5.length:Int)) (by first|exact ixL hL hj|exact ixI hL hj|rfl|omega) λ o53=>?_
 refine ao (a:=j<R5.length) (by first|exact ixL hL hj|exact ixI hL hj|rfl|omega) λ o54=>?_
 refine ao (a:=j<R5.length) (by first|exact ixL hL hj|exact ixI hL hj|rfl|omega) λ o55=>?_
 refine ao (a:=j<R5.length) (by first|exact ixL hL hj|exact ixI hL hj|rfl|omega) λ o56=>?_
 refine ⟨((((l.getD j []).getD 5 (.int 0)).r),(cn m (l.getD j []) 5)),by
  exact a_sl hj e hk,by
  show Dat.has (.sl 3 [.int]) (.sl (((l.getD j []).getD 5 (.int 0)).r))/\0<=(cn m (l.getD j []) 5)/\(cn m (l.getD j []) 5)+(cntRows (((l.getD j []).getD 5 (.int 0)).r):Int)<=4611686018427387904
  exact p_sl hrow (c:=5) rfl h0m hcb,?_⟩
 refine ao (a:=j<R5.length) (by first|exact ixL hL hj|exact ixI hL hj|rfl|omega) λ o60=>?_
 refine ao (a:=(((R5.getD j []).getD 5 (.int 0))).r=((R5.getD j []).getD 5 (.int 0)).r) (by first|exact ixL hL hj|exact ixI hL hj|rfl|omega) λ o61=>?_
 intro R6 hR6
 have e:=mk_sl hj hrow (c:=5) rfl e hR6
 have hk:=nx_sl (m:=m) hrow (c:=5) rfl
 have hL:=mkL e
 refine ao (by first|exact ixL hL hj|exact ixI hL hj|rfl|omega) λ o63=>?_
 refine ao (a:=0<=((j:Nat):Int)/\((j:Nat):Int)<(R6.length:Int)) (by first|exact ixL hL hj|exact ixI hL hj|rfl|omega) λ o64=>?_
 refine ao (a:=j<R6.length) (by first|exact ixL hL hj|exact ixI hL hj|rfl|omega) λ o65=>?_
 refine ao (a:=j<R6.length) (by first|exact ixL hL hj|exact ixI hL hj|rfl|omega) λ o66=>?_
 refine ao (a:=j<R6.length) (by first|exact ixL hL hj|exact ixI hL hj|rfl|omega) λ o67=>?_
 refine ao (a:=j<R6.length) (by first|exact ixL hL hj|exact ixI hL hj|rfl|omega) λ o68=>?_
 intro R7 hR7
 have e:=mk_bool hj hrow (c:=6) rfl e hk h0m hR7
 have hk:=nx_bool hrow (c:=6) rfl hk h0m hcb
 have hL:=mkL e
 refine ao (a:=0<=((j:Nat):Int)/\((j:Nat):Int)<(R7.length:Int)) (by first|exact ixL hL hj|exact ixI hL hj|rfl|omega) λ o70=>?_
 refine ao (a:=j<R7.length) (by first|exact ixL hL hj|exact ixI hL hj|rfl|omega) λ o71=>?_
 refine ao (a:=j<R7.length) (by first|exact ixL hL hj|exact ixI hL hj|rfl|omega) λ o72=>?_
 refine ao (a:=j<R7.length) (by first|exact ixL hL hj|exact ixI hL hj|rfl|omega) λ o73=>?_
 refine ao (a:=j<R7.length) (by first|exact ixL hL hj|exact ixI hL hj|rfl|omega) λ o74=>?_
 refine ⟨((((l.getD j []).getD 7 (.int 0)).r),(cn m (l.getD j []) 7)),by
  exact a_sl hj e hk,by
  show Dat.has (.sl 3 [.int]) (.sl (((l.getD j []).getD 7 (.int 0)).r))/\0<=(cn m (l.getD j []) 7)/\(cn m (l.getD j []) 7)+(cntRows (((l.getD j []).getD 7 (.int 0)).r):Int)<=4611686018427387904
  exact p_sl hrow (c:=7) rfl h0m hcb,?_⟩
 refine ao (a:=j<R7.length) (by first|exact ixL hL hj|exact ixI hL hj|rfl|omega) λ o78=>?_
 refine ao (a:=(((R7.getD j []).getD 7 (.int 0))).r=((R7.getD j []).getD 7 (.int 0)).r) (by first|exact ixL hL hj|exact ixI hL hj|rfl|omega) λ o79=>?_
 intro R8 hR8
 have e:=mk_sl hj hrow (c:=7) rfl e hR8
 have hk:=nx_sl (m:=m) hrow (c:=7) rfl
 have hL:=mkL e
 refine ao (a:=0<=((j:Nat):Int)/\((j:Nat):Int)<(R8.length:Int)) (by first|exact ixL hL hj|exact ixI hL hj|rfl|omega) λ o81=>?_
 refine ao (a:=j<R8.length) (by first|exact ixL hL hj|exact ixI hL hj|rfl|omega) λ o82=>?_
 refine ao (a:=j<R8.length) (by first|exact ixL hL hj|exact ixI hL hj|rfl|omega) λ o83=>?_
 refine ao (a:=j<R8.length) (by first|exact ixL hL hj|exact ixI hL hj|rfl|omega) λ o84=>?_
 refine ⟨((((l.getD j []).getD 8 (.int 0)).r),(cn m (l.getD j []) 8)),by
  exact a_sl hj e hk,by
  show Dat.has (.sl 3 [.int]) (.sl (((l.getD j []).getD 8 (.int 0)).r))/\0<=(cn m (l.getD j []) 8)/\(cn m (l.getD j []) 8)+(cntRows (((l.getD j []).getD 8 (.int 0)).r):Int)<=4611686018427387904
  exact p_sl hrow (c:=8) rfl h0m hcb,?_⟩
 refine ao (a:=j<R8.length) (by first|exact ixL hL hj|exact ixI hL hj|rfl|omega) λ o88=>?_
 refine ao (a:=(((R8.getD j []).getD 8 (.int 0))).r=((R8.getD j []).getD 8 (.int 0)).r) (by first|exact ixL hL hj|exact ixI hL hj|rfl|omega) λ o89=>?_
 intro R9 hR9
 have e:=mk_sl hj hrow (c:=8) rfl e hR9
 have hk:=nx_sl (m:=m) hrow (c:=8) rfl
 have hL:=mkL e
 refine ao (by first|exact ixL hL hj|exact ixI hL hj|rfl|omega) λ o91=>?_
 refine ao (a:=0<=((j:Nat):Int)/\((j:Nat):Int)<(R9.length:Int)) (by first|exact ixL hL hj|exact ixI hL hj|rfl|omega) λ o92=>?_
 refine ao (a:=j<R9.length) (by first|exact ixL hL hj|exact ixI hL hj|rfl|omega) λ o93=>?_
 refine ao (a:=j<R9.length) (by first|exact ixL hL hj|exact ixI hL hj|rfl|omega) λ o94=>?_
 refine ao (a:=j<R9.length) (by first|exact ixL hL hj|exact ixI hL hj|rfl|omega) λ o95=>?_
 refine ao (a:=j<R9.length) (by first|exact ixL hL hj|exact ixI hL hj|rfl|omega) λ o96=>?_
 intro R10 hR10
 have e:=mk_bool hj hrow (c:=9) rfl e hk h0m hR10
 have hk:=nx_bool hrow (c:=9) rfl hk h0m hcb
 have hL:=mkL e
 refine ao (a:=0<=((j:Nat):Int)/\((j:Nat):Int)<(R10.length:Int)) (by first|exact ixL hL hj|exact ixI hL hj|rfl|omega) λ o98=>?_
 refine ao (a:=j<R10.length) (by first|exact ixL hL hj|exact ixI hL hj|rfl|omega) λ o99=>?_
 refine ao (a:=j<R10.length) (by first|exact ixL hL hj|exact ixI hL hj|rfl|omega) λ o100=>?_
 refine ao (a:=j<R10.length) (by first|exact ixL hL hj|exact ixI hL hj|rfl|omega) λ o101=>?_
 refine ao (a:=j<R10.length) (by first|exact ixL hL hj|exact ixI hL hj|rfl|omega) λ o102=>?_
 refine ⟨((((l.getD j []).getD 10 (.int 0)).r),(cn m (l.getD j []) 10)),by
  exact a_sl hj e hk,by
  try dsimp only [markIntS_con]
  exact p_sl hrow (c:=10) rfl h0m hcb,?_⟩
 refine ao (a:=j<R10.length) (by first|exact ixL hL hj|exact ixI hL hj|rfl|omega) λ o106=>?_
 refine ao (a:=(((R10.getD j []).getD 10 (.int 0))).r=((R10.getD j []).getD 10 (.int 0)).r) (by first|exact ixL hL hj|exact ixI hL hj|rfl|omega) λ o107=>?_
 intro R11 hR11
 have e:=mk_sl hj hrow (c:=10) rfl e hR11
 have hk:=nx_sl (m:=m) hrow (c:=10) rfl
 have hL:=mkL e
 refine ao (a:=0<=((j:Nat):Int)/\((j:Nat):Int)<(R11.length:Int)) (by first|exact ixL hL hj|exact ixI hL hj|rfl|omega) λ o109=>?_
 refine ao (a:=j<R11.length) (by first|exact ixL hL hj|exact ixI hL hj|rfl|omega) λ o110=>?_
 refine ao (a:=j<R11.length) (by first|exact ixL hL hj|exact ixI hL hj|rfl|omega) λ o111=>?_
 refine ao (a:=j<R11.length) (by first|exact ixL hL hj|exact ixI hL hj|rfl|omega) λ o112=>?_
 refine ⟨((((l.getD j []).getD 11 (.int 0)).r),(cn m (l.getD j []) 11)),by
  exact a_sl hj e hk,by
  try dsimp only [markIntS_con]
  exact p_sl hrow (c:=11) rfl h0m hcb,?_⟩
 refine ao (a:=j<R11.length) (by first|exact ixL hL hj|exact ixI hL hj|rfl|omega) λ o116=>?_
 refine ao (a:=(((R11.getD j []).getD 11 (.int 0))).r=((R11.getD j []).getD 11 (.int 0)).r) (by first|exact ixL hL hj|exact ixI hL hj|rfl|omega) λ o117=>?_
 intro R12 hR12
 have e:=mk_sl hj hrow (c:=11) rfl e hR12
 have hk:=nx_sl (m:=m) hrow (c:=11) rfl
 have hL:=mkL e
 refine ao (by first|exact ixL hL hj|exact ixI hL hj|rfl|omega) λ o119=>?_
 refine ao (a:=0<=((j:Nat):Int)/\((j:Nat):Int)<(R12.length:Int)) (by first|exact ixL hL hj|exact ixI hL hj|rfl|omega) λ o120=>?_
 refine ao (a:=j<R12.length) (by first|exact ixL hL hj|exact ixI hL hj|rfl|omega) λ o121=>?_
 refine ao (a:=j<R12.length) (by first|exact ixL hL hj|exact ixI hL hj|rfl|omega) λ o122=>?_
 refine ao (a:=j<R12.length) (by first|exact ixL hL hj|exact ixI hL hj|rfl|omega) λ o123=>?_
 refine ao (a:=j<R12.length) (by first|exact ixL hL hj|exact ixI hL hj|rfl|omega) λ o124=>?_
 intro R13 hR13
 have e:=mk_bool hj hrow (c:=12) rfl e hk h0m hR13
 have hk:=nx_bool hrow (c:=12) rfl hk h0m hcb
 have hL:=mkL e
 refine ao (a:=0<=((j:Nat):Int)/\((j:Nat):Int)<(R13.length:Int)) (by first|exact ixL hL hj|exact ixI hL hj|rfl|omega) λ o126=>?_
 refine ao (a:=j<R13.length) (by first|exact ixL hL hj|exact ixI hL hj|rfl|omega) λ o127=>?_
 refine ao (a:=j<R13.length) (by first|exact ixL hL hj|exact ixI hL hj|rfl|omega) λ o128=>?_
 refine ao (a:=j<R13.length) (by first|exact ixL hL hj|exact ixI hL hj|rfl|omega) λ o129=>?_
 refine ao (a:=j<R13.length) (by first|exact ixL hL hj|exact ixI hL hj|rfl|omega) λ o130=>?_
 refine ⟨((((l.getD j []).getD 13 (.int 0)).r),(cn m (l.getD j []) 13)),by
  exact a_sl hj e hk,by
  try dsimp only [markIntS_con]
  exact p_sl hrow (c:=13) rfl h0m hcb,?_⟩
 refine ao (a:=j<R13.length) (by first|exact ixL hL hj|exact ixI hL hj|rfl|omega) λ o134=>?_
 refine ao (a:=(((R13.getD j []).getD 13 (.int 0))).r=((R13.getD j []).getD 13 (.int 0)).r) (by first|exact ixL hL hj|exact ixI hL hj|rfl|omega) λ o135=>?_
 intro R14 hR14
 have e:=mk_sl hj hrow (c:=13) rfl e hR14
 have hk:=nx_sl (m:=m) hrow (c:=13) rfl
 have hL:=mkL e
 refine ao (a:=0<=((j:Nat):Int)/\((j:Nat):Int)<(R14.length:Int)) (by first|exact ixL hL hj|exact ixI hL hj|rfl|omega) λ o137=>?_
 refine ao (a:=j<R14.length) (by first|exact ixL hL hj|exact ixI hL hj|rfl|omega) λ o138=>?_
 refine ao (a:=j<R14.length) (by first|exact ixL hL hj|exact ixI hL hj|rfl|omega) λ o139=>?_
 refine ao (a:=j<R14.length) (by first|exact ixL hL hj|exact ixI hL hj|rfl|omega) λ o140=>?_
 refine ⟨((((l.getD j []).getD 14 (.int 0)).r),(cn m (l.getD j []) 14)),by
  exact a_sl hj e hk,by
  try dsimp only [markIntS_con]
  exact p_sl hrow (c:=14) rfl h0m hcb,?_⟩
 refine ao (a:=j<R14.length) (by first|exact ixL hL hj|exact ixI hL hj|rfl|omega) λ o144=>?_
 refine ao (a:=(((R14.getD j []).getD 14 (.int 0))).r=((R14.getD j []).getD 14 (.int 0)).r) (by first|exact ixL hL hj|exact ixI hL hj|rfl|omega) λ o145=>?_
 intro R15 hR15
 have e:=mk_sl hj hrow (c:=14) rfl e hR15
 have hk:=nx_sl (m:=m) hrow (c:=14) rfl
 have hL:=mkL e
 refine ao (by first|exact ixL hL hj|exact ixI hL hj|rfl|omega) λ o147=>?_
 refine ao (a:=0<=((j:Nat):Int)/\((j:Nat):Int)<(R15.length:Int)) (by first|exact ixL hL hj|exact ixI hL hj|rfl|omega) λ o148=>?_
 refine ao (a:=j<R15.length) (by first|exact ixL hL hj|exact ixI hL hj|rfl|omega) λ o149=>?_
 refine ao (a:=j<R15.length) (by first|exact ixL hL hj|exact ixI hL hj|rfl|omega) λ o150=>?_
 refine ao (a:=j<R15.length) (by first|exact ixL hL hj|exact ixI hL hj|rfl|omega) λ o151=>?_
 refine ao (a:=j<R15.length) (by first|exact ixL hL hj|exact ixI hL hj|rfl|omega) λ o152=>?_
 intro R16 hR16
 have e:=mk_bool hj hrow (c:=15) rfl e hk h0m hR16
 have hk:=nx_bool hrow (c:=15) rfl hk h0m hcb
 have hL:=mkL e
 refine ao (a:=0<=((j:Nat):Int)/\((j:Nat):Int)<(R16.length:Int)) (by first|exact ixL hL hj|exact ixI hL hj|rfl|omega) λ o154=>?_
 refine ao (a:=j<R16.length) (by first|exact ixL hL hj|exact ixI hL hj|rfl|omega) λ o155=>?_
 refine ao (a:=j<R16.length) (by first|exact ixL hL hj|exact ixI hL hj|rfl|omega) λ o156=>?_
 refine ao (a:=j<R16.length) (by first|exact ixL hL hj|exact ixI hL hj|rfl|omega) λ o157=>?_
 refine ao (a:=j<R16.length) (by first|exact ixL hL hj|exact ixI hL hj|rfl|omega) λ o158=>?_
 refine ⟨((((l.getD j []).getD 16 (.int 0)).r),(cn m (l.getD j []) 16)),by
  exact a_sl hj e hk,by
  try dsimp only [markIntS_con]
  exact p_sl hrow (c:=16) rfl h0m hcb,?_⟩
 refine ao (a:=j<R16.length) (by first|exact ixL hL hj|exact ixI hL hj|rfl|omega) λ o162=>?_
 refine ao (a:=(((R16.getD j []).getD 16 (.int 0))).r=((R16.getD j []).getD 16 (.int 0)).r) (by first|exact ixL hL hj|exact ixI hL hj|rfl|omega) λ o163=>?_
 intro R17 hR17
 have e:=mk_sl hj hrow (c:=16) rfl e hR17
 have hk:=nx_sl (m:=m) hrow (c:=16) rfl
 have hL:=mkL e
 refine ao (a:=0<=((j:Nat):Int)/\((j:Nat):Int)<(R17.length:Int)) (by first|exact ixL hL hj|exact ixI hL hj|rfl|omega) λ o165=>?_
 refine ao (a:=j<R17.length) (by first|exact ixL hL hj|exact ixI hL hj|rfl|omega) λ o166=>?_
 refine ao (a:=j<R17.length) (by first|exact ixL hL hj|exact ixI hL hj|rfl|omega) λ o167=>?_
 refine ao (a:=j<R17.length) (by first|exact ixL hL hj|exact ixI hL hj|rfl|omega) λ o168=>?_
 refine ⟨((((l.getD j []).getD 17 (.int 0)).r),(cn m (l.getD j []) 17)),by
  exact a_sl hj e hk,by
  try dsimp only [markIntS_con]
  exact p_sl hrow (c:=17) rfl h0m hcb,?_⟩
 refine ao (a:=j<R17.length) (by first|exact ixL hL hj|exact ixI hL hj|rfl|omega) λ o172=>?_
 refine ao (a:=(((R17.getD j []).getD 17 (.int 0))).r=((R17.getD j []).getD 17 (.int 0)).r) (by first|exact ixL hL hj|exact ixI hL hj|rfl|omega) λ o173=>?_
 intro R18 hR18
 have e:=mk_sl hj hrow (c:=17) rfl e hR18
 have hk:=nx_sl (m:=m) hrow (c:=17) rfl
 have hL:=mkL e
 refine ⟨(j+1,m+(cntRow (l.getD j []):Int)),by
  exact ⟨hj,hcx.1⟩,by
  exact mu_lt hj,?_⟩
 refine ⟨?_,?_,?_⟩
 ·show Value.int .i64 ((cn m (l.getD j []) 17)+(cntRows (((l.getD j []).getD 17 (.int 0)).r):Int))=Value.int .i64 (m+(cntRow (l.getD j []):Int))
  first|rfl|exact mk_end hj hrow (by decide) e hki1.2|exact vint (k_end hrow (by decide) hk)|exact vint (wrap_j hl hj)
 ·show Value.int .i64 (IntKind.i64.wrap (((j:Nat):Int)+(1:Int)))=Value.int .i64 (((j+1):Nat):Int)
  first|rfl|exact mk_end hj hrow (by decide) e hki1.2|exact vint (k_end hrow (by decide) hk)|exact vint (wrap_j hl hj)
 show R18=(marked k (j+1) l)
 first|rfl|exact mk_end hj hrow (by decide) e hki1.2|exact vint (k_end hrow (by decide) hk)|exact vint (wrap_j hl hj)
def markDoorS_con:Con:={ ι:=(List (List Dat))×Int,pre:=λ i=>Dat.has (.sl 56 [.int,.int]) (.sl i.1)/\0<=i.2/\i.2+(cntRows i.1:Int)<=4611686018427387904,args:=λ i=>[.one (.sl 56 [.int,.int] i.1),.one (.im (.int .i64 i.2))],mu:=[0],new:=λ i=>[mkRows i.2 i.1],res:=λ i=>⟨false,[none],[.im (Value.int .i64 (i.2+(cntRows i.1:Int)))]⟩ }
theorem markDoorS_ok:markDoorS_con.Ok Try.prog 39:=by
 refine fok (X:=⟨tt,[],[],27,[]⟩) mixed tt_ok (CTok.nil _) Try.func39 (λ (i:(List (List Dat))×Int)=>[(2,.mk 2 (Nat×Int) (λ x1=>{ tm:=[(0,.one (.one (.ext 1))),(1,.one (.one (.im (Value.int .i64 x1.2)))),(5,.one (.one (.im (Value.int .i64 ((x1.1:Nat):Int)))))],en:=[(1,.mu 56 [.int,.int] (marked i.2 x1.1 i.1) 0)] }) (λ x1=>x1.1<=i.1.length/\x1.2=i.2+(cntRows (i.1.take x1.1):Int)) (λ x1=>i.1.length-x1.1) (λ _=>[]))]) ?_
 rintro ⟨l,k⟩ hpre
 have hpre:Dat.has (.sl 56 [.int,.int]) (.sl l)/\0<=k/\k+(cntRows l:Int)<=4611686018427387904:=hpre
 refine by_nf (q:=(∃ x1:Nat×Int,(x1.1<=l.length/\x1.2=k+(cntRows (l.take x1.1):Int))/\((vI k=vI x1.2)/\(vI (0:Int)=vI (nI x1.1))/\(l=(marked k x1.1 l))))/\∀ x1:Nat×Int,(x1.1<=l.length/\x1.2=k+(cntRows (l.take x1.1):Int))->(((decide ((nI x1.1)<(nI ((marked k x1.1 l).length))))=true->((0<=(nI x1.1)/\(nI x1.1)<((marked k x1.1 l).length:Int))/\((x1.1<(marked k x1.1 l).length)/\((x1.1<(marked k x1.1 l).length)/\(∀ R1:List (List Dat),R1=setC (marked k x1.1 l) x1.1 0 (Dat.int x1.2)->((0<=(nI x1.1)/\(nI x1.1)<(R1.length:Int))/\((x1.1<R1.length)/\((x1.1<R1.length)/\(∀ R2:List (List Dat),R2=setC R1 x1.1 1 (Dat.int (wR (x1.2+(1:Int))))->(∃ y2:Nat×Int,(y2.1<=l.length/\y2.2=k+(cntRows (l.take y2.1):Int))/\(l.length-y2.1<l.length-x1.1)/\((vI (wR ((wR (x1.2+(1:Int)))+(1:Int)))=vI y2.2)/\(vI (wR ((nI x1.1)+(1:Int)))=vI (nI y2.1))/\(R2=(marked k y2.1 l)))))))))))))/\((decide ((nI x1.1)<(nI ((marked k x1.1 l).length))))=false->((vI x1.2=vI (k+(cntRows l:Int)))/\((marked k x1.1 l)=(mkRows k l)))))) (by kernel_rfl) ?_
 delta vI wR nI
 obtain ⟨hh,h0,h1⟩:=hpre
 have hl:=has_len hh
 have hh2:=has_rows hh
 refine ⟨⟨(0,k),by
  first|exact ⟨Nat.zero_le _,by simp [cntRows]⟩|exact ⟨by omega,hcx.1⟩,?_⟩,?_⟩
 ·refine ⟨rfl,?_,?_⟩
  ·show Value.int .i64 (0:Int)=Value.int .i64 ((0:Nat):Int)
   first|rfl|exact (marked_zero _ _).symm
  show l=(marked k 0 l)
  first|rfl|exact (marked_zero _ _).symm
 rintro ⟨j,m⟩ hki1
 have hki1:j<=l.length/\m=k+(cntRows (l.take j):Int):=hki1
 have hml:=marked_length k j l
 refine And.symm ⟨λ c6=>?_,λ c6=>?_⟩
 ·replace c6:(decide (((j:Nat):Int)<(((marked k j l).length:Nat):Int)))=false:=c6
  try simp only [nrm] at c6
  rw [hml] at c6
  refine ⟨?_,?_⟩
  ·show Value.int .i64 m=Value.int .i64 (k+(cntRows l:Int))
   first|exact vint (cnt_all (by omega) hki1.2)|exact marked_end hki1.1 (by omega)
  show (marked k j l)=(mkRows k l)
  first|exact vint (cnt_all (by omega) hki1.2)|exact marked_end hki1.1 (by omega)
 replace c6:(decide (((j:Nat):Int)<(((marked k j l).length:Nat):Int)))=true:=c6
 try simp only [nrm] at c6
 rw [hml] at c6
 have hj:j<l.length:=by omega
 have hrow:=hh2 j hj
 have hcx:=cnt_next hj hki1.2
 have h0m:0<=m:=by have:=cnt_ge hki1.2;omega
 have hcb:m+(cntRow (l.getD j []):Int)<=4611686018427387904:=by omega
 have e:=mkR_zero (k:=k) (m:=m) hj
 have hk:=(cn_zero m (l.getD j [])).symm
 have hL:=hml
 refine ao (a:=0<=((j:Nat):Int)/\((j:Nat):Int)<((marked k j l).length:Int)) (by first|exact ixL hL hj|exact ixI hL hj|rfl|omega) λ o7=>?_
 refine ao (a:=j<(marked k j l).length) (by first|exact ixL hL hj|exact ixI hL hj|rfl|omega) λ o8=>?_
 refine ao (a:=j<(marked k j l).length) (by first|exact ixL hL hj|exact ixI hL hj|rfl|omega) λ o9=>?_
 intro R1 hR1
 have e:=mk_int hj hrow (c:=0) rfl e hk hR1
 have hk:=nx_int hrow (c:=0) rfl hk h0m hcb
 have hL:=mkL e
 refine ao (a:=0<=((j:Nat):Int)/\((j:Nat):Int)<(R1.length:Int)) (by first|exact ixL hL hj|exact ixI hL hj|rfl|omega) λ o11=>?_
 refine ao (a:=j<R1.length) (by first|exact ixL hL hj|exact ixI hL hj|rfl|omega) λ o12=>?_
 refine ao (a:=j<R1.length) (by first|exact ixL hL hj|exact ixI hL hj|rfl|omega) λ o13=>?_
 intro R2 hR2
 have e:=mk_int hj hrow (c:=1) rfl e hk hR2
 have hk:=nx_int hrow (c:=1) rfl hk h0m hcb
 have hL:=mkL e
 refine ⟨(j+1,m+(cntRow (l.getD j []):Int)),by
  exact ⟨hj,hcx.1⟩,by
  exact mu_lt hj,?_⟩
 refine ⟨?_,?_,?_⟩
 ·show Value.int .i64 (IntKind.i64.wrap ((IntKind.i64.wrap (m+(1:Int)))+(1:Int)))=Value.int .i64 (m+(cntRow (l.getD j []):Int))
  first|rfl|exact mk_end hj hrow (by decide) e hki1.2|exact vint (k_end hrow (by decide) hk)|exact vint (wrap_j hl hj)
 ·show Value.int .i64 (IntKind.i64.wrap (((j:Nat):Int)+(1:Int)))=Value.int .i64 (((j+1):Nat):Int)
  first|rfl|exact mk_end hj hrow (by decide) e hki1.2|exact vint (k_end hrow (by decide) hk)|exact vint (wrap_j hl hj)
 show R2=(marked k (j+1) l)
 first|rfl|exact mk_end hj hrow (by decide) e hki1.2|exact vint (k_end hrow (by decide) hk)|exact vint (wrap_j hl hj)
def markSlice_con:Con:={ ι:=(List Dat)×Int,pre:=λ i=>Dat.has (.sl 89 [.sl 35 [.int,.int]]) (.sl ((i.1.getD 6 (.int 0)).r))/\Dat.has (.sl 95 [.bool,.sl 3 [.int],.sl 3 [.int],.bool,.sl 3 [.int],.sl 3 [.int],.bool,.sl 3 [.int],.sl 3 [.int],.bool,.sl 3 [.int],.sl 3 [.int],.bool,.sl 3 [.int],.sl 3 [.int],.bool,.sl 3 [.int],.sl 3 [.int]]) (.sl ((i.1.getD 7 (.int 0)).r))/\Dat.has (.sl 98 [.bool,.sl 3 [.int],.sl 3 [.int],.bool,.sl 3 [.int],.sl 3 [.int],.bool,.sl 3 [.int],.sl 3 [.int]]) (.sl ((i.1.getD 8 (.int 0)).r))/\Dat.has (.sl 56 [.int,.int]) (.sl ((i.1.getD 9 (.int 0)).r))/\Dat.has (.sl 3 [.int]) (.sl ((i.1.getD 10 (.int 0)).r))/\0<=i.2/\i.2+(cntRows ((i.1.getD 6 (.int 0)).r):Int)+(cntRows ((i.1.getD 7 (.int 0)).r):Int)+(cntRows ((i.1.getD 8 (.int 0)).r):Int)+(cntRows ((i.1.getD 9 (.int 0)).r):Int)+(cntRows ((i.1.getD 10 (.int 0)).r):Int)<=4611686018427387904,args:=λ i=>[.agg [.im (.int .i64 ((i.1.getD 0 (.int 0)).n)),.im (.bool ((i.1.getD 1 (.int 0)).b)),.im (.int .i64 ((i.1.getD 2 (.int 0)).n)),.im (.int .i64 ((i.1.getD 3 (.int 0)).n)),.im (.int .i64 ((i.1.getD 4 (.int 0)).n)),.im (.int .i64 ((i.1.getD 5 (.int 0)).n)),.sl 89 [.sl 35 [.int,.int]] ((i.1.getD 6 (.int 0)).r),.sl 95 [.bool,.sl 3 [.int],.sl 3 [.int],.bool,.sl 3 [.int],.sl 3 [.int],.bool,.sl 3 [.int],.sl 3 [.int],.bool,.sl 3 [.int],.sl 3 [.int],.bool,.sl 3 [.int],.sl 3 [.int],.bool,.sl 3 [.int],.sl 3 [.int]] ((i.1.getD 7 (.int 0)).r),.sl 98 [.bool,.sl 3 [.int],.sl 3 [.int],.bool,.sl 3 [.int],.sl 3 [.int],.bool,.sl 3 [.int],.sl 3 [.int]] ((i.1.getD 8 (.int 0)).r),.sl 56 [.int,.int] ((i.1.getD 9 (.int 0)).r),.sl 3 [.int] ((i.1.getD 10 (.int 0)).r)],.one (.im (.int .i64 i.2))],mu:=[6,7,8,9,10],new:=λ i=>[mkRows (i.2) ((i.1.getD 6 (.int 0)).r),mkRows (i.2+(cntRows ((i.1.getD 6 (.int 0)).r):Int)) ((i.1.getD 7 (.int 0)).r),mkRows (i.2+(cntRows ((i.1.getD 6 (.int 0)).r):Int)+(cntRows ((i.1.getD 7 (.int 0)).r):Int)) ((i.1.getD 8 (.int 0)).r),mkRows (i.2+(cntRows ((i.1.getD 6 (.int 0)).r):Int)+(cntRows ((i.1.getD 7 (.int 0)).r):Int)+(cntRows ((i.1.getD 8 (.int 0)).r):Int)) ((i.1.getD 9 (.int 0)).r),mkRows (i.2+(cntRows ((i.1.getD 6 (.int 0)).r):Int)+(cntRows ((i.1.getD 7 (.int 0)).r):Int)+(cntRows ((i.1.getD 8 (.int 0)).r):Int)+(cntRows ((i.1.getD 9 (.int 0)).r):Int)) ((i.1.getD 10 (.int 0)).r)],res:=λ i=>⟨false,[none],[.im (Value.int .i64 (i.2+(cntRows ((i.1.getD 6 (.int 0)).r):Int)+(cntRows ((i.1.getD 7 (.int 0)).r):Int)+(cntRows ((i.1.getD 8 (.int 0)).r):Int)+(cntRows ((i.1.getD 9 (.int 0)).r):Int)+(cntRows ((i.1.getD 10 (.int 0)).r):Int)))]⟩ }
theorem markSlice_ok:markSlice_con.Ok Try.prog 11:=by
 refine fok (X:=⟨tt,[(36,markVecSS_con),(37,markCellS_con),(38,markWallS_con),(39,markDoorS_con),(12,markIntS_con)],[],26,[]⟩) mixed tt_ok (CTok.cons markVecSS_ok (CTok.cons markCellS_ok (CTok.cons markWallS_ok (CTok.cons markDoorS_ok (CTok.cons markIntS_ok (CTok.nil _)))))) Try.func11 (λ _=>[]) ?_
 rintro ⟨r,k⟩ hpre
 have hpre:Dat.has (.sl 89 [.sl 35 [.int,.int]]) (.sl ((r.getD 6 (.int 0)).r))/\Dat.has (.sl 95 [.bool,.sl 3 [.int],.sl 3 [.int],.bool,.sl 3 [.int],.sl 3 [.int],.bool,.sl 3 [.int],.sl 3 [.int],.bool,.sl 3 [.int],.sl 3 [.int],.bool,.sl 3 [.int],.sl 3 [.int],.bool,.sl 3 [.int],.sl 3 [.int]]) (.sl ((r.getD 7 (.int 0)).r))/\Dat.has (.sl 98 [.bool,.sl 3 [.int],.sl 3 [.int],.bool,.sl 3 [.int],.sl 3 [.int],.bool,.sl 3 [.int],.sl 3 [.int]]) (.sl ((r.getD 8 (.int 0)).r))/\Dat.has (.sl 56 [.int,.int]) (.sl ((r.getD 9 (.int 0)).r))/\Dat.has (.sl 3 [.int]) (.sl ((r.getD 10 (.int 0)).r))/\0<=k/\k+(cntRows ((r.getD 6 (.int 0)).r):Int)+(cntRows ((r.getD 7 (.int 0)).r):Int)+(cntRows ((r.getD 8 (.int 0)).r):Int)+(cntRows ((r.getD 9 (.int 0)).r):Int)+(cntRows ((r.getD 10 (.int 0)).r):Int)<=4611686018427387904:=hpre
 refine by_nf (q:=∃ i1:(List (List Dat))×Int,[DA.one (DC.sl 89 [.sl 35 [.int,.int]] ((r.getD 6 (.int 0)).r)),DA.one (cI k)]=markVecSS_con.args i1/\markVecSS_con.pre i1/\(∀ R1:List (List Dat),R1=mkRows i1.2 i1.1->(∃ i2:(List (List Dat))×Int,[DA.one (DC.sl 95 [.bool,.sl 3 [.int],.sl 3 [.int],.bool,.sl 3 [.int],.sl 3 [.int],.bool,.sl 3 [.int],.sl 3 [.int],.bool,.sl 3 [.int],.sl 3 [.int],.bool,.sl 3 [.int],.sl 3 [.int],.bool,.sl 3 [.int],.sl 3 [.int]] ((r.getD 7 (.int 0)).r)),DA.one (cI (i1.2+(cntRows i1.1:Int)))]=markCellS_con.args i2/\markCellS_con.pre i2/\(∀ R2:List (List Dat),R2=mkRows i2.2 i2.1->(∃ i3:(List (List Dat))×Int,[DA.one (DC.sl 98 [.bool,.sl 3 [.int],.sl 3 [.int],.bool,.sl 3 [.int],.sl 3 [.int],.bool,.sl 3 [.int],.sl 3 [.int]] ((r.getD 8 (.int 0)).r)),DA.one (cI (i2.2+(cntRows i2.1:Int)))]=markWallS_con.args i3/\markWallS_con.pre i3/\(∀ R3:List (List Dat),R3=mkRows i3.2 i3.1->(∃ i4:(List (List Dat))×Int,[DA.one (DC.sl 56 [.int,.int] ((r.getD 9 (.int 0)).r)),DA.one (cI (i3.2+(cntRows i3.1:Int)))]=markDoorS_con.args i4/\markDoorS_con.pre i4/\(∀ R4:List (List Dat),R4=mkRows i4.2 i4.1->(∃ i5:(List (List Dat))×Int,[DA.one (cS ((r.getD 10 (.int 0)).r)),DA.one (cI (i4.2+(cntRows i4.1:Int)))]=markIntS_con.args i5/\markIntS_con.pre i5/\(∀ R5:List (List Dat),R5=mkRows i5.2 i5.1->((vI (i5.2+(cntRows i5.1:Int))=vI (k+(cntRows ((r.getD 6 (.int 0)).r):Int)+(cntRows ((r.getD 7 (.int 0)).r):Int)+(cntRows ((r.getD 8 (.int 0)).r):Int)+(cntRows ((r.getD 9 (.int 0)).r):Int)+(cntRows ((r.getD 10 (.int 0)).r):Int)))/\(R1=(mkRows (k) ((r.getD 6 (.int 0)).r)))/\(R2=(mkRows (k+(cntRows ((r.getD 6 (.int 0)).r):Int)) ((r.getD 7 (.int 0)).r)))/\(R3=(mkRows (k+(cntRows ((r.getD 6 (.int 0)).r):Int)+(cntRows ((r.getD 7 (.int 0)).r):Int)) ((r.getD 8 (.int 0)).r)))/\(R4=(mkRows (k+(cntRows ((r.getD 6 (.int 0)).r):Int)+(cntRows ((r.getD 7 (.int 0)).r):Int)+(cntRows ((r.getD 8 (.int 0)).r):Int)) ((r.getD 9 (.int 0)).r)))/\(R5=(mkRows (k+(cntRows ((r.getD 6 (.int 0)).r):Int)+(cntRows ((r.getD 7 (.int 0)).r):Int)+(cntRows ((r.getD 8 (.int 0)).r):Int)+(cntRows ((r.getD 9 (.int 0)).r):Int)) ((r.getD 10 (.int 0)).r)))))))))))))) (by kernel_rfl) ?_
 delta vI
 obtain ⟨p6,p7,p8,p9,p10,h0,h1⟩:=hpre
 refine ⟨(((r.getD 6 (.int 0)).r),k),by
  rfl,by
  show Dat.has (.sl 89 [.sl 35 [.int,.int]]) (.sl ((r.getD 6 (.int 0)).r))/\0<=k/\k+(cntRows ((r.getD 6 (.int 0)).r):Int)<=4611686018427387904
  exact ⟨p6,by omega,by omega⟩,?_⟩
 intro R1 hR1
 refine ⟨(((r.getD 7 (.int 0)).r),(k+(cntRows ((r.getD 6 (.int 0)).r):Int))),by
  rfl,by
  try dsimp only [markCellS_con]
  exact ⟨p7,by omega,by omega⟩,?_⟩
 intro R2 hR2
 refine ⟨(((r.getD 8 (.int 0)).r),((k+(cntRows ((r.getD 6 (.int 0)).r):Int))+(cntRows ((r.getD 7 (.int 0)).r):Int))),by
  rfl,by
  try dsimp only [markWallS_con]
  exact ⟨p8,by omega,by omega⟩,?_⟩
 intro R3 hR3
 refine ⟨(((r.getD 9 (.int 0)).r),(((k+(cntRows ((r.getD 6 (.int 0)).r):Int))+(cntRows ((r.getD 7 (.int 0)).r):Int))+(cntRows ((r.getD 8 (.int 0)).r):Int))),by
  rfl,by
  try dsimp only [markDoorS_con]
  exact ⟨p9,by omega,by omega⟩,?_⟩
 intro R4 hR4
 refine ⟨(((r.getD 10 (.int 0)).r),((((k+(cntRows ((r.getD 6 (.int 0)).r):Int))+(cntRows ((r.getD 7 (.int 0)).r):Int))+(cntRows ((r.getD 8 (.int 0)).r):Int))+(cntRows ((r.getD 9 (.int 0)).r):Int))),by
  rfl,by
  try dsimp only [markIntS_con]
  exact ⟨p10,by omega,by omega⟩,?_⟩
 intro R5 hR5
 refine ⟨?_,?_,?_,?_,?_,?_⟩
 ·show Value.int .i64 (((((k+(cntRows ((r.getD 6 (.int 0)).r):Int))+(cntRows ((r.getD 7 (.int 0)).r):Int))+(cntRows ((r.getD 8 (.int 0)).r):Int))+(cntRows ((r.getD 9 (.int 0)).r):Int))+(cntRows ((r.getD 10 (.int 0)).r):Int))=Value.int .i64 (k+(cntRows ((r.getD 6 (.int 0)).r):Int)+(cntRows ((r.getD 7 (.int 0)).r):Int)+(cntRows ((r.getD 8 (.int 0)).r):Int)+(cntRows ((r.getD 9 (.int 0)).r):Int)+(cntRows ((r.getD 10 (.int 0)).r):Int))
  first|rfl|assumption
 ·first|rfl|assumption
 ·first|rfl|assumption
 ·first|rfl|assumption
 ·first|rfl|assumption
 first|rfl|assumption
def heldIntS_con:Con:={ ι:=(List (List Dat))×Int,pre:=λ i=>Dat.has (.sl 3 [.int]) (.sl i.1)/\0<=i.2/\i.2+(cntRows i.1:Int)<=4611686018427387904,args:=λ i=>[.one (.sl 3 [.int] (mkRows i.2 i.1)),.one (.im (.int .i64 i.2))],res:=λ i=>⟨false,[none],[.im (Value.int .i64 (i.2+(cntRows i.1:Int)))]⟩ }
theorem heldIntS_ok:heldIntS_con.Ok Try.prog 13:=by
 refine fok (X:=⟨tt,[],[],21,[]⟩) mixed tt_ok (CTok.nil _) Try.func13 (λ (i:(List (List Dat))×Int)=>[(2,.mk 2 (Nat×Int) (λ x1=>{ tm:=[(0,.one (.one (.ext 1))),(1,.one (.one (.im (Value.int .i64 x1.2)))),(5,.one (.one (.im (Value.int .i64 ((x1.1:Nat):Int)))))],en:=[(1,.view 3 [.int] (mkRows i.2 i.1) [])] }) (λ x1=>x1.1<=i.1.length/\x1.2=i.2+(cntRows (i.1.take x1.1):Int)) (λ x1=>i.1.length-x1.1) (λ _=>[]))]) ?_
 rintro ⟨l,k⟩ hpre
 have hpre:Dat.has (.sl 3 [.int]) (.sl l)/\0<=k/\k+(cntRows l:Int)<=4611686018427387904:=hpre
 refine by_nf (q:=(∃ x1:Nat×Int,(x1.1<=l.length/\x1.2=k+(cntRows (l.take x1.1):Int))/\((vI k=vI x1.2)/\(vI (0:Int)=vI (nI x1.1))/\(rf (mkRows k l))))/\∀ x1:Nat×Int,(x1.1<=l.length/\x1.2=k+(cntRows (l.take x1.1):Int))->(((decide ((nI x1.1)<(nI ((mkRows k l).length))))=true->((0<=(nI x1.1)/\(nI x1.1)<((mkRows k l).length:Int))/\((x1.1<(mkRows k l).length)/\(((((((mkRows k l).getD x1.1 []).getD 0 (.int 0))).n != x1.2)=true->((vI (-1:Int)=vI (k+(cntRows l:Int)))))/\((((((mkRows k l).getD x1.1 []).getD 0 (.int 0))).n != x1.2)=false->(∃ y2:Nat×Int,(y2.1<=l.length/\y2.2=k+(cntRows (l.take y2.1):Int))/\(l.length-y2.1<l.length-x1.1)/\((vI (wR (x1.2+(1:Int)))=vI y2.2)/\(vI (wR ((nI x1.1)+(1:Int)))=vI (nI y2.1))/\(rf (mkRows k l)))))))))/\((decide ((nI x1.1)<(nI ((mkRows k l).length))))=false->((vI x1.2=vI (k+(cntRows l:Int))))))) (by kernel_rfl) ?_
 delta vI wR nI
 obtain ⟨hh,h0,h1⟩:=hpre
 have hl:=has_len hh
 have hh2:=has_rows hh
 have hml:=mkRows_length k l
 refine ⟨⟨(0,k),by
  first|exact ⟨Nat.zero_le _,by simp [cntRows]⟩|exact ⟨by omega,hcx.1⟩,?_⟩,?_⟩
 ·refine ⟨rfl,?_,rfl⟩
  show Value.int .i64 (0:Int)=Value.int .i64 ((0:Nat):Int)
  rfl
 rintro ⟨j,m⟩ hki1
 have hki1:j<=l.length/\m=k+(cntRows (l.take j):Int):=hki1
 refine And.symm ⟨λ c6=>?_,λ c6=>?_⟩
 ·replace c6:(decide (((j:Nat):Int)<(((mkRows k l).length:Nat):Int)))=false:=c6
  try simp only [nrm] at c6
  rw [hml] at c6
  show Value.int .i64 m=Value.int .i64 (k+(cntRows l:Int))
  exact vint (cnt_all (by omega) hki1.2)
 replace c6:(decide (((j:Nat):Int)<(((mkRows k l).length:Nat):Int)))=true:=c6
 try simp only [nrm] at c6
 rw [hml] at c6
 have hj:j<l.length:=by omega
 have hrow:=hh2 j hj
 have hcx:=cnt_next hj hki1.2
 have h0m:0<=m:=by have:=cnt_ge hki1.2;omega
 have hcb:m+(cntRow (l.getD j []):Int)<=4611686018427387904:=by omega
 have hk:=(cn_zero m (l.getD j [])).symm
 refine ao (a:=0<=((j:Nat):Int)/\((j:Nat):Int)<((mkRows k l).length:Int)) (by first|exact ixL hml hj|exact ixI hml hj|rfl|omega) λ o7=>?_
 refine ao (a:=j<(mkRows k l).length) (by first|exact ixL hml hj|exact ixI hml hj|rfl|omega) λ o8=>?_
 refine ⟨λ c9=>?_,λ c9=>?_⟩
 ·replace c9:(((((mkRows k l).getD j []).getD 0 (.int 0))).n != m)=true:=c9
  try simp only [nrm] at c9
  exact absurd (hd_int hj hki1.2 hrow (c:=0) rfl hk) c9 -- done
 replace c9:(((((mkRows k l).getD j []).getD 0 (.int 0))).n != m)=false:=c9
 try simp only [nrm] at c9
 have hk:=nx_int hrow (c:=0) rfl hk h0m hcb
 refine ⟨(j+1,m+(cntRow (l.getD j []):Int)),by
  exact ⟨hj,hcx.1⟩,by
  exact mu_lt hj,?_⟩
 refine ⟨?_,?_,rfl⟩
 ·show Value.int .i64 (IntKind.i64.wrap (m+(1:Int)))=Value.int .i64 (m+(cntRow (l.getD j []):Int))
  first|rfl|exact vint (k_end hrow (by decide) hk)|exact vint (wrap_j hl hj)
 show Value.int .i64 (IntKind.i64.wrap (((j:Nat):Int)+(1:Int)))=Value.int .i64 (((j+1):Nat):Int)
 first|rfl|exact vint (k_end hrow (by decide) hk)|exact vint (wrap_j hl hj)
end Go.Proofs.Ytmedodfenejimaa
