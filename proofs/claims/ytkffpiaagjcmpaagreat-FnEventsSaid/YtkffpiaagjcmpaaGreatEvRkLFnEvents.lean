import Derived.Test.YtkffpiaagjcmpaaGreatEvEvp
import Derived.Test.YtkffpiaagjcmpaaGreatEvRkFr
import Derived.Test.YtkffpiaagjcmpaaGreatEvRkD2
import Derived.Test.YtkffpiaagjcmpaaGreatEvEvq
namespace Go.Proofs.YtkffpiaagjcmpaaGreat
set_option maxRecDepth 100000
set_option linter.unusedVariables false
set_option linter.unusedSimpArgs false
open Go.RowKit
def C5:Con:={ ι:=Int,pre:=λ i=>(-9223372036854775808<=i/\i<=9223372036854775807),args:=λ i=>[.one (cI i)],res:=λ i=>⟨false,[some 3],[rcB (decide ((Fr.ofInt i).z<0)),.own 3 [.int] (L (Fr.ofInt i).z.natAbs),.own 3 [.int] (L (Fr.ofInt i).d)]⟩ }
theorem Tl:C5.Ok Tryz.prog 26:=by
 refine fok (X:=⟨tt,[(46,AU)],[],5,[]⟩) mixed AQ (CTok.cons EJ (CTok.nil _)) Tryz.func26 (λ _=>[]) ?_
 intro (n:Int) hpre
 have hpre:(-9223372036854775808<=n/\n<=9223372036854775807):=hpre
 refine AP (q:=∃ i1:Int,[DA.one (cI n)]=AU.args i1/\AU.pre i1/\((eqC (Fr.ofInt i1) (Fr.ofInt n)))) (by kernel_rfl) ?_
 refine ⟨n,by
  rfl,by
  exact hpre,?_⟩
 exact Eb rfl
def CU:Con:={ ι:=Fr×Fr,pre:=λ i=>True,args:=λ i=>[dF i.1,dF i.2],res:=λ i=>⟨false,[none],[rcB (i.1.good && i.2.good)]⟩ }
theorem ND:CU.Ok Tryz.prog 59:=by
 refine fok (X:=⟨tt,[(68,Bi)],[],11,[]⟩) mixed AQ (CTok.cons MW (CTok.nil _)) Tryz.func59 (λ _=>[]) ?_
 rintro ⟨r,s⟩ hpre
 have hpre:True:=hpre
 refine AP (q:=let Z1:=List (List Dat);∃ i1:Bool×Z1×Z1,[dF r]=Bi.args i1/\Bi.pre i1/\(ifB ((Bw i1.1 i1.2.1 i1.2.2)) (∃ i2:Bool×Z1×Z1,[dF s]=Bi.args i2/\Bi.pre i2/\((vB (Bw i2.1 i2.2.1 i2.2.2)=vB (r.good && s.good)))) ((vB false=vB (r.good && s.good))))) (by kernel_rfl) ?_
 conv=>zeta
 delta ifB vB
 have h1r:=r.nlz
 have h2r:=r.nld
 have l1r:=Aq r.d
 have l2r:=Aq r.z.natAbs
 have h1s:=s.nlz
 have h2s:=s.nld
 have l1s:=Aq s.d
 have l2s:=Aq s.z.natAbs
 refine ⟨(decide (r.z<0),(L r.z.natAbs),(L r.d)),by
  rfl,by
  show Dat.has (.sl 3 [.int]) (.sl (L r.z.natAbs))/\Dat.has (.sl 3 [.int]) (.sl (L r.d))/\(L r.z.natAbs).length<=9223372036854775807/\(L r.d).length<=9223372036854775807
  exact ⟨Kq _ (by omega),Kq _ (by omega),by omega,by omega⟩,?_⟩
 refine And.symm ⟨λ c4=>?_,λ c4=>?_⟩
 ·try simp only [nrm] at c4
  exact congrArg Value.bool (by rw [← EK r,← EK s,c4];simp)
 try simp only [nrm] at c4
 refine ⟨(decide (s.z<0),(L s.z.natAbs),(L s.d)),by
  rfl,by
  show Dat.has (.sl 3 [.int]) (.sl (L s.z.natAbs))/\Dat.has (.sl 3 [.int]) (.sl (L s.d))/\(L s.z.natAbs).length<=9223372036854775807/\(L s.d).length<=9223372036854775807
  exact ⟨Kq _ (by omega),Kq _ (by omega),by omega,by omega⟩,?_⟩
 show Value.bool (Bw (decide (s.z<0)) (L s.z.natAbs) (L s.d))=Value.bool (r.good && s.good)
 exact congrArg Value.bool (by rw [← EK r,← EK s,c4];simp)
def E9:Con:={ ι:=Fr×Fr,pre:=λ i=>i.1.good=true/\i.2.good=true,args:=λ i=>[dF i.1,dF i.2],res:=λ i=>⟨false,[some 3],[rcB (decide ((Fr.add i.1 i.2).z<0)),.own 3 [.int] (L (Fr.add i.1 i.2).z.natAbs),.own 3 [.int] (L (Fr.add i.1 i.2).d)]⟩ }
theorem Tm:E9.Ok Tryz.prog 24:=by
 refine fok (X:=⟨tt,[(59,CU),(63,BO)],[],13,[]⟩) mixed AQ (CTok.cons ND (CTok.cons Hi (CTok.nil _))) Tryz.func24 (λ _=>[]) ?_
 rintro ⟨r,s⟩ hpre
 have hpre:r.good=true/\s.good=true:=hpre
 refine AP (q:=∃ i1:Fr×Fr,[dF r,dF s]=CU.args i1/\CU.pre i1/\(ifB ((!(i1.1.good && i1.2.good))) ((eqN (Fr.add r s))) (∃ i2:Fr×Fr,[dF r,dF s]=BO.args i2/\BO.pre i2/\((eqC (Fr.add i2.1 i2.2) (Fr.add r s)))))) (by kernel_rfl) ?_
 delta ifB
 refine ⟨(r,s),by
  rfl,by
  exact trivial,?_⟩
 refine ⟨λ c4=>?_,λ c4=>?_⟩
 ·try simp only [nrm] at c4
  rcases c4 with c4|c4 <;> simp_all -- done
 try simp only [nrm] at c4
 refine ⟨(r,s),by
  rfl,by
  exact trivial,?_⟩
 exact Eb rfl
def FA:Con:={ ι:=Fr×Fr,pre:=λ i=>i.1.good=true/\i.2.good=true,args:=λ i=>[dF i.1,dF i.2],res:=λ i=>⟨false,[some 3],[rcB (decide ((Fr.mul i.1 i.2).z<0)),.own 3 [.int] (L (Fr.mul i.1 i.2).z.natAbs),.own 3 [.int] (L (Fr.mul i.1 i.2).d)]⟩ }
theorem Tn:FA.Ok Tryz.prog 22:=by
 refine fok (X:=⟨tt,[(59,CU),(60,Cx)],[],13,[]⟩) mixed AQ (CTok.cons ND (CTok.cons OO (CTok.nil _))) Tryz.func22 (λ _=>[]) ?_
 rintro ⟨r,s⟩ hpre
 have hpre:r.good=true/\s.good=true:=hpre
 refine AP (q:=∃ i1:Fr×Fr,[dF r,dF s]=CU.args i1/\CU.pre i1/\(ifB ((!(i1.1.good && i1.2.good))) ((eqN (Fr.mul r s))) (∃ i2:Fr×Fr,[dF r,dF s]=Cx.args i2/\Cx.pre i2/\((eqC (Fr.mul i2.1 i2.2) (Fr.mul r s)))))) (by kernel_rfl) ?_
 delta ifB
 refine ⟨(r,s),by
  rfl,by
  exact trivial,?_⟩
 refine ⟨λ c4=>?_,λ c4=>?_⟩
 ·try simp only [nrm] at c4
  rcases c4 with c4|c4 <;> simp_all -- done
 try simp only [nrm] at c4
 refine ⟨(r,s),by
  rfl,by
  exact trivial,?_⟩
 exact Eb rfl
theorem NE {l:List Fr} (h:BC l) {k:Nat} (hk:k<l.length):(l.getD k Fr.none).good=true:=Fr.d_good.2 (h _ (by simp [List.getD,hk]))
def GZ (l:List Fr) (x:Fr) (j:Nat):Bool:=decide (Fr.cmp (l.getD j Fr.none) x<0) && decide (Fr.cmp x (l.getD (j+1) Fr.none)<0)
def NZ (l:List Fr) (x:Fr):Int:=Gx (GZ l x) (List.range (l.length-1))
theorem KS {n k:Nat} (h:k<n):(List.range n).getD k 0=k:=by simp [List.getD,h]
theorem ZC {l:List Fr} {x:Fr} {k:Nat} (hk:k+1<l.length) (h:∀ j,j<k->GZ l x j=false) (hp:GZ l x k=true):NZ l x=(k:Int):=
 LU (d:=0) (k:=k) (by simp;omega) (λ j hj=>by rw [KS (by omega)];exact h j hj) (by rw [KS (by omega)];exact hp)
theorem R4 {l:List Fr} {x:Fr} (h:∀ j,j+1<l.length->GZ l x j=false):NZ l x=-1:=
 J9 (d:=0) (λ j hj=>by simp at hj;rw [KS (by omega)];exact h j (by omega))
theorem NF {P:Nat->Bool} {k:Nat} (h:∀ j,j<k->P j=false) (hk:P k=false):∀ j,j<k+1->P j=false:=λ j hj=>by
 rcases Nat.lt_succ_iff_lt_or_eq.1 hj with h' | rfl
 ·exact h j h'
 ·exact hk
theorem Pt {l:List Fr} (h:asc l) {i j:Nat} (hij:i<j) (hj:j<l.length):Fr.cmp (l.getD i Fr.none) (l.getD j Fr.none)<0:=by
 have:=(List.pairwise_iff_getElem.1 h) i j (by omega) hj hij
 simpa [List.getD,hj,show i<l.length by omega] using this
def JV:Con:={ ι:=Fr,pre:=λ i=>True,args:=λ i=>[dF i],res:=λ i=>⟨false,[none],[rcB (!(i.good))]⟩ }
theorem AAe:JV.Ok Tryz.prog 107:=by
 refine fok (X:=⟨tt,[(68,Bi)],[],6,[]⟩) mixed AQ (CTok.cons MW (CTok.nil _)) Tryz.func107 (λ _=>[]) ?_
 intro (r:Fr) hpre
 have hpre:True:=hpre
 refine AP (q:=∃ i1:Bool×(List (List Dat))×(List (List Dat)),[dF r]=Bi.args i1/\Bi.pre i1/\((vB (!(Bw i1.1 i1.2.1 i1.2.2))=vB (!(r.good))))) (by kernel_rfl) ?_
 delta vB
 have h1r:=r.nlz
 have h2r:=r.nld
 have l1r:=Aq r.d
 have l2r:=Aq r.z.natAbs
 refine ⟨(decide (r.z<0),(L r.z.natAbs),(L r.d)),by
  rfl,by
  show Dat.has (.sl 3 [.int]) (.sl (L r.z.natAbs))/\Dat.has (.sl 3 [.int]) (.sl (L r.d))/\(L r.z.natAbs).length<=9223372036854775807/\(L r.d).length<=9223372036854775807
  exact ⟨Kq _ (by omega),Kq _ (by omega),by omega,by omega⟩,?_⟩
 show Value.bool (!(Bw (decide (r.z<0)) (L r.z.natAbs) (L r.d)))=Value.bool (!(r.good))
 exact congrArg Value.bool (by rw [EK])
def GK:Con:={ ι:=(List Fr),pre:=λ i=>BC i/\i.length<=2000000000000,args:=λ i=>[.one (DC.sl 40 z39 (AG i)),.one (.ro (.fn 107 []))],tag:=108,res:=λ i=>⟨false,[none],[rcI (-1:Int)]⟩ }
theorem WX:GK.Ok Tryz.prog 66:=by
 refine fok (X:=⟨tt,[(107,JV)],[],19,[]⟩) mixed AQ (CTok.cons AAe (CTok.nil _)) Tryz.func66 (λ (i:(List Fr))=>[(2,.mk 3 (Nat) (λ x1=>{ tm:=[(0,tX 1),(1,tX 2),(7,tI (nI ((AG i).length))),(8,tI (nI x1))],en:=[(1,.view 40 z39 (AG i) []),(2,.ro (.fn 107 []) [])] }) (λ x1=>x1<=i.length) (λ x1=>i.length-x1) (λ _=>[]))]) ?_
 intro (l:List Fr) hpre
 have hpre:BC l/\l.length<=2000000000000:=hpre
 refine AP (q:=let Z3:=(.fn 107 []:RO)=.fn 107 [];let Z1:=nI ((AG l).length);(∃ x1:Nat,(x1<=l.length)/\((rf (vI Z1))/\(vI (0:Int)=vI (nI x1))/\(rf (AG l))/\Z3))/\∀ x1:Nat,let Z2:=(AG l).getD x1 [];(x1<=l.length)->(ifB ((decide ((nI x1)<Z1))) ((0<=(nI x1)/\(nI x1)<((AG l).length:Int))/\((x1<(AG l).length)/\(∃ i1:Fr,[DA.agg [cB (((Z2.getD 0 (.int 0))).b),cS (((Z2.getD 1 (.int 0))).r),cS (((Z2.getD 2 (.int 0))).r)]]=JV.args i1/\JV.pre i1/\(ifB ((!(i1.good))) ((vI (nI x1)=vI (-1:Int))) (∃ y2:Nat,(y2<=l.length)/\(l.length-y2<l.length-x1)/\((rf (vI Z1))/\(vI (wR ((nI x1)+(1:Int)))=vI (nI y2))/\(rf (AG l))/\Z3)))))) ((vI (-1:Int)=vI (-1:Int))))) (by kernel_rfl) ?_
 conv=>zeta
 delta ifB vI wR nI
 have hfl:=BM l
 refine ⟨⟨0,by
  first|trivial|omega|(simp;omega),?_⟩,?_⟩
 ·refine ⟨rfl,?_,rfl,?_⟩
  ·first|rfl|(simp;done)
  first|rfl|(simp;done)
 intro (k:Nat) hki1
 have hki1:k<=l.length:=hki1
 refine And.symm ⟨λ c7=>?_,λ c7=>?_⟩
 ·try simp only [nrm] at c7
  exact rfl
 try simp only [nrm] at c7
 refine ao (by first|rfl|omega) λ o8=>?_
 refine ao (by first|rfl|omega) λ o9=>?_
 refine ⟨l.getD k Fr.none,by
  (rw [BL (by omega)];rfl),by
  exact trivial,?_⟩
 refine ⟨λ c13=>?_,λ c13=>?_⟩
 ·try simp only [nrm] at c13
  exfalso
  have hg:=NE hpre.1 (show k<l.length by omega)
  rw [hg] at c13
  cases c13 -- done
 try simp only [nrm] at c13
 refine ⟨k+1,by
  first|trivial|omega|(simp;omega),by
  first|omega|(simp;omega),?_⟩
 refine ⟨rfl,?_,rfl,?_⟩
 ·first|rfl|exact AS (AC (by omega) (by omega))
 first|rfl|exact AS (AC (by omega) (by omega))
def GL:Con:={ ι:=(List Fr),pre:=λ i=>BC i/\i.length<=2000000000000,args:=λ i=>[.one (DC.sl 40 z39 (AG i)),.one (.ro (.fn 107 []))],tag:=108,res:=λ i=>⟨false,[none],[rcB false]⟩ }
theorem WY:GL.Ok Tryz.prog 106:=by
 refine fok (X:=⟨tt,[(66,GK)],[],9,[]⟩) mixed AQ (CTok.cons WX (CTok.nil _)) Tryz.func106 (λ _=>[]) ?_
 intro (l:List Fr) hpre
 have hpre:BC l/\l.length<=2000000000000:=hpre
 refine AP (q:=∃ i1:(List Fr),[DA.one (DC.sl 40 z39 (AG l)),DA.one (DC.ro (.fn 107 []))]=GK.args i1/\GK.pre i1/\((vB (decide ((-1:Int)≥(0:Int)))=vB false))) (by kernel_rfl) ?_
 delta vB
 refine ⟨l,by
  rfl,by
  exact hpre,?_⟩
 rfl
def CB:Con:={ ι:=(List Fr),pre:=λ i=>BC i/\i.length<=2000000000000,args:=λ i=>[.one (DC.sl 40 z39 (AG i))],res:=λ i=>⟨false,[none],[rcB true]⟩ }
theorem Ky:CB.Ok Tryz.prog 57:=by
 refine fok (X:=⟨tt,[(106,GL)],[],6,[]⟩) mixed AQ (CTok.cons WY (CTok.nil _)) Tryz.func57 (λ _=>[]) ?_
 intro (l:List Fr) hpre
 have hpre:BC l/\l.length<=2000000000000:=hpre
 refine AP (q:=∃ i1:(List Fr),[DA.one (DC.sl 40 z39 (AG l)),DA.one (DC.ro (.fn 107 []))]=GL.args i1/\GL.pre i1/\((vB (!false)=vB true))) (by kernel_rfl) ?_
 delta vB
 refine ⟨l,by
  rfl,by
  exact hpre,?_⟩
 rfl
def Ek:Con:={ ι:=(List Fr),pre:=λ i=>asc i/\BC i/\i.length<=2000000000000,args:=λ i=>[.one (DC.sl 40 z39 (AG i))],res:=λ i=>⟨false,[none],[rcB true]⟩ }
theorem Uz:Ek.Ok Tryz.prog 21:=by
 refine fok (X:=⟨tt,[(57,CB),(58,AJ)],[],24,[]⟩) mixed AQ (CTok.cons Ky (CTok.cons FY (CTok.nil _))) Tryz.func21 (λ (i:(List Fr))=>[(4,.mk 2 (Nat) (λ x1=>{ tm:=[(0,tX 1),(3,tI (nI (x1+1)))],en:=[(1,.view 40 z39 (AG i) [])] }) (λ x1=>x1<=i.length) (λ x1=>i.length-x1) (λ _=>[]))]) ?_
 intro (l:List Fr) hpre
 have hpre:asc l/\BC l/\l.length<=2000000000000:=hpre
 refine AP (q:=∃ i1:(List Fr),[DA.one (DC.sl 40 z39 (AG l))]=CB.args i1/\CB.pre i1/\(ifB ((!true)) ((vB false=vB true)) ((∃ x1:Nat,(x1<=l.length)/\((vI (1:Int)=vI (nI (x1+1)))/\(rf (AG l))))/\∀ x1:Nat,let Z4:=nI (x1+1);let Z3:=(AG l).getD (x1+1) [];let Z1:=wR (Z4-(1:Int));let Z2:=(AG l).getD (Z1.toNat) [];(x1<=l.length)->(ifB ((decide (Z4<(nI ((AG l).length))))) ((0<=Z1/\Z1<((AG l).length:Int))/\((Z1.toNat<(AG l).length)/\((0<=Z4/\Z4<((AG l).length:Int))/\(((x1+1)<(AG l).length)/\(∃ i2:Fr×Fr,[DA.agg [cB (((Z2.getD 0 (.int 0))).b),cS (((Z2.getD 1 (.int 0))).r),cS (((Z2.getD 2 (.int 0))).r)],DA.agg [cB (((Z3.getD 0 (.int 0))).b),cS (((Z3.getD 1 (.int 0))).r),cS (((Z3.getD 2 (.int 0))).r)]]=AJ.args i2/\AJ.pre i2/\(ifB ((decide ((Fr.cmp i2.1 i2.2)≥(0:Int)))) ((vB false=vB true)) (∃ y2:Nat,(y2<=l.length)/\(l.length-y2<l.length-x1)/\((vI (wR (Z4+(1:Int)))=vI (nI (y2+1)))/\(rf (AG l)))))))))) ((vB true=vB true)))))) (by kernel_rfl) ?_
 conv=>zeta
 delta ifB vB vI wR nI
 have hfl:=BM l
 refine ⟨l,by
  first|rfl|(rw [hn,BL (show k<l.length by omega),BL (show k+1<l.length by omega)];rfl),by
  show BC l/\l.length<=2000000000000
  first|exact hpre.2|exact trivial,?_⟩
 refine ⟨λ c4=>?_,λ c4=>?_⟩
 ·try simp only [nrm] at c4
  cases c4 -- done
 try simp only [nrm] at c4
 refine ⟨⟨0,by
  first|trivial|omega|(simp;omega),?_⟩,?_⟩
 ·refine ⟨?_,rfl⟩
  first|rfl
 intro (k:Nat) hki6
 have hki6:k<=l.length:=hki6
 refine And.symm ⟨λ c10=>?_,λ c10=>?_⟩
 ·try simp only [nrm] at c10
  exact rfl
 try simp only [nrm] at c10
 have hw:IntKind.i64.wrap (((k+1:Nat):Int)-(1:Int))=((k:Nat):Int):=by rw [AC (by omega) (by omega)];omega
 have hn:(IntKind.i64.wrap (((k+1:Nat):Int)-(1:Int))).toNat=k:=by rw [hw];exact Int.toNat_natCast _
 refine ao (by first|rfl|omega|(rw [hw];omega)|(rw [hn];omega)) λ o11=>?_
 refine ao (by first|rfl|omega|(rw [hw];omega)|(rw [hn];omega)) λ o12=>?_
 refine ao (by first|rfl|omega|(rw [hw];omega)|(rw [hn];omega)) λ o13=>?_
 refine ao (by first|rfl|omega|(rw [hw];omega)|(rw [hn];omega)) λ o14=>?_
 refine ⟨(l.getD k Fr.none,l.getD (k+1) Fr.none),by
  first|rfl|(rw [hn,BL (show k<l.length by omega),BL (show k+1<l.length by omega)];rfl),by
  first|exact hpre.2|exact trivial,?_⟩
 refine ⟨λ c18=>?_,λ c18=>?_⟩
 ·try simp only [nrm] at c18
  exfalso
  have:=Pt hpre.1 (show k<k+1 by omega) (show k+1<l.length by omega)
  omega -- done
 try simp only [nrm] at c18
 refine ⟨k+1,by
  first|trivial|omega|(simp;omega),by
  first|omega|(simp;omega),?_⟩
 refine ⟨?_,rfl⟩
 first|rfl|exact AS (by rw [AC (by omega) (by omega)];omega)
def Hy:Con:={ ι:=(List Fr),pre:=λ i=>asc i/\BC i/\i.length<=2000000000000,args:=λ i=>[.one (DC.sl 40 z39 (AG i))],res:=λ i=>⟨false,[none],[.own 40 [.bool,.sl 3 [.int],.sl 3 [.int]] (AG i)]⟩ }
theorem ZD:Hy.Ok Tryz.prog 27:=by
 refine fok (X:=⟨tt,[(57,CB),(65,BS),(54,CT)],[],9,[]⟩) mixed AQ (CTok.cons Ky (CTok.cons IC (CTok.cons Mj (CTok.nil _)))) Tryz.func27 (λ _=>[]) ?_
 intro (l:List Fr) hpre
 have hpre:asc l/\BC l/\l.length<=2000000000000:=hpre
 refine AP (q:=∃ i1:(List Fr),[DA.one (DC.sl 40 z39 (AG l))]=CB.args i1/\CB.pre i1/\(ifB ((!true)) ((([]:List (List Dat))=AG l)) (∃ i2:(List Fr),[DA.one (DC.sl 40 z39 (AG l))]=BS.args i2/\BS.pre i2/\(∃ i3:(List Fr),[DA.one (DC.sl 40 z39 (AG (Bp [] i2)))]=CT.args i3/\CT.pre i3/\((AG i3=AG l)))))) (by kernel_rfl) ?_
 delta ifB
 have hE:Bp [] l=l:=RU hpre.2.1 hpre.1
 refine ⟨l,by
  rfl,by
  exact hpre.2,?_⟩
 refine ⟨λ c4=>?_,λ c4=>?_⟩
 ·try simp only [nrm] at c4
  cases c4 -- done
 try simp only [nrm] at c4
 refine ⟨l,by
  rfl,by
  exact hpre.2,?_⟩
 refine ⟨(Bp [] l),by
  rfl,by
  show (Bp [] l).length<=2000000000000
  rw [hE];exact hpre.2.2,?_⟩
 rw [hE]
def JW:Con:={ ι:=Fr×Fr,pre:=λ i=>True,args:=λ i=>[dF i.1,.one (.ro (.ptr [.im (Value.bool (decide (i.2.z<0))),.sl 3 [.int] (L i.2.z.natAbs),.sl 3 [.int] (L i.2.d)]))],res:=λ i=>⟨false,[none],[rcB (eqF i.1 i.2)]⟩ }
theorem AAf:JW.Ok Tryz.prog 67:=by
 refine fok (X:=⟨tt,[(25,BG)],[],7,[]⟩) mixed AQ (CTok.cons Gw (CTok.nil _)) Tryz.func67 (λ _=>[]) ?_
 rintro ⟨r,x⟩ hpre
 have hpre:True:=hpre
 refine AP (q:=∃ i1:Fr×Fr,[dF r,dF x]=BG.args i1/\BG.pre i1/\((vB (eqF i1.1 i1.2)=vB (eqF r x)))) (by kernel_rfl) ?_
 delta vB
 refine ⟨(r,x),by
  rfl,by
  exact trivial,?_⟩
 exact rfl
def GM:Con:={ ι:=(List Fr)×Fr,pre:=λ i=>i.1.length<=2000000000000,args:=λ i=>[.one (DC.sl 40 z39 (AG i.1)),.one (.ro (.fn 67 [[.im (Value.bool (decide (i.2.z<0))),.sl 3 [.int] (L i.2.z.natAbs),.sl 3 [.int] (L i.2.d)]]))],tag:=68,res:=λ i=>⟨false,[none],[rcI (Gx (λ r=>eqF r i.2) i.1)]⟩ }
theorem WZ:GM.Ok Tryz.prog 66:=by
 refine fok (X:=⟨tt,[(67,JW)],[],19,[]⟩) mixed AQ (CTok.cons AAf (CTok.nil _)) Tryz.func66 (λ (i:(List Fr)×Fr)=>[(2,.mk 3 (Nat) (λ x1=>{ tm:=[(0,tX 1),(1,tX 2),(7,tI (nI ((AG i.1).length))),(8,tI (nI x1))],en:=[(1,.view 40 z39 (AG i.1) []),(2,.ro (.fn 67 [[.im (Value.bool (decide (i.2.z<0))),.sl 3 [.int] (L i.2.z.natAbs),.sl 3 [.int] (L i.2.d)]]) [])] }) (λ x1=>x1<=i.1.length/\∀ j,j<x1->(λ r=>eqF r i.2) (i.1.getD j Fr.none)=false) (λ x1=>i.1.length-x1) (λ _=>[]))]) ?_
 rintro ⟨l,x⟩ hpre
 have hpre:l.length<=2000000000000:=hpre
 refine AP (q:=let Z6:=L x.z.natAbs;let Z5:=Gx (λ r=>eqF r x) l;let Z3:=nI ((AG l).length);let Z2:=vB (decide (x.z<0));let Z1:=(.fn 67 [[.im Z2,.sl 3 [.int] Z6,.sl 3 [.int] (L x.d)]]:RO)=.fn 67 [[.im Z2,.sl 3 [.int] Z6,.sl 3 [.int] (L x.d)]];(∃ x1:Nat,(x1<=l.length/\∀ j,j<x1->(λ r=>eqF r x) (l.getD j Fr.none)=false)/\((rf (vI Z3))/\(vI (0:Int)=vI (nI x1))/\(rf (AG l))/\Z1))/\∀ x1:Nat,let Z4:=(AG l).getD x1 [];(x1<=l.length/\∀ j,j<x1->(λ r=>eqF r x) (l.getD j Fr.none)=false)->(ifB ((decide ((nI x1)<Z3))) ((0<=(nI x1)/\(nI x1)<((AG l).length:Int))/\((x1<(AG l).length)/\(∃ i1:Fr×Fr,[DA.agg [cB (((Z4.getD 0 (.int 0))).b),cS (((Z4.getD 1 (.int 0))).r),cS (((Z4.getD 2 (.int 0))).r)],DA.one (DC.ro (.ptr [.im Z2,.sl 3 [.int] Z6,.sl 3 [.int] (L x.d)]))]=JW.args i1/\JW.pre i1/\(ifB ((eqF i1.1 i1.2)) ((vI (nI x1)=vI Z5)) (∃ y2:Nat,(y2<=l.length/\∀ j,j<y2->(λ r=>eqF r x) (l.getD j Fr.none)=false)/\(l.length-y2<l.length-x1)/\((rf (vI Z3))/\(vI (wR ((nI x1)+(1:Int)))=vI (nI y2))/\(rf (AG l))/\Z1)))))) ((vI (-1:Int)=vI Z5)))) (by kernel_rfl) ?_
 conv=>zeta
 delta ifB vB vI wR nI
 have hfl:=BM l
 refine ⟨⟨0,by
  exact ⟨Nat.zero_le _,λ j hj=>absurd hj (Nat.not_lt_zero j)⟩,?_⟩,?_⟩
 ·refine ⟨rfl,?_,rfl,?_⟩
  ·first|rfl|(simp;done)
  first|rfl|(simp;done)
 intro (k:Nat) hki1
 have hki1:k<=l.length/\∀ j,j<k->(λ r=>eqF r x) (l.getD j Fr.none)=false:=hki1
 refine And.symm ⟨λ c7=>?_,λ c7=>?_⟩
 ·try simp only [nrm] at c7
  rw [J9 (d:=Fr.none) (λ j hj=>hki1.2 j (by omega))]
 try simp only [nrm] at c7
 refine ao (by first|rfl|omega) λ o8=>?_
 refine ao (by first|rfl|omega) λ o9=>?_
 refine ⟨(l.getD k Fr.none,x),by
  (rw [BL (by omega)];rfl),by
  exact trivial,?_⟩
 refine ⟨λ c13=>?_,λ c13=>?_⟩
 ·try simp only [nrm] at c13
  rw [LU (d:=Fr.none) (by omega) hki1.2 c13]
 try simp only [nrm] at c13
 refine ⟨k+1,by
  exact ⟨by omega,NF hki1.2 c13⟩,by
  first|omega|(simp;omega),?_⟩
 refine ⟨rfl,?_,rfl,?_⟩
 ·first|rfl|exact AS (AC (by omega) (by omega))
 first|rfl|exact AS (AC (by omega) (by omega))
def GN:Con:={ ι:=(List Fr)×Fr,pre:=λ i=>i.1.length<=2000000000000,args:=λ i=>[.one (DC.sl 40 z39 (AG i.1)),dF i.2],res:=λ i=>⟨false,[none],[rcI (Gx (λ r=>eqF r i.2) i.1)]⟩ }
theorem Wa:GN.Ok Tryz.prog 28:=by
 refine fok (X:=⟨tt,[(66,GM)],[],8,[]⟩) mixed AQ (CTok.cons WZ (CTok.nil _)) Tryz.func28 (λ _=>[]) ?_
 rintro ⟨l,x⟩ hpre
 have hpre:l.length<=2000000000000:=hpre
 refine AP (q:=∃ i1:(List Fr)×Fr,[DA.one (DC.sl 40 z39 (AG l)),DA.one (DC.ro (.fn 67 [[.im (vB (decide (x.z<0))),.sl 3 [.int] (L x.z.natAbs),.sl 3 [.int] (L x.d)]]))]=GM.args i1/\GM.pre i1/\((vI (Gx (λ r=>eqF r i1.2) i1.1)=vI (Gx (λ r=>eqF r x) l)))) (by kernel_rfl) ?_
 delta vB vI
 refine ⟨(l,x),by
  rfl,by
  exact hpre,?_⟩
 exact rfl
def EN:Con:={ ι:=(List Fr)×Fr,pre:=λ i=>i.2.good=true/\asc i.1/\BC i.1/\i.1.length<=2000000000000,args:=λ i=>[.one (DC.sl 40 z39 (AG i.1)),dF i.2],res:=λ i=>⟨false,[none],[rcI (NZ i.1 i.2)]⟩ }
theorem ZE:EN.Ok Tryz.prog 29:=by
 refine fok (X:=⟨tt,[(21,Ek),(68,Bi),(58,AJ)],[],39,[]⟩) mixed AQ (CTok.cons Uz (CTok.cons MW (CTok.cons FY (CTok.nil _)))) Tryz.func29 (λ (i:(List Fr)×Fr)=>[(4,.mk 5 (Nat) (λ x1=>{ tm:=[(0,tX 1),(3,tP 2 0),(5,tI (nI (x1+1)))],en:=[(2,.box [kB (decide (i.2.z<0)),.ext 3,.ext 4]),(1,.view 40 z39 (AG i.1) []),(3,eV (L i.2.z.natAbs)),(4,eV (L i.2.d))] }) (λ x1=>x1<=i.1.length/\∀ j,j<x1->GZ i.1 i.2 j=false) (λ x1=>i.1.length-x1) (λ _=>[]))]) ?_
 rintro ⟨l,x⟩ hpre
 have hpre:x.good=true/\asc l/\BC l/\l.length<=2000000000000:=hpre
 refine AP (q:=let Z7:=L x.z.natAbs;let Z6:=vB (decide (x.z<0));let Z2:=(vI (-1:Int)=vI (NZ l x));∃ i1:(List Fr),[DA.one (DC.sl 40 z39 (AG l))]=Ek.args i1/\Ek.pre i1/\(ifB ((!(!true))) (∃ i2:Bool×(List (List Dat))×(List (List Dat)),[dF x]=Bi.args i2/\Bi.pre i2/\(ifB ((!(Bw i2.1 i2.2.1 i2.2.2))) Z2 ((∃ x1:Nat,(x1<=l.length/\∀ j,j<x1->GZ l x j=false)/\((vI (1:Int)=vI (nI (x1+1)))/\(rf Z6)/\(rf (AG l))/\(rf Z7)/\(rf (L x.d))))/\∀ x1:Nat,let Z5:=(AG l).getD (x1+1) [];let Z3:=nI (x1+1);let Z1:=wR (Z3-(1:Int));let Z4:=(AG l).getD (Z1.toNat) [];(x1<=l.length/\∀ j,j<x1->GZ l x j=false)->(ifB ((decide (Z3<(nI ((AG l).length))))) ((0<=Z1/\Z1<((AG l).length:Int))/\((Z1.toNat<(AG l).length)/\(∃ i3:Fr×Fr,[DA.agg [cB (((Z4.getD 0 (.int 0))).b),cS (((Z4.getD 1 (.int 0))).r),cS (((Z4.getD 2 (.int 0))).r)],dF x]=AJ.args i3/\AJ.pre i3/\(ifB ((decide ((Fr.cmp i3.1 i3.2)<(0:Int)))) ((0<=Z3/\Z3<((AG l).length:Int))/\(((x1+1)<(AG l).length)/\(∃ i4:Fr×Fr,[dF x,DA.agg [cB (((Z5.getD 0 (.int 0))).b),cS (((Z5.getD 1 (.int 0))).r),cS (((Z5.getD 2 (.int 0))).r)]]=AJ.args i4/\AJ.pre i4/\(ifB ((decide ((Fr.cmp i4.1 i4.2)<(0:Int)))) ((vI Z1=vI (NZ l x))) (∃ y2:Nat,(y2<=l.length/\∀ j,j<y2->GZ l x j=false)/\(l.length-y2<l.length-x1)/\((vI (wR (Z3+(1:Int)))=vI (nI (y2+1)))/\(rf Z6)/\(rf (AG l))/\(rf Z7)/\(rf (L x.d)))))))) (∃ y3:Nat,(y3<=l.length/\∀ j,j<y3->GZ l x j=false)/\(l.length-y3<l.length-x1)/\((vI (wR (Z3+(1:Int)))=vI (nI (y3+1)))/\(rf Z6)/\(rf (AG l))/\(rf Z7)/\(rf (L x.d)))))))) Z2)))) Z2)) (by kernel_rfl) ?_
 conv=>zeta
 delta ifB vB vI wR nI
 have hfl:=BM l
 have h1x:=x.nlz
 have h2x:=x.nld
 have l1x:=Aq x.d
 have l2x:=Aq x.z.natAbs
 refine ⟨l,by
  first|rfl|(rw [hn,BL (show k<l.length by omega)];rfl)|(rw [BL (show k+1<l.length by omega)];rfl),by
  exact hpre.2,?_⟩
 refine And.symm ⟨λ c4=>?_,λ c4=>?_⟩
 ·try simp only [nrm] at c4
  cases c4 -- done
 try simp only [nrm] at c4
 refine ⟨(decide (x.z<0),(L x.z.natAbs),(L x.d)),by
  first|rfl|(rw [hn,BL (show k<l.length by omega)];rfl)|(rw [BL (show k+1<l.length by omega)];rfl),by
  show Dat.has (.sl 3 [.int]) (.sl (L x.z.natAbs))/\Dat.has (.sl 3 [.int]) (.sl (L x.d))/\(L x.z.natAbs).length<=9223372036854775807/\(L x.d).length<=9223372036854775807
  exact ⟨Kq _ (by omega),Kq _ (by omega),by omega,by omega⟩,?_⟩
 refine ⟨λ c8=>?_,λ c8=>?_⟩
 ·try simp only [nrm] at c8
  rw [EK,hpre.1] at c8;cases c8 -- done
 try simp only [nrm] at c8
 refine ⟨⟨0,by
  exact ⟨Nat.zero_le _,λ j hj=>absurd hj (Nat.not_lt_zero j)⟩,?_⟩,?_⟩
 ·refine ⟨?_,rfl,rfl,rfl,rfl⟩
  first|rfl
 intro (k:Nat) hki10
 have hki10:k<=l.length/\∀ j,j<k->GZ l x j=false:=hki10
 refine And.symm ⟨λ c17=>?_,λ c17=>?_⟩
 ·try simp only [nrm] at c17
  rw [R4 (λ j hj=>hki10.2 j (by omega))]
 try simp only [nrm] at c17
 have hw:IntKind.i64.wrap (((k+1:Nat):Int)-(1:Int))=((k:Nat):Int):=by rw [AC (by omega) (by omega)];omega
 have hn:(IntKind.i64.wrap (((k+1:Nat):Int)-(1:Int))).toNat=k:=by rw [hw];exact Int.toNat_natCast _
 refine ao (by first|rfl|omega|(rw [hw];omega)|(rw [hn];omega)) λ o18=>?_
 refine ao (by first|rfl|omega|(rw [hw];omega)|(rw [hn];omega)) λ o19=>?_
 refine ⟨(l.getD k Fr.none,x),by
  first|rfl|(rw [hn,BL (show k<l.length by omega)];rfl)|(rw [BL (show k+1<l.length by omega)];rfl),by
  exact trivial,?_⟩
 refine And.symm ⟨λ c23=>?_,λ c23=>?_⟩
 ·try simp only [nrm] at c23
  have hs:GZ l x k=false:=by unfold GZ;rw [decide_eq_false (by omega)];rfl
  refine ⟨k+1,by
   exact ⟨by omega,NF hki10.2 hs⟩,by
   first|omega|(simp;omega),?_⟩
  refine ⟨?_,rfl,rfl,rfl,rfl⟩
  first|rfl|exact AS (by rw [AC (by omega) (by omega)];omega)
 try simp only [nrm] at c23
 refine ao (by first|rfl|omega|(rw [hw];omega)|(rw [hn];omega)) λ o24=>?_
 refine ao (by first|rfl|omega|(rw [hw];omega)|(rw [hn];omega)) λ o25=>?_
 refine ⟨(x,l.getD (k+1) Fr.none),by
  first|rfl|(rw [hn,BL (show k<l.length by omega)];rfl)|(rw [BL (show k+1<l.length by omega)];rfl),by
  exact trivial,?_⟩
 refine ⟨λ c29=>?_,λ c29=>?_⟩
 ·try simp only [nrm] at c29
  have hs:GZ l x k=true:=by unfold GZ;rw [decide_eq_true (by omega),decide_eq_true (by omega)];rfl
  rw [ZC (by omega) hki10.2 hs,hw]
 try simp only [nrm] at c29
 have hs:GZ l x k=false:=by unfold GZ;rw [decide_eq_false (show ¬ Fr.cmp x (l.getD (k+1) Fr.none)<0 by omega),Bool.and_false]
 refine ⟨k+1,by
  exact ⟨by omega,NF hki10.2 hs⟩,by
  first|omega|(simp;omega),?_⟩
 refine ⟨?_,rfl,rfl,rfl,rfl⟩
 first|rfl|exact AS (by rw [AC (by omega) (by omega)];omega)
end Go.Proofs.YtkffpiaagjcmpaaGreat
namespace Go.Proofs.YtkffpiaagjcmpaaGreat
set_option linter.unusedVariables false
set_option linter.unusedSimpArgs false
open Go.RowKit
def fS (b:List UInt8):Scn:=GE b (BI b)
def fH (b:List UInt8):Int:=Int.tmod (Ph b 1) 4
def fB (b:List UInt8):V2×V2:=AY (fS b) (fH b)
def fA (b:List UInt8):List (List V2):=blk (fS b) (fH b)
def fE (b:List UInt8):List Fr:=evR (fB b).1.1 (fB b).1.2 (fB b).2.1 (fB b).2.2 (fA b)
def fM (b:List UInt8):Fr:=Fr.mul (rOf 1 2) (Fr.add ((fE b).getD 0 Fr.none) ((fE b).getD 1 Fr.none))
theorem To (b:List UInt8):0<=fH b/\fH b<=3:=by
 have:=Yi b 1
 have h1:=Int.tmod_nonneg 4 this.1
 have h2:=Int.tmod_lt_of_pos (Ph b 1) (show (0:Int)<4 by omega)
 exact ⟨h1,by show Int.tmod _ _<=3;omega⟩
theorem ABr (b:List UInt8):(AI (fS b) && inR (fH b) 0 3)=true:=by
 rw [show AI (fS b)=true from (GH b (BI b)).1,Bool.true_and];exact BK.2 (To b)
theorem Tp (b:List UInt8):A3 (fS b) (fH b)=true/\(fB b).1.1<(fB b).2.1/\(fB b).1.1.natAbs<=1024/\(fB b).2.1.natAbs<=1024/\(fB b).1.2.natAbs<=1024/\(fB b).2.2.natAbs<=1024:=by
 have hV:=ABr b
 obtain ⟨r1,r2,r3⟩:=IZ hV
 have hn:=(Da r1).1
 have hs:AI (fS b)=true:=(GH b (BI b)).1
 have e:=Dy hs (To b)
 have q:=Pf (b:=b) (z:=2) (by omega) (Td b (BI b))
 have hbd:∀ p ∈ AF (fS b) (fH b),-2<=p.1/\p.1<=2/\-2<=p.2/\p.2<=2:=λ p hp=>by
  rw [e] at hp
  obtain ⟨v,hv,rfl⟩:=List.mem_map.1 hp
  have:=q.2.2 v hv
  exact Tt (by omega) _
 have hz:=hbd _ (show (AF (fS b) (fH b)).getD 0 (0,0) ∈ AF (fS b) (fH b) by simp [List.getD,show 0<(AF (fS b) (fH b)).length by omega])
 have b1:=Ic (m:=2) (AF (fS b) (fH b)) ((AF (fS b) (fH b)).getD 0 (0,0)) hz hbd
 have b2:=Id (m:=2) (AF (fS b) (fH b)) ((AF (fS b) (fH b)).getD 0 (0,0)) hz hbd
 rw [show (AF (fS b) (fH b)).foldl Ia ((AF (fS b) (fH b)).getD 0 (0,0))=Do (AF (fS b) (fH b)) from rfl] at b1
 rw [show (AF (fS b) (fH b)).foldl Ib ((AF (fS b) (fH b)).getD 0 (0,0))=CM (AF (fS b) (fH b)) from rfl] at b2
 have q1:=A4 b (BI b) (n:=12) (by omega)
 have q2:=A4 b (blC b (BI b) 12) (n:=10) (by omega)
 have eb:GQ (fS b) (fH b).toNat=((0-(Do (AF (fS b) (fH b))).1,0-(Do (AF (fS b) (fH b))).2),(14+blV b (BI b) 12-(CM (AF (fS b) (fH b))).1,12+blV b (blC b (BI b) 12) 10-(CM (AF (fS b) (fH b))).2)):=by rw [e];rfl
 have ho:A3 (fS b) (fH b)=true:=by
  rw [GJ hV,eb]
  unfold G5
  rw [decide_eq_true (by simp only;omega),decide_eq_true (by simp only;omega)];rfl
 refine ⟨ho,?_⟩
 unfold fB
 rw [Kx ho,eb]
 simp only
 omega
theorem U0 {ls:List (List V2)} (h:BU ls=true):∀ k,k<=ls.length->I6 ls k<=16*k
 | 0,_=>Nat.le_refl _
 | k+1,hk=>by
  have h1:=U0 h k (by omega)
  have h2:=(CG (Fb h (show k<ls.length by omega))).2.2
  unfold I6;omega
theorem Tq (b:List UInt8):BU (fA b)=true/\(fA b).length<=3:=by
 refine ⟨List.all_eq_true.2 (WW _ _),?_⟩
 have h3:=(GH b (BI b)).2
 unfold fA blk
 split
 ·simp
 ·have:=Rv (fS b) (fH b) (fS b).obst.length
  rw [Ao] at this
  exact Nat.le_trans this h3
theorem ABs (b:List UInt8):EvLaw (fE b) (fB b).1.1 (fB b).2.1:=by
 obtain ⟨-,h1,h2,h3,-⟩:=Tp b
 exact ABl (Tq b).1 h1 h2 h3
theorem AA5 (b:List UInt8):TN (fA b):=by
 have hA:=Tq b
 exact ⟨hA.1,by omega,Nat.le_trans (U0 hA.1 _ (Nat.le_refl _)) (by omega)⟩
theorem ABt (b:List UInt8):(fE b).length<=2000000000000:=by
 obtain ⟨-,h1,-⟩:=Tp b
 unfold fE evR
 rw [if_pos ⟨(Tq b).1,h1⟩]
 have q1:=OV (evF (Fr.ofInt (fB b).1.1) (Fr.ofInt (fB b).2.1) (cA (fA b) (fA b).length++cE (edA (fA b)) (fB b).1.2 (fB b).2.2 (edA (fA b)).length)) [Fr.ofInt (fB b).1.1,Fr.ofInt (fB b).2.1]
 have q2:=(PR (AA5 b) (lo:=Fr.ofInt (fB b).1.1) (hi:=Fr.ofInt (fB b).2.1) (ly:=(fB b).1.2) (hy:=(fB b).2.2) (Nat.le_refl _) 0).2
 rw [BM] at q2
 simp only [List.length_cons,List.length_nil] at q1
 omega
theorem ABu {l:List Fr} (ha:asc l) (h2:2<=l.length):Gx (λ r=>eqF r (l.getD 1 Fr.none)) l=1:=by
 refine LU (d:=Fr.none) (k:=1) (by omega) (λ j hj=>?_) (Hj.2 rfl)
 obtain rfl:j=0:=by omega
 cases h:eqF (l.getD 0 Fr.none) (l.getD 1 Fr.none) with
 | false=>rfl
 | true=>
  have:=Pt ha (show 0<1 by omega) (by omega)
  rw [Hj.1 h,Fc] at this
  omega
theorem AAg {l:List Fr} {m:Fr} (h2:2<=l.length) (h:Fr.cmp (l.getD 0 Fr.none) m<0) (h' : Fr.cmp m (l.getD 1 Fr.none)<0):NZ l m=0:=
 ZC (k:=0) (by omega) (λ j hj=>absurd hj (Nat.not_lt_zero j)) (by unfold GZ;rw [decide_eq_true h,decide_eq_true h'];rfl)
theorem AAh {l:List Fr} (hg:BC l) (ha:asc l) (h2:2<=l.length):NZ l (l.getD 1 Fr.none)=-1:=by
 refine R4 λ j hj=>?_
 unfold GZ
 by_cases h0:j=0
 ·subst h0
  rw [decide_eq_false (show ¬ Fr.cmp (l.getD 1 Fr.none) (l.getD (0+1) Fr.none)<0 by rw [Fc];omega),Bool.and_false]
 ·rw [decide_eq_false,Bool.false_and]
  by_cases h1:j=1
  ·subst h1;rw [Fc];omega
  ·have h3:=Pt ha (show 1<j by omega) (by omega)
   have h4:=KD (hg (l.getD 1 Fr.none) (by simp [List.getD,show 1<l.length by omega])) (hg (l.getD j Fr.none) (by simp [List.getD,show j<l.length by omega]))
   omega
theorem KT {n:Int} (h:n.natAbs<=1024):-9223372036854775808<=n/\n<=9223372036854775807:=by omega
def Wb:Con:={ ι:=(List UInt8),pre:=λ i=>True,args:=λ i=>[.one (.ro (.bytes i))],res:=λ i=>⟨false,[none],[rcB true]⟩ }
set_option maxRecDepth 100000 in
set_option maxHeartbeats 4000000 in
theorem ZF:Wb.Ok Tryz.prog 5:=by
 refine fok (X:=⟨tt,[(6,Hv),(7,Hs),(18,JU),(20,JS),(19,Cj),(21,Ek),(23,Dc),(24,E9),(22,FA),(26,C5),(25,BG),(27,Hy),(28,GN),(29,EN)],[],98,[]⟩) mixed AQ (CTok.cons Yk (CTok.cons Yj (CTok.cons AAd (CTok.cons AAb (CTok.cons PV (CTok.cons Uz (CTok.cons RI (CTok.cons Tm (CTok.cons Tn (CTok.cons Tl (CTok.cons Gw (CTok.cons ZD (CTok.cons Wa (CTok.cons ZE (CTok.nil _))))))))))))))) Tryz.func5 (λ _=>[]) ?_
 intro (b:List UInt8) hpre
 have hpre:True:=hpre
 refine AP (q:=let Z4:=(vB false=vB true);ifB ((decide ((nI b.length)>(1048576:Int)))) ((vB true=vB true)) (∃ i1:(List UInt8),let Z3:=GE i1 (BI i1);[DA.one (DC.ro (.bytes b))]=Hv.args i1/\Hv.pre i1/\(∃ i2:(List UInt8)×Nat,let Z13:=cI (Int.tmod (Ph i2.1 i2.2) (4:Int));[DA.one (DC.ro (.bytes b)),DA.one (cI (1:Int))]=Hs.args i2/\Hs.pre i2/\(((4:Int)≠0)/\(∃ i3:Scn×Int,let Z5:=AY i3.1 i3.2;[DA.agg [cI 0,cI 0,cI (Z3.high.1),cI (Z3.high.2),DC.sl 24 [.int,.int] (AA Z3.robot),DC.sl 25 [.sl 24 [.int,.int]] (AM Z3.obst),DC.sl 24 [.int,.int] (AA Z3.tables)],DA.one Z13]=JU.args i3/\JU.pre i3/\(ifB ((!(A3 i3.1 i3.2))) Z4 (∃ i4:Scn×Int,[DA.agg [cI 0,cI 0,cI (Z3.high.1),cI (Z3.high.2),DC.sl 24 [.int,.int] (AA Z3.robot),DC.sl 25 [.sl 24 [.int,.int]] (AM Z3.obst),DC.sl 24 [.int,.int] (AA Z3.tables)],DA.one Z13]=JS.args i4/\JS.pre i4/\(∃ i5:Int×Int×Int×Int×(List (List V2)),let Z1:=AG (evR i5.1 i5.2.1 i5.2.2.1 i5.2.2.2.1 i5.2.2.2.2);let Z15:=nI (Z1.length);let Z9:=Z1.getD 0 [];let Z18:=((Z9.getD 2 (.int 0))).r;let Z17:=((Z9.getD 1 (.int 0))).r;let Z16:=((Z9.getD 0 (.int 0))).b;let Z8:=DC.sl 40 z39 Z1;let Z7:=(Z1.length:Int);let Z6:=Z1.getD 1 [];let Z12:=((Z6.getD 2 (.int 0))).r;let Z11:=((Z6.getD 1 (.int 0))).r;let Z10:=((Z6.getD 0 (.int 0))).b;let Z2:=wR (Z15-(1:Int));let Z14:=Z1.getD (Z2.toNat) [];[DA.agg [cI (Z5.1.1),cI (Z5.1.2),cI (Z5.2.1),cI (Z5.2.2)],DA.one (DC.sl 25 [.sl 24 [.int,.int]] (AM (blk i4.1 i4.2)))]=Cj.args i5/\Cj.pre i5/\(ifB ((!(decide (Z15<(2:Int))))) (∃ i6:(List Fr),[DA.one Z8]=Ek.args i6/\Ek.pre i6/\(ifB ((!true)) Z4 (∃ i7:Int×Int,[DA.one (cI (1:Int)),DA.one (cI (2:Int))]=Dc.args i7/\Dc.pre i7/\((0<=(0:Int)/\(0:Int)<Z7)/\((0<Z1.length)/\((0<=(1:Int)/\(1:Int)<Z7)/\((1<Z1.length)/\(∃ i8:Fr×Fr,[DA.agg [cB Z16,cS Z17,cS Z18],DA.agg [cB Z10,cS Z11,cS Z12]]=E9.args i8/\E9.pre i8/\(∃ i9:Fr×Fr,[dF (rOf i7.1 i7.2),dF (Fr.add i8.1 i8.2)]=FA.args i9/\FA.pre i9/\((0<=(0:Int)/\(0:Int)<Z7)/\((0<Z1.length)/\(∃ i10:Int,[DA.one (cI (Z5.1.1))]=C5.args i10/\C5.pre i10/\(∃ i11:Fr×Fr,[DA.agg [cB Z16,cS Z17,cS Z18],dF (Fr.ofInt i10)]=BG.args i11/\BG.pre i11/\(ifB ((eqF i11.1 i11.2)) ((0<=Z2/\Z2<Z7)/\((Z2.toNat<Z1.length)/\(∃ i12:Int,[DA.one (cI (Z5.2.1))]=C5.args i12/\C5.pre i12/\(∃ i13:Fr×Fr,[DA.agg [cB (((Z14.getD 0 (.int 0))).b),cS (((Z14.getD 1 (.int 0))).r),cS (((Z14.getD 2 (.int 0))).r)],dF (Fr.ofInt i12)]=BG.args i13/\BG.pre i13/\(ifB ((eqF i13.1 i13.2)) (∃ i14:(List Fr),[DA.one Z8]=Hy.args i14/\Hy.pre i14/\(ifB (((nI ((AG i14).length)) == Z15)) ((0<=(1:Int)/\(1:Int)<Z7)/\((1<Z1.length)/\(∃ i15:(List Fr)×Fr,[DA.one Z8,DA.agg [cB Z10,cS Z11,cS Z12]]=GN.args i15/\GN.pre i15/\(ifB (((Gx (λ r=>eqF r i15.2) i15.1) == (1:Int))) (∃ i16:(List Fr)×Fr,[DA.one Z8,dF (Fr.mul i9.1 i9.2)]=EN.args i16/\EN.pre i16/\(ifB (((NZ i16.1 i16.2) == (0:Int))) ((0<=(1:Int)/\(1:Int)<Z7)/\((1<Z1.length)/\(∃ i17:(List Fr)×Fr,[DA.one Z8,DA.agg [cB Z10,cS Z11,cS Z12]]=EN.args i17/\EN.pre i17/\((vB ((NZ i17.1 i17.2) == (-1:Int))=vB true))))) Z4)) Z4)))) Z4)) Z4))))) Z4)))))))))))))) Z4))))))))) (by kernel_rfl) ?_
 conv=>zeta
 delta ifB vB wR nI
 refine ⟨λ c1=>?_,λ c1=>?_⟩
 ·try simp only [nrm] at c1
  exact rfl
 try simp only [nrm] at c1
 have hlen:b.length<=1048576:=by omega
 have rh:=To b
 have hV:=GH b (BI b)
 obtain ⟨ho,hbx,n1,n2,n3,n4⟩:=Tp b
 have Q:=ABs b
 have hsz:IA (fS b):=(Yw hV.1).1
 have hfl:(AG (evR (fB b).1.1 (fB b).1.2 (fB b).2.1 (fB b).2.2 (fA b))).length=(fE b).length:=BM (fE b)
 have h2:=Q.two
 have hel:=ABt b
 have hao:=AA5 b
 have g0:=NE Q.good (show 0<(fE b).length by omega)
 have g1:=NE Q.good (show 1<(fE b).length by omega)
 have hr0:(AG (evR (fB b).1.1 (fB b).1.2 (fB b).2.1 (fB b).2.2 (fA b))).getD 0 []=frD ((fE b).getD 0 Fr.none):=BL (l:=fE b) (by omega)
 have hr1:(AG (evR (fB b).1.1 (fB b).1.2 (fB b).2.1 (fB b).2.2 (fA b))).getD 1 []=frD ((fE b).getD 1 Fr.none):=BL (l:=fE b) (by omega)
 have hr9:(AG (evR (fB b).1.1 (fB b).1.2 (fB b).2.1 (fB b).2.2 (fA b))).getD ((fE b).length-1) []=frD ((fE b).getD ((fE b).length-1) Fr.none):=BL (l:=fE b) (by omega)
 have hw:IntKind.i64.wrap ((((AG (evR (fB b).1.1 (fB b).1.2 (fB b).2.1 (fB b).2.2 (fA b))).length:Nat):Int)-(1:Int))=(((fE b).length-1:Nat):Int):=by rw [hfl,AC (by omega) (by omega)];omega
 have hwn:(IntKind.i64.wrap ((((AG (evR (fB b).1.1 (fB b).1.2 (fB b).2.1 (fB b).2.2 (fA b))).length:Nat):Int)-(1:Int))).toNat=(fE b).length-1:=by rw [hw];exact Int.toNat_natCast _
 refine ⟨b,by
  rfl,by
  exact hlen,?_⟩
 refine ⟨(b,1),by
  rfl,by
  show b.length<=1048576/\1<=100
  exact ⟨hlen,by omega⟩,?_⟩
 refine ao (by first|rfl|omega|(rw [hw];omega)|(rw [hwn];omega)) λ o9=>?_
 refine ⟨((fS b),(fH b)),by
  rfl,by
  exact hsz,?_⟩
 refine ⟨λ c13=>?_,λ c13=>?_⟩
 ·try simp only [nrm] at c13
  rw [ho] at c13;cases c13 -- done
 try simp only [nrm] at c13
 refine ⟨((fS b),(fH b)),by
  rfl,by
  exact hsz,?_⟩
 refine ⟨((fB b).1.1,(fB b).1.2,(fB b).2.1,(fB b).2.2,fA b),by
  rfl,by
  try dsimp only [Cj]
  exact ⟨hao.2.1,hao.2.2,KT n1,KT n3,KT n2,KT n4⟩,?_⟩
 refine And.symm ⟨λ c21=>?_,λ c21=>?_⟩
 ·try simp only [nrm] at c21
  exfalso;omega -- done
 try simp only [nrm] at c21
 refine ⟨fE b,by
  rfl,by
  show asc (fE b)/\BC (fE b)/\(fE b).length<=2000000000000
  exact ⟨Q.asc,Q.good,hel⟩,?_⟩
 refine ⟨λ c25=>?_,λ c25=>?_⟩
 ·try simp only [nrm] at c25
  cases c25 -- done
 try simp only [nrm] at c25
 refine ⟨((1:Int),(2:Int)),by
  rfl,by
  show (-9223372036854775808<=(1:Int)/\(1:Int)<=9223372036854775807)/\(-9223372036854775808<=(2:Int)/\(2:Int)<=9223372036854775807)
  omega,?_⟩
 refine ao (a:=0<=(0:Int)/\(0:Int)<((AG (evR ((fB b).1.1) ((fB b).1.2) ((fB b).2.1) ((fB b).2.2) (fA b))).length:Int)) (by first|rfl|omega|(rw [hw];omega)|(rw [hwn];omega)) λ o30=>?_
 refine ao (a:=0<(AG (evR ((fB b).1.1) ((fB b).1.2) ((fB b).2.1) ((fB b).2.2) (fA b))).length) (by first|rfl|omega|(rw [hw];omega)|(rw [hwn];omega)) λ o31=>?_
 refine ao (a:=0<=(1:Int)/\(1:Int)<((AG (evR ((fB b).1.1) ((fB b).1.2) ((fB b).2.1) ((fB b).2.2) (fA b))).length:Int)) (by first|rfl|omega|(rw [hw];omega)|(rw [hwn];omega)) λ o32=>?_
 refine ao (a:=1<(AG (evR ((fB b).1.1) ((fB b).1.2) ((fB b).2.1) ((fB b).2.2) (fA b))).length) (by first|rfl|omega|(rw [hw];omega)|(rw [hwn];omega)) λ o33=>?_
 refine ⟨((fE b).getD 0 Fr.none,(fE b).getD 1 Fr.none),by
  rw [hr0,hr1];rfl,by
  show ((fE b).getD 0 Fr.none).good=true/\((fE b).getD 1 Fr.none).good=true
  exact ⟨g0,g1⟩,?_⟩
 refine ⟨(rOf 1 2,Fr.add ((fE b).getD 0 Fr.none) ((fE b).getD 1 Fr.none)),by
  rfl,by
  show (rOf 1 2).good=true/\(Fr.add ((fE b).getD 0 Fr.none) ((fE b).getD 1 Fr.none)).good=true
  exact ⟨Q.hg,Q.ag⟩,?_⟩
 refine ao (a:=0<=(0:Int)/\(0:Int)<((AG (evR ((fB b).1.1) ((fB b).1.2) ((fB b).2.1) ((fB b).2.2) (fA b))).length:Int)) (by first|rfl|omega|(rw [hw];omega)|(rw [hwn];omega)) λ o40=>?_
 refine ao (a:=0<(AG (evR ((fB b).1.1) ((fB b).1.2) ((fB b).2.1) ((fB b).2.2) (fA b))).length) (by first|rfl|omega|(rw [hw];omega)|(rw [hwn];omega)) λ o41=>?_
 refine ⟨(fB b).1.1,by
  rfl,by
  show (-9223372036854775808<=((fB b).1.1)/\((fB b).1.1)<=9223372036854775807)
  exact KT n1,?_⟩
 refine ⟨((fE b).getD 0 Fr.none,Fr.ofInt (fB b).1.1),by
  rw [hr0];rfl,by
  exact trivial,?_⟩
 refine And.symm ⟨λ c48=>?_,λ c48=>?_⟩
 ·try simp only [nrm] at c48
  rw [Hj.2 Q.first] at c48;cases c48 -- done
 try simp only [nrm] at c48
 refine ao (a:=0<=(IntKind.i64.wrap ((((AG (evR ((fB b).1.1) ((fB b).1.2) ((fB b).2.1) ((fB b).2.2) (fA b))).length:Nat):Int)-(1:Int)))/\(IntKind.i64.wrap ((((AG (evR ((fB b).1.1) ((fB b).1.2) ((fB b).2.1) ((fB b).2.2) (fA b))).length:Nat):Int)-(1:Int)))<((AG (evR ((fB b).1.1) ((fB b).1.2) ((fB b).2.1) ((fB b).2.2) (fA b))).length:Int)) (by first|rfl|omega|(rw [hw];omega)|(rw [hwn];omega)) λ o49=>?_
 refine ao (a:=(IntKind.i64.wrap ((((AG (evR ((fB b).1.1) ((fB b).1.2) ((fB b).2.1) ((fB b).2.2) (fA b))).length:Nat):Int)-(1:Int))).toNat<(AG (evR ((fB b).1.1) ((fB b).1.2) ((fB b).2.1) ((fB b).2.2) (fA b))).length) (by first|rfl|omega|(rw [hw];omega)|(rw [hwn];omega)) λ o50=>?_
 refine ⟨(fB b).2.1,by
  rfl,by
  show (-9223372036854775808<=((fB b).2.1)/\((fB b).2.1)<=9223372036854775807)
  exact KT n2,?_⟩
 refine ⟨((fE b).getD ((fE b).length-1) Fr.none,Fr.ofInt (fB b).2.1),by
  rw [hwn,hr9];rfl,by
  exact trivial,?_⟩
 refine And.symm ⟨λ c57=>?_,λ c57=>?_⟩
 ·try simp only [nrm] at c57
  rw [Hj.2 Q.last] at c57;cases c57 -- done
 try simp only [nrm] at c57
 refine ⟨fE b,by
  rfl,by
  show asc (fE b)/\BC (fE b)/\(fE b).length<=2000000000000
  exact ⟨Q.asc,Q.good,hel⟩,?_⟩
 refine And.symm ⟨λ c61=>?_,λ c61=>?_⟩
 ·try simp only [nrm] at c61
  exact absurd rfl c61 -- done
 try simp only [nrm] at c61
 refine ao (a:=0<=(1:Int)/\(1:Int)<((AG (evR ((fB b).1.1) ((fB b).1.2) ((fB b).2.1) ((fB b).2.2) (fA b))).length:Int)) (by first|rfl|omega|(rw [hw];omega)|(rw [hwn];omega)) λ o62=>?_
 refine ao (a:=1<(AG (evR ((fB b).1.1) ((fB b).1.2) ((fB b).2.1) ((fB b).2.2) (fA b))).length) (by first|rfl|omega|(rw [hw];omega)|(rw [hwn];omega)) λ o63=>?_
 refine ⟨(fE b,(fE b).getD 1 Fr.none),by
  rw [hr1];rfl,by
  exact hel,?_⟩
 refine And.symm ⟨λ c67=>?_,λ c67=>?_⟩
 ·try simp only [nrm] at c67
  exact absurd (ABu Q.asc Q.two) c67 -- done
 try simp only [nrm] at c67
 refine ⟨(fE b,fM b),by
  rfl,by
  show (fM b).good=true/\asc (fE b)/\BC (fE b)/\(fE b).length<=2000000000000
  exact ⟨Q.mg,Q.asc,Q.good,hel⟩,?_⟩
 refine And.symm ⟨λ c71=>?_,λ c71=>?_⟩
 ·try simp only [nrm] at c71
  exact absurd (AAg Q.two Q.m1 Q.m2) c71 -- done
 try simp only [nrm] at c71
 refine ao (a:=0<=(1:Int)/\(1:Int)<((AG (evR ((fB b).1.1) ((fB b).1.2) ((fB b).2.1) ((fB b).2.2) (fA b))).length:Int)) (by first|rfl|omega|(rw [hw];omega)|(rw [hwn];omega)) λ o72=>?_
 refine ao (a:=1<(AG (evR ((fB b).1.1) ((fB b).1.2) ((fB b).2.1) ((fB b).2.2) (fA b))).length) (by first|rfl|omega|(rw [hw];omega)|(rw [hwn];omega)) λ o73=>?_
 refine ⟨(fE b,(fE b).getD 1 Fr.none),by
  rw [hr1];rfl,by
  show ((fE b).getD 1 Fr.none).good=true/\asc (fE b)/\BC (fE b)/\(fE b).length<=2000000000000
  exact ⟨g1,Q.asc,Q.good,hel⟩,?_⟩
 show Value.bool ((NZ (fE b) ((fE b).getD 1 Fr.none)) == (-1:Int))=Value.bool true
 exact congrArg Value.bool (beq_iff_eq.2 (AAh Q.good Q.asc Q.two))
end Go.Proofs.YtkffpiaagjcmpaaGreat
