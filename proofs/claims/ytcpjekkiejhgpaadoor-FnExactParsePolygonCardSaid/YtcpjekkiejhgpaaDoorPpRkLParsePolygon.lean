import Derived.Test.YtcpjekkiejhgpaaDoorPpRkS4
import Derived.Test.YtcpjekkiejhgpaaDoorPpTyG
namespace Go.Proofs.YtcpjekkiejhgpaaDoor
set_option linter.unusedVariables false
set_option linter.unusedSimpArgs false
open Go.RowKit
def BE:Con:={ ι:=(List (List Dat)),pre:=λ i=>True,args:=λ i=>[.one (DC.sl 31 [.int,.int] i),.one (DC.sl 31 [.int,.int] i)],res:=λ i=>⟨false,[none],[rcB true]⟩ }
theorem Ko:BE.Ok Tryd.prog 6:=M0 (.sl 31 [.int,.int]) ⟨_,Tryd.func6,by decide,rfl⟩ (λ _=>rfl) (λ _=>rfl) (λ d v u w h h'=>by obtain ⟨l,_,_,rfl,_⟩:=Rd.sl_inv h;exact MA l v u w h h')
def BV:Con:={ ι:=(List (List Dat))×Int,pre:=λ i=>0<=i.2/\i.2+(AD i.1:Int)<=4611686018427387904,args:=λ i=>[.one (DC.sl 31 [.int,.int] i.1),.one (cI i.2)],mu:=[0],new:=λ i=>[AU i.2 i.1],res:=λ i=>⟨false,[none],[rcI (i.2+(AD i.1:Int))]⟩ }
theorem Io:BV.Ok Tryd.prog 7:=Lk 31 [.int,.int] ⟨_,Tryd.func7,by decide,rfl⟩ (λ _=>rfl) (λ _ h=>h) (λ ls k h0 h1 bs hn v w=>JZ ls k h0 h1 bs hn v w)
def Ao:Con:={ ι:=(List (List Dat))×Int,pre:=λ i=>0<=i.2/\i.2+(AD i.1:Int)<=4611686018427387904/\Dat.has (.sl 31 [.int,.int]) (.sl i.1),args:=λ i=>[.one (DC.sl 31 [.int,.int] (AU i.2 i.1)),.one (cI i.2)],res:=λ i=>⟨false,[none],[rcI (i.2+(AD i.1:Int))]⟩ }
theorem Ip:Ao.Ok Tryd.prog 8:=Lj (.sl 31 [.int,.int]) ⟨_,Tryd.func8,by decide,rfl⟩ (λ _=>rfl) (λ _=>rfl) (λ i=>i.1) (λ _=>rfl) (λ _=>rfl) (λ _ h=>h) (λ ls k h0 h1 w0 v0 hr v w h=>Ja ls k h0 h1 w0 v0 hr v w h)
theorem Jb {l:List V2} (h:Dat.has (.sl 31 [.int,.int]) (.sl (AL l))):Ag (AL l)=0:=Ln (by decide) h
theorem Mg {l:List V2} (h:l.length<=1000):Dat.has (.sl 31 [.int,.int]) (.sl (AL l))/\(AD (AL l):Int)<=2000000000:=by
 have h1:Dat.has (.sl 31 [.int,.int]) (.sl (AL l)):=Kf (by omega)
 refine ⟨h1,GF h1 ?_ (by simp [EP,Ty.K])⟩
 rw [Jb h1,AO];omega
theorem MB (s:ByteArray):(BQ s).length<=16:=by
 unfold BQ
 split
 ·next h=>
  simp only [okP,Bool.and_eq_true] at h
  exact (Id h.2).2.1
 ·simp
def ER:Con:={ ι:=ByteArray,pre:=λ i=>True,args:=λ i=>[.one (.im (.string i))],res:=λ i=>⟨false,[none],[rcB true]⟩ }
set_option maxRecDepth 100000 in
set_option maxHeartbeats 4000000 in
theorem MC:ER.Ok Tryd.prog 3:=by
 refine fok (X:=⟨tt,[(4,DD),(5,BY),(6,BE),(7,BV),(8,Ao)],[],66,[]⟩) mixed DJ (CTok.cons L9 (CTok.cons L2 (CTok.cons Ko (CTok.cons Io (CTok.cons Ip (CTok.nil _)))))) Tryd.func3 (λ _=>[]) ?_
 intro (s:ByteArray) hpre
 have hpre:True:=hpre
 refine DI (q:=let Z10:=cI (1:Int);let Z3:=DC.im (Value.string s);let Z2:=List (List Dat);let Z1:=(vB false=vB true);ifB ((decide ((nI s.size)>(1048576:Int)))) ((vB true=vB true)) (∃ i1:ByteArray,let Z6:=DC.sl 31 [.int,.int] (AL (BQ i1));[DA.one Z3]=DD.args i1/\DD.pre i1/\(∃ i2:ByteArray,let Z5:=DC.sl 31 [.int,.int] (AL (BQ i2));[DA.one Z3]=BY.args i2/\BY.pre i2/\(∃ i3:Z2,[DA.one Z5,DA.one Z6]=BE.args i3/\BE.pre i3/\(ifB ((!(!true))) (ifB (((okP i2) != (okP i1))) Z1 (∃ i4:Z2×Int,let Z8:=i4.2+(AD i4.1:Int);let Z4:=DC.sl 31 [.int,.int] (AU i4.2 i4.1);[DA.one Z5,DA.one Z10]=BV.args i4/\BV.pre i4/\(∃ i5:Z2×Int,let Z7:=i5.2+(AD i5.1:Int);[DA.one Z4,DA.one Z10]=Ao.args i5/\Ao.pre i5/\(ifB ((decide (Z7<(0:Int)))) Z1 (ifB ((Z7 != Z8)) Z1 (∃ i6:ByteArray,[DA.one Z3]=BY.args i6/\BY.pre i6/\(∃ i7:Z2,[DA.one (DC.sl 31 [.int,.int] (AL (BQ i6))),DA.one Z6]=BE.args i7/\BE.pre i7/\(ifB ((!(!true))) (ifB (((okP i6) != (okP i1))) Z1 (∃ i8:Z2×Int,let Z9:=i8.2+(AD i8.1:Int);[DA.one Z4,DA.one Z10]=Ao.args i8/\Ao.pre i8/\(ifB ((decide (Z9<(0:Int)))) Z1 (ifB ((Z9 != Z8)) Z1 ((vB true=vB true)))))) Z1)))))))) Z1))))) (by kernel_rfl) ?_
 conv=>zeta
 delta ifB vB nI
 have hrl:=MB s
 have hvl:=AO (BQ s)
 have hr:=Mg (show (BQ s).length<=1000 by omega)
 have hrh:=hr.1
 have hrc:=hr.2
 refine ⟨λ c1=>?_,λ c1=>?_⟩
 ·try simp only [nrm] at c1
  exact rfl
 try simp only [nrm] at c1
 refine ⟨s,by
  rfl,by
  show s.size<=1073741824
  first|trivial|(show s.size<=1073741824;omega)|exact ⟨by omega,by omega,hrh⟩|(refine ⟨?_,?_⟩ <;> omega),?_⟩
 refine ⟨s,by
  rfl,by
  show s.size<=1073741824
  first|trivial|(show s.size<=1073741824;omega)|exact ⟨by omega,by omega,hrh⟩|(refine ⟨?_,?_⟩ <;> omega),?_⟩
 refine ⟨AL (BQ s),by
  rfl,by
  first|trivial|(show s.size<=1073741824;omega)|exact ⟨by omega,by omega,hrh⟩|(refine ⟨?_,?_⟩ <;> omega),?_⟩
 refine And.symm ⟨λ c12=>?_,λ c12=>?_⟩
 ·try simp only [nrm] at c12
  first|rfl|contradiction|(exfalso;omega)|simp_all
 try simp only [nrm] at c12
 refine ⟨λ c13=>?_,λ c13=>?_⟩
 ·try simp only [nrm] at c13
  first|rfl|contradiction|(exfalso;omega)|simp_all
 try simp only [nrm] at c13
 refine ⟨(AL (BQ s),(1:Int)),by
  rfl,by
  show 0<=(1:Int)/\(1:Int)+(AD (AL (BQ s)):Int)<=4611686018427387904
  first|trivial|(show s.size<=1073741824;omega)|exact ⟨by omega,by omega,hrh⟩|(refine ⟨?_,?_⟩ <;> omega),?_⟩
 refine ⟨((AL (BQ s)),(1:Int)),by
  rfl,by
  show 0<=(1:Int)/\(1:Int)+(AD (AL (BQ s)):Int)<=4611686018427387904/\Dat.has (.sl 31 [.int,.int]) (.sl (AL (BQ s)))
  first|trivial|(show s.size<=1073741824;omega)|exact ⟨by omega,by omega,hrh⟩|(refine ⟨?_,?_⟩ <;> omega),?_⟩
 refine ⟨λ c21=>?_,λ c21=>?_⟩
 ·try simp only [nrm] at c21
  first|rfl|contradiction|(exfalso;omega)|simp_all
 try simp only [nrm] at c21
 refine ⟨λ c23=>?_,λ c23=>?_⟩
 ·try simp only [nrm] at c23
  first|rfl|contradiction|(exfalso;omega)|simp_all
 try simp only [nrm] at c23
 refine ⟨s,by
  rfl,by
  show s.size<=1073741824
  first|trivial|(show s.size<=1073741824;omega)|exact ⟨by omega,by omega,hrh⟩|(refine ⟨?_,?_⟩ <;> omega),?_⟩
 refine ⟨AL (BQ s),by
  rfl,by
  first|trivial|(show s.size<=1073741824;omega)|exact ⟨by omega,by omega,hrh⟩|(refine ⟨?_,?_⟩ <;> omega),?_⟩
 refine And.symm ⟨λ c31=>?_,λ c31=>?_⟩
 ·try simp only [nrm] at c31
  first|rfl|contradiction|(exfalso;omega)|simp_all
 try simp only [nrm] at c31
 refine ⟨λ c32=>?_,λ c32=>?_⟩
 ·try simp only [nrm] at c32
  first|rfl|contradiction|(exfalso;omega)|simp_all
 try simp only [nrm] at c32
 refine ⟨((AL (BQ s)),(1:Int)),by
  rfl,by
  show 0<=(1:Int)/\(1:Int)+(AD (AL (BQ s)):Int)<=4611686018427387904/\Dat.has (.sl 31 [.int,.int]) (.sl (AL (BQ s)))
  first|trivial|(show s.size<=1073741824;omega)|exact ⟨by omega,by omega,hrh⟩|(refine ⟨?_,?_⟩ <;> omega),?_⟩
 refine ⟨λ c37=>?_,λ c37=>?_⟩
 ·try simp only [nrm] at c37
  first|rfl|contradiction|(exfalso;omega)|simp_all
 try simp only [nrm] at c37
 refine ⟨λ c39=>?_,λ c39=>?_⟩
 ·try simp only [nrm] at c39
  first|rfl|contradiction|(exfalso;omega)|simp_all
 try simp only [nrm] at c39
 exact rfl
end Go.Proofs.YtcpjekkiejhgpaaDoor
