import Derived.Test.YtgggkcoljpimcaaDoorFpRkS1
import Derived.Test.YtgggkcoljpimcaaDoorFpTyG
namespace Go.Proofs.YtgggkcoljpimcaaDoor
set_option maxRecDepth 100000
set_option linter.unusedVariables false
set_option linter.unusedSimpArgs false
open Go.RowKit
def By:Con:={ ι:=(List (List Dat))×Int,pre:=λ i=>Dat.has (.sl 36 [.int,.int]) (.sl i.1)/\0<=i.2/\i.2<=1048576,args:=λ i=>[.one (DC.sl 30 [.int,.int] i.1),.one (cI i.2)],res:=λ i=>⟨false,[none],[rcI (szR (i.1.length+AJ i.1) i.2)]⟩ }
theorem JL:By.Ok Tryd.prog 6:=by
 refine fok (X:=⟨tt,[],[],12,[]⟩) mixed CK (CTok.nil _) Tryd.func6 (λ _=>[]) ?_
 rintro ⟨l,n⟩ hpre
 have hpre:Dat.has (.sl 36 [.int,.int]) (.sl l)/\0<=n/\n<=1048576:=hpre
 refine Ck (q:=let Z2:=wR (n-(nI l.length));let Z1:=szR (l.length+AJ l) n;ifB ((decide (Z2<(0:Int)))) ((vI (-1:Int)=vI Z1)) ((vI Z2=vI Z1))) (by kernel_rfl) ?_
 conv=>zeta
 delta ifB vI wR nI
 obtain ⟨hh,h0,h1⟩:=hpre
 have hz:=HS (by decide) hh
 simp only [Dat.has] at hh
 obtain ⟨hl,-⟩:=hh
 have hw:IntKind.i64.wrap (n-(l.length:Int))=n-l.length:=A7 (by omega) (by omega)
 refine ⟨λ c1=>?_,λ c1=>?_⟩
 ·try simp only [nrm] at c1
  refine FK ?_;try rw [hw] at *;grind [szR]
 try simp only [nrm] at c1
 refine FK ?_;try rw [hw] at *;grind [szR]
def Bz:Con:={ ι:=(List (List Dat)),pre:=λ i=>True,args:=λ i=>[.one (DC.sl 36 [.int,.int] i),.one (DC.sl 36 [.int,.int] i)],res:=λ i=>⟨false,[none],[rcB true]⟩ }
theorem JM:Bz.Ok Tryd.prog 10:=LG (.sl 36 [.int,.int]) ⟨_,Tryd.func10,by decide,rfl⟩ (λ _=>rfl) (λ _=>rfl) (λ d v u w h h'=>by obtain ⟨l,_,_,rfl,_⟩:=Rd.sl_inv h;exact KU l v u w h h')
def Ae:Con:={ ι:=(List (List Dat)),pre:=λ i=>i.length+AJ i<=1048576,args:=λ i=>[.one (DC.sl 30 [.int,.int] i)],res:=λ i=>⟨false,[none],[.own 36 [.int,.int] i]⟩ }
theorem JN:Ae.Ok Tryd.prog 8:=LH 36 [.int,.int] ⟨_,Tryd.func8,by decide,rfl⟩ (λ _=>rfl) (λ _=>rfl) (λ _=>rfl) (λ _ h=>h) (λ ls h v w=>KW ls h v w)
theorem IL {l:List V2} (h:Dat.has (.sl 36 [.int,.int]) (.sl (AD l))):AJ (AD l)=0:=HS (by decide) h
def Dm:Con:={ ι:=(List V2),pre:=λ i=>Dat.has (.sl 36 [.int,.int]) (.sl (AD i)),args:=λ i=>[.one (DC.sl 30 [.int,.int] (AD i))],res:=λ i=>⟨false,[none],[rcB true]⟩ }
theorem KX:Dm.Ok Tryd.prog 3:=by
 refine fok (X:=⟨tt,[(6,By),(8,Ae),(7,Bx),(9,Bw),(10,Bz)],[],27,[]⟩) mixed CK (CTok.cons JL (CTok.cons JN (CTok.cons JK (CTok.cons JJ (CTok.cons JM (CTok.nil _)))))) Tryd.func3 (λ _=>[]) ?_
 intro (l:List V2) hpre
 have hpre:Dat.has (.sl 36 [.int,.int]) (.sl (AD l)):=hpre
 refine Ck (q:=let Z2:=List (List Dat);let Z1:=DC.sl 30 [.int,.int] (AD l);∃ i1:Z2×Int,[DA.one Z1,DA.one (cI (1048576:Int))]=By.args i1/\By.pre i1/\(ifB ((decide ((szR (i1.1.length+AJ i1.1) i1.2)<(0:Int)))) ((vB true=vB true)) (∃ i2:Z2,[DA.one Z1]=Ae.args i2/\Ae.pre i2/\(∃ i3:(List V2),[DA.one (DC.sl 36 [.int,.int] i2)]=Bx.args i3/\Bx.pre i3/\(∃ i4:Z2,let Z3:=DC.sl 36 [.int,.int] i4;[DA.one Z1]=Ae.args i4/\Ae.pre i4/\(∃ i5:(List V2),[DA.one Z3]=Bw.args i5/\Bw.pre i5/\(ifB ((!((BO i5).toList == (BO i3).toList))) ((vB false=vB true)) (∃ i6:Z2,[DA.one Z1]=Ae.args i6/\Ae.pre i6/\(∃ i7:Z2,[DA.one Z3,DA.one (DC.sl 36 [.int,.int] i6)]=Bz.args i7/\Bz.pre i7/\(ifB ((!true)) ((vB false=vB true)) ((vB true=vB true)))))))))))) (by kernel_rfl) ?_
 conv=>zeta
 delta ifB vB
 have hz_l:=IL hpre
 refine ⟨((AD l),(1048576:Int)),by
  rfl,by
  show Dat.has (.sl 36 [.int,.int]) (.sl (AD l))/\0<=(1048576:Int)/\(1048576:Int)<=1048576
  first|trivial|exact ⟨hpre,by omega,by omega⟩|exact gs_l,?_⟩
 refine ⟨λ c4=>?_,λ c4=>?_⟩
 ·try simp only [nrm] at c4
  exact rfl
 try simp only [nrm] at c4
 have z1:=LJ c4
 have gs_l:(AD l).length+AJ (AD l)<=1048576:=by have:=z1.2;omega
 refine ⟨(AD l),by
  rfl,by
  show (AD l).length+AJ (AD l)<=1048576
  first|trivial|exact ⟨hpre,by omega,by omega⟩|exact gs_l,?_⟩
 refine ⟨l,by
  rfl,by
  first|trivial|exact ⟨hpre,by omega,by omega⟩|exact gs_l,?_⟩
 refine ⟨(AD l),by
  rfl,by
  show (AD l).length+AJ (AD l)<=1048576
  first|trivial|exact ⟨hpre,by omega,by omega⟩|exact gs_l,?_⟩
 refine ⟨l,by
  rfl,by
  first|trivial|exact ⟨hpre,by omega,by omega⟩|exact gs_l,?_⟩
 refine ⟨λ c18=>?_,λ c18=>?_⟩
 ·try simp only [nrm] at c18
  first|rfl|contradiction|(exfalso;omega)|simp_all
 try simp only [nrm] at c18
 refine ⟨(AD l),by
  rfl,by
  show (AD l).length+AJ (AD l)<=1048576
  first|trivial|exact ⟨hpre,by omega,by omega⟩|exact gs_l,?_⟩
 refine ⟨(AD l),by
  rfl,by
  first|trivial|exact ⟨hpre,by omega,by omega⟩|exact gs_l,?_⟩
 refine ⟨λ c26=>?_,λ c26=>?_⟩
 ·try simp only [nrm] at c26
  first|rfl|contradiction|(exfalso;omega)|simp_all
 try simp only [nrm] at c26
 exact rfl
end Go.Proofs.YtgggkcoljpimcaaDoor
