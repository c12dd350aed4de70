import Derived.Test.YtmedodfenejimaaGreatEvRkT
import Derived.Test.YtmedodfenejimaaGreatEvExD
import Derived.Test.YtmedodfenejimaaGreatEvTyB
import Derived.Test.YtmedodfenejimaaGreatEvTyH
namespace Go.Proofs.YtmedodfenejimaaGreat
set_option maxRecDepth 100000
set_option linter.unusedVariables false
set_option linter.unusedSimpArgs false
open Go.RowKit
def F8:Con:={ ι:=(List (List Dat))×Int,pre:=λ i=>Dat.has (.sl 39 [.int,.int]) (.sl i.1)/\0<=i.2/\i.2<=1048576,args:=λ i=>[.one (DC.sl 23 [.int,.int] i.1),.one (cI i.2)],res:=λ i=>⟨false,[none],[rcI (szR (i.1.length+Ah i.1) i.2)]⟩ }
theorem Sa:F8.Ok Tryz.prog 50:=by
 refine fok (X:=⟨tt,[],[],12,[]⟩) mixed AN (CTok.nil _) Tryz.func50 (λ _=>[]) ?_
 rintro ⟨l,n⟩ hpre
 have hpre:Dat.has (.sl 39 [.int,.int]) (.sl l)/\0<=n/\n<=1048576:=hpre
 refine AP (q:=let Z2:=wR (n-(nI l.length));let Z1:=szR (l.length+Ah l) n;ifB ((decide (Z2<(0:Int)))) ((vI (-1:Int)=vI Z1)) ((vI Z2=vI Z1))) (by kernel_rfl) ?_
 conv=>zeta
 delta ifB vI wR nI
 obtain ⟨hh,h0,h1⟩:=hpre
 have hz:=Ky (by decide) hh
 simp only [Dat.has] at hh
 obtain ⟨hl,-⟩:=hh
 have hw:IntKind.i64.wrap (n-(l.length:Int))=n-l.length:=AB (by omega) (by omega)
 refine ⟨λ c1=>?_,λ c1=>?_⟩
 ·try simp only [nrm] at c1
  refine AU ?_;try rw [hw] at *;grind [szR]
 try simp only [nrm] at c1
 refine AU ?_;try rw [hw] at *;grind [szR]
def HT:Con:={ ι:=RatD,pre:=λ i=>True,args:=λ i=>[DA.agg [cB i.neg,cS i.num,cS i.den],DA.agg [cB i.neg,cS i.num,cS i.den]],res:=λ i=>⟨false,[none],[rcB true]⟩ }
theorem UV:HT.Ok Tryz.prog 41:=Vx [.bool,.sl 3 [.int],.sl 3 [.int]] ⟨_,Tryz.func41,by decide,rfl⟩ (λ _=>rfl) (λ _=>rfl) (λ ds vs us w=>VQ ds vs us w)
def Eu:Con:={ ι:=(List (List Dat)),pre:=λ i=>True,args:=λ i=>[.one (DC.sl 40 [.sl 39 [.int,.int]] i),.one (DC.sl 40 [.sl 39 [.int,.int]] i)],res:=λ i=>⟨false,[none],[rcB true]⟩ }
theorem QD:Eu.Ok Tryz.prog 32:=Vy (.sl 40 [.sl 39 [.int,.int]]) ⟨_,Tryz.func32,by decide,rfl⟩ (λ _=>rfl) (λ _=>rfl) (λ d v u w h h'=>by obtain ⟨l,_,_,rfl,_⟩:=Rd.sl_inv h;exact SX l v u w h h')
def Bi:Con:={ ι:=(List (List Dat)),pre:=λ i=>i.length+Ah i<=1048576,args:=λ i=>[.one (DC.sl 24 [.sl 23 [.int,.int]] i)],res:=λ i=>⟨false,[none],[.own 40 [.sl 39 [.int,.int]] i]⟩ }
theorem QE:Bi.Ok Tryz.prog 29:=V0 40 [.sl 39 [.int,.int]] ⟨_,Tryz.func29,by decide,rfl⟩ (λ _=>rfl) (λ _=>rfl) (λ _=>rfl) (λ _ h=>h) (λ ls h v w=>SZ ls h v w)
def EQ:Con:={ ι:=(Int×Int),pre:=λ i=>A6 [.int i.1,.int i.2]<=1048576,args:=λ i=>[DA.agg [cI i.1,cI i.2]],res:=λ i=>⟨false,[some 2],[rcI i.1,rcI i.2]⟩ }
theorem UW:EQ.Ok Tryz.prog 60:=Vz (out:=λ p=>[.im (.int .i64 p.1),.im (.int .i64 p.2)]) [.int,.int] ⟨_,Tryz.func60,by decide,rfl⟩ (λ _=>rfl) (λ _=>rfl) (λ _=>rfl) (λ _=>rfl) (λ _=>rfl) (λ _=>rfl) (λ _=>rfl) (λ _=>Nat.le_of_ble_eq_true rfl) (λ _ h=>h) (λ ds h vs w=>RA ds h vs w)
theorem NI {e:Nat} {ts:List Ty} {r:List Dat} (h0:hasRow [.sl e ts] r):[Dat.sl ((r.getD 0 (.int 0)).r)]=r:=by
 obtain ⟨_,_,rfl,q0,h1⟩:=h0.cons
 obtain ⟨_,rfl⟩:=Dat.has_sl q0
 obtain rfl:=h1.nil
 rfl
theorem WS (a:Nat) (n:Int):szR a n=-1/\n<(a:Int)∨szR a n=n-a/\(a:Int)<=n:=by unfold szR;split <;> omega
def Ev:Con:={ ι:=(List (List Dat))×Int,pre:=λ i=>Dat.has (.sl 24 [.sl 23 [.int,.int]]) (.sl i.1)/\0<=i.2/\i.2<=1048576,args:=λ i=>[.one (DC.sl 24 [.sl 23 [.int,.int]] i.1),.one (cI i.2)],res:=λ i=>⟨false,[none],[rcI (szR (i.1.length+Ah i.1) i.2)]⟩ }
theorem QF:Ev.Ok Tryz.prog 26:=by
 refine fok (X:=⟨tt,[(50,F8)],[],27,[]⟩) mixed AN (CTok.cons Sa (CTok.nil _)) Tryz.func26 (λ (i:(List (List Dat))×Int)=>[(5,.mk 2 (Nat×Int) (λ x1=>{ tm:=[(0,tX 1),(4,tI (0:Int)),(5,tI (x1.1:Int)),(1,tI x1.2)],en:=[(1,.view 24 [.sl 23 [.int,.int]] i.1 [])] }) (λ x1=>x1.1<=i.1.length/\0<=x1.2/\x1.2+i.1.length+Ah (i.1.take x1.1)=i.2) (λ x1=>i.1.length-x1.1) (λ _=>[]))]) ?_
 rintro ⟨l,n⟩ hpre
 have hpre:Dat.has (.sl 24 [.sl 23 [.int,.int]]) (.sl l)/\0<=n/\n<=1048576:=hpre
 refine AP (q:=let Z5:=wR (n-(nI l.length));let Z1:=szR (l.length+Ah l) n;let Z4:=(vI (-1:Int)=vI Z1);ifB ((decide (Z5<(0:Int)))) Z4 ((∃ x1:Nat×Int,(x1.1<=l.length/\0<=x1.2/\x1.2+l.length+Ah (l.take x1.1)=n)/\((rf (vI (0:Int)))/\(vI (0:Int)=vI (x1.1:Int))/\(vI Z5=vI x1.2)/\(rf (l))))/\∀ x1:Nat×Int,let Z3:=(x1.1:Int);(x1.1<=l.length/\0<=x1.2/\x1.2+l.length+Ah (l.take x1.1)=n)->(ifB ((decide (Z3<(nI l.length)))) ((0<=Z3/\Z3<(l.length:Int))/\((x1.1<l.length)/\(∃ i1:(List (List Dat))×Int,let Z2:=szR (i1.1.length+Ah i1.1) i1.2;[DA.one (DC.sl 23 [.int,.int] ((((l.getD x1.1 []).getD 0 (.int 0))).r)),DA.one (cI x1.2)]=F8.args i1/\F8.pre i1/\(ifB ((decide (Z2<(0:Int)))) Z4 (∃ y2:Nat×Int,(y2.1<=l.length/\0<=y2.2/\y2.2+l.length+Ah (l.take y2.1)=n)/\(l.length-y2.1<l.length-x1.1)/\((rf (vI (0:Int)))/\(vI (wR (Z3+(1:Int)))=vI (y2.1:Int))/\(vI Z2=vI y2.2)/\(rf (l)))))))) ((vI x1.2=vI Z1))))) (by kernel_rfl) ?_
 conv=>zeta
 delta ifB vI wR nI
 obtain ⟨hh,h0,h1⟩:=hpre
 have hh2:=DR hh
 have hl:=FZ hh
 have hw:IntKind.i64.wrap (n-(l.length:Int))=n-l.length:=AB (by omega) (by omega)
 refine ⟨λ c1=>?_,λ c1=>?_⟩
 ·try simp only [nrm] at c1
  refine AU ?_;try rw [hw] at *;grind [szR]
 try simp only [nrm] at c1
 refine ⟨⟨(0,n-l.length),by
  rw [hw] at c1;simp [Ah];omega,?_⟩,?_⟩
 ·refine ⟨rfl,rfl,?_,rfl⟩
  exact AU hw
 rintro ⟨k,m⟩ hki3
 have hki3:k<=l.length/\0<=m/\m+l.length+Ah (l.take k)=n:=hki3
 have hle:=GH l k
 refine And.symm ⟨λ c9=>?_,λ c9=>?_⟩
 ·try simp only [nrm] at c9
  obtain rfl:k=l.length:=by omega
  rw [List.take_length] at hki3
  refine AU ?_;try rw [hw] at *;grind [szR]
 try simp only [nrm] at c9
 refine ao (a:=0<=(k:Int)/\(k:Int)<(l.length:Int)) (by omega) λ o10=>?_
 refine ao (a:=k<l.length) (by omega) λ o11=>?_
 refine ⟨(((l.getD k []).getD 0 (.int 0)).r,m),by
  rfl,by
  show Dat.has (.sl 39 [.int,.int]) (.sl (((l.getD k []).getD 0 (.int 0)).r))/\0<=m/\m<=1048576
  refine ⟨?_,by omega,by omega⟩
  have:=hh2 k (by omega)
  rw [← NI this] at this
  exact this.1,?_⟩
 have hle:=GH l (k+1)
 have hts:=JI l k (by omega)
 have hrow:=hh2 k (by omega)
 rw [← NI hrow] at hts
 have hts:Ah (l.take (k+1))=Ah (l.take k)+((((l.getD k []).getD 0 (.int 0)).r).length+Ah (((l.getD k []).getD 0 (.int 0)).r)):=by first|exact hts|simpa only [A6,Dat.sz,Nat.add_zero] using hts
 refine ⟨λ c15=>?_,λ c15=>?_⟩
 ·try simp only [nrm] at c15
  refine AU ?_;try rw [hw] at *;grind [szR]
 try simp only [nrm] at c15
 refine ⟨(k+1,szR ((((l.getD k []).getD 0 (.int 0)).r).length+Ah (((l.getD k []).getD 0 (.int 0)).r)) m),by
  unfold szR at *;grind,by
  omega,?_⟩
 refine ⟨rfl,?_,rfl,rfl⟩
 exact AU (AB (by omega) (by omega))
theorem QG {r:List Dat} (h:hasRow [.int,.int,.int,.int] r):r=[.int (r.getD 0 (.int 0)).n,.int (r.getD 1 (.int 0)).n,.int (r.getD 2 (.int 0)).n,.int (r.getD 3 (.int 0)).n]:=by
 obtain ⟨_,_,rfl,q0,h0⟩:=h.cons
 obtain ⟨_,rfl⟩:=Dat.has_int q0
 obtain ⟨_,_,rfl,q1,h1⟩:=h0.cons
 obtain ⟨_,rfl⟩:=Dat.has_int q1
 obtain ⟨_,_,rfl,q2,h2⟩:=h1.cons
 obtain ⟨_,rfl⟩:=Dat.has_int q2
 obtain ⟨_,_,rfl,q3,h3⟩:=h2.cons
 obtain ⟨_,rfl⟩:=Dat.has_int q3
 obtain rfl:=hasRow.nil h3
 rfl
theorem WT {r:List Dat} (h:hasRow [.int,.int,.int,.int] r):A6 r=0:=by
 rw [QG h]
 simp only [A6,Dat.sz]
theorem WU {r:List Dat} (h:hasRow [.int,.int,.int,.int] r):Dat.has .int (.int (r.getD 0 (.int 0)).n)/\Dat.has .int (.int (r.getD 1 (.int 0)).n)/\Dat.has .int (.int (r.getD 2 (.int 0)).n)/\Dat.has .int (.int (r.getD 3 (.int 0)).n):=by
 rw [QG h] at h
 simpa only [hasRow,and_true] using h
def DI:Con:={ ι:=(List Dat),pre:=λ i=>hasRow [.int,.int,.int,.int] i/\A6 i<=1048576,args:=λ i=>[w28 i],res:=λ i=>⟨false,[some 4],[rcI ((i.getD 0 (.int 0)).n),rcI ((i.getD 1 (.int 0)).n),rcI ((i.getD 2 (.int 0)).n),rcI ((i.getD 3 (.int 0)).n)]⟩ }
theorem UX:DI.Ok Tryz.prog 28:=by
 refine fok (X:=⟨tt,[(60,EQ)],[],13,[]⟩) mixed AN (CTok.cons UW (CTok.nil _)) Tryz.func28 (λ _=>[]) ?_
 intro (r:List Dat) hpre
 have hpre:hasRow [.int,.int,.int,.int] r/\A6 r<=1048576:=hpre
 refine AP (q:=∃ i1:(Int×Int),[DA.agg [cI ((r.getD 0 (.int 0)).n),cI ((r.getD 1 (.int 0)).n)]]=EQ.args i1/\EQ.pre i1/\(∃ i2:(Int×Int),[DA.agg [cI ((r.getD 2 (.int 0)).n),cI ((r.getD 3 (.int 0)).n)]]=EQ.args i2/\EQ.pre i2/\((vI i1.1=vI ((r.getD 0 (.int 0)).n))/\(vI i1.2=vI ((r.getD 1 (.int 0)).n))/\(vI i2.1=vI ((r.getD 2 (.int 0)).n))/\(vI i2.2=vI ((r.getD 3 (.int 0)).n))))) (by kernel_rfl) ?_
 delta vI
 have hz:=WT hpre.1
 have hs:=hpre.2
 have hp:=WU hpre.1
 obtain ⟨p0,p1,p2,p3⟩:=hp
 refine ⟨(((r.getD 0 (.int 0)).n),((r.getD 1 (.int 0)).n)),by
  rfl,by
  show A6 [.int (((r.getD 0 (.int 0)).n),((r.getD 1 (.int 0)).n)).1,.int (((r.getD 0 (.int 0)).n),((r.getD 1 (.int 0)).n)).2]<=1048576
  simp [A6,Dat.sz];done,?_⟩
 refine ⟨(((r.getD 2 (.int 0)).n),((r.getD 3 (.int 0)).n)),by
  rfl,by
  show A6 [.int (((r.getD 2 (.int 0)).n),((r.getD 3 (.int 0)).n)).1,.int (((r.getD 2 (.int 0)).n),((r.getD 3 (.int 0)).n)).2]<=1048576
  simp [A6,Dat.sz];done,?_⟩
 refine ⟨?_,?_,?_,?_⟩
 ·rfl
 ·rfl
 ·rfl
 rfl
end Go.Proofs.YtmedodfenejimaaGreat
