import Derived.Test.YtndnhlhnjiopfaaSmRkD1
import Derived.Test.YtndnhlhnjiopfaaSmRkHu
namespace Go.Proofs.Ytndnhlhnjiopfaa
set_option maxRecDepth 100000
set_option linter.unusedVariables false
set_option linter.unusedSimpArgs false
open Go.RowKit
def Wu (b:List UInt8) (k:Nat) (h:Int):Int:=KI .i64 (IntKind.i64.wrap (IntKind.i64.wrap (IntKind.i64.wrap (h*61)+IntKind.i64.wrap (((b.getD k 0).toNat:Nat):Int))+7)) 1073741823
def DO (b:List UInt8):Nat->Int
 | 0=>1952+(b.length:Int)
 | k+1=>Wu b k (DO b k)
def FJ (b:List UInt8):Cur:=⟨0,DO b (min b.length 4000)⟩
def AS (b:List UInt8):Nat->Cur
 | 0=>FJ b
 | k+1=>byC b (AS b k)
theorem Rq {b:List UInt8} (h:b.length<=1048576):BD b (FJ b):=⟨h,Int.le_refl _,by show (0:Int)<=_;omega⟩
theorem FK {b:List UInt8} (h:b.length<=1048576):∀ k,BD b (AS b k)
 | 0=>Rq h
 | k+1=>Eh (FK h k)
def N5:(List UInt8)->List PC:=λ i=>[.bt i,.im (.int .i64 ((FJ i).i)),.im (.int .i64 ((FJ i).h))]
def Ft:Con:={ ι:=(List UInt8),pre:=λ i=>i.length<=1048576,args:=λ i=>[.one (.ro (.bytes i))],newp:=some N5,res:=λ i=>⟨false,[],[]⟩ }
theorem T9:Ft.OkN Try.prog 33 N5:=by
 refine Wt (X:=⟨tt,[],[4000001],32,[]⟩) mixed AR (CTok.nil _) Try.func33 (λ (i:(List UInt8))=>[(3,.mk 2 (Nat) (λ x1=>{ tm:=[(0,tX 1),(3,tI (DO i x1)),(4,tI (x1:Int))],en:=[(1,.ro (.bytes i) [])] }) (λ x1=>x1<=i.length/\x1<=4000) (λ x1=>4000-x1) (λ _=>[]))]) ?_
 intro (b:List UInt8) hpre
 have hpre:b.length<=1048576:=hpre
 refine AQ (q:=let Z2:=(.bytes b:RO)=.bytes b;(∃ x1:Nat,(x1<=b.length/\x1<=4000)/\((vI (wR ((1952:Int)+(nI b.length)))=vI (DO b x1))/\(vI (0:Int)=vI (x1:Int))/\Z2))/\∀ x1:Nat,let Z1:=(vI (0:Int)=vI ((FJ b).i))/\(vI (DO b x1)=vI ((FJ b).h));(x1<=b.length/\x1<=4000)->(ifB ((decide ((x1:Int)<(nI b.length)))) (ifB ((decide ((x1:Int)<(4000:Int)))) ((0<=(x1:Int)/\(x1:Int)<(b.length:Int))/\((x1<b.length)/\(∃ y2:Nat,(y2<=b.length/\y2<=4000)/\(4000-y2<4000-x1)/\((vI (KI .i64 (wR ((wR ((wR ((DO b x1)*(61:Int)))+(wR (nI ((b.getD x1 0).toNat)))))+(7:Int))) (1073741823:Int))=vI (DO b y2))/\(vI (wR ((x1:Int)+(1:Int)))=vI (y2:Int))/\Z2)))) Z1) Z1)) (by kernel_rfl) ?_
 conv=>zeta
 delta ifB vI wR nI
 refine ⟨⟨0,by
  first|omega|trivial,?_⟩,?_⟩
 ·refine ⟨?_,rfl,?_⟩
  ·exact AX (AC (by omega) (by omega))
  first|rfl|exact AX (AC (by omega) (by omega))
 intro (k:Nat) hki1
 have hki1:k<=b.length/\k<=4000:=hki1
 refine And.symm ⟨λ c6=>?_,λ c6=>?_⟩
 ·try simp only [nrm] at c6
  refine ⟨?_,?_⟩
  ·first|rfl|exact AX (by show DO b k=DO b (min b.length 4000);rw [show min b.length 4000=k by omega])
  first|rfl|exact AX (by show DO b k=DO b (min b.length 4000);rw [show min b.length 4000=k by omega])
 try simp only [nrm] at c6
 refine And.symm ⟨λ c7=>?_,λ c7=>?_⟩
 ·try simp only [nrm] at c7
  refine ⟨?_,?_⟩
  ·first|rfl|exact AX (by show DO b k=DO b (min b.length 4000);rw [show min b.length 4000=k by omega])
  first|rfl|exact AX (by show DO b k=DO b (min b.length 4000);rw [show min b.length 4000=k by omega])
 try simp only [nrm] at c7
 refine ao (by first|rfl|omega|(simp;done)|(simp;omega)) λ o8=>?_
 refine ao (by first|rfl|omega|(simp;done)|(simp;omega)) λ o9=>?_
 refine ⟨k+1,by
  first|omega|trivial,by
  first|omega|(simp;omega),?_⟩
 refine ⟨?_,?_,?_⟩
 ·first|rfl|exact AX (AC (by omega) (by omega))
 ·first|rfl|exact AX (AC (by omega) (by omega))
 first|rfl|exact AX (AC (by omega) (by omega))
def N6:(List UInt8)×Nat->List PC:=λ i=>[.bt i.1,.im (.int .i64 ((AS i.1 i.2).i)),.im (.int .i64 ((AS i.1 i.2).h))]
def Fu:Con:={ ι:=(List UInt8)×Nat,pre:=λ i=>i.1.length<=1048576/\i.2<=1000,args:=λ i=>[.one (.ro (.bytes i.1)),.one (cI (i.2:Int))],newp:=some N6,res:=λ i=>⟨false,[],[]⟩ }
theorem UA:Fu.OkN Try.prog 14 N6:=by
 refine Wt (X:=⟨tt,[(33,Ft),(34,A4)],[4000001],17,[]⟩) mixed AR (CTok.consN T9 (CTok.consP QU (CTok.nil _))) Try.func14 (λ (i:(List UInt8)×Nat)=>[(3,.mk 3 (Nat) (λ x1=>{ tm:=[(0,tX 1),(1,tI (i.2:Int)),(5,tP 2 0),(6,tI (x1:Int))],en:=[(2,.box [.ext 1,kI ((AS i.1 x1).i),kI ((AS i.1 x1).h)]),(1,.ro (.bytes i.1) [])] }) (λ x1=>x1<=i.2) (λ x1=>i.2-x1) (λ _=>[]))]) ?_
 rintro ⟨b,n⟩ hpre
 have hpre:b.length<=1048576/\n<=1000:=hpre
 refine AQ (q:=let Z2:=(.bytes b:RO)=.bytes b;∃ i1:(List UInt8),[DA.one (DC.ro (.bytes b))]=Ft.args i1/\Ft.pre i1/\((∃ x1:Nat,(x1<=n)/\((rf (vI (n:Int)))/\(vI (0:Int)=vI (x1:Int))/\(vI ((FJ i1).i)=vI ((AS b x1).i))/\(vI ((FJ i1).h)=vI ((AS b x1).h))/\Z2))/\∀ x1:Nat,let Z1:=AS b x1;(x1<=n)->(ifB ((decide ((x1:Int)<(n:Int)))) (∃ i2:(List UInt8)×Cur,[]=A4.args i2/\[PC.bt b,PC.im (vI (Z1.i)),PC.im (vI (Z1.h))]=Di i2/\A4.pre i2/\(∃ y2:Nat,(y2<=n)/\(n-y2<n-x1)/\((rf (vI (n:Int)))/\(vI (wR ((x1:Int)+(1:Int)))=vI (y2:Int))/\(vI ((byC i2.1 i2.2).i)=vI ((AS b y2).i))/\(vI ((byC i2.1 i2.2).h)=vI ((AS b y2).h))/\Z2))) ((vI (Z1.i)=vI ((AS b n).i))/\(vI (Z1.h)=vI ((AS b n).h)))))) (by kernel_rfl) ?_
 conv=>zeta
 delta ifB vI wR
 refine ⟨b,by
  rfl,by
  show b.length<=1048576
  first|exact hpre.1|exact FK hpre.1 k,?_⟩
 refine ⟨⟨0,by
  first|omega|trivial,?_⟩,?_⟩
 ·refine ⟨rfl,rfl,?_,?_,?_⟩
  ·first|rfl|exact AX (AC (by omega) (by omega))
  ·first|rfl|exact AX (AC (by omega) (by omega))
  first|rfl|exact AX (AC (by omega) (by omega))
 intro (k:Nat) hki4
 have hki4:k<=n:=hki4
 refine And.symm ⟨λ c11=>?_,λ c11=>?_⟩
 ·try simp only [nrm] at c11
  refine ⟨?_,?_⟩
  ·first|rfl|(rw [show n=k by omega])
  first|rfl|(rw [show n=k by omega])
 try simp only [nrm] at c11
 refine ⟨(b,(AS b k)),by
  rfl,rfl,by
  show BD b (AS b k)
  first|exact hpre.1|exact FK hpre.1 k,?_⟩
 refine ⟨k+1,by
  first|omega|trivial,by
  first|omega|(simp;omega),?_⟩
 refine ⟨rfl,?_,?_,?_,?_⟩
 ·first|rfl|exact AX (AC (by omega) (by omega))
 ·show Value.int .i64 ((byC b (AS b k)).i)=Value.int .i64 ((AS b (k+1)).i)
  first|rfl|exact AX (AC (by omega) (by omega))
 ·show Value.int .i64 ((byC b (AS b k)).h)=Value.int .i64 ((AS b (k+1)).h)
  first|rfl|exact AX (AC (by omega) (by omega))
 first|rfl|exact AX (AC (by omega) (by omega))
def CR:Con:={ ι:=(List UInt8)×Nat,pre:=λ i=>i.1.length<=1048576/\i.2<=100,args:=λ i=>[.one (.ro (.bytes i.1)),.one (cI (i.2:Int))],res:=λ i=>⟨false,[none],[.own 27 [.int,.int] (AA (drP i.1 5 (AS i.1 (7*i.2))).1)]⟩ }
theorem Rr:CR.Ok Try.prog 5:=by
 refine fok (X:=⟨tt,[(14,Fu),(13,Fs)],[],10,[]⟩) mixed AR (CTok.consN UA (CTok.consP T8 (CTok.nil _))) Try.func5 (λ _=>[]) ?_
 rintro ⟨b,n⟩ hpre
 have hpre:b.length<=1048576/\n<=100:=hpre
 refine AQ (q:=∃ i1:(List UInt8)×Nat,[DA.one (DC.ro (.bytes b)),DA.one (cI (wR ((7:Int)*(n:Int))))]=Fu.args i1/\Fu.pre i1/\(∃ i2:(List UInt8)×Cur×Int,[DA.one (cI (5:Int))]=Fs.args i2/\[PC.bt b,PC.im (vI ((AS i1.1 i1.2).i)),PC.im (vI ((AS i1.1 i1.2).h))]=KB i2/\Fs.pre i2/\((AA (drP i2.1 i2.2.2 i2.2.1).1=AA (drP b 5 (AS b (7*n))).1)))) (by kernel_rfl) ?_
 delta vI wR
 have hw:IntKind.i64.wrap (7*(n:Int))=((7*n:Nat):Int):=by rw [AC (by omega) (by omega)];omega
 refine ⟨(b,7*n),by
  first|rfl|(rw [hw];rfl),by
  show b.length<=1048576/\(7*n)<=1000
  first|exact ⟨hpre.1,by omega⟩|exact ⟨FK hpre.1 _,by omega,by omega⟩,?_⟩
 refine ⟨(b,(AS b (7*n)),(5:Int)),by
  first|rfl|(rw [hw];rfl),rfl,by
  show BD b (AS b (7*n))/\0<=(5:Int)/\(5:Int)<=1000
  first|exact ⟨hpre.1,by omega⟩|exact ⟨FK hpre.1 _,by omega,by omega⟩,?_⟩
 show AA (drP b (5:Int) (AS b (7*n))).1=AA (drP b 5 (AS b (7*n))).1
 rfl
end Go.Proofs.Ytndnhlhnjiopfaa
