import Derived.Test.YtdgmbbjoifneiaaGreatDoorPyRkD1
import Derived.Test.YtdgmbbjoifneiaaGreatDoorPyRkHs
namespace Go.Proofs.YtdgmbbjoifneiaaGreatDoor
set_option maxRecDepth 100000
set_option linter.unusedVariables false
set_option linter.unusedSimpArgs false
open Go.RowKit
def XW (b:List UInt8) (k:Nat) (h:Int):Int:=Eg .i64 (IntKind.i64.wrap (IntKind.i64.wrap (IntKind.i64.wrap (h*61)+IntKind.i64.wrap (((b.getD k 0).toNat:Nat):Int))+7)) 1073741823
def BS (b:List UInt8):Nat->Int
 | 0=>1952+(b.length:Int)
 | k+1=>XW b k (BS b k)
def BC (b:List UInt8):Cur:=⟨0,BS b (min b.length 4000)⟩
def AD (b:List UInt8):Nat->Cur
 | 0=>BC b
 | k+1=>byC b (AD b k)
theorem R3 {b:List UInt8} (h:b.length<=1048576):Av b (BC b):=⟨h,Int.le_refl _,by show (0:Int)<=_;omega⟩
theorem Dh {b:List UInt8} (h:b.length<=1048576):∀ k,Av b (AD b k)
 | 0=>R3 h
 | k+1=>Em (Dh h k)
def OJ:(List UInt8)->List PC:=λ i=>[.bt i,.im (.int .i64 ((BC i).i)),.im (.int .i64 ((BC i).h))]
def GC:Con:={ ι:=(List UInt8),pre:=λ i=>i.length<=1048576,args:=λ i=>[.one (.ro (.bytes i))],newp:=some OJ,res:=λ i=>⟨false,[],[]⟩ }
theorem UR:GC.OkN Tryz.prog 36 OJ:=by
 refine XK (X:=⟨tt,[],[4000001],32,[]⟩) mixed AP (CTok.nil _) Tryz.func36 (λ (i:(List UInt8))=>[(3,.mk 2 (Nat) (λ x1=>{ tm:=[(0,.one (.one (.ext 1))),(3,.one (.one (.im (Value.int .i64 (BS i x1))))),(4,.one (.one (.im (Value.int .i64 (x1:Int)))))],en:=[(1,.ro (.bytes i) [])] }) (λ x1=>x1<=i.length/\x1<=4000) (λ x1=>4000-x1) (λ _=>[]))]) ?_
 intro (b:List UInt8) hpre
 have hpre:b.length<=1048576:=hpre
 refine AO (q:=(∃ x1:Nat,(x1<=b.length/\x1<=4000)/\((Value.int .i64 (IntKind.i64.wrap ((1952:Int)+((b.length:Nat):Int)))=Value.int .i64 (BS b x1))/\(Value.int .i64 (0:Int)=Value.int .i64 (x1:Int))/\((.bytes b:RO)=.bytes b)))/\∀ x1:Nat,(x1<=b.length/\x1<=4000)->(((decide ((x1:Int)<((b.length:Nat):Int)))=true->(((decide ((x1:Int)<(4000:Int)))=true->((0<=(x1:Int)/\(x1:Int)<(b.length:Int))/\((x1<b.length)/\(∃ y2:Nat,(y2<=b.length/\y2<=4000)/\(4000-y2<4000-x1)/\((Value.int .i64 (Eg .i64 (IntKind.i64.wrap ((IntKind.i64.wrap ((IntKind.i64.wrap ((BS b x1)*(61:Int)))+(IntKind.i64.wrap (((b.getD x1 0).toNat:Nat):Int))))+(7:Int))) (1073741823:Int))=Value.int .i64 (BS b y2))/\(Value.int .i64 (IntKind.i64.wrap ((x1:Int)+(1:Int)))=Value.int .i64 (y2:Int))/\((.bytes b:RO)=.bytes b))))))/\((decide ((x1:Int)<(4000:Int)))=false->((Value.int .i64 (0:Int)=Value.int .i64 ((BC b).i))/\(Value.int .i64 (BS b x1)=Value.int .i64 ((BC b).h))))))/\((decide ((x1:Int)<((b.length:Nat):Int)))=false->((Value.int .i64 (0:Int)=Value.int .i64 ((BC b).i))/\(Value.int .i64 (BS b x1)=Value.int .i64 ((BC b).h)))))) (by kernel_rfl) ?_
 -- i1
 refine ⟨⟨0,by
  first|omega|trivial,?_⟩,?_⟩
 ·-- the beginning
  refine ⟨?_,rfl,?_⟩
  ·-- b3: Value.int .i64 (IntKind.i64.wrap ((1952 : Int) + ((b.length : Nat) : Int))) = Value.int .i64 (BS b 0)
   show Value.int .i64 (IntKind.i64.wrap ((1952:Int)+((b.length:Nat):Int)))=Value.int .i64 (BS b 0)
   exact AQ (AF (by omega) (by omega))
  -- b5: (.bytes b : RO) = .bytes b
  show (.bytes b:RO)=.bytes b
  first|rfl|exact AQ (AF (by omega) (by omega))
 intro (k:Nat) hki1
 have hki1:k<=b.length/\k<=4000:=hki1
 refine And.symm ⟨λ c6=>?_,λ c6=>?_⟩
 ·-- c6f: (decide ((k : Int) < ((b.length : Nat) : Int))) = false
  replace c6:(decide ((k:Int)<((b.length:Nat):Int)))=false:=c6
  try simp only [nrm] at c6
  refine ⟨?_,?_⟩
  ·-- l18: Value.int .i64 (0 : Int) = Value.int .i64 ((BC b).i)
   show Value.int .i64 (0:Int)=Value.int .i64 ((BC b).i)
   first|rfl|exact AQ (by show BS b k=BS b (min b.length 4000);rw [show min b.length 4000=k by omega])
  -- l19: Value.int .i64 (BS b k) = Value.int .i64 ((BC b).h)
  show Value.int .i64 (BS b k)=Value.int .i64 ((BC b).h)
  first|rfl|exact AQ (by show BS b k=BS b (min b.length 4000);rw [show min b.length 4000=k by omega])
 -- c6t: (decide ((k : Int) < ((b.length : Nat) : Int))) = true
 replace c6:(decide ((k:Int)<((b.length:Nat):Int)))=true:=c6
 try simp only [nrm] at c6
 refine And.symm ⟨λ c7=>?_,λ c7=>?_⟩
 ·-- c7f: (decide ((k : Int) < (4000 : Int))) = false
  replace c7:(decide ((k:Int)<(4000:Int)))=false:=c7
  try simp only [nrm] at c7
  refine ⟨?_,?_⟩
  ·-- l16: Value.int .i64 (0 : Int) = Value.int .i64 ((BC b).i)
   show Value.int .i64 (0:Int)=Value.int .i64 ((BC b).i)
   first|rfl|exact AQ (by show BS b k=BS b (min b.length 4000);rw [show min b.length 4000=k by omega])
  -- l17: Value.int .i64 (BS b k) = Value.int .i64 ((BC b).h)
  show Value.int .i64 (BS b k)=Value.int .i64 ((BC b).h)
  first|rfl|exact AQ (by show BS b k=BS b (min b.length 4000);rw [show min b.length 4000=k by omega])
 -- c7t: (decide ((k : Int) < (4000 : Int))) = true
 replace c7:(decide ((k:Int)<(4000:Int)))=true:=c7
 try simp only [nrm] at c7
 refine ao (a:=0<=(k:Int)/\(k:Int)<(b.length:Int)) (by first|rfl|omega|(simp;done)|(simp;omega)) λ o8=>?_
 refine ao (a:=k<b.length) (by first|rfl|omega|(simp;done)|(simp;omega)) λ o9=>?_
 -- n10
 refine ⟨k+1,by
  first|omega|trivial,by
  first|omega|(simp;omega),?_⟩
 refine ⟨?_,?_,?_⟩
 ·-- e13: Value.int .i64 (Eg .i64 (IntKind.i64.wrap ((IntKind.i64.wrap ((IntKind.i64.wrap ((BS b k) * (61 : Int))) + (IntKind.i64.wrap (((b.getD k 0).toNat : Nat) : Int)))) + (7 : Int))) (1073741823 : Int)) = Value.int .i64 (BS b (k + 1))
  show Value.int .i64 (Eg .i64 (IntKind.i64.wrap ((IntKind.i64.wrap ((IntKind.i64.wrap ((BS b k)*(61:Int)))+(IntKind.i64.wrap (((b.getD k 0).toNat:Nat):Int))))+(7:Int))) (1073741823:Int))=Value.int .i64 (BS b (k+1))
  first|rfl|exact AQ (AF (by omega) (by omega))
 ·-- e14: Value.int .i64 (IntKind.i64.wrap ((k : Int) + (1 : Int))) = Value.int .i64 ((k + 1) : Int)
  show Value.int .i64 (IntKind.i64.wrap ((k:Int)+(1:Int)))=Value.int .i64 ((k+1):Int)
  first|rfl|exact AQ (AF (by omega) (by omega))
 -- e15: (.bytes b : RO) = .bytes b
 show (.bytes b:RO)=.bytes b
 first|rfl|exact AQ (AF (by omega) (by omega))
def OK:(List UInt8)×Nat->List PC:=λ i=>[.bt i.1,.im (.int .i64 ((AD i.1 i.2).i)),.im (.int .i64 ((AD i.1 i.2).h))]
def Cc:Con:={ ι:=(List UInt8)×Nat,pre:=λ i=>i.1.length<=1048576/\i.2<=1000,args:=λ i=>[.one (.ro (.bytes i.1)),.one (.im (.int .i64 (i.2:Int)))],newp:=some OK,res:=λ i=>⟨false,[],[]⟩ }
theorem OL:Cc.OkN Tryz.prog 17 OK:=by
 refine XK (X:=⟨tt,[(36,GC),(37,A4)],[4000001],17,[]⟩) mixed AP (CTok.consN UR (CTok.consP P9 (CTok.nil _))) Tryz.func17 (λ (i:(List UInt8)×Nat)=>[(3,.mk 3 (Nat) (λ x1=>{ tm:=[(0,.one (.one (.ext 1))),(1,.one (.one (.im (Value.int .i64 (i.2:Int))))),(5,.one (.one (.bp 2 0))),(6,.one (.one (.im (Value.int .i64 (x1:Int)))))],en:=[(2,.box [.ext 1,.im (Value.int .i64 ((AD i.1 x1).i)),.im (Value.int .i64 ((AD i.1 x1).h))]),(1,.ro (.bytes i.1) [])] }) (λ x1=>x1<=i.2) (λ x1=>i.2-x1) (λ _=>[]))]) ?_
 rintro ⟨b,n⟩ hpre
 have hpre:b.length<=1048576/\n<=1000:=hpre
 refine AO (q:=∃ i1:(List UInt8),[DA.one (DC.ro (.bytes b))]=GC.args i1/\GC.pre i1/\((∃ x1:Nat,(x1<=n)/\((rf (Value.int .i64 (n:Int)))/\(Value.int .i64 (0:Int)=Value.int .i64 (x1:Int))/\(Value.int .i64 ((BC i1).i)=Value.int .i64 ((AD b x1).i))/\(Value.int .i64 ((BC i1).h)=Value.int .i64 ((AD b x1).h))/\((.bytes b:RO)=.bytes b)))/\∀ x1:Nat,(x1<=n)->(((decide ((x1:Int)<(n:Int)))=true->(∃ i2:(List UInt8)×Cur,[]=A4.args i2/\[PC.bt b,PC.im (Value.int .i64 ((AD b x1).i)),PC.im (Value.int .i64 ((AD b x1).h))]=Dx i2/\A4.pre i2/\(∃ y2:Nat,(y2<=n)/\(n-y2<n-x1)/\((rf (Value.int .i64 (n:Int)))/\(Value.int .i64 (IntKind.i64.wrap ((x1:Int)+(1:Int)))=Value.int .i64 (y2:Int))/\(Value.int .i64 ((byC i2.1 i2.2).i)=Value.int .i64 ((AD b y2).i))/\(Value.int .i64 ((byC i2.1 i2.2).h)=Value.int .i64 ((AD b y2).h))/\((.bytes b:RO)=.bytes b)))))/\((decide ((x1:Int)<(n:Int)))=false->((Value.int .i64 ((AD b x1).i)=Value.int .i64 ((AD b n).i))/\(Value.int .i64 ((AD b x1).h)=Value.int .i64 ((AD b n).h))))))) (by kernel_rfl) ?_
 -- w1: new01 [DA.one (DC.ro (.bytes b))]
 refine ⟨b,by
  rfl,by
  show b.length<=1048576
  first|exact hpre.1|exact Dh hpre.1 k,?_⟩
 -- i4
 refine ⟨⟨0,by
  first|omega|trivial,?_⟩,?_⟩
 ·-- the beginning
  refine ⟨rfl,rfl,?_,?_,?_⟩
  ·-- b8: Value.int .i64 ((BC b).i) = Value.int .i64 ((AD b 0).i)
   show Value.int .i64 ((BC b).i)=Value.int .i64 ((AD b 0).i)
   first|rfl|exact AQ (AF (by omega) (by omega))
  ·-- b9: Value.int .i64 ((BC b).h) = Value.int .i64 ((AD b 0).h)
   show Value.int .i64 ((BC b).h)=Value.int .i64 ((AD b 0).h)
   first|rfl|exact AQ (AF (by omega) (by omega))
  -- b10: (.bytes b : RO) = .bytes b
  show (.bytes b:RO)=.bytes b
  first|rfl|exact AQ (AF (by omega) (by omega))
 intro (k:Nat) hki4
 have hki4:k<=n:=hki4
 refine And.symm ⟨λ c11=>?_,λ c11=>?_⟩
 ·-- c11f: (decide ((k : Int) < (n : Int))) = false
  replace c11:(decide ((k:Int)<(n:Int)))=false:=c11
  try simp only [nrm] at c11
  refine ⟨?_,?_⟩
  ·-- l23: Value.int .i64 ((AD b k).i) = Value.int .i64 ((AD b n).i)
   show Value.int .i64 ((AD b k).i)=Value.int .i64 ((AD b n).i)
   first|rfl|(rw [show n=k by omega])
  -- l24: Value.int .i64 ((AD b k).h) = Value.int .i64 ((AD b n).h)
  show Value.int .i64 ((AD b k).h)=Value.int .i64 ((AD b n).h)
  first|rfl|(rw [show n=k by omega])
 -- c11t: (decide ((k : Int) < (n : Int))) = true
 replace c11:(decide ((k:Int)<(n:Int)))=true:=c11
 try simp only [nrm] at c11
 -- w12: byte []
 refine ⟨(b,(AD b k)),by
  rfl,rfl,by
  show Av b (AD b k)
  first|exact hpre.1|exact Dh hpre.1 k,?_⟩
 -- n15
 refine ⟨k+1,by
  first|omega|trivial,by
  first|omega|(simp;omega),?_⟩
 refine ⟨rfl,?_,?_,?_,?_⟩
 ·-- e19: Value.int .i64 (IntKind.i64.wrap ((k : Int) + (1 : Int))) = Value.int .i64 ((k + 1) : Int)
  show Value.int .i64 (IntKind.i64.wrap ((k:Int)+(1:Int)))=Value.int .i64 ((k+1):Int)
  first|rfl|exact AQ (AF (by omega) (by omega))
 ·-- e20: Value.int .i64 ((byC b (AD b k)).i) = Value.int .i64 ((AD b (k + 1)).i)
  show Value.int .i64 ((byC b (AD b k)).i)=Value.int .i64 ((AD b (k+1)).i)
  first|rfl|exact AQ (AF (by omega) (by omega))
 ·-- e21: Value.int .i64 ((byC b (AD b k)).h) = Value.int .i64 ((AD b (k + 1)).h)
  show Value.int .i64 ((byC b (AD b k)).h)=Value.int .i64 ((AD b (k+1)).h)
  first|rfl|exact AQ (AF (by omega) (by omega))
 -- e22: (.bytes b : RO) = .bytes b
 show (.bytes b:RO)=.bytes b
 first|rfl|exact AQ (AF (by omega) (by omega))
def E8:Con:={ ι:=(List UInt8)×Nat,pre:=λ i=>i.1.length<=1048576/\i.2<=100,args:=λ i=>[.one (.ro (.bytes i.1)),.one (.im (.int .i64 (i.2:Int)))],res:=λ i=>⟨false,[none],[.own 26 [.int,.int] (AA (drP i.1 5 (AD i.1 (7*i.2))).1)]⟩ }
theorem R4:E8.Ok Tryz.prog 4:=by
 refine fok (X:=⟨tt,[(17,Cc),(16,GB)],[],10,[]⟩) mixed AP (CTok.consN OL (CTok.consP UQ (CTok.nil _))) Tryz.func4 (λ _=>[]) ?_
 rintro ⟨b,n⟩ hpre
 have hpre:b.length<=1048576/\n<=100:=hpre
 refine AO (q:=∃ i1:(List UInt8)×Nat,[DA.one (DC.ro (.bytes b)),DA.one (cI (IntKind.i64.wrap ((7:Int)*(n:Int))))]=Cc.args i1/\Cc.pre i1/\(∃ i2:(List UInt8)×Cur×Int,[DA.one (cI (5:Int))]=GB.args i2/\[PC.bt b,PC.im (Value.int .i64 ((AD i1.1 i1.2).i)),PC.im (Value.int .i64 ((AD i1.1 i1.2).h))]=KL i2/\GB.pre i2/\((AA (drP i2.1 i2.2.2 i2.2.1).1=AA (drP b 5 (AD b (7*n))).1)))) (by kernel_rfl) ?_
 have hw:IntKind.i64.wrap (7*(n:Int))=((7*n:Nat):Int):=by rw [AF (by omega) (by omega)];omega
 -- w1: new31 [DA.one (DC.ro (.bytes b)), DA.one (DC.im (Value.int .i64 (IntKind.i64.wrap ((7 : Int) * (n : Int)))))]
 refine ⟨(b,7*n),by
  first|rfl|(rw [hw];rfl),by
  show b.length<=1048576/\(7*n)<=1000
  first|exact ⟨hpre.1,by omega⟩|exact ⟨Dh hpre.1 _,by omega,by omega⟩,?_⟩
 -- w4: dPoly [DA.one (DC.im (Value.int .i64 (5 : Int)))]
 refine ⟨(b,(AD b (7*n)),(5:Int)),by
  first|rfl|(rw [hw];rfl),rfl,by
  show Av b (AD b (7*n))/\0<=(5:Int)/\(5:Int)<=1000
  first|exact ⟨hpre.1,by omega⟩|exact ⟨Dh hpre.1 _,by omega,by omega⟩,?_⟩
 -- l7: AA (drP b (5 : Int) (AD b (7 * n))).1 = AA (drP b 5 (AD b (7 * n))).1
 show AA (drP b (5:Int) (AD b (7*n))).1=AA (drP b 5 (AD b (7*n))).1
 rfl
def GD:Con:={ ι:=(List UInt8)×Nat,pre:=λ i=>i.1.length<=1048576/\i.2<=100,args:=λ i=>[.one (.ro (.bytes i.1)),.one (.im (.int .i64 (i.2:Int)))],res:=λ i=>⟨false,[some 2],[.im (Value.int .i64 ((Bn i.1 (AD i.1 (3*i.2))).1)),.im (Value.int .i64 ((Bn i.1 (AD i.1 (3*i.2))).2))]⟩ }
theorem US:GD.Ok Tryz.prog 5:=by
 refine fok (X:=⟨tt,[(17,Cc),(18,HT)],[],10,[]⟩) mixed AP (CTok.consN OL (CTok.consP Vi (CTok.nil _))) Tryz.func5 (λ _=>[]) ?_
 rintro ⟨b,n⟩ hpre
 have hpre:b.length<=1048576/\n<=100:=hpre
 refine AO (q:=∃ i1:(List UInt8)×Nat,[DA.one (DC.ro (.bytes b)),DA.one (cI (IntKind.i64.wrap ((3:Int)*(n:Int))))]=Cc.args i1/\Cc.pre i1/\(∃ i2:(List UInt8)×Cur,[]=HT.args i2/\[PC.bt b,PC.im (Value.int .i64 ((AD i1.1 i1.2).i)),PC.im (Value.int .i64 ((AD i1.1 i1.2).h))]=MQ i2/\HT.pre i2/\((Value.int .i64 ((Bn i2.1 i2.2).1)=Value.int .i64 ((Bn b (AD b (3*n))).1))/\(Value.int .i64 ((Bn i2.1 i2.2).2)=Value.int .i64 ((Bn b (AD b (3*n))).2))))) (by kernel_rfl) ?_
 have hw:IntKind.i64.wrap (3*(n:Int))=((3*n:Nat):Int):=by rw [AF (by omega) (by omega)];omega
 -- w1: new31 [DA.one (DC.ro (.bytes b)), DA.one (DC.im (Value.int .i64 (IntKind.i64.wrap ((3 : Int) * (n : Int)))))]
 refine ⟨(b,3*n),by
  first|rfl|(rw [hw];rfl),by
  show b.length<=1048576/\(3*n)<=1000
  first|exact ⟨hpre.1,by omega⟩|exact Dh hpre.1 _,?_⟩
 -- w4: dVec []
 refine ⟨(b,(AD b (3*n))),by
  first|rfl|(rw [hw];rfl),rfl,by
  show Av b (AD b (3*n))
  first|exact ⟨hpre.1,by omega⟩|exact Dh hpre.1 _,?_⟩
 exact ⟨rfl,rfl⟩
end Go.Proofs.YtdgmbbjoifneiaaGreatDoor
