import Derived.Test.YtndnhlhnjiopfaaGreatDi2RkD1
import Derived.Test.YtndnhlhnjiopfaaGreatDi2RkHu
namespace Go.Proofs.YtndnhlhnjiopfaaGreat
set_option maxRecDepth 100000
set_option linter.unusedVariables false
set_option linter.unusedSimpArgs false
open Go.RowKit
def Yr (b:List UInt8) (k:Nat) (h:Int):Int:=KQ .i64 (IntKind.i64.wrap (IntKind.i64.wrap (IntKind.i64.wrap (h*61)+IntKind.i64.wrap (((b.getD k 0).toNat:Nat):Int))+7)) 1073741823
def CK (b:List UInt8):Nat->Int
 | 0=>1952+(b.length:Int)
 | k+1=>Yr b k (CK b k)
def Bm (b:List UInt8):Cur:=⟨0,CK b (min b.length 4000)⟩
def AA (b:List UInt8):Nat->Cur
 | 0=>Bm b
 | k+1=>byC b (AA b k)
theorem Tx {b:List UInt8} (h:b.length<=1048576):A8 b (Bm b):=⟨h,Int.le_refl _,by show (0:Int)<=_;omega⟩
theorem Ew {b:List UInt8} (h:b.length<=1048576):∀ k,A8 b (AA b k)
 | 0=>Tx h
 | k+1=>Gb (Ew h k)
def P4:(List UInt8)->List PC:=λ i=>[.bt i,.im (.int .i64 ((Bm i).i)),.im (.int .i64 ((Bm i).h))]
def Hu:Con:={ ι:=(List UInt8),pre:=λ i=>i.length<=1048576,args:=λ i=>[.one (.ro (.bytes i))],newp:=some P4,res:=λ i=>⟨false,[],[]⟩ }
theorem Vx:Hu.OkN Tryz.prog 69 P4:=by
 refine Yq (X:=⟨tt,[],[4000001],32,[]⟩) AG AH (CTok.nil _) Tryz.func69 (λ (i:(List UInt8))=>[(3,.mk 2 (Nat) (λ x1=>{ tm:=[(0,.one (.one (.ext 1))),(3,.one (.one (.im (Value.int .i64 (CK i x1))))),(4,.one (.one (.im (Value.int .i64 (x1:Int)))))],en:=[(1,.ro (.bytes i) [])] }) (λ x1=>x1<=i.length/\x1<=4000) (λ x1=>4000-x1) (λ _=>[]))]) ?_
 intro (b:List UInt8) hpre
 have hpre:b.length<=1048576:=hpre
 refine AF (q:=(∃ x1:Nat,(x1<=b.length/\x1<=4000)/\((Value.int .i64 (IntKind.i64.wrap ((1952:Int)+((b.length:Nat):Int)))=Value.int .i64 (CK b x1))/\(Value.int .i64 (0:Int)=Value.int .i64 (x1:Int))/\((.bytes b:RO)=.bytes b)))/\∀ x1:Nat,(x1<=b.length/\x1<=4000)->(((decide ((x1:Int)<((b.length:Nat):Int)))=true->(((decide ((x1:Int)<(4000:Int)))=true->((0<=(x1:Int)/\(x1:Int)<(b.length:Int))/\((x1<b.length)/\(∃ y2:Nat,(y2<=b.length/\y2<=4000)/\(4000-y2<4000-x1)/\((Value.int .i64 (KQ .i64 (IntKind.i64.wrap ((IntKind.i64.wrap ((IntKind.i64.wrap ((CK b x1)*(61:Int)))+(IntKind.i64.wrap (((b.getD x1 0).toNat:Nat):Int))))+(7:Int))) (1073741823:Int))=Value.int .i64 (CK b y2))/\(Value.int .i64 (IntKind.i64.wrap ((x1:Int)+(1:Int)))=Value.int .i64 (y2:Int))/\((.bytes b:RO)=.bytes b))))))/\((decide ((x1:Int)<(4000:Int)))=false->((Value.int .i64 (0:Int)=Value.int .i64 ((Bm b).i))/\(Value.int .i64 (CK b x1)=Value.int .i64 ((Bm b).h))))))/\((decide ((x1:Int)<((b.length:Nat):Int)))=false->((Value.int .i64 (0:Int)=Value.int .i64 ((Bm b).i))/\(Value.int .i64 (CK b x1)=Value.int .i64 ((Bm b).h)))))) (by kernel_rfl) ?_
 -- i1
 refine ⟨⟨0,by
  first|omega|trivial,?_⟩,?_⟩
 ·-- the beginning
  refine ⟨?_,rfl,?_⟩
  ·-- b3: Value.int .i64 (IntKind.i64.wrap ((1952 : Int) + ((b.length : Nat) : Int))) = Value.int .i64 (CK b 0)
   show Value.int .i64 (IntKind.i64.wrap ((1952:Int)+((b.length:Nat):Int)))=Value.int .i64 (CK b 0)
   exact Am (AB (by omega) (by omega))
  -- b5: (.bytes b : RO) = .bytes b
  show (.bytes b:RO)=.bytes b
  first|rfl|exact Am (AB (by omega) (by omega))
 intro (k:Nat) hki1
 have hki1:k<=b.length/\k<=4000:=hki1
 refine And.symm ⟨λ c6=>?_,λ c6=>?_⟩
 ·-- c6f: (decide ((k : Int) < ((b.length : Nat) : Int))) = false
  replace c6:(decide ((k:Int)<((b.length:Nat):Int)))=false:=c6
  try simp only [nrm] at c6
  refine ⟨?_,?_⟩
  ·-- l18: Value.int .i64 (0 : Int) = Value.int .i64 ((Bm b).i)
   show Value.int .i64 (0:Int)=Value.int .i64 ((Bm b).i)
   first|rfl|exact Am (by show CK b k=CK b (min b.length 4000);rw [show min b.length 4000=k by omega])
  -- l19: Value.int .i64 (CK b k) = Value.int .i64 ((Bm b).h)
  show Value.int .i64 (CK b k)=Value.int .i64 ((Bm b).h)
  first|rfl|exact Am (by show CK b k=CK b (min b.length 4000);rw [show min b.length 4000=k by omega])
 -- c6t: (decide ((k : Int) < ((b.length : Nat) : Int))) = true
 replace c6:(decide ((k:Int)<((b.length:Nat):Int)))=true:=c6
 try simp only [nrm] at c6
 refine And.symm ⟨λ c7=>?_,λ c7=>?_⟩
 ·-- c7f: (decide ((k : Int) < (4000 : Int))) = false
  replace c7:(decide ((k:Int)<(4000:Int)))=false:=c7
  try simp only [nrm] at c7
  refine ⟨?_,?_⟩
  ·-- l16: Value.int .i64 (0 : Int) = Value.int .i64 ((Bm b).i)
   show Value.int .i64 (0:Int)=Value.int .i64 ((Bm b).i)
   first|rfl|exact Am (by show CK b k=CK b (min b.length 4000);rw [show min b.length 4000=k by omega])
  -- l17: Value.int .i64 (CK b k) = Value.int .i64 ((Bm b).h)
  show Value.int .i64 (CK b k)=Value.int .i64 ((Bm b).h)
  first|rfl|exact Am (by show CK b k=CK b (min b.length 4000);rw [show min b.length 4000=k by omega])
 -- c7t: (decide ((k : Int) < (4000 : Int))) = true
 replace c7:(decide ((k:Int)<(4000:Int)))=true:=c7
 try simp only [nrm] at c7
 refine ao (a:=0<=(k:Int)/\(k:Int)<(b.length:Int)) (by first|rfl|omega|(simp;done)|(simp;omega)) λ o8=>?_
 refine ao (a:=k<b.length) (by first|rfl|omega|(simp;done)|(simp;omega)) λ o9=>?_
 -- n10
 refine ⟨k+1,by
  first|omega|trivial,by
  first|omega|(simp;omega),?_⟩
 refine ⟨?_,?_,?_⟩
 ·-- e13: Value.int .i64 (KQ .i64 (IntKind.i64.wrap ((IntKind.i64.wrap ((IntKind.i64.wrap ((CK b k) * (61 : Int))) + (IntKind.i64.wrap (((b.getD k 0).toNat : Nat) : Int)))) + (7 : Int))) (1073741823 : Int)) = Value.int .i64 (CK b (k + 1))
  show Value.int .i64 (KQ .i64 (IntKind.i64.wrap ((IntKind.i64.wrap ((IntKind.i64.wrap ((CK b k)*(61:Int)))+(IntKind.i64.wrap (((b.getD k 0).toNat:Nat):Int))))+(7:Int))) (1073741823:Int))=Value.int .i64 (CK b (k+1))
  first|rfl|exact Am (AB (by omega) (by omega))
 ·-- e14: Value.int .i64 (IntKind.i64.wrap ((k : Int) + (1 : Int))) = Value.int .i64 ((k + 1) : Int)
  show Value.int .i64 (IntKind.i64.wrap ((k:Int)+(1:Int)))=Value.int .i64 ((k+1):Int)
  first|rfl|exact Am (AB (by omega) (by omega))
 -- e15: (.bytes b : RO) = .bytes b
 show (.bytes b:RO)=.bytes b
 first|rfl|exact Am (AB (by omega) (by omega))
def P5:(List UInt8)×Nat->List PC:=λ i=>[.bt i.1,.im (.int .i64 ((AA i.1 i.2).i)),.im (.int .i64 ((AA i.1 i.2).h))]
def Dt:Con:={ ι:=(List UInt8)×Nat,pre:=λ i=>i.1.length<=1048576/\i.2<=1000,args:=λ i=>[.one (.ro (.bytes i.1)),.one (.im (.int .i64 (i.2:Int)))],newp:=some P5,res:=λ i=>⟨false,[],[]⟩ }
theorem P6:Dt.OkN Tryz.prog 32 P5:=by
 refine Yq (X:=⟨tt,[(69,Hu),(40,Bh)],[4000001],17,[]⟩) AG AH (CTok.consN Vx (CTok.consP Sb (CTok.nil _))) Tryz.func32 (λ (i:(List UInt8)×Nat)=>[(3,.mk 3 (Nat) (λ x1=>{ tm:=[(0,.one (.one (.ext 1))),(1,.one (.one (.im (Value.int .i64 (i.2:Int))))),(5,.one (.one (.bp 2 0))),(6,.one (.one (.im (Value.int .i64 (x1:Int)))))],en:=[(2,.box [.ext 1,.im (Value.int .i64 ((AA i.1 x1).i)),.im (Value.int .i64 ((AA i.1 x1).h))]),(1,.ro (.bytes i.1) [])] }) (λ x1=>x1<=i.2) (λ x1=>i.2-x1) (λ _=>[]))]) ?_
 rintro ⟨b,n⟩ hpre
 have hpre:b.length<=1048576/\n<=1000:=hpre
 refine AF (q:=∃ i1:(List UInt8),[DA.one (DC.ro (.bytes b))]=Hu.args i1/\Hu.pre i1/\((∃ x1:Nat,(x1<=n)/\((rf (Value.int .i64 (n:Int)))/\(Value.int .i64 (0:Int)=Value.int .i64 (x1:Int))/\(Value.int .i64 ((Bm i1).i)=Value.int .i64 ((AA b x1).i))/\(Value.int .i64 ((Bm i1).h)=Value.int .i64 ((AA b x1).h))/\((.bytes b:RO)=.bytes b)))/\∀ x1:Nat,(x1<=n)->(((decide ((x1:Int)<(n:Int)))=true->(∃ i2:(List UInt8)×Cur,[]=Bh.args i2/\[PC.bt b,PC.im (Value.int .i64 ((AA b x1).i)),PC.im (Value.int .i64 ((AA b x1).h))]=FJ i2/\Bh.pre i2/\(∃ y2:Nat,(y2<=n)/\(n-y2<n-x1)/\((rf (Value.int .i64 (n:Int)))/\(Value.int .i64 (IntKind.i64.wrap ((x1:Int)+(1:Int)))=Value.int .i64 (y2:Int))/\(Value.int .i64 ((byC i2.1 i2.2).i)=Value.int .i64 ((AA b y2).i))/\(Value.int .i64 ((byC i2.1 i2.2).h)=Value.int .i64 ((AA b y2).h))/\((.bytes b:RO)=.bytes b)))))/\((decide ((x1:Int)<(n:Int)))=false->((Value.int .i64 ((AA b x1).i)=Value.int .i64 ((AA b n).i))/\(Value.int .i64 ((AA b x1).h)=Value.int .i64 ((AA b n).h))))))) (by kernel_rfl) ?_
 -- w1: new01 [DA.one (DC.ro (.bytes b))]
 refine ⟨b,by
  rfl,by
  show b.length<=1048576
  first|exact hpre.1|exact Ew hpre.1 k,?_⟩
 -- i4
 refine ⟨⟨0,by
  first|omega|trivial,?_⟩,?_⟩
 ·-- the beginning
  refine ⟨rfl,rfl,?_,?_,?_⟩
  ·-- b8: Value.int .i64 ((Bm b).i) = Value.int .i64 ((AA b 0).i)
   show Value.int .i64 ((Bm b).i)=Value.int .i64 ((AA b 0).i)
   first|rfl|exact Am (AB (by omega) (by omega))
  ·-- b9: Value.int .i64 ((Bm b).h) = Value.int .i64 ((AA b 0).h)
   show Value.int .i64 ((Bm b).h)=Value.int .i64 ((AA b 0).h)
   first|rfl|exact Am (AB (by omega) (by omega))
  -- b10: (.bytes b : RO) = .bytes b
  show (.bytes b:RO)=.bytes b
  first|rfl|exact Am (AB (by omega) (by omega))
 intro (k:Nat) hki4
 have hki4:k<=n:=hki4
 refine And.symm ⟨λ c11=>?_,λ c11=>?_⟩
 ·-- c11f: (decide ((k : Int) < (n : Int))) = false
  replace c11:(decide ((k:Int)<(n:Int)))=false:=c11
  try simp only [nrm] at c11
  refine ⟨?_,?_⟩
  ·-- l23: Value.int .i64 ((AA b k).i) = Value.int .i64 ((AA b n).i)
   show Value.int .i64 ((AA b k).i)=Value.int .i64 ((AA b n).i)
   first|rfl|(rw [show n=k by omega])
  -- l24: Value.int .i64 ((AA b k).h) = Value.int .i64 ((AA b n).h)
  show Value.int .i64 ((AA b k).h)=Value.int .i64 ((AA b n).h)
  first|rfl|(rw [show n=k by omega])
 -- c11t: (decide ((k : Int) < (n : Int))) = true
 replace c11:(decide ((k:Int)<(n:Int)))=true:=c11
 try simp only [nrm] at c11
 -- w12: byte []
 refine ⟨(b,(AA b k)),by
  rfl,rfl,by
  show A8 b (AA b k)
  first|exact hpre.1|exact Ew hpre.1 k,?_⟩
 -- n15
 refine ⟨k+1,by
  first|omega|trivial,by
  first|omega|(simp;omega),?_⟩
 refine ⟨rfl,?_,?_,?_,?_⟩
 ·-- e19: Value.int .i64 (IntKind.i64.wrap ((k : Int) + (1 : Int))) = Value.int .i64 ((k + 1) : Int)
  show Value.int .i64 (IntKind.i64.wrap ((k:Int)+(1:Int)))=Value.int .i64 ((k+1):Int)
  first|rfl|exact Am (AB (by omega) (by omega))
 ·-- e20: Value.int .i64 ((byC b (AA b k)).i) = Value.int .i64 ((AA b (k + 1)).i)
  show Value.int .i64 ((byC b (AA b k)).i)=Value.int .i64 ((AA b (k+1)).i)
  first|rfl|exact Am (AB (by omega) (by omega))
 ·-- e21: Value.int .i64 ((byC b (AA b k)).h) = Value.int .i64 ((AA b (k + 1)).h)
  show Value.int .i64 ((byC b (AA b k)).h)=Value.int .i64 ((AA b (k+1)).h)
  first|rfl|exact Am (AB (by omega) (by omega))
 -- e22: (.bytes b : RO) = .bytes b
 show (.bytes b:RO)=.bytes b
 first|rfl|exact Am (AB (by omega) (by omega))
def OG:(List UInt8)×Cur×Int->List PC:=λ i=>[.bt i.1,.im (.int .i64 i.2.1.i),.im (.int .i64 i.2.1.h)]
def Sd:(List UInt8)×Cur×Int->List PC:=λ i=>[.bt i.1,.im (.int .i64 ((blC i.1 i.2.1 i.2.2).i)),.im (.int .i64 ((blC i.1 i.2.1 i.2.2).h))]
def Iz:Con:={ ι:=(List UInt8)×Cur×Int,pre:=λ i=>A8 i.1 i.2.1,args:=λ i=>[.one (.im (.int .i64 i.2.2))],ptr:=some (OG,Sd),res:=λ i=>⟨false,[none],[.im (Value.bool (decide (blV i.1 i.2.1 i.2.2=0)))]⟩ }
theorem W2:Iz.OkP Tryz.prog 65 OG Sd:=by
 refine Tv (X:=⟨tt,[(68,A3)],[4000000],9,[]⟩) AG AH (CTok.consP Ix (CTok.nil _)) Tryz.func65 (λ _=>[]) ?_
 rintro ⟨b,c,n⟩ hpre
 have hpre:A8 b c:=hpre
 refine AF (q:=∃ i1:(List UInt8)×Cur×Int,[DA.one (cI n)]=A3.args i1/\[PC.bt b,PC.im (Value.int .i64 c.i),PC.im (Value.int .i64 c.h)]=Dd i1/\A3.pre i1/\((Value.bool ((blV i1.1 i1.2.1 i1.2.2) == (0:Int))=Value.bool (decide (blV b c n=0)))/\(Value.int .i64 ((blC i1.1 i1.2.1 i1.2.2).i)=Value.int .i64 ((blC b c n).i))/\(Value.int .i64 ((blC i1.1 i1.2.1 i1.2.2).h)=Value.int .i64 ((blC b c n).h)))) (by kernel_rfl) ?_
 -- w1: below [DA.one (DC.im (Value.int .i64 n))]
 refine ⟨(b,c,n),by
  rfl,rfl,by
  show A8 b c
  exact hpre,?_⟩
 refine ⟨?_,rfl,rfl⟩
 -- l4: Value.bool ((blV b c n) == (0 : Int)) = Value.bool (decide (blV b c n = 0))
 show Value.bool ((blV b c n) == (0:Int))=Value.bool (decide (blV b c n=0))
 first|rfl|simp_all
def Gd:Con:={ ι:=(List UInt8)×Nat,pre:=λ i=>i.1.length<=1048576/\i.2<=100,args:=λ i=>[.one (.ro (.bytes i.1)),.one (.im (.int .i64 (i.2:Int)))],res:=λ i=>⟨false,[none],[.own 44 [.int,.int] (AC (drP i.1 5 (AA i.1 (7*i.2))).1)]⟩ }
theorem Tz:Gd.Ok Tryz.prog 8:=by
 refine fok (X:=⟨tt,[(32,Dt),(33,Ht)],[],10,[]⟩) AG AH (CTok.consN P6 (CTok.consP Vw (CTok.nil _))) Tryz.func8 (λ _=>[]) ?_
 rintro ⟨b,n⟩ hpre
 have hpre:b.length<=1048576/\n<=100:=hpre
 refine AF (q:=∃ i1:(List UInt8)×Nat,[DA.one (DC.ro (.bytes b)),DA.one (cI (IntKind.i64.wrap ((7:Int)*(n:Int))))]=Dt.args i1/\Dt.pre i1/\(∃ i2:(List UInt8)×Cur×Int,[DA.one (cI (5:Int))]=Ht.args i2/\[PC.bt b,PC.im (Value.int .i64 ((AA i1.1 i1.2).i)),PC.im (Value.int .i64 ((AA i1.1 i1.2).h))]=MG i2/\Ht.pre i2/\((AC (drP i2.1 i2.2.2 i2.2.1).1=AC (drP b 5 (AA b (7*n))).1)))) (by kernel_rfl) ?_
 have hw:IntKind.i64.wrap (7*(n:Int))=((7*n:Nat):Int):=by rw [AB (by omega) (by omega)];omega
 -- w1: new31 [DA.one (DC.ro (.bytes b)), DA.one (DC.im (Value.int .i64 (IntKind.i64.wrap ((7 : Int) * (n : Int)))))]
 refine ⟨(b,7*n),by
  first|rfl|(rw [hw];rfl),by
  show b.length<=1048576/\(7*n)<=1000
  first|exact ⟨hpre.1,by omega⟩|exact ⟨Ew hpre.1 _,by omega,by omega⟩,?_⟩
 -- w4: dPoly [DA.one (DC.im (Value.int .i64 (5 : Int)))]
 refine ⟨(b,(AA b (7*n)),(5:Int)),by
  first|rfl|(rw [hw];rfl),rfl,by
  show A8 b (AA b (7*n))/\0<=(5:Int)/\(5:Int)<=1000
  first|exact ⟨hpre.1,by omega⟩|exact ⟨Ew hpre.1 _,by omega,by omega⟩,?_⟩
 -- l7: AC (drP b (5 : Int) (AA b (7 * n))).1 = AC (drP b 5 (AA b (7 * n))).1
 show AC (drP b (5:Int) (AA b (7*n))).1=AC (drP b 5 (AA b (7*n))).1
 rfl
end Go.Proofs.YtndnhlhnjiopfaaGreat
