import Derived.Test.YtmekciknfocmmaaGreatDoorScRkD1
import Derived.Test.YtmekciknfocmmaaGreatDoorScRkMv
namespace Go.Proofs.YtmekciknfocmmaaGreatDoor
set_option maxRecDepth 100000
set_option linter.unusedVariables false
set_option linter.unusedSimpArgs false
open Go.RowKit
def TS (b:List UInt8) (k:Nat) (h:Int):Int:=JP .i64 (IntKind.i64.wrap (IntKind.i64.wrap (IntKind.i64.wrap (h*61)+IntKind.i64.wrap (((b.getD k 0).toNat:Nat):Int))+7)) 1073741823
def C2 (b:List UInt8):Nat->Int
 | 0=>1952+(b.length:Int)
 | k+1=>TS b k (C2 b k)
def AU (b:List UInt8):Cur:=⟨0,C2 b (min b.length 4000)⟩
def Ar (b:List UInt8):Nat->Cur
 | 0=>AU b
 | k+1=>byC b (Ar b k)
theorem Gn {b:List UInt8} (h:b.length<=1048576):AY b (AU b):=⟨h,Int.le_refl _,by show (0:Int)<=_;omega⟩
theorem EV {b:List UInt8} (h:b.length<=1048576):∀ k,AY b (Ar b k)
 | 0=>Gn h
 | k+1=>Dt (EV h k)
def Mh:(List UInt8)->List PC:=λ i=>[.bt i,.im (.int .i64 ((AU i).i)),.im (.int .i64 ((AU i).h))]
def CF:Con:={ ι:=(List UInt8),pre:=λ i=>i.length<=1048576,args:=λ i=>[.one (.ro (.bytes i))],newp:=some Mh,res:=λ i=>⟨false,[],[]⟩ }
theorem Mi:CF.OkN Tryz.prog 13 Mh:=by
 refine TH (X:=⟨tt,[],[4000001],32,[]⟩) mixed BC (CTok.nil _) Tryz.func13 (λ (i:(List UInt8))=>[(3,.mk 2 (Nat) (λ x1=>{ tm:=[(0,tX 1),(3,tI (C2 i x1)),(4,tI (x1:Int))],en:=[(1,.ro (.bytes i) [])] }) (λ x1=>x1<=i.length/\x1<=4000) (λ x1=>4000-x1) (λ _=>[]))]) ?_
 intro (b:List UInt8) hpre
 have hpre:b.length<=1048576:=hpre
 refine BB (q:=let Z2:=(.bytes b:RO)=.bytes b;(∃ x1:Nat,(x1<=b.length/\x1<=4000)/\((vI (wR ((1952:Int)+(nI b.length)))=vI (C2 b x1))/\(vI (0:Int)=vI (x1:Int))/\Z2))/\∀ x1:Nat,let Z1:=(vI (0:Int)=vI ((AU b).i))/\(vI (C2 b x1)=vI ((AU b).h));(x1<=b.length/\x1<=4000)->(ifB ((decide ((x1:Int)<(nI b.length)))) (ifB ((decide ((x1:Int)<(4000:Int)))) ((0<=(x1:Int)/\(x1:Int)<(b.length:Int))/\((x1<b.length)/\(∃ y2:Nat,(y2<=b.length/\y2<=4000)/\(4000-y2<4000-x1)/\((vI (JP .i64 (wR ((wR ((wR ((C2 b x1)*(61:Int)))+(wR (nI ((b.getD x1 0).toNat)))))+(7:Int))) (1073741823:Int))=vI (C2 b y2))/\(vI (wR ((x1:Int)+(1:Int)))=vI (y2:Int))/\Z2)))) Z1) Z1)) (by kernel_rfl) ?_
 conv=>zeta
 delta ifB vI wR nI
 refine ⟨⟨0,by
  first|omega|trivial,?_⟩,?_⟩
 ·refine ⟨?_,rfl,?_⟩
  ·exact AV (AE (by omega) (by omega))
  first|rfl|exact AV (AE (by omega) (by omega))
 intro (k:Nat) hki1
 have hki1:k<=b.length/\k<=4000:=hki1
 refine And.symm ⟨λ c6=>?_,λ c6=>?_⟩
 ·try simp only [nrm] at c6
  refine ⟨?_,?_⟩
  ·first|rfl|exact AV (by show C2 b k=C2 b (min b.length 4000);rw [show min b.length 4000=k by omega])
  first|rfl|exact AV (by show C2 b k=C2 b (min b.length 4000);rw [show min b.length 4000=k by omega])
 try simp only [nrm] at c6
 refine And.symm ⟨λ c7=>?_,λ c7=>?_⟩
 ·try simp only [nrm] at c7
  refine ⟨?_,?_⟩
  ·first|rfl|exact AV (by show C2 b k=C2 b (min b.length 4000);rw [show min b.length 4000=k by omega])
  first|rfl|exact AV (by show C2 b k=C2 b (min b.length 4000);rw [show min b.length 4000=k by omega])
 try simp only [nrm] at c7
 refine ao (by first|rfl|omega|(simp;done)|(simp;omega)) λ o8=>?_
 refine ao (by first|rfl|omega|(simp;done)|(simp;omega)) λ o9=>?_
 refine ⟨k+1,by
  first|omega|trivial,by
  first|omega|(simp;omega),?_⟩
 refine ⟨?_,?_,?_⟩
 ·first|rfl|exact AV (AE (by omega) (by omega))
 ·first|rfl|exact AV (AE (by omega) (by omega))
 first|rfl|exact AV (AE (by omega) (by omega))
def Mj:(List UInt8)×Nat->List PC:=λ i=>[.bt i.1,.im (.int .i64 ((Ar i.1 i.2).i)),.im (.int .i64 ((Ar i.1 i.2).h))]
def Eu:Con:={ ι:=(List UInt8)×Nat,pre:=λ i=>i.1.length<=1048576/\i.2<=1000,args:=λ i=>[.one (.ro (.bytes i.1)),.one (cI (i.2:Int))],newp:=some Mj,res:=λ i=>⟨false,[],[]⟩ }
theorem Rc:Eu.OkN Tryz.prog 22 Mj:=by
 refine TH (X:=⟨tt,[(13,CF),(47,Az)],[4000001],17,[]⟩) mixed BC (CTok.consN Mi (CTok.consP OS (CTok.nil _))) Tryz.func22 (λ (i:(List UInt8)×Nat)=>[(3,.mk 3 (Nat) (λ x1=>{ tm:=[(0,tX 1),(1,tI (i.2:Int)),(5,tP 2 0),(6,tI (x1:Int))],en:=[(2,.box [.ext 1,kI ((Ar i.1 x1).i),kI ((Ar i.1 x1).h)]),(1,.ro (.bytes i.1) [])] }) (λ x1=>x1<=i.2) (λ x1=>i.2-x1) (λ _=>[]))]) ?_
 rintro ⟨b,n⟩ hpre
 have hpre:b.length<=1048576/\n<=1000:=hpre
 refine BB (q:=let Z2:=(.bytes b:RO)=.bytes b;∃ i1:(List UInt8),[DA.one (DC.ro (.bytes b))]=CF.args i1/\CF.pre i1/\((∃ x1:Nat,(x1<=n)/\((rf (vI (n:Int)))/\(vI (0:Int)=vI (x1:Int))/\(vI ((AU i1).i)=vI ((Ar b x1).i))/\(vI ((AU i1).h)=vI ((Ar b x1).h))/\Z2))/\∀ x1:Nat,let Z1:=Ar b x1;(x1<=n)->(ifB ((decide ((x1:Int)<(n:Int)))) (∃ i2:(List UInt8)×Cur,[]=Az.args i2/\[PC.bt b,PC.im (vI (Z1.i)),PC.im (vI (Z1.h))]=DG i2/\Az.pre i2/\(∃ y2:Nat,(y2<=n)/\(n-y2<n-x1)/\((rf (vI (n:Int)))/\(vI (wR ((x1:Int)+(1:Int)))=vI (y2:Int))/\(vI ((byC i2.1 i2.2).i)=vI ((Ar b y2).i))/\(vI ((byC i2.1 i2.2).h)=vI ((Ar b y2).h))/\Z2))) ((vI (Z1.i)=vI ((Ar b n).i))/\(vI (Z1.h)=vI ((Ar b n).h)))))) (by kernel_rfl) ?_
 conv=>zeta
 delta ifB vI wR
 refine ⟨b,by
  rfl,by
  show b.length<=1048576
  first|exact hpre.1|exact EV hpre.1 k,?_⟩
 refine ⟨⟨0,by
  first|omega|trivial,?_⟩,?_⟩
 ·refine ⟨rfl,rfl,?_,?_,?_⟩
  ·first|rfl|exact AV (AE (by omega) (by omega))
  ·first|rfl|exact AV (AE (by omega) (by omega))
  first|rfl|exact AV (AE (by omega) (by omega))
 intro (k:Nat) hki4
 have hki4:k<=n:=hki4
 refine And.symm ⟨λ c11=>?_,λ c11=>?_⟩
 ·try simp only [nrm] at c11
  refine ⟨?_,?_⟩
  ·first|rfl|(rw [show n=k by omega])
  first|rfl|(rw [show n=k by omega])
 try simp only [nrm] at c11
 refine ⟨(b,(Ar b k)),by
  rfl,rfl,by
  show AY b (Ar b k)
  first|exact hpre.1|exact EV hpre.1 k,?_⟩
 refine ⟨k+1,by
  first|omega|trivial,by
  first|omega|(simp;omega),?_⟩
 refine ⟨rfl,?_,?_,?_,?_⟩
 ·first|rfl|exact AV (AE (by omega) (by omega))
 ·show Value.int .i64 ((byC b (Ar b k)).i)=Value.int .i64 ((Ar b (k+1)).i)
  first|rfl|exact AV (AE (by omega) (by omega))
 ·show Value.int .i64 ((byC b (Ar b k)).h)=Value.int .i64 ((Ar b (k+1)).h)
  first|rfl|exact AV (AE (by omega) (by omega))
 first|rfl|exact AV (AE (by omega) (by omega))
def K9:(List UInt8)×Cur×Int->List PC:=λ i=>[.bt i.1,.im (.int .i64 i.2.1.i),.im (.int .i64 i.2.1.h)]
def Of:(List UInt8)×Cur×Int->List PC:=λ i=>[.bt i.1,.im (.int .i64 ((blC i.1 i.2.1 i.2.2).i)),.im (.int .i64 ((blC i.1 i.2.1 i.2.2).h))]
def F9:Con:={ ι:=(List UInt8)×Cur×Int,pre:=λ i=>AY i.1 i.2.1,args:=λ i=>[.one (cI i.2.2)],ptr:=some (K9,Of),res:=λ i=>⟨false,[none],[rcB (decide (blV i.1 i.2.1 i.2.2=0))]⟩ }
theorem SH:F9.OkP Tryz.prog 30 K9 Of:=by
 refine Qr (X:=⟨tt,[(28,AO)],[4000000],9,[]⟩) mixed BC (CTok.consP Ir (CTok.nil _)) Tryz.func30 (λ _=>[]) ?_
 rintro ⟨b,c,n⟩ hpre
 have hpre:AY b c:=hpre
 refine BB (q:=∃ i1:(List UInt8)×Cur×Int,let Z1:=blC i1.1 i1.2.1 i1.2.2;[DA.one (cI n)]=AO.args i1/\[PC.bt b,PC.im (vI c.i),PC.im (vI c.h)]=Ap i1/\AO.pre i1/\((vB ((blV i1.1 i1.2.1 i1.2.2) == (0:Int))=vB (decide (blV b c n=0)))/\(vI (Z1.i)=vI ((blC b c n).i))/\(vI (Z1.h)=vI ((blC b c n).h)))) (by kernel_rfl) ?_
 conv=>zeta
 delta vB vI
 refine ⟨(b,c,n),by
  rfl,rfl,by
  exact hpre,?_⟩
 refine ⟨?_,rfl,rfl⟩
 show Value.bool ((blV b c n) == (0:Int))=Value.bool (decide (blV b c n=0))
 first|rfl|simp_all
def D0:Con:={ ι:=(List UInt8)×Nat,pre:=λ i=>i.1.length<=1048576/\i.2<=100,args:=λ i=>[.one (.ro (.bytes i.1)),.one (cI (i.2:Int))],res:=λ i=>⟨false,[none],[.own 24 [.int,.int] (AA (drP i.1 5 (Ar i.1 (7*i.2))).1)]⟩ }
theorem Po:D0.Ok Tryz.prog 8:=by
 refine fok (X:=⟨tt,[(22,Eu),(21,BZ)],[],10,[]⟩) mixed BC (CTok.consN Rc (CTok.consP Mg (CTok.nil _))) Tryz.func8 (λ _=>[]) ?_
 rintro ⟨b,n⟩ hpre
 have hpre:b.length<=1048576/\n<=100:=hpre
 refine BB (q:=∃ i1:(List UInt8)×Nat,[DA.one (DC.ro (.bytes b)),DA.one (cI (wR ((7:Int)*(n:Int))))]=Eu.args i1/\Eu.pre i1/\(∃ i2:(List UInt8)×Cur×Int,[DA.one (cI (5:Int))]=BZ.args i2/\[PC.bt b,PC.im (vI ((Ar i1.1 i1.2).i)),PC.im (vI ((Ar i1.1 i1.2).h))]=EU i2/\BZ.pre i2/\((AA (drP i2.1 i2.2.2 i2.2.1).1=AA (drP b 5 (Ar b (7*n))).1)))) (by kernel_rfl) ?_
 delta vI wR
 have hw:IntKind.i64.wrap (7*(n:Int))=((7*n:Nat):Int):=by rw [AE (by omega) (by omega)];omega
 refine ⟨(b,7*n),by
  first|rfl|(rw [hw];rfl),by
  show b.length<=1048576/\(7*n)<=1000
  first|exact ⟨hpre.1,by omega⟩|exact ⟨EV hpre.1 _,by omega,by omega⟩,?_⟩
 refine ⟨(b,(Ar b (7*n)),(5:Int)),by
  first|rfl|(rw [hw];rfl),rfl,by
  show AY b (Ar b (7*n))/\0<=(5:Int)/\(5:Int)<=1000
  first|exact ⟨hpre.1,by omega⟩|exact ⟨EV hpre.1 _,by omega,by omega⟩,?_⟩
 show AA (drP b (5:Int) (Ar b (7*n))).1=AA (drP b 5 (Ar b (7*n))).1
 rfl
theorem LA {l:List V2} {dx dy:Int} (h:∀ x ∈ l,(-10<=x.1/\x.1<=10)/\-10<=x.2/\x.2<=10) (hx:-100<=dx/\dx<=100) (hy:-100<=dy/\dy<=100):l.all AH=true:=by
 rw [List.all_eq_true]
 intro x hm
 have:=h x hm
 show CH 1000 x=true
 simp only [CH,Bool.and_eq_true,BM]
 omega
def obS (b:List UInt8) (p:List (List V2)×Cur):List (List V2)×Cur:=
 let q:=drP b 4 p.2
 (p.1++[B0 q.1 (4+blV b q.2 16) (3+blV b (blC b q.2 16) 12)],blC b (blC b q.2 16) 12)
def obN (b:List UInt8) (c:Cur):Nat->List (List V2)×Cur
 | 0=>([],c)
 | k+1=>obS b (obN b c k)
def SI (x:Int):List V2:=[(x,-1),(x+2,-1),(x+2,40),(x,40)]
def wlV (b:List UInt8) (p:List (List V2)×Cur):List (List V2)×Cur:=
 if blV b p.2 6=0 then (p.1++[SI (6+blV b (blC b p.2 6) 8)],blC b (blC b p.2 6) 8) else (p.1,blC b p.2 6)
def tbS (b:List UInt8) (p:List V2×Cur):List V2×Cur:=
 (p.1++[(3+blV b p.2 18,3+blV b (blC b p.2 18) 14)],blC b (blC b p.2 18) 14)
def tbN (b:List UInt8) (c:Cur):Nat->List V2×Cur
 | 0=>([],c)
 | k+1=>tbS b (tbN b c k)
def Pp (b:List UInt8) (c:Cur):Cur:=blC b (blC b c 12) 10
def An (b:List UInt8) (c:Cur):Cur:=(drP b 2 (Pp b c)).2
def EW (b:List UInt8) (c:Cur):Nat:=(blV b (An b c) 3).toNat
def D9 (b:List UInt8) (c:Cur):List (List V2)×Cur:=obN b (blC b (An b c) 3) (EW b c)
def Ad (b:List UInt8) (c:Cur):List (List V2)×Cur:=wlV b (D9 b c)
def CW (b:List UInt8) (c:Cur):Nat:=(blV b (Ad b c).2 3).toNat
def Mk (b:List UInt8) (c:Cur):List V2×Cur:=tbN b (blC b (Ad b c).2 3) (CW b c)
def Ay (b:List UInt8) (c:Cur):Scn:=⟨(0,0),(14+blV b c 12,12+blV b (blC b c 12) 10),(drP b 2 (Pp b c)).1,(Ad b c).1,(Mk b c).1⟩
theorem Ev (b:List UInt8) (c:Cur):∀ k,(obN b c k).1.length=k
 | 0=>rfl
 | k+1=>by simp [obN,obS,Ev b c k]
theorem Ew (b:List UInt8) (c:Cur):∀ k,(tbN b c k).1.length=k
 | 0=>rfl
 | k+1=>by simp [tbN,tbS,Ew b c k]
theorem Hw {b:List UInt8} {z:Int} {c:Cur} (h:AY b c):AY b (drP b z c).2:=Oe 8 c h
theorem LB {b:List UInt8} {c:Cur} (h:AY b c):∀ k,AY b (obN b c k).2
 | 0=>h
 | k+1=>Af _ (Af _ (Hw (LB h k)))
theorem LD {b:List UInt8} {c:Cur} (h:AY b c):∀ k,AY b (tbN b c k).2
 | 0=>h
 | k+1=>Af _ (Af _ (LD h k))
theorem SJ {b:List UInt8} {p:List (List V2)×Cur} (h:AY b p.2):AY b (wlV b p).2:=by
 unfold wlV
 split
 ·exact Af _ (Af _ h)
 ·exact Af _ h
theorem SK {b:List UInt8} {c:Cur} (k:Nat):(drP b 4 (obN b c k).2).1.all AH=true/\(drP b 4 (obN b c k).2).1.length<=1048576:=by
 have h:=N1 (b:=b) (z:=4) (by omega) (obN b c k).2
 refine ⟨LA (dx:=0) (dy:=0) (λ x hx=>?_) (by omega) (by omega),by omega⟩
 have:=h.2.2 x hx;omega
theorem Hx (b:List UInt8) (c:Cur):((EW b c:Nat):Int)=blV b (An b c) 3/\EW b c<=2:=by
 have:=Ak b (An b c) (n:=3) (by omega)
 unfold EW;omega
theorem D1 (b:List UInt8) (c:Cur):((CW b c:Nat):Int)=blV b (Ad b c).2 3/\CW b c<=2:=by
 have:=Ak b (Ad b c).2 (n:=3) (by omega)
 unfold CW;omega
theorem Ml {b:List UInt8} {c:Cur} (h:blV b (D9 b c).2 6=0):Ad b c=((D9 b c).1++[SI (6+blV b (blC b (D9 b c).2 6) 8)],blC b (blC b (D9 b c).2 6) 8):=if_pos h
theorem Og {b:List UInt8} {c:Cur} (h:¬ blV b (D9 b c).2 6=0):Ad b c=((D9 b c).1,blC b (D9 b c).2 6):=if_neg h
theorem Mm (b:List UInt8) (c:Cur) (k:Nat):obN b c (k+1)=((obN b c k).1++[B0 (drP b 4 (obN b c k).2).1 (4+blV b (drP b 4 (obN b c k).2).2 16) (3+blV b (blC b (drP b 4 (obN b c k).2).2 16) 12)],blC b (blC b (drP b 4 (obN b c k).2).2 16) 12):=rfl
theorem JI (b:List UInt8) (c:Cur) (k:Nat):tbN b c (k+1)=((tbN b c k).1++[(3+blV b (tbN b c k).2 18,3+blV b (blC b (tbN b c k).2 18) 14)],blC b (blC b (tbN b c k).2 18) 14):=rfl
def LF:(List UInt8)×Cur->List PC:=λ i=>[.bt i.1,.im (.int .i64 i.2.i),.im (.int .i64 i.2.h)]
def Oh:(List UInt8)×Cur->List PC:=λ i=>[.bt i.1,.im (.int .i64 (((Mk i.1 i.2).2).i)),.im (.int .i64 (((Mk i.1 i.2).2).h))]
def GA:Con:={ ι:=(List UInt8)×Cur,pre:=λ i=>AY i.1 i.2,args:=λ i=>[],ptr:=some (LF,Oh),res:=λ i=>⟨false,[some 7],[rcI 0,rcI 0,rcI ((Ay i.1 i.2).high.1),rcI ((Ay i.1 i.2).high.2),.own 24 [.int,.int] (AA (Ay i.1 i.2).robot),.own 25 [.sl 24 [.int,.int]] (AB (Ay i.1 i.2).obst),.own 24 [.int,.int] (AA (Ay i.1 i.2).tables)]⟩ }
set_option maxHeartbeats 1600000 in
theorem SL:GA.OkP Tryz.prog 12 LF Oh:=by
 refine Qr (X:=⟨tt,[(28,AO),(21,BZ),(29,Ba),(30,F9)],[17,4000000],80,[]⟩) mixed BC (CTok.consP Ir (CTok.consP Mg (CTok.cons Hf (CTok.consP SH (CTok.nil _))))) Tryz.func12 (λ (i:(List UInt8)×Cur)=>let Z6:=blC i.1 i.2 12;let Z5:=Ad i.1 i.2;let Z4:=AA (drP i.1 2 (Pp i.1 i.2)).1;let Z1:=Value.slice none 0 0;[(100010,.mk 8 (Unit) (λ x3=>{ tm:=[(0,tP 1 0),(2,tP 3 0),(3,tP 4 0)],en:=[(1,.box [.ext 2,kI ((Z5.2).i),kI ((Z5.2).h)]),(3,.box [kI (0:Int),kI (0:Int),kI (0:Int),kI (0:Int),.im Z1,.im Z1,.im Z1]),(4,.box [kI (0:Int),kI (0:Int),kI (14+blV i.1 i.2 12),kI (12+blV i.1 Z6 10),.ext 5,.ext 6,.ext 7]),(2,.ro (.bytes i.1) []),(5,.own 24 [.int,.int] Z4),(6,.own 25 [.sl 24 [.int,.int]] (AB Z5.1)),(7,.own 24 [.int,.int] ([]:List (List Dat)))] }) (λ _=>True) (λ _=>0) (λ x3=>[(11,.mk 8 (Nat) (λ x4=>let Z2:=tbN i.1 (blC i.1 Z5.2 3) x4;{ tm:=[(0,tP 1 0),(2,tP 3 0),(3,tP 4 0),(7,tI ((nI (CW i.1 i.2))-(x4:Int)))],en:=[(1,.box [.ext 2,kI ((Z2.2).i),kI ((Z2.2).h)]),(3,.box [kI (0:Int),kI (0:Int),kI (0:Int),kI (0:Int),.im Z1,.im Z1,.im Z1]),(4,.box [kI (0:Int),kI (0:Int),kI (14+blV i.1 i.2 12),kI (12+blV i.1 Z6 10),.ext 5,.ext 6,.ext 7]),(2,.ro (.bytes i.1) []),(5,.own 24 [.int,.int] Z4),(6,.own 25 [.sl 24 [.int,.int]] (AB Z5.1)),(7,.own 24 [.int,.int] (AA Z2.1))] }) (λ x4=>x4<=CW i.1 i.2) (λ x4=>CW i.1 i.2-x4) (λ _=>[]))])),(3,.mk 8 (Nat) (λ x1=>let Z3:=obN i.1 (blC i.1 (An i.1 i.2) 3) x1;{ tm:=[(0,tP 1 0),(2,tP 3 0),(3,tP 4 0),(4,tI ((nI (EW i.1 i.2))-(x1:Int)))],en:=[(1,.box [.ext 2,kI ((Z3.2).i),kI ((Z3.2).h)]),(3,.box [kI (0:Int),kI (0:Int),kI (0:Int),kI (0:Int),.im Z1,.im Z1,.im Z1]),(4,.box [kI (0:Int),kI (0:Int),kI (14+blV i.1 i.2 12),kI (12+blV i.1 Z6 10),.ext 5,.ext 6,.ext 7]),(2,.ro (.bytes i.1) []),(5,.own 24 [.int,.int] Z4),(6,.own 25 [.sl 24 [.int,.int]] (AB Z3.1)),(7,.own 24 [.int,.int] ([]:List (List Dat)))] }) (λ x1=>x1<=EW i.1 i.2) (λ x1=>EW i.1 i.2-x1) (λ _=>[]))]) ?_
 rintro ⟨b,c⟩ hpre
 have hpre:AY b c:=hpre
 refine BB (q:=let Z44:=cI (3:Int);let Z33:=(Mk b c).2;let Z31:=nI (EW b c);let Z21:=vI (0:Int)=vI 0;let Z19:=Ay b c;let Z30:=vI (14+blV b c 12)=vI (Z19.high.1);let Z22:=vI (12+blV b (blC b c 12) 10)=vI (Z19.high.2);let Z15:=(Ad b c).2;let Z14:=nI (CW b c);let Z13:=List Dat;let Z12:=blC b (An b c) 3;let Z11:=vI (14+blV b c 12);let Z10:=List UInt8;let Z9:=AB (Ad b c).1;let Z8:=(.bytes b:RO)=.bytes b;let Z7:=vI (12+blV b (blC b c 12) 10);let Z5:=AA (drP b 2 (Pp b c)).1;let Z3:=Value.slice none 0 0;let Z2:=blC b (Ad b c).2 3;let Z1:=vI (0:Int);∃ i1:Z10×Cur×Int,let Z42:=blC i1.1 i1.2.1 i1.2.2;[DA.one (cI (12:Int))]=AO.args i1/\[PC.bt b,PC.im (vI c.i),PC.im (vI c.h)]=Ap i1/\AO.pre i1/\(∃ i2:Z10×Cur×Int,let Z43:=blC i2.1 i2.2.1 i2.2.2;[DA.one (cI (10:Int))]=AO.args i2/\[PC.bt b,PC.im (vI (Z42.i)),PC.im (vI (Z42.h))]=Ap i2/\AO.pre i2/\(∃ i3:Z10×Cur×Int,let Z27:=drP i3.1 i3.2.2 i3.2.1;[DA.one (cI (2:Int))]=BZ.args i3/\[PC.bt b,PC.im (vI (Z43.i)),PC.im (vI (Z43.h))]=EU i3/\BZ.pre i3/\(∃ i4:Z10×Cur×Int,let Z45:=blC i4.1 i4.2.1 i4.2.2;[DA.one Z44]=AO.args i4/\[PC.bt b,PC.im (vI ((Z27.2).i)),PC.im (vI ((Z27.2).h))]=Ap i4/\AO.pre i4/\((∃ x1:Nat,let Z46:=obN b Z12 x1;(x1<=EW b c)/\((vI (blV i4.1 i4.2.1 i4.2.2)=vI (Z31-(x1:Int)))/\(vI (Z45.i)=vI ((Z46.2).i))/\(vI (Z45.h)=vI ((Z46.2).h))/\(rf Z1)/\(rf Z1)/\(rf Z1)/\(rf Z1)/\(rf Z3)/\(rf Z3)/\(rf Z3)/\(rf Z1)/\(rf Z1)/\(vI (wR ((14:Int)+(blV i1.1 i1.2.1 i1.2.2)))=vI (14+blV b c 12))/\(vI (wR ((12:Int)+(blV i2.1 i2.2.1 i2.2.2)))=vI (12+blV b (blC b c 12) 10))/\Z8/\(AA Z27.1=Z5)/\(([]:List Z13)=(AB Z46.1))/\(rf ([]:List Z13))))/\∀ x1:Nat,let Z6:=obN b Z12 x1;let Z29:=AB Z6.1;(x1<=EW b c)->(ifB ((decide ((Z31-(x1:Int))>(0:Int)))) (∃ i5:Z10×Cur×Int,let Z28:=drP i5.1 i5.2.2 i5.2.1;[DA.one (cI (4:Int))]=BZ.args i5/\[PC.bt b,PC.im (vI ((Z6.2).i)),PC.im (vI ((Z6.2).h))]=EU i5/\BZ.pre i5/\(∃ i6:Z10×Cur×Int,let Z47:=blC i6.1 i6.2.1 i6.2.2;[DA.one (cI (16:Int))]=AO.args i6/\[PC.bt b,PC.im (vI ((Z28.2).i)),PC.im (vI ((Z28.2).h))]=Ap i6/\AO.pre i6/\(∃ i7:Z10×Cur×Int,let Z48:=blC i7.1 i7.2.1 i7.2.2;[DA.one (cI (12:Int))]=AO.args i7/\[PC.bt b,PC.im (vI (Z47.i)),PC.im (vI (Z47.h))]=Ap i7/\AO.pre i7/\(∃ i8:(List V2)×Int×Int,let Z32:=AA (B0 i8.1 i8.2.1 i8.2.2);[DA.one (DC.sl 24 [.int,.int] (AA Z28.1)),DA.agg [cI (wR ((4:Int)+(blV i6.1 i6.2.1 i6.2.2))),cI (wR ((3:Int)+(blV i7.1 i7.2.1 i7.2.2)))]]=Ba.args i8/\Ba.pre i8/\((Z29.length+([[Dat.sl Z32]]:List Z13).length<=2199023255552)/\(∃ y2:Nat,let Z49:=obN b Z12 y2;(y2<=EW b c)/\(EW b c-y2<EW b c-x1)/\((vI (wR ((Z31-(x1:Int))-(1:Int)))=vI (Z31-(y2:Int)))/\(vI (Z48.i)=vI ((Z49.2).i))/\(vI (Z48.h)=vI ((Z49.2).h))/\(rf Z1)/\(rf Z1)/\(rf Z1)/\(rf Z1)/\(rf Z3)/\(rf Z3)/\(rf Z3)/\(rf Z1)/\(rf Z1)/\(rf Z11)/\(rf Z7)/\Z8/\(rf Z5)/\((Z29++([[Dat.sl Z32]]:List Z13))=(AB Z49.1))/\(rf ([]:List Z13))))))))) (∃ i9:Z10×Cur×Int,let Z18:=blC i9.1 i9.2.1 i9.2.2;[DA.one (cI (6:Int))]=F9.args i9/\[PC.bt b,PC.im (vI ((Z6.2).i)),PC.im (vI ((Z6.2).h))]=K9 i9/\F9.pre i9/\(ifB ((decide (blV i9.1 i9.2.1 i9.2.2=0))) (∃ i10:Z10×Cur×Int,let Z34:=blC i10.1 i10.2.1 i10.2.2;let Z4:=wR ((6:Int)+(blV i10.1 i10.2.1 i10.2.2));let Z20:=wR (Z4+(2:Int));[DA.one (cI (8:Int))]=AO.args i10/\[PC.bt b,PC.im (vI (Z18.i)),PC.im (vI (Z18.h))]=Ap i10/\AO.pre i10/\((Z29.length+([[Dat.sl ([[Dat.int Z4,Dat.int (-1:Int)],[Dat.int Z20,Dat.int (-1:Int)],[Dat.int Z20,Dat.int (40:Int)],[Dat.int Z4,Dat.int (40:Int)]]:List Z13)]]:List Z13).length<=2199023255552)/\((∃ x3:Unit,(True)/\((vI (Z34.i)=vI (Z15.i))/\(vI (Z34.h)=vI (Z15.h))/\(rf Z1)/\(rf Z1)/\(rf Z1)/\(rf Z1)/\(rf Z3)/\(rf Z3)/\(rf Z3)/\(rf Z1)/\(rf Z1)/\(rf Z11)/\(rf Z7)/\Z8/\(rf Z5)/\((Z29++([[Dat.sl ([[Dat.int Z4,Dat.int (-1:Int)],[Dat.int Z20,Dat.int (-1:Int)],[Dat.int Z20,Dat.int (40:Int)],[Dat.int Z4,Dat.int (40:Int)]]:List Z13)]]:List Z13))=Z9)/\(rf ([]:List Z13))))/\∀ x3:Unit,(True)->(∃ i11:Z10×Cur×Int,let Z35:=blC i11.1 i11.2.1 i11.2.2;[DA.one Z44]=AO.args i11/\[PC.bt b,PC.im (vI (Z15.i)),PC.im (vI (Z15.h))]=Ap i11/\AO.pre i11/\((∃ x4:Nat,let Z41:=tbN b Z2 x4;(x4<=CW b c)/\((vI (blV i11.1 i11.2.1 i11.2.2)=vI (Z14-(x4:Int)))/\(vI (Z35.i)=vI ((Z41.2).i))/\(vI (Z35.h)=vI ((Z41.2).h))/\(rf Z1)/\(rf Z1)/\(rf Z1)/\(rf Z1)/\(rf Z3)/\(rf Z3)/\(rf Z3)/\(rf Z1)/\(rf Z1)/\(rf Z11)/\(rf Z7)/\Z8/\(rf Z5)/\(rf Z9)/\(([]:List Z13)=(AA Z41.1))))/\∀ x4:Nat,let Z16:=tbN b Z2 x4;(x4<=CW b c)->(ifB ((decide ((Z14-(x4:Int))>(0:Int)))) (∃ i12:Z10×Cur×Int,let Z36:=blC i12.1 i12.2.1 i12.2.2;let Z23:=wR ((3:Int)+(blV i12.1 i12.2.1 i12.2.2));[DA.one (cI (18:Int))]=AO.args i12/\[PC.bt b,PC.im (vI ((Z16.2).i)),PC.im (vI ((Z16.2).h))]=Ap i12/\AO.pre i12/\(∃ i13:Z10×Cur×Int,let Z37:=blC i13.1 i13.2.1 i13.2.2;let Z24:=wR ((3:Int)+(blV i13.1 i13.2.1 i13.2.2));[DA.one (cI (14:Int))]=AO.args i13/\[PC.bt b,PC.im (vI (Z36.i)),PC.im (vI (Z36.h))]=Ap i13/\AO.pre i13/\(((AA Z16.1).length+([[Dat.int Z23,Dat.int Z24]]:List Z13).length<=2199023255552)/\(∃ y5:Nat,(y5<=CW b c)/\(CW b c-y5<CW b c-x4)/\((vI (wR ((Z14-(x4:Int))-(1:Int)))=vI (Z14-(y5:Int)))/\(vI (Z37.i)=vI (((tbN b Z2 y5).2).i))/\(vI (Z37.h)=vI (((tbN b Z2 y5).2).h))/\(rf Z1)/\(rf Z1)/\(rf Z1)/\(rf Z1)/\(rf Z3)/\(rf Z3)/\(rf Z3)/\(rf Z1)/\(rf Z1)/\(rf Z11)/\(rf Z7)/\Z8/\(rf Z5)/\(rf Z9)/\(((AA Z16.1)++([[Dat.int Z23,Dat.int Z24]]:List Z13))=(AA (tbN b Z2 y5).1))))))) (Z21/\Z21/\Z30/\Z22/\(Z5=AA Z19.robot)/\(Z9=AB Z19.obst)/\((AA Z16.1)=AA Z19.tables)/\(vI ((Z16.2).i)=vI (Z33.i))/\(vI ((Z16.2).h)=vI (Z33.h))))))))) ((∃ x3:Unit,(True)/\((vI (Z18.i)=vI (Z15.i))/\(vI (Z18.h)=vI (Z15.h))/\(rf Z1)/\(rf Z1)/\(rf Z1)/\(rf Z1)/\(rf Z3)/\(rf Z3)/\(rf Z3)/\(rf Z1)/\(rf Z1)/\(rf Z11)/\(rf Z7)/\Z8/\(rf Z5)/\(Z29=Z9)/\(rf ([]:List Z13))))/\∀ x3:Unit,(True)->(∃ i14:Z10×Cur×Int,let Z38:=blC i14.1 i14.2.1 i14.2.2;[DA.one Z44]=AO.args i14/\[PC.bt b,PC.im (vI (Z15.i)),PC.im (vI (Z15.h))]=Ap i14/\AO.pre i14/\((∃ x4:Nat,(x4<=CW b c)/\((vI (blV i14.1 i14.2.1 i14.2.2)=vI (Z14-(x4:Int)))/\(vI (Z38.i)=vI (((tbN b Z2 x4).2).i))/\(vI (Z38.h)=vI (((tbN b Z2 x4).2).h))/\(rf Z1)/\(rf Z1)/\(rf Z1)/\(rf Z1)/\(rf Z3)/\(rf Z3)/\(rf Z3)/\(rf Z1)/\(rf Z1)/\(rf Z11)/\(rf Z7)/\Z8/\(rf Z5)/\(rf Z9)/\(([]:List Z13)=(AA (tbN b Z2 x4).1))))/\∀ x4:Nat,let Z17:=tbN b Z2 x4;(x4<=CW b c)->(ifB ((decide ((Z14-(x4:Int))>(0:Int)))) (∃ i15:Z10×Cur×Int,let Z39:=blC i15.1 i15.2.1 i15.2.2;let Z25:=wR ((3:Int)+(blV i15.1 i15.2.1 i15.2.2));[DA.one (cI (18:Int))]=AO.args i15/\[PC.bt b,PC.im (vI ((Z17.2).i)),PC.im (vI ((Z17.2).h))]=Ap i15/\AO.pre i15/\(∃ i16:Z10×Cur×Int,let Z40:=blC i16.1 i16.2.1 i16.2.2;let Z26:=wR ((3:Int)+(blV i16.1 i16.2.1 i16.2.2));[DA.one (cI (14:Int))]=AO.args i16/\[PC.bt b,PC.im (vI (Z39.i)),PC.im (vI (Z39.h))]=Ap i16/\AO.pre i16/\(((AA Z17.1).length+([[Dat.int Z25,Dat.int Z26]]:List Z13).length<=2199023255552)/\(∃ y8:Nat,(y8<=CW b c)/\(CW b c-y8<CW b c-x4)/\((vI (wR ((Z14-(x4:Int))-(1:Int)))=vI (Z14-(y8:Int)))/\(vI (Z40.i)=vI (((tbN b Z2 y8).2).i))/\(vI (Z40.h)=vI (((tbN b Z2 y8).2).h))/\(rf Z1)/\(rf Z1)/\(rf Z1)/\(rf Z1)/\(rf Z3)/\(rf Z3)/\(rf Z3)/\(rf Z1)/\(rf Z1)/\(rf Z11)/\(rf Z7)/\Z8/\(rf Z5)/\(rf Z9)/\(((AA Z17.1)++([[Dat.int Z25,Dat.int Z26]]:List Z13))=(AA (tbN b Z2 y8).1))))))) (Z21/\Z21/\Z30/\Z22/\(Z5=AA Z19.robot)/\(Z9=AB Z19.obst)/\((AA Z17.1)=AA Z19.tables)/\(vI ((Z17.2).i)=vI (Z33.i))/\(vI ((Z17.2).h)=vI (Z33.h))))))))))))))) (by kernel_rfl) ?_
 conv=>zeta
 delta ifB vI wR nI
 have k1:=Af 12 hpre
 have k2:AY b (Pp b c):=Af 10 k1
 have k3:AY b (An b c):=Hw k2
 have k4:=Af 3 k3
 have q1:=Ak b c (n:=12) (by omega)
 have q2:=Ak b (blC b c 12) (n:=10) (by omega)
 have k5:AY b (D9 b c).2:=LB k4 _
 have k6:AY b (Ad b c).2:=SJ k5
 have k7:=Af 3 k6
 refine ⟨(b,c,(12:Int)),by
  rfl,rfl,by
  exact hpre,?_⟩
 refine ⟨(b,(blC b c (12:Int)),(10:Int)),by
  rfl,rfl,by
  exact k1,?_⟩
 refine ⟨(b,(blC b (blC b c (12:Int)) (10:Int)),(2:Int)),by
  rfl,rfl,by
  show AY b (blC b (blC b c (12:Int)) (10:Int))/\0<=(2:Int)/\(2:Int)<=1000
  exact ⟨k2,by omega,by omega⟩,?_⟩
 refine ⟨(b,((drP b (2:Int) (blC b (blC b c (12:Int)) (10:Int))).2),(3:Int)),by
  rfl,rfl,by
  exact k3,?_⟩
 refine ⟨⟨0,by
  first|omega|trivial,?_⟩,?_⟩
 ·refine ⟨?_,?_,?_,rfl,rfl,rfl,rfl,rfl,rfl,rfl,rfl,rfl,?_,?_,?_,?_,?_,rfl⟩
  ·show Value.int .i64 (blV b ((drP b (2:Int) (blC b (blC b c (12:Int)) (10:Int))).2) (3:Int))=Value.int .i64 (((EW b c:Nat):Int)-(0:Int))
   exact AV (by rw [(Hx b c).1];exact (Int.sub_zero _).symm)
  ·show Value.int .i64 ((blC b ((drP b (2:Int) (blC b (blC b c (12:Int)) (10:Int))).2) (3:Int)).i)=Value.int .i64 (((obN b (blC b (An b c) 3) 0).2).i)
   exact rfl
  ·show Value.int .i64 ((blC b ((drP b (2:Int) (blC b (blC b c (12:Int)) (10:Int))).2) (3:Int)).h)=Value.int .i64 (((obN b (blC b (An b c) 3) 0).2).h)
   exact rfl
  ·show Value.int .i64 (IntKind.i64.wrap ((14:Int)+(blV b c (12:Int))))=Value.int .i64 (14+blV b c 12)
   exact AV (AE (by omega) (by omega))
  ·show Value.int .i64 (IntKind.i64.wrap ((12:Int)+(blV b (blC b c (12:Int)) (10:Int))))=Value.int .i64 (12+blV b (blC b c 12) 10)
   exact AV (AE (by omega) (by omega))
  ·exact rfl
  ·show AA (drP b (2:Int) (blC b (blC b c (12:Int)) (10:Int))).1=(AA (drP b 2 (Pp b c)).1)
   exact rfl
  exact rfl
 intro (k:Nat) hki13
 have hki13:k<=EW b c:=hki13
 have ko:=LB k4 k
 refine ⟨λ c33=>?_,λ c33=>?_⟩
 ·try simp only [nrm] at c33
  have n1:=Hx b c
  have o1:=SK (b:=b) (c:=blC b (An b c) 3) k
  have r1:=Ak b (drP b 4 (obN b (blC b (An b c) 3) k).2).2 (n:=16) (by omega)
  have r2:=Ak b (blC b (drP b 4 (obN b (blC b (An b c) 3) k).2).2 16) (n:=12) (by omega)
  have w1:=AE (x:=4+blV b (drP b 4 (obN b (blC b (An b c) 3) k).2).2 16) (by omega) (by omega)
  have w2:=AE (x:=3+blV b (blC b (drP b 4 (obN b (blC b (An b c) 3) k).2).2 16) 12) (by omega) (by omega)
  refine ⟨(b,((obN b (blC b (An b c) 3) k).2),(4:Int)),by
   rfl,rfl,by
   show AY b ((obN b (blC b (An b c) 3) k).2)/\0<=(4:Int)/\(4:Int)<=1000
   exact ⟨ko,by omega,by omega⟩,?_⟩
  refine ⟨(b,((drP b (4:Int) ((obN b (blC b (An b c) 3) k).2)).2),(16:Int)),by
   rfl,rfl,by
   show AY b ((drP b (4:Int) ((obN b (blC b (An b c) 3) k).2)).2)
   exact Hw ko,?_⟩
  refine ⟨(b,(blC b ((drP b (4:Int) ((obN b (blC b (An b c) 3) k).2)).2) (16:Int)),(12:Int)),by
   rfl,rfl,by
   show AY b (blC b ((drP b (4:Int) ((obN b (blC b (An b c) 3) k).2)).2) (16:Int))
   exact Af 16 (Hw ko),?_⟩
  refine ⟨((drP b (4:Int) ((obN b (blC b (An b c) 3) k).2)).1,(IntKind.i64.wrap ((4:Int)+(blV b ((drP b (4:Int) ((obN b (blC b (An b c) 3) k).2)).2) (16:Int)))),(IntKind.i64.wrap ((3:Int)+(blV b (blC b ((drP b (4:Int) ((obN b (blC b (An b c) 3) k).2)).2) (16:Int)) (12:Int))))),by
   rfl,by
   show ((drP b (4:Int) ((obN b (blC b (An b c) 3) k).2)).1).length<=1048576/\((drP b (4:Int) ((obN b (blC b (An b c) 3) k).2)).1).all AH=true
   exact ⟨o1.2,o1.1⟩,?_⟩
  refine ao (a:=(AB (obN b (blC b (An b c) 3) k).1).length+([[Dat.sl (AA (B0 ((drP b (4:Int) ((obN b (blC b (An b c) 3) k).2)).1) (IntKind.i64.wrap ((4:Int)+(blV b ((drP b (4:Int) ((obN b (blC b (An b c) 3) k).2)).2) (16:Int)))) (IntKind.i64.wrap ((3:Int)+(blV b (blC b ((drP b (4:Int) ((obN b (blC b (An b c) 3) k).2)).2) (16:Int)) (12:Int))))))]]:List (List Dat)).length<=2199023255552) (by first|omega|(simp only [AC,AW,Ev,Ew,List.length_cons,List.length_nil];omega)) λ o46=>?_
  refine ⟨k+1,by
   first|omega|trivial,by
   first|omega|(simp;omega),?_⟩
  refine ⟨?_,?_,?_,rfl,rfl,rfl,rfl,rfl,rfl,rfl,rfl,rfl,rfl,rfl,?_,rfl,?_,rfl⟩
  ·exact AV (by rw [AE (by omega) (by omega)];omega)
  ·show Value.int .i64 ((blC b (blC b ((drP b (4:Int) ((obN b (blC b (An b c) 3) k).2)).2) (16:Int)) (12:Int)).i)=Value.int .i64 (((obN b (blC b (An b c) 3) (k+1)).2).i)
   exact rfl
  ·show Value.int .i64 ((blC b (blC b ((drP b (4:Int) ((obN b (blC b (An b c) 3) k).2)).2) (16:Int)) (12:Int)).h)=Value.int .i64 (((obN b (blC b (An b c) 3) (k+1)).2).h)
   exact rfl
  ·exact rfl
  show ((AB (obN b (blC b (An b c) 3) k).1)++([[Dat.sl (AA (B0 ((drP b (4:Int) ((obN b (blC b (An b c) 3) k).2)).1) (IntKind.i64.wrap ((4:Int)+(blV b ((drP b (4:Int) ((obN b (blC b (An b c) 3) k).2)).2) (16:Int)))) (IntKind.i64.wrap ((3:Int)+(blV b (blC b ((drP b (4:Int) ((obN b (blC b (An b c) 3) k).2)).2) (16:Int)) (12:Int))))))]]:List (List Dat)))=(AB (obN b (blC b (An b c) 3) (k+1)).1)
  rw [w1,w2,Mm];exact AM _ _
 try simp only [nrm] at c33
 have n1:=Hx b c
 have hko:k=EW b c:=by omega
 have hO:obN b (blC b (An b c) 3) k=D9 b c:=by rw [hko];rfl
 refine ⟨(b,((obN b (blC b (An b c) 3) k).2),(6:Int)),by
  rfl,rfl,by
  show AY b ((obN b (blC b (An b c) 3) k).2)
  rw [hO];exact k5,?_⟩
 refine And.symm ⟨λ c71=>?_,λ c71=>?_⟩
 ·try simp only [nrm] at c71
  rw [hO] at c71
  have hW:=Og (b:=b) (c:=c) c71
  refine ⟨⟨(),by
   first|omega|trivial,?_⟩,?_⟩
  ·refine ⟨?_,?_,rfl,rfl,rfl,rfl,rfl,rfl,rfl,rfl,rfl,rfl,rfl,?_,rfl,?_,rfl⟩
   ·show Value.int .i64 ((blC b ((obN b (blC b (An b c) 3) k).2) (6:Int)).i)=Value.int .i64 (((Ad b c).2).i)
    rw [hO,hW]
   ·show Value.int .i64 ((blC b ((obN b (blC b (An b c) 3) k).2) (6:Int)).h)=Value.int .i64 (((Ad b c).2).h)
    rw [hO,hW]
   ·exact rfl
   rw [hO,hW]
  rintro _ hki156
  have hki156:True:=hki156
  refine ⟨(b,((Ad b c).2),(3:Int)),by
   rfl,rfl,by
   exact k6,?_⟩
  refine ⟨⟨0,by
   first|omega|trivial,?_⟩,?_⟩
  ·refine ⟨?_,?_,?_,rfl,rfl,rfl,rfl,rfl,rfl,rfl,rfl,rfl,rfl,rfl,?_,rfl,rfl,?_⟩
   ·show Value.int .i64 (blV b ((Ad b c).2) (3:Int))=Value.int .i64 (((CW b c:Nat):Int)-(0:Int))
    exact AV (by rw [(D1 b c).1];exact (Int.sub_zero _).symm)
   ·show Value.int .i64 ((blC b ((Ad b c).2) (3:Int)).i)=Value.int .i64 (((tbN b (blC b (Ad b c).2 3) 0).2).i)
    exact rfl
   ·show Value.int .i64 ((blC b ((Ad b c).2) (3:Int)).h)=Value.int .i64 (((tbN b (blC b (Ad b c).2 3) 0).2).h)
    exact rfl
   ·exact rfl
   exact rfl
  intro (k:Nat) hki178
  have hki178:k<=CW b c:=hki178
  have kt:=LD k7 k
  refine And.symm ⟨λ c198=>?_,λ c198=>?_⟩
  ·try simp only [nrm] at c198
   have n2:=D1 b c
   have hkt:k=CW b c:=by omega
   have hT:tbN b (blC b (Ad b c).2 3) k=Mk b c:=by rw [hkt];rfl
   refine ⟨?_,?_,?_,?_,?_,?_,?_,?_,?_⟩
   ·first|(rw [hT];done)|(rw [hT];exact rfl)|exact rfl
   ·first|(rw [hT];done)|(rw [hT];exact rfl)|exact rfl
   ·first|(rw [hT];done)|(rw [hT];exact rfl)|exact rfl
   ·first|(rw [hT];done)|(rw [hT];exact rfl)|exact rfl
   ·first|(rw [hT];done)|(rw [hT];exact rfl)|exact rfl
   ·first|(rw [hT];done)|(rw [hT];exact rfl)|exact rfl
   ·first|(rw [hT];done)|(rw [hT];exact rfl)|exact rfl
   ·first|(rw [hT];done)|(rw [hT];exact rfl)|exact rfl
   first|(rw [hT];done)|(rw [hT];exact rfl)|exact rfl
  try simp only [nrm] at c198
  have n2:=D1 b c
  have r1:=Ak b (tbN b (blC b (Ad b c).2 3) k).2 (n:=18) (by omega)
  have r2:=Ak b (blC b (tbN b (blC b (Ad b c).2 3) k).2 18) (n:=14) (by omega)
  have w3:=AE (x:=3+blV b (tbN b (blC b (Ad b c).2 3) k).2 18) (by omega) (by omega)
  have w4:=AE (x:=3+blV b (blC b (tbN b (blC b (Ad b c).2 3) k).2 18) 14) (by omega) (by omega)
  refine ⟨(b,((tbN b (blC b (Ad b c).2 3) k).2),(18:Int)),by
   rfl,rfl,by
   exact kt,?_⟩
  refine ⟨(b,(blC b ((tbN b (blC b (Ad b c).2 3) k).2) (18:Int)),(14:Int)),by
   rfl,rfl,by
   show AY b (blC b ((tbN b (blC b (Ad b c).2 3) k).2) (18:Int))
   exact Af 18 kt,?_⟩
  refine ao (a:=(AA (tbN b (blC b (Ad b c).2 3) k).1).length+([[Dat.int (IntKind.i64.wrap ((3:Int)+(blV b ((tbN b (blC b (Ad b c).2 3) k).2) (18:Int)))),Dat.int (IntKind.i64.wrap ((3:Int)+(blV b (blC b ((tbN b (blC b (Ad b c).2 3) k).2) (18:Int)) (14:Int))))]]:List (List Dat)).length<=2199023255552) (by first|omega|(simp only [AC,AW,Ev,Ew,List.length_cons,List.length_nil];omega)) λ o205=>?_
  refine ⟨k+1,by
   first|omega|trivial,by
   first|omega|(simp;omega),?_⟩
  refine ⟨?_,?_,?_,rfl,rfl,rfl,rfl,rfl,rfl,rfl,rfl,rfl,rfl,rfl,?_,rfl,rfl,?_⟩
  ·exact AV (by rw [AE (by omega) (by omega)];omega)
  ·show Value.int .i64 ((blC b (blC b ((tbN b (blC b (Ad b c).2 3) k).2) (18:Int)) (14:Int)).i)=Value.int .i64 (((tbN b (blC b (Ad b c).2 3) (k+1)).2).i)
   exact rfl
  ·show Value.int .i64 ((blC b (blC b ((tbN b (blC b (Ad b c).2 3) k).2) (18:Int)) (14:Int)).h)=Value.int .i64 (((tbN b (blC b (Ad b c).2 3) (k+1)).2).h)
   exact rfl
  ·exact rfl
  show ((AA (tbN b (blC b (Ad b c).2 3) k).1)++([[Dat.int (IntKind.i64.wrap ((3:Int)+(blV b ((tbN b (blC b (Ad b c).2 3) k).2) (18:Int)))),Dat.int (IntKind.i64.wrap ((3:Int)+(blV b (blC b ((tbN b (blC b (Ad b c).2 3) k).2) (18:Int)) (14:Int))))]]:List (List Dat)))=(AA (tbN b (blC b (Ad b c).2 3) (k+1)).1)
  rw [w3,w4,JI];exact FU _ _ _
 try simp only [nrm] at c71
 rw [hO] at c71
 have hW:=Ml (b:=b) (c:=c) c71
 have r8:=Ak b (blC b (D9 b c).2 6) (n:=8) (by omega)
 have w6:=AE (x:=6+blV b (blC b (D9 b c).2 6) 8) (by omega) (by omega)
 have w8:=AE (x:=6+blV b (blC b (D9 b c).2 6) 8+2) (by omega) (by omega)
 refine ⟨(b,(blC b ((obN b (blC b (An b c) 3) k).2) (6:Int)),(8:Int)),by
  rfl,rfl,by
  show AY b (blC b ((obN b (blC b (An b c) 3) k).2) (6:Int))
  rw [hO];exact Af 6 k5,?_⟩
 refine ao (a:=(AB (obN b (blC b (An b c) 3) k).1).length+([[Dat.sl ([[Dat.int (IntKind.i64.wrap ((6:Int)+(blV b (blC b ((obN b (blC b (An b c) 3) k).2) (6:Int)) (8:Int)))),Dat.int (-1:Int)],[Dat.int (IntKind.i64.wrap ((IntKind.i64.wrap ((6:Int)+(blV b (blC b ((obN b (blC b (An b c) 3) k).2) (6:Int)) (8:Int))))+(2:Int))),Dat.int (-1:Int)],[Dat.int (IntKind.i64.wrap ((IntKind.i64.wrap ((6:Int)+(blV b (blC b ((obN b (blC b (An b c) 3) k).2) (6:Int)) (8:Int))))+(2:Int))),Dat.int (40:Int)],[Dat.int (IntKind.i64.wrap ((6:Int)+(blV b (blC b ((obN b (blC b (An b c) 3) k).2) (6:Int)) (8:Int)))),Dat.int (40:Int)]]:List (List Dat))]]:List (List Dat)).length<=2199023255552) (by first|omega|(simp only [AC,AW,Ev,Ew,List.length_cons,List.length_nil];omega)) λ o75=>?_
 refine ⟨⟨(),by
  first|omega|trivial,?_⟩,?_⟩
 ·refine ⟨?_,?_,rfl,rfl,rfl,rfl,rfl,rfl,rfl,rfl,rfl,rfl,rfl,?_,rfl,?_,rfl⟩
  ·show Value.int .i64 ((blC b (blC b ((obN b (blC b (An b c) 3) k).2) (6:Int)) (8:Int)).i)=Value.int .i64 (((Ad b c).2).i)
   rw [hO,hW]
  ·show Value.int .i64 ((blC b (blC b ((obN b (blC b (An b c) 3) k).2) (6:Int)) (8:Int)).h)=Value.int .i64 (((Ad b c).2).h)
   rw [hO,hW]
  ·exact rfl
  show ((AB (obN b (blC b (An b c) 3) k).1)++([[Dat.sl ([[Dat.int (IntKind.i64.wrap ((6:Int)+(blV b (blC b ((obN b (blC b (An b c) 3) k).2) (6:Int)) (8:Int)))),Dat.int (-1:Int)],[Dat.int (IntKind.i64.wrap ((IntKind.i64.wrap ((6:Int)+(blV b (blC b ((obN b (blC b (An b c) 3) k).2) (6:Int)) (8:Int))))+(2:Int))),Dat.int (-1:Int)],[Dat.int (IntKind.i64.wrap ((IntKind.i64.wrap ((6:Int)+(blV b (blC b ((obN b (blC b (An b c) 3) k).2) (6:Int)) (8:Int))))+(2:Int))),Dat.int (40:Int)],[Dat.int (IntKind.i64.wrap ((6:Int)+(blV b (blC b ((obN b (blC b (An b c) 3) k).2) (6:Int)) (8:Int)))),Dat.int (40:Int)]]:List (List Dat))]]:List (List Dat)))=(AB (Ad b c).1)
  rw [hO,hW,w6,w8];exact AM (D9 b c).1 (SI (6+blV b (blC b (D9 b c).2 6) 8))
 rintro _ hki76
 have hki76:True:=hki76
 refine ⟨(b,((Ad b c).2),(3:Int)),by
  rfl,rfl,by
  exact k6,?_⟩
 refine ⟨⟨0,by
  first|omega|trivial,?_⟩,?_⟩
 ·refine ⟨?_,?_,?_,rfl,rfl,rfl,rfl,rfl,rfl,rfl,rfl,rfl,rfl,rfl,?_,rfl,rfl,?_⟩
  ·show Value.int .i64 (blV b ((Ad b c).2) (3:Int))=Value.int .i64 (((CW b c:Nat):Int)-(0:Int))
   exact AV (by rw [(D1 b c).1];exact (Int.sub_zero _).symm)
  ·show Value.int .i64 ((blC b ((Ad b c).2) (3:Int)).i)=Value.int .i64 (((tbN b (blC b (Ad b c).2 3) 0).2).i)
   exact rfl
  ·show Value.int .i64 ((blC b ((Ad b c).2) (3:Int)).h)=Value.int .i64 (((tbN b (blC b (Ad b c).2 3) 0).2).h)
   exact rfl
  ·exact rfl
  exact rfl
 intro (k:Nat) hki98
 have hki98:k<=CW b c:=hki98
 have kt:=LD k7 k
 refine And.symm ⟨λ c118=>?_,λ c118=>?_⟩
 ·try simp only [nrm] at c118
  have n2:=D1 b c
  have hkt:k=CW b c:=by omega
  have hT:tbN b (blC b (Ad b c).2 3) k=Mk b c:=by rw [hkt];rfl
  refine ⟨?_,?_,?_,?_,?_,?_,?_,?_,?_⟩
  ·first|(rw [hT];done)|(rw [hT];exact rfl)|exact rfl
  ·first|(rw [hT];done)|(rw [hT];exact rfl)|exact rfl
  ·first|(rw [hT];done)|(rw [hT];exact rfl)|exact rfl
  ·first|(rw [hT];done)|(rw [hT];exact rfl)|exact rfl
  ·first|(rw [hT];done)|(rw [hT];exact rfl)|exact rfl
  ·first|(rw [hT];done)|(rw [hT];exact rfl)|exact rfl
  ·first|(rw [hT];done)|(rw [hT];exact rfl)|exact rfl
  ·first|(rw [hT];done)|(rw [hT];exact rfl)|exact rfl
  first|(rw [hT];done)|(rw [hT];exact rfl)|exact rfl
 try simp only [nrm] at c118
 have n2:=D1 b c
 have r1:=Ak b (tbN b (blC b (Ad b c).2 3) k).2 (n:=18) (by omega)
 have r2:=Ak b (blC b (tbN b (blC b (Ad b c).2 3) k).2 18) (n:=14) (by omega)
 have w3:=AE (x:=3+blV b (tbN b (blC b (Ad b c).2 3) k).2 18) (by omega) (by omega)
 have w4:=AE (x:=3+blV b (blC b (tbN b (blC b (Ad b c).2 3) k).2 18) 14) (by omega) (by omega)
 refine ⟨(b,((tbN b (blC b (Ad b c).2 3) k).2),(18:Int)),by
  rfl,rfl,by
  exact kt,?_⟩
 refine ⟨(b,(blC b ((tbN b (blC b (Ad b c).2 3) k).2) (18:Int)),(14:Int)),by
  rfl,rfl,by
  show AY b (blC b ((tbN b (blC b (Ad b c).2 3) k).2) (18:Int))
  exact Af 18 kt,?_⟩
 refine ao (a:=(AA (tbN b (blC b (Ad b c).2 3) k).1).length+([[Dat.int (IntKind.i64.wrap ((3:Int)+(blV b ((tbN b (blC b (Ad b c).2 3) k).2) (18:Int)))),Dat.int (IntKind.i64.wrap ((3:Int)+(blV b (blC b ((tbN b (blC b (Ad b c).2 3) k).2) (18:Int)) (14:Int))))]]:List (List Dat)).length<=2199023255552) (by first|omega|(simp only [AC,AW,Ev,Ew,List.length_cons,List.length_nil];omega)) λ o125=>?_
 refine ⟨k+1,by
  first|omega|trivial,by
  first|omega|(simp;omega),?_⟩
 refine ⟨?_,?_,?_,rfl,rfl,rfl,rfl,rfl,rfl,rfl,rfl,rfl,rfl,rfl,?_,rfl,rfl,?_⟩
 ·exact AV (by rw [AE (by omega) (by omega)];omega)
 ·show Value.int .i64 ((blC b (blC b ((tbN b (blC b (Ad b c).2 3) k).2) (18:Int)) (14:Int)).i)=Value.int .i64 (((tbN b (blC b (Ad b c).2 3) (k+1)).2).i)
  exact rfl
 ·show Value.int .i64 ((blC b (blC b ((tbN b (blC b (Ad b c).2 3) k).2) (18:Int)) (14:Int)).h)=Value.int .i64 (((tbN b (blC b (Ad b c).2 3) (k+1)).2).h)
  exact rfl
 ·exact rfl
 show ((AA (tbN b (blC b (Ad b c).2 3) k).1)++([[Dat.int (IntKind.i64.wrap ((3:Int)+(blV b ((tbN b (blC b (Ad b c).2 3) k).2) (18:Int)))),Dat.int (IntKind.i64.wrap ((3:Int)+(blV b (blC b ((tbN b (blC b (Ad b c).2 3) k).2) (18:Int)) (14:Int))))]]:List (List Dat)))=(AA (tbN b (blC b (Ad b c).2 3) (k+1)).1)
 rw [w3,w4,JI];exact FU _ _ _
def Ex:Con:={ ι:=(List UInt8),pre:=λ i=>i.length<=1048576,args:=λ i=>[.one (.ro (.bytes i))],res:=λ i=>⟨false,[some 7],[rcI 0,rcI 0,rcI ((Ay i (AU i)).high.1),rcI ((Ay i (AU i)).high.2),.own 24 [.int,.int] (AA (Ay i (AU i)).robot),.own 25 [.sl 24 [.int,.int]] (AB (Ay i (AU i)).obst),.own 24 [.int,.int] (AA (Ay i (AU i)).tables)]⟩ }
theorem Re:Ex.Ok Tryz.prog 4:=by
 refine fok (X:=⟨tt,[(13,CF),(12,GA)],[],6,[]⟩) mixed BC (CTok.consN Mi (CTok.consP SL (CTok.nil _))) Tryz.func4 (λ _=>[]) ?_
 intro (b:List UInt8) hpre
 have hpre:b.length<=1048576:=hpre
 refine BB (q:=let Z1:=Ay b (AU b);∃ i1:(List UInt8),[DA.one (DC.ro (.bytes b))]=CF.args i1/\CF.pre i1/\(∃ i2:(List UInt8)×Cur,let Z2:=Ay i2.1 i2.2;[]=GA.args i2/\[PC.bt b,PC.im (vI ((AU i1).i)),PC.im (vI ((AU i1).h))]=LF i2/\GA.pre i2/\((vI 0=vI 0)/\(vI 0=vI 0)/\(vI (Z2.high.1)=vI (Z1.high.1))/\(vI (Z2.high.2)=vI (Z1.high.2))/\(AA Z2.robot=AA Z1.robot)/\(AB Z2.obst=AB Z1.obst)/\(AA Z2.tables=AA Z1.tables)))) (by kernel_rfl) ?_
 conv=>zeta
 delta vI
 refine ⟨b,by
  rfl,by
  show b.length<=1048576
  first|exact hpre|exact Gn hpre,?_⟩
 refine ⟨(b,(AU b)),by
  rfl,rfl,by
  show AY b (AU b)
  first|exact hpre|exact Gn hpre,?_⟩
 exact ⟨rfl,rfl,rfl,rfl,rfl,rfl,rfl⟩
end Go.Proofs.YtmekciknfocmmaaGreatDoor
