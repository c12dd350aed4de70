import Derived.Test.YthoidhehmmcgnaaGreatProg
import Derived.Test.YthoidhehmmcgnaaGreatWtBas
import Derived.Outline
import Derived.Test.YthoidhehmmcgnaaGreatWtExD
import Derived.Test.YthoidhehmmcgnaaGreatWtRkE
namespace Go.Proofs.YthoidhehmmcgnaaGreat
set_option maxRecDepth 100000
set_option linter.unusedVariables false
set_option linter.unusedSimpArgs false
open Go.RowKit
theorem Jd(n lo hi:Int)(w:World):Calls Tryz.prog 136 #[.int .i64 n,.int .i64 lo,.int .i64 hi] w λe w'=>e=.returned (.bool (inR n lo hi))/\w=w':=by
 by_cases h1:lo<=n
 ·by_cases h2:n<=hi
  ·rw[QB h1 h2]
   go_enter Tryz.func136,Tryz.ntmps136;go_wp2;go_ret;exact⟨rfl,rfl⟩
  ·rw[QC (by omega)]
   go_enter Tryz.func136,Tryz.ntmps136;go_wp2;go_ret;exact⟨rfl,rfl⟩
 ·rw[T4 (by omega)]
  go_enter Tryz.func136,Tryz.ntmps136;go_wp2;go_ret;exact⟨rfl,rfl⟩
theorem Pa(n lo hi:Int)(w:World):Calls Tryz.prog 46 #[.int .i64 n,.int .i64 lo,.int .i64 hi] w λe w'=>e=.returned (.bool (inR n lo hi))/\w=w':=by
 by_cases h1:lo<=n
 ·by_cases h2:n<=hi
  ·rw[QB h1 h2]
   go_enter Tryz.func46,Tryz.ntmps46;go_wp2;go_ret;exact⟨rfl,rfl⟩
  ·rw[QC (by omega)]
   go_enter Tryz.func46,Tryz.ntmps46;go_wp2;go_ret;exact⟨rfl,rfl⟩
 ·rw[T4 (by omega)]
  go_enter Tryz.func46,Tryz.ntmps46;go_wp2;go_ret;exact⟨rfl,rfl⟩
theorem ZO(x y:Int)(w:World):Calls Tryz.prog 166 #[.agg #[.int .i64 x,.int .i64 y]] w λe w'=>e=.returned (.bool (A1 (x,y)))/\Below w.heap.size w w':=by
 have e:A1 (x,y)=(inR x (-1000) 1000 && inR y (-1000) 1000):=rfl;rw[e];clear e;cases h1:inR x (-1000) 1000 <;> cases h2:inR y (-1000) 1000
 all_goals
  go_enter Tryz.func166,Tryz.ntmps166
  go_wp2_with (go_at_call 136;refine(Jd _ _ _ _).mono ?_;rintro e w' ⟨rfl,rfl⟩)
  go_ret
  exact⟨rfl,(by(with_reducible repeat (first|exact Below.refl _ _|assumption|refine Below.drew ?_|refine Below.setCell ?_ ?_ _|refine Below.alloc ?_ ?_ _));all_goals first|(simp;done)|(simp;omega)|omega)⟩
theorem By(x y:Int)(w:World):Calls Tryz.prog 86 #[.agg #[.int .i64 x,.int .i64 y]] w λe w'=>e=.returned (.bool (A1 (x,y)))/\Below w.heap.size w w':=by
 have e:A1 (x,y)=(inR x (-1000) 1000 && inR y (-1000) 1000):=rfl;rw[e];clear e;cases h1:inR x (-1000) 1000 <;> cases h2:inR y (-1000) 1000
 all_goals
  go_enter Tryz.func86,Tryz.ntmps86
  go_wp2_with (go_at_call 46;refine(Pa _ _ _ _).mono ?_;rintro e w' ⟨rfl,rfl⟩)
  go_ret
  exact⟨rfl,(by(with_reducible repeat (first|exact Below.refl _ _|assumption|refine Below.drew ?_|refine Below.setCell ?_ ?_ _|refine Below.alloc ?_ ?_ _));all_goals first|(simp;done)|(simp;omega)|omega)⟩
theorem AA6(a1 a2 b1 b2 c1 c2:Int)(ha:A1 (a1,a2)=true)(hb:A1 (b1,b2)=true)(hc:A1 (c1,c2)=true)(w:World) :
  Calls Tryz.prog 138 #[.agg #[.int .i64 a1,.int .i64 a2],.agg #[.int .i64 b1,.int .i64 b2],.agg #[.int .i64 c1,.int .i64 c2]] w λe w'=>e=.returned (.int .i64 (Ie (a1,a2) (b1,b2) (c1,c2)))/\Below w.heap.size w w':=by
 have A:=CW ha;have B:=CW hb;have C:=CW hc;simp only at A B C;obtain⟨xa1,xa2,xa3,xa4⟩:=A;obtain⟨xb1,xb2,xb3,xb4⟩:=B;obtain⟨xc1,xc2,xc3,xc4⟩:=C;clear ha hb hc;have m1:=Oy (a:=b1-a1) (b:=c2-a2) (m:=2000) (n:=2000) (by omega) (by omega) (by omega) (by omega);have m2:=Oy (a:=b2-a2) (b:=c1-a1) (m:=2000) (n:=2000) (by omega) (by omega) (by omega) (by omega);simp only[Int.reduceMul,Int.reduceNeg]at m1 m2;obtain⟨M1,M2⟩:=m1;obtain⟨M3,M4⟩:=m2;go_enter Tryz.func138,Tryz.ntmps138;go_wp2;go_ret;exact⟨rfl,(by(with_reducible repeat (first|exact Below.refl _ _|assumption|refine Below.drew ?_|refine Below.setCell ?_ ?_ _|refine Below.alloc ?_ ?_ _));all_goals first|(simp;done)|(simp;omega)|omega)⟩
theorem AA7(a1 a2 b1 b2 c1 c2:Int)(ha:A1 (a1,a2)=true)(hb:A1 (b1,b2)=true)(hc:A1 (c1,c2)=true)(w:World) :
  Calls Tryz.prog 87 #[.agg #[.int .i64 a1,.int .i64 a2],.agg #[.int .i64 b1,.int .i64 b2],.agg #[.int .i64 c1,.int .i64 c2]] w λe w'=>e=.returned (.int .i64 (Ie (a1,a2) (b1,b2) (c1,c2)))/\Below w.heap.size w w':=by
 have A:=CW ha;have B:=CW hb;have C:=CW hc;simp only at A B C;obtain⟨xa1,xa2,xa3,xa4⟩:=A;obtain⟨xb1,xb2,xb3,xb4⟩:=B;obtain⟨xc1,xc2,xc3,xc4⟩:=C;have m1:=Oy (a:=b1-a1) (b:=c2-a2) (m:=2000) (n:=2000) (by omega) (by omega) (by omega) (by omega);have m2:=Oy (a:=b2-a2) (b:=c1-a1) (m:=2000) (n:=2000) (by omega) (by omega) (by omega) (by omega);simp only[Int.reduceMul,Int.reduceNeg]at m1 m2;obtain⟨M1,M2⟩:=m1;obtain⟨M3,M4⟩:=m2;go_enter Tryz.func87,Tryz.ntmps87;go_wp2_with fail;refine(By _ _ _).mono ?_;rintro e w1 ⟨rfl,h1⟩;have B1:Below w.heap.size w w1:=Below.trans (by(with_reducible repeat (first|exact Below.refl _ _|assumption|refine Below.drew ?_|refine Below.setCell ?_ ?_ _|refine Below.alloc ?_ ?_ _));all_goals first|(simp;done)|(simp;omega)|omega) (h1.mono (by first|(simp;done)|(simp;omega)|omega));have S1:=h1.size;have T1:=B1.size;try simp at S1
 obtain⟨k1,f1⟩:=Es h1;try simp at k1
 try simp at f1
 have Hc1:=Lib.hid h1;clear h1;have u1_0:w.heap.size<w1.heap.size:=by omega
 have u1_1:w.heap.size+1<w1.heap.size:=by omega
 have u1_2:w.heap.size+1+1<w1.heap.size:=by omega
 go_wp2_with fail;refine(By _ _ _).mono ?_;rintro e w2 ⟨rfl,h2⟩;have B2:Below w.heap.size w w2:=Below.trans (by(with_reducible repeat (first|exact Below.refl _ _|assumption|refine Below.drew ?_|refine Below.setCell ?_ ?_ _|refine Below.alloc ?_ ?_ _));all_goals first|(simp;done)|(simp;omega)|omega) (h2.mono (by first|(simp;done)|(simp;omega)|omega));have S2:=h2.size;have T2:=B2.size;try simp at S2
 obtain⟨k2,f2⟩:=Es h2;try simp at k2
 try simp at f2
 have Hc2:=Lib.hid h2;clear h2;have u2_0:w.heap.size<w2.heap.size:=by omega
 have u2_1:w.heap.size+1<w2.heap.size:=by omega
 have u2_2:w.heap.size+1+1<w2.heap.size:=by omega
 go_wp2_with fail;refine(By _ _ _).mono ?_;rintro e w3 ⟨rfl,h3⟩;have B3:Below w.heap.size w w3:=Below.trans (by(with_reducible repeat (first|exact Below.refl _ _|assumption|refine Below.drew ?_|refine Below.setCell ?_ ?_ _|refine Below.alloc ?_ ?_ _));all_goals first|(simp;done)|(simp;omega)|omega) (h3.mono (by first|(simp;done)|(simp;omega)|omega));have S3:=h3.size;have T3:=B3.size;try simp at S3
 obtain⟨k3,f3⟩:=Es h3;try simp at k3
 try simp at f3
 have Hc3:=Lib.hid h3;clear h3;have u3_0:w.heap.size<w3.heap.size:=by omega
 have u3_1:w.heap.size+1<w3.heap.size:=by omega
 have u3_2:w.heap.size+1+1<w3.heap.size:=by omega
 go_wp2;go_ret;exact⟨rfl,(by(with_reducible repeat (first|exact Below.refl _ _|assumption|refine Below.drew ?_|refine Below.setCell ?_ ?_ _|refine Below.alloc ?_ ?_ _));all_goals first|(simp;done)|(simp;omega)|omega)⟩
structure PredVec(g:Nat)(caps:Array Value)(p:V2->Bool)(W:World):Prop where
 enter:∀(args:Array Value)(w:World),(callFunc g args).run Tryz.prog w=.ok (.enter g args) w
 calls:∀(x y:Int)(w:World),Below W.heap.size W w->Calls Tryz.prog g (#[.agg #[.int .i64 x,.int .i64 y]]++caps) w λe w'=>e=.returned (.bool (p (x,y)))/\Below w.heap.size w w'
set_option maxHeartbeats 400000 in
theorem TH(g:Nat)(caps:Array Value)(p:V2->Bool)(l:List V2)(v:Value)(w:World)(hv:VecsAt w v l)(hp:PredVec g caps p w) :
 Calls Tryz.prog 183 #[v,.func (.func g) #[] caps] w λe w'=>e=.returned (.int .i64 (Fs p l))/\Below w.heap.size w w':=by
 obtain⟨a,cap,rfl,hl,hc,a0⟩:=hv.open;have hent:=hp.enter;have HP:=Lib.hid hp.calls;clear hp;have HC:=Lib.hid a0;clear a0 hv;go_enter Tryz.func183,Tryz.ntmps183;go_wp2;go_loopw [8] (λi wr=>∃k:Nat,k<=l.length/\i=.int .i64 k/\(l.take k).any p=false/\Below w.heap.size w wr) (λi _=>l.length-(intOf i).toNat);case atStart=>exact⟨0,Nat.zero_le _,rfl,by simp,Below.refl _ _⟩
 case round=>
  obtain⟨k,hk,rfl,a1,hb⟩:=hrel;have HA:=Lib.hid a1;clear a1;by_cases a2:k<l.length
  ·obtain⟨b,off,rfl,a4,c0,c1⟩:=HC.out k a2
   have d0:=(hb.cell (p:=⟨b,off+k*2,none⟩) a4).trans c0;have d1:=(hb.cell (p:=⟨b,off+k*2+1,none⟩) a4).trans c1;obtain⟨x,y,a3⟩:∃x y,l.getD k (0,0)=(x,y):=⟨_,_,rfl⟩;rw[a3]at d0 d1;simp only at d0 d1;clear c0 c1;have HX:=Lib.hid a3;clear a3;have HB:=Lib.hid hb;clear hb;go_wp2_with fail;refine(HP.out x y _ HB.out).mono ?_;rintro e w1 ⟨rfl,hb1⟩;cases hpx:p (x,y)
   ·go_wp2
    go_roundw;case rel=>exact⟨k+1,by omega,by go_num,by rw[NZ p l (0,0) k a2,HA.out,HX.out,hpx];rfl,HB.out.trans (hb1.mono HB.out.size)⟩
    case measure=>simp[intOf];omega
   ·go_wp2
    go_ret;exact⟨T5 (Wi p l (0,0) k a2 HA.out (by rw[HX.out];exact hpx)).symm,HB.out.trans (hb1.mono HB.out.size)⟩
  ·have HB:=Lib.hid hb;clear hb
   go_wp2;go_ret;exact⟨T5 (SA p l (by have:=HA.out;rwa [List.take_of_length_le (by omega)]at this)).symm,HB.out⟩
theorem Ng(g:Nat)(caps:Array Value)(p:V2->Bool)(l:List V2)(v:Value)(w:World)(hv:VecsAt w v l)(hp:PredVec g caps p w) :
  Calls Tryz.prog 164 #[v,.func (.func g) #[] caps] w λe w'=>e=.returned (.bool (l.any p))/\Below w.heap.size w w':=by
 rw[← VL];have HV:=Lib.hid hv;clear hv;have HP:=Lib.hid hp;clear hp;go_enter Tryz.func164,Tryz.ntmps164;go_wp2_with fail;refine(TH g caps p l _ _ HV.out HP.out).mono ?_;rintro e w1 ⟨rfl,hb1⟩;have HB:=Lib.hid hb1;clear hb1;go_wp2;go_ret;exact⟨rfl,HB.out⟩
theorem TJ(W:World):PredVec 165 #[] (λp=>!A1 p) W where
 enter:=λargs w=>by kernel_rfl
 calls:=λx y w _=>by
  show Calls Tryz.prog 165 #[.agg #[.int .i64 x,.int .i64 y]] w _;go_enter Tryz.func165,Tryz.ntmps165;go_wp2_with fail;refine(ZO _ _ _).mono ?_;rintro e w1 ⟨rfl,h1⟩;have B1:Below w.heap.size w w1:=Below.trans (by(with_reducible repeat (first|exact Below.refl _ _|assumption|refine Below.drew ?_|refine Below.setCell ?_ ?_ _|refine Below.alloc ?_ ?_ _));all_goals first|(simp;done)|(simp;omega)|omega) (h1.mono (by first|(simp;done)|(simp;omega)|omega));have S1:=h1.size;have T1:=B1.size;try simp at S1
  obtain⟨k1,f1⟩:=Es h1;try simp at k1
  try simp at f1
  have Hc1:=Lib.hid h1;clear h1;have u1_0:w.heap.size<w1.heap.size:=by omega
  go_wp2;go_ret;exact⟨rfl,(by(with_reducible repeat (first|exact Below.refl _ _|assumption|refine Below.drew ?_|refine Below.setCell ?_ ?_ _|refine Below.alloc ?_ ?_ _));all_goals first|(simp;done)|(simp;omega)|omega)⟩
theorem KT(l:List V2)(v:Value)(w:World)(hv:VecsAt w v l) :
  Calls Tryz.prog 137 #[v] w λe w'=>e=.returned (.bool (l.all A1))/\Below w.heap.size w w':=by
 have e:l.all A1=!(l.any λp=>!A1 p):=by simp[List.not_any_eq_all_not]
 rw[e];clear e;have HV:=Lib.hid hv;clear hv;go_enter Tryz.func137,Tryz.ntmps137;go_wp2_with fail;refine(Ng _ #[] _ l _ _ HV.out (TJ _)).mono ?_;rintro e w1 ⟨rfl,hb1⟩;have HB:=Lib.hid hb1;clear hb1;go_wp2;go_ret;exact⟨rfl,HB.out⟩
theorem Je(l:List V2)(h:inR l.length 3 16=false):AV l=false:=by simp[AV,h]
theorem M8(l:List V2)(h:l.all A1=false):AV l=false:=by simp only[AV,h];simp
theorem LN(l:List V2)(h1:inR l.length 3 16=true)(h2:l.all A1=true):AV l=(List.range l.length).all (Kk l):=by simp only[AV,h1,h2];rfl
theorem LO(l:List V2)(k j m:Nat)(hm:m=(k+1)%l.length)(pa pb pc:V2)(ha:l.getD k (0,0)=pa)(hb:l.getD m (0,0)=pb)(hc:l.getD j (0,0)=pc) :
  Fq l k j=(decide (j=k) || decide (j=m) || decide (0<Ie pa pb pc)):=by
 subst hm ha hb hc;rfl
set_option maxHeartbeats 2000000 in
theorem RL(l:List V2)(v:Value)(w:World)(hv:VecsAt w v l) :
 Calls Tryz.prog 103 #[v] w λe w'=>e=.returned (.bool (AV l))/\Below w.heap.size w w':=by
 have HV:=Lib.hid hv;obtain⟨a,cap,rfl,hl,hc,a1⟩:=hv.open;have HC:=Lib.hid a1;clear a1 hv;cases h1:inR l.length 3 16
 ·rw[Je l h1]
  go_enter Tryz.func103,Tryz.ntmps103;go_wp2_with fail;refine(Jd _ _ _ _).mono ?_;rintro e w' ⟨rfl,rfl⟩;go_wp2;go_ret;exact⟨rfl,Below.refl _ _⟩
 ·have hn:=Ov.1 h1
  obtain⟨hn1,hn2⟩:=hn;have hn3:3<=l.length:=by omega
  have hn4:l.length<=16:=by omega
  clear hn1 hn2;cases h2:l.all A1
  ·rw[M8 l h2]
   go_enter Tryz.func103,Tryz.ntmps103;go_wp2_with fail;refine(Jd _ _ _ _).mono ?_;rintro e w' ⟨rfl,rfl⟩;go_wp2_with fail;refine(KT l _ _ HV.out).mono ?_;rintro e w1 ⟨rfl,hb1⟩;have HB:=Lib.hid hb1;clear hb1;go_wp2;go_ret;exact⟨rfl,HB.out⟩
  ·rw[LN l h1 h2]
   have HI:=Lib.hid h2;go_enter Tryz.func103,Tryz.ntmps103;go_wp2_with fail;refine(Jd _ _ _ _).mono ?_;rintro e w' ⟨rfl,rfl⟩;go_wp2_with fail;refine(KT l _ _ HV.out).mono ?_;rintro e w1 ⟨rfl,hb1⟩;have HB:=Lib.hid hb1;clear hb1;go_wp2;clear h1 h2;go_loopw [21] (λi wr=>∃k:Nat,k<=l.length/\i=.int .i64 k/\(List.range k).all (Kk l)=true/\Below w.heap.size w wr) (λi _=>l.length-(intOf i).toNat);case atStart=>exact⟨0,Nat.zero_le _,rfl,by simp,HB.out⟩
   case round=>
    obtain⟨k,hk,rfl,a0,hb⟩:=hrel;have HA:=Lib.hid a0;clear a0;by_cases aA:k<l.length
    ·obtain⟨m,hm⟩:∃m,m=(k+1)%l.length:=⟨_,rfl⟩
     have a7:m<l.length:=(by rw[hm];exact Nat.mod_lt _ (by omega));have aF:((k:Int)+1)%(l.length:Int)=(m:Int):=(by rw[hm];simp);obtain⟨b,off,rfl,a2,c0,c1⟩:=HC.out k aA;obtain⟨b',off',he,_,c2,c3⟩:=HC.out m a7;obtain⟨rfl,rfl⟩:b'=b/\off'=off:=(by simpa[eq_comm]using he);clear he;have d0:=(hb.cell (p:=⟨b',off' + k*2,none⟩) a2).trans c0;have d1:=(hb.cell (p:=⟨b',off' + k*2+1,none⟩) a2).trans c1;have d2:=(hb.cell (p:=⟨b',off' + m*2,none⟩) a2).trans c2;have d3:=(hb.cell (p:=⟨b',off' + m*2+1,none⟩) a2).trans c3;have va:=Er HI.out (0,0) k aA;have vb:=Er HI.out (0,0) m a7;obtain⟨x,y,aB⟩:∃x y,l.getD k (0,0)=(x,y):=⟨_,_,rfl⟩;obtain⟨x',y',a3⟩:∃x y,l.getD m (0,0)=(x,y):=⟨_,_,rfl⟩;rw[aB]at d0 d1 va;rw[a3]at d2 d3 vb;simp only at d0 d1 d2 d3;have hz:b' < wr.heap.size:=Nat.lt_of_lt_of_le a2 hb.size;have aG:=hb.size;clear c0 c1 c2 c3;have HX:=Lib.hid aB;clear aB;have HX':=Lib.hid a3;clear a3;have HM:=Lib.hid hm;clear hm;have HVA:=Lib.hid va;clear va;have HVB:=Lib.hid vb;clear vb;have HB':=Lib.hid hb;clear hb HB;obtain⟨wo,rfl⟩:∃wo:World,wo=wr:=⟨_,rfl⟩;go_wp2;have HW1:Below w.heap.size w ((wo.alloc (.cells #[.int .i64 x,.int .i64 y] 36)).alloc (.cells #[.int .i64 x',.int .i64 y'] 36)):=(HB'.out.alloc aG _).alloc (by simp;omega) _;have HH:=Lib.hid HW1;clear HW1 d0 d1 d2 d3;rw[aF];go_loopw [35] (λi wr=>∃j:Nat,j<=l.length/\i=.int .i64 j/\(List.range j).all (Fq l k)=true/\Below (wo.heap.size+2) ((wo.alloc (.cells #[.int .i64 x,.int .i64 y] 36)).alloc (.cells #[.int .i64 x',.int .i64 y'] 36)) wr) (λi _=>l.length-(intOf i).toNat);case atStart=>exact⟨0,Nat.zero_le _,rfl,by simp,Below.refl _ _⟩
     case round=>
      obtain⟨j,hj,rfl,a0,hb⟩:=hrel;have HA2:=Lib.hid a0;clear a0;have e0:wr.cell? ⟨wo.heap.size,0,none⟩=some (.int .i64 x):=(hb.cell (p:=⟨wo.heap.size,0,none⟩) (by simp)).trans (by go_simp);have e1:wr.cell? ⟨wo.heap.size,1,none⟩=some (.int .i64 y):=(hb.cell (p:=⟨wo.heap.size,1,none⟩) (by simp)).trans (by go_simp);have e2:wr.cell? ⟨wo.heap.size+1,0,none⟩=some (.int .i64 x'):=(hb.cell (p:=⟨wo.heap.size+1,0,none⟩) (by simp)).trans (by go_simp);have e3:wr.cell? ⟨wo.heap.size+1,1,none⟩=some (.int .i64 y'):=(hb.cell (p:=⟨wo.heap.size+1,1,none⟩) (by simp)).trans (by go_simp);have aH:=hb.size;simp only[World.size_alloc]at aH;have z0:wo.heap.size<wr.heap.size:=(by omega);have z1:wo.heap.size+1<wr.heap.size:=(by omega);have z2:b' < wr.heap.size:=(by omega);have zw:w.heap.size<=wr.heap.size:=(by omega);have HB2:=Lib.hid (HH.out.trans (hb.mono (by omega)));have aC:=hb.cell (p:=⟨b',off' + j*2,none⟩) (by show b' < _;omega);have a4:=hb.cell (p:=⟨b',off' + j*2+1,none⟩) (by show b' < _;omega);have aD:=HH.out.cell (p:=⟨b',off' + j*2,none⟩) a2;have a5:=HH.out.cell (p:=⟨b',off' + j*2+1,none⟩) a2;have HR:=Lib.hid hb;clear hb;by_cases a6:j<l.length
      ·obtain⟨b2,off2,he,_,c4,c5⟩:=HC.out j a6
       obtain⟨rfl,rfl⟩:b2=b'/\off2=off':=by simpa[eq_comm]using he
       clear he;have d4:=aC.trans (aD.trans c4);have d5:=a4.trans (a5.trans c5);have vc:=Er HI.out (0,0) j a6;obtain⟨px,py,aE⟩:∃x y,l.getD j (0,0)=(x,y):=⟨_,_,rfl⟩;rw[aE]at d4 d5 vc;simp only at d4 d5;clear aC a4 aD a5 c4 c5;have HP:=Lib.hid aE;clear aE;have HVC:=Lib.hid vc;clear vc;have hst:=LO l k j m HM.out _ _ _ HX.out HX'.out HP.out;have HST:=Lib.hid hst;clear hst;by_cases a8:j=k
       ·have hn1:((j:Int) != (k:Int))=false:=by simp[a8]
        have HJ:=Lib.hid a8;clear a8;go_wp2;go_roundw;case rel=>exact⟨j+1,by omega,by go_num,by rw[BY,HA2.out,HST.out,HJ.out];simp,HR.out.alloc (by omega) _⟩
        case measure=>simp[intOf];omega
       ·have hn1:((j:Int) != (k:Int))=true:=by simp;omega
        have HJ:=Lib.hid a8;clear a8;by_cases a9:j=m
        ·have hn2:((j:Int) != (m:Int))=false:=by simp[a9]
         have HJM:=Lib.hid a9;clear a9;go_wp2;go_roundw;case rel=>exact⟨j+1,by omega,by go_num,by rw[BY,HA2.out,HST.out,HJM.out];simp,HR.out.alloc (by omega) _⟩
         case measure=>simp[intOf];omega
        ·have hn2:((j:Int) != (m:Int))=true:=by simp;omega
         have HJM:=Lib.hid a9;clear a9;go_wp2_with fail;refine(AA6 _ _ _ _ _ _ HVA.out HVB.out HVC.out _).mono ?_;rintro e w2 ⟨rfl,hb2⟩;have hb2s:=hb2.size;simp only[World.size_alloc]at hb2s;have HB3:=Lib.hid hb2;clear hb2;by_cases ht:Ie (x,y) (x',y') (px,py)<=0
         ·go_wp2
          go_ret;refine⟨G7 (C9 _ _ k aA ?_).symm,(HB2.out.alloc zw _).trans (HB3.out.mono (by simp;omega))⟩;refine C9 _ _ j a6 ?_;rw[HST.out];simp[HJ.out,HJM.out,ht]
         ·go_wp2
          go_roundw;case rel=>refine⟨j+1,by omega,by go_num,?_,(HR.out.alloc (by omega) _).trans (HB3.out.mono (by simp;omega))⟩;rw[BY,HA2.out,HST.out];have:0<Ie (x,y) (x',y') (px,py):=(by omega);simp[this]
          case measure=>simp[intOf];omega
      ·clear aC a4 aD a5
       go_wp2;go_roundw;case rel=>refine⟨k+1,by omega,by go_num,?_,HB2.out⟩;rw[BY,HA.out];have:=HA2.out;rw[show j=l.length by omega]at this;simpa[Kk]using this
       case measure=>simp[intOf];omega
    ·have HB':=Lib.hid hb;clear hb HB
     go_wp2;go_ret;exact⟨G7 (by have:=HA.out;rw[show k=l.length by omega]at this;exact this.symm),HB'.out⟩
theorem Nh(l:List V2)(k j:Nat)(hk:k<l.length)(hj:j<l.length)(h:Fq l k j=false):AV l=false:=by have h1:Kk l k=false:=C9 _ _ j hj h;have h2:(List.range l.length).all (Kk l)=false:=C9 _ _ k hk h1;simp only[AV,h2];simp
set_option maxHeartbeats 2000000 in
theorem Pb(l:List V2)(v:Value)(w:World)(hv:VecsAt w v l) :
 Calls Tryz.prog 50 #[v] w λe w'=>e=.returned (.bool (AV l))/\Below w.heap.size w w':=by
 obtain⟨a,cap,rfl,hl,hc,a2⟩:=hv.open;have HC:=Lib.hid a2;clear a2 hv;cases h1:inR l.length 3 16
 ·rw[Je l h1]
  go_enter Tryz.func50,Tryz.ntmps50;go_wp2_with fail;refine(Pa _ _ _ _).mono ?_;rintro e w' ⟨rfl,rfl⟩;go_wp2;go_ret;exact⟨rfl,Below.refl _ _⟩
 ·have hn:=Ov.1 h1
  obtain⟨hn1,hn2⟩:=hn;have hn3:3<=l.length:=by omega
  have hn4:l.length<=16:=by omega
  clear hn1 hn2;have HH1:=Lib.hid h1;go_enter Tryz.func50,Tryz.ntmps50;go_wp2_with fail;refine(Pa _ _ _ _).mono ?_;rintro e w' ⟨rfl,rfl⟩;go_wp2;clear h1;go_loopw [16] (λi wr=>∃k:Nat,k<=l.length/\i=.int .i64 k/\(k=0\/l.all A1=true)/\(List.range k).all (Kk l)=true/\Below w.heap.size w wr) (λi _=>l.length-(intOf i).toNat);case atStart=>exact⟨0,Nat.zero_le _,rfl,.inl rfl,by simp,Below.refl _ _⟩
  case round=>
   obtain⟨k,hk,rfl,aG,a0,hb⟩:=hrel;have HA:=Lib.hid a0;clear a0;have HK:=Lib.hid aG;clear aG;by_cases aB:k<l.length
   ·obtain⟨m,hm⟩:∃m,m=(k+1)%l.length:=⟨_,rfl⟩
    have a7:m<l.length:=(by rw[hm];exact Nat.mod_lt _ (by omega));have aJ:((k:Int)+1)%(l.length:Int)=(m:Int):=(by rw[hm];simp);obtain⟨b,off,rfl,a3,c0,c1⟩:=HC.out k aB;obtain⟨b',off',he,_,c2,c3⟩:=HC.out m a7;obtain⟨rfl,rfl⟩:b'=b/\off'=off:=(by simpa[eq_comm]using he);clear he;have d0:=(hb.cell (p:=⟨b',off' + k*2,none⟩) a3).trans c0;have d1:=(hb.cell (p:=⟨b',off' + k*2+1,none⟩) a3).trans c1;have d2:=(hb.cell (p:=⟨b',off' + m*2,none⟩) a3).trans c2;have d3:=(hb.cell (p:=⟨b',off' + m*2+1,none⟩) a3).trans c3;obtain⟨x,y,aC⟩:∃x y,l.getD k (0,0)=(x,y):=⟨_,_,rfl⟩;obtain⟨x',y',a4⟩:∃x y,l.getD m (0,0)=(x,y):=⟨_,_,rfl⟩;rw[aC]at d0 d1;rw[a4]at d2 d3;simp only at d0 d1 d2 d3;have hz:b' < wr.heap.size:=Nat.lt_of_lt_of_le a3 hb.size;have aK:=hb.size;clear c0 c1 c2 c3;have HX:=Lib.hid aC;clear aC;have HX':=Lib.hid a4;clear a4;have HM:=Lib.hid hm;clear hm;have HB':=Lib.hid hb;clear hb;obtain⟨wo,rfl⟩:∃wo:World,wo=wr:=⟨_,rfl⟩;go_wp2;have HW1:Below w.heap.size w ((wo.alloc (.cells #[.int .i64 x,.int .i64 y] 36)).alloc (.cells #[.int .i64 x',.int .i64 y'] 36)):=(HB'.out.alloc aK _).alloc (by simp;omega) _;have HH:=Lib.hid HW1;clear HW1 d0 d1 d2 d3;try rw[aJ]
    go_loopw [30] (λi wr=>∃j:Nat,j<=l.length/\i=.int .i64 j/\(l.take j).all A1=true/\(List.range j).all (Fq l k)=true/\Below (wo.heap.size+2) ((wo.alloc (.cells #[.int .i64 x,.int .i64 y] 36)).alloc (.cells #[.int .i64 x',.int .i64 y'] 36)) wr) (λi _=>l.length-(intOf i).toNat);case atStart=>exact⟨0,Nat.zero_le _,rfl,by simp,by simp,Below.refl _ _⟩
    case round=>
     obtain⟨j,hj,rfl,aH,a0,hb⟩:=hrel;have HA2:=Lib.hid a0;clear a0;have HJV:=Lib.hid aH;clear aH;have e0:wr.cell? ⟨wo.heap.size,0,none⟩=some (.int .i64 x):=(hb.cell (p:=⟨wo.heap.size,0,none⟩) (by simp)).trans (by go_simp);have e1:wr.cell? ⟨wo.heap.size,1,none⟩=some (.int .i64 y):=(hb.cell (p:=⟨wo.heap.size,1,none⟩) (by simp)).trans (by go_simp);have e2:wr.cell? ⟨wo.heap.size+1,0,none⟩=some (.int .i64 x'):=(hb.cell (p:=⟨wo.heap.size+1,0,none⟩) (by simp)).trans (by go_simp);have e3:wr.cell? ⟨wo.heap.size+1,1,none⟩=some (.int .i64 y'):=(hb.cell (p:=⟨wo.heap.size+1,1,none⟩) (by simp)).trans (by go_simp);have aL:=hb.size;simp only[World.size_alloc]at aL;have z0:wo.heap.size<wr.heap.size:=by omega
     have z1:wo.heap.size+1<wr.heap.size:=(by omega);have z2:b' < wr.heap.size:=(by omega);have zw:w.heap.size<=wr.heap.size:=(by omega);have HB2:=Lib.hid (HH.out.trans (hb.mono (by omega)));have aD:=hb.cell (p:=⟨b',off' + j*2,none⟩) (by show b' < _;omega);have a5:=hb.cell (p:=⟨b',off' + j*2+1,none⟩) (by show b' < _;omega);have aE:=HH.out.cell (p:=⟨b',off' + j*2,none⟩) a3;have a6:=HH.out.cell (p:=⟨b',off' + j*2+1,none⟩) a3;have HR:=Lib.hid hb;clear hb;by_cases a1:j<l.length
     ·obtain⟨b2,off2,he,_,c4,c5⟩:=HC.out j a1
      obtain⟨rfl,rfl⟩:b2=b'/\off2=off':=by simpa[eq_comm]using he
      clear he;have d4:=aD.trans (aE.trans c4);have d5:=a5.trans (a6.trans c5);obtain⟨px,py,aF⟩:∃x y,l.getD j (0,0)=(x,y):=⟨_,_,rfl⟩;rw[aF]at d4 d5;simp only at d4 d5;clear aD a5 aE a6 c4 c5;have HP:=Lib.hid aF;clear aF;have hst:=LO l k j m HM.out _ _ _ HX.out HX'.out HP.out;have HST:=Lib.hid hst;clear hst;cases hvc:A1 (px,py)
      ·go_wp2_with fail
       refine(By _ _ _).mono ?_;rintro e w2 ⟨rfl,hb2⟩;have HB3:=Lib.hid hb2;clear hb2;go_wp2;go_ret;refine⟨G7 (M8 l (Lu _ l (0,0) j a1 (by rw[HP.out];exact hvc))).symm,(HB2.out.alloc zw _).trans (HB3.out.mono (by simp;omega))⟩
      ·have HVC:=Lib.hid hvc
       have HJV' : Hid ((l.take (j+1)).all A1=true):=(by show _=_;rw[Na _ l (0,0) j a1,HJV.out,HP.out,hvc];rfl);by_cases a8:j=k
       ·have hn1:((j:Int) != (k:Int))=false:=by simp[a8]
        have HJ:=Lib.hid a8;clear a8;go_wp2_with fail;refine(By _ _ _).mono ?_;rintro e w2 ⟨rfl,hb2⟩;have HB3:=Lib.hid hb2;clear hb2;go_wp2;go_roundw;case rel=>exact⟨j+1,by omega,by go_num,HJV'.out,by rw[BY,HA2.out,HST.out,HJ.out];simp,(HR.out.alloc (by omega) _).trans (HB3.out.mono (by simp;omega))⟩
        case measure=>simp[intOf];omega
       ·have hn1:((j:Int) != (k:Int))=true:=by simp;omega
        have HJ:=Lib.hid a8;clear a8;by_cases a9:j=m
        ·have hn2:((j:Int) != (m:Int))=false:=by simp[a9]
         have HJM:=Lib.hid a9;clear a9;go_wp2_with fail;refine(By _ _ _).mono ?_;rintro e w2 ⟨rfl,hb2⟩;have HB3:=Lib.hid hb2;clear hb2;go_wp2;go_roundw;case rel=>exact⟨j+1,by omega,by go_num,HJV'.out,by rw[BY,HA2.out,HST.out,HJM.out];simp,(HR.out.alloc (by omega) _).trans (HB3.out.mono (by simp;omega))⟩
         case measure=>simp[intOf];omega
        ·have hn2:((j:Int) != (m:Int))=true:=by simp;omega
         have HJM:=Lib.hid a9;clear a9
         have aA:A1 (x,y)=true/\A1 (x',y')=true:=by
          rw[← HX.out,← HX'.out];rcases HK.out with h0|h0
          ·have hm1:m=1:=by have:=HM.out;rw[h0,Nat.mod_eq_of_lt (by omega)]at this;omega
           have hj1:=HJ.out;have hj2:=HJM.out;have g0:=Er HJV.out (0,0) k (by simp;omega);have g1:=Er HJV.out (0,0) m (by simp;omega);simp only[List.getD,List.getElem?_take]at g0 g1 ⊢;rw[if_pos (by omega)]at g0 g1;exact⟨g0,g1⟩
          ·exact⟨Er h0 (0,0) k aB,Er h0 (0,0) m a7⟩
         have HVAB:=Lib.hid aA;clear aA;go_wp2_with fail;refine(By _ _ _).mono ?_;rintro e w2 ⟨rfl,hb2⟩;have S2:=hb2.size;simp only[World.size_alloc]at S2;obtain⟨k2,f2⟩:=Es hb2;simp only[World.size_alloc]at k2 f2;have u0:wo.heap.size<w2.heap.size:=(by omega);have u1:wo.heap.size+1<w2.heap.size:=(by omega);have u2:wr.heap.size<w2.heap.size:=(by omega);have v0:wo.heap.size<wr.heap.size+1:=(by omega);have v1:wo.heap.size+1<wr.heap.size+1:=(by omega);have HB3:=Lib.hid hb2;clear hb2;go_wp2_with fail;refine(AA7 _ _ _ _ _ _ HVAB.out.1 HVAB.out.2 HVC.out _).mono ?_;rintro e w3 ⟨rfl,hb3⟩;have S3:=hb3.size;have HB4:=Lib.hid hb3;clear hb3;clear hvc;by_cases ht:Ie (x,y) (x',y') (px,py)<=0
         ·go_wp2
          go_ret;refine⟨G7 (Nh l k j aB a1 ?_).symm,((HB2.out.alloc zw _).trans (HB3.out.mono (by simp;omega))).trans (HB4.out.mono (by omega))⟩;rw[HST.out];simp[HJ.out,HJM.out,ht]
         ·go_wp2
          go_roundw;case rel=>refine⟨j+1,by omega,by go_num,HJV'.out,?_,((HR.out.alloc (by omega) _).trans (HB3.out.mono (by simp;omega))).trans (HB4.out.mono (by omega))⟩;rw[BY,HA2.out,HST.out];have:0<Ie (x,y) (x',y') (px,py):=(by omega);simp[this]
          case measure=>simp[intOf];omega
     ·clear aD a5 aE a6
      go_wp2;go_roundw
      case rel=>
       have aI:j=l.length:=(by omega);refine⟨k+1,by omega,by go_num,.inr ?_,?_,HB2.out⟩
       ·have:=HJV.out
        rw[aI,List.take_length]at this;exact this
       ·rw[BY,HA.out]
        have:=HA2.out;rw[aI]at this;simpa[Kk]using this
      case measure=>simp[intOf];omega
   ·have HB':=Lib.hid hb;clear hb
    go_wp2;go_ret;refine⟨G7 ?_,HB'.out⟩;have aM:k=l.length:=by omega
    have h3:=HA.out;rw[aM]at h3;rcases HK.out with h0|h0;·omega
    ·rw[LN l HH1.out h0,h3]
theorem Pc{e:Nat}{ts:List Ty}{r:List Dat}(h0:hasRow [.sl e ts] r):[Dat.sl ((r.getD 0 (.int 0)).r)]=r:=by obtain⟨_,_,rfl,q0,h1⟩:=h0.cons;obtain⟨_,rfl⟩:=Dat.has_sl q0;obtain rfl:=h1.nil;rfl
theorem RM{e:Nat}{l:List (List Dat)}(h:Dat.has (.sl e [.int,.int]) (.sl l)):∃vs:List V2,l=AZ vs:=by
 refine⟨l.map λr=>((r.getD 0 (.int 0)).n,(r.getD 1 (.int 0)).n),?_⟩;have hr:=Dl h;unfold AZ;rw[List.map_map];conv=>lhs;rw[← List.map_id l]
 refine List.map_congr_left λr hm=>?_;obtain⟨k,hk,e1⟩:=List.getElem_of_mem hm;have:=hr k hk;simp only[List.getD,List.getElem?_eq_getElem hk,Option.getD_some,e1]at this;obtain⟨_,_,rfl,q0,h1⟩:=hasRow.cons this;obtain⟨_,rfl⟩:=Dat.has_int q0;obtain⟨_,_,rfl,q1,h2⟩:=h1.cons;obtain⟨_,rfl⟩:=Dat.has_int q1;obtain rfl:=h2.nil;rfl
theorem Pd{e e' : Nat}{l:List (List Dat)}(h:Dat.has (.sl e [.sl e' [.int,.int]]) (.sl l)):∃vs:List (List V2),l=AN vs:=by
 have hr:=Dl h
 have key:∀(l:List (List Dat)),(∀k,k<l.length->hasRow [.sl e' [.int,.int]] (l.getD k []))->∃vs:List (List V2),l=AN vs:=by
  intro l;induction l with
  |nil=>intro _;exact⟨[],rfl⟩|cons r l ih=>
   intro h;obtain⟨vs,rfl⟩:=ih λk hk=>by simpa using h (k+1) (by simpa using hk)
   have h0:=h 0 (by simp);simp only[List.getD_cons_zero]at h0;obtain⟨_,_,rfl,q0,h1⟩:=hasRow.cons h0;obtain⟨_,rfl⟩:=Dat.has_sl q0;obtain rfl:=h1.nil;obtain⟨v,rfl⟩:=RM q0;exact⟨v::vs,rfl⟩
 exact key l hr
theorem Jf{l:List V2}{k:Nat}(hk:k<l.length):(AZ l).getD k []=SE (l.getD k (0,0)):=by simp[AZ,List.getD,hk]
theorem BL{l:List V2}{k:Nat}(hk:k<l.length):(((AZ l).getD k []).getD 0 (.int 0)).n=(l.getD k (0,0)).1:=by rw[Jf hk];rfl
theorem Ho{l:List V2}{k:Nat}(hk:k<l.length):(((AZ l).getD k []).getD 1 (.int 0)).n=(l.getD k (0,0)).2:=by rw[Jf hk];rfl
theorem FU{l:List V2}{k:Nat}(h:l.all A1=true)(hk:k<l.length):A1 (l.getD k (0,0))=true:=by simp only[List.getD,List.getElem?_eq_getElem hk,Option.getD_some];exact List.all_eq_true.1 h _ (List.getElem_mem hk)
theorem BR{l:List (List V2)}{k:Nat}(hk:k<l.length):(((AN l).getD k []).getD 0 (.int 0)).r=AZ (l.getD k []):=by simp[AN,List.getD,hk,Dat.r]
def D7:Con:={ι:=Int×Int,pre:=λi=>True,args:=λi=>[DA.agg [cI i.1,cI i.2]],res:=λi=>⟨false,[none],[rcB (A1 (i.1,i.2))]⟩}
theorem WD:D7.Ok Tryz.prog 86:=IF rfl ⟨_,Tryz.func86,by decide,rfl⟩ (λ_=>Nat.le_of_ble_eq_true rfl) (λ_=>rfl) (λi=>[.im (.bool (A1 (i.1,i.2)))]) (λ_=>rfl) (λ_=>rfl) (λi hp w us h=>by obtain⟨x,y⟩:=i;have h:RdRow w [.int,.int] [.int x,.int y] us:=h;obtain⟨a,_,rfl,q1,h⟩:=RdRow.cons2 h;obtain⟨b,_,rfl,q2,h⟩:=RdRow.cons2 h;obtain⟨-,rfl⟩:=RdRow.nil_inv h;obtain rfl:=Rd.int2 q1;obtain rfl:=Rd.int2 q2;refine(By x y w).mono ?_;rintro e w' ⟨rfl,hb⟩;exact⟨[Value.bool (A1 (x,y))],rfl,Own.leaf (Fp.mk_bool _),hb⟩)
def FV:Con:={ι:=(List V2),pre:=λi=>True,args:=λi=>[.one (DC.sl 36 [.int,.int] (AZ i))],res:=λi=>⟨false,[none],[rcB (AV i)]⟩}
theorem TK:FV.Ok Tryz.prog 103:=IF rfl ⟨_,Tryz.func103,by decide,rfl⟩ (λ_=>Nat.le_of_ble_eq_true rfl) (λ_=>rfl) (λl=>[.im (.bool (AV l))]) (λ_=>rfl) (λ_=>rfl) (λi hp w us h=>by have h:RdRow w [.sl 36 [.int,.int]] [.sl (AZ i)] us:=h;obtain⟨v,vs,rfl,h1,h2⟩:=RdRow.cons2 h;obtain⟨-,rfl⟩:=RdRow.nil_inv h2;refine(RL i v w (Rd.vecs h1)).mono ?_;rintro e w' ⟨rfl,hb⟩;exact⟨[Value.bool (AV i)],rfl,Own.leaf (Fp.mk_bool _),hb⟩)
def Co:Con:={ι:=(List V2),pre:=λi=>True,args:=λi=>[.one (DC.sl 36 [.int,.int] (AZ i))],res:=λi=>⟨false,[none],[rcB (AV i)]⟩}
theorem M9:Co.Ok Tryz.prog 50:=IF rfl ⟨_,Tryz.func50,by decide,rfl⟩ (λ_=>Nat.le_of_ble_eq_true rfl) (λ_=>rfl) (λl=>[.im (.bool (AV l))]) (λ_=>rfl) (λ_=>rfl) (λi hp w us h=>by have h:RdRow w [.sl 36 [.int,.int]] [.sl (AZ i)] us:=h;obtain⟨v,vs,rfl,h1,h2⟩:=RdRow.cons2 h;obtain⟨-,rfl⟩:=RdRow.nil_inv h2;refine(Pb i v w (Rd.vecs h1)).mono ?_;rintro e w' ⟨rfl,hb⟩;exact⟨[Value.bool (AV i)],rfl,Own.leaf (Fp.mk_bool _),hb⟩)
def RatD.has(r:RatD):Prop:=Dat.has (.sl 3 [.int]) (.sl r.num)/\Dat.has (.sl 3 [.int]) (.sl r.den)
def PtD.has(p:PtD):Prop:=p.x.has/\p.y.has
theorem GC{k n:Nat}(hk:k<n)(hn:n<=1048576):(Int.tmod (IntKind.i64.wrap (((k:Nat):Int)+(1:Int))) ((n:Nat):Int)).toNat=(k+1)%n/\(k+1)%n<n/\Int.tmod (IntKind.i64.wrap (((k:Nat):Int)+(1:Int))) ((n:Nat):Int)=(((k+1)%n:Nat):Int):=by
 have e:Int.tmod (IntKind.i64.wrap (((k:Nat):Int)+(1:Int))) ((n:Nat):Int)=(((k+1)%n:Nat):Int):=by rw[AB (by omega) (by omega),show((k:Nat):Int)+1=((k+1:Nat):Int) by omega,Xk]
 refine⟨by rw[e];omega,Nat.mod_lt _ (by omega),e⟩
end Go.Proofs.YthoidhehmmcgnaaGreat
