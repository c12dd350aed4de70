import Derived.Test.YthoidhehmmcgnaaGreatSlSy3B
import Derived.Test.YthoidhehmmcgnaaGreatSlSyb
import Derived.Shelf.SlSortCmp.PdqK
namespace Go.Proofs.YthoidhehmmcgnaaGreat
set_option linter.unusedVariables false
set_option linter.unusedSimpArgs false
open Go.RowKit Go.Sort Go.Shelf Go.Lib
def AAv(enc:Nat->List Value)(k:Nat)(w0:World)(blk n:Nat)(c:Nat->Nat->Int)(w' : World):Prop:=∃d',SWK enc k w0 blk 0 d' w'/\d'.toList=He c n
set_option maxHeartbeats 8000000 in
set_option maxRecDepth 1000000 in
theorem ADW{P:Program}{ρ:Ren}{k:Nat}(E:StEB P k)(LI:SlLaysF0.n20 P ρ)(rf:ρ.f 20=173)(rt:ρ.t 24=114)(fI:P.funcs[173]?=Tryz.prog.funcs[173]?)(enc:Nat->List Value)(c:Nat->Nat->Int)(hc:TPre c)(g:Nat)(eg:∀args w,(callFunc g args).run P w=.ok (.enter g args) w)(blk cap n:Nat)(w0:World)(a6:CmpLays P g #[] enc k c blk 0 n w0)(R:RowK enc k w0 blk 0 (Array.range n))(a9:n<4611686018427387904) :
 Calls P 148 #[.slice (some ⟨blk,0,none⟩) n cap,.int .i64 n,.func (.func g) #[] #[]] w0 λe w'=>e=.returned (.tuple #[])/\AAv enc k w0 blk n c w':=by
 have hn:(Array.range n).size=n:=by simp
 have S0:Aside (SWK enc k w0 blk 0 (Array.range n) w0):=SWK.start R.hH;have a2:CmpLays P g #[] enc k c blk 0 (Array.range n).size w0:=by rw[hn];exact a6
 have HSy:=λN a m b d w h1 h2 h3 h4 h5 h6 h7=>ADV E enc c hc g eg blk cap (Array.range n) w0 a2 R (by rw[hn];exact a9) N a m b d w h1 h2 h3 h4 h5 h6 h7;have HIn:=λa b d w h1 h2 h3 h4 h5=>AnyQ.insertionSortCmpFunc_w (P:=P) (ρ:=ρ) LI k (by rw[rt];exact E.aE) (by rw[rt];exact E.zE) enc c g #[] blk 0 cap a b (Array.range n) d w0 w eg a2 R h1 h2 hc.swoC h3 h4 h5;rw[rf]at HIn;have HSY:Aside _:=HSy;have HIN:Aside _:=HIn;have t3:=E.t3;have a3:=E.a3;have z3:=E.z3;have v3:=E.v3;have t4:=E.t4;have a4:=E.a4;have z4:=E.z4;have v4:=E.v4;have tS:=E.tS;have aS:=E.aS;have zS:=E.zS;have vS:=E.vS;have tF:=E.tF;have aF:=E.aF;have zF:=E.zF;have vF:=E.vF;have tU:=E.tU;have aU:=E.aU;have zU:=E.zU;have vU:=E.vU;have t0:=E.t0;have a0:=E.a0;have z0:=E.z0;have v0:=E.v0;have aE:=E.aE;have zE:=E.zE;have mixed:=E.mixed;have FG:=E.f_stab.trans Tryz.func148;have eI:∀args w,(callFunc 173 args).run P w=.ok (.enter 173 args) w:=enters_of (fI.trans Tryz.func173) (by kernel_rfl) rfl;have eS:∀args w,(callFunc 174 args).run P w=.ok (.enter 174 args) w:=enters_of (E.f_symM.trans Tryz.func174) (by kernel_rfl) rfl;have HC:Aside (TPre c):=hc;clear E LI rf rt fI a6 a2 HSy HIn hc hn;go_enter FG,Tryz.ntmps148;go_wp2;go_loopg [7,8] n (λkx s7 s8 wr=>∃(t:Nat)(dk:Array Nat),s7=.int .i64 t/\s8=.int .i64 ((t:Int)+20)/\t<=n/\n-t<=kx/\dk.size=n/\Aside (SWK enc k w0 blk 0 dk wr)/\Aside (Ini c 20 t n dk/\∃u,t=20*u));case atStart=>exact⟨0,Array.range n,rfl,rfl,Nat.zero_le _,Nat.le_refl _,by simp,S0,(⟨Ini.start c 20 n,0,rfl⟩:_/\_)⟩
 case round=>
  clear S0;obtain⟨t,dk,rfl,rfl,htn,hkx,a5,S1,I⟩:=hrel;by_cases hb:t+20<=n
  ·have aA:(t:Int)+20<=(n:Int):=by omega
   have a1:=HIN.out t (t+20) dk wr (by rw[Array.size_range];exact a5.symm) S1.out (by omega) (by omega) (by omega);rw[show((t+20:Nat):Int)=(t:Int)+20 by omega]at a1;rw[a5]at a1;clear S1;go_wp2_with (go_at_fn 173;refine a1.mono ?_;rintro e w1 ⟨rfl,S2⟩);go_roundg (n-(t+20));case measure=>omega
   case rel=>have S3:Aside (SWK enc k w0 blk 0 (insertionSort (ltC c) dk t (t+20)) w1):=S2;have I2:Aside (Ini c 20 (t+20) n (insertionSort (ltC c) dk t (t+20))/\∃u,t+20=20*u):=(by show _/\_;obtain⟨i1,u,rfl⟩:=I.out;exact⟨i1.step HC.out (by omega) (by omega) (by omega) (by omega),u+1,by omega⟩);exact⟨t+20,_,by rw[show((t+20:Nat):Int)=(t:Int)+20 by omega],by rw[show((t+20:Nat):Int)=(t:Int)+20 by omega],by omega,Nat.le_refl _,I2.out.1.size,S3,I2⟩
  ·have aA:¬(t:Int)+20<=(n:Int):=by omega
   have a1:=HIN.out t (n) dk wr (by rw[Array.size_range];exact a5.symm) S1.out (by omega) (by omega) (by omega);rw[a5]at a1;clear S1;go_wp2_with (go_at_fn 173;refine a1.mono ?_;rintro e w1 ⟨rfl,S2⟩);have S3:Aside (SWK enc k w0 blk 0 (insertionSort (ltC c) dk t n) w1):=S2;have L1:Aside (Lay c 20 n (insertionSort (ltC c) dk t n)):=(by show Lay _ _ _ _;obtain⟨i1,u,rfl⟩:=I.out;exact(i1.step HC.out (by omega) (by omega) (by omega) (by omega)).lay);generalize insertionSort (ltC c) dk t n=dm at S3 L1;clear a1 I a5 S2;go_loopg [6] n (λkx s6 wr=>∃(s:Nat)(dk:Array Nat),s6=.int .i64 s/\0<s/\n-s<=kx/\dk.size=n/\Aside (SWK enc k w0 blk 0 dk wr)/\Aside (Lay c s n dk));case atStart=>exact⟨20,dm,rfl,by omega,by omega,L1.out.size,S3,L1⟩
   case round=>
    clear S3 L1;obtain⟨s,dk,rfl,hs0,hkx2,a5,S1,L⟩:=hrel;by_cases hlt:s<n
    ·have a8:(s:Int)<(n:Int):=by omega
     have r2:IntKind.i64.wrap (2*(s:Int))=2*(s:Int):=(by rw[IntKind.wrap_i64];omega);have r3:IntKind.i64.wrap ((s:Int)*2)=(s:Int)*2:=(by rw[IntKind.wrap_i64];omega);go_wp2;go_loopg [7,8] n (λky s7 s8 wr=>∃(t:Nat)(dj:Array Nat),s7=.int .i64 t/\s8=.int .i64 ((t:Int)+2*(s:Int))/\t<=n/\n-t<=ky/\dj.size=n/\Aside (SWK enc k w0 blk 0 dj wr)/\Aside (Pass c s t n dj/\∃u,t=s*2*u));case atStart=>exact⟨0,dk,rfl,by simp,Nat.zero_le _,Nat.le_refl _,a5,S1,(⟨L.out.pass,0,rfl⟩:_/\_)⟩
     case round=>
      clear S1 L;obtain⟨t,dj,rfl,rfl,htn2,hky,a7,S1,I⟩:=hrel;have r4:IntKind.i64.wrap ((t:Int)+(s:Int))=(t:Int)+(s:Int):=(by rw[IntKind.wrap_i64];omega);by_cases hb2:t+2*s<=n
      ·have hb2z:(t:Int)+2*(s:Int)<=(n:Int):=by omega
       have r5:IntKind.i64.wrap ((t:Int)+2*(s:Int)+2*(s:Int))=(t:Int)+2*(s:Int)+2*(s:Int):=(by rw[IntKind.wrap_i64];omega);have RN:Runs c t (t+s) (t+2*s) dj:=(by obtain⟨i1,u,rfl⟩:=I.out;exact i1.runs hs0 (by omega) (by omega) (by omega));have a1:=HSY.out ((t+2*s)-t) t (t+s) (t+2*s) dj wr (Nat.le_refl _) (by omega) (by omega) (by omega) (by rw[Array.size_range];exact a7.symm) S1.out RN;rw[a7,show((t+s:Nat):Int)=(t:Int)+(s:Int) by omega,show((t+2*s:Nat):Int)=(t:Int)+2*(s:Int) by omega]at a1;clear S1 RN;go_wp2_with (go_at_fn 174;refine a1.mono ?_;rintro e w3 ⟨rfl,S2⟩);obtain⟨d2,s1,s2,s3⟩:=S2;have S3:Aside (SWK enc k w0 blk 0 d2 w3):=s1;have I2:Aside (Pass c s (t+2*s) n d2/\∃u,t+2*s=s*2*u):=(by show _/\_;obtain⟨i1,u,rfl⟩:=I.out;exact⟨i1.step hs0 (by omega) (by omega) (by omega) s2 s3,u+1,by rw[Nat.mul_add,Nat.mul_one,Nat.mul_comm 2 s]⟩);clear s1 s2 s3 a1;go_roundg (n-(t+2*s));case measure=>omega
       case rel=>exact⟨t+2*s,d2,by rw[show((t+2*s:Nat):Int)=(t:Int)+2*(s:Int) by omega],by rw[show((t+2*s:Nat):Int)=(t:Int)+2*(s:Int) by omega],by omega,Nat.le_refl _,I2.out.1.size,S3,I2⟩
      ·have hb2z:¬(t:Int)+2*(s:Int)<=(n:Int):=by omega
       by_cases hm:t+s<n
       ·have aB:(t:Int)+(s:Int)<(n:Int):=by omega
        have RN:Runs c t (t+s) (n) dj:=(by obtain⟨i1,u,rfl⟩:=I.out;exact i1.runs hs0 (by omega) (by omega) (by omega));have a1:=HSY.out (n-t) t (t+s) (n) dj wr (Nat.le_refl _) (by omega) (by omega) (by omega) (by rw[Array.size_range];exact a7.symm) S1.out RN;rw[a7,show((t+s:Nat):Int)=(t:Int)+(s:Int) by omega]at a1;clear S1 RN;go_wp2_with (go_at_fn 174;refine a1.mono ?_;rintro e w3 ⟨rfl,S2⟩);obtain⟨d2,s1,s2,s3⟩:=S2;have S3:Aside (SWK enc k w0 blk 0 d2 w3):=s1;have L2:Aside (Lay c (s*2) n d2):=(by show Lay _ _ _ _;obtain⟨i1,u,rfl⟩:=I.out;exact(i1.step hs0 (by omega) (by omega) (by omega) s2 s3).done);clear s1 s2 s3 a1;go_roundg (n-s*2);case measure=>omega
        case rel=>exact⟨s*2,d2,by rw[show((s*2:Nat):Int)=(s:Int)*2 by omega],by omega,Nat.le_refl _,L2.out.size,S3,L2⟩
       ·have aB:¬(t:Int)+(s:Int)<(n:Int):=by omega
        have L2:Aside (Lay c (s*2) n dj):=(by show Lay _ _ _ _;obtain⟨i1,u,rfl⟩:=I.out;exact i1.tail hs0 (by omega) (by omega));go_wp2;go_roundg (n-s*2);case measure=>omega
        case rel=>exact⟨s*2,dj,by rw[show((s*2:Nat):Int)=(s:Int)*2 by omega],by omega,Nat.le_refl _,a7,S1,L2⟩
    ·have a8:¬(s:Int)<(n:Int):=by omega
     go_wp2;go_end0;exact⟨rfl,dk,S1.out,L.out.done HC.out (by omega)⟩
set_option maxHeartbeats 800000 in
theorem ADX{P:Program}{ρ:Ren}{k:Nat}(E:StEB P k)(LI:SlLaysF0.n20 P ρ)(rf:ρ.f 20=173)(rt:ρ.t 24=114)(fI:P.funcs[173]?=Tryz.prog.funcs[173]?)(fS:P.funcs[114]?=Tryz.prog.funcs[114]?)(enc:Nat->List Value)(c:Nat->Nat->Int)(hc:TPre c)(g:Nat)(eg:∀args w,(callFunc g args).run P w=.ok (.enter g args) w)(blk cap n:Nat)(w0:World)(a1:CmpLays P g #[] enc k c blk 0 n w0)(R:RowK enc k w0 blk 0 (Array.range n))(a5:n<4611686018427387904) :
 Calls P 114 #[.slice (some ⟨blk,0,none⟩) n cap,.func (.func g) #[] #[]] w0 λe w'=>e=.returned (.tuple #[])/\AAv enc k w0 blk n c w':=by
 have a2:=ADW E LI rf rt fI enc c hc g eg blk cap n w0 a1 R a5;have t3:=E.t3;have a3:=E.a3;have z3:=E.z3;have v3:=E.v3;have t4:=E.t4;have a4:=E.a4;have z4:=E.z4;have v4:=E.v4;have tS:=E.tS;have aS:=E.aS;have zS:=E.zS;have vS:=E.vS;have tF:=E.tF;have aF:=E.aF;have zF:=E.zF;have vF:=E.vF;have tU:=E.tU;have aU:=E.aU;have zU:=E.zU;have vU:=E.vU;have t0:=E.t0;have a0:=E.a0;have z0:=E.z0;have v0:=E.v0;have aE:=E.aE;have zE:=E.zE;have mixed:=E.mixed;have FG:=fS.trans Tryz.func114;have eB:∀args w,(callFunc 148 args).run P w=.ok (.enter 148 args) w:=enters_of (E.f_stab.trans Tryz.func148) (by kernel_rfl) rfl;clear E LI rf rt fI a1 R hc;go_enter FG,Tryz.ntmps114;go_wp2_with (go_at_fn 148;refine a2.mono ?_;rintro e w1 ⟨rfl,S2⟩);go_end0;exact⟨rfl,S2⟩
end Go.Proofs.YthoidhehmmcgnaaGreat
