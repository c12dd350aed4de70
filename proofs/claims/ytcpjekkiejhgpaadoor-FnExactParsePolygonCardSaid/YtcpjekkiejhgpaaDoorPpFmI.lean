import Derived.Test.YtcpjekkiejhgpaaDoorPpRkB
import Derived.Test.YtcpjekkiejhgpaaDoorPpStr
import Derived.Lib.ItoaLen
namespace Go.Proofs.YtcpjekkiejhgpaaDoor
set_option linter.unusedVariables false
set_option linter.unusedSimpArgs false
open Go.RowKit
theorem Fu {n:Int} (h:0<=n):n.tdiv 10=((n.toNat/10:Nat):Int):=by
 rw [Int.tdiv_eq_ediv_of_nonneg h];omega
theorem Dv {n:Int} (h:n<0):n.tdiv 10=-((n.natAbs/10:Nat):Int):=by
 obtain ⟨m,rfl⟩:∃ m:Int,n=-m:=⟨-n,by omega⟩
 rw [Int.neg_tdiv,Int.tdiv_eq_ediv_of_nonneg (by omega)];omega
theorem Lq {n:Int} (h:n<0):n.tmod 10=-((n.natAbs%10:Nat):Int):=by
 have:=Int.tmod_add_mul_tdiv n 10
 rw [Dv h] at this
 omega
theorem Lr {n:Int} (h:0<=n):n.tmod 10=((n.toNat%10:Nat):Int):=by
 have:=Int.tmod_add_mul_tdiv n 10
 rw [Fu h] at this
 omega
theorem NK {u:Nat} (h:u<10):Lib.decDigits u=[UInt8.ofNat (48+u)]:=by rw [Lib.decDigits,dif_pos h]
theorem NL {u:Nat} (h:¬ u<10):Lib.decDigits u=Lib.decDigits (u/10)++[UInt8.ofNat (48+u%10)]:=by rw [Lib.decDigits,dif_neg h]
def chB (u:Nat):ByteArray:=⟨#[UInt8.ofNat (48+u)]⟩
theorem Kb {n:Int} (h:n<0) (h2:-10<n):AJ n=(⟨#[45]⟩:ByteArray)++chB n.natAbs:=by
 apply bx
 rw [Bk]
 simp only [AJ,Lib.itoa,if_pos h]
 rw [NK (by omega)]
 rfl
theorem Kc {n:Int} (h:n<=-10):AJ n=AJ (n.tdiv 10)++chB (n.natAbs%10):=by
 have e:=Dv (show n<0 by omega)
 have hq:n.tdiv 10<0:=by omega
 apply bx
 rw [Bk]
 simp only [AJ,Lib.itoa,if_pos (show n<0 by omega),if_pos hq]
 rw [NL (by omega),show (n.tdiv 10).natAbs=n.natAbs/10 by omega]
 simp [chB]
theorem Kd {n:Int} (h:0<=n) (h2:n<=9):AJ n=chB n.toNat:=by
 apply bx
 simp only [AJ,Lib.itoa,if_neg (show ¬ n<0 by omega),chB]
 rw [NK (by omega)]
theorem Ke {n:Int} (h:9<n):AJ n=AJ (n.tdiv 10)++chB (n.toNat%10):=by
 have e:=Fu (show 0<=n by omega)
 apply bx
 rw [Bk]
 simp only [AJ,Lib.itoa,if_neg (show ¬ n<0 by omega),if_neg (show ¬ n.tdiv 10<0 by omega)]
 rw [NL (by omega),show (n.tdiv 10).toNat=n.toNat/10 by omega]
 simp [chB]
theorem Dw {n:Int} (h:-9223372036854775808<=n/\n<=9223372036854775807):(AJ n).size<=21:=by
 have:=Lib.itoa_length_le n h.1 h.2
 simpa [AJ,ByteArray.size] using this
theorem Ls (a b c:ByteArray):a++b++c=a++(b++c):=by apply bx;simp only [Bk,List.append_assoc]
theorem M5 (a:ByteArray):a++(⟨#[]⟩:ByteArray)=a:=by apply bx;simp [Bk]
theorem w8 {x:Int} (h0:0<=x) (h1:x<256):IntKind.u8.wrap (IntKind.i64.wrap x)=x:=by
 rw [AS (by omega) (by omega),IntKind.wrap]
 simp [IntKind.signed,IntKind.bits]
 omega
theorem Jy {x:Int} {u:Nat} (h:x=((48+u:Nat):Int)):(⟨([UInt8.ofNat x.toNat]:List UInt8).toArray⟩:ByteArray)=chB u:=by subst h;rfl
def Bl (B:Nat):Con:={ ι:=Int,pre:=λ n=>0<B/\(-9223372036854775808<=n/\n<=9223372036854775807)/\(n<0->n.natAbs<B),args:=λ n=>[.one (.im (.int .i64 n))],res:=λ n=>⟨false,[none],[.im (.string (AJ n))]⟩ }
set_option maxRecDepth 100000 in
theorem MX (B:Nat) (hB:(Bl B).Ok Tryd.prog 29):(Bl (B+1)).Ok Tryd.prog 29:=by
 refine fok (X:=⟨tt,[(29,(Bl B))],[],44,[]⟩) mixed DJ (CTok.cons hB (CTok.nil _) (λ h=>Bool.noConfusion h)) Tryd.func29 (λ (i:Int)=>[(6,.mk 1 (Int×ByteArray) (λ x1=>{ tm:=[(0,tI x1.1),(3,.one (.one (.im (Value.string x1.2))))],en:=[] }) (λ x1=>0<=x1.1/\x1.1<=i/\AJ i=AJ x1.1++x1.2/\x1.2.size<=21) (λ x1=>x1.1.toNat) (λ _=>[]))]) ?_
 intro (n:Int) hpre
 have hpre:0<B+1/\(-9223372036854775808<=n/\n<=9223372036854775807)/\(n<0->n.natAbs<B+1):=hpre
 refine DI (q:=let Z6:=wR (Int.tdiv n (10:Int));let Z5:=(10:Int)≠0;let Z4:=IntKind.u8.wrap (wR ((48:Int)-n));let Z2:=IntKind.u8.wrap (wR ((48:Int)-(Int.tmod n (10:Int))));ifB ((decide (n<(0:Int)))) (Z5/\(ifB ((Z6 == (0:Int))) ((0<=Z4/\Z4<256)/\(((⟨#[45]⟩:ByteArray).size+(⟨([UInt8.ofNat (Z4.toNat)]:List UInt8).toArray⟩:ByteArray).size<=1125899906842624)/\((Value.string ((⟨#[45]⟩:ByteArray)++(⟨([UInt8.ofNat (Z4.toNat)]:List UInt8).toArray⟩:ByteArray))=Value.string (AJ n))))) (Z5/\(∃ i1:Int,[DA.one (cI Z6)]=(Bl B).args i1/\(Bl B).pre i1/\(Z5/\((0<=Z2/\Z2<256)/\(((AJ i1).size+(⟨([UInt8.ofNat (Z2.toNat)]:List UInt8).toArray⟩:ByteArray).size<=1125899906842624)/\((Value.string (AJ i1++(⟨([UInt8.ofNat (Z2.toNat)]:List UInt8).toArray⟩:ByteArray))=Value.string (AJ n)))))))))) ((∃ x1:Int×ByteArray,(0<=x1.1/\x1.1<=n/\AJ n=AJ x1.1++x1.2/\x1.2.size<=21)/\((vI n=vI x1.1)/\(Value.string (⟨#[]⟩:ByteArray)=Value.string x1.2)))/\∀ x1:Int×ByteArray,let Z3:=IntKind.u8.wrap (wR ((48:Int)+x1.1));let Z1:=IntKind.u8.wrap (wR ((48:Int)+(Int.tmod x1.1 (10:Int))));(0<=x1.1/\x1.1<=n/\AJ n=AJ x1.1++x1.2/\x1.2.size<=21)->(ifB ((decide (x1.1>(9:Int)))) (Z5/\((0<=Z1/\Z1<256)/\(((⟨([UInt8.ofNat (Z1.toNat)]:List UInt8).toArray⟩:ByteArray).size+x1.2.size<=1125899906842624)/\(Z5/\(∃ y2:Int×ByteArray,(0<=y2.1/\y2.1<=n/\AJ n=AJ y2.1++y2.2/\y2.2.size<=21)/\(y2.1.toNat<x1.1.toNat)/\((vI (wR (Int.tdiv x1.1 (10:Int)))=vI y2.1)/\(Value.string ((⟨([UInt8.ofNat (Z1.toNat)]:List UInt8).toArray⟩:ByteArray)++x1.2)=Value.string y2.2))))))) ((0<=Z3/\Z3<256)/\(((⟨([UInt8.ofNat (Z3.toNat)]:List UInt8).toArray⟩:ByteArray).size+x1.2.size<=1125899906842624)/\((Value.string ((⟨([UInt8.ofNat (Z3.toNat)]:List UInt8).toArray⟩:ByteArray)++x1.2)=Value.string (AJ n)))))))) (by kernel_rfl) ?_
 conv=>zeta
 delta ifB vI wR
 have hlen:=Dw hpre.2.1
 obtain ⟨-,⟨hp1,hp2⟩,hp3⟩:=hpre
 refine ⟨λ c1=>?_,λ c1=>?_⟩
 ·try simp only [nrm] at c1
  have ht:=Dv c1
  have hm:=Lq c1
  have hw:IntKind.i64.wrap (Int.tdiv n 10)=Int.tdiv n 10:=AS (by omega) (by omega)
  refine ao (by first|rfl|(simp;done)|(rw [e8];omega)) λ o2=>?_
  refine ⟨λ c3=>?_,λ c3=>?_⟩
  ·try simp only [nrm] at c3
   have h10:-10<n:=by rw [hw] at c3;omega
   have e8:IntKind.u8.wrap (IntKind.i64.wrap ((48:Int)-n))=((48+n.natAbs:Nat):Int):=by rw [w8 (by omega) (by omega)];omega
   refine ao (by first|rfl|(simp;done)|(rw [e8];omega)) λ o4=>?_
   refine ao (by show 1+1<=1125899906842624;omega) λ o5=>?_
   rw [Kb c1 h10,Jy e8]
  try simp only [nrm] at c3
  have h10:n<=-10:=by rw [hw] at c3;omega
  have e8:IntKind.u8.wrap (IntKind.i64.wrap ((48:Int)-Int.tmod n 10))=((48+n.natAbs%10:Nat):Int):=by rw [w8 (by omega) (by omega)];omega
  refine ao (by first|rfl|(simp;done)|(rw [e8];omega)) λ o7=>?_
  refine ⟨(IntKind.i64.wrap (Int.tdiv n (10:Int))),by
   rfl,by
   try dsimp only [(Bl B)]
   exact ⟨by omega,⟨by rw [hw];omega,by rw [hw];omega⟩,λ _=>by rw [hw];omega⟩,?_⟩
  refine ao (by first|rfl|(simp;done)|(rw [e8];omega)) λ o11=>?_
  refine ao (by first|rfl|(simp;done)|(rw [e8];omega)) λ o12=>?_
  refine ao (by rw [hw];have:=Dw (n:=n.tdiv 10) (by omega);show (AJ (n.tdiv 10)).size+1<=1125899906842624;omega) λ o13=>?_
  rw [hw,Kc h10,Jy e8]
 try simp only [nrm] at c1
 refine ⟨⟨(n,(⟨#[]⟩:ByteArray)),by
  exact ⟨by omega,Int.le_refl _,(M5 _).symm,by show 0<=21;omega⟩,?_⟩,?_⟩
 ·exact ⟨rfl,rfl⟩
 rintro ⟨m,z⟩ hki15
 have hki15:0<=m/\m<=n/\AJ n=AJ m++z/\z.size<=21:=hki15
 refine And.symm ⟨λ c19=>?_,λ c19=>?_⟩
 ·try simp only [nrm] at c19
  have e8:IntKind.u8.wrap (IntKind.i64.wrap ((48:Int)+m))=((48+m.toNat:Nat):Int):=by rw [w8 (by omega) (by omega)];omega
  refine ao (a:=0<=(IntKind.u8.wrap (IntKind.i64.wrap ((48:Int)+m)))/\(IntKind.u8.wrap (IntKind.i64.wrap ((48:Int)+m)))<256) (by first|rfl|(simp;done)|(rw [e8];omega)) λ o29=>?_
  refine ao (a:=(⟨([UInt8.ofNat ((IntKind.u8.wrap (IntKind.i64.wrap ((48:Int)+m))).toNat)]:List UInt8).toArray⟩:ByteArray).size+z.size<=1125899906842624) (by show 1+z.size<=1125899906842624;omega) λ o30=>?_
  show Value.string ((⟨([UInt8.ofNat ((IntKind.u8.wrap (IntKind.i64.wrap ((48:Int)+m))).toNat)]:List UInt8).toArray⟩:ByteArray)++z)=Value.string (AJ n)
  rw [hki15.2.2.1,Kd hki15.1 (by omega),Jy e8]
 try simp only [nrm] at c19
 have ht:=Fu hki15.1
 have hm:=Lr hki15.1
 have hw:IntKind.i64.wrap (Int.tdiv m 10)=Int.tdiv m 10:=AS (by omega) (by omega)
 have e8:IntKind.u8.wrap (IntKind.i64.wrap ((48:Int)+Int.tmod m 10))=((48+m.toNat%10:Nat):Int):=by rw [w8 (by omega) (by omega)];omega
 have hq:AJ n=AJ (m.tdiv 10)++(chB (m.toNat%10)++z):=by rw [hki15.2.2.1,Ke (by omega),Ls]
 have hz:(chB (m.toNat%10)++z).size<=21:=by rw [hq,ByteArray.size_append] at hlen;omega
 refine ao (by first|rfl|(simp;done)|(rw [e8];omega)) λ o20=>?_
 refine ao (a:=0<=(IntKind.u8.wrap (IntKind.i64.wrap ((48:Int)+(Int.tmod m (10:Int)))))/\(IntKind.u8.wrap (IntKind.i64.wrap ((48:Int)+(Int.tmod m (10:Int)))))<256) (by first|rfl|(simp;done)|(rw [e8];omega)) λ o21=>?_
 refine ao (a:=(⟨([UInt8.ofNat ((IntKind.u8.wrap (IntKind.i64.wrap ((48:Int)+(Int.tmod m (10:Int))))).toNat)]:List UInt8).toArray⟩:ByteArray).size+z.size<=1125899906842624) (by show 1+z.size<=1125899906842624;omega) λ o22=>?_
 refine ao (by first|rfl|(simp;done)|(rw [e8];omega)) λ o23=>?_
 refine ⟨(m.tdiv 10,chB (m.toNat%10)++z),by
  exact ⟨by omega,by omega,hq,hz⟩,by
  first|omega|(simp;omega),?_⟩
 refine ⟨?_,?_⟩
 ·show Value.int .i64 (IntKind.i64.wrap (Int.tdiv m (10:Int)))=Value.int .i64 (m.tdiv 10)
  rw [hw]
 show Value.string ((⟨([UInt8.ofNat ((IntKind.u8.wrap (IntKind.i64.wrap ((48:Int)+(Int.tmod m (10:Int))))).toNat)]:List UInt8).toArray⟩:ByteArray)++z)=Value.string (chB (m.toNat%10)++z)
 rw [Jy e8]
theorem E5:∀ B:Nat,(Bl B).Ok Tryd.prog 29
 | 0=>⟨⟨_,Tryd.func29,by decide,rfl⟩,λ _=>Nat.le_of_ble_eq_true rfl,λ n hp=>absurd hp.1 (Nat.lt_irrefl _),λ h=>by cases h⟩
 | B+1=>MX B (E5 B)
theorem Fv:AI.Ok Tryd.prog 29:=⟨(E5 9223372036854775809).enter,(E5 9223372036854775809).small,λ n hp F w us mb h=>((E5 9223372036854775809).calls n ⟨by omega,hp,λ h=>by have:=hp.1;omega⟩ F w us mb h).mono λ e w' ⟨rs,bs,he,p⟩=>⟨rs,bs,he,⟨p.res,p.nd,p.fresh,p.turned,p.os,p.tape,p.output,p.size,p.keep⟩⟩,λ h=>by cases h⟩
end Go.Proofs.YtcpjekkiejhgpaaDoor
