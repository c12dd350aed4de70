import Derived.Test.YtcpjekkiejhgpaaGreatDoorPsRkS4
import Derived.Test.YtcpjekkiejhgpaaGreatDoorPsPsc
namespace Go.Proofs.YtcpjekkiejhgpaaGreatDoor
set_option maxRecDepth 100000
set_option linter.unusedVariables false
set_option linter.unusedSimpArgs false
open Go.RowKit
theorem C6 (c:UInt8) (s:ByteArray):0<(AB c s).length:=by rw [NN,List.length_append];simp
theorem Iu (s:ByteArray):(AN s).length<=s.size+1:=by
 have:=Bj 10 s
 unfold AN
 split
 ·rw [List.length_take];omega
 ·exact this
theorem OI {s l:ByteArray} (h:l ∈ AN s):l.size<=s.size:=by
 unfold AN at h
 split at h
 ·exact Av (List.mem_of_mem_take h)
 ·exact Av h
def Dr:Con:={ ι:=ByteArray,pre:=λ i=>i.size<=1073741824,args:=λ i=>[.one (.im (.string i))],res:=λ i=>⟨false,[none],[.own 9 [.str] (AK (AN i))]⟩ }
theorem OJ:Dr.Ok Tryz.prog 12:=by
 refine fok (X:=⟨tt,[(30,Bk)],[17],19,[]⟩) mixed BG (CTok.cons Jp (CTok.nil _)) Tryz.func12 (λ _=>[]) ?_
 intro (s:ByteArray) hpre
 have hpre:s.size<=1073741824:=hpre
 refine BF (q:=∃ i1:ByteArray×UInt8,let Z2:=AK (AB i1.2 i1.1);let Z1:=wR ((nI (Z2.length))-(1:Int));[DA.one (DC.im (Value.string s)),DA.one (DC.im (Value.string (⟨#[10]⟩:ByteArray)))]=Bk.args i1/\Bk.pre i1/\((0<=Z1/\Z1<(Z2.length:Int))/\((Z1.toNat<Z2.length)/\(ifB ((((((Z2.getD (Z1.toNat) []).getD 0 (.int 0))).s).toList == (⟨#[]⟩:ByteArray).toList)) ((Nat.beq 1 1=true)/\(((0:Int)=0)/\((0<=Z1)/\((Z1<=(Z2.length:Int))/\(((Z2.take (Z1.toNat))=AK (AN s))))))) ((AK (AB i1.2 i1.1)=AK (AN s))))))) (by kernel_rfl) ?_
 conv=>zeta
 delta ifB wR nI
 have hp:=C6 10 s
 have hwl:=Bj 10 s
 have hsl:=AO (AB 10 s)
 have hw:IntKind.i64.wrap (((AK (AB 10 s)).length:Int)-1)=(((AB 10 s).length-1:Nat):Int):=by rw [hsl,AG (by omega) (by omega)];omega
 have hn:(IntKind.i64.wrap (((AK (AB 10 s)).length:Int)-1)).toNat=(AB 10 s).length-1:=by rw [hw];omega
 refine ⟨(s,10),by
  rfl,by
  show s.size<=1073741824
  first|trivial|(first|omega|assumption|exact hpre.1|exact hpre.2|(simp;done)),?_⟩
 refine ao (a:=0<=(IntKind.i64.wrap ((((AK (AB 10 s)).length:Nat):Int)-(1:Int)))/\(IntKind.i64.wrap ((((AK (AB 10 s)).length:Nat):Int)-(1:Int)))<((AK (AB 10 s)).length:Int)) (by first|rfl|omega|(simp;done)|(simp;omega)) λ o4=>?_
 refine ao (a:=(IntKind.i64.wrap ((((AK (AB 10 s)).length:Nat):Int)-(1:Int))).toNat<(AK (AB 10 s)).length) (by first|rfl|omega|(simp;done)|(simp;omega)) λ o5=>?_
 refine And.symm ⟨λ c6=>?_,λ c6=>?_⟩
 ·try dsimp only at c6
  try simp only [nrm] at c6
  rw [hn,Al (by omega)] at c6
  have hl:AN s=AB 10 s:=if_neg (BO c6)
  show AK (AB 10 s)=AK (AN s)
  rw [hl]
 try dsimp only at c6
 try simp only [nrm] at c6
 rw [hn,Al (by omega)] at c6
 have hl:AN s=(AB 10 s).take ((AB 10 s).length-1):=if_pos (CB c6)
 refine ao (by first|rfl|omega|(simp;done)|(simp;omega)) λ o7=>?_
 refine ao (by first|rfl|omega|(simp;done)|(simp;omega)) λ o8=>?_
 refine ao (a:=0<=(IntKind.i64.wrap ((((AK (AB 10 s)).length:Nat):Int)-(1:Int)))) (by first|rfl|omega|(simp;done)|(simp;omega)) λ o9=>?_
 refine ao (a:=(IntKind.i64.wrap ((((AK (AB 10 s)).length:Nat):Int)-(1:Int)))<=((AK (AB 10 s)).length:Int)) (by first|rfl|omega|(simp;done)|(simp;omega)) λ o10=>?_
 show ((AK (AB 10 s)).take ((IntKind.i64.wrap ((((AK (AB 10 s)).length:Nat):Int)-(1:Int))).toNat))=AK (AN s)
 rw [hn,hl];exact List.map_take.symm
def Ds:Con:={ ι:=ByteArray,pre:=λ i=>i.size<=1073741824,args:=λ i=>[.one (.im (.string i))],res:=λ i=>⟨false,[none],[.own 9 [.str] (AK (AN i))]⟩ }
theorem OK:Ds.Ok Tryz.prog 9:=by
 refine fok (X:=⟨tt,[(23,BC)],[17],19,[]⟩) mixed BG (CTok.cons HN (CTok.nil _)) Tryz.func9 (λ _=>[]) ?_
 intro (s:ByteArray) hpre
 have hpre:s.size<=1073741824:=hpre
 refine BF (q:=∃ i1:ByteArray×UInt8,let Z2:=AK (AB i1.2 i1.1);let Z1:=wR ((nI (Z2.length))-(1:Int));[DA.one (DC.im (Value.string s)),DA.one (DC.im (Value.string (⟨#[10]⟩:ByteArray)))]=BC.args i1/\BC.pre i1/\((0<=Z1/\Z1<(Z2.length:Int))/\((Z1.toNat<Z2.length)/\(ifB ((((((Z2.getD (Z1.toNat) []).getD 0 (.int 0))).s).toList == (⟨#[]⟩:ByteArray).toList)) ((Nat.beq 1 1=true)/\(((0:Int)=0)/\((0<=Z1)/\((Z1<=(Z2.length:Int))/\(((Z2.take (Z1.toNat))=AK (AN s))))))) ((AK (AB i1.2 i1.1)=AK (AN s))))))) (by kernel_rfl) ?_
 conv=>zeta
 delta ifB wR nI
 have hp:=C6 10 s
 have hwl:=Bj 10 s
 have hsl:=AO (AB 10 s)
 have hw:IntKind.i64.wrap (((AK (AB 10 s)).length:Int)-1)=(((AB 10 s).length-1:Nat):Int):=by rw [hsl,AG (by omega) (by omega)];omega
 have hn:(IntKind.i64.wrap (((AK (AB 10 s)).length:Int)-1)).toNat=(AB 10 s).length-1:=by rw [hw];omega
 refine ⟨(s,10),by
  rfl,by
  show s.size<=1073741824
  first|trivial|(first|omega|assumption|exact hpre.1|exact hpre.2|(simp;done)),?_⟩
 refine ao (a:=0<=(IntKind.i64.wrap ((((AK (AB 10 s)).length:Nat):Int)-(1:Int)))/\(IntKind.i64.wrap ((((AK (AB 10 s)).length:Nat):Int)-(1:Int)))<((AK (AB 10 s)).length:Int)) (by first|rfl|omega|(simp;done)|(simp;omega)) λ o4=>?_
 refine ao (a:=(IntKind.i64.wrap ((((AK (AB 10 s)).length:Nat):Int)-(1:Int))).toNat<(AK (AB 10 s)).length) (by first|rfl|omega|(simp;done)|(simp;omega)) λ o5=>?_
 refine And.symm ⟨λ c6=>?_,λ c6=>?_⟩
 ·try dsimp only at c6
  try simp only [nrm] at c6
  rw [hn,Al (by omega)] at c6
  have hl:AN s=AB 10 s:=if_neg (BO c6)
  show AK (AB 10 s)=AK (AN s)
  rw [hl]
 try dsimp only at c6
 try simp only [nrm] at c6
 rw [hn,Al (by omega)] at c6
 have hl:AN s=(AB 10 s).take ((AB 10 s).length-1):=if_pos (CB c6)
 refine ao (by first|rfl|omega|(simp;done)|(simp;omega)) λ o7=>?_
 refine ao (by first|rfl|omega|(simp;done)|(simp;omega)) λ o8=>?_
 refine ao (a:=0<=(IntKind.i64.wrap ((((AK (AB 10 s)).length:Nat):Int)-(1:Int)))) (by first|rfl|omega|(simp;done)|(simp;omega)) λ o9=>?_
 refine ao (a:=(IntKind.i64.wrap ((((AK (AB 10 s)).length:Nat):Int)-(1:Int)))<=((AK (AB 10 s)).length:Int)) (by first|rfl|omega|(simp;done)|(simp;omega)) λ o10=>?_
 show ((AK (AB 10 s)).take ((IntKind.i64.wrap ((((AK (AB 10 s)).length:Nat):Int)-(1:Int))).toNat))=AK (AN s)
 rw [hn,hl];exact List.map_take.symm
def lnK (t:ByteArray) (k:Nat):ByteArray:=(AN t).getD k ⟨#[]⟩
theorem Pi (t:ByteArray) (k:Nat):(lnK t k).size<=t.size:=BM (λ x hx=>OI hx) k
theorem RB {t:ByteArray} {k:Nat} (hk:k<(AN t).length) (h:Au (lnK t k) 32=kwA):okL (lnK t k)=(okV (Au (Ao (lnK t k) 32) 32) && okV (Ao (Ao (lnK t k) 32) 32))/\stI t (k+1)=⟨vOf (Au (Ao (lnK t k) 32) 32),vOf (Ao (Ao (lnK t k) 32) 32),(stI t k).robot,(stI t k).obst,(stI t k).tables⟩:=
 ⟨if_pos h,(Fo hk).trans (if_pos h)⟩
theorem RD {t:ByteArray} {k:Nat} (hk:k<(AN t).length) (h1:Au (lnK t k) 32≠kwA) (h:Au (lnK t k) 32=kwB):okL (lnK t k)=okP (Ao (lnK t k) 32)/\stI t (k+1)=⟨(stI t k).low,(stI t k).high,CJ (Ao (lnK t k) 32),(stI t k).obst,(stI t k).tables⟩:=
 ⟨(if_neg h1).trans (if_pos h),(Fo hk).trans ((if_neg h1).trans (if_pos h))⟩
theorem RE {t:ByteArray} {k:Nat} (hk:k<(AN t).length) (h1:Au (lnK t k) 32≠kwA) (h2:Au (lnK t k) 32≠kwB) (h:Au (lnK t k) 32=kwC):okL (lnK t k)=okP (Ao (lnK t k) 32)/\stI t (k+1)=⟨(stI t k).low,(stI t k).high,(stI t k).robot,(stI t k).obst++[CJ (Ao (lnK t k) 32)],(stI t k).tables⟩:=
 ⟨(if_neg h1).trans ((if_neg h2).trans (if_pos h)),(Fo hk).trans ((if_neg h1).trans ((if_neg h2).trans (if_pos h)))⟩
theorem RF {t:ByteArray} {k:Nat} (hk:k<(AN t).length) (h1:Au (lnK t k) 32≠kwA) (h2:Au (lnK t k) 32≠kwB) (h3:Au (lnK t k) 32≠kwC) (h:Au (lnK t k) 32=kwD):okL (lnK t k)=okV (Ao (lnK t k) 32)/\stI t (k+1)=⟨(stI t k).low,(stI t k).high,(stI t k).robot,(stI t k).obst,(stI t k).tables++[vOf (Ao (lnK t k) 32)]⟩:=
 ⟨(if_neg h1).trans ((if_neg h2).trans ((if_neg h3).trans (if_pos h))),(Fo hk).trans ((if_neg h1).trans ((if_neg h2).trans ((if_neg h3).trans (if_pos h))))⟩
theorem RG {t:ByteArray} {k:Nat} (h1:Au (lnK t k) 32≠kwA) (h2:Au (lnK t k) 32≠kwB) (h3:Au (lnK t k) 32≠kwC) (h:Au (lnK t k) 32≠kwD):okL (lnK t k)=false:=
 (if_neg h1).trans ((if_neg h2).trans ((if_neg h3).trans (if_neg h)))
theorem Ei {t:ByteArray} {k:Nat} (hk:k<(AN t).length) (h:okL (lnK t k)=false):okT t=false:=Pg hk h
theorem Fq {t:ByteArray} {k:Nat} (hk:k<(AN t).length):((AN t).take (k+1)).all okL=(((AN t).take k).all okL && okL (lnK t k)):=by
 rw [List.take_succ_eq_append_getElem hk,List.all_append]
 simp [lnK,List.getD,hk]
theorem QK (s:Scn) (l:ByteArray):(rdI s l).obst.length<=s.obst.length+1/\(rdI s l).tables.length<=s.tables.length+1:=by
 unfold rdI
 repeat' split
 all_goals simp
theorem QL (s:Scn) (l:ByteArray):(rdR s l).obst.length<=s.obst.length+1/\(rdR s l).tables.length<=s.tables.length+1:=by
 unfold rdR
 repeat' split
 all_goals simp
theorem Iv {f:Scn->ByteArray->Scn} (hf:∀ s l,(f s l).obst.length<=s.obst.length+1/\(f s l).tables.length<=s.tables.length+1):∀ (L:List ByteArray) (s:Scn),(L.foldl f s).obst.length<=s.obst.length+L.length/\(L.foldl f s).tables.length<=s.tables.length+L.length
 | [],s=>⟨Nat.le_refl _,Nat.le_refl _⟩
 | l::r,s=>by
  have h1:=Iv hf r (f s l)
  have h2:=hf s l
  rw [List.foldl_cons,List.length_cons]
  omega
theorem DH (t:ByteArray) (k:Nat):(stI t k).obst.length<=k/\(stI t k).tables.length<=k:=by
 have:=Iv QK ((AN t).take k) C5
 have h2:((AN t).take k).length<=k:=by rw [List.length_take];omega
 have h3:C5.obst.length=0/\C5.tables.length=0:=⟨rfl,rfl⟩
 unfold stI;omega
theorem AR (t:ByteArray) (k:Nat):(stR t k).obst.length<=k/\(stR t k).tables.length<=k:=by
 have:=Iv QL ((AN t).take k) C5
 have h2:((AN t).take k).length<=k:=by rw [List.length_take];omega
 have h3:C5.obst.length=0/\C5.tables.length=0:=⟨rfl,rfl⟩
 unfold stR;omega
theorem AA (l:List (List V2)) (p:List V2):AM l++[[Dat.sl (AD p)]]=AM (l++[p]):=by simp [AM]
theorem AF (l:List V2) (v:V2):AD l++[[Dat.int v.1,Dat.int v.2]]=AD (l++[v]):=by simp [AD,I1]
def Cm:Con:={ ι:=ByteArray,pre:=λ i=>i.size<=1073741824,args:=λ i=>[.one (.im (.string i))],res:=λ i=>⟨true,[some 7,none],[rcI ((Ab i).low.1),rcI ((Ab i).low.2),rcI ((Ab i).high.1),rcI ((Ab i).high.2),.own 23 [.int,.int] (AD (Ab i).robot),.own 24 [.sl 23 [.int,.int]] (AM (Ab i).obst),.own 23 [.int,.int] (AD (Ab i).tables),rcB (okT i)]⟩ }
set_option maxHeartbeats 1600000 in
theorem Pj:Cm.Ok Tryz.prog 5:=by
 refine fok (X:=⟨tt,[(12,Dr),(31,Bb),(32,BB),(33,Ci),(14,C3),(15,CW)],[7],31,[(13,⟨Tryz.f13.body.getD .skip,Tryz.f13.ntmps,Tryz.f13.results.toList⟩)]⟩) mixed BG (CTok.cons OJ (CTok.cons NP (CTok.cons Ll (CTok.cons PU (CTok.cons OD (CTok.cons Mn (CTok.nil _))))))) (hil:=(InlOk.cons Tryz.func13 (by decide) rfl rfl rfl (InlOk.nil _))) Tryz.func5 (λ (i:ByteArray)=>let Z3:=AN i;let Z1:=Value.slice none 0 0;[(3,.mk 7 (Nat) (λ x1=>let Z2:=stI i x1;{ tm:=[(0,.one (.one (.im (Value.string i)))),(2,tP 1 0),(4,tP 2 0),(9,tX 6),(10,tI ((AK Z3).length:Int)),(11,tI (x1:Int))],en:=[(1,.box [kI (0:Int),kI (0:Int),kI (0:Int),kI (0:Int),.im Z1,.im Z1,.im Z1]),(2,.box [kI (Z2.low.1),kI (Z2.low.2),kI (Z2.high.1),kI (Z2.high.2),.ext 3,.ext 4,.ext 5]),(3,.own 23 [.int,.int] (AD Z2.robot)),(4,.own 24 [.sl 23 [.int,.int]] (AM Z2.obst)),(5,.own 23 [.int,.int] (AD Z2.tables)),(6,.own 9 [.str] (AK Z3))] }) (λ x1=>x1<=Z3.length/\(Z3.take x1).all okL=true) (λ x1=>Z3.length-x1) (λ _=>[]))]) ?_
 intro (t:ByteArray) hpre
 have hpre:t.size<=1073741824:=hpre
 refine BF (q:=let Z33:=(!false);let Z21:=DC.im (Value.string (⟨#[32]⟩:ByteArray));let Z17:=List Dat;let Z10:=Value.string t;let Z5:=AN t;let Z13:=AK Z5;let Z6:=(Z13.length:Int);let Z4:=vI (0:Int);let Z2:=Value.slice none 0 0;let Z1:=(vI (0:Int)=vI ((Ab t).low.1))/\(vI (0:Int)=vI ((Ab t).low.2))/\(vI (0:Int)=vI ((Ab t).high.1))/\(vI (0:Int)=vI ((Ab t).high.2))/\(([]:List Z17)=AD (Ab t).robot)/\(([]:List Z17)=AM (Ab t).obst)/\(([]:List Z17)=AD (Ab t).tables)/\(vB false=vB (okT t));∃ i1:ByteArray,[DA.one (DC.im Z10)]=Dr.args i1/\Dr.pre i1/\((∃ x1:Nat,let Z23:=stI t x1;(x1<=Z5.length/\(Z5.take x1).all okL=true)/\((rf Z10)/\(vI (nI ((AK (AN i1)).length))=vI Z6)/\(vI (0:Int)=vI (x1:Int))/\(rf Z4)/\(rf Z4)/\(rf Z4)/\(rf Z4)/\(rf Z2)/\(rf Z2)/\(rf Z2)/\(vI (0:Int)=vI (Z23.low.1))/\(vI (0:Int)=vI (Z23.low.2))/\(vI (0:Int)=vI (Z23.high.1))/\(vI (0:Int)=vI (Z23.high.2))/\(([]:List Z17)=(AD Z23.robot))/\(([]:List Z17)=(AM Z23.obst))/\(([]:List Z17)=(AD Z23.tables))/\(AK (AN i1)=Z13)))/\∀ x1:Nat,let Z7:=wR ((x1:Int)+(1:Int));let Z3:=stI t x1;let Z19:=Z3.low.2;let Z18:=Z3.low.1;let Z16:=Z3.high.2;let Z15:=Z3.high.1;let Z11:=AD Z3.robot;let Z9:=AM Z3.obst;let Z8:=AD Z3.tables;(x1<=Z5.length/\(Z5.take x1).all okL=true)->(ifB ((decide ((x1:Int)<Z6))) ((0<=(x1:Int)/\(x1:Int)<Z6)/\((x1<Z13.length)/\(∃ i2:ByteArray×UInt8,let Z24:=Au i2.1 i2.2;let Z12:=DC.im (Value.string (Ao i2.1 i2.2));[DA.one (DC.im (Value.string ((((Z13.getD x1 []).getD 0 (.int 0))).s))),DA.one Z21]=Bb.args i2/\Bb.pre i2/\(ifB ((Z24.toList == (⟨#[114,111,111,109]⟩:ByteArray).toList)) (∃ i3:ByteArray×UInt8,[DA.one Z12,DA.one Z21]=Bb.args i3/\Bb.pre i3/\(∃ i4:ByteArray,[DA.one (DC.im (Value.string (Au i3.1 i3.2)))]=BB.args i4/\BB.pre i4/\(∃ i5:ByteArray,[DA.one (DC.im (Value.string (Ao i3.1 i3.2)))]=BB.args i5/\BB.pre i5/\(ifB ((okV i4)) (ifB ((!(okV i5))) Z1 (∃ y2:Nat,let Z25:=stI t y2;(y2<=Z5.length/\(Z5.take y2).all okL=true)/\(Z5.length-y2<Z5.length-x1)/\((rf Z10)/\(rf (vI Z6))/\(vI Z7=vI (y2:Int))/\(rf Z4)/\(rf Z4)/\(rf Z4)/\(rf Z4)/\(rf Z2)/\(rf Z2)/\(rf Z2)/\(vI ((vOf i4).1)=vI (Z25.low.1))/\(vI ((vOf i4).2)=vI (Z25.low.2))/\(vI ((vOf i5).1)=vI (Z25.high.1))/\(vI ((vOf i5).2)=vI (Z25.high.2))/\(Z11=(AD Z25.robot))/\(Z9=(AM Z25.obst))/\(Z8=(AD Z25.tables))/\(rf Z13)))) (ifB Z33 Z1 (∃ y3:Nat,let Z26:=stI t y3;(y3<=Z5.length/\(Z5.take y3).all okL=true)/\(Z5.length-y3<Z5.length-x1)/\((rf Z10)/\(rf (vI Z6))/\(vI Z7=vI (y3:Int))/\(rf Z4)/\(rf Z4)/\(rf Z4)/\(rf Z4)/\(rf Z2)/\(rf Z2)/\(rf Z2)/\(vI ((vOf i4).1)=vI (Z26.low.1))/\(vI ((vOf i4).2)=vI (Z26.low.2))/\(vI ((vOf i5).1)=vI (Z26.high.1))/\(vI ((vOf i5).2)=vI (Z26.high.2))/\(Z11=(AD Z26.robot))/\(Z9=(AM Z26.obst))/\(Z8=(AD Z26.tables))/\(rf Z13)))))))) (ifB ((Z24.toList == (⟨#[114,111,98,111,116]⟩:ByteArray).toList)) (∃ i6:ByteArray,[DA.one Z12]=Ci.args i6/\Ci.pre i6/\(ifB ((okP i6)) (ifB ((!true)) Z1 (∃ y4:Nat,let Z27:=stI t y4;(y4<=Z5.length/\(Z5.take y4).all okL=true)/\(Z5.length-y4<Z5.length-x1)/\((rf Z10)/\(rf (vI Z6))/\(vI Z7=vI (y4:Int))/\(rf Z4)/\(rf Z4)/\(rf Z4)/\(rf Z4)/\(rf Z2)/\(rf Z2)/\(rf Z2)/\(vI Z18=vI (Z27.low.1))/\(vI Z19=vI (Z27.low.2))/\(vI Z15=vI (Z27.high.1))/\(vI Z16=vI (Z27.high.2))/\(AD (CJ i6)=(AD Z27.robot))/\(Z9=(AM Z27.obst))/\(Z8=(AD Z27.tables))/\(rf Z13)))) (ifB Z33 Z1 (∃ y5:Nat,let Z28:=stI t y5;(y5<=Z5.length/\(Z5.take y5).all okL=true)/\(Z5.length-y5<Z5.length-x1)/\((rf Z10)/\(rf (vI Z6))/\(vI Z7=vI (y5:Int))/\(rf Z4)/\(rf Z4)/\(rf Z4)/\(rf Z4)/\(rf Z2)/\(rf Z2)/\(rf Z2)/\(vI Z18=vI (Z28.low.1))/\(vI Z19=vI (Z28.low.2))/\(vI Z15=vI (Z28.high.1))/\(vI Z16=vI (Z28.high.2))/\(AD (CJ i6)=(AD Z28.robot))/\(Z9=(AM Z28.obst))/\(Z8=(AD Z28.tables))/\(rf Z13)))))) (ifB ((Z24.toList == (⟨#[111,98,115,116,97,99,108,101]⟩:ByteArray).toList)) (∃ i7:ByteArray,let Z20:=Z9++([[Dat.sl (AD (CJ i7))]]:List Z17);[DA.one Z12]=Ci.args i7/\Ci.pre i7/\((Z9.length+([[Dat.sl (AD (CJ i7))]]:List Z17).length<=2199023255552)/\(ifB ((okP i7)) (ifB ((!true)) Z1 (∃ y6:Nat,let Z29:=stI t y6;(y6<=Z5.length/\(Z5.take y6).all okL=true)/\(Z5.length-y6<Z5.length-x1)/\((rf Z10)/\(rf (vI Z6))/\(vI Z7=vI (y6:Int))/\(rf Z4)/\(rf Z4)/\(rf Z4)/\(rf Z4)/\(rf Z2)/\(rf Z2)/\(rf Z2)/\(vI Z18=vI (Z29.low.1))/\(vI Z19=vI (Z29.low.2))/\(vI Z15=vI (Z29.high.1))/\(vI Z16=vI (Z29.high.2))/\(Z11=(AD Z29.robot))/\(Z20=(AM Z29.obst))/\(Z8=(AD Z29.tables))/\(rf Z13)))) (ifB Z33 Z1 (∃ y7:Nat,let Z30:=stI t y7;(y7<=Z5.length/\(Z5.take y7).all okL=true)/\(Z5.length-y7<Z5.length-x1)/\((rf Z10)/\(rf (vI Z6))/\(vI Z7=vI (y7:Int))/\(rf Z4)/\(rf Z4)/\(rf Z4)/\(rf Z4)/\(rf Z2)/\(rf Z2)/\(rf Z2)/\(vI Z18=vI (Z30.low.1))/\(vI Z19=vI (Z30.low.2))/\(vI Z15=vI (Z30.high.1))/\(vI Z16=vI (Z30.high.2))/\(Z11=(AD Z30.robot))/\(Z20=(AM Z30.obst))/\(Z8=(AD Z30.tables))/\(rf Z13))))))) (ifB ((Z24.toList == (⟨#[116,97,98,108,101]⟩:ByteArray).toList)) (∃ i8:ByteArray,let Z14:=Z8++([[Dat.int ((vOf i8).1),Dat.int ((vOf i8).2)]]:List Z17);[DA.one Z12]=BB.args i8/\BB.pre i8/\((Z8.length+([[Dat.int ((vOf i8).1),Dat.int ((vOf i8).2)]]:List Z17).length<=2199023255552)/\(ifB ((okV i8)) (ifB ((!true)) Z1 (∃ y8:Nat,let Z31:=stI t y8;(y8<=Z5.length/\(Z5.take y8).all okL=true)/\(Z5.length-y8<Z5.length-x1)/\((rf Z10)/\(rf (vI Z6))/\(vI Z7=vI (y8:Int))/\(rf Z4)/\(rf Z4)/\(rf Z4)/\(rf Z4)/\(rf Z2)/\(rf Z2)/\(rf Z2)/\(vI Z18=vI (Z31.low.1))/\(vI Z19=vI (Z31.low.2))/\(vI Z15=vI (Z31.high.1))/\(vI Z16=vI (Z31.high.2))/\(Z11=(AD Z31.robot))/\(Z9=(AM Z31.obst))/\(Z14=(AD Z31.tables))/\(rf Z13)))) (ifB Z33 Z1 (∃ y9:Nat,let Z32:=stI t y9;(y9<=Z5.length/\(Z5.take y9).all okL=true)/\(Z5.length-y9<Z5.length-x1)/\((rf Z10)/\(rf (vI Z6))/\(vI Z7=vI (y9:Int))/\(rf Z4)/\(rf Z4)/\(rf Z4)/\(rf Z4)/\(rf Z2)/\(rf Z2)/\(rf Z2)/\(vI Z18=vI (Z32.low.1))/\(vI Z19=vI (Z32.low.2))/\(vI Z15=vI (Z32.high.1))/\(vI Z16=vI (Z32.high.2))/\(Z11=(AD Z32.robot))/\(Z9=(AM Z32.obst))/\(Z14=(AD Z32.tables))/\(rf Z13))))))) (ifB Z33 Z1 (∃ y10:Nat,let Z22:=stI t y10;(y10<=Z5.length/\(Z5.take y10).all okL=true)/\(Z5.length-y10<Z5.length-x1)/\((rf Z10)/\(rf (vI Z6))/\(vI Z7=vI (y10:Int))/\(rf Z4)/\(rf Z4)/\(rf Z4)/\(rf Z4)/\(rf Z2)/\(rf Z2)/\(rf Z2)/\(vI Z18=vI (Z22.low.1))/\(vI Z19=vI (Z22.low.2))/\(vI Z15=vI (Z22.high.1))/\(vI Z16=vI (Z22.high.2))/\(Z11=(AD Z22.robot))/\(Z9=(AM Z22.obst))/\(Z8=(AD Z22.tables))/\(rf Z13))))))))))) (∃ i9:Scn,[DA.agg [cI Z18,cI Z19,cI Z15,cI Z16,DC.sl 23 [.int,.int] Z11,DC.sl 24 [.sl 23 [.int,.int]] Z9,DC.sl 23 [.int,.int] Z8]]=C3.args i9/\C3.pre i9/\(ifB ((!(!(AS i9)))) (∃ i10:Scn,[DA.agg [cI Z18,cI Z19,cI Z15,cI Z16,DC.sl 23 [.int,.int] Z11,DC.sl 24 [.sl 23 [.int,.int]] Z9,DC.sl 23 [.int,.int] Z8]]=CW.args i10/\CW.pre i10/\(ifB ((!((A7 i10).toList == t.toList))) Z1 ((vI Z18=vI ((Ab t).low.1))/\(vI Z19=vI ((Ab t).low.2))/\(vI Z15=vI ((Ab t).high.1))/\(vI Z16=vI ((Ab t).high.2))/\(Z11=AD (Ab t).robot)/\(Z9=AM (Ab t).obst)/\(Z8=AD (Ab t).tables)/\(vB true=vB (okT t))))) Z1))))) (by kernel_rfl) ?_
 conv=>zeta
 delta ifB vB vI wR nI
 have hll:=Iu t
 have hsl:=AO (AN t)
 refine ⟨t,by
  rfl,by
  show t.size<=1073741824
  first|(show _<=1073741824;omega)|exact trivial|exact c331,?_⟩
 refine ⟨⟨0,by
  exact ⟨Nat.zero_le _,rfl⟩,?_⟩,?_⟩
 ·refine ⟨rfl,?_,rfl,rfl,rfl,rfl,rfl,rfl,rfl,rfl,?_,?_,?_,?_,?_,?_,?_,rfl⟩
  ·rfl
  ·rfl
  ·rfl
  ·rfl
  ·rfl
  ·rfl
  ·rfl
  rfl
 intro (k:Nat) hki4
 have hki4:k<=(AN t).length/\((AN t).take k).all okL=true:=hki4
 refine And.symm ⟨λ c24=>?_,λ c24=>?_⟩
 ·try simp only [nrm] at c24
  have hk:k=(AN t).length:=by omega
  refine ⟨(stI t k),by
   rfl,by
   first|(show _<=1073741824;omega)|exact trivial|exact c331,?_⟩
  refine And.symm ⟨λ c331=>?_,λ c331=>?_⟩
  ·try simp only [nrm] at c331
   have hno:=Lx (t:=t) (by rw [← hk];exact c331)
   refine ⟨?_,?_,?_,?_,?_,?_,?_,?_⟩
   ·first|(rw [AJ hno];rfl)|(rw [hno])|(rw [AL hyes,← hk])|(rw [hyes])
   ·first|(rw [AJ hno];rfl)|(rw [hno])|(rw [AL hyes,← hk])|(rw [hyes])
   ·first|(rw [AJ hno];rfl)|(rw [hno])|(rw [AL hyes,← hk])|(rw [hyes])
   ·first|(rw [AJ hno];rfl)|(rw [hno])|(rw [AL hyes,← hk])|(rw [hyes])
   ·first|(rw [AJ hno];rfl)|(rw [hno])|(rw [AL hyes,← hk])|(rw [hyes])
   ·first|(rw [AJ hno];rfl)|(rw [hno])|(rw [AL hyes,← hk])|(rw [hyes])
   ·first|(rw [AJ hno];rfl)|(rw [hno])|(rw [AL hyes,← hk])|(rw [hyes])
   first|(rw [AJ hno];rfl)|(rw [hno])|(rw [AL hyes,← hk])|(rw [hyes])
  try simp only [nrm] at c331
  refine ⟨(stI t k),by
   rfl,by
   show AS (stI t k)=true
   first|(show _<=1073741824;omega)|exact trivial|exact c331,?_⟩
  refine ⟨λ c335=>?_,λ c335=>?_⟩
  ·try simp only [nrm] at c335
   have hno:=OH (t:=t) (by rw [← hk];exact BO c335)
   refine ⟨?_,?_,?_,?_,?_,?_,?_,?_⟩
   ·first|(rw [AJ hno];rfl)|(rw [hno])|(rw [AL hyes,← hk])|(rw [hyes])
   ·first|(rw [AJ hno];rfl)|(rw [hno])|(rw [AL hyes,← hk])|(rw [hyes])
   ·first|(rw [AJ hno];rfl)|(rw [hno])|(rw [AL hyes,← hk])|(rw [hyes])
   ·first|(rw [AJ hno];rfl)|(rw [hno])|(rw [AL hyes,← hk])|(rw [hyes])
   ·first|(rw [AJ hno];rfl)|(rw [hno])|(rw [AL hyes,← hk])|(rw [hyes])
   ·first|(rw [AJ hno];rfl)|(rw [hno])|(rw [AL hyes,← hk])|(rw [hyes])
   ·first|(rw [AJ hno];rfl)|(rw [hno])|(rw [AL hyes,← hk])|(rw [hyes])
   first|(rw [AJ hno];rfl)|(rw [hno])|(rw [AL hyes,← hk])|(rw [hyes])
  try simp only [nrm] at c335
  have hyes:=QJ (t:=t) (by rw [← hk];exact c331) (by rw [← hk];exact CB c335)
  refine ⟨?_,?_,?_,?_,?_,?_,?_,?_⟩
  ·first|(rw [AJ hno];rfl)|(rw [hno])|(rw [AL hyes,← hk])|(rw [hyes])
  ·first|(rw [AJ hno];rfl)|(rw [hno])|(rw [AL hyes,← hk])|(rw [hyes])
  ·first|(rw [AJ hno];rfl)|(rw [hno])|(rw [AL hyes,← hk])|(rw [hyes])
  ·first|(rw [AJ hno];rfl)|(rw [hno])|(rw [AL hyes,← hk])|(rw [hyes])
  ·first|(rw [AJ hno];rfl)|(rw [hno])|(rw [AL hyes,← hk])|(rw [hyes])
  ·first|(rw [AJ hno];rfl)|(rw [hno])|(rw [AL hyes,← hk])|(rw [hyes])
  ·first|(rw [AJ hno];rfl)|(rw [hno])|(rw [AL hyes,← hk])|(rw [hyes])
  first|(rw [AJ hno];rfl)|(rw [hno])|(rw [AL hyes,← hk])|(rw [hyes])
 try simp only [nrm] at c24
 have hk:k<(AN t).length:=by omega
 have hlz:=Pi t k
 have hc1:=Fi (lnK t k) 32
 have hc2:=Fi (Ao (lnK t k) 32) 32
 refine ao (by first|rfl|omega|(have:=DH t k;rw [AH];simp only [List.length_cons,List.length_nil];omega)|(have:=DH t k;rw [AE];simp only [List.length_cons,List.length_nil];omega)) λ o25=>?_
 refine ao (by first|rfl|omega|(have:=DH t k;rw [AH];simp only [List.length_cons,List.length_nil];omega)|(have:=DH t k;rw [AE];simp only [List.length_cons,List.length_nil];omega)) λ o26=>?_
 refine ⟨(lnK t k,32),by
  exact congrArg (λ x=>[DA.one (DC.im (Value.string x)),DA.one (DC.im (Value.string (⟨#[32]⟩:ByteArray)))]) (Al (l:=AN t) (k:=k) (by omega)),by
  show (lnK t k).size<=1073741824
  first|(show _<=1073741824;omega)|exact trivial|exact c331,?_⟩
 refine ⟨λ c30=>?_,λ c30=>?_⟩
 ·try simp only [nrm] at c30
  obtain ⟨hq,hs⟩:=RB hk (CB c30)
  refine ⟨(Ao (lnK t k) 32,32),by
   rfl,by
   show (Ao (lnK t k) 32).size<=1073741824
   first|(show _<=1073741824;omega)|exact trivial|exact c331,?_⟩
  refine ⟨Au (Ao (lnK t k) 32) 32,by
   rfl,by
   show (Au (Ao (lnK t k) 32) 32).size<=1073741824
   first|(show _<=1073741824;omega)|exact trivial|exact c331,?_⟩
  refine ⟨Ao (Ao (lnK t k) 32) 32,by
   rfl,by
   show (Ao (Ao (lnK t k) 32) 32).size<=1073741824
   first|(show _<=1073741824;omega)|exact trivial|exact c331,?_⟩
  refine And.symm ⟨λ c40=>?_,λ c40=>?_⟩
  ·try simp only [nrm] at c40
   have hno:=Ei hk (by rw [hq,c40];rfl)
   refine And.symm ⟨λ c71=>?_,λ c71=>?_⟩
   ·try simp only [nrm] at c71
    try cases c71 -- done
   try simp only [nrm] at c71
   refine ⟨?_,?_,?_,?_,?_,?_,?_,?_⟩
   ·first|(rw [AJ hno];rfl)|(rw [hno])|(rw [AL hyes,← hk])|(rw [hyes])
   ·first|(rw [AJ hno];rfl)|(rw [hno])|(rw [AL hyes,← hk])|(rw [hyes])
   ·first|(rw [AJ hno];rfl)|(rw [hno])|(rw [AL hyes,← hk])|(rw [hyes])
   ·first|(rw [AJ hno];rfl)|(rw [hno])|(rw [AL hyes,← hk])|(rw [hyes])
   ·first|(rw [AJ hno];rfl)|(rw [hno])|(rw [AL hyes,← hk])|(rw [hyes])
   ·first|(rw [AJ hno];rfl)|(rw [hno])|(rw [AL hyes,← hk])|(rw [hyes])
   ·first|(rw [AJ hno];rfl)|(rw [hno])|(rw [AL hyes,← hk])|(rw [hyes])
   first|(rw [AJ hno];rfl)|(rw [hno])|(rw [AL hyes,← hk])|(rw [hyes])
  try simp only [nrm] at c40
  refine ⟨λ c41=>?_,λ c41=>?_⟩
  ·try simp only [nrm] at c41
   have hno:=Ei hk (by rw [hq,c40,c41];rfl)
   refine ⟨?_,?_,?_,?_,?_,?_,?_,?_⟩
   ·first|(rw [AJ hno];rfl)|(rw [hno])|(rw [AL hyes,← hk])|(rw [hyes])
   ·first|(rw [AJ hno];rfl)|(rw [hno])|(rw [AL hyes,← hk])|(rw [hyes])
   ·first|(rw [AJ hno];rfl)|(rw [hno])|(rw [AL hyes,← hk])|(rw [hyes])
   ·first|(rw [AJ hno];rfl)|(rw [hno])|(rw [AL hyes,← hk])|(rw [hyes])
   ·first|(rw [AJ hno];rfl)|(rw [hno])|(rw [AL hyes,← hk])|(rw [hyes])
   ·first|(rw [AJ hno];rfl)|(rw [hno])|(rw [AL hyes,← hk])|(rw [hyes])
   ·first|(rw [AJ hno];rfl)|(rw [hno])|(rw [AL hyes,← hk])|(rw [hyes])
   first|(rw [AJ hno];rfl)|(rw [hno])|(rw [AL hyes,← hk])|(rw [hyes])
  try simp only [nrm] at c41
  refine ⟨k+1,by
   exact ⟨by omega,by rw [Fq hk,hki4.2,hq,c40,c41];rfl⟩,by
   first|omega|(simp;omega),?_⟩
  refine ⟨rfl,rfl,?_,rfl,rfl,rfl,rfl,rfl,rfl,rfl,?_,?_,?_,?_,?_,?_,?_,rfl⟩
  ·first|(rw [hs];done)|(rw [hs,← AA];done)|(rw [hs,← AF];done)|exact AP (AG (by omega) (by omega))
  ·first|(rw [hs];done)|(rw [hs,← AA];done)|(rw [hs,← AF];done)|exact AP (AG (by omega) (by omega))
  ·first|(rw [hs];done)|(rw [hs,← AA];done)|(rw [hs,← AF];done)|exact AP (AG (by omega) (by omega))
  ·first|(rw [hs];done)|(rw [hs,← AA];done)|(rw [hs,← AF];done)|exact AP (AG (by omega) (by omega))
  ·first|(rw [hs];done)|(rw [hs,← AA];done)|(rw [hs,← AF];done)|exact AP (AG (by omega) (by omega))
  ·first|(rw [hs];done)|(rw [hs,← AA];done)|(rw [hs,← AF];done)|exact AP (AG (by omega) (by omega))
  ·first|(rw [hs];done)|(rw [hs,← AA];done)|(rw [hs,← AF];done)|exact AP (AG (by omega) (by omega))
  first|(rw [hs];done)|(rw [hs,← AA];done)|(rw [hs,← AF];done)|exact AP (AG (by omega) (by omega))
 try simp only [nrm] at c30
 refine ⟨λ c101=>?_,λ c101=>?_⟩
 ·try simp only [nrm] at c101
  obtain ⟨hq,hs⟩:=RD hk (BO c30) (CB c101)
  refine ⟨Ao (lnK t k) 32,by
   rfl,by
   show (Ao (lnK t k) 32).size<=1073741824
   first|(show _<=1073741824;omega)|exact trivial|exact c331,?_⟩
  refine And.symm ⟨λ c105=>?_,λ c105=>?_⟩
  ·try simp only [nrm] at c105
   have hno:=Ei hk (hq.trans c105)
   refine And.symm ⟨λ c136=>?_,λ c136=>?_⟩
   ·try simp only [nrm] at c136
    try cases c136 -- done
   try simp only [nrm] at c136
   refine ⟨?_,?_,?_,?_,?_,?_,?_,?_⟩
   ·first|(rw [AJ hno];rfl)|(rw [hno])|(rw [AL hyes,← hk])|(rw [hyes])
   ·first|(rw [AJ hno];rfl)|(rw [hno])|(rw [AL hyes,← hk])|(rw [hyes])
   ·first|(rw [AJ hno];rfl)|(rw [hno])|(rw [AL hyes,← hk])|(rw [hyes])
   ·first|(rw [AJ hno];rfl)|(rw [hno])|(rw [AL hyes,← hk])|(rw [hyes])
   ·first|(rw [AJ hno];rfl)|(rw [hno])|(rw [AL hyes,← hk])|(rw [hyes])
   ·first|(rw [AJ hno];rfl)|(rw [hno])|(rw [AL hyes,← hk])|(rw [hyes])
   ·first|(rw [AJ hno];rfl)|(rw [hno])|(rw [AL hyes,← hk])|(rw [hyes])
   first|(rw [AJ hno];rfl)|(rw [hno])|(rw [AL hyes,← hk])|(rw [hyes])
  try simp only [nrm] at c105
  refine ⟨λ c106=>?_,λ c106=>?_⟩
  ·try simp only [nrm] at c106
   try cases c106 -- done
  try simp only [nrm] at c106
  refine ⟨k+1,by
   exact ⟨by omega,by rw [Fq hk,hki4.2,hq,c105];rfl⟩,by
   first|omega|(simp;omega),?_⟩
  refine ⟨rfl,rfl,?_,rfl,rfl,rfl,rfl,rfl,rfl,rfl,?_,?_,?_,?_,?_,?_,?_,rfl⟩
  ·first|(rw [hs];done)|(rw [hs,← AA];done)|(rw [hs,← AF];done)|exact AP (AG (by omega) (by omega))
  ·first|(rw [hs];done)|(rw [hs,← AA];done)|(rw [hs,← AF];done)|exact AP (AG (by omega) (by omega))
  ·first|(rw [hs];done)|(rw [hs,← AA];done)|(rw [hs,← AF];done)|exact AP (AG (by omega) (by omega))
  ·first|(rw [hs];done)|(rw [hs,← AA];done)|(rw [hs,← AF];done)|exact AP (AG (by omega) (by omega))
  ·first|(rw [hs];done)|(rw [hs,← AA];done)|(rw [hs,← AF];done)|exact AP (AG (by omega) (by omega))
  ·first|(rw [hs];done)|(rw [hs,← AA];done)|(rw [hs,← AF];done)|exact AP (AG (by omega) (by omega))
  ·first|(rw [hs];done)|(rw [hs,← AA];done)|(rw [hs,← AF];done)|exact AP (AG (by omega) (by omega))
  first|(rw [hs];done)|(rw [hs,← AA];done)|(rw [hs,← AF];done)|exact AP (AG (by omega) (by omega))
 try simp only [nrm] at c101
 refine ⟨λ c166=>?_,λ c166=>?_⟩
 ·try simp only [nrm] at c166
  obtain ⟨hq,hs⟩:=RE hk (BO c30) (BO c101) (CB c166)
  refine ⟨Ao (lnK t k) 32,by
   rfl,by
   show (Ao (lnK t k) 32).size<=1073741824
   first|(show _<=1073741824;omega)|exact trivial|exact c331,?_⟩
  refine ao (by first|rfl|omega|(have:=DH t k;rw [AH];simp only [List.length_cons,List.length_nil];omega)|(have:=DH t k;rw [AE];simp only [List.length_cons,List.length_nil];omega)) λ o170=>?_
  refine And.symm ⟨λ c171=>?_,λ c171=>?_⟩
  ·try simp only [nrm] at c171
   have hno:=Ei hk (hq.trans c171)
   refine And.symm ⟨λ c202=>?_,λ c202=>?_⟩
   ·try simp only [nrm] at c202
    try cases c202 -- done
   try simp only [nrm] at c202
   refine ⟨?_,?_,?_,?_,?_,?_,?_,?_⟩
   ·first|(rw [AJ hno];rfl)|(rw [hno])|(rw [AL hyes,← hk])|(rw [hyes])
   ·first|(rw [AJ hno];rfl)|(rw [hno])|(rw [AL hyes,← hk])|(rw [hyes])
   ·first|(rw [AJ hno];rfl)|(rw [hno])|(rw [AL hyes,← hk])|(rw [hyes])
   ·first|(rw [AJ hno];rfl)|(rw [hno])|(rw [AL hyes,← hk])|(rw [hyes])
   ·first|(rw [AJ hno];rfl)|(rw [hno])|(rw [AL hyes,← hk])|(rw [hyes])
   ·first|(rw [AJ hno];rfl)|(rw [hno])|(rw [AL hyes,← hk])|(rw [hyes])
   ·first|(rw [AJ hno];rfl)|(rw [hno])|(rw [AL hyes,← hk])|(rw [hyes])
   first|(rw [AJ hno];rfl)|(rw [hno])|(rw [AL hyes,← hk])|(rw [hyes])
  try simp only [nrm] at c171
  refine ⟨λ c172=>?_,λ c172=>?_⟩
  ·try simp only [nrm] at c172
   try cases c172 -- done
  try simp only [nrm] at c172
  refine ⟨k+1,by
   exact ⟨by omega,by rw [Fq hk,hki4.2,hq,c171];rfl⟩,by
   first|omega|(simp;omega),?_⟩
  refine ⟨rfl,rfl,?_,rfl,rfl,rfl,rfl,rfl,rfl,rfl,?_,?_,?_,?_,?_,?_,?_,rfl⟩
  ·first|(rw [hs];done)|(rw [hs,← AA];done)|(rw [hs,← AF];done)|exact AP (AG (by omega) (by omega))
  ·first|(rw [hs];done)|(rw [hs,← AA];done)|(rw [hs,← AF];done)|exact AP (AG (by omega) (by omega))
  ·first|(rw [hs];done)|(rw [hs,← AA];done)|(rw [hs,← AF];done)|exact AP (AG (by omega) (by omega))
  ·first|(rw [hs];done)|(rw [hs,← AA];done)|(rw [hs,← AF];done)|exact AP (AG (by omega) (by omega))
  ·first|(rw [hs];done)|(rw [hs,← AA];done)|(rw [hs,← AF];done)|exact AP (AG (by omega) (by omega))
  ·first|(rw [hs];done)|(rw [hs,← AA];done)|(rw [hs,← AF];done)|exact AP (AG (by omega) (by omega))
  ·first|(rw [hs];done)|(rw [hs,← AA];done)|(rw [hs,← AF];done)|exact AP (AG (by omega) (by omega))
  first|(rw [hs];done)|(rw [hs,← AA];done)|(rw [hs,← AF];done)|exact AP (AG (by omega) (by omega))
 try simp only [nrm] at c166
 refine And.symm ⟨λ c232=>?_,λ c232=>?_⟩
 ·try simp only [nrm] at c232
  have hno:=Ei hk (RG (BO c30) (BO c101) (BO c166) (BO c232))
  refine And.symm ⟨λ c298=>?_,λ c298=>?_⟩
  ·try simp only [nrm] at c298
   try cases c298 -- done
  try simp only [nrm] at c298
  refine ⟨?_,?_,?_,?_,?_,?_,?_,?_⟩
  ·first|(rw [AJ hno];rfl)|(rw [hno])|(rw [AL hyes,← hk])|(rw [hyes])
  ·first|(rw [AJ hno];rfl)|(rw [hno])|(rw [AL hyes,← hk])|(rw [hyes])
  ·first|(rw [AJ hno];rfl)|(rw [hno])|(rw [AL hyes,← hk])|(rw [hyes])
  ·first|(rw [AJ hno];rfl)|(rw [hno])|(rw [AL hyes,← hk])|(rw [hyes])
  ·first|(rw [AJ hno];rfl)|(rw [hno])|(rw [AL hyes,← hk])|(rw [hyes])
  ·first|(rw [AJ hno];rfl)|(rw [hno])|(rw [AL hyes,← hk])|(rw [hyes])
  ·first|(rw [AJ hno];rfl)|(rw [hno])|(rw [AL hyes,← hk])|(rw [hyes])
  first|(rw [AJ hno];rfl)|(rw [hno])|(rw [AL hyes,← hk])|(rw [hyes])
 try simp only [nrm] at c232
 obtain ⟨hq,hs⟩:=RF hk (BO c30) (BO c101) (BO c166) (CB c232)
 refine ⟨Ao (lnK t k) 32,by
  rfl,by
  show (Ao (lnK t k) 32).size<=1073741824
  first|(show _<=1073741824;omega)|exact trivial|exact c331,?_⟩
 refine ao (by first|rfl|omega|(have:=DH t k;rw [AH];simp only [List.length_cons,List.length_nil];omega)|(have:=DH t k;rw [AE];simp only [List.length_cons,List.length_nil];omega)) λ o236=>?_
 refine And.symm ⟨λ c237=>?_,λ c237=>?_⟩
 ·try simp only [nrm] at c237
  have hno:=Ei hk (hq.trans c237)
  refine And.symm ⟨λ c268=>?_,λ c268=>?_⟩
  ·try simp only [nrm] at c268
   try cases c268 -- done
  try simp only [nrm] at c268
  refine ⟨?_,?_,?_,?_,?_,?_,?_,?_⟩
  ·first|(rw [AJ hno];rfl)|(rw [hno])|(rw [AL hyes,← hk])|(rw [hyes])
  ·first|(rw [AJ hno];rfl)|(rw [hno])|(rw [AL hyes,← hk])|(rw [hyes])
  ·first|(rw [AJ hno];rfl)|(rw [hno])|(rw [AL hyes,← hk])|(rw [hyes])
  ·first|(rw [AJ hno];rfl)|(rw [hno])|(rw [AL hyes,← hk])|(rw [hyes])
  ·first|(rw [AJ hno];rfl)|(rw [hno])|(rw [AL hyes,← hk])|(rw [hyes])
  ·first|(rw [AJ hno];rfl)|(rw [hno])|(rw [AL hyes,← hk])|(rw [hyes])
  ·first|(rw [AJ hno];rfl)|(rw [hno])|(rw [AL hyes,← hk])|(rw [hyes])
  first|(rw [AJ hno];rfl)|(rw [hno])|(rw [AL hyes,← hk])|(rw [hyes])
 try simp only [nrm] at c237
 refine ⟨λ c238=>?_,λ c238=>?_⟩
 ·try simp only [nrm] at c238
  try cases c238 -- done
 try simp only [nrm] at c238
 refine ⟨k+1,by
  exact ⟨by omega,by rw [Fq hk,hki4.2,hq,c237];rfl⟩,by
  first|omega|(simp;omega),?_⟩
 refine ⟨rfl,rfl,?_,rfl,rfl,rfl,rfl,rfl,rfl,rfl,?_,?_,?_,?_,?_,?_,?_,rfl⟩
 ·first|(rw [hs];done)|(rw [hs,← AA];done)|(rw [hs,← AF];done)|exact AP (AG (by omega) (by omega))
 ·first|(rw [hs];done)|(rw [hs,← AA];done)|(rw [hs,← AF];done)|exact AP (AG (by omega) (by omega))
 ·first|(rw [hs];done)|(rw [hs,← AA];done)|(rw [hs,← AF];done)|exact AP (AG (by omega) (by omega))
 ·first|(rw [hs];done)|(rw [hs,← AA];done)|(rw [hs,← AF];done)|exact AP (AG (by omega) (by omega))
 ·first|(rw [hs];done)|(rw [hs,← AA];done)|(rw [hs,← AF];done)|exact AP (AG (by omega) (by omega))
 ·first|(rw [hs];done)|(rw [hs,← AA];done)|(rw [hs,← AF];done)|exact AP (AG (by omega) (by omega))
 ·first|(rw [hs];done)|(rw [hs,← AA];done)|(rw [hs,← AF];done)|exact AP (AG (by omega) (by omega))
 first|(rw [hs];done)|(rw [hs,← AA];done)|(rw [hs,← AF];done)|exact AP (AG (by omega) (by omega))
theorem Mp {c:UInt8} : ∀ (n:Nat) (l:List UInt8),l.length<=n->Lib.join (Db c l) [c]=l:=by
 intro n
 induction n with
 | zero=>
  intro l hl
  obtain rfl:=List.eq_nil_of_length_eq_zero (Nat.le_zero.1 hl)
  rw [BT (by simp),Lib.join_one]
 | succ n ih=>
  intro l hl
  by_cases hc:c ∈ l
  ·obtain ⟨a,b,rfl,ha⟩:=FD hc
   have hb:=ih b (by simp only [List.length_append,List.length_cons] at hl;omega)
   rw [CI ha]
   cases hw:Db c b with
   | nil=>simp [Db] at hw
   | cons y r=>
    rw [hw] at hb
    have e:Lib.join (a::y::r) [c]=a++c::Lib.join (y::r) [c]:=by
     rw [Lib.join_cons,Lib.join_cons]
     simp [Lib.joinTail]
    rw [e,hb]
  ·rw [BT hc,Lib.join_one]
theorem Ly (c:UInt8) (s:ByteArray):A8 (AB c s) ⟨#[c]⟩=s:=by
 apply bx
 show (Cc (AB c s) ⟨#[c]⟩).toArray.toList=_
 rw [List.toList_toArray]
 unfold Cc AB
 rw [List.map_map]
 have:((λ x:ByteArray=>x.data.toList)∘ofB)=id:=by funext x;exact Lh x
 rw [this,List.map_id]
 exact Mp _ _ (Nat.le_refl _)
theorem Qq (l:ByteArray):(CK l).size<=l.size:=by
 have e:CK l=Ao l 32:=by
  unfold CK
  rcases Ii l 32 with ⟨-,h,-,h2⟩|⟨-,h,hf⟩
  ·rw [GO h,h2];rfl
  ·conv=>lhs;rw [h]
   rw [Cl hf]
   exact Ly 32 _
 rw [e];exact (Fi l 32).2
theorem Df (l:ByteArray) (j:Nat):(wd l j).size<=l.size:=BM (λ x hx=>Av hx) j
theorem Iw {l b:ByteArray} (h:((((AK (AB 32 l)).getD 0 []).getD 0 (.int 0))).s.toList=b.toList):wd l 0=b:=by
 rw [Al (C6 32 l)] at h;exact CB h
theorem Dg {l b:ByteArray} (h:¬ ((((AK (AB 32 l)).getD 0 []).getD 0 (.int 0))).s.toList=b.toList):wd l 0≠b:=by
 rw [Al (C6 32 l)] at h;exact BO h
theorem OL (ws:List ByteArray):((AK ws).take (((AK ws).length:Int).toNat)).drop 1=AK (ws.drop 1):=by
 rw [show ((AK ws).length:Int).toNat=(AK ws).length by omega,List.take_length]
 unfold AK;rw [List.map_drop]
theorem Rh {t:ByteArray} {k:Nat} (hk:k<(AN t).length) (h:wd (lnK t k) 0=kwA) (h3:(AB 32 (lnK t k)).length=3):stR t (k+1)=⟨vOf (wd (lnK t k) 1),vOf (wd (lnK t k) 2),(stR t k).robot,(stR t k).obst,(stR t k).tables⟩:=
 (EL hk).trans (if_pos ⟨h,h3⟩)
theorem RH {t:ByteArray} {k:Nat} (hk:k<(AN t).length) (h1:¬ (wd (lnK t k) 0=kwA/\(AB 32 (lnK t k)).length=3)) (h:wd (lnK t k) 0=kwB):stR t (k+1)=⟨(stR t k).low,(stR t k).high,CJ (CK (lnK t k)),(stR t k).obst,(stR t k).tables⟩:=
 (EL hk).trans ((if_neg h1).trans (if_pos h))
theorem RI {t:ByteArray} {k:Nat} (hk:k<(AN t).length) (h1:¬ (wd (lnK t k) 0=kwA/\(AB 32 (lnK t k)).length=3)) (h2:wd (lnK t k) 0≠kwB) (h:wd (lnK t k) 0=kwC):stR t (k+1)=⟨(stR t k).low,(stR t k).high,(stR t k).robot,(stR t k).obst++[CJ (CK (lnK t k))],(stR t k).tables⟩:=
 (EL hk).trans ((if_neg h1).trans ((if_neg h2).trans (if_pos h)))
theorem RJ {t:ByteArray} {k:Nat} (hk:k<(AN t).length) (h1:¬ (wd (lnK t k) 0=kwA/\(AB 32 (lnK t k)).length=3)) (h2:wd (lnK t k) 0≠kwB) (h3:wd (lnK t k) 0≠kwC) (h:wd (lnK t k) 0=kwD):stR t (k+1)=⟨(stR t k).low,(stR t k).high,(stR t k).robot,(stR t k).obst,(stR t k).tables++[vOf (CK (lnK t k))]⟩:=
 (EL hk).trans ((if_neg h1).trans ((if_neg h2).trans ((if_neg h3).trans (if_pos h))))
theorem RK {t:ByteArray} {k:Nat} (hk:k<(AN t).length) (h1:¬ (wd (lnK t k) 0=kwA/\(AB 32 (lnK t k)).length=3)) (h2:wd (lnK t k) 0≠kwB) (h3:wd (lnK t k) 0≠kwC) (h:wd (lnK t k) 0≠kwD):stR t (k+1)=stR t k:=
 (EL hk).trans ((if_neg h1).trans ((if_neg h2).trans ((if_neg h3).trans (if_neg h))))
def Ej:Con:={ ι:=ByteArray,pre:=λ i=>i.size<=1048576,args:=λ i=>[.one (.im (.string i))],res:=λ i=>⟨true,[some 7,none],[rcI ((Ab i).low.1),rcI ((Ab i).low.2),rcI ((Ab i).high.1),rcI ((Ab i).high.2),.own 23 [.int,.int] (AD (Ab i).robot),.own 24 [.sl 23 [.int,.int]] (AM (Ab i).obst),.own 23 [.int,.int] (AD (Ab i).tables),rcB (okT i)]⟩ }
set_option maxHeartbeats 1600000 in
theorem Pk:Ej.Ok Tryz.prog 4:=by
 refine fok (X:=⟨tt,[(9,Ds),(23,BC),(24,CG),(25,A1),(26,BJ),(11,Ck)],[7],29,[(10,⟨Tryz.f10.body.getD .skip,Tryz.f10.ntmps,Tryz.f10.results.toList⟩)]⟩) mixed BG (CTok.cons OK (CTok.cons HN (CTok.cons Lf (CTok.cons Lq (CTok.cons Pa (CTok.cons Pd (CTok.nil _))))))) (hil:=(InlOk.cons Tryz.func10 (by decide) rfl rfl rfl (InlOk.nil _))) Tryz.func4 (λ (i:ByteArray)=>let Z1:=Value.slice none 0 0;[(3,.mk 7 (Nat) (λ x1=>let Z2:=stR i x1;{ tm:=[(0,.one (.one (.im (Value.string i)))),(2,tP 1 0),(4,tP 2 0),(9,tX 6),(10,tI ((AK (AN i)).length:Int)),(11,tI (x1:Int))],en:=[(1,.box [kI (0:Int),kI (0:Int),kI (0:Int),kI (0:Int),.im Z1,.im Z1,.im Z1]),(2,.box [kI (Z2.low.1),kI (Z2.low.2),kI (Z2.high.1),kI (Z2.high.2),.ext 3,.ext 4,.ext 5]),(3,.own 23 [.int,.int] (AD Z2.robot)),(4,.own 24 [.sl 23 [.int,.int]] (AM Z2.obst)),(5,.own 23 [.int,.int] (AD Z2.tables)),(6,.own 9 [.str] (AK (AN i)))] }) (λ x1=>x1<=(AN i).length) (λ x1=>(AN i).length-x1) (λ _=>[]))]) ?_
 intro (t:ByteArray) hpre
 have hpre:t.size<=1048576:=hpre
 refine BF (q:=let Z25:=DC.im (Value.string (⟨#[32]⟩:ByteArray));let Z17:=List Dat;let Z15:=Value.string t;let Z10:=AN t;let Z6:=AK Z10;let Z27:=(Z6.length:Int);let Z14:=vI Z27;let Z5:=(vI (0:Int)=vI ((Ab t).low.1))/\(vI (0:Int)=vI ((Ab t).low.2))/\(vI (0:Int)=vI ((Ab t).high.1))/\(vI (0:Int)=vI ((Ab t).high.2))/\(([]:List Z17)=AD (Ab t).robot)/\(([]:List Z17)=AM (Ab t).obst)/\(([]:List Z17)=AD (Ab t).tables)/\(vB false=vB (okT t));let Z4:=vI (0:Int);let Z3:=Value.slice none 0 0;∃ i1:ByteArray,[DA.one (DC.im Z15)]=Ds.args i1/\Ds.pre i1/\((∃ x1:Nat,let Z28:=stR t x1;(x1<=Z10.length)/\((rf Z15)/\(vI (nI ((AK (AN i1)).length))=vI Z27)/\(vI (0:Int)=vI (x1:Int))/\(rf Z4)/\(rf Z4)/\(rf Z4)/\(rf Z4)/\(rf Z3)/\(rf Z3)/\(rf Z3)/\(vI (0:Int)=vI (Z28.low.1))/\(vI (0:Int)=vI (Z28.low.2))/\(vI (0:Int)=vI (Z28.high.1))/\(vI (0:Int)=vI (Z28.high.2))/\(([]:List Z17)=(AD Z28.robot))/\(([]:List Z17)=(AM Z28.obst))/\(([]:List Z17)=(AD Z28.tables))/\(AK (AN i1)=Z6)))/\∀ x1:Nat,let Z8:=wR ((x1:Int)+(1:Int));let Z2:=stR t x1;let Z24:=Z2.low.2;let Z23:=Z2.low.1;let Z20:=Z2.high.2;let Z19:=Z2.high.1;let Z16:=AD Z2.robot;let Z13:=AM Z2.obst;let Z11:=AD Z2.tables;(x1<=Z10.length)->(ifB ((decide ((x1:Int)<Z27))) ((0<=(x1:Int)/\(x1:Int)<Z27)/\((x1<Z6.length)/\(∃ i2:ByteArray×UInt8,let Z1:=AK (AB i2.2 i2.1);let Z12:=(Z1.length:Int);let Z7:=(((Z1.getD 0 []).getD 0 (.int 0))).s;let Z22:=(Z7.toList == (⟨#[116,97,98,108,101]⟩:ByteArray).toList);let Z21:=(Z7.toList == (⟨#[114,111,98,111,116]⟩:ByteArray).toList);let Z18:=(Z7.toList == (⟨#[111,98,115,116,97,99,108,101]⟩:ByteArray).toList);[DA.one (DC.im (Value.string ((((Z6.getD x1 []).getD 0 (.int 0))).s))),DA.one Z25]=BC.args i2/\BC.pre i2/\((Nat.beq 1 1=true)/\((0<=(1:Int))/\(((1:Int)<=Z12)/\((Z12<=Z12)/\(∃ i3:(List ByteArray)×ByteArray,let Z9:=DC.im (Value.string (A8 i3.1 i3.2));[DA.one (DC.sl 9 [.str] ((Z1.take (Z12.toNat)).drop 1)),DA.one Z25]=CG.args i3/\CG.pre i3/\((0<=(0:Int)/\(0:Int)<Z12)/\((0<Z1.length)/\(ifB ((Z7.toList == (⟨#[114,111,111,109]⟩:ByteArray).toList)) (ifB (((nI (Z1.length)) == (3:Int))) ((0<=(1:Int)/\(1:Int)<Z12)/\((1<Z1.length)/\(∃ i4:ByteArray,[DA.one (DC.im (Value.string ((((Z1.getD 1 []).getD 0 (.int 0))).s)))]=A1.args i4/\A1.pre i4/\((0<=(2:Int)/\(2:Int)<Z12)/\((2<Z1.length)/\(∃ i5:ByteArray,[DA.one (DC.im (Value.string ((((Z1.getD 2 []).getD 0 (.int 0))).s)))]=A1.args i5/\A1.pre i5/\(∃ y2:Nat,let Z29:=stR t y2;(y2<=Z10.length)/\(Z10.length-y2<Z10.length-x1)/\((rf Z15)/\(rf Z14)/\(vI Z8=vI (y2:Int))/\(rf Z4)/\(rf Z4)/\(rf Z4)/\(rf Z4)/\(rf Z3)/\(rf Z3)/\(rf Z3)/\(vI ((vOf i4).1)=vI (Z29.low.1))/\(vI ((vOf i4).2)=vI (Z29.low.2))/\(vI ((vOf i5).1)=vI (Z29.high.1))/\(vI ((vOf i5).2)=vI (Z29.high.2))/\(Z16=(AD Z29.robot))/\(Z13=(AM Z29.obst))/\(Z11=(AD Z29.tables))/\(rf Z6))))))))) ((0<=(0:Int)/\(0:Int)<Z12)/\((0<Z1.length)/\(ifB Z21 (∃ i6:ByteArray,[DA.one Z9]=BJ.args i6/\BJ.pre i6/\(∃ y3:Nat,let Z30:=stR t y3;(y3<=Z10.length)/\(Z10.length-y3<Z10.length-x1)/\((rf Z15)/\(rf Z14)/\(vI Z8=vI (y3:Int))/\(rf Z4)/\(rf Z4)/\(rf Z4)/\(rf Z4)/\(rf Z3)/\(rf Z3)/\(rf Z3)/\(vI Z23=vI (Z30.low.1))/\(vI Z24=vI (Z30.low.2))/\(vI Z19=vI (Z30.high.1))/\(vI Z20=vI (Z30.high.2))/\(AD (CJ i6)=(AD Z30.robot))/\(Z13=(AM Z30.obst))/\(Z11=(AD Z30.tables))/\(rf Z6)))) ((0<=(0:Int)/\(0:Int)<Z12)/\((0<Z1.length)/\(ifB Z18 (∃ i7:ByteArray,[DA.one Z9]=BJ.args i7/\BJ.pre i7/\((Z13.length+([[Dat.sl (AD (CJ i7))]]:List Z17).length<=2199023255552)/\(∃ y4:Nat,let Z31:=stR t y4;(y4<=Z10.length)/\(Z10.length-y4<Z10.length-x1)/\((rf Z15)/\(rf Z14)/\(vI Z8=vI (y4:Int))/\(rf Z4)/\(rf Z4)/\(rf Z4)/\(rf Z4)/\(rf Z3)/\(rf Z3)/\(rf Z3)/\(vI Z23=vI (Z31.low.1))/\(vI Z24=vI (Z31.low.2))/\(vI Z19=vI (Z31.high.1))/\(vI Z20=vI (Z31.high.2))/\(Z16=(AD Z31.robot))/\((Z13++([[Dat.sl (AD (CJ i7))]]:List Z17))=(AM Z31.obst))/\(Z11=(AD Z31.tables))/\(rf Z6))))) ((0<=(0:Int)/\(0:Int)<Z12)/\((0<Z1.length)/\(ifB Z22 (∃ i8:ByteArray,[DA.one Z9]=A1.args i8/\A1.pre i8/\((Z11.length+([[Dat.int ((vOf i8).1),Dat.int ((vOf i8).2)]]:List Z17).length<=2199023255552)/\(∃ y5:Nat,let Z32:=stR t y5;(y5<=Z10.length)/\(Z10.length-y5<Z10.length-x1)/\((rf Z15)/\(rf Z14)/\(vI Z8=vI (y5:Int))/\(rf Z4)/\(rf Z4)/\(rf Z4)/\(rf Z4)/\(rf Z3)/\(rf Z3)/\(rf Z3)/\(vI Z23=vI (Z32.low.1))/\(vI Z24=vI (Z32.low.2))/\(vI Z19=vI (Z32.high.1))/\(vI Z20=vI (Z32.high.2))/\(Z16=(AD Z32.robot))/\(Z13=(AM Z32.obst))/\((Z11++([[Dat.int ((vOf i8).1),Dat.int ((vOf i8).2)]]:List Z17))=(AD Z32.tables))/\(rf Z6))))) (∃ y6:Nat,let Z33:=stR t y6;(y6<=Z10.length)/\(Z10.length-y6<Z10.length-x1)/\((rf Z15)/\(rf Z14)/\(vI Z8=vI (y6:Int))/\(rf Z4)/\(rf Z4)/\(rf Z4)/\(rf Z4)/\(rf Z3)/\(rf Z3)/\(rf Z3)/\(vI Z23=vI (Z33.low.1))/\(vI Z24=vI (Z33.low.2))/\(vI Z19=vI (Z33.high.1))/\(vI Z20=vI (Z33.high.2))/\(Z16=(AD Z33.robot))/\(Z13=(AM Z33.obst))/\(Z11=(AD Z33.tables))/\(rf Z6))))))))))))) ((0<=(0:Int)/\(0:Int)<Z12)/\((0<Z1.length)/\(ifB Z21 (∃ i9:ByteArray,[DA.one Z9]=BJ.args i9/\BJ.pre i9/\(∃ y7:Nat,let Z34:=stR t y7;(y7<=Z10.length)/\(Z10.length-y7<Z10.length-x1)/\((rf Z15)/\(rf Z14)/\(vI Z8=vI (y7:Int))/\(rf Z4)/\(rf Z4)/\(rf Z4)/\(rf Z4)/\(rf Z3)/\(rf Z3)/\(rf Z3)/\(vI Z23=vI (Z34.low.1))/\(vI Z24=vI (Z34.low.2))/\(vI Z19=vI (Z34.high.1))/\(vI Z20=vI (Z34.high.2))/\(AD (CJ i9)=(AD Z34.robot))/\(Z13=(AM Z34.obst))/\(Z11=(AD Z34.tables))/\(rf Z6)))) ((0<=(0:Int)/\(0:Int)<Z12)/\((0<Z1.length)/\(ifB Z18 (∃ i10:ByteArray,[DA.one Z9]=BJ.args i10/\BJ.pre i10/\((Z13.length+([[Dat.sl (AD (CJ i10))]]:List Z17).length<=2199023255552)/\(∃ y8:Nat,let Z35:=stR t y8;(y8<=Z10.length)/\(Z10.length-y8<Z10.length-x1)/\((rf Z15)/\(rf Z14)/\(vI Z8=vI (y8:Int))/\(rf Z4)/\(rf Z4)/\(rf Z4)/\(rf Z4)/\(rf Z3)/\(rf Z3)/\(rf Z3)/\(vI Z23=vI (Z35.low.1))/\(vI Z24=vI (Z35.low.2))/\(vI Z19=vI (Z35.high.1))/\(vI Z20=vI (Z35.high.2))/\(Z16=(AD Z35.robot))/\((Z13++([[Dat.sl (AD (CJ i10))]]:List Z17))=(AM Z35.obst))/\(Z11=(AD Z35.tables))/\(rf Z6))))) ((0<=(0:Int)/\(0:Int)<Z12)/\((0<Z1.length)/\(ifB Z22 (∃ i11:ByteArray,[DA.one Z9]=A1.args i11/\A1.pre i11/\((Z11.length+([[Dat.int ((vOf i11).1),Dat.int ((vOf i11).2)]]:List Z17).length<=2199023255552)/\(∃ y9:Nat,let Z36:=stR t y9;(y9<=Z10.length)/\(Z10.length-y9<Z10.length-x1)/\((rf Z15)/\(rf Z14)/\(vI Z8=vI (y9:Int))/\(rf Z4)/\(rf Z4)/\(rf Z4)/\(rf Z4)/\(rf Z3)/\(rf Z3)/\(rf Z3)/\(vI Z23=vI (Z36.low.1))/\(vI Z24=vI (Z36.low.2))/\(vI Z19=vI (Z36.high.1))/\(vI Z20=vI (Z36.high.2))/\(Z16=(AD Z36.robot))/\(Z13=(AM Z36.obst))/\((Z11++([[Dat.int ((vOf i11).1),Dat.int ((vOf i11).2)]]:List Z17))=(AD Z36.tables))/\(rf Z6))))) (∃ y10:Nat,let Z26:=stR t y10;(y10<=Z10.length)/\(Z10.length-y10<Z10.length-x1)/\((rf Z15)/\(rf Z14)/\(vI Z8=vI (y10:Int))/\(rf Z4)/\(rf Z4)/\(rf Z4)/\(rf Z4)/\(rf Z3)/\(rf Z3)/\(rf Z3)/\(vI Z23=vI (Z26.low.1))/\(vI Z24=vI (Z26.low.2))/\(vI Z19=vI (Z26.high.1))/\(vI Z20=vI (Z26.high.2))/\(Z16=(AD Z26.robot))/\(Z13=(AM Z26.obst))/\(Z11=(AD Z26.tables))/\(rf Z6))))))))))))))))))))))) (∃ i12:Scn,[DA.agg [cI Z23,cI Z24,cI Z19,cI Z20,DC.sl 23 [.int,.int] Z16,DC.sl 24 [.sl 23 [.int,.int]] Z13,DC.sl 23 [.int,.int] Z11]]=Ck.args i12/\Ck.pre i12/\(ifB ((!((B8 i12).toList == (⟨#[]⟩:ByteArray).toList))) (∃ i13:Scn,[DA.agg [cI Z23,cI Z24,cI Z19,cI Z20,DC.sl 23 [.int,.int] Z16,DC.sl 24 [.sl 23 [.int,.int]] Z13,DC.sl 23 [.int,.int] Z11]]=Ck.args i13/\Ck.pre i13/\(ifB ((!((B8 i13).toList == t.toList))) Z5 ((vI Z23=vI ((Ab t).low.1))/\(vI Z24=vI ((Ab t).low.2))/\(vI Z19=vI ((Ab t).high.1))/\(vI Z20=vI ((Ab t).high.2))/\(Z16=AD (Ab t).robot)/\(Z13=AM (Ab t).obst)/\(Z11=AD (Ab t).tables)/\(vB true=vB (okT t))))) Z5))))) (by kernel_rfl) ?_
 conv=>zeta
 delta ifB vB vI wR nI
 have hll:=Iu t
 have hsl:=AO (AN t)
 refine ⟨t,by
  rfl,by
  show t.size<=1073741824
  first|(show _<=1073741824;omega)|exact Nat.le_trans (Df _ _) (by omega)|exact hjp|exact trivial,?_⟩
 refine ⟨⟨0,by
  first|omega|exact ⟨Nat.zero_le _,rfl⟩,?_⟩,?_⟩
 ·refine ⟨rfl,?_,rfl,rfl,rfl,rfl,rfl,rfl,rfl,rfl,?_,?_,?_,?_,?_,?_,?_,rfl⟩
  ·rfl
  ·rfl
  ·rfl
  ·rfl
  ·rfl
  ·rfl
  ·rfl
  rfl
 intro (k:Nat) hki4
 have hki4:k<=(AN t).length:=hki4
 refine And.symm ⟨λ c24=>?_,λ c24=>?_⟩
 ·try simp only [nrm] at c24
  have hk:k=(AN t).length:=by omega
  refine ⟨(stR t k),by
   rfl,by
   first|(show _<=1073741824;omega)|exact Nat.le_trans (Df _ _) (by omega)|exact hjp|exact trivial,?_⟩
  refine And.symm ⟨λ c283=>?_,λ c283=>?_⟩
  ·try simp only [nrm] at c283
   have hno:=NT (t:=t) (.inl (by rw [← hk];exact CB c283))
   refine ⟨?_,?_,?_,?_,?_,?_,?_,?_⟩
   ·first|(rw [AJ hno];rfl)|(rw [hno])|(rw [← ho])|(rw [hyes])
   ·first|(rw [AJ hno];rfl)|(rw [hno])|(rw [← ho])|(rw [hyes])
   ·first|(rw [AJ hno];rfl)|(rw [hno])|(rw [← ho])|(rw [hyes])
   ·first|(rw [AJ hno];rfl)|(rw [hno])|(rw [← ho])|(rw [hyes])
   ·first|(rw [AJ hno];rfl)|(rw [hno])|(rw [← ho])|(rw [hyes])
   ·first|(rw [AJ hno];rfl)|(rw [hno])|(rw [← ho])|(rw [hyes])
   ·first|(rw [AJ hno];rfl)|(rw [hno])|(rw [← ho])|(rw [hyes])
   first|(rw [AJ hno];rfl)|(rw [hno])|(rw [← ho])|(rw [hyes])
  try simp only [nrm] at c283
  refine ⟨(stR t k),by
   rfl,by
   first|(show _<=1073741824;omega)|exact Nat.le_trans (Df _ _) (by omega)|exact hjp|exact trivial,?_⟩
  refine ⟨λ c287=>?_,λ c287=>?_⟩
  ·try simp only [nrm] at c287
   have hno:=NT (t:=t) (.inr (by rw [← hk];exact BO c287))
   refine ⟨?_,?_,?_,?_,?_,?_,?_,?_⟩
   ·first|(rw [AJ hno];rfl)|(rw [hno])|(rw [← ho])|(rw [hyes])
   ·first|(rw [AJ hno];rfl)|(rw [hno])|(rw [← ho])|(rw [hyes])
   ·first|(rw [AJ hno];rfl)|(rw [hno])|(rw [← ho])|(rw [hyes])
   ·first|(rw [AJ hno];rfl)|(rw [hno])|(rw [← ho])|(rw [hyes])
   ·first|(rw [AJ hno];rfl)|(rw [hno])|(rw [← ho])|(rw [hyes])
   ·first|(rw [AJ hno];rfl)|(rw [hno])|(rw [← ho])|(rw [hyes])
   ·first|(rw [AJ hno];rfl)|(rw [hno])|(rw [← ho])|(rw [hyes])
   first|(rw [AJ hno];rfl)|(rw [hno])|(rw [← ho])|(rw [hyes])
  try simp only [nrm] at c287
  obtain ⟨hyes,ho⟩:=Ph (t:=t) (by rw [← hk];exact BO c283) (by rw [← hk];exact CB c287)
  rw [← hk] at ho
  refine ⟨?_,?_,?_,?_,?_,?_,?_,?_⟩
  ·first|(rw [AJ hno];rfl)|(rw [hno])|(rw [← ho])|(rw [hyes])
  ·first|(rw [AJ hno];rfl)|(rw [hno])|(rw [← ho])|(rw [hyes])
  ·first|(rw [AJ hno];rfl)|(rw [hno])|(rw [← ho])|(rw [hyes])
  ·first|(rw [AJ hno];rfl)|(rw [hno])|(rw [← ho])|(rw [hyes])
  ·first|(rw [AJ hno];rfl)|(rw [hno])|(rw [← ho])|(rw [hyes])
  ·first|(rw [AJ hno];rfl)|(rw [hno])|(rw [← ho])|(rw [hyes])
  ·first|(rw [AJ hno];rfl)|(rw [hno])|(rw [← ho])|(rw [hyes])
  first|(rw [AJ hno];rfl)|(rw [hno])|(rw [← ho])|(rw [hyes])
 try simp only [nrm] at c24
 have hk:k<(AN t).length:=by omega
 have hlz:=Pi t k
 have hwp:=C6 32 (lnK t k)
 have hwn:=Bj 32 (lnK t k)
 have hsw:=AO (AB 32 (lnK t k))
 have hrs:=Qq (lnK t k)
 have hjp:(∀ x ∈ (AB 32 (lnK t k)).drop 1,x.size<=1048576)/\(⟨#[32]⟩:ByteArray).size<=1048576/\((AB 32 (lnK t k)).drop 1).length<=1048576:=⟨λ x hx=>by have:=Av (List.mem_of_mem_drop hx);omega,by decide,by rw [List.length_drop];omega⟩
 refine ao (by first|rfl|omega|(have:=AR t k;rw [AH];simp only [List.length_cons,List.length_nil];omega)|(have:=AR t k;rw [AE];simp only [List.length_cons,List.length_nil];omega)) λ o25=>?_
 refine ao (by first|rfl|omega|(have:=AR t k;rw [AH];simp only [List.length_cons,List.length_nil];omega)|(have:=AR t k;rw [AE];simp only [List.length_cons,List.length_nil];omega)) λ o26=>?_
 refine ⟨(lnK t k,32),by
  exact congrArg (λ x=>[DA.one (DC.im (Value.string x)),DA.one (DC.im (Value.string (⟨#[32]⟩:ByteArray)))]) (Al (l:=AN t) (k:=k) (by omega)),by
  show (lnK t k).size<=1073741824
  first|(show _<=1073741824;omega)|exact Nat.le_trans (Df _ _) (by omega)|exact hjp|exact trivial,?_⟩
 refine ao (by first|rfl|omega|(have:=AR t k;rw [AH];simp only [List.length_cons,List.length_nil];omega)|(have:=AR t k;rw [AE];simp only [List.length_cons,List.length_nil];omega)) λ o30=>?_
 refine ao (by first|rfl|omega|(have:=AR t k;rw [AH];simp only [List.length_cons,List.length_nil];omega)|(have:=AR t k;rw [AE];simp only [List.length_cons,List.length_nil];omega)) λ o31=>?_
 refine ao (a:=(1:Int)<=((AK (AB 32 (lnK t k))).length:Int)) (by first|rfl|omega|(have:=AR t k;rw [AH];simp only [List.length_cons,List.length_nil];omega)|(have:=AR t k;rw [AE];simp only [List.length_cons,List.length_nil];omega)) λ o32=>?_
 refine ao (a:=((AK (AB 32 (lnK t k))).length:Int)<=((AK (AB 32 (lnK t k))).length:Int)) (by first|rfl|omega|(have:=AR t k;rw [AH];simp only [List.length_cons,List.length_nil];omega)|(have:=AR t k;rw [AE];simp only [List.length_cons,List.length_nil];omega)) λ o33=>?_
 refine ⟨((AB 32 (lnK t k)).drop 1,(⟨#[32]⟩:ByteArray)),by
  exact congrArg (λ x=>[DA.one (DC.sl 9 [.str] x),DA.one (DC.im (Value.string (⟨#[32]⟩:ByteArray)))]) (OL _),by
  show (∀ x ∈ ((AB 32 (lnK t k)).drop 1),x.size<=1048576)/\(⟨#[32]⟩:ByteArray).size<=1048576/\((AB 32 (lnK t k)).drop 1).length<=1048576
  first|(show _<=1073741824;omega)|exact Nat.le_trans (Df _ _) (by omega)|exact hjp|exact trivial,?_⟩
 refine ao (a:=0<=(0:Int)/\(0:Int)<((AK (AB 32 (lnK t k))).length:Int)) (by first|rfl|omega|(have:=AR t k;rw [AH];simp only [List.length_cons,List.length_nil];omega)|(have:=AR t k;rw [AE];simp only [List.length_cons,List.length_nil];omega)) λ o37=>?_
 refine ao (a:=0<(AK (AB 32 (lnK t k))).length) (by first|rfl|omega|(have:=AR t k;rw [AH];simp only [List.length_cons,List.length_nil];omega)|(have:=AR t k;rw [AE];simp only [List.length_cons,List.length_nil];omega)) λ o38=>?_
 refine And.symm ⟨λ c39=>?_,λ c39=>?_⟩
 ·try simp only [nrm] at c39
  have h1:¬ (wd (lnK t k) 0=kwA/\(AB 32 (lnK t k)).length=3):=λ h=>Dg c39 h.1
  refine ao (a:=0<=(0:Int)/\(0:Int)<((AK (AB 32 (lnK t k))).length:Int)) (by first|rfl|omega|(have:=AR t k;rw [AH];simp only [List.length_cons,List.length_nil];omega)|(have:=AR t k;rw [AE];simp only [List.length_cons,List.length_nil];omega)) λ o176=>?_
  refine ao (a:=0<(AK (AB 32 (lnK t k))).length) (by first|rfl|omega|(have:=AR t k;rw [AH];simp only [List.length_cons,List.length_nil];omega)|(have:=AR t k;rw [AE];simp only [List.length_cons,List.length_nil];omega)) λ o177=>?_
  refine ⟨λ c178=>?_,λ c178=>?_⟩
  ·try simp only [nrm] at c178
   have hs:=RH hk h1 (Iw c178)
   refine ⟨(CK (lnK t k)),by
    rfl,by
    show (CK (lnK t k)).size<=1073741824
    first|(show _<=1073741824;omega)|exact Nat.le_trans (Df _ _) (by omega)|exact hjp|exact trivial,?_⟩
   refine ⟨k+1,by
    first|omega|exact ⟨Nat.zero_le _,rfl⟩,by
    first|omega|(simp;omega),?_⟩
   refine ⟨rfl,rfl,?_,rfl,rfl,rfl,rfl,rfl,rfl,rfl,?_,?_,?_,?_,?_,?_,?_,rfl⟩
   ·first|(rw [hs];done)|(rw [hs,← AA];done)|(rw [hs,← AF];done)|exact AP (AG (by omega) (by omega))
   ·first|(rw [hs];done)|(rw [hs,← AA];done)|(rw [hs,← AF];done)|exact AP (AG (by omega) (by omega))
   ·first|(rw [hs];done)|(rw [hs,← AA];done)|(rw [hs,← AF];done)|exact AP (AG (by omega) (by omega))
   ·first|(rw [hs];done)|(rw [hs,← AA];done)|(rw [hs,← AF];done)|exact AP (AG (by omega) (by omega))
   ·first|(rw [hs];done)|(rw [hs,← AA];done)|(rw [hs,← AF];done)|exact AP (AG (by omega) (by omega))
   ·first|(rw [hs];done)|(rw [hs,← AA];done)|(rw [hs,← AF];done)|exact AP (AG (by omega) (by omega))
   ·first|(rw [hs];done)|(rw [hs,← AA];done)|(rw [hs,← AF];done)|exact AP (AG (by omega) (by omega))
   first|(rw [hs];done)|(rw [hs,← AA];done)|(rw [hs,← AF];done)|exact AP (AG (by omega) (by omega))
  try simp only [nrm] at c178
  refine ao (a:=0<=(0:Int)/\(0:Int)<((AK (AB 32 (lnK t k))).length:Int)) (by first|rfl|omega|(have:=AR t k;rw [AH];simp only [List.length_cons,List.length_nil];omega)|(have:=AR t k;rw [AE];simp only [List.length_cons,List.length_nil];omega)) λ o203=>?_
  refine ao (a:=0<(AK (AB 32 (lnK t k))).length) (by first|rfl|omega|(have:=AR t k;rw [AH];simp only [List.length_cons,List.length_nil];omega)|(have:=AR t k;rw [AE];simp only [List.length_cons,List.length_nil];omega)) λ o204=>?_
  refine ⟨λ c205=>?_,λ c205=>?_⟩
  ·try simp only [nrm] at c205
   have hs:=RI hk h1 (Dg c178) (Iw c205)
   refine ⟨(CK (lnK t k)),by
    rfl,by
    show (CK (lnK t k)).size<=1073741824
    first|(show _<=1073741824;omega)|exact Nat.le_trans (Df _ _) (by omega)|exact hjp|exact trivial,?_⟩
   refine ao (by first|rfl|omega|(have:=AR t k;rw [AH];simp only [List.length_cons,List.length_nil];omega)|(have:=AR t k;rw [AE];simp only [List.length_cons,List.length_nil];omega)) λ o209=>?_
   refine ⟨k+1,by
    first|omega|exact ⟨Nat.zero_le _,rfl⟩,by
    first|omega|(simp;omega),?_⟩
   refine ⟨rfl,rfl,?_,rfl,rfl,rfl,rfl,rfl,rfl,rfl,?_,?_,?_,?_,?_,?_,?_,rfl⟩
   ·first|(rw [hs];done)|(rw [hs,← AA];done)|(rw [hs,← AF];done)|exact AP (AG (by omega) (by omega))
   ·first|(rw [hs];done)|(rw [hs,← AA];done)|(rw [hs,← AF];done)|exact AP (AG (by omega) (by omega))
   ·first|(rw [hs];done)|(rw [hs,← AA];done)|(rw [hs,← AF];done)|exact AP (AG (by omega) (by omega))
   ·first|(rw [hs];done)|(rw [hs,← AA];done)|(rw [hs,← AF];done)|exact AP (AG (by omega) (by omega))
   ·first|(rw [hs];done)|(rw [hs,← AA];done)|(rw [hs,← AF];done)|exact AP (AG (by omega) (by omega))
   ·first|(rw [hs];done)|(rw [hs,← AA];done)|(rw [hs,← AF];done)|exact AP (AG (by omega) (by omega))
   ·first|(rw [hs];done)|(rw [hs,← AA];done)|(rw [hs,← AF];done)|exact AP (AG (by omega) (by omega))
   first|(rw [hs];done)|(rw [hs,← AA];done)|(rw [hs,← AF];done)|exact AP (AG (by omega) (by omega))
  try simp only [nrm] at c205
  refine ao (a:=0<=(0:Int)/\(0:Int)<((AK (AB 32 (lnK t k))).length:Int)) (by first|rfl|omega|(have:=AR t k;rw [AH];simp only [List.length_cons,List.length_nil];omega)|(have:=AR t k;rw [AE];simp only [List.length_cons,List.length_nil];omega)) λ o231=>?_
  refine ao (a:=0<(AK (AB 32 (lnK t k))).length) (by first|rfl|omega|(have:=AR t k;rw [AH];simp only [List.length_cons,List.length_nil];omega)|(have:=AR t k;rw [AE];simp only [List.length_cons,List.length_nil];omega)) λ o232=>?_
  refine And.symm ⟨λ c233=>?_,λ c233=>?_⟩
  ·try simp only [nrm] at c233
   have hs:=RK hk h1 (Dg c178) (Dg c205) (Dg c233)
   refine ⟨k+1,by
    first|omega|exact ⟨Nat.zero_le _,rfl⟩,by
    first|omega|(simp;omega),?_⟩
   refine ⟨rfl,rfl,?_,rfl,rfl,rfl,rfl,rfl,rfl,rfl,?_,?_,?_,?_,?_,?_,?_,rfl⟩
   ·first|(rw [hs];done)|(rw [hs,← AA];done)|(rw [hs,← AF];done)|exact AP (AG (by omega) (by omega))
   ·first|(rw [hs];done)|(rw [hs,← AA];done)|(rw [hs,← AF];done)|exact AP (AG (by omega) (by omega))
   ·first|(rw [hs];done)|(rw [hs,← AA];done)|(rw [hs,← AF];done)|exact AP (AG (by omega) (by omega))
   ·first|(rw [hs];done)|(rw [hs,← AA];done)|(rw [hs,← AF];done)|exact AP (AG (by omega) (by omega))
   ·first|(rw [hs];done)|(rw [hs,← AA];done)|(rw [hs,← AF];done)|exact AP (AG (by omega) (by omega))
   ·first|(rw [hs];done)|(rw [hs,← AA];done)|(rw [hs,← AF];done)|exact AP (AG (by omega) (by omega))
   ·first|(rw [hs];done)|(rw [hs,← AA];done)|(rw [hs,← AF];done)|exact AP (AG (by omega) (by omega))
   first|(rw [hs];done)|(rw [hs,← AA];done)|(rw [hs,← AF];done)|exact AP (AG (by omega) (by omega))
  try simp only [nrm] at c233
  have hs:=RJ hk h1 (Dg c178) (Dg c205) (Iw c233)
  refine ⟨(CK (lnK t k)),by
   rfl,by
   show (CK (lnK t k)).size<=1073741824
   first|(show _<=1073741824;omega)|exact Nat.le_trans (Df _ _) (by omega)|exact hjp|exact trivial,?_⟩
  refine ao (by first|rfl|omega|(have:=AR t k;rw [AH];simp only [List.length_cons,List.length_nil];omega)|(have:=AR t k;rw [AE];simp only [List.length_cons,List.length_nil];omega)) λ o237=>?_
  refine ⟨k+1,by
   first|omega|exact ⟨Nat.zero_le _,rfl⟩,by
   first|omega|(simp;omega),?_⟩
  refine ⟨rfl,rfl,?_,rfl,rfl,rfl,rfl,rfl,rfl,rfl,?_,?_,?_,?_,?_,?_,?_,rfl⟩
  ·first|(rw [hs];done)|(rw [hs,← AA];done)|(rw [hs,← AF];done)|exact AP (AG (by omega) (by omega))
  ·first|(rw [hs];done)|(rw [hs,← AA];done)|(rw [hs,← AF];done)|exact AP (AG (by omega) (by omega))
  ·first|(rw [hs];done)|(rw [hs,← AA];done)|(rw [hs,← AF];done)|exact AP (AG (by omega) (by omega))
  ·first|(rw [hs];done)|(rw [hs,← AA];done)|(rw [hs,← AF];done)|exact AP (AG (by omega) (by omega))
  ·first|(rw [hs];done)|(rw [hs,← AA];done)|(rw [hs,← AF];done)|exact AP (AG (by omega) (by omega))
  ·first|(rw [hs];done)|(rw [hs,← AA];done)|(rw [hs,← AF];done)|exact AP (AG (by omega) (by omega))
  ·first|(rw [hs];done)|(rw [hs,← AA];done)|(rw [hs,← AF];done)|exact AP (AG (by omega) (by omega))
  first|(rw [hs];done)|(rw [hs,← AA];done)|(rw [hs,← AF];done)|exact AP (AG (by omega) (by omega))
 try simp only [nrm] at c39
 refine ⟨λ c40=>?_,λ c40=>?_⟩
 ·try simp only [nrm] at c40
  have hs:=Rh hk (Iw c39) (by omega)
  refine ao (a:=0<=(1:Int)/\(1:Int)<((AK (AB 32 (lnK t k))).length:Int)) (by first|rfl|omega|(have:=AR t k;rw [AH];simp only [List.length_cons,List.length_nil];omega)|(have:=AR t k;rw [AE];simp only [List.length_cons,List.length_nil];omega)) λ o41=>?_
  refine ao (a:=1<(AK (AB 32 (lnK t k))).length) (by first|rfl|omega|(have:=AR t k;rw [AH];simp only [List.length_cons,List.length_nil];omega)|(have:=AR t k;rw [AE];simp only [List.length_cons,List.length_nil];omega)) λ o42=>?_
  refine ⟨(wd (lnK t k) 1),by
   exact congrArg (λ x=>[DA.one (DC.im (Value.string x))]) (Al (l:=AB 32 (lnK t k)) (k:=1) (by omega)),by
   show (wd (lnK t k) 1).size<=1073741824
   first|(show _<=1073741824;omega)|exact Nat.le_trans (Df _ _) (by omega)|exact hjp|exact trivial,?_⟩
  refine ao (a:=0<=(2:Int)/\(2:Int)<((AK (AB 32 (lnK t k))).length:Int)) (by first|rfl|omega|(have:=AR t k;rw [AH];simp only [List.length_cons,List.length_nil];omega)|(have:=AR t k;rw [AE];simp only [List.length_cons,List.length_nil];omega)) λ o46=>?_
  refine ao (a:=2<(AK (AB 32 (lnK t k))).length) (by first|rfl|omega|(have:=AR t k;rw [AH];simp only [List.length_cons,List.length_nil];omega)|(have:=AR t k;rw [AE];simp only [List.length_cons,List.length_nil];omega)) λ o47=>?_
  refine ⟨(wd (lnK t k) 2),by
   exact congrArg (λ x=>[DA.one (DC.im (Value.string x))]) (Al (l:=AB 32 (lnK t k)) (k:=2) (by omega)),by
   show (wd (lnK t k) 2).size<=1073741824
   first|(show _<=1073741824;omega)|exact Nat.le_trans (Df _ _) (by omega)|exact hjp|exact trivial,?_⟩
  refine ⟨k+1,by
   first|omega|exact ⟨Nat.zero_le _,rfl⟩,by
   first|omega|(simp;omega),?_⟩
  refine ⟨rfl,rfl,?_,rfl,rfl,rfl,rfl,rfl,rfl,rfl,?_,?_,?_,?_,?_,?_,?_,rfl⟩
  ·first|(rw [hs];done)|(rw [hs,← AA];done)|(rw [hs,← AF];done)|exact AP (AG (by omega) (by omega))
  ·first|(rw [hs];done)|(rw [hs,← AA];done)|(rw [hs,← AF];done)|exact AP (AG (by omega) (by omega))
  ·first|(rw [hs];done)|(rw [hs,← AA];done)|(rw [hs,← AF];done)|exact AP (AG (by omega) (by omega))
  ·first|(rw [hs];done)|(rw [hs,← AA];done)|(rw [hs,← AF];done)|exact AP (AG (by omega) (by omega))
  ·first|(rw [hs];done)|(rw [hs,← AA];done)|(rw [hs,← AF];done)|exact AP (AG (by omega) (by omega))
  ·first|(rw [hs];done)|(rw [hs,← AA];done)|(rw [hs,← AF];done)|exact AP (AG (by omega) (by omega))
  ·first|(rw [hs];done)|(rw [hs,← AA];done)|(rw [hs,← AF];done)|exact AP (AG (by omega) (by omega))
  first|(rw [hs];done)|(rw [hs,← AA];done)|(rw [hs,← AF];done)|exact AP (AG (by omega) (by omega))
 try simp only [nrm] at c40
 have h1:¬ (wd (lnK t k) 0=kwA/\(AB 32 (lnK t k)).length=3):=λ h=>by rw [hsw] at c40;omega
 refine ao (a:=0<=(0:Int)/\(0:Int)<((AK (AB 32 (lnK t k))).length:Int)) (by first|rfl|omega|(have:=AR t k;rw [AH];simp only [List.length_cons,List.length_nil];omega)|(have:=AR t k;rw [AE];simp only [List.length_cons,List.length_nil];omega)) λ o72=>?_
 refine ao (a:=0<(AK (AB 32 (lnK t k))).length) (by first|rfl|omega|(have:=AR t k;rw [AH];simp only [List.length_cons,List.length_nil];omega)|(have:=AR t k;rw [AE];simp only [List.length_cons,List.length_nil];omega)) λ o73=>?_
 refine ⟨λ c74=>?_,λ c74=>?_⟩
 ·try simp only [nrm] at c74
  have hs:=RH hk h1 (Iw c74)
  refine ⟨(CK (lnK t k)),by
   rfl,by
   show (CK (lnK t k)).size<=1073741824
   first|(show _<=1073741824;omega)|exact Nat.le_trans (Df _ _) (by omega)|exact hjp|exact trivial,?_⟩
  refine ⟨k+1,by
   first|omega|exact ⟨Nat.zero_le _,rfl⟩,by
   first|omega|(simp;omega),?_⟩
  refine ⟨rfl,rfl,?_,rfl,rfl,rfl,rfl,rfl,rfl,rfl,?_,?_,?_,?_,?_,?_,?_,rfl⟩
  ·first|(rw [hs];done)|(rw [hs,← AA];done)|(rw [hs,← AF];done)|exact AP (AG (by omega) (by omega))
  ·first|(rw [hs];done)|(rw [hs,← AA];done)|(rw [hs,← AF];done)|exact AP (AG (by omega) (by omega))
  ·first|(rw [hs];done)|(rw [hs,← AA];done)|(rw [hs,← AF];done)|exact AP (AG (by omega) (by omega))
  ·first|(rw [hs];done)|(rw [hs,← AA];done)|(rw [hs,← AF];done)|exact AP (AG (by omega) (by omega))
  ·first|(rw [hs];done)|(rw [hs,← AA];done)|(rw [hs,← AF];done)|exact AP (AG (by omega) (by omega))
  ·first|(rw [hs];done)|(rw [hs,← AA];done)|(rw [hs,← AF];done)|exact AP (AG (by omega) (by omega))
  ·first|(rw [hs];done)|(rw [hs,← AA];done)|(rw [hs,← AF];done)|exact AP (AG (by omega) (by omega))
  first|(rw [hs];done)|(rw [hs,← AA];done)|(rw [hs,← AF];done)|exact AP (AG (by omega) (by omega))
 try simp only [nrm] at c74
 refine ao (a:=0<=(0:Int)/\(0:Int)<((AK (AB 32 (lnK t k))).length:Int)) (by first|rfl|omega|(have:=AR t k;rw [AH];simp only [List.length_cons,List.length_nil];omega)|(have:=AR t k;rw [AE];simp only [List.length_cons,List.length_nil];omega)) λ o99=>?_
 refine ao (a:=0<(AK (AB 32 (lnK t k))).length) (by first|rfl|omega|(have:=AR t k;rw [AH];simp only [List.length_cons,List.length_nil];omega)|(have:=AR t k;rw [AE];simp only [List.length_cons,List.length_nil];omega)) λ o100=>?_
 refine ⟨λ c101=>?_,λ c101=>?_⟩
 ·try simp only [nrm] at c101
  have hs:=RI hk h1 (Dg c74) (Iw c101)
  refine ⟨(CK (lnK t k)),by
   rfl,by
   show (CK (lnK t k)).size<=1073741824
   first|(show _<=1073741824;omega)|exact Nat.le_trans (Df _ _) (by omega)|exact hjp|exact trivial,?_⟩
  refine ao (by first|rfl|omega|(have:=AR t k;rw [AH];simp only [List.length_cons,List.length_nil];omega)|(have:=AR t k;rw [AE];simp only [List.length_cons,List.length_nil];omega)) λ o105=>?_
  refine ⟨k+1,by
   first|omega|exact ⟨Nat.zero_le _,rfl⟩,by
   first|omega|(simp;omega),?_⟩
  refine ⟨rfl,rfl,?_,rfl,rfl,rfl,rfl,rfl,rfl,rfl,?_,?_,?_,?_,?_,?_,?_,rfl⟩
  ·first|(rw [hs];done)|(rw [hs,← AA];done)|(rw [hs,← AF];done)|exact AP (AG (by omega) (by omega))
  ·first|(rw [hs];done)|(rw [hs,← AA];done)|(rw [hs,← AF];done)|exact AP (AG (by omega) (by omega))
  ·first|(rw [hs];done)|(rw [hs,← AA];done)|(rw [hs,← AF];done)|exact AP (AG (by omega) (by omega))
  ·first|(rw [hs];done)|(rw [hs,← AA];done)|(rw [hs,← AF];done)|exact AP (AG (by omega) (by omega))
  ·first|(rw [hs];done)|(rw [hs,← AA];done)|(rw [hs,← AF];done)|exact AP (AG (by omega) (by omega))
  ·first|(rw [hs];done)|(rw [hs,← AA];done)|(rw [hs,← AF];done)|exact AP (AG (by omega) (by omega))
  ·first|(rw [hs];done)|(rw [hs,← AA];done)|(rw [hs,← AF];done)|exact AP (AG (by omega) (by omega))
  first|(rw [hs];done)|(rw [hs,← AA];done)|(rw [hs,← AF];done)|exact AP (AG (by omega) (by omega))
 try simp only [nrm] at c101
 refine ao (a:=0<=(0:Int)/\(0:Int)<((AK (AB 32 (lnK t k))).length:Int)) (by first|rfl|omega|(have:=AR t k;rw [AH];simp only [List.length_cons,List.length_nil];omega)|(have:=AR t k;rw [AE];simp only [List.length_cons,List.length_nil];omega)) λ o127=>?_
 refine ao (a:=0<(AK (AB 32 (lnK t k))).length) (by first|rfl|omega|(have:=AR t k;rw [AH];simp only [List.length_cons,List.length_nil];omega)|(have:=AR t k;rw [AE];simp only [List.length_cons,List.length_nil];omega)) λ o128=>?_
 refine And.symm ⟨λ c129=>?_,λ c129=>?_⟩
 ·try simp only [nrm] at c129
  have hs:=RK hk h1 (Dg c74) (Dg c101) (Dg c129)
  refine ⟨k+1,by
   first|omega|exact ⟨Nat.zero_le _,rfl⟩,by
   first|omega|(simp;omega),?_⟩
  refine ⟨rfl,rfl,?_,rfl,rfl,rfl,rfl,rfl,rfl,rfl,?_,?_,?_,?_,?_,?_,?_,rfl⟩
  ·first|(rw [hs];done)|(rw [hs,← AA];done)|(rw [hs,← AF];done)|exact AP (AG (by omega) (by omega))
  ·first|(rw [hs];done)|(rw [hs,← AA];done)|(rw [hs,← AF];done)|exact AP (AG (by omega) (by omega))
  ·first|(rw [hs];done)|(rw [hs,← AA];done)|(rw [hs,← AF];done)|exact AP (AG (by omega) (by omega))
  ·first|(rw [hs];done)|(rw [hs,← AA];done)|(rw [hs,← AF];done)|exact AP (AG (by omega) (by omega))
  ·first|(rw [hs];done)|(rw [hs,← AA];done)|(rw [hs,← AF];done)|exact AP (AG (by omega) (by omega))
  ·first|(rw [hs];done)|(rw [hs,← AA];done)|(rw [hs,← AF];done)|exact AP (AG (by omega) (by omega))
  ·first|(rw [hs];done)|(rw [hs,← AA];done)|(rw [hs,← AF];done)|exact AP (AG (by omega) (by omega))
  first|(rw [hs];done)|(rw [hs,← AA];done)|(rw [hs,← AF];done)|exact AP (AG (by omega) (by omega))
 try simp only [nrm] at c129
 have hs:=RJ hk h1 (Dg c74) (Dg c101) (Iw c129)
 refine ⟨(CK (lnK t k)),by
  rfl,by
  show (CK (lnK t k)).size<=1073741824
  first|(show _<=1073741824;omega)|exact Nat.le_trans (Df _ _) (by omega)|exact hjp|exact trivial,?_⟩
 refine ao (by first|rfl|omega|(have:=AR t k;rw [AH];simp only [List.length_cons,List.length_nil];omega)|(have:=AR t k;rw [AE];simp only [List.length_cons,List.length_nil];omega)) λ o133=>?_
 refine ⟨k+1,by
  first|omega|exact ⟨Nat.zero_le _,rfl⟩,by
  first|omega|(simp;omega),?_⟩
 refine ⟨rfl,rfl,?_,rfl,rfl,rfl,rfl,rfl,rfl,rfl,?_,?_,?_,?_,?_,?_,?_,rfl⟩
 ·first|(rw [hs];done)|(rw [hs,← AA];done)|(rw [hs,← AF];done)|exact AP (AG (by omega) (by omega))
 ·first|(rw [hs];done)|(rw [hs,← AA];done)|(rw [hs,← AF];done)|exact AP (AG (by omega) (by omega))
 ·first|(rw [hs];done)|(rw [hs,← AA];done)|(rw [hs,← AF];done)|exact AP (AG (by omega) (by omega))
 ·first|(rw [hs];done)|(rw [hs,← AA];done)|(rw [hs,← AF];done)|exact AP (AG (by omega) (by omega))
 ·first|(rw [hs];done)|(rw [hs,← AA];done)|(rw [hs,← AF];done)|exact AP (AG (by omega) (by omega))
 ·first|(rw [hs];done)|(rw [hs,← AA];done)|(rw [hs,← AF];done)|exact AP (AG (by omega) (by omega))
 ·first|(rw [hs];done)|(rw [hs,← AA];done)|(rw [hs,← AF];done)|exact AP (AG (by omega) (by omega))
 first|(rw [hs];done)|(rw [hs,← AA];done)|(rw [hs,← AF];done)|exact AP (AG (by omega) (by omega))
end Go.Proofs.YtcpjekkiejhgpaaGreatDoor
