import Derived.Test.YtmekciknfocmmaaGreatDoorScRkS4
import Derived.Test.YtmekciknfocmmaaGreatDoorScPsc
namespace Go.Proofs.YtmekciknfocmmaaGreatDoor
set_option maxRecDepth 100000
set_option linter.unusedVariables false
set_option linter.unusedSimpArgs false
open Go.RowKit
theorem Nx (c:UInt8) (s:ByteArray):0<(AI c s).length:=by rw [RH,List.length_append];simp
theorem Ny (s:ByteArray):(AS s).length<=s.size+1:=by
 have:=Dx 10 s
 unfold AS
 split
 ·rw [List.length_take];omega
 ·exact this
theorem Pk {s l:ByteArray} (h:l ∈ AS s):l.size<=s.size:=by
 unfold AS at h
 split at h
 ·exact Dj (List.mem_of_mem_take h)
 ·exact Dj h
def Dz:Con:={ ι:=ByteArray,pre:=λ i=>i.size<=1073741824,args:=λ i=>[.one (.im (.string i))],res:=λ i=>⟨false,[none],[.own 9 [.str] (AZ (AS i))]⟩ }
theorem Pm:Dz.Ok Tryz.prog 14:=by
 refine fok (X:=⟨tt,[(31,Bo)],[17],19,[]⟩) mixed BC (CTok.cons KK (CTok.nil _)) Tryz.func14 (λ _=>[]) ?_
 intro (s:ByteArray) hpre
 have hpre:s.size<=1073741824:=hpre
 refine BB (q:=∃ i1:ByteArray×UInt8,let Z2:=AZ (AI i1.2 i1.1);let Z1:=wR ((nI (Z2.length))-(1:Int));[DA.one (DC.im (Value.string s)),DA.one (DC.im (Value.string (⟨#[10]⟩:ByteArray)))]=Bo.args i1/\Bo.pre i1/\((0<=Z1/\Z1<(Z2.length:Int))/\((Z1.toNat<Z2.length)/\(ifB ((((((Z2.getD (Z1.toNat) []).getD 0 (.int 0))).s).toList == (⟨#[]⟩:ByteArray).toList)) ((Nat.beq 1 1=true)/\(((0:Int)=0)/\((0<=Z1)/\((Z1<=(Z2.length:Int))/\(((Z2.take (Z1.toNat))=AZ (AS s))))))) ((AZ (AI i1.2 i1.1)=AZ (AS s))))))) (by kernel_rfl) ?_
 conv=>zeta
 delta ifB wR nI
 have hp:=Nx 10 s
 have hwl:=Dx 10 s
 have hsl:=Ah (AI 10 s)
 have hw:IntKind.i64.wrap (((AZ (AI 10 s)).length:Int)-1)=(((AI 10 s).length-1:Nat):Int):=by rw [hsl,AE (by omega) (by omega)];omega
 have hn:(IntKind.i64.wrap (((AZ (AI 10 s)).length:Int)-1)).toNat=(AI 10 s).length-1:=by rw [hw];omega
 refine ⟨(s,10),by
  rfl,by
  show s.size<=1073741824
  first|trivial|(first|omega|assumption|exact hpre.1|exact hpre.2|(simp;done)),?_⟩
 refine ao (a:=0<=(IntKind.i64.wrap ((((AZ (AI 10 s)).length:Nat):Int)-(1:Int)))/\(IntKind.i64.wrap ((((AZ (AI 10 s)).length:Nat):Int)-(1:Int)))<((AZ (AI 10 s)).length:Int)) (by first|rfl|omega|(simp;done)|(simp;omega)) λ o4=>?_
 refine ao (a:=(IntKind.i64.wrap ((((AZ (AI 10 s)).length:Nat):Int)-(1:Int))).toNat<(AZ (AI 10 s)).length) (by first|rfl|omega|(simp;done)|(simp;omega)) λ o5=>?_
 refine And.symm ⟨λ c6=>?_,λ c6=>?_⟩
 ·try dsimp only at c6
  try simp only [nrm] at c6
  rw [hn,Hs (by omega)] at c6
  have hl:AS s=AI 10 s:=if_neg (D6 c6)
  show AZ (AI 10 s)=AZ (AS s)
  rw [hl]
 try dsimp only at c6
 try simp only [nrm] at c6
 rw [hn,Hs (by omega)] at c6
 have hl:AS s=(AI 10 s).take ((AI 10 s).length-1):=if_pos (KL c6)
 refine ao (by first|rfl|omega|(simp;done)|(simp;omega)) λ o7=>?_
 refine ao (by first|rfl|omega|(simp;done)|(simp;omega)) λ o8=>?_
 refine ao (a:=0<=(IntKind.i64.wrap ((((AZ (AI 10 s)).length:Nat):Int)-(1:Int)))) (by first|rfl|omega|(simp;done)|(simp;omega)) λ o9=>?_
 refine ao (a:=(IntKind.i64.wrap ((((AZ (AI 10 s)).length:Nat):Int)-(1:Int)))<=((AZ (AI 10 s)).length:Int)) (by first|rfl|omega|(simp;done)|(simp;omega)) λ o10=>?_
 show ((AZ (AI 10 s)).take ((IntKind.i64.wrap ((((AZ (AI 10 s)).length:Nat):Int)-(1:Int))).toNat))=AZ (AS s)
 rw [hn,hl];exact List.map_take.symm
def lnK (t:ByteArray) (k:Nat):ByteArray:=(AS t).getD k ⟨#[]⟩
theorem Su (t:ByteArray) (k:Nat):(lnK t k).size<=t.size:=Ht (λ x hx=>Pk hx) k
theorem TM {t:ByteArray} {k:Nat} (hk:k<(AS t).length) (h:Aq (lnK t k) 32=kwA):okL (lnK t k)=(okV (Aq (Ag (lnK t k) 32) 32) && okV (Ag (Ag (lnK t k) 32) 32))/\stI t (k+1)=⟨vOf (Aq (Ag (lnK t k) 32) 32),vOf (Ag (Ag (lnK t k) 32) 32),(stI t k).robot,(stI t k).obst,(stI t k).tables⟩:=
 ⟨if_pos h,(F7 hk).trans (if_pos h)⟩
theorem TN {t:ByteArray} {k:Nat} (hk:k<(AS t).length) (h1:Aq (lnK t k) 32≠kwA) (h:Aq (lnK t k) 32=kwB):okL (lnK t k)=okP (Ag (lnK t k) 32)/\stI t (k+1)=⟨(stI t k).low,(stI t k).high,Ey (Ag (lnK t k) 32),(stI t k).obst,(stI t k).tables⟩:=
 ⟨(if_neg h1).trans (if_pos h),(F7 hk).trans ((if_neg h1).trans (if_pos h))⟩
theorem TO {t:ByteArray} {k:Nat} (hk:k<(AS t).length) (h1:Aq (lnK t k) 32≠kwA) (h2:Aq (lnK t k) 32≠kwB) (h:Aq (lnK t k) 32=kwC):okL (lnK t k)=okP (Ag (lnK t k) 32)/\stI t (k+1)=⟨(stI t k).low,(stI t k).high,(stI t k).robot,(stI t k).obst++[Ey (Ag (lnK t k) 32)],(stI t k).tables⟩:=
 ⟨(if_neg h1).trans ((if_neg h2).trans (if_pos h)),(F7 hk).trans ((if_neg h1).trans ((if_neg h2).trans (if_pos h)))⟩
theorem TP {t:ByteArray} {k:Nat} (hk:k<(AS t).length) (h1:Aq (lnK t k) 32≠kwA) (h2:Aq (lnK t k) 32≠kwB) (h3:Aq (lnK t k) 32≠kwC) (h:Aq (lnK t k) 32=kwD):okL (lnK t k)=okV (Ag (lnK t k) 32)/\stI t (k+1)=⟨(stI t k).low,(stI t k).high,(stI t k).robot,(stI t k).obst,(stI t k).tables++[vOf (Ag (lnK t k) 32)]⟩:=
 ⟨(if_neg h1).trans ((if_neg h2).trans ((if_neg h3).trans (if_pos h))),(F7 hk).trans ((if_neg h1).trans ((if_neg h2).trans ((if_neg h3).trans (if_pos h))))⟩
theorem TQ {t:ByteArray} {k:Nat} (h1:Aq (lnK t k) 32≠kwA) (h2:Aq (lnK t k) 32≠kwB) (h3:Aq (lnK t k) 32≠kwC) (h:Aq (lnK t k) 32≠kwD):okL (lnK t k)=false:=
 (if_neg h1).trans ((if_neg h2).trans ((if_neg h3).trans (if_neg h)))
theorem Er {t:ByteArray} {k:Nat} (hk:k<(AS t).length) (h:okL (lnK t k)=false):okT t=false:=RW hk h
theorem F8 {t:ByteArray} {k:Nat} (hk:k<(AS t).length):((AS t).take (k+1)).all okL=(((AS t).take k).all okL && okL (lnK t k)):=by
 rw [List.take_succ_eq_append_getElem hk,List.all_append]
 simp [lnK,List.getD,hk]
theorem SG (s:Scn) (l:ByteArray):(rdI s l).obst.length<=s.obst.length+1/\(rdI s l).tables.length<=s.tables.length+1:=by
 unfold rdI
 repeat' split
 all_goals simp
theorem Md {f:Scn->ByteArray->Scn} (hf:∀ s l,(f s l).obst.length<=s.obst.length+1/\(f s l).tables.length<=s.tables.length+1):∀ (L:List ByteArray) (s:Scn),(L.foldl f s).obst.length<=s.obst.length+L.length/\(L.foldl f s).tables.length<=s.tables.length+L.length
 | [],s=>⟨Nat.le_refl _,Nat.le_refl _⟩
 | l::r,s=>by
  have h1:=Md hf r (f s l)
  have h2:=hf s l
  rw [List.foldl_cons,List.length_cons]
  omega
theorem DM (t:ByteArray) (k:Nat):(stI t k).obst.length<=k/\(stI t k).tables.length<=k:=by
 have:=Md SG ((AS t).take k) ET
 have h2:((AS t).take k).length<=k:=by rw [List.length_take];omega
 have h3:ET.obst.length=0/\ET.tables.length=0:=⟨rfl,rfl⟩
 unfold stI;omega
theorem AM (l:List (List V2)) (p:List V2):AB l++[[Dat.sl (AA p)]]=AB (l++[p]):=by simp [AB]
theorem AR (l:List V2) (v:V2):AA l++[[Dat.int v.1,Dat.int v.2]]=AA (l++[v]):=by simp [AA,HY]
def Es:Con:={ ι:=ByteArray,pre:=λ i=>i.size<=1073741824,args:=λ i=>[.one (.im (.string i))],res:=λ i=>⟨true,[some 7,none],[rcI ((Bc i).low.1),rcI ((Bc i).low.2),rcI ((Bc i).high.1),rcI ((Bc i).high.2),.own 24 [.int,.int] (AA (Bc i).robot),.own 25 [.sl 24 [.int,.int]] (AB (Bc i).obst),.own 24 [.int,.int] (AA (Bc i).tables),rcB (okT i)]⟩ }
set_option maxHeartbeats 1600000 in
theorem RX:Es.Ok Tryz.prog 5:=by
 refine fok (X:=⟨tt,[(14,Dz),(32,Bj),(33,BI),(34,Ch),(16,A4),(17,At)],[7],31,[(15,⟨Tryz.f15.body.getD .skip,Tryz.f15.ntmps,Tryz.f15.results.toList⟩)]⟩) mixed BC (CTok.cons Pm (CTok.cons Ob (CTok.cons MV (CTok.cons RP (CTok.cons Gl (CTok.cons FS (CTok.nil _))))))) (hil:=(InlOk.cons Tryz.func15 (by decide) rfl rfl rfl (InlOk.nil _))) Tryz.func5 (λ (i:ByteArray)=>let Z3:=AS i;let Z1:=Value.slice none 0 0;[(3,.mk 7 (Nat) (λ x1=>let Z2:=stI i x1;{ tm:=[(0,.one (.one (.im (Value.string i)))),(2,tP 1 0),(4,tP 2 0),(9,tX 6),(10,tI ((AZ Z3).length:Int)),(11,tI (x1:Int))],en:=[(1,.box [kI (0:Int),kI (0:Int),kI (0:Int),kI (0:Int),.im Z1,.im Z1,.im Z1]),(2,.box [kI (Z2.low.1),kI (Z2.low.2),kI (Z2.high.1),kI (Z2.high.2),.ext 3,.ext 4,.ext 5]),(3,.own 24 [.int,.int] (AA Z2.robot)),(4,.own 25 [.sl 24 [.int,.int]] (AB Z2.obst)),(5,.own 24 [.int,.int] (AA Z2.tables)),(6,.own 9 [.str] (AZ Z3))] }) (λ x1=>x1<=Z3.length/\(Z3.take x1).all okL=true) (λ x1=>Z3.length-x1) (λ _=>[]))]) ?_
 intro (t:ByteArray) hpre
 have hpre:t.size<=1073741824:=hpre
 refine BB (q:=let Z33:=(!false);let Z21:=DC.im (Value.string (⟨#[32]⟩:ByteArray));let Z17:=List Dat;let Z10:=Value.string t;let Z5:=AS t;let Z13:=AZ Z5;let Z6:=(Z13.length:Int);let Z4:=vI (0:Int);let Z2:=Value.slice none 0 0;let Z1:=(vI (0:Int)=vI ((Bc t).low.1))/\(vI (0:Int)=vI ((Bc t).low.2))/\(vI (0:Int)=vI ((Bc t).high.1))/\(vI (0:Int)=vI ((Bc t).high.2))/\(([]:List Z17)=AA (Bc t).robot)/\(([]:List Z17)=AB (Bc t).obst)/\(([]:List Z17)=AA (Bc t).tables)/\(vB false=vB (okT t));∃ i1:ByteArray,[DA.one (DC.im Z10)]=Dz.args i1/\Dz.pre i1/\((∃ x1:Nat,let Z23:=stI t x1;(x1<=Z5.length/\(Z5.take x1).all okL=true)/\((rf Z10)/\(vI (nI ((AZ (AS i1)).length))=vI Z6)/\(vI (0:Int)=vI (x1:Int))/\(rf Z4)/\(rf Z4)/\(rf Z4)/\(rf Z4)/\(rf Z2)/\(rf Z2)/\(rf Z2)/\(vI (0:Int)=vI (Z23.low.1))/\(vI (0:Int)=vI (Z23.low.2))/\(vI (0:Int)=vI (Z23.high.1))/\(vI (0:Int)=vI (Z23.high.2))/\(([]:List Z17)=(AA Z23.robot))/\(([]:List Z17)=(AB Z23.obst))/\(([]:List Z17)=(AA Z23.tables))/\(AZ (AS i1)=Z13)))/\∀ x1:Nat,let Z7:=wR ((x1:Int)+(1:Int));let Z3:=stI t x1;let Z19:=Z3.low.2;let Z18:=Z3.low.1;let Z16:=Z3.high.2;let Z15:=Z3.high.1;let Z11:=AA Z3.robot;let Z9:=AB Z3.obst;let Z8:=AA Z3.tables;(x1<=Z5.length/\(Z5.take x1).all okL=true)->(ifB ((decide ((x1:Int)<Z6))) ((0<=(x1:Int)/\(x1:Int)<Z6)/\((x1<Z13.length)/\(∃ i2:ByteArray×UInt8,let Z24:=Aq i2.1 i2.2;let Z12:=DC.im (Value.string (Ag i2.1 i2.2));[DA.one (DC.im (Value.string ((((Z13.getD x1 []).getD 0 (.int 0))).s))),DA.one Z21]=Bj.args i2/\Bj.pre i2/\(ifB ((Z24.toList == (⟨#[114,111,111,109]⟩:ByteArray).toList)) (∃ i3:ByteArray×UInt8,[DA.one Z12,DA.one Z21]=Bj.args i3/\Bj.pre i3/\(∃ i4:ByteArray,[DA.one (DC.im (Value.string (Aq i3.1 i3.2)))]=BI.args i4/\BI.pre i4/\(∃ i5:ByteArray,[DA.one (DC.im (Value.string (Ag i3.1 i3.2)))]=BI.args i5/\BI.pre i5/\(ifB ((okV i4)) (ifB ((!(okV i5))) Z1 (∃ y2:Nat,let Z25:=stI t y2;(y2<=Z5.length/\(Z5.take y2).all okL=true)/\(Z5.length-y2<Z5.length-x1)/\((rf Z10)/\(rf (vI Z6))/\(vI Z7=vI (y2:Int))/\(rf Z4)/\(rf Z4)/\(rf Z4)/\(rf Z4)/\(rf Z2)/\(rf Z2)/\(rf Z2)/\(vI ((vOf i4).1)=vI (Z25.low.1))/\(vI ((vOf i4).2)=vI (Z25.low.2))/\(vI ((vOf i5).1)=vI (Z25.high.1))/\(vI ((vOf i5).2)=vI (Z25.high.2))/\(Z11=(AA Z25.robot))/\(Z9=(AB Z25.obst))/\(Z8=(AA Z25.tables))/\(rf Z13)))) (ifB Z33 Z1 (∃ y3:Nat,let Z26:=stI t y3;(y3<=Z5.length/\(Z5.take y3).all okL=true)/\(Z5.length-y3<Z5.length-x1)/\((rf Z10)/\(rf (vI Z6))/\(vI Z7=vI (y3:Int))/\(rf Z4)/\(rf Z4)/\(rf Z4)/\(rf Z4)/\(rf Z2)/\(rf Z2)/\(rf Z2)/\(vI ((vOf i4).1)=vI (Z26.low.1))/\(vI ((vOf i4).2)=vI (Z26.low.2))/\(vI ((vOf i5).1)=vI (Z26.high.1))/\(vI ((vOf i5).2)=vI (Z26.high.2))/\(Z11=(AA Z26.robot))/\(Z9=(AB Z26.obst))/\(Z8=(AA Z26.tables))/\(rf Z13)))))))) (ifB ((Z24.toList == (⟨#[114,111,98,111,116]⟩:ByteArray).toList)) (∃ i6:ByteArray,[DA.one Z12]=Ch.args i6/\Ch.pre i6/\(ifB ((okP i6)) (ifB ((!true)) Z1 (∃ y4:Nat,let Z27:=stI t y4;(y4<=Z5.length/\(Z5.take y4).all okL=true)/\(Z5.length-y4<Z5.length-x1)/\((rf Z10)/\(rf (vI Z6))/\(vI Z7=vI (y4:Int))/\(rf Z4)/\(rf Z4)/\(rf Z4)/\(rf Z4)/\(rf Z2)/\(rf Z2)/\(rf Z2)/\(vI Z18=vI (Z27.low.1))/\(vI Z19=vI (Z27.low.2))/\(vI Z15=vI (Z27.high.1))/\(vI Z16=vI (Z27.high.2))/\(AA (Ey i6)=(AA Z27.robot))/\(Z9=(AB Z27.obst))/\(Z8=(AA Z27.tables))/\(rf Z13)))) (ifB Z33 Z1 (∃ y5:Nat,let Z28:=stI t y5;(y5<=Z5.length/\(Z5.take y5).all okL=true)/\(Z5.length-y5<Z5.length-x1)/\((rf Z10)/\(rf (vI Z6))/\(vI Z7=vI (y5:Int))/\(rf Z4)/\(rf Z4)/\(rf Z4)/\(rf Z4)/\(rf Z2)/\(rf Z2)/\(rf Z2)/\(vI Z18=vI (Z28.low.1))/\(vI Z19=vI (Z28.low.2))/\(vI Z15=vI (Z28.high.1))/\(vI Z16=vI (Z28.high.2))/\(AA (Ey i6)=(AA Z28.robot))/\(Z9=(AB Z28.obst))/\(Z8=(AA Z28.tables))/\(rf Z13)))))) (ifB ((Z24.toList == (⟨#[111,98,115,116,97,99,108,101]⟩:ByteArray).toList)) (∃ i7:ByteArray,let Z20:=Z9++([[Dat.sl (AA (Ey i7))]]:List Z17);[DA.one Z12]=Ch.args i7/\Ch.pre i7/\((Z9.length+([[Dat.sl (AA (Ey i7))]]:List Z17).length<=2199023255552)/\(ifB ((okP i7)) (ifB ((!true)) Z1 (∃ y6:Nat,let Z29:=stI t y6;(y6<=Z5.length/\(Z5.take y6).all okL=true)/\(Z5.length-y6<Z5.length-x1)/\((rf Z10)/\(rf (vI Z6))/\(vI Z7=vI (y6:Int))/\(rf Z4)/\(rf Z4)/\(rf Z4)/\(rf Z4)/\(rf Z2)/\(rf Z2)/\(rf Z2)/\(vI Z18=vI (Z29.low.1))/\(vI Z19=vI (Z29.low.2))/\(vI Z15=vI (Z29.high.1))/\(vI Z16=vI (Z29.high.2))/\(Z11=(AA Z29.robot))/\(Z20=(AB Z29.obst))/\(Z8=(AA Z29.tables))/\(rf Z13)))) (ifB Z33 Z1 (∃ y7:Nat,let Z30:=stI t y7;(y7<=Z5.length/\(Z5.take y7).all okL=true)/\(Z5.length-y7<Z5.length-x1)/\((rf Z10)/\(rf (vI Z6))/\(vI Z7=vI (y7:Int))/\(rf Z4)/\(rf Z4)/\(rf Z4)/\(rf Z4)/\(rf Z2)/\(rf Z2)/\(rf Z2)/\(vI Z18=vI (Z30.low.1))/\(vI Z19=vI (Z30.low.2))/\(vI Z15=vI (Z30.high.1))/\(vI Z16=vI (Z30.high.2))/\(Z11=(AA Z30.robot))/\(Z20=(AB Z30.obst))/\(Z8=(AA Z30.tables))/\(rf Z13))))))) (ifB ((Z24.toList == (⟨#[116,97,98,108,101]⟩:ByteArray).toList)) (∃ i8:ByteArray,let Z14:=Z8++([[Dat.int ((vOf i8).1),Dat.int ((vOf i8).2)]]:List Z17);[DA.one Z12]=BI.args i8/\BI.pre i8/\((Z8.length+([[Dat.int ((vOf i8).1),Dat.int ((vOf i8).2)]]:List Z17).length<=2199023255552)/\(ifB ((okV i8)) (ifB ((!true)) Z1 (∃ y8:Nat,let Z31:=stI t y8;(y8<=Z5.length/\(Z5.take y8).all okL=true)/\(Z5.length-y8<Z5.length-x1)/\((rf Z10)/\(rf (vI Z6))/\(vI Z7=vI (y8:Int))/\(rf Z4)/\(rf Z4)/\(rf Z4)/\(rf Z4)/\(rf Z2)/\(rf Z2)/\(rf Z2)/\(vI Z18=vI (Z31.low.1))/\(vI Z19=vI (Z31.low.2))/\(vI Z15=vI (Z31.high.1))/\(vI Z16=vI (Z31.high.2))/\(Z11=(AA Z31.robot))/\(Z9=(AB Z31.obst))/\(Z14=(AA Z31.tables))/\(rf Z13)))) (ifB Z33 Z1 (∃ y9:Nat,let Z32:=stI t y9;(y9<=Z5.length/\(Z5.take y9).all okL=true)/\(Z5.length-y9<Z5.length-x1)/\((rf Z10)/\(rf (vI Z6))/\(vI Z7=vI (y9:Int))/\(rf Z4)/\(rf Z4)/\(rf Z4)/\(rf Z4)/\(rf Z2)/\(rf Z2)/\(rf Z2)/\(vI Z18=vI (Z32.low.1))/\(vI Z19=vI (Z32.low.2))/\(vI Z15=vI (Z32.high.1))/\(vI Z16=vI (Z32.high.2))/\(Z11=(AA Z32.robot))/\(Z9=(AB Z32.obst))/\(Z14=(AA Z32.tables))/\(rf Z13))))))) (ifB Z33 Z1 (∃ y10:Nat,let Z22:=stI t y10;(y10<=Z5.length/\(Z5.take y10).all okL=true)/\(Z5.length-y10<Z5.length-x1)/\((rf Z10)/\(rf (vI Z6))/\(vI Z7=vI (y10:Int))/\(rf Z4)/\(rf Z4)/\(rf Z4)/\(rf Z4)/\(rf Z2)/\(rf Z2)/\(rf Z2)/\(vI Z18=vI (Z22.low.1))/\(vI Z19=vI (Z22.low.2))/\(vI Z15=vI (Z22.high.1))/\(vI Z16=vI (Z22.high.2))/\(Z11=(AA Z22.robot))/\(Z9=(AB Z22.obst))/\(Z8=(AA Z22.tables))/\(rf Z13))))))))))) (∃ i9:Scn,[DA.agg [cI Z18,cI Z19,cI Z15,cI Z16,DC.sl 24 [.int,.int] Z11,DC.sl 25 [.sl 24 [.int,.int]] Z9,DC.sl 24 [.int,.int] Z8]]=A4.args i9/\A4.pre i9/\(ifB ((!(!(AG i9)))) (∃ i10:Scn,[DA.agg [cI Z18,cI Z19,cI Z15,cI Z16,DC.sl 24 [.int,.int] Z11,DC.sl 25 [.sl 24 [.int,.int]] Z9,DC.sl 24 [.int,.int] Z8]]=At.args i10/\At.pre i10/\(ifB ((!((Ab i10).toList == t.toList))) Z1 ((vI Z18=vI ((Bc t).low.1))/\(vI Z19=vI ((Bc t).low.2))/\(vI Z15=vI ((Bc t).high.1))/\(vI Z16=vI ((Bc t).high.2))/\(Z11=AA (Bc t).robot)/\(Z9=AB (Bc t).obst)/\(Z8=AA (Bc t).tables)/\(vB true=vB (okT t))))) Z1))))) (by kernel_rfl) ?_
 conv=>zeta
 delta ifB vB vI wR nI
 have hll:=Ny t
 have hsl:=Ah (AS t)
 refine ⟨t,by
  rfl,by
  show t.size<=1073741824
  first|(show _<=1073741824;omega)|exact trivial|exact c331,?_⟩
 refine ⟨⟨0,by
  exact ⟨Nat.zero_le _,rfl⟩,?_⟩,?_⟩
 ·refine ⟨rfl,?_,rfl,rfl,rfl,rfl,rfl,rfl,rfl,rfl,?_,?_,?_,?_,?_,?_,?_,rfl⟩
  ·rfl
  ·rfl
  ·rfl
  ·rfl
  ·rfl
  ·rfl
  ·rfl
  rfl
 intro (k:Nat) hki4
 have hki4:k<=(AS t).length/\((AS t).take k).all okL=true:=hki4
 refine And.symm ⟨λ c24=>?_,λ c24=>?_⟩
 ·try simp only [nrm] at c24
  have hk:k=(AS t).length:=by omega
  refine ⟨(stI t k),by
   rfl,by
   first|(show _<=1073741824;omega)|exact trivial|exact c331,?_⟩
  refine And.symm ⟨λ c331=>?_,λ c331=>?_⟩
  ·try simp only [nrm] at c331
   have hno:=Mc (t:=t) (by rw [← hk];exact c331)
   refine ⟨?_,?_,?_,?_,?_,?_,?_,?_⟩
   ·first|(rw [AJ hno];rfl)|(rw [hno])|(rw [AF hyes,← hk])|(rw [hyes])
   ·first|(rw [AJ hno];rfl)|(rw [hno])|(rw [AF hyes,← hk])|(rw [hyes])
   ·first|(rw [AJ hno];rfl)|(rw [hno])|(rw [AF hyes,← hk])|(rw [hyes])
   ·first|(rw [AJ hno];rfl)|(rw [hno])|(rw [AF hyes,← hk])|(rw [hyes])
   ·first|(rw [AJ hno];rfl)|(rw [hno])|(rw [AF hyes,← hk])|(rw [hyes])
   ·first|(rw [AJ hno];rfl)|(rw [hno])|(rw [AF hyes,← hk])|(rw [hyes])
   ·first|(rw [AJ hno];rfl)|(rw [hno])|(rw [AF hyes,← hk])|(rw [hyes])
   first|(rw [AJ hno];rfl)|(rw [hno])|(rw [AF hyes,← hk])|(rw [hyes])
  try simp only [nrm] at c331
  refine ⟨(stI t k),by
   rfl,by
   show AG (stI t k)=true
   first|(show _<=1073741824;omega)|exact trivial|exact c331,?_⟩
  refine ⟨λ c335=>?_,λ c335=>?_⟩
  ·try simp only [nrm] at c335
   have hno:=Pj (t:=t) (by rw [← hk];exact D6 c335)
   refine ⟨?_,?_,?_,?_,?_,?_,?_,?_⟩
   ·first|(rw [AJ hno];rfl)|(rw [hno])|(rw [AF hyes,← hk])|(rw [hyes])
   ·first|(rw [AJ hno];rfl)|(rw [hno])|(rw [AF hyes,← hk])|(rw [hyes])
   ·first|(rw [AJ hno];rfl)|(rw [hno])|(rw [AF hyes,← hk])|(rw [hyes])
   ·first|(rw [AJ hno];rfl)|(rw [hno])|(rw [AF hyes,← hk])|(rw [hyes])
   ·first|(rw [AJ hno];rfl)|(rw [hno])|(rw [AF hyes,← hk])|(rw [hyes])
   ·first|(rw [AJ hno];rfl)|(rw [hno])|(rw [AF hyes,← hk])|(rw [hyes])
   ·first|(rw [AJ hno];rfl)|(rw [hno])|(rw [AF hyes,← hk])|(rw [hyes])
   first|(rw [AJ hno];rfl)|(rw [hno])|(rw [AF hyes,← hk])|(rw [hyes])
  try simp only [nrm] at c335
  have hyes:=SF (t:=t) (by rw [← hk];exact c331) (by rw [← hk];exact KL c335)
  refine ⟨?_,?_,?_,?_,?_,?_,?_,?_⟩
  ·first|(rw [AJ hno];rfl)|(rw [hno])|(rw [AF hyes,← hk])|(rw [hyes])
  ·first|(rw [AJ hno];rfl)|(rw [hno])|(rw [AF hyes,← hk])|(rw [hyes])
  ·first|(rw [AJ hno];rfl)|(rw [hno])|(rw [AF hyes,← hk])|(rw [hyes])
  ·first|(rw [AJ hno];rfl)|(rw [hno])|(rw [AF hyes,← hk])|(rw [hyes])
  ·first|(rw [AJ hno];rfl)|(rw [hno])|(rw [AF hyes,← hk])|(rw [hyes])
  ·first|(rw [AJ hno];rfl)|(rw [hno])|(rw [AF hyes,← hk])|(rw [hyes])
  ·first|(rw [AJ hno];rfl)|(rw [hno])|(rw [AF hyes,← hk])|(rw [hyes])
  first|(rw [AJ hno];rfl)|(rw [hno])|(rw [AF hyes,← hk])|(rw [hyes])
 try simp only [nrm] at c24
 have hk:k<(AS t).length:=by omega
 have hlz:=Su t k
 have hc1:=I9 (lnK t k) 32
 have hc2:=I9 (Ag (lnK t k) 32) 32
 refine ao (by first|rfl|omega|(have:=DM t k;rw [AW];simp only [List.length_cons,List.length_nil];omega)|(have:=DM t k;rw [AC];simp only [List.length_cons,List.length_nil];omega)) λ o25=>?_
 refine ao (by first|rfl|omega|(have:=DM t k;rw [AW];simp only [List.length_cons,List.length_nil];omega)|(have:=DM t k;rw [AC];simp only [List.length_cons,List.length_nil];omega)) λ o26=>?_
 refine ⟨(lnK t k,32),by
  exact congrArg (λ x=>[DA.one (DC.im (Value.string x)),DA.one (DC.im (Value.string (⟨#[32]⟩:ByteArray)))]) (Hs (l:=AS t) (k:=k) (by omega)),by
  show (lnK t k).size<=1073741824
  first|(show _<=1073741824;omega)|exact trivial|exact c331,?_⟩
 refine ⟨λ c30=>?_,λ c30=>?_⟩
 ·try simp only [nrm] at c30
  obtain ⟨hq,hs⟩:=TM hk (KL c30)
  refine ⟨(Ag (lnK t k) 32,32),by
   rfl,by
   show (Ag (lnK t k) 32).size<=1073741824
   first|(show _<=1073741824;omega)|exact trivial|exact c331,?_⟩
  refine ⟨Aq (Ag (lnK t k) 32) 32,by
   rfl,by
   show (Aq (Ag (lnK t k) 32) 32).size<=1073741824
   first|(show _<=1073741824;omega)|exact trivial|exact c331,?_⟩
  refine ⟨Ag (Ag (lnK t k) 32) 32,by
   rfl,by
   show (Ag (Ag (lnK t k) 32) 32).size<=1073741824
   first|(show _<=1073741824;omega)|exact trivial|exact c331,?_⟩
  refine And.symm ⟨λ c40=>?_,λ c40=>?_⟩
  ·try simp only [nrm] at c40
   have hno:=Er hk (by rw [hq,c40];rfl)
   refine And.symm ⟨λ c71=>?_,λ c71=>?_⟩
   ·try simp only [nrm] at c71
    try cases c71 -- done
   try simp only [nrm] at c71
   refine ⟨?_,?_,?_,?_,?_,?_,?_,?_⟩
   ·first|(rw [AJ hno];rfl)|(rw [hno])|(rw [AF hyes,← hk])|(rw [hyes])
   ·first|(rw [AJ hno];rfl)|(rw [hno])|(rw [AF hyes,← hk])|(rw [hyes])
   ·first|(rw [AJ hno];rfl)|(rw [hno])|(rw [AF hyes,← hk])|(rw [hyes])
   ·first|(rw [AJ hno];rfl)|(rw [hno])|(rw [AF hyes,← hk])|(rw [hyes])
   ·first|(rw [AJ hno];rfl)|(rw [hno])|(rw [AF hyes,← hk])|(rw [hyes])
   ·first|(rw [AJ hno];rfl)|(rw [hno])|(rw [AF hyes,← hk])|(rw [hyes])
   ·first|(rw [AJ hno];rfl)|(rw [hno])|(rw [AF hyes,← hk])|(rw [hyes])
   first|(rw [AJ hno];rfl)|(rw [hno])|(rw [AF hyes,← hk])|(rw [hyes])
  try simp only [nrm] at c40
  refine ⟨λ c41=>?_,λ c41=>?_⟩
  ·try simp only [nrm] at c41
   have hno:=Er hk (by rw [hq,c40,c41];rfl)
   refine ⟨?_,?_,?_,?_,?_,?_,?_,?_⟩
   ·first|(rw [AJ hno];rfl)|(rw [hno])|(rw [AF hyes,← hk])|(rw [hyes])
   ·first|(rw [AJ hno];rfl)|(rw [hno])|(rw [AF hyes,← hk])|(rw [hyes])
   ·first|(rw [AJ hno];rfl)|(rw [hno])|(rw [AF hyes,← hk])|(rw [hyes])
   ·first|(rw [AJ hno];rfl)|(rw [hno])|(rw [AF hyes,← hk])|(rw [hyes])
   ·first|(rw [AJ hno];rfl)|(rw [hno])|(rw [AF hyes,← hk])|(rw [hyes])
   ·first|(rw [AJ hno];rfl)|(rw [hno])|(rw [AF hyes,← hk])|(rw [hyes])
   ·first|(rw [AJ hno];rfl)|(rw [hno])|(rw [AF hyes,← hk])|(rw [hyes])
   first|(rw [AJ hno];rfl)|(rw [hno])|(rw [AF hyes,← hk])|(rw [hyes])
  try simp only [nrm] at c41
  refine ⟨k+1,by
   exact ⟨by omega,by rw [F8 hk,hki4.2,hq,c40,c41];rfl⟩,by
   first|omega|(simp;omega),?_⟩
  refine ⟨rfl,rfl,?_,rfl,rfl,rfl,rfl,rfl,rfl,rfl,?_,?_,?_,?_,?_,?_,?_,rfl⟩
  ·first|(rw [hs];done)|(rw [hs,← AM];done)|(rw [hs,← AR];done)|exact AV (AE (by omega) (by omega))
  ·first|(rw [hs];done)|(rw [hs,← AM];done)|(rw [hs,← AR];done)|exact AV (AE (by omega) (by omega))
  ·first|(rw [hs];done)|(rw [hs,← AM];done)|(rw [hs,← AR];done)|exact AV (AE (by omega) (by omega))
  ·first|(rw [hs];done)|(rw [hs,← AM];done)|(rw [hs,← AR];done)|exact AV (AE (by omega) (by omega))
  ·first|(rw [hs];done)|(rw [hs,← AM];done)|(rw [hs,← AR];done)|exact AV (AE (by omega) (by omega))
  ·first|(rw [hs];done)|(rw [hs,← AM];done)|(rw [hs,← AR];done)|exact AV (AE (by omega) (by omega))
  ·first|(rw [hs];done)|(rw [hs,← AM];done)|(rw [hs,← AR];done)|exact AV (AE (by omega) (by omega))
  first|(rw [hs];done)|(rw [hs,← AM];done)|(rw [hs,← AR];done)|exact AV (AE (by omega) (by omega))
 try simp only [nrm] at c30
 refine ⟨λ c101=>?_,λ c101=>?_⟩
 ·try simp only [nrm] at c101
  obtain ⟨hq,hs⟩:=TN hk (D6 c30) (KL c101)
  refine ⟨Ag (lnK t k) 32,by
   rfl,by
   show (Ag (lnK t k) 32).size<=1073741824
   first|(show _<=1073741824;omega)|exact trivial|exact c331,?_⟩
  refine And.symm ⟨λ c105=>?_,λ c105=>?_⟩
  ·try simp only [nrm] at c105
   have hno:=Er hk (hq.trans c105)
   refine And.symm ⟨λ c136=>?_,λ c136=>?_⟩
   ·try simp only [nrm] at c136
    try cases c136 -- done
   try simp only [nrm] at c136
   refine ⟨?_,?_,?_,?_,?_,?_,?_,?_⟩
   ·first|(rw [AJ hno];rfl)|(rw [hno])|(rw [AF hyes,← hk])|(rw [hyes])
   ·first|(rw [AJ hno];rfl)|(rw [hno])|(rw [AF hyes,← hk])|(rw [hyes])
   ·first|(rw [AJ hno];rfl)|(rw [hno])|(rw [AF hyes,← hk])|(rw [hyes])
   ·first|(rw [AJ hno];rfl)|(rw [hno])|(rw [AF hyes,← hk])|(rw [hyes])
   ·first|(rw [AJ hno];rfl)|(rw [hno])|(rw [AF hyes,← hk])|(rw [hyes])
   ·first|(rw [AJ hno];rfl)|(rw [hno])|(rw [AF hyes,← hk])|(rw [hyes])
   ·first|(rw [AJ hno];rfl)|(rw [hno])|(rw [AF hyes,← hk])|(rw [hyes])
   first|(rw [AJ hno];rfl)|(rw [hno])|(rw [AF hyes,← hk])|(rw [hyes])
  try simp only [nrm] at c105
  refine ⟨λ c106=>?_,λ c106=>?_⟩
  ·try simp only [nrm] at c106
   try cases c106 -- done
  try simp only [nrm] at c106
  refine ⟨k+1,by
   exact ⟨by omega,by rw [F8 hk,hki4.2,hq,c105];rfl⟩,by
   first|omega|(simp;omega),?_⟩
  refine ⟨rfl,rfl,?_,rfl,rfl,rfl,rfl,rfl,rfl,rfl,?_,?_,?_,?_,?_,?_,?_,rfl⟩
  ·first|(rw [hs];done)|(rw [hs,← AM];done)|(rw [hs,← AR];done)|exact AV (AE (by omega) (by omega))
  ·first|(rw [hs];done)|(rw [hs,← AM];done)|(rw [hs,← AR];done)|exact AV (AE (by omega) (by omega))
  ·first|(rw [hs];done)|(rw [hs,← AM];done)|(rw [hs,← AR];done)|exact AV (AE (by omega) (by omega))
  ·first|(rw [hs];done)|(rw [hs,← AM];done)|(rw [hs,← AR];done)|exact AV (AE (by omega) (by omega))
  ·first|(rw [hs];done)|(rw [hs,← AM];done)|(rw [hs,← AR];done)|exact AV (AE (by omega) (by omega))
  ·first|(rw [hs];done)|(rw [hs,← AM];done)|(rw [hs,← AR];done)|exact AV (AE (by omega) (by omega))
  ·first|(rw [hs];done)|(rw [hs,← AM];done)|(rw [hs,← AR];done)|exact AV (AE (by omega) (by omega))
  first|(rw [hs];done)|(rw [hs,← AM];done)|(rw [hs,← AR];done)|exact AV (AE (by omega) (by omega))
 try simp only [nrm] at c101
 refine ⟨λ c166=>?_,λ c166=>?_⟩
 ·try simp only [nrm] at c166
  obtain ⟨hq,hs⟩:=TO hk (D6 c30) (D6 c101) (KL c166)
  refine ⟨Ag (lnK t k) 32,by
   rfl,by
   show (Ag (lnK t k) 32).size<=1073741824
   first|(show _<=1073741824;omega)|exact trivial|exact c331,?_⟩
  refine ao (by first|rfl|omega|(have:=DM t k;rw [AW];simp only [List.length_cons,List.length_nil];omega)|(have:=DM t k;rw [AC];simp only [List.length_cons,List.length_nil];omega)) λ o170=>?_
  refine And.symm ⟨λ c171=>?_,λ c171=>?_⟩
  ·try simp only [nrm] at c171
   have hno:=Er hk (hq.trans c171)
   refine And.symm ⟨λ c202=>?_,λ c202=>?_⟩
   ·try simp only [nrm] at c202
    try cases c202 -- done
   try simp only [nrm] at c202
   refine ⟨?_,?_,?_,?_,?_,?_,?_,?_⟩
   ·first|(rw [AJ hno];rfl)|(rw [hno])|(rw [AF hyes,← hk])|(rw [hyes])
   ·first|(rw [AJ hno];rfl)|(rw [hno])|(rw [AF hyes,← hk])|(rw [hyes])
   ·first|(rw [AJ hno];rfl)|(rw [hno])|(rw [AF hyes,← hk])|(rw [hyes])
   ·first|(rw [AJ hno];rfl)|(rw [hno])|(rw [AF hyes,← hk])|(rw [hyes])
   ·first|(rw [AJ hno];rfl)|(rw [hno])|(rw [AF hyes,← hk])|(rw [hyes])
   ·first|(rw [AJ hno];rfl)|(rw [hno])|(rw [AF hyes,← hk])|(rw [hyes])
   ·first|(rw [AJ hno];rfl)|(rw [hno])|(rw [AF hyes,← hk])|(rw [hyes])
   first|(rw [AJ hno];rfl)|(rw [hno])|(rw [AF hyes,← hk])|(rw [hyes])
  try simp only [nrm] at c171
  refine ⟨λ c172=>?_,λ c172=>?_⟩
  ·try simp only [nrm] at c172
   try cases c172 -- done
  try simp only [nrm] at c172
  refine ⟨k+1,by
   exact ⟨by omega,by rw [F8 hk,hki4.2,hq,c171];rfl⟩,by
   first|omega|(simp;omega),?_⟩
  refine ⟨rfl,rfl,?_,rfl,rfl,rfl,rfl,rfl,rfl,rfl,?_,?_,?_,?_,?_,?_,?_,rfl⟩
  ·first|(rw [hs];done)|(rw [hs,← AM];done)|(rw [hs,← AR];done)|exact AV (AE (by omega) (by omega))
  ·first|(rw [hs];done)|(rw [hs,← AM];done)|(rw [hs,← AR];done)|exact AV (AE (by omega) (by omega))
  ·first|(rw [hs];done)|(rw [hs,← AM];done)|(rw [hs,← AR];done)|exact AV (AE (by omega) (by omega))
  ·first|(rw [hs];done)|(rw [hs,← AM];done)|(rw [hs,← AR];done)|exact AV (AE (by omega) (by omega))
  ·first|(rw [hs];done)|(rw [hs,← AM];done)|(rw [hs,← AR];done)|exact AV (AE (by omega) (by omega))
  ·first|(rw [hs];done)|(rw [hs,← AM];done)|(rw [hs,← AR];done)|exact AV (AE (by omega) (by omega))
  ·first|(rw [hs];done)|(rw [hs,← AM];done)|(rw [hs,← AR];done)|exact AV (AE (by omega) (by omega))
  first|(rw [hs];done)|(rw [hs,← AM];done)|(rw [hs,← AR];done)|exact AV (AE (by omega) (by omega))
 try simp only [nrm] at c166
 refine And.symm ⟨λ c232=>?_,λ c232=>?_⟩
 ·try simp only [nrm] at c232
  have hno:=Er hk (TQ (D6 c30) (D6 c101) (D6 c166) (D6 c232))
  refine And.symm ⟨λ c298=>?_,λ c298=>?_⟩
  ·try simp only [nrm] at c298
   try cases c298 -- done
  try simp only [nrm] at c298
  refine ⟨?_,?_,?_,?_,?_,?_,?_,?_⟩
  ·first|(rw [AJ hno];rfl)|(rw [hno])|(rw [AF hyes,← hk])|(rw [hyes])
  ·first|(rw [AJ hno];rfl)|(rw [hno])|(rw [AF hyes,← hk])|(rw [hyes])
  ·first|(rw [AJ hno];rfl)|(rw [hno])|(rw [AF hyes,← hk])|(rw [hyes])
  ·first|(rw [AJ hno];rfl)|(rw [hno])|(rw [AF hyes,← hk])|(rw [hyes])
  ·first|(rw [AJ hno];rfl)|(rw [hno])|(rw [AF hyes,← hk])|(rw [hyes])
  ·first|(rw [AJ hno];rfl)|(rw [hno])|(rw [AF hyes,← hk])|(rw [hyes])
  ·first|(rw [AJ hno];rfl)|(rw [hno])|(rw [AF hyes,← hk])|(rw [hyes])
  first|(rw [AJ hno];rfl)|(rw [hno])|(rw [AF hyes,← hk])|(rw [hyes])
 try simp only [nrm] at c232
 obtain ⟨hq,hs⟩:=TP hk (D6 c30) (D6 c101) (D6 c166) (KL c232)
 refine ⟨Ag (lnK t k) 32,by
  rfl,by
  show (Ag (lnK t k) 32).size<=1073741824
  first|(show _<=1073741824;omega)|exact trivial|exact c331,?_⟩
 refine ao (by first|rfl|omega|(have:=DM t k;rw [AW];simp only [List.length_cons,List.length_nil];omega)|(have:=DM t k;rw [AC];simp only [List.length_cons,List.length_nil];omega)) λ o236=>?_
 refine And.symm ⟨λ c237=>?_,λ c237=>?_⟩
 ·try simp only [nrm] at c237
  have hno:=Er hk (hq.trans c237)
  refine And.symm ⟨λ c268=>?_,λ c268=>?_⟩
  ·try simp only [nrm] at c268
   try cases c268 -- done
  try simp only [nrm] at c268
  refine ⟨?_,?_,?_,?_,?_,?_,?_,?_⟩
  ·first|(rw [AJ hno];rfl)|(rw [hno])|(rw [AF hyes,← hk])|(rw [hyes])
  ·first|(rw [AJ hno];rfl)|(rw [hno])|(rw [AF hyes,← hk])|(rw [hyes])
  ·first|(rw [AJ hno];rfl)|(rw [hno])|(rw [AF hyes,← hk])|(rw [hyes])
  ·first|(rw [AJ hno];rfl)|(rw [hno])|(rw [AF hyes,← hk])|(rw [hyes])
  ·first|(rw [AJ hno];rfl)|(rw [hno])|(rw [AF hyes,← hk])|(rw [hyes])
  ·first|(rw [AJ hno];rfl)|(rw [hno])|(rw [AF hyes,← hk])|(rw [hyes])
  ·first|(rw [AJ hno];rfl)|(rw [hno])|(rw [AF hyes,← hk])|(rw [hyes])
  first|(rw [AJ hno];rfl)|(rw [hno])|(rw [AF hyes,← hk])|(rw [hyes])
 try simp only [nrm] at c237
 refine ⟨λ c238=>?_,λ c238=>?_⟩
 ·try simp only [nrm] at c238
  try cases c238 -- done
 try simp only [nrm] at c238
 refine ⟨k+1,by
  exact ⟨by omega,by rw [F8 hk,hki4.2,hq,c237];rfl⟩,by
  first|omega|(simp;omega),?_⟩
 refine ⟨rfl,rfl,?_,rfl,rfl,rfl,rfl,rfl,rfl,rfl,?_,?_,?_,?_,?_,?_,?_,rfl⟩
 ·first|(rw [hs];done)|(rw [hs,← AM];done)|(rw [hs,← AR];done)|exact AV (AE (by omega) (by omega))
 ·first|(rw [hs];done)|(rw [hs,← AM];done)|(rw [hs,← AR];done)|exact AV (AE (by omega) (by omega))
 ·first|(rw [hs];done)|(rw [hs,← AM];done)|(rw [hs,← AR];done)|exact AV (AE (by omega) (by omega))
 ·first|(rw [hs];done)|(rw [hs,← AM];done)|(rw [hs,← AR];done)|exact AV (AE (by omega) (by omega))
 ·first|(rw [hs];done)|(rw [hs,← AM];done)|(rw [hs,← AR];done)|exact AV (AE (by omega) (by omega))
 ·first|(rw [hs];done)|(rw [hs,← AM];done)|(rw [hs,← AR];done)|exact AV (AE (by omega) (by omega))
 ·first|(rw [hs];done)|(rw [hs,← AM];done)|(rw [hs,← AR];done)|exact AV (AE (by omega) (by omega))
 first|(rw [hs];done)|(rw [hs,← AM];done)|(rw [hs,← AR];done)|exact AV (AE (by omega) (by omega))
end Go.Proofs.YtmekciknfocmmaaGreatDoor
