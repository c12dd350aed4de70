import Derived.Test.YtcpjekkiejhgpaaDoorPpRkS1
import Derived.Test.YtcpjekkiejhgpaaDoorPpPin
namespace Go.Proofs.YtcpjekkiejhgpaaDoor
set_option maxRecDepth 100000
set_option linter.unusedVariables false
set_option linter.unusedSimpArgs false
open Go.RowKit
def BX:Con:={ ι:=ByteArray,pre:=λ i=>i.size<=1073741824,args:=λ i=>[.one (.im (.string i))],res:=λ i=>⟨true,[none,none],[rcI ((AK i).getD 0),rcB ((AK i).isSome)]⟩ }
theorem Lx:BX.Ok Tryd.prog 23:=DV rfl ⟨_,Tryd.func23,by decide,rfl⟩ (λ _=>Nat.le_of_ble_eq_true rfl) (λ _=>rfl) (λ s=>[.im (.int .i64 ((AK s).getD 0)),.im (.bool (AK s).isSome)]) (λ _=>rfl) (λ _=>rfl) (λ i hp w us hst h=>by
 have h:RdRow w [.str] [.str i] us:=h
 obtain ⟨v,vs,rfl,h1,h2⟩:=RdRow.cons2 h
 obtain ⟨-,rfl⟩:=RdRow.nil_inv h2
 obtain rfl:=Rd.str2 h1
 refine (Ij i hp w hst).mono ?_
 rintro e w' ⟨rfl,hb⟩
 exact ⟨[.int .i64 ((AK i).getD 0),.bool (AK i).isSome],rfl,Own.append (ts:=[.int]) (ds:=[.int ((AK i).getD 0)]) (vs:=[.int .i64 ((AK i).getD 0)]) (Own.leaf (lo:=w.heap.size) (hi:=w.heap.size) (Fp.mk_int _)) (Own.leaf (lo:=w.heap.size) (hi:=w'.heap.size) (Fp.mk_bool _)) (Nat.le_refl _) hb.size,hb⟩)
def CP:Con:={ ι:=Int×Int,pre:=λ i=>True,args:=λ i=>[DA.agg [cI i.1,cI i.2]],res:=λ i=>⟨false,[none],[rcB (AP (i.1,i.2))]⟩ }
theorem Km:CP.Ok Tryd.prog 24:=C5 rfl ⟨_,Tryd.func24,by decide,rfl⟩ (λ _=>Nat.le_of_ble_eq_true rfl) (λ _=>rfl) (λ i=>[.im (.bool (AP (i.1,i.2)))]) (λ _=>rfl) (λ _=>rfl) (λ i hp w us h=>by
 obtain ⟨x,y⟩:=i
 have h:RdRow w [.int,.int] [.int x,.int y] us:=h
 obtain ⟨a,_,rfl,q1,h⟩:=RdRow.cons2 h
 obtain ⟨b,_,rfl,q2,h⟩:=RdRow.cons2 h
 obtain ⟨-,rfl⟩:=RdRow.nil_inv h
 obtain rfl:=Rd.int2 q1
 obtain rfl:=Rd.int2 q2
 refine (Jz x y w).mono ?_
 rintro e w' ⟨rfl,hb⟩
 exact ⟨[Value.bool (AP (x,y))],rfl,Own.leaf (Fp.mk_bool _),hb⟩)
theorem Ly (s:ByteArray) (c:UInt8):(BK s c).size<=s.size/\(BU s c).size<=s.size:=by
 rcases If s c with ⟨-,-,h1,h2⟩|⟨-,h,-⟩
 ·rw [h1,h2];exact ⟨Nat.le_refl _,Nat.zero_le _⟩
 ·have:=congrArg ByteArray.size h
  rw [ByteArray.size_append,ByteArray.size_append] at this
  omega
theorem Lz {s:ByteArray} : (DY s 44=false->CT s=none)/\((AK (BK s 44)).isSome=false->CT s=none)/\((AK (BU s 44)).isSome=false->CT s=none) /\
  (DY s 44=true->(AK (BK s 44)).isSome=true->(AK (BU s 44)).isSome=true->(AP ((AK (BK s 44)).getD 0,(AK (BU s 44)).getD 0)=true->CT s=some ((AK (BK s 44)).getD 0,(AK (BU s 44)).getD 0))/\(AP ((AK (BK s 44)).getD 0,(AK (BU s 44)).getD 0)=false->CT s=none)):=by
 unfold CT
 cases h1:AK (BK s 44) <;> cases h2:AK (BU s 44) <;> cases DY s 44 <;> simp
def C9:Con:={ ι:=ByteArray,pre:=λ i=>i.size<=1073741824,args:=λ i=>[.one (.im (.string i))],res:=λ i=>⟨true,[some 2,none],[rcI ((vOf i).1),rcI ((vOf i).2),rcB (okV i)]⟩ }
theorem L0:C9.Ok Tryd.prog 13:=by
 refine fok (X:=⟨tt,[(22,Co),(23,BX),(24,CP)],[],48,[]⟩) mixed DJ (CTok.cons Mb (CTok.cons Lx (CTok.cons Km (CTok.nil _)))) Tryd.func13 (λ _=>[]) ?_
 intro (s:ByteArray) hpre
 have hpre:s.size<=1073741824:=hpre
 refine DI (q:=let Z1:=(vI (0:Int)=vI ((vOf s).1))/\(vI (0:Int)=vI ((vOf s).2))/\(vB false=vB (okV s));∃ i1:ByteArray×UInt8,[DA.one (DC.im (Value.string s)),DA.one (DC.im (Value.string (⟨#[44]⟩:ByteArray)))]=Co.args i1/\Co.pre i1/\(∃ i2:ByteArray,[DA.one (DC.im (Value.string (BK i1.1 i1.2)))]=BX.args i2/\BX.pre i2/\(∃ i3:ByteArray,[DA.one (DC.im (Value.string (BU i1.1 i1.2)))]=BX.args i3/\BX.pre i3/\(ifB ((!(!(DY i1.1 i1.2)))) (ifB ((!(!((AK i2).isSome)))) (ifB ((!(!((AK i3).isSome)))) (∃ i4:Int×Int,[DA.agg [cI ((AK i2).getD 0),cI ((AK i3).getD 0)]]=CP.args i4/\CP.pre i4/\(ifB ((!(AP (i4.1,i4.2)))) Z1 ((vI ((AK i2).getD 0)=vI ((vOf s).1))/\(vI ((AK i3).getD 0)=vI ((vOf s).2))/\(vB true=vB (okV s))))) Z1) Z1) Z1)))) (by kernel_rfl) ?_
 conv=>zeta
 delta ifB vB vI
 have hcs:=Ly s 44
 obtain ⟨k1,k2,k3,k4⟩:=@Lz s
 refine ⟨(s,44),by
  rfl,by
  show s.size<=1073741824
  first|trivial|exact hpre|(have:=hcs.1;omega)|(have:=hcs.2;omega),?_⟩
 refine ⟨BK s 44,by
  rfl,by
  show (BK s 44).size<=1073741824
  first|trivial|exact hpre|(have:=hcs.1;omega)|(have:=hcs.2;omega),?_⟩
 refine ⟨BU s 44,by
  rfl,by
  show (BU s 44).size<=1073741824
  first|trivial|exact hpre|(have:=hcs.1;omega)|(have:=hcs.2;omega),?_⟩
 refine And.symm ⟨λ c10=>?_,λ c10=>?_⟩
 ·try simp only [nrm] at c10
  refine ⟨?_,?_,?_⟩
  ·first|(rw [(AA (k1 (by assumption))).2])|(rw [(AA (k1 (by assumption))).1])|(rw [(AA (k2 (by assumption))).2])|(rw [(AA (k2 (by assumption))).1])|(rw [(AA (k3 (by assumption))).2])|(rw [(AA (k3 (by assumption))).1])|(rw [(AA ((k4 (by assumption) (by assumption) (by assumption)).2 (by assumption))).2])|(rw [(AA ((k4 (by assumption) (by assumption) (by assumption)).2 (by assumption))).1])|(rw [(AN ((k4 (by assumption) (by assumption) (by assumption)).1 (by assumption))).2])|(rw [(AN ((k4 (by assumption) (by assumption) (by assumption)).1 (by assumption))).1])
  ·first|(rw [(AA (k1 (by assumption))).2])|(rw [(AA (k1 (by assumption))).1])|(rw [(AA (k2 (by assumption))).2])|(rw [(AA (k2 (by assumption))).1])|(rw [(AA (k3 (by assumption))).2])|(rw [(AA (k3 (by assumption))).1])|(rw [(AA ((k4 (by assumption) (by assumption) (by assumption)).2 (by assumption))).2])|(rw [(AA ((k4 (by assumption) (by assumption) (by assumption)).2 (by assumption))).1])|(rw [(AN ((k4 (by assumption) (by assumption) (by assumption)).1 (by assumption))).2])|(rw [(AN ((k4 (by assumption) (by assumption) (by assumption)).1 (by assumption))).1])
  first|(rw [(AA (k1 (by assumption))).2])|(rw [(AA (k1 (by assumption))).1])|(rw [(AA (k2 (by assumption))).2])|(rw [(AA (k2 (by assumption))).1])|(rw [(AA (k3 (by assumption))).2])|(rw [(AA (k3 (by assumption))).1])|(rw [(AA ((k4 (by assumption) (by assumption) (by assumption)).2 (by assumption))).2])|(rw [(AA ((k4 (by assumption) (by assumption) (by assumption)).2 (by assumption))).1])|(rw [(AN ((k4 (by assumption) (by assumption) (by assumption)).1 (by assumption))).2])|(rw [(AN ((k4 (by assumption) (by assumption) (by assumption)).1 (by assumption))).1])
 try simp only [nrm] at c10
 refine And.symm ⟨λ c11=>?_,λ c11=>?_⟩
 ·try simp only [nrm] at c11
  refine ⟨?_,?_,?_⟩
  ·first|(rw [(AA (k1 (by assumption))).2])|(rw [(AA (k1 (by assumption))).1])|(rw [(AA (k2 (by assumption))).2])|(rw [(AA (k2 (by assumption))).1])|(rw [(AA (k3 (by assumption))).2])|(rw [(AA (k3 (by assumption))).1])|(rw [(AA ((k4 (by assumption) (by assumption) (by assumption)).2 (by assumption))).2])|(rw [(AA ((k4 (by assumption) (by assumption) (by assumption)).2 (by assumption))).1])|(rw [(AN ((k4 (by assumption) (by assumption) (by assumption)).1 (by assumption))).2])|(rw [(AN ((k4 (by assumption) (by assumption) (by assumption)).1 (by assumption))).1])
  ·first|(rw [(AA (k1 (by assumption))).2])|(rw [(AA (k1 (by assumption))).1])|(rw [(AA (k2 (by assumption))).2])|(rw [(AA (k2 (by assumption))).1])|(rw [(AA (k3 (by assumption))).2])|(rw [(AA (k3 (by assumption))).1])|(rw [(AA ((k4 (by assumption) (by assumption) (by assumption)).2 (by assumption))).2])|(rw [(AA ((k4 (by assumption) (by assumption) (by assumption)).2 (by assumption))).1])|(rw [(AN ((k4 (by assumption) (by assumption) (by assumption)).1 (by assumption))).2])|(rw [(AN ((k4 (by assumption) (by assumption) (by assumption)).1 (by assumption))).1])
  first|(rw [(AA (k1 (by assumption))).2])|(rw [(AA (k1 (by assumption))).1])|(rw [(AA (k2 (by assumption))).2])|(rw [(AA (k2 (by assumption))).1])|(rw [(AA (k3 (by assumption))).2])|(rw [(AA (k3 (by assumption))).1])|(rw [(AA ((k4 (by assumption) (by assumption) (by assumption)).2 (by assumption))).2])|(rw [(AA ((k4 (by assumption) (by assumption) (by assumption)).2 (by assumption))).1])|(rw [(AN ((k4 (by assumption) (by assumption) (by assumption)).1 (by assumption))).2])|(rw [(AN ((k4 (by assumption) (by assumption) (by assumption)).1 (by assumption))).1])
 try simp only [nrm] at c11
 refine And.symm ⟨λ c12=>?_,λ c12=>?_⟩
 ·try simp only [nrm] at c12
  refine ⟨?_,?_,?_⟩
  ·first|(rw [(AA (k1 (by assumption))).2])|(rw [(AA (k1 (by assumption))).1])|(rw [(AA (k2 (by assumption))).2])|(rw [(AA (k2 (by assumption))).1])|(rw [(AA (k3 (by assumption))).2])|(rw [(AA (k3 (by assumption))).1])|(rw [(AA ((k4 (by assumption) (by assumption) (by assumption)).2 (by assumption))).2])|(rw [(AA ((k4 (by assumption) (by assumption) (by assumption)).2 (by assumption))).1])|(rw [(AN ((k4 (by assumption) (by assumption) (by assumption)).1 (by assumption))).2])|(rw [(AN ((k4 (by assumption) (by assumption) (by assumption)).1 (by assumption))).1])
  ·first|(rw [(AA (k1 (by assumption))).2])|(rw [(AA (k1 (by assumption))).1])|(rw [(AA (k2 (by assumption))).2])|(rw [(AA (k2 (by assumption))).1])|(rw [(AA (k3 (by assumption))).2])|(rw [(AA (k3 (by assumption))).1])|(rw [(AA ((k4 (by assumption) (by assumption) (by assumption)).2 (by assumption))).2])|(rw [(AA ((k4 (by assumption) (by assumption) (by assumption)).2 (by assumption))).1])|(rw [(AN ((k4 (by assumption) (by assumption) (by assumption)).1 (by assumption))).2])|(rw [(AN ((k4 (by assumption) (by assumption) (by assumption)).1 (by assumption))).1])
  first|(rw [(AA (k1 (by assumption))).2])|(rw [(AA (k1 (by assumption))).1])|(rw [(AA (k2 (by assumption))).2])|(rw [(AA (k2 (by assumption))).1])|(rw [(AA (k3 (by assumption))).2])|(rw [(AA (k3 (by assumption))).1])|(rw [(AA ((k4 (by assumption) (by assumption) (by assumption)).2 (by assumption))).2])|(rw [(AA ((k4 (by assumption) (by assumption) (by assumption)).2 (by assumption))).1])|(rw [(AN ((k4 (by assumption) (by assumption) (by assumption)).1 (by assumption))).2])|(rw [(AN ((k4 (by assumption) (by assumption) (by assumption)).1 (by assumption))).1])
 try simp only [nrm] at c12
 refine ⟨(((AK (BK s 44)).getD 0),((AK (BU s 44)).getD 0)),by
  rfl,by
  first|trivial|exact hpre|(have:=hcs.1;omega)|(have:=hcs.2;omega),?_⟩
 refine ⟨λ c16=>?_,λ c16=>?_⟩
 ·try simp only [nrm] at c16
  refine ⟨?_,?_,?_⟩
  ·first|(rw [(AA (k1 (by assumption))).2])|(rw [(AA (k1 (by assumption))).1])|(rw [(AA (k2 (by assumption))).2])|(rw [(AA (k2 (by assumption))).1])|(rw [(AA (k3 (by assumption))).2])|(rw [(AA (k3 (by assumption))).1])|(rw [(AA ((k4 (by assumption) (by assumption) (by assumption)).2 (by assumption))).2])|(rw [(AA ((k4 (by assumption) (by assumption) (by assumption)).2 (by assumption))).1])|(rw [(AN ((k4 (by assumption) (by assumption) (by assumption)).1 (by assumption))).2])|(rw [(AN ((k4 (by assumption) (by assumption) (by assumption)).1 (by assumption))).1])
  ·first|(rw [(AA (k1 (by assumption))).2])|(rw [(AA (k1 (by assumption))).1])|(rw [(AA (k2 (by assumption))).2])|(rw [(AA (k2 (by assumption))).1])|(rw [(AA (k3 (by assumption))).2])|(rw [(AA (k3 (by assumption))).1])|(rw [(AA ((k4 (by assumption) (by assumption) (by assumption)).2 (by assumption))).2])|(rw [(AA ((k4 (by assumption) (by assumption) (by assumption)).2 (by assumption))).1])|(rw [(AN ((k4 (by assumption) (by assumption) (by assumption)).1 (by assumption))).2])|(rw [(AN ((k4 (by assumption) (by assumption) (by assumption)).1 (by assumption))).1])
  first|(rw [(AA (k1 (by assumption))).2])|(rw [(AA (k1 (by assumption))).1])|(rw [(AA (k2 (by assumption))).2])|(rw [(AA (k2 (by assumption))).1])|(rw [(AA (k3 (by assumption))).2])|(rw [(AA (k3 (by assumption))).1])|(rw [(AA ((k4 (by assumption) (by assumption) (by assumption)).2 (by assumption))).2])|(rw [(AA ((k4 (by assumption) (by assumption) (by assumption)).2 (by assumption))).1])|(rw [(AN ((k4 (by assumption) (by assumption) (by assumption)).1 (by assumption))).2])|(rw [(AN ((k4 (by assumption) (by assumption) (by assumption)).1 (by assumption))).1])
 try simp only [nrm] at c16
 refine ⟨?_,?_,?_⟩
 ·first|(rw [(AA (k1 (by assumption))).2])|(rw [(AA (k1 (by assumption))).1])|(rw [(AA (k2 (by assumption))).2])|(rw [(AA (k2 (by assumption))).1])|(rw [(AA (k3 (by assumption))).2])|(rw [(AA (k3 (by assumption))).1])|(rw [(AA ((k4 (by assumption) (by assumption) (by assumption)).2 (by assumption))).2])|(rw [(AA ((k4 (by assumption) (by assumption) (by assumption)).2 (by assumption))).1])|(rw [(AN ((k4 (by assumption) (by assumption) (by assumption)).1 (by assumption))).2])|(rw [(AN ((k4 (by assumption) (by assumption) (by assumption)).1 (by assumption))).1])
 ·first|(rw [(AA (k1 (by assumption))).2])|(rw [(AA (k1 (by assumption))).1])|(rw [(AA (k2 (by assumption))).2])|(rw [(AA (k2 (by assumption))).1])|(rw [(AA (k3 (by assumption))).2])|(rw [(AA (k3 (by assumption))).1])|(rw [(AA ((k4 (by assumption) (by assumption) (by assumption)).2 (by assumption))).2])|(rw [(AA ((k4 (by assumption) (by assumption) (by assumption)).2 (by assumption))).1])|(rw [(AN ((k4 (by assumption) (by assumption) (by assumption)).1 (by assumption))).2])|(rw [(AN ((k4 (by assumption) (by assumption) (by assumption)).1 (by assumption))).1])
 first|(rw [(AA (k1 (by assumption))).2])|(rw [(AA (k1 (by assumption))).1])|(rw [(AA (k2 (by assumption))).2])|(rw [(AA (k2 (by assumption))).1])|(rw [(AA (k3 (by assumption))).2])|(rw [(AA (k3 (by assumption))).1])|(rw [(AA ((k4 (by assumption) (by assumption) (by assumption)).2 (by assumption))).2])|(rw [(AA ((k4 (by assumption) (by assumption) (by assumption)).2 (by assumption))).1])|(rw [(AN ((k4 (by assumption) (by assumption) (by assumption)).1 (by assumption))).2])|(rw [(AN ((k4 (by assumption) (by assumption) (by assumption)).1 (by assumption))).1])
theorem E7 {ws:List ByteArray} {k:Nat} (hk:k<ws.length):AL ((ws.take k).map vOf)++[[Dat.int (vOf (ws.getD k ⟨#[]⟩)).1,Dat.int (vOf (ws.getD k ⟨#[]⟩)).2]]=AL ((ws.take (k+1)).map vOf):=by
 rw [List.take_succ_eq_append_getElem hk,List.map_append]
 have e:ws.getD k ⟨#[]⟩=ws[k]:=by simp [List.getD,hk]
 rw [e]
 simp [AL,It]
theorem Ik {ws:List ByteArray} {k:Nat} (hk:k<ws.length):(ws.take (k+1)).all okV=((ws.take k).all okV && okV (ws.getD k ⟨#[]⟩)):=by
 rw [List.take_succ_eq_append_getElem hk,List.all_append]
 simp [List.getD,hk]
theorem Il {s:ByteArray} {k:Nat} (hk:k<(AB 32 s).length) (h:okV ((AB 32 s).getD k ⟨#[]⟩)=false):okP s=false:=by
 have h2:(AB 32 s).all okV=false:=by
  rw [List.all_eq_false]
  refine ⟨(AB 32 s)[k],List.getElem_mem hk,?_⟩
  have e:(AB 32 s).getD k ⟨#[]⟩=(AB 32 s)[k]:=by simp [List.getD,hk]
  rw [← e,h];simp
 unfold okP;rw [h2];rfl
theorem L1 {s:ByteArray} (h:16<(AB 32 s).length):okP s=false:=by
 have:AX ((AB 32 s).map vOf)=false:=by
  cases hp:AX ((AB 32 s).map vOf) with
  | false=>rfl
  | true=>have:=(Id hp).2.1;rw [List.length_map] at this;omega
 unfold okP;rw [this];simp
theorem D0 {s:ByteArray} (h:(AB 32 s).all okV=true):okP s=AX ((AB 32 s).map vOf):=by unfold okP;rw [h];rfl
def BY:Con:={ ι:=ByteArray,pre:=λ i=>i.size<=1073741824,args:=λ i=>[.one (.im (.string i))],res:=λ i=>⟨true,[none,none],[.own 31 [.int,.int] (AL (BQ i)),rcB (okP i)]⟩ }
theorem L2:BY.Ok Tryd.prog 5:=by
 refine fok (X:=⟨tt,[(12,CO),(13,C9),(14,Bu)],[],38,[]⟩) mixed DJ (CTok.cons Kl (CTok.cons L0 (CTok.cons JS (CTok.nil _)))) Tryd.func5 (λ (i:ByteArray)=>let Z1:=AB 32 i;[(3,.mk 3 (Nat) (λ x1=>{ tm:=[(11,tX 1),(12,tI ((AR Z1).length:Int)),(13,tI (x1:Int)),(4,tX 2)],en:=[(1,.own 9 [.str] (AR Z1)),(2,.own 31 [.int,.int] (AL ((Z1.take x1).map vOf)))] }) (λ x1=>x1<=Z1.length/\x1<=16/\(Z1.take x1).all okV=true) (λ x1=>Z1.length-x1) (λ _=>[]))]) ?_
 intro (s:ByteArray) hpre
 have hpre:s.size<=1073741824:=hpre
 refine DI (q:=let Z2:=(([]:List (List Dat))=AL (BQ s))/\(vB false=vB (okP s));let Z1:=AB 32 s;let Z5:=AR Z1;let Z4:=(Z5.length:Int);∃ i1:ByteArray×UInt8,[DA.one (DC.im (Value.string s)),DA.one (DC.im (Value.string (⟨#[32]⟩:ByteArray)))]=CO.args i1/\CO.pre i1/\((∃ x1:Nat,(x1<=Z1.length/\x1<=16/\(Z1.take x1).all okV=true)/\((vI (nI ((AR (AB i1.2 i1.1)).length))=vI Z4)/\(vI (0:Int)=vI (x1:Int))/\(AR (AB i1.2 i1.1)=Z5)/\(([]:List (List Dat))=(AL ((Z1.take x1).map vOf)))))/\∀ x1:Nat,let Z3:=AL ((Z1.take x1).map vOf);(x1<=Z1.length/\x1<=16/\(Z1.take x1).all okV=true)->(ifB ((decide ((x1:Int)<Z4))) ((0<=(x1:Int)/\(x1:Int)<Z4)/\((x1<Z5.length)/\(∃ i2:ByteArray,[DA.one (DC.im (Value.string ((((Z5.getD x1 []).getD 0 (.int 0))).s)))]=C9.args i2/\C9.pre i2/\(ifB ((!(!(okV i2)))) (ifB (((nI (Z3.length)) == (16:Int))) Z2 ((Z3.length+([[Dat.int ((vOf i2).1),Dat.int ((vOf i2).2)]]:List (List Dat)).length<=2199023255552)/\(∃ y2:Nat,(y2<=Z1.length/\y2<=16/\(Z1.take y2).all okV=true)/\(Z1.length-y2<Z1.length-x1)/\((rf (vI Z4))/\(vI (wR ((x1:Int)+(1:Int)))=vI (y2:Int))/\(rf Z5)/\((Z3++([[Dat.int ((vOf i2).1),Dat.int ((vOf i2).2)]]:List (List Dat)))=(AL ((Z1.take y2).map vOf))))))) Z2)))) (∃ i3:(List V2),[DA.one (DC.sl 31 [.int,.int] Z3)]=Bu.args i3/\Bu.pre i3/\(ifB ((!(AX i3))) Z2 ((Z3=AL (BQ s))/\(vB true=vB (okP s)))))))) (by kernel_rfl) ?_
 conv=>zeta
 delta ifB vB vI wR nI
 have hwl:=Db 32 s
 have hsl:=AH (AB 32 s)
 refine ⟨(s,32),by
  rfl,by
  show s.size<=1073741824
  first|trivial|exact hpre|exact Nat.le_trans (A9 (λ x hx=>Ae hx) k) hpre,?_⟩
 refine ⟨⟨0,by
  exact ⟨Nat.zero_le _,Nat.zero_le _,rfl⟩,?_⟩,?_⟩
 ·refine ⟨?_,rfl,rfl,?_⟩
  ·show Value.int .i64 (((AR (AB 32 s)).length:Nat):Int)=Value.int .i64 ((AR (AB 32 s)).length:Int)
   rfl
  rfl
 intro (k:Nat) hki4
 have hki4:k<=(AB 32 s).length/\k<=16/\((AB 32 s).take k).all okV=true:=hki4
 refine And.symm ⟨λ c10=>?_,λ c10=>?_⟩
 ·try simp only [nrm] at c10
  have ht:(AB 32 s).take k=AB 32 s:=List.take_of_length_le (by omega)
  have hao:(AB 32 s).all okV=true:=by rw [← ht];exact hki4.2.2
  refine ⟨(((AB 32 s).take k).map vOf),by
   rfl,by
   first|trivial|exact hpre|exact Nat.le_trans (A9 (λ x hx=>Ae hx) k) hpre,?_⟩
  refine ⟨λ c33=>?_,λ c33=>?_⟩
  ·try simp only [nrm] at c33
   rw [ht] at c33
   have hno:okP s=false:=by rw [D0 hao];exact c33
   refine ⟨?_,?_⟩
   ·first|(rw [Ah hno];rfl)|(rw [hno])|(rw [ht,Ab hyes])|(rw [hyes])
   first|(rw [Ah hno];rfl)|(rw [hno])|(rw [ht,Ab hyes])|(rw [hyes])
  try simp only [nrm] at c33
  rw [ht] at c33
  have hyes:okP s=true:=by rw [D0 hao];exact c33
  refine ⟨?_,?_⟩
  ·first|(rw [Ah hno];rfl)|(rw [hno])|(rw [ht,Ab hyes])|(rw [hyes])
  first|(rw [Ah hno];rfl)|(rw [hno])|(rw [ht,Ab hyes])|(rw [hyes])
 try simp only [nrm] at c10
 have hk:k<(AB 32 s).length:=by omega
 refine ao (by first|rfl|omega|(simp only [AH,AO,List.length_map,List.length_take,List.length_cons,List.length_nil];omega)|(simp;omega)) λ o11=>?_
 refine ao (by first|rfl|omega|(simp only [AH,AO,List.length_map,List.length_take,List.length_cons,List.length_nil];omega)|(simp;omega)) λ o12=>?_
 refine ⟨((AB 32 s).getD k ⟨#[]⟩),by
  exact congrArg (λ x=>[DA.one (DC.im (Value.string x))]) (E6 hk),by
  show ((AB 32 s).getD k ⟨#[]⟩).size<=1073741824
  first|trivial|exact hpre|exact Nat.le_trans (A9 (λ x hx=>Ae hx) k) hpre,?_⟩
 refine And.symm ⟨λ c16=>?_,λ c16=>?_⟩
 ·try simp only [nrm] at c16
  have hno:=Il hk c16
  refine ⟨?_,?_⟩
  ·first|(rw [Ah hno];rfl)|(rw [hno])|(rw [ht,Ab hyes])|(rw [hyes])
  first|(rw [Ah hno];rfl)|(rw [hno])|(rw [ht,Ab hyes])|(rw [hyes])
 try simp only [nrm] at c16
 refine ⟨λ c17=>?_,λ c17=>?_⟩
 ·try simp only [nrm] at c17
  have hno:=L1 (s:=s) (by rw [AO,List.length_map,List.length_take] at c17;omega)
  refine ⟨?_,?_⟩
  ·first|(rw [Ah hno];rfl)|(rw [hno])|(rw [ht,Ab hyes])|(rw [hyes])
  first|(rw [Ah hno];rfl)|(rw [hno])|(rw [ht,Ab hyes])|(rw [hyes])
 try simp only [nrm] at c17
 refine ao (by first|rfl|omega|(simp only [AH,AO,List.length_map,List.length_take,List.length_cons,List.length_nil];omega)|(simp;omega)) λ o20=>?_
 refine ⟨k+1,by
  exact ⟨by omega,by rw [AO,List.length_map,List.length_take] at c17;omega,by rw [Ik hk,hki4.2.2,c16];rfl⟩,by
  first|omega|(simp;omega),?_⟩
 refine ⟨rfl,?_,rfl,?_⟩
 ·first|exact B7 (AS (by omega) (by omega))|exact E7 hk
 first|exact B7 (AS (by omega) (by omega))|exact E7 hk
end Go.Proofs.YtcpjekkiejhgpaaDoor
