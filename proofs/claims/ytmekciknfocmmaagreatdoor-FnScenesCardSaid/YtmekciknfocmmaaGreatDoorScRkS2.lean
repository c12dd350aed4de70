import Derived.Test.YtmekciknfocmmaaGreatDoorScRkS1
import Derived.Test.YtmekciknfocmmaaGreatDoorScFsc
import Derived.Test.YtmekciknfocmmaaGreatDoorScScL
namespace Go.Proofs.YtmekciknfocmmaaGreatDoor
set_option maxRecDepth 100000
set_option linter.unusedVariables false
set_option linter.unusedSimpArgs false
open Go.RowKit
def A4:Con:={ ι:=Scn,pre:=λ i=>True,args:=λ i=>[DA.agg [cI i.low.1,cI i.low.2,cI i.high.1,cI i.high.2,DC.sl 24 [.int,.int] (AA i.robot),DC.sl 25 [.sl 24 [.int,.int]] (AB i.obst),DC.sl 24 [.int,.int] (AA i.tables)]],res:=λ i=>⟨false,[none],[rcB (AG i)]⟩ }
theorem Gl:A4.Ok Tryz.prog 16:=BX rfl ⟨_,Tryz.func16,by decide,rfl⟩ (λ _=>Nat.le_of_ble_eq_true rfl) (λ _=>rfl) (λ s=>[.im (.bool (AG s))]) (λ _=>rfl) (λ _=>rfl) (λ i hp w us h=>by
 have h:RdRow w [.int,.int,.int,.int,.sl 24 [.int,.int],.sl 25 [.sl 24 [.int,.int]],.sl 24 [.int,.int]] (HZ i) us:=h
 have hl:=(RdRow.lens _ _ _ h).2
 rw [show Am (A4.args i) us=[.agg us.toArray] from Ft hl]
 refine (BU i _ w (RdRow.scene h)).mono ?_
 rintro e w' ⟨rfl,hb⟩
 exact ⟨[.bool (AG i)],rfl,Own.leaf (Fp.mk_bool _),hb⟩)
def At:Con:={ ι:=Scn,pre:=λ i=>AG i=true,args:=λ i=>[DA.agg [cI i.low.1,cI i.low.2,cI i.high.1,cI i.high.2,DC.sl 24 [.int,.int] (AA i.robot),DC.sl 25 [.sl 24 [.int,.int]] (AB i.obst),DC.sl 24 [.int,.int] (AA i.tables)]],res:=λ i=>⟨false,[none],[.im (Value.string (Ab i))]⟩ }
theorem FS:At.Ok Tryz.prog 17:=Cv rfl ⟨_,Tryz.func17,by decide,rfl⟩ (λ _=>Nat.le_of_ble_eq_true rfl) (λ _=>rfl) (λ s=>[.im (.string (Ab s))]) (λ _=>rfl) (λ _=>rfl) (λ i hp w us hst h=>by
 have h:RdRow w [.int,.int,.int,.int,.sl 24 [.int,.int],.sl 25 [.sl 24 [.int,.int]],.sl 24 [.int,.int]] (HZ i) us:=h
 have hl:=(RdRow.lens _ _ _ h).2
 rw [show Am (At.args i) us=[.agg us.toArray] from Ft hl]
 refine (Nu i hp _ w (RdRow.scene h) hst).mono ?_
 rintro e w' ⟨rfl,hb⟩
 exact ⟨[.string (Ab i)],rfl,Own.leaf (Fp.mk_str _),hb⟩)
def BY (s:Scn):ByteArray:=if AG s=true then Ab s else ⟨#[]⟩
theorem ES {s:Scn} (h:AG s=true):BY s=Ab s:=if_pos h
theorem JD {s:Scn} (h:AG s=false):BY s=⟨#[]⟩:=if_neg (by rw [h];simp)
theorem Nv {s:Scn} (h:AG s=true):AX s.robot=true/\∀ k,k<s.obst.length->AX (s.obst.getD k [])=true:=by
 simp only [AG,Bool.and_eq_true,decide_eq_true_eq,List.all_cons,List.all_nil,and_true,shape] at h
 obtain ⟨⟨⟨⟨⟨h1,h2⟩,-⟩,-⟩,⟨h3,h4⟩,-⟩,⟨⟨h5,h6⟩,h7⟩,h8⟩:=h
 refine ⟨h3,λ k hk=>?_⟩
 have hk':=List.all_eq_true.1 h5 (s.obst[k]) (List.getElem_mem hk)
 simp only [shape,Bool.and_eq_true] at hk'
 have e:s.obst.getD k []=s.obst[k]:=by simp [List.getD,hk]
 rw [e]
 exact hk'.1.1
def Ep:Con:={ ι:=Scn,pre:=λ i=>True,args:=λ i=>[DA.agg [cI i.low.1,cI i.low.2,cI i.high.1,cI i.high.2,DC.sl 24 [.int,.int] (AA i.robot),DC.sl 25 [.sl 24 [.int,.int]] (AB i.obst),DC.sl 24 [.int,.int] (AA i.tables)]],res:=λ i=>⟨false,[none],[.im (Value.string (BY i))]⟩ }
theorem RS:Ep.Ok Tryz.prog 6:=by
 refine fok (X:=⟨tt,[(16,A4),(17,At)],[],8,[]⟩) mixed BC (CTok.cons Gl (CTok.cons FS (CTok.nil _))) Tryz.func6 (λ _=>[]) ?_
 intro (s:Scn) hpre
 have hpre:True:=hpre
 refine BB (q:=∃ i1:Scn,[DA.agg [cI s.low.1,cI s.low.2,cI s.high.1,cI s.high.2,DC.sl 24 [.int,.int] (AA s.robot),DC.sl 25 [.sl 24 [.int,.int]] (AB s.obst),DC.sl 24 [.int,.int] (AA s.tables)]]=A4.args i1/\A4.pre i1/\(ifB ((!(AG i1))) ((Value.string (⟨#[]⟩:ByteArray)=Value.string (BY s))) (∃ i2:Scn,[DA.agg [cI s.low.1,cI s.low.2,cI s.high.1,cI s.high.2,DC.sl 24 [.int,.int] (AA s.robot),DC.sl 25 [.sl 24 [.int,.int]] (AB s.obst),DC.sl 24 [.int,.int] (AA s.tables)]]=At.args i2/\At.pre i2/\((Value.string (Ab i2)=Value.string (BY s)))))) (by kernel_rfl) ?_
 delta ifB
 refine ⟨s,by
  rfl,by
  first|trivial|exact c4,?_⟩
 refine ⟨λ c4=>?_,λ c4=>?_⟩
 ·try simp only [nrm] at c4
  first|rfl|(rw [JD (by assumption)])|(rw [ES (by assumption)])
 try simp only [nrm] at c4
 refine ⟨s,by
  rfl,by
  show AG s=true
  first|trivial|exact c4,?_⟩
 first|rfl|(rw [JD (by assumption)])|(rw [ES (by assumption)])
theorem KP {s:Scn} (h:AG s=true):(Ab s).size<=8000:=by
 obtain ⟨hl,hh,hrb,hv4,hv5⟩:=K3 h
 have h1:=hv4.1
 have h2:=hv5.1
 have:=K2 s (Nat.le_trans (Hv s (JC hl hh hrb) hv4.2 (Nat.le_refl _)) (by omega)) hv5.2 (Nat.le_refl _)
 unfold Ab
 omega
def F5 (l:List UInt8) (k:Nat):Nat:=(l.take k).foldl (λ h c=>(31*h+c.toNat)%65521) 7
theorem SC (l:List UInt8):∀ k,F5 l k<65521:=by
 intro k
 unfold F5
 have:∀ (m:List UInt8) (h:Nat),h<65521->m.foldl (λ h c=>(31*h+c.toNat)%65521) h<65521:=by
  intro m
  induction m with
  | nil=>intro h hh;exact hh
  | cons c r ih=>intro h hh;exact ih _ (Nat.mod_lt _ (by omega))
 exact this _ _ (by omega)
theorem Pg {l:List UInt8} {k:Nat} (hk:k<l.length):F5 l (k+1)=(31*F5 l k+(l.getD k 0).toNat)%65521:=by
 unfold F5
 rw [List.take_succ_eq_append_getElem hk,List.foldl_append]
 simp [List.getD,hk]
def K4 (s:Scn):Int:=if AG s=true then (F5 (Ab s).data.toList (Ab s).size:Nat) else -1
theorem JE {s:Scn} (h:AG s=true):K4 s=((F5 (Ab s).data.toList (Ab s).size:Nat):Int):=if_pos h
theorem Od {s:Scn} (h:AG s=false):K4 s=-1:=if_neg (by rw [h];simp)
theorem JF {l:List UInt8} {k:Nat} (hk:k<l.length):Int.tmod (IntKind.i64.wrap (IntKind.i64.wrap (31*((F5 l k:Nat):Int))+IntKind.i64.wrap (((l.getD k 0).toNat:Nat):Int))) 65521=((F5 l (k+1):Nat):Int):=by
 have h1:=SC l k
 have h2:=(l.getD k 0).toNat_lt
 rw [AE (x:=31*((F5 l k:Nat):Int)) (by omega) (by omega),AE (x:=(((l.getD k 0).toNat:Nat):Int)) (by omega) (by omega),AE (by omega) (by omega),Pg hk,Int.tmod_eq_emod_of_nonneg (by omega)]
 omega
def CR:Con:={ ι:=Scn,pre:=λ i=>True,args:=λ i=>[DA.agg [cI i.low.1,cI i.low.2,cI i.high.1,cI i.high.2,DC.sl 24 [.int,.int] (AA i.robot),DC.sl 25 [.sl 24 [.int,.int]] (AB i.obst),DC.sl 24 [.int,.int] (AA i.tables)]],res:=λ i=>⟨false,[none],[rcI (K4 i)]⟩ }
theorem SD:CR.Ok Tryz.prog 11:=by
 refine fok (X:=⟨tt,[(16,A4),(17,At)],[],25,[]⟩) mixed BC (CTok.cons Gl (CTok.cons FS (CTok.nil _))) Tryz.func11 (λ (i:Scn)=>let Z1:=Ab i;[(5,.mk 2 (Nat) (λ x1=>{ tm:=[(11,tX 1),(12,tI (nI (Z1.data.toList.length))),(13,tI (x1:Int)),(3,tI (nI (F5 Z1.data.toList x1)))],en:=[(1,.ro (.bytes (Z1.data.toList)) [])] }) (λ x1=>x1<=Z1.size) (λ x1=>Z1.size-x1) (λ _=>[]))]) ?_
 intro (s:Scn) hpre
 have hpre:True:=hpre
 refine BB (q:=let Z1:=Ab s;let Z3:=nI (Z1.data.toList.length);let Z2:=Z1.data.toList;∃ i1:Scn,[DA.agg [cI s.low.1,cI s.low.2,cI s.high.1,cI s.high.2,DC.sl 24 [.int,.int] (AA s.robot),DC.sl 25 [.sl 24 [.int,.int]] (AB s.obst),DC.sl 24 [.int,.int] (AA s.tables)]]=A4.args i1/\A4.pre i1/\(ifB ((!(AG i1))) ((vI (-1:Int)=vI (K4 s))) (∃ i2:Scn,let Z5:=(Ab i2).data.toList;[DA.agg [cI s.low.1,cI s.low.2,cI s.high.1,cI s.high.2,DC.sl 24 [.int,.int] (AA s.robot),DC.sl 25 [.sl 24 [.int,.int]] (AB s.obst),DC.sl 24 [.int,.int] (AA s.tables)]]=At.args i2/\At.pre i2/\((∃ x1:Nat,(x1<=Z1.size)/\((vI (nI (Z5.length))=vI Z3)/\(vI (0:Int)=vI (x1:Int))/\(vI (7:Int)=vI (nI (F5 Z1.data.toList x1)))/\((.bytes Z5:RO)=.bytes Z2)))/\∀ x1:Nat,let Z4:=nI (F5 Z1.data.toList x1);(x1<=Z1.size)->(ifB ((decide ((x1:Int)<Z3))) ((0<=(x1:Int)/\(x1:Int)<(Z2.length:Int))/\((x1<Z2.length)/\(((65521:Int)≠0)/\(∃ y2:Nat,(y2<=Z1.size)/\(Z1.size-y2<Z1.size-x1)/\((rf (vI Z3))/\(vI (wR ((x1:Int)+(1:Int)))=vI (y2:Int))/\(vI (Int.tmod (wR ((wR ((31:Int)*Z4))+(wR (nI ((Z2.getD x1 0).toNat))))) (65521:Int))=vI (nI (F5 Z1.data.toList y2)))/\((.bytes Z2:RO)=.bytes Z2)))))) ((vI Z4=vI (K4 s)))))))) (by kernel_rfl) ?_
 conv=>zeta
 delta ifB vI wR nI
 have hsz:(Ab s).data.toList.length=(Ab s).size:=rfl
 refine ⟨s,by
  rfl,by
  first|trivial|exact c4,?_⟩
 refine ⟨λ c4=>?_,λ c4=>?_⟩
 ·try simp only [nrm] at c4
  first|(rw [Od c4])|(rw [JE c4,show k=(Ab s).size by omega])
 try simp only [nrm] at c4
 have hsb:=KP c4
 refine ⟨s,by
  rfl,by
  show AG s=true
  first|trivial|exact c4,?_⟩
 refine ⟨⟨0,by
  first|trivial|omega|(simp;omega),?_⟩,?_⟩
 ·refine ⟨?_,rfl,?_,?_⟩
  ·rfl
  ·rfl
  rfl
 intro (k:Nat) hki9
 have hki9:k<=(Ab s).size:=hki9
 refine And.symm ⟨λ c15=>?_,λ c15=>?_⟩
 ·try simp only [nrm] at c15
  first|(rw [Od c4])|(rw [JE c4,show k=(Ab s).size by omega])
 try simp only [nrm] at c15
 refine ao (by first|rfl|omega) λ o16=>?_
 refine ao (by first|rfl|omega) λ o17=>?_
 refine ao (by first|rfl|omega) λ o18=>?_
 refine ⟨k+1,by
  first|trivial|omega|(simp;omega),by
  first|omega|(simp;omega),?_⟩
 refine ⟨rfl,?_,?_,?_⟩
 ·first|rfl|exact AV (AE (by omega) (by omega))|exact AV (JF (by omega))
 ·first|rfl|exact AV (AE (by omega) (by omega))|exact AV (JF (by omega))
 first|rfl|exact AV (AE (by omega) (by omega))|exact AV (JF (by omega))
end Go.Proofs.YtmekciknfocmmaaGreatDoor
