import Derived.Test.YtkffpiaagjcmpaaGreatFmLimN
import Derived.Test.YtkffpiaagjcmpaaGreatFmHuv
import Derived.Test.YtkffpiaagjcmpaaGreatFmDrp
namespace Go.Proofs.YtkffpiaagjcmpaaGreat
set_option maxRecDepth 100000
set_option linter.unusedVariables false
set_option linter.unusedSimpArgs false
open Go.RowKit
theorem AAO {l:List V2} {k:Nat} (hk:k<l.length) (z:V2):(l.take (k+1)).foldl I1 z=I1 ((l.take k).foldl I1 z) (l.getD k (0,0)):=HY I1 z l (0,0) k hk
theorem Xe {l:List V2} {k:Nat} (hk:k<l.length) (z:V2):(l.take (k+1)).foldl I2 z=I2 ((l.take k).foldl I2 z) (l.getD k (0,0)):=HY I2 z l (0,0) k hk
def loT (l:List V2) (k:Nat):V2:=(l.take k).foldl I1 (l.getD 0 (0,0))
def hiT (l:List V2) (k:Nat):V2:=(l.take k).foldl I2 (l.getD 0 (0,0))
theorem WF {l:List V2} {k:Nat} (h:l.length<=k):loT l k=Db l:=by unfold loT Db;rw [List.take_of_length_le h]
theorem WG {l:List V2} {k:Nat} (h:l.length<=k):hiT l k=CK l:=by unfold hiT CK;rw [List.take_of_length_le h]
theorem TF {l:List V2} {k:Nat} (hk:k<l.length):loT l (k+1)=I1 (loT l k) (l.getD k (0,0)):=AAO hk _
theorem TG {l:List V2} {k:Nat} (hk:k<l.length):hiT l (k+1)=I2 (hiT l k) (l.getD k (0,0)):=Xe hk _
def G9:Con:={ ι:=(List V2),pre:=λ i=>0<i.length/\i.length<=1048576,args:=λ i=>[.one (DC.sl 24 [.int,.int] (AA i))],res:=λ i=>⟨true,[some 2,some 2],[rcI ((Db i).1),rcI ((Db i).2),rcI ((CK i).1),rcI ((CK i).2)]⟩ }
theorem Xf:G9.Ok Tryz.prog 52:=by
 refine fok (X:=⟨tt,[],[],45,[]⟩) mixed AI (CTok.nil _) Tryz.func52 (λ (i:(List V2))=>[(3,.mk 6 (Nat) (λ x1=>{ tm:=[(2,tP 1 0),(3,tP 2 0),(4,tP 3 0),(5,tP 4 0),(14,tX 5),(15,tI (nI i.length)),(16,tI (nI x1))],en:=[(1,.box [kI (0:Int),kI (0:Int)]),(2,.box [kI (0:Int),kI (0:Int)]),(3,.box [kI ((loT i x1).1),kI ((loT i x1).2)]),(4,.box [kI ((hiT i x1).1),kI ((hiT i x1).2)]),(5,.view 24 [.int,.int] (AA i) [])] }) (λ x1=>x1<=i.length) (λ x1=>i.length-x1) (λ _=>[]))]) ?_
 intro (l:List V2) hpre
 have hpre:0<l.length/\l.length<=1048576:=hpre
 refine AH (q:=let Z4:=((AA l).length:Int);let Z3:=(AA l).getD 0 [];let Z1:=vI (0:Int);(0<=(0:Int)/\(0:Int)<Z4)/\((0<(AA l).length)/\((0<=(0:Int)/\(0:Int)<Z4)/\((0<(AA l).length)/\((∃ x1:Nat,(x1<=l.length)/\((vI (nI ((AA l).length))=vI (nI l.length))/\(vI (0:Int)=vI (nI x1))/\(rf Z1)/\(rf Z1)/\(rf Z1)/\(rf Z1)/\(vI ((Z3.getD 0 (.int 0))).n=vI ((loT l x1).1))/\(vI ((Z3.getD 1 (.int 0))).n=vI ((loT l x1).2))/\(vI ((Z3.getD 0 (.int 0))).n=vI ((hiT l x1).1))/\(vI ((Z3.getD 1 (.int 0))).n=vI ((hiT l x1).2))/\(rf (AA l))))/\∀ x1:Nat,let Z6:=hiT l x1;let Z5:=loT l x1;let Z2:=(AA l).getD x1 [];let Z8:=((Z2.getD 1 (.int 0))).n;let Z7:=((Z2.getD 0 (.int 0))).n;(x1<=l.length)->(ifB ((decide ((nI x1)<(nI l.length)))) ((0<=(nI x1)/\(nI x1)<Z4)/\((x1<(AA l).length)/\(∃ y2:Nat,(y2<=l.length)/\(l.length-y2<l.length-x1)/\((rf (vI (nI l.length)))/\(vI (wR ((nI x1)+(1:Int)))=vI (nI y2))/\(rf Z1)/\(rf Z1)/\(rf Z1)/\(rf Z1)/\(vI (min (Z5.1) Z7)=vI ((loT l y2).1))/\(vI (min (Z5.2) Z8)=vI ((loT l y2).2))/\(vI (max (Z6.1) Z7)=vI ((hiT l y2).1))/\(vI (max (Z6.2) Z8)=vI ((hiT l y2).2))/\(rf (AA l)))))) ((vI (Z5.1)=vI ((Db l).1))/\(vI (Z5.2)=vI ((Db l).2))/\(vI (Z6.1)=vI ((CK l).1))/\(vI (Z6.2)=vI ((CK l).2))))))))) (by kernel_rfl) ?_
 conv=>zeta
 delta ifB vI wR nI
 have hvl:=AC l
 refine ao (by omega) λ o1=>?_
 refine ao (by omega) λ o2=>?_
 refine ao (by omega) λ o3=>?_
 refine ao (by omega) λ o4=>?_
 refine ⟨⟨0,by
  omega,?_⟩,?_⟩
 ·refine ⟨?_,?_,rfl,rfl,rfl,rfl,?_,?_,?_,?_,rfl⟩
  ·rw [hvl];done
  ·rfl
  ·rw [BD (by omega)];rfl
  ·rw [BE (by omega)];rfl
  ·rw [BD (by omega)];rfl
  rw [BE (by omega)];rfl
 intro (k:Nat) hki5
 have hki5:k<=l.length:=hki5
 refine And.symm ⟨λ c18=>?_,λ c18=>?_⟩
 ·try simp only [nrm] at c18
  refine ⟨?_,?_,?_,?_⟩
  ·rw [WF (by omega)];done
  ·rw [WF (by omega)];done
  ·rw [WG (by omega)];done
  rw [WG (by omega)];done
 try simp only [nrm] at c18
 refine ao (by omega) λ o19=>?_
 refine ao (by omega) λ o20=>?_
 refine ⟨k+1,by
  omega,by
  omega,?_⟩
 refine ⟨rfl,?_,rfl,rfl,rfl,rfl,?_,?_,?_,?_,rfl⟩
 ·exact Aa (AB (by omega) (by omega))
 ·rw [TF (by omega),BD (by omega)];rfl
 ·rw [TF (by omega),BE (by omega)];rfl
 ·rw [TG (by omega),BD (by omega)];rfl
 rw [TG (by omega),BE (by omega)];rfl
theorem KN (l:List V2) (i:Nat):(Hg l).getD i (0,0)=(-(l.getD i (0,0)).1,-(l.getD i (0,0)).2):=by
 unfold Hg
 simp only [List.getD,List.getElem?_map]
 cases l[i]? <;> simp
theorem AAP (a b c:V2):AG (-a.1,-a.2) (-b.1,-b.2) (-c.1,-c.2)=AG a b c:=by simp only [AG];grind
theorem Xg (p:V2):AF (-p.1,-p.2)=AF p:=by
 unfold AF Cz inR
 simp only
 congr 1
 ·have:(-1000<=-p.1)=(p.1<=1000):=by apply propext;omega
  have h2:(-p.1<=1000)=(-1000<=p.1):=by apply propext;omega
  simp only [this,h2,Bool.and_comm]
 ·have:(-1000<=-p.2)=(p.2<=1000):=by apply propext;omega
  have h2:(-p.2<=1000)=(-1000<=p.2):=by apply propext;omega
  simp only [this,h2,Bool.and_comm]
theorem Uy {l:List V2} (h:AJ l=true):AJ (Hg l)=true:=by
 obtain ⟨h1,h2,h3⟩:=Bx.1 h
 refine Bx.2 ⟨by rw [Eb];exact h1,?_,λ i j hi hj n1 n2=>?_⟩
 ·rw [List.all_eq_true] at h2 ⊢
  intro x hx
  obtain ⟨y,hy,rfl⟩:=List.mem_map.1 hx
  rw [Xg];exact h2 y hy
 ·rw [Eb] at hi hj n2
  rw [Eb,KN,KN,KN,AAP]
  exact h3 i j hi hj n1 n2
theorem AAQ {s:Scn} (h:AL s=true):AJ s.robot=true/\s.robot.length<=5/\s.robot.all (Cz 20)=true:=by
 simp only [AL,shape,Bool.and_eq_true,decide_eq_true_eq] at h
 exact ⟨h.1.2.1.1,h.1.2.1.2,h.1.2.2⟩
theorem ABn {s:Scn} (h:AL s=true) {o:List V2} (ho:o ∈ s.obst):AJ o=true/\o.length<=5/\o.all (Cz 200)=true:=by
 simp only [AL,Bool.and_eq_true,decide_eq_true_eq] at h
 have:=List.all_eq_true.1 h.2.1.1.1 o ho
 simp only [shape,Bool.and_eq_true,decide_eq_true_eq] at this
 exact ⟨this.1.1,this.1.2,this.2⟩
theorem KO {m:Int} {l:List V2} (h:l.all (Cz m)=true) {i:Nat} (hi:i<l.length):-m<=(l.getD i (0,0)).1/\(l.getD i (0,0)).1<=m/\-m<=(l.getD i (0,0)).2/\(l.getD i (0,0)).2<=m:=by
 refine FT (List.all_eq_true.1 h _ ?_)
 simp [List.getD,hi]
theorem HD {s:Scn} {h:Int} (hv:(AL s && inR h 0 3)=true):AJ (AD s h)=true/\(AD s h).length<=5/\(AD s h).all (Cz 20)=true:=by
 rw [Bool.and_eq_true] at hv
 obtain ⟨h1,h2,h3⟩:=AAQ hv.1
 rw [Cv hv.1 (BO.1 hv.2)]
 refine ⟨by rw [Q9];exact h1,by simpa [Ag] using h2,?_⟩
 rw [List.all_eq_true] at h3 ⊢
 intro x hx
 obtain ⟨y,hy,rfl⟩:=List.mem_map.1 hx
 exact Ob (h3 y hy) _
theorem AAR {s:Scn} {h:Int} (hv:(AL s && inR h 0 3)=true) {o:List V2} (ho:o ∈ s.obst):AJ (OY (AD s h) o)=true/\OY (AD s h) o=Hf o (Hg (AD s h)):=by
 obtain ⟨r1,r2,r3⟩:=HD hv
 rw [Bool.and_eq_true] at hv
 obtain ⟨o1,o2,o3⟩:=ABn hv.1 ho
 have rp:=Ce r1
 have e:KD (AD s h)=Hg (AD s h):=V8 rp.2.2
 have n1:=Uy r1
 have hl:=Eb (AD s h)
 have h64:o.length*(Hg (AD s h)).length<=64:=by
  rw [hl]
  exact Nat.le_trans (Nat.mul_le_mul o2 r2) (by decide)
 have hp:=Ux o1 n1 h64 (by omega) (λ i j hi hj=>by
  have b1:=KO o3 hi
  have b2:=KO r3 (show j<(AD s h).length by omega)
  rw [KN]
  unfold AF Cz
  simp only [BU,Bool.and_eq_true,BO]
  omega)
 have e2:OY (AD s h) o=Hf o (Hg (AD s h)):=by unfold OY;rw [e];exact V7 o1 n1 h64 hp
 exact ⟨by rw [e2];exact hp,e2⟩
theorem OC {s:Scn} {h:Int} (hv:(AL s && inR h 0 3)=true):∀ z ∈ blk s h,AJ z=true:=by
 intro z hz
 rw [WE (by have:=JP hv;omega)] at hz
 unfold LS at hz
 rw [List.take_length] at hz
 obtain ⟨o,ho,rfl⟩:=List.mem_map.1 hz
 exact (AAR hv ho).1
def TH (ar:List (List V2)) (q:Pq):Bool:=ar.any λ z=>decide (0<=Dw z q)
theorem ABo {ar:List (List V2)} (h:∀ z ∈ ar,AJ z=true) {p:PtD} (hp:okP p=true):(ar.any λ z=>decide (0<=cpZ z p))=TH ar (pqR p):=by
 unfold TH
 rw [Bool.eq_iff_iff,List.any_eq_true,List.any_eq_true]
 constructor
 ·rintro ⟨z,hz,h0⟩;exact ⟨z,hz,by rwa [Vh (h z hz) hp] at h0⟩
 ·rintro ⟨z,hz,h0⟩;exact ⟨z,hz,by rw [Vh (h z hz) hp];exact h0⟩
def smF (ar:List (List V2)) (p q:Pq):Bool:=ar.any λ z=>smB z p q
theorem ACu {ar:List (List V2)} (h:∀ z ∈ ar,AJ z=true) {p q:PtD} (hp:okP p=true) (hq:okP q=true):(ar.any λ z=>smZ z p q)=smF ar (pqR p) (pqR q):=by
 unfold smF
 have e:∀ z ∈ ar,smZ z p q=smB z (pqR p) (pqR q):=λ z hz=>by unfold smZ;rw [h z hz,hp,hq];rfl
 rw [Bool.eq_iff_iff,List.any_eq_true,List.any_eq_true]
 constructor
 ·rintro ⟨z,hz,h0⟩;exact ⟨z,hz,by rwa [e z hz] at h0⟩
 ·rintro ⟨z,hz,h0⟩;exact ⟨z,hz,by rw [e z hz];exact h0⟩
def BF (b:V2×V2) (ar:List (List V2)) (q:Pq):Bool:=inQ b q && !(TH ar q)
theorem OD {b:V2×V2} {ar:List (List V2)} (h:∀ z ∈ ar,AJ z=true) {p:PtD} : OB b ar p=(okP p && BF b ar (pqR p)):=by
 unfold OB Qx BF
 cases hp:okP p with
 | false=>rfl
 | true=>rw [ABo h hp];simp
def D1 (s:Scn) (h:Int) (p:PtD):Bool:=AZ s h && OB (AN s h) (blk s h) p
def AAS (b:V2×V2) (ar:List (List V2)) (p q:PtD):Bool:=!(ar.any λ z=>smZ z p q) && (OB b ar p && OB b ar q)
def DM (s:Scn) (h:Int) (p q:PtD):Bool:=AZ s h && AAS (AN s h) (blk s h) p q
theorem Eu {s:Scn} {h:Int} (hl:AZ s h=true):(AL s && inR h 0 3)=true:=by
 unfold AZ at hl
 rw [Bool.and_eq_true] at hl
 exact hl.1
theorem JQ {s:Scn} {h:Int} (hv:(AL s && inR h 0 3)=true):AZ s h=JR (FV s h.toNat):=by unfold AZ;rw [hv,Bool.true_and]
theorem Xh {s:Scn} {h:Int} (hv:(AL s && inR h 0 3)=false):AZ s h=false/\AN s h=((0,0),(0,0)):=by
 have e:AZ s h=false:=by unfold AZ;rw [hv,Bool.false_and]
 exact ⟨e,by unfold AN;rw [e];rfl⟩
theorem Fo {s:Scn} {h:Int} (hl:AZ s h=false):AN s h=((0,0),(0,0)):=by unfold AN;rw [hl];rfl
theorem IC {s:Scn} {h:Int} (hl:AZ s h=true):AN s h=FV s h.toNat:=by unfold AN;rw [hl];rfl
theorem ADe {s:Scn} {h:Int} (hv:(AL s && inR h 0 3)=true):IntKind.i64.wrap (s.low.1-(Db (AD s h)).1)=(FV s h.toNat).1.1/\IntKind.i64.wrap (s.low.2-(Db (AD s h)).2)=(FV s h.toNat).1.2/\IntKind.i64.wrap (s.high.1-(CK (AD s h)).1)=(FV s h.toNat).2.1/\IntKind.i64.wrap (s.high.2-(CK (AD s h)).2)=(FV s h.toNat).2.2:=by
 obtain ⟨r1,r2,r3⟩:=HD hv
 have hn:=(Ce r1).1
 rw [Bool.and_eq_true] at hv
 have hb:=N4 hv.1
 have e:=Cv hv.1 (BO.1 hv.2)
 have hz:=KO r3 (show 0<(AD s h).length by omega)
 have hl:∀ p ∈ AD s h,-20<=p.1/\p.1<=20/\-20<=p.2/\p.2<=20:=λ p hp=>FT (List.all_eq_true.1 r3 p hp)
 have b1:=GY (m:=20) (AD s h) ((AD s h).getD 0 (0,0)) hz hl
 have b2:=GZ (m:=20) (AD s h) ((AD s h).getD 0 (0,0)) hz hl
 have e1:FV s h.toNat=((s.low.1-(Db (AD s h)).1,s.low.2-(Db (AD s h)).2),(s.high.1-(CK (AD s h)).1,s.high.2-(CK (AD s h)).2)):=by rw [e];rfl
 rw [e1]
 have c1:Db (AD s h)=(AD s h).foldl I1 ((AD s h).getD 0 (0,0)):=rfl
 have c2:CK (AD s h)=(AD s h).foldl I2 ((AD s h).getD 0 (0,0)):=rfl
 rw [c1,c2]
 exact ⟨AB (by omega) (by omega),AB (by omega) (by omega),AB (by omega) (by omega),AB (by omega) (by omega)⟩
theorem ACv {s:Scn} {h:Int} (hv:(AL s && inR h 0 3)=true):OZ (FV s h.toNat):=by
 obtain ⟨r1,r2,r3⟩:=HD hv
 have hn:=(Ce r1).1
 rw [Bool.and_eq_true] at hv
 have hb:=N4 hv.1
 have e:=Cv hv.1 (BO.1 hv.2)
 have hz:=KO r3 (show 0<(AD s h).length by omega)
 have hl:∀ p ∈ AD s h,-20<=p.1/\p.1<=20/\-20<=p.2/\p.2<=20:=λ p hp=>FT (List.all_eq_true.1 r3 p hp)
 have b1:=GY (m:=20) (AD s h) ((AD s h).getD 0 (0,0)) hz hl
 have b2:=GZ (m:=20) (AD s h) ((AD s h).getD 0 (0,0)) hz hl
 have e1:FV s h.toNat=((s.low.1-(Db (AD s h)).1,s.low.2-(Db (AD s h)).2),(s.high.1-(CK (AD s h)).1,s.high.2-(CK (AD s h)).2)):=by rw [e];rfl
 rw [e1]
 have c1:Db (AD s h)=(AD s h).foldl I1 ((AD s h).getD 0 (0,0)):=rfl
 have c2:CK (AD s h)=(AD s h).foldl I2 ((AD s h).getD 0 (0,0)):=rfl
 rw [c1,c2]
 unfold OZ
 simp only
 omega
theorem Px (s:Scn) (h:Int):OZ (AN s h):=by
 cases hl:AZ s h with
 | false=>rw [Fo hl];unfold OZ;simp only;omega
 | true=>rw [IC hl];exact ACv (Eu hl)
def Xi:Con:={ ι:=Scn×Int,pre:=λ i=>Bu i.1/\(AL i.1 && inR i.2 0 3)=true,args:=λ i=>[DA.agg [cI i.1.low.1,cI i.1.low.2,cI i.1.high.1,cI i.1.high.2,DC.sl 24 [.int,.int] (AA i.1.robot),DC.sl 25 [.sl 24 [.int,.int]] (AK i.1.obst),DC.sl 24 [.int,.int] (AA i.1.tables)],.one (cI i.2)],res:=λ i=>⟨true,[some 4,none],[rcI ((AN i.1 i.2).1.1),rcI ((AN i.1 i.2).1.2),rcI ((AN i.1 i.2).2.1),rcI ((AN i.1 i.2).2.2),rcB (AZ i.1 i.2)]⟩ }
theorem TJ:Xi.Ok Tryz.prog 18:=by
 refine fok (X:=⟨tt,[(9,Aq),(52,G9)],[],66,[]⟩) mixed AI (CTok.cons H7 (CTok.cons Xf (CTok.nil _))) Tryz.func18 (λ _=>[]) ?_
 rintro ⟨s,h⟩ hpre
 have hpre:Bu s/\(AL s && inR h 0 3)=true:=hpre
 refine AH (q:=let Z2:=AN s h;let Z1:=(vI (0:Int)=vI (Z2.1.1))/\(vI (0:Int)=vI (Z2.1.2))/\(vI (0:Int)=vI (Z2.2.1))/\(vI (0:Int)=vI (Z2.2.2))/\(vB false=vB (AZ s h));∃ i1:Scn×Int,[DA.agg [cI s.low.1,cI s.low.2,cI s.high.1,cI s.high.2,DC.sl 24 [.int,.int] (AA s.robot),DC.sl 25 [.sl 24 [.int,.int]] (AK s.obst),DC.sl 24 [.int,.int] (AA s.tables)],DA.one (cI h)]=Aq.args i1/\Aq.pre i1/\(∀ b2:Bool,(b2=true->AA (AD i1.1 i1.2)=[])->(ifB (b2) Z1 (∃ i3:(List V2),let Z6:=wR (s.low.2-((Db i3).2));let Z5:=wR (s.low.1-((Db i3).1));let Z4:=wR (s.high.2-((CK i3).2));let Z3:=wR (s.high.1-((CK i3).1));[DA.one (DC.sl 24 [.int,.int] (AA (AD i1.1 i1.2)))]=G9.args i3/\G9.pre i3/\(ifB ((!(decide (Z5≥Z3)))) (ifB ((decide (Z6≥Z4))) Z1 ((vI Z5=vI (Z2.1.1))/\(vI Z6=vI (Z2.1.2))/\(vI Z3=vI (Z2.2.1))/\(vI Z4=vI (Z2.2.2))/\(vB true=vB (AZ s h)))) Z1))))) (by kernel_rfl) ?_
 conv=>zeta
 delta ifB vB vI wR
 have hv:=hpre.2
 have hpre:=hpre.1
 have hrs:=JP hv
 obtain ⟨w1,w2,w3,w4⟩:=ADe hv
 have hrv:=TA s h
 have hvl:=AC (AD s h)
 refine ⟨(s,h),by
  rfl,by
  trivial,?_⟩
 intro b2 q4
 refine ⟨λ c5=>?_,λ c5=>?_⟩
 ·try simp only [nrm] at c5
  exfalso
  have hq:=congrArg List.length (q4 c5)
  rw [show AA (AD (s,h).1 (s,h).2)=AA (AD s h) from rfl,hvl] at hq
  simp only [List.length_nil] at hq
  omega -- done
 try simp only [nrm] at c5
 refine ⟨(AD s h),by
  rfl,by
  trivial,?_⟩
 refine And.symm ⟨λ c14=>?_,λ c14=>?_⟩
 ·try simp only [nrm] at c14
  rw [w1,w3] at c14
  have hO:AZ s h=false:=by rw [JQ hv];unfold JR;rw [decide_eq_false (by omega)];rfl
  have hE:=Fo hO
  refine ⟨?_,?_,?_,?_,?_⟩
  ·rw [hE];done
  ·rw [hE];done
  ·rw [hE];done
  ·rw [hE];done
  rw [hO];done
 try simp only [nrm] at c14
 refine ⟨λ c15=>?_,λ c15=>?_⟩
 ·try simp only [nrm] at c15
  rw [w2,w4] at c15
  have hO:AZ s h=false:=by rw [JQ hv];unfold JR;rw [decide_eq_false (show ¬ (FV s h.toNat).1.2<(FV s h.toNat).2.2 by omega),Bool.and_false]
  have hE:=Fo hO
  refine ⟨?_,?_,?_,?_,?_⟩
  ·rw [hE];done
  ·rw [hE];done
  ·rw [hE];done
  ·rw [hE];done
  rw [hO];done
 try simp only [nrm] at c15
 rw [w1,w3] at c14
 rw [w2,w4] at c15
 have hO:AZ s h=true:=by rw [JQ hv];unfold JR;rw [decide_eq_true (by omega),decide_eq_true (by omega)];rfl
 have hE:=IC hO
 refine ⟨?_,?_,?_,?_,?_⟩
 ·rw [hE,w1]
 ·rw [hE,w2]
 ·rw [hE,w3]
 ·rw [hE,w4]
 rw [hO];done
def Py:Con:={ ι:=Scn×Int,pre:=λ i=>Bu i.1/\(AL i.1 && inR i.2 0 3)=false,args:=λ i=>[DA.agg [cI i.1.low.1,cI i.1.low.2,cI i.1.high.1,cI i.1.high.2,DC.sl 24 [.int,.int] (AA i.1.robot),DC.sl 25 [.sl 24 [.int,.int]] (AK i.1.obst),DC.sl 24 [.int,.int] (AA i.1.tables)],.one (cI i.2)],res:=λ i=>⟨true,[some 4,none],[rcI ((AN i.1 i.2).1.1),rcI ((AN i.1 i.2).1.2),rcI ((AN i.1 i.2).2.1),rcI ((AN i.1 i.2).2.2),rcB (AZ i.1 i.2)]⟩ }
theorem AAT:Py.Ok Tryz.prog 18:=C3 rfl ⟨_,Tryz.func18,by decide,rfl⟩ (λ _=>Nat.le_of_ble_eq_true rfl) (λ _=>rfl) (λ i=>[.im (.int .i64 (AN i.1 i.2).1.1),.im (.int .i64 (AN i.1 i.2).1.2),.im (.int .i64 (AN i.1 i.2).2.1),.im (.int .i64 (AN i.1 i.2).2.2),.im (.bool (AZ i.1 i.2))]) (λ _=>rfl) (λ _=>rfl) (λ i hp w us h=>by
 obtain ⟨s,k⟩:=i
 obtain ⟨cs,v,rfl,h1,h2,h3⟩:=Jo (t:=[.int,.int,.int,.int,.sl 24 [.int,.int],.sl 25 [.sl 24 [.int,.int]],.sl 24 [.int,.int]]) (x:=.int) (ds:=Xr s) (dx:=.int k) h rfl
 have h2:v=.int .i64 k:=by simpa [Rd] using h2
 subst h2
 rw [show BN (Py.args (s,k)) (cs++[.int .i64 k])=[.agg cs.toArray,.int .i64 k] from h3 _ _ rfl]
 refine (TE s k _ w (RdRow.scene h1) hp.2).mono ?_
 rintro e w' ⟨rfl,hb⟩
 obtain ⟨e1,e2⟩:=Xh hp.2
 refine ⟨[.int .i64 0,.int .i64 0,.int .i64 0,.int .i64 0,.bool false],rfl,?_,hb⟩
 show Own w' w.heap.size w'.heap.size [.int,.int,.int,.int,.bool] [.int (AN s k).1.1,.int (AN s k).1.2,.int (AN s k).2.1,.int (AN s k).2.2,.bool (AZ s k)] [.int .i64 0,.int .i64 0,.int .i64 0,.int .i64 0,.bool false]
 rw [e1,e2]
 exact ⟨[],⟨[],[],rfl,Fp.mk_int _,[],[],rfl,Fp.mk_int _,[],[],rfl,Fp.mk_int _,[],[],rfl,Fp.mk_int _,[],[],rfl,Fp.mk_bool _,rfl⟩,List.nodup_nil,λ b hb=>by simp at hb⟩)
def KP:Con:={ ι:=Scn×Int,pre:=λ i=>Bu i.1,args:=λ i=>[DA.agg [cI i.1.low.1,cI i.1.low.2,cI i.1.high.1,cI i.1.high.2,DC.sl 24 [.int,.int] (AA i.1.robot),DC.sl 25 [.sl 24 [.int,.int]] (AK i.1.obst),DC.sl 24 [.int,.int] (AA i.1.tables)],.one (cI i.2)],res:=λ i=>⟨true,[some 4,none],[rcI ((AN i.1 i.2).1.1),rcI ((AN i.1 i.2).1.2),rcI ((AN i.1 i.2).2.1),rcI ((AN i.1 i.2).2.2),rcB (AZ i.1 i.2)]⟩ }
theorem ABp:KP.Ok Tryz.prog 18 where
 enter:=TJ.enter
 small:=λ _=>Nat.le_of_ble_eq_true rfl
 calls:=λ i hp F w us mb h=>by
  cases hc:(AL i.1 && inR i.2 0 3) with
  | false=>
   refine (AAT.calls i ⟨hp,hc⟩ F w us mb h).mono ?_
   rintro e w' ⟨rs,bs,he,q⟩
   exact ⟨rs,bs,he,⟨q.res,q.nd,q.fresh,q.turned,q.os,q.tape,q.output,q.size,q.keep⟩⟩
  | true=>
   refine (TJ.calls i ⟨hp,hc⟩ F w us mb h).mono ?_
   rintro e w' ⟨rs,bs,he,q⟩
   exact ⟨rs,bs,he,⟨q.res,q.nd,q.fresh,q.turned,q.os,q.tape,q.output,q.size,q.keep⟩⟩
def Cx:Con:={ ι:=Scn×Int,pre:=λ i=>Bu i.1,args:=λ i=>[DA.agg [cI i.1.low.1,cI i.1.low.2,cI i.1.high.1,cI i.1.high.2,DC.sl 24 [.int,.int] (AA i.1.robot),DC.sl 25 [.sl 24 [.int,.int]] (AK i.1.obst),DC.sl 24 [.int,.int] (AA i.1.tables)],.one (cI i.2)],res:=λ i=>⟨false,[some 6],[rcB (AZ i.1 i.2),rcI ((AN i.1 i.2).1.1),rcI ((AN i.1 i.2).1.2),rcI ((AN i.1 i.2).2.1),rcI ((AN i.1 i.2).2.2),.own 25 [.sl 24 [.int,.int]] (AK (blk i.1 i.2))]⟩ }
theorem OE:Cx.Ok Tryz.prog 44:=by
 refine fok (X:=⟨tt,[(18,KP),(20,KM)],[],19,[]⟩) mixed AI (CTok.cons ABp (CTok.cons ABm (CTok.nil _))) Tryz.func44 (λ _=>[]) ?_
 rintro ⟨s,h⟩ hpre
 have hpre:Bu s:=hpre
 refine AH (q:=let Z2:=AN s h;∃ i1:Scn×Int,let Z1:=AN i1.1 i1.2;[DA.agg [cI s.low.1,cI s.low.2,cI s.high.1,cI s.high.2,DC.sl 24 [.int,.int] (AA s.robot),DC.sl 25 [.sl 24 [.int,.int]] (AK s.obst),DC.sl 24 [.int,.int] (AA s.tables)],DA.one (cI h)]=KP.args i1/\KP.pre i1/\(∃ i2:Scn×Int,[DA.agg [cI s.low.1,cI s.low.2,cI s.high.1,cI s.high.2,DC.sl 24 [.int,.int] (AA s.robot),DC.sl 25 [.sl 24 [.int,.int]] (AK s.obst),DC.sl 24 [.int,.int] (AA s.tables)],DA.one (cI h)]=KM.args i2/\KM.pre i2/\((vB (AZ i1.1 i1.2)=vB (AZ s h))/\(vI (Z1.1.1)=vI (Z2.1.1))/\(vI (Z1.1.2)=vI (Z2.1.2))/\(vI (Z1.2.1)=vI (Z2.2.1))/\(vI (Z1.2.2)=vI (Z2.2.2))/\(AK (blk i2.1 i2.2)=AK (blk s h))))) (by kernel_rfl) ?_
 conv=>zeta
 delta vB vI
 refine ⟨(s,h),by
  rfl,by
  trivial,?_⟩
 refine ⟨(s,h),by
  rfl,by
  trivial,?_⟩
 exact ⟨rfl,rfl,rfl,rfl,rfl,rfl⟩
def Fq:Con:={ ι:=(List V2)×Pq,pre:=λ i=>AJ i.1=true,args:=λ i=>[.one (DC.sl 24 [.int,.int] (AA i.1)),.one (.ro (.ptr [.im (Value.bool (decide (i.2.x.z<0))),.sl 3 [.int] (L i.2.x.z.natAbs),.sl 3 [.int] (L i.2.x.d),.im (Value.bool (decide (i.2.y.z<0))),.sl 3 [.int] (L i.2.y.z.natAbs),.sl 3 [.int] (L i.2.y.d)]))],res:=λ i=>⟨false,[none],[rcB (decide (0<=Dw i.1 i.2))]⟩ }
theorem Uz:Fq.Ok Tryz.prog 88:=by
 refine fok (X:=⟨tt,[(89,Bm)],[],8,[]⟩) mixed AI (CTok.cons L1 (CTok.nil _)) Tryz.func88 (λ _=>[]) ?_
 rintro ⟨l,q⟩ hpre
 have hpre:AJ l=true:=hpre
 refine AH (q:=∃ i1:(List V2)×Pq,[DA.one (DC.sl 24 [.int,.int] (AA l)),dP q]=Bm.args i1/\Bm.pre i1/\((vB (decide ((Dw i1.1 i1.2)≥(0:Int)))=vB (decide (0<=Dw l q))))) (by kernel_rfl) ?_
 delta vB
 have hP:=Ce hpre
 refine ⟨(l,q),by
  rfl,by
  show l.all AF=true/\0<l.length/\l.length<=16
  exact ⟨hP.2.2,by omega,by omega⟩,?_⟩
 rfl
def EP:Con:={ ι:=(List (List V2))×Pq,pre:=λ i=>i.1.length<=9223372036854775807/\(∀ z ∈ i.1,AJ z=true),args:=λ i=>[.one (DC.sl 25 [.sl 24 [.int,.int]] (AK i.1)),.one (.ro (.fn 88 [[.im (Value.bool (decide (i.2.x.z<0))),.sl 3 [.int] (L i.2.x.z.natAbs),.sl 3 [.int] (L i.2.x.d),.im (Value.bool (decide (i.2.y.z<0))),.sl 3 [.int] (L i.2.y.z.natAbs),.sl 3 [.int] (L i.2.y.d)]]))],tag:=89,res:=λ i=>⟨false,[none],[rcI (MD (λ z=>decide (0<=Dw z i.2)) i.1)]⟩ }
theorem Qy:EP.Ok Tryz.prog 129:=by
 refine fok (X:=⟨tt,[(88,Fq)],[],19,[]⟩) mixed AI (CTok.cons Uz (CTok.nil _)) Tryz.func129 (λ (i:(List (List V2))×Pq)=>[(2,.mk 3 (Nat) (λ x1=>{ tm:=[(0,tX 1),(1,tX 2),(7,tI (nI ((AK i.1).length))),(8,tI (nI x1))],en:=[(1,.view 25 [.sl 24 [.int,.int]] (AK i.1) []),(2,.ro (.fn 88 [[.im (Value.bool (decide (i.2.x.z<0))),.sl 3 [.int] (L i.2.x.z.natAbs),.sl 3 [.int] (L i.2.x.d),.im (Value.bool (decide (i.2.y.z<0))),.sl 3 [.int] (L i.2.y.z.natAbs),.sl 3 [.int] (L i.2.y.d)]]) [])] }) (λ x1=>x1<=i.1.length/\∀ j,j<x1->(λ z=>decide (0<=Dw z i.2)) (i.1.getD j [])=false) (λ x1=>i.1.length-x1) (λ _=>[]))]) ?_
 rintro ⟨ar,q⟩ hpre
 have hpre:ar.length<=9223372036854775807/\(∀ z ∈ ar,AJ z=true):=hpre
 refine AH (q:=let Z7:=L q.y.z.natAbs;let Z6:=L q.x.z.natAbs;let Z5:=MD (λ z=>decide (0<=Dw z q)) ar;let Z4:=vB (decide (q.y.z<0));let Z3:=vB (decide (q.x.z<0));let Z2:=AK ar;let Z8:=nI (Z2.length);let Z1:=(.fn 88 [[.im Z3,.sl 3 [.int] Z6,.sl 3 [.int] (L q.x.d),.im Z4,.sl 3 [.int] Z7,.sl 3 [.int] (L q.y.d)]]:RO)=.fn 88 [[.im Z3,.sl 3 [.int] Z6,.sl 3 [.int] (L q.x.d),.im Z4,.sl 3 [.int] Z7,.sl 3 [.int] (L q.y.d)]];(∃ x1:Nat,(x1<=ar.length/\∀ j,j<x1->(λ z=>decide (0<=Dw z q)) (ar.getD j [])=false)/\((rf (vI Z8))/\(vI (0:Int)=vI (nI x1))/\(rf Z2)/\Z1))/\∀ x1:Nat,(x1<=ar.length/\∀ j,j<x1->(λ z=>decide (0<=Dw z q)) (ar.getD j [])=false)->(ifB ((decide ((nI x1)<Z8))) ((0<=(nI x1)/\(nI x1)<(Z2.length:Int))/\((x1<Z2.length)/\(∃ i1:(List V2)×Pq,[DA.one (DC.sl 24 [.int,.int] ((((Z2.getD x1 []).getD 0 (.int 0))).r)),DA.one (DC.ro (.ptr [.im Z3,.sl 3 [.int] Z6,.sl 3 [.int] (L q.x.d),.im Z4,.sl 3 [.int] Z7,.sl 3 [.int] (L q.y.d)]))]=Fq.args i1/\Fq.pre i1/\(ifB ((decide (0<=Dw i1.1 i1.2))) ((vI (nI x1)=vI Z5)) (∃ y2:Nat,(y2<=ar.length/\∀ j,j<y2->(λ z=>decide (0<=Dw z q)) (ar.getD j [])=false)/\(ar.length-y2<ar.length-x1)/\((rf (vI Z8))/\(vI (wR ((nI x1)+(1:Int)))=vI (nI y2))/\(rf Z2)/\Z1)))))) ((vI (-1:Int)=vI Z5)))) (by kernel_rfl) ?_
 conv=>zeta
 delta ifB vB vI wR nI
 have hal:=A5 ar
 refine ⟨⟨0,by
  exact ⟨Nat.zero_le _,λ j hj=>absurd hj (Nat.not_lt_zero j)⟩,?_⟩,?_⟩
 ·refine ⟨rfl,?_,rfl,?_⟩
  ·rfl
  rfl
 intro (k:Nat) hki1
 have hki1:k<=ar.length/\∀ j,j<k->(λ z=>decide (0<=Dw z q)) (ar.getD j [])=false:=hki1
 refine And.symm ⟨λ c7=>?_,λ c7=>?_⟩
 ·try simp only [nrm] at c7
  rw [Ps (d:=[]) (λ j hj=>hki1.2 j (by omega))]
 try simp only [nrm] at c7
 refine ao (by first|omega) λ o8=>?_
 refine ao (by first|omega) λ o9=>?_
 refine ⟨(ar.getD k [],q),by
  rw [LD (by omega)];rfl,by
  exact hpre.2 _ (by simp [List.getD,show k<ar.length by omega]),?_⟩
 refine ⟨λ c13=>?_,λ c13=>?_⟩
 ·try simp only [nrm] at c13
  rw [V0 (d:=[]) (by omega) hki1.2 (by simpa using c13)]
 try simp only [nrm] at c13
 refine ⟨k+1,by
  exact ⟨by omega,IT hki1.2 (by simpa using c13)⟩,by
  omega,?_⟩
 refine ⟨rfl,?_,rfl,?_⟩
 ·exact Aa (AB (by omega) (by omega))
 rfl
def Ir:Con:={ ι:=(List (List V2))×Pq,pre:=λ i=>i.1.length<=9223372036854775807/\(∀ z ∈ i.1,AJ z=true),args:=λ i=>[.one (DC.sl 25 [.sl 24 [.int,.int]] (AK i.1)),.one (.ro (.fn 88 [[.im (Value.bool (decide (i.2.x.z<0))),.sl 3 [.int] (L i.2.x.z.natAbs),.sl 3 [.int] (L i.2.x.d),.im (Value.bool (decide (i.2.y.z<0))),.sl 3 [.int] (L i.2.y.z.natAbs),.sl 3 [.int] (L i.2.y.d)]]))],tag:=89,res:=λ i=>⟨false,[none],[rcB (i.1.any (λ z=>decide (0<=Dw z i.2)))]⟩ }
theorem AAU:Ir.Ok Tryz.prog 77:=by
 refine fok (X:=⟨tt,[(129,EP)],[],9,[]⟩) mixed AI (CTok.cons Qy (CTok.nil _)) Tryz.func77 (λ _=>[]) ?_
 rintro ⟨ar,q⟩ hpre
 have hpre:ar.length<=9223372036854775807/\(∀ z ∈ ar,AJ z=true):=hpre
 refine AH (q:=∃ i1:(List (List V2))×Pq,[DA.one (DC.sl 25 [.sl 24 [.int,.int]] (AK ar)),DA.one (DC.ro (.fn 88 [[.im (vB (decide (q.x.z<0))),.sl 3 [.int] (L q.x.z.natAbs),.sl 3 [.int] (L q.x.d),.im (vB (decide (q.y.z<0))),.sl 3 [.int] (L q.y.z.natAbs),.sl 3 [.int] (L q.y.d)]]))]=EP.args i1/\EP.pre i1/\((vB (decide ((MD (λ z=>decide (0<=Dw z i1.2)) i1.1)≥(0:Int)))=vB (ar.any (λ z=>decide (0<=Dw z q)))))) (by kernel_rfl) ?_
 delta vB
 refine ⟨(ar,q),by
  rfl,by
  exact hpre,?_⟩
 exact congrArg Value.bool (Sg _ _)
def Cg:Con:={ ι:=Bool×(V2×V2)×(List (List V2))×Pq,pre:=λ i=>(∀ z ∈ i.2.2.1,AJ z=true)/\i.2.2.1.length<=1048576/\OZ i.2.1,args:=λ i=>[DA.agg [cB i.1,cI i.2.1.1.1,cI i.2.1.1.2,cI i.2.1.2.1,cI i.2.1.2.2,DC.sl 25 [.sl 24 [.int,.int]] (AK i.2.2.1)],dP i.2.2.2],res:=λ i=>⟨false,[none],[rcB (i.1 && BF i.2.1 i.2.2.1 i.2.2.2)]⟩ }
theorem Pz:Cg.Ok Tryz.prog 45:=by
 refine fok (X:=⟨tt,[(87,Iq),(77,Ir)],[],20,[]⟩) mixed AI (CTok.cons AAJ (CTok.cons AAU (CTok.nil _))) Tryz.func45 (λ _=>[]) ?_
 rintro ⟨o,b,ar,q⟩ hpre
 have hpre:(∀ z ∈ ar,AJ z=true)/\ar.length<=1048576/\OZ b:=hpre
 refine AH (q:=let Z1:=(vB false=vB (o && BF b ar q));ifB (o) (∃ i1:(V2×V2)×Pq,[DA.agg [cI b.1.1,cI b.1.2,cI b.2.1,cI b.2.2],dP q]=Iq.args i1/\Iq.pre i1/\(ifB ((inQ i1.1 i1.2)) (∃ i2:(List (List V2))×Pq,[DA.one (DC.sl 25 [.sl 24 [.int,.int]] (AK ar)),DA.one (DC.ro (.fn 88 [[.im (vB (decide (q.x.z<0))),.sl 3 [.int] (L q.x.z.natAbs),.sl 3 [.int] (L q.x.d),.im (vB (decide (q.y.z<0))),.sl 3 [.int] (L q.y.z.natAbs),.sl 3 [.int] (L q.y.d)]]))]=Ir.args i2/\Ir.pre i2/\((vB (!(i2.1.any (λ z=>decide (0<=Dw z i2.2))))=vB (o && BF b ar q)))) Z1)) Z1) (by kernel_rfl) ?_
 conv=>zeta
 delta ifB vB
 obtain ⟨hg,hal,hb⟩:=hpre
 refine And.symm ⟨λ c1=>?_,λ c1=>?_⟩
 ·try simp only [nrm] at c1
  exact congrArg Value.bool (by unfold BF TH;simp_all)
 try simp only [nrm] at c1
 refine ⟨(b,q),by
  rfl,by
  exact hb,?_⟩
 refine And.symm ⟨λ c5=>?_,λ c5=>?_⟩
 ·try simp only [nrm] at c5
  exact congrArg Value.bool (by unfold BF TH;simp_all)
 try simp only [nrm] at c5
 refine ⟨(ar,q),by
  rfl,by
  show ar.length<=9223372036854775807/\(∀ z ∈ ar,AJ z=true)
  exact ⟨by omega,hg⟩,?_⟩
 exact congrArg Value.bool (by unfold BF TH;simp_all)
def Ev:Con:={ ι:=(List V2)×Pq×Pq,pre:=λ i=>AJ i.1=true,args:=λ i=>[.one (DC.sl 24 [.int,.int] (AA i.1)),.one (.ro (.ptr [.im (Value.bool (decide (i.2.1.x.z<0))),.sl 3 [.int] (L i.2.1.x.z.natAbs),.sl 3 [.int] (L i.2.1.x.d),.im (Value.bool (decide (i.2.1.y.z<0))),.sl 3 [.int] (L i.2.1.y.z.natAbs),.sl 3 [.int] (L i.2.1.y.d)])),.one (.ro (.ptr [.im (Value.bool (decide (i.2.2.x.z<0))),.sl 3 [.int] (L i.2.2.x.z.natAbs),.sl 3 [.int] (L i.2.2.x.d),.im (Value.bool (decide (i.2.2.y.z<0))),.sl 3 [.int] (L i.2.2.y.z.natAbs),.sl 3 [.int] (L i.2.2.y.d)]))],res:=λ i=>⟨false,[none],[rcB (smB i.1 i.2.1 i.2.2)]⟩ }
theorem TK:Ev.Ok Tryz.prog 96:=by
 refine fok (X:=⟨tt,[(97,Er)],[],9,[]⟩) mixed AI (CTok.cons Sf (CTok.nil _)) Tryz.func96 (λ _=>[]) ?_
 rintro ⟨l,p,q⟩ hpre
 have hpre:AJ l=true:=hpre
 refine AH (q:=∃ i1:(List V2)×Pq×Pq,[DA.one (DC.sl 24 [.int,.int] (AA l)),dP p,dP q]=Er.args i1/\Er.pre i1/\((vB (smB i1.1 i1.2.1 i1.2.2)=vB (smB l p q)))) (by kernel_rfl) ?_
 delta vB
 have hP:=Ce hpre
 refine ⟨(l,p,q),by
  rfl,by
  show l.all AF=true/\0<l.length/\l.length<=16
  exact ⟨hP.2.2,by omega,by omega⟩,?_⟩
 exact rfl
def EQ:Con:={ ι:=(List (List V2))×Pq×Pq,pre:=λ i=>i.1.length<=9223372036854775807/\(∀ z ∈ i.1,AJ z=true),args:=λ i=>[.one (DC.sl 25 [.sl 24 [.int,.int]] (AK i.1)),.one (.ro (.fn 96 [[.im (Value.bool (decide (i.2.1.x.z<0))),.sl 3 [.int] (L i.2.1.x.z.natAbs),.sl 3 [.int] (L i.2.1.x.d),.im (Value.bool (decide (i.2.1.y.z<0))),.sl 3 [.int] (L i.2.1.y.z.natAbs),.sl 3 [.int] (L i.2.1.y.d)],[.im (Value.bool (decide (i.2.2.x.z<0))),.sl 3 [.int] (L i.2.2.x.z.natAbs),.sl 3 [.int] (L i.2.2.x.d),.im (Value.bool (decide (i.2.2.y.z<0))),.sl 3 [.int] (L i.2.2.y.z.natAbs),.sl 3 [.int] (L i.2.2.y.d)]]))],tag:=97,res:=λ i=>⟨false,[none],[rcI (MD (λ z=>smB z i.2.1 i.2.2) i.1)]⟩ }
theorem Qz:EQ.Ok Tryz.prog 129:=by
 refine fok (X:=⟨tt,[(96,Ev)],[],19,[]⟩) mixed AI (CTok.cons TK (CTok.nil _)) Tryz.func129 (λ (i:(List (List V2))×Pq×Pq)=>[(2,.mk 3 (Nat) (λ x1=>{ tm:=[(0,tX 1),(1,tX 2),(7,tI (nI ((AK i.1).length))),(8,tI (nI x1))],en:=[(1,.view 25 [.sl 24 [.int,.int]] (AK i.1) []),(2,.ro (.fn 96 [[.im (Value.bool (decide (i.2.1.x.z<0))),.sl 3 [.int] (L i.2.1.x.z.natAbs),.sl 3 [.int] (L i.2.1.x.d),.im (Value.bool (decide (i.2.1.y.z<0))),.sl 3 [.int] (L i.2.1.y.z.natAbs),.sl 3 [.int] (L i.2.1.y.d)],[.im (Value.bool (decide (i.2.2.x.z<0))),.sl 3 [.int] (L i.2.2.x.z.natAbs),.sl 3 [.int] (L i.2.2.x.d),.im (Value.bool (decide (i.2.2.y.z<0))),.sl 3 [.int] (L i.2.2.y.z.natAbs),.sl 3 [.int] (L i.2.2.y.d)]]) [])] }) (λ x1=>x1<=i.1.length/\∀ j,j<x1->(λ z=>smB z i.2.1 i.2.2) (i.1.getD j [])=false) (λ x1=>i.1.length-x1) (λ _=>[]))]) ?_
 rintro ⟨ar,p,q⟩ hpre
 have hpre:ar.length<=9223372036854775807/\(∀ z ∈ ar,AJ z=true):=hpre
 refine AH (q:=let Z11:=L q.y.z.natAbs;let Z10:=L q.x.z.natAbs;let Z9:=L p.y.z.natAbs;let Z8:=L p.x.z.natAbs;let Z7:=MD (λ z=>smB z p q) ar;let Z6:=vB (decide (q.y.z<0));let Z5:=vB (decide (q.x.z<0));let Z4:=vB (decide (p.y.z<0));let Z3:=vB (decide (p.x.z<0));let Z2:=AK ar;let Z12:=nI (Z2.length);let Z1:=(.fn 96 [[.im Z3,.sl 3 [.int] Z8,.sl 3 [.int] (L p.x.d),.im Z4,.sl 3 [.int] Z9,.sl 3 [.int] (L p.y.d)],[.im Z5,.sl 3 [.int] Z10,.sl 3 [.int] (L q.x.d),.im Z6,.sl 3 [.int] Z11,.sl 3 [.int] (L q.y.d)]]:RO)=.fn 96 [[.im Z3,.sl 3 [.int] Z8,.sl 3 [.int] (L p.x.d),.im Z4,.sl 3 [.int] Z9,.sl 3 [.int] (L p.y.d)],[.im Z5,.sl 3 [.int] Z10,.sl 3 [.int] (L q.x.d),.im Z6,.sl 3 [.int] Z11,.sl 3 [.int] (L q.y.d)]];(∃ x1:Nat,(x1<=ar.length/\∀ j,j<x1->(λ z=>smB z p q) (ar.getD j [])=false)/\((rf (vI Z12))/\(vI (0:Int)=vI (nI x1))/\(rf Z2)/\Z1))/\∀ x1:Nat,(x1<=ar.length/\∀ j,j<x1->(λ z=>smB z p q) (ar.getD j [])=false)->(ifB ((decide ((nI x1)<Z12))) ((0<=(nI x1)/\(nI x1)<(Z2.length:Int))/\((x1<Z2.length)/\(∃ i1:(List V2)×Pq×Pq,[DA.one (DC.sl 24 [.int,.int] ((((Z2.getD x1 []).getD 0 (.int 0))).r)),DA.one (DC.ro (.ptr [.im Z3,.sl 3 [.int] Z8,.sl 3 [.int] (L p.x.d),.im Z4,.sl 3 [.int] Z9,.sl 3 [.int] (L p.y.d)])),DA.one (DC.ro (.ptr [.im Z5,.sl 3 [.int] Z10,.sl 3 [.int] (L q.x.d),.im Z6,.sl 3 [.int] Z11,.sl 3 [.int] (L q.y.d)]))]=Ev.args i1/\Ev.pre i1/\(ifB ((smB i1.1 i1.2.1 i1.2.2)) ((vI (nI x1)=vI Z7)) (∃ y2:Nat,(y2<=ar.length/\∀ j,j<y2->(λ z=>smB z p q) (ar.getD j [])=false)/\(ar.length-y2<ar.length-x1)/\((rf (vI Z12))/\(vI (wR ((nI x1)+(1:Int)))=vI (nI y2))/\(rf Z2)/\Z1)))))) ((vI (-1:Int)=vI Z7)))) (by kernel_rfl) ?_
 conv=>zeta
 delta ifB vB vI wR nI
 have hal:=A5 ar
 refine ⟨⟨0,by
  exact ⟨Nat.zero_le _,λ j hj=>absurd hj (Nat.not_lt_zero j)⟩,?_⟩,?_⟩
 ·refine ⟨rfl,?_,rfl,?_⟩
  ·rfl
  rfl
 intro (k:Nat) hki1
 have hki1:k<=ar.length/\∀ j,j<k->(λ z=>smB z p q) (ar.getD j [])=false:=hki1
 refine And.symm ⟨λ c7=>?_,λ c7=>?_⟩
 ·try simp only [nrm] at c7
  rw [Ps (d:=[]) (λ j hj=>hki1.2 j (by omega))]
 try simp only [nrm] at c7
 refine ao (by first|omega) λ o8=>?_
 refine ao (by first|omega) λ o9=>?_
 refine ⟨(ar.getD k [],p,q),by
  rw [LD (by omega)];rfl,by
  exact hpre.2 _ (by simp [List.getD,show k<ar.length by omega]),?_⟩
 refine ⟨λ c13=>?_,λ c13=>?_⟩
 ·try simp only [nrm] at c13
  rw [V0 (d:=[]) (by omega) hki1.2 (by simpa using c13)]
 try simp only [nrm] at c13
 refine ⟨k+1,by
  exact ⟨by omega,IT hki1.2 (by simpa using c13)⟩,by
  omega,?_⟩
 refine ⟨rfl,?_,rfl,?_⟩
 ·exact Aa (AB (by omega) (by omega))
 rfl
def Is:Con:={ ι:=(List (List V2))×Pq×Pq,pre:=λ i=>i.1.length<=9223372036854775807/\(∀ z ∈ i.1,AJ z=true),args:=λ i=>[.one (DC.sl 25 [.sl 24 [.int,.int]] (AK i.1)),.one (.ro (.fn 96 [[.im (Value.bool (decide (i.2.1.x.z<0))),.sl 3 [.int] (L i.2.1.x.z.natAbs),.sl 3 [.int] (L i.2.1.x.d),.im (Value.bool (decide (i.2.1.y.z<0))),.sl 3 [.int] (L i.2.1.y.z.natAbs),.sl 3 [.int] (L i.2.1.y.d)],[.im (Value.bool (decide (i.2.2.x.z<0))),.sl 3 [.int] (L i.2.2.x.z.natAbs),.sl 3 [.int] (L i.2.2.x.d),.im (Value.bool (decide (i.2.2.y.z<0))),.sl 3 [.int] (L i.2.2.y.z.natAbs),.sl 3 [.int] (L i.2.2.y.d)]]))],tag:=97,res:=λ i=>⟨false,[none],[rcB (i.1.any (λ z=>smB z i.2.1 i.2.2))]⟩ }
theorem AAV:Is.Ok Tryz.prog 77:=by
 refine fok (X:=⟨tt,[(129,EQ)],[],9,[]⟩) mixed AI (CTok.cons Qz (CTok.nil _)) Tryz.func77 (λ _=>[]) ?_
 rintro ⟨ar,p,q⟩ hpre
 have hpre:ar.length<=9223372036854775807/\(∀ z ∈ ar,AJ z=true):=hpre
 refine AH (q:=∃ i1:(List (List V2))×Pq×Pq,[DA.one (DC.sl 25 [.sl 24 [.int,.int]] (AK ar)),DA.one (DC.ro (.fn 96 [[.im (vB (decide (p.x.z<0))),.sl 3 [.int] (L p.x.z.natAbs),.sl 3 [.int] (L p.x.d),.im (vB (decide (p.y.z<0))),.sl 3 [.int] (L p.y.z.natAbs),.sl 3 [.int] (L p.y.d)],[.im (vB (decide (q.x.z<0))),.sl 3 [.int] (L q.x.z.natAbs),.sl 3 [.int] (L q.x.d),.im (vB (decide (q.y.z<0))),.sl 3 [.int] (L q.y.z.natAbs),.sl 3 [.int] (L q.y.d)]]))]=EQ.args i1/\EQ.pre i1/\((vB (decide ((MD (λ z=>smB z i1.2.1 i1.2.2) i1.1)≥(0:Int)))=vB (ar.any (λ z=>smB z p q))))) (by kernel_rfl) ?_
 delta vB
 refine ⟨(ar,p,q),by
  rfl,by
  exact hpre,?_⟩
 exact congrArg Value.bool (Sg _ _)
def HE:Con:={ ι:=Bool×(V2×V2)×(List (List V2))×Pq×Pq,pre:=λ i=>(∀ z ∈ i.2.2.1,AJ z=true)/\i.2.2.1.length<=1048576/\OZ i.2.1,args:=λ i=>[DA.agg [cB i.1,cI i.2.1.1.1,cI i.2.1.1.2,cI i.2.1.2.1,cI i.2.1.2.2,DC.sl 25 [.sl 24 [.int,.int]] (AK i.2.2.1)],dP i.2.2.2.1,dP i.2.2.2.2],res:=λ i=>⟨false,[none],[rcB (i.1 && (BF i.2.1 i.2.2.1 i.2.2.2.1 && (BF i.2.1 i.2.2.1 i.2.2.2.2 && !(smF i.2.2.1 i.2.2.2.1 i.2.2.2.2))))]⟩ }
theorem Xj:HE.Ok Tryz.prog 51:=by
 refine fok (X:=⟨tt,[(45,Cg),(77,Is)],[],22,[]⟩) mixed AI (CTok.cons Pz (CTok.cons AAV (CTok.nil _))) Tryz.func51 (λ _=>[]) ?_
 rintro ⟨o,b,ar,p,q⟩ hpre
 have hpre:(∀ z ∈ ar,AJ z=true)/\ar.length<=1048576/\OZ b:=hpre
 refine AH (q:=let Z2:=List (List V2);let Z1:=o && (BF b ar p && (BF b ar q && !(smF ar p q)));∃ i1:Bool×(V2×V2)×Z2×Pq,[DA.agg [cB o,cI b.1.1,cI b.1.2,cI b.2.1,cI b.2.2,DC.sl 25 [.sl 24 [.int,.int]] (AK ar)],dP p]=Cg.args i1/\Cg.pre i1/\(ifB ((i1.1 && BF i1.2.1 i1.2.2.1 i1.2.2.2)) (∃ i2:Bool×(V2×V2)×Z2×Pq,[DA.agg [cB o,cI b.1.1,cI b.1.2,cI b.2.1,cI b.2.2,DC.sl 25 [.sl 24 [.int,.int]] (AK ar)],dP q]=Cg.args i2/\Cg.pre i2/\(ifB ((i2.1 && BF i2.2.1 i2.2.2.1 i2.2.2.2)) (∃ i3:Z2×Pq×Pq,[DA.one (DC.sl 25 [.sl 24 [.int,.int]] (AK ar)),DA.one (DC.ro (.fn 96 [[.im (vB (decide (p.x.z<0))),.sl 3 [.int] (L p.x.z.natAbs),.sl 3 [.int] (L p.x.d),.im (vB (decide (p.y.z<0))),.sl 3 [.int] (L p.y.z.natAbs),.sl 3 [.int] (L p.y.d)],[.im (vB (decide (q.x.z<0))),.sl 3 [.int] (L q.x.z.natAbs),.sl 3 [.int] (L q.x.d),.im (vB (decide (q.y.z<0))),.sl 3 [.int] (L q.y.z.natAbs),.sl 3 [.int] (L q.y.d)]]))]=Is.args i3/\Is.pre i3/\((vB (!(i3.1.any (λ z=>smB z i3.2.1 i3.2.2)))=vB Z1))) ((vB false=vB Z1)))) ((vB false=vB Z1)))) (by kernel_rfl) ?_
 conv=>zeta
 delta ifB vB
 obtain ⟨hg,hal,hb⟩:=hpre
 refine ⟨(o,b,ar,p),by
  rfl,by
  exact ⟨hg,hal,hb⟩,?_⟩
 refine And.symm ⟨λ c4=>?_,λ c4=>?_⟩
 ·try simp only [nrm] at c4
  exact congrArg Value.bool (by unfold smF;cases o <;> cases hq:BF b ar p <;> simp_all)
 try simp only [nrm] at c4
 refine ⟨(o,b,ar,q),by
  rfl,by
  exact ⟨hg,hal,hb⟩,?_⟩
 refine And.symm ⟨λ c8=>?_,λ c8=>?_⟩
 ·try simp only [nrm] at c8
  exact congrArg Value.bool (by unfold smF;cases o <;> cases hq:BF b ar p <;> simp_all)
 try simp only [nrm] at c8
 refine ⟨(ar,p,q),by
  rfl,by
  show ar.length<=9223372036854775807/\(∀ z ∈ ar,AJ z=true)
  exact ⟨by omega,hg⟩,?_⟩
 exact congrArg Value.bool (by unfold smF;cases o <;> cases hq:BF b ar p <;> simp_all)
theorem AAW (s:Scn) (h:Int) (hz:Bu s):(blk s h).length<=1048576:=by
 have h1:s.obst.length<=1048576:=by have:=hz.2.1;omega
 unfold blk
 split
 ·simp
 ·have:=S9 s h s.obst.length
  rw [A5] at this
  omega
theorem ID {s:Scn} {h:Int} {p:PtD} (hp:okP p=true):D1 s h p=(AZ s h && BF (AN s h) (blk s h) (pqR p)):=by
 unfold D1
 cases hl:AZ s h with
 | false=>rfl
 | true=>rw [OD (OC (Eu hl)),hp,Bool.true_and]
theorem Xk {s:Scn} {h:Int} {p:PtD} (hp:okP p=false):D1 s h p=false:=by unfold D1 OB Qx;rw [hp];simp
theorem GW {s:Scn} {h:Int} {p q:PtD} (hp:okP p=true) (hq:okP q=true):DM s h p q=(AZ s h && (BF (AN s h) (blk s h) (pqR p) && (BF (AN s h) (blk s h) (pqR q) && !(smF (blk s h) (pqR p) (pqR q))))):=by
 unfold DM
 cases hl:AZ s h with
 | false=>rfl
 | true=>
  have hb:=OC (Eu hl)
  unfold AAS
  rw [OD hb,OD hb,hp,hq,ACu hb hp hq,Bool.true_and,Bool.true_and,Bool.true_and,Bool.true_and]
  cases smF (blk s h) (pqR p) (pqR q) <;> cases BF (AN s h) (blk s h) (pqR p) <;> cases BF (AN s h) (blk s h) (pqR q) <;> rfl
theorem Xl {s:Scn} {h:Int} {p q:PtD} (hp:(okP p && okP q)=false):DM s h p q=false:=by
 unfold DM AAS OB Qx
 rw [Bool.and_eq_false_iff] at hp
 rcases hp with hp|hp <;> rw [hp] <;> simp
theorem LU (s:Scn) (h:Int):∀ z ∈ blk s h,AJ z=true:=by
 cases hv:(AL s && inR h 0 3) with
 | true=>exact OC hv
 | false=>
  intro z hz
  rw [AAH (by rw [Pv hv];rfl)] at hz
  simp at hz
def BV:Con:={ ι:=Scn×Int×PtD,pre:=λ i=>Bu i.1/\i.2.2.has,args:=λ i=>[DA.agg [cI i.1.low.1,cI i.1.low.2,cI i.1.high.1,cI i.1.high.2,DC.sl 24 [.int,.int] (AA i.1.robot),DC.sl 25 [.sl 24 [.int,.int]] (AK i.1.obst),DC.sl 24 [.int,.int] (AA i.1.tables)],.one (cI i.2.1),DA.agg [cB i.2.2.x.neg,cS i.2.2.x.num,cS i.2.2.x.den,cB i.2.2.y.neg,cS i.2.2.y.num,cS i.2.2.y.den]],res:=λ i=>⟨false,[none],[rcB (D1 i.1 i.2.1 i.2.2)]⟩ }
theorem AAX:BV.Ok Tryz.prog 12:=by
 refine fok (X:=⟨tt,[(43,Aw),(44,Cx),(45,Cg)],[],17,[]⟩) mixed AI (CTok.cons G1 (CTok.cons OE (CTok.cons Pz (CTok.nil _)))) Tryz.func12 (λ _=>[]) ?_
 rintro ⟨s,h,p⟩ hpre
 have hpre:Bu s/\p.has:=hpre
 refine AH (q:=∃ i1:(List (List Dat)),[DA.one (DC.sl 42 z41 ([[Dat.bool p.x.neg,Dat.sl p.x.num,Dat.sl p.x.den,Dat.bool p.y.neg,Dat.sl p.y.num,Dat.sl p.y.den]]:List (List Dat)))]=Aw.args i1/\Aw.pre i1/\(ifB ((!(i1.any (λ r=>!(okP (DK r)))))) (∃ i2:Scn×Int,let Z1:=AN i2.1 i2.2;[DA.agg [cI s.low.1,cI s.low.2,cI s.high.1,cI s.high.2,DC.sl 24 [.int,.int] (AA s.robot),DC.sl 25 [.sl 24 [.int,.int]] (AK s.obst),DC.sl 24 [.int,.int] (AA s.tables)],DA.one (cI h)]=Cx.args i2/\Cx.pre i2/\(∃ i3:Bool×(V2×V2)×(List (List V2))×Pq,[DA.agg [cB (AZ i2.1 i2.2),cI (Z1.1.1),cI (Z1.1.2),cI (Z1.2.1),cI (Z1.2.2),DC.sl 25 [.sl 24 [.int,.int]] (AK (blk i2.1 i2.2))],DA.agg [cB p.x.neg,cS p.x.num,cS p.x.den,cB p.y.neg,cS p.y.num,cS p.y.den]]=Cg.args i3/\Cg.pre i3/\((vB (i3.1 && BF i3.2.1 i3.2.2.1 i3.2.2.2)=vB (D1 s h p))))) ((vB false=vB (D1 s h p))))) (by kernel_rfl) ?_
 conv=>zeta
 delta ifB vB
 obtain ⟨hz,hh⟩:=hpre
 have hbl:=AAW s h hz
 have hlb:=Px s h
 refine ⟨([[Dat.bool p.x.neg,Dat.sl p.x.num,Dat.sl p.x.den,Dat.bool p.y.neg,Dat.sl p.y.num,Dat.sl p.y.den]]:List (List Dat)),by
  rfl,by
  try dsimp only [Aw]
  exact ⟨by show 1<=_;decide,ABF hh⟩,?_⟩
 refine And.symm ⟨λ c4=>?_,λ c4=>?_⟩
 ·try simp only [nrm] at c4
  have q:okP p=false:=by have h:=(ADW p).symm.trans c4;simpa using h
  have hE:=Xk (s:=s) (h:=h) q
  rw [hE]
 try simp only [nrm] at c4
 have q:okP p=true:=by have h:=(ADW p).symm.trans c4;simpa using h
 obtain ⟨e1,e2,e3,e4,e5,e6,e7,e8⟩:=Ub hh q
 have hE:=ID (s:=s) (h:=h) q
 refine ⟨(s,h),by
  rfl,by
  exact hz,?_⟩
 refine ⟨(AZ s h,AN s h,blk s h,pqR p),by
  rw [e1,e2,e3,e4,e5,e6];rfl,by
  exact ⟨LU s h,hbl,hlb⟩,?_⟩
 rw [hE]
def AX:Con:={ ι:=Scn×Int×PtD×PtD,pre:=λ i=>Bu i.1/\i.2.2.1.has/\i.2.2.2.has,args:=λ i=>[DA.agg [cI i.1.low.1,cI i.1.low.2,cI i.1.high.1,cI i.1.high.2,DC.sl 24 [.int,.int] (AA i.1.robot),DC.sl 25 [.sl 24 [.int,.int]] (AK i.1.obst),DC.sl 24 [.int,.int] (AA i.1.tables)],.one (cI i.2.1),DA.agg [cB i.2.2.1.x.neg,cS i.2.2.1.x.num,cS i.2.2.1.x.den,cB i.2.2.1.y.neg,cS i.2.2.1.y.num,cS i.2.2.1.y.den],DA.agg [cB i.2.2.2.x.neg,cS i.2.2.2.x.num,cS i.2.2.2.x.den,cB i.2.2.2.y.neg,cS i.2.2.2.y.num,cS i.2.2.2.y.den]],res:=λ i=>⟨false,[none],[rcB (DM i.1 i.2.1 i.2.2.1 i.2.2.2)]⟩ }
theorem Q0:AX.Ok Tryz.prog 17:=by
 refine fok (X:=⟨tt,[(43,Aw),(44,Cx),(51,HE)],[],21,[]⟩) mixed AI (CTok.cons G1 (CTok.cons OE (CTok.cons Xj (CTok.nil _)))) Tryz.func17 (λ _=>[]) ?_
 rintro ⟨s,h,p,q⟩ hpre
 have hpre:Bu s/\p.has/\q.has:=hpre
 refine AH (q:=∃ i1:(List (List Dat)),[DA.one (DC.sl 42 z41 ([[Dat.bool p.x.neg,Dat.sl p.x.num,Dat.sl p.x.den,Dat.bool p.y.neg,Dat.sl p.y.num,Dat.sl p.y.den],[Dat.bool q.x.neg,Dat.sl q.x.num,Dat.sl q.x.den,Dat.bool q.y.neg,Dat.sl q.y.num,Dat.sl q.y.den]]:List (List Dat)))]=Aw.args i1/\Aw.pre i1/\(ifB ((!(i1.any (λ r=>!(okP (DK r)))))) (∃ i2:Scn×Int,let Z1:=AN i2.1 i2.2;[DA.agg [cI s.low.1,cI s.low.2,cI s.high.1,cI s.high.2,DC.sl 24 [.int,.int] (AA s.robot),DC.sl 25 [.sl 24 [.int,.int]] (AK s.obst),DC.sl 24 [.int,.int] (AA s.tables)],DA.one (cI h)]=Cx.args i2/\Cx.pre i2/\(∃ i3:Bool×(V2×V2)×(List (List V2))×Pq×Pq,[DA.agg [cB (AZ i2.1 i2.2),cI (Z1.1.1),cI (Z1.1.2),cI (Z1.2.1),cI (Z1.2.2),DC.sl 25 [.sl 24 [.int,.int]] (AK (blk i2.1 i2.2))],DA.agg [cB p.x.neg,cS p.x.num,cS p.x.den,cB p.y.neg,cS p.y.num,cS p.y.den],DA.agg [cB q.x.neg,cS q.x.num,cS q.x.den,cB q.y.neg,cS q.y.num,cS q.y.den]]=HE.args i3/\HE.pre i3/\((vB (i3.1 && (BF i3.2.1 i3.2.2.1 i3.2.2.2.1 && (BF i3.2.1 i3.2.2.1 i3.2.2.2.2 && !(smF i3.2.2.1 i3.2.2.2.1 i3.2.2.2.2))))=vB (DM s h p q))))) ((vB false=vB (DM s h p q))))) (by kernel_rfl) ?_
 conv=>zeta
 delta ifB vB
 obtain ⟨hz,hh⟩:=hpre
 have hbl:=AAW s h hz
 have hlb:=Px s h
 refine ⟨([[Dat.bool p.x.neg,Dat.sl p.x.num,Dat.sl p.x.den,Dat.bool p.y.neg,Dat.sl p.y.num,Dat.sl p.y.den],[Dat.bool q.x.neg,Dat.sl q.x.num,Dat.sl q.x.den,Dat.bool q.y.neg,Dat.sl q.y.num,Dat.sl q.y.den]]:List (List Dat)),by
  rfl,by
  try dsimp only [Aw]
  exact ⟨by show 2<=_;decide,ABG hh.1 hh.2⟩,?_⟩
 refine And.symm ⟨λ c4=>?_,λ c4=>?_⟩
 ·try dsimp only at c4
  try simp only [nrm] at c4
  have q0:(okP p && okP q)=false:=by
   have hc:=(ADX p q).symm.trans c4
   cases h1:okP p <;> cases h2:okP q <;> simp_all
  have hE:=Xl (s:=s) (h:=h) q0
  rw [hE]
 try dsimp only at c4
 try simp only [nrm] at c4
 have q0:okP p=true/\okP q=true:=by have h:=(ADX p q).symm.trans c4;simpa using h
 obtain ⟨e1,e2,e3,e4,e5,e6,e7,e8⟩:=Ub hh.1 q0.1
 obtain ⟨f1,f2,f3,f4,f5,f6,f7,f8⟩:=Ub hh.2 q0.2
 have hE:=GW (s:=s) (h:=h) q0.1 q0.2
 refine ⟨(s,h),by
  rfl,by
  exact hz,?_⟩
 refine ⟨(AZ s h,AN s h,blk s h,pqR p,pqR q),by
  rw [e1,e2,e3,e4,e5,e6,f1,f2,f3,f4,f5,f6];rfl,by
  exact ⟨LU s h,hbl,hlb⟩,?_⟩
 rw [hE]
end Go.Proofs.YtkffpiaagjcmpaaGreat
namespace Go.Proofs.YtkffpiaagjcmpaaGreat
set_option maxRecDepth 100000
set_option linter.unusedVariables false
set_option linter.unusedSimpArgs false
open Go.RowKit
def rOf (n d:Int):Fr:=if d=0 then Fr.none else Fr.mk' (zOf (decide (n<0) != decide (d<0)) n.natAbs) d.natAbs
theorem Q1 {n d:Int} (h:d=0):rOf n d=Fr.none:=by unfold rOf;rw [if_pos h]
theorem KQ {n d:Int} (h:d≠0):rOf n d=Fr.mk' (zOf (decide (n<0) != decide (d<0)) n.natAbs) d.natAbs:=by unfold rOf;rw [if_neg h]
theorem Me {x:Int} (h:nl x.natAbs<=60):BX (decide (x<0)) (L x.natAbs)=true:=by rw [SB,decide_eq_true h]
theorem ABq (x y:Int):GL (zOf (decide (x<0) != decide (y<0)) x.natAbs) y.natAbs=rOf x y:=by
 by_cases h:y=0
 ·rw [Q1 h,Y7 (by omega)]
 ·rw [KQ h,Ju (by omega)]
theorem Q3 {d:Int} (h:d≠0):(d:Rat)≠0:=λ e=>h (by have:=congrArg Rat.num e;simpa using this)
theorem ACw (n d:Int) (h:d≠0):mkRat (zOf (decide (n<0) != decide (d<0)) n.natAbs) d.natAbs=(n:Rat)/(d:Rat):=by
 rw [div_mk (Q3 h)]
 have e1:((n:Int):Rat).num=n:=by simp
 have e2:((n:Int):Rat).den=1:=by simp
 have e3:((d:Int):Rat).num=d:=by simp
 have e4:((d:Int):Rat).den=1:=by simp
 rw [e1,e2,e3,e4]
 congr 1
 ·unfold zOf
  by_cases h1:n<0 <;> by_cases h2:d<0 <;> simp [h1,h2] <;> omega
 ·omega
theorem ACx {z:Int} {d:Nat} (hd:d≠0) (h1:nl z.natAbs<=24) (h2:nl d<=24):OS (mkRat z d)=true:=by
 rw [Dq,Dr hd,(D7 hd).2]
 exact ⟨Nat.le_trans (C2 (Nat.div_le_self _ _)) h1,Nat.le_trans (C2 (Nat.div_le_self _ _)) h2⟩
theorem ACD {n d:Int} (h:d≠0) (h1:nl n.natAbs<=24) (h2:nl d.natAbs<=24):(rOf n d).v=some ((n:Rat)/(d:Rat)):=by
 rw [KQ h]
 unfold Fr.mk'
 rw [← ACw n d h]
 exact Cj (ACx (by omega) (by rw [C5];exact h1) h2)
def ER:Con:={ ι:=Int×Int,pre:=λ i=>nl i.1.natAbs<=24/\nl i.2.natAbs<=24,args:=λ i=>[dB i.1,dB i.2],res:=λ i=>⟨false,[some 3],[rcB (decide ((rOf i.1 i.2).z<0)),.own 3 [.int] (L (rOf i.1 i.2).z.natAbs),.own 3 [.int] (L (rOf i.1 i.2).d)]⟩ }
theorem Q4:ER.Ok Tryz.prog 136:=by
 refine fok (X:=⟨tt,[(164,Ba),(169,BZ)],[],24,[]⟩) mixed AI (CTok.cons Jv (CTok.cons PV (CTok.nil _))) Tryz.func136 (λ _=>[]) ?_
 rintro ⟨x,y⟩ hpre
 have hpre:nl x.natAbs<=24/\nl y.natAbs<=24:=hpre
 refine AH (q:=∃ i1:Bool×(List (List Dat)),[dB x]=Ba.args i1/\Ba.pre i1/\(ifB ((!(!(BX i1.1 i1.2)))) (∃ i2:Bool×(List (List Dat)),[dB y]=Ba.args i2/\Ba.pre i2/\(ifB ((!(BX i2.1 i2.2))) ((eqN (rOf x y))) (∃ i3:Bool×Nat×Nat×Int,[DA.one (cB ((decide (x<0)) != (decide (y<0)))),DA.one (cS (L x.natAbs)),DA.one (cS (L y.natAbs))]=BZ.args i3/\BZ.pre i3/\((eqC (GL i3.2.2.2 i3.2.2.1) (rOf x y)))))) ((eqN (rOf x y))))) (by kernel_rfl) ?_
 delta ifB
 have e1:=Me (x:=x) (Nat.le_trans hpre.1 (by decide))
 have e2:=Me (x:=y) (Nat.le_trans hpre.2 (by decide))
 have ly:=AV y.natAbs
 have lx:=AV x.natAbs
 refine ⟨(decide (x<0),(L x.natAbs)),by
  rfl,by
  show (L x.natAbs).length<=9223372036854775807
  first|trivial|(rw [AV];omega)|exact ⟨by omega,by omega,rfl⟩,?_⟩
 refine And.symm ⟨λ c4=>?_,λ c4=>?_⟩
 ·try simp only [nrm] at c4
  rw [e1] at c4;cases c4 -- done
 try simp only [nrm] at c4
 refine ⟨(decide (y<0),(L y.natAbs)),by
  rfl,by
  show (L y.natAbs).length<=9223372036854775807
  first|trivial|(rw [AV];omega)|exact ⟨by omega,by omega,rfl⟩,?_⟩
 refine ⟨λ c8=>?_,λ c8=>?_⟩
 ·try simp only [nrm] at c8
  rw [e2] at c8;cases c8 -- done
 try simp only [nrm] at c8
 refine ⟨(((decide (x<0)) != (decide (y<0))),x.natAbs,y.natAbs,(zOf ((decide (x<0)) != (decide (y<0))) x.natAbs)),by
  rfl,by
  show nl x.natAbs<=1000/\nl y.natAbs<=1000/\zOf ((decide (x<0)) != (decide (y<0))) x.natAbs=(zOf ((decide (x<0)) != (decide (y<0))) x.natAbs)
  first|trivial|(rw [AV];omega)|exact ⟨by omega,by omega,rfl⟩,?_⟩
 refine CG ?_
 show GL (zOf ((decide (x<0)) != (decide (y<0))) x.natAbs) y.natAbs=rOf x y
 first|exact ABq _ _|contradiction
def HF:Con:={ ι:=Int×Int,pre:=λ i=>(-9223372036854775808<=i.1/\i.1<=9223372036854775807)/\(-9223372036854775808<=i.2/\i.2<=9223372036854775807),args:=λ i=>[.one (cI i.1),.one (cI i.2)],res:=λ i=>⟨false,[some 3],[rcB (decide ((rOf i.1 i.2).z<0)),.own 3 [.int] (L (rOf i.1 i.2).z.natAbs),.own 3 [.int] (L (rOf i.1 i.2).d)]⟩ }
theorem Xm:HF.Ok Tryz.prog 94:=by
 refine fok (X:=⟨tt,[(137,Bb),(136,ER)],[],10,[]⟩) mixed AI (CTok.cons Jw (CTok.cons Q4 (CTok.nil _))) Tryz.func94 (λ _=>[]) ?_
 rintro ⟨n,d⟩ hpre
 have hpre:(-9223372036854775808<=n/\n<=9223372036854775807)/\(-9223372036854775808<=d/\d<=9223372036854775807):=hpre
 refine AH (q:=∃ i1:Int,[DA.one (cI n)]=Bb.args i1/\Bb.pre i1/\(∃ i2:Int,[DA.one (cI d)]=Bb.args i2/\Bb.pre i2/\(∃ i3:Int×Int,[dB i1,dB i2]=ER.args i3/\ER.pre i3/\((eqC (rOf i3.1 i3.2) (rOf n d)))))) (by kernel_rfl) ?_
 refine ⟨n,by
  rfl,by
  show -9223372036854775808<=n/\n<=9223372036854775807
  first|exact hpre.1|exact hpre.2|exact ⟨Nat.le_trans (CQ hpre.1) (by decide),Nat.le_trans (CQ hpre.2) (by decide)⟩,?_⟩
 refine ⟨d,by
  rfl,by
  show -9223372036854775808<=d/\d<=9223372036854775807
  first|exact hpre.1|exact hpre.2|exact ⟨Nat.le_trans (CQ hpre.1) (by decide),Nat.le_trans (CQ hpre.2) (by decide)⟩,?_⟩
 refine ⟨(n,d),by
  rfl,by
  show nl n.natAbs<=24/\nl d.natAbs<=24
  first|exact hpre.1|exact hpre.2|exact ⟨Nat.le_trans (CQ hpre.1) (by decide),Nat.le_trans (CQ hpre.2) (by decide)⟩,?_⟩
 exact CG rfl
end Go.Proofs.YtkffpiaagjcmpaaGreat
namespace Go.Proofs.YtkffpiaagjcmpaaGreat
set_option maxRecDepth 100000
set_option linter.unusedVariables false
set_option linter.unusedSimpArgs false
open Go.RowKit
def HL:Con:={ ι:=Int×Int,pre:=λ i=>nl i.1.natAbs<=60/\nl i.2.natAbs<=60,args:=λ i=>[dB i.1,dB i.2],mono:=true,res:=λ i=>⟨false,[none],[rcB true]⟩ }
theorem Xn:HL.Ok Tryz.prog 112:=by
 refine fok (X:=⟨tt,[(120,Bl)],[],11,[]⟩) mixed AI (CTok.cons Lw (CTok.nil _)) Tryz.func112 (λ _=>[]) ?_
 rintro ⟨x,y⟩ hpre
 have hpre:nl x.natAbs<=60/\nl y.natAbs<=60:=hpre
 refine AH (q:=∃ i1:Bool×(List (List Dat)),[dB x]=Bl.args i1/\Bl.pre i1/\(ifB ((BX i1.1 i1.2)) (∃ i2:Bool×(List (List Dat)),[dB y]=Bl.args i2/\Bl.pre i2/\((vB (BX i2.1 i2.2)=vB true))) ((vB false=vB true)))) (by kernel_rfl) ?_
 delta ifB vB
 have e1:=Me (x:=x) hpre.1
 have e2:=Me (x:=y) hpre.2
 refine ⟨(decide (x<0),(L x.natAbs)),by
  rfl,by
  show (L x.natAbs).length<=9223372036854775807
  rw [AV];omega,?_⟩
 refine And.symm ⟨λ c4=>?_,λ c4=>?_⟩
 ·try simp only [nrm] at c4
  first|rfl|(rw [e2];done)|(rw [e1] at c4;cases c4)
 try simp only [nrm] at c4
 refine ⟨(decide (y<0),(L y.natAbs)),by
  rfl,by
  show (L y.natAbs).length<=9223372036854775807
  rw [AV];omega,?_⟩
 show Value.bool (BX (decide (y<0)) (L y.natAbs))=Value.bool true
 first|rfl|(rw [e2];done)|(rw [e1] at c4;cases c4)
def Ew:Con:={ ι:=Int×Int,pre:=λ i=>nl i.1.natAbs<=24/\nl i.2.natAbs<=24,args:=λ i=>[dB i.1,dB i.2],mono:=true,res:=λ i=>⟨false,[some 3],[rcB (decide ((rOf i.1 i.2).z<0)),.own 3 [.int] (L (rOf i.1 i.2).z.natAbs),.own 3 [.int] (L (rOf i.1 i.2).d)]⟩ }
theorem TL:Ew.Ok Tryz.prog 61:=by
 refine fok (X:=⟨tt,[(112,HL),(113,As),(110,Bp)],[],27,[]⟩) mixed AI (CTok.cons Xn (CTok.cons Gl (CTok.cons JG (CTok.nil _)))) Tryz.func61 (λ _=>[]) ?_
 rintro ⟨x,y⟩ hpre
 have hpre:nl x.natAbs<=24/\nl y.natAbs<=24:=hpre
 refine AH (q:=∃ i1:Int×Int,[dB x,dB y]=HL.args i1/\HL.pre i1/\(ifB ((!(!true))) (ifB (((nI ((L y.natAbs).length)) == (0:Int))) ((eqN (rOf x y))) (∃ i2:Bool×Nat,[DA.one (cB ((decide (x<0)) != (decide (y<0)))),DA.one (cS (L x.natAbs))]=As.args i2/\As.pre i2/\(∃ i3:Int×Nat,[dB (zOf i2.1 i2.2),DA.one (cS (L y.natAbs))]=Bp.args i3/\Bp.pre i3/\((eqC (Fr.mk' i3.1 i3.2) (rOf x y)))))) ((eqN (rOf x y))))) (by kernel_rfl) ?_
 delta ifB nI
 have ly:=AV y.natAbs
 have lx:=AV x.natAbs
 refine ⟨(x,y),by
  rfl,by
  show nl x.natAbs<=60/\nl y.natAbs<=60
  first|trivial|exact ⟨by omega,by omega⟩|exact ⟨by omega,by rw [C5];omega,by omega⟩,?_⟩
 refine And.symm ⟨λ c4=>?_,λ c4=>?_⟩
 ·try simp only [nrm] at c4
  refine Bd ?_
  first|contradiction|(rw [Q1 hy];done)|(rw [KQ hy];done)
 try simp only [nrm] at c4
 refine ⟨λ c5=>?_,λ c5=>?_⟩
 ·try simp only [nrm] at c5
  have hy:y=0:=by have:=Cq.1 (show nl y.natAbs=0 by omega);omega
  refine Bd ?_
  first|contradiction|(rw [Q1 hy];done)|(rw [KQ hy];done)
 try simp only [nrm] at c5
 have hy:y≠0:=by
  rintro rfl
  exact c5 (by rw [ly];simp [Ca])
 refine ⟨(((decide (x<0)) != (decide (y<0))),x.natAbs),by
  rfl,by
  first|trivial|exact ⟨by omega,by omega⟩|exact ⟨by omega,by rw [C5];omega,by omega⟩,?_⟩
 refine ⟨((zOf ((decide (x<0)) != (decide (y<0))) x.natAbs),y.natAbs),by
  rfl,by
  show y.natAbs≠0/\nl (zOf ((decide (x<0)) != (decide (y<0))) x.natAbs).natAbs<=1000/\nl y.natAbs<=1000
  first|trivial|exact ⟨by omega,by omega⟩|exact ⟨by omega,by rw [C5];omega,by omega⟩,?_⟩
 refine CG ?_
 show Fr.mk' (zOf ((decide (x<0)) != (decide (y<0))) x.natAbs) y.natAbs=rOf x y
 first|contradiction|(rw [Q1 hy];done)|(rw [KQ hy];done)
def It:Con:={ ι:=Int×Int,pre:=λ i=>(-9223372036854775808<=i.1/\i.1<=9223372036854775807)/\(-9223372036854775808<=i.2/\i.2<=9223372036854775807),args:=λ i=>[.one (cI i.1),.one (cI i.2)],mono:=true,res:=λ i=>⟨false,[some 3],[rcB (decide ((rOf i.1 i.2).z<0)),.own 3 [.int] (L (rOf i.1 i.2).z.natAbs),.own 3 [.int] (L (rOf i.1 i.2).d)]⟩ }
theorem AAY:It.Ok Tryz.prog 23:=by
 refine fok (X:=⟨tt,[(62,C6),(61,Ew)],[],10,[]⟩) mixed AI (CTok.cons SD (CTok.cons TL (CTok.nil _))) Tryz.func23 (λ _=>[]) ?_
 rintro ⟨n,d⟩ hpre
 have hpre:(-9223372036854775808<=n/\n<=9223372036854775807)/\(-9223372036854775808<=d/\d<=9223372036854775807):=hpre
 refine AH (q:=∃ i1:Int,[DA.one (cI n)]=C6.args i1/\C6.pre i1/\(∃ i2:Int,[DA.one (cI d)]=C6.args i2/\C6.pre i2/\(∃ i3:Int×Int,[dB i1,dB i2]=Ew.args i3/\Ew.pre i3/\((eqC (rOf i3.1 i3.2) (rOf n d)))))) (by kernel_rfl) ?_
 refine ⟨n,by
  rfl,by
  show -9223372036854775808<=n/\n<=9223372036854775807
  first|exact hpre.1|exact hpre.2|exact ⟨Nat.le_trans (CQ hpre.1) (by decide),Nat.le_trans (CQ hpre.2) (by decide)⟩,?_⟩
 refine ⟨d,by
  rfl,by
  show -9223372036854775808<=d/\d<=9223372036854775807
  first|exact hpre.1|exact hpre.2|exact ⟨Nat.le_trans (CQ hpre.1) (by decide),Nat.le_trans (CQ hpre.2) (by decide)⟩,?_⟩
 refine ⟨(n,d),by
  rfl,by
  show nl n.natAbs<=24/\nl d.natAbs<=24
  first|exact hpre.1|exact hpre.2|exact ⟨Nat.le_trans (CQ hpre.1) (by decide),Nat.le_trans (CQ hpre.2) (by decide)⟩,?_⟩
 exact CG rfl
theorem WH:∀ (l:List Pq),(∀ p ∈ l,p.good=true)->((l.map λ p=>ptD (ptQ p)).any λ r=>!(okP (DK r)))=false
 | [],_=>rfl
 | p::l,h=>by
  rw [List.map_cons,List.any_cons,WH l λ q hq=>h q (List.mem_cons_of_mem _ hq),show okP (DK (ptD (ptQ p)))=p.good from ZE p,h p (List.mem_cons_self ..)];rfl
theorem TM (l:List Pq):∀ k,k<(l.map λ p=>ptD (ptQ p)).length->(DK ((l.map λ p=>ptD (ptQ p)).getD k [])).has:=λ k hk=>by
 rw [List.length_map] at hk
 have:(l.map λ p=>ptD (ptQ p)).getD k []=ptD (ptQ l[k]):=by simp [List.getD,hk]
 rw [this]
 exact AU _
def Cy (p q:Pq):Pq:=orQ ⟨Fr.mul (Fr.add p.x q.x) (rOf 1 2),Fr.mul (Fr.add p.y q.y) (rOf 1 2)⟩
def Dh:Con:={ ι:=Fr,pre:=λ i=>True,args:=λ i=>[dF i],mono:=true,res:=λ i=>⟨false,[some 3],[rcB (decide ((Fr.mul i (rOf 1 2)).z<0)),.own 3 [.int] (L (Fr.mul i (rOf 1 2)).z.natAbs),.own 3 [.int] (L (Fr.mul i (rOf 1 2)).d)]⟩ }
theorem U0:Dh.Ok Tryz.prog 95:=by
 refine fok (X:=⟨tt,[(23,It),(60,Cd)],[],6,[]⟩) mixed AI (CTok.cons AAY (CTok.cons PR (CTok.nil _))) Tryz.func95 (λ _=>[]) ?_
 intro (r:Fr) hpre
 have hpre:True:=hpre
 refine AH (q:=∃ i1:Int×Int,[DA.one (cI (1:Int)),DA.one (cI (2:Int))]=It.args i1/\It.pre i1/\(∃ i2:Fr×Fr,[dF r,dF (rOf i1.1 i1.2)]=Cd.args i2/\Cd.pre i2/\((eqC (Fr.mul i2.1 i2.2) (Fr.mul r (rOf 1 2)))))) (by kernel_rfl) ?_
 refine ⟨((1:Int),(2:Int)),by
  rfl,by
  show (-9223372036854775808<=(1:Int)/\(1:Int)<=9223372036854775807)/\(-9223372036854775808<=(2:Int)/\(2:Int)<=9223372036854775807)
  first|trivial|omega|decide,?_⟩
 refine ⟨(r,(rOf (1:Int) (2:Int))),by
  rfl,by
  first|trivial|omega|decide,?_⟩
 refine CG ?_
 show Fr.mul r (rOf (1:Int) (2:Int))=Fr.mul r (rOf 1 2)
 rfl
def KR:Con:={ ι:=Pq×Pq,pre:=λ i=>True,args:=λ i=>[dP i.1,dP i.2],res:=λ i=>⟨false,[some 6],[rcB (decide ((Cy i.1 i.2).x.z<0)),.own 3 [.int] (L (Cy i.1 i.2).x.z.natAbs),.own 3 [.int] (L (Cy i.1 i.2).x.d),rcB (decide ((Cy i.1 i.2).y.z<0)),.own 3 [.int] (L (Cy i.1 i.2).y.z.natAbs),.own 3 [.int] (L (Cy i.1 i.2).y.d)]⟩ }
theorem ABr:KR.Ok Tryz.prog 50:=by
 refine fok (X:=⟨tt,[(63,Cc),(95,Dh),(90,Ax)],[],19,[]⟩) mixed AI (CTok.cons PQ (CTok.cons U0 (CTok.cons Um (CTok.nil _)))) Tryz.func50 (λ _=>[]) ?_
 rintro ⟨p,q⟩ hpre
 have hpre:True:=hpre
 refine AH (q:=∃ i1:Fr×Fr,[dF p.x,dF q.x]=Cc.args i1/\Cc.pre i1/\(∃ i2:Fr,let Z1:=Fr.mul i2 (rOf 1 2);[dF (Fr.add i1.1 i1.2)]=Dh.args i2/\Dh.pre i2/\(∃ i3:Fr×Fr,[dF p.y,dF q.y]=Cc.args i3/\Cc.pre i3/\(∃ i4:Fr,let Z2:=Fr.mul i4 (rOf 1 2);[dF (Fr.add i3.1 i3.2)]=Dh.args i4/\Dh.pre i4/\(∃ i5:Pq,[DA.agg [cB (decide (Z1.z<0)),cS (L Z1.z.natAbs),cS (L Z1.d),cB (decide (Z2.z<0)),cS (L Z2.z.natAbs),cS (L Z2.d)]]=Ax.args i5/\Ax.pre i5/\((eqD ((orQ i5).x) ((Cy p q).x) ((eqC ((orQ i5).y) ((Cy p q).y)))))))))) (by kernel_rfl) ?_
 conv=>zeta
 refine ⟨(p.x,q.x),by
  rfl,by
  first|trivial|(first|omega|assumption|exact hpre.1|exact hpre.2|(simp;done)),?_⟩
 refine ⟨(Fr.add p.x q.x),by
  rfl,by
  first|trivial|(first|omega|assumption|exact hpre.1|exact hpre.2|(simp;done)),?_⟩
 refine ⟨(p.y,q.y),by
  rfl,by
  first|trivial|(first|omega|assumption|exact hpre.1|exact hpre.2|(simp;done)),?_⟩
 refine ⟨(Fr.add p.y q.y),by
  rfl,by
  first|trivial|(first|omega|assumption|exact hpre.1|exact hpre.2|(simp;done)),?_⟩
 refine ⟨(⟨Fr.mul (Fr.add p.x q.x) (rOf 1 2),Fr.mul (Fr.add p.y q.y) (rOf 1 2)⟩:Pq),by
  rfl,by
  first|trivial|(first|omega|assumption|exact hpre.1|exact hpre.2|(simp;done)),?_⟩
 refine Gk ?_ (CG ?_)
 ·rfl
 rfl
def KS:Con:={ ι:=Pq×Pq,pre:=λ i=>i.1.good=true/\i.2.good=true,args:=λ i=>[dP i.1,dP i.2],res:=λ i=>⟨false,[some 6],[rcB (decide ((Cy i.1 i.2).x.z<0)),.own 3 [.int] (L (Cy i.1 i.2).x.z.natAbs),.own 3 [.int] (L (Cy i.1 i.2).x.d),rcB (decide ((Cy i.1 i.2).y.z<0)),.own 3 [.int] (L (Cy i.1 i.2).y.z.natAbs),.own 3 [.int] (L (Cy i.1 i.2).y.d)]⟩ }
theorem ABs:KS.Ok Tryz.prog 16:=by
 refine fok (X:=⟨tt,[(43,Aw),(50,KR)],[],14,[]⟩) mixed AI (CTok.cons G1 (CTok.cons ABr (CTok.nil _))) Tryz.func16 (λ _=>[]) ?_
 rintro ⟨p,q⟩ hpre
 have hpre:p.good=true/\q.good=true:=hpre
 refine AH (q:=∃ i1:(List (List Dat)),[DA.one (DC.sl 42 z41 ([[Dat.bool (decide (p.x.z<0)),Dat.sl (L p.x.z.natAbs),Dat.sl (L p.x.d),Dat.bool (decide (p.y.z<0)),Dat.sl (L p.y.z.natAbs),Dat.sl (L p.y.d)],[Dat.bool (decide (q.x.z<0)),Dat.sl (L q.x.z.natAbs),Dat.sl (L q.x.d),Dat.bool (decide (q.y.z<0)),Dat.sl (L q.y.z.natAbs),Dat.sl (L q.y.d)]]:List (List Dat)))]=Aw.args i1/\Aw.pre i1/\(ifB ((!(!(i1.any (λ r=>!(okP (DK r))))))) ((eqM ((Cy p q).x) ((eqN ((Cy p q).y))))) (∃ i2:Pq×Pq,[dP p,dP q]=KR.args i2/\KR.pre i2/\((eqD ((Cy i2.1 i2.2).x) ((Cy p q).x) ((eqC ((Cy i2.1 i2.2).y) ((Cy p q).y)))))))) (by kernel_rfl) ?_
 delta ifB
 have hR:=WH [p,q] (λ x hx=>by simp only [List.mem_cons,List.not_mem_nil,or_false] at hx;rcases hx with rfl|rfl <;> simp_all)
 refine ⟨(([p,q]:List Pq).map λ p=>ptD (ptQ p)),by
  rfl,by
  try dsimp only [Aw]
  first|trivial|exact ⟨by show 2<=_;decide,TM [p,q]⟩,?_⟩
 refine ⟨λ c4=>?_,λ c4=>?_⟩
 ·try simp only [nrm] at c4
  refine ACe ?_ (Bd ?_)
  ·first|rfl|(rw [hR] at c4;cases c4)
  first|rfl|(rw [hR] at c4;cases c4)
 try simp only [nrm] at c4
 refine ⟨(p,q),by
  rfl,by
  first|trivial|exact ⟨by show 2<=_;decide,TM [p,q]⟩,?_⟩
 exact Gk rfl (CG rfl)
end Go.Proofs.YtkffpiaagjcmpaaGreat
