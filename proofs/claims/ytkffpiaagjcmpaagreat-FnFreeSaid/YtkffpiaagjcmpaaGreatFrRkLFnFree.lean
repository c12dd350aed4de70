import Derived.Test.YtkffpiaagjcmpaaGreatFrLimN
import Derived.Test.YtkffpiaagjcmpaaGreatFrHulQ
namespace Go.Proofs.YtkffpiaagjcmpaaGreat
set_option maxRecDepth 100000
set_option linter.unusedVariables false
set_option linter.unusedSimpArgs false
open Go.RowKit
theorem YX {l:List V2} {k:Nat} (hk:k<l.length) (z:V2):(l.take (k+1)).foldl Ek z=Ek ((l.take k).foldl Ek z) (l.getD k (0,0)):=Ft Ek z l (0,0) k hk
theorem V7 {l:List V2} {k:Nat} (hk:k<l.length) (z:V2):(l.take (k+1)).foldl El z=El ((l.take k).foldl El z) (l.getD k (0,0)):=Ft El z l (0,0) k hk
def loT (l:List V2) (k:Nat):V2:=(l.take k).foldl Ek (l.getD 0 (0,0))
def hiT (l:List V2) (k:Nat):V2:=(l.take k).foldl El (l.getD 0 (0,0))
theorem Uf {l:List V2} {k:Nat} (h:l.length<=k):loT l k=Bt l:=by unfold loT Bt;rw [List.take_of_length_le h]
theorem Ug {l:List V2} {k:Nat} (h:l.length<=k):hiT l k=BI l:=by unfold hiT BI;rw [List.take_of_length_le h]
theorem RX {l:List V2} {k:Nat} (hk:k<l.length):loT l (k+1)=Ek (loT l k) (l.getD k (0,0)):=YX hk _
theorem RY {l:List V2} {k:Nat} (hk:k<l.length):hiT l (k+1)=El (hiT l k) (l.getD k (0,0)):=V7 hk _
def Fl:Con:={ ι:=(List V2),pre:=λ i=>0<i.length/\i.length<=1048576,args:=λ i=>[.one (DC.sl 24 [.int,.int] (AA i))],res:=λ i=>⟨true,[some 2,some 2],[rcI ((Bt i).1),rcI ((Bt i).2),rcI ((BI i).1),rcI ((BI i).2)]⟩ }
theorem V8:Fl.Ok Tryz.prog 52:=by
 refine fok (X:=⟨tt,[],[],45,[]⟩) mixed AN (CTok.nil _) Tryz.func52 (λ (i:(List V2))=>[(3,.mk 6 (Nat) (λ x1=>{ tm:=[(2,tP 1 0),(3,tP 2 0),(4,tP 3 0),(5,tP 4 0),(14,tX 5),(15,tI (nI i.length)),(16,tI (nI x1))],en:=[(1,.box [kI (0:Int),kI (0:Int)]),(2,.box [kI (0:Int),kI (0:Int)]),(3,.box [kI ((loT i x1).1),kI ((loT i x1).2)]),(4,.box [kI ((hiT i x1).1),kI ((hiT i x1).2)]),(5,.view 24 [.int,.int] (AA i) [])] }) (λ x1=>x1<=i.length) (λ x1=>i.length-x1) (λ _=>[]))]) ?_
 intro (l:List V2) hpre
 have hpre:0<l.length/\l.length<=1048576:=hpre
 refine AM (q:=let Z4:=((AA l).length:Int);let Z3:=(AA l).getD 0 [];let Z1:=vI (0:Int);(0<=(0:Int)/\(0:Int)<Z4)/\((0<(AA l).length)/\((0<=(0:Int)/\(0:Int)<Z4)/\((0<(AA l).length)/\((∃ x1:Nat,(x1<=l.length)/\((vI (nI ((AA l).length))=vI (nI l.length))/\(vI (0:Int)=vI (nI x1))/\(rf Z1)/\(rf Z1)/\(rf Z1)/\(rf Z1)/\(vI ((Z3.getD 0 (.int 0))).n=vI ((loT l x1).1))/\(vI ((Z3.getD 1 (.int 0))).n=vI ((loT l x1).2))/\(vI ((Z3.getD 0 (.int 0))).n=vI ((hiT l x1).1))/\(vI ((Z3.getD 1 (.int 0))).n=vI ((hiT l x1).2))/\(rf (AA l))))/\∀ x1:Nat,let Z6:=hiT l x1;let Z5:=loT l x1;let Z2:=(AA l).getD x1 [];let Z8:=((Z2.getD 1 (.int 0))).n;let Z7:=((Z2.getD 0 (.int 0))).n;(x1<=l.length)->(ifB ((decide ((nI x1)<(nI l.length)))) ((0<=(nI x1)/\(nI x1)<Z4)/\((x1<(AA l).length)/\(∃ y2:Nat,(y2<=l.length)/\(l.length-y2<l.length-x1)/\((rf (vI (nI l.length)))/\(vI (wR ((nI x1)+(1:Int)))=vI (nI y2))/\(rf Z1)/\(rf Z1)/\(rf Z1)/\(rf Z1)/\(vI (min (Z5.1) Z7)=vI ((loT l y2).1))/\(vI (min (Z5.2) Z8)=vI ((loT l y2).2))/\(vI (max (Z6.1) Z7)=vI ((hiT l y2).1))/\(vI (max (Z6.2) Z8)=vI ((hiT l y2).2))/\(rf (AA l)))))) ((vI (Z5.1)=vI ((Bt l).1))/\(vI (Z5.2)=vI ((Bt l).2))/\(vI (Z6.1)=vI ((BI l).1))/\(vI (Z6.2)=vI ((BI l).2))))))))) (by kernel_rfl) ?_
 conv=>zeta
 delta ifB vI wR nI
 have hvl:=AC l
 refine ao (by omega) λ o1=>?_
 refine ao (by omega) λ o2=>?_
 refine ao (by omega) λ o3=>?_
 refine ao (by omega) λ o4=>?_
 refine ⟨⟨0,by
  omega,?_⟩,?_⟩
 ·refine ⟨?_,?_,rfl,rfl,rfl,rfl,?_,?_,?_,?_,rfl⟩
  ·rw [hvl];done
  ·rfl
  ·rw [Ai (by omega)];rfl
  ·rw [Aj (by omega)];rfl
  ·rw [Ai (by omega)];rfl
  rw [Aj (by omega)];rfl
 intro (k:Nat) hki5
 have hki5:k<=l.length:=hki5
 refine And.symm ⟨λ c18=>?_,λ c18=>?_⟩
 ·try simp only [nrm] at c18
  refine ⟨?_,?_,?_,?_⟩
  ·rw [Uf (by omega)];done
  ·rw [Uf (by omega)];done
  ·rw [Ug (by omega)];done
  rw [Ug (by omega)];done
 try simp only [nrm] at c18
 refine ao (by omega) λ o19=>?_
 refine ao (by omega) λ o20=>?_
 refine ⟨k+1,by
  omega,by
  omega,?_⟩
 refine ⟨rfl,?_,rfl,rfl,rfl,rfl,?_,?_,?_,?_,rfl⟩
 ·exact AR (AE (by omega) (by omega))
 ·rw [RX (by omega),Ai (by omega)];rfl
 ·rw [RX (by omega),Aj (by omega)];rfl
 ·rw [RY (by omega),Ai (by omega)];rfl
 rw [RY (by omega),Aj (by omega)];rfl
theorem I3 (l:List V2) (i:Nat):(F3 l).getD i (0,0)=(-(l.getD i (0,0)).1,-(l.getD i (0,0)).2):=by
 unfold F3
 simp only [List.getD,List.getElem?_map]
 cases l[i]? <;> simp
theorem YY (a b c:V2):AF (-a.1,-a.2) (-b.1,-b.2) (-c.1,-c.2)=AF a b c:=by simp only [AF];grind
theorem V9 (p:V2):AD (-p.1,-p.2)=AD p:=by
 unfold AD B0 inR
 simp only
 congr 1
 ·have:(-1000<=-p.1)=(p.1<=1000):=by apply propext;omega
  have h2:(-p.1<=1000)=(-1000<=p.1):=by apply propext;omega
  simp only [this,h2,Bool.and_comm]
 ·have:(-1000<=-p.2)=(p.2<=1000):=by apply propext;omega
  have h2:(-p.2<=1000)=(-1000<=p.2):=by apply propext;omega
  simp only [this,h2,Bool.and_comm]
theorem TM {l:List V2} (h:AG l=true):AG (F3 l)=true:=by
 obtain ⟨h1,h2,h3⟩:=A5.1 h
 refine A5.2 ⟨by rw [DQ];exact h1,?_,λ i j hi hj n1 n2=>?_⟩
 ·rw [List.all_eq_true] at h2 ⊢
  intro x hx
  obtain ⟨y,hy,rfl⟩:=List.mem_map.1 hx
  rw [V9];exact h2 y hy
 ·rw [DQ] at hi hj n2
  rw [DQ,I3,I3,I3,YY]
  exact h3 i j hi hj n1 n2
theorem YZ {s:Scn} (h:AH s=true):AG s.robot=true/\s.robot.length<=5/\s.robot.all (B0 20)=true:=by
 simp only [AH,shape,Bool.and_eq_true,decide_eq_true_eq] at h
 exact ⟨h.1.2.1.1,h.1.2.1.2,h.1.2.2⟩
theorem Uh {s:Scn} (h:AH s=true) {o:List V2} (ho:o ∈ s.obst):AG o=true/\o.length<=5/\o.all (B0 200)=true:=by
 simp only [AH,Bool.and_eq_true,decide_eq_true_eq] at h
 have:=List.all_eq_true.1 h.2.1.1.1 o ho
 simp only [shape,Bool.and_eq_true,decide_eq_true_eq] at this
 exact ⟨this.1.1,this.1.2,this.2⟩
theorem Ha {m:Int} {l:List V2} (h:l.all (B0 m)=true) {i:Nat} (hi:i<l.length):-m<=(l.getD i (0,0)).1/\(l.getD i (0,0)).1<=m/\-m<=(l.getD i (0,0)).2/\(l.getD i (0,0)).2<=m:=by
 refine EG (List.all_eq_true.1 h _ ?_)
 simp [List.getD,hi]
theorem Fm {s:Scn} {h:Int} (hv:(AH s && inR h 0 3)=true):AG (AB s h)=true/\(AB s h).length<=5/\(AB s h).all (B0 20)=true:=by
 rw [Bool.and_eq_true] at hv
 obtain ⟨h1,h2,h3⟩:=YZ hv.1
 rw [Cf hv.1 (Az.1 hv.2)]
 refine ⟨by rw [PL];exact h1,by simpa [AW] using h2,?_⟩
 rw [List.all_eq_true] at h3 ⊢
 intro x hx
 obtain ⟨y,hy,rfl⟩:=List.mem_map.1 hx
 exact Mz (h3 y hy) _
theorem RZ {s:Scn} {h:Int} (hv:(AH s && inR h 0 3)=true) {o:List V2} (ho:o ∈ s.obst):AG (Hf (AB s h) o)=true/\Hf (AB s h) o=FF o (F3 (AB s h)):=by
 obtain ⟨r1,r2,r3⟩:=Fm hv
 rw [Bool.and_eq_true] at hv
 obtain ⟨o1,o2,o3⟩:=Uh hv.1 ho
 have rp:=CY r1
 have e:ID (AB s h)=F3 (AB s h):=PD rp.2.2
 have n1:=TM r1
 have hl:=DQ (AB s h)
 have h64:o.length*(F3 (AB s h)).length<=64:=by
  rw [hl]
  exact Nat.le_trans (Nat.mul_le_mul o2 r2) (by decide)
 have hp:=MW o1 n1 h64 (by omega) (λ i j hi hj=>by
  have b1:=Ha o3 hi
  have b2:=Ha r3 (show j<(AB s h).length by omega)
  rw [I3]
  unfold AD B0
  simp only [Af,Bool.and_eq_true,Az]
  omega)
 have e2:Hf (AB s h) o=FF o (F3 (AB s h)):=by unfold Hf;rw [e];exact UZ o1 n1 h64 hp
 exact ⟨by rw [e2];exact hp,e2⟩
theorem Ra {s:Scn} {h:Int} (hv:(AH s && inR h 0 3)=true):∀ z ∈ blk s h,AG z=true:=by
 intro z hz
 rw [PG (by have:=IF hv;omega)] at hz
 unfold I1 at hz
 rw [List.take_length] at hz
 obtain ⟨o,ho,rfl⟩:=List.mem_map.1 hz
 exact (RZ hv ho).1
def Rb (ar:List (List V2)) (q:Pq):Bool:=ar.any λ z=>decide (0<=DS z q)
theorem Zq {ar:List (List V2)} (h:∀ z ∈ ar,AG z=true) {p:PtD} (hp:okP p=true):(ar.any λ z=>decide (0<=cpZ z p))=Rb ar (pqR p):=by
 unfold Rb
 rw [Bool.eq_iff_iff,List.any_eq_true,List.any_eq_true]
 constructor
 ·rintro ⟨z,hz,h0⟩;exact ⟨z,hz,by rwa [O0 (h z hz) hp] at h0⟩
 ·rintro ⟨z,hz,h0⟩;exact ⟨z,hz,by rw [O0 (h z hz) hp];exact h0⟩
def Ga (b:V2×V2) (ar:List (List V2)) (q:Pq):Bool:=inQ b q && !(Rb ar q)
theorem Ya {b:V2×V2} {ar:List (List V2)} (h:∀ z ∈ ar,AG z=true) {p:PtD} : Ue b ar p=(okP p && Ga b ar (pqR p)):=by
 unfold Ue TL Ga
 cases hp:okP p with
 | false=>rfl
 | true=>rw [Zq h hp];simp
def I4 (s:Scn) (h:Int) (p:PtD):Bool:=AZ s h && Ue (AO s h) (blk s h) p
theorem I5 {s:Scn} {h:Int} (hl:AZ s h=true):(AH s && inR h 0 3)=true:=by
 unfold AZ at hl
 rw [Bool.and_eq_true] at hl
 exact hl.1
theorem Fo {s:Scn} {h:Int} (hv:(AH s && inR h 0 3)=true):AZ s h=Gd (EI s h.toNat):=by unfold AZ;rw [hv,Bool.true_and]
theorem WA {s:Scn} {h:Int} (hv:(AH s && inR h 0 3)=false):AZ s h=false/\AO s h=((0,0),(0,0)):=by
 have e:AZ s h=false:=by unfold AZ;rw [hv,Bool.false_and]
 exact ⟨e,by unfold AO;rw [e];rfl⟩
theorem Gb {s:Scn} {h:Int} (hl:AZ s h=false):AO s h=((0,0),(0,0)):=by unfold AO;rw [hl];rfl
theorem Gc {s:Scn} {h:Int} (hl:AZ s h=true):AO s h=EI s h.toNat:=by unfold AO;rw [hl];rfl
theorem ABf {s:Scn} {h:Int} (hv:(AH s && inR h 0 3)=true):IntKind.i64.wrap (s.low.1-(Bt (AB s h)).1)=(EI s h.toNat).1.1/\IntKind.i64.wrap (s.low.2-(Bt (AB s h)).2)=(EI s h.toNat).1.2/\IntKind.i64.wrap (s.high.1-(BI (AB s h)).1)=(EI s h.toNat).2.1/\IntKind.i64.wrap (s.high.2-(BI (AB s h)).2)=(EI s h.toNat).2.2:=by
 obtain ⟨r1,r2,r3⟩:=Fm hv
 have hn:=(CY r1).1
 rw [Bool.and_eq_true] at hv
 have hb:=MO hv.1
 have e:=Cf hv.1 (Az.1 hv.2)
 have hz:=Ha r3 (show 0<(AB s h).length by omega)
 have hl:∀ p ∈ AB s h,-20<=p.1/\p.1<=20/\-20<=p.2/\p.2<=20:=λ p hp=>EG (List.all_eq_true.1 r3 p hp)
 have b1:=FH (m:=20) (AB s h) ((AB s h).getD 0 (0,0)) hz hl
 have b2:=FI (m:=20) (AB s h) ((AB s h).getD 0 (0,0)) hz hl
 have e1:EI s h.toNat=((s.low.1-(Bt (AB s h)).1,s.low.2-(Bt (AB s h)).2),(s.high.1-(BI (AB s h)).1,s.high.2-(BI (AB s h)).2)):=by rw [e];rfl
 rw [e1]
 have c1:Bt (AB s h)=(AB s h).foldl Ek ((AB s h).getD 0 (0,0)):=rfl
 have c2:BI (AB s h)=(AB s h).foldl El ((AB s h).getD 0 (0,0)):=rfl
 rw [c1,c2]
 exact ⟨AE (by omega) (by omega),AE (by omega) (by omega),AE (by omega) (by omega),AE (by omega) (by omega)⟩
theorem AA5 {s:Scn} {h:Int} (hv:(AH s && inR h 0 3)=true):RV (EI s h.toNat):=by
 obtain ⟨r1,r2,r3⟩:=Fm hv
 have hn:=(CY r1).1
 rw [Bool.and_eq_true] at hv
 have hb:=MO hv.1
 have e:=Cf hv.1 (Az.1 hv.2)
 have hz:=Ha r3 (show 0<(AB s h).length by omega)
 have hl:∀ p ∈ AB s h,-20<=p.1/\p.1<=20/\-20<=p.2/\p.2<=20:=λ p hp=>EG (List.all_eq_true.1 r3 p hp)
 have b1:=FH (m:=20) (AB s h) ((AB s h).getD 0 (0,0)) hz hl
 have b2:=FI (m:=20) (AB s h) ((AB s h).getD 0 (0,0)) hz hl
 have e1:EI s h.toNat=((s.low.1-(Bt (AB s h)).1,s.low.2-(Bt (AB s h)).2),(s.high.1-(BI (AB s h)).1,s.high.2-(BI (AB s h)).2)):=by rw [e];rfl
 rw [e1]
 have c1:Bt (AB s h)=(AB s h).foldl Ek ((AB s h).getD 0 (0,0)):=rfl
 have c2:BI (AB s h)=(AB s h).foldl El ((AB s h).getD 0 (0,0)):=rfl
 rw [c1,c2]
 unfold RV
 simp only
 omega
theorem WB (s:Scn) (h:Int):RV (AO s h):=by
 cases hl:AZ s h with
 | false=>rw [Gb hl];unfold RV;simp only;omega
 | true=>rw [Gc hl];exact AA5 (I5 hl)
def WC:Con:={ ι:=Scn×Int,pre:=λ i=>DY i.1/\(AH i.1 && inR i.2 0 3)=true,args:=λ i=>[DA.agg [cI i.1.low.1,cI i.1.low.2,cI i.1.high.1,cI i.1.high.2,DC.sl 24 [.int,.int] (AA i.1.robot),DC.sl 25 [.sl 24 [.int,.int]] (AI i.1.obst),DC.sl 24 [.int,.int] (AA i.1.tables)],.one (cI i.2)],res:=λ i=>⟨true,[some 4,none],[rcI ((AO i.1 i.2).1.1),rcI ((AO i.1 i.2).1.2),rcI ((AO i.1 i.2).2.1),rcI ((AO i.1 i.2).2.2),rcB (AZ i.1 i.2)]⟩ }
theorem Rc:WC.Ok Tryz.prog 18:=by
 refine fok (X:=⟨tt,[(9,As),(52,Fl)],[],66,[]⟩) mixed AN (CTok.cons EW (CTok.cons V8 (CTok.nil _))) Tryz.func18 (λ _=>[]) ?_
 rintro ⟨s,h⟩ hpre
 have hpre:DY s/\(AH s && inR h 0 3)=true:=hpre
 refine AM (q:=let Z2:=AO s h;let Z1:=(vI (0:Int)=vI (Z2.1.1))/\(vI (0:Int)=vI (Z2.1.2))/\(vI (0:Int)=vI (Z2.2.1))/\(vI (0:Int)=vI (Z2.2.2))/\(vB false=vB (AZ s h));∃ i1:Scn×Int,[DA.agg [cI s.low.1,cI s.low.2,cI s.high.1,cI s.high.2,DC.sl 24 [.int,.int] (AA s.robot),DC.sl 25 [.sl 24 [.int,.int]] (AI s.obst),DC.sl 24 [.int,.int] (AA s.tables)],DA.one (cI h)]=As.args i1/\As.pre i1/\(∀ b2:Bool,(b2=true->AA (AB i1.1 i1.2)=[])->(ifB (b2) Z1 (∃ i3:(List V2),let Z6:=wR (s.low.2-((Bt i3).2));let Z5:=wR (s.low.1-((Bt i3).1));let Z4:=wR (s.high.2-((BI i3).2));let Z3:=wR (s.high.1-((BI i3).1));[DA.one (DC.sl 24 [.int,.int] (AA (AB i1.1 i1.2)))]=Fl.args i3/\Fl.pre i3/\(ifB ((!(decide (Z5≥Z3)))) (ifB ((decide (Z6≥Z4))) Z1 ((vI Z5=vI (Z2.1.1))/\(vI Z6=vI (Z2.1.2))/\(vI Z3=vI (Z2.2.1))/\(vI Z4=vI (Z2.2.2))/\(vB true=vB (AZ s h)))) Z1))))) (by kernel_rfl) ?_
 conv=>zeta
 delta ifB vB vI wR
 have hv:=hpre.2
 have hpre:=hpre.1
 have hrs:=IF hv
 obtain ⟨w1,w2,w3,w4⟩:=ABf hv
 have hrv:=RS s h
 have hvl:=AC (AB s h)
 refine ⟨(s,h),by
  rfl,by
  trivial,?_⟩
 intro b2 q4
 refine ⟨λ c5=>?_,λ c5=>?_⟩
 ·try simp only [nrm] at c5
  exfalso
  have hq:=congrArg List.length (q4 c5)
  rw [show AA (AB (s,h).1 (s,h).2)=AA (AB s h) from rfl,hvl] at hq
  simp only [List.length_nil] at hq
  omega -- done
 try simp only [nrm] at c5
 refine ⟨(AB s h),by
  rfl,by
  trivial,?_⟩
 refine And.symm ⟨λ c14=>?_,λ c14=>?_⟩
 ·try simp only [nrm] at c14
  rw [w1,w3] at c14
  have hO:AZ s h=false:=by rw [Fo hv];unfold Gd;rw [decide_eq_false (by omega)];rfl
  have hE:=Gb hO
  refine ⟨?_,?_,?_,?_,?_⟩
  ·rw [hE];done
  ·rw [hE];done
  ·rw [hE];done
  ·rw [hE];done
  rw [hO];done
 try simp only [nrm] at c14
 refine ⟨λ c15=>?_,λ c15=>?_⟩
 ·try simp only [nrm] at c15
  rw [w2,w4] at c15
  have hO:AZ s h=false:=by rw [Fo hv];unfold Gd;rw [decide_eq_false (show ¬ (EI s h.toNat).1.2<(EI s h.toNat).2.2 by omega),Bool.and_false]
  have hE:=Gb hO
  refine ⟨?_,?_,?_,?_,?_⟩
  ·rw [hE];done
  ·rw [hE];done
  ·rw [hE];done
  ·rw [hE];done
  rw [hO];done
 try simp only [nrm] at c15
 rw [w1,w3] at c14
 rw [w2,w4] at c15
 have hO:AZ s h=true:=by rw [Fo hv];unfold Gd;rw [decide_eq_true (by omega),decide_eq_true (by omega)];rfl
 have hE:=Gc hO
 refine ⟨?_,?_,?_,?_,?_⟩
 ·rw [hE,w1]
 ·rw [hE,w2]
 ·rw [hE,w3]
 ·rw [hE,w4]
 rw [hO];done
def OI:Con:={ ι:=Scn×Int,pre:=λ i=>DY i.1/\(AH i.1 && inR i.2 0 3)=false,args:=λ i=>[DA.agg [cI i.1.low.1,cI i.1.low.2,cI i.1.high.1,cI i.1.high.2,DC.sl 24 [.int,.int] (AA i.1.robot),DC.sl 25 [.sl 24 [.int,.int]] (AI i.1.obst),DC.sl 24 [.int,.int] (AA i.1.tables)],.one (cI i.2)],res:=λ i=>⟨true,[some 4,none],[rcI ((AO i.1 i.2).1.1),rcI ((AO i.1 i.2).1.2),rcI ((AO i.1 i.2).2.1),rcI ((AO i.1 i.2).2.2),rcB (AZ i.1 i.2)]⟩ }
theorem Yb:OI.Ok Tryz.prog 18:=Bv rfl ⟨_,Tryz.func18,by decide,rfl⟩ (λ _=>Nat.le_of_ble_eq_true rfl) (λ _=>rfl) (λ i=>[.im (.int .i64 (AO i.1 i.2).1.1),.im (.int .i64 (AO i.1 i.2).1.2),.im (.int .i64 (AO i.1 i.2).2.1),.im (.int .i64 (AO i.1 i.2).2.2),.im (.bool (AZ i.1 i.2))]) (λ _=>rfl) (λ _=>rfl) (λ i hp w us h=>by
 obtain ⟨s,k⟩:=i
 obtain ⟨cs,v,rfl,h1,h2,h3⟩:=If (t:=[.int,.int,.int,.int,.sl 24 [.int,.int],.sl 25 [.sl 24 [.int,.int]],.sl 24 [.int,.int]]) (x:=.int) (ds:=WH s) (dx:=.int k) h rfl
 have h2:v=.int .i64 k:=by simpa [Rd] using h2
 subst h2
 rw [show A3 (OI.args (s,k)) (cs++[.int .i64 k])=[.agg cs.toArray,.int .i64 k] from h3 _ _ rfl]
 refine (RW s k _ w (RdRow.scene h1) hp.2).mono ?_
 rintro e w' ⟨rfl,hb⟩
 obtain ⟨e1,e2⟩:=WA hp.2
 refine ⟨[.int .i64 0,.int .i64 0,.int .i64 0,.int .i64 0,.bool false],rfl,?_,hb⟩
 show Own w' w.heap.size w'.heap.size [.int,.int,.int,.int,.bool] [.int (AO s k).1.1,.int (AO s k).1.2,.int (AO s k).2.1,.int (AO s k).2.2,.bool (AZ s k)] [.int .i64 0,.int .i64 0,.int .i64 0,.int .i64 0,.bool false]
 rw [e1,e2]
 exact ⟨[],⟨[],[],rfl,Fp.mk_int _,[],[],rfl,Fp.mk_int _,[],[],rfl,Fp.mk_int _,[],[],rfl,Fp.mk_int _,[],[],rfl,Fp.mk_bool _,rfl⟩,List.nodup_nil,λ b hb=>by simp at hb⟩)
def I6:Con:={ ι:=Scn×Int,pre:=λ i=>DY i.1,args:=λ i=>[DA.agg [cI i.1.low.1,cI i.1.low.2,cI i.1.high.1,cI i.1.high.2,DC.sl 24 [.int,.int] (AA i.1.robot),DC.sl 25 [.sl 24 [.int,.int]] (AI i.1.obst),DC.sl 24 [.int,.int] (AA i.1.tables)],.one (cI i.2)],res:=λ i=>⟨true,[some 4,none],[rcI ((AO i.1 i.2).1.1),rcI ((AO i.1 i.2).1.2),rcI ((AO i.1 i.2).2.1),rcI ((AO i.1 i.2).2.2),rcB (AZ i.1 i.2)]⟩ }
theorem Zr:I6.Ok Tryz.prog 18 where
 enter:=Rc.enter
 small:=λ _=>Nat.le_of_ble_eq_true rfl
 calls:=λ i hp F w us mb h=>by
  cases hc:(AH i.1 && inR i.2 0 3) with
  | false=>
   refine (Yb.calls i ⟨hp,hc⟩ F w us mb h).mono ?_
   rintro e w' ⟨rs,bs,he,q⟩
   exact ⟨rs,bs,he,⟨q.res,q.nd,q.fresh,q.turned,q.os,q.tape,q.output,q.size,q.keep⟩⟩
  | true=>
   refine (Rc.calls i ⟨hp,hc⟩ F w us mb h).mono ?_
   rintro e w' ⟨rs,bs,he,q⟩
   exact ⟨rs,bs,he,⟨q.res,q.nd,q.fresh,q.turned,q.os,q.tape,q.output,q.size,q.keep⟩⟩
def Ea:Con:={ ι:=Scn×Int,pre:=λ i=>DY i.1,args:=λ i=>[DA.agg [cI i.1.low.1,cI i.1.low.2,cI i.1.high.1,cI i.1.high.2,DC.sl 24 [.int,.int] (AA i.1.robot),DC.sl 25 [.sl 24 [.int,.int]] (AI i.1.obst),DC.sl 24 [.int,.int] (AA i.1.tables)],.one (cI i.2)],res:=λ i=>⟨false,[some 6],[rcB (AZ i.1 i.2),rcI ((AO i.1 i.2).1.1),rcI ((AO i.1 i.2).1.2),rcI ((AO i.1 i.2).2.1),rcI ((AO i.1 i.2).2.2),.own 25 [.sl 24 [.int,.int]] (AI (blk i.1 i.2))]⟩ }
theorem TN:Ea.Ok Tryz.prog 44:=by
 refine fok (X:=⟨tt,[(18,I6),(20,I2)],[],19,[]⟩) mixed AN (CTok.cons Zr (CTok.cons Zp (CTok.nil _))) Tryz.func44 (λ _=>[]) ?_
 rintro ⟨s,h⟩ hpre
 have hpre:DY s:=hpre
 refine AM (q:=let Z2:=AO s h;∃ i1:Scn×Int,let Z1:=AO i1.1 i1.2;[DA.agg [cI s.low.1,cI s.low.2,cI s.high.1,cI s.high.2,DC.sl 24 [.int,.int] (AA s.robot),DC.sl 25 [.sl 24 [.int,.int]] (AI s.obst),DC.sl 24 [.int,.int] (AA s.tables)],DA.one (cI h)]=I6.args i1/\I6.pre i1/\(∃ i2:Scn×Int,[DA.agg [cI s.low.1,cI s.low.2,cI s.high.1,cI s.high.2,DC.sl 24 [.int,.int] (AA s.robot),DC.sl 25 [.sl 24 [.int,.int]] (AI s.obst),DC.sl 24 [.int,.int] (AA s.tables)],DA.one (cI h)]=I2.args i2/\I2.pre i2/\((vB (AZ i1.1 i1.2)=vB (AZ s h))/\(vI (Z1.1.1)=vI (Z2.1.1))/\(vI (Z1.1.2)=vI (Z2.1.2))/\(vI (Z1.2.1)=vI (Z2.2.1))/\(vI (Z1.2.2)=vI (Z2.2.2))/\(AI (blk i2.1 i2.2)=AI (blk s h))))) (by kernel_rfl) ?_
 conv=>zeta
 delta vB vI
 refine ⟨(s,h),by
  rfl,by
  trivial,?_⟩
 refine ⟨(s,h),by
  rfl,by
  trivial,?_⟩
 exact ⟨rfl,rfl,rfl,rfl,rfl,rfl⟩
def Eb:Con:={ ι:=(List V2)×Pq,pre:=λ i=>AG i.1=true,args:=λ i=>[.one (DC.sl 24 [.int,.int] (AA i.1)),.one (.ro (.ptr [.im (Value.bool (decide (i.2.x.z<0))),.sl 3 [.int] (L i.2.x.z.natAbs),.sl 3 [.int] (L i.2.x.d),.im (Value.bool (decide (i.2.y.z<0))),.sl 3 [.int] (L i.2.y.z.natAbs),.sl 3 [.int] (L i.2.y.d)]))],res:=λ i=>⟨false,[none],[rcB (decide (0<=DS i.1 i.2))]⟩ }
theorem TO:Eb.Ok Tryz.prog 88:=by
 refine fok (X:=⟨tt,[(89,Dh)],[],8,[]⟩) mixed AN (CTok.cons Qu (CTok.nil _)) Tryz.func88 (λ _=>[]) ?_
 rintro ⟨l,q⟩ hpre
 have hpre:AG l=true:=hpre
 refine AM (q:=∃ i1:(List V2)×Pq,[DA.one (DC.sl 24 [.int,.int] (AA l)),dP q]=Dh.args i1/\Dh.pre i1/\((vB (decide ((DS i1.1 i1.2)≥(0:Int)))=vB (decide (0<=DS l q))))) (by kernel_rfl) ?_
 delta vB
 have hP:=CY hpre
 refine ⟨(l,q),by
  rfl,by
  show l.all AD=true/\0<l.length/\l.length<=16
  exact ⟨hP.2.2,by omega,by omega⟩,?_⟩
 rfl
def DE:Con:={ ι:=(List (List V2))×Pq,pre:=λ i=>i.1.length<=9223372036854775807/\(∀ z ∈ i.1,AG z=true),args:=λ i=>[.one (DC.sl 25 [.sl 24 [.int,.int]] (AI i.1)),.one (.ro (.fn 88 [[.im (Value.bool (decide (i.2.x.z<0))),.sl 3 [.int] (L i.2.x.z.natAbs),.sl 3 [.int] (L i.2.x.d),.im (Value.bool (decide (i.2.y.z<0))),.sl 3 [.int] (L i.2.y.z.natAbs),.sl 3 [.int] (L i.2.y.d)]]))],tag:=89,res:=λ i=>⟨false,[none],[rcI (O1 (λ z=>decide (0<=DS z i.2)) i.1)]⟩ }
theorem PH:DE.Ok Tryz.prog 129:=by
 refine fok (X:=⟨tt,[(88,Eb)],[],19,[]⟩) mixed AN (CTok.cons TO (CTok.nil _)) Tryz.func129 (λ (i:(List (List V2))×Pq)=>[(2,.mk 3 (Nat) (λ x1=>{ tm:=[(0,tX 1),(1,tX 2),(7,tI (nI ((AI i.1).length))),(8,tI (nI x1))],en:=[(1,.view 25 [.sl 24 [.int,.int]] (AI i.1) []),(2,.ro (.fn 88 [[.im (Value.bool (decide (i.2.x.z<0))),.sl 3 [.int] (L i.2.x.z.natAbs),.sl 3 [.int] (L i.2.x.d),.im (Value.bool (decide (i.2.y.z<0))),.sl 3 [.int] (L i.2.y.z.natAbs),.sl 3 [.int] (L i.2.y.d)]]) [])] }) (λ x1=>x1<=i.1.length/\∀ j,j<x1->(λ z=>decide (0<=DS z i.2)) (i.1.getD j [])=false) (λ x1=>i.1.length-x1) (λ _=>[]))]) ?_
 rintro ⟨ar,q⟩ hpre
 have hpre:ar.length<=9223372036854775807/\(∀ z ∈ ar,AG z=true):=hpre
 refine AM (q:=let Z7:=L q.y.z.natAbs;let Z6:=L q.x.z.natAbs;let Z5:=O1 (λ z=>decide (0<=DS z q)) ar;let Z4:=vB (decide (q.y.z<0));let Z3:=vB (decide (q.x.z<0));let Z2:=AI ar;let Z8:=nI (Z2.length);let Z1:=(.fn 88 [[.im Z3,.sl 3 [.int] Z6,.sl 3 [.int] (L q.x.d),.im Z4,.sl 3 [.int] Z7,.sl 3 [.int] (L q.y.d)]]:RO)=.fn 88 [[.im Z3,.sl 3 [.int] Z6,.sl 3 [.int] (L q.x.d),.im Z4,.sl 3 [.int] Z7,.sl 3 [.int] (L q.y.d)]];(∃ x1:Nat,(x1<=ar.length/\∀ j,j<x1->(λ z=>decide (0<=DS z q)) (ar.getD j [])=false)/\((rf (vI Z8))/\(vI (0:Int)=vI (nI x1))/\(rf Z2)/\Z1))/\∀ x1:Nat,(x1<=ar.length/\∀ j,j<x1->(λ z=>decide (0<=DS z q)) (ar.getD j [])=false)->(ifB ((decide ((nI x1)<Z8))) ((0<=(nI x1)/\(nI x1)<(Z2.length:Int))/\((x1<Z2.length)/\(∃ i1:(List V2)×Pq,[DA.one (DC.sl 24 [.int,.int] ((((Z2.getD x1 []).getD 0 (.int 0))).r)),DA.one (DC.ro (.ptr [.im Z3,.sl 3 [.int] Z6,.sl 3 [.int] (L q.x.d),.im Z4,.sl 3 [.int] Z7,.sl 3 [.int] (L q.y.d)]))]=Eb.args i1/\Eb.pre i1/\(ifB ((decide (0<=DS i1.1 i1.2))) ((vI (nI x1)=vI Z5)) (∃ y2:Nat,(y2<=ar.length/\∀ j,j<y2->(λ z=>decide (0<=DS z q)) (ar.getD j [])=false)/\(ar.length-y2<ar.length-x1)/\((rf (vI Z8))/\(vI (wR ((nI x1)+(1:Int)))=vI (nI y2))/\(rf Z2)/\Z1)))))) ((vI (-1:Int)=vI Z5)))) (by kernel_rfl) ?_
 conv=>zeta
 delta ifB vB vI wR nI
 have hal:=Aq ar
 refine ⟨⟨0,by
  exact ⟨Nat.zero_le _,λ j hj=>absurd hj (Nat.not_lt_zero j)⟩,?_⟩,?_⟩
 ·refine ⟨rfl,?_,rfl,?_⟩
  ·rfl
  rfl
 intro (k:Nat) hki1
 have hki1:k<=ar.length/\∀ j,j<k->(λ z=>decide (0<=DS z q)) (ar.getD j [])=false:=hki1
 refine And.symm ⟨λ c7=>?_,λ c7=>?_⟩
 ·try simp only [nrm] at c7
  rw [Vl (d:=[]) (λ j hj=>hki1.2 j (by omega))]
 try simp only [nrm] at c7
 refine ao (by first|omega) λ o8=>?_
 refine ao (by first|omega) λ o9=>?_
 refine ⟨(ar.getD k [],q),by
  rw [Jn (by omega)];rfl,by
  exact hpre.2 _ (by simp [List.getD,show k<ar.length by omega]),?_⟩
 refine ⟨λ c13=>?_,λ c13=>?_⟩
 ·try simp only [nrm] at c13
  rw [ZV (d:=[]) (by omega) hki1.2 (by simpa using c13)]
 try simp only [nrm] at c13
 refine ⟨k+1,by
  exact ⟨by omega,Kq hki1.2 (by simpa using c13)⟩,by
  omega,?_⟩
 refine ⟨rfl,?_,rfl,?_⟩
 ·exact AR (AE (by omega) (by omega))
 rfl
def Hb:Con:={ ι:=(List (List V2))×Pq,pre:=λ i=>i.1.length<=9223372036854775807/\(∀ z ∈ i.1,AG z=true),args:=λ i=>[.one (DC.sl 25 [.sl 24 [.int,.int]] (AI i.1)),.one (.ro (.fn 88 [[.im (Value.bool (decide (i.2.x.z<0))),.sl 3 [.int] (L i.2.x.z.natAbs),.sl 3 [.int] (L i.2.x.d),.im (Value.bool (decide (i.2.y.z<0))),.sl 3 [.int] (L i.2.y.z.natAbs),.sl 3 [.int] (L i.2.y.d)]]))],tag:=89,res:=λ i=>⟨false,[none],[rcB (i.1.any (λ z=>decide (0<=DS z i.2)))]⟩ }
theorem Yc:Hb.Ok Tryz.prog 77:=by
 refine fok (X:=⟨tt,[(129,DE)],[],9,[]⟩) mixed AN (CTok.cons PH (CTok.nil _)) Tryz.func77 (λ _=>[]) ?_
 rintro ⟨ar,q⟩ hpre
 have hpre:ar.length<=9223372036854775807/\(∀ z ∈ ar,AG z=true):=hpre
 refine AM (q:=∃ i1:(List (List V2))×Pq,[DA.one (DC.sl 25 [.sl 24 [.int,.int]] (AI ar)),DA.one (DC.ro (.fn 88 [[.im (vB (decide (q.x.z<0))),.sl 3 [.int] (L q.x.z.natAbs),.sl 3 [.int] (L q.x.d),.im (vB (decide (q.y.z<0))),.sl 3 [.int] (L q.y.z.natAbs),.sl 3 [.int] (L q.y.d)]]))]=DE.args i1/\DE.pre i1/\((vB (decide ((O1 (λ z=>decide (0<=DS z i1.2)) i1.1)≥(0:Int)))=vB (ar.any (λ z=>decide (0<=DS z q)))))) (by kernel_rfl) ?_
 delta vB
 refine ⟨(ar,q),by
  rfl,by
  exact hpre,?_⟩
 exact congrArg Value.bool (X1 _ _)
def Fq:Con:={ ι:=Bool×(V2×V2)×(List (List V2))×Pq,pre:=λ i=>(∀ z ∈ i.2.2.1,AG z=true)/\i.2.2.1.length<=1048576/\RV i.2.1,args:=λ i=>[DA.agg [cB i.1,cI i.2.1.1.1,cI i.2.1.1.2,cI i.2.1.2.1,cI i.2.1.2.2,DC.sl 25 [.sl 24 [.int,.int]] (AI i.2.2.1)],dP i.2.2.2],res:=λ i=>⟨false,[none],[rcB (i.1 && Ga i.2.1 i.2.2.1 i.2.2.2)]⟩ }
theorem WD:Fq.Ok Tryz.prog 45:=by
 refine fok (X:=⟨tt,[(87,HZ),(77,Hb)],[],20,[]⟩) mixed AN (CTok.cons YW (CTok.cons Yc (CTok.nil _))) Tryz.func45 (λ _=>[]) ?_
 rintro ⟨o,b,ar,q⟩ hpre
 have hpre:(∀ z ∈ ar,AG z=true)/\ar.length<=1048576/\RV b:=hpre
 refine AM (q:=let Z1:=(vB false=vB (o && Ga b ar q));ifB (o) (∃ i1:(V2×V2)×Pq,[DA.agg [cI b.1.1,cI b.1.2,cI b.2.1,cI b.2.2],dP q]=HZ.args i1/\HZ.pre i1/\(ifB ((inQ i1.1 i1.2)) (∃ i2:(List (List V2))×Pq,[DA.one (DC.sl 25 [.sl 24 [.int,.int]] (AI ar)),DA.one (DC.ro (.fn 88 [[.im (vB (decide (q.x.z<0))),.sl 3 [.int] (L q.x.z.natAbs),.sl 3 [.int] (L q.x.d),.im (vB (decide (q.y.z<0))),.sl 3 [.int] (L q.y.z.natAbs),.sl 3 [.int] (L q.y.d)]]))]=Hb.args i2/\Hb.pre i2/\((vB (!(i2.1.any (λ z=>decide (0<=DS z i2.2))))=vB (o && Ga b ar q)))) Z1)) Z1) (by kernel_rfl) ?_
 conv=>zeta
 delta ifB vB
 obtain ⟨hg,hal,hb⟩:=hpre
 refine And.symm ⟨λ c1=>?_,λ c1=>?_⟩
 ·try simp only [nrm] at c1
  exact congrArg Value.bool (by unfold Ga Rb;simp_all)
 try simp only [nrm] at c1
 refine ⟨(b,q),by
  rfl,by
  exact hb,?_⟩
 refine And.symm ⟨λ c5=>?_,λ c5=>?_⟩
 ·try simp only [nrm] at c5
  exact congrArg Value.bool (by unfold Ga Rb;simp_all)
 try simp only [nrm] at c5
 refine ⟨(ar,q),by
  rfl,by
  show ar.length<=9223372036854775807/\(∀ z ∈ ar,AG z=true)
  exact ⟨by omega,hg⟩,?_⟩
 exact congrArg Value.bool (by unfold Ga Rb;simp_all)
theorem AA6 (s:Scn) (h:Int) (hz:DY s):(blk s h).length<=1048576:=by
 have h1:s.obst.length<=1048576:=by have:=hz.2.1;omega
 unfold blk
 split
 ·simp
 ·have:=RR s h s.obst.length
  rw [Aq] at this
  omega
theorem Re {s:Scn} {h:Int} {p:PtD} (hp:okP p=true):I4 s h p=(AZ s h && Ga (AO s h) (blk s h) (pqR p)):=by
 unfold I4
 cases hl:AZ s h with
 | false=>rfl
 | true=>rw [Ya (Ra (I5 hl)),hp,Bool.true_and]
theorem WE {s:Scn} {h:Int} {p:PtD} (hp:okP p=false):I4 s h p=false:=by unfold I4 Ue TL;rw [hp];simp
theorem WF (s:Scn) (h:Int):∀ z ∈ blk s h,AG z=true:=by
 cases hv:(AH s && inR h 0 3) with
 | true=>exact Ra hv
 | false=>
  intro z hz
  rw [YU (by rw [OG hv];rfl)] at hz
  simp at hz
def Hc:Con:={ ι:=Scn×Int×PtD,pre:=λ i=>DY i.1/\i.2.2.has,args:=λ i=>[DA.agg [cI i.1.low.1,cI i.1.low.2,cI i.1.high.1,cI i.1.high.2,DC.sl 24 [.int,.int] (AA i.1.robot),DC.sl 25 [.sl 24 [.int,.int]] (AI i.1.obst),DC.sl 24 [.int,.int] (AA i.1.tables)],.one (cI i.2.1),DA.agg [cB i.2.2.x.neg,cS i.2.2.x.num,cS i.2.2.x.den,cB i.2.2.y.neg,cS i.2.2.y.num,cS i.2.2.y.den]],res:=λ i=>⟨false,[none],[rcB (I4 i.1 i.2.1 i.2.2)]⟩ }
theorem Yd:Hc.Ok Tryz.prog 12:=by
 refine fok (X:=⟨tt,[(43,BG),(44,Ea),(45,Fq)],[],17,[]⟩) mixed AN (CTok.cons Ip (CTok.cons TN (CTok.cons WD (CTok.nil _)))) Tryz.func12 (λ _=>[]) ?_
 rintro ⟨s,h,p⟩ hpre
 have hpre:DY s/\p.has:=hpre
 refine AM (q:=∃ i1:(List (List Dat)),[DA.one (DC.sl 42 z41 ([[Dat.bool p.x.neg,Dat.sl p.x.num,Dat.sl p.x.den,Dat.bool p.y.neg,Dat.sl p.y.num,Dat.sl p.y.den]]:List (List Dat)))]=BG.args i1/\BG.pre i1/\(ifB ((!(i1.any (λ r=>!(okP (DO r)))))) (∃ i2:Scn×Int,let Z1:=AO i2.1 i2.2;[DA.agg [cI s.low.1,cI s.low.2,cI s.high.1,cI s.high.2,DC.sl 24 [.int,.int] (AA s.robot),DC.sl 25 [.sl 24 [.int,.int]] (AI s.obst),DC.sl 24 [.int,.int] (AA s.tables)],DA.one (cI h)]=Ea.args i2/\Ea.pre i2/\(∃ i3:Bool×(V2×V2)×(List (List V2))×Pq,[DA.agg [cB (AZ i2.1 i2.2),cI (Z1.1.1),cI (Z1.1.2),cI (Z1.2.1),cI (Z1.2.2),DC.sl 25 [.sl 24 [.int,.int]] (AI (blk i2.1 i2.2))],DA.agg [cB p.x.neg,cS p.x.num,cS p.x.den,cB p.y.neg,cS p.y.num,cS p.y.den]]=Fq.args i3/\Fq.pre i3/\((vB (i3.1 && Ga i3.2.1 i3.2.2.1 i3.2.2.2)=vB (I4 s h p))))) ((vB false=vB (I4 s h p))))) (by kernel_rfl) ?_
 conv=>zeta
 delta ifB vB
 obtain ⟨hz,hh⟩:=hpre
 have hbl:=AA6 s h hz
 have hlb:=WB s h
 refine ⟨([[Dat.bool p.x.neg,Dat.sl p.x.num,Dat.sl p.x.den,Dat.bool p.y.neg,Dat.sl p.y.num,Dat.sl p.y.den]]:List (List Dat)),by
  rfl,by
  try dsimp only [BG]
  exact ⟨by show 1<=_;decide,UQ hh⟩,?_⟩
 refine And.symm ⟨λ c4=>?_,λ c4=>?_⟩
 ·try simp only [nrm] at c4
  have q:okP p=false:=by have h:=(ZT p).symm.trans c4;simpa using h
  have hE:=WE (s:=s) (h:=h) q
  rw [hE]
 try simp only [nrm] at c4
 have q:okP p=true:=by have h:=(ZT p).symm.trans c4;simpa using h
 obtain ⟨e1,e2,e3,e4,e5,e6,e7,e8⟩:=Xx hh q
 have hE:=Re (s:=s) (h:=h) q
 refine ⟨(s,h),by
  rfl,by
  exact hz,?_⟩
 refine ⟨(AZ s h,AO s h,blk s h,pqR p),by
  rw [e1,e2,e3,e4,e5,e6];rfl,by
  exact ⟨WF s h,hbl,hlb⟩,?_⟩
 rw [hE]
end Go.Proofs.YtkffpiaagjcmpaaGreat
namespace Go.Proofs.YtkffpiaagjcmpaaGreat
set_option linter.unusedVariables false
set_option linter.unusedSimpArgs false
def Md (lo hi p:V2):Bool:=decide (p.1>lo.1) && (decide (p.1<hi.1) && (decide (p.2>lo.2) && decide (p.2<hi.2)))
theorem Ye {lo hi p:V2} : Md lo hi p=true↔lo.1<p.1/\p.1<hi.1/\lo.2<p.2/\p.2<hi.2:=by simp [Md]
theorem Zs {b:V2×V2} {p:Pq} : inQ b p=true↔Fr.cmp p.x (Fr.ofInt b.1.1)>0/\Fr.cmp p.x (Fr.ofInt b.2.1)<0/\Fr.cmp p.y (Fr.ofInt b.1.2)>0/\Fr.cmp p.y (Fr.ofInt b.2.2)<0:=by
 unfold inQ;simp only [Bool.and_eq_true,decide_eq_true_eq]
theorem Rf {c:Int} : ∀ (l:List V2) (z:V2),c<(l.foldl Ek z).1↔c<z.1/\∀ p ∈ l,c<p.1
 | [],z=>by simp
 | a::l,z=>by
  rw [List.foldl_cons,Rf l]
  simp only [Ek,List.mem_cons,forall_eq_or_imp]
  constructor
  ·rintro ⟨h1,h2⟩;exact ⟨by omega,by omega,h2⟩
  ·rintro ⟨h1,h2,h3⟩;exact ⟨by omega,h3⟩
theorem Rg {c:Int} : ∀ (l:List V2) (z:V2),c<(l.foldl Ek z).2↔c<z.2/\∀ p ∈ l,c<p.2
 | [],z=>by simp
 | a::l,z=>by
  rw [List.foldl_cons,Rg l]
  simp only [Ek,List.mem_cons,forall_eq_or_imp]
  constructor
  ·rintro ⟨h1,h2⟩;exact ⟨by omega,by omega,h2⟩
  ·rintro ⟨h1,h2,h3⟩;exact ⟨by omega,h3⟩
theorem Rh {c:Int} : ∀ (l:List V2) (z:V2),(l.foldl El z).1<c↔z.1<c/\∀ p ∈ l,p.1<c
 | [],z=>by simp
 | a::l,z=>by
  rw [List.foldl_cons,Rh l]
  simp only [El,List.mem_cons,forall_eq_or_imp]
  constructor
  ·rintro ⟨h1,h2⟩;exact ⟨by omega,by omega,h2⟩
  ·rintro ⟨h1,h2,h3⟩;exact ⟨by omega,h3⟩
theorem Ri {c:Int} : ∀ (l:List V2) (z:V2),(l.foldl El z).2<c↔z.2<c/\∀ p ∈ l,p.2<c
 | [],z=>by simp
 | a::l,z=>by
  rw [List.foldl_cons,Ri l]
  simp only [El,List.mem_cons,forall_eq_or_imp]
  constructor
  ·rintro ⟨h1,h2⟩;exact ⟨by omega,by omega,h2⟩
  ·rintro ⟨h1,h2,h3⟩;exact ⟨by omega,h3⟩
theorem Zt {lo hi v:V2} {l:List V2} (h0:0<l.length):(l.map (Af v)).all (Md lo hi)=true↔(lo.1-(Bt l).1<v.1/\v.1<hi.1-(BI l).1)/\lo.2-(Bt l).2<v.2/\v.2<hi.2-(BI l).2:=by
 have m0:l.getD 0 (0,0) ∈ l:=Dx h0
 have a1:=Rf (c:=lo.1-v.1) l (l.getD 0 (0,0))
 have a2:=Rg (c:=lo.2-v.2) l (l.getD 0 (0,0))
 have a3:=Rh (c:=hi.1-v.1) l (l.getD 0 (0,0))
 have a4:=Ri (c:=hi.2-v.2) l (l.getD 0 (0,0))
 rw [show l.foldl Ek (l.getD 0 (0,0))=Bt l from rfl] at a1 a2
 rw [show l.foldl El (l.getD 0 (0,0))=BI l from rfl] at a3 a4
 have key:(l.map (Af v)).all (Md lo hi)=true↔∀ p ∈ l,lo.1<v.1+p.1/\v.1+p.1<hi.1/\lo.2<v.2+p.2/\v.2+p.2<hi.2:=by
  rw [List.all_map,List.all_eq_true]
  exact forall_congr' λ p=>forall_congr' λ _=>Ye
 rw [key]
 constructor
 ·intro h
  have b1:=a1.2 ⟨by have:=h _ m0;omega,λ p hp=>by have:=h p hp;omega⟩
  have b2:=a2.2 ⟨by have:=h _ m0;omega,λ p hp=>by have:=h p hp;omega⟩
  have b3:=a3.2 ⟨by have:=h _ m0;omega,λ p hp=>by have:=h p hp;omega⟩
  have b4:=a4.2 ⟨by have:=h _ m0;omega,λ p hp=>by have:=h p hp;omega⟩
  omega
 ·rintro ⟨⟨h1,h2⟩,h3,h4⟩ p hp
  have b1:=(a1.1 (by omega)).2 p hp
  have b2:=(a2.1 (by omega)).2 p hp
  have b3:=(a3.1 (by omega)).2 p hp
  have b4:=(a4.1 (by omega)).2 p hp
  omega
theorem K0 {m n:Int} (hm:m.natAbs<=1024) (hn:n.natAbs<=1024):(Fr.cmp (Fr.ofInt m) (Fr.ofInt n)>0↔n<m)/\(Fr.cmp (Fr.ofInt m) (Fr.ofInt n)<0↔m<n):=by
 have h1:=FrS.int (n:=m) (k:=10) (by omega) (by omega)
 have h2:=FrS.int (n:=n) (k:=10) (by omega) (by omega)
 rw [h1.cmp h2]
 unfold Mw
 by_cases c:m<n
 ·have:(m:Rat)<(n:Rat):=by exact_mod_cast c
  rw [if_pos this];omega
 ·have c1:¬ (m:Rat)<(n:Rat):=λ h=>c (by exact_mod_cast h)
  rw [if_neg c1]
  by_cases e:m=n
  ·rw [if_pos (by rw [e])];omega
  ·rw [if_neg (λ h=>e (by exact_mod_cast h))];omega
theorem AAO {p:Pq} (h:p.good=true):pqR (ptQ p)=p:=by
 have hg:p.x.good=true/\p.y.good=true:=by unfold Pq.good at h;rwa [Bool.and_eq_true] at h
 show (⟨Fr.mk' (zOf (decide (p.x.z<0)) (He (L p.x.z.natAbs))) (He (L p.x.d)),Fr.mk' (zOf (decide (p.y.z<0)) (He (L p.y.z.natAbs))) (He (L p.y.d))⟩:Pq)=p
 rw [Bz,Bz,Bz,Bz,GT,GT,In (Fr.d_good.1 hg.1),In (Fr.d_good.1 hg.2)]
structure FreeLaw (s:Scn) (h:Int) (v:V2):Prop where
 vec:(AB s h).all AD=true/\(AB s h).length<=5
 poly:AG (EF (AB s h) v.1 v.2)=true
 free:I4 s h (ptQ (ptV v))=((EF (AB s h) v.1 v.2).all (Md s.low s.high) && !(s.obst.any λ o=>Ej (EF (AB s h) v.1 v.2) o))
 cor:(IB s h (ptQ (ptV v))).length=(EF (AB s h) v.1 v.2).length
theorem Yf {s:Scn} {h:Int} {v:V2} (hs:AH s=true) (hh:0<=h/\h<=3) (hv:(-100<=v.1/\v.1<=100)/\-100<=v.2/\v.2<=100):FreeLaw s h v:=by
 have hV:(AH s && inR h 0 3)=true:=by rw [hs,Bool.true_and];exact Az.2 hh
 have hvv:AD v=true:=MU (z:=100) (by omega) hv
 obtain ⟨r1,r2,r3⟩:=Fm hV
 have hva:=(Bl r1).2.2
 have hbd:∀ x ∈ AB s h,-20<=x.1/\x.1<=20/\-20<=x.2/\x.2<=20:=λ x hx=>EG (List.all_eq_true.1 r3 x hx)
 have hm:∀ x ∈ AB s h,AD (Af v x)=true:=λ x hx=>MU (z:=200) (by omega) (by have:=hbd x hx;simp only [Af];omega)
 have hgood:(ptV v).good=true:=OA (l:=[v]) (k:=0) (by rw [List.all_cons,hvv];rfl) (by simp)
 have hok:okP (ptQ (ptV v))=true:=by rw [Xy];exact hgood
 have hmv:EF (AB s h) v.1 v.2=mvV v (AB s h):=by
  have e:BU (AB s h) v.1 v.2=mvV v (AB s h):=MV λ j hj=>hm _ (Dx hj)
  rw [GY hvv (by rw [e];exact (Bl (Kz r1 hm)).2.2),e]
 have hn:=(Bl r1).1
 have ht:∀ o ∈ s.obst,TouchLaw (AB s h) o v:=λ o ho=>by
  obtain ⟨o1,o2,o3⟩:=Uh hs ho
  refine Vz r1 o1 (by omega) (by omega) hvv hm λ i j hi hj=>?_
  rw [CL] at hj
  have b1:=Ha o3 hi
  have b2:=hbd _ (Dx hj)
  rw [Dl hj]
  refine MU (z:=300) (by omega) ?_
  simp only [Af,MX];omega
 refine ⟨⟨hva,r2⟩,by rw [hmv];exact Kz r1 hm,?_,?_⟩
 ·have hconF:Rb (blk s h) (ptV v)=s.obst.any λ o=>Ej (EF (AB s h) v.1 v.2) o:=by
   unfold Rb
   rw [PG (by omega)]
   unfold I1
   rw [List.take_length,Bool.eq_iff_iff,List.any_eq_true,List.any_eq_true]
   have key:∀ o ∈ s.obst,(decide (0<=DS (Hf (AB s h) o) (ptV v))=true↔Ej (EF (AB s h) v.1 v.2) o=true):=λ o ho=>by
    rw [(ht o ho).t1,AAN (RZ hV ho).1 hgood]
   constructor
   ·rintro ⟨z,hz,h0⟩
    obtain ⟨o,ho,rfl⟩:=List.mem_map.1 hz
    exact ⟨o,ho,(key o ho).1 h0⟩
   ·rintro ⟨o,ho,h0⟩
    exact ⟨_,List.mem_map_of_mem ho,(key o ho).2 h0⟩
  have hib:=Zt (lo:=s.low) (hi:=s.high) (v:=v) (l:=AB s h) (by omega)
  have er:=Cf hs hh
  have eb:EI s h.toNat=((s.low.1-(Bt (AB s h)).1,s.low.2-(Bt (AB s h)).2),(s.high.1-(BI (AB s h)).1,s.high.2-(BI (AB s h)).2)):=by rw [er];rfl
  have hrm:=MO hs
  have hz:=Ha r3 (show 0<(AB s h).length by omega)
  have b1:=FH (m:=20) (AB s h) ((AB s h).getD 0 (0,0)) hz hbd
  have b2:=FI (m:=20) (AB s h) ((AB s h).getD 0 (0,0)) hz hbd
  rw [show (AB s h).foldl Ek ((AB s h).getD 0 (0,0))=Bt (AB s h) from rfl] at b1
  rw [show (AB s h).foldl El ((AB s h).getD 0 (0,0))=BI (AB s h) from rfl] at b2
  rw [Re hok,AAO hgood,hmv,← hmv,← hconF,hmv]
  rw [show mvV v (AB s h)=(AB s h).map (Af v) from rfl]
  cases hl:AZ s h with
  | true=>
   rw [Gc hl,eb,Bool.true_and]
   unfold Ga
   congr 1
   rw [Bool.eq_iff_iff,hib,Zs]
   show (Fr.cmp (Fr.ofInt v.1) (Fr.ofInt (s.low.1-(Bt (AB s h)).1))>0/\Fr.cmp (Fr.ofInt v.1) (Fr.ofInt (s.high.1-(BI (AB s h)).1))<0/\Fr.cmp (Fr.ofInt v.2) (Fr.ofInt (s.low.2-(Bt (AB s h)).2))>0/\Fr.cmp (Fr.ofInt v.2) (Fr.ofInt (s.high.2-(BI (AB s h)).2))<0)↔_
   rw [(K0 (by omega) (by omega)).1,(K0 (by omega) (by omega)).2,(K0 (by omega) (by omega)).1,(K0 (by omega) (by omega)).2]
   constructor
   ·rintro ⟨h1,h2,h3,h4⟩;exact ⟨⟨h1,h2⟩,h3,h4⟩
   ·rintro ⟨⟨h1,h2⟩,h3,h4⟩;exact ⟨h1,h2,h3,h4⟩
  | false=>
   rw [Bool.false_and]
   have:((AB s h).map (Af v)).all (Md s.low s.high)=false:=by
    cases hc:((AB s h).map (Af v)).all (Md s.low s.high) with
    | false=>rfl
    | true=>
     have:=hib.1 hc
     rw [Fo hV,eb] at hl
     unfold Gd at hl
     rw [decide_eq_true (by simp only;omega),decide_eq_true (by simp only;omega)] at hl
     cases hl
   rw [this,Bool.false_and]
 ·have hall:(AB s h).all (λ x=>(mvR (ptQ (ptV v)) x).good)=true:=by
   rw [List.all_eq_true]
   intro x hx
   have:=hbd x hx
   rw [Kv hok,AAO hgood]
   have f1:=(FrS.int (n:=v.1) (k:=10) (by omega) (by omega)).add (FrS.int (n:=x.1) (k:=10) (by omega) (by omega)) (by omega)
   have f2:=(FrS.int (n:=v.2) (k:=10) (by omega) (by omega)).add (FrS.int (n:=x.2) (k:=10) (by omega) (by omega)) (by omega)
   have g:(⟨Fr.add (Fr.ofInt v.1) (Fr.ofInt x.1),Fr.add (Fr.ofInt v.2) (Fr.ofInt x.2)⟩:Pq).good=true:=by
    unfold Pq.good;rw [f1.good,f2.good];rfl
   have e:mvQ (ptV v) x=⟨Fr.add (Fr.ofInt v.1) (Fr.ofInt x.1),Fr.add (Fr.ofInt v.2) (Fr.ofInt x.2)⟩:=if_pos g
   rw [e];exact g
  unfold IB
  rw [if_pos hall,Ir,hmv,HL]
end Go.Proofs.YtkffpiaagjcmpaaGreat
namespace Go.Proofs.YtkffpiaagjcmpaaGreat
set_option linter.unusedVariables false
set_option linter.unusedSimpArgs false
open Go.RowKit
def fS (b:List UInt8):Scn:=DV b (BE b)
def fH (b:List UInt8):Int:=Int.tmod (F0 b 1) 4
def fV (b:List UInt8):V2:=(Int.tmod (F0 b 2) 26,Int.tmod (F0 b 3) 22)
def fR (b:List UInt8):List V2:=EF (AB (fS b) (fH b)) (fV b).1 (fV b).2
theorem AA7 (b:List UInt8):0<=fH b/\fH b<=3:=by
 have:=MR b 1
 have h1:=Int.tmod_nonneg 4 this.1
 have h2:=Int.tmod_lt_of_pos (F0 b 1) (show (0:Int)<4 by omega)
 exact ⟨h1,by show Int.tmod _ _<=3;omega⟩
theorem AA8 (b:List UInt8):(0<=(fV b).1/\(fV b).1<=25)/\0<=(fV b).2/\(fV b).2<=21:=by
 have r2:=MR b 2
 have r3:=MR b 3
 have h1:=Int.tmod_nonneg 26 r2.1
 have h2:=Int.tmod_lt_of_pos (F0 b 2) (show (0:Int)<26 by omega)
 have h3:=Int.tmod_nonneg 22 r3.1
 have h4:=Int.tmod_lt_of_pos (F0 b 3) (show (0:Int)<22 by omega)
 exact ⟨⟨h1,by show Int.tmod _ _<=25;omega⟩,h3,by show Int.tmod _ _<=21;omega⟩
def inA (b:List UInt8) (k:Nat):Bool:=((fR b).take k).all (Md (fS b).low (fS b).high)
def noT (b:List UInt8) (k:Nat):Bool:=inA b (fR b).length && !(((fS b).obst.take k).any λ o=>Ej (fR b) o)
theorem Yg {b:List UInt8} {k:Nat} (h:k<(fR b).length):inA b (k+1)=(inA b k && Md (fS b).low (fS b).high ((fR b).getD k (0,0))):=by
 unfold inA
 rw [Bp (fR b) (0,0) k h,List.all_append];simp
theorem Rj {b:List UInt8} {k:Nat} (h:k<(fS b).obst.length):noT b (k+1)=(noT b k && !(Ej (fR b) ((fS b).obst.getD k []))):=by
 unfold noT
 rw [Bp (fS b).obst [] k h,List.any_append];simp [Bool.and_assoc]
theorem Me {b:List UInt8} {k:Nat} (h:k<(fR b).length):inA b (k+1)=(inA b k && (decide ((((AA (fR b)).getD k []).getD 0 (.int 0)).n>0) && (decide ((((AA (fR b)).getD k []).getD 0 (.int 0)).n<(DV b (BE b)).high.1) && (decide ((((AA (fR b)).getD k []).getD 1 (.int 0)).n>0) && decide ((((AA (fR b)).getD k []).getD 1 (.int 0)).n<(DV b (BE b)).high.2))))):=by
 rw [Yg h,Ai h,Aj h];rfl
theorem Zu (b:List UInt8):inA b (fR b).length=(fR b).all (Md (fS b).low (fS b).high):=by unfold inA;rw [List.take_length]
theorem Zv (b:List UInt8):noT b (fS b).obst.length=((fR b).all (Md (fS b).low (fS b).high) && !((fS b).obst.any λ o=>Ej (fR b) o)):=by unfold noT;rw [Zu,List.take_length]
def Rk:Con:={ ι:=(List UInt8),pre:=λ i=>True,args:=λ i=>[.one (.ro (.bytes i))],res:=λ i=>⟨false,[none],[rcB true]⟩ }
set_option maxRecDepth 100000 in
set_option maxHeartbeats 4000000 in
theorem TP:Rk.Ok Tryz.prog 3:=by
 refine fok (X:=⟨tt,[(6,HF),(7,Ch),(9,As),(8,HY),(10,Al),(11,Fk),(13,BM),(12,Hc),(14,Dj)],[],108,[]⟩) mixed AN (CTok.cons YH (CTok.cons YG (CTok.cons EW (CTok.cons YQ (CTok.cons H8 (CTok.cons Vy (CTok.cons KO (CTok.cons Yd (CTok.cons Qz (CTok.nil _)))))))))) Tryz.func3 (λ (i:(List UInt8))=>let Z1:=DV i (BE i);[(16,.mk 8 (Nat) (λ x7=>{ tm:=[(0,tX 1),(3,tP 2 0),(4,tI (fH i)),(5,tP 6 0),(6,tX 7),(76,tX 4),(77,tI (nI ((fS i).obst.length))),(78,tI (nI x7)),(7,tB (noT i x7))],en:=[(2,.box [kI 0,kI 0,kI (Z1.high.1),kI (Z1.high.2),.ext 3,.ext 4,.ext 5]),(6,.box [kI ((fV i).1),kI ((fV i).2)]),(1,.ro (.bytes i) []),(3,.own 24 [.int,.int] (AA Z1.robot)),(4,.own 25 [.sl 24 [.int,.int]] (AI Z1.obst)),(5,.own 24 [.int,.int] (AA Z1.tables)),(7,.own 24 [.int,.int] (AA (fR i)))] }) (λ x7=>x7<=(fS i).obst.length) (λ x7=>(fS i).obst.length-x7) (λ _=>[])),(11,.mk 8 (Nat) (λ x1=>{ tm:=[(0,tX 1),(3,tP 2 0),(4,tI (fH i)),(5,tP 6 0),(6,tX 7),(35,tX 7),(36,tI (nI ((fR i).length))),(37,tI (nI x1)),(7,tB (inA i x1))],en:=[(2,.box [kI 0,kI 0,kI (Z1.high.1),kI (Z1.high.2),.ext 3,.ext 4,.ext 5]),(6,.box [kI ((fV i).1),kI ((fV i).2)]),(1,.ro (.bytes i) []),(3,.own 24 [.int,.int] (AA Z1.robot)),(4,.own 25 [.sl 24 [.int,.int]] (AI Z1.obst)),(5,.own 24 [.int,.int] (AA Z1.tables)),(7,.own 24 [.int,.int] (AA (fR i)))] }) (λ x1=>x1<=(fR i).length) (λ x1=>(fR i).length-x1) (λ _=>[]))]) ?_
 intro (b:List UInt8) hpre
 have hpre:True:=hpre
 refine AM (q:=let Z24:=List UInt8;let Z16:=DC.ro (.bytes b);let Z15:=vI (fH b);let Z14:=nI ((fS b).obst.length);let Z13:=vI ((fV b).2);let Z12:=vI ((fV b).1);let Z8:=nI ((fR b).length);let Z4:=AA (fR b);let Z2:=(.bytes b:RO)=.bytes b;let Z1:=DV b (BE b);let Z23:=Z1.high.1;let Z22:=Z1.high.2;let Z11:=vI Z22;let Z10:=vI Z23;let Z7:=AA Z1.robot;let Z6:=AA Z1.tables;let Z3:=AI Z1.obst;ifB ((decide ((nI b.length)>(1048576:Int)))) ((vB true=vB true)) (∃ i1:Z24,let Z5:=DV i1 (BE i1);[DA.one Z16]=HF.args i1/\HF.pre i1/\(∃ i2:Z24×Nat,let Z20:=Int.tmod (F0 i2.1 i2.2) (4:Int);[DA.one Z16,DA.one (cI (1:Int))]=Ch.args i2/\Ch.pre i2/\(((4:Int)≠0)/\(∃ i3:Z24×Nat,let Z18:=Int.tmod (F0 i3.1 i3.2) (26:Int);[DA.one Z16,DA.one (cI (2:Int))]=Ch.args i3/\Ch.pre i3/\(((26:Int)≠0)/\(∃ i4:Z24×Nat,let Z19:=Int.tmod (F0 i4.1 i4.2) (22:Int);[DA.one Z16,DA.one (cI (3:Int))]=Ch.args i4/\Ch.pre i4/\(((22:Int)≠0)/\(∃ i5:Scn×Int,[DA.agg [cI 0,cI 0,cI (Z5.high.1),cI (Z5.high.2),DC.sl 24 [.int,.int] (AA Z5.robot),DC.sl 25 [.sl 24 [.int,.int]] (AI Z5.obst),DC.sl 24 [.int,.int] (AA Z5.tables)],DA.one (cI Z20)]=As.args i5/\As.pre i5/\(∃ i6:(List V2)×Int×Int,let Z17:=EF i6.1 i6.2.1 i6.2.2;[DA.one (DC.sl 24 [.int,.int] (AA (AB i5.1 i5.2))),DA.agg [cI Z18,cI Z19]]=HY.args i6/\HY.pre i6/\(∃ i7:(List V2),[DA.one (DC.sl 24 [.int,.int] (AA Z17))]=Al.args i7/\Al.pre i7/\(ifB ((!(AG i7))) ((vB false=vB true)) ((∃ x1:Nat,(x1<=(fR b).length)/\((vI Z20=vI (fH b))/\(vI (nI ((AA Z17).length))=vI Z8)/\(vI (0:Int)=vI (nI x1))/\(vB true=vB (inA b x1))/\(rf (vI 0))/\(rf (vI 0))/\(vI (Z5.high.1)=vI Z23)/\(vI (Z5.high.2)=vI Z22)/\(vI Z18=vI ((fV b).1))/\(vI Z19=vI ((fV b).2))/\Z2/\(AA Z5.robot=Z7)/\(AI Z5.obst=Z3)/\(AA Z5.tables=Z6)/\(AA Z17=Z4)))/\∀ x1:Nat,let Z21:=Z4.getD x1 [];let Z9:=wR ((nI x1)+(1:Int));(x1<=(fR b).length)->(ifB ((decide ((nI x1)<Z8))) ((0<=(nI x1)/\(nI x1)<(Z4.length:Int))/\((x1<Z4.length)/\(ifB ((inA b x1)) (ifB ((decide (((Z21.getD 0 (.int 0))).n>0))) (ifB ((decide (((Z21.getD 0 (.int 0))).n<Z23))) (ifB ((decide (((Z21.getD 1 (.int 0))).n>0))) (∃ y2:Nat,(y2<=(fR b).length)/\((fR b).length-y2<(fR b).length-x1)/\((rf Z15)/\(rf (vI Z8))/\(vI Z9=vI (nI y2))/\(vB (decide (((Z21.getD 1 (.int 0))).n<Z22))=vB (inA b y2))/\(rf (vI 0))/\(rf (vI 0))/\(rf Z10)/\(rf Z11)/\(rf Z12)/\(rf Z13)/\Z2/\(rf Z7)/\(rf Z3)/\(rf Z6)/\(rf Z4))) (∃ y3:Nat,(y3<=(fR b).length)/\((fR b).length-y3<(fR b).length-x1)/\((rf Z15)/\(rf (vI Z8))/\(vI Z9=vI (nI y3))/\(vB false=vB (inA b y3))/\(rf (vI 0))/\(rf (vI 0))/\(rf Z10)/\(rf Z11)/\(rf Z12)/\(rf Z13)/\Z2/\(rf Z7)/\(rf Z3)/\(rf Z6)/\(rf Z4)))) (∃ y4:Nat,(y4<=(fR b).length)/\((fR b).length-y4<(fR b).length-x1)/\((rf Z15)/\(rf (vI Z8))/\(vI Z9=vI (nI y4))/\(vB false=vB (inA b y4))/\(rf (vI 0))/\(rf (vI 0))/\(rf Z10)/\(rf Z11)/\(rf Z12)/\(rf Z13)/\Z2/\(rf Z7)/\(rf Z3)/\(rf Z6)/\(rf Z4)))) (∃ y5:Nat,(y5<=(fR b).length)/\((fR b).length-y5<(fR b).length-x1)/\((rf Z15)/\(rf (vI Z8))/\(vI Z9=vI (nI y5))/\(vB false=vB (inA b y5))/\(rf (vI 0))/\(rf (vI 0))/\(rf Z10)/\(rf Z11)/\(rf Z12)/\(rf Z13)/\Z2/\(rf Z7)/\(rf Z3)/\(rf Z6)/\(rf Z4)))) (∃ y6:Nat,(y6<=(fR b).length)/\((fR b).length-y6<(fR b).length-x1)/\((rf Z15)/\(rf (vI Z8))/\(vI Z9=vI (nI y6))/\(vB false=vB (inA b y6))/\(rf (vI 0))/\(rf (vI 0))/\(rf Z10)/\(rf Z11)/\(rf Z12)/\(rf Z13)/\Z2/\(rf Z7)/\(rf Z3)/\(rf Z6)/\(rf Z4)))))) ((∃ x7:Nat,(x7<=(fS b).obst.length)/\((rf Z15)/\(vI (nI (Z3.length))=vI Z14)/\(vI (0:Int)=vI (nI x7))/\(vB (inA b x1)=vB (noT b x7))/\(rf (vI 0))/\(rf (vI 0))/\(rf Z10)/\(rf Z11)/\(rf Z12)/\(rf Z13)/\Z2/\(rf Z7)/\(rf Z3)/\(rf Z6)/\(rf Z4)))/\∀ x7:Nat,let Z27:=wR ((nI x7)+(1:Int));(x7<=(fS b).obst.length)->(ifB ((decide ((nI x7)<Z14))) ((0<=(nI x7)/\(nI x7)<(Z3.length:Int))/\((x7<Z3.length)/\(ifB ((noT b x7)) (∃ i8:(List V2)×(List V2),[DA.one (DC.sl 24 [.int,.int] Z4),DA.one (DC.sl 24 [.int,.int] ((((Z3.getD x7 []).getD 0 (.int 0))).r))]=Fk.args i8/\Fk.pre i8/\(∃ y8:Nat,(y8<=(fS b).obst.length)/\((fS b).obst.length-y8<(fS b).obst.length-x7)/\((rf Z15)/\(rf (vI Z14))/\(vI Z27=vI (nI y8))/\(vB (!(Ej i8.1 i8.2))=vB (noT b y8))/\(rf (vI 0))/\(rf (vI 0))/\(rf Z10)/\(rf Z11)/\(rf Z12)/\(rf Z13)/\Z2/\(rf Z7)/\(rf Z3)/\(rf Z6)/\(rf Z4)))) (∃ y9:Nat,(y9<=(fS b).obst.length)/\((fS b).obst.length-y9<(fS b).obst.length-x7)/\((rf Z15)/\(rf (vI Z14))/\(vI Z27=vI (nI y9))/\(vB false=vB (noT b y9))/\(rf (vI 0))/\(rf (vI 0))/\(rf Z10)/\(rf Z11)/\(rf Z12)/\(rf Z13)/\Z2/\(rf Z7)/\(rf Z3)/\(rf Z6)/\(rf Z4)))))) (∃ i9:Int×Int,let Z29:=Fr.ofInt i9.2;let Z28:=Fr.ofInt i9.1;[DA.agg [cI ((fV b).1),cI ((fV b).2)]]=BM.args i9/\BM.pre i9/\(∃ i10:Scn×Int×PtD,[DA.agg [cI 0,cI 0,cI Z23,cI Z22,DC.sl 24 [.int,.int] Z7,DC.sl 25 [.sl 24 [.int,.int]] Z3,DC.sl 24 [.int,.int] Z6],DA.one (cI (fH b)),DA.agg [cB (decide (Z28.z<0)),cS (L Z28.z.natAbs),cS (L Z28.d),cB (decide (Z29.z<0)),cS (L Z29.z.natAbs),cS (L Z29.d)]]=Hc.args i10/\Hc.pre i10/\(ifB (((I4 i10.1 i10.2.1 i10.2.2) == (noT b x7))) (∃ i11:Int×Int,let Z26:=Fr.ofInt i11.2;let Z25:=Fr.ofInt i11.1;[DA.agg [cI ((fV b).1),cI ((fV b).2)]]=BM.args i11/\BM.pre i11/\(∃ i12:Scn×Int×PtD,[DA.agg [cI 0,cI 0,cI Z23,cI Z22,DC.sl 24 [.int,.int] Z7,DC.sl 25 [.sl 24 [.int,.int]] Z3,DC.sl 24 [.int,.int] Z6],DA.one (cI (fH b)),DA.agg [cB (decide (Z25.z<0)),cS (L Z25.z.natAbs),cS (L Z25.d),cB (decide (Z26.z<0)),cS (L Z26.z.natAbs),cS (L Z26.d)]]=Dj.args i12/\Dj.pre i12/\((vB ((nI ((IB i12.1 i12.2.1 i12.2.2).length)) == (nI (Z4.length)))=vB true)))) ((vB false=vB true))))))))))))))))))))) (by kernel_rfl) ?_
 conv=>zeta
 delta ifB vB vI wR nI
 refine ⟨λ c1=>?_,λ c1=>?_⟩
 ·try simp only [nrm] at c1
  exact rfl
 try simp only [nrm] at c1
 have hlen:b.length<=1048576:=by omega
 have rh:=AA7 b
 have rv:=AA8 b
 have hV:=TK b (BE b)
 have Q:FreeLaw (fS b) (fH b) (fV b):=Yf hV.1 rh (by omega)
 have hsz:DY (fS b):=(YT hV.1).1
 have hvl:=AC (fR b)
 have hal:=Aq (fS b).obst
 have hpl:(fR b).length<=16:=(Bl Q.poly).2.1
 have hob:(fS b).obst.length<=3:=hV.2
 refine ⟨b,by
  rfl,by
  exact hlen,?_⟩
 refine ⟨(b,1),by
  rfl,by
  show b.length<=1048576/\1<=100
  exact ⟨hlen,by omega⟩,?_⟩
 refine ao (by first|rfl|omega) λ o9=>?_
 refine ⟨(b,2),by
  rfl,by
  show b.length<=1048576/\2<=100
  exact ⟨hlen,by omega⟩,?_⟩
 refine ao (by first|rfl|omega) λ o13=>?_
 refine ⟨(b,3),by
  rfl,by
  show b.length<=1048576/\3<=100
  exact ⟨hlen,by omega⟩,?_⟩
 refine ao (by first|rfl|omega) λ o17=>?_
 refine ⟨((fS b),(fH b)),by
  rfl,by
  exact trivial,?_⟩
 refine ⟨(AB (fS b) (fH b),(fV b).1,(fV b).2),by
  rfl,by
  show (AB (fS b) (fH b)).length<=1048576/\(AB (fS b) (fH b)).all AD=true
  exact ⟨by have:=Q.vec.2;omega,Q.vec.1⟩,?_⟩
 refine ⟨(fR b),by
  rfl,by
  exact trivial,?_⟩
 refine ⟨λ c27=>?_,λ c27=>?_⟩
 ·try simp only [nrm] at c27
  exact absurd Q.poly (by show ¬ AG (fR b)=true;rw [c27];simp) -- done
 try simp only [nrm] at c27
 refine ⟨⟨0,by
  first|omega|trivial,?_⟩,?_⟩
 ·refine ⟨?_,?_,?_,?_,rfl,rfl,rfl,rfl,?_,?_,?_,rfl,rfl,rfl,?_⟩
  ·show Value.int .i64 (Int.tmod (F0 b 1) (4:Int))=Value.int .i64 (fH b)
   first|rfl|exact AR (by show ((AA (fR b)).length:Int)=_;rw [hvl])
  ·show Value.int .i64 (((AA (EF (AB (fS b) (fH b)) ((fV b).1) ((fV b).2))).length:Nat):Int)=Value.int .i64 (((fR b).length:Nat):Int)
   first|rfl|exact AR (by show ((AA (fR b)).length:Int)=_;rw [hvl])
  ·first|rfl|exact AR (by show ((AA (fR b)).length:Int)=_;rw [hvl])
  ·first|rfl|exact AR (by show ((AA (fR b)).length:Int)=_;rw [hvl])
  ·show Value.int .i64 (Int.tmod (F0 b 2) (26:Int))=Value.int .i64 ((fV b).1)
   first|rfl|exact AR (by show ((AA (fR b)).length:Int)=_;rw [hvl])
  ·show Value.int .i64 (Int.tmod (F0 b 3) (22:Int))=Value.int .i64 ((fV b).2)
   first|rfl|exact AR (by show ((AA (fR b)).length:Int)=_;rw [hvl])
  ·first|rfl|exact AR (by show ((AA (fR b)).length:Int)=_;rw [hvl])
  show AA (EF (AB (fS b) (fH b)) ((fV b).1) ((fV b).2))=(AA (fR b))
  first|rfl|exact AR (by show ((AA (fR b)).length:Int)=_;rw [hvl])
 intro (k:Nat) hki29
 have hki29:k<=(fR b).length:=hki29
 refine ⟨λ c46=>?_,λ c46=>?_⟩
 ·try simp only [nrm] at c46
  have hkl:k<(fR b).length:=by omega
  refine ao (by first|rfl|omega) λ o47=>?_
  refine ao (by first|rfl|omega) λ o48=>?_
  refine And.symm ⟨λ c49=>?_,λ c49=>?_⟩
  ·try simp only [nrm] at c49
   refine ⟨k+1,by
    first|omega|trivial,by
    first|omega|(simp;omega),?_⟩
   refine ⟨rfl,rfl,?_,?_,rfl,rfl,rfl,rfl,rfl,rfl,?_,rfl,rfl,rfl,rfl⟩
   ·first|rfl|exact AR (AE (by omega) (by omega))
   ·exact congrArg Value.bool (by rw [Me hkl,c49];rfl)
   first|rfl|exact AR (AE (by omega) (by omega))
  try simp only [nrm] at c49
  refine And.symm ⟨λ c50=>?_,λ c50=>?_⟩
  ·try simp only [nrm] at c50
   refine ⟨k+1,by
    first|omega|trivial,by
    first|omega|(simp;omega),?_⟩
   refine ⟨rfl,rfl,?_,?_,rfl,rfl,rfl,rfl,rfl,rfl,?_,rfl,rfl,rfl,rfl⟩
   ·first|rfl|exact AR (AE (by omega) (by omega))
   ·exact congrArg Value.bool (Bool.eq_iff_iff.2 (by rw [Me hkl,c49];simp only [Bool.true_and,Bool.and_eq_true,decide_eq_true_eq,Bool.false_eq_true];exact ⟨λ h=>by first|cases h;done|omega,λ h=>by omega⟩))
   first|rfl|exact AR (AE (by omega) (by omega))
  try simp only [nrm] at c50
  refine And.symm ⟨λ c51=>?_,λ c51=>?_⟩
  ·try simp only [nrm] at c51
   refine ⟨k+1,by
    first|omega|trivial,by
    first|omega|(simp;omega),?_⟩
   refine ⟨rfl,rfl,?_,?_,rfl,rfl,rfl,rfl,rfl,rfl,?_,rfl,rfl,rfl,rfl⟩
   ·first|rfl|exact AR (AE (by omega) (by omega))
   ·exact congrArg Value.bool (Bool.eq_iff_iff.2 (by rw [Me hkl,c49];simp only [Bool.true_and,Bool.and_eq_true,decide_eq_true_eq,Bool.false_eq_true];exact ⟨λ h=>by first|cases h;done|omega,λ h=>by omega⟩))
   first|rfl|exact AR (AE (by omega) (by omega))
  try simp only [nrm] at c51
  refine ⟨λ c52=>?_,λ c52=>?_⟩
  ·try simp only [nrm] at c52
   refine ⟨k+1,by
    first|omega|trivial,by
    first|omega|(simp;omega),?_⟩
   refine ⟨rfl,rfl,?_,?_,rfl,rfl,rfl,rfl,rfl,rfl,?_,rfl,rfl,rfl,rfl⟩
   ·first|rfl|exact AR (AE (by omega) (by omega))
   ·exact congrArg Value.bool (Bool.eq_iff_iff.2 (by rw [Me hkl,c49];simp only [Bool.true_and,Bool.and_eq_true,decide_eq_true_eq,Bool.false_eq_true];exact ⟨λ h=>by first|cases h;done|omega,λ h=>by omega⟩))
   first|rfl|exact AR (AE (by omega) (by omega))
  try simp only [nrm] at c52
  refine ⟨k+1,by
   first|omega|trivial,by
   first|omega|(simp;omega),?_⟩
  refine ⟨rfl,rfl,?_,?_,rfl,rfl,rfl,rfl,rfl,rfl,?_,rfl,rfl,rfl,rfl⟩
  ·first|rfl|exact AR (AE (by omega) (by omega))
  ·exact congrArg Value.bool (Bool.eq_iff_iff.2 (by rw [Me hkl,c49];simp only [Bool.true_and,Bool.and_eq_true,decide_eq_true_eq,Bool.false_eq_true];exact ⟨λ h=>by first|cases h;done|omega,λ h=>by omega⟩))
  first|rfl|exact AR (AE (by omega) (by omega))
 try simp only [nrm] at c46
 refine ⟨⟨0,by
  first|omega|trivial,?_⟩,?_⟩
 ·refine ⟨rfl,?_,?_,?_,rfl,rfl,rfl,rfl,rfl,rfl,?_,rfl,rfl,rfl,rfl⟩
  ·first|rfl|exact AR (by show ((AI (fS b).obst).length:Int)=_;rw [hal])
  ·first|rfl|exact AR (by show ((AI (fS b).obst).length:Int)=_;rw [hal])
  ·exact congrArg Value.bool (by rw [show k=(fR b).length by omega];unfold noT;simp)
  first|rfl|exact AR (by show ((AI (fS b).obst).length:Int)=_;rw [hal])
 intro (k:Nat) hki143
 have hki143:k<=(fS b).obst.length:=hki143
 refine And.symm ⟨λ c160=>?_,λ c160=>?_⟩
 ·try simp only [nrm] at c160
  refine ⟨(((fV b).1),((fV b).2)),by
   rfl,by
   show (-9223372036854775808<=((fV b).1)/\((fV b).1)<=9223372036854775807)/\-9223372036854775808<=((fV b).2)/\((fV b).2)<=9223372036854775807
   have:=rv;simp only [fV] at this;omega,?_⟩
  refine ⟨((fS b),(fH b),(ptQ (ptV (fV b)))),by
   rfl,by
   show DY (fS b)/\(ptQ (ptV (fV b))).has
   exact ⟨hsz,UR _⟩,?_⟩
  refine And.symm ⟨λ c209=>?_,λ c209=>?_⟩
  ·try simp only [nrm] at c209
   have e:k=(fS b).obst.length:=by omega
   exact absurd (Q.free.trans (Zv b).symm) (by rw [← e];exact c209) -- done
  try simp only [nrm] at c209
  refine ⟨(((fV b).1),((fV b).2)),by
   rfl,by
   show (-9223372036854775808<=((fV b).1)/\((fV b).1)<=9223372036854775807)/\-9223372036854775808<=((fV b).2)/\((fV b).2)<=9223372036854775807
   have:=rv;simp only [fV] at this;omega,?_⟩
  refine ⟨((fS b),(fH b),(ptQ (ptV (fV b)))),by
   rfl,by
   show (ptQ (ptV (fV b))).has
   exact UR _,?_⟩
  show Value.bool ((((IB (fS b) (fH b) (ptQ (ptV (fV b)))).length:Nat):Int) == (((AA (fR b)).length:Nat):Int))=Value.bool true
  exact congrArg Value.bool (beq_iff_eq.2 (show ((IB (fS b) (fH b) (ptQ (ptV (fV b)))).length:Int)=((AA (fR b)).length:Int) by rw [Q.cor,hvl];rfl))
 try simp only [nrm] at c160
 have hal2:(AI (DV b (BE b)).obst).length=(fS b).obst.length:=hal
 have hko:k<(fS b).obst.length:=by omega
 have ha:((((AI (DV b (BE b)).obst).getD k []).getD 0 (.int 0))).r=AA ((fS b).obst.getD k []):=Jn hko
 refine ao (by first|rfl|omega) λ o161=>?_
 refine ao (by first|rfl|omega) λ o162=>?_
 refine And.symm ⟨λ c163=>?_,λ c163=>?_⟩
 ·try simp only [nrm] at c163
  refine ⟨k+1,by
   first|omega|trivial,by
   first|omega|(simp;omega),?_⟩
  refine ⟨rfl,rfl,?_,?_,rfl,rfl,rfl,rfl,rfl,rfl,?_,rfl,rfl,rfl,rfl⟩
  ·first|rfl|exact AR (AE (by omega) (by omega))
  ·exact congrArg Value.bool (by rw [Rj hko];simp_all)
  first|rfl|exact AR (AE (by omega) (by omega))
 try simp only [nrm] at c163
 refine ⟨((fR b),(fS b).obst.getD k []),by
  rw [ha];rfl,by
  exact trivial,?_⟩
 refine ⟨k+1,by
  first|omega|trivial,by
  first|omega|(simp;omega),?_⟩
 refine ⟨rfl,rfl,?_,?_,rfl,rfl,rfl,rfl,rfl,rfl,?_,rfl,rfl,rfl,rfl⟩
 ·first|rfl|exact AR (AE (by omega) (by omega))
 ·show Value.bool (!(Ej (fR b) ((fS b).obst.getD k [])))=Value.bool (noT b (k+1))
  exact congrArg Value.bool (by rw [Rj hko];simp_all)
 first|rfl|exact AR (AE (by omega) (by omega))
end Go.Proofs.YtkffpiaagjcmpaaGreat
