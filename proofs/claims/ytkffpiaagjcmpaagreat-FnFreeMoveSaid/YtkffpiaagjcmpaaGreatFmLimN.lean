import Derived.Test.YtkffpiaagjcmpaaGreatFmRkHu
import Derived.Test.YtkffpiaagjcmpaaGreatFmCon
import Derived.Test.YtkffpiaagjcmpaaGreatFmHus
import Derived.Test.YtkffpiaagjcmpaaGreatFmDrp
import Derived.Test.YtkffpiaagjcmpaaGreatFmHuv
import Derived.Test.YtkffpiaagjcmpaaGreatFmExE
import Derived.Test.YtkffpiaagjcmpaaGreatFmRkG
import Derived.Test.YtkffpiaagjcmpaaGreatFmScW
import Derived.RegionTactic
import Derived.BigRegion
import Derived.Outline
import Derived.WalkSpells
namespace Go.Proofs.YtkffpiaagjcmpaaGreat
set_option maxRecDepth 100000
set_option linter.unusedVariables false
set_option linter.unusedSimpArgs false
open Go.RowKit
theorem IB {l:List V2} (h:AJ l=true):3<=l.length/\l.length<=16/\l.all AF=true:=by
 simp only [AJ,Bool.and_eq_true,BO] at h
 exact ⟨by omega,by omega,h.1.2⟩
def Et (a b:List V2):Nat->List V2
 | 0=>[]
 | k+1=>Et a b k++Cn b (a.getD k (0,0)).1 (a.getD k (0,0)).2
theorem FS (a b:List V2):∀ k,(Et a b k).length=k*b.length
 | 0=>by simp [Et]
 | k+1=>by simp only [Et,List.length_append,FS a b k,Du,Nat.add_mul,Nat.one_mul]
def Hf (a b:List V2):List V2:=Bw (Et a b a.length)
def LQ (a b:List V2):List V2:=if AJ a=true/\AJ b=true/\a.length*b.length<=64/\AJ (Hf a b)=true then Hf a b else []
theorem Qs {a b:List V2} (h:AJ a=false∨AJ b=false∨64<a.length*b.length∨AJ (Hf a b)=false):LQ a b=[]:=by
 unfold LQ
 rw [if_neg]
 rintro ⟨h1,h2,h3,h4⟩
 rcases h with h|h|h|h
 ·rw [h] at h1;cases h1
 ·rw [h] at h2;cases h2
 ·omega
 ·rw [h] at h4;cases h4
theorem V7 {a b:List V2} (h1:AJ a=true) (h2:AJ b=true) (h3:a.length*b.length<=64) (h4:AJ (Hf a b)=true):LQ a b=Hf a b:=by unfold LQ;rw [if_pos ⟨h1,h2,h3,h4⟩]
theorem ABe {m n:Nat} (h1:m<=16) (h2:n<=16):m*n<=256/\IntKind.i64.wrap (((m:Nat):Int)*((n:Nat):Int))=((m*n:Nat):Int):=by
 have h:m*n<=16*16:=Nat.mul_le_mul h1 h2
 refine ⟨by omega,?_⟩
 rw [← Int.natCast_mul,AB (by omega) (by omega)]
theorem ABf {k m n:Nat} (h1:k<=m) (h2:m*n<=256):k*n<=256:=Nat.le_trans (Nat.mul_le_mul_right n h1) h2
theorem XX {k m n j:Nat} (h1:k<m) (h2:m*n<=256) (h3:j<=n):k*n+j<=256:=by
 have:=Nat.mul_le_mul_right n (show k+1<=m from h1)
 rw [Nat.add_mul,Nat.one_mul] at this
 omega
def Hg (l:List V2):List V2:=l.map λ p=>(-p.1,-p.2)
def KD (l:List V2):List V2:=if l.all AF=true then Hg l else []
theorem Eb (l:List V2):(Hg l).length=l.length:=by simp [Hg]
theorem V8 {l:List V2} (h:l.all AF=true):KD l=Hg l:=by unfold KD;rw [if_pos h]
theorem ACs {l:List V2} (h:l.all AF=false):KD l=[]:=by unfold KD;rw [if_neg (by rw [h];simp)]
theorem Zy {l:List V2} {k:Nat} (hk:k<l.length) (hv:AF (l.getD k (0,0))=true):AA (Hg (l.take k))++[[.int (IntKind.i64.wrap (0-(l.getD k (0,0)).1)),.int (IntKind.i64.wrap (0-(l.getD k (0,0)).2))]]=AA (Hg (l.take (k+1))):=by
 have b:=CJ hv
 have e:l.take (k+1)=l.take k++[l.getD k (0,0)]:=by
  rw [List.take_add_one];simp [List.getD,hk]
 rw [AB (by omega) (by omega),AB (by omega) (by omega),e]
 simp [Hg,AA,Iu,Int.zero_sub]
theorem Zz (l:List V2):(KD l).length<=l.length:=by unfold KD;split;rw [Eb];exact Nat.le_refl _;simp
def OY (r o:List V2):List V2:=LQ o (KD r)
def Ip:Con:={ ι:=(List V2)×Int×Int,pre:=λ i=>i.1.length<=1048576,args:=λ i=>[.one (DC.sl 24 [.int,.int] (AA i.1)),DA.agg [cI i.2.1,cI i.2.2]],res:=λ i=>⟨false,[none],[.own 24 [.int,.int] (AA (Cn i.1 i.2.1 i.2.2))]⟩ }
theorem Z0:Ip.Ok Tryz.prog 34:=by
 refine fok (X:=⟨tt,[],[],31,[]⟩) mixed AI (CTok.nil _) Tryz.func34 (λ (i:(List V2)×Int×Int)=>[(3,.mk 4 (Nat) (λ x1=>{ tm:=[(3,tP 1 0),(9,tX 2),(10,tI (nI ((AA i.1).length))),(11,tI (x1:Int)),(5,tX 3)],en:=[(1,.box [kI i.2.1,kI i.2.2]),(2,.view 24 [.int,.int] (AA i.1) []),(3,.own 24 [.int,.int] (AA (Cn (i.1.take x1) i.2.1 i.2.2)))] }) (λ x1=>x1<=i.1.length) (λ x1=>i.1.length-x1) (λ _=>[]))]) ?_
 rintro ⟨l,dx,dy⟩ hpre
 have hpre:l.length<=1048576:=hpre
 refine AH (q:=let Z3:=nI ((AA l).length);(∃ x1:Nat,(x1<=l.length)/\((rf (vI Z3))/\(vI (0:Int)=vI (x1:Int))/\(rf (vI dx))/\(rf (vI dy))/\(rf (AA l))/\(([]:List (List Dat))=(AA (Cn (l.take x1) dx dy)))))/\∀ x1:Nat,let Z2:=(AA l).getD x1 [];let Z5:=wR (((Z2.getD 1 (.int 0))).n+dy);let Z4:=wR (((Z2.getD 0 (.int 0))).n+dx);let Z1:=AA (Cn (l.take x1) dx dy);(x1<=l.length)->(ifB ((decide ((x1:Int)<Z3))) ((0<=(x1:Int)/\(x1:Int)<((AA l).length:Int))/\((x1<(AA l).length)/\((Z1.length+([[Dat.int Z4,Dat.int Z5]]:List (List Dat)).length<=2199023255552)/\(∃ y2:Nat,(y2<=l.length)/\(l.length-y2<l.length-x1)/\((rf (vI Z3))/\(vI (wR ((x1:Int)+(1:Int)))=vI (y2:Int))/\(rf (vI dx))/\(rf (vI dy))/\(rf (AA l))/\((Z1++([[Dat.int Z4,Dat.int Z5]]:List (List Dat)))=(AA (Cn (l.take y2) dx dy)))))))) ((Z1=AA (Cn l dx dy))))) (by kernel_rfl) ?_
 conv=>zeta
 delta ifB vI wR nI
 have hvl:=AC l
 refine ⟨⟨0,by
  omega,?_⟩,?_⟩
 ·refine ⟨rfl,rfl,rfl,rfl,rfl,?_⟩
  rfl
 intro (k:Nat) hki1
 have hki1:k<=l.length:=hki1
 have hml:(AA (Cn (l.take k) dx dy)).length=k:=by rw [AC,Du,List.length_take];omega
 refine And.symm ⟨λ c9=>?_,λ c9=>?_⟩
 ·try simp only [nrm] at c9
  rw [show k=l.length by omega,List.take_length]
 try simp only [nrm] at c9
 refine ao (by omega) λ o10=>?_
 refine ao (by omega) λ o11=>?_
 refine ao (by simp only [AC,Du,Eb,FS,List.length_append,List.length_take,List.length_cons,List.length_nil];omega) λ o12=>?_
 refine ⟨k+1,by
  omega,by
  omega,?_⟩
 refine ⟨rfl,?_,rfl,rfl,rfl,?_⟩
 ·exact Aa (AB (by omega) (by omega))
 exact LB (by omega)
def KE:Con:={ ι:=(List V2)×(List V2),pre:=λ i=>i.1.length<=1048576/\i.2.length<=1048576,args:=λ i=>[.one (DC.sl 24 [.int,.int] (AA i.1)),.one (DC.sl 24 [.int,.int] (AA i.2))],res:=λ i=>⟨false,[none],[.own 24 [.int,.int] (AA (LQ i.1 i.2))]⟩ }
theorem ABg:KE.Ok Tryz.prog 104:=by
 refine fok (X:=⟨tt,[(10,CX),(34,Ip),(147,Ik)],[],44,[]⟩) mixed AI (CTok.cons UZ (CTok.cons Z0 (CTok.cons Zr (CTok.nil _)))) Tryz.func104 (λ (i:(List V2)×(List V2))=>[(5,.mk 4 (Nat) (λ x1=>{ tm:=[(1,tX 1),(26,tX 2),(27,tI (nI ((AA i.1).length))),(28,tI (nI x1)),(5,tX 3)],en:=[(1,.view 24 [.int,.int] (AA i.2) []),(2,.view 24 [.int,.int] (AA i.1) []),(3,.own 24 [.int,.int] (AA (Et i.1 i.2 x1)))] }) (λ x1=>x1<=i.1.length) (λ x1=>i.1.length-x1) (λ _=>[]))]) ?_
 rintro ⟨a,b⟩ hpre
 have hpre:a.length<=1048576/\b.length<=1048576:=hpre
 refine AH (q:=let Z4:=DC.sl 24 [.int,.int] (AA b);let Z2:=nI ((AA a).length);let Z1:=(([]:List (List Dat))=AA (LQ a b));∃ i1:(List V2),[DA.one (DC.sl 24 [.int,.int] (AA a))]=CX.args i1/\CX.pre i1/\(ifB ((!(!(AJ i1)))) (∃ i2:(List V2),[DA.one Z4]=CX.args i2/\CX.pre i2/\(ifB ((!(!(AJ i2)))) (ifB ((decide ((wR (Z2*(nI ((AA b).length))))>(64:Int)))) Z1 ((∃ x1:Nat,(x1<=a.length)/\((rf (vI Z2))/\(vI (0:Int)=vI (nI x1))/\(rf (AA b))/\(rf (AA a))/\(([]:List (List Dat))=(AA (Et a b x1)))))/\∀ x1:Nat,let Z3:=AA (Et a b x1);(x1<=a.length)->(ifB ((decide ((nI x1)<Z2))) ((0<=(nI x1)/\(nI x1)<((AA a).length:Int))/\((x1<(AA a).length)/\(∃ i3:(List V2)×Int×Int,let Z5:=Cn i3.1 i3.2.1 i3.2.2;[DA.one Z4,DA.agg [cI (((((AA a).getD x1 []).getD 0 (.int 0))).n),cI (((((AA a).getD x1 []).getD 1 (.int 0))).n)]]=Ip.args i3/\Ip.pre i3/\((Z3.length+(AA Z5).length<=2199023255552)/\(∃ y2:Nat,(y2<=a.length)/\(a.length-y2<a.length-x1)/\((rf (vI Z2))/\(vI (wR ((nI x1)+(1:Int)))=vI (nI y2))/\(rf (AA b))/\(rf (AA a))/\((Z3++AA Z5)=(AA (Et a b y2))))))))) (∃ i4:(List V2),[DA.one (DC.sl 24 [.int,.int] Z3)]=Ik.args i4/\Ik.pre i4/\(∃ i5:(List V2),[DA.one (DC.sl 24 [.int,.int] (AA (Bw i4)))]=CX.args i5/\CX.pre i5/\(ifB ((!(AJ i5))) Z1 ((AA (Bw i4)=AA (LQ a b))))))))) Z1)) Z1)) (by kernel_rfl) ?_
 conv=>zeta
 delta ifB vI wR nI
 have ha:=AC a
 have hb:=AC b
 refine ⟨a,by
  rfl,by
  trivial,?_⟩
 refine And.symm ⟨λ c4=>?_,λ c4=>?_⟩
 ·try simp only [nrm] at c4
  have hE:LQ a b=[]:=Qs (b:=b) (.inl c4)
  rw [hE];rfl
 try simp only [nrm] at c4
 refine ⟨b,by
  rfl,by
  trivial,?_⟩
 refine And.symm ⟨λ c8=>?_,λ c8=>?_⟩
 ·try simp only [nrm] at c8
  have hE:LQ a b=[]:=Qs (.inr (.inl c8))
  rw [hE];rfl
 try simp only [nrm] at c8
 have pa:=IB c4
 have pb:=IB c8
 have hm:=ABe pa.2.1 pb.2.1
 refine ⟨λ c9=>?_,λ c9=>?_⟩
 ·try simp only [nrm] at c9
  rw [ha,hb,hm.2] at c9
  have hE:LQ a b=[]:=Qs (.inr (.inr (.inl (by omega))))
  rw [hE];rfl
 try simp only [nrm] at c9
 rw [ha,hb,hm.2] at c9
 have h64:a.length*b.length<=64:=by omega
 refine ⟨⟨0,by
  omega,?_⟩,?_⟩
 ·refine ⟨rfl,?_,rfl,rfl,?_⟩
  ·rfl
  rfl
 intro (k:Nat) hki11
 have hki11:k<=a.length:=hki11
 refine ⟨λ c18=>?_,λ c18=>?_⟩
 ·try simp only [nrm] at c18
  have hka:k<a.length:=by omega
  have hsl:=FS a b k
  have hks:=XX hka hm.1 (Nat.le_refl _)
  refine ao (by omega) λ o19=>?_
  refine ao (by omega) λ o20=>?_
  refine ⟨(b,(a.getD k (0,0)).1,(a.getD k (0,0)).2),by
   rw [BD hka,BE hka];rfl,by
   exact hpre.2,?_⟩
  refine ao (a:=(AA (Et a b k)).length+(AA (Cn b ((a.getD k (0,0)).1) ((a.getD k (0,0)).2))).length<=2199023255552) (by simp only [AC,Du,Eb,FS,List.length_append,List.length_take,List.length_cons,List.length_nil];omega) λ o24=>?_
  refine ⟨k+1,by
   trivial,by
   omega,?_⟩
  refine ⟨rfl,?_,rfl,rfl,?_⟩
  ·exact Aa (AB (by omega) (by omega))
  rw [← If];rfl
 try simp only [nrm] at c18
 have hk:a.length=k:=by omega
 have hS:Bw (Et a b k)=Hf a b:=by unfold Hf;rw [hk]
 refine ⟨(Et a b k),by
  rfl,by
  show (Et a b k).length<=1048576
  rw [FS];have:=ABf (show k<=a.length by omega) hm.1;omega,?_⟩
 refine ⟨(Bw (Et a b k)),by
  rfl,by
  trivial,?_⟩
 refine ⟨λ c39=>?_,λ c39=>?_⟩
 ·try simp only [nrm] at c39
  rw [hS] at c39
  have hE:LQ a b=[]:=Qs (.inr (.inr (.inr c39)))
  rw [hE];rfl
 try simp only [nrm] at c39
 rw [hS] at c39
 have hE:=V7 c4 c8 h64 c39
 rw [hS,hE]
def KF:Con:={ ι:=(List V2),pre:=λ i=>i.length<=1048576,args:=λ i=>[.one (DC.sl 24 [.int,.int] (AA i))],res:=λ i=>⟨false,[none],[.own 24 [.int,.int] (AA (KD i))]⟩ }
theorem ABh:KF.Ok Tryz.prog 105:=by
 refine fok (X:=⟨tt,[(36,Bq)],[],28,[]⟩) mixed AI (CTok.cons JM (CTok.nil _)) Tryz.func105 (λ (i:(List V2))=>[(5,.mk 3 (Nat) (λ x1=>{ tm:=[(10,tX 1),(11,tI (nI ((AA i).length))),(12,tI (nI x1)),(3,tX 2)],en:=[(1,.view 24 [.int,.int] (AA i) []),(2,.own 24 [.int,.int] (AA (Hg (i.take x1))))] }) (λ x1=>x1<=i.length) (λ x1=>i.length-x1) (λ _=>[]))]) ?_
 intro (l:List V2) hpre
 have hpre:l.length<=1048576:=hpre
 refine AH (q:=let Z3:=nI ((AA l).length);∃ i1:(List V2),[DA.one (DC.sl 24 [.int,.int] (AA l))]=Bq.args i1/\Bq.pre i1/\(ifB ((!(i1.all AF))) ((([]:List (List Dat))=AA (KD l))) ((∃ x1:Nat,(x1<=l.length)/\((rf (vI Z3))/\(vI (0:Int)=vI (nI x1))/\(rf (AA l))/\(([]:List (List Dat))=(AA (Hg (l.take x1))))))/\∀ x1:Nat,let Z2:=AA (Hg (l.take x1));let Z1:=(AA l).getD x1 [];let Z5:=wR (0-((Z1.getD 1 (.int 0))).n);let Z4:=wR (0-((Z1.getD 0 (.int 0))).n);(x1<=l.length)->(ifB ((decide ((nI x1)<Z3))) ((0<=(nI x1)/\(nI x1)<((AA l).length:Int))/\((x1<(AA l).length)/\((Z2.length+([[Dat.int Z4,Dat.int Z5]]:List (List Dat)).length<=2199023255552)/\(∃ y2:Nat,(y2<=l.length)/\(l.length-y2<l.length-x1)/\((rf (vI Z3))/\(vI (wR ((nI x1)+(1:Int)))=vI (nI y2))/\(rf (AA l))/\((Z2++([[Dat.int Z4,Dat.int Z5]]:List (List Dat)))=(AA (Hg (l.take y2))))))))) ((Z2=AA (KD l))))))) (by kernel_rfl) ?_
 conv=>zeta
 delta ifB vI wR nI
 have hvl:=AC l
 refine ⟨l,by
  rfl,by
  trivial,?_⟩
 refine ⟨λ c4=>?_,λ c4=>?_⟩
 ·try simp only [nrm] at c4
  have hE:=ACs c4
  rw [hE];rfl
 try simp only [nrm] at c4
 have hE:=V8 c4
 refine ⟨⟨0,by
  omega,?_⟩,?_⟩
 ·refine ⟨rfl,?_,rfl,?_⟩
  ·rfl
  rfl
 intro (k:Nat) hki6
 have hki6:k<=l.length:=hki6
 refine And.symm ⟨λ c12=>?_,λ c12=>?_⟩
 ·try simp only [nrm] at c12
  rw [hE,show k=l.length by omega,List.take_length]
 try simp only [nrm] at c12
 have hkl:k<l.length:=by omega
 have hV:=A3 c4 hkl
 refine ao (by omega) λ o13=>?_
 refine ao (by omega) λ o14=>?_
 refine ao (by simp only [AC,Du,Eb,FS,List.length_append,List.length_take,List.length_cons,List.length_nil];omega) λ o15=>?_
 refine ⟨k+1,by
  trivial,by
  omega,?_⟩
 refine ⟨rfl,?_,rfl,?_⟩
 ·exact Aa (AB (by omega) (by omega))
 rw [BD hkl,BE hkl];exact Zy hkl hV
def KG:Con:={ ι:=(List V2)×(List V2),pre:=λ i=>i.1.length<=1048576/\i.2.length<=1048576,args:=λ i=>[.one (DC.sl 24 [.int,.int] (AA i.1)),.one (DC.sl 24 [.int,.int] (AA i.2))],res:=λ i=>⟨false,[none],[.own 24 [.int,.int] (AA (OY i.1 i.2))]⟩ }
theorem ABi:KG.Ok Tryz.prog 56:=by
 refine fok (X:=⟨tt,[(105,KF),(104,KE)],[],9,[]⟩) mixed AI (CTok.cons ABh (CTok.cons ABg (CTok.nil _))) Tryz.func56 (λ _=>[]) ?_
 rintro ⟨a,b⟩ hpre
 have hpre:a.length<=1048576/\b.length<=1048576:=hpre
 refine AH (q:=∃ i1:(List V2),[DA.one (DC.sl 24 [.int,.int] (AA a))]=KF.args i1/\KF.pre i1/\(∃ i2:(List V2)×(List V2),[DA.one (DC.sl 24 [.int,.int] (AA b)),DA.one (DC.sl 24 [.int,.int] (AA (KD i1)))]=KE.args i2/\KE.pre i2/\((AA (LQ i2.1 i2.2)=AA (OY a b))))) (by kernel_rfl) ?_
 have hn:=Zz a
 refine ⟨a,by
  rfl,by
  exact hpre.1,?_⟩
 refine ⟨(b,(KD a)),by
  rfl,by
  show b.length<=1048576/\(KD a).length<=1048576
  exact ⟨hpre.2,by omega⟩,?_⟩
 rfl
end Go.Proofs.YtkffpiaagjcmpaaGreat
namespace Go.Proofs.YtkffpiaagjcmpaaGreat
set_option linter.unusedVariables false
set_option linter.unusedSimpArgs false
def PqS (k:Nat) (p:Pq):Prop:=∃ x y,FrS k p.x x/\FrS k p.y y
theorem PqS.good {k:Nat} {p:Pq} (h:PqS k p):p.good=true:=by
 obtain ⟨x,y,hx,hy⟩:=h
 unfold Pq.good
 rw [hx.good,hy.good];rfl
end Go.Proofs.YtkffpiaagjcmpaaGreat
namespace Go.Proofs.YtkffpiaagjcmpaaGreat
set_option linter.unusedVariables false
set_option linter.unusedSimpArgs false
theorem V9 {a b:Rat} : 0<=EY a b↔b<=a:=by
 unfold EY
 split
 ·exact ⟨λ h=>by omega,λ h=>by grind⟩
 ·split
  ·exact ⟨λ _=>by grind,λ _=>by omega⟩
  ·exact ⟨λ _=>by grind,λ _=>by omega⟩
theorem WA {a b:Rat} : EY a b<=0↔a<=b:=by
 unfold EY
 split
 ·exact ⟨λ h=>by grind,λ h=>by omega⟩
 ·split
  ·exact ⟨λ _=>by grind,λ _=>by omega⟩
  ·exact ⟨λ h=>by omega,λ h=>by grind⟩
theorem KH {a b:Rat} : EY a b=0↔a=b:=by
 unfold EY
 split
 ·exact ⟨λ h=>by omega,λ h=>by grind⟩
 ·split
  ·rename_i h;exact ⟨λ _=>h,λ _=>rfl⟩
  ·rename_i h;exact ⟨λ h'=>by omega,λ h'=>absurd h' h⟩
theorem S5 {a b:Rat} : a*b<0↔(0<a/\b<0)∨(a<0/\0<b):=by
 refine ⟨FM,?_⟩
 rintro (⟨h1,h2⟩|⟨h1,h2⟩)
 ·have:=Rat.mul_pos h1 (show 0 < -b by grind)
  grind
 ·have:=Rat.mul_pos (show 0 < -a by grind) h2
  grind
theorem S6 (a:Rat):(EY a 0=-1/\a<0)∨(EY a 0=0/\a=0)∨(EY a 0=1/\0<a):=by
 unfold EY
 by_cases h1:a<0
 ·rw [if_pos h1];exact .inl ⟨rfl,h1⟩
 ·rw [if_neg h1]
  by_cases h2:a=0
  ·rw [if_pos h2];exact .inr (.inl ⟨rfl,h2⟩)
  ·rw [if_neg h2];exact .inr (.inr ⟨rfl,by grind⟩)
theorem S7 {a b:Rat} : EY a 0*EY b 0<0↔a*b<0:=by
 rw [S5]
 rcases S6 a with ⟨e,h⟩|⟨e,h⟩|⟨e,h⟩ <;> rcases S6 b with ⟨e',h'⟩|⟨e',h'⟩|⟨e',h'⟩ <;> rw [e,e'] <;> constructor <;> intro q <;> first|omega|grind
def PqAt (p:Pq) (q:Q2):Prop:=FrS 20 p.x q.1/\FrS 20 p.y q.2
theorem PqAt.good {p:Pq} {q:Q2} (h:PqAt p q):p.good=true:=by
 unfold Pq.good;rw [h.1.good,h.2.good];rfl
def qv (v:V2):Q2:=((v.1:Rat),(v.2:Rat))
theorem WB {v:V2} (h:AF v=true):PqAt (ptV v) (qv v):=⟨(ZZ h).1.mono (by omega),(ZZ h).2.mono (by omega)⟩
theorem KI {p q r:Pq} {a b c:Q2} (hp:PqAt p a) (hq:PqAt q b) (hr:PqAt r c):CE p q r=EY (crR a b c) 0:=by
 have h:=((hq.1.sub hp.1 (by omega)).mul (hr.2.sub hp.2 (by omega)) (by omega)).sub ((hq.2.sub hp.2 (by omega)).mul (hr.1.sub hp.1 (by omega)) (by omega)) (by omega)
 unfold CE
 rw [h.sgn];rfl
theorem AAA {x a b:Fr} {u v w:Rat} (hx:FrS 20 x u) (ha:FrS 20 a v) (hb:FrS 20 b w):N3 x a b=true↔btw u v w:=by
 unfold N3 btw
 rw [Bool.and_eq_true,decide_eq_true_eq,decide_eq_true_eq,hx.cmp (ha.min hb),hx.cmp (ha.max hb),ge_iff_le,V9,WA]
 have e1:Min.min v w=if v<=w then v else w:=rfl
 have e2:Max.max v w=if v<=w then w else v:=rfl
 rw [e1,e2]
 by_cases h:v<=w
 ·rw [if_pos h,if_pos h];grind
 ·rw [if_neg h,if_neg h];grind
theorem Mc {p a b:Pq} {x u v:Q2} (hp:PqAt p x) (ha:PqAt a u) (hb:PqAt b v):CY p a b=true↔L2 x u v:=by
 unfold CY L2
 rw [Bool.and_eq_true,AAA hp.1 ha.1 hb.1,AAA hp.2 ha.2 hb.2]
theorem ABj {p q r t:Pq} {a b c d:Q2} (hp:PqAt p a) (hq:PqAt q b) (hr:PqAt r c) (ht:PqAt t d):At p q r t=true↔∃ x,Be x a b/\Be x c d:=by
 rw [← Zf]
 unfold At Vw
 simp only [Bool.or_eq_true,Bool.and_eq_true,decide_eq_true_eq]
 rw [KI hp hq hr,KI hp hq ht,KI hr ht hp,KI hr ht hq,Mc hr hp hq,Mc ht hp hq,Mc hp hr ht,Mc hq hr ht,S7,S7,KH,KH,KH,KH]
def Qt (l:List V2) (x:Q2):Prop:=∀ i,i<l.length->0<=crR (qv (l.getD i (0,0))) (qv (l.getD ((i+1)%l.length) (0,0))) x
theorem Qu {l:List V2} (hl:l.all AF=true) {p:Pq} {x:Q2} (hp:PqAt p x):Dw l p≥0↔Qt l x:=by
 have hs:∀ i,i<l.length->(0<=CE (Gy l i) (Gy l ((i+1)%l.length)) p↔0<=crR (qv (l.getD i (0,0))) (qv (l.getD ((i+1)%l.length) (0,0))) x):=λ i hi=>by
  unfold Gy
  rw [KI (WB (A3 hl hi)) (WB (A3 hl (Nat.mod_lt _ (by omega)))) hp,ABN]
 constructor
 ·intro h i hi
  exact (hs i hi).1 (SX _ h i hi)
 ·intro h
  exact Vv _ λ i hi=>(hs i hi).2 (h i hi)
theorem Qv (a b c:V2):crR (qv a) (qv b) (qv c)=((AG a b c:Int):Rat):=by
 unfold crR qv AG
 push_cast
 grind
theorem Md {x a b:Q2} (h:Be x a b):Be x b a:=by
 obtain ⟨s,h0,h1,rfl⟩:=h
 refine ⟨1-s,by grind,by grind,?_⟩
 unfold atQ
 ext <;> simp only <;> grind
theorem WC (a b:Q2):Be a a b:=⟨0,by grind,by grind,(Zd a b).symm⟩
theorem KJ {z x a b:Q2} (h:Be z a x) (hx:Be x a b):Be z a b:=by
 obtain ⟨s,h0,h1,rfl⟩:=hx
 obtain ⟨t,t0,t1,rfl⟩:=h
 refine ⟨t*s,GS t0 h0,?_,?_⟩
 ·have:=GS (show 0<=1-t by grind) h0
  grind
 ·unfold atQ
  ext <;> simp only <;> grind
def KL (a b:Q2):Q2:=((a.1+b.1)*(1/2),(a.2+b.2)*(1/2))
theorem Ur (a b:Q2):Be (KL a b) a b:=⟨1/2,by grind,by grind,by unfold atQ KL;ext <;> simp only <;> grind⟩
theorem AAB (a b:Q2):KL a b=KL b a:=by unfold KL;ext <;> simp only <;> grind
theorem Us {x a b:Q2} : Be x a b↔Be x a (KL a b)∨Be x (KL a b) b:=by
 constructor
 ·rintro ⟨s,h0,h1,rfl⟩
  by_cases h:s<=1/2
  ·refine .inl ⟨2*s,by grind,by grind,?_⟩
   unfold atQ KL
   ext <;> simp only <;> grind
  ·refine .inr ⟨2*s-1,by grind,by grind,?_⟩
   unfold atQ KL
   ext <;> simp only <;> grind
 ·rintro (h|h)
  ·exact KJ h (Ur a b)
  ·refine Md (KJ (Md h) ?_)
   rw [AAB];exact Ur b a
theorem AAC {l:List V2} (hl:AJ l=true) {i:Nat} (hi:i<l.length) {z:Q2} (hz:Be z (qv (l.getD i (0,0))) (qv (l.getD ((i+1)%l.length) (0,0)))):Qt l z:=by
 intro j hj
 obtain ⟨s,h0,h1,rfl⟩:=hz
 rw [Pp,Qv,Qv]
 have q1:=Po hl hj hi
 have q2:=Po hl hj (Hb hi)
 have r1:(0:Rat)<=((AG (l.getD j (0,0)) (l.getD ((j+1)%l.length) (0,0)) (l.getD i (0,0)):Int):Rat):=by exact_mod_cast q1
 have r2:(0:Rat)<=((AG (l.getD j (0,0)) (l.getD ((j+1)%l.length) (0,0)) (l.getD ((i+1)%l.length) (0,0)):Int):Rat):=by exact_mod_cast q2
 have k1:=GS (show 0<=1-s by grind) r1
 have k2:=GS h0 r2
 grind
theorem WD {f:Nat->Q2×Q2} {x y:Q2} : ∀ k,(∀ i,i<k->0<=crR (f i).1 (f i).2 x)->∃ z,Be z x y/\(∀ i,i<k->0<=crR (f i).1 (f i).2 z)/\(z=y∨∃ i,i<k/\crR (f i).1 (f i).2 z=0)
 | 0,_=>⟨y,⟨1,by grind,by grind,(Ze x y).symm⟩,λ i hi=>by omega,.inl rfl⟩
 | k+1,h=>by
  obtain ⟨z,z1,z2,z3⟩:=WD (f:=f) (x:=x) (y:=y) k λ i hi=>h i (by omega)
  by_cases c:0<=crR (f k).1 (f k).2 z
  ·refine ⟨z,z1,λ i hi=>?_,z3.imp id λ ⟨i,hi,e⟩=>⟨i,by omega,e⟩⟩
   by_cases e:i=k
   ·rw [e];exact c
   ·exact z2 i (by omega)
  ·obtain ⟨u,hu⟩:∃ u,crR (f k).1 (f k).2 x=u:=⟨_,rfl⟩
   obtain ⟨v,hv⟩:∃ v,crR (f k).1 (f k).2 z=v:=⟨_,rfl⟩
   have u0:0<=u:=by rw [← hu];exact h k (by omega)
   have v0:v<0:=by rw [hv] at c;grind
   have hd:0<u-v:=by grind
   have hne:u-v≠0:=by grind
   have key:(1-u/(u-v))*u+u/(u-v)*v=0:=by
    have:=Rat.div_mul_cancel (a:=u) hne
    grind
   have t0:=Fj u0 hd
   have t1:=C8 (show u<=u-v by grind) hd
   refine ⟨atQ x z (u/(u-v)),KJ ⟨_,t0,t1,rfl⟩ z1,λ i hi=>?_,.inr ⟨k,by omega,?_⟩⟩
   ·rw [Pp]
    by_cases e:i=k
    ·rw [e,hu,hv,key];exact Rat.le_refl
    ·have k1:=GS (show 0<=1-u/(u-v) by grind) (h i (by omega))
     have k2:=GS t0 (z2 i (by omega))
     grind
   ·rw [Pp,hu,hv,key]
theorem ACt {i n:Nat} (hi:i<n) (h3:3<=n):i≠((i+1)%n+1)%n:=by
 by_cases h:i+1<n
 ·rw [Nat.mod_eq_of_lt h]
  by_cases h2:i+1+1<n
  ·rw [Nat.mod_eq_of_lt h2];omega
  ·rw [show i+1+1=n by omega,Nat.mod_self];omega
 ·rw [show i+1=n by omega,Nat.mod_self,Nat.mod_eq_of_lt (by omega)];omega
theorem ABk {A B z:Q2} (h:crR A B z=0) (hne:A≠B):∃ s:Rat,z=atQ A B s:=by
 obtain ⟨a1,a2⟩:=A
 obtain ⟨b1,b2⟩:=B
 obtain ⟨c1,c2⟩:=z
 unfold crR at h
 simp only at h
 by_cases hx:a1=b1
 ·have hy:a2≠b2:=λ e=>hne (by rw [hx,e])
  have hd:b2-a2≠0:=by grind
  refine ⟨(c2-a2)/(b2-a2),?_⟩
  unfold atQ;simp only;ext <;> grind
 ·have hd:b1-a1≠0:=by grind
  refine ⟨(c1-a1)/(b1-a1),?_⟩
  unfold atQ;simp only;ext <;> grind
theorem ACC {s c:Rat} (h:0<=s*c) (hc:0<c):0<=s:=by
 apply Classical.byContradiction
 intro hn
 have:=Rat.mul_pos (show 0 < -s by grind) hc
 grind
theorem ABl {l:List V2} (hl:AJ l=true) {i:Nat} (hi:i<l.length) {z:Q2} (hz:Qt l z) (h0:crR (qv (l.getD i (0,0))) (qv (l.getD ((i+1)%l.length) (0,0))) z=0):Be z (qv (l.getD i (0,0))) (qv (l.getD ((i+1)%l.length) (0,0))):=by
 obtain ⟨⟨h3,-⟩,-,hs⟩:=Bx.1 hl
 obtain ⟨j,hj,ej,n1,n2⟩:=ABM hi h3
 have g1:=hz j hj
 have g2:=hz _ (Hb hi)
 have s1:=hs j ((i+1)%l.length) hj (Hb hi) n1 (by rw [ej];exact n2)
 have s2:=hs ((i+1)%l.length) i (Hb hi) hi (λ e=>n2 e.symm) (ACt hi h3)
 rw [ej] at g1 s1
 have r1:(0:Rat)<((AG (l.getD j (0,0)) (l.getD i (0,0)) (l.getD ((i+1)%l.length) (0,0)):Int):Rat):=by exact_mod_cast s1
 have r2:(0:Rat)<((AG (l.getD ((i+1)%l.length) (0,0)) (l.getD (((i+1)%l.length+1)%l.length) (0,0)) (l.getD i (0,0)):Int):Rat):=by exact_mod_cast s2
 rw [← Qv] at r1 r2
 generalize qv (l.getD j (0,0))=P at *
 generalize qv (l.getD (((i+1)%l.length+1)%l.length) (0,0))=N at *
 generalize qv (l.getD ((i+1)%l.length) (0,0))=B at *
 generalize qv (l.getD i (0,0))=A at *
 have hne:A≠B:=by
  rintro rfl
  unfold crR at r1;grind
 obtain ⟨s,rfl⟩:=ABk h0 hne
 rw [Pp] at g1 g2
 have z1:crR P A A=0:=by unfold crR;grind
 have z2:crR B N B=0:=by unfold crR;grind
 rw [z1] at g1
 rw [z2] at g2
 refine ⟨s,ACC (c:=crR P A B) (by grind) r1,?_,rfl⟩
 have:=ACC (s:=1-s) (c:=crR B N A) (by grind) r2
 grind
theorem AAD {l:List V2} (hl:AJ l=true) {p q:Pq} {a b:Q2} (hp:PqAt p a) (hq:PqAt q b):smB l p q=true↔∃ x,Be x a b/\Qt l x:=by
 have hv:=(IB hl).2.2
 have he:∀ i,i<l.length->(H6 l p q i=true↔∃ x,Be x a b/\Be x (qv (l.getD i (0,0))) (qv (l.getD ((i+1)%l.length) (0,0)))):=λ i hi=>
  ABj hp hq (WB (A3 hv hi)) (WB (A3 hv (Hb hi)))
 unfold smB
 rw [Bool.or_eq_true,Bool.or_eq_true,decide_eq_true_eq,decide_eq_true_eq,Qu hv hp,Qu hv hq,List.any_eq_true]
 constructor
 ·rintro (h|h|⟨i,hi,h⟩)
  ·exact ⟨a,WC a b,h⟩
  ·exact ⟨b,Md (WC b a),h⟩
  ·have hi:=List.mem_range.1 hi
   obtain ⟨x,h1,h2⟩:=(he i hi).1 h
   exact ⟨x,h1,AAC hl hi h2⟩
 ·rintro ⟨x,h1,h2⟩
  by_cases c:Qt l a
  ·exact .inl c
  ·refine .inr (.inr ?_)
   obtain ⟨z,z1,z2,z3⟩:=WD (f:=λ i=>(qv (l.getD i (0,0)),qv (l.getD ((i+1)%l.length) (0,0)))) (x:=x) (y:=a) l.length h2
   rcases z3 with rfl|⟨i,hi,e⟩
   ·exact absurd z2 c
   ·exact ⟨i,List.mem_range.2 hi,(he i hi).2 ⟨z,KJ (Md z1) h1,ABl hl hi z2 e⟩⟩
end Go.Proofs.YtkffpiaagjcmpaaGreat
namespace Go.Proofs.YtkffpiaagjcmpaaGreat
set_option linter.unusedVariables false
set_option linter.unusedSimpArgs false
theorem Ut {l:List V2} (h:AJ l=true):l.Nodup:=by
 obtain ⟨⟨h3,-⟩,-,hs⟩:=Bx.1 h
 rw [List.nodup_iff_pairwise_ne,List.pairwise_iff_getElem]
 intro i j hi hj hij e
 have e:l.getD i (0,0)=l.getD j (0,0):=by simp [List.getD,hi,hj,e]
 by_cases hj1:j=i+1
 ·subst hj1
  have hm:(i+1)%l.length=i+1:=Nat.mod_eq_of_lt hj
  have hk:(i+2)%l.length<l.length:=Nat.mod_lt _ (by omega)
  have n1:(i+2)%l.length≠i:=by
   by_cases hc:i+2<l.length
   ·rw [Nat.mod_eq_of_lt hc];omega
   ·rw [show i+2=l.length by omega,Nat.mod_self];omega
  have n2:(i+2)%l.length≠i+1:=by
   by_cases hc:i+2<l.length
   ·rw [Nat.mod_eq_of_lt hc];omega
   ·rw [show i+2=l.length by omega,Nat.mod_self];omega
  have:=hs i _ hi hk n1 (by rw [hm];exact n2)
  rw [hm,← e] at this
  unfold AG at this
  grind
 ·have hm:(i+1)%l.length=i+1:=Nat.mod_eq_of_lt (by omega)
  have:=hs i j hi hj (by omega) (by rw [hm];omega)
  rw [hm,← e] at this
  unfold AG at this
  grind
theorem N9 {b:List UInt8} {z:Int} : ∀ k c,(drF b z k c).1.length<=5
 | 0,c=>by simp [drF]
 | k+1,c=>by
  unfold drF
  split
  ·rename_i h
   have h1:=List.Nodup.length_le_of_subset (Ut h) (λ x hx=>Pi hx)
   have h2:(att b z c).1.length=Hd b c:=Fm _ _ _ _
   have h3:=Sr b c
   simp only;omega
  ·exact N9 k _
theorem S8 {m:Int} {l:List V2} (h:AJ l=true) (h5:l.length<=5) (hm:∀ x ∈ l,(-m<=x.1/\x.1<=m)/\-m<=x.2/\x.2<=m):shape m l=true:=by
 simp only [shape,Bool.and_eq_true,decide_eq_true_eq,List.all_eq_true]
 refine ⟨⟨h,h5⟩,λ x hx=>?_⟩
 have:=hm x hx
 simp only [Cz,Bool.and_eq_true,BO]
 omega
theorem XY {b:List UInt8} {z m:Int} (hz:1<=z) (hm:z<=m) (c:Cur):shape m (drP b z c).1=true:=by
 obtain ⟨h1,-,h3⟩:=Uq (b:=b) hz c
 exact S8 h1 (N9 8 c) λ x hx=>by have:=h3 x hx;omega
theorem XZ (a b c:V2) (x y:Int):AG (a.1+x,a.2+y) (b.1+x,b.2+y) (c.1+x,c.2+y)=AG a b c:=by
 unfold AG;grind
theorem AAE {l:List V2} {dx dy:Int} (hm:∀ x ∈ l,(-100<=x.1/\x.1<=100)/\-100<=x.2/\x.2<=100) (hx:-100<=dx/\dx<=100) (hy:-100<=dy/\dy<=100):Dt l dx dy=l.map λ p=>(p.1+dx,p.2+dy):=by
 have e:Cn l dx dy=l.map λ p=>(p.1+dx,p.2+dy):=by
  unfold Cn
  refine List.map_congr_left λ p hp=>?_
  have:=hm p hp
  unfold UY
  rw [AB (by omega) (by omega),AB (by omega) (by omega)]
 refine (Gx ?_ ?_).trans e
 ·simp only [AF,Cz,Bool.and_eq_true,BO];omega
 ·rw [e,List.all_eq_true]
  intro p hp
  obtain ⟨q,hq,rfl⟩:=List.mem_map.1 hp
  have:=hm q hq
  simp only [AF,Cz,Bool.and_eq_true,BO];omega
theorem Xa {l:List V2} (h:AJ l=true) {dx dy:Int} (hm:∀ x ∈ l,(-100<=x.1/\x.1<=100)/\-100<=x.2/\x.2<=100) (hx:-100<=dx/\dx<=100) (hy:-100<=dy/\dy<=100):AJ (l.map λ p=>(p.1+dx,p.2+dy))=true:=by
 obtain ⟨h1,h2,h3⟩:=Bx.1 h
 refine Bx.2 ⟨by simpa using h1,?_,λ i j hi hj n1 n2=>?_⟩
 ·rw [List.all_eq_true]
  intro p hp
  obtain ⟨q,hq,rfl⟩:=List.mem_map.1 hp
  have:=hm q hq
  simp only [AF,Cz,Bool.and_eq_true,BO];omega
 ·simp only [List.length_map] at hi hj n2 ⊢
  have hn:(i+1)%l.length<l.length:=Nat.mod_lt _ (by omega)
  have at_:∀ k,k<l.length->(l.map λ p=>(p.1+dx,p.2+dy)).getD k (0,0)=((l.getD k (0,0)).1+dx,(l.getD k (0,0)).2+dy):=λ k hk=>by simp [List.getD,hk]
  rw [at_ _ hi,at_ _ hj,at_ _ hn,XZ]
  exact h3 i j hi hj n1 n2
theorem Uu {b:List UInt8} {c:Cur} {dx dy:Int} (hx:0<=dx/\dx<=100) (hy:0<=dy/\dy<=100):shape 200 (Dt (drP b 4 c).1 dx dy)=true:=by
 obtain ⟨h1,-,h3⟩:=Uq (b:=b) (z:=4) (by omega) c
 have hm:∀ x ∈ (drP b 4 c).1,(-100<=x.1/\x.1<=100)/\-100<=x.2/\x.2<=100:=λ x hx=>by have:=h3 x hx;omega
 rw [AAE hm (by omega) (by omega)]
 refine S8 (Xa h1 hm (by omega) (by omega)) (by rw [List.length_map];exact N9 8 c) λ p hp=>?_
 obtain ⟨q,hq,rfl⟩:=List.mem_map.1 hp
 have:=h3 q hq
 simp only;omega
theorem Xb {x:Int} (h:6<=x/\x<=13):shape 200 (ABa x)=true:=by
 have:x=6∨x=7∨x=8∨x=9∨x=10∨x=11∨x=12∨x=13:=by omega
 rcases this with rfl|rfl|rfl|rfl|rfl|rfl|rfl|rfl <;> decide
theorem LR {b:List UInt8} {c:Cur} : ∀ k,∀ l ∈ (obN b c k).1,shape 200 l=true
 | 0,l,hl=>by simp [obN] at hl
 | k+1,l,hl=>by
  rw [S0] at hl
  rcases List.mem_append.1 hl with hl|hl
  ·exact LR k l hl
  ·rw [List.mem_singleton.1 hl]
   have q1:=BG b (drP b 4 (obN b c k).2).2 (n:=16) (by omega)
   have q2:=BG b (blC b (drP b 4 (obN b c k).2).2 16) (n:=12) (by omega)
   exact Uu (by omega) (by omega)
theorem Uv {b:List UInt8} {c:Cur} : (∀ l ∈ (A6 b c).1,shape 200 l=true)/\(A6 b c).1.length<=3:=by
 have hl:(He b c).1.length=IA b c:=Im _ _ _
 have hn:=Mb b c
 by_cases h:blV b (He b c).2 6=0
 ·rw [Sz h]
  refine ⟨λ l hl=>?_,by simp only [List.length_append,List.length_cons,List.length_nil];omega⟩
  rcases List.mem_append.1 hl with hl|hl
  ·exact LR _ l hl
  ·rw [List.mem_singleton.1 hl]
   have q1:=BG b (blC b (He b c).2 6) (n:=8) (by omega)
   exact Xb (by omega)
 ·rw [V5 h]
  exact ⟨λ l hl=>LR _ l hl,by simp only;omega⟩
theorem AAF {b:List UInt8} {c:Cur} : ∀ k,∀ v ∈ (tbN b c k).1,(0<=v.1/\v.1<=30)/\0<=v.2/\v.2<=30
 | 0,l,hl=>by simp [tbN] at hl
 | k+1,v,hl=>by
  rw [N8] at hl
  rcases List.mem_append.1 hl with hl|hl
  ·exact AAF k v hl
  ·rw [List.mem_singleton.1 hl]
   have q1:=BG b (tbN b c k).2 (n:=18) (by omega)
   have q2:=BG b (blC b (tbN b c k).2 18) (n:=14) (by omega)
   simp only;omega
theorem Uw (b:List UInt8) (c:Cur):AL (Dy b c)=true/\(Dy b c).obst.length<=3:=by
 obtain ⟨w1,w2⟩:=Uv (b:=b) (c:=c)
 refine ⟨?_,w2⟩
 have q1:=BG b c (n:=12) (by omega)
 have q2:=BG b (blC b c 12) (n:=10) (by omega)
 have ht:(Sy b c).1.length=Ef b c:=In _ _ _
 have hn:=G8 b c
 simp only [AL,Bool.and_eq_true,decide_eq_true_eq,List.all_eq_true]
 refine ⟨⟨⟨⟨λ x hx=>?_,?_⟩,?_⟩,?_⟩,⟨⟨w1,?_⟩,?_⟩,λ v hv=>?_⟩
 ·simp only [List.mem_cons,List.not_mem_nil,or_false] at hx
  simp only [Cz,Bool.and_eq_true,BO]
  rcases hx with rfl|rfl
  ·simp only [Dy];omega
  ·simp only [Dy];omega
 ·show (0:Int)<14+blV b c 12
  omega
 ·show (0:Int)<12+blV b (blC b c 12) 10
  omega
 ·exact XY (by omega) (by omega) _
 ·show (A6 b c).1.length<=4
  omega
 ·show (Sy b c).1.length<=3
  omega
 ·have:=AAF _ v hv
  simp only [Cz,Bool.and_eq_true,BO]
  omega
theorem AAG {s:Scn} (h:AL s=true):Bu s/\s.obst.length<=4:=by
 simp only [AL,Bool.and_eq_true,shape,decide_eq_true_eq,List.all_eq_true] at h
 refine ⟨⟨by omega,by omega,λ x hx=>?_,by omega⟩,by omega⟩
 have:=h.2.1.1.1 x hx
 omega
end Go.Proofs.YtkffpiaagjcmpaaGreat
namespace Go.Proofs.YtkffpiaagjcmpaaGreat
set_option maxRecDepth 100000
set_option linter.unusedVariables false
set_option linter.unusedSimpArgs false
open Go.RowKit
set_option maxHeartbeats 1000000 in
theorem OA (s : Scn) (h : Int) (v : Value) (w : World) (hv : SceneAt w v s) (hn : (AL s && inR h 0 3) = false) :
    Calls Tryz.prog 9 #[v, .int .i64 h] w fun e w' => e = .returned (.slice none 0 0) ∧ Below w.heap.size w w' := by
  have HV := Lib.hid hv
  obtain ⟨⟨lx, ly⟩, ⟨hx, hy⟩, rob, obs, tabs⟩ := s
  obtain ⟨r, o, t, rfl, hr, ho, ht⟩ := hv
  simp only at hr ho ht
  obtain ⟨ra, rcap, rfl, _, _, _⟩ := hr.open
  obtain ⟨oa, ocap, rfl, _, _, _⟩ := ho.open
  obtain ⟨ta, tcap, rfl, _, _, _⟩ := ht.open
  clear hr ho ht
  obtain ⟨S, hS⟩ : ∃ S : Scn, S = ⟨(lx, ly), (hx, hy), rob, obs, tabs⟩ := ⟨_, rfl⟩
  rw [← hS] at HV hn ⊢
  clear hS
  cases h1 : AL S
  · clear hn
    go_enter Tryz.func9, Tryz.ntmps9
    go_wp2_with fail
    refine (FK S _ _ (HV.out.below ((Below.refl _ _).alloc (Nat.le_refl _) _))).mono ?_
    rintro e w1 ⟨rfl, h1⟩
    have B1 : Below w.heap.size w w1 := Below.trans (by (repeat (first | with_reducible exact Below.refl _ _ | with_reducible assumption | with_reducible refine Below.drew ?_ | with_reducible refine Below.setCell ?_ ?_ _ | with_reducible refine Below.alloc ?_ ?_ _)); all_goals first | (simp; done) | (simp; omega) | omega) (h1.mono (by first | (simp; done) | (simp; omega) | omega))
    have S1 := h1.size
    have T1 := B1.size
    try simp at S1
    obtain ⟨k1, f1⟩ := FW h1
    try simp at k1
    try simp at f1
    have Hc1 := Lib.hid h1
    clear h1
    have u1_0 : w.heap.size < w1.heap.size := by omega
    go_wp2
    go_ret
    refine ⟨?_, B1⟩
    simp
  · have h2 : inR h 0 3 = false := by rw [h1] at hn; simpa using hn
    clear hn
    go_enter Tryz.func9, Tryz.ntmps9
    go_wp2_with fail
    refine (FK S _ _ (HV.out.below ((Below.refl _ _).alloc (Nat.le_refl _) _))).mono ?_
    rintro e w1 ⟨rfl, h1⟩
    have B1 : Below w.heap.size w w1 := Below.trans (by (repeat (first | with_reducible exact Below.refl _ _ | with_reducible assumption | with_reducible refine Below.drew ?_ | with_reducible refine Below.setCell ?_ ?_ _ | with_reducible refine Below.alloc ?_ ?_ _)); all_goals first | (simp; done) | (simp; omega) | omega) (h1.mono (by first | (simp; done) | (simp; omega) | omega))
    have S1 := h1.size
    have T1 := B1.size
    try simp at S1
    obtain ⟨k1, f1⟩ := FW h1
    try simp at k1
    try simp at f1
    have Hc1 := Lib.hid h1
    clear h1
    have u1_0 : w.heap.size < w1.heap.size := by omega
    go_wp2_with fail
    refine (SK _ _).mono ?_
    rintro e w' ⟨rfl, rfl⟩
    go_wp2
    go_ret
    refine ⟨?_, B1⟩
    simp
set_option maxHeartbeats 1000000 in
theorem Qw (s : Scn) (h : Int) (v : Value) (w : World) (hv : SceneAt w v s) (hn : (AL s && inR h 0 3) = false) :
    Calls Tryz.prog 20 #[v, .int .i64 h] w fun e w' => e = .returned (.slice none 0 0) ∧ Below w.heap.size w w' := by
  have HV := Lib.hid hv
  obtain ⟨⟨lx, ly⟩, ⟨hx, hy⟩, rob, obs, tabs⟩ := s
  obtain ⟨r, o, t, rfl, hr, ho, ht⟩ := hv
  simp only at hr ho ht
  obtain ⟨ra, rcap, rfl, _, _, _⟩ := hr.open
  obtain ⟨oa, ocap, rfl, _, _, _⟩ := ho.open
  obtain ⟨ta, tcap, rfl, _, _, _⟩ := ht.open
  clear hr ho ht
  obtain ⟨S, hS⟩ : ∃ S : Scn, S = ⟨(lx, ly), (hx, hy), rob, obs, tabs⟩ := ⟨_, rfl⟩
  rw [← hS] at HV hn ⊢
  clear hS
  have HN := Lib.hid hn
  clear hn
  go_enter Tryz.func20, Tryz.ntmps20
  go_wp2_with fail
  refine (OA S h _ _ (HV.out.below ((Below.refl _ _).alloc (Nat.le_refl _) _)) HN.out).mono ?_
  rintro e w1 ⟨rfl, h1⟩
  have B1 : Below w.heap.size w w1 := Below.trans (by (repeat (first | with_reducible exact Below.refl _ _ | with_reducible assumption | with_reducible refine Below.drew ?_ | with_reducible refine Below.setCell ?_ ?_ _ | with_reducible refine Below.alloc ?_ ?_ _)); all_goals first | (simp; done) | (simp; omega) | omega) (h1.mono (by first | (simp; done) | (simp; omega) | omega))
  have S1 := h1.size
  have T1 := B1.size
  try simp at S1
  obtain ⟨k1, f1⟩ := FW h1
  try simp at k1
  try simp at f1
  have Hc1 := Lib.hid h1
  clear h1
  have u1_0 : w.heap.size < w1.heap.size := by omega
  have hsn := fun (w : World) (a : Option Addr) (n c n' c' : Nat) => Lib.run_eql_slice_nil (P := Tryz.prog) w 25 24 a n c n' c' Tryz.underlying25
  go_wp2
  go_ret
  refine ⟨?_, B1⟩
  simp
end Go.Proofs.YtkffpiaagjcmpaaGreat
namespace Go.Proofs.YtkffpiaagjcmpaaGreat
set_option linter.unusedVariables false
set_option linter.unusedSimpArgs false
open Go.RowKit
def LS (s:Scn) (h:Int) (k:Nat):List (List V2):=(s.obst.take k).map (OY (AD s h))
def blk (s:Scn) (h:Int):List (List V2):=if (AD s h).length=0 then [] else LS s h s.obst.length
theorem AAH {s:Scn} {h:Int} (e:(AD s h).length=0):blk s h=[]:=by unfold blk;rw [if_pos e]
theorem WE {s:Scn} {h:Int} (e:(AD s h).length≠0):blk s h=LS s h s.obst.length:=by unfold blk;rw [if_neg e]
theorem S9 (s:Scn) (h:Int) (k:Nat):(AK (LS s h k)).length<=k:=by
 rw [A5];unfold LS;rw [List.length_map,List.length_take];omega
theorem Xc {s:Scn} {h:Int} {k:Nat} (hk:k<s.obst.length):AK (LS s h k)++[[.sl (AA (OY (AD s h) (s.obst.getD k [])))]]=AK (LS s h (k+1)):=by
 unfold LS
 rw [D2 s.obst [] k hk]
 simp [AK]
theorem TA (s:Scn) (h:Int):(AD s h).length<=1048576:=by have:=(Sj s h).2;omega
theorem Pv {s:Scn} {h:Int} (hn:(AL s && inR h 0 3)=false):AD s h=[]:=JN (by
 rw [Bool.and_eq_false_iff] at hn
 rcases hn with hn|hn
 ·exact .inl hn
 ·refine .inr λ hc=>?_
  have:inR h 0 3=true:=BO.2 hc
  rw [hn] at this;cases this)
theorem JP {s:Scn} {h:Int} (hn:(AL s && inR h 0 3)=true):0<(AD s h).length:=by
 rw [Bool.and_eq_true] at hn
 exact List.length_pos_iff.2 (Ul hn.1 (BO.1 hn.2))
def Xd:Con:={ ι:=Scn×Int,pre:=λ i=>Bu i.1/\(AL i.1 && inR i.2 0 3)=true,args:=λ i=>[DA.agg [cI i.1.low.1,cI i.1.low.2,cI i.1.high.1,cI i.1.high.2,DC.sl 24 [.int,.int] (AA i.1.robot),DC.sl 25 [.sl 24 [.int,.int]] (AK i.1.obst),DC.sl 24 [.int,.int] (AA i.1.tables)],.one (cI i.2)],res:=λ i=>⟨false,[none],[.own 25 [.sl 24 [.int,.int]] (AK (blk i.1 i.2))]⟩ }
set_option maxRecDepth 100000 in
theorem TB:Xd.Ok Tryz.prog 20:=by
 refine fok (X:=⟨tt,[(9,Aq),(56,KG)],[],30,[]⟩) mixed AI (CTok.cons H7 (CTok.cons ABi (CTok.nil _))) Tryz.func20 (λ (i:Scn×Int)=>[(6,.mk 4 (Nat) (λ x1=>{ tm:=[(16,tX 1),(17,tI (nI ((AK i.1.obst).length))),(18,tI (nI x1)),(6,tX 2),(5,tX 3)],en:=[(1,.view 25 [.sl 24 [.int,.int]] (AK i.1.obst) []),(2,.own 25 [.sl 24 [.int,.int]] (AK (LS i.1 i.2 x1))),(3,.own 24 [.int,.int] (AA (AD i.1 i.2)))] }) (λ x1=>x1<=i.1.obst.length) (λ x1=>i.1.obst.length-x1) (λ _=>[]))]) ?_
 rintro ⟨s,h⟩ hpre
 have hpre:Bu s/\(AL s && inR h 0 3)=true:=hpre
 refine AH (q:=let Z3:=AA (AD s h);let Z1:=AK s.obst;let Z4:=nI (Z1.length);∃ i1:Scn×Int,[DA.agg [cI s.low.1,cI s.low.2,cI s.high.1,cI s.high.2,DC.sl 24 [.int,.int] (AA s.robot),DC.sl 25 [.sl 24 [.int,.int]] Z1,DC.sl 24 [.int,.int] (AA s.tables)],DA.one (cI h)]=Aq.args i1/\Aq.pre i1/\(∀ b2:Bool,(b2=true->AA (AD i1.1 i1.2)=[])->(ifB (b2) ((([]:List (List Dat))=AK (blk s h))) ((∃ x1:Nat,(x1<=s.obst.length)/\((rf (vI Z4))/\(vI (0:Int)=vI (nI x1))/\(rf Z1)/\(([]:List (List Dat))=(AK (LS s h x1)))/\(AA (AD i1.1 i1.2)=Z3)))/\∀ x1:Nat,let Z2:=AK (LS s h x1);(x1<=s.obst.length)->(ifB ((decide ((nI x1)<Z4))) ((0<=(nI x1)/\(nI x1)<(Z1.length:Int))/\((x1<Z1.length)/\(∃ i3:(List V2)×(List V2),let Z5:=AA (OY i3.1 i3.2);[DA.one (DC.sl 24 [.int,.int] Z3),DA.one (DC.sl 24 [.int,.int] ((((Z1.getD x1 []).getD 0 (.int 0))).r))]=KG.args i3/\KG.pre i3/\((Z2.length+([[Dat.sl Z5]]:List (List Dat)).length<=2199023255552)/\(∃ y2:Nat,(y2<=s.obst.length)/\(s.obst.length-y2<s.obst.length-x1)/\((rf (vI Z4))/\(vI (wR ((nI x1)+(1:Int)))=vI (nI y2))/\(rf Z1)/\((Z2++([[Dat.sl Z5]]:List (List Dat)))=(AK (LS s h y2)))/\(rf Z3))))))) ((Z2=AK (blk s h)))))))) (by kernel_rfl) ?_
 conv=>zeta
 delta ifB vI wR nI
 have hv:=hpre.2
 have hpre:=hpre.1
 have hz:=hpre
 obtain ⟨h1,h2,h3,h4⟩:=hpre
 have hrv:=TA s h
 have hvl:=AC (AD s h)
 have hal:=A5 s.obst
 have hrs:=JP hv
 refine ⟨(s,h),by
  rfl,by
  trivial,?_⟩
 intro b2 q4
 refine ⟨λ c5=>?_,λ c5=>?_⟩
 ·try simp only [nrm] at c5
  exfalso
  have hq:=congrArg List.length (q4 c5)
  rw [hvl] at hq
  simp only [List.length_nil] at hq
  omega -- done
 try simp only [nrm] at c5
 have hE:=WE (s:=s) (h:=h) (by omega)
 refine ⟨⟨0,by
  omega,?_⟩,?_⟩
 ·refine ⟨rfl,?_,rfl,?_,rfl⟩
  ·rfl
  rfl
 intro (k:Nat) hki7
 have hki7:k<=s.obst.length:=hki7
 refine And.symm ⟨λ c14=>?_,λ c14=>?_⟩
 ·try simp only [nrm] at c14
  rw [hE,show k=s.obst.length by omega]
 try simp only [nrm] at c14
 have hkl:k<s.obst.length:=by omega
 refine ao (by omega) λ o15=>?_
 refine ao (by omega) λ o16=>?_
 refine ⟨(AD s h,s.obst.getD k []),by
  rw [LD hkl];rfl,by
  exact ⟨hrv,h3 _ (by simp [List.getD,hkl])⟩,?_⟩
 refine ao (a:=(AK (LS s h k)).length+([[Dat.sl (AA (OY (AD s h) (s.obst.getD k [])))]]:List (List Dat)).length<=2199023255552) (by have:=S9 s h k;simp only [List.length_cons,List.length_nil];omega) λ o20=>?_
 refine ⟨k+1,by
  trivial,by
  omega,?_⟩
 refine ⟨rfl,?_,rfl,?_,rfl⟩
 ·exact Aa (AB (by omega) (by omega))
 exact Xc hkl
def Pw:Con:={ ι:=Scn×Int,pre:=λ i=>Bu i.1/\(AL i.1 && inR i.2 0 3)=false,args:=λ i=>[DA.agg [cI i.1.low.1,cI i.1.low.2,cI i.1.high.1,cI i.1.high.2,DC.sl 24 [.int,.int] (AA i.1.robot),DC.sl 25 [.sl 24 [.int,.int]] (AK i.1.obst),DC.sl 24 [.int,.int] (AA i.1.tables)],.one (cI i.2)],res:=λ i=>⟨false,[none],[.own 25 [.sl 24 [.int,.int]] (AK (blk i.1 i.2))]⟩ }
theorem AAI:Pw.Ok Tryz.prog 20:=C3 rfl ⟨_,Tryz.func20,by decide,rfl⟩ (λ _=>Nat.le_of_ble_eq_true rfl) (λ _=>rfl) (λ i=>[.sl 25 [.sl 24 [.int,.int]] (AK (blk i.1 i.2))]) (λ _=>rfl) (λ _=>rfl) (λ i hp w us h=>by
 obtain ⟨s,k⟩:=i
 obtain ⟨cs,v,rfl,h1,h2,h3⟩:=Jo (t:=[.int,.int,.int,.int,.sl 24 [.int,.int],.sl 25 [.sl 24 [.int,.int]],.sl 24 [.int,.int]]) (x:=.int) (ds:=Xr s) (dx:=.int k) h rfl
 have h2:v=.int .i64 k:=by simpa [Rd] using h2
 subst h2
 rw [show BN (Pw.args (s,k)) (cs++[.int .i64 k])=[.agg cs.toArray,.int .i64 k] from h3 _ _ rfl]
 refine (Qw s k _ w (RdRow.scene h1) hp.2).mono ?_
 rintro e w' ⟨rfl,hb⟩
 refine ⟨[.slice none 0 0],rfl,?_,hb⟩
 have e:blk s k=[]:=AAH (by rw [Pv hp.2];rfl)
 show Own w' w.heap.size w'.heap.size [.sl 25 [.sl 24 [.int,.int]]] [.sl (AK (blk s k))] [.slice none 0 0]
 rw [e]
 exact Own.nilSl _ _ _ _ _)
def KM:Con:={ ι:=Scn×Int,pre:=λ i=>Bu i.1,args:=λ i=>[DA.agg [cI i.1.low.1,cI i.1.low.2,cI i.1.high.1,cI i.1.high.2,DC.sl 24 [.int,.int] (AA i.1.robot),DC.sl 25 [.sl 24 [.int,.int]] (AK i.1.obst),DC.sl 24 [.int,.int] (AA i.1.tables)],.one (cI i.2)],res:=λ i=>⟨false,[none],[.own 25 [.sl 24 [.int,.int]] (AK (blk i.1 i.2))]⟩ }
theorem ABm:KM.Ok Tryz.prog 20 where
 enter:=TB.enter
 small:=λ _=>Nat.le_of_ble_eq_true rfl
 calls:=λ i hp F w us mb h=>by
  cases hc:(AL i.1 && inR i.2 0 3) with
  | false=>
   refine (AAI.calls i ⟨hp,hc⟩ F w us mb h).mono ?_
   rintro e w' ⟨rs,bs,he,q⟩
   exact ⟨rs,bs,he,⟨q.res,q.nd,q.fresh,q.turned,q.os,q.tape,q.output,q.size,q.keep⟩⟩
  | true=>
   refine (TB.calls i ⟨hp,hc⟩ F w us mb h).mono ?_
   rintro e w' ⟨rs,bs,he,q⟩
   exact ⟨rs,bs,he,⟨q.res,q.nd,q.fresh,q.turned,q.os,q.tape,q.output,q.size,q.keep⟩⟩
end Go.Proofs.YtkffpiaagjcmpaaGreat
namespace Go.Proofs.YtkffpiaagjcmpaaGreat
set_option linter.unusedVariables false
set_option linter.unusedSimpArgs false
open Go.RowKit
def OZ (b:V2×V2):Prop:=((-9223372036854775808<=b.1.1/\b.1.1<=9223372036854775807)/\(-9223372036854775808<=b.1.2/\b.1.2<=9223372036854775807)/\(-9223372036854775808<=b.2.1/\b.2.1<=9223372036854775807)/\(-9223372036854775808<=b.2.2/\b.2.2<=9223372036854775807))
def inQ (b:V2×V2) (p:Pq):Bool:=decide (Fr.cmp p.x (Fr.ofInt b.1.1)>0) && (decide (Fr.cmp p.x (Fr.ofInt b.2.1)<0) && (decide (Fr.cmp p.y (Fr.ofInt b.1.2)>0) && decide (Fr.cmp p.y (Fr.ofInt b.2.2)<0)))
def Qx (b:V2×V2) (p:PtD):Bool:=okP p && inQ b (pqR p)
def OB (b:V2×V2) (ar:List (List V2)) (p:PtD):Bool:=Qx b p && !(ar.any λ z=>decide (0<=cpZ z p))
def Iq:Con:={ ι:=(V2×V2)×Pq,pre:=λ i=>OZ i.1,args:=λ i=>[DA.agg [cI i.1.1.1,cI i.1.1.2,cI i.1.2.1,cI i.1.2.2],dP i.2],res:=λ i=>⟨false,[none],[rcB (inQ i.1 i.2)]⟩ }
set_option maxRecDepth 100000 in
theorem AAJ:Iq.Ok Tryz.prog 87:=by
 refine fok (X:=⟨tt,[(46,BI),(58,An)],[],43,[]⟩) mixed AI (CTok.cons PP (CTok.cons IY (CTok.nil _))) Tryz.func87 (λ _=>[]) ?_
 rintro ⟨b,p⟩ hpre
 have hpre:OZ b:=hpre
 refine AH (q:=let Z1:=(vB false=vB (inQ b p));∃ i1:Int,[DA.one (cI b.1.1)]=BI.args i1/\BI.pre i1/\(∃ i2:Fr×Fr,[dF p.x,dF (Fr.ofInt i1)]=An.args i2/\An.pre i2/\(ifB ((decide ((Fr.cmp i2.1 i2.2)>(0:Int)))) (∃ i3:Int,[DA.one (cI b.2.1)]=BI.args i3/\BI.pre i3/\(∃ i4:Fr×Fr,[dF p.x,dF (Fr.ofInt i3)]=An.args i4/\An.pre i4/\(ifB ((decide ((Fr.cmp i4.1 i4.2)<(0:Int)))) (∃ i5:Int,[DA.one (cI b.1.2)]=BI.args i5/\BI.pre i5/\(∃ i6:Fr×Fr,[dF p.y,dF (Fr.ofInt i5)]=An.args i6/\An.pre i6/\(ifB ((decide ((Fr.cmp i6.1 i6.2)>(0:Int)))) (∃ i7:Int,[DA.one (cI b.2.2)]=BI.args i7/\BI.pre i7/\(∃ i8:Fr×Fr,[dF p.y,dF (Fr.ofInt i7)]=An.args i8/\An.pre i8/\((vB (decide ((Fr.cmp i8.1 i8.2)<(0:Int)))=vB (inQ b p))))) Z1))) Z1))) Z1))) (by kernel_rfl) ?_
 conv=>zeta
 delta ifB vB
 refine ⟨b.1.1,by
  rfl,by
  exact hpre.1,?_⟩
 refine ⟨(p.x,(Fr.ofInt b.1.1)),by
  rfl,by
  trivial,?_⟩
 refine And.symm ⟨λ c7=>?_,λ c7=>?_⟩
 ·try simp only [nrm] at c7
  exact congrArg Value.bool (by unfold inQ;simp_all;try (intros;omega))
 try simp only [nrm] at c7
 refine ⟨b.2.1,by
  rfl,by
  exact hpre.2.2.1,?_⟩
 refine ⟨(p.x,(Fr.ofInt b.2.1)),by
  rfl,by
  trivial,?_⟩
 refine And.symm ⟨λ c14=>?_,λ c14=>?_⟩
 ·try simp only [nrm] at c14
  exact congrArg Value.bool (by unfold inQ;simp_all;try (intros;omega))
 try simp only [nrm] at c14
 refine ⟨b.1.2,by
  rfl,by
  exact hpre.2.1,?_⟩
 refine ⟨(p.y,(Fr.ofInt b.1.2)),by
  rfl,by
  trivial,?_⟩
 refine And.symm ⟨λ c21=>?_,λ c21=>?_⟩
 ·try simp only [nrm] at c21
  exact congrArg Value.bool (by unfold inQ;simp_all;try (intros;omega))
 try simp only [nrm] at c21
 refine ⟨b.2.2,by
  rfl,by
  exact hpre.2.2.2,?_⟩
 refine ⟨(p.y,(Fr.ofInt b.2.2)),by
  rfl,by
  trivial,?_⟩
 exact congrArg Value.bool (by unfold inQ;simp_all;try (intros;omega))
end Go.Proofs.YtkffpiaagjcmpaaGreat
namespace Go.Proofs.YtkffpiaagjcmpaaGreat
set_option linter.unusedVariables false
set_option linter.unusedSimpArgs false
def AAK (a b:List V2):Prop:=∀ i j,i<a.length->j<b.length->AF (BU (a.getD i (0,0)) (b.getD j (0,0)))=true
theorem AAL {b:List V2} {p:V2} (h:∀ j,j<b.length->AF (BU p (b.getD j (0,0)))=true):Cn b p.1 p.2=b.map (BU p):=by
 unfold Cn
 apply List.map_congr_left
 intro q hq
 obtain ⟨j,hj,rfl⟩:=List.getElem_of_mem hq
 have hb:=CJ (h j hj)
 have e:b.getD j (0,0)=b[j]:=by simp [List.getD,hj]
 rw [e] at hb
 simp only [BU] at hb
 simp only [UY,BU]
 rw [AB (by omega) (by omega),AB (by omega) (by omega),Int.add_comm p.1,Int.add_comm p.2]
theorem TC {a b:List V2} (h:AAK a b) (x:V2):∀ k,k<=a.length->(x ∈ Et a b k↔∃ i j,i<k/\j<b.length/\x=BU (a.getD i (0,0)) (b.getD j (0,0)))
 | 0,_=>by
  simp only [Et,List.not_mem_nil,false_iff]
  rintro ⟨i,j,hi,_⟩
  omega
 | k+1,hk=>by
  rw [show Et a b (k+1)=Et a b k++Cn b (a.getD k (0,0)).1 (a.getD k (0,0)).2 from rfl,List.mem_append,TC h x k (by omega),AAL (λ j hj=>h k j (by omega) hj),List.mem_map]
  constructor
  ·rintro (⟨i,j,hi,hj,e⟩|⟨q,hq,e⟩)
   ·exact ⟨i,j,by omega,hj,e⟩
   ·obtain ⟨j,hj,rfl⟩:=List.getElem_of_mem hq
    exact ⟨k,j,by omega,hj,by rw [← e];simp [List.getD,hj]⟩
  ·rintro ⟨i,j,hi,hj,e⟩
   by_cases hik:i=k
   ·subst hik
    exact .inr ⟨b.getD j (0,0),by simp [List.getD,hj],e.symm⟩
   ·exact .inl ⟨i,j,by omega,hj,e⟩
theorem AAM (a b c q:V2):AG (BU a q) (BU b q) (BU c q)=AG a b c:=by
 simp only [AG,BU];grind
theorem AAN {a b:List V2} (ha:AJ a=true) (hb:AJ b=true) (h64:a.length*b.length<=64) (hn:AAK a b):Ring (SW a b) (Hf a b)/\3<=(Hf a b).length/\(Hf a b).all AF=true:=by
 have pa:=Bx.1 ha
 have pb:=Bx.1 hb
 have hm:∀ x,x ∈ Et a b a.length↔SW a b x:=λ x=>TC hn x a.length (Nat.le_refl _)
 have hv:(Et a b a.length).all AF=true:=by
  rw [List.all_eq_true]
  intro x hx
  obtain ⟨i,j,hi,hj,rfl⟩:=(hm x).1 hx
  exact hn i j hi hj
 have hlen:=FS a b a.length
 have e:Hf a b=OW (Au (Et a b a.length) (Et a b a.length).length):=LH (by omega) hv
 obtain ⟨s,hs⟩:∃ s,Au (Et a b a.length) (Et a b a.length).length=s:=⟨_,rfl⟩
 have up:upV s:=by rw [← hs];exact QZ _ _
 have mem:∀ x,x ∈ s↔SW a b x:=λ x=>by rw [← hs,H2 _ x _ (Nat.le_refl _),List.take_length,hm]
 have b0:0<b.length:=by have:=pb.1.1;omega
 have n1:(0+1)%a.length=1:=Nat.mod_eq_of_lt (by have:=pa.1.1;omega)
 have ht:=pa.2.2 0 2 (by omega) (by have:=pa.1.1;omega) (by omega) (by omega)
 rw [n1] at ht
 have m0:SW a b (BU (a.getD 0 (0,0)) (b.getD 0 (0,0))):=⟨0,0,by omega,b0,rfl⟩
 have m1:SW a b (BU (a.getD 1 (0,0)) (b.getD 0 (0,0))):=⟨1,0,by omega,b0,rfl⟩
 have m2:SW a b (BU (a.getD 2 (0,0)) (b.getD 0 (0,0))):=⟨2,0,by omega,b0,rfl⟩
 have ht' : 0<AG (BU (a.getD 0 (0,0)) (b.getD 0 (0,0))) (BU (a.getD 1 (0,0)) (b.getD 0 (0,0))) (BU (a.getD 2 (0,0)) (b.getD 0 (0,0))):=by rw [AAM];exact ht
 obtain ⟨x,hx⟩:∃ x,BU (a.getD 0 (0,0)) (b.getD 0 (0,0))=x:=⟨_,rfl⟩
 obtain ⟨y,hy⟩:∃ y,BU (a.getD 1 (0,0)) (b.getD 0 (0,0))=y:=⟨_,rfl⟩
 obtain ⟨z,hz⟩:∃ z,BU (a.getD 2 (0,0)) (b.getD 0 (0,0))=z:=⟨_,rfl⟩
 rw [hx] at m0 ht'
 rw [hy] at m1 ht'
 rw [hz] at m2 ht'
 have nxy:x≠y:=by rintro rfl;unfold AG at ht';grind
 have nxz:x≠z:=by rintro rfl;unfold AG at ht';grind
 have nyz:y≠z:=by rintro rfl;unfold AG at ht';grind
 have h3:3<=s.length:=by
  have:=J5
  have hx:=(mem x).2 m0
  have hy:=(mem y).2 m1
  have hz:=(mem z).2 m2
  match s,hx,hy,hz with
  | [],hx,_,_=>simp at hx
  | [p],hx,hy,_=>
   simp only [List.mem_singleton] at hx hy
   exact absurd (hx.trans hy.symm) nxy
  | [p,q],hx,hy,hz=>
   simp only [List.mem_cons,List.not_mem_nil,or_false] at hx hy hz
   rcases hx with hx|hx <;> rcases hy with hy|hy <;> rcases hz with hz|hz <;> first|exact absurd (hx.trans hy.symm) nxy|exact absurd (hx.trans hz.symm) nxz|exact absurd (hy.trans hz.symm) nyz
  | _::_::_::_,_,_,_=>simp
 obtain ⟨r,r2,rl⟩:=XH up (by omega)
 have hS:(λ x=>x ∈ s)=SW a b:=funext λ x=>propext (mem x)
 rw [hS] at r
 have e2:Hf a b=A9 s++A9 s.reverse:=by rw [e,hs,LI (by omega)]
 rw [← e2] at r r2 rl
 have r3:3<=(Hf a b).length:=by
  by_cases h2:(Hf a b).length=2
  ·exfalso
   have l:=rl h2
   have sorted:Af (s.getD 0 (0,0)) (s.getD (s.length-1) (0,0))=true:=by
    have:=List.pairwise_iff_getElem.1 up 0 (s.length-1) (by omega) (by omega) (by omega)
    simpa [List.getD,show 0<s.length by omega,show s.length-1<s.length by omega] using this
   have:=Uf (Ep sorted) (l x ((mem x).2 m0)) (l y ((mem y).2 m1)) (l z ((mem z).2 m2))
   omega
  ·omega
 refine ⟨r,r3,?_⟩
 rw [List.all_eq_true]
 intro v hv
 obtain ⟨i,hi,rfl⟩:=List.getElem_of_mem hv
 have:=r.mem i hi
 obtain ⟨i',j',hi',hj',q⟩:=this
 have q:(Hf a b)[i]=BU (a.getD i' (0,0)) (b.getD j' (0,0)):=by rw [← q];simp [List.getD,hi]
 rw [q];exact hn i' j' hi' hj'
theorem Ux {a b:List V2} (ha:AJ a=true) (hb:AJ b=true) (h64:a.length*b.length<=64) (h16:a.length+b.length<=16) (hn:AAK a b):AJ (Hf a b)=true:=by
 obtain ⟨r,h3,hv⟩:=AAN ha hb h64 hn
 exact r.poly h3 (by have:=r.few ha hb h3;omega) hv
end Go.Proofs.YtkffpiaagjcmpaaGreat
namespace Go.Proofs.YtkffpiaagjcmpaaGreat
set_option linter.unusedVariables false
set_option linter.unusedSimpArgs false
open Go.RowKit
set_option maxRecDepth 100000 in
set_option maxHeartbeats 1000000 in
theorem TE (s : Scn) (h : Int) (v : Value) (w : World) (hv : SceneAt w v s) (hn : (AL s && inR h 0 3) = false) :
    Calls Tryz.prog 18 #[v, .int .i64 h] w fun e w' => e = .returned (.tuple #[.agg #[.int .i64 0, .int .i64 0, .int .i64 0, .int .i64 0], .bool false]) ∧ Below w.heap.size w w' := by
  have HV := Lib.hid hv
  obtain ⟨⟨lx, ly⟩, ⟨hx, hy⟩, rob, obs, tabs⟩ := s
  obtain ⟨r, o, t, rfl, hr, ho, ht⟩ := hv
  simp only at hr ho ht
  obtain ⟨ra, rcap, rfl, _, _, _⟩ := hr.open
  obtain ⟨oa, ocap, rfl, _, _, _⟩ := ho.open
  obtain ⟨ta, tcap, rfl, _, _, _⟩ := ht.open
  clear hr ho ht
  obtain ⟨S, hS⟩ : ∃ S : Scn, S = ⟨(lx, ly), (hx, hy), rob, obs, tabs⟩ := ⟨_, rfl⟩
  rw [← hS] at HV hn ⊢
  clear hS
  have hsn := fun (w : World) (a : Option Addr) (n c n' c' : Nat) => Lib.run_eql_slice_nil (P := Tryz.prog) w 25 24 a n c n' c' Tryz.underlying25
  have HN := Lib.hid hn
  clear hn
  go_enter Tryz.func18, Tryz.ntmps18
  go_wp2_with fail
  refine (OA S h _ _ (HV.out.below (((Below.refl _ _).alloc (Nat.le_refl _) _).alloc (by simp) _)) HN.out).mono ?_
  rintro e w1 ⟨rfl, h1⟩
  have B1 : Below w.heap.size w w1 := Below.trans (by (repeat (first | with_reducible exact Below.refl _ _ | with_reducible assumption | with_reducible refine Below.drew ?_ | with_reducible refine Below.setCell ?_ ?_ _ | with_reducible refine Below.alloc ?_ ?_ _)); all_goals first | (simp; done) | (simp; omega) | omega) (h1.mono (by first | (simp; done) | (simp; omega) | omega))
  have S1 := h1.size
  have T1 := B1.size
  try simp at S1
  obtain ⟨k1, f1⟩ := FW h1
  try simp at k1
  try simp at f1
  have Hc1 := Lib.hid h1
  clear h1
  have u1_0 : w.heap.size < w1.heap.size := by omega
  have u1_1 : w.heap.size + 1 < w1.heap.size := by omega
  have hr0 : w1.cell? ⟨w.heap.size + 1, 0, none⟩ = some (.int .i64 0) := by go_simp
  have hr1 : w1.cell? ⟨w.heap.size + 1, 1, none⟩ = some (.int .i64 0) := by go_simp
  have hr2 : w1.cell? ⟨w.heap.size + 1, 2, none⟩ = some (.int .i64 0) := by go_simp
  have hr3 : w1.cell? ⟨w.heap.size + 1, 3, none⟩ = some (.int .i64 0) := by go_simp
  have hf0 : w1.frozen? ⟨w.heap.size + 1, 0, none⟩ = false := by go_simp
  have hf1 : w1.frozen? ⟨w.heap.size + 1, 1, none⟩ = false := by go_simp
  have hf2 : w1.frozen? ⟨w.heap.size + 1, 2, none⟩ = false := by go_simp
  have hf3 : w1.frozen? ⟨w.heap.size + 1, 3, none⟩ = false := by go_simp
  clear k1 f1
  have k0 : ((((w1.setCell ⟨w.heap.size + 1, 0, none⟩ (.int .i64 0)).setCell ⟨w.heap.size + 1, 1, none⟩ (.int .i64 0)).setCell ⟨w.heap.size + 1, 2, none⟩ (.int .i64 0)).setCell ⟨w.heap.size + 1, 3, none⟩ (.int .i64 0)).cell? ⟨w.heap.size + 1, 0, none⟩ = some (.int .i64 0) := by go_simp
  have k1 : ((((w1.setCell ⟨w.heap.size + 1, 0, none⟩ (.int .i64 0)).setCell ⟨w.heap.size + 1, 1, none⟩ (.int .i64 0)).setCell ⟨w.heap.size + 1, 2, none⟩ (.int .i64 0)).setCell ⟨w.heap.size + 1, 3, none⟩ (.int .i64 0)).cell? ⟨w.heap.size + 1, 1, none⟩ = some (.int .i64 0) := by go_simp
  have k2 : ((((w1.setCell ⟨w.heap.size + 1, 0, none⟩ (.int .i64 0)).setCell ⟨w.heap.size + 1, 1, none⟩ (.int .i64 0)).setCell ⟨w.heap.size + 1, 2, none⟩ (.int .i64 0)).setCell ⟨w.heap.size + 1, 3, none⟩ (.int .i64 0)).cell? ⟨w.heap.size + 1, 2, none⟩ = some (.int .i64 0) := by go_simp
  have k3 : ((((w1.setCell ⟨w.heap.size + 1, 0, none⟩ (.int .i64 0)).setCell ⟨w.heap.size + 1, 1, none⟩ (.int .i64 0)).setCell ⟨w.heap.size + 1, 2, none⟩ (.int .i64 0)).setCell ⟨w.heap.size + 1, 3, none⟩ (.int .i64 0)).cell? ⟨w.heap.size + 1, 3, none⟩ = some (.int .i64 0) := by go_simp
  have KK := Lib.hid (And.intro k0 (And.intro k1 (And.intro k2 k3)))
  clear k0 k1 k2 k3
  go_wp2
  obtain ⟨k0, k1, k2, k3⟩ := KK.out
  exact bodyPost_ret (v := .tuple #[.agg #[.int .i64 0, .int .i64 0, .int .i64 0, .int .i64 0], .bool false]) (by simp [results, Tryz.results18, go_sem, k0, k1, k2, k3]) rfl ⟨rfl, (((B1.setCell (by simp) _).setCell (by simp) _).setCell (by simp) _).setCell (by simp) _⟩
end Go.Proofs.YtkffpiaagjcmpaaGreat
