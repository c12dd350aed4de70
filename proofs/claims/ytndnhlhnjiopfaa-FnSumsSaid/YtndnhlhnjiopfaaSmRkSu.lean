import Derived.Test.YtndnhlhnjiopfaaSmRkHu
namespace Go.Proofs.Ytndnhlhnjiopfaa
set_option maxRecDepth 100000
set_option linter.unusedVariables false
set_option linter.unusedSimpArgs false
open Go.RowKit
theorem Cf {l:List V2} (h:AI l=true):3<=l.length/\l.length<=16/\l.all AE=true:=by
 simp only [AI,Bool.and_eq_true,DR] at h
 exact ⟨by omega,by omega,h.1.2⟩
def Bv (a b:List V2):Nat->List V2
 | 0=>[]
 | k+1=>Bv a b k++EF b (a.getD k (0,0)).1 (a.getD k (0,0)).2
theorem CE (a b:List V2):∀ k,(Bv a b k).length=k*b.length
 | 0=>by simp [Bv]
 | k+1=>by simp only [Bv,List.length_append,CE a b k,Gu,Nat.add_mul,Nat.one_mul]
def DN (a b:List V2):List V2:=Au (Bv a b a.length)
def BZ (a b:List V2):List V2:=if AI a=true/\AI b=true/\a.length*b.length<=64/\AI (DN a b)=true then DN a b else []
theorem MK {a b:List V2} (h:AI a=false∨AI b=false∨64<a.length*b.length∨AI (DN a b)=false):BZ a b=[]:=by
 unfold BZ
 rw [if_neg]
 rintro ⟨h1,h2,h3,h4⟩
 rcases h with h|h|h|h
 ·rw [h] at h1;cases h1
 ·rw [h] at h2;cases h2
 ·omega
 ·rw [h] at h4;cases h4
theorem VD {a b:List V2} (h1:AI a=true) (h2:AI b=true) (h3:a.length*b.length<=64) (h4:AI (DN a b)=true):BZ a b=DN a b:=by unfold BZ;rw [if_pos ⟨h1,h2,h3,h4⟩]
theorem VE {m n:Nat} (h1:m<=16) (h2:n<=16):m*n<=256/\IntKind.i64.wrap (((m:Nat):Int)*((n:Nat):Int))=((m*n:Nat):Int):=by
 have h:m*n<=16*16:=Nat.mul_le_mul h1 h2
 refine ⟨by omega,?_⟩
 rw [← Int.natCast_mul,AC (by omega) (by omega)]
theorem VF {k m n:Nat} (h1:k<=m) (h2:m*n<=256):k*n<=256:=Nat.le_trans (Nat.mul_le_mul_right n h1) h2
theorem Rl {k m n j:Nat} (h1:k<m) (h2:m*n<=256) (h3:j<=n):k*n+j<=256:=by
 have:=Nat.mul_le_mul_right n (show k+1<=m from h1)
 rw [Nat.add_mul,Nat.one_mul] at this
 omega
def Wr (l:List V2):List V2:=l.map λ p=>(-p.1,-p.2)
theorem Nz (l:List V2):(Wr l).length=l.length:=by simp [Wr]
def Fo:Con:={ ι:=(List V2)×Int×Int,pre:=λ i=>i.1.length<=1048576,args:=λ i=>[.one (DC.sl 27 [.int,.int] (AA i.1)),DA.agg [cI i.2.1,cI i.2.2]],res:=λ i=>⟨false,[none],[.own 27 [.int,.int] (AA (EF i.1 i.2.1 i.2.2))]⟩ }
theorem Tw:Fo.Ok Try.prog 29:=by
 refine fok (X:=⟨tt,[],[],31,[]⟩) mixed AR (CTok.nil _) Try.func29 (λ (i:(List V2)×Int×Int)=>[(3,.mk 4 (Nat) (λ x1=>{ tm:=[(3,tP 1 0),(9,tX 2),(10,tI (nI ((AA i.1).length))),(11,tI (x1:Int)),(5,tX 3)],en:=[(1,.box [kI i.2.1,kI i.2.2]),(2,.view 27 [.int,.int] (AA i.1) []),(3,.own 27 [.int,.int] (AA (EF (i.1.take x1) i.2.1 i.2.2)))] }) (λ x1=>x1<=i.1.length) (λ x1=>i.1.length-x1) (λ _=>[]))]) ?_
 rintro ⟨l,dx,dy⟩ hpre
 have hpre:l.length<=1048576:=hpre
 refine AQ (q:=let Z3:=nI ((AA l).length);(∃ x1:Nat,(x1<=l.length)/\((rf (vI Z3))/\(vI (0:Int)=vI (x1:Int))/\(rf (vI dx))/\(rf (vI dy))/\(rf (AA l))/\(([]:List (List Dat))=(AA (EF (l.take x1) dx dy)))))/\∀ x1:Nat,let Z2:=(AA l).getD x1 [];let Z5:=wR (((Z2.getD 1 (.int 0))).n+dy);let Z4:=wR (((Z2.getD 0 (.int 0))).n+dx);let Z1:=AA (EF (l.take x1) dx dy);(x1<=l.length)->(ifB ((decide ((x1:Int)<Z3))) ((0<=(x1:Int)/\(x1:Int)<((AA l).length:Int))/\((x1<(AA l).length)/\((Z1.length+([[Dat.int Z4,Dat.int Z5]]:List (List Dat)).length<=2199023255552)/\(∃ y2:Nat,(y2<=l.length)/\(l.length-y2<l.length-x1)/\((rf (vI Z3))/\(vI (wR ((x1:Int)+(1:Int)))=vI (y2:Int))/\(rf (vI dx))/\(rf (vI dy))/\(rf (AA l))/\((Z1++([[Dat.int Z4,Dat.int Z5]]:List (List Dat)))=(AA (EF (l.take y2) dx dy)))))))) ((Z1=AA (EF l dx dy))))) (by kernel_rfl) ?_
 conv=>zeta
 delta ifB vI wR nI
 have hvl:=AB l
 refine ⟨⟨0,by
  omega,?_⟩,?_⟩
 ·refine ⟨rfl,rfl,rfl,rfl,rfl,?_⟩
  rfl
 intro (k:Nat) hki1
 have hki1:k<=l.length:=hki1
 have hml:(AA (EF (l.take k) dx dy)).length=k:=by rw [AB,Gu,List.length_take];omega
 refine And.symm ⟨λ c9=>?_,λ c9=>?_⟩
 ·try simp only [nrm] at c9
  rw [show k=l.length by omega,List.take_length]
 try simp only [nrm] at c9
 refine ao (by omega) λ o10=>?_
 refine ao (by omega) λ o11=>?_
 refine ao (by simp only [AB,Gu,Nz,CE,List.length_append,List.length_take,List.length_cons,List.length_nil];omega) λ o12=>?_
 refine ⟨k+1,by
  omega,by
  omega,?_⟩
 refine ⟨rfl,?_,rfl,rfl,rfl,?_⟩
 ·exact AX (AC (by omega) (by omega))
 exact RZ (by omega)
def EI:Con:={ ι:=(List V2)×(List V2),pre:=λ i=>i.1.length<=1048576/\i.2.length<=1048576,args:=λ i=>[.one (DC.sl 27 [.int,.int] (AA i.1)),.one (DC.sl 27 [.int,.int] (AA i.2))],res:=λ i=>⟨false,[none],[.own 27 [.int,.int] (AA (BZ i.1 i.2))]⟩ }
theorem VG:EI.Ok Try.prog 12:=by
 refine fok (X:=⟨tt,[(9,AZ),(29,Fo),(6,Fm)],[],44,[]⟩) mixed AR (CTok.cons Ec (CTok.cons Tw (CTok.cons Tv (CTok.nil _)))) Try.func12 (λ (i:(List V2)×(List V2))=>[(5,.mk 4 (Nat) (λ x1=>{ tm:=[(1,tX 1),(26,tX 2),(27,tI (nI ((AA i.1).length))),(28,tI (nI x1)),(5,tX 3)],en:=[(1,.view 27 [.int,.int] (AA i.2) []),(2,.view 27 [.int,.int] (AA i.1) []),(3,.own 27 [.int,.int] (AA (Bv i.1 i.2 x1)))] }) (λ x1=>x1<=i.1.length) (λ x1=>i.1.length-x1) (λ _=>[]))]) ?_
 rintro ⟨a,b⟩ hpre
 have hpre:a.length<=1048576/\b.length<=1048576:=hpre
 refine AQ (q:=let Z4:=DC.sl 27 [.int,.int] (AA b);let Z2:=nI ((AA a).length);let Z1:=(([]:List (List Dat))=AA (BZ a b));∃ i1:(List V2),[DA.one (DC.sl 27 [.int,.int] (AA a))]=AZ.args i1/\AZ.pre i1/\(ifB ((!(!(AI i1)))) (∃ i2:(List V2),[DA.one Z4]=AZ.args i2/\AZ.pre i2/\(ifB ((!(!(AI i2)))) (ifB ((decide ((wR (Z2*(nI ((AA b).length))))>(64:Int)))) Z1 ((∃ x1:Nat,(x1<=a.length)/\((rf (vI Z2))/\(vI (0:Int)=vI (nI x1))/\(rf (AA b))/\(rf (AA a))/\(([]:List (List Dat))=(AA (Bv a b x1)))))/\∀ x1:Nat,let Z3:=AA (Bv a b x1);(x1<=a.length)->(ifB ((decide ((nI x1)<Z2))) ((0<=(nI x1)/\(nI x1)<((AA a).length:Int))/\((x1<(AA a).length)/\(∃ i3:(List V2)×Int×Int,let Z5:=EF i3.1 i3.2.1 i3.2.2;[DA.one Z4,DA.agg [cI (((((AA a).getD x1 []).getD 0 (.int 0))).n),cI (((((AA a).getD x1 []).getD 1 (.int 0))).n)]]=Fo.args i3/\Fo.pre i3/\((Z3.length+(AA Z5).length<=2199023255552)/\(∃ y2:Nat,(y2<=a.length)/\(a.length-y2<a.length-x1)/\((rf (vI Z2))/\(vI (wR ((nI x1)+(1:Int)))=vI (nI y2))/\(rf (AA b))/\(rf (AA a))/\((Z3++AA Z5)=(AA (Bv a b y2))))))))) (∃ i4:(List V2),[DA.one (DC.sl 27 [.int,.int] Z3)]=Fm.args i4/\Fm.pre i4/\(∃ i5:(List V2),[DA.one (DC.sl 27 [.int,.int] (AA (Au i4)))]=AZ.args i5/\AZ.pre i5/\(ifB ((!(AI i5))) Z1 ((AA (Au i4)=AA (BZ a b))))))))) Z1)) Z1)) (by kernel_rfl) ?_
 conv=>zeta
 delta ifB vI wR nI
 have ha:=AB a
 have hb:=AB b
 refine ⟨a,by
  rfl,by
  trivial,?_⟩
 refine And.symm ⟨λ c4=>?_,λ c4=>?_⟩
 ·try simp only [nrm] at c4
  have hE:BZ a b=[]:=MK (b:=b) (.inl c4)
  rw [hE];rfl
 try simp only [nrm] at c4
 refine ⟨b,by
  rfl,by
  trivial,?_⟩
 refine And.symm ⟨λ c8=>?_,λ c8=>?_⟩
 ·try simp only [nrm] at c8
  have hE:BZ a b=[]:=MK (.inr (.inl c8))
  rw [hE];rfl
 try simp only [nrm] at c8
 have pa:=Cf c4
 have pb:=Cf c8
 have hm:=VE pa.2.1 pb.2.1
 refine ⟨λ c9=>?_,λ c9=>?_⟩
 ·try simp only [nrm] at c9
  rw [ha,hb,hm.2] at c9
  have hE:BZ a b=[]:=MK (.inr (.inr (.inl (by omega))))
  rw [hE];rfl
 try simp only [nrm] at c9
 rw [ha,hb,hm.2] at c9
 have h64:a.length*b.length<=64:=by omega
 refine ⟨⟨0,by
  omega,?_⟩,?_⟩
 ·refine ⟨rfl,?_,rfl,rfl,?_⟩
  ·rfl
  rfl
 intro (k:Nat) hki11
 have hki11:k<=a.length:=hki11
 refine ⟨λ c18=>?_,λ c18=>?_⟩
 ·try simp only [nrm] at c18
  have hka:k<a.length:=by omega
  have hsl:=CE a b k
  have hks:=Rl hka hm.1 (Nat.le_refl _)
  refine ao (by omega) λ o19=>?_
  refine ao (by omega) λ o20=>?_
  refine ⟨(b,(a.getD k (0,0)).1,(a.getD k (0,0)).2),by
   rw [AJ hka,AK hka];rfl,by
   exact hpre.2,?_⟩
  refine ao (a:=(AA (Bv a b k)).length+(AA (EF b ((a.getD k (0,0)).1) ((a.getD k (0,0)).2))).length<=2199023255552) (by simp only [AB,Gu,Nz,CE,List.length_append,List.length_take,List.length_cons,List.length_nil];omega) λ o24=>?_
  refine ⟨k+1,by
   trivial,by
   omega,?_⟩
  refine ⟨rfl,?_,rfl,rfl,?_⟩
  ·exact AX (AC (by omega) (by omega))
  rw [← Cw];rfl
 try simp only [nrm] at c18
 have hk:a.length=k:=by omega
 have hS:Au (Bv a b k)=DN a b:=by unfold DN;rw [hk]
 refine ⟨(Bv a b k),by
  rfl,by
  show (Bv a b k).length<=1048576
  rw [CE];have:=VF (show k<=a.length by omega) hm.1;omega,?_⟩
 refine ⟨(Au (Bv a b k)),by
  rfl,by
  trivial,?_⟩
 refine ⟨λ c39=>?_,λ c39=>?_⟩
 ·try simp only [nrm] at c39
  rw [hS] at c39
  have hE:BZ a b=[]:=MK (.inr (.inr (.inr c39)))
  rw [hE];rfl
 try simp only [nrm] at c39
 rw [hS] at c39
 have hE:=VD c4 c8 h64 c39
 rw [hS,hE]
end Go.Proofs.Ytndnhlhnjiopfaa
