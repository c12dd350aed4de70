import Derived.Test.YtndnhlhnjiopfaaGreatToRkHu
namespace Go.Proofs.YtndnhlhnjiopfaaGreat
set_option maxRecDepth 100000
set_option linter.unusedVariables false
set_option linter.unusedSimpArgs false
open Go.RowKit
theorem Bh {l:List V2} (h:AG l=true):3<=l.length/\l.length<=16/\l.all AB=true:=by
 simp only [AG,Bool.and_eq_true,Cy] at h
 exact ⟨by omega,by omega,h.1.2⟩
def C6 (a b:List V2):Nat->List V2
 | 0=>[]
 | k+1=>C6 a b k++Bb b (a.getD k (0,0)).1 (a.getD k (0,0)).2
theorem DV (a b:List V2):∀ k,(C6 a b k).length=k*b.length
 | 0=>by simp [C6]
 | k+1=>by simp only [C6,List.length_append,DV a b k,FR,Nat.add_mul,Nat.one_mul]
def E5 (a b:List V2):List V2:=At (C6 a b a.length)
def HL (a b:List V2):List V2:=if AG a=true/\AG b=true/\a.length*b.length<=64/\AG (E5 a b)=true then E5 a b else []
theorem Mn {a b:List V2} (h:AG a=false∨AG b=false∨64<a.length*b.length∨AG (E5 a b)=false):HL a b=[]:=by
 unfold HL
 rw [if_neg]
 rintro ⟨h1,h2,h3,h4⟩
 rcases h with h|h|h|h
 ·rw [h] at h1;cases h1
 ·rw [h] at h2;cases h2
 ·omega
 ·rw [h] at h4;cases h4
theorem Vs {a b:List V2} (h1:AG a=true) (h2:AG b=true) (h3:a.length*b.length<=64) (h4:AG (E5 a b)=true):HL a b=E5 a b:=by unfold HL;rw [if_pos ⟨h1,h2,h3,h4⟩]
theorem Vt {m n:Nat} (h1:m<=16) (h2:n<=16):m*n<=256/\IntKind.i64.wrap (((m:Nat):Int)*((n:Nat):Int))=((m*n:Nat):Int):=by
 have h:m*n<=16*16:=Nat.mul_le_mul h1 h2
 refine ⟨by omega,?_⟩
 rw [← Int.natCast_mul,AE (by omega) (by omega)]
theorem Vu {k m n:Nat} (h1:k<=m) (h2:m*n<=256):k*n<=256:=Nat.le_trans (Nat.mul_le_mul_right n h1) h2
theorem SZ {k m n j:Nat} (h1:k<m) (h2:m*n<=256) (h3:j<=n):k*n+j<=256:=by
 have:=Nat.mul_le_mul_right n (show k+1<=m from h1)
 rw [Nat.add_mul,Nat.one_mul] at this
 omega
def KY (l:List V2):List V2:=l.map λ p=>(-p.1,-p.2)
def HN (l:List V2):List V2:=if l.all AB=true then KY l else []
theorem HQ (l:List V2):(KY l).length=l.length:=by simp [KY]
theorem RD {l:List V2} (h:l.all AB=true):HN l=KY l:=by unfold HN;rw [if_pos h]
theorem Wy {l:List V2} (h:l.all AB=false):HN l=[]:=by unfold HN;rw [if_neg (by rw [h];simp)]
theorem Um {l:List V2} {k:Nat} (hk:k<l.length) (hv:AB (l.getD k (0,0))=true):AA (KY (l.take k))++[[.int (IntKind.i64.wrap (0-(l.getD k (0,0)).1)),.int (IntKind.i64.wrap (0-(l.getD k (0,0)).2))]]=AA (KY (l.take (k+1))):=by
 have b:=BL hv
 have e:l.take (k+1)=l.take k++[l.getD k (0,0)]:=by
  rw [List.take_add_one];simp [List.getD,hk]
 rw [AE (by omega) (by omega),AE (by omega) (by omega),e]
 simp [KY,AA,GG,Int.zero_sub]
theorem Un (l:List V2):(HN l).length<=l.length:=by unfold HN;split;rw [HQ];exact Nat.le_refl _;simp
def HT (r o:List V2):List V2:=HL o (HN r)
def Cb:Con:={ ι:=(List V2)×Int×Int,pre:=λ i=>i.1.length<=1048576,args:=λ i=>[.one (DC.sl 44 [.int,.int] (AA i.1)),DA.agg [cI i.2.1,cI i.2.2]],res:=λ i=>⟨false,[none],[.own 44 [.int,.int] (AA (Bb i.1 i.2.1 i.2.2))]⟩ }
theorem Oa:Cb.Ok Tryz.prog 58:=by
 refine fok (X:=⟨tt,[],[],31,[]⟩) mixed AM (CTok.nil _) Tryz.func58 (λ (i:(List V2)×Int×Int)=>[(3,.mk 4 (Nat) (λ x1=>{ tm:=[(3,tP 1 0),(9,tX 2),(10,tI (nI ((AA i.1).length))),(11,tI (x1:Int)),(5,tX 3)],en:=[(1,.box [kI i.2.1,kI i.2.2]),(2,.view 44 [.int,.int] (AA i.1) []),(3,.own 44 [.int,.int] (AA (Bb (i.1.take x1) i.2.1 i.2.2)))] }) (λ x1=>x1<=i.1.length) (λ x1=>i.1.length-x1) (λ _=>[]))]) ?_
 rintro ⟨l,dx,dy⟩ hpre
 have hpre:l.length<=1048576:=hpre
 refine AL (q:=let Z3:=nI ((AA l).length);(∃ x1:Nat,(x1<=l.length)/\((rf (vI Z3))/\(vI (0:Int)=vI (x1:Int))/\(rf (vI dx))/\(rf (vI dy))/\(rf (AA l))/\(([]:List (List Dat))=(AA (Bb (l.take x1) dx dy)))))/\∀ x1:Nat,let Z2:=(AA l).getD x1 [];let Z5:=wR (((Z2.getD 1 (.int 0))).n+dy);let Z4:=wR (((Z2.getD 0 (.int 0))).n+dx);let Z1:=AA (Bb (l.take x1) dx dy);(x1<=l.length)->(ifB ((decide ((x1:Int)<Z3))) ((0<=(x1:Int)/\(x1:Int)<((AA l).length:Int))/\((x1<(AA l).length)/\((Z1.length+([[Dat.int Z4,Dat.int Z5]]:List (List Dat)).length<=2199023255552)/\(∃ y2:Nat,(y2<=l.length)/\(l.length-y2<l.length-x1)/\((rf (vI Z3))/\(vI (wR ((x1:Int)+(1:Int)))=vI (y2:Int))/\(rf (vI dx))/\(rf (vI dy))/\(rf (AA l))/\((Z1++([[Dat.int Z4,Dat.int Z5]]:List (List Dat)))=(AA (Bb (l.take y2) dx dy)))))))) ((Z1=AA (Bb l dx dy))))) (by kernel_rfl) ?_
 conv=>zeta
 delta ifB vI wR nI
 have hvl:=AD l
 refine ⟨⟨0,by
  omega,?_⟩,?_⟩
 ·refine ⟨rfl,rfl,rfl,rfl,rfl,?_⟩
  rfl
 intro (k:Nat) hki1
 have hki1:k<=l.length:=hki1
 have hml:(AA (Bb (l.take k) dx dy)).length=k:=by rw [AD,FR,List.length_take];omega
 refine And.symm ⟨λ c9=>?_,λ c9=>?_⟩
 ·try simp only [nrm] at c9
  rw [show k=l.length by omega,List.take_length]
 try simp only [nrm] at c9
 refine ao (by omega) λ o10=>?_
 refine ao (by omega) λ o11=>?_
 refine ao (by simp only [AD,FR,HQ,DV,List.length_append,List.length_take,List.length_cons,List.length_nil];omega) λ o12=>?_
 refine ⟨k+1,by
  omega,by
  omega,?_⟩
 refine ⟨rfl,?_,rfl,rfl,rfl,?_⟩
 ·exact Ac (AE (by omega) (by omega))
 exact SM (by omega)
def HW:Con:={ ι:=(List V2)×(List V2),pre:=λ i=>i.1.length<=1048576/\i.2.length<=1048576,args:=λ i=>[.one (DC.sl 44 [.int,.int] (AA i.1)),.one (DC.sl 44 [.int,.int] (AA i.2))],res:=λ i=>⟨false,[none],[.own 44 [.int,.int] (AA (HL i.1 i.2))]⟩ }
theorem Vv:HW.Ok Tryz.prog 61:=by
 refine fok (X:=⟨tt,[(37,AR),(58,Cb),(99,F4)],[],44,[]⟩) mixed AM (CTok.cons El (CTok.cons Oa (CTok.cons Ul (CTok.nil _)))) Tryz.func61 (λ (i:(List V2)×(List V2))=>[(5,.mk 4 (Nat) (λ x1=>{ tm:=[(1,tX 1),(26,tX 2),(27,tI (nI ((AA i.1).length))),(28,tI (nI x1)),(5,tX 3)],en:=[(1,.view 44 [.int,.int] (AA i.2) []),(2,.view 44 [.int,.int] (AA i.1) []),(3,.own 44 [.int,.int] (AA (C6 i.1 i.2 x1)))] }) (λ x1=>x1<=i.1.length) (λ x1=>i.1.length-x1) (λ _=>[]))]) ?_
 rintro ⟨a,b⟩ hpre
 have hpre:a.length<=1048576/\b.length<=1048576:=hpre
 refine AL (q:=let Z4:=DC.sl 44 [.int,.int] (AA b);let Z2:=nI ((AA a).length);let Z1:=(([]:List (List Dat))=AA (HL a b));∃ i1:(List V2),[DA.one (DC.sl 44 [.int,.int] (AA a))]=AR.args i1/\AR.pre i1/\(ifB ((!(!(AG i1)))) (∃ i2:(List V2),[DA.one Z4]=AR.args i2/\AR.pre i2/\(ifB ((!(!(AG i2)))) (ifB ((decide ((wR (Z2*(nI ((AA b).length))))>(64:Int)))) Z1 ((∃ x1:Nat,(x1<=a.length)/\((rf (vI Z2))/\(vI (0:Int)=vI (nI x1))/\(rf (AA b))/\(rf (AA a))/\(([]:List (List Dat))=(AA (C6 a b x1)))))/\∀ x1:Nat,let Z3:=AA (C6 a b x1);(x1<=a.length)->(ifB ((decide ((nI x1)<Z2))) ((0<=(nI x1)/\(nI x1)<((AA a).length:Int))/\((x1<(AA a).length)/\(∃ i3:(List V2)×Int×Int,let Z5:=Bb i3.1 i3.2.1 i3.2.2;[DA.one Z4,DA.agg [cI (((((AA a).getD x1 []).getD 0 (.int 0))).n),cI (((((AA a).getD x1 []).getD 1 (.int 0))).n)]]=Cb.args i3/\Cb.pre i3/\((Z3.length+(AA Z5).length<=2199023255552)/\(∃ y2:Nat,(y2<=a.length)/\(a.length-y2<a.length-x1)/\((rf (vI Z2))/\(vI (wR ((nI x1)+(1:Int)))=vI (nI y2))/\(rf (AA b))/\(rf (AA a))/\((Z3++AA Z5)=(AA (C6 a b y2))))))))) (∃ i4:(List V2),[DA.one (DC.sl 44 [.int,.int] Z3)]=F4.args i4/\F4.pre i4/\(∃ i5:(List V2),[DA.one (DC.sl 44 [.int,.int] (AA (At i4)))]=AR.args i5/\AR.pre i5/\(ifB ((!(AG i5))) Z1 ((AA (At i4)=AA (HL a b))))))))) Z1)) Z1)) (by kernel_rfl) ?_
 conv=>zeta
 delta ifB vI wR nI
 have ha:=AD a
 have hb:=AD b
 refine ⟨a,by
  rfl,by
  trivial,?_⟩
 refine And.symm ⟨λ c4=>?_,λ c4=>?_⟩
 ·try simp only [nrm] at c4
  have hE:HL a b=[]:=Mn (b:=b) (.inl c4)
  rw [hE];rfl
 try simp only [nrm] at c4
 refine ⟨b,by
  rfl,by
  trivial,?_⟩
 refine And.symm ⟨λ c8=>?_,λ c8=>?_⟩
 ·try simp only [nrm] at c8
  have hE:HL a b=[]:=Mn (.inr (.inl c8))
  rw [hE];rfl
 try simp only [nrm] at c8
 have pa:=Bh c4
 have pb:=Bh c8
 have hm:=Vt pa.2.1 pb.2.1
 refine ⟨λ c9=>?_,λ c9=>?_⟩
 ·try simp only [nrm] at c9
  rw [ha,hb,hm.2] at c9
  have hE:HL a b=[]:=Mn (.inr (.inr (.inl (by omega))))
  rw [hE];rfl
 try simp only [nrm] at c9
 rw [ha,hb,hm.2] at c9
 have h64:a.length*b.length<=64:=by omega
 refine ⟨⟨0,by
  omega,?_⟩,?_⟩
 ·refine ⟨rfl,?_,rfl,rfl,?_⟩
  ·rfl
  rfl
 intro (k:Nat) hki11
 have hki11:k<=a.length:=hki11
 refine ⟨λ c18=>?_,λ c18=>?_⟩
 ·try simp only [nrm] at c18
  have hka:k<a.length:=by omega
  have hsl:=DV a b k
  have hks:=SZ hka hm.1 (Nat.le_refl _)
  refine ao (by omega) λ o19=>?_
  refine ao (by omega) λ o20=>?_
  refine ⟨(b,(a.getD k (0,0)).1,(a.getD k (0,0)).2),by
   rw [Ao hka,Ap hka];rfl,by
   exact hpre.2,?_⟩
  refine ao (a:=(AA (C6 a b k)).length+(AA (Bb b ((a.getD k (0,0)).1) ((a.getD k (0,0)).2))).length<=2199023255552) (by simp only [AD,FR,HQ,DV,List.length_append,List.length_take,List.length_cons,List.length_nil];omega) λ o24=>?_
  refine ⟨k+1,by
   trivial,by
   omega,?_⟩
  refine ⟨rfl,?_,rfl,rfl,?_⟩
  ·exact Ac (AE (by omega) (by omega))
  rw [← Fa];rfl
 try simp only [nrm] at c18
 have hk:a.length=k:=by omega
 have hS:At (C6 a b k)=E5 a b:=by unfold E5;rw [hk]
 refine ⟨(C6 a b k),by
  rfl,by
  show (C6 a b k).length<=1048576
  rw [DV];have:=Vu (show k<=a.length by omega) hm.1;omega,?_⟩
 refine ⟨(At (C6 a b k)),by
  rfl,by
  trivial,?_⟩
 refine ⟨λ c39=>?_,λ c39=>?_⟩
 ·try simp only [nrm] at c39
  rw [hS] at c39
  have hE:HL a b=[]:=Mn (.inr (.inr (.inr c39)))
  rw [hE];rfl
 try simp only [nrm] at c39
 rw [hS] at c39
 have hE:=Vs c4 c8 h64 c39
 rw [hS,hE]
def HY:Con:={ ι:=(List V2),pre:=λ i=>i.length<=1048576,args:=λ i=>[.one (DC.sl 44 [.int,.int] (AA i))],res:=λ i=>⟨false,[none],[.own 44 [.int,.int] (AA (HN i))]⟩ }
theorem Vw:HY.Ok Tryz.prog 62:=by
 refine fok (X:=⟨tt,[(60,A0)],[],28,[]⟩) mixed AM (CTok.cons GX (CTok.nil _)) Tryz.func62 (λ (i:(List V2))=>[(5,.mk 3 (Nat) (λ x1=>{ tm:=[(10,tX 1),(11,tI (nI ((AA i).length))),(12,tI (nI x1)),(3,tX 2)],en:=[(1,.view 44 [.int,.int] (AA i) []),(2,.own 44 [.int,.int] (AA (KY (i.take x1))))] }) (λ x1=>x1<=i.length) (λ x1=>i.length-x1) (λ _=>[]))]) ?_
 intro (l:List V2) hpre
 have hpre:l.length<=1048576:=hpre
 refine AL (q:=let Z3:=nI ((AA l).length);∃ i1:(List V2),[DA.one (DC.sl 44 [.int,.int] (AA l))]=A0.args i1/\A0.pre i1/\(ifB ((!(i1.all AB))) ((([]:List (List Dat))=AA (HN l))) ((∃ x1:Nat,(x1<=l.length)/\((rf (vI Z3))/\(vI (0:Int)=vI (nI x1))/\(rf (AA l))/\(([]:List (List Dat))=(AA (KY (l.take x1))))))/\∀ x1:Nat,let Z2:=AA (KY (l.take x1));let Z1:=(AA l).getD x1 [];let Z5:=wR (0-((Z1.getD 1 (.int 0))).n);let Z4:=wR (0-((Z1.getD 0 (.int 0))).n);(x1<=l.length)->(ifB ((decide ((nI x1)<Z3))) ((0<=(nI x1)/\(nI x1)<((AA l).length:Int))/\((x1<(AA l).length)/\((Z2.length+([[Dat.int Z4,Dat.int Z5]]:List (List Dat)).length<=2199023255552)/\(∃ y2:Nat,(y2<=l.length)/\(l.length-y2<l.length-x1)/\((rf (vI Z3))/\(vI (wR ((nI x1)+(1:Int)))=vI (nI y2))/\(rf (AA l))/\((Z2++([[Dat.int Z4,Dat.int Z5]]:List (List Dat)))=(AA (KY (l.take y2))))))))) ((Z2=AA (HN l))))))) (by kernel_rfl) ?_
 conv=>zeta
 delta ifB vI wR nI
 have hvl:=AD l
 refine ⟨l,by
  rfl,by
  trivial,?_⟩
 refine ⟨λ c4=>?_,λ c4=>?_⟩
 ·try simp only [nrm] at c4
  have hE:=Wy c4
  rw [hE];rfl
 try simp only [nrm] at c4
 have hE:=RD c4
 refine ⟨⟨0,by
  omega,?_⟩,?_⟩
 ·refine ⟨rfl,?_,rfl,?_⟩
  ·rfl
  rfl
 intro (k:Nat) hki6
 have hki6:k<=l.length:=hki6
 refine And.symm ⟨λ c12=>?_,λ c12=>?_⟩
 ·try simp only [nrm] at c12
  rw [hE,show k=l.length by omega,List.take_length]
 try simp only [nrm] at c12
 have hkl:k<l.length:=by omega
 have hV:=Ai c4 hkl
 refine ao (by omega) λ o13=>?_
 refine ao (by omega) λ o14=>?_
 refine ao (by simp only [AD,FR,HQ,DV,List.length_append,List.length_take,List.length_cons,List.length_nil];omega) λ o15=>?_
 refine ⟨k+1,by
  trivial,by
  omega,?_⟩
 refine ⟨rfl,?_,rfl,?_⟩
 ·exact Ac (AE (by omega) (by omega))
 rw [Ao hkl,Ap hkl];exact Um hkl hV
def HZ:Con:={ ι:=(List V2)×(List V2),pre:=λ i=>i.1.length<=1048576/\i.2.length<=1048576,args:=λ i=>[.one (DC.sl 44 [.int,.int] (AA i.1)),.one (DC.sl 44 [.int,.int] (AA i.2))],res:=λ i=>⟨false,[none],[.own 44 [.int,.int] (AA (HT i.1 i.2))]⟩ }
theorem Vx:HZ.Ok Tryz.prog 28:=by
 refine fok (X:=⟨tt,[(62,HY),(61,HW)],[],9,[]⟩) mixed AM (CTok.cons Vw (CTok.cons Vv (CTok.nil _))) Tryz.func28 (λ _=>[]) ?_
 rintro ⟨a,b⟩ hpre
 have hpre:a.length<=1048576/\b.length<=1048576:=hpre
 refine AL (q:=∃ i1:(List V2),[DA.one (DC.sl 44 [.int,.int] (AA a))]=HY.args i1/\HY.pre i1/\(∃ i2:(List V2)×(List V2),[DA.one (DC.sl 44 [.int,.int] (AA b)),DA.one (DC.sl 44 [.int,.int] (AA (HN i1)))]=HW.args i2/\HW.pre i2/\((AA (HL i2.1 i2.2)=AA (HT a b))))) (by kernel_rfl) ?_
 have hn:=Un a
 refine ⟨a,by
  rfl,by
  exact hpre.1,?_⟩
 refine ⟨(b,(HN a)),by
  rfl,by
  show b.length<=1048576/\(HN a).length<=1048576
  exact ⟨hpre.2,by omega⟩,?_⟩
 rfl
end Go.Proofs.YtndnhlhnjiopfaaGreat
