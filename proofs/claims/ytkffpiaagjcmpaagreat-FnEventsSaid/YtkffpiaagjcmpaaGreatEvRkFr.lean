import Derived.Test.YtkffpiaagjcmpaaGreatEvRkD2
import Derived.Test.YtkffpiaagjcmpaaGreatEvHulP
import Derived.Test.YtkffpiaagjcmpaaGreatEvRkD1
import Derived.Test.YtkffpiaagjcmpaaGreatEvRkG
import Derived.RegionTactic
import Derived.BigRegion
import Derived.Outline
import Derived.WalkSpells
import Derived.Test.YtkffpiaagjcmpaaGreatEvRkJ
namespace Go.Proofs.YtkffpiaagjcmpaaGreat
set_option linter.unusedVariables false
set_option linter.unusedSimpArgs false
theorem Tg {l:List V2} (h:AK l=true):l.Nodup:=by
 obtain ⟨⟨h3,-⟩,-,hs⟩:=CA.1 h
 rw [List.nodup_iff_pairwise_ne,List.pairwise_iff_getElem]
 intro i j hi hj hij e
 have e:l.getD i (0,0)=l.getD j (0,0):=by simp [List.getD,hi,hj,e]
 by_cases hj1:j=i+1
 ·subst hj1
  have hm:(i+1)%l.length=i+1:=Nat.mod_eq_of_lt hj
  have hk:(i+2)%l.length<l.length:=Nat.mod_lt _ (by omega)
  have n1:(i+2)%l.length≠i:=by
   by_cases hc:i+2<l.length
   ·rw [Nat.mod_eq_of_lt hc];omega
   ·rw [show i+2=l.length by omega,Nat.mod_self];omega
  have n2:(i+2)%l.length≠i+1:=by
   by_cases hc:i+2<l.length
   ·rw [Nat.mod_eq_of_lt hc];omega
   ·rw [show i+2=l.length by omega,Nat.mod_self];omega
  have:=hs i _ hi hk n1 (by rw [hm];exact n2)
  rw [hm,← e] at this
  unfold AH at this
  grind
 ·have hm:(i+1)%l.length=i+1:=Nat.mod_eq_of_lt (by omega)
  have:=hs i j hi hj (by omega) (by rw [hm];omega)
  rw [hm,← e] at this
  unfold AH at this
  grind
theorem NB {b:List UInt8} {z:Int} : ∀ k c,(drF b z k c).1.length<=5
 | 0,c=>by simp [drF]
 | k+1,c=>by
  unfold drF
  split
  ·rename_i h
   have h1:=List.Nodup.length_le_of_subset (Tg h) (λ x hx=>Oc hx)
   have h2:(att b z c).1.length=GV b c:=E8 _ _ _ _
   have h3:=Ri b c
   simp only;omega
  ·exact NB k _
theorem Rt {m:Int} {l:List V2} (h:AK l=true) (h5:l.length<=5) (hm:∀ x ∈ l,(-m<=x.1/\x.1<=m)/\-m<=x.2/\x.2<=m):shape m l=true:=by
 simp only [shape,Bool.and_eq_true,decide_eq_true_eq,List.all_eq_true]
 refine ⟨⟨h,h5⟩,λ x hx=>?_⟩
 have:=hm x hx
 simp only [CV,Bool.and_eq_true,BK]
 omega
theorem WK {b:List UInt8} {z m:Int} (hz:1<=z) (hm:z<=m) (c:Cur):shape m (drP b z c).1=true:=by
 obtain ⟨h1,-,h3⟩:=Pf (b:=b) hz c
 exact Rt h1 (NB 8 c) λ x hx=>by have:=h3 x hx;omega
theorem WL (a b c:V2) (x y:Int):AH (a.1+x,a.2+y) (b.1+x,b.2+y) (c.1+x,c.2+y)=AH a b c:=by
 unfold AH;grind
theorem Yu {l:List V2} {dx dy:Int} (hm:∀ x ∈ l,(-100<=x.1/\x.1<=100)/\-100<=x.2/\x.2<=100) (hx:-100<=dx/\dx<=100) (hy:-100<=dy/\dy<=100):DH l dx dy=l.map λ p=>(p.1+dx,p.2+dy):=by
 have e:CK l dx dy=l.map λ p=>(p.1+dx,p.2+dy):=by
  unfold CK
  refine List.map_congr_left λ p hp=>?_
  have:=hm p hp
  unfold TG
  rw [AC (by omega) (by omega),AC (by omega) (by omega)]
 refine (F5 ?_ ?_).trans e
 ·simp only [AE,CV,Bool.and_eq_true,BK];omega
 ·rw [e,List.all_eq_true]
  intro p hp
  obtain ⟨q,hq,rfl⟩:=List.mem_map.1 hp
  have:=hm q hq
  simp only [AE,CV,Bool.and_eq_true,BK];omega
theorem WM {l:List V2} (h:AK l=true) {dx dy:Int} (hm:∀ x ∈ l,(-100<=x.1/\x.1<=100)/\-100<=x.2/\x.2<=100) (hx:-100<=dx/\dx<=100) (hy:-100<=dy/\dy<=100):AK (l.map λ p=>(p.1+dx,p.2+dy))=true:=by
 obtain ⟨h1,h2,h3⟩:=CA.1 h
 refine CA.2 ⟨by simpa using h1,?_,λ i j hi hj n1 n2=>?_⟩
 ·rw [List.all_eq_true]
  intro p hp
  obtain ⟨q,hq,rfl⟩:=List.mem_map.1 hp
  have:=hm q hq
  simp only [AE,CV,Bool.and_eq_true,BK];omega
 ·simp only [List.length_map] at hi hj n2 ⊢
  have hn:(i+1)%l.length<l.length:=Nat.mod_lt _ (by omega)
  have at_:∀ k,k<l.length->(l.map λ p=>(p.1+dx,p.2+dy)).getD k (0,0)=((l.getD k (0,0)).1+dx,(l.getD k (0,0)).2+dy):=λ k hk=>by simp [List.getD,hk]
  rw [at_ _ hi,at_ _ hj,at_ _ hn,WL]
  exact h3 i j hi hj n1 n2
theorem Th {b:List UInt8} {c:Cur} {dx dy:Int} (hx:0<=dx/\dx<=100) (hy:0<=dy/\dy<=100):shape 200 (DH (drP b 4 c).1 dx dy)=true:=by
 obtain ⟨h1,-,h3⟩:=Pf (b:=b) (z:=4) (by omega) c
 have hm:∀ x ∈ (drP b 4 c).1,(-100<=x.1/\x.1<=100)/\-100<=x.2/\x.2<=100:=λ x hx=>by have:=h3 x hx;omega
 rw [Yu hm (by omega) (by omega)]
 refine Rt (WM h1 hm (by omega) (by omega)) (by rw [List.length_map];exact NB 8 c) λ p hp=>?_
 obtain ⟨q,hq,rfl⟩:=List.mem_map.1 hp
 have:=h3 q hq
 simp only;omega
theorem WN {x:Int} (h:6<=x/\x<=13):shape 200 (AAO x)=true:=by
 have:x=6∨x=7∨x=8∨x=9∨x=10∨x=11∨x=12∨x=13:=by omega
 rcases this with rfl|rfl|rfl|rfl|rfl|rfl|rfl|rfl <;> decide
theorem KP {b:List UInt8} {c:Cur} : ∀ k,∀ l ∈ (obN b c k).1,shape 200 l=true
 | 0,l,hl=>by simp [obN] at hl
 | k+1,l,hl=>by
  rw [Rp] at hl
  rcases List.mem_append.1 hl with hl|hl
  ·exact KP k l hl
  ·rw [List.mem_singleton.1 hl]
   have q1:=A4 b (drP b 4 (obN b c k).2).2 (n:=16) (by omega)
   have q2:=A4 b (blC b (drP b 4 (obN b c k).2).2 16) (n:=12) (by omega)
   exact Th (by omega) (by omega)
theorem Ti {b:List UInt8} {c:Cur} : (∀ l ∈ (Ax b c).1,shape 200 l=true)/\(Ax b c).1.length<=3:=by
 have hl:(GW b c).1.length=G3 b c:=Ht _ _ _
 have hn:=Lb b c
 by_cases h:blV b (GW b c).2 6=0
 ·rw [Ro h]
  refine ⟨λ l hl=>?_,by simp only [List.length_append,List.length_cons,List.length_nil];omega⟩
  rcases List.mem_append.1 hl with hl|hl
  ·exact KP _ l hl
  ·rw [List.mem_singleton.1 hl]
   have q1:=A4 b (blC b (GW b c).2 6) (n:=8) (by omega)
   exact WN (by omega)
 ·rw [Up h]
  exact ⟨λ l hl=>KP _ l hl,by simp only;omega⟩
theorem Yv {b:List UInt8} {c:Cur} : ∀ k,∀ v ∈ (tbN b c k).1,(0<=v.1/\v.1<=30)/\0<=v.2/\v.2<=30
 | 0,l,hl=>by simp [tbN] at hl
 | k+1,v,hl=>by
  rw [M5] at hl
  rcases List.mem_append.1 hl with hl|hl
  ·exact Yv k v hl
  ·rw [List.mem_singleton.1 hl]
   have q1:=A4 b (tbN b c k).2 (n:=18) (by omega)
   have q2:=A4 b (blC b (tbN b c k).2 18) (n:=14) (by omega)
   simp only;omega
theorem GH (b:List UInt8) (c:Cur):AI (GE b c)=true/\(GE b c).obst.length<=3:=by
 obtain ⟨w1,w2⟩:=Ti (b:=b) (c:=c)
 refine ⟨?_,w2⟩
 have q1:=A4 b c (n:=12) (by omega)
 have q2:=A4 b (blC b c 12) (n:=10) (by omega)
 have ht:(Rn b c).1.length=D4 b c:=Hu _ _ _
 have hn:=GF b c
 simp only [AI,Bool.and_eq_true,decide_eq_true_eq,List.all_eq_true]
 refine ⟨⟨⟨⟨λ x hx=>?_,?_⟩,?_⟩,?_⟩,⟨⟨w1,?_⟩,?_⟩,λ v hv=>?_⟩
 ·simp only [List.mem_cons,List.not_mem_nil,or_false] at hx
  simp only [CV,Bool.and_eq_true,BK]
  rcases hx with rfl|rfl
  ·simp only [GE];omega
  ·simp only [GE];omega
 ·show (0:Int)<14+blV b c 12
  omega
 ·show (0:Int)<12+blV b (blC b c 12) 10
  omega
 ·exact WK (by omega) (by omega) _
 ·show (Ax b c).1.length<=4
  omega
 ·show (Rn b c).1.length<=3
  omega
 ·have:=Yv _ v hv
  simp only [CV,Bool.and_eq_true,BK]
  omega
theorem Yw {s:Scn} (h:AI s=true):IA s/\s.obst.length<=4:=by
 simp only [AI,Bool.and_eq_true,shape,decide_eq_true_eq,List.all_eq_true] at h
 refine ⟨⟨by omega,by omega,λ x hx=>?_,by omega⟩,by omega⟩
 have:=h.2.1.1.1 x hx
 omega
end Go.Proofs.YtkffpiaagjcmpaaGreat
namespace Go.Proofs.YtkffpiaagjcmpaaGreat
set_option maxRecDepth 100000
set_option linter.unusedVariables false
set_option linter.unusedSimpArgs false
open Go.RowKit
theorem Ru {l:List V2} (h:AK l=true):3<=l.length/\l.length<=16/\l.all AE=true:=by
 simp only [AK,Bool.and_eq_true,BK] at h
 exact ⟨by omega,by omega,h.1.2⟩
def ED (a b:List V2):Nat->List V2
 | 0=>[]
 | k+1=>ED a b k++CK b (a.getD k (0,0)).1 (a.getD k (0,0)).2
theorem Ej (a b:List V2):∀ k,(ED a b k).length=k*b.length
 | 0=>by simp [ED]
 | k+1=>by simp only [ED,List.length_append,Ej a b k,DI,Nat.add_mul,Nat.one_mul]
def GX (a b:List V2):List V2:=Bf (ED a b a.length)
def KQ (a b:List V2):List V2:=if AK a=true/\AK b=true/\a.length*b.length<=64/\AK (GX a b)=true then GX a b else []
theorem Pp {a b:List V2} (h:AK a=false∨AK b=false∨64<a.length*b.length∨AK (GX a b)=false):KQ a b=[]:=by
 unfold KQ
 rw [if_neg]
 rintro ⟨h1,h2,h3,h4⟩
 rcases h with h|h|h|h
 ·rw [h] at h1;cases h1
 ·rw [h] at h2;cases h2
 ·omega
 ·rw [h] at h4;cases h4
theorem Uu {a b:List V2} (h1:AK a=true) (h2:AK b=true) (h3:a.length*b.length<=64) (h4:AK (GX a b)=true):KQ a b=GX a b:=by unfold KQ;rw [if_pos ⟨h1,h2,h3,h4⟩]
theorem AAW {m n:Nat} (h1:m<=16) (h2:n<=16):m*n<=256/\IntKind.i64.wrap (((m:Nat):Int)*((n:Nat):Int))=((m*n:Nat):Int):=by
 have h:m*n<=16*16:=Nat.mul_le_mul h1 h2
 refine ⟨by omega,?_⟩
 rw [← Int.natCast_mul,AC (by omega) (by omega)]
theorem AAX {k m n:Nat} (h1:k<=m) (h2:m*n<=256):k*n<=256:=Nat.le_trans (Nat.mul_le_mul_right n h1) h2
theorem WO {k m n j:Nat} (h1:k<m) (h2:m*n<=256) (h3:j<=n):k*n+j<=256:=by
 have:=Nat.mul_le_mul_right n (show k+1<=m from h1)
 rw [Nat.add_mul,Nat.one_mul] at this
 omega
def GY (l:List V2):List V2:=l.map λ p=>(-p.1,-p.2)
def JO (l:List V2):List V2:=if l.all AE=true then GY l else []
theorem D1 (l:List V2):(GY l).length=l.length:=by simp [GY]
theorem Uv {l:List V2} (h:l.all AE=true):JO l=GY l:=by unfold JO;rw [if_pos h]
theorem ABq {l:List V2} (h:l.all AE=false):JO l=[]:=by unfold JO;rw [if_neg (by rw [h];simp)]
theorem Yx {l:List V2} {k:Nat} (hk:k<l.length) (hv:AE (l.getD k (0,0))=true):AA (GY (l.take k))++[[.int (IntKind.i64.wrap (0-(l.getD k (0,0)).1)),.int (IntKind.i64.wrap (0-(l.getD k (0,0)).2))]]=AA (GY (l.take (k+1))):=by
 have b:=Bs hv
 have e:l.take (k+1)=l.take k++[l.getD k (0,0)]:=by
  rw [List.take_add_one];simp [List.getD,hk]
 rw [AC (by omega) (by omega),AC (by omega) (by omega),e]
 simp [GY,AA,Hz,Int.zero_sub]
theorem Yy (l:List V2):(JO l).length<=l.length:=by unfold JO;split;rw [D1];exact Nat.le_refl _;simp
def NY (r o:List V2):List V2:=KQ o (JO r)
def Hx:Con:={ ι:=(List V2)×Int×Int,pre:=λ i=>i.1.length<=1048576,args:=λ i=>[.one (DC.sl 24 [.int,.int] (AA i.1)),DA.agg [cI i.2.1,cI i.2.2]],res:=λ i=>⟨false,[none],[.own 24 [.int,.int] (AA (CK i.1 i.2.1 i.2.2))]⟩ }
theorem Yz:Hx.Ok Tryz.prog 34:=by
 refine fok (X:=⟨tt,[],[],31,[]⟩) mixed AQ (CTok.nil _) Tryz.func34 (λ (i:(List V2)×Int×Int)=>[(3,.mk 4 (Nat) (λ x1=>{ tm:=[(3,tP 1 0),(9,tX 2),(10,tI (nI ((AA i.1).length))),(11,tI (x1:Int)),(5,tX 3)],en:=[(1,.box [kI i.2.1,kI i.2.2]),(2,.view 24 [.int,.int] (AA i.1) []),(3,.own 24 [.int,.int] (AA (CK (i.1.take x1) i.2.1 i.2.2)))] }) (λ x1=>x1<=i.1.length) (λ x1=>i.1.length-x1) (λ _=>[]))]) ?_
 rintro ⟨l,dx,dy⟩ hpre
 have hpre:l.length<=1048576:=hpre
 refine AP (q:=let Z3:=nI ((AA l).length);(∃ x1:Nat,(x1<=l.length)/\((rf (vI Z3))/\(vI (0:Int)=vI (x1:Int))/\(rf (vI dx))/\(rf (vI dy))/\(rf (AA l))/\(([]:List (List Dat))=(AA (CK (l.take x1) dx dy)))))/\∀ x1:Nat,let Z2:=(AA l).getD x1 [];let Z5:=wR (((Z2.getD 1 (.int 0))).n+dy);let Z4:=wR (((Z2.getD 0 (.int 0))).n+dx);let Z1:=AA (CK (l.take x1) dx dy);(x1<=l.length)->(ifB ((decide ((x1:Int)<Z3))) ((0<=(x1:Int)/\(x1:Int)<((AA l).length:Int))/\((x1<(AA l).length)/\((Z1.length+([[Dat.int Z4,Dat.int Z5]]:List (List Dat)).length<=2199023255552)/\(∃ y2:Nat,(y2<=l.length)/\(l.length-y2<l.length-x1)/\((rf (vI Z3))/\(vI (wR ((x1:Int)+(1:Int)))=vI (y2:Int))/\(rf (vI dx))/\(rf (vI dy))/\(rf (AA l))/\((Z1++([[Dat.int Z4,Dat.int Z5]]:List (List Dat)))=(AA (CK (l.take y2) dx dy)))))))) ((Z1=AA (CK l dx dy))))) (by kernel_rfl) ?_
 conv=>zeta
 delta ifB vI wR nI
 have hvl:=AB l
 refine ⟨⟨0,by
  omega,?_⟩,?_⟩
 ·refine ⟨rfl,rfl,rfl,rfl,rfl,?_⟩
  rfl
 intro (k:Nat) hki1
 have hki1:k<=l.length:=hki1
 have hml:(AA (CK (l.take k) dx dy)).length=k:=by rw [AB,DI,List.length_take];omega
 refine And.symm ⟨λ c9=>?_,λ c9=>?_⟩
 ·try simp only [nrm] at c9
  rw [show k=l.length by omega,List.take_length]
 try simp only [nrm] at c9
 refine ao (by omega) λ o10=>?_
 refine ao (by omega) λ o11=>?_
 refine ao (by simp only [AB,DI,D1,Ej,List.length_append,List.length_take,List.length_cons,List.length_nil];omega) λ o12=>?_
 refine ⟨k+1,by
  omega,by
  omega,?_⟩
 refine ⟨rfl,?_,rfl,rfl,rfl,?_⟩
 ·exact AS (AC (by omega) (by omega))
 exact J8 (by omega)
def JP:Con:={ ι:=(List V2)×(List V2),pre:=λ i=>i.1.length<=1048576/\i.2.length<=1048576,args:=λ i=>[.one (DC.sl 24 [.int,.int] (AA i.1)),.one (DC.sl 24 [.int,.int] (AA i.2))],res:=λ i=>⟨false,[none],[.own 24 [.int,.int] (AA (KQ i.1 i.2))]⟩ }
theorem AAY:JP.Ok Tryz.prog 104:=by
 refine fok (X:=⟨tt,[(10,BR),(34,Hx),(147,Hq)],[],44,[]⟩) mixed AQ (CTok.cons MZ (CTok.cons Yz (CTok.cons Yd (CTok.nil _)))) Tryz.func104 (λ (i:(List V2)×(List V2))=>[(5,.mk 4 (Nat) (λ x1=>{ tm:=[(1,tX 1),(26,tX 2),(27,tI (nI ((AA i.1).length))),(28,tI (nI x1)),(5,tX 3)],en:=[(1,.view 24 [.int,.int] (AA i.2) []),(2,.view 24 [.int,.int] (AA i.1) []),(3,.own 24 [.int,.int] (AA (ED i.1 i.2 x1)))] }) (λ x1=>x1<=i.1.length) (λ x1=>i.1.length-x1) (λ _=>[]))]) ?_
 rintro ⟨a,b⟩ hpre
 have hpre:a.length<=1048576/\b.length<=1048576:=hpre
 refine AP (q:=let Z4:=DC.sl 24 [.int,.int] (AA b);let Z2:=nI ((AA a).length);let Z1:=(([]:List (List Dat))=AA (KQ a b));∃ i1:(List V2),[DA.one (DC.sl 24 [.int,.int] (AA a))]=BR.args i1/\BR.pre i1/\(ifB ((!(!(AK i1)))) (∃ i2:(List V2),[DA.one Z4]=BR.args i2/\BR.pre i2/\(ifB ((!(!(AK i2)))) (ifB ((decide ((wR (Z2*(nI ((AA b).length))))>(64:Int)))) Z1 ((∃ x1:Nat,(x1<=a.length)/\((rf (vI Z2))/\(vI (0:Int)=vI (nI x1))/\(rf (AA b))/\(rf (AA a))/\(([]:List (List Dat))=(AA (ED a b x1)))))/\∀ x1:Nat,let Z3:=AA (ED a b x1);(x1<=a.length)->(ifB ((decide ((nI x1)<Z2))) ((0<=(nI x1)/\(nI x1)<((AA a).length:Int))/\((x1<(AA a).length)/\(∃ i3:(List V2)×Int×Int,let Z5:=CK i3.1 i3.2.1 i3.2.2;[DA.one Z4,DA.agg [cI (((((AA a).getD x1 []).getD 0 (.int 0))).n),cI (((((AA a).getD x1 []).getD 1 (.int 0))).n)]]=Hx.args i3/\Hx.pre i3/\((Z3.length+(AA Z5).length<=2199023255552)/\(∃ y2:Nat,(y2<=a.length)/\(a.length-y2<a.length-x1)/\((rf (vI Z2))/\(vI (wR ((nI x1)+(1:Int)))=vI (nI y2))/\(rf (AA b))/\(rf (AA a))/\((Z3++AA Z5)=(AA (ED a b y2))))))))) (∃ i4:(List V2),[DA.one (DC.sl 24 [.int,.int] Z3)]=Hq.args i4/\Hq.pre i4/\(∃ i5:(List V2),[DA.one (DC.sl 24 [.int,.int] (AA (Bf i4)))]=BR.args i5/\BR.pre i5/\(ifB ((!(AK i5))) Z1 ((AA (Bf i4)=AA (KQ a b))))))))) Z1)) Z1)) (by kernel_rfl) ?_
 conv=>zeta
 delta ifB vI wR nI
 have ha:=AB a
 have hb:=AB b
 refine ⟨a,by
  rfl,by
  trivial,?_⟩
 refine And.symm ⟨λ c4=>?_,λ c4=>?_⟩
 ·try simp only [nrm] at c4
  have hE:KQ a b=[]:=Pp (b:=b) (.inl c4)
  rw [hE];rfl
 try simp only [nrm] at c4
 refine ⟨b,by
  rfl,by
  trivial,?_⟩
 refine And.symm ⟨λ c8=>?_,λ c8=>?_⟩
 ·try simp only [nrm] at c8
  have hE:KQ a b=[]:=Pp (.inr (.inl c8))
  rw [hE];rfl
 try simp only [nrm] at c8
 have pa:=Ru c4
 have pb:=Ru c8
 have hm:=AAW pa.2.1 pb.2.1
 refine ⟨λ c9=>?_,λ c9=>?_⟩
 ·try simp only [nrm] at c9
  rw [ha,hb,hm.2] at c9
  have hE:KQ a b=[]:=Pp (.inr (.inr (.inl (by omega))))
  rw [hE];rfl
 try simp only [nrm] at c9
 rw [ha,hb,hm.2] at c9
 have h64:a.length*b.length<=64:=by omega
 refine ⟨⟨0,by
  omega,?_⟩,?_⟩
 ·refine ⟨rfl,?_,rfl,rfl,?_⟩
  ·rfl
  rfl
 intro (k:Nat) hki11
 have hki11:k<=a.length:=hki11
 refine ⟨λ c18=>?_,λ c18=>?_⟩
 ·try simp only [nrm] at c18
  have hka:k<a.length:=by omega
  have hsl:=Ej a b k
  have hks:=WO hka hm.1 (Nat.le_refl _)
  refine ao (by omega) λ o19=>?_
  refine ao (by omega) λ o20=>?_
  refine ⟨(b,(a.getD k (0,0)).1,(a.getD k (0,0)).2),by
   rw [Aj hka,Aw hka];rfl,by
   exact hpre.2,?_⟩
  refine ao (a:=(AA (ED a b k)).length+(AA (CK b ((a.getD k (0,0)).1) ((a.getD k (0,0)).2))).length<=2199023255552) (by simp only [AB,DI,D1,Ej,List.length_append,List.length_take,List.length_cons,List.length_nil];omega) λ o24=>?_
  refine ⟨k+1,by
   trivial,by
   omega,?_⟩
  refine ⟨rfl,?_,rfl,rfl,?_⟩
  ·exact AS (AC (by omega) (by omega))
  rw [← Hn];rfl
 try simp only [nrm] at c18
 have hk:a.length=k:=by omega
 have hS:Bf (ED a b k)=GX a b:=by unfold GX;rw [hk]
 refine ⟨(ED a b k),by
  rfl,by
  show (ED a b k).length<=1048576
  rw [Ej];have:=AAX (show k<=a.length by omega) hm.1;omega,?_⟩
 refine ⟨(Bf (ED a b k)),by
  rfl,by
  trivial,?_⟩
 refine ⟨λ c39=>?_,λ c39=>?_⟩
 ·try simp only [nrm] at c39
  rw [hS] at c39
  have hE:KQ a b=[]:=Pp (.inr (.inr (.inr c39)))
  rw [hE];rfl
 try simp only [nrm] at c39
 rw [hS] at c39
 have hE:=Uu c4 c8 h64 c39
 rw [hS,hE]
def JQ:Con:={ ι:=(List V2),pre:=λ i=>i.length<=1048576,args:=λ i=>[.one (DC.sl 24 [.int,.int] (AA i))],res:=λ i=>⟨false,[none],[.own 24 [.int,.int] (AA (JO i))]⟩ }
theorem AAZ:JQ.Ok Tryz.prog 105:=by
 refine fok (X:=⟨tt,[(36,A8)],[],28,[]⟩) mixed AQ (CTok.cons F6 (CTok.nil _)) Tryz.func105 (λ (i:(List V2))=>[(5,.mk 3 (Nat) (λ x1=>{ tm:=[(10,tX 1),(11,tI (nI ((AA i).length))),(12,tI (nI x1)),(3,tX 2)],en:=[(1,.view 24 [.int,.int] (AA i) []),(2,.own 24 [.int,.int] (AA (GY (i.take x1))))] }) (λ x1=>x1<=i.length) (λ x1=>i.length-x1) (λ _=>[]))]) ?_
 intro (l:List V2) hpre
 have hpre:l.length<=1048576:=hpre
 refine AP (q:=let Z3:=nI ((AA l).length);∃ i1:(List V2),[DA.one (DC.sl 24 [.int,.int] (AA l))]=A8.args i1/\A8.pre i1/\(ifB ((!(i1.all AE))) ((([]:List (List Dat))=AA (JO l))) ((∃ x1:Nat,(x1<=l.length)/\((rf (vI Z3))/\(vI (0:Int)=vI (nI x1))/\(rf (AA l))/\(([]:List (List Dat))=(AA (GY (l.take x1))))))/\∀ x1:Nat,let Z2:=AA (GY (l.take x1));let Z1:=(AA l).getD x1 [];let Z5:=wR (0-((Z1.getD 1 (.int 0))).n);let Z4:=wR (0-((Z1.getD 0 (.int 0))).n);(x1<=l.length)->(ifB ((decide ((nI x1)<Z3))) ((0<=(nI x1)/\(nI x1)<((AA l).length:Int))/\((x1<(AA l).length)/\((Z2.length+([[Dat.int Z4,Dat.int Z5]]:List (List Dat)).length<=2199023255552)/\(∃ y2:Nat,(y2<=l.length)/\(l.length-y2<l.length-x1)/\((rf (vI Z3))/\(vI (wR ((nI x1)+(1:Int)))=vI (nI y2))/\(rf (AA l))/\((Z2++([[Dat.int Z4,Dat.int Z5]]:List (List Dat)))=(AA (GY (l.take y2))))))))) ((Z2=AA (JO l))))))) (by kernel_rfl) ?_
 conv=>zeta
 delta ifB vI wR nI
 have hvl:=AB l
 refine ⟨l,by
  rfl,by
  trivial,?_⟩
 refine ⟨λ c4=>?_,λ c4=>?_⟩
 ·try simp only [nrm] at c4
  have hE:=ABq c4
  rw [hE];rfl
 try simp only [nrm] at c4
 have hE:=Uv c4
 refine ⟨⟨0,by
  omega,?_⟩,?_⟩
 ·refine ⟨rfl,?_,rfl,?_⟩
  ·rfl
  rfl
 intro (k:Nat) hki6
 have hki6:k<=l.length:=hki6
 refine And.symm ⟨λ c12=>?_,λ c12=>?_⟩
 ·try simp only [nrm] at c12
  rw [hE,show k=l.length by omega,List.take_length]
 try simp only [nrm] at c12
 have hkl:k<l.length:=by omega
 have hV:=A7 c4 hkl
 refine ao (by omega) λ o13=>?_
 refine ao (by omega) λ o14=>?_
 refine ao (by simp only [AB,DI,D1,Ej,List.length_append,List.length_take,List.length_cons,List.length_nil];omega) λ o15=>?_
 refine ⟨k+1,by
  trivial,by
  omega,?_⟩
 refine ⟨rfl,?_,rfl,?_⟩
 ·exact AS (AC (by omega) (by omega))
 rw [Aj hkl,Aw hkl];exact Yx hkl hV
def JR:Con:={ ι:=(List V2)×(List V2),pre:=λ i=>i.1.length<=1048576/\i.2.length<=1048576,args:=λ i=>[.one (DC.sl 24 [.int,.int] (AA i.1)),.one (DC.sl 24 [.int,.int] (AA i.2))],res:=λ i=>⟨false,[none],[.own 24 [.int,.int] (AA (NY i.1 i.2))]⟩ }
theorem AAa:JR.Ok Tryz.prog 56:=by
 refine fok (X:=⟨tt,[(105,JQ),(104,JP)],[],9,[]⟩) mixed AQ (CTok.cons AAZ (CTok.cons AAY (CTok.nil _))) Tryz.func56 (λ _=>[]) ?_
 rintro ⟨a,b⟩ hpre
 have hpre:a.length<=1048576/\b.length<=1048576:=hpre
 refine AP (q:=∃ i1:(List V2),[DA.one (DC.sl 24 [.int,.int] (AA a))]=JQ.args i1/\JQ.pre i1/\(∃ i2:(List V2)×(List V2),[DA.one (DC.sl 24 [.int,.int] (AA b)),DA.one (DC.sl 24 [.int,.int] (AA (JO i1)))]=JP.args i2/\JP.pre i2/\((AA (KQ i2.1 i2.2)=AA (NY a b))))) (by kernel_rfl) ?_
 have hn:=Yy a
 refine ⟨a,by
  rfl,by
  exact hpre.1,?_⟩
 refine ⟨(b,(JO a)),by
  rfl,by
  show b.length<=1048576/\(JO a).length<=1048576
  exact ⟨hpre.2,by omega⟩,?_⟩
 rfl
end Go.Proofs.YtkffpiaagjcmpaaGreat
namespace Go.Proofs.YtkffpiaagjcmpaaGreat
set_option maxRecDepth 100000
set_option linter.unusedVariables false
set_option linter.unusedSimpArgs false
open Go.RowKit
set_option maxHeartbeats 1000000 in
theorem NC (s : Scn) (h : Int) (v : Value) (w : World) (hv : SceneAt w v s) (hn : (AI s && inR h 0 3) = false) :
    Calls Tryz.prog 9 #[v, .int .i64 h] w fun e w' => e = .returned (.slice none 0 0) ∧ Below w.heap.size w w' := by
  have HV := Lib.hid hv
  obtain ⟨⟨lx, ly⟩, ⟨hx, hy⟩, rob, obs, tabs⟩ := s
  obtain ⟨r, o, t, rfl, hr, ho, ht⟩ := hv
  simp only at hr ho ht
  obtain ⟨ra, rcap, rfl, _, _, _⟩ := hr.open
  obtain ⟨oa, ocap, rfl, _, _, _⟩ := ho.open
  obtain ⟨ta, tcap, rfl, _, _, _⟩ := ht.open
  clear hr ho ht
  obtain ⟨S, hS⟩ : ∃ S : Scn, S = ⟨(lx, ly), (hx, hy), rob, obs, tabs⟩ := ⟨_, rfl⟩
  rw [← hS] at HV hn ⊢
  clear hS
  cases h1 : AI S
  · clear hn
    go_enter Tryz.func9, Tryz.ntmps9
    go_wp2_with fail
    refine (Ed S _ _ (HV.out.below ((Below.refl _ _).alloc (Nat.le_refl _) _))).mono ?_
    rintro e w1 ⟨rfl, h1⟩
    have B1 : Below w.heap.size w w1 := Below.trans (by (repeat (first | with_reducible exact Below.refl _ _ | with_reducible assumption | with_reducible refine Below.drew ?_ | with_reducible refine Below.setCell ?_ ?_ _ | with_reducible refine Below.alloc ?_ ?_ _)); all_goals first | (simp; done) | (simp; omega) | omega) (h1.mono (by first | (simp; done) | (simp; omega) | omega))
    have S1 := h1.size
    have T1 := B1.size
    try simp at S1
    obtain ⟨k1, f1⟩ := FI h1
    try simp at k1
    try simp at f1
    have Hc1 := Lib.hid h1
    clear h1
    have u1_0 : w.heap.size < w1.heap.size := by omega
    go_wp2
    go_ret
    refine ⟨?_, B1⟩
    simp
  · have h2 : inR h 0 3 = false := by rw [h1] at hn; simpa using hn
    clear hn
    go_enter Tryz.func9, Tryz.ntmps9
    go_wp2_with fail
    refine (Ed S _ _ (HV.out.below ((Below.refl _ _).alloc (Nat.le_refl _) _))).mono ?_
    rintro e w1 ⟨rfl, h1⟩
    have B1 : Below w.heap.size w w1 := Below.trans (by (repeat (first | with_reducible exact Below.refl _ _ | with_reducible assumption | with_reducible refine Below.drew ?_ | with_reducible refine Below.setCell ?_ ?_ _ | with_reducible refine Below.alloc ?_ ?_ _)); all_goals first | (simp; done) | (simp; omega) | omega) (h1.mono (by first | (simp; done) | (simp; omega) | omega))
    have S1 := h1.size
    have T1 := B1.size
    try simp at S1
    obtain ⟨k1, f1⟩ := FI h1
    try simp at k1
    try simp at f1
    have Hc1 := Lib.hid h1
    clear h1
    have u1_0 : w.heap.size < w1.heap.size := by omega
    go_wp2_with fail
    refine (RD _ _).mono ?_
    rintro e w' ⟨rfl, rfl⟩
    go_wp2
    go_ret
    refine ⟨?_, B1⟩
    simp
set_option maxHeartbeats 1000000 in
theorem Pr (s : Scn) (h : Int) (v : Value) (w : World) (hv : SceneAt w v s) (hn : (AI s && inR h 0 3) = false) :
    Calls Tryz.prog 20 #[v, .int .i64 h] w fun e w' => e = .returned (.slice none 0 0) ∧ Below w.heap.size w w' := by
  have HV := Lib.hid hv
  obtain ⟨⟨lx, ly⟩, ⟨hx, hy⟩, rob, obs, tabs⟩ := s
  obtain ⟨r, o, t, rfl, hr, ho, ht⟩ := hv
  simp only at hr ho ht
  obtain ⟨ra, rcap, rfl, _, _, _⟩ := hr.open
  obtain ⟨oa, ocap, rfl, _, _, _⟩ := ho.open
  obtain ⟨ta, tcap, rfl, _, _, _⟩ := ht.open
  clear hr ho ht
  obtain ⟨S, hS⟩ : ∃ S : Scn, S = ⟨(lx, ly), (hx, hy), rob, obs, tabs⟩ := ⟨_, rfl⟩
  rw [← hS] at HV hn ⊢
  clear hS
  have HN := Lib.hid hn
  clear hn
  go_enter Tryz.func20, Tryz.ntmps20
  go_wp2_with fail
  refine (NC S h _ _ (HV.out.below ((Below.refl _ _).alloc (Nat.le_refl _) _)) HN.out).mono ?_
  rintro e w1 ⟨rfl, h1⟩
  have B1 : Below w.heap.size w w1 := Below.trans (by (repeat (first | with_reducible exact Below.refl _ _ | with_reducible assumption | with_reducible refine Below.drew ?_ | with_reducible refine Below.setCell ?_ ?_ _ | with_reducible refine Below.alloc ?_ ?_ _)); all_goals first | (simp; done) | (simp; omega) | omega) (h1.mono (by first | (simp; done) | (simp; omega) | omega))
  have S1 := h1.size
  have T1 := B1.size
  try simp at S1
  obtain ⟨k1, f1⟩ := FI h1
  try simp at k1
  try simp at f1
  have Hc1 := Lib.hid h1
  clear h1
  have u1_0 : w.heap.size < w1.heap.size := by omega
  have hsn := fun (w : World) (a : Option Addr) (n c n' c' : Nat) => Lib.run_eql_slice_nil (P := Tryz.prog) w 25 24 a n c n' c' Tryz.underlying25
  go_wp2
  go_ret
  refine ⟨?_, B1⟩
  simp
end Go.Proofs.YtkffpiaagjcmpaaGreat
namespace Go.Proofs.YtkffpiaagjcmpaaGreat
set_option linter.unusedVariables false
set_option linter.unusedSimpArgs false
open Go.RowKit
def KR (s:Scn) (h:Int) (k:Nat):List (List V2):=(s.obst.take k).map (NY (AF s h))
def blk (s:Scn) (h:Int):List (List V2):=if (AF s h).length=0 then [] else KR s h s.obst.length
theorem Y0 {s:Scn} {h:Int} (e:(AF s h).length=0):blk s h=[]:=by unfold blk;rw [if_pos e]
theorem Uw {s:Scn} {h:Int} (e:(AF s h).length≠0):blk s h=KR s h s.obst.length:=by unfold blk;rw [if_neg e]
theorem Rv (s:Scn) (h:Int) (k:Nat):(AM (KR s h k)).length<=k:=by
 rw [Ao];unfold KR;rw [List.length_map,List.length_take];omega
theorem WP {s:Scn} {h:Int} {k:Nat} (hk:k<s.obst.length):AM (KR s h k)++[[.sl (AA (NY (AF s h) (s.obst.getD k [])))]]=AM (KR s h (k+1)):=by
 unfold KR
 rw [EQ s.obst [] k hk]
 simp [AM]
theorem Rw (s:Scn) (h:Int):(AF s h).length<=1048576:=by have:=(RF s h).2;omega
theorem Oj {s:Scn} {h:Int} (hn:(AI s && inR h 0 3)=false):AF s h=[]:=IR (by
 rw [Bool.and_eq_false_iff] at hn
 rcases hn with hn|hn
 ·exact .inl hn
 ·refine .inr λ hc=>?_
  have:inR h 0 3=true:=BK.2 hc
  rw [hn] at this;cases this)
theorem IY {s:Scn} {h:Int} (hn:(AI s && inR h 0 3)=true):0<(AF s h).length:=by
 rw [Bool.and_eq_true] at hn
 exact List.length_pos_iff.2 (TJ hn.1 (BK.1 hn.2))
def WQ:Con:={ ι:=Scn×Int,pre:=λ i=>IA i.1/\(AI i.1 && inR i.2 0 3)=true,args:=λ i=>[DA.agg [cI i.1.low.1,cI i.1.low.2,cI i.1.high.1,cI i.1.high.2,DC.sl 24 [.int,.int] (AA i.1.robot),DC.sl 25 [.sl 24 [.int,.int]] (AM i.1.obst),DC.sl 24 [.int,.int] (AA i.1.tables)],.one (cI i.2)],res:=λ i=>⟨false,[none],[.own 25 [.sl 24 [.int,.int]] (AM (blk i.1 i.2))]⟩ }
set_option maxRecDepth 100000 in
theorem Rx:WQ.Ok Tryz.prog 20:=by
 refine fok (X:=⟨tt,[(9,B8),(56,JR)],[],30,[]⟩) mixed AQ (CTok.cons Kt (CTok.cons AAa (CTok.nil _))) Tryz.func20 (λ (i:Scn×Int)=>[(6,.mk 4 (Nat) (λ x1=>{ tm:=[(16,tX 1),(17,tI (nI ((AM i.1.obst).length))),(18,tI (nI x1)),(6,tX 2),(5,tX 3)],en:=[(1,.view 25 [.sl 24 [.int,.int]] (AM i.1.obst) []),(2,.own 25 [.sl 24 [.int,.int]] (AM (KR i.1 i.2 x1))),(3,.own 24 [.int,.int] (AA (AF i.1 i.2)))] }) (λ x1=>x1<=i.1.obst.length) (λ x1=>i.1.obst.length-x1) (λ _=>[]))]) ?_
 rintro ⟨s,h⟩ hpre
 have hpre:IA s/\(AI s && inR h 0 3)=true:=hpre
 refine AP (q:=let Z3:=AA (AF s h);let Z1:=AM s.obst;let Z4:=nI (Z1.length);∃ i1:Scn×Int,[DA.agg [cI s.low.1,cI s.low.2,cI s.high.1,cI s.high.2,DC.sl 24 [.int,.int] (AA s.robot),DC.sl 25 [.sl 24 [.int,.int]] Z1,DC.sl 24 [.int,.int] (AA s.tables)],DA.one (cI h)]=B8.args i1/\B8.pre i1/\(∀ b2:Bool,(b2=true->AA (AF i1.1 i1.2)=[])->(ifB (b2) ((([]:List (List Dat))=AM (blk s h))) ((∃ x1:Nat,(x1<=s.obst.length)/\((rf (vI Z4))/\(vI (0:Int)=vI (nI x1))/\(rf Z1)/\(([]:List (List Dat))=(AM (KR s h x1)))/\(AA (AF i1.1 i1.2)=Z3)))/\∀ x1:Nat,let Z2:=AM (KR s h x1);(x1<=s.obst.length)->(ifB ((decide ((nI x1)<Z4))) ((0<=(nI x1)/\(nI x1)<(Z1.length:Int))/\((x1<Z1.length)/\(∃ i3:(List V2)×(List V2),let Z5:=AA (NY i3.1 i3.2);[DA.one (DC.sl 24 [.int,.int] Z3),DA.one (DC.sl 24 [.int,.int] ((((Z1.getD x1 []).getD 0 (.int 0))).r))]=JR.args i3/\JR.pre i3/\((Z2.length+([[Dat.sl Z5]]:List (List Dat)).length<=2199023255552)/\(∃ y2:Nat,(y2<=s.obst.length)/\(s.obst.length-y2<s.obst.length-x1)/\((rf (vI Z4))/\(vI (wR ((nI x1)+(1:Int)))=vI (nI y2))/\(rf Z1)/\((Z2++([[Dat.sl Z5]]:List (List Dat)))=(AM (KR s h y2)))/\(rf Z3))))))) ((Z2=AM (blk s h)))))))) (by kernel_rfl) ?_
 conv=>zeta
 delta ifB vI wR nI
 have hv:=hpre.2
 have hpre:=hpre.1
 have hz:=hpre
 obtain ⟨h1,h2,h3,h4⟩:=hpre
 have hrv:=Rw s h
 have hvl:=AB (AF s h)
 have hal:=Ao s.obst
 have hrs:=IY hv
 refine ⟨(s,h),by
  rfl,by
  trivial,?_⟩
 intro b2 q4
 refine ⟨λ c5=>?_,λ c5=>?_⟩
 ·try simp only [nrm] at c5
  exfalso
  have hq:=congrArg List.length (q4 c5)
  rw [hvl] at hq
  simp only [List.length_nil] at hq
  omega -- done
 try simp only [nrm] at c5
 have hE:=Uw (s:=s) (h:=h) (by omega)
 refine ⟨⟨0,by
  omega,?_⟩,?_⟩
 ·refine ⟨rfl,?_,rfl,?_,rfl⟩
  ·rfl
  rfl
 intro (k:Nat) hki7
 have hki7:k<=s.obst.length:=hki7
 refine And.symm ⟨λ c14=>?_,λ c14=>?_⟩
 ·try simp only [nrm] at c14
  rw [hE,show k=s.obst.length by omega]
 try simp only [nrm] at c14
 have hkl:k<s.obst.length:=by omega
 refine ao (by omega) λ o15=>?_
 refine ao (by omega) λ o16=>?_
 refine ⟨(AF s h,s.obst.getD k []),by
  rw [Aa hkl];rfl,by
  exact ⟨hrv,h3 _ (by simp [List.getD,hkl])⟩,?_⟩
 refine ao (a:=(AM (KR s h k)).length+([[Dat.sl (AA (NY (AF s h) (s.obst.getD k [])))]]:List (List Dat)).length<=2199023255552) (by have:=Rv s h k;simp only [List.length_cons,List.length_nil];omega) λ o20=>?_
 refine ⟨k+1,by
  trivial,by
  omega,?_⟩
 refine ⟨rfl,?_,rfl,?_,rfl⟩
 ·exact AS (AC (by omega) (by omega))
 exact WP hkl
def Ol:Con:={ ι:=Scn×Int,pre:=λ i=>IA i.1/\(AI i.1 && inR i.2 0 3)=false,args:=λ i=>[DA.agg [cI i.1.low.1,cI i.1.low.2,cI i.1.high.1,cI i.1.high.2,DC.sl 24 [.int,.int] (AA i.1.robot),DC.sl 25 [.sl 24 [.int,.int]] (AM i.1.obst),DC.sl 24 [.int,.int] (AA i.1.tables)],.one (cI i.2)],res:=λ i=>⟨false,[none],[.own 25 [.sl 24 [.int,.int]] (AM (blk i.1 i.2))]⟩ }
theorem Y1:Ol.Ok Tryz.prog 20:=CY rfl ⟨_,Tryz.func20,by decide,rfl⟩ (λ _=>Nat.le_of_ble_eq_true rfl) (λ _=>rfl) (λ i=>[.sl 25 [.sl 24 [.int,.int]] (AM (blk i.1 i.2))]) (λ _=>rfl) (λ _=>rfl) (λ i hp w us h=>by
 obtain ⟨s,k⟩:=i
 obtain ⟨cs,v,rfl,h1,h2,h3⟩:=Ix (t:=[.int,.int,.int,.int,.sl 24 [.int,.int],.sl 25 [.sl 24 [.int,.int]],.sl 24 [.int,.int]]) (x:=.int) (ds:=Wd s) (dx:=.int k) h rfl
 have h2:v=.int .i64 k:=by simpa [Rd] using h2
 subst h2
 rw [show BA (Ol.args (s,k)) (cs++[.int .i64 k])=[.agg cs.toArray,.int .i64 k] from h3 _ _ rfl]
 refine (Pr s k _ w (RdRow.scene h1) hp.2).mono ?_
 rintro e w' ⟨rfl,hb⟩
 refine ⟨[.slice none 0 0],rfl,?_,hb⟩
 have e:blk s k=[]:=Y0 (by rw [Oj hp.2];rfl)
 show Own w' w.heap.size w'.heap.size [.sl 25 [.sl 24 [.int,.int]]] [.sl (AM (blk s k))] [.slice none 0 0]
 rw [e]
 exact Own.nilSl _ _ _ _ _)
def JS:Con:={ ι:=Scn×Int,pre:=λ i=>IA i.1,args:=λ i=>[DA.agg [cI i.1.low.1,cI i.1.low.2,cI i.1.high.1,cI i.1.high.2,DC.sl 24 [.int,.int] (AA i.1.robot),DC.sl 25 [.sl 24 [.int,.int]] (AM i.1.obst),DC.sl 24 [.int,.int] (AA i.1.tables)],.one (cI i.2)],res:=λ i=>⟨false,[none],[.own 25 [.sl 24 [.int,.int]] (AM (blk i.1 i.2))]⟩ }
theorem AAb:JS.Ok Tryz.prog 20 where
 enter:=Rx.enter
 small:=λ _=>Nat.le_of_ble_eq_true rfl
 calls:=λ i hp F w us mb h=>by
  cases hc:(AI i.1 && inR i.2 0 3) with
  | false=>
   refine (Y1.calls i ⟨hp,hc⟩ F w us mb h).mono ?_
   rintro e w' ⟨rs,bs,he,q⟩
   exact ⟨rs,bs,he,⟨q.res,q.nd,q.fresh,q.turned,q.os,q.tape,q.output,q.size,q.keep⟩⟩
  | true=>
   refine (Rx.calls i ⟨hp,hc⟩ F w us mb h).mono ?_
   rintro e w' ⟨rs,bs,he,q⟩
   exact ⟨rs,bs,he,⟨q.res,q.nd,q.fresh,q.turned,q.os,q.tape,q.output,q.size,q.keep⟩⟩
end Go.Proofs.YtkffpiaagjcmpaaGreat
namespace Go.Proofs.YtkffpiaagjcmpaaGreat
set_option linter.unusedVariables false
set_option linter.unusedSimpArgs false
open Go.RowKit
end Go.Proofs.YtkffpiaagjcmpaaGreat
namespace Go.Proofs.YtkffpiaagjcmpaaGreat
set_option linter.unusedVariables false
set_option linter.unusedSimpArgs false
def Y2 (a b:List V2):Prop:=∀ i j,i<a.length->j<b.length->AE (Cg (a.getD i (0,0)) (b.getD j (0,0)))=true
theorem Y3 {b:List V2} {p:V2} (h:∀ j,j<b.length->AE (Cg p (b.getD j (0,0)))=true):CK b p.1 p.2=b.map (Cg p):=by
 unfold CK
 apply List.map_congr_left
 intro q hq
 obtain ⟨j,hj,rfl⟩:=List.getElem_of_mem hq
 have hb:=Bs (h j hj)
 have e:b.getD j (0,0)=b[j]:=by simp [List.getD,hj]
 rw [e] at hb
 simp only [Cg] at hb
 simp only [TG,Cg]
 rw [AC (by omega) (by omega),AC (by omega) (by omega),Int.add_comm p.1,Int.add_comm p.2]
theorem Ry {a b:List V2} (h:Y2 a b) (x:V2):∀ k,k<=a.length->(x ∈ ED a b k↔∃ i j,i<k/\j<b.length/\x=Cg (a.getD i (0,0)) (b.getD j (0,0)))
 | 0,_=>by
  simp only [ED,List.not_mem_nil,false_iff]
  rintro ⟨i,j,hi,_⟩
  omega
 | k+1,hk=>by
  rw [show ED a b (k+1)=ED a b k++CK b (a.getD k (0,0)).1 (a.getD k (0,0)).2 from rfl,List.mem_append,Ry h x k (by omega),Y3 (λ j hj=>h k j (by omega) hj),List.mem_map]
  constructor
  ·rintro (⟨i,j,hi,hj,e⟩|⟨q,hq,e⟩)
   ·exact ⟨i,j,by omega,hj,e⟩
   ·obtain ⟨j,hj,rfl⟩:=List.getElem_of_mem hq
    exact ⟨k,j,by omega,hj,by rw [← e];simp [List.getD,hj]⟩
  ·rintro ⟨i,j,hi,hj,e⟩
   by_cases hik:i=k
   ·subst hik
    exact .inr ⟨b.getD j (0,0),by simp [List.getD,hj],e.symm⟩
   ·exact .inl ⟨i,j,by omega,hj,e⟩
theorem Y4 (a b c q:V2):AH (Cg a q) (Cg b q) (Cg c q)=AH a b c:=by
 simp only [AH,Cg];grind
theorem Y5 {a b:List V2} (ha:AK a=true) (hb:AK b=true) (h64:a.length*b.length<=64) (hn:Y2 a b):Ring (Rs a b) (GX a b)/\3<=(GX a b).length/\(GX a b).all AE=true:=by
 have pa:=CA.1 ha
 have pb:=CA.1 hb
 have hm:∀ x,x ∈ ED a b a.length↔Rs a b x:=λ x=>Ry hn x a.length (Nat.le_refl _)
 have hv:(ED a b a.length).all AE=true:=by
  rw [List.all_eq_true]
  intro x hx
  obtain ⟨i,j,hi,hj,rfl⟩:=(hm x).1 hx
  exact hn i j hi hj
 have hlen:=Ej a b a.length
 have e:GX a b=NW (Ar (ED a b a.length) (ED a b a.length).length):=KI (by omega) hv
 obtain ⟨s,hs⟩:∃ s,Ar (ED a b a.length) (ED a b a.length).length=s:=⟨_,rfl⟩
 have up:upV s:=by rw [← hs];exact Pb _ _
 have mem:∀ x,x ∈ s↔Rs a b x:=λ x=>by rw [← hs,G0 _ x _ (Nat.le_refl _),List.take_length,hm]
 have b0:0<b.length:=by have:=pb.1.1;omega
 have n1:(0+1)%a.length=1:=Nat.mod_eq_of_lt (by have:=pa.1.1;omega)
 have ht:=pa.2.2 0 2 (by omega) (by have:=pa.1.1;omega) (by omega) (by omega)
 rw [n1] at ht
 have m0:Rs a b (Cg (a.getD 0 (0,0)) (b.getD 0 (0,0))):=⟨0,0,by omega,b0,rfl⟩
 have m1:Rs a b (Cg (a.getD 1 (0,0)) (b.getD 0 (0,0))):=⟨1,0,by omega,b0,rfl⟩
 have m2:Rs a b (Cg (a.getD 2 (0,0)) (b.getD 0 (0,0))):=⟨2,0,by omega,b0,rfl⟩
 have ht' : 0<AH (Cg (a.getD 0 (0,0)) (b.getD 0 (0,0))) (Cg (a.getD 1 (0,0)) (b.getD 0 (0,0))) (Cg (a.getD 2 (0,0)) (b.getD 0 (0,0))):=by rw [Y4];exact ht
 obtain ⟨x,hx⟩:∃ x,Cg (a.getD 0 (0,0)) (b.getD 0 (0,0))=x:=⟨_,rfl⟩
 obtain ⟨y,hy⟩:∃ y,Cg (a.getD 1 (0,0)) (b.getD 0 (0,0))=y:=⟨_,rfl⟩
 obtain ⟨z,hz⟩:∃ z,Cg (a.getD 2 (0,0)) (b.getD 0 (0,0))=z:=⟨_,rfl⟩
 rw [hx] at m0 ht'
 rw [hy] at m1 ht'
 rw [hz] at m2 ht'
 have nxy:x≠y:=by rintro rfl;unfold AH at ht';grind
 have nxz:x≠z:=by rintro rfl;unfold AH at ht';grind
 have nyz:y≠z:=by rintro rfl;unfold AH at ht';grind
 have h3:3<=s.length:=by
  have:=JN
  have hx:=(mem x).2 m0
  have hy:=(mem y).2 m1
  have hz:=(mem z).2 m2
  match s,hx,hy,hz with
  | [],hx,_,_=>simp at hx
  | [p],hx,hy,_=>
   simp only [List.mem_singleton] at hx hy
   exact absurd (hx.trans hy.symm) nxy
  | [p,q],hx,hy,hz=>
   simp only [List.mem_cons,List.not_mem_nil,or_false] at hx hy hz
   rcases hx with hx|hx <;> rcases hy with hy|hy <;> rcases hz with hz|hz <;> first|exact absurd (hx.trans hy.symm) nxy|exact absurd (hx.trans hz.symm) nxz|exact absurd (hy.trans hz.symm) nyz
  | _::_::_::_,_,_,_=>simp
 obtain ⟨r,r2,rl⟩:=WJ up (by omega)
 have hS:(λ x=>x ∈ s)=Rs a b:=funext λ x=>propext (mem x)
 rw [hS] at r
 have e2:GX a b=A1 s++A1 s.reverse:=by rw [e,hs,KJ (by omega)]
 rw [← e2] at r r2 rl
 have r3:3<=(GX a b).length:=by
  by_cases h2:(GX a b).length=2
  ·exfalso
   have l:=rl h2
   have sorted:Ac (s.getD 0 (0,0)) (s.getD (s.length-1) (0,0))=true:=by
    have:=List.pairwise_iff_getElem.1 up 0 (s.length-1) (by omega) (by omega) (by omega)
    simpa [List.getD,show 0<s.length by omega,show s.length-1<s.length by omega] using this
   have:=Tf (EC sorted) (l x ((mem x).2 m0)) (l y ((mem y).2 m1)) (l z ((mem z).2 m2))
   omega
  ·omega
 refine ⟨r,r3,?_⟩
 rw [List.all_eq_true]
 intro v hv
 obtain ⟨i,hi,rfl⟩:=List.getElem_of_mem hv
 have:=r.mem i hi
 obtain ⟨i',j',hi',hj',q⟩:=this
 have q:(GX a b)[i]=Cg (a.getD i' (0,0)) (b.getD j' (0,0)):=by rw [← q];simp [List.getD,hi]
 rw [q];exact hn i' j' hi' hj'
theorem Tj {a b:List V2} (ha:AK a=true) (hb:AK b=true) (h64:a.length*b.length<=64) (h16:a.length+b.length<=16) (hn:Y2 a b):AK (GX a b)=true:=by
 obtain ⟨r,h3,hv⟩:=Y5 ha hb h64 hn
 exact r.poly h3 (by have:=r.few ha hb h3;omega) hv
end Go.Proofs.YtkffpiaagjcmpaaGreat
namespace Go.Proofs.YtkffpiaagjcmpaaGreat
set_option linter.unusedVariables false
set_option linter.unusedSimpArgs false
open Go.RowKit
set_option maxRecDepth 100000 in
set_option maxHeartbeats 1000000 in
theorem Rz (s : Scn) (h : Int) (v : Value) (w : World) (hv : SceneAt w v s) (hn : (AI s && inR h 0 3) = false) :
    Calls Tryz.prog 18 #[v, .int .i64 h] w fun e w' => e = .returned (.tuple #[.agg #[.int .i64 0, .int .i64 0, .int .i64 0, .int .i64 0], .bool false]) ∧ Below w.heap.size w w' := by
  have HV := Lib.hid hv
  obtain ⟨⟨lx, ly⟩, ⟨hx, hy⟩, rob, obs, tabs⟩ := s
  obtain ⟨r, o, t, rfl, hr, ho, ht⟩ := hv
  simp only at hr ho ht
  obtain ⟨ra, rcap, rfl, _, _, _⟩ := hr.open
  obtain ⟨oa, ocap, rfl, _, _, _⟩ := ho.open
  obtain ⟨ta, tcap, rfl, _, _, _⟩ := ht.open
  clear hr ho ht
  obtain ⟨S, hS⟩ : ∃ S : Scn, S = ⟨(lx, ly), (hx, hy), rob, obs, tabs⟩ := ⟨_, rfl⟩
  rw [← hS] at HV hn ⊢
  clear hS
  have hsn := fun (w : World) (a : Option Addr) (n c n' c' : Nat) => Lib.run_eql_slice_nil (P := Tryz.prog) w 25 24 a n c n' c' Tryz.underlying25
  have HN := Lib.hid hn
  clear hn
  go_enter Tryz.func18, Tryz.ntmps18
  go_wp2_with fail
  refine (NC S h _ _ (HV.out.below (((Below.refl _ _).alloc (Nat.le_refl _) _).alloc (by simp) _)) HN.out).mono ?_
  rintro e w1 ⟨rfl, h1⟩
  have B1 : Below w.heap.size w w1 := Below.trans (by (repeat (first | with_reducible exact Below.refl _ _ | with_reducible assumption | with_reducible refine Below.drew ?_ | with_reducible refine Below.setCell ?_ ?_ _ | with_reducible refine Below.alloc ?_ ?_ _)); all_goals first | (simp; done) | (simp; omega) | omega) (h1.mono (by first | (simp; done) | (simp; omega) | omega))
  have S1 := h1.size
  have T1 := B1.size
  try simp at S1
  obtain ⟨k1, f1⟩ := FI h1
  try simp at k1
  try simp at f1
  have Hc1 := Lib.hid h1
  clear h1
  have u1_0 : w.heap.size < w1.heap.size := by omega
  have u1_1 : w.heap.size + 1 < w1.heap.size := by omega
  have hr0 : w1.cell? ⟨w.heap.size + 1, 0, none⟩ = some (.int .i64 0) := by go_simp
  have hr1 : w1.cell? ⟨w.heap.size + 1, 1, none⟩ = some (.int .i64 0) := by go_simp
  have hr2 : w1.cell? ⟨w.heap.size + 1, 2, none⟩ = some (.int .i64 0) := by go_simp
  have hr3 : w1.cell? ⟨w.heap.size + 1, 3, none⟩ = some (.int .i64 0) := by go_simp
  have hf0 : w1.frozen? ⟨w.heap.size + 1, 0, none⟩ = false := by go_simp
  have hf1 : w1.frozen? ⟨w.heap.size + 1, 1, none⟩ = false := by go_simp
  have hf2 : w1.frozen? ⟨w.heap.size + 1, 2, none⟩ = false := by go_simp
  have hf3 : w1.frozen? ⟨w.heap.size + 1, 3, none⟩ = false := by go_simp
  clear k1 f1
  have k0 : ((((w1.setCell ⟨w.heap.size + 1, 0, none⟩ (.int .i64 0)).setCell ⟨w.heap.size + 1, 1, none⟩ (.int .i64 0)).setCell ⟨w.heap.size + 1, 2, none⟩ (.int .i64 0)).setCell ⟨w.heap.size + 1, 3, none⟩ (.int .i64 0)).cell? ⟨w.heap.size + 1, 0, none⟩ = some (.int .i64 0) := by go_simp
  have k1 : ((((w1.setCell ⟨w.heap.size + 1, 0, none⟩ (.int .i64 0)).setCell ⟨w.heap.size + 1, 1, none⟩ (.int .i64 0)).setCell ⟨w.heap.size + 1, 2, none⟩ (.int .i64 0)).setCell ⟨w.heap.size + 1, 3, none⟩ (.int .i64 0)).cell? ⟨w.heap.size + 1, 1, none⟩ = some (.int .i64 0) := by go_simp
  have k2 : ((((w1.setCell ⟨w.heap.size + 1, 0, none⟩ (.int .i64 0)).setCell ⟨w.heap.size + 1, 1, none⟩ (.int .i64 0)).setCell ⟨w.heap.size + 1, 2, none⟩ (.int .i64 0)).setCell ⟨w.heap.size + 1, 3, none⟩ (.int .i64 0)).cell? ⟨w.heap.size + 1, 2, none⟩ = some (.int .i64 0) := by go_simp
  have k3 : ((((w1.setCell ⟨w.heap.size + 1, 0, none⟩ (.int .i64 0)).setCell ⟨w.heap.size + 1, 1, none⟩ (.int .i64 0)).setCell ⟨w.heap.size + 1, 2, none⟩ (.int .i64 0)).setCell ⟨w.heap.size + 1, 3, none⟩ (.int .i64 0)).cell? ⟨w.heap.size + 1, 3, none⟩ = some (.int .i64 0) := by go_simp
  have KK := Lib.hid (And.intro k0 (And.intro k1 (And.intro k2 k3)))
  clear k0 k1 k2 k3
  go_wp2
  obtain ⟨k0, k1, k2, k3⟩ := KK.out
  exact bodyPost_ret (v := .tuple #[.agg #[.int .i64 0, .int .i64 0, .int .i64 0, .int .i64 0], .bool false]) (by simp [results, Tryz.results18, go_sem, k0, k1, k2, k3]) rfl ⟨rfl, (((B1.setCell (by simp) _).setCell (by simp) _).setCell (by simp) _).setCell (by simp) _⟩
end Go.Proofs.YtkffpiaagjcmpaaGreat
namespace Go.Proofs.YtkffpiaagjcmpaaGreat
set_option maxRecDepth 100000
set_option linter.unusedVariables false
set_option linter.unusedSimpArgs false
open Go.RowKit
theorem Y6 {l:List V2} {k:Nat} (hk:k<l.length) (z:V2):(l.take (k+1)).foldl Ia z=Ia ((l.take k).foldl Ia z) (l.getD k (0,0)):=GP Ia z l (0,0) k hk
theorem WR {l:List V2} {k:Nat} (hk:k<l.length) (z:V2):(l.take (k+1)).foldl Ib z=Ib ((l.take k).foldl Ib z) (l.getD k (0,0)):=GP Ib z l (0,0) k hk
def loT (l:List V2) (k:Nat):V2:=(l.take k).foldl Ia (l.getD 0 (0,0))
def hiT (l:List V2) (k:Nat):V2:=(l.take k).foldl Ib (l.getD 0 (0,0))
theorem Ux {l:List V2} {k:Nat} (h:l.length<=k):loT l k=Do l:=by unfold loT Do;rw [List.take_of_length_le h]
theorem Uy {l:List V2} {k:Nat} (h:l.length<=k):hiT l k=CM l:=by unfold hiT CM;rw [List.take_of_length_le h]
theorem R0 {l:List V2} {k:Nat} (hk:k<l.length):loT l (k+1)=Ia (loT l k) (l.getD k (0,0)):=Y6 hk _
theorem R1 {l:List V2} {k:Nat} (hk:k<l.length):hiT l (k+1)=Ib (hiT l k) (l.getD k (0,0)):=WR hk _
def GI:Con:={ ι:=(List V2),pre:=λ i=>0<i.length/\i.length<=1048576,args:=λ i=>[.one (DC.sl 24 [.int,.int] (AA i))],res:=λ i=>⟨true,[some 2,some 2],[rcI ((Do i).1),rcI ((Do i).2),rcI ((CM i).1),rcI ((CM i).2)]⟩ }
theorem WS:GI.Ok Tryz.prog 52:=by
 refine fok (X:=⟨tt,[],[],45,[]⟩) mixed AQ (CTok.nil _) Tryz.func52 (λ (i:(List V2))=>[(3,.mk 6 (Nat) (λ x1=>{ tm:=[(2,tP 1 0),(3,tP 2 0),(4,tP 3 0),(5,tP 4 0),(14,tX 5),(15,tI (nI i.length)),(16,tI (nI x1))],en:=[(1,.box [kI (0:Int),kI (0:Int)]),(2,.box [kI (0:Int),kI (0:Int)]),(3,.box [kI ((loT i x1).1),kI ((loT i x1).2)]),(4,.box [kI ((hiT i x1).1),kI ((hiT i x1).2)]),(5,.view 24 [.int,.int] (AA i) [])] }) (λ x1=>x1<=i.length) (λ x1=>i.length-x1) (λ _=>[]))]) ?_
 intro (l:List V2) hpre
 have hpre:0<l.length/\l.length<=1048576:=hpre
 refine AP (q:=let Z4:=((AA l).length:Int);let Z3:=(AA l).getD 0 [];let Z1:=vI (0:Int);(0<=(0:Int)/\(0:Int)<Z4)/\((0<(AA l).length)/\((0<=(0:Int)/\(0:Int)<Z4)/\((0<(AA l).length)/\((∃ x1:Nat,(x1<=l.length)/\((vI (nI ((AA l).length))=vI (nI l.length))/\(vI (0:Int)=vI (nI x1))/\(rf Z1)/\(rf Z1)/\(rf Z1)/\(rf Z1)/\(vI ((Z3.getD 0 (.int 0))).n=vI ((loT l x1).1))/\(vI ((Z3.getD 1 (.int 0))).n=vI ((loT l x1).2))/\(vI ((Z3.getD 0 (.int 0))).n=vI ((hiT l x1).1))/\(vI ((Z3.getD 1 (.int 0))).n=vI ((hiT l x1).2))/\(rf (AA l))))/\∀ x1:Nat,let Z6:=hiT l x1;let Z5:=loT l x1;let Z2:=(AA l).getD x1 [];let Z8:=((Z2.getD 1 (.int 0))).n;let Z7:=((Z2.getD 0 (.int 0))).n;(x1<=l.length)->(ifB ((decide ((nI x1)<(nI l.length)))) ((0<=(nI x1)/\(nI x1)<Z4)/\((x1<(AA l).length)/\(∃ y2:Nat,(y2<=l.length)/\(l.length-y2<l.length-x1)/\((rf (vI (nI l.length)))/\(vI (wR ((nI x1)+(1:Int)))=vI (nI y2))/\(rf Z1)/\(rf Z1)/\(rf Z1)/\(rf Z1)/\(vI (min (Z5.1) Z7)=vI ((loT l y2).1))/\(vI (min (Z5.2) Z8)=vI ((loT l y2).2))/\(vI (max (Z6.1) Z7)=vI ((hiT l y2).1))/\(vI (max (Z6.2) Z8)=vI ((hiT l y2).2))/\(rf (AA l)))))) ((vI (Z5.1)=vI ((Do l).1))/\(vI (Z5.2)=vI ((Do l).2))/\(vI (Z6.1)=vI ((CM l).1))/\(vI (Z6.2)=vI ((CM l).2))))))))) (by kernel_rfl) ?_
 conv=>zeta
 delta ifB vI wR nI
 have hvl:=AB l
 refine ao (by omega) λ o1=>?_
 refine ao (by omega) λ o2=>?_
 refine ao (by omega) λ o3=>?_
 refine ao (by omega) λ o4=>?_
 refine ⟨⟨0,by
  omega,?_⟩,?_⟩
 ·refine ⟨?_,?_,rfl,rfl,rfl,rfl,?_,?_,?_,?_,rfl⟩
  ·rw [hvl];done
  ·rfl
  ·rw [Aj (by omega)];rfl
  ·rw [Aw (by omega)];rfl
  ·rw [Aj (by omega)];rfl
  rw [Aw (by omega)];rfl
 intro (k:Nat) hki5
 have hki5:k<=l.length:=hki5
 refine And.symm ⟨λ c18=>?_,λ c18=>?_⟩
 ·try simp only [nrm] at c18
  refine ⟨?_,?_,?_,?_⟩
  ·rw [Ux (by omega)];done
  ·rw [Ux (by omega)];done
  ·rw [Uy (by omega)];done
  rw [Uy (by omega)];done
 try simp only [nrm] at c18
 refine ao (by omega) λ o19=>?_
 refine ao (by omega) λ o20=>?_
 refine ⟨k+1,by
  omega,by
  omega,?_⟩
 refine ⟨rfl,?_,rfl,rfl,rfl,rfl,?_,?_,?_,?_,rfl⟩
 ·exact AS (AC (by omega) (by omega))
 ·rw [R0 (by omega),Aj (by omega)];rfl
 ·rw [R0 (by omega),Aw (by omega)];rfl
 ·rw [R1 (by omega),Aj (by omega)];rfl
 rw [R1 (by omega),Aw (by omega)];rfl
theorem JT (l:List V2) (i:Nat):(GY l).getD i (0,0)=(-(l.getD i (0,0)).1,-(l.getD i (0,0)).2):=by
 unfold GY
 simp only [List.getD,List.getElem?_map]
 cases l[i]? <;> simp
theorem Y7 (a b c:V2):AH (-a.1,-a.2) (-b.1,-b.2) (-c.1,-c.2)=AH a b c:=by simp only [AH];grind
theorem WT (p:V2):AE (-p.1,-p.2)=AE p:=by
 unfold AE CV inR
 simp only
 congr 1
 ·have:(-1000<=-p.1)=(p.1<=1000):=by apply propext;omega
  have h2:(-p.1<=1000)=(-1000<=p.1):=by apply propext;omega
  simp only [this,h2,Bool.and_comm]
 ·have:(-1000<=-p.2)=(p.2<=1000):=by apply propext;omega
  have h2:(-p.2<=1000)=(-1000<=p.2):=by apply propext;omega
  simp only [this,h2,Bool.and_comm]
theorem Tk {l:List V2} (h:AK l=true):AK (GY l)=true:=by
 obtain ⟨h1,h2,h3⟩:=CA.1 h
 refine CA.2 ⟨by rw [D1];exact h1,?_,λ i j hi hj n1 n2=>?_⟩
 ·rw [List.all_eq_true] at h2 ⊢
  intro x hx
  obtain ⟨y,hy,rfl⟩:=List.mem_map.1 hx
  rw [WT];exact h2 y hy
 ·rw [D1] at hi hj n2
  rw [D1,JT,JT,JT,Y7]
  exact h3 i j hi hj n1 n2
theorem Y8 {s:Scn} (h:AI s=true):AK s.robot=true/\s.robot.length<=5/\s.robot.all (CV 20)=true:=by
 simp only [AI,shape,Bool.and_eq_true,decide_eq_true_eq] at h
 exact ⟨h.1.2.1.1,h.1.2.1.2,h.1.2.2⟩
theorem AAc {s:Scn} (h:AI s=true) {o:List V2} (ho:o ∈ s.obst):AK o=true/\o.length<=5/\o.all (CV 200)=true:=by
 simp only [AI,Bool.and_eq_true,decide_eq_true_eq] at h
 have:=List.all_eq_true.1 h.2.1.1.1 o ho
 simp only [shape,Bool.and_eq_true,decide_eq_true_eq] at this
 exact ⟨this.1.1,this.1.2,this.2⟩
theorem Ps {m:Int} {l:List V2} (h:l.all (CV m)=true) {i:Nat} (hi:i<l.length):-m<=(l.getD i (0,0)).1/\(l.getD i (0,0)).1<=m/\-m<=(l.getD i (0,0)).2/\(l.getD i (0,0)).2<=m:=by
 refine El (List.all_eq_true.1 h _ ?_)
 simp [List.getD,hi]
theorem IZ {s:Scn} {h:Int} (hv:(AI s && inR h 0 3)=true):AK (AF s h)=true/\(AF s h).length<=5/\(AF s h).all (CV 20)=true:=by
 rw [Bool.and_eq_true] at hv
 obtain ⟨h1,h2,h3⟩:=Y8 hv.1
 rw [Dy hv.1 (BK.1 hv.2)]
 refine ⟨by rw [Px];exact h1,by simpa [Ad] using h2,?_⟩
 rw [List.all_eq_true] at h3 ⊢
 intro x hx
 obtain ⟨y,hy,rfl⟩:=List.mem_map.1 hx
 exact Nb (h3 y hy) _
theorem Y9 {s:Scn} {h:Int} (hv:(AI s && inR h 0 3)=true) {o:List V2} (ho:o ∈ s.obst):AK (NY (AF s h) o)=true/\NY (AF s h) o=GX o (GY (AF s h)):=by
 obtain ⟨r1,r2,r3⟩:=IZ hv
 rw [Bool.and_eq_true] at hv
 obtain ⟨o1,o2,o3⟩:=AAc hv.1 ho
 have rp:=Da r1
 have e:JO (AF s h)=GY (AF s h):=Uv rp.2.2
 have n1:=Tk r1
 have hl:=D1 (AF s h)
 have h64:o.length*(GY (AF s h)).length<=64:=by
  rw [hl]
  exact Nat.le_trans (Nat.mul_le_mul o2 r2) (by decide)
 have hp:=Tj o1 n1 h64 (by omega) (λ i j hi hj=>by
  have b1:=Ps o3 hi
  have b2:=Ps r3 (show j<(AF s h).length by omega)
  rw [JT]
  unfold AE CV
  simp only [Cg,Bool.and_eq_true,BK]
  omega)
 have e2:NY (AF s h) o=GX o (GY (AF s h)):=by unfold NY;rw [e];exact Uu o1 n1 h64 hp
 exact ⟨by rw [e2];exact hp,e2⟩
theorem ZA {s:Scn} {h:Int} (hv:(AI s && inR h 0 3)=true):∀ z ∈ blk s h,AK z=true:=by
 intro z hz
 rw [Uw (by have:=IY hv;omega)] at hz
 unfold KR at hz
 rw [List.take_length] at hz
 obtain ⟨o,ho,rfl⟩:=List.mem_map.1 hz
 exact (Y9 hv ho).1
theorem GJ {s:Scn} {h:Int} (hv:(AI s && inR h 0 3)=true):A3 s h=G5 (GQ s h.toNat):=by unfold A3;rw [hv,Bool.true_and]
theorem WU {s:Scn} {h:Int} (hv:(AI s && inR h 0 3)=false):A3 s h=false/\AY s h=((0,0),(0,0)):=by
 have e:A3 s h=false:=by unfold A3;rw [hv,Bool.false_and]
 exact ⟨e,by unfold AY;rw [e];rfl⟩
theorem Kw {s:Scn} {h:Int} (hl:A3 s h=false):AY s h=((0,0),(0,0)):=by unfold AY;rw [hl];rfl
theorem Kx {s:Scn} {h:Int} (hl:A3 s h=true):AY s h=GQ s h.toNat:=by unfold AY;rw [hl];rfl
theorem ACS {s:Scn} {h:Int} (hv:(AI s && inR h 0 3)=true):IntKind.i64.wrap (s.low.1-(Do (AF s h)).1)=(GQ s h.toNat).1.1/\IntKind.i64.wrap (s.low.2-(Do (AF s h)).2)=(GQ s h.toNat).1.2/\IntKind.i64.wrap (s.high.1-(CM (AF s h)).1)=(GQ s h.toNat).2.1/\IntKind.i64.wrap (s.high.2-(CM (AF s h)).2)=(GQ s h.toNat).2.2:=by
 obtain ⟨r1,r2,r3⟩:=IZ hv
 have hn:=(Da r1).1
 rw [Bool.and_eq_true] at hv
 have hb:=Xy hv.1
 have e:=Dy hv.1 (BK.1 hv.2)
 have hz:=Ps r3 (show 0<(AF s h).length by omega)
 have hl:∀ p ∈ AF s h,-20<=p.1/\p.1<=20/\-20<=p.2/\p.2<=20:=λ p hp=>El (List.all_eq_true.1 r3 p hp)
 have b1:=Ic (m:=20) (AF s h) ((AF s h).getD 0 (0,0)) hz hl
 have b2:=Id (m:=20) (AF s h) ((AF s h).getD 0 (0,0)) hz hl
 have e1:GQ s h.toNat=((s.low.1-(Do (AF s h)).1,s.low.2-(Do (AF s h)).2),(s.high.1-(CM (AF s h)).1,s.high.2-(CM (AF s h)).2)):=by rw [e];rfl
 rw [e1]
 have c1:Do (AF s h)=(AF s h).foldl Ia ((AF s h).getD 0 (0,0)):=rfl
 have c2:CM (AF s h)=(AF s h).foldl Ib ((AF s h).getD 0 (0,0)):=rfl
 rw [c1,c2]
 exact ⟨AC (by omega) (by omega),AC (by omega) (by omega),AC (by omega) (by omega),AC (by omega) (by omega)⟩
def WV:Con:={ ι:=Scn×Int,pre:=λ i=>IA i.1/\(AI i.1 && inR i.2 0 3)=true,args:=λ i=>[DA.agg [cI i.1.low.1,cI i.1.low.2,cI i.1.high.1,cI i.1.high.2,DC.sl 24 [.int,.int] (AA i.1.robot),DC.sl 25 [.sl 24 [.int,.int]] (AM i.1.obst),DC.sl 24 [.int,.int] (AA i.1.tables)],.one (cI i.2)],res:=λ i=>⟨true,[some 4,none],[rcI ((AY i.1 i.2).1.1),rcI ((AY i.1 i.2).1.2),rcI ((AY i.1 i.2).2.1),rcI ((AY i.1 i.2).2.2),rcB (A3 i.1 i.2)]⟩ }
theorem R2:WV.Ok Tryz.prog 18:=by
 refine fok (X:=⟨tt,[(9,B8),(52,GI)],[],66,[]⟩) mixed AQ (CTok.cons Kt (CTok.cons WS (CTok.nil _))) Tryz.func18 (λ _=>[]) ?_
 rintro ⟨s,h⟩ hpre
 have hpre:IA s/\(AI s && inR h 0 3)=true:=hpre
 refine AP (q:=let Z2:=AY s h;let Z1:=(vI (0:Int)=vI (Z2.1.1))/\(vI (0:Int)=vI (Z2.1.2))/\(vI (0:Int)=vI (Z2.2.1))/\(vI (0:Int)=vI (Z2.2.2))/\(vB false=vB (A3 s h));∃ i1:Scn×Int,[DA.agg [cI s.low.1,cI s.low.2,cI s.high.1,cI s.high.2,DC.sl 24 [.int,.int] (AA s.robot),DC.sl 25 [.sl 24 [.int,.int]] (AM s.obst),DC.sl 24 [.int,.int] (AA s.tables)],DA.one (cI h)]=B8.args i1/\B8.pre i1/\(∀ b2:Bool,(b2=true->AA (AF i1.1 i1.2)=[])->(ifB (b2) Z1 (∃ i3:(List V2),let Z6:=wR (s.low.2-((Do i3).2));let Z5:=wR (s.low.1-((Do i3).1));let Z4:=wR (s.high.2-((CM i3).2));let Z3:=wR (s.high.1-((CM i3).1));[DA.one (DC.sl 24 [.int,.int] (AA (AF i1.1 i1.2)))]=GI.args i3/\GI.pre i3/\(ifB ((!(decide (Z5≥Z3)))) (ifB ((decide (Z6≥Z4))) Z1 ((vI Z5=vI (Z2.1.1))/\(vI Z6=vI (Z2.1.2))/\(vI Z3=vI (Z2.2.1))/\(vI Z4=vI (Z2.2.2))/\(vB true=vB (A3 s h)))) Z1))))) (by kernel_rfl) ?_
 conv=>zeta
 delta ifB vB vI wR
 have hv:=hpre.2
 have hpre:=hpre.1
 have hrs:=IY hv
 obtain ⟨w1,w2,w3,w4⟩:=ACS hv
 have hrv:=Rw s h
 have hvl:=AB (AF s h)
 refine ⟨(s,h),by
  rfl,by
  trivial,?_⟩
 intro b2 q4
 refine ⟨λ c5=>?_,λ c5=>?_⟩
 ·try simp only [nrm] at c5
  exfalso
  have hq:=congrArg List.length (q4 c5)
  rw [show AA (AF (s,h).1 (s,h).2)=AA (AF s h) from rfl,hvl] at hq
  simp only [List.length_nil] at hq
  omega -- done
 try simp only [nrm] at c5
 refine ⟨(AF s h),by
  rfl,by
  trivial,?_⟩
 refine And.symm ⟨λ c14=>?_,λ c14=>?_⟩
 ·try simp only [nrm] at c14
  rw [w1,w3] at c14
  have hO:A3 s h=false:=by rw [GJ hv];unfold G5;rw [decide_eq_false (by omega)];rfl
  have hE:=Kw hO
  refine ⟨?_,?_,?_,?_,?_⟩
  ·rw [hE];done
  ·rw [hE];done
  ·rw [hE];done
  ·rw [hE];done
  rw [hO];done
 try simp only [nrm] at c14
 refine ⟨λ c15=>?_,λ c15=>?_⟩
 ·try simp only [nrm] at c15
  rw [w2,w4] at c15
  have hO:A3 s h=false:=by rw [GJ hv];unfold G5;rw [decide_eq_false (show ¬ (GQ s h.toNat).1.2<(GQ s h.toNat).2.2 by omega),Bool.and_false]
  have hE:=Kw hO
  refine ⟨?_,?_,?_,?_,?_⟩
  ·rw [hE];done
  ·rw [hE];done
  ·rw [hE];done
  ·rw [hE];done
  rw [hO];done
 try simp only [nrm] at c15
 rw [w1,w3] at c14
 rw [w2,w4] at c15
 have hO:A3 s h=true:=by rw [GJ hv];unfold G5;rw [decide_eq_true (by omega),decide_eq_true (by omega)];rfl
 have hE:=Kx hO
 refine ⟨?_,?_,?_,?_,?_⟩
 ·rw [hE,w1]
 ·rw [hE,w2]
 ·rw [hE,w3]
 ·rw [hE,w4]
 rw [hO];done
def Om:Con:={ ι:=Scn×Int,pre:=λ i=>IA i.1/\(AI i.1 && inR i.2 0 3)=false,args:=λ i=>[DA.agg [cI i.1.low.1,cI i.1.low.2,cI i.1.high.1,cI i.1.high.2,DC.sl 24 [.int,.int] (AA i.1.robot),DC.sl 25 [.sl 24 [.int,.int]] (AM i.1.obst),DC.sl 24 [.int,.int] (AA i.1.tables)],.one (cI i.2)],res:=λ i=>⟨true,[some 4,none],[rcI ((AY i.1 i.2).1.1),rcI ((AY i.1 i.2).1.2),rcI ((AY i.1 i.2).2.1),rcI ((AY i.1 i.2).2.2),rcB (A3 i.1 i.2)]⟩ }
theorem ZB:Om.Ok Tryz.prog 18:=CY rfl ⟨_,Tryz.func18,by decide,rfl⟩ (λ _=>Nat.le_of_ble_eq_true rfl) (λ _=>rfl) (λ i=>[.im (.int .i64 (AY i.1 i.2).1.1),.im (.int .i64 (AY i.1 i.2).1.2),.im (.int .i64 (AY i.1 i.2).2.1),.im (.int .i64 (AY i.1 i.2).2.2),.im (.bool (A3 i.1 i.2))]) (λ _=>rfl) (λ _=>rfl) (λ i hp w us h=>by
 obtain ⟨s,k⟩:=i
 obtain ⟨cs,v,rfl,h1,h2,h3⟩:=Ix (t:=[.int,.int,.int,.int,.sl 24 [.int,.int],.sl 25 [.sl 24 [.int,.int]],.sl 24 [.int,.int]]) (x:=.int) (ds:=Wd s) (dx:=.int k) h rfl
 have h2:v=.int .i64 k:=by simpa [Rd] using h2
 subst h2
 rw [show BA (Om.args (s,k)) (cs++[.int .i64 k])=[.agg cs.toArray,.int .i64 k] from h3 _ _ rfl]
 refine (Rz s k _ w (RdRow.scene h1) hp.2).mono ?_
 rintro e w' ⟨rfl,hb⟩
 obtain ⟨e1,e2⟩:=WU hp.2
 refine ⟨[.int .i64 0,.int .i64 0,.int .i64 0,.int .i64 0,.bool false],rfl,?_,hb⟩
 show Own w' w.heap.size w'.heap.size [.int,.int,.int,.int,.bool] [.int (AY s k).1.1,.int (AY s k).1.2,.int (AY s k).2.1,.int (AY s k).2.2,.bool (A3 s k)] [.int .i64 0,.int .i64 0,.int .i64 0,.int .i64 0,.bool false]
 rw [e1,e2]
 exact ⟨[],⟨[],[],rfl,Fp.mk_int _,[],[],rfl,Fp.mk_int _,[],[],rfl,Fp.mk_int _,[],[],rfl,Fp.mk_int _,[],[],rfl,Fp.mk_bool _,rfl⟩,List.nodup_nil,λ b hb=>by simp at hb⟩)
def JU:Con:={ ι:=Scn×Int,pre:=λ i=>IA i.1,args:=λ i=>[DA.agg [cI i.1.low.1,cI i.1.low.2,cI i.1.high.1,cI i.1.high.2,DC.sl 24 [.int,.int] (AA i.1.robot),DC.sl 25 [.sl 24 [.int,.int]] (AM i.1.obst),DC.sl 24 [.int,.int] (AA i.1.tables)],.one (cI i.2)],res:=λ i=>⟨true,[some 4,none],[rcI ((AY i.1 i.2).1.1),rcI ((AY i.1 i.2).1.2),rcI ((AY i.1 i.2).2.1),rcI ((AY i.1 i.2).2.2),rcB (A3 i.1 i.2)]⟩ }
theorem AAd:JU.Ok Tryz.prog 18 where
 enter:=R2.enter
 small:=λ _=>Nat.le_of_ble_eq_true rfl
 calls:=λ i hp F w us mb h=>by
  cases hc:(AI i.1 && inR i.2 0 3) with
  | false=>
   refine (ZB.calls i ⟨hp,hc⟩ F w us mb h).mono ?_
   rintro e w' ⟨rs,bs,he,q⟩
   exact ⟨rs,bs,he,⟨q.res,q.nd,q.fresh,q.turned,q.os,q.tape,q.output,q.size,q.keep⟩⟩
  | true=>
   refine (R2.calls i ⟨hp,hc⟩ F w us mb h).mono ?_
   rintro e w' ⟨rs,bs,he,q⟩
   exact ⟨rs,bs,he,⟨q.res,q.nd,q.fresh,q.turned,q.os,q.tape,q.output,q.size,q.keep⟩⟩
theorem WW (s:Scn) (h:Int):∀ z ∈ blk s h,AK z=true:=by
 cases hv:(AI s && inR h 0 3) with
 | true=>exact ZA hv
 | false=>
  intro z hz
  rw [Y0 (by rw [Oj hv];rfl)] at hz
  simp at hz
end Go.Proofs.YtkffpiaagjcmpaaGreat
