import Derived.Test.YtkffpiaagjcmpaaGreatFmLimN
import Derived.Test.YtkffpiaagjcmpaaGreatFmRkG1
namespace Go.Proofs.YtkffpiaagjcmpaaGreat
set_option linter.unusedVariables false
set_option linter.unusedSimpArgs false
theorem OF {p:Pq} (h:p.good=true):pqR (ptQ p)=p:=by
 have hg:p.x.good=true/\p.y.good=true:=by unfold Pq.good at h;rwa [Bool.and_eq_true] at h
 show (⟨Fr.mk' (zOf (decide (p.x.z<0)) (MA (L p.x.z.natAbs))) (MA (L p.x.d)),Fr.mk' (zOf (decide (p.y.z<0)) (MA (L p.y.z.natAbs))) (MA (L p.y.d))⟩:Pq)=p
 rw [DF,DF,DF,DF,FI,FI,QY (Fr.d_good.1 hg.1),QY (Fr.d_good.1 hg.2)]
theorem ACy {p q:Pq} {a b:Q2} (h1:FrS 7 p.x a.1) (h2:FrS 7 p.y a.2) (h3:FrS 7 q.x b.1) (h4:FrS 7 q.y b.2):PqAt (Cy p q) (KL a b):=by
 have hh:FrS 1 (rOf 1 2) (1/2):=by
  have e:((1:Int):Rat)/((2:Int):Rat)=1/2:=rfl
  rw [← e]
  exact ⟨ACD (by decide) (GO (k:=0) (by decide) (by omega)) (GO (k:=2) (by decide) (by omega)),Uc (j:=0) (k:=1) (Nm (by decide)) (Nm (by decide)) (Q3 (by decide))⟩
 have m:PqAt ⟨Fr.mul (Fr.add p.x q.x) (rOf 1 2),Fr.mul (Fr.add p.y q.y) (rOf 1 2)⟩ (KL a b):=
  ⟨((h1.add h3 (by omega)).mul hh (by omega)).mono (by omega),((h2.add h4 (by omega)).mul hh (by omega)).mono (by omega)⟩
 unfold Cy orQ
 rw [if_pos m.good]
 exact m
def AAZ (b:V2×V2):Prop:=(b.1.1.natAbs<=1024/\b.1.2.natAbs<=1024)/\b.2.1.natAbs<=1024/\b.2.2.natAbs<=1024
theorem Xo {s:Scn} {h:Int} : AAZ (AN s h):=by
 cases hl:AZ s h with
 | false=>rw [Fo hl];unfold AAZ;simp only;omega
 | true=>
  have hV:=Eu hl
  obtain ⟨r1,r2,r3⟩:=HD hV
  have hn:=(Ce r1).1
  rw [Bool.and_eq_true] at hV
  have hb:=N4 hV.1
  have e:=Cv hV.1 (BO.1 hV.2)
  have hz:=KO r3 (show 0<(AD s h).length by omega)
  have hbd:∀ p ∈ AD s h,-20<=p.1/\p.1<=20/\-20<=p.2/\p.2<=20:=λ p hp=>FT (List.all_eq_true.1 r3 p hp)
  have b1:=GY (m:=20) (AD s h) ((AD s h).getD 0 (0,0)) hz hbd
  have b2:=GZ (m:=20) (AD s h) ((AD s h).getD 0 (0,0)) hz hbd
  have e1:FV s h.toNat=((s.low.1-(Db (AD s h)).1,s.low.2-(Db (AD s h)).2),(s.high.1-(CK (AD s h)).1,s.high.2-(CK (AD s h)).2)):=by rw [e];rfl
  rw [IC hl,e1]
  have c1:Db (AD s h)=(AD s h).foldl I1 ((AD s h).getD 0 (0,0)):=rfl
  have c2:CK (AD s h)=(AD s h).foldl I2 ((AD s h).getD 0 (0,0)):=rfl
  rw [c1,c2]
  unfold AAZ
  simp only
  omega
theorem TN {a b:Rat} : EY a b>0↔b<a:=by
 have:=WA (a:=a) (b:=b)
 constructor
 ·intro h;apply Classical.byContradiction;intro hn;have:=this.2 (by grind);omega
 ·intro h;apply Classical.byContradiction;intro hn;have:=this.1 (by omega);grind
theorem TO {a b:Rat} : EY a b<0↔a<b:=by
 have:=V9 (a:=a) (b:=b)
 constructor
 ·intro h;apply Classical.byContradiction;intro hn;have:=this.2 (by grind);omega
 ·intro h;apply Classical.byContradiction;intro hn;have:=this.1 (by omega);grind
def U1 (b:V2×V2) (a:Q2):Prop:=((b.1.1:Rat)<a.1/\a.1<(b.2.1:Rat))/\(b.1.2:Rat)<a.2/\a.2<(b.2.2:Rat)
theorem ACz {b:V2×V2} {p:Pq} {a:Q2} (hb:AAZ b) (hp:PqAt p a):inQ b p=true↔U1 b a:=by
 obtain ⟨⟨h1,h2⟩,h3,h4⟩:=hb
 unfold inQ U1
 simp only [Bool.and_eq_true,decide_eq_true_eq]
 rw [hp.1.cmp (FrS.int (k:=10) h1 (by omega)),hp.1.cmp (FrS.int (k:=10) h3 (by omega)),hp.2.cmp (FrS.int (k:=10) h2 (by omega)),hp.2.cmp (FrS.int (k:=10) h4 (by omega)),TN,TO,TN,TO]
 constructor
 ·rintro ⟨q1,q2,q3,q4⟩;exact ⟨⟨q1,q2⟩,q3,q4⟩
 ·rintro ⟨⟨q1,q2⟩,q3,q4⟩;exact ⟨q1,q2,q3,q4⟩
theorem AC0 {b:V2×V2} {x y:Q2} (h1:U1 b x) (h2:U1 b y):U1 b (KL x y):=by
 unfold U1 KL at *
 simp only
 grind
theorem AC1 {ar:List (List V2)} (hg:∀ z ∈ ar,AJ z=true) {p:Pq} {a:Q2} (hp:PqAt p a):TH ar p=true↔∃ z,z ∈ ar/\Qt z a:=by
 unfold TH
 rw [List.any_eq_true]
 constructor
 ·rintro ⟨z,hz,h⟩;exact ⟨z,hz,(Qu (IB (hg z hz)).2.2 hp).1 (of_decide_eq_true h)⟩
 ·rintro ⟨z,hz,h⟩;exact ⟨z,hz,decide_eq_true ((Qu (IB (hg z hz)).2.2 hp).2 h)⟩
theorem AC2 {ar:List (List V2)} (hg:∀ z ∈ ar,AJ z=true) {p q:Pq} {a b:Q2} (hp:PqAt p a) (hq:PqAt q b):smF ar p q=true↔∃ z x,z ∈ ar/\Be x a b/\Qt z x:=by
 unfold smF
 rw [List.any_eq_true]
 constructor
 ·rintro ⟨z,hz,h⟩
  obtain ⟨x,h1,h2⟩:=(AAD (hg z hz) hp hq).1 h
  exact ⟨z,x,hz,h1,h2⟩
 ·rintro ⟨z,x,hz,h1,h2⟩;exact ⟨z,hz,(AAD (hg z hz) hp hq).2 ⟨x,h1,h2⟩⟩
structure FmLaw (B:V2×V2) (ar:List (List V2)) (p q m:Pq):Prop where
 mid:(BF B ar p && (BF B ar q && !(smF ar p q)))=true->BF B ar m=true
 two:(BF B ar p && (BF B ar q && !(smF ar p q)))=((BF B ar p && (BF B ar m && !(smF ar p m))) && (BF B ar m && (BF B ar q && !(smF ar m q))))
 one:(BF B ar p && (BF B ar p && !(smF ar p p)))=BF B ar p
theorem ABt {x a:Q2} (h:Be x a a):x=a:=by
 obtain ⟨s,_,_,rfl⟩:=h
 unfold atQ;ext <;> simp only <;> grind
theorem AC3 {B:V2×V2} {ar:List (List V2)} (hB:AAZ B) (hg:∀ z ∈ ar,AJ z=true) {p q m:Pq} {a b:Q2} (hp:PqAt p a) (hq:PqAt q b) (hm:PqAt m (KL a b)):FmLaw B ar p q m:=by
 have key:∀ {p:Pq} {a:Q2},PqAt p a->(BF B ar p=true↔U1 B a/\¬ ∃ z,z ∈ ar/\Qt z a):=λ {p a} hp=>by
  unfold BF
  rw [Bool.and_eq_true,ACz hB hp,Bool.not_eq_true',← AC1 hg hp,Bool.not_eq_true]
 have segN:∀ {p q:Pq} {a b:Q2},PqAt p a->PqAt q b->((!(smF ar p q))=true↔¬ ∃ z x,z ∈ ar/\Be x a b/\Qt z x):=λ {p q a b} hp hq=>by
  rw [Bool.not_eq_true',← AC2 hg hp hq,Bool.not_eq_true]
 have hM:(BF B ar p && (BF B ar q && !(smF ar p q)))=true->BF B ar m=true:=by
  rw [Bool.and_eq_true,Bool.and_eq_true,key hp,key hq,segN hp hq,key hm]
  rintro ⟨⟨h1,-⟩,⟨h2,-⟩,h3⟩
  exact ⟨AC0 h1 h2,λ ⟨z,hz,hi⟩=>h3 ⟨z,_,hz,Ur a b,hi⟩⟩
 refine ⟨hM,?_,?_⟩
 ·rw [Bool.eq_iff_iff]
  constructor
  ·intro h
   have h0:=hM h
   rw [Bool.and_eq_true,Bool.and_eq_true,segN hp hq] at h
   obtain ⟨h1,h2,h3⟩:=h
   rw [h0,h1,h2,Bool.true_and,Bool.true_and,Bool.true_and,Bool.true_and,Bool.and_eq_true,segN hp hm,segN hm hq]
   exact ⟨λ ⟨z,x,hz,hx,hi⟩=>h3 ⟨z,x,hz,Us.2 (.inl hx),hi⟩,λ ⟨z,x,hz,hx,hi⟩=>h3 ⟨z,x,hz,Us.2 (.inr hx),hi⟩⟩
  ·intro h
   rw [Bool.and_eq_true,Bool.and_eq_true,Bool.and_eq_true,Bool.and_eq_true,Bool.and_eq_true,segN hp hm,segN hm hq] at h
   obtain ⟨⟨h1,h2,h3⟩,h4,h5,h6⟩:=h
   rw [h1,h5,Bool.true_and,Bool.true_and,segN hp hq]
   rintro ⟨z,x,hz,hx,hi⟩
   rcases Us.1 hx with hx|hx
   ·exact h3 ⟨z,x,hz,hx,hi⟩
   ·exact h6 ⟨z,x,hz,hx,hi⟩
 ·cases hf:BF B ar p with
  | false=>rfl
  | true=>
   rw [Bool.true_and,Bool.true_and,segN hp hp]
   rintro ⟨z,x,hz,hx,hi⟩
   rw [ABt hx] at hi
   exact ((key hp).1 hf).2 ⟨z,hz,hi⟩
structure MvLaw (s:Scn) (h:Int) (p q m:Pq):Prop where
 good:m.good=true
 mid:DM s h (ptQ p) (ptQ q)=true->D1 s h (ptQ m)=true/\D1 s h (ptQ p)=true/\D1 s h (ptQ q)=true
 two:DM s h (ptQ p) (ptQ q)=(DM s h (ptQ p) (ptQ m) && DM s h (ptQ m) (ptQ q))
 one:DM s h (ptQ p) (ptQ p)=D1 s h (ptQ p)
theorem AC4 {s:Scn} {h:Int} {p q:Pq} {a b:Q2} (h1:FrS 7 p.x a.1) (h2:FrS 7 p.y a.2) (h3:FrS 7 q.x b.1) (h4:FrS 7 q.y b.2):MvLaw s h p q (Cy p q):=by
 have hm:=ACy h1 h2 h3 h4
 have hp:PqAt p a:=⟨h1.mono (by omega),h2.mono (by omega)⟩
 have hq:PqAt q b:=⟨h3.mono (by omega),h4.mono (by omega)⟩
 have Q:=AC3 (Xo (s:=s) (h:=h)) (LU s h) hp hq hm
 have op:∀ {p:Pq},p.good=true->okP (ptQ p)=true:=λ {p} h=>by rw [ZE];exact h
 have gp:=hp.good
 have gq:=hq.good
 have gm:=hm.good
 refine ⟨gm,?_,?_,?_⟩
 ·rw [GW (op gp) (op gq),ID (op gm),ID (op gp),ID (op gq),OF gp,OF gq,OF gm]
  intro hh
  rw [Bool.and_eq_true] at hh
  have hM:=Q.mid hh.2
  have h2:=hh.2
  rw [Bool.and_eq_true,Bool.and_eq_true] at h2
  rw [hh.1,hM,h2.1,h2.2.1]
  exact ⟨rfl,rfl,rfl⟩
 ·rw [GW (op gp) (op gq),GW (op gp) (op gm),GW (op gm) (op gq),OF gp,OF gq,OF gm,Q.two]
  cases AZ s h <;> simp
 ·rw [GW (op gp) (op gp),ID (op gp),OF gp,Q.one]
end Go.Proofs.YtkffpiaagjcmpaaGreat
namespace Go.Proofs.YtkffpiaagjcmpaaGreat
set_option maxRecDepth 100000
set_option linter.unusedVariables false
set_option linter.unusedSimpArgs false
open Go.RowKit
def rmO (b:List UInt8) (c:Cur):Cur:=blC b (blC b c 22) 18
def rmV (b:List UInt8) (c:Cur):V2:=(1+blV b c 22,1+blV b (blC b c 22) 18)
def rmC (b:List UInt8) (c:Cur):Pq:=⟨if blV b (rmO b c) 2=0 then Fr.add (Fr.ofInt (rmV b c).1) (rOf 1 2) else Fr.ofInt (rmV b c).1,Fr.ofInt (rmV b c).2⟩
theorem WI {b:List UInt8} {c:Cur} (h:blV b (rmO b c) 2=0):(rmC b c).x=Fr.add (Fr.ofInt (rmV b c).1) (rOf 1 2):=if_pos h
theorem AAa {b:List UInt8} {c:Cur} (h:¬ blV b (rmO b c) 2=0):(rmC b c).x=Fr.ofInt (rmV b c).1:=if_neg h
theorem Q5 (b:List UInt8) (c:Cur):(1<=(rmV b c).1/\(rmV b c).1<=22)/\1<=(rmV b c).2/\(rmV b c).2<=18:=by
 have q1:=BG b c (n:=22) (by omega)
 have q2:=BG b (blC b c 22) (n:=18) (by omega)
 refine ⟨⟨by show 1<=1+_;omega,by show 1+_<=22;omega⟩,by show 1<=1+_;omega,by show 1+_<=18;omega⟩
theorem ADf (b:List UInt8) (c:Cur):IntKind.i64.wrap (1+blV b c 22)=(rmV b c).1/\IntKind.i64.wrap (1+blV b (blC b c 22) 18)=(rmV b c).2:=by
 have h:=Q5 b c
 exact ⟨AB (x:=(rmV b c).1) (by omega) (by omega),AB (x:=(rmV b c).2) (by omega) (by omega)⟩
def U2:(List UInt8)×Cur->List PC:=λ i=>[.bt i.1,.im (.int .i64 i.2.i),.im (.int .i64 i.2.h)]
def AAb:(List UInt8)×Cur->List PC:=λ i=>[.bt i.1,.im (.int .i64 (((blC i.1 (rmO i.1 i.2) 2)).i)),.im (.int .i64 (((blC i.1 (rmO i.1 i.2) 2)).h))]
def Mf:Con:={ ι:=(List UInt8)×Cur,pre:=λ i=>Aj i.1 i.2,args:=λ i=>[],ptr:=some (U2,AAb),res:=λ i=>⟨false,[some 6],[rcB (decide (((rmC i.1 i.2)).x.z<0)),.own 3 [.int] (L ((rmC i.1 i.2)).x.z.natAbs),.own 3 [.int] (L ((rmC i.1 i.2)).x.d),rcB (decide (((rmC i.1 i.2)).y.z<0)),.own 3 [.int] (L ((rmC i.1 i.2)).y.z.natAbs),.own 3 [.int] (L ((rmC i.1 i.2)).y.d)]⟩ }
theorem AC5:Mf.OkP Tryz.prog 49 U2 AAb:=by
 refine XL (X:=⟨tt,[(69,AR),(92,Eo),(72,FR),(94,HF),(93,Fg)],[4000000],20,[]⟩) mixed AI (CTok.consP J8 (CTok.cons SN (CTok.consP V4 (CTok.cons Xm (CTok.cons UN (CTok.nil _)))))) Tryz.func49 (λ _=>[]) ?_
 rintro ⟨b,c⟩ hpre
 have hpre:Aj b c:=hpre
 refine AH (q:=∃ i1:(List UInt8)×Cur×Int,let Z2:=blC i1.1 i1.2.1 i1.2.2;[DA.one (cI (22:Int))]=AR.args i1/\[PC.bt b,PC.im (vI c.i),PC.im (vI c.h)]=BL i1/\AR.pre i1/\(∃ i2:(List UInt8)×Cur×Int,let Z4:=blC i2.1 i2.2.1 i2.2.2;[DA.one (cI (18:Int))]=AR.args i2/\[PC.bt b,PC.im (vI (Z2.i)),PC.im (vI (Z2.h))]=BL i2/\AR.pre i2/\(∃ i3:Int×Int,[DA.agg [cI (wR ((1:Int)+(blV i1.1 i1.2.1 i1.2.2))),cI (wR ((1:Int)+(blV i2.1 i2.2.1 i2.2.2)))]]=Eo.args i3/\Eo.pre i3/\(∃ i4:(List UInt8)×Cur×Int,let Z3:=blC i4.1 i4.2.1 i4.2.2;let Z1:=(eqD (Fr.ofInt i3.2) (((rmC b c)).y) ((vI (Z3.i)=vI (((blC b (rmO b c) 2)).i))/\(vI (Z3.h)=vI (((blC b (rmO b c) 2)).h))));[DA.one (cI (2:Int))]=FR.args i4/\[PC.bt b,PC.im (vI (Z4.i)),PC.im (vI (Z4.h))]=MZ i4/\FR.pre i4/\(ifB ((decide (blV i4.1 i4.2.1 i4.2.2=0))) (∃ i5:Int×Int,[DA.one (cI (1:Int)),DA.one (cI (2:Int))]=HF.args i5/\HF.pre i5/\(∃ i6:Fr×Fr,[dF (Fr.ofInt i3.1),dF (rOf i5.1 i5.2)]=Fg.args i6/\Fg.pre i6/\((eqD (Fr.add i6.1 i6.2) (((rmC b c)).x) Z1)))) ((eqD (Fr.ofInt i3.1) (((rmC b c)).x) Z1))))))) (by kernel_rfl) ?_
 conv=>zeta
 delta ifB vI wR
 have k1:=A4 22 hpre
 have k2:Aj b (rmO b c):=A4 18 k1
 have rv:=Q5 b c
 obtain ⟨w1,w2⟩:=ADf b c
 refine ⟨(b,c,(22:Int)),by
  rfl,rfl,by
  exact hpre,?_⟩
 refine ⟨(b,(blC b c (22:Int)),(18:Int)),by
  rfl,rfl,by
  exact k1,?_⟩
 refine ⟨((rmV b c).1,(rmV b c).2),by
  rw [w1,w2];rfl,by
  show (-9223372036854775808<=((rmV b c).1)/\((rmV b c).1)<=9223372036854775807)/\-9223372036854775808<=((rmV b c).2)/\((rmV b c).2)<=9223372036854775807
  omega,?_⟩
 refine ⟨(b,(blC b (blC b c (22:Int)) (18:Int)),(2:Int)),by
  rfl,rfl,by
  exact k2,?_⟩
 refine And.symm ⟨λ c13=>?_,λ c13=>?_⟩
 ·try simp only [nrm] at c13
  refine Gk ?_ (Gk ?_ ⟨?_,?_⟩)
  ·show Fr.ofInt ((rmV b c).1)=((rmC b c)).x
   exact (AAa c13).symm
  ·show Fr.ofInt ((rmV b c).2)=((rmC b c)).y
   rfl
  ·show Value.int .i64 ((blC b (blC b (blC b c (22:Int)) (18:Int)) (2:Int)).i)=Value.int .i64 (((blC b (rmO b c) 2)).i)
   rfl
  show Value.int .i64 ((blC b (blC b (blC b c (22:Int)) (18:Int)) (2:Int)).h)=Value.int .i64 (((blC b (rmO b c) 2)).h)
  rfl
 try simp only [nrm] at c13
 refine ⟨((1:Int),(2:Int)),by
  rfl,by
  show (-9223372036854775808<=(1:Int)/\(1:Int)<=9223372036854775807)/\(-9223372036854775808<=(2:Int)/\(2:Int)<=9223372036854775807)
  omega,?_⟩
 refine ⟨((Fr.ofInt ((rmV b c).1)),(rOf (1:Int) (2:Int))),by
  rfl,by
  trivial,?_⟩
 refine Gk ?_ (Gk ?_ ⟨?_,?_⟩)
 ·show Fr.add (Fr.ofInt ((rmV b c).1)) (rOf (1:Int) (2:Int))=((rmC b c)).x
  exact (WI c13).symm
 ·show Fr.ofInt ((rmV b c).2)=((rmC b c)).y
  rfl
 ·show Value.int .i64 ((blC b (blC b (blC b c (22:Int)) (18:Int)) (2:Int)).i)=Value.int .i64 (((blC b (rmO b c) 2)).i)
  rfl
 show Value.int .i64 ((blC b (blC b (blC b c (22:Int)) (18:Int)) (2:Int)).h)=Value.int .i64 (((blC b (rmO b c) 2)).h)
 rfl
def GX:Con:={ ι:=(List UInt8)×Nat,pre:=λ i=>i.1.length<=1048576/\i.2<=100,args:=λ i=>[.one (.ro (.bytes i.1)),.one (cI (i.2:Int))],res:=λ i=>⟨false,[some 6],[rcB (decide (((rmC i.1 (Ap i.1 (5*i.2)))).x.z<0)),.own 3 [.int] (L ((rmC i.1 (Ap i.1 (5*i.2)))).x.z.natAbs),.own 3 [.int] (L ((rmC i.1 (Ap i.1 (5*i.2)))).x.d),rcB (decide (((rmC i.1 (Ap i.1 (5*i.2)))).y.z<0)),.own 3 [.int] (L ((rmC i.1 (Ap i.1 (5*i.2)))).y.z.natAbs),.own 3 [.int] (L ((rmC i.1 (Ap i.1 (5*i.2)))).y.d)]⟩ }
theorem ABu:GX.Ok Tryz.prog 15:=by
 refine fok (X:=⟨tt,[(32,EH),(49,Mf)],[],10,[]⟩) mixed AI (CTok.consN Sx (CTok.consP AC5 (CTok.nil _))) Tryz.func15 (λ _=>[]) ?_
 rintro ⟨b,n⟩ hpre
 have hpre:b.length<=1048576/\n<=100:=hpre
 refine AH (q:=let Z1:=(rmC b (Ap b (5*n)));∃ i1:(List UInt8)×Nat,[DA.one (DC.ro (.bytes b)),DA.one (cI (wR ((5:Int)*(n:Int))))]=EH.args i1/\EH.pre i1/\(∃ i2:(List UInt8)×Cur,[]=Mf.args i2/\[PC.bt b,PC.im (vI ((Ap i1.1 i1.2).i)),PC.im (vI ((Ap i1.1 i1.2).h))]=U2 i2/\Mf.pre i2/\((eqD (((rmC i2.1 i2.2)).x) (Z1.x) ((eqC (((rmC i2.1 i2.2)).y) (Z1.y))))))) (by kernel_rfl) ?_
 conv=>zeta
 delta vI wR
 have hw:IntKind.i64.wrap (5*(n:Int))=((5*n:Nat):Int):=by rw [AB (by omega) (by omega)];omega
 refine ⟨(b,5*n),by
  first|rfl|(rw [hw];rfl),by
  show b.length<=1048576/\(5*n)<=1000
  first|exact ⟨hpre.1,by omega⟩|exact Cw hpre.1 _,?_⟩
 refine ⟨(b,(Ap b (5*n))),by
  first|rfl|(rw [hw];rfl),rfl,by
  show Aj b (Ap b (5*n))
  first|exact ⟨hpre.1,by omega⟩|exact Cw hpre.1 _,?_⟩
 exact Gk rfl (CG rfl)
end Go.Proofs.YtkffpiaagjcmpaaGreat
namespace Go.Proofs.YtkffpiaagjcmpaaGreat
set_option linter.unusedVariables false
set_option linter.unusedSimpArgs false
open Go.RowKit
def fS (b:List UInt8):Scn:=Dy b (BM b)
def fH (b:List UInt8):Int:=Int.tmod (Qn b 1) 4
def fP (b:List UInt8) (n:Nat):Pq:=rmC b (Ap b (5*n))
theorem AC6 (b:List UInt8):0<=fH b/\fH b<=3:=by
 have:=Zv b 1
 have h1:=Int.tmod_nonneg 4 this.1
 have h2:=Int.tmod_lt_of_pos (Qn b 1) (show (0:Int)<4 by omega)
 exact ⟨h1,by show Int.tmod _ _<=3;omega⟩
theorem AAc (b:List UInt8) (c:Cur):∃ a:Q2,FrS 7 (rmC b c).x a.1/\FrS 7 (rmC b c).y a.2:=by
 have rv:=Q5 b c
 have hx:=FrS.int (n:=(rmV b c).1) (k:=5) (by omega) (by omega)
 have hy:=FrS.int (n:=(rmV b c).2) (k:=5) (by omega) (by omega)
 have hh:FrS 1 (rOf 1 2) (1/2):=by
  have e:((1:Int):Rat)/((2:Int):Rat)=1/2:=rfl
  rw [← e]
  exact ⟨ACD (by decide) (GO (k:=0) (by decide) (by omega)) (GO (k:=2) (by decide) (by omega)),Uc (j:=0) (k:=1) (Nm (by decide)) (Nm (by decide)) (Q3 (by decide))⟩
 by_cases h:blV b (rmO b c) 2=0
 ·exact ⟨(_,_),by rw [WI h];exact hx.add hh (by omega),hy.mono (by omega)⟩
 ·exact ⟨(_,_),by rw [AAa h];exact hx.mono (by omega),hy.mono (by omega)⟩
theorem AAd (b:List UInt8):MvLaw (fS b) (fH b) (fP b 1) (fP b 2) (Cy (fP b 1) (fP b 2))/\(fP b 1).good=true/\(fP b 2).good=true:=by
 obtain ⟨p,p1,p2⟩:=AAc b (Ap b (5*1))
 obtain ⟨q,q1,q2⟩:=AAc b (Ap b (5*2))
 refine ⟨AC4 p1 p2 q1 q2,?_,?_⟩
 ·show ((rmC b (Ap b (5*1))).x.good && (rmC b (Ap b (5*1))).y.good)=true
  rw [p1.good,p2.good];rfl
 ·show ((rmC b (Ap b (5*2))).x.good && (rmC b (Ap b (5*2))).y.good)=true
  rw [q1.good,q2.good];rfl
theorem ABv {s:Scn} {h:Int} (hv:AL s=true) (hh:0<=h/\h<=3):(AD s h).length=s.robot.length:=by
 rw [Cv hv hh,C9]
def Xp:Con:={ ι:=(List UInt8),pre:=λ i=>True,args:=λ i=>[.one (.ro (.bytes i))],res:=λ i=>⟨false,[none],[rcB true]⟩ }
set_option maxRecDepth 100000 in
set_option maxHeartbeats 4000000 in
theorem AAe:Xp.Ok Tryz.prog 4:=by
 refine fok (X:=⟨tt,[(6,Io),(7,Il),(15,GX),(16,KS),(17,AX),(12,BV),(9,Aq)],[],87,[]⟩) mixed AI (CTok.cons Zx (CTok.cons Zw (CTok.cons ABu (CTok.cons ABs (CTok.cons Q0 (CTok.cons AAX (CTok.cons H7 (CTok.nil _)))))))) Tryz.func4 (λ _=>[]) ?_
 intro (b:List UInt8) hpre
 have hpre:True:=hpre
 refine AH (q:=let Z15:=List UInt8;let Z13:=DC.ro (.bytes b);let Z7:=(vB false=vB true);ifB ((decide ((nI b.length)>(1048576:Int)))) ((vB true=vB true)) (∃ i1:Z15,let Z1:=Dy i1 (BM i1);let Z10:=Z1.high.2;let Z9:=Z1.high.1;let Z6:=AK Z1.obst;let Z5:=AA Z1.tables;let Z4:=AA Z1.robot;let Z14:=nI (Z4.length);[DA.one Z13]=Io.args i1/\Io.pre i1/\(∃ i2:Z15×Nat,let Z2:=cI (Int.tmod (Qn i2.1 i2.2) (4:Int));[DA.one Z13,DA.one (cI (1:Int))]=Il.args i2/\Il.pre i2/\(((4:Int)≠0)/\(∃ i3:Z15×Nat,let Z3:=((rmC i3.1 (Ap i3.1 (5*i3.2))));[DA.one Z13,DA.one (cI (1:Int))]=GX.args i3/\GX.pre i3/\(∃ i4:Z15×Nat,let Z8:=((rmC i4.1 (Ap i4.1 (5*i4.2))));[DA.one Z13,DA.one (cI (2:Int))]=GX.args i4/\GX.pre i4/\(∃ i5:Pq×Pq,let Z12:=(Cy i5.1 i5.2);[dP Z3,dP Z8]=KS.args i5/\KS.pre i5/\(∃ i6:Scn×Int×PtD×PtD,let Z11:=DM i6.1 i6.2.1 i6.2.2.1 i6.2.2.2;[DA.agg [cI 0,cI 0,cI Z9,cI Z10,DC.sl 24 [.int,.int] Z4,DC.sl 25 [.sl 24 [.int,.int]] Z6,DC.sl 24 [.int,.int] Z5],DA.one Z2,dP Z3,dP Z8]=AX.args i6/\AX.pre i6/\(ifB (Z11) (∃ i7:Scn×Int×PtD,[DA.agg [cI 0,cI 0,cI Z9,cI Z10,DC.sl 24 [.int,.int] Z4,DC.sl 25 [.sl 24 [.int,.int]] Z6,DC.sl 24 [.int,.int] Z5],DA.one Z2,dP Z12]=BV.args i7/\BV.pre i7/\(ifB ((!(!(D1 i7.1 i7.2.1 i7.2.2)))) (∃ i8:Scn×Int×PtD,[DA.agg [cI 0,cI 0,cI Z9,cI Z10,DC.sl 24 [.int,.int] Z4,DC.sl 25 [.sl 24 [.int,.int]] Z6,DC.sl 24 [.int,.int] Z5],DA.one Z2,dP Z3]=BV.args i8/\BV.pre i8/\(ifB ((!(!(D1 i8.1 i8.2.1 i8.2.2)))) (∃ i9:Scn×Int×PtD,[DA.agg [cI 0,cI 0,cI Z9,cI Z10,DC.sl 24 [.int,.int] Z4,DC.sl 25 [.sl 24 [.int,.int]] Z6,DC.sl 24 [.int,.int] Z5],DA.one Z2,dP Z8]=BV.args i9/\BV.pre i9/\(ifB ((!(D1 i9.1 i9.2.1 i9.2.2))) Z7 (∃ i10:Scn×Int×PtD×PtD,[DA.agg [cI 0,cI 0,cI Z9,cI Z10,DC.sl 24 [.int,.int] Z4,DC.sl 25 [.sl 24 [.int,.int]] Z6,DC.sl 24 [.int,.int] Z5],DA.one Z2,dP Z3,dP Z12]=AX.args i10/\AX.pre i10/\(ifB ((DM i10.1 i10.2.1 i10.2.2.1 i10.2.2.2)) (∃ i11:Scn×Int×PtD×PtD,[DA.agg [cI 0,cI 0,cI Z9,cI Z10,DC.sl 24 [.int,.int] Z4,DC.sl 25 [.sl 24 [.int,.int]] Z6,DC.sl 24 [.int,.int] Z5],DA.one Z2,dP Z12,dP Z8]=AX.args i11/\AX.pre i11/\(ifB ((Z11 == (DM i11.1 i11.2.1 i11.2.2.1 i11.2.2.2))) (∃ i12:Scn×Int×PtD×PtD,[DA.agg [cI 0,cI 0,cI Z9,cI Z10,DC.sl 24 [.int,.int] Z4,DC.sl 25 [.sl 24 [.int,.int]] Z6,DC.sl 24 [.int,.int] Z5],DA.one Z2,dP Z3,dP Z3]=AX.args i12/\AX.pre i12/\(∃ i13:Scn×Int×PtD,[DA.agg [cI 0,cI 0,cI Z9,cI Z10,DC.sl 24 [.int,.int] Z4,DC.sl 25 [.sl 24 [.int,.int]] Z6,DC.sl 24 [.int,.int] Z5],DA.one Z2,dP Z3]=BV.args i13/\BV.pre i13/\(ifB (((DM i12.1 i12.2.1 i12.2.2.1 i12.2.2.2) == (D1 i13.1 i13.2.1 i13.2.2))) (∃ i14:Scn×Int,[DA.agg [cI 0,cI 0,cI Z9,cI Z10,DC.sl 24 [.int,.int] Z4,DC.sl 25 [.sl 24 [.int,.int]] Z6,DC.sl 24 [.int,.int] Z5],DA.one Z2]=Aq.args i14/\Aq.pre i14/\((vB ((nI ((AA (AD i14.1 i14.2)).length)) == Z14)=vB true))) Z7))) Z7)) (ifB ((Z11 == false)) (∃ i15:Scn×Int×PtD×PtD,[DA.agg [cI 0,cI 0,cI Z9,cI Z10,DC.sl 24 [.int,.int] Z4,DC.sl 25 [.sl 24 [.int,.int]] Z6,DC.sl 24 [.int,.int] Z5],DA.one Z2,dP Z3,dP Z3]=AX.args i15/\AX.pre i15/\(∃ i16:Scn×Int×PtD,[DA.agg [cI 0,cI 0,cI Z9,cI Z10,DC.sl 24 [.int,.int] Z4,DC.sl 25 [.sl 24 [.int,.int]] Z6,DC.sl 24 [.int,.int] Z5],DA.one Z2,dP Z3]=BV.args i16/\BV.pre i16/\(ifB (((DM i15.1 i15.2.1 i15.2.2.1 i15.2.2.2) == (D1 i16.1 i16.2.1 i16.2.2))) (∃ i17:Scn×Int,[DA.agg [cI 0,cI 0,cI Z9,cI Z10,DC.sl 24 [.int,.int] Z4,DC.sl 25 [.sl 24 [.int,.int]] Z6,DC.sl 24 [.int,.int] Z5],DA.one Z2]=Aq.args i17/\Aq.pre i17/\((vB ((nI ((AA (AD i17.1 i17.2)).length)) == Z14)=vB true))) Z7))) Z7))))) Z7)) Z7)) (∃ i18:Scn×Int×PtD×PtD,[DA.agg [cI 0,cI 0,cI Z9,cI Z10,DC.sl 24 [.int,.int] Z4,DC.sl 25 [.sl 24 [.int,.int]] Z6,DC.sl 24 [.int,.int] Z5],DA.one Z2,dP Z3,dP Z12]=AX.args i18/\AX.pre i18/\(ifB ((DM i18.1 i18.2.1 i18.2.2.1 i18.2.2.2)) (∃ i19:Scn×Int×PtD×PtD,[DA.agg [cI 0,cI 0,cI Z9,cI Z10,DC.sl 24 [.int,.int] Z4,DC.sl 25 [.sl 24 [.int,.int]] Z6,DC.sl 24 [.int,.int] Z5],DA.one Z2,dP Z12,dP Z8]=AX.args i19/\AX.pre i19/\(ifB ((Z11 == (DM i19.1 i19.2.1 i19.2.2.1 i19.2.2.2))) (∃ i20:Scn×Int×PtD×PtD,[DA.agg [cI 0,cI 0,cI Z9,cI Z10,DC.sl 24 [.int,.int] Z4,DC.sl 25 [.sl 24 [.int,.int]] Z6,DC.sl 24 [.int,.int] Z5],DA.one Z2,dP Z3,dP Z3]=AX.args i20/\AX.pre i20/\(∃ i21:Scn×Int×PtD,[DA.agg [cI 0,cI 0,cI Z9,cI Z10,DC.sl 24 [.int,.int] Z4,DC.sl 25 [.sl 24 [.int,.int]] Z6,DC.sl 24 [.int,.int] Z5],DA.one Z2,dP Z3]=BV.args i21/\BV.pre i21/\(ifB (((DM i20.1 i20.2.1 i20.2.2.1 i20.2.2.2) == (D1 i21.1 i21.2.1 i21.2.2))) (∃ i22:Scn×Int,[DA.agg [cI 0,cI 0,cI Z9,cI Z10,DC.sl 24 [.int,.int] Z4,DC.sl 25 [.sl 24 [.int,.int]] Z6,DC.sl 24 [.int,.int] Z5],DA.one Z2]=Aq.args i22/\Aq.pre i22/\((vB ((nI ((AA (AD i22.1 i22.2)).length)) == Z14)=vB true))) Z7))) Z7)) (ifB ((Z11 == false)) (∃ i23:Scn×Int×PtD×PtD,[DA.agg [cI 0,cI 0,cI Z9,cI Z10,DC.sl 24 [.int,.int] Z4,DC.sl 25 [.sl 24 [.int,.int]] Z6,DC.sl 24 [.int,.int] Z5],DA.one Z2,dP Z3,dP Z3]=AX.args i23/\AX.pre i23/\(∃ i24:Scn×Int×PtD,[DA.agg [cI 0,cI 0,cI Z9,cI Z10,DC.sl 24 [.int,.int] Z4,DC.sl 25 [.sl 24 [.int,.int]] Z6,DC.sl 24 [.int,.int] Z5],DA.one Z2,dP Z3]=BV.args i24/\BV.pre i24/\(ifB (((DM i23.1 i23.2.1 i23.2.2.1 i23.2.2.2) == (D1 i24.1 i24.2.1 i24.2.2))) (∃ i25:Scn×Int,[DA.agg [cI 0,cI 0,cI Z9,cI Z10,DC.sl 24 [.int,.int] Z4,DC.sl 25 [.sl 24 [.int,.int]] Z6,DC.sl 24 [.int,.int] Z5],DA.one Z2]=Aq.args i25/\Aq.pre i25/\((vB ((nI ((AA (AD i25.1 i25.2)).length)) == Z14)=vB true))) Z7))) Z7)))))))))))) (by kernel_rfl) ?_
 conv=>zeta
 delta ifB vB nI
 refine ⟨λ c1=>?_,λ c1=>?_⟩
 ·try simp only [nrm] at c1
  exact rfl
 try simp only [nrm] at c1
 have hlen:b.length<=1048576:=by omega
 have rh:=AC6 b
 have hV:=Uw b (BM b)
 obtain ⟨Q,g1,g2⟩:=AAd b
 have hsz:Bu (fS b):=(AAG hV.1).1
 have hrl:(AD (fS b) (fH b)).length=(fS b).robot.length:=ABv hV.1 rh
 have hv1:=AC (AD (fS b) (fH b))
 have hv2:=AC (fS b).robot
 refine ⟨b,by
  rfl,by
  exact hlen,?_⟩
 refine ⟨(b,1),by
  rfl,by
  show b.length<=1048576/\1<=100
  exact ⟨hlen,by omega⟩,?_⟩
 refine ao (by first|rfl|omega) λ o9=>?_
 refine ⟨(b,1),by
  rfl,by
  show b.length<=1048576/\1<=100
  exact ⟨hlen,by omega⟩,?_⟩
 refine ⟨(b,2),by
  rfl,by
  show b.length<=1048576/\2<=100
  exact ⟨hlen,by omega⟩,?_⟩
 refine ⟨(fP b 1,fP b 2),by
  rfl,by
  show (fP b 1).good=true/\(fP b 2).good=true
  exact ⟨g1,g2⟩,?_⟩
 refine ⟨((fS b),(fH b),(ptQ (fP b 1)),(ptQ (fP b 2))),by
  rfl,by
  show Bu (fS b)/\(ptQ (fP b 1)).has/\(ptQ (fP b 2)).has
  first|exact ⟨hsz,AU _,AU _⟩|exact ⟨hsz,AU _⟩|exact trivial,?_⟩
 refine And.symm ⟨λ c22=>?_,λ c22=>?_⟩
 ·try simp only [nrm] at c22
  refine ⟨((fS b),(fH b),(ptQ (fP b 1)),(ptQ (Cy (fP b 1) (fP b 2)))),by
   rfl,by
   show Bu (fS b)/\(ptQ (fP b 1)).has/\(ptQ (Cy (fP b 1) (fP b 2))).has
   first|exact ⟨hsz,AU _,AU _⟩|exact ⟨hsz,AU _⟩|exact trivial,?_⟩
  refine And.symm ⟨λ c76=>?_,λ c76=>?_⟩
  ·try simp only [nrm] at c76
   refine And.symm ⟨λ c94=>?_,λ c94=>?_⟩
   ·try simp only [nrm] at c94
    first|(rw [c22] at c94;cases c94;done)|(rw [c22] at c94;exact absurd rfl c94) -- done
   try simp only [nrm] at c94
   refine ⟨((fS b),(fH b),(ptQ (fP b 1)),(ptQ (fP b 1))),by
    rfl,by
    show Bu (fS b)/\(ptQ (fP b 1)).has/\(ptQ (fP b 1)).has
    first|exact ⟨hsz,AU _,AU _⟩|exact ⟨hsz,AU _⟩|exact trivial,?_⟩
   refine ⟨((fS b),(fH b),(ptQ (fP b 1))),by
    rfl,by
    show Bu (fS b)/\(ptQ (fP b 1)).has
    first|exact ⟨hsz,AU _,AU _⟩|exact ⟨hsz,AU _⟩|exact trivial,?_⟩
   refine And.symm ⟨λ c101=>?_,λ c101=>?_⟩
   ·try simp only [nrm] at c101
    exact absurd Q.one c101 -- done
   try simp only [nrm] at c101
   refine ⟨((fS b),(fH b)),by
    rfl,by
    first|exact ⟨hsz,AU _,AU _⟩|exact ⟨hsz,AU _⟩|exact trivial,?_⟩
   show Value.bool ((((AA (AD (fS b) (fH b))).length:Nat):Int) == (((AA (Dy b (BM b)).robot).length:Nat):Int))=Value.bool true
   exact congrArg Value.bool (beq_iff_eq.2 (by rw [hv1,show (AA (Dy b (BM b)).robot).length=(Dy b (BM b)).robot.length from hv2,hrl];rfl))
  try simp only [nrm] at c76
  refine ⟨((fS b),(fH b),(ptQ (Cy (fP b 1) (fP b 2))),(ptQ (fP b 2))),by
   rfl,by
   show Bu (fS b)/\(ptQ (Cy (fP b 1) (fP b 2))).has/\(ptQ (fP b 2)).has
   first|exact ⟨hsz,AU _,AU _⟩|exact ⟨hsz,AU _⟩|exact trivial,?_⟩
  refine And.symm ⟨λ c80=>?_,λ c80=>?_⟩
  ·try simp only [nrm] at c80
   exact absurd (by rw [Q.two,c76,Bool.true_and]) c80 -- done
  try simp only [nrm] at c80
  refine ⟨((fS b),(fH b),(ptQ (fP b 1)),(ptQ (fP b 1))),by
   rfl,by
   show Bu (fS b)/\(ptQ (fP b 1)).has/\(ptQ (fP b 1)).has
   first|exact ⟨hsz,AU _,AU _⟩|exact ⟨hsz,AU _⟩|exact trivial,?_⟩
  refine ⟨((fS b),(fH b),(ptQ (fP b 1))),by
   rfl,by
   show Bu (fS b)/\(ptQ (fP b 1)).has
   first|exact ⟨hsz,AU _,AU _⟩|exact ⟨hsz,AU _⟩|exact trivial,?_⟩
  refine And.symm ⟨λ c87=>?_,λ c87=>?_⟩
  ·try simp only [nrm] at c87
   exact absurd Q.one c87 -- done
  try simp only [nrm] at c87
  refine ⟨((fS b),(fH b)),by
   rfl,by
   first|exact ⟨hsz,AU _,AU _⟩|exact ⟨hsz,AU _⟩|exact trivial,?_⟩
  show Value.bool ((((AA (AD (fS b) (fH b))).length:Nat):Int) == (((AA (Dy b (BM b)).robot).length:Nat):Int))=Value.bool true
  exact congrArg Value.bool (beq_iff_eq.2 (by rw [hv1,show (AA (Dy b (BM b)).robot).length=(Dy b (BM b)).robot.length from hv2,hrl];rfl))
 try simp only [nrm] at c22
 refine ⟨((fS b),(fH b),(ptQ (Cy (fP b 1) (fP b 2)))),by
  rfl,by
  show Bu (fS b)/\(ptQ (Cy (fP b 1) (fP b 2))).has
  first|exact ⟨hsz,AU _,AU _⟩|exact ⟨hsz,AU _⟩|exact trivial,?_⟩
 refine And.symm ⟨λ c26=>?_,λ c26=>?_⟩
 ·try simp only [nrm] at c26
  rw [(Q.mid c22).1] at c26;cases c26 -- done
 try simp only [nrm] at c26
 refine ⟨((fS b),(fH b),(ptQ (fP b 1))),by
  rfl,by
  show Bu (fS b)/\(ptQ (fP b 1)).has
  first|exact ⟨hsz,AU _,AU _⟩|exact ⟨hsz,AU _⟩|exact trivial,?_⟩
 refine And.symm ⟨λ c30=>?_,λ c30=>?_⟩
 ·try simp only [nrm] at c30
  rw [(Q.mid c22).2.1] at c30;cases c30 -- done
 try simp only [nrm] at c30
 refine ⟨((fS b),(fH b),(ptQ (fP b 2))),by
  rfl,by
  show Bu (fS b)/\(ptQ (fP b 2)).has
  first|exact ⟨hsz,AU _,AU _⟩|exact ⟨hsz,AU _⟩|exact trivial,?_⟩
 refine ⟨λ c34=>?_,λ c34=>?_⟩
 ·try simp only [nrm] at c34
  rw [(Q.mid c22).2.2] at c34;cases c34 -- done
 try simp only [nrm] at c34
 refine ⟨((fS b),(fH b),(ptQ (fP b 1)),(ptQ (Cy (fP b 1) (fP b 2)))),by
  rfl,by
  show Bu (fS b)/\(ptQ (fP b 1)).has/\(ptQ (Cy (fP b 1) (fP b 2))).has
  first|exact ⟨hsz,AU _,AU _⟩|exact ⟨hsz,AU _⟩|exact trivial,?_⟩
 refine And.symm ⟨λ c39=>?_,λ c39=>?_⟩
 ·try simp only [nrm] at c39
  exact absurd c22 (by rw [Q.two,c39];simp) -- done
 try simp only [nrm] at c39
 refine ⟨((fS b),(fH b),(ptQ (Cy (fP b 1) (fP b 2))),(ptQ (fP b 2))),by
  rfl,by
  show Bu (fS b)/\(ptQ (Cy (fP b 1) (fP b 2))).has/\(ptQ (fP b 2)).has
  first|exact ⟨hsz,AU _,AU _⟩|exact ⟨hsz,AU _⟩|exact trivial,?_⟩
 refine And.symm ⟨λ c43=>?_,λ c43=>?_⟩
 ·try simp only [nrm] at c43
  exact absurd (by rw [Q.two,c39,Bool.true_and]) c43 -- done
 try simp only [nrm] at c43
 refine ⟨((fS b),(fH b),(ptQ (fP b 1)),(ptQ (fP b 1))),by
  rfl,by
  show Bu (fS b)/\(ptQ (fP b 1)).has/\(ptQ (fP b 1)).has
  first|exact ⟨hsz,AU _,AU _⟩|exact ⟨hsz,AU _⟩|exact trivial,?_⟩
 refine ⟨((fS b),(fH b),(ptQ (fP b 1))),by
  rfl,by
  show Bu (fS b)/\(ptQ (fP b 1)).has
  first|exact ⟨hsz,AU _,AU _⟩|exact ⟨hsz,AU _⟩|exact trivial,?_⟩
 refine And.symm ⟨λ c50=>?_,λ c50=>?_⟩
 ·try simp only [nrm] at c50
  exact absurd Q.one c50 -- done
 try simp only [nrm] at c50
 refine ⟨((fS b),(fH b)),by
  rfl,by
  first|exact ⟨hsz,AU _,AU _⟩|exact ⟨hsz,AU _⟩|exact trivial,?_⟩
 show Value.bool ((((AA (AD (fS b) (fH b))).length:Nat):Int) == (((AA (Dy b (BM b)).robot).length:Nat):Int))=Value.bool true
 exact congrArg Value.bool (beq_iff_eq.2 (by rw [hv1,show (AA (Dy b (BM b)).robot).length=(Dy b (BM b)).robot.length from hv2,hrl];rfl))
end Go.Proofs.YtkffpiaagjcmpaaGreat
