import Derived.Test.YtlejeadlmpkffaaGreatMaRkHu
namespace Go.Proofs.YtlejeadlmpkffaaGreat
set_option maxRecDepth 100000
set_option linter.unusedVariables false
set_option linter.unusedSimpArgs false
open Go.RowKit
theorem poly_len {l:List V2} (h:isPoly l=true):3<=l.length/\l.length<=16/\l.all isVec=true:=by
 simp only [isPoly,Bool.and_eq_true,inR_iff] at h
 exact ⟨by omega,by omega,h.1.2⟩
def sumK (a b:List V2):Nat->List V2
 | 0=>[]
 | k+1=>sumK a b k++movL b (a.getD k (0,0)).1 (a.getD k (0,0)).2
theorem sumK_len (a b:List V2):∀ k,(sumK a b k).length=k*b.length
 | 0=>by simp [sumK]
 | k+1=>by simp only [sumK,List.length_append,sumK_len a b k,movL_len,Nat.add_mul,Nat.one_mul]
def sumS (a b:List V2):List V2:=hullV (sumK a b a.length)
def sumV (a b:List V2):List V2:=if isPoly a=true/\isPoly b=true/\a.length*b.length<=64/\isPoly (sumS a b)=true then sumS a b else []
theorem sum_no {a b:List V2} (h:isPoly a=false∨isPoly b=false∨64<a.length*b.length∨isPoly (sumS a b)=false):sumV a b=[]:=by
 unfold sumV
 rw [if_neg]
 rintro ⟨h1,h2,h3,h4⟩
 rcases h with h|h|h|h
 ·rw [h] at h1;cases h1
 ·rw [h] at h2;cases h2
 ·omega
 ·rw [h] at h4;cases h4
theorem sum_yes {a b:List V2} (h1:isPoly a=true) (h2:isPoly b=true) (h3:a.length*b.length<=64) (h4:isPoly (sumS a b)=true):sumV a b=sumS a b:=by unfold sumV;rw [if_pos ⟨h1,h2,h3,h4⟩]
theorem mul_bdN {m n:Nat} (h1:m<=16) (h2:n<=16):m*n<=256/\IntKind.i64.wrap (((m:Nat):Int)*((n:Nat):Int))=((m*n:Nat):Int):=by
 have h:m*n<=16*16:=Nat.mul_le_mul h1 h2
 refine ⟨by omega,?_⟩
 rw [← Int.natCast_mul,wrap64 (by omega) (by omega)]
theorem mul_leN {k m n:Nat} (h1:k<=m) (h2:m*n<=256):k*n<=256:=Nat.le_trans (Nat.mul_le_mul_right n h1) h2
theorem mul_stepN {k m n j:Nat} (h1:k<m) (h2:m*n<=256) (h3:j<=n):k*n+j<=256:=by
 have:=Nat.mul_le_mul_right n (show k+1<=m from h1)
 rw [Nat.add_mul,Nat.one_mul] at this
 omega
theorem movL_snocC {l:List V2} {k:Nat} {dx dy:Int} (hk:k<l.length):vecsD (movL (l.take k) dx dy)++[[.int (IntKind.i64.wrap (dx+(l.getD k (0,0)).1)),.int (IntKind.i64.wrap (dy+(l.getD k (0,0)).2))]]=vecsD (movL (l.take (k+1)) dx dy):=by
 rw [movL_take hk]
 simp [vecsD,vecD,movV,Int.add_comm]
def negL (l:List V2):List V2:=l.map λ p=>(-p.1,-p.2)
def negV (l:List V2):List V2:=if l.all isVec=true then negL l else []
theorem negL_len (l:List V2):(negL l).length=l.length:=by simp [negL]
theorem neg_yes {l:List V2} (h:l.all isVec=true):negV l=negL l:=by unfold negV;rw [if_pos h]
theorem neg_no {l:List V2} (h:l.all isVec=false):negV l=[]:=by unfold negV;rw [if_neg (by rw [h];simp)]
theorem neg_at {l:List V2} {k:Nat} (hk:k<l.length) (h:isVec (l.getD k (0,0))=false):negV l=[]:=
 neg_no (by rw [List.all_eq_false];exact ⟨l.getD k (0,0),by simp [List.getD,hk],by rw [h];simp⟩)
theorem neg_snoc {l:List V2} {k:Nat} (hk:k<l.length) (hv:isVec (l.getD k (0,0))=true):vecsD (negL (l.take k))++[[.int (IntKind.i64.wrap (0-(l.getD k (0,0)).1)),.int (IntKind.i64.wrap (0-(l.getD k (0,0)).2))]]=vecsD (negL (l.take (k+1))):=by
 have b:=isVec_bd hv
 have e:l.take (k+1)=l.take k++[l.getD k (0,0)]:=by
  rw [List.take_add_one];simp [List.getD,hk]
 rw [wrap64 (by omega) (by omega),wrap64 (by omega) (by omega),e]
 simp [negL,vecsD,vecD,Int.zero_sub]
theorem negV_len (l:List V2):(negV l).length<=l.length:=by unfold negV;split;rw [negL_len];exact Nat.le_refl _;simp
def obsV (r o:List V2):List V2:=sumV o (negV r)
def moved_con:Con:={ ι:=(List V2)×Int×Int,pre:=λ i=>i.1.length<=1048576,args:=λ i=>[.one (.sl 38 [.int,.int] (vecsD i.1)),.agg [.im (.int .i64 i.2.1),.im (.int .i64 i.2.2)]],res:=λ i=>⟨false,[none],[.own 38 [.int,.int] (vecsD (movL i.1 i.2.1 i.2.2))]⟩ }
theorem moved_ok:moved_con.Ok Tryz.prog 122:=by
 refine fok (X:=⟨tt,[],[],31,[]⟩) mixed tt_ok (CTok.nil _) Tryz.func122 (λ (i:(List V2)×Int×Int)=>[(3,.mk 4 (Nat) (λ x1=>{ tm:=[(3,.one (.one (.bp 1 0))),(9,.one (.one (.ext 2))),(10,.one (.one (.im (Value.int .i64 (((vecsD i.1).length:Nat):Int))))),(11,.one (.one (.im (Value.int .i64 (x1:Int))))),(5,.one (.one (.ext 3)))],en:=[(1,.box [.im (Value.int .i64 i.2.1),.im (Value.int .i64 i.2.2)]),(2,.view 38 [.int,.int] (vecsD i.1) []),(3,.own 38 [.int,.int] (vecsD (movL (i.1.take x1) i.2.1 i.2.2)))] }) (λ x1=>x1<=i.1.length) (λ x1=>i.1.length-x1) (λ _=>[]))]) ?_
 rintro ⟨l,dx,dy⟩ hpre
 have hpre:l.length<=1048576:=hpre
 refine by_nf (q:=(∃ x1:Nat,(x1<=l.length)/\((rf (vI (nI ((vecsD l).length))))/\(vI (0:Int)=vI (x1:Int))/\(rf (vI dx))/\(rf (vI dy))/\(rf (vecsD l))/\(([]:List (List Dat))=(vecsD (movL (l.take x1) dx dy)))))/\∀ x1:Nat,(x1<=l.length)->(((decide ((x1:Int)<(nI ((vecsD l).length))))=true->((0<=(x1:Int)/\(x1:Int)<((vecsD l).length:Int))/\((x1<(vecsD l).length)/\(((vecsD (movL (l.take x1) dx dy)).length+([[Dat.int (wR (((((vecsD l).getD x1 []).getD 0 (.int 0))).n+dx)),Dat.int (wR (((((vecsD l).getD x1 []).getD 1 (.int 0))).n+dy))]]:List (List Dat)).length<=1073741824)/\(∃ y2:Nat,(y2<=l.length)/\(l.length-y2<l.length-x1)/\((rf (vI (nI ((vecsD l).length))))/\(vI (wR ((x1:Int)+(1:Int)))=vI (y2:Int))/\(rf (vI dx))/\(rf (vI dy))/\(rf (vecsD l))/\(((vecsD (movL (l.take x1) dx dy))++([[Dat.int (wR (((((vecsD l).getD x1 []).getD 0 (.int 0))).n+dx)),Dat.int (wR (((((vecsD l).getD x1 []).getD 1 (.int 0))).n+dy))]]:List (List Dat)))=(vecsD (movL (l.take y2) dx dy)))))))))/\((decide ((x1:Int)<(nI ((vecsD l).length))))=false->(((vecsD (movL (l.take x1) dx dy))=vecsD (movL l dx dy)))))) (by kernel_rfl) ?_
 delta vI wR nI
 have hvl:=vecsD_length l
 refine ⟨⟨0,by
  omega,?_⟩,?_⟩
 ·refine ⟨rfl,rfl,rfl,rfl,rfl,?_⟩
  rfl
 intro (k:Nat) hki1
 have hki1:k<=l.length:=hki1
 have hml:(vecsD (movL (l.take k) dx dy)).length=k:=by rw [vecsD_length,movL_len,List.length_take];omega
 refine And.symm ⟨λ c9=>?_,λ c9=>?_⟩
 ·try simp only [nrm] at c9
  rw [show k=l.length by omega,List.take_length]
 try simp only [nrm] at c9
 refine ao (by omega) λ o10=>?_
 refine ao (by omega) λ o11=>?_
 refine ao (by simp only [vecsD_length,movL_len,negL_len,sumK_len,List.length_append,List.length_take,List.length_cons,List.length_nil];omega) λ o12=>?_
 refine ⟨k+1,by
  omega,by
  omega,?_⟩
 refine ⟨rfl,?_,rfl,rfl,rfl,?_⟩
 ·exact vint (wrap64 (by omega) (by omega))
 exact movL_succ (by omega)
def iSum_con:Con:={ ι:=(List V2)×(List V2),pre:=λ i=>i.1.length<=1048576/\i.2.length<=1048576,args:=λ i=>[.one (.sl 38 [.int,.int] (vecsD i.1)),.one (.sl 38 [.int,.int] (vecsD i.2))],res:=λ i=>⟨false,[none],[.own 38 [.int,.int] (vecsD (sumV i.1 i.2))]⟩ }
theorem iSum_ok:iSum_con.Ok Tryz.prog 91:=by
 refine fok (X:=⟨tt,[(121,iIsPoly_con),(122,moved_con),(123,iHull_con)],[],44,[]⟩) mixed tt_ok (CTok.cons iIsPoly_ok (CTok.cons moved_ok (CTok.cons iHull_ok (CTok.nil _)))) Tryz.func91 (λ (i:(List V2)×(List V2))=>[(5,.mk 4 (Nat) (λ x1=>{ tm:=[(1,.one (.one (.ext 1))),(26,.one (.one (.ext 2))),(27,.one (.one (.im (Value.int .i64 (((vecsD i.1).length:Nat):Int))))),(28,.one (.one (.im (Value.int .i64 ((x1:Nat):Int))))),(5,.one (.one (.ext 3)))],en:=[(1,.view 38 [.int,.int] (vecsD i.2) []),(2,.view 38 [.int,.int] (vecsD i.1) []),(3,.own 38 [.int,.int] (vecsD (sumK i.1 i.2 x1)))] }) (λ x1=>x1<=i.1.length) (λ x1=>i.1.length-x1) (λ _=>[]))]) ?_
 rintro ⟨a,b⟩ hpre
 have hpre:a.length<=1048576/\b.length<=1048576:=hpre
 refine by_nf (q:=∃ i1:(List V2),[DA.one (DC.sl 38 [.int,.int] (vecsD a))]=iIsPoly_con.args i1/\iIsPoly_con.pre i1/\(((!(!(isPoly i1)))=true->(∃ i2:(List V2),[DA.one (DC.sl 38 [.int,.int] (vecsD b))]=iIsPoly_con.args i2/\iIsPoly_con.pre i2/\(((!(!(isPoly i2)))=true->(((decide ((wR ((nI ((vecsD a).length))*(nI ((vecsD b).length))))>(64:Int)))=true->((([]:List (List Dat))=vecsD (sumV a b))))/\((decide ((wR ((nI ((vecsD a).length))*(nI ((vecsD b).length))))>(64:Int)))=false->((∃ x1:Nat,(x1<=a.length)/\((rf (vI (nI ((vecsD a).length))))/\(vI (0:Int)=vI (nI x1))/\(rf (vecsD b))/\(rf (vecsD a))/\(([]:List (List Dat))=(vecsD (sumK a b x1)))))/\∀ x1:Nat,(x1<=a.length)->(((decide ((nI x1)<(nI ((vecsD a).length))))=true->((0<=(nI x1)/\(nI x1)<((vecsD a).length:Int))/\((x1<(vecsD a).length)/\(∃ i3:(List V2)×Int×Int,[DA.one (DC.sl 38 [.int,.int] (vecsD b)),DA.agg [cI (((((vecsD a).getD x1 []).getD 0 (.int 0))).n),cI (((((vecsD a).getD x1 []).getD 1 (.int 0))).n)]]=moved_con.args i3/\moved_con.pre i3/\(((vecsD (sumK a b x1)).length+(vecsD (movL i3.1 i3.2.1 i3.2.2)).length<=1073741824)/\(∃ y2:Nat,(y2<=a.length)/\(a.length-y2<a.length-x1)/\((rf (vI (nI ((vecsD a).length))))/\(vI (wR ((nI x1)+(1:Int)))=vI (nI y2))/\(rf (vecsD b))/\(rf (vecsD a))/\(((vecsD (sumK a b x1))++vecsD (movL i3.1 i3.2.1 i3.2.2))=(vecsD (sumK a b y2))))))))))/\((decide ((nI x1)<(nI ((vecsD a).length))))=false->(∃ i4:(List V2),[DA.one (DC.sl 38 [.int,.int] (vecsD (sumK a b x1)))]=iHull_con.args i4/\iHull_con.pre i4/\(∃ i5:(List V2),[DA.one (DC.sl 38 [.int,.int] (vecsD (hullV i4)))]=iIsPoly_con.args i5/\iIsPoly_con.pre i5/\(((!(isPoly i5))=true->((([]:List (List Dat))=vecsD (sumV a b))))/\((!(isPoly i5))=false->((vecsD (hullV i4)=vecsD (sumV a b)))))))))))))/\((!(!(isPoly i2)))=false->((([]:List (List Dat))=vecsD (sumV a b)))))))/\((!(!(isPoly i1)))=false->((([]:List (List Dat))=vecsD (sumV a b)))))) (by kernel_rfl) ?_
 delta vI wR nI
 have ha:=vecsD_length a
 have hb:=vecsD_length b
 refine ⟨a,by
  rfl,by
  trivial,?_⟩
 refine And.symm ⟨λ c4=>?_,λ c4=>?_⟩
 ·try simp only [nrm] at c4
  have hE:sumV a b=[]:=sum_no (b:=b) (.inl c4)
  rw [hE];rfl
 try simp only [nrm] at c4
 refine ⟨b,by
  rfl,by
  trivial,?_⟩
 refine And.symm ⟨λ c8=>?_,λ c8=>?_⟩
 ·try simp only [nrm] at c8
  have hE:sumV a b=[]:=sum_no (.inr (.inl c8))
  rw [hE];rfl
 try simp only [nrm] at c8
 have pa:=poly_len c4
 have pb:=poly_len c8
 have hm:=mul_bdN pa.2.1 pb.2.1
 refine ⟨λ c9=>?_,λ c9=>?_⟩
 ·try simp only [nrm] at c9
  rw [ha,hb,hm.2] at c9
  have hE:sumV a b=[]:=sum_no (.inr (.inr (.inl (by omega))))
  rw [hE];rfl
 try simp only [nrm] at c9
 rw [ha,hb,hm.2] at c9
 have h64:a.length*b.length<=64:=by omega
 refine ⟨⟨0,by
  omega,?_⟩,?_⟩
 ·refine ⟨rfl,?_,rfl,rfl,?_⟩
  ·rfl
  rfl
 intro (k:Nat) hki11
 have hki11:k<=a.length:=hki11
 refine ⟨λ c18=>?_,λ c18=>?_⟩
 ·try simp only [nrm] at c18
  have hka:k<a.length:=by omega
  have hsl:=sumK_len a b k
  have hks:=mul_stepN hka hm.1 (Nat.le_refl _)
  refine ao (by omega) λ o19=>?_
  refine ao (by omega) λ o20=>?_
  refine ⟨(b,(a.getD k (0,0)).1,(a.getD k (0,0)).2),by
   rw [vecs_x hka,vecs_y hka];rfl,by
   exact hpre.2,?_⟩
  refine ao (a:=(vecsD (sumK a b k)).length+(vecsD (movL b ((a.getD k (0,0)).1) ((a.getD k (0,0)).2))).length<=1073741824) (by simp only [vecsD_length,movL_len,negL_len,sumK_len,List.length_append,List.length_take,List.length_cons,List.length_nil];omega) λ o24=>?_
  refine ⟨k+1,by
   trivial,by
   omega,?_⟩
  refine ⟨rfl,?_,rfl,rfl,?_⟩
  ·exact vint (wrap64 (by omega) (by omega))
  rw [← vecsD_app];rfl
 try simp only [nrm] at c18
 have hk:a.length=k:=by omega
 have hS:hullV (sumK a b k)=sumS a b:=by unfold sumS;rw [hk]
 refine ⟨(sumK a b k),by
  rfl,by
  show (sumK a b k).length<=1048576
  rw [sumK_len];have:=mul_leN (show k<=a.length by omega) hm.1;omega,?_⟩
 refine ⟨(hullV (sumK a b k)),by
  rfl,by
  trivial,?_⟩
 refine ⟨λ c39=>?_,λ c39=>?_⟩
 ·try simp only [nrm] at c39
  rw [hS] at c39
  have hE:sumV a b=[]:=sum_no (.inr (.inr (.inr c39)))
  rw [hE];rfl
 try simp only [nrm] at c39
 rw [hS] at c39
 have hE:=sum_yes c4 c8 h64 c39
 rw [hS,hE]
def sSum_con:Con:={ ι:=(List V2)×(List V2),pre:=λ i=>i.1.length<=1048576/\i.2.length<=1048576,args:=λ i=>[.one (.sl 38 [.int,.int] (vecsD i.1)),.one (.sl 38 [.int,.int] (vecsD i.2))],res:=λ i=>⟨false,[none],[.own 38 [.int,.int] (vecsD (sumV i.1 i.2))]⟩ }
theorem sSum_ok:sSum_con.Ok Tryz.prog 60:=by
 refine fok (X:=⟨tt,[(49,sIsPoly_con),(83,sHull_con)],[],62,[]⟩) mixed tt_ok (CTok.cons sIsPoly_ok (CTok.cons sHull_ok (CTok.nil _))) Tryz.func60 (λ (i:(List V2)×(List V2))=>[(5,.mk 4 (Nat) (λ x1=>{ tm:=[(1,.one (.one (.ext 1))),(28,.one (.one (.ext 2))),(29,.one (.one (.im (Value.int .i64 (((vecsD i.1).length:Nat):Int))))),(30,.one (.one (.im (Value.int .i64 ((x1:Nat):Int))))),(5,.one (.one (.ext 3)))],en:=[(1,.view 38 [.int,.int] (vecsD i.2) []),(2,.view 38 [.int,.int] (vecsD i.1) []),(3,.own 38 [.int,.int] (vecsD (sumK i.1 i.2 x1)))] }) (λ x1=>x1<=i.1.length) (λ x1=>i.1.length-x1) (λ x1=>[(8,.mk 5 (Nat) (λ x2=>{ tm:=[(1,.one (.one (.ext 1))),(28,.one (.one (.ext 2))),(29,.one (.one (.im (Value.int .i64 (((vecsD i.1).length:Nat):Int))))),(30,.one (.one (.im (Value.int .i64 ((x1:Nat):Int))))),(7,.one (.one (.bp 3 0))),(34,.one (.one (.ext 1))),(35,.one (.one (.im (Value.int .i64 (((vecsD i.2).length:Nat):Int))))),(36,.one (.one (.im (Value.int .i64 ((x2:Nat):Int))))),(5,.one (.one (.ext 4)))],en:=[(3,.box [.im (Value.int .i64 ((((vecsD i.1).getD x1 []).getD 0 (.int 0))).n),.im (Value.int .i64 ((((vecsD i.1).getD x1 []).getD 1 (.int 0))).n)]),(1,.view 38 [.int,.int] (vecsD i.2) []),(2,.view 38 [.int,.int] (vecsD i.1) []),(4,.own 38 [.int,.int] (vecsD (sumK i.1 i.2 x1)++vecsD (movL (i.2.take x2) (i.1.getD x1 (0,0)).1 (i.1.getD x1 (0,0)).2)))] }) (λ x2=>x2<=i.2.length) (λ x2=>i.2.length-x2) (λ _=>[]))]))]) ?_
 rintro ⟨a,b⟩ hpre
 have hpre:a.length<=1048576/\b.length<=1048576:=hpre
 refine by_nf (q:=∃ i1:(List V2),[DA.one (DC.sl 38 [.int,.int] (vecsD a))]=sIsPoly_con.args i1/\sIsPoly_con.pre i1/\(((!(!(isPoly i1)))=true->(∃ i2:(List V2),[DA.one (DC.sl 38 [.int,.int] (vecsD b))]=sIsPoly_con.args i2/\sIsPoly_con.pre i2/\(((!(!(isPoly i2)))=true->(((decide ((wR ((nI ((vecsD a).length))*(nI ((vecsD b).length))))>(64:Int)))=true->((([]:List (List Dat))=vecsD (sumV a b))))/\((decide ((wR ((nI ((vecsD a).length))*(nI ((vecsD b).length))))>(64:Int)))=false->((∃ x1:Nat,(x1<=a.length)/\((rf (vI (nI ((vecsD a).length))))/\(vI (0:Int)=vI (nI x1))/\(rf (vecsD b))/\(rf (vecsD a))/\(([]:List (List Dat))=(vecsD (sumK a b x1)))))/\∀ x1:Nat,(x1<=a.length)->(((decide ((nI x1)<(nI ((vecsD a).length))))=true->((0<=(nI x1)/\(nI x1)<((vecsD a).length:Int))/\((x1<(vecsD a).length)/\((∃ x2:Nat,(x2<=b.length)/\((rf (vI (nI ((vecsD a).length))))/\(rf (vI (nI x1)))/\(rf (vI (nI ((vecsD b).length))))/\(vI (0:Int)=vI (nI x2))/\(rf (vI ((((vecsD a).getD x1 []).getD 0 (.int 0))).n))/\(rf (vI ((((vecsD a).getD x1 []).getD 1 (.int 0))).n))/\(rf (vecsD b))/\(rf (vecsD a))/\((vecsD (sumK a b x1))=(vecsD (sumK a b x1)++vecsD (movL (b.take x2) (a.getD x1 (0,0)).1 (a.getD x1 (0,0)).2)))))/\∀ x2:Nat,(x2<=b.length)->(((decide ((nI x2)<(nI ((vecsD b).length))))=true->((0<=(nI x2)/\(nI x2)<((vecsD b).length:Int))/\((x2<(vecsD b).length)/\(((vecsD (sumK a b x1)++vecsD (movL (b.take x2) (a.getD x1 (0,0)).1 (a.getD x1 (0,0)).2)).length+([[Dat.int (wR (((((vecsD a).getD x1 []).getD 0 (.int 0))).n+((((vecsD b).getD x2 []).getD 0 (.int 0))).n)),Dat.int (wR (((((vecsD a).getD x1 []).getD 1 (.int 0))).n+((((vecsD b).getD x2 []).getD 1 (.int 0))).n))]]:List (List Dat)).length<=1073741824)/\(∃ y3:Nat,(y3<=b.length)/\(b.length-y3<b.length-x2)/\((rf (vI (nI ((vecsD a).length))))/\(rf (vI (nI x1)))/\(rf (vI (nI ((vecsD b).length))))/\(vI (wR ((nI x2)+(1:Int)))=vI (nI y3))/\(rf (vI ((((vecsD a).getD x1 []).getD 0 (.int 0))).n))/\(rf (vI ((((vecsD a).getD x1 []).getD 1 (.int 0))).n))/\(rf (vecsD b))/\(rf (vecsD a))/\(((vecsD (sumK a b x1)++vecsD (movL (b.take x2) (a.getD x1 (0,0)).1 (a.getD x1 (0,0)).2))++([[Dat.int (wR (((((vecsD a).getD x1 []).getD 0 (.int 0))).n+((((vecsD b).getD x2 []).getD 0 (.int 0))).n)),Dat.int (wR (((((vecsD a).getD x1 []).getD 1 (.int 0))).n+((((vecsD b).getD x2 []).getD 1 (.int 0))).n))]]:List (List Dat)))=(vecsD (sumK a b x1)++vecsD (movL (b.take y3) (a.getD x1 (0,0)).1 (a.getD x1 (0,0)).2)))))))))/\((decide ((nI x2)<(nI ((vecsD b).length))))=false->(∃ y4:Nat,(y4<=a.length)/\(a.length-y4<a.length-x1)/\((rf (vI (nI ((vecsD a).length))))/\(vI (wR ((nI x1)+(1:Int)))=vI (nI y4))/\(rf (vecsD b))/\(rf (vecsD a))/\((vecsD (sumK a b x1)++vecsD (movL (b.take x2) (a.getD x1 (0,0)).1 (a.getD x1 (0,0)).2))=(vecsD (sumK a b y4)))))))))))/\((decide ((nI x1)<(nI ((vecsD a).length))))=false->(∃ i3:(List V2),[DA.one (DC.sl 38 [.int,.int] (vecsD (sumK a b x1)))]=sHull_con.args i3/\sHull_con.pre i3/\(∃ i4:(List V2),[DA.one (DC.sl 38 [.int,.int] (vecsD (hullV i3)))]=sIsPoly_con.args i4/\sIsPoly_con.pre i4/\(((!(isPoly i4))=true->((([]:List (List Dat))=vecsD (sumV a b))))/\((!(isPoly i4))=false->((vecsD (hullV i3)=vecsD (sumV a b)))))))))))))/\((!(!(isPoly i2)))=false->((([]:List (List Dat))=vecsD (sumV a b)))))))/\((!(!(isPoly i1)))=false->((([]:List (List Dat))=vecsD (sumV a b)))))) (by kernel_rfl) ?_
 delta vI wR nI
 have ha:=vecsD_length a
 have hb:=vecsD_length b
 refine ⟨a,by
  rfl,by
  trivial,?_⟩
 refine And.symm ⟨λ c4=>?_,λ c4=>?_⟩
 ·try simp only [nrm] at c4
  have hE:sumV a b=[]:=sum_no (b:=b) (.inl c4)
  rw [hE];rfl
 try simp only [nrm] at c4
 refine ⟨b,by
  rfl,by
  trivial,?_⟩
 refine And.symm ⟨λ c8=>?_,λ c8=>?_⟩
 ·try simp only [nrm] at c8
  have hE:sumV a b=[]:=sum_no (.inr (.inl c8))
  rw [hE];rfl
 try simp only [nrm] at c8
 have pa:=poly_len c4
 have pb:=poly_len c8
 have hm:=mul_bdN pa.2.1 pb.2.1
 refine ⟨λ c9=>?_,λ c9=>?_⟩
 ·try simp only [nrm] at c9
  rw [ha,hb,hm.2] at c9
  have hE:sumV a b=[]:=sum_no (.inr (.inr (.inl (by omega))))
  rw [hE];rfl
 try simp only [nrm] at c9
 rw [ha,hb,hm.2] at c9
 have h64:a.length*b.length<=64:=by omega
 refine ⟨⟨0,by
  omega,?_⟩,?_⟩
 ·refine ⟨rfl,?_,rfl,rfl,?_⟩
  ·rfl
  rfl
 intro (k:Nat) hki11
 have hki11:k<=a.length:=hki11
 refine And.symm ⟨λ c18=>?_,λ c18=>?_⟩
 ·try simp only [nrm] at c18
  have hk:a.length=k:=by omega
  have hS:hullV (sumK a b k)=sumS a b:=by unfold sumS;rw [hk]
  refine ⟨(sumK a b k),by
   rfl,by
   show (sumK a b k).length<=1048576
   rw [sumK_len];have:=mul_leN (show k<=a.length by omega) hm.1;omega,?_⟩
  refine ⟨(hullV (sumK a b k)),by
   rfl,by
   trivial,?_⟩
  refine ⟨λ c62=>?_,λ c62=>?_⟩
  ·try simp only [nrm] at c62
   rw [hS] at c62
   have hE:sumV a b=[]:=sum_no (.inr (.inr (.inr c62)))
   rw [hE];rfl
  try simp only [nrm] at c62
  rw [hS] at c62
  have hE:=sum_yes c4 c8 h64 c62
  rw [hS,hE]
 try simp only [nrm] at c18
 have hka:k<a.length:=by omega
 have hsl:=sumK_len a b k
 have hks:=mul_stepN hka hm.1 (Nat.le_refl _)
 refine ao (by omega) λ o19=>?_
 refine ao (by omega) λ o20=>?_
 refine ⟨⟨0,by
  omega,?_⟩,?_⟩
 ·refine ⟨rfl,rfl,rfl,?_,rfl,rfl,rfl,rfl,?_⟩
  ·rfl
  exact (List.append_nil (vecsD (sumK a b k))).symm
 intro (j:Nat) hki21
 have hki21:j<=b.length:=hki21
 refine And.symm ⟨λ c32=>?_,λ c32=>?_⟩
 ·try simp only [nrm] at c32
  refine ⟨k+1,by
   trivial,by
   omega,?_⟩
  refine ⟨rfl,?_,rfl,rfl,?_⟩
  ·exact vint (wrap64 (by omega) (by omega))
  rw [show j=b.length by omega,List.take_length,← vecsD_app];rfl
 try simp only [nrm] at c32
 have hjb:j<b.length:=by omega
 have hks2:=mul_stepN hka hm.1 (show j+1<=b.length by omega)
 refine ao (by omega) λ o33=>?_
 refine ao (by omega) λ o34=>?_
 refine ao (by simp only [vecsD_length,movL_len,negL_len,sumK_len,List.length_append,List.length_take,List.length_cons,List.length_nil];omega) λ o35=>?_
 refine ⟨j+1,by
  trivial,by
  omega,?_⟩
 refine ⟨rfl,rfl,rfl,?_,rfl,rfl,rfl,rfl,?_⟩
 ·exact vint (wrap64 (by omega) (by omega))
 rw [vecs_x hka,vecs_y hka,vecs_x hjb,vecs_y hjb,List.append_assoc];exact congrArg (vecsD (sumK a b k)++·) (movL_snocC hjb)
def iNeg_con:Con:={ ι:=(List V2),pre:=λ i=>i.length<=1048576,args:=λ i=>[.one (.sl 38 [.int,.int] (vecsD i))],res:=λ i=>⟨false,[none],[.own 38 [.int,.int] (vecsD (negV i))]⟩ }
theorem iNeg_ok:iNeg_con.Ok Tryz.prog 92:=by
 refine fok (X:=⟨tt,[(119,areVecs_con)],[],28,[]⟩) mixed tt_ok (CTok.cons areVecs_ok (CTok.nil _)) Tryz.func92 (λ (i:(List V2))=>[(5,.mk 3 (Nat) (λ x1=>{ tm:=[(10,.one (.one (.ext 1))),(11,.one (.one (.im (Value.int .i64 (((vecsD i).length:Nat):Int))))),(12,.one (.one (.im (Value.int .i64 ((x1:Nat):Int))))),(3,.one (.one (.ext 2)))],en:=[(1,.view 38 [.int,.int] (vecsD i) []),(2,.own 38 [.int,.int] (vecsD (negL (i.take x1))))] }) (λ x1=>x1<=i.length) (λ x1=>i.length-x1) (λ _=>[]))]) ?_
 intro (l:List V2) hpre
 have hpre:l.length<=1048576:=hpre
 refine by_nf (q:=∃ i1:(List V2),[DA.one (DC.sl 38 [.int,.int] (vecsD l))]=areVecs_con.args i1/\areVecs_con.pre i1/\(((!(i1.all isVec))=true->((([]:List (List Dat))=vecsD (negV l))))/\((!(i1.all isVec))=false->((∃ x1:Nat,(x1<=l.length)/\((rf (vI (nI ((vecsD l).length))))/\(vI (0:Int)=vI (nI x1))/\(rf (vecsD l))/\(([]:List (List Dat))=(vecsD (negL (l.take x1))))))/\∀ x1:Nat,(x1<=l.length)->(((decide ((nI x1)<(nI ((vecsD l).length))))=true->((0<=(nI x1)/\(nI x1)<((vecsD l).length:Int))/\((x1<(vecsD l).length)/\(((vecsD (negL (l.take x1))).length+([[Dat.int (wR (0-((((vecsD l).getD x1 []).getD 0 (.int 0))).n)),Dat.int (wR (0-((((vecsD l).getD x1 []).getD 1 (.int 0))).n))]]:List (List Dat)).length<=1073741824)/\(∃ y2:Nat,(y2<=l.length)/\(l.length-y2<l.length-x1)/\((rf (vI (nI ((vecsD l).length))))/\(vI (wR ((nI x1)+(1:Int)))=vI (nI y2))/\(rf (vecsD l))/\(((vecsD (negL (l.take x1)))++([[Dat.int (wR (0-((((vecsD l).getD x1 []).getD 0 (.int 0))).n)),Dat.int (wR (0-((((vecsD l).getD x1 []).getD 1 (.int 0))).n))]]:List (List Dat)))=(vecsD (negL (l.take y2))))))))))/\((decide ((nI x1)<(nI ((vecsD l).length))))=false->(((vecsD (negL (l.take x1)))=vecsD (negV l))))))))) (by kernel_rfl) ?_
 delta vI wR nI
 have hvl:=vecsD_length l
 refine ⟨l,by
  rfl,by
  trivial,?_⟩
 refine ⟨λ c4=>?_,λ c4=>?_⟩
 ·try simp only [nrm] at c4
  have hE:=neg_no c4
  rw [hE];rfl
 try simp only [nrm] at c4
 have hE:=neg_yes c4
 refine ⟨⟨0,by
  omega,?_⟩,?_⟩
 ·refine ⟨rfl,?_,rfl,?_⟩
  ·rfl
  rfl
 intro (k:Nat) hki6
 have hki6:k<=l.length:=hki6
 refine And.symm ⟨λ c12=>?_,λ c12=>?_⟩
 ·try simp only [nrm] at c12
  rw [hE,show k=l.length by omega,List.take_length]
 try simp only [nrm] at c12
 have hkl:k<l.length:=by omega
 have hV:=allVec_getD c4 hkl
 refine ao (by omega) λ o13=>?_
 refine ao (by omega) λ o14=>?_
 refine ao (by simp only [vecsD_length,movL_len,negL_len,sumK_len,List.length_append,List.length_take,List.length_cons,List.length_nil];omega) λ o15=>?_
 refine ⟨k+1,by
  trivial,by
  omega,?_⟩
 refine ⟨rfl,?_,rfl,?_⟩
 ·exact vint (wrap64 (by omega) (by omega))
 rw [vecs_x hkl,vecs_y hkl];exact neg_snoc hkl hV
def sNeg_con:Con:={ ι:=(List V2),pre:=λ i=>i.length<=1048576,args:=λ i=>[.one (.sl 38 [.int,.int] (vecsD i))],res:=λ i=>⟨false,[none],[.own 38 [.int,.int] (vecsD (negV i))]⟩ }
theorem sNeg_ok:sNeg_con.Ok Tryz.prog 61:=by
 refine fok (X:=⟨tt,[(73,sIsVec_con)],[],28,[]⟩) mixed tt_ok (CTok.cons sIsVec_ok (CTok.nil _)) Tryz.func61 (λ (i:(List V2))=>[(3,.mk 3 (Nat) (λ x1=>{ tm:=[(7,.one (.one (.ext 1))),(8,.one (.one (.im (Value.int .i64 (((vecsD i).length:Nat):Int))))),(9,.one (.one (.im (Value.int .i64 ((x1:Nat):Int))))),(3,.one (.one (.ext 2)))],en:=[(1,.view 38 [.int,.int] (vecsD i) []),(2,.own 38 [.int,.int] (vecsD (negL (i.take x1))))] }) (λ x1=>x1<=i.length/\(i.take x1).all isVec=true) (λ x1=>i.length-x1) (λ _=>[]))]) ?_
 intro (l:List V2) hpre
 have hpre:l.length<=1048576:=hpre
 refine by_nf (q:=(∃ x1:Nat,(x1<=l.length/\(l.take x1).all isVec=true)/\((rf (vI (nI ((vecsD l).length))))/\(vI (0:Int)=vI (nI x1))/\(rf (vecsD l))/\(([]:List (List Dat))=(vecsD (negL (l.take x1))))))/\∀ x1:Nat,(x1<=l.length/\(l.take x1).all isVec=true)->(((decide ((nI x1)<(nI ((vecsD l).length))))=true->((0<=(nI x1)/\(nI x1)<((vecsD l).length:Int))/\((x1<(vecsD l).length)/\(∃ i1:Int×Int,[DA.agg [cI (((((vecsD l).getD x1 []).getD 0 (.int 0))).n),cI (((((vecsD l).getD x1 []).getD 1 (.int 0))).n)]]=sIsVec_con.args i1/\sIsVec_con.pre i1/\(((!(isVec (i1.1,i1.2)))=true->((([]:List (List Dat))=vecsD (negV l))))/\((!(isVec (i1.1,i1.2)))=false->(((vecsD (negL (l.take x1))).length+([[Dat.int (wR (0-((((vecsD l).getD x1 []).getD 0 (.int 0))).n)),Dat.int (wR (0-((((vecsD l).getD x1 []).getD 1 (.int 0))).n))]]:List (List Dat)).length<=1073741824)/\(∃ y2:Nat,(y2<=l.length/\(l.take y2).all isVec=true)/\(l.length-y2<l.length-x1)/\((rf (vI (nI ((vecsD l).length))))/\(vI (wR ((nI x1)+(1:Int)))=vI (nI y2))/\(rf (vecsD l))/\(((vecsD (negL (l.take x1)))++([[Dat.int (wR (0-((((vecsD l).getD x1 []).getD 0 (.int 0))).n)),Dat.int (wR (0-((((vecsD l).getD x1 []).getD 1 (.int 0))).n))]]:List (List Dat)))=(vecsD (negL (l.take y2)))))))))))))/\((decide ((nI x1)<(nI ((vecsD l).length))))=false->(((vecsD (negL (l.take x1)))=vecsD (negV l)))))) (by kernel_rfl) ?_
 delta vI wR nI
 have hvl:=vecsD_length l
 refine ⟨⟨0,by
  exact ⟨Nat.zero_le _,rfl⟩,?_⟩,?_⟩
 ·refine ⟨rfl,?_,rfl,?_⟩
  ·rfl
  rfl
 intro (k:Nat) hki1
 have hki1:k<=l.length/\(l.take k).all isVec=true:=hki1
 refine And.symm ⟨λ c7=>?_,λ c7=>?_⟩
 ·try simp only [nrm] at c7
  have hk:l.length=k:=by omega
  have hE:=neg_yes (l:=l) (by have:=hki1.2;rwa [← hk,List.take_length] at this)
  rw [hE,← hk,List.take_length]
 try simp only [nrm] at c7
 have hkl:k<l.length:=by omega
 refine ao (by omega) λ o8=>?_
 refine ao (by omega) λ o9=>?_
 refine ⟨((l.getD k (0,0)).1,(l.getD k (0,0)).2),by
  rw [vecs_x hkl,vecs_y hkl];rfl,by
  trivial,?_⟩
 refine ⟨λ c13=>?_,λ c13=>?_⟩
 ·replace c13:(!(isVec (((l.getD k (0,0)).1),((l.getD k (0,0)).2))))=true:=c13
  try simp only [nrm] at c13
  have hE:=neg_at hkl c13
  rw [hE];rfl
 replace c13:(!(isVec (((l.getD k (0,0)).1),((l.getD k (0,0)).2))))=false:=c13
 try simp only [nrm] at c13
 refine ao (by simp only [vecsD_length,movL_len,negL_len,sumK_len,List.length_append,List.length_take,List.length_cons,List.length_nil];omega) λ o15=>?_
 refine ⟨k+1,by
  exact ⟨by omega,takeAll hkl hki1.2 c13⟩,by
  omega,?_⟩
 refine ⟨rfl,?_,rfl,?_⟩
 ·exact vint (wrap64 (by omega) (by omega))
 rw [vecs_x hkl,vecs_y hkl];exact neg_snoc hkl c13
def iObs_con:Con:={ ι:=(List V2)×(List V2),pre:=λ i=>i.1.length<=1048576/\i.2.length<=1048576,args:=λ i=>[.one (.sl 38 [.int,.int] (vecsD i.1)),.one (.sl 38 [.int,.int] (vecsD i.2))],res:=λ i=>⟨false,[none],[.own 38 [.int,.int] (vecsD (obsV i.1 i.2))]⟩ }
theorem iObs_ok:iObs_con.Ok Tryz.prog 66:=by
 refine fok (X:=⟨tt,[(92,iNeg_con),(91,iSum_con)],[],9,[]⟩) mixed tt_ok (CTok.cons iNeg_ok (CTok.cons iSum_ok (CTok.nil _))) Tryz.func66 (λ _=>[]) ?_
 rintro ⟨a,b⟩ hpre
 have hpre:a.length<=1048576/\b.length<=1048576:=hpre
 refine by_nf (q:=∃ i1:(List V2),[DA.one (DC.sl 38 [.int,.int] (vecsD a))]=iNeg_con.args i1/\iNeg_con.pre i1/\(∃ i2:(List V2)×(List V2),[DA.one (DC.sl 38 [.int,.int] (vecsD b)),DA.one (DC.sl 38 [.int,.int] (vecsD (negV i1)))]=iSum_con.args i2/\iSum_con.pre i2/\((vecsD (sumV i2.1 i2.2)=vecsD (obsV a b))))) (by kernel_rfl) ?_
 have hn:=negV_len a
 refine ⟨a,by
  rfl,by
  exact hpre.1,?_⟩
 refine ⟨(b,(negV a)),by
  rfl,by
  show b.length<=1048576/\(negV a).length<=1048576
  exact ⟨hpre.2,by omega⟩,?_⟩
 rfl
def sObs_con:Con:={ ι:=(List V2)×(List V2),pre:=λ i=>i.1.length<=1048576/\i.2.length<=1048576,args:=λ i=>[.one (.sl 38 [.int,.int] (vecsD i.1)),.one (.sl 38 [.int,.int] (vecsD i.2))],res:=λ i=>⟨false,[none],[.own 38 [.int,.int] (vecsD (obsV i.1 i.2))]⟩ }
theorem sObs_ok:sObs_con.Ok Tryz.prog 35:=by
 refine fok (X:=⟨tt,[(61,sNeg_con),(60,sSum_con)],[],9,[]⟩) mixed tt_ok (CTok.cons sNeg_ok (CTok.cons sSum_ok (CTok.nil _))) Tryz.func35 (λ _=>[]) ?_
 rintro ⟨a,b⟩ hpre
 have hpre:a.length<=1048576/\b.length<=1048576:=hpre
 refine by_nf (q:=∃ i1:(List V2),[DA.one (DC.sl 38 [.int,.int] (vecsD a))]=sNeg_con.args i1/\sNeg_con.pre i1/\(∃ i2:(List V2)×(List V2),[DA.one (DC.sl 38 [.int,.int] (vecsD b)),DA.one (DC.sl 38 [.int,.int] (vecsD (negV i1)))]=sSum_con.args i2/\sSum_con.pre i2/\((vecsD (sumV i2.1 i2.2)=vecsD (obsV a b))))) (by kernel_rfl) ?_
 have hn:=negV_len a
 refine ⟨a,by
  rfl,by
  exact hpre.1,?_⟩
 refine ⟨(b,(negV a)),by
  rfl,by
  show b.length<=1048576/\(negV a).length<=1048576
  exact ⟨hpre.2,by omega⟩,?_⟩
 rfl
end Go.Proofs.YtlejeadlmpkffaaGreat
