import Derived.Test.YtlejeadlmpkffaaGreatMaRkJ
import Derived.Test.YtlejeadlmpkffaaGreatMaHuv
import Derived.Test.YtlejeadlmpkffaaGreatMaHulS
namespace Go.Proofs.YtlejeadlmpkffaaGreat
set_option maxRecDepth 100000
set_option linter.unusedVariables false
set_option linter.unusedSimpArgs false
open Go.RowKit Go.Sort Go.Shelf
def iTurn_con:Con:={ ι:=Int×Int×Int×Int×Int×Int,pre:=λ i=>isVec (i.1,i.2.1)=true/\isVec (i.2.2.1,i.2.2.2.1)=true/\isVec (i.2.2.2.2.1,i.2.2.2.2.2)=true,args:=λ i=>[.agg [.im (.int .i64 i.1),.im (.int .i64 i.2.1)],.agg [.im (.int .i64 i.2.2.1),.im (.int .i64 i.2.2.2.1)],.agg [.im (.int .i64 i.2.2.2.2.1),.im (.int .i64 i.2.2.2.2.2)]],res:=λ i=>⟨false,[none],[.im (Value.int .i64 (turnI (i.1,i.2.1) (i.2.2.1,i.2.2.2.1) (i.2.2.2.2.1,i.2.2.2.2.2)))]⟩ }
theorem iTurn_ok:iTurn_con.Ok Tryz.prog 154:=genOwn_ok rfl ⟨_,Tryz.func154,by decide,rfl⟩ (λ _=>Nat.le_of_ble_eq_true rfl) (λ _=>rfl) (λ i=>[.im (.int .i64 (turnI (i.1,i.2.1) (i.2.2.1,i.2.2.2.1) (i.2.2.2.2.1,i.2.2.2.2.2)))]) (λ _=>rfl) (λ _=>rfl) (λ i hp w us h=>by
 obtain ⟨a1,a2,b1,b2,c1,c2⟩:=i
 have h:RdRow w [.int,.int,.int,.int,.int,.int] [.int a1,.int a2,.int b1,.int b2,.int c1,.int c2] us:=h
 obtain ⟨x1,_,rfl,q1,h⟩:=RdRow.cons2 h
 obtain ⟨x2,_,rfl,q2,h⟩:=RdRow.cons2 h
 obtain ⟨x3,_,rfl,q3,h⟩:=RdRow.cons2 h
 obtain ⟨x4,_,rfl,q4,h⟩:=RdRow.cons2 h
 obtain ⟨x5,_,rfl,q5,h⟩:=RdRow.cons2 h
 obtain ⟨x6,_,rfl,q6,h⟩:=RdRow.cons2 h
 obtain ⟨-,rfl⟩:=RdRow.nil_inv h
 obtain rfl:=Rd.int2 q1
 obtain rfl:=Rd.int2 q2
 obtain rfl:=Rd.int2 q3
 obtain rfl:=Rd.int2 q4
 obtain rfl:=Rd.int2 q5
 obtain rfl:=Rd.int2 q6
 refine (turn_c a1 a2 b1 b2 c1 c2 hp.1 hp.2.1 hp.2.2 w).mono ?_
 rintro e w' ⟨rfl,hb⟩
 exact ⟨[Value.int .i64 (turnI (a1,a2) (b1,b2) (c1,c2))],rfl,Own.leaf (Fp.mk_int _),hb⟩)
def sTurn_con:Con:={ ι:=Int×Int×Int×Int×Int×Int,pre:=λ i=>isVec (i.1,i.2.1)=true/\isVec (i.2.2.1,i.2.2.2.1)=true/\isVec (i.2.2.2.2.1,i.2.2.2.2.2)=true,args:=λ i=>[.agg [.im (.int .i64 i.1),.im (.int .i64 i.2.1)],.agg [.im (.int .i64 i.2.2.1),.im (.int .i64 i.2.2.2.1)],.agg [.im (.int .i64 i.2.2.2.2.1),.im (.int .i64 i.2.2.2.2.2)]],res:=λ i=>⟨false,[none],[.im (Value.int .i64 (turnI (i.1,i.2.1) (i.2.2.1,i.2.2.2.1) (i.2.2.2.2.1,i.2.2.2.2.2)))]⟩ }
theorem sTurn_ok:sTurn_con.Ok Tryz.prog 74:=genOwn_ok rfl ⟨_,Tryz.func74,by decide,rfl⟩ (λ _=>Nat.le_of_ble_eq_true rfl) (λ _=>rfl) (λ i=>[.im (.int .i64 (turnI (i.1,i.2.1) (i.2.2.1,i.2.2.2.1) (i.2.2.2.2.1,i.2.2.2.2.2)))]) (λ _=>rfl) (λ _=>rfl) (λ i hp w us h=>by
 obtain ⟨a1,a2,b1,b2,c1,c2⟩:=i
 have h:RdRow w [.int,.int,.int,.int,.int,.int] [.int a1,.int a2,.int b1,.int b2,.int c1,.int c2] us:=h
 obtain ⟨x1,_,rfl,q1,h⟩:=RdRow.cons2 h
 obtain ⟨x2,_,rfl,q2,h⟩:=RdRow.cons2 h
 obtain ⟨x3,_,rfl,q3,h⟩:=RdRow.cons2 h
 obtain ⟨x4,_,rfl,q4,h⟩:=RdRow.cons2 h
 obtain ⟨x5,_,rfl,q5,h⟩:=RdRow.cons2 h
 obtain ⟨x6,_,rfl,q6,h⟩:=RdRow.cons2 h
 obtain ⟨-,rfl⟩:=RdRow.nil_inv h
 obtain rfl:=Rd.int2 q1
 obtain rfl:=Rd.int2 q2
 obtain rfl:=Rd.int2 q3
 obtain rfl:=Rd.int2 q4
 obtain rfl:=Rd.int2 q5
 obtain rfl:=Rd.int2 q6
 refine (Turn_c a1 a2 b1 b2 c1 c2 hp.1 hp.2.1 hp.2.2 w).mono ?_
 rintro e w' ⟨rfl,hb⟩
 exact ⟨[Value.int .i64 (turnI (a1,a2) (b1,b2) (c1,c2))],rfl,Own.leaf (Fp.mk_int _),hb⟩)
def l06Less_con:Con:={ ι:=Int×Int×Int×Int,pre:=λ i=>True,args:=λ i=>[.agg [.im (.int .i64 i.1),.im (.int .i64 i.2.1)],.agg [.im (.int .i64 i.2.2.1),.im (.int .i64 i.2.2.2)]],res:=λ i=>⟨false,[none],[.im (Value.bool (lessV (i.1,i.2.1) (i.2.2.1,i.2.2.2)))]⟩ }
theorem l06Less_ok:l06Less_con.Ok Tryz.prog 109:=by
 refine fok (X:=⟨tt,[],[],24,[]⟩) mixed tt_ok (CTok.nil _) Tryz.func109 (λ _=>[]) ?_
 rintro ⟨a1,a2,b1,b2⟩ hpre
 have hpre:True:=hpre
 refine by_nf (q:=((!(decide (a1<b1)))=true->(((a1 == b1)=true->((Value.bool (decide (a2<b2))=Value.bool (lessV (a1,a2) (b1,b2)))))/\((a1 == b1)=false->((Value.bool false=Value.bool (lessV (a1,a2) (b1,b2)))))))/\((!(decide (a1<b1)))=false->((Value.bool true=Value.bool (lessV (a1,a2) (b1,b2)))))) (by kernel_rfl) ?_
 refine And.symm ⟨λ c1=>?_,λ c1=>?_⟩
 ·try simp only [nrm] at c1
  exact congrArg Value.bool (by unfold lessV;simp_all)
 try simp only [nrm] at c1
 refine ⟨λ c2=>?_,λ c2=>?_⟩
 ·try simp only [nrm] at c2
  exact congrArg Value.bool (by unfold lessV;simp_all)
 try simp only [nrm] at c2
 exact congrArg Value.bool (by unfold lessV;simp_all)
def iChain_con:Con:={ ι:=(List V2),pre:=λ i=>i.all isVec=true/\0<i.length/\i.length<=64,args:=λ i=>[.one (.sl 38 [.int,.int] (vecsD i))],res:=λ i=>⟨false,[none],[.own 38 [.int,.int] (vecsD (chain i))]⟩ }
theorem iChain_ok:iChain_con.Ok Tryz.prog 159:=by
 refine fok (X:=⟨tt,[(154,iTurn_con)],[37,47],48,[]⟩) mixed tt_ok (CTok.cons iTurn_ok (CTok.nil _)) Tryz.func159 (λ (i:(List V2))=>[(3,.mk 3 (Nat) (λ x1=>{ tm:=[(7,.one (.one (.ext 1))),(8,.one (.one (.im (Value.int .i64 (((vecsD i).length:Nat):Int))))),(9,.one (.one (.im (Value.int .i64 ((x1:Nat):Int))))),(3,.one (.one (.ext 2)))],en:=[(1,.view 38 [.int,.int] (vecsD i) []),(2,.own 38 [.int,.int] (vecsD (chT i x1)))] }) (λ x1=>x1<=i.length) (λ x1=>i.length-x1) (λ x1=>[(5,.mk 4 ((List V2)) (λ x2=>{ tm:=[(7,.one (.one (.ext 1))),(8,.one (.one (.im (Value.int .i64 (((vecsD i).length:Nat):Int))))),(9,.one (.one (.im (Value.int .i64 ((x1:Nat):Int))))),(5,.one (.one (.bp 2 0))),(3,.one (.one (.ext 3)))],en:=[(2,.box [.im (Value.int .i64 ((((vecsD i).getD x1 []).getD 0 (.int 0))).n),.im (Value.int .i64 ((((vecsD i).getD x1 []).getD 1 (.int 0))).n)]),(1,.view 38 [.int,.int] (vecsD i) []),(3,.own 38 [.int,.int] (vecsD x2))] }) (λ x2=>popA x2 (i.getD x1 (0,0))=popA (chT i x1) (i.getD x1 (0,0))/\x2.length<=x1/\x2.all isVec=true) (λ x2=>x2.length) (λ _=>[]))]))]) ?_
 intro (l:List V2) hpre
 have hpre:l.all isVec=true/\0<l.length/\l.length<=64:=hpre
 refine by_nf (q:=(∃ x1:Nat,(x1<=l.length)/\((rf (vI (nI ((vecsD l).length))))/\(vI (0:Int)=vI (nI x1))/\(rf (vecsD l))/\(([]:List (List Dat))=(vecsD (chT l x1)))))/\∀ x1:Nat,(x1<=l.length)->(((decide ((nI x1)<(nI ((vecsD l).length))))=true->((0<=(nI x1)/\(nI x1)<((vecsD l).length:Int))/\((x1<(vecsD l).length)/\((∃ x2:(List V2),(popA x2 (l.getD x1 (0,0))=popA (chT l x1) (l.getD x1 (0,0))/\x2.length<=x1/\x2.all isVec=true)/\((rf (vI (nI ((vecsD l).length))))/\(rf (vI (nI x1)))/\(rf (vI ((((vecsD l).getD x1 []).getD 0 (.int 0))).n))/\(rf (vI ((((vecsD l).getD x1 []).getD 1 (.int 0))).n))/\(rf (vecsD l))/\((vecsD (chT l x1))=(vecsD x2))))/\∀ x2:(List V2),(popA x2 (l.getD x1 (0,0))=popA (chT l x1) (l.getD x1 (0,0))/\x2.length<=x1/\x2.all isVec=true)->(((decide ((nI ((vecsD x2).length))>(1:Int)))=true->((0<=(wR ((nI ((vecsD x2).length))-(2:Int)))/\(wR ((nI ((vecsD x2).length))-(2:Int)))<((vecsD x2).length:Int))/\(((wR ((nI ((vecsD x2).length))-(2:Int))).toNat<(vecsD x2).length)/\((0<=(wR ((nI ((vecsD x2).length))-(1:Int)))/\(wR ((nI ((vecsD x2).length))-(1:Int)))<((vecsD x2).length:Int))/\(((wR ((nI ((vecsD x2).length))-(1:Int))).toNat<(vecsD x2).length)/\(∃ i1:Int×Int×Int×Int×Int×Int,[DA.agg [cI (((((vecsD x2).getD ((wR ((nI ((vecsD x2).length))-(2:Int))).toNat) []).getD 0 (.int 0))).n),cI (((((vecsD x2).getD ((wR ((nI ((vecsD x2).length))-(2:Int))).toNat) []).getD 1 (.int 0))).n)],DA.agg [cI (((((vecsD x2).getD ((wR ((nI ((vecsD x2).length))-(1:Int))).toNat) []).getD 0 (.int 0))).n),cI (((((vecsD x2).getD ((wR ((nI ((vecsD x2).length))-(1:Int))).toNat) []).getD 1 (.int 0))).n)],DA.agg [cI (((((vecsD l).getD x1 []).getD 0 (.int 0))).n),cI (((((vecsD l).getD x1 []).getD 1 (.int 0))).n)]]=iTurn_con.args i1/\iTurn_con.pre i1/\(((decide ((turnI (i1.1,i1.2.1) (i1.2.2.1,i1.2.2.2.1) (i1.2.2.2.2.1,i1.2.2.2.2.2))<=(0:Int)))=true->((Nat.beq 2 2=true)/\(((0:Int)=0)/\((0<=(wR ((nI ((vecsD x2).length))-(1:Int))))/\(((wR ((nI ((vecsD x2).length))-(1:Int)))<=((vecsD x2).length:Int))/\(∃ y3:(List V2),(popA y3 (l.getD x1 (0,0))=popA (chT l x1) (l.getD x1 (0,0))/\y3.length<=x1/\y3.all isVec=true)/\(y3.length<x2.length)/\((rf (vI (nI ((vecsD l).length))))/\(rf (vI (nI x1)))/\(rf (vI ((((vecsD l).getD x1 []).getD 0 (.int 0))).n))/\(rf (vI ((((vecsD l).getD x1 []).getD 1 (.int 0))).n))/\(rf (vecsD l))/\(((vecsD x2).take ((wR ((nI ((vecsD x2).length))-(1:Int))).toNat))=(vecsD y3)))))))))/\((decide ((turnI (i1.1,i1.2.1) (i1.2.2.1,i1.2.2.2.1) (i1.2.2.2.2.1,i1.2.2.2.2.2))<=(0:Int)))=false->(((vecsD x2).length+([[Dat.int (((((vecsD l).getD x1 []).getD 0 (.int 0))).n),Dat.int (((((vecsD l).getD x1 []).getD 1 (.int 0))).n)]]:List (List Dat)).length<=1073741824)/\(∃ y4:Nat,(y4<=l.length)/\(l.length-y4<l.length-x1)/\((rf (vI (nI ((vecsD l).length))))/\(vI (wR ((nI x1)+(1:Int)))=vI (nI y4))/\(rf (vecsD l))/\(((vecsD x2)++([[Dat.int (((((vecsD l).getD x1 []).getD 0 (.int 0))).n),Dat.int (((((vecsD l).getD x1 []).getD 1 (.int 0))).n)]]:List (List Dat)))=(vecsD (chT l y4))))))))))))))/\((decide ((nI ((vecsD x2).length))>(1:Int)))=false->(((vecsD x2).length+([[Dat.int (((((vecsD l).getD x1 []).getD 0 (.int 0))).n),Dat.int (((((vecsD l).getD x1 []).getD 1 (.int 0))).n)]]:List (List Dat)).length<=1073741824)/\(∃ y5:Nat,(y5<=l.length)/\(l.length-y5<l.length-x1)/\((rf (vI (nI ((vecsD l).length))))/\(vI (wR ((nI x1)+(1:Int)))=vI (nI y5))/\(rf (vecsD l))/\(((vecsD x2)++([[Dat.int (((((vecsD l).getD x1 []).getD 0 (.int 0))).n),Dat.int (((((vecsD l).getD x1 []).getD 1 (.int 0))).n)]]:List (List Dat)))=(vecsD (chT l y5))))))))))))/\((decide ((nI x1)<(nI ((vecsD l).length))))=false->((Nat.beq 2 2=true)/\(((0:Int)=0)/\((0<=(wR ((nI ((vecsD (chT l x1)).length))-(1:Int))))/\(((wR ((nI ((vecsD (chT l x1)).length))-(1:Int)))<=((vecsD (chT l x1)).length:Int))/\((((vecsD (chT l x1)).take ((wR ((nI ((vecsD (chT l x1)).length))-(1:Int))).toNat))=vecsD (chain l)))))))))) (by kernel_rfl) ?_
 delta vI wR nI
 have hvl:=vecsD_length l
 refine ⟨⟨0,by
  omega,?_⟩,?_⟩
 ·refine ⟨rfl,?_,rfl,?_⟩
  ·rfl
  rfl
 intro (k:Nat) hki1
 have hki1:k<=l.length:=hki1
 refine And.symm ⟨λ c7=>?_,λ c7=>?_⟩
 ·try simp only [nrm] at c7
  have hk:l.length=k:=by omega
  have hcb:=chT_bd hpre.1 k (by omega)
  have hp:0<(chT l k).length:=by obtain ⟨m,rfl⟩:∃ m,k=m+1:=⟨k-1,by omega⟩;exact chT_pos l m
  have hvc:=vecsD_length (chT l k)
  have hw3:IntKind.i64.wrap ((((vecsD (chT l k)).length:Nat):Int)-(1:Int))=(((chT l k).length-1:Nat):Int):=by rw [hvc,wrap64 (by omega) (by omega)];omega
  refine ao (by rfl) λ o56=>?_
  refine ao (by rfl) λ o57=>?_
  refine ao (by omega) λ o58=>?_
  refine ao (by omega) λ o59=>?_
  rw [hw3,Int.toNat_natCast];show _=vecsD (cutL (chT l l.length));rw [hk];simp [vecsD,cutL,List.map_take]
 try simp only [nrm] at c7
 have hkl:k<l.length:=by omega
 have hV:=allVec_getD hpre.1 hkl
 have hcb:=chT_bd hpre.1 k (by omega)
 refine ao (by omega) λ o8=>?_
 refine ao (by omega) λ o9=>?_
 refine ⟨⟨chT l k,by
  exact ⟨rfl,hcb.1,hcb.2⟩,?_⟩,?_⟩
 ·exact ⟨rfl,rfl,rfl,rfl,rfl,rfl⟩
 intro (o:List V2) hki10
 have hki10:popA o (l.getD k (0,0))=popA (chT l k) (l.getD k (0,0))/\o.length<=k/\o.all isVec=true:=hki10
 have hvo:=vecsD_length o
 refine And.symm ⟨λ c18=>?_,λ c18=>?_⟩
 ·try simp only [nrm] at c18
  have hn:popA o (l.getD k (0,0))=o:=popA_no (λ h=>by omega)
  refine ao (by simp only [vecsD_length,List.length_cons,List.length_nil];omega) λ o48=>?_
  refine ⟨k+1,by
   trivial,by
   omega,?_⟩
  refine ⟨rfl,?_,rfl,?_⟩
  ·exact vint (wrap64 (by omega) (by omega))
  rw [vecs_x hkl,vecs_y hkl,← chT_step hki10.1 hn];simp [vecsD,vecD]
 try simp only [nrm] at c18
 have ho:1<o.length:=by omega
 have hw2:IntKind.i64.wrap ((((vecsD o).length:Nat):Int)-(2:Int))=((o.length-2:Nat):Int):=by rw [hvo,wrap64 (by omega) (by omega)];omega
 have hw1:IntKind.i64.wrap ((((vecsD o).length:Nat):Int)-(1:Int))=((o.length-1:Nat):Int):=by rw [hvo,wrap64 (by omega) (by omega)];omega
 refine ao (by omega) λ o19=>?_
 refine ao (by omega) λ o20=>?_
 refine ao (by omega) λ o21=>?_
 refine ao (by omega) λ o22=>?_
 refine ⟨((o.getD (o.length-2) (0,0)).1,(o.getD (o.length-2) (0,0)).2,(o.getD (o.length-1) (0,0)).1,(o.getD (o.length-1) (0,0)).2,(l.getD k (0,0)).1,(l.getD k (0,0)).2),by
  rw [hw2,hw1,Int.toNat_natCast,Int.toNat_natCast,vecs_x (show o.length-2<o.length by omega),vecs_y (show o.length-2<o.length by omega),vecs_x (show o.length-1<o.length by omega),vecs_y (show o.length-1<o.length by omega),vecs_x hkl,vecs_y hkl];rfl,by
  try dsimp only [iTurn_con]
  exact ⟨allVec_getD hki10.2.2 (show o.length-2<o.length by omega),allVec_getD hki10.2.2 (show o.length-1<o.length by omega),hV⟩,?_⟩
 refine And.symm ⟨λ c26=>?_,λ c26=>?_⟩
 ·try dsimp only at c26
  try simp only [nrm] at c26
  have hn:popA o (l.getD k (0,0))=o:=popA_no (λ h=>Int.not_le.2 c26 h.2)
  refine ao (by simp only [vecsD_length,List.length_cons,List.length_nil];omega) λ o40=>?_
  refine ⟨k+1,by
   trivial,by
   omega,?_⟩
  refine ⟨rfl,?_,rfl,?_⟩
  ·exact vint (wrap64 (by omega) (by omega))
  rw [vecs_x hkl,vecs_y hkl,← chT_step hki10.1 hn];simp [vecsD,vecD]
 try dsimp only at c26
 try simp only [nrm] at c26
 refine ao (by rfl) λ o27=>?_
 refine ao (by rfl) λ o28=>?_
 refine ao (by omega) λ o29=>?_
 refine ao (by omega) λ o30=>?_
 refine ⟨o.take (o.length-1),by
  exact ⟨(popA_yes ho c26).trans hki10.1,by simp only [List.length_take];omega,by rw [List.all_eq_true];exact λ x hx=>List.all_eq_true.1 hki10.2.2 x (List.mem_of_mem_take hx)⟩,by
  simp only [List.length_take];omega,?_⟩
 refine ⟨rfl,rfl,rfl,rfl,rfl,?_⟩
 rw [hw1,Int.toNat_natCast];simp [vecsD,List.map_take]
def sChain_con:Con:={ ι:=(List V2),pre:=λ i=>i.all isVec=true/\0<i.length/\i.length<=64,args:=λ i=>[.one (.sl 38 [.int,.int] (vecsD i))],res:=λ i=>⟨false,[none],[.own 38 [.int,.int] (vecsD (chT i i.length))]⟩ }
theorem sChain_ok:sChain_con.Ok Tryz.prog 110:=by
 refine fok (X:=⟨tt,[(74,sTurn_con)],[37],44,[]⟩) mixed tt_ok (CTok.cons sTurn_ok (CTok.nil _)) Tryz.func110 (λ (i:(List V2))=>[(3,.mk 3 (Nat) (λ x1=>{ tm:=[(7,.one (.one (.ext 1))),(8,.one (.one (.im (Value.int .i64 (((vecsD i).length:Nat):Int))))),(9,.one (.one (.im (Value.int .i64 ((x1:Nat):Int))))),(3,.one (.one (.ext 2)))],en:=[(1,.view 38 [.int,.int] (vecsD i) []),(2,.own 38 [.int,.int] (vecsD (chT i x1)))] }) (λ x1=>x1<=i.length) (λ x1=>i.length-x1) (λ x1=>[(5,.mk 4 ((List V2)) (λ x2=>{ tm:=[(7,.one (.one (.ext 1))),(8,.one (.one (.im (Value.int .i64 (((vecsD i).length:Nat):Int))))),(9,.one (.one (.im (Value.int .i64 ((x1:Nat):Int))))),(5,.one (.one (.bp 2 0))),(3,.one (.one (.ext 3)))],en:=[(2,.box [.im (Value.int .i64 ((((vecsD i).getD x1 []).getD 0 (.int 0))).n),.im (Value.int .i64 ((((vecsD i).getD x1 []).getD 1 (.int 0))).n)]),(1,.view 38 [.int,.int] (vecsD i) []),(3,.own 38 [.int,.int] (vecsD x2))] }) (λ x2=>popA x2 (i.getD x1 (0,0))=popA (chT i x1) (i.getD x1 (0,0))/\x2.length<=x1/\x2.all isVec=true) (λ x2=>x2.length) (λ _=>[]))]))]) ?_
 intro (l:List V2) hpre
 have hpre:l.all isVec=true/\0<l.length/\l.length<=64:=hpre
 refine by_nf (q:=(∃ x1:Nat,(x1<=l.length)/\((rf (vI (nI ((vecsD l).length))))/\(vI (0:Int)=vI (nI x1))/\(rf (vecsD l))/\(([]:List (List Dat))=(vecsD (chT l x1)))))/\∀ x1:Nat,(x1<=l.length)->(((decide ((nI x1)<(nI ((vecsD l).length))))=true->((0<=(nI x1)/\(nI x1)<((vecsD l).length:Int))/\((x1<(vecsD l).length)/\((∃ x2:(List V2),(popA x2 (l.getD x1 (0,0))=popA (chT l x1) (l.getD x1 (0,0))/\x2.length<=x1/\x2.all isVec=true)/\((rf (vI (nI ((vecsD l).length))))/\(rf (vI (nI x1)))/\(rf (vI ((((vecsD l).getD x1 []).getD 0 (.int 0))).n))/\(rf (vI ((((vecsD l).getD x1 []).getD 1 (.int 0))).n))/\(rf (vecsD l))/\((vecsD (chT l x1))=(vecsD x2))))/\∀ x2:(List V2),(popA x2 (l.getD x1 (0,0))=popA (chT l x1) (l.getD x1 (0,0))/\x2.length<=x1/\x2.all isVec=true)->(((decide ((nI ((vecsD x2).length))>(1:Int)))=true->((0<=(wR ((nI ((vecsD x2).length))-(2:Int)))/\(wR ((nI ((vecsD x2).length))-(2:Int)))<((vecsD x2).length:Int))/\(((wR ((nI ((vecsD x2).length))-(2:Int))).toNat<(vecsD x2).length)/\((0<=(wR ((nI ((vecsD x2).length))-(1:Int)))/\(wR ((nI ((vecsD x2).length))-(1:Int)))<((vecsD x2).length:Int))/\(((wR ((nI ((vecsD x2).length))-(1:Int))).toNat<(vecsD x2).length)/\(∃ i1:Int×Int×Int×Int×Int×Int,[DA.agg [cI (((((vecsD x2).getD ((wR ((nI ((vecsD x2).length))-(2:Int))).toNat) []).getD 0 (.int 0))).n),cI (((((vecsD x2).getD ((wR ((nI ((vecsD x2).length))-(2:Int))).toNat) []).getD 1 (.int 0))).n)],DA.agg [cI (((((vecsD x2).getD ((wR ((nI ((vecsD x2).length))-(1:Int))).toNat) []).getD 0 (.int 0))).n),cI (((((vecsD x2).getD ((wR ((nI ((vecsD x2).length))-(1:Int))).toNat) []).getD 1 (.int 0))).n)],DA.agg [cI (((((vecsD l).getD x1 []).getD 0 (.int 0))).n),cI (((((vecsD l).getD x1 []).getD 1 (.int 0))).n)]]=sTurn_con.args i1/\sTurn_con.pre i1/\(((decide ((turnI (i1.1,i1.2.1) (i1.2.2.1,i1.2.2.2.1) (i1.2.2.2.2.1,i1.2.2.2.2.2))<=(0:Int)))=true->((Nat.beq 2 2=true)/\(((0:Int)=0)/\((0<=(wR ((nI ((vecsD x2).length))-(1:Int))))/\(((wR ((nI ((vecsD x2).length))-(1:Int)))<=((vecsD x2).length:Int))/\(∃ y3:(List V2),(popA y3 (l.getD x1 (0,0))=popA (chT l x1) (l.getD x1 (0,0))/\y3.length<=x1/\y3.all isVec=true)/\(y3.length<x2.length)/\((rf (vI (nI ((vecsD l).length))))/\(rf (vI (nI x1)))/\(rf (vI ((((vecsD l).getD x1 []).getD 0 (.int 0))).n))/\(rf (vI ((((vecsD l).getD x1 []).getD 1 (.int 0))).n))/\(rf (vecsD l))/\(((vecsD x2).take ((wR ((nI ((vecsD x2).length))-(1:Int))).toNat))=(vecsD y3)))))))))/\((decide ((turnI (i1.1,i1.2.1) (i1.2.2.1,i1.2.2.2.1) (i1.2.2.2.2.1,i1.2.2.2.2.2))<=(0:Int)))=false->(((vecsD x2).length+([[Dat.int (((((vecsD l).getD x1 []).getD 0 (.int 0))).n),Dat.int (((((vecsD l).getD x1 []).getD 1 (.int 0))).n)]]:List (List Dat)).length<=1073741824)/\(∃ y4:Nat,(y4<=l.length)/\(l.length-y4<l.length-x1)/\((rf (vI (nI ((vecsD l).length))))/\(vI (wR ((nI x1)+(1:Int)))=vI (nI y4))/\(rf (vecsD l))/\(((vecsD x2)++([[Dat.int (((((vecsD l).getD x1 []).getD 0 (.int 0))).n),Dat.int (((((vecsD l).getD x1 []).getD 1 (.int 0))).n)]]:List (List Dat)))=(vecsD (chT l y4))))))))))))))/\((decide ((nI ((vecsD x2).length))>(1:Int)))=false->(((vecsD x2).length+([[Dat.int (((((vecsD l).getD x1 []).getD 0 (.int 0))).n),Dat.int (((((vecsD l).getD x1 []).getD 1 (.int 0))).n)]]:List (List Dat)).length<=1073741824)/\(∃ y5:Nat,(y5<=l.length)/\(l.length-y5<l.length-x1)/\((rf (vI (nI ((vecsD l).length))))/\(vI (wR ((nI x1)+(1:Int)))=vI (nI y5))/\(rf (vecsD l))/\(((vecsD x2)++([[Dat.int (((((vecsD l).getD x1 []).getD 0 (.int 0))).n),Dat.int (((((vecsD l).getD x1 []).getD 1 (.int 0))).n)]]:List (List Dat)))=(vecsD (chT l y5))))))))))))/\((decide ((nI x1)<(nI ((vecsD l).length))))=false->(((vecsD (chT l x1))=vecsD (chT l l.length)))))) (by kernel_rfl) ?_
 delta vI wR nI
 have hvl:=vecsD_length l
 refine ⟨⟨0,by
  omega,?_⟩,?_⟩
 ·refine ⟨rfl,?_,rfl,?_⟩
  ·rfl
  rfl
 intro (k:Nat) hki1
 have hki1:k<=l.length:=hki1
 refine And.symm ⟨λ c7=>?_,λ c7=>?_⟩
 ·try simp only [nrm] at c7
  rw [show l.length=k by omega]
 try simp only [nrm] at c7
 have hkl:k<l.length:=by omega
 have hV:=allVec_getD hpre.1 hkl
 have hcb:=chT_bd hpre.1 k (by omega)
 refine ao (by omega) λ o8=>?_
 refine ao (by omega) λ o9=>?_
 refine ⟨⟨chT l k,by
  exact ⟨rfl,hcb.1,hcb.2⟩,?_⟩,?_⟩
 ·exact ⟨rfl,rfl,rfl,rfl,rfl,rfl⟩
 intro (o:List V2) hki10
 have hki10:popA o (l.getD k (0,0))=popA (chT l k) (l.getD k (0,0))/\o.length<=k/\o.all isVec=true:=hki10
 have hvo:=vecsD_length o
 refine And.symm ⟨λ c18=>?_,λ c18=>?_⟩
 ·try simp only [nrm] at c18
  have hn:popA o (l.getD k (0,0))=o:=popA_no (λ h=>by omega)
  refine ao (by simp only [vecsD_length,List.length_cons,List.length_nil];omega) λ o48=>?_
  refine ⟨k+1,by
   trivial,by
   omega,?_⟩
  refine ⟨rfl,?_,rfl,?_⟩
  ·exact vint (wrap64 (by omega) (by omega))
  rw [vecs_x hkl,vecs_y hkl,← chT_step hki10.1 hn];simp [vecsD,vecD]
 try simp only [nrm] at c18
 have ho:1<o.length:=by omega
 have hw2:IntKind.i64.wrap ((((vecsD o).length:Nat):Int)-(2:Int))=((o.length-2:Nat):Int):=by rw [hvo,wrap64 (by omega) (by omega)];omega
 have hw1:IntKind.i64.wrap ((((vecsD o).length:Nat):Int)-(1:Int))=((o.length-1:Nat):Int):=by rw [hvo,wrap64 (by omega) (by omega)];omega
 refine ao (by omega) λ o19=>?_
 refine ao (by omega) λ o20=>?_
 refine ao (by omega) λ o21=>?_
 refine ao (by omega) λ o22=>?_
 refine ⟨((o.getD (o.length-2) (0,0)).1,(o.getD (o.length-2) (0,0)).2,(o.getD (o.length-1) (0,0)).1,(o.getD (o.length-1) (0,0)).2,(l.getD k (0,0)).1,(l.getD k (0,0)).2),by
  rw [hw2,hw1,Int.toNat_natCast,Int.toNat_natCast,vecs_x (show o.length-2<o.length by omega),vecs_y (show o.length-2<o.length by omega),vecs_x (show o.length-1<o.length by omega),vecs_y (show o.length-1<o.length by omega),vecs_x hkl,vecs_y hkl];rfl,by
  try dsimp only [sTurn_con]
  exact ⟨allVec_getD hki10.2.2 (show o.length-2<o.length by omega),allVec_getD hki10.2.2 (show o.length-1<o.length by omega),hV⟩,?_⟩
 refine And.symm ⟨λ c26=>?_,λ c26=>?_⟩
 ·try dsimp only at c26
  try simp only [nrm] at c26
  have hn:popA o (l.getD k (0,0))=o:=popA_no (λ h=>Int.not_le.2 c26 h.2)
  refine ao (by simp only [vecsD_length,List.length_cons,List.length_nil];omega) λ o40=>?_
  refine ⟨k+1,by
   trivial,by
   omega,?_⟩
  refine ⟨rfl,?_,rfl,?_⟩
  ·exact vint (wrap64 (by omega) (by omega))
  rw [vecs_x hkl,vecs_y hkl,← chT_step hki10.1 hn];simp [vecsD,vecD]
 try dsimp only at c26
 try simp only [nrm] at c26
 refine ao (by rfl) λ o27=>?_
 refine ao (by rfl) λ o28=>?_
 refine ao (by omega) λ o29=>?_
 refine ao (by omega) λ o30=>?_
 refine ⟨o.take (o.length-1),by
  exact ⟨(popA_yes ho c26).trans hki10.1,by simp only [List.length_take];omega,by rw [List.all_eq_true];exact λ x hx=>List.all_eq_true.1 hki10.2.2 x (List.mem_of_mem_take hx)⟩,by
  simp only [List.length_take];omega,?_⟩
 refine ⟨rfl,rfl,rfl,rfl,rfl,?_⟩
 rw [hw1,Int.toNat_natCast];simp [vecsD,List.map_take]
def cloneV_con:Con:={ ι:=(List (List Dat)),pre:=λ i=>i.length<=1073741824,args:=λ i=>[.one (.sl 38 [.int,.int] i)],res:=λ i=>⟨false,[none],[.own 38 [.int,.int] i]⟩ }
theorem cloneV_ok:cloneV_con.Ok Tryz.prog 155:=by
 refine fok (X:=⟨tt,[],[],8,[]⟩) mixed tt_ok (CTok.nil _) Tryz.func155 (λ _=>[]) ?_
 intro (ls:List (List Dat)) hpre
 have hpre:ls.length<=1073741824:=hpre
 refine by_nf (q:=∀ b1:Bool,(b1=true->ls=[])->((b1=true->((([]:List (List Dat))=ls)))/\(b1=false->((([]:List (List Dat)).length+ls.length<=1073741824)/\(((([]:List (List Dat))++ls)=ls)))))) (by kernel_rfl) ?_
 intro b1 q1
 refine ⟨λ c2=>?_,λ c2=>?_⟩
 ·try simp only [nrm] at c2
  rw [q1 c2]
 try simp only [nrm] at c2
 refine ao (by simp;omega) λ o4=>?_
 rfl
def sHull_con:Con:={ ι:=(List V2),pre:=λ i=>i.length<=1048576,args:=λ i=>[.one (.sl 38 [.int,.int] (vecsD i))],res:=λ i=>⟨false,[none],[.own 38 [.int,.int] (vecsD (hullV i))]⟩ }
theorem sHull_ok:sHull_con.Ok Tryz.prog 83:=by
 refine fok (X:=⟨tt,[(73,sIsVec_con),(109,l06Less_con),(110,sChain_con)],[],104,[]⟩) mixed tt_ok (CTok.cons sIsVec_ok (CTok.cons l06Less_ok (CTok.cons sChain_ok (CTok.nil _)))) Tryz.func83 (λ (i:(List V2))=>[(21,.mk 3 (Nat) (λ x10=>{ tm:=[(9,.one (.one (.im (Value.int .i64 ((((srtU i i.length).length:Nat):Int)-1-((x10:Nat):Int)))))),(3,.one (.one (.ext 1))),(8,.one (.one (.ext 2)))],en:=[(1,.own 38 [.int,.int] (vecsD (srtU i i.length))),(2,.own 38 [.int,.int] (vecsD ((srtU i i.length).reverse.take x10)))] }) (λ x10=>x10<=(srtU i i.length).length) (λ x10=>(srtU i i.length).length-x10) (λ _=>[])),(5,.mk 3 (Nat) (λ x1=>{ tm:=[(17,.one (.one (.ext 1))),(18,.one (.one (.im (Value.int .i64 (((vecsD i).length:Nat):Int))))),(19,.one (.one (.im (Value.int .i64 ((x1:Nat):Int))))),(3,.one (.one (.ext 2)))],en:=[(1,.view 38 [.int,.int] (vecsD i) []),(2,.own 38 [.int,.int] (vecsD (srtU i x1)))] }) (λ x1=>x1<=i.length/\(i.take x1).all isVec=true) (λ x1=>i.length-x1) (λ x1=>[(10,.mk 4 (Nat) (λ x2=>{ tm:=[(17,.one (.one (.ext 1))),(18,.one (.one (.im (Value.int .i64 (((vecsD i).length:Nat):Int))))),(19,.one (.one (.im (Value.int .i64 ((x1:Nat):Int))))),(5,.one (.one (.bp 2 0))),(6,.one (.one (.im (Value.int .i64 ((x2:Nat):Int))))),(3,.one (.one (.ext 3)))],en:=[(2,.box [.im (Value.int .i64 ((((vecsD i).getD x1 []).getD 0 (.int 0))).n),.im (Value.int .i64 ((((vecsD i).getD x1 []).getD 1 (.int 0))).n)]),(1,.view 38 [.int,.int] (vecsD i) []),(3,.own 38 [.int,.int] (vecsD (srtU i x1)))] }) (λ x2=>x2<=(srtU i x1).length/\∀ j,j<x2->lessV ((srtU i x1).getD j (0,0)) (i.getD x1 (0,0))=true) (λ x2=>(srtU i x1).length-x2) (λ _=>[]))]))]) ?_
 intro (l:List V2) hpre
 have hpre:l.length<=1048576:=hpre
 refine by_nf (q:=((decide ((nI ((vecsD l).length))>(64:Int)))=true->((([]:List (List Dat))=vecsD (hullV l))))/\((decide ((nI ((vecsD l).length))>(64:Int)))=false->((∃ x1:Nat,(x1<=l.length/\(l.take x1).all isVec=true)/\((rf (vI (nI ((vecsD l).length))))/\(vI (0:Int)=vI (nI x1))/\(rf (vecsD l))/\(([]:List (List Dat))=(vecsD (srtU l x1)))))/\∀ x1:Nat,(x1<=l.length/\(l.take x1).all isVec=true)->(((decide ((nI x1)<(nI ((vecsD l).length))))=true->((0<=(nI x1)/\(nI x1)<((vecsD l).length:Int))/\((x1<(vecsD l).length)/\(∃ i1:Int×Int,[DA.agg [cI (((((vecsD l).getD x1 []).getD 0 (.int 0))).n),cI (((((vecsD l).getD x1 []).getD 1 (.int 0))).n)]]=sIsVec_con.args i1/\sIsVec_con.pre i1/\(((!(isVec (i1.1,i1.2)))=true->((([]:List (List Dat))=vecsD (hullV l))))/\((!(isVec (i1.1,i1.2)))=false->((∃ x2:Nat,(x2<=(srtU l x1).length/\∀ j,j<x2->lessV ((srtU l x1).getD j (0,0)) (l.getD x1 (0,0))=true)/\((rf (vI (nI ((vecsD l).length))))/\(rf (vI (nI x1)))/\(vI (0:Int)=vI (nI x2))/\(rf (vI ((((vecsD l).getD x1 []).getD 0 (.int 0))).n))/\(rf (vI ((((vecsD l).getD x1 []).getD 1 (.int 0))).n))/\(rf (vecsD l))/\(rf (vecsD (srtU l x1)))))/\∀ x2:Nat,(x2<=(srtU l x1).length/\∀ j,j<x2->lessV ((srtU l x1).getD j (0,0)) (l.getD x1 (0,0))=true)->(((decide ((nI x2)<(nI ((vecsD (srtU l x1)).length))))=true->((0<=(nI x2)/\(nI x2)<((vecsD (srtU l x1)).length:Int))/\((x2<(vecsD (srtU l x1)).length)/\(∃ i2:Int×Int×Int×Int,[DA.agg [cI (((((vecsD (srtU l x1)).getD x2 []).getD 0 (.int 0))).n),cI (((((vecsD (srtU l x1)).getD x2 []).getD 1 (.int 0))).n)],DA.agg [cI (((((vecsD l).getD x1 []).getD 0 (.int 0))).n),cI (((((vecsD l).getD x1 []).getD 1 (.int 0))).n)]]=l06Less_con.args i2/\l06Less_con.pre i2/\(((lessV (i2.1,i2.2.1) (i2.2.2.1,i2.2.2.2))=true->(∃ y3:Nat,(y3<=(srtU l x1).length/\∀ j,j<y3->lessV ((srtU l x1).getD j (0,0)) (l.getD x1 (0,0))=true)/\((srtU l x1).length-y3<(srtU l x1).length-x2)/\((rf (vI (nI ((vecsD l).length))))/\(rf (vI (nI x1)))/\(vI (wR ((nI x2)+(1:Int)))=vI (nI y3))/\(rf (vI ((((vecsD l).getD x1 []).getD 0 (.int 0))).n))/\(rf (vI ((((vecsD l).getD x1 []).getD 1 (.int 0))).n))/\(rf (vecsD l))/\(rf (vecsD (srtU l x1))))))/\((lessV (i2.1,i2.2.1) (i2.2.2.1,i2.2.2.2))=false->(((decide ((nI x2)<(nI ((vecsD (srtU l x1)).length))))=true->((0<=(nI x2)/\(nI x2)<((vecsD (srtU l x1)).length:Int))/\((x2<(vecsD (srtU l x1)).length)/\((([((((vecsD (srtU l x1)).getD x2 []).getD 0 (.int 0))).n,((((vecsD (srtU l x1)).getD x2 []).getD 1 (.int 0))).n] == [((((vecsD l).getD x1 []).getD 0 (.int 0))).n,((((vecsD l).getD x1 []).getD 1 (.int 0))).n])=true->(∃ y4:Nat,(y4<=l.length/\(l.take y4).all isVec=true)/\(l.length-y4<l.length-x1)/\((rf (vI (nI ((vecsD l).length))))/\(vI (wR ((nI x1)+(1:Int)))=vI (nI y4))/\(rf (vecsD l))/\((vecsD (srtU l x1))=(vecsD (srtU l y4))))))/\(([((((vecsD (srtU l x1)).getD x2 []).getD 0 (.int 0))).n,((((vecsD (srtU l x1)).getD x2 []).getD 1 (.int 0))).n] == [((((vecsD l).getD x1 []).getD 0 (.int 0))).n,((((vecsD l).getD x1 []).getD 1 (.int 0))).n])=false->((Nat.beq 2 2=true)/\((0<=(0:Int))/\(((0:Int)<=(nI x2))/\(((nI x2)<=((vecsD (srtU l x1)).length:Int))/\((([]:List (List Dat)).length+((vecsD (srtU l x1)).take x2).length<=1073741824)/\(((([]:List (List Dat))++((vecsD (srtU l x1)).take x2)).length+([[Dat.int (((((vecsD l).getD x1 []).getD 0 (.int 0))).n),Dat.int (((((vecsD l).getD x1 []).getD 1 (.int 0))).n)]]:List (List Dat)).length<=1073741824)/\((Nat.beq 2 2=true)/\((0<=(nI x2))/\(((nI x2)<=((vecsD (srtU l x1)).length:Int))/\((((vecsD (srtU l x1)).length:Int)<=((vecsD (srtU l x1)).length:Int))/\((((([]:List (List Dat))++((vecsD (srtU l x1)).take x2))++([[Dat.int (((((vecsD l).getD x1 []).getD 0 (.int 0))).n),Dat.int (((((vecsD l).getD x1 []).getD 1 (.int 0))).n)]]:List (List Dat))).length+(((vecsD (srtU l x1)).take (((vecsD (srtU l x1)).length:Int).toNat)).drop x2).length<=1073741824)/\(∃ y5:Nat,(y5<=l.length/\(l.take y5).all isVec=true)/\(l.length-y5<l.length-x1)/\((rf (vI (nI ((vecsD l).length))))/\(vI (wR ((nI x1)+(1:Int)))=vI (nI y5))/\(rf (vecsD l))/\((((([]:List (List Dat))++((vecsD (srtU l x1)).take x2))++([[Dat.int (((((vecsD l).getD x1 []).getD 0 (.int 0))).n),Dat.int (((((vecsD l).getD x1 []).getD 1 (.int 0))).n)]]:List (List Dat)))++(((vecsD (srtU l x1)).take (((vecsD (srtU l x1)).length:Int).toNat)).drop x2))=(vecsD (srtU l y5)))))))))))))))))))))/\((decide ((nI x2)<(nI ((vecsD (srtU l x1)).length))))=false->((Nat.beq 2 2=true)/\((0<=(0:Int))/\(((0:Int)<=(nI x2))/\(((nI x2)<=((vecsD (srtU l x1)).length:Int))/\((([]:List (List Dat)).length+((vecsD (srtU l x1)).take x2).length<=1073741824)/\(((([]:List (List Dat))++((vecsD (srtU l x1)).take x2)).length+([[Dat.int (((((vecsD l).getD x1 []).getD 0 (.int 0))).n),Dat.int (((((vecsD l).getD x1 []).getD 1 (.int 0))).n)]]:List (List Dat)).length<=1073741824)/\((Nat.beq 2 2=true)/\((0<=(nI x2))/\(((nI x2)<=((vecsD (srtU l x1)).length:Int))/\((((vecsD (srtU l x1)).length:Int)<=((vecsD (srtU l x1)).length:Int))/\((((([]:List (List Dat))++((vecsD (srtU l x1)).take x2))++([[Dat.int (((((vecsD l).getD x1 []).getD 0 (.int 0))).n),Dat.int (((((vecsD l).getD x1 []).getD 1 (.int 0))).n)]]:List (List Dat))).length+(((vecsD (srtU l x1)).take (((vecsD (srtU l x1)).length:Int).toNat)).drop x2).length<=1073741824)/\(∃ y6:Nat,(y6<=l.length/\(l.take y6).all isVec=true)/\(l.length-y6<l.length-x1)/\((rf (vI (nI ((vecsD l).length))))/\(vI (wR ((nI x1)+(1:Int)))=vI (nI y6))/\(rf (vecsD l))/\((((([]:List (List Dat))++((vecsD (srtU l x1)).take x2))++([[Dat.int (((((vecsD l).getD x1 []).getD 0 (.int 0))).n),Dat.int (((((vecsD l).getD x1 []).getD 1 (.int 0))).n)]]:List (List Dat)))++(((vecsD (srtU l x1)).take (((vecsD (srtU l x1)).length:Int).toNat)).drop x2))=(vecsD (srtU l y6))))))))))))))))))))))))/\((decide ((nI x2)<(nI ((vecsD (srtU l x1)).length))))=false->(((decide ((nI x2)<(nI ((vecsD (srtU l x1)).length))))=true->((0<=(nI x2)/\(nI x2)<((vecsD (srtU l x1)).length:Int))/\((x2<(vecsD (srtU l x1)).length)/\((([((((vecsD (srtU l x1)).getD x2 []).getD 0 (.int 0))).n,((((vecsD (srtU l x1)).getD x2 []).getD 1 (.int 0))).n] == [((((vecsD l).getD x1 []).getD 0 (.int 0))).n,((((vecsD l).getD x1 []).getD 1 (.int 0))).n])=true->(∃ y7:Nat,(y7<=l.length/\(l.take y7).all isVec=true)/\(l.length-y7<l.length-x1)/\((rf (vI (nI ((vecsD l).length))))/\(vI (wR ((nI x1)+(1:Int)))=vI (nI y7))/\(rf (vecsD l))/\((vecsD (srtU l x1))=(vecsD (srtU l y7))))))/\(([((((vecsD (srtU l x1)).getD x2 []).getD 0 (.int 0))).n,((((vecsD (srtU l x1)).getD x2 []).getD 1 (.int 0))).n] == [((((vecsD l).getD x1 []).getD 0 (.int 0))).n,((((vecsD l).getD x1 []).getD 1 (.int 0))).n])=false->((Nat.beq 2 2=true)/\((0<=(0:Int))/\(((0:Int)<=(nI x2))/\(((nI x2)<=((vecsD (srtU l x1)).length:Int))/\((([]:List (List Dat)).length+((vecsD (srtU l x1)).take x2).length<=1073741824)/\(((([]:List (List Dat))++((vecsD (srtU l x1)).take x2)).length+([[Dat.int (((((vecsD l).getD x1 []).getD 0 (.int 0))).n),Dat.int (((((vecsD l).getD x1 []).getD 1 (.int 0))).n)]]:List (List Dat)).length<=1073741824)/\((Nat.beq 2 2=true)/\((0<=(nI x2))/\(((nI x2)<=((vecsD (srtU l x1)).length:Int))/\((((vecsD (srtU l x1)).length:Int)<=((vecsD (srtU l x1)).length:Int))/\((((([]:List (List Dat))++((vecsD (srtU l x1)).take x2))++([[Dat.int (((((vecsD l).getD x1 []).getD 0 (.int 0))).n),Dat.int (((((vecsD l).getD x1 []).getD 1 (.int 0))).n)]]:List (List Dat))).length+(((vecsD (srtU l x1)).take (((vecsD (srtU l x1)).length:Int).toNat)).drop x2).length<=1073741824)/\(∃ y8:Nat,(y8<=l.length/\(l.take y8).all isVec=true)/\(l.length-y8<l.length-x1)/\((rf (vI (nI ((vecsD l).length))))/\(vI (wR ((nI x1)+(1:Int)))=vI (nI y8))/\(rf (vecsD l))/\((((([]:List (List Dat))++((vecsD (srtU l x1)).take x2))++([[Dat.int (((((vecsD l).getD x1 []).getD 0 (.int 0))).n),Dat.int (((((vecsD l).getD x1 []).getD 1 (.int 0))).n)]]:List (List Dat)))++(((vecsD (srtU l x1)).take (((vecsD (srtU l x1)).length:Int).toNat)).drop x2))=(vecsD (srtU l y8)))))))))))))))))))))/\((decide ((nI x2)<(nI ((vecsD (srtU l x1)).length))))=false->((Nat.beq 2 2=true)/\((0<=(0:Int))/\(((0:Int)<=(nI x2))/\(((nI x2)<=((vecsD (srtU l x1)).length:Int))/\((([]:List (List Dat)).length+((vecsD (srtU l x1)).take x2).length<=1073741824)/\(((([]:List (List Dat))++((vecsD (srtU l x1)).take x2)).length+([[Dat.int (((((vecsD l).getD x1 []).getD 0 (.int 0))).n),Dat.int (((((vecsD l).getD x1 []).getD 1 (.int 0))).n)]]:List (List Dat)).length<=1073741824)/\((Nat.beq 2 2=true)/\((0<=(nI x2))/\(((nI x2)<=((vecsD (srtU l x1)).length:Int))/\((((vecsD (srtU l x1)).length:Int)<=((vecsD (srtU l x1)).length:Int))/\((((([]:List (List Dat))++((vecsD (srtU l x1)).take x2))++([[Dat.int (((((vecsD l).getD x1 []).getD 0 (.int 0))).n),Dat.int (((((vecsD l).getD x1 []).getD 1 (.int 0))).n)]]:List (List Dat))).length+(((vecsD (srtU l x1)).take (((vecsD (srtU l x1)).length:Int).toNat)).drop x2).length<=1073741824)/\(∃ y9:Nat,(y9<=l.length/\(l.take y9).all isVec=true)/\(l.length-y9<l.length-x1)/\((rf (vI (nI ((vecsD l).length))))/\(vI (wR ((nI x1)+(1:Int)))=vI (nI y9))/\(rf (vecsD l))/\((((([]:List (List Dat))++((vecsD (srtU l x1)).take x2))++([[Dat.int (((((vecsD l).getD x1 []).getD 0 (.int 0))).n),Dat.int (((((vecsD l).getD x1 []).getD 1 (.int 0))).n)]]:List (List Dat)))++(((vecsD (srtU l x1)).take (((vecsD (srtU l x1)).length:Int).toNat)).drop x2))=(vecsD (srtU l y9)))))))))))))))))))))))))))/\((decide ((nI x1)<(nI ((vecsD l).length))))=false->(((decide ((nI ((vecsD (srtU l x1)).length))<(3:Int)))=true->(((vecsD (srtU l x1))=vecsD (hullV l))))/\((decide ((nI ((vecsD (srtU l x1)).length))<(3:Int)))=false->((∃ x10:Nat,(x10<=(srtU l l.length).length)/\((vI (wR ((nI ((vecsD (srtU l x1)).length))-(1:Int)))=vI ((nI ((srtU l l.length).length))-1-(nI x10)))/\((vecsD (srtU l x1))=(vecsD (srtU l l.length)))/\(([]:List (List Dat))=(vecsD ((srtU l l.length).reverse.take x10)))))/\∀ x10:Nat,(x10<=(srtU l l.length).length)->(((decide (((nI ((srtU l l.length).length))-1-(nI x10))≥(0:Int)))=true->((0<=((nI ((srtU l l.length).length))-1-(nI x10))/\((nI ((srtU l l.length).length))-1-(nI x10))<((vecsD (srtU l l.length)).length:Int))/\((((nI ((srtU l l.length).length))-1-(nI x10)).toNat<(vecsD (srtU l l.length)).length)/\(((vecsD ((srtU l l.length).reverse.take x10)).length+([[Dat.int (((((vecsD (srtU l l.length)).getD (((nI ((srtU l l.length).length))-1-(nI x10)).toNat) []).getD 0 (.int 0))).n),Dat.int (((((vecsD (srtU l l.length)).getD (((nI ((srtU l l.length).length))-1-(nI x10)).toNat) []).getD 1 (.int 0))).n)]]:List (List Dat)).length<=1073741824)/\(∃ y11:Nat,(y11<=(srtU l l.length).length)/\((srtU l l.length).length-y11<(srtU l l.length).length-x10)/\((vI (wR (((nI ((srtU l l.length).length))-1-(nI x10))-(1:Int)))=vI ((nI ((srtU l l.length).length))-1-(nI y11)))/\(rf (vecsD (srtU l l.length)))/\(((vecsD ((srtU l l.length).reverse.take x10))++([[Dat.int (((((vecsD (srtU l l.length)).getD (((nI ((srtU l l.length).length))-1-(nI x10)).toNat) []).getD 0 (.int 0))).n),Dat.int (((((vecsD (srtU l l.length)).getD (((nI ((srtU l l.length).length))-1-(nI x10)).toNat) []).getD 1 (.int 0))).n)]]:List (List Dat)))=(vecsD ((srtU l l.length).reverse.take y11)))))))))/\((decide (((nI ((srtU l l.length).length))-1-(nI x10))≥(0:Int)))=false->(∃ i3:(List V2),[DA.one (DC.sl 38 [.int,.int] (vecsD (srtU l l.length)))]=sChain_con.args i3/\sChain_con.pre i3/\(∃ i4:(List V2),[DA.one (DC.sl 38 [.int,.int] (vecsD ((srtU l l.length).reverse.take x10)))]=sChain_con.args i4/\sChain_con.pre i4/\((Nat.beq 2 2=true)/\((0<=(0:Int))/\(((0:Int)<=(wR ((nI ((vecsD (chT i3 i3.length)).length))-(1:Int))))/\(((wR ((nI ((vecsD (chT i3 i3.length)).length))-(1:Int)))<=((vecsD (chT i3 i3.length)).length:Int))/\((([]:List (List Dat)).length+((vecsD (chT i3 i3.length)).take ((wR ((nI ((vecsD (chT i3 i3.length)).length))-(1:Int))).toNat)).length<=1073741824)/\((Nat.beq 2 2=true)/\((0<=(0:Int))/\(((0:Int)<=(wR ((nI ((vecsD (chT i4 i4.length)).length))-(1:Int))))/\(((wR ((nI ((vecsD (chT i4 i4.length)).length))-(1:Int)))<=((vecsD (chT i4 i4.length)).length:Int))/\(((([]:List (List Dat))++((vecsD (chT i3 i3.length)).take ((wR ((nI ((vecsD (chT i3 i3.length)).length))-(1:Int))).toNat))).length+((vecsD (chT i4 i4.length)).take ((wR ((nI ((vecsD (chT i4 i4.length)).length))-(1:Int))).toNat)).length<=1073741824)/\((((([]:List (List Dat))++((vecsD (chT i3 i3.length)).take ((wR ((nI ((vecsD (chT i3 i3.length)).length))-(1:Int))).toNat)))++((vecsD (chT i4 i4.length)).take ((wR ((nI ((vecsD (chT i4 i4.length)).length))-(1:Int))).toNat)))=vecsD (hullV l))))))))))))))))))))))))) (by kernel_rfl) ?_
 delta vI wR nI
 have hvl:=vecsD_length l
 refine ⟨λ c1=>?_,λ c1=>?_⟩
 ·try simp only [nrm] at c1
  have hE:hullV l=[]:=hullV_long (by omega)
  rw [hE];rfl
 try simp only [nrm] at c1
 refine ⟨⟨0,by
  exact ⟨Nat.zero_le _,rfl⟩,?_⟩,?_⟩
 ·refine ⟨rfl,?_,rfl,?_⟩
  ·rfl
  rfl
 intro (k:Nat) hki3
 have hki3:k<=l.length/\(l.take k).all isVec=true:=hki3
 refine And.symm ⟨λ c9=>?_,λ c9=>?_⟩
 ·try simp only [nrm] at c9
  have hk:l.length=k:=by omega
  have hall:l.all isVec=true:=by have:=hki3.2;rwa [← hk,List.take_length] at this
  have hE:=hullV_yes (by omega) hall
  have hsl:=srtU_len l l.length
  have hvs:=vecsD_length (srtU l k)
  have hvs2:=vecsD_length (srtU l l.length)
  refine ⟨λ c137=>?_,λ c137=>?_⟩
  ·try simp only [nrm] at c137
   rw [hE,hk,hulL_few (by omega)]
  try simp only [nrm] at c137
  have h3:¬ (srtU l l.length).length<3:=by rw [hk];omega
  have hE2:=hulL_many h3
  have hsv:=srtU_vec hall (Nat.le_refl _)
  refine ⟨⟨0,by
   omega,?_⟩,?_⟩
  ·refine ⟨?_,?_,?_⟩
   ·exact vint (by rw [hvs,← hk,wrap64 (by omega) (by omega)];omega)
   ·rw [hk]
   rfl
  intro (j:Nat) hki139
  have hki139:j<=(srtU l l.length).length:=hki139
  refine ⟨λ c144=>?_,λ c144=>?_⟩
  ·try simp only [nrm] at c144
   have hj:j<(srtU l l.length).length:=by omega
   have hi:(((((srtU l l.length).length:Nat):Int)-1-((j:Nat):Int))).toNat=(srtU l l.length).length-1-j:=by omega
   refine ao (by omega) λ o145=>?_
   refine ao (by omega) λ o146=>?_
   refine ao (by simp only [vecsD_length,List.length_append,List.length_take,List.length_drop,List.length_cons,List.length_nil,List.nil_append];omega) λ o147=>?_
   refine ⟨j+1,by
    trivial,by
    omega,?_⟩
   refine ⟨?_,rfl,?_⟩
   ·exact vint (by rw [wrap64 (by omega) (by omega)];omega)
   rw [hi,vecs_x (show (srtU l l.length).length-1-j<(srtU l l.length).length by omega),vecs_y (show (srtU l l.length).length-1-j<(srtU l l.length).length by omega)];exact rev_snoc hj
  try simp only [nrm] at c144
  have hj:(srtU l l.length).reverse.take j=(srtU l l.length).reverse:=List.take_of_length_le (by rw [List.length_reverse];omega)
  have hrl:(srtU l l.length).reverse.length=(srtU l l.length).length:=List.length_reverse
  refine ⟨(srtU l l.length),by
   rfl,by
   exact ⟨hsv,by omega,by omega⟩,?_⟩
  refine ⟨(srtU l l.length).reverse,by
   rw [hj];rfl,by
   exact ⟨rev_all hsv,by omega,by omega⟩,?_⟩
  have hA:=chT_len hsv (by omega)
  have hB:=chT_len (rev_all hsv) (by omega)
  have hvA:=vecsD_length (chT (srtU l l.length) (srtU l l.length).length)
  have hvB:=vecsD_length (chT (srtU l l.length).reverse (srtU l l.length).reverse.length)
  have hwA:IntKind.i64.wrap ((((vecsD (chT (srtU l l.length) (srtU l l.length).length)).length:Nat):Int)-(1:Int))=(((chT (srtU l l.length) (srtU l l.length).length).length-1:Nat):Int):=by rw [hvA,wrap64 (by omega) (by omega)];omega
  have hwB:IntKind.i64.wrap ((((vecsD (chT (srtU l l.length).reverse (srtU l l.length).reverse.length)).length:Nat):Int)-(1:Int))=(((chT (srtU l l.length).reverse (srtU l l.length).reverse.length).length-1:Nat):Int):=by rw [hvB,wrap64 (by omega) (by omega)];omega
  refine ao (by rfl) λ o160=>?_
  refine ao (by omega) λ o161=>?_
  refine ao (by omega) λ o162=>?_
  refine ao (by omega) λ o163=>?_
  refine ao (by simp only [vecsD_length,List.length_append,List.length_take,List.length_drop,List.length_cons,List.length_nil,List.nil_append];omega) λ o164=>?_
  refine ao (by rfl) λ o165=>?_
  refine ao (by omega) λ o166=>?_
  refine ao (by omega) λ o167=>?_
  refine ao (by omega) λ o168=>?_
  refine ao (by simp only [vecsD_length,List.length_append,List.length_take,List.length_drop,List.length_cons,List.length_nil,List.nil_append];omega) λ o169=>?_
  rw [hE,hE2,hwA,hwB,Int.toNat_natCast,Int.toNat_natCast,List.nil_append,cut_rows,cut_rows,vecsD_app]
 try simp only [nrm] at c9
 have hkl:k<l.length:=by omega
 have hsl:=srtU_len l k
 have hvs:=vecsD_length (srtU l k)
 refine ao (by omega) λ o10=>?_
 refine ao (by omega) λ o11=>?_
 refine ⟨((l.getD k (0,0)).1,(l.getD k (0,0)).2),by
  rw [vecs_x hkl,vecs_y hkl];rfl,by
  trivial,?_⟩
 refine ⟨λ c15=>?_,λ c15=>?_⟩
 ·replace c15:(!(isVec (((l.getD k (0,0)).1),((l.getD k (0,0)).2))))=true:=c15
  try simp only [nrm] at c15
  have hE:hullV l=[]:=hullV_at hkl c15
  rw [hE];rfl
 replace c15:(!(isVec (((l.getD k (0,0)).1),((l.getD k (0,0)).2))))=false:=c15
 try simp only [nrm] at c15
 refine ⟨⟨0,by
  exact ⟨Nat.zero_le _,λ j hj=>absurd hj (Nat.not_lt_zero j)⟩,?_⟩,?_⟩
 ·refine ⟨rfl,rfl,?_,rfl,rfl,rfl,rfl⟩
  rfl
 intro (n:Nat) hki17
 have hki17:n<=(srtU l k).length/\∀ j,j<n->lessV ((srtU l k).getD j (0,0)) (l.getD k (0,0))=true:=hki17
 refine And.symm ⟨λ c26=>?_,λ c26=>?_⟩
 ·try simp only [nrm] at c26
  refine ⟨λ c90=>?_,λ c90=>?_⟩
  ·try simp only [nrm] at c90
   exfalso;omega -- done
  try simp only [nrm] at c90
  refine ao (by rfl) λ o119=>?_
  refine ao (by omega) λ o120=>?_
  refine ao (by omega) λ o121=>?_
  refine ao (by omega) λ o122=>?_
  refine ao (by simp only [vecsD_length,List.length_append,List.length_take,List.length_drop,List.length_cons,List.length_nil,List.nil_append];omega) λ o123=>?_
  refine ao (by simp only [vecsD_length,List.length_append,List.length_take,List.length_drop,List.length_cons,List.length_nil,List.nil_append];omega) λ o124=>?_
  refine ao (by rfl) λ o125=>?_
  refine ao (by omega) λ o126=>?_
  refine ao (by omega) λ o127=>?_
  refine ao (by omega) λ o128=>?_
  refine ao (by simp only [vecsD_length,List.length_append,List.length_take,List.length_drop,List.length_cons,List.length_nil,List.nil_append];omega) λ o129=>?_
  refine ⟨k+1,by
   exact ⟨by omega,takeAll hkl hki3.2 c15⟩,by
   omega,?_⟩
  refine ⟨rfl,?_,rfl,?_⟩
  ·exact vint (wrap64 (by omega) (by omega))
  rw [vecs_x hkl,vecs_y hkl,put_rows,srt_put (by omega) hki17.2 (λ h=>absurd h (by omega)) (λ h=>absurd h (by omega))]
 try simp only [nrm] at c26
 have hn:n<(srtU l k).length:=by omega
 refine ao (by omega) λ o27=>?_
 refine ao (by omega) λ o28=>?_
 refine ⟨(((srtU l k).getD n (0,0)).1,((srtU l k).getD n (0,0)).2,(l.getD k (0,0)).1,(l.getD k (0,0)).2),by
  rw [vecs_x hn,vecs_y hn,vecs_x hkl,vecs_y hkl];rfl,by
  trivial,?_⟩
 refine ⟨λ c32=>?_,λ c32=>?_⟩
 ·replace c32:(lessV ((((srtU l k).getD n (0,0)).1),(((srtU l k).getD n (0,0)).2)) (((l.getD k (0,0)).1),((l.getD k (0,0)).2)))=true:=c32
  try simp only [nrm] at c32
  refine ⟨n+1,by
   exact ⟨by omega,lt_stepH hki17.2 c32⟩,by
   omega,?_⟩
  refine ⟨rfl,rfl,?_,rfl,rfl,rfl,rfl⟩
  exact vint (wrap64 (by omega) (by omega))
 replace c32:(lessV ((((srtU l k).getD n (0,0)).1),(((srtU l k).getD n (0,0)).2)) (((l.getD k (0,0)).1),((l.getD k (0,0)).2)))=false:=c32
 try simp only [nrm] at c32
 refine And.symm ⟨λ c43=>?_,λ c43=>?_⟩
 ·try simp only [nrm] at c43
  exfalso;omega -- done
 try simp only [nrm] at c43
 refine ao (by omega) λ o44=>?_
 refine ao (by omega) λ o45=>?_
 refine ⟨λ c46=>?_,λ c46=>?_⟩
 ·try dsimp only at c46
  try simp only [nrm] at c46
  rw [vecs_x hn,vecs_y hn,vecs_x hkl,vecs_y hkl] at c46
  have hq:=eq2_yes c46
  refine ⟨k+1,by
   exact ⟨by omega,takeAll hkl hki3.2 c15⟩,by
   omega,?_⟩
  refine ⟨rfl,?_,rfl,?_⟩
  ·exact vint (wrap64 (by omega) (by omega))
  rw [srt_same hn hki17.2 c32 hq]
 try dsimp only at c46
 try simp only [nrm] at c46
 rw [vecs_x hn,vecs_y hn,vecs_x hkl,vecs_y hkl] at c46
 refine ao (by rfl) λ o54=>?_
 refine ao (by omega) λ o55=>?_
 refine ao (by omega) λ o56=>?_
 refine ao (by omega) λ o57=>?_
 refine ao (by simp only [vecsD_length,List.length_append,List.length_take,List.length_drop,List.length_cons,List.length_nil,List.nil_append];omega) λ o58=>?_
 refine ao (by simp only [vecsD_length,List.length_append,List.length_take,List.length_drop,List.length_cons,List.length_nil,List.nil_append];omega) λ o59=>?_
 refine ao (by rfl) λ o60=>?_
 refine ao (by omega) λ o61=>?_
 refine ao (by omega) λ o62=>?_
 refine ao (by omega) λ o63=>?_
 refine ao (by simp only [vecsD_length,List.length_append,List.length_take,List.length_drop,List.length_cons,List.length_nil,List.nil_append];omega) λ o64=>?_
 refine ⟨k+1,by
  exact ⟨by omega,takeAll hkl hki3.2 c15⟩,by
  omega,?_⟩
 refine ⟨rfl,?_,rfl,?_⟩
 ·exact vint (wrap64 (by omega) (by omega))
 rw [vecs_x hkl,vecs_y hkl,put_rows,srt_put (by omega) hki17.2 (λ _=>c32) (λ _ e=>c46 (by rw [e]))]
def sortFn_con:Con:={ ι:=(List V2),pre:=λ i=>i.all isVec=true/\i.length<=1048576,args:=λ i=>[.one (.sl 38 [.int,.int] (vecsD i)),.one (.ro (.fn 157 []))],mu:=[0],new:=λ i=>[vecsD (sortV i)],tag:=158,res:=λ i=>⟨true,[],[]⟩ }
def revV_con:Con:={ ι:=(List V2),pre:=λ i=>i.length<=1048576,args:=λ i=>[.one (.sl 38 [.int,.int] (vecsD i))],mu:=[0],new:=λ i=>[vecsD i.reverse],res:=λ i=>⟨true,[],[]⟩ }
def compactV_con:Con:={ ι:=(List V2),pre:=λ i=>i.length<=1048576,args:=λ i=>[.one (.sl 38 [.int,.int] (vecsD i))],mu:=[0],gone:=[0],new:=λ i=>[],res:=λ i=>⟨false,[none],[.own 38 [.int,.int] (vecsD (cmpU i))]⟩ }
theorem len1 {us:List Value} (h:us.length=1):∃ u,us=[u]:=
 match us,h with
 | [_],_=>⟨_,rfl⟩
theorem len2 {us:List Value} (h:us.length=2):∃ u v,us=[u,v]:=
 match us,h with
 | [_,_],_=>⟨_,_,rfl⟩
theorem sortFn_ok:sortFn_con.Ok Tryz.prog 156 where
 enter:=⟨_,Tryz.func156,by decide,rfl⟩
 small:=λ _=>Nat.le_of_ble_eq_true rfl
 calls:=by
  intro (l:List V2) (hp:l.all isVec=true/\l.length<=1048576) F w us mb h
  obtain ⟨u0,u1,rfl⟩:=len2 h.len
  obtain ⟨_,_,_,_,e1,e2,f1,m1⟩:=h.own 0 0 rfl
  cases e1;cases e2
  obtain ⟨ps,hu1,hpl,-⟩:ROAt F w (.fn 157 []) u1:=h.rd 1 _ _ rfl rfl (by decide)
  obtain rfl:ps=[]:=List.eq_nil_of_length_eq_zero hpl
  subst hu1
  have hv:valD (sortFn_con.args l) [u0,.func (.func 157) #[] #[]]=[u0,.func (.func 157) #[] #[]]:=rfl
  rw [hv]
  rcases fp_vecs f1 with ⟨rfl,rfl,hbs⟩|⟨g,cap,cur,rfl,q1,q2,q3,q4,q5,hbs⟩
  ·have hcon:=AnyF.slices_SortFunc_none layS none 0 (.func (.func 157) #[] #[]) w
   refine Calls.mono (P:=Tryz.prog) hcon ?_
   rintro e w' ⟨rfl,rfl⟩
   refine ⟨[],[],rfl,⟨rfl,List.nodup_nil,λ b hb=>by simp at hb,λ j q e ts rows u hj hq hd hu=>?_,rfl,rfl,rfl,Nat.le_refl _,λ b _ _=>rfl⟩⟩
   obtain rfl:j=0:=by have:=(List.getElem?_eq_some_iff.1 hq).1;have hl:sortFn_con.mu.length=1:=rfl;omega
   cases hq
   cases hd
   cases hu
   have es:sortV []=[]:=List.eq_nil_of_length_eq_zero (sortV_len [])
   show Fp w' _ (.sl (vecsD (sortV []))) _ _
   rw [es]
   exact f1
  ·have hsz:(liftV l hp.1).length=l.length:=by have:=congrArg List.length (liftV_val l hp.1);simpa using this
   have hH:HoldsK encVV 2 w g 0 (liftV l hp.1).toArray:=by
    have:=holds_of q1 q2 q4 q5
    unfold HoldsK at this ⊢
    rw [flat_val,liftV_val];exact this
   have hg:g<w.heap.size:=(Array.getElem?_eq_some_iff.1 q1).1
   have eg:∀ args w,(callFunc 157 args).run Tryz.prog w=.ok (.enter 157 args) w:=enters_of Tryz.func157 (by kernel_rfl) rfl
   have hlp:=hp.2
   have hcon:=AnyQ.slices_SortFunc_total layS 2 Tryz.isAgg38 Tryz.sizeOf38 encVV (λ _=>rfl) (λ x v hv=>by simp [encVV,vecRow] at hv;rcases hv with rfl|rfl <;> rfl) cfV swoV 157 #[] g 0 cap (liftV l hp.1).toArray w eg
    (λ _ _ _ _ x y=>compareVecs_c x.1 y.1 x.2 y.2 _) hH hg (by simp only [List.size_toArray,hsz];omega) totV
   have hs2:(liftV l hp.1).toArray.size=l.length:=by rw [List.size_toArray,hsz]
   rw [hs2] at hcon
   refine Calls.mono (P:=Tryz.prog) hcon ?_
   rintro e w' ⟨rfl,n,os,rfl⟩
   obtain ⟨⟨cur',p1,p2⟩,p3,p4⟩:=put_world encVV w g n ((liftV l hp.1).toArray.toList.mergeSort λ x y=>!(ltOf cfV) y x).toArray os q1
   have hHK:=holdsK_sortWorldK_c encVV 2 w g 0 (liftV l hp.1).toArray ((liftV l hp.1).toArray.toList.mergeSort λ x y=>!(ltOf cfV) y x).toArray n os hH hg (by simp)
   have hHK:HoldsK vecRow 2 (sortWorldK encVV 2 w g 0 n ((liftV l hp.1).toArray.toList.mergeSort λ x y=>!(ltOf cfV) y x).toArray os) g 0 (sortV l).toArray:=by
    unfold HoldsK at hHK ⊢
    rw [flat_val] at hHK
    rw [← sort_val l hp.1];exact hHK
   have hrow:=row_of p1 (by rw [sortV_len];exact q2) (by rw [p2];exact q4) hHK
   have hfp:=fp_of p1 (by rw [sortV_len];exact q2) q3 (by rw [p2];exact q4) hrow
   rw [sortV_len] at hfp
   refine ⟨[],[],rfl,⟨rfl,List.nodup_nil,λ b hb=>by simp at hb,λ j q e ts rows u hj hq hd hu=>?_,rfl,rfl,rfl,p4,λ b hb hm=>p3 b hb λ e=>hm 0 (by decide) (by rw [hbs];simp [e])⟩⟩
   obtain rfl:j=0:=by have:=(List.getElem?_eq_some_iff.1 hq).1;have hl:sortFn_con.mu.length=1:=rfl;omega
   cases hq
   cases hd
   cases hu
   rw [hbs]
   exact hfp
theorem revV_ok:revV_con.Ok Tryz.prog 160 where
 enter:=⟨_,Tryz.func160,by decide,rfl⟩
 small:=λ _=>Nat.le_of_ble_eq_true rfl
 calls:=by
  intro (l:List V2) (hp:l.length<=1048576) F w us mb h
  obtain ⟨u0,rfl⟩:=len1 h.len
  obtain ⟨_,_,_,_,e1,e2,f1,m1⟩:=h.own 0 0 rfl
  cases e1;cases e2
  have hv:valD (revV_con.args l) [u0]=[u0]:=rfl
  rw [hv]
  rcases fp_vecs f1 with ⟨rfl,rfl,hbs⟩|⟨g,cap,cur,rfl,q1,q2,q3,q4,q5,hbs⟩
  ·refine Calls.mono (P:=Tryz.prog) (AnyQ.slices_Reverse_empty layR none 0 w) ?_
   rintro e w' ⟨rfl,rfl⟩
   refine ⟨[],[],rfl,⟨rfl,List.nodup_nil,λ b hb=>by simp at hb,λ j q e ts rows u hj hq hd hu=>?_,rfl,rfl,rfl,Nat.le_refl _,λ b _ _=>rfl⟩⟩
   obtain rfl:j=0:=by have:=(List.getElem?_eq_some_iff.1 hq).1;have hl:revV_con.mu.length=1:=rfl;omega
   cases hq
   cases hd
   cases hu
   exact f1
  ·have hH:=holds_of q1 q2 q4 q5
   refine Calls.mono (P:=Tryz.prog) (AnyQ.slices_Reverse layR 2 Tryz.isAgg38 Tryz.sizeOf38 vecRow (λ _=>rfl) (λ x v hv=>by simp [vecRow] at hv;rcases hv with rfl|rfl <;> rfl) g 0 cap l.toArray w hH (by simp only [List.size_toArray];omega)) ?_
   rintro e w' ⟨rfl,n,rfl⟩
   have hgr:putRowK vecRow 2 (Sort.ahead w n) g 0 l.toArray.reverse=grow (putRowK vecRow 2 (Sort.ahead w n) g 0 l.toArray.reverse) #[]:=by simp [grow]
   have hHK:=holdsK_putRowK vecRow 2 (Sort.ahead w n) g 0 l.toArray l.toArray.reverse (holdsK_ahead vecRow 2 w n g 0 l.toArray hH) (by simp)
   rw [hgr] at hHK ⊢
   obtain ⟨⟨cur',p1,p2⟩,p3,p4⟩:=put_world vecRow w g n l.toArray.reverse #[] q1
   have hHK2:HoldsK vecRow 2 (grow (putRowK vecRow 2 (Sort.ahead w n) g 0 l.toArray.reverse) #[]) g 0 l.reverse.toArray:=by
    have e:l.reverse.toArray=l.toArray.reverse:=by simp
    rw [e];exact hHK
   have hrow:=row_of p1 (by rw [List.length_reverse];exact q2) (by rw [p2];exact q4) hHK2
   have hfp:=fp_of p1 (by rw [List.length_reverse];exact q2) q3 (by rw [p2];exact q4) hrow
   rw [List.length_reverse] at hfp
   refine ⟨[],[],rfl,⟨rfl,List.nodup_nil,λ b hb=>by simp at hb,λ j q e ts rows u hj hq hd hu=>?_,rfl,rfl,rfl,p4,λ b hb hm=>p3 b hb λ e=>hm 0 (by decide) (by rw [hbs];simp [e])⟩⟩
   obtain rfl:j=0:=by have:=(List.getElem?_eq_some_iff.1 hq).1;have hl:revV_con.mu.length=1:=rfl;omega
   cases hq
   cases hd
   cases hu
   rw [hbs]
   exact hfp
theorem rowA_of {w:World} {e:Nat} {l:List V2} {g cap:Nat} {cur:Array Value} (h1:w.heap[g]?=some (.cells cur e (0,0))) (h2:l.length<=cap) (h4:cur.size=cap*2) (h5:cur.toList.take (l.length*2)=(l.map vecRow).flatten):RowA w g 0 l.toArray:=λ j hj=>by
 have hj:j<l.length:=by simpa using hj
 have key:∀ t,t<l.length*2->cur[t]?=some ((vecRow (l.getD (t/2) (0,0)))[t%2]!):=λ t ht=>by
  have:=flat_get l t ht
  rw [← h5,List.getElem?_take,if_pos ht,Array.getElem?_toList] at this
  exact this
 have a0:=key (j*2) (by omega)
 have a1:=key (j*2+1) (by omega)
 rw [show j*2/2=j by omega,show j*2%2=0 by omega] at a0
 rw [show (j*2+1)/2=j by omega,show (j*2+1)%2=1 by omega] at a1
 have hd:(l.toArray)[j]! = l.getD j (0,0):=by simp [List.getD,hj]
 rw [hd]
 refine ⟨?_,?_,by simp [World.frozen?,h1],by simp [World.frozen?,h1]⟩
 ·rw [heap_cell h1,Nat.zero_add,a0];rfl
 ·rw [heap_cell h1,Nat.zero_add,a1];rfl
theorem take_of {l:List V2} {cur:Array Value} (hc:∀ j,j<l.length->cur[j*2]?=some (.int .i64 (l.getD j (0,0)).1)/\cur[j*2+1]?=some (.int .i64 (l.getD j (0,0)).2)):cur.toList.take (l.length*2)=(l.map vecRow).flatten:=by
 apply List.ext_getElem?
 intro j
 by_cases hj:j<l.length*2
 ·rw [flat_get l j hj,List.getElem?_take,if_pos hj,Array.getElem?_toList]
  obtain ⟨c0,c1⟩:=hc (j/2) (by omega)
  have:j%2=0∨j%2=1:=by omega
  rcases this with e|e
  ·rw [e,show j=j/2*2 by omega,c0,show j/2*2/2=j/2 by omega];rfl
  ·rw [e];conv=>lhs;rw [show j=j/2*2+1 by omega,c1]
   rfl
 ·rw [List.getElem?_eq_none (by simp only [List.length_take];omega),List.getElem?_eq_none (by rw [flat_len];omega)]
theorem cmpU_len:∀ l:List V2,(cmpU l).length<=l.length
 | []=>by simp [cmpU]
 | [a]=>by simp [cmpU]
 | a::b::t=>by
  have:=cmpU_len (b::t)
  unfold cmpU
  split
  ·simp only [List.length_cons] at *;omega
  ·simp only [List.length_cons] at *;omega
theorem compactV_ok:compactV_con.Ok Tryz.prog 158 where
 enter:=⟨_,Tryz.func158,by decide,rfl⟩
 small:=λ _=>Nat.le_of_ble_eq_true rfl
 calls:=by
  intro (l:List V2) (hp:l.length<=1048576) F w us mb h
  obtain ⟨u0,rfl⟩:=len1 h.len
  obtain ⟨_,_,_,_,e1,e2,f1,m1⟩:=h.own 0 0 rfl
  cases e1;cases e2
  have hv:valD (compactV_con.args l) [u0]=[u0]:=rfl
  rw [hv]
  have hfresh:∀ b ∈ mb 0,w.heap.size<=b∨∃ j,j ∈ compactV_con.gone/\j<compactV_con.mu.length/\b ∈ mb j:=λ b hb=>.inr ⟨0,by decide,by decide,hb⟩
  have hgone:∀ (w' : World) j p e ts rows u,j ∉ compactV_con.gone->compactV_con.mu[j]?=some p->((compactV_con.args l).flatMap DA.cells)[p]?=some (.sl e ts rows)->[u0][p]?=some u->Fp w' (.sl e ts) (.sl ((compactV_con.new l).getD j [])) u (mb j):=λ w' j p e ts rows u hj hq=>by
   exfalso
   have:=(List.getElem?_eq_some_iff.1 hq).1
   have hl:compactV_con.mu.length=1:=rfl
   obtain rfl:j=0:=by omega
   exact hj (by decide)
  rcases fp_vecs f1 with ⟨rfl,rfl,hbs⟩|⟨g,cap,cur,rfl,q1,q2,q3,q4,q5,hbs⟩
  ·refine Calls.mono (P:=Tryz.prog) (compactNil_c w) ?_
   rintro e w' ⟨rfl,rfl⟩
   exact ⟨[.slice none 0 0],mb 0,rfl,⟨⟨mb 0,[],by simp,f1,rfl⟩,m1,hfresh,hgone _,rfl,rfl,rfl,Nat.le_refl _,λ b _ _=>rfl⟩⟩
  ·have hg:g<w.heap.size:=(Array.getElem?_eq_some_iff.1 q1).1
   have hsz:l.toArray.size=l.length:=by simp
   have hcc:=CompactV_c g 0 cap l.toArray w (rowA_of q1 q2 q4 q5) hg (by rw [hsz];exact hp) (by rw [hsz];exact q2) (by unfold maxLen at q3;omega)
   have hcu:Lib.compactUpTo l.toArray l.length=cmpU l:=by rw [compact_cmpU l _ (Nat.le_refl _),List.take_length]
   rw [hsz,hcu] at hcc
   refine Calls.mono (P:=Tryz.prog) hcc ?_
   rintro e w' ⟨rfl,ho,hs,d',hd1,hd2,hd3⟩
   obtain ⟨cur',p1,p2⟩:=hs cur _ _ q1
   have hlen:=cmpU_len l
   have htk:cur'.toList.take ((cmpU l).length*2)=((cmpU l).map vecRow).flatten:=take_of λ j hj=>by
    obtain ⟨c0,c1⟩:=hd3 j hj
    have e:=hd2 j hj
    have e2:(cmpU l).getD j (0,0)=d'[j]! := by rw [List.getD,e];rfl
    rw [heap_cell p1,Nat.zero_add] at c0 c1
    rw [e2];exact ⟨c0,c1⟩
   have hfp:=fp_of p1 (by omega) q3 (by rw [p2];exact q4) htk
   exact ⟨[.slice (some ⟨g,0,none⟩) (cmpU l).length cap],mb 0,rfl,⟨⟨mb 0,[],by simp,by rw [hbs];exact hfp,rfl⟩,m1,hfresh,hgone _,ho.os,ho.tape,ho.output,ho.size,λ b hb hm=>ho.block b hb λ e=>hm 0 (by decide) (by rw [hbs];simp [e])⟩⟩
def iHull_con:Con:={ ι:=(List V2),pre:=λ i=>i.length<=1048576,args:=λ i=>[.one (.sl 38 [.int,.int] (vecsD i))],res:=λ i=>⟨false,[none],[.own 38 [.int,.int] (vecsD (hullV i))]⟩ }
theorem iHull_ok:iHull_con.Ok Tryz.prog 123:=by
 refine fok (X:=⟨tt,[(119,areVecs_con),(155,cloneV_con),(156,sortFn_con),(158,compactV_con),(159,iChain_con),(160,revV_con)],[],31,[]⟩) mixed tt_ok (CTok.cons areVecs_ok (CTok.cons cloneV_ok (CTok.cons sortFn_ok (CTok.cons compactV_ok (CTok.cons iChain_ok (CTok.cons revV_ok (CTok.nil _))))))) Tryz.func123 (λ _=>[]) ?_
 intro (l:List V2) hpre
 have hpre:l.length<=1048576:=hpre
 refine by_nf (q:=((!(decide ((nI ((vecsD l).length))>(64:Int))))=true->(∃ i1:(List V2),[DA.one (DC.sl 38 [.int,.int] (vecsD l))]=areVecs_con.args i1/\areVecs_con.pre i1/\(((!(i1.all isVec))=true->((([]:List (List Dat))=vecsD (hullV l))))/\((!(i1.all isVec))=false->(∃ i2:(List (List Dat)),[DA.one (DC.sl 38 [.int,.int] (vecsD l))]=cloneV_con.args i2/\cloneV_con.pre i2/\(∃ i3:(List V2),[DA.one (DC.sl 38 [.int,.int] i2),DA.one (DC.ro (.fn 157 []))]=sortFn_con.args i3/\sortFn_con.pre i3/\(∃ i4:(List V2),[DA.one (DC.sl 38 [.int,.int] (vecsD (sortV i3)))]=compactV_con.args i4/\compactV_con.pre i4/\(((decide ((nI ((vecsD (cmpU i4)).length))<(2:Int)))=true->((vecsD (cmpU i4)=vecsD (hullV l))))/\((decide ((nI ((vecsD (cmpU i4)).length))<(2:Int)))=false->(∃ i5:(List V2),[DA.one (DC.sl 38 [.int,.int] (vecsD (cmpU i4)))]=iChain_con.args i5/\iChain_con.pre i5/\(∃ i6:(List V2),[DA.one (DC.sl 38 [.int,.int] (vecsD (cmpU i4)))]=revV_con.args i6/\revV_con.pre i6/\(∃ i7:(List V2),[DA.one (DC.sl 38 [.int,.int] (vecsD i6.reverse))]=iChain_con.args i7/\iChain_con.pre i7/\(((vecsD (chain i5)).length+(vecsD (chain i7)).length<=1073741824)/\(((vecsD (chain i5)++vecsD (chain i7))=vecsD (hullV l))))))))))))))))/\((!(decide ((nI ((vecsD l).length))>(64:Int))))=false->((([]:List (List Dat))=vecsD (hullV l))))) (by kernel_rfl) ?_
 delta nI
 have hvl:=vecsD_length l
 refine And.symm ⟨λ c1=>?_,λ c1=>?_⟩
 ·try simp only [nrm] at c1
  have hE:hullV l=[]:=hullV_long (by omega)
  rw [hE];rfl
 try simp only [nrm] at c1
 refine ⟨l,by
  rfl,by
  trivial,?_⟩
 refine ⟨λ c5=>?_,λ c5=>?_⟩
 ·try simp only [nrm] at c5
  have hE:=hullV_bad c5
  rw [hE];rfl
 try simp only [nrm] at c5
 have hE:=hullV_yes (by omega) c5
 have hU:=cmpU_sort l
 have hlen:(cmpU (sortV l)).length<=l.length:=by rw [hU];exact srtU_len l l.length
 have hvec:(cmpU (sortV l)).all isVec=true:=by rw [hU];exact srtU_vec c5 (Nat.le_refl _)
 have hvu:=vecsD_length (cmpU (sortV l))
 refine ⟨(vecsD l),by
  rfl,by
  show (vecsD l).length<=1073741824
  omega,?_⟩
 refine ⟨l,by
  rfl,by
  exact ⟨c5,hpre⟩,?_⟩
 refine ⟨(sortV l),by
  rfl,by
  show (sortV l).length<=1048576
  rw [sortV_len];exact hpre,?_⟩
 refine ⟨λ c16=>?_,λ c16=>?_⟩
 ·try simp only [nrm] at c16
  rw [hE,hU,hulL_few (by rw [← hU];omega)]
 try simp only [nrm] at c16
 have hc1:=(chain_vec hvec).2
 have hc2:=(chain_vec (rev_all hvec)).2
 have hrl:(cmpU (sortV l)).reverse.length=(cmpU (sortV l)).length:=List.length_reverse
 have hH:chain (cmpU (sortV l))++chain (cmpU (sortV l)).reverse=hulL (cmpU (sortV l)):=by
  by_cases h2:(cmpU (sortV l)).length=2
  ·exact hull_few h2
  ·exact (hulL_many (by omega)).symm
 refine ⟨(cmpU (sortV l)),by
  rfl,by
  exact ⟨hvec,by omega,by omega⟩,?_⟩
 refine ⟨(cmpU (sortV l)),by
  rfl,by
  show (cmpU (sortV l)).length<=1048576
  omega,?_⟩
 refine ⟨(cmpU (sortV l)).reverse,by
  rfl,by
  exact ⟨rev_all hvec,by omega,by omega⟩,?_⟩
 refine ao (by rw [vecsD_length,vecsD_length];omega) λ o27=>?_
 rw [hE,← hU,← vecsD_app,hH]
end Go.Proofs.YtlejeadlmpkffaaGreat
