import Derived.Test.YtndnhlhnjiopfaaGreatToRkSu
import Derived.Test.YtndnhlhnjiopfaaGreatToRkD2
namespace Go.Proofs.YtndnhlhnjiopfaaGreat
set_option maxRecDepth 100000
set_option linter.unusedVariables false
set_option linter.unusedSimpArgs false
open Go.RowKit
def CN {α:Type} (p:α->Bool) (l:List α):Int:=match l.findIdx? p with|some k=>(k:Int)|none=>-1
theorem RN {α:Type} {p:α->Bool} {l:List α} {d:α} {k:Nat} (hk:k<l.length) (h:∀ j,j<k->p (l.getD j d)=false) (hp:p (l.getD k d)=true):CN p l=(k:Int):=by
 have:l.findIdx? p=some k:=by
  rw [List.findIdx?_eq_some_iff_getElem]
  refine ⟨hk,by simpa [List.getD,hk] using hp,λ j hj=>?_⟩
  have:=h j hj
  simpa [List.getD,show j<l.length by omega] using this
 unfold CN;rw [this]
theorem IT {α:Type} {p:α->Bool} {l:List α} {d:α} (h:∀ j,j<l.length->p (l.getD j d)=false):CN p l=-1:=by
 have:l.findIdx? p=none:=by
  rw [List.findIdx?_eq_none_iff]
  intro x hx
  obtain ⟨j,hj,rfl⟩:=List.getElem_of_mem hx
  have:=h j hj
  simpa [List.getD,hj] using this
 unfold CN;rw [this]
theorem Ow {α:Type} (p:α->Bool) (l:List α):decide (CN p l≥0)=l.any p:=by
 unfold CN
 cases h:l.findIdx? p with
 | some k=>
  rw [List.findIdx?_eq_some_iff_getElem] at h
  obtain ⟨h1,h2,_⟩:=h
  have:l.any p=true:=List.any_eq_true.2 ⟨l[k],List.getElem_mem h1,h2⟩
  rw [this];simp
 | none=>
  rw [List.findIdx?_eq_none_iff] at h
  have:l.any p=false:=by rw [List.any_eq_false];intro x hx;rw [h x hx];simp
  rw [this];rfl
def CO (l:List V2) (dx dy:Int):List V2:=if AB (dx,dy)=true/\(Bb l dx dy).all AB=true then Bb l dx dy else []
theorem Mt {l:List V2} {dx dy:Int} (h:AB (dx,dy)=false∨(Bb l dx dy).all AB=false):CO l dx dy=[]:=by
 unfold CO;rw [if_neg];rintro ⟨h1,h2⟩;rcases h with h|h <;> simp_all
theorem Hf {l:List V2} {dx dy:Int} (h:AB (dx,dy)=true) (h' : (Bb l dx dy).all AB=true):CO l dx dy=Bb l dx dy:=by
 unfold CO;rw [if_pos ⟨h,h'⟩]
def A6 (n:Nat):List (List Dat):=(List.range n).map λ (i:Nat)=>[Dat.int (i:Int)]
theorem Ox (n:Nat):(A6 n).length=n:=by simp [A6]
theorem MB (n:Nat):A6 (n+1)=A6 n++[[Dat.int (n:Int)]]:=by simp [A6,List.range_succ]
theorem V8 {n k:Nat} (h:k<n):(((A6 n).getD k []).getD 0 (.int 0)).n=(k:Int):=by simp [A6,List.getD,h,Dat.n]
theorem Oy {n k:Nat} (h:k<n):(List.range n).getD k 0=k:=by simp [List.getD,h]
def Bi (a:List V2) (i:Nat) (n c:V2):Bool:=decide (AC (a.getD i (0,0)) n c≥0)
def CP (a b:List V2) (i:Nat):Bool:=!(b.any (Bi a i (a.getD ((i+1)%a.length) (0,0))))
def DZ (a b:List V2):Int:=CN (CP a b) (List.range a.length)
def Ba (a b:List V2):Bool:=AG a && (AG b && (decide (DZ a b<0) && decide (DZ b a<0)))
def Eu (a b:List V2):Int:=if AG a=true/\AG b=true then DZ a b else -1
def Ev:Con:={ ι:=(List V2),pre:=λ i=>i.length<=1048576,args:=λ i=>[.one (.sl 44 [.int,.int] (AA i))],res:=λ i=>⟨false,[none],[.own 3 [.int] (A6 i.length)]⟩ }
theorem Sk:Ev.Ok Tryz.prog 101:=by
 refine fok (X:=⟨tt,[],[],17,[]⟩) mixed AM (CTok.nil _) Tryz.func101 (λ (i:(List V2))=>[(3,.mk 2 (Nat) (λ x1=>{ tm:=[(3,.one (.one (.ext 1))),(7,.one (.one (.im (Value.int .i64 ((i.length:Nat):Int))))),(8,.one (.one (.im (Value.int .i64 (x1:Int)))))],en:=[(1,.own 3 [.int] (A6 x1))] }) (λ x1=>x1<=i.length) (λ x1=>i.length-x1) (λ _=>[]))]) ?_
 intro (l:List V2) hpre
 have hpre:l.length<=1048576:=hpre
 refine AL (q:=(∃ x1:Nat,(x1<=l.length)/\((Value.int .i64 (((AA l).length:Nat):Int)=Value.int .i64 ((l.length:Nat):Int))/\(Value.int .i64 (0:Int)=Value.int .i64 (x1:Int))/\(([]:List (List Dat))=(A6 x1))))/\∀ x1:Nat,(x1<=l.length)->(((decide ((x1:Int)<((l.length:Nat):Int)))=true->(((A6 x1).length+([[Dat.int (x1:Int)]]:List (List Dat)).length<=2199023255552)/\(∃ y2:Nat,(y2<=l.length)/\(l.length-y2<l.length-x1)/\((rf (Value.int .i64 ((l.length:Nat):Int)))/\(Value.int .i64 (IntKind.i64.wrap ((x1:Int)+(1:Int)))=Value.int .i64 (y2:Int))/\(((A6 x1)++([[Dat.int (x1:Int)]]:List (List Dat)))=(A6 y2))))))/\((decide ((x1:Int)<((l.length:Nat):Int)))=false->(((A6 x1)=A6 l.length))))) (by kernel_rfl) ?_
 have hvl:=AD l
 -- i1
 refine ⟨⟨0,by
  first|omega|trivial,?_⟩,?_⟩
 ·-- the beginning
  refine ⟨?_,rfl,?_⟩
  ·-- b3: Value.int .i64 (((AA l).length : Nat) : Int) = Value.int .i64 ((l.length : Nat) : Int)
   show Value.int .i64 (((AA l).length:Nat):Int)=Value.int .i64 ((l.length:Nat):Int)
   first|rfl|exact Ac (by rw [hvl])
  -- b5: ([] : List (List Dat)) = (A6 0)
  show ([]:List (List Dat))=(A6 0)
  first|rfl|exact Ac (by rw [hvl])
 intro (k:Nat) hki1
 have hki1:k<=l.length:=hki1
 refine And.symm ⟨λ c6=>?_,λ c6=>?_⟩
 ·-- c6f: (decide ((k : Int) < ((l.length : Nat) : Int))) = false
  replace c6:(decide ((k:Int)<((l.length:Nat):Int)))=false:=c6
  try simp only [nrm] at c6
  -- l14: (A6 k) = A6 l.length
  show (A6 k)=A6 l.length
  rw [show k=l.length by omega]
 -- c6t: (decide ((k : Int) < ((l.length : Nat) : Int))) = true
 replace c6:(decide ((k:Int)<((l.length:Nat):Int)))=true:=c6
 try simp only [nrm] at c6
 refine ao (a:=(A6 k).length+([[Dat.int (k:Int)]]:List (List Dat)).length<=2199023255552) (by first|rfl|omega|(rw [Ox];simp only [List.length_cons,List.length_nil];omega)) λ o7=>?_
 -- n8
 refine ⟨k+1,by
  first|omega|trivial,by
  first|omega|(simp;omega),?_⟩
 refine ⟨rfl,?_,?_⟩
 ·-- e12: Value.int .i64 (IntKind.i64.wrap ((k : Int) + (1 : Int))) = Value.int .i64 ((k + 1) : Int)
  show Value.int .i64 (IntKind.i64.wrap ((k:Int)+(1:Int)))=Value.int .i64 ((k+1):Int)
  first|rfl|exact (MB k).symm|exact Ac (AE (by omega) (by omega))
 -- e13: ((A6 k) ++ ([[Dat.int (k : Int)]] : List (List Dat))) = (A6 (k + 1))
 show ((A6 k)++([[Dat.int (k:Int)]]:List (List Dat)))=(A6 (k+1))
 first|rfl|exact (MB k).symm|exact Ac (AE (by omega) (by omega))
def F9:Con:={ ι:=V2×(List V2)×Nat×V2,pre:=λ i=>AB i.1=true/\i.2.2.1<i.2.1.length/\i.2.1.all AB=true/\AB i.2.2.2=true,args:=λ i=>[.agg [.im (.int .i64 i.1.1),.im (.int .i64 i.1.2)],.one (.ro (.ptr [.sl 44 [.int,.int] (AA i.2.1)])),.one (.ro (.ptr [.im (Value.int .i64 (i.2.2.1:Int))])),.one (.ro (.ptr [.im (Value.int .i64 i.2.2.2.1),.im (Value.int .i64 i.2.2.2.2)]))],res:=λ i=>⟨false,[none],[.im (Value.bool (Bi i.2.1 i.2.2.1 i.2.2.2 i.1))]⟩ }
theorem U2:F9.Ok Tryz.prog 103:=by
 refine fok (X:=⟨tt,[(81,CD)],[],14,[]⟩) mixed AM (CTok.cons OX (CTok.nil _)) Tryz.func103 (λ _=>[]) ?_
 rintro ⟨c,a,i,n⟩ hpre
 have hpre:AB c=true/\i<a.length/\a.all AB=true/\AB n=true:=hpre
 refine AL (q:=(0<=(i:Int)/\(i:Int)<((AA a).length:Int))/\((i<(AA a).length)/\(∃ i1:Int×Int×Int×Int×Int×Int,[DA.agg [cI (((((AA a).getD i []).getD 0 (.int 0))).n),cI (((((AA a).getD i []).getD 1 (.int 0))).n)],DA.agg [cI n.1,cI n.2],DA.agg [cI c.1,cI c.2]]=CD.args i1/\CD.pre i1/\((Value.bool (decide ((AC (i1.1,i1.2.1) (i1.2.2.1,i1.2.2.2.1) (i1.2.2.2.2.1,i1.2.2.2.2.2))≥(0:Int)))=Value.bool (Bi a i n c)))))) (by kernel_rfl) ?_
 obtain ⟨hc,hi,ha,hn⟩:=hpre
 have hvl:=AD a
 have hv:=Ai ha hi
 refine ao (a:=0<=(i:Int)/\(i:Int)<((AA a).length:Int)) (by first|rfl|omega) λ o1=>?_
 refine ao (a:=i<(AA a).length) (by first|rfl|omega) λ o2=>?_
 -- w3: iTurn [DA.agg [DC.im (Value.int .i64 ((((AA a).getD i []).getD 0 (.int 0))).n), DC.im (Value.int .i64 ((((AA a).getD i []).getD 1 (.int 0))).n)], DA.agg [DC.im (Value.int .i64 n.1), DC.im (Value.int .i64 n.2)], DA.agg [DC.im (Value.int .i64 c.1), DC.im (Value.int .i64 c.2)]]
 refine ⟨(((((AA a).getD i []).getD 0 (.int 0))).n,((((AA a).getD i []).getD 1 (.int 0))).n,n.1,n.2,c.1,c.2),by
  rfl,by
  show AB ((((((AA a).getD i []).getD 0 (.int 0))).n),(((((AA a).getD i []).getD 1 (.int 0))).n))=true/\AB (n.1,n.2)=true/\AB (c.1,c.2)=true
  (rw [Ao hi,Ap hi];exact ⟨hv,hn,hc⟩),?_⟩
 -- l6: Value.bool (decide ((AC ((((((AA a).getD i []).getD 0 (.int 0))).n), (((((AA a).getD i []).getD 1 (.int 0))).n)) (n.1, n.2) (c.1, c.2)) ≥ (0 : Int))) = Value.bool (Bi a i n c)
 show Value.bool (decide ((AC ((((((AA a).getD i []).getD 0 (.int 0))).n),(((((AA a).getD i []).getD 1 (.int 0))).n)) (n.1,n.2) (c.1,c.2))≥(0:Int)))=Value.bool (Bi a i n c)
 exact congrArg Value.bool (by unfold Bi;rw [Ao hi,Ap hi])
theorem Oz {P:Nat->Bool} {k:Nat} (h:∀ j,j<k->P j=false) (hk:P k=false):∀ j,j<k+1->P j=false:=λ j hj=>by
 rcases Nat.lt_succ_iff_lt_or_eq.1 hj with h' | rfl
 ·exact h j h'
 ·exact hk
def Dr:Con:={ ι:=(List V2)×(List V2)×Nat×V2,pre:=λ i=>(i.1.length<=1048576/\i.1.all AB=true)/\i.2.2.1<i.2.1.length/\i.2.1.all AB=true/\AB i.2.2.2=true,args:=λ i=>[.one (.sl 44 [.int,.int] (AA i.1)),.one (.ro (.fn 103 [[.sl 44 [.int,.int] (AA i.2.1)],[.im (Value.int .i64 (i.2.2.1:Int))],[.im (Value.int .i64 i.2.2.2.1),.im (Value.int .i64 i.2.2.2.2)]]))],tag:=104,res:=λ i=>⟨false,[none],[.im (Value.int .i64 (CN (Bi i.2.1 i.2.2.1 i.2.2.2) i.1))]⟩ }
theorem QJ:Dr.Ok Tryz.prog 129:=by
 refine fok (X:=⟨tt,[(103,F9)],[],19,[]⟩) mixed AM (CTok.cons U2 (CTok.nil _)) Tryz.func129 (λ (i:(List V2)×(List V2)×Nat×V2)=>[(2,.mk 3 (Nat) (λ x1=>{ tm:=[(0,.one (.one (.ext 1))),(1,.one (.one (.ext 2))),(7,.one (.one (.im (Value.int .i64 (((AA i.1).length:Nat):Int))))),(8,.one (.one (.im (Value.int .i64 ((x1:Nat):Int)))))],en:=[(1,.view 44 [.int,.int] (AA i.1) []),(2,.ro (.fn 103 [[.sl 44 [.int,.int] (AA i.2.1)],[.im (Value.int .i64 (i.2.2.1:Int))],[.im (Value.int .i64 i.2.2.2.1),.im (Value.int .i64 i.2.2.2.2)]]) [])] }) (λ x1=>x1<=i.1.length/\∀ r,r<x1->(Bi i.2.1 i.2.2.1 i.2.2.2) (i.1.getD r (0,0))=false) (λ x1=>i.1.length-x1) (λ _=>[]))]) ?_
 rintro ⟨l,a,i,n⟩ hpre
 have hpre:(l.length<=1048576/\l.all AB=true)/\i<a.length/\a.all AB=true/\AB n=true:=hpre
 refine AL (q:=(∃ x1:Nat,(x1<=l.length/\∀ r,r<x1->(Bi a i n) (l.getD r (0,0))=false)/\((rf (Value.int .i64 (((AA l).length:Nat):Int)))/\(Value.int .i64 (0:Int)=Value.int .i64 ((x1:Nat):Int))/\(rf (AA l))/\((.fn 103 [[.sl 44 [.int,.int] (AA a)],[.im (Value.int .i64 (i:Int))],[.im (Value.int .i64 n.1),.im (Value.int .i64 n.2)]]:RO)=.fn 103 [[.sl 44 [.int,.int] (AA a)],[.im (Value.int .i64 (i:Int))],[.im (Value.int .i64 n.1),.im (Value.int .i64 n.2)]])))/\∀ x1:Nat,(x1<=l.length/\∀ r,r<x1->(Bi a i n) (l.getD r (0,0))=false)->(((decide (((x1:Nat):Int)<(((AA l).length:Nat):Int)))=true->((0<=((x1:Nat):Int)/\((x1:Nat):Int)<((AA l).length:Int))/\((x1<(AA l).length)/\(∃ i1:V2×(List V2)×Nat×V2,[DA.agg [cI (((((AA l).getD x1 []).getD 0 (.int 0))).n),cI (((((AA l).getD x1 []).getD 1 (.int 0))).n)],DA.one (DC.ro (.ptr [.sl 44 [.int,.int] (AA a)])),DA.one (DC.ro (.ptr [.im (Value.int .i64 (i:Int))])),DA.one (DC.ro (.ptr [.im (Value.int .i64 n.1),.im (Value.int .i64 n.2)]))]=F9.args i1/\F9.pre i1/\(((Bi i1.2.1 i1.2.2.1 i1.2.2.2 i1.1)=true->((Value.int .i64 ((x1:Nat):Int)=Value.int .i64 (CN (Bi a i n) l))))/\((Bi i1.2.1 i1.2.2.1 i1.2.2.2 i1.1)=false->(∃ y2:Nat,(y2<=l.length/\∀ r,r<y2->(Bi a i n) (l.getD r (0,0))=false)/\(l.length-y2<l.length-x1)/\((rf (Value.int .i64 (((AA l).length:Nat):Int)))/\(Value.int .i64 (IntKind.i64.wrap (((x1:Nat):Int)+(1:Int)))=Value.int .i64 ((y2:Nat):Int))/\(rf (AA l))/\((.fn 103 [[.sl 44 [.int,.int] (AA a)],[.im (Value.int .i64 (i:Int))],[.im (Value.int .i64 n.1),.im (Value.int .i64 n.2)]]:RO)=.fn 103 [[.sl 44 [.int,.int] (AA a)],[.im (Value.int .i64 (i:Int))],[.im (Value.int .i64 n.1),.im (Value.int .i64 n.2)]])))))))))/\((decide (((x1:Nat):Int)<(((AA l).length:Nat):Int)))=false->((Value.int .i64 (-1:Int)=Value.int .i64 (CN (Bi a i n) l)))))) (by kernel_rfl) ?_
 have hvl:=AD l
 -- i1
 refine ⟨⟨0,by
  exact ⟨Nat.zero_le _,λ j hj=>absurd hj (Nat.not_lt_zero j)⟩,?_⟩,?_⟩
 ·-- the beginning
  refine ⟨rfl,?_,rfl,?_⟩
  ·-- b4: Value.int .i64 (0 : Int) = Value.int .i64 ((0 : Nat) : Int)
   show Value.int .i64 (0:Int)=Value.int .i64 ((0:Nat):Int)
   first|rfl|(simp;done)
  -- b6: (.fn 103 [[.sl 44 [.int, .int] (AA a)], [.im (Value.int .i64 (i : Int))], [.im (Value.int .i64 n.1), .im (Value.int .i64 n.2)]] : RO) = .fn 103 [[.sl 44 [.int, .int] (AA a)], [.im (Value.int .i64 (i : Int))], [.im (Value.int .i64 n.1), .im (Value.int .i64 n.2)]]
  show (.fn 103 [[.sl 44 [.int,.int] (AA a)],[.im (Value.int .i64 (i:Int))],[.im (Value.int .i64 n.1),.im (Value.int .i64 n.2)]]:RO)=.fn 103 [[.sl 44 [.int,.int] (AA a)],[.im (Value.int .i64 (i:Int))],[.im (Value.int .i64 n.1),.im (Value.int .i64 n.2)]]
  first|rfl|(simp;done)
 intro (k:Nat) hki1
 have hki1:k<=l.length/\∀ r,r<k->(Bi a i n) (l.getD r (0,0))=false:=hki1
 refine And.symm ⟨λ c7=>?_,λ c7=>?_⟩
 ·-- c7f: (decide (((k : Nat) : Int) < (((AA l).length : Nat) : Int))) = false
  replace c7:(decide (((k:Nat):Int)<(((AA l).length:Nat):Int)))=false:=c7
  try simp only [nrm] at c7
  -- l22: Value.int .i64 (-1 : Int) = Value.int .i64 (CN (Bi a i n) l)
  show Value.int .i64 (-1:Int)=Value.int .i64 (CN (Bi a i n) l)
  rw [IT (d:=(0,0)) (λ j hj=>hki1.2 j (by omega))]
 -- c7t: (decide (((k : Nat) : Int) < (((AA l).length : Nat) : Int))) = true
 replace c7:(decide (((k:Nat):Int)<(((AA l).length:Nat):Int)))=true:=c7
 try simp only [nrm] at c7
 refine ao (a:=0<=((k:Nat):Int)/\((k:Nat):Int)<((AA l).length:Int)) (by first|rfl|omega) λ o8=>?_
 refine ao (a:=k<(AA l).length) (by first|rfl|omega) λ o9=>?_
 -- w10: sep11 [DA.agg [DC.im (Value.int .i64 ((((AA l).getD k []).getD 0 (.int 0))).n), DC.im (Value.int .i64 ((((AA l).getD k []).getD 1 (.int 0))).n)], DA.one (DC.ro (.ptr [.sl 44 [.int, .int] (AA a)])), DA.one (DC.ro (.ptr [.im (Value.int .i64 (i : Int))])), DA.one (DC.ro (.ptr [.im (Value.int .i64 n.
 refine ⟨(l.getD k (0,0),a,i,n),by
  first|rfl|(rw [Ao (show k<l.length by omega),Ap (show k<l.length by omega)];rfl),by
  show AB (l.getD k (0,0))=true/\i<a.length/\a.all AB=true/\AB n=true
  exact ⟨Ai hpre.1.2 (by omega),hpre.2⟩,?_⟩
 refine ⟨λ c13=>?_,λ c13=>?_⟩
 ·-- c13t: (Bi a i n (l.getD k (0, 0))) = true
  replace c13:(Bi a i n (l.getD k (0,0)))=true:=c13
  try simp only [nrm] at c13
  -- l14: Value.int .i64 ((k : Nat) : Int) = Value.int .i64 (CN (Bi a i n) l)
  show Value.int .i64 ((k:Nat):Int)=Value.int .i64 (CN (Bi a i n) l)
  rw [RN (d:=(0,0)) (by omega) hki1.2 c13]
 -- c13f: (Bi a i n (l.getD k (0, 0))) = false
 replace c13:(Bi a i n (l.getD k (0,0)))=false:=c13
 try simp only [nrm] at c13
 -- n15
 refine ⟨k+1,by
  exact ⟨by omega,Oz hki1.2 c13⟩,by
  first|omega|(simp;omega),?_⟩
 refine ⟨rfl,?_,rfl,?_⟩
 ·-- e19: Value.int .i64 (IntKind.i64.wrap (((k : Nat) : Int) + (1 : Int))) = Value.int .i64 (((k + 1) : Nat) : Int)
  show Value.int .i64 (IntKind.i64.wrap (((k:Nat):Int)+(1:Int)))=Value.int .i64 (((k+1):Nat):Int)
  first|rfl|exact Ac (AE (by omega) (by omega))
 -- e21: (.fn 103 [[.sl 44 [.int, .int] (AA a)], [.im (Value.int .i64 (i : Int))], [.im (Value.int .i64 n.1), .im (Value.int .i64 n.2)]] : RO) = .fn 103 [[.sl 44 [.int, .int] (AA a)], [.im (Value.int .i64 (i : Int))], [.im (Value.int .i64 n.1), .im (Value.int .i64 n.2)]]
 show (.fn 103 [[.sl 44 [.int,.int] (AA a)],[.im (Value.int .i64 (i:Int))],[.im (Value.int .i64 n.1),.im (Value.int .i64 n.2)]]:RO)=.fn 103 [[.sl 44 [.int,.int] (AA a)],[.im (Value.int .i64 (i:Int))],[.im (Value.int .i64 n.1),.im (Value.int .i64 n.2)]]
 first|rfl|exact Ac (AE (by omega) (by omega))
def JM:Con:={ ι:=(List V2)×(List V2)×Nat×V2,pre:=λ i=>(i.1.length<=1048576/\i.1.all AB=true)/\i.2.2.1<i.2.1.length/\i.2.1.all AB=true/\AB i.2.2.2=true,args:=λ i=>[.one (.sl 44 [.int,.int] (AA i.1)),.one (.ro (.fn 103 [[.sl 44 [.int,.int] (AA i.2.1)],[.im (Value.int .i64 (i.2.2.1:Int))],[.im (Value.int .i64 i.2.2.2.1),.im (Value.int .i64 i.2.2.2.2)]]))],tag:=104,res:=λ i=>⟨false,[none],[.im (Value.bool (i.1.any (Bi i.2.1 i.2.2.1 i.2.2.2)))]⟩ }
theorem W9:JM.Ok Tryz.prog 97:=by
 refine fok (X:=⟨tt,[(129,Dr)],[],9,[]⟩) mixed AM (CTok.cons QJ (CTok.nil _)) Tryz.func97 (λ _=>[]) ?_
 rintro ⟨l,a,i,n⟩ hpre
 have hpre:(l.length<=1048576/\l.all AB=true)/\i<a.length/\a.all AB=true/\AB n=true:=hpre
 refine AL (q:=∃ i1:(List V2)×(List V2)×Nat×V2,[DA.one (DC.sl 44 [.int,.int] (AA l)),DA.one (DC.ro (.fn 103 [[.sl 44 [.int,.int] (AA a)],[.im (Value.int .i64 (i:Int))],[.im (Value.int .i64 n.1),.im (Value.int .i64 n.2)]]))]=Dr.args i1/\Dr.pre i1/\((Value.bool (decide ((CN (Bi i1.2.1 i1.2.2.1 i1.2.2.2) i1.1)≥(0:Int)))=Value.bool (l.any (Bi a i n))))) (by kernel_rfl) ?_
 -- w1: abv_idx [DA.one (DC.sl 44 [.int, .int] (AA l)), DA.one (DC.ro (.fn 103 [[.sl 44 [.int, .int] (AA a)], [.im (Value.int .i64 (i : Int))], [.im (Value.int .i64 n.1), .im (Value.int .i64 n.2)]]))]
 refine ⟨(l,a,i,n),by
  rfl,by
  show (l.length<=1048576/\l.all AB=true)/\i<a.length/\a.all AB=true/\AB n=true
  exact hpre,?_⟩
 -- l4: Value.bool (decide ((CN (Bi a i n) l) ≥ (0 : Int))) = Value.bool (l.any (Bi a i n))
 show Value.bool (decide ((CN (Bi a i n) l)≥(0:Int)))=Value.bool (l.any (Bi a i n))
 exact congrArg Value.bool (Ow _ _)
def Hg:Con:={ ι:=Nat×(List V2)×(List V2),pre:=λ i=>i.1<i.2.1.length/\(i.2.1.length<=1048576/\i.2.1.all AB=true)/\i.2.2.length<=1048576/\i.2.2.all AB=true,args:=λ i=>[.one (.im (.int .i64 (i.1:Int))),.one (.ro (.ptr [.sl 44 [.int,.int] (AA i.2.1)])),.one (.ro (.ptr [.sl 44 [.int,.int] (AA i.2.2)]))],res:=λ i=>⟨false,[none],[.im (Value.bool (CP i.2.1 i.2.2 i.1))]⟩ }
theorem V9:Hg.Ok Tryz.prog 102:=by
 refine fok (X:=⟨tt,[(97,JM)],[],18,[]⟩) mixed AM (CTok.cons W9 (CTok.nil _)) Tryz.func102 (λ _=>[]) ?_
 rintro ⟨i,a,b⟩ hpre
 have hpre:i<a.length/\(a.length<=1048576/\a.all AB=true)/\b.length<=1048576/\b.all AB=true:=hpre
 refine AL (q:=((((AA a).length:Nat):Int)≠0)/\((0<=(Int.tmod (IntKind.i64.wrap ((i:Int)+(1:Int))) (((AA a).length:Nat):Int))/\(Int.tmod (IntKind.i64.wrap ((i:Int)+(1:Int))) (((AA a).length:Nat):Int))<((AA a).length:Int))/\(((Int.tmod (IntKind.i64.wrap ((i:Int)+(1:Int))) (((AA a).length:Nat):Int)).toNat<(AA a).length)/\(∃ i1:(List V2)×(List V2)×Nat×V2,[DA.one (DC.sl 44 [.int,.int] (AA b)),DA.one (DC.ro (.fn 103 [[.sl 44 [.int,.int] (AA a)],[.im (Value.int .i64 (i:Int))],[.im (Value.int .i64 ((((AA a).getD ((Int.tmod (IntKind.i64.wrap ((i:Int)+(1:Int))) (((AA a).length:Nat):Int)).toNat) []).getD 0 (.int 0))).n),.im (Value.int .i64 ((((AA a).getD ((Int.tmod (IntKind.i64.wrap ((i:Int)+(1:Int))) (((AA a).length:Nat):Int)).toNat) []).getD 1 (.int 0))).n)]]))]=JM.args i1/\JM.pre i1/\((Value.bool (!(i1.1.any (Bi i1.2.1 i1.2.2.1 i1.2.2.2)))=Value.bool (CP a b i))))))) (by kernel_rfl) ?_
 obtain ⟨hi,⟨ha1,ha2⟩,hb1,hb2⟩:=hpre
 have hvl:=AD a
 have m2:(i+1)%a.length<a.length:=Nat.mod_lt _ (by omega)
 have hw:IntKind.i64.wrap ((i:Int)+1)=((i+1:Nat):Int):=AE (by omega) (by omega)
 have m3:Int.tmod (IntKind.i64.wrap ((i:Int)+1)) (((AA a).length:Nat):Int)=(((i+1)%a.length:Nat):Int):=by rw [hw,hvl];rfl
 have m1:(Int.tmod (IntKind.i64.wrap ((i:Int)+1)) (((AA a).length:Nat):Int)).toNat=(i+1)%a.length:=by rw [m3];rfl
 refine ao (a:=(((AA a).length:Nat):Int)≠0) (by first|rfl|omega|(rw [m3];omega)|(rw [m1];omega)) λ o1=>?_
 refine ao (a:=0<=(Int.tmod (IntKind.i64.wrap ((i:Int)+(1:Int))) (((AA a).length:Nat):Int))/\(Int.tmod (IntKind.i64.wrap ((i:Int)+(1:Int))) (((AA a).length:Nat):Int))<((AA a).length:Int)) (by first|rfl|omega|(rw [m3];omega)|(rw [m1];omega)) λ o2=>?_
 refine ao (a:=(Int.tmod (IntKind.i64.wrap ((i:Int)+(1:Int))) (((AA a).length:Nat):Int)).toNat<(AA a).length) (by first|rfl|omega|(rw [m3];omega)|(rw [m1];omega)) λ o3=>?_
 -- w4: abv [DA.one (DC.sl 44 [.int, .int] (AA b)), DA.one (DC.ro (.fn 103 [[.sl 44 [.int, .int] (AA a)], [.im (Value.int .i64 (i : Int))], [.im (Value.int .i64 ((((AA a).getD ((Int.tmod (IntKind.i64.wrap ((i : Int) + (1 : Int))) (((AA a).length : Nat) : Int)).toNat) []).getD 0 (.int 0))).n), .im (V
 refine ⟨(b,a,i,(a.getD ((i+1)%a.length) (0,0))),by
  (rw [m1,Ao m2,Ap m2];rfl),by
  show (b.length<=1048576/\b.all AB=true)/\i<a.length/\a.all AB=true/\AB (a.getD ((i+1)%a.length) (0,0))=true
  exact ⟨⟨hb1,hb2⟩,hi,ha2,Ai ha2 m2⟩,?_⟩
 -- l7: Value.bool (!(b.any (Bi a i (a.getD ((i + 1) % a.length) (0, 0))))) = Value.bool (CP a b i)
 show Value.bool (!(b.any (Bi a i (a.getD ((i+1)%a.length) (0,0)))))=Value.bool (CP a b i)
 rfl
def Ew:Con:={ ι:=Nat×(List V2)×(List V2),pre:=λ i=>i.1<=i.2.1.length/\(i.2.1.length<=1048576/\i.2.1.all AB=true)/\i.2.2.length<=1048576/\i.2.2.all AB=true,args:=λ i=>[.one (.sl 3 [.int] (A6 i.1)),.one (.ro (.fn 102 [[.sl 44 [.int,.int] (AA i.2.1)],[.sl 44 [.int,.int] (AA i.2.2)]]))],tag:=103,res:=λ i=>⟨false,[none],[.im (Value.int .i64 (CN (CP i.2.1 i.2.2) (List.range i.1)))]⟩ }
theorem Sl:Ew.Ok Tryz.prog 100:=by
 refine fok (X:=⟨tt,[(102,Hg)],[],19,[]⟩) mixed AM (CTok.cons V9 (CTok.nil _)) Tryz.func100 (λ (i:Nat×(List V2)×(List V2))=>[(2,.mk 3 (Nat) (λ x1=>{ tm:=[(0,.one (.one (.ext 1))),(1,.one (.one (.ext 2))),(7,.one (.one (.im (Value.int .i64 (((A6 i.1).length:Nat):Int))))),(8,.one (.one (.im (Value.int .i64 ((x1:Nat):Int)))))],en:=[(1,.view 3 [.int] (A6 i.1) []),(2,.ro (.fn 102 [[.sl 44 [.int,.int] (AA i.2.1)],[.sl 44 [.int,.int] (AA i.2.2)]]) [])] }) (λ x1=>x1<=i.1/\∀ r,r<x1->CP i.2.1 i.2.2 ((List.range i.1).getD r 0)=false) (λ x1=>i.1-x1) (λ _=>[]))]) ?_
 rintro ⟨n,a,b⟩ hpre
 have hpre:n<=a.length/\(a.length<=1048576/\a.all AB=true)/\b.length<=1048576/\b.all AB=true:=hpre
 refine AL (q:=(∃ x1:Nat,(x1<=n/\∀ r,r<x1->CP a b ((List.range n).getD r 0)=false)/\((rf (Value.int .i64 (((A6 n).length:Nat):Int)))/\(Value.int .i64 (0:Int)=Value.int .i64 ((x1:Nat):Int))/\(rf (A6 n))/\((.fn 102 [[.sl 44 [.int,.int] (AA a)],[.sl 44 [.int,.int] (AA b)]]:RO)=.fn 102 [[.sl 44 [.int,.int] (AA a)],[.sl 44 [.int,.int] (AA b)]])))/\∀ x1:Nat,(x1<=n/\∀ r,r<x1->CP a b ((List.range n).getD r 0)=false)->(((decide (((x1:Nat):Int)<(((A6 n).length:Nat):Int)))=true->((0<=((x1:Nat):Int)/\((x1:Nat):Int)<((A6 n).length:Int))/\((x1<(A6 n).length)/\(∃ i1:Nat×(List V2)×(List V2),[DA.one (cI (((((A6 n).getD x1 []).getD 0 (.int 0))).n)),DA.one (DC.ro (.ptr [.sl 44 [.int,.int] (AA a)])),DA.one (DC.ro (.ptr [.sl 44 [.int,.int] (AA b)]))]=Hg.args i1/\Hg.pre i1/\(((CP i1.2.1 i1.2.2 i1.1)=true->((Value.int .i64 ((x1:Nat):Int)=Value.int .i64 (CN (CP a b) (List.range n)))))/\((CP i1.2.1 i1.2.2 i1.1)=false->(∃ y2:Nat,(y2<=n/\∀ r,r<y2->CP a b ((List.range n).getD r 0)=false)/\(n-y2<n-x1)/\((rf (Value.int .i64 (((A6 n).length:Nat):Int)))/\(Value.int .i64 (IntKind.i64.wrap (((x1:Nat):Int)+(1:Int)))=Value.int .i64 ((y2:Nat):Int))/\(rf (A6 n))/\((.fn 102 [[.sl 44 [.int,.int] (AA a)],[.sl 44 [.int,.int] (AA b)]]:RO)=.fn 102 [[.sl 44 [.int,.int] (AA a)],[.sl 44 [.int,.int] (AA b)]])))))))))/\((decide (((x1:Nat):Int)<(((A6 n).length:Nat):Int)))=false->((Value.int .i64 (-1:Int)=Value.int .i64 (CN (CP a b) (List.range n))))))) (by kernel_rfl) ?_
 have hvl:=Ox n
 -- i1
 refine ⟨⟨0,by
  exact ⟨Nat.zero_le _,λ j hj=>absurd hj (Nat.not_lt_zero j)⟩,?_⟩,?_⟩
 ·-- the beginning
  refine ⟨rfl,?_,rfl,?_⟩
  ·-- b4: Value.int .i64 (0 : Int) = Value.int .i64 ((0 : Nat) : Int)
   show Value.int .i64 (0:Int)=Value.int .i64 ((0:Nat):Int)
   first|rfl|(simp;done)
  -- b6: (.fn 102 [[.sl 44 [.int, .int] (AA a)], [.sl 44 [.int, .int] (AA b)]] : RO) = .fn 102 [[.sl 44 [.int, .int] (AA a)], [.sl 44 [.int, .int] (AA b)]]
  show (.fn 102 [[.sl 44 [.int,.int] (AA a)],[.sl 44 [.int,.int] (AA b)]]:RO)=.fn 102 [[.sl 44 [.int,.int] (AA a)],[.sl 44 [.int,.int] (AA b)]]
  first|rfl|(simp;done)
 intro (k:Nat) hki1
 have hki1:k<=n/\∀ r,r<k->CP a b ((List.range n).getD r 0)=false:=hki1
 refine And.symm ⟨λ c7=>?_,λ c7=>?_⟩
 ·-- c7f: (decide (((k : Nat) : Int) < (((A6 n).length : Nat) : Int))) = false
  replace c7:(decide (((k:Nat):Int)<(((A6 n).length:Nat):Int)))=false:=c7
  try simp only [nrm] at c7
  -- l22: Value.int .i64 (-1 : Int) = Value.int .i64 (CN (CP a b) (List.range n))
  show Value.int .i64 (-1:Int)=Value.int .i64 (CN (CP a b) (List.range n))
  rw [IT (d:=0) (λ j hj=>hki1.2 j (by simp at hj;omega))]
 -- c7t: (decide (((k : Nat) : Int) < (((A6 n).length : Nat) : Int))) = true
 replace c7:(decide (((k:Nat):Int)<(((A6 n).length:Nat):Int)))=true:=c7
 try simp only [nrm] at c7
 refine ao (a:=0<=((k:Nat):Int)/\((k:Nat):Int)<((A6 n).length:Int)) (by first|rfl|omega) λ o8=>?_
 refine ao (a:=k<(A6 n).length) (by first|rfl|omega) λ o9=>?_
 -- w10: sep1 [DA.one (DC.im (Value.int .i64 ((((A6 n).getD k []).getD 0 (.int 0))).n)), DA.one (DC.ro (.ptr [.sl 44 [.int, .int] (AA a)])), DA.one (DC.ro (.ptr [.sl 44 [.int, .int] (AA b)]))]
 refine ⟨(k,a,b),by
  first|rfl|(rw [V8 (show k<n by omega)];rfl),by
  show k<a.length/\(a.length<=1048576/\a.all AB=true)/\b.length<=1048576/\b.all AB=true
  exact ⟨by omega,hpre.2⟩,?_⟩
 refine ⟨λ c13=>?_,λ c13=>?_⟩
 ·-- c13t: (CP a b k) = true
  replace c13:(CP a b k)=true:=c13
  try simp only [nrm] at c13
  -- l14: Value.int .i64 ((k : Nat) : Int) = Value.int .i64 (CN (CP a b) (List.range n))
  show Value.int .i64 ((k:Nat):Int)=Value.int .i64 (CN (CP a b) (List.range n))
  rw [RN (d:=0) (k:=k) (by simp;omega) hki1.2 (by rw [Oy (by omega)];exact c13)]
 -- c13f: (CP a b k) = false
 replace c13:(CP a b k)=false:=c13
 try simp only [nrm] at c13
 -- n15
 refine ⟨k+1,by
  exact ⟨by omega,Oz hki1.2 (by rw [Oy (by omega)];exact c13)⟩,by
  first|omega|(simp;omega),?_⟩
 refine ⟨rfl,?_,rfl,?_⟩
 ·-- e19: Value.int .i64 (IntKind.i64.wrap (((k : Nat) : Int) + (1 : Int))) = Value.int .i64 (((k + 1) : Nat) : Int)
  show Value.int .i64 (IntKind.i64.wrap (((k:Nat):Int)+(1:Int)))=Value.int .i64 (((k+1):Nat):Int)
  first|rfl|exact Ac (AE (by omega) (by omega))
 -- e21: (.fn 102 [[.sl 44 [.int, .int] (AA a)], [.sl 44 [.int, .int] (AA b)]] : RO) = .fn 102 [[.sl 44 [.int, .int] (AA a)], [.sl 44 [.int, .int] (AA b)]]
 show (.fn 102 [[.sl 44 [.int,.int] (AA a)],[.sl 44 [.int,.int] (AA b)]]:RO)=.fn 102 [[.sl 44 [.int,.int] (AA a)],[.sl 44 [.int,.int] (AA b)]]
 first|rfl|exact Ac (AE (by omega) (by omega))
def CM:Con:={ ι:=(List V2)×(List V2),pre:=λ i=>(i.1.length<=1048576/\i.1.all AB=true)/\i.2.length<=1048576/\i.2.all AB=true,args:=λ i=>[.one (.sl 44 [.int,.int] (AA i.1)),.one (.sl 44 [.int,.int] (AA i.2))],res:=λ i=>⟨false,[none],[.im (Value.int .i64 (DZ i.1 i.2))]⟩ }
theorem RP:CM.Ok Tryz.prog 63:=by
 refine fok (X:=⟨tt,[(101,Ev),(100,Ew)],[],9,[]⟩) mixed AM (CTok.cons Sk (CTok.cons Sl (CTok.nil _))) Tryz.func63 (λ _=>[]) ?_
 rintro ⟨a,b⟩ hpre
 have hpre:(a.length<=1048576/\a.all AB=true)/\b.length<=1048576/\b.all AB=true:=hpre
 refine AL (q:=∃ i1:(List V2),[DA.one (DC.sl 44 [.int,.int] (AA a))]=Ev.args i1/\Ev.pre i1/\(∃ i2:Nat×(List V2)×(List V2),[DA.one (cS (A6 i1.length)),DA.one (DC.ro (.fn 102 [[.sl 44 [.int,.int] (AA a)],[.sl 44 [.int,.int] (AA b)]]))]=Ew.args i2/\Ew.pre i2/\((Value.int .i64 (CN (CP i2.2.1 i2.2.2) (List.range i2.1))=Value.int .i64 (DZ a b))))) (by kernel_rfl) ?_
 -- w1: edgeIx [DA.one (DC.sl 44 [.int, .int] (AA a))]
 refine ⟨a,by
  rfl,by
  show a.length<=1048576
  first|exact hpre.1.1|exact ⟨Nat.le_refl _,hpre⟩,?_⟩
 -- w4: sepIdx [DA.one (DC.sl 3 [.int] (A6 a.length)), DA.one (DC.ro (.fn 102 [[.sl 44 [.int, .int] (AA a)], [.sl 44 [.int, .int] (AA b)]]))]
 refine ⟨(a.length,a,b),by
  rfl,by
  show a.length<=a.length/\(a.length<=1048576/\a.all AB=true)/\b.length<=1048576/\b.all AB=true
  first|exact hpre.1.1|exact ⟨Nat.le_refl _,hpre⟩,?_⟩
 -- l7: Value.int .i64 (CN (CP a b) (List.range a.length)) = Value.int .i64 (DZ a b)
 show Value.int .i64 (CN (CP a b) (List.range a.length))=Value.int .i64 (DZ a b)
 rfl
def Bj:Con:={ ι:=(List V2)×(List V2),pre:=λ i=>True,args:=λ i=>[.one (.sl 44 [.int,.int] (AA i.1)),.one (.sl 44 [.int,.int] (AA i.2))],res:=λ i=>⟨false,[none],[.im (Value.bool (Ba i.1 i.2))]⟩ }
theorem Sm:Bj.Ok Tryz.prog 29:=by
 refine fok (X:=⟨tt,[(37,AR),(63,CM)],[],23,[]⟩) mixed AM (CTok.cons El (CTok.cons RP (CTok.nil _))) Tryz.func29 (λ _=>[]) ?_
 rintro ⟨a,b⟩ hpre
 have hpre:True:=hpre
 refine AL (q:=∃ i1:(List V2),[DA.one (DC.sl 44 [.int,.int] (AA a))]=AR.args i1/\AR.pre i1/\(((AG i1)=true->(∃ i2:(List V2),[DA.one (DC.sl 44 [.int,.int] (AA b))]=AR.args i2/\AR.pre i2/\(((AG i2)=true->(∃ i3:(List V2)×(List V2),[DA.one (DC.sl 44 [.int,.int] (AA a)),DA.one (DC.sl 44 [.int,.int] (AA b))]=CM.args i3/\CM.pre i3/\(((decide ((DZ i3.1 i3.2)<(0:Int)))=true->(∃ i4:(List V2)×(List V2),[DA.one (DC.sl 44 [.int,.int] (AA b)),DA.one (DC.sl 44 [.int,.int] (AA a))]=CM.args i4/\CM.pre i4/\((Value.bool (decide ((DZ i4.1 i4.2)<(0:Int)))=Value.bool (Ba a b)))))/\((decide ((DZ i3.1 i3.2)<(0:Int)))=false->((Value.bool false=Value.bool (Ba a b)))))))/\((AG i2)=false->((Value.bool false=Value.bool (Ba a b)))))))/\((AG i1)=false->((Value.bool false=Value.bool (Ba a b)))))) (by kernel_rfl) ?_
 -- w1: iIsPoly [DA.one (DC.sl 44 [.int, .int] (AA a))]
 refine ⟨a,by
  rfl,by
  exact trivial,?_⟩
 refine And.symm ⟨λ c4=>?_,λ c4=>?_⟩
 ·-- c4f: (AG a) = false
  replace c4:(AG a)=false:=c4
  try simp only [nrm] at c4
  -- l19: Value.bool false = Value.bool (Ba a b)
  show Value.bool false=Value.bool (Ba a b)
  exact congrArg Value.bool (by unfold Ba;simp_all;try (intros;omega))
 -- c4t: (AG a) = true
 replace c4:(AG a)=true:=c4
 try simp only [nrm] at c4
 -- w5: iIsPoly [DA.one (DC.sl 44 [.int, .int] (AA b))]
 refine ⟨b,by
  rfl,by
  exact trivial,?_⟩
 refine And.symm ⟨λ c8=>?_,λ c8=>?_⟩
 ·-- c8f: (AG b) = false
  replace c8:(AG b)=false:=c8
  try simp only [nrm] at c8
  -- l18: Value.bool false = Value.bool (Ba a b)
  show Value.bool false=Value.bool (Ba a b)
  exact congrArg Value.bool (by unfold Ba;simp_all;try (intros;omega))
 -- c8t: (AG b) = true
 replace c8:(AG b)=true:=c8
 try simp only [nrm] at c8
 -- w9: sepF [DA.one (DC.sl 44 [.int, .int] (AA a)), DA.one (DC.sl 44 [.int, .int] (AA b))]
 refine ⟨(a,b),by
  rfl,by
  show (a.length<=1048576/\a.all AB=true)/\b.length<=1048576/\b.all AB=true
  have h1:=Bh c4;have h2:=Bh c8;exact ⟨⟨by omega,h1.2.2⟩,by omega,h2.2.2⟩,?_⟩
 refine And.symm ⟨λ c12=>?_,λ c12=>?_⟩
 ·-- c12f: (decide ((DZ a b) < (0 : Int))) = false
  replace c12:(decide ((DZ a b)<(0:Int)))=false:=c12
  try simp only [nrm] at c12
  -- l17: Value.bool false = Value.bool (Ba a b)
  show Value.bool false=Value.bool (Ba a b)
  exact congrArg Value.bool (by unfold Ba;simp_all;try (intros;omega))
 -- c12t: (decide ((DZ a b) < (0 : Int))) = true
 replace c12:(decide ((DZ a b)<(0:Int)))=true:=c12
 try simp only [nrm] at c12
 -- w13: sepF [DA.one (DC.sl 44 [.int, .int] (AA b)), DA.one (DC.sl 44 [.int, .int] (AA a))]
 refine ⟨(b,a),by
  rfl,by
  show (b.length<=1048576/\b.all AB=true)/\a.length<=1048576/\a.all AB=true
  have h1:=Bh c4;have h2:=Bh c8;exact ⟨⟨by omega,h2.2.2⟩,by omega,h1.2.2⟩,?_⟩
 -- l16: Value.bool (decide ((DZ b a) < (0 : Int))) = Value.bool (Ba a b)
 show Value.bool (decide ((DZ b a)<(0:Int)))=Value.bool (Ba a b)
 exact congrArg Value.bool (by unfold Ba;simp_all;try (intros;omega))
def GA:Con:={ ι:=(List V2)×(List V2),pre:=λ i=>True,args:=λ i=>[.one (.sl 44 [.int,.int] (AA i.1)),.one (.sl 44 [.int,.int] (AA i.2))],res:=λ i=>⟨false,[none],[.im (Value.int .i64 (Eu i.1 i.2))]⟩ }
theorem U3:GA.Ok Tryz.prog 30:=by
 refine fok (X:=⟨tt,[(37,AR),(63,CM)],[],16,[]⟩) mixed AM (CTok.cons El (CTok.cons RP (CTok.nil _))) Tryz.func30 (λ _=>[]) ?_
 rintro ⟨a,b⟩ hpre
 have hpre:True:=hpre
 refine AL (q:=∃ i1:(List V2),[DA.one (DC.sl 44 [.int,.int] (AA a))]=AR.args i1/\AR.pre i1/\(((!(!(AG i1)))=true->(∃ i2:(List V2),[DA.one (DC.sl 44 [.int,.int] (AA b))]=AR.args i2/\AR.pre i2/\(((!(AG i2))=true->((Value.int .i64 (-1:Int)=Value.int .i64 (Eu a b))))/\((!(AG i2))=false->(∃ i3:(List V2)×(List V2),[DA.one (DC.sl 44 [.int,.int] (AA a)),DA.one (DC.sl 44 [.int,.int] (AA b))]=CM.args i3/\CM.pre i3/\((Value.int .i64 (DZ i3.1 i3.2)=Value.int .i64 (Eu a b))))))))/\((!(!(AG i1)))=false->((Value.int .i64 (-1:Int)=Value.int .i64 (Eu a b)))))) (by kernel_rfl) ?_
 -- w1: iIsPoly [DA.one (DC.sl 44 [.int, .int] (AA a))]
 refine ⟨a,by
  rfl,by
  exact trivial,?_⟩
 refine And.symm ⟨λ c4=>?_,λ c4=>?_⟩
 ·-- c4f: (!(!(AG a))) = false
  replace c4:(!(!(AG a)))=false:=c4
  try simp only [nrm] at c4
  -- l14: Value.int .i64 (-1 : Int) = Value.int .i64 (Eu a b)
  show Value.int .i64 (-1:Int)=Value.int .i64 (Eu a b)
  exact Ac (by unfold Eu;simp_all)
 -- c4t: (!(!(AG a))) = true
 replace c4:(!(!(AG a)))=true:=c4
 try simp only [nrm] at c4
 -- w5: iIsPoly [DA.one (DC.sl 44 [.int, .int] (AA b))]
 refine ⟨b,by
  rfl,by
  exact trivial,?_⟩
 refine ⟨λ c8=>?_,λ c8=>?_⟩
 ·-- c8t: (!(AG b)) = true
  replace c8:(!(AG b))=true:=c8
  try simp only [nrm] at c8
  -- l9: Value.int .i64 (-1 : Int) = Value.int .i64 (Eu a b)
  show Value.int .i64 (-1:Int)=Value.int .i64 (Eu a b)
  exact Ac (by unfold Eu;simp_all)
 -- c8f: (!(AG b)) = false
 replace c8:(!(AG b))=false:=c8
 try simp only [nrm] at c8
 -- w10: sepF [DA.one (DC.sl 44 [.int, .int] (AA a)), DA.one (DC.sl 44 [.int, .int] (AA b))]
 refine ⟨(a,b),by
  rfl,by
  show (a.length<=1048576/\a.all AB=true)/\b.length<=1048576/\b.all AB=true
  have h1:=Bh c4;have h2:=Bh c8;exact ⟨⟨by omega,h1.2.2⟩,by omega,h2.2.2⟩,?_⟩
 -- l13: Value.int .i64 (DZ a b) = Value.int .i64 (Eu a b)
 show Value.int .i64 (DZ a b)=Value.int .i64 (Eu a b)
 exact Ac (by unfold Eu;simp_all)
def GB:Con:={ ι:=(List V2)×Int×Int,pre:=λ i=>i.1.length<=1048576/\i.1.all AB=true,args:=λ i=>[.one (.sl 44 [.int,.int] (AA i.1)),.agg [.im (.int .i64 i.2.1),.im (.int .i64 i.2.2)]],res:=λ i=>⟨false,[none],[.own 44 [.int,.int] (AA (CO i.1 i.2.1 i.2.2))]⟩ }
theorem U4:GB.Ok Tryz.prog 27:=by
 refine fok (X:=⟨tt,[(58,Cb),(59,Ej),(60,A0)],[],18,[]⟩) mixed AM (CTok.cons Oa (CTok.cons SN (CTok.cons GX (CTok.nil _)))) Tryz.func27 (λ _=>[]) ?_
 rintro ⟨l,dx,dy⟩ hpre
 have hpre:l.length<=1048576/\l.all AB=true:=hpre
 refine AL (q:=∃ i1:(List V2)×Int×Int,[DA.one (DC.sl 44 [.int,.int] (AA l)),DA.agg [cI dx,cI dy]]=Cb.args i1/\Cb.pre i1/\(∃ i2:Int×Int,[DA.agg [cI dx,cI dy]]=Ej.args i2/\Ej.pre i2/\(((!(!(AB (i2.1,i2.2))))=true->(∃ i3:(List V2),[DA.one (DC.sl 44 [.int,.int] (AA (Bb i1.1 i1.2.1 i1.2.2)))]=A0.args i3/\A0.pre i3/\(((!(i3.all AB))=true->((([]:List (List Dat))=AA (CO l dx dy))))/\((!(i3.all AB))=false->((AA (Bb i1.1 i1.2.1 i1.2.2)=AA (CO l dx dy)))))))/\((!(!(AB (i2.1,i2.2))))=false->((([]:List (List Dat))=AA (CO l dx dy))))))) (by kernel_rfl) ?_
 -- w1: moved [DA.one (DC.sl 44 [.int, .int] (AA l)), DA.agg [DC.im (Value.int .i64 dx), DC.im (Value.int .i64 dy)]]
 refine ⟨(l,dx,dy),by
  rfl,by
  show l.length<=1048576
  first|exact hpre.1|trivial,?_⟩
 -- w4: iIsVec [DA.agg [DC.im (Value.int .i64 dx), DC.im (Value.int .i64 dy)]]
 refine ⟨(dx,dy),by
  rfl,by
  first|exact hpre.1|trivial,?_⟩
 refine And.symm ⟨λ c7=>?_,λ c7=>?_⟩
 ·-- c7f: (!(!(AB (dx, dy)))) = false
  replace c7:(!(!(AB (dx,dy))))=false:=c7
  try simp only [nrm] at c7
  -- l14: ([] : List (List Dat)) = AA (CO l dx dy)
  show ([]:List (List Dat))=AA (CO l dx dy)
  first|(rw [Mt (by simp_all)];rfl)|(rw [Hf (by simp_all) (by simp_all)])
 -- c7t: (!(!(AB (dx, dy)))) = true
 replace c7:(!(!(AB (dx,dy))))=true:=c7
 try simp only [nrm] at c7
 -- w8: areVecs [DA.one (DC.sl 44 [.int, .int] (AA (Bb l dx dy)))]
 refine ⟨(Bb l dx dy),by
  rfl,by
  first|exact hpre.1|trivial,?_⟩
 refine ⟨λ c11=>?_,λ c11=>?_⟩
 ·-- c11t: (!((Bb l dx dy).all AB)) = true
  replace c11:(!((Bb l dx dy).all AB))=true:=c11
  try simp only [nrm] at c11
  -- l12: ([] : List (List Dat)) = AA (CO l dx dy)
  show ([]:List (List Dat))=AA (CO l dx dy)
  first|(rw [Mt (by simp_all)];rfl)|(rw [Hf (by simp_all) (by simp_all)])
 -- c11f: (!((Bb l dx dy).all AB)) = false
 replace c11:(!((Bb l dx dy).all AB))=false:=c11
 try simp only [nrm] at c11
 -- l13: AA (Bb l dx dy) = AA (CO l dx dy)
 show AA (Bb l dx dy)=AA (CO l dx dy)
 first|(rw [Mt (by simp_all)];rfl)|(rw [Hf (by simp_all) (by simp_all)])
end Go.Proofs.YtndnhlhnjiopfaaGreat
