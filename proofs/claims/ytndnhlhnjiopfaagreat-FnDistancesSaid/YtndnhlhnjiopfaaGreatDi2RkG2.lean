import Derived.Test.YtndnhlhnjiopfaaGreatDi2RkH
import Derived.Test.YtndnhlhnjiopfaaGreatDi2RkG1
namespace Go.Proofs.YtndnhlhnjiopfaaGreat
set_option maxRecDepth 100000
set_option linter.unusedVariables false
set_option linter.unusedSimpArgs false
open Go.RowKit
def Ct:Con:={ ι:=Fr,pre:=λ i=>i.good=true,args:=λ i=>[.agg [.im (.bool (decide (i.z<0))),.sl 3 [.int] (L i.z.natAbs),.sl 3 [.int] (L i.d)]],mono:=true,res:=λ i=>⟨false,[none],[.im (Value.int .i64 i.sgn)]⟩ }
theorem QF:Ct.Ok Tryz.prog 21:=by
 refine fok (X:=⟨tt,[(15,Ao),(52,Cf)],[],8,[]⟩) AG AH (CTok.cons Il (CTok.cons Ly (CTok.nil _))) Tryz.func21 (λ _=>[]) ?_
 intro (r:Fr) hpre
 have hpre:r.good=true:=hpre
 refine AF (q:=∃ i1:Bool×(List (List Dat))×(List (List Dat)),[dF r]=Ao.args i1/\Ao.pre i1/\(((!(AZ i1.1 i1.2.1 i1.2.2))=true->((Value.int .i64 (0:Int)=Value.int .i64 r.sgn)))/\((!(AZ i1.1 i1.2.1 i1.2.2))=false->(∃ i2:Fr,[dF r]=Cf.args i2/\Cf.pre i2/\((Value.int .i64 i2.sgn=Value.int .i64 r.sgn)))))) (by kernel_rfl) ?_
 have n1:=r.nlz
 have n2:=r.nld
 have l1:=AL r.z.natAbs
 have l2:=AL r.d
 -- w1: RatOk [DA.agg [DC.im (Value.bool (decide (r.z < 0))), DC.sl 3 [.int] (L r.z.natAbs), DC.sl 3 [.int] (L r.d)]]
 refine ⟨(decide (r.z<0),(L r.z.natAbs),(L r.d)),by
  rfl,by
  show Dat.has (.sl 3 [.int]) (.sl (L r.z.natAbs))/\Dat.has (.sl 3 [.int]) (.sl (L r.d))/\(L r.z.natAbs).length<=9223372036854775807/\(L r.d).length<=9223372036854775807
  exact ⟨Dg _ (by omega),Dg _ (by omega),by omega,by omega⟩,?_⟩
 refine ⟨λ c4=>?_,λ c4=>?_⟩
 ·-- c4t: (!(AZ (decide (r.z < 0)) (L r.z.natAbs) (L r.d))) = true
  replace c4:(!(AZ (decide (r.z<0)) (L r.z.natAbs) (L r.d)))=true:=c4
  try simp only [nrm] at c4
  -- l5: Value.int .i64 (0 : Int) = Value.int .i64 r.sgn
  show Value.int .i64 (0:Int)=Value.int .i64 r.sgn
  first|rfl|(rw [CF,hpre] at c4;cases c4)
 -- c4f: (!(AZ (decide (r.z < 0)) (L r.z.natAbs) (L r.d))) = false
 replace c4:(!(AZ (decide (r.z<0)) (L r.z.natAbs) (L r.d)))=false:=c4
 try simp only [nrm] at c4
 -- w6: ratSign [DA.agg [DC.im (Value.bool (decide (r.z < 0))), DC.sl 3 [.int] (L r.z.natAbs), DC.sl 3 [.int] (L r.d)]]
 refine ⟨r,by
  rfl,by
  exact trivial,?_⟩
 exact rfl
def Gg:Con:={ ι:=Pq×Pq×Pq,pre:=λ i=>i.1.good=true/\i.2.1.good=true/\i.2.2.good=true,args:=λ i=>[.agg [.im (.bool (decide (i.1.x.z<0))),.sl 3 [.int] (L i.1.x.z.natAbs),.sl 3 [.int] (L i.1.x.d),.im (.bool (decide (i.1.y.z<0))),.sl 3 [.int] (L i.1.y.z.natAbs),.sl 3 [.int] (L i.1.y.d)],.agg [.im (.bool (decide (i.2.1.x.z<0))),.sl 3 [.int] (L i.2.1.x.z.natAbs),.sl 3 [.int] (L i.2.1.x.d),.im (.bool (decide (i.2.1.y.z<0))),.sl 3 [.int] (L i.2.1.y.z.natAbs),.sl 3 [.int] (L i.2.1.y.d)],.agg [.im (.bool (decide (i.2.2.x.z<0))),.sl 3 [.int] (L i.2.2.x.z.natAbs),.sl 3 [.int] (L i.2.2.x.d),.im (.bool (decide (i.2.2.y.z<0))),.sl 3 [.int] (L i.2.2.y.z.natAbs),.sl 3 [.int] (L i.2.2.y.d)]],res:=λ i=>⟨false,[some 3],[.im (Value.bool (decide ((BL i.1 i.2.1 i.2.2).z<0))),.own 3 [.int] (L (BL i.1 i.2.1 i.2.2).z.natAbs),.own 3 [.int] (L (BL i.1 i.2.1 i.2.2).d)]⟩ }
theorem UA:Gg.Ok Tryz.prog 22:=by
 refine fok (X:=⟨tt,[(34,AE),(53,Bp),(41,B7)],[],19,[]⟩) AG AH (CTok.cons B4 (CTok.cons MA (CTok.cons Jf (CTok.nil _)))) Tryz.func22 (λ _=>[]) ?_
 rintro ⟨p,a,b⟩ hpre
 have hpre:p.good=true/\a.good=true/\b.good=true:=hpre
 refine AF (q:=∃ i1:(List (List Dat)),[DA.one (DC.sl 29 [.bool,.sl 3 [.int],.sl 3 [.int],.bool,.sl 3 [.int],.sl 3 [.int]] ([[Dat.bool (decide (p.x.z<0)),Dat.sl (L p.x.z.natAbs),Dat.sl (L p.x.d),Dat.bool (decide (p.y.z<0)),Dat.sl (L p.y.z.natAbs),Dat.sl (L p.y.d)],[Dat.bool (decide (a.x.z<0)),Dat.sl (L a.x.z.natAbs),Dat.sl (L a.x.d),Dat.bool (decide (a.y.z<0)),Dat.sl (L a.y.z.natAbs),Dat.sl (L a.y.d)],[Dat.bool (decide (b.x.z<0)),Dat.sl (L b.x.z.natAbs),Dat.sl (L b.x.d),Dat.bool (decide (b.y.z<0)),Dat.sl (L b.y.z.natAbs),Dat.sl (L b.y.d)]]:List (List Dat)))]=AE.args i1/\AE.pre i1/\(((!(!(i1.any (λ r=>!(okP (BK r))))))=true->((eqN (BL p a b))))/\((!(!(i1.any (λ r=>!(okP (BK r))))))=false->(∃ i2:Pq×Pq×Pq,[dP p,dP a,dP b]=Bp.args i2/\Bp.pre i2/\(∃ i3:Bool×(List (List Dat))×(List (List Dat)),[dF (BL i2.1 i2.2.1 i2.2.2)]=B7.args i3/\B7.pre i3/\((Value.bool i3.1=Value.bool (decide ((BL p a b).z<0)))/\(i3.2.1=L (BL p a b).z.natAbs)/\(i3.2.2=L (BL p a b).d))))))) (by kernel_rfl) ?_
 have hR:=I2 [p,a,b] (λ x hx=>by simp only [List.mem_cons,List.not_mem_nil,or_false] at hx;rcases hx with rfl|rfl|rfl <;> simp_all)
 have n1:=(BL p a b).nlz
 have n2:=(BL p a b).nld
 have l1:=AL (BL p a b).z.natAbs
 have l2:=AL (BL p a b).d
 -- w1: arePoints [DA.one (DC.sl 29 [.bool, .sl 3 [.int], .sl 3 [.int], .bool, .sl 3 [.int], .sl 3 [.int]] ([[Dat.bool (decide (p.x.z < 0)), Dat.sl (L p.x.z.natAbs), Dat.sl (L p.x.d), Dat.bool (decide (p.y.z < 0)), Dat.sl (L p.y.z.natAbs), Dat.sl (L p.y.d)], [Dat.bool (decide (a.x.z < 0)), Dat.sl (L a.x.z.natAbs), Da
 refine ⟨(([p,a,b]:List Pq).map λ p=>ptD (ptQ p)),by
  rfl,by
  try dsimp only [AE]
  first|trivial|exact ⟨by show 3<=_;decide,De [p,a,b]⟩|omega,?_⟩
 refine ⟨λ c4=>?_,λ c4=>?_⟩
 ·-- c4t: (!(!((([p, a, b] : List Pq).map fun p => ptD (ptQ p)).any (fun r => !(okP (BK r)))))) = true
  replace c4:(!(!((([p,a,b]:List Pq).map λ p=>ptD (ptQ p)).any (λ r=>!(okP (BK r))))))=true:=c4
  try simp only [nrm] at c4
  refine Ar ?_
  -- l5: BL p a b = Fr.none
  show BL p a b=Fr.none
  first|rfl|(rw [hR] at c4;cases c4)
 -- c4f: (!(!((([p, a, b] : List Pq).map fun p => ptD (ptQ p)).any (fun r => !(okP (BK r)))))) = false
 replace c4:(!(!((([p,a,b]:List Pq).map λ p=>ptD (ptQ p)).any (λ r=>!(okP (BK r))))))=false:=c4
 try simp only [nrm] at c4
 -- w8: toSeg [DA.agg [DC.im (Value.bool (decide (p.x.z < 0))), DC.sl 3 [.int] (L p.x.z.natAbs), DC.sl 3 [.int] (L p.x.d), DC.im (Value.bool (decide (p.y.z < 0))), DC.sl 3 [.int] (L p.y.z.natAbs), DC.sl 3 [.int] (L p.y.d)], DA.agg [DC.im (Value.bool (decide (a.x.z < 0))), DC.sl 3 [.int] (L a.x.z.natAbs), DC.sl 3 
 refine ⟨(p,a,b),by
  rfl,by
  first|trivial|exact ⟨by show 3<=_;decide,De [p,a,b]⟩|omega,?_⟩
 -- w11: ownRat [DA.agg [DC.im (Value.bool (decide ((BL p a b).z < 0))), DC.sl 3 [.int] (L (BL p a b).z.natAbs), DC.sl 3 [.int] (L (BL p a b).d)]]
 refine ⟨((decide ((BL p a b).z<0)),L (BL p a b).z.natAbs,L (BL p a b).d),by
  rfl,by
  show (L (BL p a b).z.natAbs).length<=1073741824/\(L (BL p a b).d).length<=1073741824
  first|trivial|exact ⟨by show 3<=_;decide,De [p,a,b]⟩|omega,?_⟩
 exact ⟨rfl,rfl,rfl⟩
def DP:Con:={ ι:=Pq×Pq,pre:=λ i=>i.1.good=true/\i.2.good=true,args:=λ i=>[.agg [.im (.bool (decide (i.1.x.z<0))),.sl 3 [.int] (L i.1.x.z.natAbs),.sl 3 [.int] (L i.1.x.d),.im (.bool (decide (i.1.y.z<0))),.sl 3 [.int] (L i.1.y.z.natAbs),.sl 3 [.int] (L i.1.y.d)],.agg [.im (.bool (decide (i.2.x.z<0))),.sl 3 [.int] (L i.2.x.z.natAbs),.sl 3 [.int] (L i.2.x.d),.im (.bool (decide (i.2.y.z<0))),.sl 3 [.int] (L i.2.y.z.natAbs),.sl 3 [.int] (L i.2.y.d)]],res:=λ i=>⟨false,[some 3],[.im (Value.bool (decide ((sdQ i.1 i.2).z<0))),.own 3 [.int] (L (sdQ i.1 i.2).z.natAbs),.own 3 [.int] (L (sdQ i.1 i.2).d)]⟩ }
theorem RZ:DP.Ok Tryz.prog 23:=by
 refine fok (X:=⟨tt,[(34,AE),(54,Bg)],[],14,[]⟩) AG AH (CTok.cons B4 (CTok.cons NV (CTok.nil _))) Tryz.func23 (λ _=>[]) ?_
 rintro ⟨p,q⟩ hpre
 have hpre:p.good=true/\q.good=true:=hpre
 refine AF (q:=∃ i1:(List (List Dat)),[DA.one (DC.sl 29 [.bool,.sl 3 [.int],.sl 3 [.int],.bool,.sl 3 [.int],.sl 3 [.int]] ([[Dat.bool (decide (p.x.z<0)),Dat.sl (L p.x.z.natAbs),Dat.sl (L p.x.d),Dat.bool (decide (p.y.z<0)),Dat.sl (L p.y.z.natAbs),Dat.sl (L p.y.d)],[Dat.bool (decide (q.x.z<0)),Dat.sl (L q.x.z.natAbs),Dat.sl (L q.x.d),Dat.bool (decide (q.y.z<0)),Dat.sl (L q.y.z.natAbs),Dat.sl (L q.y.d)]]:List (List Dat)))]=AE.args i1/\AE.pre i1/\(((!(!(i1.any (λ r=>!(okP (BK r))))))=true->((eqN (sdQ p q))))/\((!(!(i1.any (λ r=>!(okP (BK r))))))=false->(∃ i2:Pq×Pq,[dP p,dP q]=Bg.args i2/\Bg.pre i2/\((eqC (sdQ i2.1 i2.2) (sdQ p q))))))) (by kernel_rfl) ?_
 have hR:=I2 [p,q] (λ x hx=>by simp only [List.mem_cons,List.not_mem_nil,or_false] at hx;rcases hx with rfl|rfl <;> simp_all)
 have n1:=(sdQ p q).nlz
 have n2:=(sdQ p q).nld
 have l1:=AL (sdQ p q).z.natAbs
 have l2:=AL (sdQ p q).d
 -- w1: arePoints [DA.one (DC.sl 29 [.bool, .sl 3 [.int], .sl 3 [.int], .bool, .sl 3 [.int], .sl 3 [.int]] ([[Dat.bool (decide (p.x.z < 0)), Dat.sl (L p.x.z.natAbs), Dat.sl (L p.x.d), Dat.bool (decide (p.y.z < 0)), Dat.sl (L p.y.z.natAbs), Dat.sl (L p.y.d)], [Dat.bool (decide (q.x.z < 0)), Dat.sl (L q.x.z.natAbs), Da
 refine ⟨(([p,q]:List Pq).map λ p=>ptD (ptQ p)),by
  rfl,by
  try dsimp only [AE]
  first|trivial|exact ⟨by show 2<=_;decide,De [p,q]⟩|omega,?_⟩
 refine ⟨λ c4=>?_,λ c4=>?_⟩
 ·-- c4t: (!(!((([p, q] : List Pq).map fun p => ptD (ptQ p)).any (fun r => !(okP (BK r)))))) = true
  replace c4:(!(!((([p,q]:List Pq).map λ p=>ptD (ptQ p)).any (λ r=>!(okP (BK r))))))=true:=c4
  try simp only [nrm] at c4
  refine Ar ?_
  -- l5: sdQ p q = Fr.none
  show sdQ p q=Fr.none
  first|rfl|(rw [hR] at c4;cases c4)
 -- c4f: (!(!((([p, q] : List Pq).map fun p => ptD (ptQ p)).any (fun r => !(okP (BK r)))))) = false
 replace c4:(!(!((([p,q]:List Pq).map λ p=>ptD (ptQ p)).any (λ r=>!(okP (BK r))))))=false:=c4
 try simp only [nrm] at c4
 -- w8: sqDist [DA.agg [DC.im (Value.bool (decide (p.x.z < 0))), DC.sl 3 [.int] (L p.x.z.natAbs), DC.sl 3 [.int] (L p.x.d), DC.im (Value.bool (decide (p.y.z < 0))), DC.sl 3 [.int] (L p.y.z.natAbs), DC.sl 3 [.int] (L p.y.d)], DA.agg [DC.im (Value.bool (decide (q.x.z < 0))), DC.sl 3 [.int] (L q.x.z.natAbs), DC.sl 3 
 refine ⟨(p,q),by
  rfl,by
  first|trivial|exact ⟨by show 2<=_;decide,De [p,q]⟩|omega,?_⟩
 exact A6 rfl
def Gh:Con:={ ι:=Pq×Pq×Pq,pre:=λ i=>i.1.good=true/\i.2.1.good=true/\i.2.2.good=true,args:=λ i=>[.agg [.im (.bool (decide (i.1.x.z<0))),.sl 3 [.int] (L i.1.x.z.natAbs),.sl 3 [.int] (L i.1.x.d),.im (.bool (decide (i.1.y.z<0))),.sl 3 [.int] (L i.1.y.z.natAbs),.sl 3 [.int] (L i.1.y.d)],.agg [.im (.bool (decide (i.2.1.x.z<0))),.sl 3 [.int] (L i.2.1.x.z.natAbs),.sl 3 [.int] (L i.2.1.x.d),.im (.bool (decide (i.2.1.y.z<0))),.sl 3 [.int] (L i.2.1.y.z.natAbs),.sl 3 [.int] (L i.2.1.y.d)],.agg [.im (.bool (decide (i.2.2.x.z<0))),.sl 3 [.int] (L i.2.2.x.z.natAbs),.sl 3 [.int] (L i.2.2.x.d),.im (.bool (decide (i.2.2.y.z<0))),.sl 3 [.int] (L i.2.2.y.z.natAbs),.sl 3 [.int] (L i.2.2.y.d)]],res:=λ i=>⟨false,[some 3],[.im (Value.bool (decide ((Cq i.1 i.2.1 i.2.2).z<0))),.own 3 [.int] (L (Cq i.1 i.2.1 i.2.2).z.natAbs),.own 3 [.int] (L (Cq i.1 i.2.1 i.2.2).d)]⟩ }
theorem UB:Gh.Ok Tryz.prog 25:=by
 refine fok (X:=⟨tt,[(34,AE),(56,Dr)],[],18,[]⟩) AG AH (CTok.cons B4 (CTok.cons Py (CTok.nil _))) Tryz.func25 (λ _=>[]) ?_
 rintro ⟨a,b,c⟩ hpre
 have hpre:a.good=true/\b.good=true/\c.good=true:=hpre
 refine AF (q:=∃ i1:(List (List Dat)),[DA.one (DC.sl 29 [.bool,.sl 3 [.int],.sl 3 [.int],.bool,.sl 3 [.int],.sl 3 [.int]] ([[Dat.bool (decide (a.x.z<0)),Dat.sl (L a.x.z.natAbs),Dat.sl (L a.x.d),Dat.bool (decide (a.y.z<0)),Dat.sl (L a.y.z.natAbs),Dat.sl (L a.y.d)],[Dat.bool (decide (b.x.z<0)),Dat.sl (L b.x.z.natAbs),Dat.sl (L b.x.d),Dat.bool (decide (b.y.z<0)),Dat.sl (L b.y.z.natAbs),Dat.sl (L b.y.d)],[Dat.bool (decide (c.x.z<0)),Dat.sl (L c.x.z.natAbs),Dat.sl (L c.x.d),Dat.bool (decide (c.y.z<0)),Dat.sl (L c.y.z.natAbs),Dat.sl (L c.y.d)]]:List (List Dat)))]=AE.args i1/\AE.pre i1/\(((!(!(i1.any (λ r=>!(okP (BK r))))))=true->((eqN (Cq a b c))))/\((!(!(i1.any (λ r=>!(okP (BK r))))))=false->(∃ i2:Pq×Pq×Pq,[dP a,dP b,dP c]=Dr.args i2/\Dr.pre i2/\((eqC (Cq i2.1 i2.2.1 i2.2.2) (Cq a b c))))))) (by kernel_rfl) ?_
 have hR:=I2 [a,b,c] (λ x hx=>by simp only [List.mem_cons,List.not_mem_nil,or_false] at hx;rcases hx with rfl|rfl|rfl <;> simp_all)
 have n1:=(Cq a b c).nlz
 have n2:=(Cq a b c).nld
 have l1:=AL (Cq a b c).z.natAbs
 have l2:=AL (Cq a b c).d
 -- w1: arePoints [DA.one (DC.sl 29 [.bool, .sl 3 [.int], .sl 3 [.int], .bool, .sl 3 [.int], .sl 3 [.int]] ([[Dat.bool (decide (a.x.z < 0)), Dat.sl (L a.x.z.natAbs), Dat.sl (L a.x.d), Dat.bool (decide (a.y.z < 0)), Dat.sl (L a.y.z.natAbs), Dat.sl (L a.y.d)], [Dat.bool (decide (b.x.z < 0)), Dat.sl (L b.x.z.natAbs), Da
 refine ⟨(([a,b,c]:List Pq).map λ p=>ptD (ptQ p)),by
  rfl,by
  try dsimp only [AE]
  first|trivial|exact ⟨by show 3<=_;decide,De [a,b,c]⟩|omega,?_⟩
 refine ⟨λ c4=>?_,λ c4=>?_⟩
 ·-- c4t: (!(!((([a, b, c] : List Pq).map fun p => ptD (ptQ p)).any (fun r => !(okP (BK r)))))) = true
  replace c4:(!(!((([a,b,c]:List Pq).map λ p=>ptD (ptQ p)).any (λ r=>!(okP (BK r))))))=true:=c4
  try simp only [nrm] at c4
  refine Ar ?_
  -- l5: Cq a b c = Fr.none
  show Cq a b c=Fr.none
  first|rfl|(rw [hR] at c4;cases c4)
 -- c4f: (!(!((([a, b, c] : List Pq).map fun p => ptD (ptQ p)).any (fun r => !(okP (BK r)))))) = false
 replace c4:(!(!((([a,b,c]:List Pq).map λ p=>ptD (ptQ p)).any (λ r=>!(okP (BK r))))))=false:=c4
 try simp only [nrm] at c4
 -- w8: inner [DA.agg [DC.im (Value.bool (decide (a.x.z < 0))), DC.sl 3 [.int] (L a.x.z.natAbs), DC.sl 3 [.int] (L a.x.d), DC.im (Value.bool (decide (a.y.z < 0))), DC.sl 3 [.int] (L a.y.z.natAbs), DC.sl 3 [.int] (L a.y.d)], DA.agg [DC.im (Value.bool (decide (b.x.z < 0))), DC.sl 3 [.int] (L b.x.z.natAbs), DC.sl 3 
 refine ⟨(a,b,c),by
  rfl,by
  first|trivial|exact ⟨by show 3<=_;decide,De [a,b,c]⟩|omega,?_⟩
 exact A6 rfl
end Go.Proofs.YtndnhlhnjiopfaaGreat
