import Derived.Test.YtdgmbbjoifneiaaGreatDoorPyRkD2
namespace Go.Proofs.YtdgmbbjoifneiaaGreatDoor
set_option maxRecDepth 100000
set_option linter.unusedVariables false
set_option linter.unusedSimpArgs false
open Go.RowKit
def C0 (l:List V2):List V2:=l.map λ p=>(-p.1,-p.2)
def Bk (l:List V2):List V2:=if l.all AE=true then C0 l else []
theorem Di (l:List V2):(C0 l).length=l.length:=by simp [C0]
theorem MR {l:List V2} (h:l.all AE=true):Bk l=C0 l:=by unfold Bk;rw [if_pos h]
theorem Wt {l:List V2} (h:l.all AE=false):Bk l=[]:=by unfold Bk;rw [if_neg (by rw [h];simp)]
theorem UT {l:List V2} {k:Nat} (hk:k<l.length) (hv:AE (l.getD k (0,0))=true):AA (C0 (l.take k))++[[.int (IntKind.i64.wrap (0-(l.getD k (0,0)).1)),.int (IntKind.i64.wrap (0-(l.getD k (0,0)).2))]]=AA (C0 (l.take (k+1))):=by
 have b:=Ay hv
 have e:l.take (k+1)=l.take k++[l.getD k (0,0)]:=by
  rw [List.take_add_one];simp [List.getD,hk]
 rw [AF (by omega) (by omega),AF (by omega) (by omega),e]
 simp [C0,AA,Ih,Int.zero_sub]
def Cd:Con:={ ι:=(List V2)×Int×Int,pre:=λ i=>i.1.length<=1048576,args:=λ i=>[.one (.sl 26 [.int,.int] (AA i.1)),.agg [.im (.int .i64 i.2.1),.im (.int .i64 i.2.2)]],res:=λ i=>⟨false,[none],[.own 26 [.int,.int] (AA (Al i.1 i.2.1 i.2.2))]⟩ }
theorem OM:Cd.Ok Tryz.prog 19:=by
 refine fok (X:=⟨tt,[],[],31,[]⟩) mixed AP (CTok.nil _) Tryz.func19 (λ (i:(List V2)×Int×Int)=>[(3,.mk 4 (Nat) (λ x1=>{ tm:=[(3,.one (.one (.bp 1 0))),(9,.one (.one (.ext 2))),(10,.one (.one (.im (Value.int .i64 (((AA i.1).length:Nat):Int))))),(11,.one (.one (.im (Value.int .i64 (x1:Int))))),(5,.one (.one (.ext 3)))],en:=[(1,.box [.im (Value.int .i64 i.2.1),.im (Value.int .i64 i.2.2)]),(2,.view 26 [.int,.int] (AA i.1) []),(3,.own 26 [.int,.int] (AA (Al (i.1.take x1) i.2.1 i.2.2)))] }) (λ x1=>x1<=i.1.length) (λ x1=>i.1.length-x1) (λ _=>[]))]) ?_
 rintro ⟨l,dx,dy⟩ hpre
 have hpre:l.length<=1048576:=hpre
 refine AO (q:=(∃ x1:Nat,(x1<=l.length)/\((rf (Value.int .i64 (((AA l).length:Nat):Int)))/\(Value.int .i64 (0:Int)=Value.int .i64 (x1:Int))/\(rf (Value.int .i64 dx))/\(rf (Value.int .i64 dy))/\(rf (AA l))/\(([]:List (List Dat))=(AA (Al (l.take x1) dx dy)))))/\∀ x1:Nat,(x1<=l.length)->(((decide ((x1:Int)<(((AA l).length:Nat):Int)))=true->((0<=(x1:Int)/\(x1:Int)<((AA l).length:Int))/\((x1<(AA l).length)/\(((AA (Al (l.take x1) dx dy)).length+([[Dat.int (IntKind.i64.wrap (((((AA l).getD x1 []).getD 0 (.int 0))).n+dx)),Dat.int (IntKind.i64.wrap (((((AA l).getD x1 []).getD 1 (.int 0))).n+dy))]]:List (List Dat)).length<=2199023255552)/\(∃ y2:Nat,(y2<=l.length)/\(l.length-y2<l.length-x1)/\((rf (Value.int .i64 (((AA l).length:Nat):Int)))/\(Value.int .i64 (IntKind.i64.wrap ((x1:Int)+(1:Int)))=Value.int .i64 (y2:Int))/\(rf (Value.int .i64 dx))/\(rf (Value.int .i64 dy))/\(rf (AA l))/\(((AA (Al (l.take x1) dx dy))++([[Dat.int (IntKind.i64.wrap (((((AA l).getD x1 []).getD 0 (.int 0))).n+dx)),Dat.int (IntKind.i64.wrap (((((AA l).getD x1 []).getD 1 (.int 0))).n+dy))]]:List (List Dat)))=(AA (Al (l.take y2) dx dy)))))))))/\((decide ((x1:Int)<(((AA l).length:Nat):Int)))=false->(((AA (Al (l.take x1) dx dy))=AA (Al l dx dy)))))) (by kernel_rfl) ?_
 have hvl:=AB l
 -- i1
 refine ⟨⟨0,by
  first|trivial|omega|(simp;omega),?_⟩,?_⟩
 ·-- the beginning
  refine ⟨rfl,rfl,rfl,rfl,rfl,?_⟩
  -- b8: ([] : List (List Dat)) = (AA (Al (l.take 0) dx dy))
  show ([]:List (List Dat))=(AA (Al (l.take 0) dx dy))
  first|rfl|(rw [AB])
 intro (k:Nat) hki1
 have hki1:k<=l.length:=hki1
 have hml:(AA (Al (l.take k) dx dy)).length=k:=by rw [AB,DY,List.length_take];omega
 refine And.symm ⟨λ c9=>?_,λ c9=>?_⟩
 ·-- c9f: (decide ((k : Int) < (((AA l).length : Nat) : Int))) = false
  replace c9:(decide ((k:Int)<(((AA l).length:Nat):Int)))=false:=c9
  try simp only [nrm] at c9
  -- l22: (AA (Al (l.take k) dx dy)) = AA (Al l dx dy)
  show (AA (Al (l.take k) dx dy))=AA (Al l dx dy)
  rw [show k=l.length by omega,List.take_length]
 -- c9t: (decide ((k : Int) < (((AA l).length : Nat) : Int))) = true
 replace c9:(decide ((k:Int)<(((AA l).length:Nat):Int)))=true:=c9
 try simp only [nrm] at c9
 refine ao (a:=0<=(k:Int)/\(k:Int)<((AA l).length:Int)) (by first|rfl|omega|(simp only [AB,DY,Di,List.length_append,List.length_take,List.length_cons,List.length_nil];omega)) λ o10=>?_
 refine ao (a:=k<(AA l).length) (by first|rfl|omega|(simp only [AB,DY,Di,List.length_append,List.length_take,List.length_cons,List.length_nil];omega)) λ o11=>?_
 refine ao (a:=(AA (Al (l.take k) dx dy)).length+([[Dat.int (IntKind.i64.wrap (((((AA l).getD k []).getD 0 (.int 0))).n+dx)),Dat.int (IntKind.i64.wrap (((((AA l).getD k []).getD 1 (.int 0))).n+dy))]]:List (List Dat)).length<=2199023255552) (by first|rfl|omega|(simp only [AB,DY,Di,List.length_append,List.length_take,List.length_cons,List.length_nil];omega)) λ o12=>?_
 -- n13
 refine ⟨k+1,by
  first|trivial|omega|(simp;omega),by
  first|omega|(simp;omega),?_⟩
 refine ⟨rfl,?_,rfl,rfl,rfl,?_⟩
 ·-- e17: Value.int .i64 (IntKind.i64.wrap ((k : Int) + (1 : Int))) = Value.int .i64 ((k + 1) : Int)
  show Value.int .i64 (IntKind.i64.wrap ((k:Int)+(1:Int)))=Value.int .i64 ((k+1):Int)
  first|rfl|exact AQ (AF (by omega) (by omega))|exact LG (by omega)
 -- e21: ((AA (Al (l.take k) dx dy)) ++ ([[Dat.int (IntKind.i64.wrap (((((AA l).getD k []).getD 0 (.int 0))).n + dx)), Dat.int (IntKind.i64.wrap (((((AA l).getD k []).getD 1 (.int 0))).n + dy))]] : List (List Dat))) = (AA (Al (l.take (k + 1)) dx dy))
 show ((AA (Al (l.take k) dx dy))++([[Dat.int (IntKind.i64.wrap (((((AA l).getD k []).getD 0 (.int 0))).n+dx)),Dat.int (IntKind.i64.wrap (((((AA l).getD k []).getD 1 (.int 0))).n+dy))]]:List (List Dat)))=(AA (Al (l.take (k+1)) dx dy))
 first|rfl|exact AQ (AF (by omega) (by omega))|exact LG (by omega)
def Eb:Con:={ ι:=(List V2),pre:=λ i=>i.length<=1048576,args:=λ i=>[.one (.sl 26 [.int,.int] (AA i))],res:=λ i=>⟨false,[none],[.own 26 [.int,.int] (AA (Bk i))]⟩ }
theorem Vj:Eb.Ok Tryz.prog 13:=by
 refine fok (X:=⟨tt,[(21,A0)],[],28,[]⟩) mixed AP (CTok.cons Gf (CTok.nil _)) Tryz.func13 (λ (i:(List V2))=>[(5,.mk 3 (Nat) (λ x1=>{ tm:=[(10,.one (.one (.ext 1))),(11,.one (.one (.im (Value.int .i64 (((AA i).length:Nat):Int))))),(12,.one (.one (.im (Value.int .i64 ((x1:Nat):Int))))),(3,.one (.one (.ext 2)))],en:=[(1,.view 26 [.int,.int] (AA i) []),(2,.own 26 [.int,.int] (AA (C0 (i.take x1))))] }) (λ x1=>x1<=i.length) (λ x1=>i.length-x1) (λ _=>[]))]) ?_
 intro (l:List V2) hpre
 have hpre:l.length<=1048576:=hpre
 refine AO (q:=∃ i1:(List V2),[DA.one (DC.sl 26 [.int,.int] (AA l))]=A0.args i1/\A0.pre i1/\(((!(i1.all AE))=true->((([]:List (List Dat))=AA (Bk l))))/\((!(i1.all AE))=false->((∃ x1:Nat,(x1<=l.length)/\((rf (Value.int .i64 (((AA l).length:Nat):Int)))/\(Value.int .i64 (0:Int)=Value.int .i64 ((x1:Nat):Int))/\(rf (AA l))/\(([]:List (List Dat))=(AA (C0 (l.take x1))))))/\∀ x1:Nat,(x1<=l.length)->(((decide (((x1:Nat):Int)<(((AA l).length:Nat):Int)))=true->((0<=((x1:Nat):Int)/\((x1:Nat):Int)<((AA l).length:Int))/\((x1<(AA l).length)/\(((AA (C0 (l.take x1))).length+([[Dat.int (IntKind.i64.wrap (0-((((AA l).getD x1 []).getD 0 (.int 0))).n)),Dat.int (IntKind.i64.wrap (0-((((AA l).getD x1 []).getD 1 (.int 0))).n))]]:List (List Dat)).length<=2199023255552)/\(∃ y2:Nat,(y2<=l.length)/\(l.length-y2<l.length-x1)/\((rf (Value.int .i64 (((AA l).length:Nat):Int)))/\(Value.int .i64 (IntKind.i64.wrap (((x1:Nat):Int)+(1:Int)))=Value.int .i64 ((y2:Nat):Int))/\(rf (AA l))/\(((AA (C0 (l.take x1)))++([[Dat.int (IntKind.i64.wrap (0-((((AA l).getD x1 []).getD 0 (.int 0))).n)),Dat.int (IntKind.i64.wrap (0-((((AA l).getD x1 []).getD 1 (.int 0))).n))]]:List (List Dat)))=(AA (C0 (l.take y2))))))))))/\((decide (((x1:Nat):Int)<(((AA l).length:Nat):Int)))=false->(((AA (C0 (l.take x1)))=AA (Bk l))))))))) (by kernel_rfl) ?_
 have hvl:=AB l
 -- w1: areVecs [DA.one (DC.sl 26 [.int, .int] (AA l))]
 refine ⟨l,by
  rfl,by
  first|trivial|(first|omega|assumption|exact hpre.1|exact hpre.2|(simp;done)),?_⟩
 refine ⟨λ c4=>?_,λ c4=>?_⟩
 ·-- c4t: (!(l.all AE)) = true
  replace c4:(!(l.all AE))=true:=c4
  try simp only [nrm] at c4
  have hE:=Wt c4
  -- l5: ([] : List (List Dat)) = AA (Bk l)
  show ([]:List (List Dat))=AA (Bk l)
  first|(rw [hE];done)|(rw [hE];rfl)
 -- c4f: (!(l.all AE)) = false
 replace c4:(!(l.all AE))=false:=c4
 try simp only [nrm] at c4
 have hE:=MR c4
 -- i6
 refine ⟨⟨0,by
  first|trivial|omega|(simp;omega),?_⟩,?_⟩
 ·-- the beginning
  refine ⟨rfl,?_,rfl,?_⟩
  ·-- b9: Value.int .i64 (0 : Int) = Value.int .i64 ((0 : Nat) : Int)
   show Value.int .i64 (0:Int)=Value.int .i64 ((0:Nat):Int)
   first|rfl|(simp;done)
  -- b11: ([] : List (List Dat)) = (AA (C0 (l.take 0)))
  show ([]:List (List Dat))=(AA (C0 (l.take 0)))
  first|rfl|(simp;done)
 intro (k:Nat) hki6
 have hki6:k<=l.length:=hki6
 refine And.symm ⟨λ c12=>?_,λ c12=>?_⟩
 ·-- c12f: (decide (((k : Nat) : Int) < (((AA l).length : Nat) : Int))) = false
  replace c12:(decide (((k:Nat):Int)<(((AA l).length:Nat):Int)))=false:=c12
  try simp only [nrm] at c12
  -- l23: (AA (C0 (l.take k))) = AA (Bk l)
  show (AA (C0 (l.take k)))=AA (Bk l)
  rw [hE,show k=l.length by omega,List.take_length]
 -- c12t: (decide (((k : Nat) : Int) < (((AA l).length : Nat) : Int))) = true
 replace c12:(decide (((k:Nat):Int)<(((AA l).length:Nat):Int)))=true:=c12
 try simp only [nrm] at c12
 have hkl:k<l.length:=by omega
 have hV:=AW c4 hkl
 refine ao (a:=0<=((k:Nat):Int)/\((k:Nat):Int)<((AA l).length:Int)) (by first|rfl|omega|(simp only [AB,DY,Di,List.length_append,List.length_take,List.length_cons,List.length_nil];omega)) λ o13=>?_
 refine ao (a:=k<(AA l).length) (by first|rfl|omega|(simp only [AB,DY,Di,List.length_append,List.length_take,List.length_cons,List.length_nil];omega)) λ o14=>?_
 refine ao (a:=(AA (C0 (l.take k))).length+([[Dat.int (IntKind.i64.wrap (0-((((AA l).getD k []).getD 0 (.int 0))).n)),Dat.int (IntKind.i64.wrap (0-((((AA l).getD k []).getD 1 (.int 0))).n))]]:List (List Dat)).length<=2199023255552) (by first|rfl|omega|(simp only [AB,DY,Di,List.length_append,List.length_take,List.length_cons,List.length_nil];omega)) λ o15=>?_
 -- n16
 refine ⟨k+1,by
  first|trivial|omega|(simp;omega),by
  first|omega|(simp;omega),?_⟩
 refine ⟨rfl,?_,rfl,?_⟩
 ·-- e20: Value.int .i64 (IntKind.i64.wrap (((k : Nat) : Int) + (1 : Int))) = Value.int .i64 (((k + 1) : Nat) : Int)
  show Value.int .i64 (IntKind.i64.wrap (((k:Nat):Int)+(1:Int)))=Value.int .i64 (((k+1):Nat):Int)
  first|rfl|exact AQ (AF (by omega) (by omega))
 -- e22: ((AA (C0 (l.take k))) ++ ([[Dat.int (IntKind.i64.wrap (0 - ((((AA l).getD k []).getD 0 (.int 0))).n)), Dat.int (IntKind.i64.wrap (0 - ((((AA l).getD k []).getD 1 (.int 0))).n))]] : List (List Dat))) = (AA (C0 (l.take (k + 1))))
 show ((AA (C0 (l.take k)))++([[Dat.int (IntKind.i64.wrap (0-((((AA l).getD k []).getD 0 (.int 0))).n)),Dat.int (IntKind.i64.wrap (0-((((AA l).getD k []).getD 1 (.int 0))).n))]]:List (List Dat)))=(AA (C0 (l.take (k+1))))
 rw [AT hkl,AU hkl];exact UT hkl hV
def CQ (l:List V2) (dx dy:Int):List V2:=if AE (dx,dy)=true/\(Al l dx dy).all AE=true then Al l dx dy else []
theorem MS {l:List V2} {dx dy:Int} (h:AE (dx,dy)=false∨(Al l dx dy).all AE=false):CQ l dx dy=[]:=by
 unfold CQ;rw [if_neg];rintro ⟨h1,h2⟩;rcases h with h|h <;> simp_all
theorem Fa {l:List V2} {dx dy:Int} (h:AE (dx,dy)=true) (h' : (Al l dx dy).all AE=true):CQ l dx dy=Al l dx dy:=by
 unfold CQ;rw [if_pos ⟨h,h'⟩]
def DL:Con:={ ι:=(List V2)×Int×Int,pre:=λ i=>i.1.length<=1048576/\i.1.all AE=true,args:=λ i=>[.one (.sl 26 [.int,.int] (AA i.1)),.agg [.im (.int .i64 i.2.1),.im (.int .i64 i.2.2)]],res:=λ i=>⟨false,[none],[.own 26 [.int,.int] (AA (CQ i.1 i.2.1 i.2.2))]⟩ }
theorem UU:DL.Ok Tryz.prog 6:=by
 refine fok (X:=⟨tt,[(19,Cd),(20,B8),(21,A0)],[],18,[]⟩) mixed AP (CTok.cons OM (CTok.cons Ld (CTok.cons Gf (CTok.nil _)))) Tryz.func6 (λ _=>[]) ?_
 rintro ⟨l,dx,dy⟩ hpre
 have hpre:l.length<=1048576/\l.all AE=true:=hpre
 refine AO (q:=∃ i1:(List V2)×Int×Int,[DA.one (DC.sl 26 [.int,.int] (AA l)),DA.agg [cI dx,cI dy]]=Cd.args i1/\Cd.pre i1/\(∃ i2:Int×Int,[DA.agg [cI dx,cI dy]]=B8.args i2/\B8.pre i2/\(((!(!(AE (i2.1,i2.2))))=true->(∃ i3:(List V2),[DA.one (DC.sl 26 [.int,.int] (AA (Al i1.1 i1.2.1 i1.2.2)))]=A0.args i3/\A0.pre i3/\(((!(i3.all AE))=true->((([]:List (List Dat))=AA (CQ l dx dy))))/\((!(i3.all AE))=false->((AA (Al i1.1 i1.2.1 i1.2.2)=AA (CQ l dx dy)))))))/\((!(!(AE (i2.1,i2.2))))=false->((([]:List (List Dat))=AA (CQ l dx dy))))))) (by kernel_rfl) ?_
 -- w1: moved [DA.one (DC.sl 26 [.int, .int] (AA l)), DA.agg [DC.im (Value.int .i64 dx), DC.im (Value.int .i64 dy)]]
 refine ⟨(l,dx,dy),by
  rfl,by
  show l.length<=1048576
  first|exact hpre.1|trivial,?_⟩
 -- w4: iIsVec [DA.agg [DC.im (Value.int .i64 dx), DC.im (Value.int .i64 dy)]]
 refine ⟨(dx,dy),by
  rfl,by
  first|exact hpre.1|trivial,?_⟩
 refine And.symm ⟨λ c7=>?_,λ c7=>?_⟩
 ·-- c7f: (!(!(AE (dx, dy)))) = false
  replace c7:(!(!(AE (dx,dy))))=false:=c7
  try simp only [nrm] at c7
  -- l14: ([] : List (List Dat)) = AA (CQ l dx dy)
  show ([]:List (List Dat))=AA (CQ l dx dy)
  first|(rw [MS (by simp_all)];rfl)|(rw [Fa (by simp_all) (by simp_all)])
 -- c7t: (!(!(AE (dx, dy)))) = true
 replace c7:(!(!(AE (dx,dy))))=true:=c7
 try simp only [nrm] at c7
 -- w8: areVecs [DA.one (DC.sl 26 [.int, .int] (AA (Al l dx dy)))]
 refine ⟨(Al l dx dy),by
  rfl,by
  first|exact hpre.1|trivial,?_⟩
 refine ⟨λ c11=>?_,λ c11=>?_⟩
 ·-- c11t: (!((Al l dx dy).all AE)) = true
  replace c11:(!((Al l dx dy).all AE))=true:=c11
  try simp only [nrm] at c11
  -- l12: ([] : List (List Dat)) = AA (CQ l dx dy)
  show ([]:List (List Dat))=AA (CQ l dx dy)
  first|(rw [MS (by simp_all)];rfl)|(rw [Fa (by simp_all) (by simp_all)])
 -- c11f: (!((Al l dx dy).all AE)) = false
 replace c11:(!((Al l dx dy).all AE))=false:=c11
 try simp only [nrm] at c11
 -- l13: AA (Al l dx dy) = AA (CQ l dx dy)
 show AA (Al l dx dy)=AA (CQ l dx dy)
 first|(rw [MS (by simp_all)];rfl)|(rw [Fa (by simp_all) (by simp_all)])
def loV (l:List V2):Nat->V2
 | 0=>l.getD 0 (0,0)
 | k+1=>(min (loV l k).1 (l.getD k (0,0)).1,min (loV l k).2 (l.getD k (0,0)).2)
def hiV (l:List V2):Nat->V2
 | 0=>l.getD 0 (0,0)
 | k+1=>(max (hiV l k).1 (l.getD k (0,0)).1,max (hiV l k).2 (l.getD k (0,0)).2)
def B9 (l:List V2):List V2:=if AI l=true/\(Al l (-(loV l l.length).1) (-(loV l l.length).2)).all AE=true then Al l (-(loV l l.length).1) (-(loV l l.length).2) else []
theorem UV {l:List V2} (hv:l.all AE=true) (h0:0<l.length):∀ k,k<=l.length->(-1000<=(loV l k).1/\(loV l k).1<=1000)/\-1000<=(loV l k).2/\(loV l k).2<=1000
 | 0,_=>by have:=Ay (AW hv h0);unfold loV;omega
 | k+1,hk=>by
  have h1:=UV hv h0 k (by omega)
  have h2:=Ay (AW hv (show k<l.length by omega))
  unfold loV
  simp only
  omega
def Dj:Con:={ ι:=(List V2),pre:=λ i=>0<i.length/\i.length<=1048576,args:=λ i=>[.one (.sl 26 [.int,.int] (AA i))],res:=λ i=>⟨true,[some 2,some 2],[.im (Value.int .i64 ((loV i i.length).1)),.im (Value.int .i64 ((loV i i.length).2)),.im (Value.int .i64 ((hiV i i.length).1)),.im (Value.int .i64 ((hiV i i.length).2))]⟩ }
theorem Qm:Dj.Ok Tryz.prog 26:=by
 refine fok (X:=⟨tt,[],[],45,[]⟩) mixed AP (CTok.nil _) Tryz.func26 (λ (i:(List V2))=>[(3,.mk 6 (Nat) (λ x1=>{ tm:=[(2,.one (.one (.bp 1 0))),(3,.one (.one (.bp 2 0))),(4,.one (.one (.bp 3 0))),(5,.one (.one (.bp 4 0))),(14,.one (.one (.ext 5))),(15,.one (.one (.im (Value.int .i64 ((i.length:Nat):Int))))),(16,.one (.one (.im (Value.int .i64 (x1:Int)))))],en:=[(1,.box [.im (Value.int .i64 (0:Int)),.im (Value.int .i64 (0:Int))]),(2,.box [.im (Value.int .i64 (0:Int)),.im (Value.int .i64 (0:Int))]),(3,.box [.im (Value.int .i64 ((loV i x1).1)),.im (Value.int .i64 ((loV i x1).2))]),(4,.box [.im (Value.int .i64 ((hiV i x1).1)),.im (Value.int .i64 ((hiV i x1).2))]),(5,.view 26 [.int,.int] (AA i) [])] }) (λ x1=>x1<=i.length) (λ x1=>i.length-x1) (λ _=>[]))]) ?_
 intro (l:List V2) hpre
 have hpre:0<l.length/\l.length<=1048576:=hpre
 refine AO (q:=(0<=(0:Int)/\(0:Int)<((AA l).length:Int))/\((0<(AA l).length)/\((0<=(0:Int)/\(0:Int)<((AA l).length:Int))/\((0<(AA l).length)/\((∃ x1:Nat,(x1<=l.length)/\((Value.int .i64 (((AA l).length:Nat):Int)=Value.int .i64 ((l.length:Nat):Int))/\(Value.int .i64 (0:Int)=Value.int .i64 (x1:Int))/\(rf (Value.int .i64 (0:Int)))/\(rf (Value.int .i64 (0:Int)))/\(rf (Value.int .i64 (0:Int)))/\(rf (Value.int .i64 (0:Int)))/\(Value.int .i64 ((((AA l).getD 0 []).getD 0 (.int 0))).n=Value.int .i64 ((loV l x1).1))/\(Value.int .i64 ((((AA l).getD 0 []).getD 1 (.int 0))).n=Value.int .i64 ((loV l x1).2))/\(Value.int .i64 ((((AA l).getD 0 []).getD 0 (.int 0))).n=Value.int .i64 ((hiV l x1).1))/\(Value.int .i64 ((((AA l).getD 0 []).getD 1 (.int 0))).n=Value.int .i64 ((hiV l x1).2))/\(rf (AA l))))/\∀ x1:Nat,(x1<=l.length)->(((decide ((x1:Int)<((l.length:Nat):Int)))=true->((0<=(x1:Int)/\(x1:Int)<((AA l).length:Int))/\((x1<(AA l).length)/\(∃ y2:Nat,(y2<=l.length)/\(l.length-y2<l.length-x1)/\((rf (Value.int .i64 ((l.length:Nat):Int)))/\(Value.int .i64 (IntKind.i64.wrap ((x1:Int)+(1:Int)))=Value.int .i64 (y2:Int))/\(rf (Value.int .i64 (0:Int)))/\(rf (Value.int .i64 (0:Int)))/\(rf (Value.int .i64 (0:Int)))/\(rf (Value.int .i64 (0:Int)))/\(Value.int .i64 (min ((loV l x1).1) (((((AA l).getD x1 []).getD 0 (.int 0))).n))=Value.int .i64 ((loV l y2).1))/\(Value.int .i64 (min ((loV l x1).2) (((((AA l).getD x1 []).getD 1 (.int 0))).n))=Value.int .i64 ((loV l y2).2))/\(Value.int .i64 (max ((hiV l x1).1) (((((AA l).getD x1 []).getD 0 (.int 0))).n))=Value.int .i64 ((hiV l y2).1))/\(Value.int .i64 (max ((hiV l x1).2) (((((AA l).getD x1 []).getD 1 (.int 0))).n))=Value.int .i64 ((hiV l y2).2))/\(rf (AA l)))))))/\((decide ((x1:Int)<((l.length:Nat):Int)))=false->((Value.int .i64 ((loV l x1).1)=Value.int .i64 ((loV l l.length).1))/\(Value.int .i64 ((loV l x1).2)=Value.int .i64 ((loV l l.length).2))/\(Value.int .i64 ((hiV l x1).1)=Value.int .i64 ((hiV l l.length).1))/\(Value.int .i64 ((hiV l x1).2)=Value.int .i64 ((hiV l l.length).2)))))))))) (by kernel_rfl) ?_
 have hvl:=AB l
 refine ao (a:=0<=(0:Int)/\(0:Int)<((AA l).length:Int)) (by first|rfl|omega) λ o1=>?_
 refine ao (a:=0<(AA l).length) (by first|rfl|omega) λ o2=>?_
 refine ao (a:=0<=(0:Int)/\(0:Int)<((AA l).length:Int)) (by first|rfl|omega) λ o3=>?_
 refine ao (a:=0<(AA l).length) (by first|rfl|omega) λ o4=>?_
 -- i5
 refine ⟨⟨0,by
  first|omega|trivial,?_⟩,?_⟩
 ·-- the beginning
  refine ⟨?_,rfl,rfl,rfl,rfl,rfl,?_,?_,?_,?_,rfl⟩
  ·-- b7: Value.int .i64 (((AA l).length : Nat) : Int) = Value.int .i64 ((l.length : Nat) : Int)
   show Value.int .i64 (((AA l).length:Nat):Int)=Value.int .i64 ((l.length:Nat):Int)
   first|rfl|exact AQ (by rw [hvl])|exact AQ (AT (by omega))|exact AQ (AU (by omega))
  ·-- b13: Value.int .i64 ((((AA l).getD 0 []).getD 0 (.int 0))).n = Value.int .i64 ((loV l 0).1)
   show Value.int .i64 ((((AA l).getD 0 []).getD 0 (.int 0))).n=Value.int .i64 ((loV l 0).1)
   first|rfl|exact AQ (by rw [hvl])|exact AQ (AT (by omega))|exact AQ (AU (by omega))
  ·-- b14: Value.int .i64 ((((AA l).getD 0 []).getD 1 (.int 0))).n = Value.int .i64 ((loV l 0).2)
   show Value.int .i64 ((((AA l).getD 0 []).getD 1 (.int 0))).n=Value.int .i64 ((loV l 0).2)
   first|rfl|exact AQ (by rw [hvl])|exact AQ (AT (by omega))|exact AQ (AU (by omega))
  ·-- b15: Value.int .i64 ((((AA l).getD 0 []).getD 0 (.int 0))).n = Value.int .i64 ((hiV l 0).1)
   show Value.int .i64 ((((AA l).getD 0 []).getD 0 (.int 0))).n=Value.int .i64 ((hiV l 0).1)
   first|rfl|exact AQ (by rw [hvl])|exact AQ (AT (by omega))|exact AQ (AU (by omega))
  -- b16: Value.int .i64 ((((AA l).getD 0 []).getD 1 (.int 0))).n = Value.int .i64 ((hiV l 0).2)
  show Value.int .i64 ((((AA l).getD 0 []).getD 1 (.int 0))).n=Value.int .i64 ((hiV l 0).2)
  first|rfl|exact AQ (by rw [hvl])|exact AQ (AT (by omega))|exact AQ (AU (by omega))
 intro (k:Nat) hki5
 have hki5:k<=l.length:=hki5
 refine And.symm ⟨λ c18=>?_,λ c18=>?_⟩
 ·-- c18f: (decide ((k : Int) < ((l.length : Nat) : Int))) = false
  replace c18:(decide ((k:Int)<((l.length:Nat):Int)))=false:=c18
  try simp only [nrm] at c18
  refine ⟨?_,?_,?_,?_⟩
  ·-- l35: Value.int .i64 ((loV l k).1) = Value.int .i64 ((loV l l.length).1)
   show Value.int .i64 ((loV l k).1)=Value.int .i64 ((loV l l.length).1)
   rw [show k=l.length by omega]
  ·-- l36: Value.int .i64 ((loV l k).2) = Value.int .i64 ((loV l l.length).2)
   show Value.int .i64 ((loV l k).2)=Value.int .i64 ((loV l l.length).2)
   rw [show k=l.length by omega]
  ·-- l37: Value.int .i64 ((hiV l k).1) = Value.int .i64 ((hiV l l.length).1)
   show Value.int .i64 ((hiV l k).1)=Value.int .i64 ((hiV l l.length).1)
   rw [show k=l.length by omega]
  -- l38: Value.int .i64 ((hiV l k).2) = Value.int .i64 ((hiV l l.length).2)
  show Value.int .i64 ((hiV l k).2)=Value.int .i64 ((hiV l l.length).2)
  rw [show k=l.length by omega]
 -- c18t: (decide ((k : Int) < ((l.length : Nat) : Int))) = true
 replace c18:(decide ((k:Int)<((l.length:Nat):Int)))=true:=c18
 try simp only [nrm] at c18
 refine ao (a:=0<=(k:Int)/\(k:Int)<((AA l).length:Int)) (by first|rfl|omega) λ o19=>?_
 refine ao (a:=k<(AA l).length) (by first|rfl|omega) λ o20=>?_
 -- n21
 refine ⟨k+1,by
  first|omega|trivial,by
  first|omega|(simp;omega),?_⟩
 refine ⟨rfl,?_,rfl,rfl,rfl,rfl,?_,?_,?_,?_,rfl⟩
 ·-- e25: Value.int .i64 (IntKind.i64.wrap ((k : Int) + (1 : Int))) = Value.int .i64 ((k + 1) : Int)
  show Value.int .i64 (IntKind.i64.wrap ((k:Int)+(1:Int)))=Value.int .i64 ((k+1):Int)
  first|rfl|exact AQ (by rw [AT (show k<l.length by omega)];rfl)|exact AQ (by rw [AU (show k<l.length by omega)];rfl)|exact AQ (AF (by omega) (by omega))
 ·-- e30: Value.int .i64 (min ((loV l k).1) (((((AA l).getD k []).getD 0 (.int 0))).n)) = Value.int .i64 ((loV l (k + 1)).1)
  show Value.int .i64 (min ((loV l k).1) (((((AA l).getD k []).getD 0 (.int 0))).n))=Value.int .i64 ((loV l (k+1)).1)
  first|rfl|exact AQ (by rw [AT (show k<l.length by omega)];rfl)|exact AQ (by rw [AU (show k<l.length by omega)];rfl)|exact AQ (AF (by omega) (by omega))
 ·-- e31: Value.int .i64 (min ((loV l k).2) (((((AA l).getD k []).getD 1 (.int 0))).n)) = Value.int .i64 ((loV l (k + 1)).2)
  show Value.int .i64 (min ((loV l k).2) (((((AA l).getD k []).getD 1 (.int 0))).n))=Value.int .i64 ((loV l (k+1)).2)
  first|rfl|exact AQ (by rw [AT (show k<l.length by omega)];rfl)|exact AQ (by rw [AU (show k<l.length by omega)];rfl)|exact AQ (AF (by omega) (by omega))
 ·-- e32: Value.int .i64 (max ((hiV l k).1) (((((AA l).getD k []).getD 0 (.int 0))).n)) = Value.int .i64 ((hiV l (k + 1)).1)
  show Value.int .i64 (max ((hiV l k).1) (((((AA l).getD k []).getD 0 (.int 0))).n))=Value.int .i64 ((hiV l (k+1)).1)
  first|rfl|exact AQ (by rw [AT (show k<l.length by omega)];rfl)|exact AQ (by rw [AU (show k<l.length by omega)];rfl)|exact AQ (AF (by omega) (by omega))
 -- e33: Value.int .i64 (max ((hiV l k).2) (((((AA l).getD k []).getD 1 (.int 0))).n)) = Value.int .i64 ((hiV l (k + 1)).2)
 show Value.int .i64 (max ((hiV l k).2) (((((AA l).getD k []).getD 1 (.int 0))).n))=Value.int .i64 ((hiV l (k+1)).2)
 first|rfl|exact AQ (by rw [AT (show k<l.length by omega)];rfl)|exact AQ (by rw [AU (show k<l.length by omega)];rfl)|exact AQ (AF (by omega) (by omega))
def HU:Con:={ ι:=(List V2),pre:=λ i=>AI i=true,args:=λ i=>[.one (.sl 26 [.int,.int] (AA i))],res:=λ i=>⟨true,[some 2,some 2,none],[.im (Value.int .i64 ((loV i i.length).1)),.im (Value.int .i64 ((loV i i.length).2)),.im (Value.int .i64 ((hiV i i.length).1)),.im (Value.int .i64 ((hiV i i.length).2)),.im (Value.bool true)]⟩ }
theorem Vk:HU.Ok Tryz.prog 9:=by
 refine fok (X:=⟨tt,[(24,AY),(26,Dj)],[],19,[]⟩) mixed AP (CTok.cons Ca (CTok.cons Qm (CTok.nil _))) Tryz.func9 (λ _=>[]) ?_
 intro (l:List V2) hpre
 have hpre:AI l=true:=hpre
 refine AO (q:=∃ i1:(List V2),[DA.one (DC.sl 26 [.int,.int] (AA l))]=AY.args i1/\AY.pre i1/\(((!(AI i1))=true->((Value.int .i64 (0:Int)=Value.int .i64 ((loV l l.length).1))/\(Value.int .i64 (0:Int)=Value.int .i64 ((loV l l.length).2))/\(Value.int .i64 (0:Int)=Value.int .i64 ((hiV l l.length).1))/\(Value.int .i64 (0:Int)=Value.int .i64 ((hiV l l.length).2))/\(Value.bool false=Value.bool true)))/\((!(AI i1))=false->(∃ i2:(List V2),[DA.one (DC.sl 26 [.int,.int] (AA l))]=Dj.args i2/\Dj.pre i2/\((Value.int .i64 ((loV i2 i2.length).1)=Value.int .i64 ((loV l l.length).1))/\(Value.int .i64 ((loV i2 i2.length).2)=Value.int .i64 ((loV l l.length).2))/\(Value.int .i64 ((hiV i2 i2.length).1)=Value.int .i64 ((hiV l l.length).1))/\(Value.int .i64 ((hiV i2 i2.length).2)=Value.int .i64 ((hiV l l.length).2))/\(Value.bool true=Value.bool true)))))) (by kernel_rfl) ?_
 have hp:=Cu hpre
 -- w1: iIsPoly [DA.one (DC.sl 26 [.int, .int] (AA l))]
 refine ⟨l,by
  rfl,by
  first|trivial|omega,?_⟩
 refine And.symm ⟨λ c4=>?_,λ c4=>?_⟩
 ·-- c4f: (!(AI l)) = false
  replace c4:(!(AI l))=false:=c4
  try simp only [nrm] at c4
  -- w10: widF [DA.one (DC.sl 26 [.int, .int] (AA l))]
  refine ⟨l,by
   rfl,by
   show 0<l.length/\l.length<=1048576
   first|trivial|omega,?_⟩
  exact ⟨rfl,rfl,rfl,rfl,rfl⟩
 -- c4t: (!(AI l)) = true
 replace c4:(!(AI l))=true:=c4
 try simp only [nrm] at c4
 refine ⟨?_,?_,?_,?_,?_⟩
 ·-- l5: Value.int .i64 (0 : Int) = Value.int .i64 ((loV l l.length).1)
  show Value.int .i64 (0:Int)=Value.int .i64 ((loV l l.length).1)
  first|rfl|(rw [hpre] at c4;cases c4)
 ·-- l6: Value.int .i64 (0 : Int) = Value.int .i64 ((loV l l.length).2)
  show Value.int .i64 (0:Int)=Value.int .i64 ((loV l l.length).2)
  first|rfl|(rw [hpre] at c4;cases c4)
 ·-- l7: Value.int .i64 (0 : Int) = Value.int .i64 ((hiV l l.length).1)
  show Value.int .i64 (0:Int)=Value.int .i64 ((hiV l l.length).1)
  first|rfl|(rw [hpre] at c4;cases c4)
 ·-- l8: Value.int .i64 (0 : Int) = Value.int .i64 ((hiV l l.length).2)
  show Value.int .i64 (0:Int)=Value.int .i64 ((hiV l l.length).2)
  first|rfl|(rw [hpre] at c4;cases c4)
 -- l9: Value.bool false = Value.bool true
 show Value.bool false=Value.bool true
 first|rfl|(rw [hpre] at c4;cases c4)
def HW:Con:={ ι:=(List V2),pre:=λ i=>AI i=true,args:=λ i=>[.one (.sl 26 [.int,.int] (AA i))],res:=λ i=>⟨false,[none],[.own 26 [.int,.int] (AA (B9 i))]⟩ }
theorem Vl:HW.Ok Tryz.prog 10:=by
 refine fok (X:=⟨tt,[(24,AY),(26,Dj),(19,Cd),(21,A0)],[],27,[]⟩) mixed AP (CTok.cons Ca (CTok.cons Qm (CTok.cons OM (CTok.cons Gf (CTok.nil _))))) Tryz.func10 (λ _=>[]) ?_
 intro (l:List V2) hpre
 have hpre:AI l=true:=hpre
 refine AO (q:=∃ i1:(List V2),[DA.one (DC.sl 26 [.int,.int] (AA l))]=AY.args i1/\AY.pre i1/\(((!(AI i1))=true->((([]:List (List Dat))=AA (B9 l))))/\((!(AI i1))=false->(∃ i2:(List V2),[DA.one (DC.sl 26 [.int,.int] (AA l))]=Dj.args i2/\Dj.pre i2/\(∃ i3:(List V2)×Int×Int,[DA.one (DC.sl 26 [.int,.int] (AA l)),DA.agg [cI (IntKind.i64.wrap (0-((loV i2 i2.length).1))),cI (IntKind.i64.wrap (0-((loV i2 i2.length).2)))]]=Cd.args i3/\Cd.pre i3/\(∃ i4:(List V2),[DA.one (DC.sl 26 [.int,.int] (AA (Al i3.1 i3.2.1 i3.2.2)))]=A0.args i4/\A0.pre i4/\(((!(i4.all AE))=true->((([]:List (List Dat))=AA (B9 l))))/\((!(i4.all AE))=false->((AA (Al i3.1 i3.2.1 i3.2.2)=AA (B9 l))))))))))) (by kernel_rfl) ?_
 have hp:=Cu hpre
 have hb:=UV hp.2.2 (show 0<l.length by omega) l.length (Nat.le_refl _)
 have hw1:IntKind.i64.wrap (0-(loV l l.length).1)=-(loV l l.length).1:=by rw [AF (by omega) (by omega)];omega
 have hw2:IntKind.i64.wrap (0-(loV l l.length).2)=-(loV l l.length).2:=by rw [AF (by omega) (by omega)];omega
 -- w1: iIsPoly [DA.one (DC.sl 26 [.int, .int] (AA l))]
 refine ⟨l,by
  rfl,by
  first|trivial|omega,?_⟩
 refine ⟨λ c4=>?_,λ c4=>?_⟩
 ·-- c4t: (!(AI l)) = true
  replace c4:(!(AI l))=true:=c4
  try simp only [nrm] at c4
  -- l5: ([] : List (List Dat)) = AA (B9 l)
  show ([]:List (List Dat))=AA (B9 l)
  first|rfl|(rw [hpre] at c4;cases c4;done)|(rw [hw1,hw2] at c15;unfold B9;rw [if_neg (by rw [c15];simp)];rfl)|(rw [hw1,hw2] at c15;rw [hw1,hw2];unfold B9;rw [if_pos ⟨hpre,c15⟩])
 -- c4f: (!(AI l)) = false
 replace c4:(!(AI l))=false:=c4
 try simp only [nrm] at c4
 -- w6: widF [DA.one (DC.sl 26 [.int, .int] (AA l))]
 refine ⟨l,by
  rfl,by
  show 0<l.length/\l.length<=1048576
  first|trivial|omega,?_⟩
 -- w9: moved [DA.one (DC.sl 26 [.int, .int] (AA l)), DA.agg [DC.im (Value.int .i64 (IntKind.i64.wrap (0 - ((loV l l.length).1)))), DC.im (Value.int .i64 (IntKind.i64.wrap (0 - ((loV l l.length).2))))]]
 refine ⟨(l,(IntKind.i64.wrap (0-((loV l l.length).1))),(IntKind.i64.wrap (0-((loV l l.length).2)))),by
  rfl,by
  show l.length<=1048576
  first|trivial|omega,?_⟩
 -- w12: areVecs [DA.one (DC.sl 26 [.int, .int] (AA (Al l (IntKind.i64.wrap (0 - ((loV l l.length).1))) (IntKind.i64.wrap (0 - ((loV l l.length).2))))))]
 refine ⟨(Al l (IntKind.i64.wrap (0-((loV l l.length).1))) (IntKind.i64.wrap (0-((loV l l.length).2)))),by
  rfl,by
  first|trivial|omega,?_⟩
 refine ⟨λ c15=>?_,λ c15=>?_⟩
 ·-- c15t: (!((Al l (IntKind.i64.wrap (0 - ((loV l l.length).1))) (IntKind.i64.wrap (0 - ((loV l l.length).2)))).all AE)) = true
  replace c15:(!((Al l (IntKind.i64.wrap (0-((loV l l.length).1))) (IntKind.i64.wrap (0-((loV l l.length).2)))).all AE))=true:=c15
  try simp only [nrm] at c15
  -- l16: ([] : List (List Dat)) = AA (B9 l)
  show ([]:List (List Dat))=AA (B9 l)
  first|rfl|(rw [hpre] at c4;cases c4;done)|(rw [hw1,hw2] at c15;unfold B9;rw [if_neg (by rw [c15];simp)];rfl)|(rw [hw1,hw2] at c15;rw [hw1,hw2];unfold B9;rw [if_pos ⟨hpre,c15⟩])
 -- c15f: (!((Al l (IntKind.i64.wrap (0 - ((loV l l.length).1))) (IntKind.i64.wrap (0 - ((loV l l.length).2)))).all AE)) = false
 replace c15:(!((Al l (IntKind.i64.wrap (0-((loV l l.length).1))) (IntKind.i64.wrap (0-((loV l l.length).2)))).all AE))=false:=c15
 try simp only [nrm] at c15
 -- l17: AA (Al l (IntKind.i64.wrap (0 - ((loV l l.length).1))) (IntKind.i64.wrap (0 - ((loV l l.length).2)))) = AA (B9 l)
 show AA (Al l (IntKind.i64.wrap (0-((loV l l.length).1))) (IntKind.i64.wrap (0-((loV l l.length).2))))=AA (B9 l)
 first|rfl|(rw [hpre] at c4;cases c4;done)|(rw [hw1,hw2] at c15;unfold B9;rw [if_neg (by rw [c15];simp)];rfl)|(rw [hw1,hw2] at c15;rw [hw1,hw2];unfold B9;rw [if_pos ⟨hpre,c15⟩])
end Go.Proofs.YtdgmbbjoifneiaaGreatDoor
