import Derived.Test.YtcpjekkiejhgpaaGreatDoorPsPar
import Derived.Test.YtcpjekkiejhgpaaGreatDoorPsRkS2
namespace Go.Proofs.YtcpjekkiejhgpaaGreatDoor
set_option linter.unusedVariables false
set_option linter.unusedSimpArgs false
def AN (t:ByteArray):List ByteArray:=if (AB 10 t).getD ((AB 10 t).length-1) ⟨#[]⟩=(⟨#[]⟩:ByteArray) then (AB 10 t).take ((AB 10 t).length-1) else AB 10 t
def kwA:ByteArray:=⟨#[114,111,111,109]⟩
def kwB:ByteArray:=⟨#[114,111,98,111,116]⟩
def kwC:ByteArray:=⟨#[111,98,115,116,97,99,108,101]⟩
def kwD:ByteArray:=⟨#[116,97,98,108,101]⟩
def C5:Scn:=⟨(0,0),(0,0),[],[],[]⟩
def rdI (s:Scn) (l:ByteArray):Scn:=
 if Au l 32=kwA then ⟨vOf (Au (Ao l 32) 32),vOf (Ao (Ao l 32) 32),s.robot,s.obst,s.tables⟩
 else if Au l 32=kwB then ⟨s.low,s.high,CJ (Ao l 32),s.obst,s.tables⟩
 else if Au l 32=kwC then ⟨s.low,s.high,s.robot,s.obst++[CJ (Ao l 32)],s.tables⟩
 else if Au l 32=kwD then ⟨s.low,s.high,s.robot,s.obst,s.tables++[vOf (Ao l 32)]⟩
 else s
def okL (l:ByteArray):Bool:=
 if Au l 32=kwA then okV (Au (Ao l 32) 32) && okV (Ao (Ao l 32) 32)
 else if Au l 32=kwB then okP (Ao l 32)
 else if Au l 32=kwC then okP (Ao l 32)
 else if Au l 32=kwD then okV (Ao l 32)
 else false
def wd (l:ByteArray) (k:Nat):ByteArray:=(AB 32 l).getD k ⟨#[]⟩
def CK (l:ByteArray):ByteArray:=A8 ((AB 32 l).drop 1) ⟨#[32]⟩
def rdR (s:Scn) (l:ByteArray):Scn:=
 if wd l 0=kwA/\(AB 32 l).length=3 then ⟨vOf (wd l 1),vOf (wd l 2),s.robot,s.obst,s.tables⟩
 else if wd l 0=kwB then ⟨s.low,s.high,CJ (CK l),s.obst,s.tables⟩
 else if wd l 0=kwC then ⟨s.low,s.high,s.robot,s.obst++[CJ (CK l)],s.tables⟩
 else if wd l 0=kwD then ⟨s.low,s.high,s.robot,s.obst,s.tables++[vOf (CK l)]⟩
 else s
def stI (t:ByteArray) (k:Nat):Scn:=((AN t).take k).foldl rdI C5
def stR (t:ByteArray) (k:Nat):Scn:=((AN t).take k).foldl rdR C5
def okT (t:ByteArray):Bool:=(AN t).all okL && (AS (stI t (AN t).length) && decide (A7 (stI t (AN t).length)=t))
def Ab (t:ByteArray):Scn:=if okT t=true then stI t (AN t).length else C5
theorem AL {t:ByteArray} (h:okT t=true):Ab t=stI t (AN t).length:=if_pos h
theorem AJ {t:ByteArray} (h:okT t=false):Ab t=C5:=if_neg (by rw [h];simp)
def lnA (s:Scn):ByteArray:=kwA++⟨#[32]⟩++(Ak s.low++⟨#[32]⟩++Ak s.high)
def lnB (l:List V2):ByteArray:=kwB++⟨#[32]⟩++Ay l
def lnC (l:List V2):ByteArray:=kwC++⟨#[32]⟩++Ay l
def lnD (v:V2):ByteArray:=kwD++⟨#[32]⟩++Ak v
def CN (s:Scn):List ByteArray:=lnA s::lnB s.robot::(s.obst.map lnC++s.tables.map lnD)
theorem Fl {v:V2} {c:UInt8} (h:¬ isD c) (h1:c.toNat≠45) (h2:c≠44):c ∉ (Ak v).data.toList:=by
 unfold Ak
 rw [Ar,Ar]
 simp only [List.mem_append,not_or]
 refine ⟨⟨GJ h1 h,?_⟩,GJ h1 h⟩
 show c ∉ [44]
 simpa using h2
theorem Jr {c:UInt8} {s:List UInt8} (hs:c ∉ s):∀ {ws:List (List UInt8)},(∀ w ∈ ws,c ∉ w)->c ∉ Lib.join ws s
 | [],_=>by simp [Lib.join_nil]
 | [x],h=>by rw [Lib.join_one];exact h x (by simp)
 | x::y::r,h=>by
  have e:Lib.join (x::y::r) s=x++(s++Lib.join (y::r) s):=by
   rw [Lib.join_cons,Lib.join_cons]
   simp [Lib.joinTail]
  rw [e]
  simp only [List.mem_append,not_or]
  exact ⟨h x (by simp),hs,Jr hs λ w hw=>h w (List.mem_cons_of_mem _ hw)⟩
theorem OF {l:List V2} {c:UInt8} (h:¬ isD c) (h1:c.toNat≠45) (h2:c≠44) (h3:c≠32):c ∉ (Ay l).data.toList:=by
 show c ∉ (Cc (An l) ⟨#[32]⟩).toArray.toList
 rw [List.toList_toArray]
 unfold Cc
 refine Jr (by show c ∉ [32];simpa using h3) λ w hw=>?_
 obtain ⟨x,hx,rfl⟩:=List.mem_map.1 hw
 obtain ⟨v,-,rfl⟩:=List.mem_map.1 hx
 exact Fl h h1 h2
theorem Is {c:UInt8} : ∀ {ws:List (List UInt8)},(∀ w ∈ ws,c ∉ w)->Db c ((ws.map (·++[c])).flatten)=ws++[[]]
 | [],_=>by simp [BT]
 | x::r,h=>by
  rw [List.map_cons,List.flatten_cons,List.append_assoc,List.singleton_append,CI (h x (by simp)),Is λ w hw=>h w (List.mem_cons_of_mem _ hw)]
  rfl
theorem GN {α:Type} (f:α->ByteArray):∀ (l:List α) (t:ByteArray),(l.foldl (λ t v=>t++f v) t).data.toList=t.data.toList++(l.map λ v=>(f v).data.toList).flatten
 | [],t=>by simp
 | x::r,t=>by
  rw [List.foldl_cons,GN f r,Ar];simp
theorem Fm (s:Scn):(A7 s).data.toList=(((CN s).map (·.data.toList)).map (·++[10])).flatten:=by
 unfold A7 Dd Dq
 rw [List.take_length,List.take_length,GN,GN]
 unfold CN Ls
 have e1:Pb.data.toList=10::(kwB++(⟨#[32]⟩:ByteArray)).data.toList:=by decide
 have e2:QY.data.toList=(kwA++(⟨#[32]⟩:ByteArray)).data.toList:=by decide
 have e3:Lr.data.toList=(kwC++(⟨#[32]⟩:ByteArray)).data.toList:=by decide
 have e4:In.data.toList=(kwD++(⟨#[32]⟩:ByteArray)).data.toList:=by decide
 have e5:nlS.data.toList=[10]:=rfl
 simp only [List.map_cons,List.map_append,List.map_map,List.flatten_cons,List.flatten_append,Ar,lnA,lnB,e1,e2,e5]
 have f1:((λ x=>x++[10])∘(λ x:ByteArray=>x.data.toList)∘lnC)=λ p:List V2=>Lr.data.toList++(Ay p).data.toList++[10]:=by
  funext p;simp only [Function.comp,lnC,Ar,e3]
 have f2:((λ x=>x++[10])∘(λ x:ByteArray=>x.data.toList)∘lnD)=λ v:V2=>In.data.toList++(Ak v).data.toList++[10]:=by
  funext p;simp only [Function.comp,lnD,Ar,e4]
 rw [f1,f2]
 simp [blS]
theorem It:¬ isD (10:UInt8)/\(10:UInt8).toNat≠45/\(10:UInt8)≠44/\(10:UInt8)≠32:=by unfold isD;decide
theorem Js:¬ isD (32:UInt8)/\(32:UInt8).toNat≠45/\(32:UInt8)≠44:=by unfold isD;decide
theorem Mo (s:Scn):∀ l ∈ CN s,(10:UInt8) ∉ l.data.toList:=by
 have hv:∀ v:V2,(10:UInt8) ∉ (Ak v).data.toList:=λ v=>Fl It.1 It.2.1 It.2.2.1
 have hp:∀ l:List V2,(10:UInt8) ∉ (Ay l).data.toList:=λ l=>OF It.1 It.2.1 It.2.2.1 It.2.2.2
 intro l hl
 have ha:(10:UInt8) ∉ (kwA++(⟨#[32]⟩:ByteArray)).data.toList:=by decide
 have hb:(10:UInt8) ∉ (kwB++(⟨#[32]⟩:ByteArray)).data.toList:=by decide
 have hc:(10:UInt8) ∉ (kwC++(⟨#[32]⟩:ByteArray)).data.toList:=by decide
 have hd:(10:UInt8) ∉ (kwD++(⟨#[32]⟩:ByteArray)).data.toList:=by decide
 have h32:(10:UInt8) ∉ (⟨#[32]⟩:ByteArray).data.toList:=by decide
 simp only [CN,List.mem_cons,List.mem_append,List.mem_map] at hl
 rcases hl with rfl|rfl|⟨p,-,rfl⟩|⟨v,-,rfl⟩
 ·unfold lnA;rw [Ar,List.mem_append,not_or]
  refine ⟨ha,?_⟩
  rw [Ar,Ar,List.mem_append,List.mem_append,not_or,not_or]
  exact ⟨⟨hv _,h32⟩,hv _⟩
 ·unfold lnB;rw [Ar,List.mem_append,not_or];exact ⟨hb,hp _⟩
 ·unfold lnC;rw [Ar,List.mem_append,not_or];exact ⟨hc,hp _⟩
 ·unfold lnD;rw [Ar,List.mem_append,not_or];exact ⟨hd,hv _⟩
theorem Lv (s:Scn):AN (A7 s)=CN s:=by
 have h:AB 10 (A7 s)=CN s++[⟨#[]⟩]:=by
  unfold AB
  rw [Fm,Is (λ w hw=>by obtain ⟨l,hl,rfl⟩:=List.mem_map.1 hw;exact Mo s l hl),List.map_append,List.map_map]
  have:(ofB∘λ x:ByteArray=>x.data.toList)=id:=by funext x;exact Do x
  rw [this]
  simp [ofB]
 unfold AN
 rw [h]
 have e:(CN s++[(⟨#[]⟩:ByteArray)]).length-1=(CN s).length:=by simp
 rw [e,if_pos (by simp [List.getD])]
 simp
theorem CA {v:V2} (h:AX v=true):okV (Ak v)=true/\vOf (Ak v)=v:=Ad (Ij.2 ⟨h,rfl⟩)
theorem FH {l:List V2} (h:l≠[]):AB 32 (Ay l)=An l:=by
 unfold AB
 have e:(Ay l).data.toList=Lib.join ((An l).map (·.data.toList)) [32]:=by
  show (Cc (An l) ⟨#[32]⟩).toArray.toList=_
  rw [List.toList_toArray];rfl
 rw [e,Ih (by simpa [An] using h) (λ w hw=>by
  obtain ⟨x,hx,rfl⟩:=List.mem_map.1 hw
  obtain ⟨v,-,rfl⟩:=List.mem_map.1 hx
  exact Fl Js.1 Js.2.1 Js.2.2),List.map_map]
 have:(ofB∘λ x:ByteArray=>x.data.toList)=id:=by funext x;exact Do x
 rw [this];simp
theorem De {l:List V2} (h:Ae l=true):okP (Ay l)=true/\CJ (Ay l)=l:=by
 obtain ⟨h1,-,h3⟩:=Bz h
 have hw:=FH (l:=l) (by intro e;subst e;simp at h1)
 have hm:(An l).map vOf=l:=by
  unfold An
  rw [List.map_map]
  conv=>rhs;rw [← List.map_id l]
  refine List.map_congr_left λ v hv=>?_
  exact (CA (List.all_eq_true.1 h3 v hv)).2
 have ha:(An l).all okV=true:=by
  rw [List.all_eq_true]
  intro x hx
  obtain ⟨v,hv,rfl⟩:=List.mem_map.1 hx
  exact (CA (List.all_eq_true.1 h3 v hv)).1
 have ho:okP (Ay l)=true:=by unfold okP;rw [hw,ha,hm,h];rfl
 exact ⟨ho,by rw [A2 ho,hw,hm]⟩
theorem DG:(32:UInt8) ∉ kwA.data.toList/\(32:UInt8) ∉ kwB.data.toList/\(32:UInt8) ∉ kwC.data.toList/\(32:UInt8) ∉ kwD.data.toList:=by decide
theorem Lw:kwB≠kwA/\kwC≠kwA/\kwD≠kwA/\kwC≠kwB/\kwD≠kwB/\kwD≠kwC:=by decide
theorem Cl {a b:ByteArray} {c:UInt8} (h:c ∉ a.data.toList):AB c (a++⟨#[c]⟩++b)=a::AB c b:=by
 unfold AB
 have e:(a++⟨#[c]⟩++b).data.toList=a.data.toList++c::b.data.toList:=by rw [Ar,Ar];simp
 rw [e,CI h,List.map_cons,Do]
theorem GO {a:ByteArray} {c:UInt8} (h:c ∉ a.data.toList):AB c a=[a]:=by
 unfold AB;rw [BT h,List.map_cons,List.map_nil,Do]
theorem KQ (v:V2):(32:UInt8) ∉ (Ak v).data.toList:=Fl Js.1 Js.2.1 Js.2.2
theorem join_one (a:ByteArray):A8 [a] ⟨#[32]⟩=a:=by
 apply bx
 show (Cc [a] ⟨#[32]⟩).toArray.toList=_
 rw [List.toList_toArray]
 unfold Cc
 rw [List.map_cons,List.map_nil,Lib.join_one]
theorem rdA {s0 s:Scn} (h1:AX s.low=true) (h2:AX s.high=true):rdI s0 (lnA s)=⟨s.low,s.high,s0.robot,s0.obst,s0.tables⟩/\okL (lnA s)=true/\rdR s0 (lnA s)=⟨s.low,s.high,s0.robot,s0.obst,s0.tables⟩:=by
 obtain ⟨c1,c2,-⟩:=GK (a:=kwA) (b:=Ak s.low++⟨#[32]⟩++Ak s.high) DG.1
 obtain ⟨d1,d2,-⟩:=GK (a:=Ak s.low) (b:=Ak s.high) (KQ _)
 have hw:AB 32 (lnA s)=[kwA,Ak s.low,Ak s.high]:=by unfold lnA;rw [Cl DG.1,Cl (KQ _),GO (KQ _)]
 refine ⟨?_,?_,?_⟩
 ·unfold rdI lnA;rw [c1,c2,d1,d2,if_pos rfl,(CA h1).2,(CA h2).2]
 ·unfold okL lnA;rw [c1,c2,d1,d2,if_pos rfl,(CA h1).1,(CA h2).1];rfl
 ·unfold rdR wd;rw [hw,if_pos ⟨rfl,rfl⟩]
  show (⟨vOf (Ak s.low),vOf (Ak s.high),s0.robot,s0.obst,s0.tables⟩:Scn)=_
  rw [(CA h1).2,(CA h2).2]
theorem rdB {s0:Scn} {l:List V2} (h:Ae l=true):rdI s0 (lnB l)=⟨s0.low,s0.high,l,s0.obst,s0.tables⟩/\okL (lnB l)=true/\rdR s0 (lnB l)=⟨s0.low,s0.high,l,s0.obst,s0.tables⟩:=by
 obtain ⟨c1,c2,-⟩:=GK (a:=kwB) (b:=Ay l) DG.2.1
 have hl:l≠[]:=λ e=>by have:=(Bz h).1;rw [e] at this;simp at this
 have hw:AB 32 (lnB l)=kwB::An l:=by unfold lnB;rw [Cl DG.2.1,FH hl]
 have h0:wd (lnB l) 0=kwB:=by unfold wd;rw [hw];rfl
 have hr:CK (lnB l)=Ay l:=by unfold CK;rw [hw];rfl
 refine ⟨?_,?_,?_⟩
 ·unfold rdI lnB;rw [c1,c2,if_neg Lw.1,if_pos rfl,(De h).2]
 ·unfold okL lnB;rw [c1,c2,if_neg Lw.1,if_pos rfl,(De h).1]
 ·unfold rdR;rw [h0,hr,if_neg λ e=>Lw.1 e.1,if_pos rfl,(De h).2]
theorem rdC {s0:Scn} {l:List V2} (h:Ae l=true):rdI s0 (lnC l)=⟨s0.low,s0.high,s0.robot,s0.obst++[l],s0.tables⟩/\okL (lnC l)=true/\rdR s0 (lnC l)=⟨s0.low,s0.high,s0.robot,s0.obst++[l],s0.tables⟩:=by
 obtain ⟨c1,c2,-⟩:=GK (a:=kwC) (b:=Ay l) DG.2.2.1
 have hl:l≠[]:=λ e=>by have:=(Bz h).1;rw [e] at this;simp at this
 have hw:AB 32 (lnC l)=kwC::An l:=by unfold lnC;rw [Cl DG.2.2.1,FH hl]
 have h0:wd (lnC l) 0=kwC:=by unfold wd;rw [hw];rfl
 have hr:CK (lnC l)=Ay l:=by unfold CK;rw [hw];rfl
 obtain ⟨n1,n2,n3,n4,n5,n6⟩:=Lw
 refine ⟨?_,?_,?_⟩
 ·unfold rdI lnC;rw [c1,c2,if_neg n2,if_neg n4,if_pos rfl,(De h).2]
 ·unfold okL lnC;rw [c1,c2,if_neg n2,if_neg n4,if_pos rfl,(De h).1]
 ·unfold rdR;rw [h0,hr,if_neg λ e=>n2 e.1,if_neg n4,if_pos rfl,(De h).2]
theorem rdD {s0:Scn} {v:V2} (h:AX v=true):rdI s0 (lnD v)=⟨s0.low,s0.high,s0.robot,s0.obst,s0.tables++[v]⟩/\okL (lnD v)=true/\rdR s0 (lnD v)=⟨s0.low,s0.high,s0.robot,s0.obst,s0.tables++[v]⟩:=by
 obtain ⟨c1,c2,-⟩:=GK (a:=kwD) (b:=Ak v) DG.2.2.2
 have hw:AB 32 (lnD v)=[kwD,Ak v]:=by unfold lnD;rw [Cl DG.2.2.2,GO (KQ _)]
 have h0:wd (lnD v) 0=kwD:=by unfold wd;rw [hw];rfl
 have hr:CK (lnD v)=Ak v:=by unfold CK;rw [hw];exact join_one _
 obtain ⟨n1,n2,n3,n4,n5,n6⟩:=Lw
 refine ⟨?_,?_,?_⟩
 ·unfold rdI lnD;rw [c1,c2,if_neg n3,if_neg n5,if_neg n6,if_pos rfl,(CA h).2]
 ·unfold okL lnD;rw [c1,c2,if_neg n3,if_neg n5,if_neg n6,if_pos rfl,(CA h).1]
 ·unfold rdR;rw [h0,hr,if_neg λ e=>n3 e.1,if_neg n5,if_neg n6,if_pos rfl,(CA h).2]
theorem Pe (f:Scn->ByteArray->Scn) (hf:∀ (s0:Scn) (l:List V2),Ae l=true->f s0 (lnC l)=⟨s0.low,s0.high,s0.robot,s0.obst++[l],s0.tables⟩):∀ (L:List (List V2)) (s0:Scn),(∀ l ∈ L,Ae l=true)->(L.map lnC).foldl f s0=⟨s0.low,s0.high,s0.robot,s0.obst++L,s0.tables⟩
 | [],s0,_=>by simp
 | l::r,s0,h=>by
  rw [List.map_cons,List.foldl_cons,hf s0 l (h l (by simp)),Pe f hf r _ λ x hx=>h x (List.mem_cons_of_mem _ hx)]
  simp
theorem Pf (f:Scn->ByteArray->Scn) (hf:∀ (s0:Scn) (v:V2),AX v=true->f s0 (lnD v)=⟨s0.low,s0.high,s0.robot,s0.obst,s0.tables++[v]⟩):∀ (L:List V2) (s0:Scn),(∀ l ∈ L,AX l=true)->(L.map lnD).foldl f s0=⟨s0.low,s0.high,s0.robot,s0.obst,s0.tables++L⟩
 | [],s0,_=>by simp
 | l::r,s0,h=>by
  rw [List.map_cons,List.foldl_cons,hf s0 l (h l (by simp)),Pf f hf r _ λ x hx=>h x (List.mem_cons_of_mem _ hx)]
  simp
theorem OG {s:Scn} (h:AS s=true):AX s.low=true/\AX s.high=true/\Ae s.robot=true/\(∀ l ∈ s.obst,Ae l=true)/\∀ v ∈ s.tables,AX v=true:=by
 obtain ⟨h1,h2,-,-,-,h4⟩:=HQ h
 obtain ⟨h5,h6⟩:=Ir h
 refine ⟨h1,h2,h5,λ l hl=>?_,λ v hv=>?_⟩
 ·obtain ⟨k,hk,rfl⟩:=List.mem_iff_getElem.1 hl
  have:=h6 k hk
  simpa [List.getD,hk] using this
 ·obtain ⟨k,hk,rfl⟩:=List.mem_iff_getElem.1 hv
  have:=h4 k hk
  simpa [List.getD,hk] using this
theorem GP {s:Scn} (h:AS s=true):stI (A7 s) (AN (A7 s)).length=s/\(AN (A7 s)).all okL=true/\stR (A7 s) (AN (A7 s)).length=s:=by
 obtain ⟨h1,h2,h3,h4,h5⟩:=OG h
 unfold stI stR
 rw [List.take_length,Lv]
 unfold CN
 refine ⟨?_,?_,?_⟩
 ·rw [List.foldl_cons,List.foldl_cons,List.foldl_append,(rdA h1 h2).1,(rdB h3).1,Pe rdI (λ s0 l hl=>(rdC hl).1) _ _ h4,Pf rdI (λ s0 l hl=>(rdD hl).1) _ _ h5]
  rfl
 ·rw [List.all_cons,List.all_cons,List.all_append,(rdA (s0:=C5) h1 h2).2.1,(rdB (s0:=C5) h3).2.1]
  have e1:(s.obst.map lnC).all okL=true:=by
   rw [List.all_eq_true];intro x hx;obtain ⟨l,hl,rfl⟩:=List.mem_map.1 hx;exact (rdC (s0:=C5) (h4 l hl)).2.1
  have e2:(s.tables.map lnD).all okL=true:=by
   rw [List.all_eq_true];intro x hx;obtain ⟨l,hl,rfl⟩:=List.mem_map.1 hx;exact (rdD (s0:=C5) (h5 l hl)).2.1
  rw [e1,e2];rfl
 ·rw [List.foldl_cons,List.foldl_cons,List.foldl_append,(rdA h1 h2).2.2,(rdB h3).2.2,Pe rdR (λ s0 l hl=>(rdC hl).2.2) _ _ h4,Pf rdR (λ s0 l hl=>(rdD hl).2.2) _ _ h5]
  rfl
theorem KR {t:ByteArray} : okT t=true↔∃ s,AS s=true/\A7 s=t:=by
 constructor
 ·intro h
  simp only [okT,Bool.and_eq_true,decide_eq_true_eq] at h
  exact ⟨_,h.2.1,h.2.2⟩
 ·rintro ⟨s,hv,rfl⟩
  obtain ⟨h1,h2,-⟩:=GP hv
  unfold okT
  rw [h1,h2,hv]
  simp
theorem Pg {t:ByteArray} {k:Nat} (hk:k<(AN t).length) (h:okL ((AN t).getD k ⟨#[]⟩)=false):okT t=false:=by
 have h2:(AN t).all okL=false:=by
  rw [List.all_eq_false]
  refine ⟨(AN t)[k],List.getElem_mem hk,?_⟩
  have e:(AN t).getD k ⟨#[]⟩=(AN t)[k]:=by simp [List.getD,hk]
  rw [← e,h];simp
 unfold okT;rw [h2];rfl
theorem Lx {t:ByteArray} (h:AS (stI t (AN t).length)=false):okT t=false:=by unfold okT;rw [h];simp
theorem OH {t:ByteArray} (h:A7 (stI t (AN t).length)≠t):okT t=false:=by unfold okT;rw [decide_eq_false h];simp
theorem QJ {t:ByteArray} (h1:AS (stI t (AN t).length)=true) (h2:A7 (stI t (AN t).length)=t):okT t=true:=KR.2 ⟨_,h1,h2⟩
theorem NT {t:ByteArray} (h:B8 (stR t (AN t).length)=(⟨#[]⟩:ByteArray)∨B8 (stR t (AN t).length)≠t):okT t=false:=by
 cases ho:okT t with
 | false=>rfl
 | true=>
  exfalso
  obtain ⟨s,hv,rfl⟩:=KR.1 ho
  rw [(GP hv).2.2,EK hv] at h
  rcases h with h|h
  ·have hs:=congrArg (λ x:ByteArray=>x.data.toList) h
   simp only [Fm,CN,List.map_cons,List.flatten_cons,lnA,Ar] at hs
   have:kwA.data.toList=114::[111,111,109]:=rfl
   rw [this] at hs
   simp at hs
  ·exact h rfl
theorem Ph {t:ByteArray} (h1:¬ B8 (stR t (AN t).length)=(⟨#[]⟩:ByteArray)) (h2:B8 (stR t (AN t).length)=t):okT t=true/\stR t (AN t).length=Ab t:=by
 have hv:AS (stR t (AN t).length)=true:=by
  cases hq:AS (stR t (AN t).length) with
  | true=>rfl
  | false=>exact absurd (Iq hq) h1
 rw [EK hv] at h2
 have ho:=KR.2 ⟨_,hv,h2⟩
 refine ⟨ho,?_⟩
 rw [AL ho]
 have:=(GP hv).1
 rw [h2] at this
 exact this.symm
theorem Fo {t:ByteArray} {k:Nat} (hk:k<(AN t).length):stI t (k+1)=rdI (stI t k) ((AN t).getD k ⟨#[]⟩):=by
 unfold stI
 rw [List.take_succ_eq_append_getElem hk,List.foldl_append]
 simp [List.getD,hk]
theorem EL {t:ByteArray} {k:Nat} (hk:k<(AN t).length):stR t (k+1)=rdR (stR t k) ((AN t).getD k ⟨#[]⟩):=by
 unfold stR
 rw [List.take_succ_eq_append_getElem hk,List.foldl_append]
 simp [List.getD,hk]
end Go.Proofs.YtcpjekkiejhgpaaGreatDoor
