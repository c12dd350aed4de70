import Derived.Test.YtmekciknfocmmaaGreatDoorScPar
import Derived.Test.YtmekciknfocmmaaGreatDoorScRkS2
namespace Go.Proofs.YtmekciknfocmmaaGreatDoor
set_option linter.unusedVariables false
set_option linter.unusedSimpArgs false
def AS (t:ByteArray):List ByteArray:=if (AI 10 t).getD ((AI 10 t).length-1) ⟨#[]⟩=(⟨#[]⟩:ByteArray) then (AI 10 t).take ((AI 10 t).length-1) else AI 10 t
def kwA:ByteArray:=⟨#[114,111,111,109]⟩
def kwB:ByteArray:=⟨#[114,111,98,111,116]⟩
def kwC:ByteArray:=⟨#[111,98,115,116,97,99,108,101]⟩
def kwD:ByteArray:=⟨#[116,97,98,108,101]⟩
def ET:Scn:=⟨(0,0),(0,0),[],[],[]⟩
def rdI (s:Scn) (l:ByteArray):Scn:=
 if Aq l 32=kwA then ⟨vOf (Aq (Ag l 32) 32),vOf (Ag (Ag l 32) 32),s.robot,s.obst,s.tables⟩
 else if Aq l 32=kwB then ⟨s.low,s.high,Ey (Ag l 32),s.obst,s.tables⟩
 else if Aq l 32=kwC then ⟨s.low,s.high,s.robot,s.obst++[Ey (Ag l 32)],s.tables⟩
 else if Aq l 32=kwD then ⟨s.low,s.high,s.robot,s.obst,s.tables++[vOf (Ag l 32)]⟩
 else s
def okL (l:ByteArray):Bool:=
 if Aq l 32=kwA then okV (Aq (Ag l 32) 32) && okV (Ag (Ag l 32) 32)
 else if Aq l 32=kwB then okP (Ag l 32)
 else if Aq l 32=kwC then okP (Ag l 32)
 else if Aq l 32=kwD then okV (Ag l 32)
 else false
def wd (l:ByteArray) (k:Nat):ByteArray:=(AI 32 l).getD k ⟨#[]⟩
def K6 (l:ByteArray):ByteArray:=EQ ((AI 32 l).drop 1) ⟨#[32]⟩
def rdR (s:Scn) (l:ByteArray):Scn:=
 if wd l 0=kwA/\(AI 32 l).length=3 then ⟨vOf (wd l 1),vOf (wd l 2),s.robot,s.obst,s.tables⟩
 else if wd l 0=kwB then ⟨s.low,s.high,Ey (K6 l),s.obst,s.tables⟩
 else if wd l 0=kwC then ⟨s.low,s.high,s.robot,s.obst++[Ey (K6 l)],s.tables⟩
 else if wd l 0=kwD then ⟨s.low,s.high,s.robot,s.obst,s.tables++[vOf (K6 l)]⟩
 else s
def stI (t:ByteArray) (k:Nat):Scn:=((AS t).take k).foldl rdI ET
def stR (t:ByteArray) (k:Nat):Scn:=((AS t).take k).foldl rdR ET
def okT (t:ByteArray):Bool:=(AS t).all okL && (AG (stI t (AS t).length) && decide (Ab (stI t (AS t).length)=t))
def Bc (t:ByteArray):Scn:=if okT t=true then stI t (AS t).length else ET
theorem AF {t:ByteArray} (h:okT t=true):Bc t=stI t (AS t).length:=if_pos h
theorem AJ {t:ByteArray} (h:okT t=false):Bc t=ET:=if_neg (by rw [h];simp)
def lnA (s:Scn):ByteArray:=kwA++⟨#[32]⟩++(Ai s.low++⟨#[32]⟩++Ai s.high)
def lnB (l:List V2):ByteArray:=kwB++⟨#[32]⟩++A3 l
def lnC (l:List V2):ByteArray:=kwC++⟨#[32]⟩++A3 l
def lnD (v:V2):ByteArray:=kwD++⟨#[32]⟩++Ai v
def Ca (s:Scn):List ByteArray:=lnA s::lnB s.robot::(s.obst.map lnC++s.tables.map lnD)
theorem F6 {v:V2} {c:UInt8} (h:¬ isD c) (h1:c.toNat≠45) (h2:c≠44):c ∉ (Ai v).data.toList:=by
 unfold Ai
 rw [BN,BN]
 simp only [List.mem_append,not_or]
 refine ⟨⟨Gj h1 h,?_⟩,Gj h1 h⟩
 show c ∉ [44]
 simpa using h2
theorem KQ {c:UInt8} {s:List UInt8} (hs:c ∉ s):∀ {ws:List (List UInt8)},(∀ w ∈ ws,c ∉ w)->c ∉ Lib.join ws s
 | [],_=>by simp [Lib.join_nil]
 | [x],h=>by rw [Lib.join_one];exact h x (by simp)
 | x::y::r,h=>by
  have e:Lib.join (x::y::r) s=x++(s++Lib.join (y::r) s):=by
   rw [Lib.join_cons,Lib.join_cons]
   simp [Lib.joinTail]
  rw [e]
  simp only [List.mem_append,not_or]
  exact ⟨h x (by simp),hs,KQ hs λ w hw=>h w (List.mem_cons_of_mem _ hw)⟩
theorem Ph {l:List V2} {c:UInt8} (h:¬ isD c) (h1:c.toNat≠45) (h2:c≠44) (h3:c≠32):c ∉ (A3 l).data.toList:=by
 show c ∉ (D5 (A2 l) ⟨#[32]⟩).toArray.toList
 rw [List.toList_toArray]
 unfold D5
 refine KQ (by show c ∉ [32];simpa using h3) λ w hw=>?_
 obtain ⟨x,hx,rfl⟩:=List.mem_map.1 hw
 obtain ⟨v,-,rfl⟩:=List.mem_map.1 hx
 exact F6 h h1 h2
theorem JG {c:UInt8} : ∀ {ws:List (List UInt8)},(∀ w ∈ ws,c ∉ w)->E9 c ((ws.map (·++[c])).flatten)=ws++[[]]
 | [],_=>by simp [C0]
 | x::r,h=>by
  rw [List.map_cons,List.flatten_cons,List.append_assoc,List.singleton_append,Dw (h x (by simp)),JG λ w hw=>h w (List.mem_cons_of_mem _ hw)]
  rfl
theorem Gm {α:Type} (f:α->ByteArray):∀ (l:List α) (t:ByteArray),(l.foldl (λ t v=>t++f v) t).data.toList=t.data.toList++(l.map λ v=>(f v).data.toList).flatten
 | [],t=>by simp
 | x::r,t=>by
  rw [List.foldl_cons,Gm f r,BN];simp
theorem K7 (s:Scn):(Ab s).data.toList=(((Ca s).map (·.data.toList)).map (·++[10])).flatten:=by
 unfold Ab MZ JY
 rw [List.take_length,List.take_length,Gm,Gm]
 unfold Ca MY
 have e1:RQ.data.toList=10::(kwB++(⟨#[32]⟩:ByteArray)).data.toList:=by decide
 have e2:Sc.data.toList=(kwA++(⟨#[32]⟩:ByteArray)).data.toList:=by decide
 have e3:MX.data.toList=(kwC++(⟨#[32]⟩:ByteArray)).data.toList:=by decide
 have e4:JB.data.toList=(kwD++(⟨#[32]⟩:ByteArray)).data.toList:=by decide
 have e5:nlS.data.toList=[10]:=rfl
 simp only [List.map_cons,List.map_append,List.map_map,List.flatten_cons,List.flatten_append,BN,lnA,lnB,e1,e2,e5]
 have f1:((λ x=>x++[10])∘(λ x:ByteArray=>x.data.toList)∘lnC)=λ p:List V2=>MX.data.toList++(A3 p).data.toList++[10]:=by
  funext p;simp only [Function.comp,lnC,BN,e3]
 have f2:((λ x=>x++[10])∘(λ x:ByteArray=>x.data.toList)∘lnD)=λ v:V2=>JB.data.toList++(Ai v).data.toList++[10]:=by
  funext p;simp only [Function.comp,lnD,BN,e4]
 rw [f1,f2]
 simp [blS]
theorem JH:¬ isD (10:UInt8)/\(10:UInt8).toNat≠45/\(10:UInt8)≠44/\(10:UInt8)≠32:=by unfold isD;decide
theorem KR:¬ isD (32:UInt8)/\(32:UInt8).toNat≠45/\(32:UInt8)≠44:=by unfold isD;decide
theorem Nw (s:Scn):∀ l ∈ Ca s,(10:UInt8) ∉ l.data.toList:=by
 have hv:∀ v:V2,(10:UInt8) ∉ (Ai v).data.toList:=λ v=>F6 JH.1 JH.2.1 JH.2.2.1
 have hp:∀ l:List V2,(10:UInt8) ∉ (A3 l).data.toList:=λ l=>Ph JH.1 JH.2.1 JH.2.2.1 JH.2.2.2
 intro l hl
 have ha:(10:UInt8) ∉ (kwA++(⟨#[32]⟩:ByteArray)).data.toList:=by decide
 have hb:(10:UInt8) ∉ (kwB++(⟨#[32]⟩:ByteArray)).data.toList:=by decide
 have hc:(10:UInt8) ∉ (kwC++(⟨#[32]⟩:ByteArray)).data.toList:=by decide
 have hd:(10:UInt8) ∉ (kwD++(⟨#[32]⟩:ByteArray)).data.toList:=by decide
 have h32:(10:UInt8) ∉ (⟨#[32]⟩:ByteArray).data.toList:=by decide
 simp only [Ca,List.mem_cons,List.mem_append,List.mem_map] at hl
 rcases hl with rfl|rfl|⟨p,-,rfl⟩|⟨v,-,rfl⟩
 ·unfold lnA;rw [BN,List.mem_append,not_or]
  refine ⟨ha,?_⟩
  rw [BN,BN,List.mem_append,List.mem_append,not_or,not_or]
  exact ⟨⟨hv _,h32⟩,hv _⟩
 ·unfold lnB;rw [BN,List.mem_append,not_or];exact ⟨hb,hp _⟩
 ·unfold lnC;rw [BN,List.mem_append,not_or];exact ⟨hc,hp _⟩
 ·unfold lnD;rw [BN,List.mem_append,not_or];exact ⟨hd,hv _⟩
theorem Ma (s:Scn):AS (Ab s)=Ca s:=by
 have h:AI 10 (Ab s)=Ca s++[⟨#[]⟩]:=by
  unfold AI
  rw [K7,JG (λ w hw=>by obtain ⟨l,hl,rfl⟩:=List.mem_map.1 hw;exact Nw s l hl),List.map_append,List.map_map]
  have:(ofB∘λ x:ByteArray=>x.data.toList)=id:=by funext x;exact ER x
  rw [this]
  simp [ofB]
 unfold AS
 rw [h]
 have e:(Ca s++[(⟨#[]⟩:ByteArray)]).length-1=(Ca s).length:=by simp
 rw [e,if_pos (by simp [List.getD])]
 simp
theorem B8 {v:V2} (h:AH v=true):okV (Ai v)=true/\vOf (Ai v)=v:=Aa (RF.2 ⟨h,rfl⟩)
theorem FT {l:List V2} (h:l≠[]):AI 32 (A3 l)=A2 l:=by
 unfold AI
 have e:(A3 l).data.toList=Lib.join ((A2 l).map (·.data.toList)) [32]:=by
  show (D5 (A2 l) ⟨#[32]⟩).toArray.toList=_
  rw [List.toList_toArray];rfl
 rw [e,I3 (by simpa [A2] using h) (λ w hw=>by
  obtain ⟨x,hx,rfl⟩:=List.mem_map.1 hw
  obtain ⟨v,-,rfl⟩:=List.mem_map.1 hx
  exact F6 KR.1 KR.2.1 KR.2.2),List.map_map]
 have:(ofB∘λ x:ByteArray=>x.data.toList)=id:=by funext x;exact ER x
 rw [this];simp
theorem Dk {l:List V2} (h:AX l=true):okP (A3 l)=true/\Ey (A3 l)=l:=by
 obtain ⟨h1,-,h3⟩:=CQ h
 have hw:=FT (l:=l) (by intro e;subst e;simp at h1)
 have hm:(A2 l).map vOf=l:=by
  unfold A2
  rw [List.map_map]
  conv=>rhs;rw [← List.map_id l]
  refine List.map_congr_left λ v hv=>?_
  exact (B8 (List.all_eq_true.1 h3 v hv)).2
 have ha:(A2 l).all okV=true:=by
  rw [List.all_eq_true]
  intro x hx
  obtain ⟨v,hv,rfl⟩:=List.mem_map.1 hx
  exact (B8 (List.all_eq_true.1 h3 v hv)).1
 have ho:okP (A3 l)=true:=by unfold okP;rw [hw,ha,hm,h];rfl
 exact ⟨ho,by rw [B7 ho,hw,hm]⟩
theorem DL:(32:UInt8) ∉ kwA.data.toList/\(32:UInt8) ∉ kwB.data.toList/\(32:UInt8) ∉ kwC.data.toList/\(32:UInt8) ∉ kwD.data.toList:=by decide
theorem Mb:kwB≠kwA/\kwC≠kwA/\kwD≠kwA/\kwC≠kwB/\kwD≠kwB/\kwD≠kwC:=by decide
theorem Dl {a b:ByteArray} {c:UInt8} (h:c ∉ a.data.toList):AI c (a++⟨#[c]⟩++b)=a::AI c b:=by
 unfold AI
 have e:(a++⟨#[c]⟩++b).data.toList=a.data.toList++c::b.data.toList:=by rw [BN,BN];simp
 rw [e,Dw h,List.map_cons,ER]
theorem KS {a:ByteArray} {c:UInt8} (h:c ∉ a.data.toList):AI c a=[a]:=by
 unfold AI;rw [C0 h,List.map_cons,List.map_nil,ER]
theorem K8 (v:V2):(32:UInt8) ∉ (Ai v).data.toList:=F6 KR.1 KR.2.1 KR.2.2
theorem join_one (a:ByteArray):EQ [a] ⟨#[32]⟩=a:=by
 apply bx
 show (D5 [a] ⟨#[32]⟩).toArray.toList=_
 rw [List.toList_toArray]
 unfold D5
 rw [List.map_cons,List.map_nil,Lib.join_one]
theorem rdA {s0 s:Scn} (h1:AH s.low=true) (h2:AH s.high=true):rdI s0 (lnA s)=⟨s.low,s.high,s0.robot,s0.obst,s0.tables⟩/\okL (lnA s)=true/\rdR s0 (lnA s)=⟨s.low,s.high,s0.robot,s0.obst,s0.tables⟩:=by
 obtain ⟨c1,c2,-⟩:=Gk (a:=kwA) (b:=Ai s.low++⟨#[32]⟩++Ai s.high) DL.1
 obtain ⟨d1,d2,-⟩:=Gk (a:=Ai s.low) (b:=Ai s.high) (K8 _)
 have hw:AI 32 (lnA s)=[kwA,Ai s.low,Ai s.high]:=by unfold lnA;rw [Dl DL.1,Dl (K8 _),KS (K8 _)]
 refine ⟨?_,?_,?_⟩
 ·unfold rdI lnA;rw [c1,c2,d1,d2,if_pos rfl,(B8 h1).2,(B8 h2).2]
 ·unfold okL lnA;rw [c1,c2,d1,d2,if_pos rfl,(B8 h1).1,(B8 h2).1];rfl
 ·unfold rdR wd;rw [hw,if_pos ⟨rfl,rfl⟩]
  show (⟨vOf (Ai s.low),vOf (Ai s.high),s0.robot,s0.obst,s0.tables⟩:Scn)=_
  rw [(B8 h1).2,(B8 h2).2]
theorem rdB {s0:Scn} {l:List V2} (h:AX l=true):rdI s0 (lnB l)=⟨s0.low,s0.high,l,s0.obst,s0.tables⟩/\okL (lnB l)=true/\rdR s0 (lnB l)=⟨s0.low,s0.high,l,s0.obst,s0.tables⟩:=by
 obtain ⟨c1,c2,-⟩:=Gk (a:=kwB) (b:=A3 l) DL.2.1
 have hl:l≠[]:=λ e=>by have:=(CQ h).1;rw [e] at this;simp at this
 have hw:AI 32 (lnB l)=kwB::A2 l:=by unfold lnB;rw [Dl DL.2.1,FT hl]
 have h0:wd (lnB l) 0=kwB:=by unfold wd;rw [hw];rfl
 have hr:K6 (lnB l)=A3 l:=by unfold K6;rw [hw];rfl
 refine ⟨?_,?_,?_⟩
 ·unfold rdI lnB;rw [c1,c2,if_neg Mb.1,if_pos rfl,(Dk h).2]
 ·unfold okL lnB;rw [c1,c2,if_neg Mb.1,if_pos rfl,(Dk h).1]
 ·unfold rdR;rw [h0,hr,if_neg λ e=>Mb.1 e.1,if_pos rfl,(Dk h).2]
theorem rdC {s0:Scn} {l:List V2} (h:AX l=true):rdI s0 (lnC l)=⟨s0.low,s0.high,s0.robot,s0.obst++[l],s0.tables⟩/\okL (lnC l)=true/\rdR s0 (lnC l)=⟨s0.low,s0.high,s0.robot,s0.obst++[l],s0.tables⟩:=by
 obtain ⟨c1,c2,-⟩:=Gk (a:=kwC) (b:=A3 l) DL.2.2.1
 have hl:l≠[]:=λ e=>by have:=(CQ h).1;rw [e] at this;simp at this
 have hw:AI 32 (lnC l)=kwC::A2 l:=by unfold lnC;rw [Dl DL.2.2.1,FT hl]
 have h0:wd (lnC l) 0=kwC:=by unfold wd;rw [hw];rfl
 have hr:K6 (lnC l)=A3 l:=by unfold K6;rw [hw];rfl
 obtain ⟨n1,n2,n3,n4,n5,n6⟩:=Mb
 refine ⟨?_,?_,?_⟩
 ·unfold rdI lnC;rw [c1,c2,if_neg n2,if_neg n4,if_pos rfl,(Dk h).2]
 ·unfold okL lnC;rw [c1,c2,if_neg n2,if_neg n4,if_pos rfl,(Dk h).1]
 ·unfold rdR;rw [h0,hr,if_neg λ e=>n2 e.1,if_neg n4,if_pos rfl,(Dk h).2]
theorem rdD {s0:Scn} {v:V2} (h:AH v=true):rdI s0 (lnD v)=⟨s0.low,s0.high,s0.robot,s0.obst,s0.tables++[v]⟩/\okL (lnD v)=true/\rdR s0 (lnD v)=⟨s0.low,s0.high,s0.robot,s0.obst,s0.tables++[v]⟩:=by
 obtain ⟨c1,c2,-⟩:=Gk (a:=kwD) (b:=Ai v) DL.2.2.2
 have hw:AI 32 (lnD v)=[kwD,Ai v]:=by unfold lnD;rw [Dl DL.2.2.2,KS (K8 _)]
 have h0:wd (lnD v) 0=kwD:=by unfold wd;rw [hw];rfl
 have hr:K6 (lnD v)=Ai v:=by unfold K6;rw [hw];exact join_one _
 obtain ⟨n1,n2,n3,n4,n5,n6⟩:=Mb
 refine ⟨?_,?_,?_⟩
 ·unfold rdI lnD;rw [c1,c2,if_neg n3,if_neg n5,if_neg n6,if_pos rfl,(B8 h).2]
 ·unfold okL lnD;rw [c1,c2,if_neg n3,if_neg n5,if_neg n6,if_pos rfl,(B8 h).1]
 ·unfold rdR;rw [h0,hr,if_neg λ e=>n3 e.1,if_neg n5,if_neg n6,if_pos rfl,(B8 h).2]
theorem RU (f:Scn->ByteArray->Scn) (hf:∀ (s0:Scn) (l:List V2),AX l=true->f s0 (lnC l)=⟨s0.low,s0.high,s0.robot,s0.obst++[l],s0.tables⟩):∀ (L:List (List V2)) (s0:Scn),(∀ l ∈ L,AX l=true)->(L.map lnC).foldl f s0=⟨s0.low,s0.high,s0.robot,s0.obst++L,s0.tables⟩
 | [],s0,_=>by simp
 | l::r,s0,h=>by
  rw [List.map_cons,List.foldl_cons,hf s0 l (h l (by simp)),RU f hf r _ λ x hx=>h x (List.mem_cons_of_mem _ hx)]
  simp
theorem RV (f:Scn->ByteArray->Scn) (hf:∀ (s0:Scn) (v:V2),AH v=true->f s0 (lnD v)=⟨s0.low,s0.high,s0.robot,s0.obst,s0.tables++[v]⟩):∀ (L:List V2) (s0:Scn),(∀ l ∈ L,AH l=true)->(L.map lnD).foldl f s0=⟨s0.low,s0.high,s0.robot,s0.obst,s0.tables++L⟩
 | [],s0,_=>by simp
 | l::r,s0,h=>by
  rw [List.map_cons,List.foldl_cons,hf s0 l (h l (by simp)),RV f hf r _ λ x hx=>h x (List.mem_cons_of_mem _ hx)]
  simp
theorem Pi {s:Scn} (h:AG s=true):AH s.low=true/\AH s.high=true/\AX s.robot=true/\(∀ l ∈ s.obst,AX l=true)/\∀ v ∈ s.tables,AH v=true:=by
 obtain ⟨h1,h2,-,-,-,h4⟩:=K3 h
 obtain ⟨h5,h6⟩:=Nv h
 refine ⟨h1,h2,h5,λ l hl=>?_,λ v hv=>?_⟩
 ·obtain ⟨k,hk,rfl⟩:=List.mem_iff_getElem.1 hl
  have:=h6 k hk
  simpa [List.getD,hk] using this
 ·obtain ⟨k,hk,rfl⟩:=List.mem_iff_getElem.1 hv
  have:=h4 k hk
  simpa [List.getD,hk] using this
theorem KT {s:Scn} (h:AG s=true):stI (Ab s) (AS (Ab s)).length=s/\(AS (Ab s)).all okL=true/\stR (Ab s) (AS (Ab s)).length=s:=by
 obtain ⟨h1,h2,h3,h4,h5⟩:=Pi h
 unfold stI stR
 rw [List.take_length,Ma]
 unfold Ca
 refine ⟨?_,?_,?_⟩
 ·rw [List.foldl_cons,List.foldl_cons,List.foldl_append,(rdA h1 h2).1,(rdB h3).1,RU rdI (λ s0 l hl=>(rdC hl).1) _ _ h4,RV rdI (λ s0 l hl=>(rdD hl).1) _ _ h5]
  rfl
 ·rw [List.all_cons,List.all_cons,List.all_append,(rdA (s0:=ET) h1 h2).2.1,(rdB (s0:=ET) h3).2.1]
  have e1:(s.obst.map lnC).all okL=true:=by
   rw [List.all_eq_true];intro x hx;obtain ⟨l,hl,rfl⟩:=List.mem_map.1 hx;exact (rdC (s0:=ET) (h4 l hl)).2.1
  have e2:(s.tables.map lnD).all okL=true:=by
   rw [List.all_eq_true];intro x hx;obtain ⟨l,hl,rfl⟩:=List.mem_map.1 hx;exact (rdD (s0:=ET) (h5 l hl)).2.1
  rw [e1,e2];rfl
 ·rw [List.foldl_cons,List.foldl_cons,List.foldl_append,(rdA h1 h2).2.2,(rdB h3).2.2,RU rdR (λ s0 l hl=>(rdC hl).2.2) _ _ h4,RV rdR (λ s0 l hl=>(rdD hl).2.2) _ _ h5]
  rfl
theorem SE {t:ByteArray} : okT t=true↔∃ s,AG s=true/\Ab s=t:=by
 constructor
 ·intro h
  simp only [okT,Bool.and_eq_true,decide_eq_true_eq] at h
  exact ⟨_,h.2.1,h.2.2⟩
 ·rintro ⟨s,hv,rfl⟩
  obtain ⟨h1,h2,-⟩:=KT hv
  unfold okT
  rw [h1,h2,hv]
  simp
theorem RW {t:ByteArray} {k:Nat} (hk:k<(AS t).length) (h:okL ((AS t).getD k ⟨#[]⟩)=false):okT t=false:=by
 have h2:(AS t).all okL=false:=by
  rw [List.all_eq_false]
  refine ⟨(AS t)[k],List.getElem_mem hk,?_⟩
  have e:(AS t).getD k ⟨#[]⟩=(AS t)[k]:=by simp [List.getD,hk]
  rw [← e,h];simp
 unfold okT;rw [h2];rfl
theorem Mc {t:ByteArray} (h:AG (stI t (AS t).length)=false):okT t=false:=by unfold okT;rw [h];simp
theorem Pj {t:ByteArray} (h:Ab (stI t (AS t).length)≠t):okT t=false:=by unfold okT;rw [decide_eq_false h];simp
theorem SF {t:ByteArray} (h1:AG (stI t (AS t).length)=true) (h2:Ab (stI t (AS t).length)=t):okT t=true:=SE.2 ⟨_,h1,h2⟩
theorem F7 {t:ByteArray} {k:Nat} (hk:k<(AS t).length):stI t (k+1)=rdI (stI t k) ((AS t).getD k ⟨#[]⟩):=by
 unfold stI
 rw [List.take_succ_eq_append_getElem hk,List.foldl_append]
 simp [List.getD,hk]
end Go.Proofs.YtmekciknfocmmaaGreatDoor
