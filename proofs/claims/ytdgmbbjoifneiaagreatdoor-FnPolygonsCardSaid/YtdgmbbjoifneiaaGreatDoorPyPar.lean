import Derived.Test.YtdgmbbjoifneiaaGreatDoorPyRkS1
import Derived.Lib.AtoiAll
import Derived.Lib.AtoiAllCases
import Derived.Lib.IndexMore
import Derived.Lib.IndexLaws
import Derived.Lib.CountLaws
import Derived.Lib.Split
namespace Go.Proofs.YtdgmbbjoifneiaaGreatDoor
set_option linter.unusedVariables false
set_option linter.unusedSimpArgs false
open Go.RowKit
def Bu (c:UInt8) (p:List (List UInt8)×List UInt8) (b:UInt8):List (List UInt8)×List UInt8:=if b=c then (p.1++[p.2],[]) else (p.1,p.2++[b])
def CS (c:UInt8) (l:List UInt8):List (List UInt8)×List UInt8:=l.foldl (Bu c) ([],[])
def HO (c:UInt8) (l:List UInt8):List (List UInt8):=(CS c l).1++[(CS c l).2]
theorem Df (c:UInt8):∀ (l:List UInt8) (o:List (List UInt8)) (u:List UInt8),c ∉ u->l.foldl (Bu c) (o,u)=(o++(match l.foldl (Bu c) ([],[]) with|([],v)=>[]|(x::r,v)=>(u++x)::r),(match l.foldl (Bu c) ([],[]) with|([],v)=>u++v|(_::_,v)=>v))
 | [],o,u,_=>by simp
 | b::l,o,u,hu=>by
  simp only [List.foldl_cons]
  by_cases h:b=c
  ·have e1:Bu c (o,u) b=(o++[u],[]):=if_pos h
   have e2:Bu c ([],[]) b=([[]],[]):=if_pos h
   rw [e1,e2,Df c l (o++[u]) [] (by simp),Df c l [[]] [] (by simp)]
   cases hq:l.foldl (Bu c) ([],[]) with
   | mk a v=>cases a <;> simp
  ·have e1:Bu c (o,u) b=(o,u++[b]):=if_neg h
   have e2:Bu c ([],[]) b=([],[b]):=if_neg h
   have hn:c ∉ u++[b]:=by
    simp only [List.mem_append,List.mem_singleton,not_or]
    exact ⟨hu,λ e=>h e.symm⟩
   rw [e1,e2,Df c l o (u++[b]) hn,Df c l [] [b] (by simp;exact λ e=>h e.symm)]
   cases hq:l.foldl (Bu c) ([],[]) with
   | mk a v=>cases a <;> simp
theorem Gc {c:UInt8} : ∀ {l:List UInt8} (o:List (List UInt8)) (u:List UInt8),c ∉ l->l.foldl (Bu c) (o,u)=(o,u++l)
 | [],o,u,_=>by simp
 | b::l,o,u,h=>by
  simp only [List.mem_cons,not_or] at h
  have e1:Bu c (o,u) b=(o,u++[b]):=if_neg λ e=>h.1 e.symm
  rw [List.foldl_cons,e1,Gc o _ h.2]
  simp
theorem Gd {c:UInt8} {l:List UInt8} (h:c ∉ l):HO c l=[l]:=by
 unfold HO CS
 rw [Gc _ _ h];simp
theorem KF {c:UInt8} {a l:List UInt8} (h:c ∉ a):HO c (a++c::l)=a::HO c l:=by
 unfold HO CS
 rw [List.foldl_append,Gc _ _ h,List.foldl_cons]
 have e1:Bu c (([],[]++a):List (List UInt8)×List UInt8) c=([a],[]):=by simp [Bu]
 rw [e1,Df c l [a] [] (by simp)]
 cases hq:l.foldl (Bu c) ([],[]) with
 | mk x v=>cases x <;> simp
theorem KG {c:UInt8} : ∀ {ws:List (List UInt8)},ws≠[]->(∀ w ∈ ws,c ∉ w)->HO c (Lib.join ws [c])=ws
 | [],h,_=>absurd rfl h
 | [x],_,hw=>by rw [Lib.join_one];exact Gd (hw x (by simp))
 | x::y::r,_,hw=>by
  have e:Lib.join (x::y::r) [c]=x++c::Lib.join (y::r) [c]:=by
   rw [Lib.join_cons,Lib.join_cons]
   simp [Lib.joinTail]
  rw [e,KF (hw x (by simp)),KG (by simp) λ w h=>hw w (List.mem_cons_of_mem _ h)]
theorem KH {c:UInt8} {l:List UInt8} (h:c ∈ l):∃ a b,l=a++c::b/\c ∉ a:=by
 induction l with
 | nil=>simp at h
 | cons x r ih=>
  by_cases e:x=c
  ·exact ⟨[],r,by simp [e],by simp⟩
  ·have hr:c ∈ r:=by
    rcases List.mem_cons.1 h with h|h
    ·exact absurd h.symm e
    ·exact h
   obtain ⟨a,b,h1,h2⟩:=ih hr
   exact ⟨x::a,b,by simp [h1],by simp only [List.mem_cons,not_or];exact ⟨λ q=>e q.symm,h2⟩⟩
theorem Cx {c:UInt8} : ∀ {a b:List UInt8},c ∉ a->Lib.indexByte (a++c::b) c=a.length
 | [],b,_=>by simp [Lib.indexByte]
 | x::a,b,h=>by
  simp only [List.mem_cons,not_or] at h
  have ih:=Cx (b:=b) h.2
  have hx:(x == c)=false:=by simpa using λ e=>h.1 e.symm
  simp only [List.cons_append,Lib.indexByte,hx,ih]
  simp
theorem Dg {c:UInt8} : ∀ {a:List UInt8},c ∉ a->Lib.indexByte a c=-1
 | [],_=>by simp [Lib.indexByte]
 | x::a,h=>by
  simp only [List.mem_cons,not_or] at h
  have ih:=Dg h.2
  have hx:(x == c)=false:=by simpa using λ e=>h.1 e.symm
  simp only [Lib.indexByte,hx,ih]
  simp
theorem T6 {c:UInt8} {s:List UInt8} (h:c ∉ s):Lib.cut s [c]=(s,[],false):=by
 unfold Lib.cut
 rw [Lib.index_one,Dg h];simp
theorem Qi {c:UInt8} {a b:List UInt8} (h:c ∉ a):Lib.cut (a++c::b) [c]=(a,b,true):=by
 unfold Lib.cut
 rw [Lib.index_one,Cx h];simp
theorem OD (c : UInt8) : ∀ (n : Nat) (s : ByteArray), s.size ≤ n → (Lib.splitB ⟨#[c]⟩ 0 (Lib.countB s ⟨#[c]⟩) s).map (·.data.toList) = HO c s.data.toList := by
  intro n
  induction n with
  | zero =>
    intro s hs
    have h0 : s.data.toList = [] := List.eq_nil_of_length_eq_zero (by have : s.data.toList.length = s.size := rfl; omega)
    have hm : Lib.indexB s ⟨#[c]⟩ = -1 := by
      show Lib.index s.data.toList [c] = -1
      rw [h0]; rfl
    rw [Lib.countB_miss _ _ hm, Lib.splitB_zero]
    rw [List.map_cons, List.map_nil, Gd (by rw [h0]; simp)]
  | succ n ih =>
    intro s hs
    by_cases hc : c ∈ s.data.toList
    · obtain ⟨a, b, e, ha⟩ := KH hc
      have hi : Lib.indexB s ⟨#[c]⟩ = (a.length : Nat) := by
        show Lib.index s.data.toList [c] = _
        rw [Lib.index_one, e, Cx ha]
      have hsz : s.size = a.length + 1 + b.length := by
        have : s.size = s.data.toList.length := rfl
        rw [this, e]; simp; omega
      have h1 : (⟨#[c]⟩ : ByteArray).size = 1 := rfl
      rw [Lib.countB_hit s _ _ (by rw [h1]; omega) hi, Nat.add_comm, Lib.splitB_hit _ _ _ _ _ hi, List.map_cons, e, KF ha, h1]
      have e1 : (s.extract 0 (a.length + 0)).data.toList = a := by
        simp [ByteArray.data_extract, e]
      have e2 : (s.extract (a.length + 1) s.size).data.toList = b := by
        have : s.data.toList.extract (a.length + 1) s.size = b := by
          rw [e, hsz]; simp [List.extract, List.drop_append]; rw [List.drop_eq_nil_of_le (by omega)]; simp
        simpa [ByteArray.data_extract] using this
      rw [e1, ih _ (by have : (s.extract (a.length + 1) s.size).size = b.length := by (show (s.extract (a.length + 1) s.size).data.toList.length = b.length); rw [e2]
                       omega), e2]
    · have hm : Lib.indexB s ⟨#[c]⟩ = -1 := by
        show Lib.index s.data.toList [c] = -1
        rw [Lib.index_one, Dg hc]
      rw [Lib.countB_miss _ _ hm, Lib.splitB_zero, List.map_cons, List.map_nil, Gd hc]
def isD (c:UInt8):Prop:=48<=c.toNat/\c.toNat<=57
def dvF (v:Nat) (l:List UInt8):Nat:=l.foldl (λ v c=>v*10+(c.toNat-48)) v
theorem Vg (v:Nat) (a b:List UInt8):dvF v (a++b)=dvF (dvF v a) b:=List.foldl_append
theorem T7:∀ (l:List UInt8) (v:Nat),v<=dvF v l
 | [],v=>Nat.le_refl _
 | c::l,v=>by
  have:=T7 l (v*10+(c.toNat-48))
  show v<=dvF (v*10+(c.toNat-48)) l
  omega
theorem Qj {d:Nat} (h:d<10):isD (UInt8.ofNat (48+d))/\(UInt8.ofNat (48+d)).toNat-48=d:=by
 have:(UInt8.ofNat (48+d)).toNat=48+d:=by rw [UInt8.toNat_ofNat'];omega
 unfold isD
 omega
theorem I5 (u:Nat):(∀ c ∈ Lib.decDigits u,isD c)/\Lib.decDigits u≠[]/\dvF 0 (Lib.decDigits u)=u:=by
 induction u using Nat.strongRecOn with
 | ind u ih=>
  rw [Lib.decDigits]
  split
  ·rename_i h
   have hd:=Qj h
   refine ⟨λ c hc=>by rw [List.mem_singleton.1 hc];exact hd.1,by simp,?_⟩
   show 0*10+((UInt8.ofNat (48+u)).toNat-48)=u
   omega
  ·rename_i h
   obtain ⟨i1,i2,i3⟩:=ih (u/10) (by omega)
   have hd:=Qj (Nat.mod_lt u (show 10>0 by omega))
   refine ⟨λ c hc=>?_,by simp,?_⟩
   ·rcases List.mem_append.1 hc with hc|hc
    ·exact i1 c hc
    ·rw [List.mem_singleton.1 hc];exact hd.1
   ·rw [Vg,i3]
    show u/10*10+((UInt8.ofNat (48+u%10)).toNat-48)=u
    omega
theorem MO:∀ (l:List UInt8) (acc:Nat),(∀ c ∈ l,isD c)->dvF acc l<18446744073709551616->Lib.parseUint10 acc l=.ok (dvF acc l)
 | [],acc,_,_=>rfl
 | c::l,acc,hd,h=>by
  have hc:=hd c (by simp)
  unfold isD at hc
  have h2:dvF (acc*10+(c.toNat-48)) l<18446744073709551616:=h
  have h3:=T7 l (acc*10+(c.toNat-48))
  rw [Lib.parseUint10,if_pos hc,if_neg (by omega),if_neg (by omega),MO l _ (λ x hx=>hd x (List.mem_cons_of_mem _ hx)) h2]
  rfl
theorem R0 {v:Int} (h0:-9223372036854775808<=v) (h1:v<=9223372036854775807):Lib.atoiAll (Lib.itoa v)=.ok v:=by
 unfold Lib.itoa
 split
 ·rename_i hn
  obtain ⟨d1,d2,d3⟩:=I5 v.natAbs
  have hp:Lib.parseMag (Lib.decDigits v.natAbs)=.ok v.natAbs:=by
   unfold Lib.parseMag
   rw [if_neg d2,MO _ _ d1 (by rw [d3];omega),d3]
  have e45:(45:UInt8).toNat=45:=rfl
  simp only [Lib.atoiAll]
  rw [if_pos (.inr rfl),hp]
  simp only
  rw [if_neg (by omega),if_neg (by omega),if_pos e45]
  congr 1
  omega
 ·rename_i hn
  obtain ⟨d1,d2,d3⟩:=I5 v.toNat
  have hp:Lib.parseMag (Lib.decDigits v.toNat)=.ok v.toNat:=by
   unfold Lib.parseMag
   rw [if_neg d2,MO _ _ d1 (by rw [d3];omega),d3]
  cases hl:Lib.decDigits v.toNat with
  | nil=>exact absurd hl d2
  | cons c r=>
   have hc:=d1 c (by rw [hl];simp)
   unfold isD at hc
   rw [hl] at hp
   simp only [Lib.atoiAll]
   rw [if_neg (by omega),hp]
   simp only
   rw [if_neg (by omega),if_neg (by omega),if_neg (by omega)]
   congr 1
   omega
theorem IE {v:Int} {c:UInt8} (h:c.toNat≠45) (h2:¬ isD c):c ∉ Lib.itoa v:=by
 unfold Lib.itoa
 intro hm
 split at hm
 ·rcases List.mem_cons.1 hm with hm|hm
  ·exact h (by rw [hm];rfl)
  ·exact h2 ((I5 _).1 c hm)
 ·exact h2 ((I5 _).1 c hm)
def ofB (l:List UInt8):ByteArray:=⟨l.toArray⟩
theorem T8 (l:List UInt8):(ofB l).data.toList=l:=rfl
theorem KI (s:ByteArray):ofB s.data.toList=s:=bx rfl
def Aj (s:ByteArray):Option Int:=
 match Lib.atoiAll s.data.toList with
 | .ok v=>if Lib.itoa v=s.data.toList then some v else none
 | _=>none
def X0 (v:Int):Prop:=-9223372036854775808<=v/\v<=9223372036854775807
theorem Pd (v:Int):(Bs v).data.toList=Lib.itoa v:=rfl
theorem HQ {s:ByteArray} {v:Int} : Aj s=some v↔X0 v/\Bs v=s:=by
 unfold Aj
 constructor
 ·intro h
  split at h
  ·rename_i u hu
   split at h
   ·rename_i he
    obtain rfl:=Option.some.inj h
    exact ⟨Lib.atoiAll_bounds hu,bx he⟩
   ·cases h
  ·cases h
 ·rintro ⟨⟨h0,h1⟩,rfl⟩
  rw [Pd,R0 h0 h1]
  simp
def BW (s:ByteArray) (c:UInt8):ByteArray:=ofB (Lib.cut s.data.toList [c]).1
def Ba (s:ByteArray) (c:UInt8):ByteArray:=ofB (Lib.cut s.data.toList [c]).2.1
def EY (s:ByteArray) (c:UInt8):Bool:=(Lib.cut s.data.toList [c]).2.2
theorem OE (s:ByteArray) (c:UInt8):(EY s c=false/\c ∉ s.data.toList/\BW s c=s/\Ba s c=⟨#[]⟩)∨(EY s c=true/\s=BW s c++⟨#[c]⟩++Ba s c/\c ∉ (BW s c).data.toList):=by
 by_cases h:c ∈ s.data.toList
 ·obtain ⟨a,b,e,ha⟩:=KH h
  have hc:=Qi (b:=b) ha
  rw [← e] at hc
  refine .inr ⟨by unfold EY;rw [hc],?_,by unfold BW;rw [hc];exact ha⟩
  apply bx
  unfold BW Ba
  rw [hc,H5,H5,e]
  simp [ofB]
 ·have hc:=T6 h
  exact .inl ⟨by unfold EY;rw [hc],h,by unfold BW;rw [hc,KI],by unfold Ba;rw [hc];rfl⟩
theorem Wq {a b:ByteArray} {c:UInt8} (h:c ∉ a.data.toList):BW (a++⟨#[c]⟩++b) c=a/\Ba (a++⟨#[c]⟩++b) c=b/\EY (a++⟨#[c]⟩++b) c=true:=by
 have e:(a++⟨#[c]⟩++b).data.toList=a.data.toList++c::b.data.toList:=by rw [H5,H5];simp
 have hc:=Qi (b:=b.data.toList) h
 rw [← e] at hc
 unfold BW Ba EY
 rw [hc]
 exact ⟨KI a,KI b,rfl⟩
theorem Pe (v:Int):(44:UInt8) ∉ (Bs v).data.toList:=IE (by decide) (by unfold isD;decide)
def Ip (s:ByteArray):Option V2:=
 match Aj (BW s 44),Aj (Ba s 44) with
 | some a,some b=>if (EY s 44 && AE (a,b))=true then some (a,b) else none
 | _,_=>none
theorem T9 {s:ByteArray} {v:V2} : Ip s=some v↔AE v=true/\E4 v=s:=by
 unfold Ip
 constructor
 ·intro h
  split at h
  ·rename_i a b ha hb
   split at h
   ·rename_i hc
    obtain rfl:=Option.some.inj h
    simp only [Bool.and_eq_true] at hc
    refine ⟨hc.2,?_⟩
    rcases OE s 44 with h1|h1
    ·rw [h1.1] at hc;cases hc.1
    ·rw [h1.2.1]
     show Bs a++⟨#[44]⟩++Bs b=_
     rw [(HQ.1 ha).2,(HQ.1 hb).2]
   ·cases h
  ·cases h
 ·rintro ⟨h1,rfl⟩
  obtain ⟨a,b⟩:=v
  have hc:BW (E4 (a,b)) 44=Bs a/\Ba (E4 (a,b)) 44=Bs b/\EY (E4 (a,b)) 44=true:=Wq (Pe a)
  have h64:=Qh h1
  rw [hc.1,hc.2.1,hc.2.2,HQ.2 ⟨h64.1,rfl⟩,HQ.2 ⟨h64.2,rfl⟩]
  show (if (true && AE (a,b))=true then some (a,b) else none)=_
  rw [h1]
  rfl
def vOf (s:ByteArray):V2:=(Ip s).getD (0,0)
def okV (s:ByteArray):Bool:=(Ip s).isSome
theorem AG {s:ByteArray} (h:Ip s=none):okV s=false/\vOf s=(0,0):=by unfold okV vOf;rw [h];exact ⟨rfl,rfl⟩
theorem Aa {s:ByteArray} {v:V2} (h:Ip s=some v):okV s=true/\vOf s=v:=by unfold okV vOf;rw [h];exact ⟨rfl,rfl⟩
def AH (c:UInt8) (s:ByteArray):List ByteArray:=(HO c s.data.toList).map ofB
def Bj (s:ByteArray):Bool:=(AH 32 s).all okV && AI ((AH 32 s).map vOf)
def Cy (s:ByteArray):List V2:=if Bj s=true then (AH 32 s).map vOf else []
theorem D4 {s:ByteArray} (h:Bj s=false):Cy s=[]:=if_neg (by rw [h];simp)
theorem CP {s:ByteArray} (h:Bj s=true):Cy s=(AH 32 s).map vOf:=if_pos h
theorem HS (c:UInt8) (s:ByteArray):Lib.splitB ⟨#[c]⟩ 0 (Lib.countB s ⟨#[c]⟩) s=AH c s:=by
 have h:=OD c s.size s (Nat.le_refl _)
 unfold AH
 rw [← h,List.map_map]
 conv=>lhs;rw [← List.map_id (Lib.splitB ⟨#[c]⟩ 0 (Lib.countB s ⟨#[c]⟩) s)]
 refine List.map_congr_left λ x _=>(KI x).symm
def Kd (c:UInt8) (s:ByteArray) (i:Nat):List UInt8:=(CS c (s.data.toList.take i)).2
def wo (c:UInt8) (s:ByteArray) (i:Nat):List ByteArray:=(CS c (s.data.toList.take i)).1.map ofB
def wf (c:UInt8) (s:ByteArray) (i:Nat):Nat:=i-(Kd c s i).length
theorem Ge (c:UInt8):∀ (l:List UInt8) (o:List (List UInt8)) (u:List UInt8),∃ d,(l.foldl (Bu c) (o,u)).2=(u++l).drop d
 | [],o,u=>⟨0,by simp⟩
 | b::l,o,u=>by
  rw [List.foldl_cons]
  by_cases h:b=c
  ·rw [show Bu c (o,u) b=(o++[u],[]) from if_pos h]
   obtain ⟨d,hd⟩:=Ge c l (o++[u]) []
   refine ⟨u.length+1+d,?_⟩
   rw [hd,← List.drop_drop]
   congr 1
   simp [List.drop_append,List.drop_eq_nil_of_le]
  ·rw [show Bu c (o,u) b=(o,u++[b]) from if_neg h]
   obtain ⟨d,hd⟩:=Ge c l o (u++[b])
   exact ⟨d,by rw [hd];simp⟩
theorem MP (c:UInt8) (s:ByteArray) {i:Nat} (hi:i<=s.size):(Kd c s i).length<=i/\(s.extract (wf c s i) i)=ofB (Kd c s i):=by
 have hl:(s.data.toList.take i).length=i:=by
  rw [List.length_take];have:s.data.toList.length=s.size:=rfl;omega
 obtain ⟨d,hd⟩:=Ge c (s.data.toList.take i) [] []
 have hd:Kd c s i=(s.data.toList.take i).drop d:=by simpa [Kd,CS] using hd
 have hlen:(Kd c s i).length=i-d:=by rw [hd,List.length_drop,hl]
 refine ⟨by omega,?_⟩
 apply bx
 rw [T8]
 have e1:(s.extract (wf c s i) i).data.toList=(s.data.toList.take i).drop (wf c s i):=by
  simp [ByteArray.data_extract,List.extract,List.drop_take]
 rw [e1]
 unfold wf
 by_cases hdi:d<=i
 ·rw [hlen,show i-(i-d)=d by omega,hd]
 ·rw [hlen,show i-(i-d)=i by omega,hd,List.drop_eq_nil_of_le (by omega),List.drop_eq_nil_of_le (by omega)]
theorem KJ (c:UInt8) (s:ByteArray) {i:Nat} (hi:i<s.size):CS c (s.data.toList.take (i+1))=Bu c (CS c (s.data.toList.take i)) (s.get! i):=by
 have hi' : i<s.data.toList.length:=hi
 rw [List.take_succ_eq_append_getElem hi',CS,List.foldl_append,Ra _ _ hi,List.getD_eq_getElem?_getD,List.getElem?_eq_getElem hi']
 rfl
theorem WD {c:UInt8} {s:ByteArray} {i:Nat} (hi:i<s.size) (h:s.get! i=c):wo c s (i+1)=wo c s i++[s.extract (wf c s i) i]/\wf c s (i+1)=i+1:=by
 have e:=KJ c s hi
 rw [show Bu c (CS c (s.data.toList.take i)) (s.get! i)=((CS c (s.data.toList.take i)).1++[(CS c (s.data.toList.take i)).2],[]) from if_pos h] at e
 refine ⟨?_,?_⟩
 ·unfold wo;rw [e,(MP c s (show i<=s.size by omega)).2];simp [Kd]
 ·unfold wf Kd;rw [e];simp
theorem UA {c:UInt8} {s:ByteArray} {i:Nat} (hi:i<s.size) (h:s.get! i≠c):wo c s (i+1)=wo c s i/\wf c s (i+1)=wf c s i:=by
 have e:=KJ c s hi
 rw [show Bu c (CS c (s.data.toList.take i)) (s.get! i)=((CS c (s.data.toList.take i)).1,(CS c (s.data.toList.take i)).2++[s.get! i]) from if_neg h] at e
 refine ⟨by unfold wo;rw [e],?_⟩
 have:=(MP c s (show i<=s.size by omega)).1
 unfold wf Kd at *
 rw [e];simp only [List.length_append,List.length_singleton];omega
theorem WE (c:UInt8) (s:ByteArray):AH c s=wo c s s.size++[s.extract (wf c s s.size) s.size]:=by
 have ht:s.data.toList.take s.size=s.data.toList:=List.take_of_length_le (Nat.le_refl _)
 rw [(MP c s (Nat.le_refl _)).2]
 unfold AH HO wo Kd
 rw [ht];simp
theorem UB (c:UInt8) (s:ByteArray):∀ {i:Nat},i<=s.size->(wo c s i).length<=i
 | 0,_=>by simp [wo,CS]
 | i+1,h=>by
  have ih:=UB c s (show i<=s.size by omega)
  by_cases hc:s.get! i=c
  ·rw [(WD (by omega) hc).1,List.length_append];simp;omega
  ·rw [(UA (by omega) hc).1];omega
theorem KK (c:UInt8) (s:ByteArray):(AH c s).length<=s.size+1:=by
 have:=UB c s (Nat.le_refl s.size)
 rw [WE,List.length_append];simp;omega
theorem IF {c:UInt8} {s w:ByteArray} (h:w ∈ AH c s):w.size<=s.size:=by
 have key:∀ i,i<=s.size->∀ w ∈ wo c s i,w.size<=s.size:=by
  intro i
  induction i with
  | zero=>intro _ w hw;simp [wo,CS] at hw
  | succ i ih=>
   intro hi w hw
   by_cases hc:s.get! i=c
   ·rw [(WD (by omega) hc).1] at hw
    rcases List.mem_append.1 hw with hw|hw
    ·exact ih (by omega) w hw
    ·rw [List.mem_singleton.1 hw,ByteArray.size_extract];omega
   ·rw [(UA (by omega) hc).1] at hw
    exact ih (by omega) w hw
 rw [WE] at h
 rcases List.mem_append.1 h with h|h
 ·exact key _ (Nat.le_refl _) w h
 ·rw [List.mem_singleton.1 h,ByteArray.size_extract];omega
end Go.Proofs.YtdgmbbjoifneiaaGreatDoor
