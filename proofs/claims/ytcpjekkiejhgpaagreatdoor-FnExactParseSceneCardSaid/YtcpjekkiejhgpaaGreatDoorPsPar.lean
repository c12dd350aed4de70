import Derived.Test.YtcpjekkiejhgpaaGreatDoorPsRkS1
import Derived.Lib.AtoiAll
import Derived.Lib.AtoiAllCases
import Derived.Lib.IndexMore
import Derived.Lib.IndexLaws
import Derived.Lib.CountLaws
import Derived.Lib.Split
namespace Go.Proofs.YtcpjekkiejhgpaaGreatDoor
set_option linter.unusedVariables false
set_option linter.unusedSimpArgs false
open Go.RowKit
def Ba (c:UInt8) (p:List (List UInt8)×List UInt8) (b:UInt8):List (List UInt8)×List UInt8:=if b=c then (p.1++[p.2],[]) else (p.1,p.2++[b])
def B0 (c:UInt8) (l:List UInt8):List (List UInt8)×List UInt8:=l.foldl (Ba c) ([],[])
def Db (c:UInt8) (l:List UInt8):List (List UInt8):=(B0 c l).1++[(B0 c l).2]
theorem C1 (c:UInt8):∀ (l:List UInt8) (o:List (List UInt8)) (u:List UInt8),c ∉ u->l.foldl (Ba c) (o,u)=(o++(match l.foldl (Ba c) ([],[]) with|([],v)=>[]|(x::r,v)=>(u++x)::r),(match l.foldl (Ba c) ([],[]) with|([],v)=>u++v|(_::_,v)=>v))
 | [],o,u,_=>by simp
 | b::l,o,u,hu=>by
  simp only [List.foldl_cons]
  by_cases h:b=c
  ·have e1:Ba c (o,u) b=(o++[u],[]):=if_pos h
   have e2:Ba c ([],[]) b=([[]],[]):=if_pos h
   rw [e1,e2,C1 c l (o++[u]) [] (by simp),C1 c l [[]] [] (by simp)]
   cases hq:l.foldl (Ba c) ([],[]) with
   | mk a v=>cases a <;> simp
  ·have e1:Ba c (o,u) b=(o,u++[b]):=if_neg h
   have e2:Ba c ([],[]) b=([],[b]):=if_neg h
   have hn:c ∉ u++[b]:=by
    simp only [List.mem_append,List.mem_singleton,not_or]
    exact ⟨hu,λ e=>h e.symm⟩
   rw [e1,e2,C1 c l o (u++[b]) hn,C1 c l [] [b] (by simp;exact λ e=>h e.symm)]
   cases hq:l.foldl (Ba c) ([],[]) with
   | mk a v=>cases a <;> simp
theorem FC {c:UInt8} : ∀ {l:List UInt8} (o:List (List UInt8)) (u:List UInt8),c ∉ l->l.foldl (Ba c) (o,u)=(o,u++l)
 | [],o,u,_=>by simp
 | b::l,o,u,h=>by
  simp only [List.mem_cons,not_or] at h
  have e1:Ba c (o,u) b=(o,u++[b]):=if_neg λ e=>h.1 e.symm
  rw [List.foldl_cons,e1,FC o _ h.2]
  simp
theorem BT {c:UInt8} {l:List UInt8} (h:c ∉ l):Db c l=[l]:=by
 unfold Db B0
 rw [FC _ _ h];simp
theorem CI {c:UInt8} {a l:List UInt8} (h:c ∉ a):Db c (a++c::l)=a::Db c l:=by
 unfold Db B0
 rw [List.foldl_append,FC _ _ h,List.foldl_cons]
 have e1:Ba c (([],[]++a):List (List UInt8)×List UInt8) c=([a],[]):=by simp [Ba]
 rw [e1,C1 c l [a] [] (by simp)]
 cases hq:l.foldl (Ba c) ([],[]) with
 | mk x v=>cases x <;> simp
theorem Ih {c:UInt8} : ∀ {ws:List (List UInt8)},ws≠[]->(∀ w ∈ ws,c ∉ w)->Db c (Lib.join ws [c])=ws
 | [],h,_=>absurd rfl h
 | [x],_,hw=>by rw [Lib.join_one];exact BT (hw x (by simp))
 | x::y::r,_,hw=>by
  have e:Lib.join (x::y::r) [c]=x++c::Lib.join (y::r) [c]:=by
   rw [Lib.join_cons,Lib.join_cons]
   simp [Lib.joinTail]
  rw [e,CI (hw x (by simp)),Ih (by simp) λ w h=>hw w (List.mem_cons_of_mem _ h)]
theorem FD {c:UInt8} {l:List UInt8} (h:c ∈ l):∃ a b,l=a++c::b/\c ∉ a:=by
 induction l with
 | nil=>simp at h
 | cons x r ih=>
  by_cases e:x=c
  ·exact ⟨[],r,by simp [e],by simp⟩
  ·have hr:c ∈ r:=by
    rcases List.mem_cons.1 h with h|h
    ·exact absurd h.symm e
    ·exact h
   obtain ⟨a,b,h1,h2⟩:=ih hr
   exact ⟨x::a,b,by simp [h1],by simp only [List.mem_cons,not_or];exact ⟨λ q=>e q.symm,h2⟩⟩
theorem CZ {c:UInt8} : ∀ {a b:List UInt8},c ∉ a->Lib.indexByte (a++c::b) c=a.length
 | [],b,_=>by simp [Lib.indexByte]
 | x::a,b,h=>by
  simp only [List.mem_cons,not_or] at h
  have ih:=CZ (b:=b) h.2
  have hx:(x == c)=false:=by simpa using λ e=>h.1 e.symm
  simp only [List.cons_append,Lib.indexByte,hx,ih]
  simp
theorem C2 {c:UInt8} : ∀ {a:List UInt8},c ∉ a->Lib.indexByte a c=-1
 | [],_=>by simp [Lib.indexByte]
 | x::a,h=>by
  simp only [List.mem_cons,not_or] at h
  have ih:=C2 h.2
  have hx:(x == c)=false:=by simpa using λ e=>h.1 e.symm
  simp only [Lib.indexByte,hx,ih]
  simp
theorem PP {c:UInt8} {s:List UInt8} (h:c ∉ s):Lib.cut s [c]=(s,[],false):=by
 unfold Lib.cut
 rw [Lib.index_one,C2 h];simp
theorem NK {c:UInt8} {a b:List UInt8} (h:c ∉ a):Lib.cut (a++c::b) [c]=(a,b,true):=by
 unfold Lib.cut
 rw [Lib.index_one,CZ h];simp
theorem Lg (c : UInt8) : ∀ (n : Nat) (s : ByteArray), s.size ≤ n → (Lib.splitB ⟨#[c]⟩ 0 (Lib.countB s ⟨#[c]⟩) s).map (·.data.toList) = Db c s.data.toList := by
  intro n
  induction n with
  | zero =>
    intro s hs
    have h0 : s.data.toList = [] := List.eq_nil_of_length_eq_zero (by have : s.data.toList.length = s.size := rfl; omega)
    have hm : Lib.indexB s ⟨#[c]⟩ = -1 := by
      show Lib.index s.data.toList [c] = -1
      rw [h0]; rfl
    rw [Lib.countB_miss _ _ hm, Lib.splitB_zero]
    rw [List.map_cons, List.map_nil, BT (by rw [h0]; simp)]
  | succ n ih =>
    intro s hs
    by_cases hc : c ∈ s.data.toList
    · obtain ⟨a, b, e, ha⟩ := FD hc
      have hi : Lib.indexB s ⟨#[c]⟩ = (a.length : Nat) := by
        show Lib.index s.data.toList [c] = _
        rw [Lib.index_one, e, CZ ha]
      have hsz : s.size = a.length + 1 + b.length := by
        have : s.size = s.data.toList.length := rfl
        rw [this, e]; simp; omega
      have h1 : (⟨#[c]⟩ : ByteArray).size = 1 := rfl
      rw [Lib.countB_hit s _ _ (by rw [h1]; omega) hi, Nat.add_comm, Lib.splitB_hit _ _ _ _ _ hi, List.map_cons, e, CI ha, h1]
      have e1 : (s.extract 0 (a.length + 0)).data.toList = a := by
        simp [ByteArray.data_extract, e]
      have e2 : (s.extract (a.length + 1) s.size).data.toList = b := by
        have : s.data.toList.extract (a.length + 1) s.size = b := by
          rw [e, hsz]; simp [List.extract, List.drop_append]; rw [List.drop_eq_nil_of_le (by omega)]; simp
        simpa [ByteArray.data_extract] using this
      rw [e1, ih _ (by have : (s.extract (a.length + 1) s.size).size = b.length := by (show (s.extract (a.length + 1) s.size).data.toList.length = b.length); rw [e2]
                       omega), e2]
    · have hm : Lib.indexB s ⟨#[c]⟩ = -1 := by
        show Lib.index s.data.toList [c] = -1
        rw [Lib.index_one, C2 hc]
      rw [Lib.countB_miss _ _ hm, Lib.splitB_zero, List.map_cons, List.map_nil, BT hc]
def isD (c:UInt8):Prop:=48<=c.toNat/\c.toNat<=57
def dvF (v:Nat) (l:List UInt8):Nat:=l.foldl (λ v c=>v*10+(c.toNat-48)) v
theorem NL (v:Nat) (a b:List UInt8):dvF v (a++b)=dvF (dvF v a) b:=List.foldl_append
theorem Mh:∀ (l:List UInt8) (v:Nat),v<=dvF v l
 | [],v=>Nat.le_refl _
 | c::l,v=>by
  have:=Mh l (v*10+(c.toNat-48))
  show v<=dvF (v*10+(c.toNat-48)) l
  omega
theorem NM {d:Nat} (h:d<10):isD (UInt8.ofNat (48+d))/\(UInt8.ofNat (48+d)).toNat-48=d:=by
 have:(UInt8.ofNat (48+d)).toNat=48+d:=by rw [UInt8.toNat_ofNat'];omega
 unfold isD
 omega
theorem Eg (u:Nat):(∀ c ∈ Lib.decDigits u,isD c)/\Lib.decDigits u≠[]/\dvF 0 (Lib.decDigits u)=u:=by
 induction u using Nat.strongRecOn with
 | ind u ih=>
  rw [Lib.decDigits]
  split
  ·rename_i h
   have hd:=NM h
   refine ⟨λ c hc=>by rw [List.mem_singleton.1 hc];exact hd.1,by simp,?_⟩
   show 0*10+((UInt8.ofNat (48+u)).toNat-48)=u
   omega
  ·rename_i h
   obtain ⟨i1,i2,i3⟩:=ih (u/10) (by omega)
   have hd:=NM (Nat.mod_lt u (show 10>0 by omega))
   refine ⟨λ c hc=>?_,by simp,?_⟩
   ·rcases List.mem_append.1 hc with hc|hc
    ·exact i1 c hc
    ·rw [List.mem_singleton.1 hc];exact hd.1
   ·rw [NL,i3]
    show u/10*10+((UInt8.ofNat (48+u%10)).toNat-48)=u
    omega
theorem QB (k:Nat):∀ u,u<10^(k+1)->(Lib.decDigits u).length<=k+1:=by
 induction k with
 | zero=>intro u h;rw [Lib.decDigits,dif_pos (by simpa using h)];simp
 | succ k ih=>
  intro u h
  rw [Lib.decDigits]
  split
  ·simp
  ·have:=ih (u/10) (by rw [Nat.pow_succ] at h;omega)
   rw [List.length_append,List.length_singleton];omega
theorem KK:∀ (l:List UInt8) (acc:Nat),(∀ c ∈ l,isD c)->dvF acc l<18446744073709551616->Lib.parseUint10 acc l=.ok (dvF acc l)
 | [],acc,_,_=>rfl
 | c::l,acc,hd,h=>by
  have hc:=hd c (by simp)
  unfold isD at hc
  have h2:dvF (acc*10+(c.toNat-48)) l<18446744073709551616:=h
  have h3:=Mh l (acc*10+(c.toNat-48))
  rw [Lib.parseUint10,if_pos hc,if_neg (by omega),if_neg (by omega),KK l _ (λ x hx=>hd x (List.mem_cons_of_mem _ hx)) h2]
  rfl
theorem N4 {v:Int} (h0:-9223372036854775808<=v) (h1:v<=9223372036854775807):Lib.atoiAll (Lib.itoa v)=.ok v:=by
 unfold Lib.itoa
 split
 ·rename_i hn
  obtain ⟨d1,d2,d3⟩:=Eg v.natAbs
  have hp:Lib.parseMag (Lib.decDigits v.natAbs)=.ok v.natAbs:=by
   unfold Lib.parseMag
   rw [if_neg d2,KK _ _ d1 (by rw [d3];omega),d3]
  have e45:(45:UInt8).toNat=45:=rfl
  simp only [Lib.atoiAll]
  rw [if_pos (.inr rfl),hp]
  simp only
  rw [if_neg (by omega),if_neg (by omega),if_pos e45]
  congr 1
  omega
 ·rename_i hn
  obtain ⟨d1,d2,d3⟩:=Eg v.toNat
  have hp:Lib.parseMag (Lib.decDigits v.toNat)=.ok v.toNat:=by
   unfold Lib.parseMag
   rw [if_neg d2,KK _ _ d1 (by rw [d3];omega),d3]
  cases hl:Lib.decDigits v.toNat with
  | nil=>exact absurd hl d2
  | cons c r=>
   have hc:=d1 c (by rw [hl];simp)
   unfold isD at hc
   rw [hl] at hp
   simp only [Lib.atoiAll]
   rw [if_neg (by omega),hp]
   simp only
   rw [if_neg (by omega),if_neg (by omega),if_neg (by omega)]
   congr 1
   omega
theorem GJ {v:Int} {c:UInt8} (h:c.toNat≠45) (h2:¬ isD c):c ∉ Lib.itoa v:=by
 unfold Lib.itoa
 intro hm
 split at hm
 ·rcases List.mem_cons.1 hm with hm|hm
  ·exact h (by rw [hm];rfl)
  ·exact h2 ((Eg _).1 c hm)
 ·exact h2 ((Eg _).1 c hm)
def ofB (l:List UInt8):ByteArray:=⟨l.toArray⟩
theorem Lh (l:List UInt8):(ofB l).data.toList=l:=rfl
theorem Do (s:ByteArray):ofB s.data.toList=s:=bx rfl
def Ac (s:ByteArray):Option Int:=
 match Lib.atoiAll s.data.toList with
 | .ok v=>if Lib.itoa v=s.data.toList then some v else none
 | _=>none
def JA (v:Int):Prop:=-9223372036854775808<=v/\v<=9223372036854775807
theorem Mi (v:Int):(AY v).data.toList=Lib.itoa v:=rfl
theorem B7 {s:ByteArray} {v:Int} : Ac s=some v↔JA v/\AY v=s:=by
 unfold Ac
 constructor
 ·intro h
  split at h
  ·rename_i u hu
   split at h
   ·rename_i he
    obtain rfl:=Option.some.inj h
    exact ⟨Lib.atoiAll_bounds hu,bx he⟩
   ·cases h
  ·cases h
 ·rintro ⟨⟨h0,h1⟩,rfl⟩
  rw [Mi,N4 h0 h1]
  simp
theorem Jn {s:ByteArray} (h:∀ v,JA v->AY v≠s):Ac s=none:=by
 cases hp:Ac s with
 | none=>rfl
 | some v=>exact absurd (B7.1 hp).2 (h v (B7.1 hp).1)
def Au (s:ByteArray) (c:UInt8):ByteArray:=ofB (Lib.cut s.data.toList [c]).1
def Ao (s:ByteArray) (c:UInt8):ByteArray:=ofB (Lib.cut s.data.toList [c]).2.1
def FE (s:ByteArray) (c:UInt8):Bool:=(Lib.cut s.data.toList [c]).2.2
theorem Ii (s:ByteArray) (c:UInt8):(FE s c=false/\c ∉ s.data.toList/\Au s c=s/\Ao s c=⟨#[]⟩)∨(FE s c=true/\s=Au s c++⟨#[c]⟩++Ao s c/\c ∉ (Au s c).data.toList):=by
 by_cases h:c ∈ s.data.toList
 ·obtain ⟨a,b,e,ha⟩:=FD h
  have hc:=NK (b:=b) ha
  rw [← e] at hc
  refine .inr ⟨by unfold FE;rw [hc],?_,by unfold Au;rw [hc];exact ha⟩
  apply bx
  unfold Au Ao
  rw [hc,Ar,Ar,e]
  simp [ofB]
 ·have hc:=PP h
  exact .inl ⟨by unfold FE;rw [hc],h,by unfold Au;rw [hc,Do],by unfold Ao;rw [hc];rfl⟩
theorem GK {a b:ByteArray} {c:UInt8} (h:c ∉ a.data.toList):Au (a++⟨#[c]⟩++b) c=a/\Ao (a++⟨#[c]⟩++b) c=b/\FE (a++⟨#[c]⟩++b) c=true:=by
 have e:(a++⟨#[c]⟩++b).data.toList=a.data.toList++c::b.data.toList:=by rw [Ar,Ar];simp
 have hc:=NK (b:=b.data.toList) h
 rw [← e] at hc
 unfold Au Ao FE
 rw [hc]
 exact ⟨Do a,Do b,rfl⟩
theorem FF (v:Int):(44:UInt8) ∉ (AY v).data.toList:=GJ (by decide) (by unfold isD;decide)
def Dw (s:ByteArray):Option V2:=
 match Ac (Au s 44),Ac (Ao s 44) with
 | some a,some b=>if (FE s 44 && AX (a,b))=true then some (a,b) else none
 | _,_=>none
theorem Ij {s:ByteArray} {v:V2} : Dw s=some v↔AX v=true/\Ak v=s:=by
 unfold Dw
 constructor
 ·intro h
  split at h
  ·rename_i a b ha hb
   split at h
   ·rename_i hc
    obtain rfl:=Option.some.inj h
    simp only [Bool.and_eq_true] at hc
    refine ⟨hc.2,?_⟩
    rcases Ii s 44 with h1|h1
    ·rw [h1.1] at hc;cases hc.1
    ·rw [h1.2.1]
     show AY a++⟨#[44]⟩++AY b=_
     rw [(B7.1 ha).2,(B7.1 hb).2]
   ·cases h
  ·cases h
 ·rintro ⟨h1,rfl⟩
  obtain ⟨a,b⟩:=v
  have hc:Au (Ak (a,b)) 44=AY a/\Ao (Ak (a,b)) 44=AY b/\FE (Ak (a,b)) 44=true:=GK (FF a)
  have h64:=Es h1
  rw [hc.1,hc.2.1,hc.2.2,B7.2 ⟨h64.1,rfl⟩,B7.2 ⟨h64.2,rfl⟩]
  show (if (true && AX (a,b))=true then some (a,b) else none)=_
  rw [h1]
  rfl
def vOf (s:ByteArray):V2:=(Dw s).getD (0,0)
def okV (s:ByteArray):Bool:=(Dw s).isSome
theorem AI {s:ByteArray} (h:Dw s=none):okV s=false/\vOf s=(0,0):=by unfold okV vOf;rw [h];exact ⟨rfl,rfl⟩
theorem Ad {s:ByteArray} {v:V2} (h:Dw s=some v):okV s=true/\vOf s=v:=by unfold okV vOf;rw [h];exact ⟨rfl,rfl⟩
def AB (c:UInt8) (s:ByteArray):List ByteArray:=(Db c s.data.toList).map ofB
def okP (s:ByteArray):Bool:=(AB 32 s).all okV && Ae ((AB 32 s).map vOf)
def CJ (s:ByteArray):List V2:=if okP s=true then (AB 32 s).map vOf else []
theorem BN {s:ByteArray} (h:okP s=false):CJ s=[]:=if_neg (by rw [h];simp)
theorem A2 {s:ByteArray} (h:okP s=true):CJ s=(AB 32 s).map vOf:=if_pos h
theorem Fh (c:UInt8) (s:ByteArray):Lib.splitB ⟨#[c]⟩ 0 (Lib.countB s ⟨#[c]⟩) s=AB c s:=by
 have h:=Lg c s.size s (Nat.le_refl _)
 unfold AB
 rw [← h,List.map_map]
 conv=>lhs;rw [← List.map_id (Lib.splitB ⟨#[c]⟩ 0 (Lib.countB s ⟨#[c]⟩) s)]
 refine List.map_congr_left λ x _=>(Do x).symm
def Ik (c:UInt8) (s:ByteArray) (i:Nat):List UInt8:=(B0 c (s.data.toList.take i)).2
def wo (c:UInt8) (s:ByteArray) (i:Nat):List ByteArray:=(B0 c (s.data.toList.take i)).1.map ofB
def wf (c:UInt8) (s:ByteArray) (i:Nat):Nat:=i-(Ik c s i).length
theorem FG (c:UInt8):∀ (l:List UInt8) (o:List (List UInt8)) (u:List UInt8),∃ d,(l.foldl (Ba c) (o,u)).2=(u++l).drop d
 | [],o,u=>⟨0,by simp⟩
 | b::l,o,u=>by
  rw [List.foldl_cons]
  by_cases h:b=c
  ·rw [show Ba c (o,u) b=(o++[u],[]) from if_pos h]
   obtain ⟨d,hd⟩:=FG c l (o++[u]) []
   refine ⟨u.length+1+d,?_⟩
   rw [hd,← List.drop_drop]
   congr 1
   simp [List.drop_append,List.drop_eq_nil_of_le]
  ·rw [show Ba c (o,u) b=(o,u++[b]) from if_neg h]
   obtain ⟨d,hd⟩:=FG c l o (u++[b])
   exact ⟨d,by rw [hd];simp⟩
theorem KL (c:UInt8) (s:ByteArray) {i:Nat} (hi:i<=s.size):(Ik c s i).length<=i/\(s.extract (wf c s i) i)=ofB (Ik c s i):=by
 have hl:(s.data.toList.take i).length=i:=by
  rw [List.length_take];have:s.data.toList.length=s.size:=rfl;omega
 obtain ⟨d,hd⟩:=FG c (s.data.toList.take i) [] []
 have hd:Ik c s i=(s.data.toList.take i).drop d:=by simpa [Ik,B0] using hd
 have hlen:(Ik c s i).length=i-d:=by rw [hd,List.length_drop,hl]
 refine ⟨by omega,?_⟩
 apply bx
 rw [Lh]
 have e1:(s.extract (wf c s i) i).data.toList=(s.data.toList.take i).drop (wf c s i):=by
  simp [ByteArray.data_extract,List.extract,List.drop_take]
 rw [e1]
 unfold wf
 by_cases hdi:d<=i
 ·rw [hlen,show i-(i-d)=d by omega,hd]
 ·rw [hlen,show i-(i-d)=i by omega,hd,List.drop_eq_nil_of_le (by omega),List.drop_eq_nil_of_le (by omega)]
theorem Et (c:UInt8) (s:ByteArray) (i:Nat):wf c s i<=i:=Nat.sub_le _ _
theorem Il (c:UInt8) (s:ByteArray) {i:Nat} (hi:i<s.size):B0 c (s.data.toList.take (i+1))=Ba c (B0 c (s.data.toList.take i)) (s.get! i):=by
 have hi' : i<s.data.toList.length:=hi
 rw [List.take_succ_eq_append_getElem hi',B0,List.foldl_append,DZ _ _ hi,List.getD_eq_getElem?_getD,List.getElem?_eq_getElem hi']
 rfl
theorem PQ {c:UInt8} {s:ByteArray} {i:Nat} (hi:i<s.size) (h:s.get! i=c):wo c s (i+1)=wo c s i++[s.extract (wf c s i) i]/\wf c s (i+1)=i+1:=by
 have e:=Il c s hi
 rw [show Ba c (B0 c (s.data.toList.take i)) (s.get! i)=((B0 c (s.data.toList.take i)).1++[(B0 c (s.data.toList.take i)).2],[]) from if_pos h] at e
 refine ⟨?_,?_⟩
 ·unfold wo;rw [e,(KL c s (show i<=s.size by omega)).2];simp [Ik]
 ·unfold wf Ik;rw [e];simp
theorem Mj {c:UInt8} {s:ByteArray} {i:Nat} (hi:i<s.size) (h:s.get! i≠c):wo c s (i+1)=wo c s i/\wf c s (i+1)=wf c s i:=by
 have e:=Il c s hi
 rw [show Ba c (B0 c (s.data.toList.take i)) (s.get! i)=((B0 c (s.data.toList.take i)).1,(B0 c (s.data.toList.take i)).2++[s.get! i]) from if_neg h] at e
 refine ⟨by unfold wo;rw [e],?_⟩
 have:=(KL c s (show i<=s.size by omega)).1
 unfold wf Ik at *
 rw [e];simp only [List.length_append,List.length_singleton];omega
theorem NN (c:UInt8) (s:ByteArray):AB c s=wo c s s.size++[s.extract (wf c s s.size) s.size]:=by
 have ht:s.data.toList.take s.size=s.data.toList:=List.take_of_length_le (Nat.le_refl _)
 rw [(KL c s (Nat.le_refl _)).2]
 unfold AB Db wo Ik
 rw [ht];simp
theorem Ca (c:UInt8) (s:ByteArray):∀ {i:Nat},i<=s.size->(wo c s i).length<=i
 | 0,_=>by simp [wo,B0]
 | i+1,h=>by
  have ih:=Ca c s (show i<=s.size by omega)
  by_cases hc:s.get! i=c
  ·rw [(PQ (by omega) hc).1,List.length_append];simp;omega
  ·rw [(Mj (by omega) hc).1];omega
theorem Bj (c:UInt8) (s:ByteArray):(AB c s).length<=s.size+1:=by
 have:=Ca c s (Nat.le_refl s.size)
 rw [NN,List.length_append];simp;omega
theorem Av {c:UInt8} {s w:ByteArray} (h:w ∈ AB c s):w.size<=s.size:=by
 have key:∀ i,i<=s.size->∀ w ∈ wo c s i,w.size<=s.size:=by
  intro i
  induction i with
  | zero=>intro _ w hw;simp [wo,B0] at hw
  | succ i ih=>
   intro hi w hw
   by_cases hc:s.get! i=c
   ·rw [(PQ (by omega) hc).1] at hw
    rcases List.mem_append.1 hw with hw|hw
    ·exact ih (by omega) w hw
    ·rw [List.mem_singleton.1 hw,ByteArray.size_extract];omega
   ·rw [(Mj (by omega) hc).1] at hw
    exact ih (by omega) w hw
 rw [NN] at h
 rcases List.mem_append.1 h with h|h
 ·exact key _ (Nat.le_refl _) w h
 ·rw [List.mem_singleton.1 h,ByteArray.size_extract];omega
def Dx (c:UInt8):Bool:=decide (48<=c.toNat) && decide (c.toNat<=57)
def BX (t:ByteArray):Bool:=decide (0<t.size) && t.data.toList.all Dx
theorem Li {c:UInt8} : Dx c=true↔isD c:=by simp [Dx,isD]
theorem Jo {u:Nat} {t:ByteArray} (h:t.data.toList=Lib.decDigits u) (hu:u<=9223372036854775808):BX t=true/\t.size<=19/\dvF 0 t.data.toList=u:=by
 obtain ⟨d1,d2,d3⟩:=Eg u
 have hl:=QB 18 u (by omega)
 have hs:t.size=(Lib.decDigits u).length:=by rw [← h];rfl
 refine ⟨?_,by omega,by rw [h,d3]⟩
 have hpos:0<(Lib.decDigits u).length:=List.length_pos_iff.2 d2
 simp only [BX,Bool.and_eq_true,decide_eq_true_eq,List.all_eq_true]
 exact ⟨by omega,λ c hc=>Li.2 (d1 c (by rw [← h];exact hc))⟩
theorem NO {s:ByteArray} (h:0<s.size):∃ r,s.data.toList=s.get! 0::r/\(s.extract 1 s.size).data.toList=r:=by
 have e:=DZ s 0 h
 have hl:s.data.toList.length=s.size:=rfl
 cases hd:s.data.toList with
 | nil=>rw [hd] at hl;simp at hl;omega
 | cons c r=>
  rw [hd] at e
  refine ⟨r,by rw [e];rfl,?_⟩
  have:s.data.toList.extract 1 s.size=r:=by
   rw [hd,← hl,hd];simp [List.extract]
  simpa [ByteArray.data_extract] using this
theorem N5 {s:ByteArray} {v:Int} (h0:0<s.size) (h:s.get! 0=45) (hv:AY v=s):v<0/\(s.extract 1 s.size).data.toList=Lib.decDigits v.natAbs:=by
 obtain ⟨r,e1,e2⟩:=NO h0
 rw [e2]
 have hd:Lib.itoa v=s.get! 0::r:=by rw [← e1,← hv];rfl
 rw [h] at hd
 unfold Lib.itoa at hd
 split at hd
 ·rename_i hn
  exact ⟨hn,(List.cons.inj hd).2.symm⟩
 ·exfalso
  have:=(Eg v.toNat).1 45 (by rw [hd];simp)
  revert this;unfold isD;decide
theorem N6 {s:ByteArray} {v:Int} (h:0<s.size->s.get! 0≠45) (hv:AY v=s):0<=v/\s.data.toList=Lib.decDigits v.natAbs:=by
 have hd:s.data.toList=Lib.itoa v:=by rw [← hv];rfl
 unfold Lib.itoa at hd
 split at hd
 ·exfalso
  have h0:0<s.size:=by
   have:s.data.toList.length=s.size:=rfl
   rw [hd] at this;simp at this;omega
  obtain ⟨r,e1,-⟩:=NO h0
  rw [e1] at hd
  exact h h0 (List.cons.inj hd).1
 ·rename_i hn
  exact ⟨by omega,by rw [hd];congr 1;omega⟩
def tOf (neg:Bool) (s:ByteArray):ByteArray:=if neg=true then s.extract 1 s.size else s
def AU (s:ByteArray):Bool:=decide (0<s.size) && (s.get! 0 == 45)
theorem Lj {s:ByteArray} {v:Int} (h:JA v) (hv:AY v=s):AU s=decide (v<0)/\BX (tOf (AU s) s)=true/\(tOf (AU s) s).size<=19/\dvF 0 (tOf (AU s) s).data.toList=v.natAbs:=by
 unfold JA at h
 cases hn:AU s with
 | true=>
  simp only [AU,Bool.and_eq_true,decide_eq_true_eq,beq_iff_eq] at hn
  obtain ⟨h1,h2⟩:=N5 hn.1 hn.2 hv
  obtain ⟨q1,q2,q3⟩:=Jo h2 (by omega)
  simp only [tOf,if_true]
  exact ⟨by simp [h1],q1,q2,q3⟩
 | false=>
  have hn' : 0<s.size->s.get! 0≠45:=λ h0 he=>by
   simp [AU,h0,he] at hn
  obtain ⟨h1,h2⟩:=N6 hn' hv
  obtain ⟨q1,q2,q3⟩:=Jo h2 (by omega)
  exact ⟨by simp;omega,q1,q2,q3⟩
theorem CU {s:ByteArray} (h:BX (tOf (AU s) s)=false∨19<(tOf (AU s) s).size∨9223372036854775808<dvF 0 (tOf (AU s) s).data.toList∨(AU s=false/\dvF 0 (tOf (AU s) s).data.toList=9223372036854775808)):Ac s=none:=by
 refine Jn λ v hv he=>?_
 obtain ⟨p1,p2,p3,p4⟩:=Lj hv he
 unfold JA at hv
 rcases h with h|h|h|⟨h,h'⟩
 ·rw [p2] at h;cases h
 ·omega
 ·omega
 ·rw [p1] at h
  simp at h
  omega
def nOf (s:ByteArray):Int:=if AU s=true then -((dvF 0 (tOf (AU s) s).data.toList:Nat):Int) else ((dvF 0 (tOf (AU s) s).data.toList:Nat):Int)
theorem Eh {s:ByteArray} (h:AY (nOf s)≠s):Ac s=none:=by
 refine Jn λ v hv he=>h ?_
 obtain ⟨p1,p2,p3,p4⟩:=Lj hv he
 have:nOf s=v:=by
  unfold nOf
  rw [p4,p1]
  by_cases hn:v<0
  ·rw [if_pos (by simp [hn])];omega
  ·rw [if_neg (by simp [hn])];omega
 rw [this,he]
theorem Dc {s:ByteArray} (h:AY (nOf s)=s) (h64:JA (nOf s)):Ac s=some (nOf s):=B7.2 ⟨h64,h⟩
theorem QC {t:ByteArray} {k:Nat} (hk:k<t.size):dvF 0 (t.data.toList.take (k+1))=dvF 0 (t.data.toList.take k)*10+((t.get! k).toNat-48):=by
 have hk' : k<t.data.toList.length:=hk
 rw [List.take_succ_eq_append_getElem hk',NL,DZ _ _ hk,List.getD_eq_getElem?_getD,List.getElem?_eq_getElem hk']
 rfl
theorem QD {t:ByteArray} (h:BX t=true) {k:Nat} (hk:k<t.size):48<=(t.get! k).toNat/\(t.get! k).toNat<=57:=by
 simp only [BX,Bool.and_eq_true,decide_eq_true_eq,List.all_eq_true] at h
 have hk' : k<t.data.toList.length:=hk
 have:=h.2 (t.data.toList[k]) (List.getElem_mem hk')
 rw [DZ _ _ hk,List.getD_eq_getElem?_getD,List.getElem?_eq_getElem hk']
 exact Li.1 this
end Go.Proofs.YtcpjekkiejhgpaaGreatDoor
