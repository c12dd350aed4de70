import Derived.Test.YtcpjekkiejhgpaaDoorPpRkS1
import Derived.Lib.AtoiAll
import Derived.Lib.AtoiAllCases
import Derived.Lib.IndexMore
import Derived.Lib.IndexLaws
import Derived.Lib.CountLaws
import Derived.Lib.Split
namespace Go.Proofs.YtcpjekkiejhgpaaDoor
set_option linter.unusedVariables false
set_option linter.unusedSimpArgs false
open Go.RowKit
def Au (c:UInt8) (p:List (List UInt8)×List UInt8) (b:UInt8):List (List UInt8)×List UInt8:=if b=c then (p.1++[p.2],[]) else (p.1,p.2++[b])
def BA (c:UInt8) (l:List UInt8):List (List UInt8)×List UInt8:=l.foldl (Au c) ([],[])
def Eq (c:UInt8) (l:List UInt8):List (List UInt8):=(BA c l).1++[(BA c l).2]
theorem Bm (c:UInt8):∀ (l:List UInt8) (o:List (List UInt8)) (u:List UInt8),c ∉ u->l.foldl (Au c) (o,u)=(o++(match l.foldl (Au c) ([],[]) with|([],v)=>[]|(x::r,v)=>(u++x)::r),(match l.foldl (Au c) ([],[]) with|([],v)=>u++v|(_::_,v)=>v))
 | [],o,u,_=>by simp
 | b::l,o,u,hu=>by
  simp only [List.foldl_cons]
  by_cases h:b=c
  ·have e1:Au c (o,u) b=(o++[u],[]):=if_pos h
   have e2:Au c ([],[]) b=([[]],[]):=if_pos h
   rw [e1,e2,Bm c l (o++[u]) [] (by simp),Bm c l [[]] [] (by simp)]
   cases hq:l.foldl (Au c) ([],[]) with
   | mk a v=>cases a <;> simp
  ·have e1:Au c (o,u) b=(o,u++[b]):=if_neg h
   have e2:Au c ([],[]) b=([],[b]):=if_neg h
   have hn:c ∉ u++[b]:=by
    simp only [List.mem_append,List.mem_singleton,not_or]
    exact ⟨hu,λ e=>h e.symm⟩
   rw [e1,e2,Bm c l o (u++[b]) hn,Bm c l [] [b] (by simp;exact λ e=>h e.symm)]
   cases hq:l.foldl (Au c) ([],[]) with
   | mk a v=>cases a <;> simp
theorem DW {c:UInt8} : ∀ {l:List UInt8} (o:List (List UInt8)) (u:List UInt8),c ∉ l->l.foldl (Au c) (o,u)=(o,u++l)
 | [],o,u,_=>by simp
 | b::l,o,u,h=>by
  simp only [List.mem_cons,not_or] at h
  have e1:Au c (o,u) b=(o,u++[b]):=if_neg λ e=>h.1 e.symm
  rw [List.foldl_cons,e1,DW o _ h.2]
  simp
theorem DX {c:UInt8} {l:List UInt8} (h:c ∉ l):Eq c l=[l]:=by
 unfold Eq BA
 rw [DW _ _ h];simp
theorem Fz {c:UInt8} {a l:List UInt8} (h:c ∉ a):Eq c (a++c::l)=a::Eq c l:=by
 unfold Eq BA
 rw [List.foldl_append,DW _ _ h,List.foldl_cons]
 have e1:Au c (([],[]++a):List (List UInt8)×List UInt8) c=([a],[]):=by simp [Au]
 rw [e1,Bm c l [a] [] (by simp)]
 cases hq:l.foldl (Au c) ([],[]) with
 | mk x v=>cases x <;> simp
theorem F0 {c:UInt8} {l:List UInt8} (h:c ∈ l):∃ a b,l=a++c::b/\c ∉ a:=by
 induction l with
 | nil=>simp at h
 | cons x r ih=>
  by_cases e:x=c
  ·exact ⟨[],r,by simp [e],by simp⟩
  ·have hr:c ∈ r:=by
    rcases List.mem_cons.1 h with h|h
    ·exact absurd h.symm e
    ·exact h
   obtain ⟨a,b,h1,h2⟩:=ih hr
   exact ⟨x::a,b,by simp [h1],by simp only [List.mem_cons,not_or];exact ⟨λ q=>e q.symm,h2⟩⟩
theorem BP {c:UInt8} : ∀ {a b:List UInt8},c ∉ a->Lib.indexByte (a++c::b) c=a.length
 | [],b,_=>by simp [Lib.indexByte]
 | x::a,b,h=>by
  simp only [List.mem_cons,not_or] at h
  have ih:=BP (b:=b) h.2
  have hx:(x == c)=false:=by simpa using λ e=>h.1 e.symm
  simp only [List.cons_append,Lib.indexByte,hx,ih]
  simp
theorem Bn {c:UInt8} : ∀ {a:List UInt8},c ∉ a->Lib.indexByte a c=-1
 | [],_=>by simp [Lib.indexByte]
 | x::a,h=>by
  simp only [List.mem_cons,not_or] at h
  have ih:=Bn h.2
  have hx:(x == c)=false:=by simpa using λ e=>h.1 e.symm
  simp only [Lib.indexByte,hx,ih]
  simp
theorem Lt {c:UInt8} {s:List UInt8} (h:c ∉ s):Lib.cut s [c]=(s,[],false):=by
 unfold Lib.cut
 rw [Lib.index_one,Bn h];simp
theorem J1 {c:UInt8} {a b:List UInt8} (h:c ∉ a):Lib.cut (a++c::b) [c]=(a,b,true):=by
 unfold Lib.cut
 rw [Lib.index_one,BP h];simp
theorem Ie (c : UInt8) : ∀ (n : Nat) (s : ByteArray), s.size ≤ n → (Lib.splitB ⟨#[c]⟩ 0 (Lib.countB s ⟨#[c]⟩) s).map (·.data.toList) = Eq c s.data.toList := by
  intro n
  induction n with
  | zero =>
    intro s hs
    have h0 : s.data.toList = [] := List.eq_nil_of_length_eq_zero (by have : s.data.toList.length = s.size := rfl; omega)
    have hm : Lib.indexB s ⟨#[c]⟩ = -1 := by
      show Lib.index s.data.toList [c] = -1
      rw [h0]; rfl
    rw [Lib.countB_miss _ _ hm, Lib.splitB_zero]
    rw [List.map_cons, List.map_nil, DX (by rw [h0]; simp)]
  | succ n ih =>
    intro s hs
    by_cases hc : c ∈ s.data.toList
    · obtain ⟨a, b, e, ha⟩ := F0 hc
      have hi : Lib.indexB s ⟨#[c]⟩ = (a.length : Nat) := by
        show Lib.index s.data.toList [c] = _
        rw [Lib.index_one, e, BP ha]
      have hsz : s.size = a.length + 1 + b.length := by
        have : s.size = s.data.toList.length := rfl
        rw [this, e]; simp; omega
      have h1 : (⟨#[c]⟩ : ByteArray).size = 1 := rfl
      rw [Lib.countB_hit s _ _ (by rw [h1]; omega) hi, Nat.add_comm, Lib.splitB_hit _ _ _ _ _ hi, List.map_cons, e, Fz ha, h1]
      have e1 : (s.extract 0 (a.length + 0)).data.toList = a := by
        simp [ByteArray.data_extract, e]
      have e2 : (s.extract (a.length + 1) s.size).data.toList = b := by
        have : s.data.toList.extract (a.length + 1) s.size = b := by
          rw [e, hsz]; simp [List.extract, List.drop_append]; rw [List.drop_eq_nil_of_le (by omega)]; simp
        simpa [ByteArray.data_extract] using this
      rw [e1, ih _ (by have : (s.extract (a.length + 1) s.size).size = b.length := by (show (s.extract (a.length + 1) s.size).data.toList.length = b.length); rw [e2]
                       omega), e2]
    · have hm : Lib.indexB s ⟨#[c]⟩ = -1 := by
        show Lib.index s.data.toList [c] = -1
        rw [Lib.index_one, Bn hc]
      rw [Lib.countB_miss _ _ hm, Lib.splitB_zero, List.map_cons, List.map_nil, DX hc]
def isD (c:UInt8):Prop:=48<=c.toNat/\c.toNat<=57
def dvF (v:Nat) (l:List UInt8):Nat:=l.foldl (λ v c=>v*10+(c.toNat-48)) v
theorem J2 (v:Nat) (a b:List UInt8):dvF v (a++b)=dvF (dvF v a) b:=List.foldl_append
theorem JV:∀ (l:List UInt8) (v:Nat),v<=dvF v l
 | [],v=>Nat.le_refl _
 | c::l,v=>by
  have:=JV l (v*10+(c.toNat-48))
  show v<=dvF (v*10+(c.toNat-48)) l
  omega
theorem J3 {d:Nat} (h:d<10):isD (UInt8.ofNat (48+d))/\(UInt8.ofNat (48+d)).toNat-48=d:=by
 have:(UInt8.ofNat (48+d)).toNat=48+d:=by rw [UInt8.toNat_ofNat'];omega
 unfold isD
 omega
theorem C7 (u:Nat):(∀ c ∈ Lib.decDigits u,isD c)/\Lib.decDigits u≠[]/\dvF 0 (Lib.decDigits u)=u:=by
 induction u using Nat.strongRecOn with
 | ind u ih=>
  rw [Lib.decDigits]
  split
  ·rename_i h
   have hd:=J3 h
   refine ⟨λ c hc=>by rw [List.mem_singleton.1 hc];exact hd.1,by simp,?_⟩
   show 0*10+((UInt8.ofNat (48+u)).toNat-48)=u
   omega
  ·rename_i h
   obtain ⟨i1,i2,i3⟩:=ih (u/10) (by omega)
   have hd:=J3 (Nat.mod_lt u (show 10>0 by omega))
   refine ⟨λ c hc=>?_,by simp,?_⟩
   ·rcases List.mem_append.1 hc with hc|hc
    ·exact i1 c hc
    ·rw [List.mem_singleton.1 hc];exact hd.1
   ·rw [J2,i3]
    show u/10*10+((UInt8.ofNat (48+u%10)).toNat-48)=u
    omega
theorem MY (k:Nat):∀ u,u<10^(k+1)->(Lib.decDigits u).length<=k+1:=by
 induction k with
 | zero=>intro u h;rw [Lib.decDigits,dif_pos (by simpa using h)];simp
 | succ k ih=>
  intro u h
  rw [Lib.decDigits]
  split
  ·simp
  ·have:=ih (u/10) (by rw [Nat.pow_succ] at h;omega)
   rw [List.length_append,List.length_singleton];omega
theorem HY:∀ (l:List UInt8) (acc:Nat),(∀ c ∈ l,isD c)->dvF acc l<18446744073709551616->Lib.parseUint10 acc l=.ok (dvF acc l)
 | [],acc,_,_=>rfl
 | c::l,acc,hd,h=>by
  have hc:=hd c (by simp)
  unfold isD at hc
  have h2:dvF (acc*10+(c.toNat-48)) l<18446744073709551616:=h
  have h3:=JV l (acc*10+(c.toNat-48))
  rw [Lib.parseUint10,if_pos hc,if_neg (by omega),if_neg (by omega),HY l _ (λ x hx=>hd x (List.mem_cons_of_mem _ hx)) h2]
  rfl
theorem Kh {v:Int} (h0:-9223372036854775808<=v) (h1:v<=9223372036854775807):Lib.atoiAll (Lib.itoa v)=.ok v:=by
 unfold Lib.itoa
 split
 ·rename_i hn
  obtain ⟨d1,d2,d3⟩:=C7 v.natAbs
  have hp:Lib.parseMag (Lib.decDigits v.natAbs)=.ok v.natAbs:=by
   unfold Lib.parseMag
   rw [if_neg d2,HY _ _ d1 (by rw [d3];omega),d3]
  have e45:(45:UInt8).toNat=45:=rfl
  simp only [Lib.atoiAll]
  rw [if_pos (.inr rfl),hp]
  simp only
  rw [if_neg (by omega),if_neg (by omega),if_pos e45]
  congr 1
  omega
 ·rename_i hn
  obtain ⟨d1,d2,d3⟩:=C7 v.toNat
  have hp:Lib.parseMag (Lib.decDigits v.toNat)=.ok v.toNat:=by
   unfold Lib.parseMag
   rw [if_neg d2,HY _ _ d1 (by rw [d3];omega),d3]
  cases hl:Lib.decDigits v.toNat with
  | nil=>exact absurd hl d2
  | cons c r=>
   have hc:=d1 c (by rw [hl];simp)
   unfold isD at hc
   rw [hl] at hp
   simp only [Lib.atoiAll]
   rw [if_neg (by omega),hp]
   simp only
   rw [if_neg (by omega),if_neg (by omega),if_neg (by omega)]
   congr 1
   omega
theorem Ki {v:Int} {c:UInt8} (h:c.toNat≠45) (h2:¬ isD c):c ∉ Lib.itoa v:=by
 unfold Lib.itoa
 intro hm
 split at hm
 ·rcases List.mem_cons.1 hm with hm|hm
  ·exact h (by rw [hm];rfl)
  ·exact h2 ((C7 _).1 c hm)
 ·exact h2 ((C7 _).1 c hm)
def ofB (l:List UInt8):ByteArray:=⟨l.toArray⟩
theorem Lu (l:List UInt8):(ofB l).data.toList=l:=rfl
theorem F1 (s:ByteArray):ofB s.data.toList=s:=bx rfl
def AK (s:ByteArray):Option Int:=
 match Lib.atoiAll s.data.toList with
 | .ok v=>if Lib.itoa v=s.data.toList then some v else none
 | _=>none
def GI (v:Int):Prop:=-9223372036854775808<=v/\v<=9223372036854775807
theorem JW (v:Int):(AJ v).data.toList=Lib.itoa v:=rfl
theorem BB {s:ByteArray} {v:Int} : AK s=some v↔GI v/\AJ v=s:=by
 unfold AK
 constructor
 ·intro h
  split at h
  ·rename_i u hu
   split at h
   ·rename_i he
    obtain rfl:=Option.some.inj h
    exact ⟨Lib.atoiAll_bounds hu,bx he⟩
   ·cases h
  ·cases h
 ·rintro ⟨⟨h0,h1⟩,rfl⟩
  rw [JW,Kh h0 h1]
  simp
theorem Gt {s:ByteArray} (h:∀ v,GI v->AJ v≠s):AK s=none:=by
 cases hp:AK s with
 | none=>rfl
 | some v=>exact absurd (BB.1 hp).2 (h v (BB.1 hp).1)
def BK (s:ByteArray) (c:UInt8):ByteArray:=ofB (Lib.cut s.data.toList [c]).1
def BU (s:ByteArray) (c:UInt8):ByteArray:=ofB (Lib.cut s.data.toList [c]).2.1
def DY (s:ByteArray) (c:UInt8):Bool:=(Lib.cut s.data.toList [c]).2.2
theorem If (s:ByteArray) (c:UInt8):(DY s c=false/\c ∉ s.data.toList/\BK s c=s/\BU s c=⟨#[]⟩)∨(DY s c=true/\s=BK s c++⟨#[c]⟩++BU s c/\c ∉ (BK s c).data.toList):=by
 by_cases h:c ∈ s.data.toList
 ·obtain ⟨a,b,e,ha⟩:=F0 h
  have hc:=J1 (b:=b) ha
  rw [← e] at hc
  refine .inr ⟨by unfold DY;rw [hc],?_,by unfold BK;rw [hc];exact ha⟩
  apply bx
  unfold BK BU
  rw [hc,Bk,Bk,e]
  simp [ofB]
 ·have hc:=Lt h
  exact .inl ⟨by unfold DY;rw [hc],h,by unfold BK;rw [hc,F1],by unfold BU;rw [hc];rfl⟩
theorem M8 {a b:ByteArray} {c:UInt8} (h:c ∉ a.data.toList):BK (a++⟨#[c]⟩++b) c=a/\BU (a++⟨#[c]⟩++b) c=b/\DY (a++⟨#[c]⟩++b) c=true:=by
 have e:(a++⟨#[c]⟩++b).data.toList=a.data.toList++c::b.data.toList:=by rw [Bk,Bk];simp
 have hc:=J1 (b:=b.data.toList) h
 rw [← e] at hc
 unfold BK BU DY
 rw [hc]
 exact ⟨F1 a,F1 b,rfl⟩
theorem DZ (v:Int):(44:UInt8) ∉ (AJ v).data.toList:=Ki (by decide) (by unfold isD;decide)
def CT (s:ByteArray):Option V2:=
 match AK (BK s 44),AK (BU s 44) with
 | some a,some b=>if (DY s 44 && AP (a,b))=true then some (a,b) else none
 | _,_=>none
theorem Ig {s:ByteArray} {v:V2} : CT s=some v↔AP v=true/\Fx v=s:=by
 unfold CT
 constructor
 ·intro h
  split at h
  ·rename_i a b ha hb
   split at h
   ·rename_i hc
    obtain rfl:=Option.some.inj h
    simp only [Bool.and_eq_true] at hc
    refine ⟨hc.2,?_⟩
    rcases If s 44 with h1|h1
    ·rw [h1.1] at hc;cases hc.1
    ·rw [h1.2.1]
     show AJ a++⟨#[44]⟩++AJ b=_
     rw [(BB.1 ha).2,(BB.1 hb).2]
   ·cases h
  ·cases h
 ·rintro ⟨h1,rfl⟩
  obtain ⟨a,b⟩:=v
  have hc:BK (Fx (a,b)) 44=AJ a/\BU (Fx (a,b)) 44=AJ b/\DY (Fx (a,b)) 44=true:=M8 (DZ a)
  have h64:=J0 h1
  rw [hc.1,hc.2.1,hc.2.2,BB.2 ⟨h64.1,rfl⟩,BB.2 ⟨h64.2,rfl⟩]
  show (if (true && AP (a,b))=true then some (a,b) else none)=_
  rw [h1]
  rfl
def vOf (s:ByteArray):V2:=(CT s).getD (0,0)
def okV (s:ByteArray):Bool:=(CT s).isSome
theorem AA {s:ByteArray} (h:CT s=none):okV s=false/\vOf s=(0,0):=by unfold okV vOf;rw [h];exact ⟨rfl,rfl⟩
theorem AN {s:ByteArray} {v:V2} (h:CT s=some v):okV s=true/\vOf s=v:=by unfold okV vOf;rw [h];exact ⟨rfl,rfl⟩
def AB (c:UInt8) (s:ByteArray):List ByteArray:=(Eq c s.data.toList).map ofB
def okP (s:ByteArray):Bool:=(AB 32 s).all okV && AX ((AB 32 s).map vOf)
def BQ (s:ByteArray):List V2:=if okP s=true then (AB 32 s).map vOf else []
theorem Ah {s:ByteArray} (h:okP s=false):BQ s=[]:=if_neg (by rw [h];simp)
theorem Ab {s:ByteArray} (h:okP s=true):BQ s=(AB 32 s).map vOf:=if_pos h
theorem Dz (c:UInt8) (s:ByteArray):Lib.splitB ⟨#[c]⟩ 0 (Lib.countB s ⟨#[c]⟩) s=AB c s:=by
 have h:=Ie c s.size s (Nat.le_refl _)
 unfold AB
 rw [← h,List.map_map]
 conv=>lhs;rw [← List.map_id (Lib.splitB ⟨#[c]⟩ 0 (Lib.countB s ⟨#[c]⟩) s)]
 refine List.map_congr_left λ x _=>(F1 x).symm
def F3 (c:UInt8) (s:ByteArray) (i:Nat):List UInt8:=(BA c (s.data.toList.take i)).2
def wo (c:UInt8) (s:ByteArray) (i:Nat):List ByteArray:=(BA c (s.data.toList.take i)).1.map ofB
def wf (c:UInt8) (s:ByteArray) (i:Nat):Nat:=i-(F3 c s i).length
theorem Da (c:UInt8):∀ (l:List UInt8) (o:List (List UInt8)) (u:List UInt8),∃ d,(l.foldl (Au c) (o,u)).2=(u++l).drop d
 | [],o,u=>⟨0,by simp⟩
 | b::l,o,u=>by
  rw [List.foldl_cons]
  by_cases h:b=c
  ·rw [show Au c (o,u) b=(o++[u],[]) from if_pos h]
   obtain ⟨d,hd⟩:=Da c l (o++[u]) []
   refine ⟨u.length+1+d,?_⟩
   rw [hd,← List.drop_drop]
   congr 1
   simp [List.drop_append,List.drop_eq_nil_of_le]
  ·rw [show Au c (o,u) b=(o,u++[b]) from if_neg h]
   obtain ⟨d,hd⟩:=Da c l o (u++[b])
   exact ⟨d,by rw [hd];simp⟩
theorem HZ (c:UInt8) (s:ByteArray) {i:Nat} (hi:i<=s.size):(F3 c s i).length<=i/\(s.extract (wf c s i) i)=ofB (F3 c s i):=by
 have hl:(s.data.toList.take i).length=i:=by
  rw [List.length_take];have:s.data.toList.length=s.size:=rfl;omega
 obtain ⟨d,hd⟩:=Da c (s.data.toList.take i) [] []
 have hd:F3 c s i=(s.data.toList.take i).drop d:=by simpa [F3,BA] using hd
 have hlen:(F3 c s i).length=i-d:=by rw [hd,List.length_drop,hl]
 refine ⟨by omega,?_⟩
 apply bx
 rw [Lu]
 have e1:(s.extract (wf c s i) i).data.toList=(s.data.toList.take i).drop (wf c s i):=by
  simp [ByteArray.data_extract,List.extract,List.drop_take]
 rw [e1]
 unfold wf
 by_cases hdi:d<=i
 ·rw [hlen,show i-(i-d)=d by omega,hd]
 ·rw [hlen,show i-(i-d)=i by omega,hd,List.drop_eq_nil_of_le (by omega),List.drop_eq_nil_of_le (by omega)]
theorem DK (c:UInt8) (s:ByteArray) (i:Nat):wf c s i<=i:=Nat.sub_le _ _
theorem F4 (c:UInt8) (s:ByteArray) {i:Nat} (hi:i<s.size):BA c (s.data.toList.take (i+1))=Au c (BA c (s.data.toList.take i)) (s.get! i):=by
 have hi' : i<s.data.toList.length:=hi
 rw [List.take_succ_eq_append_getElem hi',BA,List.foldl_append,CI _ _ hi,List.getD_eq_getElem?_getD,List.getElem?_eq_getElem hi']
 rfl
theorem Lv {c:UInt8} {s:ByteArray} {i:Nat} (hi:i<s.size) (h:s.get! i=c):wo c s (i+1)=wo c s i++[s.extract (wf c s i) i]/\wf c s (i+1)=i+1:=by
 have e:=F4 c s hi
 rw [show Au c (BA c (s.data.toList.take i)) (s.get! i)=((BA c (s.data.toList.take i)).1++[(BA c (s.data.toList.take i)).2],[]) from if_pos h] at e
 refine ⟨?_,?_⟩
 ·unfold wo;rw [e,(HZ c s (show i<=s.size by omega)).2];simp [F3]
 ·unfold wf F3;rw [e];simp
theorem JX {c:UInt8} {s:ByteArray} {i:Nat} (hi:i<s.size) (h:s.get! i≠c):wo c s (i+1)=wo c s i/\wf c s (i+1)=wf c s i:=by
 have e:=F4 c s hi
 rw [show Au c (BA c (s.data.toList.take i)) (s.get! i)=((BA c (s.data.toList.take i)).1,(BA c (s.data.toList.take i)).2++[s.get! i]) from if_neg h] at e
 refine ⟨by unfold wo;rw [e],?_⟩
 have:=(HZ c s (show i<=s.size by omega)).1
 unfold wf F3 at *
 rw [e];simp only [List.length_append,List.length_singleton];omega
theorem Lw (c:UInt8) (s:ByteArray):AB c s=wo c s s.size++[s.extract (wf c s s.size) s.size]:=by
 have ht:s.data.toList.take s.size=s.data.toList:=List.take_of_length_le (Nat.le_refl _)
 rw [(HZ c s (Nat.le_refl _)).2]
 unfold AB Eq wo F3
 rw [ht];simp
theorem BR (c:UInt8) (s:ByteArray):∀ {i:Nat},i<=s.size->(wo c s i).length<=i
 | 0,_=>by simp [wo,BA]
 | i+1,h=>by
  have ih:=BR c s (show i<=s.size by omega)
  by_cases hc:s.get! i=c
  ·rw [(Lv (by omega) hc).1,List.length_append];simp;omega
  ·rw [(JX (by omega) hc).1];omega
theorem Db (c:UInt8) (s:ByteArray):(AB c s).length<=s.size+1:=by
 have:=BR c s (Nat.le_refl s.size)
 rw [Lw,List.length_append];simp;omega
theorem Ae {c:UInt8} {s w:ByteArray} (h:w ∈ AB c s):w.size<=s.size:=by
 have key:∀ i,i<=s.size->∀ w ∈ wo c s i,w.size<=s.size:=by
  intro i
  induction i with
  | zero=>intro _ w hw;simp [wo,BA] at hw
  | succ i ih=>
   intro hi w hw
   by_cases hc:s.get! i=c
   ·rw [(Lv (by omega) hc).1] at hw
    rcases List.mem_append.1 hw with hw|hw
    ·exact ih (by omega) w hw
    ·rw [List.mem_singleton.1 hw,ByteArray.size_extract];omega
   ·rw [(JX (by omega) hc).1] at hw
    exact ih (by omega) w hw
 rw [Lw] at h
 rcases List.mem_append.1 h with h|h
 ·exact key _ (Nat.le_refl _) w h
 ·rw [List.mem_singleton.1 h,ByteArray.size_extract];omega
def CU (c:UInt8):Bool:=decide (48<=c.toNat) && decide (c.toNat<=57)
def Ap (t:ByteArray):Bool:=decide (0<t.size) && t.data.toList.all CU
theorem Ih {c:UInt8} : CU c=true↔isD c:=by simp [CU,isD]
theorem Gu {u:Nat} {t:ByteArray} (h:t.data.toList=Lib.decDigits u) (hu:u<=9223372036854775808):Ap t=true/\t.size<=19/\dvF 0 t.data.toList=u:=by
 obtain ⟨d1,d2,d3⟩:=C7 u
 have hl:=MY 18 u (by omega)
 have hs:t.size=(Lib.decDigits u).length:=by rw [← h];rfl
 refine ⟨?_,by omega,by rw [h,d3]⟩
 have hpos:0<(Lib.decDigits u).length:=List.length_pos_iff.2 d2
 simp only [Ap,Bool.and_eq_true,decide_eq_true_eq,List.all_eq_true]
 exact ⟨by omega,λ c hc=>Ih.2 (d1 c (by rw [← h];exact hc))⟩
theorem J4 {s:ByteArray} (h:0<s.size):∃ r,s.data.toList=s.get! 0::r/\(s.extract 1 s.size).data.toList=r:=by
 have e:=CI s 0 h
 have hl:s.data.toList.length=s.size:=rfl
 cases hd:s.data.toList with
 | nil=>rw [hd] at hl;simp at hl;omega
 | cons c r=>
  rw [hd] at e
  refine ⟨r,by rw [e];rfl,?_⟩
  have:s.data.toList.extract 1 s.size=r:=by
   rw [hd,← hl,hd];simp [List.extract]
  simpa [ByteArray.data_extract] using this
theorem Kj {s:ByteArray} {v:Int} (h0:0<s.size) (h:s.get! 0=45) (hv:AJ v=s):v<0/\(s.extract 1 s.size).data.toList=Lib.decDigits v.natAbs:=by
 obtain ⟨r,e1,e2⟩:=J4 h0
 rw [e2]
 have hd:Lib.itoa v=s.get! 0::r:=by rw [← e1,← hv];rfl
 rw [h] at hd
 unfold Lib.itoa at hd
 split at hd
 ·rename_i hn
  exact ⟨hn,(List.cons.inj hd).2.symm⟩
 ·exfalso
  have:=(C7 v.toNat).1 45 (by rw [hd];simp)
  revert this;unfold isD;decide
theorem Kk {s:ByteArray} {v:Int} (h:0<s.size->s.get! 0≠45) (hv:AJ v=s):0<=v/\s.data.toList=Lib.decDigits v.natAbs:=by
 have hd:s.data.toList=Lib.itoa v:=by rw [← hv];rfl
 unfold Lib.itoa at hd
 split at hd
 ·exfalso
  have h0:0<s.size:=by
   have:s.data.toList.length=s.size:=rfl
   rw [hd] at this;simp at this;omega
  obtain ⟨r,e1,-⟩:=J4 h0
  rw [e1] at hd
  exact h h0 (List.cons.inj hd).1
 ·rename_i hn
  exact ⟨by omega,by rw [hd];congr 1;omega⟩
def tOf (neg:Bool) (s:ByteArray):ByteArray:=if neg=true then s.extract 1 s.size else s
def AE (s:ByteArray):Bool:=decide (0<s.size) && (s.get! 0 == 45)
theorem Ii {s:ByteArray} {v:Int} (h:GI v) (hv:AJ v=s):AE s=decide (v<0)/\Ap (tOf (AE s) s)=true/\(tOf (AE s) s).size<=19/\dvF 0 (tOf (AE s) s).data.toList=v.natAbs:=by
 unfold GI at h
 cases hn:AE s with
 | true=>
  simp only [AE,Bool.and_eq_true,decide_eq_true_eq,beq_iff_eq] at hn
  obtain ⟨h1,h2⟩:=Kj hn.1 hn.2 hv
  obtain ⟨q1,q2,q3⟩:=Gu h2 (by omega)
  simp only [tOf,if_true]
  exact ⟨by simp [h1],q1,q2,q3⟩
 | false=>
  have hn' : 0<s.size->s.get! 0≠45:=λ h0 he=>by
   simp [AE,h0,he] at hn
  obtain ⟨h1,h2⟩:=Kk hn' hv
  obtain ⟨q1,q2,q3⟩:=Gu h2 (by omega)
  exact ⟨by simp;omega,q1,q2,q3⟩
theorem BL {s:ByteArray} (h:Ap (tOf (AE s) s)=false∨19<(tOf (AE s) s).size∨9223372036854775808<dvF 0 (tOf (AE s) s).data.toList∨(AE s=false/\dvF 0 (tOf (AE s) s).data.toList=9223372036854775808)):AK s=none:=by
 refine Gt λ v hv he=>?_
 obtain ⟨p1,p2,p3,p4⟩:=Ii hv he
 unfold GI at hv
 rcases h with h|h|h|⟨h,h'⟩
 ·rw [p2] at h;cases h
 ·omega
 ·omega
 ·rw [p1] at h
  simp at h
  omega
def nOf (s:ByteArray):Int:=if AE s=true then -((dvF 0 (tOf (AE s) s).data.toList:Nat):Int) else ((dvF 0 (tOf (AE s) s).data.toList:Nat):Int)
theorem C8 {s:ByteArray} (h:AJ (nOf s)≠s):AK s=none:=by
 refine Gt λ v hv he=>h ?_
 obtain ⟨p1,p2,p3,p4⟩:=Ii hv he
 have:nOf s=v:=by
  unfold nOf
  rw [p4,p1]
  by_cases hn:v<0
  ·rw [if_pos (by simp [hn])];omega
  ·rw [if_neg (by simp [hn])];omega
 rw [this,he]
theorem CJ {s:ByteArray} (h:AJ (nOf s)=s) (h64:GI (nOf s)):AK s=some (nOf s):=BB.2 ⟨h64,h⟩
theorem MZ {t:ByteArray} {k:Nat} (hk:k<t.size):dvF 0 (t.data.toList.take (k+1))=dvF 0 (t.data.toList.take k)*10+((t.get! k).toNat-48):=by
 have hk' : k<t.data.toList.length:=hk
 rw [List.take_succ_eq_append_getElem hk',J2,CI _ _ hk,List.getD_eq_getElem?_getD,List.getElem?_eq_getElem hk']
 rfl
theorem Ma {t:ByteArray} (h:Ap t=true) {k:Nat} (hk:k<t.size):48<=(t.get! k).toNat/\(t.get! k).toNat<=57:=by
 simp only [Ap,Bool.and_eq_true,decide_eq_true_eq,List.all_eq_true] at h
 have hk' : k<t.data.toList.length:=hk
 have:=h.2 (t.data.toList[k]) (List.getElem_mem hk')
 rw [CI _ _ hk,List.getD_eq_getElem?_getD,List.getElem?_eq_getElem hk']
 exact Ih.1 this
end Go.Proofs.YtcpjekkiejhgpaaDoor
