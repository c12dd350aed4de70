import Derived.Test.YtdgmbbjoifneiaaGreatDoorPyBas
namespace Go.Proofs.YtdgmbbjoifneiaaGreatDoor
set_option linter.unusedVariables false
set_option linter.unusedSimpArgs false
def Au (a b:V2):Bool:=decide (a.1<b.1) || (decide (a.1=b.1) && decide (a.2<b.2))
theorem TH {a b:V2} : Au a b=true↔a.1<b.1∨(a.1=b.1/\a.2<b.2):=by simp [Au]
def G6 (p:V2):List V2->List V2
 | []=>[p]
 | a::t=>if Au a p=true then a::G6 p t else if a=p then a::t else p::a::t
theorem Na {p x:V2} : ∀ {s:List V2},x ∈ G6 p s↔x=p∨x ∈ s
 | []=>by simp [G6]
 | a::t=>by
  unfold G6
  split
  ·rw [List.mem_cons,Na (s:=t),List.mem_cons]
   constructor
   ·rintro (h|h|h) <;> simp [h]
   ·rintro (h|h|h) <;> simp [h]
  ·split
   ·next h=>subst h;simp
   ·simp
def AC (l:List V2):Nat->List V2
 | 0=>[]
 | k+1=>G6 (l.getD k (0,0)) (AC l k)
theorem Jt (l:List V2) (x:V2):∀ k,k<=l.length->(x ∈ AC l k↔x ∈ l.take k)
 | 0,_=>by simp [AC]
 | k+1,hk=>by
  have ih:=Jt l x k (by omega)
  have e:l.take (k+1)=l.take k++[l.getD k (0,0)]:=by
   rw [List.take_add_one];simp [List.getD,show k<l.length by omega]
  unfold AC
  rw [Na,e,List.mem_append,ih]
  simp only [List.mem_singleton]
  exact Or.comm
theorem Nb (p:V2):∀ s:List V2,(G6 p s).length<=s.length+1
 | []=>by simp [G6]
 | a::t=>by
  have:=Nb p t
  unfold G6
  split
  ·simp only [List.length_cons];omega
  ·split <;> simp
theorem Ju (l:List V2):∀ k,(AC l k).length<=k
 | 0=>Nat.le_refl _
 | k+1=>by have:=Ju l k;have:=Nb (l.getD k (0,0)) (AC l k);unfold AC;omega
theorem TJ {l:List V2} (h:l.all AE=true) {k:Nat} (hk:k<=l.length):(AC l k).all AE=true:=by
 rw [List.all_eq_true] at *
 intro x hx
 exact h x (List.mem_of_mem_take ((Jt l x k hk).1 hx))
theorem PD {p:V2} : ∀ {s:List V2} {n:Nat},n<=s.length->(∀ j,j<n->Au (s.getD j (0,0)) p=true)->(n<s.length->Au (s.getD n (0,0)) p=false) ->
  G6 p s=if n<s.length/\s.getD n (0,0)=p then s else s.take n++p::s.drop n
 | [],n,hn,_,_=>by
  have:n=0:=by simpa using hn
  subst this
  simp [G6]
 | a::t,0,_,_,h0=>by
  have h0:=h0 (by simp)
  simp only [List.getD_cons_zero] at h0
  unfold G6
  rw [if_neg (by rw [h0];simp)]
  simp
 | a::t,n+1,hn,hl,hc=>by
  have h0:=hl 0 (by omega)
  simp only [List.getD_cons_zero] at h0
  have ih:=PD (p:=p) (s:=t) (n:=n) (by simpa using hn) (λ j hj=>by have:=hl (j+1) (by omega);simpa using this) (λ h=>by have:=hc (by simpa using h);simpa using this)
  unfold G6
  rw [if_pos h0,ih]
  simp only [List.length_cons,Nat.add_lt_add_iff_right,List.getD_cons_succ,List.take_succ_cons,List.drop_succ_cons,List.cons_append]
  split <;> rfl
def DZ (s:List V2) (v:V2):List V2:=
 if h:1<s.length/\AM (s.getD (s.length-2) (0,0)) (s.getD (s.length-1) (0,0)) v<=0 then DZ (s.take (s.length-1)) v else s
termination_by s.length
decreasing_by simp only [List.length_take]; omega
theorem Nc {s:List V2} {v:V2} (h:1<s.length) (h2:AM (s.getD (s.length-2) (0,0)) (s.getD (s.length-1) (0,0)) v<=0):DZ (s.take (s.length-1)) v=DZ s v:=by
 conv=>rhs;rw [DZ,dif_pos ⟨h,h2⟩]
theorem Iz {s:List V2} {v:V2} (h:¬ (1<s.length/\AM (s.getD (s.length-2) (0,0)) (s.getD (s.length-1) (0,0)) v<=0)):DZ s v=s:=by
 rw [DZ,dif_neg h]
theorem H4 (v:V2):∀ (n:Nat) (s:List V2),s.length<=n->∃ m,m<=s.length/\DZ s v=s.take m
 | 0,s,h=>⟨0,by omega,by rw [Iz (by omega)];simp [List.eq_nil_of_length_eq_zero (by omega:s.length=0)]⟩
 | n+1,s,h=>by
  by_cases hc:1<s.length/\AM (s.getD (s.length-2) (0,0)) (s.getD (s.length-1) (0,0)) v<=0
  ·obtain ⟨m,h1,h2⟩:=H4 v n (s.take (s.length-1)) (by simp only [List.length_take];omega)
   simp only [List.length_take] at h1
   exact ⟨m,by omega,by rw [← Nc hc.1 hc.2,h2,List.take_take,Nat.min_eq_left (by omega)]⟩
  ·exact ⟨s.length,Nat.le_refl _,by rw [Iz hc,List.take_length]⟩
def chT (l:List V2):Nat->List V2
 | 0=>[]
 | k+1=>DZ (chT l k) (l.getD k (0,0))++[l.getD k (0,0)]
theorem PE {l:List V2} (h:l.all AE=true):∀ k,k<=l.length->(chT l k).length<=k/\(chT l k).all AE=true
 | 0,_=>⟨Nat.le_refl _,rfl⟩
 | k+1,hk=>by
  obtain ⟨h1,h2⟩:=PE h k (by omega)
  obtain ⟨m,hm,e⟩:=H4 (l.getD k (0,0)) _ (chT l k) (Nat.le_refl _)
  unfold chT
  rw [e]
  refine ⟨by simp only [List.length_append,List.length_take,List.length_cons,List.length_nil];omega,?_⟩
  rw [List.all_append,Bool.and_eq_true]
  refine ⟨?_,?_⟩
  ·rw [List.all_eq_true] at *
   exact λ x hx=>h2 x (List.mem_of_mem_take hx)
  ·have:AE (l.getD k (0,0))=true:=List.all_eq_true.1 h _ (by simp [List.getD,show k<l.length by omega])
   simp only [List.all_cons,List.all_nil,this];rfl
theorem VF (l:List V2) (k:Nat):0<(chT l (k+1)).length:=by unfold chT;simp
theorem Nd {l o:List V2} {k:Nat} (h:DZ o (l.getD k (0,0))=DZ (chT l k) (l.getD k (0,0))) (hn:DZ o (l.getD k (0,0))=o):o++[l.getD k (0,0)]=chT l (k+1):=by
 unfold chT;rw [← h,hn]
def XL (l:List V2):List V2:=l.take (l.length-1)
def Jv (l:List V2):List V2:=XL (chT l l.length)
def PF (s:List V2):List V2:=if s.length<3 then s else Jv s++Jv s.reverse
def Ar (l:List V2):List V2:=if l.length<=64/\l.all AE=true then PF (AC l l.length) else []
theorem TK {P:Nat->Prop} {k:Nat} (h:∀ j,j<k->P j) (hk:P k):∀ j,j<k+1->P j:=λ j hj=>by
 rcases Nat.lt_succ_iff_lt_or_eq.1 hj with hj|rfl
 ·exact h j hj
 ·exact hk
theorem RS {l:List V2} (h1:l.length<=64) (h2:l.all AE=true):Ar l=PF (AC l l.length):=by unfold Ar;rw [if_pos ⟨h1,h2⟩]
theorem PG {l:List V2} (h:64<l.length):Ar l=[]:=by unfold Ar;rw [if_neg (by omega)]
theorem RU {l:List V2} (h:l.all AE=false):Ar l=[]:=by unfold Ar;rw [if_neg (by rw [h];simp)]
theorem TL {l:List V2} {k:Nat} (hk:k<l.length) (h:AE (l.getD k (0,0))=false):Ar l=[]:=
 RU (by rw [List.all_eq_false];exact ⟨l.getD k (0,0),by simp [List.getD,hk],by rw [h];simp⟩)
theorem L7 {l:List V2} {k:Nat} (hk:k<l.length) (h:(l.take k).all AE=true) (hV:AE (l.getD k (0,0))=true):(l.take (k+1)).all AE=true:=by
 have e:l.take (k+1)=l.take k++[l.getD k (0,0)]:=by
  rw [List.take_add_one];simp [List.getD,show k<l.length by omega]
 rw [e,List.all_append,h]
 simp only [List.all_cons,List.all_nil,hV];rfl
theorem VG {a b:V2} (h:[a.1,a.2]=[b.1,b.2]):a=b:=by
 simp only [List.cons.injEq,and_true] at h
 exact Prod.ext h.1 h.2
theorem TM {l:List V2} {k n:Nat} (hn:n<(AC l k).length) (hl:∀ j,j<n->Au ((AC l k).getD j (0,0)) (l.getD k (0,0))=true) (hc:Au ((AC l k).getD n (0,0)) (l.getD k (0,0))=false) (hq:(AC l k).getD n (0,0)=l.getD k (0,0)):AC l k=AC l (k+1):=by
 show _=G6 _ _
 rw [PD (Nat.le_of_lt hn) hl (λ _=>hc),if_pos ⟨hn,hq⟩]
theorem QB {l:List V2} {k n:Nat} (hn:n<=(AC l k).length) (hl:∀ j,j<n->Au ((AC l k).getD j (0,0)) (l.getD k (0,0))=true) (hc:n<(AC l k).length->Au ((AC l k).getD n (0,0)) (l.getD k (0,0))=false) (hq:n<(AC l k).length->(AC l k).getD n (0,0)≠l.getD k (0,0)):(AC l k).take n++l.getD k (0,0)::(AC l k).drop n=AC l (k+1):=by
 show _=G6 _ _
 rw [PD hn hl hc,if_neg (λ h=>hq h.1 h.2)]
theorem TN {s:List V2} (h:s.length<3):PF s=s:=by unfold PF;rw [if_pos h]
theorem RV {s:List V2} (h:¬ s.length<3):PF s=Jv s++Jv s.reverse:=by unfold PF;rw [if_neg h]
theorem QC {l:List V2} (h:l.all AE=true):l.reverse.all AE=true:=by
 rw [List.all_eq_true] at *
 exact λ x hx=>h x (List.mem_reverse.1 hx)
theorem QD {l:List V2} (h:l.all AE=true) (h0:0<l.length):0<(chT l l.length).length/\(chT l l.length).length<=l.length:=by
 refine ⟨?_,(PE h _ (Nat.le_refl _)).1⟩
 obtain ⟨m,hm⟩:∃ m,l.length=m+1:=⟨l.length-1,by omega⟩
 rw [hm];exact VF l m
theorem Ne (l:List V2):(AA (chT l l.length)).take ((chT l l.length).length-1)=AA (Jv l):=by simp [AA,Jv,XL,List.map_take]
theorem Fw (a b:List V2):AA (a++b)=AA a++AA b:=by simp [AA]
theorem TO {s:List V2} {j:Nat} (hj:j<s.length):AA (s.reverse.take j)++[[.int (s.getD (s.length-1-j) (0,0)).1,.int (s.getD (s.length-1-j) (0,0)).2]]=AA (s.reverse.take (j+1)):=by
 have e:s.reverse.take (j+1)=s.reverse.take j++[s.getD (s.length-1-j) (0,0)]:=by
  rw [List.take_add_one,List.getElem?_reverse hj]
  simp [List.getD,show s.length-1-j<s.length by omega]
 rw [e,Fw];rfl
theorem Nf (s:List V2) (n:Nat) (v:V2):(((([]:List (List Dat))++(AA s).take n)++([[Dat.int v.1,Dat.int v.2]]:List (List Dat)))++((AA s).take (((AA s).length:Int).toNat)).drop n)=AA (s.take n++v::s.drop n):=by
 rw [Int.toNat_natCast,List.take_length]
 simp [AA,Ih,List.map_take,List.map_drop]
end Go.Proofs.YtdgmbbjoifneiaaGreatDoor
