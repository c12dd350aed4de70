import Derived.Test.YtndnhlhnjiopfaaGreatSgBas
namespace Go.Proofs.YtndnhlhnjiopfaaGreat
set_option linter.unusedVariables false
set_option linter.unusedSimpArgs false
def CZ (a b:V2):Bool:=decide (a.1<b.1) || (decide (a.1=b.1) && decide (a.2<b.2))
theorem US {a b:V2} : CZ a b=true↔a.1<b.1∨(a.1=b.1/\a.2<b.2):=by simp [CZ]
def H9 (p:V2):List V2->List V2
 | []=>[p]
 | a::t=>if CZ a p=true then a::H9 p t else if a=p then a::t else p::a::t
theorem Oo {p x:V2} : ∀ {s:List V2},x ∈ H9 p s↔x=p∨x ∈ s
 | []=>by simp [H9]
 | a::t=>by
  unfold H9
  split
  ·rw [List.mem_cons,Oo (s:=t),List.mem_cons]
   constructor
   ·rintro (h|h|h) <;> simp [h]
   ·rintro (h|h|h) <;> simp [h]
  ·split
   ·next h=>subst h;simp
   ·simp
def Am (l:List V2):Nat->List V2
 | 0=>[]
 | k+1=>H9 (l.getD k (0,0)) (Am l k)
theorem LK (l:List V2) (x:V2):∀ k,k<=l.length->(x ∈ Am l k↔x ∈ l.take k)
 | 0,_=>by simp [Am]
 | k+1,hk=>by
  have ih:=LK l x k (by omega)
  have e:l.take (k+1)=l.take k++[l.getD k (0,0)]:=by
   rw [List.take_add_one];simp [List.getD,show k<l.length by omega]
  unfold Am
  rw [Oo,e,List.mem_append,ih]
  simp only [List.mem_singleton]
  exact Or.comm
theorem Oq (p:V2):∀ s:List V2,(H9 p s).length<=s.length+1
 | []=>by simp [H9]
 | a::t=>by
  have:=Oq p t
  unfold H9
  split
  ·simp only [List.length_cons];omega
  ·split <;> simp
theorem LL (l:List V2):∀ k,(Am l k).length<=k
 | 0=>Nat.le_refl _
 | k+1=>by have:=LL l k;have:=Oq (l.getD k (0,0)) (Am l k);unfold Am;omega
theorem UT {l:List V2} (h:l.all AP=true) {k:Nat} (hk:k<=l.length):(Am l k).all AP=true:=by
 rw [List.all_eq_true] at *
 intro x hx
 exact h x (List.mem_of_mem_take ((LK l x k hk).1 hx))
theorem QG {p:V2} : ∀ {s:List V2} {n:Nat},n<=s.length->(∀ j,j<n->CZ (s.getD j (0,0)) p=true)->(n<s.length->CZ (s.getD n (0,0)) p=false) ->
  H9 p s=if n<s.length/\s.getD n (0,0)=p then s else s.take n++p::s.drop n
 | [],n,hn,_,_=>by
  have:n=0:=by simpa using hn
  subst this
  simp [H9]
 | a::t,0,_,_,h0=>by
  have h0:=h0 (by simp)
  simp only [List.getD_cons_zero] at h0
  unfold H9
  rw [if_neg (by rw [h0];simp)]
  simp
 | a::t,n+1,hn,hl,hc=>by
  have h0:=hl 0 (by omega)
  simp only [List.getD_cons_zero] at h0
  have ih:=QG (p:=p) (s:=t) (n:=n) (by simpa using hn) (λ j hj=>by have:=hl (j+1) (by omega);simpa using this) (λ h=>by have:=hc (by simpa using h);simpa using this)
  unfold H9
  rw [if_pos h0,ih]
  simp only [List.length_cons,Nat.add_lt_add_iff_right,List.getD_cons_succ,List.take_succ_cons,List.drop_succ_cons,List.cons_append]
  split <;> rfl
def EJ (s:List V2) (v:V2):List V2:=
 if h:1<s.length/\AZ (s.getD (s.length-2) (0,0)) (s.getD (s.length-1) (0,0)) v<=0 then EJ (s.take (s.length-1)) v else s
termination_by s.length
decreasing_by simp only [List.length_take]; omega
theorem Ot {s:List V2} {v:V2} (h:1<s.length) (h2:AZ (s.getD (s.length-2) (0,0)) (s.getD (s.length-1) (0,0)) v<=0):EJ (s.take (s.length-1)) v=EJ s v:=by
 conv=>rhs;rw [EJ,dif_pos ⟨h,h2⟩]
theorem J7 {s:List V2} {v:V2} (h:¬ (1<s.length/\AZ (s.getD (s.length-2) (0,0)) (s.getD (s.length-1) (0,0)) v<=0)):EJ s v=s:=by
 rw [EJ,dif_neg h]
theorem I3 (v:V2):∀ (n:Nat) (s:List V2),s.length<=n->∃ m,m<=s.length/\EJ s v=s.take m
 | 0,s,h=>⟨0,by omega,by rw [J7 (by omega)];simp [List.eq_nil_of_length_eq_zero (by omega:s.length=0)]⟩
 | n+1,s,h=>by
  by_cases hc:1<s.length/\AZ (s.getD (s.length-2) (0,0)) (s.getD (s.length-1) (0,0)) v<=0
  ·obtain ⟨m,h1,h2⟩:=I3 v n (s.take (s.length-1)) (by simp only [List.length_take];omega)
   simp only [List.length_take] at h1
   exact ⟨m,by omega,by rw [← Ot hc.1 hc.2,h2,List.take_take,Nat.min_eq_left (by omega)]⟩
  ·exact ⟨s.length,Nat.le_refl _,by rw [J7 hc,List.take_length]⟩
def chT (l:List V2):Nat->List V2
 | 0=>[]
 | k+1=>EJ (chT l k) (l.getD k (0,0))++[l.getD k (0,0)]
theorem QH {l:List V2} (h:l.all AP=true):∀ k,k<=l.length->(chT l k).length<=k/\(chT l k).all AP=true
 | 0,_=>⟨Nat.le_refl _,rfl⟩
 | k+1,hk=>by
  obtain ⟨h1,h2⟩:=QH h k (by omega)
  obtain ⟨m,hm,e⟩:=I3 (l.getD k (0,0)) _ (chT l k) (Nat.le_refl _)
  unfold chT
  rw [e]
  refine ⟨by simp only [List.length_append,List.length_take,List.length_cons,List.length_nil];omega,?_⟩
  rw [List.all_append,Bool.and_eq_true]
  refine ⟨?_,?_⟩
  ·rw [List.all_eq_true] at *
   exact λ x hx=>h2 x (List.mem_of_mem_take hx)
  ·have:AP (l.getD k (0,0))=true:=List.all_eq_true.1 h _ (by simp [List.getD,show k<l.length by omega])
   simp only [List.all_cons,List.all_nil,this];rfl
theorem Vc (l:List V2) (k:Nat):0<(chT l (k+1)).length:=by unfold chT;simp
theorem Ou {l o:List V2} {k:Nat} (h:EJ o (l.getD k (0,0))=EJ (chT l k) (l.getD k (0,0))) (hn:EJ o (l.getD k (0,0))=o):o++[l.getD k (0,0)]=chT l (k+1):=by
 unfold chT;rw [← h,hn]
def XU (l:List V2):List V2:=l.take (l.length-1)
def LM (l:List V2):List V2:=XU (chT l l.length)
def QI (s:List V2):List V2:=if s.length<3 then s else LM s++LM s.reverse
def Ch (l:List V2):List V2:=if l.length<=64/\l.all AP=true then QI (Am l l.length) else []
theorem UU {P:Nat->Prop} {k:Nat} (h:∀ j,j<k->P j) (hk:P k):∀ j,j<k+1->P j:=λ j hj=>by
 rcases Nat.lt_succ_iff_lt_or_eq.1 hj with hj|rfl
 ·exact h j hj
 ·exact hk
theorem SV {l:List V2} (h1:l.length<=64) (h2:l.all AP=true):Ch l=QI (Am l l.length):=by unfold Ch;rw [if_pos ⟨h1,h2⟩]
theorem QJ {l:List V2} (h:64<l.length):Ch l=[]:=by unfold Ch;rw [if_neg (by omega)]
theorem SW {l:List V2} (h:l.all AP=false):Ch l=[]:=by unfold Ch;rw [if_neg (by rw [h];simp)]
theorem UV {l:List V2} {k:Nat} (hk:k<l.length) (h:AP (l.getD k (0,0))=false):Ch l=[]:=
 SW (by rw [List.all_eq_false];exact ⟨l.getD k (0,0),by simp [List.getD,hk],by rw [h];simp⟩)
theorem NM {l:List V2} {k:Nat} (hk:k<l.length) (h:(l.take k).all AP=true) (hV:AP (l.getD k (0,0))=true):(l.take (k+1)).all AP=true:=by
 have e:l.take (k+1)=l.take k++[l.getD k (0,0)]:=by
  rw [List.take_add_one];simp [List.getD,show k<l.length by omega]
 rw [e,List.all_append,h]
 simp only [List.all_cons,List.all_nil,hV];rfl
theorem Vd {a b:V2} (h:[a.1,a.2]=[b.1,b.2]):a=b:=by
 simp only [List.cons.injEq,and_true] at h
 exact Prod.ext h.1 h.2
theorem UW {l:List V2} {k n:Nat} (hn:n<(Am l k).length) (hl:∀ j,j<n->CZ ((Am l k).getD j (0,0)) (l.getD k (0,0))=true) (hc:CZ ((Am l k).getD n (0,0)) (l.getD k (0,0))=false) (hq:(Am l k).getD n (0,0)=l.getD k (0,0)):Am l k=Am l (k+1):=by
 show _=H9 _ _
 rw [QG (Nat.le_of_lt hn) hl (λ _=>hc),if_pos ⟨hn,hq⟩]
theorem RH {l:List V2} {k n:Nat} (hn:n<=(Am l k).length) (hl:∀ j,j<n->CZ ((Am l k).getD j (0,0)) (l.getD k (0,0))=true) (hc:n<(Am l k).length->CZ ((Am l k).getD n (0,0)) (l.getD k (0,0))=false) (hq:n<(Am l k).length->(Am l k).getD n (0,0)≠l.getD k (0,0)):(Am l k).take n++l.getD k (0,0)::(Am l k).drop n=Am l (k+1):=by
 show _=H9 _ _
 rw [QG hn hl hc,if_neg (λ h=>hq h.1 h.2)]
theorem UX {s:List V2} (h:s.length<3):QI s=s:=by unfold QI;rw [if_pos h]
theorem SX {s:List V2} (h:¬ s.length<3):QI s=LM s++LM s.reverse:=by unfold QI;rw [if_neg h]
theorem RI {l:List V2} (h:l.all AP=true):l.reverse.all AP=true:=by
 rw [List.all_eq_true] at *
 exact λ x hx=>h x (List.mem_reverse.1 hx)
theorem RJ {l:List V2} (h:l.all AP=true) (h0:0<l.length):0<(chT l l.length).length/\(chT l l.length).length<=l.length:=by
 refine ⟨?_,(QH h _ (Nat.le_refl _)).1⟩
 obtain ⟨m,hm⟩:∃ m,l.length=m+1:=⟨l.length-1,by omega⟩
 rw [hm];exact Vc l m
theorem Ov (l:List V2):(AD (chT l l.length)).take ((chT l l.length).length-1)=AD (LM l):=by simp [AD,LM,XU,List.map_take]
theorem Ma (a b:List V2):AD (a++b)=AD a++AD b:=by simp [AD]
theorem UY {s:List V2} {j:Nat} (hj:j<s.length):AD (s.reverse.take j)++[[.int (s.getD (s.length-1-j) (0,0)).1,.int (s.getD (s.length-1-j) (0,0)).2]]=AD (s.reverse.take (j+1)):=by
 have e:s.reverse.take (j+1)=s.reverse.take j++[s.getD (s.length-1-j) (0,0)]:=by
  rw [List.take_add_one,List.getElem?_reverse hj]
  simp [List.getD,show s.length-1-j<s.length by omega]
 rw [e,Ma];rfl
theorem Ow (s:List V2) (n:Nat) (v:V2):(((([]:List (List Dat))++(AD s).take n)++([[Dat.int v.1,Dat.int v.2]]:List (List Dat)))++((AD s).take (((AD s).length:Int).toNat)).drop n)=AD (s.take n++v::s.drop n):=by
 rw [Int.toNat_natCast,List.take_length]
 simp [AD,Mm,List.map_take,List.map_drop]
end Go.Proofs.YtndnhlhnjiopfaaGreat
