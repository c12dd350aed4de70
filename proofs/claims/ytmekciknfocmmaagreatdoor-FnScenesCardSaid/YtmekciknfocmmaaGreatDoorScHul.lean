import Derived.Test.YtmekciknfocmmaaGreatDoorScBas
namespace Go.Proofs.YtmekciknfocmmaaGreatDoor
set_option linter.unusedVariables false
set_option linter.unusedSimpArgs false
def Bb (a b:V2):Bool:=decide (a.1<b.1) || (decide (a.1=b.1) && decide (a.2<b.2))
theorem Qw {a b:V2} : Bb a b=true↔a.1<b.1∨(a.1=b.1/\a.2<b.2):=by simp [Bb]
def Fz (p:V2):List V2->List V2
 | []=>[p]
 | a::t=>if Bb a p=true then a::Fz p t else if a=p then a::t else p::a::t
theorem MH {p x:V2} : ∀ {s:List V2},x ∈ Fz p s↔x=p∨x ∈ s
 | []=>by simp [Fz]
 | a::t=>by
  unfold Fz
  split
  ·rw [List.mem_cons,MH (s:=t),List.mem_cons]
   constructor
   ·rintro (h|h|h) <;> simp [h]
   ·rintro (h|h|h) <;> simp [h]
  ·split
   ·next h=>subst h;simp
   ·simp
def Ac (l:List V2):Nat->List V2
 | 0=>[]
 | k+1=>Fz (l.getD k (0,0)) (Ac l k)
theorem Iv (l:List V2) (x:V2):∀ k,k<=l.length->(x ∈ Ac l k↔x ∈ l.take k)
 | 0,_=>by simp [Ac]
 | k+1,hk=>by
  have ih:=Iv l x k (by omega)
  have e:l.take (k+1)=l.take k++[l.getD k (0,0)]:=by
   rw [List.take_add_one];simp [List.getD,show k<l.length by omega]
  unfold Ac
  rw [MH,e,List.mem_append,ih]
  simp only [List.mem_singleton]
  exact Or.comm
theorem MI (p:V2):∀ s:List V2,(Fz p s).length<=s.length+1
 | []=>by simp [Fz]
 | a::t=>by
  have:=MI p t
  unfold Fz
  split
  ·simp only [List.length_cons];omega
  ·split <;> simp
theorem Iw (l:List V2):∀ k,(Ac l k).length<=k
 | 0=>Nat.le_refl _
 | k+1=>by have:=Iw l k;have:=MI (l.getD k (0,0)) (Ac l k);unfold Ac;omega
theorem Qx {l:List V2} (h:l.all AH=true) {k:Nat} (hk:k<=l.length):(Ac l k).all AH=true:=by
 rw [List.all_eq_true] at *
 intro x hx
 exact h x (List.mem_of_mem_take ((Iv l x k hk).1 hx))
theorem Nk {p:V2} : ∀ {s:List V2} {n:Nat},n<=s.length->(∀ j,j<n->Bb (s.getD j (0,0)) p=true)->(n<s.length->Bb (s.getD n (0,0)) p=false) ->
  Fz p s=if n<s.length/\s.getD n (0,0)=p then s else s.take n++p::s.drop n
 | [],n,hn,_,_=>by
  have:n=0:=by simpa using hn
  subst this
  simp [Fz]
 | a::t,0,_,_,h0=>by
  have h0:=h0 (by simp)
  simp only [List.getD_cons_zero] at h0
  unfold Fz
  rw [if_neg (by rw [h0];simp)]
  simp
 | a::t,n+1,hn,hl,hc=>by
  have h0:=hl 0 (by omega)
  simp only [List.getD_cons_zero] at h0
  have ih:=Nk (p:=p) (s:=t) (n:=n) (by simpa using hn) (λ j hj=>by have:=hl (j+1) (by omega);simpa using this) (λ h=>by have:=hc (by simpa using h);simpa using this)
  unfold Fz
  rw [if_pos h0,ih]
  simp only [List.length_cons,Nat.add_lt_add_iff_right,List.getD_cons_succ,List.take_succ_cons,List.drop_succ_cons,List.cons_append]
  split <;> rfl
def Cy (s:List V2) (v:V2):List V2:=
 if h:1<s.length/\Al (s.getD (s.length-2) (0,0)) (s.getD (s.length-1) (0,0)) v<=0 then Cy (s.take (s.length-1)) v else s
termination_by s.length
decreasing_by simp only [List.length_take]; omega
theorem MJ {s:List V2} {v:V2} (h:1<s.length) (h2:Al (s.getD (s.length-2) (0,0)) (s.getD (s.length-1) (0,0)) v<=0):Cy (s.take (s.length-1)) v=Cy s v:=by
 conv=>rhs;rw [Cy,dif_pos ⟨h,h2⟩]
theorem Hr {s:List V2} {v:V2} (h:¬ (1<s.length/\Al (s.getD (s.length-2) (0,0)) (s.getD (s.length-1) (0,0)) v<=0)):Cy s v=s:=by
 rw [Cy,dif_neg h]
theorem Gi (v:V2):∀ (n:Nat) (s:List V2),s.length<=n->∃ m,m<=s.length/\Cy s v=s.take m
 | 0,s,h=>⟨0,by omega,by rw [Hr (by omega)];simp [List.eq_nil_of_length_eq_zero (by omega:s.length=0)]⟩
 | n+1,s,h=>by
  by_cases hc:1<s.length/\Al (s.getD (s.length-2) (0,0)) (s.getD (s.length-1) (0,0)) v<=0
  ·obtain ⟨m,h1,h2⟩:=Gi v n (s.take (s.length-1)) (by simp only [List.length_take];omega)
   simp only [List.length_take] at h1
   exact ⟨m,by omega,by rw [← MJ hc.1 hc.2,h2,List.take_take,Nat.min_eq_left (by omega)]⟩
  ·exact ⟨s.length,Nat.le_refl _,by rw [Hr hc,List.take_length]⟩
def chT (l:List V2):Nat->List V2
 | 0=>[]
 | k+1=>Cy (chT l k) (l.getD k (0,0))++[l.getD k (0,0)]
theorem Nl {l:List V2} (h:l.all AH=true):∀ k,k<=l.length->(chT l k).length<=k/\(chT l k).all AH=true
 | 0,_=>⟨Nat.le_refl _,rfl⟩
 | k+1,hk=>by
  obtain ⟨h1,h2⟩:=Nl h k (by omega)
  obtain ⟨m,hm,e⟩:=Gi (l.getD k (0,0)) _ (chT l k) (Nat.le_refl _)
  unfold chT
  rw [e]
  refine ⟨by simp only [List.length_append,List.length_take,List.length_cons,List.length_nil];omega,?_⟩
  rw [List.all_append,Bool.and_eq_true]
  refine ⟨?_,?_⟩
  ·rw [List.all_eq_true] at *
   exact λ x hx=>h2 x (List.mem_of_mem_take hx)
  ·have:AH (l.getD k (0,0))=true:=List.all_eq_true.1 h _ (by simp [List.getD,show k<l.length by omega])
   simp only [List.all_cons,List.all_nil,this];rfl
theorem R5 (l:List V2) (k:Nat):0<(chT l (k+1)).length:=by unfold chT;simp
theorem MK {l o:List V2} {k:Nat} (h:Cy o (l.getD k (0,0))=Cy (chT l k) (l.getD k (0,0))) (hn:Cy o (l.getD k (0,0))=o):o++[l.getD k (0,0)]=chT l (k+1):=by
 unfold chT;rw [← h,hn]
def TJ (l:List V2):List V2:=l.take (l.length-1)
def Ix (l:List V2):List V2:=TJ (chT l l.length)
def Nm (s:List V2):List V2:=if s.length<3 then s else Ix s++Ix s.reverse
def Bg (l:List V2):List V2:=if l.length<=64/\l.all AH=true then Nm (Ac l l.length) else []
theorem Qy {P:Nat->Prop} {k:Nat} (h:∀ j,j<k->P j) (hk:P k):∀ j,j<k+1->P j:=λ j hj=>by
 rcases Nat.lt_succ_iff_lt_or_eq.1 hj with hj|rfl
 ·exact h j hj
 ·exact hk
theorem PV {l:List V2} (h1:l.length<=64) (h2:l.all AH=true):Bg l=Nm (Ac l l.length):=by unfold Bg;rw [if_pos ⟨h1,h2⟩]
theorem Nn {l:List V2} (h:64<l.length):Bg l=[]:=by unfold Bg;rw [if_neg (by omega)]
theorem PW {l:List V2} (h:l.all AH=false):Bg l=[]:=by unfold Bg;rw [if_neg (by rw [h];simp)]
theorem Qz {l:List V2} {k:Nat} (hk:k<l.length) (h:AH (l.getD k (0,0))=false):Bg l=[]:=
 PW (by rw [List.all_eq_false];exact ⟨l.getD k (0,0),by simp [List.getD,hk],by rw [h];simp⟩)
theorem Kw {l:List V2} {k:Nat} (hk:k<l.length) (h:(l.take k).all AH=true) (hV:AH (l.getD k (0,0))=true):(l.take (k+1)).all AH=true:=by
 have e:l.take (k+1)=l.take k++[l.getD k (0,0)]:=by
  rw [List.take_add_one];simp [List.getD,show k<l.length by omega]
 rw [e,List.all_append,h]
 simp only [List.all_cons,List.all_nil,hV];rfl
theorem R6 {a b:V2} (h:[a.1,a.2]=[b.1,b.2]):a=b:=by
 simp only [List.cons.injEq,and_true] at h
 exact Prod.ext h.1 h.2
theorem Q0 {l:List V2} {k n:Nat} (hn:n<(Ac l k).length) (hl:∀ j,j<n->Bb ((Ac l k).getD j (0,0)) (l.getD k (0,0))=true) (hc:Bb ((Ac l k).getD n (0,0)) (l.getD k (0,0))=false) (hq:(Ac l k).getD n (0,0)=l.getD k (0,0)):Ac l k=Ac l (k+1):=by
 show _=Fz _ _
 rw [Nk (Nat.le_of_lt hn) hl (λ _=>hc),if_pos ⟨hn,hq⟩]
theorem OU {l:List V2} {k n:Nat} (hn:n<=(Ac l k).length) (hl:∀ j,j<n->Bb ((Ac l k).getD j (0,0)) (l.getD k (0,0))=true) (hc:n<(Ac l k).length->Bb ((Ac l k).getD n (0,0)) (l.getD k (0,0))=false) (hq:n<(Ac l k).length->(Ac l k).getD n (0,0)≠l.getD k (0,0)):(Ac l k).take n++l.getD k (0,0)::(Ac l k).drop n=Ac l (k+1):=by
 show _=Fz _ _
 rw [Nk hn hl hc,if_neg (λ h=>hq h.1 h.2)]
theorem Q5 {s:List V2} (h:s.length<3):Nm s=s:=by unfold Nm;rw [if_pos h]
theorem PX {s:List V2} (h:¬ s.length<3):Nm s=Ix s++Ix s.reverse:=by unfold Nm;rw [if_neg h]
theorem OV {l:List V2} (h:l.all AH=true):l.reverse.all AH=true:=by
 rw [List.all_eq_true] at *
 exact λ x hx=>h x (List.mem_reverse.1 hx)
theorem OW {l:List V2} (h:l.all AH=true) (h0:0<l.length):0<(chT l l.length).length/\(chT l l.length).length<=l.length:=by
 refine ⟨?_,(Nl h _ (Nat.le_refl _)).1⟩
 obtain ⟨m,hm⟩:∃ m,l.length=m+1:=⟨l.length-1,by omega⟩
 rw [hm];exact R5 l m
theorem ML (l:List V2):(AA (chT l l.length)).take ((chT l l.length).length-1)=AA (Ix l):=by simp [AA,Ix,TJ,List.map_take]
theorem KE (a b:List V2):AA (a++b)=AA a++AA b:=by simp [AA]
theorem Q6 {s:List V2} {j:Nat} (hj:j<s.length):AA (s.reverse.take j)++[[.int (s.getD (s.length-1-j) (0,0)).1,.int (s.getD (s.length-1-j) (0,0)).2]]=AA (s.reverse.take (j+1)):=by
 have e:s.reverse.take (j+1)=s.reverse.take j++[s.getD (s.length-1-j) (0,0)]:=by
  rw [List.take_add_one,List.getElem?_reverse hj]
  simp [List.getD,show s.length-1-j<s.length by omega]
 rw [e,KE];rfl
theorem MM (s:List V2) (n:Nat) (v:V2):(((([]:List (List Dat))++(AA s).take n)++([[Dat.int v.1,Dat.int v.2]]:List (List Dat)))++((AA s).take (((AA s).length:Int).toNat)).drop n)=AA (s.take n++v::s.drop n):=by
 rw [Int.toNat_natCast,List.take_length]
 simp [AA,HY,List.map_take,List.map_drop]
end Go.Proofs.YtmekciknfocmmaaGreatDoor
