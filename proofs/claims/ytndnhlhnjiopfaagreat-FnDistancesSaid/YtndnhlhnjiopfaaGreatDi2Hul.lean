import Derived.Test.YtndnhlhnjiopfaaGreatDi2Bas
namespace Go.Proofs.YtndnhlhnjiopfaaGreat
set_option linter.unusedVariables false
set_option linter.unusedSimpArgs false
def Cv (a b:V2):Bool:=decide (a.1<b.1) || (decide (a.1=b.1) && decide (a.2<b.2))
theorem Vb {a b:V2} : Cv a b=true↔a.1<b.1∨(a.1=b.1/\a.2<b.2):=by simp [Cv]
def Is (p:V2):List V2->List V2
 | []=>[p]
 | a::t=>if Cv a p=true then a::Is p t else if a=p then a::t else p::a::t
theorem Pg {p x:V2} : ∀ {s:List V2},x ∈ Is p s↔x=p∨x ∈ s
 | []=>by simp [Is]
 | a::t=>by
  unfold Is
  split
  ·rw [List.mem_cons,Pg (s:=t),List.mem_cons]
   constructor
   ·rintro (h|h|h) <;> simp [h]
   ·rintro (h|h|h) <;> simp [h]
  ·split
   ·next h=>subst h;simp
   ·simp
def As (l:List V2):Nat->List V2
 | 0=>[]
 | k+1=>Is (l.getD k (0,0)) (As l k)
theorem L2 (l:List V2) (x:V2):∀ k,k<=l.length->(x ∈ As l k↔x ∈ l.take k)
 | 0,_=>by simp [As]
 | k+1,hk=>by
  have ih:=L2 l x k (by omega)
  have e:l.take (k+1)=l.take k++[l.getD k (0,0)]:=by
   rw [List.take_add_one];simp [List.getD,show k<l.length by omega]
  unfold As
  rw [Pg,e,List.mem_append,ih]
  simp only [List.mem_singleton]
  exact Or.comm
theorem Ph (p:V2):∀ s:List V2,(Is p s).length<=s.length+1
 | []=>by simp [Is]
 | a::t=>by
  have:=Ph p t
  unfold Is
  split
  ·simp only [List.length_cons];omega
  ·split <;> simp
theorem L3 (l:List V2):∀ k,(As l k).length<=k
 | 0=>Nat.le_refl _
 | k+1=>by have:=L3 l k;have:=Ph (l.getD k (0,0)) (As l k);unfold As;omega
theorem Vc {l:List V2} (h:l.all AQ=true) {k:Nat} (hk:k<=l.length):(As l k).all AQ=true:=by
 rw [List.all_eq_true] at *
 intro x hx
 exact h x (List.mem_of_mem_take ((L2 l x k hk).1 hx))
theorem RB {p:V2} : ∀ {s:List V2} {n:Nat},n<=s.length->(∀ j,j<n->Cv (s.getD j (0,0)) p=true)->(n<s.length->Cv (s.getD n (0,0)) p=false) ->
  Is p s=if n<s.length/\s.getD n (0,0)=p then s else s.take n++p::s.drop n
 | [],n,hn,_,_=>by
  have:n=0:=by simpa using hn
  subst this
  simp [Is]
 | a::t,0,_,_,h0=>by
  have h0:=h0 (by simp)
  simp only [List.getD_cons_zero] at h0
  unfold Is
  rw [if_neg (by rw [h0];simp)]
  simp
 | a::t,n+1,hn,hl,hc=>by
  have h0:=hl 0 (by omega)
  simp only [List.getD_cons_zero] at h0
  have ih:=RB (p:=p) (s:=t) (n:=n) (by simpa using hn) (λ j hj=>by have:=hl (j+1) (by omega);simpa using this) (λ h=>by have:=hc (by simpa using h);simpa using this)
  unfold Is
  rw [if_pos h0,ih]
  simp only [List.length_cons,Nat.add_lt_add_iff_right,List.getD_cons_succ,List.take_succ_cons,List.drop_succ_cons,List.cons_append]
  split <;> rfl
def Es (s:List V2) (v:V2):List V2:=
 if h:1<s.length/\Aa (s.getD (s.length-2) (0,0)) (s.getD (s.length-1) (0,0)) v<=0 then Es (s.take (s.length-1)) v else s
termination_by s.length
decreasing_by simp only [List.length_take]; omega
theorem Pi {s:List V2} {v:V2} (h:1<s.length) (h2:Aa (s.getD (s.length-2) (0,0)) (s.getD (s.length-1) (0,0)) v<=0):Es (s.take (s.length-1)) v=Es s v:=by
 conv=>rhs;rw [Es,dif_pos ⟨h,h2⟩]
theorem Kq {s:List V2} {v:V2} (h:¬ (1<s.length/\Aa (s.getD (s.length-2) (0,0)) (s.getD (s.length-1) (0,0)) v<=0)):Es s v=s:=by
 rw [Es,dif_neg h]
theorem Jk (v:V2):∀ (n:Nat) (s:List V2),s.length<=n->∃ m,m<=s.length/\Es s v=s.take m
 | 0,s,h=>⟨0,by omega,by rw [Kq (by omega)];simp [List.eq_nil_of_length_eq_zero (by omega:s.length=0)]⟩
 | n+1,s,h=>by
  by_cases hc:1<s.length/\Aa (s.getD (s.length-2) (0,0)) (s.getD (s.length-1) (0,0)) v<=0
  ·obtain ⟨m,h1,h2⟩:=Jk v n (s.take (s.length-1)) (by simp only [List.length_take];omega)
   simp only [List.length_take] at h1
   exact ⟨m,by omega,by rw [← Pi hc.1 hc.2,h2,List.take_take,Nat.min_eq_left (by omega)]⟩
  ·exact ⟨s.length,Nat.le_refl _,by rw [Kq hc,List.take_length]⟩
def chT (l:List V2):Nat->List V2
 | 0=>[]
 | k+1=>Es (chT l k) (l.getD k (0,0))++[l.getD k (0,0)]
theorem RD {l:List V2} (h:l.all AQ=true):∀ k,k<=l.length->(chT l k).length<=k/\(chT l k).all AQ=true
 | 0,_=>⟨Nat.le_refl _,rfl⟩
 | k+1,hk=>by
  obtain ⟨h1,h2⟩:=RD h k (by omega)
  obtain ⟨m,hm,e⟩:=Jk (l.getD k (0,0)) _ (chT l k) (Nat.le_refl _)
  unfold chT
  rw [e]
  refine ⟨by simp only [List.length_append,List.length_take,List.length_cons,List.length_nil];omega,?_⟩
  rw [List.all_append,Bool.and_eq_true]
  refine ⟨?_,?_⟩
  ·rw [List.all_eq_true] at *
   exact λ x hx=>h2 x (List.mem_of_mem_take hx)
  ·have:AQ (l.getD k (0,0))=true:=List.all_eq_true.1 h _ (by simp [List.getD,show k<l.length by omega])
   simp only [List.all_cons,List.all_nil,this];rfl
theorem Wk (l:List V2) (k:Nat):0<(chT l (k+1)).length:=by unfold chT;simp
theorem Pj {l o:List V2} {k:Nat} (h:Es o (l.getD k (0,0))=Es (chT l k) (l.getD k (0,0))) (hn:Es o (l.getD k (0,0))=o):o++[l.getD k (0,0)]=chT l (k+1):=by
 unfold chT;rw [← h,hn]
def Ym (l:List V2):List V2:=l.take (l.length-1)
def L4 (l:List V2):List V2:=Ym (chT l l.length)
def RE (s:List V2):List V2:=if s.length<3 then s else L4 s++L4 s.reverse
def C2 (l:List V2):List V2:=if l.length<=64/\l.all AQ=true then RE (As l l.length) else []
theorem Vd {P:Nat->Prop} {k:Nat} (h:∀ j,j<k->P j) (hk:P k):∀ j,j<k+1->P j:=λ j hj=>by
 rcases Nat.lt_succ_iff_lt_or_eq.1 hj with hj|rfl
 ·exact h j hj
 ·exact hk
theorem Tg {l:List V2} (h1:l.length<=64) (h2:l.all AQ=true):C2 l=RE (As l l.length):=by unfold C2;rw [if_pos ⟨h1,h2⟩]
theorem RF {l:List V2} (h:64<l.length):C2 l=[]:=by unfold C2;rw [if_neg (by omega)]
theorem Th {l:List V2} (h:l.all AQ=false):C2 l=[]:=by unfold C2;rw [if_neg (by rw [h];simp)]
theorem Ve {l:List V2} {k:Nat} (hk:k<l.length) (h:AQ (l.getD k (0,0))=false):C2 l=[]:=
 Th (by rw [List.all_eq_false];exact ⟨l.getD k (0,0),by simp [List.getD,hk],by rw [h];simp⟩)
theorem N6 {l:List V2} {k:Nat} (hk:k<l.length) (h:(l.take k).all AQ=true) (hV:AQ (l.getD k (0,0))=true):(l.take (k+1)).all AQ=true:=by
 have e:l.take (k+1)=l.take k++[l.getD k (0,0)]:=by
  rw [List.take_add_one];simp [List.getD,show k<l.length by omega]
 rw [e,List.all_append,h]
 simp only [List.all_cons,List.all_nil,hV];rfl
theorem Wl {a b:V2} (h:[a.1,a.2]=[b.1,b.2]):a=b:=by
 simp only [List.cons.injEq,and_true] at h
 exact Prod.ext h.1 h.2
theorem Vf {l:List V2} {k n:Nat} (hn:n<(As l k).length) (hl:∀ j,j<n->Cv ((As l k).getD j (0,0)) (l.getD k (0,0))=true) (hc:Cv ((As l k).getD n (0,0)) (l.getD k (0,0))=false) (hq:(As l k).getD n (0,0)=l.getD k (0,0)):As l k=As l (k+1):=by
 show _=Is _ _
 rw [RB (Nat.le_of_lt hn) hl (λ _=>hc),if_pos ⟨hn,hq⟩]
theorem SM {l:List V2} {k n:Nat} (hn:n<=(As l k).length) (hl:∀ j,j<n->Cv ((As l k).getD j (0,0)) (l.getD k (0,0))=true) (hc:n<(As l k).length->Cv ((As l k).getD n (0,0)) (l.getD k (0,0))=false) (hq:n<(As l k).length->(As l k).getD n (0,0)≠l.getD k (0,0)):(As l k).take n++l.getD k (0,0)::(As l k).drop n=As l (k+1):=by
 show _=Is _ _
 rw [RB hn hl hc,if_neg (λ h=>hq h.1 h.2)]
theorem Vg {s:List V2} (h:s.length<3):RE s=s:=by unfold RE;rw [if_pos h]
theorem Ti {s:List V2} (h:¬ s.length<3):RE s=L4 s++L4 s.reverse:=by unfold RE;rw [if_neg h]
theorem SN {l:List V2} (h:l.all AQ=true):l.reverse.all AQ=true:=by
 rw [List.all_eq_true] at *
 exact λ x hx=>h x (List.mem_reverse.1 hx)
theorem SO {l:List V2} (h:l.all AQ=true) (h0:0<l.length):0<(chT l l.length).length/\(chT l l.length).length<=l.length:=by
 refine ⟨?_,(RD h _ (Nat.le_refl _)).1⟩
 obtain ⟨m,hm⟩:∃ m,l.length=m+1:=⟨l.length-1,by omega⟩
 rw [hm];exact Wk l m
theorem Pk (l:List V2):(AC (chT l l.length)).take ((chT l l.length).length-1)=AC (L4 l):=by simp [AC,L4,Ym,List.map_take]
theorem NM (a b:List V2):AC (a++b)=AC a++AC b:=by simp [AC]
theorem Vh {s:List V2} {j:Nat} (hj:j<s.length):AC (s.reverse.take j)++[[.int (s.getD (s.length-1-j) (0,0)).1,.int (s.getD (s.length-1-j) (0,0)).2]]=AC (s.reverse.take (j+1)):=by
 have e:s.reverse.take (j+1)=s.reverse.take j++[s.getD (s.length-1-j) (0,0)]:=by
  rw [List.take_add_one,List.getElem?_reverse hj]
  simp [List.getD,show s.length-1-j<s.length by omega]
 rw [e,NM];rfl
theorem Pm (s:List V2) (n:Nat) (v:V2):(((([]:List (List Dat))++(AC s).take n)++([[Dat.int v.1,Dat.int v.2]]:List (List Dat)))++((AC s).take (((AC s).length:Int).toNat)).drop n)=AC (s.take n++v::s.drop n):=by
 rw [Int.toNat_natCast,List.take_length]
 simp [AC,Nb,List.map_take,List.map_drop]
end Go.Proofs.YtndnhlhnjiopfaaGreat
