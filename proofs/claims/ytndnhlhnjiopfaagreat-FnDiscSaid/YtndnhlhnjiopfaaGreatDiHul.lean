import Derived.Test.YtndnhlhnjiopfaaGreatDiBas
namespace Go.Proofs.YtndnhlhnjiopfaaGreat
set_option linter.unusedVariables false
set_option linter.unusedSimpArgs false
def CQ (a b:V2):Bool:=decide (a.1<b.1) || (decide (a.1=b.1) && decide (a.2<b.2))
theorem Tl {a b:V2} : CQ a b=true↔a.1<b.1∨(a.1=b.1/\a.2<b.2):=by simp [CQ]
def Hx (p:V2):List V2->List V2
 | []=>[p]
 | a::t=>if CQ a p=true then a::Hx p t else if a=p then a::t else p::a::t
theorem OL {p x:V2} : ∀ {s:List V2},x ∈ Hx p s↔x=p∨x ∈ s
 | []=>by simp [Hx]
 | a::t=>by
  unfold Hx
  split
  ·rw [List.mem_cons,OL (s:=t),List.mem_cons]
   constructor
   ·rintro (h|h|h) <;> simp [h]
   ·rintro (h|h|h) <;> simp [h]
  ·split
   ·next h=>subst h;simp
   ·simp
def Aj (l:List V2):Nat->List V2
 | 0=>[]
 | k+1=>Hx (l.getD k (0,0)) (Aj l k)
theorem Ku (l:List V2) (x:V2):∀ k,k<=l.length->(x ∈ Aj l k↔x ∈ l.take k)
 | 0,_=>by simp [Aj]
 | k+1,hk=>by
  have ih:=Ku l x k (by omega)
  have e:l.take (k+1)=l.take k++[l.getD k (0,0)]:=by
   rw [List.take_add_one];simp [List.getD,show k<l.length by omega]
  unfold Aj
  rw [OL,e,List.mem_append,ih]
  simp only [List.mem_singleton]
  exact Or.comm
theorem OM (p:V2):∀ s:List V2,(Hx p s).length<=s.length+1
 | []=>by simp [Hx]
 | a::t=>by
  have:=OM p t
  unfold Hx
  split
  ·simp only [List.length_cons];omega
  ·split <;> simp
theorem Kv (l:List V2):∀ k,(Aj l k).length<=k
 | 0=>Nat.le_refl _
 | k+1=>by have:=Kv l k;have:=OM (l.getD k (0,0)) (Aj l k);unfold Aj;omega
theorem Tm {l:List V2} (h:l.all AO=true) {k:Nat} (hk:k<=l.length):(Aj l k).all AO=true:=by
 rw [List.all_eq_true] at *
 intro x hx
 exact h x (List.mem_of_mem_take ((Ku l x k hk).1 hx))
theorem Pa {p:V2} : ∀ {s:List V2} {n:Nat},n<=s.length->(∀ j,j<n->CQ (s.getD j (0,0)) p=true)->(n<s.length->CQ (s.getD n (0,0)) p=false) ->
  Hx p s=if n<s.length/\s.getD n (0,0)=p then s else s.take n++p::s.drop n
 | [],n,hn,_,_=>by
  have:n=0:=by simpa using hn
  subst this
  simp [Hx]
 | a::t,0,_,_,h0=>by
  have h0:=h0 (by simp)
  simp only [List.getD_cons_zero] at h0
  unfold Hx
  rw [if_neg (by rw [h0];simp)]
  simp
 | a::t,n+1,hn,hl,hc=>by
  have h0:=hl 0 (by omega)
  simp only [List.getD_cons_zero] at h0
  have ih:=Pa (p:=p) (s:=t) (n:=n) (by simpa using hn) (λ j hj=>by have:=hl (j+1) (by omega);simpa using this) (λ h=>by have:=hc (by simpa using h);simpa using this)
  unfold Hx
  rw [if_pos h0,ih]
  simp only [List.length_cons,Nat.add_lt_add_iff_right,List.getD_cons_succ,List.take_succ_cons,List.drop_succ_cons,List.cons_append]
  split <;> rfl
def D9 (s:List V2) (v:V2):List V2:=
 if h:1<s.length/\AW (s.getD (s.length-2) (0,0)) (s.getD (s.length-1) (0,0)) v<=0 then D9 (s.take (s.length-1)) v else s
termination_by s.length
decreasing_by simp only [List.length_take]; omega
theorem ON {s:List V2} {v:V2} (h:1<s.length) (h2:AW (s.getD (s.length-2) (0,0)) (s.getD (s.length-1) (0,0)) v<=0):D9 (s.take (s.length-1)) v=D9 s v:=by
 conv=>rhs;rw [D9,dif_pos ⟨h,h2⟩]
theorem Jn {s:List V2} {v:V2} (h:¬ (1<s.length/\AW (s.getD (s.length-2) (0,0)) (s.getD (s.length-1) (0,0)) v<=0)):D9 s v=s:=by
 rw [D9,dif_neg h]
theorem Ik (v:V2):∀ (n:Nat) (s:List V2),s.length<=n->∃ m,m<=s.length/\D9 s v=s.take m
 | 0,s,h=>⟨0,by omega,by rw [Jn (by omega)];simp [List.eq_nil_of_length_eq_zero (by omega:s.length=0)]⟩
 | n+1,s,h=>by
  by_cases hc:1<s.length/\AW (s.getD (s.length-2) (0,0)) (s.getD (s.length-1) (0,0)) v<=0
  ·obtain ⟨m,h1,h2⟩:=Ik v n (s.take (s.length-1)) (by simp only [List.length_take];omega)
   simp only [List.length_take] at h1
   exact ⟨m,by omega,by rw [← ON hc.1 hc.2,h2,List.take_take,Nat.min_eq_left (by omega)]⟩
  ·exact ⟨s.length,Nat.le_refl _,by rw [Jn hc,List.take_length]⟩
def chT (l:List V2):Nat->List V2
 | 0=>[]
 | k+1=>D9 (chT l k) (l.getD k (0,0))++[l.getD k (0,0)]
theorem Pb {l:List V2} (h:l.all AO=true):∀ k,k<=l.length->(chT l k).length<=k/\(chT l k).all AO=true
 | 0,_=>⟨Nat.le_refl _,rfl⟩
 | k+1,hk=>by
  obtain ⟨h1,h2⟩:=Pb h k (by omega)
  obtain ⟨m,hm,e⟩:=Ik (l.getD k (0,0)) _ (chT l k) (Nat.le_refl _)
  unfold chT
  rw [e]
  refine ⟨by simp only [List.length_append,List.length_take,List.length_cons,List.length_nil];omega,?_⟩
  rw [List.all_append,Bool.and_eq_true]
  refine ⟨?_,?_⟩
  ·rw [List.all_eq_true] at *
   exact λ x hx=>h2 x (List.mem_of_mem_take hx)
  ·have:AO (l.getD k (0,0))=true:=List.all_eq_true.1 h _ (by simp [List.getD,show k<l.length by omega])
   simp only [List.all_cons,List.all_nil,this];rfl
theorem Uu (l:List V2) (k:Nat):0<(chT l (k+1)).length:=by unfold chT;simp
theorem OO {l o:List V2} {k:Nat} (h:D9 o (l.getD k (0,0))=D9 (chT l k) (l.getD k (0,0))) (hn:D9 o (l.getD k (0,0))=o):o++[l.getD k (0,0)]=chT l (k+1):=by
 unfold chT;rw [← h,hn]
def Wb (l:List V2):List V2:=l.take (l.length-1)
def Kw (l:List V2):List V2:=Wb (chT l l.length)
def Pc (s:List V2):List V2:=if s.length<3 then s else Kw s++Kw s.reverse
def CY (l:List V2):List V2:=if l.length<=64/\l.all AO=true then Pc (Aj l l.length) else []
theorem Tn {P:Nat->Prop} {k:Nat} (h:∀ j,j<k->P j) (hk:P k):∀ j,j<k+1->P j:=λ j hj=>by
 rcases Nat.lt_succ_iff_lt_or_eq.1 hj with hj|rfl
 ·exact h j hj
 ·exact hk
theorem Rq {l:List V2} (h1:l.length<=64) (h2:l.all AO=true):CY l=Pc (Aj l l.length):=by unfold CY;rw [if_pos ⟨h1,h2⟩]
theorem Pd {l:List V2} (h:64<l.length):CY l=[]:=by unfold CY;rw [if_neg (by omega)]
theorem Rr {l:List V2} (h:l.all AO=false):CY l=[]:=by unfold CY;rw [if_neg (by rw [h];simp)]
theorem To {l:List V2} {k:Nat} (hk:k<l.length) (h:AO (l.getD k (0,0))=false):CY l=[]:=
 Rr (by rw [List.all_eq_false];exact ⟨l.getD k (0,0),by simp [List.getD,hk],by rw [h];simp⟩)
theorem Mt {l:List V2} {k:Nat} (hk:k<l.length) (h:(l.take k).all AO=true) (hV:AO (l.getD k (0,0))=true):(l.take (k+1)).all AO=true:=by
 have e:l.take (k+1)=l.take k++[l.getD k (0,0)]:=by
  rw [List.take_add_one];simp [List.getD,show k<l.length by omega]
 rw [e,List.all_append,h]
 simp only [List.all_cons,List.all_nil,hV];rfl
theorem Uv {a b:V2} (h:[a.1,a.2]=[b.1,b.2]):a=b:=by
 simp only [List.cons.injEq,and_true] at h
 exact Prod.ext h.1 h.2
theorem Tp {l:List V2} {k n:Nat} (hn:n<(Aj l k).length) (hl:∀ j,j<n->CQ ((Aj l k).getD j (0,0)) (l.getD k (0,0))=true) (hc:CQ ((Aj l k).getD n (0,0)) (l.getD k (0,0))=false) (hq:(Aj l k).getD n (0,0)=l.getD k (0,0)):Aj l k=Aj l (k+1):=by
 show _=Hx _ _
 rw [Pa (Nat.le_of_lt hn) hl (λ _=>hc),if_pos ⟨hn,hq⟩]
theorem Qb {l:List V2} {k n:Nat} (hn:n<=(Aj l k).length) (hl:∀ j,j<n->CQ ((Aj l k).getD j (0,0)) (l.getD k (0,0))=true) (hc:n<(Aj l k).length->CQ ((Aj l k).getD n (0,0)) (l.getD k (0,0))=false) (hq:n<(Aj l k).length->(Aj l k).getD n (0,0)≠l.getD k (0,0)):(Aj l k).take n++l.getD k (0,0)::(Aj l k).drop n=Aj l (k+1):=by
 show _=Hx _ _
 rw [Pa hn hl hc,if_neg (λ h=>hq h.1 h.2)]
theorem Tq {s:List V2} (h:s.length<3):Pc s=s:=by unfold Pc;rw [if_pos h]
theorem Rs {s:List V2} (h:¬ s.length<3):Pc s=Kw s++Kw s.reverse:=by unfold Pc;rw [if_neg h]
theorem Qc {l:List V2} (h:l.all AO=true):l.reverse.all AO=true:=by
 rw [List.all_eq_true] at *
 exact λ x hx=>h x (List.mem_reverse.1 hx)
theorem Qd {l:List V2} (h:l.all AO=true) (h0:0<l.length):0<(chT l l.length).length/\(chT l l.length).length<=l.length:=by
 refine ⟨?_,(Pb h _ (Nat.le_refl _)).1⟩
 obtain ⟨m,hm⟩:∃ m,l.length=m+1:=⟨l.length-1,by omega⟩
 rw [hm];exact Uu l m
theorem OP (l:List V2):(AC (chT l l.length)).take ((chT l l.length).length-1)=AC (Kw l):=by simp [AC,Kw,Wb,List.map_take]
theorem MB (a b:List V2):AC (a++b)=AC a++AC b:=by simp [AC]
theorem Ts {s:List V2} {j:Nat} (hj:j<s.length):AC (s.reverse.take j)++[[.int (s.getD (s.length-1-j) (0,0)).1,.int (s.getD (s.length-1-j) (0,0)).2]]=AC (s.reverse.take (j+1)):=by
 have e:s.reverse.take (j+1)=s.reverse.take j++[s.getD (s.length-1-j) (0,0)]:=by
  rw [List.take_add_one,List.getElem?_reverse hj]
  simp [List.getD,show s.length-1-j<s.length by omega]
 rw [e,MB];rfl
theorem OQ (s:List V2) (n:Nat) (v:V2):(((([]:List (List Dat))++(AC s).take n)++([[Dat.int v.1,Dat.int v.2]]:List (List Dat)))++((AC s).take (((AC s).length:Int).toNat)).drop n)=AC (s.take n++v::s.drop n):=by
 rw [Int.toNat_natCast,List.take_length]
 simp [AC,MN,List.map_take,List.map_drop]
end Go.Proofs.YtndnhlhnjiopfaaGreat
