import Derived.Test.YtndnhlhnjiopfaaGreatToBas
namespace Go.Proofs.YtndnhlhnjiopfaaGreat
set_option linter.unusedVariables false
set_option linter.unusedSimpArgs false
def AO (a b:V2):Bool:=decide (a.1<b.1) || (decide (a.1=b.1) && decide (a.2<b.2))
theorem Aa {a b:V2} : AO a b=true↔a.1<b.1∨(a.1=b.1/\a.2<b.2):=by simp [AO]
theorem JR (a:V2):AO a a=false:=by simp [AO]
theorem JS {a b c:V2} (h:AO a b=true) (h' : AO b c=true):AO a c=true:=by rw [Aa] at *;omega
theorem K3 {a b:V2} (h:AO a b=true):AO b a=false:=by
 rw [Aa] at h
 cases hb:AO b a with
 | false=>rfl
 | true=>rw [Aa] at hb;omega
theorem JT {a b:V2} (h:AO a b=false) (h' : AO b a=false):a=b:=by
 have e1:¬ (AO a b=true):=by rw [h];simp
 have e2:¬ (AO b a=true):=by rw [h'];simp
 rw [Aa] at e1 e2
 exact Prod.ext (by omega) (by omega)
def upV (s:List V2):Prop:=s.Pairwise λ a b=>AO a b=true
theorem Sq:∀ {a b:List V2},upV a->upV b->(∀ x,x ∈ a↔x ∈ b)->a=b
 | [],[],_,_,_=>rfl
 | [],y::b,_,_,h=>absurd ((h y).2 (List.mem_cons_self ..)) (by simp)
 | x::a,[],_,_,h=>absurd ((h x).1 (List.mem_cons_self ..)) (by simp)
 | x::a,y::b,ha,hb,h=>by
  have ha':=List.pairwise_cons.1 ha
  have hb':=List.pairwise_cons.1 hb
  have hxy:x=y:=by
   rcases List.mem_cons.1 ((h x).1 (List.mem_cons_self ..)) with e|e
   ·exact e
   ·rcases List.mem_cons.1 ((h y).2 (List.mem_cons_self ..)) with e2|e2
    ·exact e2.symm
    ·have:=K3 (hb'.1 x e)
     rw [ha'.1 y e2] at this;cases this
  subst hxy
  rw [Sq ha'.2 hb'.2 λ z=>?_]
  constructor
  ·intro hz
   rcases List.mem_cons.1 ((h z).1 (List.mem_cons_of_mem _ hz)) with e|e
   ·subst e;have:=ha'.1 z hz;rw [JR] at this;cases this
   ·exact e
  ·intro hz
   rcases List.mem_cons.1 ((h z).2 (List.mem_cons_of_mem _ hz)) with e|e
   ·subst e;have:=hb'.1 z hz;rw [JR] at this;cases this
   ·exact e
def E8 (p:V2):List V2->List V2
 | []=>[p]
 | a::t=>if AO a p=true then a::E8 p t else if a=p then a::t else p::a::t
theorem JU {p x:V2} : ∀ {s:List V2},x ∈ E8 p s↔x=p∨x ∈ s
 | []=>by simp [E8]
 | a::t=>by
  unfold E8
  split
  ·rw [List.mem_cons,JU (s:=t),List.mem_cons]
   constructor
   ·rintro (h|h|h) <;> simp [h]
   ·rintro (h|h|h) <;> simp [h]
  ·split
   ·next h=>subst h;simp
   ·simp
theorem QM {p:V2} : ∀ {s:List V2},upV s->upV (E8 p s)
 | [],_=>by simp [E8,upV]
 | a::t,h=>by
  have h':=List.pairwise_cons.1 h
  unfold E8
  split
  ·next hl=>
   refine List.pairwise_cons.2 ⟨λ x hx=>?_,QM h'.2⟩
   rcases JU.1 hx with e|e
   ·subst e;exact hl
   ·exact h'.1 x e
  ·split
   ·exact h
   ·next hl hne=>
    have hpa:AO p a=true:=by
     cases hc:AO p a with
     | true=>rfl
     | false=>exact absurd (JT (by simpa using hl) hc) hne
    refine List.pairwise_cons.2 ⟨λ x hx=>?_,h⟩
    rcases List.mem_cons.1 hx with e|e
    ·subst e;exact hpa
    ·exact JS hpa (h'.1 x e)
def AW (l:List V2):Nat->List V2
 | 0=>[]
 | k+1=>E8 (l.getD k (0,0)) (AW l k)
theorem I5 (l:List V2):∀ k,upV (AW l k)
 | 0=>List.Pairwise.nil
 | k+1=>QM (I5 l k)
theorem D7 (l:List V2) (x:V2):∀ k,k<=l.length->(x ∈ AW l k↔x ∈ l.take k)
 | 0,_=>by simp [AW]
 | k+1,hk=>by
  have ih:=D7 l x k (by omega)
  have e:l.take (k+1)=l.take k++[l.getD k (0,0)]:=by
   rw [List.take_add_one];simp [List.getD,show k<l.length by omega]
  unfold AW
  rw [JU,e,List.mem_append,ih]
  simp only [List.mem_singleton]
  exact Or.comm
theorem M0 (p:V2):∀ s:List V2,(E8 p s).length<=s.length+1
 | []=>by simp [E8]
 | a::t=>by
  have:=M0 p t
  unfold E8
  split
  ·simp only [List.length_cons];omega
  ·split <;> simp
theorem Gg (l:List V2):∀ k,(AW l k).length<=k
 | 0=>Nat.le_refl _
 | k+1=>by have:=Gg l k;have:=M0 (l.getD k (0,0)) (AW l k);unfold AW;omega
theorem M5 {l:List V2} (h:l.all AB=true) {k:Nat} (hk:k<=l.length):(AW l k).all AB=true:=by
 rw [List.all_eq_true] at *
 intro x hx
 exact h x (List.mem_of_mem_take ((D7 l x k hk).1 hx))
theorem O4 {p:V2} : ∀ {s:List V2} {n:Nat},n<=s.length->(∀ j,j<n->AO (s.getD j (0,0)) p=true)->(n<s.length->AO (s.getD n (0,0)) p=false) ->
  E8 p s=if n<s.length/\s.getD n (0,0)=p then s else s.take n++p::s.drop n
 | [],n,hn,_,_=>by
  have:n=0:=by simpa using hn
  subst this
  simp [E8]
 | a::t,0,_,_,h0=>by
  have h0:=h0 (by simp)
  simp only [List.getD_cons_zero] at h0
  unfold E8
  rw [if_neg (by rw [h0];simp)]
  simp
 | a::t,n+1,hn,hl,hc=>by
  have h0:=hl 0 (by omega)
  simp only [List.getD_cons_zero] at h0
  have ih:=O4 (p:=p) (s:=t) (n:=n) (by simpa using hn) (λ j hj=>by have:=hl (j+1) (by omega);simpa using this) (λ h=>by have:=hc (by simpa using h);simpa using this)
  unfold E8
  rw [if_pos h0,ih]
  simp only [List.length_cons,Nat.add_lt_add_iff_right,List.getD_cons_succ,List.take_succ_cons,List.drop_succ_cons,List.cons_append]
  split <;> rfl
def BQ (s:List V2) (v:V2):List V2:=
 if h:1<s.length/\AC (s.getD (s.length-2) (0,0)) (s.getD (s.length-1) (0,0)) v<=0 then BQ (s.take (s.length-1)) v else s
termination_by s.length
decreasing_by simp only [List.length_take]; omega
theorem Gh {s:List V2} {v:V2} (h:1<s.length) (h2:AC (s.getD (s.length-2) (0,0)) (s.getD (s.length-1) (0,0)) v<=0):BQ (s.take (s.length-1)) v=BQ s v:=by
 conv=>rhs;rw [BQ,dif_pos ⟨h,h2⟩]
theorem Bv {s:List V2} {v:V2} (h:¬ (1<s.length/\AC (s.getD (s.length-2) (0,0)) (s.getD (s.length-1) (0,0)) v<=0)):BQ s v=s:=by
 rw [BQ,dif_neg h]
theorem Hh (v:V2):∀ (n:Nat) (s:List V2),s.length<=n->∃ m,m<=s.length/\BQ s v=s.take m
 | 0,s,h=>⟨0,by omega,by rw [Bv (by omega)];simp [List.eq_nil_of_length_eq_zero (by omega:s.length=0)]⟩
 | n+1,s,h=>by
  by_cases hc:1<s.length/\AC (s.getD (s.length-2) (0,0)) (s.getD (s.length-1) (0,0)) v<=0
  ·obtain ⟨m,h1,h2⟩:=Hh v n (s.take (s.length-1)) (by simp only [List.length_take];omega)
   simp only [List.length_take] at h1
   exact ⟨m,by omega,by rw [← Gh hc.1 hc.2,h2,List.take_take,Nat.min_eq_left (by omega)]⟩
  ·exact ⟨s.length,Nat.le_refl _,by rw [Bv hc,List.take_length]⟩
def chT (l:List V2):Nat->List V2
 | 0=>[]
 | k+1=>BQ (chT l k) (l.getD k (0,0))++[l.getD k (0,0)]
theorem Hi {l:List V2} (h:l.all AB=true):∀ k,k<=l.length->(chT l k).length<=k/\(chT l k).all AB=true
 | 0,_=>⟨Nat.le_refl _,rfl⟩
 | k+1,hk=>by
  obtain ⟨h1,h2⟩:=Hi h k (by omega)
  obtain ⟨m,hm,e⟩:=Hh (l.getD k (0,0)) _ (chT l k) (Nat.le_refl _)
  unfold chT
  rw [e]
  refine ⟨by simp only [List.length_append,List.length_take,List.length_cons,List.length_nil];omega,?_⟩
  rw [List.all_append,Bool.and_eq_true]
  refine ⟨?_,?_⟩
  ·rw [List.all_eq_true] at *
   exact λ x hx=>h2 x (List.mem_of_mem_take hx)
  ·have:AB (l.getD k (0,0))=true:=List.all_eq_true.1 h _ (by simp [List.getD,show k<l.length by omega])
   simp only [List.all_cons,List.all_nil,this];rfl
theorem QN (l:List V2) (k:Nat):0<(chT l (k+1)).length:=by unfold chT;simp
theorem Gi {l o:List V2} {k:Nat} (h:BQ o (l.getD k (0,0))=BQ (chT l k) (l.getD k (0,0))) (hn:BQ o (l.getD k (0,0))=o):o++[l.getD k (0,0)]=chT l (k+1):=by
 unfold chT;rw [← h,hn]
def Dw (l:List V2):List V2:=l.take (l.length-1)
def AQ (l:List V2):List V2:=Dw (chT l l.length)
def JV (s:List V2):List V2:=if s.length<3 then s else AQ s++AQ s.reverse
def At (l:List V2):List V2:=if l.length<=64/\l.all AB=true then JV (AW l l.length) else []
theorem RV (a b:V2):AQ [a,b]++AQ [b,a]=[a,b]:=by
 have h (x y:V2):AQ [x,y]=[x]:=by
  have e1:chT [x,y] 1=[x]:=by
   show BQ [] x++[x]=[x]
   rw [Bv (by simp)];rfl
  have e2:chT [x,y] 2=[x,y]:=by
   show BQ (chT [x,y] 1) y++[y]=[x,y]
   rw [e1,Bv (by simp)];rfl
  show Dw (chT [x,y] 2)=[x]
  rw [e2];rfl
 rw [h,h];rfl
theorem Sr {s:List V2} (h:s.length=2):AQ s++AQ s.reverse=JV s:=by
 match s,h with
 | [a,b],_=>exact RV a b
theorem K4 {l:List V2} (h:l.all AB=true):(AQ l).all AB=true/\(AQ l).length<=l.length:=by
 have hb:=Hi h l.length (Nat.le_refl _)
 unfold AQ Dw
 refine ⟨?_,by simp only [List.length_take];omega⟩
 rw [List.all_eq_true]
 intro x hx
 exact List.all_eq_true.1 hb.2 x (List.mem_of_mem_take hx)
def leV (x y:V2):Bool:=!AO y x
def BW (l:List V2):List V2:=l.mergeSort leV
theorem K5 (a b c:V2) (h1:leV a b=true) (h2:leV b c=true):leV a c=true:=by
 unfold leV at *
 rw [Bool.not_eq_true'] at *
 cases hc:AO c a with
 | false=>rfl
 | true=>
  rw [Aa] at hc
  have e1:¬ (AO b a=true):=by rw [h1];simp
  have e2:¬ (AO c b=true):=by rw [h2];simp
  rw [Aa] at e1 e2
  omega
theorem RW (a b:V2):(leV a b || leV b a)=true:=by
 unfold leV
 cases h:AO b a with
 | false=>rfl
 | true=>rw [K3 h];rfl
theorem JW (l:List V2):(BW l).Perm l:=List.mergeSort_perm l leV
theorem Ss (l:List V2):(BW l).Pairwise λ a b=>leV a b=true:=List.pairwise_mergeSort K5 RW l
theorem D8 (l:List V2):(BW l).length=l.length:=(JW l).length_eq
def Aj:List V2->List V2
 | a::b::t=>if a=b then Aj (b::t) else a::Aj (b::t)
 | l=>l
theorem Gj {x:V2} : ∀ {l:List V2},x ∈ Aj l↔x ∈ l
 | []=>by simp [Aj]
 | [a]=>by simp [Aj]
 | a::b::t=>by
  unfold Aj
  split
  ·next h=>subst h;rw [Gj (l:=a::t)];simp
  ·rw [List.mem_cons,Gj (l:=b::t)];simp only [List.mem_cons]
theorem QO:∀ {l:List V2},(l.Pairwise λ a b=>leV a b=true)->upV (Aj l)
 | [],_=>List.Pairwise.nil
 | [a],_=>by simp [Aj,upV]
 | a::b::t,h=>by
  have h':=List.pairwise_cons.1 h
  have ih:=QO h'.2
  unfold Aj
  split
  ·exact ih
  ·next hne=>
   refine List.pairwise_cons.2 ⟨λ x hx=>?_,ih⟩
   have hx:=Gj.1 hx
   have hab:=h'.1 b (List.mem_cons_self ..)
   have hlt:AO a b=true:=by
    cases hc:AO a b with
    | true=>rfl
    | false=>exact absurd (JT hc (by unfold leV at hab;simpa using hab)) hne
   rcases List.mem_cons.1 hx with e|e
   ·subst e;exact hlt
   ·have hbx:=(List.pairwise_cons.1 h'.2).1 x e
    have e2:¬ (AO x b=true):=by unfold leV at hbx;simpa using hbx
    rw [Aa] at e2 hlt ⊢
    omega
theorem RX (l:List V2):Aj (BW l)=AW l l.length:=
 Sq (QO (Ss l)) (I5 l _) λ x=>by
  rw [Gj,(JW l).mem_iff,D7 l x l.length (Nat.le_refl _),List.take_length]
theorem Su {P:Nat->Prop} {k:Nat} (h:∀ j,j<k->P j) (hk:P k):∀ j,j<k+1->P j:=λ j hj=>by
 rcases Nat.lt_succ_iff_lt_or_eq.1 hj with hj|rfl
 ·exact h j hj
 ·exact hk
theorem FY {l:List V2} (h1:l.length<=64) (h2:l.all AB=true):At l=JV (AW l l.length):=by unfold At;rw [if_pos ⟨h1,h2⟩]
theorem JX {l:List V2} (h:64<l.length):At l=[]:=by unfold At;rw [if_neg (by omega)]
theorem K6 {l:List V2} (h:l.all AB=false):At l=[]:=by unfold At;rw [if_neg (by rw [h];simp)]
theorem Sv {l:List V2} {k:Nat} (hk:k<l.length) (h:AB (l.getD k (0,0))=false):At l=[]:=
 K6 (by rw [List.all_eq_false];exact ⟨l.getD k (0,0),by simp [List.getD,hk],by rw [h];simp⟩)
theorem MF {l:List V2} {k:Nat} (hk:k<l.length) (h:(l.take k).all AB=true) (hV:AB (l.getD k (0,0))=true):(l.take (k+1)).all AB=true:=by
 have e:l.take (k+1)=l.take k++[l.getD k (0,0)]:=by
  rw [List.take_add_one];simp [List.getD,show k<l.length by omega]
 rw [e,List.all_append,h]
 simp only [List.all_cons,List.all_nil,hV];rfl
theorem U6 {a b:V2} (h:[a.1,a.2]=[b.1,b.2]):a=b:=by
 simp only [List.cons.injEq,and_true] at h
 exact Prod.ext h.1 h.2
theorem Sw {l:List V2} {k n:Nat} (hn:n<(AW l k).length) (hl:∀ j,j<n->AO ((AW l k).getD j (0,0)) (l.getD k (0,0))=true) (hc:AO ((AW l k).getD n (0,0)) (l.getD k (0,0))=false) (hq:(AW l k).getD n (0,0)=l.getD k (0,0)):AW l k=AW l (k+1):=by
 show _=E8 _ _
 rw [O4 (Nat.le_of_lt hn) hl (λ _=>hc),if_pos ⟨hn,hq⟩]
theorem QP {l:List V2} {k n:Nat} (hn:n<=(AW l k).length) (hl:∀ j,j<n->AO ((AW l k).getD j (0,0)) (l.getD k (0,0))=true) (hc:n<(AW l k).length->AO ((AW l k).getD n (0,0)) (l.getD k (0,0))=false) (hq:n<(AW l k).length->(AW l k).getD n (0,0)≠l.getD k (0,0)):(AW l k).take n++l.getD k (0,0)::(AW l k).drop n=AW l (k+1):=by
 show _=E8 _ _
 rw [O4 hn hl hc,if_neg (λ h=>hq h.1 h.2)]
theorem M6 {s:List V2} (h:s.length<3):JV s=s:=by unfold JV;rw [if_pos h]
theorem FZ {s:List V2} (h:¬ s.length<3):JV s=AQ s++AQ s.reverse:=by unfold JV;rw [if_neg h]
theorem I6 {l:List V2} (h:l.all AB=true):l.reverse.all AB=true:=by
 rw [List.all_eq_true] at *
 exact λ x hx=>h x (List.mem_reverse.1 hx)
theorem QQ {l:List V2} (h:l.all AB=true) (h0:0<l.length):0<(chT l l.length).length/\(chT l l.length).length<=l.length:=by
 refine ⟨?_,(Hi h _ (Nat.le_refl _)).1⟩
 obtain ⟨m,hm⟩:∃ m,l.length=m+1:=⟨l.length-1,by omega⟩
 rw [hm];exact QN l m
theorem M7 (l:List V2):(AA (chT l l.length)).take ((chT l l.length).length-1)=AA (AQ l):=by simp [AA,AQ,Dw,List.map_take]
theorem Fa (a b:List V2):AA (a++b)=AA a++AA b:=by simp [AA]
theorem Sx {s:List V2} {j:Nat} (hj:j<s.length):AA (s.reverse.take j)++[[.int (s.getD (s.length-1-j) (0,0)).1,.int (s.getD (s.length-1-j) (0,0)).2]]=AA (s.reverse.take (j+1)):=by
 have e:s.reverse.take (j+1)=s.reverse.take j++[s.getD (s.length-1-j) (0,0)]:=by
  rw [List.take_add_one,List.getElem?_reverse hj]
  simp [List.getD,show s.length-1-j<s.length by omega]
 rw [e,Fa];rfl
theorem M8 (s:List V2) (n:Nat) (v:V2):(((([]:List (List Dat))++(AA s).take n)++([[Dat.int v.1,Dat.int v.2]]:List (List Dat)))++((AA s).take (((AA s).length:Int).toNat)).drop n)=AA (s.take n++v::s.drop n):=by
 rw [Int.toNat_natCast,List.take_length]
 simp [AA,GG,List.map_take,List.map_drop]
end Go.Proofs.YtndnhlhnjiopfaaGreat
