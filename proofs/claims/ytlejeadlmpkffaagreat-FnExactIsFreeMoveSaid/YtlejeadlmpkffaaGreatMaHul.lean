import Derived.Test.YtlejeadlmpkffaaGreatMaBas
namespace Go.Proofs.YtlejeadlmpkffaaGreat
set_option linter.unusedVariables false
set_option linter.unusedSimpArgs false
def lessV (a b:V2):Bool:=decide (a.1<b.1) || (decide (a.1=b.1) && decide (a.2<b.2))
theorem less_iff {a b:V2} : lessV a b=true↔a.1<b.1∨(a.1=b.1/\a.2<b.2):=by simp [lessV]
theorem less_irr (a:V2):lessV a a=false:=by simp [lessV]
theorem less_trans {a b c:V2} (h:lessV a b=true) (h' : lessV b c=true):lessV a c=true:=by rw [less_iff] at *;omega
theorem less_asym {a b:V2} (h:lessV a b=true):lessV b a=false:=by
 rw [less_iff] at h
 cases hb:lessV b a with
 | false=>rfl
 | true=>rw [less_iff] at hb;omega
theorem less_tri {a b:V2} (h:lessV a b=false) (h' : lessV b a=false):a=b:=by
 have e1:¬ (lessV a b=true):=by rw [h];simp
 have e2:¬ (lessV b a=true):=by rw [h'];simp
 rw [less_iff] at e1 e2
 exact Prod.ext (by omega) (by omega)
def upV (s:List V2):Prop:=s.Pairwise λ a b=>lessV a b=true
theorem up_ext:∀ {a b:List V2},upV a->upV b->(∀ x,x ∈ a↔x ∈ b)->a=b
 | [],[],_,_,_=>rfl
 | [],y::b,_,_,h=>absurd ((h y).2 (List.mem_cons_self ..)) (by simp)
 | x::a,[],_,_,h=>absurd ((h x).1 (List.mem_cons_self ..)) (by simp)
 | x::a,y::b,ha,hb,h=>by
  have ha':=List.pairwise_cons.1 ha
  have hb':=List.pairwise_cons.1 hb
  have hxy:x=y:=by
   rcases List.mem_cons.1 ((h x).1 (List.mem_cons_self ..)) with e|e
   ·exact e
   ·rcases List.mem_cons.1 ((h y).2 (List.mem_cons_self ..)) with e2|e2
    ·exact e2.symm
    ·have:=less_asym (hb'.1 x e)
     rw [ha'.1 y e2] at this;cases this
  subst hxy
  rw [up_ext ha'.2 hb'.2 λ z=>?_]
  constructor
  ·intro hz
   rcases List.mem_cons.1 ((h z).1 (List.mem_cons_of_mem _ hz)) with e|e
   ·subst e;have:=ha'.1 z hz;rw [less_irr] at this;cases this
   ·exact e
  ·intro hz
   rcases List.mem_cons.1 ((h z).2 (List.mem_cons_of_mem _ hz)) with e|e
   ·subst e;have:=hb'.1 z hz;rw [less_irr] at this;cases this
   ·exact e
def insU (p:V2):List V2->List V2
 | []=>[p]
 | a::t=>if lessV a p=true then a::insU p t else if a=p then a::t else p::a::t
theorem mem_insU {p x:V2} : ∀ {s:List V2},x ∈ insU p s↔x=p∨x ∈ s
 | []=>by simp [insU]
 | a::t=>by
  unfold insU
  split
  ·rw [List.mem_cons,mem_insU (s:=t),List.mem_cons]
   constructor
   ·rintro (h|h|h) <;> simp [h]
   ·rintro (h|h|h) <;> simp [h]
  ·split
   ·next h=>subst h;simp
   ·simp
theorem insU_up {p:V2} : ∀ {s:List V2},upV s->upV (insU p s)
 | [],_=>by simp [insU,upV]
 | a::t,h=>by
  have h':=List.pairwise_cons.1 h
  unfold insU
  split
  ·next hl=>
   refine List.pairwise_cons.2 ⟨λ x hx=>?_,insU_up h'.2⟩
   rcases mem_insU.1 hx with e|e
   ·subst e;exact hl
   ·exact h'.1 x e
  ·split
   ·exact h
   ·next hl hne=>
    have hpa:lessV p a=true:=by
     cases hc:lessV p a with
     | true=>rfl
     | false=>exact absurd (less_tri (by simpa using hl) hc) hne
    refine List.pairwise_cons.2 ⟨λ x hx=>?_,h⟩
    rcases List.mem_cons.1 hx with e|e
    ·subst e;exact hpa
    ·exact less_trans hpa (h'.1 x e)
def srtU (l:List V2):Nat->List V2
 | 0=>[]
 | k+1=>insU (l.getD k (0,0)) (srtU l k)
theorem srtU_up (l:List V2):∀ k,upV (srtU l k)
 | 0=>List.Pairwise.nil
 | k+1=>insU_up (srtU_up l k)
theorem mem_srtU (l:List V2) (x:V2):∀ k,k<=l.length->(x ∈ srtU l k↔x ∈ l.take k)
 | 0,_=>by simp [srtU]
 | k+1,hk=>by
  have ih:=mem_srtU l x k (by omega)
  have e:l.take (k+1)=l.take k++[l.getD k (0,0)]:=by
   rw [List.take_add_one];simp [List.getD,show k<l.length by omega]
  unfold srtU
  rw [mem_insU,e,List.mem_append,ih]
  simp only [List.mem_singleton]
  exact Or.comm
theorem insU_len (p:V2):∀ s:List V2,(insU p s).length<=s.length+1
 | []=>by simp [insU]
 | a::t=>by
  have:=insU_len p t
  unfold insU
  split
  ·simp only [List.length_cons];omega
  ·split <;> simp
theorem srtU_len (l:List V2):∀ k,(srtU l k).length<=k
 | 0=>Nat.le_refl _
 | k+1=>by have:=srtU_len l k;have:=insU_len (l.getD k (0,0)) (srtU l k);unfold srtU;omega
theorem srtU_vec {l:List V2} (h:l.all isVec=true) {k:Nat} (hk:k<=l.length):(srtU l k).all isVec=true:=by
 rw [List.all_eq_true] at *
 intro x hx
 exact h x (List.mem_of_mem_take ((mem_srtU l x k hk).1 hx))
theorem ins_at {p:V2} : ∀ {s:List V2} {n:Nat},n<=s.length->(∀ j,j<n->lessV (s.getD j (0,0)) p=true)->(n<s.length->lessV (s.getD n (0,0)) p=false) ->
  insU p s=if n<s.length/\s.getD n (0,0)=p then s else s.take n++p::s.drop n
 | [],n,hn,_,_=>by
  have:n=0:=by simpa using hn
  subst this
  simp [insU]
 | a::t,0,_,_,h0=>by
  have h0:=h0 (by simp)
  simp only [List.getD_cons_zero] at h0
  unfold insU
  rw [if_neg (by rw [h0];simp)]
  simp
 | a::t,n+1,hn,hl,hc=>by
  have h0:=hl 0 (by omega)
  simp only [List.getD_cons_zero] at h0
  have ih:=ins_at (p:=p) (s:=t) (n:=n) (by simpa using hn) (λ j hj=>by have:=hl (j+1) (by omega);simpa using this) (λ h=>by have:=hc (by simpa using h);simpa using this)
  unfold insU
  rw [if_pos h0,ih]
  simp only [List.length_cons,Nat.add_lt_add_iff_right,List.getD_cons_succ,List.take_succ_cons,List.drop_succ_cons,List.cons_append]
  split <;> rfl
def popA (s:List V2) (v:V2):List V2:=
 if h:1<s.length/\turnI (s.getD (s.length-2) (0,0)) (s.getD (s.length-1) (0,0)) v<=0 then popA (s.take (s.length-1)) v else s
termination_by s.length
decreasing_by simp only [List.length_take]; omega
theorem popA_yes {s:List V2} {v:V2} (h:1<s.length) (h2:turnI (s.getD (s.length-2) (0,0)) (s.getD (s.length-1) (0,0)) v<=0):popA (s.take (s.length-1)) v=popA s v:=by
 conv=>rhs;rw [popA,dif_pos ⟨h,h2⟩]
theorem popA_no {s:List V2} {v:V2} (h:¬ (1<s.length/\turnI (s.getD (s.length-2) (0,0)) (s.getD (s.length-1) (0,0)) v<=0)):popA s v=s:=by
 rw [popA,dif_neg h]
theorem popA_take (v:V2):∀ (n:Nat) (s:List V2),s.length<=n->∃ m,m<=s.length/\popA s v=s.take m
 | 0,s,h=>⟨0,by omega,by rw [popA_no (by omega)];simp [List.eq_nil_of_length_eq_zero (by omega:s.length=0)]⟩
 | n+1,s,h=>by
  by_cases hc:1<s.length/\turnI (s.getD (s.length-2) (0,0)) (s.getD (s.length-1) (0,0)) v<=0
  ·obtain ⟨m,h1,h2⟩:=popA_take v n (s.take (s.length-1)) (by simp only [List.length_take];omega)
   simp only [List.length_take] at h1
   exact ⟨m,by omega,by rw [← popA_yes hc.1 hc.2,h2,List.take_take,Nat.min_eq_left (by omega)]⟩
  ·exact ⟨s.length,Nat.le_refl _,by rw [popA_no hc,List.take_length]⟩
def chT (l:List V2):Nat->List V2
 | 0=>[]
 | k+1=>popA (chT l k) (l.getD k (0,0))++[l.getD k (0,0)]
theorem chT_bd {l:List V2} (h:l.all isVec=true):∀ k,k<=l.length->(chT l k).length<=k/\(chT l k).all isVec=true
 | 0,_=>⟨Nat.le_refl _,rfl⟩
 | k+1,hk=>by
  obtain ⟨h1,h2⟩:=chT_bd h k (by omega)
  obtain ⟨m,hm,e⟩:=popA_take (l.getD k (0,0)) _ (chT l k) (Nat.le_refl _)
  unfold chT
  rw [e]
  refine ⟨by simp only [List.length_append,List.length_take,List.length_cons,List.length_nil];omega,?_⟩
  rw [List.all_append,Bool.and_eq_true]
  refine ⟨?_,?_⟩
  ·rw [List.all_eq_true] at *
   exact λ x hx=>h2 x (List.mem_of_mem_take hx)
  ·have:isVec (l.getD k (0,0))=true:=List.all_eq_true.1 h _ (by simp [List.getD,show k<l.length by omega])
   simp only [List.all_cons,List.all_nil,this];rfl
theorem chT_pos (l:List V2) (k:Nat):0<(chT l (k+1)).length:=by unfold chT;simp
theorem chT_step {l o:List V2} {k:Nat} (h:popA o (l.getD k (0,0))=popA (chT l k) (l.getD k (0,0))) (hn:popA o (l.getD k (0,0))=o):o++[l.getD k (0,0)]=chT l (k+1):=by
 unfold chT;rw [← h,hn]
def cutL (l:List V2):List V2:=l.take (l.length-1)
def chain (l:List V2):List V2:=cutL (chT l l.length)
def hulL (s:List V2):List V2:=if s.length<3 then s else chain s++chain s.reverse
def hullV (l:List V2):List V2:=if l.length<=64/\l.all isVec=true then hulL (srtU l l.length) else []
theorem chain_two (a b:V2):chain [a,b]++chain [b,a]=[a,b]:=by
 have h (x y:V2):chain [x,y]=[x]:=by
  have e1:chT [x,y] 1=[x]:=by
   show popA [] x++[x]=[x]
   rw [popA_no (by simp)];rfl
  have e2:chT [x,y] 2=[x,y]:=by
   show popA (chT [x,y] 1) y++[y]=[x,y]
   rw [e1,popA_no (by simp)];rfl
  show cutL (chT [x,y] 2)=[x]
  rw [e2];rfl
 rw [h,h];rfl
theorem hull_few {s:List V2} (h:s.length=2):chain s++chain s.reverse=hulL s:=by
 match s,h with
 | [a,b],_=>exact chain_two a b
theorem chain_vec {l:List V2} (h:l.all isVec=true):(chain l).all isVec=true/\(chain l).length<=l.length:=by
 have hb:=chT_bd h l.length (Nat.le_refl _)
 unfold chain cutL
 refine ⟨?_,by simp only [List.length_take];omega⟩
 rw [List.all_eq_true]
 intro x hx
 exact List.all_eq_true.1 hb.2 x (List.mem_of_mem_take hx)
def leV (x y:V2):Bool:=!lessV y x
def sortV (l:List V2):List V2:=l.mergeSort leV
theorem le_trans' (a b c:V2) (h1:leV a b=true) (h2:leV b c=true):leV a c=true:=by
 unfold leV at *
 rw [Bool.not_eq_true'] at *
 cases hc:lessV c a with
 | false=>rfl
 | true=>
  rw [less_iff] at hc
  have e1:¬ (lessV b a=true):=by rw [h1];simp
  have e2:¬ (lessV c b=true):=by rw [h2];simp
  rw [less_iff] at e1 e2
  omega
theorem le_total' (a b:V2):(leV a b || leV b a)=true:=by
 unfold leV
 cases h:lessV b a with
 | false=>rfl
 | true=>rw [less_asym h];rfl
theorem sortV_perm (l:List V2):(sortV l).Perm l:=List.mergeSort_perm l leV
theorem sortV_up (l:List V2):(sortV l).Pairwise λ a b=>leV a b=true:=List.pairwise_mergeSort le_trans' le_total' l
theorem sortV_len (l:List V2):(sortV l).length=l.length:=(sortV_perm l).length_eq
def cmpU:List V2->List V2
 | a::b::t=>if a=b then cmpU (b::t) else a::cmpU (b::t)
 | l=>l
theorem mem_cmpU {x:V2} : ∀ {l:List V2},x ∈ cmpU l↔x ∈ l
 | []=>by simp [cmpU]
 | [a]=>by simp [cmpU]
 | a::b::t=>by
  unfold cmpU
  split
  ·next h=>subst h;rw [mem_cmpU (l:=a::t)];simp
  ·rw [List.mem_cons,mem_cmpU (l:=b::t)];simp only [List.mem_cons]
theorem cmpU_up:∀ {l:List V2},(l.Pairwise λ a b=>leV a b=true)->upV (cmpU l)
 | [],_=>List.Pairwise.nil
 | [a],_=>by simp [cmpU,upV]
 | a::b::t,h=>by
  have h':=List.pairwise_cons.1 h
  have ih:=cmpU_up h'.2
  unfold cmpU
  split
  ·exact ih
  ·next hne=>
   refine List.pairwise_cons.2 ⟨λ x hx=>?_,ih⟩
   have hx:=mem_cmpU.1 hx
   have hab:=h'.1 b (List.mem_cons_self ..)
   have hlt:lessV a b=true:=by
    cases hc:lessV a b with
    | true=>rfl
    | false=>exact absurd (less_tri hc (by unfold leV at hab;simpa using hab)) hne
   rcases List.mem_cons.1 hx with e|e
   ·subst e;exact hlt
   ·have hbx:=(List.pairwise_cons.1 h'.2).1 x e
    have e2:¬ (lessV x b=true):=by unfold leV at hbx;simpa using hbx
    rw [less_iff] at e2 hlt ⊢
    omega
theorem cmpU_sort (l:List V2):cmpU (sortV l)=srtU l l.length:=
 up_ext (cmpU_up (sortV_up l)) (srtU_up l _) λ x=>by
  rw [mem_cmpU,(sortV_perm l).mem_iff,mem_srtU l x l.length (Nat.le_refl _),List.take_length]
theorem lt_stepH {P:Nat->Prop} {k:Nat} (h:∀ j,j<k->P j) (hk:P k):∀ j,j<k+1->P j:=λ j hj=>by
 rcases Nat.lt_succ_iff_lt_or_eq.1 hj with hj|rfl
 ·exact h j hj
 ·exact hk
theorem hullV_yes {l:List V2} (h1:l.length<=64) (h2:l.all isVec=true):hullV l=hulL (srtU l l.length):=by unfold hullV;rw [if_pos ⟨h1,h2⟩]
theorem hullV_long {l:List V2} (h:64<l.length):hullV l=[]:=by unfold hullV;rw [if_neg (by omega)]
theorem hullV_bad {l:List V2} (h:l.all isVec=false):hullV l=[]:=by unfold hullV;rw [if_neg (by rw [h];simp)]
theorem hullV_at {l:List V2} {k:Nat} (hk:k<l.length) (h:isVec (l.getD k (0,0))=false):hullV l=[]:=
 hullV_bad (by rw [List.all_eq_false];exact ⟨l.getD k (0,0),by simp [List.getD,hk],by rw [h];simp⟩)
theorem takeAll {l:List V2} {k:Nat} (hk:k<l.length) (h:(l.take k).all isVec=true) (hV:isVec (l.getD k (0,0))=true):(l.take (k+1)).all isVec=true:=by
 have e:l.take (k+1)=l.take k++[l.getD k (0,0)]:=by
  rw [List.take_add_one];simp [List.getD,show k<l.length by omega]
 rw [e,List.all_append,h]
 simp only [List.all_cons,List.all_nil,hV];rfl
theorem eq2_yes {a b:V2} (h:[a.1,a.2]=[b.1,b.2]):a=b:=by
 simp only [List.cons.injEq,and_true] at h
 exact Prod.ext h.1 h.2
theorem srt_same {l:List V2} {k n:Nat} (hn:n<(srtU l k).length) (hl:∀ j,j<n->lessV ((srtU l k).getD j (0,0)) (l.getD k (0,0))=true) (hc:lessV ((srtU l k).getD n (0,0)) (l.getD k (0,0))=false) (hq:(srtU l k).getD n (0,0)=l.getD k (0,0)):srtU l k=srtU l (k+1):=by
 show _=insU _ _
 rw [ins_at (Nat.le_of_lt hn) hl (λ _=>hc),if_pos ⟨hn,hq⟩]
theorem srt_put {l:List V2} {k n:Nat} (hn:n<=(srtU l k).length) (hl:∀ j,j<n->lessV ((srtU l k).getD j (0,0)) (l.getD k (0,0))=true) (hc:n<(srtU l k).length->lessV ((srtU l k).getD n (0,0)) (l.getD k (0,0))=false) (hq:n<(srtU l k).length->(srtU l k).getD n (0,0)≠l.getD k (0,0)):(srtU l k).take n++l.getD k (0,0)::(srtU l k).drop n=srtU l (k+1):=by
 show _=insU _ _
 rw [ins_at hn hl hc,if_neg (λ h=>hq h.1 h.2)]
theorem hulL_few {s:List V2} (h:s.length<3):hulL s=s:=by unfold hulL;rw [if_pos h]
theorem hulL_many {s:List V2} (h:¬ s.length<3):hulL s=chain s++chain s.reverse:=by unfold hulL;rw [if_neg h]
theorem rev_all {l:List V2} (h:l.all isVec=true):l.reverse.all isVec=true:=by
 rw [List.all_eq_true] at *
 exact λ x hx=>h x (List.mem_reverse.1 hx)
theorem chT_len {l:List V2} (h:l.all isVec=true) (h0:0<l.length):0<(chT l l.length).length/\(chT l l.length).length<=l.length:=by
 refine ⟨?_,(chT_bd h _ (Nat.le_refl _)).1⟩
 obtain ⟨m,hm⟩:∃ m,l.length=m+1:=⟨l.length-1,by omega⟩
 rw [hm];exact chT_pos l m
theorem cut_rows (l:List V2):(vecsD (chT l l.length)).take ((chT l l.length).length-1)=vecsD (chain l):=by simp [vecsD,chain,cutL,List.map_take]
theorem vecsD_app (a b:List V2):vecsD (a++b)=vecsD a++vecsD b:=by simp [vecsD]
theorem rev_snoc {s:List V2} {j:Nat} (hj:j<s.length):vecsD (s.reverse.take j)++[[.int (s.getD (s.length-1-j) (0,0)).1,.int (s.getD (s.length-1-j) (0,0)).2]]=vecsD (s.reverse.take (j+1)):=by
 have e:s.reverse.take (j+1)=s.reverse.take j++[s.getD (s.length-1-j) (0,0)]:=by
  rw [List.take_add_one,List.getElem?_reverse hj]
  simp [List.getD,show s.length-1-j<s.length by omega]
 rw [e,vecsD_app];rfl
theorem put_rows (s:List V2) (n:Nat) (v:V2):(((([]:List (List Dat))++(vecsD s).take n)++([[Dat.int v.1,Dat.int v.2]]:List (List Dat)))++((vecsD s).take (((vecsD s).length:Int).toNat)).drop n)=vecsD (s.take n++v::s.drop n):=by
 rw [Int.toNat_natCast,List.take_length]
 simp [vecsD,vecD,List.map_take,List.map_drop]
end Go.Proofs.YtlejeadlmpkffaaGreat
