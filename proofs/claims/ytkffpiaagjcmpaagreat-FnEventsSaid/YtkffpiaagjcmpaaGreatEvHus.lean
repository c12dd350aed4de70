import Derived.Test.YtkffpiaagjcmpaaGreatEvBas
namespace Go.Proofs.YtkffpiaagjcmpaaGreat
set_option linter.unusedVariables false
set_option linter.unusedSimpArgs false
def Ac (a b:V2):Bool:=decide (a.1<b.1) || (decide (a.1=b.1) && decide (a.2<b.2))
theorem BV {a b:V2} : Ac a b=true↔a.1<b.1∨(a.1=b.1/\a.2<b.2):=by simp [Ac]
theorem Ms (a:V2):Ac a a=false:=by simp [Ac]
theorem Mt {a b c:V2} (h:Ac a b=true) (h' : Ac b c=true):Ac a c=true:=by rw [BV] at *;omega
theorem OX {a b:V2} (h:Ac a b=true):Ac b a=false:=by
 rw [BV] at h
 cases hb:Ac b a with
 | false=>rfl
 | true=>rw [BV] at hb;omega
theorem Mu {a b:V2} (h:Ac a b=false) (h' : Ac b a=false):a=b:=by
 have e1:¬ (Ac a b=true):=by rw [h];simp
 have e2:¬ (Ac b a=true):=by rw [h'];simp
 rw [BV] at e1 e2
 exact Prod.ext (by omega) (by omega)
def upV (s:List V2):Prop:=s.Pairwise λ a b=>Ac a b=true
theorem YO:∀ {a b:List V2},upV a->upV b->(∀ x,x ∈ a↔x ∈ b)->a=b
 | [],[],_,_,_=>rfl
 | [],y::b,_,_,h=>absurd ((h y).2 (List.mem_cons_self ..)) (by simp)
 | x::a,[],_,_,h=>absurd ((h x).1 (List.mem_cons_self ..)) (by simp)
 | x::a,y::b,ha,hb,h=>by
  have ha':=List.pairwise_cons.1 ha
  have hb':=List.pairwise_cons.1 hb
  have hxy:x=y:=by
   rcases List.mem_cons.1 ((h x).1 (List.mem_cons_self ..)) with e|e
   ·exact e
   ·rcases List.mem_cons.1 ((h y).2 (List.mem_cons_self ..)) with e2|e2
    ·exact e2.symm
    ·have:=OX (hb'.1 x e)
     rw [ha'.1 y e2] at this;cases this
  subst hxy
  rw [YO ha'.2 hb'.2 λ z=>?_]
  constructor
  ·intro hz
   rcases List.mem_cons.1 ((h z).1 (List.mem_cons_of_mem _ hz)) with e|e
   ·subst e;have:=ha'.1 z hz;rw [Ms] at this;cases this
   ·exact e
  ·intro hz
   rcases List.mem_cons.1 ((h z).2 (List.mem_cons_of_mem _ hz)) with e|e
   ·subst e;have:=hb'.1 z hz;rw [Ms] at this;cases this
   ·exact e
def Gz (p:V2):List V2->List V2
 | []=>[p]
 | a::t=>if Ac a p=true then a::Gz p t else if a=p then a::t else p::a::t
theorem Mv {p x:V2} : ∀ {s:List V2},x ∈ Gz p s↔x=p∨x ∈ s
 | []=>by simp [Gz]
 | a::t=>by
  unfold Gz
  split
  ·rw [List.mem_cons,Mv (s:=t),List.mem_cons]
   constructor
   ·rintro (h|h|h) <;> simp [h]
   ·rintro (h|h|h) <;> simp [h]
  ·split
   ·next h=>subst h;simp
   ·simp
theorem Uh {p:V2} : ∀ {s:List V2},upV s->upV (Gz p s)
 | [],_=>by simp [Gz,upV]
 | a::t,h=>by
  have h':=List.pairwise_cons.1 h
  unfold Gz
  split
  ·next hl=>
   refine List.pairwise_cons.2 ⟨λ x hx=>?_,Uh h'.2⟩
   rcases Mv.1 hx with e|e
   ·subst e;exact hl
   ·exact h'.1 x e
  ·split
   ·exact h
   ·next hl hne=>
    have hpa:Ac p a=true:=by
     cases hc:Ac p a with
     | true=>rfl
     | false=>exact absurd (Mu (by simpa using hl) hc) hne
    refine List.pairwise_cons.2 ⟨λ x hx=>?_,h⟩
    rcases List.mem_cons.1 hx with e|e
    ·subst e;exact hpa
    ·exact Mt hpa (h'.1 x e)
def Ar (l:List V2):Nat->List V2
 | 0=>[]
 | k+1=>Gz (l.getD k (0,0)) (Ar l k)
theorem Pb (l:List V2):∀ k,upV (Ar l k)
 | 0=>List.Pairwise.nil
 | k+1=>Uh (Pb l k)
theorem G0 (l:List V2) (x:V2):∀ k,k<=l.length->(x ∈ Ar l k↔x ∈ l.take k)
 | 0,_=>by simp [Ar]
 | k+1,hk=>by
  have ih:=G0 l x k (by omega)
  have e:l.take (k+1)=l.take k++[l.getD k (0,0)]:=by
   rw [List.take_add_one];simp [List.getD,show k<l.length by omega]
  unfold Ar
  rw [Mv,e,List.mem_append,ih]
  simp only [List.mem_singleton]
  exact Or.comm
theorem RX (p:V2):∀ s:List V2,(Gz p s).length<=s.length+1
 | []=>by simp [Gz]
 | a::t=>by
  have:=RX p t
  unfold Gz
  split
  ·simp only [List.length_cons];omega
  ·split <;> simp
theorem JE (l:List V2):∀ k,(Ar l k).length<=k
 | 0=>Nat.le_refl _
 | k+1=>by have:=JE l k;have:=RX (l.getD k (0,0)) (Ar l k);unfold Ar;omega
theorem RY {l:List V2} (h:l.all AE=true) {k:Nat} (hk:k<=l.length):(Ar l k).all AE=true:=by
 rw [List.all_eq_true] at *
 intro x hx
 exact h x (List.mem_of_mem_take ((G0 l x k hk).1 hx))
theorem TZ {p:V2} : ∀ {s:List V2} {n:Nat},n<=s.length->(∀ j,j<n->Ac (s.getD j (0,0)) p=true)->(n<s.length->Ac (s.getD n (0,0)) p=false) ->
  Gz p s=if n<s.length/\s.getD n (0,0)=p then s else s.take n++p::s.drop n
 | [],n,hn,_,_=>by
  have:n=0:=by simpa using hn
  subst this
  simp [Gz]
 | a::t,0,_,_,h0=>by
  have h0:=h0 (by simp)
  simp only [List.getD_cons_zero] at h0
  unfold Gz
  rw [if_neg (by rw [h0];simp)]
  simp
 | a::t,n+1,hn,hl,hc=>by
  have h0:=hl 0 (by omega)
  simp only [List.getD_cons_zero] at h0
  have ih:=TZ (p:=p) (s:=t) (n:=n) (by simpa using hn) (λ j hj=>by have:=hl (j+1) (by omega);simpa using this) (λ h=>by have:=hc (by simpa using h);simpa using this)
  unfold Gz
  rw [if_pos h0,ih]
  simp only [List.length_cons,Nat.add_lt_add_iff_right,List.getD_cons_succ,List.take_succ_cons,List.drop_succ_cons,List.cons_append]
  split <;> rfl
def B0 (s:List V2) (v:V2):List V2:=
 if h:1<s.length/\AH (s.getD (s.length-2) (0,0)) (s.getD (s.length-1) (0,0)) v<=0 then B0 (s.take (s.length-1)) v else s
termination_by s.length
decreasing_by simp only [List.length_take]; omega
theorem JF {s:List V2} {v:V2} (h:1<s.length) (h2:AH (s.getD (s.length-2) (0,0)) (s.getD (s.length-1) (0,0)) v<=0):B0 (s.take (s.length-1)) v=B0 s v:=by
 conv=>rhs;rw [B0,dif_pos ⟨h,h2⟩]
theorem Cp {s:List V2} {v:V2} (h:¬ (1<s.length/\AH (s.getD (s.length-2) (0,0)) (s.getD (s.length-1) (0,0)) v<=0)):B0 s v=s:=by
 rw [B0,dif_neg h]
theorem KG (v:V2):∀ (n:Nat) (s:List V2),s.length<=n->∃ m,m<=s.length/\B0 s v=s.take m
 | 0,s,h=>⟨0,by omega,by rw [Cp (by omega)];simp [List.eq_nil_of_length_eq_zero (by omega:s.length=0)]⟩
 | n+1,s,h=>by
  by_cases hc:1<s.length/\AH (s.getD (s.length-2) (0,0)) (s.getD (s.length-1) (0,0)) v<=0
  ·obtain ⟨m,h1,h2⟩:=KG v n (s.take (s.length-1)) (by simp only [List.length_take];omega)
   simp only [List.length_take] at h1
   exact ⟨m,by omega,by rw [← JF hc.1 hc.2,h2,List.take_take,Nat.min_eq_left (by omega)]⟩
  ·exact ⟨s.length,Nat.le_refl _,by rw [Cp hc,List.take_length]⟩
def chT (l:List V2):Nat->List V2
 | 0=>[]
 | k+1=>B0 (chT l k) (l.getD k (0,0))++[l.getD k (0,0)]
theorem KH {l:List V2} (h:l.all AE=true):∀ k,k<=l.length->(chT l k).length<=k/\(chT l k).all AE=true
 | 0,_=>⟨Nat.le_refl _,rfl⟩
 | k+1,hk=>by
  obtain ⟨h1,h2⟩:=KH h k (by omega)
  obtain ⟨m,hm,e⟩:=KG (l.getD k (0,0)) _ (chT l k) (Nat.le_refl _)
  unfold chT
  rw [e]
  refine ⟨by simp only [List.length_append,List.length_take,List.length_cons,List.length_nil];omega,?_⟩
  rw [List.all_append,Bool.and_eq_true]
  refine ⟨?_,?_⟩
  ·rw [List.all_eq_true] at *
   exact λ x hx=>h2 x (List.mem_of_mem_take hx)
  ·have:AE (l.getD k (0,0))=true:=List.all_eq_true.1 h _ (by simp [List.getD,show k<l.length by omega])
   simp only [List.all_cons,List.all_nil,this];rfl
theorem Ui (l:List V2) (k:Nat):0<(chT l (k+1)).length:=by unfold chT;simp
theorem JG {l o:List V2} {k:Nat} (h:B0 o (l.getD k (0,0))=B0 (chT l k) (l.getD k (0,0))) (hn:B0 o (l.getD k (0,0))=o):o++[l.getD k (0,0)]=chT l (k+1):=by
 unfold chT;rw [← h,hn]
def LB (l:List V2):List V2:=l.take (l.length-1)
def A1 (l:List V2):List V2:=LB (chT l l.length)
def NW (s:List V2):List V2:=if s.length<3 then s else A1 s++A1 s.reverse
def Bf (l:List V2):List V2:=if l.length<=64/\l.all AE=true then NW (Ar l l.length) else []
theorem V7 (a b:V2):A1 [a,b]++A1 [b,a]=[a,b]:=by
 have h (x y:V2):A1 [x,y]=[x]:=by
  have e1:chT [x,y] 1=[x]:=by
   show B0 [] x++[x]=[x]
   rw [Cp (by simp)];rfl
  have e2:chT [x,y] 2=[x,y]:=by
   show B0 (chT [x,y] 1) y++[y]=[x,y]
   rw [e1,Cp (by simp)];rfl
  show LB (chT [x,y] 2)=[x]
  rw [e2];rfl
 rw [h,h];rfl
theorem YP {s:List V2} (h:s.length=2):A1 s++A1 s.reverse=NW s:=by
 match s,h with
 | [a,b],_=>exact V7 a b
theorem OY {l:List V2} (h:l.all AE=true):(A1 l).all AE=true/\(A1 l).length<=l.length:=by
 have hb:=KH h l.length (Nat.le_refl _)
 unfold A1 LB
 refine ⟨?_,by simp only [List.length_take];omega⟩
 rw [List.all_eq_true]
 intro x hx
 exact List.all_eq_true.1 hb.2 x (List.mem_of_mem_take hx)
def leV (x y:V2):Bool:=!Ac y x
def CD (l:List V2):List V2:=l.mergeSort leV
theorem OZ (a b c:V2) (h1:leV a b=true) (h2:leV b c=true):leV a c=true:=by
 unfold leV at *
 rw [Bool.not_eq_true'] at *
 cases hc:Ac c a with
 | false=>rfl
 | true=>
  rw [BV] at hc
  have e1:¬ (Ac b a=true):=by rw [h1];simp
  have e2:¬ (Ac c b=true):=by rw [h2];simp
  rw [BV] at e1 e2
  omega
theorem V8 (a b:V2):(leV a b || leV b a)=true:=by
 unfold leV
 cases h:Ac b a with
 | false=>rfl
 | true=>rw [OX h];rfl
theorem Mw (l:List V2):(CD l).Perm l:=List.mergeSort_perm l leV
theorem YQ (l:List V2):(CD l).Pairwise λ a b=>leV a b=true:=List.pairwise_mergeSort OZ V8 l
theorem Fe (l:List V2):(CD l).length=l.length:=(Mw l).length_eq
def BH:List V2->List V2
 | a::b::t=>if a=b then BH (b::t) else a::BH (b::t)
 | l=>l
theorem JH {x:V2} : ∀ {l:List V2},x ∈ BH l↔x ∈ l
 | []=>by simp [BH]
 | [a]=>by simp [BH]
 | a::b::t=>by
  unfold BH
  split
  ·next h=>subst h;rw [JH (l:=a::t)];simp
  ·rw [List.mem_cons,JH (l:=b::t)];simp only [List.mem_cons]
theorem Uj:∀ {l:List V2},(l.Pairwise λ a b=>leV a b=true)->upV (BH l)
 | [],_=>List.Pairwise.nil
 | [a],_=>by simp [BH,upV]
 | a::b::t,h=>by
  have h':=List.pairwise_cons.1 h
  have ih:=Uj h'.2
  unfold BH
  split
  ·exact ih
  ·next hne=>
   refine List.pairwise_cons.2 ⟨λ x hx=>?_,ih⟩
   have hx:=JH.1 hx
   have hab:=h'.1 b (List.mem_cons_self ..)
   have hlt:Ac a b=true:=by
    cases hc:Ac a b with
    | true=>rfl
    | false=>exact absurd (Mu hc (by unfold leV at hab;simpa using hab)) hne
   rcases List.mem_cons.1 hx with e|e
   ·subst e;exact hlt
   ·have hbx:=(List.pairwise_cons.1 h'.2).1 x e
    have e2:¬ (Ac x b=true):=by unfold leV at hbx;simpa using hbx
    rw [BV] at e2 hlt ⊢
    omega
theorem V9 (l:List V2):BH (CD l)=Ar l l.length:=
 YO (Uj (YQ l)) (Pb l _) λ x=>by
  rw [JH,(Mw l).mem_iff,G0 l x l.length (Nat.le_refl _),List.take_length]
theorem YR {P:Nat->Prop} {k:Nat} (h:∀ j,j<k->P j) (hk:P k):∀ j,j<k+1->P j:=λ j hj=>by
 rcases Nat.lt_succ_iff_lt_or_eq.1 hj with hj|rfl
 ·exact h j hj
 ·exact hk
theorem KI {l:List V2} (h1:l.length<=64) (h2:l.all AE=true):Bf l=NW (Ar l l.length):=by unfold Bf;rw [if_pos ⟨h1,h2⟩]
theorem Mx {l:List V2} (h:64<l.length):Bf l=[]:=by unfold Bf;rw [if_neg (by omega)]
theorem Oa {l:List V2} (h:l.all AE=false):Bf l=[]:=by unfold Bf;rw [if_neg (by rw [h];simp)]
theorem YS {l:List V2} {k:Nat} (hk:k<l.length) (h:AE (l.getD k (0,0))=false):Bf l=[]:=
 Oa (by rw [List.all_eq_false];exact ⟨l.getD k (0,0),by simp [List.getD,hk],by rw [h];simp⟩)
theorem Pc {l:List V2} {k:Nat} (hk:k<l.length) (h:(l.take k).all AE=true) (hV:AE (l.getD k (0,0))=true):(l.take (k+1)).all AE=true:=by
 have e:l.take (k+1)=l.take k++[l.getD k (0,0)]:=by
  rw [List.take_add_one];simp [List.getD,show k<l.length by omega]
 rw [e,List.all_append,h]
 simp only [List.all_cons,List.all_nil,hV];rfl
theorem AAJ {a b:V2} (h:[a.1,a.2]=[b.1,b.2]):a=b:=by
 simp only [List.cons.injEq,and_true] at h
 exact Prod.ext h.1 h.2
theorem YT {l:List V2} {k n:Nat} (hn:n<(Ar l k).length) (hl:∀ j,j<n->Ac ((Ar l k).getD j (0,0)) (l.getD k (0,0))=true) (hc:Ac ((Ar l k).getD n (0,0)) (l.getD k (0,0))=false) (hq:(Ar l k).getD n (0,0)=l.getD k (0,0)):Ar l k=Ar l (k+1):=by
 show _=Gz _ _
 rw [TZ (Nat.le_of_lt hn) hl (λ _=>hc),if_pos ⟨hn,hq⟩]
theorem Uk {l:List V2} {k n:Nat} (hn:n<=(Ar l k).length) (hl:∀ j,j<n->Ac ((Ar l k).getD j (0,0)) (l.getD k (0,0))=true) (hc:n<(Ar l k).length->Ac ((Ar l k).getD n (0,0)) (l.getD k (0,0))=false) (hq:n<(Ar l k).length->(Ar l k).getD n (0,0)≠l.getD k (0,0)):(Ar l k).take n++l.getD k (0,0)::(Ar l k).drop n=Ar l (k+1):=by
 show _=Gz _ _
 rw [TZ hn hl hc,if_neg (λ h=>hq h.1 h.2)]
theorem RZ {s:List V2} (h:s.length<3):NW s=s:=by unfold NW;rw [if_pos h]
theorem KJ {s:List V2} (h:¬ s.length<3):NW s=A1 s++A1 s.reverse:=by unfold NW;rw [if_neg h]
theorem LZ {l:List V2} (h:l.all AE=true):l.reverse.all AE=true:=by
 rw [List.all_eq_true] at *
 exact λ x hx=>h x (List.mem_reverse.1 hx)
theorem Ul {l:List V2} (h:l.all AE=true) (h0:0<l.length):0<(chT l l.length).length/\(chT l l.length).length<=l.length:=by
 refine ⟨?_,(KH h _ (Nat.le_refl _)).1⟩
 obtain ⟨m,hm⟩:∃ m,l.length=m+1:=⟨l.length-1,by omega⟩
 rw [hm];exact Ui l m
theorem Ra (l:List V2):(AA (chT l l.length)).take ((chT l l.length).length-1)=AA (A1 l):=by simp [AA,A1,LB,List.map_take]
theorem Hn (a b:List V2):AA (a++b)=AA a++AA b:=by simp [AA]
theorem YU {s:List V2} {j:Nat} (hj:j<s.length):AA (s.reverse.take j)++[[.int (s.getD (s.length-1-j) (0,0)).1,.int (s.getD (s.length-1-j) (0,0)).2]]=AA (s.reverse.take (j+1)):=by
 have e:s.reverse.take (j+1)=s.reverse.take j++[s.getD (s.length-1-j) (0,0)]:=by
  rw [List.take_add_one,List.getElem?_reverse hj]
  simp [List.getD,show s.length-1-j<s.length by omega]
 rw [e,Hn];rfl
theorem Rb (s:List V2) (n:Nat) (v:V2):(((([]:List (List Dat))++(AA s).take n)++([[Dat.int v.1,Dat.int v.2]]:List (List Dat)))++((AA s).take (((AA s).length:Int).toNat)).drop n)=AA (s.take n++v::s.drop n):=by
 rw [Int.toNat_natCast,List.take_length]
 simp [AA,Hz,List.map_take,List.map_drop]
end Go.Proofs.YtkffpiaagjcmpaaGreat
namespace Go.Proofs.YtkffpiaagjcmpaaGreat
set_option linter.unusedVariables false
set_option linter.unusedSimpArgs false
theorem Um (l:List V2):∀ k,k<=l.length->∀ x ∈ chT l k,x ∈ l
 | 0,_,x,hx=>by simp [chT] at hx
 | k+1,hk,x,hx=>by
  have ih:=Um l k (by omega)
  obtain ⟨m,hm,e⟩:=KG (l.getD k (0,0)) _ (chT l k) (Nat.le_refl _)
  unfold chT at hx
  rw [e] at hx
  rcases List.mem_append.1 hx with hx|hx
  ·exact ih x (List.mem_of_mem_take hx)
  ·rw [List.mem_singleton.1 hx]
   have hk' : k<l.length:=by omega
   simp [List.getD,hk']
theorem Ob {l:List V2} {x:V2} (h:x ∈ A1 l):x ∈ l:=Um l l.length (Nat.le_refl _) x (List.mem_of_mem_take h)
theorem Oc {l:List V2} {x:V2} (h:x ∈ Bf l):x ∈ l:=by
 unfold Bf at h
 split at h
 ·unfold NW at h
  have hs:∀ y ∈ Ar l l.length,y ∈ l:=λ y hy=>List.mem_of_mem_take ((G0 l y l.length (Nat.le_refl _)).1 hy)
  split at h
  ·exact hs x h
  ·rcases List.mem_append.1 h with h|h
   ·exact hs x (Ob h)
   ·exact hs x (by simpa using Ob h)
 ·cases h
end Go.Proofs.YtkffpiaagjcmpaaGreat
