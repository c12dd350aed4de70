import Derived.Test.YtkffpiaagjcmpaaGreatFrBas
namespace Go.Proofs.YtkffpiaagjcmpaaGreat
set_option linter.unusedVariables false
set_option linter.unusedSimpArgs false
def AV (a b:V2):Bool:=decide (a.1<b.1) || (decide (a.1=b.1) && decide (a.2<b.2))
theorem BL {a b:V2} : AV a b=true↔a.1<b.1∨(a.1=b.1/\a.2<b.2):=by simp [AV]
theorem K7 (a:V2):AV a a=false:=by simp [AV]
theorem K8 {a b c:V2} (h:AV a b=true) (h' : AV b c=true):AV a c=true:=by rw [BL] at *;omega
theorem M6 {a b:V2} (h:AV a b=true):AV b a=false:=by
 rw [BL] at h
 cases hb:AV b a with
 | false=>rfl
 | true=>rw [BL] at hb;omega
theorem K9 {a b:V2} (h:AV a b=false) (h' : AV b a=false):a=b:=by
 have e1:¬ (AV a b=true):=by rw [h];simp
 have e2:¬ (AV b a=true):=by rw [h'];simp
 rw [BL] at e1 e2
 exact Prod.ext (by omega) (by omega)
def upV (s:List V2):Prop:=s.Pairwise λ a b=>AV a b=true
theorem WI:∀ {a b:List V2},upV a->upV b->(∀ x,x ∈ a↔x ∈ b)->a=b
 | [],[],_,_,_=>rfl
 | [],y::b,_,_,h=>absurd ((h y).2 (List.mem_cons_self ..)) (by simp)
 | x::a,[],_,_,h=>absurd ((h x).1 (List.mem_cons_self ..)) (by simp)
 | x::a,y::b,ha,hb,h=>by
  have ha':=List.pairwise_cons.1 ha
  have hb':=List.pairwise_cons.1 hb
  have hxy:x=y:=by
   rcases List.mem_cons.1 ((h x).1 (List.mem_cons_self ..)) with e|e
   ·exact e
   ·rcases List.mem_cons.1 ((h y).2 (List.mem_cons_self ..)) with e2|e2
    ·exact e2.symm
    ·have:=M6 (hb'.1 x e)
     rw [ha'.1 y e2] at this;cases this
  subst hxy
  rw [WI ha'.2 hb'.2 λ z=>?_]
  constructor
  ·intro hz
   rcases List.mem_cons.1 ((h z).1 (List.mem_cons_of_mem _ hz)) with e|e
   ·subst e;have:=ha'.1 z hz;rw [K7] at this;cases this
   ·exact e
  ·intro hz
   rcases List.mem_cons.1 ((h z).2 (List.mem_cons_of_mem _ hz)) with e|e
   ·subst e;have:=hb'.1 z hz;rw [K7] at this;cases this
   ·exact e
def F7 (p:V2):List V2->List V2
 | []=>[p]
 | a::t=>if AV a p=true then a::F7 p t else if a=p then a::t else p::a::t
theorem LA {p x:V2} : ∀ {s:List V2},x ∈ F7 p s↔x=p∨x ∈ s
 | []=>by simp [F7]
 | a::t=>by
  unfold F7
  split
  ·rw [List.mem_cons,LA (s:=t),List.mem_cons]
   constructor
   ·rintro (h|h|h) <;> simp [h]
   ·rintro (h|h|h) <;> simp [h]
  ·split
   ·next h=>subst h;simp
   ·simp
theorem TS {p:V2} : ∀ {s:List V2},upV s->upV (F7 p s)
 | [],_=>by simp [F7,upV]
 | a::t,h=>by
  have h':=List.pairwise_cons.1 h
  unfold F7
  split
  ·next hl=>
   refine List.pairwise_cons.2 ⟨λ x hx=>?_,TS h'.2⟩
   rcases LA.1 hx with e|e
   ·subst e;exact hl
   ·exact h'.1 x e
  ·split
   ·exact h
   ·next hl hne=>
    have hpa:AV p a=true:=by
     cases hc:AV p a with
     | true=>rfl
     | false=>exact absurd (K9 (by simpa using hl) hc) hne
    refine List.pairwise_cons.2 ⟨λ x hx=>?_,h⟩
    rcases List.mem_cons.1 hx with e|e
    ·subst e;exact hpa
    ·exact K8 hpa (h'.1 x e)
def Ah (l:List V2):Nat->List V2
 | 0=>[]
 | k+1=>F7 (l.getD k (0,0)) (Ah l k)
theorem OM (l:List V2):∀ k,upV (Ah l k)
 | 0=>List.Pairwise.nil
 | k+1=>TS (OM l k)
theorem F8 (l:List V2) (x:V2):∀ k,k<=l.length->(x ∈ Ah l k↔x ∈ l.take k)
 | 0,_=>by simp [Ah]
 | k+1,hk=>by
  have ih:=F8 l x k (by omega)
  have e:l.take (k+1)=l.take k++[l.getD k (0,0)]:=by
   rw [List.take_add_one];simp [List.getD,show k<l.length by omega]
  unfold Ah
  rw [LA,e,List.mem_append,ih]
  simp only [List.mem_singleton]
  exact Or.comm
theorem PO (p:V2):∀ s:List V2,(F7 p s).length<=s.length+1
 | []=>by simp [F7]
 | a::t=>by
  have:=PO p t
  unfold F7
  split
  ·simp only [List.length_cons];omega
  ·split <;> simp
theorem IJ (l:List V2):∀ k,(Ah l k).length<=k
 | 0=>Nat.le_refl _
 | k+1=>by have:=IJ l k;have:=PO (l.getD k (0,0)) (Ah l k);unfold Ah;omega
theorem PP {l:List V2} (h:l.all AD=true) {k:Nat} (hk:k<=l.length):(Ah l k).all AD=true:=by
 rw [List.all_eq_true] at *
 intro x hx
 exact h x (List.mem_of_mem_take ((F8 l x k hk).1 hx))
theorem Ro {p:V2} : ∀ {s:List V2} {n:Nat},n<=s.length->(∀ j,j<n->AV (s.getD j (0,0)) p=true)->(n<s.length->AV (s.getD n (0,0)) p=false) ->
  F7 p s=if n<s.length/\s.getD n (0,0)=p then s else s.take n++p::s.drop n
 | [],n,hn,_,_=>by
  have:n=0:=by simpa using hn
  subst this
  simp [F7]
 | a::t,0,_,_,h0=>by
  have h0:=h0 (by simp)
  simp only [List.getD_cons_zero] at h0
  unfold F7
  rw [if_neg (by rw [h0];simp)]
  simp
 | a::t,n+1,hn,hl,hc=>by
  have h0:=hl 0 (by omega)
  simp only [List.getD_cons_zero] at h0
  have ih:=Ro (p:=p) (s:=t) (n:=n) (by simpa using hn) (λ j hj=>by have:=hl (j+1) (by omega);simpa using this) (λ h=>by have:=hc (by simpa using h);simpa using this)
  unfold F7
  rw [if_pos h0,ih]
  simp only [List.length_cons,Nat.add_lt_add_iff_right,List.getD_cons_succ,List.take_succ_cons,List.drop_succ_cons,List.cons_append]
  split <;> rfl
def Bn (s:List V2) (v:V2):List V2:=
 if h:1<s.length/\AF (s.getD (s.length-2) (0,0)) (s.getD (s.length-1) (0,0)) v<=0 then Bn (s.take (s.length-1)) v else s
termination_by s.length
decreasing_by simp only [List.length_take]; omega
theorem IK {s:List V2} {v:V2} (h:1<s.length) (h2:AF (s.getD (s.length-2) (0,0)) (s.getD (s.length-1) (0,0)) v<=0):Bn (s.take (s.length-1)) v=Bn s v:=by
 conv=>rhs;rw [Bn,dif_pos ⟨h,h2⟩]
theorem CN {s:List V2} {v:V2} (h:¬ (1<s.length/\AF (s.getD (s.length-2) (0,0)) (s.getD (s.length-1) (0,0)) v<=0)):Bn s v=s:=by
 rw [Bn,dif_neg h]
theorem I7 (v:V2):∀ (n:Nat) (s:List V2),s.length<=n->∃ m,m<=s.length/\Bn s v=s.take m
 | 0,s,h=>⟨0,by omega,by rw [CN (by omega)];simp [List.eq_nil_of_length_eq_zero (by omega:s.length=0)]⟩
 | n+1,s,h=>by
  by_cases hc:1<s.length/\AF (s.getD (s.length-2) (0,0)) (s.getD (s.length-1) (0,0)) v<=0
  ·obtain ⟨m,h1,h2⟩:=I7 v n (s.take (s.length-1)) (by simp only [List.length_take];omega)
   simp only [List.length_take] at h1
   exact ⟨m,by omega,by rw [← IK hc.1 hc.2,h2,List.take_take,Nat.min_eq_left (by omega)]⟩
  ·exact ⟨s.length,Nat.le_refl _,by rw [CN hc,List.take_length]⟩
def chT (l:List V2):Nat->List V2
 | 0=>[]
 | k+1=>Bn (chT l k) (l.getD k (0,0))++[l.getD k (0,0)]
theorem I8 {l:List V2} (h:l.all AD=true):∀ k,k<=l.length->(chT l k).length<=k/\(chT l k).all AD=true
 | 0,_=>⟨Nat.le_refl _,rfl⟩
 | k+1,hk=>by
  obtain ⟨h1,h2⟩:=I8 h k (by omega)
  obtain ⟨m,hm,e⟩:=I7 (l.getD k (0,0)) _ (chT l k) (Nat.le_refl _)
  unfold chT
  rw [e]
  refine ⟨by simp only [List.length_append,List.length_take,List.length_cons,List.length_nil];omega,?_⟩
  rw [List.all_append,Bool.and_eq_true]
  refine ⟨?_,?_⟩
  ·rw [List.all_eq_true] at *
   exact λ x hx=>h2 x (List.mem_of_mem_take hx)
  ·have:AD (l.getD k (0,0))=true:=List.all_eq_true.1 h _ (by simp [List.getD,show k<l.length by omega])
   simp only [List.all_cons,List.all_nil,this];rfl
theorem TU (l:List V2) (k:Nat):0<(chT l (k+1)).length:=by unfold chT;simp
theorem IL {l o:List V2} {k:Nat} (h:Bn o (l.getD k (0,0))=Bn (chT l k) (l.getD k (0,0))) (hn:Bn o (l.getD k (0,0))=o):o++[l.getD k (0,0)]=chT l (k+1):=by
 unfold chT;rw [← h,hn]
def KS (l:List V2):List V2:=l.take (l.length-1)
def At (l:List V2):List V2:=KS (chT l l.length)
def Mk (s:List V2):List V2:=if s.length<3 then s else At s++At s.reverse
def BO (l:List V2):List V2:=if l.length<=64/\l.all AD=true then Mk (Ah l l.length) else []
theorem Ul (a b:V2):At [a,b]++At [b,a]=[a,b]:=by
 have h (x y:V2):At [x,y]=[x]:=by
  have e1:chT [x,y] 1=[x]:=by
   show Bn [] x++[x]=[x]
   rw [CN (by simp)];rfl
  have e2:chT [x,y] 2=[x,y]:=by
   show Bn (chT [x,y] 1) y++[y]=[x,y]
   rw [e1,CN (by simp)];rfl
  show KS (chT [x,y] 2)=[x]
  rw [e2];rfl
 rw [h,h];rfl
theorem WJ {s:List V2} (h:s.length=2):At s++At s.reverse=Mk s:=by
 match s,h with
 | [a,b],_=>exact Ul a b
theorem M7 {l:List V2} (h:l.all AD=true):(At l).all AD=true/\(At l).length<=l.length:=by
 have hb:=I8 h l.length (Nat.le_refl _)
 unfold At KS
 refine ⟨?_,by simp only [List.length_take];omega⟩
 rw [List.all_eq_true]
 intro x hx
 exact List.all_eq_true.1 hb.2 x (List.mem_of_mem_take hx)
def leV (x y:V2):Bool:=!AV y x
def Bu (l:List V2):List V2:=l.mergeSort leV
theorem M8 (a b c:V2) (h1:leV a b=true) (h2:leV b c=true):leV a c=true:=by
 unfold leV at *
 rw [Bool.not_eq_true'] at *
 cases hc:AV c a with
 | false=>rfl
 | true=>
  rw [BL] at hc
  have e1:¬ (AV b a=true):=by rw [h1];simp
  have e2:¬ (AV c b=true):=by rw [h2];simp
  rw [BL] at e1 e2
  omega
theorem Um (a b:V2):(leV a b || leV b a)=true:=by
 unfold leV
 cases h:AV b a with
 | false=>rfl
 | true=>rw [M6 h];rfl
theorem LB (l:List V2):(Bu l).Perm l:=List.mergeSort_perm l leV
theorem WK (l:List V2):(Bu l).Pairwise λ a b=>leV a b=true:=List.pairwise_mergeSort M8 Um l
theorem Ep (l:List V2):(Bu l).length=l.length:=(LB l).length_eq
def A4:List V2->List V2
 | a::b::t=>if a=b then A4 (b::t) else a::A4 (b::t)
 | l=>l
theorem IM {x:V2} : ∀ {l:List V2},x ∈ A4 l↔x ∈ l
 | []=>by simp [A4]
 | [a]=>by simp [A4]
 | a::b::t=>by
  unfold A4
  split
  ·next h=>subst h;rw [IM (l:=a::t)];simp
  ·rw [List.mem_cons,IM (l:=b::t)];simp only [List.mem_cons]
theorem TV:∀ {l:List V2},(l.Pairwise λ a b=>leV a b=true)->upV (A4 l)
 | [],_=>List.Pairwise.nil
 | [a],_=>by simp [A4,upV]
 | a::b::t,h=>by
  have h':=List.pairwise_cons.1 h
  have ih:=TV h'.2
  unfold A4
  split
  ·exact ih
  ·next hne=>
   refine List.pairwise_cons.2 ⟨λ x hx=>?_,ih⟩
   have hx:=IM.1 hx
   have hab:=h'.1 b (List.mem_cons_self ..)
   have hlt:AV a b=true:=by
    cases hc:AV a b with
    | true=>rfl
    | false=>exact absurd (K9 hc (by unfold leV at hab;simpa using hab)) hne
   rcases List.mem_cons.1 hx with e|e
   ·subst e;exact hlt
   ·have hbx:=(List.pairwise_cons.1 h'.2).1 x e
    have e2:¬ (AV x b=true):=by unfold leV at hbx;simpa using hbx
    rw [BL] at e2 hlt ⊢
    omega
theorem Un (l:List V2):A4 (Bu l)=Ah l l.length:=
 WI (TV (WK l)) (OM l _) λ x=>by
  rw [IM,(LB l).mem_iff,F8 l x l.length (Nat.le_refl _),List.take_length]
theorem WL {P:Nat->Prop} {k:Nat} (h:∀ j,j<k->P j) (hk:P k):∀ j,j<k+1->P j:=λ j hj=>by
 rcases Nat.lt_succ_iff_lt_or_eq.1 hj with hj|rfl
 ·exact h j hj
 ·exact hk
theorem I9 {l:List V2} (h1:l.length<=64) (h2:l.all AD=true):BO l=Mk (Ah l l.length):=by unfold BO;rw [if_pos ⟨h1,h2⟩]
theorem LD {l:List V2} (h:64<l.length):BO l=[]:=by unfold BO;rw [if_neg (by omega)]
theorem M9 {l:List V2} (h:l.all AD=false):BO l=[]:=by unfold BO;rw [if_neg (by rw [h];simp)]
theorem WM {l:List V2} {k:Nat} (hk:k<l.length) (h:AD (l.getD k (0,0))=false):BO l=[]:=
 M9 (by rw [List.all_eq_false];exact ⟨l.getD k (0,0),by simp [List.getD,hk],by rw [h];simp⟩)
theorem ON {l:List V2} {k:Nat} (hk:k<l.length) (h:(l.take k).all AD=true) (hV:AD (l.getD k (0,0))=true):(l.take (k+1)).all AD=true:=by
 have e:l.take (k+1)=l.take k++[l.getD k (0,0)]:=by
  rw [List.take_add_one];simp [List.getD,show k<l.length by omega]
 rw [e,List.all_append,h]
 simp only [List.all_cons,List.all_nil,hV];rfl
theorem Yi {a b:V2} (h:[a.1,a.2]=[b.1,b.2]):a=b:=by
 simp only [List.cons.injEq,and_true] at h
 exact Prod.ext h.1 h.2
theorem WN {l:List V2} {k n:Nat} (hn:n<(Ah l k).length) (hl:∀ j,j<n->AV ((Ah l k).getD j (0,0)) (l.getD k (0,0))=true) (hc:AV ((Ah l k).getD n (0,0)) (l.getD k (0,0))=false) (hq:(Ah l k).getD n (0,0)=l.getD k (0,0)):Ah l k=Ah l (k+1):=by
 show _=F7 _ _
 rw [Ro (Nat.le_of_lt hn) hl (λ _=>hc),if_pos ⟨hn,hq⟩]
theorem TW {l:List V2} {k n:Nat} (hn:n<=(Ah l k).length) (hl:∀ j,j<n->AV ((Ah l k).getD j (0,0)) (l.getD k (0,0))=true) (hc:n<(Ah l k).length->AV ((Ah l k).getD n (0,0)) (l.getD k (0,0))=false) (hq:n<(Ah l k).length->(Ah l k).getD n (0,0)≠l.getD k (0,0)):(Ah l k).take n++l.getD k (0,0)::(Ah l k).drop n=Ah l (k+1):=by
 show _=F7 _ _
 rw [Ro hn hl hc,if_neg (λ h=>hq h.1 h.2)]
theorem PQ {s:List V2} (h:s.length<3):Mk s=s:=by unfold Mk;rw [if_pos h]
theorem JA {s:List V2} (h:¬ s.length<3):Mk s=At s++At s.reverse:=by unfold Mk;rw [if_neg h]
theorem Ke {l:List V2} (h:l.all AD=true):l.reverse.all AD=true:=by
 rw [List.all_eq_true] at *
 exact λ x hx=>h x (List.mem_reverse.1 hx)
theorem TX {l:List V2} (h:l.all AD=true) (h0:0<l.length):0<(chT l l.length).length/\(chT l l.length).length<=l.length:=by
 refine ⟨?_,(I8 h _ (Nat.le_refl _)).1⟩
 obtain ⟨m,hm⟩:∃ m,l.length=m+1:=⟨l.length-1,by omega⟩
 rw [hm];exact TU l m
theorem PR (l:List V2):(AA (chT l l.length)).take ((chT l l.length).length-1)=AA (At l):=by simp [AA,At,KS,List.map_take]
theorem Ge (a b:List V2):AA (a++b)=AA a++AA b:=by simp [AA]
theorem WO {s:List V2} {j:Nat} (hj:j<s.length):AA (s.reverse.take j)++[[.int (s.getD (s.length-1-j) (0,0)).1,.int (s.getD (s.length-1-j) (0,0)).2]]=AA (s.reverse.take (j+1)):=by
 have e:s.reverse.take (j+1)=s.reverse.take j++[s.getD (s.length-1-j) (0,0)]:=by
  rw [List.take_add_one,List.getElem?_reverse hj]
  simp [List.getD,show s.length-1-j<s.length by omega]
 rw [e,Ge];rfl
theorem PS (s:List V2) (n:Nat) (v:V2):(((([]:List (List Dat))++(AA s).take n)++([[Dat.int v.1,Dat.int v.2]]:List (List Dat)))++((AA s).take (((AA s).length:Int).toNat)).drop n)=AA (s.take n++v::s.drop n):=by
 rw [Int.toNat_natCast,List.take_length]
 simp [AA,Hd,List.map_take,List.map_drop]
end Go.Proofs.YtkffpiaagjcmpaaGreat
namespace Go.Proofs.YtkffpiaagjcmpaaGreat
set_option linter.unusedVariables false
set_option linter.unusedSimpArgs false
theorem Rp {u1 u2 w1 w2 z1 z2:Int} (hu:0<u1∨(u1=0/\0<u2)) (hw:0<w1∨(w1=0/\0<w2)) (hz:0<z1∨(z1=0/\0<=z2)) (h1:0<=u1*w2-u2*w1) (h2:0<=w1*z2-w2*z1):0<=u1*z2-u2*z1:=by
 have hu0:0<=u1:=by omega
 have hz0:0<=z1:=by omega
 rcases hw with hw|⟨rfl,hw⟩
 ·have e:w1*(u1*z2-u2*z1)=z1*(u1*w2-u2*w1)+u1*(w1*z2-w2*z1):=by grind
  have h3:0<=w1*(u1*z2-u2*z1):=by rw [e];exact Int.add_nonneg (Int.mul_nonneg hz0 h1) (Int.mul_nonneg hu0 h2)
  exact Int.nonneg_of_mul_nonneg_right h3 hw
 ·have hz1:z1=0:=by
   rcases hz with hz|hz
   ·have:=Int.mul_pos hw hz;omega
   ·exact hz.1
  subst hz1
  have:0<=u1*z2:=Int.mul_nonneg hu0 (by omega)
  omega
theorem NA {z a b v:V2} (h1:AV z a=true) (h2:AV a b=true) (h3:AV b v=true) (h4:0<AF z a b) (h5:0<AF a b v):0<AF z a v:=by
 rw [BL] at h1 h2 h3
 have:=Rp (u1:=a.1-z.1) (u2:=a.2-z.2) (w1:=b.1-a.1) (w2:=b.2-a.2) (z1:=v.1-b.1) (z2:=v.2-b.2) (by omega) (by omega) (by omega) (by unfold AF at h4;grind) (by unfold AF at h5;grind)
 unfold AF at *
 grind
structure OrdG (lt:V2->V2->Prop):Prop where
 trans:∀ {a b c},lt a b->lt b c->lt a c
 irr:∀ a,¬ lt a a
 tri:∀ a b,lt a b∨a=b∨lt b a
 high:∀ {c b v x},lt c b->lt c v->(x=c∨lt c x)->AF c b v<=0->0<=AF c b x->0<=AF c v x
 next:∀ {z a b v},lt z a->lt a b->lt b v->0<AF z a b->0<AF a b v->0<AF z a v
 low:∀ {a b v x},lt a b->lt b v->lt x b->0<=AF a b x->0<AF a b v->0<=AF b v x
theorem AU:OrdG (λ a b=>AV a b=true) where
 trans:=λ h h'=>by rw [BL] at *;omega
 irr:=λ a h=>by rw [BL] at h;omega
 tri:=λ a b=>by
  simp only [BL]
  rcases a with ⟨a1,a2⟩;rcases b with ⟨b1,b2⟩
  simp only [Prod.mk.injEq]
  omega
 high:=λ {c b v x} h1 h2 h3 h4 h5=>by
  have h3:0<x.1-c.1∨(x.1-c.1=0/\0<=x.2-c.2):=by
   rcases h3 with rfl|h3
   ·omega
   ·rw [BL] at h3;omega
  rw [BL] at h1 h2
  exact Rp (u1:=v.1-c.1) (u2:=v.2-c.2) (w1:=b.1-c.1) (w2:=b.2-c.2) (by omega) (by omega) h3 (by unfold AF at h4;grind) h5
 next:=NA
 low:=λ {a b v x} h1 h2 h3 h4 h5=>by
  rw [BL] at h1 h2 h3
  have:=Rp (u1:=b.1-x.1) (u2:=b.2-x.2) (w1:=b.1-a.1) (w2:=b.2-a.2) (z1:=v.1-b.1) (z2:=v.2-b.2) (by omega) (by omega) (by omega) (by unfold AF at h4;grind) (by unfold AF at h5;grind)
  unfold AF
  grind
theorem Gf:OrdG (λ a b=>AV b a=true):=by
 have hn:∀ a b:V2,AV b a=true↔AV (-a.1,-a.2) (-b.1,-b.2)=true:=λ a b=>by simp only [BL];omega
 have ht:∀ a b c:V2,AF (-a.1,-a.2) (-b.1,-b.2) (-c.1,-c.2)=AF a b c:=λ a b c=>by simp only [AF];grind
 refine ⟨λ h h'=>AU.trans h' h,λ a h=>AU.irr a h,λ a b=>?_,λ h1 h2 h3 h4 h5=>?_,λ h1 h2 h3 h4 h5=>?_,λ h1 h2 h3 h4 h5=>?_⟩
 ·rcases AU.tri a b with h|h|h
  ·exact .inr (.inr h)
  ·exact .inr (.inl h)
  ·exact .inl h
 ·rw [hn] at h1 h2
  rw [← ht] at h4 h5 ⊢
  refine AU.high h1 h2 ?_ h4 h5
  rcases h3 with rfl|h3
  ·exact .inl rfl
  ·exact .inr ((hn _ _).1 h3)
 ·rw [hn] at h1 h2 h3
  rw [← ht] at h4 h5 ⊢
  exact NA h1 h2 h3 h4 h5
 ·rw [hn] at h1 h2 h3
  rw [← ht] at h4 h5 ⊢
  exact AU.low h1 h2 h3 h4 h5
def JB (v:V2):List V2->List V2
 | b::a::t=>if AF a b v<=0 then JB v (a::t) else b::a::t
 | l=>l
theorem PT (v:V2):∀ st:List V2,Bn st.reverse v=(JB v st).reverse
 | []=>by rw [CN (by simp)];rfl
 | [b]=>by rw [CN (by simp)];rfl
 | b::a::t=>by
  have e1:(b::a::t).reverse.getD ((b::a::t).reverse.length-2) (0,0)=a:=by
   simp [List.getD]
  have e2:(b::a::t).reverse.getD ((b::a::t).reverse.length-1) (0,0)=b:=by
   simp [List.getD]
  have e3:(b::a::t).reverse.take ((b::a::t).reverse.length-1)=(a::t).reverse:=by
   have:t.reverse.length=t.length:=List.length_reverse
   simp [List.take_append,List.take_of_length_le]
  unfold JB
  by_cases h:AF a b v<=0
  ·rw [if_pos h,← IK (by simp) (by rw [e1,e2];exact h),e3,PT v (a::t)]
  ·rw [if_neg h,CN (by rw [e1,e2];exact λ q=>h q.2)]
def WP (lt:V2->V2->Prop) (S:V2->Prop) (a b:V2):Prop:=lt a b/\∀ x,S x->0<=AF a b x
def F9 (R:V2->V2->Prop):List V2->Prop
 | b::a::t=>R a b/\F9 R (a::t)
 | _=>True
def JC:List V2->Prop
 | b::a::z::t=>0<AF z a b/\JC (a::z::t)
 | _=>True
theorem PU {b:V2} {t:List V2} (h:JC (b::t)):JC t:=by
 match t,h with
 | [],_=>trivial
 | [a],_=>trivial
 | a::z::t,h=>exact h.2
structure Stk (lt:V2->V2->Prop) (S:V2->Prop) (st:List V2):Prop where
 ne:st≠[]
 mem:∀ v ∈ st,S v
 edge:F9 (WP lt S) st
 left:JC st
 low:∀ b,st.getLast?=some b->∀ x,S x->x=b∨lt b x
theorem Stk.pop {lt:V2->V2->Prop} (G:OrdG lt) {S:V2->Prop} {v:V2} (hv:∀ x,S x->lt x v):∀ st:List V2,Stk lt S st->(∀ b t,st=b::t->∀ x,S x->(x=b∨lt b x)->0<=AF b v x) ->
  Stk lt S (JB v st)/\(∀ b t,JB v st=b::t->∀ x,S x->(x=b∨lt b x)->0<=AF b v x)/\(∀ b a t,JB v st=b::a::t->0<AF a b v)
 | [],h,hH=>⟨h,hH,λ b a t e=>by simp [JB] at e⟩
 | [b],h,hH=>⟨h,hH,λ b a t e=>by simp [JB] at e⟩
 | b::a::t,h,hH=>by
  unfold JB
  by_cases hc:AF a b v<=0
  ·rw [if_pos hc]
   refine Stk.pop G hv (a::t) ⟨by simp,λ x hx=>h.mem x (List.mem_cons_of_mem _ hx),h.edge.2,PU h.left,λ q hq=>h.low q (by rw [List.getLast?_cons_cons];exact hq)⟩ ?_
   intro a' t' e x hx hle
   cases e
   exact G.high h.edge.1.1 (hv _ (h.mem _ (by simp))) hle hc (h.edge.1.2 x hx)
  ·rw [if_neg hc]
   refine ⟨h,hH,λ b' a' t' e=>?_⟩
   cases e
   omega
theorem TY {lt:V2->V2->Prop} (G:OrdG lt) {S:V2->Prop} {v:V2} : ∀ (t:List V2) (a b:V2),F9 (WP lt S) (b::a::t)->JC (b::a::t)->lt b v->0<AF a b v->F9 (λ a b=>0<=AF a b v) (b::a::t)
 | [],a,b,h1,h2,h3,h4=>⟨by omega,trivial⟩
 | z::t,a,b,h1,h2,h3,h4=>by
  refine ⟨by omega,TY G t z a h1.2 h2.2 (G.trans h1.1.1 h3) (G.next h1.2.1.1 h1.1.1 h3 h2.1 h4)⟩
theorem NB {R Q T:V2->V2->Prop} (h:∀ a b,R a b->Q a b->T a b):∀ st,F9 R st->F9 Q st->F9 T st
 | [],_,_=>trivial
 | [b],_,_=>trivial
 | b::a::t,h1,h2=>⟨h a b h1.1 h2.1,NB h (a::t) h1.2 h2.2⟩
theorem JD (b v:V2):AF b v b=0:=by unfold AF;grind
theorem Ho (b v:V2):AF b v v=0:=by unfold AF;grind
theorem Stk.push {lt:V2->V2->Prop} (G:OrdG lt) {S:V2->Prop} {v:V2} (hv:∀ x,S x->lt x v) {st:List V2} (h:Stk lt S st) (hm:∀ b t,st=b::t->∀ x,S x->x=b∨lt x b):Stk lt (λ x=>S x∨x=v) (v::JB v st):=by
 obtain ⟨h1,h2,h3⟩:=h.pop G hv st (λ b t e x hx hle=>by
  have hxb:x=b:=by
   rcases hle with e' | hl
   ·exact e'
   ·rcases hm b t e x hx with e' | hl'
    ·exact e'
    ·exact absurd (G.trans hl hl') (G.irr _)
  rw [hxb,JD];exact Int.le_refl 0)
 have hall:∀ b t,JB v st=b::t->∀ x,S x->0<=AF b v x:=by
  intro b t e x hx
  rcases G.tri x b with hl|he|hl
  ·cases t with
   | nil=>
    exfalso
    rcases h1.low b (by rw [e];rfl) x hx with e' | hl'
    ·exact G.irr _ (e' ▸ hl)
    ·exact G.irr _ (G.trans hl hl')
   | cons a t=>
    have he:=h1.edge
    rw [e] at he
    exact G.low he.1.1 (hv b (h1.mem b (by rw [e];simp))) hl (he.1.2 x hx) (h3 b a t e)
  ·exact h2 b t e x hx (.inl he)
  ·exact h2 b t e x hx (.inr hl)
 match hs:JB v st,h1,h2,h3,hall with
 | [],h1,_,_,_=>exact absurd rfl h1.ne
 | [b],h1,_,_,hall=>
  have hlt:=hv b (h1.mem b (by simp))
  refine ⟨by simp,λ x hx=>?_,⟨⟨hlt,λ x hx=>?_⟩,trivial⟩,trivial,λ q hq x hx=>?_⟩
  ·rcases List.mem_cons.1 hx with e|hx
   ·exact .inr e
   ·exact .inl (h1.mem x hx)
  ·rcases hx with hx|rfl
   ·exact hall b [] rfl x hx
   ·rw [Ho];exact Int.le_refl 0
  ·rcases hx with hx|rfl
   ·exact h1.low q hq x hx
   ·have:b=q:=by simpa using hq
    exact .inr (this ▸ hlt)
 | b::a::t,h1,h2,h3,hall=>
  have hlt:=hv b (h1.mem b (by simp))
  have hp:=TY G t a b h1.edge h1.left hlt (h3 b a t rfl)
  refine ⟨by simp,λ x hx=>?_,⟨⟨hlt,λ x hx=>?_⟩,?_⟩,⟨h3 b a t rfl,h1.left⟩,λ q hq x hx=>?_⟩
  ·rcases List.mem_cons.1 hx with e|hx
   ·exact .inr e
   ·exact .inl (h1.mem x hx)
  ·rcases hx with hx|rfl
   ·exact hall b _ rfl x hx
   ·rw [Ho];exact Int.le_refl 0
  ·refine NB (λ a b h h'=>⟨h.1,λ x hx=>?_⟩) _ h1.edge hp
   rcases hx with hx|rfl
   ·exact h.2 x hx
   ·exact h'
  ·rcases hx with hx|rfl
   ·exact h1.low q (by rw [List.getLast?_cons_cons] at hq;exact hq) x hx
   ·rw [List.getLast?_cons_cons] at hq
    have hq:=List.mem_of_getLast? hq
    exact .inr (hv q (h1.mem q (by first|exact hq|(rw [hs];exact hq))))
theorem OO {lt : V2 → V2 → Prop} (G : OrdG lt) {l : List V2} (hl : l.Pairwise lt) : ∀ k, k + 1 ≤ l.length → Stk lt (fun x => x ∈ l.take (k + 1)) (chT l (k + 1)).reverse ∧ (chT l (k + 1)).reverse.head? = some (l.getD k (0, 0))
  | 0, hk => by
    have e : l.take 1 = [l.getD 0 (0, 0)] := by
      cases l with
      | nil => simp at hk
      | cons a t => simp
    have e1 : chT l 1 = [l.getD 0 (0, 0)] := by
      show Bn [] _ ++ _ = _
      rw [CN (by simp)]; rfl
    rw [e, e1]
    refine ⟨⟨by simp, fun v hv => by simpa using hv, trivial, trivial, fun b hb x hx => .inl ?_⟩, rfl⟩
    have hb : l.getD 0 (0, 0) = b := by simpa using hb
    have hx : x = l.getD 0 (0, 0) := by simpa using hx
    rw [hx, hb]
  | k + 1, hk => by
    obtain ⟨ih, hd⟩ := OO G hl k (by omega)
    have e : (chT l (k + 1 + 1)).reverse = l.getD (k + 1) (0, 0) :: JB (l.getD (k + 1) (0, 0)) (chT l (k + 1)).reverse := by
      have : chT l (k + 1) = (chT l (k + 1)).reverse.reverse := by simp
      show (Bn (chT l (k + 1)) _ ++ [_]).reverse = _
      rw [List.reverse_append]
      conv => lhs; rw [this, PT]
      simp
    have hg : ∀ j, j < l.length → l[j]? = some (l.getD j (0, 0)) := fun j hj => by simp [List.getD, hj]
    have hlt : ∀ i j, i < j → j < l.length → lt (l.getD i (0, 0)) (l.getD j (0, 0)) := fun i j hij hj => by
      have := List.pairwise_iff_getElem.1 hl i j (by omega) hj hij
      simpa [List.getD, hj, show i < l.length by omega] using this
    have hmem : ∀ x m, x ∈ l.take m → m ≤ l.length → ∃ i, i < m ∧ x = l.getD i (0, 0) := fun x m hx hm => by
      obtain ⟨i, hi, rfl⟩ := List.getElem_of_mem hx
      have : i < m := by simp only [List.length_take] at hi; omega
      exact ⟨i, this, by simp [List.getD, show i < l.length by omega]⟩
    rw [e]
    refine ⟨?_, rfl⟩
    have := ih.push G (v := l.getD (k + 1) (0, 0)) (fun x hx => by
        obtain ⟨i, hi, rfl⟩ := hmem x _ hx (by omega)
        exact hlt i (k + 1) hi (by omega)) (fun b t e x hx => by
        rw [e] at hd
        have hd : b = l.getD k (0, 0) := by simpa using hd
        obtain ⟨i, hi, rfl⟩ := hmem x _ hx (by omega)
        by_cases hik : i = k
        · exact .inl (by rw [hd, hik])
        · exact .inr (hd ▸ hlt i k (by omega) (by omega)))
    have hS : (fun x => x ∈ l.take (k + 1 + 1)) = fun x => x ∈ l.take (k + 1) ∨ x = l.getD (k + 1) (0, 0) := by
      funext x
      have : l.take (k + 1 + 1) = l.take (k + 1) ++ [l.getD (k + 1) (0, 0)] := by
        rw [List.take_add_one (i := k + 1), hg _ (by omega)]; rfl
      rw [this]; simp
    rw [hS]; exact this
theorem LF {R:V2->V2->Prop} : ∀ {st:List V2},F9 R st->∀ i,i+1<st.length->R (st.getD (i+1) (0,0)) (st.getD i (0,0))
 | [],_,i,hi=>absurd hi (by simp)
 | [b],_,i,hi=>absurd hi (by simp)
 | b::a::t,h,0,hi=>h.1
 | b::a::t,h,i+1,hi=>by
  have:=LF h.2 i (by simpa using hi)
  simpa only [List.getD_cons_succ] using this
theorem LG:∀ {st:List V2},JC st->∀ i,i+2<st.length->0<AF (st.getD (i+2) (0,0)) (st.getD (i+1) (0,0)) (st.getD i (0,0))
 | [],_,i,hi=>absurd hi (by simp)
 | [b],_,i,hi=>absurd hi (by simp)
 | [b,a],_,i,hi=>absurd hi (by simp)
 | b::a::z::t,h,0,hi=>h.1
 | b::a::z::t,h,i+1,hi=>by
  have:=LG (st:=a::z::t) h.2 i (by simpa using hi)
  simpa only [List.getD_cons_succ] using this
structure Chn (lt:V2->V2->Prop) (S:V2->Prop) (c:List V2):Prop where
 mem:∀ i,i<c.length->S (c.getD i (0,0))
 edge:∀ i,i+1<c.length->WP lt S (c.getD i (0,0)) (c.getD (i+1) (0,0))
 left:∀ i,i+2<c.length->0<AF (c.getD i (0,0)) (c.getD (i+1) (0,0)) (c.getD (i+2) (0,0))
theorem FK (st:List V2) {i:Nat} (hi:i<st.length):st.reverse.getD i (0,0)=st.getD (st.length-1-i) (0,0):=by
 simp [List.getD,hi,show st.length-1-i<st.length by omega]
theorem Stk.chn {lt:V2->V2->Prop} {S:V2->Prop} {st:List V2} (h:Stk lt S st):Chn lt S st.reverse where
 mem:=λ i hi=>by
  rw [List.length_reverse] at hi
  rw [FK st hi]
  exact h.mem _ (by simp [List.getD,show st.length-1-i<st.length by omega])
 edge:=λ i hi=>by
  rw [List.length_reverse] at hi
  rw [FK st (by omega),FK st (by omega)]
  have:=LF h.edge (st.length-1-(i+1)) (by omega)
  rwa [show st.length-1-(i+1)+1=st.length-1-i by omega] at this
 left:=λ i hi=>by
  rw [List.length_reverse] at hi
  rw [FK st (by omega),FK st (by omega),FK st (by omega)]
  have:=LG h.left (st.length-1-(i+2)) (by omega)
  rwa [show st.length-1-(i+2)+1=st.length-1-(i+1) by omega,show st.length-1-(i+2)+2=st.length-1-i by omega] at this
theorem Chn.lt {lt:V2->V2->Prop} (G:OrdG lt) {S:V2->Prop} {c:List V2} (h:Chn lt S c) (i:Nat):∀ d,i+d+1<c.length->lt (c.getD i (0,0)) (c.getD (i+d+1) (0,0))
 | 0,hd=>(h.edge i hd).1
 | d+1,hd=>G.trans (h.lt G i d (by omega)) (h.edge (i+d+1) hd).1
theorem Chn.lt' {lt:V2->V2->Prop} (G:OrdG lt) {S:V2->Prop} {c:List V2} (h:Chn lt S c) {i j:Nat} (hij:i<j) (hj:j<c.length):lt (c.getD i (0,0)) (c.getD j (0,0)):=by
 have:=h.lt G i (j-i-1) (by omega)
 rwa [show i+(j-i-1)+1=j by omega] at this
theorem Uo {u1 u2 w1 w2 p1 p2 q1 q2:Int} (h1:0<=u1*p2-u2*p1) (h2:0<=u1*q2-u2*q1) (h3:0<=w1*p2-w2*p1) (h4:0<=w1*q2-w2*q1) (h5:0<u1*w2-u2*w1) (h6:p1*q2=p2*q1) (hp:p1<0∨(p1=0/\p2<0)) (hq:0<q1∨(q1=0/\0<q2)):False:=by
 rcases hp with hp|⟨rfl,hp⟩
 ·have hq1:0<q1:=by
   rcases hq with h|⟨h,h'⟩
   ·exact h
   ·subst h
    have:=Int.mul_neg_of_neg_of_pos hp h'
    omega
  have key:∀ a b:Int,0<=a*p2-b*p1->0<=a*q2-b*q1->a*p2-b*p1=0:=λ a b k1 k2=>by
   have e:(a*q2-b*q1)*p1=q1*(a*p2-b*p1):=by grind
   have k3:(a*q2-b*q1)*p1<=0:=Int.mul_nonpos_of_nonneg_of_nonpos k2 (by omega)
   rw [e] at k3
   by_cases hz:0<a*p2-b*p1
   ·have:=Int.mul_pos hq1 hz;omega
   ·omega
  have k1:=key _ _ h1 h2
  have k2:=key _ _ h3 h4
  have e:(u1*w2-u2*w1)*p1=(u1*p2-u2*p1)*w1-(w1*p2-w2*p1)*u1:=by grind
  rw [k1,k2] at e
  have:=Int.mul_neg_of_pos_of_neg h5 hp
  omega
 ·have hq1:q1=0:=by
   have h6:p2*q1=0:=by omega
   rcases Int.mul_eq_zero.1 h6 with h|h
   ·omega
   ·exact h
  subst hq1
  have hq2:0<q2:=by omega
  have key:∀ a:Int,0<=a*p2->0<=a*q2->a=0:=λ a k1 k2=>by
   by_cases ha:0<a
   ·have:=Int.mul_neg_of_pos_of_neg ha hp;omega
   ·by_cases ha' : a<0
    ·have:=Int.mul_neg_of_neg_of_pos ha' hq2;omega
    ·omega
  have k1:=key u1 (by omega) (by omega)
  have k2:=key w1 (by omega) (by omega)
  subst k1;subst k2
  omega
def LH (S:V2->Prop) (r:V2):Prop:=∀ x y,S x->S y->AV x r=true->AV r y=true->AF x r y=0->False
theorem Yj {S:V2->Prop} {a r b:V2} (h1:∀ x,S x->0<=AF a r x) (h2:∀ x,S x->0<=AF r b x) (h3:0<AF a r b):LH S r:=by
 intro x y hx hy hl hr h0
 rw [BL] at hl hr
 have a1:=h1 x hx
 have a2:=h1 y hy
 have a3:=h2 x hx
 have a4:=h2 y hy
 unfold AF at *
 exact Uo (u1:=r.1-a.1) (u2:=r.2-a.2) (w1:=b.1-r.1) (w2:=b.2-r.2) (p1:=x.1-r.1) (p2:=x.2-r.2) (q1:=y.1-r.1) (q2:=y.2-r.2)
  (by grind) (by grind) a3 a4 (by grind) (by grind) (by omega) (by omega)
theorem Yk {S:V2->Prop} {r:V2} (h:∀ x,S x->x=r∨AV r x=true):LH S r:=by
 intro x y hx hy hl hr h0
 rcases h x hx with rfl|h
 ·exact AU.irr _ hl
 ·exact AU.irr _ (AU.trans hl h)
theorem WQ {S:V2->Prop} {r:V2} (h:∀ x,S x->x=r∨AV x r=true):LH S r:=by
 intro x y hx hy hl hr h0
 rcases h y hy with rfl|h
 ·exact AU.irr _ hr
 ·exact AU.irr _ (AU.trans hr h)
theorem Chn.ext {lt:V2->V2->Prop} {S:V2->Prop} {c:List V2} (h:Chn lt S c) {i:Nat} (h0:0<i) (h1:i+1<c.length):LH S (c.getD i (0,0)):=by
 have e1:=h.edge (i-1) (by omega)
 have e2:=h.edge i h1
 have e3:=h.left (i-1) (by omega)
 rw [show i-1+1=i by omega] at e1
 rw [show i-1+1=i by omega,show i-1+2=i+1 by omega] at e3
 exact Yj e1.2 e2.2 e3
theorem WR {S:V2->Prop} {p q r:V2} (hp:S p) (hq:S q) (hr:S r) (ep:LH S p) (eq:LH S q) (er:LH S r) (n1:p≠q) (n2:p≠r) (n3:q≠r) (h0:AF p q r=0):False:=by
 have T:∀ a b:V2,a≠b->AV a b=true∨AV b a=true:=λ a b hab=>by
  rcases AU.tri a b with h|h|h
  ·exact .inl h
  ·exact absurd h hab
  ·exact .inr h
 unfold AF at h0
 have z1:AF p r q=0:=by unfold AF;grind
 have z2:AF q p r=0:=by unfold AF;grind
 have z3:AF q r p=0:=by unfold AF;grind
 have z4:AF r p q=0:=by unfold AF;grind
 have z5:AF r q p=0:=by unfold AF;grind
 have z6:AF p q r=0:=h0
 rcases T p q n1 with a|a <;> rcases T p r n2 with b|b <;> rcases T q r n3 with c|c
 ·exact eq p r hp hr a c z6
 ·exact er p q hp hq b c z1
 ·exact absurd (AU.trans (AU.trans a c) b) (AU.irr _)
 ·exact ep r q hr hq b a z4
 ·exact ep q r hq hr a b z2
 ·exact absurd (AU.trans (AU.trans b c) a) (AU.irr _)
 ·exact er q p hq hp c b z3
 ·exact eq r p hr hp c a z5
theorem Up {a v w:V2} (h1:0<=AF a v w) (h2:0<=AF w v a):AF a v w=0:=by
 have e:AF w v a=-AF a v w:=by unfold AF;grind
 omega
theorem Uq {a b x:V2} (h1:0<=AF a b x) (h2:0<=AF b a x):AF a b x=0:=by
 have e:AF b a x=-AF a b x:=by unfold AF;grind
 omega
theorem WS {a b:List V2} {i:Nat} (hi:i<a.length):(a++b).getD i (0,0)=a.getD i (0,0):=by
 simp [List.getD,List.getElem?_append,hi]
theorem WT {a b:List V2} {i:Nat} (hi:a.length<=i):(a++b).getD i (0,0)=b.getD (i-a.length) (0,0):=by
 simp [List.getD,List.getElem?_append,show ¬ i<a.length by omega]
theorem TZ (l:List V2):(KS l).length=l.length-1:=by simp [KS]
theorem Ta {l:List V2} {i:Nat} (hi:i+1<l.length):(KS l).getD i (0,0)=l.getD i (0,0):=by
 simp [KS,List.getD,show i<l.length-1 by omega,show i<l.length by omega]
theorem Da {a b:V2} (h:AV a b=true):a≠b:=λ e=>AU.irr _ (e ▸ h)
structure Ring (S:V2->Prop) (h:List V2):Prop where
 mem:∀ i,i<h.length->S (h.getD i (0,0))
 ext:∀ i,i<h.length->LH S (h.getD i (0,0))
 side:∀ i,i<h.length->∀ x,S x->0<=AF (h.getD i (0,0)) (h.getD ((i+1)%h.length) (0,0)) x
 inj:∀ i j,i<h.length->j<h.length->i≠j->h.getD i (0,0)≠h.getD j (0,0)
theorem Ur {s:List V2} (hs:upV s) (h2:2<=s.length):Ring (λ x=>x ∈ s) (At s++At s.reverse)/\2<=(At s++At s.reverse).length /\
  ((At s++At s.reverse).length=2->∀ x,x ∈ s->AF (s.getD 0 (0,0)) (s.getD (s.length-1) (0,0)) x=0):=by
 obtain ⟨m,hm⟩:∃ m,s.length=m+1:=⟨s.length-1,by omega⟩
 obtain ⟨A,hA⟩:=OO AU hs m (by omega)
 obtain ⟨B,hB⟩:=OO Gf (l:=s.reverse) (by rw [List.pairwise_reverse];exact hs) m (by simp;omega)
 have tA:s.take (m+1)=s:=by rw [← hm,List.take_length]
 have tB:s.reverse.take (m+1)=s.reverse:=by rw [← hm,← List.length_reverse,List.take_length]
 rw [tA] at A
 rw [tB] at B
 simp only [List.mem_reverse] at B
 obtain ⟨L,hL⟩:∃ L,chT s (m+1)=L:=⟨_,rfl⟩
 obtain ⟨U,hU⟩:∃ U,chT s.reverse (m+1)=U:=⟨_,rfl⟩
 have cA:Chn (λ a b=>AV a b=true) (λ x=>x ∈ s) L:=by have:=A.chn;rwa [List.reverse_reverse,hL] at this
 have cB:Chn (λ a b=>AV b a=true) (λ x=>x ∈ s) U:=by have:=B.chn;rwa [List.reverse_reverse,hU] at this
 have e1:At s=KS L:=by unfold At;rw [hm,hL]
 have e2:At s.reverse=KS U:=by unfold At;rw [List.length_reverse,hm,hU]
 rw [hL] at A hA
 rw [hU] at B hB
 have lowL:=A.low
 have lowU:=B.low
 have last:∀ c:List V2,∀ v,c.reverse.head?=some v->0<c.length/\c.getD (c.length-1) (0,0)=v:=λ c v h=>by
  rw [List.head?_reverse] at h
  have h0:c≠[]:=λ e=>by subst e;simp at h
  have hl:=List.length_pos_iff.2 h0
  refine ⟨hl,?_⟩
  rw [List.getLast?_eq_getElem?] at h
  rw [List.getD,h];rfl
 have first:∀ c:List V2,0<c.length->c.reverse.getLast?=some (c.getD 0 (0,0)):=λ c hc=>by
  rw [List.getLast?_reverse]
  cases c with
  | nil=>simp at hc
  | cons a t=>rfl
 obtain ⟨pL,topL⟩:=last L _ hA
 obtain ⟨pU,topU⟩:=last U _ hB
 have botL:=lowL _ (first L pL)
 have botU:=lowU _ (first U pU)
 have rg:∀ i,i<s.length->s.reverse.getD i (0,0)=s.getD (s.length-1-i) (0,0):=λ i hi=>FK s hi
 rw [rg m (by omega),hm,show m+1-1-m=0 by omega] at topU
 have mem0:s.getD 0 (0,0) ∈ s:=by simp [List.getD,show 0<s.length by omega]
 have memm:s.getD m (0,0) ∈ s:=by simp [List.getD,show m<s.length by omega]
 have sorted:∀ i j,i<j->j<s.length->AV (s.getD i (0,0)) (s.getD j (0,0))=true:=λ i j hij hj=>by
  have:=List.pairwise_iff_getElem.1 hs i j (by omega) hj hij
  simpa [List.getD,hj,show i<s.length by omega] using this
 have lt0:=sorted 0 m (by omega) (by omega)
 have memL0:L.getD 0 (0,0) ∈ s:=cA.mem 0 pL
 have memU0:U.getD 0 (0,0) ∈ s:=cB.mem 0 pU
 have idx:∀ x,x ∈ s->∃ i,i<s.length/\x=s.getD i (0,0):=λ x hx=>by
  obtain ⟨i,hi,rfl⟩:=List.getElem_of_mem hx
  exact ⟨i,hi,by simp [List.getD,hi]⟩
 have zL:L.getD 0 (0,0)=s.getD 0 (0,0):=by
  rcases botL _ mem0 with e|e
  ·exact e.symm
  ·obtain ⟨i,hi,q⟩:=idx _ memL0
   by_cases hi0:i=0
   ·rw [q,hi0]
   ·exact absurd (AU.trans e (q ▸ sorted 0 i (by omega) hi)) (AU.irr _)
 have zU:U.getD 0 (0,0)=s.getD m (0,0):=by
  rcases botU _ memm with e|e
  ·exact e.symm
  ·obtain ⟨i,hi,q⟩:=idx _ memU0
   by_cases him:i=m
   ·rw [q,him]
   ·have e:AV (U.getD 0 (0,0)) (s.getD m (0,0))=true->False:=λ h=>by
     exact absurd (AU.trans e h) (AU.irr _)
    exact absurd (q ▸ sorted i m (by omega) (by omega)) e
 have lenL:2<=L.length:=by
  by_cases h:L.length=1
  ·rw [h,zL] at topL
   exact absurd topL (Da lt0)
  ·omega
 have lenU:2<=U.length:=by
  by_cases h:U.length=1
  ·rw [h,zU] at topU
   exact absurd topU.symm (Da lt0)
  ·omega
 have n1:(At s).length=L.length-1:=by rw [e1,TZ]
 have n2:(At s.reverse).length=U.length-1:=by rw [e2,TZ]
 have nn:(At s++At s.reverse).length=(L.length-1)+(U.length-1):=by rw [List.length_append,n1,n2]
 have g1:∀ i,i<L.length-1->(At s++At s.reverse).getD i (0,0)=L.getD i (0,0):=λ i hi=>by
  rw [WS (by omega),e1,Ta (by omega)]
 have g2:∀ j,j<U.length-1->(At s++At s.reverse).getD (L.length-1+j) (0,0)=U.getD j (0,0):=λ j hj=>by
  rw [WT (by omega),n1,show L.length-1+j-(L.length-1)=j by omega,e2,Ta (by omega)]
 obtain ⟨H,hH⟩:∃ H,At s++At s.reverse=H:=⟨_,rfl⟩
 rw [hH] at g1 g2 nn ⊢
 have cas:∀ i,i<H.length->i<L.length-1∨∃ j,j<U.length-1/\i=L.length-1+j:=λ i hi=>by
  by_cases h:i<L.length-1
  ·exact .inl h
  ·exact .inr ⟨i-(L.length-1),by omega,by omega⟩
 have exL:∀ i,i<L.length-1->LH (λ x=>x ∈ s) (L.getD i (0,0)):=λ i hi=>by
  by_cases h:i=0
  ·subst h
   exact Yk λ x hx=>botL x hx
  ·exact cA.ext (by omega) (by omega)
 have exU:∀ i,i<U.length-1->LH (λ x=>x ∈ s) (U.getD i (0,0)):=λ i hi=>by
  by_cases h:i=0
  ·subst h
   exact WQ λ x hx=>botU x hx
  ·exact cB.ext (by omega) (by omega)
 have ex:∀ i,i<H.length->LH (λ x=>x ∈ s) (H.getD i (0,0)):=λ i hi=>by
  rcases cas i hi with h|⟨j,hj,rfl⟩
  ·rw [g1 i h];exact exL i h
  ·rw [g2 j hj];exact exU j hj
 have ne:∀ i j,i<L.length-1->j<U.length-1->L.getD i (0,0)≠U.getD j (0,0):=λ i j hi hj e=>by
  by_cases hi0:i=0
  ·subst hi0
   rw [zL,← topU] at e
   exact Da (cB.lt' Gf (i:=j) (j:=U.length-1) (by omega) (by omega)) e
  ·by_cases hj0:j=0
   ·subst hj0
    rw [zU,show s.getD m (0,0)=L.getD (L.length-1) (0,0) from topL.symm] at e
    exact Da (cA.lt' AU (i:=i) (j:=L.length-1) (by omega) (by omega)) e
   ·have ea:=cA.edge (i-1) (by omega)
    have eb:=cB.edge (j-1) (by omega)
    rw [show i-1+1=i by omega] at ea
    rw [show j-1+1=j by omega,← e] at eb
    have ma:=cA.mem (i-1) (by omega)
    have mb:=cB.mem (j-1) (by omega)
    have t1:=ea.2 _ mb
    have t2:=eb.2 _ ma
    exact exL i hi _ _ ma mb ea.1 eb.1 (Up t1 t2)
 refine ⟨⟨λ i hi=>?_,ex,λ i hi x hx=>?_,λ i j hi hj hij=>?_⟩,by omega,λ h x hx=>?_⟩
 ·rcases cas i hi with h|⟨j,hj,rfl⟩
  ·rw [g1 i h];exact cA.mem i (by omega)
  ·rw [g2 j hj];exact cB.mem j (by omega)
 ·rcases cas i hi with h|⟨j,hj,rfl⟩
  ·have hmod:(i+1)%H.length=i+1:=Nat.mod_eq_of_lt (by omega)
   have e:H.getD (i+1) (0,0)=L.getD (i+1) (0,0):=by
    by_cases hl:i+1<L.length-1
    ·exact g1 _ hl
    ·have:=g2 0 (by omega)
     rw [show L.length-1+0=i+1 by omega,zU] at this
     rw [this,show i+1=L.length-1 by omega,topL]
   rw [hmod,g1 i h,e]
   exact (cA.edge i (by omega)).2 x hx
  ·rw [g2 j hj]
   have e:H.getD ((L.length-1+j+1)%H.length) (0,0)=U.getD (j+1) (0,0):=by
    by_cases hl:j+1<U.length-1
    ·rw [Nat.mod_eq_of_lt (by omega),show L.length-1+j+1=L.length-1+(j+1) by omega,g2 _ hl]
    ·rw [show L.length-1+j+1=H.length by omega,Nat.mod_self,g1 0 (by omega),zL,show j+1=U.length-1 by omega,topU]
   rw [e]
   exact (cB.edge j (by omega)).2 x hx
 ·rcases cas i hi with h|⟨i',hi',rfl⟩
  ·rcases cas j hj with h' | ⟨j',hj',rfl⟩
   ·rw [g1 i h,g1 j h']
    rcases Nat.lt_or_gt_of_ne hij with q|q
    ·exact Da (cA.lt' AU q (by omega))
    ·exact (Da (cA.lt' AU q (by omega))).symm
   ·rw [g1 i h,g2 j' hj'];exact ne i j' h hj'
  ·rcases cas j hj with h' | ⟨j',hj',rfl⟩
   ·rw [g1 j h',g2 i' hi'];exact (ne j i' h' hi').symm
   ·rw [g2 i' hi',g2 j' hj']
    rcases Nat.lt_or_gt_of_ne (show i'≠j' by omega) with q|q
    ·exact (Da (cB.lt' Gf q (by omega))).symm
    ·exact Da (cB.lt' Gf q (by omega))
 ·have l1:L.length=2:=by omega
  have l2:U.length=2:=by omega
  have t1:=(cA.edge 0 (by omega)).2 x hx
  have t2:=(cB.edge 0 (by omega)).2 x hx
  rw [l1] at topL
  rw [l2] at topU
  rw [zL,show L.getD (0+1) (0,0)=s.getD m (0,0) from topL] at t1
  rw [zU,show U.getD (0+1) (0,0)=s.getD 0 (0,0) from topU] at t2
  rw [show s.length-1=m by omega]
  exact Uq t1 t2
theorem Rq {p q x y z:V2} (h:p≠q) (h1:AF p q x=0) (h2:AF p q y=0) (h3:AF p q z=0):AF x y z=0:=by
 have hd:q.1-p.1≠0∨q.2-p.2≠0:=by
  by_cases h' : q.1-p.1=0
  ·refine .inr λ h''=>h ?_
   rcases p with ⟨p1,p2⟩;rcases q with ⟨q1,q2⟩
   simp only [Prod.mk.injEq] at *
   omega
  ·exact .inl h'
 have e1:(q.1-p.1)*AF x y z=0:=by unfold AF at *;grind
 have e2:(q.2-p.2)*AF x y z=0:=by unfold AF at *;grind
 rcases hd with hd|hd
 ·exact (Int.mul_eq_zero.1 e1).resolve_left hd
 ·exact (Int.mul_eq_zero.1 e2).resolve_left hd
theorem A5 {l:List V2} : AG l=true↔(3<=l.length/\l.length<=16)/\l.all AD=true/\∀ i j,i<l.length->j<l.length->j≠i->j≠(i+1)%l.length->0<AF (l.getD i (0,0)) (l.getD ((i+1)%l.length) (0,0)) (l.getD j (0,0)):=by
 unfold AG
 rw [Bool.and_eq_true,Bool.and_eq_true,Az]
 simp only [List.all_eq_true,List.mem_range,Fs,Cj,Bool.or_eq_true,decide_eq_true_eq]
 constructor
 ·rintro ⟨⟨h1,h2⟩,h3⟩
  exact ⟨⟨by omega,by omega⟩,h2,λ i j hi hj n1 n2=>by rcases h3 i hi j hj with (h|h)|h <;> first|exact absurd h n1|exact absurd h n2|exact h⟩
 ·rintro ⟨⟨h1,h1'⟩,h2,h3⟩
  refine ⟨⟨⟨by omega,by omega⟩,h2⟩,λ i hi j hj=>?_⟩
  by_cases n1:j=i
  ·exact .inl (.inl n1)
  ·by_cases n2:j=(i+1)%l.length
   ·exact .inl (.inr n2)
   ·exact .inr (h3 i j hi hj n1 n2)
theorem DX {i n:Nat} (h:i<n):(i+1)%n<n:=Nat.mod_lt _ (by omega)
theorem PV {i n:Nat} (h:i<n) (h2:2<=n):(i+1)%n≠i:=by
 by_cases e:i+1=n
 ·rw [e,Nat.mod_self];omega
 ·rw [Nat.mod_eq_of_lt (by omega)];omega
theorem Yl {i j n:Nat} (hi:i<n) (hj:j<n) (h3:3<=n) (e1:j=(i+1)%n) (e2:i=(j+1)%n):False:=by
 by_cases e:i+1=n
 ·rw [e,Nat.mod_self] at e1
  subst e1
  rw [Nat.mod_eq_of_lt (by omega)] at e2
  omega
 ·rw [Nat.mod_eq_of_lt (by omega)] at e1
  subst e1
  by_cases e' : i+1+1=n
  ·rw [e',Nat.mod_self] at e2;omega
  ·rw [Nat.mod_eq_of_lt (by omega)] at e2;omega
theorem Ring.strict {S:V2->Prop} {h:List V2} (r:Ring S h) (h3:3<=h.length) {i k:Nat} (hi:i<h.length) (hk:k<h.length) (n1:k≠i) (n2:k≠(i+1)%h.length):0<AF (h.getD i (0,0)) (h.getD ((i+1)%h.length) (0,0)) (h.getD k (0,0)):=by
 have h0:=r.side i hi _ (r.mem k hk)
 by_cases hz:AF (h.getD i (0,0)) (h.getD ((i+1)%h.length) (0,0)) (h.getD k (0,0))=0
 ·exact (WR (r.mem i hi) (r.mem _ (DX hi)) (r.mem k hk) (r.ext i hi) (r.ext _ (DX hi)) (r.ext k hk) (r.inj _ _ hi (DX hi) (PV hi (by omega)).symm) (r.inj _ _ hi hk n1.symm) (r.inj _ _ (DX hi) hk n2.symm) hz).elim
 ·omega
theorem Ring.poly {S:V2->Prop} {h:List V2} (r:Ring S h) (h3:3<=h.length) (h16:h.length<=16) (hv:h.all AD=true):AG h=true:=
 A5.2 ⟨⟨h3,h16⟩,hv,λ i j hi hj n1 n2=>r.strict h3 hi hj n1 n2⟩
def Hp (d e:V2):Prop:=d.1*e.2-d.2*e.1=0/\0<d.1*e.1+d.2*e.2
def CC (a b:V2):V2:=(b.1-a.1,b.2-a.2)
theorem Kf {d:V2} (h:d≠(0,0)):0<d.1*d.1+d.2*d.2:=by
 have h1:∀ a:Int,0<=a*a:=λ a=>by
  rcases Int.le_total 0 a with h|h
  ·exact Int.mul_nonneg h h
  ·exact Int.mul_nonneg_of_nonpos_of_nonpos h h
 have h2:=h1 d.1
 have h3:=h1 d.2
 by_cases hz:d.1*d.1+d.2*d.2=0
 ·exfalso
  apply h
  have e1:d.1*d.1=0:=by omega
  have e2:d.2*d.2=0:=by omega
  have e1:d.1=0:=by rcases Int.mul_eq_zero.1 e1 with e|e <;> exact e
  have e2:d.2=0:=by rcases Int.mul_eq_zero.1 e2 with e|e <;> exact e
  exact Prod.ext e1 e2
 ·omega
theorem JE {d e:V2} (h:Hp d e) (z:V2) (hz:0<=d.1*z.2-d.2*z.1):0<=e.1*z.2-e.2*z.1:=by
 obtain ⟨h1,h2⟩:=h
 have hd:d≠(0,0):=λ q=>by rw [q] at h2;simp at h2
 have key:(d.1*d.1+d.2*d.2)*(e.1*z.2-e.2*z.1)=(d.1*e.1+d.2*e.2)*(d.1*z.2-d.2*z.1):=by grind
 have h3:0<=(d.1*d.1+d.2*d.2)*(e.1*z.2-e.2*z.1):=by rw [key];exact Int.mul_nonneg (by omega) hz
 exact Int.nonneg_of_mul_nonneg_right h3 (Kf hd)
theorem NC {d e f:V2} (h:Hp d e) (h' : Hp f e):Hp d f:=by
 obtain ⟨h1,h2⟩:=h
 obtain ⟨h3,h4⟩:=h'
 have he:e≠(0,0):=λ q=>by rw [q] at h2;simp at h2
 have hp:=Kf he
 have k1:(e.1*e.1+e.2*e.2)*(d.1*f.2-d.2*f.1)=0:=by grind
 have k2:(e.1*e.1+e.2*e.2)*(d.1*f.1+d.2*f.2)=(d.1*e.1+d.2*e.2)*(f.1*e.1+f.2*e.2):=by grind
 refine ⟨(Int.mul_eq_zero.1 k1).resolve_left (by omega),?_⟩
 have k3:=Int.mul_pos h2 h4
 rw [← k2] at k3
 exact Int.pos_of_mul_pos_right k3 (by omega)
theorem WU {d e:V2} (h:Hp d e):Hp e d:=⟨by have:=h.1;grind,by have:=h.2;grind⟩
theorem Ring.edges {S:V2->Prop} {h:List V2} (r:Ring S h) (h3:3<=h.length) {i k:Nat} (hi:i<h.length) (hk:k<h.length)
  (hp:Hp (CC (h.getD i (0,0)) (h.getD ((i+1)%h.length) (0,0))) (CC (h.getD k (0,0)) (h.getD ((k+1)%h.length) (0,0)))):i=k:=by
 by_cases hik:i=k
 ·exact hik
 exfalso
 have a1:=r.side i hi _ (r.mem k hk)
 have a2:=r.side k hk _ (r.mem i hi)
 have b1:=JE hp (CC (h.getD i (0,0)) (h.getD k (0,0))) a1
 have b2:=JE (WU hp) (CC (h.getD k (0,0)) (h.getD i (0,0))) a2
 have c1:AF (h.getD i (0,0)) (h.getD ((i+1)%h.length) (0,0)) (h.getD k (0,0))=0:=by
  generalize h.getD i (0,0)=p at *
  generalize h.getD ((i+1)%h.length) (0,0)=q at *
  generalize h.getD k (0,0)=s at *
  unfold AF at *
  simp only [CC] at *
  clear a2 b1 hp r hi hk
  have:(q.1-p.1)*(p.2-s.2)-(q.2-p.2)*(p.1-s.1)=-((q.1-p.1)*(s.2-p.2)-(q.2-p.2)*(s.1-p.1)):=by grind
  omega
 have c2:AF (h.getD k (0,0)) (h.getD ((k+1)%h.length) (0,0)) (h.getD i (0,0))=0:=by
  generalize h.getD k (0,0)=p at *
  generalize h.getD ((k+1)%h.length) (0,0)=q at *
  generalize h.getD i (0,0)=s at *
  unfold AF at *
  simp only [CC] at *
  clear a1 b2 hp r hi hk c1
  have:(q.1-p.1)*(p.2-s.2)-(q.2-p.2)*(p.1-s.1)=-((q.1-p.1)*(s.2-p.2)-(q.2-p.2)*(s.1-p.1)):=by grind
  omega
 have e1:k=(i+1)%h.length:=Classical.byContradiction λ hn=>by have:=r.strict h3 hi hk (λ e=>hik e.symm) hn;omega
 have e2:i=(k+1)%h.length:=Classical.byContradiction λ hn=>by have:=r.strict h3 hk hi hik hn;omega
 exact Yl hi hk h3 e1 e2
theorem IN:∀ (M:Nat) (l:List Nat),l.Nodup->(∀ x ∈ l,x<M)->l.length<=M
 | 0,l,_,h=>by
  cases l with
  | nil=>exact Nat.le_refl _
  | cons a t=>exact absurd (h a (by simp)) (by omega)
 | M+1,l,hn,h=>by
  by_cases hm:M ∈ l
  ·have:=IN M (l.erase M) (hn.erase M) (λ x hx=>by
    have hx:=(hn.mem_erase_iff).1 hx
    have:=h x hx.2
    omega)
   rw [List.length_erase_of_mem hm] at this
   have:=List.length_pos_of_mem hm
   omega
  ·have:=IN M l hn (λ x hx=>by
    have:=h x hx
    have:x≠M:=λ e=>hm (e ▸ hx)
    omega)
   omega
theorem AAP {N M:Nat} {R:Nat->Nat->Prop} (h1:∀ k,k<N->∃ c,c<M/\R k c) (h2:∀ k k' c,k<N->k' < N->R k c->R k' c->k=k'):N<=M:=by
 have:∃ f:Nat->Nat,∀ k,k<N->f k<M/\R k (f k):=by
  refine ⟨λ k=>if h:k<N then Classical.choose (h1 k h) else 0,λ k hk=>?_⟩
  simp only [dif_pos hk]
  exact Classical.choose_spec (h1 k hk)
 obtain ⟨f,hf⟩:=this
 have:=IN M ((List.range N).map f) (by
  rw [List.Nodup,List.pairwise_map]
  refine List.Pairwise.imp_of_mem ?_ List.nodup_range
  intro a b ha hb hab e
  have ha:=List.mem_range.1 ha
  have hb:=List.mem_range.1 hb
  exact hab (h2 a b (f a) ha hb (hf a ha).2 (e ▸ (hf b hb).2))) (λ x hx=>by
  obtain ⟨k,hk,rfl⟩:=List.mem_map.1 hx
  exact (hf k (List.mem_range.1 hk)).1)
 simpa using this
def Af (p q:V2):V2:=(p.1+q.1,p.2+q.2)
theorem Gg {l:List V2} (hl:AG l=true) {i i' : Nat} (hi:i<l.length) (hi' : i' < l.length) {d:V2} (hd:∀ j,j<l.length->0<=d.1*((l.getD j (0,0)).2-(l.getD i (0,0)).2)-d.2*((l.getD j (0,0)).1-(l.getD i (0,0)).1)) (hp:Hp d (CC (l.getD i (0,0)) (l.getD i' (0,0)))):Hp d (CC (l.getD i (0,0)) (l.getD ((i+1)%l.length) (0,0))):=by
 obtain ⟨⟨h3,_⟩,_,hs⟩:=A5.1 hl
 by_cases e:i'=(i+1)%l.length
 ·rw [← e];exact hp
 exfalso
 have hne:i'≠i:=by
  rintro rfl
  have:=hp.2
  simp [CC] at this
 have h1:=hs i i' hi hi' hne e
 have h2:=JE hp (CC (l.getD i (0,0)) (l.getD ((i+1)%l.length) (0,0))) (hd _ (DX hi))
 generalize l.getD i (0,0)=p at *
 generalize l.getD ((i+1)%l.length) (0,0)=q at *
 generalize l.getD i' (0,0)=s at *
 unfold AF at h1
 simp only [CC] at h2
 clear hp hd hs hi hi' hl
 have:(s.1-p.1)*(q.2-p.2)-(s.2-p.2)*(q.1-p.1)=-((q.1-p.1)*(s.2-p.2)-(q.2-p.2)*(s.1-p.1)):=by grind
 omega
def Ml (a b:List V2) (x:V2):Prop:=∃ i j,i<a.length/\j<b.length/\x=Af (a.getD i (0,0)) (b.getD j (0,0))
theorem Ym {a1 a2 b1 b2:Int} (hd:0<(a1+b1)*(a1+b1)+(a2+b2)*(a2+b2)) (h1:0<=(a1+b1)*a2-(a2+b2)*a1) (h2:0<=(a1+b1)*b2-(a2+b2)*b1) :
  ((a1+b1)*a2-(a2+b2)*a1=0/\0<(a1+b1)*a1+(a2+b2)*a2)∨((a1+b1)*b2-(a2+b2)*b1=0/\0<(a1+b1)*b1+(a2+b2)*b2):=by
 have e:(a1+b1)*a2-(a2+b2)*a1=-((a1+b1)*b2-(a2+b2)*b1):=by grind
 have e2:(a1+b1)*(a1+b1)+(a2+b2)*(a2+b2)=((a1+b1)*a1+(a2+b2)*a2)+((a1+b1)*b1+(a2+b2)*b2):=by grind
 by_cases hc:0<(a1+b1)*a1+(a2+b2)*a2
 ·exact .inl ⟨by omega,hc⟩
 ·exact .inr ⟨by omega,by omega⟩
theorem PW {P Q p q p' q' : V2} (hP:P=Af p q) (hQ:Q=Af p' q') (hne:P≠Q) (h1:0<=AF P Q (Af p' q)) (h2:0<=AF P Q (Af p q')):Hp (CC P Q) (CC p p')∨Hp (CC P Q) (CC q q'):=by
 have hd:CC P Q≠(0,0):=λ e=>hne (by
  simp only [CC,Prod.mk.injEq] at e
  exact Prod.ext (by omega) (by omega))
 have hpos:=Kf hd
 subst hP;subst hQ
 simp only [AF,Af,CC,Hp] at *
 have a1:p'.1+q'.1-(p.1+q.1)=(p'.1-p.1)+(q'.1-q.1):=by omega
 have a2:p'.2+q'.2-(p.2+q.2)=(p'.2-p.2)+(q'.2-q.2):=by omega
 rw [a1,a2] at hpos h1 h2 ⊢
 rw [show p'.2+q.2-(p.2+q.2)=p'.2-p.2 by omega,show p'.1+q.1-(p.1+q.1)=p'.1-p.1 by omega] at h1
 rw [show p.2+q'.2-(p.2+q.2)=q'.2-q.2 by omega,show p.1+q'.1-(p.1+q.1)=q'.1-q.1 by omega] at h2
 exact Ym hpos h1 h2
theorem PX {P Q p q x:V2} (hP:P=Af p q):AF P Q (Af x q)=(CC P Q).1*(x.2-p.2)-(CC P Q).2*(x.1-p.1):=by
 subst hP;simp only [AF,Af,CC];grind
theorem PY {P Q p q x:V2} (hP:P=Af p q):AF P Q (Af p x)=(CC P Q).1*(x.2-q.2)-(CC P Q).2*(x.1-q.1):=by
 subst hP;simp only [AF,Af,CC];grind
theorem Ring.few {a b h:List V2} (ha:AG a=true) (hb:AG b=true) (r:Ring (Ml a b) h) (h3:3<=h.length):h.length<=a.length+b.length:=by
 refine AAP (R:=λ k c=>c<a.length/\Hp (CC (h.getD k (0,0)) (h.getD ((k+1)%h.length) (0,0))) (CC (a.getD c (0,0)) (a.getD ((c+1)%a.length) (0,0)))∨a.length<=c/\Hp (CC (h.getD k (0,0)) (h.getD ((k+1)%h.length) (0,0))) (CC (b.getD (c-a.length) (0,0)) (b.getD ((c-a.length+1)%b.length) (0,0)))) ?_ ?_
 ·intro k hk
  obtain ⟨i,j,hi,hj,eP⟩:=r.mem k hk
  obtain ⟨i',j',hi',hj',eQ⟩:=r.mem _ (DX hk)
  have hs:=r.side k hk
  have hne:=r.inj _ _ hk (DX hk) (PV hk (by omega)).symm
  rcases PW eP eQ hne (hs _ ⟨i',j,hi',hj,rfl⟩) (hs _ ⟨i,j',hi,hj',rfl⟩) with hp|hp
  ·exact ⟨i,by omega,.inl ⟨hi,Gg ha hi hi' (λ l hl=>by rw [← PX eP];exact hs _ ⟨l,j,hl,hj,rfl⟩) hp⟩⟩
  ·refine ⟨a.length+j,by omega,.inr ⟨by omega,?_⟩⟩
   rw [show a.length+j-a.length=j by omega]
   exact Gg hb hj hj' (λ l hl=>by rw [← PY eP];exact hs _ ⟨i,l,hi,hl,rfl⟩) hp
 ·intro k k' c hk hk' h1 h2
  rcases h1 with ⟨q1,p1⟩|⟨q1,p1⟩
  ·rcases h2 with ⟨q2,p2⟩|⟨q2,p2⟩
   ·exact r.edges h3 hk hk' (NC p1 p2)
   ·omega
  ·rcases h2 with ⟨q2,p2⟩|⟨q2,p2⟩
   ·omega
   ·exact r.edges h3 hk hk' (NC p1 p2)
end Go.Proofs.YtkffpiaagjcmpaaGreat
namespace Go.Proofs.YtkffpiaagjcmpaaGreat
set_option linter.unusedVariables false
set_option linter.unusedSimpArgs false
theorem Tb (l:List V2):∀ k,k<=l.length->∀ x ∈ chT l k,x ∈ l
 | 0,_,x,hx=>by simp [chT] at hx
 | k+1,hk,x,hx=>by
  have ih:=Tb l k (by omega)
  obtain ⟨m,hm,e⟩:=I7 (l.getD k (0,0)) _ (chT l k) (Nat.le_refl _)
  unfold chT at hx
  rw [e] at hx
  rcases List.mem_append.1 hx with hx|hx
  ·exact ih x (List.mem_of_mem_take hx)
  ·rw [List.mem_singleton.1 hx]
   have hk' : k<l.length:=by omega
   simp [List.getD,hk']
theorem ND {l:List V2} {x:V2} (h:x ∈ At l):x ∈ l:=Tb l l.length (Nat.le_refl _) x (List.mem_of_mem_take h)
theorem NE {l:List V2} {x:V2} (h:x ∈ BO l):x ∈ l:=by
 unfold BO at h
 split at h
 ·unfold Mk at h
  have hs:∀ y ∈ Ah l l.length,y ∈ l:=λ y hy=>List.mem_of_mem_take ((F8 l y l.length (Nat.le_refl _)).1 hy)
  split at h
  ·exact hs x h
  ·rcases List.mem_append.1 h with h|h
   ·exact hs x (ND h)
   ·exact hs x (by simpa using ND h)
 ·cases h
end Go.Proofs.YtkffpiaagjcmpaaGreat
