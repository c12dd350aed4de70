import Derived.Test.YtndnhlhnjiopfaaHhBas
namespace Go.Proofs.Ytndnhlhnjiopfaa
set_option linter.unusedVariables false
set_option linter.unusedSimpArgs false
def AO (a b:V2):Bool:=decide (a.1<b.1) || (decide (a.1=b.1) && decide (a.2<b.2))
theorem Ad {a b:V2} : AO a b=true↔a.1<b.1∨(a.1=b.1/\a.2<b.2):=by simp [AO]
theorem Ij (a:V2):AO a a=false:=by simp [AO]
theorem Ik {a b c:V2} (h:AO a b=true) (h' : AO b c=true):AO a c=true:=by rw [Ad] at *;omega
theorem KF {a b:V2} (h:AO a b=true):AO b a=false:=by
 rw [Ad] at h
 cases hb:AO b a with
 | false=>rfl
 | true=>rw [Ad] at hb;omega
theorem Il {a b:V2} (h:AO a b=false) (h' : AO b a=false):a=b:=by
 have e1:¬ (AO a b=true):=by rw [h];simp
 have e2:¬ (AO b a=true):=by rw [h'];simp
 rw [Ad] at e1 e2
 exact Prod.ext (by omega) (by omega)
def upV (s:List V2):Prop:=s.Pairwise λ a b=>AO a b=true
theorem Rf:∀ {a b:List V2},upV a->upV b->(∀ x,x ∈ a↔x ∈ b)->a=b
 | [],[],_,_,_=>rfl
 | [],y::b,_,_,h=>absurd ((h y).2 (List.mem_cons_self ..)) (by simp)
 | x::a,[],_,_,h=>absurd ((h x).1 (List.mem_cons_self ..)) (by simp)
 | x::a,y::b,ha,hb,h=>by
  have ha':=List.pairwise_cons.1 ha
  have hb':=List.pairwise_cons.1 hb
  have hxy:x=y:=by
   rcases List.mem_cons.1 ((h x).1 (List.mem_cons_self ..)) with e|e
   ·exact e
   ·rcases List.mem_cons.1 ((h y).2 (List.mem_cons_self ..)) with e2|e2
    ·exact e2.symm
    ·have:=KF (hb'.1 x e)
     rw [ha'.1 y e2] at this;cases this
  subst hxy
  rw [Rf ha'.2 hb'.2 λ z=>?_]
  constructor
  ·intro hz
   rcases List.mem_cons.1 ((h z).1 (List.mem_cons_of_mem _ hz)) with e|e
   ·subst e;have:=ha'.1 z hz;rw [Ij] at this;cases this
   ·exact e
  ·intro hz
   rcases List.mem_cons.1 ((h z).2 (List.mem_cons_of_mem _ hz)) with e|e
   ·subst e;have:=hb'.1 z hz;rw [Ij] at this;cases this
   ·exact e
def Ee (p:V2):List V2->List V2
 | []=>[p]
 | a::t=>if AO a p=true then a::Ee p t else if a=p then a::t else p::a::t
theorem Im {p x:V2} : ∀ {s:List V2},x ∈ Ee p s↔x=p∨x ∈ s
 | []=>by simp [Ee]
 | a::t=>by
  unfold Ee
  split
  ·rw [List.mem_cons,Im (s:=t),List.mem_cons]
   constructor
   ·rintro (h|h|h) <;> simp [h]
   ·rintro (h|h|h) <;> simp [h]
  ·split
   ·next h=>subst h;simp
   ·simp
theorem PJ {p:V2} : ∀ {s:List V2},upV s->upV (Ee p s)
 | [],_=>by simp [Ee,upV]
 | a::t,h=>by
  have h':=List.pairwise_cons.1 h
  unfold Ee
  split
  ·next hl=>
   refine List.pairwise_cons.2 ⟨λ x hx=>?_,PJ h'.2⟩
   rcases Im.1 hx with e|e
   ·subst e;exact hl
   ·exact h'.1 x e
  ·split
   ·exact h
   ·next hl hne=>
    have hpa:AO p a=true:=by
     cases hc:AO p a with
     | true=>rfl
     | false=>exact absurd (Il (by simpa using hl) hc) hne
    refine List.pairwise_cons.2 ⟨λ x hx=>?_,h⟩
    rcases List.mem_cons.1 hx with e|e
    ·subst e;exact hpa
    ·exact Ik hpa (h'.1 x e)
def AZ (l:List V2):Nat->List V2
 | 0=>[]
 | k+1=>Ee (l.getD k (0,0)) (AZ l k)
theorem LV (l:List V2):∀ k,upV (AZ l k)
 | 0=>List.Pairwise.nil
 | k+1=>PJ (LV l k)
theorem Ef (l:List V2) (x:V2):∀ k,k<=l.length->(x ∈ AZ l k↔x ∈ l.take k)
 | 0,_=>by simp [AZ]
 | k+1,hk=>by
  have ih:=Ef l x k (by omega)
  have e:l.take (k+1)=l.take k++[l.getD k (0,0)]:=by
   rw [List.take_add_one];simp [List.getD,show k<l.length by omega]
  unfold AZ
  rw [Im,e,List.mem_append,ih]
  simp only [List.mem_singleton]
  exact Or.comm
theorem MF (p:V2):∀ s:List V2,(Ee p s).length<=s.length+1
 | []=>by simp [Ee]
 | a::t=>by
  have:=MF p t
  unfold Ee
  split
  ·simp only [List.length_cons];omega
  ·split <;> simp
theorem GE (l:List V2):∀ k,(AZ l k).length<=k
 | 0=>Nat.le_refl _
 | k+1=>by have:=GE l k;have:=MF (l.getD k (0,0)) (AZ l k);unfold AZ;omega
theorem MG {l:List V2} (h:l.all AE=true) {k:Nat} (hk:k<=l.length):(AZ l k).all AE=true:=by
 rw [List.all_eq_true] at *
 intro x hx
 exact h x (List.mem_of_mem_take ((Ef l x k hk).1 hx))
theorem Nz {p:V2} : ∀ {s:List V2} {n:Nat},n<=s.length->(∀ j,j<n->AO (s.getD j (0,0)) p=true)->(n<s.length->AO (s.getD n (0,0)) p=false) ->
  Ee p s=if n<s.length/\s.getD n (0,0)=p then s else s.take n++p::s.drop n
 | [],n,hn,_,_=>by
  have:n=0:=by simpa using hn
  subst this
  simp [Ee]
 | a::t,0,_,_,h0=>by
  have h0:=h0 (by simp)
  simp only [List.getD_cons_zero] at h0
  unfold Ee
  rw [if_neg (by rw [h0];simp)]
  simp
 | a::t,n+1,hn,hl,hc=>by
  have h0:=hl 0 (by omega)
  simp only [List.getD_cons_zero] at h0
  have ih:=Nz (p:=p) (s:=t) (n:=n) (by simpa using hn) (λ j hj=>by have:=hl (j+1) (by omega);simpa using this) (λ h=>by have:=hc (by simpa using h);simpa using this)
  unfold Ee
  rw [if_pos h0,ih]
  simp only [List.length_cons,Nat.add_lt_add_iff_right,List.getD_cons_succ,List.take_succ_cons,List.drop_succ_cons,List.cons_append]
  split <;> rfl
def BJ (s:List V2) (v:V2):List V2:=
 if h:1<s.length/\AC (s.getD (s.length-2) (0,0)) (s.getD (s.length-1) (0,0)) v<=0 then BJ (s.take (s.length-1)) v else s
termination_by s.length
decreasing_by simp only [List.length_take]; omega
theorem GF {s:List V2} {v:V2} (h:1<s.length) (h2:AC (s.getD (s.length-2) (0,0)) (s.getD (s.length-1) (0,0)) v<=0):BJ (s.take (s.length-1)) v=BJ s v:=by
 conv=>rhs;rw [BJ,dif_pos ⟨h,h2⟩]
theorem Bk {s:List V2} {v:V2} (h:¬ (1<s.length/\AC (s.getD (s.length-2) (0,0)) (s.getD (s.length-1) (0,0)) v<=0)):BJ s v=s:=by
 rw [BJ,dif_neg h]
theorem Gr (v:V2):∀ (n:Nat) (s:List V2),s.length<=n->∃ m,m<=s.length/\BJ s v=s.take m
 | 0,s,h=>⟨0,by omega,by rw [Bk (by omega)];simp [List.eq_nil_of_length_eq_zero (by omega:s.length=0)]⟩
 | n+1,s,h=>by
  by_cases hc:1<s.length/\AC (s.getD (s.length-2) (0,0)) (s.getD (s.length-1) (0,0)) v<=0
  ·obtain ⟨m,h1,h2⟩:=Gr v n (s.take (s.length-1)) (by simp only [List.length_take];omega)
   simp only [List.length_take] at h1
   exact ⟨m,by omega,by rw [← GF hc.1 hc.2,h2,List.take_take,Nat.min_eq_left (by omega)]⟩
  ·exact ⟨s.length,Nat.le_refl _,by rw [Bk hc,List.take_length]⟩
def chT (l:List V2):Nat->List V2
 | 0=>[]
 | k+1=>BJ (chT l k) (l.getD k (0,0))++[l.getD k (0,0)]
theorem Gs {l:List V2} (h:l.all AE=true):∀ k,k<=l.length->(chT l k).length<=k/\(chT l k).all AE=true
 | 0,_=>⟨Nat.le_refl _,rfl⟩
 | k+1,hk=>by
  obtain ⟨h1,h2⟩:=Gs h k (by omega)
  obtain ⟨m,hm,e⟩:=Gr (l.getD k (0,0)) _ (chT l k) (Nat.le_refl _)
  unfold chT
  rw [e]
  refine ⟨by simp only [List.length_append,List.length_take,List.length_cons,List.length_nil];omega,?_⟩
  rw [List.all_append,Bool.and_eq_true]
  refine ⟨?_,?_⟩
  ·rw [List.all_eq_true] at *
   exact λ x hx=>h2 x (List.mem_of_mem_take hx)
  ·have:AE (l.getD k (0,0))=true:=List.all_eq_true.1 h _ (by simp [List.getD,show k<l.length by omega])
   simp only [List.all_cons,List.all_nil,this];rfl
theorem PK (l:List V2) (k:Nat):0<(chT l (k+1)).length:=by unfold chT;simp
theorem GG {l o:List V2} {k:Nat} (h:BJ o (l.getD k (0,0))=BJ (chT l k) (l.getD k (0,0))) (hn:BJ o (l.getD k (0,0))=o):o++[l.getD k (0,0)]=chT l (k+1):=by
 unfold chT;rw [← h,hn]
def Dc (l:List V2):List V2:=l.take (l.length-1)
def AP (l:List V2):List V2:=Dc (chT l l.length)
def J2 (s:List V2):List V2:=if s.length<3 then s else AP s++AP s.reverse
def Ak (l:List V2):List V2:=if l.length<=64/\l.all AE=true then J2 (AZ l l.length) else []
theorem QL (a b:V2):AP [a,b]++AP [b,a]=[a,b]:=by
 have h (x y:V2):AP [x,y]=[x]:=by
  have e1:chT [x,y] 1=[x]:=by
   show BJ [] x++[x]=[x]
   rw [Bk (by simp)];rfl
  have e2:chT [x,y] 2=[x,y]:=by
   show BJ (chT [x,y] 1) y++[y]=[x,y]
   rw [e1,Bk (by simp)];rfl
  show Dc (chT [x,y] 2)=[x]
  rw [e2];rfl
 rw [h,h];rfl
theorem Rg {s:List V2} (h:s.length=2):AP s++AP s.reverse=J2 s:=by
 match s,h with
 | [a,b],_=>exact QL a b
theorem KG {l:List V2} (h:l.all AE=true):(AP l).all AE=true/\(AP l).length<=l.length:=by
 have hb:=Gs h l.length (Nat.le_refl _)
 unfold AP Dc
 refine ⟨?_,by simp only [List.length_take];omega⟩
 rw [List.all_eq_true]
 intro x hx
 exact List.all_eq_true.1 hb.2 x (List.mem_of_mem_take hx)
def leV (x y:V2):Bool:=!AO y x
def BN (l:List V2):List V2:=l.mergeSort leV
theorem KH (a b c:V2) (h1:leV a b=true) (h2:leV b c=true):leV a c=true:=by
 unfold leV at *
 rw [Bool.not_eq_true'] at *
 cases hc:AO c a with
 | false=>rfl
 | true=>
  rw [Ad] at hc
  have e1:¬ (AO b a=true):=by rw [h1];simp
  have e2:¬ (AO c b=true):=by rw [h2];simp
  rw [Ad] at e1 e2
  omega
theorem QM (a b:V2):(leV a b || leV b a)=true:=by
 unfold leV
 cases h:AO b a with
 | false=>rfl
 | true=>rw [KF h];rfl
theorem In (l:List V2):(BN l).Perm l:=List.mergeSort_perm l leV
theorem Rh (l:List V2):(BN l).Pairwise λ a b=>leV a b=true:=List.pairwise_mergeSort KH QM l
theorem Dn (l:List V2):(BN l).length=l.length:=(In l).length_eq
def Al:List V2->List V2
 | a::b::t=>if a=b then Al (b::t) else a::Al (b::t)
 | l=>l
theorem GH {x:V2} : ∀ {l:List V2},x ∈ Al l↔x ∈ l
 | []=>by simp [Al]
 | [a]=>by simp [Al]
 | a::b::t=>by
  unfold Al
  split
  ·next h=>subst h;rw [GH (l:=a::t)];simp
  ·rw [List.mem_cons,GH (l:=b::t)];simp only [List.mem_cons]
theorem PL:∀ {l:List V2},(l.Pairwise λ a b=>leV a b=true)->upV (Al l)
 | [],_=>List.Pairwise.nil
 | [a],_=>by simp [Al,upV]
 | a::b::t,h=>by
  have h':=List.pairwise_cons.1 h
  have ih:=PL h'.2
  unfold Al
  split
  ·exact ih
  ·next hne=>
   refine List.pairwise_cons.2 ⟨λ x hx=>?_,ih⟩
   have hx:=GH.1 hx
   have hab:=h'.1 b (List.mem_cons_self ..)
   have hlt:AO a b=true:=by
    cases hc:AO a b with
    | true=>rfl
    | false=>exact absurd (Il hc (by unfold leV at hab;simpa using hab)) hne
   rcases List.mem_cons.1 hx with e|e
   ·subst e;exact hlt
   ·have hbx:=(List.pairwise_cons.1 h'.2).1 x e
    have e2:¬ (AO x b=true):=by unfold leV at hbx;simpa using hbx
    rw [Ad] at e2 hlt ⊢
    omega
theorem QN (l:List V2):Al (BN l)=AZ l l.length:=
 Rf (PL (Rh l)) (LV l _) λ x=>by
  rw [GH,(In l).mem_iff,Ef l x l.length (Nat.le_refl _),List.take_length]
theorem Ri {P:Nat->Prop} {k:Nat} (h:∀ j,j<k->P j) (hk:P k):∀ j,j<k+1->P j:=λ j hj=>by
 rcases Nat.lt_succ_iff_lt_or_eq.1 hj with hj|rfl
 ·exact h j hj
 ·exact hk
theorem Gt {l:List V2} (h1:l.length<=64) (h2:l.all AE=true):Ak l=J2 (AZ l l.length):=by unfold Ak;rw [if_pos ⟨h1,h2⟩]
theorem Io {l:List V2} (h:64<l.length):Ak l=[]:=by unfold Ak;rw [if_neg (by omega)]
theorem KI {l:List V2} (h:l.all AE=false):Ak l=[]:=by unfold Ak;rw [if_neg (by rw [h];simp)]
theorem Rj {l:List V2} {k:Nat} (hk:k<l.length) (h:AE (l.getD k (0,0))=false):Ak l=[]:=
 KI (by rw [List.all_eq_false];exact ⟨l.getD k (0,0),by simp [List.getD,hk],by rw [h];simp⟩)
theorem LW {l:List V2} {k:Nat} (hk:k<l.length) (h:(l.take k).all AE=true) (hV:AE (l.getD k (0,0))=true):(l.take (k+1)).all AE=true:=by
 have e:l.take (k+1)=l.take k++[l.getD k (0,0)]:=by
  rw [List.take_add_one];simp [List.getD,show k<l.length by omega]
 rw [e,List.all_append,h]
 simp only [List.all_cons,List.all_nil,hV];rfl
theorem Tt {a b:V2} (h:[a.1,a.2]=[b.1,b.2]):a=b:=by
 simp only [List.cons.injEq,and_true] at h
 exact Prod.ext h.1 h.2
theorem Rk {l:List V2} {k n:Nat} (hn:n<(AZ l k).length) (hl:∀ j,j<n->AO ((AZ l k).getD j (0,0)) (l.getD k (0,0))=true) (hc:AO ((AZ l k).getD n (0,0)) (l.getD k (0,0))=false) (hq:(AZ l k).getD n (0,0)=l.getD k (0,0)):AZ l k=AZ l (k+1):=by
 show _=Ee _ _
 rw [Nz (Nat.le_of_lt hn) hl (λ _=>hc),if_pos ⟨hn,hq⟩]
theorem PM {l:List V2} {k n:Nat} (hn:n<=(AZ l k).length) (hl:∀ j,j<n->AO ((AZ l k).getD j (0,0)) (l.getD k (0,0))=true) (hc:n<(AZ l k).length->AO ((AZ l k).getD n (0,0)) (l.getD k (0,0))=false) (hq:n<(AZ l k).length->(AZ l k).getD n (0,0)≠l.getD k (0,0)):(AZ l k).take n++l.getD k (0,0)::(AZ l k).drop n=AZ l (k+1):=by
 show _=Ee _ _
 rw [Nz hn hl hc,if_neg (λ h=>hq h.1 h.2)]
theorem MH {s:List V2} (h:s.length<3):J2 s=s:=by unfold J2;rw [if_pos h]
theorem Gu {s:List V2} (h:¬ s.length<3):J2 s=AP s++AP s.reverse:=by unfold J2;rw [if_neg h]
theorem IQ {l:List V2} (h:l.all AE=true):l.reverse.all AE=true:=by
 rw [List.all_eq_true] at *
 exact λ x hx=>h x (List.mem_reverse.1 hx)
theorem PN {l:List V2} (h:l.all AE=true) (h0:0<l.length):0<(chT l l.length).length/\(chT l l.length).length<=l.length:=by
 refine ⟨?_,(Gs h _ (Nat.le_refl _)).1⟩
 obtain ⟨m,hm⟩:∃ m,l.length=m+1:=⟨l.length-1,by omega⟩
 rw [hm];exact PK l m
theorem MI (l:List V2):(AA (chT l l.length)).take ((chT l l.length).length-1)=AA (AP l):=by simp [AA,AP,Dc,List.map_take]
theorem Cq (a b:List V2):AA (a++b)=AA a++AA b:=by simp [AA]
theorem Rl {s:List V2} {j:Nat} (hj:j<s.length):AA (s.reverse.take j)++[[.int (s.getD (s.length-1-j) (0,0)).1,.int (s.getD (s.length-1-j) (0,0)).2]]=AA (s.reverse.take (j+1)):=by
 have e:s.reverse.take (j+1)=s.reverse.take j++[s.getD (s.length-1-j) (0,0)]:=by
  rw [List.take_add_one,List.getElem?_reverse hj]
  simp [List.getD,show s.length-1-j<s.length by omega]
 rw [e,Cq];rfl
theorem MJ (s:List V2) (n:Nat) (v:V2):(((([]:List (List Dat))++(AA s).take n)++([[Dat.int v.1,Dat.int v.2]]:List (List Dat)))++((AA s).take (((AA s).length:Int).toNat)).drop n)=AA (s.take n++v::s.drop n):=by
 rw [Int.toNat_natCast,List.take_length]
 simp [AA,Gq,List.map_take,List.map_drop]
end Go.Proofs.Ytndnhlhnjiopfaa
