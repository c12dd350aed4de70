import Derived.Test.YtndnhlhnjiopfaaSmBas
namespace Go.Proofs.Ytndnhlhnjiopfaa
set_option linter.unusedVariables false
set_option linter.unusedSimpArgs false
def AN (a b:V2):Bool:=decide (a.1<b.1) || (decide (a.1=b.1) && decide (a.2<b.2))
theorem Ae {a b:V2} : AN a b=true↔a.1<b.1∨(a.1=b.1/\a.2<b.2):=by simp [AN]
theorem Ix (a:V2):AN a a=false:=by simp [AN]
theorem Iy {a b c:V2} (h:AN a b=true) (h' : AN b c=true):AN a c=true:=by rw [Ae] at *;omega
theorem KV {a b:V2} (h:AN a b=true):AN b a=false:=by
 rw [Ae] at h
 cases hb:AN b a with
 | false=>rfl
 | true=>rw [Ae] at hb;omega
theorem Iz {a b:V2} (h:AN a b=false) (h' : AN b a=false):a=b:=by
 have e1:¬ (AN a b=true):=by rw [h];simp
 have e2:¬ (AN b a=true):=by rw [h'];simp
 rw [Ae] at e1 e2
 exact Prod.ext (by omega) (by omega)
def upV (s:List V2):Prop:=s.Pairwise λ a b=>AN a b=true
theorem OJ:∀ {a b:List V2},upV a->upV b->(∀ x,x ∈ a↔x ∈ b)->a=b
 | [],[],_,_,_=>rfl
 | [],y::b,_,_,h=>absurd ((h y).2 (List.mem_cons_self ..)) (by simp)
 | x::a,[],_,_,h=>absurd ((h x).1 (List.mem_cons_self ..)) (by simp)
 | x::a,y::b,ha,hb,h=>by
  have ha':=List.pairwise_cons.1 ha
  have hb':=List.pairwise_cons.1 hb
  have hxy:x=y:=by
   rcases List.mem_cons.1 ((h x).1 (List.mem_cons_self ..)) with e|e
   ·exact e
   ·rcases List.mem_cons.1 ((h y).2 (List.mem_cons_self ..)) with e2|e2
    ·exact e2.symm
    ·have:=KV (hb'.1 x e)
     rw [ha'.1 y e2] at this;cases this
  subst hxy
  rw [OJ ha'.2 hb'.2 λ z=>?_]
  constructor
  ·intro hz
   rcases List.mem_cons.1 ((h z).1 (List.mem_cons_of_mem _ hz)) with e|e
   ·subst e;have:=ha'.1 z hz;rw [Ix] at this;cases this
   ·exact e
  ·intro hz
   rcases List.mem_cons.1 ((h z).2 (List.mem_cons_of_mem _ hz)) with e|e
   ·subst e;have:=hb'.1 z hz;rw [Ix] at this;cases this
   ·exact e
def Es (p:V2):List V2->List V2
 | []=>[p]
 | a::t=>if AN a p=true then a::Es p t else if a=p then a::t else p::a::t
theorem I0 {p x:V2} : ∀ {s:List V2},x ∈ Es p s↔x=p∨x ∈ s
 | []=>by simp [Es]
 | a::t=>by
  unfold Es
  split
  ·rw [List.mem_cons,I0 (s:=t),List.mem_cons]
   constructor
   ·rintro (h|h|h) <;> simp [h]
   ·rintro (h|h|h) <;> simp [h]
  ·split
   ·next h=>subst h;simp
   ·simp
theorem Pb {p:V2} : ∀ {s:List V2},upV s->upV (Es p s)
 | [],_=>by simp [Es,upV]
 | a::t,h=>by
  have h':=List.pairwise_cons.1 h
  unfold Es
  split
  ·next hl=>
   refine List.pairwise_cons.2 ⟨λ x hx=>?_,Pb h'.2⟩
   rcases I0.1 hx with e|e
   ·subst e;exact hl
   ·exact h'.1 x e
  ·split
   ·exact h
   ·next hl hne=>
    have hpa:AN p a=true:=by
     cases hc:AN p a with
     | true=>rfl
     | false=>exact absurd (Iz (by simpa using hl) hc) hne
    refine List.pairwise_cons.2 ⟨λ x hx=>?_,h⟩
    rcases List.mem_cons.1 hx with e|e
    ·subst e;exact hpa
    ·exact Iy hpa (h'.1 x e)
def Aa (l:List V2):Nat->List V2
 | 0=>[]
 | k+1=>Es (l.getD k (0,0)) (Aa l k)
theorem FN (l:List V2):∀ k,upV (Aa l k)
 | 0=>List.Pairwise.nil
 | k+1=>Pb (FN l k)
theorem CX (l:List V2) (x:V2):∀ k,k<=l.length->(x ∈ Aa l k↔x ∈ l.take k)
 | 0,_=>by simp [Aa]
 | k+1,hk=>by
  have ih:=CX l x k (by omega)
  have e:l.take (k+1)=l.take k++[l.getD k (0,0)]:=by
   rw [List.take_add_one];simp [List.getD,show k<l.length by omega]
  unfold Aa
  rw [I0,e,List.mem_append,ih]
  simp only [List.mem_singleton]
  exact Or.comm
theorem MU (p:V2):∀ s:List V2,(Es p s).length<=s.length+1
 | []=>by simp [Es]
 | a::t=>by
  have:=MU p t
  unfold Es
  split
  ·simp only [List.length_cons];omega
  ·split <;> simp
theorem GP (l:List V2):∀ k,(Aa l k).length<=k
 | 0=>Nat.le_refl _
 | k+1=>by have:=GP l k;have:=MU (l.getD k (0,0)) (Aa l k);unfold Aa;omega
theorem MV {l:List V2} (h:l.all AE=true) {k:Nat} (hk:k<=l.length):(Aa l k).all AE=true:=by
 rw [List.all_eq_true] at *
 intro x hx
 exact h x (List.mem_of_mem_take ((CX l x k hk).1 hx))
theorem OK {p:V2} : ∀ {s:List V2} {n:Nat},n<=s.length->(∀ j,j<n->AN (s.getD j (0,0)) p=true)->(n<s.length->AN (s.getD n (0,0)) p=false) ->
  Es p s=if n<s.length/\s.getD n (0,0)=p then s else s.take n++p::s.drop n
 | [],n,hn,_,_=>by
  have:n=0:=by simpa using hn
  subst this
  simp [Es]
 | a::t,0,_,_,h0=>by
  have h0:=h0 (by simp)
  simp only [List.getD_cons_zero] at h0
  unfold Es
  rw [if_neg (by rw [h0];simp)]
  simp
 | a::t,n+1,hn,hl,hc=>by
  have h0:=hl 0 (by omega)
  simp only [List.getD_cons_zero] at h0
  have ih:=OK (p:=p) (s:=t) (n:=n) (by simpa using hn) (λ j hj=>by have:=hl (j+1) (by omega);simpa using this) (λ h=>by have:=hc (by simpa using h);simpa using this)
  unfold Es
  rw [if_pos h0,ih]
  simp only [List.length_cons,Nat.add_lt_add_iff_right,List.getD_cons_succ,List.take_succ_cons,List.drop_succ_cons,List.cons_append]
  split <;> rfl
def BK (s:List V2) (v:V2):List V2:=
 if h:1<s.length/\AD (s.getD (s.length-2) (0,0)) (s.getD (s.length-1) (0,0)) v<=0 then BK (s.take (s.length-1)) v else s
termination_by s.length
decreasing_by simp only [List.length_take]; omega
theorem GQ {s:List V2} {v:V2} (h:1<s.length) (h2:AD (s.getD (s.length-2) (0,0)) (s.getD (s.length-1) (0,0)) v<=0):BK (s.take (s.length-1)) v=BK s v:=by
 conv=>rhs;rw [BK,dif_pos ⟨h,h2⟩]
theorem Bl {s:List V2} {v:V2} (h:¬ (1<s.length/\AD (s.getD (s.length-2) (0,0)) (s.getD (s.length-1) (0,0)) v<=0)):BK s v=s:=by
 rw [BK,dif_neg h]
theorem G3 (v:V2):∀ (n:Nat) (s:List V2),s.length<=n->∃ m,m<=s.length/\BK s v=s.take m
 | 0,s,h=>⟨0,by omega,by rw [Bl (by omega)];simp [List.eq_nil_of_length_eq_zero (by omega:s.length=0)]⟩
 | n+1,s,h=>by
  by_cases hc:1<s.length/\AD (s.getD (s.length-2) (0,0)) (s.getD (s.length-1) (0,0)) v<=0
  ·obtain ⟨m,h1,h2⟩:=G3 v n (s.take (s.length-1)) (by simp only [List.length_take];omega)
   simp only [List.length_take] at h1
   exact ⟨m,by omega,by rw [← GQ hc.1 hc.2,h2,List.take_take,Nat.min_eq_left (by omega)]⟩
  ·exact ⟨s.length,Nat.le_refl _,by rw [Bl hc,List.take_length]⟩
def chT (l:List V2):Nat->List V2
 | 0=>[]
 | k+1=>BK (chT l k) (l.getD k (0,0))++[l.getD k (0,0)]
theorem G4 {l:List V2} (h:l.all AE=true):∀ k,k<=l.length->(chT l k).length<=k/\(chT l k).all AE=true
 | 0,_=>⟨Nat.le_refl _,rfl⟩
 | k+1,hk=>by
  obtain ⟨h1,h2⟩:=G4 h k (by omega)
  obtain ⟨m,hm,e⟩:=G3 (l.getD k (0,0)) _ (chT l k) (Nat.le_refl _)
  unfold chT
  rw [e]
  refine ⟨by simp only [List.length_append,List.length_take,List.length_cons,List.length_nil];omega,?_⟩
  rw [List.all_append,Bool.and_eq_true]
  refine ⟨?_,?_⟩
  ·rw [List.all_eq_true] at *
   exact λ x hx=>h2 x (List.mem_of_mem_take hx)
  ·have:AE (l.getD k (0,0))=true:=List.all_eq_true.1 h _ (by simp [List.getD,show k<l.length by omega])
   simp only [List.all_cons,List.all_nil,this];rfl
theorem Pc (l:List V2) (k:Nat):0<(chT l (k+1)).length:=by unfold chT;simp
theorem GR {l o:List V2} {k:Nat} (h:BK o (l.getD k (0,0))=BK (chT l k) (l.getD k (0,0))) (hn:BK o (l.getD k (0,0))=o):o++[l.getD k (0,0)]=chT l (k+1):=by
 unfold chT;rw [← h,hn]
def Dm (l:List V2):List V2:=l.take (l.length-1)
def AP (l:List V2):List V2:=Dm (chT l l.length)
def I1 (s:List V2):List V2:=if s.length<3 then s else AP s++AP s.reverse
def Au (l:List V2):List V2:=if l.length<=64/\l.all AE=true then I1 (Aa l l.length) else []
theorem Qe (a b:V2):AP [a,b]++AP [b,a]=[a,b]:=by
 have h (x y:V2):AP [x,y]=[x]:=by
  have e1:chT [x,y] 1=[x]:=by
   show BK [] x++[x]=[x]
   rw [Bl (by simp)];rfl
  have e2:chT [x,y] 2=[x,y]:=by
   show BK (chT [x,y] 1) y++[y]=[x,y]
   rw [e1,Bl (by simp)];rfl
  show Dm (chT [x,y] 2)=[x]
  rw [e2];rfl
 rw [h,h];rfl
theorem R1 {s:List V2} (h:s.length=2):AP s++AP s.reverse=I1 s:=by
 match s,h with
 | [a,b],_=>exact Qe a b
theorem KW {l:List V2} (h:l.all AE=true):(AP l).all AE=true/\(AP l).length<=l.length:=by
 have hb:=G4 h l.length (Nat.le_refl _)
 unfold AP Dm
 refine ⟨?_,by simp only [List.length_take];omega⟩
 rw [List.all_eq_true]
 intro x hx
 exact List.all_eq_true.1 hb.2 x (List.mem_of_mem_take hx)
def leV (x y:V2):Bool:=!AN y x
def BO (l:List V2):List V2:=l.mergeSort leV
theorem KX (a b c:V2) (h1:leV a b=true) (h2:leV b c=true):leV a c=true:=by
 unfold leV at *
 rw [Bool.not_eq_true'] at *
 cases hc:AN c a with
 | false=>rfl
 | true=>
  rw [Ae] at hc
  have e1:¬ (AN b a=true):=by rw [h1];simp
  have e2:¬ (AN c b=true):=by rw [h2];simp
  rw [Ae] at e1 e2
  omega
theorem Qf (a b:V2):(leV a b || leV b a)=true:=by
 unfold leV
 cases h:AN b a with
 | false=>rfl
 | true=>rw [KV h];rfl
theorem I2 (l:List V2):(BO l).Perm l:=List.mergeSort_perm l leV
theorem R2 (l:List V2):(BO l).Pairwise λ a b=>leV a b=true:=List.pairwise_mergeSort KX Qf l
theorem Dy (l:List V2):(BO l).length=l.length:=(I2 l).length_eq
def Am:List V2->List V2
 | a::b::t=>if a=b then Am (b::t) else a::Am (b::t)
 | l=>l
theorem GS {x:V2} : ∀ {l:List V2},x ∈ Am l↔x ∈ l
 | []=>by simp [Am]
 | [a]=>by simp [Am]
 | a::b::t=>by
  unfold Am
  split
  ·next h=>subst h;rw [GS (l:=a::t)];simp
  ·rw [List.mem_cons,GS (l:=b::t)];simp only [List.mem_cons]
theorem Pd:∀ {l:List V2},(l.Pairwise λ a b=>leV a b=true)->upV (Am l)
 | [],_=>List.Pairwise.nil
 | [a],_=>by simp [Am,upV]
 | a::b::t,h=>by
  have h':=List.pairwise_cons.1 h
  have ih:=Pd h'.2
  unfold Am
  split
  ·exact ih
  ·next hne=>
   refine List.pairwise_cons.2 ⟨λ x hx=>?_,ih⟩
   have hx:=GS.1 hx
   have hab:=h'.1 b (List.mem_cons_self ..)
   have hlt:AN a b=true:=by
    cases hc:AN a b with
    | true=>rfl
    | false=>exact absurd (Iz hc (by unfold leV at hab;simpa using hab)) hne
   rcases List.mem_cons.1 hx with e|e
   ·subst e;exact hlt
   ·have hbx:=(List.pairwise_cons.1 h'.2).1 x e
    have e2:¬ (AN x b=true):=by unfold leV at hbx;simpa using hbx
    rw [Ae] at e2 hlt ⊢
    omega
theorem Qg (l:List V2):Am (BO l)=Aa l l.length:=
 OJ (Pd (R2 l)) (FN l _) λ x=>by
  rw [GS,(I2 l).mem_iff,CX l x l.length (Nat.le_refl _),List.take_length]
theorem R3 {P:Nat->Prop} {k:Nat} (h:∀ j,j<k->P j) (hk:P k):∀ j,j<k+1->P j:=λ j hj=>by
 rcases Nat.lt_succ_iff_lt_or_eq.1 hj with hj|rfl
 ·exact h j hj
 ·exact hk
theorem Cv {l:List V2} (h1:l.length<=64) (h2:l.all AE=true):Au l=I1 (Aa l l.length):=by unfold Au;rw [if_pos ⟨h1,h2⟩]
theorem I3 {l:List V2} (h:64<l.length):Au l=[]:=by unfold Au;rw [if_neg (by omega)]
theorem KY {l:List V2} (h:l.all AE=false):Au l=[]:=by unfold Au;rw [if_neg (by rw [h];simp)]
theorem R4 {l:List V2} {k:Nat} (hk:k<l.length) (h:AE (l.getD k (0,0))=false):Au l=[]:=
 KY (by rw [List.all_eq_false];exact ⟨l.getD k (0,0),by simp [List.getD,hk],by rw [h];simp⟩)
theorem Ll {l:List V2} {k:Nat} (hk:k<l.length) (h:(l.take k).all AE=true) (hV:AE (l.getD k (0,0))=true):(l.take (k+1)).all AE=true:=by
 have e:l.take (k+1)=l.take k++[l.getD k (0,0)]:=by
  rw [List.take_add_one];simp [List.getD,show k<l.length by omega]
 rw [e,List.all_append,h]
 simp only [List.all_cons,List.all_nil,hV];rfl
theorem UQ {a b:V2} (h:[a.1,a.2]=[b.1,b.2]):a=b:=by
 simp only [List.cons.injEq,and_true] at h
 exact Prod.ext h.1 h.2
theorem R5 {l:List V2} {k n:Nat} (hn:n<(Aa l k).length) (hl:∀ j,j<n->AN ((Aa l k).getD j (0,0)) (l.getD k (0,0))=true) (hc:AN ((Aa l k).getD n (0,0)) (l.getD k (0,0))=false) (hq:(Aa l k).getD n (0,0)=l.getD k (0,0)):Aa l k=Aa l (k+1):=by
 show _=Es _ _
 rw [OK (Nat.le_of_lt hn) hl (λ _=>hc),if_pos ⟨hn,hq⟩]
theorem Pe {l:List V2} {k n:Nat} (hn:n<=(Aa l k).length) (hl:∀ j,j<n->AN ((Aa l k).getD j (0,0)) (l.getD k (0,0))=true) (hc:n<(Aa l k).length->AN ((Aa l k).getD n (0,0)) (l.getD k (0,0))=false) (hq:n<(Aa l k).length->(Aa l k).getD n (0,0)≠l.getD k (0,0)):(Aa l k).take n++l.getD k (0,0)::(Aa l k).drop n=Aa l (k+1):=by
 show _=Es _ _
 rw [OK hn hl hc,if_neg (λ h=>hq h.1 h.2)]
theorem MW {s:List V2} (h:s.length<3):I1 s=s:=by unfold I1;rw [if_pos h]
theorem FO {s:List V2} (h:¬ s.length<3):I1 s=AP s++AP s.reverse:=by unfold I1;rw [if_neg h]
theorem Id {l:List V2} (h:l.all AE=true):l.reverse.all AE=true:=by
 rw [List.all_eq_true] at *
 exact λ x hx=>h x (List.mem_reverse.1 hx)
theorem Pf {l:List V2} (h:l.all AE=true) (h0:0<l.length):0<(chT l l.length).length/\(chT l l.length).length<=l.length:=by
 refine ⟨?_,(G4 h _ (Nat.le_refl _)).1⟩
 obtain ⟨m,hm⟩:∃ m,l.length=m+1:=⟨l.length-1,by omega⟩
 rw [hm];exact Pc l m
theorem MX (l:List V2):(AA (chT l l.length)).take ((chT l l.length).length-1)=AA (AP l):=by simp [AA,AP,Dm,List.map_take]
theorem Cw (a b:List V2):AA (a++b)=AA a++AA b:=by simp [AA]
theorem R6 {s:List V2} {j:Nat} (hj:j<s.length):AA (s.reverse.take j)++[[.int (s.getD (s.length-1-j) (0,0)).1,.int (s.getD (s.length-1-j) (0,0)).2]]=AA (s.reverse.take (j+1)):=by
 have e:s.reverse.take (j+1)=s.reverse.take j++[s.getD (s.length-1-j) (0,0)]:=by
  rw [List.take_add_one,List.getElem?_reverse hj]
  simp [List.getD,show s.length-1-j<s.length by omega]
 rw [e,Cw];rfl
theorem MY (s:List V2) (n:Nat) (v:V2):(((([]:List (List Dat))++(AA s).take n)++([[Dat.int v.1,Dat.int v.2]]:List (List Dat)))++((AA s).take (((AA s).length:Int).toNat)).drop n)=AA (s.take n++v::s.drop n):=by
 rw [Int.toNat_natCast,List.take_length]
 simp [AA,GO,List.map_take,List.map_drop]
end Go.Proofs.Ytndnhlhnjiopfaa
