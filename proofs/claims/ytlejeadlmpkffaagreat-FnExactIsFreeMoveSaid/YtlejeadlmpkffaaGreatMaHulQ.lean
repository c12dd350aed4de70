import Derived.Test.YtlejeadlmpkffaaGreatMaHulP
import Derived.Test.YtlejeadlmpkffaaGreatMaRkSu
namespace Go.Proofs.YtlejeadlmpkffaaGreat
set_option linter.unusedVariables false
set_option linter.unusedSimpArgs false
def nearV (a b:List V2):Prop:=∀ i j,i<a.length->j<b.length->isVec (addV (a.getD i (0,0)) (b.getD j (0,0)))=true
theorem movL_sum {b:List V2} {p:V2} (h:∀ j,j<b.length->isVec (addV p (b.getD j (0,0)))=true):movL b p.1 p.2=b.map (addV p):=by
 unfold movL
 apply List.map_congr_left
 intro q hq
 obtain ⟨j,hj,rfl⟩:=List.getElem_of_mem hq
 have hb:=isVec_bd (h j hj)
 have e:b.getD j (0,0)=b[j]:=by simp [List.getD,hj]
 rw [e] at hb
 simp only [addV] at hb
 simp only [movV,addV]
 rw [wrap64 (by omega) (by omega),wrap64 (by omega) (by omega),Int.add_comm p.1,Int.add_comm p.2]
theorem mem_sumK {a b:List V2} (h:nearV a b) (x:V2):∀ k,k<=a.length->(x ∈ sumK a b k↔∃ i j,i<k/\j<b.length/\x=addV (a.getD i (0,0)) (b.getD j (0,0)))
 | 0,_=>by
  simp only [sumK,List.not_mem_nil,false_iff]
  rintro ⟨i,j,hi,_⟩
  omega
 | k+1,hk=>by
  rw [show sumK a b (k+1)=sumK a b k++movL b (a.getD k (0,0)).1 (a.getD k (0,0)).2 from rfl,List.mem_append,mem_sumK h x k (by omega),movL_sum (λ j hj=>h k j (by omega) hj),List.mem_map]
  constructor
  ·rintro (⟨i,j,hi,hj,e⟩|⟨q,hq,e⟩)
   ·exact ⟨i,j,by omega,hj,e⟩
   ·obtain ⟨j,hj,rfl⟩:=List.getElem_of_mem hq
    exact ⟨k,j,by omega,hj,by rw [← e];simp [List.getD,hj]⟩
  ·rintro ⟨i,j,hi,hj,e⟩
   by_cases hik:i=k
   ·subst hik
    exact .inr ⟨b.getD j (0,0),by simp [List.getD,hj],e.symm⟩
   ·exact .inl ⟨i,j,by omega,hj,e⟩
theorem turn_add (a b c q:V2):turnI (addV a q) (addV b q) (addV c q)=turnI a b c:=by
 simp only [turnI,addV];grind
theorem sum_ring {a b:List V2} (ha:isPoly a=true) (hb:isPoly b=true) (h64:a.length*b.length<=64) (hn:nearV a b):Ring (sumP a b) (sumS a b)/\3<=(sumS a b).length/\(sumS a b).all isVec=true:=by
 have pa:=isPoly_iff.1 ha
 have pb:=isPoly_iff.1 hb
 have hm:∀ x,x ∈ sumK a b a.length↔sumP a b x:=λ x=>mem_sumK hn x a.length (Nat.le_refl _)
 have hv:(sumK a b a.length).all isVec=true:=by
  rw [List.all_eq_true]
  intro x hx
  obtain ⟨i,j,hi,hj,rfl⟩:=(hm x).1 hx
  exact hn i j hi hj
 have hlen:=sumK_len a b a.length
 have e:sumS a b=hulL (srtU (sumK a b a.length) (sumK a b a.length).length):=hullV_yes (by omega) hv
 obtain ⟨s,hs⟩:∃ s,srtU (sumK a b a.length) (sumK a b a.length).length=s:=⟨_,rfl⟩
 have up:upV s:=by rw [← hs];exact srtU_up _ _
 have mem:∀ x,x ∈ s↔sumP a b x:=λ x=>by rw [← hs,mem_srtU _ x _ (Nat.le_refl _),List.take_length,hm]
 have b0:0<b.length:=by have:=pb.1.1;omega
 have n1:(0+1)%a.length=1:=Nat.mod_eq_of_lt (by have:=pa.1.1;omega)
 have ht:=pa.2.2 0 2 (by omega) (by have:=pa.1.1;omega) (by omega) (by omega)
 rw [n1] at ht
 have m0:sumP a b (addV (a.getD 0 (0,0)) (b.getD 0 (0,0))):=⟨0,0,by omega,b0,rfl⟩
 have m1:sumP a b (addV (a.getD 1 (0,0)) (b.getD 0 (0,0))):=⟨1,0,by omega,b0,rfl⟩
 have m2:sumP a b (addV (a.getD 2 (0,0)) (b.getD 0 (0,0))):=⟨2,0,by omega,b0,rfl⟩
 have ht' : 0<turnI (addV (a.getD 0 (0,0)) (b.getD 0 (0,0))) (addV (a.getD 1 (0,0)) (b.getD 0 (0,0))) (addV (a.getD 2 (0,0)) (b.getD 0 (0,0))):=by rw [turn_add];exact ht
 obtain ⟨x,hx⟩:∃ x,addV (a.getD 0 (0,0)) (b.getD 0 (0,0))=x:=⟨_,rfl⟩
 obtain ⟨y,hy⟩:∃ y,addV (a.getD 1 (0,0)) (b.getD 0 (0,0))=y:=⟨_,rfl⟩
 obtain ⟨z,hz⟩:∃ z,addV (a.getD 2 (0,0)) (b.getD 0 (0,0))=z:=⟨_,rfl⟩
 rw [hx] at m0 ht'
 rw [hy] at m1 ht'
 rw [hz] at m2 ht'
 have nxy:x≠y:=by rintro rfl;unfold turnI at ht';grind
 have nxz:x≠z:=by rintro rfl;unfold turnI at ht';grind
 have nyz:y≠z:=by rintro rfl;unfold turnI at ht';grind
 have h3:3<=s.length:=by
  have:=nodup_lt
  have hx:=(mem x).2 m0
  have hy:=(mem y).2 m1
  have hz:=(mem z).2 m2
  match s,hx,hy,hz with
  | [],hx,_,_=>simp at hx
  | [p],hx,hy,_=>
   simp only [List.mem_singleton] at hx hy
   exact absurd (hx.trans hy.symm) nxy
  | [p,q],hx,hy,hz=>
   simp only [List.mem_cons,List.not_mem_nil,or_false] at hx hy hz
   rcases hx with hx|hx <;> rcases hy with hy|hy <;> rcases hz with hz|hz <;> first|exact absurd (hx.trans hy.symm) nxy|exact absurd (hx.trans hz.symm) nxz|exact absurd (hy.trans hz.symm) nyz
  | _::_::_::_,_,_,_=>simp
 obtain ⟨r,r2,rl⟩:=hull_ring up (by omega)
 have hS:(λ x=>x ∈ s)=sumP a b:=funext λ x=>propext (mem x)
 rw [hS] at r
 have e2:sumS a b=chain s++chain s.reverse:=by rw [e,hs,hulL_many (by omega)]
 rw [← e2] at r r2 rl
 have r3:3<=(sumS a b).length:=by
  by_cases h2:(sumS a b).length=2
  ·exfalso
   have l:=rl h2
   have sorted:lessV (s.getD 0 (0,0)) (s.getD (s.length-1) (0,0))=true:=by
    have:=List.pairwise_iff_getElem.1 up 0 (s.length-1) (by omega) (by omega) (by omega)
    simpa [List.getD,show 0<s.length by omega,show s.length-1<s.length by omega] using this
   have:=line_three (less_ne sorted) (l x ((mem x).2 m0)) (l y ((mem y).2 m1)) (l z ((mem z).2 m2))
   omega
  ·omega
 refine ⟨r,r3,?_⟩
 rw [List.all_eq_true]
 intro v hv
 obtain ⟨i,hi,rfl⟩:=List.getElem_of_mem hv
 have:=r.mem i hi
 obtain ⟨i',j',hi',hj',q⟩:=this
 have q:(sumS a b)[i]=addV (a.getD i' (0,0)) (b.getD j' (0,0)):=by rw [← q];simp [List.getD,hi]
 rw [q];exact hn i' j' hi' hj'
theorem sum_isPoly {a b:List V2} (ha:isPoly a=true) (hb:isPoly b=true) (h64:a.length*b.length<=64) (h16:a.length+b.length<=16) (hn:nearV a b):isPoly (sumS a b)=true:=by
 obtain ⟨r,h3,hv⟩:=sum_ring ha hb h64 hn
 exact r.poly h3 (by have:=r.few ha hb h3;omega) hv
end Go.Proofs.YtlejeadlmpkffaaGreat
