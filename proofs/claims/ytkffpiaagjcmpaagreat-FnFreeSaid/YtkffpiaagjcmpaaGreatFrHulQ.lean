import Derived.Test.YtkffpiaagjcmpaaGreatFrHus
import Derived.Test.YtkffpiaagjcmpaaGreatFrRkSu
namespace Go.Proofs.YtkffpiaagjcmpaaGreat
set_option linter.unusedVariables false
set_option linter.unusedSimpArgs false
def Ua (a b:List V2):Prop:=∀ i j,i<a.length->j<b.length->AD (Af (a.getD i (0,0)) (b.getD j (0,0)))=true
theorem MV {b:List V2} {p:V2} (h:∀ j,j<b.length->AD (Af p (b.getD j (0,0)))=true):BU b p.1 p.2=b.map (Af p):=by
 unfold BU
 apply List.map_congr_left
 intro q hq
 obtain ⟨j,hj,rfl⟩:=List.getElem_of_mem hq
 have hb:=BW (h j hj)
 have e:b.getD j (0,0)=b[j]:=by simp [List.getD,hj]
 rw [e] at hb
 simp only [Af] at hb
 simp only [Sj,Af]
 rw [AE (by omega) (by omega),AE (by omega) (by omega),Int.add_comm p.1,Int.add_comm p.2]
theorem RG {a b:List V2} (h:Ua a b) (x:V2):∀ k,k<=a.length->(x ∈ Dk a b k↔∃ i j,i<k/\j<b.length/\x=Af (a.getD i (0,0)) (b.getD j (0,0)))
 | 0,_=>by
  simp only [Dk,List.not_mem_nil,false_iff]
  rintro ⟨i,j,hi,_⟩
  omega
 | k+1,hk=>by
  rw [show Dk a b (k+1)=Dk a b k++BU b (a.getD k (0,0)).1 (a.getD k (0,0)).2 from rfl,List.mem_append,RG h x k (by omega),MV (λ j hj=>h k j (by omega) hj),List.mem_map]
  constructor
  ·rintro (⟨i,j,hi,hj,e⟩|⟨q,hq,e⟩)
   ·exact ⟨i,j,by omega,hj,e⟩
   ·obtain ⟨j,hj,rfl⟩:=List.getElem_of_mem hq
    exact ⟨k,j,by omega,hj,by rw [← e];simp [List.getD,hj]⟩
  ·rintro ⟨i,j,hi,hj,e⟩
   by_cases hik:i=k
   ·subst hik
    exact .inr ⟨b.getD j (0,0),by simp [List.getD,hj],e.symm⟩
   ·exact .inl ⟨i,j,by omega,hj,e⟩
theorem YK (a b c q:V2):AF (Af a q) (Af b q) (Af c q)=AF a b c:=by
 simp only [AF,Af];grind
theorem RH {a b:List V2} (ha:AG a=true) (hb:AG b=true) (h64:a.length*b.length<=64) (hn:Ua a b):Ring (Ml a b) (FF a b)/\3<=(FF a b).length/\(FF a b).all AD=true:=by
 have pa:=A5.1 ha
 have pb:=A5.1 hb
 have hm:∀ x,x ∈ Dk a b a.length↔Ml a b x:=λ x=>RG hn x a.length (Nat.le_refl _)
 have hv:(Dk a b a.length).all AD=true:=by
  rw [List.all_eq_true]
  intro x hx
  obtain ⟨i,j,hi,hj,rfl⟩:=(hm x).1 hx
  exact hn i j hi hj
 have hlen:=EE a b a.length
 have e:FF a b=Mk (Ah (Dk a b a.length) (Dk a b a.length).length):=I9 (by omega) hv
 obtain ⟨s,hs⟩:∃ s,Ah (Dk a b a.length) (Dk a b a.length).length=s:=⟨_,rfl⟩
 have up:upV s:=by rw [← hs];exact OM _ _
 have mem:∀ x,x ∈ s↔Ml a b x:=λ x=>by rw [← hs,F8 _ x _ (Nat.le_refl _),List.take_length,hm]
 have b0:0<b.length:=by have:=pb.1.1;omega
 have n1:(0+1)%a.length=1:=Nat.mod_eq_of_lt (by have:=pa.1.1;omega)
 have ht:=pa.2.2 0 2 (by omega) (by have:=pa.1.1;omega) (by omega) (by omega)
 rw [n1] at ht
 have m0:Ml a b (Af (a.getD 0 (0,0)) (b.getD 0 (0,0))):=⟨0,0,by omega,b0,rfl⟩
 have m1:Ml a b (Af (a.getD 1 (0,0)) (b.getD 0 (0,0))):=⟨1,0,by omega,b0,rfl⟩
 have m2:Ml a b (Af (a.getD 2 (0,0)) (b.getD 0 (0,0))):=⟨2,0,by omega,b0,rfl⟩
 have ht' : 0<AF (Af (a.getD 0 (0,0)) (b.getD 0 (0,0))) (Af (a.getD 1 (0,0)) (b.getD 0 (0,0))) (Af (a.getD 2 (0,0)) (b.getD 0 (0,0))):=by rw [YK];exact ht
 obtain ⟨x,hx⟩:∃ x,Af (a.getD 0 (0,0)) (b.getD 0 (0,0))=x:=⟨_,rfl⟩
 obtain ⟨y,hy⟩:∃ y,Af (a.getD 1 (0,0)) (b.getD 0 (0,0))=y:=⟨_,rfl⟩
 obtain ⟨z,hz⟩:∃ z,Af (a.getD 2 (0,0)) (b.getD 0 (0,0))=z:=⟨_,rfl⟩
 rw [hx] at m0 ht'
 rw [hy] at m1 ht'
 rw [hz] at m2 ht'
 have nxy:x≠y:=by rintro rfl;unfold AF at ht';grind
 have nxz:x≠z:=by rintro rfl;unfold AF at ht';grind
 have nyz:y≠z:=by rintro rfl;unfold AF at ht';grind
 have h3:3<=s.length:=by
  have:=IN
  have hx:=(mem x).2 m0
  have hy:=(mem y).2 m1
  have hz:=(mem z).2 m2
  match s,hx,hy,hz with
  | [],hx,_,_=>simp at hx
  | [p],hx,hy,_=>
   simp only [List.mem_singleton] at hx hy
   exact absurd (hx.trans hy.symm) nxy
  | [p,q],hx,hy,hz=>
   simp only [List.mem_cons,List.not_mem_nil,or_false] at hx hy hz
   rcases hx with hx|hx <;> rcases hy with hy|hy <;> rcases hz with hz|hz <;> first|exact absurd (hx.trans hy.symm) nxy|exact absurd (hx.trans hz.symm) nxz|exact absurd (hy.trans hz.symm) nyz
  | _::_::_::_,_,_,_=>simp
 obtain ⟨r,r2,rl⟩:=Ur up (by omega)
 have hS:(λ x=>x ∈ s)=Ml a b:=funext λ x=>propext (mem x)
 rw [hS] at r
 have e2:FF a b=At s++At s.reverse:=by rw [e,hs,JA (by omega)]
 rw [← e2] at r r2 rl
 have r3:3<=(FF a b).length:=by
  by_cases h2:(FF a b).length=2
  ·exfalso
   have l:=rl h2
   have sorted:AV (s.getD 0 (0,0)) (s.getD (s.length-1) (0,0))=true:=by
    have:=List.pairwise_iff_getElem.1 up 0 (s.length-1) (by omega) (by omega) (by omega)
    simpa [List.getD,show 0<s.length by omega,show s.length-1<s.length by omega] using this
   have:=Rq (Da sorted) (l x ((mem x).2 m0)) (l y ((mem y).2 m1)) (l z ((mem z).2 m2))
   omega
  ·omega
 refine ⟨r,r3,?_⟩
 rw [List.all_eq_true]
 intro v hv
 obtain ⟨i,hi,rfl⟩:=List.getElem_of_mem hv
 have:=r.mem i hi
 obtain ⟨i',j',hi',hj',q⟩:=this
 have q:(FF a b)[i]=Af (a.getD i' (0,0)) (b.getD j' (0,0)):=by rw [← q];simp [List.getD,hi]
 rw [q];exact hn i' j' hi' hj'
theorem MW {a b:List V2} (ha:AG a=true) (hb:AG b=true) (h64:a.length*b.length<=64) (h16:a.length+b.length<=16) (hn:Ua a b):AG (FF a b)=true:=by
 obtain ⟨r,h3,hv⟩:=RH ha hb h64 hn
 exact r.poly h3 (by have:=r.few ha hb h3;omega) hv
end Go.Proofs.YtkffpiaagjcmpaaGreat
