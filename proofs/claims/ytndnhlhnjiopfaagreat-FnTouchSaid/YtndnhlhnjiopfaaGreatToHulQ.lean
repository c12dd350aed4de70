import Derived.Test.YtndnhlhnjiopfaaGreatToHulP
import Derived.Test.YtndnhlhnjiopfaaGreatToRkSu
namespace Go.Proofs.YtndnhlhnjiopfaaGreat
set_option linter.unusedVariables false
set_option linter.unusedSimpArgs false
def RE (a b:List V2):Prop:=∀ i j,i<a.length->j<b.length->AB (AY (a.getD i (0,0)) (b.getD j (0,0)))=true
theorem Ob {b:List V2} {p:V2} (h:∀ j,j<b.length->AB (AY p (b.getD j (0,0)))=true):Bb b p.1 p.2=b.map (AY p):=by
 unfold Bb
 apply List.map_congr_left
 intro q hq
 obtain ⟨j,hj,rfl⟩:=List.getElem_of_mem hq
 have hb:=BL (h j hj)
 have e:b.getD j (0,0)=b[j]:=by simp [List.getD,hj]
 rw [e] at hb
 simp only [AY] at hb
 simp only [Vj,AY]
 rw [AE (by omega) (by omega),AE (by omega) (by omega),Int.add_comm p.1,Int.add_comm p.2]
theorem Oc {a b:List V2} (h:RE a b) (x:V2):∀ k,k<=a.length->(x ∈ C6 a b k↔∃ i j,i<k/\j<b.length/\x=AY (a.getD i (0,0)) (b.getD j (0,0)))
 | 0,_=>by
  simp only [C6,List.not_mem_nil,false_iff]
  rintro ⟨i,j,hi,_⟩
  omega
 | k+1,hk=>by
  rw [show C6 a b (k+1)=C6 a b k++Bb b (a.getD k (0,0)).1 (a.getD k (0,0)).2 from rfl,List.mem_append,Oc h x k (by omega),Ob (λ j hj=>h k j (by omega) hj),List.mem_map]
  constructor
  ·rintro (⟨i,j,hi,hj,e⟩|⟨q,hq,e⟩)
   ·exact ⟨i,j,by omega,hj,e⟩
   ·obtain ⟨j,hj,rfl⟩:=List.getElem_of_mem hq
    exact ⟨k,j,by omega,hj,by rw [← e];simp [List.getD,hj]⟩
  ·rintro ⟨i,j,hi,hj,e⟩
   by_cases hik:i=k
   ·subst hik
    exact .inr ⟨b.getD j (0,0),by simp [List.getD,hj],e.symm⟩
   ·exact .inl ⟨i,j,by omega,hj,e⟩
theorem Uo (a b c q:V2):AC (AY a q) (AY b q) (AY c q)=AC a b c:=by
 simp only [AC,AY];grind
theorem Od {a b:List V2} (ha:AG a=true) (hb:AG b=true) (h64:a.length*b.length<=64) (hn:RE a b):Ring (Kp a b) (E5 a b)/\3<=(E5 a b).length/\(E5 a b).all AB=true:=by
 have pa:=BI.1 ha
 have pb:=BI.1 hb
 have hm:∀ x,x ∈ C6 a b a.length↔Kp a b x:=λ x=>Oc hn x a.length (Nat.le_refl _)
 have hv:(C6 a b a.length).all AB=true:=by
  rw [List.all_eq_true]
  intro x hx
  obtain ⟨i,j,hi,hj,rfl⟩:=(hm x).1 hx
  exact hn i j hi hj
 have hlen:=DV a b a.length
 have e:E5 a b=JV (AW (C6 a b a.length) (C6 a b a.length).length):=FY (by omega) hv
 obtain ⟨s,hs⟩:∃ s,AW (C6 a b a.length) (C6 a b a.length).length=s:=⟨_,rfl⟩
 have up:upV s:=by rw [← hs];exact I5 _ _
 have mem:∀ x,x ∈ s↔Kp a b x:=λ x=>by rw [← hs,D7 _ x _ (Nat.le_refl _),List.take_length,hm]
 have b0:0<b.length:=by have:=pb.1.1;omega
 have n1:(0+1)%a.length=1:=Nat.mod_eq_of_lt (by have:=pa.1.1;omega)
 have ht:=pa.2.2 0 2 (by omega) (by have:=pa.1.1;omega) (by omega) (by omega)
 rw [n1] at ht
 have m0:Kp a b (AY (a.getD 0 (0,0)) (b.getD 0 (0,0))):=⟨0,0,by omega,b0,rfl⟩
 have m1:Kp a b (AY (a.getD 1 (0,0)) (b.getD 0 (0,0))):=⟨1,0,by omega,b0,rfl⟩
 have m2:Kp a b (AY (a.getD 2 (0,0)) (b.getD 0 (0,0))):=⟨2,0,by omega,b0,rfl⟩
 have ht' : 0<AC (AY (a.getD 0 (0,0)) (b.getD 0 (0,0))) (AY (a.getD 1 (0,0)) (b.getD 0 (0,0))) (AY (a.getD 2 (0,0)) (b.getD 0 (0,0))):=by rw [Uo];exact ht
 obtain ⟨x,hx⟩:∃ x,AY (a.getD 0 (0,0)) (b.getD 0 (0,0))=x:=⟨_,rfl⟩
 obtain ⟨y,hy⟩:∃ y,AY (a.getD 1 (0,0)) (b.getD 0 (0,0))=y:=⟨_,rfl⟩
 obtain ⟨z,hz⟩:∃ z,AY (a.getD 2 (0,0)) (b.getD 0 (0,0))=z:=⟨_,rfl⟩
 rw [hx] at m0 ht'
 rw [hy] at m1 ht'
 rw [hz] at m2 ht'
 have nxy:x≠y:=by rintro rfl;unfold AC at ht';grind
 have nxz:x≠z:=by rintro rfl;unfold AC at ht';grind
 have nyz:y≠z:=by rintro rfl;unfold AC at ht';grind
 have h3:3<=s.length:=by
  have:=Gl
  have hx:=(mem x).2 m0
  have hy:=(mem y).2 m1
  have hz:=(mem z).2 m2
  match s,hx,hy,hz with
  | [],hx,_,_=>simp at hx
  | [p],hx,hy,_=>
   simp only [List.mem_singleton] at hx hy
   exact absurd (hx.trans hy.symm) nxy
  | [p,q],hx,hy,hz=>
   simp only [List.mem_cons,List.not_mem_nil,or_false] at hx hy hz
   rcases hx with hx|hx <;> rcases hy with hy|hy <;> rcases hz with hz|hz <;> first|exact absurd (hx.trans hy.symm) nxy|exact absurd (hx.trans hz.symm) nxz|exact absurd (hy.trans hz.symm) nyz
  | _::_::_::_,_,_,_=>simp
 obtain ⟨r,r2,rl⟩:=K9 up (by omega)
 have hS:(λ x=>x ∈ s)=Kp a b:=funext λ x=>propext (mem x)
 rw [hS] at r
 have e2:E5 a b=AQ s++AQ s.reverse:=by rw [e,hs,FZ (by omega)]
 rw [← e2] at r r2 rl
 have r3:3<=(E5 a b).length:=by
  by_cases h2:(E5 a b).length=2
  ·exfalso
   have l:=rl h2
   have sorted:AO (s.getD 0 (0,0)) (s.getD (s.length-1) (0,0))=true:=by
    have:=List.pairwise_iff_getElem.1 up 0 (s.length-1) (by omega) (by omega) (by omega)
    simpa [List.getD,show 0<s.length by omega,show s.length-1<s.length by omega] using this
   have:=Jb (Ce sorted) (l x ((mem x).2 m0)) (l y ((mem y).2 m1)) (l z ((mem z).2 m2))
   omega
  ·omega
 refine ⟨r,r3,?_⟩
 rw [List.all_eq_true]
 intro v hv
 obtain ⟨i,hi,rfl⟩:=List.getElem_of_mem hv
 have:=r.mem i hi
 obtain ⟨i',j',hi',hj',q⟩:=this
 have q:(E5 a b)[i]=AY (a.getD i' (0,0)) (b.getD j' (0,0)):=by rw [← q];simp [List.getD,hi]
 rw [q];exact hn i' j' hi' hj'
theorem P7 {a b:List V2} (ha:AG a=true) (hb:AG b=true) (h64:a.length*b.length<=64) (h16:a.length+b.length<=16) (hn:RE a b):AG (E5 a b)=true:=by
 obtain ⟨r,h3,hv⟩:=Od ha hb h64 hn
 exact r.poly h3 (by have:=r.few ha hb h3;omega) hv
end Go.Proofs.YtndnhlhnjiopfaaGreat
