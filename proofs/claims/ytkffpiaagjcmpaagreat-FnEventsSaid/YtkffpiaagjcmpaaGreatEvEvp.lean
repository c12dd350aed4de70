import Derived.Test.YtkffpiaagjcmpaaGreatEvRkEv
namespace Go.Proofs.YtkffpiaagjcmpaaGreat
set_option linter.unusedVariables false
set_option linter.unusedSimpArgs false
open Go.RowKit
abbrev LA (x:Int):Prop:=-9223372036854775808<=x/\x<=9223372036854775807
theorem ABf {lo hi x:Fr} {cs:List Cnd} (h:x ∈ evF lo hi cs):0<Fr.cmp x lo/\Fr.cmp x hi<0:=by
 unfold evF at h
 obtain ⟨c,hc,rfl⟩:=List.mem_map.1 h
 have h:=(List.mem_filter.1 hc).2
 unfold evP at h
 simp only [Bool.and_eq_true,decide_eq_true_iff] at h
 exact h.2
section
variable {lx ly hx hy : Int} {ls : List (List V2)}
theorem JB (hp:BU ls=true) (h:lx<hx) (hl:LA lx) (hh:LA hx):BC (evR lx ly hx hy ls)/\asc (evR lx ly hx hy ls)/\∀ x,x ∈ evR lx ly hx hy ls↔x ∈ [Fr.ofInt lx,Fr.ofInt hx]∨x ∈ evF (Fr.ofInt lx) (Fr.ofInt hx) (cA ls ls.length++cE (edA ls) ly hy (edA ls).length):=by
 unfold evR
 rw [if_pos ⟨hp,h⟩]
 refine Fd (Mh _ _ _) (acc:=[Fr.ofInt lx,Fr.ofInt hx]) (λ x hx'=>?_) (List.pairwise_cons.2 ⟨λ b hb=>?_,List.pairwise_singleton _ _⟩)
 ·simp only [List.mem_cons,List.not_mem_nil,or_false] at hx'
  rcases hx' with rfl|rfl
  ·exact I8 hl
  ·exact I8 hh
 ·simp at hb;subst hb;exact PT hl hh h
theorem Uf (hp:BU ls=true) (h:lx<hx) (hl:LA lx) (hh:LA hx) {x:Fr} (hx' : x ∈ evR lx ly hx hy ls):(x=Fr.ofInt lx∨0<Fr.cmp x (Fr.ofInt lx))/\(x=Fr.ofInt hx∨Fr.cmp x (Fr.ofInt hx)<0):=by
 have hlt:=PT hl hh h
 have hs:=KD (I8 hl) (I8 hh)
 rcases ((JB (ly:=ly) (hy:=hy) hp h hl hh).2.2 x).1 hx' with h1|h1
 ·simp only [List.mem_cons,List.not_mem_nil,or_false] at h1
  rcases h1 with rfl|rfl
  ·exact ⟨.inl rfl,.inr hlt⟩
  ·exact ⟨.inr (by omega),.inl rfl⟩
 ·have:=ABf h1
  exact ⟨.inr this.1,.inr this.2⟩
theorem PW (hp:BU ls=true) (h:lx<hx) (hl:LA lx) (hh:LA hx):2<=(evR lx ly hx hy ls).length:=by
 have hA:=JB (ly:=ly) (hy:=hy) hp h hl hh
 have m1:=(hA.2.2 (Fr.ofInt lx)).2 (.inl (by simp))
 have m2:=(hA.2.2 (Fr.ofInt hx)).2 (.inl (by simp))
 have hlt:=PT hl hh h
 match hE:evR lx ly hx hy ls with
 | []=>rw [hE] at m1;simp at m1
 | [a]=>
  rw [hE] at m1 m2
  simp only [List.mem_cons,List.not_mem_nil,or_false] at m1 m2
  rw [m1,m2,Fc] at hlt;omega
 | _::_::_=>simp
theorem TU {l:List Fr} (h:asc l) {i j:Nat} (hij:i<j) (hj:j<l.length):Fr.cmp (l.getD i Fr.none) (l.getD j Fr.none)<0:=by
 have:=(List.pairwise_iff_getElem.1 h) i j (by omega) hj hij
 simpa [List.getD,hj,show i<l.length by omega] using this
theorem Mk {l:List Fr} {i:Nat} (h:i<l.length):l.getD i Fr.none ∈ l:=by simp [List.getD,h]
theorem YF {l:List Fr} {x:Fr} (h:x ∈ l):∃ i,i<l.length/\l.getD i Fr.none=x:=by
 obtain ⟨i,hi,e⟩:=List.getElem_of_mem h
 exact ⟨i,hi,by simp [List.getD,hi,e]⟩
theorem V1 (hp:BU ls=true) (h:lx<hx) (hl:LA lx) (hh:LA hx):(evR lx ly hx hy ls).getD 0 Fr.none=Fr.ofInt lx:=by
 have hA:=JB (ly:=ly) (hy:=hy) hp h hl hh
 have h2:=PW (ly:=ly) (hy:=hy) hp h hl hh
 obtain ⟨i,hi,e⟩:=YF ((hA.2.2 (Fr.ofInt lx)).2 (.inl (by simp)))
 by_cases h0:i=0
 ·subst h0;exact e
 ·have h3:=TU hA.2.1 (show 0<i by omega) hi
  rw [e] at h3
  have hm:=Mk (show 0<(evR lx ly hx hy ls).length by omega)
  rcases (Uf hp h hl hh hm).1 with h4|h4
  ·exact h4
  ·omega
theorem YG (hp:BU ls=true) (h:lx<hx) (hl:LA lx) (hh:LA hx):(evR lx ly hx hy ls).getD ((evR lx ly hx hy ls).length-1) Fr.none=Fr.ofInt hx:=by
 have hA:=JB (ly:=ly) (hy:=hy) hp h hl hh
 have h2:=PW (ly:=ly) (hy:=hy) hp h hl hh
 obtain ⟨i,hi,e⟩:=YF ((hA.2.2 (Fr.ofInt hx)).2 (.inl (by simp)))
 by_cases h0:i=(evR lx ly hx hy ls).length-1
 ·rw [← h0];exact e
 ·have h3:=TU hA.2.1 (show i<(evR lx ly hx hy ls).length-1 by omega) (by omega)
  rw [e] at h3
  have hm:=Mk (show (evR lx ly hx hy ls).length-1<(evR lx ly hx hy ls).length by omega)
  rcases (Uf hp h hl hh hm).2 with h4|h4
  ·exact h4
  ·have hs:=KD (hA.1 _ hm) (I8 hh)
   omega
end
theorem RU {l:List Fr} (hg:BC l) (ha:asc l):Bp [] l=l:=by
 obtain ⟨_,a2,a3⟩:=Fd hg (acc:=[]) (λ x hx=>by simp at hx) List.Pairwise.nil
 exact LX a2 ha λ x=>by rw [a3];simp
end Go.Proofs.YtkffpiaagjcmpaaGreat
