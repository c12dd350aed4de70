import Derived.Test.YtndnhlhnjiopfaaGreatDi2Hul
namespace Go.Proofs.YtndnhlhnjiopfaaGreat
set_option linter.unusedVariables false
set_option linter.unusedSimpArgs false
theorem SP (l:List V2):∀ k,k<=l.length->∀ x ∈ chT l k,x ∈ l
 | 0,_,x,hx=>by simp [chT] at hx
 | k+1,hk,x,hx=>by
  have ih:=SP l k (by omega)
  obtain ⟨m,hm,e⟩:=Jk (l.getD k (0,0)) _ (chT l k) (Nat.le_refl _)
  unfold chT at hx
  rw [e] at hx
  rcases List.mem_append.1 hx with hx|hx
  ·exact ih x (List.mem_of_mem_take hx)
  ·rw [List.mem_singleton.1 hx]
   have hk' : k<l.length:=by omega
   simp [List.getD,hk']
theorem NO {l:List V2} {x:V2} (h:x ∈ L4 l):x ∈ l:=SP l l.length (Nat.le_refl _) x (List.mem_of_mem_take h)
theorem Tl {l:List V2} {x:V2} (h:x ∈ C2 l):x ∈ l:=by
 unfold C2 at h
 split at h
 ·unfold RE at h
  have hs:∀ y ∈ As l l.length,y ∈ l:=λ y hy=>List.mem_of_mem_take ((L2 l y l.length (Nat.le_refl _)).1 hy)
  split at h
  ·exact hs x h
  ·rcases List.mem_append.1 h with h|h
   ·exact hs x (NO h)
   ·exact hs x (by simpa using NO h)
 ·cases h
end Go.Proofs.YtndnhlhnjiopfaaGreat
