import Derived.Test.YtndnhlhnjiopfaaGreatToHul
namespace Go.Proofs.YtndnhlhnjiopfaaGreat
set_option linter.unusedVariables false
set_option linter.unusedSimpArgs false
theorem RF (l:List V2):∀ k,k<=l.length->∀ x ∈ chT l k,x ∈ l
 | 0,_,x,hx=>by simp [chT] at hx
 | k+1,hk,x,hx=>by
  have ih:=RF l k (by omega)
  obtain ⟨m,hm,e⟩:=Hh (l.getD k (0,0)) _ (chT l k) (Nat.le_refl _)
  unfold chT at hx
  rw [e] at hx
  rcases List.mem_append.1 hx with hx|hx
  ·exact ih x (List.mem_of_mem_take hx)
  ·rw [List.mem_singleton.1 hx]
   have hk' : k<l.length:=by omega
   simp [List.getD,hk']
theorem L3 {l:List V2} {x:V2} (h:x ∈ AQ l):x ∈ l:=RF l l.length (Nat.le_refl _) x (List.mem_of_mem_take h)
theorem ER {l:List V2} {x:V2} (h:x ∈ At l):x ∈ l:=by
 unfold At at h
 split at h
 ·unfold JV at h
  have hs:∀ y ∈ AW l l.length,y ∈ l:=λ y hy=>List.mem_of_mem_take ((D7 l y l.length (Nat.le_refl _)).1 hy)
  split at h
  ·exact hs x h
  ·rcases List.mem_append.1 h with h|h
   ·exact hs x (L3 h)
   ·exact hs x (by simpa using L3 h)
 ·cases h
end Go.Proofs.YtndnhlhnjiopfaaGreat
