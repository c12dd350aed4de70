import Derived.Test.YtndnhlhnjiopfaaGreatSgHul
namespace Go.Proofs.YtndnhlhnjiopfaaGreat
set_option linter.unusedVariables false
set_option linter.unusedSimpArgs false
theorem RK (l:List V2):∀ k,k<=l.length->∀ x ∈ chT l k,x ∈ l
 | 0,_,x,hx=>by simp [chT] at hx
 | k+1,hk,x,hx=>by
  have ih:=RK l k (by omega)
  obtain ⟨m,hm,e⟩:=I3 (l.getD k (0,0)) _ (chT l k) (Nat.le_refl _)
  unfold chT at hx
  rw [e] at hx
  rcases List.mem_append.1 hx with hx|hx
  ·exact ih x (List.mem_of_mem_take hx)
  ·rw [List.mem_singleton.1 hx]
   have hk' : k<l.length:=by omega
   simp [List.getD,hk']
theorem Mb {l:List V2} {x:V2} (h:x ∈ LM l):x ∈ l:=RK l l.length (Nat.le_refl _) x (List.mem_of_mem_take h)
theorem Sa {l:List V2} {x:V2} (h:x ∈ Ch l):x ∈ l:=by
 unfold Ch at h
 split at h
 ·unfold QI at h
  have hs:∀ y ∈ Am l l.length,y ∈ l:=λ y hy=>List.mem_of_mem_take ((LK l y l.length (Nat.le_refl _)).1 hy)
  split at h
  ·exact hs x h
  ·rcases List.mem_append.1 h with h|h
   ·exact hs x (Mb h)
   ·exact hs x (by simpa using Mb h)
 ·cases h
end Go.Proofs.YtndnhlhnjiopfaaGreat
