import Derived.Test.YtdgmbbjoifneiaaGreatDoorPyHul
namespace Go.Proofs.YtdgmbbjoifneiaaGreatDoor
set_option linter.unusedVariables false
set_option linter.unusedSimpArgs false
theorem QE (l:List V2):∀ k,k<=l.length->∀ x ∈ chT l k,x ∈ l
 | 0,_,x,hx=>by simp [chT] at hx
 | k+1,hk,x,hx=>by
  have ih:=QE l k (by omega)
  obtain ⟨m,hm,e⟩:=H4 (l.getD k (0,0)) _ (chT l k) (Nat.le_refl _)
  unfold chT at hx
  rw [e] at hx
  rcases List.mem_append.1 hx with hx|hx
  ·exact ih x (List.mem_of_mem_take hx)
  ·rw [List.mem_singleton.1 hx]
   have hk' : k<l.length:=by omega
   simp [List.getD,hk']
theorem LH {l:List V2} {x:V2} (h:x ∈ Jv l):x ∈ l:=QE l l.length (Nat.le_refl _) x (List.mem_of_mem_take h)
theorem RW {l:List V2} {x:V2} (h:x ∈ Ar l):x ∈ l:=by
 unfold Ar at h
 split at h
 ·unfold PF at h
  have hs:∀ y ∈ AC l l.length,y ∈ l:=λ y hy=>List.mem_of_mem_take ((Jt l y l.length (Nat.le_refl _)).1 hy)
  split at h
  ·exact hs x h
  ·rcases List.mem_append.1 h with h|h
   ·exact hs x (LH h)
   ·exact hs x (by simpa using LH h)
 ·cases h
end Go.Proofs.YtdgmbbjoifneiaaGreatDoor
