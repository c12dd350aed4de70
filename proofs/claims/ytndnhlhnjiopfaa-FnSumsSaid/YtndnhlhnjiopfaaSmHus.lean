import Derived.Test.YtndnhlhnjiopfaaSmHul
namespace Go.Proofs.Ytndnhlhnjiopfaa
set_option linter.unusedVariables false
set_option linter.unusedSimpArgs false
theorem QV (l:List V2):∀ k,k<=l.length->∀ x ∈ chT l k,x ∈ l
 | 0,_,x,hx=>by simp [chT] at hx
 | k+1,hk,x,hx=>by
  have ih:=QV l k (by omega)
  obtain ⟨m,hm,e⟩:=G3 (l.getD k (0,0)) _ (chT l k) (Nat.le_refl _)
  unfold chT at hx
  rw [e] at hx
  rcases List.mem_append.1 hx with hx|hx
  ·exact ih x (List.mem_of_mem_take hx)
  ·rw [List.mem_singleton.1 hx]
   have hk' : k<l.length:=by omega
   simp [List.getD,hk']
theorem LY {l:List V2} {x:V2} (h:x ∈ AP l):x ∈ l:=QV l l.length (Nat.le_refl _) x (List.mem_of_mem_take h)
theorem EK {l:List V2} {x:V2} (h:x ∈ Au l):x ∈ l:=by
 unfold Au at h
 split at h
 ·unfold I1 at h
  have hs:∀ y ∈ Aa l l.length,y ∈ l:=λ y hy=>List.mem_of_mem_take ((CX l y l.length (Nat.le_refl _)).1 hy)
  split at h
  ·exact hs x h
  ·rcases List.mem_append.1 h with h|h
   ·exact hs x (LY h)
   ·exact hs x (by simpa using LY h)
 ·cases h
end Go.Proofs.Ytndnhlhnjiopfaa
