import Derived.Test.YtdilbnggedidnaaFHF14
namespace Go.Proofs.Ytdilbnggedidnaa.PVal
set_option linter.unusedVariables false
theorem trimTo_rest (l : List S25) : ∀ (n : Nat) (j : Nat), trimTo l n ≤ j → j < n → (rd_T25 l (j : Int)).f0 = 1
 | 0, j, _, h => by omega
 | n + 1, j, h, hj => by
  rw [trimTo] at h
  split at h
  ·rename_i h1
   by_cases e : j = n
   ·subst e; exact h1
   ·exact trimTo_rest l n j h (by omega)
  ·omega
theorem atF_trim (l : List S25) (i : Int) : atF (trimL l) i = atF l i := by
 have hle := trimTo_le l l.length
 have hlen : (trimL l).length = trimTo l l.length := by unfold trimL; rw [List.length_take]; omega
 unfold atF
 by_cases h : 0 ≤ i ∧ i < (trimL l).length
 ·have hr : rd_T25 (trimL l) i = rd_T25 l i := rd_take h.1 (by omega)
  have h3 : 0 ≤ i ∧ i < l.length := ⟨h.1, by omega⟩
  rw [if_pos h, if_pos h3, hr]
 ·rw [if_neg h]
  by_cases h2 : 0 ≤ i ∧ i < l.length
  ·have := trimTo_rest l l.length i.toNat (by omega) (by omega)
   rw [show ((i.toNat : Nat) : Int) = i by omega] at this
   rw [if_pos h2, if_pos this]
  ·rw [if_neg h2]
end Go.Proofs.Ytdilbnggedidnaa.PVal
