import Derived.Test.YtdilbnggedidnaaV3
namespace Go.Proofs.Ytdilbnggedidnaa.PVal
set_option linter.unusedVariables false
set_option linter.unusedSimpArgs false
theorem itemsL_app (a b : List S25) : itemsL (a ++ b) = itemsL a + itemsL b := by
 induction a with
 | nil => simp [itemsL]
 | cons x a ih => simp [itemsL, ih]; omega
theorem depthL_app (a b : List S25) : depthL (a ++ b) = max (depthL a) (depthL b) := by
 induction a with
 | nil => simp [depthL]
 | cons x a ih => simp [depthL, ih, Nat.max_assoc]
theorem mayB_list (l : List S25) : mayB ⟨22, 0, ⟨#[]⟩, l⟩ = l.all mayB := by
 rw [mayB_eq, mayL_all]
 have h1 : numB 22 0 = true := by kernel_rfl
 have h2 : txtB 22 ⟨#[]⟩ = true := by kernel_rfl
 show ((decide ((1 : Int) ≤ 22 ∧ (22 : Int) ≤ 25) && l.all mayB) && ((numB 22 0 && txtB 22 ⟨#[]⟩) && famB ⟨22, 0, ⟨#[]⟩, l⟩)) = _
 rw [h1, h2, show famB ⟨22, 0, ⟨#[]⟩, l⟩ = true from if_pos rfl]
 simp
theorem all_right {l : List S25} (hd : depthL l ≤ 16) (hi : itemsL l ≤ 1024) : l.all rightB = l.all mayB := by
 rw [Bool.eq_iff_iff, List.all_eq_true, List.all_eq_true]
 constructor
 ·intro h x hx
  have := h x hx
  unfold rightB at this
  simp only [Bool.and_eq_true] at this
  exact this.2
 ·intro h x hx
  have h1 := depthL_mem hx
  have h2 := itemsL_mem hx
  unfold rightB
  rw [h x hx, decide_eq_true (by omega), decide_eq_true (by omega)]; rfl
def kidsB (l : List S25) : Bool := (l.all rightB && decide (depthL l < 16)) && decide (itemsL l < 1024)
theorem rightB_list (l : List S25) : rightB ⟨22, 0, ⟨#[]⟩, l⟩ = kidsB l := by
 unfold kidsB
 rw [show rightB ⟨22, 0, ⟨#[]⟩, l⟩ = ((decide (depthN ⟨22, 0, ⟨#[]⟩, l⟩ ≤ 16) && decide (itemsN ⟨22, 0, ⟨#[]⟩, l⟩ ≤ 1024)) && mayB ⟨22, 0, ⟨#[]⟩, l⟩) from rfl, mayB_list, depthN, itemsN]
 by_cases hd : depthL l < 16
 ·by_cases hi : itemsL l < 1024
  ·rw [all_right (by omega) (by omega), decide_eq_true hd, decide_eq_true hi, decide_eq_true (by omega), decide_eq_true (by omega)]; simp
  ·rw [decide_eq_false hi, decide_eq_false (p := itemsL l + 1 ≤ 1024) (by omega)]; simp
 ·rw [decide_eq_false hd, decide_eq_false (p := depthL l + 1 ≤ 16) (by omega)]; simp
def descB (x : S25) : Bool := (rightB x && decide (depthN x < 16)) && decide (itemsN x < 1023)
theorem depthN_pos (x : S25) : 1 ≤ depthN x := by rw [depthN_eq]; omega
theorem mayB_desc (k n : Int) (hn : 0 ≤ n) (x : S25) (hk : k = 6 ∨ k = 5) (h5 : n < 4294967296 ∨ k = 6) : mayB ⟨25, 0, ⟨#[]⟩, [⟨k, n, ⟨#[]⟩, []⟩, x]⟩ = (decide (k = 6) && mayB x) := by
 have ht : ∀ k : Int, k = 6 ∨ k = 5 → txtB k ⟨#[]⟩ = true := by rintro k (rfl | rfl) <;> kernel_rfl
 have hm : mayB ⟨k, n, ⟨#[]⟩, []⟩ = true := by
  rw [mayB_eq]
  show ((decide (1 ≤ k ∧ k ≤ 25) && mayL []) && ((numB k n && txtB k ⟨#[]⟩) && famB ⟨k, n, ⟨#[]⟩, []⟩)) = true
  have hf : famB ⟨k, n, ⟨#[]⟩, []⟩ = true := by
   unfold famB
   rw [if_neg (by rintro rfl; omega), if_neg (by rintro rfl; omega), if_neg (by rintro rfl; omega), if_neg (by rintro rfl; omega)]; rfl
  have hnn : numB k n = true := by
   rcases hk with rfl | rfl
   ·rfl
   ·have : n < 4294967296 := by omega
    show decide (n < 4294967296) = true
    exact decide_eq_true this
  rw [hnn, ht k hk, hf, decide_eq_true (by omega)]; rfl
 rw [mayB_eq]
 show ((decide ((1 : Int) ≤ 25 ∧ (25 : Int) ≤ 25) && mayL [⟨k, n, ⟨#[]⟩, []⟩, x]) && ((numB 25 0 && txtB 25 ⟨#[]⟩) && famB ⟨25, 0, ⟨#[]⟩, [⟨k, n, ⟨#[]⟩, []⟩, x]⟩)) = _
 have h1 : numB 25 0 = true := by kernel_rfl
 have h2 : txtB 25 ⟨#[]⟩ = true := by kernel_rfl
 have h3 : famB ⟨25, 0, ⟨#[]⟩, [⟨k, n, ⟨#[]⟩, []⟩, x]⟩ = decide (k = 6) := by
  show (decide (2 = 2) && (decide (k = 6) || decide (k = 21))) = _
  rw [decide_eq_false (p := k = 21) (by omega)]; simp
 rw [h1, h2, h3, mayL, mayL, mayL, hm]
 simp [Bool.and_comm]
theorem rightB_desc (n : Int) (hn : 0 ≤ n) (x : S25) : rightB ⟨25, 0, ⟨#[]⟩, [⟨6, n, ⟨#[]⟩, []⟩, x]⟩ = descB x := by
 unfold descB rightB
 have hp := depthN_pos x
 have h1 : depthN ⟨25, 0, ⟨#[]⟩, [⟨6, n, ⟨#[]⟩, []⟩, x]⟩ = depthN x + 1 := by simp only [depthN, depthL]; omega
 have h2 : itemsN ⟨25, 0, ⟨#[]⟩, [⟨6, n, ⟨#[]⟩, []⟩, x]⟩ = itemsN x + 2 := by simp only [itemsN, itemsL]; omega
 rw [mayB_desc 6 n hn x (.inl rfl) (.inr rfl), h1, h2]
 by_cases hd : depthN x < 16
 ·by_cases hi : itemsN x < 1023
  ·rw [decide_eq_true hd, decide_eq_true hi, decide_eq_true (p := depthN x + 1 ≤ 16) (by omega), decide_eq_true (p := itemsN x + 2 ≤ 1024) (by omega), decide_eq_true (p := depthN x ≤ 16) (by omega), decide_eq_true (p := itemsN x ≤ 1024) (by omega)]; simp
  ·rw [decide_eq_false hi, decide_eq_false (p := itemsN x + 2 ≤ 1024) (by omega)]; simp
 ·rw [decide_eq_false hd, decide_eq_false (p := depthN x + 1 ≤ 16) (by omega)]; simp
theorem rightB_bad (x : S25) : rightB ⟨25, 0, ⟨#[]⟩, [⟨5, 1, ⟨#[]⟩, []⟩, x]⟩ = false := by
 unfold rightB
 rw [mayB_desc 5 1 (by omega) x (.inr rfl) (.inl (by omega))]
 simp
end Go.Proofs.Ytdilbnggedidnaa.PVal
