import Derived.Test.YtdilbnggedidnaaVHKid
namespace Go.Proofs.Ytdilbnggedidnaa.PVal
set_option linter.unusedVariables false
set_option linter.unusedSimpArgs false
structure Good (x : S25) : Prop where
 right : rightB x = true
 kind : x.f0 ≠ 25
 deep : depthN x < 16
theorem depthL_lt {l : List S25} (h : ∀ x ∈ l, depthN x < 16) : depthL l < 16 := by
 induction l with
 | nil => simp [depthL]
 | cons x l ih =>
  rw [depthL]
  have h1 := h x (by simp)
  have h2 := ih (fun y hy => h y (by simp [hy]))
  omega
theorem good_may {l : List S25} (h : ∀ x ∈ l, Good x) : mayL l = true := by
 rw [mayL_all, List.all_eq_true]
 intro x hx
 have := (h x hx).right
 unfold rightB at this
 simp only [Bool.and_eq_true] at this
 exact this.2
def alB (l : List S25) : Bool := l.all fun x => x.f0 == (rd_T25 l 0).f0
theorem arrB_good {l : List S25} (h : ∀ x ∈ l, Good x) : arrB l = alB l := by
 cases l with
 | nil => rfl
 | cons a l =>
  have ha := (h a (by simp)).kind
  rw [arrB]
  unfold alB
  rw [Bool.eq_iff_iff, List.all_eq_true, List.all_eq_true]
  have hk : ∀ x : S25, alikeB a x = (x.f0 == (rd_T25 (a :: l) 0).f0) := fun x => by
   unfold alikeB
   obtain ⟨n, hn⟩ : ∃ n, itemsN a = n + 1 := ⟨itemsN a - 1, by have := itemsN_pos a; omega⟩
   rw [hn, alikeF, if_neg (fun h => ha h.1)]
   show (a.f0 == x.f0) = (x.f0 == a.f0)
   rw [Bool.eq_iff_iff]; simp only [beq_iff_eq]; exact eq_comm
  exact ⟨fun g x hx => by rw [← hk]; exact g x hx, fun g x hx => by rw [hk]; exact g x hx⟩
theorem rightB_arr {l : List S25} (h : ∀ x ∈ l, Good x) : rightB ⟨24, 0, ⟨#[]⟩, l⟩ = (alB l && decide (itemsL l + 1 ≤ 1024)) := by
 have hd := depthL_lt fun x hx => (h x hx).deep
 rw [show rightB ⟨24, 0, ⟨#[]⟩, l⟩ = ((decide (depthN ⟨24, 0, ⟨#[]⟩, l⟩ ≤ 16) && decide (itemsN ⟨24, 0, ⟨#[]⟩, l⟩ ≤ 1024)) && mayB ⟨24, 0, ⟨#[]⟩, l⟩) from rfl, mayB_eq, depthN, itemsN]
 show ((_ && _) && ((decide ((1 : Int) ≤ 24 ∧ (24 : Int) ≤ 25) && mayL l) && ((numB 24 0 && txtB 24 ⟨#[]⟩) && famB ⟨24, 0, ⟨#[]⟩, l⟩))) = _
 have h1 : numB 24 0 = true := by kernel_rfl
 have h2 : txtB 24 ⟨#[]⟩ = true := by kernel_rfl
 rw [h1, h2, good_may h, show famB ⟨24, 0, ⟨#[]⟩, l⟩ = arrB l from rfl, arrB_good h, decide_eq_true (p := depthL l + 1 ≤ 16) (by omega)]
 cases alB l <;> simp
def keysI (l : List S25) (i : Nat) : List S25 := (List.range ((i + 1) / 2)).map fun j => rd_T25 l ((2 * j : Nat) : Int)
theorem keysI_odd (l : List S25) {i : Nat} (h : i % 2 = 1) : keysI l (i + 1) = keysI l i := by unfold keysI; rw [show (i + 1 + 1) / 2 = (i + 1) / 2 by omega]
theorem keysI_even (l : List S25) {i : Nat} (h : i % 2 = 0) : keysI l (i + 1) = keysI l i ++ [rd_T25 l (i : Int)] := by
 unfold keysI
 rw [show (i + 1 + 1) / 2 = (i + 1) / 2 + 1 by omega, List.range_succ, List.map_append]
 simp only [List.map_cons, List.map_nil]
 rw [show 2 * ((i + 1) / 2) = i by omega]
theorem keysI_two (l : List S25) {i : Nat} (h : i % 2 = 0) : keysI l (i + 2) = keysI l i ++ [rd_T25 l (i : Int)] := by
 rw [show i + 2 = (i + 1) + 1 by omega, keysI_odd l (by omega), keysI_even l h]
theorem keysI_all : ∀ (l : List S25), l.length % 2 = 0 → (pairsOf l).map (·.1) = keysI l l.length := by
 intro l h
 apply List.ext_getElem?
 intro j
 unfold keysI
 rw [List.getElem?_map, List.getElem?_map]
 by_cases hj : j < l.length / 2
 ·rw [pairsOf_get l j (by omega), List.getElem?_range (by omega)]; rfl
 ·rw [List.getElem?_eq_none (by rw [pairsOf_length]; omega), List.getElem?_eq_none (by simp; omega)]; rfl
def unB (l : List S25) (i : Nat) : Bool := decide (l.length % 2 = 0) && unlikeL [] (keysI l i)
theorem rightB_map {l : List S25} (h : ∀ x ∈ l, Good x) : rightB ⟨23, 0, ⟨#[]⟩, l⟩ = (unB l l.length && decide (itemsL l + 1 ≤ 1024)) := by
 have hd := depthL_lt fun x hx => (h x hx).deep
 rw [show rightB ⟨23, 0, ⟨#[]⟩, l⟩ = ((decide (depthN ⟨23, 0, ⟨#[]⟩, l⟩ ≤ 16) && decide (itemsN ⟨23, 0, ⟨#[]⟩, l⟩ ≤ 1024)) && mayB ⟨23, 0, ⟨#[]⟩, l⟩) from rfl, mayB_eq, depthN, itemsN]
 show ((_ && _) && ((decide ((1 : Int) ≤ 23 ∧ (23 : Int) ≤ 25) && mayL l) && ((numB 23 0 && txtB 23 ⟨#[]⟩) && famB ⟨23, 0, ⟨#[]⟩, l⟩))) = _
 have h1 : numB 23 0 = true := by kernel_rfl
 have h2 : txtB 23 ⟨#[]⟩ = true := by kernel_rfl
 rw [h1, h2, good_may h, show famB ⟨23, 0, ⟨#[]⟩, l⟩ = (decide (l.length % 2 = 0) && unlikeL [] ((pairsOf l).map (·.1))) from rfl, decide_eq_true (p := depthL l + 1 ≤ 16) (by omega)]
 unfold unB
 by_cases he : l.length % 2 = 0
 ·rw [keysI_all l he, decide_eq_true he]
  cases unlikeL [] (keysI l l.length) <;> simp
 ·rw [decide_eq_false he]; simp
def unK (l : List S25) (i k : Nat) : Bool := unB l i && (decide (i % 2 = 1) || !((keysI l k).any fun s => veq s (rd_T25 l (i : Int))))
theorem unK_start (l : List S25) (i : Nat) : unK l i (i % 2) = unB l i := by
 unfold unK
 rcases Nat.mod_two_eq_zero_or_one i with h | h
 ·rw [h]; simp [keysI]
 ·rw [decide_eq_true h]; simp
theorem unK_step (l : List S25) {i k : Nat} (h : k % 2 = i % 2) : unK l i (k + 2) = (unK l i k && (decide (i % 2 = 1) || !veq (rd_T25 l (i : Int)) (rd_T25 l (k : Int)))) := by
 unfold unK
 rcases Nat.mod_two_eq_zero_or_one i with hi | hi
 ·rw [keysI_two l (by omega), List.any_append, decide_eq_false (p := i % 2 = 1) (by omega), veq_comm (rd_T25 l (i : Int))]
  simp only [List.any_cons, List.any_nil, Bool.or_false, Bool.false_or, Bool.not_or, Bool.and_assoc]
 ·rw [decide_eq_true hi]; simp
theorem unK_end (l : List S25) {i k : Nat} (h : k % 2 = i % 2) (h1 : i ≤ k) (h2 : k ≤ i + 1) : unK l i k = unB l (i + 1) := by
 unfold unK unB
 rcases Nat.mod_two_eq_zero_or_one i with hi | hi
 ·obtain rfl : k = i := by omega
  rw [keysI_even l hi, unlikeL_snoc, decide_eq_false (p := k % 2 = 1) (by omega)]
  simp only [Bool.false_or, List.nil_append, Bool.and_assoc]
 ·rw [keysI_odd l hi, decide_eq_true hi]; simp
end Go.Proofs.Ytdilbnggedidnaa.PVal
