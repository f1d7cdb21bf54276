import Derived.Test.YtdilbnggedidnaaF3
namespace Go.Proofs.Ytdilbnggedidnaa.PVal
open Go.RowKit Go.Shelf Go.Proofs.YtdilbnggedidnaaW.PrintWords Go.Proofs.YtdilbnggedidnaaW.PrintLast
set_option linter.unusedVariables false
set_option linter.unusedSimpArgs false
def symV (s : ByteArray) : S25 := ⟨21, 0, s, []⟩
def symM (ts : List ByteArray) : S25 := ⟨24, 0, ⟨#[]⟩, ts.map symV⟩
def symI (ts : List ByteArray) : List S25 := symM ts :: ts.map symV
def symA (ts : List ByteArray) (v : S25) : List S25 := symI ts ++ [v]
def goodS (v : S25) : Bool := (v.f0 == 1 || v.f0 == 21) || (v.f0 == 24 && ((v.f3.length == 0) || ((rd_T25 v.f3 0).f0 == 21)))
theorem symI_length (ts : List ByteArray) : (symI ts).length = ts.length + 1 := by simp [symI]
theorem symA_length (ts : List ByteArray) (v : S25) : (symA ts v).length = ts.length + 2 := by simp [symA, symI_length]
theorem rd_left {a b : List S25} {i : Int} (h0 : 0 ≤ i) (h1 : i < a.length) : rd_T25 (a ++ b) i = rd_T25 a i := by
 unfold rd_T25
 rw [List.getD_eq_getElem?_getD, List.getD_eq_getElem?_getD, List.getElem?_append_left (by omega)]
theorem rd_last (a : List S25) (v : S25) : rd_T25 (a ++ [v]) (a.length : Int) = v := rd_at a v []
theorem rd_take {a : List S25} {n : Nat} {i : Int} (h0 : 0 ≤ i) (h1 : i < n) : rd_T25 (a.take n) i = rd_T25 a i := by
 unfold rd_T25
 rw [List.getD_eq_getElem?_getD, List.getD_eq_getElem?_getD, List.getElem?_take_of_lt (by omega)]
theorem symI_rd_ne (ts : List ByteArray) {i : Int} (h0 : 0 ≤ i) (h1 : i < (symI ts).length) : (rd_T25 (symI ts) i).f0 ≠ 1 := by
 have h := rd_mem h0 h1
 rcases List.mem_cons.1 h with h | h
 ·rw [h]; show (24 : Int) ≠ 1; decide
 ·obtain ⟨s, _, e⟩ := List.mem_map.1 h
  rw [← e]; show (21 : Int) ≠ 1; decide
theorem symA_trim (ts : List ByteArray) (v : S25) : trimL (symA ts v) = if v.f0 = 1 then symI ts else symA ts v := by
 have h1 : trimTo (symA ts v) (ts.length + 1) = ts.length + 1 := by
  rw [trimTo, if_neg]
  unfold symA
  rw [rd_left (by omega) (by rw [symI_length]; omega)]
  exact symI_rd_ne ts (by omega) (by rw [symI_length]; omega)
 have h2 : rd_T25 (symA ts v) ((ts.length + 1 : Nat) : Int) = v := by
  have := rd_last (symI ts) v
  rw [symI_length] at this
  exact this
 unfold trimL
 rw [symA_length, trimTo, h2, h1]
 by_cases h : v.f0 = 1
 ·rw [if_pos h, if_pos h]
  unfold symA
  rw [← symI_length ts, List.take_left]
 ·rw [if_neg h, if_neg h, ← symA_length ts v, List.take_length]
theorem symA_rd (ts : List ByteArray) (v : S25) {i : Int} (h0 : 0 ≤ i) (h1 : i < ts.length + 1) : rd_T25 (trimL (symA ts v)) i = rd_T25 (symI ts) i ∧ i < (trimL (symA ts v)).length := by
 rw [symA_trim]
 split
 ·exact ⟨rfl, by rw [symI_length]; omega⟩
 ·exact ⟨by unfold symA; rw [rd_left h0 (by rw [symI_length]; omega)], by rw [symA_length]; omega⟩
theorem symA_at0 (ts : List ByteArray) (v : S25) : atF (trimL (symA ts v)) 0 = some (symM ts) := by
 obtain ⟨h, hl⟩ := symA_rd ts v (i := 0) (by omega) (by omega)
 unfold atF
 rw [if_pos ⟨by omega, hl⟩, h]
 rfl
theorem symA_at (ts : List ByteArray) (v : S25) (i : Nat) (hi : i < ts.length) : atF (trimL (symA ts v)) (1 + (i : Int)) = some (symV ts[i]) := by
 obtain ⟨h, hl⟩ := symA_rd ts v (i := 1 + (i : Int)) (by omega) (by omega)
 have e : rd_T25 (symI ts) (1 + (i : Int)) = symV ts[i] := by
  unfold rd_T25
  rw [List.getD_eq_getElem?_getD, show (1 + (i : Int)).toNat = i + 1 by omega]
  show ((symM ts :: ts.map symV)[i + 1]?).getD z25 = _
  rw [List.getElem?_cons_succ, List.getElem?_map, List.getElem?_eq_getElem hi]
  rfl
 unfold atF
 rw [if_pos ⟨by omega, hl⟩, h, e]
 rfl
theorem symA_len (ts : List ByteArray) (v : S25) : (trimL (symA ts v)).length ≤ ts.length + 2 := by
 rw [symA_trim]
 split
 ·rw [symI_length]; omega
 ·rw [symA_length]; omega
theorem symA_far (ts : List ByteArray) (v : S25) (i : Int) (hi : (ts.length : Int) + 2 ≤ i) : atF (trimL (symA ts v)) i = none := by
 have := symA_len ts v
 unfold atF
 rw [if_neg (by omega)]
theorem symA_low (ts : List ByteArray) (v : S25) : atF (trimL (symA ts v)) (-1) = none := by
 unfold atF
 rw [if_neg (by omega)]
theorem symA_last (ts : List ByteArray) (v : S25) : atF (trimL (symA ts v)) ((ts.length : Int) + 1) = if v.f0 = 1 then none else some v := by
 rw [symA_trim]
 split
 ·unfold atF
  rw [if_neg (by rw [symI_length]; omega)]
 ·rename_i h
  have h2 : rd_T25 (symA ts v) ((ts.length : Int) + 1) = v := by
   have := rd_last (symI ts) v
   rw [symI_length] at this
   exact this
  unfold atF
  rw [if_pos ⟨by omega, by rw [symA_length]; omega⟩, h2, if_neg h]
theorem symP_M (ts : List ByteArray) : symP (symM ts) = true := by
 unfold symP symM
 simp [symV]
theorem symL_M (ts : List ByteArray) : symL (symM ts) = ts := by
 unfold symL symM
 rw [if_neg (by show ¬ (24 : Int) = 21; decide), List.map_map]
 exact List.map_id _
theorem symP_V (s : ByteArray) : symP (symV s) = true := rfl
theorem symL_V (s : ByteArray) : symL (symV s) = [s] := rfl
theorem alike_kind {a b : S25} (h : alikeB a b = true) : b.f0 = a.f0 := by
 unfold alikeB at h
 cases hn : itemsN a with
 | zero => have := itemsN_pos a; omega
 | succ n =>
  rw [hn, alikeF] at h
  split at h
  ·rename_i h1; rw [h1.1, h1.2]
  ·exact (beq_iff_eq.1 h).symm
theorem symP_good {v : S25} (hm : mayB v = true) (h1 : v.f0 ≠ 1) : symP v = goodS v := by
 unfold symP goodS
 rw [show (v.f0 == 1) = false by simp [h1], Bool.false_or]
 by_cases h24 : v.f0 = 24
 ·have ha : arrB v.f3 = true := by
   rw [mayB_eq] at hm
   simp only [Bool.and_eq_true] at hm
   have := hm.2.2
   unfold famB at this
   rw [if_neg (by omega), if_neg (by omega), if_pos h24] at this
   exact this
  congr 2
  cases hl : v.f3 with
  | nil => rfl
  | cons h l =>
   rw [hl, arrB] at ha
   have e : ∀ y ∈ h :: l, y.f0 = h.f0 := fun y hy => alike_kind (List.all_eq_true.1 ha y hy)
   have er : rd_T25 (h :: l) 0 = h := rfl
   rw [er, show ((h :: l).length == 0) = false from rfl, Bool.false_or]
   by_cases hh : h.f0 = 21
   ·rw [show (h.f0 == 21) = true by simp [hh], Bool.not_eq_true', List.any_eq_false]
    intro y hy
    simp [e y hy, hh]
   ·rw [show (h.f0 == 21) = false by simp [hh], Bool.not_eq_false', List.any_eq_true]
    exact ⟨h, by simp, by simp [hh]⟩
 ·rw [show (v.f0 == 24) = false from beq_eq_false_iff_ne.2 h24, Bool.false_and, Bool.false_and]
theorem right_put_mem {code : Int} {l : List S25} (h : rightB (putV code l) = true) {x : S25} (hx : x ∈ trimL l) : mayB x = true := by
 unfold rightB at h
 rw [Bool.and_eq_true] at h
 have h2 := h.2
 unfold putV at h2
 rw [mayB_eq] at h2
 simp only [Bool.and_eq_true, mayL] at h2
 have h3 := h2.1.2.2.1
 rw [mayB_eq] at h3
 simp only [Bool.and_eq_true, mayL_all] at h3
 exact List.all_eq_true.1 h3.1.2 x hx
theorem sym_done (ts : List ByteArray) (v : S25) (h : rightB (putV 1 (symA ts v)) = true) : (doneN (trimL (symA ts v)) (spoilP (trimL (symA ts v)) ((ts.length : Int) + 1) false symP) ((ts.length : Int) + 2) == 0) = goodS v := by
 have hlen := symA_len ts v
 unfold doneN spoilP
 rw [symA_last]
 by_cases h1 : v.f0 = 1
 ·rw [if_pos h1, if_neg (by simp; omega)]
  unfold goodS
  simp [h1]
 ·rw [if_neg h1]
  have hm : v ∈ trimL (symA ts v) := by rw [symA_trim, if_neg h1]; unfold symA; simp
  rw [← symP_good (right_put_mem h hm) h1]
  by_cases hq : symP v = true
  ·rw [if_neg (by
    rintro (h | h)
    ·change (!symP v) = true at h
     rw [hq] at h
     cases h
    ·omega), hq]
   rfl
  ·rw [if_pos (.inl (by show (!symP v) = true; simp [hq]))]
   simp [hq]
theorem sym_done0 (ts : List ByteArray) (v : S25) : doneN (trimL (symA ts v)) false ((ts.length : Int) + 2) = 0 := by
 have hlen := symA_len ts v
 unfold doneN
 rw [if_neg (by simp; omega)]
theorem itemsL_app : ∀ a b : List S25, itemsL (a ++ b) = itemsL a + itemsL b
 | [], b => by simp [itemsL]
 | x :: a, b => by rw [List.cons_append, itemsL, itemsL, itemsL_app a b]; omega
theorem okL_app : ∀ {a b : List S25}, okL a → okL b → okL (a ++ b)
 | [], b, _, h => h
 | x :: a, b, h, hb => by
  rw [okL] at h
  rw [List.cons_append, okL]
  exact ⟨h.1, okL_app h.2 hb⟩
theorem itemsL_sym : ∀ ts : List ByteArray, itemsL (ts.map symV) = ts.length
 | [] => rfl
 | s :: ts => by rw [List.map_cons, itemsL, itemsL_sym ts]; simp [symV, itemsN, itemsL]; omega
theorem okL_sym : ∀ {ts : List ByteArray}, (∀ s ∈ ts, s.size ≤ 4294967290) → okL (ts.map symV)
 | [], _ => by rw [List.map_nil, okL]; trivial
 | s :: ts, h => by
  rw [List.map_cons, okL]
  refine ⟨?_, okL_sym fun x hx => h x (by simp [hx])⟩
  unfold symV
  rw [okV, okL]
  exact ⟨⟨⟨by omega, by omega⟩, h s (by simp)⟩, trivial⟩
theorem symA_items (ts : List ByteArray) (v : S25) : itemsL (symA ts v) = 2 * ts.length + 1 + itemsN v := by
 unfold symA symI
 rw [itemsL_app, itemsL, itemsL_sym]
 unfold symM
 simp only [itemsN, itemsL, itemsL_sym]
 omega
theorem symA_ok {ts : List ByteArray} {v : S25} (h : ∀ s ∈ ts, s.size ≤ 4294967290) (hv : okV v) : okL (symA ts v) := by
 unfold symA symI
 refine okL_app ?_ (by rw [okL, okL]; exact ⟨hv, trivial⟩)
 rw [okL]
 refine ⟨?_, okL_sym h⟩
 unfold symM
 rw [okV]
 exact ⟨⟨⟨by omega, by omega⟩, by decide⟩, okL_sym h⟩
end Go.Proofs.Ytdilbnggedidnaa.PVal
