import Derived.Test.YtdilbnggedidnaaFHF12
import Derived.SliceStrings
namespace Go.Proofs.Ytdilbnggedidnaa.PVal
open Go.RowKit Go.Proofs.YtdilbnggedidnaaW.PrintWords Go.Proofs.YtdilbnggedidnaaW.PrintLast
set_option linter.unusedVariables false
set_option linter.unusedSimpArgs false
theorem bulk_texts {H : Type} : ∀ (l : List ByteArray) (es : List (DataW H)), es = l.map (fun s => DataW.lit (.string s.data.toList)) → ∀ s ∈ l, s.size + 1 ≤ Rows.uptoBulkAll es
 | [], es, he, s, hs => by simp at hs
 | y :: l, es, he, s, hs => by
  subst he
  rw [List.map_cons, Rows.uptoBulkAll]
  rcases List.mem_cons.1 hs with rfl | h
  ·have e : s.data.toList.length = s.size := by rw [Array.length_toList]; rfl
   simp only [Rows.uptoBulk]; omega
  ·have := bulk_texts (H := H) l _ rfl s h; omega
theorem open_texts {H : Type} {enc : TypeId × Value → H} {w : World} {base : Nat} {spare : Nat → Bool} {held : Bool} {m : Nat} {cs : List Value} {x : DataW H × List MemPlace} (h : DataW.trod enc Try.prog w base spare held m 46 cs = some x) :
  ∃ (l : List ByteArray) (A : Option Addr) (c : Nat), cs = [.slice A l.length c] ∧ l.length ≤ c ∧ Kd.string.C w A l.length l ∧ ∀ s ∈ l, s.size + 1 ≤ Rows.uptoBulk x.1 := by
 rcases Go.ChangeShapes.open_strings Try.underlying46 Try.underlying9 (by kernel_rfl) h with ⟨rfl, rfl⟩ | ⟨a, len, cap, ss, rfl, hb, hl, hm, hz, rfl, hcell, hsz⟩
 ·exact ⟨[], none, 0, rfl, Nat.le_refl _, ⟨rfl, by simp, fun h => absurd h (by simp)⟩, by simp⟩
 ·have hl2 : len ≤ ss.length := by rw [hz]; split <;> omega
  have hln : (ss.take len).length = len := by rw [List.length_take]; omega
  refine ⟨ss.take len, some a, cap, by rw [hln], by omega, ?_, fun s hs => ?_⟩
  ·refine Kd.C_of_reads (enc := Value.string) (d := ByteArray.empty) (h1 := fun _ => rfl) ⟨rfl, by unfold maxLen at hm; omega, fun _ => ⟨a, rfl, fun j hj => ?_⟩⟩
   rw [hcell j (by omega), List.getD_eq_getElem?_getD, List.getD_eq_getElem?_getD, List.getElem?_take_of_lt (by omega)]
  ·have := bulk_texts (H := H) (ss.take len) _ rfl s hs
   simp only [Rows.uptoBulk, Go.ChangeShapes.strs]
   omega
end Go.Proofs.Ytdilbnggedidnaa.PVal
