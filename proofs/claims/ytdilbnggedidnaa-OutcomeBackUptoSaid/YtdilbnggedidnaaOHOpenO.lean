import Derived.Test.YtdilbnggedidnaaO3
namespace Go.Proofs.Ytdilbnggedidnaa.PVal
open Go.RowKit Go.Proofs.YtdilbnggedidnaaW.PrintWords Go.Proofs.YtdilbnggedidnaaW.PrintLast
set_option linter.unusedVariables false
set_option linter.unusedSimpArgs false
theorem cells72_ : Try.prog.cellsOf 72 = 4 := by kernel_rfl
theorem open_out {H : Type} {enc : TypeId × Value → H} {w : World} {base : Nat} {spare : Nat → Bool} {held : Bool} {m : Nat} {cs : List Value} {x : DataW H × List MemPlace} (h : DataW.trod enc Try.prog w base spare held m 72 cs = some x) :
  ∃ (k a b : Int) (s : ByteArray), cs = [.int .u8 k, .int .u64 a, .int .u64 b, .string s] ∧ (0 ≤ k ∧ k ≤ 255) ∧ u64R a ∧ u64R b ∧ s.size + 1 ≤ Rows.uptoBulk x.1 := by
 obtain ⟨xs, m, rfl, rfl, hl, hlen, hf⟩ := DataW.trod_struct Try.underlying72 h
 rw [cells72_] at hl
 obtain ⟨c0, c1, c2, c3, rfl⟩ := list4 hl
 obtain ⟨y0, y1, y2, y3, rfl⟩ := list4 hlen
 have h0 : DataW.trod enc Try.prog w base spare held m 5 (([c0, c1, c2, c3].drop 0).take (Try.prog.cellsOf 5)) = some y0 := hf 0 _ rfl
 rw [cells5_] at h0
 have h1 : DataW.trod enc Try.prog w base spare held m 22 (([c0, c1, c2, c3].drop 1).take (Try.prog.cellsOf 22)) = some y1 := hf 1 _ rfl
 rw [cells22_] at h1
 have h2 : DataW.trod enc Try.prog w base spare held m 22 (([c0, c1, c2, c3].drop 2).take (Try.prog.cellsOf 22)) = some y2 := hf 2 _ rfl
 rw [cells22_] at h2
 have h3 : DataW.trod enc Try.prog w base spare held m 9 (([c0, c1, c2, c3].drop 3).take (Try.prog.cellsOf 9)) = some y3 := hf 3 _ rfl
 rw [cells9_] at h3
 obtain ⟨k, e0, rfl, hw0⟩ := DataW.trod_int Try.underlying5 h0
 obtain ⟨a, e1, rfl, hw1⟩ := DataW.trod_int Try.underlying22 h1
 obtain ⟨b, e2, rfl, hw2⟩ := DataW.trod_int Try.underlying22 h2
 obtain ⟨s, e3, rfl, hs⟩ := DataW.trod_string Try.underlying9 h3
 simp at e0 e1 e2 e3
 subst e0 e1 e2 e3
 have b0 := Go.bounds_u8 hw0
 have b1 := Go.bounds_u64 hw1
 have b2 := Go.bounds_u64 hw2
 have e : s.data.toList.length = s.size := by rw [Array.length_toList]; rfl
 refine ⟨k, a, b, s, rfl, ⟨b0.1, by omega⟩, ⟨b1.1, by omega⟩, ⟨b2.1, by omega⟩, ?_⟩
 simp only [Rows.uptoBulk, Rows.uptoBulkAll, List.map_cons, List.map_nil]
 omega
end Go.Proofs.Ytdilbnggedidnaa.PVal
