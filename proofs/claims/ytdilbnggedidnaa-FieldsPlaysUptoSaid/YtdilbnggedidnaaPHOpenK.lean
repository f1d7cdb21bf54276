import Derived.Test.YtdilbnggedidnaaPL11
set_option maxRecDepth 100000
set_option maxHeartbeats 8000000
namespace Go.Proofs.Ytdilbnggedidnaa.PVal
open Go.RowKit Go.Proofs.YtdilbnggedidnaaW.PrintWords Go.Proofs.YtdilbnggedidnaaW.PrintLast
set_option linter.unusedVariables false
set_option linter.unusedSimpArgs false
theorem open_u8s {H : Type} {enc : TypeId × Value → H} {w : World} {base : Nat} {spare : Nat → Bool} {held : Bool} {m : Nat} {cs : List Value} {x : DataW H × List MemPlace} (h : DataW.trod enc Try.prog w base spare held m 63 cs = some x) :
  ∃ (l : List Int) (A : Option Addr) (c : Nat), cs = [.slice A l.length c] ∧ l.length ≤ c ∧ Kd.C (Kd.int .u8) w A l.length l := by
 rcases DataW.trod_slice Try.underlying63 h with ⟨rfl, rfl⟩ | ⟨a, len, cap, es, rest, n, rfl, rfl, rfl, hb, hl, hm, hlen, hel, _, _⟩
 ·exact ⟨[], none, 0, rfl, Nat.le_refl _, ⟨rfl, by simp, fun h => absurd h (by simp)⟩⟩
 ·rw [cells5_] at hel
  obtain ⟨l, hll, hlq⟩ := list_each (0 : Int) es.length (fun i y => w.cell? (a.add i) = some (.int .u8 y)) (fun i hi => by
   have h1 := hel i (by omega)
   rw [List.getElem?_eq_getElem hi] at h1
   obtain ⟨cs', h2, h3⟩ := Option.bind_eq_some_iff.1 h1
   obtain ⟨y, e0, _, _⟩ := DataW.trod_int Try.underlying5 h3
   subst e0
   refine ⟨y, ?_⟩
   obtain ⟨_, _, hcell⟩ := World.cells?_some h2
   have := hcell 0 (by omega)
   rw [add_add, Nat.mul_one, Nat.add_zero] at this
   exact this)
  refine ⟨l, some a, cap, by rw [hll, hlen], by omega, ?_⟩
  refine Kd.C_of_reads (enc := Value.int .u8) (d := (0 : Int)) (h1 := fun _ => rfl) ⟨rfl, by unfold maxLen at hm; omega, fun _ => ⟨a, rfl, fun j hj => ?_⟩⟩
  exact hlq j (by omega)
theorem open_askK {H : Type} {enc : TypeId × Value → H} {w : World} {base : Nat} {spare : Nat → Bool} {held : Bool} {m : Nat} {cs : List Value} {x : DataW H × List MemPlace} (h : DataW.trod enc Try.prog w base spare held m 65 cs = some x) : ∃ a : Ask, cs = a.cells ∧ ∃ ks : List Int, a.nk = ks.length ∧ ks.length ≤ a.ck ∧ Kd.C (Kd.int .u8) w a.K ks.length ks := by
 obtain ⟨xs, m, rfl, rfl, hl, hlen, hf⟩ := DataW.trod_struct Try.underlying65 h
 rw [cells65_] at hl
 obtain ⟨c0, c1, c2, c3, c4, c5, rfl⟩ := list6 hl
 obtain ⟨y0, y1, y2, y3, y4, y5, rfl⟩ := list6 hlen
 have h0 : DataW.trod enc Try.prog w base spare held m 3 (([c0, c1, c2, c3, c4, c5].drop 0).take (Try.prog.cellsOf 3)) = some y0 := hf 0 _ rfl
 rw [cells3_] at h0
 have h1 : DataW.trod enc Try.prog w base spare held m 3 (([c0, c1, c2, c3, c4, c5].drop 1).take (Try.prog.cellsOf 3)) = some y1 := hf 1 _ rfl
 rw [cells3_] at h1
 have h2 : DataW.trod enc Try.prog w base spare held m 5 (([c0, c1, c2, c3, c4, c5].drop 2).take (Try.prog.cellsOf 5)) = some y2 := hf 2 _ rfl
 rw [cells5_] at h2
 have h3 : DataW.trod enc Try.prog w base spare held m 4 (([c0, c1, c2, c3, c4, c5].drop 3).take (Try.prog.cellsOf 4)) = some y3 := hf 3 _ rfl
 rw [cells4_] at h3
 have h4 : DataW.trod enc Try.prog w base spare held m 22 (([c0, c1, c2, c3, c4, c5].drop 4).take (Try.prog.cellsOf 22)) = some y4 := hf 4 _ rfl
 rw [cells22_] at h4
 have h5 : DataW.trod enc Try.prog w base spare held m 63 (([c0, c1, c2, c3, c4, c5].drop 5).take (Try.prog.cellsOf 63)) = some y5 := hf 5 _ rfl
 rw [cells63_] at h5
 obtain ⟨v0, e0, _, _⟩ := DataW.trod_int Try.underlying3 h0
 obtain ⟨v1, e1, _, _⟩ := DataW.trod_int Try.underlying3 h1
 obtain ⟨v2, e2, _, _⟩ := DataW.trod_int Try.underlying5 h2
 obtain ⟨v3, e3, _⟩ := DataW.trod_bool Try.underlying4 h3
 obtain ⟨v4, e4, _, _⟩ := DataW.trod_int Try.underlying22 h4
 obtain ⟨ks, K, ck, e5, hck, hK⟩ := open_u8s h5
 simp at e0 e1 e2 e3 e4 e5
 subst e0 e1 e2 e3 e4 e5
 exact ⟨⟨v0, v1, v2, v3, v4, K, ks.length, ck⟩, rfl, ks, rfl, hck, hK⟩
theorem open_asksK {H : Type} {enc : TypeId × Value → H} {w : World} {base : Nat} {spare : Nat → Bool} {held : Bool} {m : Nat} {cs : List Value} {x : DataW H × List MemPlace} (h : DataW.trod enc Try.prog w base spare held m 53 cs = some x) :
  ∃ (l : List Ask) (A : Option Addr) (c : Nat), cs = [.slice A l.length c] ∧ l.length ≤ c ∧ (AskC w A l ∧ AskK w l) := by
 rcases DataW.trod_slice Try.underlying53 h with ⟨rfl, rfl⟩ | ⟨a, len, cap, es, rest, n, rfl, rfl, rfl, hb, hl, hm, hlen, hel, _, _⟩
 ·exact ⟨[], none, 0, rfl, Nat.le_refl _, fun h => absurd h (by simp), fun i hi => absurd hi (by simp)⟩
 ·rw [cells65_] at hel
  obtain ⟨l, hll, hlq⟩ := list_each zAsk es.length (fun i y => (∀ j u, y.cells[j]? = some u → w.cell? (a.add (i * 6 + j)) = some u) ∧ ∃ ks : List Int, y.nk = ks.length ∧ ks.length ≤ y.ck ∧ Kd.C (Kd.int .u8) w y.K ks.length ks) (fun i hi => by
   have h1 := hel i (by omega)
   rw [List.getElem?_eq_getElem hi] at h1
   obtain ⟨cs', h2, h3⟩ := Option.bind_eq_some_iff.1 h1
   obtain ⟨y, rfl, hk⟩ := open_askK h3
   refine ⟨y, fun j u hj => ?_, hk⟩
   obtain ⟨_, _, hcell⟩ := World.cells?_some h2
   have hj6 : j < 6 := by have := (List.getElem?_eq_some_iff.1 hj).1; simp [Ask.cells] at this; omega
   have := hcell j hj6
   rw [add_add] at this
   exact this.trans hj)
  exact ⟨l, some a, cap, by rw [hll, hlen], by omega, fun _ => ⟨a, rfl, fun i hi => (hlq i (by omega)).1⟩, fun i hi => (hlq i (by omega)).2⟩
end Go.Proofs.Ytdilbnggedidnaa.PVal
