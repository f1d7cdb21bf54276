import Derived.Test.YtdilbnggedidnaaFHF15
namespace Go.Proofs.Ytdilbnggedidnaa.PVal
open Go.RowKit Go.Shelf Go.Proofs.YtdilbnggedidnaaW.PrintWords Go.Proofs.YtdilbnggedidnaaW.PrintLast
set_option linter.unusedVariables false
set_option linter.unusedSimpArgs false
structure Ask where
 what : Int
 at_ : Int
 kind : Int
 must : Bool
 none_ : Int
 K : Option Addr
 nk : Nat
 ck : Nat
def Ask.cells (a : Ask) : List Value := [.int .i64 a.what, .int .i64 a.at_, .int .u8 a.kind, .bool a.must, .int .u64 a.none_, .slice a.K a.nk a.ck]
def zAsk : Ask := ⟨0, 0, 0, false, 0, none, 0, 0⟩
theorem cell_stays {w w' : World} {p : Addr} {u : Value} (h : w.cell? p = some u) (hb : Below w.heap.size w w') : w'.cell? p = some u := by
 have hl : p.block < w.heap.size := by
  apply Classical.byContradiction
  intro hn
  have : w.heap[p.block]? = none := by simp; omega
  simp [World.cell?, this] at h
 exact (hb.cell hl).trans h
def AskC (w : World) (A : Option Addr) (xs : List Ask) : Prop := 0 < xs.length → ∃ ad, A = some ad ∧ ∀ i, i < xs.length → ∀ j u, (xs.getD i zAsk).cells[j]? = some u → w.cell? (ad.add (i * 6 + j)) = some u
theorem AskC.below {w w' : World} {A : Option Addr} {xs : List Ask} (h : AskC w A xs) (hb : Below w.heap.size w w') : AskC w' A xs := fun hl => by
 obtain ⟨ad, e, hc⟩ := h hl
 exact ⟨ad, e, fun i hi j u hj => cell_stays (hc i hi j u hj) hb⟩
def Ask.k (a : Ask) : Int := if a.what = 2 then 2 else a.kind
def Ask.asks (a : Ask) : Bool := a.what == 1 || a.what == 3 || a.what == 2
def spoiltBy (l : List S25) (a : Ask) : Bool := a.asks && spoilP l a.at_ a.must (kindP [a.k])
theorem spoilP_is (l : List S25) (a : Ask) : spoilP (trimL l) a.at_ a.must (kindP [a.k]) = ((!(atF l a.at_).isSome && a.must) || ((atF l a.at_).isSome && !((rd_T25 l a.at_).f0 == a.k))) := by
 unfold spoilP
 rw [atF_trim]
 cases h : atF l a.at_ with
 | none => simp
 | some x =>
  obtain ⟨_, _, _, rfl⟩ := atF_some h
  show (!kindP [a.k] (rd_T25 l a.at_)) = _
  rw [kindP_one]
  simp
end Go.Proofs.Ytdilbnggedidnaa.PVal
