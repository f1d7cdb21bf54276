import Derived.Test.YtdilbnggedidnaaFHF16
namespace Go.Proofs.Ytdilbnggedidnaa.PVal
open Go.RowKit Go.Shelf Go.Proofs.YtdilbnggedidnaaW.PrintWords Go.Proofs.YtdilbnggedidnaaW.PrintLast
set_option linter.unusedVariables false
set_option linter.unusedSimpArgs false
theorem below_bg {B g : Nat} {w a b : World} (h : Below B w a) (k : Bg g a b) (hg : B ≤ g) (hB : B ≤ a.heap.size) : Below B w b := ⟨k.os.trans h.os, k.tape.trans h.tape, k.output.trans h.output, Nat.le_trans h.size k.size, fun i hi => (k.block i (by omega) (by omega)).trans (h.block i hi)⟩
theorem itemsL_kids {l : List S25} {x : S25} (h : x ∈ l) : x.f3.length ≤ itemsL l := by
 have h1 := itemsL_mem h
 have h2 := itemsL_length x.f3
 rw [itemsN_eq] at h1
 omega
section
variable {w : World} {base g : Nat} {ts : List ByteArray} {v : S25}
theorem symT_kids (h : itemsL (symA ts v) ≤ 4294967296) : ∀ x ∈ trimL (symA ts v), x.f3.length ≤ 4294967296 := fun x hx => by
 have := itemsL_kids hx
 have := itemsL_trim (symA ts v)
 omega
theorem sym42_all (h : itemsL (symA ts v) ≤ 4294967296) (hf : FS w base g (trimL (symA ts v)) false) : Calls Try.prog 42 #[.pointer (some ⟨g, 0, none⟩), .int .i64 0] w (StrsPost ts base g (trimL (symA ts v)) false w) := by
 have := symbols42_any hf (symT_kids h) 0
 rw [tell_some (symA_at0 ts v), symP_M, spoil_some (symA_at0 ts v), symP_M, symL_M] at this
 exact this
theorem sym42_far (h : itemsL (symA ts v) ≤ 4294967296) (hf : FS w base g (trimL (symA ts v)) false) (i : Int) (hi : i = -1 ∨ (ts.length : Int) + 2 ≤ i) : Calls Try.prog 42 #[.pointer (some ⟨g, 0, none⟩), .int .i64 i] w (StrsPost [] base g (trimL (symA ts v)) false w) := by
 have := symbols42_any hf (symT_kids h) i
 have e : atF (trimL (symA ts v)) i = none := by
  rcases hi with rfl | hi
  ·exact symA_low ts v
  ·exact symA_far ts v i hi
 rw [tell_none e, spoil_none e] at this
 exact this
theorem sym42_one (h : itemsL (symA ts v) ≤ 4294967296) (hf : FS w base g (trimL (symA ts v)) false) (i : Int) (k : Nat) (hk : k < ts.length) (hi : i = 1 + (k : Int)) : Calls Try.prog 42 #[.pointer (some ⟨g, 0, none⟩), .int .i64 i] w (StrsPost [rdOf ByteArray.empty ts (k : Int)] base g (trimL (symA ts v)) false w) := by
 subst hi
 have := symbols42_any hf (symT_kids h) (1 + (k : Int))
 rw [tell_some (symA_at ts v k hk), symP_V, spoil_some (symA_at ts v k hk), symP_V, symL_V] at this
 have e : rdOf ByteArray.empty ts (k : Int) = ts[k] := by
  unfold rdOf
  rw [List.getD_eq_getElem?_getD, show (k : Int).toNat = k by omega, List.getElem?_eq_getElem hk]
  rfl
 rw [e]
 exact this
theorem sym42_last (h : itemsL (symA ts v) ≤ 4294967296) (hf : FS w base g (trimL (symA ts v)) false) (i : Int) (hi : i = (ts.length : Int) + 1) : Calls Try.prog 42 #[.pointer (some ⟨g, 0, none⟩), .int .i64 i] w fun e w' => ∃ (A' : Option Addr) (n c' : Nat), e = .returned (.slice A' n c') ∧ FS w' base g (trimL (symA ts v)) (spoilP (trimL (symA ts v)) ((ts.length : Int) + 1) false symP) ∧ Bg g w w' := by
 subst hi
 refine (symbols42_any hf (symT_kids h) ((ts.length : Int) + 1)).mono ?_
 rintro e w' ⟨A', c', rfl, _, hfs, hb⟩
 exact ⟨A', _, c', rfl, hfs, hb⟩
end
theorem sym_doneT {ts : List ByteArray} {v : S25} {d : Int} (h : rightB (putV 1 (symA ts v)) = true) (hg : goodS v = true) (n : Int) (hn : n = (ts.length : Int) + 2) (hd : d = doneN (trimL (symA ts v)) (spoilP (trimL (symA ts v)) ((ts.length : Int) + 1) false symP) n) : d = 0 := by
 have := sym_done ts v h
 rw [hg] at this
 subst hd hn
 exact beq_iff_eq.1 this
theorem sym_doneF {ts : List ByteArray} {v : S25} {d : Int} (h : rightB (putV 1 (symA ts v)) = true) (hg : goodS v = false) (n : Int) (hn : n = (ts.length : Int) + 2) (hd : d = doneN (trimL (symA ts v)) (spoilP (trimL (symA ts v)) ((ts.length : Int) + 1) false symP) n) : d = 6 := by
 have := sym_done ts v h
 rw [hg] at this
 subst hn
 rw [← hd] at this
 have h2 : d ≠ 0 := beq_eq_false_iff_ne.1 this
 unfold doneN at hd
 split at hd
 ·exact hd
 ·exact absurd hd h2
def SyS (w : World) (x : S25) (A : Option Addr) (c : Nat) (base g : Nat) (l : List S25) (sp : Bool) (wa : World) : Prop :=
 Below w.heap.size w wa ∧ FS wa base g l sp ∧ Blk wa w.heap.size #[.int .u8 x.f0, .int .u64 x.f1, .string x.f2, .slice A x.f3.length c] 25 ∧ w.heap.size < g
theorem SyS.bg {w : World} {x : S25} {A : Option Addr} {c base g : Nat} {l : List S25} {sp sp' : Bool} {wa wb : World} (h : SyS w x A c base g l sp wa) (hf : FS wb base g l sp') (hb : Bg g wa wb) : SyS w x A c base g l sp' wb := by
 obtain ⟨h1, h2, h3, h4⟩ := h
 exact ⟨below_bg h1 hb (by omega) h1.size, hf, h3.bg hb (by omega), h4⟩
theorem strR_bg {g base : Nat} {w w' : World} {ok : Nat → Prop} {v : Value} {l : List ByteArray} (h : Kd.string.R 9 w base ok v l) (hb : Bg g w w') (hg : ∀ k, ok k → k ≠ g) : Kd.string.R 9 w' base ok v l := Kd.R_step h fun k ho hk => hb.block k hk (hg k ho)
end Go.Proofs.Ytdilbnggedidnaa.PVal
