import Derived.Test.YtdilbnggedidnaaFHF13
namespace Go.Proofs.Ytdilbnggedidnaa.PVal
open Go.RowKit Go.Shelf Go.Proofs.YtdilbnggedidnaaW.PrintWords Go.Proofs.YtdilbnggedidnaaW.PrintLast
set_option linter.unusedVariables false
set_option linter.unusedSimpArgs false
theorem FS.out2 {w w' : World} {base g p q t : Nat} {l : List S25} {sp : Bool} {cs cs' : Array Value} (h : FS w base g l sp) (hp : Blk w p cs t) (hq : Blk w q cs' t) (ht : ∀ q, q ∈ 25 :: k25.E → q ≠ t) (hk : ∀ k, k ≠ p → k ≠ q → w'.heap[k]? = w.heap[k]?) (hpg : g ≠ p) (hqg : g ≠ q) : FS w' base g l sp := by
 obtain ⟨A, c, h1, h2⟩ := h
 exact ⟨A, c, (hk g hpg hqg).trans h1, Kd.R_mono (Kd.R_move (Kd.R_types (Kd.R_types h2 hp ht) hq ht) (fun k ho => hk k ho.1.2 ho.2)) (fun k ho => ho.1.1)⟩
theorem Bg.far {g : Nat} {w w' : World} (h : Bg g w w') {p : Addr} (hp : w.heap.size ≤ p.block) (v : Value) : Bg g w (w'.setCell p v) := ⟨h.os, h.tape, h.output, by simpa [World.setCell] using h.size, fun k hk hg => (Below.heap_setCell _ _ _ k (by omega)).trans (h.block k hk hg)⟩
set_option maxRecDepth 100000 in
set_option maxHeartbeats 2000000 in
theorem does47_one {w : World} {base g : Nat} {l : List S25} {sp : Bool} (hf : FS w base g l sp) (at_ kind : Int) (must : Bool) (none_ : Int) (K : Option Addr) (nk ck : Nat) :
  Calls Try.prog 47 #[.pointer (some ⟨g, 0, none⟩), .agg #[.int .i64 1, .int .i64 at_, .int .u8 kind, .bool must, .int .u64 none_, .slice K nk ck]] w fun e w' => (∃ v, e = .returned v) ∧ FS w' base g l (sp || spoilP l at_ must (kindP [kind])) ∧ Bg g w w' := by
 have HF := Aside0.mk hf
 have hg := hf.lt
 clear hf
 go_enter Try.func47, Try.ntmps47
 go_wp2_with fail
 have hb1 := below_alloc (Below.refl w.heap.size w) (.cells #[.int .i64 1, .int .i64 at_, .int .u8 kind, .bool must, .int .u64 none_, .slice K nk ck] 65)
 have hb2 := below_alloc hb1 (.cells #[.int .u64 0, .string ⟨#[]⟩, .int .u8 0, .int .u64 0, .string ⟨#[]⟩, .slice none 0 0, .slice none 0 0, .bool false, .int .i64 0] 61)
 have hb3 := below_alloc hb2 (.cells #[.int .u64 0, .string ⟨#[]⟩, .int .u8 0, .int .u64 0, .string ⟨#[]⟩, .slice none 0 0, .slice none 0 0, .bool false, .int .i64 0] 61)
 have bR := (Blk.new (w.alloc (.cells #[.int .i64 1, .int .i64 at_, .int .u8 kind, .bool must, .int .u64 none_, .slice K nk ck] 65)) #[.int .u64 0, .string ⟨#[]⟩, .int .u8 0, .int .u64 0, .string ⟨#[]⟩, .slice none 0 0, .slice none 0 0, .bool false, .int .i64 0] 61).alloc (.cells #[.int .u64 0, .string ⟨#[]⟩, .int .u8 0, .int .u64 0, .string ⟨#[]⟩, .slice none 0 0, .slice none 0 0, .bool false, .int .i64 0] 61)
 have bD := Blk.new ((w.alloc (.cells #[.int .i64 1, .int .i64 at_, .int .u8 kind, .bool must, .int .u64 none_, .slice K nk ck] 65)).alloc (.cells #[.int .u64 0, .string ⟨#[]⟩, .int .u8 0, .int .u64 0, .string ⟨#[]⟩, .slice none 0 0, .slice none 0 0, .bool false, .int .i64 0] 61)) #[.int .u64 0, .string ⟨#[]⟩, .int .u8 0, .int .u64 0, .string ⟨#[]⟩, .slice none 0 0, .slice none 0 0, .bool false, .int .i64 0] 61
 simp only [World.size_alloc] at bR bD
 refine (number66_any (HF.out.below hb3) at_ kind must none_).mono ?_
 rintro e w3 ⟨rfl, hfs, hbg⟩
 have HFT := Aside0.mk hfs
 have HBT := Aside0.mk ((Bg.of hb3).trans hbg)
 have bR3 := bR.bg hbg (by omega)
 have bD3 := bD.bg hbg (by omega)
 have BR := Aside0.mk bR3
 have BD := Aside0.mk bD3
 have d0 : w3.cell? ⟨w.heap.size + 1 + 1, 0, none⟩ = some (.int .u64 0) := (blk_cell bD3 0).trans rfl
 have d1 : w3.cell? ⟨w.heap.size + 1 + 1, 1, none⟩ = some (.string ⟨#[]⟩) := (blk_cell bD3 1).trans rfl
 have d2 : w3.cell? ⟨w.heap.size + 1 + 1, 2, none⟩ = some (.int .u8 0) := (blk_cell bD3 2).trans rfl
 have d3 : w3.cell? ⟨w.heap.size + 1 + 1, 3, none⟩ = some (.int .u64 0) := (blk_cell bD3 3).trans rfl
 have d4 : w3.cell? ⟨w.heap.size + 1 + 1, 4, none⟩ = some (.string ⟨#[]⟩) := (blk_cell bD3 4).trans rfl
 have d5 : w3.cell? ⟨w.heap.size + 1 + 1, 5, none⟩ = some (.slice none 0 0) := (blk_cell bD3 5).trans rfl
 have d6 : w3.cell? ⟨w.heap.size + 1 + 1, 6, none⟩ = some (.slice none 0 0) := (blk_cell bD3 6).trans rfl
 have d7 : w3.cell? ⟨w.heap.size + 1 + 1, 7, none⟩ = some (.bool false) := (blk_cell bD3 7).trans rfl
 have d8 : w3.cell? ⟨w.heap.size + 1 + 1, 8, none⟩ = some (.int .i64 0) := (blk_cell bD3 8).trans rfl
 have r0 : w3.cell? ⟨w.heap.size + 1, 0, none⟩ = some (.int .u64 0) := (blk_cell bR3 0).trans rfl
 have r1 : w3.cell? ⟨w.heap.size + 1, 1, none⟩ = some (.string ⟨#[]⟩) := (blk_cell bR3 1).trans rfl
 have r2 : w3.cell? ⟨w.heap.size + 1, 2, none⟩ = some (.int .u8 0) := (blk_cell bR3 2).trans rfl
 have r3 : w3.cell? ⟨w.heap.size + 1, 3, none⟩ = some (.int .u64 0) := (blk_cell bR3 3).trans rfl
 have r4 : w3.cell? ⟨w.heap.size + 1, 4, none⟩ = some (.string ⟨#[]⟩) := (blk_cell bR3 4).trans rfl
 have r5 : w3.cell? ⟨w.heap.size + 1, 5, none⟩ = some (.slice none 0 0) := (blk_cell bR3 5).trans rfl
 have r6 : w3.cell? ⟨w.heap.size + 1, 6, none⟩ = some (.slice none 0 0) := (blk_cell bR3 6).trans rfl
 have r7 : w3.cell? ⟨w.heap.size + 1, 7, none⟩ = some (.bool false) := (blk_cell bR3 7).trans rfl
 have r8 : w3.cell? ⟨w.heap.size + 1, 8, none⟩ = some (.int .i64 0) := (blk_cell bR3 8).trans rfl
 have f1 := bR3.fz
 have f2 := bD3.fz
 clear hb1 hb2 hb3 bR bD hfs hbg bR3 bD3
 go_wp2_with fail
 refine bodyPost_ret (results_cell_row rfl _ _ (w.heap.size + 1) 61 #[.int .u64 (tellP l at_ (kindP [kind]) (fun x => x.f1) none_), .string ⟨#[]⟩, .int .u8 0, .int .u64 0, .string ⟨#[]⟩, .slice none 0 0, .slice none 0 0, .bool false, .int .i64 0] (0, 0) _ rfl (by
  refine blk_put (cs := #[.int .u64 (tellP l at_ (kindP [kind]) (fun x => x.f1) none_), .string ⟨#[]⟩, .int .u8 0, .int .u64 0, .string ⟨#[]⟩, .slice none 0 0, .slice none 0 0, .bool false, .int .i64 0]) ?_ 8 _ rfl
  refine blk_put (cs := #[.int .u64 (tellP l at_ (kindP [kind]) (fun x => x.f1) none_), .string ⟨#[]⟩, .int .u8 0, .int .u64 0, .string ⟨#[]⟩, .slice none 0 0, .slice none 0 0, .bool false, .int .i64 0]) ?_ 7 _ rfl
  refine blk_put (cs := #[.int .u64 (tellP l at_ (kindP [kind]) (fun x => x.f1) none_), .string ⟨#[]⟩, .int .u8 0, .int .u64 0, .string ⟨#[]⟩, .slice none 0 0, .slice none 0 0, .bool false, .int .i64 0]) ?_ 6 _ rfl
  refine blk_put (cs := #[.int .u64 (tellP l at_ (kindP [kind]) (fun x => x.f1) none_), .string ⟨#[]⟩, .int .u8 0, .int .u64 0, .string ⟨#[]⟩, .slice none 0 0, .slice none 0 0, .bool false, .int .i64 0]) ?_ 5 _ rfl
  refine blk_put (cs := #[.int .u64 (tellP l at_ (kindP [kind]) (fun x => x.f1) none_), .string ⟨#[]⟩, .int .u8 0, .int .u64 0, .string ⟨#[]⟩, .slice none 0 0, .slice none 0 0, .bool false, .int .i64 0]) ?_ 4 _ rfl
  refine blk_put (cs := #[.int .u64 (tellP l at_ (kindP [kind]) (fun x => x.f1) none_), .string ⟨#[]⟩, .int .u8 0, .int .u64 0, .string ⟨#[]⟩, .slice none 0 0, .slice none 0 0, .bool false, .int .i64 0]) ?_ 3 _ rfl
  refine blk_put (cs := #[.int .u64 (tellP l at_ (kindP [kind]) (fun x => x.f1) none_), .string ⟨#[]⟩, .int .u8 0, .int .u64 0, .string ⟨#[]⟩, .slice none 0 0, .slice none 0 0, .bool false, .int .i64 0]) ?_ 2 _ rfl
  refine blk_put (cs := #[.int .u64 (tellP l at_ (kindP [kind]) (fun x => x.f1) none_), .string ⟨#[]⟩, .int .u8 0, .int .u64 0, .string ⟨#[]⟩, .slice none 0 0, .slice none 0 0, .bool false, .int .i64 0]) ?_ 1 _ rfl
  refine blk_put (cs := #[.int .u64 0, .string ⟨#[]⟩, .int .u8 0, .int .u64 0, .string ⟨#[]⟩, .slice none 0 0, .slice none 0 0, .bool false, .int .i64 0]) ?_ 0 _ rfl
  exact blk_far BR.out (by simp) _) Try.underlying61 rfl (by kernel_rfl)) rfl ?_
 refine ⟨⟨_, rfl⟩, HFT.out.out2 BR.out BD.out (by decide) (fun k h1 h2 => ?_) (by omega) (by omega), ?_⟩
 ·iterate 9 refine (Below.heap_setCell _ _ _ k h1).trans ?_
  exact Below.heap_setCell _ _ _ k h2
 ·exact ((((((((((HBT.out.far (by first | (simp; done) | (simp; omega)) _).far (by first | (simp; done) | (simp; omega)) _).far (by first | (simp; done) | (simp; omega)) _).far (by first | (simp; done) | (simp; omega)) _).far (by first | (simp; done) | (simp; omega)) _).far (by first | (simp; done) | (simp; omega)) _).far (by first | (simp; done) | (simp; omega)) _).far (by first | (simp; done) | (simp; omega)) _).far (by first | (simp; done) | (simp; omega)) _).far (by first | (simp; done) | (simp; omega)) _)
set_option maxRecDepth 100000 in
set_option maxHeartbeats 2000000 in
theorem does47_three {w : World} {base g : Nat} {l : List S25} {sp : Bool} (hf : FS w base g l sp) (at_ kind : Int) (must : Bool) (none_ : Int) (K : Option Addr) (nk ck : Nat) :
  Calls Try.prog 47 #[.pointer (some ⟨g, 0, none⟩), .agg #[.int .i64 3, .int .i64 at_, .int .u8 kind, .bool must, .int .u64 none_, .slice K nk ck]] w fun e w' => (∃ v, e = .returned v) ∧ FS w' base g l (sp || spoilP l at_ must (kindP [kind])) ∧ Bg g w w' := by
 have HF := Aside0.mk hf
 have hg := hf.lt
 clear hf
 go_enter Try.func47, Try.ntmps47
 go_wp2_with fail
 have hb1 := below_alloc (Below.refl w.heap.size w) (.cells #[.int .i64 3, .int .i64 at_, .int .u8 kind, .bool must, .int .u64 none_, .slice K nk ck] 65)
 have hb2 := below_alloc hb1 (.cells #[.int .u64 0, .string ⟨#[]⟩, .int .u8 0, .int .u64 0, .string ⟨#[]⟩, .slice none 0 0, .slice none 0 0, .bool false, .int .i64 0] 61)
 have hb3 := below_alloc hb2 (.cells #[.int .u64 0, .string ⟨#[]⟩, .int .u8 0, .int .u64 0, .string ⟨#[]⟩, .slice none 0 0, .slice none 0 0, .bool false, .int .i64 0] 61)
 have bR := (Blk.new (w.alloc (.cells #[.int .i64 3, .int .i64 at_, .int .u8 kind, .bool must, .int .u64 none_, .slice K nk ck] 65)) #[.int .u64 0, .string ⟨#[]⟩, .int .u8 0, .int .u64 0, .string ⟨#[]⟩, .slice none 0 0, .slice none 0 0, .bool false, .int .i64 0] 61).alloc (.cells #[.int .u64 0, .string ⟨#[]⟩, .int .u8 0, .int .u64 0, .string ⟨#[]⟩, .slice none 0 0, .slice none 0 0, .bool false, .int .i64 0] 61)
 have bD := Blk.new ((w.alloc (.cells #[.int .i64 3, .int .i64 at_, .int .u8 kind, .bool must, .int .u64 none_, .slice K nk ck] 65)).alloc (.cells #[.int .u64 0, .string ⟨#[]⟩, .int .u8 0, .int .u64 0, .string ⟨#[]⟩, .slice none 0 0, .slice none 0 0, .bool false, .int .i64 0] 61)) #[.int .u64 0, .string ⟨#[]⟩, .int .u8 0, .int .u64 0, .string ⟨#[]⟩, .slice none 0 0, .slice none 0 0, .bool false, .int .i64 0] 61
 simp only [World.size_alloc] at bR bD
 refine (text76_any (HF.out.below hb3) at_ kind must).mono ?_
 rintro e w3 ⟨rfl, hfs, hbg⟩
 have HFT := Aside0.mk hfs
 have HBT := Aside0.mk ((Bg.of hb3).trans hbg)
 have bR3 := bR.bg hbg (by omega)
 have bD3 := bD.bg hbg (by omega)
 have BR := Aside0.mk bR3
 have BD := Aside0.mk bD3
 have d0 : w3.cell? ⟨w.heap.size + 1 + 1, 0, none⟩ = some (.int .u64 0) := (blk_cell bD3 0).trans rfl
 have d1 : w3.cell? ⟨w.heap.size + 1 + 1, 1, none⟩ = some (.string ⟨#[]⟩) := (blk_cell bD3 1).trans rfl
 have d2 : w3.cell? ⟨w.heap.size + 1 + 1, 2, none⟩ = some (.int .u8 0) := (blk_cell bD3 2).trans rfl
 have d3 : w3.cell? ⟨w.heap.size + 1 + 1, 3, none⟩ = some (.int .u64 0) := (blk_cell bD3 3).trans rfl
 have d4 : w3.cell? ⟨w.heap.size + 1 + 1, 4, none⟩ = some (.string ⟨#[]⟩) := (blk_cell bD3 4).trans rfl
 have d5 : w3.cell? ⟨w.heap.size + 1 + 1, 5, none⟩ = some (.slice none 0 0) := (blk_cell bD3 5).trans rfl
 have d6 : w3.cell? ⟨w.heap.size + 1 + 1, 6, none⟩ = some (.slice none 0 0) := (blk_cell bD3 6).trans rfl
 have d7 : w3.cell? ⟨w.heap.size + 1 + 1, 7, none⟩ = some (.bool false) := (blk_cell bD3 7).trans rfl
 have d8 : w3.cell? ⟨w.heap.size + 1 + 1, 8, none⟩ = some (.int .i64 0) := (blk_cell bD3 8).trans rfl
 have r0 : w3.cell? ⟨w.heap.size + 1, 0, none⟩ = some (.int .u64 0) := (blk_cell bR3 0).trans rfl
 have r1 : w3.cell? ⟨w.heap.size + 1, 1, none⟩ = some (.string ⟨#[]⟩) := (blk_cell bR3 1).trans rfl
 have r2 : w3.cell? ⟨w.heap.size + 1, 2, none⟩ = some (.int .u8 0) := (blk_cell bR3 2).trans rfl
 have r3 : w3.cell? ⟨w.heap.size + 1, 3, none⟩ = some (.int .u64 0) := (blk_cell bR3 3).trans rfl
 have r4 : w3.cell? ⟨w.heap.size + 1, 4, none⟩ = some (.string ⟨#[]⟩) := (blk_cell bR3 4).trans rfl
 have r5 : w3.cell? ⟨w.heap.size + 1, 5, none⟩ = some (.slice none 0 0) := (blk_cell bR3 5).trans rfl
 have r6 : w3.cell? ⟨w.heap.size + 1, 6, none⟩ = some (.slice none 0 0) := (blk_cell bR3 6).trans rfl
 have r7 : w3.cell? ⟨w.heap.size + 1, 7, none⟩ = some (.bool false) := (blk_cell bR3 7).trans rfl
 have r8 : w3.cell? ⟨w.heap.size + 1, 8, none⟩ = some (.int .i64 0) := (blk_cell bR3 8).trans rfl
 have f1 := bR3.fz
 have f2 := bD3.fz
 clear hb1 hb2 hb3 bR bD hfs hbg bR3 bD3
 go_wp2_with fail
 refine bodyPost_ret (results_cell_row rfl _ _ (w.heap.size + 1) 61 #[.int .u64 0, .string (tellP l at_ (kindP [kind]) (fun x => x.f2) ⟨#[]⟩), .int .u8 0, .int .u64 0, .string ⟨#[]⟩, .slice none 0 0, .slice none 0 0, .bool false, .int .i64 0] (0, 0) _ rfl (by
  refine blk_put (cs := #[.int .u64 0, .string (tellP l at_ (kindP [kind]) (fun x => x.f2) ⟨#[]⟩), .int .u8 0, .int .u64 0, .string ⟨#[]⟩, .slice none 0 0, .slice none 0 0, .bool false, .int .i64 0]) ?_ 8 _ rfl
  refine blk_put (cs := #[.int .u64 0, .string (tellP l at_ (kindP [kind]) (fun x => x.f2) ⟨#[]⟩), .int .u8 0, .int .u64 0, .string ⟨#[]⟩, .slice none 0 0, .slice none 0 0, .bool false, .int .i64 0]) ?_ 7 _ rfl
  refine blk_put (cs := #[.int .u64 0, .string (tellP l at_ (kindP [kind]) (fun x => x.f2) ⟨#[]⟩), .int .u8 0, .int .u64 0, .string ⟨#[]⟩, .slice none 0 0, .slice none 0 0, .bool false, .int .i64 0]) ?_ 6 _ rfl
  refine blk_put (cs := #[.int .u64 0, .string (tellP l at_ (kindP [kind]) (fun x => x.f2) ⟨#[]⟩), .int .u8 0, .int .u64 0, .string ⟨#[]⟩, .slice none 0 0, .slice none 0 0, .bool false, .int .i64 0]) ?_ 5 _ rfl
  refine blk_put (cs := #[.int .u64 0, .string (tellP l at_ (kindP [kind]) (fun x => x.f2) ⟨#[]⟩), .int .u8 0, .int .u64 0, .string ⟨#[]⟩, .slice none 0 0, .slice none 0 0, .bool false, .int .i64 0]) ?_ 4 _ rfl
  refine blk_put (cs := #[.int .u64 0, .string (tellP l at_ (kindP [kind]) (fun x => x.f2) ⟨#[]⟩), .int .u8 0, .int .u64 0, .string ⟨#[]⟩, .slice none 0 0, .slice none 0 0, .bool false, .int .i64 0]) ?_ 3 _ rfl
  refine blk_put (cs := #[.int .u64 0, .string (tellP l at_ (kindP [kind]) (fun x => x.f2) ⟨#[]⟩), .int .u8 0, .int .u64 0, .string ⟨#[]⟩, .slice none 0 0, .slice none 0 0, .bool false, .int .i64 0]) ?_ 2 _ rfl
  refine blk_put (cs := #[.int .u64 0, .string ⟨#[]⟩, .int .u8 0, .int .u64 0, .string ⟨#[]⟩, .slice none 0 0, .slice none 0 0, .bool false, .int .i64 0]) ?_ 1 _ rfl
  refine blk_put (cs := #[.int .u64 0, .string ⟨#[]⟩, .int .u8 0, .int .u64 0, .string ⟨#[]⟩, .slice none 0 0, .slice none 0 0, .bool false, .int .i64 0]) ?_ 0 _ rfl
  exact blk_far BR.out (by simp) _) Try.underlying61 rfl (by kernel_rfl)) rfl ?_
 refine ⟨⟨_, rfl⟩, HFT.out.out2 BR.out BD.out (by decide) (fun k h1 h2 => ?_) (by omega) (by omega), ?_⟩
 ·iterate 9 refine (Below.heap_setCell _ _ _ k h1).trans ?_
  exact Below.heap_setCell _ _ _ k h2
 ·exact ((((((((((HBT.out.far (by first | (simp; done) | (simp; omega)) _).far (by first | (simp; done) | (simp; omega)) _).far (by first | (simp; done) | (simp; omega)) _).far (by first | (simp; done) | (simp; omega)) _).far (by first | (simp; done) | (simp; omega)) _).far (by first | (simp; done) | (simp; omega)) _).far (by first | (simp; done) | (simp; omega)) _).far (by first | (simp; done) | (simp; omega)) _).far (by first | (simp; done) | (simp; omega)) _).far (by first | (simp; done) | (simp; omega)) _)
set_option maxRecDepth 100000 in
set_option maxHeartbeats 2000000 in
theorem does47_two {w : World} {base g : Nat} {l : List S25} {sp : Bool} (hf : FS w base g l sp) (at_ kind : Int) (must : Bool) (none_ : Int) (K : Option Addr) (nk ck : Nat) :
  Calls Try.prog 47 #[.pointer (some ⟨g, 0, none⟩), .agg #[.int .i64 2, .int .i64 at_, .int .u8 kind, .bool must, .int .u64 none_, .slice K nk ck]] w fun e w' => (∃ v, e = .returned v) ∧ FS w' base g l (sp || spoilP l at_ must (kindP [2])) ∧ Bg g w w' := by
 have HF := Aside0.mk hf
 have hg := hf.lt
 clear hf
 go_enter Try.func47, Try.ntmps47
 go_wp2_with fail
 have hb1 := below_alloc (Below.refl w.heap.size w) (.cells #[.int .i64 2, .int .i64 at_, .int .u8 kind, .bool must, .int .u64 none_, .slice K nk ck] 65)
 have hb2 := below_alloc hb1 (.cells #[.int .u64 0, .string ⟨#[]⟩, .int .u8 0, .int .u64 0, .string ⟨#[]⟩, .slice none 0 0, .slice none 0 0, .bool false, .int .i64 0] 61)
 have hb3 := below_alloc hb2 (.cells #[.int .u64 0, .string ⟨#[]⟩, .int .u8 0, .int .u64 0, .string ⟨#[]⟩, .slice none 0 0, .slice none 0 0, .bool false, .int .i64 0] 61)
 have bR := (Blk.new (w.alloc (.cells #[.int .i64 2, .int .i64 at_, .int .u8 kind, .bool must, .int .u64 none_, .slice K nk ck] 65)) #[.int .u64 0, .string ⟨#[]⟩, .int .u8 0, .int .u64 0, .string ⟨#[]⟩, .slice none 0 0, .slice none 0 0, .bool false, .int .i64 0] 61).alloc (.cells #[.int .u64 0, .string ⟨#[]⟩, .int .u8 0, .int .u64 0, .string ⟨#[]⟩, .slice none 0 0, .slice none 0 0, .bool false, .int .i64 0] 61)
 have bD := Blk.new ((w.alloc (.cells #[.int .i64 2, .int .i64 at_, .int .u8 kind, .bool must, .int .u64 none_, .slice K nk ck] 65)).alloc (.cells #[.int .u64 0, .string ⟨#[]⟩, .int .u8 0, .int .u64 0, .string ⟨#[]⟩, .slice none 0 0, .slice none 0 0, .bool false, .int .i64 0] 61)) #[.int .u64 0, .string ⟨#[]⟩, .int .u8 0, .int .u64 0, .string ⟨#[]⟩, .slice none 0 0, .slice none 0 0, .bool false, .int .i64 0] 61
 simp only [World.size_alloc] at bR bD
 refine (bool75_any (HF.out.below hb3) at_ must).mono ?_
 rintro e w3 ⟨⟨b, rfl⟩, hfs, hbg⟩
 have HFT := Aside0.mk hfs
 have HBT := Aside0.mk ((Bg.of hb3).trans hbg)
 have bR3 := bR.bg hbg (by omega)
 have bD3 := bD.bg hbg (by omega)
 have BR := Aside0.mk bR3
 have BD := Aside0.mk bD3
 have d0 : w3.cell? ⟨w.heap.size + 1 + 1, 0, none⟩ = some (.int .u64 0) := (blk_cell bD3 0).trans rfl
 have d1 : w3.cell? ⟨w.heap.size + 1 + 1, 1, none⟩ = some (.string ⟨#[]⟩) := (blk_cell bD3 1).trans rfl
 have d2 : w3.cell? ⟨w.heap.size + 1 + 1, 2, none⟩ = some (.int .u8 0) := (blk_cell bD3 2).trans rfl
 have d3 : w3.cell? ⟨w.heap.size + 1 + 1, 3, none⟩ = some (.int .u64 0) := (blk_cell bD3 3).trans rfl
 have d4 : w3.cell? ⟨w.heap.size + 1 + 1, 4, none⟩ = some (.string ⟨#[]⟩) := (blk_cell bD3 4).trans rfl
 have d5 : w3.cell? ⟨w.heap.size + 1 + 1, 5, none⟩ = some (.slice none 0 0) := (blk_cell bD3 5).trans rfl
 have d6 : w3.cell? ⟨w.heap.size + 1 + 1, 6, none⟩ = some (.slice none 0 0) := (blk_cell bD3 6).trans rfl
 have d7 : w3.cell? ⟨w.heap.size + 1 + 1, 7, none⟩ = some (.bool false) := (blk_cell bD3 7).trans rfl
 have d8 : w3.cell? ⟨w.heap.size + 1 + 1, 8, none⟩ = some (.int .i64 0) := (blk_cell bD3 8).trans rfl
 have r0 : w3.cell? ⟨w.heap.size + 1, 0, none⟩ = some (.int .u64 0) := (blk_cell bR3 0).trans rfl
 have r1 : w3.cell? ⟨w.heap.size + 1, 1, none⟩ = some (.string ⟨#[]⟩) := (blk_cell bR3 1).trans rfl
 have r2 : w3.cell? ⟨w.heap.size + 1, 2, none⟩ = some (.int .u8 0) := (blk_cell bR3 2).trans rfl
 have r3 : w3.cell? ⟨w.heap.size + 1, 3, none⟩ = some (.int .u64 0) := (blk_cell bR3 3).trans rfl
 have r4 : w3.cell? ⟨w.heap.size + 1, 4, none⟩ = some (.string ⟨#[]⟩) := (blk_cell bR3 4).trans rfl
 have r5 : w3.cell? ⟨w.heap.size + 1, 5, none⟩ = some (.slice none 0 0) := (blk_cell bR3 5).trans rfl
 have r6 : w3.cell? ⟨w.heap.size + 1, 6, none⟩ = some (.slice none 0 0) := (blk_cell bR3 6).trans rfl
 have r7 : w3.cell? ⟨w.heap.size + 1, 7, none⟩ = some (.bool false) := (blk_cell bR3 7).trans rfl
 have r8 : w3.cell? ⟨w.heap.size + 1, 8, none⟩ = some (.int .i64 0) := (blk_cell bR3 8).trans rfl
 have f1 := bR3.fz
 have f2 := bD3.fz
 clear hb1 hb2 hb3 bR bD hfs hbg bR3 bD3
 go_wp2_with fail
 refine bodyPost_ret (results_cell_row rfl _ _ (w.heap.size + 1) 61 #[.int .u64 0, .string ⟨#[]⟩, .int .u8 0, .int .u64 0, .string ⟨#[]⟩, .slice none 0 0, .slice none 0 0, .bool b, .int .i64 0] (0, 0) _ rfl (by
  refine blk_put (cs := #[.int .u64 0, .string ⟨#[]⟩, .int .u8 0, .int .u64 0, .string ⟨#[]⟩, .slice none 0 0, .slice none 0 0, .bool b, .int .i64 0]) ?_ 8 _ rfl
  refine blk_put (cs := #[.int .u64 0, .string ⟨#[]⟩, .int .u8 0, .int .u64 0, .string ⟨#[]⟩, .slice none 0 0, .slice none 0 0, .bool false, .int .i64 0]) ?_ 7 _ rfl
  refine blk_put (cs := #[.int .u64 0, .string ⟨#[]⟩, .int .u8 0, .int .u64 0, .string ⟨#[]⟩, .slice none 0 0, .slice none 0 0, .bool false, .int .i64 0]) ?_ 6 _ rfl
  refine blk_put (cs := #[.int .u64 0, .string ⟨#[]⟩, .int .u8 0, .int .u64 0, .string ⟨#[]⟩, .slice none 0 0, .slice none 0 0, .bool false, .int .i64 0]) ?_ 5 _ rfl
  refine blk_put (cs := #[.int .u64 0, .string ⟨#[]⟩, .int .u8 0, .int .u64 0, .string ⟨#[]⟩, .slice none 0 0, .slice none 0 0, .bool false, .int .i64 0]) ?_ 4 _ rfl
  refine blk_put (cs := #[.int .u64 0, .string ⟨#[]⟩, .int .u8 0, .int .u64 0, .string ⟨#[]⟩, .slice none 0 0, .slice none 0 0, .bool false, .int .i64 0]) ?_ 3 _ rfl
  refine blk_put (cs := #[.int .u64 0, .string ⟨#[]⟩, .int .u8 0, .int .u64 0, .string ⟨#[]⟩, .slice none 0 0, .slice none 0 0, .bool false, .int .i64 0]) ?_ 2 _ rfl
  refine blk_put (cs := #[.int .u64 0, .string ⟨#[]⟩, .int .u8 0, .int .u64 0, .string ⟨#[]⟩, .slice none 0 0, .slice none 0 0, .bool false, .int .i64 0]) ?_ 1 _ rfl
  refine blk_put (cs := #[.int .u64 0, .string ⟨#[]⟩, .int .u8 0, .int .u64 0, .string ⟨#[]⟩, .slice none 0 0, .slice none 0 0, .bool false, .int .i64 0]) ?_ 0 _ rfl
  exact blk_far BR.out (by simp) _) Try.underlying61 rfl (by kernel_rfl)) rfl ?_
 refine ⟨⟨_, rfl⟩, HFT.out.out2 BR.out BD.out (by decide) (fun k h1 h2 => ?_) (by omega) (by omega), ?_⟩
 ·iterate 9 refine (Below.heap_setCell _ _ _ k h1).trans ?_
  exact Below.heap_setCell _ _ _ k h2
 ·exact ((((((((((HBT.out.far (by first | (simp; done) | (simp; omega)) _).far (by first | (simp; done) | (simp; omega)) _).far (by first | (simp; done) | (simp; omega)) _).far (by first | (simp; done) | (simp; omega)) _).far (by first | (simp; done) | (simp; omega)) _).far (by first | (simp; done) | (simp; omega)) _).far (by first | (simp; done) | (simp; omega)) _).far (by first | (simp; done) | (simp; omega)) _).far (by first | (simp; done) | (simp; omega)) _).far (by first | (simp; done) | (simp; omega)) _)
end Go.Proofs.Ytdilbnggedidnaa.PVal
