import Derived.Test.YtdilbnggedidnaaP4
set_option maxRecDepth 100000
set_option maxHeartbeats 8000000
namespace Go.Proofs.Ytdilbnggedidnaa.PVal
open Go.RowKit Go.Shelf Go.Proofs.YtdilbnggedidnaaW.PrintWords Go.Proofs.YtdilbnggedidnaaW.PrintLast
set_option linter.unusedVariables false
set_option linter.unusedSimpArgs false
theorem meant48_0 {w : World} {base g B : Nat} {l : List S25} {sp : Bool} (hf : RSB w base g B l sp) (hB : B ≤ w.heap.size) (hgB : g < B) (hk : ∀ x ∈ l, itemsN x ≤ 4294967296) (hmy : ∀ x ∈ l, mayB x = true) (at_ kind : Int) (must : Bool) (none_ : Int) (ks : List Int) (K : Option Addr) (ck : Nat) (hK : Kd.C (Kd.int .u8) w K ks.length ks) (hck : ks.length ≤ ck) :
  Calls Try.prog 48 #[.pointer (some ⟨g, 0, none⟩), .agg #[.int .i64 0, .int .i64 at_, .int .u8 kind, .bool must, .int .u64 none_, .slice K ks.length ck]] w (RToldPost (tellA l sp 0 at_ kind none_ ks) base g B l (spoilA l sp 0 at_ kind must ks) w) := by
 have hg := hf.lt
 have hb3 := below_alloc (below_alloc (below_alloc (Below.refl w.heap.size w) (.cells #[.int .i64 0, .int .i64 at_, .int .u8 kind, .bool must, .int .u64 none_, .slice K ks.length ck] 65)) (.cells #[.int .u64 0, .string ⟨#[]⟩, .int .u8 0, .int .u64 0, .string ⟨#[]⟩, .slice none 0 0, .slice none 0 0, .bool false, .int .i64 0] 61)) (.cells #[.int .u64 0, .string ⟨#[]⟩, .int .u8 0, .int .u64 0, .string ⟨#[]⟩, .slice none 0 0, .slice none 0 0, .bool false, .int .i64 0] 61)
 have bA := ((Blk.new w #[.int .i64 0, .int .i64 at_, .int .u8 kind, .bool must, .int .u64 none_, .slice K ks.length ck] 65).alloc (.cells #[.int .u64 0, .string ⟨#[]⟩, .int .u8 0, .int .u64 0, .string ⟨#[]⟩, .slice none 0 0, .slice none 0 0, .bool false, .int .i64 0] 61)).alloc (.cells #[.int .u64 0, .string ⟨#[]⟩, .int .u8 0, .int .u64 0, .string ⟨#[]⟩, .slice none 0 0, .slice none 0 0, .bool false, .int .i64 0] 61)
 have bR := (Blk.new (w.alloc (.cells #[.int .i64 0, .int .i64 at_, .int .u8 kind, .bool must, .int .u64 none_, .slice K ks.length ck] 65)) #[.int .u64 0, .string ⟨#[]⟩, .int .u8 0, .int .u64 0, .string ⟨#[]⟩, .slice none 0 0, .slice none 0 0, .bool false, .int .i64 0] 61).alloc (.cells #[.int .u64 0, .string ⟨#[]⟩, .int .u8 0, .int .u64 0, .string ⟨#[]⟩, .slice none 0 0, .slice none 0 0, .bool false, .int .i64 0] 61)
 have bD := Blk.new ((w.alloc (.cells #[.int .i64 0, .int .i64 at_, .int .u8 kind, .bool must, .int .u64 none_, .slice K ks.length ck] 65)).alloc (.cells #[.int .u64 0, .string ⟨#[]⟩, .int .u8 0, .int .u64 0, .string ⟨#[]⟩, .slice none 0 0, .slice none 0 0, .bool false, .int .i64 0] 61)) #[.int .u64 0, .string ⟨#[]⟩, .int .u8 0, .int .u64 0, .string ⟨#[]⟩, .slice none 0 0, .slice none 0 0, .bool false, .int .i64 0] 61
 simp only [World.size_alloc] at bR bD
 have HF1 := Aside0.mk (hf.below hb3)
 have HK1 := Aside0.mk (Kd.C_below hK hb3)
 have HKI := Aside0.mk hk
 have HMY := Aside0.mk hmy
 clear hf hK hk hmy
 go_enter Try.func48, Try.ntmps48
 go_upto_region 2 with fail
 obtain ⟨w1, e1⟩ : ∃ W, ((w.alloc (.cells #[.int .i64 0, .int .i64 at_, .int .u8 kind, .bool must, .int .u64 none_, .slice K ks.length ck] 65)).alloc (.cells #[.int .u64 0, .string ⟨#[]⟩, .int .u8 0, .int .u64 0, .string ⟨#[]⟩, .slice none 0 0, .slice none 0 0, .bool false, .int .i64 0] 61)).alloc (.cells #[.int .u64 0, .string ⟨#[]⟩, .int .u8 0, .int .u64 0, .string ⟨#[]⟩, .slice none 0 0, .slice none 0 0, .bool false, .int .i64 0] 61) = W := ⟨_, rfl⟩
 obtain ⟨r, er⟩ : ∃ b, w.heap.size + 1 = b := ⟨_, rfl⟩
 obtain ⟨d, ed⟩ : ∃ b, w.heap.size + 1 + 1 = b := ⟨_, rfl⟩
 have hrd : w.heap.size ≤ r ∧ w.heap.size ≤ d ∧ r < d := by omega
 rw [e1] at hb3 bA bR bD HF1 HK1 ⊢
 rw [ed] at bD ⊢
 rw [er] at bR ⊢
 clear e1 ed er
 have hdl := bD.lt
 have hsz := hb3.size
 have HB1 := Aside0.mk hb3
 have BR1 := Aside0.mk bR
 have BD1 := Aside0.mk bD
 clear hb3 bR bD
 obtain ⟨p0, p1, p2, p3, p4, p5⟩ := bA.ask
 clear bA
 go_wp2_with fail
 refine (has78_any HF1.out at_).mono ?_
 rintro e w2 hpost
 obtain ⟨q, eq⟩ : ∃ q, (atF l at_).isSome = q := ⟨_, rfl⟩
 have EQ := Aside0.mk eq
 simp only [eq] at hpost
 clear eq
 obtain ⟨rfl, rfl⟩ := hpost
 have HF2 := Aside0.mk (HF1.out)
 have HB2 := Aside0.mk ((Bg.of (g := g) HB1.out).trans (Bg.refl g w1))
 have BR2 := BR1
 have BD2 := BD1
 clear p0 p1 p2 p3 p4 p5
 obtain ⟨d0, d1, d2, d3, d4, d5, d6, d7, d8⟩ := BD2.out.nine
 obtain ⟨r0, r1, r2, r3, r4, r5, r6, r7, r8⟩ := BR2.out.nine
 have f1 := BR2.out.fz
 have f2 := BD2.out.fz
 go_wp2_with fail
 refine bodyPost_ret (results_cell_row rfl _ _ r 61 #[.int .u64 0, .string ⟨#[]⟩, .int .u8 0, .int .u64 0, .string ⟨#[]⟩, .slice none 0 0, .slice none 0 0, .bool q, .int .i64 0] (0, 0) _ rfl (put9_blk (BR2.out.far (p := ⟨d, 7, none⟩) (show r ≠ d by omega) _) _ _ _ _ _ _ _ _ _) Try.underlying61 rfl (by kernel_rfl)) rfl ?_
 rw [show tellA l sp 0 at_ kind none_ ks = ⟨0, ⟨#[]⟩, zVal, [], q, 0⟩ by rw [← EQ.out]; rfl]
 refine ⟨none, 0, none, 0, rfl, Kd.R_nil _ _ _ _ _, Kd.R_nil _ _ _ _ _, HF2.out.out2 BR2.out BD2.out (by decide) (fun k hk1 hk2 => ?_) (by omega) (by omega), put9_bg (HB2.out.far (p := ⟨d, 7, none⟩) hrd.2.1 _) hrd.1 _ _ _ _ _ _ _ _ _⟩
 refine (put9_heap _ _ _ _ _ _ _ _ _ _ _ hk1).trans ?_; refine (Below.heap_setCell _ _ _ k hk2).trans ?_; rfl
theorem meant48_1 {w : World} {base g B : Nat} {l : List S25} {sp : Bool} (hf : RSB w base g B l sp) (hB : B ≤ w.heap.size) (hgB : g < B) (hk : ∀ x ∈ l, itemsN x ≤ 4294967296) (hmy : ∀ x ∈ l, mayB x = true) (at_ kind : Int) (must : Bool) (none_ : Int) (ks : List Int) (K : Option Addr) (ck : Nat) (hK : Kd.C (Kd.int .u8) w K ks.length ks) (hck : ks.length ≤ ck) :
  Calls Try.prog 48 #[.pointer (some ⟨g, 0, none⟩), .agg #[.int .i64 1, .int .i64 at_, .int .u8 kind, .bool must, .int .u64 none_, .slice K ks.length ck]] w (RToldPost (tellA l sp 1 at_ kind none_ ks) base g B l (spoilA l sp 1 at_ kind must ks) w) := by
 have hg := hf.lt
 have hb3 := below_alloc (below_alloc (below_alloc (Below.refl w.heap.size w) (.cells #[.int .i64 1, .int .i64 at_, .int .u8 kind, .bool must, .int .u64 none_, .slice K ks.length ck] 65)) (.cells #[.int .u64 0, .string ⟨#[]⟩, .int .u8 0, .int .u64 0, .string ⟨#[]⟩, .slice none 0 0, .slice none 0 0, .bool false, .int .i64 0] 61)) (.cells #[.int .u64 0, .string ⟨#[]⟩, .int .u8 0, .int .u64 0, .string ⟨#[]⟩, .slice none 0 0, .slice none 0 0, .bool false, .int .i64 0] 61)
 have bA := ((Blk.new w #[.int .i64 1, .int .i64 at_, .int .u8 kind, .bool must, .int .u64 none_, .slice K ks.length ck] 65).alloc (.cells #[.int .u64 0, .string ⟨#[]⟩, .int .u8 0, .int .u64 0, .string ⟨#[]⟩, .slice none 0 0, .slice none 0 0, .bool false, .int .i64 0] 61)).alloc (.cells #[.int .u64 0, .string ⟨#[]⟩, .int .u8 0, .int .u64 0, .string ⟨#[]⟩, .slice none 0 0, .slice none 0 0, .bool false, .int .i64 0] 61)
 have bR := (Blk.new (w.alloc (.cells #[.int .i64 1, .int .i64 at_, .int .u8 kind, .bool must, .int .u64 none_, .slice K ks.length ck] 65)) #[.int .u64 0, .string ⟨#[]⟩, .int .u8 0, .int .u64 0, .string ⟨#[]⟩, .slice none 0 0, .slice none 0 0, .bool false, .int .i64 0] 61).alloc (.cells #[.int .u64 0, .string ⟨#[]⟩, .int .u8 0, .int .u64 0, .string ⟨#[]⟩, .slice none 0 0, .slice none 0 0, .bool false, .int .i64 0] 61)
 have bD := Blk.new ((w.alloc (.cells #[.int .i64 1, .int .i64 at_, .int .u8 kind, .bool must, .int .u64 none_, .slice K ks.length ck] 65)).alloc (.cells #[.int .u64 0, .string ⟨#[]⟩, .int .u8 0, .int .u64 0, .string ⟨#[]⟩, .slice none 0 0, .slice none 0 0, .bool false, .int .i64 0] 61)) #[.int .u64 0, .string ⟨#[]⟩, .int .u8 0, .int .u64 0, .string ⟨#[]⟩, .slice none 0 0, .slice none 0 0, .bool false, .int .i64 0] 61
 simp only [World.size_alloc] at bR bD
 have HF1 := Aside0.mk (hf.below hb3)
 have HK1 := Aside0.mk (Kd.C_below hK hb3)
 have HKI := Aside0.mk hk
 have HMY := Aside0.mk hmy
 clear hf hK hk hmy
 go_enter Try.func48, Try.ntmps48
 go_upto_region 2 with fail
 obtain ⟨w1, e1⟩ : ∃ W, ((w.alloc (.cells #[.int .i64 1, .int .i64 at_, .int .u8 kind, .bool must, .int .u64 none_, .slice K ks.length ck] 65)).alloc (.cells #[.int .u64 0, .string ⟨#[]⟩, .int .u8 0, .int .u64 0, .string ⟨#[]⟩, .slice none 0 0, .slice none 0 0, .bool false, .int .i64 0] 61)).alloc (.cells #[.int .u64 0, .string ⟨#[]⟩, .int .u8 0, .int .u64 0, .string ⟨#[]⟩, .slice none 0 0, .slice none 0 0, .bool false, .int .i64 0] 61) = W := ⟨_, rfl⟩
 obtain ⟨r, er⟩ : ∃ b, w.heap.size + 1 = b := ⟨_, rfl⟩
 obtain ⟨d, ed⟩ : ∃ b, w.heap.size + 1 + 1 = b := ⟨_, rfl⟩
 have hrd : w.heap.size ≤ r ∧ w.heap.size ≤ d ∧ r < d := by omega
 rw [e1] at hb3 bA bR bD HF1 HK1 ⊢
 rw [ed] at bD ⊢
 rw [er] at bR ⊢
 clear e1 ed er
 have hdl := bD.lt
 have hsz := hb3.size
 have HB1 := Aside0.mk hb3
 have BR1 := Aside0.mk bR
 have BD1 := Aside0.mk bD
 clear hb3 bR bD
 obtain ⟨p0, p1, p2, p3, p4, p5⟩ := bA.ask
 clear bA
 go_wp2_with fail
 refine (number79_any HF1.out (by omega) hgB at_ kind must none_).mono ?_
 rintro e w2 hpost
 obtain ⟨q, eq⟩ : ∃ q, tellP l at_ (kindP [kind]) (fun x => x.f1) none_ = q := ⟨_, rfl⟩
 have EQ := Aside0.mk eq
 simp only [eq] at hpost
 clear eq
 obtain ⟨rfl, hfs, hb2⟩ := hpost
 have HF2 := Aside0.mk (hfs)
 have HB2 := Aside0.mk ((Bg.of (g := g) HB1.out).trans (hb2))
 have BR2 := Aside0.mk (BR1.out.bg hb2 (by omega))
 have BD2 := Aside0.mk (BD1.out.bg hb2 (by omega))
 clear p0 p1 p2 p3 p4 p5 hb2 hfs
 obtain ⟨d0, d1, d2, d3, d4, d5, d6, d7, d8⟩ := BD2.out.nine
 obtain ⟨r0, r1, r2, r3, r4, r5, r6, r7, r8⟩ := BR2.out.nine
 have f1 := BR2.out.fz
 have f2 := BD2.out.fz
 go_wp2_with fail
 refine bodyPost_ret (results_cell_row rfl _ _ r 61 #[.int .u64 q, .string ⟨#[]⟩, .int .u8 0, .int .u64 0, .string ⟨#[]⟩, .slice none 0 0, .slice none 0 0, .bool false, .int .i64 0] (0, 0) _ rfl (put9_blk (BR2.out.far (p := ⟨d, 0, none⟩) (show r ≠ d by omega) _) _ _ _ _ _ _ _ _ _) Try.underlying61 rfl (by kernel_rfl)) rfl ?_
 rw [show tellA l sp 1 at_ kind none_ ks = ⟨q, ⟨#[]⟩, zVal, [], false, 0⟩ by rw [← EQ.out]; rfl]
 refine ⟨none, 0, none, 0, rfl, Kd.R_nil _ _ _ _ _, Kd.R_nil _ _ _ _ _, HF2.out.out2 BR2.out BD2.out (by decide) (fun k hk1 hk2 => ?_) (by omega) (by omega), put9_bg (HB2.out.far (p := ⟨d, 0, none⟩) hrd.2.1 _) hrd.1 _ _ _ _ _ _ _ _ _⟩
 refine (put9_heap _ _ _ _ _ _ _ _ _ _ _ hk1).trans ?_; refine (Below.heap_setCell _ _ _ k hk2).trans ?_; rfl
theorem meant48_2 {w : World} {base g B : Nat} {l : List S25} {sp : Bool} (hf : RSB w base g B l sp) (hB : B ≤ w.heap.size) (hgB : g < B) (hk : ∀ x ∈ l, itemsN x ≤ 4294967296) (hmy : ∀ x ∈ l, mayB x = true) (at_ kind : Int) (must : Bool) (none_ : Int) (ks : List Int) (K : Option Addr) (ck : Nat) (hK : Kd.C (Kd.int .u8) w K ks.length ks) (hck : ks.length ≤ ck) :
  Calls Try.prog 48 #[.pointer (some ⟨g, 0, none⟩), .agg #[.int .i64 2, .int .i64 at_, .int .u8 kind, .bool must, .int .u64 none_, .slice K ks.length ck]] w (RToldPost (tellA l sp 2 at_ kind none_ ks) base g B l (spoilA l sp 2 at_ kind must ks) w) := by
 have hg := hf.lt
 have hb3 := below_alloc (below_alloc (below_alloc (Below.refl w.heap.size w) (.cells #[.int .i64 2, .int .i64 at_, .int .u8 kind, .bool must, .int .u64 none_, .slice K ks.length ck] 65)) (.cells #[.int .u64 0, .string ⟨#[]⟩, .int .u8 0, .int .u64 0, .string ⟨#[]⟩, .slice none 0 0, .slice none 0 0, .bool false, .int .i64 0] 61)) (.cells #[.int .u64 0, .string ⟨#[]⟩, .int .u8 0, .int .u64 0, .string ⟨#[]⟩, .slice none 0 0, .slice none 0 0, .bool false, .int .i64 0] 61)
 have bA := ((Blk.new w #[.int .i64 2, .int .i64 at_, .int .u8 kind, .bool must, .int .u64 none_, .slice K ks.length ck] 65).alloc (.cells #[.int .u64 0, .string ⟨#[]⟩, .int .u8 0, .int .u64 0, .string ⟨#[]⟩, .slice none 0 0, .slice none 0 0, .bool false, .int .i64 0] 61)).alloc (.cells #[.int .u64 0, .string ⟨#[]⟩, .int .u8 0, .int .u64 0, .string ⟨#[]⟩, .slice none 0 0, .slice none 0 0, .bool false, .int .i64 0] 61)
 have bR := (Blk.new (w.alloc (.cells #[.int .i64 2, .int .i64 at_, .int .u8 kind, .bool must, .int .u64 none_, .slice K ks.length ck] 65)) #[.int .u64 0, .string ⟨#[]⟩, .int .u8 0, .int .u64 0, .string ⟨#[]⟩, .slice none 0 0, .slice none 0 0, .bool false, .int .i64 0] 61).alloc (.cells #[.int .u64 0, .string ⟨#[]⟩, .int .u8 0, .int .u64 0, .string ⟨#[]⟩, .slice none 0 0, .slice none 0 0, .bool false, .int .i64 0] 61)
 have bD := Blk.new ((w.alloc (.cells #[.int .i64 2, .int .i64 at_, .int .u8 kind, .bool must, .int .u64 none_, .slice K ks.length ck] 65)).alloc (.cells #[.int .u64 0, .string ⟨#[]⟩, .int .u8 0, .int .u64 0, .string ⟨#[]⟩, .slice none 0 0, .slice none 0 0, .bool false, .int .i64 0] 61)) #[.int .u64 0, .string ⟨#[]⟩, .int .u8 0, .int .u64 0, .string ⟨#[]⟩, .slice none 0 0, .slice none 0 0, .bool false, .int .i64 0] 61
 simp only [World.size_alloc] at bR bD
 have HF1 := Aside0.mk (hf.below hb3)
 have HK1 := Aside0.mk (Kd.C_below hK hb3)
 have HKI := Aside0.mk hk
 have HMY := Aside0.mk hmy
 clear hf hK hk hmy
 go_enter Try.func48, Try.ntmps48
 go_upto_region 2 with fail
 obtain ⟨w1, e1⟩ : ∃ W, ((w.alloc (.cells #[.int .i64 2, .int .i64 at_, .int .u8 kind, .bool must, .int .u64 none_, .slice K ks.length ck] 65)).alloc (.cells #[.int .u64 0, .string ⟨#[]⟩, .int .u8 0, .int .u64 0, .string ⟨#[]⟩, .slice none 0 0, .slice none 0 0, .bool false, .int .i64 0] 61)).alloc (.cells #[.int .u64 0, .string ⟨#[]⟩, .int .u8 0, .int .u64 0, .string ⟨#[]⟩, .slice none 0 0, .slice none 0 0, .bool false, .int .i64 0] 61) = W := ⟨_, rfl⟩
 obtain ⟨r, er⟩ : ∃ b, w.heap.size + 1 = b := ⟨_, rfl⟩
 obtain ⟨d, ed⟩ : ∃ b, w.heap.size + 1 + 1 = b := ⟨_, rfl⟩
 have hrd : w.heap.size ≤ r ∧ w.heap.size ≤ d ∧ r < d := by omega
 rw [e1] at hb3 bA bR bD HF1 HK1 ⊢
 rw [ed] at bD ⊢
 rw [er] at bR ⊢
 clear e1 ed er
 have hdl := bD.lt
 have hsz := hb3.size
 have HB1 := Aside0.mk hb3
 have BR1 := Aside0.mk bR
 have BD1 := Aside0.mk bD
 clear hb3 bR bD
 obtain ⟨p0, p1, p2, p3, p4, p5⟩ := bA.ask
 clear bA
 go_wp2_with fail
 refine (bool80_any HF1.out (by omega) hgB at_ must).mono ?_
 rintro e w2 hpost
 obtain ⟨q, eq⟩ : ∃ q, (tellP l at_ (kindP [2]) (fun x => x.f1) 0 == 1) = q := ⟨_, rfl⟩
 have EQ := Aside0.mk eq
 simp only [eq] at hpost
 clear eq
 obtain ⟨rfl, hfs, hb2⟩ := hpost
 have HF2 := Aside0.mk (hfs)
 have HB2 := Aside0.mk ((Bg.of (g := g) HB1.out).trans (hb2))
 have BR2 := Aside0.mk (BR1.out.bg hb2 (by omega))
 have BD2 := Aside0.mk (BD1.out.bg hb2 (by omega))
 clear p0 p1 p2 p3 p4 p5 hb2 hfs
 obtain ⟨d0, d1, d2, d3, d4, d5, d6, d7, d8⟩ := BD2.out.nine
 obtain ⟨r0, r1, r2, r3, r4, r5, r6, r7, r8⟩ := BR2.out.nine
 have f1 := BR2.out.fz
 have f2 := BD2.out.fz
 go_wp2_with fail
 refine bodyPost_ret (results_cell_row rfl _ _ r 61 #[.int .u64 0, .string ⟨#[]⟩, .int .u8 0, .int .u64 0, .string ⟨#[]⟩, .slice none 0 0, .slice none 0 0, .bool q, .int .i64 0] (0, 0) _ rfl (put9_blk (BR2.out.far (p := ⟨d, 7, none⟩) (show r ≠ d by omega) _) _ _ _ _ _ _ _ _ _) Try.underlying61 rfl (by kernel_rfl)) rfl ?_
 rw [show tellA l sp 2 at_ kind none_ ks = ⟨0, ⟨#[]⟩, zVal, [], q, 0⟩ by rw [← EQ.out]; rfl]
 refine ⟨none, 0, none, 0, rfl, Kd.R_nil _ _ _ _ _, Kd.R_nil _ _ _ _ _, HF2.out.out2 BR2.out BD2.out (by decide) (fun k hk1 hk2 => ?_) (by omega) (by omega), put9_bg (HB2.out.far (p := ⟨d, 7, none⟩) hrd.2.1 _) hrd.1 _ _ _ _ _ _ _ _ _⟩
 refine (put9_heap _ _ _ _ _ _ _ _ _ _ _ hk1).trans ?_; refine (Below.heap_setCell _ _ _ k hk2).trans ?_; rfl
theorem meant48_3 {w : World} {base g B : Nat} {l : List S25} {sp : Bool} (hf : RSB w base g B l sp) (hB : B ≤ w.heap.size) (hgB : g < B) (hk : ∀ x ∈ l, itemsN x ≤ 4294967296) (hmy : ∀ x ∈ l, mayB x = true) (at_ kind : Int) (must : Bool) (none_ : Int) (ks : List Int) (K : Option Addr) (ck : Nat) (hK : Kd.C (Kd.int .u8) w K ks.length ks) (hck : ks.length ≤ ck) :
  Calls Try.prog 48 #[.pointer (some ⟨g, 0, none⟩), .agg #[.int .i64 3, .int .i64 at_, .int .u8 kind, .bool must, .int .u64 none_, .slice K ks.length ck]] w (RToldPost (tellA l sp 3 at_ kind none_ ks) base g B l (spoilA l sp 3 at_ kind must ks) w) := by
 have hg := hf.lt
 have hb3 := below_alloc (below_alloc (below_alloc (Below.refl w.heap.size w) (.cells #[.int .i64 3, .int .i64 at_, .int .u8 kind, .bool must, .int .u64 none_, .slice K ks.length ck] 65)) (.cells #[.int .u64 0, .string ⟨#[]⟩, .int .u8 0, .int .u64 0, .string ⟨#[]⟩, .slice none 0 0, .slice none 0 0, .bool false, .int .i64 0] 61)) (.cells #[.int .u64 0, .string ⟨#[]⟩, .int .u8 0, .int .u64 0, .string ⟨#[]⟩, .slice none 0 0, .slice none 0 0, .bool false, .int .i64 0] 61)
 have bA := ((Blk.new w #[.int .i64 3, .int .i64 at_, .int .u8 kind, .bool must, .int .u64 none_, .slice K ks.length ck] 65).alloc (.cells #[.int .u64 0, .string ⟨#[]⟩, .int .u8 0, .int .u64 0, .string ⟨#[]⟩, .slice none 0 0, .slice none 0 0, .bool false, .int .i64 0] 61)).alloc (.cells #[.int .u64 0, .string ⟨#[]⟩, .int .u8 0, .int .u64 0, .string ⟨#[]⟩, .slice none 0 0, .slice none 0 0, .bool false, .int .i64 0] 61)
 have bR := (Blk.new (w.alloc (.cells #[.int .i64 3, .int .i64 at_, .int .u8 kind, .bool must, .int .u64 none_, .slice K ks.length ck] 65)) #[.int .u64 0, .string ⟨#[]⟩, .int .u8 0, .int .u64 0, .string ⟨#[]⟩, .slice none 0 0, .slice none 0 0, .bool false, .int .i64 0] 61).alloc (.cells #[.int .u64 0, .string ⟨#[]⟩, .int .u8 0, .int .u64 0, .string ⟨#[]⟩, .slice none 0 0, .slice none 0 0, .bool false, .int .i64 0] 61)
 have bD := Blk.new ((w.alloc (.cells #[.int .i64 3, .int .i64 at_, .int .u8 kind, .bool must, .int .u64 none_, .slice K ks.length ck] 65)).alloc (.cells #[.int .u64 0, .string ⟨#[]⟩, .int .u8 0, .int .u64 0, .string ⟨#[]⟩, .slice none 0 0, .slice none 0 0, .bool false, .int .i64 0] 61)) #[.int .u64 0, .string ⟨#[]⟩, .int .u8 0, .int .u64 0, .string ⟨#[]⟩, .slice none 0 0, .slice none 0 0, .bool false, .int .i64 0] 61
 simp only [World.size_alloc] at bR bD
 have HF1 := Aside0.mk (hf.below hb3)
 have HK1 := Aside0.mk (Kd.C_below hK hb3)
 have HKI := Aside0.mk hk
 have HMY := Aside0.mk hmy
 clear hf hK hk hmy
 go_enter Try.func48, Try.ntmps48
 go_upto_region 2 with fail
 obtain ⟨w1, e1⟩ : ∃ W, ((w.alloc (.cells #[.int .i64 3, .int .i64 at_, .int .u8 kind, .bool must, .int .u64 none_, .slice K ks.length ck] 65)).alloc (.cells #[.int .u64 0, .string ⟨#[]⟩, .int .u8 0, .int .u64 0, .string ⟨#[]⟩, .slice none 0 0, .slice none 0 0, .bool false, .int .i64 0] 61)).alloc (.cells #[.int .u64 0, .string ⟨#[]⟩, .int .u8 0, .int .u64 0, .string ⟨#[]⟩, .slice none 0 0, .slice none 0 0, .bool false, .int .i64 0] 61) = W := ⟨_, rfl⟩
 obtain ⟨r, er⟩ : ∃ b, w.heap.size + 1 = b := ⟨_, rfl⟩
 obtain ⟨d, ed⟩ : ∃ b, w.heap.size + 1 + 1 = b := ⟨_, rfl⟩
 have hrd : w.heap.size ≤ r ∧ w.heap.size ≤ d ∧ r < d := by omega
 rw [e1] at hb3 bA bR bD HF1 HK1 ⊢
 rw [ed] at bD ⊢
 rw [er] at bR ⊢
 clear e1 ed er
 have hdl := bD.lt
 have hsz := hb3.size
 have HB1 := Aside0.mk hb3
 have BR1 := Aside0.mk bR
 have BD1 := Aside0.mk bD
 clear hb3 bR bD
 obtain ⟨p0, p1, p2, p3, p4, p5⟩ := bA.ask
 clear bA
 go_wp2_with fail
 refine (text81_any HF1.out (by omega) hgB at_ kind must).mono ?_
 rintro e w2 hpost
 obtain ⟨q, eq⟩ : ∃ q, tellP l at_ (kindP [kind]) (fun x => x.f2) ⟨#[]⟩ = q := ⟨_, rfl⟩
 have EQ := Aside0.mk eq
 simp only [eq] at hpost
 clear eq
 obtain ⟨rfl, hfs, hb2⟩ := hpost
 have HF2 := Aside0.mk (hfs)
 have HB2 := Aside0.mk ((Bg.of (g := g) HB1.out).trans (hb2))
 have BR2 := Aside0.mk (BR1.out.bg hb2 (by omega))
 have BD2 := Aside0.mk (BD1.out.bg hb2 (by omega))
 clear p0 p1 p2 p3 p4 p5 hb2 hfs
 obtain ⟨d0, d1, d2, d3, d4, d5, d6, d7, d8⟩ := BD2.out.nine
 obtain ⟨r0, r1, r2, r3, r4, r5, r6, r7, r8⟩ := BR2.out.nine
 have f1 := BR2.out.fz
 have f2 := BD2.out.fz
 go_wp2_with fail
 refine bodyPost_ret (results_cell_row rfl _ _ r 61 #[.int .u64 0, .string q, .int .u8 0, .int .u64 0, .string ⟨#[]⟩, .slice none 0 0, .slice none 0 0, .bool false, .int .i64 0] (0, 0) _ rfl (put9_blk (BR2.out.far (p := ⟨d, 1, none⟩) (show r ≠ d by omega) _) _ _ _ _ _ _ _ _ _) Try.underlying61 rfl (by kernel_rfl)) rfl ?_
 rw [show tellA l sp 3 at_ kind none_ ks = ⟨0, q, zVal, [], false, 0⟩ by rw [← EQ.out]; rfl]
 refine ⟨none, 0, none, 0, rfl, Kd.R_nil _ _ _ _ _, Kd.R_nil _ _ _ _ _, HF2.out.out2 BR2.out BD2.out (by decide) (fun k hk1 hk2 => ?_) (by omega) (by omega), put9_bg (HB2.out.far (p := ⟨d, 1, none⟩) hrd.2.1 _) hrd.1 _ _ _ _ _ _ _ _ _⟩
 refine (put9_heap _ _ _ _ _ _ _ _ _ _ _ hk1).trans ?_; refine (Below.heap_setCell _ _ _ k hk2).trans ?_; rfl
theorem meant48_4 {w : World} {base g B : Nat} {l : List S25} {sp : Bool} (hf : RSB w base g B l sp) (hB : B ≤ w.heap.size) (hgB : g < B) (hk : ∀ x ∈ l, itemsN x ≤ 4294967296) (hmy : ∀ x ∈ l, mayB x = true) (at_ kind : Int) (must : Bool) (none_ : Int) (ks : List Int) (K : Option Addr) (ck : Nat) (hK : Kd.C (Kd.int .u8) w K ks.length ks) (hck : ks.length ≤ ck) :
  Calls Try.prog 48 #[.pointer (some ⟨g, 0, none⟩), .agg #[.int .i64 4, .int .i64 at_, .int .u8 kind, .bool must, .int .u64 none_, .slice K ks.length ck]] w (RToldPost (tellA l sp 4 at_ kind none_ ks) base g B l (spoilA l sp 4 at_ kind must ks) w) := by
 have hg := hf.lt
 have hb3 := below_alloc (below_alloc (below_alloc (Below.refl w.heap.size w) (.cells #[.int .i64 4, .int .i64 at_, .int .u8 kind, .bool must, .int .u64 none_, .slice K ks.length ck] 65)) (.cells #[.int .u64 0, .string ⟨#[]⟩, .int .u8 0, .int .u64 0, .string ⟨#[]⟩, .slice none 0 0, .slice none 0 0, .bool false, .int .i64 0] 61)) (.cells #[.int .u64 0, .string ⟨#[]⟩, .int .u8 0, .int .u64 0, .string ⟨#[]⟩, .slice none 0 0, .slice none 0 0, .bool false, .int .i64 0] 61)
 have bA := ((Blk.new w #[.int .i64 4, .int .i64 at_, .int .u8 kind, .bool must, .int .u64 none_, .slice K ks.length ck] 65).alloc (.cells #[.int .u64 0, .string ⟨#[]⟩, .int .u8 0, .int .u64 0, .string ⟨#[]⟩, .slice none 0 0, .slice none 0 0, .bool false, .int .i64 0] 61)).alloc (.cells #[.int .u64 0, .string ⟨#[]⟩, .int .u8 0, .int .u64 0, .string ⟨#[]⟩, .slice none 0 0, .slice none 0 0, .bool false, .int .i64 0] 61)
 have bR := (Blk.new (w.alloc (.cells #[.int .i64 4, .int .i64 at_, .int .u8 kind, .bool must, .int .u64 none_, .slice K ks.length ck] 65)) #[.int .u64 0, .string ⟨#[]⟩, .int .u8 0, .int .u64 0, .string ⟨#[]⟩, .slice none 0 0, .slice none 0 0, .bool false, .int .i64 0] 61).alloc (.cells #[.int .u64 0, .string ⟨#[]⟩, .int .u8 0, .int .u64 0, .string ⟨#[]⟩, .slice none 0 0, .slice none 0 0, .bool false, .int .i64 0] 61)
 have bD := Blk.new ((w.alloc (.cells #[.int .i64 4, .int .i64 at_, .int .u8 kind, .bool must, .int .u64 none_, .slice K ks.length ck] 65)).alloc (.cells #[.int .u64 0, .string ⟨#[]⟩, .int .u8 0, .int .u64 0, .string ⟨#[]⟩, .slice none 0 0, .slice none 0 0, .bool false, .int .i64 0] 61)) #[.int .u64 0, .string ⟨#[]⟩, .int .u8 0, .int .u64 0, .string ⟨#[]⟩, .slice none 0 0, .slice none 0 0, .bool false, .int .i64 0] 61
 simp only [World.size_alloc] at bR bD
 have HF1 := Aside0.mk (hf.below hb3)
 have HK1 := Aside0.mk (Kd.C_below hK hb3)
 have HKI := Aside0.mk hk
 have HMY := Aside0.mk hmy
 clear hf hK hk hmy
 go_enter Try.func48, Try.ntmps48
 go_upto_region 2 with fail
 obtain ⟨w1, e1⟩ : ∃ W, ((w.alloc (.cells #[.int .i64 4, .int .i64 at_, .int .u8 kind, .bool must, .int .u64 none_, .slice K ks.length ck] 65)).alloc (.cells #[.int .u64 0, .string ⟨#[]⟩, .int .u8 0, .int .u64 0, .string ⟨#[]⟩, .slice none 0 0, .slice none 0 0, .bool false, .int .i64 0] 61)).alloc (.cells #[.int .u64 0, .string ⟨#[]⟩, .int .u8 0, .int .u64 0, .string ⟨#[]⟩, .slice none 0 0, .slice none 0 0, .bool false, .int .i64 0] 61) = W := ⟨_, rfl⟩
 obtain ⟨r, er⟩ : ∃ b, w.heap.size + 1 = b := ⟨_, rfl⟩
 obtain ⟨d, ed⟩ : ∃ b, w.heap.size + 1 + 1 = b := ⟨_, rfl⟩
 have hrd : w.heap.size ≤ r ∧ w.heap.size ≤ d ∧ r < d := by omega
 rw [e1] at hb3 bA bR bD HF1 HK1 ⊢
 rw [ed] at bD ⊢
 rw [er] at bR ⊢
 clear e1 ed er
 have hdl := bD.lt
 have hsz := hb3.size
 have HB1 := Aside0.mk hb3
 have BR1 := Aside0.mk bR
 have BD1 := Aside0.mk bD
 clear hb3 bR bD
 obtain ⟨p0, p1, p2, p3, p4, p5⟩ := bA.ask
 clear bA
 go_wp2_with fail
 refine (rvalue82_any HF1.out (by omega) hgB HKI.out at_ ks K ck HK1.out hck).mono ?_
 rintro e w2 hpost
 obtain ⟨q, eq⟩ : ∃ q, tellP l at_ (kindsP ks) (fun x => x) vNul = q := ⟨_, rfl⟩
 have EQ := Aside0.mk eq
 unfold RValPost at hpost
 simp only [eq] at hpost
 clear eq
 obtain ⟨A2, c2, rfl, hR2, hfs, hb2⟩ := hpost
 have HF2 := Aside0.mk (hfs)
 have HB2 := Aside0.mk ((Bg.of (g := g) HB1.out).trans (hb2))
 have BR2 := Aside0.mk (BR1.out.bg hb2 (by omega))
 have BD2 := Aside0.mk (BD1.out.bg hb2 (by omega))
 have HR2 := Aside0.mk hR2
 clear p0 p1 p2 p3 p4 p5 hb2 hfs hR2
 obtain ⟨d0, d1, d2, d3, d4, d5, d6, d7, d8⟩ := BD2.out.nine
 obtain ⟨r0, r1, r2, r3, r4, r5, r6, r7, r8⟩ := BR2.out.nine
 have f1 := BR2.out.fz
 have f2 := BD2.out.fz
 go_wp2_with fail
 refine bodyPost_ret (results_cell_row rfl _ _ r 61 #[.int .u64 0, .string ⟨#[]⟩, .int .u8 q.f0, .int .u64 q.f1, .string q.f2, .slice A2 q.f3.length c2, .slice none 0 0, .bool false, .int .i64 0] (0, 0) _ rfl (put9_blk ((((BR2.out.far (p := ⟨d, 2, none⟩) (show r ≠ d by omega) _).far (p := ⟨d, 3, none⟩) (show r ≠ d by omega) _).far (p := ⟨d, 4, none⟩) (show r ≠ d by omega) _).far (p := ⟨d, 5, none⟩) (show r ≠ d by omega) _) _ _ _ _ _ _ _ _ _) Try.underlying61 rfl (by kernel_rfl)) rfl ?_
 rw [show tellA l sp 4 at_ kind none_ ks = ⟨0, ⟨#[]⟩, q, [], false, 0⟩ by rw [← EQ.out]; rfl]
 refine ⟨A2, c2, none, 0, rfl, R_lowfar HR2.out hsz (put9_sets ((((SetsBelow.nil.snoc (p := ⟨d, 2, none⟩) (show d < _ by omega) _).snoc (p := ⟨d, 3, none⟩) (show d < _ by omega) _).snoc (p := ⟨d, 4, none⟩) (show d < _ by omega) _).snoc (p := ⟨d, 5, none⟩) (show d < _ by omega) _) (by omega) _ _ _ _ _ _ _ _ _), Kd.R_nil _ _ _ _ _, HF2.out.out2 BR2.out BD2.out (by decide) (fun k hk1 hk2 => ?_) (by omega) (by omega), put9_bg ((((HB2.out.far (p := ⟨d, 2, none⟩) hrd.2.1 _).far (p := ⟨d, 3, none⟩) hrd.2.1 _).far (p := ⟨d, 4, none⟩) hrd.2.1 _).far (p := ⟨d, 5, none⟩) hrd.2.1 _) hrd.1 _ _ _ _ _ _ _ _ _⟩
 refine (put9_heap _ _ _ _ _ _ _ _ _ _ _ hk1).trans ?_; refine (Below.heap_setCell _ _ _ k hk2).trans ?_; refine (Below.heap_setCell _ _ _ k hk2).trans ?_; refine (Below.heap_setCell _ _ _ k hk2).trans ?_; refine (Below.heap_setCell _ _ _ k hk2).trans ?_; rfl
theorem meant48_5 {w : World} {base g B : Nat} {l : List S25} {sp : Bool} (hf : RSB w base g B l sp) (hB : B ≤ w.heap.size) (hgB : g < B) (hk : ∀ x ∈ l, itemsN x ≤ 4294967296) (hmy : ∀ x ∈ l, mayB x = true) (at_ kind : Int) (must : Bool) (none_ : Int) (ks : List Int) (K : Option Addr) (ck : Nat) (hK : Kd.C (Kd.int .u8) w K ks.length ks) (hck : ks.length ≤ ck) :
  Calls Try.prog 48 #[.pointer (some ⟨g, 0, none⟩), .agg #[.int .i64 5, .int .i64 at_, .int .u8 kind, .bool must, .int .u64 none_, .slice K ks.length ck]] w (RToldPost (tellA l sp 5 at_ kind none_ ks) base g B l (spoilA l sp 5 at_ kind must ks) w) := by
 have hg := hf.lt
 have hb3 := below_alloc (below_alloc (below_alloc (Below.refl w.heap.size w) (.cells #[.int .i64 5, .int .i64 at_, .int .u8 kind, .bool must, .int .u64 none_, .slice K ks.length ck] 65)) (.cells #[.int .u64 0, .string ⟨#[]⟩, .int .u8 0, .int .u64 0, .string ⟨#[]⟩, .slice none 0 0, .slice none 0 0, .bool false, .int .i64 0] 61)) (.cells #[.int .u64 0, .string ⟨#[]⟩, .int .u8 0, .int .u64 0, .string ⟨#[]⟩, .slice none 0 0, .slice none 0 0, .bool false, .int .i64 0] 61)
 have bA := ((Blk.new w #[.int .i64 5, .int .i64 at_, .int .u8 kind, .bool must, .int .u64 none_, .slice K ks.length ck] 65).alloc (.cells #[.int .u64 0, .string ⟨#[]⟩, .int .u8 0, .int .u64 0, .string ⟨#[]⟩, .slice none 0 0, .slice none 0 0, .bool false, .int .i64 0] 61)).alloc (.cells #[.int .u64 0, .string ⟨#[]⟩, .int .u8 0, .int .u64 0, .string ⟨#[]⟩, .slice none 0 0, .slice none 0 0, .bool false, .int .i64 0] 61)
 have bR := (Blk.new (w.alloc (.cells #[.int .i64 5, .int .i64 at_, .int .u8 kind, .bool must, .int .u64 none_, .slice K ks.length ck] 65)) #[.int .u64 0, .string ⟨#[]⟩, .int .u8 0, .int .u64 0, .string ⟨#[]⟩, .slice none 0 0, .slice none 0 0, .bool false, .int .i64 0] 61).alloc (.cells #[.int .u64 0, .string ⟨#[]⟩, .int .u8 0, .int .u64 0, .string ⟨#[]⟩, .slice none 0 0, .slice none 0 0, .bool false, .int .i64 0] 61)
 have bD := Blk.new ((w.alloc (.cells #[.int .i64 5, .int .i64 at_, .int .u8 kind, .bool must, .int .u64 none_, .slice K ks.length ck] 65)).alloc (.cells #[.int .u64 0, .string ⟨#[]⟩, .int .u8 0, .int .u64 0, .string ⟨#[]⟩, .slice none 0 0, .slice none 0 0, .bool false, .int .i64 0] 61)) #[.int .u64 0, .string ⟨#[]⟩, .int .u8 0, .int .u64 0, .string ⟨#[]⟩, .slice none 0 0, .slice none 0 0, .bool false, .int .i64 0] 61
 simp only [World.size_alloc] at bR bD
 have HF1 := Aside0.mk (hf.below hb3)
 have HK1 := Aside0.mk (Kd.C_below hK hb3)
 have HKI := Aside0.mk hk
 have HMY := Aside0.mk hmy
 clear hf hK hk hmy
 go_enter Try.func48, Try.ntmps48
 go_upto_region 2 with fail
 obtain ⟨w1, e1⟩ : ∃ W, ((w.alloc (.cells #[.int .i64 5, .int .i64 at_, .int .u8 kind, .bool must, .int .u64 none_, .slice K ks.length ck] 65)).alloc (.cells #[.int .u64 0, .string ⟨#[]⟩, .int .u8 0, .int .u64 0, .string ⟨#[]⟩, .slice none 0 0, .slice none 0 0, .bool false, .int .i64 0] 61)).alloc (.cells #[.int .u64 0, .string ⟨#[]⟩, .int .u8 0, .int .u64 0, .string ⟨#[]⟩, .slice none 0 0, .slice none 0 0, .bool false, .int .i64 0] 61) = W := ⟨_, rfl⟩
 obtain ⟨r, er⟩ : ∃ b, w.heap.size + 1 = b := ⟨_, rfl⟩
 obtain ⟨d, ed⟩ : ∃ b, w.heap.size + 1 + 1 = b := ⟨_, rfl⟩
 have hrd : w.heap.size ≤ r ∧ w.heap.size ≤ d ∧ r < d := by omega
 rw [e1] at hb3 bA bR bD HF1 HK1 ⊢
 rw [ed] at bD ⊢
 rw [er] at bR ⊢
 clear e1 ed er
 have hdl := bD.lt
 have hsz := hb3.size
 have HB1 := Aside0.mk hb3
 have BR1 := Aside0.mk bR
 have BD1 := Aside0.mk bD
 clear hb3 bR bD
 obtain ⟨p0, p1, p2, p3, p4, p5⟩ := bA.ask
 clear bA
 go_wp2_with fail
 refine (rsymbols83_any HF1.out (by omega) hgB HKI.out HMY.out at_).mono ?_
 rintro e w2 hpost
 obtain ⟨q, eq⟩ : ∃ q, tellP l at_ symP symL [] = q := ⟨_, rfl⟩
 have EQ := Aside0.mk eq
 unfold RStrsPost at hpost
 simp only [eq] at hpost
 clear eq
 obtain ⟨A2, c2, rfl, hR2, hfs, hb2⟩ := hpost
 have HF2 := Aside0.mk (hfs)
 have HB2 := Aside0.mk ((Bg.of (g := g) HB1.out).trans (hb2))
 have BR2 := Aside0.mk (BR1.out.bg hb2 (by omega))
 have BD2 := Aside0.mk (BD1.out.bg hb2 (by omega))
 have HR2 := Aside0.mk hR2
 clear p0 p1 p2 p3 p4 p5 hb2 hfs hR2
 obtain ⟨d0, d1, d2, d3, d4, d5, d6, d7, d8⟩ := BD2.out.nine
 obtain ⟨r0, r1, r2, r3, r4, r5, r6, r7, r8⟩ := BR2.out.nine
 have f1 := BR2.out.fz
 have f2 := BD2.out.fz
 go_wp2_with fail
 refine bodyPost_ret (results_cell_row rfl _ _ r 61 #[.int .u64 0, .string ⟨#[]⟩, .int .u8 0, .int .u64 0, .string ⟨#[]⟩, .slice none 0 0, .slice A2 q.length c2, .bool false, .int .i64 0] (0, 0) _ rfl (put9_blk (BR2.out.far (p := ⟨d, 6, none⟩) (show r ≠ d by omega) _) _ _ _ _ _ _ _ _ _) Try.underlying61 rfl (by kernel_rfl)) rfl ?_
 rw [show tellA l sp 5 at_ kind none_ ks = ⟨0, ⟨#[]⟩, zVal, q, false, 0⟩ by rw [← EQ.out]; rfl]
 refine ⟨none, 0, A2, c2, rfl, Kd.R_nil _ _ _ _ _, R_lowfar HR2.out hsz (put9_sets (SetsBelow.nil.snoc (p := ⟨d, 6, none⟩) (show d < _ by omega) _) (by omega) _ _ _ _ _ _ _ _ _), HF2.out.out2 BR2.out BD2.out (by decide) (fun k hk1 hk2 => ?_) (by omega) (by omega), put9_bg (HB2.out.far (p := ⟨d, 6, none⟩) hrd.2.1 _) hrd.1 _ _ _ _ _ _ _ _ _⟩
 refine (put9_heap _ _ _ _ _ _ _ _ _ _ _ hk1).trans ?_; refine (Below.heap_setCell _ _ _ k hk2).trans ?_; rfl
theorem meant48_6 {w : World} {base g B : Nat} {l : List S25} {sp : Bool} (hf : RSB w base g B l sp) (hB : B ≤ w.heap.size) (hgB : g < B) (hk : ∀ x ∈ l, itemsN x ≤ 4294967296) (hmy : ∀ x ∈ l, mayB x = true) (at_ kind : Int) (must : Bool) (none_ : Int) (ks : List Int) (K : Option Addr) (ck : Nat) (hK : Kd.C (Kd.int .u8) w K ks.length ks) (hck : ks.length ≤ ck) :
  Calls Try.prog 48 #[.pointer (some ⟨g, 0, none⟩), .agg #[.int .i64 6, .int .i64 at_, .int .u8 kind, .bool must, .int .u64 none_, .slice K ks.length ck]] w (RToldPost (tellA l sp 6 at_ kind none_ ks) base g B l (spoilA l sp 6 at_ kind must ks) w) := by
 have hg := hf.lt
 have hb3 := below_alloc (below_alloc (below_alloc (Below.refl w.heap.size w) (.cells #[.int .i64 6, .int .i64 at_, .int .u8 kind, .bool must, .int .u64 none_, .slice K ks.length ck] 65)) (.cells #[.int .u64 0, .string ⟨#[]⟩, .int .u8 0, .int .u64 0, .string ⟨#[]⟩, .slice none 0 0, .slice none 0 0, .bool false, .int .i64 0] 61)) (.cells #[.int .u64 0, .string ⟨#[]⟩, .int .u8 0, .int .u64 0, .string ⟨#[]⟩, .slice none 0 0, .slice none 0 0, .bool false, .int .i64 0] 61)
 have bA := ((Blk.new w #[.int .i64 6, .int .i64 at_, .int .u8 kind, .bool must, .int .u64 none_, .slice K ks.length ck] 65).alloc (.cells #[.int .u64 0, .string ⟨#[]⟩, .int .u8 0, .int .u64 0, .string ⟨#[]⟩, .slice none 0 0, .slice none 0 0, .bool false, .int .i64 0] 61)).alloc (.cells #[.int .u64 0, .string ⟨#[]⟩, .int .u8 0, .int .u64 0, .string ⟨#[]⟩, .slice none 0 0, .slice none 0 0, .bool false, .int .i64 0] 61)
 have bR := (Blk.new (w.alloc (.cells #[.int .i64 6, .int .i64 at_, .int .u8 kind, .bool must, .int .u64 none_, .slice K ks.length ck] 65)) #[.int .u64 0, .string ⟨#[]⟩, .int .u8 0, .int .u64 0, .string ⟨#[]⟩, .slice none 0 0, .slice none 0 0, .bool false, .int .i64 0] 61).alloc (.cells #[.int .u64 0, .string ⟨#[]⟩, .int .u8 0, .int .u64 0, .string ⟨#[]⟩, .slice none 0 0, .slice none 0 0, .bool false, .int .i64 0] 61)
 have bD := Blk.new ((w.alloc (.cells #[.int .i64 6, .int .i64 at_, .int .u8 kind, .bool must, .int .u64 none_, .slice K ks.length ck] 65)).alloc (.cells #[.int .u64 0, .string ⟨#[]⟩, .int .u8 0, .int .u64 0, .string ⟨#[]⟩, .slice none 0 0, .slice none 0 0, .bool false, .int .i64 0] 61)) #[.int .u64 0, .string ⟨#[]⟩, .int .u8 0, .int .u64 0, .string ⟨#[]⟩, .slice none 0 0, .slice none 0 0, .bool false, .int .i64 0] 61
 simp only [World.size_alloc] at bR bD
 have HF1 := Aside0.mk (hf.below hb3)
 have HK1 := Aside0.mk (Kd.C_below hK hb3)
 have HKI := Aside0.mk hk
 have HMY := Aside0.mk hmy
 clear hf hK hk hmy
 go_enter Try.func48, Try.ntmps48
 go_upto_region 2 with fail
 obtain ⟨w1, e1⟩ : ∃ W, ((w.alloc (.cells #[.int .i64 6, .int .i64 at_, .int .u8 kind, .bool must, .int .u64 none_, .slice K ks.length ck] 65)).alloc (.cells #[.int .u64 0, .string ⟨#[]⟩, .int .u8 0, .int .u64 0, .string ⟨#[]⟩, .slice none 0 0, .slice none 0 0, .bool false, .int .i64 0] 61)).alloc (.cells #[.int .u64 0, .string ⟨#[]⟩, .int .u8 0, .int .u64 0, .string ⟨#[]⟩, .slice none 0 0, .slice none 0 0, .bool false, .int .i64 0] 61) = W := ⟨_, rfl⟩
 obtain ⟨r, er⟩ : ∃ b, w.heap.size + 1 = b := ⟨_, rfl⟩
 obtain ⟨d, ed⟩ : ∃ b, w.heap.size + 1 + 1 = b := ⟨_, rfl⟩
 have hrd : w.heap.size ≤ r ∧ w.heap.size ≤ d ∧ r < d := by omega
 rw [e1] at hb3 bA bR bD HF1 HK1 ⊢
 rw [ed] at bD ⊢
 rw [er] at bR ⊢
 clear e1 ed er
 have hdl := bD.lt
 have hsz := hb3.size
 have HB1 := Aside0.mk hb3
 have BR1 := Aside0.mk bR
 have BD1 := Aside0.mk bD
 clear hb3 bR bD
 obtain ⟨p0, p1, p2, p3, p4, p5⟩ := bA.ask
 clear bA
 have hF1 := HF1.out
 obtain ⟨A', c', hG, hR⟩ := hF1
 obtain ⟨g0, g1⟩ := hG.c2
 have fzg := hG.fz
 clear hG hR
 go_upto_region 19 with fail
 have HF2 := Aside0.mk (HF1.out.set true)
 have HB2 := Aside0.mk ((Bg.of (g := g) HB1.out).set 1 (.bool true))
 have BR2 := Aside0.mk (BR1.out.far (p := ⟨g, 1, none⟩) (show r ≠ g by omega) (.bool true))
 have BD2 := Aside0.mk (BD1.out.far (p := ⟨g, 1, none⟩) (show d ≠ g by omega) (.bool true))
 obtain ⟨w2, e2⟩ : ∃ W, w1.setCell ⟨g, 1, none⟩ (.bool true) = W := ⟨_, rfl⟩
 rw [e2] at HF2 HB2 BR2 BD2 ⊢
 clear e2 g0 g1 fzg p0 p1 p2 p3 p4 p5
 obtain ⟨d0, d1, d2, d3, d4, d5, d6, d7, d8⟩ := BD2.out.nine
 obtain ⟨r0, r1, r2, r3, r4, r5, r6, r7, r8⟩ := BR2.out.nine
 have f1 := BR2.out.fz
 have f2 := BD2.out.fz
 go_wp2_with fail
 refine bodyPost_ret (results_cell_row rfl _ _ r 61 #[.int .u64 0, .string ⟨#[]⟩, .int .u8 0, .int .u64 0, .string ⟨#[]⟩, .slice none 0 0, .slice none 0 0, .bool false, .int .i64 0] (0, 0) _ rfl (put9_blk BR2.out _ _ _ _ _ _ _ _ _) Try.underlying61 rfl (by kernel_rfl)) rfl ?_
 refine ⟨none, 0, none, 0, rfl, Kd.R_nil _ _ _ _ _, Kd.R_nil _ _ _ _ _, HF2.out.out2 BR2.out BD2.out (by decide) (fun k hk1 hk2 => ?_) (by omega) (by omega), put9_bg HB2.out hrd.1 _ _ _ _ _ _ _ _ _⟩
 refine (put9_heap _ _ _ _ _ _ _ _ _ _ _ hk1).trans ?_; rfl
theorem meant48_7 {w : World} {base g B : Nat} {l : List S25} {sp : Bool} (hf : RSB w base g B l sp) (hB : B ≤ w.heap.size) (hgB : g < B) (hk : ∀ x ∈ l, itemsN x ≤ 4294967296) (hmy : ∀ x ∈ l, mayB x = true) (at_ kind : Int) (must : Bool) (none_ : Int) (ks : List Int) (K : Option Addr) (ck : Nat) (hK : Kd.C (Kd.int .u8) w K ks.length ks) (hck : ks.length ≤ ck) :
  Calls Try.prog 48 #[.pointer (some ⟨g, 0, none⟩), .agg #[.int .i64 7, .int .i64 at_, .int .u8 kind, .bool must, .int .u64 none_, .slice K ks.length ck]] w (RToldPost (tellA l sp 7 at_ kind none_ ks) base g B l (spoilA l sp 7 at_ kind must ks) w) := by
 have hg := hf.lt
 have hb3 := below_alloc (below_alloc (below_alloc (Below.refl w.heap.size w) (.cells #[.int .i64 7, .int .i64 at_, .int .u8 kind, .bool must, .int .u64 none_, .slice K ks.length ck] 65)) (.cells #[.int .u64 0, .string ⟨#[]⟩, .int .u8 0, .int .u64 0, .string ⟨#[]⟩, .slice none 0 0, .slice none 0 0, .bool false, .int .i64 0] 61)) (.cells #[.int .u64 0, .string ⟨#[]⟩, .int .u8 0, .int .u64 0, .string ⟨#[]⟩, .slice none 0 0, .slice none 0 0, .bool false, .int .i64 0] 61)
 have bA := ((Blk.new w #[.int .i64 7, .int .i64 at_, .int .u8 kind, .bool must, .int .u64 none_, .slice K ks.length ck] 65).alloc (.cells #[.int .u64 0, .string ⟨#[]⟩, .int .u8 0, .int .u64 0, .string ⟨#[]⟩, .slice none 0 0, .slice none 0 0, .bool false, .int .i64 0] 61)).alloc (.cells #[.int .u64 0, .string ⟨#[]⟩, .int .u8 0, .int .u64 0, .string ⟨#[]⟩, .slice none 0 0, .slice none 0 0, .bool false, .int .i64 0] 61)
 have bR := (Blk.new (w.alloc (.cells #[.int .i64 7, .int .i64 at_, .int .u8 kind, .bool must, .int .u64 none_, .slice K ks.length ck] 65)) #[.int .u64 0, .string ⟨#[]⟩, .int .u8 0, .int .u64 0, .string ⟨#[]⟩, .slice none 0 0, .slice none 0 0, .bool false, .int .i64 0] 61).alloc (.cells #[.int .u64 0, .string ⟨#[]⟩, .int .u8 0, .int .u64 0, .string ⟨#[]⟩, .slice none 0 0, .slice none 0 0, .bool false, .int .i64 0] 61)
 have bD := Blk.new ((w.alloc (.cells #[.int .i64 7, .int .i64 at_, .int .u8 kind, .bool must, .int .u64 none_, .slice K ks.length ck] 65)).alloc (.cells #[.int .u64 0, .string ⟨#[]⟩, .int .u8 0, .int .u64 0, .string ⟨#[]⟩, .slice none 0 0, .slice none 0 0, .bool false, .int .i64 0] 61)) #[.int .u64 0, .string ⟨#[]⟩, .int .u8 0, .int .u64 0, .string ⟨#[]⟩, .slice none 0 0, .slice none 0 0, .bool false, .int .i64 0] 61
 simp only [World.size_alloc] at bR bD
 have HF1 := Aside0.mk (hf.below hb3)
 have HK1 := Aside0.mk (Kd.C_below hK hb3)
 have HKI := Aside0.mk hk
 have HMY := Aside0.mk hmy
 clear hf hK hk hmy
 go_enter Try.func48, Try.ntmps48
 go_upto_region 2 with fail
 obtain ⟨w1, e1⟩ : ∃ W, ((w.alloc (.cells #[.int .i64 7, .int .i64 at_, .int .u8 kind, .bool must, .int .u64 none_, .slice K ks.length ck] 65)).alloc (.cells #[.int .u64 0, .string ⟨#[]⟩, .int .u8 0, .int .u64 0, .string ⟨#[]⟩, .slice none 0 0, .slice none 0 0, .bool false, .int .i64 0] 61)).alloc (.cells #[.int .u64 0, .string ⟨#[]⟩, .int .u8 0, .int .u64 0, .string ⟨#[]⟩, .slice none 0 0, .slice none 0 0, .bool false, .int .i64 0] 61) = W := ⟨_, rfl⟩
 obtain ⟨r, er⟩ : ∃ b, w.heap.size + 1 = b := ⟨_, rfl⟩
 obtain ⟨d, ed⟩ : ∃ b, w.heap.size + 1 + 1 = b := ⟨_, rfl⟩
 have hrd : w.heap.size ≤ r ∧ w.heap.size ≤ d ∧ r < d := by omega
 rw [e1] at hb3 bA bR bD HF1 HK1 ⊢
 rw [ed] at bD ⊢
 rw [er] at bR ⊢
 clear e1 ed er
 have hdl := bD.lt
 have hsz := hb3.size
 have HB1 := Aside0.mk hb3
 have BR1 := Aside0.mk bR
 have BD1 := Aside0.mk bD
 clear hb3 bR bD
 obtain ⟨p0, p1, p2, p3, p4, p5⟩ := bA.ask
 clear bA
 go_wp2_with fail
 refine (done49_any HF1.out at_).mono ?_
 rintro e w2 hpost
 obtain ⟨q, eq⟩ : ∃ q, doneN l sp at_ = q := ⟨_, rfl⟩
 have EQ := Aside0.mk eq
 simp only [eq] at hpost
 clear eq
 obtain ⟨rfl, rfl⟩ := hpost
 have HF2 := Aside0.mk (HF1.out)
 have HB2 := Aside0.mk ((Bg.of (g := g) HB1.out).trans (Bg.refl g w1))
 have BR2 := BR1
 have BD2 := BD1
 clear p0 p1 p2 p3 p4 p5
 obtain ⟨d0, d1, d2, d3, d4, d5, d6, d7, d8⟩ := BD2.out.nine
 obtain ⟨r0, r1, r2, r3, r4, r5, r6, r7, r8⟩ := BR2.out.nine
 have f1 := BR2.out.fz
 have f2 := BD2.out.fz
 go_wp2_with fail
 refine bodyPost_ret (results_cell_row rfl _ _ r 61 #[.int .u64 0, .string ⟨#[]⟩, .int .u8 0, .int .u64 0, .string ⟨#[]⟩, .slice none 0 0, .slice none 0 0, .bool false, .int .i64 q] (0, 0) _ rfl (put9_blk (BR2.out.far (p := ⟨d, 8, none⟩) (show r ≠ d by omega) _) _ _ _ _ _ _ _ _ _) Try.underlying61 rfl (by kernel_rfl)) rfl ?_
 rw [show tellA l sp 7 at_ kind none_ ks = ⟨0, ⟨#[]⟩, zVal, [], false, q⟩ by rw [← EQ.out]; rfl]
 refine ⟨none, 0, none, 0, rfl, Kd.R_nil _ _ _ _ _, Kd.R_nil _ _ _ _ _, HF2.out.out2 BR2.out BD2.out (by decide) (fun k hk1 hk2 => ?_) (by omega) (by omega), put9_bg (HB2.out.far (p := ⟨d, 8, none⟩) hrd.2.1 _) hrd.1 _ _ _ _ _ _ _ _ _⟩
 refine (put9_heap _ _ _ _ _ _ _ _ _ _ _ hk1).trans ?_; refine (Below.heap_setCell _ _ _ k hk2).trans ?_; rfl
theorem meant48_x {w : World} {base g B : Nat} {l : List S25} {sp : Bool} (hf : RSB w base g B l sp) (hB : B ≤ w.heap.size) (hgB : g < B) (hk : ∀ x ∈ l, itemsN x ≤ 4294967296) (hmy : ∀ x ∈ l, mayB x = true) (what : Int) (h0 : what ≠ 0) (h1 : what ≠ 1) (h2 : what ≠ 2) (h3 : what ≠ 3) (h4 : what ≠ 4) (h5 : what ≠ 5) (h6 : what ≠ 6) (h7 : what ≠ 7) (at_ kind : Int) (must : Bool) (none_ : Int) (ks : List Int) (K : Option Addr) (ck : Nat) (hK : Kd.C (Kd.int .u8) w K ks.length ks) (hck : ks.length ≤ ck) :
  Calls Try.prog 48 #[.pointer (some ⟨g, 0, none⟩), .agg #[.int .i64 what, .int .i64 at_, .int .u8 kind, .bool must, .int .u64 none_, .slice K ks.length ck]] w (RToldPost (tellA l sp what at_ kind none_ ks) base g B l (spoilA l sp what at_ kind must ks) w) := by
 have k0 : (what == 0) = false := by simpa using h0
 have k1 : (what == 1) = false := by simpa using h1
 have k2 : (what == 2) = false := by simpa using h2
 have k3 : (what == 3) = false := by simpa using h3
 have k4 : (what == 4) = false := by simpa using h4
 have k5 : (what == 5) = false := by simpa using h5
 have k6 : (what == 6) = false := by simpa using h6
 have k7 : (what == 7) = false := by simpa using h7
 have HTA : Aside0 (tellA l sp what at_ kind none_ ks = zTold) := ⟨by unfold tellA; rw [if_neg h0, if_neg h1, if_neg h2, if_neg h3, if_neg h4, if_neg h5, if_neg h6, if_neg h7]⟩
 have HSA : Aside0 (spoilA l sp what at_ kind must ks = sp) := ⟨by unfold spoilA; rw [if_neg h0, if_neg h1, if_neg h2, if_neg h3, if_neg h4, if_neg h5, if_neg h6]⟩
 clear h0 h1 h2 h3 h4 h5 h6 h7
 have hg := hf.lt
 have hb3 := below_alloc (below_alloc (below_alloc (Below.refl w.heap.size w) (.cells #[.int .i64 what, .int .i64 at_, .int .u8 kind, .bool must, .int .u64 none_, .slice K ks.length ck] 65)) (.cells #[.int .u64 0, .string ⟨#[]⟩, .int .u8 0, .int .u64 0, .string ⟨#[]⟩, .slice none 0 0, .slice none 0 0, .bool false, .int .i64 0] 61)) (.cells #[.int .u64 0, .string ⟨#[]⟩, .int .u8 0, .int .u64 0, .string ⟨#[]⟩, .slice none 0 0, .slice none 0 0, .bool false, .int .i64 0] 61)
 have bA := ((Blk.new w #[.int .i64 what, .int .i64 at_, .int .u8 kind, .bool must, .int .u64 none_, .slice K ks.length ck] 65).alloc (.cells #[.int .u64 0, .string ⟨#[]⟩, .int .u8 0, .int .u64 0, .string ⟨#[]⟩, .slice none 0 0, .slice none 0 0, .bool false, .int .i64 0] 61)).alloc (.cells #[.int .u64 0, .string ⟨#[]⟩, .int .u8 0, .int .u64 0, .string ⟨#[]⟩, .slice none 0 0, .slice none 0 0, .bool false, .int .i64 0] 61)
 have bR := (Blk.new (w.alloc (.cells #[.int .i64 what, .int .i64 at_, .int .u8 kind, .bool must, .int .u64 none_, .slice K ks.length ck] 65)) #[.int .u64 0, .string ⟨#[]⟩, .int .u8 0, .int .u64 0, .string ⟨#[]⟩, .slice none 0 0, .slice none 0 0, .bool false, .int .i64 0] 61).alloc (.cells #[.int .u64 0, .string ⟨#[]⟩, .int .u8 0, .int .u64 0, .string ⟨#[]⟩, .slice none 0 0, .slice none 0 0, .bool false, .int .i64 0] 61)
 have bD := Blk.new ((w.alloc (.cells #[.int .i64 what, .int .i64 at_, .int .u8 kind, .bool must, .int .u64 none_, .slice K ks.length ck] 65)).alloc (.cells #[.int .u64 0, .string ⟨#[]⟩, .int .u8 0, .int .u64 0, .string ⟨#[]⟩, .slice none 0 0, .slice none 0 0, .bool false, .int .i64 0] 61)) #[.int .u64 0, .string ⟨#[]⟩, .int .u8 0, .int .u64 0, .string ⟨#[]⟩, .slice none 0 0, .slice none 0 0, .bool false, .int .i64 0] 61
 simp only [World.size_alloc] at bR bD
 have HF1 := Aside0.mk (hf.below hb3)
 have HK1 := Aside0.mk (Kd.C_below hK hb3)
 have HKI := Aside0.mk hk
 have HMY := Aside0.mk hmy
 clear hf hK hk hmy
 go_enter Try.func48, Try.ntmps48
 go_upto_region 2 with fail
 obtain ⟨w1, e1⟩ : ∃ W, ((w.alloc (.cells #[.int .i64 what, .int .i64 at_, .int .u8 kind, .bool must, .int .u64 none_, .slice K ks.length ck] 65)).alloc (.cells #[.int .u64 0, .string ⟨#[]⟩, .int .u8 0, .int .u64 0, .string ⟨#[]⟩, .slice none 0 0, .slice none 0 0, .bool false, .int .i64 0] 61)).alloc (.cells #[.int .u64 0, .string ⟨#[]⟩, .int .u8 0, .int .u64 0, .string ⟨#[]⟩, .slice none 0 0, .slice none 0 0, .bool false, .int .i64 0] 61) = W := ⟨_, rfl⟩
 obtain ⟨r, er⟩ : ∃ b, w.heap.size + 1 = b := ⟨_, rfl⟩
 obtain ⟨d, ed⟩ : ∃ b, w.heap.size + 1 + 1 = b := ⟨_, rfl⟩
 have hrd : w.heap.size ≤ r ∧ w.heap.size ≤ d ∧ r < d := by omega
 rw [e1] at hb3 bA bR bD HF1 HK1 ⊢
 rw [ed] at bD ⊢
 rw [er] at bR ⊢
 clear e1 ed er
 have hdl := bD.lt
 have hsz := hb3.size
 have HB1 := Aside0.mk hb3
 have BR1 := Aside0.mk bR
 have BD1 := Aside0.mk bD
 clear hb3 bR bD
 obtain ⟨p0, p1, p2, p3, p4, p5⟩ := bA.ask
 clear bA
 have HF2 := HF1
 have HB2 := Aside0.mk (Bg.of (g := g) HB1.out)
 have BR2 := BR1
 have BD2 := BD1
 obtain ⟨d0, d1, d2, d3, d4, d5, d6, d7, d8⟩ := BD2.out.nine
 obtain ⟨r0, r1, r2, r3, r4, r5, r6, r7, r8⟩ := BR2.out.nine
 have f1 := BR2.out.fz
 have f2 := BD2.out.fz
 go_wp2_with fail
 refine bodyPost_ret (results_cell_row rfl _ _ r 61 #[.int .u64 0, .string ⟨#[]⟩, .int .u8 0, .int .u64 0, .string ⟨#[]⟩, .slice none 0 0, .slice none 0 0, .bool false, .int .i64 0] (0, 0) _ rfl (put9_blk BR2.out _ _ _ _ _ _ _ _ _) Try.underlying61 rfl (by kernel_rfl)) rfl ?_
 rw [HTA.out, HSA.out]
 refine ⟨none, 0, none, 0, rfl, Kd.R_nil _ _ _ _ _, Kd.R_nil _ _ _ _ _, HF2.out.out2 BR2.out BD2.out (by decide) (fun k hk1 hk2 => ?_) (by omega) (by omega), put9_bg HB2.out hrd.1 _ _ _ _ _ _ _ _ _⟩
 refine (put9_heap _ _ _ _ _ _ _ _ _ _ _ hk1).trans ?_; rfl
theorem meant48_all {w : World} {base g B : Nat} {l : List S25} {sp : Bool} (hf : RSB w base g B l sp) (hB : B ≤ w.heap.size) (hgB : g < B) (hk : ∀ x ∈ l, itemsN x ≤ 4294967296) (hmy : ∀ x ∈ l, mayB x = true) (what at_ kind : Int) (must : Bool) (none_ : Int) (ks : List Int) (K : Option Addr) (ck : Nat) (hK : Kd.C (Kd.int .u8) w K ks.length ks) (hck : ks.length ≤ ck) :
  Calls Try.prog 48 #[.pointer (some ⟨g, 0, none⟩), .agg #[.int .i64 what, .int .i64 at_, .int .u8 kind, .bool must, .int .u64 none_, .slice K ks.length ck]] w (RToldPost (tellA l sp what at_ kind none_ ks) base g B l (spoilA l sp what at_ kind must ks) w) := by
 by_cases h0 : what = 0
 ·subst h0; exact meant48_0 hf hB hgB hk hmy at_ kind must none_ ks K ck hK hck
 by_cases h1 : what = 1
 ·subst h1; exact meant48_1 hf hB hgB hk hmy at_ kind must none_ ks K ck hK hck
 by_cases h2 : what = 2
 ·subst h2; exact meant48_2 hf hB hgB hk hmy at_ kind must none_ ks K ck hK hck
 by_cases h3 : what = 3
 ·subst h3; exact meant48_3 hf hB hgB hk hmy at_ kind must none_ ks K ck hK hck
 by_cases h4 : what = 4
 ·subst h4; exact meant48_4 hf hB hgB hk hmy at_ kind must none_ ks K ck hK hck
 by_cases h5 : what = 5
 ·subst h5; exact meant48_5 hf hB hgB hk hmy at_ kind must none_ ks K ck hK hck
 by_cases h6 : what = 6
 ·subst h6; exact meant48_6 hf hB hgB hk hmy at_ kind must none_ ks K ck hK hck
 by_cases h7 : what = 7
 ·subst h7; exact meant48_7 hf hB hgB hk hmy at_ kind must none_ ks K ck hK hck
 exact meant48_x hf hB hgB hk hmy what h0 h1 h2 h3 h4 h5 h6 h7 at_ kind must none_ ks K ck hK hck
end Go.Proofs.Ytdilbnggedidnaa.PVal
namespace Go.Proofs.Ytdilbnggedidnaa.PVal
open Go.RowKit Go.Shelf Go.Proofs.YtdilbnggedidnaaW.PrintWords Go.Proofs.YtdilbnggedidnaaW.PrintLast
set_option linter.unusedVariables false
set_option linter.unusedSimpArgs false
def SaS (w : World) (t : Told) (A1 : Option Addr) (c1 : Nat) (B1 : Option Addr) (d1 : Nat) (A2 : Option Addr) (c2 : Nat) (B2 : Option Addr) (d2 : Nat) (b0 b1 : Nat) (wr : World) : Prop :=
 Blk wr b0 #[.int .u64 t.n, .string t.s, .int .u8 t.v.f0, .int .u64 t.v.f1, .string t.v.f2, .slice A1 t.v.f3.length c1, .slice B1 t.l.length d1, .bool t.is, .int .i64 t.e] 61 ∧ Blk wr b1 #[.int .u64 t.n, .string t.s, .int .u8 t.v.f0, .int .u64 t.v.f1, .string t.v.f2, .slice A2 t.v.f3.length c2, .slice B2 t.l.length d2, .bool t.is, .int .i64 t.e] 61 ∧ Kd.string.C wr B1 t.l.length t.l ∧ Kd.string.C wr B2 t.l.length t.l ∧ Below w.heap.size w wr
theorem SaS.below {w : World} {t : Told} {A1 : Option Addr} {c1 : Nat} {B1 : Option Addr} {d1 : Nat} {A2 : Option Addr} {c2 : Nat} {B2 : Option Addr} {d2 : Nat} {b0 b1 : Nat} {wr wx : World} (h : SaS w t A1 c1 B1 d1 A2 c2 B2 d2 b0 b1 wr) (hb : Below wr.heap.size wr wx) : SaS w t A1 c1 B1 d1 A2 c2 B2 d2 b0 b1 wx :=
 ⟨h.1.below hb, h.2.1.below hb, Kd.C_below h.2.2.1 hb, Kd.C_below h.2.2.2.1 hb, below_step h.2.2.2.2 hb⟩
theorem same46_eq (t : Told) (hs : itemsN t.v ≤ 4294967296) (hl : t.l.length ≤ 4294967296) (A1 : Option Addr) (c1 : Nat) (B1 : Option Addr) (d1 : Nat) (A2 : Option Addr) (c2 : Nat) (B2 : Option Addr) (d2 : Nat) (w : World)
  (hA1 : k25.C w A1 t.v.f3.length t.v.f3) (hc1 : t.v.f3.length ≤ c1) (hA2 : k25.C w A2 t.v.f3.length t.v.f3) (hc2 : t.v.f3.length ≤ c2) (hB1 : Kd.string.C w B1 t.l.length t.l) (hB2 : Kd.string.C w B2 t.l.length t.l) :
  Calls Try.prog 46 #[.agg #[.int .u64 t.n, .string t.s, .int .u8 t.v.f0, .int .u64 t.v.f1, .string t.v.f2, .slice A1 t.v.f3.length c1, .slice B1 t.l.length d1, .bool t.is, .int .i64 t.e], .agg #[.int .u64 t.n, .string t.s, .int .u8 t.v.f0, .int .u64 t.v.f1, .string t.v.f2, .slice A2 t.v.f3.length c2, .slice B2 t.l.length d2, .bool t.is, .int .i64 t.e]] w fun e w' => e = .returned (.bool true) ∧ Below w.heap.size w w' := by
 have hal := below_alloc (below_alloc (Below.refl w.heap.size w) (.cells #[.int .u64 t.n, .string t.s, .int .u8 t.v.f0, .int .u64 t.v.f1, .string t.v.f2, .slice A1 t.v.f3.length c1, .slice B1 t.l.length d1, .bool t.is, .int .i64 t.e] 61)) (.cells #[.int .u64 t.n, .string t.s, .int .u8 t.v.f0, .int .u64 t.v.f1, .string t.v.f2, .slice A2 t.v.f3.length c2, .slice B2 t.l.length d2, .bool t.is, .int .i64 t.e] 61)
 have b0 := (Blk.new w #[.int .u64 t.n, .string t.s, .int .u8 t.v.f0, .int .u64 t.v.f1, .string t.v.f2, .slice A1 t.v.f3.length c1, .slice B1 t.l.length d1, .bool t.is, .int .i64 t.e] 61).alloc (.cells #[.int .u64 t.n, .string t.s, .int .u8 t.v.f0, .int .u64 t.v.f1, .string t.v.f2, .slice A2 t.v.f3.length c2, .slice B2 t.l.length d2, .bool t.is, .int .i64 t.e] 61)
 have b1 := Blk.new (w.alloc (.cells #[.int .u64 t.n, .string t.s, .int .u8 t.v.f0, .int .u64 t.v.f1, .string t.v.f2, .slice A1 t.v.f3.length c1, .slice B1 t.l.length d1, .bool t.is, .int .i64 t.e] 61)) #[.int .u64 t.n, .string t.s, .int .u8 t.v.f0, .int .u64 t.v.f1, .string t.v.f2, .slice A2 t.v.f3.length c2, .slice B2 t.l.length d2, .bool t.is, .int .i64 t.e] 61
 rw [World.size_alloc] at b1
 have HA1 := Aside0.mk (Kd.C_below hA1 hal)
 have HA2 := Aside0.mk (Kd.C_below hA2 hal)
 have HB1 := Aside0.mk (Kd.C_below hB1 hal)
 have HB2 := Aside0.mk (Kd.C_below hB2 hal)
 have HS := Aside0.mk hs
 clear hA1 hA2 hB1 hB2 hs
 go_enter Try.func46, Try.ntmps46
 go_upto_region 1 with fail
 obtain ⟨w1, e1⟩ : ∃ W, (w.alloc (.cells #[.int .u64 t.n, .string t.s, .int .u8 t.v.f0, .int .u64 t.v.f1, .string t.v.f2, .slice A1 t.v.f3.length c1, .slice B1 t.l.length d1, .bool t.is, .int .i64 t.e] 61)).alloc (.cells #[.int .u64 t.n, .string t.s, .int .u8 t.v.f0, .int .u64 t.v.f1, .string t.v.f2, .slice A2 t.v.f3.length c2, .slice B2 t.l.length d2, .bool t.is, .int .i64 t.e] 61) = W := ⟨_, rfl⟩
 obtain ⟨q1, eq1⟩ : ∃ b, w.heap.size + 1 = b := ⟨_, rfl⟩
 obtain ⟨q0, eq0⟩ : ∃ b, w.heap.size = b := ⟨_, rfl⟩
 rw [e1] at hal b0 b1 HA1 HA2 HB1 HB2 ⊢
 rw [eq1] at b1 ⊢
 rw [eq0] at b0 ⊢
 have HV1 : Aside0 (SaS w t A1 c1 B1 d1 A2 c2 B2 d2 q0 q1 w1) := ⟨b0, b1, HB1.out, HB2.out, hal⟩
 clear e1 eq1 eq0 hal HB1 HB2
 obtain ⟨x0, x1, x2, x3, x4, x5, x6, x7, x8⟩ := b0.nine
 obtain ⟨y0, y1, y2, y3, y4, y5, y6, y7, y8⟩ := b1.nine
 clear b0 b1
 go_wp2_with fail
 refine (same19_any t.v t.v A1 A2 c1 c2 _ HA1.out hc1 HS.out HA2.out hc2).mono ?_
 rintro e w2 ⟨he, hb2⟩
 rw [veq_refl] at he
 subst he
 have HV2 := Aside0.mk (HV1.out.below hb2)
 clear hb2 x0 x1 x2 x3 x4 x5 x6 x7 x8 y0 y1 y2 y3 y4 y5 y6 y7 y8 HA1 HA2
 obtain ⟨x0, x1, x2, x3, x4, x5, x6, x7, x8⟩ := HV2.out.1.nine
 obtain ⟨y0, y1, y2, y3, y4, y5, y6, y7, y8⟩ := HV2.out.2.1.nine
 go_wp2_with fail
 clear x0 x1 x2 x3 x4 x5 x6 x7 x8 y0 y1 y2 y3 y4 y5 y6 y7 y8
 go_loopg [5] t.l.length (fun gk v5 wr => ∃ j : Nat, v5 = .int .i64 (j : Int) ∧ Aside0 (j ≤ t.l.length ∧ gk = t.l.length - j) ∧ Aside0 (SaS w t A1 c1 B1 d1 A2 c2 B2 d2 q0 q1 wr))
 case atStart => exact ⟨0, rfl, ⟨by omega, rfl⟩, HV2⟩
 case round =>
  obtain ⟨j, rfl, HI, HVi⟩ := hrel
  obtain ⟨hj, hgk⟩ := HI.out
  have HG := Aside0.mk hgk
  clear HI hgk
  obtain ⟨x0, x1, x2, x3, x4, x5, x6, x7, x8⟩ := HVi.out.1.nine
  obtain ⟨y0, y1, y2, y3, y4, y5, y6, y7, y8⟩ := HVi.out.2.1.nine
  by_cases hlt : j < t.l.length
  ·obtain ⟨ad1, e1, z1⟩ := Kd.at_string HVi.out.2.2.1 (j : Int) (by omega) (by omega)
   obtain ⟨ad2, e2, z2⟩ := Kd.at_string HVi.out.2.2.2.1 (j : Int) (by omega) (by omega)
   subst e1 e2
   simp only [Int.toNat_natCast] at z1 z2
   obtain ⟨s, es⟩ : ∃ s, rdOf ByteArray.empty t.l (j : Int) = s := ⟨_, rfl⟩
   rw [es] at z1 z2
   clear es
   have hlt2 : (j : Int) < (t.l.length : Int) := by omega
   have hj0 : (0 : Int) ≤ (j : Int) := by omega
   clear x0 x1 x2 x3 x4 x5 x7 x8 y0 y1 y2 y3 y4 y5 y7 y8
   go_wp2_with fail
   go_quiet (fail)
   have HVd := Aside0.mk (HVi.out.below (below_drewN (Below.refl _ _) nq))
   clear z1 z2 x6 y6
   generalize wr.drewN nq = wd at HVd ⊢
   go_wp2_with fail
   go_roundg (t.l.length - (j + 1))
   case measure => rw [HG.out]; omega
   case rel => exact ⟨j + 1, by go_num, ⟨by omega, rfl⟩, HVd⟩
  ·obtain rfl : j = t.l.length := by omega
   go_wp2_with fail
   go_ret
   exact ⟨rfl, HVi.out.2.2.2.2⟩
end Go.Proofs.Ytdilbnggedidnaa.PVal
namespace Go.Proofs.Ytdilbnggedidnaa.PVal
open Go.RowKit Go.Shelf Go.Proofs.YtdilbnggedidnaaW.PrintWords Go.Proofs.YtdilbnggedidnaaW.PrintLast
set_option linter.unusedVariables false
set_option linter.unusedSimpArgs false
theorem below_bg {B g : Nat} {w a b : World} (h : Below B w a) (k : Bg g a b) (hg : B ≤ g) (hB : B ≤ a.heap.size) : Below B w b := ⟨k.os.trans h.os, k.tape.trans h.tape, k.output.trans h.output, Nat.le_trans h.size k.size, fun i hi => (k.block i (by omega) (by omega)).trans (h.block i hi)⟩
section
variable {w : World} {base g : Nat} {ts : List ByteArray} {v : S25}
end
def SyS (w : World) (x : S25) (A : Option Addr) (c : Nat) (base g : Nat) (l : List S25) (sp : Bool) (wa : World) : Prop :=
 Below w.heap.size w wa ∧ FS wa base g l sp ∧ Blk wa w.heap.size #[.int .u8 x.f0, .int .u64 x.f1, .string x.f2, .slice A x.f3.length c] 25 ∧ w.heap.size < g
theorem SyS.bg {w : World} {x : S25} {A : Option Addr} {c base g : Nat} {l : List S25} {sp sp' : Bool} {wa wb : World} (h : SyS w x A c base g l sp wa) (hf : FS wb base g l sp') (hb : Bg g wa wb) : SyS w x A c base g l sp' wb := by
 obtain ⟨h1, h2, h3, h4⟩ := h
 exact ⟨below_bg h1 hb (by omega) h1.size, hf, h3.bg hb (by omega), h4⟩
end Go.Proofs.Ytdilbnggedidnaa.PVal
namespace Go.Proofs.Ytdilbnggedidnaa.PVal
open Go.RowKit Go.Shelf Go.Proofs.YtdilbnggedidnaaW.PrintWords Go.Proofs.YtdilbnggedidnaaW.PrintLast
set_option linter.unusedVariables false
set_option linter.unusedSimpArgs false
def nmO1 : ByteArray := ⟨#[97, 109, 113, 112, 58, 114, 101, 99, 101, 105, 118, 101, 100, 58, 108, 105, 115, 116]⟩
def nmO2 : ByteArray := ⟨#[97, 109, 113, 112, 58, 97, 99, 99, 101, 112, 116, 101, 100, 58, 108, 105, 115, 116]⟩
def nmO3 : ByteArray := ⟨#[97, 109, 113, 112, 58, 114, 101, 106, 101, 99, 116, 101, 100, 58, 108, 105, 115, 116]⟩
def nmO4 : ByteArray := ⟨#[97, 109, 113, 112, 58, 114, 101, 108, 101, 97, 115, 101, 100, 58, 108, 105, 115, 116]⟩
def nmO5 : ByteArray := ⟨#[97, 109, 113, 112, 58, 109, 111, 100, 105, 102, 105, 101, 100, 58, 108, 105, 115, 116]⟩
theorem newF_right {v : S25} {code : Int} {name : ByteArray} {l : List S25} (h : newF v code name = some l) : rightB v = true ∧ v.f0 = 25 ∧ (∀ x ∈ l, mayB x = true) ∧ (rd_T25 v.f3 1).f3 = l := by
 unfold newF at h
 split at h
 case isFalse => cases h
 case isTrue hq =>
  obtain ⟨hr, h25, h22, _⟩ := hq
  have hl := Option.some.inj h
  refine ⟨hr, h25, ?_, hl⟩
  obtain ⟨a, b, hab⟩ := desc_two hr h25
  have hb : rd_T25 v.f3 1 = b := by rw [hab]; rfl
  rw [hb] at hl
  unfold rightB at hr
  rw [Bool.and_eq_true] at hr
  have h2 := hr.2
  rw [mayB_eq, hab] at h2
  simp only [Bool.and_eq_true, mayL] at h2
  have h3 := h2.1.2.2.1
  rw [mayB_eq] at h3
  simp only [Bool.and_eq_true, mayL_all] at h3
  rw [← hl]
  exact fun x hx => List.all_eq_true.1 h3.1.2 x hx
end Go.Proofs.Ytdilbnggedidnaa.PVal
namespace Go.Proofs.Ytdilbnggedidnaa.PVal
open Go.RowKit Go.Shelf Go.Proofs.YtdilbnggedidnaaW.PrintWords Go.Proofs.YtdilbnggedidnaaW.PrintLast
set_option linter.unusedVariables false
set_option linter.unusedSimpArgs false
theorem newF_items {v : S25} {code : Int} {name : ByteArray} {l : List S25} (h : newF v code name = some l) : itemsL l ≤ itemsN v := by
 obtain ⟨hr, h25, _, rfl⟩ := newF_right h
 obtain ⟨a, b, hab⟩ := desc_two hr h25
 have hb : rd_T25 v.f3 1 = b := by rw [hab]; rfl
 rw [hb, itemsN_eq v, hab]
 simp only [itemsL]
 have := itemsN_eq b
 omega
end Go.Proofs.Ytdilbnggedidnaa.PVal
namespace Go.Proofs.Ytdilbnggedidnaa.PVal
open Go.RowKit Go.Shelf Go.Proofs.YtdilbnggedidnaaW.PrintWords Go.Proofs.YtdilbnggedidnaaW.PrintLast
set_option linter.unusedVariables false
set_option linter.unusedSimpArgs false
def formC : Array Value := #[.int .u8 1, .int .u64 35, .string nmO1, .int .i64 2, .func (.func 107) #[] #[], .func (.func 108) #[] #[], .int .u8 2, .int .u64 36, .string nmO2, .int .i64 0, .func (.func 109) #[] #[], .func (.func 110) #[] #[], .int .u8 3, .int .u64 37, .string nmO3, .int .i64 1, .func (.func 111) #[] #[], .func (.func 112) #[] #[], .int .u8 4, .int .u64 38, .string nmO4, .int .i64 0, .func (.func 109) #[] #[], .func (.func 110) #[] #[], .int .u8 5, .int .u64 39, .string nmO5, .int .i64 3, .func (.func 113) #[] #[], .func (.func 115) #[] #[]]
end Go.Proofs.Ytdilbnggedidnaa.PVal
namespace Go.Proofs.Ytdilbnggedidnaa.PVal
open Go.RowKit Go.Shelf Go.Proofs.YtdilbnggedidnaaW.PrintWords Go.Proofs.YtdilbnggedidnaaW.PrintLast
set_option linter.unusedVariables false
set_option linter.unusedSimpArgs false
def PutS (w : World) (k a b : Int) (s : ByteArray) (b0 b1 bF : Nat) (wr : World) : Prop := Blk wr b0 #[.int .u8 k, .int .u64 a, .int .u64 b, .string s] 72 ∧ Blk wr b1 #[.int .u8 0, .int .u64 0, .string ⟨#[]⟩, .slice none 0 0] 25 ∧ Blk wr bF formC 105 ∧ Below w.heap.size w wr
theorem PutS.alloc {w : World} {k a b : Int} {s : ByteArray} {b0 b1 bF : Nat} {wr : World} (h : PutS w k a b s b0 b1 bF wr) (o : Obj) : PutS w k a b s b0 b1 bF (wr.alloc o) := ⟨h.1.alloc o, h.2.1.alloc o, h.2.2.1.alloc o, below_alloc h.2.2.2 o⟩
end Go.Proofs.Ytdilbnggedidnaa.PVal
namespace Go.Proofs.Ytdilbnggedidnaa.PVal
open Go.RowKit Go.Shelf Go.Proofs.YtdilbnggedidnaaW.PrintWords Go.Proofs.YtdilbnggedidnaaW.PrintLast
set_option linter.unusedVariables false
set_option linter.unusedSimpArgs false
structure Bg2 (g q : Nat) (w w' : World) : Prop where
 os : w'.os = w.os
 tape : w'.tape = w.tape
 output : w'.output = w.output
 size : w.heap.size ≤ w'.heap.size
 block : ∀ k, k < w.heap.size → k ≠ g → k ≠ q → w'.heap[k]? = w.heap[k]?
theorem Bg2.of {g q : Nat} {w w' : World} (h : Bg g w w') : Bg2 g q w w' := ⟨h.os, h.tape, h.output, h.size, fun k hk hg _ => h.block k hk hg⟩
theorem Bg2.bg {g q : Nat} {a b c : World} (h : Bg2 g q a b) (k : Bg g b c) : Bg2 g q a c := ⟨k.os.trans h.os, k.tape.trans h.tape, k.output.trans h.output, Nat.le_trans h.size k.size, fun i hi hg hq => (k.block i (Nat.lt_of_lt_of_le hi h.size) hg).trans (h.block i hi hg hq)⟩
theorem Bg2.set {g q : Nat} {w w' : World} (h : Bg2 g q w w') (j : Nat) (v : Value) : Bg2 g q w (w'.setCell ⟨q, j, none⟩ v) := ⟨h.os, h.tape, h.output, by simpa [World.setCell] using h.size, fun k hk hg hq => (Below.heap_setCell _ _ _ k hq).trans (h.block k hk hg hq)⟩
theorem Bg2.below {g q B : Nat} {w w' : World} (h : Bg2 g q w w') (hg : B ≤ g) (hq : B ≤ q) (hB : B ≤ w.heap.size) : Below B w w' := ⟨h.os, h.tape, h.output, h.size, fun k hk => h.block k (by omega) (by omega) (by omega)⟩
end Go.Proofs.Ytdilbnggedidnaa.PVal
namespace Go.Proofs.Ytdilbnggedidnaa.PVal
open Go.RowKit Go.Shelf Go.Proofs.YtdilbnggedidnaaW.PrintWords Go.Proofs.YtdilbnggedidnaaW.PrintLast
set_option linter.unusedVariables false
set_option linter.unusedSimpArgs false
def GetS (w : World) (v : S25) (A : Option Addr) (c : Nat) (b0 b1 bF : Nat) (wr : World) : Prop := Blk wr b0 #[.int .u8 v.f0, .int .u64 v.f1, .string v.f2, .slice A v.f3.length c] 25 ∧ Blk wr b1 #[.int .u8 0, .int .u64 0, .int .u64 0, .string ⟨#[]⟩] 72 ∧ Blk wr bF formC 105 ∧ k25.C wr A v.f3.length v.f3 ∧ Below w.heap.size w wr
theorem GetS.below {w : World} {v : S25} {A : Option Addr} {c b0 b1 bF : Nat} {wr wx : World} (h : GetS w v A c b0 b1 bF wr) (hb : Below wr.heap.size wr wx) : GetS w v A c b0 b1 bF wx := ⟨h.1.below hb, h.2.1.below hb, h.2.2.1.below hb, Kd.C_below h.2.2.2.1 hb, below_step h.2.2.2.2 hb⟩
end Go.Proofs.Ytdilbnggedidnaa.PVal
namespace Go.Proofs.Ytdilbnggedidnaa.PVal
open Go.RowKit Go.Proofs.YtdilbnggedidnaaW.PrintWords Go.Proofs.YtdilbnggedidnaaW.PrintLast
set_option linter.unusedVariables false
set_option linter.unusedSimpArgs false
theorem cells3_ : Try.prog.cellsOf 3 = 1 := by kernel_rfl
theorem cells4_ : Try.prog.cellsOf 4 = 1 := by kernel_rfl
theorem cells63_ : Try.prog.cellsOf 63 = 1 := by kernel_rfl
theorem cells65_ : Try.prog.cellsOf 65 = 6 := by kernel_rfl
theorem list6 {α : Type} {l : List α} (h : l.length = 6) : ∃ a b c d e f, l = [a, b, c, d, e, f] := by
 match l, h with
 | [a, b, c, d, e, f], _ => exact ⟨a, b, c, d, e, f, rfl⟩
theorem list_each {α : Type} (z : α) : ∀ (n : Nat) (Q : Nat → α → Prop), (∀ i, i < n → ∃ y, Q i y) → ∃ l : List α, l.length = n ∧ ∀ i, i < n → Q i (l.getD i z)
 | 0, Q, _ => ⟨[], rfl, fun i h => absurd h (by omega)⟩
 | n + 1, Q, h => by
  obtain ⟨y, hy⟩ := h 0 (by omega)
  obtain ⟨l, hl, hq⟩ := list_each z n (fun i => Q (i + 1)) (fun i hi => h (i + 1) (by omega))
  refine ⟨y :: l, by simp [hl], fun i hi => ?_⟩
  cases i with
  | zero => exact hy
  | succ i => exact hq i (by omega)
end Go.Proofs.Ytdilbnggedidnaa.PVal
