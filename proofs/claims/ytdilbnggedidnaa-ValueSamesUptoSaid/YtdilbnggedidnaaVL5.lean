import Derived.Test.YtdilbnggedidnaaV3
namespace Go.Proofs.Ytdilbnggedidnaa.PVal
open Go.RowKit Go.Shelf Go.Proofs.YtdilbnggedidnaaW.PrintWords Go.Proofs.YtdilbnggedidnaaW.PrintLast
set_option linter.unusedVariables false
set_option linter.unusedSimpArgs false
set_option maxRecDepth 100000 in
set_option maxHeartbeats 4000000 in
theorem sames5_any (x y : S25) (w : World) (hox : okV x) (A : Option Addr) (c : Nat) (ha : k25.C w A x.f3.length x.f3) (hc0 : x.f3.length ≤ c) (hoy : okV y) (B : Option Addr) (d : Nat) (hb : k25.C w B y.f3.length y.f3) (hc1 : y.f3.length ≤ d) (hx : itemsN x + textsN x + (itemsN y + textsN y) ≤ 1048576) :
  Calls Try.prog 5 #[.agg #[.int .u8 x.f0, .int .u64 x.f1, .string x.f2, .slice A x.f3.length c], .agg #[.int .u8 y.f0, .int .u64 y.f1, .string y.f2, .slice B y.f3.length d]] w fun e w' => e = .returned (.bool true) ∧ Below w.heap.size w w' := by
 have HA0 := Aside0.mk ha
 have HA1 := Aside0.mk hb
 have hN : itemsN x ≤ 4294967296 := by omega
 have hM : itemsN y ≤ 4294967296 := by omega
 have hNL : itemsL x.f3 ≤ 4294967296 := by rw [itemsN_eq] at hN; omega
 clear ha hb hox hoy
 go_enter Try.func5, Try.ntmps5
 go_wp2_with fail
 have bX0 := ((Blk.new w #[.int .u8 x.f0, .int .u64 x.f1, .string x.f2, .slice A x.f3.length c] 25).alloc (.cells #[.int .u8 y.f0, .int .u64 y.f1, .string y.f2, .slice B y.f3.length d] 25)).alloc (.cells #[.int .u8 x.f0, .int .u64 x.f1, .string x.f2, .slice A x.f3.length c, .int .u8 y.f0, .int .u64 y.f1, .string y.f2, .slice B y.f3.length d] 25)
 have bX1 := (Blk.new (w.alloc (.cells #[.int .u8 x.f0, .int .u64 x.f1, .string x.f2, .slice A x.f3.length c] 25)) #[.int .u8 y.f0, .int .u64 y.f1, .string y.f2, .slice B y.f3.length d] 25).alloc (.cells #[.int .u8 x.f0, .int .u64 x.f1, .string x.f2, .slice A x.f3.length c, .int .u8 y.f0, .int .u64 y.f1, .string y.f2, .slice B y.f3.length d] 25)
 have bL := Blk.new ((w.alloc (.cells #[.int .u8 x.f0, .int .u64 x.f1, .string x.f2, .slice A x.f3.length c] 25)).alloc (.cells #[.int .u8 y.f0, .int .u64 y.f1, .string y.f2, .slice B y.f3.length d] 25)) (flatK [⟨x, A, c⟩, ⟨y, B, d⟩]).toArray 25
 have hB0 := below_alloc (below_alloc (below_alloc (Below.refl w.heap.size w) (.cells #[.int .u8 x.f0, .int .u64 x.f1, .string x.f2, .slice A x.f3.length c] 25)) (.cells #[.int .u8 y.f0, .int .u64 y.f1, .string y.f2, .slice B y.f3.length d] 25)) (.cells #[.int .u8 x.f0, .int .u64 x.f1, .string x.f2, .slice A x.f3.length c, .int .u8 y.f0, .int .u64 y.f1, .string y.f2, .slice B y.f3.length d] 25)
 simp only [World.size_alloc] at bL bX1
 have hCL := C_lit (ks := [⟨x, A, c⟩, ⟨y, B, d⟩]) bL (by simp) (by
  intro q hq
  simp only [List.mem_cons, List.not_mem_nil, or_false] at hq
  rcases hq with rfl | rfl
  ·exact ⟨Kd.C_below HA0.out hB0, hc0⟩
  ·exact ⟨Kd.C_below HA1.out hB0, hc1⟩)
 refine (large14_any [x, y] _ 2 _ hCL (by simp) (by simp only [itemsL, textsL]; omega)).mono ?_
 rintro e w1 ⟨rfl, hb1⟩
 replace bX0 := bX0.below hb1
 replace bX1 := bX1.below hb1
 have HB1 := Aside0.mk (below_step hB0 hb1)
 clear bL hB0 hCL hb1
 by_cases hl : largeB [x, y] = true
 ·rw [hl]
  go_wp2_with fail
  refine (works15_any _).mono ?_
  rintro e w2 ⟨rfl, hb2⟩
  go_wp2_with fail
  go_ret
  exact ⟨rfl, below_step HB1.out hb2⟩
 replace hl : largeB [x, y] = false := by simpa using hl
 rw [hl]
 clear hl
 obtain ⟨p0, p1, p2, p3⟩ := bX0.c4
 go_wp2_with fail
 refine (copy31_any x hN A c _ (Kd.C_below HA0.out HB1.out) hc0).mono ?_
 rintro e w2 ⟨A2, c2, rfl, hR2, hb2⟩
 have hq1 := HB1.out.size
 have hl1 := bX0.lt
 have hl2 := bX1.lt
 have hl3 := hb2.size
 have hal := below_alloc (Below.refl w2.heap.size w2) (.cells #[.int .u8 x.f0, .int .u64 x.f1, .string x.f2, .slice A2 x.f3.length c2] 25)
 have bX2 := (bX0.below hb2).below hal
 have bY2 := (bX1.below hb2).below hal
 have bC := Blk.new w2 #[.int .u8 x.f0, .int .u64 x.f1, .string x.f2, .slice A2 x.f3.length c2] 25
 have HB2 := Aside0.mk (below_step (below_step HB1.out hb2) hal)
 have HRc : Aside0 (k25.R 25 _ w1.heap.size (fun k => k < w2.heap.size) (.slice A2 x.f3.length c2) x.f3) := ⟨Kd.R_below (Kd.R_mono (Kd.R_bound hR2) (fun k hk => hk.2.2.1)) hal⟩
 have hc2 := (Kd.R_reads' hR2).2.1
 clear p0 p1 p2 p3 bX0 bX1 hR2 hb2 hal HB1
 go_wp2_with fail
 obtain ⟨b1, e1⟩ : ∃ b, w.heap.size = b := ⟨_, rfl⟩
 obtain ⟨q1, e2⟩ : ∃ b, w1.heap.size = b := ⟨_, rfl⟩
 obtain ⟨b5, e3⟩ : ∃ b, w2.heap.size = b := ⟨_, rfl⟩
 obtain ⟨w3, e4⟩ : ∃ W, w2.alloc (.cells #[.int .u8 x.f0, .int .u64 x.f1, .string x.f2, .slice A2 x.f3.length c2] 25) = W := ⟨_, rfl⟩
 have HB3 : Aside0 (Below w.heap.size w w3) := ⟨by rw [← e4]; exact HB2.out⟩
 rw [e4] at bX2 bY2 bC HRc ⊢
 rw [e1] at bX2 bY2 hq1 hl1 hl2 ⊢
 rw [e2] at HRc hq1 hl1 hl2 hl3
 rw [e3] at bC HRc hl3 ⊢
 have HX := Aside0.mk (Kd.C_below HA0.out HB3.out)
 have HY := Aside0.mk (Kd.C_below HA1.out HB3.out)
 have HC := Aside0.mk (Kd.R_reads' HRc.out).2.2
 have HBE := Aside0.mk e1
 clear e4 e1 e2 e3 HB2
 refine start_ (n := 27) (S := fun w' => Blk w' b1 #[.int .u8 x.f0, .int .u64 x.f1, .string x.f2, .slice A x.f3.length c] 25 ∧ Blk w' (b1 + 1) #[.int .u8 y.f0, .int .u64 y.f1, .string y.f2, .slice B y.f3.length d] 25 ∧ Blk w' b5 #[.int .u8 x.f0, .int .u64 x.f1, .string x.f2, .slice A2 x.f3.length c2] 25) (ds := []) #[false, false, false, false, false, false, false, false, false, false, false, false, false, false, false, false, false, false, false, false, false, false, false, false, false, false, false] (by kernel_rfl) rfl rfl ⟨bX2, bY2, bC⟩ (fun hS => ?_)
 replace HX := Aside0.mk (Kd.C_below HX.out (below_drew (Below.refl _ _)))
 replace HY := Aside0.mk (Kd.C_below HY.out (below_drew (Below.refl _ _)))
 replace HC := Aside0.mk (Kd.C_below HC.out (below_drew (Below.refl _ _)))
 replace HRc := Aside0.mk (Kd.R_below HRc.out (below_drew (Below.refl _ _)))
 replace HB3 := Aside0.mk (below_drew HB3.out)
 generalize w3.drew = wd1 at HX HY HC HRc HB3 hS ⊢
 clear bX2 bY2 bC
 refine take_ (i := 0) (N := some 14) (v := .agg #[.int .u8 x.f0, .int .u64 x.f1, .string x.f2, .slice A x.f3.length c]) #[true, false, false, false, false, false, false, false, false, false, false, false, false, false, false, false, false, false, false, false, false, false, false, false, false, false, false] rfl rfl (by kernel_rfl) (fun _ _ _ h => h) (Or.inl ⟨by rfl, ?_⟩) hS rfl ?_
 ·rintro w' ⟨h0, h1, h2⟩
  obtain ⟨e0, e1, e2, e3⟩ := h0.c4
  go_simp
 refine norm_ (a' := ?_) ?_ ?_
 rotate_left
 ·try simp only [Act.put, putAll, List.setIfInBounds_toArray, List.set_cons_zero, List.set_cons_succ]
  rfl
 refine take_ (i := 1) (N := some 15) (v := .agg #[.int .u8 y.f0, .int .u64 y.f1, .string y.f2, .slice B y.f3.length d]) #[true, true, false, false, false, false, false, false, false, false, false, false, false, false, false, false, false, false, false, false, false, false, false, false, false, false, false] rfl rfl (by kernel_rfl) (fun _ _ _ h => h) (Or.inl ⟨by rfl, ?_⟩) hS rfl ?_
 ·rintro w' ⟨h0, h1, h2⟩
  obtain ⟨e0, e1, e2, e3⟩ := h1.c4
  go_simp
 refine norm_ (a' := ?_) ?_ ?_
 rotate_left
 ·try simp only [Act.put, putAll, List.setIfInBounds_toArray, List.set_cons_zero, List.set_cons_succ]
  rfl
 refine take_ (i := 3) (N := some 17) (v := .agg #[.int .u8 x.f0, .int .u64 x.f1, .string x.f2, .slice A x.f3.length c]) #[true, true, false, true, false, false, false, false, false, false, false, false, false, false, false, false, false, false, false, false, false, false, false, false, false, false, false] rfl rfl (by kernel_rfl) (fun _ _ _ h => h) (Or.inl ⟨by rfl, ?_⟩) hS rfl ?_
 ·rintro w' ⟨h0, h1, h2⟩
  obtain ⟨e0, e1, e2, e3⟩ := h0.c4
  go_simp
 refine norm_ (a' := ?_) ?_ ?_
 rotate_left
 ·try simp only [Act.put, putAll, List.setIfInBounds_toArray, List.set_cons_zero, List.set_cons_succ]
  rfl
 refine take_ (i := 4) (N := some 18) (v := .agg #[.int .u8 y.f0, .int .u64 y.f1, .string y.f2, .slice B y.f3.length d]) #[true, true, false, true, true, false, false, false, false, false, false, false, false, false, false, false, false, false, false, false, false, false, false, false, false, false, false] rfl rfl (by kernel_rfl) (fun _ _ _ h => h) (Or.inl ⟨by rfl, ?_⟩) hS rfl ?_
 ·rintro w' ⟨h0, h1, h2⟩
  obtain ⟨e0, e1, e2, e3⟩ := h1.c4
  go_simp
 refine norm_ (a' := ?_) ?_ ?_
 rotate_left
 ·try simp only [Act.put, putAll, List.setIfInBounds_toArray, List.set_cons_zero, List.set_cons_succ]
  rfl
 refine one_ (i := 2) (N := some 16) #[true, true, true, true, true, false, false, false, false, false, false, false, false, false, false, false, false, false, false, false, false, false, false, false, false, false, false] rfl rfl (by kernel_rfl) (by decide) (fun K hK => ?_)
 refine goes_ Try.func22 (by kernel_rfl) rfl #[.agg #[.int .u8 x.f0, .int .u64 x.f1, .string x.f2, .slice A x.f3.length c], .agg #[.int .u8 y.f0, .int .u64 y.f1, .string y.f2, .slice B y.f3.length d]] (by rfl) rfl rfl (by (try simp only [List.map_toArray, List.map_cons, List.map_nil]); first | done | rfl) ?_
 refine (same_any x y A B c d _ HX.out hc0 HY.out hc1).mono ?_
 rintro e w2 ⟨rfl, hb2⟩
 refine ⟨_, rfl, ?_⟩
 have hS2 : Blk w2 b1 #[.int .u8 x.f0, .int .u64 x.f1, .string x.f2, .slice A x.f3.length c] 25 ∧ Blk w2 (b1 + 1) #[.int .u8 y.f0, .int .u64 y.f1, .string y.f2, .slice B y.f3.length d] 25 ∧ Blk w2 b5 #[.int .u8 x.f0, .int .u64 x.f1, .string x.f2, .slice A2 x.f3.length c2] 25 := ⟨hS.1.below hb2, hS.2.1.below hb2, hS.2.2.below hb2⟩
 have HX2 := Aside0.mk (Kd.C_below HX.out hb2)
 have HY2 := Aside0.mk (Kd.C_below HY.out hb2)
 have HC2 := Aside0.mk (Kd.C_below HC.out hb2)
 have HRc2 := Aside0.mk (Kd.R_below HRc.out hb2)
 have HB32 := Aside0.mk (below_step HB3.out hb2)
 refine hK.out _ _ hS2 (fun _ => ?_)
 clear hK K hb2
 refine norm_ (a' := ?_) ?_ ?_
 rotate_left
 ·try simp only [Act.put, putAll, List.setIfInBounds_toArray, List.set_cons_zero, List.set_cons_succ]
  rfl
 refine one_ (i := 5) (N := some 19) #[true, true, true, true, true, true, false, false, false, false, false, false, false, false, false, false, false, false, false, false, false, false, false, false, false, false, false] rfl rfl (by kernel_rfl) (by decide) (fun K hK => ?_)
 refine goes_ Try.func19 (by kernel_rfl) rfl #[.agg #[.int .u8 x.f0, .int .u64 x.f1, .string x.f2, .slice A x.f3.length c], .agg #[.int .u8 y.f0, .int .u64 y.f1, .string y.f2, .slice B y.f3.length d]] (by rfl) rfl rfl (by (try simp only [List.map_toArray, List.map_cons, List.map_nil]); first | done | rfl) ?_
 refine (same19_any x y A B c d _ HX2.out hc0 hN HY2.out hc1).mono ?_
 rintro e w3 ⟨rfl, hb3⟩
 refine ⟨_, rfl, ?_⟩
 have hS3 : Blk w3 b1 #[.int .u8 x.f0, .int .u64 x.f1, .string x.f2, .slice A x.f3.length c] 25 ∧ Blk w3 (b1 + 1) #[.int .u8 y.f0, .int .u64 y.f1, .string y.f2, .slice B y.f3.length d] 25 ∧ Blk w3 b5 #[.int .u8 x.f0, .int .u64 x.f1, .string x.f2, .slice A2 x.f3.length c2] 25 := ⟨hS2.1.below hb3, hS2.2.1.below hb3, hS2.2.2.below hb3⟩
 have HX3 := Aside0.mk (Kd.C_below HX2.out hb3)
 have HY3 := Aside0.mk (Kd.C_below HY2.out hb3)
 have HC3 := Aside0.mk (Kd.C_below HC2.out hb3)
 have HRc3 := Aside0.mk (Kd.R_below HRc2.out hb3)
 have HB33 := Aside0.mk (below_step HB32.out hb3)
 refine hK.out _ _ hS3 (fun _ => ?_)
 clear hK K hb3 hS2
 refine norm_ (a' := ?_) ?_ ?_
 rotate_left
 ·try simp only [Act.put, putAll, List.setIfInBounds_toArray, List.set_cons_zero, List.set_cons_succ]
  rfl
 refine pure_ (i := 6) (N := some 20) (v := ?_) (a' := ?_) #[true, true, true, true, true, true, true, false, false, false, false, false, false, false, false, false, false, false, false, false, false, false, false, false, false, false, false] rfl rfl (by kernel_rfl) (fun _ _ _ h => h) (Or.inl ⟨by rfl, ?_⟩) ?_ ?_
 rotate_left
 ·intro w'
  go_simp
  with_reducible rfl
 rotate_left
 ·simp only [Act.put, List.setIfInBounds_toArray, List.set_cons_zero, List.set_cons_succ, i64_w, i32_w]
  rfl
 refine pure_ (i := 7) (N := some 21) (v := ?_) (a' := ?_) #[true, true, true, true, true, true, true, true, false, false, false, false, false, false, false, false, false, false, false, false, false, false, false, false, false, false, false] rfl rfl (by kernel_rfl) (fun _ _ _ h => h) (Or.inl ⟨by rfl, ?_⟩) ?_ ?_
 rotate_left
 ·intro w'
  go_simp
  with_reducible rfl
 rotate_left
 ·simp only [Act.put, List.setIfInBounds_toArray, List.set_cons_zero, List.set_cons_succ, i64_w, i32_w]
  rfl
 refine take_ (i := 8) (N := some 22) (v := .agg #[.int .u8 x.f0, .int .u64 x.f1, .string x.f2, .slice A x.f3.length c]) #[true, true, true, true, true, true, true, true, true, false, false, false, false, false, false, false, false, false, false, false, false, false, false, false, false, false, false] rfl rfl (by kernel_rfl) (fun _ _ _ h => h) (Or.inl ⟨by rfl, ?_⟩) hS3 rfl ?_
 ·rintro w' ⟨h0, h1, h2⟩
  obtain ⟨e0, e1, e2, e3⟩ := h0.c4
  go_simp
 refine norm_ (a' := ?_) ?_ ?_
 rotate_left
 ·try simp only [Act.put, putAll, List.setIfInBounds_toArray, List.set_cons_zero, List.set_cons_succ]
  rfl
 refine take_ (i := 9) (N := some 23) (v := .agg #[.int .u8 x.f0, .int .u64 x.f1, .string x.f2, .slice A2 x.f3.length c2]) #[true, true, true, true, true, true, true, true, true, true, false, false, false, false, false, false, false, false, false, false, false, false, false, false, false, false, false] rfl rfl (by kernel_rfl) (fun _ _ _ h => h) (Or.inl ⟨by rfl, ?_⟩) hS3 rfl ?_
 ·rintro w' ⟨h0, h1, h2⟩
  obtain ⟨e0, e1, e2, e3⟩ := h2.c4
  go_simp
 refine norm_ (a' := ?_) ?_ ?_
 rotate_left
 ·try simp only [Act.put, putAll, List.setIfInBounds_toArray, List.set_cons_zero, List.set_cons_succ]
  rfl
 refine one_ (i := 10) (N := some 24) #[true, true, true, true, true, true, true, true, true, true, true, false, false, false, false, false, false, false, false, false, false, false, false, false, false, false, false] rfl rfl (by kernel_rfl) (by decide) (fun K hK => ?_)
 refine goes_ Try.func22 (by kernel_rfl) rfl #[.agg #[.int .u8 x.f0, .int .u64 x.f1, .string x.f2, .slice A x.f3.length c], .agg #[.int .u8 x.f0, .int .u64 x.f1, .string x.f2, .slice A2 x.f3.length c2]] (by rfl) rfl rfl (by (try simp only [List.map_toArray, List.map_cons, List.map_nil]); first | done | rfl) ?_
 refine (same_any x x A A2 c c2 _ HX3.out hc0 HC3.out hc2).mono ?_
 rintro e w4 ⟨he, hb4⟩
 rw [veq_refl] at he
 subst he
 refine ⟨_, rfl, ?_⟩
 have hS4 : Blk w4 b1 #[.int .u8 x.f0, .int .u64 x.f1, .string x.f2, .slice A x.f3.length c] 25 ∧ Blk w4 (b1 + 1) #[.int .u8 y.f0, .int .u64 y.f1, .string y.f2, .slice B y.f3.length d] 25 ∧ Blk w4 b5 #[.int .u8 x.f0, .int .u64 x.f1, .string x.f2, .slice A2 x.f3.length c2] 25 := ⟨hS3.1.below hb4, hS3.2.1.below hb4, hS3.2.2.below hb4⟩
 have HX4 := Aside0.mk (Kd.C_below HX3.out hb4)
 have HY4 := Aside0.mk (Kd.C_below HY3.out hb4)
 have HC4 := Aside0.mk (Kd.C_below HC3.out hb4)
 have HRc4 := Aside0.mk (Kd.R_below HRc3.out hb4)
 have HB34 := Aside0.mk (below_step HB33.out hb4)
 refine hK.out _ _ hS4 (fun _ => ?_)
 clear hK K hb4 hS3
 refine norm_ (a' := ?_) ?_ ?_
 rotate_left
 ·try simp only [Act.put, putAll, List.setIfInBounds_toArray, List.set_cons_zero, List.set_cons_succ]
  rfl
 refine pure_ (i := 11) (N := some 25) (v := ?_) (a' := ?_) #[true, true, true, true, true, true, true, true, true, true, true, true, false, false, false, false, false, false, false, false, false, false, false, false, false, false, false] rfl rfl (by kernel_rfl) (fun _ _ _ h => h) (Or.inl ⟨by rfl, ?_⟩) ?_ ?_
 rotate_left
 ·intro w'
  go_simp
  with_reducible rfl
 rotate_left
 ·simp only [Act.put, List.setIfInBounds_toArray, List.set_cons_zero, List.set_cons_succ, i64_w, i32_w]
  rfl
 refine pure_ (i := 12) (N := some 26) (v := ?_) (a' := ?_) #[true, true, true, true, true, true, true, true, true, true, true, true, true, false, false, false, false, false, false, false, false, false, false, false, false, false, false] rfl rfl (by kernel_rfl) (fun _ _ _ h => h) (Or.inl ⟨by rfl, ?_⟩) ?_ ?_
 rotate_left
 ·intro w'
  go_simp
  with_reducible rfl
 rotate_left
 ·simp only [Act.put, List.setIfInBounds_toArray, List.set_cons_zero, List.set_cons_succ, i64_w, i32_w]
  rfl
 refine pure_ (i := 13) (N := some 27) (v := ?_) (a' := ?_) #[true, true, true, true, true, true, true, true, true, true, true, true, true, true, false, false, false, false, false, false, false, false, false, false, false, false, false] rfl rfl (by kernel_rfl) (fun _ _ _ h => h) (Or.inl ⟨by rfl, ?_⟩) ?_ ?_
 rotate_left
 ·intro w'
  go_simp
  with_reducible rfl
 rotate_left
 ·simp only [Act.put, List.setIfInBounds_toArray, List.set_cons_zero, List.set_cons_succ, i64_w, i32_w]
  rfl
 refine take_ (i := 14) (N := some 28) (v := .agg #[.int .u8 x.f0, .int .u64 x.f1, .string x.f2, .slice A x.f3.length c]) #[true, true, true, true, true, true, true, true, true, true, true, true, true, true, true, false, false, false, false, false, false, false, false, false, false, false, false] rfl rfl (by kernel_rfl) (fun _ _ _ h => h) (Or.inl ⟨by rfl, ?_⟩) hS4 rfl ?_
 ·rintro w' ⟨h0, h1, h2⟩
  obtain ⟨e0, e1, e2, e3⟩ := h0.c4
  go_simp
 refine norm_ (a' := ?_) ?_ ?_
 rotate_left
 ·try simp only [Act.put, putAll, List.setIfInBounds_toArray, List.set_cons_zero, List.set_cons_succ]
  rfl
 refine take_ (i := 16) (N := some 30) (v := .agg #[.int .u8 x.f0, .int .u64 x.f1, .string x.f2, .slice A x.f3.length c]) #[true, true, true, true, true, true, true, true, true, true, true, true, true, true, true, false, true, false, false, false, false, false, false, false, false, false, false] rfl rfl (by kernel_rfl) (fun _ _ _ h => h) (Or.inl ⟨by rfl, ?_⟩) hS4 rfl ?_
 ·rintro w' ⟨h0, h1, h2⟩
  obtain ⟨e0, e1, e2, e3⟩ := h0.c4
  go_simp
 refine norm_ (a' := ?_) ?_ ?_
 rotate_left
 ·try simp only [Act.put, putAll, List.setIfInBounds_toArray, List.set_cons_zero, List.set_cons_succ]
  rfl
 refine one_ (i := 15) (N := some 29) #[true, true, true, true, true, true, true, true, true, true, true, true, true, true, true, true, true, false, false, false, false, false, false, false, false, false, false] rfl rfl (by kernel_rfl) (by decide) (fun K hK => ?_)
 refine goes_ Try.func32 (by kernel_rfl) rfl #[.agg #[.int .u8 x.f0, .int .u64 x.f1, .string x.f2, .slice A x.f3.length c]] (by rfl) rfl rfl (by (try simp only [List.map_toArray, List.map_cons, List.map_nil]); first | done | rfl) ?_
 refine (depth32_any x hN A c _ HX4.out hc0).mono ?_
 rintro e w5 ⟨rfl, hb5⟩
 refine ⟨_, rfl, ?_⟩
 have hS5 : Blk w5 b1 #[.int .u8 x.f0, .int .u64 x.f1, .string x.f2, .slice A x.f3.length c] 25 ∧ Blk w5 (b1 + 1) #[.int .u8 y.f0, .int .u64 y.f1, .string y.f2, .slice B y.f3.length d] 25 ∧ Blk w5 b5 #[.int .u8 x.f0, .int .u64 x.f1, .string x.f2, .slice A2 x.f3.length c2] 25 := ⟨hS4.1.below hb5, hS4.2.1.below hb5, hS4.2.2.below hb5⟩
 have HX5 := Aside0.mk (Kd.C_below HX4.out hb5)
 have HY5 := Aside0.mk (Kd.C_below HY4.out hb5)
 have HC5 := Aside0.mk (Kd.C_below HC4.out hb5)
 have HRc5 := Aside0.mk (Kd.R_below HRc4.out hb5)
 have HB35 := Aside0.mk (below_step HB34.out hb5)
 refine hK.out _ _ hS5 (fun _ => ?_)
 clear hK K hb5 hS4
 refine norm_ (a' := ?_) ?_ ?_
 rotate_left
 ·try simp only [Act.put, putAll, List.setIfInBounds_toArray, List.set_cons_zero, List.set_cons_succ]
  rfl
 refine one_ (i := 17) (N := some 31) #[true, true, true, true, true, true, true, true, true, true, true, true, true, true, true, true, true, true, false, false, false, false, false, false, false, false, false] rfl rfl (by kernel_rfl) (by decide) (fun K hK => ?_)
 refine goes_ Try.func33 (by kernel_rfl) rfl #[.agg #[.int .u8 x.f0, .int .u64 x.f1, .string x.f2, .slice A x.f3.length c]] (by rfl) rfl rfl (by (try simp only [List.map_toArray, List.map_cons, List.map_nil]); first | done | rfl) ?_
 refine (depth33_any x A c _ HX5.out hc0 hN).mono ?_
 rintro e w6 ⟨rfl, hb6⟩
 refine ⟨_, rfl, ?_⟩
 have hS6 : Blk w6 b1 #[.int .u8 x.f0, .int .u64 x.f1, .string x.f2, .slice A x.f3.length c] 25 ∧ Blk w6 (b1 + 1) #[.int .u8 y.f0, .int .u64 y.f1, .string y.f2, .slice B y.f3.length d] 25 ∧ Blk w6 b5 #[.int .u8 x.f0, .int .u64 x.f1, .string x.f2, .slice A2 x.f3.length c2] 25 := ⟨hS5.1.below hb6, hS5.2.1.below hb6, hS5.2.2.below hb6⟩
 have HX6 := Aside0.mk (Kd.C_below HX5.out hb6)
 have HY6 := Aside0.mk (Kd.C_below HY5.out hb6)
 have HC6 := Aside0.mk (Kd.C_below HC5.out hb6)
 have HRc6 := Aside0.mk (Kd.R_below HRc5.out hb6)
 have HB36 := Aside0.mk (below_step HB35.out hb6)
 refine hK.out _ _ hS6 (fun _ => ?_)
 clear hK K hb6 hS5
 refine norm_ (a' := ?_) ?_ ?_
 rotate_left
 ·try simp only [Act.put, putAll, List.setIfInBounds_toArray, List.set_cons_zero, List.set_cons_succ]
  rfl
 refine pure_ (i := 18) (N := some 32) (v := ?_) (a' := ?_) #[true, true, true, true, true, true, true, true, true, true, true, true, true, true, true, true, true, true, true, false, false, false, false, false, false, false, false] rfl rfl (by kernel_rfl) (fun _ _ _ h => h) (Or.inl ⟨by rfl, ?_⟩) ?_ ?_
 rotate_left
 ·intro w'
  go_simp
  with_reducible rfl
 rotate_left
 ·simp only [Act.put, List.setIfInBounds_toArray, List.set_cons_zero, List.set_cons_succ, i64_w, i32_w]
  rfl
 refine pure_ (i := 19) (N := some 33) (v := ?_) (a' := ?_) #[true, true, true, true, true, true, true, true, true, true, true, true, true, true, true, true, true, true, true, true, false, false, false, false, false, false, false] rfl rfl (by kernel_rfl) (fun _ _ _ h => h) (Or.inl ⟨by rfl, ?_⟩) ?_ ?_
 rotate_left
 ·intro w'
  go_simp
  with_reducible rfl
 rotate_left
 ·simp only [Act.put, List.setIfInBounds_toArray, List.set_cons_zero, List.set_cons_succ, i64_w, i32_w]
  rfl
 refine pure_ (i := 20) (N := some 34) (v := ?_) (a' := ?_) #[true, true, true, true, true, true, true, true, true, true, true, true, true, true, true, true, true, true, true, true, true, false, false, false, false, false, false] rfl rfl (by kernel_rfl) (fun _ _ _ h => h) (Or.inl ⟨by rfl, ?_⟩) ?_ ?_
 rotate_left
 ·intro w'
  go_simp
  with_reducible rfl
 rotate_left
 ·simp only [Act.put, List.setIfInBounds_toArray, List.set_cons_zero, List.set_cons_succ, i64_w, i32_w]
  rfl
 refine take_ (i := 21) (N := some 35) (v := .agg #[.int .u8 x.f0, .int .u64 x.f1, .string x.f2, .slice A x.f3.length c]) #[true, true, true, true, true, true, true, true, true, true, true, true, true, true, true, true, true, true, true, true, true, true, false, false, false, false, false] rfl rfl (by kernel_rfl) (fun _ _ _ h => h) (Or.inl ⟨by rfl, ?_⟩) hS6 rfl ?_
 ·rintro w' ⟨h0, h1, h2⟩
  obtain ⟨e0, e1, e2, e3⟩ := h0.c4
  go_simp
 refine norm_ (a' := ?_) ?_ ?_
 rotate_left
 ·try simp only [Act.put, putAll, List.setIfInBounds_toArray, List.set_cons_zero, List.set_cons_succ]
  rfl
 refine take_ (i := 23) (N := some 37) (v := .agg #[.int .u8 x.f0, .int .u64 x.f1, .string x.f2, .slice A x.f3.length c]) #[true, true, true, true, true, true, true, true, true, true, true, true, true, true, true, true, true, true, true, true, true, true, false, true, false, false, false] rfl rfl (by kernel_rfl) (fun _ _ _ h => h) (Or.inl ⟨by rfl, ?_⟩) hS6 rfl ?_
 ·rintro w' ⟨h0, h1, h2⟩
  obtain ⟨e0, e1, e2, e3⟩ := h0.c4
  go_simp
 refine norm_ (a' := ?_) ?_ ?_
 rotate_left
 ·try simp only [Act.put, putAll, List.setIfInBounds_toArray, List.set_cons_zero, List.set_cons_succ]
  rfl
 refine one_ (i := 22) (N := some 36) #[true, true, true, true, true, true, true, true, true, true, true, true, true, true, true, true, true, true, true, true, true, true, true, true, false, false, false] rfl rfl (by kernel_rfl) (by decide) (fun K hK => ?_)
 refine goes_ Try.func34 (by kernel_rfl) rfl #[.agg #[.int .u8 x.f0, .int .u64 x.f1, .string x.f2, .slice A x.f3.length c]] (by rfl) rfl rfl (by (try simp only [List.map_toArray, List.map_cons, List.map_nil]); first | done | rfl) ?_
 refine (items34_any x hN A c _ HX6.out hc0).mono ?_
 rintro e w7 ⟨rfl, hb7⟩
 refine ⟨_, rfl, ?_⟩
 have hS7 : Blk w7 b1 #[.int .u8 x.f0, .int .u64 x.f1, .string x.f2, .slice A x.f3.length c] 25 ∧ Blk w7 (b1 + 1) #[.int .u8 y.f0, .int .u64 y.f1, .string y.f2, .slice B y.f3.length d] 25 ∧ Blk w7 b5 #[.int .u8 x.f0, .int .u64 x.f1, .string x.f2, .slice A2 x.f3.length c2] 25 := ⟨hS6.1.below hb7, hS6.2.1.below hb7, hS6.2.2.below hb7⟩
 have HX7 := Aside0.mk (Kd.C_below HX6.out hb7)
 have HY7 := Aside0.mk (Kd.C_below HY6.out hb7)
 have HC7 := Aside0.mk (Kd.C_below HC6.out hb7)
 have HRc7 := Aside0.mk (Kd.R_below HRc6.out hb7)
 have HB37 := Aside0.mk (below_step HB36.out hb7)
 refine hK.out _ _ hS7 (fun _ => ?_)
 clear hK K hb7 hS6
 refine norm_ (a' := ?_) ?_ ?_
 rotate_left
 ·try simp only [Act.put, putAll, List.setIfInBounds_toArray, List.set_cons_zero, List.set_cons_succ]
  rfl
 refine one_ (i := 24) (N := some 38) #[true, true, true, true, true, true, true, true, true, true, true, true, true, true, true, true, true, true, true, true, true, true, true, true, true, false, false] rfl rfl (by kernel_rfl) (by decide) (fun K hK => ?_)
 refine goes_ Try.func35 (by kernel_rfl) rfl #[.agg #[.int .u8 x.f0, .int .u64 x.f1, .string x.f2, .slice A x.f3.length c]] (by rfl) rfl rfl (by (try simp only [List.map_toArray, List.map_cons, List.map_nil]); first | done | rfl) ?_
 refine (items35_any x A c _ HX7.out hc0 hN).mono ?_
 rintro e w8 ⟨rfl, hb8⟩
 refine ⟨_, rfl, ?_⟩
 have hS8 : Blk w8 b1 #[.int .u8 x.f0, .int .u64 x.f1, .string x.f2, .slice A x.f3.length c] 25 ∧ Blk w8 (b1 + 1) #[.int .u8 y.f0, .int .u64 y.f1, .string y.f2, .slice B y.f3.length d] 25 ∧ Blk w8 b5 #[.int .u8 x.f0, .int .u64 x.f1, .string x.f2, .slice A2 x.f3.length c2] 25 := ⟨hS7.1.below hb8, hS7.2.1.below hb8, hS7.2.2.below hb8⟩
 have HX8 := Aside0.mk (Kd.C_below HX7.out hb8)
 have HY8 := Aside0.mk (Kd.C_below HY7.out hb8)
 have HC8 := Aside0.mk (Kd.C_below HC7.out hb8)
 have HRc8 := Aside0.mk (Kd.R_below HRc7.out hb8)
 have HB38 := Aside0.mk (below_step HB37.out hb8)
 refine hK.out _ _ hS8 (fun _ => ?_)
 clear hK K hb8 hS7
 refine norm_ (a' := ?_) ?_ ?_
 rotate_left
 ·try simp only [Act.put, putAll, List.setIfInBounds_toArray, List.set_cons_zero, List.set_cons_succ]
  rfl
 refine pure_ (i := 25) (N := some 39) (v := ?_) (a' := ?_) #[true, true, true, true, true, true, true, true, true, true, true, true, true, true, true, true, true, true, true, true, true, true, true, true, true, true, false] rfl rfl (by kernel_rfl) (fun _ _ _ h => h) (Or.inl ⟨by rfl, ?_⟩) ?_ ?_
 rotate_left
 ·intro w'
  go_simp
  with_reducible rfl
 rotate_left
 ·simp only [Act.put, List.setIfInBounds_toArray, List.set_cons_zero, List.set_cons_succ, i64_w, i32_w]
  rfl
 refine pure_ (i := 26) (N := some 40) (v := ?_) (a' := ?_) #[true, true, true, true, true, true, true, true, true, true, true, true, true, true, true, true, true, true, true, true, true, true, true, true, true, true, true] rfl rfl (by kernel_rfl) (fun _ _ _ h => h) (Or.inl ⟨by rfl, ?_⟩) ?_ ?_
 rotate_left
 ·intro w'
  go_simp
  with_reducible rfl
 rotate_left
 ·simp only [Act.put, List.setIfInBounds_toArray, List.set_cons_zero, List.set_cons_succ, i64_w, i32_w]
  rfl
 refine done_ (by kernel_rfl) ?_
 obtain ⟨s0, s1, s2⟩ := hS8
 have HB4 := Aside0.mk HB38.out
 have HR4 := Aside0.mk HRc8.out
 clear HB38 HRc8 HX8 HY8 HC8
 obtain ⟨p0, p1, p2, p3⟩ := s0.c4
 go_wp2_with fail
 refine (copy16_any x hN A c _ (Kd.C_below HA0.out HB4.out) hc0).mono ?_
 rintro e wA ⟨A6, c6, rfl, hR5, hbA⟩
 have hl4 := s2.lt
 have hl5 := hbA.size
 have hal := below_alloc (Below.refl wA.heap.size wA) (.cells #[.int .u8 x.f0, .int .u64 x.f1, .string x.f2, .slice A6 x.f3.length c6] 25)
 have k0 := (s0.below hbA).below hal
 have k1 := (s1.below hbA).below hal
 have k2 := (s2.below hbA).below hal
 have k3 := Blk.new wA #[.int .u8 x.f0, .int .u64 x.f1, .string x.f2, .slice A6 x.f3.length c6] 25
 have HB6 := Aside0.mk (below_step (below_step HB4.out hbA) hal)
 have HR6 := Aside0.mk (Kd.R_below (Kd.R_below HR4.out hbA) hal)
 have HRw : Aside0 (k25.R 25 _ w8.heap.size (fun k => w8.heap.size ≤ k) (.slice A6 x.f3.length c6) x.f3) := ⟨Kd.R_below (Kd.R_mono (Kd.R_bound hR5) (fun k hk => hk.2.1)) hal⟩
 have hc6 := (Kd.R_reads' hR5).2.1
 clear p0 p1 p2 p3 s0 s1 s2 hR5 hbA hal HB4 HR4
 obtain ⟨p0, p1, p2, p3⟩ := k2.c4
 go_wp2_with fail
 refine (turn30_any w q1 _ A2 c2 x.f3 _ HR6.out hNL hc2).mono ?_
 rintro e wT ⟨rfl, hT⟩
 have n0 : Blk wT b1 #[.int .u8 x.f0, .int .u64 x.f1, .string x.f2, .slice A x.f3.length c] 25 := (hT.off b1 (fun hk => by have := hk.2.1; omega)).trans k0
 have n1 : Blk wT (b1 + 1) #[.int .u8 y.f0, .int .u64 y.f1, .string y.f2, .slice B y.f3.length d] 25 := (hT.off (b1 + 1) (fun hk => by have := hk.2.1; omega)).trans k1
 have n3 : Blk wT wA.heap.size #[.int .u8 x.f0, .int .u64 x.f1, .string x.f2, .slice A6 x.f3.length c6] 25 := (hT.off wA.heap.size (fun hk => by have := hk.1; omega)).trans k3
 have HB7 := Aside0.mk (HB6.out.trans (hT.below (fun k hk => by have := hk.2.1; have := HBE.out; omega)))
 have HX := Aside0.mk (Kd.C_below HA0.out HB7.out)
 have HY := Aside0.mk (Kd.C_below HA1.out HB7.out)
 have HW := Aside0.mk (Kd.R_reads' (Kd.R_move HRw.out (fun k hk => hT.off k (fun ho => by have := ho.1; omega)))).2.2
 clear p0 p1 p2 p3 k0 k1 k2 k3 hT HB6 HR6 HRw
 go_wp2_with fail
 obtain ⟨b6, e6⟩ : ∃ b, wA.heap.size = b := ⟨_, rfl⟩
 rw [e6] at n3 ⊢
 refine start_ (n := 16) (S := fun w' => Blk w' b1 #[.int .u8 x.f0, .int .u64 x.f1, .string x.f2, .slice A x.f3.length c] 25 ∧ Blk w' (b1 + 1) #[.int .u8 y.f0, .int .u64 y.f1, .string y.f2, .slice B y.f3.length d] 25 ∧ Blk w' b6 #[.int .u8 x.f0, .int .u64 x.f1, .string x.f2, .slice A6 x.f3.length c6] 25) (ds := []) #[false, false, false, false, false, false, false, false, false, false, false, false, false, false, false, false] (by kernel_rfl) rfl rfl ⟨n0, n1, n3⟩ (fun hS => ?_)
 replace HX := Aside0.mk (Kd.C_below HX.out (below_drew (Below.refl _ _)))
 replace HY := Aside0.mk (Kd.C_below HY.out (below_drew (Below.refl _ _)))
 replace HW := Aside0.mk (Kd.C_below HW.out (below_drew (Below.refl _ _)))
 replace HB7 := Aside0.mk (below_drew HB7.out)
 generalize wT.drew = wd9 at HX HY HW HB7 hS ⊢
 clear n0 n1 n3
 refine take_ (i := 0) (N := some 46) (v := .agg #[.int .u8 x.f0, .int .u64 x.f1, .string x.f2, .slice A x.f3.length c]) #[true, false, false, false, false, false, false, false, false, false, false, false, false, false, false, false] rfl rfl (by kernel_rfl) (fun _ _ _ h => h) (Or.inl ⟨by rfl, ?_⟩) hS rfl ?_
 ·rintro w' ⟨h0, h1, h2⟩
  obtain ⟨e0, e1, e2, e3⟩ := h0.c4
  go_simp
 refine norm_ (a' := ?_) ?_ ?_
 rotate_left
 ·try simp only [Act.put, putAll, List.setIfInBounds_toArray, List.set_cons_zero, List.set_cons_succ]
  rfl
 refine take_ (i := 1) (N := some 47) (v := .agg #[.int .u8 x.f0, .int .u64 x.f1, .string x.f2, .slice A6 x.f3.length c6]) #[true, true, false, false, false, false, false, false, false, false, false, false, false, false, false, false] rfl rfl (by kernel_rfl) (fun _ _ _ h => h) (Or.inl ⟨by rfl, ?_⟩) hS rfl ?_
 ·rintro w' ⟨h0, h1, h2⟩
  obtain ⟨e0, e1, e2, e3⟩ := h2.c4
  go_simp
 refine norm_ (a' := ?_) ?_ ?_
 rotate_left
 ·try simp only [Act.put, putAll, List.setIfInBounds_toArray, List.set_cons_zero, List.set_cons_succ]
  rfl
 refine one_ (i := 2) (N := some 48) #[true, true, true, false, false, false, false, false, false, false, false, false, false, false, false, false] rfl rfl (by kernel_rfl) (by decide) (fun K hK => ?_)
 refine goes_ Try.func19 (by kernel_rfl) rfl #[.agg #[.int .u8 x.f0, .int .u64 x.f1, .string x.f2, .slice A x.f3.length c], .agg #[.int .u8 x.f0, .int .u64 x.f1, .string x.f2, .slice A6 x.f3.length c6]] (by rfl) rfl rfl (by (try simp only [List.map_toArray, List.map_cons, List.map_nil]); first | done | rfl) ?_
 refine (same19_any x x A A6 c c6 _ HX.out hc0 hN HW.out hc6).mono ?_
 rintro e w10 ⟨he, hb10⟩
 rw [veq_refl] at he
 subst he
 refine ⟨_, rfl, ?_⟩
 have hS10 : Blk w10 b1 #[.int .u8 x.f0, .int .u64 x.f1, .string x.f2, .slice A x.f3.length c] 25 ∧ Blk w10 (b1 + 1) #[.int .u8 y.f0, .int .u64 y.f1, .string y.f2, .slice B y.f3.length d] 25 ∧ Blk w10 b6 #[.int .u8 x.f0, .int .u64 x.f1, .string x.f2, .slice A6 x.f3.length c6] 25 := ⟨hS.1.below hb10, hS.2.1.below hb10, hS.2.2.below hb10⟩
 have HX10 := Aside0.mk (Kd.C_below HX.out hb10)
 have HY10 := Aside0.mk (Kd.C_below HY.out hb10)
 have HW10 := Aside0.mk (Kd.C_below HW.out hb10)
 have HB710 := Aside0.mk (below_step HB7.out hb10)
 refine hK.out _ _ hS10 (fun _ => ?_)
 clear hK K hb10
 refine norm_ (a' := ?_) ?_ ?_
 rotate_left
 ·try simp only [Act.put, putAll, List.setIfInBounds_toArray, List.set_cons_zero, List.set_cons_succ]
  rfl
 refine pure_ (i := 3) (N := some 49) (v := ?_) (a' := ?_) #[true, true, true, true, false, false, false, false, false, false, false, false, false, false, false, false] rfl rfl (by kernel_rfl) (fun _ _ _ h => h) (Or.inl ⟨by rfl, ?_⟩) ?_ ?_
 rotate_left
 ·intro w'
  go_simp
  with_reducible rfl
 rotate_left
 ·simp only [Act.put, List.setIfInBounds_toArray, List.set_cons_zero, List.set_cons_succ, i64_w, i32_w]
  rfl
 refine take_ (i := 4) (N := some 50) (v := .agg #[.int .u8 y.f0, .int .u64 y.f1, .string y.f2, .slice B y.f3.length d]) #[true, true, true, true, true, false, false, false, false, false, false, false, false, false, false, false] rfl rfl (by kernel_rfl) (fun _ _ _ h => h) (Or.inl ⟨by rfl, ?_⟩) hS10 rfl ?_
 ·rintro w' ⟨h0, h1, h2⟩
  obtain ⟨e0, e1, e2, e3⟩ := h1.c4
  go_simp
 refine norm_ (a' := ?_) ?_ ?_
 rotate_left
 ·try simp only [Act.put, putAll, List.setIfInBounds_toArray, List.set_cons_zero, List.set_cons_succ]
  rfl
 refine take_ (i := 5) (N := some 51) (v := .agg #[.int .u8 x.f0, .int .u64 x.f1, .string x.f2, .slice A x.f3.length c]) #[true, true, true, true, true, true, false, false, false, false, false, false, false, false, false, false] rfl rfl (by kernel_rfl) (fun _ _ _ h => h) (Or.inl ⟨by rfl, ?_⟩) hS10 rfl ?_
 ·rintro w' ⟨h0, h1, h2⟩
  obtain ⟨e0, e1, e2, e3⟩ := h0.c4
  go_simp
 refine norm_ (a' := ?_) ?_ ?_
 rotate_left
 ·try simp only [Act.put, putAll, List.setIfInBounds_toArray, List.set_cons_zero, List.set_cons_succ]
  rfl
 refine take_ (i := 7) (N := some 53) (v := .agg #[.int .u8 x.f0, .int .u64 x.f1, .string x.f2, .slice A x.f3.length c]) #[true, true, true, true, true, true, false, true, false, false, false, false, false, false, false, false] rfl rfl (by kernel_rfl) (fun _ _ _ h => h) (Or.inl ⟨by rfl, ?_⟩) hS10 rfl ?_
 ·rintro w' ⟨h0, h1, h2⟩
  obtain ⟨e0, e1, e2, e3⟩ := h0.c4
  go_simp
 refine norm_ (a' := ?_) ?_ ?_
 rotate_left
 ·try simp only [Act.put, putAll, List.setIfInBounds_toArray, List.set_cons_zero, List.set_cons_succ]
  rfl
 refine take_ (i := 8) (N := some 54) (v := .agg #[.int .u8 y.f0, .int .u64 y.f1, .string y.f2, .slice B y.f3.length d]) #[true, true, true, true, true, true, false, true, true, false, false, false, false, false, false, false] rfl rfl (by kernel_rfl) (fun _ _ _ h => h) (Or.inl ⟨by rfl, ?_⟩) hS10 rfl ?_
 ·rintro w' ⟨h0, h1, h2⟩
  obtain ⟨e0, e1, e2, e3⟩ := h1.c4
  go_simp
 refine norm_ (a' := ?_) ?_ ?_
 rotate_left
 ·try simp only [Act.put, putAll, List.setIfInBounds_toArray, List.set_cons_zero, List.set_cons_succ]
  rfl
 refine one_ (i := 6) (N := some 52) #[true, true, true, true, true, true, true, true, true, false, false, false, false, false, false, false] rfl rfl (by kernel_rfl) (by decide) (fun K hK => ?_)
 refine goes_ Try.func22 (by kernel_rfl) rfl #[.agg #[.int .u8 y.f0, .int .u64 y.f1, .string y.f2, .slice B y.f3.length d], .agg #[.int .u8 x.f0, .int .u64 x.f1, .string x.f2, .slice A x.f3.length c]] (by rfl) rfl rfl (by (try simp only [List.map_toArray, List.map_cons, List.map_nil]); first | done | rfl) ?_
 refine (same_any y x B A d c _ HY10.out hc1 HX10.out hc0).mono ?_
 rintro e w11 ⟨he, hb11⟩
 rw [veq_comm y x] at he
 subst he
 refine ⟨_, rfl, ?_⟩
 have hS11 : Blk w11 b1 #[.int .u8 x.f0, .int .u64 x.f1, .string x.f2, .slice A x.f3.length c] 25 ∧ Blk w11 (b1 + 1) #[.int .u8 y.f0, .int .u64 y.f1, .string y.f2, .slice B y.f3.length d] 25 ∧ Blk w11 b6 #[.int .u8 x.f0, .int .u64 x.f1, .string x.f2, .slice A6 x.f3.length c6] 25 := ⟨hS10.1.below hb11, hS10.2.1.below hb11, hS10.2.2.below hb11⟩
 have HX11 := Aside0.mk (Kd.C_below HX10.out hb11)
 have HY11 := Aside0.mk (Kd.C_below HY10.out hb11)
 have HW11 := Aside0.mk (Kd.C_below HW10.out hb11)
 have HB711 := Aside0.mk (below_step HB710.out hb11)
 refine hK.out _ _ hS11 (fun _ => ?_)
 clear hK K hb11 hS10
 refine norm_ (a' := ?_) ?_ ?_
 rotate_left
 ·try simp only [Act.put, putAll, List.setIfInBounds_toArray, List.set_cons_zero, List.set_cons_succ]
  rfl
 refine one_ (i := 9) (N := some 55) #[true, true, true, true, true, true, true, true, true, true, false, false, false, false, false, false] rfl rfl (by kernel_rfl) (by decide) (fun K hK => ?_)
 refine goes_ Try.func22 (by kernel_rfl) rfl #[.agg #[.int .u8 x.f0, .int .u64 x.f1, .string x.f2, .slice A x.f3.length c], .agg #[.int .u8 y.f0, .int .u64 y.f1, .string y.f2, .slice B y.f3.length d]] (by rfl) rfl rfl (by (try simp only [List.map_toArray, List.map_cons, List.map_nil]); first | done | rfl) ?_
 refine (same_any x y A B c d _ HX11.out hc0 HY11.out hc1).mono ?_
 rintro e w12 ⟨rfl, hb12⟩
 refine ⟨_, rfl, ?_⟩
 have hS12 : Blk w12 b1 #[.int .u8 x.f0, .int .u64 x.f1, .string x.f2, .slice A x.f3.length c] 25 ∧ Blk w12 (b1 + 1) #[.int .u8 y.f0, .int .u64 y.f1, .string y.f2, .slice B y.f3.length d] 25 ∧ Blk w12 b6 #[.int .u8 x.f0, .int .u64 x.f1, .string x.f2, .slice A6 x.f3.length c6] 25 := ⟨hS11.1.below hb12, hS11.2.1.below hb12, hS11.2.2.below hb12⟩
 have HX12 := Aside0.mk (Kd.C_below HX11.out hb12)
 have HY12 := Aside0.mk (Kd.C_below HY11.out hb12)
 have HW12 := Aside0.mk (Kd.C_below HW11.out hb12)
 have HB712 := Aside0.mk (below_step HB711.out hb12)
 refine hK.out _ _ hS12 (fun _ => ?_)
 clear hK K hb12 hS11
 refine norm_ (a' := ?_) ?_ ?_
 rotate_left
 ·try simp only [Act.put, putAll, List.setIfInBounds_toArray, List.set_cons_zero, List.set_cons_succ]
  rfl
 refine pure_ (i := 10) (N := some 56) (v := ?_) (a' := ?_) #[true, true, true, true, true, true, true, true, true, true, true, false, false, false, false, false] rfl rfl (by kernel_rfl) (fun _ _ _ h => h) (Or.inl ⟨by rfl, ?_⟩) ?_ ?_
 rotate_left
 ·intro w'
  go_simp
  with_reducible rfl
 rotate_left
 ·simp only [Act.put, List.setIfInBounds_toArray, List.set_cons_zero, List.set_cons_succ, i64_w, i32_w]
  rfl
 refine pure_ (i := 11) (N := some 57) (v := ?_) (a' := ?_) #[true, true, true, true, true, true, true, true, true, true, true, true, false, false, false, false] rfl rfl (by kernel_rfl) (fun _ _ _ h => h) (Or.inl ⟨by rfl, ?_⟩) ?_ ?_
 rotate_left
 ·intro w'
  go_simp
  with_reducible rfl
 rotate_left
 ·simp only [Act.put, List.setIfInBounds_toArray, List.set_cons_zero, List.set_cons_succ, i64_w, i32_w]
  rfl
 refine pure_ (i := 12) (N := some 58) (v := ?_) (a' := ?_) #[true, true, true, true, true, true, true, true, true, true, true, true, true, false, false, false] rfl rfl (by kernel_rfl) (fun _ _ _ h => h) (Or.inl ⟨by rfl, ?_⟩) ?_ ?_
 rotate_left
 ·intro w'
  go_simp
  with_reducible rfl
 rotate_left
 ·simp only [Act.put, List.setIfInBounds_toArray, List.set_cons_zero, List.set_cons_succ, i64_w, i32_w]
  rfl
 refine one_ (i := 13) (N := some 59) #[true, true, true, true, true, true, true, true, true, true, true, true, true, true, false, false] rfl rfl (by kernel_rfl) (by decide) (fun K hK => ?_)
 refine goes_ Try.func15 (by kernel_rfl) rfl #[] (by rfl) rfl rfl (by (try simp only [List.map_toArray, List.map_cons, List.map_nil]); first | done | rfl) ?_
 refine (works15_any _).mono ?_
 rintro e w13 ⟨rfl, hb13⟩
 refine ⟨_, rfl, ?_⟩
 have hS13 : Blk w13 b1 #[.int .u8 x.f0, .int .u64 x.f1, .string x.f2, .slice A x.f3.length c] 25 ∧ Blk w13 (b1 + 1) #[.int .u8 y.f0, .int .u64 y.f1, .string y.f2, .slice B y.f3.length d] 25 ∧ Blk w13 b6 #[.int .u8 x.f0, .int .u64 x.f1, .string x.f2, .slice A6 x.f3.length c6] 25 := ⟨hS12.1.below hb13, hS12.2.1.below hb13, hS12.2.2.below hb13⟩
 have HX13 := Aside0.mk (Kd.C_below HX12.out hb13)
 have HY13 := Aside0.mk (Kd.C_below HY12.out hb13)
 have HW13 := Aside0.mk (Kd.C_below HW12.out hb13)
 have HB713 := Aside0.mk (below_step HB712.out hb13)
 refine hK.out _ _ hS13 (fun _ => ?_)
 clear hK K hb13 hS12
 refine norm_ (a' := ?_) ?_ ?_
 rotate_left
 ·try simp only [Act.put, putAll, List.setIfInBounds_toArray, List.set_cons_zero, List.set_cons_succ]
  rfl
 refine pure_ (i := 14) (N := some 60) (v := ?_) (a' := ?_) #[true, true, true, true, true, true, true, true, true, true, true, true, true, true, true, false] rfl rfl (by kernel_rfl) (fun _ _ _ h => h) (Or.inl ⟨by rfl, ?_⟩) ?_ ?_
 rotate_left
 ·intro w'
  go_simp
  with_reducible rfl
 rotate_left
 ·simp only [Act.put, List.setIfInBounds_toArray, List.set_cons_zero, List.set_cons_succ, i64_w, i32_w]
  rfl
 refine pure_ (i := 15) (N := some 4) (v := ?_) (a' := ?_) #[true, true, true, true, true, true, true, true, true, true, true, true, true, true, true, true] rfl rfl (by kernel_rfl) (fun _ _ _ h => h) (Or.inl ⟨by rfl, ?_⟩) ?_ ?_
 rotate_left
 ·intro w'
  go_simp
  with_reducible rfl
 rotate_left
 ·simp only [Act.put, List.setIfInBounds_toArray, List.set_cons_zero, List.set_cons_succ, i64_w, i32_w]
  rfl
 refine done_ (by kernel_rfl) ?_
 go_wp2_with fail
 go_ret
 exact ⟨rfl, HB713.out⟩
end Go.Proofs.Ytdilbnggedidnaa.PVal
