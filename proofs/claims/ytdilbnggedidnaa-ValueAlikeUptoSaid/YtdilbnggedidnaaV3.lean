import Derived.Test.YtdilbnggedidnaaV2
namespace Go.Proofs.Ytdilbnggedidnaa.PVal
open Go.RowKit Go.Shelf Go.Proofs.YtdilbnggedidnaaW.PrintWords Go.Proofs.YtdilbnggedidnaaW.PrintLast
set_option linter.unusedVariables false
set_option linter.unusedSimpArgs false
theorem C_none (w : World) : k25.C w none 0 ([] : List S25) := ⟨rfl, by omega, fun h => absurd h (by omega)⟩
theorem w_l4 : itemsL [vOne, vNul, vBig, vTru] ≤ 4294967296 := by rw [show itemsL [vOne, vNul, vBig, vTru] = 4 by kernel_rfl]; omega
theorem w_lb4 : itemsL [vOne, vOne, vOne, vOne] ≤ 4294967296 := by rw [show itemsL [vOne, vOne, vOne, vOne] = 4 by kernel_rfl]; omega
theorem w_m5 : itemsN vMap ≤ 4294967296 := by rw [show itemsN vMap = 5 by kernel_rfl]; omega
theorem ok_vb (x : S25) (h : okVb x = true) : okV x := okVb_iff.1 h
theorem w_mo : okV vMap := ok_vb _ (by kernel_rfl)
theorem w_bo : okV vBad := ok_vb _ (by kernel_rfl)
theorem w_yo : okV vByt := ok_vb _ (by kernel_rfl)
theorem w_do : okV vDsc := ok_vb _ (by kernel_rfl)
theorem w_eo : okV vDs2 := ok_vb _ (by kernel_rfl)
theorem w_b5 : itemsN vBad ≤ 4294967296 := by rw [show itemsN vBad = 5 by kernel_rfl]; omega
theorem w_y1 : itemsN vByt ≤ 4294967296 := by rw [show itemsN vByt = 1 by kernel_rfl]; omega
theorem w_d3 : itemsN vDsc ≤ 4294967296 := by rw [show itemsN vDsc = 3 by kernel_rfl]; omega
theorem w_e3 : itemsN vDs2 ≤ 4294967296 := by rw [show itemsN vDs2 = 3 by kernel_rfl]; omega
theorem w_d2 : itemsN vSym + itemsN vOne ≤ 4294967296 := by rw [show itemsN vSym + itemsN vOne = 2 by kernel_rfl]; omega
theorem w_o2 : itemsN vOne + itemsN vOne ≤ 4294967296 := by rw [show itemsN vOne + itemsN vOne = 2 by kernel_rfl]; omega
theorem w_same : veq vTru vTru = true := veq_refl _
theorem w_items : ((itemsN vMap : Nat) : Int) = 5 := by rw [show itemsN vMap = 5 by kernel_rfl]; rfl
theorem w_depth : ((depthN vMap : Nat) : Int) = 2 := by rw [show depthN vMap = 2 by kernel_rfl]; rfl
theorem w_getR : getR vMap vBig = vTru := by unfold getR; rw [w_get]; rfl
set_option maxRecDepth 100000 in
set_option maxHeartbeats 8000000 in
theorem works15_any (w : World) : Calls Try.prog 15 #[] w fun e w' => e = .returned (.bool true) ∧ Below w.heap.size w w' := by
 go_enter Try.func15, Try.ntmps15
 go_wp2_with fail
 refine (number23_any 5 1 _).mono ?_
 rintro e w1 ⟨rfl, hb1⟩
 have HB1 := Aside0.mk hb1
 clear hb1
 go_wp2_with fail
 refine (number23_any 6 1 _).mono ?_
 rintro e w2 ⟨rfl, hb2⟩
 have bA := ((Blk.new w1 #[.int .u8 5, .int .u64 1, .string ⟨#[]⟩, .slice none 0 0] 25).below hb2).alloc (.cells #[.int .u8 6, .int .u64 1, .string ⟨#[]⟩, .slice none 0 0] 25)
 have bB := Blk.new w2 #[.int .u8 6, .int .u64 1, .string ⟨#[]⟩, .slice none 0 0] 25
 have HB2 := Aside0.mk (below_alloc (below_step (below_alloc HB1.out (.cells #[.int .u8 5, .int .u64 1, .string ⟨#[]⟩, .slice none 0 0] 25)) hb2) (.cells #[.int .u8 6, .int .u64 1, .string ⟨#[]⟩, .slice none 0 0] 25))
 have HG1 := Aside0.mk HB1.out.size
 clear hb2
 go_wp2_with fail
 rename_i KK hKK
 obtain ⟨b1, hb1⟩ : ∃ b, w1.heap.size = b := ⟨_, rfl⟩
 obtain ⟨b2, hb2⟩ : ∃ b, w2.heap.size = b := ⟨_, rfl⟩
 obtain ⟨w3, hw3⟩ : ∃ W, w2.alloc (.cells #[.int .u8 6, .int .u64 1, .string ⟨#[]⟩, .slice none 0 0] 25) = W := ⟨_, rfl⟩
 rw [hb1] at bA HG1 ⊢
 rw [hb2] at bB ⊢
 rw [hw3] at bA bB HB2 ⊢
 clear hw3 hb1 hb2
 have HK : Aside0 (∀ (b3 : Nat) (A3 : Option Addr) (c3 : Nat) (sv : Value) (W : World), w.heap.size ≤ b3 → 4 ≤ c3 → Blk W b1 #[.int .u8 5, .int .u64 1, .string ⟨#[]⟩, .slice none 0 0] 25 → Blk W b2 #[.int .u8 6, .int .u64 1, .string ⟨#[]⟩, .slice none 0 0] 25 → Blk W b3 #[.int .u8 23, .int .u64 0, .string ⟨#[]⟩, .slice A3 4 c3] 25 → (∃ base ok, k25.R 25 W base ok (.slice A3 4 c3) [vOne, vNul, vBig, vTru]) → Below w.heap.size w W → KK { tmps := #[.bool false, .pointer (some ⟨b1, 0, none⟩), .pointer (some ⟨b2, 0, none⟩), .pointer (some ⟨b3, 0, none⟩), undef, undef, undef, .agg #[.int .u8 5, .int .u64 1, .string ⟨#[]⟩, .slice none 0 0], .agg #[.int .u8 6, .int .u64 1, .string ⟨#[]⟩, .slice none 0 0], .agg #[.int .u8 5, .int .u64 1, .string ⟨#[]⟩, .slice none 0 0], .agg #[.int .u8 1, .int .u64 0, .string ⟨#[]⟩, .slice none 0 0], .agg #[.int .u8 6, .int .u64 1, .string ⟨#[]⟩, .slice none 0 0], .agg #[.int .u8 2, .int .u64 1, .string ⟨#[]⟩, .slice none 0 0], sv, .agg #[.int .u8 23, .int .u64 0, .string ⟨#[]⟩, .slice A3 4 c3], undef, undef, undef, undef, undef, undef, undef, undef, undef, undef, undef, undef, undef, undef, undef, undef, undef, undef, undef, undef, undef, undef, undef, undef, undef, undef, undef, undef, undef, undef, undef, undef, undef, undef, undef, undef, undef, undef, undef, undef, undef, undef, undef, undef, undef, undef, undef, undef, undef, undef, undef, undef, undef, undef, undef], defers := [] } W) := ⟨by
  intro b3 A3 c3 sv W hb3 hc3 bA bB b3M hC hB
  refine hKK _ _ ?_
  obtain ⟨base, ok, hR⟩ := hC
  obtain ⟨-, -, hC⟩ := Kd.R_reads' hR
  have HB := Aside0.mk hB
  have HC := Aside0.mk hC
  obtain ⟨p0, p1, p2, p3⟩ := bA.c4
  obtain ⟨q0, q1, q2, q3⟩ := bB.c4
  obtain ⟨r0, r1, r2, r3⟩ := b3M.c4
  clear hR hB hC hKK
  go_wp2_with fail
  refine (get36_any vMap vBig w_m5 A3 none c3 0 _ HC.out hc3 (C_none _) (Nat.le_refl _)).mono ?_
  rintro e w5 ⟨A4, c4, he, hm⟩
  rw [w_getR, w_get] at he
  have he' : e = .returned (.tuple #[.agg #[.int .u8 2, .int .u64 1, .string ⟨#[]⟩, .slice A4 0 c4], .bool true]) := he
  subst he'
  clear he
  have bA5 := bA.below hm.2
  have bB5 := bB.below hm.2
  have b35 := b3M.below hm.2
  have HB5 := Aside0.mk (below_step HB.out hm.2)
  have HC5 := Aside0.mk (Kd.C_below HC.out hm.2)
  have hx5 : k25.C w5 A4 0 [] := by
   have h0 := hm.1
   rw [w_getR] at h0
   exact (Kd.R_reads' h0).2.2
  clear p0 p1 p2 p3 q0 q1 q2 q3 r0 r1 r2 r3 hm
  have bA6 := bA5.alloc (.cells #[.int .u8 2, .int .u64 1, .string ⟨#[]⟩, .slice A4 0 c4] 25)
  have bB6 := bB5.alloc (.cells #[.int .u8 2, .int .u64 1, .string ⟨#[]⟩, .slice A4 0 c4] 25)
  have b36 := b35.alloc (.cells #[.int .u8 2, .int .u64 1, .string ⟨#[]⟩, .slice A4 0 c4] 25)
  have b46 := Blk.new w5 #[.int .u8 2, .int .u64 1, .string ⟨#[]⟩, .slice A4 0 c4] 25
  have HB6 := Aside0.mk (below_alloc HB5.out (.cells #[.int .u8 2, .int .u64 1, .string ⟨#[]⟩, .slice A4 0 c4] 25))
  have HG6 := Aside0.mk HB5.out.size
  have HC6 := Aside0.mk (Kd.C_below HC5.out (below_alloc (Below.refl _ _) (.cells #[.int .u8 2, .int .u64 1, .string ⟨#[]⟩, .slice A4 0 c4] 25)))
  have HX6 := Aside0.mk (Kd.C_below hx5 (below_alloc (Below.refl _ _) (.cells #[.int .u8 2, .int .u64 1, .string ⟨#[]⟩, .slice A4 0 c4] 25)))
  obtain ⟨p0, p1, p2, p3⟩ := bA6.c4
  go_wp2_with fail
  have bL := Blk.new (w5.alloc (.cells #[.int .u8 2, .int .u64 1, .string ⟨#[]⟩, .slice A4 0 c4] 25)) (flatK [⟨vOne, none, 0⟩, ⟨vOne, none, 0⟩, ⟨vOne, none, 0⟩, ⟨vOne, none, 0⟩]).toArray 25
  rw [World.size_alloc] at bL
  have hCb := C_lit (ks := [⟨vOne, none, 0⟩, ⟨vOne, none, 0⟩, ⟨vOne, none, 0⟩, ⟨vOne, none, 0⟩]) bL (by decide) (by
   intro q hq
   simp only [List.mem_cons, List.not_mem_nil, or_false] at hq
   rcases hq with rfl | rfl | rfl | rfl <;> exact ⟨C_none _, Nat.le_refl _⟩)
  refine (many21_any 23 [vOne, vOne, vOne, vOne] w_lb4 _ 4 _ hCb (by decide)).mono ?_
  rintro e w7 ⟨v6, rfl, hR7, hb7⟩
  obtain ⟨A6, c6, rfl, hc6, hCd⟩ := Kd.R_reads hR7
  have hba := below_alloc (Below.refl (w5.alloc (.cells #[.int .u8 2, .int .u64 1, .string ⟨#[]⟩, .slice A4 0 c4] 25)).heap.size (w5.alloc (.cells #[.int .u8 2, .int .u64 1, .string ⟨#[]⟩, .slice A4 0 c4] 25))) (.cells (flatK [⟨vOne, none, 0⟩, ⟨vOne, none, 0⟩, ⟨vOne, none, 0⟩, ⟨vOne, none, 0⟩]).toArray 25)
  have hba7 := below_step hba hb7
  have k1 := (bA6.below hba7).alloc (.cells #[.int .u8 23, .int .u64 0, .string ⟨#[]⟩, .slice A6 4 c6] 25)
  have k3 := (b36.below hba7).alloc (.cells #[.int .u8 23, .int .u64 0, .string ⟨#[]⟩, .slice A6 4 c6] 25)
  have k4 := (b46.below hba7).alloc (.cells #[.int .u8 23, .int .u64 0, .string ⟨#[]⟩, .slice A6 4 c6] 25)
  have k6 := Blk.new w7 #[.int .u8 23, .int .u64 0, .string ⟨#[]⟩, .slice A6 4 c6] 25
  have HB7 := below_step HB6.out hba7
  have HB8 := Aside0.mk (below_alloc HB7 (.cells #[.int .u8 23, .int .u64 0, .string ⟨#[]⟩, .slice A6 4 c6] 25))
  have hal := below_alloc (Below.refl w7.heap.size w7) (.cells #[.int .u8 23, .int .u64 0, .string ⟨#[]⟩, .slice A6 4 c6] 25)
  have HC8 := Aside0.mk (Kd.C_below (Kd.C_below HC6.out hba7) hal)
  have HX8 := Aside0.mk (Kd.C_below (Kd.C_below HX6.out hba7) hal)
  have HD8 := Aside0.mk (Kd.C_below hCd hal)
  clear p0 p1 p2 p3 hba hba7 hal hCd hb7 HB7 hCb bL
  go_wp2_with fail
  obtain ⟨b4, hb4⟩ : ∃ b, w5.heap.size = b := ⟨_, rfl⟩
  obtain ⟨b6, hb6⟩ : ∃ b, w7.heap.size = b := ⟨_, rfl⟩
  obtain ⟨w8, hw8⟩ : ∃ W, w7.alloc (.cells #[.int .u8 23, .int .u64 0, .string ⟨#[]⟩, .slice A6 4 c6] 25) = W := ⟨_, rfl⟩
  rw [hw8] at k1 k3 k4 k6 HB8 HC8 HX8 HD8 ⊢
  rw [hb4] at k4 ⊢
  rw [hb6] at k6 ⊢
  clear hw8 hb4 hb6
  refine start_ (n := 44) (S := fun w' => Blk w' b1 #[.int .u8 5, .int .u64 1, .string ⟨#[]⟩, .slice none 0 0] 25 ∧ Blk w' b3 #[.int .u8 23, .int .u64 0, .string ⟨#[]⟩, .slice A3 4 c3] 25 ∧ Blk w' b4 #[.int .u8 2, .int .u64 1, .string ⟨#[]⟩, .slice A4 0 c4] 25 ∧ Blk w' b6 #[.int .u8 23, .int .u64 0, .string ⟨#[]⟩, .slice A6 4 c6] 25) (ds := []) #[false, false, false, false, false, false, false, false, false, false, false, false, false, false, false, false, false, false, false, false, false, false, false, false, false, false, false, false, false, false, false, false, false, false, false, false, false, false, false, false, false, false, false, false] (by kernel_rfl) rfl rfl ⟨k1, k3, k4, k6⟩ (fun hS => ?_)
  have HB8 : Aside0 (Below w.heap.size w w8.drew) := ⟨below_drew HB8.out⟩
  have HC8 : Aside0 (k25.C w8.drew A3 4 [vOne, vNul, vBig, vTru]) := ⟨Kd.C_below HC8.out (below_drew (Below.refl _ _))⟩
  have HD8 : Aside0 (k25.C w8.drew A6 4 [vOne, vOne, vOne, vOne]) := ⟨Kd.C_below HD8.out (below_drew (Below.refl _ _))⟩
  have HX8 : Aside0 (k25.C w8.drew A4 0 []) := ⟨Kd.C_below HX8.out (below_drew (Below.refl _ _))⟩
  generalize w8.drew = w9 at HB8 HC8 HD8 HX8 hS ⊢
  clear k1 k3 k4 k6
  refine take_ (i := 0) (N := some 27) (v := .agg #[.int .u8 23, .int .u64 0, .string ⟨#[]⟩, .slice A3 4 c3]) #[true, false, false, false, false, false, false, false, false, false, false, false, false, false, false, false, false, false, false, false, false, false, false, false, false, false, false, false, false, false, false, false, false, false, false, false, false, false, false, false, false, false, false, false] rfl rfl (by kernel_rfl) (fun _ _ _ h => h) (Or.inl ⟨by rfl, ?_⟩) hS rfl ?_
  ·rintro w' ⟨h1, h3, h4, h6⟩
   obtain ⟨e0, e1, e2, e3⟩ := h3.c4
   go_simp
  refine norm_ (a' := ?_) ?_ ?_
  rotate_left
  ·try simp only [Act.put, putAll, List.setIfInBounds_toArray, List.set_cons_zero, List.set_cons_succ]
   rfl
  refine one_ (i := 1) (N := some 28) #[true, true, false, false, false, false, false, false, false, false, false, false, false, false, false, false, false, false, false, false, false, false, false, false, false, false, false, false, false, false, false, false, false, false, false, false, false, false, false, false, false, false, false, false] rfl rfl (by kernel_rfl) (by decide) (fun K hK => ?_)
  refine goes_ Try.func17 (by kernel_rfl) rfl #[.agg #[.int .u8 23, .int .u64 0, .string ⟨#[]⟩, .slice A3 4 c3]] (by rfl) rfl rfl (by (try simp only [List.map_toArray, List.map_cons, List.map_nil]); first | done | rfl) ?_
  refine (right17_any vMap w_m5 w_mo A3 c3 _ HC8.out hc3).mono ?_
  rintro e w901 ⟨he, hb901⟩
  rw [w_map] at he
  subst he
  refine ⟨_, rfl, ?_⟩
  have hS901 := hS
  replace hS901 := (⟨hS901.1.below hb901, hS901.2.1.below hb901, hS901.2.2.1.below hb901, hS901.2.2.2.below hb901⟩ : _ ∧ _ ∧ _ ∧ _)
  have HC901 := Aside0.mk (Kd.C_below HC8.out hb901)
  have HD901 := Aside0.mk (Kd.C_below HD8.out hb901)
  have HX901 := Aside0.mk (Kd.C_below HX8.out hb901)
  have HB901 := Aside0.mk (below_step HB8.out hb901)
  refine hK.out _ _ hS901 (fun _ => ?_)
  clear hK K hb901
  refine norm_ (a' := ?_) ?_ ?_
  rotate_left
  ·try simp only [Act.put, putAll, List.setIfInBounds_toArray, List.set_cons_zero, List.set_cons_succ]
   rfl
  refine pure_ (i := 2) (N := some 29) (v := ?_) (a' := ?_) #[true, true, true, false, false, false, false, false, false, false, false, false, false, false, false, false, false, false, false, false, false, false, false, false, false, false, false, false, false, false, false, false, false, false, false, false, false, false, false, false, false, false, false, false] rfl rfl (by kernel_rfl) (fun _ _ _ h => h) (Or.inl ⟨by rfl, ?_⟩) ?_ ?_
  rotate_left
  ·intro w'
   go_simp
   with_reducible rfl
  rotate_left
  ·simp only [Act.put, List.setIfInBounds_toArray, List.set_cons_zero, List.set_cons_succ, i64_w, i32_w]
   rfl
  refine take_ (i := 3) (N := some 30) (v := .agg #[.int .u8 23, .int .u64 0, .string ⟨#[]⟩, .slice A6 4 c6]) #[true, true, true, true, false, false, false, false, false, false, false, false, false, false, false, false, false, false, false, false, false, false, false, false, false, false, false, false, false, false, false, false, false, false, false, false, false, false, false, false, false, false, false, false] rfl rfl (by kernel_rfl) (fun _ _ _ h => h) (Or.inl ⟨by rfl, ?_⟩) hS901 rfl ?_
  ·rintro w' ⟨h1, h3, h4, h6⟩
   obtain ⟨e0, e1, e2, e3⟩ := h6.c4
   go_simp
  refine norm_ (a' := ?_) ?_ ?_
  rotate_left
  ·try simp only [Act.put, putAll, List.setIfInBounds_toArray, List.set_cons_zero, List.set_cons_succ]
   rfl
  refine one_ (i := 4) (N := some 31) #[true, true, true, true, true, false, false, false, false, false, false, false, false, false, false, false, false, false, false, false, false, false, false, false, false, false, false, false, false, false, false, false, false, false, false, false, false, false, false, false, false, false, false, false] rfl rfl (by kernel_rfl) (by decide) (fun K hK => ?_)
  refine goes_ Try.func17 (by kernel_rfl) rfl #[.agg #[.int .u8 23, .int .u64 0, .string ⟨#[]⟩, .slice A6 4 c6]] (by rfl) rfl rfl (by (try simp only [List.map_toArray, List.map_cons, List.map_nil]); first | done | rfl) ?_
  refine (right17_any vBad w_b5 w_bo A6 c6 _ HD901.out hc6).mono ?_
  rintro e w902 ⟨he, hb902⟩
  rw [w_bad] at he
  subst he
  refine ⟨_, rfl, ?_⟩
  have hS902 := hS901
  replace hS902 := (⟨hS902.1.below hb902, hS902.2.1.below hb902, hS902.2.2.1.below hb902, hS902.2.2.2.below hb902⟩ : _ ∧ _ ∧ _ ∧ _)
  have HC902 := Aside0.mk (Kd.C_below HC901.out hb902)
  have HD902 := Aside0.mk (Kd.C_below HD901.out hb902)
  have HX902 := Aside0.mk (Kd.C_below HX901.out hb902)
  have HB902 := Aside0.mk (below_step HB901.out hb902)
  refine hK.out _ _ hS902 (fun _ => ?_)
  clear hK K hb902
  refine norm_ (a' := ?_) ?_ ?_
  rotate_left
  ·try simp only [Act.put, putAll, List.setIfInBounds_toArray, List.set_cons_zero, List.set_cons_succ]
   rfl
  refine pure_ (i := 5) (N := some 32) (v := ?_) (a' := ?_) #[true, true, true, true, true, true, false, false, false, false, false, false, false, false, false, false, false, false, false, false, false, false, false, false, false, false, false, false, false, false, false, false, false, false, false, false, false, false, false, false, false, false, false, false] rfl rfl (by kernel_rfl) (fun _ _ _ h => h) (Or.inl ⟨by rfl, ?_⟩) ?_ ?_
  rotate_left
  ·intro w'
   go_simp
   with_reducible rfl
  rotate_left
  ·simp only [Act.put, List.setIfInBounds_toArray, List.set_cons_zero, List.set_cons_succ, i64_w, i32_w]
   rfl
  refine pure_ (i := 6) (N := some 33) (v := ?_) (a' := ?_) #[true, true, true, true, true, true, true, false, false, false, false, false, false, false, false, false, false, false, false, false, false, false, false, false, false, false, false, false, false, false, false, false, false, false, false, false, false, false, false, false, false, false, false, false] rfl rfl (by kernel_rfl) (fun _ _ _ h => h) (Or.inl ⟨by rfl, ?_⟩) ?_ ?_
  rotate_left
  ·intro w'
   go_simp
   with_reducible rfl
  rotate_left
  ·simp only [Act.put, List.setIfInBounds_toArray, List.set_cons_zero, List.set_cons_succ, i64_w, i32_w]
   rfl
  refine pure_ (i := 7) (N := some 34) (v := ?_) (a' := ?_) #[true, true, true, true, true, true, true, true, false, false, false, false, false, false, false, false, false, false, false, false, false, false, false, false, false, false, false, false, false, false, false, false, false, false, false, false, false, false, false, false, false, false, false, false] rfl rfl (by kernel_rfl) (fun _ _ _ h => h) (Or.inl ⟨by rfl, ?_⟩) ?_ ?_
  rotate_left
  ·intro w'
   go_simp
   with_reducible rfl
  rotate_left
  ·simp only [Act.put, List.setIfInBounds_toArray, List.set_cons_zero, List.set_cons_succ, i64_w, i32_w]
   rfl
  refine one_ (i := 8) (N := some 35) #[true, true, true, true, true, true, true, true, true, false, false, false, false, false, false, false, false, false, false, false, false, false, false, false, false, false, false, false, false, false, false, false, false, false, false, false, false, false, false, false, false, false, false, false] rfl rfl (by kernel_rfl) (by decide) (fun K hK => ?_)
  refine goes_ Try.func23 (by kernel_rfl) rfl #[.int .u8 3, .int .u64 300] (by rfl) rfl rfl (by (try simp only [List.map_toArray, List.map_cons, List.map_nil]); first | done | rfl) ?_
  refine (number23_any 3 300 _).mono ?_
  rintro e w903 ⟨rfl, hb903⟩
  refine ⟨_, rfl, ?_⟩
  have hS903 := hS902
  replace hS903 := (⟨hS903.1.below hb903, hS903.2.1.below hb903, hS903.2.2.1.below hb903, hS903.2.2.2.below hb903⟩ : _ ∧ _ ∧ _ ∧ _)
  have HC903 := Aside0.mk (Kd.C_below HC902.out hb903)
  have HD903 := Aside0.mk (Kd.C_below HD902.out hb903)
  have HX903 := Aside0.mk (Kd.C_below HX902.out hb903)
  have HB903 := Aside0.mk (below_step HB902.out hb903)
  refine hK.out _ _ hS903 (fun _ => ?_)
  clear hK K hb903
  refine norm_ (a' := ?_) ?_ ?_
  rotate_left
  ·try simp only [Act.put, putAll, List.setIfInBounds_toArray, List.set_cons_zero, List.set_cons_succ]
   rfl
  refine one_ (i := 9) (N := some 36) #[true, true, true, true, true, true, true, true, true, true, false, false, false, false, false, false, false, false, false, false, false, false, false, false, false, false, false, false, false, false, false, false, false, false, false, false, false, false, false, false, false, false, false, false] rfl rfl (by kernel_rfl) (by decide) (fun K hK => ?_)
  refine goes_ Try.func17 (by kernel_rfl) rfl #[.agg #[.int .u8 3, .int .u64 300, .string ⟨#[]⟩, .slice none 0 0]] (by rfl) rfl rfl (by (try simp only [List.map_toArray, List.map_cons, List.map_nil]); first | done | rfl) ?_
  refine (right17_any vByt w_y1 w_yo none 0 _ (C_none _) (Nat.le_refl _)).mono ?_
  rintro e w904 ⟨he, hb904⟩
  rw [w_byt] at he
  subst he
  refine ⟨_, rfl, ?_⟩
  have hS904 := hS903
  replace hS904 := (⟨hS904.1.below hb904, hS904.2.1.below hb904, hS904.2.2.1.below hb904, hS904.2.2.2.below hb904⟩ : _ ∧ _ ∧ _ ∧ _)
  have HC904 := Aside0.mk (Kd.C_below HC903.out hb904)
  have HD904 := Aside0.mk (Kd.C_below HD903.out hb904)
  have HX904 := Aside0.mk (Kd.C_below HX903.out hb904)
  have HB904 := Aside0.mk (below_step HB903.out hb904)
  refine hK.out _ _ hS904 (fun _ => ?_)
  clear hK K hb904
  refine norm_ (a' := ?_) ?_ ?_
  rotate_left
  ·try simp only [Act.put, putAll, List.setIfInBounds_toArray, List.set_cons_zero, List.set_cons_succ]
   rfl
  refine pure_ (i := 10) (N := some 37) (v := ?_) (a' := ?_) #[true, true, true, true, true, true, true, true, true, true, true, false, false, false, false, false, false, false, false, false, false, false, false, false, false, false, false, false, false, false, false, false, false, false, false, false, false, false, false, false, false, false, false, false] rfl rfl (by kernel_rfl) (fun _ _ _ h => h) (Or.inl ⟨by rfl, ?_⟩) ?_ ?_
  rotate_left
  ·intro w'
   go_simp
   with_reducible rfl
  rotate_left
  ·simp only [Act.put, List.setIfInBounds_toArray, List.set_cons_zero, List.set_cons_succ, i64_w, i32_w]
   rfl
  refine pure_ (i := 11) (N := some 38) (v := ?_) (a' := ?_) #[true, true, true, true, true, true, true, true, true, true, true, true, false, false, false, false, false, false, false, false, false, false, false, false, false, false, false, false, false, false, false, false, false, false, false, false, false, false, false, false, false, false, false, false] rfl rfl (by kernel_rfl) (fun _ _ _ h => h) (Or.inl ⟨by rfl, ?_⟩) ?_ ?_
  rotate_left
  ·intro w'
   go_simp
   with_reducible rfl
  rotate_left
  ·simp only [Act.put, List.setIfInBounds_toArray, List.set_cons_zero, List.set_cons_succ, i64_w, i32_w]
   rfl
  refine pure_ (i := 12) (N := some 39) (v := ?_) (a' := ?_) #[true, true, true, true, true, true, true, true, true, true, true, true, true, false, false, false, false, false, false, false, false, false, false, false, false, false, false, false, false, false, false, false, false, false, false, false, false, false, false, false, false, false, false, false] rfl rfl (by kernel_rfl) (fun _ _ _ h => h) (Or.inl ⟨by rfl, ?_⟩) ?_ ?_
  rotate_left
  ·intro w'
   go_simp
   with_reducible rfl
  rotate_left
  ·simp only [Act.put, List.setIfInBounds_toArray, List.set_cons_zero, List.set_cons_succ, i64_w, i32_w]
   rfl
  refine pure_ (i := 13) (N := some 40) (v := ?_) (a' := ?_) #[true, true, true, true, true, true, true, true, true, true, true, true, true, true, false, false, false, false, false, false, false, false, false, false, false, false, false, false, false, false, false, false, false, false, false, false, false, false, false, false, false, false, false, false] rfl rfl (by kernel_rfl) (fun _ _ _ h => h) (Or.inl ⟨by rfl, ?_⟩) ?_ ?_
  rotate_left
  ·intro w'
   go_simp
   with_reducible rfl
  rotate_left
  ·simp only [Act.put, List.setIfInBounds_toArray, List.set_cons_zero, List.set_cons_succ, i64_w, i32_w]
   rfl
  refine pure_ (i := 14) (N := some 41) (v := ?_) (a' := ?_) #[true, true, true, true, true, true, true, true, true, true, true, true, true, true, true, false, false, false, false, false, false, false, false, false, false, false, false, false, false, false, false, false, false, false, false, false, false, false, false, false, false, false, false, false] rfl rfl (by kernel_rfl) (fun _ _ _ h => h) (Or.inl ⟨by rfl, ?_⟩) ?_ ?_
  rotate_left
  ·intro w'
   go_simp
   with_reducible rfl
  rotate_left
  ·simp only [Act.put, List.setIfInBounds_toArray, List.set_cons_zero, List.set_cons_succ, i64_w, i32_w]
   rfl
  refine pure_ (i := 15) (N := some 42) (v := ?_) (a' := ?_) #[true, true, true, true, true, true, true, true, true, true, true, true, true, true, true, true, false, false, false, false, false, false, false, false, false, false, false, false, false, false, false, false, false, false, false, false, false, false, false, false, false, false, false, false] rfl rfl (by kernel_rfl) (fun _ _ _ h => h) (Or.inl ⟨by rfl, ?_⟩) ?_ ?_
  rotate_left
  ·intro w'
   go_simp
   with_reducible rfl
  rotate_left
  ·simp only [Act.put, List.setIfInBounds_toArray, List.set_cons_zero, List.set_cons_succ, i64_w, i32_w]
   rfl
  refine take_ (i := 16) (N := some 43) (v := .agg #[.int .u8 2, .int .u64 1, .string ⟨#[]⟩, .slice A4 0 c4]) #[true, true, true, true, true, true, true, true, true, true, true, true, true, true, true, true, true, false, false, false, false, false, false, false, false, false, false, false, false, false, false, false, false, false, false, false, false, false, false, false, false, false, false, false] rfl rfl (by kernel_rfl) (fun _ _ _ h => h) (Or.inl ⟨by rfl, ?_⟩) hS904 rfl ?_
  ·rintro w' ⟨h1, h3, h4, h6⟩
   obtain ⟨e0, e1, e2, e3⟩ := h4.c4
   go_simp
  refine norm_ (a' := ?_) ?_ ?_
  rotate_left
  ·try simp only [Act.put, putAll, List.setIfInBounds_toArray, List.set_cons_zero, List.set_cons_succ]
   rfl
  refine one_ (i := 17) (N := some 44) #[true, true, true, true, true, true, true, true, true, true, true, true, true, true, true, true, true, true, false, false, false, false, false, false, false, false, false, false, false, false, false, false, false, false, false, false, false, false, false, false, false, false, false, false] rfl rfl (by kernel_rfl) (by decide) (fun K hK => ?_)
  refine goes_ Try.func27 (by kernel_rfl) rfl #[.bool true] (by rfl) rfl rfl (by (try simp only [List.map_toArray, List.map_cons, List.map_nil]); first | done | rfl) ?_
  refine (bool27_any true _).mono ?_
  rintro e w905 ⟨rfl, hb905⟩
  refine ⟨_, rfl, ?_⟩
  have hS905 := hS904
  replace hS905 := (⟨hS905.1.below hb905, hS905.2.1.below hb905, hS905.2.2.1.below hb905, hS905.2.2.2.below hb905⟩ : _ ∧ _ ∧ _ ∧ _)
  have HC905 := Aside0.mk (Kd.C_below HC904.out hb905)
  have HD905 := Aside0.mk (Kd.C_below HD904.out hb905)
  have HX905 := Aside0.mk (Kd.C_below HX904.out hb905)
  have HB905 := Aside0.mk (below_step HB904.out hb905)
  refine hK.out _ _ hS905 (fun _ => ?_)
  clear hK K hb905
  refine norm_ (a' := ?_) ?_ ?_
  rotate_left
  ·try simp only [Act.put, putAll, List.setIfInBounds_toArray, List.set_cons_zero, List.set_cons_succ]
   rfl
  refine one_ (i := 18) (N := some 45) #[true, true, true, true, true, true, true, true, true, true, true, true, true, true, true, true, true, true, true, false, false, false, false, false, false, false, false, false, false, false, false, false, false, false, false, false, false, false, false, false, false, false, false, false] rfl rfl (by kernel_rfl) (by decide) (fun K hK => ?_)
  refine goes_ Try.func22 (by kernel_rfl) rfl #[.agg #[.int .u8 2, .int .u64 1, .string ⟨#[]⟩, .slice A4 0 c4], .agg #[.int .u8 2, .int .u64 1, .string ⟨#[]⟩, .slice none 0 0]] (by rfl) rfl rfl (by (try simp only [List.map_toArray, List.map_cons, List.map_nil]); first | done | rfl) ?_
  refine (same_any vTru vTru A4 none c4 0 _ HX905.out (Nat.zero_le _) (C_none _) (Nat.le_refl _)).mono ?_
  rintro e w906 ⟨he, hb906⟩
  rw [w_same] at he
  subst he
  refine ⟨_, rfl, ?_⟩
  have hS906 := hS905
  replace hS906 := (⟨hS906.1.below hb906, hS906.2.1.below hb906, hS906.2.2.1.below hb906, hS906.2.2.2.below hb906⟩ : _ ∧ _ ∧ _ ∧ _)
  have HC906 := Aside0.mk (Kd.C_below HC905.out hb906)
  have HD906 := Aside0.mk (Kd.C_below HD905.out hb906)
  have HX906 := Aside0.mk (Kd.C_below HX905.out hb906)
  have HB906 := Aside0.mk (below_step HB905.out hb906)
  refine hK.out _ _ hS906 (fun _ => ?_)
  clear hK K hb906
  refine norm_ (a' := ?_) ?_ ?_
  rotate_left
  ·try simp only [Act.put, putAll, List.setIfInBounds_toArray, List.set_cons_zero, List.set_cons_succ]
   rfl
  refine pure_ (i := 19) (N := some 46) (v := ?_) (a' := ?_) #[true, true, true, true, true, true, true, true, true, true, true, true, true, true, true, true, true, true, true, true, false, false, false, false, false, false, false, false, false, false, false, false, false, false, false, false, false, false, false, false, false, false, false, false] rfl rfl (by kernel_rfl) (fun _ _ _ h => h) (Or.inl ⟨by rfl, ?_⟩) ?_ ?_
  rotate_left
  ·intro w'
   go_simp
   with_reducible rfl
  rotate_left
  ·simp only [Act.put, List.setIfInBounds_toArray, List.set_cons_zero, List.set_cons_succ, i64_w, i32_w]
   rfl
  refine pure_ (i := 20) (N := some 47) (v := ?_) (a' := ?_) #[true, true, true, true, true, true, true, true, true, true, true, true, true, true, true, true, true, true, true, true, true, false, false, false, false, false, false, false, false, false, false, false, false, false, false, false, false, false, false, false, false, false, false, false] rfl rfl (by kernel_rfl) (fun _ _ _ h => h) (Or.inl ⟨by rfl, ?_⟩) ?_ ?_
  rotate_left
  ·intro w'
   go_simp
   with_reducible rfl
  rotate_left
  ·simp only [Act.put, List.setIfInBounds_toArray, List.set_cons_zero, List.set_cons_succ, i64_w, i32_w]
   rfl
  refine take_ (i := 21) (N := some 48) (v := .agg #[.int .u8 23, .int .u64 0, .string ⟨#[]⟩, .slice A3 4 c3]) #[true, true, true, true, true, true, true, true, true, true, true, true, true, true, true, true, true, true, true, true, true, true, false, false, false, false, false, false, false, false, false, false, false, false, false, false, false, false, false, false, false, false, false, false] rfl rfl (by kernel_rfl) (fun _ _ _ h => h) (Or.inl ⟨by rfl, ?_⟩) hS906 rfl ?_
  ·rintro w' ⟨h1, h3, h4, h6⟩
   obtain ⟨e0, e1, e2, e3⟩ := h3.c4
   go_simp
  refine norm_ (a' := ?_) ?_ ?_
  rotate_left
  ·try simp only [Act.put, putAll, List.setIfInBounds_toArray, List.set_cons_zero, List.set_cons_succ]
   rfl
  refine one_ (i := 22) (N := some 49) #[true, true, true, true, true, true, true, true, true, true, true, true, true, true, true, true, true, true, true, true, true, true, true, false, false, false, false, false, false, false, false, false, false, false, false, false, false, false, false, false, false, false, false, false] rfl rfl (by kernel_rfl) (by decide) (fun K hK => ?_)
  refine goes_ Try.func34 (by kernel_rfl) rfl #[.agg #[.int .u8 23, .int .u64 0, .string ⟨#[]⟩, .slice A3 4 c3]] (by rfl) rfl rfl (by (try simp only [List.map_toArray, List.map_cons, List.map_nil]); first | done | rfl) ?_
  refine (items34_any vMap w_m5 A3 c3 _ HC906.out hc3).mono ?_
  rintro e w907 ⟨he, hb907⟩
  rw [w_items] at he
  subst he
  refine ⟨_, rfl, ?_⟩
  have hS907 := hS906
  replace hS907 := (⟨hS907.1.below hb907, hS907.2.1.below hb907, hS907.2.2.1.below hb907, hS907.2.2.2.below hb907⟩ : _ ∧ _ ∧ _ ∧ _)
  have HC907 := Aside0.mk (Kd.C_below HC906.out hb907)
  have HD907 := Aside0.mk (Kd.C_below HD906.out hb907)
  have HX907 := Aside0.mk (Kd.C_below HX906.out hb907)
  have HB907 := Aside0.mk (below_step HB906.out hb907)
  refine hK.out _ _ hS907 (fun _ => ?_)
  clear hK K hb907
  refine norm_ (a' := ?_) ?_ ?_
  rotate_left
  ·try simp only [Act.put, putAll, List.setIfInBounds_toArray, List.set_cons_zero, List.set_cons_succ]
   rfl
  refine pure_ (i := 23) (N := some 50) (v := ?_) (a' := ?_) #[true, true, true, true, true, true, true, true, true, true, true, true, true, true, true, true, true, true, true, true, true, true, true, true, false, false, false, false, false, false, false, false, false, false, false, false, false, false, false, false, false, false, false, false] rfl rfl (by kernel_rfl) (fun _ _ _ h => h) (Or.inl ⟨by rfl, ?_⟩) ?_ ?_
  rotate_left
  ·intro w'
   go_simp
   with_reducible rfl
  rotate_left
  ·simp only [Act.put, List.setIfInBounds_toArray, List.set_cons_zero, List.set_cons_succ, i64_w, i32_w]
   rfl
  refine pure_ (i := 24) (N := some 51) (v := ?_) (a' := ?_) #[true, true, true, true, true, true, true, true, true, true, true, true, true, true, true, true, true, true, true, true, true, true, true, true, true, false, false, false, false, false, false, false, false, false, false, false, false, false, false, false, false, false, false, false] rfl rfl (by kernel_rfl) (fun _ _ _ h => h) (Or.inl ⟨by rfl, ?_⟩) ?_ ?_
  rotate_left
  ·intro w'
   go_simp
   with_reducible rfl
  rotate_left
  ·simp only [Act.put, List.setIfInBounds_toArray, List.set_cons_zero, List.set_cons_succ, i64_w, i32_w]
   rfl
  refine pure_ (i := 25) (N := some 52) (v := ?_) (a' := ?_) #[true, true, true, true, true, true, true, true, true, true, true, true, true, true, true, true, true, true, true, true, true, true, true, true, true, true, false, false, false, false, false, false, false, false, false, false, false, false, false, false, false, false, false, false] rfl rfl (by kernel_rfl) (fun _ _ _ h => h) (Or.inl ⟨by rfl, ?_⟩) ?_ ?_
  rotate_left
  ·intro w'
   go_simp
   with_reducible rfl
  rotate_left
  ·simp only [Act.put, List.setIfInBounds_toArray, List.set_cons_zero, List.set_cons_succ, i64_w, i32_w]
   rfl
  refine take_ (i := 26) (N := some 53) (v := .agg #[.int .u8 23, .int .u64 0, .string ⟨#[]⟩, .slice A3 4 c3]) #[true, true, true, true, true, true, true, true, true, true, true, true, true, true, true, true, true, true, true, true, true, true, true, true, true, true, true, false, false, false, false, false, false, false, false, false, false, false, false, false, false, false, false, false] rfl rfl (by kernel_rfl) (fun _ _ _ h => h) (Or.inl ⟨by rfl, ?_⟩) hS907 rfl ?_
  ·rintro w' ⟨h1, h3, h4, h6⟩
   obtain ⟨e0, e1, e2, e3⟩ := h3.c4
   go_simp
  refine norm_ (a' := ?_) ?_ ?_
  rotate_left
  ·try simp only [Act.put, putAll, List.setIfInBounds_toArray, List.set_cons_zero, List.set_cons_succ]
   rfl
  refine one_ (i := 27) (N := some 54) #[true, true, true, true, true, true, true, true, true, true, true, true, true, true, true, true, true, true, true, true, true, true, true, true, true, true, true, true, false, false, false, false, false, false, false, false, false, false, false, false, false, false, false, false] rfl rfl (by kernel_rfl) (by decide) (fun K hK => ?_)
  refine goes_ Try.func32 (by kernel_rfl) rfl #[.agg #[.int .u8 23, .int .u64 0, .string ⟨#[]⟩, .slice A3 4 c3]] (by rfl) rfl rfl (by (try simp only [List.map_toArray, List.map_cons, List.map_nil]); first | done | rfl) ?_
  refine (depth32_any vMap w_m5 A3 c3 _ HC907.out hc3).mono ?_
  rintro e w908 ⟨he, hb908⟩
  rw [w_depth] at he
  subst he
  refine ⟨_, rfl, ?_⟩
  have hS908 := hS907
  replace hS908 := (⟨hS908.1.below hb908, hS908.2.1.below hb908, hS908.2.2.1.below hb908, hS908.2.2.2.below hb908⟩ : _ ∧ _ ∧ _ ∧ _)
  have HC908 := Aside0.mk (Kd.C_below HC907.out hb908)
  have HD908 := Aside0.mk (Kd.C_below HD907.out hb908)
  have HX908 := Aside0.mk (Kd.C_below HX907.out hb908)
  have HB908 := Aside0.mk (below_step HB907.out hb908)
  refine hK.out _ _ hS908 (fun _ => ?_)
  clear hK K hb908
  refine norm_ (a' := ?_) ?_ ?_
  rotate_left
  ·try simp only [Act.put, putAll, List.setIfInBounds_toArray, List.set_cons_zero, List.set_cons_succ]
   rfl
  refine pure_ (i := 28) (N := some 55) (v := ?_) (a' := ?_) #[true, true, true, true, true, true, true, true, true, true, true, true, true, true, true, true, true, true, true, true, true, true, true, true, true, true, true, true, true, false, false, false, false, false, false, false, false, false, false, false, false, false, false, false] rfl rfl (by kernel_rfl) (fun _ _ _ h => h) (Or.inl ⟨by rfl, ?_⟩) ?_ ?_
  rotate_left
  ·intro w'
   go_simp
   with_reducible rfl
  rotate_left
  ·simp only [Act.put, List.setIfInBounds_toArray, List.set_cons_zero, List.set_cons_succ, i64_w, i32_w]
   rfl
  refine pure_ (i := 29) (N := some 56) (v := ?_) (a' := ?_) #[true, true, true, true, true, true, true, true, true, true, true, true, true, true, true, true, true, true, true, true, true, true, true, true, true, true, true, true, true, true, false, false, false, false, false, false, false, false, false, false, false, false, false, false] rfl rfl (by kernel_rfl) (fun _ _ _ h => h) (Or.inl ⟨by rfl, ?_⟩) ?_ ?_
  rotate_left
  ·intro w'
   go_simp
   with_reducible rfl
  rotate_left
  ·simp only [Act.put, List.setIfInBounds_toArray, List.set_cons_zero, List.set_cons_succ, i64_w, i32_w]
   rfl
  refine pure_ (i := 30) (N := some 57) (v := ?_) (a' := ?_) #[true, true, true, true, true, true, true, true, true, true, true, true, true, true, true, true, true, true, true, true, true, true, true, true, true, true, true, true, true, true, true, false, false, false, false, false, false, false, false, false, false, false, false, false] rfl rfl (by kernel_rfl) (fun _ _ _ h => h) (Or.inl ⟨by rfl, ?_⟩) ?_ ?_
  rotate_left
  ·intro w'
   go_simp
   with_reducible rfl
  rotate_left
  ·simp only [Act.put, List.setIfInBounds_toArray, List.set_cons_zero, List.set_cons_succ, i64_w, i32_w]
   rfl
  refine take_ (i := 32) (N := some 59) (v := .agg #[.int .u8 5, .int .u64 1, .string ⟨#[]⟩, .slice none 0 0]) #[true, true, true, true, true, true, true, true, true, true, true, true, true, true, true, true, true, true, true, true, true, true, true, true, true, true, true, true, true, true, true, false, true, false, false, false, false, false, false, false, false, false, false, false] rfl rfl (by kernel_rfl) (fun _ _ _ h => h) (Or.inl ⟨by rfl, ?_⟩) hS908 rfl ?_
  ·rintro w' ⟨h1, h3, h4, h6⟩
   obtain ⟨e0, e1, e2, e3⟩ := h1.c4
   go_simp
  refine norm_ (a' := ?_) ?_ ?_
  rotate_left
  ·try simp only [Act.put, putAll, List.setIfInBounds_toArray, List.set_cons_zero, List.set_cons_succ]
   rfl
  refine one_ (i := 31) (N := some 58) #[true, true, true, true, true, true, true, true, true, true, true, true, true, true, true, true, true, true, true, true, true, true, true, true, true, true, true, true, true, true, true, true, true, false, false, false, false, false, false, false, false, false, false, false] rfl rfl (by kernel_rfl) (by decide) (fun K hK => ?_)
  refine goes_ Try.func24 (by kernel_rfl) rfl #[.int .u8 21, .string ⟨#[97]⟩] (by rfl) rfl rfl (by (try simp only [List.map_toArray, List.map_cons, List.map_nil]); first | done | rfl) ?_
  refine (text24_any 21 ⟨#[97]⟩ _).mono ?_
  rintro e w909 ⟨rfl, hb909⟩
  refine ⟨_, rfl, ?_⟩
  have hS909 := hS908
  replace hS909 := (⟨hS909.1.below hb909, hS909.2.1.below hb909, hS909.2.2.1.below hb909, hS909.2.2.2.below hb909⟩ : _ ∧ _ ∧ _ ∧ _)
  have HC909 := Aside0.mk (Kd.C_below HC908.out hb909)
  have HD909 := Aside0.mk (Kd.C_below HD908.out hb909)
  have HX909 := Aside0.mk (Kd.C_below HX908.out hb909)
  have HB909 := Aside0.mk (below_step HB908.out hb909)
  refine hK.out _ _ hS909 (fun _ => ?_)
  clear hK K hb909
  refine norm_ (a' := ?_) ?_ ?_
  rotate_left
  ·try simp only [Act.put, putAll, List.setIfInBounds_toArray, List.set_cons_zero, List.set_cons_succ]
   rfl
  refine one_ (i := 33) (N := some 60) #[true, true, true, true, true, true, true, true, true, true, true, true, true, true, true, true, true, true, true, true, true, true, true, true, true, true, true, true, true, true, true, true, true, true, false, false, false, false, false, false, false, false, false, false] rfl rfl (by kernel_rfl) (by decide) (fun K hK => ?_)
  refine goes_ Try.func28 (by kernel_rfl) rfl #[.agg #[.int .u8 21, .int .u64 0, .string ⟨#[97]⟩, .slice none 0 0], .agg #[.int .u8 5, .int .u64 1, .string ⟨#[]⟩, .slice none 0 0]] (by rfl) rfl rfl (by (try simp only [List.map_toArray, List.map_cons, List.map_nil]); first | done | rfl) ?_
  refine (desc28_any vSym vOne w_d2 none none 0 0 _ (C_none _) (Nat.le_refl _) (C_none _) (Nat.le_refl _)).mono ?_
  rintro e w910 ⟨v910, rfl, hR910, hb910⟩
  obtain ⟨Ad910, cd910, rfl, hcd910, hCd910⟩ := Kd.R_reads hR910
  refine ⟨_, rfl, ?_⟩
  have hS910 := hS909
  replace hS910 := (⟨hS910.1.below hb910, hS910.2.1.below hb910, hS910.2.2.1.below hb910, hS910.2.2.2.below hb910⟩ : _ ∧ _ ∧ _ ∧ _)
  have HC910 := Aside0.mk (Kd.C_below HC909.out hb910)
  have HD910 := Aside0.mk (Kd.C_below HD909.out hb910)
  have HX910 := Aside0.mk (Kd.C_below HX909.out hb910)
  have HB910 := Aside0.mk (below_step HB909.out hb910)
  refine hK.out _ _ hS910 (fun _ => ?_)
  clear hK K hb910
  refine norm_ (a' := ?_) ?_ ?_
  rotate_left
  ·try simp only [Act.put, putAll, List.setIfInBounds_toArray, List.set_cons_zero, List.set_cons_succ]
   rfl
  refine one_ (i := 34) (N := some 61) #[true, true, true, true, true, true, true, true, true, true, true, true, true, true, true, true, true, true, true, true, true, true, true, true, true, true, true, true, true, true, true, true, true, true, true, false, false, false, false, false, false, false, false, false] rfl rfl (by kernel_rfl) (by decide) (fun K hK => ?_)
  refine goes_ Try.func17 (by kernel_rfl) rfl #[.agg #[.int .u8 25, .int .u64 0, .string ⟨#[]⟩, .slice Ad910 2 cd910]] (by rfl) rfl rfl (by (try simp only [List.map_toArray, List.map_cons, List.map_nil]); first | done | rfl) ?_
  refine (right17_any vDsc w_d3 w_do Ad910 cd910 _ hCd910 hcd910).mono ?_
  rintro e w911 ⟨he, hb911⟩
  rw [w_dsc] at he
  subst he
  refine ⟨_, rfl, ?_⟩
  have hS911 := hS910
  replace hS911 := (⟨hS911.1.below hb911, hS911.2.1.below hb911, hS911.2.2.1.below hb911, hS911.2.2.2.below hb911⟩ : _ ∧ _ ∧ _ ∧ _)
  have HC911 := Aside0.mk (Kd.C_below HC910.out hb911)
  have HD911 := Aside0.mk (Kd.C_below HD910.out hb911)
  have HX911 := Aside0.mk (Kd.C_below HX910.out hb911)
  have HB911 := Aside0.mk (below_step HB910.out hb911)
  refine hK.out _ _ hS911 (fun _ => ?_)
  clear hK K hb911
  refine norm_ (a' := ?_) ?_ ?_
  rotate_left
  ·try simp only [Act.put, putAll, List.setIfInBounds_toArray, List.set_cons_zero, List.set_cons_succ]
   rfl
  refine pure_ (i := 35) (N := some 62) (v := ?_) (a' := ?_) #[true, true, true, true, true, true, true, true, true, true, true, true, true, true, true, true, true, true, true, true, true, true, true, true, true, true, true, true, true, true, true, true, true, true, true, true, false, false, false, false, false, false, false, false] rfl rfl (by kernel_rfl) (fun _ _ _ h => h) (Or.inl ⟨by rfl, ?_⟩) ?_ ?_
  rotate_left
  ·intro w'
   go_simp
   with_reducible rfl
  rotate_left
  ·simp only [Act.put, List.setIfInBounds_toArray, List.set_cons_zero, List.set_cons_succ, i64_w, i32_w]
   rfl
  refine pure_ (i := 36) (N := some 63) (v := ?_) (a' := ?_) #[true, true, true, true, true, true, true, true, true, true, true, true, true, true, true, true, true, true, true, true, true, true, true, true, true, true, true, true, true, true, true, true, true, true, true, true, true, false, false, false, false, false, false, false] rfl rfl (by kernel_rfl) (fun _ _ _ h => h) (Or.inl ⟨by rfl, ?_⟩) ?_ ?_
  rotate_left
  ·intro w'
   go_simp
   with_reducible rfl
  rotate_left
  ·simp only [Act.put, List.setIfInBounds_toArray, List.set_cons_zero, List.set_cons_succ, i64_w, i32_w]
   rfl
  refine take_ (i := 37) (N := some 64) (v := .agg #[.int .u8 5, .int .u64 1, .string ⟨#[]⟩, .slice none 0 0]) #[true, true, true, true, true, true, true, true, true, true, true, true, true, true, true, true, true, true, true, true, true, true, true, true, true, true, true, true, true, true, true, true, true, true, true, true, true, true, false, false, false, false, false, false] rfl rfl (by kernel_rfl) (fun _ _ _ h => h) (Or.inl ⟨by rfl, ?_⟩) hS911 rfl ?_
  ·rintro w' ⟨h1, h3, h4, h6⟩
   obtain ⟨e0, e1, e2, e3⟩ := h1.c4
   go_simp
  refine norm_ (a' := ?_) ?_ ?_
  rotate_left
  ·try simp only [Act.put, putAll, List.setIfInBounds_toArray, List.set_cons_zero, List.set_cons_succ]
   rfl
  refine take_ (i := 38) (N := some 65) (v := .agg #[.int .u8 5, .int .u64 1, .string ⟨#[]⟩, .slice none 0 0]) #[true, true, true, true, true, true, true, true, true, true, true, true, true, true, true, true, true, true, true, true, true, true, true, true, true, true, true, true, true, true, true, true, true, true, true, true, true, true, true, false, false, false, false, false] rfl rfl (by kernel_rfl) (fun _ _ _ h => h) (Or.inl ⟨by rfl, ?_⟩) hS911 rfl ?_
  ·rintro w' ⟨h1, h3, h4, h6⟩
   obtain ⟨e0, e1, e2, e3⟩ := h1.c4
   go_simp
  refine norm_ (a' := ?_) ?_ ?_
  rotate_left
  ·try simp only [Act.put, putAll, List.setIfInBounds_toArray, List.set_cons_zero, List.set_cons_succ]
   rfl
  refine one_ (i := 39) (N := some 66) #[true, true, true, true, true, true, true, true, true, true, true, true, true, true, true, true, true, true, true, true, true, true, true, true, true, true, true, true, true, true, true, true, true, true, true, true, true, true, true, true, false, false, false, false] rfl rfl (by kernel_rfl) (by decide) (fun K hK => ?_)
  refine goes_ Try.func28 (by kernel_rfl) rfl #[.agg #[.int .u8 5, .int .u64 1, .string ⟨#[]⟩, .slice none 0 0], .agg #[.int .u8 5, .int .u64 1, .string ⟨#[]⟩, .slice none 0 0]] (by rfl) rfl rfl (by (try simp only [List.map_toArray, List.map_cons, List.map_nil]); first | done | rfl) ?_
  refine (desc28_any vOne vOne w_o2 none none 0 0 _ (C_none _) (Nat.le_refl _) (C_none _) (Nat.le_refl _)).mono ?_
  rintro e w912 ⟨v912, rfl, hR912, hb912⟩
  obtain ⟨Ad912, cd912, rfl, hcd912, hCd912⟩ := Kd.R_reads hR912
  refine ⟨_, rfl, ?_⟩
  have hS912 := hS911
  replace hS912 := (⟨hS912.1.below hb912, hS912.2.1.below hb912, hS912.2.2.1.below hb912, hS912.2.2.2.below hb912⟩ : _ ∧ _ ∧ _ ∧ _)
  have HC912 := Aside0.mk (Kd.C_below HC911.out hb912)
  have HD912 := Aside0.mk (Kd.C_below HD911.out hb912)
  have HX912 := Aside0.mk (Kd.C_below HX911.out hb912)
  have HB912 := Aside0.mk (below_step HB911.out hb912)
  refine hK.out _ _ hS912 (fun _ => ?_)
  clear hK K hb912
  refine norm_ (a' := ?_) ?_ ?_
  rotate_left
  ·try simp only [Act.put, putAll, List.setIfInBounds_toArray, List.set_cons_zero, List.set_cons_succ]
   rfl
  refine one_ (i := 40) (N := some 67) #[true, true, true, true, true, true, true, true, true, true, true, true, true, true, true, true, true, true, true, true, true, true, true, true, true, true, true, true, true, true, true, true, true, true, true, true, true, true, true, true, true, false, false, false] rfl rfl (by kernel_rfl) (by decide) (fun K hK => ?_)
  refine goes_ Try.func17 (by kernel_rfl) rfl #[.agg #[.int .u8 25, .int .u64 0, .string ⟨#[]⟩, .slice Ad912 2 cd912]] (by rfl) rfl rfl (by (try simp only [List.map_toArray, List.map_cons, List.map_nil]); first | done | rfl) ?_
  refine (right17_any vDs2 w_e3 w_eo Ad912 cd912 _ hCd912 hcd912).mono ?_
  rintro e w913 ⟨he, hb913⟩
  rw [w_ds2] at he
  subst he
  refine ⟨_, rfl, ?_⟩
  have hS913 := hS912
  replace hS913 := (⟨hS913.1.below hb913, hS913.2.1.below hb913, hS913.2.2.1.below hb913, hS913.2.2.2.below hb913⟩ : _ ∧ _ ∧ _ ∧ _)
  have HC913 := Aside0.mk (Kd.C_below HC912.out hb913)
  have HD913 := Aside0.mk (Kd.C_below HD912.out hb913)
  have HX913 := Aside0.mk (Kd.C_below HX912.out hb913)
  have HB913 := Aside0.mk (below_step HB912.out hb913)
  refine hK.out _ _ hS913 (fun _ => ?_)
  clear hK K hb913
  refine norm_ (a' := ?_) ?_ ?_
  rotate_left
  ·try simp only [Act.put, putAll, List.setIfInBounds_toArray, List.set_cons_zero, List.set_cons_succ]
   rfl
  refine pure_ (i := 41) (N := some 68) (v := ?_) (a' := ?_) #[true, true, true, true, true, true, true, true, true, true, true, true, true, true, true, true, true, true, true, true, true, true, true, true, true, true, true, true, true, true, true, true, true, true, true, true, true, true, true, true, true, true, false, false] rfl rfl (by kernel_rfl) (fun _ _ _ h => h) (Or.inl ⟨by rfl, ?_⟩) ?_ ?_
  rotate_left
  ·intro w'
   go_simp
   with_reducible rfl
  rotate_left
  ·simp only [Act.put, List.setIfInBounds_toArray, List.set_cons_zero, List.set_cons_succ, i64_w, i32_w]
   rfl
  refine pure_ (i := 42) (N := some 69) (v := ?_) (a' := ?_) #[true, true, true, true, true, true, true, true, true, true, true, true, true, true, true, true, true, true, true, true, true, true, true, true, true, true, true, true, true, true, true, true, true, true, true, true, true, true, true, true, true, true, true, false] rfl rfl (by kernel_rfl) (fun _ _ _ h => h) (Or.inl ⟨by rfl, ?_⟩) ?_ ?_
  rotate_left
  ·intro w'
   go_simp
   with_reducible rfl
  rotate_left
  ·simp only [Act.put, List.setIfInBounds_toArray, List.set_cons_zero, List.set_cons_succ, i64_w, i32_w]
   rfl
  refine pure_ (i := 43) (N := some 0) (v := ?_) (a' := ?_) #[true, true, true, true, true, true, true, true, true, true, true, true, true, true, true, true, true, true, true, true, true, true, true, true, true, true, true, true, true, true, true, true, true, true, true, true, true, true, true, true, true, true, true, true] rfl rfl (by kernel_rfl) (fun _ _ _ h => h) (Or.inl ⟨by rfl, ?_⟩) ?_ ?_
  rotate_left
  ·intro w'
   go_simp
   with_reducible rfl
  rotate_left
  ·simp only [Act.put, List.setIfInBounds_toArray, List.set_cons_zero, List.set_cons_succ, i64_w, i32_w]
   rfl
  refine done_ (by kernel_rfl) ?_
  go_wp2_with fail
  go_ret
  exact ⟨rfl, HB913.out⟩⟩
 refine start_ (n := 8) (S := fun w' => w'.cell? ⟨b1, 0, none⟩ = some (.int .u8 5) ∧ w'.cell? ⟨b1, 1, none⟩ = some (.int .u64 1) ∧ w'.cell? ⟨b1, 2, none⟩ = some (.string ⟨#[]⟩) ∧ w'.cell? ⟨b1, 3, none⟩ = some (.slice none 0 0) ∧ w'.cell? ⟨b2, 0, none⟩ = some (.int .u8 6) ∧ w'.cell? ⟨b2, 1, none⟩ = some (.int .u64 1) ∧ w'.cell? ⟨b2, 2, none⟩ = some (.string ⟨#[]⟩) ∧ w'.cell? ⟨b2, 3, none⟩ = some (.slice none 0 0)) (ds := [7]) #[false, false, false, false, false, false, false, false] (by kernel_rfl) rfl rfl ⟨bA.c4.1, bA.c4.2.1, bA.c4.2.2.1, bA.c4.2.2.2, bB.c4.1, bB.c4.2.1, bB.c4.2.2.1, bB.c4.2.2.2⟩ (fun hS => ?_)
 have bA : Blk w3.drew b1 #[.int .u8 5, .int .u64 1, .string ⟨#[]⟩, .slice none 0 0] 25 := bA
 have bB : Blk w3.drew b2 #[.int .u8 6, .int .u64 1, .string ⟨#[]⟩, .slice none 0 0] 25 := bB
 have HB2 : Aside0 (Below w.heap.size w w3.drew) := ⟨below_drew HB2.out⟩
 generalize w3.drew = w4 at bA bB HB2 hS ⊢
 refine take_ (i := 0) (N := some 9) (v := .agg #[.int .u8 5, .int .u64 1, .string ⟨#[]⟩, .slice none 0 0]) #[true, false, false, false, false, false, false, false] rfl rfl (by kernel_rfl) (fun _ _ _ h => h) (Or.inl ⟨by rfl, ?_⟩) hS rfl ?_
 ·rintro w' ⟨e0, e1, e2, e3, e4, e5, e6, e7⟩
  go_simp
 refine take_ (i := 2) (N := some 11) (v := .agg #[.int .u8 6, .int .u64 1, .string ⟨#[]⟩, .slice none 0 0]) #[true, false, true, false, false, false, false, false] rfl rfl (by kernel_rfl) (fun _ _ _ h => h) (Or.inl ⟨by rfl, ?_⟩) hS rfl ?_
 ·rintro w' ⟨e0, e1, e2, e3, e4, e5, e6, e7⟩
  go_simp
 refine norm_ (a' := ?_) ?_ ?_
 rotate_left
 ·try simp only [Act.put, putAll, List.setIfInBounds_toArray, List.set_cons_zero, List.set_cons_succ]
  rfl
 refine two_ (i := 1) (j := 6) (Ni := some 10) (Nj := some 3) #[true, true, true, false, false, false, false, false] #[true, false, true, false, false, false, true, false] rfl rfl rfl rfl (by kernel_rfl) (by decide) (by decide) (fun K hK => ?_) (fun K hK => ?_)
 ·refine goes_ Try.func26 (by kernel_rfl) rfl #[] (by rfl) rfl rfl (by (try simp only [List.map_toArray, List.map_cons, List.map_nil]); first | done | rfl) ?_
  refine (null26_any _).mono ?_
  rintro e w101 ⟨rfl, hb101⟩
  refine ⟨_, rfl, ?_⟩
  have bA_101 := bA.below hb101
  have bB_101 := bB.below hb101
  have HB101 := Aside0.mk (below_step HB2.out hb101)
  refine hK.out _ _ ⟨bA_101.c4.1, bA_101.c4.2.1, bA_101.c4.2.2.1, bA_101.c4.2.2.2, bB_101.c4.1, bB_101.c4.2.1, bB_101.c4.2.2.1, bB_101.c4.2.2.2⟩ (fun _ => ?_)
  clear hK K
  refine norm_ (a' := ?_) ?_ ?_
  rotate_left
  ·try simp only [Act.put, putAll, List.setIfInBounds_toArray, List.set_cons_zero, List.set_cons_succ]
   rfl
  refine two_ (i := 3) (j := 6) (Ni := some 12) (Nj := some 3) #[true, true, true, true, false, false, false, false] #[true, true, true, false, false, false, true, false] rfl rfl rfl rfl (by kernel_rfl) (by decide) (by decide) (fun K hK => ?_) (fun K hK => ?_)
  ·refine goes_ Try.func27 (by kernel_rfl) rfl #[.bool true] (by rfl) rfl rfl (by (try simp only [List.map_toArray, List.map_cons, List.map_nil]); first | done | rfl) ?_
   refine (bool27_any true _).mono ?_
   rintro e w102 ⟨rfl, hb102⟩
   refine ⟨_, rfl, ?_⟩
   have bA_102 := bA_101.below hb102
   have bB_102 := bB_101.below hb102
   have HB102 := Aside0.mk (below_step HB101.out hb102)
   refine hK.out _ _ ⟨bA_102.c4.1, bA_102.c4.2.1, bA_102.c4.2.2.1, bA_102.c4.2.2.2, bB_102.c4.1, bB_102.c4.2.1, bB_102.c4.2.2.1, bB_102.c4.2.2.2⟩ (fun _ => ?_)
   clear hK K
   refine norm_ (a' := ?_) ?_ ?_
   rotate_left
   ·try simp only [Act.put, putAll, List.setIfInBounds_toArray, List.set_cons_zero, List.set_cons_succ]
    rfl
   refine two_ (i := 4) (j := 6) (Ni := some 13) (Nj := some 3) #[true, true, true, true, true, false, false, false] #[true, true, true, true, false, false, true, false] rfl rfl rfl rfl (by kernel_rfl) (by decide) (by decide) (fun K hK => ?_) (fun K hK => ?_)
   ·rw [if_pos (by rfl)]
    unfold Oper.wp
    go_simp
    have bs103 := Blk.new w102 (flatK [⟨vOne, none, 0⟩, ⟨vNul, none, 0⟩, ⟨vBig, none, 0⟩, ⟨vTru, none, 0⟩]).toArray 25
    have bA_103 := bA_102.alloc (.cells #[.int .u8 5, .int .u64 1, .string ⟨#[]⟩, .slice none 0 0, .int .u8 1, .int .u64 0, .string ⟨#[]⟩, .slice none 0 0, .int .u8 6, .int .u64 1, .string ⟨#[]⟩, .slice none 0 0, .int .u8 2, .int .u64 1, .string ⟨#[]⟩, .slice none 0 0] 25)
    have bB_103 := bB_102.alloc (.cells #[.int .u8 5, .int .u64 1, .string ⟨#[]⟩, .slice none 0 0, .int .u8 1, .int .u64 0, .string ⟨#[]⟩, .slice none 0 0, .int .u8 6, .int .u64 1, .string ⟨#[]⟩, .slice none 0 0, .int .u8 2, .int .u64 1, .string ⟨#[]⟩, .slice none 0 0] 25)
    have HB103 := Aside0.mk (below_alloc HB102.out (.cells #[.int .u8 5, .int .u64 1, .string ⟨#[]⟩, .slice none 0 0, .int .u8 1, .int .u64 0, .string ⟨#[]⟩, .slice none 0 0, .int .u8 6, .int .u64 1, .string ⟨#[]⟩, .slice none 0 0, .int .u8 2, .int .u64 1, .string ⟨#[]⟩, .slice none 0 0] 25))
    have hbs103 : Blk (w102.alloc (.cells #[.int .u8 5, .int .u64 1, .string ⟨#[]⟩, .slice none 0 0, .int .u8 1, .int .u64 0, .string ⟨#[]⟩, .slice none 0 0, .int .u8 6, .int .u64 1, .string ⟨#[]⟩, .slice none 0 0, .int .u8 2, .int .u64 1, .string ⟨#[]⟩, .slice none 0 0] 25)) w102.heap.size (flatK [⟨vOne, none, 0⟩, ⟨vNul, none, 0⟩, ⟨vBig, none, 0⟩, ⟨vTru, none, 0⟩]).toArray 25 := bs103
    obtain ⟨w103, hw103⟩ : ∃ W, w102.alloc (.cells #[.int .u8 5, .int .u64 1, .string ⟨#[]⟩, .slice none 0 0, .int .u8 1, .int .u64 0, .string ⟨#[]⟩, .slice none 0 0, .int .u8 6, .int .u64 1, .string ⟨#[]⟩, .slice none 0 0, .int .u8 2, .int .u64 1, .string ⟨#[]⟩, .slice none 0 0] 25) = W := ⟨_, rfl⟩
    rw [hw103] at bA_103 bB_103 hbs103 HB103 ⊢
    clear hw103 bs103
    refine hK.out _ _ ⟨bA_103.c4.1, bA_103.c4.2.1, bA_103.c4.2.2.1, bA_103.c4.2.2.2, bB_103.c4.1, bB_103.c4.2.1, bB_103.c4.2.2.1, bB_103.c4.2.2.2⟩ (fun _ => ?_)
    clear hK K
    refine norm_ (a' := ?_) ?_ ?_
    rotate_left
    ·try simp only [Act.put, putAll, List.setIfInBounds_toArray, List.set_cons_zero, List.set_cons_succ]
     rfl
    refine two_ (i := 5) (j := 6) (Ni := some 14) (Nj := some 3) #[true, true, true, true, true, true, false, false] #[true, true, true, true, true, false, true, false] rfl rfl rfl rfl (by kernel_rfl) (by decide) (by decide) (fun K hK => ?_) (fun K hK => ?_)
    ·have hC104 := C_lit (ks := [⟨vOne, none, 0⟩, ⟨vNul, none, 0⟩, ⟨vBig, none, 0⟩, ⟨vTru, none, 0⟩]) hbs103 (by decide) (by
      intro q hq
      simp only [List.mem_cons, List.not_mem_nil, or_false] at hq
      rcases hq with rfl | rfl | rfl | rfl <;> exact ⟨C_none _, Nat.le_refl _⟩)
     refine goes_ Try.func21 (by kernel_rfl) rfl #[.int .u8 23, .slice (some ⟨w102.heap.size, 0, none⟩) 4 4] (by rfl) rfl rfl (by (try simp only [List.map_toArray, List.map_cons, List.map_nil]); first | done | rfl) ?_
     refine (many21_any 23 [vOne, vNul, vBig, vTru] w_l4 _ 4 _ hC104 (by decide)).mono ?_
     rintro e w104 ⟨v3, rfl, hR104, hb104⟩
     obtain ⟨A3, c3, rfl, hc3, -⟩ := Kd.R_reads hR104
     refine ⟨_, rfl, ?_⟩
     have bA_104 := bA_103.below hb104
     have bB_104 := bB_103.below hb104
     have bs_104 := hbs103.below hb104
     have HB104 := Aside0.mk (below_step HB103.out hb104)
     refine hK.out _ _ ⟨bA_104.c4.1, bA_104.c4.2.1, bA_104.c4.2.2.1, bA_104.c4.2.2.2, bB_104.c4.1, bB_104.c4.2.1, bB_104.c4.2.2.1, bB_104.c4.2.2.2⟩ (fun _ => ?_)
     clear hK K
     refine norm_ (a' := ?_) ?_ ?_
     rotate_left
     ·try simp only [Act.put, putAll, List.setIfInBounds_toArray, List.set_cons_zero, List.set_cons_succ]
      rfl
     refine one_ (i := 6) (N := some 3) #[true, true, true, true, true, true, true, false] rfl rfl (by kernel_rfl) (by decide) (fun K hK => ?_)
     have hRf105 : k25.R 25 (w104.alloc (.cells #[.int .u8 0, .int .u64 0, .string ⟨#[]⟩, .slice none 0 0] 25)) _ (fun k => k ≠ w104.heap.size) (.slice A3 4 c3) [vOne, vNul, vBig, vTru] := Kd.R_alloc (Kd.R_mono (Kd.R_bound hR104) (fun k hk => by have h1 := hk.2.2.1; omega)) _
     rw [if_pos (by rfl)]
     unfold Oper.wp
     go_simp
     have b3_105 := Blk.new w104 #[.int .u8 0, .int .u64 0, .string ⟨#[]⟩, .slice none 0 0] 25
     have hge105 := HB104.out.size
     have n1_105 : b1 ≠ w104.heap.size := Nat.ne_of_lt bA_104.lt
     have n2_105 : b2 ≠ w104.heap.size := Nat.ne_of_lt bB_104.lt
     have bA_105 := bA_104.alloc (.cells #[.int .u8 0, .int .u64 0, .string ⟨#[]⟩, .slice none 0 0] 25)
     have bB_105 := bB_104.alloc (.cells #[.int .u8 0, .int .u64 0, .string ⟨#[]⟩, .slice none 0 0] 25)
     have bs_105 := bs_104.alloc (.cells #[.int .u8 0, .int .u64 0, .string ⟨#[]⟩, .slice none 0 0] 25)
     have HB105 := Aside0.mk (below_alloc HB104.out (.cells #[.int .u8 0, .int .u64 0, .string ⟨#[]⟩, .slice none 0 0] 25))
     obtain ⟨w105, hw105⟩ : ∃ W, w104.alloc (.cells #[.int .u8 0, .int .u64 0, .string ⟨#[]⟩, .slice none 0 0] 25) = W := ⟨_, rfl⟩
     rw [hw105] at bA_105 bB_105 bs_105 b3_105 HB105 hRf105 ⊢
     clear hw105
     refine hK.out _ _ ⟨bA_105.c4.1, bA_105.c4.2.1, bA_105.c4.2.2.1, bA_105.c4.2.2.2, bB_105.c4.1, bB_105.c4.2.1, bB_105.c4.2.2.1, bB_105.c4.2.2.2⟩ (fun _ => ?_)
     clear hK K
     refine norm_ (a' := ?_) ?_ ?_
     rotate_left
     ·try simp only [Act.put, putAll, List.setIfInBounds_toArray, List.set_cons_zero, List.set_cons_succ]
      rfl
     refine last_ (i := 7) (N := none) #[true, true, true, true, true, true, true, true] rfl rfl (by kernel_rfl) (by decide) (fun K hK => ?_)
     rw [if_pos (by rfl)]
     obtain ⟨e0, e1, e2, e3⟩ := b3_105.c4
     have fz := b3_105.fz
     unfold Oper.wp
     go_simp
     refine hK.out _ _ ?_
     refine done_ (by kernel_rfl) ?_
     refine HK.out w104.heap.size A3 c3 _ _ hge105 hc3 ?_ ?_ ?_ ?_ ?_
     ·exact Blk.far (Blk.far (Blk.far (Blk.far bA_105 n1_105 _) n1_105 _) n1_105 _) n1_105 _
     ·exact Blk.far (Blk.far (Blk.far (Blk.far bB_105 n2_105 _) n2_105 _) n2_105 _) n2_105 _
     ·refine blk_put (cs := #[.int .u8 23, .int .u64 0, .string ⟨#[]⟩, .slice none 0 0]) ?_ 3 _ rfl
      refine blk_put (cs := #[.int .u8 23, .int .u64 0, .string ⟨#[]⟩, .slice none 0 0]) ?_ 2 _ rfl
      refine blk_put (cs := #[.int .u8 23, .int .u64 0, .string ⟨#[]⟩, .slice none 0 0]) ?_ 1 _ rfl
      refine blk_put (cs := #[.int .u8 0, .int .u64 0, .string ⟨#[]⟩, .slice none 0 0]) ?_ 0 _ rfl
      exact b3_105
     ·exact ⟨_, _, Kd.R_far (Kd.R_far (Kd.R_far (Kd.R_far hRf105 (fun _ h => h) _) (fun _ h => h) _) (fun _ h => h) _) (fun _ h => h) _⟩
     ·exact below_set (below_set (below_set (below_set HB105.out hge105) hge105) hge105) hge105
    ·rw [if_pos (by rfl)]
     unfold Oper.wp
     go_simp
     have b3_107 := Blk.new w103 #[.int .u8 0, .int .u64 0, .string ⟨#[]⟩, .slice none 0 0] 25
     have hge107 := HB103.out.size
     have n1_107 : b1 ≠ w103.heap.size := Nat.ne_of_lt bA_103.lt
     have n2_107 : b2 ≠ w103.heap.size := Nat.ne_of_lt bB_103.lt
     have bA_107 := bA_103.alloc (.cells #[.int .u8 0, .int .u64 0, .string ⟨#[]⟩, .slice none 0 0] 25)
     have bB_107 := bB_103.alloc (.cells #[.int .u8 0, .int .u64 0, .string ⟨#[]⟩, .slice none 0 0] 25)
     have bs_107 := hbs103.alloc (.cells #[.int .u8 0, .int .u64 0, .string ⟨#[]⟩, .slice none 0 0] 25)
     have HB107 := Aside0.mk (below_alloc HB103.out (.cells #[.int .u8 0, .int .u64 0, .string ⟨#[]⟩, .slice none 0 0] 25))
     obtain ⟨w107, hw107⟩ : ∃ W, w103.alloc (.cells #[.int .u8 0, .int .u64 0, .string ⟨#[]⟩, .slice none 0 0] 25) = W := ⟨_, rfl⟩
     rw [hw107] at bA_107 bB_107 bs_107 b3_107 HB107  ⊢
     clear hw107
     refine hK.out _ _ ⟨bA_107.c4.1, bA_107.c4.2.1, bA_107.c4.2.2.1, bA_107.c4.2.2.2, bB_107.c4.1, bB_107.c4.2.1, bB_107.c4.2.2.1, bB_107.c4.2.2.2⟩ (fun _ => ?_)
     clear hK K
     refine norm_ (a' := ?_) ?_ ?_
     rotate_left
     ·try simp only [Act.put, putAll, List.setIfInBounds_toArray, List.set_cons_zero, List.set_cons_succ]
      rfl
     refine one_ (i := 5) (N := some 14) #[true, true, true, true, true, true, true, false] rfl rfl (by kernel_rfl) (by decide) (fun K hK => ?_)
     have hC108 := C_lit (ks := [⟨vOne, none, 0⟩, ⟨vNul, none, 0⟩, ⟨vBig, none, 0⟩, ⟨vTru, none, 0⟩]) bs_107 (by decide) (by
      intro q hq
      simp only [List.mem_cons, List.not_mem_nil, or_false] at hq
      rcases hq with rfl | rfl | rfl | rfl <;> exact ⟨C_none _, Nat.le_refl _⟩)
     refine goes_ Try.func21 (by kernel_rfl) rfl #[.int .u8 23, .slice (some ⟨w102.heap.size, 0, none⟩) 4 4] (by rfl) rfl rfl (by (try simp only [List.map_toArray, List.map_cons, List.map_nil]); first | done | rfl) ?_
     refine (many21_any 23 [vOne, vNul, vBig, vTru] w_l4 _ 4 _ hC108 (by decide)).mono ?_
     rintro e w108 ⟨v3, rfl, hR108, hb108⟩
     obtain ⟨A3, c3, rfl, hc3, -⟩ := Kd.R_reads hR108
     have hlt108 := b3_107.lt
     have hRf108 : k25.R 25 w108 _ (fun k => k ≠ w103.heap.size) (.slice A3 4 c3) [vOne, vNul, vBig, vTru] := Kd.R_mono (Kd.R_bound hR108) (fun k hk => by have h1 := hk.2.1; omega)
     refine ⟨_, rfl, ?_⟩
     have bA_108 := bA_107.below hb108
     have bB_108 := bB_107.below hb108
     have b3_108 := b3_107.below hb108
     have bs_108 := bs_107.below hb108
     have HB108 := Aside0.mk (below_step HB107.out hb108)
     refine hK.out _ _ ⟨bA_108.c4.1, bA_108.c4.2.1, bA_108.c4.2.2.1, bA_108.c4.2.2.2, bB_108.c4.1, bB_108.c4.2.1, bB_108.c4.2.2.1, bB_108.c4.2.2.2⟩ (fun _ => ?_)
     clear hK K
     refine norm_ (a' := ?_) ?_ ?_
     rotate_left
     ·try simp only [Act.put, putAll, List.setIfInBounds_toArray, List.set_cons_zero, List.set_cons_succ]
      rfl
     refine last_ (i := 7) (N := none) #[true, true, true, true, true, true, true, true] rfl rfl (by kernel_rfl) (by decide) (fun K hK => ?_)
     rw [if_pos (by rfl)]
     obtain ⟨e0, e1, e2, e3⟩ := b3_108.c4
     have fz := b3_108.fz
     unfold Oper.wp
     go_simp
     refine hK.out _ _ ?_
     refine done_ (by kernel_rfl) ?_
     refine HK.out w103.heap.size A3 c3 _ _ hge107 hc3 ?_ ?_ ?_ ?_ ?_
     ·exact Blk.far (Blk.far (Blk.far (Blk.far bA_108 n1_107 _) n1_107 _) n1_107 _) n1_107 _
     ·exact Blk.far (Blk.far (Blk.far (Blk.far bB_108 n2_107 _) n2_107 _) n2_107 _) n2_107 _
     ·refine blk_put (cs := #[.int .u8 23, .int .u64 0, .string ⟨#[]⟩, .slice none 0 0]) ?_ 3 _ rfl
      refine blk_put (cs := #[.int .u8 23, .int .u64 0, .string ⟨#[]⟩, .slice none 0 0]) ?_ 2 _ rfl
      refine blk_put (cs := #[.int .u8 23, .int .u64 0, .string ⟨#[]⟩, .slice none 0 0]) ?_ 1 _ rfl
      refine blk_put (cs := #[.int .u8 0, .int .u64 0, .string ⟨#[]⟩, .slice none 0 0]) ?_ 0 _ rfl
      exact b3_108
     ·exact ⟨_, _, Kd.R_far (Kd.R_far (Kd.R_far (Kd.R_far hRf108 (fun _ h => h) _) (fun _ h => h) _) (fun _ h => h) _) (fun _ h => h) _⟩
     ·exact below_set (below_set (below_set (below_set HB108.out hge107) hge107) hge107) hge107
   ·rw [if_pos (by rfl)]
    unfold Oper.wp
    go_simp
    have b3_110 := Blk.new w102 #[.int .u8 0, .int .u64 0, .string ⟨#[]⟩, .slice none 0 0] 25
    have hge110 := HB102.out.size
    have n1_110 : b1 ≠ w102.heap.size := Nat.ne_of_lt bA_102.lt
    have n2_110 : b2 ≠ w102.heap.size := Nat.ne_of_lt bB_102.lt
    have bA_110 := bA_102.alloc (.cells #[.int .u8 0, .int .u64 0, .string ⟨#[]⟩, .slice none 0 0] 25)
    have bB_110 := bB_102.alloc (.cells #[.int .u8 0, .int .u64 0, .string ⟨#[]⟩, .slice none 0 0] 25)
    have HB110 := Aside0.mk (below_alloc HB102.out (.cells #[.int .u8 0, .int .u64 0, .string ⟨#[]⟩, .slice none 0 0] 25))
    obtain ⟨w110, hw110⟩ : ∃ W, w102.alloc (.cells #[.int .u8 0, .int .u64 0, .string ⟨#[]⟩, .slice none 0 0] 25) = W := ⟨_, rfl⟩
    rw [hw110] at bA_110 bB_110 b3_110 HB110  ⊢
    clear hw110
    refine hK.out _ _ ⟨bA_110.c4.1, bA_110.c4.2.1, bA_110.c4.2.2.1, bA_110.c4.2.2.2, bB_110.c4.1, bB_110.c4.2.1, bB_110.c4.2.2.1, bB_110.c4.2.2.2⟩ (fun _ => ?_)
    clear hK K
    refine norm_ (a' := ?_) ?_ ?_
    rotate_left
    ·try simp only [Act.put, putAll, List.setIfInBounds_toArray, List.set_cons_zero, List.set_cons_succ]
     rfl
    refine one_ (i := 4) (N := some 13) #[true, true, true, true, true, false, true, false] rfl rfl (by kernel_rfl) (by decide) (fun K hK => ?_)
    rw [if_pos (by rfl)]
    unfold Oper.wp
    go_simp
    have bs111 := Blk.new w110 (flatK [⟨vOne, none, 0⟩, ⟨vNul, none, 0⟩, ⟨vBig, none, 0⟩, ⟨vTru, none, 0⟩]).toArray 25
    have bA_111 := bA_110.alloc (.cells #[.int .u8 5, .int .u64 1, .string ⟨#[]⟩, .slice none 0 0, .int .u8 1, .int .u64 0, .string ⟨#[]⟩, .slice none 0 0, .int .u8 6, .int .u64 1, .string ⟨#[]⟩, .slice none 0 0, .int .u8 2, .int .u64 1, .string ⟨#[]⟩, .slice none 0 0] 25)
    have bB_111 := bB_110.alloc (.cells #[.int .u8 5, .int .u64 1, .string ⟨#[]⟩, .slice none 0 0, .int .u8 1, .int .u64 0, .string ⟨#[]⟩, .slice none 0 0, .int .u8 6, .int .u64 1, .string ⟨#[]⟩, .slice none 0 0, .int .u8 2, .int .u64 1, .string ⟨#[]⟩, .slice none 0 0] 25)
    have b3_111 := b3_110.alloc (.cells #[.int .u8 5, .int .u64 1, .string ⟨#[]⟩, .slice none 0 0, .int .u8 1, .int .u64 0, .string ⟨#[]⟩, .slice none 0 0, .int .u8 6, .int .u64 1, .string ⟨#[]⟩, .slice none 0 0, .int .u8 2, .int .u64 1, .string ⟨#[]⟩, .slice none 0 0] 25)
    have HB111 := Aside0.mk (below_alloc HB110.out (.cells #[.int .u8 5, .int .u64 1, .string ⟨#[]⟩, .slice none 0 0, .int .u8 1, .int .u64 0, .string ⟨#[]⟩, .slice none 0 0, .int .u8 6, .int .u64 1, .string ⟨#[]⟩, .slice none 0 0, .int .u8 2, .int .u64 1, .string ⟨#[]⟩, .slice none 0 0] 25))
    have hbs111 : Blk (w110.alloc (.cells #[.int .u8 5, .int .u64 1, .string ⟨#[]⟩, .slice none 0 0, .int .u8 1, .int .u64 0, .string ⟨#[]⟩, .slice none 0 0, .int .u8 6, .int .u64 1, .string ⟨#[]⟩, .slice none 0 0, .int .u8 2, .int .u64 1, .string ⟨#[]⟩, .slice none 0 0] 25)) w110.heap.size (flatK [⟨vOne, none, 0⟩, ⟨vNul, none, 0⟩, ⟨vBig, none, 0⟩, ⟨vTru, none, 0⟩]).toArray 25 := bs111
    obtain ⟨w111, hw111⟩ : ∃ W, w110.alloc (.cells #[.int .u8 5, .int .u64 1, .string ⟨#[]⟩, .slice none 0 0, .int .u8 1, .int .u64 0, .string ⟨#[]⟩, .slice none 0 0, .int .u8 6, .int .u64 1, .string ⟨#[]⟩, .slice none 0 0, .int .u8 2, .int .u64 1, .string ⟨#[]⟩, .slice none 0 0] 25) = W := ⟨_, rfl⟩
    rw [hw111] at bA_111 bB_111 b3_111 hbs111 HB111 ⊢
    clear hw111 bs111
    refine hK.out _ _ ⟨bA_111.c4.1, bA_111.c4.2.1, bA_111.c4.2.2.1, bA_111.c4.2.2.2, bB_111.c4.1, bB_111.c4.2.1, bB_111.c4.2.2.1, bB_111.c4.2.2.2⟩ (fun _ => ?_)
    clear hK K
    refine norm_ (a' := ?_) ?_ ?_
    rotate_left
    ·try simp only [Act.put, putAll, List.setIfInBounds_toArray, List.set_cons_zero, List.set_cons_succ]
     rfl
    refine one_ (i := 5) (N := some 14) #[true, true, true, true, true, true, true, false] rfl rfl (by kernel_rfl) (by decide) (fun K hK => ?_)
    have hC112 := C_lit (ks := [⟨vOne, none, 0⟩, ⟨vNul, none, 0⟩, ⟨vBig, none, 0⟩, ⟨vTru, none, 0⟩]) hbs111 (by decide) (by
     intro q hq
     simp only [List.mem_cons, List.not_mem_nil, or_false] at hq
     rcases hq with rfl | rfl | rfl | rfl <;> exact ⟨C_none _, Nat.le_refl _⟩)
    refine goes_ Try.func21 (by kernel_rfl) rfl #[.int .u8 23, .slice (some ⟨w110.heap.size, 0, none⟩) 4 4] (by rfl) rfl rfl (by (try simp only [List.map_toArray, List.map_cons, List.map_nil]); first | done | rfl) ?_
    refine (many21_any 23 [vOne, vNul, vBig, vTru] w_l4 _ 4 _ hC112 (by decide)).mono ?_
    rintro e w112 ⟨v3, rfl, hR112, hb112⟩
    obtain ⟨A3, c3, rfl, hc3, -⟩ := Kd.R_reads hR112
    have hlt112 := b3_111.lt
    have hRf112 : k25.R 25 w112 _ (fun k => k ≠ w102.heap.size) (.slice A3 4 c3) [vOne, vNul, vBig, vTru] := Kd.R_mono (Kd.R_bound hR112) (fun k hk => by have h1 := hk.2.1; omega)
    refine ⟨_, rfl, ?_⟩
    have bA_112 := bA_111.below hb112
    have bB_112 := bB_111.below hb112
    have b3_112 := b3_111.below hb112
    have bs_112 := hbs111.below hb112
    have HB112 := Aside0.mk (below_step HB111.out hb112)
    refine hK.out _ _ ⟨bA_112.c4.1, bA_112.c4.2.1, bA_112.c4.2.2.1, bA_112.c4.2.2.2, bB_112.c4.1, bB_112.c4.2.1, bB_112.c4.2.2.1, bB_112.c4.2.2.2⟩ (fun _ => ?_)
    clear hK K
    refine norm_ (a' := ?_) ?_ ?_
    rotate_left
    ·try simp only [Act.put, putAll, List.setIfInBounds_toArray, List.set_cons_zero, List.set_cons_succ]
     rfl
    refine last_ (i := 7) (N := none) #[true, true, true, true, true, true, true, true] rfl rfl (by kernel_rfl) (by decide) (fun K hK => ?_)
    rw [if_pos (by rfl)]
    obtain ⟨e0, e1, e2, e3⟩ := b3_112.c4
    have fz := b3_112.fz
    unfold Oper.wp
    go_simp
    refine hK.out _ _ ?_
    refine done_ (by kernel_rfl) ?_
    refine HK.out w102.heap.size A3 c3 _ _ hge110 hc3 ?_ ?_ ?_ ?_ ?_
    ·exact Blk.far (Blk.far (Blk.far (Blk.far bA_112 n1_110 _) n1_110 _) n1_110 _) n1_110 _
    ·exact Blk.far (Blk.far (Blk.far (Blk.far bB_112 n2_110 _) n2_110 _) n2_110 _) n2_110 _
    ·refine blk_put (cs := #[.int .u8 23, .int .u64 0, .string ⟨#[]⟩, .slice none 0 0]) ?_ 3 _ rfl
     refine blk_put (cs := #[.int .u8 23, .int .u64 0, .string ⟨#[]⟩, .slice none 0 0]) ?_ 2 _ rfl
     refine blk_put (cs := #[.int .u8 23, .int .u64 0, .string ⟨#[]⟩, .slice none 0 0]) ?_ 1 _ rfl
     refine blk_put (cs := #[.int .u8 0, .int .u64 0, .string ⟨#[]⟩, .slice none 0 0]) ?_ 0 _ rfl
     exact b3_112
    ·exact ⟨_, _, Kd.R_far (Kd.R_far (Kd.R_far (Kd.R_far hRf112 (fun _ h => h) _) (fun _ h => h) _) (fun _ h => h) _) (fun _ h => h) _⟩
    ·exact below_set (below_set (below_set (below_set HB112.out hge110) hge110) hge110) hge110
  ·rw [if_pos (by rfl)]
   unfold Oper.wp
   go_simp
   have b3_114 := Blk.new w101 #[.int .u8 0, .int .u64 0, .string ⟨#[]⟩, .slice none 0 0] 25
   have hge114 := HB101.out.size
   have n1_114 : b1 ≠ w101.heap.size := Nat.ne_of_lt bA_101.lt
   have n2_114 : b2 ≠ w101.heap.size := Nat.ne_of_lt bB_101.lt
   have bA_114 := bA_101.alloc (.cells #[.int .u8 0, .int .u64 0, .string ⟨#[]⟩, .slice none 0 0] 25)
   have bB_114 := bB_101.alloc (.cells #[.int .u8 0, .int .u64 0, .string ⟨#[]⟩, .slice none 0 0] 25)
   have HB114 := Aside0.mk (below_alloc HB101.out (.cells #[.int .u8 0, .int .u64 0, .string ⟨#[]⟩, .slice none 0 0] 25))
   obtain ⟨w114, hw114⟩ : ∃ W, w101.alloc (.cells #[.int .u8 0, .int .u64 0, .string ⟨#[]⟩, .slice none 0 0] 25) = W := ⟨_, rfl⟩
   rw [hw114] at bA_114 bB_114 b3_114 HB114  ⊢
   clear hw114
   refine hK.out _ _ ⟨bA_114.c4.1, bA_114.c4.2.1, bA_114.c4.2.2.1, bA_114.c4.2.2.2, bB_114.c4.1, bB_114.c4.2.1, bB_114.c4.2.2.1, bB_114.c4.2.2.2⟩ (fun _ => ?_)
   clear hK K
   refine norm_ (a' := ?_) ?_ ?_
   rotate_left
   ·try simp only [Act.put, putAll, List.setIfInBounds_toArray, List.set_cons_zero, List.set_cons_succ]
    rfl
   refine one_ (i := 3) (N := some 12) #[true, true, true, true, false, false, true, false] rfl rfl (by kernel_rfl) (by decide) (fun K hK => ?_)
   refine goes_ Try.func27 (by kernel_rfl) rfl #[.bool true] (by rfl) rfl rfl (by (try simp only [List.map_toArray, List.map_cons, List.map_nil]); first | done | rfl) ?_
   refine (bool27_any true _).mono ?_
   rintro e w115 ⟨rfl, hb115⟩
   refine ⟨_, rfl, ?_⟩
   have bA_115 := bA_114.below hb115
   have bB_115 := bB_114.below hb115
   have b3_115 := b3_114.below hb115
   have HB115 := Aside0.mk (below_step HB114.out hb115)
   refine hK.out _ _ ⟨bA_115.c4.1, bA_115.c4.2.1, bA_115.c4.2.2.1, bA_115.c4.2.2.2, bB_115.c4.1, bB_115.c4.2.1, bB_115.c4.2.2.1, bB_115.c4.2.2.2⟩ (fun _ => ?_)
   clear hK K
   refine norm_ (a' := ?_) ?_ ?_
   rotate_left
   ·try simp only [Act.put, putAll, List.setIfInBounds_toArray, List.set_cons_zero, List.set_cons_succ]
    rfl
   refine one_ (i := 4) (N := some 13) #[true, true, true, true, true, false, true, false] rfl rfl (by kernel_rfl) (by decide) (fun K hK => ?_)
   rw [if_pos (by rfl)]
   unfold Oper.wp
   go_simp
   have bs116 := Blk.new w115 (flatK [⟨vOne, none, 0⟩, ⟨vNul, none, 0⟩, ⟨vBig, none, 0⟩, ⟨vTru, none, 0⟩]).toArray 25
   have bA_116 := bA_115.alloc (.cells #[.int .u8 5, .int .u64 1, .string ⟨#[]⟩, .slice none 0 0, .int .u8 1, .int .u64 0, .string ⟨#[]⟩, .slice none 0 0, .int .u8 6, .int .u64 1, .string ⟨#[]⟩, .slice none 0 0, .int .u8 2, .int .u64 1, .string ⟨#[]⟩, .slice none 0 0] 25)
   have bB_116 := bB_115.alloc (.cells #[.int .u8 5, .int .u64 1, .string ⟨#[]⟩, .slice none 0 0, .int .u8 1, .int .u64 0, .string ⟨#[]⟩, .slice none 0 0, .int .u8 6, .int .u64 1, .string ⟨#[]⟩, .slice none 0 0, .int .u8 2, .int .u64 1, .string ⟨#[]⟩, .slice none 0 0] 25)
   have b3_116 := b3_115.alloc (.cells #[.int .u8 5, .int .u64 1, .string ⟨#[]⟩, .slice none 0 0, .int .u8 1, .int .u64 0, .string ⟨#[]⟩, .slice none 0 0, .int .u8 6, .int .u64 1, .string ⟨#[]⟩, .slice none 0 0, .int .u8 2, .int .u64 1, .string ⟨#[]⟩, .slice none 0 0] 25)
   have HB116 := Aside0.mk (below_alloc HB115.out (.cells #[.int .u8 5, .int .u64 1, .string ⟨#[]⟩, .slice none 0 0, .int .u8 1, .int .u64 0, .string ⟨#[]⟩, .slice none 0 0, .int .u8 6, .int .u64 1, .string ⟨#[]⟩, .slice none 0 0, .int .u8 2, .int .u64 1, .string ⟨#[]⟩, .slice none 0 0] 25))
   have hbs116 : Blk (w115.alloc (.cells #[.int .u8 5, .int .u64 1, .string ⟨#[]⟩, .slice none 0 0, .int .u8 1, .int .u64 0, .string ⟨#[]⟩, .slice none 0 0, .int .u8 6, .int .u64 1, .string ⟨#[]⟩, .slice none 0 0, .int .u8 2, .int .u64 1, .string ⟨#[]⟩, .slice none 0 0] 25)) w115.heap.size (flatK [⟨vOne, none, 0⟩, ⟨vNul, none, 0⟩, ⟨vBig, none, 0⟩, ⟨vTru, none, 0⟩]).toArray 25 := bs116
   obtain ⟨w116, hw116⟩ : ∃ W, w115.alloc (.cells #[.int .u8 5, .int .u64 1, .string ⟨#[]⟩, .slice none 0 0, .int .u8 1, .int .u64 0, .string ⟨#[]⟩, .slice none 0 0, .int .u8 6, .int .u64 1, .string ⟨#[]⟩, .slice none 0 0, .int .u8 2, .int .u64 1, .string ⟨#[]⟩, .slice none 0 0] 25) = W := ⟨_, rfl⟩
   rw [hw116] at bA_116 bB_116 b3_116 hbs116 HB116 ⊢
   clear hw116 bs116
   refine hK.out _ _ ⟨bA_116.c4.1, bA_116.c4.2.1, bA_116.c4.2.2.1, bA_116.c4.2.2.2, bB_116.c4.1, bB_116.c4.2.1, bB_116.c4.2.2.1, bB_116.c4.2.2.2⟩ (fun _ => ?_)
   clear hK K
   refine norm_ (a' := ?_) ?_ ?_
   rotate_left
   ·try simp only [Act.put, putAll, List.setIfInBounds_toArray, List.set_cons_zero, List.set_cons_succ]
    rfl
   refine one_ (i := 5) (N := some 14) #[true, true, true, true, true, true, true, false] rfl rfl (by kernel_rfl) (by decide) (fun K hK => ?_)
   have hC117 := C_lit (ks := [⟨vOne, none, 0⟩, ⟨vNul, none, 0⟩, ⟨vBig, none, 0⟩, ⟨vTru, none, 0⟩]) hbs116 (by decide) (by
    intro q hq
    simp only [List.mem_cons, List.not_mem_nil, or_false] at hq
    rcases hq with rfl | rfl | rfl | rfl <;> exact ⟨C_none _, Nat.le_refl _⟩)
   refine goes_ Try.func21 (by kernel_rfl) rfl #[.int .u8 23, .slice (some ⟨w115.heap.size, 0, none⟩) 4 4] (by rfl) rfl rfl (by (try simp only [List.map_toArray, List.map_cons, List.map_nil]); first | done | rfl) ?_
   refine (many21_any 23 [vOne, vNul, vBig, vTru] w_l4 _ 4 _ hC117 (by decide)).mono ?_
   rintro e w117 ⟨v3, rfl, hR117, hb117⟩
   obtain ⟨A3, c3, rfl, hc3, -⟩ := Kd.R_reads hR117
   have hlt117 := b3_116.lt
   have hRf117 : k25.R 25 w117 _ (fun k => k ≠ w101.heap.size) (.slice A3 4 c3) [vOne, vNul, vBig, vTru] := Kd.R_mono (Kd.R_bound hR117) (fun k hk => by have h1 := hk.2.1; omega)
   refine ⟨_, rfl, ?_⟩
   have bA_117 := bA_116.below hb117
   have bB_117 := bB_116.below hb117
   have b3_117 := b3_116.below hb117
   have bs_117 := hbs116.below hb117
   have HB117 := Aside0.mk (below_step HB116.out hb117)
   refine hK.out _ _ ⟨bA_117.c4.1, bA_117.c4.2.1, bA_117.c4.2.2.1, bA_117.c4.2.2.2, bB_117.c4.1, bB_117.c4.2.1, bB_117.c4.2.2.1, bB_117.c4.2.2.2⟩ (fun _ => ?_)
   clear hK K
   refine norm_ (a' := ?_) ?_ ?_
   rotate_left
   ·try simp only [Act.put, putAll, List.setIfInBounds_toArray, List.set_cons_zero, List.set_cons_succ]
    rfl
   refine last_ (i := 7) (N := none) #[true, true, true, true, true, true, true, true] rfl rfl (by kernel_rfl) (by decide) (fun K hK => ?_)
   rw [if_pos (by rfl)]
   obtain ⟨e0, e1, e2, e3⟩ := b3_117.c4
   have fz := b3_117.fz
   unfold Oper.wp
   go_simp
   refine hK.out _ _ ?_
   refine done_ (by kernel_rfl) ?_
   refine HK.out w101.heap.size A3 c3 _ _ hge114 hc3 ?_ ?_ ?_ ?_ ?_
   ·exact Blk.far (Blk.far (Blk.far (Blk.far bA_117 n1_114 _) n1_114 _) n1_114 _) n1_114 _
   ·exact Blk.far (Blk.far (Blk.far (Blk.far bB_117 n2_114 _) n2_114 _) n2_114 _) n2_114 _
   ·refine blk_put (cs := #[.int .u8 23, .int .u64 0, .string ⟨#[]⟩, .slice none 0 0]) ?_ 3 _ rfl
    refine blk_put (cs := #[.int .u8 23, .int .u64 0, .string ⟨#[]⟩, .slice none 0 0]) ?_ 2 _ rfl
    refine blk_put (cs := #[.int .u8 23, .int .u64 0, .string ⟨#[]⟩, .slice none 0 0]) ?_ 1 _ rfl
    refine blk_put (cs := #[.int .u8 0, .int .u64 0, .string ⟨#[]⟩, .slice none 0 0]) ?_ 0 _ rfl
    exact b3_117
   ·exact ⟨_, _, Kd.R_far (Kd.R_far (Kd.R_far (Kd.R_far hRf117 (fun _ h => h) _) (fun _ h => h) _) (fun _ h => h) _) (fun _ h => h) _⟩
   ·exact below_set (below_set (below_set (below_set HB117.out hge114) hge114) hge114) hge114
 ·rw [if_pos (by rfl)]
  unfold Oper.wp
  go_simp
  have b3_119 := Blk.new w4 #[.int .u8 0, .int .u64 0, .string ⟨#[]⟩, .slice none 0 0] 25
  have hge119 := HB2.out.size
  have n1_119 : b1 ≠ w4.heap.size := Nat.ne_of_lt bA.lt
  have n2_119 : b2 ≠ w4.heap.size := Nat.ne_of_lt bB.lt
  have bA_119 := bA.alloc (.cells #[.int .u8 0, .int .u64 0, .string ⟨#[]⟩, .slice none 0 0] 25)
  have bB_119 := bB.alloc (.cells #[.int .u8 0, .int .u64 0, .string ⟨#[]⟩, .slice none 0 0] 25)
  have HB119 := Aside0.mk (below_alloc HB2.out (.cells #[.int .u8 0, .int .u64 0, .string ⟨#[]⟩, .slice none 0 0] 25))
  obtain ⟨w119, hw119⟩ : ∃ W, w4.alloc (.cells #[.int .u8 0, .int .u64 0, .string ⟨#[]⟩, .slice none 0 0] 25) = W := ⟨_, rfl⟩
  rw [hw119] at bA_119 bB_119 b3_119 HB119  ⊢
  clear hw119
  refine hK.out _ _ ⟨bA_119.c4.1, bA_119.c4.2.1, bA_119.c4.2.2.1, bA_119.c4.2.2.2, bB_119.c4.1, bB_119.c4.2.1, bB_119.c4.2.2.1, bB_119.c4.2.2.2⟩ (fun _ => ?_)
  clear hK K
  refine norm_ (a' := ?_) ?_ ?_
  rotate_left
  ·try simp only [Act.put, putAll, List.setIfInBounds_toArray, List.set_cons_zero, List.set_cons_succ]
   rfl
  refine one_ (i := 1) (N := some 10) #[true, true, true, false, false, false, true, false] rfl rfl (by kernel_rfl) (by decide) (fun K hK => ?_)
  refine goes_ Try.func26 (by kernel_rfl) rfl #[] (by rfl) rfl rfl (by (try simp only [List.map_toArray, List.map_cons, List.map_nil]); first | done | rfl) ?_
  refine (null26_any _).mono ?_
  rintro e w120 ⟨rfl, hb120⟩
  refine ⟨_, rfl, ?_⟩
  have bA_120 := bA_119.below hb120
  have bB_120 := bB_119.below hb120
  have b3_120 := b3_119.below hb120
  have HB120 := Aside0.mk (below_step HB119.out hb120)
  refine hK.out _ _ ⟨bA_120.c4.1, bA_120.c4.2.1, bA_120.c4.2.2.1, bA_120.c4.2.2.2, bB_120.c4.1, bB_120.c4.2.1, bB_120.c4.2.2.1, bB_120.c4.2.2.2⟩ (fun _ => ?_)
  clear hK K
  refine norm_ (a' := ?_) ?_ ?_
  rotate_left
  ·try simp only [Act.put, putAll, List.setIfInBounds_toArray, List.set_cons_zero, List.set_cons_succ]
   rfl
  refine one_ (i := 3) (N := some 12) #[true, true, true, true, false, false, true, false] rfl rfl (by kernel_rfl) (by decide) (fun K hK => ?_)
  refine goes_ Try.func27 (by kernel_rfl) rfl #[.bool true] (by rfl) rfl rfl (by (try simp only [List.map_toArray, List.map_cons, List.map_nil]); first | done | rfl) ?_
  refine (bool27_any true _).mono ?_
  rintro e w121 ⟨rfl, hb121⟩
  refine ⟨_, rfl, ?_⟩
  have bA_121 := bA_120.below hb121
  have bB_121 := bB_120.below hb121
  have b3_121 := b3_120.below hb121
  have HB121 := Aside0.mk (below_step HB120.out hb121)
  refine hK.out _ _ ⟨bA_121.c4.1, bA_121.c4.2.1, bA_121.c4.2.2.1, bA_121.c4.2.2.2, bB_121.c4.1, bB_121.c4.2.1, bB_121.c4.2.2.1, bB_121.c4.2.2.2⟩ (fun _ => ?_)
  clear hK K
  refine norm_ (a' := ?_) ?_ ?_
  rotate_left
  ·try simp only [Act.put, putAll, List.setIfInBounds_toArray, List.set_cons_zero, List.set_cons_succ]
   rfl
  refine one_ (i := 4) (N := some 13) #[true, true, true, true, true, false, true, false] rfl rfl (by kernel_rfl) (by decide) (fun K hK => ?_)
  rw [if_pos (by rfl)]
  unfold Oper.wp
  go_simp
  have bs122 := Blk.new w121 (flatK [⟨vOne, none, 0⟩, ⟨vNul, none, 0⟩, ⟨vBig, none, 0⟩, ⟨vTru, none, 0⟩]).toArray 25
  have bA_122 := bA_121.alloc (.cells #[.int .u8 5, .int .u64 1, .string ⟨#[]⟩, .slice none 0 0, .int .u8 1, .int .u64 0, .string ⟨#[]⟩, .slice none 0 0, .int .u8 6, .int .u64 1, .string ⟨#[]⟩, .slice none 0 0, .int .u8 2, .int .u64 1, .string ⟨#[]⟩, .slice none 0 0] 25)
  have bB_122 := bB_121.alloc (.cells #[.int .u8 5, .int .u64 1, .string ⟨#[]⟩, .slice none 0 0, .int .u8 1, .int .u64 0, .string ⟨#[]⟩, .slice none 0 0, .int .u8 6, .int .u64 1, .string ⟨#[]⟩, .slice none 0 0, .int .u8 2, .int .u64 1, .string ⟨#[]⟩, .slice none 0 0] 25)
  have b3_122 := b3_121.alloc (.cells #[.int .u8 5, .int .u64 1, .string ⟨#[]⟩, .slice none 0 0, .int .u8 1, .int .u64 0, .string ⟨#[]⟩, .slice none 0 0, .int .u8 6, .int .u64 1, .string ⟨#[]⟩, .slice none 0 0, .int .u8 2, .int .u64 1, .string ⟨#[]⟩, .slice none 0 0] 25)
  have HB122 := Aside0.mk (below_alloc HB121.out (.cells #[.int .u8 5, .int .u64 1, .string ⟨#[]⟩, .slice none 0 0, .int .u8 1, .int .u64 0, .string ⟨#[]⟩, .slice none 0 0, .int .u8 6, .int .u64 1, .string ⟨#[]⟩, .slice none 0 0, .int .u8 2, .int .u64 1, .string ⟨#[]⟩, .slice none 0 0] 25))
  have hbs122 : Blk (w121.alloc (.cells #[.int .u8 5, .int .u64 1, .string ⟨#[]⟩, .slice none 0 0, .int .u8 1, .int .u64 0, .string ⟨#[]⟩, .slice none 0 0, .int .u8 6, .int .u64 1, .string ⟨#[]⟩, .slice none 0 0, .int .u8 2, .int .u64 1, .string ⟨#[]⟩, .slice none 0 0] 25)) w121.heap.size (flatK [⟨vOne, none, 0⟩, ⟨vNul, none, 0⟩, ⟨vBig, none, 0⟩, ⟨vTru, none, 0⟩]).toArray 25 := bs122
  obtain ⟨w122, hw122⟩ : ∃ W, w121.alloc (.cells #[.int .u8 5, .int .u64 1, .string ⟨#[]⟩, .slice none 0 0, .int .u8 1, .int .u64 0, .string ⟨#[]⟩, .slice none 0 0, .int .u8 6, .int .u64 1, .string ⟨#[]⟩, .slice none 0 0, .int .u8 2, .int .u64 1, .string ⟨#[]⟩, .slice none 0 0] 25) = W := ⟨_, rfl⟩
  rw [hw122] at bA_122 bB_122 b3_122 hbs122 HB122 ⊢
  clear hw122 bs122
  refine hK.out _ _ ⟨bA_122.c4.1, bA_122.c4.2.1, bA_122.c4.2.2.1, bA_122.c4.2.2.2, bB_122.c4.1, bB_122.c4.2.1, bB_122.c4.2.2.1, bB_122.c4.2.2.2⟩ (fun _ => ?_)
  clear hK K
  refine norm_ (a' := ?_) ?_ ?_
  rotate_left
  ·try simp only [Act.put, putAll, List.setIfInBounds_toArray, List.set_cons_zero, List.set_cons_succ]
   rfl
  refine one_ (i := 5) (N := some 14) #[true, true, true, true, true, true, true, false] rfl rfl (by kernel_rfl) (by decide) (fun K hK => ?_)
  have hC123 := C_lit (ks := [⟨vOne, none, 0⟩, ⟨vNul, none, 0⟩, ⟨vBig, none, 0⟩, ⟨vTru, none, 0⟩]) hbs122 (by decide) (by
   intro q hq
   simp only [List.mem_cons, List.not_mem_nil, or_false] at hq
   rcases hq with rfl | rfl | rfl | rfl <;> exact ⟨C_none _, Nat.le_refl _⟩)
  refine goes_ Try.func21 (by kernel_rfl) rfl #[.int .u8 23, .slice (some ⟨w121.heap.size, 0, none⟩) 4 4] (by rfl) rfl rfl (by (try simp only [List.map_toArray, List.map_cons, List.map_nil]); first | done | rfl) ?_
  refine (many21_any 23 [vOne, vNul, vBig, vTru] w_l4 _ 4 _ hC123 (by decide)).mono ?_
  rintro e w123 ⟨v3, rfl, hR123, hb123⟩
  obtain ⟨A3, c3, rfl, hc3, -⟩ := Kd.R_reads hR123
  have hlt123 := b3_122.lt
  have hRf123 : k25.R 25 w123 _ (fun k => k ≠ w4.heap.size) (.slice A3 4 c3) [vOne, vNul, vBig, vTru] := Kd.R_mono (Kd.R_bound hR123) (fun k hk => by have h1 := hk.2.1; omega)
  refine ⟨_, rfl, ?_⟩
  have bA_123 := bA_122.below hb123
  have bB_123 := bB_122.below hb123
  have b3_123 := b3_122.below hb123
  have bs_123 := hbs122.below hb123
  have HB123 := Aside0.mk (below_step HB122.out hb123)
  refine hK.out _ _ ⟨bA_123.c4.1, bA_123.c4.2.1, bA_123.c4.2.2.1, bA_123.c4.2.2.2, bB_123.c4.1, bB_123.c4.2.1, bB_123.c4.2.2.1, bB_123.c4.2.2.2⟩ (fun _ => ?_)
  clear hK K
  refine norm_ (a' := ?_) ?_ ?_
  rotate_left
  ·try simp only [Act.put, putAll, List.setIfInBounds_toArray, List.set_cons_zero, List.set_cons_succ]
   rfl
  refine last_ (i := 7) (N := none) #[true, true, true, true, true, true, true, true] rfl rfl (by kernel_rfl) (by decide) (fun K hK => ?_)
  rw [if_pos (by rfl)]
  obtain ⟨e0, e1, e2, e3⟩ := b3_123.c4
  have fz := b3_123.fz
  unfold Oper.wp
  go_simp
  refine hK.out _ _ ?_
  refine done_ (by kernel_rfl) ?_
  refine HK.out w4.heap.size A3 c3 _ _ hge119 hc3 ?_ ?_ ?_ ?_ ?_
  ·exact Blk.far (Blk.far (Blk.far (Blk.far bA_123 n1_119 _) n1_119 _) n1_119 _) n1_119 _
  ·exact Blk.far (Blk.far (Blk.far (Blk.far bB_123 n2_119 _) n2_119 _) n2_119 _) n2_119 _
  ·refine blk_put (cs := #[.int .u8 23, .int .u64 0, .string ⟨#[]⟩, .slice none 0 0]) ?_ 3 _ rfl
   refine blk_put (cs := #[.int .u8 23, .int .u64 0, .string ⟨#[]⟩, .slice none 0 0]) ?_ 2 _ rfl
   refine blk_put (cs := #[.int .u8 23, .int .u64 0, .string ⟨#[]⟩, .slice none 0 0]) ?_ 1 _ rfl
   refine blk_put (cs := #[.int .u8 0, .int .u64 0, .string ⟨#[]⟩, .slice none 0 0]) ?_ 0 _ rfl
   exact b3_123
  ·exact ⟨_, _, Kd.R_far (Kd.R_far (Kd.R_far (Kd.R_far hRf123 (fun _ h => h) _) (fun _ h => h) _) (fun _ h => h) _) (fun _ h => h) _⟩
  ·exact below_set (below_set (below_set (below_set HB123.out hge119) hge119) hge119) hge119
end Go.Proofs.Ytdilbnggedidnaa.PVal
