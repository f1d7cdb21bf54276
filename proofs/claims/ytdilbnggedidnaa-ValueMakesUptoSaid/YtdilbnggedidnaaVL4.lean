import Derived.Test.YtdilbnggedidnaaV3
namespace Go.Proofs.Ytdilbnggedidnaa.PVal
open Go.RowKit Go.Shelf Go.Proofs.YtdilbnggedidnaaW.PrintWords Go.Proofs.YtdilbnggedidnaaW.PrintLast
set_option linter.unusedVariables false
set_option linter.unusedSimpArgs false
theorem two_cells {w : World} {base : Nat} {ok : Nat → Prop} {A : Option Addr} {c : Nat} {l : List S25} (h : k25.R 25 w base ok (.slice A l.length c) l) (hl : 1 < l.length) :
  ∃ (g : Nat) (p q : S25) (Ap Aq : Option Addr) (cp cq : Nat), A = some ⟨g, 0, none⟩ ∧ itemsN p + itemsN q ≤ itemsL l ∧ (w.cell? ⟨g, 0, none⟩ = some (.int .u8 p.f0) ∧ w.cell? ⟨g, 1, none⟩ = some (.int .u64 p.f1) ∧ w.cell? ⟨g, 2, none⟩ = some (.string p.f2) ∧ w.cell? ⟨g, 3, none⟩ = some (.slice Ap p.f3.length cp) ∧
   w.cell? ⟨g, 4, none⟩ = some (.int .u8 q.f0) ∧ w.cell? ⟨g, 5, none⟩ = some (.int .u64 q.f1) ∧ w.cell? ⟨g, 6, none⟩ = some (.string q.f2) ∧ w.cell? ⟨g, 7, none⟩ = some (.slice Aq q.f3.length cq)) ∧ p.f3.length ≤ cp ∧ k25.C w Ap p.f3.length p.f3 ∧ q.f3.length ≤ cq ∧ k25.C w Aq q.f3.length q.f3 := by
 have hC := (Kd.R_reads' h).2.2
 obtain ⟨h0, inner, hown, hr⟩ := h
 rcases hown.2 with ⟨_, hn⟩ | ⟨g, cap, cur, hv, hg, hh, _⟩
 ·omega
 cases hv
 obtain ⟨ad0, A0, c0, e0, x0, x1, x2, x3, l0, C0⟩ := at_T25 hC 0 (by omega) (by omega)
 obtain ⟨ad1, A1, c1, e1, y0, y1, y2, y3, l1, C1⟩ := at_T25 hC 1 (by omega) (by omega)
 cases e0
 cases e1
 refine ⟨g, rd_T25 l 0, rd_T25 l 1, A0, A1, c0, c1, rfl, ?_, ⟨?_, ?_, ?_, ?_, ?_, ?_, ?_, ?_⟩, l0, C0, l1, C1⟩
 ·match l, hl with
  | p :: q :: l, _ =>
   show itemsN p + itemsN q ≤ itemsL (p :: q :: l)
   simp only [itemsL]; omega
 ·simpa [Addr.add] using x0
 ·simpa [Addr.add] using x1
 ·simpa [Addr.add] using x2
 ·simpa [Addr.add] using x3
 ·simpa [Addr.add] using y0
 ·simpa [Addr.add] using y1
 ·simpa [Addr.add] using y2
 ·simpa [Addr.add] using y3
set_option maxRecDepth 100000 in
set_option maxHeartbeats 4000000 in
theorem makes4_any (k n : Int) (s : ByteArray) (l : List S25) (w : World) (hk : (Lit.int .u8 k).wf = true) (hn : (Lit.int .u64 n).wf = true) (hol : okL l) (A : Option Addr) (c : Nat) (ha : k25.C w A l.length l) (hc0 : l.length ≤ c) (hx : s.size + 1 + (itemsL l + textsL l) ≤ 1048576) :
  Calls Try.prog 4 #[.int .u8 k, .int .u64 n, .string s, .slice A l.length c] w fun e w' => e = .returned (.bool true) ∧ Below w.heap.size w w' := by
 have HA0 := Aside0.mk ha
 have hNL : itemsL l ≤ 4294967296 := by omega
 have hll : l.length ≤ 1048576 := by have := itemsL_length l; omega
 have hss : s.size ≤ 1048576 := by omega
 clear ha hol
 go_enter Try.func4, Try.ntmps4
 go_wp2_with fail
 refine (large14_any l A c _ HA0.out hc0 (by omega)).mono ?_
 rintro e w1 ⟨rfl, hb1⟩
 have HB1 := Aside0.mk hb1
 clear hb1
 by_cases hl : largeB l = true
 ·rw [hl]
  go_wp2_with fail
  refine (works15_any _).mono ?_
  rintro e w2 ⟨rfl, hb2⟩
  go_wp2_with fail
  go_ret
  exact ⟨rfl, below_step HB1.out hb2⟩
 replace hl : largeB l = false := by simpa using hl
 rw [hl]
 clear hl
 by_cases hs : (4096 : Int) < (s.size : Int)
 ·go_wp2_with fail
  refine (works15_any _).mono ?_
  rintro e w2 ⟨rfl, hb2⟩
  go_wp2_with fail
  go_ret
  exact ⟨rfl, below_step HB1.out hb2⟩
 go_wp2_with fail
 refine (copyAll20_any l hNL A c _ (Kd.C_below HA0.out HB1.out) hc0).mono ?_
 rintro e w2 ⟨A9, c9, rfl, hR2, hb2⟩
 have HB2 := Aside0.mk (below_step HB1.out hb2)
 have hc9 := (Kd.R_reads' hR2).2.1
 have HR2 : Aside0 (k25.R 25 _ w1.heap.size (fun k => k < w2.heap.size) (.slice A9 l.length c9) l) := ⟨Kd.R_mono (Kd.R_bound hR2) (fun k hk => hk.2.2.1)⟩
 have hq1 := HB1.out.size
 have hq2 := hb2.size
 clear hR2 hb2 HB1
 go_wp2_with fail
 refine (many21_any k l hNL A9 c9 _ (Kd.R_reads' HR2.out).2.2 hc9).mono ?_
 rintro e w3 ⟨v10, rfl, hR3, hb3⟩
 obtain ⟨A10, c10, rfl⟩ := Kd.R_slice hR3
 have hal := below_alloc (Below.refl w3.heap.size w3) (.cells #[.int .u8 k, .int .u64 0, .string ⟨#[]⟩, .slice A10 l.length c10] 25)
 have bM := Blk.new w3 #[.int .u8 k, .int .u64 0, .string ⟨#[]⟩, .slice A10 l.length c10] 25
 have HB3 := Aside0.mk (below_step (below_step HB2.out hb3) hal)
 have HR3 := Aside0.mk (Kd.R_below (Kd.R_below HR2.out hb3) hal)
 have HRM := Aside0.mk (Kd.R_below (Kd.R_mono (Kd.R_bound hR3) (ok' := fun k => w2.heap.size ≤ k) (fun k hk => hk.2.1)) hal)
 have hc10 := (Kd.R_reads' hR3).2.1
 have hq3 := hb3.size
 clear hR3 hb3 hal HB2 HR2
 go_wp2_with fail
 obtain ⟨b10, e10⟩ : ∃ b, w3.heap.size = b := ⟨_, rfl⟩
 obtain ⟨w4, e4⟩ : ∃ W, w3.alloc (.cells #[.int .u8 k, .int .u64 0, .string ⟨#[]⟩, .slice A10 l.length c10] 25) = W := ⟨_, rfl⟩
 rw [e4] at bM HB3 HR3 HRM ⊢
 rw [e10] at bM hq3 ⊢
 have HX := Aside0.mk (Kd.C_below HA0.out HB3.out)
 have HM := Aside0.mk (Kd.R_reads' HRM.out).2.2
 clear e4 e10
 refine start_ (n := 26) (S := fun w' => Blk w' b10 #[.int .u8 k, .int .u64 0, .string ⟨#[]⟩, .slice A10 l.length c10] 25) (ds := []) #[false, false, false, false, false, false, false, false, false, false, false, false, false, false, false, false, false, false, false, false, false, false, false, false, false, false] (by kernel_rfl) rfl rfl bM (fun hS => ?_)
 replace HX := Aside0.mk (Kd.C_below HX.out (below_drew (Below.refl _ _)))
 replace HM := Aside0.mk (Kd.C_below HM.out (below_drew (Below.refl _ _)))
 replace HRM := Aside0.mk (Kd.R_below HRM.out (below_drew (Below.refl _ _)))
 replace HR3 := Aside0.mk (Kd.R_below HR3.out (below_drew (Below.refl _ _)))
 replace HB3 := Aside0.mk (below_drew HB3.out)
 generalize w4.drew = wd1 at HX HM HRM HR3 HB3 hS ⊢
 clear bM
 refine pure_ (i := 0) (N := some 27) (v := ?_) (a' := ?_) #[true, false, false, false, false, false, false, false, false, false, false, false, false, false, false, false, false, false, false, false, false, false, false, false, false, false] rfl rfl (by kernel_rfl) (fun _ _ _ h => h) (Or.inl ⟨by rfl, ?_⟩) ?_ ?_
 rotate_left
 ·intro w'
  go_simp
  with_reducible rfl
 rotate_left
 ·simp only [Act.put, List.setIfInBounds_toArray, List.set_cons_zero, List.set_cons_succ, i64_w, i32_w]
  rfl
 refine pure_ (i := 1) (N := some 28) (v := ?_) (a' := ?_) #[true, true, false, false, false, false, false, false, false, false, false, false, false, false, false, false, false, false, false, false, false, false, false, false, false, false] rfl rfl (by kernel_rfl) (fun _ _ _ h => h) (Or.inl ⟨by rfl, ?_⟩) ?_ ?_
 rotate_left
 ·intro w'
  go_simp
  with_reducible rfl
 rotate_left
 ·simp only [Act.put, List.setIfInBounds_toArray, List.set_cons_zero, List.set_cons_succ, i64_w, i32_w]
  rfl
 refine pure_ (i := 3) (N := some 30) (v := ?_) (a' := ?_) #[true, true, false, true, false, false, false, false, false, false, false, false, false, false, false, false, false, false, false, false, false, false, false, false, false, false] rfl rfl (by kernel_rfl) (fun _ _ _ h => h) (Or.inl ⟨by rfl, ?_⟩) ?_ ?_
 rotate_left
 ·intro w'
  go_simp
  with_reducible rfl
 rotate_left
 ·simp only [Act.put, List.setIfInBounds_toArray, List.set_cons_zero, List.set_cons_succ, i64_w, i32_w]
  rfl
 refine pure_ (i := 4) (N := some 31) (v := ?_) (a' := ?_) #[true, true, false, true, true, false, false, false, false, false, false, false, false, false, false, false, false, false, false, false, false, false, false, false, false, false] rfl rfl (by kernel_rfl) (fun _ _ _ h => h) (Or.inl ⟨by rfl, ?_⟩) ?_ ?_
 rotate_left
 ·intro w'
  go_simp
  with_reducible rfl
 rotate_left
 ·simp only [Act.put, List.setIfInBounds_toArray, List.set_cons_zero, List.set_cons_succ, i64_w, i32_w]
  rfl
 refine pure_ (i := 5) (N := some 32) (v := ?_) (a' := ?_) #[true, true, false, true, true, true, false, false, false, false, false, false, false, false, false, false, false, false, false, false, false, false, false, false, false, false] rfl rfl (by kernel_rfl) (fun _ _ _ h => h) (Or.inl ⟨by rfl, ?_⟩) ?_ ?_
 rotate_left
 ·intro w'
  go_simp
  with_reducible rfl
 rotate_left
 ·simp only [Act.put, List.setIfInBounds_toArray, List.set_cons_zero, List.set_cons_succ, i64_w, i32_w]
  rfl
 refine one_ (i := 2) (N := some 29) #[true, true, true, true, true, true, false, false, false, false, false, false, false, false, false, false, false, false, false, false, false, false, false, false, false, false] rfl rfl (by kernel_rfl) (by decide) (fun K hK => ?_)
 refine goes_ Try.func23 (by kernel_rfl) rfl #[.int .u8 k, .int .u64 n] (by rfl) rfl rfl (by (try simp only [List.map_toArray, List.map_cons, List.map_nil]); first | done | rfl) ?_
 refine (number23_any k n _).mono ?_
 rintro e wk2 ⟨rfl, hb2⟩
 refine ⟨_, rfl, ?_⟩
 have hS2 : Blk wk2 b10 #[.int .u8 k, .int .u64 0, .string ⟨#[]⟩, .slice A10 l.length c10] 25 := hS.below hb2
 have HX2 := Aside0.mk (Kd.C_below HX.out hb2)
 have HM2 := Aside0.mk (Kd.C_below HM.out hb2)
 have HRM2 := Aside0.mk (Kd.R_below HRM.out hb2)
 have HR32 := Aside0.mk (Kd.R_below HR3.out hb2)
 have HB32 := Aside0.mk (below_step HB3.out hb2)
 refine hK.out _ _ hS2 (fun _ => ?_)
 clear hK K hb2
 refine norm_ (a' := ?_) ?_ ?_
 rotate_left
 ·try simp only [Act.put, putAll, List.setIfInBounds_toArray, List.set_cons_zero, List.set_cons_succ]
  rfl
 refine one_ (i := 6) (N := some 33) #[true, true, true, true, true, true, true, false, false, false, false, false, false, false, false, false, false, false, false, false, false, false, false, false, false, false] rfl rfl (by kernel_rfl) (by decide) (fun K hK => ?_)
 refine goes_ Try.func22 (by kernel_rfl) rfl #[.agg #[.int .u8 k, .int .u64 n, .string ⟨#[]⟩, .slice none 0 0], .agg #[.int .u8 k, .int .u64 n, .string ⟨#[]⟩, .slice none 0 0]] (by rfl) rfl rfl (by (try simp only [List.map_toArray, List.map_cons, List.map_nil]); first | done | rfl) ?_
 refine (same_any ⟨k, n, ⟨#[]⟩, []⟩ ⟨k, n, ⟨#[]⟩, []⟩ none none 0 0 _ (C_none _) (Nat.le_refl _) (C_none _) (Nat.le_refl _)).mono ?_
 rintro e wk3 ⟨he, hb3⟩
 rw [veq_refl] at he
 subst he
 refine ⟨_, rfl, ?_⟩
 have hS3 : Blk wk3 b10 #[.int .u8 k, .int .u64 0, .string ⟨#[]⟩, .slice A10 l.length c10] 25 := hS2.below hb3
 have HX3 := Aside0.mk (Kd.C_below HX2.out hb3)
 have HM3 := Aside0.mk (Kd.C_below HM2.out hb3)
 have HRM3 := Aside0.mk (Kd.R_below HRM2.out hb3)
 have HR33 := Aside0.mk (Kd.R_below HR32.out hb3)
 have HB33 := Aside0.mk (below_step HB32.out hb3)
 refine hK.out _ _ hS3 (fun _ => ?_)
 clear hK K hb3 hS2
 refine norm_ (a' := ?_) ?_ ?_
 rotate_left
 ·try simp only [Act.put, putAll, List.setIfInBounds_toArray, List.set_cons_zero, List.set_cons_succ]
  rfl
 refine pure_ (i := 7) (N := some 34) (v := ?_) (a' := ?_) #[true, true, true, true, true, true, true, true, false, false, false, false, false, false, false, false, false, false, false, false, false, false, false, false, false, false] rfl rfl (by kernel_rfl) (fun _ _ _ h => h) (Or.inl ⟨by rfl, ?_⟩) ?_ ?_
 rotate_left
 ·intro w'
  go_simp
  with_reducible rfl
 rotate_left
 ·simp only [Act.put, List.setIfInBounds_toArray, List.set_cons_zero, List.set_cons_succ, i64_w, i32_w]
  rfl
 refine pure_ (i := 8) (N := some 35) (v := ?_) (a' := ?_) #[true, true, true, true, true, true, true, true, true, false, false, false, false, false, false, false, false, false, false, false, false, false, false, false, false, false] rfl rfl (by kernel_rfl) (fun _ _ _ h => h) (Or.inl ⟨by rfl, ?_⟩) ?_ ?_
 rotate_left
 ·intro w'
  go_simp
  with_reducible rfl
 rotate_left
 ·simp only [Act.put, List.setIfInBounds_toArray, List.set_cons_zero, List.set_cons_succ, i64_w, i32_w]
  rfl
 refine pure_ (i := 9) (N := some 36) (v := ?_) (a' := ?_) #[true, true, true, true, true, true, true, true, true, true, false, false, false, false, false, false, false, false, false, false, false, false, false, false, false, false] rfl rfl (by kernel_rfl) (fun _ _ _ h => h) (Or.inl ⟨by rfl, ?_⟩) ?_ ?_
 rotate_left
 ·intro w'
  go_simp
  with_reducible rfl
 rotate_left
 ·simp only [Act.put, List.setIfInBounds_toArray, List.set_cons_zero, List.set_cons_succ, i64_w, i32_w]
  rfl
 refine pure_ (i := 10) (N := some 37) (v := ?_) (a' := ?_) #[true, true, true, true, true, true, true, true, true, true, true, false, false, false, false, false, false, false, false, false, false, false, false, false, false, false] rfl rfl (by kernel_rfl) (fun _ _ _ h => h) (Or.inl ⟨by rfl, ?_⟩) ?_ ?_
 rotate_left
 ·intro w'
  go_simp
  with_reducible rfl
 rotate_left
 ·simp only [Act.put, List.setIfInBounds_toArray, List.set_cons_zero, List.set_cons_succ, i64_w, i32_w]
  rfl
 refine pure_ (i := 12) (N := some 39) (v := ?_) (a' := ?_) #[true, true, true, true, true, true, true, true, true, true, true, false, true, false, false, false, false, false, false, false, false, false, false, false, false, false] rfl rfl (by kernel_rfl) (fun _ _ _ h => h) (Or.inl ⟨by rfl, ?_⟩) ?_ ?_
 rotate_left
 ·intro w'
  go_simp
  with_reducible rfl
 rotate_left
 ·simp only [Act.put, List.setIfInBounds_toArray, List.set_cons_zero, List.set_cons_succ, i64_w, i32_w]
  rfl
 refine pure_ (i := 13) (N := some 40) (v := ?_) (a' := ?_) #[true, true, true, true, true, true, true, true, true, true, true, false, true, true, false, false, false, false, false, false, false, false, false, false, false, false] rfl rfl (by kernel_rfl) (fun _ _ _ h => h) (Or.inl ⟨by rfl, ?_⟩) ?_ ?_
 rotate_left
 ·intro w'
  go_simp
  with_reducible rfl
 rotate_left
 ·simp only [Act.put, List.setIfInBounds_toArray, List.set_cons_zero, List.set_cons_succ, i64_w, i32_w]
  rfl
 refine pure_ (i := 14) (N := some 41) (v := ?_) (a' := ?_) #[true, true, true, true, true, true, true, true, true, true, true, false, true, true, true, false, false, false, false, false, false, false, false, false, false, false] rfl rfl (by kernel_rfl) (fun _ _ _ h => h) (Or.inl ⟨by rfl, ?_⟩) ?_ ?_
 rotate_left
 ·intro w'
  go_simp
  with_reducible rfl
 rotate_left
 ·simp only [Act.put, List.setIfInBounds_toArray, List.set_cons_zero, List.set_cons_succ, i64_w, i32_w]
  rfl
 refine one_ (i := 11) (N := some 38) #[true, true, true, true, true, true, true, true, true, true, true, true, true, true, true, false, false, false, false, false, false, false, false, false, false, false] rfl rfl (by kernel_rfl) (by decide) (fun K hK => ?_)
 refine goes_ Try.func24 (by kernel_rfl) rfl #[.int .u8 k, .string s] (by rfl) rfl rfl (by (try simp only [List.map_toArray, List.map_cons, List.map_nil]); first | done | rfl) ?_
 refine (text24_any k s _).mono ?_
 rintro e wk4 ⟨rfl, hb4⟩
 refine ⟨_, rfl, ?_⟩
 have hS4 : Blk wk4 b10 #[.int .u8 k, .int .u64 0, .string ⟨#[]⟩, .slice A10 l.length c10] 25 := hS3.below hb4
 have HX4 := Aside0.mk (Kd.C_below HX3.out hb4)
 have HM4 := Aside0.mk (Kd.C_below HM3.out hb4)
 have HRM4 := Aside0.mk (Kd.R_below HRM3.out hb4)
 have HR34 := Aside0.mk (Kd.R_below HR33.out hb4)
 have HB34 := Aside0.mk (below_step HB33.out hb4)
 refine hK.out _ _ hS4 (fun _ => ?_)
 clear hK K hb4 hS3
 refine norm_ (a' := ?_) ?_ ?_
 rotate_left
 ·try simp only [Act.put, putAll, List.setIfInBounds_toArray, List.set_cons_zero, List.set_cons_succ]
  rfl
 refine one_ (i := 15) (N := some 42) #[true, true, true, true, true, true, true, true, true, true, true, true, true, true, true, true, false, false, false, false, false, false, false, false, false, false] rfl rfl (by kernel_rfl) (by decide) (fun K hK => ?_)
 refine goes_ Try.func22 (by kernel_rfl) rfl #[.agg #[.int .u8 k, .int .u64 0, .string s, .slice none 0 0], .agg #[.int .u8 k, .int .u64 0, .string s, .slice none 0 0]] (by rfl) rfl rfl (by (try simp only [List.map_toArray, List.map_cons, List.map_nil]); first | done | rfl) ?_
 refine (same_any ⟨k, 0, s, []⟩ ⟨k, 0, s, []⟩ none none 0 0 _ (C_none _) (Nat.le_refl _) (C_none _) (Nat.le_refl _)).mono ?_
 rintro e wk5 ⟨he, hb5⟩
 rw [veq_refl] at he
 subst he
 refine ⟨_, rfl, ?_⟩
 have hS5 : Blk wk5 b10 #[.int .u8 k, .int .u64 0, .string ⟨#[]⟩, .slice A10 l.length c10] 25 := hS4.below hb5
 have HX5 := Aside0.mk (Kd.C_below HX4.out hb5)
 have HM5 := Aside0.mk (Kd.C_below HM4.out hb5)
 have HRM5 := Aside0.mk (Kd.R_below HRM4.out hb5)
 have HR35 := Aside0.mk (Kd.R_below HR34.out hb5)
 have HB35 := Aside0.mk (below_step HB34.out hb5)
 refine hK.out _ _ hS5 (fun _ => ?_)
 clear hK K hb5 hS4
 refine norm_ (a' := ?_) ?_ ?_
 rotate_left
 ·try simp only [Act.put, putAll, List.setIfInBounds_toArray, List.set_cons_zero, List.set_cons_succ]
  rfl
 refine pure_ (i := 16) (N := some 43) (v := ?_) (a' := ?_) #[true, true, true, true, true, true, true, true, true, true, true, true, true, true, true, true, true, false, false, false, false, false, false, false, false, false] rfl rfl (by kernel_rfl) (fun _ _ _ h => h) (Or.inl ⟨by rfl, ?_⟩) ?_ ?_
 rotate_left
 ·intro w'
  go_simp
  with_reducible rfl
 rotate_left
 ·simp only [Act.put, List.setIfInBounds_toArray, List.set_cons_zero, List.set_cons_succ, i64_w, i32_w]
  rfl
 refine pure_ (i := 17) (N := some 44) (v := ?_) (a' := ?_) #[true, true, true, true, true, true, true, true, true, true, true, true, true, true, true, true, true, true, false, false, false, false, false, false, false, false] rfl rfl (by kernel_rfl) (fun _ _ _ h => h) (Or.inl ⟨by rfl, ?_⟩) ?_ ?_
 rotate_left
 ·intro w'
  go_simp
  with_reducible rfl
 rotate_left
 ·simp only [Act.put, List.setIfInBounds_toArray, List.set_cons_zero, List.set_cons_succ, i64_w, i32_w]
  rfl
 refine pure_ (i := 18) (N := some 45) (v := ?_) (a' := ?_) #[true, true, true, true, true, true, true, true, true, true, true, true, true, true, true, true, true, true, true, false, false, false, false, false, false, false] rfl rfl (by kernel_rfl) (fun _ _ _ h => h) (Or.inl ⟨by rfl, ?_⟩) ?_ ?_
 rotate_left
 ·intro w'
  go_simp
  with_reducible rfl
 rotate_left
 ·simp only [Act.put, List.setIfInBounds_toArray, List.set_cons_zero, List.set_cons_succ, i64_w, i32_w]
  rfl
 refine take_ (i := 19) (N := some 46) (v := .agg #[.int .u8 k, .int .u64 0, .string ⟨#[]⟩, .slice A10 l.length c10]) #[true, true, true, true, true, true, true, true, true, true, true, true, true, true, true, true, true, true, true, true, false, false, false, false, false, false] rfl rfl (by kernel_rfl) (fun _ _ _ h => h) (Or.inl ⟨by rfl, ?_⟩) hS5 rfl ?_
 ·rintro w' h0
  obtain ⟨e0, e1, e2, e3⟩ := h0.c4
  go_simp
 refine norm_ (a' := ?_) ?_ ?_
 rotate_left
 ·try simp only [Act.put, putAll, List.setIfInBounds_toArray, List.set_cons_zero, List.set_cons_succ]
  rfl
 refine pure_ (i := 20) (N := some 47) (v := ?_) (a' := ?_) #[true, true, true, true, true, true, true, true, true, true, true, true, true, true, true, true, true, true, true, true, true, false, false, false, false, false] rfl rfl (by kernel_rfl) (fun _ _ _ h => h) (Or.inl ⟨by rfl, ?_⟩) ?_ ?_
 rotate_left
 ·intro w'
  go_simp
  with_reducible rfl
 rotate_left
 ·simp only [Act.put, List.setIfInBounds_toArray, List.set_cons_zero, List.set_cons_succ, i64_w, i32_w]
  rfl
 refine pure_ (i := 21) (N := some 48) (v := ?_) (a' := ?_) #[true, true, true, true, true, true, true, true, true, true, true, true, true, true, true, true, true, true, true, true, true, true, false, false, false, false] rfl rfl (by kernel_rfl) (fun _ _ _ h => h) (Or.inl ⟨by rfl, ?_⟩) ?_ ?_
 rotate_left
 ·intro w'
  go_simp
  with_reducible rfl
 rotate_left
 ·simp only [Act.put, List.setIfInBounds_toArray, List.set_cons_zero, List.set_cons_succ, i64_w, i32_w]
  rfl
 refine one_ (i := 22) (N := some 49) #[true, true, true, true, true, true, true, true, true, true, true, true, true, true, true, true, true, true, true, true, true, true, true, false, false, false] rfl rfl (by kernel_rfl) (by decide) (fun K hK => ?_)
 refine goes_ Try.func25 (by kernel_rfl) rfl #[.int .u8 k, .slice A l.length c] (by rfl) rfl rfl (by (try simp only [List.map_toArray, List.map_cons, List.map_nil]); first | done | rfl) ?_
 refine (rmany25_any k l hNL A c _ HX5.out hc0).mono ?_
 rintro e wk6 ⟨vm6, rfl, hRm6, hb6⟩
 obtain ⟨Am, cm, rfl⟩ := Kd.R_slice hRm6
 have hcm := (Kd.R_reads' hRm6).2.1
 have HCm6 := Aside0.mk (Kd.R_reads' hRm6).2.2
 refine ⟨_, rfl, ?_⟩
 have hS6 : Blk wk6 b10 #[.int .u8 k, .int .u64 0, .string ⟨#[]⟩, .slice A10 l.length c10] 25 := hS5.below hb6
 have HX6 := Aside0.mk (Kd.C_below HX5.out hb6)
 have HM6 := Aside0.mk (Kd.C_below HM5.out hb6)
 have HRM6 := Aside0.mk (Kd.R_below HRM5.out hb6)
 have HR36 := Aside0.mk (Kd.R_below HR35.out hb6)
 have HB36 := Aside0.mk (below_step HB35.out hb6)
 refine hK.out _ _ hS6 (fun _ => ?_)
 clear hK K hb6 hS5
 refine norm_ (a' := ?_) ?_ ?_
 rotate_left
 ·try simp only [Act.put, putAll, List.setIfInBounds_toArray, List.set_cons_zero, List.set_cons_succ]
  rfl
 refine one_ (i := 23) (N := some 50) #[true, true, true, true, true, true, true, true, true, true, true, true, true, true, true, true, true, true, true, true, true, true, true, true, false, false] rfl rfl (by kernel_rfl) (by decide) (fun K hK => ?_)
 refine goes_ Try.func19 (by kernel_rfl) rfl #[.agg #[.int .u8 k, .int .u64 0, .string ⟨#[]⟩, .slice A10 l.length c10], .agg #[.int .u8 k, .int .u64 0, .string ⟨#[]⟩, .slice Am l.length cm]] (by rfl) rfl rfl (by (try simp only [List.map_toArray, List.map_cons, List.map_nil]); first | done | rfl) ?_
 refine (same19_any ⟨k, 0, ⟨#[]⟩, l⟩ ⟨k, 0, ⟨#[]⟩, l⟩ A10 Am c10 cm _ HM6.out hc10 (by rw [itemsN_eq]; show itemsL l + 1 ≤ _; omega) HCm6.out hcm).mono ?_
 rintro e wk7 ⟨he, hb7⟩
 rw [veq_refl] at he
 subst he
 refine ⟨_, rfl, ?_⟩
 have hS7 : Blk wk7 b10 #[.int .u8 k, .int .u64 0, .string ⟨#[]⟩, .slice A10 l.length c10] 25 := hS6.below hb7
 have HX7 := Aside0.mk (Kd.C_below HX6.out hb7)
 have HM7 := Aside0.mk (Kd.C_below HM6.out hb7)
 have HRM7 := Aside0.mk (Kd.R_below HRM6.out hb7)
 have HR37 := Aside0.mk (Kd.R_below HR36.out hb7)
 have HB37 := Aside0.mk (below_step HB36.out hb7)
 have HCm7 := Aside0.mk (Kd.C_below HCm6.out hb7)
 refine hK.out _ _ hS7 (fun _ => ?_)
 clear hK K hb7 hS6
 refine norm_ (a' := ?_) ?_ ?_
 rotate_left
 ·try simp only [Act.put, putAll, List.setIfInBounds_toArray, List.set_cons_zero, List.set_cons_succ]
  rfl
 refine pure_ (i := 24) (N := some 51) (v := ?_) (a' := ?_) #[true, true, true, true, true, true, true, true, true, true, true, true, true, true, true, true, true, true, true, true, true, true, true, true, true, false] rfl rfl (by kernel_rfl) (fun _ _ _ h => h) (Or.inl ⟨by rfl, ?_⟩) ?_ ?_
 rotate_left
 ·intro w'
  go_simp
  with_reducible rfl
 rotate_left
 ·simp only [Act.put, List.setIfInBounds_toArray, List.set_cons_zero, List.set_cons_succ, i64_w, i32_w]
  rfl
 refine pure_ (i := 25) (N := some 52) (v := ?_) (a' := ?_) #[true, true, true, true, true, true, true, true, true, true, true, true, true, true, true, true, true, true, true, true, true, true, true, true, true, true] rfl rfl (by kernel_rfl) (fun _ _ _ h => h) (Or.inl ⟨by rfl, ?_⟩) ?_ ?_
 rotate_left
 ·intro w'
  go_simp
  with_reducible rfl
 rotate_left
 ·simp only [Act.put, List.setIfInBounds_toArray, List.set_cons_zero, List.set_cons_succ, i64_w, i32_w]
  rfl
 refine done_ (by kernel_rfl) ?_
 have bM := hS7
 have HB5 := Aside0.mk HB37.out
 have HR5 := Aside0.mk HR37.out
 have HRN := Aside0.mk HRM7.out
 clear HX7 HM7 HRM7 HR37 HB37 HCm7 hS7 hcm
 go_wp2_with fail
 refine (null26_any _).mono ?_
 rintro e w6 ⟨rfl, hb6⟩
 replace bM := bM.below hb6
 replace HB5 := Aside0.mk (below_step HB5.out hb6)
 replace HR5 := Aside0.mk (Kd.R_below HR5.out hb6)
 replace HRN := Aside0.mk (Kd.R_below HRN.out hb6)
 clear hb6
 go_wp2_with fail
 refine (bool27_any true _).mono ?_
 rintro e w7 ⟨rfl, hb7⟩
 have hal := below_alloc (Below.refl w7.heap.size w7) (.cells #[.int .u8 1, .int .u64 0, .string ⟨#[]⟩, .slice none 0 0, .int .u8 2, .int .u64 1, .string ⟨#[]⟩, .slice none 0 0] 25)
 replace bM := (bM.below hb7).below hal
 replace HB5 := Aside0.mk (below_step (below_step HB5.out hb7) hal)
 replace HR5 := Aside0.mk (Kd.R_below (Kd.R_below HR5.out hb7) hal)
 replace HRN := Aside0.mk (Kd.R_below (Kd.R_below HRN.out hb7) hal)
 have bT := Blk.new w7 #[.int .u8 1, .int .u64 0, .string ⟨#[]⟩, .slice none 0 0, .int .u8 2, .int .u64 1, .string ⟨#[]⟩, .slice none 0 0] 25
 clear hb7 hal
 by_cases h2 : (1 : Int) < (l.length : Int)
 ·have h2c : (2 : Int) ≤ (c9 : Int) := by omega
  obtain ⟨g, p, q, Ap, Aq, cp, cq, rfl, hpq, hce, hlp, hCp, hlq, hCq⟩ := two_cells HR5.out (by omega)
  replace hpq : itemsN p + itemsN q ≤ 4000000000 := by omega
  clear bT
  go_wp2_with fail
  obtain ⟨w8, e8⟩ : ∃ W, w7.alloc (.cells #[.int .u8 1, .int .u64 0, .string ⟨#[]⟩, .slice none 0 0, .int .u8 2, .int .u64 1, .string ⟨#[]⟩, .slice none 0 0] 25) = W := ⟨_, rfl⟩
  rw [e8] at bM HB5 HR5 HRN hce hCp hCq ⊢
  have hs7 : w7.heap.size < w8.heap.size := by rw [← e8]; simp
  clear e8
  have BM := Aside0.mk bM
  have HCp := Aside0.mk hCp
  have HCq := Aside0.mk hCq
  clear bM hCp hCq
  rename_i KK hKK
  refine start_ (n := 9) (S := fun w' => w'.cell? ⟨g, 0, none⟩ = some (.int .u8 p.f0) ∧ w'.cell? ⟨g, 1, none⟩ = some (.int .u64 p.f1) ∧ w'.cell? ⟨g, 2, none⟩ = some (.string p.f2) ∧ w'.cell? ⟨g, 3, none⟩ = some (.slice Ap p.f3.length cp) ∧ w'.cell? ⟨g, 4, none⟩ = some (.int .u8 q.f0) ∧ w'.cell? ⟨g, 5, none⟩ = some (.int .u64 q.f1) ∧ w'.cell? ⟨g, 6, none⟩ = some (.string q.f2) ∧ w'.cell? ⟨g, 7, none⟩ = some (.slice Aq q.f3.length cq)) (ds := [8]) #[false, false, false, false, false, false, false, false, false] (by kernel_rfl) rfl rfl ⟨hce.1, hce.2.1, hce.2.2.1, hce.2.2.2.1, hce.2.2.2.2.1, hce.2.2.2.2.2.1, hce.2.2.2.2.2.2.1, hce.2.2.2.2.2.2.2⟩ (fun hS => ?_)
  replace HCp := Aside0.mk (Kd.C_below HCp.out (below_drew (Below.refl _ _)))
  replace HCq := Aside0.mk (Kd.C_below HCq.out (below_drew (Below.refl _ _)))
  replace HB5 := Aside0.mk (below_drew HB5.out)
  replace HR5 := Aside0.mk (Kd.R_below HR5.out (below_drew (Below.refl _ _)))
  replace HRN := Aside0.mk (Kd.R_below HRN.out (below_drew (Below.refl _ _)))
  replace BM := Aside0.mk (BM.out.below (below_drew (Below.refl _ _)))
  generalize w8.drew = wd8 at HCp HCq HB5 HR5 HRN BM hS ⊢
  clear hce
  have hce := hS
  have hszHK1 := BM.out.lt
  have HK1 : Aside0 (∀ (bD : Nat) (AD : Option Addr) (cD : Nat) (u18 u19 u20 u57 u61 u62 u63 u64 u65 u66 u67 : Value) (WbD : World), wd8.heap.size ≤ bD → 2 ≤ cD → Blk WbD bD #[.int .u8 25, .int .u64 0, .string ⟨#[]⟩, .slice AD 2 cD] 25 → k25.R 25 WbD wd8.heap.size (fun j => wd8.heap.size ≤ j ∧ j ≠ bD) (.slice AD 2 cD) [p, q] → Below wd8.heap.size wd8 WbD → KK { tmps := #[Value.int IntKind.u8 k, Value.int IntKind.u64 n, Value.string s, Value.slice A l.length c, undef, undef, undef, undef, Value.bool false, Value.slice (some { block := g, off := 0 }) l.length c9, Value.pointer (some { block := b10, off := 0 }), Value.slice (some { block := g, off := 0 }) 2 c9, .pointer (some ⟨bD, 0, none⟩), undef, Value.slice A l.length c, Value.bool false, Value.bool false, Value.string s, u18, u19, u20, undef, Value.slice A l.length c, Value.slice (some { block := g, off := 0 }) l.length c9, Value.int IntKind.u8 k, Value.slice (some { block := g, off := 0 }) l.length c9, Value.agg #[Value.int IntKind.u8 k, Value.int IntKind.u64 0, Value.string { data := #[] }, Value.slice A10 l.length c10], Value.int IntKind.u8 k, Value.int IntKind.u64 n, Value.agg #[Value.int IntKind.u8 k, Value.int IntKind.u64 n, Value.string { data := #[] }, Value.slice none 0 0], Value.int IntKind.u8 k, Value.int IntKind.u64 n, Value.agg #[Value.int IntKind.u8 k, Value.int IntKind.u64 n, Value.string { data := #[] }, Value.slice none 0 0], Value.bool true, Value.bool false, Value.bool false, Value.int IntKind.u8 k, Value.string s, Value.agg #[Value.int IntKind.u8 k, Value.int IntKind.u64 0, Value.string s, Value.slice none 0 0], Value.int IntKind.u8 k, Value.string s, Value.agg #[Value.int IntKind.u8 k, Value.int IntKind.u64 0, Value.string s, Value.slice none 0 0], Value.bool true, Value.bool false, Value.bool false, Value.bool false, Value.agg #[Value.int IntKind.u8 k, Value.int IntKind.u64 0, Value.string { data := #[] }, Value.slice A10 l.length c10], Value.int IntKind.u8 k, Value.slice A l.length c, Value.agg #[Value.int IntKind.u8 k, Value.int IntKind.u64 0, Value.string { data := #[] }, Value.slice Am l.length cm], Value.bool true, Value.bool false, Value.bool false, Value.agg #[Value.int IntKind.u8 1, Value.int IntKind.u64 0, Value.string { data := #[] }, Value.slice none 0 0], Value.agg #[Value.int IntKind.u8 2, Value.int IntKind.u64 1, Value.string { data := #[] }, Value.slice none 0 0], Value.slice (some { block := w7.heap.size, off := 0 }) 2 2, Value.slice A l.length c, u57, Value.bool true, Value.slice (some { block := g, off := 0 }) l.length c9, Value.slice (some { block := g, off := 0 }) 2 c9, u61, u62, u63, u64, u65, u66, u67, undef, undef, undef, undef, undef, undef, undef, undef, undef, undef, undef, undef, undef, undef, undef, undef, undef, undef, undef, undef, undef, undef, undef, undef, undef, undef, undef, undef, undef, undef, undef], defers := [] } WbD) := ⟨by
   intro bD AD cD u18 u19 u20 u57 u61 u62 u63 u64 u65 u66 u67 WbD gebD hcbD BbD hRbD hBbD
   refine hKK _ _ ?_
   clear hKK
   have hce1 := hce
   replace hce : WbD.cell? ⟨g, 0, none⟩ = some (.int .u8 p.f0) ∧ WbD.cell? ⟨g, 1, none⟩ = some (.int .u64 p.f1) ∧ WbD.cell? ⟨g, 2, none⟩ = some (.string p.f2) ∧ WbD.cell? ⟨g, 3, none⟩ = some (.slice Ap p.f3.length cp) ∧ WbD.cell? ⟨g, 4, none⟩ = some (.int .u8 q.f0) ∧ WbD.cell? ⟨g, 5, none⟩ = some (.int .u64 q.f1) ∧ WbD.cell? ⟨g, 6, none⟩ = some (.string q.f2) ∧ WbD.cell? ⟨g, 7, none⟩ = some (.slice Aq q.f3.length cq) := ⟨(hBbD.cell (World.block_lt_of_cell? _ _ hce1.1)).trans hce1.1, (hBbD.cell (World.block_lt_of_cell? _ _ hce1.2.1)).trans hce1.2.1, (hBbD.cell (World.block_lt_of_cell? _ _ hce1.2.2.1)).trans hce1.2.2.1, (hBbD.cell (World.block_lt_of_cell? _ _ hce1.2.2.2.1)).trans hce1.2.2.2.1, (hBbD.cell (World.block_lt_of_cell? _ _ hce1.2.2.2.2.1)).trans hce1.2.2.2.2.1, (hBbD.cell (World.block_lt_of_cell? _ _ hce1.2.2.2.2.2.1)).trans hce1.2.2.2.2.2.1, (hBbD.cell (World.block_lt_of_cell? _ _ hce1.2.2.2.2.2.2.1)).trans hce1.2.2.2.2.2.2.1, (hBbD.cell (World.block_lt_of_cell? _ _ hce1.2.2.2.2.2.2.2)).trans hce1.2.2.2.2.2.2.2⟩
   clear hce1
   replace HCp := Aside0.mk (Kd.C_below HCp.out hBbD)
   replace HCq := Aside0.mk (Kd.C_below HCq.out hBbD)
   replace HB5 := Aside0.mk (below_step HB5.out hBbD)
   replace HR5 := Aside0.mk (Kd.R_below HR5.out hBbD)
   replace HRN := Aside0.mk (Kd.R_below HRN.out hBbD)
   replace BM := Aside0.mk (BM.out.below hBbD)
   have hs10 := BM.out.lt
   have hsz10 := hBbD.size
   have BD := Aside0.mk BbD
   have HRD := Aside0.mk hRbD
   have sD := BbD.lt
   clear BbD hRbD hBbD
   go_wp2_with fail
   rename_i KK hKK
   refine start_ (n := 9) (S := fun w' => w'.cell? ⟨g, 0, none⟩ = some (.int .u8 p.f0) ∧ w'.cell? ⟨g, 1, none⟩ = some (.int .u64 p.f1) ∧ w'.cell? ⟨g, 2, none⟩ = some (.string p.f2) ∧ w'.cell? ⟨g, 3, none⟩ = some (.slice Ap p.f3.length cp) ∧ w'.cell? ⟨g, 4, none⟩ = some (.int .u8 q.f0) ∧ w'.cell? ⟨g, 5, none⟩ = some (.int .u64 q.f1) ∧ w'.cell? ⟨g, 6, none⟩ = some (.string q.f2) ∧ w'.cell? ⟨g, 7, none⟩ = some (.slice Aq q.f3.length cq)) (ds := [8]) #[false, false, false, false, false, false, false, false, false] (by kernel_rfl) rfl rfl ⟨hce.1, hce.2.1, hce.2.2.1, hce.2.2.2.1, hce.2.2.2.2.1, hce.2.2.2.2.2.1, hce.2.2.2.2.2.2.1, hce.2.2.2.2.2.2.2⟩ (fun hS => ?_)
   replace HCp := Aside0.mk (Kd.C_below HCp.out (below_drew (Below.refl _ _)))
   replace HCq := Aside0.mk (Kd.C_below HCq.out (below_drew (Below.refl _ _)))
   replace HB5 := Aside0.mk (below_drew HB5.out)
   replace HR5 := Aside0.mk (Kd.R_below HR5.out (below_drew (Below.refl _ _)))
   replace HRN := Aside0.mk (Kd.R_below HRN.out (below_drew (Below.refl _ _)))
   replace HRD := Aside0.mk (Kd.R_below HRD.out (below_drew (Below.refl _ _)))
   replace BM := Aside0.mk (BM.out.below (below_drew (Below.refl _ _)))
   replace BD := Aside0.mk (BD.out.below (below_drew (Below.refl _ _)))
   generalize WbD.drew = wd9 at HCp HCq HB5 HR5 HRN HRD BM BD hS ⊢
   clear hce
   have hce := hS
   have hszHK2 := BM.out.lt
   have HK2 : Aside0 (∀ (bE : Nat) (AE : Option Addr) (cE : Nat) (u68 u69 u70 u71 u72 u73 u74 : Value) (WbE : World), wd9.heap.size ≤ bE → 2 ≤ cE → Blk WbE bE #[.int .u8 25, .int .u64 0, .string ⟨#[]⟩, .slice AE 2 cE] 25 → k25.R 25 WbE wd9.heap.size (fun j => wd9.heap.size ≤ j ∧ j ≠ bE) (.slice AE 2 cE) [p, q] → Below wd9.heap.size wd9 WbE → KK { tmps := #[Value.int IntKind.u8 k, Value.int IntKind.u64 n, Value.string s, Value.slice A l.length c, undef, undef, undef, undef, Value.bool false, Value.slice (some { block := g, off := 0 }) l.length c9, Value.pointer (some { block := b10, off := 0 }), Value.slice (some { block := g, off := 0 }) 2 c9, .pointer (some ⟨bD, 0, none⟩), .pointer (some ⟨bE, 0, none⟩), Value.slice A l.length c, Value.bool false, Value.bool false, Value.string s, u18, u19, u20, undef, Value.slice A l.length c, Value.slice (some { block := g, off := 0 }) l.length c9, Value.int IntKind.u8 k, Value.slice (some { block := g, off := 0 }) l.length c9, Value.agg #[Value.int IntKind.u8 k, Value.int IntKind.u64 0, Value.string { data := #[] }, Value.slice A10 l.length c10], Value.int IntKind.u8 k, Value.int IntKind.u64 n, Value.agg #[Value.int IntKind.u8 k, Value.int IntKind.u64 n, Value.string { data := #[] }, Value.slice none 0 0], Value.int IntKind.u8 k, Value.int IntKind.u64 n, Value.agg #[Value.int IntKind.u8 k, Value.int IntKind.u64 n, Value.string { data := #[] }, Value.slice none 0 0], Value.bool true, Value.bool false, Value.bool false, Value.int IntKind.u8 k, Value.string s, Value.agg #[Value.int IntKind.u8 k, Value.int IntKind.u64 0, Value.string s, Value.slice none 0 0], Value.int IntKind.u8 k, Value.string s, Value.agg #[Value.int IntKind.u8 k, Value.int IntKind.u64 0, Value.string s, Value.slice none 0 0], Value.bool true, Value.bool false, Value.bool false, Value.bool false, Value.agg #[Value.int IntKind.u8 k, Value.int IntKind.u64 0, Value.string { data := #[] }, Value.slice A10 l.length c10], Value.int IntKind.u8 k, Value.slice A l.length c, Value.agg #[Value.int IntKind.u8 k, Value.int IntKind.u64 0, Value.string { data := #[] }, Value.slice Am l.length cm], Value.bool true, Value.bool false, Value.bool false, Value.agg #[Value.int IntKind.u8 1, Value.int IntKind.u64 0, Value.string { data := #[] }, Value.slice none 0 0], Value.agg #[Value.int IntKind.u8 2, Value.int IntKind.u64 1, Value.string { data := #[] }, Value.slice none 0 0], Value.slice (some { block := w7.heap.size, off := 0 }) 2 2, Value.slice A l.length c, u57, Value.bool true, Value.slice (some { block := g, off := 0 }) l.length c9, Value.slice (some { block := g, off := 0 }) 2 c9, u61, u62, u63, u64, u65, u66, u67, u68, u69, u70, u71, u72, u73, u74, undef, undef, undef, undef, undef, undef, undef, undef, undef, undef, undef, undef, undef, undef, undef, undef, undef, undef, undef, undef, undef, undef, undef, undef], defers := [] } WbE) := ⟨by
    intro bE AE cE u68 u69 u70 u71 u72 u73 u74 WbE gebE hcbE BbE hRbE hBbE
    refine hKK _ _ ?_
    clear hKK
    replace HB5 := Aside0.mk (below_step HB5.out hBbE)
    replace HR5 := Aside0.mk (Kd.R_below HR5.out hBbE)
    replace HRN := Aside0.mk (Kd.R_below HRN.out hBbE)
    replace HRD := Aside0.mk (Kd.R_below HRD.out hBbE)
    replace BM := Aside0.mk (BM.out.below hBbE)
    replace BD := Aside0.mk (BD.out.below hBbE)
    have BE := Aside0.mk BbE
    have HRE := Aside0.mk hRbE
    clear BbE hRbE hBbE HCp HCq hce
    obtain ⟨p0, p1, p2, p3⟩ := BD.out.c4
    obtain ⟨r0, r1, r2, r3⟩ := BE.out.c4
    go_wp2_with fail
    have hrD := (Kd.R_reads' HRD.out).2
    have hrE := (Kd.R_reads' HRE.out).2
    refine (same19_any ⟨25, 0, ⟨#[]⟩, [p, q]⟩ ⟨25, 0, ⟨#[]⟩, [p, q]⟩ AD AE cD cE _ hrD.2 hrD.1 (by simp only [itemsN, itemsL]; omega) hrE.2 hrE.1).mono ?_
    rintro e wF ⟨he, hbF⟩
    rw [veq_refl] at he
    subst he
    have k0 := BM.out.below hbF
    have k1 := BD.out.below hbF
    have k2 := BE.out.below hbF
    replace HB5 := Aside0.mk (below_step HB5.out hbF)
    replace HR5 := Aside0.mk (Kd.R_below HR5.out hbF)
    replace HRN := Aside0.mk (Kd.R_below HRN.out hbF)
    replace HRD := Aside0.mk (Kd.R_below HRD.out hbF)
    replace HRE := Aside0.mk (Kd.R_below HRE.out hbF)
    clear p0 p1 p2 p3 r0 r1 r2 r3 hrD hrE hbF BM BD BE
    go_wp2_with fail
    refine (turn30_any w w1.heap.size _ _ c9 l _ HR5.out hNL hc9).mono ?_
    rintro e wT ⟨rfl, hT⟩
    have n0 : Blk wT b10 #[.int .u8 k, .int .u64 0, .string ⟨#[]⟩, .slice A10 l.length c10] 25 := (hT.off b10 (fun hk => by have := hk.1; omega)).trans k0
    have n1 : Blk wT bD #[.int .u8 25, .int .u64 0, .string ⟨#[]⟩, .slice AD 2 cD] 25 := (hT.off bD (fun hk => by have := hk.1; omega)).trans k1
    have n2 : Blk wT bE #[.int .u8 25, .int .u64 0, .string ⟨#[]⟩, .slice AE 2 cE] 25 := (hT.off bE (fun hk => by have := hk.1; omega)).trans k2
    have HB := Aside0.mk (HB5.out.trans (hT.below (fun k hk => by have := hk.2.1; omega)))
    have HX := Aside0.mk (Kd.C_below HA0.out HB.out)
    have HM := Aside0.mk (Kd.R_reads' (Kd.R_move HRN.out (fun k hk => hT.off k (fun ho => by have := ho.1; omega)))).2.2
    have HD := Aside0.mk (Kd.R_reads' (Kd.R_move HRD.out (fun k hk => hT.off k (fun ho => by have := ho.1; have := hk.1; omega)))).2
    have HE := Aside0.mk (Kd.R_reads' (Kd.R_move HRE.out (fun k hk => hT.off k (fun ho => by have := ho.1; have := hk.1; omega)))).2
    have hcD := HD.out.1
    have hcE := HE.out.1
    replace HD := Aside0.mk HD.out.2
    replace HE := Aside0.mk HE.out.2
    clear k0 k1 k2 hT HB5 HR5 HRN HRD HRE
    go_wp2_with fail
    refine start_ (n := 19) (S := fun w' => Blk w' b10 #[.int .u8 k, .int .u64 0, .string ⟨#[]⟩, .slice A10 l.length c10] 25 ∧ Blk w' bD #[.int .u8 25, .int .u64 0, .string ⟨#[]⟩, .slice AD 2 cD] 25 ∧ Blk w' bE #[.int .u8 25, .int .u64 0, .string ⟨#[]⟩, .slice AE 2 cE] 25) (ds := []) #[false, false, false, false, false, false, false, false, false, false, false, false, false, false, false, false, false, false, false] (by kernel_rfl) rfl rfl ⟨n0, n1, n2⟩ (fun hS => ?_)
    replace HX := Aside0.mk (Kd.C_below HX.out (below_drew (Below.refl _ _)))
    replace HM := Aside0.mk (Kd.C_below HM.out (below_drew (Below.refl _ _)))
    replace HD := Aside0.mk (Kd.C_below HD.out (below_drew (Below.refl _ _)))
    replace HE := Aside0.mk (Kd.C_below HE.out (below_drew (Below.refl _ _)))
    replace HB := Aside0.mk (below_drew HB.out)
    generalize wT.drew = wd10 at HX HM HD HE HB hS ⊢
    clear n0 n1 n2
    refine take_ (i := 0) (N := some 81) (v := .agg #[.int .u8 k, .int .u64 0, .string ⟨#[]⟩, .slice A10 l.length c10]) #[true, false, false, false, false, false, false, false, false, false, false, false, false, false, false, false, false, false, false] rfl rfl (by kernel_rfl) (fun _ _ _ h => h) (Or.inl ⟨by rfl, ?_⟩) hS rfl ?_
    ·rintro w' ⟨h0, h1, h2⟩
     obtain ⟨e0, e1, e2, e3⟩ := h0.c4
     go_simp
    refine norm_ (a' := ?_) ?_ ?_
    rotate_left
    ·try simp only [Act.put, putAll, List.setIfInBounds_toArray, List.set_cons_zero, List.set_cons_succ]
     rfl
    refine pure_ (i := 1) (N := some 82) (v := ?_) (a' := ?_) #[true, true, false, false, false, false, false, false, false, false, false, false, false, false, false, false, false, false, false] rfl rfl (by kernel_rfl) (fun _ _ _ h => h) (Or.inl ⟨by rfl, ?_⟩) ?_ ?_
    rotate_left
    ·intro w'
     go_simp
     with_reducible rfl
    rotate_left
    ·simp only [Act.put, List.setIfInBounds_toArray, List.set_cons_zero, List.set_cons_succ, i64_w, i32_w]
     rfl
    refine pure_ (i := 2) (N := some 83) (v := ?_) (a' := ?_) #[true, true, true, false, false, false, false, false, false, false, false, false, false, false, false, false, false, false, false] rfl rfl (by kernel_rfl) (fun _ _ _ h => h) (Or.inl ⟨by rfl, ?_⟩) ?_ ?_
    rotate_left
    ·intro w'
     go_simp
     with_reducible rfl
    rotate_left
    ·simp only [Act.put, List.setIfInBounds_toArray, List.set_cons_zero, List.set_cons_succ, i64_w, i32_w]
     rfl
    refine one_ (i := 3) (N := some 84) #[true, true, true, true, false, false, false, false, false, false, false, false, false, false, false, false, false, false, false] rfl rfl (by kernel_rfl) (by decide) (fun K hK => ?_)
    refine goes_ Try.func25 (by kernel_rfl) rfl #[.int .u8 k, .slice A l.length c] (by rfl) rfl rfl (by (try simp only [List.map_toArray, List.map_cons, List.map_nil]); first | done | rfl) ?_
    refine (rmany25_any k l hNL A c _ HX.out hc0).mono ?_
    rintro e wk11 ⟨vm11, rfl, hRm11, hb11⟩
    obtain ⟨Am, cm, rfl⟩ := Kd.R_slice hRm11
    have hcm := (Kd.R_reads' hRm11).2.1
    have HCm11 := Aside0.mk (Kd.R_reads' hRm11).2.2
    refine ⟨_, rfl, ?_⟩
    have hS11 : Blk wk11 b10 #[.int .u8 k, .int .u64 0, .string ⟨#[]⟩, .slice A10 l.length c10] 25 ∧ Blk wk11 bD #[.int .u8 25, .int .u64 0, .string ⟨#[]⟩, .slice AD 2 cD] 25 ∧ Blk wk11 bE #[.int .u8 25, .int .u64 0, .string ⟨#[]⟩, .slice AE 2 cE] 25 := ⟨hS.1.below hb11, hS.2.1.below hb11, hS.2.2.below hb11⟩
    have HX11 := Aside0.mk (Kd.C_below HX.out hb11)
    have HM11 := Aside0.mk (Kd.C_below HM.out hb11)
    have HD11 := Aside0.mk (Kd.C_below HD.out hb11)
    have HE11 := Aside0.mk (Kd.C_below HE.out hb11)
    have HB11 := Aside0.mk (below_step HB.out hb11)
    refine hK.out _ _ hS11 (fun _ => ?_)
    clear hK K hb11
    refine norm_ (a' := ?_) ?_ ?_
    rotate_left
    ·try simp only [Act.put, putAll, List.setIfInBounds_toArray, List.set_cons_zero, List.set_cons_succ]
     rfl
    refine one_ (i := 4) (N := some 85) #[true, true, true, true, true, false, false, false, false, false, false, false, false, false, false, false, false, false, false] rfl rfl (by kernel_rfl) (by decide) (fun K hK => ?_)
    refine goes_ Try.func19 (by kernel_rfl) rfl #[.agg #[.int .u8 k, .int .u64 0, .string ⟨#[]⟩, .slice A10 l.length c10], .agg #[.int .u8 k, .int .u64 0, .string ⟨#[]⟩, .slice Am l.length cm]] (by rfl) rfl rfl (by (try simp only [List.map_toArray, List.map_cons, List.map_nil]); first | done | rfl) ?_
    refine (same19_any ⟨k, 0, ⟨#[]⟩, l⟩ ⟨k, 0, ⟨#[]⟩, l⟩ A10 Am c10 cm _ HM11.out hc10 (by rw [itemsN_eq]; show itemsL l + 1 ≤ _; omega) HCm11.out hcm).mono ?_
    rintro e wk12 ⟨he, hb12⟩
    rw [veq_refl] at he
    subst he
    refine ⟨_, rfl, ?_⟩
    have hS12 : Blk wk12 b10 #[.int .u8 k, .int .u64 0, .string ⟨#[]⟩, .slice A10 l.length c10] 25 ∧ Blk wk12 bD #[.int .u8 25, .int .u64 0, .string ⟨#[]⟩, .slice AD 2 cD] 25 ∧ Blk wk12 bE #[.int .u8 25, .int .u64 0, .string ⟨#[]⟩, .slice AE 2 cE] 25 := ⟨hS11.1.below hb12, hS11.2.1.below hb12, hS11.2.2.below hb12⟩
    have HX12 := Aside0.mk (Kd.C_below HX11.out hb12)
    have HM12 := Aside0.mk (Kd.C_below HM11.out hb12)
    have HD12 := Aside0.mk (Kd.C_below HD11.out hb12)
    have HE12 := Aside0.mk (Kd.C_below HE11.out hb12)
    have HB12 := Aside0.mk (below_step HB11.out hb12)
    have HCm12 := Aside0.mk (Kd.C_below HCm11.out hb12)
    refine hK.out _ _ hS12 (fun _ => ?_)
    clear hK K hb12 hS11
    refine norm_ (a' := ?_) ?_ ?_
    rotate_left
    ·try simp only [Act.put, putAll, List.setIfInBounds_toArray, List.set_cons_zero, List.set_cons_succ]
     rfl
    refine pure_ (i := 5) (N := some 86) (v := ?_) (a' := ?_) #[true, true, true, true, true, true, false, false, false, false, false, false, false, false, false, false, false, false, false] rfl rfl (by kernel_rfl) (fun _ _ _ h => h) (Or.inl ⟨by rfl, ?_⟩) ?_ ?_
    rotate_left
    ·intro w'
     go_simp
     with_reducible rfl
    rotate_left
    ·simp only [Act.put, List.setIfInBounds_toArray, List.set_cons_zero, List.set_cons_succ, i64_w, i32_w]
     rfl
    refine take_ (i := 6) (N := some 87) (v := .agg #[.int .u8 25, .int .u64 0, .string ⟨#[]⟩, .slice AD 2 cD]) #[true, true, true, true, true, true, true, false, false, false, false, false, false, false, false, false, false, false, false] rfl rfl (by kernel_rfl) (fun _ _ _ h => h) (Or.inl ⟨by rfl, ?_⟩) hS12 rfl ?_
    ·rintro w' ⟨h0, h1, h2⟩
     obtain ⟨e0, e1, e2, e3⟩ := h1.c4
     go_simp
    refine norm_ (a' := ?_) ?_ ?_
    rotate_left
    ·try simp only [Act.put, putAll, List.setIfInBounds_toArray, List.set_cons_zero, List.set_cons_succ]
     rfl
    refine take_ (i := 7) (N := some 88) (v := .agg #[.int .u8 25, .int .u64 0, .string ⟨#[]⟩, .slice AE 2 cE]) #[true, true, true, true, true, true, true, true, false, false, false, false, false, false, false, false, false, false, false] rfl rfl (by kernel_rfl) (fun _ _ _ h => h) (Or.inl ⟨by rfl, ?_⟩) hS12 rfl ?_
    ·rintro w' ⟨h0, h1, h2⟩
     obtain ⟨e0, e1, e2, e3⟩ := h2.c4
     go_simp
    refine norm_ (a' := ?_) ?_ ?_
    rotate_left
    ·try simp only [Act.put, putAll, List.setIfInBounds_toArray, List.set_cons_zero, List.set_cons_succ]
     rfl
    refine one_ (i := 8) (N := some 89) #[true, true, true, true, true, true, true, true, true, false, false, false, false, false, false, false, false, false, false] rfl rfl (by kernel_rfl) (by decide) (fun K hK => ?_)
    refine goes_ Try.func19 (by kernel_rfl) rfl #[.agg #[.int .u8 25, .int .u64 0, .string ⟨#[]⟩, .slice AD 2 cD], .agg #[.int .u8 25, .int .u64 0, .string ⟨#[]⟩, .slice AE 2 cE]] (by rfl) rfl rfl (by (try simp only [List.map_toArray, List.map_cons, List.map_nil]); first | done | rfl) ?_
    refine (same19_any ⟨25, 0, ⟨#[]⟩, [p, q]⟩ ⟨25, 0, ⟨#[]⟩, [p, q]⟩ AD AE cD cE _ HD12.out hcD (by simp only [itemsN, itemsL]; omega) HE12.out hcE).mono ?_
    rintro e wk13 ⟨he, hb13⟩
    rw [veq_refl] at he
    subst he
    refine ⟨_, rfl, ?_⟩
    have hS13 : Blk wk13 b10 #[.int .u8 k, .int .u64 0, .string ⟨#[]⟩, .slice A10 l.length c10] 25 ∧ Blk wk13 bD #[.int .u8 25, .int .u64 0, .string ⟨#[]⟩, .slice AD 2 cD] 25 ∧ Blk wk13 bE #[.int .u8 25, .int .u64 0, .string ⟨#[]⟩, .slice AE 2 cE] 25 := ⟨hS12.1.below hb13, hS12.2.1.below hb13, hS12.2.2.below hb13⟩
    have HX13 := Aside0.mk (Kd.C_below HX12.out hb13)
    have HM13 := Aside0.mk (Kd.C_below HM12.out hb13)
    have HD13 := Aside0.mk (Kd.C_below HD12.out hb13)
    have HE13 := Aside0.mk (Kd.C_below HE12.out hb13)
    have HB13 := Aside0.mk (below_step HB12.out hb13)
    have HCm13 := Aside0.mk (Kd.C_below HCm12.out hb13)
    refine hK.out _ _ hS13 (fun _ => ?_)
    clear hK K hb13 hS12
    refine norm_ (a' := ?_) ?_ ?_
    rotate_left
    ·try simp only [Act.put, putAll, List.setIfInBounds_toArray, List.set_cons_zero, List.set_cons_succ]
     rfl
    refine pure_ (i := 9) (N := some 90) (v := ?_) (a' := ?_) #[true, true, true, true, true, true, true, true, true, true, false, false, false, false, false, false, false, false, false] rfl rfl (by kernel_rfl) (fun _ _ _ h => h) (Or.inl ⟨by rfl, ?_⟩) ?_ ?_
    rotate_left
    ·intro w'
     go_simp
     with_reducible rfl
    rotate_left
    ·simp only [Act.put, List.setIfInBounds_toArray, List.set_cons_zero, List.set_cons_succ, i64_w, i32_w]
     rfl
    refine pure_ (i := 10) (N := some 91) (v := ?_) (a' := ?_) #[true, true, true, true, true, true, true, true, true, true, true, false, false, false, false, false, false, false, false] rfl rfl (by kernel_rfl) (fun _ _ _ h => h) (Or.inl ⟨by rfl, ?_⟩) ?_ ?_
    rotate_left
    ·intro w'
     go_simp
     with_reducible rfl
    rotate_left
    ·simp only [Act.put, List.setIfInBounds_toArray, List.set_cons_zero, List.set_cons_succ, i64_w, i32_w]
     rfl
    refine pure_ (i := 12) (N := some 93) (v := ?_) (a' := ?_) #[true, true, true, true, true, true, true, true, true, true, true, false, true, false, false, false, false, false, false] rfl rfl (by kernel_rfl) (fun _ _ _ h => h) (Or.inl ⟨by rfl, ?_⟩) ?_ ?_
    rotate_left
    ·intro w'
     go_simp
     with_reducible rfl
    rotate_left
    ·simp only [Act.put, List.setIfInBounds_toArray, List.set_cons_zero, List.set_cons_succ, i64_w, i32_w]
     rfl
    refine one_ (i := 11) (N := some 92) #[true, true, true, true, true, true, true, true, true, true, true, true, true, false, false, false, false, false, false] rfl rfl (by kernel_rfl) (by decide) (fun K hK => ?_)
    refine goes_ Try.func27 (by kernel_rfl) rfl #[.bool false] (by rfl) rfl rfl (by (try simp only [List.map_toArray, List.map_cons, List.map_nil]); first | done | rfl) ?_
    refine (bool27_any false _).mono ?_
    rintro e wk14 ⟨rfl, hb14⟩
    refine ⟨_, rfl, ?_⟩
    have hS14 : Blk wk14 b10 #[.int .u8 k, .int .u64 0, .string ⟨#[]⟩, .slice A10 l.length c10] 25 ∧ Blk wk14 bD #[.int .u8 25, .int .u64 0, .string ⟨#[]⟩, .slice AD 2 cD] 25 ∧ Blk wk14 bE #[.int .u8 25, .int .u64 0, .string ⟨#[]⟩, .slice AE 2 cE] 25 := ⟨hS13.1.below hb14, hS13.2.1.below hb14, hS13.2.2.below hb14⟩
    have HX14 := Aside0.mk (Kd.C_below HX13.out hb14)
    have HM14 := Aside0.mk (Kd.C_below HM13.out hb14)
    have HD14 := Aside0.mk (Kd.C_below HD13.out hb14)
    have HE14 := Aside0.mk (Kd.C_below HE13.out hb14)
    have HB14 := Aside0.mk (below_step HB13.out hb14)
    have HCm14 := Aside0.mk (Kd.C_below HCm13.out hb14)
    refine hK.out _ _ hS14 (fun _ => ?_)
    clear hK K hb14 hS13
    refine norm_ (a' := ?_) ?_ ?_
    rotate_left
    ·try simp only [Act.put, putAll, List.setIfInBounds_toArray, List.set_cons_zero, List.set_cons_succ]
     rfl
    refine one_ (i := 13) (N := some 94) #[true, true, true, true, true, true, true, true, true, true, true, true, true, true, false, false, false, false, false] rfl rfl (by kernel_rfl) (by decide) (fun K hK => ?_)
    refine goes_ Try.func22 (by kernel_rfl) rfl #[.agg #[.int .u8 2, .int .u64 0, .string ⟨#[]⟩, .slice none 0 0], .agg #[.int .u8 2, .int .u64 0, .string ⟨#[]⟩, .slice none 0 0]] (by rfl) rfl rfl (by (try simp only [List.map_toArray, List.map_cons, List.map_nil]); first | done | rfl) ?_
    refine (same_any ⟨2, 0, ⟨#[]⟩, []⟩ ⟨2, 0, ⟨#[]⟩, []⟩ none none 0 0 _ (C_none _) (Nat.le_refl _) (C_none _) (Nat.le_refl _)).mono ?_
    rintro e wk15 ⟨he, hb15⟩
    rw [veq_refl] at he
    subst he
    refine ⟨_, rfl, ?_⟩
    have hS15 : Blk wk15 b10 #[.int .u8 k, .int .u64 0, .string ⟨#[]⟩, .slice A10 l.length c10] 25 ∧ Blk wk15 bD #[.int .u8 25, .int .u64 0, .string ⟨#[]⟩, .slice AD 2 cD] 25 ∧ Blk wk15 bE #[.int .u8 25, .int .u64 0, .string ⟨#[]⟩, .slice AE 2 cE] 25 := ⟨hS14.1.below hb15, hS14.2.1.below hb15, hS14.2.2.below hb15⟩
    have HX15 := Aside0.mk (Kd.C_below HX14.out hb15)
    have HM15 := Aside0.mk (Kd.C_below HM14.out hb15)
    have HD15 := Aside0.mk (Kd.C_below HD14.out hb15)
    have HE15 := Aside0.mk (Kd.C_below HE14.out hb15)
    have HB15 := Aside0.mk (below_step HB14.out hb15)
    have HCm15 := Aside0.mk (Kd.C_below HCm14.out hb15)
    refine hK.out _ _ hS15 (fun _ => ?_)
    clear hK K hb15 hS14
    refine norm_ (a' := ?_) ?_ ?_
    rotate_left
    ·try simp only [Act.put, putAll, List.setIfInBounds_toArray, List.set_cons_zero, List.set_cons_succ]
     rfl
    refine pure_ (i := 14) (N := some 95) (v := ?_) (a' := ?_) #[true, true, true, true, true, true, true, true, true, true, true, true, true, true, true, false, false, false, false] rfl rfl (by kernel_rfl) (fun _ _ _ h => h) (Or.inl ⟨by rfl, ?_⟩) ?_ ?_
    rotate_left
    ·intro w'
     go_simp
     with_reducible rfl
    rotate_left
    ·simp only [Act.put, List.setIfInBounds_toArray, List.set_cons_zero, List.set_cons_succ, i64_w, i32_w]
     rfl
    refine pure_ (i := 15) (N := some 96) (v := ?_) (a' := ?_) #[true, true, true, true, true, true, true, true, true, true, true, true, true, true, true, true, false, false, false] rfl rfl (by kernel_rfl) (fun _ _ _ h => h) (Or.inl ⟨by rfl, ?_⟩) ?_ ?_
    rotate_left
    ·intro w'
     go_simp
     with_reducible rfl
    rotate_left
    ·simp only [Act.put, List.setIfInBounds_toArray, List.set_cons_zero, List.set_cons_succ, i64_w, i32_w]
     rfl
    refine one_ (i := 16) (N := some 97) #[true, true, true, true, true, true, true, true, true, true, true, true, true, true, true, true, true, false, false] rfl rfl (by kernel_rfl) (by decide) (fun K hK => ?_)
    refine goes_ Try.func15 (by kernel_rfl) rfl #[] (by rfl) rfl rfl (by (try simp only [List.map_toArray, List.map_cons, List.map_nil]); first | done | rfl) ?_
    refine (works15_any _).mono ?_
    rintro e wk16 ⟨rfl, hb16⟩
    refine ⟨_, rfl, ?_⟩
    have hS16 : Blk wk16 b10 #[.int .u8 k, .int .u64 0, .string ⟨#[]⟩, .slice A10 l.length c10] 25 ∧ Blk wk16 bD #[.int .u8 25, .int .u64 0, .string ⟨#[]⟩, .slice AD 2 cD] 25 ∧ Blk wk16 bE #[.int .u8 25, .int .u64 0, .string ⟨#[]⟩, .slice AE 2 cE] 25 := ⟨hS15.1.below hb16, hS15.2.1.below hb16, hS15.2.2.below hb16⟩
    have HX16 := Aside0.mk (Kd.C_below HX15.out hb16)
    have HM16 := Aside0.mk (Kd.C_below HM15.out hb16)
    have HD16 := Aside0.mk (Kd.C_below HD15.out hb16)
    have HE16 := Aside0.mk (Kd.C_below HE15.out hb16)
    have HB16 := Aside0.mk (below_step HB15.out hb16)
    have HCm16 := Aside0.mk (Kd.C_below HCm15.out hb16)
    refine hK.out _ _ hS16 (fun _ => ?_)
    clear hK K hb16 hS15
    refine norm_ (a' := ?_) ?_ ?_
    rotate_left
    ·try simp only [Act.put, putAll, List.setIfInBounds_toArray, List.set_cons_zero, List.set_cons_succ]
     rfl
    refine pure_ (i := 17) (N := some 98) (v := ?_) (a' := ?_) #[true, true, true, true, true, true, true, true, true, true, true, true, true, true, true, true, true, true, false] rfl rfl (by kernel_rfl) (fun _ _ _ h => h) (Or.inl ⟨by rfl, ?_⟩) ?_ ?_
    rotate_left
    ·intro w'
     go_simp
     with_reducible rfl
    rotate_left
    ·simp only [Act.put, List.setIfInBounds_toArray, List.set_cons_zero, List.set_cons_succ, i64_w, i32_w]
     rfl
    refine pure_ (i := 18) (N := some 8) (v := ?_) (a' := ?_) #[true, true, true, true, true, true, true, true, true, true, true, true, true, true, true, true, true, true, true] rfl rfl (by kernel_rfl) (fun _ _ _ h => h) (Or.inl ⟨by rfl, ?_⟩) ?_ ?_
    rotate_left
    ·intro w'
     go_simp
     with_reducible rfl
    rotate_left
    ·simp only [Act.put, List.setIfInBounds_toArray, List.set_cons_zero, List.set_cons_succ, i64_w, i32_w]
     rfl
    refine done_ (by kernel_rfl) ?_
    go_wp2_with fail
    go_ret
    exact ⟨rfl, HB16.out⟩
   ⟩
   clear hKK hce
   have HBS := Aside0.mk (Below.refl wd9.heap.size wd9)
   clear HB5 HR5 HRN HRD BM BD
   refine pure_ (i := 0) (N := some 68) (v := ?_) (a' := ?_) #[true, false, false, false, false, false, false, false, false] rfl rfl (by kernel_rfl) (fun _ _ _ h => h) (Or.inl ⟨by rfl, ?_⟩) ?_ ?_
   rotate_left
   ·intro w'
    go_simp
    with_reducible rfl
   rotate_left
   ·simp only [Act.put, List.setIfInBounds_toArray, List.set_cons_zero, List.set_cons_succ, i64_w, i32_w]
    rfl
   refine pure_ (i := 1) (N := some 69) (v := ?_) (a' := ?_) #[true, true, false, false, false, false, false, false, false] rfl rfl (by kernel_rfl) (fun _ _ _ h => h) (Or.inl ⟨by rfl, ?_⟩) ?_ ?_
   rotate_left
   ·intro w'
    go_simp
    with_reducible rfl
   rotate_left
   ·simp only [Act.put, List.setIfInBounds_toArray, List.set_cons_zero, List.set_cons_succ, i64_w, i32_w]
    rfl
   refine take_ (i := 2) (N := some 70) (v := .agg #[.int .u8 p.f0, .int .u64 p.f1, .string p.f2, .slice Ap p.f3.length cp]) #[true, true, true, false, false, false, false, false, false] rfl rfl (by kernel_rfl) (fun _ _ _ h => h) (Or.inl ⟨by rfl, ?_⟩) hS rfl ?_
   ·rintro w' ⟨h0, h1, h2, h3, h4, h5, h6, h7⟩
    go_simp
   refine norm_ (a' := ?_) ?_ ?_
   rotate_left
   ·try simp only [Act.put, putAll, List.setIfInBounds_toArray, List.set_cons_zero, List.set_cons_succ]
    rfl
   refine pure_ (i := 3) (N := some 71) (v := ?_) (a' := ?_) #[true, true, true, true, false, false, false, false, false] rfl rfl (by kernel_rfl) (fun _ _ _ h => h) (Or.inl ⟨by rfl, ?_⟩) ?_ ?_
   rotate_left
   ·intro w'
    go_simp
    with_reducible rfl
   rotate_left
   ·simp only [Act.put, List.setIfInBounds_toArray, List.set_cons_zero, List.set_cons_succ, i64_w, i32_w]
    rfl
   refine pure_ (i := 4) (N := some 72) (v := ?_) (a' := ?_) #[true, true, true, true, true, false, false, false, false] rfl rfl (by kernel_rfl) (fun _ _ _ h => h) (Or.inl ⟨by rfl, ?_⟩) ?_ ?_
   rotate_left
   ·intro w'
    go_simp
    with_reducible rfl
   rotate_left
   ·simp only [Act.put, List.setIfInBounds_toArray, List.set_cons_zero, List.set_cons_succ, i64_w, i32_w]
    rfl
   refine take_ (i := 5) (N := some 73) (v := .agg #[.int .u8 q.f0, .int .u64 q.f1, .string q.f2, .slice Aq q.f3.length cq]) #[true, true, true, true, true, true, false, false, false] rfl rfl (by kernel_rfl) (fun _ _ _ h => h) (Or.inl ⟨by rfl, ?_⟩) hS rfl ?_
   ·rintro w' ⟨h0, h1, h2, h3, h4, h5, h6, h7⟩
    go_simp
   refine norm_ (a' := ?_) ?_ ?_
   rotate_left
   ·try simp only [Act.put, putAll, List.setIfInBounds_toArray, List.set_cons_zero, List.set_cons_succ]
    rfl
   refine two_ (i := 6) (j := 7) (Ni := some 74) (Nj := some 13) #[true, true, true, true, true, true, true, false, false] #[true, true, true, true, true, true, false, true, false] rfl rfl rfl rfl (by kernel_rfl) (by decide) (by decide) (fun K hK => ?_) (fun K hK => ?_)
   ·refine goes_ Try.func29 (by kernel_rfl) rfl #[.agg #[.int .u8 p.f0, .int .u64 p.f1, .string p.f2, .slice Ap p.f3.length cp], .agg #[.int .u8 q.f0, .int .u64 q.f1, .string q.f2, .slice Aq q.f3.length cq]] (by rfl) rfl rfl (by (try simp only [List.map_toArray, List.map_cons, List.map_nil]); first | done | rfl) ?_
    refine (rdesc29_any p q (by omega) (by omega) Ap Aq cp cq _ HCp.out hlp HCq.out hlq).mono ?_
    rintro e wk17 ⟨vd17, rfl, hRd17, hb17⟩
    obtain ⟨Ad17, cd17, rfl⟩ := Kd.R_slice hRd17
    have hcd17 := (Kd.R_reads' hRd17).2.1
    have HRD17 := Aside0.mk (Kd.R_bound hRd17)
    have sz17 := hb17.size
    have sl17 := HBS.out.size
    refine ⟨_, rfl, ?_⟩
    have hS17 : wk17.cell? ⟨g, 0, none⟩ = some (.int .u8 p.f0) ∧ wk17.cell? ⟨g, 1, none⟩ = some (.int .u64 p.f1) ∧ wk17.cell? ⟨g, 2, none⟩ = some (.string p.f2) ∧ wk17.cell? ⟨g, 3, none⟩ = some (.slice Ap p.f3.length cp) ∧ wk17.cell? ⟨g, 4, none⟩ = some (.int .u8 q.f0) ∧ wk17.cell? ⟨g, 5, none⟩ = some (.int .u64 q.f1) ∧ wk17.cell? ⟨g, 6, none⟩ = some (.string q.f2) ∧ wk17.cell? ⟨g, 7, none⟩ = some (.slice Aq q.f3.length cq) := ⟨(hb17.cell (World.block_lt_of_cell? _ _ hS.1)).trans hS.1, (hb17.cell (World.block_lt_of_cell? _ _ hS.2.1)).trans hS.2.1, (hb17.cell (World.block_lt_of_cell? _ _ hS.2.2.1)).trans hS.2.2.1, (hb17.cell (World.block_lt_of_cell? _ _ hS.2.2.2.1)).trans hS.2.2.2.1, (hb17.cell (World.block_lt_of_cell? _ _ hS.2.2.2.2.1)).trans hS.2.2.2.2.1, (hb17.cell (World.block_lt_of_cell? _ _ hS.2.2.2.2.2.1)).trans hS.2.2.2.2.2.1, (hb17.cell (World.block_lt_of_cell? _ _ hS.2.2.2.2.2.2.1)).trans hS.2.2.2.2.2.2.1, (hb17.cell (World.block_lt_of_cell? _ _ hS.2.2.2.2.2.2.2)).trans hS.2.2.2.2.2.2.2⟩
    have HCp17 := Aside0.mk (Kd.C_below HCp.out hb17)
    have HCq17 := Aside0.mk (Kd.C_below HCq.out hb17)
    have HBS17 := Aside0.mk (below_step HBS.out hb17)
    refine hK.out _ _ hS17 (fun _ => ?_)
    clear hK K
    refine norm_ (a' := ?_) ?_ ?_
    rotate_left
    ·try simp only [Act.put, putAll, List.setIfInBounds_toArray, List.set_cons_zero, List.set_cons_succ]
     rfl
    refine one_ (i := 7) (N := some 13) #[true, true, true, true, true, true, true, true, false] rfl rfl (by kernel_rfl) (by decide) (fun K hK => ?_)
    rw [if_pos (by rfl)]
    unfold Oper.wp
    go_simp
    have bN18 := Blk.new wk17 #[.int .u8 0, .int .u64 0, .string ⟨#[]⟩, .slice none 0 0] 25
    have hb18 := below_alloc (Below.refl wk17.heap.size wk17) (.cells #[.int .u8 0, .int .u64 0, .string ⟨#[]⟩, .slice none 0 0] 25)
    have gz18 := HBS17.out.size
    obtain ⟨wk18, hw18⟩ : ∃ W, wk17.alloc (.cells #[.int .u8 0, .int .u64 0, .string ⟨#[]⟩, .slice none 0 0] 25) = W := ⟨_, rfl⟩
    rw [hw18] at bN18 hb18 ⊢
    have hS18 : wk18.cell? ⟨g, 0, none⟩ = some (.int .u8 p.f0) ∧ wk18.cell? ⟨g, 1, none⟩ = some (.int .u64 p.f1) ∧ wk18.cell? ⟨g, 2, none⟩ = some (.string p.f2) ∧ wk18.cell? ⟨g, 3, none⟩ = some (.slice Ap p.f3.length cp) ∧ wk18.cell? ⟨g, 4, none⟩ = some (.int .u8 q.f0) ∧ wk18.cell? ⟨g, 5, none⟩ = some (.int .u64 q.f1) ∧ wk18.cell? ⟨g, 6, none⟩ = some (.string q.f2) ∧ wk18.cell? ⟨g, 7, none⟩ = some (.slice Aq q.f3.length cq) := ⟨(hb18.cell (World.block_lt_of_cell? _ _ hS17.1)).trans hS17.1, (hb18.cell (World.block_lt_of_cell? _ _ hS17.2.1)).trans hS17.2.1, (hb18.cell (World.block_lt_of_cell? _ _ hS17.2.2.1)).trans hS17.2.2.1, (hb18.cell (World.block_lt_of_cell? _ _ hS17.2.2.2.1)).trans hS17.2.2.2.1, (hb18.cell (World.block_lt_of_cell? _ _ hS17.2.2.2.2.1)).trans hS17.2.2.2.2.1, (hb18.cell (World.block_lt_of_cell? _ _ hS17.2.2.2.2.2.1)).trans hS17.2.2.2.2.2.1, (hb18.cell (World.block_lt_of_cell? _ _ hS17.2.2.2.2.2.2.1)).trans hS17.2.2.2.2.2.2.1, (hb18.cell (World.block_lt_of_cell? _ _ hS17.2.2.2.2.2.2.2)).trans hS17.2.2.2.2.2.2.2⟩
    have HCp18 := Aside0.mk (Kd.C_below HCp17.out hb18)
    have HCq18 := Aside0.mk (Kd.C_below HCq17.out hb18)
    have HBS18 := Aside0.mk (below_step HBS17.out hb18)
    have HRD18 := Aside0.mk (Kd.R_below HRD17.out hb18)
    have lt18 : wk17.heap.size < wk18.heap.size := by rw [← hw18]; simp
    obtain ⟨bn18, hn18⟩ : ∃ b, wk17.heap.size = b := ⟨_, rfl⟩
    rw [hn18] at bN18 lt18 ⊢
    have hm18 : wk17.heap.size ≤ bn18 := by omega
    have ge18 : wd9.heap.size ≤ bn18 := by omega
    clear hn18 hw18
    refine hK.out _ _ hS18 (fun _ => ?_)
    clear hK K
    refine norm_ (a' := ?_) ?_ ?_
    rotate_left
    ·try simp only [Act.put, putAll, List.setIfInBounds_toArray, List.set_cons_zero, List.set_cons_succ]
     rfl
    refine last_ (i := 8) (N := none) #[true, true, true, true, true, true, true, true, true] rfl rfl (by kernel_rfl) (by decide) (fun K hK => ?_)
    rw [if_pos (by rfl)]
    obtain ⟨e0, e1, e2, e3⟩ := bN18.c4
    have fz := bN18.fz
    unfold Oper.wp
    go_simp
    refine hK.out _ _ ?_
    refine done_ (by kernel_rfl) ?_
    refine HK2.out bn18 Ad17 cd17 _ _ _ _ _ _ _ _ ge18 hcd17 ?_ ?_ ?_
    ·refine blk_put (cs := #[.int .u8 25, .int .u64 0, .string ⟨#[]⟩, .slice none 0 0]) ?_ 3 _ rfl
     refine blk_put (cs := #[.int .u8 25, .int .u64 0, .string ⟨#[]⟩, .slice none 0 0]) ?_ 2 _ rfl
     refine blk_put (cs := #[.int .u8 25, .int .u64 0, .string ⟨#[]⟩, .slice none 0 0]) ?_ 1 _ rfl
     refine blk_put (cs := #[.int .u8 0, .int .u64 0, .string ⟨#[]⟩, .slice none 0 0]) ?_ 0 _ rfl
     exact bN18
    ·have hR0 := Kd.R_mono (ok' := fun j => wd9.heap.size ≤ j ∧ j ≠ bn18) HRD18.out (fun j hj => by have h1 := hj.2.1; have h2 := hj.2.2.1; omega)
     exact Kd.R_lower (Kd.R_far (Kd.R_far (Kd.R_far (Kd.R_far hR0 (fun _ h => h.2) _) (fun _ h => h.2) _) (fun _ h => h.2) _) (fun _ h => h.2) _) (by omega)
    ·exact below_set (below_set (below_set (below_set HBS18.out ge18) ge18) ge18) ge18
   ·rw [if_pos (by rfl)]
    unfold Oper.wp
    go_simp
    have bN19 := Blk.new wd9 #[.int .u8 0, .int .u64 0, .string ⟨#[]⟩, .slice none 0 0] 25
    have hb19 := below_alloc (Below.refl wd9.heap.size wd9) (.cells #[.int .u8 0, .int .u64 0, .string ⟨#[]⟩, .slice none 0 0] 25)
    have gz19 := HBS.out.size
    obtain ⟨wk19, hw19⟩ : ∃ W, wd9.alloc (.cells #[.int .u8 0, .int .u64 0, .string ⟨#[]⟩, .slice none 0 0] 25) = W := ⟨_, rfl⟩
    rw [hw19] at bN19 hb19 ⊢
    have hS19 : wk19.cell? ⟨g, 0, none⟩ = some (.int .u8 p.f0) ∧ wk19.cell? ⟨g, 1, none⟩ = some (.int .u64 p.f1) ∧ wk19.cell? ⟨g, 2, none⟩ = some (.string p.f2) ∧ wk19.cell? ⟨g, 3, none⟩ = some (.slice Ap p.f3.length cp) ∧ wk19.cell? ⟨g, 4, none⟩ = some (.int .u8 q.f0) ∧ wk19.cell? ⟨g, 5, none⟩ = some (.int .u64 q.f1) ∧ wk19.cell? ⟨g, 6, none⟩ = some (.string q.f2) ∧ wk19.cell? ⟨g, 7, none⟩ = some (.slice Aq q.f3.length cq) := ⟨(hb19.cell (World.block_lt_of_cell? _ _ hS.1)).trans hS.1, (hb19.cell (World.block_lt_of_cell? _ _ hS.2.1)).trans hS.2.1, (hb19.cell (World.block_lt_of_cell? _ _ hS.2.2.1)).trans hS.2.2.1, (hb19.cell (World.block_lt_of_cell? _ _ hS.2.2.2.1)).trans hS.2.2.2.1, (hb19.cell (World.block_lt_of_cell? _ _ hS.2.2.2.2.1)).trans hS.2.2.2.2.1, (hb19.cell (World.block_lt_of_cell? _ _ hS.2.2.2.2.2.1)).trans hS.2.2.2.2.2.1, (hb19.cell (World.block_lt_of_cell? _ _ hS.2.2.2.2.2.2.1)).trans hS.2.2.2.2.2.2.1, (hb19.cell (World.block_lt_of_cell? _ _ hS.2.2.2.2.2.2.2)).trans hS.2.2.2.2.2.2.2⟩
    have HCp19 := Aside0.mk (Kd.C_below HCp.out hb19)
    have HCq19 := Aside0.mk (Kd.C_below HCq.out hb19)
    have HBS19 := Aside0.mk (below_step HBS.out hb19)
    have lt19 : wd9.heap.size < wk19.heap.size := by rw [← hw19]; simp
    obtain ⟨bn19, hn19⟩ : ∃ b, wd9.heap.size = b := ⟨_, rfl⟩
    rw [hn19] at bN19 lt19 ⊢
    have hm19 : wd9.heap.size ≤ bn19 := by omega
    have ge19 : wd9.heap.size ≤ bn19 := by omega
    clear hn19 hw19
    refine hK.out _ _ hS19 (fun _ => ?_)
    clear hK K
    refine norm_ (a' := ?_) ?_ ?_
    rotate_left
    ·try simp only [Act.put, putAll, List.setIfInBounds_toArray, List.set_cons_zero, List.set_cons_succ]
     rfl
    refine one_ (i := 6) (N := some 74) #[true, true, true, true, true, true, true, true, false] rfl rfl (by kernel_rfl) (by decide) (fun K hK => ?_)
    refine goes_ Try.func29 (by kernel_rfl) rfl #[.agg #[.int .u8 p.f0, .int .u64 p.f1, .string p.f2, .slice Ap p.f3.length cp], .agg #[.int .u8 q.f0, .int .u64 q.f1, .string q.f2, .slice Aq q.f3.length cq]] (by rfl) rfl rfl (by (try simp only [List.map_toArray, List.map_cons, List.map_nil]); first | done | rfl) ?_
    refine (rdesc29_any p q (by omega) (by omega) Ap Aq cp cq _ HCp19.out hlp HCq19.out hlq).mono ?_
    rintro e wk20 ⟨vd20, rfl, hRd20, hb20⟩
    obtain ⟨Ad20, cd20, rfl⟩ := Kd.R_slice hRd20
    have hcd20 := (Kd.R_reads' hRd20).2.1
    have HRD20 := Aside0.mk (Kd.R_bound hRd20)
    have sz20 := hb20.size
    have sl20 := HBS19.out.size
    refine ⟨_, rfl, ?_⟩
    have hS20 : wk20.cell? ⟨g, 0, none⟩ = some (.int .u8 p.f0) ∧ wk20.cell? ⟨g, 1, none⟩ = some (.int .u64 p.f1) ∧ wk20.cell? ⟨g, 2, none⟩ = some (.string p.f2) ∧ wk20.cell? ⟨g, 3, none⟩ = some (.slice Ap p.f3.length cp) ∧ wk20.cell? ⟨g, 4, none⟩ = some (.int .u8 q.f0) ∧ wk20.cell? ⟨g, 5, none⟩ = some (.int .u64 q.f1) ∧ wk20.cell? ⟨g, 6, none⟩ = some (.string q.f2) ∧ wk20.cell? ⟨g, 7, none⟩ = some (.slice Aq q.f3.length cq) := ⟨(hb20.cell (World.block_lt_of_cell? _ _ hS19.1)).trans hS19.1, (hb20.cell (World.block_lt_of_cell? _ _ hS19.2.1)).trans hS19.2.1, (hb20.cell (World.block_lt_of_cell? _ _ hS19.2.2.1)).trans hS19.2.2.1, (hb20.cell (World.block_lt_of_cell? _ _ hS19.2.2.2.1)).trans hS19.2.2.2.1, (hb20.cell (World.block_lt_of_cell? _ _ hS19.2.2.2.2.1)).trans hS19.2.2.2.2.1, (hb20.cell (World.block_lt_of_cell? _ _ hS19.2.2.2.2.2.1)).trans hS19.2.2.2.2.2.1, (hb20.cell (World.block_lt_of_cell? _ _ hS19.2.2.2.2.2.2.1)).trans hS19.2.2.2.2.2.2.1, (hb20.cell (World.block_lt_of_cell? _ _ hS19.2.2.2.2.2.2.2)).trans hS19.2.2.2.2.2.2.2⟩
    have HCp20 := Aside0.mk (Kd.C_below HCp19.out hb20)
    have HCq20 := Aside0.mk (Kd.C_below HCq19.out hb20)
    have HBS20 := Aside0.mk (below_step HBS19.out hb20)
    have bN20 := bN19.below hb20
    refine hK.out _ _ hS20 (fun _ => ?_)
    clear hK K
    refine norm_ (a' := ?_) ?_ ?_
    rotate_left
    ·try simp only [Act.put, putAll, List.setIfInBounds_toArray, List.set_cons_zero, List.set_cons_succ]
     rfl
    refine last_ (i := 8) (N := none) #[true, true, true, true, true, true, true, true, true] rfl rfl (by kernel_rfl) (by decide) (fun K hK => ?_)
    rw [if_pos (by rfl)]
    obtain ⟨e0, e1, e2, e3⟩ := bN20.c4
    have fz := bN20.fz
    unfold Oper.wp
    go_simp
    refine hK.out _ _ ?_
    refine done_ (by kernel_rfl) ?_
    refine HK2.out bn19 Ad20 cd20 _ _ _ _ _ _ _ _ ge19 hcd20 ?_ ?_ ?_
    ·refine blk_put (cs := #[.int .u8 25, .int .u64 0, .string ⟨#[]⟩, .slice none 0 0]) ?_ 3 _ rfl
     refine blk_put (cs := #[.int .u8 25, .int .u64 0, .string ⟨#[]⟩, .slice none 0 0]) ?_ 2 _ rfl
     refine blk_put (cs := #[.int .u8 25, .int .u64 0, .string ⟨#[]⟩, .slice none 0 0]) ?_ 1 _ rfl
     refine blk_put (cs := #[.int .u8 0, .int .u64 0, .string ⟨#[]⟩, .slice none 0 0]) ?_ 0 _ rfl
     exact bN20
    ·have hR0 := Kd.R_mono (ok' := fun j => wd9.heap.size ≤ j ∧ j ≠ bn19) HRD20.out (fun j hj => by have h1 := hj.2.1; have h2 := hj.2.2.1; omega)
     exact Kd.R_lower (Kd.R_far (Kd.R_far (Kd.R_far (Kd.R_far hR0 (fun _ h => h.2) _) (fun _ h => h.2) _) (fun _ h => h.2) _) (fun _ h => h.2) _) (by omega)
    ·exact below_set (below_set (below_set (below_set HBS20.out ge19) ge19) ge19) ge19
  ⟩
  clear hKK hce
  have HBS := Aside0.mk (Below.refl wd8.heap.size wd8)
  clear HB5 HR5 HRN BM
  refine pure_ (i := 0) (N := some 61) (v := ?_) (a' := ?_) #[true, false, false, false, false, false, false, false, false] rfl rfl (by kernel_rfl) (fun _ _ _ h => h) (Or.inl ⟨by rfl, ?_⟩) ?_ ?_
  rotate_left
  ·intro w'
   go_simp
   with_reducible rfl
  rotate_left
  ·simp only [Act.put, List.setIfInBounds_toArray, List.set_cons_zero, List.set_cons_succ, i64_w, i32_w]
   rfl
  refine pure_ (i := 1) (N := some 62) (v := ?_) (a' := ?_) #[true, true, false, false, false, false, false, false, false] rfl rfl (by kernel_rfl) (fun _ _ _ h => h) (Or.inl ⟨by rfl, ?_⟩) ?_ ?_
  rotate_left
  ·intro w'
   go_simp
   with_reducible rfl
  rotate_left
  ·simp only [Act.put, List.setIfInBounds_toArray, List.set_cons_zero, List.set_cons_succ, i64_w, i32_w]
   rfl
  refine take_ (i := 2) (N := some 63) (v := .agg #[.int .u8 p.f0, .int .u64 p.f1, .string p.f2, .slice Ap p.f3.length cp]) #[true, true, true, false, false, false, false, false, false] rfl rfl (by kernel_rfl) (fun _ _ _ h => h) (Or.inl ⟨by rfl, ?_⟩) hS rfl ?_
  ·rintro w' ⟨h0, h1, h2, h3, h4, h5, h6, h7⟩
   go_simp
  refine norm_ (a' := ?_) ?_ ?_
  rotate_left
  ·try simp only [Act.put, putAll, List.setIfInBounds_toArray, List.set_cons_zero, List.set_cons_succ]
   rfl
  refine pure_ (i := 3) (N := some 64) (v := ?_) (a' := ?_) #[true, true, true, true, false, false, false, false, false] rfl rfl (by kernel_rfl) (fun _ _ _ h => h) (Or.inl ⟨by rfl, ?_⟩) ?_ ?_
  rotate_left
  ·intro w'
   go_simp
   with_reducible rfl
  rotate_left
  ·simp only [Act.put, List.setIfInBounds_toArray, List.set_cons_zero, List.set_cons_succ, i64_w, i32_w]
   rfl
  refine pure_ (i := 4) (N := some 65) (v := ?_) (a' := ?_) #[true, true, true, true, true, false, false, false, false] rfl rfl (by kernel_rfl) (fun _ _ _ h => h) (Or.inl ⟨by rfl, ?_⟩) ?_ ?_
  rotate_left
  ·intro w'
   go_simp
   with_reducible rfl
  rotate_left
  ·simp only [Act.put, List.setIfInBounds_toArray, List.set_cons_zero, List.set_cons_succ, i64_w, i32_w]
   rfl
  refine take_ (i := 5) (N := some 66) (v := .agg #[.int .u8 q.f0, .int .u64 q.f1, .string q.f2, .slice Aq q.f3.length cq]) #[true, true, true, true, true, true, false, false, false] rfl rfl (by kernel_rfl) (fun _ _ _ h => h) (Or.inl ⟨by rfl, ?_⟩) hS rfl ?_
  ·rintro w' ⟨h0, h1, h2, h3, h4, h5, h6, h7⟩
   go_simp
  refine norm_ (a' := ?_) ?_ ?_
  rotate_left
  ·try simp only [Act.put, putAll, List.setIfInBounds_toArray, List.set_cons_zero, List.set_cons_succ]
   rfl
  refine two_ (i := 6) (j := 7) (Ni := some 67) (Nj := some 12) #[true, true, true, true, true, true, true, false, false] #[true, true, true, true, true, true, false, true, false] rfl rfl rfl rfl (by kernel_rfl) (by decide) (by decide) (fun K hK => ?_) (fun K hK => ?_)
  ·refine goes_ Try.func28 (by kernel_rfl) rfl #[.agg #[.int .u8 p.f0, .int .u64 p.f1, .string p.f2, .slice Ap p.f3.length cp], .agg #[.int .u8 q.f0, .int .u64 q.f1, .string q.f2, .slice Aq q.f3.length cq]] (by rfl) rfl rfl (by (try simp only [List.map_toArray, List.map_cons, List.map_nil]); first | done | rfl) ?_
   refine (desc28_any p q (by omega) Ap Aq cp cq _ HCp.out hlp HCq.out hlq).mono ?_
   rintro e wk21 ⟨vd21, rfl, hRd21, hb21⟩
   obtain ⟨Ad21, cd21, rfl⟩ := Kd.R_slice hRd21
   have hcd21 := (Kd.R_reads' hRd21).2.1
   have HRD21 := Aside0.mk (Kd.R_bound hRd21)
   have sz21 := hb21.size
   have sl21 := HBS.out.size
   refine ⟨_, rfl, ?_⟩
   have hS21 : wk21.cell? ⟨g, 0, none⟩ = some (.int .u8 p.f0) ∧ wk21.cell? ⟨g, 1, none⟩ = some (.int .u64 p.f1) ∧ wk21.cell? ⟨g, 2, none⟩ = some (.string p.f2) ∧ wk21.cell? ⟨g, 3, none⟩ = some (.slice Ap p.f3.length cp) ∧ wk21.cell? ⟨g, 4, none⟩ = some (.int .u8 q.f0) ∧ wk21.cell? ⟨g, 5, none⟩ = some (.int .u64 q.f1) ∧ wk21.cell? ⟨g, 6, none⟩ = some (.string q.f2) ∧ wk21.cell? ⟨g, 7, none⟩ = some (.slice Aq q.f3.length cq) := ⟨(hb21.cell (World.block_lt_of_cell? _ _ hS.1)).trans hS.1, (hb21.cell (World.block_lt_of_cell? _ _ hS.2.1)).trans hS.2.1, (hb21.cell (World.block_lt_of_cell? _ _ hS.2.2.1)).trans hS.2.2.1, (hb21.cell (World.block_lt_of_cell? _ _ hS.2.2.2.1)).trans hS.2.2.2.1, (hb21.cell (World.block_lt_of_cell? _ _ hS.2.2.2.2.1)).trans hS.2.2.2.2.1, (hb21.cell (World.block_lt_of_cell? _ _ hS.2.2.2.2.2.1)).trans hS.2.2.2.2.2.1, (hb21.cell (World.block_lt_of_cell? _ _ hS.2.2.2.2.2.2.1)).trans hS.2.2.2.2.2.2.1, (hb21.cell (World.block_lt_of_cell? _ _ hS.2.2.2.2.2.2.2)).trans hS.2.2.2.2.2.2.2⟩
   have HCp21 := Aside0.mk (Kd.C_below HCp.out hb21)
   have HCq21 := Aside0.mk (Kd.C_below HCq.out hb21)
   have HBS21 := Aside0.mk (below_step HBS.out hb21)
   refine hK.out _ _ hS21 (fun _ => ?_)
   clear hK K
   refine norm_ (a' := ?_) ?_ ?_
   rotate_left
   ·try simp only [Act.put, putAll, List.setIfInBounds_toArray, List.set_cons_zero, List.set_cons_succ]
    rfl
   refine one_ (i := 7) (N := some 12) #[true, true, true, true, true, true, true, true, false] rfl rfl (by kernel_rfl) (by decide) (fun K hK => ?_)
   rw [if_pos (by rfl)]
   unfold Oper.wp
   go_simp
   have bN22 := Blk.new wk21 #[.int .u8 0, .int .u64 0, .string ⟨#[]⟩, .slice none 0 0] 25
   have hb22 := below_alloc (Below.refl wk21.heap.size wk21) (.cells #[.int .u8 0, .int .u64 0, .string ⟨#[]⟩, .slice none 0 0] 25)
   have gz22 := HBS21.out.size
   obtain ⟨wk22, hw22⟩ : ∃ W, wk21.alloc (.cells #[.int .u8 0, .int .u64 0, .string ⟨#[]⟩, .slice none 0 0] 25) = W := ⟨_, rfl⟩
   rw [hw22] at bN22 hb22 ⊢
   have hS22 : wk22.cell? ⟨g, 0, none⟩ = some (.int .u8 p.f0) ∧ wk22.cell? ⟨g, 1, none⟩ = some (.int .u64 p.f1) ∧ wk22.cell? ⟨g, 2, none⟩ = some (.string p.f2) ∧ wk22.cell? ⟨g, 3, none⟩ = some (.slice Ap p.f3.length cp) ∧ wk22.cell? ⟨g, 4, none⟩ = some (.int .u8 q.f0) ∧ wk22.cell? ⟨g, 5, none⟩ = some (.int .u64 q.f1) ∧ wk22.cell? ⟨g, 6, none⟩ = some (.string q.f2) ∧ wk22.cell? ⟨g, 7, none⟩ = some (.slice Aq q.f3.length cq) := ⟨(hb22.cell (World.block_lt_of_cell? _ _ hS21.1)).trans hS21.1, (hb22.cell (World.block_lt_of_cell? _ _ hS21.2.1)).trans hS21.2.1, (hb22.cell (World.block_lt_of_cell? _ _ hS21.2.2.1)).trans hS21.2.2.1, (hb22.cell (World.block_lt_of_cell? _ _ hS21.2.2.2.1)).trans hS21.2.2.2.1, (hb22.cell (World.block_lt_of_cell? _ _ hS21.2.2.2.2.1)).trans hS21.2.2.2.2.1, (hb22.cell (World.block_lt_of_cell? _ _ hS21.2.2.2.2.2.1)).trans hS21.2.2.2.2.2.1, (hb22.cell (World.block_lt_of_cell? _ _ hS21.2.2.2.2.2.2.1)).trans hS21.2.2.2.2.2.2.1, (hb22.cell (World.block_lt_of_cell? _ _ hS21.2.2.2.2.2.2.2)).trans hS21.2.2.2.2.2.2.2⟩
   have HCp22 := Aside0.mk (Kd.C_below HCp21.out hb22)
   have HCq22 := Aside0.mk (Kd.C_below HCq21.out hb22)
   have HBS22 := Aside0.mk (below_step HBS21.out hb22)
   have HRD22 := Aside0.mk (Kd.R_below HRD21.out hb22)
   have lt22 : wk21.heap.size < wk22.heap.size := by rw [← hw22]; simp
   obtain ⟨bn22, hn22⟩ : ∃ b, wk21.heap.size = b := ⟨_, rfl⟩
   rw [hn22] at bN22 lt22 ⊢
   have hm22 : wk21.heap.size ≤ bn22 := by omega
   have ge22 : wd8.heap.size ≤ bn22 := by omega
   clear hn22 hw22
   refine hK.out _ _ hS22 (fun _ => ?_)
   clear hK K
   refine norm_ (a' := ?_) ?_ ?_
   rotate_left
   ·try simp only [Act.put, putAll, List.setIfInBounds_toArray, List.set_cons_zero, List.set_cons_succ]
    rfl
   refine last_ (i := 8) (N := none) #[true, true, true, true, true, true, true, true, true] rfl rfl (by kernel_rfl) (by decide) (fun K hK => ?_)
   rw [if_pos (by rfl)]
   obtain ⟨e0, e1, e2, e3⟩ := bN22.c4
   have fz := bN22.fz
   unfold Oper.wp
   go_simp
   refine hK.out _ _ ?_
   refine done_ (by kernel_rfl) ?_
   refine HK1.out bn22 Ad21 cd21 _ _ _ _ _ _ _ _ _ _ _ _ ge22 hcd21 ?_ ?_ ?_
   ·refine blk_put (cs := #[.int .u8 25, .int .u64 0, .string ⟨#[]⟩, .slice none 0 0]) ?_ 3 _ rfl
    refine blk_put (cs := #[.int .u8 25, .int .u64 0, .string ⟨#[]⟩, .slice none 0 0]) ?_ 2 _ rfl
    refine blk_put (cs := #[.int .u8 25, .int .u64 0, .string ⟨#[]⟩, .slice none 0 0]) ?_ 1 _ rfl
    refine blk_put (cs := #[.int .u8 0, .int .u64 0, .string ⟨#[]⟩, .slice none 0 0]) ?_ 0 _ rfl
    exact bN22
   ·have hR0 := Kd.R_mono (ok' := fun j => wd8.heap.size ≤ j ∧ j ≠ bn22) HRD22.out (fun j hj => by have h1 := hj.2.1; have h2 := hj.2.2.1; omega)
    exact Kd.R_lower (Kd.R_far (Kd.R_far (Kd.R_far (Kd.R_far hR0 (fun _ h => h.2) _) (fun _ h => h.2) _) (fun _ h => h.2) _) (fun _ h => h.2) _) (by omega)
   ·exact below_set (below_set (below_set (below_set HBS22.out ge22) ge22) ge22) ge22
  ·rw [if_pos (by rfl)]
   unfold Oper.wp
   go_simp
   have bN23 := Blk.new wd8 #[.int .u8 0, .int .u64 0, .string ⟨#[]⟩, .slice none 0 0] 25
   have hb23 := below_alloc (Below.refl wd8.heap.size wd8) (.cells #[.int .u8 0, .int .u64 0, .string ⟨#[]⟩, .slice none 0 0] 25)
   have gz23 := HBS.out.size
   obtain ⟨wk23, hw23⟩ : ∃ W, wd8.alloc (.cells #[.int .u8 0, .int .u64 0, .string ⟨#[]⟩, .slice none 0 0] 25) = W := ⟨_, rfl⟩
   rw [hw23] at bN23 hb23 ⊢
   have hS23 : wk23.cell? ⟨g, 0, none⟩ = some (.int .u8 p.f0) ∧ wk23.cell? ⟨g, 1, none⟩ = some (.int .u64 p.f1) ∧ wk23.cell? ⟨g, 2, none⟩ = some (.string p.f2) ∧ wk23.cell? ⟨g, 3, none⟩ = some (.slice Ap p.f3.length cp) ∧ wk23.cell? ⟨g, 4, none⟩ = some (.int .u8 q.f0) ∧ wk23.cell? ⟨g, 5, none⟩ = some (.int .u64 q.f1) ∧ wk23.cell? ⟨g, 6, none⟩ = some (.string q.f2) ∧ wk23.cell? ⟨g, 7, none⟩ = some (.slice Aq q.f3.length cq) := ⟨(hb23.cell (World.block_lt_of_cell? _ _ hS.1)).trans hS.1, (hb23.cell (World.block_lt_of_cell? _ _ hS.2.1)).trans hS.2.1, (hb23.cell (World.block_lt_of_cell? _ _ hS.2.2.1)).trans hS.2.2.1, (hb23.cell (World.block_lt_of_cell? _ _ hS.2.2.2.1)).trans hS.2.2.2.1, (hb23.cell (World.block_lt_of_cell? _ _ hS.2.2.2.2.1)).trans hS.2.2.2.2.1, (hb23.cell (World.block_lt_of_cell? _ _ hS.2.2.2.2.2.1)).trans hS.2.2.2.2.2.1, (hb23.cell (World.block_lt_of_cell? _ _ hS.2.2.2.2.2.2.1)).trans hS.2.2.2.2.2.2.1, (hb23.cell (World.block_lt_of_cell? _ _ hS.2.2.2.2.2.2.2)).trans hS.2.2.2.2.2.2.2⟩
   have HCp23 := Aside0.mk (Kd.C_below HCp.out hb23)
   have HCq23 := Aside0.mk (Kd.C_below HCq.out hb23)
   have HBS23 := Aside0.mk (below_step HBS.out hb23)
   have lt23 : wd8.heap.size < wk23.heap.size := by rw [← hw23]; simp
   obtain ⟨bn23, hn23⟩ : ∃ b, wd8.heap.size = b := ⟨_, rfl⟩
   rw [hn23] at bN23 lt23 ⊢
   have hm23 : wd8.heap.size ≤ bn23 := by omega
   have ge23 : wd8.heap.size ≤ bn23 := by omega
   clear hn23 hw23
   refine hK.out _ _ hS23 (fun _ => ?_)
   clear hK K
   refine norm_ (a' := ?_) ?_ ?_
   rotate_left
   ·try simp only [Act.put, putAll, List.setIfInBounds_toArray, List.set_cons_zero, List.set_cons_succ]
    rfl
   refine one_ (i := 6) (N := some 67) #[true, true, true, true, true, true, true, true, false] rfl rfl (by kernel_rfl) (by decide) (fun K hK => ?_)
   refine goes_ Try.func28 (by kernel_rfl) rfl #[.agg #[.int .u8 p.f0, .int .u64 p.f1, .string p.f2, .slice Ap p.f3.length cp], .agg #[.int .u8 q.f0, .int .u64 q.f1, .string q.f2, .slice Aq q.f3.length cq]] (by rfl) rfl rfl (by (try simp only [List.map_toArray, List.map_cons, List.map_nil]); first | done | rfl) ?_
   refine (desc28_any p q (by omega) Ap Aq cp cq _ HCp23.out hlp HCq23.out hlq).mono ?_
   rintro e wk24 ⟨vd24, rfl, hRd24, hb24⟩
   obtain ⟨Ad24, cd24, rfl⟩ := Kd.R_slice hRd24
   have hcd24 := (Kd.R_reads' hRd24).2.1
   have HRD24 := Aside0.mk (Kd.R_bound hRd24)
   have sz24 := hb24.size
   have sl24 := HBS23.out.size
   refine ⟨_, rfl, ?_⟩
   have hS24 : wk24.cell? ⟨g, 0, none⟩ = some (.int .u8 p.f0) ∧ wk24.cell? ⟨g, 1, none⟩ = some (.int .u64 p.f1) ∧ wk24.cell? ⟨g, 2, none⟩ = some (.string p.f2) ∧ wk24.cell? ⟨g, 3, none⟩ = some (.slice Ap p.f3.length cp) ∧ wk24.cell? ⟨g, 4, none⟩ = some (.int .u8 q.f0) ∧ wk24.cell? ⟨g, 5, none⟩ = some (.int .u64 q.f1) ∧ wk24.cell? ⟨g, 6, none⟩ = some (.string q.f2) ∧ wk24.cell? ⟨g, 7, none⟩ = some (.slice Aq q.f3.length cq) := ⟨(hb24.cell (World.block_lt_of_cell? _ _ hS23.1)).trans hS23.1, (hb24.cell (World.block_lt_of_cell? _ _ hS23.2.1)).trans hS23.2.1, (hb24.cell (World.block_lt_of_cell? _ _ hS23.2.2.1)).trans hS23.2.2.1, (hb24.cell (World.block_lt_of_cell? _ _ hS23.2.2.2.1)).trans hS23.2.2.2.1, (hb24.cell (World.block_lt_of_cell? _ _ hS23.2.2.2.2.1)).trans hS23.2.2.2.2.1, (hb24.cell (World.block_lt_of_cell? _ _ hS23.2.2.2.2.2.1)).trans hS23.2.2.2.2.2.1, (hb24.cell (World.block_lt_of_cell? _ _ hS23.2.2.2.2.2.2.1)).trans hS23.2.2.2.2.2.2.1, (hb24.cell (World.block_lt_of_cell? _ _ hS23.2.2.2.2.2.2.2)).trans hS23.2.2.2.2.2.2.2⟩
   have HCp24 := Aside0.mk (Kd.C_below HCp23.out hb24)
   have HCq24 := Aside0.mk (Kd.C_below HCq23.out hb24)
   have HBS24 := Aside0.mk (below_step HBS23.out hb24)
   have bN24 := bN23.below hb24
   refine hK.out _ _ hS24 (fun _ => ?_)
   clear hK K
   refine norm_ (a' := ?_) ?_ ?_
   rotate_left
   ·try simp only [Act.put, putAll, List.setIfInBounds_toArray, List.set_cons_zero, List.set_cons_succ]
    rfl
   refine last_ (i := 8) (N := none) #[true, true, true, true, true, true, true, true, true] rfl rfl (by kernel_rfl) (by decide) (fun K hK => ?_)
   rw [if_pos (by rfl)]
   obtain ⟨e0, e1, e2, e3⟩ := bN24.c4
   have fz := bN24.fz
   unfold Oper.wp
   go_simp
   refine hK.out _ _ ?_
   refine done_ (by kernel_rfl) ?_
   refine HK1.out bn23 Ad24 cd24 _ _ _ _ _ _ _ _ _ _ _ _ ge23 hcd24 ?_ ?_ ?_
   ·refine blk_put (cs := #[.int .u8 25, .int .u64 0, .string ⟨#[]⟩, .slice none 0 0]) ?_ 3 _ rfl
    refine blk_put (cs := #[.int .u8 25, .int .u64 0, .string ⟨#[]⟩, .slice none 0 0]) ?_ 2 _ rfl
    refine blk_put (cs := #[.int .u8 25, .int .u64 0, .string ⟨#[]⟩, .slice none 0 0]) ?_ 1 _ rfl
    refine blk_put (cs := #[.int .u8 0, .int .u64 0, .string ⟨#[]⟩, .slice none 0 0]) ?_ 0 _ rfl
    exact bN24
   ·have hR0 := Kd.R_mono (ok' := fun j => wd8.heap.size ≤ j ∧ j ≠ bn23) HRD24.out (fun j hj => by have h1 := hj.2.1; have h2 := hj.2.2.1; omega)
    exact Kd.R_lower (Kd.R_far (Kd.R_far (Kd.R_far (Kd.R_far hR0 (fun _ h => h.2) _) (fun _ h => h.2) _) (fun _ h => h.2) _) (fun _ h => h.2) _) (by omega)
   ·exact below_set (below_set (below_set (below_set HBS24.out ge23) ge23) ge23) ge23
 ·have hce : w7.heap.size = w7.heap.size := rfl
  have hpq : itemsN vNul + itemsN vTru ≤ 4000000000 := by decide
  replace hce : ((w7.alloc (.cells #[.int .u8 1, .int .u64 0, .string ⟨#[]⟩, .slice none 0 0, .int .u8 2, .int .u64 1, .string ⟨#[]⟩, .slice none 0 0] 25)).cell? ⟨w7.heap.size, 0, none⟩ = some (.int .u8 vNul.f0) ∧ (w7.alloc (.cells #[.int .u8 1, .int .u64 0, .string ⟨#[]⟩, .slice none 0 0, .int .u8 2, .int .u64 1, .string ⟨#[]⟩, .slice none 0 0] 25)).cell? ⟨w7.heap.size, 1, none⟩ = some (.int .u64 vNul.f1) ∧ (w7.alloc (.cells #[.int .u8 1, .int .u64 0, .string ⟨#[]⟩, .slice none 0 0, .int .u8 2, .int .u64 1, .string ⟨#[]⟩, .slice none 0 0] 25)).cell? ⟨w7.heap.size, 2, none⟩ = some (.string vNul.f2) ∧ (w7.alloc (.cells #[.int .u8 1, .int .u64 0, .string ⟨#[]⟩, .slice none 0 0, .int .u8 2, .int .u64 1, .string ⟨#[]⟩, .slice none 0 0] 25)).cell? ⟨w7.heap.size, 3, none⟩ = some (.slice none vNul.f3.length 0) ∧ (w7.alloc (.cells #[.int .u8 1, .int .u64 0, .string ⟨#[]⟩, .slice none 0 0, .int .u8 2, .int .u64 1, .string ⟨#[]⟩, .slice none 0 0] 25)).cell? ⟨w7.heap.size, 4, none⟩ = some (.int .u8 vTru.f0) ∧ (w7.alloc (.cells #[.int .u8 1, .int .u64 0, .string ⟨#[]⟩, .slice none 0 0, .int .u8 2, .int .u64 1, .string ⟨#[]⟩, .slice none 0 0] 25)).cell? ⟨w7.heap.size, 5, none⟩ = some (.int .u64 vTru.f1) ∧ (w7.alloc (.cells #[.int .u8 1, .int .u64 0, .string ⟨#[]⟩, .slice none 0 0, .int .u8 2, .int .u64 1, .string ⟨#[]⟩, .slice none 0 0] 25)).cell? ⟨w7.heap.size, 6, none⟩ = some (.string vTru.f2) ∧ (w7.alloc (.cells #[.int .u8 1, .int .u64 0, .string ⟨#[]⟩, .slice none 0 0, .int .u8 2, .int .u64 1, .string ⟨#[]⟩, .slice none 0 0] 25)).cell? ⟨w7.heap.size, 7, none⟩ = some (.slice none vTru.f3.length 0)) := ⟨(blk_cell bT 0).trans rfl, (blk_cell bT 1).trans rfl, (blk_cell bT 2).trans rfl, (blk_cell bT 3).trans rfl, (blk_cell bT 4).trans rfl, (blk_cell bT 5).trans rfl, (blk_cell bT 6).trans rfl, (blk_cell bT 7).trans rfl⟩
  have hCp : k25.C (w7.alloc (.cells #[.int .u8 1, .int .u64 0, .string ⟨#[]⟩, .slice none 0 0, .int .u8 2, .int .u64 1, .string ⟨#[]⟩, .slice none 0 0] 25)) none vNul.f3.length vNul.f3 := C_none _
  have hCq : k25.C (w7.alloc (.cells #[.int .u8 1, .int .u64 0, .string ⟨#[]⟩, .slice none 0 0, .int .u8 2, .int .u64 1, .string ⟨#[]⟩, .slice none 0 0] 25)) none vTru.f3.length vTru.f3 := C_none _
  have hlp : vNul.f3.length ≤ 0 := Nat.le_refl _
  have hlq : vTru.f3.length ≤ 0 := Nat.le_refl _
  generalize vNul = p at hpq hce hCp hlp
  generalize vTru = q at hpq hce hCq hlq
  clear bT
  go_wp2_with fail
  obtain ⟨w8, e8⟩ : ∃ W, w7.alloc (.cells #[.int .u8 1, .int .u64 0, .string ⟨#[]⟩, .slice none 0 0, .int .u8 2, .int .u64 1, .string ⟨#[]⟩, .slice none 0 0] 25) = W := ⟨_, rfl⟩
  rw [e8] at bM HB5 HR5 HRN hce hCp hCq ⊢
  have hs7 : w7.heap.size < w8.heap.size := by rw [← e8]; simp
  clear e8
  have BM := Aside0.mk bM
  have HCp := Aside0.mk hCp
  have HCq := Aside0.mk hCq
  clear bM hCp hCq
  obtain ⟨g, eg⟩ : ∃ g, w7.heap.size = g := ⟨_, rfl⟩
  rw [eg] at hce hs7 ⊢
  clear eg
  rename_i KK hKK
  refine start_ (n := 9) (S := fun w' => w'.cell? ⟨g, 0, none⟩ = some (.int .u8 p.f0) ∧ w'.cell? ⟨g, 1, none⟩ = some (.int .u64 p.f1) ∧ w'.cell? ⟨g, 2, none⟩ = some (.string p.f2) ∧ w'.cell? ⟨g, 3, none⟩ = some (.slice none p.f3.length 0) ∧ w'.cell? ⟨g, 4, none⟩ = some (.int .u8 q.f0) ∧ w'.cell? ⟨g, 5, none⟩ = some (.int .u64 q.f1) ∧ w'.cell? ⟨g, 6, none⟩ = some (.string q.f2) ∧ w'.cell? ⟨g, 7, none⟩ = some (.slice none q.f3.length 0)) (ds := [8]) #[false, false, false, false, false, false, false, false, false] (by kernel_rfl) rfl rfl ⟨hce.1, hce.2.1, hce.2.2.1, hce.2.2.2.1, hce.2.2.2.2.1, hce.2.2.2.2.2.1, hce.2.2.2.2.2.2.1, hce.2.2.2.2.2.2.2⟩ (fun hS => ?_)
  replace HCp := Aside0.mk (Kd.C_below HCp.out (below_drew (Below.refl _ _)))
  replace HCq := Aside0.mk (Kd.C_below HCq.out (below_drew (Below.refl _ _)))
  replace HB5 := Aside0.mk (below_drew HB5.out)
  replace HR5 := Aside0.mk (Kd.R_below HR5.out (below_drew (Below.refl _ _)))
  replace HRN := Aside0.mk (Kd.R_below HRN.out (below_drew (Below.refl _ _)))
  replace BM := Aside0.mk (BM.out.below (below_drew (Below.refl _ _)))
  generalize w8.drew = wd25 at HCp HCq HB5 HR5 HRN BM hS ⊢
  clear hce
  have hce := hS
  have hszHK1 := BM.out.lt
  have HK1 : Aside0 (∀ (bD : Nat) (AD : Option Addr) (cD : Nat) (u18 u19 u20 u57 u58 u61 u62 u63 u64 u65 u66 u67 : Value) (WbD : World), wd25.heap.size ≤ bD → 2 ≤ cD → Blk WbD bD #[.int .u8 25, .int .u64 0, .string ⟨#[]⟩, .slice AD 2 cD] 25 → k25.R 25 WbD wd25.heap.size (fun j => wd25.heap.size ≤ j ∧ j ≠ bD) (.slice AD 2 cD) [p, q] → Below wd25.heap.size wd25 WbD → KK { tmps := #[Value.int IntKind.u8 k, Value.int IntKind.u64 n, Value.string s, Value.slice A l.length c, undef, undef, undef, undef, Value.bool false, Value.slice A9 l.length c9, Value.pointer (some { block := b10, off := 0 }), Value.slice (some { block := g, off := 0 }) 2 2, .pointer (some ⟨bD, 0, none⟩), undef, Value.slice A l.length c, Value.bool false, Value.bool false, Value.string s, u18, u19, u20, undef, Value.slice A l.length c, Value.slice A9 l.length c9, Value.int IntKind.u8 k, Value.slice A9 l.length c9, Value.agg #[Value.int IntKind.u8 k, Value.int IntKind.u64 0, Value.string { data := #[] }, Value.slice A10 l.length c10], Value.int IntKind.u8 k, Value.int IntKind.u64 n, Value.agg #[Value.int IntKind.u8 k, Value.int IntKind.u64 n, Value.string { data := #[] }, Value.slice none 0 0], Value.int IntKind.u8 k, Value.int IntKind.u64 n, Value.agg #[Value.int IntKind.u8 k, Value.int IntKind.u64 n, Value.string { data := #[] }, Value.slice none 0 0], Value.bool true, Value.bool false, Value.bool false, Value.int IntKind.u8 k, Value.string s, Value.agg #[Value.int IntKind.u8 k, Value.int IntKind.u64 0, Value.string s, Value.slice none 0 0], Value.int IntKind.u8 k, Value.string s, Value.agg #[Value.int IntKind.u8 k, Value.int IntKind.u64 0, Value.string s, Value.slice none 0 0], Value.bool true, Value.bool false, Value.bool false, Value.bool false, Value.agg #[Value.int IntKind.u8 k, Value.int IntKind.u64 0, Value.string { data := #[] }, Value.slice A10 l.length c10], Value.int IntKind.u8 k, Value.slice A l.length c, Value.agg #[Value.int IntKind.u8 k, Value.int IntKind.u64 0, Value.string { data := #[] }, Value.slice Am l.length cm], Value.bool true, Value.bool false, Value.bool false, Value.agg #[Value.int IntKind.u8 1, Value.int IntKind.u64 0, Value.string { data := #[] }, Value.slice none 0 0], Value.agg #[Value.int IntKind.u8 2, Value.int IntKind.u64 1, Value.string { data := #[] }, Value.slice none 0 0], Value.slice (some { block := g, off := 0 }) 2 2, Value.slice A l.length c, u57, u58, undef, undef, u61, u62, u63, u64, u65, u66, u67, undef, undef, undef, undef, undef, undef, undef, undef, undef, undef, undef, undef, undef, undef, undef, undef, undef, undef, undef, undef, undef, undef, undef, undef, undef, undef, undef, undef, undef, undef, undef], defers := [] } WbD) := ⟨by
   intro bD AD cD u18 u19 u20 u57 u58 u61 u62 u63 u64 u65 u66 u67 WbD gebD hcbD BbD hRbD hBbD
   refine hKK _ _ ?_
   clear hKK
   have hce1 := hce
   replace hce : WbD.cell? ⟨g, 0, none⟩ = some (.int .u8 p.f0) ∧ WbD.cell? ⟨g, 1, none⟩ = some (.int .u64 p.f1) ∧ WbD.cell? ⟨g, 2, none⟩ = some (.string p.f2) ∧ WbD.cell? ⟨g, 3, none⟩ = some (.slice none p.f3.length 0) ∧ WbD.cell? ⟨g, 4, none⟩ = some (.int .u8 q.f0) ∧ WbD.cell? ⟨g, 5, none⟩ = some (.int .u64 q.f1) ∧ WbD.cell? ⟨g, 6, none⟩ = some (.string q.f2) ∧ WbD.cell? ⟨g, 7, none⟩ = some (.slice none q.f3.length 0) := ⟨(hBbD.cell (World.block_lt_of_cell? _ _ hce1.1)).trans hce1.1, (hBbD.cell (World.block_lt_of_cell? _ _ hce1.2.1)).trans hce1.2.1, (hBbD.cell (World.block_lt_of_cell? _ _ hce1.2.2.1)).trans hce1.2.2.1, (hBbD.cell (World.block_lt_of_cell? _ _ hce1.2.2.2.1)).trans hce1.2.2.2.1, (hBbD.cell (World.block_lt_of_cell? _ _ hce1.2.2.2.2.1)).trans hce1.2.2.2.2.1, (hBbD.cell (World.block_lt_of_cell? _ _ hce1.2.2.2.2.2.1)).trans hce1.2.2.2.2.2.1, (hBbD.cell (World.block_lt_of_cell? _ _ hce1.2.2.2.2.2.2.1)).trans hce1.2.2.2.2.2.2.1, (hBbD.cell (World.block_lt_of_cell? _ _ hce1.2.2.2.2.2.2.2)).trans hce1.2.2.2.2.2.2.2⟩
   clear hce1
   replace HCp := Aside0.mk (Kd.C_below HCp.out hBbD)
   replace HCq := Aside0.mk (Kd.C_below HCq.out hBbD)
   replace HB5 := Aside0.mk (below_step HB5.out hBbD)
   replace HR5 := Aside0.mk (Kd.R_below HR5.out hBbD)
   replace HRN := Aside0.mk (Kd.R_below HRN.out hBbD)
   replace BM := Aside0.mk (BM.out.below hBbD)
   have hs10 := BM.out.lt
   have hsz10 := hBbD.size
   have BD := Aside0.mk BbD
   have HRD := Aside0.mk hRbD
   have sD := BbD.lt
   clear BbD hRbD hBbD
   go_wp2_with fail
   rename_i KK hKK
   refine start_ (n := 9) (S := fun w' => w'.cell? ⟨g, 0, none⟩ = some (.int .u8 p.f0) ∧ w'.cell? ⟨g, 1, none⟩ = some (.int .u64 p.f1) ∧ w'.cell? ⟨g, 2, none⟩ = some (.string p.f2) ∧ w'.cell? ⟨g, 3, none⟩ = some (.slice none p.f3.length 0) ∧ w'.cell? ⟨g, 4, none⟩ = some (.int .u8 q.f0) ∧ w'.cell? ⟨g, 5, none⟩ = some (.int .u64 q.f1) ∧ w'.cell? ⟨g, 6, none⟩ = some (.string q.f2) ∧ w'.cell? ⟨g, 7, none⟩ = some (.slice none q.f3.length 0)) (ds := [8]) #[false, false, false, false, false, false, false, false, false] (by kernel_rfl) rfl rfl ⟨hce.1, hce.2.1, hce.2.2.1, hce.2.2.2.1, hce.2.2.2.2.1, hce.2.2.2.2.2.1, hce.2.2.2.2.2.2.1, hce.2.2.2.2.2.2.2⟩ (fun hS => ?_)
   replace HCp := Aside0.mk (Kd.C_below HCp.out (below_drew (Below.refl _ _)))
   replace HCq := Aside0.mk (Kd.C_below HCq.out (below_drew (Below.refl _ _)))
   replace HB5 := Aside0.mk (below_drew HB5.out)
   replace HR5 := Aside0.mk (Kd.R_below HR5.out (below_drew (Below.refl _ _)))
   replace HRN := Aside0.mk (Kd.R_below HRN.out (below_drew (Below.refl _ _)))
   replace HRD := Aside0.mk (Kd.R_below HRD.out (below_drew (Below.refl _ _)))
   replace BM := Aside0.mk (BM.out.below (below_drew (Below.refl _ _)))
   replace BD := Aside0.mk (BD.out.below (below_drew (Below.refl _ _)))
   generalize WbD.drew = wd26 at HCp HCq HB5 HR5 HRN HRD BM BD hS ⊢
   clear hce
   have hce := hS
   have hszHK2 := BM.out.lt
   have HK2 : Aside0 (∀ (bE : Nat) (AE : Option Addr) (cE : Nat) (u68 u69 u70 u71 u72 u73 u74 : Value) (WbE : World), wd26.heap.size ≤ bE → 2 ≤ cE → Blk WbE bE #[.int .u8 25, .int .u64 0, .string ⟨#[]⟩, .slice AE 2 cE] 25 → k25.R 25 WbE wd26.heap.size (fun j => wd26.heap.size ≤ j ∧ j ≠ bE) (.slice AE 2 cE) [p, q] → Below wd26.heap.size wd26 WbE → KK { tmps := #[Value.int IntKind.u8 k, Value.int IntKind.u64 n, Value.string s, Value.slice A l.length c, undef, undef, undef, undef, Value.bool false, Value.slice A9 l.length c9, Value.pointer (some { block := b10, off := 0 }), Value.slice (some { block := g, off := 0 }) 2 2, .pointer (some ⟨bD, 0, none⟩), .pointer (some ⟨bE, 0, none⟩), Value.slice A l.length c, Value.bool false, Value.bool false, Value.string s, u18, u19, u20, undef, Value.slice A l.length c, Value.slice A9 l.length c9, Value.int IntKind.u8 k, Value.slice A9 l.length c9, Value.agg #[Value.int IntKind.u8 k, Value.int IntKind.u64 0, Value.string { data := #[] }, Value.slice A10 l.length c10], Value.int IntKind.u8 k, Value.int IntKind.u64 n, Value.agg #[Value.int IntKind.u8 k, Value.int IntKind.u64 n, Value.string { data := #[] }, Value.slice none 0 0], Value.int IntKind.u8 k, Value.int IntKind.u64 n, Value.agg #[Value.int IntKind.u8 k, Value.int IntKind.u64 n, Value.string { data := #[] }, Value.slice none 0 0], Value.bool true, Value.bool false, Value.bool false, Value.int IntKind.u8 k, Value.string s, Value.agg #[Value.int IntKind.u8 k, Value.int IntKind.u64 0, Value.string s, Value.slice none 0 0], Value.int IntKind.u8 k, Value.string s, Value.agg #[Value.int IntKind.u8 k, Value.int IntKind.u64 0, Value.string s, Value.slice none 0 0], Value.bool true, Value.bool false, Value.bool false, Value.bool false, Value.agg #[Value.int IntKind.u8 k, Value.int IntKind.u64 0, Value.string { data := #[] }, Value.slice A10 l.length c10], Value.int IntKind.u8 k, Value.slice A l.length c, Value.agg #[Value.int IntKind.u8 k, Value.int IntKind.u64 0, Value.string { data := #[] }, Value.slice Am l.length cm], Value.bool true, Value.bool false, Value.bool false, Value.agg #[Value.int IntKind.u8 1, Value.int IntKind.u64 0, Value.string { data := #[] }, Value.slice none 0 0], Value.agg #[Value.int IntKind.u8 2, Value.int IntKind.u64 1, Value.string { data := #[] }, Value.slice none 0 0], Value.slice (some { block := g, off := 0 }) 2 2, Value.slice A l.length c, u57, u58, undef, undef, u61, u62, u63, u64, u65, u66, u67, u68, u69, u70, u71, u72, u73, u74, undef, undef, undef, undef, undef, undef, undef, undef, undef, undef, undef, undef, undef, undef, undef, undef, undef, undef, undef, undef, undef, undef, undef, undef], defers := [] } WbE) := ⟨by
    intro bE AE cE u68 u69 u70 u71 u72 u73 u74 WbE gebE hcbE BbE hRbE hBbE
    refine hKK _ _ ?_
    clear hKK
    replace HB5 := Aside0.mk (below_step HB5.out hBbE)
    replace HR5 := Aside0.mk (Kd.R_below HR5.out hBbE)
    replace HRN := Aside0.mk (Kd.R_below HRN.out hBbE)
    replace HRD := Aside0.mk (Kd.R_below HRD.out hBbE)
    replace BM := Aside0.mk (BM.out.below hBbE)
    replace BD := Aside0.mk (BD.out.below hBbE)
    have BE := Aside0.mk BbE
    have HRE := Aside0.mk hRbE
    clear BbE hRbE hBbE HCp HCq hce
    obtain ⟨p0, p1, p2, p3⟩ := BD.out.c4
    obtain ⟨r0, r1, r2, r3⟩ := BE.out.c4
    go_wp2_with fail
    have hrD := (Kd.R_reads' HRD.out).2
    have hrE := (Kd.R_reads' HRE.out).2
    refine (same19_any ⟨25, 0, ⟨#[]⟩, [p, q]⟩ ⟨25, 0, ⟨#[]⟩, [p, q]⟩ AD AE cD cE _ hrD.2 hrD.1 (by simp only [itemsN, itemsL]; omega) hrE.2 hrE.1).mono ?_
    rintro e wF ⟨he, hbF⟩
    rw [veq_refl] at he
    subst he
    have k0 := BM.out.below hbF
    have k1 := BD.out.below hbF
    have k2 := BE.out.below hbF
    replace HB5 := Aside0.mk (below_step HB5.out hbF)
    replace HR5 := Aside0.mk (Kd.R_below HR5.out hbF)
    replace HRN := Aside0.mk (Kd.R_below HRN.out hbF)
    replace HRD := Aside0.mk (Kd.R_below HRD.out hbF)
    replace HRE := Aside0.mk (Kd.R_below HRE.out hbF)
    clear p0 p1 p2 p3 r0 r1 r2 r3 hrD hrE hbF BM BD BE
    go_wp2_with fail
    refine (turn30_any w w1.heap.size _ _ c9 l _ HR5.out hNL hc9).mono ?_
    rintro e wT ⟨rfl, hT⟩
    have n0 : Blk wT b10 #[.int .u8 k, .int .u64 0, .string ⟨#[]⟩, .slice A10 l.length c10] 25 := (hT.off b10 (fun hk => by have := hk.1; omega)).trans k0
    have n1 : Blk wT bD #[.int .u8 25, .int .u64 0, .string ⟨#[]⟩, .slice AD 2 cD] 25 := (hT.off bD (fun hk => by have := hk.1; omega)).trans k1
    have n2 : Blk wT bE #[.int .u8 25, .int .u64 0, .string ⟨#[]⟩, .slice AE 2 cE] 25 := (hT.off bE (fun hk => by have := hk.1; omega)).trans k2
    have HB := Aside0.mk (HB5.out.trans (hT.below (fun k hk => by have := hk.2.1; omega)))
    have HX := Aside0.mk (Kd.C_below HA0.out HB.out)
    have HM := Aside0.mk (Kd.R_reads' (Kd.R_move HRN.out (fun k hk => hT.off k (fun ho => by have := ho.1; omega)))).2.2
    have HD := Aside0.mk (Kd.R_reads' (Kd.R_move HRD.out (fun k hk => hT.off k (fun ho => by have := ho.1; have := hk.1; omega)))).2
    have HE := Aside0.mk (Kd.R_reads' (Kd.R_move HRE.out (fun k hk => hT.off k (fun ho => by have := ho.1; have := hk.1; omega)))).2
    have hcD := HD.out.1
    have hcE := HE.out.1
    replace HD := Aside0.mk HD.out.2
    replace HE := Aside0.mk HE.out.2
    clear k0 k1 k2 hT HB5 HR5 HRN HRD HRE
    go_wp2_with fail
    refine start_ (n := 19) (S := fun w' => Blk w' b10 #[.int .u8 k, .int .u64 0, .string ⟨#[]⟩, .slice A10 l.length c10] 25 ∧ Blk w' bD #[.int .u8 25, .int .u64 0, .string ⟨#[]⟩, .slice AD 2 cD] 25 ∧ Blk w' bE #[.int .u8 25, .int .u64 0, .string ⟨#[]⟩, .slice AE 2 cE] 25) (ds := []) #[false, false, false, false, false, false, false, false, false, false, false, false, false, false, false, false, false, false, false] (by kernel_rfl) rfl rfl ⟨n0, n1, n2⟩ (fun hS => ?_)
    replace HX := Aside0.mk (Kd.C_below HX.out (below_drew (Below.refl _ _)))
    replace HM := Aside0.mk (Kd.C_below HM.out (below_drew (Below.refl _ _)))
    replace HD := Aside0.mk (Kd.C_below HD.out (below_drew (Below.refl _ _)))
    replace HE := Aside0.mk (Kd.C_below HE.out (below_drew (Below.refl _ _)))
    replace HB := Aside0.mk (below_drew HB.out)
    generalize wT.drew = wd27 at HX HM HD HE HB hS ⊢
    clear n0 n1 n2
    refine take_ (i := 0) (N := some 81) (v := .agg #[.int .u8 k, .int .u64 0, .string ⟨#[]⟩, .slice A10 l.length c10]) #[true, false, false, false, false, false, false, false, false, false, false, false, false, false, false, false, false, false, false] rfl rfl (by kernel_rfl) (fun _ _ _ h => h) (Or.inl ⟨by rfl, ?_⟩) hS rfl ?_
    ·rintro w' ⟨h0, h1, h2⟩
     obtain ⟨e0, e1, e2, e3⟩ := h0.c4
     go_simp
    refine norm_ (a' := ?_) ?_ ?_
    rotate_left
    ·try simp only [Act.put, putAll, List.setIfInBounds_toArray, List.set_cons_zero, List.set_cons_succ]
     rfl
    refine pure_ (i := 1) (N := some 82) (v := ?_) (a' := ?_) #[true, true, false, false, false, false, false, false, false, false, false, false, false, false, false, false, false, false, false] rfl rfl (by kernel_rfl) (fun _ _ _ h => h) (Or.inl ⟨by rfl, ?_⟩) ?_ ?_
    rotate_left
    ·intro w'
     go_simp
     with_reducible rfl
    rotate_left
    ·simp only [Act.put, List.setIfInBounds_toArray, List.set_cons_zero, List.set_cons_succ, i64_w, i32_w]
     rfl
    refine pure_ (i := 2) (N := some 83) (v := ?_) (a' := ?_) #[true, true, true, false, false, false, false, false, false, false, false, false, false, false, false, false, false, false, false] rfl rfl (by kernel_rfl) (fun _ _ _ h => h) (Or.inl ⟨by rfl, ?_⟩) ?_ ?_
    rotate_left
    ·intro w'
     go_simp
     with_reducible rfl
    rotate_left
    ·simp only [Act.put, List.setIfInBounds_toArray, List.set_cons_zero, List.set_cons_succ, i64_w, i32_w]
     rfl
    refine one_ (i := 3) (N := some 84) #[true, true, true, true, false, false, false, false, false, false, false, false, false, false, false, false, false, false, false] rfl rfl (by kernel_rfl) (by decide) (fun K hK => ?_)
    refine goes_ Try.func25 (by kernel_rfl) rfl #[.int .u8 k, .slice A l.length c] (by rfl) rfl rfl (by (try simp only [List.map_toArray, List.map_cons, List.map_nil]); first | done | rfl) ?_
    refine (rmany25_any k l hNL A c _ HX.out hc0).mono ?_
    rintro e wk28 ⟨vm28, rfl, hRm28, hb28⟩
    obtain ⟨Am, cm, rfl⟩ := Kd.R_slice hRm28
    have hcm := (Kd.R_reads' hRm28).2.1
    have HCm28 := Aside0.mk (Kd.R_reads' hRm28).2.2
    refine ⟨_, rfl, ?_⟩
    have hS28 : Blk wk28 b10 #[.int .u8 k, .int .u64 0, .string ⟨#[]⟩, .slice A10 l.length c10] 25 ∧ Blk wk28 bD #[.int .u8 25, .int .u64 0, .string ⟨#[]⟩, .slice AD 2 cD] 25 ∧ Blk wk28 bE #[.int .u8 25, .int .u64 0, .string ⟨#[]⟩, .slice AE 2 cE] 25 := ⟨hS.1.below hb28, hS.2.1.below hb28, hS.2.2.below hb28⟩
    have HX28 := Aside0.mk (Kd.C_below HX.out hb28)
    have HM28 := Aside0.mk (Kd.C_below HM.out hb28)
    have HD28 := Aside0.mk (Kd.C_below HD.out hb28)
    have HE28 := Aside0.mk (Kd.C_below HE.out hb28)
    have HB28 := Aside0.mk (below_step HB.out hb28)
    refine hK.out _ _ hS28 (fun _ => ?_)
    clear hK K hb28
    refine norm_ (a' := ?_) ?_ ?_
    rotate_left
    ·try simp only [Act.put, putAll, List.setIfInBounds_toArray, List.set_cons_zero, List.set_cons_succ]
     rfl
    refine one_ (i := 4) (N := some 85) #[true, true, true, true, true, false, false, false, false, false, false, false, false, false, false, false, false, false, false] rfl rfl (by kernel_rfl) (by decide) (fun K hK => ?_)
    refine goes_ Try.func19 (by kernel_rfl) rfl #[.agg #[.int .u8 k, .int .u64 0, .string ⟨#[]⟩, .slice A10 l.length c10], .agg #[.int .u8 k, .int .u64 0, .string ⟨#[]⟩, .slice Am l.length cm]] (by rfl) rfl rfl (by (try simp only [List.map_toArray, List.map_cons, List.map_nil]); first | done | rfl) ?_
    refine (same19_any ⟨k, 0, ⟨#[]⟩, l⟩ ⟨k, 0, ⟨#[]⟩, l⟩ A10 Am c10 cm _ HM28.out hc10 (by rw [itemsN_eq]; show itemsL l + 1 ≤ _; omega) HCm28.out hcm).mono ?_
    rintro e wk29 ⟨he, hb29⟩
    rw [veq_refl] at he
    subst he
    refine ⟨_, rfl, ?_⟩
    have hS29 : Blk wk29 b10 #[.int .u8 k, .int .u64 0, .string ⟨#[]⟩, .slice A10 l.length c10] 25 ∧ Blk wk29 bD #[.int .u8 25, .int .u64 0, .string ⟨#[]⟩, .slice AD 2 cD] 25 ∧ Blk wk29 bE #[.int .u8 25, .int .u64 0, .string ⟨#[]⟩, .slice AE 2 cE] 25 := ⟨hS28.1.below hb29, hS28.2.1.below hb29, hS28.2.2.below hb29⟩
    have HX29 := Aside0.mk (Kd.C_below HX28.out hb29)
    have HM29 := Aside0.mk (Kd.C_below HM28.out hb29)
    have HD29 := Aside0.mk (Kd.C_below HD28.out hb29)
    have HE29 := Aside0.mk (Kd.C_below HE28.out hb29)
    have HB29 := Aside0.mk (below_step HB28.out hb29)
    have HCm29 := Aside0.mk (Kd.C_below HCm28.out hb29)
    refine hK.out _ _ hS29 (fun _ => ?_)
    clear hK K hb29 hS28
    refine norm_ (a' := ?_) ?_ ?_
    rotate_left
    ·try simp only [Act.put, putAll, List.setIfInBounds_toArray, List.set_cons_zero, List.set_cons_succ]
     rfl
    refine pure_ (i := 5) (N := some 86) (v := ?_) (a' := ?_) #[true, true, true, true, true, true, false, false, false, false, false, false, false, false, false, false, false, false, false] rfl rfl (by kernel_rfl) (fun _ _ _ h => h) (Or.inl ⟨by rfl, ?_⟩) ?_ ?_
    rotate_left
    ·intro w'
     go_simp
     with_reducible rfl
    rotate_left
    ·simp only [Act.put, List.setIfInBounds_toArray, List.set_cons_zero, List.set_cons_succ, i64_w, i32_w]
     rfl
    refine take_ (i := 6) (N := some 87) (v := .agg #[.int .u8 25, .int .u64 0, .string ⟨#[]⟩, .slice AD 2 cD]) #[true, true, true, true, true, true, true, false, false, false, false, false, false, false, false, false, false, false, false] rfl rfl (by kernel_rfl) (fun _ _ _ h => h) (Or.inl ⟨by rfl, ?_⟩) hS29 rfl ?_
    ·rintro w' ⟨h0, h1, h2⟩
     obtain ⟨e0, e1, e2, e3⟩ := h1.c4
     go_simp
    refine norm_ (a' := ?_) ?_ ?_
    rotate_left
    ·try simp only [Act.put, putAll, List.setIfInBounds_toArray, List.set_cons_zero, List.set_cons_succ]
     rfl
    refine take_ (i := 7) (N := some 88) (v := .agg #[.int .u8 25, .int .u64 0, .string ⟨#[]⟩, .slice AE 2 cE]) #[true, true, true, true, true, true, true, true, false, false, false, false, false, false, false, false, false, false, false] rfl rfl (by kernel_rfl) (fun _ _ _ h => h) (Or.inl ⟨by rfl, ?_⟩) hS29 rfl ?_
    ·rintro w' ⟨h0, h1, h2⟩
     obtain ⟨e0, e1, e2, e3⟩ := h2.c4
     go_simp
    refine norm_ (a' := ?_) ?_ ?_
    rotate_left
    ·try simp only [Act.put, putAll, List.setIfInBounds_toArray, List.set_cons_zero, List.set_cons_succ]
     rfl
    refine one_ (i := 8) (N := some 89) #[true, true, true, true, true, true, true, true, true, false, false, false, false, false, false, false, false, false, false] rfl rfl (by kernel_rfl) (by decide) (fun K hK => ?_)
    refine goes_ Try.func19 (by kernel_rfl) rfl #[.agg #[.int .u8 25, .int .u64 0, .string ⟨#[]⟩, .slice AD 2 cD], .agg #[.int .u8 25, .int .u64 0, .string ⟨#[]⟩, .slice AE 2 cE]] (by rfl) rfl rfl (by (try simp only [List.map_toArray, List.map_cons, List.map_nil]); first | done | rfl) ?_
    refine (same19_any ⟨25, 0, ⟨#[]⟩, [p, q]⟩ ⟨25, 0, ⟨#[]⟩, [p, q]⟩ AD AE cD cE _ HD29.out hcD (by simp only [itemsN, itemsL]; omega) HE29.out hcE).mono ?_
    rintro e wk30 ⟨he, hb30⟩
    rw [veq_refl] at he
    subst he
    refine ⟨_, rfl, ?_⟩
    have hS30 : Blk wk30 b10 #[.int .u8 k, .int .u64 0, .string ⟨#[]⟩, .slice A10 l.length c10] 25 ∧ Blk wk30 bD #[.int .u8 25, .int .u64 0, .string ⟨#[]⟩, .slice AD 2 cD] 25 ∧ Blk wk30 bE #[.int .u8 25, .int .u64 0, .string ⟨#[]⟩, .slice AE 2 cE] 25 := ⟨hS29.1.below hb30, hS29.2.1.below hb30, hS29.2.2.below hb30⟩
    have HX30 := Aside0.mk (Kd.C_below HX29.out hb30)
    have HM30 := Aside0.mk (Kd.C_below HM29.out hb30)
    have HD30 := Aside0.mk (Kd.C_below HD29.out hb30)
    have HE30 := Aside0.mk (Kd.C_below HE29.out hb30)
    have HB30 := Aside0.mk (below_step HB29.out hb30)
    have HCm30 := Aside0.mk (Kd.C_below HCm29.out hb30)
    refine hK.out _ _ hS30 (fun _ => ?_)
    clear hK K hb30 hS29
    refine norm_ (a' := ?_) ?_ ?_
    rotate_left
    ·try simp only [Act.put, putAll, List.setIfInBounds_toArray, List.set_cons_zero, List.set_cons_succ]
     rfl
    refine pure_ (i := 9) (N := some 90) (v := ?_) (a' := ?_) #[true, true, true, true, true, true, true, true, true, true, false, false, false, false, false, false, false, false, false] rfl rfl (by kernel_rfl) (fun _ _ _ h => h) (Or.inl ⟨by rfl, ?_⟩) ?_ ?_
    rotate_left
    ·intro w'
     go_simp
     with_reducible rfl
    rotate_left
    ·simp only [Act.put, List.setIfInBounds_toArray, List.set_cons_zero, List.set_cons_succ, i64_w, i32_w]
     rfl
    refine pure_ (i := 10) (N := some 91) (v := ?_) (a' := ?_) #[true, true, true, true, true, true, true, true, true, true, true, false, false, false, false, false, false, false, false] rfl rfl (by kernel_rfl) (fun _ _ _ h => h) (Or.inl ⟨by rfl, ?_⟩) ?_ ?_
    rotate_left
    ·intro w'
     go_simp
     with_reducible rfl
    rotate_left
    ·simp only [Act.put, List.setIfInBounds_toArray, List.set_cons_zero, List.set_cons_succ, i64_w, i32_w]
     rfl
    refine pure_ (i := 12) (N := some 93) (v := ?_) (a' := ?_) #[true, true, true, true, true, true, true, true, true, true, true, false, true, false, false, false, false, false, false] rfl rfl (by kernel_rfl) (fun _ _ _ h => h) (Or.inl ⟨by rfl, ?_⟩) ?_ ?_
    rotate_left
    ·intro w'
     go_simp
     with_reducible rfl
    rotate_left
    ·simp only [Act.put, List.setIfInBounds_toArray, List.set_cons_zero, List.set_cons_succ, i64_w, i32_w]
     rfl
    refine one_ (i := 11) (N := some 92) #[true, true, true, true, true, true, true, true, true, true, true, true, true, false, false, false, false, false, false] rfl rfl (by kernel_rfl) (by decide) (fun K hK => ?_)
    refine goes_ Try.func27 (by kernel_rfl) rfl #[.bool false] (by rfl) rfl rfl (by (try simp only [List.map_toArray, List.map_cons, List.map_nil]); first | done | rfl) ?_
    refine (bool27_any false _).mono ?_
    rintro e wk31 ⟨rfl, hb31⟩
    refine ⟨_, rfl, ?_⟩
    have hS31 : Blk wk31 b10 #[.int .u8 k, .int .u64 0, .string ⟨#[]⟩, .slice A10 l.length c10] 25 ∧ Blk wk31 bD #[.int .u8 25, .int .u64 0, .string ⟨#[]⟩, .slice AD 2 cD] 25 ∧ Blk wk31 bE #[.int .u8 25, .int .u64 0, .string ⟨#[]⟩, .slice AE 2 cE] 25 := ⟨hS30.1.below hb31, hS30.2.1.below hb31, hS30.2.2.below hb31⟩
    have HX31 := Aside0.mk (Kd.C_below HX30.out hb31)
    have HM31 := Aside0.mk (Kd.C_below HM30.out hb31)
    have HD31 := Aside0.mk (Kd.C_below HD30.out hb31)
    have HE31 := Aside0.mk (Kd.C_below HE30.out hb31)
    have HB31 := Aside0.mk (below_step HB30.out hb31)
    have HCm31 := Aside0.mk (Kd.C_below HCm30.out hb31)
    refine hK.out _ _ hS31 (fun _ => ?_)
    clear hK K hb31 hS30
    refine norm_ (a' := ?_) ?_ ?_
    rotate_left
    ·try simp only [Act.put, putAll, List.setIfInBounds_toArray, List.set_cons_zero, List.set_cons_succ]
     rfl
    refine one_ (i := 13) (N := some 94) #[true, true, true, true, true, true, true, true, true, true, true, true, true, true, false, false, false, false, false] rfl rfl (by kernel_rfl) (by decide) (fun K hK => ?_)
    refine goes_ Try.func22 (by kernel_rfl) rfl #[.agg #[.int .u8 2, .int .u64 0, .string ⟨#[]⟩, .slice none 0 0], .agg #[.int .u8 2, .int .u64 0, .string ⟨#[]⟩, .slice none 0 0]] (by rfl) rfl rfl (by (try simp only [List.map_toArray, List.map_cons, List.map_nil]); first | done | rfl) ?_
    refine (same_any ⟨2, 0, ⟨#[]⟩, []⟩ ⟨2, 0, ⟨#[]⟩, []⟩ none none 0 0 _ (C_none _) (Nat.le_refl _) (C_none _) (Nat.le_refl _)).mono ?_
    rintro e wk32 ⟨he, hb32⟩
    rw [veq_refl] at he
    subst he
    refine ⟨_, rfl, ?_⟩
    have hS32 : Blk wk32 b10 #[.int .u8 k, .int .u64 0, .string ⟨#[]⟩, .slice A10 l.length c10] 25 ∧ Blk wk32 bD #[.int .u8 25, .int .u64 0, .string ⟨#[]⟩, .slice AD 2 cD] 25 ∧ Blk wk32 bE #[.int .u8 25, .int .u64 0, .string ⟨#[]⟩, .slice AE 2 cE] 25 := ⟨hS31.1.below hb32, hS31.2.1.below hb32, hS31.2.2.below hb32⟩
    have HX32 := Aside0.mk (Kd.C_below HX31.out hb32)
    have HM32 := Aside0.mk (Kd.C_below HM31.out hb32)
    have HD32 := Aside0.mk (Kd.C_below HD31.out hb32)
    have HE32 := Aside0.mk (Kd.C_below HE31.out hb32)
    have HB32 := Aside0.mk (below_step HB31.out hb32)
    have HCm32 := Aside0.mk (Kd.C_below HCm31.out hb32)
    refine hK.out _ _ hS32 (fun _ => ?_)
    clear hK K hb32 hS31
    refine norm_ (a' := ?_) ?_ ?_
    rotate_left
    ·try simp only [Act.put, putAll, List.setIfInBounds_toArray, List.set_cons_zero, List.set_cons_succ]
     rfl
    refine pure_ (i := 14) (N := some 95) (v := ?_) (a' := ?_) #[true, true, true, true, true, true, true, true, true, true, true, true, true, true, true, false, false, false, false] rfl rfl (by kernel_rfl) (fun _ _ _ h => h) (Or.inl ⟨by rfl, ?_⟩) ?_ ?_
    rotate_left
    ·intro w'
     go_simp
     with_reducible rfl
    rotate_left
    ·simp only [Act.put, List.setIfInBounds_toArray, List.set_cons_zero, List.set_cons_succ, i64_w, i32_w]
     rfl
    refine pure_ (i := 15) (N := some 96) (v := ?_) (a' := ?_) #[true, true, true, true, true, true, true, true, true, true, true, true, true, true, true, true, false, false, false] rfl rfl (by kernel_rfl) (fun _ _ _ h => h) (Or.inl ⟨by rfl, ?_⟩) ?_ ?_
    rotate_left
    ·intro w'
     go_simp
     with_reducible rfl
    rotate_left
    ·simp only [Act.put, List.setIfInBounds_toArray, List.set_cons_zero, List.set_cons_succ, i64_w, i32_w]
     rfl
    refine one_ (i := 16) (N := some 97) #[true, true, true, true, true, true, true, true, true, true, true, true, true, true, true, true, true, false, false] rfl rfl (by kernel_rfl) (by decide) (fun K hK => ?_)
    refine goes_ Try.func15 (by kernel_rfl) rfl #[] (by rfl) rfl rfl (by (try simp only [List.map_toArray, List.map_cons, List.map_nil]); first | done | rfl) ?_
    refine (works15_any _).mono ?_
    rintro e wk33 ⟨rfl, hb33⟩
    refine ⟨_, rfl, ?_⟩
    have hS33 : Blk wk33 b10 #[.int .u8 k, .int .u64 0, .string ⟨#[]⟩, .slice A10 l.length c10] 25 ∧ Blk wk33 bD #[.int .u8 25, .int .u64 0, .string ⟨#[]⟩, .slice AD 2 cD] 25 ∧ Blk wk33 bE #[.int .u8 25, .int .u64 0, .string ⟨#[]⟩, .slice AE 2 cE] 25 := ⟨hS32.1.below hb33, hS32.2.1.below hb33, hS32.2.2.below hb33⟩
    have HX33 := Aside0.mk (Kd.C_below HX32.out hb33)
    have HM33 := Aside0.mk (Kd.C_below HM32.out hb33)
    have HD33 := Aside0.mk (Kd.C_below HD32.out hb33)
    have HE33 := Aside0.mk (Kd.C_below HE32.out hb33)
    have HB33 := Aside0.mk (below_step HB32.out hb33)
    have HCm33 := Aside0.mk (Kd.C_below HCm32.out hb33)
    refine hK.out _ _ hS33 (fun _ => ?_)
    clear hK K hb33 hS32
    refine norm_ (a' := ?_) ?_ ?_
    rotate_left
    ·try simp only [Act.put, putAll, List.setIfInBounds_toArray, List.set_cons_zero, List.set_cons_succ]
     rfl
    refine pure_ (i := 17) (N := some 98) (v := ?_) (a' := ?_) #[true, true, true, true, true, true, true, true, true, true, true, true, true, true, true, true, true, true, false] rfl rfl (by kernel_rfl) (fun _ _ _ h => h) (Or.inl ⟨by rfl, ?_⟩) ?_ ?_
    rotate_left
    ·intro w'
     go_simp
     with_reducible rfl
    rotate_left
    ·simp only [Act.put, List.setIfInBounds_toArray, List.set_cons_zero, List.set_cons_succ, i64_w, i32_w]
     rfl
    refine pure_ (i := 18) (N := some 8) (v := ?_) (a' := ?_) #[true, true, true, true, true, true, true, true, true, true, true, true, true, true, true, true, true, true, true] rfl rfl (by kernel_rfl) (fun _ _ _ h => h) (Or.inl ⟨by rfl, ?_⟩) ?_ ?_
    rotate_left
    ·intro w'
     go_simp
     with_reducible rfl
    rotate_left
    ·simp only [Act.put, List.setIfInBounds_toArray, List.set_cons_zero, List.set_cons_succ, i64_w, i32_w]
     rfl
    refine done_ (by kernel_rfl) ?_
    go_wp2_with fail
    go_ret
    exact ⟨rfl, HB33.out⟩
   ⟩
   clear hKK hce
   have HBS := Aside0.mk (Below.refl wd26.heap.size wd26)
   clear HB5 HR5 HRN HRD BM BD
   refine pure_ (i := 0) (N := some 68) (v := ?_) (a' := ?_) #[true, false, false, false, false, false, false, false, false] rfl rfl (by kernel_rfl) (fun _ _ _ h => h) (Or.inl ⟨by rfl, ?_⟩) ?_ ?_
   rotate_left
   ·intro w'
    go_simp
    with_reducible rfl
   rotate_left
   ·simp only [Act.put, List.setIfInBounds_toArray, List.set_cons_zero, List.set_cons_succ, i64_w, i32_w]
    rfl
   refine pure_ (i := 1) (N := some 69) (v := ?_) (a' := ?_) #[true, true, false, false, false, false, false, false, false] rfl rfl (by kernel_rfl) (fun _ _ _ h => h) (Or.inl ⟨by rfl, ?_⟩) ?_ ?_
   rotate_left
   ·intro w'
    go_simp
    with_reducible rfl
   rotate_left
   ·simp only [Act.put, List.setIfInBounds_toArray, List.set_cons_zero, List.set_cons_succ, i64_w, i32_w]
    rfl
   refine take_ (i := 2) (N := some 70) (v := .agg #[.int .u8 p.f0, .int .u64 p.f1, .string p.f2, .slice none p.f3.length 0]) #[true, true, true, false, false, false, false, false, false] rfl rfl (by kernel_rfl) (fun _ _ _ h => h) (Or.inl ⟨by rfl, ?_⟩) hS rfl ?_
   ·rintro w' ⟨h0, h1, h2, h3, h4, h5, h6, h7⟩
    go_simp
   refine norm_ (a' := ?_) ?_ ?_
   rotate_left
   ·try simp only [Act.put, putAll, List.setIfInBounds_toArray, List.set_cons_zero, List.set_cons_succ]
    rfl
   refine pure_ (i := 3) (N := some 71) (v := ?_) (a' := ?_) #[true, true, true, true, false, false, false, false, false] rfl rfl (by kernel_rfl) (fun _ _ _ h => h) (Or.inl ⟨by rfl, ?_⟩) ?_ ?_
   rotate_left
   ·intro w'
    go_simp
    with_reducible rfl
   rotate_left
   ·simp only [Act.put, List.setIfInBounds_toArray, List.set_cons_zero, List.set_cons_succ, i64_w, i32_w]
    rfl
   refine pure_ (i := 4) (N := some 72) (v := ?_) (a' := ?_) #[true, true, true, true, true, false, false, false, false] rfl rfl (by kernel_rfl) (fun _ _ _ h => h) (Or.inl ⟨by rfl, ?_⟩) ?_ ?_
   rotate_left
   ·intro w'
    go_simp
    with_reducible rfl
   rotate_left
   ·simp only [Act.put, List.setIfInBounds_toArray, List.set_cons_zero, List.set_cons_succ, i64_w, i32_w]
    rfl
   refine take_ (i := 5) (N := some 73) (v := .agg #[.int .u8 q.f0, .int .u64 q.f1, .string q.f2, .slice none q.f3.length 0]) #[true, true, true, true, true, true, false, false, false] rfl rfl (by kernel_rfl) (fun _ _ _ h => h) (Or.inl ⟨by rfl, ?_⟩) hS rfl ?_
   ·rintro w' ⟨h0, h1, h2, h3, h4, h5, h6, h7⟩
    go_simp
   refine norm_ (a' := ?_) ?_ ?_
   rotate_left
   ·try simp only [Act.put, putAll, List.setIfInBounds_toArray, List.set_cons_zero, List.set_cons_succ]
    rfl
   refine two_ (i := 6) (j := 7) (Ni := some 74) (Nj := some 13) #[true, true, true, true, true, true, true, false, false] #[true, true, true, true, true, true, false, true, false] rfl rfl rfl rfl (by kernel_rfl) (by decide) (by decide) (fun K hK => ?_) (fun K hK => ?_)
   ·refine goes_ Try.func29 (by kernel_rfl) rfl #[.agg #[.int .u8 p.f0, .int .u64 p.f1, .string p.f2, .slice none p.f3.length 0], .agg #[.int .u8 q.f0, .int .u64 q.f1, .string q.f2, .slice none q.f3.length 0]] (by rfl) rfl rfl (by (try simp only [List.map_toArray, List.map_cons, List.map_nil]); first | done | rfl) ?_
    refine (rdesc29_any p q (by omega) (by omega) none none 0 0 _ HCp.out hlp HCq.out hlq).mono ?_
    rintro e wk34 ⟨vd34, rfl, hRd34, hb34⟩
    obtain ⟨Ad34, cd34, rfl⟩ := Kd.R_slice hRd34
    have hcd34 := (Kd.R_reads' hRd34).2.1
    have HRD34 := Aside0.mk (Kd.R_bound hRd34)
    have sz34 := hb34.size
    have sl34 := HBS.out.size
    refine ⟨_, rfl, ?_⟩
    have hS34 : wk34.cell? ⟨g, 0, none⟩ = some (.int .u8 p.f0) ∧ wk34.cell? ⟨g, 1, none⟩ = some (.int .u64 p.f1) ∧ wk34.cell? ⟨g, 2, none⟩ = some (.string p.f2) ∧ wk34.cell? ⟨g, 3, none⟩ = some (.slice none p.f3.length 0) ∧ wk34.cell? ⟨g, 4, none⟩ = some (.int .u8 q.f0) ∧ wk34.cell? ⟨g, 5, none⟩ = some (.int .u64 q.f1) ∧ wk34.cell? ⟨g, 6, none⟩ = some (.string q.f2) ∧ wk34.cell? ⟨g, 7, none⟩ = some (.slice none q.f3.length 0) := ⟨(hb34.cell (World.block_lt_of_cell? _ _ hS.1)).trans hS.1, (hb34.cell (World.block_lt_of_cell? _ _ hS.2.1)).trans hS.2.1, (hb34.cell (World.block_lt_of_cell? _ _ hS.2.2.1)).trans hS.2.2.1, (hb34.cell (World.block_lt_of_cell? _ _ hS.2.2.2.1)).trans hS.2.2.2.1, (hb34.cell (World.block_lt_of_cell? _ _ hS.2.2.2.2.1)).trans hS.2.2.2.2.1, (hb34.cell (World.block_lt_of_cell? _ _ hS.2.2.2.2.2.1)).trans hS.2.2.2.2.2.1, (hb34.cell (World.block_lt_of_cell? _ _ hS.2.2.2.2.2.2.1)).trans hS.2.2.2.2.2.2.1, (hb34.cell (World.block_lt_of_cell? _ _ hS.2.2.2.2.2.2.2)).trans hS.2.2.2.2.2.2.2⟩
    have HCp34 := Aside0.mk (Kd.C_below HCp.out hb34)
    have HCq34 := Aside0.mk (Kd.C_below HCq.out hb34)
    have HBS34 := Aside0.mk (below_step HBS.out hb34)
    refine hK.out _ _ hS34 (fun _ => ?_)
    clear hK K
    refine norm_ (a' := ?_) ?_ ?_
    rotate_left
    ·try simp only [Act.put, putAll, List.setIfInBounds_toArray, List.set_cons_zero, List.set_cons_succ]
     rfl
    refine one_ (i := 7) (N := some 13) #[true, true, true, true, true, true, true, true, false] rfl rfl (by kernel_rfl) (by decide) (fun K hK => ?_)
    rw [if_pos (by rfl)]
    unfold Oper.wp
    go_simp
    have bN35 := Blk.new wk34 #[.int .u8 0, .int .u64 0, .string ⟨#[]⟩, .slice none 0 0] 25
    have hb35 := below_alloc (Below.refl wk34.heap.size wk34) (.cells #[.int .u8 0, .int .u64 0, .string ⟨#[]⟩, .slice none 0 0] 25)
    have gz35 := HBS34.out.size
    obtain ⟨wk35, hw35⟩ : ∃ W, wk34.alloc (.cells #[.int .u8 0, .int .u64 0, .string ⟨#[]⟩, .slice none 0 0] 25) = W := ⟨_, rfl⟩
    rw [hw35] at bN35 hb35 ⊢
    have hS35 : wk35.cell? ⟨g, 0, none⟩ = some (.int .u8 p.f0) ∧ wk35.cell? ⟨g, 1, none⟩ = some (.int .u64 p.f1) ∧ wk35.cell? ⟨g, 2, none⟩ = some (.string p.f2) ∧ wk35.cell? ⟨g, 3, none⟩ = some (.slice none p.f3.length 0) ∧ wk35.cell? ⟨g, 4, none⟩ = some (.int .u8 q.f0) ∧ wk35.cell? ⟨g, 5, none⟩ = some (.int .u64 q.f1) ∧ wk35.cell? ⟨g, 6, none⟩ = some (.string q.f2) ∧ wk35.cell? ⟨g, 7, none⟩ = some (.slice none q.f3.length 0) := ⟨(hb35.cell (World.block_lt_of_cell? _ _ hS34.1)).trans hS34.1, (hb35.cell (World.block_lt_of_cell? _ _ hS34.2.1)).trans hS34.2.1, (hb35.cell (World.block_lt_of_cell? _ _ hS34.2.2.1)).trans hS34.2.2.1, (hb35.cell (World.block_lt_of_cell? _ _ hS34.2.2.2.1)).trans hS34.2.2.2.1, (hb35.cell (World.block_lt_of_cell? _ _ hS34.2.2.2.2.1)).trans hS34.2.2.2.2.1, (hb35.cell (World.block_lt_of_cell? _ _ hS34.2.2.2.2.2.1)).trans hS34.2.2.2.2.2.1, (hb35.cell (World.block_lt_of_cell? _ _ hS34.2.2.2.2.2.2.1)).trans hS34.2.2.2.2.2.2.1, (hb35.cell (World.block_lt_of_cell? _ _ hS34.2.2.2.2.2.2.2)).trans hS34.2.2.2.2.2.2.2⟩
    have HCp35 := Aside0.mk (Kd.C_below HCp34.out hb35)
    have HCq35 := Aside0.mk (Kd.C_below HCq34.out hb35)
    have HBS35 := Aside0.mk (below_step HBS34.out hb35)
    have HRD35 := Aside0.mk (Kd.R_below HRD34.out hb35)
    have lt35 : wk34.heap.size < wk35.heap.size := by rw [← hw35]; simp
    obtain ⟨bn35, hn35⟩ : ∃ b, wk34.heap.size = b := ⟨_, rfl⟩
    rw [hn35] at bN35 lt35 ⊢
    have hm35 : wk34.heap.size ≤ bn35 := by omega
    have ge35 : wd26.heap.size ≤ bn35 := by omega
    clear hn35 hw35
    refine hK.out _ _ hS35 (fun _ => ?_)
    clear hK K
    refine norm_ (a' := ?_) ?_ ?_
    rotate_left
    ·try simp only [Act.put, putAll, List.setIfInBounds_toArray, List.set_cons_zero, List.set_cons_succ]
     rfl
    refine last_ (i := 8) (N := none) #[true, true, true, true, true, true, true, true, true] rfl rfl (by kernel_rfl) (by decide) (fun K hK => ?_)
    rw [if_pos (by rfl)]
    obtain ⟨e0, e1, e2, e3⟩ := bN35.c4
    have fz := bN35.fz
    unfold Oper.wp
    go_simp
    refine hK.out _ _ ?_
    refine done_ (by kernel_rfl) ?_
    refine HK2.out bn35 Ad34 cd34 _ _ _ _ _ _ _ _ ge35 hcd34 ?_ ?_ ?_
    ·refine blk_put (cs := #[.int .u8 25, .int .u64 0, .string ⟨#[]⟩, .slice none 0 0]) ?_ 3 _ rfl
     refine blk_put (cs := #[.int .u8 25, .int .u64 0, .string ⟨#[]⟩, .slice none 0 0]) ?_ 2 _ rfl
     refine blk_put (cs := #[.int .u8 25, .int .u64 0, .string ⟨#[]⟩, .slice none 0 0]) ?_ 1 _ rfl
     refine blk_put (cs := #[.int .u8 0, .int .u64 0, .string ⟨#[]⟩, .slice none 0 0]) ?_ 0 _ rfl
     exact bN35
    ·have hR0 := Kd.R_mono (ok' := fun j => wd26.heap.size ≤ j ∧ j ≠ bn35) HRD35.out (fun j hj => by have h1 := hj.2.1; have h2 := hj.2.2.1; omega)
     exact Kd.R_lower (Kd.R_far (Kd.R_far (Kd.R_far (Kd.R_far hR0 (fun _ h => h.2) _) (fun _ h => h.2) _) (fun _ h => h.2) _) (fun _ h => h.2) _) (by omega)
    ·exact below_set (below_set (below_set (below_set HBS35.out ge35) ge35) ge35) ge35
   ·rw [if_pos (by rfl)]
    unfold Oper.wp
    go_simp
    have bN36 := Blk.new wd26 #[.int .u8 0, .int .u64 0, .string ⟨#[]⟩, .slice none 0 0] 25
    have hb36 := below_alloc (Below.refl wd26.heap.size wd26) (.cells #[.int .u8 0, .int .u64 0, .string ⟨#[]⟩, .slice none 0 0] 25)
    have gz36 := HBS.out.size
    obtain ⟨wk36, hw36⟩ : ∃ W, wd26.alloc (.cells #[.int .u8 0, .int .u64 0, .string ⟨#[]⟩, .slice none 0 0] 25) = W := ⟨_, rfl⟩
    rw [hw36] at bN36 hb36 ⊢
    have hS36 : wk36.cell? ⟨g, 0, none⟩ = some (.int .u8 p.f0) ∧ wk36.cell? ⟨g, 1, none⟩ = some (.int .u64 p.f1) ∧ wk36.cell? ⟨g, 2, none⟩ = some (.string p.f2) ∧ wk36.cell? ⟨g, 3, none⟩ = some (.slice none p.f3.length 0) ∧ wk36.cell? ⟨g, 4, none⟩ = some (.int .u8 q.f0) ∧ wk36.cell? ⟨g, 5, none⟩ = some (.int .u64 q.f1) ∧ wk36.cell? ⟨g, 6, none⟩ = some (.string q.f2) ∧ wk36.cell? ⟨g, 7, none⟩ = some (.slice none q.f3.length 0) := ⟨(hb36.cell (World.block_lt_of_cell? _ _ hS.1)).trans hS.1, (hb36.cell (World.block_lt_of_cell? _ _ hS.2.1)).trans hS.2.1, (hb36.cell (World.block_lt_of_cell? _ _ hS.2.2.1)).trans hS.2.2.1, (hb36.cell (World.block_lt_of_cell? _ _ hS.2.2.2.1)).trans hS.2.2.2.1, (hb36.cell (World.block_lt_of_cell? _ _ hS.2.2.2.2.1)).trans hS.2.2.2.2.1, (hb36.cell (World.block_lt_of_cell? _ _ hS.2.2.2.2.2.1)).trans hS.2.2.2.2.2.1, (hb36.cell (World.block_lt_of_cell? _ _ hS.2.2.2.2.2.2.1)).trans hS.2.2.2.2.2.2.1, (hb36.cell (World.block_lt_of_cell? _ _ hS.2.2.2.2.2.2.2)).trans hS.2.2.2.2.2.2.2⟩
    have HCp36 := Aside0.mk (Kd.C_below HCp.out hb36)
    have HCq36 := Aside0.mk (Kd.C_below HCq.out hb36)
    have HBS36 := Aside0.mk (below_step HBS.out hb36)
    have lt36 : wd26.heap.size < wk36.heap.size := by rw [← hw36]; simp
    obtain ⟨bn36, hn36⟩ : ∃ b, wd26.heap.size = b := ⟨_, rfl⟩
    rw [hn36] at bN36 lt36 ⊢
    have hm36 : wd26.heap.size ≤ bn36 := by omega
    have ge36 : wd26.heap.size ≤ bn36 := by omega
    clear hn36 hw36
    refine hK.out _ _ hS36 (fun _ => ?_)
    clear hK K
    refine norm_ (a' := ?_) ?_ ?_
    rotate_left
    ·try simp only [Act.put, putAll, List.setIfInBounds_toArray, List.set_cons_zero, List.set_cons_succ]
     rfl
    refine one_ (i := 6) (N := some 74) #[true, true, true, true, true, true, true, true, false] rfl rfl (by kernel_rfl) (by decide) (fun K hK => ?_)
    refine goes_ Try.func29 (by kernel_rfl) rfl #[.agg #[.int .u8 p.f0, .int .u64 p.f1, .string p.f2, .slice none p.f3.length 0], .agg #[.int .u8 q.f0, .int .u64 q.f1, .string q.f2, .slice none q.f3.length 0]] (by rfl) rfl rfl (by (try simp only [List.map_toArray, List.map_cons, List.map_nil]); first | done | rfl) ?_
    refine (rdesc29_any p q (by omega) (by omega) none none 0 0 _ HCp36.out hlp HCq36.out hlq).mono ?_
    rintro e wk37 ⟨vd37, rfl, hRd37, hb37⟩
    obtain ⟨Ad37, cd37, rfl⟩ := Kd.R_slice hRd37
    have hcd37 := (Kd.R_reads' hRd37).2.1
    have HRD37 := Aside0.mk (Kd.R_bound hRd37)
    have sz37 := hb37.size
    have sl37 := HBS36.out.size
    refine ⟨_, rfl, ?_⟩
    have hS37 : wk37.cell? ⟨g, 0, none⟩ = some (.int .u8 p.f0) ∧ wk37.cell? ⟨g, 1, none⟩ = some (.int .u64 p.f1) ∧ wk37.cell? ⟨g, 2, none⟩ = some (.string p.f2) ∧ wk37.cell? ⟨g, 3, none⟩ = some (.slice none p.f3.length 0) ∧ wk37.cell? ⟨g, 4, none⟩ = some (.int .u8 q.f0) ∧ wk37.cell? ⟨g, 5, none⟩ = some (.int .u64 q.f1) ∧ wk37.cell? ⟨g, 6, none⟩ = some (.string q.f2) ∧ wk37.cell? ⟨g, 7, none⟩ = some (.slice none q.f3.length 0) := ⟨(hb37.cell (World.block_lt_of_cell? _ _ hS36.1)).trans hS36.1, (hb37.cell (World.block_lt_of_cell? _ _ hS36.2.1)).trans hS36.2.1, (hb37.cell (World.block_lt_of_cell? _ _ hS36.2.2.1)).trans hS36.2.2.1, (hb37.cell (World.block_lt_of_cell? _ _ hS36.2.2.2.1)).trans hS36.2.2.2.1, (hb37.cell (World.block_lt_of_cell? _ _ hS36.2.2.2.2.1)).trans hS36.2.2.2.2.1, (hb37.cell (World.block_lt_of_cell? _ _ hS36.2.2.2.2.2.1)).trans hS36.2.2.2.2.2.1, (hb37.cell (World.block_lt_of_cell? _ _ hS36.2.2.2.2.2.2.1)).trans hS36.2.2.2.2.2.2.1, (hb37.cell (World.block_lt_of_cell? _ _ hS36.2.2.2.2.2.2.2)).trans hS36.2.2.2.2.2.2.2⟩
    have HCp37 := Aside0.mk (Kd.C_below HCp36.out hb37)
    have HCq37 := Aside0.mk (Kd.C_below HCq36.out hb37)
    have HBS37 := Aside0.mk (below_step HBS36.out hb37)
    have bN37 := bN36.below hb37
    refine hK.out _ _ hS37 (fun _ => ?_)
    clear hK K
    refine norm_ (a' := ?_) ?_ ?_
    rotate_left
    ·try simp only [Act.put, putAll, List.setIfInBounds_toArray, List.set_cons_zero, List.set_cons_succ]
     rfl
    refine last_ (i := 8) (N := none) #[true, true, true, true, true, true, true, true, true] rfl rfl (by kernel_rfl) (by decide) (fun K hK => ?_)
    rw [if_pos (by rfl)]
    obtain ⟨e0, e1, e2, e3⟩ := bN37.c4
    have fz := bN37.fz
    unfold Oper.wp
    go_simp
    refine hK.out _ _ ?_
    refine done_ (by kernel_rfl) ?_
    refine HK2.out bn36 Ad37 cd37 _ _ _ _ _ _ _ _ ge36 hcd37 ?_ ?_ ?_
    ·refine blk_put (cs := #[.int .u8 25, .int .u64 0, .string ⟨#[]⟩, .slice none 0 0]) ?_ 3 _ rfl
     refine blk_put (cs := #[.int .u8 25, .int .u64 0, .string ⟨#[]⟩, .slice none 0 0]) ?_ 2 _ rfl
     refine blk_put (cs := #[.int .u8 25, .int .u64 0, .string ⟨#[]⟩, .slice none 0 0]) ?_ 1 _ rfl
     refine blk_put (cs := #[.int .u8 0, .int .u64 0, .string ⟨#[]⟩, .slice none 0 0]) ?_ 0 _ rfl
     exact bN37
    ·have hR0 := Kd.R_mono (ok' := fun j => wd26.heap.size ≤ j ∧ j ≠ bn36) HRD37.out (fun j hj => by have h1 := hj.2.1; have h2 := hj.2.2.1; omega)
     exact Kd.R_lower (Kd.R_far (Kd.R_far (Kd.R_far (Kd.R_far hR0 (fun _ h => h.2) _) (fun _ h => h.2) _) (fun _ h => h.2) _) (fun _ h => h.2) _) (by omega)
    ·exact below_set (below_set (below_set (below_set HBS37.out ge36) ge36) ge36) ge36
  ⟩
  clear hKK hce
  have HBS := Aside0.mk (Below.refl wd25.heap.size wd25)
  clear HB5 HR5 HRN BM
  refine pure_ (i := 0) (N := some 61) (v := ?_) (a' := ?_) #[true, false, false, false, false, false, false, false, false] rfl rfl (by kernel_rfl) (fun _ _ _ h => h) (Or.inl ⟨by rfl, ?_⟩) ?_ ?_
  rotate_left
  ·intro w'
   go_simp
   with_reducible rfl
  rotate_left
  ·simp only [Act.put, List.setIfInBounds_toArray, List.set_cons_zero, List.set_cons_succ, i64_w, i32_w]
   rfl
  refine pure_ (i := 1) (N := some 62) (v := ?_) (a' := ?_) #[true, true, false, false, false, false, false, false, false] rfl rfl (by kernel_rfl) (fun _ _ _ h => h) (Or.inl ⟨by rfl, ?_⟩) ?_ ?_
  rotate_left
  ·intro w'
   go_simp
   with_reducible rfl
  rotate_left
  ·simp only [Act.put, List.setIfInBounds_toArray, List.set_cons_zero, List.set_cons_succ, i64_w, i32_w]
   rfl
  refine take_ (i := 2) (N := some 63) (v := .agg #[.int .u8 p.f0, .int .u64 p.f1, .string p.f2, .slice none p.f3.length 0]) #[true, true, true, false, false, false, false, false, false] rfl rfl (by kernel_rfl) (fun _ _ _ h => h) (Or.inl ⟨by rfl, ?_⟩) hS rfl ?_
  ·rintro w' ⟨h0, h1, h2, h3, h4, h5, h6, h7⟩
   go_simp
  refine norm_ (a' := ?_) ?_ ?_
  rotate_left
  ·try simp only [Act.put, putAll, List.setIfInBounds_toArray, List.set_cons_zero, List.set_cons_succ]
   rfl
  refine pure_ (i := 3) (N := some 64) (v := ?_) (a' := ?_) #[true, true, true, true, false, false, false, false, false] rfl rfl (by kernel_rfl) (fun _ _ _ h => h) (Or.inl ⟨by rfl, ?_⟩) ?_ ?_
  rotate_left
  ·intro w'
   go_simp
   with_reducible rfl
  rotate_left
  ·simp only [Act.put, List.setIfInBounds_toArray, List.set_cons_zero, List.set_cons_succ, i64_w, i32_w]
   rfl
  refine pure_ (i := 4) (N := some 65) (v := ?_) (a' := ?_) #[true, true, true, true, true, false, false, false, false] rfl rfl (by kernel_rfl) (fun _ _ _ h => h) (Or.inl ⟨by rfl, ?_⟩) ?_ ?_
  rotate_left
  ·intro w'
   go_simp
   with_reducible rfl
  rotate_left
  ·simp only [Act.put, List.setIfInBounds_toArray, List.set_cons_zero, List.set_cons_succ, i64_w, i32_w]
   rfl
  refine take_ (i := 5) (N := some 66) (v := .agg #[.int .u8 q.f0, .int .u64 q.f1, .string q.f2, .slice none q.f3.length 0]) #[true, true, true, true, true, true, false, false, false] rfl rfl (by kernel_rfl) (fun _ _ _ h => h) (Or.inl ⟨by rfl, ?_⟩) hS rfl ?_
  ·rintro w' ⟨h0, h1, h2, h3, h4, h5, h6, h7⟩
   go_simp
  refine norm_ (a' := ?_) ?_ ?_
  rotate_left
  ·try simp only [Act.put, putAll, List.setIfInBounds_toArray, List.set_cons_zero, List.set_cons_succ]
   rfl
  refine two_ (i := 6) (j := 7) (Ni := some 67) (Nj := some 12) #[true, true, true, true, true, true, true, false, false] #[true, true, true, true, true, true, false, true, false] rfl rfl rfl rfl (by kernel_rfl) (by decide) (by decide) (fun K hK => ?_) (fun K hK => ?_)
  ·refine goes_ Try.func28 (by kernel_rfl) rfl #[.agg #[.int .u8 p.f0, .int .u64 p.f1, .string p.f2, .slice none p.f3.length 0], .agg #[.int .u8 q.f0, .int .u64 q.f1, .string q.f2, .slice none q.f3.length 0]] (by rfl) rfl rfl (by (try simp only [List.map_toArray, List.map_cons, List.map_nil]); first | done | rfl) ?_
   refine (desc28_any p q (by omega) none none 0 0 _ HCp.out hlp HCq.out hlq).mono ?_
   rintro e wk38 ⟨vd38, rfl, hRd38, hb38⟩
   obtain ⟨Ad38, cd38, rfl⟩ := Kd.R_slice hRd38
   have hcd38 := (Kd.R_reads' hRd38).2.1
   have HRD38 := Aside0.mk (Kd.R_bound hRd38)
   have sz38 := hb38.size
   have sl38 := HBS.out.size
   refine ⟨_, rfl, ?_⟩
   have hS38 : wk38.cell? ⟨g, 0, none⟩ = some (.int .u8 p.f0) ∧ wk38.cell? ⟨g, 1, none⟩ = some (.int .u64 p.f1) ∧ wk38.cell? ⟨g, 2, none⟩ = some (.string p.f2) ∧ wk38.cell? ⟨g, 3, none⟩ = some (.slice none p.f3.length 0) ∧ wk38.cell? ⟨g, 4, none⟩ = some (.int .u8 q.f0) ∧ wk38.cell? ⟨g, 5, none⟩ = some (.int .u64 q.f1) ∧ wk38.cell? ⟨g, 6, none⟩ = some (.string q.f2) ∧ wk38.cell? ⟨g, 7, none⟩ = some (.slice none q.f3.length 0) := ⟨(hb38.cell (World.block_lt_of_cell? _ _ hS.1)).trans hS.1, (hb38.cell (World.block_lt_of_cell? _ _ hS.2.1)).trans hS.2.1, (hb38.cell (World.block_lt_of_cell? _ _ hS.2.2.1)).trans hS.2.2.1, (hb38.cell (World.block_lt_of_cell? _ _ hS.2.2.2.1)).trans hS.2.2.2.1, (hb38.cell (World.block_lt_of_cell? _ _ hS.2.2.2.2.1)).trans hS.2.2.2.2.1, (hb38.cell (World.block_lt_of_cell? _ _ hS.2.2.2.2.2.1)).trans hS.2.2.2.2.2.1, (hb38.cell (World.block_lt_of_cell? _ _ hS.2.2.2.2.2.2.1)).trans hS.2.2.2.2.2.2.1, (hb38.cell (World.block_lt_of_cell? _ _ hS.2.2.2.2.2.2.2)).trans hS.2.2.2.2.2.2.2⟩
   have HCp38 := Aside0.mk (Kd.C_below HCp.out hb38)
   have HCq38 := Aside0.mk (Kd.C_below HCq.out hb38)
   have HBS38 := Aside0.mk (below_step HBS.out hb38)
   refine hK.out _ _ hS38 (fun _ => ?_)
   clear hK K
   refine norm_ (a' := ?_) ?_ ?_
   rotate_left
   ·try simp only [Act.put, putAll, List.setIfInBounds_toArray, List.set_cons_zero, List.set_cons_succ]
    rfl
   refine one_ (i := 7) (N := some 12) #[true, true, true, true, true, true, true, true, false] rfl rfl (by kernel_rfl) (by decide) (fun K hK => ?_)
   rw [if_pos (by rfl)]
   unfold Oper.wp
   go_simp
   have bN39 := Blk.new wk38 #[.int .u8 0, .int .u64 0, .string ⟨#[]⟩, .slice none 0 0] 25
   have hb39 := below_alloc (Below.refl wk38.heap.size wk38) (.cells #[.int .u8 0, .int .u64 0, .string ⟨#[]⟩, .slice none 0 0] 25)
   have gz39 := HBS38.out.size
   obtain ⟨wk39, hw39⟩ : ∃ W, wk38.alloc (.cells #[.int .u8 0, .int .u64 0, .string ⟨#[]⟩, .slice none 0 0] 25) = W := ⟨_, rfl⟩
   rw [hw39] at bN39 hb39 ⊢
   have hS39 : wk39.cell? ⟨g, 0, none⟩ = some (.int .u8 p.f0) ∧ wk39.cell? ⟨g, 1, none⟩ = some (.int .u64 p.f1) ∧ wk39.cell? ⟨g, 2, none⟩ = some (.string p.f2) ∧ wk39.cell? ⟨g, 3, none⟩ = some (.slice none p.f3.length 0) ∧ wk39.cell? ⟨g, 4, none⟩ = some (.int .u8 q.f0) ∧ wk39.cell? ⟨g, 5, none⟩ = some (.int .u64 q.f1) ∧ wk39.cell? ⟨g, 6, none⟩ = some (.string q.f2) ∧ wk39.cell? ⟨g, 7, none⟩ = some (.slice none q.f3.length 0) := ⟨(hb39.cell (World.block_lt_of_cell? _ _ hS38.1)).trans hS38.1, (hb39.cell (World.block_lt_of_cell? _ _ hS38.2.1)).trans hS38.2.1, (hb39.cell (World.block_lt_of_cell? _ _ hS38.2.2.1)).trans hS38.2.2.1, (hb39.cell (World.block_lt_of_cell? _ _ hS38.2.2.2.1)).trans hS38.2.2.2.1, (hb39.cell (World.block_lt_of_cell? _ _ hS38.2.2.2.2.1)).trans hS38.2.2.2.2.1, (hb39.cell (World.block_lt_of_cell? _ _ hS38.2.2.2.2.2.1)).trans hS38.2.2.2.2.2.1, (hb39.cell (World.block_lt_of_cell? _ _ hS38.2.2.2.2.2.2.1)).trans hS38.2.2.2.2.2.2.1, (hb39.cell (World.block_lt_of_cell? _ _ hS38.2.2.2.2.2.2.2)).trans hS38.2.2.2.2.2.2.2⟩
   have HCp39 := Aside0.mk (Kd.C_below HCp38.out hb39)
   have HCq39 := Aside0.mk (Kd.C_below HCq38.out hb39)
   have HBS39 := Aside0.mk (below_step HBS38.out hb39)
   have HRD39 := Aside0.mk (Kd.R_below HRD38.out hb39)
   have lt39 : wk38.heap.size < wk39.heap.size := by rw [← hw39]; simp
   obtain ⟨bn39, hn39⟩ : ∃ b, wk38.heap.size = b := ⟨_, rfl⟩
   rw [hn39] at bN39 lt39 ⊢
   have hm39 : wk38.heap.size ≤ bn39 := by omega
   have ge39 : wd25.heap.size ≤ bn39 := by omega
   clear hn39 hw39
   refine hK.out _ _ hS39 (fun _ => ?_)
   clear hK K
   refine norm_ (a' := ?_) ?_ ?_
   rotate_left
   ·try simp only [Act.put, putAll, List.setIfInBounds_toArray, List.set_cons_zero, List.set_cons_succ]
    rfl
   refine last_ (i := 8) (N := none) #[true, true, true, true, true, true, true, true, true] rfl rfl (by kernel_rfl) (by decide) (fun K hK => ?_)
   rw [if_pos (by rfl)]
   obtain ⟨e0, e1, e2, e3⟩ := bN39.c4
   have fz := bN39.fz
   unfold Oper.wp
   go_simp
   refine hK.out _ _ ?_
   refine done_ (by kernel_rfl) ?_
   refine HK1.out bn39 Ad38 cd38 _ _ _ _ _ _ _ _ _ _ _ _ _ ge39 hcd38 ?_ ?_ ?_
   ·refine blk_put (cs := #[.int .u8 25, .int .u64 0, .string ⟨#[]⟩, .slice none 0 0]) ?_ 3 _ rfl
    refine blk_put (cs := #[.int .u8 25, .int .u64 0, .string ⟨#[]⟩, .slice none 0 0]) ?_ 2 _ rfl
    refine blk_put (cs := #[.int .u8 25, .int .u64 0, .string ⟨#[]⟩, .slice none 0 0]) ?_ 1 _ rfl
    refine blk_put (cs := #[.int .u8 0, .int .u64 0, .string ⟨#[]⟩, .slice none 0 0]) ?_ 0 _ rfl
    exact bN39
   ·have hR0 := Kd.R_mono (ok' := fun j => wd25.heap.size ≤ j ∧ j ≠ bn39) HRD39.out (fun j hj => by have h1 := hj.2.1; have h2 := hj.2.2.1; omega)
    exact Kd.R_lower (Kd.R_far (Kd.R_far (Kd.R_far (Kd.R_far hR0 (fun _ h => h.2) _) (fun _ h => h.2) _) (fun _ h => h.2) _) (fun _ h => h.2) _) (by omega)
   ·exact below_set (below_set (below_set (below_set HBS39.out ge39) ge39) ge39) ge39
  ·rw [if_pos (by rfl)]
   unfold Oper.wp
   go_simp
   have bN40 := Blk.new wd25 #[.int .u8 0, .int .u64 0, .string ⟨#[]⟩, .slice none 0 0] 25
   have hb40 := below_alloc (Below.refl wd25.heap.size wd25) (.cells #[.int .u8 0, .int .u64 0, .string ⟨#[]⟩, .slice none 0 0] 25)
   have gz40 := HBS.out.size
   obtain ⟨wk40, hw40⟩ : ∃ W, wd25.alloc (.cells #[.int .u8 0, .int .u64 0, .string ⟨#[]⟩, .slice none 0 0] 25) = W := ⟨_, rfl⟩
   rw [hw40] at bN40 hb40 ⊢
   have hS40 : wk40.cell? ⟨g, 0, none⟩ = some (.int .u8 p.f0) ∧ wk40.cell? ⟨g, 1, none⟩ = some (.int .u64 p.f1) ∧ wk40.cell? ⟨g, 2, none⟩ = some (.string p.f2) ∧ wk40.cell? ⟨g, 3, none⟩ = some (.slice none p.f3.length 0) ∧ wk40.cell? ⟨g, 4, none⟩ = some (.int .u8 q.f0) ∧ wk40.cell? ⟨g, 5, none⟩ = some (.int .u64 q.f1) ∧ wk40.cell? ⟨g, 6, none⟩ = some (.string q.f2) ∧ wk40.cell? ⟨g, 7, none⟩ = some (.slice none q.f3.length 0) := ⟨(hb40.cell (World.block_lt_of_cell? _ _ hS.1)).trans hS.1, (hb40.cell (World.block_lt_of_cell? _ _ hS.2.1)).trans hS.2.1, (hb40.cell (World.block_lt_of_cell? _ _ hS.2.2.1)).trans hS.2.2.1, (hb40.cell (World.block_lt_of_cell? _ _ hS.2.2.2.1)).trans hS.2.2.2.1, (hb40.cell (World.block_lt_of_cell? _ _ hS.2.2.2.2.1)).trans hS.2.2.2.2.1, (hb40.cell (World.block_lt_of_cell? _ _ hS.2.2.2.2.2.1)).trans hS.2.2.2.2.2.1, (hb40.cell (World.block_lt_of_cell? _ _ hS.2.2.2.2.2.2.1)).trans hS.2.2.2.2.2.2.1, (hb40.cell (World.block_lt_of_cell? _ _ hS.2.2.2.2.2.2.2)).trans hS.2.2.2.2.2.2.2⟩
   have HCp40 := Aside0.mk (Kd.C_below HCp.out hb40)
   have HCq40 := Aside0.mk (Kd.C_below HCq.out hb40)
   have HBS40 := Aside0.mk (below_step HBS.out hb40)
   have lt40 : wd25.heap.size < wk40.heap.size := by rw [← hw40]; simp
   obtain ⟨bn40, hn40⟩ : ∃ b, wd25.heap.size = b := ⟨_, rfl⟩
   rw [hn40] at bN40 lt40 ⊢
   have hm40 : wd25.heap.size ≤ bn40 := by omega
   have ge40 : wd25.heap.size ≤ bn40 := by omega
   clear hn40 hw40
   refine hK.out _ _ hS40 (fun _ => ?_)
   clear hK K
   refine norm_ (a' := ?_) ?_ ?_
   rotate_left
   ·try simp only [Act.put, putAll, List.setIfInBounds_toArray, List.set_cons_zero, List.set_cons_succ]
    rfl
   refine one_ (i := 6) (N := some 67) #[true, true, true, true, true, true, true, true, false] rfl rfl (by kernel_rfl) (by decide) (fun K hK => ?_)
   refine goes_ Try.func28 (by kernel_rfl) rfl #[.agg #[.int .u8 p.f0, .int .u64 p.f1, .string p.f2, .slice none p.f3.length 0], .agg #[.int .u8 q.f0, .int .u64 q.f1, .string q.f2, .slice none q.f3.length 0]] (by rfl) rfl rfl (by (try simp only [List.map_toArray, List.map_cons, List.map_nil]); first | done | rfl) ?_
   refine (desc28_any p q (by omega) none none 0 0 _ HCp40.out hlp HCq40.out hlq).mono ?_
   rintro e wk41 ⟨vd41, rfl, hRd41, hb41⟩
   obtain ⟨Ad41, cd41, rfl⟩ := Kd.R_slice hRd41
   have hcd41 := (Kd.R_reads' hRd41).2.1
   have HRD41 := Aside0.mk (Kd.R_bound hRd41)
   have sz41 := hb41.size
   have sl41 := HBS40.out.size
   refine ⟨_, rfl, ?_⟩
   have hS41 : wk41.cell? ⟨g, 0, none⟩ = some (.int .u8 p.f0) ∧ wk41.cell? ⟨g, 1, none⟩ = some (.int .u64 p.f1) ∧ wk41.cell? ⟨g, 2, none⟩ = some (.string p.f2) ∧ wk41.cell? ⟨g, 3, none⟩ = some (.slice none p.f3.length 0) ∧ wk41.cell? ⟨g, 4, none⟩ = some (.int .u8 q.f0) ∧ wk41.cell? ⟨g, 5, none⟩ = some (.int .u64 q.f1) ∧ wk41.cell? ⟨g, 6, none⟩ = some (.string q.f2) ∧ wk41.cell? ⟨g, 7, none⟩ = some (.slice none q.f3.length 0) := ⟨(hb41.cell (World.block_lt_of_cell? _ _ hS40.1)).trans hS40.1, (hb41.cell (World.block_lt_of_cell? _ _ hS40.2.1)).trans hS40.2.1, (hb41.cell (World.block_lt_of_cell? _ _ hS40.2.2.1)).trans hS40.2.2.1, (hb41.cell (World.block_lt_of_cell? _ _ hS40.2.2.2.1)).trans hS40.2.2.2.1, (hb41.cell (World.block_lt_of_cell? _ _ hS40.2.2.2.2.1)).trans hS40.2.2.2.2.1, (hb41.cell (World.block_lt_of_cell? _ _ hS40.2.2.2.2.2.1)).trans hS40.2.2.2.2.2.1, (hb41.cell (World.block_lt_of_cell? _ _ hS40.2.2.2.2.2.2.1)).trans hS40.2.2.2.2.2.2.1, (hb41.cell (World.block_lt_of_cell? _ _ hS40.2.2.2.2.2.2.2)).trans hS40.2.2.2.2.2.2.2⟩
   have HCp41 := Aside0.mk (Kd.C_below HCp40.out hb41)
   have HCq41 := Aside0.mk (Kd.C_below HCq40.out hb41)
   have HBS41 := Aside0.mk (below_step HBS40.out hb41)
   have bN41 := bN40.below hb41
   refine hK.out _ _ hS41 (fun _ => ?_)
   clear hK K
   refine norm_ (a' := ?_) ?_ ?_
   rotate_left
   ·try simp only [Act.put, putAll, List.setIfInBounds_toArray, List.set_cons_zero, List.set_cons_succ]
    rfl
   refine last_ (i := 8) (N := none) #[true, true, true, true, true, true, true, true, true] rfl rfl (by kernel_rfl) (by decide) (fun K hK => ?_)
   rw [if_pos (by rfl)]
   obtain ⟨e0, e1, e2, e3⟩ := bN41.c4
   have fz := bN41.fz
   unfold Oper.wp
   go_simp
   refine hK.out _ _ ?_
   refine done_ (by kernel_rfl) ?_
   refine HK1.out bn40 Ad41 cd41 _ _ _ _ _ _ _ _ _ _ _ _ _ ge40 hcd41 ?_ ?_ ?_
   ·refine blk_put (cs := #[.int .u8 25, .int .u64 0, .string ⟨#[]⟩, .slice none 0 0]) ?_ 3 _ rfl
    refine blk_put (cs := #[.int .u8 25, .int .u64 0, .string ⟨#[]⟩, .slice none 0 0]) ?_ 2 _ rfl
    refine blk_put (cs := #[.int .u8 25, .int .u64 0, .string ⟨#[]⟩, .slice none 0 0]) ?_ 1 _ rfl
    refine blk_put (cs := #[.int .u8 0, .int .u64 0, .string ⟨#[]⟩, .slice none 0 0]) ?_ 0 _ rfl
    exact bN41
   ·have hR0 := Kd.R_mono (ok' := fun j => wd25.heap.size ≤ j ∧ j ≠ bn40) HRD41.out (fun j hj => by have h1 := hj.2.1; have h2 := hj.2.2.1; omega)
    exact Kd.R_lower (Kd.R_far (Kd.R_far (Kd.R_far (Kd.R_far hR0 (fun _ h => h.2) _) (fun _ h => h.2) _) (fun _ h => h.2) _) (fun _ h => h.2) _) (by omega)
   ·exact below_set (below_set (below_set (below_set HBS41.out ge40) ge40) ge40) ge40
end Go.Proofs.Ytdilbnggedidnaa.PVal
