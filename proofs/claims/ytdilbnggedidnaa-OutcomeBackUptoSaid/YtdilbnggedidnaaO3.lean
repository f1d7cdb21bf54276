import Derived.Test.YtdilbnggedidnaaO2
namespace Go.Proofs.Ytdilbnggedidnaa.PVal
open Go.RowKit Go.Shelf Go.Proofs.YtdilbnggedidnaaW.PrintWords Go.Proofs.YtdilbnggedidnaaW.PrintLast
set_option linter.unusedVariables false
set_option linter.unusedSimpArgs false
def formC : Array Value := #[.int .u8 1, .int .u64 35, .string nmO1, .int .i64 2, .func (.func 107) #[] #[], .func (.func 108) #[] #[], .int .u8 2, .int .u64 36, .string nmO2, .int .i64 0, .func (.func 109) #[] #[], .func (.func 110) #[] #[], .int .u8 3, .int .u64 37, .string nmO3, .int .i64 1, .func (.func 111) #[] #[], .func (.func 112) #[] #[], .int .u8 4, .int .u64 38, .string nmO4, .int .i64 0, .func (.func 109) #[] #[], .func (.func 110) #[] #[], .int .u8 5, .int .u64 39, .string nmO5, .int .i64 3, .func (.func 113) #[] #[], .func (.func 115) #[] #[]]
set_option maxRecDepth 100000 in
set_option maxHeartbeats 2000000 in
theorem forms85_any (w : World) : Calls Try.prog 85 #[] w fun e w' => e = .returned (.slice (some ⟨w.heap.size, 0, none⟩) 5 5) ∧ w' = w.alloc (.cells formC 105) := by
 go_enter Try.func85, Try.ntmps85
 go_wp2_with fail
 go_ret
 exact ⟨rfl, rfl⟩
def ListPost (l : List S25) (w : World) (e : Ending) (w' : World) : Prop := ∃ A c, e = .returned (.slice A l.length c) ∧ l.length ≤ c ∧ k25.C w' A l.length l ∧ Below w.heap.size w w'
set_option maxHeartbeats 2000000 in
theorem nothing109_any (k a b : Int) (s : ByteArray) (w : World) : Calls Try.prog 109 #[.agg #[.int .u8 k, .int .u64 a, .int .u64 b, .string s]] w (ListPost [] w) := by
 go_enter Try.func109, Try.ntmps109
 go_wp2_with fail
 go_ret
 exact ⟨none, 0, rfl, Nat.le_refl _, C_none _, below_alloc (Below.refl _ _) _⟩
theorem truth_kids (n : Int) : (truthV n).f3 = [] := by unfold truthV; split <;> rfl
theorem truth_text (n : Int) : (truthV n).f2 = ⟨#[]⟩ := by unfold truthV; split <;> rfl
set_option maxRecDepth 100000 in
set_option maxHeartbeats 2000000 in
theorem puts107_any (k a b : Int) (s : ByteArray) (w : World) : Calls Try.prog 107 #[.agg #[.int .u8 k, .int .u64 a, .int .u64 b, .string s]] w (ListPost [numV 5 a, numV 6 b] w) := by
 have hal := below_alloc (Below.refl w.heap.size w) (.cells #[.int .u8 k, .int .u64 a, .int .u64 b, .string s] 72)
 have bO := Blk.new w #[.int .u8 k, .int .u64 a, .int .u64 b, .string s] 72
 go_enter Try.func107, Try.ntmps107
 go_wp2_with fail
 obtain ⟨b0, e0⟩ : ∃ b, w.heap.size = b := ⟨_, rfl⟩
 obtain ⟨w1, e1⟩ : ∃ W, w.alloc (.cells #[.int .u8 k, .int .u64 a, .int .u64 b, .string s] 72) = W := ⟨_, rfl⟩
 rw [e1] at bO hal ⊢
 rw [e0] at bO ⊢
 have HB0 := Aside0.mk hal
 clear e1 e0 hal
 refine start_ (n := 8) (S := fun w' => Blk w' b0 #[.int .u8 k, .int .u64 a, .int .u64 b, .string s] 72) (ds := []) #[false, false, false, false, false, false, false, false] (by kernel_rfl) rfl rfl bO (fun hS => ?_)
 replace HB0 := Aside0.mk (below_drew HB0.out)
 generalize w1.drew = wd1 at HB0 hS ⊢
 clear bO
 refine pure_ (i := 0) (N := some 3) (v := ?_) (a' := ?_) #[true, false, false, false, false, false, false, false] rfl rfl (by kernel_rfl) (fun _ _ _ h => h) (Or.inl ⟨by rfl, ?_⟩) ?_ ?_
 rotate_left
 ·intro w'
  go_simp
  with_reducible rfl
 rotate_left
 ·simp only [Act.put, List.setIfInBounds_toArray, List.set_cons_zero, List.set_cons_succ, i64_w, i32_w]
  rfl
 refine take_ (i := 1) (N := some 4) (v := .int .u64 a) #[true, true, false, false, false, false, false, false] rfl rfl (by kernel_rfl) (fun _ _ _ h => h) (Or.inl ⟨by rfl, ?_⟩) hS rfl ?_
 ·rintro w' h0
  obtain ⟨e0, e1, e2, e3⟩ := h0.c4
  go_simp
 refine norm_ (a' := ?_) ?_ ?_
 rotate_left
 ·try simp only [Act.put, putAll, List.setIfInBounds_toArray, List.set_cons_zero, List.set_cons_succ]
  rfl
 refine pure_ (i := 3) (N := some 6) (v := ?_) (a' := ?_) #[true, true, false, true, false, false, false, false] rfl rfl (by kernel_rfl) (fun _ _ _ h => h) (Or.inl ⟨by rfl, ?_⟩) ?_ ?_
 rotate_left
 ·intro w'
  go_simp
  with_reducible rfl
 rotate_left
 ·simp only [Act.put, List.setIfInBounds_toArray, List.set_cons_zero, List.set_cons_succ, i64_w, i32_w]
  rfl
 refine take_ (i := 4) (N := some 7) (v := .int .u64 b) #[true, true, false, true, true, false, false, false] rfl rfl (by kernel_rfl) (fun _ _ _ h => h) (Or.inl ⟨by rfl, ?_⟩) hS rfl ?_
 ·rintro w' h0
  obtain ⟨e0, e1, e2, e3⟩ := h0.c4
  go_simp
 refine norm_ (a' := ?_) ?_ ?_
 rotate_left
 ·try simp only [Act.put, putAll, List.setIfInBounds_toArray, List.set_cons_zero, List.set_cons_succ]
  rfl
 refine one_ (i := 2) (N := some 5) #[true, true, true, true, true, false, false, false] rfl rfl (by kernel_rfl) (by decide) (fun K hK => ?_)
 refine goes_ Try.func23 (by kernel_rfl) rfl #[.int .u8 5, .int .u64 a] (by rfl) rfl rfl (by (try simp only [List.map_toArray, List.map_cons, List.map_nil]); first | done | rfl) ?_
 refine (number23_any 5 a _).mono ?_
 rintro e wk2 ⟨rfl, hb2⟩
 refine ⟨_, rfl, ?_⟩
 have hS2 : Blk wk2 b0 #[.int .u8 k, .int .u64 a, .int .u64 b, .string s] 72 := hS.below hb2
 have HB02 := Aside0.mk (below_step HB0.out hb2)
 refine hK.out _ _ hS2 (fun _ => ?_)
 clear hK K hb2
 refine norm_ (a' := ?_) ?_ ?_
 rotate_left
 ·try simp only [Act.put, putAll, List.setIfInBounds_toArray, List.set_cons_zero, List.set_cons_succ]
  rfl
 refine one_ (i := 5) (N := some 8) #[true, true, true, true, true, true, false, false] rfl rfl (by kernel_rfl) (by decide) (fun K hK => ?_)
 refine goes_ Try.func23 (by kernel_rfl) rfl #[.int .u8 6, .int .u64 b] (by rfl) rfl rfl (by (try simp only [List.map_toArray, List.map_cons, List.map_nil]); first | done | rfl) ?_
 refine (number23_any 6 b _).mono ?_
 rintro e wk3 ⟨rfl, hb3⟩
 refine ⟨_, rfl, ?_⟩
 have hS3 : Blk wk3 b0 #[.int .u8 k, .int .u64 a, .int .u64 b, .string s] 72 := hS2.below hb3
 have HB03 := Aside0.mk (below_step HB02.out hb3)
 refine hK.out _ _ hS3 (fun _ => ?_)
 clear hK K hb3 hS2
 refine norm_ (a' := ?_) ?_ ?_
 rotate_left
 ·try simp only [Act.put, putAll, List.setIfInBounds_toArray, List.set_cons_zero, List.set_cons_succ]
  rfl
 have bL := Blk.new wk3 (flatK [⟨numV 5 a, none, 0⟩, ⟨numV 6 b, none, 0⟩]).toArray 25
 have hCL := C_lit (ks := [⟨numV 5 a, none, 0⟩, ⟨numV 6 b, none, 0⟩]) bL (by simp) (by
  intro q hq
  simp only [List.mem_cons, List.not_mem_nil, or_false] at hq
  rcases hq with rfl | rfl <;> exact ⟨C_none _, Nat.le_refl _⟩)
 refine one_ (i := 6) (N := some 9) #[true, true, true, true, true, true, true, false] rfl rfl (by kernel_rfl) (by decide) (fun K hK => ?_)
 rw [if_pos (by rfl)]
 unfold Oper.wp
 go_simp
 refine hK.out _ _ (hS3.alloc _) (fun _ => ?_)
 clear hK K
 refine norm_ (a' := ?_) ?_ ?_
 rotate_left
 ·try simp only [Act.put, putAll, List.setIfInBounds_toArray, List.set_cons_zero, List.set_cons_succ]
  rfl
 refine pure_ (i := 7) (N := some 2) (v := ?_) (a' := ?_) #[true, true, true, true, true, true, true, true] rfl rfl (by kernel_rfl) (fun _ _ _ h => h) (Or.inl ⟨by rfl, ?_⟩) ?_ ?_
 rotate_left
 ·intro w'
  go_simp
  with_reducible rfl
 rotate_left
 ·simp only [Act.put, List.setIfInBounds_toArray, List.set_cons_zero, List.set_cons_succ, i64_w, i32_w]
  rfl
 refine done_ (by kernel_rfl) ?_
 go_wp2_with fail
 go_ret
 exact ⟨_, 2, rfl, Nat.le_refl _, hCL, below_alloc HB03.out _⟩
set_option maxRecDepth 100000 in
set_option maxHeartbeats 2000000 in
theorem puts113_any (k a b : Int) (s : ByteArray) (w : World) : Calls Try.prog 113 #[.agg #[.int .u8 k, .int .u64 a, .int .u64 b, .string s]] w (ListPost [truthV a, truthV b] w) := by
 have hal := below_alloc (Below.refl w.heap.size w) (.cells #[.int .u8 k, .int .u64 a, .int .u64 b, .string s] 72)
 have bO := Blk.new w #[.int .u8 k, .int .u64 a, .int .u64 b, .string s] 72
 go_enter Try.func113, Try.ntmps113
 go_wp2_with fail
 obtain ⟨b0, e0⟩ : ∃ b, w.heap.size = b := ⟨_, rfl⟩
 obtain ⟨w1, e1⟩ : ∃ W, w.alloc (.cells #[.int .u8 k, .int .u64 a, .int .u64 b, .string s] 72) = W := ⟨_, rfl⟩
 rw [e1] at bO hal ⊢
 rw [e0] at bO ⊢
 have HB0 := Aside0.mk hal
 clear e1 e0 hal
 refine start_ (n := 8) (S := fun w' => Blk w' b0 #[.int .u8 k, .int .u64 a, .int .u64 b, .string s] 72) (ds := []) #[false, false, false, false, false, false, false, false] (by kernel_rfl) rfl rfl bO (fun hS => ?_)
 replace HB0 := Aside0.mk (below_drew HB0.out)
 generalize w1.drew = wd4 at HB0 hS ⊢
 clear bO
 refine pure_ (i := 0) (N := some 3) (v := ?_) (a' := ?_) #[true, false, false, false, false, false, false, false] rfl rfl (by kernel_rfl) (fun _ _ _ h => h) (Or.inl ⟨by rfl, ?_⟩) ?_ ?_
 rotate_left
 ·intro w'
  go_simp
  with_reducible rfl
 rotate_left
 ·simp only [Act.put, List.setIfInBounds_toArray, List.set_cons_zero, List.set_cons_succ, i64_w, i32_w]
  rfl
 refine take_ (i := 1) (N := some 4) (v := .int .u64 a) #[true, true, false, false, false, false, false, false] rfl rfl (by kernel_rfl) (fun _ _ _ h => h) (Or.inl ⟨by rfl, ?_⟩) hS rfl ?_
 ·rintro w' h0
  obtain ⟨e0, e1, e2, e3⟩ := h0.c4
  go_simp
 refine norm_ (a' := ?_) ?_ ?_
 rotate_left
 ·try simp only [Act.put, putAll, List.setIfInBounds_toArray, List.set_cons_zero, List.set_cons_succ]
  rfl
 refine pure_ (i := 3) (N := some 6) (v := ?_) (a' := ?_) #[true, true, false, true, false, false, false, false] rfl rfl (by kernel_rfl) (fun _ _ _ h => h) (Or.inl ⟨by rfl, ?_⟩) ?_ ?_
 rotate_left
 ·intro w'
  go_simp
  with_reducible rfl
 rotate_left
 ·simp only [Act.put, List.setIfInBounds_toArray, List.set_cons_zero, List.set_cons_succ, i64_w, i32_w]
  rfl
 refine take_ (i := 4) (N := some 7) (v := .int .u64 b) #[true, true, false, true, true, false, false, false] rfl rfl (by kernel_rfl) (fun _ _ _ h => h) (Or.inl ⟨by rfl, ?_⟩) hS rfl ?_
 ·rintro w' h0
  obtain ⟨e0, e1, e2, e3⟩ := h0.c4
  go_simp
 refine norm_ (a' := ?_) ?_ ?_
 rotate_left
 ·try simp only [Act.put, putAll, List.setIfInBounds_toArray, List.set_cons_zero, List.set_cons_succ]
  rfl
 refine one_ (i := 2) (N := some 5) #[true, true, true, true, true, false, false, false] rfl rfl (by kernel_rfl) (by decide) (fun K hK => ?_)
 refine goes_ Try.func114 (by kernel_rfl) rfl #[.int .u64 a] (by rfl) rfl rfl (by (try simp only [List.map_toArray, List.map_cons, List.map_nil]); first | done | rfl) ?_
 refine (truth114_any a _).mono ?_
 rintro e wk5 ⟨rfl, hb5⟩
 refine ⟨_, rfl, ?_⟩
 have hS5 : Blk wk5 b0 #[.int .u8 k, .int .u64 a, .int .u64 b, .string s] 72 := hS.below hb5
 have HB05 := Aside0.mk (below_step HB0.out hb5)
 refine hK.out _ _ hS5 (fun _ => ?_)
 clear hK K hb5
 refine norm_ (a' := ?_) ?_ ?_
 rotate_left
 ·try simp only [Act.put, putAll, List.setIfInBounds_toArray, List.set_cons_zero, List.set_cons_succ]
  rfl
 refine one_ (i := 5) (N := some 8) #[true, true, true, true, true, true, false, false] rfl rfl (by kernel_rfl) (by decide) (fun K hK => ?_)
 refine goes_ Try.func114 (by kernel_rfl) rfl #[.int .u64 b] (by rfl) rfl rfl (by (try simp only [List.map_toArray, List.map_cons, List.map_nil]); first | done | rfl) ?_
 refine (truth114_any b _).mono ?_
 rintro e wk6 ⟨rfl, hb6⟩
 refine ⟨_, rfl, ?_⟩
 have hS6 : Blk wk6 b0 #[.int .u8 k, .int .u64 a, .int .u64 b, .string s] 72 := hS5.below hb6
 have HB06 := Aside0.mk (below_step HB05.out hb6)
 refine hK.out _ _ hS6 (fun _ => ?_)
 clear hK K hb6 hS5
 refine norm_ (a' := ?_) ?_ ?_
 rotate_left
 ·try simp only [Act.put, putAll, List.setIfInBounds_toArray, List.set_cons_zero, List.set_cons_succ]
  rfl
 have bL := Blk.new wk6 (flatK [⟨truthV a, none, 0⟩, ⟨truthV b, none, 0⟩]).toArray 25
 have hCL := C_lit (ks := [⟨truthV a, none, 0⟩, ⟨truthV b, none, 0⟩]) bL (by simp) (by
  intro q hq
  simp only [List.mem_cons, List.not_mem_nil, or_false] at hq
  rcases hq with rfl | rfl <;> exact ⟨by rw [show ∀ n, (truthV n).f3 = [] from truth_kids]; exact C_none _, by rw [show ∀ n, (truthV n).f3 = [] from truth_kids]; exact Nat.le_refl _⟩)
 rw [show (flatK [⟨truthV a, none, 0⟩, ⟨truthV b, none, 0⟩]).toArray = #[.int .u8 (truthV a).f0, .int .u64 (truthV a).f1, .string ⟨#[]⟩, .slice none 0 0, .int .u8 (truthV b).f0, .int .u64 (truthV b).f1, .string ⟨#[]⟩, .slice none 0 0] by simp [flatK, KV.cells, truth_text, truth_kids]] at hCL
 refine one_ (i := 6) (N := some 9) #[true, true, true, true, true, true, true, false] rfl rfl (by kernel_rfl) (by decide) (fun K hK => ?_)
 rw [if_pos (by rfl)]
 unfold Oper.wp
 go_simp
 refine hK.out _ _ (hS6.alloc _) (fun _ => ?_)
 clear hK K
 refine norm_ (a' := ?_) ?_ ?_
 rotate_left
 ·try simp only [Act.put, putAll, List.setIfInBounds_toArray, List.set_cons_zero, List.set_cons_succ]
  rfl
 refine pure_ (i := 7) (N := some 2) (v := ?_) (a' := ?_) #[true, true, true, true, true, true, true, true] rfl rfl (by kernel_rfl) (fun _ _ _ h => h) (Or.inl ⟨by rfl, ?_⟩) ?_ ?_
 rotate_left
 ·intro w'
  go_simp
  with_reducible rfl
 rotate_left
 ·simp only [Act.put, List.setIfInBounds_toArray, List.set_cons_zero, List.set_cons_succ, i64_w, i32_w]
  rfl
 refine done_ (by kernel_rfl) ?_
 go_wp2_with fail
 go_ret
 exact ⟨_, 2, rfl, Nat.le_refl _, hCL, below_alloc HB06.out _⟩
set_option maxRecDepth 100000 in
set_option maxHeartbeats 2000000 in
theorem puts111_any (k a b : Int) (s : ByteArray) (hs : s.size ≤ 4294967290) (h : asciiB (bytesOf s) = true) (w : World) : Calls Try.prog 111 #[.agg #[.int .u8 k, .int .u64 a, .int .u64 b, .string s]] w (ListPost [condV s] w) := by
 have HH := Aside0.mk h
 clear h
 have hal := below_alloc (Below.refl w.heap.size w) (.cells #[.int .u8 k, .int .u64 a, .int .u64 b, .string s] 72)
 have bO := Blk.new w #[.int .u8 k, .int .u64 a, .int .u64 b, .string s] 72
 go_enter Try.func111, Try.ntmps111
 go_upto_region 1 with fail
 obtain ⟨b0, e0⟩ : ∃ b, w.heap.size = b := ⟨_, rfl⟩
 obtain ⟨w1, e1⟩ : ∃ W, w.alloc (.cells #[.int .u8 k, .int .u64 a, .int .u64 b, .string s] 72) = W := ⟨_, rfl⟩
 rw [e1] at bO hal ⊢
 rw [e0] at bO ⊢
 have HB0 := Aside0.mk hal
 clear e1 e0 hal
 obtain ⟨p0, p1, p2, p3⟩ := bO.c4
 go_wp2_with fail
 refine (put54_yes s hs HH.out _).mono ?_
 rintro e w2 ⟨A2, c2, rfl, hR2, hb2⟩
 have HC2 := Aside0.mk (Kd.R_reads' hR2).2
 have HB2 := Aside0.mk (below_step HB0.out hb2)
 clear p0 p1 p2 p3 bO hR2 hb2
 obtain ⟨v, ev⟩ : ∃ v, condV s = v := ⟨_, rfl⟩
 have EV := Aside0.mk ev
 rw [ev] at HC2 ⊢
 clear ev
 go_wp2_with fail
 have hal := below_alloc (Below.refl w2.heap.size w2) (.cells #[.int .u8 v.f0, .int .u64 v.f1, .string v.f2, .slice A2 v.f3.length c2] 25)
 have hal2 := below_alloc hal (.cells #[.int .u8 v.f0, .int .u64 v.f1, .string v.f2, .slice A2 v.f3.length c2] 25)
 have bL := Blk.new (w2.alloc (.cells #[.int .u8 v.f0, .int .u64 v.f1, .string v.f2, .slice A2 v.f3.length c2] 25)) (flatK [⟨v, A2, c2⟩]).toArray 25
 have hCL := C_lit (ks := [⟨v, A2, c2⟩]) bL (by simp) (by
  intro q hq
  simp only [List.mem_cons, List.not_mem_nil, or_false] at hq
  rcases hq with rfl
  exact ⟨Kd.C_below HC2.out.2 hal2, HC2.out.1⟩)
 rw [World.size_alloc] at hCL
 go_ret
 exact ⟨_, 1, rfl, Nat.le_refl _, by rw [EV.out]; exact hCL, below_step HB2.out hal2⟩
end Go.Proofs.Ytdilbnggedidnaa.PVal
namespace Go.Proofs.Ytdilbnggedidnaa.PVal
open Go.RowKit Go.Shelf Go.Proofs.YtdilbnggedidnaaW.PrintWords Go.Proofs.YtdilbnggedidnaaW.PrintLast
set_option linter.unusedVariables false
set_option linter.unusedSimpArgs false
theorem Blk.six {W : World} {b : Nat} {a0 a1 a2 a3 a4 a5 : Value} {t : TypeId} (h : Blk W b #[a0, a1, a2, a3, a4, a5] t) : W.cell? ⟨b, 0, none⟩ = some a0 ∧ W.cell? ⟨b, 1, none⟩ = some a1 ∧ W.cell? ⟨b, 2, none⟩ = some a2 ∧ W.cell? ⟨b, 3, none⟩ = some a3 ∧ W.cell? ⟨b, 4, none⟩ = some a4 ∧ W.cell? ⟨b, 5, none⟩ = some a5 :=
 ⟨(blk_cell h 0).trans rfl, (blk_cell h 1).trans rfl, (blk_cell h 2).trans rfl, (blk_cell h 3).trans rfl, (blk_cell h 4).trans rfl, (blk_cell h 5).trans rfl⟩
theorem results52 (tmps : Array Value) (w : World) (g : Nat) (cs : Array Value) (n : Int) (hcs : cs.size = 4) (hp : tmps.getD 2 undef = .pointer (some ⟨g, 0, none⟩)) (hg : Blk w g cs 25) (hb : tmps.getD 3 undef = .int .i64 n) :
  (results Try.f52 tmps).run Try.prog w = .ok (.tuple #[.agg cs, .int .i64 n]) w := by
 have h1 : tmps[2]?.getD undef = .pointer (some ⟨g, 0, none⟩) := by simpa using hp
 have h2 : tmps[3]?.getD undef = .int .i64 n := by simpa using hb
 have hi : (Try.prog.info? 25).map (·.size) = some cs.size := by rw [hcs]; kernel_rfl
 have hr := run_loadVar_row (P := Try.prog) w g 25 25 cs (0, 0) _ hg Try.underlying25 rfl hi
 simp [results, Try.f52, h1, h2, asAddr, hr]
theorem goesV_ {P : Program} {ops : Array Oper} {Q : Exit → Act → World → Prop} {oi : Oper} {N : Option Tmp} {a : Act} {w : World} {K : Act → World → Prop} {f : FuncId} {fn : Func} {s : Operand} {asg : Array Operand} {ts : Array TypeId} (hf : P.funcs[f]? = some fn) (hname : (fn.name == "runtime.NumGoroutine") = false) (hb : fn.body.isSome = true) (args : Array Value)
  (hw : Region.wanted oi (yielded ops a.tmps) = true) (hN : oi.dst = N) (hop : oi.op = .call { callee := .value s, args := asg, argTypes := ts }) (hs : a.eval s = .func (.func f) #[] #[]) (hargs : asg.map a.eval = args)
  (h : Calls P f args w fun e w' => ∃ v, e = .returned v ∧ K (a.put N v) w') : if Region.wanted oi (yielded ops a.tmps) = true then Oper.wp P oi a w K Q else K (a.put N undef) w := by
 refine call_ f args hw hN ?_ h
 have he := enters_ hf hname hb args w
 unfold execOp
 simp [hop, resolve, Deferred.ofValue, invoke, hs, hargs, he]
theorem cond_items (s : ByteArray) : itemsL [condV s] ≤ 10 := by
 unfold condV
 split
 ·simp [itemsL, vNul, itemsN]
 ·have := itemsL_trim [symV s]
  have e : itemsL [symV s] = 1 := by simp [itemsL, symV, itemsN]
  rw [e] at this
  unfold putV
  simp only [itemsL, itemsN]
  omega
theorem truth_items (n : Int) : itemsN (truthV n) = 1 := by unfold truthV; split <;> rfl
def PutS (w : World) (k a b : Int) (s : ByteArray) (b0 b1 bF : Nat) (wr : World) : Prop := Blk wr b0 #[.int .u8 k, .int .u64 a, .int .u64 b, .string s] 72 ∧ Blk wr b1 #[.int .u8 0, .int .u64 0, .string ⟨#[]⟩, .slice none 0 0] 25 ∧ Blk wr bF formC 105 ∧ Below w.heap.size w wr
theorem PutS.alloc {w : World} {k a b : Int} {s : ByteArray} {b0 b1 bF : Nat} {wr : World} (h : PutS w k a b s b0 b1 bF wr) (o : Obj) : PutS w k a b s b0 b1 bF (wr.alloc o) := ⟨h.1.alloc o, h.2.1.alloc o, h.2.2.1.alloc o, below_alloc h.2.2.2 o⟩
set_option maxRecDepth 100000 in
set_option maxHeartbeats 2000000 in
theorem put52_no (k a b : Int) (s : ByteArray) (hs : s.size ≤ 4294967290) (h : mayO ⟨k, a, b, s⟩ = false) (w : World) : Calls Try.prog 52 #[.agg #[.int .u8 k, .int .u64 a, .int .u64 b, .string s]] w (ValErr zVal 1 w) := by
 have HM := Aside0.mk h
 clear h
 have hal := below_alloc (below_alloc (Below.refl w.heap.size w) (.cells #[.int .u8 k, .int .u64 a, .int .u64 b, .string s] 72)) (.cells #[.int .u8 0, .int .u64 0, .string ⟨#[]⟩, .slice none 0 0] 25)
 have bO := (Blk.new w #[.int .u8 k, .int .u64 a, .int .u64 b, .string s] 72).alloc (.cells #[.int .u8 0, .int .u64 0, .string ⟨#[]⟩, .slice none 0 0] 25)
 have bR := Blk.new (w.alloc (.cells #[.int .u8 k, .int .u64 a, .int .u64 b, .string s] 72)) #[.int .u8 0, .int .u64 0, .string ⟨#[]⟩, .slice none 0 0] 25
 rw [World.size_alloc] at bR
 go_enter Try.func52, Try.ntmps52
 go_upto_region 1 with fail
 obtain ⟨w1, e1⟩ : ∃ W, (w.alloc (.cells #[.int .u8 k, .int .u64 a, .int .u64 b, .string s] 72)).alloc (.cells #[.int .u8 0, .int .u64 0, .string ⟨#[]⟩, .slice none 0 0] 25) = W := ⟨_, rfl⟩
 rw [e1] at bO bR hal ⊢
 clear e1
 have HB1 := Aside0.mk hal
 have BR1 := Aside0.mk bR
 have BO1 := Aside0.mk bO
 clear hal bR
 obtain ⟨p0, p1, p2, p3⟩ := bO.c4
 clear bO
 go_wp2_with fail
 refine (may84_any k a b s hs _).mono ?_
 rintro e w2 ⟨he, hb2⟩
 rw [HM.out] at he
 subst he
 have HB2 := Aside0.mk (below_step HB1.out hb2)
 have BR2 := Aside0.mk (BR1.out.below hb2)
 have BO2 := Aside0.mk (BO1.out.below hb2)
 clear hb2 p0 p1 p2 p3 BR1 BO1 HB1
 have bR2 := BR2.out
 obtain ⟨q0, q1, q2, q3⟩ := bR2.c4
 have f2 := bR2.fz
 clear bR2
 go_wp2_with fail
 refine bodyPost_ret (results52 _ _ (w.heap.size + 1) #[.int .u8 0, .int .u64 0, .string ⟨#[]⟩, .slice none 0 0] 1 rfl rfl (put4_blk BR2.out _ _ _ _) rfl) rfl ?_
 exact ⟨none, 0, rfl, Kd.R_nil _ _ _ _ _, put4_below HB2.out (by omega) _ _ _ _⟩
set_option maxRecDepth 100000 in
set_option maxHeartbeats 8000000 in
theorem put52_yes (k a b : Int) (s : ByteArray) (hs : s.size ≤ 4294967290) (h : mayO ⟨k, a, b, s⟩ = true) (w : World) : Calls Try.prog 52 #[.agg #[.int .u8 k, .int .u64 a, .int .u64 b, .string s]] w (ValErr (putOV ⟨k, a, b, s⟩) 0 w) := by
 have HASC := Aside0.mk (mayO_cases h).1
 have hk5 : 0 ≤ k ∧ k ≤ 5 := by have := (mayO_cases h).2.2; simp only at this; omega
 have HM := Aside0.mk h
 clear h
 have hal := below_alloc (below_alloc (Below.refl w.heap.size w) (.cells #[.int .u8 k, .int .u64 a, .int .u64 b, .string s] 72)) (.cells #[.int .u8 0, .int .u64 0, .string ⟨#[]⟩, .slice none 0 0] 25)
 have bO := (Blk.new w #[.int .u8 k, .int .u64 a, .int .u64 b, .string s] 72).alloc (.cells #[.int .u8 0, .int .u64 0, .string ⟨#[]⟩, .slice none 0 0] 25)
 have bR := Blk.new (w.alloc (.cells #[.int .u8 k, .int .u64 a, .int .u64 b, .string s] 72)) #[.int .u8 0, .int .u64 0, .string ⟨#[]⟩, .slice none 0 0] 25
 rw [World.size_alloc] at bR
 go_enter Try.func52, Try.ntmps52
 go_upto_region 1 with fail
 obtain ⟨w1, e1⟩ : ∃ W, (w.alloc (.cells #[.int .u8 k, .int .u64 a, .int .u64 b, .string s] 72)).alloc (.cells #[.int .u8 0, .int .u64 0, .string ⟨#[]⟩, .slice none 0 0] 25) = W := ⟨_, rfl⟩
 rw [e1] at bO bR hal ⊢
 clear e1
 have HB1 := Aside0.mk hal
 have BR1 := Aside0.mk bR
 have BO1 := Aside0.mk bO
 clear hal bR
 obtain ⟨p0, p1, p2, p3⟩ := bO.c4
 clear bO
 go_wp2_with fail
 refine (may84_any k a b s hs _).mono ?_
 rintro e w2 ⟨he, hb2⟩
 rw [HM.out] at he
 subst he
 have HB2 := Aside0.mk (below_step HB1.out hb2)
 have BR2 := Aside0.mk (BR1.out.below hb2)
 have BO2 := Aside0.mk (BO1.out.below hb2)
 clear hb2 p0 p1 p2 p3 BR1 BO1 HB1
 go_wp2_with fail
 refine (forms85_any _).mono ?_
 rintro e w3 ⟨rfl, hw3⟩
 obtain ⟨bF, ebF⟩ : ∃ b, w2.heap.size = b := ⟨_, rfl⟩
 have HS3 : Aside0 (PutS w k a b s w.heap.size (w.heap.size + 1) bF w3) := ⟨by
  rw [hw3, ← ebF]
  exact ⟨BO2.out.alloc _, BR2.out.alloc _, Blk.new w2 formC 105, below_alloc HB2.out _⟩⟩
 rw [ebF]
 clear ebF hw3 BO2 BR2 HB2
 obtain ⟨b0, eb0⟩ : ∃ b, w.heap.size = b := ⟨_, rfl⟩
 obtain ⟨b1, eb1⟩ : ∃ b, w.heap.size + 1 = b := ⟨_, rfl⟩
 rw [eb1, eb0] at HS3 ⊢
 have hw0 : w.heap.size ≤ b0 ∧ w.heap.size ≤ b1 := by omega
 clear eb0 eb1
 go_wp2_with fail
 go_loopg [5, 12] 5 (fun gk v5 v12 wr => ∃ i : Int, v12 = .int .i64 i ∧ Aside0 (0 ≤ i ∧ i ≤ 5 ∧ (k = 0 ∨ i < k) ∧ gk = (5 - i).toNat) ∧ Aside0 (PutS w k a b s b0 b1 bF wr))
 case atStart => exact ⟨0, rfl, ⟨by omega, by omega, by omega, rfl⟩, HS3⟩
 case round =>
  obtain ⟨i, rfl, HI, HSi⟩ := hrel
  obtain ⟨hi0, hi5, hik, hgk⟩ := HI.out
  have HG := Aside0.mk hgk
  clear HI hgk
  by_cases hi : i = 0
  ·subst hi
   have x0 : wr.cell? ⟨bF, 0, none⟩ = some (.int .u8 1) := (blk_cell HSi.out.2.2.1 0).trans rfl
   have x1 : wr.cell? ⟨bF, 1, none⟩ = some (.int .u64 35) := (blk_cell HSi.out.2.2.1 1).trans rfl
   have x2 : wr.cell? ⟨bF, 2, none⟩ = some (.string nmO1) := (blk_cell HSi.out.2.2.1 2).trans rfl
   have x3 : wr.cell? ⟨bF, 3, none⟩ = some (.int .i64 2) := (blk_cell HSi.out.2.2.1 3).trans rfl
   have x4 : wr.cell? ⟨bF, 4, none⟩ = some (.func (.func 107) #[] #[]) := (blk_cell HSi.out.2.2.1 4).trans rfl
   have x5 : wr.cell? ⟨bF, 5, none⟩ = some (.func (.func 108) #[] #[]) := (blk_cell HSi.out.2.2.1 5).trans rfl
   have HSx := Aside0.mk (HSi.out.alloc (.cells #[.int .u8 1, .int .u64 35, .string nmO1, .int .i64 2, .func (.func 107) #[] #[], .func (.func 108) #[] #[]] 105))
   have bX := Blk.new wr #[.int .u8 1, .int .u64 35, .string nmO1, .int .i64 2, .func (.func 107) #[] #[], .func (.func 108) #[] #[]] 105
   go_upto_region 6 with fail
   obtain ⟨bx, ex⟩ : ∃ b, wr.heap.size = b := ⟨_, rfl⟩
   obtain ⟨wx, ew⟩ : ∃ W, wr.alloc (.cells #[.int .u8 1, .int .u64 35, .string nmO1, .int .i64 2, .func (.func 107) #[] #[], .func (.func 108) #[] #[]] 105) = W := ⟨_, rfl⟩
   rw [ew] at HSx bX ⊢
   rw [ex] at bX ⊢
   clear ex ew x0 x1 x2 x3 x4 x5
   have bO := HSx.out.1
   obtain ⟨y0, y1, y2, y3, y4, y5⟩ := bX.six
   obtain ⟨p0, p1, p2, p3⟩ := bO.c4
   by_cases hk : k = 1
   ·subst hk
    clear p0 p1 p2 p3 y0 y1 y2 y3 y4 y5
    obtain ⟨y0, y1, y2, y3, y4, y5⟩ := bX.six
    obtain ⟨p0, p1, p2, p3⟩ := bO.c4
    go_upto_region 7 with fail
    clear p0 p1 p2 p3 y0 y1 y2 y3 y4 y5
    have bR := HSx.out.2.1
    have HBx := Aside0.mk HSx.out.2.2.2
    clear HSx HSi HS3
    refine start_ (n := 9) (S := fun w' => Blk w' bx #[.int .u8 1, .int .u64 35, .string nmO1, .int .i64 2, .func (.func 107) #[] #[], .func (.func 108) #[] #[]] 105 ∧ Blk w' b0 #[.int .u8 1, .int .u64 a, .int .u64 b, .string s] 72 ∧ Blk w' b1 #[.int .u8 0, .int .u64 0, .string ⟨#[]⟩, .slice none 0 0] 25) (ds := [7]) #[false, false, false, false, false, false, false, false, false] (by kernel_rfl) rfl rfl ⟨bX, bO, bR⟩ (fun hS => ?_)
    replace HBx := Aside0.mk (below_drew HBx.out)
    generalize wx.drew = wd1 at HBx hS ⊢
    clear bX bO bR
    refine pure_ (i := 0) (N := some 21) (v := ?_) (a' := ?_) #[true, false, false, false, false, false, false, false, false] rfl rfl (by kernel_rfl) (fun _ _ _ h => h) (Or.inl ⟨by rfl, ?_⟩) ?_ ?_
    rotate_left
    ·intro w'
     go_simp
     with_reducible rfl
    rotate_left
    ·simp only [Act.put, List.setIfInBounds_toArray, List.set_cons_zero, List.set_cons_succ, i64_w, i32_w]
     rfl
    refine take_ (i := 1) (N := some 22) (v := .int .u64 35) #[true, true, false, false, false, false, false, false, false] rfl rfl (by kernel_rfl) (fun _ _ _ h => h) (Or.inl ⟨by rfl, ?_⟩) hS rfl ?_
    ·rintro w' ⟨h0, h1, h2⟩
     obtain ⟨e0, e1, e2, e3, e4, e5⟩ := h0.six
     go_simp
    refine norm_ (a' := ?_) ?_ ?_
    rotate_left
    ·try simp only [Act.put, putAll, List.setIfInBounds_toArray, List.set_cons_zero, List.set_cons_succ]
     rfl
    refine pure_ (i := 2) (N := some 23) (v := ?_) (a' := ?_) #[true, true, true, false, false, false, false, false, false] rfl rfl (by kernel_rfl) (fun _ _ _ h => h) (Or.inl ⟨by rfl, ?_⟩) ?_ ?_
    rotate_left
    ·intro w'
     go_simp
     with_reducible rfl
    rotate_left
    ·simp only [Act.put, List.setIfInBounds_toArray, List.set_cons_zero, List.set_cons_succ, i64_w, i32_w]
     rfl
    refine take_ (i := 3) (N := some 24) (v := .func (.func 107) #[] #[]) #[true, true, true, true, false, false, false, false, false] rfl rfl (by kernel_rfl) (fun _ _ _ h => h) (Or.inl ⟨by rfl, ?_⟩) hS rfl ?_
    ·rintro w' ⟨h0, h1, h2⟩
     obtain ⟨e0, e1, e2, e3, e4, e5⟩ := h0.six
     go_simp
    refine norm_ (a' := ?_) ?_ ?_
    rotate_left
    ·try simp only [Act.put, putAll, List.setIfInBounds_toArray, List.set_cons_zero, List.set_cons_succ]
     rfl
    refine take_ (i := 4) (N := some 25) (v := .agg #[.int .u8 1, .int .u64 a, .int .u64 b, .string s]) #[true, true, true, true, true, false, false, false, false] rfl rfl (by kernel_rfl) (fun _ _ _ h => h) (Or.inl ⟨by rfl, ?_⟩) hS rfl ?_
    ·rintro w' ⟨h0, h1, h2⟩
     obtain ⟨e0, e1, e2, e3⟩ := h1.c4
     go_simp
    refine norm_ (a' := ?_) ?_ ?_
    rotate_left
    ·try simp only [Act.put, putAll, List.setIfInBounds_toArray, List.set_cons_zero, List.set_cons_succ]
     rfl
    refine one_ (i := 5) (N := some 26) #[true, true, true, true, true, true, false, false, false] rfl rfl (by kernel_rfl) (by decide) (fun K hK => ?_)
    refine goesV_ Try.func107 (by kernel_rfl) rfl #[.agg #[.int .u8 1, .int .u64 a, .int .u64 b, .string s]] (by rfl) rfl rfl (by rfl) (by (try simp only [List.map_toArray, List.map_cons, List.map_nil]); first | done | rfl) ?_
    refine (puts107_any 1 a b s _).mono ?_
    rintro e wk2 ⟨A2, c2, rfl, hl2, hC2, hb2⟩
    refine ⟨_, rfl, ?_⟩
    have hS2 : Blk wk2 bx #[.int .u8 1, .int .u64 35, .string nmO1, .int .i64 2, .func (.func 107) #[] #[], .func (.func 108) #[] #[]] 105 ∧ Blk wk2 b0 #[.int .u8 1, .int .u64 a, .int .u64 b, .string s] 72 ∧ Blk wk2 b1 #[.int .u8 0, .int .u64 0, .string ⟨#[]⟩, .slice none 0 0] 25 := ⟨hS.1.below hb2, hS.2.1.below hb2, hS.2.2.below hb2⟩
    have HBx2 := Aside0.mk (below_step HBx.out hb2)
    have HC2 := Aside0.mk hC2
    refine hK.out _ _ hS2 (fun _ => ?_)
    clear hK K hb2 hC2 hS
    refine norm_ (a' := ?_) ?_ ?_
    rotate_left
    ·try simp only [Act.put, putAll, List.setIfInBounds_toArray, List.set_cons_zero, List.set_cons_succ]
     rfl
    refine one_ (i := 6) (N := some 27) #[true, true, true, true, true, true, true, false, false] rfl rfl (by kernel_rfl) (by decide) (fun K hK => ?_)
    refine goes_ Try.func39 (by kernel_rfl) rfl #[.int .u64 35, .slice A2 [numV 5 a, numV 6 b].length c2] (by rfl) rfl rfl (by (try simp only [List.map_toArray, List.map_cons, List.map_nil]); first | done | rfl) ?_
    refine (put39_any 35 [numV 5 a, numV 6 b] (by simp [itemsL, numV, itemsN]) A2 c2 _ HC2.out hl2).mono ?_
    rintro e wk3 ⟨A3, c3, rfl, hR3, hb3⟩
    refine ⟨_, rfl, ?_⟩
    have hS3 : Blk wk3 bx #[.int .u8 1, .int .u64 35, .string nmO1, .int .i64 2, .func (.func 107) #[] #[], .func (.func 108) #[] #[]] 105 ∧ Blk wk3 b0 #[.int .u8 1, .int .u64 a, .int .u64 b, .string s] 72 ∧ Blk wk3 b1 #[.int .u8 0, .int .u64 0, .string ⟨#[]⟩, .slice none 0 0] 25 := ⟨hS2.1.below hb3, hS2.2.1.below hb3, hS2.2.2.below hb3⟩
    have HBx3 := Aside0.mk (below_step HBx2.out hb3)
    have HR3 := Aside0.mk hR3
    have hr3 := hS2.2.2.lt
    refine hK.out _ _ hS3 (fun _ => ?_)
    clear hK K hb3 hR3 hS2
    refine norm_ (a' := ?_) ?_ ?_
    rotate_left
    ·try simp only [Act.put, putAll, List.setIfInBounds_toArray, List.set_cons_zero, List.set_cons_succ]
     rfl
    refine last_ (i := 7) (N := none) #[true, true, true, true, true, true, true, true, false] rfl rfl (by kernel_rfl) (by decide) (fun K hK => ?_)
    rw [if_pos (by rfl)]
    have BRj := Aside0.mk hS3.2.2
    obtain ⟨q0, q1, q2, q3⟩ := BRj.out.c4
    have f2 := BRj.out.fz
    clear hS3
    unfold Oper.wp
    go_simp
    refine hK.out _ _ ?_
    clear hK K
    refine norm_ (a' := ?_) ?_ ?_
    rotate_left
    ·try simp only [Act.put, putAll, List.setIfInBounds_toArray, List.set_cons_zero, List.set_cons_succ]
     rfl
    refine pure_ (i := 8) (N := some 3) (v := ?_) (a' := ?_) #[true, true, true, true, true, true, true, true, true] rfl rfl (by kernel_rfl) (fun _ _ _ h => h) (Or.inl ⟨by rfl, ?_⟩) ?_ ?_
    rotate_left
    ·intro w'
     go_simp
     with_reducible rfl
    rotate_left
    ·simp only [Act.put, List.setIfInBounds_toArray, List.set_cons_zero, List.set_cons_succ, i64_w, i32_w]
     rfl
    refine done_ (by kernel_rfl) ?_
    go_wp2_with fail
    refine bodyPost_ret (results52 _ _ b1 #[.int .u8 25, .int .u64 0, .string ⟨#[]⟩, .slice A3 2 c3] 0 rfl rfl (put4_blk BRj.out _ _ _ _) rfl) rfl ?_
    exact ⟨A3, c3, rfl, put4_R HR3.out (by have := HBx2.out.size; omega) hr3 _ _ _ _, put4_below HBx3.out (by omega) _ _ _ _⟩
   ·have hkb : ((1 : Int) == k) = false := by simp; omega
    have HKN : Aside0 (k = 0 ∨ (1 : Int) < k) := ⟨by omega⟩
    clear hk bX bO
    go_wp2_with fail
    clear p0 p1 p2 p3 y0 y1 y2 y3 y4 y5
    go_roundg (5 - (1 : Int)).toNat
    case measure => rw [HG.out]; omega
    case rel => exact ⟨1, by go_num, ⟨by omega, by omega, HKN.out, rfl⟩, HSx⟩
  by_cases hi : i = 1
  ·subst hi
   have x0 : wr.cell? ⟨bF, 6, none⟩ = some (.int .u8 2) := (blk_cell HSi.out.2.2.1 6).trans rfl
   have x1 : wr.cell? ⟨bF, 7, none⟩ = some (.int .u64 36) := (blk_cell HSi.out.2.2.1 7).trans rfl
   have x2 : wr.cell? ⟨bF, 8, none⟩ = some (.string nmO2) := (blk_cell HSi.out.2.2.1 8).trans rfl
   have x3 : wr.cell? ⟨bF, 9, none⟩ = some (.int .i64 0) := (blk_cell HSi.out.2.2.1 9).trans rfl
   have x4 : wr.cell? ⟨bF, 10, none⟩ = some (.func (.func 109) #[] #[]) := (blk_cell HSi.out.2.2.1 10).trans rfl
   have x5 : wr.cell? ⟨bF, 11, none⟩ = some (.func (.func 110) #[] #[]) := (blk_cell HSi.out.2.2.1 11).trans rfl
   have HSx := Aside0.mk (HSi.out.alloc (.cells #[.int .u8 2, .int .u64 36, .string nmO2, .int .i64 0, .func (.func 109) #[] #[], .func (.func 110) #[] #[]] 105))
   have bX := Blk.new wr #[.int .u8 2, .int .u64 36, .string nmO2, .int .i64 0, .func (.func 109) #[] #[], .func (.func 110) #[] #[]] 105
   go_upto_region 6 with fail
   obtain ⟨bx, ex⟩ : ∃ b, wr.heap.size = b := ⟨_, rfl⟩
   obtain ⟨wx, ew⟩ : ∃ W, wr.alloc (.cells #[.int .u8 2, .int .u64 36, .string nmO2, .int .i64 0, .func (.func 109) #[] #[], .func (.func 110) #[] #[]] 105) = W := ⟨_, rfl⟩
   rw [ew] at HSx bX ⊢
   rw [ex] at bX ⊢
   clear ex ew x0 x1 x2 x3 x4 x5
   have bO := HSx.out.1
   obtain ⟨y0, y1, y2, y3, y4, y5⟩ := bX.six
   obtain ⟨p0, p1, p2, p3⟩ := bO.c4
   by_cases hk : k = 2
   ·subst hk
    clear p0 p1 p2 p3 y0 y1 y2 y3 y4 y5
    obtain ⟨y0, y1, y2, y3, y4, y5⟩ := bX.six
    obtain ⟨p0, p1, p2, p3⟩ := bO.c4
    go_upto_region 7 with fail
    clear p0 p1 p2 p3 y0 y1 y2 y3 y4 y5
    have bR := HSx.out.2.1
    have HBx := Aside0.mk HSx.out.2.2.2
    clear HSx HSi HS3
    refine start_ (n := 9) (S := fun w' => Blk w' bx #[.int .u8 2, .int .u64 36, .string nmO2, .int .i64 0, .func (.func 109) #[] #[], .func (.func 110) #[] #[]] 105 ∧ Blk w' b0 #[.int .u8 2, .int .u64 a, .int .u64 b, .string s] 72 ∧ Blk w' b1 #[.int .u8 0, .int .u64 0, .string ⟨#[]⟩, .slice none 0 0] 25) (ds := [7]) #[false, false, false, false, false, false, false, false, false] (by kernel_rfl) rfl rfl ⟨bX, bO, bR⟩ (fun hS => ?_)
    replace HBx := Aside0.mk (below_drew HBx.out)
    generalize wx.drew = wd4 at HBx hS ⊢
    clear bX bO bR
    refine pure_ (i := 0) (N := some 21) (v := ?_) (a' := ?_) #[true, false, false, false, false, false, false, false, false] rfl rfl (by kernel_rfl) (fun _ _ _ h => h) (Or.inl ⟨by rfl, ?_⟩) ?_ ?_
    rotate_left
    ·intro w'
     go_simp
     with_reducible rfl
    rotate_left
    ·simp only [Act.put, List.setIfInBounds_toArray, List.set_cons_zero, List.set_cons_succ, i64_w, i32_w]
     rfl
    refine take_ (i := 1) (N := some 22) (v := .int .u64 36) #[true, true, false, false, false, false, false, false, false] rfl rfl (by kernel_rfl) (fun _ _ _ h => h) (Or.inl ⟨by rfl, ?_⟩) hS rfl ?_
    ·rintro w' ⟨h0, h1, h2⟩
     obtain ⟨e0, e1, e2, e3, e4, e5⟩ := h0.six
     go_simp
    refine norm_ (a' := ?_) ?_ ?_
    rotate_left
    ·try simp only [Act.put, putAll, List.setIfInBounds_toArray, List.set_cons_zero, List.set_cons_succ]
     rfl
    refine pure_ (i := 2) (N := some 23) (v := ?_) (a' := ?_) #[true, true, true, false, false, false, false, false, false] rfl rfl (by kernel_rfl) (fun _ _ _ h => h) (Or.inl ⟨by rfl, ?_⟩) ?_ ?_
    rotate_left
    ·intro w'
     go_simp
     with_reducible rfl
    rotate_left
    ·simp only [Act.put, List.setIfInBounds_toArray, List.set_cons_zero, List.set_cons_succ, i64_w, i32_w]
     rfl
    refine take_ (i := 3) (N := some 24) (v := .func (.func 109) #[] #[]) #[true, true, true, true, false, false, false, false, false] rfl rfl (by kernel_rfl) (fun _ _ _ h => h) (Or.inl ⟨by rfl, ?_⟩) hS rfl ?_
    ·rintro w' ⟨h0, h1, h2⟩
     obtain ⟨e0, e1, e2, e3, e4, e5⟩ := h0.six
     go_simp
    refine norm_ (a' := ?_) ?_ ?_
    rotate_left
    ·try simp only [Act.put, putAll, List.setIfInBounds_toArray, List.set_cons_zero, List.set_cons_succ]
     rfl
    refine take_ (i := 4) (N := some 25) (v := .agg #[.int .u8 2, .int .u64 a, .int .u64 b, .string s]) #[true, true, true, true, true, false, false, false, false] rfl rfl (by kernel_rfl) (fun _ _ _ h => h) (Or.inl ⟨by rfl, ?_⟩) hS rfl ?_
    ·rintro w' ⟨h0, h1, h2⟩
     obtain ⟨e0, e1, e2, e3⟩ := h1.c4
     go_simp
    refine norm_ (a' := ?_) ?_ ?_
    rotate_left
    ·try simp only [Act.put, putAll, List.setIfInBounds_toArray, List.set_cons_zero, List.set_cons_succ]
     rfl
    refine one_ (i := 5) (N := some 26) #[true, true, true, true, true, true, false, false, false] rfl rfl (by kernel_rfl) (by decide) (fun K hK => ?_)
    refine goesV_ Try.func109 (by kernel_rfl) rfl #[.agg #[.int .u8 2, .int .u64 a, .int .u64 b, .string s]] (by rfl) rfl rfl (by rfl) (by (try simp only [List.map_toArray, List.map_cons, List.map_nil]); first | done | rfl) ?_
    refine (nothing109_any 2 a b s _).mono ?_
    rintro e wk5 ⟨A5, c5, rfl, hl5, hC5, hb5⟩
    refine ⟨_, rfl, ?_⟩
    have hS5 : Blk wk5 bx #[.int .u8 2, .int .u64 36, .string nmO2, .int .i64 0, .func (.func 109) #[] #[], .func (.func 110) #[] #[]] 105 ∧ Blk wk5 b0 #[.int .u8 2, .int .u64 a, .int .u64 b, .string s] 72 ∧ Blk wk5 b1 #[.int .u8 0, .int .u64 0, .string ⟨#[]⟩, .slice none 0 0] 25 := ⟨hS.1.below hb5, hS.2.1.below hb5, hS.2.2.below hb5⟩
    have HBx5 := Aside0.mk (below_step HBx.out hb5)
    have HC5 := Aside0.mk hC5
    refine hK.out _ _ hS5 (fun _ => ?_)
    clear hK K hb5 hC5 hS
    refine norm_ (a' := ?_) ?_ ?_
    rotate_left
    ·try simp only [Act.put, putAll, List.setIfInBounds_toArray, List.set_cons_zero, List.set_cons_succ]
     rfl
    refine one_ (i := 6) (N := some 27) #[true, true, true, true, true, true, true, false, false] rfl rfl (by kernel_rfl) (by decide) (fun K hK => ?_)
    refine goes_ Try.func39 (by kernel_rfl) rfl #[.int .u64 36, .slice A5 [].length c5] (by rfl) rfl rfl (by (try simp only [List.map_toArray, List.map_cons, List.map_nil]); first | done | rfl) ?_
    refine (put39_any 36 [] (by simp [itemsL]) A5 c5 _ HC5.out hl5).mono ?_
    rintro e wk6 ⟨A6, c6, rfl, hR6, hb6⟩
    refine ⟨_, rfl, ?_⟩
    have hS6 : Blk wk6 bx #[.int .u8 2, .int .u64 36, .string nmO2, .int .i64 0, .func (.func 109) #[] #[], .func (.func 110) #[] #[]] 105 ∧ Blk wk6 b0 #[.int .u8 2, .int .u64 a, .int .u64 b, .string s] 72 ∧ Blk wk6 b1 #[.int .u8 0, .int .u64 0, .string ⟨#[]⟩, .slice none 0 0] 25 := ⟨hS5.1.below hb6, hS5.2.1.below hb6, hS5.2.2.below hb6⟩
    have HBx6 := Aside0.mk (below_step HBx5.out hb6)
    have HR6 := Aside0.mk hR6
    have hr6 := hS5.2.2.lt
    refine hK.out _ _ hS6 (fun _ => ?_)
    clear hK K hb6 hR6 hS5
    refine norm_ (a' := ?_) ?_ ?_
    rotate_left
    ·try simp only [Act.put, putAll, List.setIfInBounds_toArray, List.set_cons_zero, List.set_cons_succ]
     rfl
    refine last_ (i := 7) (N := none) #[true, true, true, true, true, true, true, true, false] rfl rfl (by kernel_rfl) (by decide) (fun K hK => ?_)
    rw [if_pos (by rfl)]
    have BRj := Aside0.mk hS6.2.2
    obtain ⟨q0, q1, q2, q3⟩ := BRj.out.c4
    have f2 := BRj.out.fz
    clear hS6
    unfold Oper.wp
    go_simp
    refine hK.out _ _ ?_
    clear hK K
    refine norm_ (a' := ?_) ?_ ?_
    rotate_left
    ·try simp only [Act.put, putAll, List.setIfInBounds_toArray, List.set_cons_zero, List.set_cons_succ]
     rfl
    refine pure_ (i := 8) (N := some 3) (v := ?_) (a' := ?_) #[true, true, true, true, true, true, true, true, true] rfl rfl (by kernel_rfl) (fun _ _ _ h => h) (Or.inl ⟨by rfl, ?_⟩) ?_ ?_
    rotate_left
    ·intro w'
     go_simp
     with_reducible rfl
    rotate_left
    ·simp only [Act.put, List.setIfInBounds_toArray, List.set_cons_zero, List.set_cons_succ, i64_w, i32_w]
     rfl
    refine done_ (by kernel_rfl) ?_
    go_wp2_with fail
    refine bodyPost_ret (results52 _ _ b1 #[.int .u8 25, .int .u64 0, .string ⟨#[]⟩, .slice A6 2 c6] 0 rfl rfl (put4_blk BRj.out _ _ _ _) rfl) rfl ?_
    exact ⟨A6, c6, rfl, put4_R HR6.out (by have := HBx5.out.size; omega) hr6 _ _ _ _, put4_below HBx6.out (by omega) _ _ _ _⟩
   ·have hkb : ((2 : Int) == k) = false := by simp; omega
    have HKN : Aside0 (k = 0 ∨ (2 : Int) < k) := ⟨by omega⟩
    clear hk bX bO
    go_wp2_with fail
    clear p0 p1 p2 p3 y0 y1 y2 y3 y4 y5
    go_roundg (5 - (2 : Int)).toNat
    case measure => rw [HG.out]; omega
    case rel => exact ⟨2, by go_num, ⟨by omega, by omega, HKN.out, rfl⟩, HSx⟩
  by_cases hi : i = 2
  ·subst hi
   have x0 : wr.cell? ⟨bF, 12, none⟩ = some (.int .u8 3) := (blk_cell HSi.out.2.2.1 12).trans rfl
   have x1 : wr.cell? ⟨bF, 13, none⟩ = some (.int .u64 37) := (blk_cell HSi.out.2.2.1 13).trans rfl
   have x2 : wr.cell? ⟨bF, 14, none⟩ = some (.string nmO3) := (blk_cell HSi.out.2.2.1 14).trans rfl
   have x3 : wr.cell? ⟨bF, 15, none⟩ = some (.int .i64 1) := (blk_cell HSi.out.2.2.1 15).trans rfl
   have x4 : wr.cell? ⟨bF, 16, none⟩ = some (.func (.func 111) #[] #[]) := (blk_cell HSi.out.2.2.1 16).trans rfl
   have x5 : wr.cell? ⟨bF, 17, none⟩ = some (.func (.func 112) #[] #[]) := (blk_cell HSi.out.2.2.1 17).trans rfl
   have HSx := Aside0.mk (HSi.out.alloc (.cells #[.int .u8 3, .int .u64 37, .string nmO3, .int .i64 1, .func (.func 111) #[] #[], .func (.func 112) #[] #[]] 105))
   have bX := Blk.new wr #[.int .u8 3, .int .u64 37, .string nmO3, .int .i64 1, .func (.func 111) #[] #[], .func (.func 112) #[] #[]] 105
   go_upto_region 6 with fail
   obtain ⟨bx, ex⟩ : ∃ b, wr.heap.size = b := ⟨_, rfl⟩
   obtain ⟨wx, ew⟩ : ∃ W, wr.alloc (.cells #[.int .u8 3, .int .u64 37, .string nmO3, .int .i64 1, .func (.func 111) #[] #[], .func (.func 112) #[] #[]] 105) = W := ⟨_, rfl⟩
   rw [ew] at HSx bX ⊢
   rw [ex] at bX ⊢
   clear ex ew x0 x1 x2 x3 x4 x5
   have bO := HSx.out.1
   obtain ⟨y0, y1, y2, y3, y4, y5⟩ := bX.six
   obtain ⟨p0, p1, p2, p3⟩ := bO.c4
   by_cases hk : k = 3
   ·subst hk
    clear p0 p1 p2 p3 y0 y1 y2 y3 y4 y5
    obtain ⟨y0, y1, y2, y3, y4, y5⟩ := bX.six
    obtain ⟨p0, p1, p2, p3⟩ := bO.c4
    go_upto_region 7 with fail
    clear p0 p1 p2 p3 y0 y1 y2 y3 y4 y5
    have bR := HSx.out.2.1
    have HBx := Aside0.mk HSx.out.2.2.2
    clear HSx HSi HS3
    refine start_ (n := 9) (S := fun w' => Blk w' bx #[.int .u8 3, .int .u64 37, .string nmO3, .int .i64 1, .func (.func 111) #[] #[], .func (.func 112) #[] #[]] 105 ∧ Blk w' b0 #[.int .u8 3, .int .u64 a, .int .u64 b, .string s] 72 ∧ Blk w' b1 #[.int .u8 0, .int .u64 0, .string ⟨#[]⟩, .slice none 0 0] 25) (ds := [7]) #[false, false, false, false, false, false, false, false, false] (by kernel_rfl) rfl rfl ⟨bX, bO, bR⟩ (fun hS => ?_)
    replace HBx := Aside0.mk (below_drew HBx.out)
    generalize wx.drew = wd7 at HBx hS ⊢
    clear bX bO bR
    refine pure_ (i := 0) (N := some 21) (v := ?_) (a' := ?_) #[true, false, false, false, false, false, false, false, false] rfl rfl (by kernel_rfl) (fun _ _ _ h => h) (Or.inl ⟨by rfl, ?_⟩) ?_ ?_
    rotate_left
    ·intro w'
     go_simp
     with_reducible rfl
    rotate_left
    ·simp only [Act.put, List.setIfInBounds_toArray, List.set_cons_zero, List.set_cons_succ, i64_w, i32_w]
     rfl
    refine take_ (i := 1) (N := some 22) (v := .int .u64 37) #[true, true, false, false, false, false, false, false, false] rfl rfl (by kernel_rfl) (fun _ _ _ h => h) (Or.inl ⟨by rfl, ?_⟩) hS rfl ?_
    ·rintro w' ⟨h0, h1, h2⟩
     obtain ⟨e0, e1, e2, e3, e4, e5⟩ := h0.six
     go_simp
    refine norm_ (a' := ?_) ?_ ?_
    rotate_left
    ·try simp only [Act.put, putAll, List.setIfInBounds_toArray, List.set_cons_zero, List.set_cons_succ]
     rfl
    refine pure_ (i := 2) (N := some 23) (v := ?_) (a' := ?_) #[true, true, true, false, false, false, false, false, false] rfl rfl (by kernel_rfl) (fun _ _ _ h => h) (Or.inl ⟨by rfl, ?_⟩) ?_ ?_
    rotate_left
    ·intro w'
     go_simp
     with_reducible rfl
    rotate_left
    ·simp only [Act.put, List.setIfInBounds_toArray, List.set_cons_zero, List.set_cons_succ, i64_w, i32_w]
     rfl
    refine take_ (i := 3) (N := some 24) (v := .func (.func 111) #[] #[]) #[true, true, true, true, false, false, false, false, false] rfl rfl (by kernel_rfl) (fun _ _ _ h => h) (Or.inl ⟨by rfl, ?_⟩) hS rfl ?_
    ·rintro w' ⟨h0, h1, h2⟩
     obtain ⟨e0, e1, e2, e3, e4, e5⟩ := h0.six
     go_simp
    refine norm_ (a' := ?_) ?_ ?_
    rotate_left
    ·try simp only [Act.put, putAll, List.setIfInBounds_toArray, List.set_cons_zero, List.set_cons_succ]
     rfl
    refine take_ (i := 4) (N := some 25) (v := .agg #[.int .u8 3, .int .u64 a, .int .u64 b, .string s]) #[true, true, true, true, true, false, false, false, false] rfl rfl (by kernel_rfl) (fun _ _ _ h => h) (Or.inl ⟨by rfl, ?_⟩) hS rfl ?_
    ·rintro w' ⟨h0, h1, h2⟩
     obtain ⟨e0, e1, e2, e3⟩ := h1.c4
     go_simp
    refine norm_ (a' := ?_) ?_ ?_
    rotate_left
    ·try simp only [Act.put, putAll, List.setIfInBounds_toArray, List.set_cons_zero, List.set_cons_succ]
     rfl
    refine one_ (i := 5) (N := some 26) #[true, true, true, true, true, true, false, false, false] rfl rfl (by kernel_rfl) (by decide) (fun K hK => ?_)
    refine goesV_ Try.func111 (by kernel_rfl) rfl #[.agg #[.int .u8 3, .int .u64 a, .int .u64 b, .string s]] (by rfl) rfl rfl (by rfl) (by (try simp only [List.map_toArray, List.map_cons, List.map_nil]); first | done | rfl) ?_
    refine (puts111_any 3 a b s hs HASC.out _).mono ?_
    rintro e wk8 ⟨A8, c8, rfl, hl8, hC8, hb8⟩
    refine ⟨_, rfl, ?_⟩
    have hS8 : Blk wk8 bx #[.int .u8 3, .int .u64 37, .string nmO3, .int .i64 1, .func (.func 111) #[] #[], .func (.func 112) #[] #[]] 105 ∧ Blk wk8 b0 #[.int .u8 3, .int .u64 a, .int .u64 b, .string s] 72 ∧ Blk wk8 b1 #[.int .u8 0, .int .u64 0, .string ⟨#[]⟩, .slice none 0 0] 25 := ⟨hS.1.below hb8, hS.2.1.below hb8, hS.2.2.below hb8⟩
    have HBx8 := Aside0.mk (below_step HBx.out hb8)
    have HC8 := Aside0.mk hC8
    refine hK.out _ _ hS8 (fun _ => ?_)
    clear hK K hb8 hC8 hS
    refine norm_ (a' := ?_) ?_ ?_
    rotate_left
    ·try simp only [Act.put, putAll, List.setIfInBounds_toArray, List.set_cons_zero, List.set_cons_succ]
     rfl
    refine one_ (i := 6) (N := some 27) #[true, true, true, true, true, true, true, false, false] rfl rfl (by kernel_rfl) (by decide) (fun K hK => ?_)
    refine goes_ Try.func39 (by kernel_rfl) rfl #[.int .u64 37, .slice A8 [condV s].length c8] (by rfl) rfl rfl (by (try simp only [List.map_toArray, List.map_cons, List.map_nil]); first | done | rfl) ?_
    refine (put39_any 37 [condV s] (by have := cond_items s; omega) A8 c8 _ HC8.out hl8).mono ?_
    rintro e wk9 ⟨A9, c9, rfl, hR9, hb9⟩
    refine ⟨_, rfl, ?_⟩
    have hS9 : Blk wk9 bx #[.int .u8 3, .int .u64 37, .string nmO3, .int .i64 1, .func (.func 111) #[] #[], .func (.func 112) #[] #[]] 105 ∧ Blk wk9 b0 #[.int .u8 3, .int .u64 a, .int .u64 b, .string s] 72 ∧ Blk wk9 b1 #[.int .u8 0, .int .u64 0, .string ⟨#[]⟩, .slice none 0 0] 25 := ⟨hS8.1.below hb9, hS8.2.1.below hb9, hS8.2.2.below hb9⟩
    have HBx9 := Aside0.mk (below_step HBx8.out hb9)
    have HR9 := Aside0.mk hR9
    have hr9 := hS8.2.2.lt
    refine hK.out _ _ hS9 (fun _ => ?_)
    clear hK K hb9 hR9 hS8
    refine norm_ (a' := ?_) ?_ ?_
    rotate_left
    ·try simp only [Act.put, putAll, List.setIfInBounds_toArray, List.set_cons_zero, List.set_cons_succ]
     rfl
    refine last_ (i := 7) (N := none) #[true, true, true, true, true, true, true, true, false] rfl rfl (by kernel_rfl) (by decide) (fun K hK => ?_)
    rw [if_pos (by rfl)]
    have BRj := Aside0.mk hS9.2.2
    obtain ⟨q0, q1, q2, q3⟩ := BRj.out.c4
    have f2 := BRj.out.fz
    clear hS9
    unfold Oper.wp
    go_simp
    refine hK.out _ _ ?_
    clear hK K
    refine norm_ (a' := ?_) ?_ ?_
    rotate_left
    ·try simp only [Act.put, putAll, List.setIfInBounds_toArray, List.set_cons_zero, List.set_cons_succ]
     rfl
    refine pure_ (i := 8) (N := some 3) (v := ?_) (a' := ?_) #[true, true, true, true, true, true, true, true, true] rfl rfl (by kernel_rfl) (fun _ _ _ h => h) (Or.inl ⟨by rfl, ?_⟩) ?_ ?_
    rotate_left
    ·intro w'
     go_simp
     with_reducible rfl
    rotate_left
    ·simp only [Act.put, List.setIfInBounds_toArray, List.set_cons_zero, List.set_cons_succ, i64_w, i32_w]
     rfl
    refine done_ (by kernel_rfl) ?_
    go_wp2_with fail
    refine bodyPost_ret (results52 _ _ b1 #[.int .u8 25, .int .u64 0, .string ⟨#[]⟩, .slice A9 2 c9] 0 rfl rfl (put4_blk BRj.out _ _ _ _) rfl) rfl ?_
    exact ⟨A9, c9, rfl, put4_R HR9.out (by have := HBx8.out.size; omega) hr9 _ _ _ _, put4_below HBx9.out (by omega) _ _ _ _⟩
   ·have hkb : ((3 : Int) == k) = false := by simp; omega
    have HKN : Aside0 (k = 0 ∨ (3 : Int) < k) := ⟨by omega⟩
    clear hk bX bO
    go_wp2_with fail
    clear p0 p1 p2 p3 y0 y1 y2 y3 y4 y5
    go_roundg (5 - (3 : Int)).toNat
    case measure => rw [HG.out]; omega
    case rel => exact ⟨3, by go_num, ⟨by omega, by omega, HKN.out, rfl⟩, HSx⟩
  by_cases hi : i = 3
  ·subst hi
   have x0 : wr.cell? ⟨bF, 18, none⟩ = some (.int .u8 4) := (blk_cell HSi.out.2.2.1 18).trans rfl
   have x1 : wr.cell? ⟨bF, 19, none⟩ = some (.int .u64 38) := (blk_cell HSi.out.2.2.1 19).trans rfl
   have x2 : wr.cell? ⟨bF, 20, none⟩ = some (.string nmO4) := (blk_cell HSi.out.2.2.1 20).trans rfl
   have x3 : wr.cell? ⟨bF, 21, none⟩ = some (.int .i64 0) := (blk_cell HSi.out.2.2.1 21).trans rfl
   have x4 : wr.cell? ⟨bF, 22, none⟩ = some (.func (.func 109) #[] #[]) := (blk_cell HSi.out.2.2.1 22).trans rfl
   have x5 : wr.cell? ⟨bF, 23, none⟩ = some (.func (.func 110) #[] #[]) := (blk_cell HSi.out.2.2.1 23).trans rfl
   have HSx := Aside0.mk (HSi.out.alloc (.cells #[.int .u8 4, .int .u64 38, .string nmO4, .int .i64 0, .func (.func 109) #[] #[], .func (.func 110) #[] #[]] 105))
   have bX := Blk.new wr #[.int .u8 4, .int .u64 38, .string nmO4, .int .i64 0, .func (.func 109) #[] #[], .func (.func 110) #[] #[]] 105
   go_upto_region 6 with fail
   obtain ⟨bx, ex⟩ : ∃ b, wr.heap.size = b := ⟨_, rfl⟩
   obtain ⟨wx, ew⟩ : ∃ W, wr.alloc (.cells #[.int .u8 4, .int .u64 38, .string nmO4, .int .i64 0, .func (.func 109) #[] #[], .func (.func 110) #[] #[]] 105) = W := ⟨_, rfl⟩
   rw [ew] at HSx bX ⊢
   rw [ex] at bX ⊢
   clear ex ew x0 x1 x2 x3 x4 x5
   have bO := HSx.out.1
   obtain ⟨y0, y1, y2, y3, y4, y5⟩ := bX.six
   obtain ⟨p0, p1, p2, p3⟩ := bO.c4
   by_cases hk : k = 4
   ·subst hk
    clear p0 p1 p2 p3 y0 y1 y2 y3 y4 y5
    obtain ⟨y0, y1, y2, y3, y4, y5⟩ := bX.six
    obtain ⟨p0, p1, p2, p3⟩ := bO.c4
    go_upto_region 7 with fail
    clear p0 p1 p2 p3 y0 y1 y2 y3 y4 y5
    have bR := HSx.out.2.1
    have HBx := Aside0.mk HSx.out.2.2.2
    clear HSx HSi HS3
    refine start_ (n := 9) (S := fun w' => Blk w' bx #[.int .u8 4, .int .u64 38, .string nmO4, .int .i64 0, .func (.func 109) #[] #[], .func (.func 110) #[] #[]] 105 ∧ Blk w' b0 #[.int .u8 4, .int .u64 a, .int .u64 b, .string s] 72 ∧ Blk w' b1 #[.int .u8 0, .int .u64 0, .string ⟨#[]⟩, .slice none 0 0] 25) (ds := [7]) #[false, false, false, false, false, false, false, false, false] (by kernel_rfl) rfl rfl ⟨bX, bO, bR⟩ (fun hS => ?_)
    replace HBx := Aside0.mk (below_drew HBx.out)
    generalize wx.drew = wd10 at HBx hS ⊢
    clear bX bO bR
    refine pure_ (i := 0) (N := some 21) (v := ?_) (a' := ?_) #[true, false, false, false, false, false, false, false, false] rfl rfl (by kernel_rfl) (fun _ _ _ h => h) (Or.inl ⟨by rfl, ?_⟩) ?_ ?_
    rotate_left
    ·intro w'
     go_simp
     with_reducible rfl
    rotate_left
    ·simp only [Act.put, List.setIfInBounds_toArray, List.set_cons_zero, List.set_cons_succ, i64_w, i32_w]
     rfl
    refine take_ (i := 1) (N := some 22) (v := .int .u64 38) #[true, true, false, false, false, false, false, false, false] rfl rfl (by kernel_rfl) (fun _ _ _ h => h) (Or.inl ⟨by rfl, ?_⟩) hS rfl ?_
    ·rintro w' ⟨h0, h1, h2⟩
     obtain ⟨e0, e1, e2, e3, e4, e5⟩ := h0.six
     go_simp
    refine norm_ (a' := ?_) ?_ ?_
    rotate_left
    ·try simp only [Act.put, putAll, List.setIfInBounds_toArray, List.set_cons_zero, List.set_cons_succ]
     rfl
    refine pure_ (i := 2) (N := some 23) (v := ?_) (a' := ?_) #[true, true, true, false, false, false, false, false, false] rfl rfl (by kernel_rfl) (fun _ _ _ h => h) (Or.inl ⟨by rfl, ?_⟩) ?_ ?_
    rotate_left
    ·intro w'
     go_simp
     with_reducible rfl
    rotate_left
    ·simp only [Act.put, List.setIfInBounds_toArray, List.set_cons_zero, List.set_cons_succ, i64_w, i32_w]
     rfl
    refine take_ (i := 3) (N := some 24) (v := .func (.func 109) #[] #[]) #[true, true, true, true, false, false, false, false, false] rfl rfl (by kernel_rfl) (fun _ _ _ h => h) (Or.inl ⟨by rfl, ?_⟩) hS rfl ?_
    ·rintro w' ⟨h0, h1, h2⟩
     obtain ⟨e0, e1, e2, e3, e4, e5⟩ := h0.six
     go_simp
    refine norm_ (a' := ?_) ?_ ?_
    rotate_left
    ·try simp only [Act.put, putAll, List.setIfInBounds_toArray, List.set_cons_zero, List.set_cons_succ]
     rfl
    refine take_ (i := 4) (N := some 25) (v := .agg #[.int .u8 4, .int .u64 a, .int .u64 b, .string s]) #[true, true, true, true, true, false, false, false, false] rfl rfl (by kernel_rfl) (fun _ _ _ h => h) (Or.inl ⟨by rfl, ?_⟩) hS rfl ?_
    ·rintro w' ⟨h0, h1, h2⟩
     obtain ⟨e0, e1, e2, e3⟩ := h1.c4
     go_simp
    refine norm_ (a' := ?_) ?_ ?_
    rotate_left
    ·try simp only [Act.put, putAll, List.setIfInBounds_toArray, List.set_cons_zero, List.set_cons_succ]
     rfl
    refine one_ (i := 5) (N := some 26) #[true, true, true, true, true, true, false, false, false] rfl rfl (by kernel_rfl) (by decide) (fun K hK => ?_)
    refine goesV_ Try.func109 (by kernel_rfl) rfl #[.agg #[.int .u8 4, .int .u64 a, .int .u64 b, .string s]] (by rfl) rfl rfl (by rfl) (by (try simp only [List.map_toArray, List.map_cons, List.map_nil]); first | done | rfl) ?_
    refine (nothing109_any 4 a b s _).mono ?_
    rintro e wk11 ⟨A11, c11, rfl, hl11, hC11, hb11⟩
    refine ⟨_, rfl, ?_⟩
    have hS11 : Blk wk11 bx #[.int .u8 4, .int .u64 38, .string nmO4, .int .i64 0, .func (.func 109) #[] #[], .func (.func 110) #[] #[]] 105 ∧ Blk wk11 b0 #[.int .u8 4, .int .u64 a, .int .u64 b, .string s] 72 ∧ Blk wk11 b1 #[.int .u8 0, .int .u64 0, .string ⟨#[]⟩, .slice none 0 0] 25 := ⟨hS.1.below hb11, hS.2.1.below hb11, hS.2.2.below hb11⟩
    have HBx11 := Aside0.mk (below_step HBx.out hb11)
    have HC11 := Aside0.mk hC11
    refine hK.out _ _ hS11 (fun _ => ?_)
    clear hK K hb11 hC11 hS
    refine norm_ (a' := ?_) ?_ ?_
    rotate_left
    ·try simp only [Act.put, putAll, List.setIfInBounds_toArray, List.set_cons_zero, List.set_cons_succ]
     rfl
    refine one_ (i := 6) (N := some 27) #[true, true, true, true, true, true, true, false, false] rfl rfl (by kernel_rfl) (by decide) (fun K hK => ?_)
    refine goes_ Try.func39 (by kernel_rfl) rfl #[.int .u64 38, .slice A11 [].length c11] (by rfl) rfl rfl (by (try simp only [List.map_toArray, List.map_cons, List.map_nil]); first | done | rfl) ?_
    refine (put39_any 38 [] (by simp [itemsL]) A11 c11 _ HC11.out hl11).mono ?_
    rintro e wk12 ⟨A12, c12, rfl, hR12, hb12⟩
    refine ⟨_, rfl, ?_⟩
    have hS12 : Blk wk12 bx #[.int .u8 4, .int .u64 38, .string nmO4, .int .i64 0, .func (.func 109) #[] #[], .func (.func 110) #[] #[]] 105 ∧ Blk wk12 b0 #[.int .u8 4, .int .u64 a, .int .u64 b, .string s] 72 ∧ Blk wk12 b1 #[.int .u8 0, .int .u64 0, .string ⟨#[]⟩, .slice none 0 0] 25 := ⟨hS11.1.below hb12, hS11.2.1.below hb12, hS11.2.2.below hb12⟩
    have HBx12 := Aside0.mk (below_step HBx11.out hb12)
    have HR12 := Aside0.mk hR12
    have hr12 := hS11.2.2.lt
    refine hK.out _ _ hS12 (fun _ => ?_)
    clear hK K hb12 hR12 hS11
    refine norm_ (a' := ?_) ?_ ?_
    rotate_left
    ·try simp only [Act.put, putAll, List.setIfInBounds_toArray, List.set_cons_zero, List.set_cons_succ]
     rfl
    refine last_ (i := 7) (N := none) #[true, true, true, true, true, true, true, true, false] rfl rfl (by kernel_rfl) (by decide) (fun K hK => ?_)
    rw [if_pos (by rfl)]
    have BRj := Aside0.mk hS12.2.2
    obtain ⟨q0, q1, q2, q3⟩ := BRj.out.c4
    have f2 := BRj.out.fz
    clear hS12
    unfold Oper.wp
    go_simp
    refine hK.out _ _ ?_
    clear hK K
    refine norm_ (a' := ?_) ?_ ?_
    rotate_left
    ·try simp only [Act.put, putAll, List.setIfInBounds_toArray, List.set_cons_zero, List.set_cons_succ]
     rfl
    refine pure_ (i := 8) (N := some 3) (v := ?_) (a' := ?_) #[true, true, true, true, true, true, true, true, true] rfl rfl (by kernel_rfl) (fun _ _ _ h => h) (Or.inl ⟨by rfl, ?_⟩) ?_ ?_
    rotate_left
    ·intro w'
     go_simp
     with_reducible rfl
    rotate_left
    ·simp only [Act.put, List.setIfInBounds_toArray, List.set_cons_zero, List.set_cons_succ, i64_w, i32_w]
     rfl
    refine done_ (by kernel_rfl) ?_
    go_wp2_with fail
    refine bodyPost_ret (results52 _ _ b1 #[.int .u8 25, .int .u64 0, .string ⟨#[]⟩, .slice A12 2 c12] 0 rfl rfl (put4_blk BRj.out _ _ _ _) rfl) rfl ?_
    exact ⟨A12, c12, rfl, put4_R HR12.out (by have := HBx11.out.size; omega) hr12 _ _ _ _, put4_below HBx12.out (by omega) _ _ _ _⟩
   ·have hkb : ((4 : Int) == k) = false := by simp; omega
    have HKN : Aside0 (k = 0 ∨ (4 : Int) < k) := ⟨by omega⟩
    clear hk bX bO
    go_wp2_with fail
    clear p0 p1 p2 p3 y0 y1 y2 y3 y4 y5
    go_roundg (5 - (4 : Int)).toNat
    case measure => rw [HG.out]; omega
    case rel => exact ⟨4, by go_num, ⟨by omega, by omega, HKN.out, rfl⟩, HSx⟩
  by_cases hi : i = 4
  ·subst hi
   have x0 : wr.cell? ⟨bF, 24, none⟩ = some (.int .u8 5) := (blk_cell HSi.out.2.2.1 24).trans rfl
   have x1 : wr.cell? ⟨bF, 25, none⟩ = some (.int .u64 39) := (blk_cell HSi.out.2.2.1 25).trans rfl
   have x2 : wr.cell? ⟨bF, 26, none⟩ = some (.string nmO5) := (blk_cell HSi.out.2.2.1 26).trans rfl
   have x3 : wr.cell? ⟨bF, 27, none⟩ = some (.int .i64 3) := (blk_cell HSi.out.2.2.1 27).trans rfl
   have x4 : wr.cell? ⟨bF, 28, none⟩ = some (.func (.func 113) #[] #[]) := (blk_cell HSi.out.2.2.1 28).trans rfl
   have x5 : wr.cell? ⟨bF, 29, none⟩ = some (.func (.func 115) #[] #[]) := (blk_cell HSi.out.2.2.1 29).trans rfl
   have HSx := Aside0.mk (HSi.out.alloc (.cells #[.int .u8 5, .int .u64 39, .string nmO5, .int .i64 3, .func (.func 113) #[] #[], .func (.func 115) #[] #[]] 105))
   have bX := Blk.new wr #[.int .u8 5, .int .u64 39, .string nmO5, .int .i64 3, .func (.func 113) #[] #[], .func (.func 115) #[] #[]] 105
   go_upto_region 6 with fail
   obtain ⟨bx, ex⟩ : ∃ b, wr.heap.size = b := ⟨_, rfl⟩
   obtain ⟨wx, ew⟩ : ∃ W, wr.alloc (.cells #[.int .u8 5, .int .u64 39, .string nmO5, .int .i64 3, .func (.func 113) #[] #[], .func (.func 115) #[] #[]] 105) = W := ⟨_, rfl⟩
   rw [ew] at HSx bX ⊢
   rw [ex] at bX ⊢
   clear ex ew x0 x1 x2 x3 x4 x5
   have bO := HSx.out.1
   obtain ⟨y0, y1, y2, y3, y4, y5⟩ := bX.six
   obtain ⟨p0, p1, p2, p3⟩ := bO.c4
   by_cases hk : k = 5
   ·subst hk
    clear p0 p1 p2 p3 y0 y1 y2 y3 y4 y5
    obtain ⟨y0, y1, y2, y3, y4, y5⟩ := bX.six
    obtain ⟨p0, p1, p2, p3⟩ := bO.c4
    go_upto_region 7 with fail
    clear p0 p1 p2 p3 y0 y1 y2 y3 y4 y5
    have bR := HSx.out.2.1
    have HBx := Aside0.mk HSx.out.2.2.2
    clear HSx HSi HS3
    refine start_ (n := 9) (S := fun w' => Blk w' bx #[.int .u8 5, .int .u64 39, .string nmO5, .int .i64 3, .func (.func 113) #[] #[], .func (.func 115) #[] #[]] 105 ∧ Blk w' b0 #[.int .u8 5, .int .u64 a, .int .u64 b, .string s] 72 ∧ Blk w' b1 #[.int .u8 0, .int .u64 0, .string ⟨#[]⟩, .slice none 0 0] 25) (ds := [7]) #[false, false, false, false, false, false, false, false, false] (by kernel_rfl) rfl rfl ⟨bX, bO, bR⟩ (fun hS => ?_)
    replace HBx := Aside0.mk (below_drew HBx.out)
    generalize wx.drew = wd13 at HBx hS ⊢
    clear bX bO bR
    refine pure_ (i := 0) (N := some 21) (v := ?_) (a' := ?_) #[true, false, false, false, false, false, false, false, false] rfl rfl (by kernel_rfl) (fun _ _ _ h => h) (Or.inl ⟨by rfl, ?_⟩) ?_ ?_
    rotate_left
    ·intro w'
     go_simp
     with_reducible rfl
    rotate_left
    ·simp only [Act.put, List.setIfInBounds_toArray, List.set_cons_zero, List.set_cons_succ, i64_w, i32_w]
     rfl
    refine take_ (i := 1) (N := some 22) (v := .int .u64 39) #[true, true, false, false, false, false, false, false, false] rfl rfl (by kernel_rfl) (fun _ _ _ h => h) (Or.inl ⟨by rfl, ?_⟩) hS rfl ?_
    ·rintro w' ⟨h0, h1, h2⟩
     obtain ⟨e0, e1, e2, e3, e4, e5⟩ := h0.six
     go_simp
    refine norm_ (a' := ?_) ?_ ?_
    rotate_left
    ·try simp only [Act.put, putAll, List.setIfInBounds_toArray, List.set_cons_zero, List.set_cons_succ]
     rfl
    refine pure_ (i := 2) (N := some 23) (v := ?_) (a' := ?_) #[true, true, true, false, false, false, false, false, false] rfl rfl (by kernel_rfl) (fun _ _ _ h => h) (Or.inl ⟨by rfl, ?_⟩) ?_ ?_
    rotate_left
    ·intro w'
     go_simp
     with_reducible rfl
    rotate_left
    ·simp only [Act.put, List.setIfInBounds_toArray, List.set_cons_zero, List.set_cons_succ, i64_w, i32_w]
     rfl
    refine take_ (i := 3) (N := some 24) (v := .func (.func 113) #[] #[]) #[true, true, true, true, false, false, false, false, false] rfl rfl (by kernel_rfl) (fun _ _ _ h => h) (Or.inl ⟨by rfl, ?_⟩) hS rfl ?_
    ·rintro w' ⟨h0, h1, h2⟩
     obtain ⟨e0, e1, e2, e3, e4, e5⟩ := h0.six
     go_simp
    refine norm_ (a' := ?_) ?_ ?_
    rotate_left
    ·try simp only [Act.put, putAll, List.setIfInBounds_toArray, List.set_cons_zero, List.set_cons_succ]
     rfl
    refine take_ (i := 4) (N := some 25) (v := .agg #[.int .u8 5, .int .u64 a, .int .u64 b, .string s]) #[true, true, true, true, true, false, false, false, false] rfl rfl (by kernel_rfl) (fun _ _ _ h => h) (Or.inl ⟨by rfl, ?_⟩) hS rfl ?_
    ·rintro w' ⟨h0, h1, h2⟩
     obtain ⟨e0, e1, e2, e3⟩ := h1.c4
     go_simp
    refine norm_ (a' := ?_) ?_ ?_
    rotate_left
    ·try simp only [Act.put, putAll, List.setIfInBounds_toArray, List.set_cons_zero, List.set_cons_succ]
     rfl
    refine one_ (i := 5) (N := some 26) #[true, true, true, true, true, true, false, false, false] rfl rfl (by kernel_rfl) (by decide) (fun K hK => ?_)
    refine goesV_ Try.func113 (by kernel_rfl) rfl #[.agg #[.int .u8 5, .int .u64 a, .int .u64 b, .string s]] (by rfl) rfl rfl (by rfl) (by (try simp only [List.map_toArray, List.map_cons, List.map_nil]); first | done | rfl) ?_
    refine (puts113_any 5 a b s _).mono ?_
    rintro e wk14 ⟨A14, c14, rfl, hl14, hC14, hb14⟩
    refine ⟨_, rfl, ?_⟩
    have hS14 : Blk wk14 bx #[.int .u8 5, .int .u64 39, .string nmO5, .int .i64 3, .func (.func 113) #[] #[], .func (.func 115) #[] #[]] 105 ∧ Blk wk14 b0 #[.int .u8 5, .int .u64 a, .int .u64 b, .string s] 72 ∧ Blk wk14 b1 #[.int .u8 0, .int .u64 0, .string ⟨#[]⟩, .slice none 0 0] 25 := ⟨hS.1.below hb14, hS.2.1.below hb14, hS.2.2.below hb14⟩
    have HBx14 := Aside0.mk (below_step HBx.out hb14)
    have HC14 := Aside0.mk hC14
    refine hK.out _ _ hS14 (fun _ => ?_)
    clear hK K hb14 hC14 hS
    refine norm_ (a' := ?_) ?_ ?_
    rotate_left
    ·try simp only [Act.put, putAll, List.setIfInBounds_toArray, List.set_cons_zero, List.set_cons_succ]
     rfl
    refine one_ (i := 6) (N := some 27) #[true, true, true, true, true, true, true, false, false] rfl rfl (by kernel_rfl) (by decide) (fun K hK => ?_)
    refine goes_ Try.func39 (by kernel_rfl) rfl #[.int .u64 39, .slice A14 [truthV a, truthV b].length c14] (by rfl) rfl rfl (by (try simp only [List.map_toArray, List.map_cons, List.map_nil]); first | done | rfl) ?_
    refine (put39_any 39 [truthV a, truthV b] (by simp only [itemsL, truth_items]; omega) A14 c14 _ HC14.out hl14).mono ?_
    rintro e wk15 ⟨A15, c15, rfl, hR15, hb15⟩
    refine ⟨_, rfl, ?_⟩
    have hS15 : Blk wk15 bx #[.int .u8 5, .int .u64 39, .string nmO5, .int .i64 3, .func (.func 113) #[] #[], .func (.func 115) #[] #[]] 105 ∧ Blk wk15 b0 #[.int .u8 5, .int .u64 a, .int .u64 b, .string s] 72 ∧ Blk wk15 b1 #[.int .u8 0, .int .u64 0, .string ⟨#[]⟩, .slice none 0 0] 25 := ⟨hS14.1.below hb15, hS14.2.1.below hb15, hS14.2.2.below hb15⟩
    have HBx15 := Aside0.mk (below_step HBx14.out hb15)
    have HR15 := Aside0.mk hR15
    have hr15 := hS14.2.2.lt
    refine hK.out _ _ hS15 (fun _ => ?_)
    clear hK K hb15 hR15 hS14
    refine norm_ (a' := ?_) ?_ ?_
    rotate_left
    ·try simp only [Act.put, putAll, List.setIfInBounds_toArray, List.set_cons_zero, List.set_cons_succ]
     rfl
    refine last_ (i := 7) (N := none) #[true, true, true, true, true, true, true, true, false] rfl rfl (by kernel_rfl) (by decide) (fun K hK => ?_)
    rw [if_pos (by rfl)]
    have BRj := Aside0.mk hS15.2.2
    obtain ⟨q0, q1, q2, q3⟩ := BRj.out.c4
    have f2 := BRj.out.fz
    clear hS15
    unfold Oper.wp
    go_simp
    refine hK.out _ _ ?_
    clear hK K
    refine norm_ (a' := ?_) ?_ ?_
    rotate_left
    ·try simp only [Act.put, putAll, List.setIfInBounds_toArray, List.set_cons_zero, List.set_cons_succ]
     rfl
    refine pure_ (i := 8) (N := some 3) (v := ?_) (a' := ?_) #[true, true, true, true, true, true, true, true, true] rfl rfl (by kernel_rfl) (fun _ _ _ h => h) (Or.inl ⟨by rfl, ?_⟩) ?_ ?_
    rotate_left
    ·intro w'
     go_simp
     with_reducible rfl
    rotate_left
    ·simp only [Act.put, List.setIfInBounds_toArray, List.set_cons_zero, List.set_cons_succ, i64_w, i32_w]
     rfl
    refine done_ (by kernel_rfl) ?_
    go_wp2_with fail
    refine bodyPost_ret (results52 _ _ b1 #[.int .u8 25, .int .u64 0, .string ⟨#[]⟩, .slice A15 2 c15] 0 rfl rfl (put4_blk BRj.out _ _ _ _) rfl) rfl ?_
    exact ⟨A15, c15, rfl, put4_R HR15.out (by have := HBx14.out.size; omega) hr15 _ _ _ _, put4_below HBx15.out (by omega) _ _ _ _⟩
   ·have hkb : ((5 : Int) == k) = false := by simp; omega
    have HKN : Aside0 (k = 0 ∨ (5 : Int) < k) := ⟨by omega⟩
    clear hk bX bO
    go_wp2_with fail
    clear p0 p1 p2 p3 y0 y1 y2 y3 y4 y5
    go_roundg (5 - (5 : Int)).toNat
    case measure => rw [HG.out]; omega
    case rel => exact ⟨5, by go_num, ⟨by omega, by omega, HKN.out, rfl⟩, HSx⟩
  ·obtain rfl : i = 5 := by omega
   obtain rfl : k = 0 := by omega
   go_wp2_with fail
   refine (null26_any _).mono ?_
   rintro e w4 ⟨rfl, hb4⟩
   have BR4 := Aside0.mk (HSi.out.2.1.below hb4)
   have HB4 := Aside0.mk (below_step HSi.out.2.2.2 hb4)
   obtain ⟨q0, q1, q2, q3⟩ := BR4.out.c4
   have f2 := BR4.out.fz
   clear hb4
   go_wp2_with fail
   refine bodyPost_ret (results52 _ _ b1 #[.int .u8 1, .int .u64 0, .string ⟨#[]⟩, .slice none 0 0] 0 rfl rfl (put4_blk BR4.out _ _ _ _) rfl) rfl ?_
   exact ⟨none, 0, rfl, Kd.R_nil _ _ _ _ _, put4_below HB4.out hw0.2 _ _ _ _⟩
end Go.Proofs.Ytdilbnggedidnaa.PVal
namespace Go.Proofs.Ytdilbnggedidnaa.PVal
open Go.RowKit Go.Shelf Go.Proofs.YtdilbnggedidnaaW.PrintWords Go.Proofs.YtdilbnggedidnaaW.PrintLast
set_option linter.unusedVariables false
set_option linter.unusedSimpArgs false
structure Bg2 (g q : Nat) (w w' : World) : Prop where
 os : w'.os = w.os
 tape : w'.tape = w.tape
 output : w'.output = w.output
 size : w.heap.size ≤ w'.heap.size
 block : ∀ k, k < w.heap.size → k ≠ g → k ≠ q → w'.heap[k]? = w.heap[k]?
theorem Bg2.of {g q : Nat} {w w' : World} (h : Bg g w w') : Bg2 g q w w' := ⟨h.os, h.tape, h.output, h.size, fun k hk hg _ => h.block k hk hg⟩
theorem Bg2.bg {g q : Nat} {a b c : World} (h : Bg2 g q a b) (k : Bg g b c) : Bg2 g q a c := ⟨k.os.trans h.os, k.tape.trans h.tape, k.output.trans h.output, Nat.le_trans h.size k.size, fun i hi hg hq => (k.block i (Nat.lt_of_lt_of_le hi h.size) hg).trans (h.block i hi hg hq)⟩
theorem Bg2.set {g q : Nat} {w w' : World} (h : Bg2 g q w w') (j : Nat) (v : Value) : Bg2 g q w (w'.setCell ⟨q, j, none⟩ v) := ⟨h.os, h.tape, h.output, by simpa [World.setCell] using h.size, fun k hk hg hq => (Below.heap_setCell _ _ _ k hq).trans (h.block k hk hg hq)⟩
theorem Bg2.below {g q B : Nat} {w w' : World} (h : Bg2 g q w w') (hg : B ≤ g) (hq : B ≤ q) (hB : B ≤ w.heap.size) : Below B w w' := ⟨h.os, h.tape, h.output, h.size, fun k hk => h.block k (by omega) (by omega) (by omega)⟩
theorem Blk.bg2 {g q : Nat} {w w' : World} {b : Nat} {cs : Array Value} {t : TypeId} (h : Blk w b cs t) (hb : Bg2 g q w w') (hg : b ≠ g) (hq : b ≠ q) : Blk w' b cs t := (hb.block b h.lt hg hq).trans h
theorem FS.low {w : World} {base g : Nat} {l : List S25} {sp : Bool} (h : FS w base g l sp) {p : Addr} (hp : p.block < base) (hg : base ≤ g) (v : Value) : FS (w.setCell p v) base g l sp := by
 obtain ⟨A, c, h1, h2⟩ := h
 exact ⟨A, c, h1.far (by omega) v, Kd.R_mono (Kd.R_far (Kd.R_bound h2) (fun k hk => by have := hk.2.1; omega) v) (fun k hk => hk.1)⟩
def GotPost (ob g base : Nat) (l : List S25) (sp : Bool) (o : Out) (w : World) (e : Ending) (w' : World) : Prop :=
 e = .returned (.tuple #[]) ∧ Blk w' ob #[.int .u8 o.k, .int .u64 o.a, .int .u64 o.b, .string o.cond] 72 ∧ FS w' base g l sp ∧ Bg2 g ob w w'
theorem spoil_any (l : List S25) (i : Int) : spoilP l i false (kindsP []) = false := by
 unfold spoilP
 cases atF l i <;> rfl
theorem tell_any (l : List S25) (i : Int) : tellP l i (kindsP []) (fun x => x) vNul = (atF l i).getD vNul := by
 unfold tellP
 cases atF l i <;> rfl
set_option maxRecDepth 100000 in
set_option maxHeartbeats 2000000 in
theorem gets108_any {w : World} {base g ob : Nat} {l : List S25} {sp : Bool} (hf : FS w base g l sp) (hob : ob < base) (hbg : base ≤ g) (k a b : Int) (s : ByteArray) (hO : Blk w ob #[.int .u8 k, .int .u64 a, .int .u64 b, .string s] 72) :
  Calls Try.prog 108 #[.pointer (some ⟨ob, 0, none⟩), .pointer (some ⟨g, 0, none⟩)] w (GotPost ob g base l ((sp || spoilP l 0 true K5) || spoilP l 1 true K6) ⟨k, tellP l 0 K5 (fun x => x.f1) 0, tellP l 1 K6 (fun x => x.f1) 0, s⟩ w) := by
 have HF := Aside0.mk hf
 have HO := Aside0.mk hO
 have hne : ob ≠ g := by omega
 clear hf hO
 go_enter Try.func108, Try.ntmps108
 go_wp2_with fail
 refine (number66_any HF.out 0 5 true 0).mono ?_
 rintro e w2 ⟨rfl, hfs, hb2⟩
 have HF2 := Aside0.mk hfs
 have HO2 := Aside0.mk (HO.out.bg hb2 hne)
 have HB2 := Aside0.mk hb2
 clear hfs hb2
 go_wp2_with fail
 refine (number66_any HF2.out 1 6 true 0).mono ?_
 rintro e w3 ⟨rfl, hfs, hb3⟩
 have HF3 := Aside0.mk hfs
 have bO3 := HO2.out.bg hb3 hne
 have HO3 := Aside0.mk bO3
 have HB3 := Aside0.mk (HB2.out.trans hb3)
 obtain ⟨q0, q1, q2, q3⟩ := bO3.c4
 have f3 := bO3.fz
 clear hfs hb3 bO3
 obtain ⟨a', ea⟩ : ∃ x, tellP l 0 (kindP [5]) (fun x => x.f1) 0 = x := ⟨_, rfl⟩
 obtain ⟨b', eb⟩ : ∃ x, tellP l 1 (kindP [6]) (fun x => x.f1) 0 = x := ⟨_, rfl⟩
 have EA := Aside0.mk ea
 have EB := Aside0.mk eb
 rw [ea, eb]
 clear ea eb
 go_wp2_with fail
 go_end0
 refine ⟨rfl, ?_, (HF3.out.low (p := ⟨ob, 1, none⟩) hob hbg _).low (p := ⟨ob, 2, none⟩) hob hbg _, ((Bg2.of HB3.out).set 1 _).set 2 _⟩
 show Blk _ ob #[.int .u8 k, .int .u64 (tellP l 0 (kindP [5]) (fun x => x.f1) 0), .int .u64 (tellP l 1 (kindP [6]) (fun x => x.f1) 0), .string s] 72
 rw [EA.out, EB.out]
 refine blk_put (cs := #[.int .u8 k, .int .u64 a', .int .u64 b, .string s]) ?_ 2 _ rfl
 exact blk_put (cs := #[.int .u8 k, .int .u64 a, .int .u64 b, .string s]) HO3.out 1 _ rfl
set_option maxRecDepth 100000 in
set_option maxHeartbeats 2000000 in
theorem gets110_any {w : World} {base g ob : Nat} {l : List S25} {sp : Bool} (hf : FS w base g l sp) (hob : ob < base) (hbg : base ≤ g) (k a b : Int) (s : ByteArray) (hO : Blk w ob #[.int .u8 k, .int .u64 a, .int .u64 b, .string s] 72) :
  Calls Try.prog 110 #[.pointer (some ⟨ob, 0, none⟩), .pointer (some ⟨g, 0, none⟩)] w (GotPost ob g base l sp ⟨k, a, b, s⟩ w) := by
 have HF := Aside0.mk hf
 have HO := Aside0.mk hO
 have hne : ob ≠ g := by omega
 clear hf hO
 go_enter Try.func110, Try.ntmps110
 go_wp2_with fail
 go_end0
 exact ⟨rfl, HO.out, HF.out, Bg2.of (Bg.refl g w)⟩
set_option maxRecDepth 100000 in
set_option maxHeartbeats 2000000 in
theorem gets115_any {w : World} {base g ob : Nat} {l : List S25} {sp : Bool} (hf : FS w base g l sp) (hob : ob < base) (hbg : base ≤ g) (hk : ∀ x ∈ l, itemsN x ≤ 4294967296) (k a b : Int) (s : ByteArray) (hO : Blk w ob #[.int .u8 k, .int .u64 a, .int .u64 b, .string s] 72) :
  Calls Try.prog 115 #[.pointer (some ⟨ob, 0, none⟩), .pointer (some ⟨g, 0, none⟩)] w (GotPost ob g base l (((sp || spoilP l 0 false K2) || spoilP l 1 false K2) || spoilP l 2 false K23) ⟨k, tellP l 0 K2 (fun x => x.f1) 0, tellP l 1 K2 (fun x => x.f1) 0, s⟩ w) := by
 have HF := Aside0.mk hf
 have HO := Aside0.mk hO
 have hne : ob ≠ g := by omega
 clear hf hO
 go_enter Try.func115, Try.ntmps115
 go_wp2_with fail
 refine (number66_any HF.out 0 2 false 0).mono ?_
 rintro e w2 ⟨rfl, hfs, hb2⟩
 have HF2 := Aside0.mk hfs
 have HO2 := Aside0.mk (HO.out.bg hb2 hne)
 have HB2 := Aside0.mk hb2
 clear hfs hb2
 go_wp2_with fail
 refine (number66_any HF2.out 1 2 false 0).mono ?_
 rintro e w3 ⟨rfl, hfs, hb3⟩
 have HF3 := Aside0.mk hfs
 have bO3 := HO2.out.bg hb3 hne
 have HO3 := Aside0.mk bO3
 have HB3 := Aside0.mk (HB2.out.trans hb3)
 obtain ⟨q0, q1, q2, q3⟩ := bO3.c4
 have f3 := bO3.fz
 clear hfs hb3 bO3
 obtain ⟨a', ea⟩ : ∃ x, tellP l 0 (kindP [2]) (fun x => x.f1) 0 = x := ⟨_, rfl⟩
 obtain ⟨b', eb⟩ : ∃ x, tellP l 1 (kindP [2]) (fun x => x.f1) 0 = x := ⟨_, rfl⟩
 have EA := Aside0.mk ea
 have EB := Aside0.mk eb
 rw [ea, eb]
 clear ea eb
 have HKI := Aside0.mk hk
 clear hk
 go_upto_region 1 with fail
 have bO4 : Blk ((w3.setCell ⟨ob, 1, none⟩ (.int .u64 a')).setCell ⟨ob, 2, none⟩ (.int .u64 b')) ob #[.int .u8 k, .int .u64 a', .int .u64 b', .string s] 72 := by
  refine blk_put (cs := #[.int .u8 k, .int .u64 a', .int .u64 b, .string s]) ?_ 2 _ rfl
  exact blk_put (cs := #[.int .u8 k, .int .u64 a, .int .u64 b, .string s]) HO3.out 1 _ rfl
 have HF4 := Aside0.mk ((HF3.out.low (p := ⟨ob, 1, none⟩) hob hbg (.int .u64 a')).low (p := ⟨ob, 2, none⟩) hob hbg (.int .u64 b'))
 have HB4 := Aside0.mk (((Bg2.of (q := ob) HB3.out).set 1 (.int .u64 a')).set 2 (.int .u64 b'))
 obtain ⟨w4, e4⟩ : ∃ W, (w3.setCell ⟨ob, 1, none⟩ (.int .u64 a')).setCell ⟨ob, 2, none⟩ (.int .u64 b') = W := ⟨_, rfl⟩
 rw [e4] at bO4 HF4 HB4 ⊢
 clear e4 q0 q1 q2 q3 f3
 have HO4 := Aside0.mk bO4
 clear bO4
 go_wp2_with fail
 have bK := Blk.new w4 #[.int .u8 23] 5
 have hal5 := below_alloc (Below.refl w4.heap.size w4) (.cells #[.int .u8 23] 5)
 have HCK : Aside0 (Kd.C (Kd.int .u8) (w4.alloc (.cells #[.int .u8 23] 5)) (some ⟨w4.heap.size, 0, none⟩) [(23 : Int)].length [23]) := ⟨C_u8 bK⟩
 have HF5 := Aside0.mk (HF4.out.below hal5)
 have HB5 := Aside0.mk (HB4.out.bg (Bg.of hal5))
 have HO5 := Aside0.mk (HO4.out.below hal5)
 clear bK hal5
 refine (value77_any HF5.out HKI.out 2 [23] _ 1 HCK.out (by decide)).mono ?_
 rintro e w6 ⟨A6, c6, rfl, hR6, hfs, hbg6⟩
 have HF6 := Aside0.mk hfs.fs
 have HB6 := Aside0.mk (HB5.out.bg hbg6)
 have HO6 := Aside0.mk (HO5.out.bg hbg6 hne)
 clear hfs hbg6 hR6
 go_wp2_with fail
 go_end0
 refine ⟨rfl, ?_, HF6.out, HB6.out⟩
 show Blk _ ob #[.int .u8 k, .int .u64 (tellP l 0 (kindP [2]) (fun x => x.f1) 0), .int .u64 (tellP l 1 (kindP [2]) (fun x => x.f1) 0), .string s] 72
 rw [EA.out, EB.out]
 exact HO6.out
set_option maxRecDepth 100000 in
set_option maxHeartbeats 2000000 in
theorem gets112_any {w : World} {base g ob : Nat} {l : List S25} {sp : Bool} (hf : FS w base g l sp) (hob : ob < base) (hbg : base ≤ g) (hk : ∀ x ∈ l, itemsN x ≤ 4294967296) (ho : okL l) (k a b : Int) (s : ByteArray) (hO : Blk w ob #[.int .u8 k, .int .u64 a, .int .u64 b, .string s] 72) :
  Calls Try.prog 112 #[.pointer (some ⟨ob, 0, none⟩), .pointer (some ⟨g, 0, none⟩)] w (GotPost ob g base l (sp || !(getCondF ((atF l 0).getD vNul)).isSome) ⟨k, a, b, (getCondF ((atF l 0).getD vNul)).getD ⟨#[]⟩⟩ w) := by
 have HF := Aside0.mk hf
 have HO := Aside0.mk hO
 have hne : ob ≠ g := by omega
 clear hf hO
 have hv : itemsN ((atF l 0).getD vNul) ≤ 4294967296 ∧ okV ((atF l 0).getD vNul) := by
  cases hq : atF l 0 with
  | none => exact ⟨by decide, ok_vb _ (by kernel_rfl)⟩
  | some x => exact ⟨hk x (atF_mem hq), okL_mem ho (atF_mem hq)⟩
 have HV := Aside0.mk hv
 have HKI := Aside0.mk hk
 clear hv hk ho
 go_enter Try.func112, Try.ntmps112
 go_wp2_with fail
 refine (value77_any HF.out HKI.out 0 [] none 0 ⟨rfl, by simp, fun h => absurd h (by simp)⟩ (Nat.le_refl _)).mono ?_
 rintro e w2 hp
 rw [tell_any, spoil_any, Bool.or_false] at hp
 obtain ⟨A2, c2, rfl, hR2, hfs, hb2⟩ := hp
 obtain ⟨v, ev⟩ : ∃ v, (atF l 0).getD vNul = v := ⟨_, rfl⟩
 have EV := Aside0.mk ev
 rw [ev] at hR2 HV ⊢
 clear ev
 have HC2 := Aside0.mk (Kd.R_reads' hR2).2
 have HF2 := Aside0.mk hfs.fs
 have HO2 := Aside0.mk (HO.out.bg hb2 hne)
 have HB2 := Aside0.mk hb2
 clear hfs hb2 hR2
 go_wp2_with fail
 refine (getCond55_any v HV.out.1 HV.out.2 A2 c2 _ HC2.out.2 HC2.out.1).mono ?_
 rintro e w3 ⟨he, hb3⟩
 have HF3 := Aside0.mk (HF2.out.below hb3)
 have HB3 := Aside0.mk (HB2.out.trans (Bg.of hb3))
 have HO3 := Aside0.mk (HO2.out.below hb3)
 clear hb3
 cases hg : getCondF v with
 | some c =>
  have EG : Aside0 (getCondF ((atF l 0).getD vNul) = some c) := ⟨by rw [EV.out]; exact hg⟩
  rw [hg] at he
  clear hg
  replace he : e = .returned (.tuple #[.string c, .int .i64 0]) := he
  subst he
  obtain ⟨q0, q1, q2, q3⟩ := HO3.out.c4
  have f3 := HO3.out.fz
  go_wp2_with fail
  go_end0
  refine ⟨rfl, ?_, ?_, (Bg2.of HB3.out).set 3 _⟩
  ·rw [EG.out]
   exact blk_put (cs := #[.int .u8 k, .int .u64 a, .int .u64 b, .string s]) HO3.out 3 _ rfl
  ·rw [EG.out]
   show FS _ base g l (sp || false)
   rw [Bool.or_false]
   exact HF3.out.low (p := ⟨ob, 3, none⟩) hob hbg _
 | none =>
  have EG : Aside0 (getCondF ((atF l 0).getD vNul) = none) := ⟨by rw [EV.out]; exact hg⟩
  rw [hg] at he
  clear hg
  replace he : e = .returned (.tuple #[.string ⟨#[]⟩, .int .i64 6]) := he
  subst he
  go_wp2_with fail
  refine (spoil50_any HF3.out).mono ?_
  rintro e w4 ⟨rfl, hfs, hb4⟩
  have HF4 := Aside0.mk hfs
  have HO4 := Aside0.mk (HO3.out.bg hb4 hne)
  have HB4 := Aside0.mk (HB3.out.trans hb4)
  clear hfs hb4
  obtain ⟨q0, q1, q2, q3⟩ := HO4.out.c4
  have f3 := HO4.out.fz
  go_wp2_with fail
  go_end0
  refine ⟨rfl, ?_, ?_, (Bg2.of HB4.out).set 3 _⟩
  ·rw [EG.out]
   exact blk_put (cs := #[.int .u8 k, .int .u64 a, .int .u64 b, .string s]) HO4.out 3 _ rfl
  ·rw [EG.out]
   show FS _ base g l (sp || true)
   rw [Bool.or_true]
   exact HF4.out.low (p := ⟨ob, 3, none⟩) hob hbg _
end Go.Proofs.Ytdilbnggedidnaa.PVal
namespace Go.Proofs.Ytdilbnggedidnaa.PVal
open Go.RowKit Go.Shelf Go.Proofs.YtdilbnggedidnaaW.PrintWords Go.Proofs.YtdilbnggedidnaaW.PrintLast
set_option linter.unusedVariables false
set_option linter.unusedSimpArgs false
theorem results53 (tmps : Array Value) (w : World) (g : Nat) (cs : Array Value) (n : Int) (hcs : cs.size = 4) (hp : tmps.getD 2 undef = .pointer (some ⟨g, 0, none⟩)) (hg : Blk w g cs 72) (hb : tmps.getD 3 undef = .int .i64 n) :
  (results Try.f53 tmps).run Try.prog w = .ok (.tuple #[.agg cs, .int .i64 n]) w := by
 have h1 : tmps[2]?.getD undef = .pointer (some ⟨g, 0, none⟩) := by simpa using hp
 have h2 : tmps[3]?.getD undef = .int .i64 n := by simpa using hb
 have hi : (Try.prog.info? 72).map (·.size) = some cs.size := by rw [hcs]; kernel_rfl
 have hr := run_loadVar_row (P := Try.prog) w g 72 72 cs (0, 0) _ hg Try.underlying72 rfl hi
 simp [results, Try.f53, h1, h2, asAddr, hr]
def OutErr (r : Option Out) (w : World) (e : Ending) (w' : World) : Prop :=
 e = .returned (.tuple #[.agg #[.int .u8 (r.getD zOut).k, .int .u64 (r.getD zOut).a, .int .u64 (r.getD zOut).b, .string (r.getD zOut).cond], .int .i64 (if r.isSome then 0 else 6)]) ∧ Below w.heap.size w w'
def GetS (w : World) (v : S25) (A : Option Addr) (c : Nat) (b0 b1 bF : Nat) (wr : World) : Prop := Blk wr b0 #[.int .u8 v.f0, .int .u64 v.f1, .string v.f2, .slice A v.f3.length c] 25 ∧ Blk wr b1 #[.int .u8 0, .int .u64 0, .int .u64 0, .string ⟨#[]⟩] 72 ∧ Blk wr bF formC 105 ∧ k25.C wr A v.f3.length v.f3 ∧ Below w.heap.size w wr
theorem GetS.below {w : World} {v : S25} {A : Option Addr} {c b0 b1 bF : Nat} {wr wx : World} (h : GetS w v A c b0 b1 bF wr) (hb : Below wr.heap.size wr wx) : GetS w v A c b0 b1 bF wx := ⟨h.1.below hb, h.2.1.below hb, h.2.2.1.below hb, Kd.C_below h.2.2.2.1 hb, below_step h.2.2.2.2 hb⟩
theorem getFrom_none {v : S25} {n : Nat} {k : Int} (h : newF v (34 + k) (nmO k) = none) : getFrom v (n + 1) k = getFrom v n (k + 1) := by rw [getFrom, h]
theorem getFrom_some {v : S25} {n : Nat} {k : Int} {l : List S25} (h : newF v (34 + k) (nmO k) = some l) : getFrom v (n + 1) k = getK k l := by rw [getFrom, h]
theorem getK_1 (l : List S25) : getK 1 l = if doneN l (spoilP l 0 true K5 || spoilP l 1 true K6) 2 = 0 then some ⟨1, tellP l 0 K5 (fun x => x.f1) 0, tellP l 1 K6 (fun x => x.f1) 0, ⟨#[]⟩⟩ else none := rfl
theorem getK_2 (l : List S25) : getK 2 l = if doneN l false 0 = 0 then some ⟨2, 0, 0, ⟨#[]⟩⟩ else none := rfl
theorem getK_3 (l : List S25) : getK 3 l = if doneN l (!(getCondF ((atF l 0).getD vNul)).isSome) 1 = 0 then some ⟨3, 0, 0, (getCondF ((atF l 0).getD vNul)).getD ⟨#[]⟩⟩ else none := rfl
theorem getK_4 (l : List S25) : getK 4 l = if doneN l false 0 = 0 then some ⟨4, 0, 0, ⟨#[]⟩⟩ else none := rfl
theorem getK_5 (l : List S25) : getK 5 l = if doneN l ((spoilP l 0 false K2 || spoilP l 1 false K2) || spoilP l 2 false K23) 3 = 0 then some ⟨5, tellP l 0 K2 (fun x => x.f1) 0, tellP l 1 K2 (fun x => x.f1) 0, ⟨#[]⟩⟩ else none := rfl
theorem newF_ok {v : S25} {code : Int} {name : ByteArray} {l : List S25} (ho : okV v) (h : newF v code name = some l) : okL l := by
 obtain ⟨hr, h25, _, rfl⟩ := newF_right h
 obtain ⟨a, b, hab⟩ := desc_two hr h25
 have hb : rd_T25 v.f3 1 = b := by rw [hab]; rfl
 rw [okV_eq, hab, okL, okL, okV_eq b] at ho
 rw [hb]
 exact ho.2.2.1.2
theorem put4_any {W : World} {r : Nat} {z0 z1 z2 z3 : Value} {t : TypeId} (h : Blk W r #[z0, z1, z2, z3] t) (a0 a1 a2 a3 : Value) : Blk ((((W.setCell ⟨r, 0, none⟩ a0).setCell ⟨r, 1, none⟩ a1).setCell ⟨r, 2, none⟩ a2).setCell ⟨r, 3, none⟩ a3) r #[a0, a1, a2, a3] t := put4_blk h a0 a1 a2 a3
theorem below_set4 {w W : World} {r : Nat} {a0 a1 a2 a3 : Value} (h : Below w.heap.size w W) (hr : w.heap.size ≤ r) : Below w.heap.size w ((((W.setCell ⟨r, 0, none⟩ a0).setCell ⟨r, 1, none⟩ a1).setCell ⟨r, 2, none⟩ a2).setCell ⟨r, 3, none⟩ a3) := put4_below h hr a0 a1 a2 a3
set_option maxRecDepth 100000 in
set_option maxHeartbeats 8000000 in
theorem get53_any (v : S25) (hs : itemsN v ≤ 4294967296) (ho : okV v) (A : Option Addr) (c : Nat) (w : World) (ha : k25.C w A v.f3.length v.f3) (hc : v.f3.length ≤ c) :
  Calls Try.prog 53 #[.agg #[.int .u8 v.f0, .int .u64 v.f1, .string v.f2, .slice A v.f3.length c]] w (OutErr (getOF v) w) := by
 have HO := Aside0.mk ho
 have hal0 := below_alloc (Below.refl w.heap.size w) (.cells #[.int .u8 v.f0, .int .u64 v.f1, .string v.f2, .slice A v.f3.length c] 25)
 have hal := below_alloc hal0 (.cells #[.int .u8 0, .int .u64 0, .int .u64 0, .string ⟨#[]⟩] 72)
 have bV := (Blk.new w #[.int .u8 v.f0, .int .u64 v.f1, .string v.f2, .slice A v.f3.length c] 25).alloc (.cells #[.int .u8 0, .int .u64 0, .int .u64 0, .string ⟨#[]⟩] 72)
 have bR := Blk.new (w.alloc (.cells #[.int .u8 v.f0, .int .u64 v.f1, .string v.f2, .slice A v.f3.length c] 25)) #[.int .u8 0, .int .u64 0, .int .u64 0, .string ⟨#[]⟩] 72
 rw [World.size_alloc] at bR
 have HA1 := Aside0.mk (Kd.C_below ha hal)
 clear ho ha hal0
 go_enter Try.func53, Try.ntmps53
 go_wp2_with fail
 go_step3
 obtain ⟨w1, e1⟩ : ∃ W, (w.alloc (.cells #[.int .u8 v.f0, .int .u64 v.f1, .string v.f2, .slice A v.f3.length c] 25)).alloc (.cells #[.int .u8 0, .int .u64 0, .int .u64 0, .string ⟨#[]⟩] 72) = W := ⟨_, rfl⟩
 rw [e1] at bV bR hal HA1 ⊢
 clear e1
 have HB1 := Aside0.mk hal
 have BR1 := Aside0.mk bR
 have BV1 := Aside0.mk bV
 obtain ⟨p0, p1, p2, p3⟩ := bV.c4
 clear hal
 by_cases h1 : v.f0 = 1
 ·have HGF : Aside0 (getOF v = some zOut) := ⟨by unfold getOF; rw [if_pos h1]⟩
  have h1' : (v.f0 == 1) = true := by simpa using h1
  clear h1 bV
  obtain ⟨q0, q1, q2, q3⟩ := bR.c4
  have f2 := bR.fz
  clear bR
  go_wp2_with fail
  refine bodyPost_ret (results53 _ _ (w.heap.size + 1) #[.int .u8 0, .int .u64 0, .int .u64 0, .string ⟨#[]⟩] 0 rfl rfl (put4_any BR1.out _ _ _ _) rfl) rfl ?_
  exact ⟨by rw [HGF.out]; rfl, below_set4 HB1.out (by omega)⟩
 have HG0 : Aside0 (getOF v = getFrom v (5 - (0 : Int)).toNat (1 + 0)) := ⟨by unfold getOF; rw [if_neg h1]; rfl⟩
 have h1' : (v.f0 == 1) = false := by simpa using h1
 clear h1 bV bR
 go_wp2_with fail
 go_step3
 go_wp2_with fail
 refine (forms85_any _).mono ?_
 rintro e w3 ⟨rfl, hw3⟩
 clear p0 p1 p2 p3 h1'
 obtain ⟨bF, ebF⟩ : ∃ b, w1.heap.size = b := ⟨_, rfl⟩
 have HS3 : Aside0 (GetS w v A c w.heap.size (w.heap.size + 1) bF w3) := ⟨by
  have hal := below_alloc (Below.refl w1.heap.size w1) (.cells formC 105)
  rw [hw3, ← ebF]
  exact ⟨BV1.out.below hal, BR1.out.below hal, Blk.new w1 formC 105, Kd.C_below HA1.out hal, below_step HB1.out hal⟩⟩
 rw [ebF]
 clear ebF hw3 BV1 BR1 HB1 HA1
 obtain ⟨b0, eb0⟩ : ∃ b, w.heap.size = b := ⟨_, rfl⟩
 obtain ⟨b1, eb1⟩ : ∃ b, w.heap.size + 1 = b := ⟨_, rfl⟩
 rw [eb1, eb0] at HS3 ⊢
 have hw0 : w.heap.size ≤ b0 ∧ w.heap.size ≤ b1 := by omega
 clear eb0 eb1
 go_wp2_with fail
 go_loopg [3, 5, 6, 7, 14] 5 (fun gk v3 v5 v6 v7 v14 wr => ∃ i : Int, v3 = .int .i64 6 ∧ v14 = .int .i64 i ∧ Aside0 (0 ≤ i ∧ i ≤ 5 ∧ gk = (5 - i).toNat) ∧ Aside0 (getOF v = getFrom v (5 - i).toNat (1 + i)) ∧ Aside0 (GetS w v A c b0 b1 bF wr))
 case atStart => exact ⟨0, rfl, rfl, ⟨by omega, by omega, rfl⟩, HG0, HS3⟩
 case round =>
  obtain ⟨i, rfl, rfl, HI, HGF, HSi⟩ := hrel
  obtain ⟨hi0, hi5, hgk⟩ := HI.out
  have HG := Aside0.mk hgk
  clear HI hgk
  by_cases hi : i = 0
  ·subst hi
   have x0 : wr.cell? ⟨bF, 0, none⟩ = some (.int .u8 1) := (blk_cell HSi.out.2.2.1 0).trans rfl
   have x1 : wr.cell? ⟨bF, 1, none⟩ = some (.int .u64 35) := (blk_cell HSi.out.2.2.1 1).trans rfl
   have x2 : wr.cell? ⟨bF, 2, none⟩ = some (.string nmO1) := (blk_cell HSi.out.2.2.1 2).trans rfl
   have x3 : wr.cell? ⟨bF, 3, none⟩ = some (.int .i64 2) := (blk_cell HSi.out.2.2.1 3).trans rfl
   have x4 : wr.cell? ⟨bF, 4, none⟩ = some (.func (.func 107) #[] #[]) := (blk_cell HSi.out.2.2.1 4).trans rfl
   have x5 : wr.cell? ⟨bF, 5, none⟩ = some (.func (.func 108) #[] #[]) := (blk_cell HSi.out.2.2.1 5).trans rfl
   have bX := Blk.new wr #[.int .u8 1, .int .u64 35, .string nmO1, .int .i64 2, .func (.func 107) #[] #[], .func (.func 108) #[] #[]] 105
   have hal := below_alloc (Below.refl wr.heap.size wr) (.cells #[.int .u8 1, .int .u64 35, .string nmO1, .int .i64 2, .func (.func 107) #[] #[], .func (.func 108) #[] #[]] 105)
   have HSx := Aside0.mk (HSi.out.below hal)
   have hbr := HSi.out.2.1.lt
   clear hal
   go_upto_region 7 with fail
   obtain ⟨bx, ex⟩ : ∃ b, wr.heap.size = b := ⟨_, rfl⟩
   obtain ⟨wx, ew⟩ : ∃ W, wr.alloc (.cells #[.int .u8 1, .int .u64 35, .string nmO1, .int .i64 2, .func (.func 107) #[] #[], .func (.func 108) #[] #[]] 105) = W := ⟨_, rfl⟩
   rw [ew] at HSx bX ⊢
   rw [ex] at bX hbr ⊢
   clear ex ew x0 x1 x2 x3 x4 x5
   have bV := HSx.out.1
   have BX := Aside0.mk bX
   obtain ⟨y0, y1, y2, y3, y4, y5⟩ := bX.six
   obtain ⟨p0, p1, p2, p3⟩ := bV.c4
   clear bX bV
   have hxl := BX.out.lt
   cases hnew : newF v 35 nmO1 with
   | none =>
    have HN := Aside0.mk hnew
    have HGn : Aside0 (getOF v = getFrom v (5 - (1 : Int)).toNat (1 + 1)) := ⟨HGF.out.trans (getFrom_none (n := 4) (k := 1) hnew)⟩
    clear hnew
    go_wp2_with fail
    refine (new44_no v hs HO.out 35 nmO1 A c _ HSx.out.2.2.2.1 hc HN.out).mono ?_
    rintro e w4 ⟨rfl, hb4⟩
    have HS4 := Aside0.mk (HSx.out.below hb4)
    clear hb4 p0 p1 p2 p3 y0 y1 y2 y3 y4 y5
    go_wp2_with fail
    go_roundg (5 - (1 : Int)).toNat
    case measure => rw [HG.out]; omega
    case rel => exact ⟨1, rfl, by go_num, ⟨by omega, by omega, rfl⟩, HGn, HS4⟩
   | some l =>
    have HN := Aside0.mk hnew
    have hil := newF_items hnew
    have hol := newF_ok HO.out hnew
    have HKI : Aside0 ((∀ x ∈ l, itemsN x ≤ 4294967296) ∧ okL l) := ⟨fun x hx => by have := itemsL_mem hx; omega, hol⟩
    have HGn : Aside0 (getOF v = getK 1 l) := ⟨HGF.out.trans (getFrom_some (n := 4) (k := 1) hnew)⟩
    rw [getK_1] at HGn
    clear hnew hil hol
    go_wp2_with fail
    refine (new44_yes v hs HO.out 35 nmO1 A c _ HSx.out.2.2.2.1 hc HN.out).mono ?_
    rintro e w3 ⟨g, rfl, hgx, hfs, hb3⟩
    have HS3 := Aside0.mk (HSx.out.below hb3)
    have HF3 := Aside0.mk hfs
    have BX3 := Aside0.mk (BX.out.below hb3)
    have hb1 : b1 < wx.heap.size := by omega
    have hw3 := HSx.out.2.2.2.2.size
    clear hb3 p0 p1 p2 p3 y0 y1 y2 y3 y4 y5 hfs
    obtain ⟨y0, y1, y2, y3, y4, y5⟩ := BX3.out.six
    obtain ⟨q0, q1, q2, q3⟩ := HS3.out.2.1.c4
    have f2 := HS3.out.2.1.fz
    go_upto_region 9 with fail
    have HF4 := Aside0.mk (HF3.out.low (p := ⟨b1, 0, none⟩) hb1 hgx (.int .u8 1))
    have HO4 : Aside0 (Blk (w3.setCell ⟨b1, 0, none⟩ (.int .u8 1)) b1 #[.int .u8 1, .int .u64 0, .int .u64 0, .string ⟨#[]⟩] 72) := ⟨blk_put (cs := #[.int .u8 0, .int .u64 0, .int .u64 0, .string ⟨#[]⟩]) HS3.out.2.1 0 _ rfl⟩
    have BX4 := Aside0.mk (BX3.out.far (p := ⟨b1, 0, none⟩) (show bx ≠ b1 by omega) (.int .u8 1))
    have HB4 : Aside0 (Below w.heap.size w (w3.setCell ⟨b1, 0, none⟩ (.int .u8 1))) := ⟨below_set HS3.out.2.2.2.2 (by omega)⟩
    obtain ⟨w4, e4⟩ : ∃ W, w3.setCell ⟨b1, 0, none⟩ (.int .u8 1) = W := ⟨_, rfl⟩
    rw [e4] at HF4 HO4 BX4 HB4 ⊢
    clear e4 y0 y1 y2 y3 y4 y5 q0 q1 q2 q3 f2
    obtain ⟨y0, y1, y2, y3, y4, y5⟩ := BX4.out.six
    go_wp2_with fail
    refine (gets108_any HF4.out hb1 hgx 1 0 0 ⟨#[]⟩ HO4.out).mono ?_
    rintro e w5 ⟨rfl, hO5, hf5, hB5⟩
    replace hf5 : FS w5 wx.heap.size g l (spoilP l 0 true K5 || spoilP l 1 true K6) := hf5
    have HO5 := Aside0.mk hO5
    have HF5 := Aside0.mk hf5
    have BX5 := Aside0.mk (BX4.out.bg2 hB5 (by omega) (by omega))
    have HB5 := Aside0.mk (HB4.out.trans (hB5.below (by omega) (by omega) HB4.out.size))
    clear hO5 hf5 hB5 y0 y1 y2 y3 y4 y5
    obtain ⟨y0, y1, y2, y3, y4, y5⟩ := BX5.out.six
    go_wp2_with fail
    refine (done43_any HF5.out 2).mono ?_
    rintro e w6 ⟨he, rfl⟩
    clear y0 y1 y2 y3 y4 y5
    obtain ⟨q0, q1, q2, q3⟩ := HO5.out.c4
    have f2 := HO5.out.fz
    rcases done_or l (spoilP l 0 true K5 || spoilP l 1 true K6) 2 with hd | hd
    ·rw [if_pos hd] at HGn
     rw [hd] at he
     subst he
     clear hd
     go_wp2_with fail
     refine bodyPost_ret (results53 _ _ b1 #[.int .u8 _, .int .u64 _, .int .u64 _, .string _] 0 rfl rfl (put4_any HO5.out _ _ _ _) rfl) rfl ?_
     exact ⟨by rw [HGn.out]; rfl, below_set4 HB5.out (by omega)⟩
    ·rw [if_neg (by rw [hd]; decide)] at HGn
     rw [hd] at he
     subst he
     clear hd
     go_wp2_with fail
     refine bodyPost_ret (results53 _ _ b1 #[.int .u8 0, .int .u64 0, .int .u64 0, .string ⟨#[]⟩] 6 rfl rfl (put4_any HO5.out _ _ _ _) rfl) rfl ?_
     exact ⟨by rw [HGn.out]; rfl, below_set4 HB5.out (by omega)⟩
  by_cases hi : i = 1
  ·subst hi
   have x0 : wr.cell? ⟨bF, 6, none⟩ = some (.int .u8 2) := (blk_cell HSi.out.2.2.1 6).trans rfl
   have x1 : wr.cell? ⟨bF, 7, none⟩ = some (.int .u64 36) := (blk_cell HSi.out.2.2.1 7).trans rfl
   have x2 : wr.cell? ⟨bF, 8, none⟩ = some (.string nmO2) := (blk_cell HSi.out.2.2.1 8).trans rfl
   have x3 : wr.cell? ⟨bF, 9, none⟩ = some (.int .i64 0) := (blk_cell HSi.out.2.2.1 9).trans rfl
   have x4 : wr.cell? ⟨bF, 10, none⟩ = some (.func (.func 109) #[] #[]) := (blk_cell HSi.out.2.2.1 10).trans rfl
   have x5 : wr.cell? ⟨bF, 11, none⟩ = some (.func (.func 110) #[] #[]) := (blk_cell HSi.out.2.2.1 11).trans rfl
   have bX := Blk.new wr #[.int .u8 2, .int .u64 36, .string nmO2, .int .i64 0, .func (.func 109) #[] #[], .func (.func 110) #[] #[]] 105
   have hal := below_alloc (Below.refl wr.heap.size wr) (.cells #[.int .u8 2, .int .u64 36, .string nmO2, .int .i64 0, .func (.func 109) #[] #[], .func (.func 110) #[] #[]] 105)
   have HSx := Aside0.mk (HSi.out.below hal)
   have hbr := HSi.out.2.1.lt
   clear hal
   go_upto_region 7 with fail
   obtain ⟨bx, ex⟩ : ∃ b, wr.heap.size = b := ⟨_, rfl⟩
   obtain ⟨wx, ew⟩ : ∃ W, wr.alloc (.cells #[.int .u8 2, .int .u64 36, .string nmO2, .int .i64 0, .func (.func 109) #[] #[], .func (.func 110) #[] #[]] 105) = W := ⟨_, rfl⟩
   rw [ew] at HSx bX ⊢
   rw [ex] at bX hbr ⊢
   clear ex ew x0 x1 x2 x3 x4 x5
   have bV := HSx.out.1
   have BX := Aside0.mk bX
   obtain ⟨y0, y1, y2, y3, y4, y5⟩ := bX.six
   obtain ⟨p0, p1, p2, p3⟩ := bV.c4
   clear bX bV
   have hxl := BX.out.lt
   cases hnew : newF v 36 nmO2 with
   | none =>
    have HN := Aside0.mk hnew
    have HGn : Aside0 (getOF v = getFrom v (5 - (2 : Int)).toNat (1 + 2)) := ⟨HGF.out.trans (getFrom_none (n := 3) (k := 2) hnew)⟩
    clear hnew
    go_wp2_with fail
    refine (new44_no v hs HO.out 36 nmO2 A c _ HSx.out.2.2.2.1 hc HN.out).mono ?_
    rintro e w4 ⟨rfl, hb4⟩
    have HS4 := Aside0.mk (HSx.out.below hb4)
    clear hb4 p0 p1 p2 p3 y0 y1 y2 y3 y4 y5
    go_wp2_with fail
    go_roundg (5 - (2 : Int)).toNat
    case measure => rw [HG.out]; omega
    case rel => exact ⟨2, rfl, by go_num, ⟨by omega, by omega, rfl⟩, HGn, HS4⟩
   | some l =>
    have HN := Aside0.mk hnew
    have hil := newF_items hnew
    have hol := newF_ok HO.out hnew
    have HKI : Aside0 ((∀ x ∈ l, itemsN x ≤ 4294967296) ∧ okL l) := ⟨fun x hx => by have := itemsL_mem hx; omega, hol⟩
    have HGn : Aside0 (getOF v = getK 2 l) := ⟨HGF.out.trans (getFrom_some (n := 3) (k := 2) hnew)⟩
    rw [getK_2] at HGn
    clear hnew hil hol
    go_wp2_with fail
    refine (new44_yes v hs HO.out 36 nmO2 A c _ HSx.out.2.2.2.1 hc HN.out).mono ?_
    rintro e w3 ⟨g, rfl, hgx, hfs, hb3⟩
    have HS3 := Aside0.mk (HSx.out.below hb3)
    have HF3 := Aside0.mk hfs
    have BX3 := Aside0.mk (BX.out.below hb3)
    have hb1 : b1 < wx.heap.size := by omega
    have hw3 := HSx.out.2.2.2.2.size
    clear hb3 p0 p1 p2 p3 y0 y1 y2 y3 y4 y5 hfs
    obtain ⟨y0, y1, y2, y3, y4, y5⟩ := BX3.out.six
    obtain ⟨q0, q1, q2, q3⟩ := HS3.out.2.1.c4
    have f2 := HS3.out.2.1.fz
    go_upto_region 9 with fail
    have HF4 := Aside0.mk (HF3.out.low (p := ⟨b1, 0, none⟩) hb1 hgx (.int .u8 2))
    have HO4 : Aside0 (Blk (w3.setCell ⟨b1, 0, none⟩ (.int .u8 2)) b1 #[.int .u8 2, .int .u64 0, .int .u64 0, .string ⟨#[]⟩] 72) := ⟨blk_put (cs := #[.int .u8 0, .int .u64 0, .int .u64 0, .string ⟨#[]⟩]) HS3.out.2.1 0 _ rfl⟩
    have BX4 := Aside0.mk (BX3.out.far (p := ⟨b1, 0, none⟩) (show bx ≠ b1 by omega) (.int .u8 2))
    have HB4 : Aside0 (Below w.heap.size w (w3.setCell ⟨b1, 0, none⟩ (.int .u8 2))) := ⟨below_set HS3.out.2.2.2.2 (by omega)⟩
    obtain ⟨w4, e4⟩ : ∃ W, w3.setCell ⟨b1, 0, none⟩ (.int .u8 2) = W := ⟨_, rfl⟩
    rw [e4] at HF4 HO4 BX4 HB4 ⊢
    clear e4 y0 y1 y2 y3 y4 y5 q0 q1 q2 q3 f2
    obtain ⟨y0, y1, y2, y3, y4, y5⟩ := BX4.out.six
    go_wp2_with fail
    refine (gets110_any HF4.out hb1 hgx 2 0 0 ⟨#[]⟩ HO4.out).mono ?_
    rintro e w5 ⟨rfl, hO5, hf5, hB5⟩
    replace hf5 : FS w5 wx.heap.size g l false := hf5
    have HO5 := Aside0.mk hO5
    have HF5 := Aside0.mk hf5
    have BX5 := Aside0.mk (BX4.out.bg2 hB5 (by omega) (by omega))
    have HB5 := Aside0.mk (HB4.out.trans (hB5.below (by omega) (by omega) HB4.out.size))
    clear hO5 hf5 hB5 y0 y1 y2 y3 y4 y5
    obtain ⟨y0, y1, y2, y3, y4, y5⟩ := BX5.out.six
    go_wp2_with fail
    refine (done43_any HF5.out 0).mono ?_
    rintro e w6 ⟨he, rfl⟩
    clear y0 y1 y2 y3 y4 y5
    obtain ⟨q0, q1, q2, q3⟩ := HO5.out.c4
    have f2 := HO5.out.fz
    rcases done_or l false 0 with hd | hd
    ·rw [if_pos hd] at HGn
     rw [hd] at he
     subst he
     clear hd
     go_wp2_with fail
     refine bodyPost_ret (results53 _ _ b1 #[.int .u8 _, .int .u64 _, .int .u64 _, .string _] 0 rfl rfl (put4_any HO5.out _ _ _ _) rfl) rfl ?_
     exact ⟨by rw [HGn.out]; rfl, below_set4 HB5.out (by omega)⟩
    ·rw [if_neg (by rw [hd]; decide)] at HGn
     rw [hd] at he
     subst he
     clear hd
     go_wp2_with fail
     refine bodyPost_ret (results53 _ _ b1 #[.int .u8 0, .int .u64 0, .int .u64 0, .string ⟨#[]⟩] 6 rfl rfl (put4_any HO5.out _ _ _ _) rfl) rfl ?_
     exact ⟨by rw [HGn.out]; rfl, below_set4 HB5.out (by omega)⟩
  by_cases hi : i = 2
  ·subst hi
   have x0 : wr.cell? ⟨bF, 12, none⟩ = some (.int .u8 3) := (blk_cell HSi.out.2.2.1 12).trans rfl
   have x1 : wr.cell? ⟨bF, 13, none⟩ = some (.int .u64 37) := (blk_cell HSi.out.2.2.1 13).trans rfl
   have x2 : wr.cell? ⟨bF, 14, none⟩ = some (.string nmO3) := (blk_cell HSi.out.2.2.1 14).trans rfl
   have x3 : wr.cell? ⟨bF, 15, none⟩ = some (.int .i64 1) := (blk_cell HSi.out.2.2.1 15).trans rfl
   have x4 : wr.cell? ⟨bF, 16, none⟩ = some (.func (.func 111) #[] #[]) := (blk_cell HSi.out.2.2.1 16).trans rfl
   have x5 : wr.cell? ⟨bF, 17, none⟩ = some (.func (.func 112) #[] #[]) := (blk_cell HSi.out.2.2.1 17).trans rfl
   have bX := Blk.new wr #[.int .u8 3, .int .u64 37, .string nmO3, .int .i64 1, .func (.func 111) #[] #[], .func (.func 112) #[] #[]] 105
   have hal := below_alloc (Below.refl wr.heap.size wr) (.cells #[.int .u8 3, .int .u64 37, .string nmO3, .int .i64 1, .func (.func 111) #[] #[], .func (.func 112) #[] #[]] 105)
   have HSx := Aside0.mk (HSi.out.below hal)
   have hbr := HSi.out.2.1.lt
   clear hal
   go_upto_region 7 with fail
   obtain ⟨bx, ex⟩ : ∃ b, wr.heap.size = b := ⟨_, rfl⟩
   obtain ⟨wx, ew⟩ : ∃ W, wr.alloc (.cells #[.int .u8 3, .int .u64 37, .string nmO3, .int .i64 1, .func (.func 111) #[] #[], .func (.func 112) #[] #[]] 105) = W := ⟨_, rfl⟩
   rw [ew] at HSx bX ⊢
   rw [ex] at bX hbr ⊢
   clear ex ew x0 x1 x2 x3 x4 x5
   have bV := HSx.out.1
   have BX := Aside0.mk bX
   obtain ⟨y0, y1, y2, y3, y4, y5⟩ := bX.six
   obtain ⟨p0, p1, p2, p3⟩ := bV.c4
   clear bX bV
   have hxl := BX.out.lt
   cases hnew : newF v 37 nmO3 with
   | none =>
    have HN := Aside0.mk hnew
    have HGn : Aside0 (getOF v = getFrom v (5 - (3 : Int)).toNat (1 + 3)) := ⟨HGF.out.trans (getFrom_none (n := 2) (k := 3) hnew)⟩
    clear hnew
    go_wp2_with fail
    refine (new44_no v hs HO.out 37 nmO3 A c _ HSx.out.2.2.2.1 hc HN.out).mono ?_
    rintro e w4 ⟨rfl, hb4⟩
    have HS4 := Aside0.mk (HSx.out.below hb4)
    clear hb4 p0 p1 p2 p3 y0 y1 y2 y3 y4 y5
    go_wp2_with fail
    go_roundg (5 - (3 : Int)).toNat
    case measure => rw [HG.out]; omega
    case rel => exact ⟨3, rfl, by go_num, ⟨by omega, by omega, rfl⟩, HGn, HS4⟩
   | some l =>
    have HN := Aside0.mk hnew
    have hil := newF_items hnew
    have hol := newF_ok HO.out hnew
    have HKI : Aside0 ((∀ x ∈ l, itemsN x ≤ 4294967296) ∧ okL l) := ⟨fun x hx => by have := itemsL_mem hx; omega, hol⟩
    have HGn : Aside0 (getOF v = getK 3 l) := ⟨HGF.out.trans (getFrom_some (n := 2) (k := 3) hnew)⟩
    rw [getK_3] at HGn
    clear hnew hil hol
    go_wp2_with fail
    refine (new44_yes v hs HO.out 37 nmO3 A c _ HSx.out.2.2.2.1 hc HN.out).mono ?_
    rintro e w3 ⟨g, rfl, hgx, hfs, hb3⟩
    have HS3 := Aside0.mk (HSx.out.below hb3)
    have HF3 := Aside0.mk hfs
    have BX3 := Aside0.mk (BX.out.below hb3)
    have hb1 : b1 < wx.heap.size := by omega
    have hw3 := HSx.out.2.2.2.2.size
    clear hb3 p0 p1 p2 p3 y0 y1 y2 y3 y4 y5 hfs
    obtain ⟨y0, y1, y2, y3, y4, y5⟩ := BX3.out.six
    obtain ⟨q0, q1, q2, q3⟩ := HS3.out.2.1.c4
    have f2 := HS3.out.2.1.fz
    go_upto_region 9 with fail
    have HF4 := Aside0.mk (HF3.out.low (p := ⟨b1, 0, none⟩) hb1 hgx (.int .u8 3))
    have HO4 : Aside0 (Blk (w3.setCell ⟨b1, 0, none⟩ (.int .u8 3)) b1 #[.int .u8 3, .int .u64 0, .int .u64 0, .string ⟨#[]⟩] 72) := ⟨blk_put (cs := #[.int .u8 0, .int .u64 0, .int .u64 0, .string ⟨#[]⟩]) HS3.out.2.1 0 _ rfl⟩
    have BX4 := Aside0.mk (BX3.out.far (p := ⟨b1, 0, none⟩) (show bx ≠ b1 by omega) (.int .u8 3))
    have HB4 : Aside0 (Below w.heap.size w (w3.setCell ⟨b1, 0, none⟩ (.int .u8 3))) := ⟨below_set HS3.out.2.2.2.2 (by omega)⟩
    obtain ⟨w4, e4⟩ : ∃ W, w3.setCell ⟨b1, 0, none⟩ (.int .u8 3) = W := ⟨_, rfl⟩
    rw [e4] at HF4 HO4 BX4 HB4 ⊢
    clear e4 y0 y1 y2 y3 y4 y5 q0 q1 q2 q3 f2
    obtain ⟨y0, y1, y2, y3, y4, y5⟩ := BX4.out.six
    go_wp2_with fail
    refine (gets112_any HF4.out hb1 hgx HKI.out.1 HKI.out.2 3 0 0 ⟨#[]⟩ HO4.out).mono ?_
    rintro e w5 ⟨rfl, hO5, hf5, hB5⟩
    replace hf5 : FS w5 wx.heap.size g l (!(getCondF ((atF l 0).getD vNul)).isSome) := hf5
    have HO5 := Aside0.mk hO5
    have HF5 := Aside0.mk hf5
    have BX5 := Aside0.mk (BX4.out.bg2 hB5 (by omega) (by omega))
    have HB5 := Aside0.mk (HB4.out.trans (hB5.below (by omega) (by omega) HB4.out.size))
    clear hO5 hf5 hB5 y0 y1 y2 y3 y4 y5
    obtain ⟨y0, y1, y2, y3, y4, y5⟩ := BX5.out.six
    go_wp2_with fail
    refine (done43_any HF5.out 1).mono ?_
    rintro e w6 ⟨he, rfl⟩
    clear y0 y1 y2 y3 y4 y5
    obtain ⟨q0, q1, q2, q3⟩ := HO5.out.c4
    have f2 := HO5.out.fz
    rcases done_or l (!(getCondF ((atF l 0).getD vNul)).isSome) 1 with hd | hd
    ·rw [if_pos hd] at HGn
     rw [hd] at he
     subst he
     clear hd
     go_wp2_with fail
     refine bodyPost_ret (results53 _ _ b1 #[.int .u8 _, .int .u64 _, .int .u64 _, .string _] 0 rfl rfl (put4_any HO5.out _ _ _ _) rfl) rfl ?_
     exact ⟨by rw [HGn.out]; rfl, below_set4 HB5.out (by omega)⟩
    ·rw [if_neg (by rw [hd]; decide)] at HGn
     rw [hd] at he
     subst he
     clear hd
     go_wp2_with fail
     refine bodyPost_ret (results53 _ _ b1 #[.int .u8 0, .int .u64 0, .int .u64 0, .string ⟨#[]⟩] 6 rfl rfl (put4_any HO5.out _ _ _ _) rfl) rfl ?_
     exact ⟨by rw [HGn.out]; rfl, below_set4 HB5.out (by omega)⟩
  by_cases hi : i = 3
  ·subst hi
   have x0 : wr.cell? ⟨bF, 18, none⟩ = some (.int .u8 4) := (blk_cell HSi.out.2.2.1 18).trans rfl
   have x1 : wr.cell? ⟨bF, 19, none⟩ = some (.int .u64 38) := (blk_cell HSi.out.2.2.1 19).trans rfl
   have x2 : wr.cell? ⟨bF, 20, none⟩ = some (.string nmO4) := (blk_cell HSi.out.2.2.1 20).trans rfl
   have x3 : wr.cell? ⟨bF, 21, none⟩ = some (.int .i64 0) := (blk_cell HSi.out.2.2.1 21).trans rfl
   have x4 : wr.cell? ⟨bF, 22, none⟩ = some (.func (.func 109) #[] #[]) := (blk_cell HSi.out.2.2.1 22).trans rfl
   have x5 : wr.cell? ⟨bF, 23, none⟩ = some (.func (.func 110) #[] #[]) := (blk_cell HSi.out.2.2.1 23).trans rfl
   have bX := Blk.new wr #[.int .u8 4, .int .u64 38, .string nmO4, .int .i64 0, .func (.func 109) #[] #[], .func (.func 110) #[] #[]] 105
   have hal := below_alloc (Below.refl wr.heap.size wr) (.cells #[.int .u8 4, .int .u64 38, .string nmO4, .int .i64 0, .func (.func 109) #[] #[], .func (.func 110) #[] #[]] 105)
   have HSx := Aside0.mk (HSi.out.below hal)
   have hbr := HSi.out.2.1.lt
   clear hal
   go_upto_region 7 with fail
   obtain ⟨bx, ex⟩ : ∃ b, wr.heap.size = b := ⟨_, rfl⟩
   obtain ⟨wx, ew⟩ : ∃ W, wr.alloc (.cells #[.int .u8 4, .int .u64 38, .string nmO4, .int .i64 0, .func (.func 109) #[] #[], .func (.func 110) #[] #[]] 105) = W := ⟨_, rfl⟩
   rw [ew] at HSx bX ⊢
   rw [ex] at bX hbr ⊢
   clear ex ew x0 x1 x2 x3 x4 x5
   have bV := HSx.out.1
   have BX := Aside0.mk bX
   obtain ⟨y0, y1, y2, y3, y4, y5⟩ := bX.six
   obtain ⟨p0, p1, p2, p3⟩ := bV.c4
   clear bX bV
   have hxl := BX.out.lt
   cases hnew : newF v 38 nmO4 with
   | none =>
    have HN := Aside0.mk hnew
    have HGn : Aside0 (getOF v = getFrom v (5 - (4 : Int)).toNat (1 + 4)) := ⟨HGF.out.trans (getFrom_none (n := 1) (k := 4) hnew)⟩
    clear hnew
    go_wp2_with fail
    refine (new44_no v hs HO.out 38 nmO4 A c _ HSx.out.2.2.2.1 hc HN.out).mono ?_
    rintro e w4 ⟨rfl, hb4⟩
    have HS4 := Aside0.mk (HSx.out.below hb4)
    clear hb4 p0 p1 p2 p3 y0 y1 y2 y3 y4 y5
    go_wp2_with fail
    go_roundg (5 - (4 : Int)).toNat
    case measure => rw [HG.out]; omega
    case rel => exact ⟨4, rfl, by go_num, ⟨by omega, by omega, rfl⟩, HGn, HS4⟩
   | some l =>
    have HN := Aside0.mk hnew
    have hil := newF_items hnew
    have hol := newF_ok HO.out hnew
    have HKI : Aside0 ((∀ x ∈ l, itemsN x ≤ 4294967296) ∧ okL l) := ⟨fun x hx => by have := itemsL_mem hx; omega, hol⟩
    have HGn : Aside0 (getOF v = getK 4 l) := ⟨HGF.out.trans (getFrom_some (n := 1) (k := 4) hnew)⟩
    rw [getK_4] at HGn
    clear hnew hil hol
    go_wp2_with fail
    refine (new44_yes v hs HO.out 38 nmO4 A c _ HSx.out.2.2.2.1 hc HN.out).mono ?_
    rintro e w3 ⟨g, rfl, hgx, hfs, hb3⟩
    have HS3 := Aside0.mk (HSx.out.below hb3)
    have HF3 := Aside0.mk hfs
    have BX3 := Aside0.mk (BX.out.below hb3)
    have hb1 : b1 < wx.heap.size := by omega
    have hw3 := HSx.out.2.2.2.2.size
    clear hb3 p0 p1 p2 p3 y0 y1 y2 y3 y4 y5 hfs
    obtain ⟨y0, y1, y2, y3, y4, y5⟩ := BX3.out.six
    obtain ⟨q0, q1, q2, q3⟩ := HS3.out.2.1.c4
    have f2 := HS3.out.2.1.fz
    go_upto_region 9 with fail
    have HF4 := Aside0.mk (HF3.out.low (p := ⟨b1, 0, none⟩) hb1 hgx (.int .u8 4))
    have HO4 : Aside0 (Blk (w3.setCell ⟨b1, 0, none⟩ (.int .u8 4)) b1 #[.int .u8 4, .int .u64 0, .int .u64 0, .string ⟨#[]⟩] 72) := ⟨blk_put (cs := #[.int .u8 0, .int .u64 0, .int .u64 0, .string ⟨#[]⟩]) HS3.out.2.1 0 _ rfl⟩
    have BX4 := Aside0.mk (BX3.out.far (p := ⟨b1, 0, none⟩) (show bx ≠ b1 by omega) (.int .u8 4))
    have HB4 : Aside0 (Below w.heap.size w (w3.setCell ⟨b1, 0, none⟩ (.int .u8 4))) := ⟨below_set HS3.out.2.2.2.2 (by omega)⟩
    obtain ⟨w4, e4⟩ : ∃ W, w3.setCell ⟨b1, 0, none⟩ (.int .u8 4) = W := ⟨_, rfl⟩
    rw [e4] at HF4 HO4 BX4 HB4 ⊢
    clear e4 y0 y1 y2 y3 y4 y5 q0 q1 q2 q3 f2
    obtain ⟨y0, y1, y2, y3, y4, y5⟩ := BX4.out.six
    go_wp2_with fail
    refine (gets110_any HF4.out hb1 hgx 4 0 0 ⟨#[]⟩ HO4.out).mono ?_
    rintro e w5 ⟨rfl, hO5, hf5, hB5⟩
    replace hf5 : FS w5 wx.heap.size g l false := hf5
    have HO5 := Aside0.mk hO5
    have HF5 := Aside0.mk hf5
    have BX5 := Aside0.mk (BX4.out.bg2 hB5 (by omega) (by omega))
    have HB5 := Aside0.mk (HB4.out.trans (hB5.below (by omega) (by omega) HB4.out.size))
    clear hO5 hf5 hB5 y0 y1 y2 y3 y4 y5
    obtain ⟨y0, y1, y2, y3, y4, y5⟩ := BX5.out.six
    go_wp2_with fail
    refine (done43_any HF5.out 0).mono ?_
    rintro e w6 ⟨he, rfl⟩
    clear y0 y1 y2 y3 y4 y5
    obtain ⟨q0, q1, q2, q3⟩ := HO5.out.c4
    have f2 := HO5.out.fz
    rcases done_or l false 0 with hd | hd
    ·rw [if_pos hd] at HGn
     rw [hd] at he
     subst he
     clear hd
     go_wp2_with fail
     refine bodyPost_ret (results53 _ _ b1 #[.int .u8 _, .int .u64 _, .int .u64 _, .string _] 0 rfl rfl (put4_any HO5.out _ _ _ _) rfl) rfl ?_
     exact ⟨by rw [HGn.out]; rfl, below_set4 HB5.out (by omega)⟩
    ·rw [if_neg (by rw [hd]; decide)] at HGn
     rw [hd] at he
     subst he
     clear hd
     go_wp2_with fail
     refine bodyPost_ret (results53 _ _ b1 #[.int .u8 0, .int .u64 0, .int .u64 0, .string ⟨#[]⟩] 6 rfl rfl (put4_any HO5.out _ _ _ _) rfl) rfl ?_
     exact ⟨by rw [HGn.out]; rfl, below_set4 HB5.out (by omega)⟩
  by_cases hi : i = 4
  ·subst hi
   have x0 : wr.cell? ⟨bF, 24, none⟩ = some (.int .u8 5) := (blk_cell HSi.out.2.2.1 24).trans rfl
   have x1 : wr.cell? ⟨bF, 25, none⟩ = some (.int .u64 39) := (blk_cell HSi.out.2.2.1 25).trans rfl
   have x2 : wr.cell? ⟨bF, 26, none⟩ = some (.string nmO5) := (blk_cell HSi.out.2.2.1 26).trans rfl
   have x3 : wr.cell? ⟨bF, 27, none⟩ = some (.int .i64 3) := (blk_cell HSi.out.2.2.1 27).trans rfl
   have x4 : wr.cell? ⟨bF, 28, none⟩ = some (.func (.func 113) #[] #[]) := (blk_cell HSi.out.2.2.1 28).trans rfl
   have x5 : wr.cell? ⟨bF, 29, none⟩ = some (.func (.func 115) #[] #[]) := (blk_cell HSi.out.2.2.1 29).trans rfl
   have bX := Blk.new wr #[.int .u8 5, .int .u64 39, .string nmO5, .int .i64 3, .func (.func 113) #[] #[], .func (.func 115) #[] #[]] 105
   have hal := below_alloc (Below.refl wr.heap.size wr) (.cells #[.int .u8 5, .int .u64 39, .string nmO5, .int .i64 3, .func (.func 113) #[] #[], .func (.func 115) #[] #[]] 105)
   have HSx := Aside0.mk (HSi.out.below hal)
   have hbr := HSi.out.2.1.lt
   clear hal
   go_upto_region 7 with fail
   obtain ⟨bx, ex⟩ : ∃ b, wr.heap.size = b := ⟨_, rfl⟩
   obtain ⟨wx, ew⟩ : ∃ W, wr.alloc (.cells #[.int .u8 5, .int .u64 39, .string nmO5, .int .i64 3, .func (.func 113) #[] #[], .func (.func 115) #[] #[]] 105) = W := ⟨_, rfl⟩
   rw [ew] at HSx bX ⊢
   rw [ex] at bX hbr ⊢
   clear ex ew x0 x1 x2 x3 x4 x5
   have bV := HSx.out.1
   have BX := Aside0.mk bX
   obtain ⟨y0, y1, y2, y3, y4, y5⟩ := bX.six
   obtain ⟨p0, p1, p2, p3⟩ := bV.c4
   clear bX bV
   have hxl := BX.out.lt
   cases hnew : newF v 39 nmO5 with
   | none =>
    have HN := Aside0.mk hnew
    have HGn : Aside0 (getOF v = getFrom v (5 - (5 : Int)).toNat (1 + 5)) := ⟨HGF.out.trans (getFrom_none (n := 0) (k := 5) hnew)⟩
    clear hnew
    go_wp2_with fail
    refine (new44_no v hs HO.out 39 nmO5 A c _ HSx.out.2.2.2.1 hc HN.out).mono ?_
    rintro e w4 ⟨rfl, hb4⟩
    have HS4 := Aside0.mk (HSx.out.below hb4)
    clear hb4 p0 p1 p2 p3 y0 y1 y2 y3 y4 y5
    go_wp2_with fail
    go_roundg (5 - (5 : Int)).toNat
    case measure => rw [HG.out]; omega
    case rel => exact ⟨5, rfl, by go_num, ⟨by omega, by omega, rfl⟩, HGn, HS4⟩
   | some l =>
    have HN := Aside0.mk hnew
    have hil := newF_items hnew
    have hol := newF_ok HO.out hnew
    have HKI : Aside0 ((∀ x ∈ l, itemsN x ≤ 4294967296) ∧ okL l) := ⟨fun x hx => by have := itemsL_mem hx; omega, hol⟩
    have HGn : Aside0 (getOF v = getK 5 l) := ⟨HGF.out.trans (getFrom_some (n := 0) (k := 5) hnew)⟩
    rw [getK_5] at HGn
    clear hnew hil hol
    go_wp2_with fail
    refine (new44_yes v hs HO.out 39 nmO5 A c _ HSx.out.2.2.2.1 hc HN.out).mono ?_
    rintro e w3 ⟨g, rfl, hgx, hfs, hb3⟩
    have HS3 := Aside0.mk (HSx.out.below hb3)
    have HF3 := Aside0.mk hfs
    have BX3 := Aside0.mk (BX.out.below hb3)
    have hb1 : b1 < wx.heap.size := by omega
    have hw3 := HSx.out.2.2.2.2.size
    clear hb3 p0 p1 p2 p3 y0 y1 y2 y3 y4 y5 hfs
    obtain ⟨y0, y1, y2, y3, y4, y5⟩ := BX3.out.six
    obtain ⟨q0, q1, q2, q3⟩ := HS3.out.2.1.c4
    have f2 := HS3.out.2.1.fz
    go_upto_region 9 with fail
    have HF4 := Aside0.mk (HF3.out.low (p := ⟨b1, 0, none⟩) hb1 hgx (.int .u8 5))
    have HO4 : Aside0 (Blk (w3.setCell ⟨b1, 0, none⟩ (.int .u8 5)) b1 #[.int .u8 5, .int .u64 0, .int .u64 0, .string ⟨#[]⟩] 72) := ⟨blk_put (cs := #[.int .u8 0, .int .u64 0, .int .u64 0, .string ⟨#[]⟩]) HS3.out.2.1 0 _ rfl⟩
    have BX4 := Aside0.mk (BX3.out.far (p := ⟨b1, 0, none⟩) (show bx ≠ b1 by omega) (.int .u8 5))
    have HB4 : Aside0 (Below w.heap.size w (w3.setCell ⟨b1, 0, none⟩ (.int .u8 5))) := ⟨below_set HS3.out.2.2.2.2 (by omega)⟩
    obtain ⟨w4, e4⟩ : ∃ W, w3.setCell ⟨b1, 0, none⟩ (.int .u8 5) = W := ⟨_, rfl⟩
    rw [e4] at HF4 HO4 BX4 HB4 ⊢
    clear e4 y0 y1 y2 y3 y4 y5 q0 q1 q2 q3 f2
    obtain ⟨y0, y1, y2, y3, y4, y5⟩ := BX4.out.six
    go_wp2_with fail
    refine (gets115_any HF4.out hb1 hgx HKI.out.1 5 0 0 ⟨#[]⟩ HO4.out).mono ?_
    rintro e w5 ⟨rfl, hO5, hf5, hB5⟩
    replace hf5 : FS w5 wx.heap.size g l ((spoilP l 0 false K2 || spoilP l 1 false K2) || spoilP l 2 false K23) := hf5
    have HO5 := Aside0.mk hO5
    have HF5 := Aside0.mk hf5
    have BX5 := Aside0.mk (BX4.out.bg2 hB5 (by omega) (by omega))
    have HB5 := Aside0.mk (HB4.out.trans (hB5.below (by omega) (by omega) HB4.out.size))
    clear hO5 hf5 hB5 y0 y1 y2 y3 y4 y5
    obtain ⟨y0, y1, y2, y3, y4, y5⟩ := BX5.out.six
    go_wp2_with fail
    refine (done43_any HF5.out 3).mono ?_
    rintro e w6 ⟨he, rfl⟩
    clear y0 y1 y2 y3 y4 y5
    obtain ⟨q0, q1, q2, q3⟩ := HO5.out.c4
    have f2 := HO5.out.fz
    rcases done_or l ((spoilP l 0 false K2 || spoilP l 1 false K2) || spoilP l 2 false K23) 3 with hd | hd
    ·rw [if_pos hd] at HGn
     rw [hd] at he
     subst he
     clear hd
     go_wp2_with fail
     refine bodyPost_ret (results53 _ _ b1 #[.int .u8 _, .int .u64 _, .int .u64 _, .string _] 0 rfl rfl (put4_any HO5.out _ _ _ _) rfl) rfl ?_
     exact ⟨by rw [HGn.out]; rfl, below_set4 HB5.out (by omega)⟩
    ·rw [if_neg (by rw [hd]; decide)] at HGn
     rw [hd] at he
     subst he
     clear hd
     go_wp2_with fail
     refine bodyPost_ret (results53 _ _ b1 #[.int .u8 0, .int .u64 0, .int .u64 0, .string ⟨#[]⟩] 6 rfl rfl (put4_any HO5.out _ _ _ _) rfl) rfl ?_
     exact ⟨by rw [HGn.out]; rfl, below_set4 HB5.out (by omega)⟩
  ·obtain rfl : i = 5 := by omega
   have BR4 := Aside0.mk HSi.out.2.1
   have HB4 := Aside0.mk HSi.out.2.2.2.2
   have HGn : Aside0 (getOF v = none) := ⟨HGF.out⟩
   obtain ⟨q0, q1, q2, q3⟩ := BR4.out.c4
   have f2 := BR4.out.fz
   go_wp2_with fail
   refine bodyPost_ret (results53 _ _ b1 #[.int .u8 0, .int .u64 0, .int .u64 0, .string ⟨#[]⟩] 6 rfl rfl (put4_any BR4.out _ _ _ _) rfl) rfl ?_
   exact ⟨by rw [HGn.out]; rfl, below_set4 HB4.out hw0.2⟩
end Go.Proofs.Ytdilbnggedidnaa.PVal
namespace Go.Proofs.Ytdilbnggedidnaa.PVal
open Go.RowKit Go.Shelf Go.Proofs.YtdilbnggedidnaaW.PrintWords Go.Proofs.YtdilbnggedidnaaW.PrintLast
set_option linter.unusedVariables false
set_option linter.unusedSimpArgs false
theorem eqA72 (d : Nat) (w : World) (x0 y0 : Int) (x1 y1 : Int) (x2 y2 : Int) (x3 y3 : ByteArray) :
  (Op.equalIn (d + 2) 72 (.agg #[.int .u8 x0, .int .u64 x1, .int .u64 x2, .string x3]) (.agg #[.int .u8 y0, .int .u64 y1, .int .u64 y2, .string y3])).run Try.prog w = .ok (x0 == y0 && (x1 == y1 && (x2 == y2 && (x3.toList == y3.toList)))) w := by
 refine eqA_of Try.underlying72 (by kernel_rfl) ?_
 refine eqf_cons (by rfl) (by go_simp; rfl) (by go_simp; rfl) (by go_simp) ?_
 refine eqf_cons (by rfl) (by go_simp; rfl) (by go_simp; rfl) (by go_simp) ?_
 refine eqf_cons (by rfl) (by go_simp; rfl) (by go_simp; rfl) (by go_simp) ?_
 exact eqf_last (by rfl) (by go_simp; rfl) (by go_simp; rfl) (by go_simp)
attribute [local go_sem] eqA72
theorem condV_ok {s : ByteArray} (hs : s.size ≤ 4294967290) : okV (condV s) := by
 unfold condV
 split
 ·exact ok_vb _ (by kernel_rfl)
 ·refine okV_put ⟨by omega, by omega⟩ ?_
  rw [okL, okL]
  unfold symV
  rw [okV, okL]
  exact ⟨⟨⟨⟨by omega, by omega⟩, hs⟩, trivial⟩, trivial⟩
theorem truthV_ok (n : Int) : okV (truthV n) := by
 unfold truthV
 split <;> exact ok_vb _ (by kernel_rfl)
theorem numV_ok {k n : Int} (h : u64R n) : okV (numV k n) := by
 unfold numV
 rw [okV, okL]
 exact ⟨⟨h, by decide⟩, trivial⟩
theorem putOV_ok {o : Out} (hk : 0 ≤ o.k ∧ o.k ≤ 255) (ha : u64R o.a) (hb : u64R o.b) (hs : o.cond.size ≤ 4294967290) : okV (putOV o) := by
 unfold putOV
 split
 ·exact ok_vb _ (by kernel_rfl)
 ·refine okV_put ⟨by omega, by omega⟩ ?_
  unfold putL
  split
  ·rw [okL, okL, okL]; exact ⟨numV_ok ha, numV_ok hb, trivial⟩
  ·split
   ·rw [okL, okL]; exact ⟨condV_ok hs, trivial⟩
   ·split
    ·rw [okL, okL, okL]; exact ⟨truthV_ok _, truthV_ok _, trivial⟩
    ·rw [okL]; trivial
theorem tell_u64 {l : List S25} (ho : okL l) (i : Int) (P : S25 → Bool) : u64R (tellP l i P (fun x => x.f1) 0) := by
 unfold tellP
 cases h : atF l i with
 | none =>
  show u64R 0
  exact ⟨by decide, by decide⟩
 | some x =>
  have := okL_mem ho (atF_mem h)
  rw [okV_eq] at this
  show u64R (if P x then x.f1 else 0)
  split
  ·exact this.1.1
  ·exact ⟨by decide, by decide⟩
theorem tell_size {l : List S25} (ho : okL l) (i : Int) (P : S25 → Bool) : (tellP l i P (fun x => x.f2) ⟨#[]⟩).size ≤ 4294967290 := by
 unfold tellP
 cases h : atF l i with
 | none => exact Nat.zero_le _
 | some x =>
  have := okL_mem ho (atF_mem h)
  rw [okV_eq] at this
  show (if P x then x.f2 else ⟨#[]⟩).size ≤ _
  split
  ·exact this.1.2
  ·exact Nat.zero_le _
theorem getCond_size {v : S25} (ho : okV v) {s : ByteArray} (h : getCondF v = some s) : s.size ≤ 4294967290 := by
 unfold getCondF at h
 split at h
 ·rw [← Option.some.inj h]; exact Nat.zero_le _
 ·split at h
  ·cases h
  ·rename_i l hl
   split at h
   ·rw [← Option.some.inj h]; exact tell_size (newF_ok ho hl) _ _
   ·cases h
theorem getK_ok {k : Int} {l : List S25} {o : Out} (ho : okL l) (h : getK k l = some o) : u64R o.a ∧ u64R o.b ∧ o.cond.size ≤ 4294967290 := by
 have z : u64R 0 := ⟨by decide, by decide⟩
 have zs : (⟨#[]⟩ : ByteArray).size ≤ 4294967290 := Nat.zero_le _
 unfold getK at h
 split at h
 ·split at h
  ·rw [← Option.some.inj h]; exact ⟨tell_u64 ho _ _, tell_u64 ho _ _, zs⟩
  ·cases h
 split at h
 ·have h' := h
  simp only [] at h'
  split at h'
  ·rw [← Option.some.inj h']
   refine ⟨z, z, ?_⟩
   cases hg : getCondF ((atF l 0).getD vNul) with
   | none => exact zs
   | some s =>
    refine getCond_size ?_ hg
    cases hq : atF l 0 with
    | none => exact ok_vb _ (by kernel_rfl)
    | some x => exact okL_mem ho (atF_mem hq)
  ·cases h'
 split at h
 ·split at h
  ·rw [← Option.some.inj h]; exact ⟨tell_u64 ho _ _, tell_u64 ho _ _, zs⟩
  ·cases h
 ·split at h
  ·rw [← Option.some.inj h]; exact ⟨z, z, zs⟩
  ·cases h
theorem getFrom_ok {v : S25} {o : Out} (ho : okV v) : ∀ {n : Nat} {k : Int}, getFrom v n k = some o → u64R o.a ∧ u64R o.b ∧ o.cond.size ≤ 4294967290
 | 0, _, h => by cases h
 | n + 1, k, h => by
  rw [getFrom] at h
  split at h
  ·exact getFrom_ok ho (n := n) h
  ·rename_i l hl
   exact getK_ok (newF_ok ho hl) h
theorem getOF_ok {v : S25} {o : Out} (ho : okV v) (h : getOF v = some o) : u64R o.a ∧ u64R o.b ∧ o.cond.size ≤ 4294967290 := by
 unfold getOF at h
 split at h
 ·rw [← Option.some.inj h]; exact ⟨⟨by decide, by decide⟩, ⟨by decide, by decide⟩, Nat.zero_le _⟩
 ·exact getFrom_ok ho h
theorem mayO_k {o : Out} (h : mayO o = true) : 0 ≤ o.k ∧ o.k ≤ 5 := by
 have := (mayO_cases h).2.2
 omega
theorem right_items {v : S25} (h : rightB v = true) : itemsN v ≤ 4294967296 := by
 unfold rightB at h
 simp only [Bool.and_eq_true, decide_eq_true_eq] at h
 omega
def nfO : Out := ⟨3, 0, 0, ⟨#[97, 109, 113, 112, 58, 110, 111, 116, 45, 102, 111, 117, 110, 100]⟩⟩
theorem nf_may : mayO nfO = true := by kernel_rfl
theorem nf_shape : (putOV nfO).f0 = 25 ∧ (putOV nfO).f3.length = 2 ∧ (rd_T25 (putOV nfO).f3 0).f1 = 37 := ⟨by kernel_rfl, by kernel_rfl, by kernel_rfl⟩
theorem one_not : getOF ⟨5, 1, ⟨#[]⟩, []⟩ = none := by kernel_rfl
set_option maxRecDepth 100000 in
set_option maxHeartbeats 4000000 in
theorem works51_any (w : World) : Calls Try.prog 51 #[] w fun e w' => e = .returned (.bool true) ∧ Below w.heap.size w w' := by
 have HSH := Aside0.mk nf_shape
 obtain ⟨hget, hright⟩ := get_put nf_may (show (0 : Int) ≤ 0 by decide) (show (0 : Int) ≤ 0 by decide)
 have HGET := Aside0.mk hget
 have hit := right_items hright
 have HOK := Aside0.mk (putOV_ok (o := nfO) (show (0 : Int) ≤ 3 ∧ (3 : Int) ≤ 255 by decide) ⟨by decide, by decide⟩ ⟨by decide, by decide⟩ (by decide))
 obtain ⟨v, ev⟩ : ∃ v, putOV nfO = v := ⟨_, rfl⟩
 have EV := Aside0.mk ev
 rw [ev] at HSH HGET HOK hit
 clear hget hright ev
 go_enter Try.func51, Try.ntmps51
 go_wp2_with fail
 have bO := Blk.new w #[.int .u8 3, .int .u64 0, .int .u64 0, .string ⟨#[97, 109, 113, 112, 58, 110, 111, 116, 45, 102, 111, 117, 110, 100]⟩] 72
 have hal := below_alloc (Below.refl w.heap.size w) (.cells #[.int .u8 3, .int .u64 0, .int .u64 0, .string ⟨#[97, 109, 113, 112, 58, 110, 111, 116, 45, 102, 111, 117, 110, 100]⟩] 72)
 refine (put52_yes 3 0 0 ⟨#[97, 109, 113, 112, 58, 110, 111, 116, 45, 102, 111, 117, 110, 100]⟩ (by decide) nf_may _).mono ?_
 rintro e w2 he
 rw [show (⟨3, 0, 0, ⟨#[97, 109, 113, 112, 58, 110, 111, 116, 45, 102, 111, 117, 110, 100]⟩⟩ : Out) = nfO from rfl, EV.out] at he
 obtain ⟨A2, c2, rfl, hR2, hb2⟩ := he
 have hal2 := below_alloc (Below.refl w2.heap.size w2) (.cells #[.int .u8 v.f0, .int .u64 v.f1, .string v.f2, .slice A2 v.f3.length c2] 25)
 have hb22 := below_step hb2 hal2
 have HB2 := Aside0.mk (below_step hal hb22)
 have BO2 := Aside0.mk (bO.below hb22)
 have BV2 := Aside0.mk (Blk.new w2 #[.int .u8 v.f0, .int .u64 v.f1, .string v.f2, .slice A2 v.f3.length c2] 25)
 have hc2 := (Kd.R_reads' hR2).2.1
 have HC2 := Aside0.mk (Kd.C_below (Kd.R_reads' hR2).2.2 hal2)
 clear bO hal hR2 hb2 hal2 hb22
 obtain ⟨p0, p1, p2, p3⟩ := BV2.out.c4
 go_upto_region 3 with fail
 obtain ⟨bo, ebo⟩ : ∃ b, w.heap.size = b := ⟨_, rfl⟩
 obtain ⟨bv, ebv⟩ : ∃ b, w2.heap.size = b := ⟨_, rfl⟩
 obtain ⟨w3, ew3⟩ : ∃ W, w2.alloc (.cells #[.int .u8 v.f0, .int .u64 v.f1, .string v.f2, .slice A2 v.f3.length c2] 25) = W := ⟨_, rfl⟩
 rw [ew3] at HB2 BO2 BV2 HC2 p0 p1 p2 p3 ⊢
 rw [ebv] at BV2 p0 p1 p2 p3 ⊢
 have EBO := Aside0.mk ebo
 rw [ebo] at BO2 ⊢
 clear ebo ebv ew3
 go_wp2_with fail
 refine (get53_any v hit HOK.out A2 c2 _ HC2.out hc2).mono ?_
 rintro e w4 ⟨he, hb4⟩
 rw [HGET.out] at he
 replace he : e = .returned (.tuple #[.agg #[.int .u8 3, .int .u64 0, .int .u64 0, .string ⟨#[97, 109, 113, 112, 58, 110, 111, 116, 45, 102, 111, 117, 110, 100]⟩], .int .i64 0]) := he
 subst he
 have hal4 := below_alloc hb4 (.cells #[.int .u8 3, .int .u64 0, .int .u64 0, .string ⟨#[97, 109, 113, 112, 58, 110, 111, 116, 45, 102, 111, 117, 110, 100]⟩] 72)
 have HB4 := Aside0.mk (below_step HB2.out hal4)
 have BO4 := Aside0.mk (BO2.out.below hal4)
 have BV4 := Aside0.mk (BV2.out.below hal4)
 have HC4 := Aside0.mk (Kd.C_below HC2.out hal4)
 have BP4 := Aside0.mk (Blk.new w4 #[.int .u8 3, .int .u64 0, .int .u64 0, .string ⟨#[97, 109, 113, 112, 58, 110, 111, 116, 45, 102, 111, 117, 110, 100]⟩] 72)
 clear hb4 hal4 p0 p1 p2 p3 BO2 BV2 HC2 HB2
 go_upto_region 4 with fail
 obtain ⟨bp, ebp⟩ : ∃ b, w4.heap.size = b := ⟨_, rfl⟩
 obtain ⟨w5, ew5⟩ : ∃ W, w4.alloc (.cells #[.int .u8 3, .int .u64 0, .int .u64 0, .string ⟨#[97, 109, 113, 112, 58, 110, 111, 116, 45, 102, 111, 117, 110, 100]⟩] 72) = W := ⟨_, rfl⟩
 rw [ew5] at HB4 BO4 BV4 HC4 BP4 ⊢
 rw [ebp] at BP4 ⊢
 clear ebp ew5
 go_wp2_with fail
 refine (number23_any 5 1 _).mono ?_
 rintro e w6 ⟨rfl, hb6⟩
 go_wp2_with fail
 refine (get53_any ⟨5, 1, ⟨#[]⟩, []⟩ (by decide) (ok_vb _ (by kernel_rfl)) none 0 _ (C_none _) (Nat.le_refl _)).mono ?_
 rintro e w7 ⟨he, hb7⟩
 rw [one_not] at he
 replace he : e = .returned (.tuple #[.agg #[.int .u8 0, .int .u64 0, .int .u64 0, .string ⟨#[]⟩], .int .i64 6]) := he
 subst he
 have hal7 := below_alloc (below_step hb6 hb7) (.cells #[.int .u8 0, .int .u64 0, .int .u64 0, .string ⟨#[]⟩] 72)
 have HB7 := Aside0.mk (below_step HB4.out hal7)
 have BO7 := BO4.out.below hal7
 have BV7 := BV4.out.below hal7
 have BP7 := BP4.out.below hal7
 have HC7 := Aside0.mk (Kd.C_below HC4.out hal7)
 clear hb6 hb7 hal7 HB4 BO4 BV4 BP4 HC4
 go_upto_region 5 with fail
 obtain ⟨w8, ew8⟩ : ∃ W, w7.alloc (.cells #[.int .u8 0, .int .u64 0, .int .u64 0, .string ⟨#[]⟩] 72) = W := ⟨_, rfl⟩
 rw [ew8] at HB7 BO7 BV7 BP7 HC7 ⊢
 clear ew8
 obtain ⟨hv0, hv2, hv3⟩ := HSH.out
 obtain ⟨ad, A0, c0, eA, x0, x1, x2, x3, _, _⟩ := at_T25 HC7.out 0 (by omega) (by omega)
 cases eA
 rw [show (0 : Int).toNat = 0 from rfl, Nat.zero_mul, add_nought] at x0 x1 x2 x3
 rw [hv3] at x1
 obtain ⟨p0, p1, p2, p3⟩ := BV7.c4
 obtain ⟨q0, q1, q2, q3⟩ := BO7.c4
 obtain ⟨r0, r1, r2, r3⟩ := BP7.c4
 have k25 : (v.f0 == 25) = true := by simp [hv0]
 have kl : ((v.f3.length : Int) == 2) = true := by simp; omega
 have hlt : 0 < v.f3.length := by omega
 have ad0 : ad.add 0 = ad := add_nought ad
 clear hv0 hv2 hv3 x0 x2 x3
 go_wp2_with fail
 go_ret
 exact ⟨rfl, HB7.out⟩
end Go.Proofs.Ytdilbnggedidnaa.PVal
