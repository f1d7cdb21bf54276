import Derived.Test.YtdilbnggedidnaaF1
namespace Go.Proofs.Ytdilbnggedidnaa.PVal
open Go.RowKit Go.Proofs.YtdilbnggedidnaaW.PrintWords Go.Proofs.YtdilbnggedidnaaW.PrintLast
attribute [local go_sem] max2_int max_two
set_option linter.unusedVariables false
set_option linter.unusedSimpArgs false
mutual
def bellwetherref04_Items.l0 : Nat → Int → Int → Int → Int → ByteArray → List (S25) → Option (Int)
 | 0, _, _, _, _, _, _ => none
 | k + 1, x3, x4, x102000, x102001, x102002, x102003 => if x4 < (x102003.length : Int) then (if 0 ≤ x4 then ((bellwetherref04_Items.f k ((rd_T25 x102003 x4).f0) ((rd_T25 x102003 x4).f1) ((rd_T25 x102003 x4).f2) ((rd_T25 x102003 x4).f3)).bind fun t103 => (bellwetherref04_Items.l0 k (wrap64 (x3 + t103)) (wrap64 (x4 + 1)) x102000 x102001 x102002 x102003)) else (none)) else (some x3)
def bellwetherref04_Items.f : Nat → Int → Int → ByteArray → List (S25) → Option (Int)
 | 0, _, _, _, _ => none
 | k + 1, a0_0, a0_1, a0_2, l0_3 => bellwetherref04_Items.l0 k 1 0 a0_0 a0_1 a0_2 l0_3
end
set_option maxHeartbeats 8000000 in
set_option maxRecDepth 100000 in
theorem bellwetherref04_Items.calls (k : Nat) : ∀ (a0_0 : Int) (a0_1 : Int) (a0_2 : ByteArray) (A0_3 : Option Addr) (c0_3 : Nat) (l0_3 : List (S25)) (r : Int) (w : World) (hr0_3 : Kd.C k25 w A0_3 l0_3.length l0_3) (hc0_3 : l0_3.length ≤ c0_3) (h : bellwetherref04_Items.f k a0_0 a0_1 a0_2 l0_3 = some r),
  Calls Try.prog 35 #[.agg #[.int .u8 a0_0, .int .u64 a0_1, .string a0_2, .slice A0_3 l0_3.length c0_3]] w fun e w' => e = .returned (.int .i64 r) ∧ Below w.heap.size w w' := by
 induction k using Nat.strongRecOn with
 | _ k ih =>
 intro a0_0 a0_1 a0_2 A0_3 c0_3 l0_3 r w hr0_3 hc0_3 h
 cases k with
 | zero => exact absurd h (by simp [bellwetherref04_Items.f])
 | succ k =>
 simp only [bellwetherref04_Items.f] at h
 have hu25 := Try.underlying25
 have HR0_3 := Aside0.mk hr0_3
 have HC0_3 := Aside0.mk hc0_3
 clear hr0_3 hc0_3
 have HB := Aside0.mk (Below.refl w.heap.size w)
 have H : (bellwetherref04_Items.l0 k 1 0 a0_0 a0_1 a0_2 l0_3) = some r := h
 clear h
 have H' := Aside0.mk H
 clear H
 go_enter Try.func35, Try.ntmps35
 go_wp2_with (first | ((with_reducible refine gate_dst (N := 1) rfl ?_); refine box_event ?hg (N := 1) ?hd (cs := #[.int .u8 a0_0, .int .u64 a0_1, .string a0_2, .slice A0_3 l0_3.length c0_3]) (t := 25) ?hr ?_; (case hd => rfl); (case hg => rfl); (case hr => first | (go_simp; done) | (go_simp; rfl)); intro gb101 hg w2 hbox hb; have n0_ := Aside0.mk (below_step (by repeat (first | (with_reducible first | exact HB.out | apply below_alloc | apply pw_below_drewN | apply below_drew1) | exact HB.out)) hb); have n1_ := Aside0.mk (hbox); have n2_ := Aside0.mk ((by rw [hg]; exact (below_size (by repeat (first | (with_reducible first | exact HB.out | apply below_alloc | apply pw_below_drewN | apply below_drew1) | exact HB.out))) : w.heap.size ≤ gb101)); have n3_ := Aside0.mk ((by rw [hg]; exact (below_size (by repeat (first | (with_reducible first | exact HB.out | apply below_alloc | apply pw_below_drewN | apply below_drew1) | exact HB.out))) : w.heap.size ≤ gb101)); clear HB; have HB := n0_; have BK101 := n1_; have GW101 := n2_; have GE101 := n3_; clear n0_ n1_ n2_ n3_; clear hb hbox hg))
 go_loopg [3, 4] k (fun kq v3 v4 w' => ∃ (x3_1 : Int) (x4_1 : Int), v3 = .int .i64 x3_1 ∧ v4 = .int .i64 x4_1 ∧ Aside0 (bellwetherref04_Items.l0 kq x3_1 x4_1 a0_0 a0_1 a0_2 l0_3 = some r) ∧ Aside0 (kq ≤ k) ∧ Aside0 (w'.heap[gb101]? = some (.cells #[.int .u8 a0_0, .int .u64 a0_1, .string a0_2, (.slice A0_3 l0_3.length c0_3)] 25 (0, 0))) ∧ Aside0 (Below w.heap.size w w'))
 case atStart => exact ⟨(1), (0), (by first | rfl | (simp; done) | (simp [*]; done)), (by first | rfl | (simp; done) | (simp [*]; done)), H', ⟨Nat.le_refl _⟩, ⟨by (with_reducible repeat (first | refine blk_drewN ?_ _ | refine blk_drew ?_ | refine blk_alloc ?_ _)); exact BK101.out⟩, ⟨by repeat (first | (with_reducible first | exact HB.out | apply below_alloc | apply pw_below_drewN | apply below_drew1 | refine below_set ?_ GE101.out) | exact HB.out)⟩⟩
 case round =>
  clear H'
  try clear p2
  obtain ⟨x3_1, x4_1, rfl, rfl, HA, HK1, BK101, HB⟩ := hrel
  cases gk with
  | zero => exact absurd HA.out (by simp [bellwetherref04_Items.l0])
  | succ k1 =>
   have H := HA.out
   clear HA
   simp only [bellwetherref04_Items.l0] at H
   by_cases c3 : x4_1 < (l0_3.length : Int)
   ·rw [if_pos c3] at H
    have c3b0 : decide (x4_1 < (l0_3.length : Int)) = true := decide_eq_true c3
    clear c3
    by_cases c4 : 0 ≤ x4_1
    ·rw [if_pos c4] at H
     have c4b0 : decide (0 ≤ x4_1) = true := decide_eq_true c4
     clear c4
     replace H := Option.bind_eq_some_iff.mp H
     obtain ⟨t103, A50, H⟩ := H
     replace H : (bellwetherref04_Items.l0 k1 (wrap64 (x3_1 + t103)) (wrap64 (x4_1 + 1)) a0_0 a0_1 a0_2 l0_3) = some r := H
     have A5 := Aside0.mk A50
     clear A50
     have H' := Aside0.mk H
     clear H
     have hcz6_0 : wr.cell? ⟨gb101, 0, none⟩ = some (.int .u8 a0_0) := (blk_cell BK101.out 0).trans rfl
     have hcz6_1 : wr.cell? ⟨gb101, 1, none⟩ = some (.int .u64 a0_1) := (blk_cell BK101.out 1).trans rfl
     have hcz6_2 : wr.cell? ⟨gb101, 2, none⟩ = some (.string a0_2) := (blk_cell BK101.out 2).trans rfl
     have hcz6_3 : wr.cell? ⟨gb101, 3, none⟩ = some (.slice A0_3 l0_3.length c0_3) := (blk_cell BK101.out 3).trans rfl
     have hfz6_0 := blk_frozen BK101.out 0
     have hfz6_1 := blk_frozen BK101.out 1
     have hfz6_2 := blk_frozen BK101.out 2
     have hfz6_3 := blk_frozen BK101.out 3
     have p102 : 0 ≤ (x4_1 : Int) := of_decide_eq_true (by first | (with_reducible assumption) | assumption)
     have q102 : x4_1 < (l0_3.length : Int) := of_decide_eq_true (by first | (with_reducible assumption) | assumption)
     obtain ⟨ad102, A102_3, c102_3, e102, hx102_0, hx102_1, hx102_2, hx102_3, hl102_3, hi102_3⟩ := at_T25 HR0_3.out x4_1 p102 q102
     cases e102
     replace hx102_0 := (HB.out.cell (World.block_lt_of_cell? w _ hx102_0)).trans hx102_0
     replace hx102_1 := (HB.out.cell (World.block_lt_of_cell? w _ hx102_1)).trans hx102_1
     replace hx102_2 := (HB.out.cell (World.block_lt_of_cell? w _ hx102_2)).trans hx102_2
     replace hx102_3 := (HB.out.cell (World.block_lt_of_cell? w _ hx102_3)).trans hx102_3
     have HR102_3 := Aside0.mk hi102_3
     have HC102_3 := Aside0.mk hl102_3
     clear hi102_3 hl102_3
     replace p102 := eq_true p102
     replace q102 := eq_true q102
     go_wp2_with (first | ((with_reducible refine gate_callee (f := 35) rfl ?_); refine goesL_ (some 18) rfl rfl Try.func35 (by kernel_rfl) rfl #[.agg #[.int .u8 ((rd_T25 l0_3 x4_1).f0), .int .u64 ((rd_T25 l0_3 x4_1).f1), .string ((rd_T25 l0_3 x4_1).f2), .slice A102_3 ((rd_T25 l0_3 x4_1).f3).length c102_3]] rfl (by (try simp only [List.map_toArray, List.map_cons, List.map_nil]); first | done | rfl | (simp only [List.length_drop, List.length_take]; rfl)) ?_; (with_reducible refine (ih k1 (by have := HK1.out; omega) ((rd_T25 l0_3 x4_1).f0) ((rd_T25 l0_3 x4_1).f1) ((rd_T25 l0_3 x4_1).f2) _ _ ((rd_T25 l0_3 x4_1).f3) t103 _ ?side1 ?side2 A5.out).mono ?_); (case side1 => repeat (first | exact (Kd.C_below HR102_3.out HB.out) | (with_reducible refine Kd.C_alloc ?_ _) | (with_reducible refine Kd.C_drewN ?_ _) | (with_reducible refine Kd.C_drew ?_))); (case side2 => exact HC102_3.out); rintro e w7 ⟨rfl, hb⟩; refine ⟨_, rfl, ?_⟩; have n0_ := Aside0.mk (blk_below (g := gb101) (o := .cells #[.int .u8 a0_0, .int .u64 a0_1, .string a0_2, .slice (some ad102) l0_3.length c0_3] 25 (0, 0)) (by (with_reducible repeat (first | refine blk_drewN ?_ _ | refine blk_drew ?_ | refine blk_alloc ?_ _)); exact BK101.out) hb); have n1_ := Aside0.mk (below_step (by repeat (first | (with_reducible first | exact HB.out | apply below_alloc | apply pw_below_drewN | apply below_drew1 | refine below_set ?_ GE101.out) | exact HB.out)) hb); clear BK101; clear HB; have BK101 := n0_; have HB := n1_; clear n0_ n1_; (try clear hb); (try clear hb2); (try clear hk); (try clear hi)))
     go_roundg k1
     case measure => have := HK1.out; omega
     case rel => exact ⟨(wrap64 (x3_1 + t103)), (wrap64 (x4_1 + 1)), (by first | rfl | (simp; done) | (simp [*]; done)), (by first | rfl | (simp; done) | (simp [*]; done)), H', ⟨by have := HK1.out; omega⟩, ⟨by (with_reducible repeat (first | refine blk_drewN ?_ _ | refine blk_drew ?_ | refine blk_alloc ?_ _)); exact BK101.out⟩, ⟨by repeat (first | (with_reducible first | exact HB.out | apply below_alloc | apply pw_below_drewN | apply below_drew1 | refine below_set ?_ GE101.out) | exact HB.out)⟩⟩
    ·rw [if_neg c4] at H
     exact absurd H (by simp)
   ·rw [if_neg c3] at H
    have c3b0 : decide (x4_1 < (l0_3.length : Int)) = false := decide_eq_false c3
    clear c3
    obtain rfl := Option.some.inj H
    have hcz8_0 : wr.cell? ⟨gb101, 0, none⟩ = some (.int .u8 a0_0) := (blk_cell BK101.out 0).trans rfl
    have hcz8_1 : wr.cell? ⟨gb101, 1, none⟩ = some (.int .u64 a0_1) := (blk_cell BK101.out 1).trans rfl
    have hcz8_2 : wr.cell? ⟨gb101, 2, none⟩ = some (.string a0_2) := (blk_cell BK101.out 2).trans rfl
    have hcz8_3 : wr.cell? ⟨gb101, 3, none⟩ = some (.slice A0_3 l0_3.length c0_3) := (blk_cell BK101.out 3).trans rfl
    have hfz8_0 := blk_frozen BK101.out 0
    have hfz8_1 := blk_frozen BK101.out 1
    have hfz8_2 := blk_frozen BK101.out 2
    have hfz8_3 := blk_frozen BK101.out 3
    go_wp2
    go_ret
    exact ⟨by first | rfl | (simp [errW_none, errW_some] <;> rfl) | (simp [*, errW_none, errW_some] <;> rfl), by repeat (first | (with_reducible first | exact HB.out | apply below_alloc | apply pw_below_drewN | apply below_drew1 | refine below_set ?_ GE101.out) | exact HB.out)⟩
mutual
def bellwetherlaw04_texts.l0 : Nat → Int → Int → Int → Int → ByteArray → List (S25) → Option (Int)
 | 0, _, _, _, _, _, _ => none
 | k + 1, x3, x4, x105000, x105001, x105002, x105003 => if x4 < (x105003.length : Int) then (if 0 ≤ x4 then ((bellwetherlaw04_texts.f k ((rd_T25 x105003 x4).f0) ((rd_T25 x105003 x4).f1) ((rd_T25 x105003 x4).f2) ((rd_T25 x105003 x4).f3)).bind fun t106 => (bellwetherlaw04_texts.l0 k (wrap64 (x3 + t106)) (wrap64 (x4 + 1)) x105000 x105001 x105002 x105003)) else (none)) else (some x3)
def bellwetherlaw04_texts.f : Nat → Int → Int → ByteArray → List (S25) → Option (Int)
 | 0, _, _, _, _ => none
 | k + 1, a0_0, a0_1, a0_2, l0_3 => bellwetherlaw04_texts.l0 k (a0_2.size : Int) 0 a0_0 a0_1 a0_2 l0_3
end
set_option maxHeartbeats 8000000 in
set_option maxRecDepth 100000 in
theorem bellwetherlaw04_texts.calls (k : Nat) : ∀ (a0_0 : Int) (a0_1 : Int) (a0_2 : ByteArray) (A0_3 : Option Addr) (c0_3 : Nat) (l0_3 : List (S25)) (r : Int) (w : World) (hr0_3 : Kd.C k25 w A0_3 l0_3.length l0_3) (hc0_3 : l0_3.length ≤ c0_3) (h : bellwetherlaw04_texts.f k a0_0 a0_1 a0_2 l0_3 = some r),
  Calls Try.prog 56 #[.agg #[.int .u8 a0_0, .int .u64 a0_1, .string a0_2, .slice A0_3 l0_3.length c0_3]] w fun e w' => e = .returned (.int .i64 r) ∧ Below w.heap.size w w' := by
 induction k using Nat.strongRecOn with
 | _ k ih =>
 intro a0_0 a0_1 a0_2 A0_3 c0_3 l0_3 r w hr0_3 hc0_3 h
 cases k with
 | zero => exact absurd h (by simp [bellwetherlaw04_texts.f])
 | succ k =>
 simp only [bellwetherlaw04_texts.f] at h
 have hu25 := Try.underlying25
 have HR0_3 := Aside0.mk hr0_3
 have HC0_3 := Aside0.mk hc0_3
 clear hr0_3 hc0_3
 have HB := Aside0.mk (Below.refl w.heap.size w)
 have H : (bellwetherlaw04_texts.l0 k (a0_2.size : Int) 0 a0_0 a0_1 a0_2 l0_3) = some r := h
 clear h
 have H' := Aside0.mk H
 clear H
 go_enter Try.func56, Try.ntmps56
 go_wp2_with (first | ((with_reducible refine gate_dst (N := 1) rfl ?_); refine box_event ?hg (N := 1) ?hd (cs := #[.int .u8 a0_0, .int .u64 a0_1, .string a0_2, .slice A0_3 l0_3.length c0_3]) (t := 25) ?hr ?_; (case hd => rfl); (case hg => rfl); (case hr => first | (go_simp; done) | (go_simp; rfl)); intro gb104 hg w2 hbox hb; have n0_ := Aside0.mk (below_step (by repeat (first | (with_reducible first | exact HB.out | apply below_alloc | apply pw_below_drewN | apply below_drew1) | exact HB.out)) hb); have n1_ := Aside0.mk (hbox); have n2_ := Aside0.mk ((by rw [hg]; exact (below_size (by repeat (first | (with_reducible first | exact HB.out | apply below_alloc | apply pw_below_drewN | apply below_drew1) | exact HB.out))) : w.heap.size ≤ gb104)); have n3_ := Aside0.mk ((by rw [hg]; exact (below_size (by repeat (first | (with_reducible first | exact HB.out | apply below_alloc | apply pw_below_drewN | apply below_drew1) | exact HB.out))) : w.heap.size ≤ gb104)); clear HB; have HB := n0_; have BK104 := n1_; have GW104 := n2_; have GE104 := n3_; clear n0_ n1_ n2_ n3_; clear hb hbox hg; have hcz3_0 : w2.cell? ⟨gb104, 0, none⟩ = some (.int .u8 a0_0) := (blk_cell BK104.out 0).trans rfl; have hcz3_1 : w2.cell? ⟨gb104, 1, none⟩ = some (.int .u64 a0_1) := (blk_cell BK104.out 1).trans rfl; have hcz3_2 : w2.cell? ⟨gb104, 2, none⟩ = some (.string a0_2) := (blk_cell BK104.out 2).trans rfl; have hcz3_3 : w2.cell? ⟨gb104, 3, none⟩ = some (.slice A0_3 l0_3.length c0_3) := (blk_cell BK104.out 3).trans rfl; have hfz3_0 := blk_frozen BK104.out 0; have hfz3_1 := blk_frozen BK104.out 1; have hfz3_2 := blk_frozen BK104.out 2; have hfz3_3 := blk_frozen BK104.out 3))
 go_loopg [3, 4] k (fun kq v3 v4 w' => ∃ (x3_1 : Int) (x4_1 : Int), v3 = .int .i64 x3_1 ∧ v4 = .int .i64 x4_1 ∧ Aside0 (bellwetherlaw04_texts.l0 kq x3_1 x4_1 a0_0 a0_1 a0_2 l0_3 = some r) ∧ Aside0 (kq ≤ k) ∧ Aside0 (w'.heap[gb104]? = some (.cells #[.int .u8 a0_0, .int .u64 a0_1, .string a0_2, (.slice A0_3 l0_3.length c0_3)] 25 (0, 0))) ∧ Aside0 (Below w.heap.size w w'))
 case atStart => exact ⟨((a0_2.size : Int)), (0), (by first | rfl | (simp; done) | (simp [*]; done)), (by first | rfl | (simp; done) | (simp [*]; done)), H', ⟨Nat.le_refl _⟩, ⟨by (with_reducible repeat (first | refine blk_drewN ?_ _ | refine blk_drew ?_ | refine blk_alloc ?_ _)); exact BK104.out⟩, ⟨by repeat (first | (with_reducible first | exact HB.out | apply below_alloc | apply pw_below_drewN | apply below_drew1 | refine below_set ?_ GE104.out) | exact HB.out)⟩⟩
 case round =>
  clear H'
  try clear p2
  try clear hcz3_0
  try clear hcz3_1
  try clear hcz3_2
  try clear hcz3_3
  try clear hfz3_0
  try clear hfz3_1
  try clear hfz3_2
  try clear hfz3_3
  obtain ⟨x3_1, x4_1, rfl, rfl, HA, HK1, BK104, HB⟩ := hrel
  cases gk with
  | zero => exact absurd HA.out (by simp [bellwetherlaw04_texts.l0])
  | succ k1 =>
   have H := HA.out
   clear HA
   simp only [bellwetherlaw04_texts.l0] at H
   by_cases c4 : x4_1 < (l0_3.length : Int)
   ·rw [if_pos c4] at H
    have c4b0 : decide (x4_1 < (l0_3.length : Int)) = true := decide_eq_true c4
    clear c4
    by_cases c5 : 0 ≤ x4_1
    ·rw [if_pos c5] at H
     have c5b0 : decide (0 ≤ x4_1) = true := decide_eq_true c5
     clear c5
     replace H := Option.bind_eq_some_iff.mp H
     obtain ⟨t106, A60, H⟩ := H
     replace H : (bellwetherlaw04_texts.l0 k1 (wrap64 (x3_1 + t106)) (wrap64 (x4_1 + 1)) a0_0 a0_1 a0_2 l0_3) = some r := H
     have A6 := Aside0.mk A60
     clear A60
     have H' := Aside0.mk H
     clear H
     have hcz7_0 : wr.cell? ⟨gb104, 0, none⟩ = some (.int .u8 a0_0) := (blk_cell BK104.out 0).trans rfl
     have hcz7_1 : wr.cell? ⟨gb104, 1, none⟩ = some (.int .u64 a0_1) := (blk_cell BK104.out 1).trans rfl
     have hcz7_2 : wr.cell? ⟨gb104, 2, none⟩ = some (.string a0_2) := (blk_cell BK104.out 2).trans rfl
     have hcz7_3 : wr.cell? ⟨gb104, 3, none⟩ = some (.slice A0_3 l0_3.length c0_3) := (blk_cell BK104.out 3).trans rfl
     have hfz7_0 := blk_frozen BK104.out 0
     have hfz7_1 := blk_frozen BK104.out 1
     have hfz7_2 := blk_frozen BK104.out 2
     have hfz7_3 := blk_frozen BK104.out 3
     have p105 : 0 ≤ (x4_1 : Int) := of_decide_eq_true (by first | (with_reducible assumption) | assumption)
     have q105 : x4_1 < (l0_3.length : Int) := of_decide_eq_true (by first | (with_reducible assumption) | assumption)
     obtain ⟨ad105, A105_3, c105_3, e105, hx105_0, hx105_1, hx105_2, hx105_3, hl105_3, hi105_3⟩ := at_T25 HR0_3.out x4_1 p105 q105
     cases e105
     replace hx105_0 := (HB.out.cell (World.block_lt_of_cell? w _ hx105_0)).trans hx105_0
     replace hx105_1 := (HB.out.cell (World.block_lt_of_cell? w _ hx105_1)).trans hx105_1
     replace hx105_2 := (HB.out.cell (World.block_lt_of_cell? w _ hx105_2)).trans hx105_2
     replace hx105_3 := (HB.out.cell (World.block_lt_of_cell? w _ hx105_3)).trans hx105_3
     have HR105_3 := Aside0.mk hi105_3
     have HC105_3 := Aside0.mk hl105_3
     clear hi105_3 hl105_3
     replace p105 := eq_true p105
     replace q105 := eq_true q105
     go_wp2_with (first | ((with_reducible refine gate_callee (f := 56) rfl ?_); refine goesL_ (some 21) rfl rfl Try.func56 (by kernel_rfl) rfl #[.agg #[.int .u8 ((rd_T25 l0_3 x4_1).f0), .int .u64 ((rd_T25 l0_3 x4_1).f1), .string ((rd_T25 l0_3 x4_1).f2), .slice A105_3 ((rd_T25 l0_3 x4_1).f3).length c105_3]] rfl (by (try simp only [List.map_toArray, List.map_cons, List.map_nil]); first | done | rfl | (simp only [List.length_drop, List.length_take]; rfl)) ?_; (with_reducible refine (ih k1 (by have := HK1.out; omega) ((rd_T25 l0_3 x4_1).f0) ((rd_T25 l0_3 x4_1).f1) ((rd_T25 l0_3 x4_1).f2) _ _ ((rd_T25 l0_3 x4_1).f3) t106 _ ?side1 ?side2 A6.out).mono ?_); (case side1 => repeat (first | exact (Kd.C_below HR105_3.out HB.out) | (with_reducible refine Kd.C_alloc ?_ _) | (with_reducible refine Kd.C_drewN ?_ _) | (with_reducible refine Kd.C_drew ?_))); (case side2 => exact HC105_3.out); rintro e w8 ⟨rfl, hb⟩; refine ⟨_, rfl, ?_⟩; have n0_ := Aside0.mk (blk_below (g := gb104) (o := .cells #[.int .u8 a0_0, .int .u64 a0_1, .string a0_2, .slice (some ad105) l0_3.length c0_3] 25 (0, 0)) (by (with_reducible repeat (first | refine blk_drewN ?_ _ | refine blk_drew ?_ | refine blk_alloc ?_ _)); exact BK104.out) hb); have n1_ := Aside0.mk (below_step (by repeat (first | (with_reducible first | exact HB.out | apply below_alloc | apply pw_below_drewN | apply below_drew1 | refine below_set ?_ GE104.out) | exact HB.out)) hb); clear BK104; clear HB; have BK104 := n0_; have HB := n1_; clear n0_ n1_; (try clear hb); (try clear hb2); (try clear hk); (try clear hi)))
     go_roundg k1
     case measure => have := HK1.out; omega
     case rel => exact ⟨(wrap64 (x3_1 + t106)), (wrap64 (x4_1 + 1)), (by first | rfl | (simp; done) | (simp [*]; done)), (by first | rfl | (simp; done) | (simp [*]; done)), H', ⟨by have := HK1.out; omega⟩, ⟨by (with_reducible repeat (first | refine blk_drewN ?_ _ | refine blk_drew ?_ | refine blk_alloc ?_ _)); exact BK104.out⟩, ⟨by repeat (first | (with_reducible first | exact HB.out | apply below_alloc | apply pw_below_drewN | apply below_drew1 | refine below_set ?_ GE104.out) | exact HB.out)⟩⟩
    ·rw [if_neg c5] at H
     exact absurd H (by simp)
   ·rw [if_neg c4] at H
    have c4b0 : decide (x4_1 < (l0_3.length : Int)) = false := decide_eq_false c4
    clear c4
    obtain rfl := Option.some.inj H
    have hcz9_0 : wr.cell? ⟨gb104, 0, none⟩ = some (.int .u8 a0_0) := (blk_cell BK104.out 0).trans rfl
    have hcz9_1 : wr.cell? ⟨gb104, 1, none⟩ = some (.int .u64 a0_1) := (blk_cell BK104.out 1).trans rfl
    have hcz9_2 : wr.cell? ⟨gb104, 2, none⟩ = some (.string a0_2) := (blk_cell BK104.out 2).trans rfl
    have hcz9_3 : wr.cell? ⟨gb104, 3, none⟩ = some (.slice A0_3 l0_3.length c0_3) := (blk_cell BK104.out 3).trans rfl
    have hfz9_0 := blk_frozen BK104.out 0
    have hfz9_1 := blk_frozen BK104.out 1
    have hfz9_2 := blk_frozen BK104.out 2
    have hfz9_3 := blk_frozen BK104.out 3
    go_wp2
    go_ret
    exact ⟨by first | rfl | (simp [errW_none, errW_some] <;> rfl) | (simp [*, errW_none, errW_some] <;> rfl), by repeat (first | (with_reducible first | exact HB.out | apply below_alloc | apply pw_below_drewN | apply below_drew1 | refine below_set ?_ GE104.out) | exact HB.out)⟩
def bellwetherlaw04_Large.l0 : Nat → List (S25) → Int → Int → Option (Bool)
 | 0, _, _, _ => none
 | k + 1, x0, x3, x4 => if x4 < (x0.length : Int) then (if 0 ≤ x4 then ((bellwetherref04_Items.f k ((rd_T25 x0 x4).f0) ((rd_T25 x0 x4).f1) ((rd_T25 x0 x4).f2) ((rd_T25 x0 x4).f3)).bind fun t108 => ((bellwetherlaw04_texts.f k ((rd_T25 x0 x4).f0) ((rd_T25 x0 x4).f1) ((rd_T25 x0 x4).f2) ((rd_T25 x0 x4).f3)).bind fun t110 => (bellwetherlaw04_Large.l0 k x0 (wrap64 ((wrap64 (x3 + t108)) + (wrap64 (Int.tdiv t110 8)))) (wrap64 (x4 + 1))))) else (none)) else (some (decide (x3 > 8192)))
def bellwetherlaw04_Large.f (k : Nat) (l0 : List (S25)) : Option (Bool) := bellwetherlaw04_Large.l0 k l0 0 0
def bellwetherlaw04_Large.T5 : Bool × List (List Nat × List Nat) := (true, [([], []), ([], []), ([], []), ([1, 2], [1, 2]), ([3], [3]), ([4], [4]), ([0, 5], [0, 5]), ([], []), ([], []), ([7, 8], [7, 8]), ([9], [9]), ([10, 5], [10]), ([11], [11]), ([6, 12], [6, 12]), ([13, 11, 0, 1, 2, 3, 4, 5, 6, 7, 8, 9, 10, 11, 12, 13], [0, 13])])
def bellwetherlaw04_Large.B5 : List Nat := [0, 0, 0, 6, 14, 30, 63, 0, 0, 384, 896, 1982, 4030, 8191, 16383]
theorem bellwetherlaw04_Large.tab5 : rtab .any (opsOf Try.f14 5) = bellwetherlaw04_Large.T5 := by kernel_rfl
theorem bellwetherlaw04_Large.bits5 : waitsOk bellwetherlaw04_Large.T5.2 bellwetherlaw04_Large.B5 = true := by kernel_rfl
set_option maxHeartbeats 8000000 in
set_option maxRecDepth 100000 in
theorem bellwetherlaw04_Large.calls (k : Nat) (A0 : Option Addr) (c0 : Nat) (l0 : List (S25)) (r : Bool) (w : World) (hr0 : Kd.C k25 w A0 l0.length l0) (hc0 : l0.length ≤ c0) (h : bellwetherlaw04_Large.f k l0 = some r) :
  Calls Try.prog 14 #[.slice A0 l0.length c0] w fun e w' => e = .returned (.bool r) ∧ Below w.heap.size w w' := by
 have hu25 := Try.underlying25
 have HR0 := Aside0.mk hr0
 have HC0 := Aside0.mk hc0
 clear hr0 hc0
 have HB := Aside0.mk (Below.refl w.heap.size w)
 have H : (bellwetherlaw04_Large.l0 k l0 0 0) = some r := h
 clear h
 have H' := Aside0.mk H
 clear H
 go_enter Try.func14, Try.ntmps14
 go_wp2
 go_loopg [3, 4] k (fun kq v3 v4 w' => ∃ (x3_1 : Int) (x4_1 : Int), v3 = .int .i64 x3_1 ∧ v4 = .int .i64 x4_1 ∧ Aside0 (bellwetherlaw04_Large.l0 kq l0 x3_1 x4_1 = some r) ∧ Aside0 (kq ≤ k) ∧ Aside0 (Below w.heap.size w w'))
 case atStart => exact ⟨(0), (0), (by first | rfl | (simp; done) | (simp [*]; done)), (by first | rfl | (simp; done) | (simp [*]; done)), H', ⟨Nat.le_refl _⟩, ⟨by repeat (first | (with_reducible first | exact HB.out | apply below_alloc | apply pw_below_drewN | apply below_drew1) | exact HB.out)⟩⟩
 case round =>
  clear H'
  try clear c1
  obtain ⟨x3_1, x4_1, rfl, rfl, HA, HK1, HB⟩ := hrel
  cases gk with
  | zero => exact absurd HA.out (by simp [bellwetherlaw04_Large.l0])
  | succ k1 =>
   have H := HA.out
   clear HA
   simp only [bellwetherlaw04_Large.l0] at H
   by_cases c2 : x4_1 < (l0.length : Int)
   ·rw [if_pos c2] at H
    have c2b0 : decide (x4_1 < (l0.length : Int)) = true := decide_eq_true c2
    clear c2
    by_cases c3 : 0 ≤ x4_1
    ·rw [if_pos c3] at H
     have c3b0 : decide (0 ≤ x4_1) = true := decide_eq_true c3
     clear c3
     replace H := Option.bind_eq_some_iff.mp H
     obtain ⟨t108, A40, H⟩ := H
     replace H : ((bellwetherlaw04_texts.f k1 ((rd_T25 l0 x4_1).f0) ((rd_T25 l0 x4_1).f1) ((rd_T25 l0 x4_1).f2) ((rd_T25 l0 x4_1).f3)).bind fun t110 => (bellwetherlaw04_Large.l0 k1 l0 (wrap64 ((wrap64 (x3_1 + t108)) + (wrap64 (Int.tdiv t110 8)))) (wrap64 (x4_1 + 1)))) = some r := H
     have A4 := Aside0.mk A40
     clear A40
     replace H := Option.bind_eq_some_iff.mp H
     obtain ⟨t110, A50, H⟩ := H
     replace H : (bellwetherlaw04_Large.l0 k1 l0 (wrap64 ((wrap64 (x3_1 + t108)) + (wrap64 (Int.tdiv t110 8)))) (wrap64 (x4_1 + 1))) = some r := H
     have A5 := Aside0.mk A50
     clear A50
     have H' := Aside0.mk H
     clear H
     try go_wp2
     have n0_ := Aside0.mk (below_drew1 HB.out)
     clear HB
     have HB := n0_
     clear n0_
     have p107 : 0 ≤ (x4_1 : Int) := of_decide_eq_true (by first | (with_reducible assumption) | assumption)
     have q107 : x4_1 < (l0.length : Int) := of_decide_eq_true (by first | (with_reducible assumption) | assumption)
     obtain ⟨ad107, A107_3, c107_3, e107, hx107_0, hx107_1, hx107_2, hx107_3, hl107_3, hi107_3⟩ := at_T25 HR0.out x4_1 p107 q107
     have hw107_3 := hx107_3
     have hw107_2 := hx107_2
     have hw107_1 := hx107_1
     have hw107_0 := hx107_0
     cases e107
     replace hx107_0 := (HB.out.cell (World.block_lt_of_cell? w _ hx107_0)).trans hx107_0
     replace hx107_1 := (HB.out.cell (World.block_lt_of_cell? w _ hx107_1)).trans hx107_1
     replace hx107_2 := (HB.out.cell (World.block_lt_of_cell? w _ hx107_2)).trans hx107_2
     replace hx107_3 := (HB.out.cell (World.block_lt_of_cell? w _ hx107_3)).trans hx107_3
     have HR107_3 := Aside0.mk hi107_3
     have HC107_3 := Aside0.mk hl107_3
     clear hi107_3 hl107_3
     replace p107 := eq_true p107
     replace q107 := eq_true q107
     have p109 : 0 ≤ (x4_1 : Int) := of_decide_eq_true (by first | (with_reducible assumption) | assumption)
     have q109 : x4_1 < (l0.length : Int) := of_decide_eq_true (by first | (with_reducible assumption) | assumption)
     obtain ⟨ad109, A109_3, c109_3, e109, hx109_0, hx109_1, hx109_2, hx109_3, hl109_3, hi109_3⟩ := at_T25 HR0.out x4_1 p109 q109
     have hw109_3 := hx109_3
     have hw109_2 := hx109_2
     have hw109_1 := hx109_1
     have hw109_0 := hx109_0
     obtain rfl : ad107 = ad109 := (by injection e109)
     replace hx109_0 := (HB.out.cell (World.block_lt_of_cell? w _ hx109_0)).trans hx109_0
     replace hx109_1 := (HB.out.cell (World.block_lt_of_cell? w _ hx109_1)).trans hx109_1
     replace hx109_2 := (HB.out.cell (World.block_lt_of_cell? w _ hx109_2)).trans hx109_2
     replace hx109_3 := (HB.out.cell (World.block_lt_of_cell? w _ hx109_3)).trans hx109_3
     have HR109_3 := Aside0.mk hi109_3
     have HC109_3 := Aside0.mk hl109_3
     clear hi109_3 hl109_3
     replace p109 := eq_true p109
     replace q109 := eq_true q109
     have ea_ := Option.some.inj (hx107_3.symm.trans hx109_3)
     injection ea_ with ea_ en_ ec_
     subst ea_
     subst ec_
     clear en_
     refine start_ (n := 15) (S := fun w' => w'.cell? (ad107.add ((x4_1).toNat * 4)) = some (.int .u8 ((rd_T25 l0 x4_1).f0)) ∧ w'.cell? ⟨(ad107.add ((x4_1).toNat * 4)).block, (ad107.add ((x4_1).toNat * 4)).off + 1, none⟩ = some (.int .u64 ((rd_T25 l0 x4_1).f1)) ∧ w'.cell? ⟨(ad107.add ((x4_1).toNat * 4)).block, (ad107.add ((x4_1).toNat * 4)).off + 2, none⟩ = some (.string ((rd_T25 l0 x4_1).f2)) ∧ w'.cell? ⟨(ad107.add ((x4_1).toNat * 4)).block, (ad107.add ((x4_1).toNat * 4)).off + 3, none⟩ = some (.slice A107_3 ((rd_T25 l0 x4_1).f3).length c107_3) ∧ w'.cell? (ad107.add ((x4_1).toNat * 4)) = some (.int .u8 ((rd_T25 l0 x4_1).f0)) ∧ w'.cell? ⟨(ad107.add ((x4_1).toNat * 4)).block, (ad107.add ((x4_1).toNat * 4)).off + 1, none⟩ = some (.int .u64 ((rd_T25 l0 x4_1).f1)) ∧ w'.cell? ⟨(ad107.add ((x4_1).toNat * 4)).block, (ad107.add ((x4_1).toNat * 4)).off + 2, none⟩ = some (.string ((rd_T25 l0 x4_1).f2)) ∧ w'.cell? ⟨(ad107.add ((x4_1).toNat * 4)).block, (ad107.add ((x4_1).toNat * 4)).off + 3, none⟩ = some (.slice A107_3 ((rd_T25 l0 x4_1).f3).length c107_3)) (ds := []) #[false, false, false, false, false, false, false, false, false, false, false, false, false, false, false] (by kernel_rfl) rfl rfl ⟨((HB.out.cell (World.block_lt_of_cell? w _ hw107_0)).trans hw107_0), ((HB.out.cell (World.block_lt_of_cell? w _ hw107_1)).trans hw107_1), ((HB.out.cell (World.block_lt_of_cell? w _ hw107_2)).trans hw107_2), ((HB.out.cell (World.block_lt_of_cell? w _ hw107_3)).trans hw107_3), ((HB.out.cell (World.block_lt_of_cell? w _ hw109_0)).trans hw109_0), ((HB.out.cell (World.block_lt_of_cell? w _ hw109_1)).trans hw109_1), ((HB.out.cell (World.block_lt_of_cell? w _ hw109_2)).trans hw109_2), ((HB.out.cell (World.block_lt_of_cell? w _ hw109_3)).trans hw109_3)⟩ (fun hHeld => ?_); refine with_tabW bellwetherlaw04_Large.tab5 bellwetherlaw04_Large.bits5 (fun HT_ HW_ => ?_)
     generalize wr.drew = w6 at HB HR107_3 HR109_3 hx107_0 hx107_1 hx107_2 hx107_3 hx109_0 hx109_1 hx109_2 hx109_3 hHeld ⊢
     refine pure_ (i := 0) (N := some 11) (v := ?_) (a' := ?_) #[true, false, false, false, false, false, false, false, false, false, false, false, false, false, false] rfl rfl (any_of HT_.out (by kernel_rfl)) (fun _ _ _ h => h) (Or.inl ⟨by rfl, ?_⟩) ?_ ?_
     rotate_left
     ·intro w'
      go_simp
      with_reducible rfl
     rotate_left
     ·simp only [Act.put, List.setIfInBounds_toArray, List.set_cons_zero, List.set_cons_succ, i64_w, i32_w]
      rfl
     refine pure_ (i := 1) (N := some 12) (v := ?_) (a' := ?_) #[true, true, false, false, false, false, false, false, false, false, false, false, false, false, false] rfl rfl (any_of HT_.out (by kernel_rfl)) (fun _ _ _ h => h) (Or.inl ⟨by rfl, ?_⟩) ?_ ?_
     rotate_left
     ·intro w'
      go_simp
      with_reducible rfl
     rotate_left
     ·simp only [Act.put, List.setIfInBounds_toArray, List.set_cons_zero, List.set_cons_succ, i64_w, i32_w]
      rfl
     refine pure_ (i := 2) (N := some 13) (v := ?_) (a' := ?_) #[true, true, true, false, false, false, false, false, false, false, false, false, false, false, false] rfl rfl (any_of HT_.out (by kernel_rfl)) (fun _ _ _ h => h) (Or.inl ⟨by rfl, ?_⟩) ?_ ?_
     rotate_left
     ·intro w'
      go_simp
      with_reducible rfl
     rotate_left
     ·simp only [Act.put, List.setIfInBounds_toArray, List.set_cons_zero, List.set_cons_succ, i64_w, i32_w]
      rfl
     refine pure_ (i := 3) (N := some 14) (v := ?_) (a' := ?_) #[true, true, true, true, false, false, false, false, false, false, false, false, false, false, false] rfl rfl (any_of HT_.out (by kernel_rfl)) (fun _ _ _ h => h) (Or.inl ⟨by rfl, ?_⟩) ?_ ?_
     rotate_left
     ·intro w'
      go_simp
      with_reducible rfl
     rotate_left
     ·simp only [Act.put, List.setIfInBounds_toArray, List.set_cons_zero, List.set_cons_succ, i64_w, i32_w]
      rfl
     refine pure_ (i := 7) (N := some 18) (v := ?_) (a' := ?_) #[true, true, true, true, false, false, false, true, false, false, false, false, false, false, false] rfl rfl (any_of HT_.out (by kernel_rfl)) (fun _ _ _ h => h) (Or.inl ⟨by rfl, ?_⟩) ?_ ?_
     rotate_left
     ·intro w'
      go_simp
      with_reducible rfl
     rotate_left
     ·simp only [Act.put, List.setIfInBounds_toArray, List.set_cons_zero, List.set_cons_succ, i64_w, i32_w]
      rfl
     refine pure_ (i := 8) (N := some 19) (v := ?_) (a' := ?_) #[true, true, true, true, false, false, false, true, true, false, false, false, false, false, false] rfl rfl (any_of HT_.out (by kernel_rfl)) (fun _ _ _ h => h) (Or.inl ⟨by rfl, ?_⟩) ?_ ?_
     rotate_left
     ·intro w'
      go_simp
      with_reducible rfl
     rotate_left
     ·simp only [Act.put, List.setIfInBounds_toArray, List.set_cons_zero, List.set_cons_succ, i64_w, i32_w]
      rfl
     refine pure_ (i := 9) (N := some 20) (v := ?_) (a' := ?_) #[true, true, true, true, false, false, false, true, true, true, false, false, false, false, false] rfl rfl (any_of HT_.out (by kernel_rfl)) (fun _ _ _ h => h) (Or.inl ⟨by rfl, ?_⟩) ?_ ?_
     rotate_left
     ·intro w'
      go_simp
      with_reducible rfl
     rotate_left
     ·simp only [Act.put, List.setIfInBounds_toArray, List.set_cons_zero, List.set_cons_succ, i64_w, i32_w]
      rfl
     refine take_ (i := 4) (N := some 15) (v := ?_) (a' := ?_) #[true, true, true, true, true, false, false, true, true, true, false, false, false, false, false] rfl rfl (take_ofW HT_.out HW_.out (by kernel_rfl)) (fun _ _ _ h => h) (Or.inl ⟨by rfl, ?_⟩) hHeld ?_ ?_
     rotate_left
     ·rintro w' ⟨s0, s1, s2, s3, s4, s5, s6, s7⟩
      go_simp
      with_reducible rfl
     rotate_left
     ·simp only [Act.put, List.setIfInBounds_toArray, List.set_cons_zero, List.set_cons_succ, i64_w, i32_w]
      rfl
     refine take_ (i := 10) (N := some 21) (v := ?_) (a' := ?_) #[true, true, true, true, true, false, false, true, true, true, true, false, false, false, false] rfl rfl (take_ofW HT_.out HW_.out (by kernel_rfl)) (fun _ _ _ h => h) (Or.inl ⟨by rfl, ?_⟩) hHeld ?_ ?_
     rotate_left
     ·rintro w' ⟨s0, s1, s2, s3, s4, s5, s6, s7⟩
      go_simp
      with_reducible rfl
     rotate_left
     ·simp only [Act.put, List.setIfInBounds_toArray, List.set_cons_zero, List.set_cons_succ, i64_w, i32_w]
      rfl
     refine one_ (i := 5) (N := some 16) #[true, true, true, true, true, true, false, true, true, true, true, false, false, false, false] rfl rfl (one_of HT_.out (by kernel_rfl)) (by decide) (fun K hK => ?_)
     refine goes_ Try.func35 (by kernel_rfl) rfl #[.agg #[.int .u8 ((rd_T25 l0 x4_1).f0), .int .u64 ((rd_T25 l0 x4_1).f1), .string ((rd_T25 l0 x4_1).f2), .slice A107_3 ((rd_T25 l0 x4_1).f3).length c107_3]] (by rfl) rfl rfl (by (try simp only [List.map_toArray, List.map_cons, List.map_nil]); first | done | rfl | (simp only [List.length_drop, List.length_take]; rfl)) ?_
     with_reducible refine (bellwetherref04_Items.calls k1 ((rd_T25 l0 x4_1).f0) ((rd_T25 l0 x4_1).f1) ((rd_T25 l0 x4_1).f2) _ _ ((rd_T25 l0 x4_1).f3) t108 _ ?side1 ?side2 A4.out).mono ?_
     (case side1 => repeat (first | exact (Kd.C_below HR107_3.out HB.out) | (with_reducible refine Kd.C_alloc ?_ _) | (with_reducible refine Kd.C_drewN ?_ _) | (with_reducible refine Kd.C_drew ?_)))
     (case side2 => exact HC107_3.out)
     rintro e w7 ⟨rfl, hb⟩
     refine ⟨_, rfl, ?_⟩
     have n0_ := Aside0.mk (below_step (by repeat (first | (with_reducible first | exact HB.out | apply below_alloc | apply pw_below_drewN | apply below_drew1) | exact HB.out)) hb)
     clear HB
     have HB := n0_
     clear n0_
     (try clear hb)
     (try clear hb2)
     (try clear hk)
     (try clear hi)
     refine hK.out _ _ ⟨((HB.out.cell (World.block_lt_of_cell? w _ hw107_0)).trans hw107_0), ((HB.out.cell (World.block_lt_of_cell? w _ hw107_1)).trans hw107_1), ((HB.out.cell (World.block_lt_of_cell? w _ hw107_2)).trans hw107_2), ((HB.out.cell (World.block_lt_of_cell? w _ hw107_3)).trans hw107_3), ((HB.out.cell (World.block_lt_of_cell? w _ hw109_0)).trans hw109_0), ((HB.out.cell (World.block_lt_of_cell? w _ hw109_1)).trans hw109_1), ((HB.out.cell (World.block_lt_of_cell? w _ hw109_2)).trans hw109_2), ((HB.out.cell (World.block_lt_of_cell? w _ hw109_3)).trans hw109_3)⟩ (fun hHeld => ?_)
     clear hK K
     refine norm_ (a' := ?_) ?_ ?_
     rotate_left
     ·show Act.put _ (some 16) _ = _
      simp only [Act.put, List.setIfInBounds_toArray, List.set_cons_zero, List.set_cons_succ, i64_w, i32_w]
      rfl
     refine pure_ (i := 6) (N := some 17) (v := ?_) (a' := ?_) #[true, true, true, true, true, true, true, true, true, true, true, false, false, false, false] rfl rfl (any_of HT_.out (by kernel_rfl)) (fun _ _ _ h => h) (Or.inl ⟨by rfl, ?_⟩) ?_ ?_
     rotate_left
     ·intro w'
      go_simp
      with_reducible rfl
     rotate_left
     ·simp only [Act.put, List.setIfInBounds_toArray, List.set_cons_zero, List.set_cons_succ, i64_w, i32_w]
      rfl
     refine one_ (i := 11) (N := some 22) #[true, true, true, true, true, true, true, true, true, true, true, true, false, false, false] rfl rfl (one_of HT_.out (by kernel_rfl)) (by decide) (fun K hK => ?_)
     refine goes_ Try.func56 (by kernel_rfl) rfl #[.agg #[.int .u8 ((rd_T25 l0 x4_1).f0), .int .u64 ((rd_T25 l0 x4_1).f1), .string ((rd_T25 l0 x4_1).f2), .slice A107_3 ((rd_T25 l0 x4_1).f3).length c107_3]] (by rfl) rfl rfl (by (try simp only [List.map_toArray, List.map_cons, List.map_nil]); first | done | rfl | (simp only [List.length_drop, List.length_take]; rfl)) ?_
     with_reducible refine (bellwetherlaw04_texts.calls k1 ((rd_T25 l0 x4_1).f0) ((rd_T25 l0 x4_1).f1) ((rd_T25 l0 x4_1).f2) _ _ ((rd_T25 l0 x4_1).f3) t110 _ ?side1 ?side2 A5.out).mono ?_
     (case side1 => repeat (first | exact (Kd.C_below HR109_3.out HB.out) | (with_reducible refine Kd.C_alloc ?_ _) | (with_reducible refine Kd.C_drewN ?_ _) | (with_reducible refine Kd.C_drew ?_)))
     (case side2 => exact HC109_3.out)
     rintro e w8 ⟨rfl, hb⟩
     refine ⟨_, rfl, ?_⟩
     have n0_ := Aside0.mk (below_step (by repeat (first | (with_reducible first | exact HB.out | apply below_alloc | apply pw_below_drewN | apply below_drew1) | exact HB.out)) hb)
     clear HB
     have HB := n0_
     clear n0_
     (try clear hb)
     (try clear hb2)
     (try clear hk)
     (try clear hi)
     refine hK.out _ _ ⟨((HB.out.cell (World.block_lt_of_cell? w _ hw107_0)).trans hw107_0), ((HB.out.cell (World.block_lt_of_cell? w _ hw107_1)).trans hw107_1), ((HB.out.cell (World.block_lt_of_cell? w _ hw107_2)).trans hw107_2), ((HB.out.cell (World.block_lt_of_cell? w _ hw107_3)).trans hw107_3), ((HB.out.cell (World.block_lt_of_cell? w _ hw109_0)).trans hw109_0), ((HB.out.cell (World.block_lt_of_cell? w _ hw109_1)).trans hw109_1), ((HB.out.cell (World.block_lt_of_cell? w _ hw109_2)).trans hw109_2), ((HB.out.cell (World.block_lt_of_cell? w _ hw109_3)).trans hw109_3)⟩ (fun hHeld => ?_)
     clear hK K
     refine norm_ (a' := ?_) ?_ ?_
     rotate_left
     ·show Act.put _ (some 22) _ = _
      simp only [Act.put, List.setIfInBounds_toArray, List.set_cons_zero, List.set_cons_succ, i64_w, i32_w]
      rfl
     refine pure_ (i := 12) (N := some 23) (v := ?_) (a' := ?_) #[true, true, true, true, true, true, true, true, true, true, true, true, true, false, false] rfl rfl (any_of HT_.out (by kernel_rfl)) (fun _ _ _ h => h) (Or.inl ⟨by rfl, ?_⟩) ?_ ?_
     rotate_left
     ·intro w'
      go_simp
      with_reducible rfl
     rotate_left
     ·simp only [Act.put, List.setIfInBounds_toArray, List.set_cons_zero, List.set_cons_succ, i64_w, i32_w]
      rfl
     refine pure_ (i := 13) (N := some 24) (v := ?_) (a' := ?_) #[true, true, true, true, true, true, true, true, true, true, true, true, true, true, false] rfl rfl (any_of HT_.out (by kernel_rfl)) (fun _ _ _ h => h) (Or.inl ⟨by rfl, ?_⟩) ?_ ?_
     rotate_left
     ·intro w'
      go_simp
      with_reducible rfl
     rotate_left
     ·simp only [Act.put, List.setIfInBounds_toArray, List.set_cons_zero, List.set_cons_succ, i64_w, i32_w]
      rfl
     refine pure_ (i := 14) (N := some 3) (v := ?_) (a' := ?_) #[true, true, true, true, true, true, true, true, true, true, true, true, true, true, true] rfl rfl (any_of HT_.out (by kernel_rfl)) (fun _ _ _ h => h) (Or.inl ⟨by rfl, ?_⟩) ?_ ?_
     rotate_left
     ·intro w'
      go_simp
      with_reducible rfl
     rotate_left
     ·simp only [Act.put, List.setIfInBounds_toArray, List.set_cons_zero, List.set_cons_succ, i64_w, i32_w]
      rfl
     refine done_ (done_of HT_.out (by kernel_rfl)) ?_
     try go_wp2
     go_roundg k1
     case measure => have := HK1.out; omega
     case rel => exact ⟨(wrap64 ((wrap64 (x3_1 + t108)) + (wrap64 (Int.tdiv t110 8)))), (wrap64 (x4_1 + 1)), (by first | rfl | (simp; done) | (simp [*]; done)), (by first | rfl | (simp; done) | (simp [*]; done)), H', ⟨by have := HK1.out; omega⟩, ⟨by repeat (first | (with_reducible first | exact HB.out | apply below_alloc | apply pw_below_drewN | apply below_drew1) | exact HB.out)⟩⟩
    ·rw [if_neg c3] at H
     exact absurd H (by simp)
   ·rw [if_neg c2] at H
    have c2b0 : decide (x4_1 < (l0.length : Int)) = false := decide_eq_false c2
    clear c2
    obtain rfl := Option.some.inj H
    go_wp2
    go_ret
    exact ⟨by first | rfl | (simp [errW_none, errW_some] <;> rfl) | (simp [*, errW_none, errW_some] <;> rfl), by repeat (first | (with_reducible first | exact HB.out | apply below_alloc | apply pw_below_drewN | apply below_drew1) | exact HB.out)⟩
end Go.Proofs.Ytdilbnggedidnaa.PVal
namespace Go.Proofs.Ytdilbnggedidnaa.PVal
open Go.RowKit Go.Proofs.YtdilbnggedidnaaW.PrintWords Go.Proofs.YtdilbnggedidnaaW.PrintLast
attribute [local go_sem] max2_int max_two
set_option linter.unusedVariables false
set_option linter.unusedSimpArgs false
mutual
def bellwetherref04_Same.j0 : Nat → Bool → Int → Int → ByteArray → List (S25) → Int → Int → ByteArray → List (S25) → Option (Bool)
 | 0, _, _, _, _, _, _, _, _, _ => none
 | k + 1, x33, x115000, x115001, x115002, x115003, x116000, x116001, x116002, x116003 => if x33 = true then (some false) else (bellwetherref04_Same.l0 k 0 x115000 x115001 x115002 x115003 x116000 x116001 x116002 x116003)
def bellwetherref04_Same.l0 : Nat → Int → Int → Int → ByteArray → List (S25) → Int → Int → ByteArray → List (S25) → Option (Bool)
 | 0, _, _, _, _, _, _, _, _, _ => none
 | k + 1, x5, x115000, x115001, x115002, x115003, x116000, x116001, x116002, x116003 => if x5 < (x115003.length : Int) then (if 0 ≤ x5 then (if x5 < (x116003.length : Int) then ((bellwetherref04_Same.f k ((rd_T25 x115003 x5).f0) ((rd_T25 x115003 x5).f1) ((rd_T25 x115003 x5).f2) ((rd_T25 x115003 x5).f3) ((rd_T25 x116003 x5).f0) ((rd_T25 x116003 x5).f1) ((rd_T25 x116003 x5).f2) ((rd_T25 x116003 x5).f3)).bind fun t118 => (if t118 = true then (bellwetherref04_Same.l0 k (wrap64 (x5 + 1)) x115000 x115001 x115002 x115003 x116000 x116001 x116002 x116003) else (some false))) else (none)) else (none)) else (some true)
def bellwetherref04_Same.f : Nat → Int → Int → ByteArray → List (S25) → Int → Int → ByteArray → List (S25) → Option (Bool)
 | 0, _, _, _, _, _, _, _, _ => none
 | k + 1, a0_0, a0_1, a0_2, l0_3, a1_0, a1_1, a1_2, l1_3 => if a0_0 = a1_0 then (if a0_1 = a1_1 then (if a0_2.toList = a1_2.toList then (bellwetherref04_Same.j0 k ((l0_3.length : Int) != (l1_3.length : Int)) a0_0 a0_1 a0_2 l0_3 a1_0 a1_1 a1_2 l1_3) else (bellwetherref04_Same.j0 k true a0_0 a0_1 a0_2 l0_3 a1_0 a1_1 a1_2 l1_3)) else (bellwetherref04_Same.j0 k true a0_0 a0_1 a0_2 l0_3 a1_0 a1_1 a1_2 l1_3)) else (bellwetherref04_Same.j0 k true a0_0 a0_1 a0_2 l0_3 a1_0 a1_1 a1_2 l1_3)
end
def bellwetherref04_Same.T6 : Bool × List (List Nat × List Nat) := (true, [([], []), ([0], [0]), ([], []), ([1, 2], [1, 2]), ([3], [3]), ([], []), ([5], [5]), ([], []), ([6, 7], [6, 7]), ([8], [8]), ([4, 9], [4, 9]), ([10], [10])])
def bellwetherref04_Same.B6 : List Nat := [0, 1, 0, 7, 15, 0, 32, 0, 224, 480, 1023, 2047]
theorem bellwetherref04_Same.tab6 : rtab .any (opsOf Try.f19 6) = bellwetherref04_Same.T6 := by kernel_rfl
theorem bellwetherref04_Same.bits6 : waitsOk bellwetherref04_Same.T6.2 bellwetherref04_Same.B6 = true := by kernel_rfl
set_option maxHeartbeats 8000000 in
set_option maxRecDepth 100000 in
theorem bellwetherref04_Same.calls (k : Nat) : ∀ (a0_0 : Int) (a0_1 : Int) (a0_2 : ByteArray) (A0_3 : Option Addr) (c0_3 : Nat) (l0_3 : List (S25)) (a1_0 : Int) (a1_1 : Int) (a1_2 : ByteArray) (A1_3 : Option Addr) (c1_3 : Nat) (l1_3 : List (S25)) (r : Bool) (w : World) (hr0_3 : Kd.C k25 w A0_3 l0_3.length l0_3) (hc0_3 : l0_3.length ≤ c0_3) (hr1_3 : Kd.C k25 w A1_3 l1_3.length l1_3) (hc1_3 : l1_3.length ≤ c1_3) (h : bellwetherref04_Same.f k a0_0 a0_1 a0_2 l0_3 a1_0 a1_1 a1_2 l1_3 = some r),
  Calls Try.prog 19 #[.agg #[.int .u8 a0_0, .int .u64 a0_1, .string a0_2, .slice A0_3 l0_3.length c0_3], .agg #[.int .u8 a1_0, .int .u64 a1_1, .string a1_2, .slice A1_3 l1_3.length c1_3]] w fun e w' => e = .returned (.bool r) ∧ Below w.heap.size w w' := by
 induction k using Nat.strongRecOn with
 | _ k ih =>
 intro a0_0 a0_1 a0_2 A0_3 c0_3 l0_3 a1_0 a1_1 a1_2 A1_3 c1_3 l1_3 r w hr0_3 hc0_3 hr1_3 hc1_3 h
 cases k with
 | zero => exact absurd h (by simp [bellwetherref04_Same.f])
 | succ k =>
 simp only [bellwetherref04_Same.f] at h
 have hu25 := Try.underlying25
 have HR0_3 := Aside0.mk hr0_3
 have HC0_3 := Aside0.mk hc0_3
 clear hr0_3 hc0_3
 have HR1_3 := Aside0.mk hr1_3
 have HC1_3 := Aside0.mk hc1_3
 clear hr1_3 hc1_3
 have HB := Aside0.mk (Below.refl w.heap.size w)
 have H : (if a0_0 = a1_0 then (if a0_1 = a1_1 then (if a0_2.toList = a1_2.toList then (bellwetherref04_Same.j0 k ((l0_3.length : Int) != (l1_3.length : Int)) a0_0 a0_1 a0_2 l0_3 a1_0 a1_1 a1_2 l1_3) else (bellwetherref04_Same.j0 k true a0_0 a0_1 a0_2 l0_3 a1_0 a1_1 a1_2 l1_3)) else (bellwetherref04_Same.j0 k true a0_0 a0_1 a0_2 l0_3 a1_0 a1_1 a1_2 l1_3)) else (bellwetherref04_Same.j0 k true a0_0 a0_1 a0_2 l0_3 a1_0 a1_1 a1_2 l1_3)) = some r := h
 clear h
 have HC3 := Aside0.mk H
 clear H
 go_enter Try.func19, Try.ntmps19
 go_upto_region 1 with (first | ((with_reducible refine gate_dst (N := 2) rfl ?_); (try (refine gate_guard (by rfl) ?_; dsimp only)); refine box_event ?hg (N := 2) ?hd (cs := #[.int .u8 a0_0, .int .u64 a0_1, .string a0_2, .slice A0_3 l0_3.length c0_3]) (t := 25) ?hr ?_; (case hd => rfl); (case hg => rfl); (case hr => first | (go_simp; done) | (go_simp; rfl)); intro gb114 hg w4 hbox hb; have n0_ := Aside0.mk (below_step (by repeat (first | (with_reducible first | exact HB.out | apply below_alloc | apply pw_below_drewN | apply below_drew1) | exact HB.out)) hb); have n1_ := Aside0.mk (hbox); have n2_ := Aside0.mk ((by rw [hg]; exact (below_size (by repeat (first | (with_reducible first | exact HB.out | apply below_alloc | apply pw_below_drewN | apply below_drew1) | exact HB.out))) : w.heap.size ≤ gb114)); have n3_ := Aside0.mk ((by rw [hg]; exact (below_size (by repeat (first | (with_reducible first | exact HB.out | apply below_alloc | apply pw_below_drewN | apply below_drew1) | exact HB.out))) : w.heap.size ≤ gb114)); clear HB; have HB := n0_; have BK114 := n1_; have GW114 := n2_; have GE114 := n3_; clear n0_ n1_ n2_ n3_; clear hb hbox hg) | ((with_reducible refine gate_dst (N := 3) rfl ?_); (try (refine gate_guard (by rfl) ?_; dsimp only)); refine box_event ?hg (N := 3) ?hd (cs := #[.int .u8 a1_0, .int .u64 a1_1, .string a1_2, .slice A1_3 l1_3.length c1_3]) (t := 25) ?hr ?_; (case hd => rfl); (case hg => rfl); (case hr => first | (go_simp; done) | (go_simp; rfl)); intro gb115 hg w5 hbox hb; have n0_ := Aside0.mk (blk_below (g := gb114) (o := .cells #[.int .u8 a0_0, .int .u64 a0_1, .string a0_2, .slice A0_3 l0_3.length c0_3] 25 (0, 0)) (by (with_reducible repeat (first | refine blk_drewN ?_ _ | refine blk_drew ?_ | refine blk_alloc ?_ _)); exact BK114.out) hb); have n1_ := Aside0.mk (below_step (by repeat (first | (with_reducible first | exact HB.out | apply below_alloc | apply pw_below_drewN | apply below_drew1 | refine below_set ?_ GE114.out) | exact HB.out)) hb); have n2_ := Aside0.mk (hbox); have n3_ := Aside0.mk ((by rw [hg]; exact (below_size (by repeat (first | (with_reducible first | exact HB.out | apply below_alloc | apply pw_below_drewN | apply below_drew1 | refine below_set ?_ GE114.out) | exact HB.out))) : w.heap.size ≤ gb115)); have n4_ := Aside0.mk ((by rw [hg]; exact (below_size (by repeat (first | (with_reducible first | exact HB.out | apply below_alloc | apply pw_below_drewN | apply below_drew1 | refine below_set ?_ GE114.out) | exact HB.out))) : w.heap.size ≤ gb115)); have n5_ := Aside0.mk ((by rw [hg]; exact Nat.ne_of_lt (blk_lt (g := gb114) (o := .cells #[.int .u8 a0_0, .int .u64 a0_1, .string a0_2, .slice A0_3 l0_3.length c0_3] 25 (0, 0)) (by (with_reducible repeat (first | refine blk_drewN ?_ _ | refine blk_drew ?_ | refine blk_alloc ?_ _)); exact BK114.out)) : gb114 ≠ gb115)); have n6_ := Aside0.mk ((by rw [hg]; exact Nat.ne_of_gt (blk_lt (g := gb114) (o := .cells #[.int .u8 a0_0, .int .u64 a0_1, .string a0_2, .slice A0_3 l0_3.length c0_3] 25 (0, 0)) (by (with_reducible repeat (first | refine blk_drewN ?_ _ | refine blk_drew ?_ | refine blk_alloc ?_ _)); exact BK114.out)) : gb115 ≠ gb114)); clear BK114; clear HB; have BK114 := n0_; have HB := n1_; have BK115 := n2_; have GW115 := n3_; have GE115 := n4_; have NB114_115 := n5_; have NB115_114 := n6_; clear n0_ n1_ n2_ n3_ n4_ n5_ n6_; clear hb hbox hg))
 (try simp only [Act.put, List.setIfInBounds_toArray, List.set_cons_zero, List.set_cons_succ])
 go_cut [33] (fun v33 wc => ∃ (kq : Nat) (x33_2 : Bool), v33 = .bool x33_2 ∧ Aside0 (bellwetherref04_Same.j0 kq x33_2 a0_0 a0_1 a0_2 l0_3 a1_0 a1_1 a1_2 l1_3 = some r) ∧ Aside0 (kq ≤ k) ∧ Aside0 (wc.heap[gb114]? = some (.cells #[.int .u8 a0_0, .int .u64 a0_1, .string a0_2, (.slice A0_3 l0_3.length c0_3)] 25 (0, 0))) ∧ Aside0 (wc.heap[gb115]? = some (.cells #[.int .u8 a1_0, .int .u64 a1_1, .string a1_2, (.slice A1_3 l1_3.length c1_3)] 25 (0, 0))) ∧ Aside0 (Below w.heap.size w wc))
 case first =>
  have H := HC3.out
  clear HC3
  by_cases c6 : a0_0 = a1_0
  ·rw [if_pos c6] at H
   have c6b0 : (a0_0 == a1_0) = true := beq_iff_eq.mpr c6
   have c6b1 : (a0_0 != a1_0) = false := bne_eq_false_iff_eq.mpr c6
   clear c6
   (first | rw [c6b0] | (simp only [i64_w, i32_w]; rw [c6b0]) | skip)
   by_cases c7 : a0_1 = a1_1
   ·rw [if_pos c7] at H
    have c7b0 : (a0_1 == a1_1) = true := beq_iff_eq.mpr c7
    have c7b1 : (a0_1 != a1_1) = false := bne_eq_false_iff_eq.mpr c7
    clear c7
    by_cases c8 : a0_2.toList = a1_2.toList
    ·rw [if_pos c8] at H
     have c8b0 : (a0_2.toList == a1_2.toList) = true := beq_iff_eq.mpr c8
     have c8b1 : (a0_2.toList != a1_2.toList) = false := bne_eq_false_iff_eq.mpr c8
     clear c8
     have H' := Aside0.mk H
     clear H
     have hnb9 := NB114_115.out
     have hnc9 := NB115_114.out
     have hcz10_0 : w5.cell? ⟨gb114, 0, none⟩ = some (.int .u8 a0_0) := (blk_cell BK114.out 0).trans rfl
     have hcz10_1 : w5.cell? ⟨gb114, 1, none⟩ = some (.int .u64 a0_1) := (blk_cell BK114.out 1).trans rfl
     have hcz10_2 : w5.cell? ⟨gb114, 2, none⟩ = some (.string a0_2) := (blk_cell BK114.out 2).trans rfl
     have hcz10_3 : w5.cell? ⟨gb114, 3, none⟩ = some (.slice A0_3 l0_3.length c0_3) := (blk_cell BK114.out 3).trans rfl
     have hfz10_0 := blk_frozen BK114.out 0
     have hfz10_1 := blk_frozen BK114.out 1
     have hfz10_2 := blk_frozen BK114.out 2
     have hfz10_3 := blk_frozen BK114.out 3
     have hcz11_0 : w5.cell? ⟨gb115, 0, none⟩ = some (.int .u8 a1_0) := (blk_cell BK115.out 0).trans rfl
     have hcz11_1 : w5.cell? ⟨gb115, 1, none⟩ = some (.int .u64 a1_1) := (blk_cell BK115.out 1).trans rfl
     have hcz11_2 : w5.cell? ⟨gb115, 2, none⟩ = some (.string a1_2) := (blk_cell BK115.out 2).trans rfl
     have hcz11_3 : w5.cell? ⟨gb115, 3, none⟩ = some (.slice A1_3 l1_3.length c1_3) := (blk_cell BK115.out 3).trans rfl
     have hfz11_0 := blk_frozen BK115.out 0
     have hfz11_1 := blk_frozen BK115.out 1
     have hfz11_2 := blk_frozen BK115.out 2
     have hfz11_3 := blk_frozen BK115.out 3
     go_wp2
     go_meet
     case rel => exact ⟨_, (((l0_3.length : Int) != (l1_3.length : Int))), (by first | rfl | (simp; done) | (simp [*]; done)), H', ⟨by first | omega | exact Nat.le_refl _⟩, ⟨by (with_reducible repeat (first | refine blk_drewN ?_ _ | refine blk_drew ?_ | refine blk_alloc ?_ _)); exact BK114.out⟩, ⟨by (with_reducible repeat (first | refine blk_drewN ?_ _ | refine blk_drew ?_ | refine blk_alloc ?_ _)); exact BK115.out⟩, ⟨by repeat (first | (with_reducible first | exact HB.out | apply below_alloc | apply pw_below_drewN | apply below_drew1 | refine below_set ?_ GE114.out | refine below_set ?_ GE115.out) | exact HB.out)⟩⟩
    ·rw [if_neg c8] at H
     have c8b0 : (a0_2.toList == a1_2.toList) = false := beq_eq_false_iff_ne.mpr c8
     have c8b1 : (a0_2.toList != a1_2.toList) = true := bne_iff_ne.mpr c8
     have H' := Aside0.mk H
     clear H
     have hnb12 := NB114_115.out
     have hnc12 := NB115_114.out
     have hcz13_0 : w5.cell? ⟨gb114, 0, none⟩ = some (.int .u8 a0_0) := (blk_cell BK114.out 0).trans rfl
     have hcz13_1 : w5.cell? ⟨gb114, 1, none⟩ = some (.int .u64 a0_1) := (blk_cell BK114.out 1).trans rfl
     have hcz13_2 : w5.cell? ⟨gb114, 2, none⟩ = some (.string a0_2) := (blk_cell BK114.out 2).trans rfl
     have hcz13_3 : w5.cell? ⟨gb114, 3, none⟩ = some (.slice A0_3 l0_3.length c0_3) := (blk_cell BK114.out 3).trans rfl
     have hfz13_0 := blk_frozen BK114.out 0
     have hfz13_1 := blk_frozen BK114.out 1
     have hfz13_2 := blk_frozen BK114.out 2
     have hfz13_3 := blk_frozen BK114.out 3
     have hcz14_0 : w5.cell? ⟨gb115, 0, none⟩ = some (.int .u8 a1_0) := (blk_cell BK115.out 0).trans rfl
     have hcz14_1 : w5.cell? ⟨gb115, 1, none⟩ = some (.int .u64 a1_1) := (blk_cell BK115.out 1).trans rfl
     have hcz14_2 : w5.cell? ⟨gb115, 2, none⟩ = some (.string a1_2) := (blk_cell BK115.out 2).trans rfl
     have hcz14_3 : w5.cell? ⟨gb115, 3, none⟩ = some (.slice A1_3 l1_3.length c1_3) := (blk_cell BK115.out 3).trans rfl
     have hfz14_0 := blk_frozen BK115.out 0
     have hfz14_1 := blk_frozen BK115.out 1
     have hfz14_2 := blk_frozen BK115.out 2
     have hfz14_3 := blk_frozen BK115.out 3
     go_wp2
     go_meet
     case rel => exact ⟨_, (true), (by first | rfl | (simp; done) | (simp [*]; done)), H', ⟨by first | omega | exact Nat.le_refl _⟩, ⟨by (with_reducible repeat (first | refine blk_drewN ?_ _ | refine blk_drew ?_ | refine blk_alloc ?_ _)); exact BK114.out⟩, ⟨by (with_reducible repeat (first | refine blk_drewN ?_ _ | refine blk_drew ?_ | refine blk_alloc ?_ _)); exact BK115.out⟩, ⟨by repeat (first | (with_reducible first | exact HB.out | apply below_alloc | apply pw_below_drewN | apply below_drew1 | refine below_set ?_ GE114.out | refine below_set ?_ GE115.out) | exact HB.out)⟩⟩
   ·rw [if_neg c7] at H
    have c7b0 : (a0_1 == a1_1) = false := beq_eq_false_iff_ne.mpr c7
    have c7b1 : (a0_1 != a1_1) = true := bne_iff_ne.mpr c7
    have H' := Aside0.mk H
    clear H
    have hnb15 := NB114_115.out
    have hnc15 := NB115_114.out
    have hcz16_0 : w5.cell? ⟨gb114, 0, none⟩ = some (.int .u8 a0_0) := (blk_cell BK114.out 0).trans rfl
    have hcz16_1 : w5.cell? ⟨gb114, 1, none⟩ = some (.int .u64 a0_1) := (blk_cell BK114.out 1).trans rfl
    have hcz16_2 : w5.cell? ⟨gb114, 2, none⟩ = some (.string a0_2) := (blk_cell BK114.out 2).trans rfl
    have hcz16_3 : w5.cell? ⟨gb114, 3, none⟩ = some (.slice A0_3 l0_3.length c0_3) := (blk_cell BK114.out 3).trans rfl
    have hfz16_0 := blk_frozen BK114.out 0
    have hfz16_1 := blk_frozen BK114.out 1
    have hfz16_2 := blk_frozen BK114.out 2
    have hfz16_3 := blk_frozen BK114.out 3
    have hcz17_0 : w5.cell? ⟨gb115, 0, none⟩ = some (.int .u8 a1_0) := (blk_cell BK115.out 0).trans rfl
    have hcz17_1 : w5.cell? ⟨gb115, 1, none⟩ = some (.int .u64 a1_1) := (blk_cell BK115.out 1).trans rfl
    have hcz17_2 : w5.cell? ⟨gb115, 2, none⟩ = some (.string a1_2) := (blk_cell BK115.out 2).trans rfl
    have hcz17_3 : w5.cell? ⟨gb115, 3, none⟩ = some (.slice A1_3 l1_3.length c1_3) := (blk_cell BK115.out 3).trans rfl
    have hfz17_0 := blk_frozen BK115.out 0
    have hfz17_1 := blk_frozen BK115.out 1
    have hfz17_2 := blk_frozen BK115.out 2
    have hfz17_3 := blk_frozen BK115.out 3
    go_wp2
    go_meet
    case rel => exact ⟨_, (true), (by first | rfl | (simp; done) | (simp [*]; done)), H', ⟨by first | omega | exact Nat.le_refl _⟩, ⟨by (with_reducible repeat (first | refine blk_drewN ?_ _ | refine blk_drew ?_ | refine blk_alloc ?_ _)); exact BK114.out⟩, ⟨by (with_reducible repeat (first | refine blk_drewN ?_ _ | refine blk_drew ?_ | refine blk_alloc ?_ _)); exact BK115.out⟩, ⟨by repeat (first | (with_reducible first | exact HB.out | apply below_alloc | apply pw_below_drewN | apply below_drew1 | refine below_set ?_ GE114.out | refine below_set ?_ GE115.out) | exact HB.out)⟩⟩
  ·rw [if_neg c6] at H
   have c6b0 : (a0_0 == a1_0) = false := beq_eq_false_iff_ne.mpr c6
   have c6b1 : (a0_0 != a1_0) = true := bne_iff_ne.mpr c6
   (first | rw [c6b0] | (simp only [i64_w, i32_w]; rw [c6b0]) | skip)
   have H' := Aside0.mk H
   clear H
   have hnb18 := NB114_115.out
   have hnc18 := NB115_114.out
   have hcz19_0 : w5.cell? ⟨gb114, 0, none⟩ = some (.int .u8 a0_0) := (blk_cell BK114.out 0).trans rfl
   have hcz19_1 : w5.cell? ⟨gb114, 1, none⟩ = some (.int .u64 a0_1) := (blk_cell BK114.out 1).trans rfl
   have hcz19_2 : w5.cell? ⟨gb114, 2, none⟩ = some (.string a0_2) := (blk_cell BK114.out 2).trans rfl
   have hcz19_3 : w5.cell? ⟨gb114, 3, none⟩ = some (.slice A0_3 l0_3.length c0_3) := (blk_cell BK114.out 3).trans rfl
   have hfz19_0 := blk_frozen BK114.out 0
   have hfz19_1 := blk_frozen BK114.out 1
   have hfz19_2 := blk_frozen BK114.out 2
   have hfz19_3 := blk_frozen BK114.out 3
   have hcz20_0 : w5.cell? ⟨gb115, 0, none⟩ = some (.int .u8 a1_0) := (blk_cell BK115.out 0).trans rfl
   have hcz20_1 : w5.cell? ⟨gb115, 1, none⟩ = some (.int .u64 a1_1) := (blk_cell BK115.out 1).trans rfl
   have hcz20_2 : w5.cell? ⟨gb115, 2, none⟩ = some (.string a1_2) := (blk_cell BK115.out 2).trans rfl
   have hcz20_3 : w5.cell? ⟨gb115, 3, none⟩ = some (.slice A1_3 l1_3.length c1_3) := (blk_cell BK115.out 3).trans rfl
   have hfz20_0 := blk_frozen BK115.out 0
   have hfz20_1 := blk_frozen BK115.out 1
   have hfz20_2 := blk_frozen BK115.out 2
   have hfz20_3 := blk_frozen BK115.out 3
   go_wp2
   go_meet
   case rel => exact ⟨_, (true), (by first | rfl | (simp; done) | (simp [*]; done)), H', ⟨by first | omega | exact Nat.le_refl _⟩, ⟨by (with_reducible repeat (first | refine blk_drewN ?_ _ | refine blk_drew ?_ | refine blk_alloc ?_ _)); exact BK114.out⟩, ⟨by (with_reducible repeat (first | refine blk_drewN ?_ _ | refine blk_drew ?_ | refine blk_alloc ?_ _)); exact BK115.out⟩, ⟨by repeat (first | (with_reducible first | exact HB.out | apply below_alloc | apply pw_below_drewN | apply below_drew1 | refine below_set ?_ GE114.out | refine below_set ?_ GE115.out) | exact HB.out)⟩⟩
 case rest =>
  clear HC3
  try clear c1
  try clear p2
  try clear c6
  try clear c6b0
  try clear c6b1
  try clear c7
  try clear c7b0
  try clear c7b1
  try clear c8
  try clear c8b0
  try clear c8b1
  try clear c9
  try clear c12
  try clear c15
  try clear c18
  try clear c19
  try clear hcz10_0
  try clear hcz10_1
  try clear hcz10_2
  try clear hcz10_3
  try clear hcz11_0
  try clear hcz11_1
  try clear hcz11_2
  try clear hcz11_3
  try clear hcz13_0
  try clear hcz13_1
  try clear hcz13_2
  try clear hcz13_3
  try clear hcz14_0
  try clear hcz14_1
  try clear hcz14_2
  try clear hcz14_3
  try clear hcz16_0
  try clear hcz16_1
  try clear hcz16_2
  try clear hcz16_3
  try clear hcz17_0
  try clear hcz17_1
  try clear hcz17_2
  try clear hcz17_3
  try clear hcz19_0
  try clear hcz19_1
  try clear hcz19_2
  try clear hcz19_3
  try clear hcz20_0
  try clear hcz20_1
  try clear hcz20_2
  try clear hcz20_3
  try clear hfz10_0
  try clear hfz10_1
  try clear hfz10_2
  try clear hfz10_3
  try clear hfz11_0
  try clear hfz11_1
  try clear hfz11_2
  try clear hfz11_3
  try clear hfz13_0
  try clear hfz13_1
  try clear hfz13_2
  try clear hfz13_3
  try clear hfz14_0
  try clear hfz14_1
  try clear hfz14_2
  try clear hfz14_3
  try clear hfz16_0
  try clear hfz16_1
  try clear hfz16_2
  try clear hfz16_3
  try clear hfz17_0
  try clear hfz17_1
  try clear hfz17_2
  try clear hfz17_3
  try clear hfz19_0
  try clear hfz19_1
  try clear hfz19_2
  try clear hfz19_3
  try clear hfz20_0
  try clear hfz20_1
  try clear hfz20_2
  try clear hfz20_3
  obtain ⟨kq, x33_2, rfl, HA, HJ2, BK114, BK115, HB⟩ := hcut
  cases kq with
  | zero => exact absurd HA.out (by simp [bellwetherref04_Same.j0])
  | succ kj2 =>
   have H := HA.out
   clear HA
   simp only [bellwetherref04_Same.j0] at H
   by_cases c21 : x33_2 = true
   ·subst c21
    have H1 : (some false) = some r := by rw [if_pos rfl] at H; exact H
    clear H
    have H := H1
    clear H1
    obtain rfl := Option.some.inj H
    go_wp2
    go_ret
    exact ⟨by first | rfl | (simp [errW_none, errW_some] <;> rfl) | (simp [*, errW_none, errW_some] <;> rfl), by repeat (first | (with_reducible first | exact HB.out | apply below_alloc | apply pw_below_drewN | apply below_drew1 | refine below_set ?_ GE114.out | refine below_set ?_ GE115.out) | exact HB.out)⟩
   ·replace c21 := Bool.eq_false_iff.mpr c21
    subst c21
    have H1 : (bellwetherref04_Same.l0 kj2 0 a0_0 a0_1 a0_2 l0_3 a1_0 a1_1 a1_2 l1_3) = some r := by rw [if_neg (show ¬ (false = true) by decide)] at H; exact H
    clear H
    have H := H1
    clear H1
    have H' := Aside0.mk H
    clear H
    go_wp2
    go_loopg [5] kj2 (fun kq v5 w' => ∃ (x5_2 : Int), v5 = .int .i64 x5_2 ∧ Aside0 (bellwetherref04_Same.l0 kq x5_2 a0_0 a0_1 a0_2 l0_3 a1_0 a1_1 a1_2 l1_3 = some r) ∧ Aside0 (kq ≤ kj2) ∧ Aside0 (w'.heap[gb114]? = some (.cells #[.int .u8 a0_0, .int .u64 a0_1, .string a0_2, (.slice A0_3 l0_3.length c0_3)] 25 (0, 0))) ∧ Aside0 (w'.heap[gb115]? = some (.cells #[.int .u8 a1_0, .int .u64 a1_1, .string a1_2, (.slice A1_3 l1_3.length c1_3)] 25 (0, 0))) ∧ Aside0 (Below w.heap.size w w'))
    case atStart => exact ⟨(0), (by first | rfl | (simp; done) | (simp [*]; done)), H', ⟨Nat.le_refl _⟩, ⟨by (with_reducible repeat (first | refine blk_drewN ?_ _ | refine blk_drew ?_ | refine blk_alloc ?_ _)); exact BK114.out⟩, ⟨by (with_reducible repeat (first | refine blk_drewN ?_ _ | refine blk_drew ?_ | refine blk_alloc ?_ _)); exact BK115.out⟩, ⟨by repeat (first | (with_reducible first | exact HB.out | apply below_alloc | apply pw_below_drewN | apply below_drew1 | refine below_set ?_ GE114.out | refine below_set ?_ GE115.out) | exact HB.out)⟩⟩
    case round =>
     clear H'
     try clear c1
     try clear c2
     try clear p2
     try clear c6
     try clear c6b0
     try clear c6b1
     try clear c7
     try clear c7b0
     try clear c7b1
     try clear c8
     try clear c8b0
     try clear c8b1
     try clear c9
     try clear c12
     try clear c15
     try clear c18
     try clear c19
     try clear c21
     try clear hcz10_0
     try clear hcz10_1
     try clear hcz10_2
     try clear hcz10_3
     try clear hcz11_0
     try clear hcz11_1
     try clear hcz11_2
     try clear hcz11_3
     try clear hcz13_0
     try clear hcz13_1
     try clear hcz13_2
     try clear hcz13_3
     try clear hcz14_0
     try clear hcz14_1
     try clear hcz14_2
     try clear hcz14_3
     try clear hcz16_0
     try clear hcz16_1
     try clear hcz16_2
     try clear hcz16_3
     try clear hcz17_0
     try clear hcz17_1
     try clear hcz17_2
     try clear hcz17_3
     try clear hcz19_0
     try clear hcz19_1
     try clear hcz19_2
     try clear hcz19_3
     try clear hcz20_0
     try clear hcz20_1
     try clear hcz20_2
     try clear hcz20_3
     try clear hfz10_0
     try clear hfz10_1
     try clear hfz10_2
     try clear hfz10_3
     try clear hfz11_0
     try clear hfz11_1
     try clear hfz11_2
     try clear hfz11_3
     try clear hfz13_0
     try clear hfz13_1
     try clear hfz13_2
     try clear hfz13_3
     try clear hfz14_0
     try clear hfz14_1
     try clear hfz14_2
     try clear hfz14_3
     try clear hfz16_0
     try clear hfz16_1
     try clear hfz16_2
     try clear hfz16_3
     try clear hfz17_0
     try clear hfz17_1
     try clear hfz17_2
     try clear hfz17_3
     try clear hfz19_0
     try clear hfz19_1
     try clear hfz19_2
     try clear hfz19_3
     try clear hfz20_0
     try clear hfz20_1
     try clear hfz20_2
     try clear hfz20_3
     try clear p2
     obtain ⟨x5_2, rfl, HA, HK2, BK114, BK115, HB⟩ := hrel
     cases gk with
     | zero => exact absurd HA.out (by simp [bellwetherref04_Same.l0])
     | succ k2 =>
      have H := HA.out
      clear HA
      simp only [bellwetherref04_Same.l0] at H
      by_cases c22 : x5_2 < (l0_3.length : Int)
      ·rw [if_pos c22] at H
       have c22b0 : decide (x5_2 < (l0_3.length : Int)) = true := decide_eq_true c22
       clear c22
       by_cases c23 : 0 ≤ x5_2
       ·rw [if_pos c23] at H
        have c23b0 : decide (0 ≤ x5_2) = true := decide_eq_true c23
        clear c23
        by_cases c24 : x5_2 < (l1_3.length : Int)
        ·rw [if_pos c24] at H
         have c24b0 : decide (x5_2 < (l1_3.length : Int)) = true := decide_eq_true c24
         clear c24
         replace H := Option.bind_eq_some_iff.mp H
         obtain ⟨t118, A250, H⟩ := H
         replace H : (if t118 = true then (bellwetherref04_Same.l0 k2 (wrap64 (x5_2 + 1)) a0_0 a0_1 a0_2 l0_3 a1_0 a1_1 a1_2 l1_3) else (some false)) = some r := H
         have A25 := Aside0.mk A250
         clear A250
         by_cases c26 : t118 = true
         ·subst c26
          have H1 : (bellwetherref04_Same.l0 k2 (wrap64 (x5_2 + 1)) a0_0 a0_1 a0_2 l0_3 a1_0 a1_1 a1_2 l1_3) = some r := by rw [if_pos rfl] at H; exact H
          clear H
          have H := H1
          clear H1
          have H' := Aside0.mk H
          clear H
          have hnb27 := NB114_115.out
          have hnc27 := NB115_114.out
          have hcz28_0 : wr.cell? ⟨gb114, 0, none⟩ = some (.int .u8 a0_0) := (blk_cell BK114.out 0).trans rfl
          have hcz28_1 : wr.cell? ⟨gb114, 1, none⟩ = some (.int .u64 a0_1) := (blk_cell BK114.out 1).trans rfl
          have hcz28_2 : wr.cell? ⟨gb114, 2, none⟩ = some (.string a0_2) := (blk_cell BK114.out 2).trans rfl
          have hcz28_3 : wr.cell? ⟨gb114, 3, none⟩ = some (.slice A0_3 l0_3.length c0_3) := (blk_cell BK114.out 3).trans rfl
          have hfz28_0 := blk_frozen BK114.out 0
          have hfz28_1 := blk_frozen BK114.out 1
          have hfz28_2 := blk_frozen BK114.out 2
          have hfz28_3 := blk_frozen BK114.out 3
          try go_wp2
          have n0_ := Aside0.mk (blk_drew BK114.out)
          have n1_ := Aside0.mk (blk_drew BK115.out)
          have n2_ := Aside0.mk (below_drew1 HB.out)
          clear BK114
          clear BK115
          clear HB
          have BK114 := n0_
          have BK115 := n1_
          have HB := n2_
          clear n0_ n1_ n2_
          have p116 : 0 ≤ (x5_2 : Int) := of_decide_eq_true (by first | (with_reducible assumption) | assumption)
          have q116 : x5_2 < (l0_3.length : Int) := of_decide_eq_true (by first | (with_reducible assumption) | assumption)
          obtain ⟨ad116, A116_3, c116_3, e116, hx116_0, hx116_1, hx116_2, hx116_3, hl116_3, hi116_3⟩ := at_T25 HR0_3.out x5_2 p116 q116
          have hw116_3 := hx116_3
          have hw116_2 := hx116_2
          have hw116_1 := hx116_1
          have hw116_0 := hx116_0
          cases e116
          replace hx116_0 := (HB.out.cell (World.block_lt_of_cell? w _ hx116_0)).trans hx116_0
          replace hx116_1 := (HB.out.cell (World.block_lt_of_cell? w _ hx116_1)).trans hx116_1
          replace hx116_2 := (HB.out.cell (World.block_lt_of_cell? w _ hx116_2)).trans hx116_2
          replace hx116_3 := (HB.out.cell (World.block_lt_of_cell? w _ hx116_3)).trans hx116_3
          have HR116_3 := Aside0.mk hi116_3
          have HC116_3 := Aside0.mk hl116_3
          clear hi116_3 hl116_3
          replace p116 := eq_true p116
          replace q116 := eq_true q116
          have p117 : 0 ≤ (x5_2 : Int) := of_decide_eq_true (by first | (with_reducible assumption) | assumption)
          have q117 : x5_2 < (l1_3.length : Int) := of_decide_eq_true (by first | (with_reducible assumption) | assumption)
          obtain ⟨ad117, A117_3, c117_3, e117, hx117_0, hx117_1, hx117_2, hx117_3, hl117_3, hi117_3⟩ := at_T25 HR1_3.out x5_2 p117 q117
          have hw117_3 := hx117_3
          have hw117_2 := hx117_2
          have hw117_1 := hx117_1
          have hw117_0 := hx117_0
          cases e117
          replace hx117_0 := (HB.out.cell (World.block_lt_of_cell? w _ hx117_0)).trans hx117_0
          replace hx117_1 := (HB.out.cell (World.block_lt_of_cell? w _ hx117_1)).trans hx117_1
          replace hx117_2 := (HB.out.cell (World.block_lt_of_cell? w _ hx117_2)).trans hx117_2
          replace hx117_3 := (HB.out.cell (World.block_lt_of_cell? w _ hx117_3)).trans hx117_3
          have HR117_3 := Aside0.mk hi117_3
          have HC117_3 := Aside0.mk hl117_3
          clear hi117_3 hl117_3
          replace p117 := eq_true p117
          replace q117 := eq_true q117
          refine start_ (n := 12) (S := fun w' => w'.cell? ⟨gb114, 0, none⟩ = some (.int .u8 a0_0) ∧ w'.cell? ⟨gb114, 1, none⟩ = some (.int .u64 a0_1) ∧ w'.cell? ⟨gb114, 2, none⟩ = some (.string a0_2) ∧ w'.cell? ⟨gb114, 3, none⟩ = some (.slice (some ad116) l0_3.length c0_3) ∧ w'.cell? ⟨gb115, 0, none⟩ = some (.int .u8 a1_0) ∧ w'.cell? ⟨gb115, 1, none⟩ = some (.int .u64 a1_1) ∧ w'.cell? ⟨gb115, 2, none⟩ = some (.string a1_2) ∧ w'.cell? ⟨gb115, 3, none⟩ = some (.slice (some ad117) l1_3.length c1_3) ∧ w'.cell? (ad116.add ((x5_2).toNat * 4)) = some (.int .u8 ((rd_T25 l0_3 x5_2).f0)) ∧ w'.cell? ⟨(ad116.add ((x5_2).toNat * 4)).block, (ad116.add ((x5_2).toNat * 4)).off + 1, none⟩ = some (.int .u64 ((rd_T25 l0_3 x5_2).f1)) ∧ w'.cell? ⟨(ad116.add ((x5_2).toNat * 4)).block, (ad116.add ((x5_2).toNat * 4)).off + 2, none⟩ = some (.string ((rd_T25 l0_3 x5_2).f2)) ∧ w'.cell? ⟨(ad116.add ((x5_2).toNat * 4)).block, (ad116.add ((x5_2).toNat * 4)).off + 3, none⟩ = some (.slice A116_3 ((rd_T25 l0_3 x5_2).f3).length c116_3) ∧ w'.cell? (ad117.add ((x5_2).toNat * 4)) = some (.int .u8 ((rd_T25 l1_3 x5_2).f0)) ∧ w'.cell? ⟨(ad117.add ((x5_2).toNat * 4)).block, (ad117.add ((x5_2).toNat * 4)).off + 1, none⟩ = some (.int .u64 ((rd_T25 l1_3 x5_2).f1)) ∧ w'.cell? ⟨(ad117.add ((x5_2).toNat * 4)).block, (ad117.add ((x5_2).toNat * 4)).off + 2, none⟩ = some (.string ((rd_T25 l1_3 x5_2).f2)) ∧ w'.cell? ⟨(ad117.add ((x5_2).toNat * 4)).block, (ad117.add ((x5_2).toNat * 4)).off + 3, none⟩ = some (.slice A117_3 ((rd_T25 l1_3 x5_2).f3).length c117_3)) (ds := []) #[false, false, false, false, false, false, false, false, false, false, false, false] (by kernel_rfl) rfl rfl ⟨(blk_cell BK114.out 0).trans rfl, (blk_cell BK114.out 1).trans rfl, (blk_cell BK114.out 2).trans rfl, (blk_cell BK114.out 3).trans rfl, (blk_cell BK115.out 0).trans rfl, (blk_cell BK115.out 1).trans rfl, (blk_cell BK115.out 2).trans rfl, (blk_cell BK115.out 3).trans rfl, ((HB.out.cell (World.block_lt_of_cell? w _ hw116_0)).trans hw116_0), ((HB.out.cell (World.block_lt_of_cell? w _ hw116_1)).trans hw116_1), ((HB.out.cell (World.block_lt_of_cell? w _ hw116_2)).trans hw116_2), ((HB.out.cell (World.block_lt_of_cell? w _ hw116_3)).trans hw116_3), ((HB.out.cell (World.block_lt_of_cell? w _ hw117_0)).trans hw117_0), ((HB.out.cell (World.block_lt_of_cell? w _ hw117_1)).trans hw117_1), ((HB.out.cell (World.block_lt_of_cell? w _ hw117_2)).trans hw117_2), ((HB.out.cell (World.block_lt_of_cell? w _ hw117_3)).trans hw117_3)⟩ (fun hHeld => ?_); refine with_tabW bellwetherref04_Same.tab6 bellwetherref04_Same.bits6 (fun HT_ HW_ => ?_)
          generalize wr.drew = w29 at BK114 BK115 HB HR116_3 HR117_3 hx116_0 hx116_1 hx116_2 hx116_3 hx117_0 hx117_1 hx117_2 hx117_3 hHeld ⊢
          refine pure_ (i := 0) (N := some 41) (v := ?_) (a' := ?_) #[true, false, false, false, false, false, false, false, false, false, false, false] rfl rfl (any_of HT_.out (by kernel_rfl)) (fun _ _ _ h => h) (Or.inl ⟨by rfl, ?_⟩) ?_ ?_
          rotate_left
          ·intro w'
           go_simp
           with_reducible rfl
          rotate_left
          ·simp only [Act.put, List.setIfInBounds_toArray, List.set_cons_zero, List.set_cons_succ, i64_w, i32_w]
           rfl
          refine pure_ (i := 2) (N := some 43) (v := ?_) (a' := ?_) #[true, false, true, false, false, false, false, false, false, false, false, false] rfl rfl (any_of HT_.out (by kernel_rfl)) (fun _ _ _ h => h) (Or.inl ⟨by rfl, ?_⟩) ?_ ?_
          rotate_left
          ·intro w'
           go_simp
           with_reducible rfl
          rotate_left
          ·simp only [Act.put, List.setIfInBounds_toArray, List.set_cons_zero, List.set_cons_succ, i64_w, i32_w]
           rfl
          refine pure_ (i := 5) (N := some 46) (v := ?_) (a' := ?_) #[true, false, true, false, false, true, false, false, false, false, false, false] rfl rfl (any_of HT_.out (by kernel_rfl)) (fun _ _ _ h => h) (Or.inl ⟨by rfl, ?_⟩) ?_ ?_
          rotate_left
          ·intro w'
           go_simp
           with_reducible rfl
          rotate_left
          ·simp only [Act.put, List.setIfInBounds_toArray, List.set_cons_zero, List.set_cons_succ, i64_w, i32_w]
           rfl
          refine pure_ (i := 7) (N := some 48) (v := ?_) (a' := ?_) #[true, false, true, false, false, true, false, true, false, false, false, false] rfl rfl (any_of HT_.out (by kernel_rfl)) (fun _ _ _ h => h) (Or.inl ⟨by rfl, ?_⟩) ?_ ?_
          rotate_left
          ·intro w'
           go_simp
           with_reducible rfl
          rotate_left
          ·simp only [Act.put, List.setIfInBounds_toArray, List.set_cons_zero, List.set_cons_succ, i64_w, i32_w]
           rfl
          refine take_ (i := 1) (N := some 42) (v := ?_) (a' := ?_) #[true, true, true, false, false, true, false, true, false, false, false, false] rfl rfl (take_ofW HT_.out HW_.out (by kernel_rfl)) (fun _ _ _ h => h) (Or.inl ⟨by rfl, ?_⟩) hHeld ?_ ?_
          rotate_left
          ·rintro w' ⟨s0, s1, s2, s3, s4, s5, s6, s7, s8, s9, s10, s11, s12, s13, s14, s15⟩
           go_simp
           with_reducible rfl
          rotate_left
          ·simp only [Act.put, List.setIfInBounds_toArray, List.set_cons_zero, List.set_cons_succ, i64_w, i32_w]
           rfl
          refine pure_ (i := 3) (N := some 44) (v := ?_) (a' := ?_) #[true, true, true, true, false, true, false, true, false, false, false, false] rfl rfl (any_of HT_.out (by kernel_rfl)) (fun _ _ _ h => h) (Or.inl ⟨by rfl, ?_⟩) ?_ ?_
          rotate_left
          ·intro w'
           go_simp
           with_reducible rfl
          rotate_left
          ·simp only [Act.put, List.setIfInBounds_toArray, List.set_cons_zero, List.set_cons_succ, i64_w, i32_w]
           rfl
          refine take_ (i := 4) (N := some 45) (v := ?_) (a' := ?_) #[true, true, true, true, true, true, false, true, false, false, false, false] rfl rfl (take_ofW HT_.out HW_.out (by kernel_rfl)) (fun _ _ _ h => h) (Or.inl ⟨by rfl, ?_⟩) hHeld ?_ ?_
          rotate_left
          ·rintro w' ⟨s0, s1, s2, s3, s4, s5, s6, s7, s8, s9, s10, s11, s12, s13, s14, s15⟩
           go_simp
           with_reducible rfl
          rotate_left
          ·simp only [Act.put, List.setIfInBounds_toArray, List.set_cons_zero, List.set_cons_succ, i64_w, i32_w]
           rfl
          refine take_ (i := 6) (N := some 47) (v := ?_) (a' := ?_) #[true, true, true, true, true, true, true, true, false, false, false, false] rfl rfl (take_ofW HT_.out HW_.out (by kernel_rfl)) (fun _ _ _ h => h) (Or.inl ⟨by rfl, ?_⟩) hHeld ?_ ?_
          rotate_left
          ·rintro w' ⟨s0, s1, s2, s3, s4, s5, s6, s7, s8, s9, s10, s11, s12, s13, s14, s15⟩
           go_simp
           with_reducible rfl
          rotate_left
          ·simp only [Act.put, List.setIfInBounds_toArray, List.set_cons_zero, List.set_cons_succ, i64_w, i32_w]
           rfl
          refine pure_ (i := 8) (N := some 49) (v := ?_) (a' := ?_) #[true, true, true, true, true, true, true, true, true, false, false, false] rfl rfl (any_of HT_.out (by kernel_rfl)) (fun _ _ _ h => h) (Or.inl ⟨by rfl, ?_⟩) ?_ ?_
          rotate_left
          ·intro w'
           go_simp
           with_reducible rfl
          rotate_left
          ·simp only [Act.put, List.setIfInBounds_toArray, List.set_cons_zero, List.set_cons_succ, i64_w, i32_w]
           rfl
          refine take_ (i := 9) (N := some 50) (v := ?_) (a' := ?_) #[true, true, true, true, true, true, true, true, true, true, false, false] rfl rfl (take_ofW HT_.out HW_.out (by kernel_rfl)) (fun _ _ _ h => h) (Or.inl ⟨by rfl, ?_⟩) hHeld ?_ ?_
          rotate_left
          ·rintro w' ⟨s0, s1, s2, s3, s4, s5, s6, s7, s8, s9, s10, s11, s12, s13, s14, s15⟩
           go_simp
           with_reducible rfl
          rotate_left
          ·simp only [Act.put, List.setIfInBounds_toArray, List.set_cons_zero, List.set_cons_succ, i64_w, i32_w]
           rfl
          refine one_ (i := 10) (N := some 51) #[true, true, true, true, true, true, true, true, true, true, true, false] rfl rfl (one_of HT_.out (by kernel_rfl)) (by decide) (fun K hK => ?_)
          refine goes_ Try.func19 (by kernel_rfl) rfl #[.agg #[.int .u8 ((rd_T25 l0_3 x5_2).f0), .int .u64 ((rd_T25 l0_3 x5_2).f1), .string ((rd_T25 l0_3 x5_2).f2), .slice A116_3 ((rd_T25 l0_3 x5_2).f3).length c116_3], .agg #[.int .u8 ((rd_T25 l1_3 x5_2).f0), .int .u64 ((rd_T25 l1_3 x5_2).f1), .string ((rd_T25 l1_3 x5_2).f2), .slice A117_3 ((rd_T25 l1_3 x5_2).f3).length c117_3]] (by rfl) rfl rfl (by (try simp only [List.map_toArray, List.map_cons, List.map_nil]); first | done | rfl | (simp only [List.length_drop, List.length_take]; rfl)) ?_
          with_reducible refine (ih k2 (by have := HJ2.out; have := HK2.out; omega) ((rd_T25 l0_3 x5_2).f0) ((rd_T25 l0_3 x5_2).f1) ((rd_T25 l0_3 x5_2).f2) _ _ ((rd_T25 l0_3 x5_2).f3) ((rd_T25 l1_3 x5_2).f0) ((rd_T25 l1_3 x5_2).f1) ((rd_T25 l1_3 x5_2).f2) _ _ ((rd_T25 l1_3 x5_2).f3) true _ ?side1 ?side2 ?side3 ?side4 A25.out).mono ?_
          (case side1 => repeat (first | exact (Kd.C_below HR116_3.out HB.out) | (with_reducible refine Kd.C_alloc ?_ _) | (with_reducible refine Kd.C_drewN ?_ _) | (with_reducible refine Kd.C_drew ?_)))
          (case side2 => exact HC116_3.out)
          (case side3 => repeat (first | exact (Kd.C_below HR117_3.out HB.out) | (with_reducible refine Kd.C_alloc ?_ _) | (with_reducible refine Kd.C_drewN ?_ _) | (with_reducible refine Kd.C_drew ?_)))
          (case side4 => exact HC117_3.out)
          rintro e w30 ⟨rfl, hb⟩
          refine ⟨_, rfl, ?_⟩
          have n0_ := Aside0.mk (blk_below (g := gb114) (o := .cells #[.int .u8 a0_0, .int .u64 a0_1, .string a0_2, .slice (some ad116) l0_3.length c0_3] 25 (0, 0)) (by (with_reducible repeat (first | refine blk_drewN ?_ _ | refine blk_drew ?_ | refine blk_alloc ?_ _)); exact BK114.out) hb)
          have n1_ := Aside0.mk (blk_below (g := gb115) (o := .cells #[.int .u8 a1_0, .int .u64 a1_1, .string a1_2, .slice (some ad117) l1_3.length c1_3] 25 (0, 0)) (by (with_reducible repeat (first | refine blk_drewN ?_ _ | refine blk_drew ?_ | refine blk_alloc ?_ _)); exact BK115.out) hb)
          have n2_ := Aside0.mk (below_step (by repeat (first | (with_reducible first | exact HB.out | apply below_alloc | apply pw_below_drewN | apply below_drew1 | refine below_set ?_ GE114.out | refine below_set ?_ GE115.out) | exact HB.out)) hb)
          clear BK114
          clear BK115
          clear HB
          have BK114 := n0_
          have BK115 := n1_
          have HB := n2_
          clear n0_ n1_ n2_
          (try clear hb)
          (try clear hb2)
          (try clear hk)
          (try clear hi)
          refine hK.out _ _ ⟨(blk_cell BK114.out 0).trans rfl, (blk_cell BK114.out 1).trans rfl, (blk_cell BK114.out 2).trans rfl, (blk_cell BK114.out 3).trans rfl, (blk_cell BK115.out 0).trans rfl, (blk_cell BK115.out 1).trans rfl, (blk_cell BK115.out 2).trans rfl, (blk_cell BK115.out 3).trans rfl, ((HB.out.cell (World.block_lt_of_cell? w _ hw116_0)).trans hw116_0), ((HB.out.cell (World.block_lt_of_cell? w _ hw116_1)).trans hw116_1), ((HB.out.cell (World.block_lt_of_cell? w _ hw116_2)).trans hw116_2), ((HB.out.cell (World.block_lt_of_cell? w _ hw116_3)).trans hw116_3), ((HB.out.cell (World.block_lt_of_cell? w _ hw117_0)).trans hw117_0), ((HB.out.cell (World.block_lt_of_cell? w _ hw117_1)).trans hw117_1), ((HB.out.cell (World.block_lt_of_cell? w _ hw117_2)).trans hw117_2), ((HB.out.cell (World.block_lt_of_cell? w _ hw117_3)).trans hw117_3)⟩ (fun hHeld => ?_)
          clear hK K
          refine norm_ (a' := ?_) ?_ ?_
          rotate_left
          ·show Act.put _ (some 51) _ = _
           simp only [Act.put, List.setIfInBounds_toArray, List.set_cons_zero, List.set_cons_succ, i64_w, i32_w]
           rfl
          refine pure_ (i := 11) (N := some 52) (v := ?_) (a' := ?_) #[true, true, true, true, true, true, true, true, true, true, true, true] rfl rfl (any_of HT_.out (by kernel_rfl)) (fun _ _ _ h => h) (Or.inl ⟨by rfl, ?_⟩) ?_ ?_
          rotate_left
          ·intro w'
           go_simp
           with_reducible rfl
          rotate_left
          ·simp only [Act.put, List.setIfInBounds_toArray, List.set_cons_zero, List.set_cons_succ, i64_w, i32_w]
           rfl
          refine done_ (done_of HT_.out (by kernel_rfl)) ?_
          try go_wp2
          go_roundg k2
          case measure => have := HJ2.out; have := HK2.out; omega
          case rel => exact ⟨(wrap64 (x5_2 + 1)), (by first | rfl | (simp; done) | (simp [*]; done)), H', ⟨by have := HJ2.out; have := HK2.out; omega⟩, ⟨by (with_reducible repeat (first | refine blk_drewN ?_ _ | refine blk_drew ?_ | refine blk_alloc ?_ _)); exact BK114.out⟩, ⟨by (with_reducible repeat (first | refine blk_drewN ?_ _ | refine blk_drew ?_ | refine blk_alloc ?_ _)); exact BK115.out⟩, ⟨by repeat (first | (with_reducible first | exact HB.out | apply below_alloc | apply pw_below_drewN | apply below_drew1 | refine below_set ?_ GE114.out | refine below_set ?_ GE115.out) | exact HB.out)⟩⟩
         ·replace c26 := Bool.eq_false_iff.mpr c26
          subst c26
          have H1 : (some false) = some r := by rw [if_neg (show ¬ (false = true) by decide)] at H; exact H
          clear H
          have H := H1
          clear H1
          obtain rfl := Option.some.inj H
          have hnb31 := NB114_115.out
          have hnc31 := NB115_114.out
          have hcz32_0 : wr.cell? ⟨gb114, 0, none⟩ = some (.int .u8 a0_0) := (blk_cell BK114.out 0).trans rfl
          have hcz32_1 : wr.cell? ⟨gb114, 1, none⟩ = some (.int .u64 a0_1) := (blk_cell BK114.out 1).trans rfl
          have hcz32_2 : wr.cell? ⟨gb114, 2, none⟩ = some (.string a0_2) := (blk_cell BK114.out 2).trans rfl
          have hcz32_3 : wr.cell? ⟨gb114, 3, none⟩ = some (.slice A0_3 l0_3.length c0_3) := (blk_cell BK114.out 3).trans rfl
          have hfz32_0 := blk_frozen BK114.out 0
          have hfz32_1 := blk_frozen BK114.out 1
          have hfz32_2 := blk_frozen BK114.out 2
          have hfz32_3 := blk_frozen BK114.out 3
          try go_wp2
          have n0_ := Aside0.mk (blk_drew BK114.out)
          have n1_ := Aside0.mk (blk_drew BK115.out)
          have n2_ := Aside0.mk (below_drew1 HB.out)
          clear BK114
          clear BK115
          clear HB
          have BK114 := n0_
          have BK115 := n1_
          have HB := n2_
          clear n0_ n1_ n2_
          have p116 : 0 ≤ (x5_2 : Int) := of_decide_eq_true (by first | (with_reducible assumption) | assumption)
          have q116 : x5_2 < (l0_3.length : Int) := of_decide_eq_true (by first | (with_reducible assumption) | assumption)
          obtain ⟨ad116, A116_3, c116_3, e116, hx116_0, hx116_1, hx116_2, hx116_3, hl116_3, hi116_3⟩ := at_T25 HR0_3.out x5_2 p116 q116
          have hw116_3 := hx116_3
          have hw116_2 := hx116_2
          have hw116_1 := hx116_1
          have hw116_0 := hx116_0
          cases e116
          replace hx116_0 := (HB.out.cell (World.block_lt_of_cell? w _ hx116_0)).trans hx116_0
          replace hx116_1 := (HB.out.cell (World.block_lt_of_cell? w _ hx116_1)).trans hx116_1
          replace hx116_2 := (HB.out.cell (World.block_lt_of_cell? w _ hx116_2)).trans hx116_2
          replace hx116_3 := (HB.out.cell (World.block_lt_of_cell? w _ hx116_3)).trans hx116_3
          have HR116_3 := Aside0.mk hi116_3
          have HC116_3 := Aside0.mk hl116_3
          clear hi116_3 hl116_3
          replace p116 := eq_true p116
          replace q116 := eq_true q116
          have p117 : 0 ≤ (x5_2 : Int) := of_decide_eq_true (by first | (with_reducible assumption) | assumption)
          have q117 : x5_2 < (l1_3.length : Int) := of_decide_eq_true (by first | (with_reducible assumption) | assumption)
          obtain ⟨ad117, A117_3, c117_3, e117, hx117_0, hx117_1, hx117_2, hx117_3, hl117_3, hi117_3⟩ := at_T25 HR1_3.out x5_2 p117 q117
          have hw117_3 := hx117_3
          have hw117_2 := hx117_2
          have hw117_1 := hx117_1
          have hw117_0 := hx117_0
          cases e117
          replace hx117_0 := (HB.out.cell (World.block_lt_of_cell? w _ hx117_0)).trans hx117_0
          replace hx117_1 := (HB.out.cell (World.block_lt_of_cell? w _ hx117_1)).trans hx117_1
          replace hx117_2 := (HB.out.cell (World.block_lt_of_cell? w _ hx117_2)).trans hx117_2
          replace hx117_3 := (HB.out.cell (World.block_lt_of_cell? w _ hx117_3)).trans hx117_3
          have HR117_3 := Aside0.mk hi117_3
          have HC117_3 := Aside0.mk hl117_3
          clear hi117_3 hl117_3
          replace p117 := eq_true p117
          replace q117 := eq_true q117
          refine start_ (n := 12) (S := fun w' => w'.cell? ⟨gb114, 0, none⟩ = some (.int .u8 a0_0) ∧ w'.cell? ⟨gb114, 1, none⟩ = some (.int .u64 a0_1) ∧ w'.cell? ⟨gb114, 2, none⟩ = some (.string a0_2) ∧ w'.cell? ⟨gb114, 3, none⟩ = some (.slice (some ad116) l0_3.length c0_3) ∧ w'.cell? ⟨gb115, 0, none⟩ = some (.int .u8 a1_0) ∧ w'.cell? ⟨gb115, 1, none⟩ = some (.int .u64 a1_1) ∧ w'.cell? ⟨gb115, 2, none⟩ = some (.string a1_2) ∧ w'.cell? ⟨gb115, 3, none⟩ = some (.slice (some ad117) l1_3.length c1_3) ∧ w'.cell? (ad116.add ((x5_2).toNat * 4)) = some (.int .u8 ((rd_T25 l0_3 x5_2).f0)) ∧ w'.cell? ⟨(ad116.add ((x5_2).toNat * 4)).block, (ad116.add ((x5_2).toNat * 4)).off + 1, none⟩ = some (.int .u64 ((rd_T25 l0_3 x5_2).f1)) ∧ w'.cell? ⟨(ad116.add ((x5_2).toNat * 4)).block, (ad116.add ((x5_2).toNat * 4)).off + 2, none⟩ = some (.string ((rd_T25 l0_3 x5_2).f2)) ∧ w'.cell? ⟨(ad116.add ((x5_2).toNat * 4)).block, (ad116.add ((x5_2).toNat * 4)).off + 3, none⟩ = some (.slice A116_3 ((rd_T25 l0_3 x5_2).f3).length c116_3) ∧ w'.cell? (ad117.add ((x5_2).toNat * 4)) = some (.int .u8 ((rd_T25 l1_3 x5_2).f0)) ∧ w'.cell? ⟨(ad117.add ((x5_2).toNat * 4)).block, (ad117.add ((x5_2).toNat * 4)).off + 1, none⟩ = some (.int .u64 ((rd_T25 l1_3 x5_2).f1)) ∧ w'.cell? ⟨(ad117.add ((x5_2).toNat * 4)).block, (ad117.add ((x5_2).toNat * 4)).off + 2, none⟩ = some (.string ((rd_T25 l1_3 x5_2).f2)) ∧ w'.cell? ⟨(ad117.add ((x5_2).toNat * 4)).block, (ad117.add ((x5_2).toNat * 4)).off + 3, none⟩ = some (.slice A117_3 ((rd_T25 l1_3 x5_2).f3).length c117_3)) (ds := []) #[false, false, false, false, false, false, false, false, false, false, false, false] (by kernel_rfl) rfl rfl ⟨(blk_cell BK114.out 0).trans rfl, (blk_cell BK114.out 1).trans rfl, (blk_cell BK114.out 2).trans rfl, (blk_cell BK114.out 3).trans rfl, (blk_cell BK115.out 0).trans rfl, (blk_cell BK115.out 1).trans rfl, (blk_cell BK115.out 2).trans rfl, (blk_cell BK115.out 3).trans rfl, ((HB.out.cell (World.block_lt_of_cell? w _ hw116_0)).trans hw116_0), ((HB.out.cell (World.block_lt_of_cell? w _ hw116_1)).trans hw116_1), ((HB.out.cell (World.block_lt_of_cell? w _ hw116_2)).trans hw116_2), ((HB.out.cell (World.block_lt_of_cell? w _ hw116_3)).trans hw116_3), ((HB.out.cell (World.block_lt_of_cell? w _ hw117_0)).trans hw117_0), ((HB.out.cell (World.block_lt_of_cell? w _ hw117_1)).trans hw117_1), ((HB.out.cell (World.block_lt_of_cell? w _ hw117_2)).trans hw117_2), ((HB.out.cell (World.block_lt_of_cell? w _ hw117_3)).trans hw117_3)⟩ (fun hHeld => ?_); refine with_tabW bellwetherref04_Same.tab6 bellwetherref04_Same.bits6 (fun HT_ HW_ => ?_)
          generalize wr.drew = w33 at BK114 BK115 HB HR116_3 HR117_3 hx116_0 hx116_1 hx116_2 hx116_3 hx117_0 hx117_1 hx117_2 hx117_3 hHeld ⊢
          refine pure_ (i := 0) (N := some 41) (v := ?_) (a' := ?_) #[true, false, false, false, false, false, false, false, false, false, false, false] rfl rfl (any_of HT_.out (by kernel_rfl)) (fun _ _ _ h => h) (Or.inl ⟨by rfl, ?_⟩) ?_ ?_
          rotate_left
          ·intro w'
           go_simp
           with_reducible rfl
          rotate_left
          ·simp only [Act.put, List.setIfInBounds_toArray, List.set_cons_zero, List.set_cons_succ, i64_w, i32_w]
           rfl
          refine pure_ (i := 2) (N := some 43) (v := ?_) (a' := ?_) #[true, false, true, false, false, false, false, false, false, false, false, false] rfl rfl (any_of HT_.out (by kernel_rfl)) (fun _ _ _ h => h) (Or.inl ⟨by rfl, ?_⟩) ?_ ?_
          rotate_left
          ·intro w'
           go_simp
           with_reducible rfl
          rotate_left
          ·simp only [Act.put, List.setIfInBounds_toArray, List.set_cons_zero, List.set_cons_succ, i64_w, i32_w]
           rfl
          refine pure_ (i := 5) (N := some 46) (v := ?_) (a' := ?_) #[true, false, true, false, false, true, false, false, false, false, false, false] rfl rfl (any_of HT_.out (by kernel_rfl)) (fun _ _ _ h => h) (Or.inl ⟨by rfl, ?_⟩) ?_ ?_
          rotate_left
          ·intro w'
           go_simp
           with_reducible rfl
          rotate_left
          ·simp only [Act.put, List.setIfInBounds_toArray, List.set_cons_zero, List.set_cons_succ, i64_w, i32_w]
           rfl
          refine pure_ (i := 7) (N := some 48) (v := ?_) (a' := ?_) #[true, false, true, false, false, true, false, true, false, false, false, false] rfl rfl (any_of HT_.out (by kernel_rfl)) (fun _ _ _ h => h) (Or.inl ⟨by rfl, ?_⟩) ?_ ?_
          rotate_left
          ·intro w'
           go_simp
           with_reducible rfl
          rotate_left
          ·simp only [Act.put, List.setIfInBounds_toArray, List.set_cons_zero, List.set_cons_succ, i64_w, i32_w]
           rfl
          refine take_ (i := 1) (N := some 42) (v := ?_) (a' := ?_) #[true, true, true, false, false, true, false, true, false, false, false, false] rfl rfl (take_ofW HT_.out HW_.out (by kernel_rfl)) (fun _ _ _ h => h) (Or.inl ⟨by rfl, ?_⟩) hHeld ?_ ?_
          rotate_left
          ·rintro w' ⟨s0, s1, s2, s3, s4, s5, s6, s7, s8, s9, s10, s11, s12, s13, s14, s15⟩
           go_simp
           with_reducible rfl
          rotate_left
          ·simp only [Act.put, List.setIfInBounds_toArray, List.set_cons_zero, List.set_cons_succ, i64_w, i32_w]
           rfl
          refine pure_ (i := 3) (N := some 44) (v := ?_) (a' := ?_) #[true, true, true, true, false, true, false, true, false, false, false, false] rfl rfl (any_of HT_.out (by kernel_rfl)) (fun _ _ _ h => h) (Or.inl ⟨by rfl, ?_⟩) ?_ ?_
          rotate_left
          ·intro w'
           go_simp
           with_reducible rfl
          rotate_left
          ·simp only [Act.put, List.setIfInBounds_toArray, List.set_cons_zero, List.set_cons_succ, i64_w, i32_w]
           rfl
          refine take_ (i := 4) (N := some 45) (v := ?_) (a' := ?_) #[true, true, true, true, true, true, false, true, false, false, false, false] rfl rfl (take_ofW HT_.out HW_.out (by kernel_rfl)) (fun _ _ _ h => h) (Or.inl ⟨by rfl, ?_⟩) hHeld ?_ ?_
          rotate_left
          ·rintro w' ⟨s0, s1, s2, s3, s4, s5, s6, s7, s8, s9, s10, s11, s12, s13, s14, s15⟩
           go_simp
           with_reducible rfl
          rotate_left
          ·simp only [Act.put, List.setIfInBounds_toArray, List.set_cons_zero, List.set_cons_succ, i64_w, i32_w]
           rfl
          refine take_ (i := 6) (N := some 47) (v := ?_) (a' := ?_) #[true, true, true, true, true, true, true, true, false, false, false, false] rfl rfl (take_ofW HT_.out HW_.out (by kernel_rfl)) (fun _ _ _ h => h) (Or.inl ⟨by rfl, ?_⟩) hHeld ?_ ?_
          rotate_left
          ·rintro w' ⟨s0, s1, s2, s3, s4, s5, s6, s7, s8, s9, s10, s11, s12, s13, s14, s15⟩
           go_simp
           with_reducible rfl
          rotate_left
          ·simp only [Act.put, List.setIfInBounds_toArray, List.set_cons_zero, List.set_cons_succ, i64_w, i32_w]
           rfl
          refine pure_ (i := 8) (N := some 49) (v := ?_) (a' := ?_) #[true, true, true, true, true, true, true, true, true, false, false, false] rfl rfl (any_of HT_.out (by kernel_rfl)) (fun _ _ _ h => h) (Or.inl ⟨by rfl, ?_⟩) ?_ ?_
          rotate_left
          ·intro w'
           go_simp
           with_reducible rfl
          rotate_left
          ·simp only [Act.put, List.setIfInBounds_toArray, List.set_cons_zero, List.set_cons_succ, i64_w, i32_w]
           rfl
          refine take_ (i := 9) (N := some 50) (v := ?_) (a' := ?_) #[true, true, true, true, true, true, true, true, true, true, false, false] rfl rfl (take_ofW HT_.out HW_.out (by kernel_rfl)) (fun _ _ _ h => h) (Or.inl ⟨by rfl, ?_⟩) hHeld ?_ ?_
          rotate_left
          ·rintro w' ⟨s0, s1, s2, s3, s4, s5, s6, s7, s8, s9, s10, s11, s12, s13, s14, s15⟩
           go_simp
           with_reducible rfl
          rotate_left
          ·simp only [Act.put, List.setIfInBounds_toArray, List.set_cons_zero, List.set_cons_succ, i64_w, i32_w]
           rfl
          refine one_ (i := 10) (N := some 51) #[true, true, true, true, true, true, true, true, true, true, true, false] rfl rfl (one_of HT_.out (by kernel_rfl)) (by decide) (fun K hK => ?_)
          refine goes_ Try.func19 (by kernel_rfl) rfl #[.agg #[.int .u8 ((rd_T25 l0_3 x5_2).f0), .int .u64 ((rd_T25 l0_3 x5_2).f1), .string ((rd_T25 l0_3 x5_2).f2), .slice A116_3 ((rd_T25 l0_3 x5_2).f3).length c116_3], .agg #[.int .u8 ((rd_T25 l1_3 x5_2).f0), .int .u64 ((rd_T25 l1_3 x5_2).f1), .string ((rd_T25 l1_3 x5_2).f2), .slice A117_3 ((rd_T25 l1_3 x5_2).f3).length c117_3]] (by rfl) rfl rfl (by (try simp only [List.map_toArray, List.map_cons, List.map_nil]); first | done | rfl | (simp only [List.length_drop, List.length_take]; rfl)) ?_
          with_reducible refine (ih k2 (by have := HJ2.out; have := HK2.out; omega) ((rd_T25 l0_3 x5_2).f0) ((rd_T25 l0_3 x5_2).f1) ((rd_T25 l0_3 x5_2).f2) _ _ ((rd_T25 l0_3 x5_2).f3) ((rd_T25 l1_3 x5_2).f0) ((rd_T25 l1_3 x5_2).f1) ((rd_T25 l1_3 x5_2).f2) _ _ ((rd_T25 l1_3 x5_2).f3) false _ ?side1 ?side2 ?side3 ?side4 A25.out).mono ?_
          (case side1 => repeat (first | exact (Kd.C_below HR116_3.out HB.out) | (with_reducible refine Kd.C_alloc ?_ _) | (with_reducible refine Kd.C_drewN ?_ _) | (with_reducible refine Kd.C_drew ?_)))
          (case side2 => exact HC116_3.out)
          (case side3 => repeat (first | exact (Kd.C_below HR117_3.out HB.out) | (with_reducible refine Kd.C_alloc ?_ _) | (with_reducible refine Kd.C_drewN ?_ _) | (with_reducible refine Kd.C_drew ?_)))
          (case side4 => exact HC117_3.out)
          rintro e w34 ⟨rfl, hb⟩
          refine ⟨_, rfl, ?_⟩
          have n0_ := Aside0.mk (blk_below (g := gb114) (o := .cells #[.int .u8 a0_0, .int .u64 a0_1, .string a0_2, .slice (some ad116) l0_3.length c0_3] 25 (0, 0)) (by (with_reducible repeat (first | refine blk_drewN ?_ _ | refine blk_drew ?_ | refine blk_alloc ?_ _)); exact BK114.out) hb)
          have n1_ := Aside0.mk (blk_below (g := gb115) (o := .cells #[.int .u8 a1_0, .int .u64 a1_1, .string a1_2, .slice (some ad117) l1_3.length c1_3] 25 (0, 0)) (by (with_reducible repeat (first | refine blk_drewN ?_ _ | refine blk_drew ?_ | refine blk_alloc ?_ _)); exact BK115.out) hb)
          have n2_ := Aside0.mk (below_step (by repeat (first | (with_reducible first | exact HB.out | apply below_alloc | apply pw_below_drewN | apply below_drew1 | refine below_set ?_ GE114.out | refine below_set ?_ GE115.out) | exact HB.out)) hb)
          clear BK114
          clear BK115
          clear HB
          have BK114 := n0_
          have BK115 := n1_
          have HB := n2_
          clear n0_ n1_ n2_
          (try clear hb)
          (try clear hb2)
          (try clear hk)
          (try clear hi)
          refine hK.out _ _ ⟨(blk_cell BK114.out 0).trans rfl, (blk_cell BK114.out 1).trans rfl, (blk_cell BK114.out 2).trans rfl, (blk_cell BK114.out 3).trans rfl, (blk_cell BK115.out 0).trans rfl, (blk_cell BK115.out 1).trans rfl, (blk_cell BK115.out 2).trans rfl, (blk_cell BK115.out 3).trans rfl, ((HB.out.cell (World.block_lt_of_cell? w _ hw116_0)).trans hw116_0), ((HB.out.cell (World.block_lt_of_cell? w _ hw116_1)).trans hw116_1), ((HB.out.cell (World.block_lt_of_cell? w _ hw116_2)).trans hw116_2), ((HB.out.cell (World.block_lt_of_cell? w _ hw116_3)).trans hw116_3), ((HB.out.cell (World.block_lt_of_cell? w _ hw117_0)).trans hw117_0), ((HB.out.cell (World.block_lt_of_cell? w _ hw117_1)).trans hw117_1), ((HB.out.cell (World.block_lt_of_cell? w _ hw117_2)).trans hw117_2), ((HB.out.cell (World.block_lt_of_cell? w _ hw117_3)).trans hw117_3)⟩ (fun hHeld => ?_)
          clear hK K
          refine norm_ (a' := ?_) ?_ ?_
          rotate_left
          ·show Act.put _ (some 51) _ = _
           simp only [Act.put, List.setIfInBounds_toArray, List.set_cons_zero, List.set_cons_succ, i64_w, i32_w]
           rfl
          refine pure_ (i := 11) (N := some 52) (v := ?_) (a' := ?_) #[true, true, true, true, true, true, true, true, true, true, true, true] rfl rfl (any_of HT_.out (by kernel_rfl)) (fun _ _ _ h => h) (Or.inl ⟨by rfl, ?_⟩) ?_ ?_
          rotate_left
          ·intro w'
           go_simp
           with_reducible rfl
          rotate_left
          ·simp only [Act.put, List.setIfInBounds_toArray, List.set_cons_zero, List.set_cons_succ, i64_w, i32_w]
           rfl
          refine done_ (done_of HT_.out (by kernel_rfl)) ?_
          try go_wp2
          go_ret
          exact ⟨by first | rfl | (simp [errW_none, errW_some] <;> rfl) | (simp [*, errW_none, errW_some] <;> rfl), by repeat (first | (with_reducible first | exact HB.out | apply below_alloc | apply pw_below_drewN | apply below_drew1 | refine below_set ?_ GE114.out | refine below_set ?_ GE115.out) | exact HB.out)⟩
        ·rw [if_neg c24] at H
         exact absurd H (by simp)
       ·rw [if_neg c23] at H
        exact absurd H (by simp)
      ·rw [if_neg c22] at H
       have c22b0 : decide (x5_2 < (l0_3.length : Int)) = false := decide_eq_false c22
       clear c22
       obtain rfl := Option.some.inj H
       have hnb35 := NB114_115.out
       have hnc35 := NB115_114.out
       have hcz36_0 : wr.cell? ⟨gb114, 0, none⟩ = some (.int .u8 a0_0) := (blk_cell BK114.out 0).trans rfl
       have hcz36_1 : wr.cell? ⟨gb114, 1, none⟩ = some (.int .u64 a0_1) := (blk_cell BK114.out 1).trans rfl
       have hcz36_2 : wr.cell? ⟨gb114, 2, none⟩ = some (.string a0_2) := (blk_cell BK114.out 2).trans rfl
       have hcz36_3 : wr.cell? ⟨gb114, 3, none⟩ = some (.slice A0_3 l0_3.length c0_3) := (blk_cell BK114.out 3).trans rfl
       have hfz36_0 := blk_frozen BK114.out 0
       have hfz36_1 := blk_frozen BK114.out 1
       have hfz36_2 := blk_frozen BK114.out 2
       have hfz36_3 := blk_frozen BK114.out 3
       go_wp2
       go_ret
       exact ⟨by first | rfl | (simp [errW_none, errW_some] <;> rfl) | (simp [*, errW_none, errW_some] <;> rfl), by repeat (first | (with_reducible first | exact HB.out | apply below_alloc | apply pw_below_drewN | apply below_drew1 | refine below_set ?_ GE114.out | refine below_set ?_ GE115.out) | exact HB.out)⟩
end Go.Proofs.Ytdilbnggedidnaa.PVal
namespace Go.Proofs.Ytdilbnggedidnaa.PVal
open Go.RowKit Go.Proofs.YtdilbnggedidnaaW.PrintWords Go.Proofs.YtdilbnggedidnaaW.PrintLast
set_option linter.unusedVariables false
set_option linter.unusedSimpArgs false
theorem w64 {a : Int} (h0 : -9223372036854775808 ≤ a) (h1 : a ≤ 9223372036854775807) : wrap64 a = a := by unfold wrap64; omega
theorem rd_at (pre : List S25) (x : S25) (l : List S25) : rd_T25 (pre ++ x :: l) (pre.length : Int) = x := by
 unfold rd_T25
 simp [List.getD_eq_getElem?_getD]
theorem succ_k {n k : Nat} (h : n + 1 ≤ k) : ∃ m, k = m + 1 ∧ n ≤ m := ⟨k - 1, by omega, by omega⟩
mutual
theorem items_f : ∀ (x : S25) (k : Nat), 2 * itemsN x ≤ k → itemsN x ≤ 4294967296 → bellwetherref04_Items.f k x.f0 x.f1 x.f2 x.f3 = some (itemsN x : Int)
 | ⟨a, b, c, d⟩, k, hk, hB => by
  simp only [itemsN] at hk hB ⊢
  obtain ⟨k, rfl, hk2⟩ := succ_k (n := 2 * itemsL d + 1) (by omega)
  simp only [bellwetherref04_Items.f]
  have := items_l d [] k 1 a b c hk2 (by omega) (by omega) (by simpa using (by have := itemsL_length d; omega : d.length ≤ 4294967296))
  simp only [List.length_nil, List.nil_append] at this
  rw [show ((0 : Nat) : Int) = 0 from rfl] at this
  rw [this]; congr 1; omega
theorem items_l : ∀ (l pre : List S25) (k : Nat) (n : Int) (a b : Int) (c : ByteArray), 2 * itemsL l + 1 ≤ k → 0 ≤ n ∧ itemsL l ≤ 4294967296 → n + itemsL l ≤ 4294967297 → (pre ++ l).length ≤ 4294967296 → bellwetherref04_Items.l0 k n (pre.length : Int) a b c (pre ++ l) = some (n + itemsL l)
 | [], pre, k, n, a, b, c, hk, h0, h1, h2 => by
  obtain ⟨k, rfl, hk⟩ := succ_k hk
  simp only [bellwetherref04_Items.l0]
  rw [if_neg (by simp)]; simp [itemsL]
 | x :: l, pre, k, n, a, b, c, hk, h0, h1, h2 => by
  obtain ⟨k, rfl, hk⟩ := succ_k hk
  simp only [itemsL] at hk h0 h1 ⊢
  have hx := itemsN_pos x
  simp only [bellwetherref04_Items.l0]
  rw [if_pos (by simp; omega), if_pos (by omega), rd_at, items_f x k (by omega) (by omega)]
  simp only [Option.bind_some]
  simp only [List.length_append, List.length_cons] at h2
  rw [w64 (a := n + (itemsN x : Int)) (by omega) (by omega), w64 (a := (pre.length : Int) + 1) (by omega) (by omega)]
  have := items_l l (pre ++ [x]) k (n + itemsN x) a b c (by omega) (by omega) (by omega) (by simp; omega)
  simp only [List.append_assoc, List.singleton_append, List.length_append, List.length_singleton] at this
  rw [show ((pre.length : Int) + 1) = ((pre.length + 1 : Nat) : Int) by omega, this]
  congr 1; omega
end
mutual
theorem texts_f : ∀ (x : S25) (k : Nat), 2 * itemsN x ≤ k → itemsN x + textsN x ≤ 4294967296 → bellwetherlaw04_texts.f k x.f0 x.f1 x.f2 x.f3 = some (textsN x : Int)
 | ⟨a, b, c, d⟩, k, hk, hB => by
  simp only [itemsN, textsN] at hk hB ⊢
  obtain ⟨k, rfl, hk2⟩ := succ_k (n := 2 * itemsL d + 1) (by omega)
  simp only [bellwetherlaw04_texts.f]
  have := texts_l d [] k (c.size : Int) a b c hk2 (by omega) (by omega) (by simpa using (by have := itemsL_length d; omega : d.length ≤ 4294967296))
  simp only [List.length_nil, List.nil_append] at this
  rw [show ((0 : Nat) : Int) = 0 from rfl] at this
  rw [this]; congr 1; omega
theorem texts_l : ∀ (l pre : List S25) (k : Nat) (n : Int) (a b : Int) (c : ByteArray), 2 * itemsL l + 1 ≤ k → 0 ≤ n ∧ itemsL l + textsL l ≤ 4294967296 → n + (itemsL l + textsL l) ≤ 8589934592 → (pre ++ l).length ≤ 4294967296 → bellwetherlaw04_texts.l0 k n (pre.length : Int) a b c (pre ++ l) = some (n + textsL l)
 | [], pre, k, n, a, b, c, hk, h0, h1, h2 => by
  obtain ⟨k, rfl, hk⟩ := succ_k hk
  simp only [bellwetherlaw04_texts.l0]
  rw [if_neg (by simp)]; simp [textsL]
 | x :: l, pre, k, n, a, b, c, hk, h0, h1, h2 => by
  obtain ⟨k, rfl, hk⟩ := succ_k hk
  simp only [itemsL, textsL] at hk h0 h1 ⊢
  have hx := itemsN_pos x
  simp only [bellwetherlaw04_texts.l0]
  rw [if_pos (by simp; omega), if_pos (by omega), rd_at, texts_f x k (by omega) (by omega)]
  simp only [Option.bind_some]
  simp only [List.length_append, List.length_cons] at h2
  rw [w64 (a := n + (textsN x : Int)) (by omega) (by omega), w64 (a := (pre.length : Int) + 1) (by omega) (by omega)]
  have := texts_l l (pre ++ [x]) k (n + textsN x) a b c (by omega) (by omega) (by omega) (by simp; omega)
  simp only [List.append_assoc, List.singleton_append, List.length_append, List.length_singleton] at this
  rw [show ((pre.length : Int) + 1) = ((pre.length + 1 : Nat) : Int) by omega, this]
  congr 1; omega
end
mutual
theorem same_f : ∀ (x y : S25) (k : Nat), 3 * itemsN x ≤ k → itemsN x ≤ 4294967296 → bellwetherref04_Same.f k x.f0 x.f1 x.f2 x.f3 y.f0 y.f1 y.f2 y.f3 = some (veq x y)
 | ⟨a, b, c, d⟩, ⟨a', b', c', d'⟩, k, hk, hB => by
  simp only [itemsN] at hk hB
  obtain ⟨k, rfl⟩ : ∃ m, k = m + 2 := ⟨k - 2, by omega⟩
  simp only [bellwetherref04_Same.f, bellwetherref04_Same.j0, if_true]
  by_cases h0 : a = a'
  ·by_cases h1 : b = b'
   ·by_cases h2 : c.toList = c'.toList
    ·rw [if_pos h0, if_pos h1, if_pos h2]
     by_cases h3 : d.length = d'.length
     ·have := same_l d d' [] [] k a b c a' b' c' (by omega) (by omega) h3 rfl (by simpa using (by have := itemsL_length d; omega : d.length ≤ 4294967296))
      simp only [List.length_nil, List.nil_append] at this
      rw [show ((0 : Nat) : Int) = 0 from rfl] at this
      rw [if_neg (by simp [h3]), this]
      simp [veq, h0, h1, h2]
     ·have h4 : veqL d d' = false := by
       cases h : veqL d d' with
       | false => rfl
       | true => exact absurd (veqL_length h) h3
      rw [if_pos (by simp; omega)]
      simp [veq, h4]
    ·rw [if_pos h0, if_pos h1, if_neg h2]
     have : (c.toList == c'.toList) = false := by simpa using h2
     simp [veq, this]
   ·rw [if_pos h0, if_neg h1]; simp [veq, h1]
  ·rw [if_neg h0]; simp [veq, h0]
theorem same_l : ∀ (l m pre qre : List S25) (k : Nat) (a b : Int) (c : ByteArray) (a' b' : Int) (c' : ByteArray), 3 * itemsL l + 1 ≤ k → itemsL l ≤ 4294967296 → l.length = m.length → pre.length = qre.length → (pre ++ l).length ≤ 4294967296 →
  bellwetherref04_Same.l0 k (pre.length : Int) a b c (pre ++ l) a' b' c' (qre ++ m) = some (veqL l m)
 | [], [], pre, qre, k, a, b, c, a', b', c', hk, h0, _, _, h2 => by
  obtain ⟨k, rfl, hk⟩ := succ_k hk
  simp only [bellwetherref04_Same.l0]
  rw [if_neg (by simp)]; simp [veqL]
 | x :: l, y :: m, pre, qre, k, a, b, c, a', b', c', hk, h0, h3, h4, h2 => by
  obtain ⟨k, rfl, hk⟩ := succ_k hk
  simp only [itemsL] at hk h0
  have hx := itemsN_pos x
  simp only [bellwetherref04_Same.l0]
  rw [if_pos (by simp; omega), if_pos (by omega), if_pos (by simp; omega), rd_at, h4, rd_at, same_f x y k (by omega) (by omega)]
  simp only [Option.bind_some]
  simp only [List.length_append, List.length_cons] at h2 h3
  rw [w64 (a := (qre.length : Int) + 1) (by omega) (by omega)]
  cases hv : veq x y with
  | false => simp [veqL, hv]
  | true =>
   have := same_l l m (pre ++ [x]) (qre ++ [y]) k a b c a' b' c' (by omega) (by omega) (by omega) (by simp [h4]) (by simp; omega)
   simp only [List.append_assoc, List.singleton_append, List.length_append, List.length_singleton] at this
   rw [if_pos rfl, ← h4, show ((pre.length : Int) + 1) = ((pre.length + 1 : Nat) : Int) by omega, this]
   simp [veqL, hv]
 | [], _ :: _, _, _, _, _, _, _, _, _, _, _, _, h, _, _ => by simp at h
 | _ :: _, [], _, _, _, _, _, _, _, _, _, _, _, h, _, _ => by simp at h
end
def largeN : Nat → List S25 → Nat
 | n, [] => n
 | n, x :: l => largeN (n + itemsN x + textsN x / 8) l
def largeB (l : List S25) : Bool := decide (largeN 0 l > 8192)
theorem large_l : ∀ (l pre : List S25) (k : Nat) (n : Nat), 2 * itemsL l + 1 ≤ k → n + (itemsL l + textsL l) ≤ 4294967296 → (pre ++ l).length ≤ 4294967296 → bellwetherlaw04_Large.l0 k (pre ++ l) (n : Int) (pre.length : Int) = some (decide (largeN n l > 8192))
 | [], pre, k, n, hk, h1, h2 => by
  obtain ⟨k, rfl, hk⟩ := succ_k hk
  simp only [bellwetherlaw04_Large.l0]
  rw [if_neg (by simp)]
  simp only [largeN]
  congr 1
  exact decide_eq_decide.mpr (by omega)
 | x :: l, pre, k, n, hk, h1, h2 => by
  obtain ⟨k, rfl, hk⟩ := succ_k hk
  simp only [itemsL, textsL] at hk h1
  have hx := itemsN_pos x
  simp only [bellwetherlaw04_Large.l0]
  rw [if_pos (by simp; omega), if_pos (by omega), rd_at, items_f x k (by omega) (by omega)]
  simp only [Option.bind_some]
  rw [texts_f x k (by omega) (by omega)]
  simp only [Option.bind_some]
  simp only [List.length_append, List.length_cons] at h2
  have hq : Int.tdiv (textsN x : Int) 8 = ((textsN x / 8 : Nat) : Int) := by rw [Int.tdiv_eq_ediv_of_nonneg (by omega)]; omega
  rw [hq, w64 (a := (pre.length : Int) + 1) (by omega) (by omega), w64 (a := ((textsN x / 8 : Nat) : Int)) (by omega) (by omega), w64 (a := (n : Int) + (itemsN x : Int)) (by omega) (by omega), w64 (by omega) (by omega)]
  have := large_l l (pre ++ [x]) k (n + itemsN x + textsN x / 8) (by omega) (by omega) (by simp; omega)
  simp only [List.append_assoc, List.singleton_append, List.length_append, List.length_singleton] at this
  rw [show ((pre.length : Int) + 1) = ((pre.length + 1 : Nat) : Int) by omega, show (n : Int) + (itemsN x : Int) + ((textsN x / 8 : Nat) : Int) = ((n + itemsN x + textsN x / 8 : Nat) : Int) by omega, this]
  rfl
section
variable (x y : S25) (A B : Option Addr) (c d : Nat) (w : World) (ha : k25.C w A x.f3.length x.f3) (hc : x.f3.length ≤ c)
include ha hc
theorem same19_any (hs : itemsN x ≤ 4294967296) (hb : k25.C w B y.f3.length y.f3) (hd : y.f3.length ≤ d) : Calls Try.prog 19 #[.agg #[.int .u8 x.f0, .int .u64 x.f1, .string x.f2, .slice A x.f3.length c], .agg #[.int .u8 y.f0, .int .u64 y.f1, .string y.f2, .slice B y.f3.length d]] w fun e w' => e = .returned (.bool (veq x y)) ∧ Below w.heap.size w w' :=
 bellwetherref04_Same.calls _ _ _ _ A c _ _ _ _ B d _ _ w ha hc hb hd (same_f x y _ (Nat.le_refl _) hs)
end
theorem large14_any (l : List S25) (A : Option Addr) (c : Nat) (w : World) (ha : k25.C w A l.length l) (hc : l.length ≤ c) (hs : itemsL l + textsL l ≤ 4294967296) :
  Calls Try.prog 14 #[.slice A l.length c] w fun e w' => e = .returned (.bool (largeB l)) ∧ Below w.heap.size w w' := by
 have := large_l l [] (2 * itemsL l + 1) 0 (Nat.le_refl _) (by omega) (by have := itemsL_length l; simp; omega)
 exact bellwetherlaw04_Large.calls _ A c l _ w ha hc this
end Go.Proofs.Ytdilbnggedidnaa.PVal
namespace Go.Proofs.Ytdilbnggedidnaa.PVal
open Go.RowKit
set_option linter.unusedSimpArgs false
def alikeF : Nat → S25 → S25 → Bool
 | 0, _, _ => false
 | n + 1, a, b => if a.f0 = 25 ∧ b.f0 = 25 then veq (rd_T25 a.f3 0) (rd_T25 b.f3 0) && alikeF n (rd_T25 a.f3 1) (rd_T25 b.f3 1) else a.f0 == b.f0
def alikeB (a b : S25) : Bool := alikeF (itemsN a) a b
def dsc : Nat → S25 → Prop
 | 0, _ => False
 | n + 1, a => a.f0 = 25 → ∃ x y, a.f3 = [x, y] ∧ dsc n y
theorem alike_f : ∀ (n k : Nat) (a b : S25) (m : Nat), dsc n a → dsc m b → 2 * n ≤ k → value_alike.f k a.f0 a.f1 a.f2 a.f3 b.f0 b.f1 b.f2 b.f3 = some (alikeF n a b)
 | 0, _, _, _, _, h, _, _ => h.elim
 | n + 1, k, a, b, m, ha, hb, hk => by
  obtain ⟨k, rfl⟩ : ∃ k', k = k' + 2 := ⟨k - 2, by omega⟩
  simp only [value_alike.f]
  by_cases h1 : a.f0 = 25
  ·rw [if_pos h1]
   simp only [value_alike.j0]
   by_cases h2 : b.f0 = 25
   ·obtain ⟨x, y, he, hy⟩ := ha h1
    cases m with
    | zero => exact hb.elim
    | succ m =>
     obtain ⟨x', y', he', hy'⟩ := hb h2
     have ih := alike_f n k y y' m hy hy' (by omega)
     have e0 : ∀ p q : S25, rd_T25 [p, q] 0 = p := fun _ _ => rfl
     have e1 : ∀ p q : S25, rd_T25 [p, q] 1 = q := fun _ _ => rfl
     rw [show alikeF (n + 1) a b = (veq (rd_T25 a.f3 0) (rd_T25 b.f3 0) && alikeF n (rd_T25 a.f3 1) (rd_T25 b.f3 1)) from if_pos ⟨h1, h2⟩, he, he', if_neg (by simp [h2])]
     have hv2 : veq ⟨x.f0, x.f1, x.f2, x.f3⟩ ⟨x'.f0, x'.f1, x'.f2, x'.f3⟩ = veq x x' := by cases x; cases x'; rfl
     simp only [e0, e1, ih, value_Same.f, hv2, List.length_cons, List.length_nil]
     cases hv : veq x x' <;> simp [hv]
   ·rw [show alikeF (n + 1) a b = (a.f0 == b.f0) from if_neg (fun h => h2 h.2), if_pos (by simp [h2])]
  ·rw [if_neg h1, show alikeF (n + 1) a b = (a.f0 == b.f0) from if_neg (fun h => h1 h.1)]
   simp only [value_alike.j0]
   rfl
def arrB : List S25 → Bool
 | [] => true
 | h :: l => (h :: l).all (alikeB h)
def famB (x : S25) : Bool :=
 if x.f0 = 22 then true else if x.f0 = 23 then decide (x.f3.length % 2 = 0) && unlikeB x
 else if x.f0 = 24 then arrB x.f3
 else if x.f0 = 25 then decide (x.f3.length = 2) && (decide ((rd_T25 x.f3 0).f0 = 6) || decide ((rd_T25 x.f3 0).f0 = 21)) else decide (x.f3.length = 0)
mutual
def mayB : S25 → Bool
 | ⟨k, n, s, l⟩ => (decide (1 ≤ k ∧ k ≤ 25) && mayL l) && ((numB k n && txtB k s) && famB ⟨k, n, s, l⟩)
def mayL : List S25 → Bool
 | [] => true
 | x :: l => mayB x && mayL l
end
theorem mayB_eq (x : S25) : mayB x = ((decide (1 ≤ x.f0 ∧ x.f0 ≤ 25) && mayL x.f3) && ((numB x.f0 x.f1 && txtB x.f0 x.f2) && famB x)) := by cases x; rw [mayB]
theorem mayL_all : ∀ l : List S25, mayL l = l.all mayB
 | [] => rfl
 | x :: l => by rw [mayL, mayL_all l]; rfl
theorem mayB_dsc : ∀ (n : Nat) (x : S25), itemsN x ≤ n → mayB x = true → dsc n x
 | 0, x, h, _ => by have := itemsN_pos x; omega
 | n + 1, x, h, hm => fun h25 => by
  rw [mayB_eq] at hm
  simp only [Bool.and_eq_true] at hm
  obtain ⟨⟨_, hl⟩, _, hf⟩ := hm
  unfold famB at hf
  rw [if_neg (by omega), if_neg (by omega), if_neg (by omega), if_pos h25] at hf
  simp only [Bool.and_eq_true, decide_eq_true_eq] at hf
  obtain ⟨a, b, he⟩ : ∃ a b, x.f3 = [a, b] := by
   rcases hx : x.f3 with _ | ⟨a, _ | ⟨b, _ | ⟨c, t⟩⟩⟩ <;> rw [hx] at hf <;> simp at hf ⊢
  refine ⟨a, b, he, mayB_dsc n b ?_ ?_⟩
  ·have : itemsN x = itemsN a + (itemsN b + 0) + 1 := by rw [itemsN_eq, he]; rfl
   omega
  ·rw [he] at hl
   simp [mayL] at hl
   exact hl.2
end Go.Proofs.Ytdilbnggedidnaa.PVal
namespace Go.Proofs.Ytdilbnggedidnaa.PVal
open Go.RowKit Go.Shelf Go.Proofs.YtdilbnggedidnaaW.PrintWords Go.Proofs.YtdilbnggedidnaaW.PrintLast
set_option linter.unusedVariables false
set_option linter.unusedSimpArgs false
theorem alike121_any (a b : S25) (m : Nat) (da : dsc (itemsN a) a) (db : dsc m b) (A B : Option Addr) (c d : Nat) (w : World) (ha : k25.C w A a.f3.length a.f3) (hc : a.f3.length ≤ c) (hb : k25.C w B b.f3.length b.f3) (hd : b.f3.length ≤ d) :
  Calls Try.prog 121 #[.agg #[.int .u8 a.f0, .int .u64 a.f1, .string a.f2, .slice A a.f3.length c], .agg #[.int .u8 b.f0, .int .u64 b.f1, .string b.f2, .slice B b.f3.length d]] w fun e w' => e = .returned (.bool (alikeB a b)) ∧ Below w.heap.size w w' :=
 value_alike.calls _ _ _ _ _ _ _ _ _ _ _ _ _ _ _ ha hc hb hd (alike_f (itemsN a) _ a b m da db (Nat.le_refl _))
set_option maxRecDepth 100000 in
set_option maxHeartbeats 2000000 in
theorem pred120_of (b : Nat) (v : S25) (Av : Option Addr) (cv : Nat) (w : World) (hb : Blk w b #[.int .u8 v.f0, .int .u64 v.f1, .string v.f2, .slice Av v.f3.length cv] 25) (hv : k25.C w Av v.f3.length v.f3) (hl : v.f3.length ≤ cv)
  (hp : 0 < v.f3.length) (dh : dsc (itemsN (rd_T25 v.f3 0)) (rd_T25 v.f3 0)) (x : S25) (m : Nat) (dx : dsc m x) : Pred120 b (fun s => !alikeB (rd_T25 v.f3 0) s) w x := by
 intro A c w' hw ha hc
 have HA := Aside0.mk ha
 have HD := Aside0.mk (⟨dh, dx⟩ : _ ∧ _)
 obtain ⟨q0, q1, q2, q3⟩ := (hb.below hw).c4
 obtain ⟨ad, A1, c1, e1, hx0, hx1, hx2, hx3, hl1, hC1⟩ := at_T25 (Kd.C_below hv hw) 0 (by omega) (by omega)
 cases e1
 rw [show (0 : Int).toNat = 0 from rfl, Nat.zero_mul, add_nought] at hx0 hx1 hx2 hx3
 have hp1 : (0 : Int) < (v.f3.length : Int) := by omega
 have ad0 : ad.add 0 = ad := add_nought ad
 have HC1 := Aside0.mk hC1
 clear ha hv hb hC1 dh dx
 go_enter Try.func120, Try.ntmps120
 go_wp2_with fail
 have hB1 : Below w'.heap.size w' (w'.alloc (.cells #[.int .u8 x.f0, .int .u64 x.f1, .string x.f2, .slice A x.f3.length c] 25)) := below_alloc (Below.refl _ _) _
 have bX := Blk.new w' #[.int .u8 x.f0, .int .u64 x.f1, .string x.f2, .slice A x.f3.length c] 25
 obtain ⟨W1, hW1⟩ : ∃ W1, w'.alloc (.cells #[.int .u8 x.f0, .int .u64 x.f1, .string x.f2, .slice A x.f3.length c] 25) = W1 := ⟨_, rfl⟩
 rw [hW1] at hB1 bX ⊢
 clear hW1
 have k0 := cell_below' hB1 q3
 have k1 := cell_below' hB1 hx0
 have k2 := cell_below' hB1 hx1
 have k3 := cell_below' hB1 hx2
 have k4 := cell_below' hB1 hx3
 obtain ⟨k5, k6, k7, k8⟩ := bX.c4
 clear q0 q1 q2 q3 hx0 hx1 hx2 hx3
 go_still_tail 5, (by kernel_rfl)
 go_wp2_with fail
 refine (alike121_any (rd_T25 v.f3 0) x m HD.out.1 HD.out.2 A1 A c1 c _ (Kd.C_below HC1.out (below_drew hB1)) hl1 (Kd.C_below HA.out (below_drew hB1)) hc).mono ?_
 rintro e w2 ⟨rfl, hb2⟩
 have HB2 := Aside0.mk hb2
 clear hb2
 go_wp2_with fail
 go_ret
 exact ⟨rfl, below_step (below_drew hB1) HB2.out⟩
end Go.Proofs.Ytdilbnggedidnaa.PVal
namespace Go.Proofs.Ytdilbnggedidnaa.PVal
open Go.RowKit Go.Shelf Go.Proofs.YtdilbnggedidnaaW.PrintWords Go.Proofs.YtdilbnggedidnaaW.PrintLast
set_option linter.unusedVariables false
set_option linter.unusedSimpArgs false
set_option maxRecDepth 100000 in
set_option maxHeartbeats 2000000 in
theorem family90_22 (x : S25) (hs : x.f3.length ≤ 4294967296) (hm : x.f3.all mayB = true) (A : Option Addr) (c : Nat) (w : World) (ha : k25.C w A x.f3.length x.f3) (hc : x.f3.length ≤ c) (hk : x.f0 = 22) :
  Calls Try.prog 90 #[.agg #[.int .u8 x.f0, .int .u64 x.f1, .string x.f2, .slice A x.f3.length c]] w fun e w' => e = .returned (.bool (famB x)) ∧ Below w.heap.size w w' := by
 have q22 : (x.f0 == 22) = true := beq_iff_eq.mpr hk
 have hf : famB x = true := by unfold famB; rw [if_pos hk]
 have HA := Aside0.mk ha
 have HF := Aside0.mk hf
 have HM := Aside0.mk hm
 clear ha hf hm hk
 go_enter Try.func90, Try.ntmps90
 go_wp2_with fail
 go_ret
 exact ⟨by rw [HF.out]; rfl, below_alloc (Below.refl _ _) _⟩
set_option maxRecDepth 100000 in
set_option maxHeartbeats 2000000 in
theorem family90_23 (x : S25) (hs : x.f3.length ≤ 4294967296) (hm : x.f3.all mayB = true) (A : Option Addr) (c : Nat) (w : World) (ha : k25.C w A x.f3.length x.f3) (hc : x.f3.length ≤ c) (hk : x.f0 = 23) :
  Calls Try.prog 90 #[.agg #[.int .u8 x.f0, .int .u64 x.f1, .string x.f2, .slice A x.f3.length c]] w fun e w' => e = .returned (.bool (famB x)) ∧ Below w.heap.size w w' := by
 have q22 : (x.f0 == 22) = false := beq_eq_false_iff_ne.mpr (by omega)
 have q23 : (x.f0 == 23) = true := beq_iff_eq.mpr hk
 have hf : famB x = (decide (x.f3.length % 2 = 0) && unlikeB x) := by unfold famB; rw [if_neg (by omega), if_pos hk]
 have HA := Aside0.mk ha
 have HF := Aside0.mk hf
 have HM := Aside0.mk hm
 clear ha hf hm hk
 by_cases hq : x.f3.length % 2 = 0
 ·have q : ((x.f3.length : Int) % 2 == 0) = true := beq_iff_eq.mpr (by omega)
  have HQ := Aside0.mk hq
  clear hq
  go_enter Try.func90, Try.ntmps90
  go_wp2_with fail
  refine (unlike119_any x hs A c _ (Kd.C_below HA.out (below_alloc (Below.refl _ _) _)) hc).mono ?_
  rintro e w2 ⟨rfl, hb2⟩
  have HB2 := Aside0.mk hb2
  clear hb2
  go_wp2_with fail
  go_ret
  exact ⟨by rw [HF.out, decide_eq_true HQ.out]; rfl, below_step (below_alloc (Below.refl _ _) _) HB2.out⟩
 ·have q : ((x.f3.length : Int) % 2 == 0) = false := beq_eq_false_iff_ne.mpr (by omega)
  have HQ := Aside0.mk hq
  clear hq
  go_enter Try.func90, Try.ntmps90
  go_wp2_with fail
  go_ret
  exact ⟨by rw [HF.out, decide_eq_false HQ.out]; rfl, below_alloc (Below.refl _ _) _⟩
set_option maxRecDepth 100000 in
set_option maxHeartbeats 2000000 in
theorem family90_24 (x : S25) (hs : x.f3.length ≤ 4294967296) (hm : x.f3.all mayB = true) (A : Option Addr) (c : Nat) (w : World) (ha : k25.C w A x.f3.length x.f3) (hc : x.f3.length ≤ c) (hk : x.f0 = 24) :
  Calls Try.prog 90 #[.agg #[.int .u8 x.f0, .int .u64 x.f1, .string x.f2, .slice A x.f3.length c]] w fun e w' => e = .returned (.bool (famB x)) ∧ Below w.heap.size w w' := by
 have q22 : (x.f0 == 22) = false := beq_eq_false_iff_ne.mpr (by omega)
 have q23 : (x.f0 == 23) = false := beq_eq_false_iff_ne.mpr (by omega)
 have q24 : (x.f0 == 24) = true := beq_iff_eq.mpr hk
 have hf : famB x = !(x.f3.any fun s => !alikeB (rd_T25 x.f3 0) s) := by
  unfold famB; rw [if_neg (by omega), if_neg (by omega), if_pos hk]
  rcases x.f3 with _ | ⟨h, l⟩
  ·rfl
  ·show (h :: l).all (alikeB h) = _
   rw [List.all_eq_not_any_not]; rfl
 have HA := Aside0.mk ha
 have HF := Aside0.mk hf
 have HM := Aside0.mk hm
 clear ha hf hm hk
 go_enter Try.func90, Try.ntmps90
 go_wp2_with fail
 refine (containsFunc_120 w.heap.size (fun s => !alikeB (rd_T25 x.f3 0) s) x.f3 A c _ ?_ (Kd.C_below HA.out (below_alloc (Below.refl _ _) _)) hc).mono ?_
 ·intro y hy
  have hpos : 0 < x.f3.length := List.length_pos_of_mem hy
  have hall := List.all_eq_true.1 HM.out
  exact pred120_of w.heap.size x A c _ (Blk.new w #[.int .u8 x.f0, .int .u64 x.f1, .string x.f2, .slice A x.f3.length c] 25) (Kd.C_below HA.out (below_alloc (Below.refl _ _) _)) hc hpos (mayB_dsc _ _ (Nat.le_refl _) (hall _ (rd_mem (by omega) (by omega)))) y (itemsN y) (mayB_dsc _ _ (Nat.le_refl _) (hall y hy))
 rintro e w2 ⟨rfl, hb2⟩
 have HB2 := Aside0.mk hb2
 clear hb2
 go_wp2_with fail
 go_ret
 exact ⟨by rw [HF.out]; rfl, below_step (below_alloc (Below.refl _ _) _) HB2.out⟩
set_option maxRecDepth 100000 in
set_option maxHeartbeats 2000000 in
theorem family90_25 (x : S25) (hs : x.f3.length ≤ 4294967296) (hm : x.f3.all mayB = true) (A : Option Addr) (c : Nat) (w : World) (ha : k25.C w A x.f3.length x.f3) (hc : x.f3.length ≤ c) (hk : x.f0 = 25) :
  Calls Try.prog 90 #[.agg #[.int .u8 x.f0, .int .u64 x.f1, .string x.f2, .slice A x.f3.length c]] w fun e w' => e = .returned (.bool (famB x)) ∧ Below w.heap.size w w' := by
 have q22 : (x.f0 == 22) = false := beq_eq_false_iff_ne.mpr (by omega)
 have q23 : (x.f0 == 23) = false := beq_eq_false_iff_ne.mpr (by omega)
 have q24 : (x.f0 == 24) = false := beq_eq_false_iff_ne.mpr (by omega)
 have q25 : (x.f0 == 25) = true := beq_iff_eq.mpr hk
 have hf : famB x = (decide (x.f3.length = 2) && (decide ((rd_T25 x.f3 0).f0 = 6) || decide ((rd_T25 x.f3 0).f0 = 21))) := by unfold famB; rw [if_neg (by omega), if_neg (by omega), if_neg (by omega), if_pos hk]
 have HA := Aside0.mk ha
 have HF := Aside0.mk hf
 have HM := Aside0.mk hm
 clear ha hf hm hk
 by_cases hq : x.f3.length = 2
 ·have q : ((x.f3.length : Int) == 2) = true := beq_iff_eq.mpr (by omega)
  obtain ⟨ad, A1, c1, e1, hx0, hx1, hx2, hx3, hl1, hC1⟩ := at_T25 (Kd.C_below HA.out (below_alloc (Below.refl _ _) _ : Below w.heap.size w (w.alloc (.cells #[.int .u8 x.f0, .int .u64 x.f1, .string x.f2, .slice A x.f3.length c] 25)))) 0 (by omega) (by omega)
  cases e1
  rw [show (0 : Int).toNat = 0 from rfl, Nat.zero_mul, add_nought] at hx0
  have hp1 : (0 : Int) < (x.f3.length : Int) := by omega
  have hpt : (0 < x.f3.length) = True := eq_true (by omega)
  have ad0 : ad.add 0 = ad := add_nought ad
  have HQ := Aside0.mk hq
  clear hq hx1 hx2 hx3 hC1
  by_cases h6 : (rd_T25 x.f3 0).f0 = 6
  ·have q6 : ((rd_T25 x.f3 0).f0 == 6) = true := beq_iff_eq.mpr h6
   have H6 := Aside0.mk h6
   clear h6
   go_enter Try.func90, Try.ntmps90
   go_wp2_with fail
   go_ret
   exact ⟨by rw [HF.out, decide_eq_true HQ.out, decide_eq_true H6.out]; rfl, below_alloc (Below.refl _ _) _⟩
  ·have q6 : ((rd_T25 x.f3 0).f0 == 6) = false := beq_eq_false_iff_ne.mpr h6
   by_cases h7 : (rd_T25 x.f3 0).f0 = 21
   ·have q7 : ((rd_T25 x.f3 0).f0 == 21) = true := beq_iff_eq.mpr h7
    have H6 := Aside0.mk h6
    have H7 := Aside0.mk h7
    clear h6 h7
    go_enter Try.func90, Try.ntmps90
    go_wp2_with fail
    go_ret
    exact ⟨by rw [HF.out, decide_eq_true HQ.out, decide_eq_false H6.out, decide_eq_true H7.out]; rfl, below_alloc (Below.refl _ _) _⟩
   ·have q7 : ((rd_T25 x.f3 0).f0 == 21) = false := beq_eq_false_iff_ne.mpr h7
    have H6 := Aside0.mk h6
    have H7 := Aside0.mk h7
    clear h6 h7
    go_enter Try.func90, Try.ntmps90
    go_wp2_with fail
    go_ret
    exact ⟨by rw [HF.out, decide_eq_true HQ.out, decide_eq_false H6.out, decide_eq_false H7.out]; rfl, below_alloc (Below.refl _ _) _⟩
 ·have q : ((x.f3.length : Int) == 2) = false := beq_eq_false_iff_ne.mpr (by omega)
  have HQ := Aside0.mk hq
  clear hq
  go_enter Try.func90, Try.ntmps90
  go_wp2_with fail
  go_ret
  exact ⟨by rw [HF.out, decide_eq_false HQ.out]; rfl, below_alloc (Below.refl _ _) _⟩
set_option maxRecDepth 100000 in
set_option maxHeartbeats 2000000 in
theorem family90_0 (x : S25) (hs : x.f3.length ≤ 4294967296) (hm : x.f3.all mayB = true) (A : Option Addr) (c : Nat) (w : World) (ha : k25.C w A x.f3.length x.f3) (hc : x.f3.length ≤ c) (hk : x.f0 ≠ 22 ∧ x.f0 ≠ 23 ∧ x.f0 ≠ 24 ∧ x.f0 ≠ 25) :
  Calls Try.prog 90 #[.agg #[.int .u8 x.f0, .int .u64 x.f1, .string x.f2, .slice A x.f3.length c]] w fun e w' => e = .returned (.bool (famB x)) ∧ Below w.heap.size w w' := by
 have q22 : (x.f0 == 22) = false := beq_eq_false_iff_ne.mpr (by omega)
 have q23 : (x.f0 == 23) = false := beq_eq_false_iff_ne.mpr (by omega)
 have q24 : (x.f0 == 24) = false := beq_eq_false_iff_ne.mpr (by omega)
 have q25 : (x.f0 == 25) = false := beq_eq_false_iff_ne.mpr (by omega)
 have hf : famB x = decide (x.f3.length = 0) := by unfold famB; rw [if_neg hk.1, if_neg hk.2.1, if_neg hk.2.2.1, if_neg hk.2.2.2]
 have HA := Aside0.mk ha
 have HF := Aside0.mk hf
 have HM := Aside0.mk hm
 clear ha hf hm hk
 have he : ((x.f3.length : Int) == 0) = decide (x.f3.length = 0) := by
  by_cases h : x.f3.length = 0
  ·rw [decide_eq_true h, beq_iff_eq.mpr (by omega)]
  ·rw [decide_eq_false h, beq_eq_false_iff_ne.mpr (by omega)]
 have HE := Aside0.mk he
 clear he
 go_enter Try.func90, Try.ntmps90
 go_wp2_with fail
 go_ret
 exact ⟨by rw [HF.out, ← HE.out]; rfl, below_alloc (Below.refl _ _) _⟩
theorem family90_any (x : S25) (hs : x.f3.length ≤ 4294967296) (hm : x.f3.all mayB = true) (A : Option Addr) (c : Nat) (w : World) (ha : k25.C w A x.f3.length x.f3) (hc : x.f3.length ≤ c) :
  Calls Try.prog 90 #[.agg #[.int .u8 x.f0, .int .u64 x.f1, .string x.f2, .slice A x.f3.length c]] w fun e w' => e = .returned (.bool (famB x)) ∧ Below w.heap.size w w' := by
 by_cases h2 : x.f0 = 22
 ·exact family90_22 x hs hm A c w ha hc h2
 by_cases h3 : x.f0 = 23
 ·exact family90_23 x hs hm A c w ha hc h3
 by_cases h4 : x.f0 = 24
 ·exact family90_24 x hs hm A c w ha hc h4
 by_cases h5 : x.f0 = 25
 ·exact family90_25 x hs hm A c w ha hc h5
 exact family90_0 x hs hm A c w ha hc ⟨h2, h3, h4, h5⟩
end Go.Proofs.Ytdilbnggedidnaa.PVal
namespace Go.Proofs.Ytdilbnggedidnaa.PVal
open Go.RowKit Go.Shelf Go.Proofs.YtdilbnggedidnaaW.PrintWords Go.Proofs.YtdilbnggedidnaaW.PrintLast
set_option linter.unusedVariables false
set_option linter.unusedSimpArgs false
mutual
def okV : S25 → Prop
 | ⟨_, n, s, l⟩ => (u64R n ∧ s.size ≤ 4294967290) ∧ okL l
def okL : List S25 → Prop
 | [] => True
 | x :: l => okV x ∧ okL l
end
theorem okV_eq (x : S25) : okV x = ((u64R x.f1 ∧ x.f2.size ≤ 4294967290) ∧ okL x.f3) := by cases x; rw [okV]
theorem okL_mem : ∀ {l : List S25} {x : S25}, okL l → x ∈ l → okV x
 | y :: l, x, h, hx => by
  rw [okL] at h
  rcases List.mem_cons.1 hx with rfl | hx
  ·exact h.1
  ·exact okL_mem h.2 hx
mutual
def okVb : S25 → Bool
 | ⟨_, n, s, l⟩ => (decide (0 ≤ n ∧ n < 18446744073709551616) && decide (s.size ≤ 4294967290)) && okLb l
def okLb : List S25 → Bool
 | [] => true
 | x :: l => okVb x && okLb l
end
mutual
theorem okVb_iff : ∀ {x : S25}, okVb x = true ↔ okV x
 | ⟨_, n, s, l⟩ => by simp only [okVb, okV, Bool.and_eq_true, decide_eq_true_eq, okLb_iff, u64R]
theorem okLb_iff : ∀ {l : List S25}, okLb l = true ↔ okL l
 | [] => by simp [okLb, okL]
 | x :: l => by simp only [okLb, okL, Bool.and_eq_true, okVb_iff, okLb_iff]
end
def MayAt (f : Nat) (x : S25) : Prop := ∀ (A : Option Addr) (c : Nat) (w : World), k25.C w A x.f3.length x.f3 → x.f3.length ≤ c →
 Calls Try.prog f #[.agg #[.int .u8 x.f0, .int .u64 x.f1, .string x.f2, .slice A x.f3.length c]] w fun e w' => e = .returned (.bool (mayB x)) ∧ Below w.heap.size w w'
set_option maxHeartbeats 1000000 in
theorem pred87_of (x : S25) (h : MayAt 57 x) (w : World) : Pred87 (fun x => !mayB x) w x := by
 intro A c w' hw ha hc
 have HA := Aside0.mk ha
 have HH := Aside0.mk h
 clear ha h
 go_enter Try.func87, Try.ntmps87
 go_wp2_with fail
 refine (HH.out A c _ (Kd.C_below HA.out (below_alloc (Below.refl _ _) _)) hc).mono ?_
 rintro e w2 ⟨rfl, hb2⟩
 have HB2 := Aside0.mk hb2
 clear hb2
 go_wp2_with fail
 go_ret
 exact ⟨rfl, below_step (below_alloc (Below.refl _ _) _) HB2.out⟩
set_option maxRecDepth 100000 in
set_option maxHeartbeats 2000000 in
theorem may57_of (x : S25) (hs : itemsN x ≤ 4294967296) (ho : okV x) (ih : ∀ y ∈ x.f3, MayAt 57 y) : MayAt 57 x := by
 intro A c w ha hc
 rw [okV_eq] at ho
 obtain ⟨⟨hn, ht⟩, hol⟩ := ho
 have hl : x.f3.length ≤ 4294967296 := by have := itemsL_length x.f3; rw [itemsN_eq] at hs; omega
 have HA := Aside0.mk ha
 have HI := Aside0.mk ih
 have HN := Aside0.mk hn
 have HT := Aside0.mk ht
 have HM := Aside0.mk (mayB_eq x)
 have hB0 : Below w.heap.size w (w.alloc (.cells #[.int .u8 x.f0, .int .u64 x.f1, .string x.f2, .slice A x.f3.length c] 25)) := below_alloc (Below.refl _ _) _
 have HB0 := Aside0.mk hB0
 clear ha ih hn ht hol hB0
 by_cases h1 : x.f0 < 1
 ·have q1 : decide (x.f0 < 1) = true := decide_eq_true h1
  have he : decide (1 ≤ x.f0 ∧ x.f0 ≤ 25) = false := decide_eq_false (by omega)
  have HE := Aside0.mk he
  clear h1 he
  go_enter Try.func57, Try.ntmps57
  go_wp2_with fail
  go_ret
  exact ⟨by rw [HM.out, HE.out]; rfl, HB0.out⟩
 have q1 : decide (x.f0 < 1) = false := decide_eq_false h1
 by_cases h2 : 25 < x.f0
 ·have q2 : decide (25 < x.f0) = true := decide_eq_true h2
  have he : decide (1 ≤ x.f0 ∧ x.f0 ≤ 25) = false := decide_eq_false (by omega)
  have HE := Aside0.mk he
  clear h1 h2 he
  go_enter Try.func57, Try.ntmps57
  go_wp2_with fail
  go_ret
  exact ⟨by rw [HM.out, HE.out]; rfl, HB0.out⟩
 have q2 : decide (25 < x.f0) = false := decide_eq_false h2
 have he : decide (1 ≤ x.f0 ∧ x.f0 ≤ 25) = true := decide_eq_true (by omega)
 have HE := Aside0.mk he
 clear h1 h2 he
 go_enter Try.func57, Try.ntmps57
 go_wp2_with fail
 refine (containsFunc_87 (fun y => !mayB y) x.f3 A c _ (fun y hy => pred87_of y (HI.out y hy) _) (Kd.C_below HA.out HB0.out) hc).mono ?_
 rintro e w2 ⟨rfl, hb2⟩
 have BX := Aside0.mk ((Blk.new w #[.int .u8 x.f0, .int .u64 x.f1, .string x.f2, .slice A x.f3.length c] 25).below hb2)
 have HB2 := Aside0.mk (below_step HB0.out hb2)
 clear hb2
 have hml : mayL x.f3 = !(x.f3.any fun y => !mayB y) := by rw [mayL_all, List.all_eq_not_any_not]
 have HL := Aside0.mk hml
 clear hml
 cases hq : x.f3.any (fun y => !mayB y) with
 | true =>
  have HQ := Aside0.mk hq
  clear hq
  go_wp2_with fail
  go_ret
  exact ⟨by rw [HM.out, HL.out, HQ.out, HE.out]; rfl, HB2.out⟩
 | false =>
  have HQ := Aside0.mk hq
  clear hq
  obtain ⟨q0, q3, q4, q5⟩ := BX.out.c4
  go_wp2_with fail
  refine (number88_any x HN.out A c _ (Kd.C_below HA.out HB2.out) hc).mono ?_
  rintro e w3 ⟨rfl, hb3⟩
  have BX3 := Aside0.mk (BX.out.below hb3)
  have HB3 := Aside0.mk (below_step HB2.out hb3)
  clear hb3 q0 q3 q4 q5
  obtain ⟨q0, q3, q4, q5⟩ := BX3.out.c4
  cases hq : numB x.f0 x.f1 with
  | false =>
   have HQ2 := Aside0.mk hq
   clear hq
   go_wp2_with fail
   go_ret
   exact ⟨by rw [HM.out, HL.out, HQ.out, HE.out, HQ2.out]; rfl, HB3.out⟩
  | true =>
   have HQ2 := Aside0.mk hq
   clear hq
   go_wp2_with fail
   refine (text89_any x HT.out A c _ (Kd.C_below HA.out HB3.out) hc).mono ?_
   rintro e w4 ⟨rfl, hb4⟩
   have BX4 := Aside0.mk (BX3.out.below hb4)
   have HB4 := Aside0.mk (below_step HB3.out hb4)
   clear hb4 q0 q3 q4 q5
   obtain ⟨q0, q3, q4, q5⟩ := BX4.out.c4
   cases hq : txtB x.f0 x.f2 with
   | false =>
    have HQ3 := Aside0.mk hq
    clear hq
    go_wp2_with fail
    go_ret
    exact ⟨by rw [HM.out, HL.out, HQ.out, HE.out, HQ2.out, HQ3.out]; rfl, HB4.out⟩
   | true =>
    have HQ3 := Aside0.mk hq
    clear hq
    go_wp2_with fail
    refine (family90_any x hl (by have := HL.out; rw [HQ.out, mayL_all] at this; exact this) A c _ (Kd.C_below HA.out HB4.out) hc).mono ?_
    rintro e w5 ⟨rfl, hb5⟩
    have HB5 := Aside0.mk (below_step HB4.out hb5)
    clear hb5 q0 q3 q4 q5
    go_wp2_with fail
    go_ret
    exact ⟨by rw [HM.out, HL.out, HQ.out, HE.out, HQ2.out, HQ3.out]; rfl, HB5.out⟩
theorem may57_all : ∀ (n : Nat), n ≤ 4294967296 → ∀ (x : S25), itemsN x ≤ n → okV x → MayAt 57 x
 | 0, _, x, h, _ => absurd (itemsN_pos x) (by omega)
 | n + 1, hn, x, h, ho => may57_of x (by omega) ho fun a ha => may57_all n (by omega) a (by have := itemsL_mem ha; rw [itemsN_eq] at h; omega) (okL_mem (by rw [okV_eq] at ho; exact ho.2) ha)
theorem may57_any (x : S25) (h : itemsN x ≤ 4294967296) (ho : okV x) : MayAt 57 x := may57_all 4294967296 (Nat.le_refl _) x h ho
end Go.Proofs.Ytdilbnggedidnaa.PVal
namespace Go.Proofs.Ytdilbnggedidnaa.PVal
open Go.RowKit Go.Proofs.YtdilbnggedidnaaW.PrintWords Go.Proofs.YtdilbnggedidnaaW.PrintLast
set_option linter.unusedVariables false
set_option linter.unusedSimpArgs false
theorem cells5_ : Try.prog.cellsOf 5 = 1 := by kernel_rfl
theorem cells22_ : Try.prog.cellsOf 22 = 1 := by kernel_rfl
theorem cells9_ : Try.prog.cellsOf 9 = 1 := by kernel_rfl
theorem cells23_ : Try.prog.cellsOf 23 = 1 := by kernel_rfl
theorem cells25_ : Try.prog.cellsOf 25 = 4 := by kernel_rfl
theorem list4 {α : Type} {l : List α} (h : l.length = 4) : ∃ a b c d, l = [a, b, c, d] := by
 match l, h with
 | [a, b, c, d], _ => exact ⟨a, b, c, d, rfl⟩
theorem open_list {H α : Type} : ∀ (es : List (DataW H × α)) (Q : Nat → S25 → Prop), (∀ i e, es[i]? = some e → ∃ y, Q i y ∧ itemsN y + textsN y ≤ Rows.uptoBulk e.1 ∧ (Rows.uptoBulk e.1 ≤ 4294967290 → okV y)) →
  ∃ l : List S25, l.length = es.length ∧ itemsL l + textsL l ≤ Rows.uptoBulkAll (es.map (·.1)) ∧ (Rows.uptoBulkAll (es.map (·.1)) ≤ 4294967290 → okL l) ∧ ∀ i y, l[i]? = some y → Q i y
 | [], Q, _ => ⟨[], rfl, by simp [itemsL, textsL], fun _ => by rw [okL]; trivial, fun i y h => by simp at h⟩
 | e :: es, Q, h => by
  obtain ⟨y, hq, hb, ho⟩ := h 0 e rfl
  obtain ⟨l, hl, hlb, hlo, hlq⟩ := open_list es (fun i => Q (i + 1)) (fun i e' he => h (i + 1) e' (by simpa using he))
  refine ⟨y :: l, by simp [hl], ?_, fun hk => by
   simp only [List.map_cons, Rows.uptoBulkAll] at hk
   rw [okL]; exact ⟨ho (by omega), hlo (by omega)⟩, fun i z hz => ?_⟩
  ·simp only [itemsL, textsL, List.map_cons, Rows.uptoBulkAll]; omega
  ·cases i with
   | zero =>
    obtain rfl : y = z := by simpa using hz
    exact hq
   | succ i => exact hlq i z (by simpa using hz)
def Opened {H α : Type} (w : World) (cs : List Value) (x : DataW H × α) : Prop :=
 ∃ (y : S25) (A : Option Addr) (c : Nat), cs = [.int .u8 y.f0, .int .u64 y.f1, .string y.f2, .slice A y.f3.length c] ∧ y.f3.length ≤ c ∧ k25.C w A y.f3.length y.f3 ∧ itemsN y + textsN y ≤ Rows.uptoBulk x.1 ∧ (Rows.uptoBulk x.1 ≤ 4294967290 → okV y)
def OpenedL {H α : Type} (w : World) (cs : List Value) (x : DataW H × α) : Prop :=
 ∃ (l : List S25) (A : Option Addr) (c : Nat), cs = [.slice A l.length c] ∧ l.length ≤ c ∧ k25.C w A l.length l ∧ itemsL l + textsL l + 1 ≤ Rows.uptoBulk x.1 ∧ (Rows.uptoBulk x.1 ≤ 4294967290 → okL l)
section
variable {H : Type} {enc : TypeId × Value → H} {w : World} {base : Nat} {spare : Nat → Bool} {held : Bool}
theorem open_vals {m : Nat} {t : TypeId} (ht : Try.prog.underlying t = some (.slice 25)) (ih : ∀ n, n < m → ∀ (cs : List Value) (x : DataW H × List MemPlace), DataW.trod enc Try.prog w base spare held n 25 cs = some x → Opened w cs x)
  (cs : List Value) (x : DataW H × List MemPlace) (h : DataW.trod enc Try.prog w base spare held m t cs = some x) : OpenedL w cs x := by
 rcases DataW.trod_slice ht h with ⟨rfl, rfl⟩ | ⟨a, len, cap, es, rest, n, rfl, rfl, rfl, hb, hl, hm, hlen, hel, _, _⟩
 ·exact ⟨[], none, 0, rfl, Nat.le_refl _, ⟨rfl, by simp, fun h => absurd h (by simp)⟩, by simp [itemsL, textsL, Rows.uptoBulk], fun _ => by rw [okL]; trivial⟩
 ·rw [cells25_] at hel
  obtain ⟨l, hll, hlb, hlo, hlq⟩ := open_list es (fun i y => ∃ c, c.length = 4 ∧ k25.K w y c ∧ ∀ j u, c[j]? = some u → w.cell? (a.add (i * 4 + j)) = some u) (fun i e he => by
   have hi : i < es.length := (List.getElem?_eq_some_iff.1 he).1
   have h1 := hel i (by omega)
   rw [he] at h1
   obtain ⟨cs', h2, h3⟩ := Option.bind_eq_some_iff.1 h1
   obtain ⟨y, A, c, hcs, hc, hC, hbk, hok⟩ := ih n (by omega) cs' e h3
   refine ⟨y, ⟨cs', by rw [hcs]; rfl, by rw [hcs]; exact k25_mk w y hc hC, fun j u hj => ?_⟩, hbk, hok⟩
   obtain ⟨_, hlen4, hcell⟩ := World.cells?_some h2
   have hj4 : j < 4 := by have := (List.getElem?_eq_some_iff.1 hj).1; omega
   have := hcell j hj4
   rw [add_add] at this
   exact this.trans hj)
  refine ⟨l, some a, cap, by rw [hll, hlen], by omega, ⟨rfl, by unfold maxLen at hm; omega, fun _ => ⟨a, rfl, hlq⟩⟩, ?_, fun hk => hlo ?_⟩
  ·simp only [Rows.uptoBulk]; omega
  ·simp only [Rows.uptoBulk] at hk; omega
theorem open_val : ∀ (n : Nat) (cs : List Value) (x : DataW H × List MemPlace), DataW.trod enc Try.prog w base spare held n 25 cs = some x → Opened w cs x := by
 intro n
 induction n using Nat.strongRecOn with
 | _ n ih =>
  intro cs x h
  obtain ⟨xs, m, rfl, rfl, hl, hlen, hf⟩ := DataW.trod_struct Try.underlying25 h
  rw [cells25_] at hl
  obtain ⟨c0, c1, c2, c3, rfl⟩ := list4 hl
  obtain ⟨y0, y1, y2, y3, rfl⟩ := list4 hlen
  have h0 : DataW.trod enc Try.prog w base spare held m 5 (([c0, c1, c2, c3].drop 0).take (Try.prog.cellsOf 5)) = some y0 := hf 0 _ rfl
  rw [cells5_] at h0
  have h1 : DataW.trod enc Try.prog w base spare held m 22 (([c0, c1, c2, c3].drop 1).take (Try.prog.cellsOf 22)) = some y1 := hf 1 _ rfl
  rw [cells22_] at h1
  have h2 : DataW.trod enc Try.prog w base spare held m 9 (([c0, c1, c2, c3].drop 2).take (Try.prog.cellsOf 9)) = some y2 := hf 2 _ rfl
  rw [cells9_] at h2
  have h3 : DataW.trod enc Try.prog w base spare held m 23 (([c0, c1, c2, c3].drop 3).take (Try.prog.cellsOf 23)) = some y3 := hf 3 _ rfl
  rw [cells23_] at h3
  obtain ⟨k, e0, rfl, -⟩ := DataW.trod_int Try.underlying5 h0
  obtain ⟨n', e1, rfl, hw1⟩ := DataW.trod_int Try.underlying22 h1
  obtain ⟨s, e2, rfl, hs⟩ := DataW.trod_string Try.underlying9 h2
  obtain ⟨l, A, c, e3, hlc, hC, hbk, hok⟩ := open_vals (m := m) Try.underlying23 (fun i hi => ih i (by omega)) _ _ h3
  simp at e0 e1 e2 e3
  subst e0 e1 e2 e3
  have hbd := Go.bounds_u64 hw1
  have e : s.data.toList.length = s.size := by rw [Array.length_toList]; rfl
  refine ⟨⟨k, n', s, l⟩, A, c, rfl, hlc, hC, ?_, ?_⟩
  ·simp only [itemsN, textsN, Rows.uptoBulk, Rows.uptoBulkAll, List.map_cons, List.map_nil]; omega
  ·intro hk
   simp only [Rows.uptoBulk, Rows.uptoBulkAll, List.map_cons, List.map_nil] at hk
   rw [okV]; exact ⟨⟨⟨hbd.1, by omega⟩, by omega⟩, hok (by omega)⟩
end
end Go.Proofs.Ytdilbnggedidnaa.PVal
namespace Go.Proofs.Ytdilbnggedidnaa.PVal
open Go.RowKit Go.Proofs.YtdilbnggedidnaaW.PrintWords Go.Proofs.YtdilbnggedidnaaW.PrintLast
attribute [local go_sem] max2_int max_two
set_option linter.unusedVariables false
set_option linter.unusedSimpArgs false
def value_Depth.f (a0_0 : Int) (a0_1 : Int) (a0_2 : ByteArray) (l0_3 : List (S25)) : Option (Int) := if itemsN ⟨a0_0, a0_1, a0_2, l0_3⟩ ≤ 4294967296 then some ((depthN ⟨a0_0, a0_1, a0_2, l0_3⟩ : Int)) else none
theorem value_Depth.calls (a0_0 : Int) (a0_1 : Int) (a0_2 : ByteArray) (A0_3 : Option Addr) (c0_3 : Nat) (l0_3 : List (S25)) (r : Int) (w : World) (hr0_3 : Kd.C k25 w A0_3 l0_3.length l0_3) (hc0_3 : l0_3.length ≤ c0_3) (h : value_Depth.f a0_0 a0_1 a0_2 l0_3 = some r) :
  Calls Try.prog 32 #[.agg #[.int .u8 a0_0, .int .u64 a0_1, .string a0_2, .slice A0_3 l0_3.length c0_3]] w fun e w' => e = .returned (.int .i64 r) ∧ Below w.heap.size w w' := by
 unfold value_Depth.f at h
 split at h
 ·rename_i hq
  obtain rfl := Option.some.inj h
  exact depth32_any ⟨a0_0, a0_1, a0_2, l0_3⟩ hq A0_3 c0_3 w hr0_3 hc0_3
 ·cases h
def value_Items.f (a0_0 : Int) (a0_1 : Int) (a0_2 : ByteArray) (l0_3 : List (S25)) : Option (Int) := if itemsN ⟨a0_0, a0_1, a0_2, l0_3⟩ ≤ 4294967296 then some ((itemsN ⟨a0_0, a0_1, a0_2, l0_3⟩ : Int)) else none
theorem value_Items.calls (a0_0 : Int) (a0_1 : Int) (a0_2 : ByteArray) (A0_3 : Option Addr) (c0_3 : Nat) (l0_3 : List (S25)) (r : Int) (w : World) (hr0_3 : Kd.C k25 w A0_3 l0_3.length l0_3) (hc0_3 : l0_3.length ≤ c0_3) (h : value_Items.f a0_0 a0_1 a0_2 l0_3 = some r) :
  Calls Try.prog 34 #[.agg #[.int .u8 a0_0, .int .u64 a0_1, .string a0_2, .slice A0_3 l0_3.length c0_3]] w fun e w' => e = .returned (.int .i64 r) ∧ Below w.heap.size w w' := by
 unfold value_Items.f at h
 split at h
 ·rename_i hq
  obtain rfl := Option.some.inj h
  exact items34_any ⟨a0_0, a0_1, a0_2, l0_3⟩ hq A0_3 c0_3 w hr0_3 hc0_3
 ·cases h
def value_may.f (a0_0 : Int) (a0_1 : Int) (a0_2 : ByteArray) (l0_3 : List (S25)) : Option (Bool) := if itemsN ⟨a0_0, a0_1, a0_2, l0_3⟩ ≤ 4294967296 ∧ okVb ⟨a0_0, a0_1, a0_2, l0_3⟩ = true then some (mayB ⟨a0_0, a0_1, a0_2, l0_3⟩) else none
theorem value_may.calls (a0_0 : Int) (a0_1 : Int) (a0_2 : ByteArray) (A0_3 : Option Addr) (c0_3 : Nat) (l0_3 : List (S25)) (r : Bool) (w : World) (hr0_3 : Kd.C k25 w A0_3 l0_3.length l0_3) (hc0_3 : l0_3.length ≤ c0_3) (h : value_may.f a0_0 a0_1 a0_2 l0_3 = some r) :
  Calls Try.prog 57 #[.agg #[.int .u8 a0_0, .int .u64 a0_1, .string a0_2, .slice A0_3 l0_3.length c0_3]] w fun e w' => e = .returned (.bool r) ∧ Below w.heap.size w w' := by
 unfold value_may.f at h
 split at h
 ·rename_i hq
  obtain rfl := Option.some.inj h
  exact may57_any ⟨a0_0, a0_1, a0_2, l0_3⟩ hq.1 (okVb_iff.1 hq.2) A0_3 c0_3 w hr0_3 hc0_3
 ·cases h
def value_Right.f (a0_0 : Int) (a0_1 : Int) (a0_2 : ByteArray) (l0_3 : List (S25)) : Option (Bool) := (value_Depth.f a0_0 a0_1 a0_2 l0_3).bind fun t118 => (if t118 ≤ 16 then ((value_Items.f a0_0 a0_1 a0_2 l0_3).bind fun t119 => (if t119 ≤ 1024 then ((value_may.f a0_0 a0_1 a0_2 l0_3).bind fun t120 => (some t120)) else (some false))) else (some false))
set_option maxHeartbeats 8000000 in
set_option maxRecDepth 100000 in
theorem value_Right.calls (a0_0 : Int) (a0_1 : Int) (a0_2 : ByteArray) (A0_3 : Option Addr) (c0_3 : Nat) (l0_3 : List (S25)) (r : Bool) (w : World) (hr0_3 : Kd.C k25 w A0_3 l0_3.length l0_3) (hc0_3 : l0_3.length ≤ c0_3) (h : value_Right.f a0_0 a0_1 a0_2 l0_3 = some r) :
  Calls Try.prog 17 #[.agg #[.int .u8 a0_0, .int .u64 a0_1, .string a0_2, .slice A0_3 l0_3.length c0_3]] w fun e w' => e = .returned (.bool r) ∧ Below w.heap.size w w' := by
 have hu25 := Try.underlying25
 have HR0_3 := Aside0.mk hr0_3
 have HC0_3 := Aside0.mk hc0_3
 clear hr0_3 hc0_3
 have HB := Aside0.mk (Below.refl w.heap.size w)
 have H : ((value_Depth.f a0_0 a0_1 a0_2 l0_3).bind fun t118 => (if t118 ≤ 16 then ((value_Items.f a0_0 a0_1 a0_2 l0_3).bind fun t119 => (if t119 ≤ 1024 then ((value_may.f a0_0 a0_1 a0_2 l0_3).bind fun t120 => (some t120)) else (some false))) else (some false))) = some r := h
 clear h
 replace H := Option.bind_eq_some_iff.mp H
 obtain ⟨t118, A20, H⟩ := H
 replace H : (if t118 ≤ 16 then ((value_Items.f a0_0 a0_1 a0_2 l0_3).bind fun t119 => (if t119 ≤ 1024 then ((value_may.f a0_0 a0_1 a0_2 l0_3).bind fun t120 => (some t120)) else (some false))) else (some false)) = some r := H
 have A2 := Aside0.mk A20
 clear A20
 by_cases c3 : t118 ≤ 16
 ·rw [if_pos c3] at H
  have c3b0 : decide (t118 ≤ 16) = true := decide_eq_true c3
  clear c3
  replace H := Option.bind_eq_some_iff.mp H
  obtain ⟨t119, A40, H⟩ := H
  replace H : (if t119 ≤ 1024 then ((value_may.f a0_0 a0_1 a0_2 l0_3).bind fun t120 => (some t120)) else (some false)) = some r := H
  have A4 := Aside0.mk A40
  clear A40
  by_cases c5 : t119 ≤ 1024
  ·rw [if_pos c5] at H
   have c5b0 : decide (t119 ≤ 1024) = true := decide_eq_true c5
   clear c5
   replace H := Option.bind_eq_some_iff.mp H
   obtain ⟨t120, A60, H⟩ := H
   replace H : (some t120) = some r := H
   have A6 := Aside0.mk A60
   clear A60
   obtain rfl := Option.some.inj H
   go_enter Try.func17, Try.ntmps17
   go_wp2_with (first | ((with_reducible refine gate_dst (N := 1) rfl ?_); refine box_event ?hg (N := 1) ?hd (cs := #[.int .u8 a0_0, .int .u64 a0_1, .string a0_2, .slice A0_3 l0_3.length c0_3]) (t := 25) ?hr ?_; (case hd => rfl); (case hg => rfl); (case hr => first | (go_simp; done) | (go_simp; rfl)); intro gb117 hg w7 hbox hb; have n0_ := Aside0.mk (below_step (by repeat (first | (with_reducible first | exact HB.out | apply below_alloc | apply pw_below_drewN | apply below_drew1) | exact HB.out)) hb); have n1_ := Aside0.mk (hbox); have n2_ := Aside0.mk ((by rw [hg]; exact (below_size (by repeat (first | (with_reducible first | exact HB.out | apply below_alloc | apply pw_below_drewN | apply below_drew1) | exact HB.out))) : w.heap.size ≤ gb117)); have n3_ := Aside0.mk ((by rw [hg]; exact (below_size (by repeat (first | (with_reducible first | exact HB.out | apply below_alloc | apply pw_below_drewN | apply below_drew1) | exact HB.out))) : w.heap.size ≤ gb117)); clear HB; have HB := n0_; have BK117 := n1_; have GW117 := n2_; have GE117 := n3_; clear n0_ n1_ n2_ n3_; clear hb hbox hg; have hcz8_0 : w7.cell? ⟨gb117, 0, none⟩ = some (.int .u8 a0_0) := (blk_cell BK117.out 0).trans rfl; have hcz8_1 : w7.cell? ⟨gb117, 1, none⟩ = some (.int .u64 a0_1) := (blk_cell BK117.out 1).trans rfl; have hcz8_2 : w7.cell? ⟨gb117, 2, none⟩ = some (.string a0_2) := (blk_cell BK117.out 2).trans rfl; have hcz8_3 : w7.cell? ⟨gb117, 3, none⟩ = some (.slice A0_3 l0_3.length c0_3) := (blk_cell BK117.out 3).trans rfl; have hfz8_0 := blk_frozen BK117.out 0; have hfz8_1 := blk_frozen BK117.out 1; have hfz8_2 := blk_frozen BK117.out 2; have hfz8_3 := blk_frozen BK117.out 3) | ((with_reducible refine gate_callee (f := 32) rfl ?_); refine goesL_ (some 4) rfl rfl Try.func32 (by kernel_rfl) rfl #[.agg #[.int .u8 a0_0, .int .u64 a0_1, .string a0_2, .slice A0_3 l0_3.length c0_3]] rfl (by (try simp only [List.map_toArray, List.map_cons, List.map_nil]); first | done | rfl | (simp only [List.length_drop, List.length_take]; rfl)) ?_; (with_reducible refine (value_Depth.calls a0_0 a0_1 a0_2 _ _ l0_3 t118 _ ?side1 ?side2 A2.out).mono ?_); (case side1 => repeat (first | exact (Kd.C_below HR0_3.out HB.out) | (with_reducible refine Kd.C_alloc ?_ _) | (with_reducible refine Kd.C_drewN ?_ _) | (with_reducible refine Kd.C_drew ?_))); (case side2 => exact HC0_3.out); rintro e w9 ⟨rfl, hb⟩; refine ⟨_, rfl, ?_⟩; have n0_ := Aside0.mk (blk_below (g := gb117) (o := .cells #[.int .u8 a0_0, .int .u64 a0_1, .string a0_2, .slice A0_3 l0_3.length c0_3] 25 (0, 0)) (by (with_reducible repeat (first | refine blk_drewN ?_ _ | refine blk_drew ?_ | refine blk_alloc ?_ _)); exact BK117.out) hb); have n1_ := Aside0.mk (below_step (by repeat (first | (with_reducible first | exact HB.out | apply below_alloc | apply pw_below_drewN | apply below_drew1 | refine below_set ?_ GE117.out) | exact HB.out)) hb); clear BK117; clear HB; have BK117 := n0_; have HB := n1_; clear n0_ n1_; (try clear hb); (try clear hb2); (try clear hk); (try clear hi); have hcz10_0 : w9.cell? ⟨gb117, 0, none⟩ = some (.int .u8 a0_0) := (blk_cell BK117.out 0).trans rfl; have hcz10_1 : w9.cell? ⟨gb117, 1, none⟩ = some (.int .u64 a0_1) := (blk_cell BK117.out 1).trans rfl; have hcz10_2 : w9.cell? ⟨gb117, 2, none⟩ = some (.string a0_2) := (blk_cell BK117.out 2).trans rfl; have hcz10_3 : w9.cell? ⟨gb117, 3, none⟩ = some (.slice A0_3 l0_3.length c0_3) := (blk_cell BK117.out 3).trans rfl; have hfz10_0 := blk_frozen BK117.out 0; have hfz10_1 := blk_frozen BK117.out 1; have hfz10_2 := blk_frozen BK117.out 2; have hfz10_3 := blk_frozen BK117.out 3) | (go_at_call 34; (with_reducible refine (value_Items.calls a0_0 a0_1 a0_2 _ _ l0_3 t119 _ ?side1 ?side2 A4.out).mono ?_); (case side1 => repeat (first | exact (Kd.C_below HR0_3.out HB.out) | (with_reducible refine Kd.C_alloc ?_ _) | (with_reducible refine Kd.C_drewN ?_ _) | (with_reducible refine Kd.C_drew ?_))); (case side2 => exact HC0_3.out); rintro e w11 ⟨rfl, hb⟩; have n0_ := Aside0.mk (blk_below (g := gb117) (o := .cells #[.int .u8 a0_0, .int .u64 a0_1, .string a0_2, .slice A0_3 l0_3.length c0_3] 25 (0, 0)) (by (with_reducible repeat (first | refine blk_drewN ?_ _ | refine blk_drew ?_ | refine blk_alloc ?_ _)); exact BK117.out) hb); have n1_ := Aside0.mk (below_step (by repeat (first | (with_reducible first | exact HB.out | apply below_alloc | apply pw_below_drewN | apply below_drew1 | refine below_set ?_ GE117.out) | exact HB.out)) hb); clear BK117; clear HB; have BK117 := n0_; have HB := n1_; clear n0_ n1_; (try clear hb); (try clear hb2); (try clear hk); (try clear hi); have hcz12_0 : w11.cell? ⟨gb117, 0, none⟩ = some (.int .u8 a0_0) := (blk_cell BK117.out 0).trans rfl; have hcz12_1 : w11.cell? ⟨gb117, 1, none⟩ = some (.int .u64 a0_1) := (blk_cell BK117.out 1).trans rfl; have hcz12_2 : w11.cell? ⟨gb117, 2, none⟩ = some (.string a0_2) := (blk_cell BK117.out 2).trans rfl; have hcz12_3 : w11.cell? ⟨gb117, 3, none⟩ = some (.slice A0_3 l0_3.length c0_3) := (blk_cell BK117.out 3).trans rfl; have hfz12_0 := blk_frozen BK117.out 0; have hfz12_1 := blk_frozen BK117.out 1; have hfz12_2 := blk_frozen BK117.out 2; have hfz12_3 := blk_frozen BK117.out 3) | (go_at_call 57; (with_reducible refine (value_may.calls a0_0 a0_1 a0_2 _ _ l0_3 t120 _ ?side1 ?side2 A6.out).mono ?_); (case side1 => repeat (first | exact (Kd.C_below HR0_3.out HB.out) | (with_reducible refine Kd.C_alloc ?_ _) | (with_reducible refine Kd.C_drewN ?_ _) | (with_reducible refine Kd.C_drew ?_))); (case side2 => exact HC0_3.out); rintro e w13 ⟨rfl, hb⟩; have n0_ := Aside0.mk (blk_below (g := gb117) (o := .cells #[.int .u8 a0_0, .int .u64 a0_1, .string a0_2, .slice A0_3 l0_3.length c0_3] 25 (0, 0)) (by (with_reducible repeat (first | refine blk_drewN ?_ _ | refine blk_drew ?_ | refine blk_alloc ?_ _)); exact BK117.out) hb); have n1_ := Aside0.mk (below_step (by repeat (first | (with_reducible first | exact HB.out | apply below_alloc | apply pw_below_drewN | apply below_drew1 | refine below_set ?_ GE117.out) | exact HB.out)) hb); clear BK117; clear HB; have BK117 := n0_; have HB := n1_; clear n0_ n1_; (try clear hb); (try clear hb2); (try clear hk); (try clear hi)))
   go_ret
   exact ⟨by first | rfl | (simp [errW_none, errW_some] <;> rfl) | (simp [*, errW_none, errW_some] <;> rfl), by repeat (first | (with_reducible first | exact HB.out | apply below_alloc | apply pw_below_drewN | apply below_drew1 | refine below_set ?_ GE117.out) | exact HB.out)⟩
  ·rw [if_neg c5] at H
   have c5b0 : decide (t119 ≤ 1024) = false := decide_eq_false c5
   clear c5
   obtain rfl := Option.some.inj H
   go_enter Try.func17, Try.ntmps17
   go_wp2_with (first | ((with_reducible refine gate_dst (N := 1) rfl ?_); refine box_event ?hg (N := 1) ?hd (cs := #[.int .u8 a0_0, .int .u64 a0_1, .string a0_2, .slice A0_3 l0_3.length c0_3]) (t := 25) ?hr ?_; (case hd => rfl); (case hg => rfl); (case hr => first | (go_simp; done) | (go_simp; rfl)); intro gb117 hg w14 hbox hb; have n0_ := Aside0.mk (below_step (by repeat (first | (with_reducible first | exact HB.out | apply below_alloc | apply pw_below_drewN | apply below_drew1) | exact HB.out)) hb); have n1_ := Aside0.mk (hbox); have n2_ := Aside0.mk ((by rw [hg]; exact (below_size (by repeat (first | (with_reducible first | exact HB.out | apply below_alloc | apply pw_below_drewN | apply below_drew1) | exact HB.out))) : w.heap.size ≤ gb117)); have n3_ := Aside0.mk ((by rw [hg]; exact (below_size (by repeat (first | (with_reducible first | exact HB.out | apply below_alloc | apply pw_below_drewN | apply below_drew1) | exact HB.out))) : w.heap.size ≤ gb117)); clear HB; have HB := n0_; have BK117 := n1_; have GW117 := n2_; have GE117 := n3_; clear n0_ n1_ n2_ n3_; clear hb hbox hg; have hcz15_0 : w14.cell? ⟨gb117, 0, none⟩ = some (.int .u8 a0_0) := (blk_cell BK117.out 0).trans rfl; have hcz15_1 : w14.cell? ⟨gb117, 1, none⟩ = some (.int .u64 a0_1) := (blk_cell BK117.out 1).trans rfl; have hcz15_2 : w14.cell? ⟨gb117, 2, none⟩ = some (.string a0_2) := (blk_cell BK117.out 2).trans rfl; have hcz15_3 : w14.cell? ⟨gb117, 3, none⟩ = some (.slice A0_3 l0_3.length c0_3) := (blk_cell BK117.out 3).trans rfl; have hfz15_0 := blk_frozen BK117.out 0; have hfz15_1 := blk_frozen BK117.out 1; have hfz15_2 := blk_frozen BK117.out 2; have hfz15_3 := blk_frozen BK117.out 3) | ((with_reducible refine gate_callee (f := 32) rfl ?_); refine goesL_ (some 4) rfl rfl Try.func32 (by kernel_rfl) rfl #[.agg #[.int .u8 a0_0, .int .u64 a0_1, .string a0_2, .slice A0_3 l0_3.length c0_3]] rfl (by (try simp only [List.map_toArray, List.map_cons, List.map_nil]); first | done | rfl | (simp only [List.length_drop, List.length_take]; rfl)) ?_; (with_reducible refine (value_Depth.calls a0_0 a0_1 a0_2 _ _ l0_3 t118 _ ?side1 ?side2 A2.out).mono ?_); (case side1 => repeat (first | exact (Kd.C_below HR0_3.out HB.out) | (with_reducible refine Kd.C_alloc ?_ _) | (with_reducible refine Kd.C_drewN ?_ _) | (with_reducible refine Kd.C_drew ?_))); (case side2 => exact HC0_3.out); rintro e w16 ⟨rfl, hb⟩; refine ⟨_, rfl, ?_⟩; have n0_ := Aside0.mk (blk_below (g := gb117) (o := .cells #[.int .u8 a0_0, .int .u64 a0_1, .string a0_2, .slice A0_3 l0_3.length c0_3] 25 (0, 0)) (by (with_reducible repeat (first | refine blk_drewN ?_ _ | refine blk_drew ?_ | refine blk_alloc ?_ _)); exact BK117.out) hb); have n1_ := Aside0.mk (below_step (by repeat (first | (with_reducible first | exact HB.out | apply below_alloc | apply pw_below_drewN | apply below_drew1 | refine below_set ?_ GE117.out) | exact HB.out)) hb); clear BK117; clear HB; have BK117 := n0_; have HB := n1_; clear n0_ n1_; (try clear hb); (try clear hb2); (try clear hk); (try clear hi); have hcz17_0 : w16.cell? ⟨gb117, 0, none⟩ = some (.int .u8 a0_0) := (blk_cell BK117.out 0).trans rfl; have hcz17_1 : w16.cell? ⟨gb117, 1, none⟩ = some (.int .u64 a0_1) := (blk_cell BK117.out 1).trans rfl; have hcz17_2 : w16.cell? ⟨gb117, 2, none⟩ = some (.string a0_2) := (blk_cell BK117.out 2).trans rfl; have hcz17_3 : w16.cell? ⟨gb117, 3, none⟩ = some (.slice A0_3 l0_3.length c0_3) := (blk_cell BK117.out 3).trans rfl; have hfz17_0 := blk_frozen BK117.out 0; have hfz17_1 := blk_frozen BK117.out 1; have hfz17_2 := blk_frozen BK117.out 2; have hfz17_3 := blk_frozen BK117.out 3) | (go_at_call 34; (with_reducible refine (value_Items.calls a0_0 a0_1 a0_2 _ _ l0_3 t119 _ ?side1 ?side2 A4.out).mono ?_); (case side1 => repeat (first | exact (Kd.C_below HR0_3.out HB.out) | (with_reducible refine Kd.C_alloc ?_ _) | (with_reducible refine Kd.C_drewN ?_ _) | (with_reducible refine Kd.C_drew ?_))); (case side2 => exact HC0_3.out); rintro e w18 ⟨rfl, hb⟩; have n0_ := Aside0.mk (blk_below (g := gb117) (o := .cells #[.int .u8 a0_0, .int .u64 a0_1, .string a0_2, .slice A0_3 l0_3.length c0_3] 25 (0, 0)) (by (with_reducible repeat (first | refine blk_drewN ?_ _ | refine blk_drew ?_ | refine blk_alloc ?_ _)); exact BK117.out) hb); have n1_ := Aside0.mk (below_step (by repeat (first | (with_reducible first | exact HB.out | apply below_alloc | apply pw_below_drewN | apply below_drew1 | refine below_set ?_ GE117.out) | exact HB.out)) hb); clear BK117; clear HB; have BK117 := n0_; have HB := n1_; clear n0_ n1_; (try clear hb); (try clear hb2); (try clear hk); (try clear hi)))
   go_ret
   exact ⟨by first | rfl | (simp [errW_none, errW_some] <;> rfl) | (simp [*, errW_none, errW_some] <;> rfl), by repeat (first | (with_reducible first | exact HB.out | apply below_alloc | apply pw_below_drewN | apply below_drew1 | refine below_set ?_ GE117.out) | exact HB.out)⟩
 ·rw [if_neg c3] at H
  have c3b0 : decide (t118 ≤ 16) = false := decide_eq_false c3
  clear c3
  obtain rfl := Option.some.inj H
  go_enter Try.func17, Try.ntmps17
  go_wp2_with (first | ((with_reducible refine gate_dst (N := 1) rfl ?_); refine box_event ?hg (N := 1) ?hd (cs := #[.int .u8 a0_0, .int .u64 a0_1, .string a0_2, .slice A0_3 l0_3.length c0_3]) (t := 25) ?hr ?_; (case hd => rfl); (case hg => rfl); (case hr => first | (go_simp; done) | (go_simp; rfl)); intro gb117 hg w19 hbox hb; have n0_ := Aside0.mk (below_step (by repeat (first | (with_reducible first | exact HB.out | apply below_alloc | apply pw_below_drewN | apply below_drew1) | exact HB.out)) hb); have n1_ := Aside0.mk (hbox); have n2_ := Aside0.mk ((by rw [hg]; exact (below_size (by repeat (first | (with_reducible first | exact HB.out | apply below_alloc | apply pw_below_drewN | apply below_drew1) | exact HB.out))) : w.heap.size ≤ gb117)); have n3_ := Aside0.mk ((by rw [hg]; exact (below_size (by repeat (first | (with_reducible first | exact HB.out | apply below_alloc | apply pw_below_drewN | apply below_drew1) | exact HB.out))) : w.heap.size ≤ gb117)); clear HB; have HB := n0_; have BK117 := n1_; have GW117 := n2_; have GE117 := n3_; clear n0_ n1_ n2_ n3_; clear hb hbox hg; have hcz20_0 : w19.cell? ⟨gb117, 0, none⟩ = some (.int .u8 a0_0) := (blk_cell BK117.out 0).trans rfl; have hcz20_1 : w19.cell? ⟨gb117, 1, none⟩ = some (.int .u64 a0_1) := (blk_cell BK117.out 1).trans rfl; have hcz20_2 : w19.cell? ⟨gb117, 2, none⟩ = some (.string a0_2) := (blk_cell BK117.out 2).trans rfl; have hcz20_3 : w19.cell? ⟨gb117, 3, none⟩ = some (.slice A0_3 l0_3.length c0_3) := (blk_cell BK117.out 3).trans rfl; have hfz20_0 := blk_frozen BK117.out 0; have hfz20_1 := blk_frozen BK117.out 1; have hfz20_2 := blk_frozen BK117.out 2; have hfz20_3 := blk_frozen BK117.out 3) | ((with_reducible refine gate_callee (f := 32) rfl ?_); refine goesL_ (some 4) rfl rfl Try.func32 (by kernel_rfl) rfl #[.agg #[.int .u8 a0_0, .int .u64 a0_1, .string a0_2, .slice A0_3 l0_3.length c0_3]] rfl (by (try simp only [List.map_toArray, List.map_cons, List.map_nil]); first | done | rfl | (simp only [List.length_drop, List.length_take]; rfl)) ?_; (with_reducible refine (value_Depth.calls a0_0 a0_1 a0_2 _ _ l0_3 t118 _ ?side1 ?side2 A2.out).mono ?_); (case side1 => repeat (first | exact (Kd.C_below HR0_3.out HB.out) | (with_reducible refine Kd.C_alloc ?_ _) | (with_reducible refine Kd.C_drewN ?_ _) | (with_reducible refine Kd.C_drew ?_))); (case side2 => exact HC0_3.out); rintro e w21 ⟨rfl, hb⟩; refine ⟨_, rfl, ?_⟩; have n0_ := Aside0.mk (blk_below (g := gb117) (o := .cells #[.int .u8 a0_0, .int .u64 a0_1, .string a0_2, .slice A0_3 l0_3.length c0_3] 25 (0, 0)) (by (with_reducible repeat (first | refine blk_drewN ?_ _ | refine blk_drew ?_ | refine blk_alloc ?_ _)); exact BK117.out) hb); have n1_ := Aside0.mk (below_step (by repeat (first | (with_reducible first | exact HB.out | apply below_alloc | apply pw_below_drewN | apply below_drew1 | refine below_set ?_ GE117.out) | exact HB.out)) hb); clear BK117; clear HB; have BK117 := n0_; have HB := n1_; clear n0_ n1_; (try clear hb); (try clear hb2); (try clear hk); (try clear hi)))
  go_ret
  exact ⟨by first | rfl | (simp [errW_none, errW_some] <;> rfl) | (simp [*, errW_none, errW_some] <;> rfl), by repeat (first | (with_reducible first | exact HB.out | apply below_alloc | apply pw_below_drewN | apply below_drew1 | refine below_set ?_ GE117.out) | exact HB.out)⟩
def value_copies.f (l0 : List (S25)) : Option (List S25) := if itemsL l0 ≤ 4294967296 then some l0 else none
theorem value_copies.calls (A0 : Option Addr) (c0 : Nat) (l0 : List (S25)) (r : List (S25)) (w : World) (hr0 : Kd.C k25 w A0 l0.length l0) (hc0 : l0.length ≤ c0) (h : value_copies.f l0 = some r) :
  Calls Try.prog 59 #[.slice A0 l0.length c0] w fun e w' => ∃ v_ : Value, e = .returned v_ ∧ Kd.R k25 25 w' w.heap.size (fun _ => True) v_ r ∧ Below w.heap.size w w' := by
 unfold value_copies.f at h
 split at h
 ·rename_i hq
  cases h
  exact (copies59_any l0 hq A0 c0 w hr0 hc0).mono fun e w' ⟨A', c', he, hm⟩ => ⟨_, he, hm.1, hm.2⟩
 ·cases h
def value_Many.f (a0 : Int) (l1 : List (S25)) : Option (Int × Int × ByteArray × (List (S25))) := (value_copies.f l1).bind fun t122 => (some (a0, 0, (⟨#[]⟩ : ByteArray), t122))
set_option maxHeartbeats 8000000 in
set_option maxRecDepth 100000 in
theorem value_Many.calls (a0 : Int) (A1 : Option Addr) (c1 : Nat) (l1 : List (S25)) (r1 : Int) (r2 : Int) (r3 : ByteArray) (r4 : List (S25)) (w : World) (hr1 : Kd.C k25 w A1 l1.length l1) (hc1 : l1.length ≤ c1) (h : value_Many.f a0 l1 = some (r1, r2, r3, r4)) :
  Calls Try.prog 21 #[.int .u8 a0, .slice A1 l1.length c1] w fun e w' => ∃ v3_ : Value, e = .returned (.agg #[.int .u8 r1, .int .u64 r2, .string r3, v3_]) ∧ Kd.R k25 25 w' w.heap.size (fun _ => True) v3_ r4 ∧ Below w.heap.size w w' := by
 have hu25 := Try.underlying25
 have HR1 := Aside0.mk hr1
 have HC1 := Aside0.mk hc1
 clear hr1 hc1
 have HB := Aside0.mk (Below.refl w.heap.size w)
 have H : ((value_copies.f l1).bind fun t122 => (some (a0, 0, (⟨#[]⟩ : ByteArray), t122))) = some (r1, r2, r3, r4) := h
 clear h
 replace H := Option.bind_eq_some_iff.mp H
 obtain ⟨t122, A30, H⟩ := H
 replace H : (some (a0, 0, (⟨#[]⟩ : ByteArray), t122)) = some (r1, r2, r3, r4) := H
 have A3 := Aside0.mk A30
 clear A30
 simp only [Option.some.injEq, Prod.mk.injEq] at H
 obtain ⟨rfl, rfl, rfl, rfl⟩ := H
 go_enter Try.func21, Try.ntmps21
 go_wp2_with (first | ((with_reducible refine gate_dst (N := 4) rfl ?_); refine box_event ?hg (N := 4) ?hd (cs := #[.int .u8 0, .int .u64 0, .string (⟨#[]⟩ : ByteArray), .slice none 0 0]) (t := 25) ?hr ?_; (case hd => rfl); (case hg => rfl); (case hr => first | (go_simp; done) | (go_simp; rfl)); intro gb121 hg w4 hbox hb; have n0_ := Aside0.mk (below_step (by repeat (first | (with_reducible first | exact HB.out | apply below_alloc | apply pw_below_drewN | apply below_drew1) | exact HB.out)) hb); have n1_ := Aside0.mk (hbox); have n2_ := Aside0.mk ((by rw [hg]; exact (below_size (by repeat (first | (with_reducible first | exact HB.out | apply below_alloc | apply pw_below_drewN | apply below_drew1) | exact HB.out))) : w.heap.size ≤ gb121)); have n3_ := Aside0.mk ((by rw [hg]; exact (below_size (by repeat (first | (with_reducible first | exact HB.out | apply below_alloc | apply pw_below_drewN | apply below_drew1) | exact HB.out))) : w.heap.size ≤ gb121)); clear HB; have HB := n0_; have BK121 := n1_; have GW121 := n2_; have GE121 := n3_; clear n0_ n1_ n2_ n3_; clear hb hbox hg) | ((with_reducible refine gate_callee (f := 59) rfl ?_); refine goesL_ (some 7) rfl rfl Try.func59 (by kernel_rfl) rfl #[.slice A1 l1.length c1] rfl (by (try simp only [List.map_toArray, List.map_cons, List.map_nil]); first | done | rfl | (simp only [List.length_drop, List.length_take]; rfl)) ?_; (with_reducible refine (value_copies.calls _ _ l1 t122 _ ?side1 ?side2 A3.out).mono ?_); (case side1 => repeat (first | exact (Kd.C_below HR1.out HB.out) | (with_reducible refine Kd.C_alloc ?_ _) | (with_reducible refine Kd.C_drewN ?_ _) | (with_reducible refine Kd.C_drew ?_))); (case side2 => exact HC1.out); rintro e w5 ⟨v123, rfl, ho0, hb⟩; refine ⟨_, rfl, ?_⟩; have n0_ := Aside0.mk (Kd.R_lower (Kd.R_newB ho0 (g := gb121) (o := .cells #[.int .u8 0, .int .u64 0, .string (⟨#[]⟩ : ByteArray), .slice none 0 0] 25 (0, 0)) (by (with_reducible repeat (first | refine blk_drewN ?_ _ | refine blk_drew ?_ | refine blk_alloc ?_ _)); exact BK121.out)) (below_size (by repeat (first | (with_reducible first | exact HB.out | apply below_alloc | apply pw_below_drewN | apply below_drew1 | refine below_set ?_ GE121.out) | exact HB.out)))); have n1_ := Aside0.mk (blk_below (g := gb121) (o := .cells #[.int .u8 0, .int .u64 0, .string (⟨#[]⟩ : ByteArray), .slice none 0 0] 25 (0, 0)) (by (with_reducible repeat (first | refine blk_drewN ?_ _ | refine blk_drew ?_ | refine blk_alloc ?_ _)); exact BK121.out) hb); have n2_ := Aside0.mk (below_step (by repeat (first | (with_reducible first | exact HB.out | apply below_alloc | apply pw_below_drewN | apply below_drew1 | refine below_set ?_ GE121.out) | exact HB.out)) hb); clear BK121; clear HB; have HO124 := n0_; have BK121 := n1_; have HB := n2_; clear n0_ n1_ n2_; (try clear hb); (try clear hb2); (try clear hk); (try clear hi); (try clear ho0); obtain ⟨Ao6, co6, eo6⟩ := Kd.R_slice HO124.out; subst eo6; have hcz7_0 : w5.cell? ⟨gb121, 0, none⟩ = some (.int .u8 0) := (blk_cell BK121.out 0).trans rfl; have hcz7_1 : w5.cell? ⟨gb121, 1, none⟩ = some (.int .u64 0) := (blk_cell BK121.out 1).trans rfl; have hcz7_2 : w5.cell? ⟨gb121, 2, none⟩ = some (.string (⟨#[]⟩ : ByteArray)) := (blk_cell BK121.out 2).trans rfl; have hcz7_3 : w5.cell? ⟨gb121, 3, none⟩ = some (.slice none 0 0) := (blk_cell BK121.out 3).trans rfl; have hfz7_0 := blk_frozen BK121.out 0; have hfz7_1 := blk_frozen BK121.out 1; have hfz7_2 := blk_frozen BK121.out 2; have hfz7_3 := blk_frozen BK121.out 3))
 refine bodyPost_ret (results_cell_row rfl _ _ gb121 25 #[.int .u8 a0, .int .u64 0, .string (⟨#[]⟩ : ByteArray), .slice Ao6 t122.length co6] (0, 0) _ rfl (by (with_reducible repeat (first | refine blk_drewN ?_ _ | refine blk_drew ?_ | refine blk_alloc ?_ _)); refine blk_put (cs := #[.int .u8 a0, .int .u64 0, .string (⟨#[]⟩ : ByteArray), .slice none 0 0]) ?_ 3 _ rfl; (with_reducible repeat (first | refine blk_drewN ?_ _ | refine blk_drew ?_ | refine blk_alloc ?_ _)); refine blk_put (cs := #[.int .u8 a0, .int .u64 0, .string (⟨#[]⟩ : ByteArray), .slice none 0 0]) ?_ 2 _ rfl; (with_reducible repeat (first | refine blk_drewN ?_ _ | refine blk_drew ?_ | refine blk_alloc ?_ _)); refine blk_put (cs := #[.int .u8 a0, .int .u64 0, .string (⟨#[]⟩ : ByteArray), .slice none 0 0]) ?_ 1 _ rfl; (with_reducible repeat (first | refine blk_drewN ?_ _ | refine blk_drew ?_ | refine blk_alloc ?_ _)); refine blk_put (cs := #[.int .u8 0, .int .u64 0, .string (⟨#[]⟩ : ByteArray), .slice none 0 0]) ?_ 0 _ rfl; (with_reducible repeat (first | refine blk_drewN ?_ _ | refine blk_drew ?_ | refine blk_alloc ?_ _)); exact BK121.out) Try.underlying25 rfl (by kernel_rfl)) rfl ?_
 exact ⟨_, by first | rfl | (simp [errW_none, errW_some] <;> rfl) | (simp [*, errW_none, errW_some] <;> rfl), by (with_reducible repeat (first | apply Kd.R_alloc | apply Kd.R_drewN | apply Kd.R_drew)); exact Kd.R_mono (Kd.R_far (p := ⟨gb121, 3, none⟩) (Kd.R_far (p := ⟨gb121, 2, none⟩) (Kd.R_far (p := ⟨gb121, 1, none⟩) (Kd.R_far (p := ⟨gb121, 0, none⟩) (Kd.R_mono HO124.out (fun k_ hk => (⟨hk, hk.2⟩ : _ ∧ k_ ≠ gb121))) (fun _ hk => hk.2) (.int .u8 a0)) (fun _ hk => hk.2) (.int .u64 0)) (fun _ hk => hk.2) (.string (⟨#[]⟩ : ByteArray))) (fun _ hk => hk.2) (.slice Ao6 t122.length co6)) (fun _ hk => trivial), by repeat (first | (with_reducible first | exact HB.out | apply below_alloc | apply pw_below_drewN | apply below_drew1 | refine below_set ?_ GE121.out) | exact HB.out)⟩
def bellwetherref04_CopyAll.f (l0 : List (S25)) : Option (List S25) := if itemsL l0 ≤ 4294967296 then some l0 else none
theorem bellwetherref04_CopyAll.calls (A0 : Option Addr) (c0 : Nat) (l0 : List (S25)) (r : List (S25)) (w : World) (hr0 : Kd.C k25 w A0 l0.length l0) (hc0 : l0.length ≤ c0) (h : bellwetherref04_CopyAll.f l0 = some r) :
  Calls Try.prog 20 #[.slice A0 l0.length c0] w fun e w' => ∃ v_ : Value, e = .returned v_ ∧ Kd.R k25 25 w' w.heap.size (fun _ => True) v_ r ∧ Below w.heap.size w w' := by
 unfold bellwetherref04_CopyAll.f at h
 split at h
 ·rename_i hq
  cases h
  exact (copyAll20_any l0 hq A0 c0 w hr0 hc0).mono fun e w' ⟨A', c', he, hm⟩ => ⟨_, he, hm.1, hm.2⟩
 ·cases h
def bellwetherref04_Many.f (a0 : Int) (l1 : List (S25)) : Option (Int × Int × ByteArray × (List (S25))) := (bellwetherref04_CopyAll.f l1).bind fun t126 => (some (a0, 0, (⟨#[]⟩ : ByteArray), t126))
set_option maxHeartbeats 8000000 in
set_option maxRecDepth 100000 in
theorem bellwetherref04_Many.calls (a0 : Int) (A1 : Option Addr) (c1 : Nat) (l1 : List (S25)) (r1 : Int) (r2 : Int) (r3 : ByteArray) (r4 : List (S25)) (w : World) (hr1 : Kd.C k25 w A1 l1.length l1) (hc1 : l1.length ≤ c1) (h : bellwetherref04_Many.f a0 l1 = some (r1, r2, r3, r4)) :
  Calls Try.prog 25 #[.int .u8 a0, .slice A1 l1.length c1] w fun e w' => ∃ v3_ : Value, e = .returned (.agg #[.int .u8 r1, .int .u64 r2, .string r3, v3_]) ∧ Kd.R k25 25 w' w.heap.size (fun _ => True) v3_ r4 ∧ Below w.heap.size w w' := by
 have hu25 := Try.underlying25
 have HR1 := Aside0.mk hr1
 have HC1 := Aside0.mk hc1
 clear hr1 hc1
 have HB := Aside0.mk (Below.refl w.heap.size w)
 have H : ((bellwetherref04_CopyAll.f l1).bind fun t126 => (some (a0, 0, (⟨#[]⟩ : ByteArray), t126))) = some (r1, r2, r3, r4) := h
 clear h
 replace H := Option.bind_eq_some_iff.mp H
 obtain ⟨t126, A30, H⟩ := H
 replace H : (some (a0, 0, (⟨#[]⟩ : ByteArray), t126)) = some (r1, r2, r3, r4) := H
 have A3 := Aside0.mk A30
 clear A30
 simp only [Option.some.injEq, Prod.mk.injEq] at H
 obtain ⟨rfl, rfl, rfl, rfl⟩ := H
 go_enter Try.func25, Try.ntmps25
 go_wp2_with (first | ((with_reducible refine gate_dst (N := 4) rfl ?_); refine box_event ?hg (N := 4) ?hd (cs := #[.int .u8 0, .int .u64 0, .string (⟨#[]⟩ : ByteArray), .slice none 0 0]) (t := 25) ?hr ?_; (case hd => rfl); (case hg => rfl); (case hr => first | (go_simp; done) | (go_simp; rfl)); intro gb125 hg w4 hbox hb; have n0_ := Aside0.mk (below_step (by repeat (first | (with_reducible first | exact HB.out | apply below_alloc | apply pw_below_drewN | apply below_drew1) | exact HB.out)) hb); have n1_ := Aside0.mk (hbox); have n2_ := Aside0.mk ((by rw [hg]; exact (below_size (by repeat (first | (with_reducible first | exact HB.out | apply below_alloc | apply pw_below_drewN | apply below_drew1) | exact HB.out))) : w.heap.size ≤ gb125)); have n3_ := Aside0.mk ((by rw [hg]; exact (below_size (by repeat (first | (with_reducible first | exact HB.out | apply below_alloc | apply pw_below_drewN | apply below_drew1) | exact HB.out))) : w.heap.size ≤ gb125)); clear HB; have HB := n0_; have BK125 := n1_; have GW125 := n2_; have GE125 := n3_; clear n0_ n1_ n2_ n3_; clear hb hbox hg) | ((with_reducible refine gate_callee (f := 20) rfl ?_); refine goesL_ (some 7) rfl rfl Try.func20 (by kernel_rfl) rfl #[.slice A1 l1.length c1] rfl (by (try simp only [List.map_toArray, List.map_cons, List.map_nil]); first | done | rfl | (simp only [List.length_drop, List.length_take]; rfl)) ?_; (with_reducible refine (bellwetherref04_CopyAll.calls _ _ l1 t126 _ ?side1 ?side2 A3.out).mono ?_); (case side1 => repeat (first | exact (Kd.C_below HR1.out HB.out) | (with_reducible refine Kd.C_alloc ?_ _) | (with_reducible refine Kd.C_drewN ?_ _) | (with_reducible refine Kd.C_drew ?_))); (case side2 => exact HC1.out); rintro e w5 ⟨v127, rfl, ho0, hb⟩; refine ⟨_, rfl, ?_⟩; have n0_ := Aside0.mk (Kd.R_lower (Kd.R_newB ho0 (g := gb125) (o := .cells #[.int .u8 0, .int .u64 0, .string (⟨#[]⟩ : ByteArray), .slice none 0 0] 25 (0, 0)) (by (with_reducible repeat (first | refine blk_drewN ?_ _ | refine blk_drew ?_ | refine blk_alloc ?_ _)); exact BK125.out)) (below_size (by repeat (first | (with_reducible first | exact HB.out | apply below_alloc | apply pw_below_drewN | apply below_drew1 | refine below_set ?_ GE125.out) | exact HB.out)))); have n1_ := Aside0.mk (blk_below (g := gb125) (o := .cells #[.int .u8 0, .int .u64 0, .string (⟨#[]⟩ : ByteArray), .slice none 0 0] 25 (0, 0)) (by (with_reducible repeat (first | refine blk_drewN ?_ _ | refine blk_drew ?_ | refine blk_alloc ?_ _)); exact BK125.out) hb); have n2_ := Aside0.mk (below_step (by repeat (first | (with_reducible first | exact HB.out | apply below_alloc | apply pw_below_drewN | apply below_drew1 | refine below_set ?_ GE125.out) | exact HB.out)) hb); clear BK125; clear HB; have HO128 := n0_; have BK125 := n1_; have HB := n2_; clear n0_ n1_ n2_; (try clear hb); (try clear hb2); (try clear hk); (try clear hi); (try clear ho0); obtain ⟨Ao6, co6, eo6⟩ := Kd.R_slice HO128.out; subst eo6; have hcz7_0 : w5.cell? ⟨gb125, 0, none⟩ = some (.int .u8 0) := (blk_cell BK125.out 0).trans rfl; have hcz7_1 : w5.cell? ⟨gb125, 1, none⟩ = some (.int .u64 0) := (blk_cell BK125.out 1).trans rfl; have hcz7_2 : w5.cell? ⟨gb125, 2, none⟩ = some (.string (⟨#[]⟩ : ByteArray)) := (blk_cell BK125.out 2).trans rfl; have hcz7_3 : w5.cell? ⟨gb125, 3, none⟩ = some (.slice none 0 0) := (blk_cell BK125.out 3).trans rfl; have hfz7_0 := blk_frozen BK125.out 0; have hfz7_1 := blk_frozen BK125.out 1; have hfz7_2 := blk_frozen BK125.out 2; have hfz7_3 := blk_frozen BK125.out 3))
 refine bodyPost_ret (results_cell_row rfl _ _ gb125 25 #[.int .u8 a0, .int .u64 0, .string (⟨#[]⟩ : ByteArray), .slice Ao6 t126.length co6] (0, 0) _ rfl (by (with_reducible repeat (first | refine blk_drewN ?_ _ | refine blk_drew ?_ | refine blk_alloc ?_ _)); refine blk_put (cs := #[.int .u8 a0, .int .u64 0, .string (⟨#[]⟩ : ByteArray), .slice none 0 0]) ?_ 3 _ rfl; (with_reducible repeat (first | refine blk_drewN ?_ _ | refine blk_drew ?_ | refine blk_alloc ?_ _)); refine blk_put (cs := #[.int .u8 a0, .int .u64 0, .string (⟨#[]⟩ : ByteArray), .slice none 0 0]) ?_ 2 _ rfl; (with_reducible repeat (first | refine blk_drewN ?_ _ | refine blk_drew ?_ | refine blk_alloc ?_ _)); refine blk_put (cs := #[.int .u8 a0, .int .u64 0, .string (⟨#[]⟩ : ByteArray), .slice none 0 0]) ?_ 1 _ rfl; (with_reducible repeat (first | refine blk_drewN ?_ _ | refine blk_drew ?_ | refine blk_alloc ?_ _)); refine blk_put (cs := #[.int .u8 0, .int .u64 0, .string (⟨#[]⟩ : ByteArray), .slice none 0 0]) ?_ 0 _ rfl; (with_reducible repeat (first | refine blk_drewN ?_ _ | refine blk_drew ?_ | refine blk_alloc ?_ _)); exact BK125.out) Try.underlying25 rfl (by kernel_rfl)) rfl ?_
 exact ⟨_, by first | rfl | (simp [errW_none, errW_some] <;> rfl) | (simp [*, errW_none, errW_some] <;> rfl), by (with_reducible repeat (first | apply Kd.R_alloc | apply Kd.R_drewN | apply Kd.R_drew)); exact Kd.R_mono (Kd.R_far (p := ⟨gb125, 3, none⟩) (Kd.R_far (p := ⟨gb125, 2, none⟩) (Kd.R_far (p := ⟨gb125, 1, none⟩) (Kd.R_far (p := ⟨gb125, 0, none⟩) (Kd.R_mono HO128.out (fun k_ hk => (⟨hk, hk.2⟩ : _ ∧ k_ ≠ gb125))) (fun _ hk => hk.2) (.int .u8 a0)) (fun _ hk => hk.2) (.int .u64 0)) (fun _ hk => hk.2) (.string (⟨#[]⟩ : ByteArray))) (fun _ hk => hk.2) (.slice Ao6 t126.length co6)) (fun _ hk => trivial), by repeat (first | (with_reducible first | exact HB.out | apply below_alloc | apply pw_below_drewN | apply below_drew1 | refine below_set ?_ GE125.out) | exact HB.out)⟩
end Go.Proofs.Ytdilbnggedidnaa.PVal
namespace Go.Proofs.Ytdilbnggedidnaa.PVal
open Go.RowKit Go.Shelf Go.Proofs.YtdilbnggedidnaaW.PrintWords Go.Proofs.YtdilbnggedidnaaW.PrintLast
set_option linter.unusedVariables false
set_option linter.unusedSimpArgs false
def KV.cells (q : KV) : List Value := [.int .u8 q.x.f0, .int .u64 q.x.f1, .string q.x.f2, .slice q.A q.x.f3.length q.c]
def flatK : List KV → List Value
 | [] => []
 | q :: l => q.cells ++ flatK l
theorem flatK_get : ∀ (l : List KV) (j : Nat) (q : KV), l[j]? = some q → ∀ i, i < 4 → (flatK l)[j * 4 + i]? = q.cells[i]?
 | [], j, q, h, i, hi => by simp at h
 | p :: l, 0, q, h, i, hi => by
  obtain rfl : p = q := by simpa using h
  rw [flatK, Nat.zero_mul, Nat.zero_add, List.getElem?_append_left (by simpa [KV.cells] using hi)]
 | p :: l, j + 1, q, h, i, hi => by
  rw [flatK, List.getElem?_append_right (by simp [KV.cells]; omega)]
  have := flatK_get l j q (by simpa using h) i hi
  rw [← this]
  congr 1
  simp [KV.cells]; omega
theorem C_lit {W : World} {b : Nat} {ks : List KV} (hb : Blk W b (flatK ks).toArray 25) (hn : ks.length ≤ 9223372036854775807) (hok : ∀ q ∈ ks, q.ok W) : k25.C W (some ⟨b, 0, none⟩) ks.length (ks.map (·.x)) := by
 refine ⟨by simp, hn, fun _ => ⟨_, rfl, fun j p hj => ?_⟩⟩
 rw [List.getElem?_map] at hj
 obtain ⟨q, hq, rfl⟩ := Option.map_eq_some_iff.1 hj
 have hk := hok q (List.mem_of_getElem? hq)
 refine ⟨q.cells, rfl, k25_mk W q.x hk.2 hk.1, fun i u hi => ?_⟩
 have hi4 : i < 4 := by
  have := (List.getElem?_eq_some_iff.1 hi).1
  simpa [KV.cells] using this
 have := flatK_get ks j q hq i hi4
 show W.cell? ((⟨b, 0, none⟩ : Addr).add (j * 4 + i)) = some u
 rw [show (⟨b, 0, none⟩ : Addr).add (j * 4 + i) = ⟨b, j * 4 + i, none⟩ by unfold Addr.add; split <;> simp_all]
 refine (blk_cell hb _).trans ?_
 simpa [this] using hi
theorem many21_any (k : Int) (l : List S25) (hs : itemsL l ≤ 4294967296) (A : Option Addr) (c : Nat) (w : World) (ha : k25.C w A l.length l) (hc : l.length ≤ c) :
  Calls Try.prog 21 #[.int .u8 k, .slice A l.length c] w fun e w' => ∃ v3_ : Value, e = .returned (.agg #[.int .u8 k, .int .u64 0, .string ⟨#[]⟩, v3_]) ∧ k25.R 25 w' w.heap.size (fun _ => True) v3_ l ∧ Below w.heap.size w w' :=
 value_Many.calls k A c l k 0 ⟨#[]⟩ l w ha hc (by unfold value_Many.f value_copies.f; rw [if_pos hs]; rfl)
theorem rmany25_any (k : Int) (l : List S25) (hs : itemsL l ≤ 4294967296) (A : Option Addr) (c : Nat) (w : World) (ha : k25.C w A l.length l) (hc : l.length ≤ c) :
  Calls Try.prog 25 #[.int .u8 k, .slice A l.length c] w fun e w' => ∃ v3_ : Value, e = .returned (.agg #[.int .u8 k, .int .u64 0, .string ⟨#[]⟩, v3_]) ∧ k25.R 25 w' w.heap.size (fun _ => True) v3_ l ∧ Below w.heap.size w w' :=
 bellwetherref04_Many.calls k A c l k 0 ⟨#[]⟩ l w ha hc (by unfold bellwetherref04_Many.f bellwetherref04_CopyAll.f; rw [if_pos hs]; rfl)
set_option maxRecDepth 100000 in
set_option maxHeartbeats 2000000 in
theorem desc28_any (x y : S25) (hs : itemsN x + itemsN y ≤ 4294967296) (A B : Option Addr) (c d : Nat) (w : World) (ha : k25.C w A x.f3.length x.f3) (hc : x.f3.length ≤ c) (hb : k25.C w B y.f3.length y.f3) (hd : y.f3.length ≤ d) :
  Calls Try.prog 28 #[.agg #[.int .u8 x.f0, .int .u64 x.f1, .string x.f2, .slice A x.f3.length c], .agg #[.int .u8 y.f0, .int .u64 y.f1, .string y.f2, .slice B y.f3.length d]] w fun e w' => ∃ v3_ : Value, e = .returned (.agg #[.int .u8 25, .int .u64 0, .string ⟨#[]⟩, v3_]) ∧ k25.R 25 w' w.heap.size (fun _ => True) v3_ [x, y] ∧ Below w.heap.size w w' := by
 have HA := Aside0.mk ha
 have HB := Aside0.mk hb
 clear ha hb
 go_enter Try.func28, Try.ntmps28
 go_wp2_with fail
 have bR : Blk ((((w.alloc (.cells #[.int .u8 x.f0, .int .u64 x.f1, .string x.f2, .slice A x.f3.length c] 25)).alloc (.cells #[.int .u8 y.f0, .int .u64 y.f1, .string y.f2, .slice B y.f3.length d] 25)).alloc (.cells #[.int .u8 0, .int .u64 0, .string ⟨#[]⟩, .slice none 0 0] 25)).alloc (.cells #[.int .u8 x.f0, .int .u64 x.f1, .string x.f2, .slice A x.f3.length c, .int .u8 y.f0, .int .u64 y.f1, .string y.f2, .slice B y.f3.length d] 25)) (w.heap.size + 1 + 1) #[.int .u8 0, .int .u64 0, .string ⟨#[]⟩, .slice none 0 0] 25 := by
  have := (Blk.new ((w.alloc (.cells #[.int .u8 x.f0, .int .u64 x.f1, .string x.f2, .slice A x.f3.length c] 25)).alloc (.cells #[.int .u8 y.f0, .int .u64 y.f1, .string y.f2, .slice B y.f3.length d] 25)) #[.int .u8 0, .int .u64 0, .string ⟨#[]⟩, .slice none 0 0] 25).alloc (.cells #[.int .u8 x.f0, .int .u64 x.f1, .string x.f2, .slice A x.f3.length c, .int .u8 y.f0, .int .u64 y.f1, .string y.f2, .slice B y.f3.length d] 25); simpa using this
 have bL : Blk ((((w.alloc (.cells #[.int .u8 x.f0, .int .u64 x.f1, .string x.f2, .slice A x.f3.length c] 25)).alloc (.cells #[.int .u8 y.f0, .int .u64 y.f1, .string y.f2, .slice B y.f3.length d] 25)).alloc (.cells #[.int .u8 0, .int .u64 0, .string ⟨#[]⟩, .slice none 0 0] 25)).alloc (.cells #[.int .u8 x.f0, .int .u64 x.f1, .string x.f2, .slice A x.f3.length c, .int .u8 y.f0, .int .u64 y.f1, .string y.f2, .slice B y.f3.length d] 25)) (w.heap.size + 1 + 1 + 1) (flatK [⟨x, A, c⟩, ⟨y, B, d⟩]).toArray 25 := by
  have := Blk.new (((w.alloc (.cells #[.int .u8 x.f0, .int .u64 x.f1, .string x.f2, .slice A x.f3.length c] 25)).alloc (.cells #[.int .u8 y.f0, .int .u64 y.f1, .string y.f2, .slice B y.f3.length d] 25)).alloc (.cells #[.int .u8 0, .int .u64 0, .string ⟨#[]⟩, .slice none 0 0] 25)) #[.int .u8 x.f0, .int .u64 x.f1, .string x.f2, .slice A x.f3.length c, .int .u8 y.f0, .int .u64 y.f1, .string y.f2, .slice B y.f3.length d] 25; simpa [flatK, KV.cells] using this
 have hB0 : Below w.heap.size w ((((w.alloc (.cells #[.int .u8 x.f0, .int .u64 x.f1, .string x.f2, .slice A x.f3.length c] 25)).alloc (.cells #[.int .u8 y.f0, .int .u64 y.f1, .string y.f2, .slice B y.f3.length d] 25)).alloc (.cells #[.int .u8 0, .int .u64 0, .string ⟨#[]⟩, .slice none 0 0] 25)).alloc (.cells #[.int .u8 x.f0, .int .u64 x.f1, .string x.f2, .slice A x.f3.length c, .int .u8 y.f0, .int .u64 y.f1, .string y.f2, .slice B y.f3.length d] 25)) := below_alloc (below_alloc (below_alloc (below_alloc (Below.refl _ _) _) _) _) _
 have hz : ((((w.alloc (.cells #[.int .u8 x.f0, .int .u64 x.f1, .string x.f2, .slice A x.f3.length c] 25)).alloc (.cells #[.int .u8 y.f0, .int .u64 y.f1, .string y.f2, .slice B y.f3.length d] 25)).alloc (.cells #[.int .u8 0, .int .u64 0, .string ⟨#[]⟩, .slice none 0 0] 25)).alloc (.cells #[.int .u8 x.f0, .int .u64 x.f1, .string x.f2, .slice A x.f3.length c, .int .u8 y.f0, .int .u64 y.f1, .string y.f2, .slice B y.f3.length d] 25)).heap.size = w.heap.size + 4 := by simp
 obtain ⟨W0, hW0⟩ : ∃ W0, ((((w.alloc (.cells #[.int .u8 x.f0, .int .u64 x.f1, .string x.f2, .slice A x.f3.length c] 25)).alloc (.cells #[.int .u8 y.f0, .int .u64 y.f1, .string y.f2, .slice B y.f3.length d] 25)).alloc (.cells #[.int .u8 0, .int .u64 0, .string ⟨#[]⟩, .slice none 0 0] 25)).alloc (.cells #[.int .u8 x.f0, .int .u64 x.f1, .string x.f2, .slice A x.f3.length c, .int .u8 y.f0, .int .u64 y.f1, .string y.f2, .slice B y.f3.length d] 25)) = W0 := ⟨_, rfl⟩
 rw [hW0] at bR bL hB0 hz ⊢
 clear hW0
 have hC := C_lit bL (by simp) (by
  intro q hq
  simp only [List.mem_cons, List.not_mem_nil, or_false] at hq
  rcases hq with rfl | rfl
  ·exact ⟨Kd.C_below HA.out hB0, hc⟩
  ·exact ⟨Kd.C_below HB.out hB0, hd⟩)
 refine (many21_any 25 [x, y] (by simpa [itemsL] using hs) _ 2 W0 hC (by simp)).mono ?_
 rintro e w5 ⟨v3, rfl, hR, hb5⟩
 have HR := Aside0.mk hR
 obtain ⟨A5, c5, rfl⟩ := Kd.R_slice hR
 have bR5 := bR.below hb5
 have HB5 := Aside0.mk (below_step hB0 hb5)
 have HZ := Aside0.mk (⟨hz, hb5.size⟩ : _ ∧ _)
 obtain ⟨q0, q1, q2, q3⟩ := bR5.c4
 have fz := bR5.fz
 clear hR hC bL hb5 hB0
 go_wp2_with fail
 have hz1 := HZ.out.1
 have hz2 := HZ.out.2
 refine bodyPost_ret (results_cell_row rfl _ _ (w.heap.size + 1 + 1) 25 #[.int .u8 25, .int .u64 0, .string ⟨#[]⟩, .slice A5 2 c5] (0, 0) _ rfl (by
  refine blk_put (cs := #[.int .u8 25, .int .u64 0, .string ⟨#[]⟩, .slice none 0 0]) ?_ 3 _ rfl
  refine blk_put (cs := #[.int .u8 25, .int .u64 0, .string ⟨#[]⟩, .slice none 0 0]) ?_ 2 _ rfl
  refine blk_put (cs := #[.int .u8 25, .int .u64 0, .string ⟨#[]⟩, .slice none 0 0]) ?_ 1 _ rfl
  refine blk_put (cs := #[.int .u8 0, .int .u64 0, .string ⟨#[]⟩, .slice none 0 0]) ?_ 0 _ rfl
  exact bR5) Try.underlying25 rfl (by kernel_rfl)) rfl ?_
 refine ⟨.slice A5 2 c5, rfl, ?_, ?_⟩
 ·refine R_lower_far HR.out (by omega) ?_
  exact ((((SetsBelow.nil).snoc (show w.heap.size + 1 + 1 < _ by omega) _).snoc (show w.heap.size + 1 + 1 < _ by omega) _).snoc (show w.heap.size + 1 + 1 < _ by omega) _).snoc (show w.heap.size + 1 + 1 < _ by omega) _
 ·exact below_set (below_set (below_set (below_set HB5.out (by omega)) (by omega)) (by omega)) (by omega)
end Go.Proofs.Ytdilbnggedidnaa.PVal
namespace Go.Proofs.Ytdilbnggedidnaa.PVal
open Go.RowKit Go.Shelf Go.Proofs.YtdilbnggedidnaaW.PrintWords Go.Proofs.YtdilbnggedidnaaW.PrintLast
set_option linter.unusedVariables false
set_option linter.unusedSimpArgs false
theorem R_two {x y : S25} {A5 A6 : Option Addr} {c5 c6 base : Nat} {w : World} (hb : base ≤ w.heap.size) (hx : k25.R 25 w base (fun _ => True) (.slice A5 x.f3.length c5) x.f3) (hy : k25.R 25 w base (fun _ => True) (.slice A6 y.f3.length c6) y.f3) :
  k25.R 25 (w.alloc (.cells #[.int .u8 x.f0, .int .u64 x.f1, .string x.f2, .slice A5 x.f3.length c5, .int .u8 y.f0, .int .u64 y.f1, .string y.f2, .slice A6 y.f3.length c6] 25)) base (fun _ => True) (.slice (some ⟨w.heap.size, 0, none⟩) 2 2) [x, y] := by
 have hm : ∀ (q : S25) (v : Value), k25.R 25 w base (fun _ => True) v q.f3 → k25.M (w.alloc (.cells #[.int .u8 x.f0, .int .u64 x.f1, .string x.f2, .slice A5 x.f3.length c5, .int .u8 y.f0, .int .u64 y.f1, .string y.f2, .slice A6 y.f3.length c6] 25)) base (fun k => True ∧ some k ≠ (Value.slice (some ⟨w.heap.size, 0, none⟩) 2 2).ownBlock) q [.int .u8 q.f0, .int .u64 q.f1, .string q.f2, v] := fun q v h =>
  k25_mkM _ base _ q (Kd.R_alloc (Kd.R_mono (Kd.R_bound h) (fun k hk => ⟨trivial, fun e => by
   have h1 := hk.2.2.1
   have : k = w.heap.size := by simpa [Value.ownBlock] using e
   omega⟩)) _)
 refine ⟨fun _ _ => trivial, ?_⟩
 refine OwnRow.lit (ps := [x, y]) w base (inner := [.int .u8 x.f0, .int .u64 x.f1, .string x.f2, .slice A5 x.f3.length c5, .int .u8 y.f0, .int .u64 y.f1, .string y.f2, .slice A6 y.f3.length c6]) ⟨rfl, fun j p hj => ?_⟩ hb (by simp)
 match j, hj with
 | 0, hj => cases hj; exact hm x _ hx
 | 1, hj => cases hj; exact hm y _ hy
 | j + 2, hj => simp at hj
set_option maxRecDepth 100000 in
set_option maxHeartbeats 4000000 in
theorem rdesc29_any (x y : S25) (hx : itemsN x ≤ 4294967296) (hy : itemsN y ≤ 4294967296) (A B : Option Addr) (c d : Nat) (w : World) (ha : k25.C w A x.f3.length x.f3) (hc : x.f3.length ≤ c) (hb : k25.C w B y.f3.length y.f3) (hd : y.f3.length ≤ d) :
  Calls Try.prog 29 #[.agg #[.int .u8 x.f0, .int .u64 x.f1, .string x.f2, .slice A x.f3.length c], .agg #[.int .u8 y.f0, .int .u64 y.f1, .string y.f2, .slice B y.f3.length d]] w fun e w' => ∃ v3_ : Value, e = .returned (.agg #[.int .u8 25, .int .u64 0, .string ⟨#[]⟩, v3_]) ∧ k25.R 25 w' w.heap.size (fun _ => True) v3_ [x, y] ∧ Below w.heap.size w w' := by
 have HA := Aside0.mk ha
 have HB := Aside0.mk hb
 have HX := Aside0.mk hx
 have HY := Aside0.mk hy
 clear ha hb hx hy
 go_enter Try.func29, Try.ntmps29
 go_wp2_with fail
 have bX : Blk (((w.alloc (.cells #[.int .u8 x.f0, .int .u64 x.f1, .string x.f2, .slice A x.f3.length c] 25)).alloc (.cells #[.int .u8 y.f0, .int .u64 y.f1, .string y.f2, .slice B y.f3.length d] 25)).alloc (.cells #[.int .u8 0, .int .u64 0, .string ⟨#[]⟩, .slice none 0 0] 25)) w.heap.size #[.int .u8 x.f0, .int .u64 x.f1, .string x.f2, .slice A x.f3.length c] 25 := ((Blk.new w #[.int .u8 x.f0, .int .u64 x.f1, .string x.f2, .slice A x.f3.length c] 25).alloc _).alloc _
 have bY : Blk (((w.alloc (.cells #[.int .u8 x.f0, .int .u64 x.f1, .string x.f2, .slice A x.f3.length c] 25)).alloc (.cells #[.int .u8 y.f0, .int .u64 y.f1, .string y.f2, .slice B y.f3.length d] 25)).alloc (.cells #[.int .u8 0, .int .u64 0, .string ⟨#[]⟩, .slice none 0 0] 25)) (w.heap.size + 1) #[.int .u8 y.f0, .int .u64 y.f1, .string y.f2, .slice B y.f3.length d] 25 := by
  have := (Blk.new (w.alloc (.cells #[.int .u8 x.f0, .int .u64 x.f1, .string x.f2, .slice A x.f3.length c] 25)) #[.int .u8 y.f0, .int .u64 y.f1, .string y.f2, .slice B y.f3.length d] 25).alloc (.cells #[.int .u8 0, .int .u64 0, .string ⟨#[]⟩, .slice none 0 0] 25); simpa using this
 have bR : Blk (((w.alloc (.cells #[.int .u8 x.f0, .int .u64 x.f1, .string x.f2, .slice A x.f3.length c] 25)).alloc (.cells #[.int .u8 y.f0, .int .u64 y.f1, .string y.f2, .slice B y.f3.length d] 25)).alloc (.cells #[.int .u8 0, .int .u64 0, .string ⟨#[]⟩, .slice none 0 0] 25)) (w.heap.size + 1 + 1) #[.int .u8 0, .int .u64 0, .string ⟨#[]⟩, .slice none 0 0] 25 := by
  have := Blk.new ((w.alloc (.cells #[.int .u8 x.f0, .int .u64 x.f1, .string x.f2, .slice A x.f3.length c] 25)).alloc (.cells #[.int .u8 y.f0, .int .u64 y.f1, .string y.f2, .slice B y.f3.length d] 25)) #[.int .u8 0, .int .u64 0, .string ⟨#[]⟩, .slice none 0 0] 25; simpa using this
 have hB0 : Below w.heap.size w (((w.alloc (.cells #[.int .u8 x.f0, .int .u64 x.f1, .string x.f2, .slice A x.f3.length c] 25)).alloc (.cells #[.int .u8 y.f0, .int .u64 y.f1, .string y.f2, .slice B y.f3.length d] 25)).alloc (.cells #[.int .u8 0, .int .u64 0, .string ⟨#[]⟩, .slice none 0 0] 25)) := below_alloc (below_alloc (below_alloc (Below.refl _ _) _) _) _
 have hz : (((w.alloc (.cells #[.int .u8 x.f0, .int .u64 x.f1, .string x.f2, .slice A x.f3.length c] 25)).alloc (.cells #[.int .u8 y.f0, .int .u64 y.f1, .string y.f2, .slice B y.f3.length d] 25)).alloc (.cells #[.int .u8 0, .int .u64 0, .string ⟨#[]⟩, .slice none 0 0] 25)).heap.size = w.heap.size + 3 := by simp
 obtain ⟨W0, hW0⟩ : ∃ W0, (((w.alloc (.cells #[.int .u8 x.f0, .int .u64 x.f1, .string x.f2, .slice A x.f3.length c] 25)).alloc (.cells #[.int .u8 y.f0, .int .u64 y.f1, .string y.f2, .slice B y.f3.length d] 25)).alloc (.cells #[.int .u8 0, .int .u64 0, .string ⟨#[]⟩, .slice none 0 0] 25)) = W0 := ⟨_, rfl⟩
 rw [hW0] at bX bY bR hB0 hz ⊢
 clear hW0
 refine start_ (n := 7) (S := fun w' => w'.cell? ⟨w.heap.size, 0, none⟩ = some (.int .u8 x.f0) ∧ w'.cell? ⟨w.heap.size, 1, none⟩ = some (.int .u64 x.f1) ∧ w'.cell? ⟨w.heap.size, 2, none⟩ = some (.string x.f2) ∧ w'.cell? ⟨w.heap.size, 3, none⟩ = some (.slice A x.f3.length c) ∧ w'.cell? ⟨w.heap.size + 1, 0, none⟩ = some (.int .u8 y.f0) ∧ w'.cell? ⟨w.heap.size + 1, 1, none⟩ = some (.int .u64 y.f1) ∧ w'.cell? ⟨w.heap.size + 1, 2, none⟩ = some (.string y.f2) ∧ w'.cell? ⟨w.heap.size + 1, 3, none⟩ = some (.slice B y.f3.length d)) (ds := [6]) #[false, false, false, false, false, false, false] (by kernel_rfl) rfl rfl ⟨bX.c4.1, bX.c4.2.1, bX.c4.2.2.1, bX.c4.2.2.2, bY.c4.1, bY.c4.2.1, bY.c4.2.2.1, bY.c4.2.2.2⟩ (fun hS => ?_)
 have bX : Blk W0.drew w.heap.size #[.int .u8 x.f0, .int .u64 x.f1, .string x.f2, .slice A x.f3.length c] 25 := bX
 have bY : Blk W0.drew (w.heap.size + 1) #[.int .u8 y.f0, .int .u64 y.f1, .string y.f2, .slice B y.f3.length d] 25 := bY
 have bR : Blk W0.drew (w.heap.size + 1 + 1) #[.int .u8 0, .int .u64 0, .string ⟨#[]⟩, .slice none 0 0] 25 := bR
 have hB0 : Below w.heap.size w W0.drew := below_drew hB0
 have hz : W0.drew.heap.size = w.heap.size + 3 := hz
 generalize W0.drew = W1 at bX bY bR hB0 hz hS ⊢
 refine take_ (i := 0) (N := some 5) (v := .agg #[.int .u8 x.f0, .int .u64 x.f1, .string x.f2, .slice A x.f3.length c]) #[true, false, false, false, false, false, false] rfl rfl (by kernel_rfl) (fun _ _ _ h => h) (Or.inl ⟨by rfl, ?_⟩) hS rfl ?_
 ·rintro w' ⟨e0, e1, e2, e3, e4, e5, e6, e7⟩
  go_simp
 refine take_ (i := 2) (N := some 7) (v := .agg #[.int .u8 y.f0, .int .u64 y.f1, .string y.f2, .slice B y.f3.length d]) #[true, false, true, false, false, false, false] rfl rfl (by kernel_rfl) (fun _ _ _ h => h) (Or.inl ⟨by rfl, ?_⟩) hS rfl ?_
 ·rintro w' ⟨e0, e1, e2, e3, e4, e5, e6, e7⟩
  go_simp
 refine norm_ (a' := ?_) ?_ ?_
 rotate_left
 ·try simp only [Act.put, putAll, List.setIfInBounds_toArray, List.set_cons_zero, List.set_cons_succ]
  rfl
 refine one_ (i := 1) (N := some 6) #[true, true, true, false, false, false, false] rfl rfl (by kernel_rfl) (by decide) (fun K hK => ?_)
 refine goes_ Try.func16 (by kernel_rfl) rfl #[.agg #[.int .u8 x.f0, .int .u64 x.f1, .string x.f2, .slice A x.f3.length c]] (by rfl) rfl rfl (by first | rfl | (simp; rfl)) ?_
 refine (copy16_any x HX.out A c _ (Kd.C_below HA.out hB0) hc).mono ?_
 rintro e w5 ⟨A5, c5, rfl, hm⟩
 refine ⟨_, rfl, ?_⟩
 have bX5 := bX.below hm.2
 have bY5 := bY.below hm.2
 refine hK.out _ _ ⟨bX5.c4.1, bX5.c4.2.1, bX5.c4.2.2.1, bX5.c4.2.2.2, bY5.c4.1, bY5.c4.2.1, bY5.c4.2.2.1, bY5.c4.2.2.2⟩ (fun _ => ?_)
 clear hK K
 refine norm_ (a' := ?_) ?_ ?_
 rotate_left
 ·try simp only [Act.put, putAll, List.setIfInBounds_toArray, List.set_cons_zero, List.set_cons_succ]
  rfl
 refine one_ (i := 3) (N := some 8) #[true, true, true, true, false, false, false] rfl rfl (by kernel_rfl) (by decide) (fun K hK => ?_)
 refine goes_ Try.func16 (by kernel_rfl) rfl #[.agg #[.int .u8 y.f0, .int .u64 y.f1, .string y.f2, .slice B y.f3.length d]] (by rfl) rfl rfl (by first | rfl | (simp; rfl)) ?_
 refine (copy16_any y HY.out B d _ (Kd.C_below HB.out (below_step hB0 hm.2)) hd).mono ?_
 rintro e w6 ⟨A6, c6, rfl, hm6⟩
 refine ⟨_, rfl, ?_⟩
 have bX6 := bX5.below hm6.2
 have bY6 := bY5.below hm6.2
 refine hK.out _ _ ⟨bX6.c4.1, bX6.c4.2.1, bX6.c4.2.2.1, bX6.c4.2.2.2, bY6.c4.1, bY6.c4.2.1, bY6.c4.2.2.1, bY6.c4.2.2.2⟩ (fun _ => ?_)
 clear hK K
 refine norm_ (a' := ?_) ?_ ?_
 rotate_left
 ·try simp only [Act.put, putAll, List.setIfInBounds_toArray, List.set_cons_zero, List.set_cons_succ]
  rfl
 refine one_ (i := 4) (N := some 9) #[true, true, true, true, true, false, false] rfl rfl (by kernel_rfl) (by decide) (fun K hK => ?_)
 rw [if_pos (by rfl)]
 unfold Oper.wp
 go_simp
 have hsz5 := hm.2.size
 have hsz6 := hm6.2.size
 have bR6 := (bR.below hm.2).below hm6.2
 have hRx : k25.R 25 w6 (w.heap.size + 3) (fun _ => True) (.slice A5 x.f3.length c5) x.f3 := Kd.R_lower (Kd.R_below hm.1 hm6.2) (by omega)
 have hRy : k25.R 25 w6 (w.heap.size + 3) (fun _ => True) (.slice A6 y.f3.length c6) y.f3 := Kd.R_lower hm6.1 (by omega)
 have HR := Aside0.mk (R_two (w := w6) (base := w.heap.size + 3) (by omega) hRx hRy)
 have HB7 := Aside0.mk (below_step (below_step hB0 hm.2) hm6.2)
 have bX7 := bX6.alloc (.cells #[.int .u8 x.f0, .int .u64 x.f1, .string x.f2, .slice A5 x.f3.length c5, .int .u8 y.f0, .int .u64 y.f1, .string y.f2, .slice A6 y.f3.length c6] 25)
 have bY7 := bY6.alloc (.cells #[.int .u8 x.f0, .int .u64 x.f1, .string x.f2, .slice A5 x.f3.length c5, .int .u8 y.f0, .int .u64 y.f1, .string y.f2, .slice A6 y.f3.length c6] 25)
 have bR7 := bR6.alloc (.cells #[.int .u8 x.f0, .int .u64 x.f1, .string x.f2, .slice A5 x.f3.length c5, .int .u8 y.f0, .int .u64 y.f1, .string y.f2, .slice A6 y.f3.length c6] 25)
 refine hK.out _ _ ⟨bX7.c4.1, bX7.c4.2.1, bX7.c4.2.2.1, bX7.c4.2.2.2, bY7.c4.1, bY7.c4.2.1, bY7.c4.2.2.1, bY7.c4.2.2.2⟩ (fun _ => ?_)
 clear hK K
 refine norm_ (a' := ?_) ?_ ?_
 rotate_left
 ·try simp only [Act.put, putAll, List.setIfInBounds_toArray, List.set_cons_zero, List.set_cons_succ]
  rfl
 refine pure_ (i := 5) (N := some 10) (v := .agg #[.int .u8 25, .int .u64 0, .string ⟨#[]⟩, .slice (some ⟨w6.heap.size, 0, none⟩) 2 2]) #[true, true, true, true, true, true, false] rfl rfl (by kernel_rfl) (fun _ _ _ h => h) (Or.inl ⟨by rfl, ?_⟩) rfl ?_
 ·intro w'
  go_simp
 refine norm_ (a' := ?_) ?_ ?_
 rotate_left
 ·try simp only [Act.put, putAll, List.setIfInBounds_toArray, List.set_cons_zero, List.set_cons_succ]
  rfl
 refine last_ (i := 6) (N := none) #[true, true, true, true, true, true, true] rfl rfl (by kernel_rfl) (by decide) (fun K hK => ?_)
 rw [if_pos (by rfl)]
 obtain ⟨q0, q1, q2, q3⟩ := bR7.c4
 have fz := bR7.fz
 have hsz : (w6.alloc (.cells #[.int .u8 x.f0, .int .u64 x.f1, .string x.f2, .slice A5 x.f3.length c5, .int .u8 y.f0, .int .u64 y.f1, .string y.f2, .slice A6 y.f3.length c6] 25)).heap.size = w6.heap.size + 1 := by simp
 have HB8 := Aside0.mk (below_alloc HB7.out (.cells #[.int .u8 x.f0, .int .u64 x.f1, .string x.f2, .slice A5 x.f3.length c5, .int .u8 y.f0, .int .u64 y.f1, .string y.f2, .slice A6 y.f3.length c6] 25))
 obtain ⟨W7, hW7⟩ : ∃ W7, w6.alloc (.cells #[.int .u8 x.f0, .int .u64 x.f1, .string x.f2, .slice A5 x.f3.length c5, .int .u8 y.f0, .int .u64 y.f1, .string y.f2, .slice A6 y.f3.length c6] 25) = W7 := ⟨_, rfl⟩
 rw [hW7] at q0 q1 q2 q3 fz bR7 HR HB8 hsz ⊢
 clear hW7
 unfold Oper.wp
 go_simp
 refine hK.out _ _ ?_
 refine done_ (by kernel_rfl) ?_
 go_wp2_with fail
 refine bodyPost_ret (results_cell_row rfl _ _ (w.heap.size + 1 + 1) 25 #[.int .u8 25, .int .u64 0, .string ⟨#[]⟩, .slice (some ⟨w6.heap.size, 0, none⟩) 2 2] (0, 0) _ rfl (by
  refine blk_put (cs := #[.int .u8 25, .int .u64 0, .string ⟨#[]⟩, .slice none 0 0]) ?_ 3 _ rfl
  refine blk_put (cs := #[.int .u8 25, .int .u64 0, .string ⟨#[]⟩, .slice none 0 0]) ?_ 2 _ rfl
  refine blk_put (cs := #[.int .u8 25, .int .u64 0, .string ⟨#[]⟩, .slice none 0 0]) ?_ 1 _ rfl
  refine blk_put (cs := #[.int .u8 0, .int .u64 0, .string ⟨#[]⟩, .slice none 0 0]) ?_ 0 _ rfl
  exact bR7) Try.underlying25 rfl (by kernel_rfl)) rfl ?_
 refine ⟨.slice (some ⟨w6.heap.size, 0, none⟩) 2 2, rfl, ?_, ?_⟩
 ·refine R_lower_far HR.out (by omega) ?_
  exact ((((SetsBelow.nil).snoc (show w.heap.size + 1 + 1 < _ by omega) _).snoc (show w.heap.size + 1 + 1 < _ by omega) _).snoc (show w.heap.size + 1 + 1 < _ by omega) _).snoc (show w.heap.size + 1 + 1 < _ by omega) _
 ·exact below_set (below_set (below_set (below_set HB8.out (by omega)) (by omega)) (by omega)) (by omega)
end Go.Proofs.Ytdilbnggedidnaa.PVal
namespace Go.Proofs.Ytdilbnggedidnaa.PVal
open Go.RowKit
set_option linter.unusedVariables false
set_option linter.unusedSimpArgs false
def Evt {α : Type} (g : Nat → Option α) (r : α) : Prop := ∃ k0, ∀ k, k0 ≤ k → g k = some r
theorem Evt.step {α : Type} {f b : Nat → Option α} {r : α} (h : Evt b r) (hf : ∀ k, f (k + 1) = b k) : Evt f r := by
 obtain ⟨k0, h⟩ := h
 refine ⟨k0 + 1, fun k hk => ?_⟩
 obtain ⟨k, rfl⟩ : ∃ j, k = j + 1 := ⟨k - 1, by omega⟩
 rw [hf]; exact h k (by omega)
theorem Evt.bind {α β : Type} {g : Nat → Option α} {h : Nat → α → Option β} {a : α} {r : β} (hg : Evt g a) (hh : Evt (fun k => h k a) r) : Evt (fun k => (g k).bind (h k)) r := by
 obtain ⟨k0, h0⟩ := hg
 obtain ⟨k1, h1⟩ := hh
 refine ⟨max k0 k1, fun k hk => ?_⟩
 show (g k).bind (h k) = some r
 rw [h0 k (by omega)]; exact h1 k (by omega)
theorem Evt.congr {α : Type} {f g : Nat → Option α} {r : α} (h : Evt g r) (he : ∀ k, f k = g k) : Evt f r := h.imp fun k0 h0 k hk => (he k).trans (h0 k hk)
end Go.Proofs.Ytdilbnggedidnaa.PVal
namespace Go.Proofs.Ytdilbnggedidnaa.PVal
open Go.RowKit Go.Proofs.YtdilbnggedidnaaW.PrintWords Go.Proofs.YtdilbnggedidnaaW.PrintLast
set_option linter.unusedVariables false
set_option linter.unusedSimpArgs false
theorem S25.eta' (x : S25) : (⟨x.f0, x.f1, x.f2, x.f3⟩ : S25) = x := by cases x; rfl
def rightB (x : S25) : Bool := (decide (depthN x ≤ 16) && decide (itemsN x ≤ 1024)) && mayB x
theorem right17_any (x : S25) (hs : itemsN x ≤ 4294967296) (ho : okV x) (A : Option Addr) (c : Nat) (w : World) (ha : k25.C w A x.f3.length x.f3) (hc : x.f3.length ≤ c) :
  Calls Try.prog 17 #[.agg #[.int .u8 x.f0, .int .u64 x.f1, .string x.f2, .slice A x.f3.length c]] w fun e w' => e = .returned (.bool (rightB x)) ∧ Below w.heap.size w w' := by
 refine value_Right.calls x.f0 x.f1 x.f2 A c x.f3 _ w ha hc ?_
 unfold value_Right.f value_Depth.f value_Items.f value_may.f rightB
 rw [S25.eta', if_pos hs]
 show (if (depthN x : Int) ≤ 16 then _ else _) = _
 by_cases h1 : depthN x ≤ 16
 ·rw [if_pos (by omega), if_pos hs, decide_eq_true h1]
  show (if (itemsN x : Int) ≤ 1024 then _ else _) = _
  by_cases h2 : itemsN x ≤ 1024
  ·rw [if_pos (by omega), if_pos ⟨hs, okVb_iff.2 ho⟩, decide_eq_true h2]; rfl
  ·rw [if_neg (by omega), decide_eq_false h2]; rfl
 ·rw [if_neg (by omega), decide_eq_false h1]; rfl
end Go.Proofs.Ytdilbnggedidnaa.PVal
namespace Go.Proofs.Ytdilbnggedidnaa.PVal
open Go.RowKit Go.Proofs.YtdilbnggedidnaaW.PrintWords Go.Proofs.YtdilbnggedidnaaW.PrintLast
set_option linter.unusedVariables false
set_option linter.unusedSimpArgs false
structure Tn (ok : Nat → Prop) (w w' : World) : Prop where
 os : w'.os = w.os
 tape : w'.tape = w.tape
 output : w'.output = w.output
 size : w'.heap.size = w.heap.size
 off : ∀ k, ¬ ok k → w'.heap[k]? = w.heap[k]?
 on : ∀ (k : Nat) (cur : Array Value) (t : TypeId) (f : Nat × Nat), w.heap[k]? = some (Obj.cells cur t f) → ∃ cur' : Array Value, w'.heap[k]? = some (Obj.cells cur' t f) ∧ cur'.size = cur.size ∧ ∀ j : Nat, cur'[j]? = cur[j]? ∨ ∃ a a' : Int, cur[j]? = some (Value.int .u64 a) ∧ cur'[j]? = some (Value.int .u64 a')
theorem Tn.refl (ok : Nat → Prop) (w : World) : Tn ok w w := ⟨rfl, rfl, rfl, rfl, fun _ _ => rfl, fun k cur t f h => ⟨cur, h, rfl, fun _ => .inl rfl⟩⟩
theorem Tn.trans {ok : Nat → Prop} {a b c : World} (h : Tn ok a b) (k : Tn ok b c) : Tn ok a c :=
 ⟨k.os.trans h.os, k.tape.trans h.tape, k.output.trans h.output, k.size.trans h.size, fun i hi => (k.off i hi).trans (h.off i hi), fun i cur t f hc => by
  obtain ⟨c1, h1, s1, e1⟩ := h.on i cur t f hc
  obtain ⟨c2, h2, s2, e2⟩ := k.on i c1 t f h1
  refine ⟨c2, h2, s2.trans s1, fun j => ?_⟩
  rcases e1 j with e | ⟨a, a', ha, ha'⟩ <;> rcases e2 j with e' | ⟨b, b', hb, hb'⟩
  ·exact .inl (e'.trans e)
  ·exact .inr ⟨b, b', e ▸ hb, hb'⟩
  ·exact .inr ⟨a, a', ha, e'.trans ha'⟩
  ·exact .inr ⟨a, b', ha, hb'⟩⟩
theorem Tn.set {ok : Nat → Prop} {w w' : World} (h : Tn ok w w') {g j : Nat} {cur : Array Value} {t : TypeId} {a : Int} (hg : ok g) (hb : w'.heap[g]? = some (.cells cur t (0, 0))) (hj : cur[j]? = some (.int .u64 a)) (a' : Int) : Tn ok w (w'.setCell ⟨g, j, none⟩ (.int .u64 a')) := by
 refine h.trans ⟨rfl, rfl, rfl, by simp [World.setCell], fun k hk => Below.heap_setCell _ _ _ k (fun e => hk (by rw [e]; exact hg)), fun k cur2 t2 f2 hc => ?_⟩
 by_cases hkg : k = g
 ·subst hkg
  rw [hb] at hc
  cases hc
  refine ⟨cur.setIfInBounds j (.int .u64 a'), blk_put hb j _ rfl, by simp, fun i => ?_⟩
  by_cases hij : i = j
  ·subst hij
   have hlt : i < cur.size := (Array.getElem?_eq_some_iff.1 hj).1
   exact .inr ⟨a, a', hj, by simp [hlt]⟩
  ·exact .inl (Array.getElem?_setIfInBounds_ne (fun e => hij e.symm))
 ·exact ⟨cur2, (Below.heap_setCell _ _ _ k hkg).trans hc, rfl, fun _ => .inl rfl⟩
theorem Tn.below {ok : Nat → Prop} {w w' : World} (h : Tn ok w w') {b : Nat} (hb : ∀ k, ok k → b ≤ k) : Below b w w' := ⟨h.os, h.tape, h.output, by rw [h.size]; exact Nat.le_refl _, fun k hk => h.off k (fun ho => by have := hb k ho; omega)⟩
def RdL : Nat → World → (Nat → Prop) → Option Addr → Nat → Prop
 | 0, _, _, _, n => n = 0
 | d + 1, w, ok, A, n => n = 0 ∨ ∃ g cur, A = some ⟨g, 0, none⟩ ∧ ok g ∧ w.heap[g]? = some (.cells cur 25 (0, 0)) ∧ ∀ j, j < n → (∃ a, cur[j * 4 + 1]? = some (.int .u64 a)) ∧ ∃ A' n' c', cur[j * 4 + 3]? = some (.slice A' n' c') ∧ n' ≤ c' ∧ n' ≤ 4294967296 ∧ RdL d w ok A' n'
theorem RdL.mono_ok {ok ok' : Nat → Prop} (hk : ∀ k, ok k → ok' k) {w : World} : ∀ {d : Nat} {A : Option Addr} {n : Nat}, RdL d w ok A n → RdL d w ok' A n
 | 0, _, _, hr => hr
 | d + 1, A, n, hr => by
  rcases hr with rfl | ⟨g, cur, rfl, hg, hb, hj⟩
  ·exact .inl rfl
  ·exact .inr ⟨g, cur, rfl, hk g hg, hb, fun j hjn => by
    obtain ⟨ha, A', n', c', hc, h1, h2, h3⟩ := hj j hjn
    exact ⟨ha, A', n', c', hc, h1, h2, RdL.mono_ok hk h3⟩⟩
theorem depthL_mem {x : S25} {l : List S25} (h : x ∈ l) : depthN x ≤ depthL l := by
 induction l with
 | nil => cases h
 | cons y l ih =>
  rw [depthL]
  rcases List.mem_cons.1 h with rfl | h
  ·omega
  ·have := ih h; omega
theorem RdL_of_R {w : World} {base : Nat} : ∀ (d : Nat) {ok : Nat → Prop} {A : Option Addr} {c : Nat} {l : List S25}, depthL l ≤ d → itemsL l ≤ 4294967296 → k25.R 25 w base ok (.slice A l.length c) l → RdL d w ok A l.length
 | 0, ok, A, c, l, hd, hs, h => by
  cases l with
  | nil => rfl
  | cons x l => rw [depthL, depthN_eq] at hd; omega
 | d + 1, ok, A, c, l, hd, hs, h => by
  obtain ⟨h0, inner, hown, hr⟩ := h
  rw [show k25.sz = 4 from rfl] at hown hr
  rcases hown.2 with ⟨_, hn⟩ | ⟨g, cap, cur, hv, hg, hh, hn, hc, hsz, ht⟩
  ·exact .inl hn
  ·cases hv
   refine .inr ⟨g, cur, rfl, h0 g rfl, hh, fun j hj => ?_⟩
   obtain ⟨x, hx⟩ : ∃ x, l[j]? = some x := ⟨_, List.getElem?_eq_getElem hj⟩
   have hm := hr.2 j x hx
   obtain ⟨v3, hcs, hR3⟩ := k25_openM hm
   have hxl : x ∈ l := List.mem_of_getElem? hx
   obtain ⟨A3, c3, rfl, hl3, _⟩ := Kd.R_reads hR3
   have hg4 : ∀ i u, i < 4 → ([Value.int .u8 x.f0, .int .u64 x.f1, .string x.f2, .slice A3 x.f3.length c3])[i]? = some u → cur[j * 4 + i]? = some u := fun i u hi hu => by
    have h1 : ((inner.drop (j * 4)).take 4)[i]? = some u := by rw [hcs]; exact hu
    rw [List.getElem?_take, if_pos hi, List.getElem?_drop] at h1
    rw [← ht, List.getElem?_take] at h1
    split at h1
    ·simpa using h1
    ·cases h1
   have hit := itemsL_mem hxl
   rw [itemsN_eq] at hit
   have hdl := depthL_mem hxl
   rw [depthN_eq] at hdl
   refine ⟨⟨x.f1, hg4 1 _ (by omega) rfl⟩, A3, x.f3.length, c3, hg4 3 _ (by omega) rfl, hl3, by have := itemsL_length x.f3; omega, ?_⟩
   exact RdL.mono_ok (fun k hk => hk.1) (RdL_of_R d (by omega) (by omega) hR3)
end Go.Proofs.Ytdilbnggedidnaa.PVal
namespace Go.Proofs.Ytdilbnggedidnaa.PVal
open Go.RowKit Go.Shelf Go.Proofs.YtdilbnggedidnaaW.PrintWords Go.Proofs.YtdilbnggedidnaaW.PrintLast
set_option linter.unusedVariables false
set_option linter.unusedSimpArgs false
set_option maxHeartbeats 2000000 in
theorem number23_any (k n : Int) (w : World) : Calls Try.prog 23 #[.int .u8 k, .int .u64 n] w fun e w' => e = .returned (.agg #[.int .u8 k, .int .u64 n, .string ⟨#[]⟩, .slice none 0 0]) ∧ Below w.heap.size w w' := by
 go_enter Try.func23, Try.ntmps23
 go_wp2_with fail
 exact bodyPost_ret (results_cell_row rfl _ _ w.heap.size 25 #[.int .u8 k, .int .u64 n, .string ⟨#[]⟩, .slice none 0 0] (0, 0) _ rfl (blk_new _ _) Try.underlying25 rfl (by kernel_rfl)) rfl ⟨rfl, below_alloc (Below.refl _ _) _⟩
set_option maxHeartbeats 2000000 in
theorem text24_any (k : Int) (s : ByteArray) (w : World) : Calls Try.prog 24 #[.int .u8 k, .string s] w fun e w' => e = .returned (.agg #[.int .u8 k, .int .u64 0, .string s, .slice none 0 0]) ∧ Below w.heap.size w w' := by
 go_enter Try.func24, Try.ntmps24
 go_wp2_with fail
 exact bodyPost_ret (results_cell_row rfl _ _ w.heap.size 25 #[.int .u8 k, .int .u64 0, .string s, .slice none 0 0] (0, 0) _ rfl (blk_new _ _) Try.underlying25 rfl (by kernel_rfl)) rfl ⟨rfl, below_alloc (Below.refl _ _) _⟩
set_option maxHeartbeats 2000000 in
theorem null26_any (w : World) : Calls Try.prog 26 #[] w fun e w' => e = .returned (.agg #[.int .u8 1, .int .u64 0, .string ⟨#[]⟩, .slice none 0 0]) ∧ Below w.heap.size w w' := by
 go_enter Try.func26, Try.ntmps26
 go_wp2_with fail
 exact bodyPost_ret (results_cell_row rfl _ _ w.heap.size 25 #[.int .u8 1, .int .u64 0, .string ⟨#[]⟩, .slice none 0 0] (0, 0) _ rfl (blk_new _ _) Try.underlying25 rfl (by kernel_rfl)) rfl ⟨rfl, below_alloc (Below.refl _ _) _⟩
def vNul : S25 := ⟨1, 0, ⟨#[]⟩, []⟩
def vSym : S25 := ⟨21, 0, ⟨#[97]⟩, []⟩
end Go.Proofs.Ytdilbnggedidnaa.PVal
namespace Go.Proofs.Ytdilbnggedidnaa.PVal
open Go.RowKit Go.Shelf Go.Proofs.YtdilbnggedidnaaW.PrintWords Go.Proofs.YtdilbnggedidnaaW.PrintLast
set_option linter.unusedVariables false
set_option linter.unusedSimpArgs false
structure Bg (g : Nat) (w w' : World) : Prop where
 os : w'.os = w.os
 tape : w'.tape = w.tape
 output : w'.output = w.output
 size : w.heap.size ≤ w'.heap.size
 block : ∀ k, k < w.heap.size → k ≠ g → w'.heap[k]? = w.heap[k]?
theorem Bg.refl (g : Nat) (w : World) : Bg g w w := ⟨rfl, rfl, rfl, Nat.le_refl _, fun _ _ _ => rfl⟩
theorem Bg.trans {g : Nat} {a b c : World} (h : Bg g a b) (k : Bg g b c) : Bg g a c := ⟨k.os.trans h.os, k.tape.trans h.tape, k.output.trans h.output, Nat.le_trans h.size k.size, fun i hi hg => (k.block i (Nat.lt_of_lt_of_le hi h.size) hg).trans (h.block i hi hg)⟩
theorem Bg.of {g : Nat} {w w' : World} (h : Below w.heap.size w w') : Bg g w w' := ⟨h.os, h.tape, h.output, h.size, fun k hk _ => h.block k hk⟩
theorem Bg.below {g B : Nat} {w w' : World} (h : Bg g w w') (hg : B ≤ g) (hB : B ≤ w.heap.size) : Below B w w' := ⟨h.os, h.tape, h.output, h.size, fun k hk => h.block k (by omega) (by omega)⟩
theorem Bg.set {g : Nat} {w w' : World} (h : Bg g w w') (j : Nat) (v : Value) : Bg g w (w'.setCell ⟨g, j, none⟩ v) := ⟨h.os, h.tape, h.output, by simpa [World.setCell] using h.size, fun k hk hg => (Below.heap_setCell _ _ _ k hg).trans (h.block k hk hg)⟩
theorem Blk.bg {g : Nat} {w w' : World} {b : Nat} {cs : Array Value} {t : TypeId} (h : Blk w b cs t) (hb : Bg g w w') (hg : b ≠ g) : Blk w' b cs t := (hb.block b h.lt hg).trans h
theorem R_bg {g base : Nat} {w w' : World} {ok : Nat → Prop} {v : Value} {l : List S25} (h : k25.R 25 w base ok v l) (hb : Bg g w w') (hg : ∀ k, ok k → k ≠ g) : k25.R 25 w' base ok v l := Kd.R_step h fun k ho hk => hb.block k hk (hg k ho)
def FS (w : World) (base g : Nat) (l : List S25) (sp : Bool) : Prop := ∃ A c, Blk w g #[.slice A l.length c, .bool sp] 94 ∧ k25.R 25 w base (fun k => k ≠ g) (.slice A l.length c) l
theorem FS.below {w w' : World} {base g : Nat} {l : List S25} {sp : Bool} (h : FS w base g l sp) (hb : Below w.heap.size w w') : FS w' base g l sp := by
 obtain ⟨A, c, h1, h2⟩ := h
 exact ⟨A, c, h1.below hb, Kd.R_below h2 hb⟩
theorem FS.set {w : World} {base g : Nat} {l : List S25} {sp : Bool} (h : FS w base g l sp) (b : Bool) : FS (w.setCell ⟨g, 1, none⟩ (.bool b)) base g l b := by
 obtain ⟨A, c, h1, h2⟩ := h
 exact ⟨A, c, blk_put h1 1 _ rfl, Kd.R_far h2 (fun _ hk => hk) _⟩
theorem FS.lt {w : World} {base g : Nat} {l : List S25} {sp : Bool} (h : FS w base g l sp) : g < w.heap.size := by
 obtain ⟨A, c, h1, _⟩ := h
 exact h1.lt
theorem Blk.c2 {W : World} {b : Nat} {a0 a1 : Value} {t : TypeId} (h : Blk W b #[a0, a1] t) : W.cell? ⟨b, 0, none⟩ = some a0 ∧ W.cell? ⟨b, 1, none⟩ = some a1 := ⟨(blk_cell h 0).trans rfl, (blk_cell h 1).trans rfl⟩
def atF (l : List S25) (i : Int) : Option S25 := if 0 ≤ i ∧ i < l.length then (if (rd_T25 l i).f0 = 1 then none else some (rd_T25 l i)) else none
theorem atF_some {l : List S25} {i : Int} {x : S25} (h : atF l i = some x) : 0 ≤ i ∧ i < l.length ∧ (rd_T25 l i).f0 ≠ 1 ∧ rd_T25 l i = x := by
 unfold atF at h
 split at h
 ·rename_i h1
  split at h
  ·cases h
  ·rename_i h2
   exact ⟨h1.1, h1.2, h2, Option.some.inj h⟩
 ·cases h
theorem atF_none {l : List S25} {i : Int} (h : atF l i = none) : i < 0 ∨ (0 ≤ i ∧ (l.length : Int) ≤ i) ∨ (0 ≤ i ∧ i < l.length ∧ (rd_T25 l i).f0 = 1) := by
 unfold atF at h
 split at h
 ·rename_i h1
  split at h
  ·rename_i h2
   exact .inr (.inr ⟨h1.1, h1.2, h2⟩)
  ·cases h
 ·rename_i h1
  omega
theorem atF_mem {l : List S25} {i : Int} {x : S25} (h : atF l i = some x) : x ∈ l := by
 obtain ⟨h0, h1, _, rfl⟩ := atF_some h
 exact rd_mem h0 h1
end Go.Proofs.Ytdilbnggedidnaa.PVal
namespace Go.Proofs.Ytdilbnggedidnaa.PVal
open Go.RowKit Go.Shelf Go.Proofs.YtdilbnggedidnaaW.PrintWords Go.Proofs.YtdilbnggedidnaaW.PrintLast
set_option linter.unusedVariables false
set_option linter.unusedSimpArgs false
theorem results95 (tmps : Array Value) (w : World) (g : Nat) (cs : Array Value) (b : Bool) (hcs : cs.size = 4) (hp : tmps.getD 4 undef = .pointer (some ⟨g, 0, none⟩)) (hg : Blk w g cs 25) (hb : tmps.getD 5 undef = .bool b) :
  (results Try.f95 tmps).run Try.prog w = .ok (.tuple #[.agg cs, .bool b]) w := by
 have h1 : tmps[4]?.getD undef = .pointer (some ⟨g, 0, none⟩) := by simpa using hp
 have h2 : tmps[5]?.getD undef = .bool b := by simpa using hb
 have hi : (Try.prog.info? 25).map (·.size) = some cs.size := by rw [hcs]; kernel_rfl
 have hr := run_loadVar_row (P := Try.prog) w g 25 25 cs (0, 0) _ hg Try.underlying25 rfl hi
 simp [results, Try.f95, h1, h2, asAddr, hr]
set_option maxRecDepth 100000 in
set_option maxHeartbeats 2000000 in
theorem at95_none {w : World} {base g : Nat} {l : List S25} {sp : Bool} (hf : FS w base g l sp) (i : Int) (h : atF l i = none) :
  Calls Try.prog 95 #[.pointer (some ⟨g, 0, none⟩), .int .i64 i] w fun e w' => e = .returned (.tuple #[.agg #[.int .u8 1, .int .u64 0, .string ⟨#[]⟩, .slice none 0 0], .bool false]) ∧ Below w.heap.size w w' := by
 obtain ⟨A, c, hB, hR⟩ := hf
 have HR := Aside0.mk (Kd.R_reads' hR).2.2
 have hg1 : ¬ g = w.heap.size := by have := hB.lt; omega
 have HB := Aside0.mk hB
 obtain ⟨p0, p1⟩ := hB.c2
 have o0 := cell_al p0
 clear hR hB p0 p1
 rcases atF_none h with h1 | ⟨h0, h1⟩ | ⟨h0, h1, h2⟩
 ·clear h
  go_enter Try.func95, Try.ntmps95
  go_wp2_with fail
  have bR := Blk.new w #[.int .u8 0, .int .u64 0, .string ⟨#[]⟩, .slice none 0 0] 25
  have hB0 := below_alloc (Below.refl w.heap.size w) (.cells #[.int .u8 0, .int .u64 0, .string ⟨#[]⟩, .slice none 0 0] 25)
  refine (null26_any _).mono ?_
  rintro e w2 ⟨rfl, hb2⟩
  have bR2 := bR.below hb2
  have HB2 := Aside0.mk (below_step hB0 hb2)
  clear bR hB0 hb2
  obtain ⟨r0, r1, r2, r3⟩ := bR2.c4
  have fz := bR2.fz
  go_wp2_with fail
  refine bodyPost_ret (results95 _ _ w.heap.size #[.int .u8 1, .int .u64 0, .string ⟨#[]⟩, .slice none 0 0] false rfl rfl ?_ rfl) rfl ⟨rfl, ?_⟩
  ·refine blk_put (cs := #[.int .u8 1, .int .u64 0, .string ⟨#[]⟩, .slice none 0 0]) ?_ 3 _ rfl
   refine blk_put (cs := #[.int .u8 1, .int .u64 0, .string ⟨#[]⟩, .slice none 0 0]) ?_ 2 _ rfl
   refine blk_put (cs := #[.int .u8 1, .int .u64 0, .string ⟨#[]⟩, .slice none 0 0]) ?_ 1 _ rfl
   refine blk_put (cs := #[.int .u8 0, .int .u64 0, .string ⟨#[]⟩, .slice none 0 0]) ?_ 0 _ rfl
   exact bR2
  ·exact below_set (below_set (below_set (below_set HB2.out (Nat.le_refl _)) (Nat.le_refl _)) (Nat.le_refl _)) (Nat.le_refl _)
 ·clear h
  go_enter Try.func95, Try.ntmps95
  go_wp2_with fail
  have bR := Blk.new w #[.int .u8 0, .int .u64 0, .string ⟨#[]⟩, .slice none 0 0] 25
  have hB0 := below_alloc (Below.refl w.heap.size w) (.cells #[.int .u8 0, .int .u64 0, .string ⟨#[]⟩, .slice none 0 0] 25)
  refine (null26_any _).mono ?_
  rintro e w2 ⟨rfl, hb2⟩
  have bR2 := bR.below hb2
  have HB2 := Aside0.mk (below_step hB0 hb2)
  clear bR hB0 hb2
  obtain ⟨r0, r1, r2, r3⟩ := bR2.c4
  have fz := bR2.fz
  go_wp2_with fail
  refine bodyPost_ret (results95 _ _ w.heap.size #[.int .u8 1, .int .u64 0, .string ⟨#[]⟩, .slice none 0 0] false rfl rfl ?_ rfl) rfl ⟨rfl, ?_⟩
  ·refine blk_put (cs := #[.int .u8 1, .int .u64 0, .string ⟨#[]⟩, .slice none 0 0]) ?_ 3 _ rfl
   refine blk_put (cs := #[.int .u8 1, .int .u64 0, .string ⟨#[]⟩, .slice none 0 0]) ?_ 2 _ rfl
   refine blk_put (cs := #[.int .u8 1, .int .u64 0, .string ⟨#[]⟩, .slice none 0 0]) ?_ 1 _ rfl
   refine blk_put (cs := #[.int .u8 0, .int .u64 0, .string ⟨#[]⟩, .slice none 0 0]) ?_ 0 _ rfl
   exact bR2
  ·exact below_set (below_set (below_set (below_set HB2.out (Nat.le_refl _)) (Nat.le_refl _)) (Nat.le_refl _)) (Nat.le_refl _)
 ·obtain ⟨ad, Ax, cx, eA, hx0, hx1, hx2, hx3, hlx, hCx⟩ := at_T25 HR.out i h0 h1
  cases eA
  have hk : ((rd_T25 l i).f0 == 1) = true := by rw [h2]; rfl
  have q0 := cell_al hx0
  clear h h2 hx0 hx1 hx2 hx3 hCx hlx
  go_enter Try.func95, Try.ntmps95
  go_wp2_with fail
  have bR := Blk.new w #[.int .u8 0, .int .u64 0, .string ⟨#[]⟩, .slice none 0 0] 25
  have hB0 := below_alloc (Below.refl w.heap.size w) (.cells #[.int .u8 0, .int .u64 0, .string ⟨#[]⟩, .slice none 0 0] 25)
  refine (null26_any _).mono ?_
  rintro e w2 ⟨rfl, hb2⟩
  have bR2 := bR.below hb2
  have HB2 := Aside0.mk (below_step hB0 hb2)
  clear bR hB0 hb2
  obtain ⟨r0, r1, r2, r3⟩ := bR2.c4
  have fz := bR2.fz
  go_wp2_with fail
  refine bodyPost_ret (results95 _ _ w.heap.size #[.int .u8 1, .int .u64 0, .string ⟨#[]⟩, .slice none 0 0] false rfl rfl ?_ rfl) rfl ⟨rfl, ?_⟩
  ·refine blk_put (cs := #[.int .u8 1, .int .u64 0, .string ⟨#[]⟩, .slice none 0 0]) ?_ 3 _ rfl
   refine blk_put (cs := #[.int .u8 1, .int .u64 0, .string ⟨#[]⟩, .slice none 0 0]) ?_ 2 _ rfl
   refine blk_put (cs := #[.int .u8 1, .int .u64 0, .string ⟨#[]⟩, .slice none 0 0]) ?_ 1 _ rfl
   refine blk_put (cs := #[.int .u8 0, .int .u64 0, .string ⟨#[]⟩, .slice none 0 0]) ?_ 0 _ rfl
   exact bR2
  ·exact below_set (below_set (below_set (below_set HB2.out (Nat.le_refl _)) (Nat.le_refl _)) (Nat.le_refl _)) (Nat.le_refl _)
set_option maxRecDepth 100000 in
set_option maxHeartbeats 2000000 in
theorem at95_some {w : World} {base g : Nat} {l : List S25} {sp : Bool} (hf : FS w base g l sp) (i : Int) (x : S25) (h : atF l i = some x) :
  Calls Try.prog 95 #[.pointer (some ⟨g, 0, none⟩), .int .i64 i] w fun e w' => ∃ Ax cx, e = .returned (.tuple #[.agg #[.int .u8 x.f0, .int .u64 x.f1, .string x.f2, .slice Ax x.f3.length cx], .bool true]) ∧ Below w.heap.size w w' ∧ x.f3.length ≤ cx ∧ k25.C w' Ax x.f3.length x.f3 := by
 obtain ⟨A, c, hB, hR⟩ := hf
 have HR := Aside0.mk (Kd.R_reads' hR).2.2
 have hg1 : ¬ g = w.heap.size := by have := hB.lt; omega
 have HB := Aside0.mk hB
 obtain ⟨p0, p1⟩ := hB.c2
 have o0 := cell_al p0
 clear hR hB p0 p1
 obtain ⟨h0, h1, h2, hx⟩ := atF_some h
 obtain ⟨ad, Ax, cx, eA, hx0, hx1, hx2, hx3, hlx, hCx⟩ := at_T25 HR.out i h0 h1
 cases eA
 rw [hx] at h2 hx0 hx1 hx2 hx3 hlx hCx
 have hk : (x.f0 == 1) = false := by simpa using h2
 have HC := Aside0.mk hCx
 have hq0 := cell_al hx0
 have hq1 := cell_al hx1
 have hq2 := cell_al hx2
 have hq3 := cell_al hx3
 clear h h2 hx hCx hx0 hx1 hx2 hx3
 go_enter Try.func95, Try.ntmps95
 go_wp2_with fail
 have hB0 := below_alloc (Below.refl w.heap.size w) (.cells #[.int .u8 x.f0, .int .u64 x.f1, .string x.f2, .slice Ax x.f3.length cx] 25)
 exact bodyPost_ret (results95 _ _ w.heap.size #[.int .u8 x.f0, .int .u64 x.f1, .string x.f2, .slice Ax x.f3.length cx] true rfl rfl (Blk.new w #[.int .u8 x.f0, .int .u64 x.f1, .string x.f2, .slice Ax x.f3.length cx] 25) rfl) rfl ⟨Ax, cx, rfl, hB0, hlx, Kd.C_below HC.out hB0⟩
end Go.Proofs.Ytdilbnggedidnaa.PVal
namespace Go.Proofs.Ytdilbnggedidnaa.PVal
open Go.RowKit Go.Shelf Go.Proofs.YtdilbnggedidnaaW.PrintWords Go.Proofs.YtdilbnggedidnaaW.PrintLast
set_option linter.unusedVariables false
set_option linter.unusedSimpArgs false
set_option maxRecDepth 100000 in
set_option maxHeartbeats 2000000 in
theorem has65_any {w : World} {base g : Nat} {l : List S25} {sp : Bool} (hf : FS w base g l sp) (i : Int) :
  Calls Try.prog 65 #[.pointer (some ⟨g, 0, none⟩), .int .i64 i] w fun e w' => e = .returned (.bool (atF l i).isSome) ∧ Below w.heap.size w w' := by
 cases h : atF l i with
 | none =>
  have HF := Aside0.mk (at95_none hf i h)
  clear hf h
  go_enter Try.func65, Try.ntmps65
  go_wp2_with fail
  refine HF.out.mono ?_
  rintro e w2 ⟨rfl, hb⟩
  have HB := Aside0.mk hb
  clear hb
  go_wp2_with fail
  go_ret
  exact ⟨rfl, below_alloc HB.out _⟩
 | some x =>
  have HF := Aside0.mk (at95_some hf i x h)
  clear hf h
  go_enter Try.func65, Try.ntmps65
  go_wp2_with fail
  refine HF.out.mono ?_
  rintro e w2 ⟨A, c, rfl, hb, _, _⟩
  have HB := Aside0.mk hb
  clear hb
  go_wp2_with fail
  go_ret
  exact ⟨rfl, below_alloc HB.out _⟩
set_option maxRecDepth 100000 in
set_option maxHeartbeats 2000000 in
theorem spoil50_any {w : World} {base g : Nat} {l : List S25} {sp : Bool} (hf : FS w base g l sp) :
  Calls Try.prog 50 #[.pointer (some ⟨g, 0, none⟩)] w fun e w' => e = .returned (.tuple #[]) ∧ FS w' base g l true ∧ Bg g w w' := by
 have HF := Aside0.mk hf
 obtain ⟨A, c, hB, hR⟩ := hf
 obtain ⟨p0, p1⟩ := hB.c2
 have fz := hB.fz
 clear hB hR
 go_enter Try.func50, Try.ntmps50
 go_wp2_with fail
 go_end0
 exact ⟨rfl, HF.out.set true, (Bg.refl g w).set 1 _⟩
def doneN (l : List S25) (sp : Bool) (n : Int) : Int := if sp = true ∨ n < l.length then 6 else 0
set_option maxRecDepth 100000 in
set_option maxHeartbeats 2000000 in
theorem done43_any {w : World} {base g : Nat} {l : List S25} {sp : Bool} (hf : FS w base g l sp) (n : Int) :
  Calls Try.prog 43 #[.pointer (some ⟨g, 0, none⟩), .int .i64 n] w fun e w' => e = .returned (.int .i64 (doneN l sp n)) ∧ w = w' := by
 obtain ⟨A, c, hB, hR⟩ := hf
 obtain ⟨p0, p1⟩ := hB.c2
 clear hB hR
 cases sp with
 | true =>
  have HE : Aside0 (doneN l true n = 6) := ⟨if_pos (.inl rfl)⟩
  go_enter Try.func43, Try.ntmps43
  go_wp2_with fail
  go_ret
  exact ⟨by rw [HE.out]; rfl, rfl⟩
 | false =>
  by_cases h : n < (l.length : Int)
  ·have HE : Aside0 (doneN l false n = 6) := ⟨if_pos (.inr h)⟩
   go_enter Try.func43, Try.ntmps43
   go_wp2_with fail
   go_ret
   exact ⟨by rw [HE.out]; rfl, rfl⟩
  ·have HE : Aside0 (doneN l false n = 0) := ⟨if_neg (by simp; omega)⟩
   go_enter Try.func43, Try.ntmps43
   go_wp2_with fail
   go_ret
   exact ⟨by rw [HE.out]; rfl, rfl⟩
def calledB (x : S25) (code : Int) (name : ByteArray) : Bool := ((x.f0 == 6) && (x.f1 == code)) || ((x.f0 == 21) && (x.f2.toList == name.toList))
set_option maxRecDepth 100000 in
set_option maxHeartbeats 2000000 in
theorem called74_any (x : S25) (code : Int) (name : ByteArray) (A : Option Addr) (c : Nat) (w : World) :
  Calls Try.prog 74 #[.agg #[.int .u8 x.f0, .int .u64 x.f1, .string x.f2, .slice A x.f3.length c], .int .u64 code, .string name] w fun e w' => e = .returned (.bool (calledB x code name)) ∧ Below w.heap.size w w' := by
 have hdef : calledB x code name = (((x.f0 == 6) && (x.f1 == code)) || ((x.f0 == 21) && (x.f2.toList == name.toList))) := rfl
 have HD := Aside0.mk hdef
 clear hdef
 by_cases h6 : x.f0 = 6
 ·have k6 : (x.f0 == 6) = true := by simp [h6]
  have k21 : (x.f0 == 21) = false := by simp [h6]
  clear h6
  cases hc : (x.f1 == code) with
  | true =>
   have HE : Aside0 (calledB x code name = true) := ⟨by rw [HD.out, k6, hc]; rfl⟩
   go_enter Try.func74, Try.ntmps74
   go_wp2_with fail
   go_ret
   exact ⟨by rw [HE.out]; rfl, below_alloc (Below.refl _ _) _⟩
  | false =>
   have HE : Aside0 (calledB x code name = false) := ⟨by rw [HD.out, k6, hc, k21]; rfl⟩
   go_enter Try.func74, Try.ntmps74
   go_wp2_with fail
   go_ret
   exact ⟨by rw [HE.out]; rfl, below_alloc (Below.refl _ _) _⟩
 ·have k6 : (x.f0 == 6) = false := by simp [h6]
  clear h6
  cases k21 : (x.f0 == 21) with
  | true =>
   have HE : Aside0 (calledB x code name = (x.f2.toList == name.toList)) := ⟨by rw [HD.out, k6, k21]; rfl⟩
   go_enter Try.func74, Try.ntmps74
   go_wp2_with fail
   go_ret
   exact ⟨by rw [HE.out]; rfl, below_alloc (Below.refl _ _) _⟩
  | false =>
   have HE : Aside0 (calledB x code name = false) := ⟨by rw [HD.out, k6, k21]; rfl⟩
   go_enter Try.func74, Try.ntmps74
   go_wp2_with fail
   go_ret
   exact ⟨by rw [HE.out]; rfl, below_alloc (Below.refl _ _) _⟩
set_option maxRecDepth 100000 in
set_option maxHeartbeats 2000000 in
theorem num97_any (x : S25) (A : Option Addr) (c : Nat) (w : World) : Calls Try.prog 97 #[.agg #[.int .u8 x.f0, .int .u64 x.f1, .string x.f2, .slice A x.f3.length c]] w fun e w' => e = .returned (.int .u64 x.f1) ∧ Below w.heap.size w w' := by
 go_enter Try.func97, Try.ntmps97
 go_wp2_with fail
 go_ret
 exact ⟨rfl, below_alloc (Below.refl _ _) _⟩
set_option maxRecDepth 100000 in
set_option maxHeartbeats 2000000 in
theorem txt102_any (x : S25) (A : Option Addr) (c : Nat) (w : World) : Calls Try.prog 102 #[.agg #[.int .u8 x.f0, .int .u64 x.f1, .string x.f2, .slice A x.f3.length c]] w fun e w' => e = .returned (.string x.f2) ∧ Below w.heap.size w w' := by
 go_enter Try.func102, Try.ntmps102
 go_wp2_with fail
 go_ret
 exact ⟨rfl, below_alloc (Below.refl _ _) _⟩
set_option maxRecDepth 100000 in
set_option maxHeartbeats 2000000 in
theorem all103_any (x : S25) (A : Option Addr) (c : Nat) (w : World) : Calls Try.prog 103 #[.agg #[.int .u8 x.f0, .int .u64 x.f1, .string x.f2, .slice A x.f3.length c]] w fun e w' => e = .returned (.bool true) ∧ Below w.heap.size w w' := by
 go_enter Try.func103, Try.ntmps103
 go_wp2_with fail
 go_ret
 exact ⟨rfl, below_alloc (Below.refl _ _) _⟩
set_option maxRecDepth 100000 in
set_option maxHeartbeats 2000000 in
theorem of68_any (B : Option Addr) (m d : Nat) (w : World) : Calls Try.prog 68 #[.slice B m d] w fun e w' => e = .returned (.func (.func 98) #[] #[.pointer (some ⟨w.heap.size, 0, none⟩)]) ∧ w' = w.alloc (.cells #[.slice B m d] 63) := by
 go_enter Try.func68, Try.ntmps68
 go_wp2_with fail
 go_ret
 exact ⟨rfl, rfl⟩
def idxI (v : Int) : List Int → Int → Int
 | [], _ => -1
 | a :: l, i => if v == a then i else idxI v l (i + 1)
theorem idxI_any (v : Int) (l : List Int) (i : Int) (h : 0 ≤ i) : decide (0 ≤ idxI v l i) = l.any (fun a => v == a) := by
 induction l generalizing i with
 | nil => simp [idxI]
 | cons x l ih =>
  have := ih (i + 1) (by omega)
  rw [Bool.eq_iff_iff, decide_eq_true_eq] at this ⊢
  simp only [idxI, List.any_cons, Bool.or_eq_true]
  by_cases hx : (v == x) = true
  ·rw [if_pos hx]; simp [h, hx]
  ·rw [if_neg hx, this]; simp [hx]
theorem drop_rdK {xs : List Int} {i : Int} (h0 : 0 ≤ i) (h1 : i < xs.length) : xs.drop i.toNat = rd xs i :: xs.drop (i + 1).toNat := by
 have h : i.toNat < xs.length := by omega
 rw [List.drop_eq_getElem_cons h, show (i + 1).toNat = i.toNat + 1 by omega]
 unfold rd
 rw [List.getD_eq_getElem?_getD, List.getElem?_eq_getElem h]
 rfl
set_option maxRecDepth 100000 in
set_option maxHeartbeats 2000000 in
theorem index126_any (v : Int) (l : List Int) (A : Option Addr) (c : Nat) (w : World) (ha : Kd.C (Kd.int .u8) w A l.length l) (hc : l.length ≤ c) :
  Calls Try.prog 126 #[.slice A l.length c, .int .u8 v] w fun e w' => e = .returned (.int .i64 (idxI v l 0)) ∧ w = w' := by
 have hm : l.length ≤ 9223372036854775807 := Kd.C_max ha
 have HA := Aside0.mk ha
 clear ha
 go_enter Try.func126, Try.ntmps126
 go_wp2_with fail
 go_loopg [8] l.length (fun gk v8 wr => ∃ i : Int, v8 = .int .i64 i ∧ Aside0 (0 ≤ i ∧ i ≤ l.length ∧ gk = l.length - i.toNat ∧ idxI v (l.drop i.toNat) i = idxI v l 0) ∧ w = wr)
 case atStart => exact ⟨0, rfl, ⟨by omega, by omega, by simp, by simp⟩, rfl⟩
 case round =>
  obtain ⟨i, rfl, HI, rfl⟩ := hrel
  obtain ⟨hi0, hi1, hgk, hv⟩ := HI.out
  have HG := Aside0.mk hgk
  have HV := Aside0.mk hv
  clear HI hgk hv
  by_cases hlt : i < l.length
  ·obtain ⟨ad, e, hx⟩ := Kd.at_int HA.out i hi0 hlt
   cases e
   have hdr : idxI v (l.drop i.toNat) i = if v == rd l i then i else idxI v (l.drop (i + 1).toNat) (i + 1) := by rw [drop_rdK hi0 hlt, idxI]
   rw [HV.out] at hdr
   have HD := Aside0.mk hdr
   clear hdr
   cases hq : (v == rd l i) with
   | true =>
    have HQ : Aside0 (idxI v l 0 = i) := ⟨by rw [HD.out, hq]; rfl⟩
    go_wp2_with fail
    go_ret
    exact ⟨by rw [HQ.out]; rfl, rfl⟩
   | false =>
    have HQ : Aside0 (idxI v (l.drop (i + 1).toNat) (i + 1) = idxI v l 0) := ⟨by rw [HD.out, hq]; rfl⟩
    go_wp2_with fail
    go_roundg (l.length - (i + 1).toNat)
    case measure => rw [HG.out]; omega
    case rel => exact ⟨i + 1, by go_num, ⟨by omega, by omega, rfl, HQ.out⟩, rfl⟩
  ·have he : idxI v l 0 = -1 := by rw [← HV.out, List.drop_of_length_le (by omega), idxI]
   have HE := Aside0.mk he
   clear he
   go_wp2_with fail
   go_ret
   exact ⟨by rw [HE.out]; rfl, rfl⟩
set_option maxRecDepth 100000 in
set_option maxHeartbeats 2000000 in
theorem contains99_any (v : Int) (l : List Int) (A : Option Addr) (c : Nat) (w : World) (ha : Kd.C (Kd.int .u8) w A l.length l) (hc : l.length ≤ c) :
  Calls Try.prog 99 #[.slice A l.length c, .int .u8 v] w fun e w' => e = .returned (.bool (l.any fun a => v == a)) ∧ w = w' := by
 have HI := Aside0.mk (index126_any v l A c w ha hc)
 have HE := Aside0.mk (idxI_any v l 0 (Int.le_refl _))
 clear ha
 go_enter Try.func99, Try.ntmps99
 go_wp2_with fail
 refine HI.out.mono ?_
 rintro e w2 ⟨rfl, rfl⟩
 go_wp2_with fail
 go_ret
 exact ⟨by rw [← HE.out]; rfl, rfl⟩
def Fit (F : Nat) (cap : List Value) (P : S25 → Bool) (w : World) : Prop := ∀ (x : S25) (A : Option Addr) (c : Nat) (w' : World), Below w.heap.size w w' → k25.C w' A x.f3.length x.f3 → x.f3.length ≤ c →
 Calls Try.prog F (Value.agg #[.int .u8 x.f0, .int .u64 x.f1, .string x.f2, .slice A x.f3.length c] :: cap).toArray w' fun e w2 => e = .returned (.bool (P x)) ∧ Below w'.heap.size w' w2
theorem Fit.later {F : Nat} {cap : List Value} {P : S25 → Bool} {w w' : World} (h : Fit F cap P w) (hb : Below w.heap.size w w') : Fit F cap P w' := fun x A c w2 h2 => h x A c w2 (below_step hb h2)
def kindP (ks : List Int) (x : S25) : Bool := ks.any fun a => x.f0 == a
set_option maxRecDepth 100000 in
set_option maxHeartbeats 2000000 in
theorem fit98 (ks : List Int) (B : Option Addr) (d : Nat) (b : Nat) (w : World) (hB : Blk w b #[.slice B ks.length d] 63) (hk : Kd.C (Kd.int .u8) w B ks.length ks) (hd : ks.length ≤ d) : Fit 98 [.pointer (some ⟨b, 0, none⟩)] (kindP ks) w := by
 intro x A c w' hb hC hc
 have bB := hB.below hb
 have q0 := cell_al bB.c1
 have hbn : ¬ b = w'.heap.size := by have := bB.lt; omega
 have HK := Aside0.mk (Kd.C_below hk hb)
 clear hB hk hb hC bB
 show Calls Try.prog 98 #[.agg #[.int .u8 x.f0, .int .u64 x.f1, .string x.f2, .slice A x.f3.length c], .pointer (some ⟨b, 0, none⟩)] w' _
 go_enter Try.func98, Try.ntmps98
 go_wp2_with fail
 refine (contains99_any x.f0 ks B d _ (Kd.C_below HK.out (below_alloc (Below.refl _ _) _)) hd).mono ?_
 rintro e w2 ⟨rfl, rfl⟩
 go_wp2_with fail
 go_ret
 exact ⟨rfl, below_alloc (Below.refl _ _) _⟩
end Go.Proofs.Ytdilbnggedidnaa.PVal
namespace Go.Proofs.Ytdilbnggedidnaa.PVal
open Go.RowKit Go.Shelf Go.Proofs.YtdilbnggedidnaaW.PrintWords Go.Proofs.YtdilbnggedidnaaW.PrintLast
set_option linter.unusedVariables false
set_option linter.unusedSimpArgs false
def spoilP (l : List S25) (i : Int) (must : Bool) (P : S25 → Bool) : Bool := match atF l i with
 | none => must
 | some x => !P x
def tellP {α : Type} (l : List S25) (i : Int) (P : S25 → Bool) (T : S25 → α) (none_ : α) : α := match atF l i with
 | none => none_
 | some x => if P x then T x else none_
theorem spoil_none {l : List S25} {i : Int} (h : atF l i = none) (m : Bool) (P : S25 → Bool) : spoilP l i m P = m := by unfold spoilP; rw [h]
theorem spoil_some {l : List S25} {i : Int} {x : S25} (h : atF l i = some x) (m : Bool) (P : S25 → Bool) : spoilP l i m P = !P x := by unfold spoilP; rw [h]
theorem tell_none {α : Type} {l : List S25} {i : Int} (h : atF l i = none) (P : S25 → Bool) (T : S25 → α) (d : α) : tellP l i P T d = d := by unfold tellP; rw [h]
theorem tell_some {α : Type} {l : List S25} {i : Int} {x : S25} (h : atF l i = some x) (P : S25 → Bool) (T : S25 → α) (d : α) : tellP l i P T d = if P x then T x else d := by unfold tellP; rw [h]
set_option maxRecDepth 100000 in
set_option maxHeartbeats 2000000 in
theorem tell96_any {w : World} {base g : Nat} {l : List S25} {sp : Bool} (hf : FS w base g l sp) (i : Int) (must : Bool) (none_ : Int) (b : Nat) (P : S25 → Bool) (hF : Fit 98 [.pointer (some ⟨b, 0, none⟩)] P w) :
  Calls Try.prog 96 #[.pointer (some ⟨g, 0, none⟩), .int .i64 i, .bool must, .int .u64 (none_), .func (.func 98) #[] #[.pointer (some ⟨b, 0, none⟩)], .func (.func 97) #[] #[]] w fun e w' => e = .returned (.int .u64 (tellP l i P (fun x => x.f1) none_)) ∧ FS w' base g l (sp || spoilP l i must P) ∧ Bg g w w' := by
 have HF := Aside0.mk hF
 have HFS0 := Aside0.mk hf
 cases h : atF l i with
 | none =>
  have HA := Aside0.mk (at95_none hf i h)
  have HT := Aside0.mk (tell_none h P (fun x => x.f1) none_)
  cases must with
  | false =>
   have HS := Aside0.mk (spoil_none h false P)
   clear hf hF h
   go_enter Try.func96, Try.ntmps96
   go_wp2_with fail
   refine HA.out.mono ?_
   rintro e w2 ⟨rfl, hb⟩
   have HB := Aside0.mk (below_alloc hb (.cells #[.int .u8 1, .int .u64 0, .string ⟨#[]⟩, .slice none 0 0] 25))
   clear hb
   go_wp2_with fail
   go_ret
   exact ⟨by rw [HT.out]; rfl, by rw [HS.out, Bool.or_false]; exact HFS0.out.below HB.out, Bg.of HB.out⟩
  | true =>
   have HS := Aside0.mk (spoil_none h true P)
   clear hf hF h
   go_enter Try.func96, Try.ntmps96
   go_wp2_with fail
   refine HA.out.mono ?_
   rintro e w2 ⟨rfl, hb⟩
   have HB := Aside0.mk (below_alloc hb (.cells #[.int .u8 1, .int .u64 0, .string ⟨#[]⟩, .slice none 0 0] 25))
   have HFS := Aside0.mk (HFS0.out.below HB.out)
   clear hb
   go_wp2_with fail
   refine (spoil50_any HFS.out).mono ?_
   rintro e w4 ⟨rfl, hfs, hbg⟩
   have HFT := Aside0.mk hfs
   have HBT := Aside0.mk ((Bg.of HB.out).trans hbg)
   clear hfs hbg
   go_wp2_with fail
   go_ret
   exact ⟨by rw [HT.out]; rfl, by rw [HS.out]; cases sp <;> exact HFT.out, HBT.out⟩
 | some x =>
  have HA := Aside0.mk (at95_some hf i x h)
  have HT0 := Aside0.mk (tell_some h P (fun x => x.f1) none_)
  have HS0 := Aside0.mk (spoil_some h must P)
  clear hf hF h
  go_enter Try.func96, Try.ntmps96
  go_wp2_with fail
  refine HA.out.mono ?_
  rintro e w2 ⟨A, c, rfl, hb, hl, hC⟩
  have bX := Blk.new w2 #[.int .u8 x.f0, .int .u64 x.f1, .string x.f2, .slice A x.f3.length c] 25
  have hal := below_alloc (Below.refl w2.heap.size w2) (.cells #[.int .u8 x.f0, .int .u64 x.f1, .string x.f2, .slice A x.f3.length c] 25)
  have HB1 := Aside0.mk (below_step hb hal)
  have HC := Aside0.mk (Kd.C_below hC hal)
  clear hb hC hal
  obtain ⟨p0, p1, p2, p3⟩ := bX.c4
  go_wp2_with fail
  refine (HF.out x A c _ HB1.out HC.out hl).mono ?_
  rintro e w3 ⟨rfl, hb3⟩
  have bX3 := bX.below hb3
  have HB := Aside0.mk (below_step HB1.out hb3)
  have HC3 := Aside0.mk (Kd.C_below HC.out hb3)
  have HFS := Aside0.mk (HFS0.out.below HB.out)
  clear p0 p1 p2 p3 bX hb3
  cases hP : P x with
  | true =>
   have HT : Aside0 (tellP l i P (fun x => x.f1) none_ = x.f1) := ⟨by rw [HT0.out, hP]; rfl⟩
   have HS : Aside0 (spoilP l i must P = false) := ⟨by rw [HS0.out, hP]; rfl⟩
   clear hP
   obtain ⟨p0, p1, p2, p3⟩ := bX3.c4
   go_wp2_with fail
   refine (num97_any x A c _).mono ?_
   rintro e w4 ⟨rfl, hb4⟩
   have HB4 := Aside0.mk (below_step HB.out hb4)
   clear p0 p1 p2 p3 bX3 hb4
   go_wp2_with fail
   go_ret
   exact ⟨by rw [HT.out]; rfl, by rw [HS.out, Bool.or_false]; exact HFS0.out.below HB4.out, Bg.of HB4.out⟩
  | false =>
   have HT : Aside0 (tellP l i P (fun x => x.f1) none_ = none_) := ⟨by rw [HT0.out, hP]; rfl⟩
   have HS : Aside0 (spoilP l i must P = true) := ⟨by rw [HS0.out, hP]; rfl⟩
   clear hP bX3
   go_wp2_with fail
   refine (spoil50_any HFS.out).mono ?_
   rintro e w4 ⟨rfl, hfs, hbg⟩
   have HFT := Aside0.mk hfs
   have HBT := Aside0.mk ((Bg.of HB.out).trans hbg)
   clear hfs hbg
   go_wp2_with fail
   go_ret
   exact ⟨by rw [HT.out]; rfl, by rw [HS.out]; cases sp <;> exact HFT.out, HBT.out⟩
set_option maxRecDepth 100000 in
set_option maxHeartbeats 2000000 in
theorem tell101_any {w : World} {base g : Nat} {l : List S25} {sp : Bool} (hf : FS w base g l sp) (i : Int) (must : Bool) (none_ : ByteArray) (b : Nat) (P : S25 → Bool) (hF : Fit 98 [.pointer (some ⟨b, 0, none⟩)] P w) :
  Calls Try.prog 101 #[.pointer (some ⟨g, 0, none⟩), .int .i64 i, .bool must, .string (none_), .func (.func 98) #[] #[.pointer (some ⟨b, 0, none⟩)], .func (.func 102) #[] #[]] w fun e w' => e = .returned (.string (tellP l i P (fun x => x.f2) none_)) ∧ FS w' base g l (sp || spoilP l i must P) ∧ Bg g w w' := by
 have HF := Aside0.mk hF
 have HFS0 := Aside0.mk hf
 cases h : atF l i with
 | none =>
  have HA := Aside0.mk (at95_none hf i h)
  have HT := Aside0.mk (tell_none h P (fun x => x.f2) none_)
  cases must with
  | false =>
   have HS := Aside0.mk (spoil_none h false P)
   clear hf hF h
   go_enter Try.func101, Try.ntmps101
   go_wp2_with fail
   refine HA.out.mono ?_
   rintro e w2 ⟨rfl, hb⟩
   have HB := Aside0.mk (below_alloc hb (.cells #[.int .u8 1, .int .u64 0, .string ⟨#[]⟩, .slice none 0 0] 25))
   clear hb
   go_wp2_with fail
   go_ret
   exact ⟨by rw [HT.out]; rfl, by rw [HS.out, Bool.or_false]; exact HFS0.out.below HB.out, Bg.of HB.out⟩
  | true =>
   have HS := Aside0.mk (spoil_none h true P)
   clear hf hF h
   go_enter Try.func101, Try.ntmps101
   go_wp2_with fail
   refine HA.out.mono ?_
   rintro e w2 ⟨rfl, hb⟩
   have HB := Aside0.mk (below_alloc hb (.cells #[.int .u8 1, .int .u64 0, .string ⟨#[]⟩, .slice none 0 0] 25))
   have HFS := Aside0.mk (HFS0.out.below HB.out)
   clear hb
   go_wp2_with fail
   refine (spoil50_any HFS.out).mono ?_
   rintro e w4 ⟨rfl, hfs, hbg⟩
   have HFT := Aside0.mk hfs
   have HBT := Aside0.mk ((Bg.of HB.out).trans hbg)
   clear hfs hbg
   go_wp2_with fail
   go_ret
   exact ⟨by rw [HT.out]; rfl, by rw [HS.out]; cases sp <;> exact HFT.out, HBT.out⟩
 | some x =>
  have HA := Aside0.mk (at95_some hf i x h)
  have HT0 := Aside0.mk (tell_some h P (fun x => x.f2) none_)
  have HS0 := Aside0.mk (spoil_some h must P)
  clear hf hF h
  go_enter Try.func101, Try.ntmps101
  go_wp2_with fail
  refine HA.out.mono ?_
  rintro e w2 ⟨A, c, rfl, hb, hl, hC⟩
  have bX := Blk.new w2 #[.int .u8 x.f0, .int .u64 x.f1, .string x.f2, .slice A x.f3.length c] 25
  have hal := below_alloc (Below.refl w2.heap.size w2) (.cells #[.int .u8 x.f0, .int .u64 x.f1, .string x.f2, .slice A x.f3.length c] 25)
  have HB1 := Aside0.mk (below_step hb hal)
  have HC := Aside0.mk (Kd.C_below hC hal)
  clear hb hC hal
  obtain ⟨p0, p1, p2, p3⟩ := bX.c4
  go_wp2_with fail
  refine (HF.out x A c _ HB1.out HC.out hl).mono ?_
  rintro e w3 ⟨rfl, hb3⟩
  have bX3 := bX.below hb3
  have HB := Aside0.mk (below_step HB1.out hb3)
  have HC3 := Aside0.mk (Kd.C_below HC.out hb3)
  have HFS := Aside0.mk (HFS0.out.below HB.out)
  clear p0 p1 p2 p3 bX hb3
  cases hP : P x with
  | true =>
   have HT : Aside0 (tellP l i P (fun x => x.f2) none_ = x.f2) := ⟨by rw [HT0.out, hP]; rfl⟩
   have HS : Aside0 (spoilP l i must P = false) := ⟨by rw [HS0.out, hP]; rfl⟩
   clear hP
   obtain ⟨p0, p1, p2, p3⟩ := bX3.c4
   go_wp2_with fail
   refine (txt102_any x A c _).mono ?_
   rintro e w4 ⟨rfl, hb4⟩
   have HB4 := Aside0.mk (below_step HB.out hb4)
   clear p0 p1 p2 p3 bX3 hb4
   go_wp2_with fail
   go_ret
   exact ⟨by rw [HT.out]; rfl, by rw [HS.out, Bool.or_false]; exact HFS0.out.below HB4.out, Bg.of HB4.out⟩
  | false =>
   have HT : Aside0 (tellP l i P (fun x => x.f2) none_ = none_) := ⟨by rw [HT0.out, hP]; rfl⟩
   have HS : Aside0 (spoilP l i must P = true) := ⟨by rw [HS0.out, hP]; rfl⟩
   clear hP bX3
   go_wp2_with fail
   refine (spoil50_any HFS.out).mono ?_
   rintro e w4 ⟨rfl, hfs, hbg⟩
   have HFT := Aside0.mk hfs
   have HBT := Aside0.mk ((Bg.of HB.out).trans hbg)
   clear hfs hbg
   go_wp2_with fail
   go_ret
   exact ⟨by rw [HT.out]; rfl, by rw [HS.out]; cases sp <;> exact HFT.out, HBT.out⟩
theorem C_u8 {w : World} {b : Nat} {k : Int} (h : Blk w b #[.int .u8 k] 5) : Kd.C (Kd.int .u8) w (some ⟨b, 0, none⟩) 1 [k] := by
 refine ⟨rfl, by omega, fun _ => ⟨_, rfl, fun j p hj => ?_⟩⟩
 match j, hj with
 | 0, hj =>
  cases hj
  refine ⟨[.int .u8 k], rfl, rfl, fun i u hi => ?_⟩
  match i, hi with
  | 0, hi =>
   cases hi
   exact (blk_cell h 0).trans rfl
 | j + 1, hj => simp at hj
end Go.Proofs.Ytdilbnggedidnaa.PVal
namespace Go.Proofs.Ytdilbnggedidnaa.PVal
open Go.RowKit Go.Shelf Go.Proofs.YtdilbnggedidnaaW.PrintWords Go.Proofs.YtdilbnggedidnaaW.PrintLast
set_option linter.unusedVariables false
set_option linter.unusedSimpArgs false
set_option maxRecDepth 100000 in
set_option maxHeartbeats 2000000 in
theorem number66_any {w : World} {base g : Nat} {l : List S25} {sp : Bool} (hf : FS w base g l sp) (i k : Int) (must : Bool) (none_ : Int) :
  Calls Try.prog 66 #[.pointer (some ⟨g, 0, none⟩), .int .i64 i, .int .u8 k, .bool must, .int .u64 none_] w fun e w' => e = .returned (.int .u64 (tellP l i (kindP [k]) (fun x => x.f1) none_)) ∧ FS w' base g l (sp || spoilP l i must (kindP [k])) ∧ Bg g w w' := by
 have HF := Aside0.mk hf
 have hg := hf.lt
 clear hf
 go_enter Try.func66, Try.ntmps66
 go_wp2_with fail
 have bK := Blk.new w #[.int .u8 k] 5
 have hB0 := below_alloc (Below.refl w.heap.size w) (.cells #[.int .u8 k] 5)
 refine (of68_any _ _ _ _).mono ?_
 rintro e w2 ⟨rfl, rfl⟩
 have hal := below_alloc (Below.refl (w.alloc (.cells #[.int .u8 k] 5)).heap.size (w.alloc (.cells #[.int .u8 k] 5))) (.cells #[.slice (some ⟨w.heap.size, 0, none⟩) 1 1] 63)
 have bS := Blk.new (w.alloc (.cells #[.int .u8 k] 5)) #[.slice (some ⟨w.heap.size, 0, none⟩) 1 1] 63
 rw [World.size_alloc] at bS
 have hCK : Kd.C (Kd.int .u8) (w.alloc (.cells #[.int .u8 k] 5)) (some ⟨w.heap.size, 0, none⟩) [k].length [k] := C_u8 bK
 have HFt := Aside0.mk (fit98 [k] _ 1 _ _ bS (Kd.C_below hCK hal) (by simp))
 have HB := Aside0.mk (below_step hB0 hal)
 have HFS := Aside0.mk (HF.out.below HB.out)
 clear bK bS hCK hal hB0
 go_wp2_with fail
 refine (tell96_any HFS.out i must none_ _ (kindP [k]) HFt.out).mono ?_
 rintro e w3 ⟨rfl, hfs, hbg⟩
 have HFT := Aside0.mk hfs
 have HBT := Aside0.mk ((Bg.of HB.out).trans hbg)
 clear hfs hbg
 go_wp2_with fail
 go_ret
 exact ⟨rfl, HFT.out, HBT.out⟩
set_option maxRecDepth 100000 in
set_option maxHeartbeats 2000000 in
theorem text76_any {w : World} {base g : Nat} {l : List S25} {sp : Bool} (hf : FS w base g l sp) (i k : Int) (must : Bool) :
  Calls Try.prog 76 #[.pointer (some ⟨g, 0, none⟩), .int .i64 i, .int .u8 k, .bool must] w fun e w' => e = .returned (.string (tellP l i (kindP [k]) (fun x => x.f2) ⟨#[]⟩)) ∧ FS w' base g l (sp || spoilP l i must (kindP [k])) ∧ Bg g w w' := by
 have HF := Aside0.mk hf
 have hg := hf.lt
 clear hf
 go_enter Try.func76, Try.ntmps76
 go_wp2_with fail
 have bK := Blk.new w #[.int .u8 k] 5
 have hB0 := below_alloc (Below.refl w.heap.size w) (.cells #[.int .u8 k] 5)
 refine (of68_any _ _ _ _).mono ?_
 rintro e w2 ⟨rfl, rfl⟩
 have hal := below_alloc (Below.refl (w.alloc (.cells #[.int .u8 k] 5)).heap.size (w.alloc (.cells #[.int .u8 k] 5))) (.cells #[.slice (some ⟨w.heap.size, 0, none⟩) 1 1] 63)
 have bS := Blk.new (w.alloc (.cells #[.int .u8 k] 5)) #[.slice (some ⟨w.heap.size, 0, none⟩) 1 1] 63
 rw [World.size_alloc] at bS
 have hCK : Kd.C (Kd.int .u8) (w.alloc (.cells #[.int .u8 k] 5)) (some ⟨w.heap.size, 0, none⟩) [k].length [k] := C_u8 bK
 have HFt := Aside0.mk (fit98 [k] _ 1 _ _ bS (Kd.C_below hCK hal) (by simp))
 have HB := Aside0.mk (below_step hB0 hal)
 have HFS := Aside0.mk (HF.out.below HB.out)
 clear bK bS hCK hal hB0
 go_wp2_with fail
 refine (tell101_any HFS.out i must ⟨#[]⟩ _ (kindP [k]) HFt.out).mono ?_
 rintro e w3 ⟨rfl, hfs, hbg⟩
 have HFT := Aside0.mk hfs
 have HBT := Aside0.mk ((Bg.of HB.out).trans hbg)
 clear hfs hbg
 go_wp2_with fail
 go_ret
 exact ⟨rfl, HFT.out, HBT.out⟩
end Go.Proofs.Ytdilbnggedidnaa.PVal
namespace Go.Proofs.Ytdilbnggedidnaa.PVal
open Go.RowKit Go.Shelf Go.Proofs.YtdilbnggedidnaaW.PrintWords Go.Proofs.YtdilbnggedidnaaW.PrintLast
set_option linter.unusedVariables false
set_option linter.unusedSimpArgs false
theorem C_none (w : World) : k25.C w none 0 ([] : List S25) := ⟨rfl, by omega, fun h => absurd h (by omega)⟩
theorem ok_vb (x : S25) (h : okVb x = true) : okV x := okVb_iff.1 h
end Go.Proofs.Ytdilbnggedidnaa.PVal
namespace Go.Proofs.Ytdilbnggedidnaa.PVal
open Go.RowKit Go.Shelf Go.Proofs.YtdilbnggedidnaaW.PrintWords Go.Proofs.YtdilbnggedidnaaW.PrintLast
set_option linter.unusedVariables false
set_option linter.unusedSimpArgs false
def trimTo (l : List S25) : Nat → Nat
 | 0 => 0
 | n + 1 => if (rd_T25 l (n : Int)).f0 = 1 then trimTo l n else n + 1
def trimL (l : List S25) : List S25 := l.take (trimTo l l.length)
theorem trimTo_le (l : List S25) : ∀ n, trimTo l n ≤ n
 | 0 => Nat.le_refl _
 | n + 1 => by
  rw [trimTo]
  split
  ·have := trimTo_le l n; omega
  ·exact Nat.le_refl _
def putV (code : Int) (l : List S25) : S25 := ⟨25, 0, ⟨#[]⟩, [⟨6, code, ⟨#[]⟩, []⟩, ⟨22, 0, ⟨#[]⟩, trimL l⟩]⟩
theorem itemsL_take (l : List S25) (n : Nat) : itemsL (l.take n) ≤ itemsL l := by
 have h : ∀ a b : List S25, itemsL (a ++ b) = itemsL a + itemsL b := fun a b => by
  induction a with
  | nil => simp [itemsL]
  | cons x a ih => simp [itemsL, ih]; omega
 have := h (l.take n) (l.drop n)
 rw [List.take_append_drop] at this
 omega
theorem itemsL_trim (l : List S25) : itemsL (trimL l) ≤ itemsL l := itemsL_take l _
theorem C_take {w : World} {A : Option Addr} {l : List S25} (h : k25.C w A l.length l) (n : Nat) (hn : n ≤ l.length) : k25.C w A n (l.take n) := by
 obtain ⟨h1, h2, h3⟩ := h
 refine ⟨by rw [List.length_take]; omega, by omega, fun hp => ?_⟩
 obtain ⟨ad, e, hx⟩ := h3 (by omega)
 refine ⟨ad, e, fun j p hj => hx j p ?_⟩
 rw [List.getElem?_take] at hj
 split at hj
 ·exact hj
 ·cases hj
theorem many_take21 {l : List S25} (n : Nat) (hn : n ≤ l.length) (hs : itemsL l ≤ 4294967296) (A : Option Addr) (c : Nat) (w : World) (ha : k25.C w A l.length l) (hc : l.length ≤ c) :
  Calls Try.prog 21 #[.int .u8 22, .slice A n c] w fun e w' => ∃ A' c', e = .returned (.agg #[.int .u8 22, .int .u64 0, .string ⟨#[]⟩, .slice A' (l.take n).length c']) ∧ k25.R 25 w' w.heap.size (fun _ => True) (.slice A' (l.take n).length c') (l.take n) ∧ Below w.heap.size w w' := by
 have hl : (l.take n).length = n := by rw [List.length_take]; omega
 have hi : itemsL (l.take n) ≤ itemsL l := itemsL_take l n
 have h := many21_any 22 (l.take n) (by omega) A c w (by rw [hl]; exact C_take ha n hn) (by omega)
 rw [hl] at h
 refine h.mono fun e w' hh => ?_
 obtain ⟨v, he, hR, hb⟩ := hh
 obtain ⟨A', c', rfl⟩ := Kd.R_slice hR
 exact ⟨A', c', he, hR, hb⟩
theorem many_take25 {l : List S25} (n : Nat) (hn : n ≤ l.length) (hs : itemsL l ≤ 4294967296) (A : Option Addr) (c : Nat) (w : World) (ha : k25.C w A l.length l) (hc : l.length ≤ c) :
  Calls Try.prog 25 #[.int .u8 22, .slice A n c] w fun e w' => ∃ A' c', e = .returned (.agg #[.int .u8 22, .int .u64 0, .string ⟨#[]⟩, .slice A' (l.take n).length c']) ∧ k25.R 25 w' w.heap.size (fun _ => True) (.slice A' (l.take n).length c') (l.take n) ∧ Below w.heap.size w w' := by
 have hl : (l.take n).length = n := by rw [List.length_take]; omega
 have hi : itemsL (l.take n) ≤ itemsL l := itemsL_take l n
 have h := rmany25_any 22 (l.take n) (by omega) A c w (by rw [hl]; exact C_take ha n hn) (by omega)
 rw [hl] at h
 refine h.mono fun e w' hh => ?_
 obtain ⟨v, he, hR, hb⟩ := hh
 obtain ⟨A', c', rfl⟩ := Kd.R_slice hR
 exact ⟨A', c', he, hR, hb⟩
set_option maxRecDepth 100000 in
set_option maxHeartbeats 2000000 in
theorem number67_any (k n : Int) (w : World) : Calls Try.prog 67 #[.int .u8 k, .int .u64 n] w fun e w' => e = .returned (.agg #[.int .u8 k, .int .u64 n, .string ⟨#[]⟩, .slice none 0 0]) ∧ Below w.heap.size w w' := by
 go_enter Try.func67, Try.ntmps67
 go_wp2_with fail
 exact bodyPost_ret (results_cell_row rfl _ _ w.heap.size 25 #[.int .u8 k, .int .u64 n, .string ⟨#[]⟩, .slice none 0 0] (0, 0) _ rfl (blk_new _ _) Try.underlying25 rfl (by kernel_rfl)) rfl ⟨rfl, below_alloc (Below.refl _ _) _⟩
set_option maxRecDepth 100000 in
set_option maxHeartbeats 2000000 in
theorem put39_any (code : Int) (l : List S25) (hs : itemsL l ≤ 4000000000) (A : Option Addr) (c : Nat) (w : World) (ha : k25.C w A l.length l) (hc : l.length ≤ c) :
  Calls Try.prog 39 #[.int .u64 code, .slice A l.length c] w fun e w' => ∃ A' c', e = .returned (.agg #[.int .u8 25, .int .u64 0, .string ⟨#[]⟩, .slice A' 2 c']) ∧ k25.R 25 w' w.heap.size (fun _ => True) (.slice A' 2 c') (putV code l).f3 ∧ Below w.heap.size w w' := by
 have HA := Aside0.mk ha
 have hll : l.length ≤ 4000000000 := by have := itemsL_length l; omega
 have hit := itemsL_trim l
 have bR0 := Blk.new w #[.int .u8 0, .int .u64 0, .string ⟨#[]⟩, .slice none 0 0] 25
 have hal := below_alloc (Below.refl w.heap.size w) (.cells #[.int .u8 0, .int .u64 0, .string ⟨#[]⟩, .slice none 0 0] 25)
 have HAL := Aside0.mk (Kd.C_below ha hal)
 have HB0 := Aside0.mk hal
 clear ha hal
 go_enter Try.func39, Try.ntmps39
 go_wp2_with fail
 obtain ⟨b, eb⟩ : ∃ b, w.heap.size = b := ⟨_, rfl⟩
 obtain ⟨w1, ew⟩ : ∃ W, w.alloc (.cells #[.int .u8 0, .int .u64 0, .string ⟨#[]⟩, .slice none 0 0] 25) = W := ⟨_, rfl⟩
 have BB := Aside0.mk eb
 rw [ew] at bR0 HAL HB0 ⊢
 rw [eb] at bR0 ⊢
 have BR := Aside0.mk bR0
 clear ew eb bR0
 go_loopg [5] l.length (fun gk v5 wr => ∃ m : Nat, v5 = .int .i64 (m : Int) ∧ Aside0 (m ≤ l.length ∧ gk = m ∧ trimTo l m = trimTo l l.length) ∧ w1 = wr)
 case atStart => exact ⟨l.length, rfl, ⟨Nat.le_refl _, rfl, rfl⟩, rfl⟩
 case round =>
  obtain ⟨m, rfl, HM, rfl⟩ := hrel
  obtain ⟨hm, hgk, hT⟩ := HM.out
  have HG := Aside0.mk hgk
  have HT := Aside0.mk hT
  clear HM hgk hT
  by_cases h0 : 0 < m
  ·obtain ⟨m, rfl⟩ : ∃ k, m = k + 1 := ⟨m - 1, by omega⟩
   obtain ⟨ad, Ax, cx, eA, hx0, hx1, hx2, hx3, hlx, hCx⟩ := at_T25 HAL.out (m : Int) (by omega) (by omega)
   cases eA
   rw [Int.toNat_natCast] at hx0
   clear hx1 hx2 hx3 hCx hlx
   have hw : ((m + 1 : Nat) : Int) - 1 = (m : Int) := by omega
   have hml : m < l.length := by omega
   have hdef : trimTo l (m + 1) = if (rd_T25 l (m : Int)).f0 = 1 then trimTo l m else m + 1 := rfl
   by_cases hk : (rd_T25 l (m : Int)).f0 = 1
   ·have hk' : ((rd_T25 l (m : Int)).f0 == 1) = true := by rw [hk]; rfl
    rw [if_pos hk, HT.out] at hdef
    have HT2 := Aside0.mk hdef.symm
    clear hk hdef
    go_wp2_with fail
    go_roundg m
    case measure => rw [HG.out]; omega
    case rel => exact ⟨m, by go_num, ⟨by omega, rfl, HT2.out⟩, rfl⟩
   ·have hk' : ((rd_T25 l (m : Int)).f0 == 1) = false := by simp [hk]
    rw [if_neg hk, HT.out] at hdef
    have HT2 := Aside0.mk hdef.symm
    clear hk hdef
    go_wp2_with fail
    have hn : m + 1 ≤ l.length := hm
    have hz1 : (0 : Int) ≤ (m : Int) + 1 := by omega
    have hz2 : (m : Int) + 1 ≤ (c : Int) := by omega
    have HTN := HT2
    clear hx0 hw hml hk' h0 HG HT HT2
    have bR := BR.out
    clear BR
    refine start_ (n := 8) (S := fun w' => Blk w' b #[.int .u8 0, .int .u64 0, .string ⟨#[]⟩, .slice none 0 0] 25) (ds := [7]) #[false, false, false, false, false, false, false, false] (by kernel_rfl) rfl rfl bR (fun hS => ?_)
    replace HAL := Aside0.mk (Kd.C_below HAL.out (below_drew (Below.refl _ _)))
    replace HB0 := Aside0.mk (below_drew HB0.out)
    generalize w1.drew = wd1 at HAL HB0 hS ⊢
    clear bR
    refine pure_ (i := 0) (N := some 21) (v := ?_) (a' := ?_) #[true, false, false, false, false, false, false, false] rfl rfl (by kernel_rfl) (fun _ _ _ h => h) (Or.inl ⟨by rfl, ?_⟩) ?_ ?_
    rotate_left
    ·intro w'
     go_simp
     with_reducible rfl
    rotate_left
    ·simp only [Act.put, List.setIfInBounds_toArray, List.set_cons_zero, List.set_cons_succ, i64_w, i32_w]
     rfl
    refine pure_ (i := 2) (N := some 23) (v := ?_) (a' := ?_) #[true, false, true, false, false, false, false, false] rfl rfl (by kernel_rfl) (fun _ _ _ h => h) (Or.inl ⟨by rfl, ?_⟩) ?_ ?_
    rotate_left
    ·intro w'
     go_simp
     with_reducible rfl
    rotate_left
    ·simp only [Act.put, List.setIfInBounds_toArray, List.set_cons_zero, List.set_cons_succ, i64_w, i32_w]
     rfl
    refine pure_ (i := 3) (N := some 24) (v := ?_) (a' := ?_) #[true, false, true, true, false, false, false, false] rfl rfl (by kernel_rfl) (fun _ _ _ h => h) (Or.inl ⟨by rfl, ?_⟩) ?_ ?_
    rotate_left
    ·intro w'
     go_simp
     with_reducible rfl
    rotate_left
    ·simp only [Act.put, List.setIfInBounds_toArray, List.set_cons_zero, List.set_cons_succ, i64_w, i32_w]
     rfl
    refine pure_ (i := 4) (N := some 25) (v := ?_) (a' := ?_) #[true, false, true, true, true, false, false, false] rfl rfl (by kernel_rfl) (fun _ _ _ h => h) (Or.inl ⟨by rfl, ?_⟩) ?_ ?_
    rotate_left
    ·intro w'
     go_simp
     with_reducible rfl
    rotate_left
    ·simp only [Act.put, List.setIfInBounds_toArray, List.set_cons_zero, List.set_cons_succ, i64_w, i32_w]
     rfl
    refine one_ (i := 1) (N := some 22) #[true, true, true, true, true, false, false, false] rfl rfl (by kernel_rfl) (by decide) (fun K hK => ?_)
    refine goes_ Try.func23 (by kernel_rfl) rfl #[.int .u8 6, .int .u64 code] (by rfl) rfl rfl (by (try simp only [List.map_toArray, List.map_cons, List.map_nil]); first | done | rfl) ?_
    refine (number23_any 6 code _).mono ?_
    rintro e wk2 ⟨rfl, hb2⟩
    refine ⟨_, rfl, ?_⟩
    have hS2 : Blk wk2 b #[.int .u8 0, .int .u64 0, .string ⟨#[]⟩, .slice none 0 0] 25 := hS.below hb2
    have HAL2 := Aside0.mk (Kd.C_below HAL.out hb2)
    have HB02 := Aside0.mk (below_step HB0.out hb2)
    refine hK.out _ _ hS2 (fun _ => ?_)
    clear hK K hb2
    refine norm_ (a' := ?_) ?_ ?_
    rotate_left
    ·try simp only [Act.put, putAll, List.setIfInBounds_toArray, List.set_cons_zero, List.set_cons_succ]
     rfl
    refine one_ (i := 5) (N := some 26) #[true, true, true, true, true, true, false, false] rfl rfl (by kernel_rfl) (by decide) (fun K hK => ?_)
    refine goes_ Try.func21 (by kernel_rfl) rfl #[.int .u8 22, .slice (some ad) (m + 1) c] (by rfl) rfl rfl (by (try simp only [List.map_toArray, List.map_cons, List.map_nil]); first | done | rfl) ?_
    refine (many_take21 (m + 1) hn (by omega) (some ad) c _ HAL2.out hc).mono ?_
    rintro e wk3 ⟨Al, cl, rfl, hRl, hb3⟩
    have hcl := (Kd.R_reads' hRl).2.1
    have HCl3 := Aside0.mk (Kd.R_reads' hRl).2.2
    refine ⟨_, rfl, ?_⟩
    have hS3 : Blk wk3 b #[.int .u8 0, .int .u64 0, .string ⟨#[]⟩, .slice none 0 0] 25 := hS2.below hb3
    have HAL3 := Aside0.mk (Kd.C_below HAL2.out hb3)
    have HB03 := Aside0.mk (below_step HB02.out hb3)
    refine hK.out _ _ hS3 (fun _ => ?_)
    clear hK K hb3 hS2
    refine norm_ (a' := ?_) ?_ ?_
    rotate_left
    ·try simp only [Act.put, putAll, List.setIfInBounds_toArray, List.set_cons_zero, List.set_cons_succ]
     rfl
    refine one_ (i := 6) (N := some 27) #[true, true, true, true, true, true, true, false] rfl rfl (by kernel_rfl) (by decide) (fun K hK => ?_)
    refine goes_ Try.func28 (by kernel_rfl) rfl #[.agg #[.int .u8 6, .int .u64 code, .string ⟨#[]⟩, .slice none 0 0], .agg #[.int .u8 22, .int .u64 0, .string ⟨#[]⟩, .slice Al (l.take (m + 1)).length cl]] (by rfl) rfl rfl (by (try simp only [List.map_toArray, List.map_cons, List.map_nil]); first | done | rfl) ?_
    refine (desc28_any ⟨6, code, ⟨#[]⟩, []⟩ ⟨22, 0, ⟨#[]⟩, (l.take (m + 1))⟩ (by have := itemsL_take l (m + 1); simp only [itemsN, itemsL]; omega) none Al 0 cl _ (C_none _) (Nat.le_refl _) HCl3.out hcl).mono ?_
    rintro e wk4 ⟨vd, rfl, hRd, hb4⟩
    obtain ⟨Ad, cd, rfl⟩ := Kd.R_slice hRd
    have HRD := Aside0.mk (Kd.R_bound hRd)
    have hltb := hS3.lt
    refine ⟨_, rfl, ?_⟩
    have hS4 : Blk wk4 b #[.int .u8 0, .int .u64 0, .string ⟨#[]⟩, .slice none 0 0] 25 := hS3.below hb4
    have HAL4 := Aside0.mk (Kd.C_below HAL3.out hb4)
    have HB04 := Aside0.mk (below_step HB03.out hb4)
    have HCl4 := Aside0.mk (Kd.C_below HCl3.out hb4)
    refine hK.out _ _ hS4 (fun _ => ?_)
    clear hK K hb4 hS3
    refine norm_ (a' := ?_) ?_ ?_
    rotate_left
    ·try simp only [Act.put, putAll, List.setIfInBounds_toArray, List.set_cons_zero, List.set_cons_succ]
     rfl
    refine last_ (i := 7) (N := none) #[true, true, true, true, true, true, true, true] rfl rfl (by kernel_rfl) (by decide) (fun K hK => ?_)
    rw [if_pos (by rfl)]
    obtain ⟨e0, e1, e2, e3⟩ := hS4.c4
    have fz := hS4.fz
    unfold Oper.wp
    go_simp
    refine hK.out _ _ ?_
    refine done_ (by kernel_rfl) ?_
    go_wp2_with fail
    have hge : w.heap.size ≤ b := Nat.le_of_eq BB.out
    have hsz := HB03.out.size
    refine bodyPost_ret (results_cell_row rfl _ _ b 25 #[.int .u8 25, .int .u64 0, .string ⟨#[]⟩, .slice Ad 2 cd] (0, 0) _ rfl (by
     refine blk_put (cs := #[.int .u8 25, .int .u64 0, .string ⟨#[]⟩, .slice none 0 0]) ?_ 3 _ rfl
     refine blk_put (cs := #[.int .u8 25, .int .u64 0, .string ⟨#[]⟩, .slice none 0 0]) ?_ 2 _ rfl
     refine blk_put (cs := #[.int .u8 25, .int .u64 0, .string ⟨#[]⟩, .slice none 0 0]) ?_ 1 _ rfl
     refine blk_put (cs := #[.int .u8 0, .int .u64 0, .string ⟨#[]⟩, .slice none 0 0]) ?_ 0 _ rfl
     exact hS4) Try.underlying25 rfl (by kernel_rfl)) rfl ?_
    have hpv : putV code l = ⟨25, 0, ⟨#[]⟩, [⟨6, code, ⟨#[]⟩, []⟩, ⟨22, 0, ⟨#[]⟩, (l.take (m + 1))⟩]⟩ := by unfold putV trimL; rw [← HTN.out]
    refine ⟨Ad, cd, rfl, ?_, below_set (below_set (below_set (below_set HB04.out hge) hge) hge) hge⟩
    rw [hpv]
    exact Kd.R_mono (Kd.R_lower (Kd.R_far (Kd.R_far (Kd.R_far (Kd.R_far (Kd.R_mono (ok' := fun j => j ≠ b) HRD.out (fun j hj => by have := hj.2.1; omega)) (fun _ h => h) _) (fun _ h => h) _) (fun _ h => h) _) (fun _ h => h) _) (by omega)) (fun _ _ => trivial)
  ·obtain rfl : m = 0 := by omega
   have HTN : Aside0 (0 = trimTo l l.length) := ⟨by rw [← HT.out]; rfl⟩
   have hn : 0 ≤ l.length := Nat.zero_le _
   clear HT HG h0 hm
   go_wp2_with fail
   have bR := BR.out
   clear BR
   refine start_ (n := 8) (S := fun w' => Blk w' b #[.int .u8 0, .int .u64 0, .string ⟨#[]⟩, .slice none 0 0] 25) (ds := [7]) #[false, false, false, false, false, false, false, false] (by kernel_rfl) rfl rfl bR (fun hS => ?_)
   replace HAL := Aside0.mk (Kd.C_below HAL.out (below_drew (Below.refl _ _)))
   replace HB0 := Aside0.mk (below_drew HB0.out)
   generalize w1.drew = wd5 at HAL HB0 hS ⊢
   clear bR
   refine pure_ (i := 0) (N := some 21) (v := ?_) (a' := ?_) #[true, false, false, false, false, false, false, false] rfl rfl (by kernel_rfl) (fun _ _ _ h => h) (Or.inl ⟨by rfl, ?_⟩) ?_ ?_
   rotate_left
   ·intro w'
    go_simp
    with_reducible rfl
   rotate_left
   ·simp only [Act.put, List.setIfInBounds_toArray, List.set_cons_zero, List.set_cons_succ, i64_w, i32_w]
    rfl
   refine pure_ (i := 2) (N := some 23) (v := ?_) (a' := ?_) #[true, false, true, false, false, false, false, false] rfl rfl (by kernel_rfl) (fun _ _ _ h => h) (Or.inl ⟨by rfl, ?_⟩) ?_ ?_
   rotate_left
   ·intro w'
    go_simp
    with_reducible rfl
   rotate_left
   ·simp only [Act.put, List.setIfInBounds_toArray, List.set_cons_zero, List.set_cons_succ, i64_w, i32_w]
    rfl
   refine pure_ (i := 3) (N := some 24) (v := ?_) (a' := ?_) #[true, false, true, true, false, false, false, false] rfl rfl (by kernel_rfl) (fun _ _ _ h => h) (Or.inl ⟨by rfl, ?_⟩) ?_ ?_
   rotate_left
   ·intro w'
    go_simp
    with_reducible rfl
   rotate_left
   ·simp only [Act.put, List.setIfInBounds_toArray, List.set_cons_zero, List.set_cons_succ, i64_w, i32_w]
    rfl
   refine pure_ (i := 4) (N := some 25) (v := ?_) (a' := ?_) #[true, false, true, true, true, false, false, false] rfl rfl (by kernel_rfl) (fun _ _ _ h => h) (Or.inl ⟨by rfl, ?_⟩) ?_ ?_
   rotate_left
   ·intro w'
    go_simp
    with_reducible rfl
   rotate_left
   ·simp only [Act.put, List.setIfInBounds_toArray, List.set_cons_zero, List.set_cons_succ, i64_w, i32_w]
    rfl
   refine one_ (i := 1) (N := some 22) #[true, true, true, true, true, false, false, false] rfl rfl (by kernel_rfl) (by decide) (fun K hK => ?_)
   refine goes_ Try.func23 (by kernel_rfl) rfl #[.int .u8 6, .int .u64 code] (by rfl) rfl rfl (by (try simp only [List.map_toArray, List.map_cons, List.map_nil]); first | done | rfl) ?_
   refine (number23_any 6 code _).mono ?_
   rintro e wk6 ⟨rfl, hb6⟩
   refine ⟨_, rfl, ?_⟩
   have hS6 : Blk wk6 b #[.int .u8 0, .int .u64 0, .string ⟨#[]⟩, .slice none 0 0] 25 := hS.below hb6
   have HAL6 := Aside0.mk (Kd.C_below HAL.out hb6)
   have HB06 := Aside0.mk (below_step HB0.out hb6)
   refine hK.out _ _ hS6 (fun _ => ?_)
   clear hK K hb6
   refine norm_ (a' := ?_) ?_ ?_
   rotate_left
   ·try simp only [Act.put, putAll, List.setIfInBounds_toArray, List.set_cons_zero, List.set_cons_succ]
    rfl
   refine one_ (i := 5) (N := some 26) #[true, true, true, true, true, true, false, false] rfl rfl (by kernel_rfl) (by decide) (fun K hK => ?_)
   refine goes_ Try.func21 (by kernel_rfl) rfl #[.int .u8 22, .slice A 0 c] (by rfl) rfl rfl (by (try simp only [List.map_toArray, List.map_cons, List.map_nil]); first | done | rfl) ?_
   refine (many_take21 0 hn (by omega) A c _ HAL6.out hc).mono ?_
   rintro e wk7 ⟨Al, cl, rfl, hRl, hb7⟩
   have hcl := (Kd.R_reads' hRl).2.1
   have HCl7 := Aside0.mk (Kd.R_reads' hRl).2.2
   refine ⟨_, rfl, ?_⟩
   have hS7 : Blk wk7 b #[.int .u8 0, .int .u64 0, .string ⟨#[]⟩, .slice none 0 0] 25 := hS6.below hb7
   have HAL7 := Aside0.mk (Kd.C_below HAL6.out hb7)
   have HB07 := Aside0.mk (below_step HB06.out hb7)
   refine hK.out _ _ hS7 (fun _ => ?_)
   clear hK K hb7 hS6
   refine norm_ (a' := ?_) ?_ ?_
   rotate_left
   ·try simp only [Act.put, putAll, List.setIfInBounds_toArray, List.set_cons_zero, List.set_cons_succ]
    rfl
   refine one_ (i := 6) (N := some 27) #[true, true, true, true, true, true, true, false] rfl rfl (by kernel_rfl) (by decide) (fun K hK => ?_)
   refine goes_ Try.func28 (by kernel_rfl) rfl #[.agg #[.int .u8 6, .int .u64 code, .string ⟨#[]⟩, .slice none 0 0], .agg #[.int .u8 22, .int .u64 0, .string ⟨#[]⟩, .slice Al (l.take 0).length cl]] (by rfl) rfl rfl (by (try simp only [List.map_toArray, List.map_cons, List.map_nil]); first | done | rfl) ?_
   refine (desc28_any ⟨6, code, ⟨#[]⟩, []⟩ ⟨22, 0, ⟨#[]⟩, (l.take 0)⟩ (by have := itemsL_take l 0; simp only [itemsN, itemsL]; omega) none Al 0 cl _ (C_none _) (Nat.le_refl _) HCl7.out hcl).mono ?_
   rintro e wk8 ⟨vd, rfl, hRd, hb8⟩
   obtain ⟨Ad, cd, rfl⟩ := Kd.R_slice hRd
   have HRD := Aside0.mk (Kd.R_bound hRd)
   have hltb := hS7.lt
   refine ⟨_, rfl, ?_⟩
   have hS8 : Blk wk8 b #[.int .u8 0, .int .u64 0, .string ⟨#[]⟩, .slice none 0 0] 25 := hS7.below hb8
   have HAL8 := Aside0.mk (Kd.C_below HAL7.out hb8)
   have HB08 := Aside0.mk (below_step HB07.out hb8)
   have HCl8 := Aside0.mk (Kd.C_below HCl7.out hb8)
   refine hK.out _ _ hS8 (fun _ => ?_)
   clear hK K hb8 hS7
   refine norm_ (a' := ?_) ?_ ?_
   rotate_left
   ·try simp only [Act.put, putAll, List.setIfInBounds_toArray, List.set_cons_zero, List.set_cons_succ]
    rfl
   refine last_ (i := 7) (N := none) #[true, true, true, true, true, true, true, true] rfl rfl (by kernel_rfl) (by decide) (fun K hK => ?_)
   rw [if_pos (by rfl)]
   obtain ⟨e0, e1, e2, e3⟩ := hS8.c4
   have fz := hS8.fz
   unfold Oper.wp
   go_simp
   refine hK.out _ _ ?_
   refine done_ (by kernel_rfl) ?_
   go_wp2_with fail
   have hge : w.heap.size ≤ b := Nat.le_of_eq BB.out
   have hsz := HB07.out.size
   refine bodyPost_ret (results_cell_row rfl _ _ b 25 #[.int .u8 25, .int .u64 0, .string ⟨#[]⟩, .slice Ad 2 cd] (0, 0) _ rfl (by
    refine blk_put (cs := #[.int .u8 25, .int .u64 0, .string ⟨#[]⟩, .slice none 0 0]) ?_ 3 _ rfl
    refine blk_put (cs := #[.int .u8 25, .int .u64 0, .string ⟨#[]⟩, .slice none 0 0]) ?_ 2 _ rfl
    refine blk_put (cs := #[.int .u8 25, .int .u64 0, .string ⟨#[]⟩, .slice none 0 0]) ?_ 1 _ rfl
    refine blk_put (cs := #[.int .u8 0, .int .u64 0, .string ⟨#[]⟩, .slice none 0 0]) ?_ 0 _ rfl
    exact hS8) Try.underlying25 rfl (by kernel_rfl)) rfl ?_
   have hpv : putV code l = ⟨25, 0, ⟨#[]⟩, [⟨6, code, ⟨#[]⟩, []⟩, ⟨22, 0, ⟨#[]⟩, (l.take 0)⟩]⟩ := by unfold putV trimL; rw [← HTN.out]
   refine ⟨Ad, cd, rfl, ?_, below_set (below_set (below_set (below_set HB08.out hge) hge) hge) hge⟩
   rw [hpv]
   exact Kd.R_mono (Kd.R_lower (Kd.R_far (Kd.R_far (Kd.R_far (Kd.R_far (Kd.R_mono (ok' := fun j => j ≠ b) HRD.out (fun j hj => by have := hj.2.1; omega)) (fun _ h => h) _) (fun _ h => h) _) (fun _ h => h) _) (fun _ h => h) _) (by omega)) (fun _ _ => trivial)
set_option maxRecDepth 100000 in
set_option maxHeartbeats 2000000 in
theorem rput40_any (code : Int) (l : List S25) (hs : itemsL l ≤ 4000000000) (A : Option Addr) (c : Nat) (w : World) (ha : k25.C w A l.length l) (hc : l.length ≤ c) :
  Calls Try.prog 40 #[.int .u64 code, .slice A l.length c] w fun e w' => ∃ A' c', e = .returned (.agg #[.int .u8 25, .int .u64 0, .string ⟨#[]⟩, .slice A' 2 c']) ∧ k25.R 25 w' w.heap.size (fun _ => True) (.slice A' 2 c') (putV code l).f3 ∧ Below w.heap.size w w' := by
 have HA := Aside0.mk ha
 have hll : l.length ≤ 4000000000 := by have := itemsL_length l; omega
 have hit := itemsL_trim l
 have bR0 := Blk.new w #[.int .u8 0, .int .u64 0, .string ⟨#[]⟩, .slice none 0 0] 25
 have hal := below_alloc (Below.refl w.heap.size w) (.cells #[.int .u8 0, .int .u64 0, .string ⟨#[]⟩, .slice none 0 0] 25)
 have HAL := Aside0.mk (Kd.C_below ha hal)
 have HB0 := Aside0.mk hal
 clear ha hal
 go_enter Try.func40, Try.ntmps40
 go_wp2_with fail
 obtain ⟨b, eb⟩ : ∃ b, w.heap.size = b := ⟨_, rfl⟩
 obtain ⟨w1, ew⟩ : ∃ W, w.alloc (.cells #[.int .u8 0, .int .u64 0, .string ⟨#[]⟩, .slice none 0 0] 25) = W := ⟨_, rfl⟩
 have BB := Aside0.mk eb
 rw [ew] at bR0 HAL HB0 ⊢
 rw [eb] at bR0 ⊢
 have BR := Aside0.mk bR0
 clear ew eb bR0
 go_loopg [5] l.length (fun gk v5 wr => ∃ m : Nat, v5 = .int .i64 (m : Int) ∧ Aside0 (m ≤ l.length ∧ gk = m ∧ trimTo l m = trimTo l l.length) ∧ w1 = wr)
 case atStart => exact ⟨l.length, rfl, ⟨Nat.le_refl _, rfl, rfl⟩, rfl⟩
 case round =>
  obtain ⟨m, rfl, HM, rfl⟩ := hrel
  obtain ⟨hm, hgk, hT⟩ := HM.out
  have HG := Aside0.mk hgk
  have HT := Aside0.mk hT
  clear HM hgk hT
  by_cases h0 : 0 < m
  ·obtain ⟨m, rfl⟩ : ∃ k, m = k + 1 := ⟨m - 1, by omega⟩
   obtain ⟨ad, Ax, cx, eA, hx0, hx1, hx2, hx3, hlx, hCx⟩ := at_T25 HAL.out (m : Int) (by omega) (by omega)
   cases eA
   rw [Int.toNat_natCast] at hx0
   clear hx1 hx2 hx3 hCx hlx
   have hw : ((m + 1 : Nat) : Int) - 1 = (m : Int) := by omega
   have hml : m < l.length := by omega
   have hdef : trimTo l (m + 1) = if (rd_T25 l (m : Int)).f0 = 1 then trimTo l m else m + 1 := rfl
   by_cases hk : (rd_T25 l (m : Int)).f0 = 1
   ·have hk' : ((rd_T25 l (m : Int)).f0 == 1) = true := by rw [hk]; rfl
    rw [if_pos hk, HT.out] at hdef
    have HT2 := Aside0.mk hdef.symm
    clear hk hdef
    go_wp2_with fail
    go_roundg m
    case measure => rw [HG.out]; omega
    case rel => exact ⟨m, by go_num, ⟨by omega, rfl, HT2.out⟩, rfl⟩
   ·have hk' : ((rd_T25 l (m : Int)).f0 == 1) = false := by simp [hk]
    rw [if_neg hk, HT.out] at hdef
    have HT2 := Aside0.mk hdef.symm
    clear hk hdef
    go_wp2_with fail
    have hn : m + 1 ≤ l.length := hm
    have hz1 : (0 : Int) ≤ (m : Int) + 1 := by omega
    have hz2 : (m : Int) + 1 ≤ (c : Int) := by omega
    have HTN := HT2
    clear hx0 hw hml hk' h0 HG HT HT2
    have bR := BR.out
    clear BR
    refine start_ (n := 8) (S := fun w' => Blk w' b #[.int .u8 0, .int .u64 0, .string ⟨#[]⟩, .slice none 0 0] 25) (ds := [7]) #[false, false, false, false, false, false, false, false] (by kernel_rfl) rfl rfl bR (fun hS => ?_)
    replace HAL := Aside0.mk (Kd.C_below HAL.out (below_drew (Below.refl _ _)))
    replace HB0 := Aside0.mk (below_drew HB0.out)
    generalize w1.drew = wd9 at HAL HB0 hS ⊢
    clear bR
    refine pure_ (i := 0) (N := some 21) (v := ?_) (a' := ?_) #[true, false, false, false, false, false, false, false] rfl rfl (by kernel_rfl) (fun _ _ _ h => h) (Or.inl ⟨by rfl, ?_⟩) ?_ ?_
    rotate_left
    ·intro w'
     go_simp
     with_reducible rfl
    rotate_left
    ·simp only [Act.put, List.setIfInBounds_toArray, List.set_cons_zero, List.set_cons_succ, i64_w, i32_w]
     rfl
    refine pure_ (i := 2) (N := some 23) (v := ?_) (a' := ?_) #[true, false, true, false, false, false, false, false] rfl rfl (by kernel_rfl) (fun _ _ _ h => h) (Or.inl ⟨by rfl, ?_⟩) ?_ ?_
    rotate_left
    ·intro w'
     go_simp
     with_reducible rfl
    rotate_left
    ·simp only [Act.put, List.setIfInBounds_toArray, List.set_cons_zero, List.set_cons_succ, i64_w, i32_w]
     rfl
    refine pure_ (i := 3) (N := some 24) (v := ?_) (a' := ?_) #[true, false, true, true, false, false, false, false] rfl rfl (by kernel_rfl) (fun _ _ _ h => h) (Or.inl ⟨by rfl, ?_⟩) ?_ ?_
    rotate_left
    ·intro w'
     go_simp
     with_reducible rfl
    rotate_left
    ·simp only [Act.put, List.setIfInBounds_toArray, List.set_cons_zero, List.set_cons_succ, i64_w, i32_w]
     rfl
    refine pure_ (i := 4) (N := some 25) (v := ?_) (a' := ?_) #[true, false, true, true, true, false, false, false] rfl rfl (by kernel_rfl) (fun _ _ _ h => h) (Or.inl ⟨by rfl, ?_⟩) ?_ ?_
    rotate_left
    ·intro w'
     go_simp
     with_reducible rfl
    rotate_left
    ·simp only [Act.put, List.setIfInBounds_toArray, List.set_cons_zero, List.set_cons_succ, i64_w, i32_w]
     rfl
    refine one_ (i := 1) (N := some 22) #[true, true, true, true, true, false, false, false] rfl rfl (by kernel_rfl) (by decide) (fun K hK => ?_)
    refine goes_ Try.func67 (by kernel_rfl) rfl #[.int .u8 6, .int .u64 code] (by rfl) rfl rfl (by (try simp only [List.map_toArray, List.map_cons, List.map_nil]); first | done | rfl) ?_
    refine (number67_any 6 code _).mono ?_
    rintro e wk10 ⟨rfl, hb10⟩
    refine ⟨_, rfl, ?_⟩
    have hS10 : Blk wk10 b #[.int .u8 0, .int .u64 0, .string ⟨#[]⟩, .slice none 0 0] 25 := hS.below hb10
    have HAL10 := Aside0.mk (Kd.C_below HAL.out hb10)
    have HB010 := Aside0.mk (below_step HB0.out hb10)
    refine hK.out _ _ hS10 (fun _ => ?_)
    clear hK K hb10
    refine norm_ (a' := ?_) ?_ ?_
    rotate_left
    ·try simp only [Act.put, putAll, List.setIfInBounds_toArray, List.set_cons_zero, List.set_cons_succ]
     rfl
    refine one_ (i := 5) (N := some 26) #[true, true, true, true, true, true, false, false] rfl rfl (by kernel_rfl) (by decide) (fun K hK => ?_)
    refine goes_ Try.func25 (by kernel_rfl) rfl #[.int .u8 22, .slice (some ad) (m + 1) c] (by rfl) rfl rfl (by (try simp only [List.map_toArray, List.map_cons, List.map_nil]); first | done | rfl) ?_
    refine (many_take25 (m + 1) hn (by omega) (some ad) c _ HAL10.out hc).mono ?_
    rintro e wk11 ⟨Al, cl, rfl, hRl, hb11⟩
    have hcl := (Kd.R_reads' hRl).2.1
    have HCl11 := Aside0.mk (Kd.R_reads' hRl).2.2
    refine ⟨_, rfl, ?_⟩
    have hS11 : Blk wk11 b #[.int .u8 0, .int .u64 0, .string ⟨#[]⟩, .slice none 0 0] 25 := hS10.below hb11
    have HAL11 := Aside0.mk (Kd.C_below HAL10.out hb11)
    have HB011 := Aside0.mk (below_step HB010.out hb11)
    refine hK.out _ _ hS11 (fun _ => ?_)
    clear hK K hb11 hS10
    refine norm_ (a' := ?_) ?_ ?_
    rotate_left
    ·try simp only [Act.put, putAll, List.setIfInBounds_toArray, List.set_cons_zero, List.set_cons_succ]
     rfl
    refine one_ (i := 6) (N := some 27) #[true, true, true, true, true, true, true, false] rfl rfl (by kernel_rfl) (by decide) (fun K hK => ?_)
    refine goes_ Try.func29 (by kernel_rfl) rfl #[.agg #[.int .u8 6, .int .u64 code, .string ⟨#[]⟩, .slice none 0 0], .agg #[.int .u8 22, .int .u64 0, .string ⟨#[]⟩, .slice Al (l.take (m + 1)).length cl]] (by rfl) rfl rfl (by (try simp only [List.map_toArray, List.map_cons, List.map_nil]); first | done | rfl) ?_
    refine (rdesc29_any ⟨6, code, ⟨#[]⟩, []⟩ ⟨22, 0, ⟨#[]⟩, (l.take (m + 1))⟩ (by simp [itemsN, itemsL]) (by have := itemsL_take l (m + 1); simp only [itemsN]; omega) none Al 0 cl _ (C_none _) (Nat.le_refl _) HCl11.out hcl).mono ?_
    rintro e wk12 ⟨vd, rfl, hRd, hb12⟩
    obtain ⟨Ad, cd, rfl⟩ := Kd.R_slice hRd
    have HRD := Aside0.mk (Kd.R_bound hRd)
    have hltb := hS11.lt
    refine ⟨_, rfl, ?_⟩
    have hS12 : Blk wk12 b #[.int .u8 0, .int .u64 0, .string ⟨#[]⟩, .slice none 0 0] 25 := hS11.below hb12
    have HAL12 := Aside0.mk (Kd.C_below HAL11.out hb12)
    have HB012 := Aside0.mk (below_step HB011.out hb12)
    have HCl12 := Aside0.mk (Kd.C_below HCl11.out hb12)
    refine hK.out _ _ hS12 (fun _ => ?_)
    clear hK K hb12 hS11
    refine norm_ (a' := ?_) ?_ ?_
    rotate_left
    ·try simp only [Act.put, putAll, List.setIfInBounds_toArray, List.set_cons_zero, List.set_cons_succ]
     rfl
    refine last_ (i := 7) (N := none) #[true, true, true, true, true, true, true, true] rfl rfl (by kernel_rfl) (by decide) (fun K hK => ?_)
    rw [if_pos (by rfl)]
    obtain ⟨e0, e1, e2, e3⟩ := hS12.c4
    have fz := hS12.fz
    unfold Oper.wp
    go_simp
    refine hK.out _ _ ?_
    refine done_ (by kernel_rfl) ?_
    go_wp2_with fail
    have hge : w.heap.size ≤ b := Nat.le_of_eq BB.out
    have hsz := HB011.out.size
    refine bodyPost_ret (results_cell_row rfl _ _ b 25 #[.int .u8 25, .int .u64 0, .string ⟨#[]⟩, .slice Ad 2 cd] (0, 0) _ rfl (by
     refine blk_put (cs := #[.int .u8 25, .int .u64 0, .string ⟨#[]⟩, .slice none 0 0]) ?_ 3 _ rfl
     refine blk_put (cs := #[.int .u8 25, .int .u64 0, .string ⟨#[]⟩, .slice none 0 0]) ?_ 2 _ rfl
     refine blk_put (cs := #[.int .u8 25, .int .u64 0, .string ⟨#[]⟩, .slice none 0 0]) ?_ 1 _ rfl
     refine blk_put (cs := #[.int .u8 0, .int .u64 0, .string ⟨#[]⟩, .slice none 0 0]) ?_ 0 _ rfl
     exact hS12) Try.underlying25 rfl (by kernel_rfl)) rfl ?_
    have hpv : putV code l = ⟨25, 0, ⟨#[]⟩, [⟨6, code, ⟨#[]⟩, []⟩, ⟨22, 0, ⟨#[]⟩, (l.take (m + 1))⟩]⟩ := by unfold putV trimL; rw [← HTN.out]
    refine ⟨Ad, cd, rfl, ?_, below_set (below_set (below_set (below_set HB012.out hge) hge) hge) hge⟩
    rw [hpv]
    exact Kd.R_mono (Kd.R_lower (Kd.R_far (Kd.R_far (Kd.R_far (Kd.R_far (Kd.R_mono (ok' := fun j => j ≠ b) HRD.out (fun j hj => by have := hj.2.1; omega)) (fun _ h => h) _) (fun _ h => h) _) (fun _ h => h) _) (fun _ h => h) _) (by omega)) (fun _ _ => trivial)
  ·obtain rfl : m = 0 := by omega
   have HTN : Aside0 (0 = trimTo l l.length) := ⟨by rw [← HT.out]; rfl⟩
   have hn : 0 ≤ l.length := Nat.zero_le _
   clear HT HG h0 hm
   go_wp2_with fail
   have bR := BR.out
   clear BR
   refine start_ (n := 8) (S := fun w' => Blk w' b #[.int .u8 0, .int .u64 0, .string ⟨#[]⟩, .slice none 0 0] 25) (ds := [7]) #[false, false, false, false, false, false, false, false] (by kernel_rfl) rfl rfl bR (fun hS => ?_)
   replace HAL := Aside0.mk (Kd.C_below HAL.out (below_drew (Below.refl _ _)))
   replace HB0 := Aside0.mk (below_drew HB0.out)
   generalize w1.drew = wd13 at HAL HB0 hS ⊢
   clear bR
   refine pure_ (i := 0) (N := some 21) (v := ?_) (a' := ?_) #[true, false, false, false, false, false, false, false] rfl rfl (by kernel_rfl) (fun _ _ _ h => h) (Or.inl ⟨by rfl, ?_⟩) ?_ ?_
   rotate_left
   ·intro w'
    go_simp
    with_reducible rfl
   rotate_left
   ·simp only [Act.put, List.setIfInBounds_toArray, List.set_cons_zero, List.set_cons_succ, i64_w, i32_w]
    rfl
   refine pure_ (i := 2) (N := some 23) (v := ?_) (a' := ?_) #[true, false, true, false, false, false, false, false] rfl rfl (by kernel_rfl) (fun _ _ _ h => h) (Or.inl ⟨by rfl, ?_⟩) ?_ ?_
   rotate_left
   ·intro w'
    go_simp
    with_reducible rfl
   rotate_left
   ·simp only [Act.put, List.setIfInBounds_toArray, List.set_cons_zero, List.set_cons_succ, i64_w, i32_w]
    rfl
   refine pure_ (i := 3) (N := some 24) (v := ?_) (a' := ?_) #[true, false, true, true, false, false, false, false] rfl rfl (by kernel_rfl) (fun _ _ _ h => h) (Or.inl ⟨by rfl, ?_⟩) ?_ ?_
   rotate_left
   ·intro w'
    go_simp
    with_reducible rfl
   rotate_left
   ·simp only [Act.put, List.setIfInBounds_toArray, List.set_cons_zero, List.set_cons_succ, i64_w, i32_w]
    rfl
   refine pure_ (i := 4) (N := some 25) (v := ?_) (a' := ?_) #[true, false, true, true, true, false, false, false] rfl rfl (by kernel_rfl) (fun _ _ _ h => h) (Or.inl ⟨by rfl, ?_⟩) ?_ ?_
   rotate_left
   ·intro w'
    go_simp
    with_reducible rfl
   rotate_left
   ·simp only [Act.put, List.setIfInBounds_toArray, List.set_cons_zero, List.set_cons_succ, i64_w, i32_w]
    rfl
   refine one_ (i := 1) (N := some 22) #[true, true, true, true, true, false, false, false] rfl rfl (by kernel_rfl) (by decide) (fun K hK => ?_)
   refine goes_ Try.func67 (by kernel_rfl) rfl #[.int .u8 6, .int .u64 code] (by rfl) rfl rfl (by (try simp only [List.map_toArray, List.map_cons, List.map_nil]); first | done | rfl) ?_
   refine (number67_any 6 code _).mono ?_
   rintro e wk14 ⟨rfl, hb14⟩
   refine ⟨_, rfl, ?_⟩
   have hS14 : Blk wk14 b #[.int .u8 0, .int .u64 0, .string ⟨#[]⟩, .slice none 0 0] 25 := hS.below hb14
   have HAL14 := Aside0.mk (Kd.C_below HAL.out hb14)
   have HB014 := Aside0.mk (below_step HB0.out hb14)
   refine hK.out _ _ hS14 (fun _ => ?_)
   clear hK K hb14
   refine norm_ (a' := ?_) ?_ ?_
   rotate_left
   ·try simp only [Act.put, putAll, List.setIfInBounds_toArray, List.set_cons_zero, List.set_cons_succ]
    rfl
   refine one_ (i := 5) (N := some 26) #[true, true, true, true, true, true, false, false] rfl rfl (by kernel_rfl) (by decide) (fun K hK => ?_)
   refine goes_ Try.func25 (by kernel_rfl) rfl #[.int .u8 22, .slice A 0 c] (by rfl) rfl rfl (by (try simp only [List.map_toArray, List.map_cons, List.map_nil]); first | done | rfl) ?_
   refine (many_take25 0 hn (by omega) A c _ HAL14.out hc).mono ?_
   rintro e wk15 ⟨Al, cl, rfl, hRl, hb15⟩
   have hcl := (Kd.R_reads' hRl).2.1
   have HCl15 := Aside0.mk (Kd.R_reads' hRl).2.2
   refine ⟨_, rfl, ?_⟩
   have hS15 : Blk wk15 b #[.int .u8 0, .int .u64 0, .string ⟨#[]⟩, .slice none 0 0] 25 := hS14.below hb15
   have HAL15 := Aside0.mk (Kd.C_below HAL14.out hb15)
   have HB015 := Aside0.mk (below_step HB014.out hb15)
   refine hK.out _ _ hS15 (fun _ => ?_)
   clear hK K hb15 hS14
   refine norm_ (a' := ?_) ?_ ?_
   rotate_left
   ·try simp only [Act.put, putAll, List.setIfInBounds_toArray, List.set_cons_zero, List.set_cons_succ]
    rfl
   refine one_ (i := 6) (N := some 27) #[true, true, true, true, true, true, true, false] rfl rfl (by kernel_rfl) (by decide) (fun K hK => ?_)
   refine goes_ Try.func29 (by kernel_rfl) rfl #[.agg #[.int .u8 6, .int .u64 code, .string ⟨#[]⟩, .slice none 0 0], .agg #[.int .u8 22, .int .u64 0, .string ⟨#[]⟩, .slice Al (l.take 0).length cl]] (by rfl) rfl rfl (by (try simp only [List.map_toArray, List.map_cons, List.map_nil]); first | done | rfl) ?_
   refine (rdesc29_any ⟨6, code, ⟨#[]⟩, []⟩ ⟨22, 0, ⟨#[]⟩, (l.take 0)⟩ (by simp [itemsN, itemsL]) (by have := itemsL_take l 0; simp only [itemsN]; omega) none Al 0 cl _ (C_none _) (Nat.le_refl _) HCl15.out hcl).mono ?_
   rintro e wk16 ⟨vd, rfl, hRd, hb16⟩
   obtain ⟨Ad, cd, rfl⟩ := Kd.R_slice hRd
   have HRD := Aside0.mk (Kd.R_bound hRd)
   have hltb := hS15.lt
   refine ⟨_, rfl, ?_⟩
   have hS16 : Blk wk16 b #[.int .u8 0, .int .u64 0, .string ⟨#[]⟩, .slice none 0 0] 25 := hS15.below hb16
   have HAL16 := Aside0.mk (Kd.C_below HAL15.out hb16)
   have HB016 := Aside0.mk (below_step HB015.out hb16)
   have HCl16 := Aside0.mk (Kd.C_below HCl15.out hb16)
   refine hK.out _ _ hS16 (fun _ => ?_)
   clear hK K hb16 hS15
   refine norm_ (a' := ?_) ?_ ?_
   rotate_left
   ·try simp only [Act.put, putAll, List.setIfInBounds_toArray, List.set_cons_zero, List.set_cons_succ]
    rfl
   refine last_ (i := 7) (N := none) #[true, true, true, true, true, true, true, true] rfl rfl (by kernel_rfl) (by decide) (fun K hK => ?_)
   rw [if_pos (by rfl)]
   obtain ⟨e0, e1, e2, e3⟩ := hS16.c4
   have fz := hS16.fz
   unfold Oper.wp
   go_simp
   refine hK.out _ _ ?_
   refine done_ (by kernel_rfl) ?_
   go_wp2_with fail
   have hge : w.heap.size ≤ b := Nat.le_of_eq BB.out
   have hsz := HB015.out.size
   refine bodyPost_ret (results_cell_row rfl _ _ b 25 #[.int .u8 25, .int .u64 0, .string ⟨#[]⟩, .slice Ad 2 cd] (0, 0) _ rfl (by
    refine blk_put (cs := #[.int .u8 25, .int .u64 0, .string ⟨#[]⟩, .slice none 0 0]) ?_ 3 _ rfl
    refine blk_put (cs := #[.int .u8 25, .int .u64 0, .string ⟨#[]⟩, .slice none 0 0]) ?_ 2 _ rfl
    refine blk_put (cs := #[.int .u8 25, .int .u64 0, .string ⟨#[]⟩, .slice none 0 0]) ?_ 1 _ rfl
    refine blk_put (cs := #[.int .u8 0, .int .u64 0, .string ⟨#[]⟩, .slice none 0 0]) ?_ 0 _ rfl
    exact hS16) Try.underlying25 rfl (by kernel_rfl)) rfl ?_
   have hpv : putV code l = ⟨25, 0, ⟨#[]⟩, [⟨6, code, ⟨#[]⟩, []⟩, ⟨22, 0, ⟨#[]⟩, (l.take 0)⟩]⟩ := by unfold putV trimL; rw [← HTN.out]
   refine ⟨Ad, cd, rfl, ?_, below_set (below_set (below_set (below_set HB016.out hge) hge) hge) hge⟩
   rw [hpv]
   exact Kd.R_mono (Kd.R_lower (Kd.R_far (Kd.R_far (Kd.R_far (Kd.R_far (Kd.R_mono (ok' := fun j => j ≠ b) HRD.out (fun j hj => by have := hj.2.1; omega)) (fun _ h => h) _) (fun _ h => h) _) (fun _ h => h) _) (fun _ h => h) _) (by omega)) (fun _ _ => trivial)
end Go.Proofs.Ytdilbnggedidnaa.PVal
namespace Go.Proofs.Ytdilbnggedidnaa.PVal
open Go.RowKit Go.Shelf Go.Proofs.YtdilbnggedidnaaW.PrintWords Go.Proofs.YtdilbnggedidnaaW.PrintLast
set_option linter.unusedVariables false
set_option linter.unusedSimpArgs false
theorem field25_3 (a b c : Value) (A : Option Addr) (n d : Nat) (w : World) : (Instr.field 25 (.agg #[a, b, c, .slice A n d]) 3).run Try.prog w = .ok (.slice A n d) w := by kernel_rfl
attribute [local go_sem] field25_3
def newF (v : S25) (code : Int) (name : ByteArray) : Option (List S25) :=
 if rightB v = true ∧ v.f0 = 25 ∧ (rd_T25 v.f3 1).f0 = 22 ∧ calledB (rd_T25 v.f3 0) code name = true then some (rd_T25 v.f3 1).f3 else none
theorem desc_two {v : S25} (h : rightB v = true) (h25 : v.f0 = 25) : ∃ a b, v.f3 = [a, b] := by
 unfold rightB at h
 simp only [Bool.and_eq_true] at h
 have hm := h.2
 rw [mayB_eq] at hm
 simp only [Bool.and_eq_true] at hm
 have hf := hm.2.2
 unfold famB at hf
 rw [if_neg (by omega), if_neg (by omega), if_neg (by omega), if_pos h25] at hf
 simp only [Bool.and_eq_true, decide_eq_true_eq] at hf
 rcases hx : v.f3 with _ | ⟨a, _ | ⟨b, _ | ⟨c, t⟩⟩⟩ <;> rw [hx] at hf <;> simp at hf ⊢
set_option maxRecDepth 100000 in
set_option maxHeartbeats 2000000 in
theorem new44_no (v : S25) (hs : itemsN v ≤ 4294967296) (ho : okV v) (code : Int) (name : ByteArray) (A : Option Addr) (c : Nat) (w : World) (ha : k25.C w A v.f3.length v.f3) (hc : v.f3.length ≤ c) (h : newF v code name = none) :
  Calls Try.prog 44 #[.agg #[.int .u8 v.f0, .int .u64 v.f1, .string v.f2, .slice A v.f3.length c], .int .u64 code, .string name] w fun e w' => e = .returned (.tuple #[.pointer none, .int .i64 6]) ∧ Below w.heap.size w w' := by
 have HN := Aside0.mk h
 clear h
 have HA := Aside0.mk ha
 have hal := below_alloc (Below.refl w.heap.size w) (.cells #[.int .u8 v.f0, .int .u64 v.f1, .string v.f2, .slice A v.f3.length c] 25)
 have HAL := Aside0.mk (Kd.C_below ha hal)
 have HB0 := Aside0.mk hal
 have BX := Aside0.mk (Blk.new w #[.int .u8 v.f0, .int .u64 v.f1, .string v.f2, .slice A v.f3.length c] 25)
 clear ha hal
 go_enter Try.func44, Try.ntmps44
 obtain ⟨p0, p1, p2, p3⟩ := BX.out.c4
 go_wp2_with fail
 refine (right17_any v hs ho A c _ HAL.out hc).mono ?_
 rintro e w2 ⟨he, hb2⟩
 have bX := BX.out.below hb2
 have HB2 := Aside0.mk (below_step HB0.out hb2)
 have HC2 := Aside0.mk (Kd.C_below HAL.out hb2)
 clear p0 p1 p2 p3 hb2 BX HAL HB0
 obtain ⟨p0, p1, p2, p3⟩ := bX.c4
 cases hr : rightB v with
 | false =>
  rw [hr] at he
  subst he
  clear hr
  go_wp2_with fail
  go_ret2
  exact ⟨rfl, HB2.out⟩
 | true =>
  rw [hr] at he
  subst he
  by_cases h25 : v.f0 = 25
  ·have HNN := HN.out
   obtain ⟨a, b, hab⟩ := desc_two hr h25
   obtain ⟨ad, A0, c0, e0, x0, x1, x2, x3, l0, C0⟩ := at_T25 HC2.out 0 (by omega) (by rw [hab]; simp)
   obtain ⟨ad1, A1, c1, e1, y0, y1, y2, y3, l1, C1⟩ := at_T25 HC2.out 1 (by omega) (by rw [hab]; simp)
   cases e0
   cases e1
   rw [show (0 : Int).toNat = 0 from rfl, Nat.zero_mul, add_nought] at x0 x1 x2 x3
   rw [show (1 : Int).toNat = 1 from rfl] at y0 y1 y2 y3
   have ha0 : rd_T25 v.f3 0 = a := by rw [hab]; rfl
   have hb0 : rd_T25 v.f3 1 = b := by rw [hab]; rfl
   rw [ha0] at x0 x1 x2 x3 l0 C0
   rw [hb0] at y0 y1 y2 y3 l1 C1
   have hl2 : v.f3.length = 2 := by rw [hab]; rfl
   have h0l : 0 < v.f3.length := by omega
   have h1l : 1 < v.f3.length := by omega
   have k25 : (v.f0 != 25) = false := by simp [h25]
   have HC0 := Aside0.mk C0
   have HC1 := Aside0.mk C1
   have ad0 : ad.add 0 = ad := add_nought ad
   simp only [Nat.reduceMul, Nat.reduceEqDiff, Go.Addr.add, ↓reduceIte] at y0 y1 y2 y3
   have HB0' := Aside0.mk ha0
   have HB1 := Aside0.mk hb0
   have HIB : Aside0 (itemsN b ≤ itemsN v) := ⟨by rw [itemsN_eq v, hab]; simp only [itemsL]; omega⟩
   clear hab C0 C1 ha0 hb0 hl2
   cases h22 : (b.f0 != 22) with
   | true =>
    clear HNN hr h25
    go_wp2_with fail
    go_ret2
    exact ⟨rfl, HB2.out⟩
   | false =>
    have hcl : calledB a code name = false := by
     cases hq : calledB a code name with
     | false => rfl
     | true =>
      unfold newF at HNN
      rw [if_pos ⟨hr, h25, by rw [HB1.out]; simpa using h22, by rw [HB0'.out]; exact hq⟩] at HNN
      cases HNN
    clear HNN hr h25
    go_wp2_with fail
    refine (called74_any a code name A0 c0 _).mono ?_
    rintro e w3 ⟨he, hb3⟩
    rw [hcl] at he
    subst he
    have HB3 := Aside0.mk (below_step HB2.out hb3)
    clear hcl hb3 p0 p1 p2 p3 x0 x1 x2 x3 y0 y1 y2 y3
    go_wp2_with fail
    go_ret2
    exact ⟨rfl, HB3.out⟩
  ·have k25 : (v.f0 != 25) = true := by simp [h25]
   clear hr h25
   go_wp2_with fail
   go_ret2
   exact ⟨rfl, HB2.out⟩
set_option maxRecDepth 100000 in
set_option maxHeartbeats 2000000 in
theorem new44_yes (v : S25) (hs : itemsN v ≤ 4294967296) (ho : okV v) (code : Int) (name : ByteArray) (A : Option Addr) (c : Nat) (w : World) (ha : k25.C w A v.f3.length v.f3) (hc : v.f3.length ≤ c) {l : List S25} (h : newF v code name = some l) :
  Calls Try.prog 44 #[.agg #[.int .u8 v.f0, .int .u64 v.f1, .string v.f2, .slice A v.f3.length c], .int .u64 code, .string name] w fun e w' => ∃ g, e = .returned (.tuple #[.pointer (some ⟨g, 0, none⟩), .int .i64 0]) ∧ w.heap.size ≤ g ∧ FS w' w.heap.size g l false ∧ Below w.heap.size w w' := by
 unfold newF at h
 split at h
 case isFalse => cases h
 case isTrue hq =>
 have HQ := Aside0.mk hq
 have HLI := Aside0.mk (Option.some.inj h)
 clear h hq
 have HA := Aside0.mk ha
 have hal := below_alloc (Below.refl w.heap.size w) (.cells #[.int .u8 v.f0, .int .u64 v.f1, .string v.f2, .slice A v.f3.length c] 25)
 have HAL := Aside0.mk (Kd.C_below ha hal)
 have HB0 := Aside0.mk hal
 have BX := Aside0.mk (Blk.new w #[.int .u8 v.f0, .int .u64 v.f1, .string v.f2, .slice A v.f3.length c] 25)
 clear ha hal
 go_enter Try.func44, Try.ntmps44
 obtain ⟨p0, p1, p2, p3⟩ := BX.out.c4
 go_wp2_with fail
 refine (right17_any v hs ho A c _ HAL.out hc).mono ?_
 rintro e w2 ⟨he, hb2⟩
 have bX := BX.out.below hb2
 have HB2 := Aside0.mk (below_step HB0.out hb2)
 have HC2 := Aside0.mk (Kd.C_below HAL.out hb2)
 clear p0 p1 p2 p3 hb2 BX HAL HB0
 obtain ⟨p0, p1, p2, p3⟩ := bX.c4
 obtain ⟨hr, h25, h22, hcl⟩ := HQ.out
 have hli := HLI.out
 clear HQ HLI
 rw [hr] at he
 subst he
 obtain ⟨a, b, hab⟩ := desc_two hr h25
 obtain ⟨ad, A0, c0, e0, x0, x1, x2, x3, l0, C0⟩ := at_T25 HC2.out 0 (by omega) (by rw [hab]; simp)
 obtain ⟨ad1, A1, c1, e1, y0, y1, y2, y3, l1, C1⟩ := at_T25 HC2.out 1 (by omega) (by rw [hab]; simp)
 cases e0
 cases e1
 rw [show (0 : Int).toNat = 0 from rfl, Nat.zero_mul, add_nought] at x0 x1 x2 x3
 rw [show (1 : Int).toNat = 1 from rfl] at y0 y1 y2 y3
 have ha0 : rd_T25 v.f3 0 = a := by rw [hab]; rfl
 have hb0 : rd_T25 v.f3 1 = b := by rw [hab]; rfl
 rw [ha0] at x0 x1 x2 x3 l0 C0
 rw [hb0] at y0 y1 y2 y3 l1 C1
 have hl2 : v.f3.length = 2 := by rw [hab]; rfl
 have h0l : 0 < v.f3.length := by omega
 have h1l : 1 < v.f3.length := by omega
 have k25 : (v.f0 != 25) = false := by simp [h25]
 have HC0 := Aside0.mk C0
 have HC1 := Aside0.mk C1
 have ad0 : ad.add 0 = ad := add_nought ad
 simp only [Nat.reduceMul, Nat.reduceEqDiff, Go.Addr.add, ↓reduceIte] at y0 y1 y2 y3
 have HB0' := Aside0.mk ha0
 have HB1 := Aside0.mk hb0
 have HIB : Aside0 (itemsN b ≤ itemsN v) := ⟨by rw [itemsN_eq v, hab]; simp only [itemsL]; omega⟩
 clear hab C0 C1 ha0 hb0 hl2
 rw [HB1.out] at h22 hli
 rw [HB0'.out] at hcl
 subst hli
 have HCL := Aside0.mk hcl
 have hitb : itemsN b ≤ 4294967296 := by have := HIB.out; omega
 have h22' : (b.f0 != 22) = false := by simp [h22]
 clear hr h25 h22 hcl
 go_wp2_with fail
 refine (called74_any a code name A0 c0 _).mono ?_
 rintro e w3 ⟨he, hb3⟩
 rw [HCL.out] at he
 subst he
 have HB3 := Aside0.mk (below_step HB2.out hb3)
 have bX3 := bX.below hb3
 have HC3 := Aside0.mk (Kd.C_below HC1.out hb3)
 have HY := Aside0.mk (And.intro ((hb3.cell (World.block_lt_of_cell? _ _ y0)).trans y0) (And.intro ((hb3.cell (World.block_lt_of_cell? _ _ y1)).trans y1) (And.intro ((hb3.cell (World.block_lt_of_cell? _ _ y2)).trans y2) ((hb3.cell (World.block_lt_of_cell? _ _ y3)).trans y3))))
 clear hb3 p0 p1 p2 p3 x0 x1 x2 x3 y0 y1 y2 y3 bX
 obtain ⟨p0, p1, p2, p3⟩ := bX3.c4
 obtain ⟨y0, y1, y2, y3⟩ := HY.out
 go_wp2_with fail
 refine (copy31_any b hitb A1 c1 _ HC3.out l1).mono ?_
 rintro e w4 ⟨A2, c2, rfl, hR, hb4⟩
 have HR := Aside0.mk (Kd.R_bound hR)
 have HB4 := Aside0.mk (below_step HB3.out hb4)
 have hsz := HB3.out.size
 clear hR hb4 p0 p1 p2 p3 y0 y1 y2 y3 bX3
 go_wp2_with fail
 go_ret2
 have hal := below_alloc (Below.refl w4.heap.size w4) (.cells #[.slice A2 b.f3.length c2, .bool false] 94)
 refine ⟨w4.heap.size, rfl, by have := HB4.out.size; omega, ⟨A2, c2, Blk.new w4 #[.slice A2 b.f3.length c2, .bool false] 94, ?_⟩, below_step HB4.out hal⟩
 exact Kd.R_lower (Kd.R_below (Kd.R_mono HR.out (fun k hk => by have := hk.2.2.1; omega)) hal) hsz
end Go.Proofs.Ytdilbnggedidnaa.PVal
