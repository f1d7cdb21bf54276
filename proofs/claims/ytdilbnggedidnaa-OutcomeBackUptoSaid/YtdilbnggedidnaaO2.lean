import Derived.Test.YtdilbnggedidnaaO1
namespace Go.Proofs.Ytdilbnggedidnaa.PVal
open Go.RowKit Go.Proofs.YtdilbnggedidnaaW.PrintWords Go.Proofs.YtdilbnggedidnaaW.PrintLast
attribute [local go_sem] max2_int max_two
set_option linter.unusedVariables false
set_option linter.unusedSimpArgs false
mutual
def value_alike.j0 : Nat → Bool → Int → Int → ByteArray → List (S25) → Int → Int → ByteArray → List (S25) → Option (Bool)
 | 0, _, _, _, _, _, _, _, _, _ => none
 | k + 1, x12, x102000, x102001, x102002, x102003, x103000, x103001, x103002, x103003 => if x12 = true then (some (x102000 == x103000)) else (if 0 < (x102003.length : Int) then (if 0 < (x103003.length : Int) then ((value_Same.f ((rd_T25 x102003 0).f0) ((rd_T25 x102003 0).f1) ((rd_T25 x102003 0).f2) ((rd_T25 x102003 0).f3) ((rd_T25 x103003 0).f0) ((rd_T25 x103003 0).f1) ((rd_T25 x103003 0).f2) ((rd_T25 x103003 0).f3)).bind fun t105 => (if t105 = true then (if 1 < (x102003.length : Int) then (if 1 < (x103003.length : Int) then ((value_alike.f k ((rd_T25 x102003 1).f0) ((rd_T25 x102003 1).f1) ((rd_T25 x102003 1).f2) ((rd_T25 x102003 1).f3) ((rd_T25 x103003 1).f0) ((rd_T25 x103003 1).f1) ((rd_T25 x103003 1).f2) ((rd_T25 x103003 1).f3)).bind fun t108 => (some t108)) else (none)) else (none)) else (some false))) else (none)) else (none))
def value_alike.f : Nat → Int → Int → ByteArray → List (S25) → Int → Int → ByteArray → List (S25) → Option (Bool)
 | 0, _, _, _, _, _, _, _, _ => none
 | k + 1, a0_0, a0_1, a0_2, l0_3, a1_0, a1_1, a1_2, l1_3 => if a0_0 = 25 then (value_alike.j0 k (a1_0 != 25) a0_0 a0_1 a0_2 l0_3 a1_0 a1_1 a1_2 l1_3) else (value_alike.j0 k true a0_0 a0_1 a0_2 l0_3 a1_0 a1_1 a1_2 l1_3)
end
def value_alike.T3 : Bool × List (List Nat × List Nat) := (true, [([], []), ([0], [0]), ([1], [1]), ([2], [2]), ([], []), ([4], [4]), ([5], [5]), ([6], [6]), ([3, 7], [3, 7]), ([8, 8], [8]), ([9], [9]), ([10, 9], [9, 10]), ([11, 9], [9, 11]), ([12, 9], [9, 12]), ([9], [9]), ([14, 9], [9, 14]), ([15, 9], [9, 15]), ([16, 9], [9, 16]), ([13, 17, 9, 9], [9, 13, 17]), ([9, 18], [9, 18]), ([19, 18, 0, 1, 2, 3, 4, 5, 6, 7, 8, 9, 10, 11, 12, 13, 14, 15, 16, 17, 18, 19], [19])])
def value_alike.B3 : List Nat := [0, 1, 3, 7, 0, 16, 48, 112, 255, 511, 1023, 2047, 4095, 8191, 1023, 17407, 50175, 115711, 262143, 524287, 1048575]
theorem value_alike.tab3 : rtab .any (opsOf Try.f121 3) = value_alike.T3 := by kernel_rfl
theorem value_alike.bits3 : waitsOk value_alike.T3.2 value_alike.B3 = true := by kernel_rfl
set_option maxHeartbeats 8000000 in
set_option maxRecDepth 100000 in
theorem value_alike.calls (k : Nat) : ∀ (a0_0 : Int) (a0_1 : Int) (a0_2 : ByteArray) (A0_3 : Option Addr) (c0_3 : Nat) (l0_3 : List (S25)) (a1_0 : Int) (a1_1 : Int) (a1_2 : ByteArray) (A1_3 : Option Addr) (c1_3 : Nat) (l1_3 : List (S25)) (r : Bool) (w : World) (hr0_3 : Kd.C k25 w A0_3 l0_3.length l0_3) (hc0_3 : l0_3.length ≤ c0_3) (hr1_3 : Kd.C k25 w A1_3 l1_3.length l1_3) (hc1_3 : l1_3.length ≤ c1_3) (h : value_alike.f k a0_0 a0_1 a0_2 l0_3 a1_0 a1_1 a1_2 l1_3 = some r),
  Calls Try.prog 121 #[.agg #[.int .u8 a0_0, .int .u64 a0_1, .string a0_2, .slice A0_3 l0_3.length c0_3], .agg #[.int .u8 a1_0, .int .u64 a1_1, .string a1_2, .slice A1_3 l1_3.length c1_3]] w fun e w' => e = .returned (.bool r) ∧ Below w.heap.size w w' := by
 induction k using Nat.strongRecOn with
 | _ k ih =>
 intro a0_0 a0_1 a0_2 A0_3 c0_3 l0_3 a1_0 a1_1 a1_2 A1_3 c1_3 l1_3 r w hr0_3 hc0_3 hr1_3 hc1_3 h
 cases k with
 | zero => exact absurd h (by simp [value_alike.f])
 | succ k =>
 simp only [value_alike.f] at h
 have hu25 := Try.underlying25
 have HR0_3 := Aside0.mk hr0_3
 have HC0_3 := Aside0.mk hc0_3
 clear hr0_3 hc0_3
 have HR1_3 := Aside0.mk hr1_3
 have HC1_3 := Aside0.mk hc1_3
 clear hr1_3 hc1_3
 have HB := Aside0.mk (Below.refl w.heap.size w)
 have H : (if a0_0 = 25 then (value_alike.j0 k (a1_0 != 25) a0_0 a0_1 a0_2 l0_3 a1_0 a1_1 a1_2 l1_3) else (value_alike.j0 k true a0_0 a0_1 a0_2 l0_3 a1_0 a1_1 a1_2 l1_3)) = some r := h
 clear h
 have HC3 := Aside0.mk H
 clear H
 go_enter Try.func121, Try.ntmps121
 go_upto_region 1 with (first | ((with_reducible refine gate_dst (N := 2) rfl ?_); refine box_event ?hg (N := 2) ?hd (cs := #[.int .u8 a0_0, .int .u64 a0_1, .string a0_2, .slice A0_3 l0_3.length c0_3]) (t := 25) ?hr ?_; (case hd => rfl); (case hg => rfl); (case hr => first | (go_simp; done) | (go_simp; rfl)); intro gb101 hg w4 hbox hb; have n0_ := Aside0.mk (below_step (by repeat (first | (with_reducible first | exact HB.out | apply below_alloc | apply pw_below_drewN | apply below_drew1) | exact HB.out)) hb); have n1_ := Aside0.mk (hbox); have n2_ := Aside0.mk ((by rw [hg]; exact (below_size (by repeat (first | (with_reducible first | exact HB.out | apply below_alloc | apply pw_below_drewN | apply below_drew1) | exact HB.out))) : w.heap.size ≤ gb101)); have n3_ := Aside0.mk ((by rw [hg]; exact (below_size (by repeat (first | (with_reducible first | exact HB.out | apply below_alloc | apply pw_below_drewN | apply below_drew1) | exact HB.out))) : w.heap.size ≤ gb101)); clear HB; have HB := n0_; have BK101 := n1_; have GW101 := n2_; have GE101 := n3_; clear n0_ n1_ n2_ n3_; clear hb hbox hg) | ((with_reducible refine gate_dst (N := 3) rfl ?_); refine box_event ?hg (N := 3) ?hd (cs := #[.int .u8 a1_0, .int .u64 a1_1, .string a1_2, .slice A1_3 l1_3.length c1_3]) (t := 25) ?hr ?_; (case hd => rfl); (case hg => rfl); (case hr => first | (go_simp; done) | (go_simp; rfl)); intro gb102 hg w5 hbox hb; have n0_ := Aside0.mk (blk_below (g := gb101) (o := .cells #[.int .u8 a0_0, .int .u64 a0_1, .string a0_2, .slice A0_3 l0_3.length c0_3] 25 (0, 0)) (by (with_reducible repeat (first | refine blk_drewN ?_ _ | refine blk_drew ?_ | refine blk_alloc ?_ _)); exact BK101.out) hb); have n1_ := Aside0.mk (below_step (by repeat (first | (with_reducible first | exact HB.out | apply below_alloc | apply pw_below_drewN | apply below_drew1 | refine below_set ?_ GE101.out) | exact HB.out)) hb); have n2_ := Aside0.mk (hbox); have n3_ := Aside0.mk ((by rw [hg]; exact (below_size (by repeat (first | (with_reducible first | exact HB.out | apply below_alloc | apply pw_below_drewN | apply below_drew1 | refine below_set ?_ GE101.out) | exact HB.out))) : w.heap.size ≤ gb102)); have n4_ := Aside0.mk ((by rw [hg]; exact (below_size (by repeat (first | (with_reducible first | exact HB.out | apply below_alloc | apply pw_below_drewN | apply below_drew1 | refine below_set ?_ GE101.out) | exact HB.out))) : w.heap.size ≤ gb102)); have n5_ := Aside0.mk ((by rw [hg]; exact Nat.ne_of_lt (blk_lt (g := gb101) (o := .cells #[.int .u8 a0_0, .int .u64 a0_1, .string a0_2, .slice A0_3 l0_3.length c0_3] 25 (0, 0)) (by (with_reducible repeat (first | refine blk_drewN ?_ _ | refine blk_drew ?_ | refine blk_alloc ?_ _)); exact BK101.out)) : gb101 ≠ gb102)); have n6_ := Aside0.mk ((by rw [hg]; exact Nat.ne_of_gt (blk_lt (g := gb101) (o := .cells #[.int .u8 a0_0, .int .u64 a0_1, .string a0_2, .slice A0_3 l0_3.length c0_3] 25 (0, 0)) (by (with_reducible repeat (first | refine blk_drewN ?_ _ | refine blk_drew ?_ | refine blk_alloc ?_ _)); exact BK101.out)) : gb102 ≠ gb101)); clear BK101; clear HB; have BK101 := n0_; have HB := n1_; have BK102 := n2_; have GW102 := n3_; have GE102 := n4_; have NB101_102 := n5_; have NB102_101 := n6_; clear n0_ n1_ n2_ n3_ n4_ n5_ n6_; clear hb hbox hg))
 (try simp only [Act.put, List.setIfInBounds_toArray, List.set_cons_zero, List.set_cons_succ])
 go_cut [12] (fun v12 wc => ∃ (kq : Nat) (x12_2 : Bool), v12 = .bool x12_2 ∧ Aside0 (value_alike.j0 kq x12_2 a0_0 a0_1 a0_2 l0_3 a1_0 a1_1 a1_2 l1_3 = some r) ∧ Aside0 (kq ≤ k) ∧ Aside0 (wc.heap[gb101]? = some (.cells #[.int .u8 a0_0, .int .u64 a0_1, .string a0_2, (.slice A0_3 l0_3.length c0_3)] 25 (0, 0))) ∧ Aside0 (wc.heap[gb102]? = some (.cells #[.int .u8 a1_0, .int .u64 a1_1, .string a1_2, (.slice A1_3 l1_3.length c1_3)] 25 (0, 0))) ∧ Aside0 (Below w.heap.size w wc))
 case first =>
  have H := HC3.out
  clear HC3
  by_cases c6 : a0_0 = 25
  ·rw [if_pos c6] at H
   have c6b0 : (a0_0 == 25) = true := beq_iff_eq.mpr c6
   have c6b1 : (a0_0 != 25) = false := bne_eq_false_iff_eq.mpr c6
   clear c6
   (first | rw [c6b0] | (simp only [i64_w, i32_w]; rw [c6b0]) | skip)
   have H' := Aside0.mk H
   clear H
   have hnb7 := NB101_102.out
   have hnc7 := NB102_101.out
   have hcz8_0 : w5.cell? ⟨gb101, 0, none⟩ = some (.int .u8 a0_0) := (blk_cell BK101.out 0).trans rfl
   have hcz8_1 : w5.cell? ⟨gb101, 1, none⟩ = some (.int .u64 a0_1) := (blk_cell BK101.out 1).trans rfl
   have hcz8_2 : w5.cell? ⟨gb101, 2, none⟩ = some (.string a0_2) := (blk_cell BK101.out 2).trans rfl
   have hcz8_3 : w5.cell? ⟨gb101, 3, none⟩ = some (.slice A0_3 l0_3.length c0_3) := (blk_cell BK101.out 3).trans rfl
   have hfz8_0 := blk_frozen BK101.out 0
   have hfz8_1 := blk_frozen BK101.out 1
   have hfz8_2 := blk_frozen BK101.out 2
   have hfz8_3 := blk_frozen BK101.out 3
   have hcz9_0 : w5.cell? ⟨gb102, 0, none⟩ = some (.int .u8 a1_0) := (blk_cell BK102.out 0).trans rfl
   have hcz9_1 : w5.cell? ⟨gb102, 1, none⟩ = some (.int .u64 a1_1) := (blk_cell BK102.out 1).trans rfl
   have hcz9_2 : w5.cell? ⟨gb102, 2, none⟩ = some (.string a1_2) := (blk_cell BK102.out 2).trans rfl
   have hcz9_3 : w5.cell? ⟨gb102, 3, none⟩ = some (.slice A1_3 l1_3.length c1_3) := (blk_cell BK102.out 3).trans rfl
   have hfz9_0 := blk_frozen BK102.out 0
   have hfz9_1 := blk_frozen BK102.out 1
   have hfz9_2 := blk_frozen BK102.out 2
   have hfz9_3 := blk_frozen BK102.out 3
   go_wp2
   go_meet
   case rel => exact ⟨_, ((a1_0 != 25)), (by first | rfl | (simp; done) | (simp [*]; done)), H', ⟨by first | omega | exact Nat.le_refl _⟩, ⟨by (with_reducible repeat (first | refine blk_drewN ?_ _ | refine blk_drew ?_ | refine blk_alloc ?_ _)); exact BK101.out⟩, ⟨by (with_reducible repeat (first | refine blk_drewN ?_ _ | refine blk_drew ?_ | refine blk_alloc ?_ _)); exact BK102.out⟩, ⟨by repeat (first | (with_reducible first | exact HB.out | apply below_alloc | apply pw_below_drewN | apply below_drew1 | refine below_set ?_ GE101.out | refine below_set ?_ GE102.out) | exact HB.out)⟩⟩
  ·rw [if_neg c6] at H
   have c6b0 : (a0_0 == 25) = false := beq_eq_false_iff_ne.mpr c6
   have c6b1 : (a0_0 != 25) = true := bne_iff_ne.mpr c6
   (first | rw [c6b0] | (simp only [i64_w, i32_w]; rw [c6b0]) | skip)
   have H' := Aside0.mk H
   clear H
   have hnb10 := NB101_102.out
   have hnc10 := NB102_101.out
   have hcz11_0 : w5.cell? ⟨gb101, 0, none⟩ = some (.int .u8 a0_0) := (blk_cell BK101.out 0).trans rfl
   have hcz11_1 : w5.cell? ⟨gb101, 1, none⟩ = some (.int .u64 a0_1) := (blk_cell BK101.out 1).trans rfl
   have hcz11_2 : w5.cell? ⟨gb101, 2, none⟩ = some (.string a0_2) := (blk_cell BK101.out 2).trans rfl
   have hcz11_3 : w5.cell? ⟨gb101, 3, none⟩ = some (.slice A0_3 l0_3.length c0_3) := (blk_cell BK101.out 3).trans rfl
   have hfz11_0 := blk_frozen BK101.out 0
   have hfz11_1 := blk_frozen BK101.out 1
   have hfz11_2 := blk_frozen BK101.out 2
   have hfz11_3 := blk_frozen BK101.out 3
   go_wp2
   go_meet
   case rel => exact ⟨_, (true), (by first | rfl | (simp; done) | (simp [*]; done)), H', ⟨by first | omega | exact Nat.le_refl _⟩, ⟨by (with_reducible repeat (first | refine blk_drewN ?_ _ | refine blk_drew ?_ | refine blk_alloc ?_ _)); exact BK101.out⟩, ⟨by (with_reducible repeat (first | refine blk_drewN ?_ _ | refine blk_drew ?_ | refine blk_alloc ?_ _)); exact BK102.out⟩, ⟨by repeat (first | (with_reducible first | exact HB.out | apply below_alloc | apply pw_below_drewN | apply below_drew1 | refine below_set ?_ GE101.out | refine below_set ?_ GE102.out) | exact HB.out)⟩⟩
 case rest =>
  clear HC3
  try clear c1
  try clear p2
  try clear c6
  try clear c6b0
  try clear c6b1
  try clear c7
  try clear c10
  try clear hcz11_0
  try clear hcz11_1
  try clear hcz11_2
  try clear hcz11_3
  try clear hcz8_0
  try clear hcz8_1
  try clear hcz8_2
  try clear hcz8_3
  try clear hcz9_0
  try clear hcz9_1
  try clear hcz9_2
  try clear hcz9_3
  try clear hfz11_0
  try clear hfz11_1
  try clear hfz11_2
  try clear hfz11_3
  try clear hfz8_0
  try clear hfz8_1
  try clear hfz8_2
  try clear hfz8_3
  try clear hfz9_0
  try clear hfz9_1
  try clear hfz9_2
  try clear hfz9_3
  obtain ⟨kq, x12_2, rfl, HA, HJ2, BK101, BK102, HB⟩ := hcut
  cases kq with
  | zero => exact absurd HA.out (by simp [value_alike.j0])
  | succ kj2 =>
   have H := HA.out
   clear HA
   simp only [value_alike.j0] at H
   by_cases c12 : x12_2 = true
   ·subst c12
    have H1 : (some (a0_0 == a1_0)) = some r := by rw [if_pos rfl] at H; exact H
    clear H
    have H := H1
    clear H1
    obtain rfl := Option.some.inj H
    have hnb13 := NB101_102.out
    have hnc13 := NB102_101.out
    have hcz14_0 : wc.cell? ⟨gb101, 0, none⟩ = some (.int .u8 a0_0) := (blk_cell BK101.out 0).trans rfl
    have hcz14_1 : wc.cell? ⟨gb101, 1, none⟩ = some (.int .u64 a0_1) := (blk_cell BK101.out 1).trans rfl
    have hcz14_2 : wc.cell? ⟨gb101, 2, none⟩ = some (.string a0_2) := (blk_cell BK101.out 2).trans rfl
    have hcz14_3 : wc.cell? ⟨gb101, 3, none⟩ = some (.slice A0_3 l0_3.length c0_3) := (blk_cell BK101.out 3).trans rfl
    have hfz14_0 := blk_frozen BK101.out 0
    have hfz14_1 := blk_frozen BK101.out 1
    have hfz14_2 := blk_frozen BK101.out 2
    have hfz14_3 := blk_frozen BK101.out 3
    have hcz15_0 : wc.cell? ⟨gb102, 0, none⟩ = some (.int .u8 a1_0) := (blk_cell BK102.out 0).trans rfl
    have hcz15_1 : wc.cell? ⟨gb102, 1, none⟩ = some (.int .u64 a1_1) := (blk_cell BK102.out 1).trans rfl
    have hcz15_2 : wc.cell? ⟨gb102, 2, none⟩ = some (.string a1_2) := (blk_cell BK102.out 2).trans rfl
    have hcz15_3 : wc.cell? ⟨gb102, 3, none⟩ = some (.slice A1_3 l1_3.length c1_3) := (blk_cell BK102.out 3).trans rfl
    have hfz15_0 := blk_frozen BK102.out 0
    have hfz15_1 := blk_frozen BK102.out 1
    have hfz15_2 := blk_frozen BK102.out 2
    have hfz15_3 := blk_frozen BK102.out 3
    go_wp2
    go_ret
    exact ⟨by first | rfl | (simp [errW_none, errW_some] <;> rfl) | (simp [*, errW_none, errW_some] <;> rfl), by repeat (first | (with_reducible first | exact HB.out | apply below_alloc | apply pw_below_drewN | apply below_drew1 | refine below_set ?_ GE101.out | refine below_set ?_ GE102.out) | exact HB.out)⟩
   ·replace c12 := Bool.eq_false_iff.mpr c12
    subst c12
    have H1 : (if 0 < (l0_3.length : Int) then (if 0 < (l1_3.length : Int) then ((value_Same.f ((rd_T25 l0_3 0).f0) ((rd_T25 l0_3 0).f1) ((rd_T25 l0_3 0).f2) ((rd_T25 l0_3 0).f3) ((rd_T25 l1_3 0).f0) ((rd_T25 l1_3 0).f1) ((rd_T25 l1_3 0).f2) ((rd_T25 l1_3 0).f3)).bind fun t105 => (if t105 = true then (if 1 < (l0_3.length : Int) then (if 1 < (l1_3.length : Int) then ((value_alike.f kj2 ((rd_T25 l0_3 1).f0) ((rd_T25 l0_3 1).f1) ((rd_T25 l0_3 1).f2) ((rd_T25 l0_3 1).f3) ((rd_T25 l1_3 1).f0) ((rd_T25 l1_3 1).f1) ((rd_T25 l1_3 1).f2) ((rd_T25 l1_3 1).f3)).bind fun t108 => (some t108)) else (none)) else (none)) else (some false))) else (none)) else (none)) = some r := by rw [if_neg (show ¬ (false = true) by decide)] at H; exact H
    clear H
    have H := H1
    clear H1
    by_cases c16 : 0 < (l0_3.length : Int)
    ·rw [if_pos c16] at H
     have c16b0 : decide (0 < (l0_3.length : Int)) = true := decide_eq_true c16
     have c16b1 : decide (0 < l0_3.length) = true := decide_eq_true (by omega)
     clear c16
     by_cases c17 : 0 < (l1_3.length : Int)
     ·rw [if_pos c17] at H
      have c17b0 : decide (0 < (l1_3.length : Int)) = true := decide_eq_true c17
      have c17b1 : decide (0 < l1_3.length) = true := decide_eq_true (by omega)
      clear c17
      replace H := Option.bind_eq_some_iff.mp H
      obtain ⟨t105, A180, H⟩ := H
      replace H : (if t105 = true then (if 1 < (l0_3.length : Int) then (if 1 < (l1_3.length : Int) then ((value_alike.f kj2 ((rd_T25 l0_3 1).f0) ((rd_T25 l0_3 1).f1) ((rd_T25 l0_3 1).f2) ((rd_T25 l0_3 1).f3) ((rd_T25 l1_3 1).f0) ((rd_T25 l1_3 1).f1) ((rd_T25 l1_3 1).f2) ((rd_T25 l1_3 1).f3)).bind fun t108 => (some t108)) else (none)) else (none)) else (some false)) = some r := H
      have A18 := Aside0.mk A180
      clear A180
      by_cases c19 : t105 = true
      ·subst c19
       have H1 : (if 1 < (l0_3.length : Int) then (if 1 < (l1_3.length : Int) then ((value_alike.f kj2 ((rd_T25 l0_3 1).f0) ((rd_T25 l0_3 1).f1) ((rd_T25 l0_3 1).f2) ((rd_T25 l0_3 1).f3) ((rd_T25 l1_3 1).f0) ((rd_T25 l1_3 1).f1) ((rd_T25 l1_3 1).f2) ((rd_T25 l1_3 1).f3)).bind fun t108 => (some t108)) else (none)) else (none)) = some r := by rw [if_pos rfl] at H; exact H
       clear H
       have H := H1
       clear H1
       by_cases c20 : 1 < (l0_3.length : Int)
       ·rw [if_pos c20] at H
        have c20b0 : decide (1 < (l0_3.length : Int)) = true := decide_eq_true c20
        have c20b1 : decide (1 < l0_3.length) = true := decide_eq_true (by omega)
        clear c20
        by_cases c21 : 1 < (l1_3.length : Int)
        ·rw [if_pos c21] at H
         have c21b0 : decide (1 < (l1_3.length : Int)) = true := decide_eq_true c21
         have c21b1 : decide (1 < l1_3.length) = true := decide_eq_true (by omega)
         clear c21
         replace H := Option.bind_eq_some_iff.mp H
         obtain ⟨t108, A220, H⟩ := H
         replace H : (some t108) = some r := H
         have A22 := Aside0.mk A220
         clear A220
         obtain rfl := Option.some.inj H
         try go_wp2
         have n0_ := Aside0.mk (blk_drew BK101.out)
         have n1_ := Aside0.mk (blk_drew BK102.out)
         have n2_ := Aside0.mk (below_drew1 HB.out)
         clear BK101
         clear BK102
         clear HB
         have BK101 := n0_
         have BK102 := n1_
         have HB := n2_
         clear n0_ n1_ n2_
         have p103 : 0 ≤ (0 : Int) := (by omega)
         have q103 : 0 < (l0_3.length : Int) := of_decide_eq_true (by first | (with_reducible assumption) | assumption)
         obtain ⟨ad103, A103_3, c103_3, e103, hx103_0, hx103_1, hx103_2, hx103_3, hl103_3, hi103_3⟩ := at_T25 HR0_3.out 0 p103 q103
         have hw103_3 := hx103_3
         (try rw [show ((0 : Int)).toNat = 0 from rfl] at hw103_3)
         (try rw [show 0 * 4 = 0 from rfl] at hw103_3)
         (try rw [Addr.add_zero'] at hw103_3)
         have hw103_2 := hx103_2
         (try rw [show ((0 : Int)).toNat = 0 from rfl] at hw103_2)
         (try rw [show 0 * 4 = 0 from rfl] at hw103_2)
         (try rw [Addr.add_zero'] at hw103_2)
         have hw103_1 := hx103_1
         (try rw [show ((0 : Int)).toNat = 0 from rfl] at hw103_1)
         (try rw [show 0 * 4 = 0 from rfl] at hw103_1)
         (try rw [Addr.add_zero'] at hw103_1)
         have hw103_0 := hx103_0
         (try rw [show ((0 : Int)).toNat = 0 from rfl] at hw103_0)
         (try rw [show 0 * 4 = 0 from rfl] at hw103_0)
         (try rw [Addr.add_zero'] at hw103_0)
         cases e103
         have qi103 : (0 < l0_3.length) = True := eq_true (by omega)
         (try rw [show ((0 : Int)).toNat = 0 from rfl] at hx103_0)
         (try rw [show 0 * 4 = 0 from rfl] at hx103_0)
         (try rw [Addr.add_zero'] at hx103_0)
         (try rw [show ((0 : Int)).toNat = 0 from rfl] at hx103_1)
         (try rw [show 0 * 4 = 0 from rfl] at hx103_1)
         (try rw [Addr.add_zero'] at hx103_1)
         (try rw [show ((0 : Int)).toNat = 0 from rfl] at hx103_2)
         (try rw [show 0 * 4 = 0 from rfl] at hx103_2)
         (try rw [Addr.add_zero'] at hx103_2)
         (try rw [show ((0 : Int)).toNat = 0 from rfl] at hx103_3)
         (try rw [show 0 * 4 = 0 from rfl] at hx103_3)
         (try rw [Addr.add_zero'] at hx103_3)
         replace hx103_0 := (HB.out.cell (World.block_lt_of_cell? w _ hx103_0)).trans hx103_0
         replace hx103_1 := (HB.out.cell (World.block_lt_of_cell? w _ hx103_1)).trans hx103_1
         replace hx103_2 := (HB.out.cell (World.block_lt_of_cell? w _ hx103_2)).trans hx103_2
         replace hx103_3 := (HB.out.cell (World.block_lt_of_cell? w _ hx103_3)).trans hx103_3
         have HR103_3 := Aside0.mk hi103_3
         have HC103_3 := Aside0.mk hl103_3
         clear hi103_3 hl103_3
         replace p103 := eq_true p103
         replace q103 := eq_true q103
         have p104 : 0 ≤ (0 : Int) := (by omega)
         have q104 : 0 < (l1_3.length : Int) := of_decide_eq_true (by first | (with_reducible assumption) | assumption)
         obtain ⟨ad104, A104_3, c104_3, e104, hx104_0, hx104_1, hx104_2, hx104_3, hl104_3, hi104_3⟩ := at_T25 HR1_3.out 0 p104 q104
         have hw104_3 := hx104_3
         (try rw [show ((0 : Int)).toNat = 0 from rfl] at hw104_3)
         (try rw [show 0 * 4 = 0 from rfl] at hw104_3)
         (try rw [Addr.add_zero'] at hw104_3)
         have hw104_2 := hx104_2
         (try rw [show ((0 : Int)).toNat = 0 from rfl] at hw104_2)
         (try rw [show 0 * 4 = 0 from rfl] at hw104_2)
         (try rw [Addr.add_zero'] at hw104_2)
         have hw104_1 := hx104_1
         (try rw [show ((0 : Int)).toNat = 0 from rfl] at hw104_1)
         (try rw [show 0 * 4 = 0 from rfl] at hw104_1)
         (try rw [Addr.add_zero'] at hw104_1)
         have hw104_0 := hx104_0
         (try rw [show ((0 : Int)).toNat = 0 from rfl] at hw104_0)
         (try rw [show 0 * 4 = 0 from rfl] at hw104_0)
         (try rw [Addr.add_zero'] at hw104_0)
         cases e104
         have qi104 : (0 < l1_3.length) = True := eq_true (by omega)
         (try rw [show ((0 : Int)).toNat = 0 from rfl] at hx104_0)
         (try rw [show 0 * 4 = 0 from rfl] at hx104_0)
         (try rw [Addr.add_zero'] at hx104_0)
         (try rw [show ((0 : Int)).toNat = 0 from rfl] at hx104_1)
         (try rw [show 0 * 4 = 0 from rfl] at hx104_1)
         (try rw [Addr.add_zero'] at hx104_1)
         (try rw [show ((0 : Int)).toNat = 0 from rfl] at hx104_2)
         (try rw [show 0 * 4 = 0 from rfl] at hx104_2)
         (try rw [Addr.add_zero'] at hx104_2)
         (try rw [show ((0 : Int)).toNat = 0 from rfl] at hx104_3)
         (try rw [show 0 * 4 = 0 from rfl] at hx104_3)
         (try rw [Addr.add_zero'] at hx104_3)
         replace hx104_0 := (HB.out.cell (World.block_lt_of_cell? w _ hx104_0)).trans hx104_0
         replace hx104_1 := (HB.out.cell (World.block_lt_of_cell? w _ hx104_1)).trans hx104_1
         replace hx104_2 := (HB.out.cell (World.block_lt_of_cell? w _ hx104_2)).trans hx104_2
         replace hx104_3 := (HB.out.cell (World.block_lt_of_cell? w _ hx104_3)).trans hx104_3
         have HR104_3 := Aside0.mk hi104_3
         have HC104_3 := Aside0.mk hl104_3
         clear hi104_3 hl104_3
         replace p104 := eq_true p104
         replace q104 := eq_true q104
         have p106 : 0 ≤ (1 : Int) := (by omega)
         have q106 : 1 < (l0_3.length : Int) := of_decide_eq_true (by first | (with_reducible assumption) | assumption)
         obtain ⟨ad106, A106_3, c106_3, e106, hx106_0, hx106_1, hx106_2, hx106_3, hl106_3, hi106_3⟩ := at_T25 HR0_3.out 1 p106 q106
         have hw106_3 := hx106_3
         (try rw [show ((1 : Int)).toNat = 1 from rfl] at hw106_3)
         (try rw [show 1 * 4 = 4 from rfl] at hw106_3)
         (try simp only [Nat.reduceMul, Nat.reduceEqDiff, Go.Addr.add, ↓reduceIte] at hw106_3)
         have hw106_2 := hx106_2
         (try rw [show ((1 : Int)).toNat = 1 from rfl] at hw106_2)
         (try rw [show 1 * 4 = 4 from rfl] at hw106_2)
         (try simp only [Nat.reduceMul, Nat.reduceEqDiff, Go.Addr.add, ↓reduceIte] at hw106_2)
         have hw106_1 := hx106_1
         (try rw [show ((1 : Int)).toNat = 1 from rfl] at hw106_1)
         (try rw [show 1 * 4 = 4 from rfl] at hw106_1)
         (try simp only [Nat.reduceMul, Nat.reduceEqDiff, Go.Addr.add, ↓reduceIte] at hw106_1)
         have hw106_0 := hx106_0
         (try rw [show ((1 : Int)).toNat = 1 from rfl] at hw106_0)
         (try rw [show 1 * 4 = 4 from rfl] at hw106_0)
         (try simp only [Nat.reduceMul, Nat.reduceEqDiff, Go.Addr.add, ↓reduceIte] at hw106_0)
         obtain rfl : ad103 = ad106 := (by injection e106)
         (try simp only [show (1 : Int).toNat = 1 from rfl, Nat.reduceMul, Nat.reduceEqDiff, Go.Addr.add, ↓reduceIte] at hx106_0)
         (try simp only [show (1 : Int).toNat = 1 from rfl, Nat.reduceMul, Nat.reduceEqDiff, Go.Addr.add, ↓reduceIte] at hx106_1)
         (try simp only [show (1 : Int).toNat = 1 from rfl, Nat.reduceMul, Nat.reduceEqDiff, Go.Addr.add, ↓reduceIte] at hx106_2)
         (try simp only [show (1 : Int).toNat = 1 from rfl, Nat.reduceMul, Nat.reduceEqDiff, Go.Addr.add, ↓reduceIte] at hx106_3)
         have qi106 : (1 < l0_3.length) = True := eq_true (by omega)
         (try rw [show ((1 : Int)).toNat = 1 from rfl] at hx106_0)
         (try rw [show 1 * 4 = 4 from rfl] at hx106_0)
         (try rw [show ((1 : Int)).toNat = 1 from rfl] at hx106_1)
         (try rw [show 1 * 4 = 4 from rfl] at hx106_1)
         (try rw [show ((1 : Int)).toNat = 1 from rfl] at hx106_2)
         (try rw [show 1 * 4 = 4 from rfl] at hx106_2)
         (try rw [show ((1 : Int)).toNat = 1 from rfl] at hx106_3)
         (try rw [show 1 * 4 = 4 from rfl] at hx106_3)
         replace hx106_0 := (HB.out.cell (World.block_lt_of_cell? w _ hx106_0)).trans hx106_0
         replace hx106_1 := (HB.out.cell (World.block_lt_of_cell? w _ hx106_1)).trans hx106_1
         replace hx106_2 := (HB.out.cell (World.block_lt_of_cell? w _ hx106_2)).trans hx106_2
         replace hx106_3 := (HB.out.cell (World.block_lt_of_cell? w _ hx106_3)).trans hx106_3
         have HR106_3 := Aside0.mk hi106_3
         have HC106_3 := Aside0.mk hl106_3
         clear hi106_3 hl106_3
         replace p106 := eq_true p106
         replace q106 := eq_true q106
         have p107 : 0 ≤ (1 : Int) := (by omega)
         have q107 : 1 < (l1_3.length : Int) := of_decide_eq_true (by first | (with_reducible assumption) | assumption)
         obtain ⟨ad107, A107_3, c107_3, e107, hx107_0, hx107_1, hx107_2, hx107_3, hl107_3, hi107_3⟩ := at_T25 HR1_3.out 1 p107 q107
         have hw107_3 := hx107_3
         (try rw [show ((1 : Int)).toNat = 1 from rfl] at hw107_3)
         (try rw [show 1 * 4 = 4 from rfl] at hw107_3)
         (try simp only [Nat.reduceMul, Nat.reduceEqDiff, Go.Addr.add, ↓reduceIte] at hw107_3)
         have hw107_2 := hx107_2
         (try rw [show ((1 : Int)).toNat = 1 from rfl] at hw107_2)
         (try rw [show 1 * 4 = 4 from rfl] at hw107_2)
         (try simp only [Nat.reduceMul, Nat.reduceEqDiff, Go.Addr.add, ↓reduceIte] at hw107_2)
         have hw107_1 := hx107_1
         (try rw [show ((1 : Int)).toNat = 1 from rfl] at hw107_1)
         (try rw [show 1 * 4 = 4 from rfl] at hw107_1)
         (try simp only [Nat.reduceMul, Nat.reduceEqDiff, Go.Addr.add, ↓reduceIte] at hw107_1)
         have hw107_0 := hx107_0
         (try rw [show ((1 : Int)).toNat = 1 from rfl] at hw107_0)
         (try rw [show 1 * 4 = 4 from rfl] at hw107_0)
         (try simp only [Nat.reduceMul, Nat.reduceEqDiff, Go.Addr.add, ↓reduceIte] at hw107_0)
         obtain rfl : ad104 = ad107 := (by injection e107)
         (try simp only [show (1 : Int).toNat = 1 from rfl, Nat.reduceMul, Nat.reduceEqDiff, Go.Addr.add, ↓reduceIte] at hx107_0)
         (try simp only [show (1 : Int).toNat = 1 from rfl, Nat.reduceMul, Nat.reduceEqDiff, Go.Addr.add, ↓reduceIte] at hx107_1)
         (try simp only [show (1 : Int).toNat = 1 from rfl, Nat.reduceMul, Nat.reduceEqDiff, Go.Addr.add, ↓reduceIte] at hx107_2)
         (try simp only [show (1 : Int).toNat = 1 from rfl, Nat.reduceMul, Nat.reduceEqDiff, Go.Addr.add, ↓reduceIte] at hx107_3)
         have qi107 : (1 < l1_3.length) = True := eq_true (by omega)
         (try rw [show ((1 : Int)).toNat = 1 from rfl] at hx107_0)
         (try rw [show 1 * 4 = 4 from rfl] at hx107_0)
         (try rw [show ((1 : Int)).toNat = 1 from rfl] at hx107_1)
         (try rw [show 1 * 4 = 4 from rfl] at hx107_1)
         (try rw [show ((1 : Int)).toNat = 1 from rfl] at hx107_2)
         (try rw [show 1 * 4 = 4 from rfl] at hx107_2)
         (try rw [show ((1 : Int)).toNat = 1 from rfl] at hx107_3)
         (try rw [show 1 * 4 = 4 from rfl] at hx107_3)
         replace hx107_0 := (HB.out.cell (World.block_lt_of_cell? w _ hx107_0)).trans hx107_0
         replace hx107_1 := (HB.out.cell (World.block_lt_of_cell? w _ hx107_1)).trans hx107_1
         replace hx107_2 := (HB.out.cell (World.block_lt_of_cell? w _ hx107_2)).trans hx107_2
         replace hx107_3 := (HB.out.cell (World.block_lt_of_cell? w _ hx107_3)).trans hx107_3
         have HR107_3 := Aside0.mk hi107_3
         have HC107_3 := Aside0.mk hl107_3
         clear hi107_3 hl107_3
         replace p107 := eq_true p107
         replace q107 := eq_true q107
         refine start_ (n := 21) (S := fun w' => w'.cell? ⟨gb101, 0, none⟩ = some (.int .u8 a0_0) ∧ w'.cell? ⟨gb101, 1, none⟩ = some (.int .u64 a0_1) ∧ w'.cell? ⟨gb101, 2, none⟩ = some (.string a0_2) ∧ w'.cell? ⟨gb101, 3, none⟩ = some (.slice (some ad103) l0_3.length c0_3) ∧ w'.cell? ⟨gb102, 0, none⟩ = some (.int .u8 a1_0) ∧ w'.cell? ⟨gb102, 1, none⟩ = some (.int .u64 a1_1) ∧ w'.cell? ⟨gb102, 2, none⟩ = some (.string a1_2) ∧ w'.cell? ⟨gb102, 3, none⟩ = some (.slice (some ad104) l1_3.length c1_3) ∧ w'.cell? ad103 = some (.int .u8 ((rd_T25 l0_3 0).f0)) ∧ w'.cell? ⟨ad103.block, ad103.off + 1, none⟩ = some (.int .u64 ((rd_T25 l0_3 0).f1)) ∧ w'.cell? ⟨ad103.block, ad103.off + 2, none⟩ = some (.string ((rd_T25 l0_3 0).f2)) ∧ w'.cell? ⟨ad103.block, ad103.off + 3, none⟩ = some (.slice A103_3 ((rd_T25 l0_3 0).f3).length c103_3) ∧ w'.cell? ad104 = some (.int .u8 ((rd_T25 l1_3 0).f0)) ∧ w'.cell? ⟨ad104.block, ad104.off + 1, none⟩ = some (.int .u64 ((rd_T25 l1_3 0).f1)) ∧ w'.cell? ⟨ad104.block, ad104.off + 2, none⟩ = some (.string ((rd_T25 l1_3 0).f2)) ∧ w'.cell? ⟨ad104.block, ad104.off + 3, none⟩ = some (.slice A104_3 ((rd_T25 l1_3 0).f3).length c104_3) ∧ w'.cell? ⟨ad103.block, ad103.off + 4, none⟩ = some (.int .u8 ((rd_T25 l0_3 1).f0)) ∧ w'.cell? ⟨ad103.block, ad103.off + 4 + 1, none⟩ = some (.int .u64 ((rd_T25 l0_3 1).f1)) ∧ w'.cell? ⟨ad103.block, ad103.off + 4 + 2, none⟩ = some (.string ((rd_T25 l0_3 1).f2)) ∧ w'.cell? ⟨ad103.block, ad103.off + 4 + 3, none⟩ = some (.slice A106_3 ((rd_T25 l0_3 1).f3).length c106_3) ∧ w'.cell? ⟨ad104.block, ad104.off + 4, none⟩ = some (.int .u8 ((rd_T25 l1_3 1).f0)) ∧ w'.cell? ⟨ad104.block, ad104.off + 4 + 1, none⟩ = some (.int .u64 ((rd_T25 l1_3 1).f1)) ∧ w'.cell? ⟨ad104.block, ad104.off + 4 + 2, none⟩ = some (.string ((rd_T25 l1_3 1).f2)) ∧ w'.cell? ⟨ad104.block, ad104.off + 4 + 3, none⟩ = some (.slice A107_3 ((rd_T25 l1_3 1).f3).length c107_3)) (ds := []) #[false, false, false, false, false, false, false, false, false, false, false, false, false, false, false, false, false, false, false, false, false] (by kernel_rfl) rfl rfl ⟨(blk_cell BK101.out 0).trans rfl, (blk_cell BK101.out 1).trans rfl, (blk_cell BK101.out 2).trans rfl, (blk_cell BK101.out 3).trans rfl, (blk_cell BK102.out 0).trans rfl, (blk_cell BK102.out 1).trans rfl, (blk_cell BK102.out 2).trans rfl, (blk_cell BK102.out 3).trans rfl, ((HB.out.cell (World.block_lt_of_cell? w _ hw103_0)).trans hw103_0), ((HB.out.cell (World.block_lt_of_cell? w _ hw103_1)).trans hw103_1), ((HB.out.cell (World.block_lt_of_cell? w _ hw103_2)).trans hw103_2), ((HB.out.cell (World.block_lt_of_cell? w _ hw103_3)).trans hw103_3), ((HB.out.cell (World.block_lt_of_cell? w _ hw104_0)).trans hw104_0), ((HB.out.cell (World.block_lt_of_cell? w _ hw104_1)).trans hw104_1), ((HB.out.cell (World.block_lt_of_cell? w _ hw104_2)).trans hw104_2), ((HB.out.cell (World.block_lt_of_cell? w _ hw104_3)).trans hw104_3), ((HB.out.cell (World.block_lt_of_cell? w _ hw106_0)).trans hw106_0), ((HB.out.cell (World.block_lt_of_cell? w _ hw106_1)).trans hw106_1), ((HB.out.cell (World.block_lt_of_cell? w _ hw106_2)).trans hw106_2), ((HB.out.cell (World.block_lt_of_cell? w _ hw106_3)).trans hw106_3), ((HB.out.cell (World.block_lt_of_cell? w _ hw107_0)).trans hw107_0), ((HB.out.cell (World.block_lt_of_cell? w _ hw107_1)).trans hw107_1), ((HB.out.cell (World.block_lt_of_cell? w _ hw107_2)).trans hw107_2), ((HB.out.cell (World.block_lt_of_cell? w _ hw107_3)).trans hw107_3)⟩ (fun hHeld => ?_); refine with_tabW value_alike.tab3 value_alike.bits3 (fun HT_ HW_ => ?_)
         generalize wc.drew = w23 at BK101 BK102 HB HR103_3 HR104_3 HR106_3 HR107_3 hx103_0 hx103_1 hx103_2 hx103_3 hx104_0 hx104_1 hx104_2 hx104_3 hx106_0 hx106_1 hx106_2 hx106_3 hx107_0 hx107_1 hx107_2 hx107_3 hHeld ⊢
         refine pure_ (i := 0) (N := some 18) (v := ?_) (a' := ?_) #[true, false, false, false, false, false, false, false, false, false, false, false, false, false, false, false, false, false, false, false, false] rfl rfl (any_of HT_.out (by kernel_rfl)) (fun _ _ _ h => h) (Or.inl ⟨by rfl, ?_⟩) ?_ ?_
         rotate_left
         ·intro w'
          go_simp
          with_reducible rfl
         rotate_left
         ·simp only [Act.put, List.setIfInBounds_toArray, List.set_cons_zero, List.set_cons_succ, i64_w, i32_w]
          rfl
         refine pure_ (i := 4) (N := some 22) (v := ?_) (a' := ?_) #[true, false, false, false, true, false, false, false, false, false, false, false, false, false, false, false, false, false, false, false, false] rfl rfl (any_of HT_.out (by kernel_rfl)) (fun _ _ _ h => h) (Or.inl ⟨by rfl, ?_⟩) ?_ ?_
         rotate_left
         ·intro w'
          go_simp
          with_reducible rfl
         rotate_left
         ·simp only [Act.put, List.setIfInBounds_toArray, List.set_cons_zero, List.set_cons_succ, i64_w, i32_w]
          rfl
         refine take_ (i := 1) (N := some 19) (v := ?_) (a' := ?_) #[true, true, false, false, true, false, false, false, false, false, false, false, false, false, false, false, false, false, false, false, false] rfl rfl (take_ofW HT_.out HW_.out (by kernel_rfl)) (fun _ _ _ h => h) (Or.inl ⟨by rfl, ?_⟩) hHeld ?_ ?_
         rotate_left
         ·rintro w' ⟨s0, s1, s2, s3, s4, s5, s6, s7, s8, s9, s10, s11, s12, s13, s14, s15, s16, s17, s18, s19, s20, s21, s22, s23⟩
          go_simp
          with_reducible rfl
         rotate_left
         ·simp only [Act.put, List.setIfInBounds_toArray, List.set_cons_zero, List.set_cons_succ, i64_w, i32_w]
          rfl
         refine pure_ (i := 2) (N := some 20) (v := ?_) (a' := ?_) #[true, true, true, false, true, false, false, false, false, false, false, false, false, false, false, false, false, false, false, false, false] rfl rfl (any_of HT_.out (by kernel_rfl)) (fun _ _ _ h => h) (Or.inl ⟨by rfl, ?_⟩) ?_ ?_
         rotate_left
         ·intro w'
          go_simp
          with_reducible rfl
         rotate_left
         ·simp only [Act.put, List.setIfInBounds_toArray, List.set_cons_zero, List.set_cons_succ, i64_w, i32_w]
          rfl
         refine take_ (i := 3) (N := some 21) (v := ?_) (a' := ?_) #[true, true, true, true, true, false, false, false, false, false, false, false, false, false, false, false, false, false, false, false, false] rfl rfl (take_ofW HT_.out HW_.out (by kernel_rfl)) (fun _ _ _ h => h) (Or.inl ⟨by rfl, ?_⟩) hHeld ?_ ?_
         rotate_left
         ·rintro w' ⟨s0, s1, s2, s3, s4, s5, s6, s7, s8, s9, s10, s11, s12, s13, s14, s15, s16, s17, s18, s19, s20, s21, s22, s23⟩
          go_simp
          with_reducible rfl
         rotate_left
         ·simp only [Act.put, List.setIfInBounds_toArray, List.set_cons_zero, List.set_cons_succ, i64_w, i32_w]
          rfl
         refine take_ (i := 5) (N := some 23) (v := ?_) (a' := ?_) #[true, true, true, true, true, true, false, false, false, false, false, false, false, false, false, false, false, false, false, false, false] rfl rfl (take_ofW HT_.out HW_.out (by kernel_rfl)) (fun _ _ _ h => h) (Or.inl ⟨by rfl, ?_⟩) hHeld ?_ ?_
         rotate_left
         ·rintro w' ⟨s0, s1, s2, s3, s4, s5, s6, s7, s8, s9, s10, s11, s12, s13, s14, s15, s16, s17, s18, s19, s20, s21, s22, s23⟩
          go_simp
          with_reducible rfl
         rotate_left
         ·simp only [Act.put, List.setIfInBounds_toArray, List.set_cons_zero, List.set_cons_succ, i64_w, i32_w]
          rfl
         refine pure_ (i := 6) (N := some 24) (v := ?_) (a' := ?_) #[true, true, true, true, true, true, true, false, false, false, false, false, false, false, false, false, false, false, false, false, false] rfl rfl (any_of HT_.out (by kernel_rfl)) (fun _ _ _ h => h) (Or.inl ⟨by rfl, ?_⟩) ?_ ?_
         rotate_left
         ·intro w'
          go_simp
          with_reducible rfl
         rotate_left
         ·simp only [Act.put, List.setIfInBounds_toArray, List.set_cons_zero, List.set_cons_succ, i64_w, i32_w]
          rfl
         refine take_ (i := 7) (N := some 25) (v := ?_) (a' := ?_) #[true, true, true, true, true, true, true, true, false, false, false, false, false, false, false, false, false, false, false, false, false] rfl rfl (take_ofW HT_.out HW_.out (by kernel_rfl)) (fun _ _ _ h => h) (Or.inl ⟨by rfl, ?_⟩) hHeld ?_ ?_
         rotate_left
         ·rintro w' ⟨s0, s1, s2, s3, s4, s5, s6, s7, s8, s9, s10, s11, s12, s13, s14, s15, s16, s17, s18, s19, s20, s21, s22, s23⟩
          go_simp
          with_reducible rfl
         rotate_left
         ·simp only [Act.put, List.setIfInBounds_toArray, List.set_cons_zero, List.set_cons_succ, i64_w, i32_w]
          rfl
         refine one_ (i := 8) (N := some 26) #[true, true, true, true, true, true, true, true, true, false, false, false, false, false, false, false, false, false, false, false, false] rfl rfl (one_of HT_.out (by kernel_rfl)) (by decide) (fun K hK => ?_)
         refine goes_ Try.func22 (by kernel_rfl) rfl #[.agg #[.int .u8 ((rd_T25 l0_3 0).f0), .int .u64 ((rd_T25 l0_3 0).f1), .string ((rd_T25 l0_3 0).f2), .slice A103_3 ((rd_T25 l0_3 0).f3).length c103_3], .agg #[.int .u8 ((rd_T25 l1_3 0).f0), .int .u64 ((rd_T25 l1_3 0).f1), .string ((rd_T25 l1_3 0).f2), .slice A104_3 ((rd_T25 l1_3 0).f3).length c104_3]] (by rfl) rfl rfl (by (try simp only [List.map_toArray, List.map_cons, List.map_nil]); first | done | rfl | (simp only [List.length_drop, List.length_take]; rfl)) ?_
         with_reducible refine (value_Same.calls ((rd_T25 l0_3 0).f0) ((rd_T25 l0_3 0).f1) ((rd_T25 l0_3 0).f2) _ _ ((rd_T25 l0_3 0).f3) ((rd_T25 l1_3 0).f0) ((rd_T25 l1_3 0).f1) ((rd_T25 l1_3 0).f2) _ _ ((rd_T25 l1_3 0).f3) true _ ?side1 ?side2 ?side3 ?side4 A18.out).mono ?_
         (case side1 => repeat (first | exact (Kd.C_below HR103_3.out HB.out) | (with_reducible refine Kd.C_alloc ?_ _) | (with_reducible refine Kd.C_drewN ?_ _) | (with_reducible refine Kd.C_drew ?_)))
         (case side2 => exact HC103_3.out)
         (case side3 => repeat (first | exact (Kd.C_below HR104_3.out HB.out) | (with_reducible refine Kd.C_alloc ?_ _) | (with_reducible refine Kd.C_drewN ?_ _) | (with_reducible refine Kd.C_drew ?_)))
         (case side4 => exact HC104_3.out)
         rintro e w24 ⟨rfl, hb⟩
         refine ⟨_, rfl, ?_⟩
         have n0_ := Aside0.mk (blk_below (g := gb101) (o := .cells #[.int .u8 a0_0, .int .u64 a0_1, .string a0_2, .slice (some ad103) l0_3.length c0_3] 25 (0, 0)) (by (with_reducible repeat (first | refine blk_drewN ?_ _ | refine blk_drew ?_ | refine blk_alloc ?_ _)); exact BK101.out) hb)
         have n1_ := Aside0.mk (blk_below (g := gb102) (o := .cells #[.int .u8 a1_0, .int .u64 a1_1, .string a1_2, .slice (some ad104) l1_3.length c1_3] 25 (0, 0)) (by (with_reducible repeat (first | refine blk_drewN ?_ _ | refine blk_drew ?_ | refine blk_alloc ?_ _)); exact BK102.out) hb)
         have n2_ := Aside0.mk (below_step (by repeat (first | (with_reducible first | exact HB.out | apply below_alloc | apply pw_below_drewN | apply below_drew1 | refine below_set ?_ GE101.out | refine below_set ?_ GE102.out) | exact HB.out)) hb)
         clear BK101
         clear BK102
         clear HB
         have BK101 := n0_
         have BK102 := n1_
         have HB := n2_
         clear n0_ n1_ n2_
         (try clear hb)
         (try clear hb2)
         (try clear hk)
         (try clear hi)
         refine hK.out _ _ ⟨(blk_cell BK101.out 0).trans rfl, (blk_cell BK101.out 1).trans rfl, (blk_cell BK101.out 2).trans rfl, (blk_cell BK101.out 3).trans rfl, (blk_cell BK102.out 0).trans rfl, (blk_cell BK102.out 1).trans rfl, (blk_cell BK102.out 2).trans rfl, (blk_cell BK102.out 3).trans rfl, ((HB.out.cell (World.block_lt_of_cell? w _ hw103_0)).trans hw103_0), ((HB.out.cell (World.block_lt_of_cell? w _ hw103_1)).trans hw103_1), ((HB.out.cell (World.block_lt_of_cell? w _ hw103_2)).trans hw103_2), ((HB.out.cell (World.block_lt_of_cell? w _ hw103_3)).trans hw103_3), ((HB.out.cell (World.block_lt_of_cell? w _ hw104_0)).trans hw104_0), ((HB.out.cell (World.block_lt_of_cell? w _ hw104_1)).trans hw104_1), ((HB.out.cell (World.block_lt_of_cell? w _ hw104_2)).trans hw104_2), ((HB.out.cell (World.block_lt_of_cell? w _ hw104_3)).trans hw104_3), ((HB.out.cell (World.block_lt_of_cell? w _ hw106_0)).trans hw106_0), ((HB.out.cell (World.block_lt_of_cell? w _ hw106_1)).trans hw106_1), ((HB.out.cell (World.block_lt_of_cell? w _ hw106_2)).trans hw106_2), ((HB.out.cell (World.block_lt_of_cell? w _ hw106_3)).trans hw106_3), ((HB.out.cell (World.block_lt_of_cell? w _ hw107_0)).trans hw107_0), ((HB.out.cell (World.block_lt_of_cell? w _ hw107_1)).trans hw107_1), ((HB.out.cell (World.block_lt_of_cell? w _ hw107_2)).trans hw107_2), ((HB.out.cell (World.block_lt_of_cell? w _ hw107_3)).trans hw107_3)⟩ (fun hHeld => ?_)
         clear hK K
         refine norm_ (a' := ?_) ?_ ?_
         rotate_left
         ·show Act.put _ (some 26) _ = _
          simp only [Act.put, List.setIfInBounds_toArray, List.set_cons_zero, List.set_cons_succ, i64_w, i32_w]
          rfl
         refine pure_ (i := 9) (N := some 27) (v := ?_) (a' := ?_) #[true, true, true, true, true, true, true, true, true, true, false, false, false, false, false, false, false, false, false, false, false] rfl rfl (any_of HT_.out (by kernel_rfl)) (fun _ _ _ h => h) (Or.inl ⟨by rfl, ?_⟩) ?_ ?_
         rotate_left
         ·intro w'
          go_simp
          with_reducible rfl
         rotate_left
         ·simp only [Act.put, List.setIfInBounds_toArray, List.set_cons_zero, List.set_cons_succ, i64_w, i32_w]
          rfl
         refine pure_ (i := 10) (N := some 28) (v := ?_) (a' := ?_) #[true, true, true, true, true, true, true, true, true, true, true, false, false, false, false, false, false, false, false, false, false] rfl rfl (any_of HT_.out (by kernel_rfl)) (fun _ _ _ h => h) (Or.inl ⟨by rfl, ?_⟩) ?_ ?_
         rotate_left
         ·intro w'
          go_simp
          with_reducible rfl
         rotate_left
         ·simp only [Act.put, List.setIfInBounds_toArray, List.set_cons_zero, List.set_cons_succ, i64_w, i32_w]
          rfl
         refine pure_ (i := 14) (N := some 32) (v := ?_) (a' := ?_) #[true, true, true, true, true, true, true, true, true, true, true, false, false, false, true, false, false, false, false, false, false] rfl rfl (any_of HT_.out (by kernel_rfl)) (fun _ _ _ h => h) (Or.inl ⟨by rfl, ?_⟩) ?_ ?_
         rotate_left
         ·intro w'
          go_simp
          with_reducible rfl
         rotate_left
         ·simp only [Act.put, List.setIfInBounds_toArray, List.set_cons_zero, List.set_cons_succ, i64_w, i32_w]
          rfl
         refine take_ (i := 11) (N := some 29) (v := ?_) (a' := ?_) #[true, true, true, true, true, true, true, true, true, true, true, true, false, false, true, false, false, false, false, false, false] rfl rfl (take_ofW HT_.out HW_.out (by kernel_rfl)) (fun _ _ _ h => h) (Or.inl ⟨by rfl, ?_⟩) hHeld ?_ ?_
         rotate_left
         ·rintro w' ⟨s0, s1, s2, s3, s4, s5, s6, s7, s8, s9, s10, s11, s12, s13, s14, s15, s16, s17, s18, s19, s20, s21, s22, s23⟩
          go_simp
          with_reducible rfl
         rotate_left
         ·simp only [Act.put, List.setIfInBounds_toArray, List.set_cons_zero, List.set_cons_succ, i64_w, i32_w]
          rfl
         refine pure_ (i := 12) (N := some 30) (v := ?_) (a' := ?_) #[true, true, true, true, true, true, true, true, true, true, true, true, true, false, true, false, false, false, false, false, false] rfl rfl (any_of HT_.out (by kernel_rfl)) (fun _ _ _ h => h) (Or.inl ⟨by rfl, ?_⟩) ?_ ?_
         rotate_left
         ·intro w'
          go_simp
          with_reducible rfl
         rotate_left
         ·simp only [Act.put, List.setIfInBounds_toArray, List.set_cons_zero, List.set_cons_succ, i64_w, i32_w]
          rfl
         refine take_ (i := 13) (N := some 31) (v := ?_) (a' := ?_) #[true, true, true, true, true, true, true, true, true, true, true, true, true, true, true, false, false, false, false, false, false] rfl rfl (take_ofW HT_.out HW_.out (by kernel_rfl)) (fun _ _ _ h => h) (Or.inl ⟨by rfl, ?_⟩) hHeld ?_ ?_
         rotate_left
         ·rintro w' ⟨s0, s1, s2, s3, s4, s5, s6, s7, s8, s9, s10, s11, s12, s13, s14, s15, s16, s17, s18, s19, s20, s21, s22, s23⟩
          go_simp
          with_reducible rfl
         rotate_left
         ·simp only [Act.put, List.setIfInBounds_toArray, List.set_cons_zero, List.set_cons_succ, i64_w, i32_w]
          rfl
         refine take_ (i := 15) (N := some 33) (v := ?_) (a' := ?_) #[true, true, true, true, true, true, true, true, true, true, true, true, true, true, true, true, false, false, false, false, false] rfl rfl (take_ofW HT_.out HW_.out (by kernel_rfl)) (fun _ _ _ h => h) (Or.inl ⟨by rfl, ?_⟩) hHeld ?_ ?_
         rotate_left
         ·rintro w' ⟨s0, s1, s2, s3, s4, s5, s6, s7, s8, s9, s10, s11, s12, s13, s14, s15, s16, s17, s18, s19, s20, s21, s22, s23⟩
          go_simp
          with_reducible rfl
         rotate_left
         ·simp only [Act.put, List.setIfInBounds_toArray, List.set_cons_zero, List.set_cons_succ, i64_w, i32_w]
          rfl
         refine pure_ (i := 16) (N := some 34) (v := ?_) (a' := ?_) #[true, true, true, true, true, true, true, true, true, true, true, true, true, true, true, true, true, false, false, false, false] rfl rfl (any_of HT_.out (by kernel_rfl)) (fun _ _ _ h => h) (Or.inl ⟨by rfl, ?_⟩) ?_ ?_
         rotate_left
         ·intro w'
          go_simp
          with_reducible rfl
         rotate_left
         ·simp only [Act.put, List.setIfInBounds_toArray, List.set_cons_zero, List.set_cons_succ, i64_w, i32_w]
          rfl
         refine take_ (i := 17) (N := some 35) (v := ?_) (a' := ?_) #[true, true, true, true, true, true, true, true, true, true, true, true, true, true, true, true, true, true, false, false, false] rfl rfl (take_ofW HT_.out HW_.out (by kernel_rfl)) (fun _ _ _ h => h) (Or.inl ⟨by rfl, ?_⟩) hHeld ?_ ?_
         rotate_left
         ·rintro w' ⟨s0, s1, s2, s3, s4, s5, s6, s7, s8, s9, s10, s11, s12, s13, s14, s15, s16, s17, s18, s19, s20, s21, s22, s23⟩
          go_simp
          with_reducible rfl
         rotate_left
         ·simp only [Act.put, List.setIfInBounds_toArray, List.set_cons_zero, List.set_cons_succ, i64_w, i32_w]
          rfl
         refine one_ (i := 18) (N := some 36) #[true, true, true, true, true, true, true, true, true, true, true, true, true, true, true, true, true, true, true, false, false] rfl rfl (one_of HT_.out (by kernel_rfl)) (by decide) (fun K hK => ?_)
         refine goes_ Try.func121 (by kernel_rfl) rfl #[.agg #[.int .u8 ((rd_T25 l0_3 1).f0), .int .u64 ((rd_T25 l0_3 1).f1), .string ((rd_T25 l0_3 1).f2), .slice A106_3 ((rd_T25 l0_3 1).f3).length c106_3], .agg #[.int .u8 ((rd_T25 l1_3 1).f0), .int .u64 ((rd_T25 l1_3 1).f1), .string ((rd_T25 l1_3 1).f2), .slice A107_3 ((rd_T25 l1_3 1).f3).length c107_3]] (by rfl) rfl rfl (by (try simp only [List.map_toArray, List.map_cons, List.map_nil]); first | done | rfl | (simp only [List.length_drop, List.length_take]; rfl)) ?_
         with_reducible refine (ih kj2 (by have := HJ2.out; omega) ((rd_T25 l0_3 1).f0) ((rd_T25 l0_3 1).f1) ((rd_T25 l0_3 1).f2) _ _ ((rd_T25 l0_3 1).f3) ((rd_T25 l1_3 1).f0) ((rd_T25 l1_3 1).f1) ((rd_T25 l1_3 1).f2) _ _ ((rd_T25 l1_3 1).f3) t108 _ ?side1 ?side2 ?side3 ?side4 A22.out).mono ?_
         (case side1 => repeat (first | exact (Kd.C_below HR106_3.out HB.out) | (with_reducible refine Kd.C_alloc ?_ _) | (with_reducible refine Kd.C_drewN ?_ _) | (with_reducible refine Kd.C_drew ?_)))
         (case side2 => exact HC106_3.out)
         (case side3 => repeat (first | exact (Kd.C_below HR107_3.out HB.out) | (with_reducible refine Kd.C_alloc ?_ _) | (with_reducible refine Kd.C_drewN ?_ _) | (with_reducible refine Kd.C_drew ?_)))
         (case side4 => exact HC107_3.out)
         rintro e w25 ⟨rfl, hb⟩
         refine ⟨_, rfl, ?_⟩
         have n0_ := Aside0.mk (blk_below (g := gb101) (o := .cells #[.int .u8 a0_0, .int .u64 a0_1, .string a0_2, .slice (some ad103) l0_3.length c0_3] 25 (0, 0)) (by (with_reducible repeat (first | refine blk_drewN ?_ _ | refine blk_drew ?_ | refine blk_alloc ?_ _)); exact BK101.out) hb)
         have n1_ := Aside0.mk (blk_below (g := gb102) (o := .cells #[.int .u8 a1_0, .int .u64 a1_1, .string a1_2, .slice (some ad104) l1_3.length c1_3] 25 (0, 0)) (by (with_reducible repeat (first | refine blk_drewN ?_ _ | refine blk_drew ?_ | refine blk_alloc ?_ _)); exact BK102.out) hb)
         have n2_ := Aside0.mk (below_step (by repeat (first | (with_reducible first | exact HB.out | apply below_alloc | apply pw_below_drewN | apply below_drew1 | refine below_set ?_ GE101.out | refine below_set ?_ GE102.out) | exact HB.out)) hb)
         clear BK101
         clear BK102
         clear HB
         have BK101 := n0_
         have BK102 := n1_
         have HB := n2_
         clear n0_ n1_ n2_
         (try clear hb)
         (try clear hb2)
         (try clear hk)
         (try clear hi)
         refine hK.out _ _ ⟨(blk_cell BK101.out 0).trans rfl, (blk_cell BK101.out 1).trans rfl, (blk_cell BK101.out 2).trans rfl, (blk_cell BK101.out 3).trans rfl, (blk_cell BK102.out 0).trans rfl, (blk_cell BK102.out 1).trans rfl, (blk_cell BK102.out 2).trans rfl, (blk_cell BK102.out 3).trans rfl, ((HB.out.cell (World.block_lt_of_cell? w _ hw103_0)).trans hw103_0), ((HB.out.cell (World.block_lt_of_cell? w _ hw103_1)).trans hw103_1), ((HB.out.cell (World.block_lt_of_cell? w _ hw103_2)).trans hw103_2), ((HB.out.cell (World.block_lt_of_cell? w _ hw103_3)).trans hw103_3), ((HB.out.cell (World.block_lt_of_cell? w _ hw104_0)).trans hw104_0), ((HB.out.cell (World.block_lt_of_cell? w _ hw104_1)).trans hw104_1), ((HB.out.cell (World.block_lt_of_cell? w _ hw104_2)).trans hw104_2), ((HB.out.cell (World.block_lt_of_cell? w _ hw104_3)).trans hw104_3), ((HB.out.cell (World.block_lt_of_cell? w _ hw106_0)).trans hw106_0), ((HB.out.cell (World.block_lt_of_cell? w _ hw106_1)).trans hw106_1), ((HB.out.cell (World.block_lt_of_cell? w _ hw106_2)).trans hw106_2), ((HB.out.cell (World.block_lt_of_cell? w _ hw106_3)).trans hw106_3), ((HB.out.cell (World.block_lt_of_cell? w _ hw107_0)).trans hw107_0), ((HB.out.cell (World.block_lt_of_cell? w _ hw107_1)).trans hw107_1), ((HB.out.cell (World.block_lt_of_cell? w _ hw107_2)).trans hw107_2), ((HB.out.cell (World.block_lt_of_cell? w _ hw107_3)).trans hw107_3)⟩ (fun hHeld => ?_)
         clear hK K
         refine norm_ (a' := ?_) ?_ ?_
         rotate_left
         ·show Act.put _ (some 36) _ = _
          simp only [Act.put, List.setIfInBounds_toArray, List.set_cons_zero, List.set_cons_succ, i64_w, i32_w]
          rfl
         refine pure_ (i := 19) (N := some 37) (v := ?_) (a' := ?_) #[true, true, true, true, true, true, true, true, true, true, true, true, true, true, true, true, true, true, true, true, false] rfl rfl (any_of HT_.out (by kernel_rfl)) (fun _ _ _ h => h) (Or.inl ⟨by rfl, ?_⟩) ?_ ?_
         rotate_left
         ·intro w'
          go_simp
          with_reducible rfl
         rotate_left
         ·simp only [Act.put, List.setIfInBounds_toArray, List.set_cons_zero, List.set_cons_succ, i64_w, i32_w]
          rfl
         refine pure_ (i := 20) (N := some 4) (v := ?_) (a' := ?_) #[true, true, true, true, true, true, true, true, true, true, true, true, true, true, true, true, true, true, true, true, true] rfl rfl (any_of HT_.out (by kernel_rfl)) (fun _ _ _ h => h) (Or.inl ⟨by rfl, ?_⟩) ?_ ?_
         rotate_left
         ·intro w'
          go_simp
          with_reducible rfl
         rotate_left
         ·simp only [Act.put, List.setIfInBounds_toArray, List.set_cons_zero, List.set_cons_succ, i64_w, i32_w]
          rfl
         refine done_ (done_of HT_.out (by kernel_rfl)) ?_
         try go_wp2
         go_ret
         exact ⟨by first | rfl | (simp [errW_none, errW_some] <;> rfl) | (simp [*, errW_none, errW_some] <;> rfl), by repeat (first | (with_reducible first | exact HB.out | apply below_alloc | apply pw_below_drewN | apply below_drew1 | refine below_set ?_ GE101.out | refine below_set ?_ GE102.out) | exact HB.out)⟩
        ·rw [if_neg c21] at H
         exact absurd H (by simp)
       ·rw [if_neg c20] at H
        exact absurd H (by simp)
      ·replace c19 := Bool.eq_false_iff.mpr c19
       subst c19
       have H1 : (some false) = some r := by rw [if_neg (show ¬ (false = true) by decide)] at H; exact H
       clear H
       have H := H1
       clear H1
       obtain rfl := Option.some.inj H
       try go_wp2
       have n0_ := Aside0.mk (blk_drew BK101.out)
       have n1_ := Aside0.mk (blk_drew BK102.out)
       have n2_ := Aside0.mk (below_drew1 HB.out)
       clear BK101
       clear BK102
       clear HB
       have BK101 := n0_
       have BK102 := n1_
       have HB := n2_
       clear n0_ n1_ n2_
       have p103 : 0 ≤ (0 : Int) := (by omega)
       have q103 : 0 < (l0_3.length : Int) := of_decide_eq_true (by first | (with_reducible assumption) | assumption)
       obtain ⟨ad103, A103_3, c103_3, e103, hx103_0, hx103_1, hx103_2, hx103_3, hl103_3, hi103_3⟩ := at_T25 HR0_3.out 0 p103 q103
       have hw103_3 := hx103_3
       (try rw [show ((0 : Int)).toNat = 0 from rfl] at hw103_3)
       (try rw [show 0 * 4 = 0 from rfl] at hw103_3)
       (try rw [Addr.add_zero'] at hw103_3)
       have hw103_2 := hx103_2
       (try rw [show ((0 : Int)).toNat = 0 from rfl] at hw103_2)
       (try rw [show 0 * 4 = 0 from rfl] at hw103_2)
       (try rw [Addr.add_zero'] at hw103_2)
       have hw103_1 := hx103_1
       (try rw [show ((0 : Int)).toNat = 0 from rfl] at hw103_1)
       (try rw [show 0 * 4 = 0 from rfl] at hw103_1)
       (try rw [Addr.add_zero'] at hw103_1)
       have hw103_0 := hx103_0
       (try rw [show ((0 : Int)).toNat = 0 from rfl] at hw103_0)
       (try rw [show 0 * 4 = 0 from rfl] at hw103_0)
       (try rw [Addr.add_zero'] at hw103_0)
       cases e103
       have qi103 : (0 < l0_3.length) = True := eq_true (by omega)
       (try rw [show ((0 : Int)).toNat = 0 from rfl] at hx103_0)
       (try rw [show 0 * 4 = 0 from rfl] at hx103_0)
       (try rw [Addr.add_zero'] at hx103_0)
       (try rw [show ((0 : Int)).toNat = 0 from rfl] at hx103_1)
       (try rw [show 0 * 4 = 0 from rfl] at hx103_1)
       (try rw [Addr.add_zero'] at hx103_1)
       (try rw [show ((0 : Int)).toNat = 0 from rfl] at hx103_2)
       (try rw [show 0 * 4 = 0 from rfl] at hx103_2)
       (try rw [Addr.add_zero'] at hx103_2)
       (try rw [show ((0 : Int)).toNat = 0 from rfl] at hx103_3)
       (try rw [show 0 * 4 = 0 from rfl] at hx103_3)
       (try rw [Addr.add_zero'] at hx103_3)
       replace hx103_0 := (HB.out.cell (World.block_lt_of_cell? w _ hx103_0)).trans hx103_0
       replace hx103_1 := (HB.out.cell (World.block_lt_of_cell? w _ hx103_1)).trans hx103_1
       replace hx103_2 := (HB.out.cell (World.block_lt_of_cell? w _ hx103_2)).trans hx103_2
       replace hx103_3 := (HB.out.cell (World.block_lt_of_cell? w _ hx103_3)).trans hx103_3
       have HR103_3 := Aside0.mk hi103_3
       have HC103_3 := Aside0.mk hl103_3
       clear hi103_3 hl103_3
       replace p103 := eq_true p103
       replace q103 := eq_true q103
       have p104 : 0 ≤ (0 : Int) := (by omega)
       have q104 : 0 < (l1_3.length : Int) := of_decide_eq_true (by first | (with_reducible assumption) | assumption)
       obtain ⟨ad104, A104_3, c104_3, e104, hx104_0, hx104_1, hx104_2, hx104_3, hl104_3, hi104_3⟩ := at_T25 HR1_3.out 0 p104 q104
       have hw104_3 := hx104_3
       (try rw [show ((0 : Int)).toNat = 0 from rfl] at hw104_3)
       (try rw [show 0 * 4 = 0 from rfl] at hw104_3)
       (try rw [Addr.add_zero'] at hw104_3)
       have hw104_2 := hx104_2
       (try rw [show ((0 : Int)).toNat = 0 from rfl] at hw104_2)
       (try rw [show 0 * 4 = 0 from rfl] at hw104_2)
       (try rw [Addr.add_zero'] at hw104_2)
       have hw104_1 := hx104_1
       (try rw [show ((0 : Int)).toNat = 0 from rfl] at hw104_1)
       (try rw [show 0 * 4 = 0 from rfl] at hw104_1)
       (try rw [Addr.add_zero'] at hw104_1)
       have hw104_0 := hx104_0
       (try rw [show ((0 : Int)).toNat = 0 from rfl] at hw104_0)
       (try rw [show 0 * 4 = 0 from rfl] at hw104_0)
       (try rw [Addr.add_zero'] at hw104_0)
       cases e104
       have qi104 : (0 < l1_3.length) = True := eq_true (by omega)
       (try rw [show ((0 : Int)).toNat = 0 from rfl] at hx104_0)
       (try rw [show 0 * 4 = 0 from rfl] at hx104_0)
       (try rw [Addr.add_zero'] at hx104_0)
       (try rw [show ((0 : Int)).toNat = 0 from rfl] at hx104_1)
       (try rw [show 0 * 4 = 0 from rfl] at hx104_1)
       (try rw [Addr.add_zero'] at hx104_1)
       (try rw [show ((0 : Int)).toNat = 0 from rfl] at hx104_2)
       (try rw [show 0 * 4 = 0 from rfl] at hx104_2)
       (try rw [Addr.add_zero'] at hx104_2)
       (try rw [show ((0 : Int)).toNat = 0 from rfl] at hx104_3)
       (try rw [show 0 * 4 = 0 from rfl] at hx104_3)
       (try rw [Addr.add_zero'] at hx104_3)
       replace hx104_0 := (HB.out.cell (World.block_lt_of_cell? w _ hx104_0)).trans hx104_0
       replace hx104_1 := (HB.out.cell (World.block_lt_of_cell? w _ hx104_1)).trans hx104_1
       replace hx104_2 := (HB.out.cell (World.block_lt_of_cell? w _ hx104_2)).trans hx104_2
       replace hx104_3 := (HB.out.cell (World.block_lt_of_cell? w _ hx104_3)).trans hx104_3
       have HR104_3 := Aside0.mk hi104_3
       have HC104_3 := Aside0.mk hl104_3
       clear hi104_3 hl104_3
       replace p104 := eq_true p104
       replace q104 := eq_true q104
       refine start_ (n := 21) (S := fun w' => w'.cell? ⟨gb101, 0, none⟩ = some (.int .u8 a0_0) ∧ w'.cell? ⟨gb101, 1, none⟩ = some (.int .u64 a0_1) ∧ w'.cell? ⟨gb101, 2, none⟩ = some (.string a0_2) ∧ w'.cell? ⟨gb101, 3, none⟩ = some (.slice (some ad103) l0_3.length c0_3) ∧ w'.cell? ⟨gb102, 0, none⟩ = some (.int .u8 a1_0) ∧ w'.cell? ⟨gb102, 1, none⟩ = some (.int .u64 a1_1) ∧ w'.cell? ⟨gb102, 2, none⟩ = some (.string a1_2) ∧ w'.cell? ⟨gb102, 3, none⟩ = some (.slice (some ad104) l1_3.length c1_3) ∧ w'.cell? ad103 = some (.int .u8 ((rd_T25 l0_3 0).f0)) ∧ w'.cell? ⟨ad103.block, ad103.off + 1, none⟩ = some (.int .u64 ((rd_T25 l0_3 0).f1)) ∧ w'.cell? ⟨ad103.block, ad103.off + 2, none⟩ = some (.string ((rd_T25 l0_3 0).f2)) ∧ w'.cell? ⟨ad103.block, ad103.off + 3, none⟩ = some (.slice A103_3 ((rd_T25 l0_3 0).f3).length c103_3) ∧ w'.cell? ad104 = some (.int .u8 ((rd_T25 l1_3 0).f0)) ∧ w'.cell? ⟨ad104.block, ad104.off + 1, none⟩ = some (.int .u64 ((rd_T25 l1_3 0).f1)) ∧ w'.cell? ⟨ad104.block, ad104.off + 2, none⟩ = some (.string ((rd_T25 l1_3 0).f2)) ∧ w'.cell? ⟨ad104.block, ad104.off + 3, none⟩ = some (.slice A104_3 ((rd_T25 l1_3 0).f3).length c104_3)) (ds := []) #[false, false, false, false, false, false, false, false, false, false, false, false, false, false, false, false, false, false, false, false, false] (by kernel_rfl) rfl rfl ⟨(blk_cell BK101.out 0).trans rfl, (blk_cell BK101.out 1).trans rfl, (blk_cell BK101.out 2).trans rfl, (blk_cell BK101.out 3).trans rfl, (blk_cell BK102.out 0).trans rfl, (blk_cell BK102.out 1).trans rfl, (blk_cell BK102.out 2).trans rfl, (blk_cell BK102.out 3).trans rfl, ((HB.out.cell (World.block_lt_of_cell? w _ hw103_0)).trans hw103_0), ((HB.out.cell (World.block_lt_of_cell? w _ hw103_1)).trans hw103_1), ((HB.out.cell (World.block_lt_of_cell? w _ hw103_2)).trans hw103_2), ((HB.out.cell (World.block_lt_of_cell? w _ hw103_3)).trans hw103_3), ((HB.out.cell (World.block_lt_of_cell? w _ hw104_0)).trans hw104_0), ((HB.out.cell (World.block_lt_of_cell? w _ hw104_1)).trans hw104_1), ((HB.out.cell (World.block_lt_of_cell? w _ hw104_2)).trans hw104_2), ((HB.out.cell (World.block_lt_of_cell? w _ hw104_3)).trans hw104_3)⟩ (fun hHeld => ?_); refine with_tabW value_alike.tab3 value_alike.bits3 (fun HT_ HW_ => ?_)
       generalize wc.drew = w26 at BK101 BK102 HB HR103_3 HR104_3 hx103_0 hx103_1 hx103_2 hx103_3 hx104_0 hx104_1 hx104_2 hx104_3 hHeld ⊢
       refine pure_ (i := 0) (N := some 18) (v := ?_) (a' := ?_) #[true, false, false, false, false, false, false, false, false, false, false, false, false, false, false, false, false, false, false, false, false] rfl rfl (any_of HT_.out (by kernel_rfl)) (fun _ _ _ h => h) (Or.inl ⟨by rfl, ?_⟩) ?_ ?_
       rotate_left
       ·intro w'
        go_simp
        with_reducible rfl
       rotate_left
       ·simp only [Act.put, List.setIfInBounds_toArray, List.set_cons_zero, List.set_cons_succ, i64_w, i32_w]
        rfl
       refine pure_ (i := 4) (N := some 22) (v := ?_) (a' := ?_) #[true, false, false, false, true, false, false, false, false, false, false, false, false, false, false, false, false, false, false, false, false] rfl rfl (any_of HT_.out (by kernel_rfl)) (fun _ _ _ h => h) (Or.inl ⟨by rfl, ?_⟩) ?_ ?_
       rotate_left
       ·intro w'
        go_simp
        with_reducible rfl
       rotate_left
       ·simp only [Act.put, List.setIfInBounds_toArray, List.set_cons_zero, List.set_cons_succ, i64_w, i32_w]
        rfl
       refine take_ (i := 1) (N := some 19) (v := ?_) (a' := ?_) #[true, true, false, false, true, false, false, false, false, false, false, false, false, false, false, false, false, false, false, false, false] rfl rfl (take_ofW HT_.out HW_.out (by kernel_rfl)) (fun _ _ _ h => h) (Or.inl ⟨by rfl, ?_⟩) hHeld ?_ ?_
       rotate_left
       ·rintro w' ⟨s0, s1, s2, s3, s4, s5, s6, s7, s8, s9, s10, s11, s12, s13, s14, s15⟩
        go_simp
        with_reducible rfl
       rotate_left
       ·simp only [Act.put, List.setIfInBounds_toArray, List.set_cons_zero, List.set_cons_succ, i64_w, i32_w]
        rfl
       refine pure_ (i := 2) (N := some 20) (v := ?_) (a' := ?_) #[true, true, true, false, true, false, false, false, false, false, false, false, false, false, false, false, false, false, false, false, false] rfl rfl (any_of HT_.out (by kernel_rfl)) (fun _ _ _ h => h) (Or.inl ⟨by rfl, ?_⟩) ?_ ?_
       rotate_left
       ·intro w'
        go_simp
        with_reducible rfl
       rotate_left
       ·simp only [Act.put, List.setIfInBounds_toArray, List.set_cons_zero, List.set_cons_succ, i64_w, i32_w]
        rfl
       refine take_ (i := 3) (N := some 21) (v := ?_) (a' := ?_) #[true, true, true, true, true, false, false, false, false, false, false, false, false, false, false, false, false, false, false, false, false] rfl rfl (take_ofW HT_.out HW_.out (by kernel_rfl)) (fun _ _ _ h => h) (Or.inl ⟨by rfl, ?_⟩) hHeld ?_ ?_
       rotate_left
       ·rintro w' ⟨s0, s1, s2, s3, s4, s5, s6, s7, s8, s9, s10, s11, s12, s13, s14, s15⟩
        go_simp
        with_reducible rfl
       rotate_left
       ·simp only [Act.put, List.setIfInBounds_toArray, List.set_cons_zero, List.set_cons_succ, i64_w, i32_w]
        rfl
       refine take_ (i := 5) (N := some 23) (v := ?_) (a' := ?_) #[true, true, true, true, true, true, false, false, false, false, false, false, false, false, false, false, false, false, false, false, false] rfl rfl (take_ofW HT_.out HW_.out (by kernel_rfl)) (fun _ _ _ h => h) (Or.inl ⟨by rfl, ?_⟩) hHeld ?_ ?_
       rotate_left
       ·rintro w' ⟨s0, s1, s2, s3, s4, s5, s6, s7, s8, s9, s10, s11, s12, s13, s14, s15⟩
        go_simp
        with_reducible rfl
       rotate_left
       ·simp only [Act.put, List.setIfInBounds_toArray, List.set_cons_zero, List.set_cons_succ, i64_w, i32_w]
        rfl
       refine pure_ (i := 6) (N := some 24) (v := ?_) (a' := ?_) #[true, true, true, true, true, true, true, false, false, false, false, false, false, false, false, false, false, false, false, false, false] rfl rfl (any_of HT_.out (by kernel_rfl)) (fun _ _ _ h => h) (Or.inl ⟨by rfl, ?_⟩) ?_ ?_
       rotate_left
       ·intro w'
        go_simp
        with_reducible rfl
       rotate_left
       ·simp only [Act.put, List.setIfInBounds_toArray, List.set_cons_zero, List.set_cons_succ, i64_w, i32_w]
        rfl
       refine take_ (i := 7) (N := some 25) (v := ?_) (a' := ?_) #[true, true, true, true, true, true, true, true, false, false, false, false, false, false, false, false, false, false, false, false, false] rfl rfl (take_ofW HT_.out HW_.out (by kernel_rfl)) (fun _ _ _ h => h) (Or.inl ⟨by rfl, ?_⟩) hHeld ?_ ?_
       rotate_left
       ·rintro w' ⟨s0, s1, s2, s3, s4, s5, s6, s7, s8, s9, s10, s11, s12, s13, s14, s15⟩
        go_simp
        with_reducible rfl
       rotate_left
       ·simp only [Act.put, List.setIfInBounds_toArray, List.set_cons_zero, List.set_cons_succ, i64_w, i32_w]
        rfl
       refine one_ (i := 8) (N := some 26) #[true, true, true, true, true, true, true, true, true, false, false, false, false, false, false, false, false, false, false, false, false] rfl rfl (one_of HT_.out (by kernel_rfl)) (by decide) (fun K hK => ?_)
       refine goes_ Try.func22 (by kernel_rfl) rfl #[.agg #[.int .u8 ((rd_T25 l0_3 0).f0), .int .u64 ((rd_T25 l0_3 0).f1), .string ((rd_T25 l0_3 0).f2), .slice A103_3 ((rd_T25 l0_3 0).f3).length c103_3], .agg #[.int .u8 ((rd_T25 l1_3 0).f0), .int .u64 ((rd_T25 l1_3 0).f1), .string ((rd_T25 l1_3 0).f2), .slice A104_3 ((rd_T25 l1_3 0).f3).length c104_3]] (by rfl) rfl rfl (by (try simp only [List.map_toArray, List.map_cons, List.map_nil]); first | done | rfl | (simp only [List.length_drop, List.length_take]; rfl)) ?_
       with_reducible refine (value_Same.calls ((rd_T25 l0_3 0).f0) ((rd_T25 l0_3 0).f1) ((rd_T25 l0_3 0).f2) _ _ ((rd_T25 l0_3 0).f3) ((rd_T25 l1_3 0).f0) ((rd_T25 l1_3 0).f1) ((rd_T25 l1_3 0).f2) _ _ ((rd_T25 l1_3 0).f3) false _ ?side1 ?side2 ?side3 ?side4 A18.out).mono ?_
       (case side1 => repeat (first | exact (Kd.C_below HR103_3.out HB.out) | (with_reducible refine Kd.C_alloc ?_ _) | (with_reducible refine Kd.C_drewN ?_ _) | (with_reducible refine Kd.C_drew ?_)))
       (case side2 => exact HC103_3.out)
       (case side3 => repeat (first | exact (Kd.C_below HR104_3.out HB.out) | (with_reducible refine Kd.C_alloc ?_ _) | (with_reducible refine Kd.C_drewN ?_ _) | (with_reducible refine Kd.C_drew ?_)))
       (case side4 => exact HC104_3.out)
       rintro e w27 ⟨rfl, hb⟩
       refine ⟨_, rfl, ?_⟩
       have n0_ := Aside0.mk (blk_below (g := gb101) (o := .cells #[.int .u8 a0_0, .int .u64 a0_1, .string a0_2, .slice (some ad103) l0_3.length c0_3] 25 (0, 0)) (by (with_reducible repeat (first | refine blk_drewN ?_ _ | refine blk_drew ?_ | refine blk_alloc ?_ _)); exact BK101.out) hb)
       have n1_ := Aside0.mk (blk_below (g := gb102) (o := .cells #[.int .u8 a1_0, .int .u64 a1_1, .string a1_2, .slice (some ad104) l1_3.length c1_3] 25 (0, 0)) (by (with_reducible repeat (first | refine blk_drewN ?_ _ | refine blk_drew ?_ | refine blk_alloc ?_ _)); exact BK102.out) hb)
       have n2_ := Aside0.mk (below_step (by repeat (first | (with_reducible first | exact HB.out | apply below_alloc | apply pw_below_drewN | apply below_drew1 | refine below_set ?_ GE101.out | refine below_set ?_ GE102.out) | exact HB.out)) hb)
       clear BK101
       clear BK102
       clear HB
       have BK101 := n0_
       have BK102 := n1_
       have HB := n2_
       clear n0_ n1_ n2_
       (try clear hb)
       (try clear hb2)
       (try clear hk)
       (try clear hi)
       refine hK.out _ _ ⟨(blk_cell BK101.out 0).trans rfl, (blk_cell BK101.out 1).trans rfl, (blk_cell BK101.out 2).trans rfl, (blk_cell BK101.out 3).trans rfl, (blk_cell BK102.out 0).trans rfl, (blk_cell BK102.out 1).trans rfl, (blk_cell BK102.out 2).trans rfl, (blk_cell BK102.out 3).trans rfl, ((HB.out.cell (World.block_lt_of_cell? w _ hw103_0)).trans hw103_0), ((HB.out.cell (World.block_lt_of_cell? w _ hw103_1)).trans hw103_1), ((HB.out.cell (World.block_lt_of_cell? w _ hw103_2)).trans hw103_2), ((HB.out.cell (World.block_lt_of_cell? w _ hw103_3)).trans hw103_3), ((HB.out.cell (World.block_lt_of_cell? w _ hw104_0)).trans hw104_0), ((HB.out.cell (World.block_lt_of_cell? w _ hw104_1)).trans hw104_1), ((HB.out.cell (World.block_lt_of_cell? w _ hw104_2)).trans hw104_2), ((HB.out.cell (World.block_lt_of_cell? w _ hw104_3)).trans hw104_3)⟩ (fun hHeld => ?_)
       clear hK K
       refine norm_ (a' := ?_) ?_ ?_
       rotate_left
       ·show Act.put _ (some 26) _ = _
        simp only [Act.put, List.setIfInBounds_toArray, List.set_cons_zero, List.set_cons_succ, i64_w, i32_w]
        rfl
       refine pure_ (i := 9) (N := some 27) (v := ?_) (a' := ?_) #[true, true, true, true, true, true, true, true, true, true, false, false, false, false, false, false, false, false, false, false, false] rfl rfl (any_of HT_.out (by kernel_rfl)) (fun _ _ _ h => h) (Or.inl ⟨by rfl, ?_⟩) ?_ ?_
       rotate_left
       ·intro w'
        go_simp
        with_reducible rfl
       rotate_left
       ·simp only [Act.put, List.setIfInBounds_toArray, List.set_cons_zero, List.set_cons_succ, i64_w, i32_w]
        rfl
       refine pure_ (i := 10) (N := some 28) (v := undef) (a' := ?_) #[true, true, true, true, true, true, true, true, true, true, true, false, false, false, false, false, false, false, false, false, false] rfl rfl (any_of HT_.out (by kernel_rfl)) (fun _ _ _ h => h) (Or.inr ⟨by rfl, rfl⟩) ?_ ?_
       rotate_left
       ·simp only [Act.put, List.setIfInBounds_toArray, List.set_cons_zero, List.set_cons_succ, i64_w, i32_w]
        rfl
       refine pure_ (i := 11) (N := some 29) (v := undef) (a' := ?_) #[true, true, true, true, true, true, true, true, true, true, true, true, false, false, false, false, false, false, false, false, false] rfl rfl (any_of HT_.out (by kernel_rfl)) (fun _ _ _ h => h) (Or.inr ⟨by rfl, rfl⟩) ?_ ?_
       rotate_left
       ·simp only [Act.put, List.setIfInBounds_toArray, List.set_cons_zero, List.set_cons_succ, i64_w, i32_w]
        rfl
       refine pure_ (i := 12) (N := some 30) (v := undef) (a' := ?_) #[true, true, true, true, true, true, true, true, true, true, true, true, true, false, false, false, false, false, false, false, false] rfl rfl (any_of HT_.out (by kernel_rfl)) (fun _ _ _ h => h) (Or.inr ⟨by rfl, rfl⟩) ?_ ?_
       rotate_left
       ·simp only [Act.put, List.setIfInBounds_toArray, List.set_cons_zero, List.set_cons_succ, i64_w, i32_w]
        rfl
       refine pure_ (i := 13) (N := some 31) (v := undef) (a' := ?_) #[true, true, true, true, true, true, true, true, true, true, true, true, true, true, false, false, false, false, false, false, false] rfl rfl (any_of HT_.out (by kernel_rfl)) (fun _ _ _ h => h) (Or.inr ⟨by rfl, rfl⟩) ?_ ?_
       rotate_left
       ·simp only [Act.put, List.setIfInBounds_toArray, List.set_cons_zero, List.set_cons_succ, i64_w, i32_w]
        rfl
       refine pure_ (i := 14) (N := some 32) (v := undef) (a' := ?_) #[true, true, true, true, true, true, true, true, true, true, true, true, true, true, true, false, false, false, false, false, false] rfl rfl (any_of HT_.out (by kernel_rfl)) (fun _ _ _ h => h) (Or.inr ⟨by rfl, rfl⟩) ?_ ?_
       rotate_left
       ·simp only [Act.put, List.setIfInBounds_toArray, List.set_cons_zero, List.set_cons_succ, i64_w, i32_w]
        rfl
       refine pure_ (i := 15) (N := some 33) (v := undef) (a' := ?_) #[true, true, true, true, true, true, true, true, true, true, true, true, true, true, true, true, false, false, false, false, false] rfl rfl (any_of HT_.out (by kernel_rfl)) (fun _ _ _ h => h) (Or.inr ⟨by rfl, rfl⟩) ?_ ?_
       rotate_left
       ·simp only [Act.put, List.setIfInBounds_toArray, List.set_cons_zero, List.set_cons_succ, i64_w, i32_w]
        rfl
       refine pure_ (i := 16) (N := some 34) (v := undef) (a' := ?_) #[true, true, true, true, true, true, true, true, true, true, true, true, true, true, true, true, true, false, false, false, false] rfl rfl (any_of HT_.out (by kernel_rfl)) (fun _ _ _ h => h) (Or.inr ⟨by rfl, rfl⟩) ?_ ?_
       rotate_left
       ·simp only [Act.put, List.setIfInBounds_toArray, List.set_cons_zero, List.set_cons_succ, i64_w, i32_w]
        rfl
       refine pure_ (i := 17) (N := some 35) (v := undef) (a' := ?_) #[true, true, true, true, true, true, true, true, true, true, true, true, true, true, true, true, true, true, false, false, false] rfl rfl (any_of HT_.out (by kernel_rfl)) (fun _ _ _ h => h) (Or.inr ⟨by rfl, rfl⟩) ?_ ?_
       rotate_left
       ·simp only [Act.put, List.setIfInBounds_toArray, List.set_cons_zero, List.set_cons_succ, i64_w, i32_w]
        rfl
       refine pure_ (i := 18) (N := some 36) (v := undef) (a' := ?_) #[true, true, true, true, true, true, true, true, true, true, true, true, true, true, true, true, true, true, true, false, false] rfl rfl (any_of HT_.out (by kernel_rfl)) (fun _ _ _ h => h) (Or.inr ⟨by rfl, rfl⟩) ?_ ?_
       rotate_left
       ·simp only [Act.put, List.setIfInBounds_toArray, List.set_cons_zero, List.set_cons_succ, i64_w, i32_w]
        rfl
       refine pure_ (i := 19) (N := some 37) (v := ?_) (a' := ?_) #[true, true, true, true, true, true, true, true, true, true, true, true, true, true, true, true, true, true, true, true, false] rfl rfl (any_of HT_.out (by kernel_rfl)) (fun _ _ _ h => h) (Or.inl ⟨by rfl, ?_⟩) ?_ ?_
       rotate_left
       ·intro w'
        go_simp
        with_reducible rfl
       rotate_left
       ·simp only [Act.put, List.setIfInBounds_toArray, List.set_cons_zero, List.set_cons_succ, i64_w, i32_w]
        rfl
       refine pure_ (i := 20) (N := some 4) (v := ?_) (a' := ?_) #[true, true, true, true, true, true, true, true, true, true, true, true, true, true, true, true, true, true, true, true, true] rfl rfl (any_of HT_.out (by kernel_rfl)) (fun _ _ _ h => h) (Or.inl ⟨by rfl, ?_⟩) ?_ ?_
       rotate_left
       ·intro w'
        go_simp
        with_reducible rfl
       rotate_left
       ·simp only [Act.put, List.setIfInBounds_toArray, List.set_cons_zero, List.set_cons_succ, i64_w, i32_w]
        rfl
       refine done_ (done_of HT_.out (by kernel_rfl)) ?_
       try go_wp2
       go_ret
       exact ⟨by first | rfl | (simp [errW_none, errW_some] <;> rfl) | (simp [*, errW_none, errW_some] <;> rfl), by repeat (first | (with_reducible first | exact HB.out | apply below_alloc | apply pw_below_drewN | apply below_drew1 | refine below_set ?_ GE101.out | refine below_set ?_ GE102.out) | exact HB.out)⟩
     ·rw [if_neg c17] at H
      exact absurd H (by simp)
    ·rw [if_neg c16] at H
     exact absurd H (by simp)
end Go.Proofs.Ytdilbnggedidnaa.PVal
namespace Go.Proofs.Ytdilbnggedidnaa.PVal
open Go.RowKit Go.Proofs.YtdilbnggedidnaaW.PrintWords Go.Proofs.YtdilbnggedidnaaW.PrintLast
set_option linter.unusedVariables false
set_option linter.unusedSimpArgs false
theorem w64 {a : Int} (h0 : -9223372036854775808 ≤ a) (h1 : a ≤ 9223372036854775807) : wrap64 a = a := by unfold wrap64; omega
theorem rd_at (pre : List S25) (x : S25) (l : List S25) : rd_T25 (pre ++ x :: l) (pre.length : Int) = x := by
 unfold rd_T25
 simp [List.getD_eq_getElem?_getD]
theorem succ_k {n k : Nat} (h : n + 1 ≤ k) : ∃ m, k = m + 1 ∧ n ≤ m := ⟨k - 1, by omega, by omega⟩
mutual
theorem items_f : ∀ (x : S25) (k : Nat), 2 * itemsN x ≤ k → itemsN x ≤ 4294967296 → bellwetherref04_Items.f k x.f0 x.f1 x.f2 x.f3 = some (itemsN x : Int)
 | ⟨a, b, c, d⟩, k, hk, hB => by
  simp only [itemsN] at hk hB ⊢
  obtain ⟨k, rfl, hk2⟩ := succ_k (n := 2 * itemsL d + 1) (by omega)
  simp only [bellwetherref04_Items.f]
  have := items_l d [] k 1 a b c hk2 (by omega) (by omega) (by simpa using (by have := itemsL_length d; omega : d.length ≤ 4294967296))
  simp only [List.length_nil, List.nil_append] at this
  rw [show ((0 : Nat) : Int) = 0 from rfl] at this
  rw [this]; congr 1; omega
theorem items_l : ∀ (l pre : List S25) (k : Nat) (n : Int) (a b : Int) (c : ByteArray), 2 * itemsL l + 1 ≤ k → 0 ≤ n ∧ itemsL l ≤ 4294967296 → n + itemsL l ≤ 4294967297 → (pre ++ l).length ≤ 4294967296 → bellwetherref04_Items.l0 k n (pre.length : Int) a b c (pre ++ l) = some (n + itemsL l)
 | [], pre, k, n, a, b, c, hk, h0, h1, h2 => by
  obtain ⟨k, rfl, hk⟩ := succ_k hk
  simp only [bellwetherref04_Items.l0]
  rw [if_neg (by simp)]; simp [itemsL]
 | x :: l, pre, k, n, a, b, c, hk, h0, h1, h2 => by
  obtain ⟨k, rfl, hk⟩ := succ_k hk
  simp only [itemsL] at hk h0 h1 ⊢
  have hx := itemsN_pos x
  simp only [bellwetherref04_Items.l0]
  rw [if_pos (by simp; omega), if_pos (by omega), rd_at, items_f x k (by omega) (by omega)]
  simp only [Option.bind_some]
  simp only [List.length_append, List.length_cons] at h2
  rw [w64 (a := n + (itemsN x : Int)) (by omega) (by omega), w64 (a := (pre.length : Int) + 1) (by omega) (by omega)]
  have := items_l l (pre ++ [x]) k (n + itemsN x) a b c (by omega) (by omega) (by omega) (by simp; omega)
  simp only [List.append_assoc, List.singleton_append, List.length_append, List.length_singleton] at this
  rw [show ((pre.length : Int) + 1) = ((pre.length + 1 : Nat) : Int) by omega, this]
  congr 1; omega
end
mutual
theorem texts_f : ∀ (x : S25) (k : Nat), 2 * itemsN x ≤ k → itemsN x + textsN x ≤ 4294967296 → bellwetherlaw04_texts.f k x.f0 x.f1 x.f2 x.f3 = some (textsN x : Int)
 | ⟨a, b, c, d⟩, k, hk, hB => by
  simp only [itemsN, textsN] at hk hB ⊢
  obtain ⟨k, rfl, hk2⟩ := succ_k (n := 2 * itemsL d + 1) (by omega)
  simp only [bellwetherlaw04_texts.f]
  have := texts_l d [] k (c.size : Int) a b c hk2 (by omega) (by omega) (by simpa using (by have := itemsL_length d; omega : d.length ≤ 4294967296))
  simp only [List.length_nil, List.nil_append] at this
  rw [show ((0 : Nat) : Int) = 0 from rfl] at this
  rw [this]; congr 1; omega
theorem texts_l : ∀ (l pre : List S25) (k : Nat) (n : Int) (a b : Int) (c : ByteArray), 2 * itemsL l + 1 ≤ k → 0 ≤ n ∧ itemsL l + textsL l ≤ 4294967296 → n + (itemsL l + textsL l) ≤ 8589934592 → (pre ++ l).length ≤ 4294967296 → bellwetherlaw04_texts.l0 k n (pre.length : Int) a b c (pre ++ l) = some (n + textsL l)
 | [], pre, k, n, a, b, c, hk, h0, h1, h2 => by
  obtain ⟨k, rfl, hk⟩ := succ_k hk
  simp only [bellwetherlaw04_texts.l0]
  rw [if_neg (by simp)]; simp [textsL]
 | x :: l, pre, k, n, a, b, c, hk, h0, h1, h2 => by
  obtain ⟨k, rfl, hk⟩ := succ_k hk
  simp only [itemsL, textsL] at hk h0 h1 ⊢
  have hx := itemsN_pos x
  simp only [bellwetherlaw04_texts.l0]
  rw [if_pos (by simp; omega), if_pos (by omega), rd_at, texts_f x k (by omega) (by omega)]
  simp only [Option.bind_some]
  simp only [List.length_append, List.length_cons] at h2
  rw [w64 (a := n + (textsN x : Int)) (by omega) (by omega), w64 (a := (pre.length : Int) + 1) (by omega) (by omega)]
  have := texts_l l (pre ++ [x]) k (n + textsN x) a b c (by omega) (by omega) (by omega) (by simp; omega)
  simp only [List.append_assoc, List.singleton_append, List.length_append, List.length_singleton] at this
  rw [show ((pre.length : Int) + 1) = ((pre.length + 1 : Nat) : Int) by omega, this]
  congr 1; omega
end
def largeN : Nat → List S25 → Nat
 | n, [] => n
 | n, x :: l => largeN (n + itemsN x + textsN x / 8) l
def largeB (l : List S25) : Bool := decide (largeN 0 l > 8192)
theorem large_l : ∀ (l pre : List S25) (k : Nat) (n : Nat), 2 * itemsL l + 1 ≤ k → n + (itemsL l + textsL l) ≤ 4294967296 → (pre ++ l).length ≤ 4294967296 → bellwetherlaw04_Large.l0 k (pre ++ l) (n : Int) (pre.length : Int) = some (decide (largeN n l > 8192))
 | [], pre, k, n, hk, h1, h2 => by
  obtain ⟨k, rfl, hk⟩ := succ_k hk
  simp only [bellwetherlaw04_Large.l0]
  rw [if_neg (by simp)]
  simp only [largeN]
  congr 1
  exact decide_eq_decide.mpr (by omega)
 | x :: l, pre, k, n, hk, h1, h2 => by
  obtain ⟨k, rfl, hk⟩ := succ_k hk
  simp only [itemsL, textsL] at hk h1
  have hx := itemsN_pos x
  simp only [bellwetherlaw04_Large.l0]
  rw [if_pos (by simp; omega), if_pos (by omega), rd_at, items_f x k (by omega) (by omega)]
  simp only [Option.bind_some]
  rw [texts_f x k (by omega) (by omega)]
  simp only [Option.bind_some]
  simp only [List.length_append, List.length_cons] at h2
  have hq : Int.tdiv (textsN x : Int) 8 = ((textsN x / 8 : Nat) : Int) := by rw [Int.tdiv_eq_ediv_of_nonneg (by omega)]; omega
  rw [hq, w64 (a := (pre.length : Int) + 1) (by omega) (by omega), w64 (a := ((textsN x / 8 : Nat) : Int)) (by omega) (by omega), w64 (a := (n : Int) + (itemsN x : Int)) (by omega) (by omega), w64 (by omega) (by omega)]
  have := large_l l (pre ++ [x]) k (n + itemsN x + textsN x / 8) (by omega) (by omega) (by simp; omega)
  simp only [List.append_assoc, List.singleton_append, List.length_append, List.length_singleton] at this
  rw [show ((pre.length : Int) + 1) = ((pre.length + 1 : Nat) : Int) by omega, show (n : Int) + (itemsN x : Int) + ((textsN x / 8 : Nat) : Int) = ((n + itemsN x + textsN x / 8 : Nat) : Int) by omega, this]
  rfl
section
variable (x y : S25) (A B : Option Addr) (c d : Nat) (w : World) (ha : k25.C w A x.f3.length x.f3) (hc : x.f3.length ≤ c)
include ha hc
end
theorem large14_any (l : List S25) (A : Option Addr) (c : Nat) (w : World) (ha : k25.C w A l.length l) (hc : l.length ≤ c) (hs : itemsL l + textsL l ≤ 4294967296) :
  Calls Try.prog 14 #[.slice A l.length c] w fun e w' => e = .returned (.bool (largeB l)) ∧ Below w.heap.size w w' := by
 have := large_l l [] (2 * itemsL l + 1) 0 (Nat.le_refl _) (by omega) (by have := itemsL_length l; simp; omega)
 exact bellwetherlaw04_Large.calls _ A c l _ w ha hc this
end Go.Proofs.Ytdilbnggedidnaa.PVal
namespace Go.Proofs.Ytdilbnggedidnaa.PVal
open Go.RowKit
set_option linter.unusedSimpArgs false
def alikeF : Nat → S25 → S25 → Bool
 | 0, _, _ => false
 | n + 1, a, b => if a.f0 = 25 ∧ b.f0 = 25 then veq (rd_T25 a.f3 0) (rd_T25 b.f3 0) && alikeF n (rd_T25 a.f3 1) (rd_T25 b.f3 1) else a.f0 == b.f0
def alikeB (a b : S25) : Bool := alikeF (itemsN a) a b
def dsc : Nat → S25 → Prop
 | 0, _ => False
 | n + 1, a => a.f0 = 25 → ∃ x y, a.f3 = [x, y] ∧ dsc n y
theorem alike_f : ∀ (n k : Nat) (a b : S25) (m : Nat), dsc n a → dsc m b → 2 * n ≤ k → value_alike.f k a.f0 a.f1 a.f2 a.f3 b.f0 b.f1 b.f2 b.f3 = some (alikeF n a b)
 | 0, _, _, _, _, h, _, _ => h.elim
 | n + 1, k, a, b, m, ha, hb, hk => by
  obtain ⟨k, rfl⟩ : ∃ k', k = k' + 2 := ⟨k - 2, by omega⟩
  simp only [value_alike.f]
  by_cases h1 : a.f0 = 25
  ·rw [if_pos h1]
   simp only [value_alike.j0]
   by_cases h2 : b.f0 = 25
   ·obtain ⟨x, y, he, hy⟩ := ha h1
    cases m with
    | zero => exact hb.elim
    | succ m =>
     obtain ⟨x', y', he', hy'⟩ := hb h2
     have ih := alike_f n k y y' m hy hy' (by omega)
     have e0 : ∀ p q : S25, rd_T25 [p, q] 0 = p := fun _ _ => rfl
     have e1 : ∀ p q : S25, rd_T25 [p, q] 1 = q := fun _ _ => rfl
     rw [show alikeF (n + 1) a b = (veq (rd_T25 a.f3 0) (rd_T25 b.f3 0) && alikeF n (rd_T25 a.f3 1) (rd_T25 b.f3 1)) from if_pos ⟨h1, h2⟩, he, he', if_neg (by simp [h2])]
     have hv2 : veq ⟨x.f0, x.f1, x.f2, x.f3⟩ ⟨x'.f0, x'.f1, x'.f2, x'.f3⟩ = veq x x' := by cases x; cases x'; rfl
     simp only [e0, e1, ih, value_Same.f, hv2, List.length_cons, List.length_nil]
     cases hv : veq x x' <;> simp [hv]
   ·rw [show alikeF (n + 1) a b = (a.f0 == b.f0) from if_neg (fun h => h2 h.2), if_pos (by simp [h2])]
  ·rw [if_neg h1, show alikeF (n + 1) a b = (a.f0 == b.f0) from if_neg (fun h => h1 h.1)]
   simp only [value_alike.j0]
   rfl
def arrB : List S25 → Bool
 | [] => true
 | h :: l => (h :: l).all (alikeB h)
def famB (x : S25) : Bool :=
 if x.f0 = 22 then true else if x.f0 = 23 then decide (x.f3.length % 2 = 0) && unlikeB x
 else if x.f0 = 24 then arrB x.f3
 else if x.f0 = 25 then decide (x.f3.length = 2) && (decide ((rd_T25 x.f3 0).f0 = 6) || decide ((rd_T25 x.f3 0).f0 = 21)) else decide (x.f3.length = 0)
mutual
def mayB : S25 → Bool
 | ⟨k, n, s, l⟩ => (decide (1 ≤ k ∧ k ≤ 25) && mayL l) && ((numB k n && txtB k s) && famB ⟨k, n, s, l⟩)
def mayL : List S25 → Bool
 | [] => true
 | x :: l => mayB x && mayL l
end
theorem mayB_eq (x : S25) : mayB x = ((decide (1 ≤ x.f0 ∧ x.f0 ≤ 25) && mayL x.f3) && ((numB x.f0 x.f1 && txtB x.f0 x.f2) && famB x)) := by cases x; rw [mayB]
theorem mayL_all : ∀ l : List S25, mayL l = l.all mayB
 | [] => rfl
 | x :: l => by rw [mayL, mayL_all l]; rfl
theorem mayB_dsc : ∀ (n : Nat) (x : S25), itemsN x ≤ n → mayB x = true → dsc n x
 | 0, x, h, _ => by have := itemsN_pos x; omega
 | n + 1, x, h, hm => fun h25 => by
  rw [mayB_eq] at hm
  simp only [Bool.and_eq_true] at hm
  obtain ⟨⟨_, hl⟩, _, hf⟩ := hm
  unfold famB at hf
  rw [if_neg (by omega), if_neg (by omega), if_neg (by omega), if_pos h25] at hf
  simp only [Bool.and_eq_true, decide_eq_true_eq] at hf
  obtain ⟨a, b, he⟩ : ∃ a b, x.f3 = [a, b] := by
   rcases hx : x.f3 with _ | ⟨a, _ | ⟨b, _ | ⟨c, t⟩⟩⟩ <;> rw [hx] at hf <;> simp at hf ⊢
  refine ⟨a, b, he, mayB_dsc n b ?_ ?_⟩
  ·have : itemsN x = itemsN a + (itemsN b + 0) + 1 := by rw [itemsN_eq, he]; rfl
   omega
  ·rw [he] at hl
   simp [mayL] at hl
   exact hl.2
end Go.Proofs.Ytdilbnggedidnaa.PVal
namespace Go.Proofs.Ytdilbnggedidnaa.PVal
open Go.RowKit Go.Shelf Go.Proofs.YtdilbnggedidnaaW.PrintWords Go.Proofs.YtdilbnggedidnaaW.PrintLast
set_option linter.unusedVariables false
set_option linter.unusedSimpArgs false
theorem alike121_any (a b : S25) (m : Nat) (da : dsc (itemsN a) a) (db : dsc m b) (A B : Option Addr) (c d : Nat) (w : World) (ha : k25.C w A a.f3.length a.f3) (hc : a.f3.length ≤ c) (hb : k25.C w B b.f3.length b.f3) (hd : b.f3.length ≤ d) :
  Calls Try.prog 121 #[.agg #[.int .u8 a.f0, .int .u64 a.f1, .string a.f2, .slice A a.f3.length c], .agg #[.int .u8 b.f0, .int .u64 b.f1, .string b.f2, .slice B b.f3.length d]] w fun e w' => e = .returned (.bool (alikeB a b)) ∧ Below w.heap.size w w' :=
 value_alike.calls _ _ _ _ _ _ _ _ _ _ _ _ _ _ _ ha hc hb hd (alike_f (itemsN a) _ a b m da db (Nat.le_refl _))
set_option maxRecDepth 100000 in
set_option maxHeartbeats 2000000 in
theorem pred120_of (b : Nat) (v : S25) (Av : Option Addr) (cv : Nat) (w : World) (hb : Blk w b #[.int .u8 v.f0, .int .u64 v.f1, .string v.f2, .slice Av v.f3.length cv] 25) (hv : k25.C w Av v.f3.length v.f3) (hl : v.f3.length ≤ cv)
  (hp : 0 < v.f3.length) (dh : dsc (itemsN (rd_T25 v.f3 0)) (rd_T25 v.f3 0)) (x : S25) (m : Nat) (dx : dsc m x) : Pred120 b (fun s => !alikeB (rd_T25 v.f3 0) s) w x := by
 intro A c w' hw ha hc
 have HA := Aside0.mk ha
 have HD := Aside0.mk (⟨dh, dx⟩ : _ ∧ _)
 obtain ⟨q0, q1, q2, q3⟩ := (hb.below hw).c4
 obtain ⟨ad, A1, c1, e1, hx0, hx1, hx2, hx3, hl1, hC1⟩ := at_T25 (Kd.C_below hv hw) 0 (by omega) (by omega)
 cases e1
 rw [show (0 : Int).toNat = 0 from rfl, Nat.zero_mul, add_nought] at hx0 hx1 hx2 hx3
 have hp1 : (0 : Int) < (v.f3.length : Int) := by omega
 have ad0 : ad.add 0 = ad := add_nought ad
 have HC1 := Aside0.mk hC1
 clear ha hv hb hC1 dh dx
 go_enter Try.func120, Try.ntmps120
 go_wp2_with fail
 have hB1 : Below w'.heap.size w' (w'.alloc (.cells #[.int .u8 x.f0, .int .u64 x.f1, .string x.f2, .slice A x.f3.length c] 25)) := below_alloc (Below.refl _ _) _
 have bX := Blk.new w' #[.int .u8 x.f0, .int .u64 x.f1, .string x.f2, .slice A x.f3.length c] 25
 obtain ⟨W1, hW1⟩ : ∃ W1, w'.alloc (.cells #[.int .u8 x.f0, .int .u64 x.f1, .string x.f2, .slice A x.f3.length c] 25) = W1 := ⟨_, rfl⟩
 rw [hW1] at hB1 bX ⊢
 clear hW1
 have k0 := cell_below' hB1 q3
 have k1 := cell_below' hB1 hx0
 have k2 := cell_below' hB1 hx1
 have k3 := cell_below' hB1 hx2
 have k4 := cell_below' hB1 hx3
 obtain ⟨k5, k6, k7, k8⟩ := bX.c4
 clear q0 q1 q2 q3 hx0 hx1 hx2 hx3
 go_still_tail 5, (by kernel_rfl)
 go_wp2_with fail
 refine (alike121_any (rd_T25 v.f3 0) x m HD.out.1 HD.out.2 A1 A c1 c _ (Kd.C_below HC1.out (below_drew hB1)) hl1 (Kd.C_below HA.out (below_drew hB1)) hc).mono ?_
 rintro e w2 ⟨rfl, hb2⟩
 have HB2 := Aside0.mk hb2
 clear hb2
 go_wp2_with fail
 go_ret
 exact ⟨rfl, below_step (below_drew hB1) HB2.out⟩
end Go.Proofs.Ytdilbnggedidnaa.PVal
namespace Go.Proofs.Ytdilbnggedidnaa.PVal
open Go.RowKit Go.Shelf Go.Proofs.YtdilbnggedidnaaW.PrintWords Go.Proofs.YtdilbnggedidnaaW.PrintLast
set_option linter.unusedVariables false
set_option linter.unusedSimpArgs false
set_option maxRecDepth 100000 in
set_option maxHeartbeats 2000000 in
theorem family90_22 (x : S25) (hs : x.f3.length ≤ 4294967296) (hm : x.f3.all mayB = true) (A : Option Addr) (c : Nat) (w : World) (ha : k25.C w A x.f3.length x.f3) (hc : x.f3.length ≤ c) (hk : x.f0 = 22) :
  Calls Try.prog 90 #[.agg #[.int .u8 x.f0, .int .u64 x.f1, .string x.f2, .slice A x.f3.length c]] w fun e w' => e = .returned (.bool (famB x)) ∧ Below w.heap.size w w' := by
 have q22 : (x.f0 == 22) = true := beq_iff_eq.mpr hk
 have hf : famB x = true := by unfold famB; rw [if_pos hk]
 have HA := Aside0.mk ha
 have HF := Aside0.mk hf
 have HM := Aside0.mk hm
 clear ha hf hm hk
 go_enter Try.func90, Try.ntmps90
 go_wp2_with fail
 go_ret
 exact ⟨by rw [HF.out]; rfl, below_alloc (Below.refl _ _) _⟩
set_option maxRecDepth 100000 in
set_option maxHeartbeats 2000000 in
theorem family90_23 (x : S25) (hs : x.f3.length ≤ 4294967296) (hm : x.f3.all mayB = true) (A : Option Addr) (c : Nat) (w : World) (ha : k25.C w A x.f3.length x.f3) (hc : x.f3.length ≤ c) (hk : x.f0 = 23) :
  Calls Try.prog 90 #[.agg #[.int .u8 x.f0, .int .u64 x.f1, .string x.f2, .slice A x.f3.length c]] w fun e w' => e = .returned (.bool (famB x)) ∧ Below w.heap.size w w' := by
 have q22 : (x.f0 == 22) = false := beq_eq_false_iff_ne.mpr (by omega)
 have q23 : (x.f0 == 23) = true := beq_iff_eq.mpr hk
 have hf : famB x = (decide (x.f3.length % 2 = 0) && unlikeB x) := by unfold famB; rw [if_neg (by omega), if_pos hk]
 have HA := Aside0.mk ha
 have HF := Aside0.mk hf
 have HM := Aside0.mk hm
 clear ha hf hm hk
 by_cases hq : x.f3.length % 2 = 0
 ·have q : ((x.f3.length : Int) % 2 == 0) = true := beq_iff_eq.mpr (by omega)
  have HQ := Aside0.mk hq
  clear hq
  go_enter Try.func90, Try.ntmps90
  go_wp2_with fail
  refine (unlike119_any x hs A c _ (Kd.C_below HA.out (below_alloc (Below.refl _ _) _)) hc).mono ?_
  rintro e w2 ⟨rfl, hb2⟩
  have HB2 := Aside0.mk hb2
  clear hb2
  go_wp2_with fail
  go_ret
  exact ⟨by rw [HF.out, decide_eq_true HQ.out]; rfl, below_step (below_alloc (Below.refl _ _) _) HB2.out⟩
 ·have q : ((x.f3.length : Int) % 2 == 0) = false := beq_eq_false_iff_ne.mpr (by omega)
  have HQ := Aside0.mk hq
  clear hq
  go_enter Try.func90, Try.ntmps90
  go_wp2_with fail
  go_ret
  exact ⟨by rw [HF.out, decide_eq_false HQ.out]; rfl, below_alloc (Below.refl _ _) _⟩
set_option maxRecDepth 100000 in
set_option maxHeartbeats 2000000 in
theorem family90_24 (x : S25) (hs : x.f3.length ≤ 4294967296) (hm : x.f3.all mayB = true) (A : Option Addr) (c : Nat) (w : World) (ha : k25.C w A x.f3.length x.f3) (hc : x.f3.length ≤ c) (hk : x.f0 = 24) :
  Calls Try.prog 90 #[.agg #[.int .u8 x.f0, .int .u64 x.f1, .string x.f2, .slice A x.f3.length c]] w fun e w' => e = .returned (.bool (famB x)) ∧ Below w.heap.size w w' := by
 have q22 : (x.f0 == 22) = false := beq_eq_false_iff_ne.mpr (by omega)
 have q23 : (x.f0 == 23) = false := beq_eq_false_iff_ne.mpr (by omega)
 have q24 : (x.f0 == 24) = true := beq_iff_eq.mpr hk
 have hf : famB x = !(x.f3.any fun s => !alikeB (rd_T25 x.f3 0) s) := by
  unfold famB; rw [if_neg (by omega), if_neg (by omega), if_pos hk]
  rcases x.f3 with _ | ⟨h, l⟩
  ·rfl
  ·show (h :: l).all (alikeB h) = _
   rw [List.all_eq_not_any_not]; rfl
 have HA := Aside0.mk ha
 have HF := Aside0.mk hf
 have HM := Aside0.mk hm
 clear ha hf hm hk
 go_enter Try.func90, Try.ntmps90
 go_wp2_with fail
 refine (containsFunc_120 w.heap.size (fun s => !alikeB (rd_T25 x.f3 0) s) x.f3 A c _ ?_ (Kd.C_below HA.out (below_alloc (Below.refl _ _) _)) hc).mono ?_
 ·intro y hy
  have hpos : 0 < x.f3.length := List.length_pos_of_mem hy
  have hall := List.all_eq_true.1 HM.out
  exact pred120_of w.heap.size x A c _ (Blk.new w #[.int .u8 x.f0, .int .u64 x.f1, .string x.f2, .slice A x.f3.length c] 25) (Kd.C_below HA.out (below_alloc (Below.refl _ _) _)) hc hpos (mayB_dsc _ _ (Nat.le_refl _) (hall _ (rd_mem (by omega) (by omega)))) y (itemsN y) (mayB_dsc _ _ (Nat.le_refl _) (hall y hy))
 rintro e w2 ⟨rfl, hb2⟩
 have HB2 := Aside0.mk hb2
 clear hb2
 go_wp2_with fail
 go_ret
 exact ⟨by rw [HF.out]; rfl, below_step (below_alloc (Below.refl _ _) _) HB2.out⟩
set_option maxRecDepth 100000 in
set_option maxHeartbeats 2000000 in
theorem family90_25 (x : S25) (hs : x.f3.length ≤ 4294967296) (hm : x.f3.all mayB = true) (A : Option Addr) (c : Nat) (w : World) (ha : k25.C w A x.f3.length x.f3) (hc : x.f3.length ≤ c) (hk : x.f0 = 25) :
  Calls Try.prog 90 #[.agg #[.int .u8 x.f0, .int .u64 x.f1, .string x.f2, .slice A x.f3.length c]] w fun e w' => e = .returned (.bool (famB x)) ∧ Below w.heap.size w w' := by
 have q22 : (x.f0 == 22) = false := beq_eq_false_iff_ne.mpr (by omega)
 have q23 : (x.f0 == 23) = false := beq_eq_false_iff_ne.mpr (by omega)
 have q24 : (x.f0 == 24) = false := beq_eq_false_iff_ne.mpr (by omega)
 have q25 : (x.f0 == 25) = true := beq_iff_eq.mpr hk
 have hf : famB x = (decide (x.f3.length = 2) && (decide ((rd_T25 x.f3 0).f0 = 6) || decide ((rd_T25 x.f3 0).f0 = 21))) := by unfold famB; rw [if_neg (by omega), if_neg (by omega), if_neg (by omega), if_pos hk]
 have HA := Aside0.mk ha
 have HF := Aside0.mk hf
 have HM := Aside0.mk hm
 clear ha hf hm hk
 by_cases hq : x.f3.length = 2
 ·have q : ((x.f3.length : Int) == 2) = true := beq_iff_eq.mpr (by omega)
  obtain ⟨ad, A1, c1, e1, hx0, hx1, hx2, hx3, hl1, hC1⟩ := at_T25 (Kd.C_below HA.out (below_alloc (Below.refl _ _) _ : Below w.heap.size w (w.alloc (.cells #[.int .u8 x.f0, .int .u64 x.f1, .string x.f2, .slice A x.f3.length c] 25)))) 0 (by omega) (by omega)
  cases e1
  rw [show (0 : Int).toNat = 0 from rfl, Nat.zero_mul, add_nought] at hx0
  have hp1 : (0 : Int) < (x.f3.length : Int) := by omega
  have hpt : (0 < x.f3.length) = True := eq_true (by omega)
  have ad0 : ad.add 0 = ad := add_nought ad
  have HQ := Aside0.mk hq
  clear hq hx1 hx2 hx3 hC1
  by_cases h6 : (rd_T25 x.f3 0).f0 = 6
  ·have q6 : ((rd_T25 x.f3 0).f0 == 6) = true := beq_iff_eq.mpr h6
   have H6 := Aside0.mk h6
   clear h6
   go_enter Try.func90, Try.ntmps90
   go_wp2_with fail
   go_ret
   exact ⟨by rw [HF.out, decide_eq_true HQ.out, decide_eq_true H6.out]; rfl, below_alloc (Below.refl _ _) _⟩
  ·have q6 : ((rd_T25 x.f3 0).f0 == 6) = false := beq_eq_false_iff_ne.mpr h6
   by_cases h7 : (rd_T25 x.f3 0).f0 = 21
   ·have q7 : ((rd_T25 x.f3 0).f0 == 21) = true := beq_iff_eq.mpr h7
    have H6 := Aside0.mk h6
    have H7 := Aside0.mk h7
    clear h6 h7
    go_enter Try.func90, Try.ntmps90
    go_wp2_with fail
    go_ret
    exact ⟨by rw [HF.out, decide_eq_true HQ.out, decide_eq_false H6.out, decide_eq_true H7.out]; rfl, below_alloc (Below.refl _ _) _⟩
   ·have q7 : ((rd_T25 x.f3 0).f0 == 21) = false := beq_eq_false_iff_ne.mpr h7
    have H6 := Aside0.mk h6
    have H7 := Aside0.mk h7
    clear h6 h7
    go_enter Try.func90, Try.ntmps90
    go_wp2_with fail
    go_ret
    exact ⟨by rw [HF.out, decide_eq_true HQ.out, decide_eq_false H6.out, decide_eq_false H7.out]; rfl, below_alloc (Below.refl _ _) _⟩
 ·have q : ((x.f3.length : Int) == 2) = false := beq_eq_false_iff_ne.mpr (by omega)
  have HQ := Aside0.mk hq
  clear hq
  go_enter Try.func90, Try.ntmps90
  go_wp2_with fail
  go_ret
  exact ⟨by rw [HF.out, decide_eq_false HQ.out]; rfl, below_alloc (Below.refl _ _) _⟩
set_option maxRecDepth 100000 in
set_option maxHeartbeats 2000000 in
theorem family90_0 (x : S25) (hs : x.f3.length ≤ 4294967296) (hm : x.f3.all mayB = true) (A : Option Addr) (c : Nat) (w : World) (ha : k25.C w A x.f3.length x.f3) (hc : x.f3.length ≤ c) (hk : x.f0 ≠ 22 ∧ x.f0 ≠ 23 ∧ x.f0 ≠ 24 ∧ x.f0 ≠ 25) :
  Calls Try.prog 90 #[.agg #[.int .u8 x.f0, .int .u64 x.f1, .string x.f2, .slice A x.f3.length c]] w fun e w' => e = .returned (.bool (famB x)) ∧ Below w.heap.size w w' := by
 have q22 : (x.f0 == 22) = false := beq_eq_false_iff_ne.mpr (by omega)
 have q23 : (x.f0 == 23) = false := beq_eq_false_iff_ne.mpr (by omega)
 have q24 : (x.f0 == 24) = false := beq_eq_false_iff_ne.mpr (by omega)
 have q25 : (x.f0 == 25) = false := beq_eq_false_iff_ne.mpr (by omega)
 have hf : famB x = decide (x.f3.length = 0) := by unfold famB; rw [if_neg hk.1, if_neg hk.2.1, if_neg hk.2.2.1, if_neg hk.2.2.2]
 have HA := Aside0.mk ha
 have HF := Aside0.mk hf
 have HM := Aside0.mk hm
 clear ha hf hm hk
 have he : ((x.f3.length : Int) == 0) = decide (x.f3.length = 0) := by
  by_cases h : x.f3.length = 0
  ·rw [decide_eq_true h, beq_iff_eq.mpr (by omega)]
  ·rw [decide_eq_false h, beq_eq_false_iff_ne.mpr (by omega)]
 have HE := Aside0.mk he
 clear he
 go_enter Try.func90, Try.ntmps90
 go_wp2_with fail
 go_ret
 exact ⟨by rw [HF.out, ← HE.out]; rfl, below_alloc (Below.refl _ _) _⟩
theorem family90_any (x : S25) (hs : x.f3.length ≤ 4294967296) (hm : x.f3.all mayB = true) (A : Option Addr) (c : Nat) (w : World) (ha : k25.C w A x.f3.length x.f3) (hc : x.f3.length ≤ c) :
  Calls Try.prog 90 #[.agg #[.int .u8 x.f0, .int .u64 x.f1, .string x.f2, .slice A x.f3.length c]] w fun e w' => e = .returned (.bool (famB x)) ∧ Below w.heap.size w w' := by
 by_cases h2 : x.f0 = 22
 ·exact family90_22 x hs hm A c w ha hc h2
 by_cases h3 : x.f0 = 23
 ·exact family90_23 x hs hm A c w ha hc h3
 by_cases h4 : x.f0 = 24
 ·exact family90_24 x hs hm A c w ha hc h4
 by_cases h5 : x.f0 = 25
 ·exact family90_25 x hs hm A c w ha hc h5
 exact family90_0 x hs hm A c w ha hc ⟨h2, h3, h4, h5⟩
end Go.Proofs.Ytdilbnggedidnaa.PVal
namespace Go.Proofs.Ytdilbnggedidnaa.PVal
open Go.RowKit Go.Shelf Go.Proofs.YtdilbnggedidnaaW.PrintWords Go.Proofs.YtdilbnggedidnaaW.PrintLast
set_option linter.unusedVariables false
set_option linter.unusedSimpArgs false
mutual
def okV : S25 → Prop
 | ⟨_, n, s, l⟩ => (u64R n ∧ s.size ≤ 4294967290) ∧ okL l
def okL : List S25 → Prop
 | [] => True
 | x :: l => okV x ∧ okL l
end
theorem okV_eq (x : S25) : okV x = ((u64R x.f1 ∧ x.f2.size ≤ 4294967290) ∧ okL x.f3) := by cases x; rw [okV]
theorem okL_mem : ∀ {l : List S25} {x : S25}, okL l → x ∈ l → okV x
 | y :: l, x, h, hx => by
  rw [okL] at h
  rcases List.mem_cons.1 hx with rfl | hx
  ·exact h.1
  ·exact okL_mem h.2 hx
mutual
def okVb : S25 → Bool
 | ⟨_, n, s, l⟩ => (decide (0 ≤ n ∧ n < 18446744073709551616) && decide (s.size ≤ 4294967290)) && okLb l
def okLb : List S25 → Bool
 | [] => true
 | x :: l => okVb x && okLb l
end
mutual
theorem okVb_iff : ∀ {x : S25}, okVb x = true ↔ okV x
 | ⟨_, n, s, l⟩ => by simp only [okVb, okV, Bool.and_eq_true, decide_eq_true_eq, okLb_iff, u64R]
theorem okLb_iff : ∀ {l : List S25}, okLb l = true ↔ okL l
 | [] => by simp [okLb, okL]
 | x :: l => by simp only [okLb, okL, Bool.and_eq_true, okVb_iff, okLb_iff]
end
def MayAt (f : Nat) (x : S25) : Prop := ∀ (A : Option Addr) (c : Nat) (w : World), k25.C w A x.f3.length x.f3 → x.f3.length ≤ c →
 Calls Try.prog f #[.agg #[.int .u8 x.f0, .int .u64 x.f1, .string x.f2, .slice A x.f3.length c]] w fun e w' => e = .returned (.bool (mayB x)) ∧ Below w.heap.size w w'
set_option maxHeartbeats 1000000 in
theorem pred87_of (x : S25) (h : MayAt 57 x) (w : World) : Pred87 (fun x => !mayB x) w x := by
 intro A c w' hw ha hc
 have HA := Aside0.mk ha
 have HH := Aside0.mk h
 clear ha h
 go_enter Try.func87, Try.ntmps87
 go_wp2_with fail
 refine (HH.out A c _ (Kd.C_below HA.out (below_alloc (Below.refl _ _) _)) hc).mono ?_
 rintro e w2 ⟨rfl, hb2⟩
 have HB2 := Aside0.mk hb2
 clear hb2
 go_wp2_with fail
 go_ret
 exact ⟨rfl, below_step (below_alloc (Below.refl _ _) _) HB2.out⟩
set_option maxRecDepth 100000 in
set_option maxHeartbeats 2000000 in
theorem may57_of (x : S25) (hs : itemsN x ≤ 4294967296) (ho : okV x) (ih : ∀ y ∈ x.f3, MayAt 57 y) : MayAt 57 x := by
 intro A c w ha hc
 rw [okV_eq] at ho
 obtain ⟨⟨hn, ht⟩, hol⟩ := ho
 have hl : x.f3.length ≤ 4294967296 := by have := itemsL_length x.f3; rw [itemsN_eq] at hs; omega
 have HA := Aside0.mk ha
 have HI := Aside0.mk ih
 have HN := Aside0.mk hn
 have HT := Aside0.mk ht
 have HM := Aside0.mk (mayB_eq x)
 have hB0 : Below w.heap.size w (w.alloc (.cells #[.int .u8 x.f0, .int .u64 x.f1, .string x.f2, .slice A x.f3.length c] 25)) := below_alloc (Below.refl _ _) _
 have HB0 := Aside0.mk hB0
 clear ha ih hn ht hol hB0
 by_cases h1 : x.f0 < 1
 ·have q1 : decide (x.f0 < 1) = true := decide_eq_true h1
  have he : decide (1 ≤ x.f0 ∧ x.f0 ≤ 25) = false := decide_eq_false (by omega)
  have HE := Aside0.mk he
  clear h1 he
  go_enter Try.func57, Try.ntmps57
  go_wp2_with fail
  go_ret
  exact ⟨by rw [HM.out, HE.out]; rfl, HB0.out⟩
 have q1 : decide (x.f0 < 1) = false := decide_eq_false h1
 by_cases h2 : 25 < x.f0
 ·have q2 : decide (25 < x.f0) = true := decide_eq_true h2
  have he : decide (1 ≤ x.f0 ∧ x.f0 ≤ 25) = false := decide_eq_false (by omega)
  have HE := Aside0.mk he
  clear h1 h2 he
  go_enter Try.func57, Try.ntmps57
  go_wp2_with fail
  go_ret
  exact ⟨by rw [HM.out, HE.out]; rfl, HB0.out⟩
 have q2 : decide (25 < x.f0) = false := decide_eq_false h2
 have he : decide (1 ≤ x.f0 ∧ x.f0 ≤ 25) = true := decide_eq_true (by omega)
 have HE := Aside0.mk he
 clear h1 h2 he
 go_enter Try.func57, Try.ntmps57
 go_wp2_with fail
 refine (containsFunc_87 (fun y => !mayB y) x.f3 A c _ (fun y hy => pred87_of y (HI.out y hy) _) (Kd.C_below HA.out HB0.out) hc).mono ?_
 rintro e w2 ⟨rfl, hb2⟩
 have BX := Aside0.mk ((Blk.new w #[.int .u8 x.f0, .int .u64 x.f1, .string x.f2, .slice A x.f3.length c] 25).below hb2)
 have HB2 := Aside0.mk (below_step HB0.out hb2)
 clear hb2
 have hml : mayL x.f3 = !(x.f3.any fun y => !mayB y) := by rw [mayL_all, List.all_eq_not_any_not]
 have HL := Aside0.mk hml
 clear hml
 cases hq : x.f3.any (fun y => !mayB y) with
 | true =>
  have HQ := Aside0.mk hq
  clear hq
  go_wp2_with fail
  go_ret
  exact ⟨by rw [HM.out, HL.out, HQ.out, HE.out]; rfl, HB2.out⟩
 | false =>
  have HQ := Aside0.mk hq
  clear hq
  obtain ⟨q0, q3, q4, q5⟩ := BX.out.c4
  go_wp2_with fail
  refine (number88_any x HN.out A c _ (Kd.C_below HA.out HB2.out) hc).mono ?_
  rintro e w3 ⟨rfl, hb3⟩
  have BX3 := Aside0.mk (BX.out.below hb3)
  have HB3 := Aside0.mk (below_step HB2.out hb3)
  clear hb3 q0 q3 q4 q5
  obtain ⟨q0, q3, q4, q5⟩ := BX3.out.c4
  cases hq : numB x.f0 x.f1 with
  | false =>
   have HQ2 := Aside0.mk hq
   clear hq
   go_wp2_with fail
   go_ret
   exact ⟨by rw [HM.out, HL.out, HQ.out, HE.out, HQ2.out]; rfl, HB3.out⟩
  | true =>
   have HQ2 := Aside0.mk hq
   clear hq
   go_wp2_with fail
   refine (text89_any x HT.out A c _ (Kd.C_below HA.out HB3.out) hc).mono ?_
   rintro e w4 ⟨rfl, hb4⟩
   have BX4 := Aside0.mk (BX3.out.below hb4)
   have HB4 := Aside0.mk (below_step HB3.out hb4)
   clear hb4 q0 q3 q4 q5
   obtain ⟨q0, q3, q4, q5⟩ := BX4.out.c4
   cases hq : txtB x.f0 x.f2 with
   | false =>
    have HQ3 := Aside0.mk hq
    clear hq
    go_wp2_with fail
    go_ret
    exact ⟨by rw [HM.out, HL.out, HQ.out, HE.out, HQ2.out, HQ3.out]; rfl, HB4.out⟩
   | true =>
    have HQ3 := Aside0.mk hq
    clear hq
    go_wp2_with fail
    refine (family90_any x hl (by have := HL.out; rw [HQ.out, mayL_all] at this; exact this) A c _ (Kd.C_below HA.out HB4.out) hc).mono ?_
    rintro e w5 ⟨rfl, hb5⟩
    have HB5 := Aside0.mk (below_step HB4.out hb5)
    clear hb5 q0 q3 q4 q5
    go_wp2_with fail
    go_ret
    exact ⟨by rw [HM.out, HL.out, HQ.out, HE.out, HQ2.out, HQ3.out]; rfl, HB5.out⟩
theorem may57_all : ∀ (n : Nat), n ≤ 4294967296 → ∀ (x : S25), itemsN x ≤ n → okV x → MayAt 57 x
 | 0, _, x, h, _ => absurd (itemsN_pos x) (by omega)
 | n + 1, hn, x, h, ho => may57_of x (by omega) ho fun a ha => may57_all n (by omega) a (by have := itemsL_mem ha; rw [itemsN_eq] at h; omega) (okL_mem (by rw [okV_eq] at ho; exact ho.2) ha)
theorem may57_any (x : S25) (h : itemsN x ≤ 4294967296) (ho : okV x) : MayAt 57 x := may57_all 4294967296 (Nat.le_refl _) x h ho
end Go.Proofs.Ytdilbnggedidnaa.PVal
namespace Go.Proofs.Ytdilbnggedidnaa.PVal
open Go.RowKit Go.Proofs.YtdilbnggedidnaaW.PrintWords Go.Proofs.YtdilbnggedidnaaW.PrintLast
attribute [local go_sem] max2_int max_two
set_option linter.unusedVariables false
set_option linter.unusedSimpArgs false
def value_Depth.f (a0_0 : Int) (a0_1 : Int) (a0_2 : ByteArray) (l0_3 : List (S25)) : Option (Int) := if itemsN ⟨a0_0, a0_1, a0_2, l0_3⟩ ≤ 4294967296 then some ((depthN ⟨a0_0, a0_1, a0_2, l0_3⟩ : Int)) else none
theorem value_Depth.calls (a0_0 : Int) (a0_1 : Int) (a0_2 : ByteArray) (A0_3 : Option Addr) (c0_3 : Nat) (l0_3 : List (S25)) (r : Int) (w : World) (hr0_3 : Kd.C k25 w A0_3 l0_3.length l0_3) (hc0_3 : l0_3.length ≤ c0_3) (h : value_Depth.f a0_0 a0_1 a0_2 l0_3 = some r) :
  Calls Try.prog 32 #[.agg #[.int .u8 a0_0, .int .u64 a0_1, .string a0_2, .slice A0_3 l0_3.length c0_3]] w fun e w' => e = .returned (.int .i64 r) ∧ Below w.heap.size w w' := by
 unfold value_Depth.f at h
 split at h
 ·rename_i hq
  obtain rfl := Option.some.inj h
  exact depth32_any ⟨a0_0, a0_1, a0_2, l0_3⟩ hq A0_3 c0_3 w hr0_3 hc0_3
 ·cases h
def value_Items.f (a0_0 : Int) (a0_1 : Int) (a0_2 : ByteArray) (l0_3 : List (S25)) : Option (Int) := if itemsN ⟨a0_0, a0_1, a0_2, l0_3⟩ ≤ 4294967296 then some ((itemsN ⟨a0_0, a0_1, a0_2, l0_3⟩ : Int)) else none
theorem value_Items.calls (a0_0 : Int) (a0_1 : Int) (a0_2 : ByteArray) (A0_3 : Option Addr) (c0_3 : Nat) (l0_3 : List (S25)) (r : Int) (w : World) (hr0_3 : Kd.C k25 w A0_3 l0_3.length l0_3) (hc0_3 : l0_3.length ≤ c0_3) (h : value_Items.f a0_0 a0_1 a0_2 l0_3 = some r) :
  Calls Try.prog 34 #[.agg #[.int .u8 a0_0, .int .u64 a0_1, .string a0_2, .slice A0_3 l0_3.length c0_3]] w fun e w' => e = .returned (.int .i64 r) ∧ Below w.heap.size w w' := by
 unfold value_Items.f at h
 split at h
 ·rename_i hq
  obtain rfl := Option.some.inj h
  exact items34_any ⟨a0_0, a0_1, a0_2, l0_3⟩ hq A0_3 c0_3 w hr0_3 hc0_3
 ·cases h
def value_may.f (a0_0 : Int) (a0_1 : Int) (a0_2 : ByteArray) (l0_3 : List (S25)) : Option (Bool) := if itemsN ⟨a0_0, a0_1, a0_2, l0_3⟩ ≤ 4294967296 ∧ okVb ⟨a0_0, a0_1, a0_2, l0_3⟩ = true then some (mayB ⟨a0_0, a0_1, a0_2, l0_3⟩) else none
theorem value_may.calls (a0_0 : Int) (a0_1 : Int) (a0_2 : ByteArray) (A0_3 : Option Addr) (c0_3 : Nat) (l0_3 : List (S25)) (r : Bool) (w : World) (hr0_3 : Kd.C k25 w A0_3 l0_3.length l0_3) (hc0_3 : l0_3.length ≤ c0_3) (h : value_may.f a0_0 a0_1 a0_2 l0_3 = some r) :
  Calls Try.prog 57 #[.agg #[.int .u8 a0_0, .int .u64 a0_1, .string a0_2, .slice A0_3 l0_3.length c0_3]] w fun e w' => e = .returned (.bool r) ∧ Below w.heap.size w w' := by
 unfold value_may.f at h
 split at h
 ·rename_i hq
  obtain rfl := Option.some.inj h
  exact may57_any ⟨a0_0, a0_1, a0_2, l0_3⟩ hq.1 (okVb_iff.1 hq.2) A0_3 c0_3 w hr0_3 hc0_3
 ·cases h
def value_Right.f (a0_0 : Int) (a0_1 : Int) (a0_2 : ByteArray) (l0_3 : List (S25)) : Option (Bool) := (value_Depth.f a0_0 a0_1 a0_2 l0_3).bind fun t118 => (if t118 ≤ 16 then ((value_Items.f a0_0 a0_1 a0_2 l0_3).bind fun t119 => (if t119 ≤ 1024 then ((value_may.f a0_0 a0_1 a0_2 l0_3).bind fun t120 => (some t120)) else (some false))) else (some false))
set_option maxHeartbeats 8000000 in
set_option maxRecDepth 100000 in
theorem value_Right.calls (a0_0 : Int) (a0_1 : Int) (a0_2 : ByteArray) (A0_3 : Option Addr) (c0_3 : Nat) (l0_3 : List (S25)) (r : Bool) (w : World) (hr0_3 : Kd.C k25 w A0_3 l0_3.length l0_3) (hc0_3 : l0_3.length ≤ c0_3) (h : value_Right.f a0_0 a0_1 a0_2 l0_3 = some r) :
  Calls Try.prog 17 #[.agg #[.int .u8 a0_0, .int .u64 a0_1, .string a0_2, .slice A0_3 l0_3.length c0_3]] w fun e w' => e = .returned (.bool r) ∧ Below w.heap.size w w' := by
 have hu25 := Try.underlying25
 have HR0_3 := Aside0.mk hr0_3
 have HC0_3 := Aside0.mk hc0_3
 clear hr0_3 hc0_3
 have HB := Aside0.mk (Below.refl w.heap.size w)
 have H : ((value_Depth.f a0_0 a0_1 a0_2 l0_3).bind fun t118 => (if t118 ≤ 16 then ((value_Items.f a0_0 a0_1 a0_2 l0_3).bind fun t119 => (if t119 ≤ 1024 then ((value_may.f a0_0 a0_1 a0_2 l0_3).bind fun t120 => (some t120)) else (some false))) else (some false))) = some r := h
 clear h
 replace H := Option.bind_eq_some_iff.mp H
 obtain ⟨t118, A20, H⟩ := H
 replace H : (if t118 ≤ 16 then ((value_Items.f a0_0 a0_1 a0_2 l0_3).bind fun t119 => (if t119 ≤ 1024 then ((value_may.f a0_0 a0_1 a0_2 l0_3).bind fun t120 => (some t120)) else (some false))) else (some false)) = some r := H
 have A2 := Aside0.mk A20
 clear A20
 by_cases c3 : t118 ≤ 16
 ·rw [if_pos c3] at H
  have c3b0 : decide (t118 ≤ 16) = true := decide_eq_true c3
  clear c3
  replace H := Option.bind_eq_some_iff.mp H
  obtain ⟨t119, A40, H⟩ := H
  replace H : (if t119 ≤ 1024 then ((value_may.f a0_0 a0_1 a0_2 l0_3).bind fun t120 => (some t120)) else (some false)) = some r := H
  have A4 := Aside0.mk A40
  clear A40
  by_cases c5 : t119 ≤ 1024
  ·rw [if_pos c5] at H
   have c5b0 : decide (t119 ≤ 1024) = true := decide_eq_true c5
   clear c5
   replace H := Option.bind_eq_some_iff.mp H
   obtain ⟨t120, A60, H⟩ := H
   replace H : (some t120) = some r := H
   have A6 := Aside0.mk A60
   clear A60
   obtain rfl := Option.some.inj H
   go_enter Try.func17, Try.ntmps17
   go_wp2_with (first | ((with_reducible refine gate_dst (N := 1) rfl ?_); refine box_event ?hg (N := 1) ?hd (cs := #[.int .u8 a0_0, .int .u64 a0_1, .string a0_2, .slice A0_3 l0_3.length c0_3]) (t := 25) ?hr ?_; (case hd => rfl); (case hg => rfl); (case hr => first | (go_simp; done) | (go_simp; rfl)); intro gb117 hg w7 hbox hb; have n0_ := Aside0.mk (below_step (by repeat (first | (with_reducible first | exact HB.out | apply below_alloc | apply pw_below_drewN | apply below_drew1) | exact HB.out)) hb); have n1_ := Aside0.mk (hbox); have n2_ := Aside0.mk ((by rw [hg]; exact (below_size (by repeat (first | (with_reducible first | exact HB.out | apply below_alloc | apply pw_below_drewN | apply below_drew1) | exact HB.out))) : w.heap.size ≤ gb117)); have n3_ := Aside0.mk ((by rw [hg]; exact (below_size (by repeat (first | (with_reducible first | exact HB.out | apply below_alloc | apply pw_below_drewN | apply below_drew1) | exact HB.out))) : w.heap.size ≤ gb117)); clear HB; have HB := n0_; have BK117 := n1_; have GW117 := n2_; have GE117 := n3_; clear n0_ n1_ n2_ n3_; clear hb hbox hg; have hcz8_0 : w7.cell? ⟨gb117, 0, none⟩ = some (.int .u8 a0_0) := (blk_cell BK117.out 0).trans rfl; have hcz8_1 : w7.cell? ⟨gb117, 1, none⟩ = some (.int .u64 a0_1) := (blk_cell BK117.out 1).trans rfl; have hcz8_2 : w7.cell? ⟨gb117, 2, none⟩ = some (.string a0_2) := (blk_cell BK117.out 2).trans rfl; have hcz8_3 : w7.cell? ⟨gb117, 3, none⟩ = some (.slice A0_3 l0_3.length c0_3) := (blk_cell BK117.out 3).trans rfl; have hfz8_0 := blk_frozen BK117.out 0; have hfz8_1 := blk_frozen BK117.out 1; have hfz8_2 := blk_frozen BK117.out 2; have hfz8_3 := blk_frozen BK117.out 3) | ((with_reducible refine gate_callee (f := 32) rfl ?_); refine goesL_ (some 4) rfl rfl Try.func32 (by kernel_rfl) rfl #[.agg #[.int .u8 a0_0, .int .u64 a0_1, .string a0_2, .slice A0_3 l0_3.length c0_3]] rfl (by (try simp only [List.map_toArray, List.map_cons, List.map_nil]); first | done | rfl | (simp only [List.length_drop, List.length_take]; rfl)) ?_; (with_reducible refine (value_Depth.calls a0_0 a0_1 a0_2 _ _ l0_3 t118 _ ?side1 ?side2 A2.out).mono ?_); (case side1 => repeat (first | exact (Kd.C_below HR0_3.out HB.out) | (with_reducible refine Kd.C_alloc ?_ _) | (with_reducible refine Kd.C_drewN ?_ _) | (with_reducible refine Kd.C_drew ?_))); (case side2 => exact HC0_3.out); rintro e w9 ⟨rfl, hb⟩; refine ⟨_, rfl, ?_⟩; have n0_ := Aside0.mk (blk_below (g := gb117) (o := .cells #[.int .u8 a0_0, .int .u64 a0_1, .string a0_2, .slice A0_3 l0_3.length c0_3] 25 (0, 0)) (by (with_reducible repeat (first | refine blk_drewN ?_ _ | refine blk_drew ?_ | refine blk_alloc ?_ _)); exact BK117.out) hb); have n1_ := Aside0.mk (below_step (by repeat (first | (with_reducible first | exact HB.out | apply below_alloc | apply pw_below_drewN | apply below_drew1 | refine below_set ?_ GE117.out) | exact HB.out)) hb); clear BK117; clear HB; have BK117 := n0_; have HB := n1_; clear n0_ n1_; (try clear hb); (try clear hb2); (try clear hk); (try clear hi); have hcz10_0 : w9.cell? ⟨gb117, 0, none⟩ = some (.int .u8 a0_0) := (blk_cell BK117.out 0).trans rfl; have hcz10_1 : w9.cell? ⟨gb117, 1, none⟩ = some (.int .u64 a0_1) := (blk_cell BK117.out 1).trans rfl; have hcz10_2 : w9.cell? ⟨gb117, 2, none⟩ = some (.string a0_2) := (blk_cell BK117.out 2).trans rfl; have hcz10_3 : w9.cell? ⟨gb117, 3, none⟩ = some (.slice A0_3 l0_3.length c0_3) := (blk_cell BK117.out 3).trans rfl; have hfz10_0 := blk_frozen BK117.out 0; have hfz10_1 := blk_frozen BK117.out 1; have hfz10_2 := blk_frozen BK117.out 2; have hfz10_3 := blk_frozen BK117.out 3) | (go_at_call 34; (with_reducible refine (value_Items.calls a0_0 a0_1 a0_2 _ _ l0_3 t119 _ ?side1 ?side2 A4.out).mono ?_); (case side1 => repeat (first | exact (Kd.C_below HR0_3.out HB.out) | (with_reducible refine Kd.C_alloc ?_ _) | (with_reducible refine Kd.C_drewN ?_ _) | (with_reducible refine Kd.C_drew ?_))); (case side2 => exact HC0_3.out); rintro e w11 ⟨rfl, hb⟩; have n0_ := Aside0.mk (blk_below (g := gb117) (o := .cells #[.int .u8 a0_0, .int .u64 a0_1, .string a0_2, .slice A0_3 l0_3.length c0_3] 25 (0, 0)) (by (with_reducible repeat (first | refine blk_drewN ?_ _ | refine blk_drew ?_ | refine blk_alloc ?_ _)); exact BK117.out) hb); have n1_ := Aside0.mk (below_step (by repeat (first | (with_reducible first | exact HB.out | apply below_alloc | apply pw_below_drewN | apply below_drew1 | refine below_set ?_ GE117.out) | exact HB.out)) hb); clear BK117; clear HB; have BK117 := n0_; have HB := n1_; clear n0_ n1_; (try clear hb); (try clear hb2); (try clear hk); (try clear hi); have hcz12_0 : w11.cell? ⟨gb117, 0, none⟩ = some (.int .u8 a0_0) := (blk_cell BK117.out 0).trans rfl; have hcz12_1 : w11.cell? ⟨gb117, 1, none⟩ = some (.int .u64 a0_1) := (blk_cell BK117.out 1).trans rfl; have hcz12_2 : w11.cell? ⟨gb117, 2, none⟩ = some (.string a0_2) := (blk_cell BK117.out 2).trans rfl; have hcz12_3 : w11.cell? ⟨gb117, 3, none⟩ = some (.slice A0_3 l0_3.length c0_3) := (blk_cell BK117.out 3).trans rfl; have hfz12_0 := blk_frozen BK117.out 0; have hfz12_1 := blk_frozen BK117.out 1; have hfz12_2 := blk_frozen BK117.out 2; have hfz12_3 := blk_frozen BK117.out 3) | (go_at_call 57; (with_reducible refine (value_may.calls a0_0 a0_1 a0_2 _ _ l0_3 t120 _ ?side1 ?side2 A6.out).mono ?_); (case side1 => repeat (first | exact (Kd.C_below HR0_3.out HB.out) | (with_reducible refine Kd.C_alloc ?_ _) | (with_reducible refine Kd.C_drewN ?_ _) | (with_reducible refine Kd.C_drew ?_))); (case side2 => exact HC0_3.out); rintro e w13 ⟨rfl, hb⟩; have n0_ := Aside0.mk (blk_below (g := gb117) (o := .cells #[.int .u8 a0_0, .int .u64 a0_1, .string a0_2, .slice A0_3 l0_3.length c0_3] 25 (0, 0)) (by (with_reducible repeat (first | refine blk_drewN ?_ _ | refine blk_drew ?_ | refine blk_alloc ?_ _)); exact BK117.out) hb); have n1_ := Aside0.mk (below_step (by repeat (first | (with_reducible first | exact HB.out | apply below_alloc | apply pw_below_drewN | apply below_drew1 | refine below_set ?_ GE117.out) | exact HB.out)) hb); clear BK117; clear HB; have BK117 := n0_; have HB := n1_; clear n0_ n1_; (try clear hb); (try clear hb2); (try clear hk); (try clear hi)))
   go_ret
   exact ⟨by first | rfl | (simp [errW_none, errW_some] <;> rfl) | (simp [*, errW_none, errW_some] <;> rfl), by repeat (first | (with_reducible first | exact HB.out | apply below_alloc | apply pw_below_drewN | apply below_drew1 | refine below_set ?_ GE117.out) | exact HB.out)⟩
  ·rw [if_neg c5] at H
   have c5b0 : decide (t119 ≤ 1024) = false := decide_eq_false c5
   clear c5
   obtain rfl := Option.some.inj H
   go_enter Try.func17, Try.ntmps17
   go_wp2_with (first | ((with_reducible refine gate_dst (N := 1) rfl ?_); refine box_event ?hg (N := 1) ?hd (cs := #[.int .u8 a0_0, .int .u64 a0_1, .string a0_2, .slice A0_3 l0_3.length c0_3]) (t := 25) ?hr ?_; (case hd => rfl); (case hg => rfl); (case hr => first | (go_simp; done) | (go_simp; rfl)); intro gb117 hg w14 hbox hb; have n0_ := Aside0.mk (below_step (by repeat (first | (with_reducible first | exact HB.out | apply below_alloc | apply pw_below_drewN | apply below_drew1) | exact HB.out)) hb); have n1_ := Aside0.mk (hbox); have n2_ := Aside0.mk ((by rw [hg]; exact (below_size (by repeat (first | (with_reducible first | exact HB.out | apply below_alloc | apply pw_below_drewN | apply below_drew1) | exact HB.out))) : w.heap.size ≤ gb117)); have n3_ := Aside0.mk ((by rw [hg]; exact (below_size (by repeat (first | (with_reducible first | exact HB.out | apply below_alloc | apply pw_below_drewN | apply below_drew1) | exact HB.out))) : w.heap.size ≤ gb117)); clear HB; have HB := n0_; have BK117 := n1_; have GW117 := n2_; have GE117 := n3_; clear n0_ n1_ n2_ n3_; clear hb hbox hg; have hcz15_0 : w14.cell? ⟨gb117, 0, none⟩ = some (.int .u8 a0_0) := (blk_cell BK117.out 0).trans rfl; have hcz15_1 : w14.cell? ⟨gb117, 1, none⟩ = some (.int .u64 a0_1) := (blk_cell BK117.out 1).trans rfl; have hcz15_2 : w14.cell? ⟨gb117, 2, none⟩ = some (.string a0_2) := (blk_cell BK117.out 2).trans rfl; have hcz15_3 : w14.cell? ⟨gb117, 3, none⟩ = some (.slice A0_3 l0_3.length c0_3) := (blk_cell BK117.out 3).trans rfl; have hfz15_0 := blk_frozen BK117.out 0; have hfz15_1 := blk_frozen BK117.out 1; have hfz15_2 := blk_frozen BK117.out 2; have hfz15_3 := blk_frozen BK117.out 3) | ((with_reducible refine gate_callee (f := 32) rfl ?_); refine goesL_ (some 4) rfl rfl Try.func32 (by kernel_rfl) rfl #[.agg #[.int .u8 a0_0, .int .u64 a0_1, .string a0_2, .slice A0_3 l0_3.length c0_3]] rfl (by (try simp only [List.map_toArray, List.map_cons, List.map_nil]); first | done | rfl | (simp only [List.length_drop, List.length_take]; rfl)) ?_; (with_reducible refine (value_Depth.calls a0_0 a0_1 a0_2 _ _ l0_3 t118 _ ?side1 ?side2 A2.out).mono ?_); (case side1 => repeat (first | exact (Kd.C_below HR0_3.out HB.out) | (with_reducible refine Kd.C_alloc ?_ _) | (with_reducible refine Kd.C_drewN ?_ _) | (with_reducible refine Kd.C_drew ?_))); (case side2 => exact HC0_3.out); rintro e w16 ⟨rfl, hb⟩; refine ⟨_, rfl, ?_⟩; have n0_ := Aside0.mk (blk_below (g := gb117) (o := .cells #[.int .u8 a0_0, .int .u64 a0_1, .string a0_2, .slice A0_3 l0_3.length c0_3] 25 (0, 0)) (by (with_reducible repeat (first | refine blk_drewN ?_ _ | refine blk_drew ?_ | refine blk_alloc ?_ _)); exact BK117.out) hb); have n1_ := Aside0.mk (below_step (by repeat (first | (with_reducible first | exact HB.out | apply below_alloc | apply pw_below_drewN | apply below_drew1 | refine below_set ?_ GE117.out) | exact HB.out)) hb); clear BK117; clear HB; have BK117 := n0_; have HB := n1_; clear n0_ n1_; (try clear hb); (try clear hb2); (try clear hk); (try clear hi); have hcz17_0 : w16.cell? ⟨gb117, 0, none⟩ = some (.int .u8 a0_0) := (blk_cell BK117.out 0).trans rfl; have hcz17_1 : w16.cell? ⟨gb117, 1, none⟩ = some (.int .u64 a0_1) := (blk_cell BK117.out 1).trans rfl; have hcz17_2 : w16.cell? ⟨gb117, 2, none⟩ = some (.string a0_2) := (blk_cell BK117.out 2).trans rfl; have hcz17_3 : w16.cell? ⟨gb117, 3, none⟩ = some (.slice A0_3 l0_3.length c0_3) := (blk_cell BK117.out 3).trans rfl; have hfz17_0 := blk_frozen BK117.out 0; have hfz17_1 := blk_frozen BK117.out 1; have hfz17_2 := blk_frozen BK117.out 2; have hfz17_3 := blk_frozen BK117.out 3) | (go_at_call 34; (with_reducible refine (value_Items.calls a0_0 a0_1 a0_2 _ _ l0_3 t119 _ ?side1 ?side2 A4.out).mono ?_); (case side1 => repeat (first | exact (Kd.C_below HR0_3.out HB.out) | (with_reducible refine Kd.C_alloc ?_ _) | (with_reducible refine Kd.C_drewN ?_ _) | (with_reducible refine Kd.C_drew ?_))); (case side2 => exact HC0_3.out); rintro e w18 ⟨rfl, hb⟩; have n0_ := Aside0.mk (blk_below (g := gb117) (o := .cells #[.int .u8 a0_0, .int .u64 a0_1, .string a0_2, .slice A0_3 l0_3.length c0_3] 25 (0, 0)) (by (with_reducible repeat (first | refine blk_drewN ?_ _ | refine blk_drew ?_ | refine blk_alloc ?_ _)); exact BK117.out) hb); have n1_ := Aside0.mk (below_step (by repeat (first | (with_reducible first | exact HB.out | apply below_alloc | apply pw_below_drewN | apply below_drew1 | refine below_set ?_ GE117.out) | exact HB.out)) hb); clear BK117; clear HB; have BK117 := n0_; have HB := n1_; clear n0_ n1_; (try clear hb); (try clear hb2); (try clear hk); (try clear hi)))
   go_ret
   exact ⟨by first | rfl | (simp [errW_none, errW_some] <;> rfl) | (simp [*, errW_none, errW_some] <;> rfl), by repeat (first | (with_reducible first | exact HB.out | apply below_alloc | apply pw_below_drewN | apply below_drew1 | refine below_set ?_ GE117.out) | exact HB.out)⟩
 ·rw [if_neg c3] at H
  have c3b0 : decide (t118 ≤ 16) = false := decide_eq_false c3
  clear c3
  obtain rfl := Option.some.inj H
  go_enter Try.func17, Try.ntmps17
  go_wp2_with (first | ((with_reducible refine gate_dst (N := 1) rfl ?_); refine box_event ?hg (N := 1) ?hd (cs := #[.int .u8 a0_0, .int .u64 a0_1, .string a0_2, .slice A0_3 l0_3.length c0_3]) (t := 25) ?hr ?_; (case hd => rfl); (case hg => rfl); (case hr => first | (go_simp; done) | (go_simp; rfl)); intro gb117 hg w19 hbox hb; have n0_ := Aside0.mk (below_step (by repeat (first | (with_reducible first | exact HB.out | apply below_alloc | apply pw_below_drewN | apply below_drew1) | exact HB.out)) hb); have n1_ := Aside0.mk (hbox); have n2_ := Aside0.mk ((by rw [hg]; exact (below_size (by repeat (first | (with_reducible first | exact HB.out | apply below_alloc | apply pw_below_drewN | apply below_drew1) | exact HB.out))) : w.heap.size ≤ gb117)); have n3_ := Aside0.mk ((by rw [hg]; exact (below_size (by repeat (first | (with_reducible first | exact HB.out | apply below_alloc | apply pw_below_drewN | apply below_drew1) | exact HB.out))) : w.heap.size ≤ gb117)); clear HB; have HB := n0_; have BK117 := n1_; have GW117 := n2_; have GE117 := n3_; clear n0_ n1_ n2_ n3_; clear hb hbox hg; have hcz20_0 : w19.cell? ⟨gb117, 0, none⟩ = some (.int .u8 a0_0) := (blk_cell BK117.out 0).trans rfl; have hcz20_1 : w19.cell? ⟨gb117, 1, none⟩ = some (.int .u64 a0_1) := (blk_cell BK117.out 1).trans rfl; have hcz20_2 : w19.cell? ⟨gb117, 2, none⟩ = some (.string a0_2) := (blk_cell BK117.out 2).trans rfl; have hcz20_3 : w19.cell? ⟨gb117, 3, none⟩ = some (.slice A0_3 l0_3.length c0_3) := (blk_cell BK117.out 3).trans rfl; have hfz20_0 := blk_frozen BK117.out 0; have hfz20_1 := blk_frozen BK117.out 1; have hfz20_2 := blk_frozen BK117.out 2; have hfz20_3 := blk_frozen BK117.out 3) | ((with_reducible refine gate_callee (f := 32) rfl ?_); refine goesL_ (some 4) rfl rfl Try.func32 (by kernel_rfl) rfl #[.agg #[.int .u8 a0_0, .int .u64 a0_1, .string a0_2, .slice A0_3 l0_3.length c0_3]] rfl (by (try simp only [List.map_toArray, List.map_cons, List.map_nil]); first | done | rfl | (simp only [List.length_drop, List.length_take]; rfl)) ?_; (with_reducible refine (value_Depth.calls a0_0 a0_1 a0_2 _ _ l0_3 t118 _ ?side1 ?side2 A2.out).mono ?_); (case side1 => repeat (first | exact (Kd.C_below HR0_3.out HB.out) | (with_reducible refine Kd.C_alloc ?_ _) | (with_reducible refine Kd.C_drewN ?_ _) | (with_reducible refine Kd.C_drew ?_))); (case side2 => exact HC0_3.out); rintro e w21 ⟨rfl, hb⟩; refine ⟨_, rfl, ?_⟩; have n0_ := Aside0.mk (blk_below (g := gb117) (o := .cells #[.int .u8 a0_0, .int .u64 a0_1, .string a0_2, .slice A0_3 l0_3.length c0_3] 25 (0, 0)) (by (with_reducible repeat (first | refine blk_drewN ?_ _ | refine blk_drew ?_ | refine blk_alloc ?_ _)); exact BK117.out) hb); have n1_ := Aside0.mk (below_step (by repeat (first | (with_reducible first | exact HB.out | apply below_alloc | apply pw_below_drewN | apply below_drew1 | refine below_set ?_ GE117.out) | exact HB.out)) hb); clear BK117; clear HB; have BK117 := n0_; have HB := n1_; clear n0_ n1_; (try clear hb); (try clear hb2); (try clear hk); (try clear hi)))
  go_ret
  exact ⟨by first | rfl | (simp [errW_none, errW_some] <;> rfl) | (simp [*, errW_none, errW_some] <;> rfl), by repeat (first | (with_reducible first | exact HB.out | apply below_alloc | apply pw_below_drewN | apply below_drew1 | refine below_set ?_ GE117.out) | exact HB.out)⟩
def value_copies.f (l0 : List (S25)) : Option (List S25) := if itemsL l0 ≤ 4294967296 then some l0 else none
theorem value_copies.calls (A0 : Option Addr) (c0 : Nat) (l0 : List (S25)) (r : List (S25)) (w : World) (hr0 : Kd.C k25 w A0 l0.length l0) (hc0 : l0.length ≤ c0) (h : value_copies.f l0 = some r) :
  Calls Try.prog 59 #[.slice A0 l0.length c0] w fun e w' => ∃ v_ : Value, e = .returned v_ ∧ Kd.R k25 25 w' w.heap.size (fun _ => True) v_ r ∧ Below w.heap.size w w' := by
 unfold value_copies.f at h
 split at h
 ·rename_i hq
  cases h
  exact (copies59_any l0 hq A0 c0 w hr0 hc0).mono fun e w' ⟨A', c', he, hm⟩ => ⟨_, he, hm.1, hm.2⟩
 ·cases h
def value_Many.f (a0 : Int) (l1 : List (S25)) : Option (Int × Int × ByteArray × (List (S25))) := (value_copies.f l1).bind fun t122 => (some (a0, 0, (⟨#[]⟩ : ByteArray), t122))
set_option maxHeartbeats 8000000 in
set_option maxRecDepth 100000 in
theorem value_Many.calls (a0 : Int) (A1 : Option Addr) (c1 : Nat) (l1 : List (S25)) (r1 : Int) (r2 : Int) (r3 : ByteArray) (r4 : List (S25)) (w : World) (hr1 : Kd.C k25 w A1 l1.length l1) (hc1 : l1.length ≤ c1) (h : value_Many.f a0 l1 = some (r1, r2, r3, r4)) :
  Calls Try.prog 21 #[.int .u8 a0, .slice A1 l1.length c1] w fun e w' => ∃ v3_ : Value, e = .returned (.agg #[.int .u8 r1, .int .u64 r2, .string r3, v3_]) ∧ Kd.R k25 25 w' w.heap.size (fun _ => True) v3_ r4 ∧ Below w.heap.size w w' := by
 have hu25 := Try.underlying25
 have HR1 := Aside0.mk hr1
 have HC1 := Aside0.mk hc1
 clear hr1 hc1
 have HB := Aside0.mk (Below.refl w.heap.size w)
 have H : ((value_copies.f l1).bind fun t122 => (some (a0, 0, (⟨#[]⟩ : ByteArray), t122))) = some (r1, r2, r3, r4) := h
 clear h
 replace H := Option.bind_eq_some_iff.mp H
 obtain ⟨t122, A30, H⟩ := H
 replace H : (some (a0, 0, (⟨#[]⟩ : ByteArray), t122)) = some (r1, r2, r3, r4) := H
 have A3 := Aside0.mk A30
 clear A30
 simp only [Option.some.injEq, Prod.mk.injEq] at H
 obtain ⟨rfl, rfl, rfl, rfl⟩ := H
 go_enter Try.func21, Try.ntmps21
 go_wp2_with (first | ((with_reducible refine gate_dst (N := 4) rfl ?_); refine box_event ?hg (N := 4) ?hd (cs := #[.int .u8 0, .int .u64 0, .string (⟨#[]⟩ : ByteArray), .slice none 0 0]) (t := 25) ?hr ?_; (case hd => rfl); (case hg => rfl); (case hr => first | (go_simp; done) | (go_simp; rfl)); intro gb121 hg w4 hbox hb; have n0_ := Aside0.mk (below_step (by repeat (first | (with_reducible first | exact HB.out | apply below_alloc | apply pw_below_drewN | apply below_drew1) | exact HB.out)) hb); have n1_ := Aside0.mk (hbox); have n2_ := Aside0.mk ((by rw [hg]; exact (below_size (by repeat (first | (with_reducible first | exact HB.out | apply below_alloc | apply pw_below_drewN | apply below_drew1) | exact HB.out))) : w.heap.size ≤ gb121)); have n3_ := Aside0.mk ((by rw [hg]; exact (below_size (by repeat (first | (with_reducible first | exact HB.out | apply below_alloc | apply pw_below_drewN | apply below_drew1) | exact HB.out))) : w.heap.size ≤ gb121)); clear HB; have HB := n0_; have BK121 := n1_; have GW121 := n2_; have GE121 := n3_; clear n0_ n1_ n2_ n3_; clear hb hbox hg) | ((with_reducible refine gate_callee (f := 59) rfl ?_); refine goesL_ (some 7) rfl rfl Try.func59 (by kernel_rfl) rfl #[.slice A1 l1.length c1] rfl (by (try simp only [List.map_toArray, List.map_cons, List.map_nil]); first | done | rfl | (simp only [List.length_drop, List.length_take]; rfl)) ?_; (with_reducible refine (value_copies.calls _ _ l1 t122 _ ?side1 ?side2 A3.out).mono ?_); (case side1 => repeat (first | exact (Kd.C_below HR1.out HB.out) | (with_reducible refine Kd.C_alloc ?_ _) | (with_reducible refine Kd.C_drewN ?_ _) | (with_reducible refine Kd.C_drew ?_))); (case side2 => exact HC1.out); rintro e w5 ⟨v123, rfl, ho0, hb⟩; refine ⟨_, rfl, ?_⟩; have n0_ := Aside0.mk (Kd.R_lower (Kd.R_newB ho0 (g := gb121) (o := .cells #[.int .u8 0, .int .u64 0, .string (⟨#[]⟩ : ByteArray), .slice none 0 0] 25 (0, 0)) (by (with_reducible repeat (first | refine blk_drewN ?_ _ | refine blk_drew ?_ | refine blk_alloc ?_ _)); exact BK121.out)) (below_size (by repeat (first | (with_reducible first | exact HB.out | apply below_alloc | apply pw_below_drewN | apply below_drew1 | refine below_set ?_ GE121.out) | exact HB.out)))); have n1_ := Aside0.mk (blk_below (g := gb121) (o := .cells #[.int .u8 0, .int .u64 0, .string (⟨#[]⟩ : ByteArray), .slice none 0 0] 25 (0, 0)) (by (with_reducible repeat (first | refine blk_drewN ?_ _ | refine blk_drew ?_ | refine blk_alloc ?_ _)); exact BK121.out) hb); have n2_ := Aside0.mk (below_step (by repeat (first | (with_reducible first | exact HB.out | apply below_alloc | apply pw_below_drewN | apply below_drew1 | refine below_set ?_ GE121.out) | exact HB.out)) hb); clear BK121; clear HB; have HO124 := n0_; have BK121 := n1_; have HB := n2_; clear n0_ n1_ n2_; (try clear hb); (try clear hb2); (try clear hk); (try clear hi); (try clear ho0); obtain ⟨Ao6, co6, eo6⟩ := Kd.R_slice HO124.out; subst eo6; have hcz7_0 : w5.cell? ⟨gb121, 0, none⟩ = some (.int .u8 0) := (blk_cell BK121.out 0).trans rfl; have hcz7_1 : w5.cell? ⟨gb121, 1, none⟩ = some (.int .u64 0) := (blk_cell BK121.out 1).trans rfl; have hcz7_2 : w5.cell? ⟨gb121, 2, none⟩ = some (.string (⟨#[]⟩ : ByteArray)) := (blk_cell BK121.out 2).trans rfl; have hcz7_3 : w5.cell? ⟨gb121, 3, none⟩ = some (.slice none 0 0) := (blk_cell BK121.out 3).trans rfl; have hfz7_0 := blk_frozen BK121.out 0; have hfz7_1 := blk_frozen BK121.out 1; have hfz7_2 := blk_frozen BK121.out 2; have hfz7_3 := blk_frozen BK121.out 3))
 refine bodyPost_ret (results_cell_row rfl _ _ gb121 25 #[.int .u8 a0, .int .u64 0, .string (⟨#[]⟩ : ByteArray), .slice Ao6 t122.length co6] (0, 0) _ rfl (by (with_reducible repeat (first | refine blk_drewN ?_ _ | refine blk_drew ?_ | refine blk_alloc ?_ _)); refine blk_put (cs := #[.int .u8 a0, .int .u64 0, .string (⟨#[]⟩ : ByteArray), .slice none 0 0]) ?_ 3 _ rfl; (with_reducible repeat (first | refine blk_drewN ?_ _ | refine blk_drew ?_ | refine blk_alloc ?_ _)); refine blk_put (cs := #[.int .u8 a0, .int .u64 0, .string (⟨#[]⟩ : ByteArray), .slice none 0 0]) ?_ 2 _ rfl; (with_reducible repeat (first | refine blk_drewN ?_ _ | refine blk_drew ?_ | refine blk_alloc ?_ _)); refine blk_put (cs := #[.int .u8 a0, .int .u64 0, .string (⟨#[]⟩ : ByteArray), .slice none 0 0]) ?_ 1 _ rfl; (with_reducible repeat (first | refine blk_drewN ?_ _ | refine blk_drew ?_ | refine blk_alloc ?_ _)); refine blk_put (cs := #[.int .u8 0, .int .u64 0, .string (⟨#[]⟩ : ByteArray), .slice none 0 0]) ?_ 0 _ rfl; (with_reducible repeat (first | refine blk_drewN ?_ _ | refine blk_drew ?_ | refine blk_alloc ?_ _)); exact BK121.out) Try.underlying25 rfl (by kernel_rfl)) rfl ?_
 exact ⟨_, by first | rfl | (simp [errW_none, errW_some] <;> rfl) | (simp [*, errW_none, errW_some] <;> rfl), by (with_reducible repeat (first | apply Kd.R_alloc | apply Kd.R_drewN | apply Kd.R_drew)); exact Kd.R_mono (Kd.R_far (p := ⟨gb121, 3, none⟩) (Kd.R_far (p := ⟨gb121, 2, none⟩) (Kd.R_far (p := ⟨gb121, 1, none⟩) (Kd.R_far (p := ⟨gb121, 0, none⟩) (Kd.R_mono HO124.out (fun k_ hk => (⟨hk, hk.2⟩ : _ ∧ k_ ≠ gb121))) (fun _ hk => hk.2) (.int .u8 a0)) (fun _ hk => hk.2) (.int .u64 0)) (fun _ hk => hk.2) (.string (⟨#[]⟩ : ByteArray))) (fun _ hk => hk.2) (.slice Ao6 t122.length co6)) (fun _ hk => trivial), by repeat (first | (with_reducible first | exact HB.out | apply below_alloc | apply pw_below_drewN | apply below_drew1 | refine below_set ?_ GE121.out) | exact HB.out)⟩
end Go.Proofs.Ytdilbnggedidnaa.PVal
namespace Go.Proofs.Ytdilbnggedidnaa.PVal
open Go.RowKit Go.Shelf Go.Proofs.YtdilbnggedidnaaW.PrintWords Go.Proofs.YtdilbnggedidnaaW.PrintLast
set_option linter.unusedVariables false
set_option linter.unusedSimpArgs false
def KV.cells (q : KV) : List Value := [.int .u8 q.x.f0, .int .u64 q.x.f1, .string q.x.f2, .slice q.A q.x.f3.length q.c]
def flatK : List KV → List Value
 | [] => []
 | q :: l => q.cells ++ flatK l
theorem flatK_get : ∀ (l : List KV) (j : Nat) (q : KV), l[j]? = some q → ∀ i, i < 4 → (flatK l)[j * 4 + i]? = q.cells[i]?
 | [], j, q, h, i, hi => by simp at h
 | p :: l, 0, q, h, i, hi => by
  obtain rfl : p = q := by simpa using h
  rw [flatK, Nat.zero_mul, Nat.zero_add, List.getElem?_append_left (by simpa [KV.cells] using hi)]
 | p :: l, j + 1, q, h, i, hi => by
  rw [flatK, List.getElem?_append_right (by simp [KV.cells]; omega)]
  have := flatK_get l j q (by simpa using h) i hi
  rw [← this]
  congr 1
  simp [KV.cells]; omega
theorem C_lit {W : World} {b : Nat} {ks : List KV} (hb : Blk W b (flatK ks).toArray 25) (hn : ks.length ≤ 9223372036854775807) (hok : ∀ q ∈ ks, q.ok W) : k25.C W (some ⟨b, 0, none⟩) ks.length (ks.map (·.x)) := by
 refine ⟨by simp, hn, fun _ => ⟨_, rfl, fun j p hj => ?_⟩⟩
 rw [List.getElem?_map] at hj
 obtain ⟨q, hq, rfl⟩ := Option.map_eq_some_iff.1 hj
 have hk := hok q (List.mem_of_getElem? hq)
 refine ⟨q.cells, rfl, k25_mk W q.x hk.2 hk.1, fun i u hi => ?_⟩
 have hi4 : i < 4 := by
  have := (List.getElem?_eq_some_iff.1 hi).1
  simpa [KV.cells] using this
 have := flatK_get ks j q hq i hi4
 show W.cell? ((⟨b, 0, none⟩ : Addr).add (j * 4 + i)) = some u
 rw [show (⟨b, 0, none⟩ : Addr).add (j * 4 + i) = ⟨b, j * 4 + i, none⟩ by unfold Addr.add; split <;> simp_all]
 refine (blk_cell hb _).trans ?_
 simpa [this] using hi
set_option maxHeartbeats 2000000 in
theorem bool27_any (b : Bool) (w : World) : Calls Try.prog 27 #[.bool b] w fun e w' => e = .returned (.agg #[.int .u8 2, .int .u64 (if b then 1 else 0), .string ⟨#[]⟩, .slice none 0 0]) ∧ Below w.heap.size w w' := by
 cases b with
 | true =>
  go_enter Try.func27, Try.ntmps27
  go_wp2_with fail
  exact bodyPost_ret (results_cell_row rfl _ _ w.heap.size 25 #[.int .u8 2, .int .u64 1, .string ⟨#[]⟩, .slice none 0 0] (0, 0) _ rfl (blk_alloc (blk_new _ _) _) Try.underlying25 rfl (by kernel_rfl)) rfl ⟨rfl, below_alloc (below_alloc (Below.refl _ _) _) _⟩
 | false =>
  go_enter Try.func27, Try.ntmps27
  go_wp2_with fail
  exact bodyPost_ret (results_cell_row rfl _ _ w.heap.size 25 #[.int .u8 2, .int .u64 0, .string ⟨#[]⟩, .slice none 0 0] (0, 0) _ rfl (blk_alloc (blk_new _ _) _) Try.underlying25 rfl (by kernel_rfl)) rfl ⟨rfl, below_alloc (below_alloc (Below.refl _ _) _) _⟩
theorem many21_any (k : Int) (l : List S25) (hs : itemsL l ≤ 4294967296) (A : Option Addr) (c : Nat) (w : World) (ha : k25.C w A l.length l) (hc : l.length ≤ c) :
  Calls Try.prog 21 #[.int .u8 k, .slice A l.length c] w fun e w' => ∃ v3_ : Value, e = .returned (.agg #[.int .u8 k, .int .u64 0, .string ⟨#[]⟩, v3_]) ∧ k25.R 25 w' w.heap.size (fun _ => True) v3_ l ∧ Below w.heap.size w w' :=
 value_Many.calls k A c l k 0 ⟨#[]⟩ l w ha hc (by unfold value_Many.f value_copies.f; rw [if_pos hs]; rfl)
set_option maxRecDepth 100000 in
set_option maxHeartbeats 2000000 in
theorem desc28_any (x y : S25) (hs : itemsN x + itemsN y ≤ 4294967296) (A B : Option Addr) (c d : Nat) (w : World) (ha : k25.C w A x.f3.length x.f3) (hc : x.f3.length ≤ c) (hb : k25.C w B y.f3.length y.f3) (hd : y.f3.length ≤ d) :
  Calls Try.prog 28 #[.agg #[.int .u8 x.f0, .int .u64 x.f1, .string x.f2, .slice A x.f3.length c], .agg #[.int .u8 y.f0, .int .u64 y.f1, .string y.f2, .slice B y.f3.length d]] w fun e w' => ∃ v3_ : Value, e = .returned (.agg #[.int .u8 25, .int .u64 0, .string ⟨#[]⟩, v3_]) ∧ k25.R 25 w' w.heap.size (fun _ => True) v3_ [x, y] ∧ Below w.heap.size w w' := by
 have HA := Aside0.mk ha
 have HB := Aside0.mk hb
 clear ha hb
 go_enter Try.func28, Try.ntmps28
 go_wp2_with fail
 have bR : Blk ((((w.alloc (.cells #[.int .u8 x.f0, .int .u64 x.f1, .string x.f2, .slice A x.f3.length c] 25)).alloc (.cells #[.int .u8 y.f0, .int .u64 y.f1, .string y.f2, .slice B y.f3.length d] 25)).alloc (.cells #[.int .u8 0, .int .u64 0, .string ⟨#[]⟩, .slice none 0 0] 25)).alloc (.cells #[.int .u8 x.f0, .int .u64 x.f1, .string x.f2, .slice A x.f3.length c, .int .u8 y.f0, .int .u64 y.f1, .string y.f2, .slice B y.f3.length d] 25)) (w.heap.size + 1 + 1) #[.int .u8 0, .int .u64 0, .string ⟨#[]⟩, .slice none 0 0] 25 := by
  have := (Blk.new ((w.alloc (.cells #[.int .u8 x.f0, .int .u64 x.f1, .string x.f2, .slice A x.f3.length c] 25)).alloc (.cells #[.int .u8 y.f0, .int .u64 y.f1, .string y.f2, .slice B y.f3.length d] 25)) #[.int .u8 0, .int .u64 0, .string ⟨#[]⟩, .slice none 0 0] 25).alloc (.cells #[.int .u8 x.f0, .int .u64 x.f1, .string x.f2, .slice A x.f3.length c, .int .u8 y.f0, .int .u64 y.f1, .string y.f2, .slice B y.f3.length d] 25); simpa using this
 have bL : Blk ((((w.alloc (.cells #[.int .u8 x.f0, .int .u64 x.f1, .string x.f2, .slice A x.f3.length c] 25)).alloc (.cells #[.int .u8 y.f0, .int .u64 y.f1, .string y.f2, .slice B y.f3.length d] 25)).alloc (.cells #[.int .u8 0, .int .u64 0, .string ⟨#[]⟩, .slice none 0 0] 25)).alloc (.cells #[.int .u8 x.f0, .int .u64 x.f1, .string x.f2, .slice A x.f3.length c, .int .u8 y.f0, .int .u64 y.f1, .string y.f2, .slice B y.f3.length d] 25)) (w.heap.size + 1 + 1 + 1) (flatK [⟨x, A, c⟩, ⟨y, B, d⟩]).toArray 25 := by
  have := Blk.new (((w.alloc (.cells #[.int .u8 x.f0, .int .u64 x.f1, .string x.f2, .slice A x.f3.length c] 25)).alloc (.cells #[.int .u8 y.f0, .int .u64 y.f1, .string y.f2, .slice B y.f3.length d] 25)).alloc (.cells #[.int .u8 0, .int .u64 0, .string ⟨#[]⟩, .slice none 0 0] 25)) #[.int .u8 x.f0, .int .u64 x.f1, .string x.f2, .slice A x.f3.length c, .int .u8 y.f0, .int .u64 y.f1, .string y.f2, .slice B y.f3.length d] 25; simpa [flatK, KV.cells] using this
 have hB0 : Below w.heap.size w ((((w.alloc (.cells #[.int .u8 x.f0, .int .u64 x.f1, .string x.f2, .slice A x.f3.length c] 25)).alloc (.cells #[.int .u8 y.f0, .int .u64 y.f1, .string y.f2, .slice B y.f3.length d] 25)).alloc (.cells #[.int .u8 0, .int .u64 0, .string ⟨#[]⟩, .slice none 0 0] 25)).alloc (.cells #[.int .u8 x.f0, .int .u64 x.f1, .string x.f2, .slice A x.f3.length c, .int .u8 y.f0, .int .u64 y.f1, .string y.f2, .slice B y.f3.length d] 25)) := below_alloc (below_alloc (below_alloc (below_alloc (Below.refl _ _) _) _) _) _
 have hz : ((((w.alloc (.cells #[.int .u8 x.f0, .int .u64 x.f1, .string x.f2, .slice A x.f3.length c] 25)).alloc (.cells #[.int .u8 y.f0, .int .u64 y.f1, .string y.f2, .slice B y.f3.length d] 25)).alloc (.cells #[.int .u8 0, .int .u64 0, .string ⟨#[]⟩, .slice none 0 0] 25)).alloc (.cells #[.int .u8 x.f0, .int .u64 x.f1, .string x.f2, .slice A x.f3.length c, .int .u8 y.f0, .int .u64 y.f1, .string y.f2, .slice B y.f3.length d] 25)).heap.size = w.heap.size + 4 := by simp
 obtain ⟨W0, hW0⟩ : ∃ W0, ((((w.alloc (.cells #[.int .u8 x.f0, .int .u64 x.f1, .string x.f2, .slice A x.f3.length c] 25)).alloc (.cells #[.int .u8 y.f0, .int .u64 y.f1, .string y.f2, .slice B y.f3.length d] 25)).alloc (.cells #[.int .u8 0, .int .u64 0, .string ⟨#[]⟩, .slice none 0 0] 25)).alloc (.cells #[.int .u8 x.f0, .int .u64 x.f1, .string x.f2, .slice A x.f3.length c, .int .u8 y.f0, .int .u64 y.f1, .string y.f2, .slice B y.f3.length d] 25)) = W0 := ⟨_, rfl⟩
 rw [hW0] at bR bL hB0 hz ⊢
 clear hW0
 have hC := C_lit bL (by simp) (by
  intro q hq
  simp only [List.mem_cons, List.not_mem_nil, or_false] at hq
  rcases hq with rfl | rfl
  ·exact ⟨Kd.C_below HA.out hB0, hc⟩
  ·exact ⟨Kd.C_below HB.out hB0, hd⟩)
 refine (many21_any 25 [x, y] (by simpa [itemsL] using hs) _ 2 W0 hC (by simp)).mono ?_
 rintro e w5 ⟨v3, rfl, hR, hb5⟩
 have HR := Aside0.mk hR
 obtain ⟨A5, c5, rfl⟩ := Kd.R_slice hR
 have bR5 := bR.below hb5
 have HB5 := Aside0.mk (below_step hB0 hb5)
 have HZ := Aside0.mk (⟨hz, hb5.size⟩ : _ ∧ _)
 obtain ⟨q0, q1, q2, q3⟩ := bR5.c4
 have fz := bR5.fz
 clear hR hC bL hb5 hB0
 go_wp2_with fail
 have hz1 := HZ.out.1
 have hz2 := HZ.out.2
 refine bodyPost_ret (results_cell_row rfl _ _ (w.heap.size + 1 + 1) 25 #[.int .u8 25, .int .u64 0, .string ⟨#[]⟩, .slice A5 2 c5] (0, 0) _ rfl (by
  refine blk_put (cs := #[.int .u8 25, .int .u64 0, .string ⟨#[]⟩, .slice none 0 0]) ?_ 3 _ rfl
  refine blk_put (cs := #[.int .u8 25, .int .u64 0, .string ⟨#[]⟩, .slice none 0 0]) ?_ 2 _ rfl
  refine blk_put (cs := #[.int .u8 25, .int .u64 0, .string ⟨#[]⟩, .slice none 0 0]) ?_ 1 _ rfl
  refine blk_put (cs := #[.int .u8 0, .int .u64 0, .string ⟨#[]⟩, .slice none 0 0]) ?_ 0 _ rfl
  exact bR5) Try.underlying25 rfl (by kernel_rfl)) rfl ?_
 refine ⟨.slice A5 2 c5, rfl, ?_, ?_⟩
 ·refine R_lower_far HR.out (by omega) ?_
  exact ((((SetsBelow.nil).snoc (show w.heap.size + 1 + 1 < _ by omega) _).snoc (show w.heap.size + 1 + 1 < _ by omega) _).snoc (show w.heap.size + 1 + 1 < _ by omega) _).snoc (show w.heap.size + 1 + 1 < _ by omega) _
 ·exact below_set (below_set (below_set (below_set HB5.out (by omega)) (by omega)) (by omega)) (by omega)
end Go.Proofs.Ytdilbnggedidnaa.PVal
namespace Go.Proofs.Ytdilbnggedidnaa.PVal
open Go.RowKit
set_option linter.unusedVariables false
set_option linter.unusedSimpArgs false
def Evt {α : Type} (g : Nat → Option α) (r : α) : Prop := ∃ k0, ∀ k, k0 ≤ k → g k = some r
theorem Evt.step {α : Type} {f b : Nat → Option α} {r : α} (h : Evt b r) (hf : ∀ k, f (k + 1) = b k) : Evt f r := by
 obtain ⟨k0, h⟩ := h
 refine ⟨k0 + 1, fun k hk => ?_⟩
 obtain ⟨k, rfl⟩ : ∃ j, k = j + 1 := ⟨k - 1, by omega⟩
 rw [hf]; exact h k (by omega)
theorem Evt.bind {α β : Type} {g : Nat → Option α} {h : Nat → α → Option β} {a : α} {r : β} (hg : Evt g a) (hh : Evt (fun k => h k a) r) : Evt (fun k => (g k).bind (h k)) r := by
 obtain ⟨k0, h0⟩ := hg
 obtain ⟨k1, h1⟩ := hh
 refine ⟨max k0 k1, fun k hk => ?_⟩
 show (g k).bind (h k) = some r
 rw [h0 k (by omega)]; exact h1 k (by omega)
theorem Evt.congr {α : Type} {f g : Nat → Option α} {r : α} (h : Evt g r) (he : ∀ k, f k = g k) : Evt f r := h.imp fun k0 h0 k hk => (he k).trans (h0 k hk)
end Go.Proofs.Ytdilbnggedidnaa.PVal
namespace Go.Proofs.Ytdilbnggedidnaa.PVal
open Go.RowKit Go.Proofs.YtdilbnggedidnaaW.PrintWords Go.Proofs.YtdilbnggedidnaaW.PrintLast
set_option linter.unusedVariables false
set_option linter.unusedSimpArgs false
theorem S25.eta' (x : S25) : (⟨x.f0, x.f1, x.f2, x.f3⟩ : S25) = x := by cases x; rfl
def rightB (x : S25) : Bool := (decide (depthN x ≤ 16) && decide (itemsN x ≤ 1024)) && mayB x
theorem right17_any (x : S25) (hs : itemsN x ≤ 4294967296) (ho : okV x) (A : Option Addr) (c : Nat) (w : World) (ha : k25.C w A x.f3.length x.f3) (hc : x.f3.length ≤ c) :
  Calls Try.prog 17 #[.agg #[.int .u8 x.f0, .int .u64 x.f1, .string x.f2, .slice A x.f3.length c]] w fun e w' => e = .returned (.bool (rightB x)) ∧ Below w.heap.size w w' := by
 refine value_Right.calls x.f0 x.f1 x.f2 A c x.f3 _ w ha hc ?_
 unfold value_Right.f value_Depth.f value_Items.f value_may.f rightB
 rw [S25.eta', if_pos hs]
 show (if (depthN x : Int) ≤ 16 then _ else _) = _
 by_cases h1 : depthN x ≤ 16
 ·rw [if_pos (by omega), if_pos hs, decide_eq_true h1]
  show (if (itemsN x : Int) ≤ 1024 then _ else _) = _
  by_cases h2 : itemsN x ≤ 1024
  ·rw [if_pos (by omega), if_pos ⟨hs, okVb_iff.2 ho⟩, decide_eq_true h2]; rfl
  ·rw [if_neg (by omega), decide_eq_false h2]; rfl
 ·rw [if_neg (by omega), decide_eq_false h1]; rfl
end Go.Proofs.Ytdilbnggedidnaa.PVal
namespace Go.Proofs.Ytdilbnggedidnaa.PVal
open Go.RowKit Go.Proofs.YtdilbnggedidnaaW.PrintWords Go.Proofs.YtdilbnggedidnaaW.PrintLast
set_option linter.unusedVariables false
set_option linter.unusedSimpArgs false
structure Tn (ok : Nat → Prop) (w w' : World) : Prop where
 os : w'.os = w.os
 tape : w'.tape = w.tape
 output : w'.output = w.output
 size : w'.heap.size = w.heap.size
 off : ∀ k, ¬ ok k → w'.heap[k]? = w.heap[k]?
 on : ∀ (k : Nat) (cur : Array Value) (t : TypeId) (f : Nat × Nat), w.heap[k]? = some (Obj.cells cur t f) → ∃ cur' : Array Value, w'.heap[k]? = some (Obj.cells cur' t f) ∧ cur'.size = cur.size ∧ ∀ j : Nat, cur'[j]? = cur[j]? ∨ ∃ a a' : Int, cur[j]? = some (Value.int .u64 a) ∧ cur'[j]? = some (Value.int .u64 a')
theorem Tn.refl (ok : Nat → Prop) (w : World) : Tn ok w w := ⟨rfl, rfl, rfl, rfl, fun _ _ => rfl, fun k cur t f h => ⟨cur, h, rfl, fun _ => .inl rfl⟩⟩
theorem Tn.trans {ok : Nat → Prop} {a b c : World} (h : Tn ok a b) (k : Tn ok b c) : Tn ok a c :=
 ⟨k.os.trans h.os, k.tape.trans h.tape, k.output.trans h.output, k.size.trans h.size, fun i hi => (k.off i hi).trans (h.off i hi), fun i cur t f hc => by
  obtain ⟨c1, h1, s1, e1⟩ := h.on i cur t f hc
  obtain ⟨c2, h2, s2, e2⟩ := k.on i c1 t f h1
  refine ⟨c2, h2, s2.trans s1, fun j => ?_⟩
  rcases e1 j with e | ⟨a, a', ha, ha'⟩ <;> rcases e2 j with e' | ⟨b, b', hb, hb'⟩
  ·exact .inl (e'.trans e)
  ·exact .inr ⟨b, b', e ▸ hb, hb'⟩
  ·exact .inr ⟨a, a', ha, e'.trans ha'⟩
  ·exact .inr ⟨a, b', ha, hb'⟩⟩
theorem Tn.set {ok : Nat → Prop} {w w' : World} (h : Tn ok w w') {g j : Nat} {cur : Array Value} {t : TypeId} {a : Int} (hg : ok g) (hb : w'.heap[g]? = some (.cells cur t (0, 0))) (hj : cur[j]? = some (.int .u64 a)) (a' : Int) : Tn ok w (w'.setCell ⟨g, j, none⟩ (.int .u64 a')) := by
 refine h.trans ⟨rfl, rfl, rfl, by simp [World.setCell], fun k hk => Below.heap_setCell _ _ _ k (fun e => hk (by rw [e]; exact hg)), fun k cur2 t2 f2 hc => ?_⟩
 by_cases hkg : k = g
 ·subst hkg
  rw [hb] at hc
  cases hc
  refine ⟨cur.setIfInBounds j (.int .u64 a'), blk_put hb j _ rfl, by simp, fun i => ?_⟩
  by_cases hij : i = j
  ·subst hij
   have hlt : i < cur.size := (Array.getElem?_eq_some_iff.1 hj).1
   exact .inr ⟨a, a', hj, by simp [hlt]⟩
  ·exact .inl (Array.getElem?_setIfInBounds_ne (fun e => hij e.symm))
 ·exact ⟨cur2, (Below.heap_setCell _ _ _ k hkg).trans hc, rfl, fun _ => .inl rfl⟩
theorem Tn.below {ok : Nat → Prop} {w w' : World} (h : Tn ok w w') {b : Nat} (hb : ∀ k, ok k → b ≤ k) : Below b w w' := ⟨h.os, h.tape, h.output, by rw [h.size]; exact Nat.le_refl _, fun k hk => h.off k (fun ho => by have := hb k ho; omega)⟩
end Go.Proofs.Ytdilbnggedidnaa.PVal
namespace Go.Proofs.Ytdilbnggedidnaa.PVal
open Go.RowKit Go.Shelf Go.Proofs.YtdilbnggedidnaaW.PrintWords Go.Proofs.YtdilbnggedidnaaW.PrintLast
set_option linter.unusedVariables false
set_option linter.unusedSimpArgs false
set_option maxHeartbeats 2000000 in
theorem number23_any (k n : Int) (w : World) : Calls Try.prog 23 #[.int .u8 k, .int .u64 n] w fun e w' => e = .returned (.agg #[.int .u8 k, .int .u64 n, .string ⟨#[]⟩, .slice none 0 0]) ∧ Below w.heap.size w w' := by
 go_enter Try.func23, Try.ntmps23
 go_wp2_with fail
 exact bodyPost_ret (results_cell_row rfl _ _ w.heap.size 25 #[.int .u8 k, .int .u64 n, .string ⟨#[]⟩, .slice none 0 0] (0, 0) _ rfl (blk_new _ _) Try.underlying25 rfl (by kernel_rfl)) rfl ⟨rfl, below_alloc (Below.refl _ _) _⟩
set_option maxHeartbeats 2000000 in
theorem text24_any (k : Int) (s : ByteArray) (w : World) : Calls Try.prog 24 #[.int .u8 k, .string s] w fun e w' => e = .returned (.agg #[.int .u8 k, .int .u64 0, .string s, .slice none 0 0]) ∧ Below w.heap.size w w' := by
 go_enter Try.func24, Try.ntmps24
 go_wp2_with fail
 exact bodyPost_ret (results_cell_row rfl _ _ w.heap.size 25 #[.int .u8 k, .int .u64 0, .string s, .slice none 0 0] (0, 0) _ rfl (blk_new _ _) Try.underlying25 rfl (by kernel_rfl)) rfl ⟨rfl, below_alloc (Below.refl _ _) _⟩
set_option maxHeartbeats 2000000 in
theorem null26_any (w : World) : Calls Try.prog 26 #[] w fun e w' => e = .returned (.agg #[.int .u8 1, .int .u64 0, .string ⟨#[]⟩, .slice none 0 0]) ∧ Below w.heap.size w w' := by
 go_enter Try.func26, Try.ntmps26
 go_wp2_with fail
 exact bodyPost_ret (results_cell_row rfl _ _ w.heap.size 25 #[.int .u8 1, .int .u64 0, .string ⟨#[]⟩, .slice none 0 0] (0, 0) _ rfl (blk_new _ _) Try.underlying25 rfl (by kernel_rfl)) rfl ⟨rfl, below_alloc (Below.refl _ _) _⟩
def vNul : S25 := ⟨1, 0, ⟨#[]⟩, []⟩
def vTru : S25 := ⟨2, 1, ⟨#[]⟩, []⟩
end Go.Proofs.Ytdilbnggedidnaa.PVal
namespace Go.Proofs.Ytdilbnggedidnaa.PVal
open Go.RowKit Go.Shelf Go.Proofs.YtdilbnggedidnaaW.PrintWords Go.Proofs.YtdilbnggedidnaaW.PrintLast
set_option linter.unusedVariables false
set_option linter.unusedSimpArgs false
structure Bg (g : Nat) (w w' : World) : Prop where
 os : w'.os = w.os
 tape : w'.tape = w.tape
 output : w'.output = w.output
 size : w.heap.size ≤ w'.heap.size
 block : ∀ k, k < w.heap.size → k ≠ g → w'.heap[k]? = w.heap[k]?
theorem Bg.refl (g : Nat) (w : World) : Bg g w w := ⟨rfl, rfl, rfl, Nat.le_refl _, fun _ _ _ => rfl⟩
theorem Bg.trans {g : Nat} {a b c : World} (h : Bg g a b) (k : Bg g b c) : Bg g a c := ⟨k.os.trans h.os, k.tape.trans h.tape, k.output.trans h.output, Nat.le_trans h.size k.size, fun i hi hg => (k.block i (Nat.lt_of_lt_of_le hi h.size) hg).trans (h.block i hi hg)⟩
theorem Bg.of {g : Nat} {w w' : World} (h : Below w.heap.size w w') : Bg g w w' := ⟨h.os, h.tape, h.output, h.size, fun k hk _ => h.block k hk⟩
theorem Bg.below {g B : Nat} {w w' : World} (h : Bg g w w') (hg : B ≤ g) (hB : B ≤ w.heap.size) : Below B w w' := ⟨h.os, h.tape, h.output, h.size, fun k hk => h.block k (by omega) (by omega)⟩
theorem Bg.set {g : Nat} {w w' : World} (h : Bg g w w') (j : Nat) (v : Value) : Bg g w (w'.setCell ⟨g, j, none⟩ v) := ⟨h.os, h.tape, h.output, by simpa [World.setCell] using h.size, fun k hk hg => (Below.heap_setCell _ _ _ k hg).trans (h.block k hk hg)⟩
theorem Blk.bg {g : Nat} {w w' : World} {b : Nat} {cs : Array Value} {t : TypeId} (h : Blk w b cs t) (hb : Bg g w w') (hg : b ≠ g) : Blk w' b cs t := (hb.block b h.lt hg).trans h
def FS (w : World) (base g : Nat) (l : List S25) (sp : Bool) : Prop := ∃ A c, Blk w g #[.slice A l.length c, .bool sp] 94 ∧ k25.R 25 w base (fun k => k ≠ g) (.slice A l.length c) l
theorem FS.below {w w' : World} {base g : Nat} {l : List S25} {sp : Bool} (h : FS w base g l sp) (hb : Below w.heap.size w w') : FS w' base g l sp := by
 obtain ⟨A, c, h1, h2⟩ := h
 exact ⟨A, c, h1.below hb, Kd.R_below h2 hb⟩
theorem FS.set {w : World} {base g : Nat} {l : List S25} {sp : Bool} (h : FS w base g l sp) (b : Bool) : FS (w.setCell ⟨g, 1, none⟩ (.bool b)) base g l b := by
 obtain ⟨A, c, h1, h2⟩ := h
 exact ⟨A, c, blk_put h1 1 _ rfl, Kd.R_far h2 (fun _ hk => hk) _⟩
theorem FS.lt {w : World} {base g : Nat} {l : List S25} {sp : Bool} (h : FS w base g l sp) : g < w.heap.size := by
 obtain ⟨A, c, h1, _⟩ := h
 exact h1.lt
theorem Blk.c2 {W : World} {b : Nat} {a0 a1 : Value} {t : TypeId} (h : Blk W b #[a0, a1] t) : W.cell? ⟨b, 0, none⟩ = some a0 ∧ W.cell? ⟨b, 1, none⟩ = some a1 := ⟨(blk_cell h 0).trans rfl, (blk_cell h 1).trans rfl⟩
def atF (l : List S25) (i : Int) : Option S25 := if 0 ≤ i ∧ i < l.length then (if (rd_T25 l i).f0 = 1 then none else some (rd_T25 l i)) else none
theorem atF_some {l : List S25} {i : Int} {x : S25} (h : atF l i = some x) : 0 ≤ i ∧ i < l.length ∧ (rd_T25 l i).f0 ≠ 1 ∧ rd_T25 l i = x := by
 unfold atF at h
 split at h
 ·rename_i h1
  split at h
  ·cases h
  ·rename_i h2
   exact ⟨h1.1, h1.2, h2, Option.some.inj h⟩
 ·cases h
theorem atF_none {l : List S25} {i : Int} (h : atF l i = none) : i < 0 ∨ (0 ≤ i ∧ (l.length : Int) ≤ i) ∨ (0 ≤ i ∧ i < l.length ∧ (rd_T25 l i).f0 = 1) := by
 unfold atF at h
 split at h
 ·rename_i h1
  split at h
  ·rename_i h2
   exact .inr (.inr ⟨h1.1, h1.2, h2⟩)
  ·cases h
 ·rename_i h1
  omega
theorem atF_mem {l : List S25} {i : Int} {x : S25} (h : atF l i = some x) : x ∈ l := by
 obtain ⟨h0, h1, _, rfl⟩ := atF_some h
 exact rd_mem h0 h1
end Go.Proofs.Ytdilbnggedidnaa.PVal
namespace Go.Proofs.Ytdilbnggedidnaa.PVal
open Go.RowKit Go.Shelf Go.Proofs.YtdilbnggedidnaaW.PrintWords Go.Proofs.YtdilbnggedidnaaW.PrintLast
set_option linter.unusedVariables false
set_option linter.unusedSimpArgs false
theorem results95 (tmps : Array Value) (w : World) (g : Nat) (cs : Array Value) (b : Bool) (hcs : cs.size = 4) (hp : tmps.getD 4 undef = .pointer (some ⟨g, 0, none⟩)) (hg : Blk w g cs 25) (hb : tmps.getD 5 undef = .bool b) :
  (results Try.f95 tmps).run Try.prog w = .ok (.tuple #[.agg cs, .bool b]) w := by
 have h1 : tmps[4]?.getD undef = .pointer (some ⟨g, 0, none⟩) := by simpa using hp
 have h2 : tmps[5]?.getD undef = .bool b := by simpa using hb
 have hi : (Try.prog.info? 25).map (·.size) = some cs.size := by rw [hcs]; kernel_rfl
 have hr := run_loadVar_row (P := Try.prog) w g 25 25 cs (0, 0) _ hg Try.underlying25 rfl hi
 simp [results, Try.f95, h1, h2, asAddr, hr]
set_option maxRecDepth 100000 in
set_option maxHeartbeats 2000000 in
theorem at95_none {w : World} {base g : Nat} {l : List S25} {sp : Bool} (hf : FS w base g l sp) (i : Int) (h : atF l i = none) :
  Calls Try.prog 95 #[.pointer (some ⟨g, 0, none⟩), .int .i64 i] w fun e w' => e = .returned (.tuple #[.agg #[.int .u8 1, .int .u64 0, .string ⟨#[]⟩, .slice none 0 0], .bool false]) ∧ Below w.heap.size w w' := by
 obtain ⟨A, c, hB, hR⟩ := hf
 have HR := Aside0.mk (Kd.R_reads' hR).2.2
 have hg1 : ¬ g = w.heap.size := by have := hB.lt; omega
 have HB := Aside0.mk hB
 obtain ⟨p0, p1⟩ := hB.c2
 have o0 := cell_al p0
 clear hR hB p0 p1
 rcases atF_none h with h1 | ⟨h0, h1⟩ | ⟨h0, h1, h2⟩
 ·clear h
  go_enter Try.func95, Try.ntmps95
  go_wp2_with fail
  have bR := Blk.new w #[.int .u8 0, .int .u64 0, .string ⟨#[]⟩, .slice none 0 0] 25
  have hB0 := below_alloc (Below.refl w.heap.size w) (.cells #[.int .u8 0, .int .u64 0, .string ⟨#[]⟩, .slice none 0 0] 25)
  refine (null26_any _).mono ?_
  rintro e w2 ⟨rfl, hb2⟩
  have bR2 := bR.below hb2
  have HB2 := Aside0.mk (below_step hB0 hb2)
  clear bR hB0 hb2
  obtain ⟨r0, r1, r2, r3⟩ := bR2.c4
  have fz := bR2.fz
  go_wp2_with fail
  refine bodyPost_ret (results95 _ _ w.heap.size #[.int .u8 1, .int .u64 0, .string ⟨#[]⟩, .slice none 0 0] false rfl rfl ?_ rfl) rfl ⟨rfl, ?_⟩
  ·refine blk_put (cs := #[.int .u8 1, .int .u64 0, .string ⟨#[]⟩, .slice none 0 0]) ?_ 3 _ rfl
   refine blk_put (cs := #[.int .u8 1, .int .u64 0, .string ⟨#[]⟩, .slice none 0 0]) ?_ 2 _ rfl
   refine blk_put (cs := #[.int .u8 1, .int .u64 0, .string ⟨#[]⟩, .slice none 0 0]) ?_ 1 _ rfl
   refine blk_put (cs := #[.int .u8 0, .int .u64 0, .string ⟨#[]⟩, .slice none 0 0]) ?_ 0 _ rfl
   exact bR2
  ·exact below_set (below_set (below_set (below_set HB2.out (Nat.le_refl _)) (Nat.le_refl _)) (Nat.le_refl _)) (Nat.le_refl _)
 ·clear h
  go_enter Try.func95, Try.ntmps95
  go_wp2_with fail
  have bR := Blk.new w #[.int .u8 0, .int .u64 0, .string ⟨#[]⟩, .slice none 0 0] 25
  have hB0 := below_alloc (Below.refl w.heap.size w) (.cells #[.int .u8 0, .int .u64 0, .string ⟨#[]⟩, .slice none 0 0] 25)
  refine (null26_any _).mono ?_
  rintro e w2 ⟨rfl, hb2⟩
  have bR2 := bR.below hb2
  have HB2 := Aside0.mk (below_step hB0 hb2)
  clear bR hB0 hb2
  obtain ⟨r0, r1, r2, r3⟩ := bR2.c4
  have fz := bR2.fz
  go_wp2_with fail
  refine bodyPost_ret (results95 _ _ w.heap.size #[.int .u8 1, .int .u64 0, .string ⟨#[]⟩, .slice none 0 0] false rfl rfl ?_ rfl) rfl ⟨rfl, ?_⟩
  ·refine blk_put (cs := #[.int .u8 1, .int .u64 0, .string ⟨#[]⟩, .slice none 0 0]) ?_ 3 _ rfl
   refine blk_put (cs := #[.int .u8 1, .int .u64 0, .string ⟨#[]⟩, .slice none 0 0]) ?_ 2 _ rfl
   refine blk_put (cs := #[.int .u8 1, .int .u64 0, .string ⟨#[]⟩, .slice none 0 0]) ?_ 1 _ rfl
   refine blk_put (cs := #[.int .u8 0, .int .u64 0, .string ⟨#[]⟩, .slice none 0 0]) ?_ 0 _ rfl
   exact bR2
  ·exact below_set (below_set (below_set (below_set HB2.out (Nat.le_refl _)) (Nat.le_refl _)) (Nat.le_refl _)) (Nat.le_refl _)
 ·obtain ⟨ad, Ax, cx, eA, hx0, hx1, hx2, hx3, hlx, hCx⟩ := at_T25 HR.out i h0 h1
  cases eA
  have hk : ((rd_T25 l i).f0 == 1) = true := by rw [h2]; rfl
  have q0 := cell_al hx0
  clear h h2 hx0 hx1 hx2 hx3 hCx hlx
  go_enter Try.func95, Try.ntmps95
  go_wp2_with fail
  have bR := Blk.new w #[.int .u8 0, .int .u64 0, .string ⟨#[]⟩, .slice none 0 0] 25
  have hB0 := below_alloc (Below.refl w.heap.size w) (.cells #[.int .u8 0, .int .u64 0, .string ⟨#[]⟩, .slice none 0 0] 25)
  refine (null26_any _).mono ?_
  rintro e w2 ⟨rfl, hb2⟩
  have bR2 := bR.below hb2
  have HB2 := Aside0.mk (below_step hB0 hb2)
  clear bR hB0 hb2
  obtain ⟨r0, r1, r2, r3⟩ := bR2.c4
  have fz := bR2.fz
  go_wp2_with fail
  refine bodyPost_ret (results95 _ _ w.heap.size #[.int .u8 1, .int .u64 0, .string ⟨#[]⟩, .slice none 0 0] false rfl rfl ?_ rfl) rfl ⟨rfl, ?_⟩
  ·refine blk_put (cs := #[.int .u8 1, .int .u64 0, .string ⟨#[]⟩, .slice none 0 0]) ?_ 3 _ rfl
   refine blk_put (cs := #[.int .u8 1, .int .u64 0, .string ⟨#[]⟩, .slice none 0 0]) ?_ 2 _ rfl
   refine blk_put (cs := #[.int .u8 1, .int .u64 0, .string ⟨#[]⟩, .slice none 0 0]) ?_ 1 _ rfl
   refine blk_put (cs := #[.int .u8 0, .int .u64 0, .string ⟨#[]⟩, .slice none 0 0]) ?_ 0 _ rfl
   exact bR2
  ·exact below_set (below_set (below_set (below_set HB2.out (Nat.le_refl _)) (Nat.le_refl _)) (Nat.le_refl _)) (Nat.le_refl _)
set_option maxRecDepth 100000 in
set_option maxHeartbeats 2000000 in
theorem at95_some {w : World} {base g : Nat} {l : List S25} {sp : Bool} (hf : FS w base g l sp) (i : Int) (x : S25) (h : atF l i = some x) :
  Calls Try.prog 95 #[.pointer (some ⟨g, 0, none⟩), .int .i64 i] w fun e w' => ∃ Ax cx, e = .returned (.tuple #[.agg #[.int .u8 x.f0, .int .u64 x.f1, .string x.f2, .slice Ax x.f3.length cx], .bool true]) ∧ Below w.heap.size w w' ∧ x.f3.length ≤ cx ∧ k25.C w' Ax x.f3.length x.f3 := by
 obtain ⟨A, c, hB, hR⟩ := hf
 have HR := Aside0.mk (Kd.R_reads' hR).2.2
 have hg1 : ¬ g = w.heap.size := by have := hB.lt; omega
 have HB := Aside0.mk hB
 obtain ⟨p0, p1⟩ := hB.c2
 have o0 := cell_al p0
 clear hR hB p0 p1
 obtain ⟨h0, h1, h2, hx⟩ := atF_some h
 obtain ⟨ad, Ax, cx, eA, hx0, hx1, hx2, hx3, hlx, hCx⟩ := at_T25 HR.out i h0 h1
 cases eA
 rw [hx] at h2 hx0 hx1 hx2 hx3 hlx hCx
 have hk : (x.f0 == 1) = false := by simpa using h2
 have HC := Aside0.mk hCx
 have hq0 := cell_al hx0
 have hq1 := cell_al hx1
 have hq2 := cell_al hx2
 have hq3 := cell_al hx3
 clear h h2 hx hCx hx0 hx1 hx2 hx3
 go_enter Try.func95, Try.ntmps95
 go_wp2_with fail
 have hB0 := below_alloc (Below.refl w.heap.size w) (.cells #[.int .u8 x.f0, .int .u64 x.f1, .string x.f2, .slice Ax x.f3.length cx] 25)
 exact bodyPost_ret (results95 _ _ w.heap.size #[.int .u8 x.f0, .int .u64 x.f1, .string x.f2, .slice Ax x.f3.length cx] true rfl rfl (Blk.new w #[.int .u8 x.f0, .int .u64 x.f1, .string x.f2, .slice Ax x.f3.length cx] 25) rfl) rfl ⟨Ax, cx, rfl, hB0, hlx, Kd.C_below HC.out hB0⟩
end Go.Proofs.Ytdilbnggedidnaa.PVal
namespace Go.Proofs.Ytdilbnggedidnaa.PVal
open Go.RowKit Go.Shelf Go.Proofs.YtdilbnggedidnaaW.PrintWords Go.Proofs.YtdilbnggedidnaaW.PrintLast
set_option linter.unusedVariables false
set_option linter.unusedSimpArgs false
set_option maxRecDepth 100000 in
set_option maxHeartbeats 2000000 in
theorem spoil50_any {w : World} {base g : Nat} {l : List S25} {sp : Bool} (hf : FS w base g l sp) :
  Calls Try.prog 50 #[.pointer (some ⟨g, 0, none⟩)] w fun e w' => e = .returned (.tuple #[]) ∧ FS w' base g l true ∧ Bg g w w' := by
 have HF := Aside0.mk hf
 obtain ⟨A, c, hB, hR⟩ := hf
 obtain ⟨p0, p1⟩ := hB.c2
 have fz := hB.fz
 clear hB hR
 go_enter Try.func50, Try.ntmps50
 go_wp2_with fail
 go_end0
 exact ⟨rfl, HF.out.set true, (Bg.refl g w).set 1 _⟩
def doneN (l : List S25) (sp : Bool) (n : Int) : Int := if sp = true ∨ n < l.length then 6 else 0
set_option maxRecDepth 100000 in
set_option maxHeartbeats 2000000 in
theorem done43_any {w : World} {base g : Nat} {l : List S25} {sp : Bool} (hf : FS w base g l sp) (n : Int) :
  Calls Try.prog 43 #[.pointer (some ⟨g, 0, none⟩), .int .i64 n] w fun e w' => e = .returned (.int .i64 (doneN l sp n)) ∧ w = w' := by
 obtain ⟨A, c, hB, hR⟩ := hf
 obtain ⟨p0, p1⟩ := hB.c2
 clear hB hR
 cases sp with
 | true =>
  have HE : Aside0 (doneN l true n = 6) := ⟨if_pos (.inl rfl)⟩
  go_enter Try.func43, Try.ntmps43
  go_wp2_with fail
  go_ret
  exact ⟨by rw [HE.out]; rfl, rfl⟩
 | false =>
  by_cases h : n < (l.length : Int)
  ·have HE : Aside0 (doneN l false n = 6) := ⟨if_pos (.inr h)⟩
   go_enter Try.func43, Try.ntmps43
   go_wp2_with fail
   go_ret
   exact ⟨by rw [HE.out]; rfl, rfl⟩
  ·have HE : Aside0 (doneN l false n = 0) := ⟨if_neg (by simp; omega)⟩
   go_enter Try.func43, Try.ntmps43
   go_wp2_with fail
   go_ret
   exact ⟨by rw [HE.out]; rfl, rfl⟩
def calledB (x : S25) (code : Int) (name : ByteArray) : Bool := ((x.f0 == 6) && (x.f1 == code)) || ((x.f0 == 21) && (x.f2.toList == name.toList))
set_option maxRecDepth 100000 in
set_option maxHeartbeats 2000000 in
theorem called74_any (x : S25) (code : Int) (name : ByteArray) (A : Option Addr) (c : Nat) (w : World) :
  Calls Try.prog 74 #[.agg #[.int .u8 x.f0, .int .u64 x.f1, .string x.f2, .slice A x.f3.length c], .int .u64 code, .string name] w fun e w' => e = .returned (.bool (calledB x code name)) ∧ Below w.heap.size w w' := by
 have hdef : calledB x code name = (((x.f0 == 6) && (x.f1 == code)) || ((x.f0 == 21) && (x.f2.toList == name.toList))) := rfl
 have HD := Aside0.mk hdef
 clear hdef
 by_cases h6 : x.f0 = 6
 ·have k6 : (x.f0 == 6) = true := by simp [h6]
  have k21 : (x.f0 == 21) = false := by simp [h6]
  clear h6
  cases hc : (x.f1 == code) with
  | true =>
   have HE : Aside0 (calledB x code name = true) := ⟨by rw [HD.out, k6, hc]; rfl⟩
   go_enter Try.func74, Try.ntmps74
   go_wp2_with fail
   go_ret
   exact ⟨by rw [HE.out]; rfl, below_alloc (Below.refl _ _) _⟩
  | false =>
   have HE : Aside0 (calledB x code name = false) := ⟨by rw [HD.out, k6, hc, k21]; rfl⟩
   go_enter Try.func74, Try.ntmps74
   go_wp2_with fail
   go_ret
   exact ⟨by rw [HE.out]; rfl, below_alloc (Below.refl _ _) _⟩
 ·have k6 : (x.f0 == 6) = false := by simp [h6]
  clear h6
  cases k21 : (x.f0 == 21) with
  | true =>
   have HE : Aside0 (calledB x code name = (x.f2.toList == name.toList)) := ⟨by rw [HD.out, k6, k21]; rfl⟩
   go_enter Try.func74, Try.ntmps74
   go_wp2_with fail
   go_ret
   exact ⟨by rw [HE.out]; rfl, below_alloc (Below.refl _ _) _⟩
  | false =>
   have HE : Aside0 (calledB x code name = false) := ⟨by rw [HD.out, k6, k21]; rfl⟩
   go_enter Try.func74, Try.ntmps74
   go_wp2_with fail
   go_ret
   exact ⟨by rw [HE.out]; rfl, below_alloc (Below.refl _ _) _⟩
set_option maxRecDepth 100000 in
set_option maxHeartbeats 2000000 in
theorem num97_any (x : S25) (A : Option Addr) (c : Nat) (w : World) : Calls Try.prog 97 #[.agg #[.int .u8 x.f0, .int .u64 x.f1, .string x.f2, .slice A x.f3.length c]] w fun e w' => e = .returned (.int .u64 x.f1) ∧ Below w.heap.size w w' := by
 go_enter Try.func97, Try.ntmps97
 go_wp2_with fail
 go_ret
 exact ⟨rfl, below_alloc (Below.refl _ _) _⟩
set_option maxRecDepth 100000 in
set_option maxHeartbeats 2000000 in
theorem txt102_any (x : S25) (A : Option Addr) (c : Nat) (w : World) : Calls Try.prog 102 #[.agg #[.int .u8 x.f0, .int .u64 x.f1, .string x.f2, .slice A x.f3.length c]] w fun e w' => e = .returned (.string x.f2) ∧ Below w.heap.size w w' := by
 go_enter Try.func102, Try.ntmps102
 go_wp2_with fail
 go_ret
 exact ⟨rfl, below_alloc (Below.refl _ _) _⟩
set_option maxRecDepth 100000 in
set_option maxHeartbeats 2000000 in
theorem all103_any (x : S25) (A : Option Addr) (c : Nat) (w : World) : Calls Try.prog 103 #[.agg #[.int .u8 x.f0, .int .u64 x.f1, .string x.f2, .slice A x.f3.length c]] w fun e w' => e = .returned (.bool true) ∧ Below w.heap.size w w' := by
 go_enter Try.func103, Try.ntmps103
 go_wp2_with fail
 go_ret
 exact ⟨rfl, below_alloc (Below.refl _ _) _⟩
set_option maxRecDepth 100000 in
set_option maxHeartbeats 2000000 in
theorem of68_any (B : Option Addr) (m d : Nat) (w : World) : Calls Try.prog 68 #[.slice B m d] w fun e w' => e = .returned (.func (.func 98) #[] #[.pointer (some ⟨w.heap.size, 0, none⟩)]) ∧ w' = w.alloc (.cells #[.slice B m d] 63) := by
 go_enter Try.func68, Try.ntmps68
 go_wp2_with fail
 go_ret
 exact ⟨rfl, rfl⟩
def idxI (v : Int) : List Int → Int → Int
 | [], _ => -1
 | a :: l, i => if v == a then i else idxI v l (i + 1)
theorem idxI_any (v : Int) (l : List Int) (i : Int) (h : 0 ≤ i) : decide (0 ≤ idxI v l i) = l.any (fun a => v == a) := by
 induction l generalizing i with
 | nil => simp [idxI]
 | cons x l ih =>
  have := ih (i + 1) (by omega)
  rw [Bool.eq_iff_iff, decide_eq_true_eq] at this ⊢
  simp only [idxI, List.any_cons, Bool.or_eq_true]
  by_cases hx : (v == x) = true
  ·rw [if_pos hx]; simp [h, hx]
  ·rw [if_neg hx, this]; simp [hx]
theorem drop_rdK {xs : List Int} {i : Int} (h0 : 0 ≤ i) (h1 : i < xs.length) : xs.drop i.toNat = rd xs i :: xs.drop (i + 1).toNat := by
 have h : i.toNat < xs.length := by omega
 rw [List.drop_eq_getElem_cons h, show (i + 1).toNat = i.toNat + 1 by omega]
 unfold rd
 rw [List.getD_eq_getElem?_getD, List.getElem?_eq_getElem h]
 rfl
set_option maxRecDepth 100000 in
set_option maxHeartbeats 2000000 in
theorem index126_any (v : Int) (l : List Int) (A : Option Addr) (c : Nat) (w : World) (ha : Kd.C (Kd.int .u8) w A l.length l) (hc : l.length ≤ c) :
  Calls Try.prog 126 #[.slice A l.length c, .int .u8 v] w fun e w' => e = .returned (.int .i64 (idxI v l 0)) ∧ w = w' := by
 have hm : l.length ≤ 9223372036854775807 := Kd.C_max ha
 have HA := Aside0.mk ha
 clear ha
 go_enter Try.func126, Try.ntmps126
 go_wp2_with fail
 go_loopg [8] l.length (fun gk v8 wr => ∃ i : Int, v8 = .int .i64 i ∧ Aside0 (0 ≤ i ∧ i ≤ l.length ∧ gk = l.length - i.toNat ∧ idxI v (l.drop i.toNat) i = idxI v l 0) ∧ w = wr)
 case atStart => exact ⟨0, rfl, ⟨by omega, by omega, by simp, by simp⟩, rfl⟩
 case round =>
  obtain ⟨i, rfl, HI, rfl⟩ := hrel
  obtain ⟨hi0, hi1, hgk, hv⟩ := HI.out
  have HG := Aside0.mk hgk
  have HV := Aside0.mk hv
  clear HI hgk hv
  by_cases hlt : i < l.length
  ·obtain ⟨ad, e, hx⟩ := Kd.at_int HA.out i hi0 hlt
   cases e
   have hdr : idxI v (l.drop i.toNat) i = if v == rd l i then i else idxI v (l.drop (i + 1).toNat) (i + 1) := by rw [drop_rdK hi0 hlt, idxI]
   rw [HV.out] at hdr
   have HD := Aside0.mk hdr
   clear hdr
   cases hq : (v == rd l i) with
   | true =>
    have HQ : Aside0 (idxI v l 0 = i) := ⟨by rw [HD.out, hq]; rfl⟩
    go_wp2_with fail
    go_ret
    exact ⟨by rw [HQ.out]; rfl, rfl⟩
   | false =>
    have HQ : Aside0 (idxI v (l.drop (i + 1).toNat) (i + 1) = idxI v l 0) := ⟨by rw [HD.out, hq]; rfl⟩
    go_wp2_with fail
    go_roundg (l.length - (i + 1).toNat)
    case measure => rw [HG.out]; omega
    case rel => exact ⟨i + 1, by go_num, ⟨by omega, by omega, rfl, HQ.out⟩, rfl⟩
  ·have he : idxI v l 0 = -1 := by rw [← HV.out, List.drop_of_length_le (by omega), idxI]
   have HE := Aside0.mk he
   clear he
   go_wp2_with fail
   go_ret
   exact ⟨by rw [HE.out]; rfl, rfl⟩
set_option maxRecDepth 100000 in
set_option maxHeartbeats 2000000 in
theorem contains99_any (v : Int) (l : List Int) (A : Option Addr) (c : Nat) (w : World) (ha : Kd.C (Kd.int .u8) w A l.length l) (hc : l.length ≤ c) :
  Calls Try.prog 99 #[.slice A l.length c, .int .u8 v] w fun e w' => e = .returned (.bool (l.any fun a => v == a)) ∧ w = w' := by
 have HI := Aside0.mk (index126_any v l A c w ha hc)
 have HE := Aside0.mk (idxI_any v l 0 (Int.le_refl _))
 clear ha
 go_enter Try.func99, Try.ntmps99
 go_wp2_with fail
 refine HI.out.mono ?_
 rintro e w2 ⟨rfl, rfl⟩
 go_wp2_with fail
 go_ret
 exact ⟨by rw [← HE.out]; rfl, rfl⟩
def Fit (F : Nat) (cap : List Value) (P : S25 → Bool) (w : World) : Prop := ∀ (x : S25) (A : Option Addr) (c : Nat) (w' : World), Below w.heap.size w w' → k25.C w' A x.f3.length x.f3 → x.f3.length ≤ c →
 Calls Try.prog F (Value.agg #[.int .u8 x.f0, .int .u64 x.f1, .string x.f2, .slice A x.f3.length c] :: cap).toArray w' fun e w2 => e = .returned (.bool (P x)) ∧ Below w'.heap.size w' w2
theorem Fit.later {F : Nat} {cap : List Value} {P : S25 → Bool} {w w' : World} (h : Fit F cap P w) (hb : Below w.heap.size w w') : Fit F cap P w' := fun x A c w2 h2 => h x A c w2 (below_step hb h2)
def kindP (ks : List Int) (x : S25) : Bool := ks.any fun a => x.f0 == a
set_option maxRecDepth 100000 in
set_option maxHeartbeats 2000000 in
theorem fit98 (ks : List Int) (B : Option Addr) (d : Nat) (b : Nat) (w : World) (hB : Blk w b #[.slice B ks.length d] 63) (hk : Kd.C (Kd.int .u8) w B ks.length ks) (hd : ks.length ≤ d) : Fit 98 [.pointer (some ⟨b, 0, none⟩)] (kindP ks) w := by
 intro x A c w' hb hC hc
 have bB := hB.below hb
 have q0 := cell_al bB.c1
 have hbn : ¬ b = w'.heap.size := by have := bB.lt; omega
 have HK := Aside0.mk (Kd.C_below hk hb)
 clear hB hk hb hC bB
 show Calls Try.prog 98 #[.agg #[.int .u8 x.f0, .int .u64 x.f1, .string x.f2, .slice A x.f3.length c], .pointer (some ⟨b, 0, none⟩)] w' _
 go_enter Try.func98, Try.ntmps98
 go_wp2_with fail
 refine (contains99_any x.f0 ks B d _ (Kd.C_below HK.out (below_alloc (Below.refl _ _) _)) hd).mono ?_
 rintro e w2 ⟨rfl, rfl⟩
 go_wp2_with fail
 go_ret
 exact ⟨rfl, below_alloc (Below.refl _ _) _⟩
end Go.Proofs.Ytdilbnggedidnaa.PVal
namespace Go.Proofs.Ytdilbnggedidnaa.PVal
open Go.RowKit Go.Shelf Go.Proofs.YtdilbnggedidnaaW.PrintWords Go.Proofs.YtdilbnggedidnaaW.PrintLast
set_option linter.unusedVariables false
set_option linter.unusedSimpArgs false
def spoilP (l : List S25) (i : Int) (must : Bool) (P : S25 → Bool) : Bool := match atF l i with
 | none => must
 | some x => !P x
def tellP {α : Type} (l : List S25) (i : Int) (P : S25 → Bool) (T : S25 → α) (none_ : α) : α := match atF l i with
 | none => none_
 | some x => if P x then T x else none_
theorem spoil_none {l : List S25} {i : Int} (h : atF l i = none) (m : Bool) (P : S25 → Bool) : spoilP l i m P = m := by unfold spoilP; rw [h]
theorem spoil_some {l : List S25} {i : Int} {x : S25} (h : atF l i = some x) (m : Bool) (P : S25 → Bool) : spoilP l i m P = !P x := by unfold spoilP; rw [h]
theorem tell_none {α : Type} {l : List S25} {i : Int} (h : atF l i = none) (P : S25 → Bool) (T : S25 → α) (d : α) : tellP l i P T d = d := by unfold tellP; rw [h]
theorem tell_some {α : Type} {l : List S25} {i : Int} {x : S25} (h : atF l i = some x) (P : S25 → Bool) (T : S25 → α) (d : α) : tellP l i P T d = if P x then T x else d := by unfold tellP; rw [h]
set_option maxRecDepth 100000 in
set_option maxHeartbeats 2000000 in
theorem tell96_any {w : World} {base g : Nat} {l : List S25} {sp : Bool} (hf : FS w base g l sp) (i : Int) (must : Bool) (none_ : Int) (b : Nat) (P : S25 → Bool) (hF : Fit 98 [.pointer (some ⟨b, 0, none⟩)] P w) :
  Calls Try.prog 96 #[.pointer (some ⟨g, 0, none⟩), .int .i64 i, .bool must, .int .u64 (none_), .func (.func 98) #[] #[.pointer (some ⟨b, 0, none⟩)], .func (.func 97) #[] #[]] w fun e w' => e = .returned (.int .u64 (tellP l i P (fun x => x.f1) none_)) ∧ FS w' base g l (sp || spoilP l i must P) ∧ Bg g w w' := by
 have HF := Aside0.mk hF
 have HFS0 := Aside0.mk hf
 cases h : atF l i with
 | none =>
  have HA := Aside0.mk (at95_none hf i h)
  have HT := Aside0.mk (tell_none h P (fun x => x.f1) none_)
  cases must with
  | false =>
   have HS := Aside0.mk (spoil_none h false P)
   clear hf hF h
   go_enter Try.func96, Try.ntmps96
   go_wp2_with fail
   refine HA.out.mono ?_
   rintro e w2 ⟨rfl, hb⟩
   have HB := Aside0.mk (below_alloc hb (.cells #[.int .u8 1, .int .u64 0, .string ⟨#[]⟩, .slice none 0 0] 25))
   clear hb
   go_wp2_with fail
   go_ret
   exact ⟨by rw [HT.out]; rfl, by rw [HS.out, Bool.or_false]; exact HFS0.out.below HB.out, Bg.of HB.out⟩
  | true =>
   have HS := Aside0.mk (spoil_none h true P)
   clear hf hF h
   go_enter Try.func96, Try.ntmps96
   go_wp2_with fail
   refine HA.out.mono ?_
   rintro e w2 ⟨rfl, hb⟩
   have HB := Aside0.mk (below_alloc hb (.cells #[.int .u8 1, .int .u64 0, .string ⟨#[]⟩, .slice none 0 0] 25))
   have HFS := Aside0.mk (HFS0.out.below HB.out)
   clear hb
   go_wp2_with fail
   refine (spoil50_any HFS.out).mono ?_
   rintro e w4 ⟨rfl, hfs, hbg⟩
   have HFT := Aside0.mk hfs
   have HBT := Aside0.mk ((Bg.of HB.out).trans hbg)
   clear hfs hbg
   go_wp2_with fail
   go_ret
   exact ⟨by rw [HT.out]; rfl, by rw [HS.out]; cases sp <;> exact HFT.out, HBT.out⟩
 | some x =>
  have HA := Aside0.mk (at95_some hf i x h)
  have HT0 := Aside0.mk (tell_some h P (fun x => x.f1) none_)
  have HS0 := Aside0.mk (spoil_some h must P)
  clear hf hF h
  go_enter Try.func96, Try.ntmps96
  go_wp2_with fail
  refine HA.out.mono ?_
  rintro e w2 ⟨A, c, rfl, hb, hl, hC⟩
  have bX := Blk.new w2 #[.int .u8 x.f0, .int .u64 x.f1, .string x.f2, .slice A x.f3.length c] 25
  have hal := below_alloc (Below.refl w2.heap.size w2) (.cells #[.int .u8 x.f0, .int .u64 x.f1, .string x.f2, .slice A x.f3.length c] 25)
  have HB1 := Aside0.mk (below_step hb hal)
  have HC := Aside0.mk (Kd.C_below hC hal)
  clear hb hC hal
  obtain ⟨p0, p1, p2, p3⟩ := bX.c4
  go_wp2_with fail
  refine (HF.out x A c _ HB1.out HC.out hl).mono ?_
  rintro e w3 ⟨rfl, hb3⟩
  have bX3 := bX.below hb3
  have HB := Aside0.mk (below_step HB1.out hb3)
  have HC3 := Aside0.mk (Kd.C_below HC.out hb3)
  have HFS := Aside0.mk (HFS0.out.below HB.out)
  clear p0 p1 p2 p3 bX hb3
  cases hP : P x with
  | true =>
   have HT : Aside0 (tellP l i P (fun x => x.f1) none_ = x.f1) := ⟨by rw [HT0.out, hP]; rfl⟩
   have HS : Aside0 (spoilP l i must P = false) := ⟨by rw [HS0.out, hP]; rfl⟩
   clear hP
   obtain ⟨p0, p1, p2, p3⟩ := bX3.c4
   go_wp2_with fail
   refine (num97_any x A c _).mono ?_
   rintro e w4 ⟨rfl, hb4⟩
   have HB4 := Aside0.mk (below_step HB.out hb4)
   clear p0 p1 p2 p3 bX3 hb4
   go_wp2_with fail
   go_ret
   exact ⟨by rw [HT.out]; rfl, by rw [HS.out, Bool.or_false]; exact HFS0.out.below HB4.out, Bg.of HB4.out⟩
  | false =>
   have HT : Aside0 (tellP l i P (fun x => x.f1) none_ = none_) := ⟨by rw [HT0.out, hP]; rfl⟩
   have HS : Aside0 (spoilP l i must P = true) := ⟨by rw [HS0.out, hP]; rfl⟩
   clear hP bX3
   go_wp2_with fail
   refine (spoil50_any HFS.out).mono ?_
   rintro e w4 ⟨rfl, hfs, hbg⟩
   have HFT := Aside0.mk hfs
   have HBT := Aside0.mk ((Bg.of HB.out).trans hbg)
   clear hfs hbg
   go_wp2_with fail
   go_ret
   exact ⟨by rw [HT.out]; rfl, by rw [HS.out]; cases sp <;> exact HFT.out, HBT.out⟩
set_option maxRecDepth 100000 in
set_option maxHeartbeats 2000000 in
theorem tell101_any {w : World} {base g : Nat} {l : List S25} {sp : Bool} (hf : FS w base g l sp) (i : Int) (must : Bool) (none_ : ByteArray) (b : Nat) (P : S25 → Bool) (hF : Fit 98 [.pointer (some ⟨b, 0, none⟩)] P w) :
  Calls Try.prog 101 #[.pointer (some ⟨g, 0, none⟩), .int .i64 i, .bool must, .string (none_), .func (.func 98) #[] #[.pointer (some ⟨b, 0, none⟩)], .func (.func 102) #[] #[]] w fun e w' => e = .returned (.string (tellP l i P (fun x => x.f2) none_)) ∧ FS w' base g l (sp || spoilP l i must P) ∧ Bg g w w' := by
 have HF := Aside0.mk hF
 have HFS0 := Aside0.mk hf
 cases h : atF l i with
 | none =>
  have HA := Aside0.mk (at95_none hf i h)
  have HT := Aside0.mk (tell_none h P (fun x => x.f2) none_)
  cases must with
  | false =>
   have HS := Aside0.mk (spoil_none h false P)
   clear hf hF h
   go_enter Try.func101, Try.ntmps101
   go_wp2_with fail
   refine HA.out.mono ?_
   rintro e w2 ⟨rfl, hb⟩
   have HB := Aside0.mk (below_alloc hb (.cells #[.int .u8 1, .int .u64 0, .string ⟨#[]⟩, .slice none 0 0] 25))
   clear hb
   go_wp2_with fail
   go_ret
   exact ⟨by rw [HT.out]; rfl, by rw [HS.out, Bool.or_false]; exact HFS0.out.below HB.out, Bg.of HB.out⟩
  | true =>
   have HS := Aside0.mk (spoil_none h true P)
   clear hf hF h
   go_enter Try.func101, Try.ntmps101
   go_wp2_with fail
   refine HA.out.mono ?_
   rintro e w2 ⟨rfl, hb⟩
   have HB := Aside0.mk (below_alloc hb (.cells #[.int .u8 1, .int .u64 0, .string ⟨#[]⟩, .slice none 0 0] 25))
   have HFS := Aside0.mk (HFS0.out.below HB.out)
   clear hb
   go_wp2_with fail
   refine (spoil50_any HFS.out).mono ?_
   rintro e w4 ⟨rfl, hfs, hbg⟩
   have HFT := Aside0.mk hfs
   have HBT := Aside0.mk ((Bg.of HB.out).trans hbg)
   clear hfs hbg
   go_wp2_with fail
   go_ret
   exact ⟨by rw [HT.out]; rfl, by rw [HS.out]; cases sp <;> exact HFT.out, HBT.out⟩
 | some x =>
  have HA := Aside0.mk (at95_some hf i x h)
  have HT0 := Aside0.mk (tell_some h P (fun x => x.f2) none_)
  have HS0 := Aside0.mk (spoil_some h must P)
  clear hf hF h
  go_enter Try.func101, Try.ntmps101
  go_wp2_with fail
  refine HA.out.mono ?_
  rintro e w2 ⟨A, c, rfl, hb, hl, hC⟩
  have bX := Blk.new w2 #[.int .u8 x.f0, .int .u64 x.f1, .string x.f2, .slice A x.f3.length c] 25
  have hal := below_alloc (Below.refl w2.heap.size w2) (.cells #[.int .u8 x.f0, .int .u64 x.f1, .string x.f2, .slice A x.f3.length c] 25)
  have HB1 := Aside0.mk (below_step hb hal)
  have HC := Aside0.mk (Kd.C_below hC hal)
  clear hb hC hal
  obtain ⟨p0, p1, p2, p3⟩ := bX.c4
  go_wp2_with fail
  refine (HF.out x A c _ HB1.out HC.out hl).mono ?_
  rintro e w3 ⟨rfl, hb3⟩
  have bX3 := bX.below hb3
  have HB := Aside0.mk (below_step HB1.out hb3)
  have HC3 := Aside0.mk (Kd.C_below HC.out hb3)
  have HFS := Aside0.mk (HFS0.out.below HB.out)
  clear p0 p1 p2 p3 bX hb3
  cases hP : P x with
  | true =>
   have HT : Aside0 (tellP l i P (fun x => x.f2) none_ = x.f2) := ⟨by rw [HT0.out, hP]; rfl⟩
   have HS : Aside0 (spoilP l i must P = false) := ⟨by rw [HS0.out, hP]; rfl⟩
   clear hP
   obtain ⟨p0, p1, p2, p3⟩ := bX3.c4
   go_wp2_with fail
   refine (txt102_any x A c _).mono ?_
   rintro e w4 ⟨rfl, hb4⟩
   have HB4 := Aside0.mk (below_step HB.out hb4)
   clear p0 p1 p2 p3 bX3 hb4
   go_wp2_with fail
   go_ret
   exact ⟨by rw [HT.out]; rfl, by rw [HS.out, Bool.or_false]; exact HFS0.out.below HB4.out, Bg.of HB4.out⟩
  | false =>
   have HT : Aside0 (tellP l i P (fun x => x.f2) none_ = none_) := ⟨by rw [HT0.out, hP]; rfl⟩
   have HS : Aside0 (spoilP l i must P = true) := ⟨by rw [HS0.out, hP]; rfl⟩
   clear hP bX3
   go_wp2_with fail
   refine (spoil50_any HFS.out).mono ?_
   rintro e w4 ⟨rfl, hfs, hbg⟩
   have HFT := Aside0.mk hfs
   have HBT := Aside0.mk ((Bg.of HB.out).trans hbg)
   clear hfs hbg
   go_wp2_with fail
   go_ret
   exact ⟨by rw [HT.out]; rfl, by rw [HS.out]; cases sp <;> exact HFT.out, HBT.out⟩
theorem C_u8 {w : World} {b : Nat} {k : Int} (h : Blk w b #[.int .u8 k] 5) : Kd.C (Kd.int .u8) w (some ⟨b, 0, none⟩) 1 [k] := by
 refine ⟨rfl, by omega, fun _ => ⟨_, rfl, fun j p hj => ?_⟩⟩
 match j, hj with
 | 0, hj =>
  cases hj
  refine ⟨[.int .u8 k], rfl, rfl, fun i u hi => ?_⟩
  match i, hi with
  | 0, hi =>
   cases hi
   exact (blk_cell h 0).trans rfl
 | j + 1, hj => simp at hj
end Go.Proofs.Ytdilbnggedidnaa.PVal
namespace Go.Proofs.Ytdilbnggedidnaa.PVal
open Go.RowKit Go.Shelf Go.Proofs.YtdilbnggedidnaaW.PrintWords Go.Proofs.YtdilbnggedidnaaW.PrintLast
set_option linter.unusedVariables false
set_option linter.unusedSimpArgs false
set_option maxRecDepth 100000 in
set_option maxHeartbeats 2000000 in
theorem number66_any {w : World} {base g : Nat} {l : List S25} {sp : Bool} (hf : FS w base g l sp) (i k : Int) (must : Bool) (none_ : Int) :
  Calls Try.prog 66 #[.pointer (some ⟨g, 0, none⟩), .int .i64 i, .int .u8 k, .bool must, .int .u64 none_] w fun e w' => e = .returned (.int .u64 (tellP l i (kindP [k]) (fun x => x.f1) none_)) ∧ FS w' base g l (sp || spoilP l i must (kindP [k])) ∧ Bg g w w' := by
 have HF := Aside0.mk hf
 have hg := hf.lt
 clear hf
 go_enter Try.func66, Try.ntmps66
 go_wp2_with fail
 have bK := Blk.new w #[.int .u8 k] 5
 have hB0 := below_alloc (Below.refl w.heap.size w) (.cells #[.int .u8 k] 5)
 refine (of68_any _ _ _ _).mono ?_
 rintro e w2 ⟨rfl, rfl⟩
 have hal := below_alloc (Below.refl (w.alloc (.cells #[.int .u8 k] 5)).heap.size (w.alloc (.cells #[.int .u8 k] 5))) (.cells #[.slice (some ⟨w.heap.size, 0, none⟩) 1 1] 63)
 have bS := Blk.new (w.alloc (.cells #[.int .u8 k] 5)) #[.slice (some ⟨w.heap.size, 0, none⟩) 1 1] 63
 rw [World.size_alloc] at bS
 have hCK : Kd.C (Kd.int .u8) (w.alloc (.cells #[.int .u8 k] 5)) (some ⟨w.heap.size, 0, none⟩) [k].length [k] := C_u8 bK
 have HFt := Aside0.mk (fit98 [k] _ 1 _ _ bS (Kd.C_below hCK hal) (by simp))
 have HB := Aside0.mk (below_step hB0 hal)
 have HFS := Aside0.mk (HF.out.below HB.out)
 clear bK bS hCK hal hB0
 go_wp2_with fail
 refine (tell96_any HFS.out i must none_ _ (kindP [k]) HFt.out).mono ?_
 rintro e w3 ⟨rfl, hfs, hbg⟩
 have HFT := Aside0.mk hfs
 have HBT := Aside0.mk ((Bg.of HB.out).trans hbg)
 clear hfs hbg
 go_wp2_with fail
 go_ret
 exact ⟨rfl, HFT.out, HBT.out⟩
set_option maxRecDepth 100000 in
set_option maxHeartbeats 2000000 in
theorem text76_any {w : World} {base g : Nat} {l : List S25} {sp : Bool} (hf : FS w base g l sp) (i k : Int) (must : Bool) :
  Calls Try.prog 76 #[.pointer (some ⟨g, 0, none⟩), .int .i64 i, .int .u8 k, .bool must] w fun e w' => e = .returned (.string (tellP l i (kindP [k]) (fun x => x.f2) ⟨#[]⟩)) ∧ FS w' base g l (sp || spoilP l i must (kindP [k])) ∧ Bg g w w' := by
 have HF := Aside0.mk hf
 have hg := hf.lt
 clear hf
 go_enter Try.func76, Try.ntmps76
 go_wp2_with fail
 have bK := Blk.new w #[.int .u8 k] 5
 have hB0 := below_alloc (Below.refl w.heap.size w) (.cells #[.int .u8 k] 5)
 refine (of68_any _ _ _ _).mono ?_
 rintro e w2 ⟨rfl, rfl⟩
 have hal := below_alloc (Below.refl (w.alloc (.cells #[.int .u8 k] 5)).heap.size (w.alloc (.cells #[.int .u8 k] 5))) (.cells #[.slice (some ⟨w.heap.size, 0, none⟩) 1 1] 63)
 have bS := Blk.new (w.alloc (.cells #[.int .u8 k] 5)) #[.slice (some ⟨w.heap.size, 0, none⟩) 1 1] 63
 rw [World.size_alloc] at bS
 have hCK : Kd.C (Kd.int .u8) (w.alloc (.cells #[.int .u8 k] 5)) (some ⟨w.heap.size, 0, none⟩) [k].length [k] := C_u8 bK
 have HFt := Aside0.mk (fit98 [k] _ 1 _ _ bS (Kd.C_below hCK hal) (by simp))
 have HB := Aside0.mk (below_step hB0 hal)
 have HFS := Aside0.mk (HF.out.below HB.out)
 clear bK bS hCK hal hB0
 go_wp2_with fail
 refine (tell101_any HFS.out i must ⟨#[]⟩ _ (kindP [k]) HFt.out).mono ?_
 rintro e w3 ⟨rfl, hfs, hbg⟩
 have HFT := Aside0.mk hfs
 have HBT := Aside0.mk ((Bg.of HB.out).trans hbg)
 clear hfs hbg
 go_wp2_with fail
 go_ret
 exact ⟨rfl, HFT.out, HBT.out⟩
end Go.Proofs.Ytdilbnggedidnaa.PVal
namespace Go.Proofs.Ytdilbnggedidnaa.PVal
open Go.RowKit Go.Shelf Go.Proofs.YtdilbnggedidnaaW.PrintWords Go.Proofs.YtdilbnggedidnaaW.PrintLast
set_option linter.unusedVariables false
set_option linter.unusedSimpArgs false
theorem C_none (w : World) : k25.C w none 0 ([] : List S25) := ⟨rfl, by omega, fun h => absurd h (by omega)⟩
theorem ok_vb (x : S25) (h : okVb x = true) : okV x := okVb_iff.1 h
end Go.Proofs.Ytdilbnggedidnaa.PVal
namespace Go.Proofs.Ytdilbnggedidnaa.PVal
open Go.RowKit Go.Shelf Go.Proofs.YtdilbnggedidnaaW.PrintWords Go.Proofs.YtdilbnggedidnaaW.PrintLast
set_option linter.unusedVariables false
set_option linter.unusedSimpArgs false
def trimTo (l : List S25) : Nat → Nat
 | 0 => 0
 | n + 1 => if (rd_T25 l (n : Int)).f0 = 1 then trimTo l n else n + 1
def trimL (l : List S25) : List S25 := l.take (trimTo l l.length)
def putV (code : Int) (l : List S25) : S25 := ⟨25, 0, ⟨#[]⟩, [⟨6, code, ⟨#[]⟩, []⟩, ⟨22, 0, ⟨#[]⟩, trimL l⟩]⟩
theorem itemsL_take (l : List S25) (n : Nat) : itemsL (l.take n) ≤ itemsL l := by
 have h : ∀ a b : List S25, itemsL (a ++ b) = itemsL a + itemsL b := fun a b => by
  induction a with
  | nil => simp [itemsL]
  | cons x a ih => simp [itemsL, ih]; omega
 have := h (l.take n) (l.drop n)
 rw [List.take_append_drop] at this
 omega
theorem itemsL_trim (l : List S25) : itemsL (trimL l) ≤ itemsL l := itemsL_take l _
theorem C_take {w : World} {A : Option Addr} {l : List S25} (h : k25.C w A l.length l) (n : Nat) (hn : n ≤ l.length) : k25.C w A n (l.take n) := by
 obtain ⟨h1, h2, h3⟩ := h
 refine ⟨by rw [List.length_take]; omega, by omega, fun hp => ?_⟩
 obtain ⟨ad, e, hx⟩ := h3 (by omega)
 refine ⟨ad, e, fun j p hj => hx j p ?_⟩
 rw [List.getElem?_take] at hj
 split at hj
 ·exact hj
 ·cases hj
theorem many_take21 {l : List S25} (n : Nat) (hn : n ≤ l.length) (hs : itemsL l ≤ 4294967296) (A : Option Addr) (c : Nat) (w : World) (ha : k25.C w A l.length l) (hc : l.length ≤ c) :
  Calls Try.prog 21 #[.int .u8 22, .slice A n c] w fun e w' => ∃ A' c', e = .returned (.agg #[.int .u8 22, .int .u64 0, .string ⟨#[]⟩, .slice A' (l.take n).length c']) ∧ k25.R 25 w' w.heap.size (fun _ => True) (.slice A' (l.take n).length c') (l.take n) ∧ Below w.heap.size w w' := by
 have hl : (l.take n).length = n := by rw [List.length_take]; omega
 have hi : itemsL (l.take n) ≤ itemsL l := itemsL_take l n
 have h := many21_any 22 (l.take n) (by omega) A c w (by rw [hl]; exact C_take ha n hn) (by omega)
 rw [hl] at h
 refine h.mono fun e w' hh => ?_
 obtain ⟨v, he, hR, hb⟩ := hh
 obtain ⟨A', c', rfl⟩ := Kd.R_slice hR
 exact ⟨A', c', he, hR, hb⟩
set_option maxRecDepth 100000 in
set_option maxHeartbeats 2000000 in
theorem put39_any (code : Int) (l : List S25) (hs : itemsL l ≤ 4000000000) (A : Option Addr) (c : Nat) (w : World) (ha : k25.C w A l.length l) (hc : l.length ≤ c) :
  Calls Try.prog 39 #[.int .u64 code, .slice A l.length c] w fun e w' => ∃ A' c', e = .returned (.agg #[.int .u8 25, .int .u64 0, .string ⟨#[]⟩, .slice A' 2 c']) ∧ k25.R 25 w' w.heap.size (fun _ => True) (.slice A' 2 c') (putV code l).f3 ∧ Below w.heap.size w w' := by
 have HA := Aside0.mk ha
 have hll : l.length ≤ 4000000000 := by have := itemsL_length l; omega
 have hit := itemsL_trim l
 have bR0 := Blk.new w #[.int .u8 0, .int .u64 0, .string ⟨#[]⟩, .slice none 0 0] 25
 have hal := below_alloc (Below.refl w.heap.size w) (.cells #[.int .u8 0, .int .u64 0, .string ⟨#[]⟩, .slice none 0 0] 25)
 have HAL := Aside0.mk (Kd.C_below ha hal)
 have HB0 := Aside0.mk hal
 clear ha hal
 go_enter Try.func39, Try.ntmps39
 go_wp2_with fail
 obtain ⟨b, eb⟩ : ∃ b, w.heap.size = b := ⟨_, rfl⟩
 obtain ⟨w1, ew⟩ : ∃ W, w.alloc (.cells #[.int .u8 0, .int .u64 0, .string ⟨#[]⟩, .slice none 0 0] 25) = W := ⟨_, rfl⟩
 have BB := Aside0.mk eb
 rw [ew] at bR0 HAL HB0 ⊢
 rw [eb] at bR0 ⊢
 have BR := Aside0.mk bR0
 clear ew eb bR0
 go_loopg [5] l.length (fun gk v5 wr => ∃ m : Nat, v5 = .int .i64 (m : Int) ∧ Aside0 (m ≤ l.length ∧ gk = m ∧ trimTo l m = trimTo l l.length) ∧ w1 = wr)
 case atStart => exact ⟨l.length, rfl, ⟨Nat.le_refl _, rfl, rfl⟩, rfl⟩
 case round =>
  obtain ⟨m, rfl, HM, rfl⟩ := hrel
  obtain ⟨hm, hgk, hT⟩ := HM.out
  have HG := Aside0.mk hgk
  have HT := Aside0.mk hT
  clear HM hgk hT
  by_cases h0 : 0 < m
  ·obtain ⟨m, rfl⟩ : ∃ k, m = k + 1 := ⟨m - 1, by omega⟩
   obtain ⟨ad, Ax, cx, eA, hx0, hx1, hx2, hx3, hlx, hCx⟩ := at_T25 HAL.out (m : Int) (by omega) (by omega)
   cases eA
   rw [Int.toNat_natCast] at hx0
   clear hx1 hx2 hx3 hCx hlx
   have hw : ((m + 1 : Nat) : Int) - 1 = (m : Int) := by omega
   have hml : m < l.length := by omega
   have hdef : trimTo l (m + 1) = if (rd_T25 l (m : Int)).f0 = 1 then trimTo l m else m + 1 := rfl
   by_cases hk : (rd_T25 l (m : Int)).f0 = 1
   ·have hk' : ((rd_T25 l (m : Int)).f0 == 1) = true := by rw [hk]; rfl
    rw [if_pos hk, HT.out] at hdef
    have HT2 := Aside0.mk hdef.symm
    clear hk hdef
    go_wp2_with fail
    go_roundg m
    case measure => rw [HG.out]; omega
    case rel => exact ⟨m, by go_num, ⟨by omega, rfl, HT2.out⟩, rfl⟩
   ·have hk' : ((rd_T25 l (m : Int)).f0 == 1) = false := by simp [hk]
    rw [if_neg hk, HT.out] at hdef
    have HT2 := Aside0.mk hdef.symm
    clear hk hdef
    go_wp2_with fail
    have hn : m + 1 ≤ l.length := hm
    have hz1 : (0 : Int) ≤ (m : Int) + 1 := by omega
    have hz2 : (m : Int) + 1 ≤ (c : Int) := by omega
    have HTN := HT2
    clear hx0 hw hml hk' h0 HG HT HT2
    have bR := BR.out
    clear BR
    refine start_ (n := 8) (S := fun w' => Blk w' b #[.int .u8 0, .int .u64 0, .string ⟨#[]⟩, .slice none 0 0] 25) (ds := [7]) #[false, false, false, false, false, false, false, false] (by kernel_rfl) rfl rfl bR (fun hS => ?_)
    replace HAL := Aside0.mk (Kd.C_below HAL.out (below_drew (Below.refl _ _)))
    replace HB0 := Aside0.mk (below_drew HB0.out)
    generalize w1.drew = wd1 at HAL HB0 hS ⊢
    clear bR
    refine pure_ (i := 0) (N := some 21) (v := ?_) (a' := ?_) #[true, false, false, false, false, false, false, false] rfl rfl (by kernel_rfl) (fun _ _ _ h => h) (Or.inl ⟨by rfl, ?_⟩) ?_ ?_
    rotate_left
    ·intro w'
     go_simp
     with_reducible rfl
    rotate_left
    ·simp only [Act.put, List.setIfInBounds_toArray, List.set_cons_zero, List.set_cons_succ, i64_w, i32_w]
     rfl
    refine pure_ (i := 2) (N := some 23) (v := ?_) (a' := ?_) #[true, false, true, false, false, false, false, false] rfl rfl (by kernel_rfl) (fun _ _ _ h => h) (Or.inl ⟨by rfl, ?_⟩) ?_ ?_
    rotate_left
    ·intro w'
     go_simp
     with_reducible rfl
    rotate_left
    ·simp only [Act.put, List.setIfInBounds_toArray, List.set_cons_zero, List.set_cons_succ, i64_w, i32_w]
     rfl
    refine pure_ (i := 3) (N := some 24) (v := ?_) (a' := ?_) #[true, false, true, true, false, false, false, false] rfl rfl (by kernel_rfl) (fun _ _ _ h => h) (Or.inl ⟨by rfl, ?_⟩) ?_ ?_
    rotate_left
    ·intro w'
     go_simp
     with_reducible rfl
    rotate_left
    ·simp only [Act.put, List.setIfInBounds_toArray, List.set_cons_zero, List.set_cons_succ, i64_w, i32_w]
     rfl
    refine pure_ (i := 4) (N := some 25) (v := ?_) (a' := ?_) #[true, false, true, true, true, false, false, false] rfl rfl (by kernel_rfl) (fun _ _ _ h => h) (Or.inl ⟨by rfl, ?_⟩) ?_ ?_
    rotate_left
    ·intro w'
     go_simp
     with_reducible rfl
    rotate_left
    ·simp only [Act.put, List.setIfInBounds_toArray, List.set_cons_zero, List.set_cons_succ, i64_w, i32_w]
     rfl
    refine one_ (i := 1) (N := some 22) #[true, true, true, true, true, false, false, false] rfl rfl (by kernel_rfl) (by decide) (fun K hK => ?_)
    refine goes_ Try.func23 (by kernel_rfl) rfl #[.int .u8 6, .int .u64 code] (by rfl) rfl rfl (by (try simp only [List.map_toArray, List.map_cons, List.map_nil]); first | done | rfl) ?_
    refine (number23_any 6 code _).mono ?_
    rintro e wk2 ⟨rfl, hb2⟩
    refine ⟨_, rfl, ?_⟩
    have hS2 : Blk wk2 b #[.int .u8 0, .int .u64 0, .string ⟨#[]⟩, .slice none 0 0] 25 := hS.below hb2
    have HAL2 := Aside0.mk (Kd.C_below HAL.out hb2)
    have HB02 := Aside0.mk (below_step HB0.out hb2)
    refine hK.out _ _ hS2 (fun _ => ?_)
    clear hK K hb2
    refine norm_ (a' := ?_) ?_ ?_
    rotate_left
    ·try simp only [Act.put, putAll, List.setIfInBounds_toArray, List.set_cons_zero, List.set_cons_succ]
     rfl
    refine one_ (i := 5) (N := some 26) #[true, true, true, true, true, true, false, false] rfl rfl (by kernel_rfl) (by decide) (fun K hK => ?_)
    refine goes_ Try.func21 (by kernel_rfl) rfl #[.int .u8 22, .slice (some ad) (m + 1) c] (by rfl) rfl rfl (by (try simp only [List.map_toArray, List.map_cons, List.map_nil]); first | done | rfl) ?_
    refine (many_take21 (m + 1) hn (by omega) (some ad) c _ HAL2.out hc).mono ?_
    rintro e wk3 ⟨Al, cl, rfl, hRl, hb3⟩
    have hcl := (Kd.R_reads' hRl).2.1
    have HCl3 := Aside0.mk (Kd.R_reads' hRl).2.2
    refine ⟨_, rfl, ?_⟩
    have hS3 : Blk wk3 b #[.int .u8 0, .int .u64 0, .string ⟨#[]⟩, .slice none 0 0] 25 := hS2.below hb3
    have HAL3 := Aside0.mk (Kd.C_below HAL2.out hb3)
    have HB03 := Aside0.mk (below_step HB02.out hb3)
    refine hK.out _ _ hS3 (fun _ => ?_)
    clear hK K hb3 hS2
    refine norm_ (a' := ?_) ?_ ?_
    rotate_left
    ·try simp only [Act.put, putAll, List.setIfInBounds_toArray, List.set_cons_zero, List.set_cons_succ]
     rfl
    refine one_ (i := 6) (N := some 27) #[true, true, true, true, true, true, true, false] rfl rfl (by kernel_rfl) (by decide) (fun K hK => ?_)
    refine goes_ Try.func28 (by kernel_rfl) rfl #[.agg #[.int .u8 6, .int .u64 code, .string ⟨#[]⟩, .slice none 0 0], .agg #[.int .u8 22, .int .u64 0, .string ⟨#[]⟩, .slice Al (l.take (m + 1)).length cl]] (by rfl) rfl rfl (by (try simp only [List.map_toArray, List.map_cons, List.map_nil]); first | done | rfl) ?_
    refine (desc28_any ⟨6, code, ⟨#[]⟩, []⟩ ⟨22, 0, ⟨#[]⟩, (l.take (m + 1))⟩ (by have := itemsL_take l (m + 1); simp only [itemsN, itemsL]; omega) none Al 0 cl _ (C_none _) (Nat.le_refl _) HCl3.out hcl).mono ?_
    rintro e wk4 ⟨vd, rfl, hRd, hb4⟩
    obtain ⟨Ad, cd, rfl⟩ := Kd.R_slice hRd
    have HRD := Aside0.mk (Kd.R_bound hRd)
    have hltb := hS3.lt
    refine ⟨_, rfl, ?_⟩
    have hS4 : Blk wk4 b #[.int .u8 0, .int .u64 0, .string ⟨#[]⟩, .slice none 0 0] 25 := hS3.below hb4
    have HAL4 := Aside0.mk (Kd.C_below HAL3.out hb4)
    have HB04 := Aside0.mk (below_step HB03.out hb4)
    have HCl4 := Aside0.mk (Kd.C_below HCl3.out hb4)
    refine hK.out _ _ hS4 (fun _ => ?_)
    clear hK K hb4 hS3
    refine norm_ (a' := ?_) ?_ ?_
    rotate_left
    ·try simp only [Act.put, putAll, List.setIfInBounds_toArray, List.set_cons_zero, List.set_cons_succ]
     rfl
    refine last_ (i := 7) (N := none) #[true, true, true, true, true, true, true, true] rfl rfl (by kernel_rfl) (by decide) (fun K hK => ?_)
    rw [if_pos (by rfl)]
    obtain ⟨e0, e1, e2, e3⟩ := hS4.c4
    have fz := hS4.fz
    unfold Oper.wp
    go_simp
    refine hK.out _ _ ?_
    refine done_ (by kernel_rfl) ?_
    go_wp2_with fail
    have hge : w.heap.size ≤ b := Nat.le_of_eq BB.out
    have hsz := HB03.out.size
    refine bodyPost_ret (results_cell_row rfl _ _ b 25 #[.int .u8 25, .int .u64 0, .string ⟨#[]⟩, .slice Ad 2 cd] (0, 0) _ rfl (by
     refine blk_put (cs := #[.int .u8 25, .int .u64 0, .string ⟨#[]⟩, .slice none 0 0]) ?_ 3 _ rfl
     refine blk_put (cs := #[.int .u8 25, .int .u64 0, .string ⟨#[]⟩, .slice none 0 0]) ?_ 2 _ rfl
     refine blk_put (cs := #[.int .u8 25, .int .u64 0, .string ⟨#[]⟩, .slice none 0 0]) ?_ 1 _ rfl
     refine blk_put (cs := #[.int .u8 0, .int .u64 0, .string ⟨#[]⟩, .slice none 0 0]) ?_ 0 _ rfl
     exact hS4) Try.underlying25 rfl (by kernel_rfl)) rfl ?_
    have hpv : putV code l = ⟨25, 0, ⟨#[]⟩, [⟨6, code, ⟨#[]⟩, []⟩, ⟨22, 0, ⟨#[]⟩, (l.take (m + 1))⟩]⟩ := by unfold putV trimL; rw [← HTN.out]
    refine ⟨Ad, cd, rfl, ?_, below_set (below_set (below_set (below_set HB04.out hge) hge) hge) hge⟩
    rw [hpv]
    exact Kd.R_mono (Kd.R_lower (Kd.R_far (Kd.R_far (Kd.R_far (Kd.R_far (Kd.R_mono (ok' := fun j => j ≠ b) HRD.out (fun j hj => by have := hj.2.1; omega)) (fun _ h => h) _) (fun _ h => h) _) (fun _ h => h) _) (fun _ h => h) _) (by omega)) (fun _ _ => trivial)
  ·obtain rfl : m = 0 := by omega
   have HTN : Aside0 (0 = trimTo l l.length) := ⟨by rw [← HT.out]; rfl⟩
   have hn : 0 ≤ l.length := Nat.zero_le _
   clear HT HG h0 hm
   go_wp2_with fail
   have bR := BR.out
   clear BR
   refine start_ (n := 8) (S := fun w' => Blk w' b #[.int .u8 0, .int .u64 0, .string ⟨#[]⟩, .slice none 0 0] 25) (ds := [7]) #[false, false, false, false, false, false, false, false] (by kernel_rfl) rfl rfl bR (fun hS => ?_)
   replace HAL := Aside0.mk (Kd.C_below HAL.out (below_drew (Below.refl _ _)))
   replace HB0 := Aside0.mk (below_drew HB0.out)
   generalize w1.drew = wd5 at HAL HB0 hS ⊢
   clear bR
   refine pure_ (i := 0) (N := some 21) (v := ?_) (a' := ?_) #[true, false, false, false, false, false, false, false] rfl rfl (by kernel_rfl) (fun _ _ _ h => h) (Or.inl ⟨by rfl, ?_⟩) ?_ ?_
   rotate_left
   ·intro w'
    go_simp
    with_reducible rfl
   rotate_left
   ·simp only [Act.put, List.setIfInBounds_toArray, List.set_cons_zero, List.set_cons_succ, i64_w, i32_w]
    rfl
   refine pure_ (i := 2) (N := some 23) (v := ?_) (a' := ?_) #[true, false, true, false, false, false, false, false] rfl rfl (by kernel_rfl) (fun _ _ _ h => h) (Or.inl ⟨by rfl, ?_⟩) ?_ ?_
   rotate_left
   ·intro w'
    go_simp
    with_reducible rfl
   rotate_left
   ·simp only [Act.put, List.setIfInBounds_toArray, List.set_cons_zero, List.set_cons_succ, i64_w, i32_w]
    rfl
   refine pure_ (i := 3) (N := some 24) (v := ?_) (a' := ?_) #[true, false, true, true, false, false, false, false] rfl rfl (by kernel_rfl) (fun _ _ _ h => h) (Or.inl ⟨by rfl, ?_⟩) ?_ ?_
   rotate_left
   ·intro w'
    go_simp
    with_reducible rfl
   rotate_left
   ·simp only [Act.put, List.setIfInBounds_toArray, List.set_cons_zero, List.set_cons_succ, i64_w, i32_w]
    rfl
   refine pure_ (i := 4) (N := some 25) (v := ?_) (a' := ?_) #[true, false, true, true, true, false, false, false] rfl rfl (by kernel_rfl) (fun _ _ _ h => h) (Or.inl ⟨by rfl, ?_⟩) ?_ ?_
   rotate_left
   ·intro w'
    go_simp
    with_reducible rfl
   rotate_left
   ·simp only [Act.put, List.setIfInBounds_toArray, List.set_cons_zero, List.set_cons_succ, i64_w, i32_w]
    rfl
   refine one_ (i := 1) (N := some 22) #[true, true, true, true, true, false, false, false] rfl rfl (by kernel_rfl) (by decide) (fun K hK => ?_)
   refine goes_ Try.func23 (by kernel_rfl) rfl #[.int .u8 6, .int .u64 code] (by rfl) rfl rfl (by (try simp only [List.map_toArray, List.map_cons, List.map_nil]); first | done | rfl) ?_
   refine (number23_any 6 code _).mono ?_
   rintro e wk6 ⟨rfl, hb6⟩
   refine ⟨_, rfl, ?_⟩
   have hS6 : Blk wk6 b #[.int .u8 0, .int .u64 0, .string ⟨#[]⟩, .slice none 0 0] 25 := hS.below hb6
   have HAL6 := Aside0.mk (Kd.C_below HAL.out hb6)
   have HB06 := Aside0.mk (below_step HB0.out hb6)
   refine hK.out _ _ hS6 (fun _ => ?_)
   clear hK K hb6
   refine norm_ (a' := ?_) ?_ ?_
   rotate_left
   ·try simp only [Act.put, putAll, List.setIfInBounds_toArray, List.set_cons_zero, List.set_cons_succ]
    rfl
   refine one_ (i := 5) (N := some 26) #[true, true, true, true, true, true, false, false] rfl rfl (by kernel_rfl) (by decide) (fun K hK => ?_)
   refine goes_ Try.func21 (by kernel_rfl) rfl #[.int .u8 22, .slice A 0 c] (by rfl) rfl rfl (by (try simp only [List.map_toArray, List.map_cons, List.map_nil]); first | done | rfl) ?_
   refine (many_take21 0 hn (by omega) A c _ HAL6.out hc).mono ?_
   rintro e wk7 ⟨Al, cl, rfl, hRl, hb7⟩
   have hcl := (Kd.R_reads' hRl).2.1
   have HCl7 := Aside0.mk (Kd.R_reads' hRl).2.2
   refine ⟨_, rfl, ?_⟩
   have hS7 : Blk wk7 b #[.int .u8 0, .int .u64 0, .string ⟨#[]⟩, .slice none 0 0] 25 := hS6.below hb7
   have HAL7 := Aside0.mk (Kd.C_below HAL6.out hb7)
   have HB07 := Aside0.mk (below_step HB06.out hb7)
   refine hK.out _ _ hS7 (fun _ => ?_)
   clear hK K hb7 hS6
   refine norm_ (a' := ?_) ?_ ?_
   rotate_left
   ·try simp only [Act.put, putAll, List.setIfInBounds_toArray, List.set_cons_zero, List.set_cons_succ]
    rfl
   refine one_ (i := 6) (N := some 27) #[true, true, true, true, true, true, true, false] rfl rfl (by kernel_rfl) (by decide) (fun K hK => ?_)
   refine goes_ Try.func28 (by kernel_rfl) rfl #[.agg #[.int .u8 6, .int .u64 code, .string ⟨#[]⟩, .slice none 0 0], .agg #[.int .u8 22, .int .u64 0, .string ⟨#[]⟩, .slice Al (l.take 0).length cl]] (by rfl) rfl rfl (by (try simp only [List.map_toArray, List.map_cons, List.map_nil]); first | done | rfl) ?_
   refine (desc28_any ⟨6, code, ⟨#[]⟩, []⟩ ⟨22, 0, ⟨#[]⟩, (l.take 0)⟩ (by have := itemsL_take l 0; simp only [itemsN, itemsL]; omega) none Al 0 cl _ (C_none _) (Nat.le_refl _) HCl7.out hcl).mono ?_
   rintro e wk8 ⟨vd, rfl, hRd, hb8⟩
   obtain ⟨Ad, cd, rfl⟩ := Kd.R_slice hRd
   have HRD := Aside0.mk (Kd.R_bound hRd)
   have hltb := hS7.lt
   refine ⟨_, rfl, ?_⟩
   have hS8 : Blk wk8 b #[.int .u8 0, .int .u64 0, .string ⟨#[]⟩, .slice none 0 0] 25 := hS7.below hb8
   have HAL8 := Aside0.mk (Kd.C_below HAL7.out hb8)
   have HB08 := Aside0.mk (below_step HB07.out hb8)
   have HCl8 := Aside0.mk (Kd.C_below HCl7.out hb8)
   refine hK.out _ _ hS8 (fun _ => ?_)
   clear hK K hb8 hS7
   refine norm_ (a' := ?_) ?_ ?_
   rotate_left
   ·try simp only [Act.put, putAll, List.setIfInBounds_toArray, List.set_cons_zero, List.set_cons_succ]
    rfl
   refine last_ (i := 7) (N := none) #[true, true, true, true, true, true, true, true] rfl rfl (by kernel_rfl) (by decide) (fun K hK => ?_)
   rw [if_pos (by rfl)]
   obtain ⟨e0, e1, e2, e3⟩ := hS8.c4
   have fz := hS8.fz
   unfold Oper.wp
   go_simp
   refine hK.out _ _ ?_
   refine done_ (by kernel_rfl) ?_
   go_wp2_with fail
   have hge : w.heap.size ≤ b := Nat.le_of_eq BB.out
   have hsz := HB07.out.size
   refine bodyPost_ret (results_cell_row rfl _ _ b 25 #[.int .u8 25, .int .u64 0, .string ⟨#[]⟩, .slice Ad 2 cd] (0, 0) _ rfl (by
    refine blk_put (cs := #[.int .u8 25, .int .u64 0, .string ⟨#[]⟩, .slice none 0 0]) ?_ 3 _ rfl
    refine blk_put (cs := #[.int .u8 25, .int .u64 0, .string ⟨#[]⟩, .slice none 0 0]) ?_ 2 _ rfl
    refine blk_put (cs := #[.int .u8 25, .int .u64 0, .string ⟨#[]⟩, .slice none 0 0]) ?_ 1 _ rfl
    refine blk_put (cs := #[.int .u8 0, .int .u64 0, .string ⟨#[]⟩, .slice none 0 0]) ?_ 0 _ rfl
    exact hS8) Try.underlying25 rfl (by kernel_rfl)) rfl ?_
   have hpv : putV code l = ⟨25, 0, ⟨#[]⟩, [⟨6, code, ⟨#[]⟩, []⟩, ⟨22, 0, ⟨#[]⟩, (l.take 0)⟩]⟩ := by unfold putV trimL; rw [← HTN.out]
   refine ⟨Ad, cd, rfl, ?_, below_set (below_set (below_set (below_set HB08.out hge) hge) hge) hge⟩
   rw [hpv]
   exact Kd.R_mono (Kd.R_lower (Kd.R_far (Kd.R_far (Kd.R_far (Kd.R_far (Kd.R_mono (ok' := fun j => j ≠ b) HRD.out (fun j hj => by have := hj.2.1; omega)) (fun _ h => h) _) (fun _ h => h) _) (fun _ h => h) _) (fun _ h => h) _) (by omega)) (fun _ _ => trivial)
end Go.Proofs.Ytdilbnggedidnaa.PVal
namespace Go.Proofs.Ytdilbnggedidnaa.PVal
open Go.RowKit Go.Shelf Go.Proofs.YtdilbnggedidnaaW.PrintWords Go.Proofs.YtdilbnggedidnaaW.PrintLast
set_option linter.unusedVariables false
set_option linter.unusedSimpArgs false
theorem field25_3 (a b c : Value) (A : Option Addr) (n d : Nat) (w : World) : (Instr.field 25 (.agg #[a, b, c, .slice A n d]) 3).run Try.prog w = .ok (.slice A n d) w := by kernel_rfl
attribute [local go_sem] field25_3
def newF (v : S25) (code : Int) (name : ByteArray) : Option (List S25) :=
 if rightB v = true ∧ v.f0 = 25 ∧ (rd_T25 v.f3 1).f0 = 22 ∧ calledB (rd_T25 v.f3 0) code name = true then some (rd_T25 v.f3 1).f3 else none
theorem desc_two {v : S25} (h : rightB v = true) (h25 : v.f0 = 25) : ∃ a b, v.f3 = [a, b] := by
 unfold rightB at h
 simp only [Bool.and_eq_true] at h
 have hm := h.2
 rw [mayB_eq] at hm
 simp only [Bool.and_eq_true] at hm
 have hf := hm.2.2
 unfold famB at hf
 rw [if_neg (by omega), if_neg (by omega), if_neg (by omega), if_pos h25] at hf
 simp only [Bool.and_eq_true, decide_eq_true_eq] at hf
 rcases hx : v.f3 with _ | ⟨a, _ | ⟨b, _ | ⟨c, t⟩⟩⟩ <;> rw [hx] at hf <;> simp at hf ⊢
set_option maxRecDepth 100000 in
set_option maxHeartbeats 2000000 in
theorem new44_no (v : S25) (hs : itemsN v ≤ 4294967296) (ho : okV v) (code : Int) (name : ByteArray) (A : Option Addr) (c : Nat) (w : World) (ha : k25.C w A v.f3.length v.f3) (hc : v.f3.length ≤ c) (h : newF v code name = none) :
  Calls Try.prog 44 #[.agg #[.int .u8 v.f0, .int .u64 v.f1, .string v.f2, .slice A v.f3.length c], .int .u64 code, .string name] w fun e w' => e = .returned (.tuple #[.pointer none, .int .i64 6]) ∧ Below w.heap.size w w' := by
 have HN := Aside0.mk h
 clear h
 have HA := Aside0.mk ha
 have hal := below_alloc (Below.refl w.heap.size w) (.cells #[.int .u8 v.f0, .int .u64 v.f1, .string v.f2, .slice A v.f3.length c] 25)
 have HAL := Aside0.mk (Kd.C_below ha hal)
 have HB0 := Aside0.mk hal
 have BX := Aside0.mk (Blk.new w #[.int .u8 v.f0, .int .u64 v.f1, .string v.f2, .slice A v.f3.length c] 25)
 clear ha hal
 go_enter Try.func44, Try.ntmps44
 obtain ⟨p0, p1, p2, p3⟩ := BX.out.c4
 go_wp2_with fail
 refine (right17_any v hs ho A c _ HAL.out hc).mono ?_
 rintro e w2 ⟨he, hb2⟩
 have bX := BX.out.below hb2
 have HB2 := Aside0.mk (below_step HB0.out hb2)
 have HC2 := Aside0.mk (Kd.C_below HAL.out hb2)
 clear p0 p1 p2 p3 hb2 BX HAL HB0
 obtain ⟨p0, p1, p2, p3⟩ := bX.c4
 cases hr : rightB v with
 | false =>
  rw [hr] at he
  subst he
  clear hr
  go_wp2_with fail
  go_ret2
  exact ⟨rfl, HB2.out⟩
 | true =>
  rw [hr] at he
  subst he
  by_cases h25 : v.f0 = 25
  ·have HNN := HN.out
   obtain ⟨a, b, hab⟩ := desc_two hr h25
   obtain ⟨ad, A0, c0, e0, x0, x1, x2, x3, l0, C0⟩ := at_T25 HC2.out 0 (by omega) (by rw [hab]; simp)
   obtain ⟨ad1, A1, c1, e1, y0, y1, y2, y3, l1, C1⟩ := at_T25 HC2.out 1 (by omega) (by rw [hab]; simp)
   cases e0
   cases e1
   rw [show (0 : Int).toNat = 0 from rfl, Nat.zero_mul, add_nought] at x0 x1 x2 x3
   rw [show (1 : Int).toNat = 1 from rfl] at y0 y1 y2 y3
   have ha0 : rd_T25 v.f3 0 = a := by rw [hab]; rfl
   have hb0 : rd_T25 v.f3 1 = b := by rw [hab]; rfl
   rw [ha0] at x0 x1 x2 x3 l0 C0
   rw [hb0] at y0 y1 y2 y3 l1 C1
   have hl2 : v.f3.length = 2 := by rw [hab]; rfl
   have h0l : 0 < v.f3.length := by omega
   have h1l : 1 < v.f3.length := by omega
   have k25 : (v.f0 != 25) = false := by simp [h25]
   have HC0 := Aside0.mk C0
   have HC1 := Aside0.mk C1
   have ad0 : ad.add 0 = ad := add_nought ad
   simp only [Nat.reduceMul, Nat.reduceEqDiff, Go.Addr.add, ↓reduceIte] at y0 y1 y2 y3
   have HB0' := Aside0.mk ha0
   have HB1 := Aside0.mk hb0
   have HIB : Aside0 (itemsN b ≤ itemsN v) := ⟨by rw [itemsN_eq v, hab]; simp only [itemsL]; omega⟩
   clear hab C0 C1 ha0 hb0 hl2
   cases h22 : (b.f0 != 22) with
   | true =>
    clear HNN hr h25
    go_wp2_with fail
    go_ret2
    exact ⟨rfl, HB2.out⟩
   | false =>
    have hcl : calledB a code name = false := by
     cases hq : calledB a code name with
     | false => rfl
     | true =>
      unfold newF at HNN
      rw [if_pos ⟨hr, h25, by rw [HB1.out]; simpa using h22, by rw [HB0'.out]; exact hq⟩] at HNN
      cases HNN
    clear HNN hr h25
    go_wp2_with fail
    refine (called74_any a code name A0 c0 _).mono ?_
    rintro e w3 ⟨he, hb3⟩
    rw [hcl] at he
    subst he
    have HB3 := Aside0.mk (below_step HB2.out hb3)
    clear hcl hb3 p0 p1 p2 p3 x0 x1 x2 x3 y0 y1 y2 y3
    go_wp2_with fail
    go_ret2
    exact ⟨rfl, HB3.out⟩
  ·have k25 : (v.f0 != 25) = true := by simp [h25]
   clear hr h25
   go_wp2_with fail
   go_ret2
   exact ⟨rfl, HB2.out⟩
set_option maxRecDepth 100000 in
set_option maxHeartbeats 2000000 in
theorem new44_yes (v : S25) (hs : itemsN v ≤ 4294967296) (ho : okV v) (code : Int) (name : ByteArray) (A : Option Addr) (c : Nat) (w : World) (ha : k25.C w A v.f3.length v.f3) (hc : v.f3.length ≤ c) {l : List S25} (h : newF v code name = some l) :
  Calls Try.prog 44 #[.agg #[.int .u8 v.f0, .int .u64 v.f1, .string v.f2, .slice A v.f3.length c], .int .u64 code, .string name] w fun e w' => ∃ g, e = .returned (.tuple #[.pointer (some ⟨g, 0, none⟩), .int .i64 0]) ∧ w.heap.size ≤ g ∧ FS w' w.heap.size g l false ∧ Below w.heap.size w w' := by
 unfold newF at h
 split at h
 case isFalse => cases h
 case isTrue hq =>
 have HQ := Aside0.mk hq
 have HLI := Aside0.mk (Option.some.inj h)
 clear h hq
 have HA := Aside0.mk ha
 have hal := below_alloc (Below.refl w.heap.size w) (.cells #[.int .u8 v.f0, .int .u64 v.f1, .string v.f2, .slice A v.f3.length c] 25)
 have HAL := Aside0.mk (Kd.C_below ha hal)
 have HB0 := Aside0.mk hal
 have BX := Aside0.mk (Blk.new w #[.int .u8 v.f0, .int .u64 v.f1, .string v.f2, .slice A v.f3.length c] 25)
 clear ha hal
 go_enter Try.func44, Try.ntmps44
 obtain ⟨p0, p1, p2, p3⟩ := BX.out.c4
 go_wp2_with fail
 refine (right17_any v hs ho A c _ HAL.out hc).mono ?_
 rintro e w2 ⟨he, hb2⟩
 have bX := BX.out.below hb2
 have HB2 := Aside0.mk (below_step HB0.out hb2)
 have HC2 := Aside0.mk (Kd.C_below HAL.out hb2)
 clear p0 p1 p2 p3 hb2 BX HAL HB0
 obtain ⟨p0, p1, p2, p3⟩ := bX.c4
 obtain ⟨hr, h25, h22, hcl⟩ := HQ.out
 have hli := HLI.out
 clear HQ HLI
 rw [hr] at he
 subst he
 obtain ⟨a, b, hab⟩ := desc_two hr h25
 obtain ⟨ad, A0, c0, e0, x0, x1, x2, x3, l0, C0⟩ := at_T25 HC2.out 0 (by omega) (by rw [hab]; simp)
 obtain ⟨ad1, A1, c1, e1, y0, y1, y2, y3, l1, C1⟩ := at_T25 HC2.out 1 (by omega) (by rw [hab]; simp)
 cases e0
 cases e1
 rw [show (0 : Int).toNat = 0 from rfl, Nat.zero_mul, add_nought] at x0 x1 x2 x3
 rw [show (1 : Int).toNat = 1 from rfl] at y0 y1 y2 y3
 have ha0 : rd_T25 v.f3 0 = a := by rw [hab]; rfl
 have hb0 : rd_T25 v.f3 1 = b := by rw [hab]; rfl
 rw [ha0] at x0 x1 x2 x3 l0 C0
 rw [hb0] at y0 y1 y2 y3 l1 C1
 have hl2 : v.f3.length = 2 := by rw [hab]; rfl
 have h0l : 0 < v.f3.length := by omega
 have h1l : 1 < v.f3.length := by omega
 have k25 : (v.f0 != 25) = false := by simp [h25]
 have HC0 := Aside0.mk C0
 have HC1 := Aside0.mk C1
 have ad0 : ad.add 0 = ad := add_nought ad
 simp only [Nat.reduceMul, Nat.reduceEqDiff, Go.Addr.add, ↓reduceIte] at y0 y1 y2 y3
 have HB0' := Aside0.mk ha0
 have HB1 := Aside0.mk hb0
 have HIB : Aside0 (itemsN b ≤ itemsN v) := ⟨by rw [itemsN_eq v, hab]; simp only [itemsL]; omega⟩
 clear hab C0 C1 ha0 hb0 hl2
 rw [HB1.out] at h22 hli
 rw [HB0'.out] at hcl
 subst hli
 have HCL := Aside0.mk hcl
 have hitb : itemsN b ≤ 4294967296 := by have := HIB.out; omega
 have h22' : (b.f0 != 22) = false := by simp [h22]
 clear hr h25 h22 hcl
 go_wp2_with fail
 refine (called74_any a code name A0 c0 _).mono ?_
 rintro e w3 ⟨he, hb3⟩
 rw [HCL.out] at he
 subst he
 have HB3 := Aside0.mk (below_step HB2.out hb3)
 have bX3 := bX.below hb3
 have HC3 := Aside0.mk (Kd.C_below HC1.out hb3)
 have HY := Aside0.mk (And.intro ((hb3.cell (World.block_lt_of_cell? _ _ y0)).trans y0) (And.intro ((hb3.cell (World.block_lt_of_cell? _ _ y1)).trans y1) (And.intro ((hb3.cell (World.block_lt_of_cell? _ _ y2)).trans y2) ((hb3.cell (World.block_lt_of_cell? _ _ y3)).trans y3))))
 clear hb3 p0 p1 p2 p3 x0 x1 x2 x3 y0 y1 y2 y3 bX
 obtain ⟨p0, p1, p2, p3⟩ := bX3.c4
 obtain ⟨y0, y1, y2, y3⟩ := HY.out
 go_wp2_with fail
 refine (copy31_any b hitb A1 c1 _ HC3.out l1).mono ?_
 rintro e w4 ⟨A2, c2, rfl, hR, hb4⟩
 have HR := Aside0.mk (Kd.R_bound hR)
 have HB4 := Aside0.mk (below_step HB3.out hb4)
 have hsz := HB3.out.size
 clear hR hb4 p0 p1 p2 p3 y0 y1 y2 y3 bX3
 go_wp2_with fail
 go_ret2
 have hal := below_alloc (Below.refl w4.heap.size w4) (.cells #[.slice A2 b.f3.length c2, .bool false] 94)
 refine ⟨w4.heap.size, rfl, by have := HB4.out.size; omega, ⟨A2, c2, Blk.new w4 #[.slice A2 b.f3.length c2, .bool false] 94, ?_⟩, below_step HB4.out hal⟩
 exact Kd.R_lower (Kd.R_below (Kd.R_mono HR.out (fun k hk => by have := hk.2.2.1; omega)) hal) hsz
end Go.Proofs.Ytdilbnggedidnaa.PVal
namespace Go.Proofs.Ytdilbnggedidnaa.PVal
open Go.RowKit Go.Shelf Go.Proofs.YtdilbnggedidnaaW.PrintWords Go.Proofs.YtdilbnggedidnaaW.PrintLast
set_option linter.unusedVariables false
set_option linter.unusedSimpArgs false
theorem okL_take : ∀ {l : List S25}, okL l → ∀ n, okL (l.take n)
 | [], _, n => by simp; trivial
 | x :: l, h, 0 => trivial
 | x :: l, h, n + 1 => by
  rw [okL] at h
  rw [List.take_succ_cons, okL]
  exact ⟨h.1, okL_take h.2 n⟩
theorem okV_put {code : Int} {l : List S25} (h0 : u64R code) (h : okL l) : okV (putV code l) := by
 unfold putV trimL
 rw [okV, okL, okL, okL, okV, okV]
 exact ⟨⟨⟨by omega, by omega⟩, by decide⟩, ⟨⟨h0, by decide⟩, trivial⟩, ⟨⟨⟨by omega, by omega⟩, by decide⟩, okL_take h _⟩, trivial⟩
theorem newF_put (code : Int) (l : List S25) (name : ByteArray) : newF (putV code l) code name = if rightB (putV code l) = true then some (trimL l) else none := by
 have hc : calledB ⟨6, code, ⟨#[]⟩, []⟩ code name = true := by unfold calledB; simp
 unfold newF
 by_cases h : rightB (putV code l) = true
 ·rw [if_pos ⟨h, rfl, rfl, hc⟩, if_pos h]; rfl
 ·rw [if_neg (fun hh => h hh.1), if_neg h]
theorem kindP_one (k : Int) (x : S25) : kindP [k] x = (x.f0 == k) := by unfold kindP; simp
def SymC (w : World) (p b : Nat) : Prop := Blk w p #[.func (.func 98) #[] #[.pointer (some ⟨b, 0, none⟩)]] 29 ∧ Fit 98 [.pointer (some ⟨b, 0, none⟩)] (kindP [21]) w
theorem SymC.below {w w' : World} {p b : Nat} (h : SymC w p b) (hb : Below w.heap.size w w') : SymC w' p b := ⟨h.1.below hb, h.2.later hb⟩
end Go.Proofs.Ytdilbnggedidnaa.PVal
namespace Go.Proofs.Ytdilbnggedidnaa.PVal
open Go.RowKit Go.Shelf Go.Proofs.YtdilbnggedidnaaW.PrintWords Go.Proofs.YtdilbnggedidnaaW.PrintLast
set_option linter.unusedVariables false
set_option linter.unusedSimpArgs false
def symV (s : ByteArray) : S25 := ⟨21, 0, s, []⟩
end Go.Proofs.Ytdilbnggedidnaa.PVal
namespace Go.Proofs.Ytdilbnggedidnaa.PVal
open Go.RowKit Go.Proofs.YtdilbnggedidnaaW.PrintWords Go.Proofs.YtdilbnggedidnaaW.PrintLast
set_option linter.unusedVariables false
set_option linter.unusedSimpArgs false
theorem cells5_ : Try.prog.cellsOf 5 = 1 := by kernel_rfl
theorem cells22_ : Try.prog.cellsOf 22 = 1 := by kernel_rfl
theorem cells9_ : Try.prog.cellsOf 9 = 1 := by kernel_rfl
theorem cells23_ : Try.prog.cellsOf 23 = 1 := by kernel_rfl
theorem cells25_ : Try.prog.cellsOf 25 = 4 := by kernel_rfl
theorem list4 {α : Type} {l : List α} (h : l.length = 4) : ∃ a b c d, l = [a, b, c, d] := by
 match l, h with
 | [a, b, c, d], _ => exact ⟨a, b, c, d, rfl⟩
theorem open_list {H α : Type} : ∀ (es : List (DataW H × α)) (Q : Nat → S25 → Prop), (∀ i e, es[i]? = some e → ∃ y, Q i y ∧ itemsN y + textsN y ≤ Rows.uptoBulk e.1 ∧ (Rows.uptoBulk e.1 ≤ 4294967290 → okV y)) →
  ∃ l : List S25, l.length = es.length ∧ itemsL l + textsL l ≤ Rows.uptoBulkAll (es.map (·.1)) ∧ (Rows.uptoBulkAll (es.map (·.1)) ≤ 4294967290 → okL l) ∧ ∀ i y, l[i]? = some y → Q i y
 | [], Q, _ => ⟨[], rfl, by simp [itemsL, textsL], fun _ => by rw [okL]; trivial, fun i y h => by simp at h⟩
 | e :: es, Q, h => by
  obtain ⟨y, hq, hb, ho⟩ := h 0 e rfl
  obtain ⟨l, hl, hlb, hlo, hlq⟩ := open_list es (fun i => Q (i + 1)) (fun i e' he => h (i + 1) e' (by simpa using he))
  refine ⟨y :: l, by simp [hl], ?_, fun hk => by
   simp only [List.map_cons, Rows.uptoBulkAll] at hk
   rw [okL]; exact ⟨ho (by omega), hlo (by omega)⟩, fun i z hz => ?_⟩
  ·simp only [itemsL, textsL, List.map_cons, Rows.uptoBulkAll]; omega
  ·cases i with
   | zero =>
    obtain rfl : y = z := by simpa using hz
    exact hq
   | succ i => exact hlq i z (by simpa using hz)
def Opened {H α : Type} (w : World) (cs : List Value) (x : DataW H × α) : Prop :=
 ∃ (y : S25) (A : Option Addr) (c : Nat), cs = [.int .u8 y.f0, .int .u64 y.f1, .string y.f2, .slice A y.f3.length c] ∧ y.f3.length ≤ c ∧ k25.C w A y.f3.length y.f3 ∧ itemsN y + textsN y ≤ Rows.uptoBulk x.1 ∧ (Rows.uptoBulk x.1 ≤ 4294967290 → okV y)
def OpenedL {H α : Type} (w : World) (cs : List Value) (x : DataW H × α) : Prop :=
 ∃ (l : List S25) (A : Option Addr) (c : Nat), cs = [.slice A l.length c] ∧ l.length ≤ c ∧ k25.C w A l.length l ∧ itemsL l + textsL l + 1 ≤ Rows.uptoBulk x.1 ∧ (Rows.uptoBulk x.1 ≤ 4294967290 → okL l)
section
variable {H : Type} {enc : TypeId × Value → H} {w : World} {base : Nat} {spare : Nat → Bool} {held : Bool}
theorem open_vals {m : Nat} {t : TypeId} (ht : Try.prog.underlying t = some (.slice 25)) (ih : ∀ n, n < m → ∀ (cs : List Value) (x : DataW H × List MemPlace), DataW.trod enc Try.prog w base spare held n 25 cs = some x → Opened w cs x)
  (cs : List Value) (x : DataW H × List MemPlace) (h : DataW.trod enc Try.prog w base spare held m t cs = some x) : OpenedL w cs x := by
 rcases DataW.trod_slice ht h with ⟨rfl, rfl⟩ | ⟨a, len, cap, es, rest, n, rfl, rfl, rfl, hb, hl, hm, hlen, hel, _, _⟩
 ·exact ⟨[], none, 0, rfl, Nat.le_refl _, ⟨rfl, by simp, fun h => absurd h (by simp)⟩, by simp [itemsL, textsL, Rows.uptoBulk], fun _ => by rw [okL]; trivial⟩
 ·rw [cells25_] at hel
  obtain ⟨l, hll, hlb, hlo, hlq⟩ := open_list es (fun i y => ∃ c, c.length = 4 ∧ k25.K w y c ∧ ∀ j u, c[j]? = some u → w.cell? (a.add (i * 4 + j)) = some u) (fun i e he => by
   have hi : i < es.length := (List.getElem?_eq_some_iff.1 he).1
   have h1 := hel i (by omega)
   rw [he] at h1
   obtain ⟨cs', h2, h3⟩ := Option.bind_eq_some_iff.1 h1
   obtain ⟨y, A, c, hcs, hc, hC, hbk, hok⟩ := ih n (by omega) cs' e h3
   refine ⟨y, ⟨cs', by rw [hcs]; rfl, by rw [hcs]; exact k25_mk w y hc hC, fun j u hj => ?_⟩, hbk, hok⟩
   obtain ⟨_, hlen4, hcell⟩ := World.cells?_some h2
   have hj4 : j < 4 := by have := (List.getElem?_eq_some_iff.1 hj).1; omega
   have := hcell j hj4
   rw [add_add] at this
   exact this.trans hj)
  refine ⟨l, some a, cap, by rw [hll, hlen], by omega, ⟨rfl, by unfold maxLen at hm; omega, fun _ => ⟨a, rfl, hlq⟩⟩, ?_, fun hk => hlo ?_⟩
  ·simp only [Rows.uptoBulk]; omega
  ·simp only [Rows.uptoBulk] at hk; omega
theorem open_val : ∀ (n : Nat) (cs : List Value) (x : DataW H × List MemPlace), DataW.trod enc Try.prog w base spare held n 25 cs = some x → Opened w cs x := by
 intro n
 induction n using Nat.strongRecOn with
 | _ n ih =>
  intro cs x h
  obtain ⟨xs, m, rfl, rfl, hl, hlen, hf⟩ := DataW.trod_struct Try.underlying25 h
  rw [cells25_] at hl
  obtain ⟨c0, c1, c2, c3, rfl⟩ := list4 hl
  obtain ⟨y0, y1, y2, y3, rfl⟩ := list4 hlen
  have h0 : DataW.trod enc Try.prog w base spare held m 5 (([c0, c1, c2, c3].drop 0).take (Try.prog.cellsOf 5)) = some y0 := hf 0 _ rfl
  rw [cells5_] at h0
  have h1 : DataW.trod enc Try.prog w base spare held m 22 (([c0, c1, c2, c3].drop 1).take (Try.prog.cellsOf 22)) = some y1 := hf 1 _ rfl
  rw [cells22_] at h1
  have h2 : DataW.trod enc Try.prog w base spare held m 9 (([c0, c1, c2, c3].drop 2).take (Try.prog.cellsOf 9)) = some y2 := hf 2 _ rfl
  rw [cells9_] at h2
  have h3 : DataW.trod enc Try.prog w base spare held m 23 (([c0, c1, c2, c3].drop 3).take (Try.prog.cellsOf 23)) = some y3 := hf 3 _ rfl
  rw [cells23_] at h3
  obtain ⟨k, e0, rfl, -⟩ := DataW.trod_int Try.underlying5 h0
  obtain ⟨n', e1, rfl, hw1⟩ := DataW.trod_int Try.underlying22 h1
  obtain ⟨s, e2, rfl, hs⟩ := DataW.trod_string Try.underlying9 h2
  obtain ⟨l, A, c, e3, hlc, hC, hbk, hok⟩ := open_vals (m := m) Try.underlying23 (fun i hi => ih i (by omega)) _ _ h3
  simp at e0 e1 e2 e3
  subst e0 e1 e2 e3
  have hbd := Go.bounds_u64 hw1
  have e : s.data.toList.length = s.size := by rw [Array.length_toList]; rfl
  refine ⟨⟨k, n', s, l⟩, A, c, rfl, hlc, hC, ?_, ?_⟩
  ·simp only [itemsN, textsN, Rows.uptoBulk, Rows.uptoBulkAll, List.map_cons, List.map_nil]; omega
  ·intro hk
   simp only [Rows.uptoBulk, Rows.uptoBulkAll, List.map_cons, List.map_nil] at hk
   rw [okV]; exact ⟨⟨⟨hbd.1, by omega⟩, by omega⟩, hok (by omega)⟩
end
end Go.Proofs.Ytdilbnggedidnaa.PVal
namespace Go.Proofs.Ytdilbnggedidnaa.PVal
open Go.RowKit Go.Shelf Go.Proofs.YtdilbnggedidnaaW.PrintWords Go.Proofs.YtdilbnggedidnaaW.PrintLast
set_option linter.unusedVariables false
set_option linter.unusedSimpArgs false
theorem below_bg {B g : Nat} {w a b : World} (h : Below B w a) (k : Bg g a b) (hg : B ≤ g) (hB : B ≤ a.heap.size) : Below B w b := ⟨k.os.trans h.os, k.tape.trans h.tape, k.output.trans h.output, Nat.le_trans h.size k.size, fun i hi => (k.block i (by omega) (by omega)).trans (h.block i hi)⟩
section
variable {w : World} {base g : Nat} {ts : List ByteArray} {v : S25}
end
def SyS (w : World) (x : S25) (A : Option Addr) (c : Nat) (base g : Nat) (l : List S25) (sp : Bool) (wa : World) : Prop :=
 Below w.heap.size w wa ∧ FS wa base g l sp ∧ Blk wa w.heap.size #[.int .u8 x.f0, .int .u64 x.f1, .string x.f2, .slice A x.f3.length c] 25 ∧ w.heap.size < g
theorem SyS.bg {w : World} {x : S25} {A : Option Addr} {c base g : Nat} {l : List S25} {sp sp' : Bool} {wa wb : World} (h : SyS w x A c base g l sp wa) (hf : FS wb base g l sp') (hb : Bg g wa wb) : SyS w x A c base g l sp' wb := by
 obtain ⟨h1, h2, h3, h4⟩ := h
 exact ⟨below_bg h1 hb (by omega) h1.size, hf, h3.bg hb (by omega), h4⟩
end Go.Proofs.Ytdilbnggedidnaa.PVal
namespace Go.Proofs.Ytdilbnggedidnaa.PVal
open Go.RowKit Go.Shelf Go.Proofs.YtdilbnggedidnaaW.PrintWords Go.Proofs.YtdilbnggedidnaaW.PrintLast
set_option linter.unusedVariables false
set_option linter.unusedSimpArgs false
structure Out where
 k : Int
 a : Int
 b : Int
 cond : ByteArray
def zOut : Out := ⟨0, 0, 0, ⟨#[]⟩⟩
def nmErr : ByteArray := ⟨#[97, 109, 113, 112, 58, 101, 114, 114, 111, 114, 58, 108, 105, 115, 116]⟩
def nmO1 : ByteArray := ⟨#[97, 109, 113, 112, 58, 114, 101, 99, 101, 105, 118, 101, 100, 58, 108, 105, 115, 116]⟩
def nmO2 : ByteArray := ⟨#[97, 109, 113, 112, 58, 97, 99, 99, 101, 112, 116, 101, 100, 58, 108, 105, 115, 116]⟩
def nmO3 : ByteArray := ⟨#[97, 109, 113, 112, 58, 114, 101, 106, 101, 99, 116, 101, 100, 58, 108, 105, 115, 116]⟩
def nmO4 : ByteArray := ⟨#[97, 109, 113, 112, 58, 114, 101, 108, 101, 97, 115, 101, 100, 58, 108, 105, 115, 116]⟩
def nmO5 : ByteArray := ⟨#[97, 109, 113, 112, 58, 109, 111, 100, 105, 102, 105, 101, 100, 58, 108, 105, 115, 116]⟩
def K2 : S25 → Bool := kindP [2]
def K5 : S25 → Bool := kindP [5]
def K6 : S25 → Bool := kindP [6]
def K20 : S25 → Bool := kindP [20]
def K21 : S25 → Bool := kindP [21]
def K23 : S25 → Bool := kindP [23]
def mayO (o : Out) : Bool :=
 if (o.cond.toList ≠ [] ∧ o.k ≠ 3) ∨ asciiB (bytesOf o.cond) = false then false
 else if o.k = 0 ∨ o.k = 2 ∨ o.k = 3 ∨ o.k = 4 then decide (o.a = 0 ∧ o.b = 0)
 else if o.k = 1 then decide (o.a ≤ 4294967295)
 else if o.k = 5 then decide (o.a ≤ 1 ∧ o.b ≤ 1)
 else false
def condV (s : ByteArray) : S25 := if s.toList = [] then vNul else putV 29 [symV s]
def getCondF (v : S25) : Option ByteArray :=
 if v.f0 = 1 then some ⟨#[]⟩
 else match newF v 29 nmErr with
  | none => none
  | some l => if doneN l ((spoilP l 0 true K21 || spoilP l 1 false K20) || spoilP l 2 false K23) 3 = 0 then some (tellP l 0 K21 (fun x => x.f2) ⟨#[]⟩) else none
def truthV (n : Int) : S25 := if n = 0 then vNul else vTru
def numV (k n : Int) : S25 := ⟨k, n, ⟨#[]⟩, []⟩
def putL (o : Out) : List S25 :=
 if o.k = 1 then [numV 5 o.a, numV 6 o.b] else if o.k = 3 then [condV o.cond] else if o.k = 5 then [truthV o.a, truthV o.b] else []
def putOV (o : Out) : S25 := if o.k = 0 then vNul else putV (34 + o.k) (putL o)
def getK (k : Int) (l : List S25) : Option Out :=
 if k = 1 then (if doneN l (spoilP l 0 true K5 || spoilP l 1 true K6) 2 = 0 then some ⟨1, tellP l 0 K5 (fun x => x.f1) 0, tellP l 1 K6 (fun x => x.f1) 0, ⟨#[]⟩⟩ else none)
 else if k = 3 then
  (let g := getCondF ((atF l 0).getD vNul)
  if doneN l (!g.isSome) 1 = 0 then some ⟨3, 0, 0, g.getD ⟨#[]⟩⟩ else none)
 else if k = 5 then (if doneN l ((spoilP l 0 false K2 || spoilP l 1 false K2) || spoilP l 2 false K23) 3 = 0 then some ⟨5, tellP l 0 K2 (fun x => x.f1) 0, tellP l 1 K2 (fun x => x.f1) 0, ⟨#[]⟩⟩ else none)
 else (if doneN l false 0 = 0 then some ⟨k, 0, 0, ⟨#[]⟩⟩ else none)
def nmO (k : Int) : ByteArray := if k = 1 then nmO1 else if k = 2 then nmO2 else if k = 3 then nmO3 else if k = 4 then nmO4 else nmO5
def getFrom (v : S25) : Nat → Int → Option Out
 | 0, _ => none
 | n + 1, k => match newF v (34 + k) (nmO k) with
  | none => getFrom v n (k + 1)
  | some l => getK k l
def getOF (v : S25) : Option Out := if v.f0 = 1 then some zOut else getFrom v 5 1
theorem toList_nil : ByteArray.toList ⟨#[]⟩ = [] := by rw [ByteArray.toList_eq]
theorem nil_of_toList {s : ByteArray} (h : s.toList = []) : s = ⟨#[]⟩ := toList_inj (h.trans toList_nil.symm)
theorem numB_code (n : Int) : numB 6 n = true := rfl
theorem right_put (code : Int) (l : List S25) : rightB (putV code l) = ((decide (depthL (trimL l) ≤ 14) && decide (itemsL (trimL l) ≤ 1021)) && mayL (trimL l)) := by
 have hd : depthN (putV code l) = depthL (trimL l) + 2 := by
  unfold putV
  simp only [depthN, depthL]
  omega
 have hi : itemsN (putV code l) = itemsL (trimL l) + 3 := by
  unfold putV
  simp only [itemsN, itemsL]
  omega
 have t6 : txtB 6 ⟨#[]⟩ = true := by unfold txtB; simp [toList_nil]
 have t22 : txtB 22 ⟨#[]⟩ = true := by unfold txtB; simp [toList_nil]
 have t25 : txtB 25 ⟨#[]⟩ = true := by unfold txtB; simp [toList_nil]
 have f25 : ∀ a b : S25, a.f0 = 6 → famB ⟨25, 0, ⟨#[]⟩, [a, b]⟩ = true := fun a b h => by
  unfold famB
  rw [if_neg (show ¬ (25 : Int) = 22 by decide), if_neg (show ¬ (25 : Int) = 23 by decide), if_neg (show ¬ (25 : Int) = 24 by decide), if_pos rfl]
  have : rd_T25 [a, b] 0 = a := rfl
  simp [this, h]
 have hm : mayB (putV code l) = mayL (trimL l) := by
  unfold putV
  simp only [mayB, mayL, t6, t22, t25, numB_code]
  rw [f25 _ _ rfl]
  rw [show numB 22 0 = true from rfl, show numB 25 0 = true from rfl, show famB ⟨6, code, ⟨#[]⟩, []⟩ = true from rfl, show ∀ l, famB ⟨22, 0, ⟨#[]⟩, l⟩ = true from fun _ => rfl]
  simp
 unfold rightB
 rw [hm, hd, hi]
 congr 2
 ·exact decide_eq_decide.mpr (by omega)
 ·exact decide_eq_decide.mpr (by omega)
theorem newF_other {code code' : Int} (h : code ≠ code') (l : List S25) (name : ByteArray) : newF (putV code l) code' name = none := by
 unfold newF
 rw [if_neg]
 rintro ⟨_, _, _, h4⟩
 unfold calledB at h4
 have e : rd_T25 (putV code l).f3 0 = ⟨6, code, ⟨#[]⟩, []⟩ := rfl
 rw [e] at h4
 simp [h] at h4
theorem newF_right {v : S25} {code : Int} {name : ByteArray} {l : List S25} (h : newF v code name = some l) : rightB v = true ∧ v.f0 = 25 ∧ (∀ x ∈ l, mayB x = true) ∧ (rd_T25 v.f3 1).f3 = l := by
 unfold newF at h
 split at h
 case isFalse => cases h
 case isTrue hq =>
  obtain ⟨hr, h25, h22, _⟩ := hq
  have hl := Option.some.inj h
  refine ⟨hr, h25, ?_, hl⟩
  obtain ⟨a, b, hab⟩ := desc_two hr h25
  have hb : rd_T25 v.f3 1 = b := by rw [hab]; rfl
  rw [hb] at hl
  unfold rightB at hr
  rw [Bool.and_eq_true] at hr
  have h2 := hr.2
  rw [mayB_eq, hab] at h2
  simp only [Bool.and_eq_true, mayL] at h2
  have h3 := h2.1.2.2.1
  rw [mayB_eq] at h3
  simp only [Bool.and_eq_true, mayL_all] at h3
  rw [← hl]
  exact fun x hx => List.all_eq_true.1 h3.1.2 x hx
theorem done_ok {l : List S25} {sp : Bool} {n : Int} (h : doneN l sp n = 0) : sp = false ∧ (l.length : Int) ≤ n := by
 unfold doneN at h
 split at h
 ·cases h
 ·rename_i hq
  simp at hq
  exact ⟨hq.1, hq.2⟩
theorem unspoilt {l : List S25} {i : Int} {m : Bool} {P : S25 → Bool} (h : spoilP l i m P = false) : (atF l i = none ∧ m = false) ∨ ∃ x, atF l i = some x ∧ P x = true := by
 unfold spoilP at h
 cases hx : atF l i with
 | none => rw [hx] at h; exact .inl ⟨rfl, h⟩
 | some x => rw [hx] at h; exact .inr ⟨x, rfl, by simpa using h⟩
theorem sym_ascii {x : S25} (h : mayB x = true) (hk : x.f0 = 21) : asciiB (bytesOf x.f2) = true := by
 rw [mayB_eq] at h
 simp only [Bool.and_eq_true] at h
 have := h.2.1.2
 rw [hk] at this
 exact this
theorem num_may {x : S25} (h : mayB x = true) : numB x.f0 x.f1 = true := by
 rw [mayB_eq] at h
 simp only [Bool.and_eq_true] at h
 exact h.2.1.1
theorem ascii_nil : asciiB (bytesOf ⟨#[]⟩) = true := rfl
theorem getCond_ascii {v : S25} {s : ByteArray} (h : getCondF v = some s) : asciiB (bytesOf s) = true := by
 unfold getCondF at h
 split at h
 ·rw [← Option.some.inj h]; exact ascii_nil
 ·split at h
  ·cases h
  ·rename_i l hl
   split at h
   ·rename_i hd
    obtain ⟨hs, _⟩ := done_ok hd
    simp only [Bool.or_eq_false_iff] at hs
    rcases unspoilt hs.1.1 with ⟨_, hm⟩ | ⟨x, hx, hP⟩
    ·cases hm
    ·have hmx := (newF_right hl).2.2.1 x (atF_mem hx)
     rw [← Option.some.inj h, tell_some hx, if_pos hP]
     unfold K21 at hP
     rw [kindP_one] at hP
     exact sym_ascii hmx (by simpa using hP)
   ·cases h
theorem mayO_one {a b : Int} (h : a ≤ 4294967295) : mayO ⟨1, a, b, ⟨#[]⟩⟩ = true := by
 unfold mayO
 simp [ascii_nil, toList_nil, h]
theorem mayO_five {a b : Int} (ha : a ≤ 1) (hb : b ≤ 1) : mayO ⟨5, a, b, ⟨#[]⟩⟩ = true := by
 unfold mayO
 simp [ascii_nil, toList_nil, ha, hb]
theorem mayO_zero {k : Int} {s : ByteArray} (hk : k = 0 ∨ k = 2 ∨ k = 3 ∨ k = 4) (hs : asciiB (bytesOf s) = true) (h3 : s = ⟨#[]⟩ ∨ k = 3) : mayO ⟨k, 0, 0, s⟩ = true := by
 unfold mayO
 rw [if_neg, if_pos hk, decide_eq_true_eq]
 ·exact ⟨rfl, rfl⟩
 ·rintro (h | h)
  ·rcases h3 with rfl | h3
   ·exact h.1 toList_nil
   ·exact h.2 h3
  ·rw [hs] at h; cases h
theorem getK_may {k : Int} {v : S25} {name : ByteArray} {l : List S25} {o : Out} {code : Int} (hl : newF v code name = some l) (hk : 1 ≤ k ∧ k ≤ 5) (h : getK k l = some o) : mayO o = true ∧ o.k = k := by
 have hmem := (newF_right hl).2.2.1
 unfold getK at h
 split at h
 ·rename_i h1
  split at h
  ·rename_i hd
   obtain ⟨hs, _⟩ := done_ok hd
   simp only [Bool.or_eq_false_iff] at hs
   rcases unspoilt hs.1 with ⟨_, hm⟩ | ⟨x, hx, hP⟩
   ·cases hm
   have hnx := num_may (hmem x (atF_mem hx))
   rw [← Option.some.inj h, tell_some hx, if_pos hP]
   unfold K5 at hP
   rw [kindP_one] at hP
   rw [show x.f0 = 5 by simpa using hP] at hnx
   have hlt : x.f1 < 4294967296 := of_decide_eq_true hnx
   exact ⟨mayO_one (by omega), h1.symm⟩
  ·cases h
 split at h
 ·rename_i h3
  have h' := h
  simp only [] at h'
  split at h'
  ·rename_i hd
   have hs := (done_ok hd).1
   obtain ⟨g, hg⟩ : ∃ g, getCondF ((atF l 0).getD vNul) = some g := by
    cases hq : getCondF ((atF l 0).getD vNul) with
    | none => rw [hq] at hs; cases hs
    | some g => exact ⟨g, rfl⟩
   rw [hg] at h'
   rw [← Option.some.inj h']
   have := getCond_ascii hg
   exact ⟨mayO_zero (.inr (.inr (.inl rfl))) this (.inr rfl), h3.symm⟩
  ·cases h'
 split at h
 ·rename_i h5
  split at h
  ·rename_i hd
   have hs := (done_ok hd).1
   simp only [Bool.or_eq_false_iff] at hs
   have hb : ∀ i, spoilP l i false K2 = false → tellP l i K2 (fun x => x.f1) 0 ≤ 1 := fun i hi => by
    rcases unspoilt hi with ⟨hn, _⟩ | ⟨x, hx, hP⟩
    ·rw [tell_none hn]; decide
    ·have hnx := num_may (hmem x (atF_mem hx))
     rw [tell_some hx, if_pos hP]
     unfold K2 at hP
     rw [kindP_one] at hP
     rw [show x.f0 = 2 by simpa using hP] at hnx
     exact of_decide_eq_true hnx
   rw [← Option.some.inj h]
   exact ⟨mayO_five (hb 0 hs.1.1) (hb 1 hs.1.2), h5.symm⟩
  ·cases h
 ·rename_i h1 h3 h5
  split at h
  ·rw [← Option.some.inj h]
   exact ⟨mayO_zero (by omega) ascii_nil (.inl rfl), rfl⟩
  ·cases h
theorem getFrom_may {v : S25} {o : Out} : ∀ {n : Nat} {k : Int}, 1 ≤ k → k + n ≤ 6 → getFrom v n k = some o → mayO o = true ∧ (1 ≤ o.k ∧ o.k ≤ 5)
 | 0, _, _, _, h => by cases h
 | n + 1, k, h1, h2, h => by
  rw [getFrom] at h
  split at h
  ·exact getFrom_may (n := n) (by omega) (by omega) h
  ·rename_i l hl
   obtain ⟨ha, hb⟩ := getK_may hl ⟨h1, by omega⟩ h
   exact ⟨ha, by omega⟩
theorem get_may {v : S25} {o : Out} (h : getOF v = some o) : mayO o = true := by
 unfold getOF at h
 split at h
 ·rw [← Option.some.inj h]; exact mayO_zero (.inl rfl) ascii_nil (.inl rfl)
 ·exact (getFrom_may (by omega) (by omega) h).1
end Go.Proofs.Ytdilbnggedidnaa.PVal
namespace Go.Proofs.Ytdilbnggedidnaa.PVal
open Go.RowKit Go.Shelf Go.Proofs.YtdilbnggedidnaaW.PrintWords Go.Proofs.YtdilbnggedidnaaW.PrintLast
set_option linter.unusedVariables false
set_option linter.unusedSimpArgs false
theorem trim_one {x : S25} (h : x.f0 ≠ 1) : trimL [x] = [x] := by
 unfold trimL
 rw [show [x].length = 0 + 1 from rfl, trimTo, if_neg (show ¬ (rd_T25 [x] ((0 : Nat) : Int)).f0 = 1 from h)]
 rfl
theorem trim_nul : trimL [vNul] = [] := by kernel_rfl
theorem trim_two {x y : S25} (h : y.f0 ≠ 1) : trimL [x, y] = [x, y] := by
 unfold trimL
 rw [show [x, y].length = 1 + 1 from rfl, trimTo, if_neg (show ¬ (rd_T25 [x, y] ((1 : Nat) : Int)).f0 = 1 from h)]
 rfl
theorem may_num (k n : Int) (hk : k = 5 ∨ k = 6) (h : numB k n = true) : mayB (numV k n) = true := by
 rcases hk with rfl | rfl
 ·unfold numV
  rw [mayB_eq]
  show ((decide (1 ≤ (5 : Int) ∧ (5 : Int) ≤ 25) && mayL []) && ((numB 5 n && txtB 5 ⟨#[]⟩) && famB ⟨5, n, ⟨#[]⟩, []⟩)) = true
  rw [h, show txtB 5 ⟨#[]⟩ = true by unfold txtB; simp [toList_nil], show famB ⟨5, n, ⟨#[]⟩, []⟩ = true from rfl]
  rfl
 ·unfold numV
  rw [mayB_eq]
  show ((decide (1 ≤ (6 : Int) ∧ (6 : Int) ≤ 25) && mayL []) && ((numB 6 n && txtB 6 ⟨#[]⟩) && famB ⟨6, n, ⟨#[]⟩, []⟩)) = true
  rw [h, show txtB 6 ⟨#[]⟩ = true by unfold txtB; simp [toList_nil], show famB ⟨6, n, ⟨#[]⟩, []⟩ = true from rfl]
  rfl
theorem may_sym {s : ByteArray} (h : asciiB (bytesOf s) = true) : mayB (symV s) = true := by
 unfold symV
 rw [mayB_eq]
 show ((decide (1 ≤ (21 : Int) ∧ (21 : Int) ≤ 25) && mayL []) && ((numB 21 0 && txtB 21 s) && famB ⟨21, 0, s, []⟩)) = true
 rw [show txtB 21 s = asciiB (bytesOf s) from rfl, h]
 rfl
theorem right_nul : rightB vNul = true := by kernel_rfl
theorem cond_put {s : ByteArray} (h : asciiB (bytesOf s) = true) (hn : s.toList ≠ []) : rightB (putV 29 [symV s]) = true ∧ getCondF (putV 29 [symV s]) = some s := by
 have ht : trimL [symV s] = [symV s] := trim_one (show (21 : Int) ≠ 1 by decide)
 have hr : rightB (putV 29 [symV s]) = true := by
  rw [right_put, ht, mayL, mayL, may_sym h]
  rfl
 refine ⟨hr, ?_⟩
 unfold getCondF
 rw [if_neg (show ¬ (putV 29 [symV s]).f0 = 1 from (show ¬ (25 : Int) = 1 by decide)), newF_put, if_pos hr, ht]
 have a0 : atF [symV s] 0 = some (symV s) := rfl
 have a1 : atF [symV s] 1 = none := rfl
 have a2 : atF [symV s] 2 = none := rfl
 show (if doneN [symV s] ((spoilP [symV s] 0 true K21 || spoilP [symV s] 1 false K20) || spoilP [symV s] 2 false K23) 3 = 0 then some (tellP [symV s] 0 K21 (fun x => x.f2) ⟨#[]⟩) else none) = _
 rw [spoil_some a0, spoil_none a1, spoil_none a2, tell_some a0, show K21 (symV s) = true from rfl]
 rfl
theorem condV_get {s : ByteArray} (h : asciiB (bytesOf s) = true) : getCondF (condV s) = some s := by
 unfold condV
 split
 ·rename_i hn
  rw [nil_of_toList hn]
  rfl
 ·rename_i hn
  exact (cond_put h hn).2
theorem condV_null {s : ByteArray} : ((condV s).f0 == 1) = s.toList.isEmpty := by
 unfold condV
 cases hs : s.toList with
 | nil => rfl
 | cons a b => rfl
theorem mayO_cases {o : Out} (h : mayO o = true) : asciiB (bytesOf o.cond) = true ∧ (o.cond = ⟨#[]⟩ ∨ o.k = 3) ∧ ((o.k = 0 ∨ o.k = 2 ∨ o.k = 3 ∨ o.k = 4) ∧ o.a = 0 ∧ o.b = 0 ∨ o.k = 1 ∧ o.a ≤ 4294967295 ∨ o.k = 5 ∧ o.a ≤ 1 ∧ o.b ≤ 1) := by
 unfold mayO at h
 split at h
 ·cases h
 rename_i h0
 have h1 : asciiB (bytesOf o.cond) = true := by
  cases hq : asciiB (bytesOf o.cond) with
  | true => rfl
  | false => exact (h0 (.inr hq)).elim
 have h2 : o.cond = ⟨#[]⟩ ∨ o.k = 3 := by
  by_cases hk : o.k = 3
  ·exact .inr hk
  ·refine .inl (nil_of_toList (Classical.byContradiction fun hn => h0 (.inl ⟨hn, hk⟩)))
 refine ⟨h1, h2, ?_⟩
 split at h
 ·rename_i hk
  exact .inl ⟨hk, of_decide_eq_true h⟩
 split at h
 ·rename_i hk
  exact .inr (.inl ⟨hk, of_decide_eq_true h⟩)
 split at h
 ·rename_i hk
  exact .inr (.inr ⟨hk, of_decide_eq_true h⟩)
 ·cases h
theorem Out.ext' {o p : Out} (h0 : o.k = p.k) (h1 : o.a = p.a) (h2 : o.b = p.b) (h3 : o.cond = p.cond) : o = p := by cases o; cases p; simp_all
theorem getFrom_at {k : Int} {l : List S25} (h1 : 1 ≤ k) (h5 : k ≤ 5) (hr : rightB (putV (34 + k) l) = true) : ∀ (n : Nat) (j : Int), 1 ≤ j → j ≤ k → k < j + n → getFrom (putV (34 + k) l) n j = getK k (trimL l)
 | 0, j, _, _, h => by omega
 | n + 1, j, hj, hk, hn => by
  rw [getFrom]
  by_cases e : j = k
  ·subst e
   rw [newF_put, if_pos hr]
  ·rw [newF_other (by omega)]
   exact getFrom_at h1 h5 hr n (j + 1) (by omega) (by omega) (by omega)
theorem get_at {k : Int} {l : List S25} (h1 : 1 ≤ k) (h5 : k ≤ 5) (hr : rightB (putV (34 + k) l) = true) : getOF (putV (34 + k) l) = getK k (trimL l) := by
 unfold getOF
 rw [if_neg (show ¬ (putV (34 + k) l).f0 = 1 from (show ¬ (25 : Int) = 1 by decide))]
 exact getFrom_at h1 h5 hr 5 1 (by omega) h1 (by omega)
theorem get_put {o : Out} (h : mayO o = true) (ha : 0 ≤ o.a) (hb : 0 ≤ o.b) : getOF (putOV o) = some o ∧ rightB (putOV o) = true := by
 obtain ⟨hasc, hc, hk⟩ := mayO_cases h
 by_cases k0 : o.k = 0
 ·unfold putOV
  rw [if_pos k0]
  refine ⟨?_, right_nul⟩
  have hz : o.cond = ⟨#[]⟩ := by rcases hc with hc | hc; exact hc; omega
  rw [show getOF vNul = some zOut from rfl]
  congr 1
  exact Out.ext' k0.symm (show (0 : Int) = o.a by omega) (show (0 : Int) = o.b by omega) hz.symm
 by_cases k1 : o.k = 1
 ·have hz : o.cond = ⟨#[]⟩ := by rcases hc with hc | hc; exact hc; omega
  have hl : putL o = [numV 5 o.a, numV 6 o.b] := by unfold putL; rw [if_pos k1]
  have ht : trimL (putL o) = [numV 5 o.a, numV 6 o.b] := by rw [hl]; exact trim_two (show (6 : Int) ≠ 1 by decide)
  have hr : rightB (putV (34 + o.k) (putL o)) = true := by
   rw [right_put, ht, mayL, mayL, mayL, may_num 5 _ (.inl rfl) (show decide (o.a < 4294967296) = true by rw [decide_eq_true_eq]; omega), may_num 6 _ (.inr rfl) rfl]
   rfl
  unfold putOV
  rw [if_neg k0]
  refine ⟨?_, hr⟩
  rw [get_at (by omega) (by omega) hr, ht]
  unfold getK
  have a0 : atF [numV 5 o.a, numV 6 o.b] 0 = some (numV 5 o.a) := rfl
  have a1 : atF [numV 5 o.a, numV 6 o.b] 1 = some (numV 6 o.b) := rfl
  rw [if_pos k1, spoil_some a0, spoil_some a1, tell_some a0, tell_some a1, show K5 (numV 5 o.a) = true from rfl, show K6 (numV 6 o.b) = true from rfl]
  show some _ = some o
  congr 1
  exact Out.ext' k1.symm rfl rfl hz.symm
 by_cases k3 : o.k = 3
 ·have hl : putL o = [condV o.cond] := by unfold putL; rw [if_neg k1, if_pos k3]
  by_cases hn : o.cond.toList = []
  ·have ht : trimL (putL o) = [] := by
    rw [hl]
    unfold condV
    rw [if_pos hn]
    exact trim_nul
   have hr : rightB (putV (34 + o.k) (putL o)) = true := by
    rw [right_put, ht]
    rfl
   unfold putOV
   rw [if_neg k0]
   refine ⟨?_, hr⟩
   rw [get_at (by omega) (by omega) hr, ht]
   unfold getK
   rw [if_neg k1, if_pos k3]
   show some _ = some o
   congr 1
   exact Out.ext' k3.symm (show (0 : Int) = o.a by omega) (show (0 : Int) = o.b by omega) (nil_of_toList hn).symm
  ·have hcv : condV o.cond = putV 29 [symV o.cond] := by unfold condV; rw [if_neg hn]
   obtain ⟨hcr, hcg⟩ := cond_put hasc hn
   have ht : trimL (putL o) = [putV 29 [symV o.cond]] := by
    rw [hl, hcv]
    exact trim_one (show (25 : Int) ≠ 1 by decide)
   have hcm : mayB (putV 29 [symV o.cond]) = true := by
    unfold rightB at hcr
    rw [Bool.and_eq_true] at hcr
    exact hcr.2
   have hts : trimL [symV o.cond] = [symV o.cond] := trim_one (show (21 : Int) ≠ 1 by decide)
   have hr : rightB (putV (34 + o.k) (putL o)) = true := by
    rw [right_put, ht, mayL, mayL, hcm]
    unfold putV
    rw [hts]
    rfl
   unfold putOV
   rw [if_neg k0]
   refine ⟨?_, hr⟩
   rw [get_at (by omega) (by omega) hr, ht]
   unfold getK
   rw [if_neg k1, if_pos k3]
   have a0 : atF [putV 29 [symV o.cond]] 0 = some (putV 29 [symV o.cond]) := rfl
   rw [a0]
   show (if doneN [putV 29 [symV o.cond]] (!(getCondF (putV 29 [symV o.cond])).isSome) 1 = 0 then some (Out.mk 3 0 0 ((getCondF (putV 29 [symV o.cond])).getD ⟨#[]⟩)) else none) = some o
   rw [hcg]
   show some _ = some o
   congr 1
   exact Out.ext' k3.symm (show (0 : Int) = o.a by omega) (show (0 : Int) = o.b by omega) rfl
 by_cases k5 : o.k = 5
 ·have hz : o.cond = ⟨#[]⟩ := by rcases hc with hc | hc; exact hc; omega
  have hl : putL o = [truthV o.a, truthV o.b] := by unfold putL; rw [if_neg k1, if_neg k3, if_pos k5]
  have hab : (o.a = 0 ∨ o.a = 1) ∧ (o.b = 0 ∨ o.b = 1) := by omega
  have key : rightB (putV (34 + 5) [truthV o.a, truthV o.b]) = true ∧ getK 5 (trimL [truthV o.a, truthV o.b]) = some ⟨5, o.a, o.b, ⟨#[]⟩⟩ := by
   obtain ⟨h0 | h0, h1 | h1⟩ := hab <;> rw [h0, h1] <;> exact ⟨by kernel_rfl, by kernel_rfl⟩
  unfold putOV
  rw [if_neg k0, hl, k5]
  refine ⟨?_, key.1⟩
  rw [get_at (by omega) (by omega) key.1, key.2]
  congr 1
  exact Out.ext' k5.symm rfl rfl hz.symm
 ·have hz : o.cond = ⟨#[]⟩ := by rcases hc with hc | hc; exact hc; omega
  have hl : putL o = [] := by unfold putL; rw [if_neg k1, if_neg k3, if_neg k5]
  have hr : rightB (putV (34 + o.k) (putL o)) = true := by
   rw [right_put, hl]
   rfl
  unfold putOV
  rw [if_neg k0]
  refine ⟨?_, hr⟩
  rw [get_at (by omega) (by omega) hr, hl]
  unfold getK
  rw [if_neg k1, if_neg k3, if_neg k5]
  show some _ = some o
  congr 1
  exact Out.ext' rfl (show (0 : Int) = o.a by omega) (show (0 : Int) = o.b by omega) hz.symm
end Go.Proofs.Ytdilbnggedidnaa.PVal
namespace Go.Proofs.Ytdilbnggedidnaa.PVal
open Go.RowKit Go.Shelf Go.Proofs.YtdilbnggedidnaaW.PrintWords Go.Proofs.YtdilbnggedidnaaW.PrintLast
set_option linter.unusedVariables false
set_option linter.unusedSimpArgs false
theorem Bg.far {g : Nat} {w w' : World} (h : Bg g w w') {p : Addr} (hp : w.heap.size ≤ p.block) (v : Value) : Bg g w (w'.setCell p v) := ⟨h.os, h.tape, h.output, by simpa [World.setCell] using h.size, fun k hk hg => (Below.heap_setCell _ _ _ k (by omega)).trans (h.block k hk hg)⟩
end Go.Proofs.Ytdilbnggedidnaa.PVal
namespace Go.Proofs.Ytdilbnggedidnaa.PVal
open Go.RowKit Go.Shelf Go.Proofs.YtdilbnggedidnaaW.PrintWords Go.Proofs.YtdilbnggedidnaaW.PrintLast
set_option linter.unusedVariables false
set_option linter.unusedSimpArgs false
structure Ask where
 what : Int
 at_ : Int
 kind : Int
 must : Bool
 none_ : Int
 K : Option Addr
 nk : Nat
 ck : Nat
def Ask.cells (a : Ask) : List Value := [.int .i64 a.what, .int .i64 a.at_, .int .u8 a.kind, .bool a.must, .int .u64 a.none_, .slice a.K a.nk a.ck]
def zAsk : Ask := ⟨0, 0, 0, false, 0, none, 0, 0⟩
theorem cell_stays {w w' : World} {p : Addr} {u : Value} (h : w.cell? p = some u) (hb : Below w.heap.size w w') : w'.cell? p = some u := by
 have hl : p.block < w.heap.size := by
  apply Classical.byContradiction
  intro hn
  have : w.heap[p.block]? = none := by simp; omega
  simp [World.cell?, this] at h
 exact (hb.cell hl).trans h
def AskC (w : World) (A : Option Addr) (xs : List Ask) : Prop := 0 < xs.length → ∃ ad, A = some ad ∧ ∀ i, i < xs.length → ∀ j u, (xs.getD i zAsk).cells[j]? = some u → w.cell? (ad.add (i * 6 + j)) = some u
theorem AskC.below {w w' : World} {A : Option Addr} {xs : List Ask} (h : AskC w A xs) (hb : Below w.heap.size w w') : AskC w' A xs := fun hl => by
 obtain ⟨ad, e, hc⟩ := h hl
 exact ⟨ad, e, fun i hi j u hj => cell_stays (hc i hi j u hj) hb⟩
def Ask.k (a : Ask) : Int := if a.what = 2 then 2 else a.kind
end Go.Proofs.Ytdilbnggedidnaa.PVal
namespace Go.Proofs.Ytdilbnggedidnaa.PVal
open Go.RowKit Go.Shelf Go.Proofs.YtdilbnggedidnaaW.PrintWords Go.Proofs.YtdilbnggedidnaaW.PrintLast
set_option linter.unusedVariables false
set_option linter.unusedSimpArgs false
def FSB (w : World) (base g B : Nat) (l : List S25) (sp : Bool) : Prop := ∃ A c, Blk w g #[.slice A l.length c, .bool sp] 94 ∧ k25.R 25 w base (fun k => k ≠ g ∧ k < B) (.slice A l.length c) l
theorem FS.toB {w : World} {base g : Nat} {l : List S25} {sp : Bool} (h : FS w base g l sp) : FSB w base g w.heap.size l sp := by
 obtain ⟨A, c, h1, h2⟩ := h
 exact ⟨A, c, h1, Kd.R_mono (Kd.R_bound h2) (fun k hk => ⟨hk.1, hk.2.2.1⟩)⟩
theorem FSB.fs {w : World} {base g B : Nat} {l : List S25} {sp : Bool} (h : FSB w base g B l sp) : FS w base g l sp := by
 obtain ⟨A, c, h1, h2⟩ := h
 exact ⟨A, c, h1, Kd.R_mono h2 (fun k hk => hk.1)⟩
theorem FSB.below {w w' : World} {base g B : Nat} {l : List S25} {sp : Bool} (h : FSB w base g B l sp) (hb : Below w.heap.size w w') : FSB w' base g B l sp := by
 obtain ⟨A, c, h1, h2⟩ := h
 exact ⟨A, c, h1.below hb, Kd.R_below h2 hb⟩
theorem FSB.set {w : World} {base g B : Nat} {l : List S25} {sp : Bool} (h : FSB w base g B l sp) (b : Bool) : FSB (w.setCell ⟨g, 1, none⟩ (.bool b)) base g B l b := by
 obtain ⟨A, c, h1, h2⟩ := h
 exact ⟨A, c, blk_put h1 1 _ rfl, Kd.R_far h2 (fun _ hk => hk.1) _⟩
theorem FSB.far {w : World} {base g B : Nat} {l : List S25} {sp : Bool} (h : FSB w base g B l sp) {p : Addr} (hp : B ≤ p.block) (hg : g < B) (v : Value) : FSB (w.setCell p v) base g B l sp := by
 obtain ⟨A, c, h1, h2⟩ := h
 exact ⟨A, c, h1.far (by omega) v, Kd.R_far h2 (fun k hk => by omega) v⟩
set_option maxRecDepth 100000 in
set_option maxHeartbeats 2000000 in
theorem spoil50_set {w : World} {base g : Nat} {l : List S25} {sp : Bool} (hf : FS w base g l sp) :
  Calls Try.prog 50 #[.pointer (some ⟨g, 0, none⟩)] w fun e w' => e = .returned (.tuple #[]) ∧ w.setCell ⟨g, 1, none⟩ (.bool true) = w' := by
 obtain ⟨A, c, hB, hR⟩ := hf
 obtain ⟨p0, p1⟩ := hB.c2
 have fz := hB.fz
 clear hB hR
 go_enter Try.func50, Try.ntmps50
 go_wp2_with fail
 go_end0
 exact ⟨rfl, rfl⟩
def zVal : S25 := ⟨0, 0, ⟨#[]⟩, []⟩
def put4 (W : World) (r : Nat) (a0 a1 a2 a3 : Value) : World := (((W.setCell ⟨r, 0, none⟩ a0).setCell ⟨r, 1, none⟩ a1).setCell ⟨r, 2, none⟩ a2).setCell ⟨r, 3, none⟩ a3
theorem put4_blk {W : World} {r : Nat} {z0 z1 z2 z3 : Value} {t : TypeId} (h : Blk W r #[z0, z1, z2, z3] t) (a0 a1 a2 a3 : Value) : Blk (put4 W r a0 a1 a2 a3) r #[a0, a1, a2, a3] t := by
 refine blk_put (cs := #[a0, a1, a2, z3]) ?_ 3 _ rfl
 refine blk_put (cs := #[a0, a1, z2, z3]) ?_ 2 _ rfl
 refine blk_put (cs := #[a0, z1, z2, z3]) ?_ 1 _ rfl
 exact blk_put (cs := #[z0, z1, z2, z3]) h 0 _ rfl
theorem put4_below {r : Nat} {w W : World} (h : Below w.heap.size w W) (hr : w.heap.size ≤ r) (a0 a1 a2 a3 : Value) : Below w.heap.size w (put4 W r a0 a1 a2 a3) := below_set (below_set (below_set (below_set h hr) hr) hr) hr
theorem put4_fsb {W : World} {base g B r : Nat} {l : List S25} {sp : Bool} (h : FSB W base g B l sp) (hr : B ≤ r) (hg : g < B) (a0 a1 a2 a3 : Value) : FSB (put4 W r a0 a1 a2 a3) base g B l sp := (((h.far hr hg _).far hr hg _).far hr hg _).far hr hg _
theorem put4_bg {W w : World} {g r : Nat} (h : Bg g w W) (hr : w.heap.size ≤ r) (a0 a1 a2 a3 : Value) : Bg g w (put4 W r a0 a1 a2 a3) := (((h.far hr _).far hr _).far hr _).far hr _
theorem put4_R {W : World} {e B b r : Nat} {ok : Nat → Prop} {v : Value} {l : List S25} (h : k25.R e W B ok v l) (hb : b ≤ B) (hr : r < B) (a0 a1 a2 a3 : Value) : k25.R e (put4 W r a0 a1 a2 a3) b ok v l :=
 R_lower_far h hb ((((SetsBelow.nil.snoc (p := ⟨r, 0, none⟩) hr _).snoc (p := ⟨r, 1, none⟩) hr _).snoc (p := ⟨r, 2, none⟩) hr _).snoc (p := ⟨r, 3, none⟩) hr _)
def ValPost (r : S25) (base g B : Nat) (l : List S25) (sp : Bool) (w : World) (e : Ending) (w' : World) : Prop :=
 ∃ A c, e = .returned (.agg #[.int .u8 r.f0, .int .u64 r.f1, .string r.f2, .slice A r.f3.length c]) ∧ k25.R 25 w' w.heap.size (fun _ => True) (.slice A r.f3.length c) r.f3 ∧ FSB w' base g B l sp ∧ Bg g w w'
set_option maxRecDepth 100000 in
set_option maxHeartbeats 4000000 in
theorem tell104_of {w : World} {base g B : Nat} {l : List S25} {sp : Bool} (hf : FSB w base g B l sp) (hBw : B ≤ w.heap.size) (hgB : g < B) (hk : ∀ x ∈ l, itemsN x ≤ 4294967296) (i : Int) (b : Nat) (P : S25 → Bool) (hF : Fit 98 [.pointer (some ⟨b, 0, none⟩)] P w) :
  Calls Try.prog 104 #[.pointer (some ⟨g, 0, none⟩), .int .i64 i, .bool false, .agg #[.int .u8 1, .int .u64 0, .string ⟨#[]⟩, .slice none 0 0], .func (.func 98) #[] #[.pointer (some ⟨b, 0, none⟩)], .func (.func 31) #[] #[]] w (ValPost (tellP l i P (fun x => x) vNul) base g B l (sp || spoilP l i false P) w) := by
 have HFS0 := Aside0.mk hf
 have HF := Aside0.mk hF
 clear hF
 cases h : atF l i with
 | none =>
  have HH := Aside0.mk h
  have HT := Aside0.mk (tell_none h P (fun x => x) vNul)
  have HS := Aside0.mk (spoil_none h false P)
  clear hf h
  go_enter Try.func104, Try.ntmps104
  go_wp2_with fail
  have bN := (Blk.new w #[.int .u8 1, .int .u64 0, .string ⟨#[]⟩, .slice none 0 0] 25).alloc (.cells #[.int .u8 0, .int .u64 0, .string ⟨#[]⟩, .slice none 0 0] 25)
  have bR := Blk.new (w.alloc (.cells #[.int .u8 1, .int .u64 0, .string ⟨#[]⟩, .slice none 0 0] 25)) #[.int .u8 0, .int .u64 0, .string ⟨#[]⟩, .slice none 0 0] 25
  have hb0 := below_alloc (below_alloc (Below.refl w.heap.size w) (.cells #[.int .u8 1, .int .u64 0, .string ⟨#[]⟩, .slice none 0 0] 25)) (.cells #[.int .u8 0, .int .u64 0, .string ⟨#[]⟩, .slice none 0 0] 25)
  rw [World.size_alloc] at bR
  obtain ⟨w1, e1⟩ : ∃ W, (w.alloc (.cells #[.int .u8 1, .int .u64 0, .string ⟨#[]⟩, .slice none 0 0] 25)).alloc (.cells #[.int .u8 0, .int .u64 0, .string ⟨#[]⟩, .slice none 0 0] 25) = W := ⟨_, rfl⟩
  rw [e1] at bN bR hb0 ⊢
  clear e1
  have HB0 := Aside0.mk hb0
  have BN := Aside0.mk bN
  have BR := Aside0.mk bR
  clear hb0 bN bR
  refine (at95_none (HFS0.out.below HB0.out).fs i HH.out).mono ?_
  rintro e w2 ⟨rfl, hb⟩
  have hal := below_alloc hb (.cells #[.int .u8 1, .int .u64 0, .string ⟨#[]⟩, .slice none 0 0] 25)
  have HB := Aside0.mk (below_step HB0.out hal)
  have bN2 := BN.out.below hal
  have bR2 := BR.out.below hal
  have BR2 := Aside0.mk bR2
  obtain ⟨p0, p1, p2, p3⟩ := bN2.c4
  obtain ⟨q0, q1, q2, q3⟩ := bR2.c4
  have f2 := bR2.fz
  clear hal hb bN2 bR2
  go_upto_region 3 with fail
  generalize w2.alloc (.cells #[.int .u8 1, .int .u64 0, .string ⟨#[]⟩, .slice none 0 0] 25) = w3 at *
  go_wp2_with fail
  refine bodyPost_ret (results_cell_row rfl _ _ (w.heap.size + 1) 25 #[.int .u8 1, .int .u64 0, .string ⟨#[]⟩, .slice none 0 0] (0, 0) _ rfl (put4_blk BR2.out _ _ _ _) Try.underlying25 rfl (by kernel_rfl)) rfl ?_
  refine ⟨none, 0, by rw [HT.out]; rfl, by rw [HT.out]; exact Kd.R_nil _ _ _ _ _, ?_, ?_⟩
  ·rw [HS.out, Bool.or_false]
   exact put4_fsb (HFS0.out.below HB.out) (by omega) hgB _ _ _ _
  ·exact put4_bg (Bg.of HB.out) (by omega) _ _ _ _
 | some x =>
  have HH := Aside0.mk h
  have HT0 := Aside0.mk (tell_some h P (fun x => x) vNul)
  have HS0 := Aside0.mk (spoil_some h false P)
  have hxl := hk x (atF_mem h)
  clear hf h
  go_enter Try.func104, Try.ntmps104
  go_wp2_with fail
  have bN := (Blk.new w #[.int .u8 1, .int .u64 0, .string ⟨#[]⟩, .slice none 0 0] 25).alloc (.cells #[.int .u8 0, .int .u64 0, .string ⟨#[]⟩, .slice none 0 0] 25)
  have bR := Blk.new (w.alloc (.cells #[.int .u8 1, .int .u64 0, .string ⟨#[]⟩, .slice none 0 0] 25)) #[.int .u8 0, .int .u64 0, .string ⟨#[]⟩, .slice none 0 0] 25
  have hb0 := below_alloc (below_alloc (Below.refl w.heap.size w) (.cells #[.int .u8 1, .int .u64 0, .string ⟨#[]⟩, .slice none 0 0] 25)) (.cells #[.int .u8 0, .int .u64 0, .string ⟨#[]⟩, .slice none 0 0] 25)
  rw [World.size_alloc] at bR
  obtain ⟨w1, e1⟩ : ∃ W, (w.alloc (.cells #[.int .u8 1, .int .u64 0, .string ⟨#[]⟩, .slice none 0 0] 25)).alloc (.cells #[.int .u8 0, .int .u64 0, .string ⟨#[]⟩, .slice none 0 0] 25) = W := ⟨_, rfl⟩
  rw [e1] at bN bR hb0 ⊢
  clear e1
  have HB0 := Aside0.mk hb0
  have BN := Aside0.mk bN
  have BR := Aside0.mk bR
  clear hb0 bN bR
  refine (at95_some (HFS0.out.below HB0.out).fs i x HH.out).mono ?_
  rintro e w2 ⟨A, c, rfl, hb, hl, hC⟩
  have bX := Blk.new w2 #[.int .u8 x.f0, .int .u64 x.f1, .string x.f2, .slice A x.f3.length c] 25
  have hal := below_alloc (Below.refl w2.heap.size w2) (.cells #[.int .u8 x.f0, .int .u64 x.f1, .string x.f2, .slice A x.f3.length c] 25)
  have hbb := below_step hb hal
  have HB1 := Aside0.mk (below_step HB0.out hbb)
  have HC := Aside0.mk (Kd.C_below hC hal)
  have BN1 := Aside0.mk (BN.out.below hbb)
  have BR1 := Aside0.mk (BR.out.below hbb)
  clear hb hC hal hbb BN BR
  obtain ⟨p0, p1, p2, p3⟩ := bX.c4
  go_wp2_with fail
  refine (HF.out x A c _ HB1.out HC.out hl).mono ?_
  rintro e w3 ⟨rfl, hb3⟩
  have bX3 := bX.below hb3
  have HB := Aside0.mk (below_step HB1.out hb3)
  have HC3 := Aside0.mk (Kd.C_below HC.out hb3)
  have BN3 := Aside0.mk (BN1.out.below hb3)
  have BR3 := Aside0.mk (BR1.out.below hb3)
  clear p0 p1 p2 p3 bX hb3 BN1 BR1
  cases hP : P x with
  | true =>
   have HT : Aside0 (tellP l i P (fun x => x) vNul = x) := ⟨by rw [HT0.out, hP]; rfl⟩
   have HS : Aside0 (spoilP l i false P = false) := ⟨by rw [HS0.out, hP]; rfl⟩
   clear hP
   obtain ⟨p0, p1, p2, p3⟩ := bX3.c4
   go_wp2_with fail
   refine (copy31_any x hxl A c _ HC3.out hl).mono ?_
   rintro e w4 ⟨A4, c4, rfl, hm⟩
   have HM := Aside0.mk hm
   have HB4 := Aside0.mk (below_step HB.out hm.2)
   have bR4 := BR3.out.below hm.2
   have BR4 := Aside0.mk bR4
   obtain ⟨q0, q1, q2, q3⟩ := bR4.c4
   have f2 := bR4.fz
   have hr4 := BR3.out.lt
   clear p0 p1 p2 p3 bX3 hm bR4
   go_wp2_with fail
   refine bodyPost_ret (results_cell_row rfl _ _ (w.heap.size + 1) 25 #[.int .u8 x.f0, .int .u64 x.f1, .string x.f2, .slice A4 x.f3.length c4] (0, 0) _ rfl (put4_blk BR4.out _ _ _ _) Try.underlying25 rfl (by kernel_rfl)) rfl ?_
   refine ⟨A4, c4, by rw [HT.out], ?_, ?_, ?_⟩
   ·rw [HT.out]
    exact put4_R HM.out.1 (by omega) hr4 _ _ _ _
   ·rw [HS.out, Bool.or_false]
    exact put4_fsb (HFS0.out.below HB4.out) (by omega) hgB _ _ _ _
   ·exact put4_bg (Bg.of HB4.out) (by omega) _ _ _ _
  | false =>
   have HT : Aside0 (tellP l i P (fun x => x) vNul = vNul) := ⟨by rw [HT0.out, hP]; rfl⟩
   have HS : Aside0 (spoilP l i false P = true) := ⟨by rw [HS0.out, hP]; rfl⟩
   clear hP bX3
   go_wp2_with fail
   refine (spoil50_set (HFS0.out.below HB.out).fs).mono ?_
   rintro e w4 ⟨rfl, hw4⟩
   have HFT := Aside0.mk ((HFS0.out.below HB.out).set true)
   have HBT := Aside0.mk ((Bg.of (g := g) HB.out).set 1 (.bool true))
   have bN4 := BN3.out.far (p := ⟨g, 1, none⟩) (show w.heap.size ≠ g by omega) (.bool true)
   have bR4 := BR3.out.far (p := ⟨g, 1, none⟩) (show w.heap.size + 1 ≠ g by omega) (.bool true)
   rw [hw4] at HFT HBT bN4 bR4
   have BR4 := Aside0.mk bR4
   obtain ⟨p0, p1, p2, p3⟩ := bN4.c4
   obtain ⟨q0, q1, q2, q3⟩ := bR4.c4
   have f2 := bR4.fz
   clear hw4 bN4 bR4
   go_wp2_with fail
   refine bodyPost_ret (results_cell_row rfl _ _ (w.heap.size + 1) 25 #[.int .u8 1, .int .u64 0, .string ⟨#[]⟩, .slice none 0 0] (0, 0) _ rfl (put4_blk BR4.out _ _ _ _) Try.underlying25 rfl (by kernel_rfl)) rfl ?_
   refine ⟨none, 0, by rw [HT.out]; rfl, by rw [HT.out]; exact Kd.R_nil _ _ _ _ _, ?_, ?_⟩
   ·rw [HS.out, Bool.or_true]
    exact put4_fsb HFT.out (by omega) hgB _ _ _ _
   ·exact put4_bg HBT.out (by omega) _ _ _ _
def allP (x : S25) : Bool := true
set_option maxRecDepth 100000 in
set_option maxHeartbeats 4000000 in
theorem tell104_all {w : World} {base g B : Nat} {l : List S25} {sp : Bool} (hf : FSB w base g B l sp) (hBw : B ≤ w.heap.size) (hgB : g < B) (hk : ∀ x ∈ l, itemsN x ≤ 4294967296) (i : Int)  :
  Calls Try.prog 104 #[.pointer (some ⟨g, 0, none⟩), .int .i64 i, .bool false, .agg #[.int .u8 1, .int .u64 0, .string ⟨#[]⟩, .slice none 0 0], .func (.func 103) #[] #[], .func (.func 31) #[] #[]] w (ValPost (tellP l i allP (fun x => x) vNul) base g B l (sp || spoilP l i false allP) w) := by
 have HFS0 := Aside0.mk hf
 cases h : atF l i with
 | none =>
  have HH := Aside0.mk h
  have HT := Aside0.mk (tell_none h allP (fun x => x) vNul)
  have HS := Aside0.mk (spoil_none h false allP)
  clear hf h
  go_enter Try.func104, Try.ntmps104
  go_wp2_with fail
  have bN := (Blk.new w #[.int .u8 1, .int .u64 0, .string ⟨#[]⟩, .slice none 0 0] 25).alloc (.cells #[.int .u8 0, .int .u64 0, .string ⟨#[]⟩, .slice none 0 0] 25)
  have bR := Blk.new (w.alloc (.cells #[.int .u8 1, .int .u64 0, .string ⟨#[]⟩, .slice none 0 0] 25)) #[.int .u8 0, .int .u64 0, .string ⟨#[]⟩, .slice none 0 0] 25
  have hb0 := below_alloc (below_alloc (Below.refl w.heap.size w) (.cells #[.int .u8 1, .int .u64 0, .string ⟨#[]⟩, .slice none 0 0] 25)) (.cells #[.int .u8 0, .int .u64 0, .string ⟨#[]⟩, .slice none 0 0] 25)
  rw [World.size_alloc] at bR
  obtain ⟨w1, e1⟩ : ∃ W, (w.alloc (.cells #[.int .u8 1, .int .u64 0, .string ⟨#[]⟩, .slice none 0 0] 25)).alloc (.cells #[.int .u8 0, .int .u64 0, .string ⟨#[]⟩, .slice none 0 0] 25) = W := ⟨_, rfl⟩
  rw [e1] at bN bR hb0 ⊢
  clear e1
  have HB0 := Aside0.mk hb0
  have BN := Aside0.mk bN
  have BR := Aside0.mk bR
  clear hb0 bN bR
  refine (at95_none (HFS0.out.below HB0.out).fs i HH.out).mono ?_
  rintro e w2 ⟨rfl, hb⟩
  have hal := below_alloc hb (.cells #[.int .u8 1, .int .u64 0, .string ⟨#[]⟩, .slice none 0 0] 25)
  have HB := Aside0.mk (below_step HB0.out hal)
  have bN2 := BN.out.below hal
  have bR2 := BR.out.below hal
  have BR2 := Aside0.mk bR2
  obtain ⟨p0, p1, p2, p3⟩ := bN2.c4
  obtain ⟨q0, q1, q2, q3⟩ := bR2.c4
  have f2 := bR2.fz
  clear hal hb bN2 bR2
  go_upto_region 3 with fail
  generalize w2.alloc (.cells #[.int .u8 1, .int .u64 0, .string ⟨#[]⟩, .slice none 0 0] 25) = w3 at *
  go_wp2_with fail
  refine bodyPost_ret (results_cell_row rfl _ _ (w.heap.size + 1) 25 #[.int .u8 1, .int .u64 0, .string ⟨#[]⟩, .slice none 0 0] (0, 0) _ rfl (put4_blk BR2.out _ _ _ _) Try.underlying25 rfl (by kernel_rfl)) rfl ?_
  refine ⟨none, 0, by rw [HT.out]; rfl, by rw [HT.out]; exact Kd.R_nil _ _ _ _ _, ?_, ?_⟩
  ·rw [HS.out, Bool.or_false]
   exact put4_fsb (HFS0.out.below HB.out) (by omega) hgB _ _ _ _
  ·exact put4_bg (Bg.of HB.out) (by omega) _ _ _ _
 | some x =>
  have HH := Aside0.mk h
  have HT0 := Aside0.mk (tell_some h allP (fun x => x) vNul)
  have HS0 := Aside0.mk (spoil_some h false allP)
  have hxl := hk x (atF_mem h)
  clear hf h
  go_enter Try.func104, Try.ntmps104
  go_wp2_with fail
  have bN := (Blk.new w #[.int .u8 1, .int .u64 0, .string ⟨#[]⟩, .slice none 0 0] 25).alloc (.cells #[.int .u8 0, .int .u64 0, .string ⟨#[]⟩, .slice none 0 0] 25)
  have bR := Blk.new (w.alloc (.cells #[.int .u8 1, .int .u64 0, .string ⟨#[]⟩, .slice none 0 0] 25)) #[.int .u8 0, .int .u64 0, .string ⟨#[]⟩, .slice none 0 0] 25
  have hb0 := below_alloc (below_alloc (Below.refl w.heap.size w) (.cells #[.int .u8 1, .int .u64 0, .string ⟨#[]⟩, .slice none 0 0] 25)) (.cells #[.int .u8 0, .int .u64 0, .string ⟨#[]⟩, .slice none 0 0] 25)
  rw [World.size_alloc] at bR
  obtain ⟨w1, e1⟩ : ∃ W, (w.alloc (.cells #[.int .u8 1, .int .u64 0, .string ⟨#[]⟩, .slice none 0 0] 25)).alloc (.cells #[.int .u8 0, .int .u64 0, .string ⟨#[]⟩, .slice none 0 0] 25) = W := ⟨_, rfl⟩
  rw [e1] at bN bR hb0 ⊢
  clear e1
  have HB0 := Aside0.mk hb0
  have BN := Aside0.mk bN
  have BR := Aside0.mk bR
  clear hb0 bN bR
  refine (at95_some (HFS0.out.below HB0.out).fs i x HH.out).mono ?_
  rintro e w2 ⟨A, c, rfl, hb, hl, hC⟩
  have bX := Blk.new w2 #[.int .u8 x.f0, .int .u64 x.f1, .string x.f2, .slice A x.f3.length c] 25
  have hal := below_alloc (Below.refl w2.heap.size w2) (.cells #[.int .u8 x.f0, .int .u64 x.f1, .string x.f2, .slice A x.f3.length c] 25)
  have hbb := below_step hb hal
  have HB1 := Aside0.mk (below_step HB0.out hbb)
  have HC := Aside0.mk (Kd.C_below hC hal)
  have BN1 := Aside0.mk (BN.out.below hbb)
  have BR1 := Aside0.mk (BR.out.below hbb)
  clear hb hC hal hbb BN BR
  obtain ⟨p0, p1, p2, p3⟩ := bX.c4
  go_wp2_with fail
  refine (all103_any x A c _).mono ?_
  rintro e w3 ⟨rfl, hb3⟩
  have bX3 := bX.below hb3
  have HB := Aside0.mk (below_step HB1.out hb3)
  have HC3 := Aside0.mk (Kd.C_below HC.out hb3)
  have BN3 := Aside0.mk (BN1.out.below hb3)
  have BR3 := Aside0.mk (BR1.out.below hb3)
  clear p0 p1 p2 p3 bX hb3 BN1 BR1
  have hP : allP x = true := rfl
  have HT : Aside0 (tellP l i allP (fun x => x) vNul = x) := ⟨by rw [HT0.out, hP]; rfl⟩
  have HS : Aside0 (spoilP l i false allP = false) := ⟨by rw [HS0.out, hP]; rfl⟩
  clear hP
  obtain ⟨p0, p1, p2, p3⟩ := bX3.c4
  go_wp2_with fail
  refine (copy31_any x hxl A c _ HC3.out hl).mono ?_
  rintro e w4 ⟨A4, c4, rfl, hm⟩
  have HM := Aside0.mk hm
  have HB4 := Aside0.mk (below_step HB.out hm.2)
  have bR4 := BR3.out.below hm.2
  have BR4 := Aside0.mk bR4
  obtain ⟨q0, q1, q2, q3⟩ := bR4.c4
  have f2 := bR4.fz
  have hr4 := BR3.out.lt
  clear p0 p1 p2 p3 bX3 hm bR4
  go_wp2_with fail
  refine bodyPost_ret (results_cell_row rfl _ _ (w.heap.size + 1) 25 #[.int .u8 x.f0, .int .u64 x.f1, .string x.f2, .slice A4 x.f3.length c4] (0, 0) _ rfl (put4_blk BR4.out _ _ _ _) Try.underlying25 rfl (by kernel_rfl)) rfl ?_
  refine ⟨A4, c4, by rw [HT.out], ?_, ?_, ?_⟩
  ·rw [HT.out]
   exact put4_R HM.out.1 (by omega) hr4 _ _ _ _
  ·rw [HS.out, Bool.or_false]
   exact put4_fsb (HFS0.out.below HB4.out) (by omega) hgB _ _ _ _
  ·exact put4_bg (Bg.of HB4.out) (by omega) _ _ _ _
def kindsP (ks : List Int) : S25 → Bool := if ks = [] then allP else kindP ks
set_option maxRecDepth 100000 in
set_option maxHeartbeats 2000000 in
theorem value77_any {w : World} {base g : Nat} {l : List S25} {sp : Bool} (hf : FS w base g l sp) (hk : ∀ x ∈ l, itemsN x ≤ 4294967296) (i : Int) (ks : List Int) (B : Option Addr) (d : Nat) (hK : Kd.C (Kd.int .u8) w B ks.length ks) (hd : ks.length ≤ d) :
  Calls Try.prog 77 #[.pointer (some ⟨g, 0, none⟩), .int .i64 i, .slice B ks.length d] w (ValPost (tellP l i (kindsP ks) (fun x => x) vNul) base g w.heap.size l (sp || spoilP l i false (kindsP ks)) w) := by
 have HF := Aside0.mk hf.toB
 have HK := Aside0.mk hk
 have HKC := Aside0.mk hK
 have hg := hf.lt
 clear hf hk hK
 go_enter Try.func77, Try.ntmps77
 go_wp2_with fail
 have bR := Blk.new w #[.int .u8 0, .int .u64 0, .string ⟨#[]⟩, .slice none 0 0] 25
 have hb0 := below_alloc (Below.refl w.heap.size w) (.cells #[.int .u8 0, .int .u64 0, .string ⟨#[]⟩, .slice none 0 0] 25)
 obtain ⟨w1, e1⟩ : ∃ W, w.alloc (.cells #[.int .u8 0, .int .u64 0, .string ⟨#[]⟩, .slice none 0 0] 25) = W := ⟨_, rfl⟩
 rw [e1] at bR hb0 ⊢
 clear e1
 have HB1 := Aside0.mk hb0
 have BR1 := Aside0.mk bR
 clear hb0 bR
 refine (of68_any _ _ _ _).mono ?_
 rintro e w2 ⟨rfl, hw2⟩
 have hal := below_alloc (Below.refl w1.heap.size w1) (.cells #[.slice B ks.length d] 63)
 have bS := Blk.new w1 #[.slice B ks.length d] 63
 rw [← hw2] at hal bS
 have HBS := Aside0.mk bS
 have HB2 := Aside0.mk (below_step HB1.out hal)
 have BR2 := Aside0.mk (BR1.out.below hal)
 have HKC2 := Aside0.mk (Kd.C_below HKC.out HB2.out)
 have hs1 := HB1.out.size
 have hr2 := BR2.out.lt
 clear hal bS hw2
 cases ks with
 | nil =>
  go_wp2_with fail
  refine (null26_any _).mono ?_
  rintro e w3 ⟨rfl, hb3⟩
  have HB3 := Aside0.mk (below_step HB2.out hb3)
  have BR3 := Aside0.mk (BR2.out.below hb3)
  clear hb3
  go_wp2_with fail
  refine (tell104_all (HF.out.below HB3.out) HB3.out.size hg HK.out i).mono ?_
  rintro e w4 ⟨A4, c4, rfl, hR4, hF4, hB4⟩
  have HR4 := Aside0.mk hR4
  have HF4 := Aside0.mk hF4
  have HB4 := Aside0.mk ((Bg.of (g := g) HB3.out).trans hB4)
  have bR4 := BR3.out.bg hB4 (by omega)
  have BR4 := Aside0.mk bR4
  obtain ⟨q0, q1, q2, q3⟩ := bR4.c4
  have f2 := bR4.fz
  have hr3 := BR3.out.lt
  have hs3 := HB3.out.size
  clear hR4 hF4 hB4 bR4
  go_wp2_with fail
  refine bodyPost_ret (results_cell_row rfl _ _ w.heap.size 25 #[.int .u8 _, .int .u64 _, .string _, .slice A4 _ c4] (0, 0) _ rfl (put4_blk BR4.out _ _ _ _) Try.underlying25 rfl (by kernel_rfl)) rfl ?_
  exact ⟨A4, c4, rfl, put4_R HR4.out (by omega) hr3 _ _ _ _, put4_fsb HF4.out (Nat.le_refl _) hg _ _ _ _, put4_bg HB4.out (Nat.le_refl _) _ _ _ _⟩
 | cons k ks =>
  have hlk : ((k :: ks).length == 0) = false := rfl
  have HFt := Aside0.mk (fit98 (k :: ks) B d _ _ HBS.out HKC2.out hd)
  obtain ⟨n, hn⟩ : ∃ n, (k :: ks).length = n := ⟨_, rfl⟩
  have hn0 : ((n : Int) == 0) = false := by rw [← hn]; simp; omega
  rw [hn]
  clear hn hlk
  go_wp2_with fail
  refine (null26_any _).mono ?_
  rintro e w3 ⟨rfl, hb3⟩
  have HB3 := Aside0.mk (below_step HB2.out hb3)
  have BR3 := Aside0.mk (BR2.out.below hb3)
  have HFt3 := Aside0.mk (HFt.out.later hb3)
  clear hb3
  go_wp2_with fail
  refine (tell104_of (HF.out.below HB3.out) HB3.out.size hg HK.out i _ _ HFt3.out).mono ?_
  rintro e w4 ⟨A4, c4, rfl, hR4, hF4, hB4⟩
  have HR4 := Aside0.mk hR4
  have HF4 := Aside0.mk hF4
  have HB4 := Aside0.mk ((Bg.of (g := g) HB3.out).trans hB4)
  have bR4 := BR3.out.bg hB4 (by omega)
  have BR4 := Aside0.mk bR4
  obtain ⟨q0, q1, q2, q3⟩ := bR4.c4
  have f2 := bR4.fz
  have hr3 := BR3.out.lt
  have hs3 := HB3.out.size
  clear hR4 hF4 hB4 bR4
  go_wp2_with fail
  refine bodyPost_ret (results_cell_row rfl _ _ w.heap.size 25 #[.int .u8 _, .int .u64 _, .string _, .slice A4 _ c4] (0, 0) _ rfl (put4_blk BR4.out _ _ _ _) Try.underlying25 rfl (by kernel_rfl)) rfl ?_
  exact ⟨A4, c4, rfl, put4_R HR4.out (by omega) hr3 _ _ _ _, put4_fsb HF4.out (Nat.le_refl _) hg _ _ _ _, put4_bg HB4.out (Nat.le_refl _) _ _ _ _⟩
end Go.Proofs.Ytdilbnggedidnaa.PVal
namespace Go.Proofs.Ytdilbnggedidnaa.PVal
open Go.RowKit Go.Shelf Go.Proofs.YtdilbnggedidnaaW.PrintWords Go.Proofs.YtdilbnggedidnaaW.PrintLast
set_option linter.unusedVariables false
set_option linter.unusedSimpArgs false
theorem ret_bool {p q : Bool} (h : p = q) : Ending.returned (.bool p) = Ending.returned (.bool q) := by rw [h]
theorem mayO_no {k a b : Int} {s : ByteArray} (h : s.toList ≠ [] ∧ k ≠ 3 ∨ asciiB (bytesOf s) = false) : mayO ⟨k, a, b, s⟩ = false := by
 unfold mayO
 rw [if_pos h]
theorem mayO_ok {k a b : Int} {s : ByteArray} (h1 : s.toList = [] ∨ k = 3) (h2 : asciiB (bytesOf s) = true) : mayO ⟨k, a, b, s⟩ = if k = 0 ∨ k = 2 ∨ k = 3 ∨ k = 4 then decide (a = 0 ∧ b = 0) else if k = 1 then decide (a ≤ 4294967295) else if k = 5 then decide (a ≤ 1 ∧ b ≤ 1) else false := by
 unfold mayO
 rw [if_neg]
 rintro (h | h)
 ·rcases h1 with h1 | h1
  ·exact h.1 h1
  ·exact h.2 h1
 ·rw [h2] at h; cases h
set_option maxRecDepth 100000 in
set_option maxHeartbeats 4000000 in
theorem may84_any (k a b : Int) (s : ByteArray) (hs : s.size ≤ 4294967290) (w : World) :
  Calls Try.prog 84 #[.agg #[.int .u8 k, .int .u64 a, .int .u64 b, .string s]] w fun e w' => e = .returned (.bool (mayO ⟨k, a, b, s⟩)) ∧ Below w.heap.size w w' := by
 have kb := conv_run s
 have hb := bytesOf_length s
 have HBB := Aside0.mk hb
 clear hb
 obtain ⟨t, et⟩ : ∃ t, asciiB (bytesOf s) = t := ⟨_, rfl⟩
 have HT := Aside0.mk et
 clear et
 cases hn : s.toList.isEmpty with
 | true =>
  have hs0 : s.toList = [] := by simpa using hn
  obtain rfl := nil_of_toList hs0
  have HS0 := Aside0.mk hs0
  clear hs0 hn
  go_enter Try.func84, Try.ntmps84
  go_wp2_with fail
  refine (ascii86_any (bytesOf ⟨#[]⟩) (by rw [HBB.out]; omega) _ _ _ ?_ ?_).mono ?_
  ·have := conv_reads (w.alloc (.cells #[.int .u8 k, .int .u64 a, .int .u64 b, .string ⟨#[]⟩] 72)) ⟨#[]⟩ hs
   rw [World.size_alloc] at this
   exact this
  ·rw [HBB.out]; exact grownCap_ge _ _ _ _
  rintro e w2 ⟨he, hb⟩
  rw [HT.out] at he
  subst he
  have hbb := below_step (bytes_below (Below.refl _ _) (Nat.le_refl _) 5 ⟨#[]⟩) hb
  have bX := (Blk.new w #[.int .u8 k, .int .u64 a, .int .u64 b, .string ⟨#[]⟩] 72).below hbb
  have HW : Aside0 (Below w.heap.size w w2) := ⟨below_step ((Below.refl _ _).alloc (Nat.le_refl _) _) hbb⟩
  obtain ⟨p0, p1, p2, p3⟩ := bX.c4
  clear hb hbb bX
  cases t with
  | false =>
   have HE := Aside0.mk (mayO_no (k := k) (a := a) (b := b) (.inr HT.out))
   go_wp2_with fail
   go_ret
   exact ⟨ret_bool (p := false) HE.out.symm, HW.out⟩
  | true =>
   have HE := Aside0.mk (mayO_ok (k := k) (a := a) (b := b) (.inl HS0.out) HT.out)
   by_cases k0 : k = 0
   ·subst k0
    cases ha : (a == 0) with
    | true =>
     go_wp2_with fail
     go_ret
     exact ⟨ret_bool (p := b == 0) (by rw [HE.out, if_pos (by simp)]; simp at ha; rw [Bool.eq_iff_iff]; simp [ha]), HW.out⟩
    | false =>
     go_wp2_with fail
     go_ret
     exact ⟨ret_bool (p := false) (by rw [HE.out, if_pos (by simp)]; simp at ha; simp [ha]), HW.out⟩
   by_cases k2 : k = 2
   ·subst k2
    cases ha : (a == 0) with
    | true =>
     go_wp2_with fail
     go_ret
     exact ⟨ret_bool (p := b == 0) (by rw [HE.out, if_pos (by simp)]; simp at ha; rw [Bool.eq_iff_iff]; simp [ha]), HW.out⟩
    | false =>
     go_wp2_with fail
     go_ret
     exact ⟨ret_bool (p := false) (by rw [HE.out, if_pos (by simp)]; simp at ha; simp [ha]), HW.out⟩
   by_cases k3 : k = 3
   ·subst k3
    cases ha : (a == 0) with
    | true =>
     go_wp2_with fail
     go_ret
     exact ⟨ret_bool (p := b == 0) (by rw [HE.out, if_pos (by simp)]; simp at ha; rw [Bool.eq_iff_iff]; simp [ha]), HW.out⟩
    | false =>
     go_wp2_with fail
     go_ret
     exact ⟨ret_bool (p := false) (by rw [HE.out, if_pos (by simp)]; simp at ha; simp [ha]), HW.out⟩
   by_cases k4 : k = 4
   ·subst k4
    cases ha : (a == 0) with
    | true =>
     go_wp2_with fail
     go_ret
     exact ⟨ret_bool (p := b == 0) (by rw [HE.out, if_pos (by simp)]; simp at ha; rw [Bool.eq_iff_iff]; simp [ha]), HW.out⟩
    | false =>
     go_wp2_with fail
     go_ret
     exact ⟨ret_bool (p := false) (by rw [HE.out, if_pos (by simp)]; simp at ha; simp [ha]), HW.out⟩
   by_cases k1 : k = 1
   ·subst k1
    go_wp2_with fail
    go_ret
    exact ⟨ret_bool (p := decide (a ≤ 4294967295)) (by rw [HE.out]; rfl), HW.out⟩
   by_cases k5 : k = 5
   ·subst k5
    by_cases ha : a ≤ 1
    ·have ha' : decide (a ≤ 1) = true := by simpa using ha
     go_wp2_with fail
     go_ret
     exact ⟨ret_bool (p := decide (b ≤ 1)) (by rw [HE.out]; simp [ha]), HW.out⟩
    ·have ha' : decide (a ≤ 1) = false := by simpa using ha
     go_wp2_with fail
     go_ret
     exact ⟨ret_bool (p := false) (by rw [HE.out]; simp; intro h; omega), HW.out⟩
   have b0 : (k == 0) = false := by simpa using k0
   have b2 : (k == 2) = false := by simpa using k2
   have b3 : (k == 3) = false := by simpa using k3
   have b4 : (k == 4) = false := by simpa using k4
   have b1 : (k == 1) = false := by simpa using k1
   have b5 : (k == 5) = false := by simpa using k5
   go_wp2_with fail
   go_ret
   exact ⟨ret_bool (p := false) (by rw [HE.out, if_neg (by omega), if_neg k1, if_neg k5]), HW.out⟩
 | false =>
  have hs0 : s.toList ≠ [] := by intro h; rw [h] at hn; cases hn
  have HS0 := Aside0.mk hs0
  clear hs0
  have hn2 : (!s.toList.isEmpty) = true := by rw [hn]; rfl
  by_cases k3 : k = 3
  ·subst k3
   go_enter Try.func84, Try.ntmps84
   go_wp2_with fail
   refine (ascii86_any (bytesOf s) (by rw [HBB.out]; omega) _ _ _ ?_ ?_).mono ?_
   ·have := conv_reads (w.alloc (.cells #[.int .u8 3, .int .u64 a, .int .u64 b, .string s] 72)) s hs
    rw [World.size_alloc] at this
    exact this
   ·rw [HBB.out]; exact grownCap_ge _ _ _ _
   rintro e w2 ⟨he, hb⟩
   rw [HT.out] at he
   subst he
   have hbb := below_step (bytes_below (Below.refl _ _) (Nat.le_refl _) 5 s) hb
   have bX := (Blk.new w #[.int .u8 3, .int .u64 a, .int .u64 b, .string s] 72).below hbb
   have HW : Aside0 (Below w.heap.size w w2) := ⟨below_step ((Below.refl _ _).alloc (Nat.le_refl _) _) hbb⟩
   obtain ⟨p0, p1, p2, p3⟩ := bX.c4
   clear hb hbb bX
   cases t with
   | false =>
    have HE := Aside0.mk (mayO_no (k := 3) (a := a) (b := b) (.inr HT.out))
    go_wp2_with fail
    go_ret
    exact ⟨ret_bool (p := false) HE.out.symm, HW.out⟩
   | true =>
    have HE := Aside0.mk (mayO_ok (k := 3) (a := a) (b := b) (.inr rfl) HT.out)
    cases ha : (a == 0) with
    | true =>
     go_wp2_with fail
     go_ret
     exact ⟨ret_bool (p := b == 0) (by rw [HE.out, if_pos (by simp)]; simp at ha; rw [Bool.eq_iff_iff]; simp [ha]), HW.out⟩
    | false =>
     go_wp2_with fail
     go_ret
     exact ⟨ret_bool (p := false) (by rw [HE.out, if_pos (by simp)]; simp at ha; simp [ha]), HW.out⟩
  ·have b3 : (k != 3) = true := by simpa using k3
   have HE := Aside0.mk (mayO_no (k := k) (a := a) (b := b) (.inl ⟨HS0.out, k3⟩))
   clear k3
   go_enter Try.func84, Try.ntmps84
   go_wp2_with fail
   go_ret
   exact ⟨ret_bool (p := false) HE.out.symm, below_alloc (Below.refl _ _) _⟩
set_option maxHeartbeats 2000000 in
theorem truth114_any (n : Int) (w : World) : Calls Try.prog 114 #[.int .u64 n] w fun e w' => e = .returned (.agg #[.int .u8 (truthV n).f0, .int .u64 (truthV n).f1, .string ⟨#[]⟩, .slice none 0 0]) ∧ Below w.heap.size w w' := by
 by_cases h : n = 0
 ·subst h
  go_enter Try.func114, Try.ntmps114
  go_wp2_with fail
  have bR := Blk.new w #[.int .u8 0, .int .u64 0, .string ⟨#[]⟩, .slice none 0 0] 25
  have hal := below_alloc (Below.refl w.heap.size w) (.cells #[.int .u8 0, .int .u64 0, .string ⟨#[]⟩, .slice none 0 0] 25)
  refine (null26_any _).mono ?_
  rintro e w2 ⟨rfl, hb⟩
  have bR2 := bR.below hb
  have BR := Aside0.mk bR2
  have HB := Aside0.mk (below_step hal hb)
  obtain ⟨q0, q1, q2, q3⟩ := bR2.c4
  have f2 := bR2.fz
  clear bR hal hb bR2
  go_wp2_with fail
  exact bodyPost_ret (results_cell_row rfl _ _ w.heap.size 25 #[.int .u8 1, .int .u64 0, .string ⟨#[]⟩, .slice none 0 0] (0, 0) _ rfl (put4_blk BR.out _ _ _ _) Try.underlying25 rfl (by kernel_rfl)) rfl ⟨rfl, put4_below HB.out (Nat.le_refl _) _ _ _ _⟩
 ·have h0 : (n == 0) = false := by simpa using h
  have ht : truthV n = vTru := by unfold truthV; rw [if_neg h]
  rw [ht]
  clear ht h
  go_enter Try.func114, Try.ntmps114
  go_wp2_with fail
  have bR := Blk.new w #[.int .u8 0, .int .u64 0, .string ⟨#[]⟩, .slice none 0 0] 25
  have hal := below_alloc (Below.refl w.heap.size w) (.cells #[.int .u8 0, .int .u64 0, .string ⟨#[]⟩, .slice none 0 0] 25)
  refine (bool27_any true _).mono ?_
  rintro e w2 ⟨rfl, hb⟩
  have bR2 := bR.below hb
  have BR := Aside0.mk bR2
  have HB := Aside0.mk (below_step hal hb)
  obtain ⟨q0, q1, q2, q3⟩ := bR2.c4
  have f2 := bR2.fz
  clear bR hal hb bR2
  go_wp2_with fail
  exact bodyPost_ret (results_cell_row rfl _ _ w.heap.size 25 #[.int .u8 2, .int .u64 1, .string ⟨#[]⟩, .slice none 0 0] (0, 0) _ rfl (put4_blk BR.out _ _ _ _) Try.underlying25 rfl (by kernel_rfl)) rfl ⟨rfl, put4_below HB.out (Nat.le_refl _) _ _ _ _⟩
end Go.Proofs.Ytdilbnggedidnaa.PVal
namespace Go.Proofs.Ytdilbnggedidnaa.PVal
open Go.RowKit Go.Shelf Go.Proofs.YtdilbnggedidnaaW.PrintWords Go.Proofs.YtdilbnggedidnaaW.PrintLast
set_option linter.unusedVariables false
set_option linter.unusedSimpArgs false
theorem results54 (tmps : Array Value) (w : World) (g : Nat) (cs : Array Value) (n : Int) (hcs : cs.size = 4) (hp : tmps.getD 2 undef = .pointer (some ⟨g, 0, none⟩)) (hg : Blk w g cs 25) (hb : tmps.getD 3 undef = .int .i64 n) :
  (results Try.f54 tmps).run Try.prog w = .ok (.tuple #[.agg cs, .int .i64 n]) w := by
 have h1 : tmps[2]?.getD undef = .pointer (some ⟨g, 0, none⟩) := by simpa using hp
 have h2 : tmps[3]?.getD undef = .int .i64 n := by simpa using hb
 have hi : (Try.prog.info? 25).map (·.size) = some cs.size := by rw [hcs]; kernel_rfl
 have hr := run_loadVar_row (P := Try.prog) w g 25 25 cs (0, 0) _ hg Try.underlying25 rfl hi
 simp [results, Try.f54, h1, h2, asAddr, hr]
def ValErr (r : S25) (n : Int) (w : World) (e : Ending) (w' : World) : Prop :=
 ∃ A c, e = .returned (.tuple #[.agg #[.int .u8 r.f0, .int .u64 r.f1, .string r.f2, .slice A r.f3.length c], .int .i64 n]) ∧ k25.R 25 w' w.heap.size (fun _ => True) (.slice A r.f3.length c) r.f3 ∧ Below w.heap.size w w'
set_option maxRecDepth 100000 in
set_option maxHeartbeats 2000000 in
theorem put54_no (s : ByteArray) (hs : s.size ≤ 4294967290) (h : asciiB (bytesOf s) = false) (w : World) :
  Calls Try.prog 54 #[.string s] w (ValErr zVal 1 w) := by
 have kb := conv_run s
 have hb := bytesOf_length s
 have HBB := Aside0.mk hb
 have HT := Aside0.mk h
 clear hb h
 go_enter Try.func54, Try.ntmps54
 go_wp2_with fail
 refine (ascii86_any (bytesOf s) (by rw [HBB.out]; omega) _ _ _ ?_ ?_).mono ?_
 ·have := conv_reads (w.alloc (.cells #[.int .u8 0, .int .u64 0, .string ⟨#[]⟩, .slice none 0 0] 25)) s hs
  rw [World.size_alloc] at this
  exact this
 ·rw [HBB.out]; exact grownCap_ge _ _ _ _
 rintro e w2 ⟨he, hb⟩
 rw [HT.out] at he
 subst he
 have hbb := below_step (bytes_below (Below.refl _ _) (Nat.le_refl _) 5 s) hb
 have bR := (Blk.new w #[.int .u8 0, .int .u64 0, .string ⟨#[]⟩, .slice none 0 0] 25).below hbb
 have BR := Aside0.mk bR
 have HW : Aside0 (Below w.heap.size w w2) := ⟨below_step ((Below.refl _ _).alloc (Nat.le_refl _) _) hbb⟩
 clear hb hbb kb
 obtain ⟨q0, q1, q2, q3⟩ := bR.c4
 have f2 := bR.fz
 clear bR
 go_wp2_with fail
 refine bodyPost_ret (results54 _ _ w.heap.size #[.int .u8 0, .int .u64 0, .string ⟨#[]⟩, .slice none 0 0] 1 rfl rfl (put4_blk BR.out _ _ _ _) rfl) rfl ?_
 exact ⟨none, 0, rfl, Kd.R_nil _ _ _ _ _, put4_below HW.out (Nat.le_refl _) _ _ _ _⟩
set_option maxRecDepth 100000 in
set_option maxHeartbeats 4000000 in
theorem put54_yes (s : ByteArray) (hs : s.size ≤ 4294967290) (h : asciiB (bytesOf s) = true) (w : World) :
  Calls Try.prog 54 #[.string s] w (ValErr (condV s) 0 w) := by
 have kb := conv_run s
 have hb := bytesOf_length s
 have HBB := Aside0.mk hb
 have HT := Aside0.mk h
 clear hb h
 go_enter Try.func54, Try.ntmps54
 go_wp2_with fail
 refine (ascii86_any (bytesOf s) (by rw [HBB.out]; omega) _ _ _ ?_ ?_).mono ?_
 ·have := conv_reads (w.alloc (.cells #[.int .u8 0, .int .u64 0, .string ⟨#[]⟩, .slice none 0 0] 25)) s hs
  rw [World.size_alloc] at this
  exact this
 ·rw [HBB.out]; exact grownCap_ge _ _ _ _
 rintro e w2 ⟨he, hb⟩
 rw [HT.out] at he
 subst he
 have hbb := below_step (bytes_below (Below.refl _ _) (Nat.le_refl _) 5 s) hb
 have bR := (Blk.new w #[.int .u8 0, .int .u64 0, .string ⟨#[]⟩, .slice none 0 0] 25).below hbb
 have BR := Aside0.mk bR
 have HW : Aside0 (Below w.heap.size w w2) := ⟨below_step ((Below.refl _ _).alloc (Nat.le_refl _) _) hbb⟩
 clear hb hbb kb
 clear bR
 cases hn : s.toList.isEmpty with
 | true =>
  have hs0 : s.toList = [] := by simpa using hn
  obtain rfl := nil_of_toList hs0
  clear hs0 hn
  go_wp2_with fail
  refine (null26_any _).mono ?_
  rintro e w3 ⟨rfl, hb3⟩
  have HW3 := Aside0.mk (below_step HW.out hb3)
  have bR3 := BR.out.below hb3
  have BR3 := Aside0.mk bR3
  obtain ⟨q0, q1, q2, q3⟩ := bR3.c4
  have f2 := bR3.fz
  clear hb3 bR3
  go_wp2_with fail
  have HZ : condV ⟨#[]⟩ = vNul := by unfold condV; rw [if_pos toList_nil]
  rw [HZ]
  refine bodyPost_ret (results54 _ _ w.heap.size #[.int .u8 1, .int .u64 0, .string ⟨#[]⟩, .slice none 0 0] 0 rfl rfl (put4_blk BR3.out _ _ _ _) rfl) rfl ?_
  exact ⟨none, 0, rfl, Kd.R_nil _ _ _ _ _, put4_below HW3.out (Nat.le_refl _) _ _ _ _⟩
 | false =>
  have hs0 : s.toList ≠ [] := by intro h; rw [h] at hn; cases hn
  have HC : Aside0 (condV s = putV 29 [symV s]) := ⟨by unfold condV; rw [if_neg hs0]⟩
  have HT2 : Aside0 (trimL [symV s] = [symV s]) := ⟨trim_one (show (21 : Int) ≠ 1 by decide)⟩
  clear hs0
  go_wp2_with fail
  refine (text24_any 21 s _).mono ?_
  rintro e w3 ⟨rfl, hb3⟩
  have HW3 := Aside0.mk (below_step HW.out hb3)
  have BR3 := Aside0.mk (BR.out.below hb3)
  clear hb3
  go_wp2_with fail
  have bL := Blk.new w3 (flatK [⟨symV s, none, 0⟩]).toArray 25
  have hCL := C_lit (ks := [⟨symV s, none, 0⟩]) bL (by simp) (by
   intro q hq
   simp only [List.mem_cons, List.not_mem_nil, or_false] at hq
   rcases hq with rfl
   exact ⟨C_none _, Nat.le_refl _⟩)
  have hal := below_alloc (Below.refl w3.heap.size w3) (.cells #[.int .u8 21, .int .u64 0, .string s, .slice none 0 0] 25)
  refine (put39_any 29 [symV s] (by simp [itemsL, symV, itemsN]) _ 1 _ hCL (by simp)).mono ?_
  rintro e w4 ⟨A4, c4, rfl, hR4, hb4⟩
  have hb34 := below_step hal hb4
  have HW4 := Aside0.mk (below_step HW3.out hb34)
  have bR4 := BR3.out.below hb34
  have BR4 := Aside0.mk bR4
  have HR4 := Aside0.mk hR4
  obtain ⟨q0, q1, q2, q3⟩ := bR4.c4
  have f2 := bR4.fz
  have hr3 := BR3.out.lt
  clear bL hCL hal hb4 hb34 hR4 bR4
  go_wp2_with fail
  refine bodyPost_ret (results54 _ _ w.heap.size #[.int .u8 25, .int .u64 0, .string ⟨#[]⟩, .slice A4 2 c4] 0 rfl rfl (put4_blk BR4.out _ _ _ _) rfl) rfl ?_
  refine ⟨A4, c4, by rw [HC.out]; rfl, ?_, put4_below HW4.out (Nat.le_refl _) _ _ _ _⟩
  rw [HC.out]
  exact put4_R HR4.out (by rw [World.size_alloc]; omega) (by rw [World.size_alloc]; omega) _ _ _ _
def condSP (l : List S25) : Bool := (spoilP l 0 true K21 || spoilP l 1 false K20) || spoilP l 2 false K23
theorem done_or (l : List S25) (sp : Bool) (n : Int) : doneN l sp n = 0 ∨ doneN l sp n = 6 := by
 unfold doneN
 split
 ·exact .inr rfl
 ·exact .inl rfl
def CondErr (v : S25) (w : World) (e : Ending) (w' : World) : Prop :=
 e = .returned (.tuple #[.string ((getCondF v).getD ⟨#[]⟩), .int .i64 (if (getCondF v).isSome then 0 else 6)]) ∧ Below w.heap.size w w'
theorem newF_items {v : S25} {code : Int} {name : ByteArray} {l : List S25} (h : newF v code name = some l) : itemsL l ≤ itemsN v := by
 obtain ⟨hr, h25, _, rfl⟩ := newF_right h
 obtain ⟨a, b, hab⟩ := desc_two hr h25
 have hb : rd_T25 v.f3 1 = b := by rw [hab]; rfl
 rw [hb, itemsN_eq v, hab]
 simp only [itemsL]
 have := itemsN_eq b
 omega
set_option maxRecDepth 100000 in
set_option maxHeartbeats 4000000 in
theorem getCond55_any (v : S25) (hs : itemsN v ≤ 4294967296) (ho : okV v) (A : Option Addr) (c : Nat) (w : World) (ha : k25.C w A v.f3.length v.f3) (hc : v.f3.length ≤ c) :
  Calls Try.prog 55 #[.agg #[.int .u8 v.f0, .int .u64 v.f1, .string v.f2, .slice A v.f3.length c]] w (CondErr v w) := by
 have HA := Aside0.mk ha
 have HO := Aside0.mk ho
 have bX := Blk.new w #[.int .u8 v.f0, .int .u64 v.f1, .string v.f2, .slice A v.f3.length c] 25
 have hal := below_alloc (Below.refl w.heap.size w) (.cells #[.int .u8 v.f0, .int .u64 v.f1, .string v.f2, .slice A v.f3.length c] 25)
 have HA1 := Aside0.mk (Kd.C_below ha hal)
 have HB1 := Aside0.mk hal
 clear ha ho hal
 by_cases h1 : v.f0 = 1
 ·have HG : Aside0 (getCondF v = some ⟨#[]⟩) := ⟨by unfold getCondF; rw [if_pos h1]⟩
  have h1' : (v.f0 == 1) = true := by simpa using h1
  clear h1
  obtain ⟨p0, p1, p2, p3⟩ := bX.c4
  clear bX
  go_enter Try.func55, Try.ntmps55
  go_wp2_with fail
  go_ret2
  exact ⟨by rw [HG.out]; rfl, HB1.out⟩
 have h1' : (v.f0 == 1) = false := by simpa using h1
 have HN1 := Aside0.mk h1
 clear h1
 go_enter Try.func55, Try.ntmps55
 go_upto_region 1 with fail
 obtain ⟨b, eb⟩ : ∃ b, w.heap.size = b := ⟨_, rfl⟩
 obtain ⟨w1, e1⟩ : ∃ W, w.alloc (.cells #[.int .u8 v.f0, .int .u64 v.f1, .string v.f2, .slice A v.f3.length c] 25) = W := ⟨_, rfl⟩
 have EB := Aside0.mk eb
 rw [e1] at bX HA1 HB1 ⊢
 rw [eb] at bX ⊢
 clear e1 eb
 obtain ⟨p0, p1, p2, p3⟩ := bX.c4
 cases hnew : newF v 29 nmErr with
 | none =>
  have HG : Aside0 (getCondF v = none) := ⟨by unfold getCondF; rw [if_neg HN1.out, hnew]⟩
  have HN := Aside0.mk hnew
  clear hnew
  go_wp2_with fail
  refine (new44_no v hs HO.out 29 nmErr A c _ HA1.out hc HN.out).mono ?_
  rintro e w2 ⟨rfl, hb2⟩
  have HB2 := Aside0.mk (below_step HB1.out hb2)
  clear hb2 p0 p1 p2 p3 bX h1'
  go_wp2_with fail
  go_ret2
  exact ⟨by rw [HG.out]; rfl, HB2.out⟩
 | some l =>
  have HG : Aside0 (getCondF v = if doneN l (condSP l) 3 = 0 then some (tellP l 0 K21 (fun x => x.f2) ⟨#[]⟩) else none) := ⟨by unfold getCondF condSP; rw [if_neg HN1.out, hnew]⟩
  have HN := Aside0.mk hnew
  have hil := newF_items hnew
  have HKI : Aside0 (∀ x ∈ l, itemsN x ≤ 4294967296) := ⟨fun x hx => by have := itemsL_mem hx; omega⟩
  clear hnew hil
  go_wp2_with fail
  refine (new44_yes v hs HO.out 29 nmErr A c _ HA1.out hc HN.out).mono ?_
  rintro e w2 ⟨g, rfl, hg, hfs, hb2⟩
  have HF2 := Aside0.mk hfs
  have HB2 := Aside0.mk (below_step HB1.out hb2)
  have hgB : w.heap.size ≤ g := by have := HB1.out.size; omega
  clear hb2 p0 p1 p2 p3 bX h1' hfs
  go_wp2_with fail
  refine (text76_any HF2.out 0 21 true).mono ?_
  rintro e w3 ⟨rfl, hfs, hbg⟩
  have HF3 := Aside0.mk hfs
  have HB3 := Aside0.mk (below_bg HB2.out hbg hgB HB2.out.size)
  clear hfs hbg
  go_wp2_with fail
  refine (text76_any HF3.out 1 20 false).mono ?_
  rintro e w4 ⟨rfl, hfs, hbg⟩
  have HF4 := Aside0.mk hfs
  have HB4 := Aside0.mk (below_bg HB3.out hbg hgB HB3.out.size)
  clear hfs hbg
  go_upto_region 8 with fail
  go_wp2_with fail
  have bK := Blk.new w4 #[.int .u8 23] 5
  have hal5 := below_alloc (Below.refl w4.heap.size w4) (.cells #[.int .u8 23] 5)
  have HCK : Aside0 (Kd.C (Kd.int .u8) (w4.alloc (.cells #[.int .u8 23] 5)) (some ⟨w4.heap.size, 0, none⟩) [(23 : Int)].length [23]) := ⟨C_u8 bK⟩
  have HF5 := Aside0.mk (HF4.out.below hal5)
  have HB5 := Aside0.mk (below_step HB4.out hal5)
  clear bK hal5
  refine (value77_any HF5.out HKI.out 2 [23] _ 1 HCK.out (by decide)).mono ?_
  rintro e w6 ⟨A6, c6, rfl, hR6, hfs, hbg⟩
  have HF6 := Aside0.mk hfs.fs
  have HB6 := Aside0.mk (below_bg HB5.out hbg hgB HB5.out.size)
  clear hfs hbg hR6
  go_wp2_with fail
  refine (done43_any HF6.out 3).mono ?_
  rintro e w7 ⟨he, rfl⟩
  replace he : e = .returned (.int .i64 (doneN l (condSP l) 3)) := he
  rcases done_or l (condSP l) 3 with hd | hd
  ·rw [if_pos hd] at HG
   rw [hd] at he
   subst he
   clear hd
   go_wp2_with fail
   go_ret2
   exact ⟨by rw [HG.out]; rfl, HB6.out⟩
  ·rw [if_neg (by rw [hd]; decide)] at HG
   rw [hd] at he
   subst he
   clear hd
   go_wp2_with fail
   go_ret2
   exact ⟨by rw [HG.out]; rfl, HB6.out⟩
end Go.Proofs.Ytdilbnggedidnaa.PVal
