import Derived.Test.YtdilbnggedidnaaGreatQ3
set_option maxRecDepth 100000
set_option maxHeartbeats 8000000
namespace Go.Proofs.YtdilbnggedidnaaGreat.PVal
open Go.RowKit Go.Proofs.YtdilbnggedidnaaGreatW.PrintWords Go.Proofs.YtdilbnggedidnaaGreatW.PrintLast
attribute [local go_sem] max2_int max_two
set_option linter.unusedVariables false
set_option linter.unusedSimpArgs false
mutual
def value_alike.j0 : Nat → Bool → Int → Int → ByteArray → List (S25) → Int → Int → ByteArray → List (S25) → Option (Bool)
 | 0, _, _, _, _, _, _, _, _, _ => none
 | k + 1, x12, x102000, x102001, x102002, x102003, x103000, x103001, x103002, x103003 => if x12 = true then (some (x102000 == x103000)) else (if 0 < (x102003.length : Int) then (if 0 < (x103003.length : Int) then ((value_Same.f ((rd_T25 x102003 0).f0) ((rd_T25 x102003 0).f1) ((rd_T25 x102003 0).f2) ((rd_T25 x102003 0).f3) ((rd_T25 x103003 0).f0) ((rd_T25 x103003 0).f1) ((rd_T25 x103003 0).f2) ((rd_T25 x103003 0).f3)).bind fun t105 => (if t105 = true then (if 1 < (x102003.length : Int) then (if 1 < (x103003.length : Int) then ((value_alike.f k ((rd_T25 x102003 1).f0) ((rd_T25 x102003 1).f1) ((rd_T25 x102003 1).f2) ((rd_T25 x102003 1).f3) ((rd_T25 x103003 1).f0) ((rd_T25 x103003 1).f1) ((rd_T25 x103003 1).f2) ((rd_T25 x103003 1).f3)).bind fun t108 => (some t108)) else (none)) else (none)) else (some false))) else (none)) else (none))
def value_alike.f : Nat → Int → Int → ByteArray → List (S25) → Int → Int → ByteArray → List (S25) → Option (Bool)
 | 0, _, _, _, _, _, _, _, _ => none
 | k + 1, a0_0, a0_1, a0_2, l0_3, a1_0, a1_1, a1_2, l1_3 => if a0_0 = 25 then (value_alike.j0 k (a1_0 != 25) a0_0 a0_1 a0_2 l0_3 a1_0 a1_1 a1_2 l1_3) else (value_alike.j0 k true a0_0 a0_1 a0_2 l0_3 a1_0 a1_1 a1_2 l1_3)
end
def value_alike.T3 : Bool × List (List Nat × List Nat) := (true, [([], []), ([0], [0]), ([1], [1]), ([2], [2]), ([], []), ([4], [4]), ([5], [5]), ([6], [6]), ([3, 7], [3, 7]), ([8, 8], [8]), ([9], [9]), ([10, 9], [9, 10]), ([11, 9], [9, 11]), ([12, 9], [9, 12]), ([9], [9]), ([14, 9], [9, 14]), ([15, 9], [9, 15]), ([16, 9], [9, 16]), ([13, 17, 9, 9], [9, 13, 17]), ([9, 18], [9, 18]), ([19, 18, 0, 1, 2, 3, 4, 5, 6, 7, 8, 9, 10, 11, 12, 13, 14, 15, 16, 17, 18, 19], [19])])
def value_alike.B3 : List Nat := [0, 1, 3, 7, 0, 16, 48, 112, 255, 511, 1023, 2047, 4095, 8191, 1023, 17407, 50175, 115711, 262143, 524287, 1048575]
theorem value_alike.tab3 : rtab .any (opsOf Tryz.f96 3) = value_alike.T3 := by kernel_rfl
theorem value_alike.bits3 : waitsOk value_alike.T3.2 value_alike.B3 = true := by kernel_rfl
theorem value_alike.calls (k : Nat) : ∀ (a0_0 : Int) (a0_1 : Int) (a0_2 : ByteArray) (A0_3 : Option Addr) (c0_3 : Nat) (l0_3 : List (S25)) (a1_0 : Int) (a1_1 : Int) (a1_2 : ByteArray) (A1_3 : Option Addr) (c1_3 : Nat) (l1_3 : List (S25)) (r : Bool) (w : World) (hr0_3 : Kd.C k25 w A0_3 l0_3.length l0_3) (hc0_3 : l0_3.length ≤ c0_3) (hr1_3 : Kd.C k25 w A1_3 l1_3.length l1_3) (hc1_3 : l1_3.length ≤ c1_3) (h : value_alike.f k a0_0 a0_1 a0_2 l0_3 a1_0 a1_1 a1_2 l1_3 = some r),
  Calls Tryz.prog 96 #[.agg #[.int .u8 a0_0, .int .u64 a0_1, .string a0_2, .slice A0_3 l0_3.length c0_3], .agg #[.int .u8 a1_0, .int .u64 a1_1, .string a1_2, .slice A1_3 l1_3.length c1_3]] w fun e w' => e = .returned (.bool r) ∧ Below w.heap.size w w' := by
 induction k using Nat.strongRecOn with
 | _ k ih =>
 intro a0_0 a0_1 a0_2 A0_3 c0_3 l0_3 a1_0 a1_1 a1_2 A1_3 c1_3 l1_3 r w hr0_3 hc0_3 hr1_3 hc1_3 h
 cases k with
 | zero => exact absurd h (by simp [value_alike.f])
 | succ k =>
 simp only [value_alike.f] at h
 have hu25 := Tryz.underlying25
 have HR0_3 := Aside0.mk hr0_3
 have HC0_3 := Aside0.mk hc0_3
 clear hr0_3 hc0_3
 have HR1_3 := Aside0.mk hr1_3
 have HC1_3 := Aside0.mk hc1_3
 clear hr1_3 hc1_3
 have HB := Aside0.mk (Below.refl w.heap.size w)
 have H : (if a0_0 = 25 then (value_alike.j0 k (a1_0 != 25) a0_0 a0_1 a0_2 l0_3 a1_0 a1_1 a1_2 l1_3) else (value_alike.j0 k true a0_0 a0_1 a0_2 l0_3 a1_0 a1_1 a1_2 l1_3)) = some r := h
 clear h
 have HC3 := Aside0.mk H
 clear H
 go_enter Tryz.func96, Tryz.ntmps96
 go_upto_region 1 with (first | ((with_reducible refine gate_dst (N := 2) rfl ?_); refine box_event ?hg (N := 2) ?hd (cs := #[.int .u8 a0_0, .int .u64 a0_1, .string a0_2, .slice A0_3 l0_3.length c0_3]) (t := 25) ?hr ?_; (case hd => rfl); (case hg => rfl); (case hr => first | (go_simp; done) | (go_simp; rfl)); intro gb101 hg w4 hbox hb; have n0_ := Aside0.mk (below_step (by repeat (first | (with_reducible first | exact HB.out | apply below_alloc | apply pw_below_drewN | apply below_drew1) | exact HB.out)) hb); have n1_ := Aside0.mk (hbox); have n2_ := Aside0.mk ((by rw [hg]; exact (below_size (by repeat (first | (with_reducible first | exact HB.out | apply below_alloc | apply pw_below_drewN | apply below_drew1) | exact HB.out))) : w.heap.size ≤ gb101)); have n3_ := Aside0.mk ((by rw [hg]; exact (below_size (by repeat (first | (with_reducible first | exact HB.out | apply below_alloc | apply pw_below_drewN | apply below_drew1) | exact HB.out))) : w.heap.size ≤ gb101)); clear HB; have HB := n0_; have BK101 := n1_; have GW101 := n2_; have GE101 := n3_; clear n0_ n1_ n2_ n3_; clear hb hbox hg) | ((with_reducible refine gate_dst (N := 3) rfl ?_); refine box_event ?hg (N := 3) ?hd (cs := #[.int .u8 a1_0, .int .u64 a1_1, .string a1_2, .slice A1_3 l1_3.length c1_3]) (t := 25) ?hr ?_; (case hd => rfl); (case hg => rfl); (case hr => first | (go_simp; done) | (go_simp; rfl)); intro gb102 hg w5 hbox hb; have n0_ := Aside0.mk (blk_below (g := gb101) (o := .cells #[.int .u8 a0_0, .int .u64 a0_1, .string a0_2, .slice A0_3 l0_3.length c0_3] 25 (0, 0)) (by (with_reducible repeat (first | refine blk_drewN ?_ _ | refine blk_drew ?_ | refine blk_alloc ?_ _)); exact BK101.out) hb); have n1_ := Aside0.mk (below_step (by repeat (first | (with_reducible first | exact HB.out | apply below_alloc | apply pw_below_drewN | apply below_drew1 | refine below_set ?_ GE101.out) | exact HB.out)) hb); have n2_ := Aside0.mk (hbox); have n3_ := Aside0.mk ((by rw [hg]; exact (below_size (by repeat (first | (with_reducible first | exact HB.out | apply below_alloc | apply pw_below_drewN | apply below_drew1 | refine below_set ?_ GE101.out) | exact HB.out))) : w.heap.size ≤ gb102)); have n4_ := Aside0.mk ((by rw [hg]; exact (below_size (by repeat (first | (with_reducible first | exact HB.out | apply below_alloc | apply pw_below_drewN | apply below_drew1 | refine below_set ?_ GE101.out) | exact HB.out))) : w.heap.size ≤ gb102)); have n5_ := Aside0.mk ((by rw [hg]; exact Nat.ne_of_lt (blk_lt (g := gb101) (o := .cells #[.int .u8 a0_0, .int .u64 a0_1, .string a0_2, .slice A0_3 l0_3.length c0_3] 25 (0, 0)) (by (with_reducible repeat (first | refine blk_drewN ?_ _ | refine blk_drew ?_ | refine blk_alloc ?_ _)); exact BK101.out)) : gb101 ≠ gb102)); have n6_ := Aside0.mk ((by rw [hg]; exact Nat.ne_of_gt (blk_lt (g := gb101) (o := .cells #[.int .u8 a0_0, .int .u64 a0_1, .string a0_2, .slice A0_3 l0_3.length c0_3] 25 (0, 0)) (by (with_reducible repeat (first | refine blk_drewN ?_ _ | refine blk_drew ?_ | refine blk_alloc ?_ _)); exact BK101.out)) : gb102 ≠ gb101)); clear BK101; clear HB; have BK101 := n0_; have HB := n1_; have BK102 := n2_; have GW102 := n3_; have GE102 := n4_; have NB101_102 := n5_; have NB102_101 := n6_; clear n0_ n1_ n2_ n3_ n4_ n5_ n6_; clear hb hbox hg))
 (try simp only [Act.put, List.setIfInBounds_toArray, List.set_cons_zero, List.set_cons_succ])
 go_cut [12] (fun v12 wc => ∃ (kq : Nat) (x12_2 : Bool), v12 = .bool x12_2 ∧ Aside0 (value_alike.j0 kq x12_2 a0_0 a0_1 a0_2 l0_3 a1_0 a1_1 a1_2 l1_3 = some r) ∧ Aside0 (kq ≤ k) ∧ Aside0 (wc.heap[gb101]? = some (.cells #[.int .u8 a0_0, .int .u64 a0_1, .string a0_2, (.slice A0_3 l0_3.length c0_3)] 25 (0, 0))) ∧ Aside0 (wc.heap[gb102]? = some (.cells #[.int .u8 a1_0, .int .u64 a1_1, .string a1_2, (.slice A1_3 l1_3.length c1_3)] 25 (0, 0))) ∧ Aside0 (Below w.heap.size w wc))
 case first =>
  have H := HC3.out
  clear HC3
  by_cases c6 : a0_0 = 25
  ·rw [if_pos c6] at H
   have c6b0 : (a0_0 == 25) = true := beq_iff_eq.mpr c6
   have c6b1 : (a0_0 != 25) = false := bne_eq_false_iff_eq.mpr c6
   clear c6
   (first | rw [c6b0] | (simp only [i64_w, i32_w]; rw [c6b0]) | skip)
   have H' := Aside0.mk H
   clear H
   have hnb7 := NB101_102.out
   have hnc7 := NB102_101.out
   have hcz8_0 : w5.cell? ⟨gb101, 0, none⟩ = some (.int .u8 a0_0) := (blk_cell BK101.out 0).trans rfl
   have hcz8_1 : w5.cell? ⟨gb101, 1, none⟩ = some (.int .u64 a0_1) := (blk_cell BK101.out 1).trans rfl
   have hcz8_2 : w5.cell? ⟨gb101, 2, none⟩ = some (.string a0_2) := (blk_cell BK101.out 2).trans rfl
   have hcz8_3 : w5.cell? ⟨gb101, 3, none⟩ = some (.slice A0_3 l0_3.length c0_3) := (blk_cell BK101.out 3).trans rfl
   have hfz8_0 := blk_frozen BK101.out 0
   have hfz8_1 := blk_frozen BK101.out 1
   have hfz8_2 := blk_frozen BK101.out 2
   have hfz8_3 := blk_frozen BK101.out 3
   have hcz9_0 : w5.cell? ⟨gb102, 0, none⟩ = some (.int .u8 a1_0) := (blk_cell BK102.out 0).trans rfl
   have hcz9_1 : w5.cell? ⟨gb102, 1, none⟩ = some (.int .u64 a1_1) := (blk_cell BK102.out 1).trans rfl
   have hcz9_2 : w5.cell? ⟨gb102, 2, none⟩ = some (.string a1_2) := (blk_cell BK102.out 2).trans rfl
   have hcz9_3 : w5.cell? ⟨gb102, 3, none⟩ = some (.slice A1_3 l1_3.length c1_3) := (blk_cell BK102.out 3).trans rfl
   have hfz9_0 := blk_frozen BK102.out 0
   have hfz9_1 := blk_frozen BK102.out 1
   have hfz9_2 := blk_frozen BK102.out 2
   have hfz9_3 := blk_frozen BK102.out 3
   go_wp2
   go_meet
   case rel => exact ⟨_, ((a1_0 != 25)), (by first | rfl | (simp; done) | (simp [*]; done)), H', ⟨by first | omega | exact Nat.le_refl _⟩, ⟨by (with_reducible repeat (first | refine blk_drewN ?_ _ | refine blk_drew ?_ | refine blk_alloc ?_ _)); exact BK101.out⟩, ⟨by (with_reducible repeat (first | refine blk_drewN ?_ _ | refine blk_drew ?_ | refine blk_alloc ?_ _)); exact BK102.out⟩, ⟨by repeat (first | (with_reducible first | exact HB.out | apply below_alloc | apply pw_below_drewN | apply below_drew1 | refine below_set ?_ GE101.out | refine below_set ?_ GE102.out) | exact HB.out)⟩⟩
  ·rw [if_neg c6] at H
   have c6b0 : (a0_0 == 25) = false := beq_eq_false_iff_ne.mpr c6
   have c6b1 : (a0_0 != 25) = true := bne_iff_ne.mpr c6
   (first | rw [c6b0] | (simp only [i64_w, i32_w]; rw [c6b0]) | skip)
   have H' := Aside0.mk H
   clear H
   have hnb10 := NB101_102.out
   have hnc10 := NB102_101.out
   have hcz11_0 : w5.cell? ⟨gb101, 0, none⟩ = some (.int .u8 a0_0) := (blk_cell BK101.out 0).trans rfl
   have hcz11_1 : w5.cell? ⟨gb101, 1, none⟩ = some (.int .u64 a0_1) := (blk_cell BK101.out 1).trans rfl
   have hcz11_2 : w5.cell? ⟨gb101, 2, none⟩ = some (.string a0_2) := (blk_cell BK101.out 2).trans rfl
   have hcz11_3 : w5.cell? ⟨gb101, 3, none⟩ = some (.slice A0_3 l0_3.length c0_3) := (blk_cell BK101.out 3).trans rfl
   have hfz11_0 := blk_frozen BK101.out 0
   have hfz11_1 := blk_frozen BK101.out 1
   have hfz11_2 := blk_frozen BK101.out 2
   have hfz11_3 := blk_frozen BK101.out 3
   go_wp2
   go_meet
   case rel => exact ⟨_, (true), (by first | rfl | (simp; done) | (simp [*]; done)), H', ⟨by first | omega | exact Nat.le_refl _⟩, ⟨by (with_reducible repeat (first | refine blk_drewN ?_ _ | refine blk_drew ?_ | refine blk_alloc ?_ _)); exact BK101.out⟩, ⟨by (with_reducible repeat (first | refine blk_drewN ?_ _ | refine blk_drew ?_ | refine blk_alloc ?_ _)); exact BK102.out⟩, ⟨by repeat (first | (with_reducible first | exact HB.out | apply below_alloc | apply pw_below_drewN | apply below_drew1 | refine below_set ?_ GE101.out | refine below_set ?_ GE102.out) | exact HB.out)⟩⟩
 case rest =>
  clear HC3
  try clear c1
  try clear p2
  try clear c6
  try clear c6b0
  try clear c6b1
  try clear c7
  try clear c10
  try clear hcz11_0
  try clear hcz11_1
  try clear hcz11_2
  try clear hcz11_3
  try clear hcz8_0
  try clear hcz8_1
  try clear hcz8_2
  try clear hcz8_3
  try clear hcz9_0
  try clear hcz9_1
  try clear hcz9_2
  try clear hcz9_3
  try clear hfz11_0
  try clear hfz11_1
  try clear hfz11_2
  try clear hfz11_3
  try clear hfz8_0
  try clear hfz8_1
  try clear hfz8_2
  try clear hfz8_3
  try clear hfz9_0
  try clear hfz9_1
  try clear hfz9_2
  try clear hfz9_3
  obtain ⟨kq, x12_2, rfl, HA, HJ2, BK101, BK102, HB⟩ := hcut
  cases kq with
  | zero => exact absurd HA.out (by simp [value_alike.j0])
  | succ kj2 =>
   have H := HA.out
   clear HA
   simp only [value_alike.j0] at H
   by_cases c12 : x12_2 = true
   ·subst c12
    have H1 : (some (a0_0 == a1_0)) = some r := by rw [if_pos rfl] at H; exact H
    clear H
    have H := H1
    clear H1
    obtain rfl := Option.some.inj H
    have hnb13 := NB101_102.out
    have hnc13 := NB102_101.out
    have hcz14_0 : wc.cell? ⟨gb101, 0, none⟩ = some (.int .u8 a0_0) := (blk_cell BK101.out 0).trans rfl
    have hcz14_1 : wc.cell? ⟨gb101, 1, none⟩ = some (.int .u64 a0_1) := (blk_cell BK101.out 1).trans rfl
    have hcz14_2 : wc.cell? ⟨gb101, 2, none⟩ = some (.string a0_2) := (blk_cell BK101.out 2).trans rfl
    have hcz14_3 : wc.cell? ⟨gb101, 3, none⟩ = some (.slice A0_3 l0_3.length c0_3) := (blk_cell BK101.out 3).trans rfl
    have hfz14_0 := blk_frozen BK101.out 0
    have hfz14_1 := blk_frozen BK101.out 1
    have hfz14_2 := blk_frozen BK101.out 2
    have hfz14_3 := blk_frozen BK101.out 3
    have hcz15_0 : wc.cell? ⟨gb102, 0, none⟩ = some (.int .u8 a1_0) := (blk_cell BK102.out 0).trans rfl
    have hcz15_1 : wc.cell? ⟨gb102, 1, none⟩ = some (.int .u64 a1_1) := (blk_cell BK102.out 1).trans rfl
    have hcz15_2 : wc.cell? ⟨gb102, 2, none⟩ = some (.string a1_2) := (blk_cell BK102.out 2).trans rfl
    have hcz15_3 : wc.cell? ⟨gb102, 3, none⟩ = some (.slice A1_3 l1_3.length c1_3) := (blk_cell BK102.out 3).trans rfl
    have hfz15_0 := blk_frozen BK102.out 0
    have hfz15_1 := blk_frozen BK102.out 1
    have hfz15_2 := blk_frozen BK102.out 2
    have hfz15_3 := blk_frozen BK102.out 3
    go_wp2
    go_ret
    exact ⟨by first | rfl | (simp [errW_none, errW_some] <;> rfl) | (simp [*, errW_none, errW_some] <;> rfl), by repeat (first | (with_reducible first | exact HB.out | apply below_alloc | apply pw_below_drewN | apply below_drew1 | refine below_set ?_ GE101.out | refine below_set ?_ GE102.out) | exact HB.out)⟩
   ·replace c12 := Bool.eq_false_iff.mpr c12
    subst c12
    have H1 : (if 0 < (l0_3.length : Int) then (if 0 < (l1_3.length : Int) then ((value_Same.f ((rd_T25 l0_3 0).f0) ((rd_T25 l0_3 0).f1) ((rd_T25 l0_3 0).f2) ((rd_T25 l0_3 0).f3) ((rd_T25 l1_3 0).f0) ((rd_T25 l1_3 0).f1) ((rd_T25 l1_3 0).f2) ((rd_T25 l1_3 0).f3)).bind fun t105 => (if t105 = true then (if 1 < (l0_3.length : Int) then (if 1 < (l1_3.length : Int) then ((value_alike.f kj2 ((rd_T25 l0_3 1).f0) ((rd_T25 l0_3 1).f1) ((rd_T25 l0_3 1).f2) ((rd_T25 l0_3 1).f3) ((rd_T25 l1_3 1).f0) ((rd_T25 l1_3 1).f1) ((rd_T25 l1_3 1).f2) ((rd_T25 l1_3 1).f3)).bind fun t108 => (some t108)) else (none)) else (none)) else (some false))) else (none)) else (none)) = some r := by rw [if_neg (show ¬ (false = true) by decide)] at H; exact H
    clear H
    have H := H1
    clear H1
    by_cases c16 : 0 < (l0_3.length : Int)
    ·rw [if_pos c16] at H
     have c16b0 : decide (0 < (l0_3.length : Int)) = true := decide_eq_true c16
     have c16b1 : decide (0 < l0_3.length) = true := decide_eq_true (by omega)
     clear c16
     by_cases c17 : 0 < (l1_3.length : Int)
     ·rw [if_pos c17] at H
      have c17b0 : decide (0 < (l1_3.length : Int)) = true := decide_eq_true c17
      have c17b1 : decide (0 < l1_3.length) = true := decide_eq_true (by omega)
      clear c17
      replace H := Option.bind_eq_some_iff.mp H
      obtain ⟨t105, A180, H⟩ := H
      replace H : (if t105 = true then (if 1 < (l0_3.length : Int) then (if 1 < (l1_3.length : Int) then ((value_alike.f kj2 ((rd_T25 l0_3 1).f0) ((rd_T25 l0_3 1).f1) ((rd_T25 l0_3 1).f2) ((rd_T25 l0_3 1).f3) ((rd_T25 l1_3 1).f0) ((rd_T25 l1_3 1).f1) ((rd_T25 l1_3 1).f2) ((rd_T25 l1_3 1).f3)).bind fun t108 => (some t108)) else (none)) else (none)) else (some false)) = some r := H
      have A18 := Aside0.mk A180
      clear A180
      by_cases c19 : t105 = true
      ·subst c19
       have H1 : (if 1 < (l0_3.length : Int) then (if 1 < (l1_3.length : Int) then ((value_alike.f kj2 ((rd_T25 l0_3 1).f0) ((rd_T25 l0_3 1).f1) ((rd_T25 l0_3 1).f2) ((rd_T25 l0_3 1).f3) ((rd_T25 l1_3 1).f0) ((rd_T25 l1_3 1).f1) ((rd_T25 l1_3 1).f2) ((rd_T25 l1_3 1).f3)).bind fun t108 => (some t108)) else (none)) else (none)) = some r := by rw [if_pos rfl] at H; exact H
       clear H
       have H := H1
       clear H1
       by_cases c20 : 1 < (l0_3.length : Int)
       ·rw [if_pos c20] at H
        have c20b0 : decide (1 < (l0_3.length : Int)) = true := decide_eq_true c20
        have c20b1 : decide (1 < l0_3.length) = true := decide_eq_true (by omega)
        clear c20
        by_cases c21 : 1 < (l1_3.length : Int)
        ·rw [if_pos c21] at H
         have c21b0 : decide (1 < (l1_3.length : Int)) = true := decide_eq_true c21
         have c21b1 : decide (1 < l1_3.length) = true := decide_eq_true (by omega)
         clear c21
         replace H := Option.bind_eq_some_iff.mp H
         obtain ⟨t108, A220, H⟩ := H
         replace H : (some t108) = some r := H
         have A22 := Aside0.mk A220
         clear A220
         obtain rfl := Option.some.inj H
         try go_wp2
         have n0_ := Aside0.mk (blk_drew BK101.out)
         have n1_ := Aside0.mk (blk_drew BK102.out)
         have n2_ := Aside0.mk (below_drew1 HB.out)
         clear BK101
         clear BK102
         clear HB
         have BK101 := n0_
         have BK102 := n1_
         have HB := n2_
         clear n0_ n1_ n2_
         have p103 : 0 ≤ (0 : Int) := (by omega)
         have q103 : 0 < (l0_3.length : Int) := of_decide_eq_true (by first | (with_reducible assumption) | assumption)
         obtain ⟨ad103, A103_3, c103_3, e103, hx103_0, hx103_1, hx103_2, hx103_3, hl103_3, hi103_3⟩ := at_T25 HR0_3.out 0 p103 q103
         have hw103_3 := hx103_3
         (try rw [show ((0 : Int)).toNat = 0 from rfl] at hw103_3)
         (try rw [show 0 * 4 = 0 from rfl] at hw103_3)
         (try rw [Addr.add_zero'] at hw103_3)
         have hw103_2 := hx103_2
         (try rw [show ((0 : Int)).toNat = 0 from rfl] at hw103_2)
         (try rw [show 0 * 4 = 0 from rfl] at hw103_2)
         (try rw [Addr.add_zero'] at hw103_2)
         have hw103_1 := hx103_1
         (try rw [show ((0 : Int)).toNat = 0 from rfl] at hw103_1)
         (try rw [show 0 * 4 = 0 from rfl] at hw103_1)
         (try rw [Addr.add_zero'] at hw103_1)
         have hw103_0 := hx103_0
         (try rw [show ((0 : Int)).toNat = 0 from rfl] at hw103_0)
         (try rw [show 0 * 4 = 0 from rfl] at hw103_0)
         (try rw [Addr.add_zero'] at hw103_0)
         cases e103
         have qi103 : (0 < l0_3.length) = True := eq_true (by omega)
         (try rw [show ((0 : Int)).toNat = 0 from rfl] at hx103_0)
         (try rw [show 0 * 4 = 0 from rfl] at hx103_0)
         (try rw [Addr.add_zero'] at hx103_0)
         (try rw [show ((0 : Int)).toNat = 0 from rfl] at hx103_1)
         (try rw [show 0 * 4 = 0 from rfl] at hx103_1)
         (try rw [Addr.add_zero'] at hx103_1)
         (try rw [show ((0 : Int)).toNat = 0 from rfl] at hx103_2)
         (try rw [show 0 * 4 = 0 from rfl] at hx103_2)
         (try rw [Addr.add_zero'] at hx103_2)
         (try rw [show ((0 : Int)).toNat = 0 from rfl] at hx103_3)
         (try rw [show 0 * 4 = 0 from rfl] at hx103_3)
         (try rw [Addr.add_zero'] at hx103_3)
         replace hx103_0 := (HB.out.cell (World.block_lt_of_cell? w _ hx103_0)).trans hx103_0
         replace hx103_1 := (HB.out.cell (World.block_lt_of_cell? w _ hx103_1)).trans hx103_1
         replace hx103_2 := (HB.out.cell (World.block_lt_of_cell? w _ hx103_2)).trans hx103_2
         replace hx103_3 := (HB.out.cell (World.block_lt_of_cell? w _ hx103_3)).trans hx103_3
         have HR103_3 := Aside0.mk hi103_3
         have HC103_3 := Aside0.mk hl103_3
         clear hi103_3 hl103_3
         replace p103 := eq_true p103
         replace q103 := eq_true q103
         have p104 : 0 ≤ (0 : Int) := (by omega)
         have q104 : 0 < (l1_3.length : Int) := of_decide_eq_true (by first | (with_reducible assumption) | assumption)
         obtain ⟨ad104, A104_3, c104_3, e104, hx104_0, hx104_1, hx104_2, hx104_3, hl104_3, hi104_3⟩ := at_T25 HR1_3.out 0 p104 q104
         have hw104_3 := hx104_3
         (try rw [show ((0 : Int)).toNat = 0 from rfl] at hw104_3)
         (try rw [show 0 * 4 = 0 from rfl] at hw104_3)
         (try rw [Addr.add_zero'] at hw104_3)
         have hw104_2 := hx104_2
         (try rw [show ((0 : Int)).toNat = 0 from rfl] at hw104_2)
         (try rw [show 0 * 4 = 0 from rfl] at hw104_2)
         (try rw [Addr.add_zero'] at hw104_2)
         have hw104_1 := hx104_1
         (try rw [show ((0 : Int)).toNat = 0 from rfl] at hw104_1)
         (try rw [show 0 * 4 = 0 from rfl] at hw104_1)
         (try rw [Addr.add_zero'] at hw104_1)
         have hw104_0 := hx104_0
         (try rw [show ((0 : Int)).toNat = 0 from rfl] at hw104_0)
         (try rw [show 0 * 4 = 0 from rfl] at hw104_0)
         (try rw [Addr.add_zero'] at hw104_0)
         cases e104
         have qi104 : (0 < l1_3.length) = True := eq_true (by omega)
         (try rw [show ((0 : Int)).toNat = 0 from rfl] at hx104_0)
         (try rw [show 0 * 4 = 0 from rfl] at hx104_0)
         (try rw [Addr.add_zero'] at hx104_0)
         (try rw [show ((0 : Int)).toNat = 0 from rfl] at hx104_1)
         (try rw [show 0 * 4 = 0 from rfl] at hx104_1)
         (try rw [Addr.add_zero'] at hx104_1)
         (try rw [show ((0 : Int)).toNat = 0 from rfl] at hx104_2)
         (try rw [show 0 * 4 = 0 from rfl] at hx104_2)
         (try rw [Addr.add_zero'] at hx104_2)
         (try rw [show ((0 : Int)).toNat = 0 from rfl] at hx104_3)
         (try rw [show 0 * 4 = 0 from rfl] at hx104_3)
         (try rw [Addr.add_zero'] at hx104_3)
         replace hx104_0 := (HB.out.cell (World.block_lt_of_cell? w _ hx104_0)).trans hx104_0
         replace hx104_1 := (HB.out.cell (World.block_lt_of_cell? w _ hx104_1)).trans hx104_1
         replace hx104_2 := (HB.out.cell (World.block_lt_of_cell? w _ hx104_2)).trans hx104_2
         replace hx104_3 := (HB.out.cell (World.block_lt_of_cell? w _ hx104_3)).trans hx104_3
         have HR104_3 := Aside0.mk hi104_3
         have HC104_3 := Aside0.mk hl104_3
         clear hi104_3 hl104_3
         replace p104 := eq_true p104
         replace q104 := eq_true q104
         have p106 : 0 ≤ (1 : Int) := (by omega)
         have q106 : 1 < (l0_3.length : Int) := of_decide_eq_true (by first | (with_reducible assumption) | assumption)
         obtain ⟨ad106, A106_3, c106_3, e106, hx106_0, hx106_1, hx106_2, hx106_3, hl106_3, hi106_3⟩ := at_T25 HR0_3.out 1 p106 q106
         have hw106_3 := hx106_3
         (try rw [show ((1 : Int)).toNat = 1 from rfl] at hw106_3)
         (try rw [show 1 * 4 = 4 from rfl] at hw106_3)
         (try simp only [Nat.reduceMul, Nat.reduceEqDiff, Go.Addr.add, ↓reduceIte] at hw106_3)
         have hw106_2 := hx106_2
         (try rw [show ((1 : Int)).toNat = 1 from rfl] at hw106_2)
         (try rw [show 1 * 4 = 4 from rfl] at hw106_2)
         (try simp only [Nat.reduceMul, Nat.reduceEqDiff, Go.Addr.add, ↓reduceIte] at hw106_2)
         have hw106_1 := hx106_1
         (try rw [show ((1 : Int)).toNat = 1 from rfl] at hw106_1)
         (try rw [show 1 * 4 = 4 from rfl] at hw106_1)
         (try simp only [Nat.reduceMul, Nat.reduceEqDiff, Go.Addr.add, ↓reduceIte] at hw106_1)
         have hw106_0 := hx106_0
         (try rw [show ((1 : Int)).toNat = 1 from rfl] at hw106_0)
         (try rw [show 1 * 4 = 4 from rfl] at hw106_0)
         (try simp only [Nat.reduceMul, Nat.reduceEqDiff, Go.Addr.add, ↓reduceIte] at hw106_0)
         obtain rfl : ad103 = ad106 := (by injection e106)
         (try simp only [show (1 : Int).toNat = 1 from rfl, Nat.reduceMul, Nat.reduceEqDiff, Go.Addr.add, ↓reduceIte] at hx106_0)
         (try simp only [show (1 : Int).toNat = 1 from rfl, Nat.reduceMul, Nat.reduceEqDiff, Go.Addr.add, ↓reduceIte] at hx106_1)
         (try simp only [show (1 : Int).toNat = 1 from rfl, Nat.reduceMul, Nat.reduceEqDiff, Go.Addr.add, ↓reduceIte] at hx106_2)
         (try simp only [show (1 : Int).toNat = 1 from rfl, Nat.reduceMul, Nat.reduceEqDiff, Go.Addr.add, ↓reduceIte] at hx106_3)
         have qi106 : (1 < l0_3.length) = True := eq_true (by omega)
         (try rw [show ((1 : Int)).toNat = 1 from rfl] at hx106_0)
         (try rw [show 1 * 4 = 4 from rfl] at hx106_0)
         (try rw [show ((1 : Int)).toNat = 1 from rfl] at hx106_1)
         (try rw [show 1 * 4 = 4 from rfl] at hx106_1)
         (try rw [show ((1 : Int)).toNat = 1 from rfl] at hx106_2)
         (try rw [show 1 * 4 = 4 from rfl] at hx106_2)
         (try rw [show ((1 : Int)).toNat = 1 from rfl] at hx106_3)
         (try rw [show 1 * 4 = 4 from rfl] at hx106_3)
         replace hx106_0 := (HB.out.cell (World.block_lt_of_cell? w _ hx106_0)).trans hx106_0
         replace hx106_1 := (HB.out.cell (World.block_lt_of_cell? w _ hx106_1)).trans hx106_1
         replace hx106_2 := (HB.out.cell (World.block_lt_of_cell? w _ hx106_2)).trans hx106_2
         replace hx106_3 := (HB.out.cell (World.block_lt_of_cell? w _ hx106_3)).trans hx106_3
         have HR106_3 := Aside0.mk hi106_3
         have HC106_3 := Aside0.mk hl106_3
         clear hi106_3 hl106_3
         replace p106 := eq_true p106
         replace q106 := eq_true q106
         have p107 : 0 ≤ (1 : Int) := (by omega)
         have q107 : 1 < (l1_3.length : Int) := of_decide_eq_true (by first | (with_reducible assumption) | assumption)
         obtain ⟨ad107, A107_3, c107_3, e107, hx107_0, hx107_1, hx107_2, hx107_3, hl107_3, hi107_3⟩ := at_T25 HR1_3.out 1 p107 q107
         have hw107_3 := hx107_3
         (try rw [show ((1 : Int)).toNat = 1 from rfl] at hw107_3)
         (try rw [show 1 * 4 = 4 from rfl] at hw107_3)
         (try simp only [Nat.reduceMul, Nat.reduceEqDiff, Go.Addr.add, ↓reduceIte] at hw107_3)
         have hw107_2 := hx107_2
         (try rw [show ((1 : Int)).toNat = 1 from rfl] at hw107_2)
         (try rw [show 1 * 4 = 4 from rfl] at hw107_2)
         (try simp only [Nat.reduceMul, Nat.reduceEqDiff, Go.Addr.add, ↓reduceIte] at hw107_2)
         have hw107_1 := hx107_1
         (try rw [show ((1 : Int)).toNat = 1 from rfl] at hw107_1)
         (try rw [show 1 * 4 = 4 from rfl] at hw107_1)
         (try simp only [Nat.reduceMul, Nat.reduceEqDiff, Go.Addr.add, ↓reduceIte] at hw107_1)
         have hw107_0 := hx107_0
         (try rw [show ((1 : Int)).toNat = 1 from rfl] at hw107_0)
         (try rw [show 1 * 4 = 4 from rfl] at hw107_0)
         (try simp only [Nat.reduceMul, Nat.reduceEqDiff, Go.Addr.add, ↓reduceIte] at hw107_0)
         obtain rfl : ad104 = ad107 := (by injection e107)
         (try simp only [show (1 : Int).toNat = 1 from rfl, Nat.reduceMul, Nat.reduceEqDiff, Go.Addr.add, ↓reduceIte] at hx107_0)
         (try simp only [show (1 : Int).toNat = 1 from rfl, Nat.reduceMul, Nat.reduceEqDiff, Go.Addr.add, ↓reduceIte] at hx107_1)
         (try simp only [show (1 : Int).toNat = 1 from rfl, Nat.reduceMul, Nat.reduceEqDiff, Go.Addr.add, ↓reduceIte] at hx107_2)
         (try simp only [show (1 : Int).toNat = 1 from rfl, Nat.reduceMul, Nat.reduceEqDiff, Go.Addr.add, ↓reduceIte] at hx107_3)
         have qi107 : (1 < l1_3.length) = True := eq_true (by omega)
         (try rw [show ((1 : Int)).toNat = 1 from rfl] at hx107_0)
         (try rw [show 1 * 4 = 4 from rfl] at hx107_0)
         (try rw [show ((1 : Int)).toNat = 1 from rfl] at hx107_1)
         (try rw [show 1 * 4 = 4 from rfl] at hx107_1)
         (try rw [show ((1 : Int)).toNat = 1 from rfl] at hx107_2)
         (try rw [show 1 * 4 = 4 from rfl] at hx107_2)
         (try rw [show ((1 : Int)).toNat = 1 from rfl] at hx107_3)
         (try rw [show 1 * 4 = 4 from rfl] at hx107_3)
         replace hx107_0 := (HB.out.cell (World.block_lt_of_cell? w _ hx107_0)).trans hx107_0
         replace hx107_1 := (HB.out.cell (World.block_lt_of_cell? w _ hx107_1)).trans hx107_1
         replace hx107_2 := (HB.out.cell (World.block_lt_of_cell? w _ hx107_2)).trans hx107_2
         replace hx107_3 := (HB.out.cell (World.block_lt_of_cell? w _ hx107_3)).trans hx107_3
         have HR107_3 := Aside0.mk hi107_3
         have HC107_3 := Aside0.mk hl107_3
         clear hi107_3 hl107_3
         replace p107 := eq_true p107
         replace q107 := eq_true q107
         refine start_ (n := 21) (S := fun w' => w'.cell? ⟨gb101, 0, none⟩ = some (.int .u8 a0_0) ∧ w'.cell? ⟨gb101, 1, none⟩ = some (.int .u64 a0_1) ∧ w'.cell? ⟨gb101, 2, none⟩ = some (.string a0_2) ∧ w'.cell? ⟨gb101, 3, none⟩ = some (.slice (some ad103) l0_3.length c0_3) ∧ w'.cell? ⟨gb102, 0, none⟩ = some (.int .u8 a1_0) ∧ w'.cell? ⟨gb102, 1, none⟩ = some (.int .u64 a1_1) ∧ w'.cell? ⟨gb102, 2, none⟩ = some (.string a1_2) ∧ w'.cell? ⟨gb102, 3, none⟩ = some (.slice (some ad104) l1_3.length c1_3) ∧ w'.cell? ad103 = some (.int .u8 ((rd_T25 l0_3 0).f0)) ∧ w'.cell? ⟨ad103.block, ad103.off + 1, none⟩ = some (.int .u64 ((rd_T25 l0_3 0).f1)) ∧ w'.cell? ⟨ad103.block, ad103.off + 2, none⟩ = some (.string ((rd_T25 l0_3 0).f2)) ∧ w'.cell? ⟨ad103.block, ad103.off + 3, none⟩ = some (.slice A103_3 ((rd_T25 l0_3 0).f3).length c103_3) ∧ w'.cell? ad104 = some (.int .u8 ((rd_T25 l1_3 0).f0)) ∧ w'.cell? ⟨ad104.block, ad104.off + 1, none⟩ = some (.int .u64 ((rd_T25 l1_3 0).f1)) ∧ w'.cell? ⟨ad104.block, ad104.off + 2, none⟩ = some (.string ((rd_T25 l1_3 0).f2)) ∧ w'.cell? ⟨ad104.block, ad104.off + 3, none⟩ = some (.slice A104_3 ((rd_T25 l1_3 0).f3).length c104_3) ∧ w'.cell? ⟨ad103.block, ad103.off + 4, none⟩ = some (.int .u8 ((rd_T25 l0_3 1).f0)) ∧ w'.cell? ⟨ad103.block, ad103.off + 4 + 1, none⟩ = some (.int .u64 ((rd_T25 l0_3 1).f1)) ∧ w'.cell? ⟨ad103.block, ad103.off + 4 + 2, none⟩ = some (.string ((rd_T25 l0_3 1).f2)) ∧ w'.cell? ⟨ad103.block, ad103.off + 4 + 3, none⟩ = some (.slice A106_3 ((rd_T25 l0_3 1).f3).length c106_3) ∧ w'.cell? ⟨ad104.block, ad104.off + 4, none⟩ = some (.int .u8 ((rd_T25 l1_3 1).f0)) ∧ w'.cell? ⟨ad104.block, ad104.off + 4 + 1, none⟩ = some (.int .u64 ((rd_T25 l1_3 1).f1)) ∧ w'.cell? ⟨ad104.block, ad104.off + 4 + 2, none⟩ = some (.string ((rd_T25 l1_3 1).f2)) ∧ w'.cell? ⟨ad104.block, ad104.off + 4 + 3, none⟩ = some (.slice A107_3 ((rd_T25 l1_3 1).f3).length c107_3)) (ds := []) #[ff,ff,ff,ff,ff,ff,ff,ff,ff,ff,ff,ff,ff,ff,ff,ff,ff,ff,ff,ff,ff] (by kernel_rfl) rfl rfl ⟨(blk_cell BK101.out 0).trans rfl, (blk_cell BK101.out 1).trans rfl, (blk_cell BK101.out 2).trans rfl, (blk_cell BK101.out 3).trans rfl, (blk_cell BK102.out 0).trans rfl, (blk_cell BK102.out 1).trans rfl, (blk_cell BK102.out 2).trans rfl, (blk_cell BK102.out 3).trans rfl, ((HB.out.cell (World.block_lt_of_cell? w _ hw103_0)).trans hw103_0), ((HB.out.cell (World.block_lt_of_cell? w _ hw103_1)).trans hw103_1), ((HB.out.cell (World.block_lt_of_cell? w _ hw103_2)).trans hw103_2), ((HB.out.cell (World.block_lt_of_cell? w _ hw103_3)).trans hw103_3), ((HB.out.cell (World.block_lt_of_cell? w _ hw104_0)).trans hw104_0), ((HB.out.cell (World.block_lt_of_cell? w _ hw104_1)).trans hw104_1), ((HB.out.cell (World.block_lt_of_cell? w _ hw104_2)).trans hw104_2), ((HB.out.cell (World.block_lt_of_cell? w _ hw104_3)).trans hw104_3), ((HB.out.cell (World.block_lt_of_cell? w _ hw106_0)).trans hw106_0), ((HB.out.cell (World.block_lt_of_cell? w _ hw106_1)).trans hw106_1), ((HB.out.cell (World.block_lt_of_cell? w _ hw106_2)).trans hw106_2), ((HB.out.cell (World.block_lt_of_cell? w _ hw106_3)).trans hw106_3), ((HB.out.cell (World.block_lt_of_cell? w _ hw107_0)).trans hw107_0), ((HB.out.cell (World.block_lt_of_cell? w _ hw107_1)).trans hw107_1), ((HB.out.cell (World.block_lt_of_cell? w _ hw107_2)).trans hw107_2), ((HB.out.cell (World.block_lt_of_cell? w _ hw107_3)).trans hw107_3)⟩ (fun hHeld => ?_); refine with_tabW value_alike.tab3 value_alike.bits3 (fun HT_ HW_ => ?_)
         generalize wc.drew = w23 at BK101 BK102 HB HR103_3 HR104_3 HR106_3 HR107_3 hx103_0 hx103_1 hx103_2 hx103_3 hx104_0 hx104_1 hx104_2 hx104_3 hx106_0 hx106_1 hx106_2 hx106_3 hx107_0 hx107_1 hx107_2 hx107_3 hHeld ⊢
         refine pure_ (i := 0) (N := some 18) (v := ?_) (a' := ?_) #[tt,ff,ff,ff,ff,ff,ff,ff,ff,ff,ff,ff,ff,ff,ff,ff,ff,ff,ff,ff,ff] rfl rfl (any_of HT_.out (by kernel_rfl)) (fun _ _ _ h => h) (Or.inl ⟨by rfl, ?_⟩) ?_ ?_
         rotate_left
         ·intro w'
          go_simp
          with_reducible rfl
         rotate_left
         ·simp only [Act.put, List.setIfInBounds_toArray, List.set_cons_zero, List.set_cons_succ, i64_w, i32_w]
          rfl
         refine pure_ (i := 4) (N := some 22) (v := ?_) (a' := ?_) #[tt,ff,ff,ff,tt,ff,ff,ff,ff,ff,ff,ff,ff,ff,ff,ff,ff,ff,ff,ff,ff] rfl rfl (any_of HT_.out (by kernel_rfl)) (fun _ _ _ h => h) (Or.inl ⟨by rfl, ?_⟩) ?_ ?_
         rotate_left
         ·intro w'
          go_simp
          with_reducible rfl
         rotate_left
         ·simp only [Act.put, List.setIfInBounds_toArray, List.set_cons_zero, List.set_cons_succ, i64_w, i32_w]
          rfl
         refine take_ (i := 1) (N := some 19) (v := ?_) (a' := ?_) #[tt,tt,ff,ff,tt,ff,ff,ff,ff,ff,ff,ff,ff,ff,ff,ff,ff,ff,ff,ff,ff] rfl rfl (take_ofW HT_.out HW_.out (by kernel_rfl)) (fun _ _ _ h => h) (Or.inl ⟨by rfl, ?_⟩) hHeld ?_ ?_
         rotate_left
         ·rintro w' ⟨s0, s1, s2, s3, s4, s5, s6, s7, s8, s9, s10, s11, s12, s13, s14, s15, s16, s17, s18, s19, s20, s21, s22, s23⟩
          go_simp
          with_reducible rfl
         rotate_left
         ·simp only [Act.put, List.setIfInBounds_toArray, List.set_cons_zero, List.set_cons_succ, i64_w, i32_w]
          rfl
         refine pure_ (i := 2) (N := some 20) (v := ?_) (a' := ?_) #[tt,tt,tt,ff,tt,ff,ff,ff,ff,ff,ff,ff,ff,ff,ff,ff,ff,ff,ff,ff,ff] rfl rfl (any_of HT_.out (by kernel_rfl)) (fun _ _ _ h => h) (Or.inl ⟨by rfl, ?_⟩) ?_ ?_
         rotate_left
         ·intro w'
          go_simp
          with_reducible rfl
         rotate_left
         ·simp only [Act.put, List.setIfInBounds_toArray, List.set_cons_zero, List.set_cons_succ, i64_w, i32_w]
          rfl
         refine take_ (i := 3) (N := some 21) (v := ?_) (a' := ?_) #[tt,tt,tt,tt,tt,ff,ff,ff,ff,ff,ff,ff,ff,ff,ff,ff,ff,ff,ff,ff,ff] rfl rfl (take_ofW HT_.out HW_.out (by kernel_rfl)) (fun _ _ _ h => h) (Or.inl ⟨by rfl, ?_⟩) hHeld ?_ ?_
         rotate_left
         ·rintro w' ⟨s0, s1, s2, s3, s4, s5, s6, s7, s8, s9, s10, s11, s12, s13, s14, s15, s16, s17, s18, s19, s20, s21, s22, s23⟩
          go_simp
          with_reducible rfl
         rotate_left
         ·simp only [Act.put, List.setIfInBounds_toArray, List.set_cons_zero, List.set_cons_succ, i64_w, i32_w]
          rfl
         refine take_ (i := 5) (N := some 23) (v := ?_) (a' := ?_) #[tt,tt,tt,tt,tt,tt,ff,ff,ff,ff,ff,ff,ff,ff,ff,ff,ff,ff,ff,ff,ff] rfl rfl (take_ofW HT_.out HW_.out (by kernel_rfl)) (fun _ _ _ h => h) (Or.inl ⟨by rfl, ?_⟩) hHeld ?_ ?_
         rotate_left
         ·rintro w' ⟨s0, s1, s2, s3, s4, s5, s6, s7, s8, s9, s10, s11, s12, s13, s14, s15, s16, s17, s18, s19, s20, s21, s22, s23⟩
          go_simp
          with_reducible rfl
         rotate_left
         ·simp only [Act.put, List.setIfInBounds_toArray, List.set_cons_zero, List.set_cons_succ, i64_w, i32_w]
          rfl
         refine pure_ (i := 6) (N := some 24) (v := ?_) (a' := ?_) #[tt,tt,tt,tt,tt,tt,tt,ff,ff,ff,ff,ff,ff,ff,ff,ff,ff,ff,ff,ff,ff] rfl rfl (any_of HT_.out (by kernel_rfl)) (fun _ _ _ h => h) (Or.inl ⟨by rfl, ?_⟩) ?_ ?_
         rotate_left
         ·intro w'
          go_simp
          with_reducible rfl
         rotate_left
         ·simp only [Act.put, List.setIfInBounds_toArray, List.set_cons_zero, List.set_cons_succ, i64_w, i32_w]
          rfl
         refine take_ (i := 7) (N := some 25) (v := ?_) (a' := ?_) #[tt,tt,tt,tt,tt,tt,tt,tt,ff,ff,ff,ff,ff,ff,ff,ff,ff,ff,ff,ff,ff] rfl rfl (take_ofW HT_.out HW_.out (by kernel_rfl)) (fun _ _ _ h => h) (Or.inl ⟨by rfl, ?_⟩) hHeld ?_ ?_
         rotate_left
         ·rintro w' ⟨s0, s1, s2, s3, s4, s5, s6, s7, s8, s9, s10, s11, s12, s13, s14, s15, s16, s17, s18, s19, s20, s21, s22, s23⟩
          go_simp
          with_reducible rfl
         rotate_left
         ·simp only [Act.put, List.setIfInBounds_toArray, List.set_cons_zero, List.set_cons_succ, i64_w, i32_w]
          rfl
         refine one_ (i := 8) (N := some 26) #[tt,tt,tt,tt,tt,tt,tt,tt,tt,ff,ff,ff,ff,ff,ff,ff,ff,ff,ff,ff,ff] rfl rfl (one_of HT_.out (by kernel_rfl)) (by decide) (fun K hK => ?_)
         refine goes_ Tryz.func103 (by kernel_rfl) rfl #[.agg #[.int .u8 ((rd_T25 l0_3 0).f0), .int .u64 ((rd_T25 l0_3 0).f1), .string ((rd_T25 l0_3 0).f2), .slice A103_3 ((rd_T25 l0_3 0).f3).length c103_3], .agg #[.int .u8 ((rd_T25 l1_3 0).f0), .int .u64 ((rd_T25 l1_3 0).f1), .string ((rd_T25 l1_3 0).f2), .slice A104_3 ((rd_T25 l1_3 0).f3).length c104_3]] (by rfl) rfl rfl (by (try simp only [List.map_toArray, List.map_cons, List.map_nil]); first | done | rfl | (simp only [List.length_drop, List.length_take]; rfl)) ?_
         with_reducible refine (value_Same.calls ((rd_T25 l0_3 0).f0) ((rd_T25 l0_3 0).f1) ((rd_T25 l0_3 0).f2) _ _ ((rd_T25 l0_3 0).f3) ((rd_T25 l1_3 0).f0) ((rd_T25 l1_3 0).f1) ((rd_T25 l1_3 0).f2) _ _ ((rd_T25 l1_3 0).f3) true _ ?side1 ?side2 ?side3 ?side4 A18.out).mono ?_
         (case side1 => repeat (first | exact (Kd.C_below HR103_3.out HB.out) | (with_reducible refine Kd.C_alloc ?_ _) | (with_reducible refine Kd.C_drewN ?_ _) | (with_reducible refine Kd.C_drew ?_)))
         (case side2 => exact HC103_3.out)
         (case side3 => repeat (first | exact (Kd.C_below HR104_3.out HB.out) | (with_reducible refine Kd.C_alloc ?_ _) | (with_reducible refine Kd.C_drewN ?_ _) | (with_reducible refine Kd.C_drew ?_)))
         (case side4 => exact HC104_3.out)
         rintro e w24 ⟨rfl, hb⟩
         refine ⟨_, rfl, ?_⟩
         have n0_ := Aside0.mk (blk_below (g := gb101) (o := .cells #[.int .u8 a0_0, .int .u64 a0_1, .string a0_2, .slice (some ad103) l0_3.length c0_3] 25 (0, 0)) (by (with_reducible repeat (first | refine blk_drewN ?_ _ | refine blk_drew ?_ | refine blk_alloc ?_ _)); exact BK101.out) hb)
         have n1_ := Aside0.mk (blk_below (g := gb102) (o := .cells #[.int .u8 a1_0, .int .u64 a1_1, .string a1_2, .slice (some ad104) l1_3.length c1_3] 25 (0, 0)) (by (with_reducible repeat (first | refine blk_drewN ?_ _ | refine blk_drew ?_ | refine blk_alloc ?_ _)); exact BK102.out) hb)
         have n2_ := Aside0.mk (below_step (by repeat (first | (with_reducible first | exact HB.out | apply below_alloc | apply pw_below_drewN | apply below_drew1 | refine below_set ?_ GE101.out | refine below_set ?_ GE102.out) | exact HB.out)) hb)
         clear BK101
         clear BK102
         clear HB
         have BK101 := n0_
         have BK102 := n1_
         have HB := n2_
         clear n0_ n1_ n2_
         (try clear hb)
         (try clear hb2)
         (try clear hk)
         (try clear hi)
         refine hK.out _ _ ⟨(blk_cell BK101.out 0).trans rfl, (blk_cell BK101.out 1).trans rfl, (blk_cell BK101.out 2).trans rfl, (blk_cell BK101.out 3).trans rfl, (blk_cell BK102.out 0).trans rfl, (blk_cell BK102.out 1).trans rfl, (blk_cell BK102.out 2).trans rfl, (blk_cell BK102.out 3).trans rfl, ((HB.out.cell (World.block_lt_of_cell? w _ hw103_0)).trans hw103_0), ((HB.out.cell (World.block_lt_of_cell? w _ hw103_1)).trans hw103_1), ((HB.out.cell (World.block_lt_of_cell? w _ hw103_2)).trans hw103_2), ((HB.out.cell (World.block_lt_of_cell? w _ hw103_3)).trans hw103_3), ((HB.out.cell (World.block_lt_of_cell? w _ hw104_0)).trans hw104_0), ((HB.out.cell (World.block_lt_of_cell? w _ hw104_1)).trans hw104_1), ((HB.out.cell (World.block_lt_of_cell? w _ hw104_2)).trans hw104_2), ((HB.out.cell (World.block_lt_of_cell? w _ hw104_3)).trans hw104_3), ((HB.out.cell (World.block_lt_of_cell? w _ hw106_0)).trans hw106_0), ((HB.out.cell (World.block_lt_of_cell? w _ hw106_1)).trans hw106_1), ((HB.out.cell (World.block_lt_of_cell? w _ hw106_2)).trans hw106_2), ((HB.out.cell (World.block_lt_of_cell? w _ hw106_3)).trans hw106_3), ((HB.out.cell (World.block_lt_of_cell? w _ hw107_0)).trans hw107_0), ((HB.out.cell (World.block_lt_of_cell? w _ hw107_1)).trans hw107_1), ((HB.out.cell (World.block_lt_of_cell? w _ hw107_2)).trans hw107_2), ((HB.out.cell (World.block_lt_of_cell? w _ hw107_3)).trans hw107_3)⟩ (fun hHeld => ?_)
         clear hK K
         refine norm_ (a' := ?_) ?_ ?_
         rotate_left
         ·show Act.put _ (some 26) _ = _
          simp only [Act.put, List.setIfInBounds_toArray, List.set_cons_zero, List.set_cons_succ, i64_w, i32_w]
          rfl
         refine pure_ (i := 9) (N := some 27) (v := ?_) (a' := ?_) #[tt,tt,tt,tt,tt,tt,tt,tt,tt,tt,ff,ff,ff,ff,ff,ff,ff,ff,ff,ff,ff] rfl rfl (any_of HT_.out (by kernel_rfl)) (fun _ _ _ h => h) (Or.inl ⟨by rfl, ?_⟩) ?_ ?_
         rotate_left
         ·intro w'
          go_simp
          with_reducible rfl
         rotate_left
         ·simp only [Act.put, List.setIfInBounds_toArray, List.set_cons_zero, List.set_cons_succ, i64_w, i32_w]
          rfl
         refine pure_ (i := 10) (N := some 28) (v := ?_) (a' := ?_) #[tt,tt,tt,tt,tt,tt,tt,tt,tt,tt,tt,ff,ff,ff,ff,ff,ff,ff,ff,ff,ff] rfl rfl (any_of HT_.out (by kernel_rfl)) (fun _ _ _ h => h) (Or.inl ⟨by rfl, ?_⟩) ?_ ?_
         rotate_left
         ·intro w'
          go_simp
          with_reducible rfl
         rotate_left
         ·simp only [Act.put, List.setIfInBounds_toArray, List.set_cons_zero, List.set_cons_succ, i64_w, i32_w]
          rfl
         refine pure_ (i := 14) (N := some 32) (v := ?_) (a' := ?_) #[tt,tt,tt,tt,tt,tt,tt,tt,tt,tt,tt,ff,ff,ff,tt,ff,ff,ff,ff,ff,ff] rfl rfl (any_of HT_.out (by kernel_rfl)) (fun _ _ _ h => h) (Or.inl ⟨by rfl, ?_⟩) ?_ ?_
         rotate_left
         ·intro w'
          go_simp
          with_reducible rfl
         rotate_left
         ·simp only [Act.put, List.setIfInBounds_toArray, List.set_cons_zero, List.set_cons_succ, i64_w, i32_w]
          rfl
         refine take_ (i := 11) (N := some 29) (v := ?_) (a' := ?_) #[tt,tt,tt,tt,tt,tt,tt,tt,tt,tt,tt,tt,ff,ff,tt,ff,ff,ff,ff,ff,ff] rfl rfl (take_ofW HT_.out HW_.out (by kernel_rfl)) (fun _ _ _ h => h) (Or.inl ⟨by rfl, ?_⟩) hHeld ?_ ?_
         rotate_left
         ·rintro w' ⟨s0, s1, s2, s3, s4, s5, s6, s7, s8, s9, s10, s11, s12, s13, s14, s15, s16, s17, s18, s19, s20, s21, s22, s23⟩
          go_simp
          with_reducible rfl
         rotate_left
         ·simp only [Act.put, List.setIfInBounds_toArray, List.set_cons_zero, List.set_cons_succ, i64_w, i32_w]
          rfl
         refine pure_ (i := 12) (N := some 30) (v := ?_) (a' := ?_) #[tt,tt,tt,tt,tt,tt,tt,tt,tt,tt,tt,tt,tt,ff,tt,ff,ff,ff,ff,ff,ff] rfl rfl (any_of HT_.out (by kernel_rfl)) (fun _ _ _ h => h) (Or.inl ⟨by rfl, ?_⟩) ?_ ?_
         rotate_left
         ·intro w'
          go_simp
          with_reducible rfl
         rotate_left
         ·simp only [Act.put, List.setIfInBounds_toArray, List.set_cons_zero, List.set_cons_succ, i64_w, i32_w]
          rfl
         refine take_ (i := 13) (N := some 31) (v := ?_) (a' := ?_) #[tt,tt,tt,tt,tt,tt,tt,tt,tt,tt,tt,tt,tt,tt,tt,ff,ff,ff,ff,ff,ff] rfl rfl (take_ofW HT_.out HW_.out (by kernel_rfl)) (fun _ _ _ h => h) (Or.inl ⟨by rfl, ?_⟩) hHeld ?_ ?_
         rotate_left
         ·rintro w' ⟨s0, s1, s2, s3, s4, s5, s6, s7, s8, s9, s10, s11, s12, s13, s14, s15, s16, s17, s18, s19, s20, s21, s22, s23⟩
          go_simp
          with_reducible rfl
         rotate_left
         ·simp only [Act.put, List.setIfInBounds_toArray, List.set_cons_zero, List.set_cons_succ, i64_w, i32_w]
          rfl
         refine take_ (i := 15) (N := some 33) (v := ?_) (a' := ?_) #[tt,tt,tt,tt,tt,tt,tt,tt,tt,tt,tt,tt,tt,tt,tt,tt,ff,ff,ff,ff,ff] rfl rfl (take_ofW HT_.out HW_.out (by kernel_rfl)) (fun _ _ _ h => h) (Or.inl ⟨by rfl, ?_⟩) hHeld ?_ ?_
         rotate_left
         ·rintro w' ⟨s0, s1, s2, s3, s4, s5, s6, s7, s8, s9, s10, s11, s12, s13, s14, s15, s16, s17, s18, s19, s20, s21, s22, s23⟩
          go_simp
          with_reducible rfl
         rotate_left
         ·simp only [Act.put, List.setIfInBounds_toArray, List.set_cons_zero, List.set_cons_succ, i64_w, i32_w]
          rfl
         refine pure_ (i := 16) (N := some 34) (v := ?_) (a' := ?_) #[tt,tt,tt,tt,tt,tt,tt,tt,tt,tt,tt,tt,tt,tt,tt,tt,tt,ff,ff,ff,ff] rfl rfl (any_of HT_.out (by kernel_rfl)) (fun _ _ _ h => h) (Or.inl ⟨by rfl, ?_⟩) ?_ ?_
         rotate_left
         ·intro w'
          go_simp
          with_reducible rfl
         rotate_left
         ·simp only [Act.put, List.setIfInBounds_toArray, List.set_cons_zero, List.set_cons_succ, i64_w, i32_w]
          rfl
         refine take_ (i := 17) (N := some 35) (v := ?_) (a' := ?_) #[tt,tt,tt,tt,tt,tt,tt,tt,tt,tt,tt,tt,tt,tt,tt,tt,tt,tt,ff,ff,ff] rfl rfl (take_ofW HT_.out HW_.out (by kernel_rfl)) (fun _ _ _ h => h) (Or.inl ⟨by rfl, ?_⟩) hHeld ?_ ?_
         rotate_left
         ·rintro w' ⟨s0, s1, s2, s3, s4, s5, s6, s7, s8, s9, s10, s11, s12, s13, s14, s15, s16, s17, s18, s19, s20, s21, s22, s23⟩
          go_simp
          with_reducible rfl
         rotate_left
         ·simp only [Act.put, List.setIfInBounds_toArray, List.set_cons_zero, List.set_cons_succ, i64_w, i32_w]
          rfl
         refine one_ (i := 18) (N := some 36) #[tt,tt,tt,tt,tt,tt,tt,tt,tt,tt,tt,tt,tt,tt,tt,tt,tt,tt,tt,ff,ff] rfl rfl (one_of HT_.out (by kernel_rfl)) (by decide) (fun K hK => ?_)
         refine goes_ Tryz.func96 (by kernel_rfl) rfl #[.agg #[.int .u8 ((rd_T25 l0_3 1).f0), .int .u64 ((rd_T25 l0_3 1).f1), .string ((rd_T25 l0_3 1).f2), .slice A106_3 ((rd_T25 l0_3 1).f3).length c106_3], .agg #[.int .u8 ((rd_T25 l1_3 1).f0), .int .u64 ((rd_T25 l1_3 1).f1), .string ((rd_T25 l1_3 1).f2), .slice A107_3 ((rd_T25 l1_3 1).f3).length c107_3]] (by rfl) rfl rfl (by (try simp only [List.map_toArray, List.map_cons, List.map_nil]); first | done | rfl | (simp only [List.length_drop, List.length_take]; rfl)) ?_
         with_reducible refine (ih kj2 (by have := HJ2.out; omega) ((rd_T25 l0_3 1).f0) ((rd_T25 l0_3 1).f1) ((rd_T25 l0_3 1).f2) _ _ ((rd_T25 l0_3 1).f3) ((rd_T25 l1_3 1).f0) ((rd_T25 l1_3 1).f1) ((rd_T25 l1_3 1).f2) _ _ ((rd_T25 l1_3 1).f3) t108 _ ?side1 ?side2 ?side3 ?side4 A22.out).mono ?_
         (case side1 => repeat (first | exact (Kd.C_below HR106_3.out HB.out) | (with_reducible refine Kd.C_alloc ?_ _) | (with_reducible refine Kd.C_drewN ?_ _) | (with_reducible refine Kd.C_drew ?_)))
         (case side2 => exact HC106_3.out)
         (case side3 => repeat (first | exact (Kd.C_below HR107_3.out HB.out) | (with_reducible refine Kd.C_alloc ?_ _) | (with_reducible refine Kd.C_drewN ?_ _) | (with_reducible refine Kd.C_drew ?_)))
         (case side4 => exact HC107_3.out)
         rintro e w25 ⟨rfl, hb⟩
         refine ⟨_, rfl, ?_⟩
         have n0_ := Aside0.mk (blk_below (g := gb101) (o := .cells #[.int .u8 a0_0, .int .u64 a0_1, .string a0_2, .slice (some ad103) l0_3.length c0_3] 25 (0, 0)) (by (with_reducible repeat (first | refine blk_drewN ?_ _ | refine blk_drew ?_ | refine blk_alloc ?_ _)); exact BK101.out) hb)
         have n1_ := Aside0.mk (blk_below (g := gb102) (o := .cells #[.int .u8 a1_0, .int .u64 a1_1, .string a1_2, .slice (some ad104) l1_3.length c1_3] 25 (0, 0)) (by (with_reducible repeat (first | refine blk_drewN ?_ _ | refine blk_drew ?_ | refine blk_alloc ?_ _)); exact BK102.out) hb)
         have n2_ := Aside0.mk (below_step (by repeat (first | (with_reducible first | exact HB.out | apply below_alloc | apply pw_below_drewN | apply below_drew1 | refine below_set ?_ GE101.out | refine below_set ?_ GE102.out) | exact HB.out)) hb)
         clear BK101
         clear BK102
         clear HB
         have BK101 := n0_
         have BK102 := n1_
         have HB := n2_
         clear n0_ n1_ n2_
         (try clear hb)
         (try clear hb2)
         (try clear hk)
         (try clear hi)
         refine hK.out _ _ ⟨(blk_cell BK101.out 0).trans rfl, (blk_cell BK101.out 1).trans rfl, (blk_cell BK101.out 2).trans rfl, (blk_cell BK101.out 3).trans rfl, (blk_cell BK102.out 0).trans rfl, (blk_cell BK102.out 1).trans rfl, (blk_cell BK102.out 2).trans rfl, (blk_cell BK102.out 3).trans rfl, ((HB.out.cell (World.block_lt_of_cell? w _ hw103_0)).trans hw103_0), ((HB.out.cell (World.block_lt_of_cell? w _ hw103_1)).trans hw103_1), ((HB.out.cell (World.block_lt_of_cell? w _ hw103_2)).trans hw103_2), ((HB.out.cell (World.block_lt_of_cell? w _ hw103_3)).trans hw103_3), ((HB.out.cell (World.block_lt_of_cell? w _ hw104_0)).trans hw104_0), ((HB.out.cell (World.block_lt_of_cell? w _ hw104_1)).trans hw104_1), ((HB.out.cell (World.block_lt_of_cell? w _ hw104_2)).trans hw104_2), ((HB.out.cell (World.block_lt_of_cell? w _ hw104_3)).trans hw104_3), ((HB.out.cell (World.block_lt_of_cell? w _ hw106_0)).trans hw106_0), ((HB.out.cell (World.block_lt_of_cell? w _ hw106_1)).trans hw106_1), ((HB.out.cell (World.block_lt_of_cell? w _ hw106_2)).trans hw106_2), ((HB.out.cell (World.block_lt_of_cell? w _ hw106_3)).trans hw106_3), ((HB.out.cell (World.block_lt_of_cell? w _ hw107_0)).trans hw107_0), ((HB.out.cell (World.block_lt_of_cell? w _ hw107_1)).trans hw107_1), ((HB.out.cell (World.block_lt_of_cell? w _ hw107_2)).trans hw107_2), ((HB.out.cell (World.block_lt_of_cell? w _ hw107_3)).trans hw107_3)⟩ (fun hHeld => ?_)
         clear hK K
         refine norm_ (a' := ?_) ?_ ?_
         rotate_left
         ·show Act.put _ (some 36) _ = _
          simp only [Act.put, List.setIfInBounds_toArray, List.set_cons_zero, List.set_cons_succ, i64_w, i32_w]
          rfl
         refine pure_ (i := 19) (N := some 37) (v := ?_) (a' := ?_) #[tt,tt,tt,tt,tt,tt,tt,tt,tt,tt,tt,tt,tt,tt,tt,tt,tt,tt,tt,tt,ff] rfl rfl (any_of HT_.out (by kernel_rfl)) (fun _ _ _ h => h) (Or.inl ⟨by rfl, ?_⟩) ?_ ?_
         rotate_left
         ·intro w'
          go_simp
          with_reducible rfl
         rotate_left
         ·simp only [Act.put, List.setIfInBounds_toArray, List.set_cons_zero, List.set_cons_succ, i64_w, i32_w]
          rfl
         refine pure_ (i := 20) (N := some 4) (v := ?_) (a' := ?_) #[tt,tt,tt,tt,tt,tt,tt,tt,tt,tt,tt,tt,tt,tt,tt,tt,tt,tt,tt,tt,tt] rfl rfl (any_of HT_.out (by kernel_rfl)) (fun _ _ _ h => h) (Or.inl ⟨by rfl, ?_⟩) ?_ ?_
         rotate_left
         ·intro w'
          go_simp
          with_reducible rfl
         rotate_left
         ·simp only [Act.put, List.setIfInBounds_toArray, List.set_cons_zero, List.set_cons_succ, i64_w, i32_w]
          rfl
         refine done_ (done_of HT_.out (by kernel_rfl)) ?_
         try go_wp2
         go_ret
         exact ⟨by first | rfl | (simp [errW_none, errW_some] <;> rfl) | (simp [*, errW_none, errW_some] <;> rfl), by repeat (first | (with_reducible first | exact HB.out | apply below_alloc | apply pw_below_drewN | apply below_drew1 | refine below_set ?_ GE101.out | refine below_set ?_ GE102.out) | exact HB.out)⟩
        ·rw [if_neg c21] at H
         exact absurd H (by simp)
       ·rw [if_neg c20] at H
        exact absurd H (by simp)
      ·replace c19 := Bool.eq_false_iff.mpr c19
       subst c19
       have H1 : (some false) = some r := by rw [if_neg (show ¬ (false = true) by decide)] at H; exact H
       clear H
       have H := H1
       clear H1
       obtain rfl := Option.some.inj H
       try go_wp2
       have n0_ := Aside0.mk (blk_drew BK101.out)
       have n1_ := Aside0.mk (blk_drew BK102.out)
       have n2_ := Aside0.mk (below_drew1 HB.out)
       clear BK101
       clear BK102
       clear HB
       have BK101 := n0_
       have BK102 := n1_
       have HB := n2_
       clear n0_ n1_ n2_
       have p103 : 0 ≤ (0 : Int) := (by omega)
       have q103 : 0 < (l0_3.length : Int) := of_decide_eq_true (by first | (with_reducible assumption) | assumption)
       obtain ⟨ad103, A103_3, c103_3, e103, hx103_0, hx103_1, hx103_2, hx103_3, hl103_3, hi103_3⟩ := at_T25 HR0_3.out 0 p103 q103
       have hw103_3 := hx103_3
       (try rw [show ((0 : Int)).toNat = 0 from rfl] at hw103_3)
       (try rw [show 0 * 4 = 0 from rfl] at hw103_3)
       (try rw [Addr.add_zero'] at hw103_3)
       have hw103_2 := hx103_2
       (try rw [show ((0 : Int)).toNat = 0 from rfl] at hw103_2)
       (try rw [show 0 * 4 = 0 from rfl] at hw103_2)
       (try rw [Addr.add_zero'] at hw103_2)
       have hw103_1 := hx103_1
       (try rw [show ((0 : Int)).toNat = 0 from rfl] at hw103_1)
       (try rw [show 0 * 4 = 0 from rfl] at hw103_1)
       (try rw [Addr.add_zero'] at hw103_1)
       have hw103_0 := hx103_0
       (try rw [show ((0 : Int)).toNat = 0 from rfl] at hw103_0)
       (try rw [show 0 * 4 = 0 from rfl] at hw103_0)
       (try rw [Addr.add_zero'] at hw103_0)
       cases e103
       have qi103 : (0 < l0_3.length) = True := eq_true (by omega)
       (try rw [show ((0 : Int)).toNat = 0 from rfl] at hx103_0)
       (try rw [show 0 * 4 = 0 from rfl] at hx103_0)
       (try rw [Addr.add_zero'] at hx103_0)
       (try rw [show ((0 : Int)).toNat = 0 from rfl] at hx103_1)
       (try rw [show 0 * 4 = 0 from rfl] at hx103_1)
       (try rw [Addr.add_zero'] at hx103_1)
       (try rw [show ((0 : Int)).toNat = 0 from rfl] at hx103_2)
       (try rw [show 0 * 4 = 0 from rfl] at hx103_2)
       (try rw [Addr.add_zero'] at hx103_2)
       (try rw [show ((0 : Int)).toNat = 0 from rfl] at hx103_3)
       (try rw [show 0 * 4 = 0 from rfl] at hx103_3)
       (try rw [Addr.add_zero'] at hx103_3)
       replace hx103_0 := (HB.out.cell (World.block_lt_of_cell? w _ hx103_0)).trans hx103_0
       replace hx103_1 := (HB.out.cell (World.block_lt_of_cell? w _ hx103_1)).trans hx103_1
       replace hx103_2 := (HB.out.cell (World.block_lt_of_cell? w _ hx103_2)).trans hx103_2
       replace hx103_3 := (HB.out.cell (World.block_lt_of_cell? w _ hx103_3)).trans hx103_3
       have HR103_3 := Aside0.mk hi103_3
       have HC103_3 := Aside0.mk hl103_3
       clear hi103_3 hl103_3
       replace p103 := eq_true p103
       replace q103 := eq_true q103
       have p104 : 0 ≤ (0 : Int) := (by omega)
       have q104 : 0 < (l1_3.length : Int) := of_decide_eq_true (by first | (with_reducible assumption) | assumption)
       obtain ⟨ad104, A104_3, c104_3, e104, hx104_0, hx104_1, hx104_2, hx104_3, hl104_3, hi104_3⟩ := at_T25 HR1_3.out 0 p104 q104
       have hw104_3 := hx104_3
       (try rw [show ((0 : Int)).toNat = 0 from rfl] at hw104_3)
       (try rw [show 0 * 4 = 0 from rfl] at hw104_3)
       (try rw [Addr.add_zero'] at hw104_3)
       have hw104_2 := hx104_2
       (try rw [show ((0 : Int)).toNat = 0 from rfl] at hw104_2)
       (try rw [show 0 * 4 = 0 from rfl] at hw104_2)
       (try rw [Addr.add_zero'] at hw104_2)
       have hw104_1 := hx104_1
       (try rw [show ((0 : Int)).toNat = 0 from rfl] at hw104_1)
       (try rw [show 0 * 4 = 0 from rfl] at hw104_1)
       (try rw [Addr.add_zero'] at hw104_1)
       have hw104_0 := hx104_0
       (try rw [show ((0 : Int)).toNat = 0 from rfl] at hw104_0)
       (try rw [show 0 * 4 = 0 from rfl] at hw104_0)
       (try rw [Addr.add_zero'] at hw104_0)
       cases e104
       have qi104 : (0 < l1_3.length) = True := eq_true (by omega)
       (try rw [show ((0 : Int)).toNat = 0 from rfl] at hx104_0)
       (try rw [show 0 * 4 = 0 from rfl] at hx104_0)
       (try rw [Addr.add_zero'] at hx104_0)
       (try rw [show ((0 : Int)).toNat = 0 from rfl] at hx104_1)
       (try rw [show 0 * 4 = 0 from rfl] at hx104_1)
       (try rw [Addr.add_zero'] at hx104_1)
       (try rw [show ((0 : Int)).toNat = 0 from rfl] at hx104_2)
       (try rw [show 0 * 4 = 0 from rfl] at hx104_2)
       (try rw [Addr.add_zero'] at hx104_2)
       (try rw [show ((0 : Int)).toNat = 0 from rfl] at hx104_3)
       (try rw [show 0 * 4 = 0 from rfl] at hx104_3)
       (try rw [Addr.add_zero'] at hx104_3)
       replace hx104_0 := (HB.out.cell (World.block_lt_of_cell? w _ hx104_0)).trans hx104_0
       replace hx104_1 := (HB.out.cell (World.block_lt_of_cell? w _ hx104_1)).trans hx104_1
       replace hx104_2 := (HB.out.cell (World.block_lt_of_cell? w _ hx104_2)).trans hx104_2
       replace hx104_3 := (HB.out.cell (World.block_lt_of_cell? w _ hx104_3)).trans hx104_3
       have HR104_3 := Aside0.mk hi104_3
       have HC104_3 := Aside0.mk hl104_3
       clear hi104_3 hl104_3
       replace p104 := eq_true p104
       replace q104 := eq_true q104
       refine start_ (n := 21) (S := fun w' => w'.cell? ⟨gb101, 0, none⟩ = some (.int .u8 a0_0) ∧ w'.cell? ⟨gb101, 1, none⟩ = some (.int .u64 a0_1) ∧ w'.cell? ⟨gb101, 2, none⟩ = some (.string a0_2) ∧ w'.cell? ⟨gb101, 3, none⟩ = some (.slice (some ad103) l0_3.length c0_3) ∧ w'.cell? ⟨gb102, 0, none⟩ = some (.int .u8 a1_0) ∧ w'.cell? ⟨gb102, 1, none⟩ = some (.int .u64 a1_1) ∧ w'.cell? ⟨gb102, 2, none⟩ = some (.string a1_2) ∧ w'.cell? ⟨gb102, 3, none⟩ = some (.slice (some ad104) l1_3.length c1_3) ∧ w'.cell? ad103 = some (.int .u8 ((rd_T25 l0_3 0).f0)) ∧ w'.cell? ⟨ad103.block, ad103.off + 1, none⟩ = some (.int .u64 ((rd_T25 l0_3 0).f1)) ∧ w'.cell? ⟨ad103.block, ad103.off + 2, none⟩ = some (.string ((rd_T25 l0_3 0).f2)) ∧ w'.cell? ⟨ad103.block, ad103.off + 3, none⟩ = some (.slice A103_3 ((rd_T25 l0_3 0).f3).length c103_3) ∧ w'.cell? ad104 = some (.int .u8 ((rd_T25 l1_3 0).f0)) ∧ w'.cell? ⟨ad104.block, ad104.off + 1, none⟩ = some (.int .u64 ((rd_T25 l1_3 0).f1)) ∧ w'.cell? ⟨ad104.block, ad104.off + 2, none⟩ = some (.string ((rd_T25 l1_3 0).f2)) ∧ w'.cell? ⟨ad104.block, ad104.off + 3, none⟩ = some (.slice A104_3 ((rd_T25 l1_3 0).f3).length c104_3)) (ds := []) #[ff,ff,ff,ff,ff,ff,ff,ff,ff,ff,ff,ff,ff,ff,ff,ff,ff,ff,ff,ff,ff] (by kernel_rfl) rfl rfl ⟨(blk_cell BK101.out 0).trans rfl, (blk_cell BK101.out 1).trans rfl, (blk_cell BK101.out 2).trans rfl, (blk_cell BK101.out 3).trans rfl, (blk_cell BK102.out 0).trans rfl, (blk_cell BK102.out 1).trans rfl, (blk_cell BK102.out 2).trans rfl, (blk_cell BK102.out 3).trans rfl, ((HB.out.cell (World.block_lt_of_cell? w _ hw103_0)).trans hw103_0), ((HB.out.cell (World.block_lt_of_cell? w _ hw103_1)).trans hw103_1), ((HB.out.cell (World.block_lt_of_cell? w _ hw103_2)).trans hw103_2), ((HB.out.cell (World.block_lt_of_cell? w _ hw103_3)).trans hw103_3), ((HB.out.cell (World.block_lt_of_cell? w _ hw104_0)).trans hw104_0), ((HB.out.cell (World.block_lt_of_cell? w _ hw104_1)).trans hw104_1), ((HB.out.cell (World.block_lt_of_cell? w _ hw104_2)).trans hw104_2), ((HB.out.cell (World.block_lt_of_cell? w _ hw104_3)).trans hw104_3)⟩ (fun hHeld => ?_); refine with_tabW value_alike.tab3 value_alike.bits3 (fun HT_ HW_ => ?_)
       generalize wc.drew = w26 at BK101 BK102 HB HR103_3 HR104_3 hx103_0 hx103_1 hx103_2 hx103_3 hx104_0 hx104_1 hx104_2 hx104_3 hHeld ⊢
       refine pure_ (i := 0) (N := some 18) (v := ?_) (a' := ?_) #[tt,ff,ff,ff,ff,ff,ff,ff,ff,ff,ff,ff,ff,ff,ff,ff,ff,ff,ff,ff,ff] rfl rfl (any_of HT_.out (by kernel_rfl)) (fun _ _ _ h => h) (Or.inl ⟨by rfl, ?_⟩) ?_ ?_
       rotate_left
       ·intro w'
        go_simp
        with_reducible rfl
       rotate_left
       ·simp only [Act.put, List.setIfInBounds_toArray, List.set_cons_zero, List.set_cons_succ, i64_w, i32_w]
        rfl
       refine pure_ (i := 4) (N := some 22) (v := ?_) (a' := ?_) #[tt,ff,ff,ff,tt,ff,ff,ff,ff,ff,ff,ff,ff,ff,ff,ff,ff,ff,ff,ff,ff] rfl rfl (any_of HT_.out (by kernel_rfl)) (fun _ _ _ h => h) (Or.inl ⟨by rfl, ?_⟩) ?_ ?_
       rotate_left
       ·intro w'
        go_simp
        with_reducible rfl
       rotate_left
       ·simp only [Act.put, List.setIfInBounds_toArray, List.set_cons_zero, List.set_cons_succ, i64_w, i32_w]
        rfl
       refine take_ (i := 1) (N := some 19) (v := ?_) (a' := ?_) #[tt,tt,ff,ff,tt,ff,ff,ff,ff,ff,ff,ff,ff,ff,ff,ff,ff,ff,ff,ff,ff] rfl rfl (take_ofW HT_.out HW_.out (by kernel_rfl)) (fun _ _ _ h => h) (Or.inl ⟨by rfl, ?_⟩) hHeld ?_ ?_
       rotate_left
       ·rintro w' ⟨s0, s1, s2, s3, s4, s5, s6, s7, s8, s9, s10, s11, s12, s13, s14, s15⟩
        go_simp
        with_reducible rfl
       rotate_left
       ·simp only [Act.put, List.setIfInBounds_toArray, List.set_cons_zero, List.set_cons_succ, i64_w, i32_w]
        rfl
       refine pure_ (i := 2) (N := some 20) (v := ?_) (a' := ?_) #[tt,tt,tt,ff,tt,ff,ff,ff,ff,ff,ff,ff,ff,ff,ff,ff,ff,ff,ff,ff,ff] rfl rfl (any_of HT_.out (by kernel_rfl)) (fun _ _ _ h => h) (Or.inl ⟨by rfl, ?_⟩) ?_ ?_
       rotate_left
       ·intro w'
        go_simp
        with_reducible rfl
       rotate_left
       ·simp only [Act.put, List.setIfInBounds_toArray, List.set_cons_zero, List.set_cons_succ, i64_w, i32_w]
        rfl
       refine take_ (i := 3) (N := some 21) (v := ?_) (a' := ?_) #[tt,tt,tt,tt,tt,ff,ff,ff,ff,ff,ff,ff,ff,ff,ff,ff,ff,ff,ff,ff,ff] rfl rfl (take_ofW HT_.out HW_.out (by kernel_rfl)) (fun _ _ _ h => h) (Or.inl ⟨by rfl, ?_⟩) hHeld ?_ ?_
       rotate_left
       ·rintro w' ⟨s0, s1, s2, s3, s4, s5, s6, s7, s8, s9, s10, s11, s12, s13, s14, s15⟩
        go_simp
        with_reducible rfl
       rotate_left
       ·simp only [Act.put, List.setIfInBounds_toArray, List.set_cons_zero, List.set_cons_succ, i64_w, i32_w]
        rfl
       refine take_ (i := 5) (N := some 23) (v := ?_) (a' := ?_) #[tt,tt,tt,tt,tt,tt,ff,ff,ff,ff,ff,ff,ff,ff,ff,ff,ff,ff,ff,ff,ff] rfl rfl (take_ofW HT_.out HW_.out (by kernel_rfl)) (fun _ _ _ h => h) (Or.inl ⟨by rfl, ?_⟩) hHeld ?_ ?_
       rotate_left
       ·rintro w' ⟨s0, s1, s2, s3, s4, s5, s6, s7, s8, s9, s10, s11, s12, s13, s14, s15⟩
        go_simp
        with_reducible rfl
       rotate_left
       ·simp only [Act.put, List.setIfInBounds_toArray, List.set_cons_zero, List.set_cons_succ, i64_w, i32_w]
        rfl
       refine pure_ (i := 6) (N := some 24) (v := ?_) (a' := ?_) #[tt,tt,tt,tt,tt,tt,tt,ff,ff,ff,ff,ff,ff,ff,ff,ff,ff,ff,ff,ff,ff] rfl rfl (any_of HT_.out (by kernel_rfl)) (fun _ _ _ h => h) (Or.inl ⟨by rfl, ?_⟩) ?_ ?_
       rotate_left
       ·intro w'
        go_simp
        with_reducible rfl
       rotate_left
       ·simp only [Act.put, List.setIfInBounds_toArray, List.set_cons_zero, List.set_cons_succ, i64_w, i32_w]
        rfl
       refine take_ (i := 7) (N := some 25) (v := ?_) (a' := ?_) #[tt,tt,tt,tt,tt,tt,tt,tt,ff,ff,ff,ff,ff,ff,ff,ff,ff,ff,ff,ff,ff] rfl rfl (take_ofW HT_.out HW_.out (by kernel_rfl)) (fun _ _ _ h => h) (Or.inl ⟨by rfl, ?_⟩) hHeld ?_ ?_
       rotate_left
       ·rintro w' ⟨s0, s1, s2, s3, s4, s5, s6, s7, s8, s9, s10, s11, s12, s13, s14, s15⟩
        go_simp
        with_reducible rfl
       rotate_left
       ·simp only [Act.put, List.setIfInBounds_toArray, List.set_cons_zero, List.set_cons_succ, i64_w, i32_w]
        rfl
       refine one_ (i := 8) (N := some 26) #[tt,tt,tt,tt,tt,tt,tt,tt,tt,ff,ff,ff,ff,ff,ff,ff,ff,ff,ff,ff,ff] rfl rfl (one_of HT_.out (by kernel_rfl)) (by decide) (fun K hK => ?_)
       refine goes_ Tryz.func103 (by kernel_rfl) rfl #[.agg #[.int .u8 ((rd_T25 l0_3 0).f0), .int .u64 ((rd_T25 l0_3 0).f1), .string ((rd_T25 l0_3 0).f2), .slice A103_3 ((rd_T25 l0_3 0).f3).length c103_3], .agg #[.int .u8 ((rd_T25 l1_3 0).f0), .int .u64 ((rd_T25 l1_3 0).f1), .string ((rd_T25 l1_3 0).f2), .slice A104_3 ((rd_T25 l1_3 0).f3).length c104_3]] (by rfl) rfl rfl (by (try simp only [List.map_toArray, List.map_cons, List.map_nil]); first | done | rfl | (simp only [List.length_drop, List.length_take]; rfl)) ?_
       with_reducible refine (value_Same.calls ((rd_T25 l0_3 0).f0) ((rd_T25 l0_3 0).f1) ((rd_T25 l0_3 0).f2) _ _ ((rd_T25 l0_3 0).f3) ((rd_T25 l1_3 0).f0) ((rd_T25 l1_3 0).f1) ((rd_T25 l1_3 0).f2) _ _ ((rd_T25 l1_3 0).f3) false _ ?side1 ?side2 ?side3 ?side4 A18.out).mono ?_
       (case side1 => repeat (first | exact (Kd.C_below HR103_3.out HB.out) | (with_reducible refine Kd.C_alloc ?_ _) | (with_reducible refine Kd.C_drewN ?_ _) | (with_reducible refine Kd.C_drew ?_)))
       (case side2 => exact HC103_3.out)
       (case side3 => repeat (first | exact (Kd.C_below HR104_3.out HB.out) | (with_reducible refine Kd.C_alloc ?_ _) | (with_reducible refine Kd.C_drewN ?_ _) | (with_reducible refine Kd.C_drew ?_)))
       (case side4 => exact HC104_3.out)
       rintro e w27 ⟨rfl, hb⟩
       refine ⟨_, rfl, ?_⟩
       have n0_ := Aside0.mk (blk_below (g := gb101) (o := .cells #[.int .u8 a0_0, .int .u64 a0_1, .string a0_2, .slice (some ad103) l0_3.length c0_3] 25 (0, 0)) (by (with_reducible repeat (first | refine blk_drewN ?_ _ | refine blk_drew ?_ | refine blk_alloc ?_ _)); exact BK101.out) hb)
       have n1_ := Aside0.mk (blk_below (g := gb102) (o := .cells #[.int .u8 a1_0, .int .u64 a1_1, .string a1_2, .slice (some ad104) l1_3.length c1_3] 25 (0, 0)) (by (with_reducible repeat (first | refine blk_drewN ?_ _ | refine blk_drew ?_ | refine blk_alloc ?_ _)); exact BK102.out) hb)
       have n2_ := Aside0.mk (below_step (by repeat (first | (with_reducible first | exact HB.out | apply below_alloc | apply pw_below_drewN | apply below_drew1 | refine below_set ?_ GE101.out | refine below_set ?_ GE102.out) | exact HB.out)) hb)
       clear BK101
       clear BK102
       clear HB
       have BK101 := n0_
       have BK102 := n1_
       have HB := n2_
       clear n0_ n1_ n2_
       (try clear hb)
       (try clear hb2)
       (try clear hk)
       (try clear hi)
       refine hK.out _ _ ⟨(blk_cell BK101.out 0).trans rfl, (blk_cell BK101.out 1).trans rfl, (blk_cell BK101.out 2).trans rfl, (blk_cell BK101.out 3).trans rfl, (blk_cell BK102.out 0).trans rfl, (blk_cell BK102.out 1).trans rfl, (blk_cell BK102.out 2).trans rfl, (blk_cell BK102.out 3).trans rfl, ((HB.out.cell (World.block_lt_of_cell? w _ hw103_0)).trans hw103_0), ((HB.out.cell (World.block_lt_of_cell? w _ hw103_1)).trans hw103_1), ((HB.out.cell (World.block_lt_of_cell? w _ hw103_2)).trans hw103_2), ((HB.out.cell (World.block_lt_of_cell? w _ hw103_3)).trans hw103_3), ((HB.out.cell (World.block_lt_of_cell? w _ hw104_0)).trans hw104_0), ((HB.out.cell (World.block_lt_of_cell? w _ hw104_1)).trans hw104_1), ((HB.out.cell (World.block_lt_of_cell? w _ hw104_2)).trans hw104_2), ((HB.out.cell (World.block_lt_of_cell? w _ hw104_3)).trans hw104_3)⟩ (fun hHeld => ?_)
       clear hK K
       refine norm_ (a' := ?_) ?_ ?_
       rotate_left
       ·show Act.put _ (some 26) _ = _
        simp only [Act.put, List.setIfInBounds_toArray, List.set_cons_zero, List.set_cons_succ, i64_w, i32_w]
        rfl
       refine pure_ (i := 9) (N := some 27) (v := ?_) (a' := ?_) #[tt,tt,tt,tt,tt,tt,tt,tt,tt,tt,ff,ff,ff,ff,ff,ff,ff,ff,ff,ff,ff] rfl rfl (any_of HT_.out (by kernel_rfl)) (fun _ _ _ h => h) (Or.inl ⟨by rfl, ?_⟩) ?_ ?_
       rotate_left
       ·intro w'
        go_simp
        with_reducible rfl
       rotate_left
       ·simp only [Act.put, List.setIfInBounds_toArray, List.set_cons_zero, List.set_cons_succ, i64_w, i32_w]
        rfl
       refine pure_ (i := 10) (N := some 28) (v := undef) (a' := ?_) #[tt,tt,tt,tt,tt,tt,tt,tt,tt,tt,tt,ff,ff,ff,ff,ff,ff,ff,ff,ff,ff] rfl rfl (any_of HT_.out (by kernel_rfl)) (fun _ _ _ h => h) (Or.inr ⟨by rfl, rfl⟩) ?_ ?_
       rotate_left
       ·simp only [Act.put, List.setIfInBounds_toArray, List.set_cons_zero, List.set_cons_succ, i64_w, i32_w]
        rfl
       refine pure_ (i := 11) (N := some 29) (v := undef) (a' := ?_) #[tt,tt,tt,tt,tt,tt,tt,tt,tt,tt,tt,tt,ff,ff,ff,ff,ff,ff,ff,ff,ff] rfl rfl (any_of HT_.out (by kernel_rfl)) (fun _ _ _ h => h) (Or.inr ⟨by rfl, rfl⟩) ?_ ?_
       rotate_left
       ·simp only [Act.put, List.setIfInBounds_toArray, List.set_cons_zero, List.set_cons_succ, i64_w, i32_w]
        rfl
       refine pure_ (i := 12) (N := some 30) (v := undef) (a' := ?_) #[tt,tt,tt,tt,tt,tt,tt,tt,tt,tt,tt,tt,tt,ff,ff,ff,ff,ff,ff,ff,ff] rfl rfl (any_of HT_.out (by kernel_rfl)) (fun _ _ _ h => h) (Or.inr ⟨by rfl, rfl⟩) ?_ ?_
       rotate_left
       ·simp only [Act.put, List.setIfInBounds_toArray, List.set_cons_zero, List.set_cons_succ, i64_w, i32_w]
        rfl
       refine pure_ (i := 13) (N := some 31) (v := undef) (a' := ?_) #[tt,tt,tt,tt,tt,tt,tt,tt,tt,tt,tt,tt,tt,tt,ff,ff,ff,ff,ff,ff,ff] rfl rfl (any_of HT_.out (by kernel_rfl)) (fun _ _ _ h => h) (Or.inr ⟨by rfl, rfl⟩) ?_ ?_
       rotate_left
       ·simp only [Act.put, List.setIfInBounds_toArray, List.set_cons_zero, List.set_cons_succ, i64_w, i32_w]
        rfl
       refine pure_ (i := 14) (N := some 32) (v := undef) (a' := ?_) #[tt,tt,tt,tt,tt,tt,tt,tt,tt,tt,tt,tt,tt,tt,tt,ff,ff,ff,ff,ff,ff] rfl rfl (any_of HT_.out (by kernel_rfl)) (fun _ _ _ h => h) (Or.inr ⟨by rfl, rfl⟩) ?_ ?_
       rotate_left
       ·simp only [Act.put, List.setIfInBounds_toArray, List.set_cons_zero, List.set_cons_succ, i64_w, i32_w]
        rfl
       refine pure_ (i := 15) (N := some 33) (v := undef) (a' := ?_) #[tt,tt,tt,tt,tt,tt,tt,tt,tt,tt,tt,tt,tt,tt,tt,tt,ff,ff,ff,ff,ff] rfl rfl (any_of HT_.out (by kernel_rfl)) (fun _ _ _ h => h) (Or.inr ⟨by rfl, rfl⟩) ?_ ?_
       rotate_left
       ·simp only [Act.put, List.setIfInBounds_toArray, List.set_cons_zero, List.set_cons_succ, i64_w, i32_w]
        rfl
       refine pure_ (i := 16) (N := some 34) (v := undef) (a' := ?_) #[tt,tt,tt,tt,tt,tt,tt,tt,tt,tt,tt,tt,tt,tt,tt,tt,tt,ff,ff,ff,ff] rfl rfl (any_of HT_.out (by kernel_rfl)) (fun _ _ _ h => h) (Or.inr ⟨by rfl, rfl⟩) ?_ ?_
       rotate_left
       ·simp only [Act.put, List.setIfInBounds_toArray, List.set_cons_zero, List.set_cons_succ, i64_w, i32_w]
        rfl
       refine pure_ (i := 17) (N := some 35) (v := undef) (a' := ?_) #[tt,tt,tt,tt,tt,tt,tt,tt,tt,tt,tt,tt,tt,tt,tt,tt,tt,tt,ff,ff,ff] rfl rfl (any_of HT_.out (by kernel_rfl)) (fun _ _ _ h => h) (Or.inr ⟨by rfl, rfl⟩) ?_ ?_
       rotate_left
       ·simp only [Act.put, List.setIfInBounds_toArray, List.set_cons_zero, List.set_cons_succ, i64_w, i32_w]
        rfl
       refine pure_ (i := 18) (N := some 36) (v := undef) (a' := ?_) #[tt,tt,tt,tt,tt,tt,tt,tt,tt,tt,tt,tt,tt,tt,tt,tt,tt,tt,tt,ff,ff] rfl rfl (any_of HT_.out (by kernel_rfl)) (fun _ _ _ h => h) (Or.inr ⟨by rfl, rfl⟩) ?_ ?_
       rotate_left
       ·simp only [Act.put, List.setIfInBounds_toArray, List.set_cons_zero, List.set_cons_succ, i64_w, i32_w]
        rfl
       refine pure_ (i := 19) (N := some 37) (v := ?_) (a' := ?_) #[tt,tt,tt,tt,tt,tt,tt,tt,tt,tt,tt,tt,tt,tt,tt,tt,tt,tt,tt,tt,ff] rfl rfl (any_of HT_.out (by kernel_rfl)) (fun _ _ _ h => h) (Or.inl ⟨by rfl, ?_⟩) ?_ ?_
       rotate_left
       ·intro w'
        go_simp
        with_reducible rfl
       rotate_left
       ·simp only [Act.put, List.setIfInBounds_toArray, List.set_cons_zero, List.set_cons_succ, i64_w, i32_w]
        rfl
       refine pure_ (i := 20) (N := some 4) (v := ?_) (a' := ?_) #[tt,tt,tt,tt,tt,tt,tt,tt,tt,tt,tt,tt,tt,tt,tt,tt,tt,tt,tt,tt,tt] rfl rfl (any_of HT_.out (by kernel_rfl)) (fun _ _ _ h => h) (Or.inl ⟨by rfl, ?_⟩) ?_ ?_
       rotate_left
       ·intro w'
        go_simp
        with_reducible rfl
       rotate_left
       ·simp only [Act.put, List.setIfInBounds_toArray, List.set_cons_zero, List.set_cons_succ, i64_w, i32_w]
        rfl
       refine done_ (done_of HT_.out (by kernel_rfl)) ?_
       try go_wp2
       go_ret
       exact ⟨by first | rfl | (simp [errW_none, errW_some] <;> rfl) | (simp [*, errW_none, errW_some] <;> rfl), by repeat (first | (with_reducible first | exact HB.out | apply below_alloc | apply pw_below_drewN | apply below_drew1 | refine below_set ?_ GE101.out | refine below_set ?_ GE102.out) | exact HB.out)⟩
     ·rw [if_neg c17] at H
      exact absurd H (by simp)
    ·rw [if_neg c16] at H
     exact absurd H (by simp)
end Go.Proofs.YtdilbnggedidnaaGreat.PVal
namespace Go.Proofs.YtdilbnggedidnaaGreat.PVal
open Go.RowKit Go.Proofs.YtdilbnggedidnaaGreatW.PrintWords Go.Proofs.YtdilbnggedidnaaGreatW.PrintLast
set_option linter.unusedVariables false
set_option linter.unusedSimpArgs false
theorem w64 {a : Int} (h0 : -9223372036854775808 ≤ a) (h1 : a ≤ 9223372036854775807) : wrap64 a = a := by unfold wrap64; omega
theorem rd_at (pre : List S25) (x : S25) (l : List S25) : rd_T25 (pre ++ x :: l) (pre.length : Int) = x := by
 unfold rd_T25
 simp [List.getD_eq_getElem?_getD]
theorem succ_k {n k : Nat} (h : n + 1 ≤ k) : ∃ m, k = m + 1 ∧ n ≤ m := ⟨k - 1, by omega, by omega⟩
mutual
theorem items_f : ∀ (x : S25) (k : Nat), 2 * itemsN x ≤ k → itemsN x ≤ 4294967296 → bellwetherref04_Items.f k x.f0 x.f1 x.f2 x.f3 = some (itemsN x : Int)
 | ⟨a, b, c, d⟩, k, hk, hB => by
  simp only [itemsN] at hk hB ⊢
  obtain ⟨k, rfl, hk2⟩ := succ_k (n := 2 * itemsL d + 1) (by omega)
  simp only [bellwetherref04_Items.f]
  have := items_l d [] k 1 a b c hk2 (by omega) (by omega) (by simpa using (by have := itemsL_length d; omega : d.length ≤ 4294967296))
  simp only [List.length_nil, List.nil_append] at this
  rw [show ((0 : Nat) : Int) = 0 from rfl] at this
  rw [this]; congr 1; omega
theorem items_l : ∀ (l pre : List S25) (k : Nat) (n : Int) (a b : Int) (c : ByteArray), 2 * itemsL l + 1 ≤ k → 0 ≤ n ∧ itemsL l ≤ 4294967296 → n + itemsL l ≤ 4294967297 → (pre ++ l).length ≤ 4294967296 → bellwetherref04_Items.l0 k n (pre.length : Int) a b c (pre ++ l) = some (n + itemsL l)
 | [], pre, k, n, a, b, c, hk, h0, h1, h2 => by
  obtain ⟨k, rfl, hk⟩ := succ_k hk
  simp only [bellwetherref04_Items.l0]
  rw [if_neg (by simp)]; simp [itemsL]
 | x :: l, pre, k, n, a, b, c, hk, h0, h1, h2 => by
  obtain ⟨k, rfl, hk⟩ := succ_k hk
  simp only [itemsL] at hk h0 h1 ⊢
  have hx := itemsN_pos x
  simp only [bellwetherref04_Items.l0]
  rw [if_pos (by simp; omega), if_pos (by omega), rd_at, items_f x k (by omega) (by omega)]
  simp only [Option.bind_some]
  simp only [List.length_append, List.length_cons] at h2
  rw [w64 (a := n + (itemsN x : Int)) (by omega) (by omega), w64 (a := (pre.length : Int) + 1) (by omega) (by omega)]
  have := items_l l (pre ++ [x]) k (n + itemsN x) a b c (by omega) (by omega) (by omega) (by simp; omega)
  simp only [List.append_assoc, List.singleton_append, List.length_append, List.length_singleton] at this
  rw [show ((pre.length : Int) + 1) = ((pre.length + 1 : Nat) : Int) by omega, this]
  congr 1; omega
end
mutual
theorem texts_f : ∀ (x : S25) (k : Nat), 2 * itemsN x ≤ k → itemsN x + textsN x ≤ 4294967296 → bellwetherlaw04_texts.f k x.f0 x.f1 x.f2 x.f3 = some (textsN x : Int)
 | ⟨a, b, c, d⟩, k, hk, hB => by
  simp only [itemsN, textsN] at hk hB ⊢
  obtain ⟨k, rfl, hk2⟩ := succ_k (n := 2 * itemsL d + 1) (by omega)
  simp only [bellwetherlaw04_texts.f]
  have := texts_l d [] k (c.size : Int) a b c hk2 (by omega) (by omega) (by simpa using (by have := itemsL_length d; omega : d.length ≤ 4294967296))
  simp only [List.length_nil, List.nil_append] at this
  rw [show ((0 : Nat) : Int) = 0 from rfl] at this
  rw [this]; congr 1; omega
theorem texts_l : ∀ (l pre : List S25) (k : Nat) (n : Int) (a b : Int) (c : ByteArray), 2 * itemsL l + 1 ≤ k → 0 ≤ n ∧ itemsL l + textsL l ≤ 4294967296 → n + (itemsL l + textsL l) ≤ 8589934592 → (pre ++ l).length ≤ 4294967296 → bellwetherlaw04_texts.l0 k n (pre.length : Int) a b c (pre ++ l) = some (n + textsL l)
 | [], pre, k, n, a, b, c, hk, h0, h1, h2 => by
  obtain ⟨k, rfl, hk⟩ := succ_k hk
  simp only [bellwetherlaw04_texts.l0]
  rw [if_neg (by simp)]; simp [textsL]
 | x :: l, pre, k, n, a, b, c, hk, h0, h1, h2 => by
  obtain ⟨k, rfl, hk⟩ := succ_k hk
  simp only [itemsL, textsL] at hk h0 h1 ⊢
  have hx := itemsN_pos x
  simp only [bellwetherlaw04_texts.l0]
  rw [if_pos (by simp; omega), if_pos (by omega), rd_at, texts_f x k (by omega) (by omega)]
  simp only [Option.bind_some]
  simp only [List.length_append, List.length_cons] at h2
  rw [w64 (a := n + (textsN x : Int)) (by omega) (by omega), w64 (a := (pre.length : Int) + 1) (by omega) (by omega)]
  have := texts_l l (pre ++ [x]) k (n + textsN x) a b c (by omega) (by omega) (by omega) (by simp; omega)
  simp only [List.append_assoc, List.singleton_append, List.length_append, List.length_singleton] at this
  rw [show ((pre.length : Int) + 1) = ((pre.length + 1 : Nat) : Int) by omega, this]
  congr 1; omega
end
mutual
theorem depth_f : ∀ (x : S25) (k : Nat), 2 * itemsN x ≤ k → itemsN x ≤ 4294967296 → bellwetherref04_Depth.f k x.f0 x.f1 x.f2 x.f3 = some (depthN x : Int)
 | ⟨a, b, c, d⟩, k, hk, hB => by
  simp only [itemsN, depthN] at hk hB ⊢
  obtain ⟨k, rfl, hk2⟩ := succ_k (n := 2 * itemsL d + 1) (by omega)
  simp only [bellwetherref04_Depth.f]
  have := depth_l d [] k 0 a b c hk2 (by omega) (by simpa using (by have := itemsL_length d; omega : d.length ≤ 4294967296))
  simp only [List.length_nil, List.nil_append] at this
  rw [show ((0 : Nat) : Int) = 0 from rfl] at this
  rw [this]; simp
theorem depth_l : ∀ (l pre : List S25) (k : Nat) (n : Nat) (a b : Int) (c : ByteArray), 2 * itemsL l + 1 ≤ k → n + itemsL l ≤ 4294967296 → (pre ++ l).length ≤ 4294967296 → bellwetherref04_Depth.l0 k (n : Int) (pre.length : Int) a b c (pre ++ l) = some ((max n (depthL l) + 1 : Nat) : Int)
 | [], pre, k, n, a, b, c, hk, h0, h2 => by
  obtain ⟨k, rfl, hk⟩ := succ_k hk
  simp only [bellwetherref04_Depth.l0]
  rw [if_neg (by simp), w64 (by omega) (by simp only [itemsL] at h0; omega)]; simp [depthL]
 | x :: l, pre, k, n, a, b, c, hk, h0, h2 => by
  obtain ⟨k, rfl, hk⟩ := succ_k hk
  simp only [itemsL, depthL] at hk h0 ⊢
  have hx := itemsN_pos x
  have hdx := foldN_le (f := max) (fun a b => by omega) x
  rw [foldN_max] at hdx
  simp only [bellwetherref04_Depth.l0]
  rw [if_pos (by simp; omega), if_pos (by omega), rd_at, depth_f x k (by omega) (by omega)]
  simp only [Option.bind_some]
  simp only [List.length_append, List.length_cons] at h2
  rw [w64 (a := (pre.length : Int) + 1) (by omega) (by omega), show mx (n : Int) (depthN x : Int) = ((max n (depthN x) : Nat) : Int) by unfold mx; omega]
  have := depth_l l (pre ++ [x]) k (max n (depthN x)) a b c (by omega) (by omega) (by simp; omega)
  simp only [List.append_assoc, List.singleton_append, List.length_append, List.length_singleton] at this
  rw [show ((pre.length : Int) + 1) = ((pre.length + 1 : Nat) : Int) by omega, this, Nat.max_assoc]
end
mutual
theorem same_f : ∀ (x y : S25) (k : Nat), 3 * itemsN x ≤ k → itemsN x ≤ 4294967296 → bellwetherref04_Same.f k x.f0 x.f1 x.f2 x.f3 y.f0 y.f1 y.f2 y.f3 = some (veq x y)
 | ⟨a, b, c, d⟩, ⟨a', b', c', d'⟩, k, hk, hB => by
  simp only [itemsN] at hk hB
  obtain ⟨k, rfl⟩ : ∃ m, k = m + 2 := ⟨k - 2, by omega⟩
  simp only [bellwetherref04_Same.f, bellwetherref04_Same.j0, if_true]
  by_cases h0 : a = a'
  ·by_cases h1 : b = b'
   ·by_cases h2 : c.toList = c'.toList
    ·rw [if_pos h0, if_pos h1, if_pos h2]
     by_cases h3 : d.length = d'.length
     ·have := same_l d d' [] [] k a b c a' b' c' (by omega) (by omega) h3 rfl (by simpa using (by have := itemsL_length d; omega : d.length ≤ 4294967296))
      simp only [List.length_nil, List.nil_append] at this
      rw [show ((0 : Nat) : Int) = 0 from rfl] at this
      rw [if_neg (by simp [h3]), this]
      simp [veq, h0, h1, h2]
     ·have h4 : veqL d d' = false := by
       cases h : veqL d d' with
       | false => rfl
       | true => exact absurd (veqL_length h) h3
      rw [if_pos (by simp; omega)]
      simp [veq, h4]
    ·rw [if_pos h0, if_pos h1, if_neg h2]
     have : (c.toList == c'.toList) = false := by simpa using h2
     simp [veq, this]
   ·rw [if_pos h0, if_neg h1]; simp [veq, h1]
  ·rw [if_neg h0]; simp [veq, h0]
theorem same_l : ∀ (l m pre qre : List S25) (k : Nat) (a b : Int) (c : ByteArray) (a' b' : Int) (c' : ByteArray), 3 * itemsL l + 1 ≤ k → itemsL l ≤ 4294967296 → l.length = m.length → pre.length = qre.length → (pre ++ l).length ≤ 4294967296 →
  bellwetherref04_Same.l0 k (pre.length : Int) a b c (pre ++ l) a' b' c' (qre ++ m) = some (veqL l m)
 | [], [], pre, qre, k, a, b, c, a', b', c', hk, h0, _, _, h2 => by
  obtain ⟨k, rfl, hk⟩ := succ_k hk
  simp only [bellwetherref04_Same.l0]
  rw [if_neg (by simp)]; simp [veqL]
 | x :: l, y :: m, pre, qre, k, a, b, c, a', b', c', hk, h0, h3, h4, h2 => by
  obtain ⟨k, rfl, hk⟩ := succ_k hk
  simp only [itemsL] at hk h0
  have hx := itemsN_pos x
  simp only [bellwetherref04_Same.l0]
  rw [if_pos (by simp; omega), if_pos (by omega), if_pos (by simp; omega), rd_at, h4, rd_at, same_f x y k (by omega) (by omega)]
  simp only [Option.bind_some]
  simp only [List.length_append, List.length_cons] at h2 h3
  rw [w64 (a := (qre.length : Int) + 1) (by omega) (by omega)]
  cases hv : veq x y with
  | false => simp [veqL, hv]
  | true =>
   have := same_l l m (pre ++ [x]) (qre ++ [y]) k a b c a' b' c' (by omega) (by omega) (by omega) (by simp [h4]) (by simp; omega)
   simp only [List.append_assoc, List.singleton_append, List.length_append, List.length_singleton] at this
   rw [if_pos rfl, ← h4, show ((pre.length : Int) + 1) = ((pre.length + 1 : Nat) : Int) by omega, this]
   simp [veqL, hv]
 | [], _ :: _, _, _, _, _, _, _, _, _, _, _, _, h, _, _ => by simp at h
 | _ :: _, [], _, _, _, _, _, _, _, _, _, _, _, h, _, _ => by simp at h
end
def largeN : Nat → List S25 → Nat
 | n, [] => n
 | n, x :: l => largeN (n + itemsN x + textsN x / 8) l
def largeB (l : List S25) : Bool := decide (largeN 0 l > 8192)
theorem large_l : ∀ (l pre : List S25) (k : Nat) (n : Nat), 2 * itemsL l + 1 ≤ k → n + (itemsL l + textsL l) ≤ 4294967296 → (pre ++ l).length ≤ 4294967296 → bellwetherlaw04_Large.l0 k (pre ++ l) (n : Int) (pre.length : Int) = some (decide (largeN n l > 8192))
 | [], pre, k, n, hk, h1, h2 => by
  obtain ⟨k, rfl, hk⟩ := succ_k hk
  simp only [bellwetherlaw04_Large.l0]
  rw [if_neg (by simp)]
  simp only [largeN]
  congr 1
  exact decide_eq_decide.mpr (by omega)
 | x :: l, pre, k, n, hk, h1, h2 => by
  obtain ⟨k, rfl, hk⟩ := succ_k hk
  simp only [itemsL, textsL] at hk h1
  have hx := itemsN_pos x
  simp only [bellwetherlaw04_Large.l0]
  rw [if_pos (by simp; omega), if_pos (by omega), rd_at, items_f x k (by omega) (by omega)]
  simp only [Option.bind_some]
  rw [texts_f x k (by omega) (by omega)]
  simp only [Option.bind_some]
  simp only [List.length_append, List.length_cons] at h2
  have hq : Int.tdiv (textsN x : Int) 8 = ((textsN x / 8 : Nat) : Int) := by rw [Int.tdiv_eq_ediv_of_nonneg (by omega)]; omega
  rw [hq, w64 (a := (pre.length : Int) + 1) (by omega) (by omega), w64 (a := ((textsN x / 8 : Nat) : Int)) (by omega) (by omega), w64 (a := (n : Int) + (itemsN x : Int)) (by omega) (by omega), w64 (by omega) (by omega)]
  have := large_l l (pre ++ [x]) k (n + itemsN x + textsN x / 8) (by omega) (by omega) (by simp; omega)
  simp only [List.append_assoc, List.singleton_append, List.length_append, List.length_singleton] at this
  rw [show ((pre.length : Int) + 1) = ((pre.length + 1 : Nat) : Int) by omega, show (n : Int) + (itemsN x : Int) + ((textsN x / 8 : Nat) : Int) = ((n + itemsN x + textsN x / 8 : Nat) : Int) by omega, this]
  rfl
section
variable (x y : S25) (A B : Option Addr) (c d : Nat) (w : World) (ha : k25.C w A x.f3.length x.f3) (hc : x.f3.length ≤ c)
include ha hc
theorem same19_any (hs : itemsN x ≤ 4294967296) (hb : k25.C w B y.f3.length y.f3) (hd : y.f3.length ≤ d) : Calls Tryz.prog 11 #[.agg #[.int .u8 x.f0, .int .u64 x.f1, .string x.f2, .slice A x.f3.length c], .agg #[.int .u8 y.f0, .int .u64 y.f1, .string y.f2, .slice B y.f3.length d]] w fun e w' => e = .returned (.bool (veq x y)) ∧ Below w.heap.size w w' :=
 bellwetherref04_Same.calls _ _ _ _ A c _ _ _ _ B d _ _ w ha hc hb hd (same_f x y _ (Nat.le_refl _) hs)
end
theorem large14_any (l : List S25) (A : Option Addr) (c : Nat) (w : World) (ha : k25.C w A l.length l) (hc : l.length ≤ c) (hs : itemsL l + textsL l ≤ 4294967296) :
  Calls Tryz.prog 5 #[.slice A l.length c] w fun e w' => e = .returned (.bool (largeB l)) ∧ Below w.heap.size w w' := by
 have := large_l l [] (2 * itemsL l + 1) 0 (Nat.le_refl _) (by omega) (by have := itemsL_length l; simp; omega)
 exact bellwetherlaw04_Large.calls _ A c l _ w ha hc this
end Go.Proofs.YtdilbnggedidnaaGreat.PVal
namespace Go.Proofs.YtdilbnggedidnaaGreat.PVal
open Go.RowKit
set_option linter.unusedSimpArgs false
def alikeF : Nat → S25 → S25 → Bool
 | 0, _, _ => false
 | n + 1, a, b => if a.f0 = 25 ∧ b.f0 = 25 then veq (rd_T25 a.f3 0) (rd_T25 b.f3 0) && alikeF n (rd_T25 a.f3 1) (rd_T25 b.f3 1) else a.f0 == b.f0
def alikeB (a b : S25) : Bool := alikeF (itemsN a) a b
def dsc : Nat → S25 → Prop
 | 0, _ => False
 | n + 1, a => a.f0 = 25 → ∃ x y, a.f3 = [x, y] ∧ dsc n y
theorem alike_f : ∀ (n k : Nat) (a b : S25) (m : Nat), dsc n a → dsc m b → 2 * n ≤ k → value_alike.f k a.f0 a.f1 a.f2 a.f3 b.f0 b.f1 b.f2 b.f3 = some (alikeF n a b)
 | 0, _, _, _, _, h, _, _ => h.elim
 | n + 1, k, a, b, m, ha, hb, hk => by
  obtain ⟨k, rfl⟩ : ∃ k', k = k' + 2 := ⟨k - 2, by omega⟩
  simp only [value_alike.f]
  by_cases h1 : a.f0 = 25
  ·rw [if_pos h1]
   simp only [value_alike.j0]
   by_cases h2 : b.f0 = 25
   ·obtain ⟨x, y, he, hy⟩ := ha h1
    cases m with
    | zero => exact hb.elim
    | succ m =>
     obtain ⟨x', y', he', hy'⟩ := hb h2
     have ih := alike_f n k y y' m hy hy' (by omega)
     have e0 : ∀ p q : S25, rd_T25 [p, q] 0 = p := fun _ _ => rfl
     have e1 : ∀ p q : S25, rd_T25 [p, q] 1 = q := fun _ _ => rfl
     rw [show alikeF (n + 1) a b = (veq (rd_T25 a.f3 0) (rd_T25 b.f3 0) && alikeF n (rd_T25 a.f3 1) (rd_T25 b.f3 1)) from if_pos ⟨h1, h2⟩, he, he', if_neg (by simp [h2])]
     have hv2 : veq ⟨x.f0, x.f1, x.f2, x.f3⟩ ⟨x'.f0, x'.f1, x'.f2, x'.f3⟩ = veq x x' := by cases x; cases x'; rfl
     simp only [e0, e1, ih, value_Same.f, hv2, List.length_cons, List.length_nil]
     cases hv : veq x x' <;> simp [hv]
   ·rw [show alikeF (n + 1) a b = (a.f0 == b.f0) from if_neg (fun h => h2 h.2), if_pos (by simp [h2])]
  ·rw [if_neg h1, show alikeF (n + 1) a b = (a.f0 == b.f0) from if_neg (fun h => h1 h.1)]
   simp only [value_alike.j0]
   rfl
theorem ralike_f : ∀ (n k : Nat) (a b : S25) (m : Nat), dsc n a → dsc m b → 2 * n + 3 * itemsN a ≤ k → itemsN a ≤ 4294967296 → bellwetherref04_alike.f k a.f0 a.f1 a.f2 a.f3 b.f0 b.f1 b.f2 b.f3 = some (alikeF n a b)
 | 0, _, _, _, _, h, _, _, _ => h.elim
 | n + 1, k, a, b, m, ha, hb, hk, hs => by
  obtain ⟨k, rfl⟩ : ∃ k', k = k' + 1 := ⟨k - 1, by omega⟩
  simp only [bellwetherref04_alike.f]
  by_cases h0 : a.f0 = b.f0
  ·rw [if_pos h0]
   by_cases h1 : a.f0 = 25
   ·rw [if_pos h1]
    have h2 : b.f0 = 25 := h0 ▸ h1
    obtain ⟨x, y, he, hy⟩ := ha h1
    cases m with
    | zero => exact hb.elim
    | succ m =>
     obtain ⟨x', y', he', hy'⟩ := hb h2
     have hi : itemsN a = itemsN x + (itemsN y + 0) + 1 := by rw [itemsN_eq, he]; rfl
     have ih := ralike_f n k y y' m hy hy' (by omega) (by omega)
     have hsm := same_f x x' k (by omega) (by omega)
     have e0 : ∀ p q : S25, rd_T25 [p, q] 0 = p := fun _ _ => rfl
     have e1 : ∀ p q : S25, rd_T25 [p, q] 1 = q := fun _ _ => rfl
     rw [show alikeF (n + 1) a b = (veq (rd_T25 a.f3 0) (rd_T25 b.f3 0) && alikeF n (rd_T25 a.f3 1) (rd_T25 b.f3 1)) from if_pos ⟨h1, h2⟩, he, he']
     simp only [e0, e1, ih, hsm, List.length_cons, List.length_nil]
     cases hv : veq x x' <;> simp [hv]
   ·rw [if_neg h1, show alikeF (n + 1) a b = (a.f0 == b.f0) from if_neg (fun h => h1 h.1), beq_iff_eq.2 h0]
  ·rw [if_neg h0, show alikeF (n + 1) a b = (a.f0 == b.f0) from if_neg (fun h => h0 (h.1.trans h.2.symm)), beq_eq_false_iff_ne.2 h0]
def arrB : List S25 → Bool
 | [] => true
 | h :: l => (h :: l).all (alikeB h)
def famB (x : S25) : Bool :=
 if x.f0 = 22 then true else if x.f0 = 23 then decide (x.f3.length % 2 = 0) && unlikeB x
 else if x.f0 = 24 then arrB x.f3
 else if x.f0 = 25 then decide (x.f3.length = 2) && (decide ((rd_T25 x.f3 0).f0 = 6) || decide ((rd_T25 x.f3 0).f0 = 21)) else decide (x.f3.length = 0)
mutual
def mayB : S25 → Bool
 | ⟨k, n, s, l⟩ => (decide (1 ≤ k ∧ k ≤ 25) && mayL l) && ((numB k n && txtB k s) && famB ⟨k, n, s, l⟩)
def mayL : List S25 → Bool
 | [] => true
 | x :: l => mayB x && mayL l
end
theorem mayB_eq (x : S25) : mayB x = ((decide (1 ≤ x.f0 ∧ x.f0 ≤ 25) && mayL x.f3) && ((numB x.f0 x.f1 && txtB x.f0 x.f2) && famB x)) := by cases x; rw [mayB]
theorem mayL_all : ∀ l : List S25, mayL l = l.all mayB
 | [] => rfl
 | x :: l => by rw [mayL, mayL_all l]; rfl
theorem mayB_dsc : ∀ (n : Nat) (x : S25), itemsN x ≤ n → mayB x = true → dsc n x
 | 0, x, h, _ => by have := itemsN_pos x; omega
 | n + 1, x, h, hm => fun h25 => by
  rw [mayB_eq] at hm
  simp only [Bool.and_eq_true] at hm
  obtain ⟨⟨_, hl⟩, _, hf⟩ := hm
  unfold famB at hf
  rw [if_neg (by omega), if_neg (by omega), if_neg (by omega), if_pos h25] at hf
  simp only [Bool.and_eq_true, decide_eq_true_eq] at hf
  obtain ⟨a, b, he⟩ : ∃ a b, x.f3 = [a, b] := by
   rcases hx : x.f3 with _ | ⟨a, _ | ⟨b, _ | ⟨c, t⟩⟩⟩ <;> rw [hx] at hf <;> simp at hf ⊢
  refine ⟨a, b, he, mayB_dsc n b ?_ ?_⟩
  ·have : itemsN x = itemsN a + (itemsN b + 0) + 1 := by rw [itemsN_eq, he]; rfl
   omega
  ·rw [he] at hl
   simp [mayL] at hl
   exact hl.2
end Go.Proofs.YtdilbnggedidnaaGreat.PVal
namespace Go.Proofs.YtdilbnggedidnaaGreat.PVal
open Go.RowKit Go.Shelf Go.Proofs.YtdilbnggedidnaaGreatW.PrintWords Go.Proofs.YtdilbnggedidnaaGreatW.PrintLast
set_option linter.unusedVariables false
set_option linter.unusedSimpArgs false
theorem alike121_any (a b : S25) (m : Nat) (da : dsc (itemsN a) a) (db : dsc m b) (A B : Option Addr) (c d : Nat) (w : World) (ha : k25.C w A a.f3.length a.f3) (hc : a.f3.length ≤ c) (hb : k25.C w B b.f3.length b.f3) (hd : b.f3.length ≤ d) :
  Calls Tryz.prog 96 #[.agg #[.int .u8 a.f0, .int .u64 a.f1, .string a.f2, .slice A a.f3.length c], .agg #[.int .u8 b.f0, .int .u64 b.f1, .string b.f2, .slice B b.f3.length d]] w fun e w' => e = .returned (.bool (alikeB a b)) ∧ Below w.heap.size w w' :=
 value_alike.calls _ _ _ _ _ _ _ _ _ _ _ _ _ _ _ ha hc hb hd (alike_f (itemsN a) _ a b m da db (Nat.le_refl _))
theorem pred120_of (b : Nat) (v : S25) (Av : Option Addr) (cv : Nat) (w : World) (hb : Blk w b #[.int .u8 v.f0, .int .u64 v.f1, .string v.f2, .slice Av v.f3.length cv] 25) (hv : k25.C w Av v.f3.length v.f3) (hl : v.f3.length ≤ cv)
  (hp : 0 < v.f3.length) (dh : dsc (itemsN (rd_T25 v.f3 0)) (rd_T25 v.f3 0)) (x : S25) (m : Nat) (dx : dsc m x) : Pred120 b (fun s => !alikeB (rd_T25 v.f3 0) s) w x := by
 intro A c w' hw ha hc
 have HA := Aside0.mk ha
 have HD := Aside0.mk (⟨dh, dx⟩ : _ ∧ _)
 obtain ⟨q0, q1, q2, q3⟩ := (hb.below hw).c4
 obtain ⟨ad, A1, c1, e1, hx0, hx1, hx2, hx3, hl1, hC1⟩ := at_T25 (Kd.C_below hv hw) 0 (by omega) (by omega)
 cases e1
 rw [show (0 : Int).toNat = 0 from rfl, Nat.zero_mul, add_nought] at hx0 hx1 hx2 hx3
 have hp1 : (0 : Int) < (v.f3.length : Int) := by omega
 have ad0 : ad.add 0 = ad := add_nought ad
 have HC1 := Aside0.mk hC1
 clear ha hv hb hC1 dh dx
 go_enter Tryz.func95, Tryz.ntmps95
 go_wp2_with fail
 have hB1 : Below w'.heap.size w' (w'.alloc (.cells #[.int .u8 x.f0, .int .u64 x.f1, .string x.f2, .slice A x.f3.length c] 25)) := below_alloc (Below.refl _ _) _
 have bX := Blk.new w' #[.int .u8 x.f0, .int .u64 x.f1, .string x.f2, .slice A x.f3.length c] 25
 obtain ⟨W1, hW1⟩ : ∃ W1, w'.alloc (.cells #[.int .u8 x.f0, .int .u64 x.f1, .string x.f2, .slice A x.f3.length c] 25) = W1 := ⟨_, rfl⟩
 rw [hW1] at hB1 bX ⊢
 clear hW1
 have k0 := cell_below' hB1 q3
 have k1 := cell_below' hB1 hx0
 have k2 := cell_below' hB1 hx1
 have k3 := cell_below' hB1 hx2
 have k4 := cell_below' hB1 hx3
 obtain ⟨k5, k6, k7, k8⟩ := bX.c4
 clear q0 q1 q2 q3 hx0 hx1 hx2 hx3
 go_still_tail 5, (by kernel_rfl)
 go_wp2_with fail
 refine (alike121_any (rd_T25 v.f3 0) x m HD.out.1 HD.out.2 A1 A c1 c _ (Kd.C_below HC1.out (below_drew hB1)) hl1 (Kd.C_below HA.out (below_drew hB1)) hc).mono ?_
 rintro e w2 ⟨rfl, hb2⟩
 have HB2 := Aside0.mk hb2
 clear hb2
 go_wp2_with fail
 go_ret
 exact ⟨rfl, below_step (below_drew hB1) HB2.out⟩
end Go.Proofs.YtdilbnggedidnaaGreat.PVal
namespace Go.Proofs.YtdilbnggedidnaaGreat.PVal
open Go.RowKit Go.Shelf Go.Proofs.YtdilbnggedidnaaGreatW.PrintWords Go.Proofs.YtdilbnggedidnaaGreatW.PrintLast
set_option linter.unusedVariables false
set_option linter.unusedSimpArgs false
theorem family90_22 (x : S25) (hs : x.f3.length ≤ 4294967296) (hm : x.f3.all mayB = true) (A : Option Addr) (c : Nat) (w : World) (ha : k25.C w A x.f3.length x.f3) (hc : x.f3.length ≤ c) (hk : x.f0 = 22) :
  Calls Tryz.prog 85 #[.agg #[.int .u8 x.f0, .int .u64 x.f1, .string x.f2, .slice A x.f3.length c]] w fun e w' => e = .returned (.bool (famB x)) ∧ Below w.heap.size w w' := by
 have q22 : (x.f0 == 22) = true := beq_iff_eq.mpr hk
 have hf : famB x = true := by unfold famB; rw [if_pos hk]
 have HA := Aside0.mk ha
 have HF := Aside0.mk hf
 have HM := Aside0.mk hm
 clear ha hf hm hk
 go_enter Tryz.func85, Tryz.ntmps85
 go_wp2_with fail
 go_ret
 exact ⟨by rw [HF.out]; rfl, below_alloc (Below.refl _ _) _⟩
theorem family90_23 (x : S25) (hs : x.f3.length ≤ 4294967296) (hm : x.f3.all mayB = true) (A : Option Addr) (c : Nat) (w : World) (ha : k25.C w A x.f3.length x.f3) (hc : x.f3.length ≤ c) (hk : x.f0 = 23) :
  Calls Tryz.prog 85 #[.agg #[.int .u8 x.f0, .int .u64 x.f1, .string x.f2, .slice A x.f3.length c]] w fun e w' => e = .returned (.bool (famB x)) ∧ Below w.heap.size w w' := by
 have q22 : (x.f0 == 22) = false := beq_eq_false_iff_ne.mpr (by omega)
 have q23 : (x.f0 == 23) = true := beq_iff_eq.mpr hk
 have hf : famB x = (decide (x.f3.length % 2 = 0) && unlikeB x) := by unfold famB; rw [if_neg (by omega), if_pos hk]
 have HA := Aside0.mk ha
 have HF := Aside0.mk hf
 have HM := Aside0.mk hm
 clear ha hf hm hk
 by_cases hq : x.f3.length % 2 = 0
 ·have q : ((x.f3.length : Int) % 2 == 0) = true := beq_iff_eq.mpr (by omega)
  have HQ := Aside0.mk hq
  clear hq
  go_enter Tryz.func85, Tryz.ntmps85
  go_wp2_with fail
  refine (unlike119_any x hs A c _ (Kd.C_below HA.out (below_alloc (Below.refl _ _) _)) hc).mono ?_
  rintro e w2 ⟨rfl, hb2⟩
  have HB2 := Aside0.mk hb2
  clear hb2
  go_wp2_with fail
  go_ret
  exact ⟨by rw [HF.out, decide_eq_true HQ.out]; rfl, below_step (below_alloc (Below.refl _ _) _) HB2.out⟩
 ·have q : ((x.f3.length : Int) % 2 == 0) = false := beq_eq_false_iff_ne.mpr (by omega)
  have HQ := Aside0.mk hq
  clear hq
  go_enter Tryz.func85, Tryz.ntmps85
  go_wp2_with fail
  go_ret
  exact ⟨by rw [HF.out, decide_eq_false HQ.out]; rfl, below_alloc (Below.refl _ _) _⟩
theorem family90_24 (x : S25) (hs : x.f3.length ≤ 4294967296) (hm : x.f3.all mayB = true) (A : Option Addr) (c : Nat) (w : World) (ha : k25.C w A x.f3.length x.f3) (hc : x.f3.length ≤ c) (hk : x.f0 = 24) :
  Calls Tryz.prog 85 #[.agg #[.int .u8 x.f0, .int .u64 x.f1, .string x.f2, .slice A x.f3.length c]] w fun e w' => e = .returned (.bool (famB x)) ∧ Below w.heap.size w w' := by
 have q22 : (x.f0 == 22) = false := beq_eq_false_iff_ne.mpr (by omega)
 have q23 : (x.f0 == 23) = false := beq_eq_false_iff_ne.mpr (by omega)
 have q24 : (x.f0 == 24) = true := beq_iff_eq.mpr hk
 have hf : famB x = !(x.f3.any fun s => !alikeB (rd_T25 x.f3 0) s) := by
  unfold famB; rw [if_neg (by omega), if_neg (by omega), if_pos hk]
  rcases x.f3 with _ | ⟨h, l⟩
  ·rfl
  ·show (h :: l).all (alikeB h) = _
   rw [List.all_eq_not_any_not]; rfl
 have HA := Aside0.mk ha
 have HF := Aside0.mk hf
 have HM := Aside0.mk hm
 clear ha hf hm hk
 go_enter Tryz.func85, Tryz.ntmps85
 go_wp2_with fail
 refine (containsFunc_120 w.heap.size (fun s => !alikeB (rd_T25 x.f3 0) s) x.f3 A c _ ?_ (Kd.C_below HA.out (below_alloc (Below.refl _ _) _)) hc).mono ?_
 ·intro y hy
  have hpos : 0 < x.f3.length := List.length_pos_of_mem hy
  have hall := List.all_eq_true.1 HM.out
  exact pred120_of w.heap.size x A c _ (Blk.new w #[.int .u8 x.f0, .int .u64 x.f1, .string x.f2, .slice A x.f3.length c] 25) (Kd.C_below HA.out (below_alloc (Below.refl _ _) _)) hc hpos (mayB_dsc _ _ (Nat.le_refl _) (hall _ (rd_mem (by omega) (by omega)))) y (itemsN y) (mayB_dsc _ _ (Nat.le_refl _) (hall y hy))
 rintro e w2 ⟨rfl, hb2⟩
 have HB2 := Aside0.mk hb2
 clear hb2
 go_wp2_with fail
 go_ret
 exact ⟨by rw [HF.out]; rfl, below_step (below_alloc (Below.refl _ _) _) HB2.out⟩
theorem family90_25 (x : S25) (hs : x.f3.length ≤ 4294967296) (hm : x.f3.all mayB = true) (A : Option Addr) (c : Nat) (w : World) (ha : k25.C w A x.f3.length x.f3) (hc : x.f3.length ≤ c) (hk : x.f0 = 25) :
  Calls Tryz.prog 85 #[.agg #[.int .u8 x.f0, .int .u64 x.f1, .string x.f2, .slice A x.f3.length c]] w fun e w' => e = .returned (.bool (famB x)) ∧ Below w.heap.size w w' := by
 have q22 : (x.f0 == 22) = false := beq_eq_false_iff_ne.mpr (by omega)
 have q23 : (x.f0 == 23) = false := beq_eq_false_iff_ne.mpr (by omega)
 have q24 : (x.f0 == 24) = false := beq_eq_false_iff_ne.mpr (by omega)
 have q25 : (x.f0 == 25) = true := beq_iff_eq.mpr hk
 have hf : famB x = (decide (x.f3.length = 2) && (decide ((rd_T25 x.f3 0).f0 = 6) || decide ((rd_T25 x.f3 0).f0 = 21))) := by unfold famB; rw [if_neg (by omega), if_neg (by omega), if_neg (by omega), if_pos hk]
 have HA := Aside0.mk ha
 have HF := Aside0.mk hf
 have HM := Aside0.mk hm
 clear ha hf hm hk
 by_cases hq : x.f3.length = 2
 ·have q : ((x.f3.length : Int) == 2) = true := beq_iff_eq.mpr (by omega)
  obtain ⟨ad, A1, c1, e1, hx0, hx1, hx2, hx3, hl1, hC1⟩ := at_T25 (Kd.C_below HA.out (below_alloc (Below.refl _ _) _ : Below w.heap.size w (w.alloc (.cells #[.int .u8 x.f0, .int .u64 x.f1, .string x.f2, .slice A x.f3.length c] 25)))) 0 (by omega) (by omega)
  cases e1
  rw [show (0 : Int).toNat = 0 from rfl, Nat.zero_mul, add_nought] at hx0
  have hp1 : (0 : Int) < (x.f3.length : Int) := by omega
  have hpt : (0 < x.f3.length) = True := eq_true (by omega)
  have ad0 : ad.add 0 = ad := add_nought ad
  have HQ := Aside0.mk hq
  clear hq hx1 hx2 hx3 hC1
  by_cases h6 : (rd_T25 x.f3 0).f0 = 6
  ·have q6 : ((rd_T25 x.f3 0).f0 == 6) = true := beq_iff_eq.mpr h6
   have H6 := Aside0.mk h6
   clear h6
   go_enter Tryz.func85, Tryz.ntmps85
   go_wp2_with fail
   go_ret
   exact ⟨by rw [HF.out, decide_eq_true HQ.out, decide_eq_true H6.out]; rfl, below_alloc (Below.refl _ _) _⟩
  ·have q6 : ((rd_T25 x.f3 0).f0 == 6) = false := beq_eq_false_iff_ne.mpr h6
   by_cases h7 : (rd_T25 x.f3 0).f0 = 21
   ·have q7 : ((rd_T25 x.f3 0).f0 == 21) = true := beq_iff_eq.mpr h7
    have H6 := Aside0.mk h6
    have H7 := Aside0.mk h7
    clear h6 h7
    go_enter Tryz.func85, Tryz.ntmps85
    go_wp2_with fail
    go_ret
    exact ⟨by rw [HF.out, decide_eq_true HQ.out, decide_eq_false H6.out, decide_eq_true H7.out]; rfl, below_alloc (Below.refl _ _) _⟩
   ·have q7 : ((rd_T25 x.f3 0).f0 == 21) = false := beq_eq_false_iff_ne.mpr h7
    have H6 := Aside0.mk h6
    have H7 := Aside0.mk h7
    clear h6 h7
    go_enter Tryz.func85, Tryz.ntmps85
    go_wp2_with fail
    go_ret
    exact ⟨by rw [HF.out, decide_eq_true HQ.out, decide_eq_false H6.out, decide_eq_false H7.out]; rfl, below_alloc (Below.refl _ _) _⟩
 ·have q : ((x.f3.length : Int) == 2) = false := beq_eq_false_iff_ne.mpr (by omega)
  have HQ := Aside0.mk hq
  clear hq
  go_enter Tryz.func85, Tryz.ntmps85
  go_wp2_with fail
  go_ret
  exact ⟨by rw [HF.out, decide_eq_false HQ.out]; rfl, below_alloc (Below.refl _ _) _⟩
theorem family90_0 (x : S25) (hs : x.f3.length ≤ 4294967296) (hm : x.f3.all mayB = true) (A : Option Addr) (c : Nat) (w : World) (ha : k25.C w A x.f3.length x.f3) (hc : x.f3.length ≤ c) (hk : x.f0 ≠ 22 ∧ x.f0 ≠ 23 ∧ x.f0 ≠ 24 ∧ x.f0 ≠ 25) :
  Calls Tryz.prog 85 #[.agg #[.int .u8 x.f0, .int .u64 x.f1, .string x.f2, .slice A x.f3.length c]] w fun e w' => e = .returned (.bool (famB x)) ∧ Below w.heap.size w w' := by
 have q22 : (x.f0 == 22) = false := beq_eq_false_iff_ne.mpr (by omega)
 have q23 : (x.f0 == 23) = false := beq_eq_false_iff_ne.mpr (by omega)
 have q24 : (x.f0 == 24) = false := beq_eq_false_iff_ne.mpr (by omega)
 have q25 : (x.f0 == 25) = false := beq_eq_false_iff_ne.mpr (by omega)
 have hf : famB x = decide (x.f3.length = 0) := by unfold famB; rw [if_neg hk.1, if_neg hk.2.1, if_neg hk.2.2.1, if_neg hk.2.2.2]
 have HA := Aside0.mk ha
 have HF := Aside0.mk hf
 have HM := Aside0.mk hm
 clear ha hf hm hk
 have he : ((x.f3.length : Int) == 0) = decide (x.f3.length = 0) := by
  by_cases h : x.f3.length = 0
  ·rw [decide_eq_true h, beq_iff_eq.mpr (by omega)]
  ·rw [decide_eq_false h, beq_eq_false_iff_ne.mpr (by omega)]
 have HE := Aside0.mk he
 clear he
 go_enter Tryz.func85, Tryz.ntmps85
 go_wp2_with fail
 go_ret
 exact ⟨by rw [HF.out, ← HE.out]; rfl, below_alloc (Below.refl _ _) _⟩
theorem family90_any (x : S25) (hs : x.f3.length ≤ 4294967296) (hm : x.f3.all mayB = true) (A : Option Addr) (c : Nat) (w : World) (ha : k25.C w A x.f3.length x.f3) (hc : x.f3.length ≤ c) :
  Calls Tryz.prog 85 #[.agg #[.int .u8 x.f0, .int .u64 x.f1, .string x.f2, .slice A x.f3.length c]] w fun e w' => e = .returned (.bool (famB x)) ∧ Below w.heap.size w w' := by
 by_cases h2 : x.f0 = 22
 ·exact family90_22 x hs hm A c w ha hc h2
 by_cases h3 : x.f0 = 23
 ·exact family90_23 x hs hm A c w ha hc h3
 by_cases h4 : x.f0 = 24
 ·exact family90_24 x hs hm A c w ha hc h4
 by_cases h5 : x.f0 = 25
 ·exact family90_25 x hs hm A c w ha hc h5
 exact family90_0 x hs hm A c w ha hc ⟨h2, h3, h4, h5⟩
end Go.Proofs.YtdilbnggedidnaaGreat.PVal
namespace Go.Proofs.YtdilbnggedidnaaGreat.PVal
open Go.RowKit Go.Shelf Go.Proofs.YtdilbnggedidnaaGreatW.PrintWords Go.Proofs.YtdilbnggedidnaaGreatW.PrintLast
set_option linter.unusedVariables false
set_option linter.unusedSimpArgs false
mutual
def okV : S25 → Prop
 | ⟨_, n, s, l⟩ => (u64R n ∧ s.size ≤ 4294967290) ∧ okL l
def okL : List S25 → Prop
 | [] => True
 | x :: l => okV x ∧ okL l
end
theorem okV_eq (x : S25) : okV x = ((u64R x.f1 ∧ x.f2.size ≤ 4294967290) ∧ okL x.f3) := by cases x; rw [okV]
theorem okL_mem : ∀ {l : List S25} {x : S25}, okL l → x ∈ l → okV x
 | y :: l, x, h, hx => by
  rw [okL] at h
  rcases List.mem_cons.1 hx with rfl | hx
  ·exact h.1
  ·exact okL_mem h.2 hx
mutual
def okVb : S25 → Bool
 | ⟨_, n, s, l⟩ => (decide (0 ≤ n ∧ n < 18446744073709551616) && decide (s.size ≤ 4294967290)) && okLb l
def okLb : List S25 → Bool
 | [] => true
 | x :: l => okVb x && okLb l
end
mutual
theorem okVb_iff : ∀ {x : S25}, okVb x = true ↔ okV x
 | ⟨_, n, s, l⟩ => by simp only [okVb, okV, Bool.and_eq_true, decide_eq_true_eq, okLb_iff, u64R]
theorem okLb_iff : ∀ {l : List S25}, okLb l = true ↔ okL l
 | [] => by simp [okLb, okL]
 | x :: l => by simp only [okLb, okL, Bool.and_eq_true, okVb_iff, okLb_iff]
end
def MayAt (f : Nat) (x : S25) : Prop := ∀ (A : Option Addr) (c : Nat) (w : World), k25.C w A x.f3.length x.f3 → x.f3.length ≤ c →
 Calls Tryz.prog f #[.agg #[.int .u8 x.f0, .int .u64 x.f1, .string x.f2, .slice A x.f3.length c]] w fun e w' => e = .returned (.bool (mayB x)) ∧ Below w.heap.size w w'
theorem pred87_of (x : S25) (h : MayAt 68 x) (w : World) : Pred87 (fun x => !mayB x) w x := by
 intro A c w' hw ha hc
 have HA := Aside0.mk ha
 have HH := Aside0.mk h
 clear ha h
 go_enter Tryz.func82, Tryz.ntmps82
 go_wp2_with fail
 refine (HH.out A c _ (Kd.C_below HA.out (below_alloc (Below.refl _ _) _)) hc).mono ?_
 rintro e w2 ⟨rfl, hb2⟩
 have HB2 := Aside0.mk hb2
 clear hb2
 go_wp2_with fail
 go_ret
 exact ⟨rfl, below_step (below_alloc (Below.refl _ _) _) HB2.out⟩
theorem may57_of (x : S25) (hs : itemsN x ≤ 4294967296) (ho : okV x) (ih : ∀ y ∈ x.f3, MayAt 68 y) : MayAt 68 x := by
 intro A c w ha hc
 rw [okV_eq] at ho
 obtain ⟨⟨hn, ht⟩, hol⟩ := ho
 have hl : x.f3.length ≤ 4294967296 := by have := itemsL_length x.f3; rw [itemsN_eq] at hs; omega
 have HA := Aside0.mk ha
 have HI := Aside0.mk ih
 have HN := Aside0.mk hn
 have HT := Aside0.mk ht
 have HM := Aside0.mk (mayB_eq x)
 have hB0 : Below w.heap.size w (w.alloc (.cells #[.int .u8 x.f0, .int .u64 x.f1, .string x.f2, .slice A x.f3.length c] 25)) := below_alloc (Below.refl _ _) _
 have HB0 := Aside0.mk hB0
 clear ha ih hn ht hol hB0
 by_cases h1 : x.f0 < 1
 ·have q1 : decide (x.f0 < 1) = true := decide_eq_true h1
  have he : decide (1 ≤ x.f0 ∧ x.f0 ≤ 25) = false := decide_eq_false (by omega)
  have HE := Aside0.mk he
  clear h1 he
  go_enter Tryz.func68, Tryz.ntmps68
  go_wp2_with fail
  go_ret
  exact ⟨by rw [HM.out, HE.out]; rfl, HB0.out⟩
 have q1 : decide (x.f0 < 1) = false := decide_eq_false h1
 by_cases h2 : 25 < x.f0
 ·have q2 : decide (25 < x.f0) = true := decide_eq_true h2
  have he : decide (1 ≤ x.f0 ∧ x.f0 ≤ 25) = false := decide_eq_false (by omega)
  have HE := Aside0.mk he
  clear h1 h2 he
  go_enter Tryz.func68, Tryz.ntmps68
  go_wp2_with fail
  go_ret
  exact ⟨by rw [HM.out, HE.out]; rfl, HB0.out⟩
 have q2 : decide (25 < x.f0) = false := decide_eq_false h2
 have he : decide (1 ≤ x.f0 ∧ x.f0 ≤ 25) = true := decide_eq_true (by omega)
 have HE := Aside0.mk he
 clear h1 h2 he
 go_enter Tryz.func68, Tryz.ntmps68
 go_wp2_with fail
 refine (containsFunc_87 (fun y => !mayB y) x.f3 A c _ (fun y hy => pred87_of y (HI.out y hy) _) (Kd.C_below HA.out HB0.out) hc).mono ?_
 rintro e w2 ⟨rfl, hb2⟩
 have BX := Aside0.mk ((Blk.new w #[.int .u8 x.f0, .int .u64 x.f1, .string x.f2, .slice A x.f3.length c] 25).below hb2)
 have HB2 := Aside0.mk (below_step HB0.out hb2)
 clear hb2
 have hml : mayL x.f3 = !(x.f3.any fun y => !mayB y) := by rw [mayL_all, List.all_eq_not_any_not]
 have HL := Aside0.mk hml
 clear hml
 cases hq : x.f3.any (fun y => !mayB y) with
 | true =>
  have HQ := Aside0.mk hq
  clear hq
  go_wp2_with fail
  go_ret
  exact ⟨by rw [HM.out, HL.out, HQ.out, HE.out]; rfl, HB2.out⟩
 | false =>
  have HQ := Aside0.mk hq
  clear hq
  obtain ⟨q0, q3, q4, q5⟩ := BX.out.c4
  go_wp2_with fail
  refine (number88_any x HN.out A c _ (Kd.C_below HA.out HB2.out) hc).mono ?_
  rintro e w3 ⟨rfl, hb3⟩
  have BX3 := Aside0.mk (BX.out.below hb3)
  have HB3 := Aside0.mk (below_step HB2.out hb3)
  clear hb3 q0 q3 q4 q5
  obtain ⟨q0, q3, q4, q5⟩ := BX3.out.c4
  cases hq : numB x.f0 x.f1 with
  | false =>
   have HQ2 := Aside0.mk hq
   clear hq
   go_wp2_with fail
   go_ret
   exact ⟨by rw [HM.out, HL.out, HQ.out, HE.out, HQ2.out]; rfl, HB3.out⟩
  | true =>
   have HQ2 := Aside0.mk hq
   clear hq
   go_wp2_with fail
   refine (text89_any x HT.out A c _ (Kd.C_below HA.out HB3.out) hc).mono ?_
   rintro e w4 ⟨rfl, hb4⟩
   have BX4 := Aside0.mk (BX3.out.below hb4)
   have HB4 := Aside0.mk (below_step HB3.out hb4)
   clear hb4 q0 q3 q4 q5
   obtain ⟨q0, q3, q4, q5⟩ := BX4.out.c4
   cases hq : txtB x.f0 x.f2 with
   | false =>
    have HQ3 := Aside0.mk hq
    clear hq
    go_wp2_with fail
    go_ret
    exact ⟨by rw [HM.out, HL.out, HQ.out, HE.out, HQ2.out, HQ3.out]; rfl, HB4.out⟩
   | true =>
    have HQ3 := Aside0.mk hq
    clear hq
    go_wp2_with fail
    refine (family90_any x hl (by have := HL.out; rw [HQ.out, mayL_all] at this; exact this) A c _ (Kd.C_below HA.out HB4.out) hc).mono ?_
    rintro e w5 ⟨rfl, hb5⟩
    have HB5 := Aside0.mk (below_step HB4.out hb5)
    clear hb5 q0 q3 q4 q5
    go_wp2_with fail
    go_ret
    exact ⟨by rw [HM.out, HL.out, HQ.out, HE.out, HQ2.out, HQ3.out]; rfl, HB5.out⟩
theorem may57_all : ∀ (n : Nat), n ≤ 4294967296 → ∀ (x : S25), itemsN x ≤ n → okV x → MayAt 68 x
 | 0, _, x, h, _ => absurd (itemsN_pos x) (by omega)
 | n + 1, hn, x, h, ho => may57_of x (by omega) ho fun a ha => may57_all n (by omega) a (by have := itemsL_mem ha; rw [itemsN_eq] at h; omega) (okL_mem (by rw [okV_eq] at ho; exact ho.2) ha)
theorem may57_any (x : S25) (h : itemsN x ≤ 4294967296) (ho : okV x) : MayAt 68 x := may57_all 4294967296 (Nat.le_refl _) x h ho
end Go.Proofs.YtdilbnggedidnaaGreat.PVal
namespace Go.Proofs.YtdilbnggedidnaaGreat.PVal
open Go.RowKit Go.Proofs.YtdilbnggedidnaaGreatW.PrintWords Go.Proofs.YtdilbnggedidnaaGreatW.PrintLast
attribute [local go_sem] max2_int max_two
set_option linter.unusedVariables false
set_option linter.unusedSimpArgs false
def bellwetherref04_Right.f (k : Nat) (a0_0 : Int) (a0_1 : Int) (a0_2 : ByteArray) (l0_3 : List (S25)) : Option (Bool) := (bellwetherref04_Items.f k a0_0 a0_1 a0_2 l0_3).bind fun t114 => (if t114 ≤ 1024 then ((bellwetherref04_Depth.f k a0_0 a0_1 a0_2 l0_3).bind fun t115 => (if t115 ≤ 16 then ((bellwetherref04_may.f k a0_0 a0_1 a0_2 l0_3).bind fun t116 => (some t116)) else (some false))) else (some false))
theorem bellwetherref04_Right.calls (k : Nat) (a0_0 : Int) (a0_1 : Int) (a0_2 : ByteArray) (A0_3 : Option Addr) (c0_3 : Nat) (l0_3 : List (S25)) (r : Bool) (w : World) (hr0_3 : Kd.C k25 w A0_3 l0_3.length l0_3) (hc0_3 : l0_3.length ≤ c0_3) (h : bellwetherref04_Right.f k a0_0 a0_1 a0_2 l0_3 = some r) :
  Calls Tryz.prog 52 #[.agg #[.int .u8 a0_0, .int .u64 a0_1, .string a0_2, .slice A0_3 l0_3.length c0_3]] w fun e w' => e = .returned (.bool r) ∧ Below w.heap.size w w' := by
 have hu25 := Tryz.underlying25
 have HR0_3 := Aside0.mk hr0_3
 have HC0_3 := Aside0.mk hc0_3
 clear hr0_3 hc0_3
 have HB := Aside0.mk (Below.refl w.heap.size w)
 have H : ((bellwetherref04_Items.f k a0_0 a0_1 a0_2 l0_3).bind fun t114 => (if t114 ≤ 1024 then ((bellwetherref04_Depth.f k a0_0 a0_1 a0_2 l0_3).bind fun t115 => (if t115 ≤ 16 then ((bellwetherref04_may.f k a0_0 a0_1 a0_2 l0_3).bind fun t116 => (some t116)) else (some false))) else (some false))) = some r := h
 clear h
 replace H := Option.bind_eq_some_iff.mp H
 obtain ⟨t114, A20, H⟩ := H
 replace H : (if t114 ≤ 1024 then ((bellwetherref04_Depth.f k a0_0 a0_1 a0_2 l0_3).bind fun t115 => (if t115 ≤ 16 then ((bellwetherref04_may.f k a0_0 a0_1 a0_2 l0_3).bind fun t116 => (some t116)) else (some false))) else (some false)) = some r := H
 have A2 := Aside0.mk A20
 clear A20
 by_cases c3 : t114 ≤ 1024
 ·rw [if_pos c3] at H
  have c3b0 : decide (t114 ≤ 1024) = true := decide_eq_true c3
  clear c3
  replace H := Option.bind_eq_some_iff.mp H
  obtain ⟨t115, A40, H⟩ := H
  replace H : (if t115 ≤ 16 then ((bellwetherref04_may.f k a0_0 a0_1 a0_2 l0_3).bind fun t116 => (some t116)) else (some false)) = some r := H
  have A4 := Aside0.mk A40
  clear A40
  by_cases c5 : t115 ≤ 16
  ·rw [if_pos c5] at H
   have c5b0 : decide (t115 ≤ 16) = true := decide_eq_true c5
   clear c5
   replace H := Option.bind_eq_some_iff.mp H
   obtain ⟨t116, A60, H⟩ := H
   replace H : (some t116) = some r := H
   have A6 := Aside0.mk A60
   clear A60
   obtain rfl := Option.some.inj H
   go_enter Tryz.func52, Tryz.ntmps52
   go_wp2_with (first | ((with_reducible refine gate_dst (N := 1) rfl ?_); refine box_event ?hg (N := 1) ?hd (cs := #[.int .u8 a0_0, .int .u64 a0_1, .string a0_2, .slice A0_3 l0_3.length c0_3]) (t := 25) ?hr ?_; (case hd => rfl); (case hg => rfl); (case hr => first | (go_simp; done) | (go_simp; rfl)); intro gb113 hg w7 hbox hb; have n0_ := Aside0.mk (below_step (by repeat (first | (with_reducible first | exact HB.out | apply below_alloc | apply pw_below_drewN | apply below_drew1) | exact HB.out)) hb); have n1_ := Aside0.mk (hbox); have n2_ := Aside0.mk ((by rw [hg]; exact (below_size (by repeat (first | (with_reducible first | exact HB.out | apply below_alloc | apply pw_below_drewN | apply below_drew1) | exact HB.out))) : w.heap.size ≤ gb113)); have n3_ := Aside0.mk ((by rw [hg]; exact (below_size (by repeat (first | (with_reducible first | exact HB.out | apply below_alloc | apply pw_below_drewN | apply below_drew1) | exact HB.out))) : w.heap.size ≤ gb113)); clear HB; have HB := n0_; have BK113 := n1_; have GW113 := n2_; have GE113 := n3_; clear n0_ n1_ n2_ n3_; clear hb hbox hg; have hcz8_0 : w7.cell? ⟨gb113, 0, none⟩ = some (.int .u8 a0_0) := (blk_cell BK113.out 0).trans rfl; have hcz8_1 : w7.cell? ⟨gb113, 1, none⟩ = some (.int .u64 a0_1) := (blk_cell BK113.out 1).trans rfl; have hcz8_2 : w7.cell? ⟨gb113, 2, none⟩ = some (.string a0_2) := (blk_cell BK113.out 2).trans rfl; have hcz8_3 : w7.cell? ⟨gb113, 3, none⟩ = some (.slice A0_3 l0_3.length c0_3) := (blk_cell BK113.out 3).trans rfl; have hfz8_0 := blk_frozen BK113.out 0; have hfz8_1 := blk_frozen BK113.out 1; have hfz8_2 := blk_frozen BK113.out 2; have hfz8_3 := blk_frozen BK113.out 3) | ((with_reducible refine gate_callee (f := 15) rfl ?_); refine goesL_ (some 4) rfl rfl Tryz.func15 (by kernel_rfl) rfl #[.agg #[.int .u8 a0_0, .int .u64 a0_1, .string a0_2, .slice A0_3 l0_3.length c0_3]] rfl (by (try simp only [List.map_toArray, List.map_cons, List.map_nil]); first | done | rfl | (simp only [List.length_drop, List.length_take]; rfl)) ?_; (with_reducible refine (bellwetherref04_Items.calls k a0_0 a0_1 a0_2 _ _ l0_3 t114 _ ?side1 ?side2 A2.out).mono ?_); (case side1 => repeat (first | exact (Kd.C_below HR0_3.out HB.out) | (with_reducible refine Kd.C_alloc ?_ _) | (with_reducible refine Kd.C_drewN ?_ _) | (with_reducible refine Kd.C_drew ?_))); (case side2 => exact HC0_3.out); rintro e w9 ⟨rfl, hb⟩; refine ⟨_, rfl, ?_⟩; have n0_ := Aside0.mk (blk_below (g := gb113) (o := .cells #[.int .u8 a0_0, .int .u64 a0_1, .string a0_2, .slice A0_3 l0_3.length c0_3] 25 (0, 0)) (by (with_reducible repeat (first | refine blk_drewN ?_ _ | refine blk_drew ?_ | refine blk_alloc ?_ _)); exact BK113.out) hb); have n1_ := Aside0.mk (below_step (by repeat (first | (with_reducible first | exact HB.out | apply below_alloc | apply pw_below_drewN | apply below_drew1 | refine below_set ?_ GE113.out) | exact HB.out)) hb); clear BK113; clear HB; have BK113 := n0_; have HB := n1_; clear n0_ n1_; (try clear hb); (try clear hb2); (try clear hk); (try clear hi); have hcz10_0 : w9.cell? ⟨gb113, 0, none⟩ = some (.int .u8 a0_0) := (blk_cell BK113.out 0).trans rfl; have hcz10_1 : w9.cell? ⟨gb113, 1, none⟩ = some (.int .u64 a0_1) := (blk_cell BK113.out 1).trans rfl; have hcz10_2 : w9.cell? ⟨gb113, 2, none⟩ = some (.string a0_2) := (blk_cell BK113.out 2).trans rfl; have hcz10_3 : w9.cell? ⟨gb113, 3, none⟩ = some (.slice A0_3 l0_3.length c0_3) := (blk_cell BK113.out 3).trans rfl; have hfz10_0 := blk_frozen BK113.out 0; have hfz10_1 := blk_frozen BK113.out 1; have hfz10_2 := blk_frozen BK113.out 2; have hfz10_3 := blk_frozen BK113.out 3) | (go_at_call 72; (with_reducible refine (bellwetherref04_Depth.calls k a0_0 a0_1 a0_2 _ _ l0_3 t115 _ ?side1 ?side2 A4.out).mono ?_); (case side1 => repeat (first | exact (Kd.C_below HR0_3.out HB.out) | (with_reducible refine Kd.C_alloc ?_ _) | (with_reducible refine Kd.C_drewN ?_ _) | (with_reducible refine Kd.C_drew ?_))); (case side2 => exact HC0_3.out); rintro e w11 ⟨rfl, hb⟩; have n0_ := Aside0.mk (blk_below (g := gb113) (o := .cells #[.int .u8 a0_0, .int .u64 a0_1, .string a0_2, .slice A0_3 l0_3.length c0_3] 25 (0, 0)) (by (with_reducible repeat (first | refine blk_drewN ?_ _ | refine blk_drew ?_ | refine blk_alloc ?_ _)); exact BK113.out) hb); have n1_ := Aside0.mk (below_step (by repeat (first | (with_reducible first | exact HB.out | apply below_alloc | apply pw_below_drewN | apply below_drew1 | refine below_set ?_ GE113.out) | exact HB.out)) hb); clear BK113; clear HB; have BK113 := n0_; have HB := n1_; clear n0_ n1_; (try clear hb); (try clear hb2); (try clear hk); (try clear hi); have hcz12_0 : w11.cell? ⟨gb113, 0, none⟩ = some (.int .u8 a0_0) := (blk_cell BK113.out 0).trans rfl; have hcz12_1 : w11.cell? ⟨gb113, 1, none⟩ = some (.int .u64 a0_1) := (blk_cell BK113.out 1).trans rfl; have hcz12_2 : w11.cell? ⟨gb113, 2, none⟩ = some (.string a0_2) := (blk_cell BK113.out 2).trans rfl; have hcz12_3 : w11.cell? ⟨gb113, 3, none⟩ = some (.slice A0_3 l0_3.length c0_3) := (blk_cell BK113.out 3).trans rfl; have hfz12_0 := blk_frozen BK113.out 0; have hfz12_1 := blk_frozen BK113.out 1; have hfz12_2 := blk_frozen BK113.out 2; have hfz12_3 := blk_frozen BK113.out 3) | (go_at_call 73; (with_reducible refine (bellwetherref04_may.calls k a0_0 a0_1 a0_2 _ _ l0_3 t116 _ ?side1 ?side2 A6.out).mono ?_); (case side1 => repeat (first | exact (Kd.C_below HR0_3.out HB.out) | (with_reducible refine Kd.C_alloc ?_ _) | (with_reducible refine Kd.C_drewN ?_ _) | (with_reducible refine Kd.C_drew ?_))); (case side2 => exact HC0_3.out); rintro e w13 ⟨rfl, hb⟩; have n0_ := Aside0.mk (blk_below (g := gb113) (o := .cells #[.int .u8 a0_0, .int .u64 a0_1, .string a0_2, .slice A0_3 l0_3.length c0_3] 25 (0, 0)) (by (with_reducible repeat (first | refine blk_drewN ?_ _ | refine blk_drew ?_ | refine blk_alloc ?_ _)); exact BK113.out) hb); have n1_ := Aside0.mk (below_step (by repeat (first | (with_reducible first | exact HB.out | apply below_alloc | apply pw_below_drewN | apply below_drew1 | refine below_set ?_ GE113.out) | exact HB.out)) hb); clear BK113; clear HB; have BK113 := n0_; have HB := n1_; clear n0_ n1_; (try clear hb); (try clear hb2); (try clear hk); (try clear hi)))
   go_ret
   exact ⟨by first | rfl | (simp [errW_none, errW_some] <;> rfl) | (simp [*, errW_none, errW_some] <;> rfl), by repeat (first | (with_reducible first | exact HB.out | apply below_alloc | apply pw_below_drewN | apply below_drew1 | refine below_set ?_ GE113.out) | exact HB.out)⟩
  ·rw [if_neg c5] at H
   have c5b0 : decide (t115 ≤ 16) = false := decide_eq_false c5
   clear c5
   obtain rfl := Option.some.inj H
   go_enter Tryz.func52, Tryz.ntmps52
   go_wp2_with (first | ((with_reducible refine gate_dst (N := 1) rfl ?_); refine box_event ?hg (N := 1) ?hd (cs := #[.int .u8 a0_0, .int .u64 a0_1, .string a0_2, .slice A0_3 l0_3.length c0_3]) (t := 25) ?hr ?_; (case hd => rfl); (case hg => rfl); (case hr => first | (go_simp; done) | (go_simp; rfl)); intro gb113 hg w14 hbox hb; have n0_ := Aside0.mk (below_step (by repeat (first | (with_reducible first | exact HB.out | apply below_alloc | apply pw_below_drewN | apply below_drew1) | exact HB.out)) hb); have n1_ := Aside0.mk (hbox); have n2_ := Aside0.mk ((by rw [hg]; exact (below_size (by repeat (first | (with_reducible first | exact HB.out | apply below_alloc | apply pw_below_drewN | apply below_drew1) | exact HB.out))) : w.heap.size ≤ gb113)); have n3_ := Aside0.mk ((by rw [hg]; exact (below_size (by repeat (first | (with_reducible first | exact HB.out | apply below_alloc | apply pw_below_drewN | apply below_drew1) | exact HB.out))) : w.heap.size ≤ gb113)); clear HB; have HB := n0_; have BK113 := n1_; have GW113 := n2_; have GE113 := n3_; clear n0_ n1_ n2_ n3_; clear hb hbox hg; have hcz15_0 : w14.cell? ⟨gb113, 0, none⟩ = some (.int .u8 a0_0) := (blk_cell BK113.out 0).trans rfl; have hcz15_1 : w14.cell? ⟨gb113, 1, none⟩ = some (.int .u64 a0_1) := (blk_cell BK113.out 1).trans rfl; have hcz15_2 : w14.cell? ⟨gb113, 2, none⟩ = some (.string a0_2) := (blk_cell BK113.out 2).trans rfl; have hcz15_3 : w14.cell? ⟨gb113, 3, none⟩ = some (.slice A0_3 l0_3.length c0_3) := (blk_cell BK113.out 3).trans rfl; have hfz15_0 := blk_frozen BK113.out 0; have hfz15_1 := blk_frozen BK113.out 1; have hfz15_2 := blk_frozen BK113.out 2; have hfz15_3 := blk_frozen BK113.out 3) | ((with_reducible refine gate_callee (f := 15) rfl ?_); refine goesL_ (some 4) rfl rfl Tryz.func15 (by kernel_rfl) rfl #[.agg #[.int .u8 a0_0, .int .u64 a0_1, .string a0_2, .slice A0_3 l0_3.length c0_3]] rfl (by (try simp only [List.map_toArray, List.map_cons, List.map_nil]); first | done | rfl | (simp only [List.length_drop, List.length_take]; rfl)) ?_; (with_reducible refine (bellwetherref04_Items.calls k a0_0 a0_1 a0_2 _ _ l0_3 t114 _ ?side1 ?side2 A2.out).mono ?_); (case side1 => repeat (first | exact (Kd.C_below HR0_3.out HB.out) | (with_reducible refine Kd.C_alloc ?_ _) | (with_reducible refine Kd.C_drewN ?_ _) | (with_reducible refine Kd.C_drew ?_))); (case side2 => exact HC0_3.out); rintro e w16 ⟨rfl, hb⟩; refine ⟨_, rfl, ?_⟩; have n0_ := Aside0.mk (blk_below (g := gb113) (o := .cells #[.int .u8 a0_0, .int .u64 a0_1, .string a0_2, .slice A0_3 l0_3.length c0_3] 25 (0, 0)) (by (with_reducible repeat (first | refine blk_drewN ?_ _ | refine blk_drew ?_ | refine blk_alloc ?_ _)); exact BK113.out) hb); have n1_ := Aside0.mk (below_step (by repeat (first | (with_reducible first | exact HB.out | apply below_alloc | apply pw_below_drewN | apply below_drew1 | refine below_set ?_ GE113.out) | exact HB.out)) hb); clear BK113; clear HB; have BK113 := n0_; have HB := n1_; clear n0_ n1_; (try clear hb); (try clear hb2); (try clear hk); (try clear hi); have hcz17_0 : w16.cell? ⟨gb113, 0, none⟩ = some (.int .u8 a0_0) := (blk_cell BK113.out 0).trans rfl; have hcz17_1 : w16.cell? ⟨gb113, 1, none⟩ = some (.int .u64 a0_1) := (blk_cell BK113.out 1).trans rfl; have hcz17_2 : w16.cell? ⟨gb113, 2, none⟩ = some (.string a0_2) := (blk_cell BK113.out 2).trans rfl; have hcz17_3 : w16.cell? ⟨gb113, 3, none⟩ = some (.slice A0_3 l0_3.length c0_3) := (blk_cell BK113.out 3).trans rfl; have hfz17_0 := blk_frozen BK113.out 0; have hfz17_1 := blk_frozen BK113.out 1; have hfz17_2 := blk_frozen BK113.out 2; have hfz17_3 := blk_frozen BK113.out 3) | (go_at_call 72; (with_reducible refine (bellwetherref04_Depth.calls k a0_0 a0_1 a0_2 _ _ l0_3 t115 _ ?side1 ?side2 A4.out).mono ?_); (case side1 => repeat (first | exact (Kd.C_below HR0_3.out HB.out) | (with_reducible refine Kd.C_alloc ?_ _) | (with_reducible refine Kd.C_drewN ?_ _) | (with_reducible refine Kd.C_drew ?_))); (case side2 => exact HC0_3.out); rintro e w18 ⟨rfl, hb⟩; have n0_ := Aside0.mk (blk_below (g := gb113) (o := .cells #[.int .u8 a0_0, .int .u64 a0_1, .string a0_2, .slice A0_3 l0_3.length c0_3] 25 (0, 0)) (by (with_reducible repeat (first | refine blk_drewN ?_ _ | refine blk_drew ?_ | refine blk_alloc ?_ _)); exact BK113.out) hb); have n1_ := Aside0.mk (below_step (by repeat (first | (with_reducible first | exact HB.out | apply below_alloc | apply pw_below_drewN | apply below_drew1 | refine below_set ?_ GE113.out) | exact HB.out)) hb); clear BK113; clear HB; have BK113 := n0_; have HB := n1_; clear n0_ n1_; (try clear hb); (try clear hb2); (try clear hk); (try clear hi)))
   go_ret
   exact ⟨by first | rfl | (simp [errW_none, errW_some] <;> rfl) | (simp [*, errW_none, errW_some] <;> rfl), by repeat (first | (with_reducible first | exact HB.out | apply below_alloc | apply pw_below_drewN | apply below_drew1 | refine below_set ?_ GE113.out) | exact HB.out)⟩
 ·rw [if_neg c3] at H
  have c3b0 : decide (t114 ≤ 1024) = false := decide_eq_false c3
  clear c3
  obtain rfl := Option.some.inj H
  go_enter Tryz.func52, Tryz.ntmps52
  go_wp2_with (first | ((with_reducible refine gate_dst (N := 1) rfl ?_); refine box_event ?hg (N := 1) ?hd (cs := #[.int .u8 a0_0, .int .u64 a0_1, .string a0_2, .slice A0_3 l0_3.length c0_3]) (t := 25) ?hr ?_; (case hd => rfl); (case hg => rfl); (case hr => first | (go_simp; done) | (go_simp; rfl)); intro gb113 hg w19 hbox hb; have n0_ := Aside0.mk (below_step (by repeat (first | (with_reducible first | exact HB.out | apply below_alloc | apply pw_below_drewN | apply below_drew1) | exact HB.out)) hb); have n1_ := Aside0.mk (hbox); have n2_ := Aside0.mk ((by rw [hg]; exact (below_size (by repeat (first | (with_reducible first | exact HB.out | apply below_alloc | apply pw_below_drewN | apply below_drew1) | exact HB.out))) : w.heap.size ≤ gb113)); have n3_ := Aside0.mk ((by rw [hg]; exact (below_size (by repeat (first | (with_reducible first | exact HB.out | apply below_alloc | apply pw_below_drewN | apply below_drew1) | exact HB.out))) : w.heap.size ≤ gb113)); clear HB; have HB := n0_; have BK113 := n1_; have GW113 := n2_; have GE113 := n3_; clear n0_ n1_ n2_ n3_; clear hb hbox hg; have hcz20_0 : w19.cell? ⟨gb113, 0, none⟩ = some (.int .u8 a0_0) := (blk_cell BK113.out 0).trans rfl; have hcz20_1 : w19.cell? ⟨gb113, 1, none⟩ = some (.int .u64 a0_1) := (blk_cell BK113.out 1).trans rfl; have hcz20_2 : w19.cell? ⟨gb113, 2, none⟩ = some (.string a0_2) := (blk_cell BK113.out 2).trans rfl; have hcz20_3 : w19.cell? ⟨gb113, 3, none⟩ = some (.slice A0_3 l0_3.length c0_3) := (blk_cell BK113.out 3).trans rfl; have hfz20_0 := blk_frozen BK113.out 0; have hfz20_1 := blk_frozen BK113.out 1; have hfz20_2 := blk_frozen BK113.out 2; have hfz20_3 := blk_frozen BK113.out 3) | ((with_reducible refine gate_callee (f := 15) rfl ?_); refine goesL_ (some 4) rfl rfl Tryz.func15 (by kernel_rfl) rfl #[.agg #[.int .u8 a0_0, .int .u64 a0_1, .string a0_2, .slice A0_3 l0_3.length c0_3]] rfl (by (try simp only [List.map_toArray, List.map_cons, List.map_nil]); first | done | rfl | (simp only [List.length_drop, List.length_take]; rfl)) ?_; (with_reducible refine (bellwetherref04_Items.calls k a0_0 a0_1 a0_2 _ _ l0_3 t114 _ ?side1 ?side2 A2.out).mono ?_); (case side1 => repeat (first | exact (Kd.C_below HR0_3.out HB.out) | (with_reducible refine Kd.C_alloc ?_ _) | (with_reducible refine Kd.C_drewN ?_ _) | (with_reducible refine Kd.C_drew ?_))); (case side2 => exact HC0_3.out); rintro e w21 ⟨rfl, hb⟩; refine ⟨_, rfl, ?_⟩; have n0_ := Aside0.mk (blk_below (g := gb113) (o := .cells #[.int .u8 a0_0, .int .u64 a0_1, .string a0_2, .slice A0_3 l0_3.length c0_3] 25 (0, 0)) (by (with_reducible repeat (first | refine blk_drewN ?_ _ | refine blk_drew ?_ | refine blk_alloc ?_ _)); exact BK113.out) hb); have n1_ := Aside0.mk (below_step (by repeat (first | (with_reducible first | exact HB.out | apply below_alloc | apply pw_below_drewN | apply below_drew1 | refine below_set ?_ GE113.out) | exact HB.out)) hb); clear BK113; clear HB; have BK113 := n0_; have HB := n1_; clear n0_ n1_; (try clear hb); (try clear hb2); (try clear hk); (try clear hi)))
  go_ret
  exact ⟨by first | rfl | (simp [errW_none, errW_some] <;> rfl) | (simp [*, errW_none, errW_some] <;> rfl), by repeat (first | (with_reducible first | exact HB.out | apply below_alloc | apply pw_below_drewN | apply below_drew1 | refine below_set ?_ GE113.out) | exact HB.out)⟩
def value_Depth.f (a0_0 : Int) (a0_1 : Int) (a0_2 : ByteArray) (l0_3 : List (S25)) : Option (Int) := if itemsN ⟨a0_0, a0_1, a0_2, l0_3⟩ ≤ 4294967296 then some ((depthN ⟨a0_0, a0_1, a0_2, l0_3⟩ : Int)) else none
theorem value_Depth.calls (a0_0 : Int) (a0_1 : Int) (a0_2 : ByteArray) (A0_3 : Option Addr) (c0_3 : Nat) (l0_3 : List (S25)) (r : Int) (w : World) (hr0_3 : Kd.C k25 w A0_3 l0_3.length l0_3) (hc0_3 : l0_3.length ≤ c0_3) (h : value_Depth.f a0_0 a0_1 a0_2 l0_3 = some r) :
  Calls Tryz.prog 66 #[.agg #[.int .u8 a0_0, .int .u64 a0_1, .string a0_2, .slice A0_3 l0_3.length c0_3]] w fun e w' => e = .returned (.int .i64 r) ∧ Below w.heap.size w w' := by
 unfold value_Depth.f at h
 split at h
 ·rename_i hq
  obtain rfl := Option.some.inj h
  exact depth32_any ⟨a0_0, a0_1, a0_2, l0_3⟩ hq A0_3 c0_3 w hr0_3 hc0_3
 ·cases h
def value_Items.f (a0_0 : Int) (a0_1 : Int) (a0_2 : ByteArray) (l0_3 : List (S25)) : Option (Int) := if itemsN ⟨a0_0, a0_1, a0_2, l0_3⟩ ≤ 4294967296 then some ((itemsN ⟨a0_0, a0_1, a0_2, l0_3⟩ : Int)) else none
theorem value_Items.calls (a0_0 : Int) (a0_1 : Int) (a0_2 : ByteArray) (A0_3 : Option Addr) (c0_3 : Nat) (l0_3 : List (S25)) (r : Int) (w : World) (hr0_3 : Kd.C k25 w A0_3 l0_3.length l0_3) (hc0_3 : l0_3.length ≤ c0_3) (h : value_Items.f a0_0 a0_1 a0_2 l0_3 = some r) :
  Calls Tryz.prog 67 #[.agg #[.int .u8 a0_0, .int .u64 a0_1, .string a0_2, .slice A0_3 l0_3.length c0_3]] w fun e w' => e = .returned (.int .i64 r) ∧ Below w.heap.size w w' := by
 unfold value_Items.f at h
 split at h
 ·rename_i hq
  obtain rfl := Option.some.inj h
  exact items34_any ⟨a0_0, a0_1, a0_2, l0_3⟩ hq A0_3 c0_3 w hr0_3 hc0_3
 ·cases h
def value_may.f (a0_0 : Int) (a0_1 : Int) (a0_2 : ByteArray) (l0_3 : List (S25)) : Option (Bool) := if itemsN ⟨a0_0, a0_1, a0_2, l0_3⟩ ≤ 4294967296 ∧ okVb ⟨a0_0, a0_1, a0_2, l0_3⟩ = true then some (mayB ⟨a0_0, a0_1, a0_2, l0_3⟩) else none
theorem value_may.calls (a0_0 : Int) (a0_1 : Int) (a0_2 : ByteArray) (A0_3 : Option Addr) (c0_3 : Nat) (l0_3 : List (S25)) (r : Bool) (w : World) (hr0_3 : Kd.C k25 w A0_3 l0_3.length l0_3) (hc0_3 : l0_3.length ≤ c0_3) (h : value_may.f a0_0 a0_1 a0_2 l0_3 = some r) :
  Calls Tryz.prog 68 #[.agg #[.int .u8 a0_0, .int .u64 a0_1, .string a0_2, .slice A0_3 l0_3.length c0_3]] w fun e w' => e = .returned (.bool r) ∧ Below w.heap.size w w' := by
 unfold value_may.f at h
 split at h
 ·rename_i hq
  obtain rfl := Option.some.inj h
  exact may57_any ⟨a0_0, a0_1, a0_2, l0_3⟩ hq.1 (okVb_iff.1 hq.2) A0_3 c0_3 w hr0_3 hc0_3
 ·cases h
def value_Right.f (a0_0 : Int) (a0_1 : Int) (a0_2 : ByteArray) (l0_3 : List (S25)) : Option (Bool) := (value_Depth.f a0_0 a0_1 a0_2 l0_3).bind fun t118 => (if t118 ≤ 16 then ((value_Items.f a0_0 a0_1 a0_2 l0_3).bind fun t119 => (if t119 ≤ 1024 then ((value_may.f a0_0 a0_1 a0_2 l0_3).bind fun t120 => (some t120)) else (some false))) else (some false))
theorem value_Right.calls (a0_0 : Int) (a0_1 : Int) (a0_2 : ByteArray) (A0_3 : Option Addr) (c0_3 : Nat) (l0_3 : List (S25)) (r : Bool) (w : World) (hr0_3 : Kd.C k25 w A0_3 l0_3.length l0_3) (hc0_3 : l0_3.length ≤ c0_3) (h : value_Right.f a0_0 a0_1 a0_2 l0_3 = some r) :
  Calls Tryz.prog 44 #[.agg #[.int .u8 a0_0, .int .u64 a0_1, .string a0_2, .slice A0_3 l0_3.length c0_3]] w fun e w' => e = .returned (.bool r) ∧ Below w.heap.size w w' := by
 have hu25 := Tryz.underlying25
 have HR0_3 := Aside0.mk hr0_3
 have HC0_3 := Aside0.mk hc0_3
 clear hr0_3 hc0_3
 have HB := Aside0.mk (Below.refl w.heap.size w)
 have H : ((value_Depth.f a0_0 a0_1 a0_2 l0_3).bind fun t118 => (if t118 ≤ 16 then ((value_Items.f a0_0 a0_1 a0_2 l0_3).bind fun t119 => (if t119 ≤ 1024 then ((value_may.f a0_0 a0_1 a0_2 l0_3).bind fun t120 => (some t120)) else (some false))) else (some false))) = some r := h
 clear h
 replace H := Option.bind_eq_some_iff.mp H
 obtain ⟨t118, A20, H⟩ := H
 replace H : (if t118 ≤ 16 then ((value_Items.f a0_0 a0_1 a0_2 l0_3).bind fun t119 => (if t119 ≤ 1024 then ((value_may.f a0_0 a0_1 a0_2 l0_3).bind fun t120 => (some t120)) else (some false))) else (some false)) = some r := H
 have A2 := Aside0.mk A20
 clear A20
 by_cases c3 : t118 ≤ 16
 ·rw [if_pos c3] at H
  have c3b0 : decide (t118 ≤ 16) = true := decide_eq_true c3
  clear c3
  replace H := Option.bind_eq_some_iff.mp H
  obtain ⟨t119, A40, H⟩ := H
  replace H : (if t119 ≤ 1024 then ((value_may.f a0_0 a0_1 a0_2 l0_3).bind fun t120 => (some t120)) else (some false)) = some r := H
  have A4 := Aside0.mk A40
  clear A40
  by_cases c5 : t119 ≤ 1024
  ·rw [if_pos c5] at H
   have c5b0 : decide (t119 ≤ 1024) = true := decide_eq_true c5
   clear c5
   replace H := Option.bind_eq_some_iff.mp H
   obtain ⟨t120, A60, H⟩ := H
   replace H : (some t120) = some r := H
   have A6 := Aside0.mk A60
   clear A60
   obtain rfl := Option.some.inj H
   go_enter Tryz.func44, Tryz.ntmps44
   go_wp2_with (first | ((with_reducible refine gate_dst (N := 1) rfl ?_); refine box_event ?hg (N := 1) ?hd (cs := #[.int .u8 a0_0, .int .u64 a0_1, .string a0_2, .slice A0_3 l0_3.length c0_3]) (t := 25) ?hr ?_; (case hd => rfl); (case hg => rfl); (case hr => first | (go_simp; done) | (go_simp; rfl)); intro gb117 hg w7 hbox hb; have n0_ := Aside0.mk (below_step (by repeat (first | (with_reducible first | exact HB.out | apply below_alloc | apply pw_below_drewN | apply below_drew1) | exact HB.out)) hb); have n1_ := Aside0.mk (hbox); have n2_ := Aside0.mk ((by rw [hg]; exact (below_size (by repeat (first | (with_reducible first | exact HB.out | apply below_alloc | apply pw_below_drewN | apply below_drew1) | exact HB.out))) : w.heap.size ≤ gb117)); have n3_ := Aside0.mk ((by rw [hg]; exact (below_size (by repeat (first | (with_reducible first | exact HB.out | apply below_alloc | apply pw_below_drewN | apply below_drew1) | exact HB.out))) : w.heap.size ≤ gb117)); clear HB; have HB := n0_; have BK117 := n1_; have GW117 := n2_; have GE117 := n3_; clear n0_ n1_ n2_ n3_; clear hb hbox hg; have hcz8_0 : w7.cell? ⟨gb117, 0, none⟩ = some (.int .u8 a0_0) := (blk_cell BK117.out 0).trans rfl; have hcz8_1 : w7.cell? ⟨gb117, 1, none⟩ = some (.int .u64 a0_1) := (blk_cell BK117.out 1).trans rfl; have hcz8_2 : w7.cell? ⟨gb117, 2, none⟩ = some (.string a0_2) := (blk_cell BK117.out 2).trans rfl; have hcz8_3 : w7.cell? ⟨gb117, 3, none⟩ = some (.slice A0_3 l0_3.length c0_3) := (blk_cell BK117.out 3).trans rfl; have hfz8_0 := blk_frozen BK117.out 0; have hfz8_1 := blk_frozen BK117.out 1; have hfz8_2 := blk_frozen BK117.out 2; have hfz8_3 := blk_frozen BK117.out 3) | ((with_reducible refine gate_callee (f := 66) rfl ?_); refine goesL_ (some 4) rfl rfl Tryz.func66 (by kernel_rfl) rfl #[.agg #[.int .u8 a0_0, .int .u64 a0_1, .string a0_2, .slice A0_3 l0_3.length c0_3]] rfl (by (try simp only [List.map_toArray, List.map_cons, List.map_nil]); first | done | rfl | (simp only [List.length_drop, List.length_take]; rfl)) ?_; (with_reducible refine (value_Depth.calls a0_0 a0_1 a0_2 _ _ l0_3 t118 _ ?side1 ?side2 A2.out).mono ?_); (case side1 => repeat (first | exact (Kd.C_below HR0_3.out HB.out) | (with_reducible refine Kd.C_alloc ?_ _) | (with_reducible refine Kd.C_drewN ?_ _) | (with_reducible refine Kd.C_drew ?_))); (case side2 => exact HC0_3.out); rintro e w9 ⟨rfl, hb⟩; refine ⟨_, rfl, ?_⟩; have n0_ := Aside0.mk (blk_below (g := gb117) (o := .cells #[.int .u8 a0_0, .int .u64 a0_1, .string a0_2, .slice A0_3 l0_3.length c0_3] 25 (0, 0)) (by (with_reducible repeat (first | refine blk_drewN ?_ _ | refine blk_drew ?_ | refine blk_alloc ?_ _)); exact BK117.out) hb); have n1_ := Aside0.mk (below_step (by repeat (first | (with_reducible first | exact HB.out | apply below_alloc | apply pw_below_drewN | apply below_drew1 | refine below_set ?_ GE117.out) | exact HB.out)) hb); clear BK117; clear HB; have BK117 := n0_; have HB := n1_; clear n0_ n1_; (try clear hb); (try clear hb2); (try clear hk); (try clear hi); have hcz10_0 : w9.cell? ⟨gb117, 0, none⟩ = some (.int .u8 a0_0) := (blk_cell BK117.out 0).trans rfl; have hcz10_1 : w9.cell? ⟨gb117, 1, none⟩ = some (.int .u64 a0_1) := (blk_cell BK117.out 1).trans rfl; have hcz10_2 : w9.cell? ⟨gb117, 2, none⟩ = some (.string a0_2) := (blk_cell BK117.out 2).trans rfl; have hcz10_3 : w9.cell? ⟨gb117, 3, none⟩ = some (.slice A0_3 l0_3.length c0_3) := (blk_cell BK117.out 3).trans rfl; have hfz10_0 := blk_frozen BK117.out 0; have hfz10_1 := blk_frozen BK117.out 1; have hfz10_2 := blk_frozen BK117.out 2; have hfz10_3 := blk_frozen BK117.out 3) | (go_at_call 67; (with_reducible refine (value_Items.calls a0_0 a0_1 a0_2 _ _ l0_3 t119 _ ?side1 ?side2 A4.out).mono ?_); (case side1 => repeat (first | exact (Kd.C_below HR0_3.out HB.out) | (with_reducible refine Kd.C_alloc ?_ _) | (with_reducible refine Kd.C_drewN ?_ _) | (with_reducible refine Kd.C_drew ?_))); (case side2 => exact HC0_3.out); rintro e w11 ⟨rfl, hb⟩; have n0_ := Aside0.mk (blk_below (g := gb117) (o := .cells #[.int .u8 a0_0, .int .u64 a0_1, .string a0_2, .slice A0_3 l0_3.length c0_3] 25 (0, 0)) (by (with_reducible repeat (first | refine blk_drewN ?_ _ | refine blk_drew ?_ | refine blk_alloc ?_ _)); exact BK117.out) hb); have n1_ := Aside0.mk (below_step (by repeat (first | (with_reducible first | exact HB.out | apply below_alloc | apply pw_below_drewN | apply below_drew1 | refine below_set ?_ GE117.out) | exact HB.out)) hb); clear BK117; clear HB; have BK117 := n0_; have HB := n1_; clear n0_ n1_; (try clear hb); (try clear hb2); (try clear hk); (try clear hi); have hcz12_0 : w11.cell? ⟨gb117, 0, none⟩ = some (.int .u8 a0_0) := (blk_cell BK117.out 0).trans rfl; have hcz12_1 : w11.cell? ⟨gb117, 1, none⟩ = some (.int .u64 a0_1) := (blk_cell BK117.out 1).trans rfl; have hcz12_2 : w11.cell? ⟨gb117, 2, none⟩ = some (.string a0_2) := (blk_cell BK117.out 2).trans rfl; have hcz12_3 : w11.cell? ⟨gb117, 3, none⟩ = some (.slice A0_3 l0_3.length c0_3) := (blk_cell BK117.out 3).trans rfl; have hfz12_0 := blk_frozen BK117.out 0; have hfz12_1 := blk_frozen BK117.out 1; have hfz12_2 := blk_frozen BK117.out 2; have hfz12_3 := blk_frozen BK117.out 3) | (go_at_call 68; (with_reducible refine (value_may.calls a0_0 a0_1 a0_2 _ _ l0_3 t120 _ ?side1 ?side2 A6.out).mono ?_); (case side1 => repeat (first | exact (Kd.C_below HR0_3.out HB.out) | (with_reducible refine Kd.C_alloc ?_ _) | (with_reducible refine Kd.C_drewN ?_ _) | (with_reducible refine Kd.C_drew ?_))); (case side2 => exact HC0_3.out); rintro e w13 ⟨rfl, hb⟩; have n0_ := Aside0.mk (blk_below (g := gb117) (o := .cells #[.int .u8 a0_0, .int .u64 a0_1, .string a0_2, .slice A0_3 l0_3.length c0_3] 25 (0, 0)) (by (with_reducible repeat (first | refine blk_drewN ?_ _ | refine blk_drew ?_ | refine blk_alloc ?_ _)); exact BK117.out) hb); have n1_ := Aside0.mk (below_step (by repeat (first | (with_reducible first | exact HB.out | apply below_alloc | apply pw_below_drewN | apply below_drew1 | refine below_set ?_ GE117.out) | exact HB.out)) hb); clear BK117; clear HB; have BK117 := n0_; have HB := n1_; clear n0_ n1_; (try clear hb); (try clear hb2); (try clear hk); (try clear hi)))
   go_ret
   exact ⟨by first | rfl | (simp [errW_none, errW_some] <;> rfl) | (simp [*, errW_none, errW_some] <;> rfl), by repeat (first | (with_reducible first | exact HB.out | apply below_alloc | apply pw_below_drewN | apply below_drew1 | refine below_set ?_ GE117.out) | exact HB.out)⟩
  ·rw [if_neg c5] at H
   have c5b0 : decide (t119 ≤ 1024) = false := decide_eq_false c5
   clear c5
   obtain rfl := Option.some.inj H
   go_enter Tryz.func44, Tryz.ntmps44
   go_wp2_with (first | ((with_reducible refine gate_dst (N := 1) rfl ?_); refine box_event ?hg (N := 1) ?hd (cs := #[.int .u8 a0_0, .int .u64 a0_1, .string a0_2, .slice A0_3 l0_3.length c0_3]) (t := 25) ?hr ?_; (case hd => rfl); (case hg => rfl); (case hr => first | (go_simp; done) | (go_simp; rfl)); intro gb117 hg w14 hbox hb; have n0_ := Aside0.mk (below_step (by repeat (first | (with_reducible first | exact HB.out | apply below_alloc | apply pw_below_drewN | apply below_drew1) | exact HB.out)) hb); have n1_ := Aside0.mk (hbox); have n2_ := Aside0.mk ((by rw [hg]; exact (below_size (by repeat (first | (with_reducible first | exact HB.out | apply below_alloc | apply pw_below_drewN | apply below_drew1) | exact HB.out))) : w.heap.size ≤ gb117)); have n3_ := Aside0.mk ((by rw [hg]; exact (below_size (by repeat (first | (with_reducible first | exact HB.out | apply below_alloc | apply pw_below_drewN | apply below_drew1) | exact HB.out))) : w.heap.size ≤ gb117)); clear HB; have HB := n0_; have BK117 := n1_; have GW117 := n2_; have GE117 := n3_; clear n0_ n1_ n2_ n3_; clear hb hbox hg; have hcz15_0 : w14.cell? ⟨gb117, 0, none⟩ = some (.int .u8 a0_0) := (blk_cell BK117.out 0).trans rfl; have hcz15_1 : w14.cell? ⟨gb117, 1, none⟩ = some (.int .u64 a0_1) := (blk_cell BK117.out 1).trans rfl; have hcz15_2 : w14.cell? ⟨gb117, 2, none⟩ = some (.string a0_2) := (blk_cell BK117.out 2).trans rfl; have hcz15_3 : w14.cell? ⟨gb117, 3, none⟩ = some (.slice A0_3 l0_3.length c0_3) := (blk_cell BK117.out 3).trans rfl; have hfz15_0 := blk_frozen BK117.out 0; have hfz15_1 := blk_frozen BK117.out 1; have hfz15_2 := blk_frozen BK117.out 2; have hfz15_3 := blk_frozen BK117.out 3) | ((with_reducible refine gate_callee (f := 66) rfl ?_); refine goesL_ (some 4) rfl rfl Tryz.func66 (by kernel_rfl) rfl #[.agg #[.int .u8 a0_0, .int .u64 a0_1, .string a0_2, .slice A0_3 l0_3.length c0_3]] rfl (by (try simp only [List.map_toArray, List.map_cons, List.map_nil]); first | done | rfl | (simp only [List.length_drop, List.length_take]; rfl)) ?_; (with_reducible refine (value_Depth.calls a0_0 a0_1 a0_2 _ _ l0_3 t118 _ ?side1 ?side2 A2.out).mono ?_); (case side1 => repeat (first | exact (Kd.C_below HR0_3.out HB.out) | (with_reducible refine Kd.C_alloc ?_ _) | (with_reducible refine Kd.C_drewN ?_ _) | (with_reducible refine Kd.C_drew ?_))); (case side2 => exact HC0_3.out); rintro e w16 ⟨rfl, hb⟩; refine ⟨_, rfl, ?_⟩; have n0_ := Aside0.mk (blk_below (g := gb117) (o := .cells #[.int .u8 a0_0, .int .u64 a0_1, .string a0_2, .slice A0_3 l0_3.length c0_3] 25 (0, 0)) (by (with_reducible repeat (first | refine blk_drewN ?_ _ | refine blk_drew ?_ | refine blk_alloc ?_ _)); exact BK117.out) hb); have n1_ := Aside0.mk (below_step (by repeat (first | (with_reducible first | exact HB.out | apply below_alloc | apply pw_below_drewN | apply below_drew1 | refine below_set ?_ GE117.out) | exact HB.out)) hb); clear BK117; clear HB; have BK117 := n0_; have HB := n1_; clear n0_ n1_; (try clear hb); (try clear hb2); (try clear hk); (try clear hi); have hcz17_0 : w16.cell? ⟨gb117, 0, none⟩ = some (.int .u8 a0_0) := (blk_cell BK117.out 0).trans rfl; have hcz17_1 : w16.cell? ⟨gb117, 1, none⟩ = some (.int .u64 a0_1) := (blk_cell BK117.out 1).trans rfl; have hcz17_2 : w16.cell? ⟨gb117, 2, none⟩ = some (.string a0_2) := (blk_cell BK117.out 2).trans rfl; have hcz17_3 : w16.cell? ⟨gb117, 3, none⟩ = some (.slice A0_3 l0_3.length c0_3) := (blk_cell BK117.out 3).trans rfl; have hfz17_0 := blk_frozen BK117.out 0; have hfz17_1 := blk_frozen BK117.out 1; have hfz17_2 := blk_frozen BK117.out 2; have hfz17_3 := blk_frozen BK117.out 3) | (go_at_call 67; (with_reducible refine (value_Items.calls a0_0 a0_1 a0_2 _ _ l0_3 t119 _ ?side1 ?side2 A4.out).mono ?_); (case side1 => repeat (first | exact (Kd.C_below HR0_3.out HB.out) | (with_reducible refine Kd.C_alloc ?_ _) | (with_reducible refine Kd.C_drewN ?_ _) | (with_reducible refine Kd.C_drew ?_))); (case side2 => exact HC0_3.out); rintro e w18 ⟨rfl, hb⟩; have n0_ := Aside0.mk (blk_below (g := gb117) (o := .cells #[.int .u8 a0_0, .int .u64 a0_1, .string a0_2, .slice A0_3 l0_3.length c0_3] 25 (0, 0)) (by (with_reducible repeat (first | refine blk_drewN ?_ _ | refine blk_drew ?_ | refine blk_alloc ?_ _)); exact BK117.out) hb); have n1_ := Aside0.mk (below_step (by repeat (first | (with_reducible first | exact HB.out | apply below_alloc | apply pw_below_drewN | apply below_drew1 | refine below_set ?_ GE117.out) | exact HB.out)) hb); clear BK117; clear HB; have BK117 := n0_; have HB := n1_; clear n0_ n1_; (try clear hb); (try clear hb2); (try clear hk); (try clear hi)))
   go_ret
   exact ⟨by first | rfl | (simp [errW_none, errW_some] <;> rfl) | (simp [*, errW_none, errW_some] <;> rfl), by repeat (first | (with_reducible first | exact HB.out | apply below_alloc | apply pw_below_drewN | apply below_drew1 | refine below_set ?_ GE117.out) | exact HB.out)⟩
 ·rw [if_neg c3] at H
  have c3b0 : decide (t118 ≤ 16) = false := decide_eq_false c3
  clear c3
  obtain rfl := Option.some.inj H
  go_enter Tryz.func44, Tryz.ntmps44
  go_wp2_with (first | ((with_reducible refine gate_dst (N := 1) rfl ?_); refine box_event ?hg (N := 1) ?hd (cs := #[.int .u8 a0_0, .int .u64 a0_1, .string a0_2, .slice A0_3 l0_3.length c0_3]) (t := 25) ?hr ?_; (case hd => rfl); (case hg => rfl); (case hr => first | (go_simp; done) | (go_simp; rfl)); intro gb117 hg w19 hbox hb; have n0_ := Aside0.mk (below_step (by repeat (first | (with_reducible first | exact HB.out | apply below_alloc | apply pw_below_drewN | apply below_drew1) | exact HB.out)) hb); have n1_ := Aside0.mk (hbox); have n2_ := Aside0.mk ((by rw [hg]; exact (below_size (by repeat (first | (with_reducible first | exact HB.out | apply below_alloc | apply pw_below_drewN | apply below_drew1) | exact HB.out))) : w.heap.size ≤ gb117)); have n3_ := Aside0.mk ((by rw [hg]; exact (below_size (by repeat (first | (with_reducible first | exact HB.out | apply below_alloc | apply pw_below_drewN | apply below_drew1) | exact HB.out))) : w.heap.size ≤ gb117)); clear HB; have HB := n0_; have BK117 := n1_; have GW117 := n2_; have GE117 := n3_; clear n0_ n1_ n2_ n3_; clear hb hbox hg; have hcz20_0 : w19.cell? ⟨gb117, 0, none⟩ = some (.int .u8 a0_0) := (blk_cell BK117.out 0).trans rfl; have hcz20_1 : w19.cell? ⟨gb117, 1, none⟩ = some (.int .u64 a0_1) := (blk_cell BK117.out 1).trans rfl; have hcz20_2 : w19.cell? ⟨gb117, 2, none⟩ = some (.string a0_2) := (blk_cell BK117.out 2).trans rfl; have hcz20_3 : w19.cell? ⟨gb117, 3, none⟩ = some (.slice A0_3 l0_3.length c0_3) := (blk_cell BK117.out 3).trans rfl; have hfz20_0 := blk_frozen BK117.out 0; have hfz20_1 := blk_frozen BK117.out 1; have hfz20_2 := blk_frozen BK117.out 2; have hfz20_3 := blk_frozen BK117.out 3) | ((with_reducible refine gate_callee (f := 66) rfl ?_); refine goesL_ (some 4) rfl rfl Tryz.func66 (by kernel_rfl) rfl #[.agg #[.int .u8 a0_0, .int .u64 a0_1, .string a0_2, .slice A0_3 l0_3.length c0_3]] rfl (by (try simp only [List.map_toArray, List.map_cons, List.map_nil]); first | done | rfl | (simp only [List.length_drop, List.length_take]; rfl)) ?_; (with_reducible refine (value_Depth.calls a0_0 a0_1 a0_2 _ _ l0_3 t118 _ ?side1 ?side2 A2.out).mono ?_); (case side1 => repeat (first | exact (Kd.C_below HR0_3.out HB.out) | (with_reducible refine Kd.C_alloc ?_ _) | (with_reducible refine Kd.C_drewN ?_ _) | (with_reducible refine Kd.C_drew ?_))); (case side2 => exact HC0_3.out); rintro e w21 ⟨rfl, hb⟩; refine ⟨_, rfl, ?_⟩; have n0_ := Aside0.mk (blk_below (g := gb117) (o := .cells #[.int .u8 a0_0, .int .u64 a0_1, .string a0_2, .slice A0_3 l0_3.length c0_3] 25 (0, 0)) (by (with_reducible repeat (first | refine blk_drewN ?_ _ | refine blk_drew ?_ | refine blk_alloc ?_ _)); exact BK117.out) hb); have n1_ := Aside0.mk (below_step (by repeat (first | (with_reducible first | exact HB.out | apply below_alloc | apply pw_below_drewN | apply below_drew1 | refine below_set ?_ GE117.out) | exact HB.out)) hb); clear BK117; clear HB; have BK117 := n0_; have HB := n1_; clear n0_ n1_; (try clear hb); (try clear hb2); (try clear hk); (try clear hi)))
  go_ret
  exact ⟨by first | rfl | (simp [errW_none, errW_some] <;> rfl) | (simp [*, errW_none, errW_some] <;> rfl), by repeat (first | (with_reducible first | exact HB.out | apply below_alloc | apply pw_below_drewN | apply below_drew1 | refine below_set ?_ GE117.out) | exact HB.out)⟩
def value_copies.f (l0 : List (S25)) : Option (List S25) := if itemsL l0 ≤ 4294967296 then some l0 else none
theorem value_copies.calls (A0 : Option Addr) (c0 : Nat) (l0 : List (S25)) (r : List (S25)) (w : World) (hr0 : Kd.C k25 w A0 l0.length l0) (hc0 : l0.length ≤ c0) (h : value_copies.f l0 = some r) :
  Calls Tryz.prog 65 #[.slice A0 l0.length c0] w fun e w' => ∃ v_ : Value, e = .returned v_ ∧ Kd.R k25 25 w' w.heap.size (fun _ => True) v_ r ∧ Below w.heap.size w w' := by
 unfold value_copies.f at h
 split at h
 ·rename_i hq
  cases h
  exact (copies59_any l0 hq A0 c0 w hr0 hc0).mono fun e w' ⟨A', c', he, hm⟩ => ⟨_, he, hm.1, hm.2⟩
 ·cases h
def value_Many.f (a0 : Int) (l1 : List (S25)) : Option (Int × Int × ByteArray × (List (S25))) := (value_copies.f l1).bind fun t122 => (some (a0, 0, (⟨#[]⟩ : ByteArray), t122))
theorem value_Many.calls (a0 : Int) (A1 : Option Addr) (c1 : Nat) (l1 : List (S25)) (r1 : Int) (r2 : Int) (r3 : ByteArray) (r4 : List (S25)) (w : World) (hr1 : Kd.C k25 w A1 l1.length l1) (hc1 : l1.length ≤ c1) (h : value_Many.f a0 l1 = some (r1, r2, r3, r4)) :
  Calls Tryz.prog 40 #[.int .u8 a0, .slice A1 l1.length c1] w fun e w' => ∃ v3_ : Value, e = .returned (.agg #[.int .u8 r1, .int .u64 r2, .string r3, v3_]) ∧ Kd.R k25 25 w' w.heap.size (fun _ => True) v3_ r4 ∧ Below w.heap.size w w' := by
 have hu25 := Tryz.underlying25
 have HR1 := Aside0.mk hr1
 have HC1 := Aside0.mk hc1
 clear hr1 hc1
 have HB := Aside0.mk (Below.refl w.heap.size w)
 have H : ((value_copies.f l1).bind fun t122 => (some (a0, 0, (⟨#[]⟩ : ByteArray), t122))) = some (r1, r2, r3, r4) := h
 clear h
 replace H := Option.bind_eq_some_iff.mp H
 obtain ⟨t122, A30, H⟩ := H
 replace H : (some (a0, 0, (⟨#[]⟩ : ByteArray), t122)) = some (r1, r2, r3, r4) := H
 have A3 := Aside0.mk A30
 clear A30
 simp only [Option.some.injEq, Prod.mk.injEq] at H
 obtain ⟨rfl, rfl, rfl, rfl⟩ := H
 go_enter Tryz.func40, Tryz.ntmps40
 go_wp2_with (first | ((with_reducible refine gate_dst (N := 4) rfl ?_); refine box_event ?hg (N := 4) ?hd (cs := #[.int .u8 0, .int .u64 0, .string (⟨#[]⟩ : ByteArray), .slice none 0 0]) (t := 25) ?hr ?_; (case hd => rfl); (case hg => rfl); (case hr => first | (go_simp; done) | (go_simp; rfl)); intro gb121 hg w4 hbox hb; have n0_ := Aside0.mk (below_step (by repeat (first | (with_reducible first | exact HB.out | apply below_alloc | apply pw_below_drewN | apply below_drew1) | exact HB.out)) hb); have n1_ := Aside0.mk (hbox); have n2_ := Aside0.mk ((by rw [hg]; exact (below_size (by repeat (first | (with_reducible first | exact HB.out | apply below_alloc | apply pw_below_drewN | apply below_drew1) | exact HB.out))) : w.heap.size ≤ gb121)); have n3_ := Aside0.mk ((by rw [hg]; exact (below_size (by repeat (first | (with_reducible first | exact HB.out | apply below_alloc | apply pw_below_drewN | apply below_drew1) | exact HB.out))) : w.heap.size ≤ gb121)); clear HB; have HB := n0_; have BK121 := n1_; have GW121 := n2_; have GE121 := n3_; clear n0_ n1_ n2_ n3_; clear hb hbox hg) | ((with_reducible refine gate_callee (f := 65) rfl ?_); refine goesL_ (some 7) rfl rfl Tryz.func65 (by kernel_rfl) rfl #[.slice A1 l1.length c1] rfl (by (try simp only [List.map_toArray, List.map_cons, List.map_nil]); first | done | rfl | (simp only [List.length_drop, List.length_take]; rfl)) ?_; (with_reducible refine (value_copies.calls _ _ l1 t122 _ ?side1 ?side2 A3.out).mono ?_); (case side1 => repeat (first | exact (Kd.C_below HR1.out HB.out) | (with_reducible refine Kd.C_alloc ?_ _) | (with_reducible refine Kd.C_drewN ?_ _) | (with_reducible refine Kd.C_drew ?_))); (case side2 => exact HC1.out); rintro e w5 ⟨v123, rfl, ho0, hb⟩; refine ⟨_, rfl, ?_⟩; have n0_ := Aside0.mk (Kd.R_lower (Kd.R_newB ho0 (g := gb121) (o := .cells #[.int .u8 0, .int .u64 0, .string (⟨#[]⟩ : ByteArray), .slice none 0 0] 25 (0, 0)) (by (with_reducible repeat (first | refine blk_drewN ?_ _ | refine blk_drew ?_ | refine blk_alloc ?_ _)); exact BK121.out)) (below_size (by repeat (first | (with_reducible first | exact HB.out | apply below_alloc | apply pw_below_drewN | apply below_drew1 | refine below_set ?_ GE121.out) | exact HB.out)))); have n1_ := Aside0.mk (blk_below (g := gb121) (o := .cells #[.int .u8 0, .int .u64 0, .string (⟨#[]⟩ : ByteArray), .slice none 0 0] 25 (0, 0)) (by (with_reducible repeat (first | refine blk_drewN ?_ _ | refine blk_drew ?_ | refine blk_alloc ?_ _)); exact BK121.out) hb); have n2_ := Aside0.mk (below_step (by repeat (first | (with_reducible first | exact HB.out | apply below_alloc | apply pw_below_drewN | apply below_drew1 | refine below_set ?_ GE121.out) | exact HB.out)) hb); clear BK121; clear HB; have HO124 := n0_; have BK121 := n1_; have HB := n2_; clear n0_ n1_ n2_; (try clear hb); (try clear hb2); (try clear hk); (try clear hi); (try clear ho0); obtain ⟨Ao6, co6, eo6⟩ := Kd.R_slice HO124.out; subst eo6; have hcz7_0 : w5.cell? ⟨gb121, 0, none⟩ = some (.int .u8 0) := (blk_cell BK121.out 0).trans rfl; have hcz7_1 : w5.cell? ⟨gb121, 1, none⟩ = some (.int .u64 0) := (blk_cell BK121.out 1).trans rfl; have hcz7_2 : w5.cell? ⟨gb121, 2, none⟩ = some (.string (⟨#[]⟩ : ByteArray)) := (blk_cell BK121.out 2).trans rfl; have hcz7_3 : w5.cell? ⟨gb121, 3, none⟩ = some (.slice none 0 0) := (blk_cell BK121.out 3).trans rfl; have hfz7_0 := blk_frozen BK121.out 0; have hfz7_1 := blk_frozen BK121.out 1; have hfz7_2 := blk_frozen BK121.out 2; have hfz7_3 := blk_frozen BK121.out 3))
 refine bodyPost_ret (results_cell_row rfl _ _ gb121 25 #[.int .u8 a0, .int .u64 0, .string (⟨#[]⟩ : ByteArray), .slice Ao6 t122.length co6] (0, 0) _ rfl (by (with_reducible repeat (first | refine blk_drewN ?_ _ | refine blk_drew ?_ | refine blk_alloc ?_ _)); refine blk_put (cs := #[.int .u8 a0, .int .u64 0, .string (⟨#[]⟩ : ByteArray), .slice none 0 0]) ?_ 3 _ rfl; (with_reducible repeat (first | refine blk_drewN ?_ _ | refine blk_drew ?_ | refine blk_alloc ?_ _)); refine blk_put (cs := #[.int .u8 a0, .int .u64 0, .string (⟨#[]⟩ : ByteArray), .slice none 0 0]) ?_ 2 _ rfl; (with_reducible repeat (first | refine blk_drewN ?_ _ | refine blk_drew ?_ | refine blk_alloc ?_ _)); refine blk_put (cs := #[.int .u8 a0, .int .u64 0, .string (⟨#[]⟩ : ByteArray), .slice none 0 0]) ?_ 1 _ rfl; (with_reducible repeat (first | refine blk_drewN ?_ _ | refine blk_drew ?_ | refine blk_alloc ?_ _)); refine blk_put (cs := #[.int .u8 0, .int .u64 0, .string (⟨#[]⟩ : ByteArray), .slice none 0 0]) ?_ 0 _ rfl; (with_reducible repeat (first | refine blk_drewN ?_ _ | refine blk_drew ?_ | refine blk_alloc ?_ _)); exact BK121.out) Tryz.underlying25 rfl (by kernel_rfl)) rfl ?_
 exact ⟨_, by first | rfl | (simp [errW_none, errW_some] <;> rfl) | (simp [*, errW_none, errW_some] <;> rfl), by (with_reducible repeat (first | apply Kd.R_alloc | apply Kd.R_drewN | apply Kd.R_drew)); exact Kd.R_mono (Kd.R_far (p := ⟨gb121, 3, none⟩) (Kd.R_far (p := ⟨gb121, 2, none⟩) (Kd.R_far (p := ⟨gb121, 1, none⟩) (Kd.R_far (p := ⟨gb121, 0, none⟩) (Kd.R_mono HO124.out (fun k_ hk => (⟨hk, hk.2⟩ : _ ∧ k_ ≠ gb121))) (fun _ hk => hk.2) (.int .u8 a0)) (fun _ hk => hk.2) (.int .u64 0)) (fun _ hk => hk.2) (.string (⟨#[]⟩ : ByteArray))) (fun _ hk => hk.2) (.slice Ao6 t122.length co6)) (fun _ hk => trivial), by repeat (first | (with_reducible first | exact HB.out | apply below_alloc | apply pw_below_drewN | apply below_drew1 | refine below_set ?_ GE121.out) | exact HB.out)⟩
def bellwetherref04_CopyAll.f (l0 : List (S25)) : Option (List S25) := if itemsL l0 ≤ 4294967296 then some l0 else none
theorem bellwetherref04_CopyAll.calls (A0 : Option Addr) (c0 : Nat) (l0 : List (S25)) (r : List (S25)) (w : World) (hr0 : Kd.C k25 w A0 l0.length l0) (hc0 : l0.length ≤ c0) (h : bellwetherref04_CopyAll.f l0 = some r) :
  Calls Tryz.prog 35 #[.slice A0 l0.length c0] w fun e w' => ∃ v_ : Value, e = .returned v_ ∧ Kd.R k25 25 w' w.heap.size (fun _ => True) v_ r ∧ Below w.heap.size w w' := by
 unfold bellwetherref04_CopyAll.f at h
 split at h
 ·rename_i hq
  cases h
  exact (copyAll20_any l0 hq A0 c0 w hr0 hc0).mono fun e w' ⟨A', c', he, hm⟩ => ⟨_, he, hm.1, hm.2⟩
 ·cases h
def bellwetherref04_Many.f (a0 : Int) (l1 : List (S25)) : Option (Int × Int × ByteArray × (List (S25))) := (bellwetherref04_CopyAll.f l1).bind fun t126 => (some (a0, 0, (⟨#[]⟩ : ByteArray), t126))
theorem bellwetherref04_Many.calls (a0 : Int) (A1 : Option Addr) (c1 : Nat) (l1 : List (S25)) (r1 : Int) (r2 : Int) (r3 : ByteArray) (r4 : List (S25)) (w : World) (hr1 : Kd.C k25 w A1 l1.length l1) (hc1 : l1.length ≤ c1) (h : bellwetherref04_Many.f a0 l1 = some (r1, r2, r3, r4)) :
  Calls Tryz.prog 43 #[.int .u8 a0, .slice A1 l1.length c1] w fun e w' => ∃ v3_ : Value, e = .returned (.agg #[.int .u8 r1, .int .u64 r2, .string r3, v3_]) ∧ Kd.R k25 25 w' w.heap.size (fun _ => True) v3_ r4 ∧ Below w.heap.size w w' := by
 have hu25 := Tryz.underlying25
 have HR1 := Aside0.mk hr1
 have HC1 := Aside0.mk hc1
 clear hr1 hc1
 have HB := Aside0.mk (Below.refl w.heap.size w)
 have H : ((bellwetherref04_CopyAll.f l1).bind fun t126 => (some (a0, 0, (⟨#[]⟩ : ByteArray), t126))) = some (r1, r2, r3, r4) := h
 clear h
 replace H := Option.bind_eq_some_iff.mp H
 obtain ⟨t126, A30, H⟩ := H
 replace H : (some (a0, 0, (⟨#[]⟩ : ByteArray), t126)) = some (r1, r2, r3, r4) := H
 have A3 := Aside0.mk A30
 clear A30
 simp only [Option.some.injEq, Prod.mk.injEq] at H
 obtain ⟨rfl, rfl, rfl, rfl⟩ := H
 go_enter Tryz.func43, Tryz.ntmps43
 go_wp2_with (first | ((with_reducible refine gate_dst (N := 4) rfl ?_); refine box_event ?hg (N := 4) ?hd (cs := #[.int .u8 0, .int .u64 0, .string (⟨#[]⟩ : ByteArray), .slice none 0 0]) (t := 25) ?hr ?_; (case hd => rfl); (case hg => rfl); (case hr => first | (go_simp; done) | (go_simp; rfl)); intro gb125 hg w4 hbox hb; have n0_ := Aside0.mk (below_step (by repeat (first | (with_reducible first | exact HB.out | apply below_alloc | apply pw_below_drewN | apply below_drew1) | exact HB.out)) hb); have n1_ := Aside0.mk (hbox); have n2_ := Aside0.mk ((by rw [hg]; exact (below_size (by repeat (first | (with_reducible first | exact HB.out | apply below_alloc | apply pw_below_drewN | apply below_drew1) | exact HB.out))) : w.heap.size ≤ gb125)); have n3_ := Aside0.mk ((by rw [hg]; exact (below_size (by repeat (first | (with_reducible first | exact HB.out | apply below_alloc | apply pw_below_drewN | apply below_drew1) | exact HB.out))) : w.heap.size ≤ gb125)); clear HB; have HB := n0_; have BK125 := n1_; have GW125 := n2_; have GE125 := n3_; clear n0_ n1_ n2_ n3_; clear hb hbox hg) | ((with_reducible refine gate_callee (f := 35) rfl ?_); refine goesL_ (some 7) rfl rfl Tryz.func35 (by kernel_rfl) rfl #[.slice A1 l1.length c1] rfl (by (try simp only [List.map_toArray, List.map_cons, List.map_nil]); first | done | rfl | (simp only [List.length_drop, List.length_take]; rfl)) ?_; (with_reducible refine (bellwetherref04_CopyAll.calls _ _ l1 t126 _ ?side1 ?side2 A3.out).mono ?_); (case side1 => repeat (first | exact (Kd.C_below HR1.out HB.out) | (with_reducible refine Kd.C_alloc ?_ _) | (with_reducible refine Kd.C_drewN ?_ _) | (with_reducible refine Kd.C_drew ?_))); (case side2 => exact HC1.out); rintro e w5 ⟨v127, rfl, ho0, hb⟩; refine ⟨_, rfl, ?_⟩; have n0_ := Aside0.mk (Kd.R_lower (Kd.R_newB ho0 (g := gb125) (o := .cells #[.int .u8 0, .int .u64 0, .string (⟨#[]⟩ : ByteArray), .slice none 0 0] 25 (0, 0)) (by (with_reducible repeat (first | refine blk_drewN ?_ _ | refine blk_drew ?_ | refine blk_alloc ?_ _)); exact BK125.out)) (below_size (by repeat (first | (with_reducible first | exact HB.out | apply below_alloc | apply pw_below_drewN | apply below_drew1 | refine below_set ?_ GE125.out) | exact HB.out)))); have n1_ := Aside0.mk (blk_below (g := gb125) (o := .cells #[.int .u8 0, .int .u64 0, .string (⟨#[]⟩ : ByteArray), .slice none 0 0] 25 (0, 0)) (by (with_reducible repeat (first | refine blk_drewN ?_ _ | refine blk_drew ?_ | refine blk_alloc ?_ _)); exact BK125.out) hb); have n2_ := Aside0.mk (below_step (by repeat (first | (with_reducible first | exact HB.out | apply below_alloc | apply pw_below_drewN | apply below_drew1 | refine below_set ?_ GE125.out) | exact HB.out)) hb); clear BK125; clear HB; have HO128 := n0_; have BK125 := n1_; have HB := n2_; clear n0_ n1_ n2_; (try clear hb); (try clear hb2); (try clear hk); (try clear hi); (try clear ho0); obtain ⟨Ao6, co6, eo6⟩ := Kd.R_slice HO128.out; subst eo6; have hcz7_0 : w5.cell? ⟨gb125, 0, none⟩ = some (.int .u8 0) := (blk_cell BK125.out 0).trans rfl; have hcz7_1 : w5.cell? ⟨gb125, 1, none⟩ = some (.int .u64 0) := (blk_cell BK125.out 1).trans rfl; have hcz7_2 : w5.cell? ⟨gb125, 2, none⟩ = some (.string (⟨#[]⟩ : ByteArray)) := (blk_cell BK125.out 2).trans rfl; have hcz7_3 : w5.cell? ⟨gb125, 3, none⟩ = some (.slice none 0 0) := (blk_cell BK125.out 3).trans rfl; have hfz7_0 := blk_frozen BK125.out 0; have hfz7_1 := blk_frozen BK125.out 1; have hfz7_2 := blk_frozen BK125.out 2; have hfz7_3 := blk_frozen BK125.out 3))
 refine bodyPost_ret (results_cell_row rfl _ _ gb125 25 #[.int .u8 a0, .int .u64 0, .string (⟨#[]⟩ : ByteArray), .slice Ao6 t126.length co6] (0, 0) _ rfl (by (with_reducible repeat (first | refine blk_drewN ?_ _ | refine blk_drew ?_ | refine blk_alloc ?_ _)); refine blk_put (cs := #[.int .u8 a0, .int .u64 0, .string (⟨#[]⟩ : ByteArray), .slice none 0 0]) ?_ 3 _ rfl; (with_reducible repeat (first | refine blk_drewN ?_ _ | refine blk_drew ?_ | refine blk_alloc ?_ _)); refine blk_put (cs := #[.int .u8 a0, .int .u64 0, .string (⟨#[]⟩ : ByteArray), .slice none 0 0]) ?_ 2 _ rfl; (with_reducible repeat (first | refine blk_drewN ?_ _ | refine blk_drew ?_ | refine blk_alloc ?_ _)); refine blk_put (cs := #[.int .u8 a0, .int .u64 0, .string (⟨#[]⟩ : ByteArray), .slice none 0 0]) ?_ 1 _ rfl; (with_reducible repeat (first | refine blk_drewN ?_ _ | refine blk_drew ?_ | refine blk_alloc ?_ _)); refine blk_put (cs := #[.int .u8 0, .int .u64 0, .string (⟨#[]⟩ : ByteArray), .slice none 0 0]) ?_ 0 _ rfl; (with_reducible repeat (first | refine blk_drewN ?_ _ | refine blk_drew ?_ | refine blk_alloc ?_ _)); exact BK125.out) Tryz.underlying25 rfl (by kernel_rfl)) rfl ?_
 exact ⟨_, by first | rfl | (simp [errW_none, errW_some] <;> rfl) | (simp [*, errW_none, errW_some] <;> rfl), by (with_reducible repeat (first | apply Kd.R_alloc | apply Kd.R_drewN | apply Kd.R_drew)); exact Kd.R_mono (Kd.R_far (p := ⟨gb125, 3, none⟩) (Kd.R_far (p := ⟨gb125, 2, none⟩) (Kd.R_far (p := ⟨gb125, 1, none⟩) (Kd.R_far (p := ⟨gb125, 0, none⟩) (Kd.R_mono HO128.out (fun k_ hk => (⟨hk, hk.2⟩ : _ ∧ k_ ≠ gb125))) (fun _ hk => hk.2) (.int .u8 a0)) (fun _ hk => hk.2) (.int .u64 0)) (fun _ hk => hk.2) (.string (⟨#[]⟩ : ByteArray))) (fun _ hk => hk.2) (.slice Ao6 t126.length co6)) (fun _ hk => trivial), by repeat (first | (with_reducible first | exact HB.out | apply below_alloc | apply pw_below_drewN | apply below_drew1 | refine below_set ?_ GE125.out) | exact HB.out)⟩
end Go.Proofs.YtdilbnggedidnaaGreat.PVal
namespace Go.Proofs.YtdilbnggedidnaaGreat.PVal
open Go.RowKit Go.Shelf Go.Proofs.YtdilbnggedidnaaGreatW.PrintWords Go.Proofs.YtdilbnggedidnaaGreatW.PrintLast
set_option linter.unusedVariables false
set_option linter.unusedSimpArgs false
def KV.cells (q : KV) : List Value := [.int .u8 q.x.f0, .int .u64 q.x.f1, .string q.x.f2, .slice q.A q.x.f3.length q.c]
def flatK : List KV → List Value
 | [] => []
 | q :: l => q.cells ++ flatK l
theorem flatK_get : ∀ (l : List KV) (j : Nat) (q : KV), l[j]? = some q → ∀ i, i < 4 → (flatK l)[j * 4 + i]? = q.cells[i]?
 | [], j, q, h, i, hi => by simp at h
 | p :: l, 0, q, h, i, hi => by
  obtain rfl : p = q := by simpa using h
  rw [flatK, Nat.zero_mul, Nat.zero_add, List.getElem?_append_left (by simpa [KV.cells] using hi)]
 | p :: l, j + 1, q, h, i, hi => by
  rw [flatK, List.getElem?_append_right (by simp [KV.cells]; omega)]
  have := flatK_get l j q (by simpa using h) i hi
  rw [← this]
  congr 1
  simp [KV.cells]; omega
theorem C_lit {W : World} {b : Nat} {ks : List KV} (hb : Blk W b (flatK ks).toArray 25) (hn : ks.length ≤ 9223372036854775807) (hok : ∀ q ∈ ks, q.ok W) : k25.C W (some ⟨b, 0, none⟩) ks.length (ks.map (·.x)) := by
 refine ⟨by simp, hn, fun _ => ⟨_, rfl, fun j p hj => ?_⟩⟩
 rw [List.getElem?_map] at hj
 obtain ⟨q, hq, rfl⟩ := Option.map_eq_some_iff.1 hj
 have hk := hok q (List.mem_of_getElem? hq)
 refine ⟨q.cells, rfl, k25_mk W q.x hk.2 hk.1, fun i u hi => ?_⟩
 have hi4 : i < 4 := by
  have := (List.getElem?_eq_some_iff.1 hi).1
  simpa [KV.cells] using this
 have := flatK_get ks j q hq i hi4
 show W.cell? ((⟨b, 0, none⟩ : Addr).add (j * 4 + i)) = some u
 rw [show (⟨b, 0, none⟩ : Addr).add (j * 4 + i) = ⟨b, j * 4 + i, none⟩ by unfold Addr.add; split <;> simp_all]
 refine (blk_cell hb _).trans ?_
 simpa [this] using hi
theorem bool27_any (b : Bool) (w : World) : Calls Tryz.prog 77 #[.bool b] w fun e w' => e = .returned (.agg #[.int .u8 2, .int .u64 (if b then 1 else 0), .string ⟨#[]⟩, .slice none 0 0]) ∧ Below w.heap.size w w' := by
 cases b with
 | true =>
  go_enter Tryz.func77, Tryz.ntmps77
  go_wp2_with fail
  exact bodyPost_ret (results_cell_row rfl _ _ w.heap.size 25 #[.int .u8 2, .int .u64 1, .string ⟨#[]⟩, .slice none 0 0] (0, 0) _ rfl (blk_alloc (blk_new _ _) _) Tryz.underlying25 rfl (by kernel_rfl)) rfl ⟨rfl, below_alloc (below_alloc (Below.refl _ _) _) _⟩
 | false =>
  go_enter Tryz.func77, Tryz.ntmps77
  go_wp2_with fail
  exact bodyPost_ret (results_cell_row rfl _ _ w.heap.size 25 #[.int .u8 2, .int .u64 0, .string ⟨#[]⟩, .slice none 0 0] (0, 0) _ rfl (blk_alloc (blk_new _ _) _) Tryz.underlying25 rfl (by kernel_rfl)) rfl ⟨rfl, below_alloc (below_alloc (Below.refl _ _) _) _⟩
theorem many21_any (k : Int) (l : List S25) (hs : itemsL l ≤ 4294967296) (A : Option Addr) (c : Nat) (w : World) (ha : k25.C w A l.length l) (hc : l.length ≤ c) :
  Calls Tryz.prog 40 #[.int .u8 k, .slice A l.length c] w fun e w' => ∃ v3_ : Value, e = .returned (.agg #[.int .u8 k, .int .u64 0, .string ⟨#[]⟩, v3_]) ∧ k25.R 25 w' w.heap.size (fun _ => True) v3_ l ∧ Below w.heap.size w w' :=
 value_Many.calls k A c l k 0 ⟨#[]⟩ l w ha hc (by unfold value_Many.f value_copies.f; rw [if_pos hs]; rfl)
theorem rmany25_any (k : Int) (l : List S25) (hs : itemsL l ≤ 4294967296) (A : Option Addr) (c : Nat) (w : World) (ha : k25.C w A l.length l) (hc : l.length ≤ c) :
  Calls Tryz.prog 43 #[.int .u8 k, .slice A l.length c] w fun e w' => ∃ v3_ : Value, e = .returned (.agg #[.int .u8 k, .int .u64 0, .string ⟨#[]⟩, v3_]) ∧ k25.R 25 w' w.heap.size (fun _ => True) v3_ l ∧ Below w.heap.size w w' :=
 bellwetherref04_Many.calls k A c l k 0 ⟨#[]⟩ l w ha hc (by unfold bellwetherref04_Many.f bellwetherref04_CopyAll.f; rw [if_pos hs]; rfl)
theorem desc28_any (x y : S25) (hs : itemsN x + itemsN y ≤ 4294967296) (A B : Option Addr) (c d : Nat) (w : World) (ha : k25.C w A x.f3.length x.f3) (hc : x.f3.length ≤ c) (hb : k25.C w B y.f3.length y.f3) (hd : y.f3.length ≤ d) :
  Calls Tryz.prog 39 #[.agg #[.int .u8 x.f0, .int .u64 x.f1, .string x.f2, .slice A x.f3.length c], .agg #[.int .u8 y.f0, .int .u64 y.f1, .string y.f2, .slice B y.f3.length d]] w fun e w' => ∃ v3_ : Value, e = .returned (.agg #[.int .u8 25, .int .u64 0, .string ⟨#[]⟩, v3_]) ∧ k25.R 25 w' w.heap.size (fun _ => True) v3_ [x, y] ∧ Below w.heap.size w w' := by
 have HA := Aside0.mk ha
 have HB := Aside0.mk hb
 clear ha hb
 go_enter Tryz.func39, Tryz.ntmps39
 go_wp2_with fail
 have bR : Blk ((((w.alloc (.cells #[.int .u8 x.f0, .int .u64 x.f1, .string x.f2, .slice A x.f3.length c] 25)).alloc (.cells #[.int .u8 y.f0, .int .u64 y.f1, .string y.f2, .slice B y.f3.length d] 25)).alloc (.cells #[.int .u8 0, .int .u64 0, .string ⟨#[]⟩, .slice none 0 0] 25)).alloc (.cells #[.int .u8 x.f0, .int .u64 x.f1, .string x.f2, .slice A x.f3.length c, .int .u8 y.f0, .int .u64 y.f1, .string y.f2, .slice B y.f3.length d] 25)) (w.heap.size + 1 + 1) #[.int .u8 0, .int .u64 0, .string ⟨#[]⟩, .slice none 0 0] 25 := by
  have := (Blk.new ((w.alloc (.cells #[.int .u8 x.f0, .int .u64 x.f1, .string x.f2, .slice A x.f3.length c] 25)).alloc (.cells #[.int .u8 y.f0, .int .u64 y.f1, .string y.f2, .slice B y.f3.length d] 25)) #[.int .u8 0, .int .u64 0, .string ⟨#[]⟩, .slice none 0 0] 25).alloc (.cells #[.int .u8 x.f0, .int .u64 x.f1, .string x.f2, .slice A x.f3.length c, .int .u8 y.f0, .int .u64 y.f1, .string y.f2, .slice B y.f3.length d] 25); simpa using this
 have bL : Blk ((((w.alloc (.cells #[.int .u8 x.f0, .int .u64 x.f1, .string x.f2, .slice A x.f3.length c] 25)).alloc (.cells #[.int .u8 y.f0, .int .u64 y.f1, .string y.f2, .slice B y.f3.length d] 25)).alloc (.cells #[.int .u8 0, .int .u64 0, .string ⟨#[]⟩, .slice none 0 0] 25)).alloc (.cells #[.int .u8 x.f0, .int .u64 x.f1, .string x.f2, .slice A x.f3.length c, .int .u8 y.f0, .int .u64 y.f1, .string y.f2, .slice B y.f3.length d] 25)) (w.heap.size + 1 + 1 + 1) (flatK [⟨x, A, c⟩, ⟨y, B, d⟩]).toArray 25 := by
  have := Blk.new (((w.alloc (.cells #[.int .u8 x.f0, .int .u64 x.f1, .string x.f2, .slice A x.f3.length c] 25)).alloc (.cells #[.int .u8 y.f0, .int .u64 y.f1, .string y.f2, .slice B y.f3.length d] 25)).alloc (.cells #[.int .u8 0, .int .u64 0, .string ⟨#[]⟩, .slice none 0 0] 25)) #[.int .u8 x.f0, .int .u64 x.f1, .string x.f2, .slice A x.f3.length c, .int .u8 y.f0, .int .u64 y.f1, .string y.f2, .slice B y.f3.length d] 25; simpa [flatK, KV.cells] using this
 have hB0 : Below w.heap.size w ((((w.alloc (.cells #[.int .u8 x.f0, .int .u64 x.f1, .string x.f2, .slice A x.f3.length c] 25)).alloc (.cells #[.int .u8 y.f0, .int .u64 y.f1, .string y.f2, .slice B y.f3.length d] 25)).alloc (.cells #[.int .u8 0, .int .u64 0, .string ⟨#[]⟩, .slice none 0 0] 25)).alloc (.cells #[.int .u8 x.f0, .int .u64 x.f1, .string x.f2, .slice A x.f3.length c, .int .u8 y.f0, .int .u64 y.f1, .string y.f2, .slice B y.f3.length d] 25)) := below_alloc (below_alloc (below_alloc (below_alloc (Below.refl _ _) _) _) _) _
 have hz : ((((w.alloc (.cells #[.int .u8 x.f0, .int .u64 x.f1, .string x.f2, .slice A x.f3.length c] 25)).alloc (.cells #[.int .u8 y.f0, .int .u64 y.f1, .string y.f2, .slice B y.f3.length d] 25)).alloc (.cells #[.int .u8 0, .int .u64 0, .string ⟨#[]⟩, .slice none 0 0] 25)).alloc (.cells #[.int .u8 x.f0, .int .u64 x.f1, .string x.f2, .slice A x.f3.length c, .int .u8 y.f0, .int .u64 y.f1, .string y.f2, .slice B y.f3.length d] 25)).heap.size = w.heap.size + 4 := by simp
 obtain ⟨W0, hW0⟩ : ∃ W0, ((((w.alloc (.cells #[.int .u8 x.f0, .int .u64 x.f1, .string x.f2, .slice A x.f3.length c] 25)).alloc (.cells #[.int .u8 y.f0, .int .u64 y.f1, .string y.f2, .slice B y.f3.length d] 25)).alloc (.cells #[.int .u8 0, .int .u64 0, .string ⟨#[]⟩, .slice none 0 0] 25)).alloc (.cells #[.int .u8 x.f0, .int .u64 x.f1, .string x.f2, .slice A x.f3.length c, .int .u8 y.f0, .int .u64 y.f1, .string y.f2, .slice B y.f3.length d] 25)) = W0 := ⟨_, rfl⟩
 rw [hW0] at bR bL hB0 hz ⊢
 clear hW0
 have hC := C_lit bL (by simp) (by
  intro q hq
  simp only [List.mem_cons, List.not_mem_nil, or_false] at hq
  rcases hq with rfl | rfl
  ·exact ⟨Kd.C_below HA.out hB0, hc⟩
  ·exact ⟨Kd.C_below HB.out hB0, hd⟩)
 refine (many21_any 25 [x, y] (by simpa [itemsL] using hs) _ 2 W0 hC (by simp)).mono ?_
 rintro e w5 ⟨v3, rfl, hR, hb5⟩
 have HR := Aside0.mk hR
 obtain ⟨A5, c5, rfl⟩ := Kd.R_slice hR
 have bR5 := bR.below hb5
 have HB5 := Aside0.mk (below_step hB0 hb5)
 have HZ := Aside0.mk (⟨hz, hb5.size⟩ : _ ∧ _)
 obtain ⟨q0, q1, q2, q3⟩ := bR5.c4
 have fz := bR5.fz
 clear hR hC bL hb5 hB0
 go_wp2_with fail
 have hz1 := HZ.out.1
 have hz2 := HZ.out.2
 refine bodyPost_ret (results_cell_row rfl _ _ (w.heap.size + 1 + 1) 25 #[.int .u8 25, .int .u64 0, .string ⟨#[]⟩, .slice A5 2 c5] (0, 0) _ rfl (by
  refine blk_put (cs := #[.int .u8 25, .int .u64 0, .string ⟨#[]⟩, .slice none 0 0]) ?_ 3 _ rfl
  refine blk_put (cs := #[.int .u8 25, .int .u64 0, .string ⟨#[]⟩, .slice none 0 0]) ?_ 2 _ rfl
  refine blk_put (cs := #[.int .u8 25, .int .u64 0, .string ⟨#[]⟩, .slice none 0 0]) ?_ 1 _ rfl
  refine blk_put (cs := #[.int .u8 0, .int .u64 0, .string ⟨#[]⟩, .slice none 0 0]) ?_ 0 _ rfl
  exact bR5) Tryz.underlying25 rfl (by kernel_rfl)) rfl ?_
 refine ⟨.slice A5 2 c5, rfl, ?_, ?_⟩
 ·refine R_lower_far HR.out (by omega) ?_
  exact ((((SetsBelow.nil).snoc (show w.heap.size + 1 + 1 < _ by omega) _).snoc (show w.heap.size + 1 + 1 < _ by omega) _).snoc (show w.heap.size + 1 + 1 < _ by omega) _).snoc (show w.heap.size + 1 + 1 < _ by omega) _
 ·exact below_set (below_set (below_set (below_set HB5.out (by omega)) (by omega)) (by omega)) (by omega)
end Go.Proofs.YtdilbnggedidnaaGreat.PVal
namespace Go.Proofs.YtdilbnggedidnaaGreat.PVal
open Go.RowKit Go.Shelf Go.Proofs.YtdilbnggedidnaaGreatW.PrintWords Go.Proofs.YtdilbnggedidnaaGreatW.PrintLast
set_option linter.unusedVariables false
set_option linter.unusedSimpArgs false
theorem R_two {x y : S25} {A5 A6 : Option Addr} {c5 c6 base : Nat} {w : World} (hb : base ≤ w.heap.size) (hx : k25.R 25 w base (fun _ => True) (.slice A5 x.f3.length c5) x.f3) (hy : k25.R 25 w base (fun _ => True) (.slice A6 y.f3.length c6) y.f3) :
  k25.R 25 (w.alloc (.cells #[.int .u8 x.f0, .int .u64 x.f1, .string x.f2, .slice A5 x.f3.length c5, .int .u8 y.f0, .int .u64 y.f1, .string y.f2, .slice A6 y.f3.length c6] 25)) base (fun _ => True) (.slice (some ⟨w.heap.size, 0, none⟩) 2 2) [x, y] := by
 have hm : ∀ (q : S25) (v : Value), k25.R 25 w base (fun _ => True) v q.f3 → k25.M (w.alloc (.cells #[.int .u8 x.f0, .int .u64 x.f1, .string x.f2, .slice A5 x.f3.length c5, .int .u8 y.f0, .int .u64 y.f1, .string y.f2, .slice A6 y.f3.length c6] 25)) base (fun k => True ∧ some k ≠ (Value.slice (some ⟨w.heap.size, 0, none⟩) 2 2).ownBlock) q [.int .u8 q.f0, .int .u64 q.f1, .string q.f2, v] := fun q v h =>
  k25_mkM _ base _ q (Kd.R_alloc (Kd.R_mono (Kd.R_bound h) (fun k hk => ⟨trivial, fun e => by
   have h1 := hk.2.2.1
   have : k = w.heap.size := by simpa [Value.ownBlock] using e
   omega⟩)) _)
 refine ⟨fun _ _ => trivial, ?_⟩
 refine OwnRow.lit (ps := [x, y]) w base (inner := [.int .u8 x.f0, .int .u64 x.f1, .string x.f2, .slice A5 x.f3.length c5, .int .u8 y.f0, .int .u64 y.f1, .string y.f2, .slice A6 y.f3.length c6]) ⟨rfl, fun j p hj => ?_⟩ hb (by simp)
 match j, hj with
 | 0, hj => cases hj; exact hm x _ hx
 | 1, hj => cases hj; exact hm y _ hy
 | j + 2, hj => simp at hj
theorem rdesc29_any (x y : S25) (hx : itemsN x ≤ 4294967296) (hy : itemsN y ≤ 4294967296) (A B : Option Addr) (c d : Nat) (w : World) (ha : k25.C w A x.f3.length x.f3) (hc : x.f3.length ≤ c) (hb : k25.C w B y.f3.length y.f3) (hd : y.f3.length ≤ d) :
  Calls Tryz.prog 41 #[.agg #[.int .u8 x.f0, .int .u64 x.f1, .string x.f2, .slice A x.f3.length c], .agg #[.int .u8 y.f0, .int .u64 y.f1, .string y.f2, .slice B y.f3.length d]] w fun e w' => ∃ v3_ : Value, e = .returned (.agg #[.int .u8 25, .int .u64 0, .string ⟨#[]⟩, v3_]) ∧ k25.R 25 w' w.heap.size (fun _ => True) v3_ [x, y] ∧ Below w.heap.size w w' := by
 have HA := Aside0.mk ha
 have HB := Aside0.mk hb
 have HX := Aside0.mk hx
 have HY := Aside0.mk hy
 clear ha hb hx hy
 go_enter Tryz.func41, Tryz.ntmps41
 go_wp2_with fail
 have bX : Blk (((w.alloc (.cells #[.int .u8 x.f0, .int .u64 x.f1, .string x.f2, .slice A x.f3.length c] 25)).alloc (.cells #[.int .u8 y.f0, .int .u64 y.f1, .string y.f2, .slice B y.f3.length d] 25)).alloc (.cells #[.int .u8 0, .int .u64 0, .string ⟨#[]⟩, .slice none 0 0] 25)) w.heap.size #[.int .u8 x.f0, .int .u64 x.f1, .string x.f2, .slice A x.f3.length c] 25 := ((Blk.new w #[.int .u8 x.f0, .int .u64 x.f1, .string x.f2, .slice A x.f3.length c] 25).alloc _).alloc _
 have bY : Blk (((w.alloc (.cells #[.int .u8 x.f0, .int .u64 x.f1, .string x.f2, .slice A x.f3.length c] 25)).alloc (.cells #[.int .u8 y.f0, .int .u64 y.f1, .string y.f2, .slice B y.f3.length d] 25)).alloc (.cells #[.int .u8 0, .int .u64 0, .string ⟨#[]⟩, .slice none 0 0] 25)) (w.heap.size + 1) #[.int .u8 y.f0, .int .u64 y.f1, .string y.f2, .slice B y.f3.length d] 25 := by
  have := (Blk.new (w.alloc (.cells #[.int .u8 x.f0, .int .u64 x.f1, .string x.f2, .slice A x.f3.length c] 25)) #[.int .u8 y.f0, .int .u64 y.f1, .string y.f2, .slice B y.f3.length d] 25).alloc (.cells #[.int .u8 0, .int .u64 0, .string ⟨#[]⟩, .slice none 0 0] 25); simpa using this
 have bR : Blk (((w.alloc (.cells #[.int .u8 x.f0, .int .u64 x.f1, .string x.f2, .slice A x.f3.length c] 25)).alloc (.cells #[.int .u8 y.f0, .int .u64 y.f1, .string y.f2, .slice B y.f3.length d] 25)).alloc (.cells #[.int .u8 0, .int .u64 0, .string ⟨#[]⟩, .slice none 0 0] 25)) (w.heap.size + 1 + 1) #[.int .u8 0, .int .u64 0, .string ⟨#[]⟩, .slice none 0 0] 25 := by
  have := Blk.new ((w.alloc (.cells #[.int .u8 x.f0, .int .u64 x.f1, .string x.f2, .slice A x.f3.length c] 25)).alloc (.cells #[.int .u8 y.f0, .int .u64 y.f1, .string y.f2, .slice B y.f3.length d] 25)) #[.int .u8 0, .int .u64 0, .string ⟨#[]⟩, .slice none 0 0] 25; simpa using this
 have hB0 : Below w.heap.size w (((w.alloc (.cells #[.int .u8 x.f0, .int .u64 x.f1, .string x.f2, .slice A x.f3.length c] 25)).alloc (.cells #[.int .u8 y.f0, .int .u64 y.f1, .string y.f2, .slice B y.f3.length d] 25)).alloc (.cells #[.int .u8 0, .int .u64 0, .string ⟨#[]⟩, .slice none 0 0] 25)) := below_alloc (below_alloc (below_alloc (Below.refl _ _) _) _) _
 have hz : (((w.alloc (.cells #[.int .u8 x.f0, .int .u64 x.f1, .string x.f2, .slice A x.f3.length c] 25)).alloc (.cells #[.int .u8 y.f0, .int .u64 y.f1, .string y.f2, .slice B y.f3.length d] 25)).alloc (.cells #[.int .u8 0, .int .u64 0, .string ⟨#[]⟩, .slice none 0 0] 25)).heap.size = w.heap.size + 3 := by simp
 obtain ⟨W0, hW0⟩ : ∃ W0, (((w.alloc (.cells #[.int .u8 x.f0, .int .u64 x.f1, .string x.f2, .slice A x.f3.length c] 25)).alloc (.cells #[.int .u8 y.f0, .int .u64 y.f1, .string y.f2, .slice B y.f3.length d] 25)).alloc (.cells #[.int .u8 0, .int .u64 0, .string ⟨#[]⟩, .slice none 0 0] 25)) = W0 := ⟨_, rfl⟩
 rw [hW0] at bX bY bR hB0 hz ⊢
 clear hW0
 refine start_ (n := 7) (S := fun w' => w'.cell? ⟨w.heap.size, 0, none⟩ = some (.int .u8 x.f0) ∧ w'.cell? ⟨w.heap.size, 1, none⟩ = some (.int .u64 x.f1) ∧ w'.cell? ⟨w.heap.size, 2, none⟩ = some (.string x.f2) ∧ w'.cell? ⟨w.heap.size, 3, none⟩ = some (.slice A x.f3.length c) ∧ w'.cell? ⟨w.heap.size + 1, 0, none⟩ = some (.int .u8 y.f0) ∧ w'.cell? ⟨w.heap.size + 1, 1, none⟩ = some (.int .u64 y.f1) ∧ w'.cell? ⟨w.heap.size + 1, 2, none⟩ = some (.string y.f2) ∧ w'.cell? ⟨w.heap.size + 1, 3, none⟩ = some (.slice B y.f3.length d)) (ds := [6]) #[ff,ff,ff,ff,ff,ff,ff] (by kernel_rfl) rfl rfl ⟨bX.c4.1, bX.c4.2.1, bX.c4.2.2.1, bX.c4.2.2.2, bY.c4.1, bY.c4.2.1, bY.c4.2.2.1, bY.c4.2.2.2⟩ (fun hS => ?_)
 have bX : Blk W0.drew w.heap.size #[.int .u8 x.f0, .int .u64 x.f1, .string x.f2, .slice A x.f3.length c] 25 := bX
 have bY : Blk W0.drew (w.heap.size + 1) #[.int .u8 y.f0, .int .u64 y.f1, .string y.f2, .slice B y.f3.length d] 25 := bY
 have bR : Blk W0.drew (w.heap.size + 1 + 1) #[.int .u8 0, .int .u64 0, .string ⟨#[]⟩, .slice none 0 0] 25 := bR
 have hB0 : Below w.heap.size w W0.drew := below_drew hB0
 have hz : W0.drew.heap.size = w.heap.size + 3 := hz
 generalize W0.drew = W1 at bX bY bR hB0 hz hS ⊢
 refine take_ (i := 0) (N := some 5) (v := .agg #[.int .u8 x.f0, .int .u64 x.f1, .string x.f2, .slice A x.f3.length c]) #[tt,ff,ff,ff,ff,ff,ff] rfl rfl (by kernel_rfl) (fun _ _ _ h => h) (Or.inl ⟨by rfl, ?_⟩) hS rfl ?_
 ·rintro w' ⟨e0, e1, e2, e3, e4, e5, e6, e7⟩
  go_simp
 refine take_ (i := 2) (N := some 7) (v := .agg #[.int .u8 y.f0, .int .u64 y.f1, .string y.f2, .slice B y.f3.length d]) #[tt,ff,tt,ff,ff,ff,ff] rfl rfl (by kernel_rfl) (fun _ _ _ h => h) (Or.inl ⟨by rfl, ?_⟩) hS rfl ?_
 ·rintro w' ⟨e0, e1, e2, e3, e4, e5, e6, e7⟩
  go_simp
 refine norm_ (a' := ?_) ?_ ?_
 rotate_left
 ·try simp only [Act.put, putAll, List.setIfInBounds_toArray, List.set_cons_zero, List.set_cons_succ]
  rfl
 refine one_ (i := 1) (N := some 6) #[tt,tt,tt,ff,ff,ff,ff] rfl rfl (by kernel_rfl) (by decide) (fun K hK => ?_)
 refine goes_ Tryz.func12 (by kernel_rfl) rfl #[.agg #[.int .u8 x.f0, .int .u64 x.f1, .string x.f2, .slice A x.f3.length c]] (by rfl) rfl rfl (by first | rfl | (simp; rfl)) ?_
 refine (copy16_any x HX.out A c _ (Kd.C_below HA.out hB0) hc).mono ?_
 rintro e w5 ⟨A5, c5, rfl, hm⟩
 refine ⟨_, rfl, ?_⟩
 have bX5 := bX.below hm.2
 have bY5 := bY.below hm.2
 refine hK.out _ _ ⟨bX5.c4.1, bX5.c4.2.1, bX5.c4.2.2.1, bX5.c4.2.2.2, bY5.c4.1, bY5.c4.2.1, bY5.c4.2.2.1, bY5.c4.2.2.2⟩ (fun _ => ?_)
 clear hK K
 refine norm_ (a' := ?_) ?_ ?_
 rotate_left
 ·try simp only [Act.put, putAll, List.setIfInBounds_toArray, List.set_cons_zero, List.set_cons_succ]
  rfl
 refine one_ (i := 3) (N := some 8) #[tt,tt,tt,tt,ff,ff,ff] rfl rfl (by kernel_rfl) (by decide) (fun K hK => ?_)
 refine goes_ Tryz.func12 (by kernel_rfl) rfl #[.agg #[.int .u8 y.f0, .int .u64 y.f1, .string y.f2, .slice B y.f3.length d]] (by rfl) rfl rfl (by first | rfl | (simp; rfl)) ?_
 refine (copy16_any y HY.out B d _ (Kd.C_below HB.out (below_step hB0 hm.2)) hd).mono ?_
 rintro e w6 ⟨A6, c6, rfl, hm6⟩
 refine ⟨_, rfl, ?_⟩
 have bX6 := bX5.below hm6.2
 have bY6 := bY5.below hm6.2
 refine hK.out _ _ ⟨bX6.c4.1, bX6.c4.2.1, bX6.c4.2.2.1, bX6.c4.2.2.2, bY6.c4.1, bY6.c4.2.1, bY6.c4.2.2.1, bY6.c4.2.2.2⟩ (fun _ => ?_)
 clear hK K
 refine norm_ (a' := ?_) ?_ ?_
 rotate_left
 ·try simp only [Act.put, putAll, List.setIfInBounds_toArray, List.set_cons_zero, List.set_cons_succ]
  rfl
 refine one_ (i := 4) (N := some 9) #[tt,tt,tt,tt,tt,ff,ff] rfl rfl (by kernel_rfl) (by decide) (fun K hK => ?_)
 rw [if_pos (by rfl)]
 unfold Oper.wp
 go_simp
 have hsz5 := hm.2.size
 have hsz6 := hm6.2.size
 have bR6 := (bR.below hm.2).below hm6.2
 have hRx : k25.R 25 w6 (w.heap.size + 3) (fun _ => True) (.slice A5 x.f3.length c5) x.f3 := Kd.R_lower (Kd.R_below hm.1 hm6.2) (by omega)
 have hRy : k25.R 25 w6 (w.heap.size + 3) (fun _ => True) (.slice A6 y.f3.length c6) y.f3 := Kd.R_lower hm6.1 (by omega)
 have HR := Aside0.mk (R_two (w := w6) (base := w.heap.size + 3) (by omega) hRx hRy)
 have HB7 := Aside0.mk (below_step (below_step hB0 hm.2) hm6.2)
 have bX7 := bX6.alloc (.cells #[.int .u8 x.f0, .int .u64 x.f1, .string x.f2, .slice A5 x.f3.length c5, .int .u8 y.f0, .int .u64 y.f1, .string y.f2, .slice A6 y.f3.length c6] 25)
 have bY7 := bY6.alloc (.cells #[.int .u8 x.f0, .int .u64 x.f1, .string x.f2, .slice A5 x.f3.length c5, .int .u8 y.f0, .int .u64 y.f1, .string y.f2, .slice A6 y.f3.length c6] 25)
 have bR7 := bR6.alloc (.cells #[.int .u8 x.f0, .int .u64 x.f1, .string x.f2, .slice A5 x.f3.length c5, .int .u8 y.f0, .int .u64 y.f1, .string y.f2, .slice A6 y.f3.length c6] 25)
 refine hK.out _ _ ⟨bX7.c4.1, bX7.c4.2.1, bX7.c4.2.2.1, bX7.c4.2.2.2, bY7.c4.1, bY7.c4.2.1, bY7.c4.2.2.1, bY7.c4.2.2.2⟩ (fun _ => ?_)
 clear hK K
 refine norm_ (a' := ?_) ?_ ?_
 rotate_left
 ·try simp only [Act.put, putAll, List.setIfInBounds_toArray, List.set_cons_zero, List.set_cons_succ]
  rfl
 refine pure_ (i := 5) (N := some 10) (v := .agg #[.int .u8 25, .int .u64 0, .string ⟨#[]⟩, .slice (some ⟨w6.heap.size, 0, none⟩) 2 2]) #[tt,tt,tt,tt,tt,tt,ff] rfl rfl (by kernel_rfl) (fun _ _ _ h => h) (Or.inl ⟨by rfl, ?_⟩) rfl ?_
 ·intro w'
  go_simp
 refine norm_ (a' := ?_) ?_ ?_
 rotate_left
 ·try simp only [Act.put, putAll, List.setIfInBounds_toArray, List.set_cons_zero, List.set_cons_succ]
  rfl
 refine last_ (i := 6) (N := none) #[tt,tt,tt,tt,tt,tt,tt] rfl rfl (by kernel_rfl) (by decide) (fun K hK => ?_)
 rw [if_pos (by rfl)]
 obtain ⟨q0, q1, q2, q3⟩ := bR7.c4
 have fz := bR7.fz
 have hsz : (w6.alloc (.cells #[.int .u8 x.f0, .int .u64 x.f1, .string x.f2, .slice A5 x.f3.length c5, .int .u8 y.f0, .int .u64 y.f1, .string y.f2, .slice A6 y.f3.length c6] 25)).heap.size = w6.heap.size + 1 := by simp
 have HB8 := Aside0.mk (below_alloc HB7.out (.cells #[.int .u8 x.f0, .int .u64 x.f1, .string x.f2, .slice A5 x.f3.length c5, .int .u8 y.f0, .int .u64 y.f1, .string y.f2, .slice A6 y.f3.length c6] 25))
 obtain ⟨W7, hW7⟩ : ∃ W7, w6.alloc (.cells #[.int .u8 x.f0, .int .u64 x.f1, .string x.f2, .slice A5 x.f3.length c5, .int .u8 y.f0, .int .u64 y.f1, .string y.f2, .slice A6 y.f3.length c6] 25) = W7 := ⟨_, rfl⟩
 rw [hW7] at q0 q1 q2 q3 fz bR7 HR HB8 hsz ⊢
 clear hW7
 unfold Oper.wp
 go_simp
 refine hK.out _ _ ?_
 refine done_ (by kernel_rfl) ?_
 go_wp2_with fail
 refine bodyPost_ret (results_cell_row rfl _ _ (w.heap.size + 1 + 1) 25 #[.int .u8 25, .int .u64 0, .string ⟨#[]⟩, .slice (some ⟨w6.heap.size, 0, none⟩) 2 2] (0, 0) _ rfl (by
  refine blk_put (cs := #[.int .u8 25, .int .u64 0, .string ⟨#[]⟩, .slice none 0 0]) ?_ 3 _ rfl
  refine blk_put (cs := #[.int .u8 25, .int .u64 0, .string ⟨#[]⟩, .slice none 0 0]) ?_ 2 _ rfl
  refine blk_put (cs := #[.int .u8 25, .int .u64 0, .string ⟨#[]⟩, .slice none 0 0]) ?_ 1 _ rfl
  refine blk_put (cs := #[.int .u8 0, .int .u64 0, .string ⟨#[]⟩, .slice none 0 0]) ?_ 0 _ rfl
  exact bR7) Tryz.underlying25 rfl (by kernel_rfl)) rfl ?_
 refine ⟨.slice (some ⟨w6.heap.size, 0, none⟩) 2 2, rfl, ?_, ?_⟩
 ·refine R_lower_far HR.out (by omega) ?_
  exact ((((SetsBelow.nil).snoc (show w.heap.size + 1 + 1 < _ by omega) _).snoc (show w.heap.size + 1 + 1 < _ by omega) _).snoc (show w.heap.size + 1 + 1 < _ by omega) _).snoc (show w.heap.size + 1 + 1 < _ by omega) _
 ·exact below_set (below_set (below_set (below_set HB8.out (by omega)) (by omega)) (by omega)) (by omega)
end Go.Proofs.YtdilbnggedidnaaGreat.PVal
namespace Go.Proofs.YtdilbnggedidnaaGreat.PVal
open Go.RowKit
set_option linter.unusedVariables false
set_option linter.unusedSimpArgs false
def Evt {α : Type} (g : Nat → Option α) (r : α) : Prop := ∃ k0, ∀ k, k0 ≤ k → g k = some r
theorem Evt.const {α : Type} (r : α) : Evt (fun _ => some r) r := ⟨0, fun _ _ => rfl⟩
theorem Evt.step {α : Type} {f b : Nat → Option α} {r : α} (h : Evt b r) (hf : ∀ k, f (k + 1) = b k) : Evt f r := by
 obtain ⟨k0, h⟩ := h
 refine ⟨k0 + 1, fun k hk => ?_⟩
 obtain ⟨k, rfl⟩ : ∃ j, k = j + 1 := ⟨k - 1, by omega⟩
 rw [hf]; exact h k (by omega)
theorem Evt.bind {α β : Type} {g : Nat → Option α} {h : Nat → α → Option β} {a : α} {r : β} (hg : Evt g a) (hh : Evt (fun k => h k a) r) : Evt (fun k => (g k).bind (h k)) r := by
 obtain ⟨k0, h0⟩ := hg
 obtain ⟨k1, h1⟩ := hh
 refine ⟨max k0 k1, fun k hk => ?_⟩
 show (g k).bind (h k) = some r
 rw [h0 k (by omega)]; exact h1 k (by omega)
theorem Evt.get {α : Type} {g : Nat → Option α} {r : α} (h : Evt g r) : ∃ k, g k = some r := h.imp fun k0 h0 => h0 k0 (Nat.le_refl _)
theorem Evt.congr {α : Type} {f g : Nat → Option α} {r : α} (h : Evt g r) (he : ∀ k, f k = g k) : Evt f r := h.imp fun k0 h0 k hk => (he k).trans (h0 k hk)
theorem same_e (x y : S25) (hx : itemsN x ≤ 4294967296) : Evt (fun k => bellwetherref04_Same.f k x.f0 x.f1 x.f2 x.f3 y.f0 y.f1 y.f2 y.f3) (veq x y) := ⟨3 * itemsN x, fun k hk => same_f x y k hk hx⟩
theorem veq_comm' (x y : S25) : veq x y = veq y x := by
 rw [Bool.eq_iff_iff, veq_iff, veq_iff]; exact eq_comm
def zz (n : Int) (s : ByteArray) : Bool := (n == 0) && (s.toList == ([] : List UInt8))
theorem zz_e (n : Int) (s : ByteArray) : (if n = 0 then (some (s.toList == ([] : List UInt8))) else (some false)) = some (zz n s) := by
 unfold zz
 by_cases h : n = 0
 ·rw [if_pos h, beq_iff_eq.2 h]; rfl
 ·rw [if_neg h, beq_eq_false_iff_ne.2 h]; rfl
theorem zz_of {k n : Int} {s : ByteArray} (hk : 22 ≤ k) : (numB k n && txtB k s) = zz n s := by
 unfold numB txtB zz
 rw [if_neg (by omega), if_neg (by omega), if_neg (by omega), if_neg (by omega), if_neg (by omega), if_neg (by omega), if_neg (by omega), if_neg (by omega), if_neg (by omega), if_neg (by omega), if_neg (by omega), if_neg (by omega), if_neg (by omega)]
 rw [if_neg (by omega), if_neg (by omega), if_neg (by omega), if_neg (by omega), if_neg (by omega), if_neg (by omega), if_neg (by omega)]
 cases s.toList <;> rfl
theorem may_l3 (n0 : Int) (s : ByteArray) (kk : Int) (l : List S25) (hm : l.length ≤ 4294967296) (h0 : S25) (t : List S25) (hl : l = h0 :: t) (hs : itemsN h0 ≤ 4294967296) (hd : ∀ x ∈ l, ∃ m, dsc m x) (dh : dsc (itemsN h0) h0) :
  ∀ (m i : Nat), i + m = l.length → 1 ≤ i → Evt (fun k => bellwetherref04_may.l3 k (l.length : Int) (i : Int) kk n0 s l) ((l.drop i).all (alikeB h0) && zz n0 s)
 | 0, i, hi, h1 => by
  refine Evt.step (b := fun k => some (zz n0 s)) (by rw [List.drop_of_length_le (by omega)]; exact Evt.const _) fun k => ?_
  rw [bellwetherref04_may.l3, if_neg (by omega), zz_e]
 | m + 1, i, hi, h1 => by
  have hlt : i < l.length := by omega
  have hdr : l.drop i = rd_T25 l (i : Int) :: l.drop (i + 1) := by
   have := drop_rd (xs := l) (i := (i : Int)) (by omega) (by omega)
   simpa using this
  obtain ⟨md, hmd⟩ := hd _ (rd_mem (xs := l) (i := (i : Int)) (by omega) (by omega))
  have h00 : rd_T25 l 0 = h0 := by rw [hl]; rfl
  have ha : Evt (fun k => bellwetherref04_alike.f k h0.f0 h0.f1 h0.f2 h0.f3 (rd_T25 l (i : Int)).f0 (rd_T25 l (i : Int)).f1 (rd_T25 l (i : Int)).f2 (rd_T25 l (i : Int)).f3) (alikeB h0 (rd_T25 l (i : Int))) :=
   ⟨2 * itemsN h0 + 3 * itemsN h0, fun k hk => ralike_f (itemsN h0) k h0 _ md dh hmd hk hs⟩
  have ih := may_l3 n0 s kk l hm h0 t hl hs hd dh m (i + 1) (by omega) (by omega)
  refine Evt.step (b := fun k => (bellwetherref04_alike.f k h0.f0 h0.f1 h0.f2 h0.f3 (rd_T25 l (i : Int)).f0 (rd_T25 l (i : Int)).f1 (rd_T25 l (i : Int)).f2 (rd_T25 l (i : Int)).f3).bind fun t109 => (if t109 = true then (bellwetherref04_may.l3 k (l.length : Int) ((i + 1 : Nat) : Int) kk n0 s l) else (some false))) ?_ fun k => ?_
  ·refine Evt.bind ha ?_
   rw [hdr, List.all_cons]
   cases alikeB h0 (rd_T25 l (i : Int)) with
   | true => simpa using ih
   | false => exact Evt.const _
  ·rw [bellwetherref04_may.l3, if_pos (by omega), if_pos (by omega), if_pos (by omega), if_pos (by omega), h00, w64 (by omega) (by omega)]
   rfl
theorem may_l2 (n0 : Int) (s : ByteArray) (kk : Int) (l : List S25) (hm : l.length ≤ 4294967296) (hi : ∀ x ∈ l, itemsN x ≤ 4294967296) (a : Nat) (ha : 2 * a < l.length) (r : Bool) (h1 : Evt (fun k => bellwetherref04_may.l1 k (l.length : Int) ((2 * (a + 1) : Nat) : Int) kk n0 s l) r) :
  ∀ (m b : Nat), b + m = a → Evt (fun k => bellwetherref04_may.l2 k (l.length : Int) ((2 * a : Nat) : Int) ((2 * b : Nat) : Int) kk n0 s l) (!((List.range' b m).any fun j => veq (rd_T25 l ((2 * a : Nat) : Int)) (rd_T25 l ((2 * j : Nat) : Int))) && r)
 | 0, b, hb => by
  refine Evt.step (b := fun k => bellwetherref04_may.l1 k (l.length : Int) ((2 * (a + 1) : Nat) : Int) kk n0 s l) (by simpa using h1) fun k => ?_
  rw [bellwetherref04_may.l2, if_neg (by omega), w64 (by omega) (by omega), show ((2 * a : Nat) : Int) + 2 = ((2 * (a + 1) : Nat) : Int) by omega]
 | m + 1, b, hb => by
  have ih := may_l2 n0 s kk l hm hi a ha r h1 m (b + 1) (by omega)
  refine Evt.step (b := fun k => (bellwetherref04_Same.f k (rd_T25 l ((2 * a : Nat) : Int)).f0 (rd_T25 l ((2 * a : Nat) : Int)).f1 (rd_T25 l ((2 * a : Nat) : Int)).f2 (rd_T25 l ((2 * a : Nat) : Int)).f3 (rd_T25 l ((2 * b : Nat) : Int)).f0 (rd_T25 l ((2 * b : Nat) : Int)).f1 (rd_T25 l ((2 * b : Nat) : Int)).f2 (rd_T25 l ((2 * b : Nat) : Int)).f3).bind fun t106 => (if t106 = true then (some false) else (bellwetherref04_may.l2 k (l.length : Int) ((2 * a : Nat) : Int) ((2 * (b + 1) : Nat) : Int) kk n0 s l))) ?_ fun k => ?_
  ·refine Evt.bind (same_e _ _ (hi _ (rd_mem (by omega) (by omega)))) ?_
   rw [List.range'_succ, List.any_cons]
   cases veq (rd_T25 l ((2 * a : Nat) : Int)) (rd_T25 l ((2 * b : Nat) : Int)) with
   | true => exact Evt.const _
   | false => simpa using ih
  ·rw [bellwetherref04_may.l2, if_pos (by omega), if_pos (by omega), if_pos (by omega), if_pos (by omega), if_pos (by omega), w64 (by omega) (by omega), show ((2 * b : Nat) : Int) + 2 = ((2 * (b + 1) : Nat) : Int) by omega]
def keysOf (l : List S25) : List S25 := (pairsOf l).map (·.1)
theorem keysOf_get {l : List S25} {k : Nat} (h : 2 * k + 1 < l.length) : (keysOf l)[k]? = some (rd_T25 l ((2 * k : Nat) : Int)) := by
 unfold keysOf
 rw [List.getElem?_map, pairsOf_get l k h]
 rfl
theorem keysOf_length (l : List S25) : (keysOf l).length = l.length / 2 := by unfold keysOf; rw [List.length_map, pairsOf_length]
theorem keys_any {l : List S25} {a : Nat} (ha : 2 * a < l.length) (he : l.length % 2 = 0) (x : S25) : ((keysOf l).take a).any (fun s => veq s x) = (List.range' 0 a).any fun j => veq x (rd_T25 l ((2 * j : Nat) : Int)) := by
 have : (keysOf l).take a = (List.range' 0 a).map fun j => rd_T25 l ((2 * j : Nat) : Int) := by
  apply List.ext_getElem?
  intro j
  rw [List.getElem?_take, List.getElem?_map]
  by_cases hj : j < a
  ·rw [if_pos hj, keysOf_get (by omega), List.getElem?_range' (by omega)]
   simp
  ·rw [if_neg hj, List.getElem?_eq_none (by simp; omega)]
   rfl
 rw [this, List.any_map]
 congr 1
 funext j
 exact veq_comm' _ _
theorem may_l1 (n0 : Int) (s : ByteArray) (kk : Int) (l : List S25) (hm : l.length ≤ 4294967296) (hi : ∀ x ∈ l, itemsN x ≤ 4294967296) (he : l.length % 2 = 0) :
  ∀ (m a : Nat), 2 * (a + m) = l.length → Evt (fun k => bellwetherref04_may.l1 k (l.length : Int) ((2 * a : Nat) : Int) kk n0 s l) (unlikeL ((keysOf l).take a) ((keysOf l).drop a) && zz n0 s)
 | 0, a, ha => by
  refine Evt.step (b := fun k => some (zz n0 s)) (by rw [List.drop_of_length_le (by rw [keysOf_length]; omega)]; exact Evt.const _) fun k => ?_
  rw [bellwetherref04_may.l1, if_neg (by omega), zz_e]
 | m + 1, a, ha => by
  have ih := may_l1 n0 s kk l hm hi he m (a + 1) (by omega)
  have h2 := may_l2 n0 s kk l hm hi a (by omega) _ ih a 0 (by omega)
  have h : Evt (fun k => bellwetherref04_may.l1 k (l.length : Int) ((2 * a : Nat) : Int) kk n0 s l) _ := Evt.step h2 (fun k => by
   rw [bellwetherref04_may.l1, if_pos (by omega)]
   rfl)
  have hlt : a < (keysOf l).length := by rw [keysOf_length]; omega
  have hk := keysOf_get (l := l) (k := a) (by omega)
  rw [List.getElem?_eq_getElem hlt] at hk
  have hkk := Option.some.inj hk
  rw [List.drop_eq_getElem_cons hlt, hkk, unlikeL, keys_any (by omega) he]
  rw [List.take_succ_eq_append_getElem hlt, hkk] at h
  rw [Bool.and_assoc]
  exact h
theorem alikeF_refl : ∀ (n : Nat) (a : S25), dsc n a → alikeF n a a = true
 | 0, _, h => h.elim
 | n + 1, a, h => by
  unfold alikeF
  by_cases h25 : a.f0 = 25
  ·obtain ⟨x, y, he, hy⟩ := h h25
   rw [if_pos ⟨h25, h25⟩, he, veq_refl]
   exact alikeF_refl n y hy
  ·rw [if_neg (fun h => h25 h.1)]
   exact beq_self_eq_true _
theorem called_f (a b : Int) (s : ByteArray) (l : List S25) : bellwetherref04_Called.f a b s l = some (decide (a = 6) || decide (a = 21)) := by
 unfold bellwetherref04_Called.f
 by_cases h6 : a = 6
 ·simp [h6]
 ·by_cases h21 : a = 21 <;> simp [h6, h21]
theorem may_l0 (n0 : Int) (s : ByteArray) (kk : Int) (l : List S25) (hm : l.length ≤ 4294967296) (hk : ∀ x ∈ l, Evt (fun k => bellwetherref04_may.f k x.f0 x.f1 x.f2 x.f3) (mayB x)) (r : Bool) (hr : mayL l = true → Evt (fun k => bellwetherref04_may.l0 k (l.length : Int) kk n0 s l) r) :
  ∀ (m i : Nat), i + m = l.length → (l.take i).all mayB = true → Evt (fun k => bellwetherref04_may.l0 k (i : Int) kk n0 s l) ((l.drop i).all mayB && r)
 | 0, i, hi, ht => by
  obtain rfl : i = l.length := by omega
  rw [List.take_length] at ht
  rw [List.drop_length]
  exact hr (by rw [mayL_all]; exact ht)
 | m + 1, i, hi, ht => by
  have hlt : i < l.length := by omega
  have hdr : l.drop i = rd_T25 l (i : Int) :: l.drop (i + 1) := by
   have := drop_rd (xs := l) (i := (i : Int)) (by omega) (by omega)
   simpa using this
  have htk : l.take (i + 1) = l.take i ++ [rd_T25 l (i : Int)] := by
   have := take_rd (xs := l) (i := (i : Int)) (by omega) (by omega)
   simpa using this
  refine Evt.step (b := fun k => (bellwetherref04_may.f k (rd_T25 l (i : Int)).f0 (rd_T25 l (i : Int)).f1 (rd_T25 l (i : Int)).f2 (rd_T25 l (i : Int)).f3).bind fun t103 => (if t103 = true then (bellwetherref04_may.l0 k ((i + 1 : Nat) : Int) kk n0 s l) else (some false))) ?_ fun k => ?_
  ·refine Evt.bind (hk _ (rd_mem (by omega) (by omega))) ?_
   rw [hdr, List.all_cons]
   cases hb : mayB (rd_T25 l (i : Int)) with
   | true =>
    have ih := may_l0 n0 s kk l hm hk r hr m (i + 1) (by omega) (by rw [htk, List.all_append, ht, List.all_cons, hb]; rfl)
    simpa using ih
   | false => exact Evt.const _
  ·rw [bellwetherref04_may.l0, if_pos (by omega), if_pos (by omega), w64 (by omega) (by omega)]
   rfl
theorem may_e : ∀ (n : Nat) (x : S25), itemsN x ≤ n → itemsN x ≤ 4294967296 → okV x → Evt (fun k => bellwetherref04_may.f k x.f0 x.f1 x.f2 x.f3) (mayB x)
 | 0, x, h, _, _ => absurd (itemsN_pos x) (by omega)
 | n + 1, x, h, hs, ho => by
  have hN := itemsN_eq x
  have hlen := itemsL_length x.f3
  have hm : x.f3.length ≤ 4294967296 := by omega
  have hob := ho
  rw [okV_eq] at ho
  obtain ⟨⟨hn, ht⟩, hol⟩ := ho
  have hi : ∀ y ∈ x.f3, itemsN y ≤ 4294967296 := fun y hy => by have := itemsL_mem hy; omega
  have hk : ∀ y ∈ x.f3, Evt (fun k => bellwetherref04_may.f k y.f0 y.f1 y.f2 y.f3) (mayB y) := fun y hy => may_e n y (by have := itemsL_mem hy; omega) (hi y hy) (okL_mem hol hy)
  have hall : mayB x = (x.f3.all mayB && (decide (1 ≤ x.f0 ∧ x.f0 ≤ 25) && ((numB x.f0 x.f1 && txtB x.f0 x.f2) && famB x))) := by
   rw [mayB_eq, mayL_all]
   cases x.f3.all mayB <;> cases decide (1 ≤ x.f0 ∧ x.f0 ≤ 25) <;> rfl
  rw [hall]
  refine Evt.step (b := fun k => bellwetherref04_may.l0 k 0 x.f0 x.f1 x.f2 x.f3) ?_ fun k => rfl
  have := may_l0 x.f1 x.f2 x.f0 x.f3 hm hk (decide (1 ≤ x.f0 ∧ x.f0 ≤ 25) && ((numB x.f0 x.f1 && txtB x.f0 x.f2) && famB x)) ?_ x.f3.length 0 (by omega) (by rw [List.take_zero]; rfl)
  ·rw [List.drop_zero] at this
   exact this
  intro hml
  rw [mayL_all] at hml
  by_cases h22 : x.f0 = 22
  ·have hr : (decide (1 ≤ x.f0 ∧ x.f0 ≤ 25) && ((numB x.f0 x.f1 && txtB x.f0 x.f2) && famB x)) = zz x.f1 x.f2 := by
    rw [zz_of (by omega), decide_eq_true (by omega)]
    unfold famB
    rw [if_pos h22, Bool.and_true, Bool.true_and]
   rw [hr]
   refine Evt.step (Evt.const (zz x.f1 x.f2)) fun k => ?_
   rw [bellwetherref04_may.l0, if_neg (by omega), if_pos h22, zz_e]
  by_cases h23 : x.f0 = 23
  ·have hr : (decide (1 ≤ x.f0 ∧ x.f0 ≤ 25) && ((numB x.f0 x.f1 && txtB x.f0 x.f2) && famB x)) = (zz x.f1 x.f2 && (decide (x.f3.length % 2 = 0) && unlikeB x)) := by
    rw [zz_of (by omega), decide_eq_true (by omega)]
    unfold famB
    rw [if_neg h22, if_pos h23, Bool.true_and]
   rw [hr]
   by_cases he : x.f3.length % 2 = 0
   ·have h1 := may_l1 x.f1 x.f2 x.f0 x.f3 hm hi he (x.f3.length / 2) 0 (by omega)
    rw [List.take_zero, List.drop_zero] at h1
    rw [decide_eq_true he, Bool.true_and, Bool.and_comm]
    refine Evt.step h1 fun k => ?_
    rw [bellwetherref04_may.l0, if_neg (by omega), if_neg h22, if_pos h23, if_neg (by omega)]
    rfl
   ·rw [decide_eq_false he, Bool.false_and, Bool.and_false]
    refine Evt.step (Evt.const false) fun k => ?_
    rw [bellwetherref04_may.l0, if_neg (by omega), if_neg h22, if_pos h23, if_pos (by omega)]
  by_cases h24 : x.f0 = 24
  ·have hr : (decide (1 ≤ x.f0 ∧ x.f0 ≤ 25) && ((numB x.f0 x.f1 && txtB x.f0 x.f2) && famB x)) = (zz x.f1 x.f2 && arrB x.f3) := by
    rw [zz_of (by omega), decide_eq_true (by omega)]
    unfold famB
    rw [if_neg h22, if_neg h23, if_pos h24, Bool.true_and]
   rw [hr]
   rcases hx : x.f3 with _ | ⟨h0, tl⟩
   ·show Evt _ (zz x.f1 x.f2 && true)
    rw [Bool.and_true]
    refine Evt.step (b := fun k => bellwetherref04_may.l3 k 0 1 x.f0 x.f1 x.f2 []) ?_ fun k => ?_
    ·refine Evt.step (Evt.const (zz x.f1 x.f2)) fun k => ?_
     rw [bellwetherref04_may.l3, if_neg (by omega), zz_e]
    ·rw [bellwetherref04_may.l0, if_neg (by simp), if_neg h22, if_neg h23, if_pos h24]
     rfl
   ·rw [hx] at hml hi hm
    have hd : ∀ y ∈ h0 :: tl, ∃ m, dsc m y := fun y hy => ⟨itemsN y, mayB_dsc _ y (Nat.le_refl _) (List.all_eq_true.1 hml y hy)⟩
    have hd0 := mayB_dsc _ h0 (Nat.le_refl _) (List.all_eq_true.1 hml h0 List.mem_cons_self)
    have h3 := may_l3 x.f1 x.f2 x.f0 (h0 :: tl) hm h0 tl rfl (hi h0 List.mem_cons_self) hd hd0 tl.length 1 (by simp; omega) (Nat.le_refl _)
    have hself : alikeB h0 h0 = true := alikeF_refl (itemsN h0) h0 hd0
    rw [Bool.and_comm]
    show Evt _ ((h0 :: tl).all (alikeB h0) && _)
    rw [List.all_cons, hself, Bool.true_and]
    rw [List.drop_succ_cons, List.drop_zero] at h3
    refine Evt.step h3 fun k => ?_
    rw [bellwetherref04_may.l0, if_neg (by omega), if_neg h22, if_neg h23, if_pos h24]
    rfl
  by_cases h25 : x.f0 = 25
  ·have hr : (decide (1 ≤ x.f0 ∧ x.f0 ≤ 25) && ((numB x.f0 x.f1 && txtB x.f0 x.f2) && famB x)) = (zz x.f1 x.f2 && (decide (x.f3.length = 2) && (decide ((rd_T25 x.f3 0).f0 = 6) || decide ((rd_T25 x.f3 0).f0 = 21)))) := by
    rw [zz_of (by omega), decide_eq_true (by omega)]
    unfold famB
    rw [if_neg h22, if_neg h23, if_neg h24, if_pos h25, Bool.true_and]
   rw [hr]
   refine Evt.step (b := fun _ => some _) (Evt.const _) fun k => ?_
   rw [bellwetherref04_may.l0, if_neg (by omega), if_neg h22, if_neg h23, if_neg h24, if_pos h25]
   by_cases h2 : x.f3.length = 2
   ·rw [if_pos (by omega), if_pos (by omega), decide_eq_true h2, Bool.true_and, called_f]
    show (if _ = true then _ else _) = _
    cases (decide ((rd_T25 x.f3 0).f0 = 6) || decide ((rd_T25 x.f3 0).f0 = 21)) with
    | true => rw [if_pos rfl, zz_e, Bool.and_true]
    | false => rw [if_neg (by simp), Bool.and_false]
   ·rw [if_neg (by omega), decide_eq_false h2, Bool.false_and, Bool.and_false]
  ·have hf : famB x = decide (x.f3.length = 0) := by unfold famB; rw [if_neg h22, if_neg h23, if_neg h24, if_neg h25]
   refine Evt.step (b := fun _ => some _) (Evt.const _) fun k => ?_
   rw [bellwetherref04_may.l0, if_neg (by omega), if_neg h22, if_neg h23, if_neg h24, if_neg h25, bellwetherref04_plain.f, if_pos ⟨hn, ht⟩, hf]
   show some _ = some _
   congr 1
   unfold plainB
   by_cases hr1 : 1 ≤ x.f0 ∧ x.f0 ≤ 25
   ·rw [decide_eq_true hr1, decide_eq_true (show 1 ≤ x.f0 ∧ x.f0 ≤ 21 by omega)]
    show (decide (x.f3.length = 0) && true && numB x.f0 x.f1 && txtB x.f0 x.f2) = _
    cases decide (x.f3.length = 0) <;> cases numB x.f0 x.f1 <;> cases txtB x.f0 x.f2 <;> rfl
   ·rw [decide_eq_false hr1, decide_eq_false (show ¬ (1 ≤ x.f0 ∧ x.f0 ≤ 21) by omega)]
    cases decide (x.f3.length = 0) <;> rfl
end Go.Proofs.YtdilbnggedidnaaGreat.PVal
namespace Go.Proofs.YtdilbnggedidnaaGreat.PVal
open Go.RowKit Go.Proofs.YtdilbnggedidnaaGreatW.PrintWords Go.Proofs.YtdilbnggedidnaaGreatW.PrintLast
set_option linter.unusedVariables false
set_option linter.unusedSimpArgs false
theorem S25.eta' (x : S25) : (⟨x.f0, x.f1, x.f2, x.f3⟩ : S25) = x := by cases x; rfl
def rightB (x : S25) : Bool := (decide (depthN x ≤ 16) && decide (itemsN x ≤ 1024)) && mayB x
theorem right17_any (x : S25) (hs : itemsN x ≤ 4294967296) (ho : okV x) (A : Option Addr) (c : Nat) (w : World) (ha : k25.C w A x.f3.length x.f3) (hc : x.f3.length ≤ c) :
  Calls Tryz.prog 44 #[.agg #[.int .u8 x.f0, .int .u64 x.f1, .string x.f2, .slice A x.f3.length c]] w fun e w' => e = .returned (.bool (rightB x)) ∧ Below w.heap.size w w' := by
 refine value_Right.calls x.f0 x.f1 x.f2 A c x.f3 _ w ha hc ?_
 unfold value_Right.f value_Depth.f value_Items.f value_may.f rightB
 rw [S25.eta', if_pos hs]
 show (if (depthN x : Int) ≤ 16 then _ else _) = _
 by_cases h1 : depthN x ≤ 16
 ·rw [if_pos (by omega), if_pos hs, decide_eq_true h1]
  show (if (itemsN x : Int) ≤ 1024 then _ else _) = _
  by_cases h2 : itemsN x ≤ 1024
  ·rw [if_pos (by omega), if_pos ⟨hs, okVb_iff.2 ho⟩, decide_eq_true h2]; rfl
  ·rw [if_neg (by omega), decide_eq_false h2]; rfl
 ·rw [if_neg (by omega), decide_eq_false h1]; rfl
theorem right18_any (x : S25) (hs : itemsN x ≤ 4294967296) (ho : okV x) (A : Option Addr) (c : Nat) (w : World) (ha : k25.C w A x.f3.length x.f3) (hc : x.f3.length ≤ c) :
  Calls Tryz.prog 52 #[.agg #[.int .u8 x.f0, .int .u64 x.f1, .string x.f2, .slice A x.f3.length c]] w fun e w' => e = .returned (.bool (rightB x)) ∧ Below w.heap.size w w' := by
 have he : Evt (fun k => bellwetherref04_Right.f k x.f0 x.f1 x.f2 x.f3) (rightB x) := by
  unfold bellwetherref04_Right.f rightB
  refine Evt.bind (a := (itemsN x : Int)) ⟨2 * itemsN x, fun k hk => items_f x k hk hs⟩ ?_
  by_cases h2 : itemsN x ≤ 1024
  ·refine Evt.congr (g := fun k => (bellwetherref04_Depth.f k x.f0 x.f1 x.f2 x.f3).bind fun t115 => (if t115 ≤ 16 then ((bellwetherref04_may.f k x.f0 x.f1 x.f2 x.f3).bind fun t116 => (some t116)) else (some false))) ?_ (fun k => if_pos (by omega))
   refine Evt.bind (a := (depthN x : Int)) ⟨2 * itemsN x, fun k hk => depth_f x k hk hs⟩ ?_
   rw [decide_eq_true h2, Bool.and_true]
   by_cases h1 : depthN x ≤ 16
   ·refine Evt.congr (g := fun k => (bellwetherref04_may.f k x.f0 x.f1 x.f2 x.f3).bind fun t116 => (some t116)) ?_ (fun k => if_pos (by omega))
    rw [decide_eq_true h1, Bool.true_and]
    exact Evt.bind (may_e _ x (Nat.le_refl _) hs ho) (Evt.const _)
   ·rw [decide_eq_false h1]
    exact Evt.congr (Evt.const _) (fun k => if_neg (by omega))
  ·rw [decide_eq_false h2, Bool.and_false]
   exact Evt.congr (Evt.const _) (fun k => if_neg (by omega))
 obtain ⟨k, hk⟩ := he.get
 exact bellwetherref04_Right.calls k x.f0 x.f1 x.f2 A c x.f3 _ w ha hc hk
end Go.Proofs.YtdilbnggedidnaaGreat.PVal
namespace Go.Proofs.YtdilbnggedidnaaGreat.PVal
open Go.RowKit Go.Proofs.YtdilbnggedidnaaGreatW.PrintWords Go.Proofs.YtdilbnggedidnaaGreatW.PrintLast
set_option linter.unusedVariables false
set_option linter.unusedSimpArgs false
structure Tn (ok : Nat → Prop) (w w' : World) : Prop where
 os : w'.os = w.os
 tape : w'.tape = w.tape
 output : w'.output = w.output
 size : w'.heap.size = w.heap.size
 off : ∀ k, ¬ ok k → w'.heap[k]? = w.heap[k]?
 on : ∀ (k : Nat) (cur : Array Value) (t : TypeId) (f : Nat × Nat), w.heap[k]? = some (Obj.cells cur t f) → ∃ cur' : Array Value, w'.heap[k]? = some (Obj.cells cur' t f) ∧ cur'.size = cur.size ∧ ∀ j : Nat, cur'[j]? = cur[j]? ∨ ∃ a a' : Int, cur[j]? = some (Value.int .u64 a) ∧ cur'[j]? = some (Value.int .u64 a')
theorem Tn.refl (ok : Nat → Prop) (w : World) : Tn ok w w := ⟨rfl, rfl, rfl, rfl, fun _ _ => rfl, fun k cur t f h => ⟨cur, h, rfl, fun _ => .inl rfl⟩⟩
theorem Tn.trans {ok : Nat → Prop} {a b c : World} (h : Tn ok a b) (k : Tn ok b c) : Tn ok a c :=
 ⟨k.os.trans h.os, k.tape.trans h.tape, k.output.trans h.output, k.size.trans h.size, fun i hi => (k.off i hi).trans (h.off i hi), fun i cur t f hc => by
  obtain ⟨c1, h1, s1, e1⟩ := h.on i cur t f hc
  obtain ⟨c2, h2, s2, e2⟩ := k.on i c1 t f h1
  refine ⟨c2, h2, s2.trans s1, fun j => ?_⟩
  rcases e1 j with e | ⟨a, a', ha, ha'⟩ <;> rcases e2 j with e' | ⟨b, b', hb, hb'⟩
  ·exact .inl (e'.trans e)
  ·exact .inr ⟨b, b', e ▸ hb, hb'⟩
  ·exact .inr ⟨a, a', ha, e'.trans ha'⟩
  ·exact .inr ⟨a, b', ha, hb'⟩⟩
theorem Tn.set {ok : Nat → Prop} {w w' : World} (h : Tn ok w w') {g j : Nat} {cur : Array Value} {t : TypeId} {a : Int} (hg : ok g) (hb : w'.heap[g]? = some (.cells cur t (0, 0))) (hj : cur[j]? = some (.int .u64 a)) (a' : Int) : Tn ok w (w'.setCell ⟨g, j, none⟩ (.int .u64 a')) := by
 refine h.trans ⟨rfl, rfl, rfl, by simp [World.setCell], fun k hk => Below.heap_setCell _ _ _ k (fun e => hk (by rw [e]; exact hg)), fun k cur2 t2 f2 hc => ?_⟩
 by_cases hkg : k = g
 ·subst hkg
  rw [hb] at hc
  cases hc
  refine ⟨cur.setIfInBounds j (.int .u64 a'), blk_put hb j _ rfl, by simp, fun i => ?_⟩
  by_cases hij : i = j
  ·subst hij
   have hlt : i < cur.size := (Array.getElem?_eq_some_iff.1 hj).1
   exact .inr ⟨a, a', hj, by simp [hlt]⟩
  ·exact .inl (Array.getElem?_setIfInBounds_ne (fun e => hij e.symm))
 ·exact ⟨cur2, (Below.heap_setCell _ _ _ k hkg).trans hc, rfl, fun _ => .inl rfl⟩
theorem Tn.below {ok : Nat → Prop} {w w' : World} (h : Tn ok w w') {b : Nat} (hb : ∀ k, ok k → b ≤ k) : Below b w w' := ⟨h.os, h.tape, h.output, by rw [h.size]; exact Nat.le_refl _, fun k hk => h.off k (fun ho => by have := hb k ho; omega)⟩
end Go.Proofs.YtdilbnggedidnaaGreat.PVal
namespace Go.Proofs.YtdilbnggedidnaaGreat.PVal
open Go.RowKit Go.Shelf Go.Proofs.YtdilbnggedidnaaGreatW.PrintWords Go.Proofs.YtdilbnggedidnaaGreatW.PrintLast
set_option linter.unusedVariables false
set_option linter.unusedSimpArgs false
theorem number23_any (k n : Int) (w : World) : Calls Tryz.prog 18 #[.int .u8 k, .int .u64 n] w fun e w' => e = .returned (.agg #[.int .u8 k, .int .u64 n, .string ⟨#[]⟩, .slice none 0 0]) ∧ Below w.heap.size w w' := by
 go_enter Tryz.func18, Tryz.ntmps18
 go_wp2_with fail
 exact bodyPost_ret (results_cell_row rfl _ _ w.heap.size 25 #[.int .u8 k, .int .u64 n, .string ⟨#[]⟩, .slice none 0 0] (0, 0) _ rfl (blk_new _ _) Tryz.underlying25 rfl (by kernel_rfl)) rfl ⟨rfl, below_alloc (Below.refl _ _) _⟩
theorem text24_any (k : Int) (s : ByteArray) (w : World) : Calls Tryz.prog 22 #[.int .u8 k, .string s] w fun e w' => e = .returned (.agg #[.int .u8 k, .int .u64 0, .string s, .slice none 0 0]) ∧ Below w.heap.size w w' := by
 go_enter Tryz.func22, Tryz.ntmps22
 go_wp2_with fail
 exact bodyPost_ret (results_cell_row rfl _ _ w.heap.size 25 #[.int .u8 k, .int .u64 0, .string s, .slice none 0 0] (0, 0) _ rfl (blk_new _ _) Tryz.underlying25 rfl (by kernel_rfl)) rfl ⟨rfl, below_alloc (Below.refl _ _) _⟩
theorem null26_any (w : World) : Calls Tryz.prog 20 #[] w fun e w' => e = .returned (.agg #[.int .u8 1, .int .u64 0, .string ⟨#[]⟩, .slice none 0 0]) ∧ Below w.heap.size w w' := by
 go_enter Tryz.func20, Tryz.ntmps20
 go_wp2_with fail
 exact bodyPost_ret (results_cell_row rfl _ _ w.heap.size 25 #[.int .u8 1, .int .u64 0, .string ⟨#[]⟩, .slice none 0 0] (0, 0) _ rfl (blk_new _ _) Tryz.underlying25 rfl (by kernel_rfl)) rfl ⟨rfl, below_alloc (Below.refl _ _) _⟩
def vNul : S25 := ⟨1, 0, ⟨#[]⟩, []⟩
def vTru : S25 := ⟨2, 1, ⟨#[]⟩, []⟩
end Go.Proofs.YtdilbnggedidnaaGreat.PVal
namespace Go.Proofs.YtdilbnggedidnaaGreat.PVal
open Go.RowKit Go.Shelf Go.Proofs.YtdilbnggedidnaaGreatW.PrintWords Go.Proofs.YtdilbnggedidnaaGreatW.PrintLast
set_option linter.unusedVariables false
set_option linter.unusedSimpArgs false
structure Bg (g : Nat) (w w' : World) : Prop where
 os : w'.os = w.os
 tape : w'.tape = w.tape
 output : w'.output = w.output
 size : w.heap.size ≤ w'.heap.size
 block : ∀ k, k < w.heap.size → k ≠ g → w'.heap[k]? = w.heap[k]?
theorem Bg.refl (g : Nat) (w : World) : Bg g w w := ⟨rfl, rfl, rfl, Nat.le_refl _, fun _ _ _ => rfl⟩
theorem Bg.trans {g : Nat} {a b c : World} (h : Bg g a b) (k : Bg g b c) : Bg g a c := ⟨k.os.trans h.os, k.tape.trans h.tape, k.output.trans h.output, Nat.le_trans h.size k.size, fun i hi hg => (k.block i (Nat.lt_of_lt_of_le hi h.size) hg).trans (h.block i hi hg)⟩
theorem Bg.of {g : Nat} {w w' : World} (h : Below w.heap.size w w') : Bg g w w' := ⟨h.os, h.tape, h.output, h.size, fun k hk _ => h.block k hk⟩
theorem Bg.below {g B : Nat} {w w' : World} (h : Bg g w w') (hg : B ≤ g) (hB : B ≤ w.heap.size) : Below B w w' := ⟨h.os, h.tape, h.output, h.size, fun k hk => h.block k (by omega) (by omega)⟩
theorem Bg.set {g : Nat} {w w' : World} (h : Bg g w w') (j : Nat) (v : Value) : Bg g w (w'.setCell ⟨g, j, none⟩ v) := ⟨h.os, h.tape, h.output, by simpa [World.setCell] using h.size, fun k hk hg => (Below.heap_setCell _ _ _ k hg).trans (h.block k hk hg)⟩
theorem Blk.bg {g : Nat} {w w' : World} {b : Nat} {cs : Array Value} {t : TypeId} (h : Blk w b cs t) (hb : Bg g w w') (hg : b ≠ g) : Blk w' b cs t := (hb.block b h.lt hg).trans h
def FS (w : World) (base g : Nat) (l : List S25) (sp : Bool) : Prop := ∃ A c, Blk w g #[.slice A l.length c, .bool sp] 75 ∧ k25.R 25 w base (fun k => k ≠ g) (.slice A l.length c) l
theorem FS.below {w w' : World} {base g : Nat} {l : List S25} {sp : Bool} (h : FS w base g l sp) (hb : Below w.heap.size w w') : FS w' base g l sp := by
 obtain ⟨A, c, h1, h2⟩ := h
 exact ⟨A, c, h1.below hb, Kd.R_below h2 hb⟩
theorem FS.set {w : World} {base g : Nat} {l : List S25} {sp : Bool} (h : FS w base g l sp) (b : Bool) : FS (w.setCell ⟨g, 1, none⟩ (.bool b)) base g l b := by
 obtain ⟨A, c, h1, h2⟩ := h
 exact ⟨A, c, blk_put h1 1 _ rfl, Kd.R_far h2 (fun _ hk => hk) _⟩
theorem FS.lt {w : World} {base g : Nat} {l : List S25} {sp : Bool} (h : FS w base g l sp) : g < w.heap.size := by
 obtain ⟨A, c, h1, _⟩ := h
 exact h1.lt
theorem Blk.c2 {W : World} {b : Nat} {a0 a1 : Value} {t : TypeId} (h : Blk W b #[a0, a1] t) : W.cell? ⟨b, 0, none⟩ = some a0 ∧ W.cell? ⟨b, 1, none⟩ = some a1 := ⟨(blk_cell h 0).trans rfl, (blk_cell h 1).trans rfl⟩
def atF (l : List S25) (i : Int) : Option S25 := if 0 ≤ i ∧ i < l.length then (if (rd_T25 l i).f0 = 1 then none else some (rd_T25 l i)) else none
theorem atF_some {l : List S25} {i : Int} {x : S25} (h : atF l i = some x) : 0 ≤ i ∧ i < l.length ∧ (rd_T25 l i).f0 ≠ 1 ∧ rd_T25 l i = x := by
 unfold atF at h
 split at h
 ·rename_i h1
  split at h
  ·cases h
  ·rename_i h2
   exact ⟨h1.1, h1.2, h2, Option.some.inj h⟩
 ·cases h
theorem atF_none {l : List S25} {i : Int} (h : atF l i = none) : i < 0 ∨ (0 ≤ i ∧ (l.length : Int) ≤ i) ∨ (0 ≤ i ∧ i < l.length ∧ (rd_T25 l i).f0 = 1) := by
 unfold atF at h
 split at h
 ·rename_i h1
  split at h
  ·rename_i h2
   exact .inr (.inr ⟨h1.1, h1.2, h2⟩)
  ·cases h
 ·rename_i h1
  omega
theorem atF_mem {l : List S25} {i : Int} {x : S25} (h : atF l i = some x) : x ∈ l := by
 obtain ⟨h0, h1, _, rfl⟩ := atF_some h
 exact rd_mem h0 h1
end Go.Proofs.YtdilbnggedidnaaGreat.PVal
namespace Go.Proofs.YtdilbnggedidnaaGreat.PVal
open Go.RowKit Go.Shelf Go.Proofs.YtdilbnggedidnaaGreatW.PrintWords Go.Proofs.YtdilbnggedidnaaGreatW.PrintLast
set_option linter.unusedVariables false
set_option linter.unusedSimpArgs false
theorem results95 (tmps : Array Value) (w : World) (g : Nat) (cs : Array Value) (b : Bool) (hcs : cs.size = 4) (hp : tmps.getD 4 undef = .pointer (some ⟨g, 0, none⟩)) (hg : Blk w g cs 25) (hb : tmps.getD 5 undef = .bool b) :
  (results Tryz.f69 tmps).run Tryz.prog w = .ok (.tuple #[.agg cs, .bool b]) w := by
 have h1 : tmps[4]?.getD undef = .pointer (some ⟨g, 0, none⟩) := by simpa using hp
 have h2 : tmps[5]?.getD undef = .bool b := by simpa using hb
 have hi : (Tryz.prog.info? 25).map (·.size) = some cs.size := by rw [hcs]; kernel_rfl
 have hr := run_loadVar_row (P := Tryz.prog) w g 25 25 cs (0, 0) _ hg Tryz.underlying25 rfl hi
 simp [results, Tryz.f69, h1, h2, asAddr, hr]
theorem at95_none {w : World} {base g : Nat} {l : List S25} {sp : Bool} (hf : FS w base g l sp) (i : Int) (h : atF l i = none) :
  Calls Tryz.prog 69 #[.pointer (some ⟨g, 0, none⟩), .int .i64 i] w fun e w' => e = .returned (.tuple #[.agg #[.int .u8 1, .int .u64 0, .string ⟨#[]⟩, .slice none 0 0], .bool false]) ∧ Below w.heap.size w w' := by
 obtain ⟨A, c, hB, hR⟩ := hf
 have HR := Aside0.mk (Kd.R_reads' hR).2.2
 have hg1 : ¬ g = w.heap.size := by have := hB.lt; omega
 have HB := Aside0.mk hB
 obtain ⟨p0, p1⟩ := hB.c2
 have o0 := cell_al p0
 clear hR hB p0 p1
 rcases atF_none h with h1 | ⟨h0, h1⟩ | ⟨h0, h1, h2⟩
 ·clear h
  go_enter Tryz.func69, Tryz.ntmps69
  go_wp2_with fail
  have bR := Blk.new w #[.int .u8 0, .int .u64 0, .string ⟨#[]⟩, .slice none 0 0] 25
  have hB0 := below_alloc (Below.refl w.heap.size w) (.cells #[.int .u8 0, .int .u64 0, .string ⟨#[]⟩, .slice none 0 0] 25)
  refine (null26_any _).mono ?_
  rintro e w2 ⟨rfl, hb2⟩
  have bR2 := bR.below hb2
  have HB2 := Aside0.mk (below_step hB0 hb2)
  clear bR hB0 hb2
  obtain ⟨r0, r1, r2, r3⟩ := bR2.c4
  have fz := bR2.fz
  go_wp2_with fail
  refine bodyPost_ret (results95 _ _ w.heap.size #[.int .u8 1, .int .u64 0, .string ⟨#[]⟩, .slice none 0 0] false rfl rfl ?_ rfl) rfl ⟨rfl, ?_⟩
  ·refine blk_put (cs := #[.int .u8 1, .int .u64 0, .string ⟨#[]⟩, .slice none 0 0]) ?_ 3 _ rfl
   refine blk_put (cs := #[.int .u8 1, .int .u64 0, .string ⟨#[]⟩, .slice none 0 0]) ?_ 2 _ rfl
   refine blk_put (cs := #[.int .u8 1, .int .u64 0, .string ⟨#[]⟩, .slice none 0 0]) ?_ 1 _ rfl
   refine blk_put (cs := #[.int .u8 0, .int .u64 0, .string ⟨#[]⟩, .slice none 0 0]) ?_ 0 _ rfl
   exact bR2
  ·exact below_set (below_set (below_set (below_set HB2.out (Nat.le_refl _)) (Nat.le_refl _)) (Nat.le_refl _)) (Nat.le_refl _)
 ·clear h
  go_enter Tryz.func69, Tryz.ntmps69
  go_wp2_with fail
  have bR := Blk.new w #[.int .u8 0, .int .u64 0, .string ⟨#[]⟩, .slice none 0 0] 25
  have hB0 := below_alloc (Below.refl w.heap.size w) (.cells #[.int .u8 0, .int .u64 0, .string ⟨#[]⟩, .slice none 0 0] 25)
  refine (null26_any _).mono ?_
  rintro e w2 ⟨rfl, hb2⟩
  have bR2 := bR.below hb2
  have HB2 := Aside0.mk (below_step hB0 hb2)
  clear bR hB0 hb2
  obtain ⟨r0, r1, r2, r3⟩ := bR2.c4
  have fz := bR2.fz
  go_wp2_with fail
  refine bodyPost_ret (results95 _ _ w.heap.size #[.int .u8 1, .int .u64 0, .string ⟨#[]⟩, .slice none 0 0] false rfl rfl ?_ rfl) rfl ⟨rfl, ?_⟩
  ·refine blk_put (cs := #[.int .u8 1, .int .u64 0, .string ⟨#[]⟩, .slice none 0 0]) ?_ 3 _ rfl
   refine blk_put (cs := #[.int .u8 1, .int .u64 0, .string ⟨#[]⟩, .slice none 0 0]) ?_ 2 _ rfl
   refine blk_put (cs := #[.int .u8 1, .int .u64 0, .string ⟨#[]⟩, .slice none 0 0]) ?_ 1 _ rfl
   refine blk_put (cs := #[.int .u8 0, .int .u64 0, .string ⟨#[]⟩, .slice none 0 0]) ?_ 0 _ rfl
   exact bR2
  ·exact below_set (below_set (below_set (below_set HB2.out (Nat.le_refl _)) (Nat.le_refl _)) (Nat.le_refl _)) (Nat.le_refl _)
 ·obtain ⟨ad, Ax, cx, eA, hx0, hx1, hx2, hx3, hlx, hCx⟩ := at_T25 HR.out i h0 h1
  cases eA
  have hk : ((rd_T25 l i).f0 == 1) = true := by rw [h2]; rfl
  have q0 := cell_al hx0
  clear h h2 hx0 hx1 hx2 hx3 hCx hlx
  go_enter Tryz.func69, Tryz.ntmps69
  go_wp2_with fail
  have bR := Blk.new w #[.int .u8 0, .int .u64 0, .string ⟨#[]⟩, .slice none 0 0] 25
  have hB0 := below_alloc (Below.refl w.heap.size w) (.cells #[.int .u8 0, .int .u64 0, .string ⟨#[]⟩, .slice none 0 0] 25)
  refine (null26_any _).mono ?_
  rintro e w2 ⟨rfl, hb2⟩
  have bR2 := bR.below hb2
  have HB2 := Aside0.mk (below_step hB0 hb2)
  clear bR hB0 hb2
  obtain ⟨r0, r1, r2, r3⟩ := bR2.c4
  have fz := bR2.fz
  go_wp2_with fail
  refine bodyPost_ret (results95 _ _ w.heap.size #[.int .u8 1, .int .u64 0, .string ⟨#[]⟩, .slice none 0 0] false rfl rfl ?_ rfl) rfl ⟨rfl, ?_⟩
  ·refine blk_put (cs := #[.int .u8 1, .int .u64 0, .string ⟨#[]⟩, .slice none 0 0]) ?_ 3 _ rfl
   refine blk_put (cs := #[.int .u8 1, .int .u64 0, .string ⟨#[]⟩, .slice none 0 0]) ?_ 2 _ rfl
   refine blk_put (cs := #[.int .u8 1, .int .u64 0, .string ⟨#[]⟩, .slice none 0 0]) ?_ 1 _ rfl
   refine blk_put (cs := #[.int .u8 0, .int .u64 0, .string ⟨#[]⟩, .slice none 0 0]) ?_ 0 _ rfl
   exact bR2
  ·exact below_set (below_set (below_set (below_set HB2.out (Nat.le_refl _)) (Nat.le_refl _)) (Nat.le_refl _)) (Nat.le_refl _)
theorem at95_some {w : World} {base g : Nat} {l : List S25} {sp : Bool} (hf : FS w base g l sp) (i : Int) (x : S25) (h : atF l i = some x) :
  Calls Tryz.prog 69 #[.pointer (some ⟨g, 0, none⟩), .int .i64 i] w fun e w' => ∃ Ax cx, e = .returned (.tuple #[.agg #[.int .u8 x.f0, .int .u64 x.f1, .string x.f2, .slice Ax x.f3.length cx], .bool true]) ∧ Below w.heap.size w w' ∧ x.f3.length ≤ cx ∧ k25.C w' Ax x.f3.length x.f3 := by
 obtain ⟨A, c, hB, hR⟩ := hf
 have HR := Aside0.mk (Kd.R_reads' hR).2.2
 have hg1 : ¬ g = w.heap.size := by have := hB.lt; omega
 have HB := Aside0.mk hB
 obtain ⟨p0, p1⟩ := hB.c2
 have o0 := cell_al p0
 clear hR hB p0 p1
 obtain ⟨h0, h1, h2, hx⟩ := atF_some h
 obtain ⟨ad, Ax, cx, eA, hx0, hx1, hx2, hx3, hlx, hCx⟩ := at_T25 HR.out i h0 h1
 cases eA
 rw [hx] at h2 hx0 hx1 hx2 hx3 hlx hCx
 have hk : (x.f0 == 1) = false := by simpa using h2
 have HC := Aside0.mk hCx
 have hq0 := cell_al hx0
 have hq1 := cell_al hx1
 have hq2 := cell_al hx2
 have hq3 := cell_al hx3
 clear h h2 hx hCx hx0 hx1 hx2 hx3
 go_enter Tryz.func69, Tryz.ntmps69
 go_wp2_with fail
 have hB0 := below_alloc (Below.refl w.heap.size w) (.cells #[.int .u8 x.f0, .int .u64 x.f1, .string x.f2, .slice Ax x.f3.length cx] 25)
 exact bodyPost_ret (results95 _ _ w.heap.size #[.int .u8 x.f0, .int .u64 x.f1, .string x.f2, .slice Ax x.f3.length cx] true rfl rfl (Blk.new w #[.int .u8 x.f0, .int .u64 x.f1, .string x.f2, .slice Ax x.f3.length cx] 25) rfl) rfl ⟨Ax, cx, rfl, hB0, hlx, Kd.C_below HC.out hB0⟩
end Go.Proofs.YtdilbnggedidnaaGreat.PVal
namespace Go.Proofs.YtdilbnggedidnaaGreat.PVal
open Go.RowKit Go.Shelf Go.Proofs.YtdilbnggedidnaaGreatW.PrintWords Go.Proofs.YtdilbnggedidnaaGreatW.PrintLast
set_option linter.unusedVariables false
set_option linter.unusedSimpArgs false
theorem spoil50_any {w : World} {base g : Nat} {l : List S25} {sp : Bool} (hf : FS w base g l sp) :
  Calls Tryz.prog 61 #[.pointer (some ⟨g, 0, none⟩)] w fun e w' => e = .returned (.tuple #[]) ∧ FS w' base g l true ∧ Bg g w w' := by
 have HF := Aside0.mk hf
 obtain ⟨A, c, hB, hR⟩ := hf
 obtain ⟨p0, p1⟩ := hB.c2
 have fz := hB.fz
 clear hB hR
 go_enter Tryz.func61, Tryz.ntmps61
 go_wp2_with fail
 go_end0
 exact ⟨rfl, HF.out.set true, (Bg.refl g w).set 1 _⟩
def doneN (l : List S25) (sp : Bool) (n : Int) : Int := if sp = true ∨ n < l.length then 6 else 0
theorem done43_any {w : World} {base g : Nat} {l : List S25} {sp : Bool} (hf : FS w base g l sp) (n : Int) :
  Calls Tryz.prog 30 #[.pointer (some ⟨g, 0, none⟩), .int .i64 n] w fun e w' => e = .returned (.int .i64 (doneN l sp n)) ∧ w = w' := by
 obtain ⟨A, c, hB, hR⟩ := hf
 obtain ⟨p0, p1⟩ := hB.c2
 clear hB hR
 cases sp with
 | true =>
  have HE : Aside0 (doneN l true n = 6) := ⟨if_pos (.inl rfl)⟩
  go_enter Tryz.func30, Tryz.ntmps30
  go_wp2_with fail
  go_ret
  exact ⟨by rw [HE.out]; rfl, rfl⟩
 | false =>
  by_cases h : n < (l.length : Int)
  ·have HE : Aside0 (doneN l false n = 6) := ⟨if_pos (.inr h)⟩
   go_enter Tryz.func30, Tryz.ntmps30
   go_wp2_with fail
   go_ret
   exact ⟨by rw [HE.out]; rfl, rfl⟩
  ·have HE : Aside0 (doneN l false n = 0) := ⟨if_neg (by simp; omega)⟩
   go_enter Tryz.func30, Tryz.ntmps30
   go_wp2_with fail
   go_ret
   exact ⟨by rw [HE.out]; rfl, rfl⟩
def calledB (x : S25) (code : Int) (name : ByteArray) : Bool := ((x.f0 == 6) && (x.f1 == code)) || ((x.f0 == 21) && (x.f2.toList == name.toList))
theorem called74_any (x : S25) (code : Int) (name : ByteArray) (A : Option Addr) (c : Nat) (w : World) :
  Calls Tryz.prog 45 #[.agg #[.int .u8 x.f0, .int .u64 x.f1, .string x.f2, .slice A x.f3.length c], .int .u64 code, .string name] w fun e w' => e = .returned (.bool (calledB x code name)) ∧ Below w.heap.size w w' := by
 have hdef : calledB x code name = (((x.f0 == 6) && (x.f1 == code)) || ((x.f0 == 21) && (x.f2.toList == name.toList))) := rfl
 have HD := Aside0.mk hdef
 clear hdef
 by_cases h6 : x.f0 = 6
 ·have k6 : (x.f0 == 6) = true := by simp [h6]
  have k21 : (x.f0 == 21) = false := by simp [h6]
  clear h6
  cases hc : (x.f1 == code) with
  | true =>
   have HE : Aside0 (calledB x code name = true) := ⟨by rw [HD.out, k6, hc]; rfl⟩
   go_enter Tryz.func45, Tryz.ntmps45
   go_wp2_with fail
   go_ret
   exact ⟨by rw [HE.out]; rfl, below_alloc (Below.refl _ _) _⟩
  | false =>
   have HE : Aside0 (calledB x code name = false) := ⟨by rw [HD.out, k6, hc, k21]; rfl⟩
   go_enter Tryz.func45, Tryz.ntmps45
   go_wp2_with fail
   go_ret
   exact ⟨by rw [HE.out]; rfl, below_alloc (Below.refl _ _) _⟩
 ·have k6 : (x.f0 == 6) = false := by simp [h6]
  clear h6
  cases k21 : (x.f0 == 21) with
  | true =>
   have HE : Aside0 (calledB x code name = (x.f2.toList == name.toList)) := ⟨by rw [HD.out, k6, k21]; rfl⟩
   go_enter Tryz.func45, Tryz.ntmps45
   go_wp2_with fail
   go_ret
   exact ⟨by rw [HE.out]; rfl, below_alloc (Below.refl _ _) _⟩
  | false =>
   have HE : Aside0 (calledB x code name = false) := ⟨by rw [HD.out, k6, k21]; rfl⟩
   go_enter Tryz.func45, Tryz.ntmps45
   go_wp2_with fail
   go_ret
   exact ⟨by rw [HE.out]; rfl, below_alloc (Below.refl _ _) _⟩
theorem num97_any (x : S25) (A : Option Addr) (c : Nat) (w : World) : Calls Tryz.prog 76 #[.agg #[.int .u8 x.f0, .int .u64 x.f1, .string x.f2, .slice A x.f3.length c]] w fun e w' => e = .returned (.int .u64 x.f1) ∧ Below w.heap.size w w' := by
 go_enter Tryz.func76, Tryz.ntmps76
 go_wp2_with fail
 go_ret
 exact ⟨rfl, below_alloc (Below.refl _ _) _⟩
theorem txt102_any (x : S25) (A : Option Addr) (c : Nat) (w : World) : Calls Tryz.prog 49 #[.agg #[.int .u8 x.f0, .int .u64 x.f1, .string x.f2, .slice A x.f3.length c]] w fun e w' => e = .returned (.string x.f2) ∧ Below w.heap.size w w' := by
 go_enter Tryz.func49, Tryz.ntmps49
 go_wp2_with fail
 go_ret
 exact ⟨rfl, below_alloc (Below.refl _ _) _⟩
theorem all103_any (x : S25) (A : Option Addr) (c : Nat) (w : World) : Calls Tryz.prog 50 #[.agg #[.int .u8 x.f0, .int .u64 x.f1, .string x.f2, .slice A x.f3.length c]] w fun e w' => e = .returned (.bool true) ∧ Below w.heap.size w w' := by
 go_enter Tryz.func50, Tryz.ntmps50
 go_wp2_with fail
 go_ret
 exact ⟨rfl, below_alloc (Below.refl _ _) _⟩
theorem of68_any (B : Option Addr) (m d : Nat) (w : World) : Calls Tryz.prog 48 #[.slice B m d] w fun e w' => e = .returned (.func (.func 70) #[] #[.pointer (some ⟨w.heap.size, 0, none⟩)]) ∧ w' = w.alloc (.cells #[.slice B m d] 45) := by
 go_enter Tryz.func48, Tryz.ntmps48
 go_wp2_with fail
 go_ret
 exact ⟨rfl, rfl⟩
def idxI (v : Int) : List Int → Int → Int
 | [], _ => -1
 | a :: l, i => if v == a then i else idxI v l (i + 1)
theorem idxI_any (v : Int) (l : List Int) (i : Int) (h : 0 ≤ i) : decide (0 ≤ idxI v l i) = l.any (fun a => v == a) := by
 induction l generalizing i with
 | nil => simp [idxI]
 | cons x l ih =>
  have := ih (i + 1) (by omega)
  rw [Bool.eq_iff_iff, decide_eq_true_eq] at this ⊢
  simp only [idxI, List.any_cons, Bool.or_eq_true]
  by_cases hx : (v == x) = true
  ·rw [if_pos hx]; simp [h, hx]
  ·rw [if_neg hx, this]; simp [hx]
theorem drop_rdK {xs : List Int} {i : Int} (h0 : 0 ≤ i) (h1 : i < xs.length) : xs.drop i.toNat = rd xs i :: xs.drop (i + 1).toNat := by
 have h : i.toNat < xs.length := by omega
 rw [List.drop_eq_getElem_cons h, show (i + 1).toNat = i.toNat + 1 by omega]
 unfold rd
 rw [List.getD_eq_getElem?_getD, List.getElem?_eq_getElem h]
 rfl
theorem index126_any (v : Int) (l : List Int) (A : Option Addr) (c : Nat) (w : World) (ha : Kd.C (Kd.int .u8) w A l.length l) (hc : l.length ≤ c) :
  Calls Tryz.prog 86 #[.slice A l.length c, .int .u8 v] w fun e w' => e = .returned (.int .i64 (idxI v l 0)) ∧ w = w' := by
 have hm : l.length ≤ 9223372036854775807 := Kd.C_max ha
 have HA := Aside0.mk ha
 clear ha
 go_enter Tryz.func86, Tryz.ntmps86
 go_wp2_with fail
 go_loopg [8] l.length (fun gk v8 wr => ∃ i : Int, v8 = .int .i64 i ∧ Aside0 (0 ≤ i ∧ i ≤ l.length ∧ gk = l.length - i.toNat ∧ idxI v (l.drop i.toNat) i = idxI v l 0) ∧ w = wr)
 case atStart => exact ⟨0, rfl, ⟨by omega, by omega, by simp, by simp⟩, rfl⟩
 case round =>
  obtain ⟨i, rfl, HI, rfl⟩ := hrel
  obtain ⟨hi0, hi1, hgk, hv⟩ := HI.out
  have HG := Aside0.mk hgk
  have HV := Aside0.mk hv
  clear HI hgk hv
  by_cases hlt : i < l.length
  ·obtain ⟨ad, e, hx⟩ := Kd.at_int HA.out i hi0 hlt
   cases e
   have hdr : idxI v (l.drop i.toNat) i = if v == rd l i then i else idxI v (l.drop (i + 1).toNat) (i + 1) := by rw [drop_rdK hi0 hlt, idxI]
   rw [HV.out] at hdr
   have HD := Aside0.mk hdr
   clear hdr
   cases hq : (v == rd l i) with
   | true =>
    have HQ : Aside0 (idxI v l 0 = i) := ⟨by rw [HD.out, hq]; rfl⟩
    go_wp2_with fail
    go_ret
    exact ⟨by rw [HQ.out]; rfl, rfl⟩
   | false =>
    have HQ : Aside0 (idxI v (l.drop (i + 1).toNat) (i + 1) = idxI v l 0) := ⟨by rw [HD.out, hq]; rfl⟩
    go_wp2_with fail
    go_roundg (l.length - (i + 1).toNat)
    case measure => rw [HG.out]; omega
    case rel => exact ⟨i + 1, by go_num, ⟨by omega, by omega, rfl, HQ.out⟩, rfl⟩
  ·have he : idxI v l 0 = -1 := by rw [← HV.out, List.drop_of_length_le (by omega), idxI]
   have HE := Aside0.mk he
   clear he
   go_wp2_with fail
   go_ret
   exact ⟨by rw [HE.out]; rfl, rfl⟩
theorem contains99_any (v : Int) (l : List Int) (A : Option Addr) (c : Nat) (w : World) (ha : Kd.C (Kd.int .u8) w A l.length l) (hc : l.length ≤ c) :
  Calls Tryz.prog 71 #[.slice A l.length c, .int .u8 v] w fun e w' => e = .returned (.bool (l.any fun a => v == a)) ∧ w = w' := by
 have HI := Aside0.mk (index126_any v l A c w ha hc)
 have HE := Aside0.mk (idxI_any v l 0 (Int.le_refl _))
 clear ha
 go_enter Tryz.func71, Tryz.ntmps71
 go_wp2_with fail
 refine HI.out.mono ?_
 rintro e w2 ⟨rfl, rfl⟩
 go_wp2_with fail
 go_ret
 exact ⟨by rw [← HE.out]; rfl, rfl⟩
def Fit (F : Nat) (cap : List Value) (P : S25 → Bool) (w : World) : Prop := ∀ (x : S25) (A : Option Addr) (c : Nat) (w' : World), Below w.heap.size w w' → k25.C w' A x.f3.length x.f3 → x.f3.length ≤ c →
 Calls Tryz.prog F (Value.agg #[.int .u8 x.f0, .int .u64 x.f1, .string x.f2, .slice A x.f3.length c] :: cap).toArray w' fun e w2 => e = .returned (.bool (P x)) ∧ Below w'.heap.size w' w2
theorem Fit.later {F : Nat} {cap : List Value} {P : S25 → Bool} {w w' : World} (h : Fit F cap P w) (hb : Below w.heap.size w w') : Fit F cap P w' := fun x A c w2 h2 => h x A c w2 (below_step hb h2)
def kindP (ks : List Int) (x : S25) : Bool := ks.any fun a => x.f0 == a
theorem fit98 (ks : List Int) (B : Option Addr) (d : Nat) (b : Nat) (w : World) (hB : Blk w b #[.slice B ks.length d] 45) (hk : Kd.C (Kd.int .u8) w B ks.length ks) (hd : ks.length ≤ d) : Fit 70 [.pointer (some ⟨b, 0, none⟩)] (kindP ks) w := by
 intro x A c w' hb hC hc
 have bB := hB.below hb
 have q0 := cell_al bB.c1
 have hbn : ¬ b = w'.heap.size := by have := bB.lt; omega
 have HK := Aside0.mk (Kd.C_below hk hb)
 clear hB hk hb hC bB
 show Calls Tryz.prog 70 #[.agg #[.int .u8 x.f0, .int .u64 x.f1, .string x.f2, .slice A x.f3.length c], .pointer (some ⟨b, 0, none⟩)] w' _
 go_enter Tryz.func70, Tryz.ntmps70
 go_wp2_with fail
 refine (contains99_any x.f0 ks B d _ (Kd.C_below HK.out (below_alloc (Below.refl _ _) _)) hd).mono ?_
 rintro e w2 ⟨rfl, rfl⟩
 go_wp2_with fail
 go_ret
 exact ⟨rfl, below_alloc (Below.refl _ _) _⟩
end Go.Proofs.YtdilbnggedidnaaGreat.PVal
namespace Go.Proofs.YtdilbnggedidnaaGreat.PVal
open Go.RowKit Go.Shelf Go.Proofs.YtdilbnggedidnaaGreatW.PrintWords Go.Proofs.YtdilbnggedidnaaGreatW.PrintLast
set_option linter.unusedVariables false
set_option linter.unusedSimpArgs false
def spoilP (l : List S25) (i : Int) (must : Bool) (P : S25 → Bool) : Bool := match atF l i with
 | none => must
 | some x => !P x
def tellP {α : Type} (l : List S25) (i : Int) (P : S25 → Bool) (T : S25 → α) (none_ : α) : α := match atF l i with
 | none => none_
 | some x => if P x then T x else none_
theorem spoil_none {l : List S25} {i : Int} (h : atF l i = none) (m : Bool) (P : S25 → Bool) : spoilP l i m P = m := by unfold spoilP; rw [h]
theorem spoil_some {l : List S25} {i : Int} {x : S25} (h : atF l i = some x) (m : Bool) (P : S25 → Bool) : spoilP l i m P = !P x := by unfold spoilP; rw [h]
theorem tell_none {α : Type} {l : List S25} {i : Int} (h : atF l i = none) (P : S25 → Bool) (T : S25 → α) (d : α) : tellP l i P T d = d := by unfold tellP; rw [h]
theorem tell_some {α : Type} {l : List S25} {i : Int} {x : S25} (h : atF l i = some x) (P : S25 → Bool) (T : S25 → α) (d : α) : tellP l i P T d = if P x then T x else d := by unfold tellP; rw [h]
theorem tell96_any {w : World} {base g : Nat} {l : List S25} {sp : Bool} (hf : FS w base g l sp) (i : Int) (must : Bool) (none_ : Int) (b : Nat) (P : S25 → Bool) (hF : Fit 70 [.pointer (some ⟨b, 0, none⟩)] P w) :
  Calls Tryz.prog 75 #[.pointer (some ⟨g, 0, none⟩), .int .i64 i, .bool must, .int .u64 (none_), .func (.func 70) #[] #[.pointer (some ⟨b, 0, none⟩)], .func (.func 76) #[] #[]] w fun e w' => e = .returned (.int .u64 (tellP l i P (fun x => x.f1) none_)) ∧ FS w' base g l (sp || spoilP l i must P) ∧ Bg g w w' := by
 have HF := Aside0.mk hF
 have HFS0 := Aside0.mk hf
 cases h : atF l i with
 | none =>
  have HA := Aside0.mk (at95_none hf i h)
  have HT := Aside0.mk (tell_none h P (fun x => x.f1) none_)
  cases must with
  | false =>
   have HS := Aside0.mk (spoil_none h false P)
   clear hf hF h
   go_enter Tryz.func75, Tryz.ntmps75
   go_wp2_with fail
   refine HA.out.mono ?_
   rintro e w2 ⟨rfl, hb⟩
   have HB := Aside0.mk (below_alloc hb (.cells #[.int .u8 1, .int .u64 0, .string ⟨#[]⟩, .slice none 0 0] 25))
   clear hb
   go_wp2_with fail
   go_ret
   exact ⟨by rw [HT.out]; rfl, by rw [HS.out, Bool.or_false]; exact HFS0.out.below HB.out, Bg.of HB.out⟩
  | true =>
   have HS := Aside0.mk (spoil_none h true P)
   clear hf hF h
   go_enter Tryz.func75, Tryz.ntmps75
   go_wp2_with fail
   refine HA.out.mono ?_
   rintro e w2 ⟨rfl, hb⟩
   have HB := Aside0.mk (below_alloc hb (.cells #[.int .u8 1, .int .u64 0, .string ⟨#[]⟩, .slice none 0 0] 25))
   have HFS := Aside0.mk (HFS0.out.below HB.out)
   clear hb
   go_wp2_with fail
   refine (spoil50_any HFS.out).mono ?_
   rintro e w4 ⟨rfl, hfs, hbg⟩
   have HFT := Aside0.mk hfs
   have HBT := Aside0.mk ((Bg.of HB.out).trans hbg)
   clear hfs hbg
   go_wp2_with fail
   go_ret
   exact ⟨by rw [HT.out]; rfl, by rw [HS.out]; cases sp <;> exact HFT.out, HBT.out⟩
 | some x =>
  have HA := Aside0.mk (at95_some hf i x h)
  have HT0 := Aside0.mk (tell_some h P (fun x => x.f1) none_)
  have HS0 := Aside0.mk (spoil_some h must P)
  clear hf hF h
  go_enter Tryz.func75, Tryz.ntmps75
  go_wp2_with fail
  refine HA.out.mono ?_
  rintro e w2 ⟨A, c, rfl, hb, hl, hC⟩
  have bX := Blk.new w2 #[.int .u8 x.f0, .int .u64 x.f1, .string x.f2, .slice A x.f3.length c] 25
  have hal := below_alloc (Below.refl w2.heap.size w2) (.cells #[.int .u8 x.f0, .int .u64 x.f1, .string x.f2, .slice A x.f3.length c] 25)
  have HB1 := Aside0.mk (below_step hb hal)
  have HC := Aside0.mk (Kd.C_below hC hal)
  clear hb hC hal
  obtain ⟨p0, p1, p2, p3⟩ := bX.c4
  go_wp2_with fail
  refine (HF.out x A c _ HB1.out HC.out hl).mono ?_
  rintro e w3 ⟨rfl, hb3⟩
  have bX3 := bX.below hb3
  have HB := Aside0.mk (below_step HB1.out hb3)
  have HC3 := Aside0.mk (Kd.C_below HC.out hb3)
  have HFS := Aside0.mk (HFS0.out.below HB.out)
  clear p0 p1 p2 p3 bX hb3
  cases hP : P x with
  | true =>
   have HT : Aside0 (tellP l i P (fun x => x.f1) none_ = x.f1) := ⟨by rw [HT0.out, hP]; rfl⟩
   have HS : Aside0 (spoilP l i must P = false) := ⟨by rw [HS0.out, hP]; rfl⟩
   clear hP
   obtain ⟨p0, p1, p2, p3⟩ := bX3.c4
   go_wp2_with fail
   refine (num97_any x A c _).mono ?_
   rintro e w4 ⟨rfl, hb4⟩
   have HB4 := Aside0.mk (below_step HB.out hb4)
   clear p0 p1 p2 p3 bX3 hb4
   go_wp2_with fail
   go_ret
   exact ⟨by rw [HT.out]; rfl, by rw [HS.out, Bool.or_false]; exact HFS0.out.below HB4.out, Bg.of HB4.out⟩
  | false =>
   have HT : Aside0 (tellP l i P (fun x => x.f1) none_ = none_) := ⟨by rw [HT0.out, hP]; rfl⟩
   have HS : Aside0 (spoilP l i must P = true) := ⟨by rw [HS0.out, hP]; rfl⟩
   clear hP bX3
   go_wp2_with fail
   refine (spoil50_any HFS.out).mono ?_
   rintro e w4 ⟨rfl, hfs, hbg⟩
   have HFT := Aside0.mk hfs
   have HBT := Aside0.mk ((Bg.of HB.out).trans hbg)
   clear hfs hbg
   go_wp2_with fail
   go_ret
   exact ⟨by rw [HT.out]; rfl, by rw [HS.out]; cases sp <;> exact HFT.out, HBT.out⟩
theorem tell101_any {w : World} {base g : Nat} {l : List S25} {sp : Bool} (hf : FS w base g l sp) (i : Int) (must : Bool) (none_ : ByteArray) (b : Nat) (P : S25 → Bool) (hF : Fit 70 [.pointer (some ⟨b, 0, none⟩)] P w) :
  Calls Tryz.prog 47 #[.pointer (some ⟨g, 0, none⟩), .int .i64 i, .bool must, .string (none_), .func (.func 70) #[] #[.pointer (some ⟨b, 0, none⟩)], .func (.func 49) #[] #[]] w fun e w' => e = .returned (.string (tellP l i P (fun x => x.f2) none_)) ∧ FS w' base g l (sp || spoilP l i must P) ∧ Bg g w w' := by
 have HF := Aside0.mk hF
 have HFS0 := Aside0.mk hf
 cases h : atF l i with
 | none =>
  have HA := Aside0.mk (at95_none hf i h)
  have HT := Aside0.mk (tell_none h P (fun x => x.f2) none_)
  cases must with
  | false =>
   have HS := Aside0.mk (spoil_none h false P)
   clear hf hF h
   go_enter Tryz.func47, Tryz.ntmps47
   go_wp2_with fail
   refine HA.out.mono ?_
   rintro e w2 ⟨rfl, hb⟩
   have HB := Aside0.mk (below_alloc hb (.cells #[.int .u8 1, .int .u64 0, .string ⟨#[]⟩, .slice none 0 0] 25))
   clear hb
   go_wp2_with fail
   go_ret
   exact ⟨by rw [HT.out]; rfl, by rw [HS.out, Bool.or_false]; exact HFS0.out.below HB.out, Bg.of HB.out⟩
  | true =>
   have HS := Aside0.mk (spoil_none h true P)
   clear hf hF h
   go_enter Tryz.func47, Tryz.ntmps47
   go_wp2_with fail
   refine HA.out.mono ?_
   rintro e w2 ⟨rfl, hb⟩
   have HB := Aside0.mk (below_alloc hb (.cells #[.int .u8 1, .int .u64 0, .string ⟨#[]⟩, .slice none 0 0] 25))
   have HFS := Aside0.mk (HFS0.out.below HB.out)
   clear hb
   go_wp2_with fail
   refine (spoil50_any HFS.out).mono ?_
   rintro e w4 ⟨rfl, hfs, hbg⟩
   have HFT := Aside0.mk hfs
   have HBT := Aside0.mk ((Bg.of HB.out).trans hbg)
   clear hfs hbg
   go_wp2_with fail
   go_ret
   exact ⟨by rw [HT.out]; rfl, by rw [HS.out]; cases sp <;> exact HFT.out, HBT.out⟩
 | some x =>
  have HA := Aside0.mk (at95_some hf i x h)
  have HT0 := Aside0.mk (tell_some h P (fun x => x.f2) none_)
  have HS0 := Aside0.mk (spoil_some h must P)
  clear hf hF h
  go_enter Tryz.func47, Tryz.ntmps47
  go_wp2_with fail
  refine HA.out.mono ?_
  rintro e w2 ⟨A, c, rfl, hb, hl, hC⟩
  have bX := Blk.new w2 #[.int .u8 x.f0, .int .u64 x.f1, .string x.f2, .slice A x.f3.length c] 25
  have hal := below_alloc (Below.refl w2.heap.size w2) (.cells #[.int .u8 x.f0, .int .u64 x.f1, .string x.f2, .slice A x.f3.length c] 25)
  have HB1 := Aside0.mk (below_step hb hal)
  have HC := Aside0.mk (Kd.C_below hC hal)
  clear hb hC hal
  obtain ⟨p0, p1, p2, p3⟩ := bX.c4
  go_wp2_with fail
  refine (HF.out x A c _ HB1.out HC.out hl).mono ?_
  rintro e w3 ⟨rfl, hb3⟩
  have bX3 := bX.below hb3
  have HB := Aside0.mk (below_step HB1.out hb3)
  have HC3 := Aside0.mk (Kd.C_below HC.out hb3)
  have HFS := Aside0.mk (HFS0.out.below HB.out)
  clear p0 p1 p2 p3 bX hb3
  cases hP : P x with
  | true =>
   have HT : Aside0 (tellP l i P (fun x => x.f2) none_ = x.f2) := ⟨by rw [HT0.out, hP]; rfl⟩
   have HS : Aside0 (spoilP l i must P = false) := ⟨by rw [HS0.out, hP]; rfl⟩
   clear hP
   obtain ⟨p0, p1, p2, p3⟩ := bX3.c4
   go_wp2_with fail
   refine (txt102_any x A c _).mono ?_
   rintro e w4 ⟨rfl, hb4⟩
   have HB4 := Aside0.mk (below_step HB.out hb4)
   clear p0 p1 p2 p3 bX3 hb4
   go_wp2_with fail
   go_ret
   exact ⟨by rw [HT.out]; rfl, by rw [HS.out, Bool.or_false]; exact HFS0.out.below HB4.out, Bg.of HB4.out⟩
  | false =>
   have HT : Aside0 (tellP l i P (fun x => x.f2) none_ = none_) := ⟨by rw [HT0.out, hP]; rfl⟩
   have HS : Aside0 (spoilP l i must P = true) := ⟨by rw [HS0.out, hP]; rfl⟩
   clear hP bX3
   go_wp2_with fail
   refine (spoil50_any HFS.out).mono ?_
   rintro e w4 ⟨rfl, hfs, hbg⟩
   have HFT := Aside0.mk hfs
   have HBT := Aside0.mk ((Bg.of HB.out).trans hbg)
   clear hfs hbg
   go_wp2_with fail
   go_ret
   exact ⟨by rw [HT.out]; rfl, by rw [HS.out]; cases sp <;> exact HFT.out, HBT.out⟩
theorem C_u8 {w : World} {b : Nat} {k : Int} (h : Blk w b #[.int .u8 k] 5) : Kd.C (Kd.int .u8) w (some ⟨b, 0, none⟩) 1 [k] := by
 refine ⟨rfl, by omega, fun _ => ⟨_, rfl, fun j p hj => ?_⟩⟩
 match j, hj with
 | 0, hj =>
  cases hj
  refine ⟨[.int .u8 k], rfl, rfl, fun i u hi => ?_⟩
  match i, hi with
  | 0, hi =>
   cases hi
   exact (blk_cell h 0).trans rfl
 | j + 1, hj => simp at hj
end Go.Proofs.YtdilbnggedidnaaGreat.PVal
namespace Go.Proofs.YtdilbnggedidnaaGreat.PVal
open Go.RowKit Go.Shelf Go.Proofs.YtdilbnggedidnaaGreatW.PrintWords Go.Proofs.YtdilbnggedidnaaGreatW.PrintLast
set_option linter.unusedVariables false
set_option linter.unusedSimpArgs false
theorem number66_any {w : World} {base g : Nat} {l : List S25} {sp : Bool} (hf : FS w base g l sp) (i k : Int) (must : Bool) (none_ : Int) :
  Calls Tryz.prog 56 #[.pointer (some ⟨g, 0, none⟩), .int .i64 i, .int .u8 k, .bool must, .int .u64 none_] w fun e w' => e = .returned (.int .u64 (tellP l i (kindP [k]) (fun x => x.f1) none_)) ∧ FS w' base g l (sp || spoilP l i must (kindP [k])) ∧ Bg g w w' := by
 have HF := Aside0.mk hf
 have hg := hf.lt
 clear hf
 go_enter Tryz.func56, Tryz.ntmps56
 go_wp2_with fail
 have bK := Blk.new w #[.int .u8 k] 5
 have hB0 := below_alloc (Below.refl w.heap.size w) (.cells #[.int .u8 k] 5)
 refine (of68_any _ _ _ _).mono ?_
 rintro e w2 ⟨rfl, rfl⟩
 have hal := below_alloc (Below.refl (w.alloc (.cells #[.int .u8 k] 5)).heap.size (w.alloc (.cells #[.int .u8 k] 5))) (.cells #[.slice (some ⟨w.heap.size, 0, none⟩) 1 1] 45)
 have bS := Blk.new (w.alloc (.cells #[.int .u8 k] 5)) #[.slice (some ⟨w.heap.size, 0, none⟩) 1 1] 45
 rw [World.size_alloc] at bS
 have hCK : Kd.C (Kd.int .u8) (w.alloc (.cells #[.int .u8 k] 5)) (some ⟨w.heap.size, 0, none⟩) [k].length [k] := C_u8 bK
 have HFt := Aside0.mk (fit98 [k] _ 1 _ _ bS (Kd.C_below hCK hal) (by simp))
 have HB := Aside0.mk (below_step hB0 hal)
 have HFS := Aside0.mk (HF.out.below HB.out)
 clear bK bS hCK hal hB0
 go_wp2_with fail
 refine (tell96_any HFS.out i must none_ _ (kindP [k]) HFt.out).mono ?_
 rintro e w3 ⟨rfl, hfs, hbg⟩
 have HFT := Aside0.mk hfs
 have HBT := Aside0.mk ((Bg.of HB.out).trans hbg)
 clear hfs hbg
 go_wp2_with fail
 go_ret
 exact ⟨rfl, HFT.out, HBT.out⟩
theorem text76_any {w : World} {base g : Nat} {l : List S25} {sp : Bool} (hf : FS w base g l sp) (i k : Int) (must : Bool) :
  Calls Tryz.prog 28 #[.pointer (some ⟨g, 0, none⟩), .int .i64 i, .int .u8 k, .bool must] w fun e w' => e = .returned (.string (tellP l i (kindP [k]) (fun x => x.f2) ⟨#[]⟩)) ∧ FS w' base g l (sp || spoilP l i must (kindP [k])) ∧ Bg g w w' := by
 have HF := Aside0.mk hf
 have hg := hf.lt
 clear hf
 go_enter Tryz.func28, Tryz.ntmps28
 go_wp2_with fail
 have bK := Blk.new w #[.int .u8 k] 5
 have hB0 := below_alloc (Below.refl w.heap.size w) (.cells #[.int .u8 k] 5)
 refine (of68_any _ _ _ _).mono ?_
 rintro e w2 ⟨rfl, rfl⟩
 have hal := below_alloc (Below.refl (w.alloc (.cells #[.int .u8 k] 5)).heap.size (w.alloc (.cells #[.int .u8 k] 5))) (.cells #[.slice (some ⟨w.heap.size, 0, none⟩) 1 1] 45)
 have bS := Blk.new (w.alloc (.cells #[.int .u8 k] 5)) #[.slice (some ⟨w.heap.size, 0, none⟩) 1 1] 45
 rw [World.size_alloc] at bS
 have hCK : Kd.C (Kd.int .u8) (w.alloc (.cells #[.int .u8 k] 5)) (some ⟨w.heap.size, 0, none⟩) [k].length [k] := C_u8 bK
 have HFt := Aside0.mk (fit98 [k] _ 1 _ _ bS (Kd.C_below hCK hal) (by simp))
 have HB := Aside0.mk (below_step hB0 hal)
 have HFS := Aside0.mk (HF.out.below HB.out)
 clear bK bS hCK hal hB0
 go_wp2_with fail
 refine (tell101_any HFS.out i must ⟨#[]⟩ _ (kindP [k]) HFt.out).mono ?_
 rintro e w3 ⟨rfl, hfs, hbg⟩
 have HFT := Aside0.mk hfs
 have HBT := Aside0.mk ((Bg.of HB.out).trans hbg)
 clear hfs hbg
 go_wp2_with fail
 go_ret
 exact ⟨rfl, HFT.out, HBT.out⟩
end Go.Proofs.YtdilbnggedidnaaGreat.PVal
namespace Go.Proofs.YtdilbnggedidnaaGreat.PVal
open Go.RowKit Go.Shelf Go.Proofs.YtdilbnggedidnaaGreatW.PrintWords Go.Proofs.YtdilbnggedidnaaGreatW.PrintLast
set_option linter.unusedVariables false
set_option linter.unusedSimpArgs false
theorem C_none (w : World) : k25.C w none 0 ([] : List S25) := ⟨rfl, by omega, fun h => absurd h (by omega)⟩
theorem ok_vb (x : S25) (h : okVb x = true) : okV x := okVb_iff.1 h
end Go.Proofs.YtdilbnggedidnaaGreat.PVal
namespace Go.Proofs.YtdilbnggedidnaaGreat.PVal
open Go.RowKit Go.Shelf Go.Proofs.YtdilbnggedidnaaGreatW.PrintWords Go.Proofs.YtdilbnggedidnaaGreatW.PrintLast
set_option linter.unusedVariables false
set_option linter.unusedSimpArgs false
def trimTo (l : List S25) : Nat → Nat
 | 0 => 0
 | n + 1 => if (rd_T25 l (n : Int)).f0 = 1 then trimTo l n else n + 1
def trimL (l : List S25) : List S25 := l.take (trimTo l l.length)
def putV (code : Int) (l : List S25) : S25 := ⟨25, 0, ⟨#[]⟩, [⟨6, code, ⟨#[]⟩, []⟩, ⟨22, 0, ⟨#[]⟩, trimL l⟩]⟩
theorem itemsL_take (l : List S25) (n : Nat) : itemsL (l.take n) ≤ itemsL l := by
 have h : ∀ a b : List S25, itemsL (a ++ b) = itemsL a + itemsL b := fun a b => by
  induction a with
  | nil => simp [itemsL]
  | cons x a ih => simp [itemsL, ih]; omega
 have := h (l.take n) (l.drop n)
 rw [List.take_append_drop] at this
 omega
theorem itemsL_trim (l : List S25) : itemsL (trimL l) ≤ itemsL l := itemsL_take l _
theorem C_take {w : World} {A : Option Addr} {l : List S25} (h : k25.C w A l.length l) (n : Nat) (hn : n ≤ l.length) : k25.C w A n (l.take n) := by
 obtain ⟨h1, h2, h3⟩ := h
 refine ⟨by rw [List.length_take]; omega, by omega, fun hp => ?_⟩
 obtain ⟨ad, e, hx⟩ := h3 (by omega)
 refine ⟨ad, e, fun j p hj => hx j p ?_⟩
 rw [List.getElem?_take] at hj
 split at hj
 ·exact hj
 ·cases hj
theorem many_take21 {l : List S25} (n : Nat) (hn : n ≤ l.length) (hs : itemsL l ≤ 4294967296) (A : Option Addr) (c : Nat) (w : World) (ha : k25.C w A l.length l) (hc : l.length ≤ c) :
  Calls Tryz.prog 40 #[.int .u8 22, .slice A n c] w fun e w' => ∃ A' c', e = .returned (.agg #[.int .u8 22, .int .u64 0, .string ⟨#[]⟩, .slice A' (l.take n).length c']) ∧ k25.R 25 w' w.heap.size (fun _ => True) (.slice A' (l.take n).length c') (l.take n) ∧ Below w.heap.size w w' := by
 have hl : (l.take n).length = n := by rw [List.length_take]; omega
 have hi : itemsL (l.take n) ≤ itemsL l := itemsL_take l n
 have h := many21_any 22 (l.take n) (by omega) A c w (by rw [hl]; exact C_take ha n hn) (by omega)
 rw [hl] at h
 refine h.mono fun e w' hh => ?_
 obtain ⟨v, he, hR, hb⟩ := hh
 obtain ⟨A', c', rfl⟩ := Kd.R_slice hR
 exact ⟨A', c', he, hR, hb⟩
theorem many_take25 {l : List S25} (n : Nat) (hn : n ≤ l.length) (hs : itemsL l ≤ 4294967296) (A : Option Addr) (c : Nat) (w : World) (ha : k25.C w A l.length l) (hc : l.length ≤ c) :
  Calls Tryz.prog 43 #[.int .u8 22, .slice A n c] w fun e w' => ∃ A' c', e = .returned (.agg #[.int .u8 22, .int .u64 0, .string ⟨#[]⟩, .slice A' (l.take n).length c']) ∧ k25.R 25 w' w.heap.size (fun _ => True) (.slice A' (l.take n).length c') (l.take n) ∧ Below w.heap.size w w' := by
 have hl : (l.take n).length = n := by rw [List.length_take]; omega
 have hi : itemsL (l.take n) ≤ itemsL l := itemsL_take l n
 have h := rmany25_any 22 (l.take n) (by omega) A c w (by rw [hl]; exact C_take ha n hn) (by omega)
 rw [hl] at h
 refine h.mono fun e w' hh => ?_
 obtain ⟨v, he, hR, hb⟩ := hh
 obtain ⟨A', c', rfl⟩ := Kd.R_slice hR
 exact ⟨A', c', he, hR, hb⟩
theorem number67_any (k n : Int) (w : World) : Calls Tryz.prog 42 #[.int .u8 k, .int .u64 n] w fun e w' => e = .returned (.agg #[.int .u8 k, .int .u64 n, .string ⟨#[]⟩, .slice none 0 0]) ∧ Below w.heap.size w w' := by
 go_enter Tryz.func42, Tryz.ntmps42
 go_wp2_with fail
 exact bodyPost_ret (results_cell_row rfl _ _ w.heap.size 25 #[.int .u8 k, .int .u64 n, .string ⟨#[]⟩, .slice none 0 0] (0, 0) _ rfl (blk_new _ _) Tryz.underlying25 rfl (by kernel_rfl)) rfl ⟨rfl, below_alloc (Below.refl _ _) _⟩
theorem put39_any (code : Int) (l : List S25) (hs : itemsL l ≤ 4000000000) (A : Option Addr) (c : Nat) (w : World) (ha : k25.C w A l.length l) (hc : l.length ≤ c) :
  Calls Tryz.prog 21 #[.int .u64 code, .slice A l.length c] w fun e w' => ∃ A' c', e = .returned (.agg #[.int .u8 25, .int .u64 0, .string ⟨#[]⟩, .slice A' 2 c']) ∧ k25.R 25 w' w.heap.size (fun _ => True) (.slice A' 2 c') (putV code l).f3 ∧ Below w.heap.size w w' := by
 have HA := Aside0.mk ha
 have hll : l.length ≤ 4000000000 := by have := itemsL_length l; omega
 have hit := itemsL_trim l
 have bR0 := Blk.new w #[.int .u8 0, .int .u64 0, .string ⟨#[]⟩, .slice none 0 0] 25
 have hal := below_alloc (Below.refl w.heap.size w) (.cells #[.int .u8 0, .int .u64 0, .string ⟨#[]⟩, .slice none 0 0] 25)
 have HAL := Aside0.mk (Kd.C_below ha hal)
 have HB0 := Aside0.mk hal
 clear ha hal
 go_enter Tryz.func21, Tryz.ntmps21
 go_wp2_with fail
 obtain ⟨b, eb⟩ : ∃ b, w.heap.size = b := ⟨_, rfl⟩
 obtain ⟨w1, ew⟩ : ∃ W, w.alloc (.cells #[.int .u8 0, .int .u64 0, .string ⟨#[]⟩, .slice none 0 0] 25) = W := ⟨_, rfl⟩
 have BB := Aside0.mk eb
 rw [ew] at bR0 HAL HB0 ⊢
 rw [eb] at bR0 ⊢
 have BR := Aside0.mk bR0
 clear ew eb bR0
 go_loopg [5] l.length (fun gk v5 wr => ∃ m : Nat, v5 = .int .i64 (m : Int) ∧ Aside0 (m ≤ l.length ∧ gk = m ∧ trimTo l m = trimTo l l.length) ∧ w1 = wr)
 case atStart => exact ⟨l.length, rfl, ⟨Nat.le_refl _, rfl, rfl⟩, rfl⟩
 case round =>
  obtain ⟨m, rfl, HM, rfl⟩ := hrel
  obtain ⟨hm, hgk, hT⟩ := HM.out
  have HG := Aside0.mk hgk
  have HT := Aside0.mk hT
  clear HM hgk hT
  by_cases h0 : 0 < m
  ·obtain ⟨m, rfl⟩ : ∃ k, m = k + 1 := ⟨m - 1, by omega⟩
   obtain ⟨ad, Ax, cx, eA, hx0, hx1, hx2, hx3, hlx, hCx⟩ := at_T25 HAL.out (m : Int) (by omega) (by omega)
   cases eA
   rw [Int.toNat_natCast] at hx0
   clear hx1 hx2 hx3 hCx hlx
   have hw : ((m + 1 : Nat) : Int) - 1 = (m : Int) := by omega
   have hml : m < l.length := by omega
   have hdef : trimTo l (m + 1) = if (rd_T25 l (m : Int)).f0 = 1 then trimTo l m else m + 1 := rfl
   by_cases hk : (rd_T25 l (m : Int)).f0 = 1
   ·have hk' : ((rd_T25 l (m : Int)).f0 == 1) = true := by rw [hk]; rfl
    rw [if_pos hk, HT.out] at hdef
    have HT2 := Aside0.mk hdef.symm
    clear hk hdef
    go_wp2_with fail
    go_roundg m
    case measure => rw [HG.out]; omega
    case rel => exact ⟨m, by go_num, ⟨by omega, rfl, HT2.out⟩, rfl⟩
   ·have hk' : ((rd_T25 l (m : Int)).f0 == 1) = false := by simp [hk]
    rw [if_neg hk, HT.out] at hdef
    have HT2 := Aside0.mk hdef.symm
    clear hk hdef
    go_wp2_with fail
    have hn : m + 1 ≤ l.length := hm
    have hz1 : (0 : Int) ≤ (m : Int) + 1 := by omega
    have hz2 : (m : Int) + 1 ≤ (c : Int) := by omega
    have HTN := HT2
    clear hx0 hw hml hk' h0 HG HT HT2
    have bR := BR.out
    clear BR
    refine start_ (n := 8) (S := fun w' => Blk w' b #[.int .u8 0, .int .u64 0, .string ⟨#[]⟩, .slice none 0 0] 25) (ds := [7]) #[ff,ff,ff,ff,ff,ff,ff,ff] (by kernel_rfl) rfl rfl bR (fun hS => ?_)
    replace HAL := Aside0.mk (Kd.C_below HAL.out (below_drew (Below.refl _ _)))
    replace HB0 := Aside0.mk (below_drew HB0.out)
    generalize w1.drew = wd1 at HAL HB0 hS ⊢
    clear bR
    refine pure_ (i := 0) (N := some 21) (v := ?_) (a' := ?_) #[tt,ff,ff,ff,ff,ff,ff,ff] rfl rfl (by kernel_rfl) (fun _ _ _ h => h) (Or.inl ⟨by rfl, ?_⟩) ?_ ?_
    rotate_left
    ·intro w'
     go_simp
     with_reducible rfl
    rotate_left
    ·simp only [Act.put, List.setIfInBounds_toArray, List.set_cons_zero, List.set_cons_succ, i64_w, i32_w]
     rfl
    refine pure_ (i := 2) (N := some 23) (v := ?_) (a' := ?_) #[tt,ff,tt,ff,ff,ff,ff,ff] rfl rfl (by kernel_rfl) (fun _ _ _ h => h) (Or.inl ⟨by rfl, ?_⟩) ?_ ?_
    rotate_left
    ·intro w'
     go_simp
     with_reducible rfl
    rotate_left
    ·simp only [Act.put, List.setIfInBounds_toArray, List.set_cons_zero, List.set_cons_succ, i64_w, i32_w]
     rfl
    refine pure_ (i := 3) (N := some 24) (v := ?_) (a' := ?_) #[tt,ff,tt,tt,ff,ff,ff,ff] rfl rfl (by kernel_rfl) (fun _ _ _ h => h) (Or.inl ⟨by rfl, ?_⟩) ?_ ?_
    rotate_left
    ·intro w'
     go_simp
     with_reducible rfl
    rotate_left
    ·simp only [Act.put, List.setIfInBounds_toArray, List.set_cons_zero, List.set_cons_succ, i64_w, i32_w]
     rfl
    refine pure_ (i := 4) (N := some 25) (v := ?_) (a' := ?_) #[tt,ff,tt,tt,tt,ff,ff,ff] rfl rfl (by kernel_rfl) (fun _ _ _ h => h) (Or.inl ⟨by rfl, ?_⟩) ?_ ?_
    rotate_left
    ·intro w'
     go_simp
     with_reducible rfl
    rotate_left
    ·simp only [Act.put, List.setIfInBounds_toArray, List.set_cons_zero, List.set_cons_succ, i64_w, i32_w]
     rfl
    refine one_ (i := 1) (N := some 22) #[tt,tt,tt,tt,tt,ff,ff,ff] rfl rfl (by kernel_rfl) (by decide) (fun K hK => ?_)
    refine goes_ Tryz.func18 (by kernel_rfl) rfl #[.int .u8 6, .int .u64 code] (by rfl) rfl rfl (by (try simp only [List.map_toArray, List.map_cons, List.map_nil]); first | done | rfl) ?_
    refine (number23_any 6 code _).mono ?_
    rintro e wk2 ⟨rfl, hb2⟩
    refine ⟨_, rfl, ?_⟩
    have hS2 : Blk wk2 b #[.int .u8 0, .int .u64 0, .string ⟨#[]⟩, .slice none 0 0] 25 := hS.below hb2
    have HAL2 := Aside0.mk (Kd.C_below HAL.out hb2)
    have HB02 := Aside0.mk (below_step HB0.out hb2)
    refine hK.out _ _ hS2 (fun _ => ?_)
    clear hK K hb2
    refine norm_ (a' := ?_) ?_ ?_
    rotate_left
    ·try simp only [Act.put, putAll, List.setIfInBounds_toArray, List.set_cons_zero, List.set_cons_succ]
     rfl
    refine one_ (i := 5) (N := some 26) #[tt,tt,tt,tt,tt,tt,ff,ff] rfl rfl (by kernel_rfl) (by decide) (fun K hK => ?_)
    refine goes_ Tryz.func40 (by kernel_rfl) rfl #[.int .u8 22, .slice (some ad) (m + 1) c] (by rfl) rfl rfl (by (try simp only [List.map_toArray, List.map_cons, List.map_nil]); first | done | rfl) ?_
    refine (many_take21 (m + 1) hn (by omega) (some ad) c _ HAL2.out hc).mono ?_
    rintro e wk3 ⟨Al, cl, rfl, hRl, hb3⟩
    have hcl := (Kd.R_reads' hRl).2.1
    have HCl3 := Aside0.mk (Kd.R_reads' hRl).2.2
    refine ⟨_, rfl, ?_⟩
    have hS3 : Blk wk3 b #[.int .u8 0, .int .u64 0, .string ⟨#[]⟩, .slice none 0 0] 25 := hS2.below hb3
    have HAL3 := Aside0.mk (Kd.C_below HAL2.out hb3)
    have HB03 := Aside0.mk (below_step HB02.out hb3)
    refine hK.out _ _ hS3 (fun _ => ?_)
    clear hK K hb3 hS2
    refine norm_ (a' := ?_) ?_ ?_
    rotate_left
    ·try simp only [Act.put, putAll, List.setIfInBounds_toArray, List.set_cons_zero, List.set_cons_succ]
     rfl
    refine one_ (i := 6) (N := some 27) #[tt,tt,tt,tt,tt,tt,tt,ff] rfl rfl (by kernel_rfl) (by decide) (fun K hK => ?_)
    refine goes_ Tryz.func39 (by kernel_rfl) rfl #[.agg #[.int .u8 6, .int .u64 code, .string ⟨#[]⟩, .slice none 0 0], .agg #[.int .u8 22, .int .u64 0, .string ⟨#[]⟩, .slice Al (l.take (m + 1)).length cl]] (by rfl) rfl rfl (by (try simp only [List.map_toArray, List.map_cons, List.map_nil]); first | done | rfl) ?_
    refine (desc28_any ⟨6, code, ⟨#[]⟩, []⟩ ⟨22, 0, ⟨#[]⟩, (l.take (m + 1))⟩ (by have := itemsL_take l (m + 1); simp only [itemsN, itemsL]; omega) none Al 0 cl _ (C_none _) (Nat.le_refl _) HCl3.out hcl).mono ?_
    rintro e wk4 ⟨vd, rfl, hRd, hb4⟩
    obtain ⟨Ad, cd, rfl⟩ := Kd.R_slice hRd
    have HRD := Aside0.mk (Kd.R_bound hRd)
    have hltb := hS3.lt
    refine ⟨_, rfl, ?_⟩
    have hS4 : Blk wk4 b #[.int .u8 0, .int .u64 0, .string ⟨#[]⟩, .slice none 0 0] 25 := hS3.below hb4
    have HAL4 := Aside0.mk (Kd.C_below HAL3.out hb4)
    have HB04 := Aside0.mk (below_step HB03.out hb4)
    have HCl4 := Aside0.mk (Kd.C_below HCl3.out hb4)
    refine hK.out _ _ hS4 (fun _ => ?_)
    clear hK K hb4 hS3
    refine norm_ (a' := ?_) ?_ ?_
    rotate_left
    ·try simp only [Act.put, putAll, List.setIfInBounds_toArray, List.set_cons_zero, List.set_cons_succ]
     rfl
    refine last_ (i := 7) (N := none) #[tt,tt,tt,tt,tt,tt,tt,tt] rfl rfl (by kernel_rfl) (by decide) (fun K hK => ?_)
    rw [if_pos (by rfl)]
    obtain ⟨e0, e1, e2, e3⟩ := hS4.c4
    have fz := hS4.fz
    unfold Oper.wp
    go_simp
    refine hK.out _ _ ?_
    refine done_ (by kernel_rfl) ?_
    go_wp2_with fail
    have hge : w.heap.size ≤ b := Nat.le_of_eq BB.out
    have hsz := HB03.out.size
    refine bodyPost_ret (results_cell_row rfl _ _ b 25 #[.int .u8 25, .int .u64 0, .string ⟨#[]⟩, .slice Ad 2 cd] (0, 0) _ rfl (by
     refine blk_put (cs := #[.int .u8 25, .int .u64 0, .string ⟨#[]⟩, .slice none 0 0]) ?_ 3 _ rfl
     refine blk_put (cs := #[.int .u8 25, .int .u64 0, .string ⟨#[]⟩, .slice none 0 0]) ?_ 2 _ rfl
     refine blk_put (cs := #[.int .u8 25, .int .u64 0, .string ⟨#[]⟩, .slice none 0 0]) ?_ 1 _ rfl
     refine blk_put (cs := #[.int .u8 0, .int .u64 0, .string ⟨#[]⟩, .slice none 0 0]) ?_ 0 _ rfl
     exact hS4) Tryz.underlying25 rfl (by kernel_rfl)) rfl ?_
    have hpv : putV code l = ⟨25, 0, ⟨#[]⟩, [⟨6, code, ⟨#[]⟩, []⟩, ⟨22, 0, ⟨#[]⟩, (l.take (m + 1))⟩]⟩ := by unfold putV trimL; rw [← HTN.out]
    refine ⟨Ad, cd, rfl, ?_, below_set (below_set (below_set (below_set HB04.out hge) hge) hge) hge⟩
    rw [hpv]
    exact Kd.R_mono (Kd.R_lower (Kd.R_far (Kd.R_far (Kd.R_far (Kd.R_far (Kd.R_mono (ok' := fun j => j ≠ b) HRD.out (fun j hj => by have := hj.2.1; omega)) (fun _ h => h) _) (fun _ h => h) _) (fun _ h => h) _) (fun _ h => h) _) (by omega)) (fun _ _ => trivial)
  ·obtain rfl : m = 0 := by omega
   have HTN : Aside0 (0 = trimTo l l.length) := ⟨by rw [← HT.out]; rfl⟩
   have hn : 0 ≤ l.length := Nat.zero_le _
   clear HT HG h0 hm
   go_wp2_with fail
   have bR := BR.out
   clear BR
   refine start_ (n := 8) (S := fun w' => Blk w' b #[.int .u8 0, .int .u64 0, .string ⟨#[]⟩, .slice none 0 0] 25) (ds := [7]) #[ff,ff,ff,ff,ff,ff,ff,ff] (by kernel_rfl) rfl rfl bR (fun hS => ?_)
   replace HAL := Aside0.mk (Kd.C_below HAL.out (below_drew (Below.refl _ _)))
   replace HB0 := Aside0.mk (below_drew HB0.out)
   generalize w1.drew = wd5 at HAL HB0 hS ⊢
   clear bR
   refine pure_ (i := 0) (N := some 21) (v := ?_) (a' := ?_) #[tt,ff,ff,ff,ff,ff,ff,ff] rfl rfl (by kernel_rfl) (fun _ _ _ h => h) (Or.inl ⟨by rfl, ?_⟩) ?_ ?_
   rotate_left
   ·intro w'
    go_simp
    with_reducible rfl
   rotate_left
   ·simp only [Act.put, List.setIfInBounds_toArray, List.set_cons_zero, List.set_cons_succ, i64_w, i32_w]
    rfl
   refine pure_ (i := 2) (N := some 23) (v := ?_) (a' := ?_) #[tt,ff,tt,ff,ff,ff,ff,ff] rfl rfl (by kernel_rfl) (fun _ _ _ h => h) (Or.inl ⟨by rfl, ?_⟩) ?_ ?_
   rotate_left
   ·intro w'
    go_simp
    with_reducible rfl
   rotate_left
   ·simp only [Act.put, List.setIfInBounds_toArray, List.set_cons_zero, List.set_cons_succ, i64_w, i32_w]
    rfl
   refine pure_ (i := 3) (N := some 24) (v := ?_) (a' := ?_) #[tt,ff,tt,tt,ff,ff,ff,ff] rfl rfl (by kernel_rfl) (fun _ _ _ h => h) (Or.inl ⟨by rfl, ?_⟩) ?_ ?_
   rotate_left
   ·intro w'
    go_simp
    with_reducible rfl
   rotate_left
   ·simp only [Act.put, List.setIfInBounds_toArray, List.set_cons_zero, List.set_cons_succ, i64_w, i32_w]
    rfl
   refine pure_ (i := 4) (N := some 25) (v := ?_) (a' := ?_) #[tt,ff,tt,tt,tt,ff,ff,ff] rfl rfl (by kernel_rfl) (fun _ _ _ h => h) (Or.inl ⟨by rfl, ?_⟩) ?_ ?_
   rotate_left
   ·intro w'
    go_simp
    with_reducible rfl
   rotate_left
   ·simp only [Act.put, List.setIfInBounds_toArray, List.set_cons_zero, List.set_cons_succ, i64_w, i32_w]
    rfl
   refine one_ (i := 1) (N := some 22) #[tt,tt,tt,tt,tt,ff,ff,ff] rfl rfl (by kernel_rfl) (by decide) (fun K hK => ?_)
   refine goes_ Tryz.func18 (by kernel_rfl) rfl #[.int .u8 6, .int .u64 code] (by rfl) rfl rfl (by (try simp only [List.map_toArray, List.map_cons, List.map_nil]); first | done | rfl) ?_
   refine (number23_any 6 code _).mono ?_
   rintro e wk6 ⟨rfl, hb6⟩
   refine ⟨_, rfl, ?_⟩
   have hS6 : Blk wk6 b #[.int .u8 0, .int .u64 0, .string ⟨#[]⟩, .slice none 0 0] 25 := hS.below hb6
   have HAL6 := Aside0.mk (Kd.C_below HAL.out hb6)
   have HB06 := Aside0.mk (below_step HB0.out hb6)
   refine hK.out _ _ hS6 (fun _ => ?_)
   clear hK K hb6
   refine norm_ (a' := ?_) ?_ ?_
   rotate_left
   ·try simp only [Act.put, putAll, List.setIfInBounds_toArray, List.set_cons_zero, List.set_cons_succ]
    rfl
   refine one_ (i := 5) (N := some 26) #[tt,tt,tt,tt,tt,tt,ff,ff] rfl rfl (by kernel_rfl) (by decide) (fun K hK => ?_)
   refine goes_ Tryz.func40 (by kernel_rfl) rfl #[.int .u8 22, .slice A 0 c] (by rfl) rfl rfl (by (try simp only [List.map_toArray, List.map_cons, List.map_nil]); first | done | rfl) ?_
   refine (many_take21 0 hn (by omega) A c _ HAL6.out hc).mono ?_
   rintro e wk7 ⟨Al, cl, rfl, hRl, hb7⟩
   have hcl := (Kd.R_reads' hRl).2.1
   have HCl7 := Aside0.mk (Kd.R_reads' hRl).2.2
   refine ⟨_, rfl, ?_⟩
   have hS7 : Blk wk7 b #[.int .u8 0, .int .u64 0, .string ⟨#[]⟩, .slice none 0 0] 25 := hS6.below hb7
   have HAL7 := Aside0.mk (Kd.C_below HAL6.out hb7)
   have HB07 := Aside0.mk (below_step HB06.out hb7)
   refine hK.out _ _ hS7 (fun _ => ?_)
   clear hK K hb7 hS6
   refine norm_ (a' := ?_) ?_ ?_
   rotate_left
   ·try simp only [Act.put, putAll, List.setIfInBounds_toArray, List.set_cons_zero, List.set_cons_succ]
    rfl
   refine one_ (i := 6) (N := some 27) #[tt,tt,tt,tt,tt,tt,tt,ff] rfl rfl (by kernel_rfl) (by decide) (fun K hK => ?_)
   refine goes_ Tryz.func39 (by kernel_rfl) rfl #[.agg #[.int .u8 6, .int .u64 code, .string ⟨#[]⟩, .slice none 0 0], .agg #[.int .u8 22, .int .u64 0, .string ⟨#[]⟩, .slice Al (l.take 0).length cl]] (by rfl) rfl rfl (by (try simp only [List.map_toArray, List.map_cons, List.map_nil]); first | done | rfl) ?_
   refine (desc28_any ⟨6, code, ⟨#[]⟩, []⟩ ⟨22, 0, ⟨#[]⟩, (l.take 0)⟩ (by have := itemsL_take l 0; simp only [itemsN, itemsL]; omega) none Al 0 cl _ (C_none _) (Nat.le_refl _) HCl7.out hcl).mono ?_
   rintro e wk8 ⟨vd, rfl, hRd, hb8⟩
   obtain ⟨Ad, cd, rfl⟩ := Kd.R_slice hRd
   have HRD := Aside0.mk (Kd.R_bound hRd)
   have hltb := hS7.lt
   refine ⟨_, rfl, ?_⟩
   have hS8 : Blk wk8 b #[.int .u8 0, .int .u64 0, .string ⟨#[]⟩, .slice none 0 0] 25 := hS7.below hb8
   have HAL8 := Aside0.mk (Kd.C_below HAL7.out hb8)
   have HB08 := Aside0.mk (below_step HB07.out hb8)
   have HCl8 := Aside0.mk (Kd.C_below HCl7.out hb8)
   refine hK.out _ _ hS8 (fun _ => ?_)
   clear hK K hb8 hS7
   refine norm_ (a' := ?_) ?_ ?_
   rotate_left
   ·try simp only [Act.put, putAll, List.setIfInBounds_toArray, List.set_cons_zero, List.set_cons_succ]
    rfl
   refine last_ (i := 7) (N := none) #[tt,tt,tt,tt,tt,tt,tt,tt] rfl rfl (by kernel_rfl) (by decide) (fun K hK => ?_)
   rw [if_pos (by rfl)]
   obtain ⟨e0, e1, e2, e3⟩ := hS8.c4
   have fz := hS8.fz
   unfold Oper.wp
   go_simp
   refine hK.out _ _ ?_
   refine done_ (by kernel_rfl) ?_
   go_wp2_with fail
   have hge : w.heap.size ≤ b := Nat.le_of_eq BB.out
   have hsz := HB07.out.size
   refine bodyPost_ret (results_cell_row rfl _ _ b 25 #[.int .u8 25, .int .u64 0, .string ⟨#[]⟩, .slice Ad 2 cd] (0, 0) _ rfl (by
    refine blk_put (cs := #[.int .u8 25, .int .u64 0, .string ⟨#[]⟩, .slice none 0 0]) ?_ 3 _ rfl
    refine blk_put (cs := #[.int .u8 25, .int .u64 0, .string ⟨#[]⟩, .slice none 0 0]) ?_ 2 _ rfl
    refine blk_put (cs := #[.int .u8 25, .int .u64 0, .string ⟨#[]⟩, .slice none 0 0]) ?_ 1 _ rfl
    refine blk_put (cs := #[.int .u8 0, .int .u64 0, .string ⟨#[]⟩, .slice none 0 0]) ?_ 0 _ rfl
    exact hS8) Tryz.underlying25 rfl (by kernel_rfl)) rfl ?_
   have hpv : putV code l = ⟨25, 0, ⟨#[]⟩, [⟨6, code, ⟨#[]⟩, []⟩, ⟨22, 0, ⟨#[]⟩, (l.take 0)⟩]⟩ := by unfold putV trimL; rw [← HTN.out]
   refine ⟨Ad, cd, rfl, ?_, below_set (below_set (below_set (below_set HB08.out hge) hge) hge) hge⟩
   rw [hpv]
   exact Kd.R_mono (Kd.R_lower (Kd.R_far (Kd.R_far (Kd.R_far (Kd.R_far (Kd.R_mono (ok' := fun j => j ≠ b) HRD.out (fun j hj => by have := hj.2.1; omega)) (fun _ h => h) _) (fun _ h => h) _) (fun _ h => h) _) (fun _ h => h) _) (by omega)) (fun _ _ => trivial)
theorem rput40_any (code : Int) (l : List S25) (hs : itemsL l ≤ 4000000000) (A : Option Addr) (c : Nat) (w : World) (ha : k25.C w A l.length l) (hc : l.length ≤ c) :
  Calls Tryz.prog 25 #[.int .u64 code, .slice A l.length c] w fun e w' => ∃ A' c', e = .returned (.agg #[.int .u8 25, .int .u64 0, .string ⟨#[]⟩, .slice A' 2 c']) ∧ k25.R 25 w' w.heap.size (fun _ => True) (.slice A' 2 c') (putV code l).f3 ∧ Below w.heap.size w w' := by
 have HA := Aside0.mk ha
 have hll : l.length ≤ 4000000000 := by have := itemsL_length l; omega
 have hit := itemsL_trim l
 have bR0 := Blk.new w #[.int .u8 0, .int .u64 0, .string ⟨#[]⟩, .slice none 0 0] 25
 have hal := below_alloc (Below.refl w.heap.size w) (.cells #[.int .u8 0, .int .u64 0, .string ⟨#[]⟩, .slice none 0 0] 25)
 have HAL := Aside0.mk (Kd.C_below ha hal)
 have HB0 := Aside0.mk hal
 clear ha hal
 go_enter Tryz.func25, Tryz.ntmps25
 go_wp2_with fail
 obtain ⟨b, eb⟩ : ∃ b, w.heap.size = b := ⟨_, rfl⟩
 obtain ⟨w1, ew⟩ : ∃ W, w.alloc (.cells #[.int .u8 0, .int .u64 0, .string ⟨#[]⟩, .slice none 0 0] 25) = W := ⟨_, rfl⟩
 have BB := Aside0.mk eb
 rw [ew] at bR0 HAL HB0 ⊢
 rw [eb] at bR0 ⊢
 have BR := Aside0.mk bR0
 clear ew eb bR0
 go_loopg [5] l.length (fun gk v5 wr => ∃ m : Nat, v5 = .int .i64 (m : Int) ∧ Aside0 (m ≤ l.length ∧ gk = m ∧ trimTo l m = trimTo l l.length) ∧ w1 = wr)
 case atStart => exact ⟨l.length, rfl, ⟨Nat.le_refl _, rfl, rfl⟩, rfl⟩
 case round =>
  obtain ⟨m, rfl, HM, rfl⟩ := hrel
  obtain ⟨hm, hgk, hT⟩ := HM.out
  have HG := Aside0.mk hgk
  have HT := Aside0.mk hT
  clear HM hgk hT
  by_cases h0 : 0 < m
  ·obtain ⟨m, rfl⟩ : ∃ k, m = k + 1 := ⟨m - 1, by omega⟩
   obtain ⟨ad, Ax, cx, eA, hx0, hx1, hx2, hx3, hlx, hCx⟩ := at_T25 HAL.out (m : Int) (by omega) (by omega)
   cases eA
   rw [Int.toNat_natCast] at hx0
   clear hx1 hx2 hx3 hCx hlx
   have hw : ((m + 1 : Nat) : Int) - 1 = (m : Int) := by omega
   have hml : m < l.length := by omega
   have hdef : trimTo l (m + 1) = if (rd_T25 l (m : Int)).f0 = 1 then trimTo l m else m + 1 := rfl
   by_cases hk : (rd_T25 l (m : Int)).f0 = 1
   ·have hk' : ((rd_T25 l (m : Int)).f0 == 1) = true := by rw [hk]; rfl
    rw [if_pos hk, HT.out] at hdef
    have HT2 := Aside0.mk hdef.symm
    clear hk hdef
    go_wp2_with fail
    go_roundg m
    case measure => rw [HG.out]; omega
    case rel => exact ⟨m, by go_num, ⟨by omega, rfl, HT2.out⟩, rfl⟩
   ·have hk' : ((rd_T25 l (m : Int)).f0 == 1) = false := by simp [hk]
    rw [if_neg hk, HT.out] at hdef
    have HT2 := Aside0.mk hdef.symm
    clear hk hdef
    go_wp2_with fail
    have hn : m + 1 ≤ l.length := hm
    have hz1 : (0 : Int) ≤ (m : Int) + 1 := by omega
    have hz2 : (m : Int) + 1 ≤ (c : Int) := by omega
    have HTN := HT2
    clear hx0 hw hml hk' h0 HG HT HT2
    have bR := BR.out
    clear BR
    refine start_ (n := 8) (S := fun w' => Blk w' b #[.int .u8 0, .int .u64 0, .string ⟨#[]⟩, .slice none 0 0] 25) (ds := [7]) #[ff,ff,ff,ff,ff,ff,ff,ff] (by kernel_rfl) rfl rfl bR (fun hS => ?_)
    replace HAL := Aside0.mk (Kd.C_below HAL.out (below_drew (Below.refl _ _)))
    replace HB0 := Aside0.mk (below_drew HB0.out)
    generalize w1.drew = wd9 at HAL HB0 hS ⊢
    clear bR
    refine pure_ (i := 0) (N := some 21) (v := ?_) (a' := ?_) #[tt,ff,ff,ff,ff,ff,ff,ff] rfl rfl (by kernel_rfl) (fun _ _ _ h => h) (Or.inl ⟨by rfl, ?_⟩) ?_ ?_
    rotate_left
    ·intro w'
     go_simp
     with_reducible rfl
    rotate_left
    ·simp only [Act.put, List.setIfInBounds_toArray, List.set_cons_zero, List.set_cons_succ, i64_w, i32_w]
     rfl
    refine pure_ (i := 2) (N := some 23) (v := ?_) (a' := ?_) #[tt,ff,tt,ff,ff,ff,ff,ff] rfl rfl (by kernel_rfl) (fun _ _ _ h => h) (Or.inl ⟨by rfl, ?_⟩) ?_ ?_
    rotate_left
    ·intro w'
     go_simp
     with_reducible rfl
    rotate_left
    ·simp only [Act.put, List.setIfInBounds_toArray, List.set_cons_zero, List.set_cons_succ, i64_w, i32_w]
     rfl
    refine pure_ (i := 3) (N := some 24) (v := ?_) (a' := ?_) #[tt,ff,tt,tt,ff,ff,ff,ff] rfl rfl (by kernel_rfl) (fun _ _ _ h => h) (Or.inl ⟨by rfl, ?_⟩) ?_ ?_
    rotate_left
    ·intro w'
     go_simp
     with_reducible rfl
    rotate_left
    ·simp only [Act.put, List.setIfInBounds_toArray, List.set_cons_zero, List.set_cons_succ, i64_w, i32_w]
     rfl
    refine pure_ (i := 4) (N := some 25) (v := ?_) (a' := ?_) #[tt,ff,tt,tt,tt,ff,ff,ff] rfl rfl (by kernel_rfl) (fun _ _ _ h => h) (Or.inl ⟨by rfl, ?_⟩) ?_ ?_
    rotate_left
    ·intro w'
     go_simp
     with_reducible rfl
    rotate_left
    ·simp only [Act.put, List.setIfInBounds_toArray, List.set_cons_zero, List.set_cons_succ, i64_w, i32_w]
     rfl
    refine one_ (i := 1) (N := some 22) #[tt,tt,tt,tt,tt,ff,ff,ff] rfl rfl (by kernel_rfl) (by decide) (fun K hK => ?_)
    refine goes_ Tryz.func42 (by kernel_rfl) rfl #[.int .u8 6, .int .u64 code] (by rfl) rfl rfl (by (try simp only [List.map_toArray, List.map_cons, List.map_nil]); first | done | rfl) ?_
    refine (number67_any 6 code _).mono ?_
    rintro e wk10 ⟨rfl, hb10⟩
    refine ⟨_, rfl, ?_⟩
    have hS10 : Blk wk10 b #[.int .u8 0, .int .u64 0, .string ⟨#[]⟩, .slice none 0 0] 25 := hS.below hb10
    have HAL10 := Aside0.mk (Kd.C_below HAL.out hb10)
    have HB010 := Aside0.mk (below_step HB0.out hb10)
    refine hK.out _ _ hS10 (fun _ => ?_)
    clear hK K hb10
    refine norm_ (a' := ?_) ?_ ?_
    rotate_left
    ·try simp only [Act.put, putAll, List.setIfInBounds_toArray, List.set_cons_zero, List.set_cons_succ]
     rfl
    refine one_ (i := 5) (N := some 26) #[tt,tt,tt,tt,tt,tt,ff,ff] rfl rfl (by kernel_rfl) (by decide) (fun K hK => ?_)
    refine goes_ Tryz.func43 (by kernel_rfl) rfl #[.int .u8 22, .slice (some ad) (m + 1) c] (by rfl) rfl rfl (by (try simp only [List.map_toArray, List.map_cons, List.map_nil]); first | done | rfl) ?_
    refine (many_take25 (m + 1) hn (by omega) (some ad) c _ HAL10.out hc).mono ?_
    rintro e wk11 ⟨Al, cl, rfl, hRl, hb11⟩
    have hcl := (Kd.R_reads' hRl).2.1
    have HCl11 := Aside0.mk (Kd.R_reads' hRl).2.2
    refine ⟨_, rfl, ?_⟩
    have hS11 : Blk wk11 b #[.int .u8 0, .int .u64 0, .string ⟨#[]⟩, .slice none 0 0] 25 := hS10.below hb11
    have HAL11 := Aside0.mk (Kd.C_below HAL10.out hb11)
    have HB011 := Aside0.mk (below_step HB010.out hb11)
    refine hK.out _ _ hS11 (fun _ => ?_)
    clear hK K hb11 hS10
    refine norm_ (a' := ?_) ?_ ?_
    rotate_left
    ·try simp only [Act.put, putAll, List.setIfInBounds_toArray, List.set_cons_zero, List.set_cons_succ]
     rfl
    refine one_ (i := 6) (N := some 27) #[tt,tt,tt,tt,tt,tt,tt,ff] rfl rfl (by kernel_rfl) (by decide) (fun K hK => ?_)
    refine goes_ Tryz.func41 (by kernel_rfl) rfl #[.agg #[.int .u8 6, .int .u64 code, .string ⟨#[]⟩, .slice none 0 0], .agg #[.int .u8 22, .int .u64 0, .string ⟨#[]⟩, .slice Al (l.take (m + 1)).length cl]] (by rfl) rfl rfl (by (try simp only [List.map_toArray, List.map_cons, List.map_nil]); first | done | rfl) ?_
    refine (rdesc29_any ⟨6, code, ⟨#[]⟩, []⟩ ⟨22, 0, ⟨#[]⟩, (l.take (m + 1))⟩ (by simp [itemsN, itemsL]) (by have := itemsL_take l (m + 1); simp only [itemsN]; omega) none Al 0 cl _ (C_none _) (Nat.le_refl _) HCl11.out hcl).mono ?_
    rintro e wk12 ⟨vd, rfl, hRd, hb12⟩
    obtain ⟨Ad, cd, rfl⟩ := Kd.R_slice hRd
    have HRD := Aside0.mk (Kd.R_bound hRd)
    have hltb := hS11.lt
    refine ⟨_, rfl, ?_⟩
    have hS12 : Blk wk12 b #[.int .u8 0, .int .u64 0, .string ⟨#[]⟩, .slice none 0 0] 25 := hS11.below hb12
    have HAL12 := Aside0.mk (Kd.C_below HAL11.out hb12)
    have HB012 := Aside0.mk (below_step HB011.out hb12)
    have HCl12 := Aside0.mk (Kd.C_below HCl11.out hb12)
    refine hK.out _ _ hS12 (fun _ => ?_)
    clear hK K hb12 hS11
    refine norm_ (a' := ?_) ?_ ?_
    rotate_left
    ·try simp only [Act.put, putAll, List.setIfInBounds_toArray, List.set_cons_zero, List.set_cons_succ]
     rfl
    refine last_ (i := 7) (N := none) #[tt,tt,tt,tt,tt,tt,tt,tt] rfl rfl (by kernel_rfl) (by decide) (fun K hK => ?_)
    rw [if_pos (by rfl)]
    obtain ⟨e0, e1, e2, e3⟩ := hS12.c4
    have fz := hS12.fz
    unfold Oper.wp
    go_simp
    refine hK.out _ _ ?_
    refine done_ (by kernel_rfl) ?_
    go_wp2_with fail
    have hge : w.heap.size ≤ b := Nat.le_of_eq BB.out
    have hsz := HB011.out.size
    refine bodyPost_ret (results_cell_row rfl _ _ b 25 #[.int .u8 25, .int .u64 0, .string ⟨#[]⟩, .slice Ad 2 cd] (0, 0) _ rfl (by
     refine blk_put (cs := #[.int .u8 25, .int .u64 0, .string ⟨#[]⟩, .slice none 0 0]) ?_ 3 _ rfl
     refine blk_put (cs := #[.int .u8 25, .int .u64 0, .string ⟨#[]⟩, .slice none 0 0]) ?_ 2 _ rfl
     refine blk_put (cs := #[.int .u8 25, .int .u64 0, .string ⟨#[]⟩, .slice none 0 0]) ?_ 1 _ rfl
     refine blk_put (cs := #[.int .u8 0, .int .u64 0, .string ⟨#[]⟩, .slice none 0 0]) ?_ 0 _ rfl
     exact hS12) Tryz.underlying25 rfl (by kernel_rfl)) rfl ?_
    have hpv : putV code l = ⟨25, 0, ⟨#[]⟩, [⟨6, code, ⟨#[]⟩, []⟩, ⟨22, 0, ⟨#[]⟩, (l.take (m + 1))⟩]⟩ := by unfold putV trimL; rw [← HTN.out]
    refine ⟨Ad, cd, rfl, ?_, below_set (below_set (below_set (below_set HB012.out hge) hge) hge) hge⟩
    rw [hpv]
    exact Kd.R_mono (Kd.R_lower (Kd.R_far (Kd.R_far (Kd.R_far (Kd.R_far (Kd.R_mono (ok' := fun j => j ≠ b) HRD.out (fun j hj => by have := hj.2.1; omega)) (fun _ h => h) _) (fun _ h => h) _) (fun _ h => h) _) (fun _ h => h) _) (by omega)) (fun _ _ => trivial)
  ·obtain rfl : m = 0 := by omega
   have HTN : Aside0 (0 = trimTo l l.length) := ⟨by rw [← HT.out]; rfl⟩
   have hn : 0 ≤ l.length := Nat.zero_le _
   clear HT HG h0 hm
   go_wp2_with fail
   have bR := BR.out
   clear BR
   refine start_ (n := 8) (S := fun w' => Blk w' b #[.int .u8 0, .int .u64 0, .string ⟨#[]⟩, .slice none 0 0] 25) (ds := [7]) #[ff,ff,ff,ff,ff,ff,ff,ff] (by kernel_rfl) rfl rfl bR (fun hS => ?_)
   replace HAL := Aside0.mk (Kd.C_below HAL.out (below_drew (Below.refl _ _)))
   replace HB0 := Aside0.mk (below_drew HB0.out)
   generalize w1.drew = wd13 at HAL HB0 hS ⊢
   clear bR
   refine pure_ (i := 0) (N := some 21) (v := ?_) (a' := ?_) #[tt,ff,ff,ff,ff,ff,ff,ff] rfl rfl (by kernel_rfl) (fun _ _ _ h => h) (Or.inl ⟨by rfl, ?_⟩) ?_ ?_
   rotate_left
   ·intro w'
    go_simp
    with_reducible rfl
   rotate_left
   ·simp only [Act.put, List.setIfInBounds_toArray, List.set_cons_zero, List.set_cons_succ, i64_w, i32_w]
    rfl
   refine pure_ (i := 2) (N := some 23) (v := ?_) (a' := ?_) #[tt,ff,tt,ff,ff,ff,ff,ff] rfl rfl (by kernel_rfl) (fun _ _ _ h => h) (Or.inl ⟨by rfl, ?_⟩) ?_ ?_
   rotate_left
   ·intro w'
    go_simp
    with_reducible rfl
   rotate_left
   ·simp only [Act.put, List.setIfInBounds_toArray, List.set_cons_zero, List.set_cons_succ, i64_w, i32_w]
    rfl
   refine pure_ (i := 3) (N := some 24) (v := ?_) (a' := ?_) #[tt,ff,tt,tt,ff,ff,ff,ff] rfl rfl (by kernel_rfl) (fun _ _ _ h => h) (Or.inl ⟨by rfl, ?_⟩) ?_ ?_
   rotate_left
   ·intro w'
    go_simp
    with_reducible rfl
   rotate_left
   ·simp only [Act.put, List.setIfInBounds_toArray, List.set_cons_zero, List.set_cons_succ, i64_w, i32_w]
    rfl
   refine pure_ (i := 4) (N := some 25) (v := ?_) (a' := ?_) #[tt,ff,tt,tt,tt,ff,ff,ff] rfl rfl (by kernel_rfl) (fun _ _ _ h => h) (Or.inl ⟨by rfl, ?_⟩) ?_ ?_
   rotate_left
   ·intro w'
    go_simp
    with_reducible rfl
   rotate_left
   ·simp only [Act.put, List.setIfInBounds_toArray, List.set_cons_zero, List.set_cons_succ, i64_w, i32_w]
    rfl
   refine one_ (i := 1) (N := some 22) #[tt,tt,tt,tt,tt,ff,ff,ff] rfl rfl (by kernel_rfl) (by decide) (fun K hK => ?_)
   refine goes_ Tryz.func42 (by kernel_rfl) rfl #[.int .u8 6, .int .u64 code] (by rfl) rfl rfl (by (try simp only [List.map_toArray, List.map_cons, List.map_nil]); first | done | rfl) ?_
   refine (number67_any 6 code _).mono ?_
   rintro e wk14 ⟨rfl, hb14⟩
   refine ⟨_, rfl, ?_⟩
   have hS14 : Blk wk14 b #[.int .u8 0, .int .u64 0, .string ⟨#[]⟩, .slice none 0 0] 25 := hS.below hb14
   have HAL14 := Aside0.mk (Kd.C_below HAL.out hb14)
   have HB014 := Aside0.mk (below_step HB0.out hb14)
   refine hK.out _ _ hS14 (fun _ => ?_)
   clear hK K hb14
   refine norm_ (a' := ?_) ?_ ?_
   rotate_left
   ·try simp only [Act.put, putAll, List.setIfInBounds_toArray, List.set_cons_zero, List.set_cons_succ]
    rfl
   refine one_ (i := 5) (N := some 26) #[tt,tt,tt,tt,tt,tt,ff,ff] rfl rfl (by kernel_rfl) (by decide) (fun K hK => ?_)
   refine goes_ Tryz.func43 (by kernel_rfl) rfl #[.int .u8 22, .slice A 0 c] (by rfl) rfl rfl (by (try simp only [List.map_toArray, List.map_cons, List.map_nil]); first | done | rfl) ?_
   refine (many_take25 0 hn (by omega) A c _ HAL14.out hc).mono ?_
   rintro e wk15 ⟨Al, cl, rfl, hRl, hb15⟩
   have hcl := (Kd.R_reads' hRl).2.1
   have HCl15 := Aside0.mk (Kd.R_reads' hRl).2.2
   refine ⟨_, rfl, ?_⟩
   have hS15 : Blk wk15 b #[.int .u8 0, .int .u64 0, .string ⟨#[]⟩, .slice none 0 0] 25 := hS14.below hb15
   have HAL15 := Aside0.mk (Kd.C_below HAL14.out hb15)
   have HB015 := Aside0.mk (below_step HB014.out hb15)
   refine hK.out _ _ hS15 (fun _ => ?_)
   clear hK K hb15 hS14
   refine norm_ (a' := ?_) ?_ ?_
   rotate_left
   ·try simp only [Act.put, putAll, List.setIfInBounds_toArray, List.set_cons_zero, List.set_cons_succ]
    rfl
   refine one_ (i := 6) (N := some 27) #[tt,tt,tt,tt,tt,tt,tt,ff] rfl rfl (by kernel_rfl) (by decide) (fun K hK => ?_)
   refine goes_ Tryz.func41 (by kernel_rfl) rfl #[.agg #[.int .u8 6, .int .u64 code, .string ⟨#[]⟩, .slice none 0 0], .agg #[.int .u8 22, .int .u64 0, .string ⟨#[]⟩, .slice Al (l.take 0).length cl]] (by rfl) rfl rfl (by (try simp only [List.map_toArray, List.map_cons, List.map_nil]); first | done | rfl) ?_
   refine (rdesc29_any ⟨6, code, ⟨#[]⟩, []⟩ ⟨22, 0, ⟨#[]⟩, (l.take 0)⟩ (by simp [itemsN, itemsL]) (by have := itemsL_take l 0; simp only [itemsN]; omega) none Al 0 cl _ (C_none _) (Nat.le_refl _) HCl15.out hcl).mono ?_
   rintro e wk16 ⟨vd, rfl, hRd, hb16⟩
   obtain ⟨Ad, cd, rfl⟩ := Kd.R_slice hRd
   have HRD := Aside0.mk (Kd.R_bound hRd)
   have hltb := hS15.lt
   refine ⟨_, rfl, ?_⟩
   have hS16 : Blk wk16 b #[.int .u8 0, .int .u64 0, .string ⟨#[]⟩, .slice none 0 0] 25 := hS15.below hb16
   have HAL16 := Aside0.mk (Kd.C_below HAL15.out hb16)
   have HB016 := Aside0.mk (below_step HB015.out hb16)
   have HCl16 := Aside0.mk (Kd.C_below HCl15.out hb16)
   refine hK.out _ _ hS16 (fun _ => ?_)
   clear hK K hb16 hS15
   refine norm_ (a' := ?_) ?_ ?_
   rotate_left
   ·try simp only [Act.put, putAll, List.setIfInBounds_toArray, List.set_cons_zero, List.set_cons_succ]
    rfl
   refine last_ (i := 7) (N := none) #[tt,tt,tt,tt,tt,tt,tt,tt] rfl rfl (by kernel_rfl) (by decide) (fun K hK => ?_)
   rw [if_pos (by rfl)]
   obtain ⟨e0, e1, e2, e3⟩ := hS16.c4
   have fz := hS16.fz
   unfold Oper.wp
   go_simp
   refine hK.out _ _ ?_
   refine done_ (by kernel_rfl) ?_
   go_wp2_with fail
   have hge : w.heap.size ≤ b := Nat.le_of_eq BB.out
   have hsz := HB015.out.size
   refine bodyPost_ret (results_cell_row rfl _ _ b 25 #[.int .u8 25, .int .u64 0, .string ⟨#[]⟩, .slice Ad 2 cd] (0, 0) _ rfl (by
    refine blk_put (cs := #[.int .u8 25, .int .u64 0, .string ⟨#[]⟩, .slice none 0 0]) ?_ 3 _ rfl
    refine blk_put (cs := #[.int .u8 25, .int .u64 0, .string ⟨#[]⟩, .slice none 0 0]) ?_ 2 _ rfl
    refine blk_put (cs := #[.int .u8 25, .int .u64 0, .string ⟨#[]⟩, .slice none 0 0]) ?_ 1 _ rfl
    refine blk_put (cs := #[.int .u8 0, .int .u64 0, .string ⟨#[]⟩, .slice none 0 0]) ?_ 0 _ rfl
    exact hS16) Tryz.underlying25 rfl (by kernel_rfl)) rfl ?_
   have hpv : putV code l = ⟨25, 0, ⟨#[]⟩, [⟨6, code, ⟨#[]⟩, []⟩, ⟨22, 0, ⟨#[]⟩, (l.take 0)⟩]⟩ := by unfold putV trimL; rw [← HTN.out]
   refine ⟨Ad, cd, rfl, ?_, below_set (below_set (below_set (below_set HB016.out hge) hge) hge) hge⟩
   rw [hpv]
   exact Kd.R_mono (Kd.R_lower (Kd.R_far (Kd.R_far (Kd.R_far (Kd.R_far (Kd.R_mono (ok' := fun j => j ≠ b) HRD.out (fun j hj => by have := hj.2.1; omega)) (fun _ h => h) _) (fun _ h => h) _) (fun _ h => h) _) (fun _ h => h) _) (by omega)) (fun _ _ => trivial)
end Go.Proofs.YtdilbnggedidnaaGreat.PVal
