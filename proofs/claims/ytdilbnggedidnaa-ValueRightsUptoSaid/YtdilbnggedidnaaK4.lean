import Derived.Test.YtdilbnggedidnaaK3
namespace Go.Proofs.Ytdilbnggedidnaa.PVal
open Go.RowKit Go.Proofs.YtdilbnggedidnaaW.PrintWords Go.Proofs.YtdilbnggedidnaaW.PrintLast
attribute [local go_sem] max2_int max_two
set_option linter.unusedVariables false
set_option linter.unusedSimpArgs false
def bellwetherref04_Right.f (k : Nat) (a0_0 : Int) (a0_1 : Int) (a0_2 : ByteArray) (l0_3 : List (S25)) : Option (Bool) := (bellwetherref04_Items.f k a0_0 a0_1 a0_2 l0_3).bind fun t114 => (if t114 ≤ 1024 then ((bellwetherref04_Depth.f k a0_0 a0_1 a0_2 l0_3).bind fun t115 => (if t115 ≤ 16 then ((bellwetherref04_may.f k a0_0 a0_1 a0_2 l0_3).bind fun t116 => (some t116)) else (some false))) else (some false))
theorem bellwetherref04_Right.mono : ∀ a0 a1 a2 a3 k, LeO (bellwetherref04_Right.f k a0 a1 a2 a3) (bellwetherref04_Right.f (k + 1) a0 a1 a2 a3) := by
 intro a0 a1 a2 a3 k
 unfold bellwetherref04_Right.f
 repeat' first
   | (with_reducible exact bellwetherref04_Depth.mono _ _ _ _ _)
   | (with_reducible exact bellwetherref04_Items.mono _ _ _ _ _)
   | (with_reducible exact bellwetherref04_may.mono _ _ _ _ _)
   | (with_reducible exact LeO.refl _)
   | (with_reducible exact LeO.none _)
   | (with_reducible refine LeO.ite ?_ ?_)
   | (with_reducible refine LeO.bind ?_ (fun _ => ?_))
   | exact bellwetherref04_Depth.mono _ _ _ _ _
   | exact bellwetherref04_Items.mono _ _ _ _ _
   | exact bellwetherref04_may.mono _ _ _ _ _
   | exact LeO.none _
   | refine LeO.ite ?_ ?_
   | refine LeO.bind ?_ (fun _ => ?_)
set_option maxHeartbeats 8000000 in
set_option maxRecDepth 100000 in
theorem bellwetherref04_Right.calls (k : Nat) (a0_0 : Int) (a0_1 : Int) (a0_2 : ByteArray) (A0_3 : Option Addr) (c0_3 : Nat) (l0_3 : List (S25)) (r : Bool) (w : World) (hr0_3 : Kd.C k25 w A0_3 l0_3.length l0_3) (hc0_3 : l0_3.length ≤ c0_3) (h : bellwetherref04_Right.f k a0_0 a0_1 a0_2 l0_3 = some r) :
  Calls Try.prog 18 #[.agg #[.int .u8 a0_0, .int .u64 a0_1, .string a0_2, .slice A0_3 l0_3.length c0_3]] w fun e w' => e = .returned (.bool r) ∧ Below w.heap.size w w' := by
 have hu25 := Try.underlying25
 have HR0_3 := Aside0.mk hr0_3
 have HC0_3 := Aside0.mk hc0_3
 clear hr0_3 hc0_3
 have HB := Aside0.mk (Below.refl w.heap.size w)
 have H : ((bellwetherref04_Items.f k a0_0 a0_1 a0_2 l0_3).bind fun t114 => (if t114 ≤ 1024 then ((bellwetherref04_Depth.f k a0_0 a0_1 a0_2 l0_3).bind fun t115 => (if t115 ≤ 16 then ((bellwetherref04_may.f k a0_0 a0_1 a0_2 l0_3).bind fun t116 => (some t116)) else (some false))) else (some false))) = some r := h
 clear h
 replace H := Option.bind_eq_some_iff.mp H
 obtain ⟨t114, A20, H⟩ := H
 replace H : (if t114 ≤ 1024 then ((bellwetherref04_Depth.f k a0_0 a0_1 a0_2 l0_3).bind fun t115 => (if t115 ≤ 16 then ((bellwetherref04_may.f k a0_0 a0_1 a0_2 l0_3).bind fun t116 => (some t116)) else (some false))) else (some false)) = some r := H
 have A2 := Aside0.mk A20
 clear A20
 by_cases c3 : t114 ≤ 1024
 ·rw [if_pos c3] at H
  have c3b0 : decide (t114 ≤ 1024) = true := decide_eq_true c3
  clear c3
  replace H := Option.bind_eq_some_iff.mp H
  obtain ⟨t115, A40, H⟩ := H
  replace H : (if t115 ≤ 16 then ((bellwetherref04_may.f k a0_0 a0_1 a0_2 l0_3).bind fun t116 => (some t116)) else (some false)) = some r := H
  have A4 := Aside0.mk A40
  clear A40
  by_cases c5 : t115 ≤ 16
  ·rw [if_pos c5] at H
   have c5b0 : decide (t115 ≤ 16) = true := decide_eq_true c5
   clear c5
   replace H := Option.bind_eq_some_iff.mp H
   obtain ⟨t116, A60, H⟩ := H
   replace H : (some t116) = some r := H
   have A6 := Aside0.mk A60
   clear A60
   obtain rfl := Option.some.inj H
   go_enter Try.func18, Try.ntmps18
   go_wp2_with (first | ((with_reducible refine gate_dst (N := 1) rfl ?_); refine box_event ?hg (N := 1) ?hd (cs := #[.int .u8 a0_0, .int .u64 a0_1, .string a0_2, .slice A0_3 l0_3.length c0_3]) (t := 25) ?hr ?_; (case hd => rfl); (case hg => rfl); (case hr => first | (go_simp; done) | (go_simp; rfl)); intro gb113 hg w7 hbox hb; have n0_ := Aside0.mk (below_step (by repeat (first | (with_reducible first | exact HB.out | apply below_alloc | apply pw_below_drewN | apply below_drew1) | exact HB.out)) hb); have n1_ := Aside0.mk (hbox); have n2_ := Aside0.mk ((by rw [hg]; exact (below_size (by repeat (first | (with_reducible first | exact HB.out | apply below_alloc | apply pw_below_drewN | apply below_drew1) | exact HB.out))) : w.heap.size ≤ gb113)); have n3_ := Aside0.mk ((by rw [hg]; exact (below_size (by repeat (first | (with_reducible first | exact HB.out | apply below_alloc | apply pw_below_drewN | apply below_drew1) | exact HB.out))) : w.heap.size ≤ gb113)); clear HB; have HB := n0_; have BK113 := n1_; have GW113 := n2_; have GE113 := n3_; clear n0_ n1_ n2_ n3_; clear hb hbox hg; have hcz8_0 : w7.cell? ⟨gb113, 0, none⟩ = some (.int .u8 a0_0) := (blk_cell BK113.out 0).trans rfl; have hcz8_1 : w7.cell? ⟨gb113, 1, none⟩ = some (.int .u64 a0_1) := (blk_cell BK113.out 1).trans rfl; have hcz8_2 : w7.cell? ⟨gb113, 2, none⟩ = some (.string a0_2) := (blk_cell BK113.out 2).trans rfl; have hcz8_3 : w7.cell? ⟨gb113, 3, none⟩ = some (.slice A0_3 l0_3.length c0_3) := (blk_cell BK113.out 3).trans rfl; have hfz8_0 := blk_frozen BK113.out 0; have hfz8_1 := blk_frozen BK113.out 1; have hfz8_2 := blk_frozen BK113.out 2; have hfz8_3 := blk_frozen BK113.out 3) | ((with_reducible refine gate_callee (f := 35) rfl ?_); refine goesL_ (some 4) rfl rfl Try.func35 (by kernel_rfl) rfl #[.agg #[.int .u8 a0_0, .int .u64 a0_1, .string a0_2, .slice A0_3 l0_3.length c0_3]] rfl (by (try simp only [List.map_toArray, List.map_cons, List.map_nil]); first | done | rfl | (simp only [List.length_drop, List.length_take]; rfl)) ?_; (with_reducible refine (bellwetherref04_Items.calls k a0_0 a0_1 a0_2 _ _ l0_3 t114 _ ?side1 ?side2 A2.out).mono ?_); (case side1 => repeat (first | exact (Kd.C_below HR0_3.out HB.out) | (with_reducible refine Kd.C_alloc ?_ _) | (with_reducible refine Kd.C_drewN ?_ _) | (with_reducible refine Kd.C_drew ?_))); (case side2 => exact HC0_3.out); rintro e w9 ⟨rfl, hb⟩; refine ⟨_, rfl, ?_⟩; have n0_ := Aside0.mk (blk_below (g := gb113) (o := .cells #[.int .u8 a0_0, .int .u64 a0_1, .string a0_2, .slice A0_3 l0_3.length c0_3] 25 (0, 0)) (by (with_reducible repeat (first | refine blk_drewN ?_ _ | refine blk_drew ?_ | refine blk_alloc ?_ _)); exact BK113.out) hb); have n1_ := Aside0.mk (below_step (by repeat (first | (with_reducible first | exact HB.out | apply below_alloc | apply pw_below_drewN | apply below_drew1 | refine below_set ?_ GE113.out) | exact HB.out)) hb); clear BK113; clear HB; have BK113 := n0_; have HB := n1_; clear n0_ n1_; (try clear hb); (try clear hb2); (try clear hk); (try clear hi); have hcz10_0 : w9.cell? ⟨gb113, 0, none⟩ = some (.int .u8 a0_0) := (blk_cell BK113.out 0).trans rfl; have hcz10_1 : w9.cell? ⟨gb113, 1, none⟩ = some (.int .u64 a0_1) := (blk_cell BK113.out 1).trans rfl; have hcz10_2 : w9.cell? ⟨gb113, 2, none⟩ = some (.string a0_2) := (blk_cell BK113.out 2).trans rfl; have hcz10_3 : w9.cell? ⟨gb113, 3, none⟩ = some (.slice A0_3 l0_3.length c0_3) := (blk_cell BK113.out 3).trans rfl; have hfz10_0 := blk_frozen BK113.out 0; have hfz10_1 := blk_frozen BK113.out 1; have hfz10_2 := blk_frozen BK113.out 2; have hfz10_3 := blk_frozen BK113.out 3) | (go_at_call 33; (with_reducible refine (bellwetherref04_Depth.calls k a0_0 a0_1 a0_2 _ _ l0_3 t115 _ ?side1 ?side2 A4.out).mono ?_); (case side1 => repeat (first | exact (Kd.C_below HR0_3.out HB.out) | (with_reducible refine Kd.C_alloc ?_ _) | (with_reducible refine Kd.C_drewN ?_ _) | (with_reducible refine Kd.C_drew ?_))); (case side2 => exact HC0_3.out); rintro e w11 ⟨rfl, hb⟩; have n0_ := Aside0.mk (blk_below (g := gb113) (o := .cells #[.int .u8 a0_0, .int .u64 a0_1, .string a0_2, .slice A0_3 l0_3.length c0_3] 25 (0, 0)) (by (with_reducible repeat (first | refine blk_drewN ?_ _ | refine blk_drew ?_ | refine blk_alloc ?_ _)); exact BK113.out) hb); have n1_ := Aside0.mk (below_step (by repeat (first | (with_reducible first | exact HB.out | apply below_alloc | apply pw_below_drewN | apply below_drew1 | refine below_set ?_ GE113.out) | exact HB.out)) hb); clear BK113; clear HB; have BK113 := n0_; have HB := n1_; clear n0_ n1_; (try clear hb); (try clear hb2); (try clear hk); (try clear hi); have hcz12_0 : w11.cell? ⟨gb113, 0, none⟩ = some (.int .u8 a0_0) := (blk_cell BK113.out 0).trans rfl; have hcz12_1 : w11.cell? ⟨gb113, 1, none⟩ = some (.int .u64 a0_1) := (blk_cell BK113.out 1).trans rfl; have hcz12_2 : w11.cell? ⟨gb113, 2, none⟩ = some (.string a0_2) := (blk_cell BK113.out 2).trans rfl; have hcz12_3 : w11.cell? ⟨gb113, 3, none⟩ = some (.slice A0_3 l0_3.length c0_3) := (blk_cell BK113.out 3).trans rfl; have hfz12_0 := blk_frozen BK113.out 0; have hfz12_1 := blk_frozen BK113.out 1; have hfz12_2 := blk_frozen BK113.out 2; have hfz12_3 := blk_frozen BK113.out 3) | (go_at_call 58; (with_reducible refine (bellwetherref04_may.calls k a0_0 a0_1 a0_2 _ _ l0_3 t116 _ ?side1 ?side2 A6.out).mono ?_); (case side1 => repeat (first | exact (Kd.C_below HR0_3.out HB.out) | (with_reducible refine Kd.C_alloc ?_ _) | (with_reducible refine Kd.C_drewN ?_ _) | (with_reducible refine Kd.C_drew ?_))); (case side2 => exact HC0_3.out); rintro e w13 ⟨rfl, hb⟩; have n0_ := Aside0.mk (blk_below (g := gb113) (o := .cells #[.int .u8 a0_0, .int .u64 a0_1, .string a0_2, .slice A0_3 l0_3.length c0_3] 25 (0, 0)) (by (with_reducible repeat (first | refine blk_drewN ?_ _ | refine blk_drew ?_ | refine blk_alloc ?_ _)); exact BK113.out) hb); have n1_ := Aside0.mk (below_step (by repeat (first | (with_reducible first | exact HB.out | apply below_alloc | apply pw_below_drewN | apply below_drew1 | refine below_set ?_ GE113.out) | exact HB.out)) hb); clear BK113; clear HB; have BK113 := n0_; have HB := n1_; clear n0_ n1_; (try clear hb); (try clear hb2); (try clear hk); (try clear hi)))
   go_ret
   exact ⟨by first | rfl | (simp [errW_none, errW_some] <;> rfl) | (simp [*, errW_none, errW_some] <;> rfl), by repeat (first | (with_reducible first | exact HB.out | apply below_alloc | apply pw_below_drewN | apply below_drew1 | refine below_set ?_ GE113.out) | exact HB.out)⟩
  ·rw [if_neg c5] at H
   have c5b0 : decide (t115 ≤ 16) = false := decide_eq_false c5
   clear c5
   obtain rfl := Option.some.inj H
   go_enter Try.func18, Try.ntmps18
   go_wp2_with (first | ((with_reducible refine gate_dst (N := 1) rfl ?_); refine box_event ?hg (N := 1) ?hd (cs := #[.int .u8 a0_0, .int .u64 a0_1, .string a0_2, .slice A0_3 l0_3.length c0_3]) (t := 25) ?hr ?_; (case hd => rfl); (case hg => rfl); (case hr => first | (go_simp; done) | (go_simp; rfl)); intro gb113 hg w14 hbox hb; have n0_ := Aside0.mk (below_step (by repeat (first | (with_reducible first | exact HB.out | apply below_alloc | apply pw_below_drewN | apply below_drew1) | exact HB.out)) hb); have n1_ := Aside0.mk (hbox); have n2_ := Aside0.mk ((by rw [hg]; exact (below_size (by repeat (first | (with_reducible first | exact HB.out | apply below_alloc | apply pw_below_drewN | apply below_drew1) | exact HB.out))) : w.heap.size ≤ gb113)); have n3_ := Aside0.mk ((by rw [hg]; exact (below_size (by repeat (first | (with_reducible first | exact HB.out | apply below_alloc | apply pw_below_drewN | apply below_drew1) | exact HB.out))) : w.heap.size ≤ gb113)); clear HB; have HB := n0_; have BK113 := n1_; have GW113 := n2_; have GE113 := n3_; clear n0_ n1_ n2_ n3_; clear hb hbox hg; have hcz15_0 : w14.cell? ⟨gb113, 0, none⟩ = some (.int .u8 a0_0) := (blk_cell BK113.out 0).trans rfl; have hcz15_1 : w14.cell? ⟨gb113, 1, none⟩ = some (.int .u64 a0_1) := (blk_cell BK113.out 1).trans rfl; have hcz15_2 : w14.cell? ⟨gb113, 2, none⟩ = some (.string a0_2) := (blk_cell BK113.out 2).trans rfl; have hcz15_3 : w14.cell? ⟨gb113, 3, none⟩ = some (.slice A0_3 l0_3.length c0_3) := (blk_cell BK113.out 3).trans rfl; have hfz15_0 := blk_frozen BK113.out 0; have hfz15_1 := blk_frozen BK113.out 1; have hfz15_2 := blk_frozen BK113.out 2; have hfz15_3 := blk_frozen BK113.out 3) | ((with_reducible refine gate_callee (f := 35) rfl ?_); refine goesL_ (some 4) rfl rfl Try.func35 (by kernel_rfl) rfl #[.agg #[.int .u8 a0_0, .int .u64 a0_1, .string a0_2, .slice A0_3 l0_3.length c0_3]] rfl (by (try simp only [List.map_toArray, List.map_cons, List.map_nil]); first | done | rfl | (simp only [List.length_drop, List.length_take]; rfl)) ?_; (with_reducible refine (bellwetherref04_Items.calls k a0_0 a0_1 a0_2 _ _ l0_3 t114 _ ?side1 ?side2 A2.out).mono ?_); (case side1 => repeat (first | exact (Kd.C_below HR0_3.out HB.out) | (with_reducible refine Kd.C_alloc ?_ _) | (with_reducible refine Kd.C_drewN ?_ _) | (with_reducible refine Kd.C_drew ?_))); (case side2 => exact HC0_3.out); rintro e w16 ⟨rfl, hb⟩; refine ⟨_, rfl, ?_⟩; have n0_ := Aside0.mk (blk_below (g := gb113) (o := .cells #[.int .u8 a0_0, .int .u64 a0_1, .string a0_2, .slice A0_3 l0_3.length c0_3] 25 (0, 0)) (by (with_reducible repeat (first | refine blk_drewN ?_ _ | refine blk_drew ?_ | refine blk_alloc ?_ _)); exact BK113.out) hb); have n1_ := Aside0.mk (below_step (by repeat (first | (with_reducible first | exact HB.out | apply below_alloc | apply pw_below_drewN | apply below_drew1 | refine below_set ?_ GE113.out) | exact HB.out)) hb); clear BK113; clear HB; have BK113 := n0_; have HB := n1_; clear n0_ n1_; (try clear hb); (try clear hb2); (try clear hk); (try clear hi); have hcz17_0 : w16.cell? ⟨gb113, 0, none⟩ = some (.int .u8 a0_0) := (blk_cell BK113.out 0).trans rfl; have hcz17_1 : w16.cell? ⟨gb113, 1, none⟩ = some (.int .u64 a0_1) := (blk_cell BK113.out 1).trans rfl; have hcz17_2 : w16.cell? ⟨gb113, 2, none⟩ = some (.string a0_2) := (blk_cell BK113.out 2).trans rfl; have hcz17_3 : w16.cell? ⟨gb113, 3, none⟩ = some (.slice A0_3 l0_3.length c0_3) := (blk_cell BK113.out 3).trans rfl; have hfz17_0 := blk_frozen BK113.out 0; have hfz17_1 := blk_frozen BK113.out 1; have hfz17_2 := blk_frozen BK113.out 2; have hfz17_3 := blk_frozen BK113.out 3) | (go_at_call 33; (with_reducible refine (bellwetherref04_Depth.calls k a0_0 a0_1 a0_2 _ _ l0_3 t115 _ ?side1 ?side2 A4.out).mono ?_); (case side1 => repeat (first | exact (Kd.C_below HR0_3.out HB.out) | (with_reducible refine Kd.C_alloc ?_ _) | (with_reducible refine Kd.C_drewN ?_ _) | (with_reducible refine Kd.C_drew ?_))); (case side2 => exact HC0_3.out); rintro e w18 ⟨rfl, hb⟩; have n0_ := Aside0.mk (blk_below (g := gb113) (o := .cells #[.int .u8 a0_0, .int .u64 a0_1, .string a0_2, .slice A0_3 l0_3.length c0_3] 25 (0, 0)) (by (with_reducible repeat (first | refine blk_drewN ?_ _ | refine blk_drew ?_ | refine blk_alloc ?_ _)); exact BK113.out) hb); have n1_ := Aside0.mk (below_step (by repeat (first | (with_reducible first | exact HB.out | apply below_alloc | apply pw_below_drewN | apply below_drew1 | refine below_set ?_ GE113.out) | exact HB.out)) hb); clear BK113; clear HB; have BK113 := n0_; have HB := n1_; clear n0_ n1_; (try clear hb); (try clear hb2); (try clear hk); (try clear hi)))
   go_ret
   exact ⟨by first | rfl | (simp [errW_none, errW_some] <;> rfl) | (simp [*, errW_none, errW_some] <;> rfl), by repeat (first | (with_reducible first | exact HB.out | apply below_alloc | apply pw_below_drewN | apply below_drew1 | refine below_set ?_ GE113.out) | exact HB.out)⟩
 ·rw [if_neg c3] at H
  have c3b0 : decide (t114 ≤ 1024) = false := decide_eq_false c3
  clear c3
  obtain rfl := Option.some.inj H
  go_enter Try.func18, Try.ntmps18
  go_wp2_with (first | ((with_reducible refine gate_dst (N := 1) rfl ?_); refine box_event ?hg (N := 1) ?hd (cs := #[.int .u8 a0_0, .int .u64 a0_1, .string a0_2, .slice A0_3 l0_3.length c0_3]) (t := 25) ?hr ?_; (case hd => rfl); (case hg => rfl); (case hr => first | (go_simp; done) | (go_simp; rfl)); intro gb113 hg w19 hbox hb; have n0_ := Aside0.mk (below_step (by repeat (first | (with_reducible first | exact HB.out | apply below_alloc | apply pw_below_drewN | apply below_drew1) | exact HB.out)) hb); have n1_ := Aside0.mk (hbox); have n2_ := Aside0.mk ((by rw [hg]; exact (below_size (by repeat (first | (with_reducible first | exact HB.out | apply below_alloc | apply pw_below_drewN | apply below_drew1) | exact HB.out))) : w.heap.size ≤ gb113)); have n3_ := Aside0.mk ((by rw [hg]; exact (below_size (by repeat (first | (with_reducible first | exact HB.out | apply below_alloc | apply pw_below_drewN | apply below_drew1) | exact HB.out))) : w.heap.size ≤ gb113)); clear HB; have HB := n0_; have BK113 := n1_; have GW113 := n2_; have GE113 := n3_; clear n0_ n1_ n2_ n3_; clear hb hbox hg; have hcz20_0 : w19.cell? ⟨gb113, 0, none⟩ = some (.int .u8 a0_0) := (blk_cell BK113.out 0).trans rfl; have hcz20_1 : w19.cell? ⟨gb113, 1, none⟩ = some (.int .u64 a0_1) := (blk_cell BK113.out 1).trans rfl; have hcz20_2 : w19.cell? ⟨gb113, 2, none⟩ = some (.string a0_2) := (blk_cell BK113.out 2).trans rfl; have hcz20_3 : w19.cell? ⟨gb113, 3, none⟩ = some (.slice A0_3 l0_3.length c0_3) := (blk_cell BK113.out 3).trans rfl; have hfz20_0 := blk_frozen BK113.out 0; have hfz20_1 := blk_frozen BK113.out 1; have hfz20_2 := blk_frozen BK113.out 2; have hfz20_3 := blk_frozen BK113.out 3) | ((with_reducible refine gate_callee (f := 35) rfl ?_); refine goesL_ (some 4) rfl rfl Try.func35 (by kernel_rfl) rfl #[.agg #[.int .u8 a0_0, .int .u64 a0_1, .string a0_2, .slice A0_3 l0_3.length c0_3]] rfl (by (try simp only [List.map_toArray, List.map_cons, List.map_nil]); first | done | rfl | (simp only [List.length_drop, List.length_take]; rfl)) ?_; (with_reducible refine (bellwetherref04_Items.calls k a0_0 a0_1 a0_2 _ _ l0_3 t114 _ ?side1 ?side2 A2.out).mono ?_); (case side1 => repeat (first | exact (Kd.C_below HR0_3.out HB.out) | (with_reducible refine Kd.C_alloc ?_ _) | (with_reducible refine Kd.C_drewN ?_ _) | (with_reducible refine Kd.C_drew ?_))); (case side2 => exact HC0_3.out); rintro e w21 ⟨rfl, hb⟩; refine ⟨_, rfl, ?_⟩; have n0_ := Aside0.mk (blk_below (g := gb113) (o := .cells #[.int .u8 a0_0, .int .u64 a0_1, .string a0_2, .slice A0_3 l0_3.length c0_3] 25 (0, 0)) (by (with_reducible repeat (first | refine blk_drewN ?_ _ | refine blk_drew ?_ | refine blk_alloc ?_ _)); exact BK113.out) hb); have n1_ := Aside0.mk (below_step (by repeat (first | (with_reducible first | exact HB.out | apply below_alloc | apply pw_below_drewN | apply below_drew1 | refine below_set ?_ GE113.out) | exact HB.out)) hb); clear BK113; clear HB; have BK113 := n0_; have HB := n1_; clear n0_ n1_; (try clear hb); (try clear hb2); (try clear hk); (try clear hi)))
  go_ret
  exact ⟨by first | rfl | (simp [errW_none, errW_some] <;> rfl) | (simp [*, errW_none, errW_some] <;> rfl), by repeat (first | (with_reducible first | exact HB.out | apply below_alloc | apply pw_below_drewN | apply below_drew1 | refine below_set ?_ GE113.out) | exact HB.out)⟩
def value_Depth.f (a0_0 : Int) (a0_1 : Int) (a0_2 : ByteArray) (l0_3 : List (S25)) : Option (Int) := if itemsN ⟨a0_0, a0_1, a0_2, l0_3⟩ ≤ 4294967296 then some ((depthN ⟨a0_0, a0_1, a0_2, l0_3⟩ : Int)) else none
theorem value_Depth.calls (a0_0 : Int) (a0_1 : Int) (a0_2 : ByteArray) (A0_3 : Option Addr) (c0_3 : Nat) (l0_3 : List (S25)) (r : Int) (w : World) (hr0_3 : Kd.C k25 w A0_3 l0_3.length l0_3) (hc0_3 : l0_3.length ≤ c0_3) (h : value_Depth.f a0_0 a0_1 a0_2 l0_3 = some r) :
  Calls Try.prog 32 #[.agg #[.int .u8 a0_0, .int .u64 a0_1, .string a0_2, .slice A0_3 l0_3.length c0_3]] w fun e w' => e = .returned (.int .i64 r) ∧ Below w.heap.size w w' := by
 unfold value_Depth.f at h
 split at h
 ·rename_i hq
  obtain rfl := Option.some.inj h
  exact depth32_any ⟨a0_0, a0_1, a0_2, l0_3⟩ hq A0_3 c0_3 w hr0_3 hc0_3
 ·cases h
def value_Items.f (a0_0 : Int) (a0_1 : Int) (a0_2 : ByteArray) (l0_3 : List (S25)) : Option (Int) := if itemsN ⟨a0_0, a0_1, a0_2, l0_3⟩ ≤ 4294967296 then some ((itemsN ⟨a0_0, a0_1, a0_2, l0_3⟩ : Int)) else none
theorem value_Items.calls (a0_0 : Int) (a0_1 : Int) (a0_2 : ByteArray) (A0_3 : Option Addr) (c0_3 : Nat) (l0_3 : List (S25)) (r : Int) (w : World) (hr0_3 : Kd.C k25 w A0_3 l0_3.length l0_3) (hc0_3 : l0_3.length ≤ c0_3) (h : value_Items.f a0_0 a0_1 a0_2 l0_3 = some r) :
  Calls Try.prog 34 #[.agg #[.int .u8 a0_0, .int .u64 a0_1, .string a0_2, .slice A0_3 l0_3.length c0_3]] w fun e w' => e = .returned (.int .i64 r) ∧ Below w.heap.size w w' := by
 unfold value_Items.f at h
 split at h
 ·rename_i hq
  obtain rfl := Option.some.inj h
  exact items34_any ⟨a0_0, a0_1, a0_2, l0_3⟩ hq A0_3 c0_3 w hr0_3 hc0_3
 ·cases h
def value_may.f (a0_0 : Int) (a0_1 : Int) (a0_2 : ByteArray) (l0_3 : List (S25)) : Option (Bool) := if itemsN ⟨a0_0, a0_1, a0_2, l0_3⟩ ≤ 4294967296 ∧ okVb ⟨a0_0, a0_1, a0_2, l0_3⟩ = true then some (mayB ⟨a0_0, a0_1, a0_2, l0_3⟩) else none
theorem value_may.calls (a0_0 : Int) (a0_1 : Int) (a0_2 : ByteArray) (A0_3 : Option Addr) (c0_3 : Nat) (l0_3 : List (S25)) (r : Bool) (w : World) (hr0_3 : Kd.C k25 w A0_3 l0_3.length l0_3) (hc0_3 : l0_3.length ≤ c0_3) (h : value_may.f a0_0 a0_1 a0_2 l0_3 = some r) :
  Calls Try.prog 57 #[.agg #[.int .u8 a0_0, .int .u64 a0_1, .string a0_2, .slice A0_3 l0_3.length c0_3]] w fun e w' => e = .returned (.bool r) ∧ Below w.heap.size w w' := by
 unfold value_may.f at h
 split at h
 ·rename_i hq
  obtain rfl := Option.some.inj h
  exact may57_any ⟨a0_0, a0_1, a0_2, l0_3⟩ hq.1 (okVb_iff.1 hq.2) A0_3 c0_3 w hr0_3 hc0_3
 ·cases h
def value_Right.f (a0_0 : Int) (a0_1 : Int) (a0_2 : ByteArray) (l0_3 : List (S25)) : Option (Bool) := (value_Depth.f a0_0 a0_1 a0_2 l0_3).bind fun t118 => (if t118 ≤ 16 then ((value_Items.f a0_0 a0_1 a0_2 l0_3).bind fun t119 => (if t119 ≤ 1024 then ((value_may.f a0_0 a0_1 a0_2 l0_3).bind fun t120 => (some t120)) else (some false))) else (some false))
set_option maxHeartbeats 8000000 in
set_option maxRecDepth 100000 in
theorem value_Right.calls (a0_0 : Int) (a0_1 : Int) (a0_2 : ByteArray) (A0_3 : Option Addr) (c0_3 : Nat) (l0_3 : List (S25)) (r : Bool) (w : World) (hr0_3 : Kd.C k25 w A0_3 l0_3.length l0_3) (hc0_3 : l0_3.length ≤ c0_3) (h : value_Right.f a0_0 a0_1 a0_2 l0_3 = some r) :
  Calls Try.prog 17 #[.agg #[.int .u8 a0_0, .int .u64 a0_1, .string a0_2, .slice A0_3 l0_3.length c0_3]] w fun e w' => e = .returned (.bool r) ∧ Below w.heap.size w w' := by
 have hu25 := Try.underlying25
 have HR0_3 := Aside0.mk hr0_3
 have HC0_3 := Aside0.mk hc0_3
 clear hr0_3 hc0_3
 have HB := Aside0.mk (Below.refl w.heap.size w)
 have H : ((value_Depth.f a0_0 a0_1 a0_2 l0_3).bind fun t118 => (if t118 ≤ 16 then ((value_Items.f a0_0 a0_1 a0_2 l0_3).bind fun t119 => (if t119 ≤ 1024 then ((value_may.f a0_0 a0_1 a0_2 l0_3).bind fun t120 => (some t120)) else (some false))) else (some false))) = some r := h
 clear h
 replace H := Option.bind_eq_some_iff.mp H
 obtain ⟨t118, A20, H⟩ := H
 replace H : (if t118 ≤ 16 then ((value_Items.f a0_0 a0_1 a0_2 l0_3).bind fun t119 => (if t119 ≤ 1024 then ((value_may.f a0_0 a0_1 a0_2 l0_3).bind fun t120 => (some t120)) else (some false))) else (some false)) = some r := H
 have A2 := Aside0.mk A20
 clear A20
 by_cases c3 : t118 ≤ 16
 ·rw [if_pos c3] at H
  have c3b0 : decide (t118 ≤ 16) = true := decide_eq_true c3
  clear c3
  replace H := Option.bind_eq_some_iff.mp H
  obtain ⟨t119, A40, H⟩ := H
  replace H : (if t119 ≤ 1024 then ((value_may.f a0_0 a0_1 a0_2 l0_3).bind fun t120 => (some t120)) else (some false)) = some r := H
  have A4 := Aside0.mk A40
  clear A40
  by_cases c5 : t119 ≤ 1024
  ·rw [if_pos c5] at H
   have c5b0 : decide (t119 ≤ 1024) = true := decide_eq_true c5
   clear c5
   replace H := Option.bind_eq_some_iff.mp H
   obtain ⟨t120, A60, H⟩ := H
   replace H : (some t120) = some r := H
   have A6 := Aside0.mk A60
   clear A60
   obtain rfl := Option.some.inj H
   go_enter Try.func17, Try.ntmps17
   go_wp2_with (first | ((with_reducible refine gate_dst (N := 1) rfl ?_); refine box_event ?hg (N := 1) ?hd (cs := #[.int .u8 a0_0, .int .u64 a0_1, .string a0_2, .slice A0_3 l0_3.length c0_3]) (t := 25) ?hr ?_; (case hd => rfl); (case hg => rfl); (case hr => first | (go_simp; done) | (go_simp; rfl)); intro gb117 hg w7 hbox hb; have n0_ := Aside0.mk (below_step (by repeat (first | (with_reducible first | exact HB.out | apply below_alloc | apply pw_below_drewN | apply below_drew1) | exact HB.out)) hb); have n1_ := Aside0.mk (hbox); have n2_ := Aside0.mk ((by rw [hg]; exact (below_size (by repeat (first | (with_reducible first | exact HB.out | apply below_alloc | apply pw_below_drewN | apply below_drew1) | exact HB.out))) : w.heap.size ≤ gb117)); have n3_ := Aside0.mk ((by rw [hg]; exact (below_size (by repeat (first | (with_reducible first | exact HB.out | apply below_alloc | apply pw_below_drewN | apply below_drew1) | exact HB.out))) : w.heap.size ≤ gb117)); clear HB; have HB := n0_; have BK117 := n1_; have GW117 := n2_; have GE117 := n3_; clear n0_ n1_ n2_ n3_; clear hb hbox hg; have hcz8_0 : w7.cell? ⟨gb117, 0, none⟩ = some (.int .u8 a0_0) := (blk_cell BK117.out 0).trans rfl; have hcz8_1 : w7.cell? ⟨gb117, 1, none⟩ = some (.int .u64 a0_1) := (blk_cell BK117.out 1).trans rfl; have hcz8_2 : w7.cell? ⟨gb117, 2, none⟩ = some (.string a0_2) := (blk_cell BK117.out 2).trans rfl; have hcz8_3 : w7.cell? ⟨gb117, 3, none⟩ = some (.slice A0_3 l0_3.length c0_3) := (blk_cell BK117.out 3).trans rfl; have hfz8_0 := blk_frozen BK117.out 0; have hfz8_1 := blk_frozen BK117.out 1; have hfz8_2 := blk_frozen BK117.out 2; have hfz8_3 := blk_frozen BK117.out 3) | ((with_reducible refine gate_callee (f := 32) rfl ?_); refine goesL_ (some 4) rfl rfl Try.func32 (by kernel_rfl) rfl #[.agg #[.int .u8 a0_0, .int .u64 a0_1, .string a0_2, .slice A0_3 l0_3.length c0_3]] rfl (by (try simp only [List.map_toArray, List.map_cons, List.map_nil]); first | done | rfl | (simp only [List.length_drop, List.length_take]; rfl)) ?_; (with_reducible refine (value_Depth.calls a0_0 a0_1 a0_2 _ _ l0_3 t118 _ ?side1 ?side2 A2.out).mono ?_); (case side1 => repeat (first | exact (Kd.C_below HR0_3.out HB.out) | (with_reducible refine Kd.C_alloc ?_ _) | (with_reducible refine Kd.C_drewN ?_ _) | (with_reducible refine Kd.C_drew ?_))); (case side2 => exact HC0_3.out); rintro e w9 ⟨rfl, hb⟩; refine ⟨_, rfl, ?_⟩; have n0_ := Aside0.mk (blk_below (g := gb117) (o := .cells #[.int .u8 a0_0, .int .u64 a0_1, .string a0_2, .slice A0_3 l0_3.length c0_3] 25 (0, 0)) (by (with_reducible repeat (first | refine blk_drewN ?_ _ | refine blk_drew ?_ | refine blk_alloc ?_ _)); exact BK117.out) hb); have n1_ := Aside0.mk (below_step (by repeat (first | (with_reducible first | exact HB.out | apply below_alloc | apply pw_below_drewN | apply below_drew1 | refine below_set ?_ GE117.out) | exact HB.out)) hb); clear BK117; clear HB; have BK117 := n0_; have HB := n1_; clear n0_ n1_; (try clear hb); (try clear hb2); (try clear hk); (try clear hi); have hcz10_0 : w9.cell? ⟨gb117, 0, none⟩ = some (.int .u8 a0_0) := (blk_cell BK117.out 0).trans rfl; have hcz10_1 : w9.cell? ⟨gb117, 1, none⟩ = some (.int .u64 a0_1) := (blk_cell BK117.out 1).trans rfl; have hcz10_2 : w9.cell? ⟨gb117, 2, none⟩ = some (.string a0_2) := (blk_cell BK117.out 2).trans rfl; have hcz10_3 : w9.cell? ⟨gb117, 3, none⟩ = some (.slice A0_3 l0_3.length c0_3) := (blk_cell BK117.out 3).trans rfl; have hfz10_0 := blk_frozen BK117.out 0; have hfz10_1 := blk_frozen BK117.out 1; have hfz10_2 := blk_frozen BK117.out 2; have hfz10_3 := blk_frozen BK117.out 3) | (go_at_call 34; (with_reducible refine (value_Items.calls a0_0 a0_1 a0_2 _ _ l0_3 t119 _ ?side1 ?side2 A4.out).mono ?_); (case side1 => repeat (first | exact (Kd.C_below HR0_3.out HB.out) | (with_reducible refine Kd.C_alloc ?_ _) | (with_reducible refine Kd.C_drewN ?_ _) | (with_reducible refine Kd.C_drew ?_))); (case side2 => exact HC0_3.out); rintro e w11 ⟨rfl, hb⟩; have n0_ := Aside0.mk (blk_below (g := gb117) (o := .cells #[.int .u8 a0_0, .int .u64 a0_1, .string a0_2, .slice A0_3 l0_3.length c0_3] 25 (0, 0)) (by (with_reducible repeat (first | refine blk_drewN ?_ _ | refine blk_drew ?_ | refine blk_alloc ?_ _)); exact BK117.out) hb); have n1_ := Aside0.mk (below_step (by repeat (first | (with_reducible first | exact HB.out | apply below_alloc | apply pw_below_drewN | apply below_drew1 | refine below_set ?_ GE117.out) | exact HB.out)) hb); clear BK117; clear HB; have BK117 := n0_; have HB := n1_; clear n0_ n1_; (try clear hb); (try clear hb2); (try clear hk); (try clear hi); have hcz12_0 : w11.cell? ⟨gb117, 0, none⟩ = some (.int .u8 a0_0) := (blk_cell BK117.out 0).trans rfl; have hcz12_1 : w11.cell? ⟨gb117, 1, none⟩ = some (.int .u64 a0_1) := (blk_cell BK117.out 1).trans rfl; have hcz12_2 : w11.cell? ⟨gb117, 2, none⟩ = some (.string a0_2) := (blk_cell BK117.out 2).trans rfl; have hcz12_3 : w11.cell? ⟨gb117, 3, none⟩ = some (.slice A0_3 l0_3.length c0_3) := (blk_cell BK117.out 3).trans rfl; have hfz12_0 := blk_frozen BK117.out 0; have hfz12_1 := blk_frozen BK117.out 1; have hfz12_2 := blk_frozen BK117.out 2; have hfz12_3 := blk_frozen BK117.out 3) | (go_at_call 57; (with_reducible refine (value_may.calls a0_0 a0_1 a0_2 _ _ l0_3 t120 _ ?side1 ?side2 A6.out).mono ?_); (case side1 => repeat (first | exact (Kd.C_below HR0_3.out HB.out) | (with_reducible refine Kd.C_alloc ?_ _) | (with_reducible refine Kd.C_drewN ?_ _) | (with_reducible refine Kd.C_drew ?_))); (case side2 => exact HC0_3.out); rintro e w13 ⟨rfl, hb⟩; have n0_ := Aside0.mk (blk_below (g := gb117) (o := .cells #[.int .u8 a0_0, .int .u64 a0_1, .string a0_2, .slice A0_3 l0_3.length c0_3] 25 (0, 0)) (by (with_reducible repeat (first | refine blk_drewN ?_ _ | refine blk_drew ?_ | refine blk_alloc ?_ _)); exact BK117.out) hb); have n1_ := Aside0.mk (below_step (by repeat (first | (with_reducible first | exact HB.out | apply below_alloc | apply pw_below_drewN | apply below_drew1 | refine below_set ?_ GE117.out) | exact HB.out)) hb); clear BK117; clear HB; have BK117 := n0_; have HB := n1_; clear n0_ n1_; (try clear hb); (try clear hb2); (try clear hk); (try clear hi)))
   go_ret
   exact ⟨by first | rfl | (simp [errW_none, errW_some] <;> rfl) | (simp [*, errW_none, errW_some] <;> rfl), by repeat (first | (with_reducible first | exact HB.out | apply below_alloc | apply pw_below_drewN | apply below_drew1 | refine below_set ?_ GE117.out) | exact HB.out)⟩
  ·rw [if_neg c5] at H
   have c5b0 : decide (t119 ≤ 1024) = false := decide_eq_false c5
   clear c5
   obtain rfl := Option.some.inj H
   go_enter Try.func17, Try.ntmps17
   go_wp2_with (first | ((with_reducible refine gate_dst (N := 1) rfl ?_); refine box_event ?hg (N := 1) ?hd (cs := #[.int .u8 a0_0, .int .u64 a0_1, .string a0_2, .slice A0_3 l0_3.length c0_3]) (t := 25) ?hr ?_; (case hd => rfl); (case hg => rfl); (case hr => first | (go_simp; done) | (go_simp; rfl)); intro gb117 hg w14 hbox hb; have n0_ := Aside0.mk (below_step (by repeat (first | (with_reducible first | exact HB.out | apply below_alloc | apply pw_below_drewN | apply below_drew1) | exact HB.out)) hb); have n1_ := Aside0.mk (hbox); have n2_ := Aside0.mk ((by rw [hg]; exact (below_size (by repeat (first | (with_reducible first | exact HB.out | apply below_alloc | apply pw_below_drewN | apply below_drew1) | exact HB.out))) : w.heap.size ≤ gb117)); have n3_ := Aside0.mk ((by rw [hg]; exact (below_size (by repeat (first | (with_reducible first | exact HB.out | apply below_alloc | apply pw_below_drewN | apply below_drew1) | exact HB.out))) : w.heap.size ≤ gb117)); clear HB; have HB := n0_; have BK117 := n1_; have GW117 := n2_; have GE117 := n3_; clear n0_ n1_ n2_ n3_; clear hb hbox hg; have hcz15_0 : w14.cell? ⟨gb117, 0, none⟩ = some (.int .u8 a0_0) := (blk_cell BK117.out 0).trans rfl; have hcz15_1 : w14.cell? ⟨gb117, 1, none⟩ = some (.int .u64 a0_1) := (blk_cell BK117.out 1).trans rfl; have hcz15_2 : w14.cell? ⟨gb117, 2, none⟩ = some (.string a0_2) := (blk_cell BK117.out 2).trans rfl; have hcz15_3 : w14.cell? ⟨gb117, 3, none⟩ = some (.slice A0_3 l0_3.length c0_3) := (blk_cell BK117.out 3).trans rfl; have hfz15_0 := blk_frozen BK117.out 0; have hfz15_1 := blk_frozen BK117.out 1; have hfz15_2 := blk_frozen BK117.out 2; have hfz15_3 := blk_frozen BK117.out 3) | ((with_reducible refine gate_callee (f := 32) rfl ?_); refine goesL_ (some 4) rfl rfl Try.func32 (by kernel_rfl) rfl #[.agg #[.int .u8 a0_0, .int .u64 a0_1, .string a0_2, .slice A0_3 l0_3.length c0_3]] rfl (by (try simp only [List.map_toArray, List.map_cons, List.map_nil]); first | done | rfl | (simp only [List.length_drop, List.length_take]; rfl)) ?_; (with_reducible refine (value_Depth.calls a0_0 a0_1 a0_2 _ _ l0_3 t118 _ ?side1 ?side2 A2.out).mono ?_); (case side1 => repeat (first | exact (Kd.C_below HR0_3.out HB.out) | (with_reducible refine Kd.C_alloc ?_ _) | (with_reducible refine Kd.C_drewN ?_ _) | (with_reducible refine Kd.C_drew ?_))); (case side2 => exact HC0_3.out); rintro e w16 ⟨rfl, hb⟩; refine ⟨_, rfl, ?_⟩; have n0_ := Aside0.mk (blk_below (g := gb117) (o := .cells #[.int .u8 a0_0, .int .u64 a0_1, .string a0_2, .slice A0_3 l0_3.length c0_3] 25 (0, 0)) (by (with_reducible repeat (first | refine blk_drewN ?_ _ | refine blk_drew ?_ | refine blk_alloc ?_ _)); exact BK117.out) hb); have n1_ := Aside0.mk (below_step (by repeat (first | (with_reducible first | exact HB.out | apply below_alloc | apply pw_below_drewN | apply below_drew1 | refine below_set ?_ GE117.out) | exact HB.out)) hb); clear BK117; clear HB; have BK117 := n0_; have HB := n1_; clear n0_ n1_; (try clear hb); (try clear hb2); (try clear hk); (try clear hi); have hcz17_0 : w16.cell? ⟨gb117, 0, none⟩ = some (.int .u8 a0_0) := (blk_cell BK117.out 0).trans rfl; have hcz17_1 : w16.cell? ⟨gb117, 1, none⟩ = some (.int .u64 a0_1) := (blk_cell BK117.out 1).trans rfl; have hcz17_2 : w16.cell? ⟨gb117, 2, none⟩ = some (.string a0_2) := (blk_cell BK117.out 2).trans rfl; have hcz17_3 : w16.cell? ⟨gb117, 3, none⟩ = some (.slice A0_3 l0_3.length c0_3) := (blk_cell BK117.out 3).trans rfl; have hfz17_0 := blk_frozen BK117.out 0; have hfz17_1 := blk_frozen BK117.out 1; have hfz17_2 := blk_frozen BK117.out 2; have hfz17_3 := blk_frozen BK117.out 3) | (go_at_call 34; (with_reducible refine (value_Items.calls a0_0 a0_1 a0_2 _ _ l0_3 t119 _ ?side1 ?side2 A4.out).mono ?_); (case side1 => repeat (first | exact (Kd.C_below HR0_3.out HB.out) | (with_reducible refine Kd.C_alloc ?_ _) | (with_reducible refine Kd.C_drewN ?_ _) | (with_reducible refine Kd.C_drew ?_))); (case side2 => exact HC0_3.out); rintro e w18 ⟨rfl, hb⟩; have n0_ := Aside0.mk (blk_below (g := gb117) (o := .cells #[.int .u8 a0_0, .int .u64 a0_1, .string a0_2, .slice A0_3 l0_3.length c0_3] 25 (0, 0)) (by (with_reducible repeat (first | refine blk_drewN ?_ _ | refine blk_drew ?_ | refine blk_alloc ?_ _)); exact BK117.out) hb); have n1_ := Aside0.mk (below_step (by repeat (first | (with_reducible first | exact HB.out | apply below_alloc | apply pw_below_drewN | apply below_drew1 | refine below_set ?_ GE117.out) | exact HB.out)) hb); clear BK117; clear HB; have BK117 := n0_; have HB := n1_; clear n0_ n1_; (try clear hb); (try clear hb2); (try clear hk); (try clear hi)))
   go_ret
   exact ⟨by first | rfl | (simp [errW_none, errW_some] <;> rfl) | (simp [*, errW_none, errW_some] <;> rfl), by repeat (first | (with_reducible first | exact HB.out | apply below_alloc | apply pw_below_drewN | apply below_drew1 | refine below_set ?_ GE117.out) | exact HB.out)⟩
 ·rw [if_neg c3] at H
  have c3b0 : decide (t118 ≤ 16) = false := decide_eq_false c3
  clear c3
  obtain rfl := Option.some.inj H
  go_enter Try.func17, Try.ntmps17
  go_wp2_with (first | ((with_reducible refine gate_dst (N := 1) rfl ?_); refine box_event ?hg (N := 1) ?hd (cs := #[.int .u8 a0_0, .int .u64 a0_1, .string a0_2, .slice A0_3 l0_3.length c0_3]) (t := 25) ?hr ?_; (case hd => rfl); (case hg => rfl); (case hr => first | (go_simp; done) | (go_simp; rfl)); intro gb117 hg w19 hbox hb; have n0_ := Aside0.mk (below_step (by repeat (first | (with_reducible first | exact HB.out | apply below_alloc | apply pw_below_drewN | apply below_drew1) | exact HB.out)) hb); have n1_ := Aside0.mk (hbox); have n2_ := Aside0.mk ((by rw [hg]; exact (below_size (by repeat (first | (with_reducible first | exact HB.out | apply below_alloc | apply pw_below_drewN | apply below_drew1) | exact HB.out))) : w.heap.size ≤ gb117)); have n3_ := Aside0.mk ((by rw [hg]; exact (below_size (by repeat (first | (with_reducible first | exact HB.out | apply below_alloc | apply pw_below_drewN | apply below_drew1) | exact HB.out))) : w.heap.size ≤ gb117)); clear HB; have HB := n0_; have BK117 := n1_; have GW117 := n2_; have GE117 := n3_; clear n0_ n1_ n2_ n3_; clear hb hbox hg; have hcz20_0 : w19.cell? ⟨gb117, 0, none⟩ = some (.int .u8 a0_0) := (blk_cell BK117.out 0).trans rfl; have hcz20_1 : w19.cell? ⟨gb117, 1, none⟩ = some (.int .u64 a0_1) := (blk_cell BK117.out 1).trans rfl; have hcz20_2 : w19.cell? ⟨gb117, 2, none⟩ = some (.string a0_2) := (blk_cell BK117.out 2).trans rfl; have hcz20_3 : w19.cell? ⟨gb117, 3, none⟩ = some (.slice A0_3 l0_3.length c0_3) := (blk_cell BK117.out 3).trans rfl; have hfz20_0 := blk_frozen BK117.out 0; have hfz20_1 := blk_frozen BK117.out 1; have hfz20_2 := blk_frozen BK117.out 2; have hfz20_3 := blk_frozen BK117.out 3) | ((with_reducible refine gate_callee (f := 32) rfl ?_); refine goesL_ (some 4) rfl rfl Try.func32 (by kernel_rfl) rfl #[.agg #[.int .u8 a0_0, .int .u64 a0_1, .string a0_2, .slice A0_3 l0_3.length c0_3]] rfl (by (try simp only [List.map_toArray, List.map_cons, List.map_nil]); first | done | rfl | (simp only [List.length_drop, List.length_take]; rfl)) ?_; (with_reducible refine (value_Depth.calls a0_0 a0_1 a0_2 _ _ l0_3 t118 _ ?side1 ?side2 A2.out).mono ?_); (case side1 => repeat (first | exact (Kd.C_below HR0_3.out HB.out) | (with_reducible refine Kd.C_alloc ?_ _) | (with_reducible refine Kd.C_drewN ?_ _) | (with_reducible refine Kd.C_drew ?_))); (case side2 => exact HC0_3.out); rintro e w21 ⟨rfl, hb⟩; refine ⟨_, rfl, ?_⟩; have n0_ := Aside0.mk (blk_below (g := gb117) (o := .cells #[.int .u8 a0_0, .int .u64 a0_1, .string a0_2, .slice A0_3 l0_3.length c0_3] 25 (0, 0)) (by (with_reducible repeat (first | refine blk_drewN ?_ _ | refine blk_drew ?_ | refine blk_alloc ?_ _)); exact BK117.out) hb); have n1_ := Aside0.mk (below_step (by repeat (first | (with_reducible first | exact HB.out | apply below_alloc | apply pw_below_drewN | apply below_drew1 | refine below_set ?_ GE117.out) | exact HB.out)) hb); clear BK117; clear HB; have BK117 := n0_; have HB := n1_; clear n0_ n1_; (try clear hb); (try clear hb2); (try clear hk); (try clear hi)))
  go_ret
  exact ⟨by first | rfl | (simp [errW_none, errW_some] <;> rfl) | (simp [*, errW_none, errW_some] <;> rfl), by repeat (first | (with_reducible first | exact HB.out | apply below_alloc | apply pw_below_drewN | apply below_drew1 | refine below_set ?_ GE117.out) | exact HB.out)⟩
def value_copies.f (l0 : List (S25)) : Option (List S25) := if itemsL l0 ≤ 4294967296 then some l0 else none
theorem value_copies.calls (A0 : Option Addr) (c0 : Nat) (l0 : List (S25)) (r : List (S25)) (w : World) (hr0 : Kd.C k25 w A0 l0.length l0) (hc0 : l0.length ≤ c0) (h : value_copies.f l0 = some r) :
  Calls Try.prog 59 #[.slice A0 l0.length c0] w fun e w' => ∃ v_ : Value, e = .returned v_ ∧ Kd.R k25 25 w' w.heap.size (fun _ => True) v_ r ∧ Below w.heap.size w w' := by
 unfold value_copies.f at h
 split at h
 ·rename_i hq
  cases h
  exact (copies59_any l0 hq A0 c0 w hr0 hc0).mono fun e w' ⟨A', c', he, hm⟩ => ⟨_, he, hm.1, hm.2⟩
 ·cases h
def value_Many.f (a0 : Int) (l1 : List (S25)) : Option (Int × Int × ByteArray × (List (S25))) := (value_copies.f l1).bind fun t122 => (some (a0, 0, (⟨#[]⟩ : ByteArray), t122))
set_option maxHeartbeats 8000000 in
set_option maxRecDepth 100000 in
theorem value_Many.calls (a0 : Int) (A1 : Option Addr) (c1 : Nat) (l1 : List (S25)) (r1 : Int) (r2 : Int) (r3 : ByteArray) (r4 : List (S25)) (w : World) (hr1 : Kd.C k25 w A1 l1.length l1) (hc1 : l1.length ≤ c1) (h : value_Many.f a0 l1 = some (r1, r2, r3, r4)) :
  Calls Try.prog 21 #[.int .u8 a0, .slice A1 l1.length c1] w fun e w' => ∃ v3_ : Value, e = .returned (.agg #[.int .u8 r1, .int .u64 r2, .string r3, v3_]) ∧ Kd.R k25 25 w' w.heap.size (fun _ => True) v3_ r4 ∧ Below w.heap.size w w' := by
 have hu25 := Try.underlying25
 have HR1 := Aside0.mk hr1
 have HC1 := Aside0.mk hc1
 clear hr1 hc1
 have HB := Aside0.mk (Below.refl w.heap.size w)
 have H : ((value_copies.f l1).bind fun t122 => (some (a0, 0, (⟨#[]⟩ : ByteArray), t122))) = some (r1, r2, r3, r4) := h
 clear h
 replace H := Option.bind_eq_some_iff.mp H
 obtain ⟨t122, A30, H⟩ := H
 replace H : (some (a0, 0, (⟨#[]⟩ : ByteArray), t122)) = some (r1, r2, r3, r4) := H
 have A3 := Aside0.mk A30
 clear A30
 simp only [Option.some.injEq, Prod.mk.injEq] at H
 obtain ⟨rfl, rfl, rfl, rfl⟩ := H
 go_enter Try.func21, Try.ntmps21
 go_wp2_with (first | ((with_reducible refine gate_dst (N := 4) rfl ?_); refine box_event ?hg (N := 4) ?hd (cs := #[.int .u8 0, .int .u64 0, .string (⟨#[]⟩ : ByteArray), .slice none 0 0]) (t := 25) ?hr ?_; (case hd => rfl); (case hg => rfl); (case hr => first | (go_simp; done) | (go_simp; rfl)); intro gb121 hg w4 hbox hb; have n0_ := Aside0.mk (below_step (by repeat (first | (with_reducible first | exact HB.out | apply below_alloc | apply pw_below_drewN | apply below_drew1) | exact HB.out)) hb); have n1_ := Aside0.mk (hbox); have n2_ := Aside0.mk ((by rw [hg]; exact (below_size (by repeat (first | (with_reducible first | exact HB.out | apply below_alloc | apply pw_below_drewN | apply below_drew1) | exact HB.out))) : w.heap.size ≤ gb121)); have n3_ := Aside0.mk ((by rw [hg]; exact (below_size (by repeat (first | (with_reducible first | exact HB.out | apply below_alloc | apply pw_below_drewN | apply below_drew1) | exact HB.out))) : w.heap.size ≤ gb121)); clear HB; have HB := n0_; have BK121 := n1_; have GW121 := n2_; have GE121 := n3_; clear n0_ n1_ n2_ n3_; clear hb hbox hg) | ((with_reducible refine gate_callee (f := 59) rfl ?_); refine goesL_ (some 7) rfl rfl Try.func59 (by kernel_rfl) rfl #[.slice A1 l1.length c1] rfl (by (try simp only [List.map_toArray, List.map_cons, List.map_nil]); first | done | rfl | (simp only [List.length_drop, List.length_take]; rfl)) ?_; (with_reducible refine (value_copies.calls _ _ l1 t122 _ ?side1 ?side2 A3.out).mono ?_); (case side1 => repeat (first | exact (Kd.C_below HR1.out HB.out) | (with_reducible refine Kd.C_alloc ?_ _) | (with_reducible refine Kd.C_drewN ?_ _) | (with_reducible refine Kd.C_drew ?_))); (case side2 => exact HC1.out); rintro e w5 ⟨v123, rfl, ho0, hb⟩; refine ⟨_, rfl, ?_⟩; have n0_ := Aside0.mk (Kd.R_lower (Kd.R_newB ho0 (g := gb121) (o := .cells #[.int .u8 0, .int .u64 0, .string (⟨#[]⟩ : ByteArray), .slice none 0 0] 25 (0, 0)) (by (with_reducible repeat (first | refine blk_drewN ?_ _ | refine blk_drew ?_ | refine blk_alloc ?_ _)); exact BK121.out)) (below_size (by repeat (first | (with_reducible first | exact HB.out | apply below_alloc | apply pw_below_drewN | apply below_drew1 | refine below_set ?_ GE121.out) | exact HB.out)))); have n1_ := Aside0.mk (blk_below (g := gb121) (o := .cells #[.int .u8 0, .int .u64 0, .string (⟨#[]⟩ : ByteArray), .slice none 0 0] 25 (0, 0)) (by (with_reducible repeat (first | refine blk_drewN ?_ _ | refine blk_drew ?_ | refine blk_alloc ?_ _)); exact BK121.out) hb); have n2_ := Aside0.mk (below_step (by repeat (first | (with_reducible first | exact HB.out | apply below_alloc | apply pw_below_drewN | apply below_drew1 | refine below_set ?_ GE121.out) | exact HB.out)) hb); clear BK121; clear HB; have HO124 := n0_; have BK121 := n1_; have HB := n2_; clear n0_ n1_ n2_; (try clear hb); (try clear hb2); (try clear hk); (try clear hi); (try clear ho0); obtain ⟨Ao6, co6, eo6⟩ := Kd.R_slice HO124.out; subst eo6; have hcz7_0 : w5.cell? ⟨gb121, 0, none⟩ = some (.int .u8 0) := (blk_cell BK121.out 0).trans rfl; have hcz7_1 : w5.cell? ⟨gb121, 1, none⟩ = some (.int .u64 0) := (blk_cell BK121.out 1).trans rfl; have hcz7_2 : w5.cell? ⟨gb121, 2, none⟩ = some (.string (⟨#[]⟩ : ByteArray)) := (blk_cell BK121.out 2).trans rfl; have hcz7_3 : w5.cell? ⟨gb121, 3, none⟩ = some (.slice none 0 0) := (blk_cell BK121.out 3).trans rfl; have hfz7_0 := blk_frozen BK121.out 0; have hfz7_1 := blk_frozen BK121.out 1; have hfz7_2 := blk_frozen BK121.out 2; have hfz7_3 := blk_frozen BK121.out 3))
 refine bodyPost_ret (results_cell_row rfl _ _ gb121 25 #[.int .u8 a0, .int .u64 0, .string (⟨#[]⟩ : ByteArray), .slice Ao6 t122.length co6] (0, 0) _ rfl (by (with_reducible repeat (first | refine blk_drewN ?_ _ | refine blk_drew ?_ | refine blk_alloc ?_ _)); refine blk_put (cs := #[.int .u8 a0, .int .u64 0, .string (⟨#[]⟩ : ByteArray), .slice none 0 0]) ?_ 3 _ rfl; (with_reducible repeat (first | refine blk_drewN ?_ _ | refine blk_drew ?_ | refine blk_alloc ?_ _)); refine blk_put (cs := #[.int .u8 a0, .int .u64 0, .string (⟨#[]⟩ : ByteArray), .slice none 0 0]) ?_ 2 _ rfl; (with_reducible repeat (first | refine blk_drewN ?_ _ | refine blk_drew ?_ | refine blk_alloc ?_ _)); refine blk_put (cs := #[.int .u8 a0, .int .u64 0, .string (⟨#[]⟩ : ByteArray), .slice none 0 0]) ?_ 1 _ rfl; (with_reducible repeat (first | refine blk_drewN ?_ _ | refine blk_drew ?_ | refine blk_alloc ?_ _)); refine blk_put (cs := #[.int .u8 0, .int .u64 0, .string (⟨#[]⟩ : ByteArray), .slice none 0 0]) ?_ 0 _ rfl; (with_reducible repeat (first | refine blk_drewN ?_ _ | refine blk_drew ?_ | refine blk_alloc ?_ _)); exact BK121.out) Try.underlying25 rfl (by kernel_rfl)) rfl ?_
 exact ⟨_, by first | rfl | (simp [errW_none, errW_some] <;> rfl) | (simp [*, errW_none, errW_some] <;> rfl), by (with_reducible repeat (first | apply Kd.R_alloc | apply Kd.R_drewN | apply Kd.R_drew)); exact Kd.R_mono (Kd.R_far (p := ⟨gb121, 3, none⟩) (Kd.R_far (p := ⟨gb121, 2, none⟩) (Kd.R_far (p := ⟨gb121, 1, none⟩) (Kd.R_far (p := ⟨gb121, 0, none⟩) (Kd.R_mono HO124.out (fun k_ hk => (⟨hk, hk.2⟩ : _ ∧ k_ ≠ gb121))) (fun _ hk => hk.2) (.int .u8 a0)) (fun _ hk => hk.2) (.int .u64 0)) (fun _ hk => hk.2) (.string (⟨#[]⟩ : ByteArray))) (fun _ hk => hk.2) (.slice Ao6 t122.length co6)) (fun _ hk => trivial), by repeat (first | (with_reducible first | exact HB.out | apply below_alloc | apply pw_below_drewN | apply below_drew1 | refine below_set ?_ GE121.out) | exact HB.out)⟩
def bellwetherref04_CopyAll.f (l0 : List (S25)) : Option (List S25) := if itemsL l0 ≤ 4294967296 then some l0 else none
theorem bellwetherref04_CopyAll.calls (A0 : Option Addr) (c0 : Nat) (l0 : List (S25)) (r : List (S25)) (w : World) (hr0 : Kd.C k25 w A0 l0.length l0) (hc0 : l0.length ≤ c0) (h : bellwetherref04_CopyAll.f l0 = some r) :
  Calls Try.prog 20 #[.slice A0 l0.length c0] w fun e w' => ∃ v_ : Value, e = .returned v_ ∧ Kd.R k25 25 w' w.heap.size (fun _ => True) v_ r ∧ Below w.heap.size w w' := by
 unfold bellwetherref04_CopyAll.f at h
 split at h
 ·rename_i hq
  cases h
  exact (copyAll20_any l0 hq A0 c0 w hr0 hc0).mono fun e w' ⟨A', c', he, hm⟩ => ⟨_, he, hm.1, hm.2⟩
 ·cases h
def bellwetherref04_Many.f (a0 : Int) (l1 : List (S25)) : Option (Int × Int × ByteArray × (List (S25))) := (bellwetherref04_CopyAll.f l1).bind fun t126 => (some (a0, 0, (⟨#[]⟩ : ByteArray), t126))
set_option maxHeartbeats 8000000 in
set_option maxRecDepth 100000 in
theorem bellwetherref04_Many.calls (a0 : Int) (A1 : Option Addr) (c1 : Nat) (l1 : List (S25)) (r1 : Int) (r2 : Int) (r3 : ByteArray) (r4 : List (S25)) (w : World) (hr1 : Kd.C k25 w A1 l1.length l1) (hc1 : l1.length ≤ c1) (h : bellwetherref04_Many.f a0 l1 = some (r1, r2, r3, r4)) :
  Calls Try.prog 25 #[.int .u8 a0, .slice A1 l1.length c1] w fun e w' => ∃ v3_ : Value, e = .returned (.agg #[.int .u8 r1, .int .u64 r2, .string r3, v3_]) ∧ Kd.R k25 25 w' w.heap.size (fun _ => True) v3_ r4 ∧ Below w.heap.size w w' := by
 have hu25 := Try.underlying25
 have HR1 := Aside0.mk hr1
 have HC1 := Aside0.mk hc1
 clear hr1 hc1
 have HB := Aside0.mk (Below.refl w.heap.size w)
 have H : ((bellwetherref04_CopyAll.f l1).bind fun t126 => (some (a0, 0, (⟨#[]⟩ : ByteArray), t126))) = some (r1, r2, r3, r4) := h
 clear h
 replace H := Option.bind_eq_some_iff.mp H
 obtain ⟨t126, A30, H⟩ := H
 replace H : (some (a0, 0, (⟨#[]⟩ : ByteArray), t126)) = some (r1, r2, r3, r4) := H
 have A3 := Aside0.mk A30
 clear A30
 simp only [Option.some.injEq, Prod.mk.injEq] at H
 obtain ⟨rfl, rfl, rfl, rfl⟩ := H
 go_enter Try.func25, Try.ntmps25
 go_wp2_with (first | ((with_reducible refine gate_dst (N := 4) rfl ?_); refine box_event ?hg (N := 4) ?hd (cs := #[.int .u8 0, .int .u64 0, .string (⟨#[]⟩ : ByteArray), .slice none 0 0]) (t := 25) ?hr ?_; (case hd => rfl); (case hg => rfl); (case hr => first | (go_simp; done) | (go_simp; rfl)); intro gb125 hg w4 hbox hb; have n0_ := Aside0.mk (below_step (by repeat (first | (with_reducible first | exact HB.out | apply below_alloc | apply pw_below_drewN | apply below_drew1) | exact HB.out)) hb); have n1_ := Aside0.mk (hbox); have n2_ := Aside0.mk ((by rw [hg]; exact (below_size (by repeat (first | (with_reducible first | exact HB.out | apply below_alloc | apply pw_below_drewN | apply below_drew1) | exact HB.out))) : w.heap.size ≤ gb125)); have n3_ := Aside0.mk ((by rw [hg]; exact (below_size (by repeat (first | (with_reducible first | exact HB.out | apply below_alloc | apply pw_below_drewN | apply below_drew1) | exact HB.out))) : w.heap.size ≤ gb125)); clear HB; have HB := n0_; have BK125 := n1_; have GW125 := n2_; have GE125 := n3_; clear n0_ n1_ n2_ n3_; clear hb hbox hg) | ((with_reducible refine gate_callee (f := 20) rfl ?_); refine goesL_ (some 7) rfl rfl Try.func20 (by kernel_rfl) rfl #[.slice A1 l1.length c1] rfl (by (try simp only [List.map_toArray, List.map_cons, List.map_nil]); first | done | rfl | (simp only [List.length_drop, List.length_take]; rfl)) ?_; (with_reducible refine (bellwetherref04_CopyAll.calls _ _ l1 t126 _ ?side1 ?side2 A3.out).mono ?_); (case side1 => repeat (first | exact (Kd.C_below HR1.out HB.out) | (with_reducible refine Kd.C_alloc ?_ _) | (with_reducible refine Kd.C_drewN ?_ _) | (with_reducible refine Kd.C_drew ?_))); (case side2 => exact HC1.out); rintro e w5 ⟨v127, rfl, ho0, hb⟩; refine ⟨_, rfl, ?_⟩; have n0_ := Aside0.mk (Kd.R_lower (Kd.R_newB ho0 (g := gb125) (o := .cells #[.int .u8 0, .int .u64 0, .string (⟨#[]⟩ : ByteArray), .slice none 0 0] 25 (0, 0)) (by (with_reducible repeat (first | refine blk_drewN ?_ _ | refine blk_drew ?_ | refine blk_alloc ?_ _)); exact BK125.out)) (below_size (by repeat (first | (with_reducible first | exact HB.out | apply below_alloc | apply pw_below_drewN | apply below_drew1 | refine below_set ?_ GE125.out) | exact HB.out)))); have n1_ := Aside0.mk (blk_below (g := gb125) (o := .cells #[.int .u8 0, .int .u64 0, .string (⟨#[]⟩ : ByteArray), .slice none 0 0] 25 (0, 0)) (by (with_reducible repeat (first | refine blk_drewN ?_ _ | refine blk_drew ?_ | refine blk_alloc ?_ _)); exact BK125.out) hb); have n2_ := Aside0.mk (below_step (by repeat (first | (with_reducible first | exact HB.out | apply below_alloc | apply pw_below_drewN | apply below_drew1 | refine below_set ?_ GE125.out) | exact HB.out)) hb); clear BK125; clear HB; have HO128 := n0_; have BK125 := n1_; have HB := n2_; clear n0_ n1_ n2_; (try clear hb); (try clear hb2); (try clear hk); (try clear hi); (try clear ho0); obtain ⟨Ao6, co6, eo6⟩ := Kd.R_slice HO128.out; subst eo6; have hcz7_0 : w5.cell? ⟨gb125, 0, none⟩ = some (.int .u8 0) := (blk_cell BK125.out 0).trans rfl; have hcz7_1 : w5.cell? ⟨gb125, 1, none⟩ = some (.int .u64 0) := (blk_cell BK125.out 1).trans rfl; have hcz7_2 : w5.cell? ⟨gb125, 2, none⟩ = some (.string (⟨#[]⟩ : ByteArray)) := (blk_cell BK125.out 2).trans rfl; have hcz7_3 : w5.cell? ⟨gb125, 3, none⟩ = some (.slice none 0 0) := (blk_cell BK125.out 3).trans rfl; have hfz7_0 := blk_frozen BK125.out 0; have hfz7_1 := blk_frozen BK125.out 1; have hfz7_2 := blk_frozen BK125.out 2; have hfz7_3 := blk_frozen BK125.out 3))
 refine bodyPost_ret (results_cell_row rfl _ _ gb125 25 #[.int .u8 a0, .int .u64 0, .string (⟨#[]⟩ : ByteArray), .slice Ao6 t126.length co6] (0, 0) _ rfl (by (with_reducible repeat (first | refine blk_drewN ?_ _ | refine blk_drew ?_ | refine blk_alloc ?_ _)); refine blk_put (cs := #[.int .u8 a0, .int .u64 0, .string (⟨#[]⟩ : ByteArray), .slice none 0 0]) ?_ 3 _ rfl; (with_reducible repeat (first | refine blk_drewN ?_ _ | refine blk_drew ?_ | refine blk_alloc ?_ _)); refine blk_put (cs := #[.int .u8 a0, .int .u64 0, .string (⟨#[]⟩ : ByteArray), .slice none 0 0]) ?_ 2 _ rfl; (with_reducible repeat (first | refine blk_drewN ?_ _ | refine blk_drew ?_ | refine blk_alloc ?_ _)); refine blk_put (cs := #[.int .u8 a0, .int .u64 0, .string (⟨#[]⟩ : ByteArray), .slice none 0 0]) ?_ 1 _ rfl; (with_reducible repeat (first | refine blk_drewN ?_ _ | refine blk_drew ?_ | refine blk_alloc ?_ _)); refine blk_put (cs := #[.int .u8 0, .int .u64 0, .string (⟨#[]⟩ : ByteArray), .slice none 0 0]) ?_ 0 _ rfl; (with_reducible repeat (first | refine blk_drewN ?_ _ | refine blk_drew ?_ | refine blk_alloc ?_ _)); exact BK125.out) Try.underlying25 rfl (by kernel_rfl)) rfl ?_
 exact ⟨_, by first | rfl | (simp [errW_none, errW_some] <;> rfl) | (simp [*, errW_none, errW_some] <;> rfl), by (with_reducible repeat (first | apply Kd.R_alloc | apply Kd.R_drewN | apply Kd.R_drew)); exact Kd.R_mono (Kd.R_far (p := ⟨gb125, 3, none⟩) (Kd.R_far (p := ⟨gb125, 2, none⟩) (Kd.R_far (p := ⟨gb125, 1, none⟩) (Kd.R_far (p := ⟨gb125, 0, none⟩) (Kd.R_mono HO128.out (fun k_ hk => (⟨hk, hk.2⟩ : _ ∧ k_ ≠ gb125))) (fun _ hk => hk.2) (.int .u8 a0)) (fun _ hk => hk.2) (.int .u64 0)) (fun _ hk => hk.2) (.string (⟨#[]⟩ : ByteArray))) (fun _ hk => hk.2) (.slice Ao6 t126.length co6)) (fun _ hk => trivial), by repeat (first | (with_reducible first | exact HB.out | apply below_alloc | apply pw_below_drewN | apply below_drew1 | refine below_set ?_ GE125.out) | exact HB.out)⟩
def bellwetherref04_Copy.f (a0_0 : Int) (a0_1 : Int) (a0_2 : ByteArray) (l0_3 : List (S25)) : Option (Int × Int × ByteArray × List S25) := if itemsN ⟨a0_0, a0_1, a0_2, l0_3⟩ ≤ 4294967296 then some (a0_0, a0_1, a0_2, l0_3) else none
theorem bellwetherref04_Copy.calls (a0_0 : Int) (a0_1 : Int) (a0_2 : ByteArray) (A0_3 : Option Addr) (c0_3 : Nat) (l0_3 : List (S25)) (r1 : Int) (r2 : Int) (r3 : ByteArray) (r4 : List (S25)) (w : World) (hr0_3 : Kd.C k25 w A0_3 l0_3.length l0_3) (hc0_3 : l0_3.length ≤ c0_3) (h : bellwetherref04_Copy.f a0_0 a0_1 a0_2 l0_3 = some (r1, r2, r3, r4)) :
  Calls Try.prog 16 #[.agg #[.int .u8 a0_0, .int .u64 a0_1, .string a0_2, .slice A0_3 l0_3.length c0_3]] w fun e w' => ∃ v3_ : Value, e = .returned (.agg #[.int .u8 r1, .int .u64 r2, .string r3, v3_]) ∧ Kd.R k25 25 w' w.heap.size (fun _ => True) v3_ r4 ∧ Below w.heap.size w w' := by
 unfold bellwetherref04_Copy.f at h
 split at h
 ·rename_i hq
  cases h
  exact (copy16_any ⟨a0_0, a0_1, a0_2, l0_3⟩ hq A0_3 c0_3 w hr0_3 hc0_3).mono fun e w' ⟨A', c', he, hm⟩ => ⟨_, he, hm.1, hm.2⟩
 ·cases h
def bellwetherref04_Get.l0 : Nat → Int → Int → Int → ByteArray → List (S25) → Int → Int → ByteArray → List (S25) → Option (Int × Int × ByteArray × (List (S25)) × Bool)
 | 0, _, _, _, _, _, _, _, _, _ => none
 | k + 1, x6, x130000, x130001, x130002, x130003, x131000, x131001, x131002, x131003 => if (wrap64 (x6 + 1)) < (x130003.length : Int) then (if 0 ≤ x6 then (if x6 < (x130003.length : Int) then ((bellwetherref04_Same.f k ((rd_T25 x130003 x6).f0) ((rd_T25 x130003 x6).f1) ((rd_T25 x130003 x6).f2) ((rd_T25 x130003 x6).f3) x131000 x131001 x131002 x131003).bind fun t133 => (if t133 = true then (if 0 ≤ (wrap64 (x6 + 1)) then ((bellwetherref04_Copy.f ((rd_T25 x130003 (wrap64 (x6 + 1))).f0) ((rd_T25 x130003 (wrap64 (x6 + 1))).f1) ((rd_T25 x130003 (wrap64 (x6 + 1))).f2) ((rd_T25 x130003 (wrap64 (x6 + 1))).f3)).bind fun bt135 => (some (bt135.1, bt135.2.1, bt135.2.2.1, bt135.2.2.2, true))) else (none)) else (bellwetherref04_Get.l0 k (wrap64 (x6 + 2)) x130000 x130001 x130002 x130003 x131000 x131001 x131002 x131003))) else (none)) else (none)) else (some (0, 0, (⟨#[]⟩ : ByteArray), ([] : List (S25)), false))
def bellwetherref04_Get.f (k : Nat) (a0_0 : Int) (a0_1 : Int) (a0_2 : ByteArray) (l0_3 : List (S25)) (a1_0 : Int) (a1_1 : Int) (a1_2 : ByteArray) (l1_3 : List (S25)) : Option (Int × Int × ByteArray × (List (S25)) × Bool) := if a0_0 = 23 then (bellwetherref04_Get.l0 k 0 a0_0 a0_1 a0_2 l0_3 a1_0 a1_1 a1_2 l1_3) else (some (0, 0, (⟨#[]⟩ : ByteArray), ([] : List (S25)), false))
theorem bellwetherref04_Get.mono_l : ∀ k, (∀ y0 y1 y2 y3 y4 y5 y6 y7 y8, LeO (bellwetherref04_Get.l0 k y0 y1 y2 y3 y4 y5 y6 y7 y8) (bellwetherref04_Get.l0 (k + 1) y0 y1 y2 y3 y4 y5 y6 y7 y8))
 | 0 => fun _ _ _ _ _ _ _ _ _ r h => by simp [bellwetherref04_Get.l0] at h
 | k + 1 => by
  have ih0 := bellwetherref04_Get.mono_l k
  ·intro y0 y1 y2 y3 y4 y5 y6 y7 y8
   unfold bellwetherref04_Get.l0
   repeat' first
   | (with_reducible exact ih0 _ _ _ _ _ _ _ _ _)
   | (with_reducible exact bellwetherref04_Same.mono _ _ _ _ _ _ _ _ _)
   | (with_reducible exact LeO.refl _)
   | (with_reducible exact LeO.none _)
   | (with_reducible refine LeO.ite ?_ ?_)
   | (with_reducible refine LeO.bind ?_ (fun _ => ?_))
   | exact ih0 _ _ _ _ _ _ _ _ _
   | exact bellwetherref04_Same.mono _ _ _ _ _ _ _ _ _
   | exact LeO.none _
   | refine LeO.ite ?_ ?_
   | refine LeO.bind ?_ (fun _ => ?_)
theorem bellwetherref04_Get.mono : ∀ a0 a1 a2 a3 a4 a5 a6 a7 k, LeO (bellwetherref04_Get.f k a0 a1 a2 a3 a4 a5 a6 a7) (bellwetherref04_Get.f (k + 1) a0 a1 a2 a3 a4 a5 a6 a7) := by
 intro a0 a1 a2 a3 a4 a5 a6 a7 k
 have ih0 := bellwetherref04_Get.mono_l k
 unfold bellwetherref04_Get.f
 repeat' first
   | (with_reducible exact ih0 _ _ _ _ _ _ _ _ _)
   | (with_reducible exact bellwetherref04_Same.mono _ _ _ _ _ _ _ _ _)
   | (with_reducible exact LeO.refl _)
   | (with_reducible exact LeO.none _)
   | (with_reducible refine LeO.ite ?_ ?_)
   | (with_reducible refine LeO.bind ?_ (fun _ => ?_))
   | exact ih0 _ _ _ _ _ _ _ _ _
   | exact bellwetherref04_Same.mono _ _ _ _ _ _ _ _ _
   | exact LeO.none _
   | refine LeO.ite ?_ ?_
   | refine LeO.bind ?_ (fun _ => ?_)
set_option maxHeartbeats 8000000 in
set_option maxRecDepth 100000 in
theorem bellwetherref04_Get.calls (k : Nat) (a0_0 : Int) (a0_1 : Int) (a0_2 : ByteArray) (A0_3 : Option Addr) (c0_3 : Nat) (l0_3 : List (S25)) (a1_0 : Int) (a1_1 : Int) (a1_2 : ByteArray) (A1_3 : Option Addr) (c1_3 : Nat) (l1_3 : List (S25)) (r1 : Int) (r2 : Int) (r3 : ByteArray) (r4 : List (S25)) (r5 : Bool) (w : World) (hr0_3 : Kd.C k25 w A0_3 l0_3.length l0_3) (hc0_3 : l0_3.length ≤ c0_3) (hr1_3 : Kd.C k25 w A1_3 l1_3.length l1_3) (hc1_3 : l1_3.length ≤ c1_3) (h : bellwetherref04_Get.f k a0_0 a0_1 a0_2 l0_3 a1_0 a1_1 a1_2 l1_3 = some (r1, r2, r3, r4, r5)) :
  Calls Try.prog 37 #[.agg #[.int .u8 a0_0, .int .u64 a0_1, .string a0_2, .slice A0_3 l0_3.length c0_3], .agg #[.int .u8 a1_0, .int .u64 a1_1, .string a1_2, .slice A1_3 l1_3.length c1_3]] w fun e w' => ∃ v3_ : Value, e = .returned (.tuple #[.agg #[.int .u8 r1, .int .u64 r2, .string r3, v3_], .bool r5]) ∧ Kd.R k25 25 w' w.heap.size (fun _ => True) v3_ r4 ∧ Below w.heap.size w w' := by
 have hu25 := Try.underlying25
 have HR0_3 := Aside0.mk hr0_3
 have HC0_3 := Aside0.mk hc0_3
 clear hr0_3 hc0_3
 have HR1_3 := Aside0.mk hr1_3
 have HC1_3 := Aside0.mk hc1_3
 clear hr1_3 hc1_3
 have HB := Aside0.mk (Below.refl w.heap.size w)
 have H : (if a0_0 = 23 then (bellwetherref04_Get.l0 k 0 a0_0 a0_1 a0_2 l0_3 a1_0 a1_1 a1_2 l1_3) else (some (0, 0, (⟨#[]⟩ : ByteArray), ([] : List (S25)), false))) = some (r1, r2, r3, r4, r5) := h
 clear h
 by_cases c3 : a0_0 = 23
 ·rw [if_pos c3] at H
  have c3b0 : (a0_0 == 23) = true := beq_iff_eq.mpr c3
  have c3b1 : (a0_0 != 23) = false := bne_eq_false_iff_eq.mpr c3
  clear c3
  have H' := Aside0.mk H
  clear H
  go_enter Try.func37, Try.ntmps37
  go_wp2_with (first | ((with_reducible refine gate_dst (N := 2) rfl ?_); refine box_event ?hg (N := 2) ?hd (cs := #[.int .u8 a0_0, .int .u64 a0_1, .string a0_2, .slice A0_3 l0_3.length c0_3]) (t := 25) ?hr ?_; (case hd => rfl); (case hg => rfl); (case hr => first | (go_simp; done) | (go_simp; rfl)); intro gb129 hg w4 hbox hb; have n0_ := Aside0.mk (below_step (by repeat (first | (with_reducible first | exact HB.out | apply below_alloc | apply pw_below_drewN | apply below_drew1) | exact HB.out)) hb); have n1_ := Aside0.mk (hbox); have n2_ := Aside0.mk ((by rw [hg]; exact (below_size (by repeat (first | (with_reducible first | exact HB.out | apply below_alloc | apply pw_below_drewN | apply below_drew1) | exact HB.out))) : w.heap.size ≤ gb129)); have n3_ := Aside0.mk ((by rw [hg]; exact (below_size (by repeat (first | (with_reducible first | exact HB.out | apply below_alloc | apply pw_below_drewN | apply below_drew1) | exact HB.out))) : w.heap.size ≤ gb129)); clear HB; have HB := n0_; have BK129 := n1_; have GW129 := n2_; have GE129 := n3_; clear n0_ n1_ n2_ n3_; clear hb hbox hg) | ((with_reducible refine gate_dst (N := 3) rfl ?_); refine box_event ?hg (N := 3) ?hd (cs := #[.int .u8 a1_0, .int .u64 a1_1, .string a1_2, .slice A1_3 l1_3.length c1_3]) (t := 25) ?hr ?_; (case hd => rfl); (case hg => rfl); (case hr => first | (go_simp; done) | (go_simp; rfl)); intro gb130 hg w5 hbox hb; have n0_ := Aside0.mk (blk_below (g := gb129) (o := .cells #[.int .u8 a0_0, .int .u64 a0_1, .string a0_2, .slice A0_3 l0_3.length c0_3] 25 (0, 0)) (by (with_reducible repeat (first | refine blk_drewN ?_ _ | refine blk_drew ?_ | refine blk_alloc ?_ _)); exact BK129.out) hb); have n1_ := Aside0.mk (below_step (by repeat (first | (with_reducible first | exact HB.out | apply below_alloc | apply pw_below_drewN | apply below_drew1 | refine below_set ?_ GE129.out) | exact HB.out)) hb); have n2_ := Aside0.mk (hbox); have n3_ := Aside0.mk ((by rw [hg]; exact (below_size (by repeat (first | (with_reducible first | exact HB.out | apply below_alloc | apply pw_below_drewN | apply below_drew1 | refine below_set ?_ GE129.out) | exact HB.out))) : w.heap.size ≤ gb130)); have n4_ := Aside0.mk ((by rw [hg]; exact (below_size (by repeat (first | (with_reducible first | exact HB.out | apply below_alloc | apply pw_below_drewN | apply below_drew1 | refine below_set ?_ GE129.out) | exact HB.out))) : w.heap.size ≤ gb130)); have n5_ := Aside0.mk ((by rw [hg]; exact Nat.ne_of_lt (blk_lt (g := gb129) (o := .cells #[.int .u8 a0_0, .int .u64 a0_1, .string a0_2, .slice A0_3 l0_3.length c0_3] 25 (0, 0)) (by (with_reducible repeat (first | refine blk_drewN ?_ _ | refine blk_drew ?_ | refine blk_alloc ?_ _)); exact BK129.out)) : gb129 ≠ gb130)); have n6_ := Aside0.mk ((by rw [hg]; exact Nat.ne_of_gt (blk_lt (g := gb129) (o := .cells #[.int .u8 a0_0, .int .u64 a0_1, .string a0_2, .slice A0_3 l0_3.length c0_3] 25 (0, 0)) (by (with_reducible repeat (first | refine blk_drewN ?_ _ | refine blk_drew ?_ | refine blk_alloc ?_ _)); exact BK129.out)) : gb130 ≠ gb129)); clear BK129; clear HB; have BK129 := n0_; have HB := n1_; have BK130 := n2_; have GW130 := n3_; have GE130 := n4_; have NB129_130 := n5_; have NB130_129 := n6_; clear n0_ n1_ n2_ n3_ n4_ n5_ n6_; clear hb hbox hg) | ((with_reducible refine gate_dst (N := 4) rfl ?_); refine box_event ?hg (N := 4) ?hd (cs := #[.int .u8 0, .int .u64 0, .string (⟨#[]⟩ : ByteArray), .slice none 0 0]) (t := 25) ?hr ?_; (case hd => rfl); (case hg => rfl); (case hr => first | (go_simp; done) | (go_simp; rfl)); intro gb131 hg w6 hbox hb; have n0_ := Aside0.mk (blk_below (g := gb129) (o := .cells #[.int .u8 a0_0, .int .u64 a0_1, .string a0_2, .slice A0_3 l0_3.length c0_3] 25 (0, 0)) (by (with_reducible repeat (first | refine blk_drewN ?_ _ | refine blk_drew ?_ | refine blk_alloc ?_ _)); exact BK129.out) hb); have n1_ := Aside0.mk (blk_below (g := gb130) (o := .cells #[.int .u8 a1_0, .int .u64 a1_1, .string a1_2, .slice A1_3 l1_3.length c1_3] 25 (0, 0)) (by (with_reducible repeat (first | refine blk_drewN ?_ _ | refine blk_drew ?_ | refine blk_alloc ?_ _)); exact BK130.out) hb); have n2_ := Aside0.mk (below_step (by repeat (first | (with_reducible first | exact HB.out | apply below_alloc | apply pw_below_drewN | apply below_drew1 | refine below_set ?_ GE129.out | refine below_set ?_ GE130.out) | exact HB.out)) hb); have n3_ := Aside0.mk (hbox); have n4_ := Aside0.mk ((by rw [hg]; exact (below_size (by repeat (first | (with_reducible first | exact HB.out | apply below_alloc | apply pw_below_drewN | apply below_drew1 | refine below_set ?_ GE129.out | refine below_set ?_ GE130.out) | exact HB.out))) : w.heap.size ≤ gb131)); have n5_ := Aside0.mk ((by rw [hg]; exact (below_size (by repeat (first | (with_reducible first | exact HB.out | apply below_alloc | apply pw_below_drewN | apply below_drew1 | refine below_set ?_ GE129.out | refine below_set ?_ GE130.out) | exact HB.out))) : w.heap.size ≤ gb131)); have n6_ := Aside0.mk ((by rw [hg]; exact Nat.ne_of_lt (blk_lt (g := gb129) (o := .cells #[.int .u8 a0_0, .int .u64 a0_1, .string a0_2, .slice A0_3 l0_3.length c0_3] 25 (0, 0)) (by (with_reducible repeat (first | refine blk_drewN ?_ _ | refine blk_drew ?_ | refine blk_alloc ?_ _)); exact BK129.out)) : gb129 ≠ gb131)); have n7_ := Aside0.mk ((by rw [hg]; exact Nat.ne_of_gt (blk_lt (g := gb129) (o := .cells #[.int .u8 a0_0, .int .u64 a0_1, .string a0_2, .slice A0_3 l0_3.length c0_3] 25 (0, 0)) (by (with_reducible repeat (first | refine blk_drewN ?_ _ | refine blk_drew ?_ | refine blk_alloc ?_ _)); exact BK129.out)) : gb131 ≠ gb129)); have n8_ := Aside0.mk ((by rw [hg]; exact Nat.ne_of_lt (blk_lt (g := gb130) (o := .cells #[.int .u8 a1_0, .int .u64 a1_1, .string a1_2, .slice A1_3 l1_3.length c1_3] 25 (0, 0)) (by (with_reducible repeat (first | refine blk_drewN ?_ _ | refine blk_drew ?_ | refine blk_alloc ?_ _)); exact BK130.out)) : gb130 ≠ gb131)); have n9_ := Aside0.mk ((by rw [hg]; exact Nat.ne_of_gt (blk_lt (g := gb130) (o := .cells #[.int .u8 a1_0, .int .u64 a1_1, .string a1_2, .slice A1_3 l1_3.length c1_3] 25 (0, 0)) (by (with_reducible repeat (first | refine blk_drewN ?_ _ | refine blk_drew ?_ | refine blk_alloc ?_ _)); exact BK130.out)) : gb131 ≠ gb130)); clear BK129; clear BK130; clear HB; have BK129 := n0_; have BK130 := n1_; have HB := n2_; have BK131 := n3_; have GW131 := n4_; have GE131 := n5_; have NB129_131 := n6_; have NB131_129 := n7_; have NB130_131 := n8_; have NB131_130 := n9_; clear n0_ n1_ n2_ n3_ n4_ n5_ n6_ n7_ n8_ n9_; clear hb hbox hg; have hnb7 := NB129_130.out; have hnc7 := NB130_129.out; have hnb8 := NB129_131.out; have hnc8 := NB131_129.out; have hcz9_0 : w6.cell? ⟨gb129, 0, none⟩ = some (.int .u8 a0_0) := (blk_cell BK129.out 0).trans rfl; have hcz9_1 : w6.cell? ⟨gb129, 1, none⟩ = some (.int .u64 a0_1) := (blk_cell BK129.out 1).trans rfl; have hcz9_2 : w6.cell? ⟨gb129, 2, none⟩ = some (.string a0_2) := (blk_cell BK129.out 2).trans rfl; have hcz9_3 : w6.cell? ⟨gb129, 3, none⟩ = some (.slice A0_3 l0_3.length c0_3) := (blk_cell BK129.out 3).trans rfl; have hfz9_0 := blk_frozen BK129.out 0; have hfz9_1 := blk_frozen BK129.out 1; have hfz9_2 := blk_frozen BK129.out 2; have hfz9_3 := blk_frozen BK129.out 3))
  go_loopg [6] k (fun kq v6 w' => ∃ (x6_1 : Int) (x132000_1 : Int) (x132001_1 : Int) (x132002_1 : ByteArray), v6 = .int .i64 x6_1 ∧ Aside0 (bellwetherref04_Get.l0 kq x6_1 a0_0 a0_1 a0_2 l0_3 a1_0 a1_1 a1_2 l1_3 = some (r1, r2, r3, r4, r5)) ∧ Aside0 (kq ≤ k) ∧ Aside0 (w'.heap[gb129]? = some (.cells #[.int .u8 a0_0, .int .u64 a0_1, .string a0_2, (.slice A0_3 l0_3.length c0_3)] 25 (0, 0))) ∧ Aside0 (w'.heap[gb130]? = some (.cells #[.int .u8 a1_0, .int .u64 a1_1, .string a1_2, (.slice A1_3 l1_3.length c1_3)] 25 (0, 0))) ∧ Aside0 (w'.heap[gb131]? = some (.cells #[.int .u8 x132000_1, .int .u64 x132001_1, .string x132002_1, (.slice none 0 0)] 25 (0, 0))) ∧ Aside0 (Below w.heap.size w w'))
  case atStart => exact ⟨(0), (0), (0), ((⟨#[]⟩ : ByteArray)), (by first | rfl | (simp; done) | (simp [*]; done)), H', ⟨Nat.le_refl _⟩, ⟨by (with_reducible repeat (first | refine blk_drewN ?_ _ | refine blk_drew ?_ | refine blk_alloc ?_ _)); exact BK129.out⟩, ⟨by (with_reducible repeat (first | refine blk_drewN ?_ _ | refine blk_drew ?_ | refine blk_alloc ?_ _)); exact BK130.out⟩, ⟨by (with_reducible repeat (first | refine blk_drewN ?_ _ | refine blk_drew ?_ | refine blk_alloc ?_ _)); exact BK131.out⟩, ⟨by repeat (first | (with_reducible first | exact HB.out | apply below_alloc | apply pw_below_drewN | apply below_drew1 | refine below_set ?_ GE129.out | refine below_set ?_ GE130.out | refine below_set ?_ GE131.out) | exact HB.out)⟩⟩
  case round =>
   clear H'
   try clear c1
   try clear p2
   try clear c3
   try clear c3b0
   try clear c3b1
   try clear c7
   try clear c8
   try clear hcz9_0
   try clear hcz9_1
   try clear hcz9_2
   try clear hcz9_3
   try clear hfz9_0
   try clear hfz9_1
   try clear hfz9_2
   try clear hfz9_3
   obtain ⟨x6_1, x132000_1, x132001_1, x132002_1, rfl, HA, HK1, BK129, BK130, BK131, HB⟩ := hrel
   cases gk with
   | zero => exact absurd HA.out (by simp [bellwetherref04_Get.l0])
   | succ k1 =>
    have H := HA.out
    clear HA
    simp only [bellwetherref04_Get.l0] at H
    by_cases c10 : (wrap64 (x6_1 + 1)) < (l0_3.length : Int)
    ·rw [if_pos c10] at H
     have c10b0 : decide ((wrap64 (x6_1 + 1)) < (l0_3.length : Int)) = true := decide_eq_true c10
     clear c10
     by_cases c11 : 0 ≤ x6_1
     ·rw [if_pos c11] at H
      have c11b0 : decide (0 ≤ x6_1) = true := decide_eq_true c11
      clear c11
      by_cases c12 : x6_1 < (l0_3.length : Int)
      ·rw [if_pos c12] at H
       have c12b0 : decide (x6_1 < (l0_3.length : Int)) = true := decide_eq_true c12
       clear c12
       replace H := Option.bind_eq_some_iff.mp H
       obtain ⟨t133, A130, H⟩ := H
       replace H : (if t133 = true then (if 0 ≤ (wrap64 (x6_1 + 1)) then ((bellwetherref04_Copy.f ((rd_T25 l0_3 (wrap64 (x6_1 + 1))).f0) ((rd_T25 l0_3 (wrap64 (x6_1 + 1))).f1) ((rd_T25 l0_3 (wrap64 (x6_1 + 1))).f2) ((rd_T25 l0_3 (wrap64 (x6_1 + 1))).f3)).bind fun bt135 => (some (bt135.1, bt135.2.1, bt135.2.2.1, bt135.2.2.2, true))) else (none)) else (bellwetherref04_Get.l0 k1 (wrap64 (x6_1 + 2)) a0_0 a0_1 a0_2 l0_3 a1_0 a1_1 a1_2 l1_3)) = some (r1, r2, r3, r4, r5) := H
       have A13 := Aside0.mk A130
       clear A130
       by_cases c14 : t133 = true
       ·subst c14
        have H1 : (if 0 ≤ (wrap64 (x6_1 + 1)) then ((bellwetherref04_Copy.f ((rd_T25 l0_3 (wrap64 (x6_1 + 1))).f0) ((rd_T25 l0_3 (wrap64 (x6_1 + 1))).f1) ((rd_T25 l0_3 (wrap64 (x6_1 + 1))).f2) ((rd_T25 l0_3 (wrap64 (x6_1 + 1))).f3)).bind fun bt135 => (some (bt135.1, bt135.2.1, bt135.2.2.1, bt135.2.2.2, true))) else (none)) = some (r1, r2, r3, r4, r5) := by rw [if_pos rfl] at H; exact H
        clear H
        have H := H1
        clear H1
        obtain ⟨ji15, hji15⟩ : ∃ j_ : Int, (wrap64 (x6_1 + 1)) = j_ := ⟨_, rfl⟩
        replace H : (if 0 ≤ (ji15) then ((bellwetherref04_Copy.f ((rd_T25 l0_3 (ji15)).f0) ((rd_T25 l0_3 (ji15)).f1) ((rd_T25 l0_3 (ji15)).f2) ((rd_T25 l0_3 (ji15)).f3)).bind fun bt135 => (some (bt135.1, bt135.2.1, bt135.2.2.1, bt135.2.2.2, true))) else (none)) = some (r1, r2, r3, r4, r5) := by first | (rw [hji15] at H; exact H) | (simp only [hji15] at H ⊢; exact H)
        (try rw [hji15] at c10b0)
        (try rw [hji15] at A13)
        have hji15w : (IntKind.i64.wrap (x6_1 + 1)) = ji15 := (i64_w _).trans hji15
        by_cases c16 : 0 ≤ (ji15)
        ·rw [if_pos c16] at H
         have c16b0 : decide (0 ≤ (ji15)) = true := decide_eq_true c16
         clear c16
         replace H := Option.bind_eq_some_iff.mp H
         obtain ⟨⟨t135, t136, t137, t138⟩, A170, H⟩ := H
         replace H : (some (t135, t136, t137, t138, true)) = some (r1, r2, r3, r4, r5) := H
         have A17 := Aside0.mk A170
         clear A170
         simp only [Option.some.injEq, Prod.mk.injEq] at H
         obtain ⟨rfl, rfl, rfl, rfl, rfl⟩ := H
         have hnb18 := NB129_130.out
         have hnc18 := NB130_129.out
         have hnb19 := NB129_131.out
         have hnc19 := NB131_129.out
         have hcz20_0 : wr.cell? ⟨gb129, 0, none⟩ = some (.int .u8 a0_0) := (blk_cell BK129.out 0).trans rfl
         have hcz20_1 : wr.cell? ⟨gb129, 1, none⟩ = some (.int .u64 a0_1) := (blk_cell BK129.out 1).trans rfl
         have hcz20_2 : wr.cell? ⟨gb129, 2, none⟩ = some (.string a0_2) := (blk_cell BK129.out 2).trans rfl
         have hcz20_3 : wr.cell? ⟨gb129, 3, none⟩ = some (.slice A0_3 l0_3.length c0_3) := (blk_cell BK129.out 3).trans rfl
         have hfz20_0 := blk_frozen BK129.out 0
         have hfz20_1 := blk_frozen BK129.out 1
         have hfz20_2 := blk_frozen BK129.out 2
         have hfz20_3 := blk_frozen BK129.out 3
         try go_wp2
         have n0_ := Aside0.mk (blk_drew BK129.out)
         have n1_ := Aside0.mk (blk_drew BK130.out)
         have n2_ := Aside0.mk (blk_drew BK131.out)
         have n3_ := Aside0.mk (below_drew1 HB.out)
         clear BK129
         clear BK130
         clear BK131
         clear HB
         have BK129 := n0_
         have BK130 := n1_
         have BK131 := n2_
         have HB := n3_
         clear n0_ n1_ n2_ n3_
         have p132 : 0 ≤ (x6_1 : Int) := of_decide_eq_true (by first | (with_reducible assumption) | assumption)
         have q132 : x6_1 < (l0_3.length : Int) := of_decide_eq_true (by first | (with_reducible assumption) | assumption)
         obtain ⟨ad132, A132_3, c132_3, e132, hx132_0, hx132_1, hx132_2, hx132_3, hl132_3, hi132_3⟩ := at_T25 HR0_3.out x6_1 p132 q132
         have hw132_3 := hx132_3
         have hw132_2 := hx132_2
         have hw132_1 := hx132_1
         have hw132_0 := hx132_0
         cases e132
         replace hx132_0 := (HB.out.cell (World.block_lt_of_cell? w _ hx132_0)).trans hx132_0
         replace hx132_1 := (HB.out.cell (World.block_lt_of_cell? w _ hx132_1)).trans hx132_1
         replace hx132_2 := (HB.out.cell (World.block_lt_of_cell? w _ hx132_2)).trans hx132_2
         replace hx132_3 := (HB.out.cell (World.block_lt_of_cell? w _ hx132_3)).trans hx132_3
         have HR132_3 := Aside0.mk hi132_3
         have HC132_3 := Aside0.mk hl132_3
         clear hi132_3 hl132_3
         replace p132 := eq_true p132
         replace q132 := eq_true q132
         refine start_ (n := 7) (S := fun w' => w'.cell? ⟨gb129, 0, none⟩ = some (.int .u8 a0_0) ∧ w'.cell? ⟨gb129, 1, none⟩ = some (.int .u64 a0_1) ∧ w'.cell? ⟨gb129, 2, none⟩ = some (.string a0_2) ∧ w'.cell? ⟨gb129, 3, none⟩ = some (.slice (some ad132) l0_3.length c0_3) ∧ w'.cell? ⟨gb130, 0, none⟩ = some (.int .u8 a1_0) ∧ w'.cell? ⟨gb130, 1, none⟩ = some (.int .u64 a1_1) ∧ w'.cell? ⟨gb130, 2, none⟩ = some (.string a1_2) ∧ w'.cell? ⟨gb130, 3, none⟩ = some (.slice A1_3 l1_3.length c1_3) ∧ w'.cell? (ad132.add ((x6_1).toNat * 4)) = some (.int .u8 ((rd_T25 l0_3 x6_1).f0)) ∧ w'.cell? ⟨(ad132.add ((x6_1).toNat * 4)).block, (ad132.add ((x6_1).toNat * 4)).off + 1, none⟩ = some (.int .u64 ((rd_T25 l0_3 x6_1).f1)) ∧ w'.cell? ⟨(ad132.add ((x6_1).toNat * 4)).block, (ad132.add ((x6_1).toNat * 4)).off + 2, none⟩ = some (.string ((rd_T25 l0_3 x6_1).f2)) ∧ w'.cell? ⟨(ad132.add ((x6_1).toNat * 4)).block, (ad132.add ((x6_1).toNat * 4)).off + 3, none⟩ = some (.slice A132_3 ((rd_T25 l0_3 x6_1).f3).length c132_3)) (ds := []) #[false, false, false, false, false, false, false] (by kernel_rfl) rfl rfl ⟨(blk_cell BK129.out 0).trans rfl, (blk_cell BK129.out 1).trans rfl, (blk_cell BK129.out 2).trans rfl, (blk_cell BK129.out 3).trans rfl, (blk_cell BK130.out 0).trans rfl, (blk_cell BK130.out 1).trans rfl, (blk_cell BK130.out 2).trans rfl, (blk_cell BK130.out 3).trans rfl, ((HB.out.cell (World.block_lt_of_cell? w _ hw132_0)).trans hw132_0), ((HB.out.cell (World.block_lt_of_cell? w _ hw132_1)).trans hw132_1), ((HB.out.cell (World.block_lt_of_cell? w _ hw132_2)).trans hw132_2), ((HB.out.cell (World.block_lt_of_cell? w _ hw132_3)).trans hw132_3)⟩ (fun hHeld => ?_)
         generalize wr.drew = w21 at BK129 BK130 BK131 HB HR132_3 hx132_0 hx132_1 hx132_2 hx132_3 hHeld ⊢
         refine pure_ (i := 0) (N := some 19) (v := ?_) (a' := ?_) #[true, false, false, false, false, false, false] rfl rfl (by kernel_rfl) (fun _ _ _ h => h) (Or.inl ⟨by rfl, ?_⟩) ?_ ?_
         rotate_left
         ·intro w'
          go_simp
          with_reducible rfl
         rotate_left
         ·simp only [Act.put, List.setIfInBounds_toArray, List.set_cons_zero, List.set_cons_succ, i64_w, i32_w]
          rfl
         refine pure_ (i := 2) (N := some 21) (v := ?_) (a' := ?_) #[true, false, true, false, false, false, false] rfl rfl (by kernel_rfl) (fun _ _ _ h => h) (Or.inl ⟨by rfl, ?_⟩) ?_ ?_
         rotate_left
         ·intro w'
          go_simp
          with_reducible rfl
         rotate_left
         ·simp only [Act.put, List.setIfInBounds_toArray, List.set_cons_zero, List.set_cons_succ, i64_w, i32_w]
          rfl
         refine take_ (i := 1) (N := some 20) (v := ?_) (a' := ?_) #[true, true, true, false, false, false, false] rfl rfl (by kernel_rfl) (fun _ _ _ h => h) (Or.inl ⟨by rfl, ?_⟩) hHeld ?_ ?_
         rotate_left
         ·rintro w' ⟨s0, s1, s2, s3, s4, s5, s6, s7, s8, s9, s10, s11⟩
          go_simp
          with_reducible rfl
         rotate_left
         ·simp only [Act.put, List.setIfInBounds_toArray, List.set_cons_zero, List.set_cons_succ, i64_w, i32_w]
          rfl
         refine pure_ (i := 3) (N := some 22) (v := ?_) (a' := ?_) #[true, true, true, true, false, false, false] rfl rfl (by kernel_rfl) (fun _ _ _ h => h) (Or.inl ⟨by rfl, ?_⟩) ?_ ?_
         rotate_left
         ·intro w'
          go_simp
          with_reducible rfl
         rotate_left
         ·simp only [Act.put, List.setIfInBounds_toArray, List.set_cons_zero, List.set_cons_succ, i64_w, i32_w]
          rfl
         refine take_ (i := 4) (N := some 23) (v := ?_) (a' := ?_) #[true, true, true, true, true, false, false] rfl rfl (by kernel_rfl) (fun _ _ _ h => h) (Or.inl ⟨by rfl, ?_⟩) hHeld ?_ ?_
         rotate_left
         ·rintro w' ⟨s0, s1, s2, s3, s4, s5, s6, s7, s8, s9, s10, s11⟩
          go_simp
          with_reducible rfl
         rotate_left
         ·simp only [Act.put, List.setIfInBounds_toArray, List.set_cons_zero, List.set_cons_succ, i64_w, i32_w]
          rfl
         refine take_ (i := 5) (N := some 24) (v := ?_) (a' := ?_) #[true, true, true, true, true, true, false] rfl rfl (by kernel_rfl) (fun _ _ _ h => h) (Or.inl ⟨by rfl, ?_⟩) hHeld ?_ ?_
         rotate_left
         ·rintro w' ⟨s0, s1, s2, s3, s4, s5, s6, s7, s8, s9, s10, s11⟩
          go_simp
          with_reducible rfl
         rotate_left
         ·simp only [Act.put, List.setIfInBounds_toArray, List.set_cons_zero, List.set_cons_succ, i64_w, i32_w]
          rfl
         refine one_ (i := 6) (N := some 25) #[true, true, true, true, true, true, true] rfl rfl (by kernel_rfl) (by decide) (fun K hK => ?_)
         refine goes_ Try.func19 (by kernel_rfl) rfl #[.agg #[.int .u8 ((rd_T25 l0_3 x6_1).f0), .int .u64 ((rd_T25 l0_3 x6_1).f1), .string ((rd_T25 l0_3 x6_1).f2), .slice A132_3 ((rd_T25 l0_3 x6_1).f3).length c132_3], .agg #[.int .u8 a1_0, .int .u64 a1_1, .string a1_2, .slice A1_3 l1_3.length c1_3]] (by rfl) rfl rfl (by (try simp only [List.map_toArray, List.map_cons, List.map_nil]); first | done | rfl | (simp only [List.length_drop, List.length_take]; rfl)) ?_
         with_reducible refine (bellwetherref04_Same.calls k1 ((rd_T25 l0_3 x6_1).f0) ((rd_T25 l0_3 x6_1).f1) ((rd_T25 l0_3 x6_1).f2) _ _ ((rd_T25 l0_3 x6_1).f3) a1_0 a1_1 a1_2 _ _ l1_3 true _ ?side1 ?side2 ?side3 ?side4 A13.out).mono ?_
         (case side1 => repeat (first | exact (Kd.C_below HR132_3.out HB.out) | (with_reducible refine Kd.C_alloc ?_ _) | (with_reducible refine Kd.C_drewN ?_ _) | (with_reducible refine Kd.C_drew ?_)))
         (case side2 => exact HC132_3.out)
         (case side3 => repeat (first | exact (Kd.C_below HR1_3.out HB.out) | (with_reducible refine Kd.C_alloc ?_ _) | (with_reducible refine Kd.C_drewN ?_ _) | (with_reducible refine Kd.C_drew ?_)))
         (case side4 => exact HC1_3.out)
         rintro e w22 ⟨rfl, hb⟩
         refine ⟨_, rfl, ?_⟩
         have n0_ := Aside0.mk (blk_below (g := gb129) (o := .cells #[.int .u8 a0_0, .int .u64 a0_1, .string a0_2, .slice (some ad132) l0_3.length c0_3] 25 (0, 0)) (by (with_reducible repeat (first | refine blk_drewN ?_ _ | refine blk_drew ?_ | refine blk_alloc ?_ _)); exact BK129.out) hb)
         have n1_ := Aside0.mk (blk_below (g := gb130) (o := .cells #[.int .u8 a1_0, .int .u64 a1_1, .string a1_2, .slice A1_3 l1_3.length c1_3] 25 (0, 0)) (by (with_reducible repeat (first | refine blk_drewN ?_ _ | refine blk_drew ?_ | refine blk_alloc ?_ _)); exact BK130.out) hb)
         have n2_ := Aside0.mk (blk_below (g := gb131) (o := .cells #[.int .u8 x132000_1, .int .u64 x132001_1, .string x132002_1, .slice none 0 0] 25 (0, 0)) (by (with_reducible repeat (first | refine blk_drewN ?_ _ | refine blk_drew ?_ | refine blk_alloc ?_ _)); exact BK131.out) hb)
         have n3_ := Aside0.mk (below_step (by repeat (first | (with_reducible first | exact HB.out | apply below_alloc | apply pw_below_drewN | apply below_drew1 | refine below_set ?_ GE129.out | refine below_set ?_ GE130.out | refine below_set ?_ GE131.out) | exact HB.out)) hb)
         clear BK129
         clear BK130
         clear BK131
         clear HB
         have BK129 := n0_
         have BK130 := n1_
         have BK131 := n2_
         have HB := n3_
         clear n0_ n1_ n2_ n3_
         (try clear hb)
         (try clear hb2)
         (try clear hk)
         (try clear hi)
         refine hK.out _ _ ⟨(blk_cell BK129.out 0).trans rfl, (blk_cell BK129.out 1).trans rfl, (blk_cell BK129.out 2).trans rfl, (blk_cell BK129.out 3).trans rfl, (blk_cell BK130.out 0).trans rfl, (blk_cell BK130.out 1).trans rfl, (blk_cell BK130.out 2).trans rfl, (blk_cell BK130.out 3).trans rfl, ((HB.out.cell (World.block_lt_of_cell? w _ hw132_0)).trans hw132_0), ((HB.out.cell (World.block_lt_of_cell? w _ hw132_1)).trans hw132_1), ((HB.out.cell (World.block_lt_of_cell? w _ hw132_2)).trans hw132_2), ((HB.out.cell (World.block_lt_of_cell? w _ hw132_3)).trans hw132_3)⟩ (fun hHeld => ?_)
         clear hK K
         refine norm_ (a' := ?_) ?_ ?_
         rotate_left
         ·show Act.put _ (some 25) _ = _
          simp only [Act.put, List.setIfInBounds_toArray, List.set_cons_zero, List.set_cons_succ, i64_w, i32_w]
          rfl
         refine done_ (by kernel_rfl) ?_
         have hcz23_0 : w22.cell? ⟨gb129, 0, none⟩ = some (.int .u8 a0_0) := (blk_cell BK129.out 0).trans rfl
         have hcz23_1 : w22.cell? ⟨gb129, 1, none⟩ = some (.int .u64 a0_1) := (blk_cell BK129.out 1).trans rfl
         have hcz23_2 : w22.cell? ⟨gb129, 2, none⟩ = some (.string a0_2) := (blk_cell BK129.out 2).trans rfl
         have hcz23_3 : w22.cell? ⟨gb129, 3, none⟩ = some (.slice (some ad132) l0_3.length c0_3) := (blk_cell BK129.out 3).trans rfl
         have hfz23_0 := blk_frozen BK129.out 0
         have hfz23_1 := blk_frozen BK129.out 1
         have hfz23_2 := blk_frozen BK129.out 2
         have hfz23_3 := blk_frozen BK129.out 3
         have p134 : 0 ≤ ((ji15) : Int) := of_decide_eq_true (by first | (with_reducible assumption) | assumption)
         have q134 : (ji15) < (l0_3.length : Int) := of_decide_eq_true (by first | (with_reducible assumption) | assumption)
         obtain ⟨ad134, A134_3, c134_3, e134, hx134_0, hx134_1, hx134_2, hx134_3, hl134_3, hi134_3⟩ := at_T25 HR0_3.out (ji15) p134 q134
         obtain rfl : ad132 = ad134 := (by injection e134)
         replace hx134_0 := (HB.out.cell (World.block_lt_of_cell? w _ hx134_0)).trans hx134_0
         replace hx134_1 := (HB.out.cell (World.block_lt_of_cell? w _ hx134_1)).trans hx134_1
         replace hx134_2 := (HB.out.cell (World.block_lt_of_cell? w _ hx134_2)).trans hx134_2
         replace hx134_3 := (HB.out.cell (World.block_lt_of_cell? w _ hx134_3)).trans hx134_3
         have HR134_3 := Aside0.mk hi134_3
         have HC134_3 := Aside0.mk hl134_3
         clear hi134_3 hl134_3
         replace p134 := eq_true p134
         replace q134 := eq_true q134
         try go_wp2_with (first | ((with_reducible refine gate_callee (f := 16) rfl ?_); refine goesL_ (some 32) rfl rfl Try.func16 (by kernel_rfl) rfl #[.agg #[.int .u8 ((rd_T25 l0_3 (ji15)).f0), .int .u64 ((rd_T25 l0_3 (ji15)).f1), .string ((rd_T25 l0_3 (ji15)).f2), .slice A134_3 ((rd_T25 l0_3 (ji15)).f3).length c134_3]] rfl (by (try simp only [List.map_toArray, List.map_cons, List.map_nil]); first | done | (simp only [hji15]; rfl) | rfl | (simp only [List.length_drop, List.length_take]; rfl)) ?_; (with_reducible refine (bellwetherref04_Copy.calls ((rd_T25 l0_3 (ji15)).f0) ((rd_T25 l0_3 (ji15)).f1) ((rd_T25 l0_3 (ji15)).f2) _ _ ((rd_T25 l0_3 (ji15)).f3) t135 t136 t137 t138 _ ?side1 ?side2 A17.out).mono ?_); (case side1 => repeat (first | exact (Kd.C_below HR134_3.out HB.out) | (with_reducible refine Kd.C_alloc ?_ _) | (with_reducible refine Kd.C_drewN ?_ _) | (with_reducible refine Kd.C_drew ?_))); (case side2 => exact HC134_3.out); rintro e w24 ⟨v139, rfl, ho0, hb⟩; refine ⟨_, rfl, ?_⟩; have n0_ := Aside0.mk (Kd.R_lower (Kd.R_newB (Kd.R_newB (Kd.R_newB ho0 (g := gb129) (o := .cells #[.int .u8 a0_0, .int .u64 a0_1, .string a0_2, .slice (some ad132) l0_3.length c0_3] 25 (0, 0)) (by (with_reducible repeat (first | refine blk_drewN ?_ _ | refine blk_drew ?_ | refine blk_alloc ?_ _)); exact BK129.out)) (g := gb130) (o := .cells #[.int .u8 a1_0, .int .u64 a1_1, .string a1_2, .slice A1_3 l1_3.length c1_3] 25 (0, 0)) (by (with_reducible repeat (first | refine blk_drewN ?_ _ | refine blk_drew ?_ | refine blk_alloc ?_ _)); exact BK130.out)) (g := gb131) (o := .cells #[.int .u8 x132000_1, .int .u64 x132001_1, .string x132002_1, .slice none 0 0] 25 (0, 0)) (by (with_reducible repeat (first | refine blk_drewN ?_ _ | refine blk_drew ?_ | refine blk_alloc ?_ _)); exact BK131.out)) (below_size (by repeat (first | (with_reducible first | exact HB.out | apply below_alloc | apply pw_below_drewN | apply below_drew1 | refine below_set ?_ GE129.out | refine below_set ?_ GE130.out | refine below_set ?_ GE131.out) | exact HB.out)))); have n1_ := Aside0.mk (blk_below (g := gb129) (o := .cells #[.int .u8 a0_0, .int .u64 a0_1, .string a0_2, .slice (some ad132) l0_3.length c0_3] 25 (0, 0)) (by (with_reducible repeat (first | refine blk_drewN ?_ _ | refine blk_drew ?_ | refine blk_alloc ?_ _)); exact BK129.out) hb); have n2_ := Aside0.mk (blk_below (g := gb130) (o := .cells #[.int .u8 a1_0, .int .u64 a1_1, .string a1_2, .slice A1_3 l1_3.length c1_3] 25 (0, 0)) (by (with_reducible repeat (first | refine blk_drewN ?_ _ | refine blk_drew ?_ | refine blk_alloc ?_ _)); exact BK130.out) hb); have n3_ := Aside0.mk (blk_below (g := gb131) (o := .cells #[.int .u8 x132000_1, .int .u64 x132001_1, .string x132002_1, .slice none 0 0] 25 (0, 0)) (by (with_reducible repeat (first | refine blk_drewN ?_ _ | refine blk_drew ?_ | refine blk_alloc ?_ _)); exact BK131.out) hb); have n4_ := Aside0.mk (below_step (by repeat (first | (with_reducible first | exact HB.out | apply below_alloc | apply pw_below_drewN | apply below_drew1 | refine below_set ?_ GE129.out | refine below_set ?_ GE130.out | refine below_set ?_ GE131.out) | exact HB.out)) hb); clear BK129; clear BK130; clear BK131; clear HB; have HO140 := n0_; have BK129 := n1_; have BK130 := n2_; have BK131 := n3_; have HB := n4_; clear n0_ n1_ n2_ n3_ n4_; (try clear hb); (try clear hb2); (try clear hk); (try clear hi); (try clear ho0); have hnb25 := NB131_130.out; have hnc25 := NB130_131.out; have hcz26_0 : w24.cell? ⟨gb131, 0, none⟩ = some (.int .u8 x132000_1) := (blk_cell BK131.out 0).trans rfl; have hcz26_1 : w24.cell? ⟨gb131, 1, none⟩ = some (.int .u64 x132001_1) := (blk_cell BK131.out 1).trans rfl; have hcz26_2 : w24.cell? ⟨gb131, 2, none⟩ = some (.string x132002_1) := (blk_cell BK131.out 2).trans rfl; have hcz26_3 : w24.cell? ⟨gb131, 3, none⟩ = some (.slice none 0 0) := (blk_cell BK131.out 3).trans rfl; have hfz26_0 := blk_frozen BK131.out 0; have hfz26_1 := blk_frozen BK131.out 1; have hfz26_2 := blk_frozen BK131.out 2; have hfz26_3 := blk_frozen BK131.out 3; obtain ⟨Ao27, co27, eo27⟩ := Kd.R_slice HO140.out; subst eo27))
         refine bodyPost_ret (results_ct rfl _ _ gb131 25 #[.int .u8 t135, .int .u64 t136, .string t137, .slice Ao27 t138.length co27] (0, 0) _ rfl (by (with_reducible repeat (first | refine blk_drewN ?_ _ | refine blk_drew ?_ | refine blk_alloc ?_ _)); refine blk_put (cs := #[.int .u8 t135, .int .u64 t136, .string t137, .slice none 0 0]) ?_ 3 _ rfl; (with_reducible repeat (first | refine blk_drewN ?_ _ | refine blk_drew ?_ | refine blk_alloc ?_ _)); refine blk_put (cs := #[.int .u8 t135, .int .u64 t136, .string x132002_1, .slice none 0 0]) ?_ 2 _ rfl; (with_reducible repeat (first | refine blk_drewN ?_ _ | refine blk_drew ?_ | refine blk_alloc ?_ _)); refine blk_put (cs := #[.int .u8 t135, .int .u64 x132001_1, .string x132002_1, .slice none 0 0]) ?_ 1 _ rfl; (with_reducible repeat (first | refine blk_drewN ?_ _ | refine blk_drew ?_ | refine blk_alloc ?_ _)); refine blk_put (cs := #[.int .u8 x132000_1, .int .u64 x132001_1, .string x132002_1, .slice none 0 0]) ?_ 0 _ rfl; (with_reducible repeat (first | refine blk_drewN ?_ _ | refine blk_drew ?_ | refine blk_alloc ?_ _)); exact BK131.out) Try.underlying25 rfl (by kernel_rfl)) rfl ?_
         exact ⟨_, by first | rfl | (simp [errW_none, errW_some] <;> rfl) | (simp only [← hji15]; first | rfl | (simp [errW_none, errW_some] <;> rfl)) | (simp [*, errW_none, errW_some] <;> rfl), by (with_reducible repeat (first | apply Kd.R_alloc | apply Kd.R_drewN | apply Kd.R_drew)); exact Kd.R_mono (Kd.R_far (p := ⟨gb131, 3, none⟩) (Kd.R_far (p := ⟨gb131, 2, none⟩) (Kd.R_far (p := ⟨gb131, 1, none⟩) (Kd.R_far (p := ⟨gb131, 0, none⟩) (Kd.R_mono HO140.out (fun k_ hk => (⟨hk, hk.2⟩ : _ ∧ k_ ≠ gb131))) (fun _ hk => hk.2) (.int .u8 t135)) (fun _ hk => hk.2) (.int .u64 t136)) (fun _ hk => hk.2) (.string t137)) (fun _ hk => hk.2) (.slice Ao27 t138.length co27)) (fun _ hk => trivial), by repeat (first | (with_reducible first | exact HB.out | apply below_alloc | apply pw_below_drewN | apply below_drew1 | refine below_set ?_ GE129.out | refine below_set ?_ GE130.out | refine below_set ?_ GE131.out) | exact HB.out)⟩
        ·rw [if_neg c16] at H
         exact absurd H (by simp)
       ·replace c14 := Bool.eq_false_iff.mpr c14
        subst c14
        have H1 : (bellwetherref04_Get.l0 k1 (wrap64 (x6_1 + 2)) a0_0 a0_1 a0_2 l0_3 a1_0 a1_1 a1_2 l1_3) = some (r1, r2, r3, r4, r5) := by rw [if_neg (show ¬ (false = true) by decide)] at H; exact H
        clear H
        have H := H1
        clear H1
        have H' := Aside0.mk H
        clear H
        have hnb28 := NB129_130.out
        have hnc28 := NB130_129.out
        have hnb29 := NB129_131.out
        have hnc29 := NB131_129.out
        have hcz30_0 : wr.cell? ⟨gb129, 0, none⟩ = some (.int .u8 a0_0) := (blk_cell BK129.out 0).trans rfl
        have hcz30_1 : wr.cell? ⟨gb129, 1, none⟩ = some (.int .u64 a0_1) := (blk_cell BK129.out 1).trans rfl
        have hcz30_2 : wr.cell? ⟨gb129, 2, none⟩ = some (.string a0_2) := (blk_cell BK129.out 2).trans rfl
        have hcz30_3 : wr.cell? ⟨gb129, 3, none⟩ = some (.slice A0_3 l0_3.length c0_3) := (blk_cell BK129.out 3).trans rfl
        have hfz30_0 := blk_frozen BK129.out 0
        have hfz30_1 := blk_frozen BK129.out 1
        have hfz30_2 := blk_frozen BK129.out 2
        have hfz30_3 := blk_frozen BK129.out 3
        try go_wp2
        have n0_ := Aside0.mk (blk_drew BK129.out)
        have n1_ := Aside0.mk (blk_drew BK130.out)
        have n2_ := Aside0.mk (blk_drew BK131.out)
        have n3_ := Aside0.mk (below_drew1 HB.out)
        clear BK129
        clear BK130
        clear BK131
        clear HB
        have BK129 := n0_
        have BK130 := n1_
        have BK131 := n2_
        have HB := n3_
        clear n0_ n1_ n2_ n3_
        have p132 : 0 ≤ (x6_1 : Int) := of_decide_eq_true (by first | (with_reducible assumption) | assumption)
        have q132 : x6_1 < (l0_3.length : Int) := of_decide_eq_true (by first | (with_reducible assumption) | assumption)
        obtain ⟨ad132, A132_3, c132_3, e132, hx132_0, hx132_1, hx132_2, hx132_3, hl132_3, hi132_3⟩ := at_T25 HR0_3.out x6_1 p132 q132
        have hw132_3 := hx132_3
        have hw132_2 := hx132_2
        have hw132_1 := hx132_1
        have hw132_0 := hx132_0
        cases e132
        replace hx132_0 := (HB.out.cell (World.block_lt_of_cell? w _ hx132_0)).trans hx132_0
        replace hx132_1 := (HB.out.cell (World.block_lt_of_cell? w _ hx132_1)).trans hx132_1
        replace hx132_2 := (HB.out.cell (World.block_lt_of_cell? w _ hx132_2)).trans hx132_2
        replace hx132_3 := (HB.out.cell (World.block_lt_of_cell? w _ hx132_3)).trans hx132_3
        have HR132_3 := Aside0.mk hi132_3
        have HC132_3 := Aside0.mk hl132_3
        clear hi132_3 hl132_3
        replace p132 := eq_true p132
        replace q132 := eq_true q132
        refine start_ (n := 7) (S := fun w' => w'.cell? ⟨gb129, 0, none⟩ = some (.int .u8 a0_0) ∧ w'.cell? ⟨gb129, 1, none⟩ = some (.int .u64 a0_1) ∧ w'.cell? ⟨gb129, 2, none⟩ = some (.string a0_2) ∧ w'.cell? ⟨gb129, 3, none⟩ = some (.slice (some ad132) l0_3.length c0_3) ∧ w'.cell? ⟨gb130, 0, none⟩ = some (.int .u8 a1_0) ∧ w'.cell? ⟨gb130, 1, none⟩ = some (.int .u64 a1_1) ∧ w'.cell? ⟨gb130, 2, none⟩ = some (.string a1_2) ∧ w'.cell? ⟨gb130, 3, none⟩ = some (.slice A1_3 l1_3.length c1_3) ∧ w'.cell? (ad132.add ((x6_1).toNat * 4)) = some (.int .u8 ((rd_T25 l0_3 x6_1).f0)) ∧ w'.cell? ⟨(ad132.add ((x6_1).toNat * 4)).block, (ad132.add ((x6_1).toNat * 4)).off + 1, none⟩ = some (.int .u64 ((rd_T25 l0_3 x6_1).f1)) ∧ w'.cell? ⟨(ad132.add ((x6_1).toNat * 4)).block, (ad132.add ((x6_1).toNat * 4)).off + 2, none⟩ = some (.string ((rd_T25 l0_3 x6_1).f2)) ∧ w'.cell? ⟨(ad132.add ((x6_1).toNat * 4)).block, (ad132.add ((x6_1).toNat * 4)).off + 3, none⟩ = some (.slice A132_3 ((rd_T25 l0_3 x6_1).f3).length c132_3)) (ds := []) #[false, false, false, false, false, false, false] (by kernel_rfl) rfl rfl ⟨(blk_cell BK129.out 0).trans rfl, (blk_cell BK129.out 1).trans rfl, (blk_cell BK129.out 2).trans rfl, (blk_cell BK129.out 3).trans rfl, (blk_cell BK130.out 0).trans rfl, (blk_cell BK130.out 1).trans rfl, (blk_cell BK130.out 2).trans rfl, (blk_cell BK130.out 3).trans rfl, ((HB.out.cell (World.block_lt_of_cell? w _ hw132_0)).trans hw132_0), ((HB.out.cell (World.block_lt_of_cell? w _ hw132_1)).trans hw132_1), ((HB.out.cell (World.block_lt_of_cell? w _ hw132_2)).trans hw132_2), ((HB.out.cell (World.block_lt_of_cell? w _ hw132_3)).trans hw132_3)⟩ (fun hHeld => ?_)
        generalize wr.drew = w31 at BK129 BK130 BK131 HB HR132_3 hx132_0 hx132_1 hx132_2 hx132_3 hHeld ⊢
        refine pure_ (i := 0) (N := some 19) (v := ?_) (a' := ?_) #[true, false, false, false, false, false, false] rfl rfl (by kernel_rfl) (fun _ _ _ h => h) (Or.inl ⟨by rfl, ?_⟩) ?_ ?_
        rotate_left
        ·intro w'
         go_simp
         with_reducible rfl
        rotate_left
        ·simp only [Act.put, List.setIfInBounds_toArray, List.set_cons_zero, List.set_cons_succ, i64_w, i32_w]
         rfl
        refine pure_ (i := 2) (N := some 21) (v := ?_) (a' := ?_) #[true, false, true, false, false, false, false] rfl rfl (by kernel_rfl) (fun _ _ _ h => h) (Or.inl ⟨by rfl, ?_⟩) ?_ ?_
        rotate_left
        ·intro w'
         go_simp
         with_reducible rfl
        rotate_left
        ·simp only [Act.put, List.setIfInBounds_toArray, List.set_cons_zero, List.set_cons_succ, i64_w, i32_w]
         rfl
        refine take_ (i := 1) (N := some 20) (v := ?_) (a' := ?_) #[true, true, true, false, false, false, false] rfl rfl (by kernel_rfl) (fun _ _ _ h => h) (Or.inl ⟨by rfl, ?_⟩) hHeld ?_ ?_
        rotate_left
        ·rintro w' ⟨s0, s1, s2, s3, s4, s5, s6, s7, s8, s9, s10, s11⟩
         go_simp
         with_reducible rfl
        rotate_left
        ·simp only [Act.put, List.setIfInBounds_toArray, List.set_cons_zero, List.set_cons_succ, i64_w, i32_w]
         rfl
        refine pure_ (i := 3) (N := some 22) (v := ?_) (a' := ?_) #[true, true, true, true, false, false, false] rfl rfl (by kernel_rfl) (fun _ _ _ h => h) (Or.inl ⟨by rfl, ?_⟩) ?_ ?_
        rotate_left
        ·intro w'
         go_simp
         with_reducible rfl
        rotate_left
        ·simp only [Act.put, List.setIfInBounds_toArray, List.set_cons_zero, List.set_cons_succ, i64_w, i32_w]
         rfl
        refine take_ (i := 4) (N := some 23) (v := ?_) (a' := ?_) #[true, true, true, true, true, false, false] rfl rfl (by kernel_rfl) (fun _ _ _ h => h) (Or.inl ⟨by rfl, ?_⟩) hHeld ?_ ?_
        rotate_left
        ·rintro w' ⟨s0, s1, s2, s3, s4, s5, s6, s7, s8, s9, s10, s11⟩
         go_simp
         with_reducible rfl
        rotate_left
        ·simp only [Act.put, List.setIfInBounds_toArray, List.set_cons_zero, List.set_cons_succ, i64_w, i32_w]
         rfl
        refine take_ (i := 5) (N := some 24) (v := ?_) (a' := ?_) #[true, true, true, true, true, true, false] rfl rfl (by kernel_rfl) (fun _ _ _ h => h) (Or.inl ⟨by rfl, ?_⟩) hHeld ?_ ?_
        rotate_left
        ·rintro w' ⟨s0, s1, s2, s3, s4, s5, s6, s7, s8, s9, s10, s11⟩
         go_simp
         with_reducible rfl
        rotate_left
        ·simp only [Act.put, List.setIfInBounds_toArray, List.set_cons_zero, List.set_cons_succ, i64_w, i32_w]
         rfl
        refine one_ (i := 6) (N := some 25) #[true, true, true, true, true, true, true] rfl rfl (by kernel_rfl) (by decide) (fun K hK => ?_)
        refine goes_ Try.func19 (by kernel_rfl) rfl #[.agg #[.int .u8 ((rd_T25 l0_3 x6_1).f0), .int .u64 ((rd_T25 l0_3 x6_1).f1), .string ((rd_T25 l0_3 x6_1).f2), .slice A132_3 ((rd_T25 l0_3 x6_1).f3).length c132_3], .agg #[.int .u8 a1_0, .int .u64 a1_1, .string a1_2, .slice A1_3 l1_3.length c1_3]] (by rfl) rfl rfl (by (try simp only [List.map_toArray, List.map_cons, List.map_nil]); first | done | rfl | (simp only [List.length_drop, List.length_take]; rfl)) ?_
        with_reducible refine (bellwetherref04_Same.calls k1 ((rd_T25 l0_3 x6_1).f0) ((rd_T25 l0_3 x6_1).f1) ((rd_T25 l0_3 x6_1).f2) _ _ ((rd_T25 l0_3 x6_1).f3) a1_0 a1_1 a1_2 _ _ l1_3 false _ ?side1 ?side2 ?side3 ?side4 A13.out).mono ?_
        (case side1 => repeat (first | exact (Kd.C_below HR132_3.out HB.out) | (with_reducible refine Kd.C_alloc ?_ _) | (with_reducible refine Kd.C_drewN ?_ _) | (with_reducible refine Kd.C_drew ?_)))
        (case side2 => exact HC132_3.out)
        (case side3 => repeat (first | exact (Kd.C_below HR1_3.out HB.out) | (with_reducible refine Kd.C_alloc ?_ _) | (with_reducible refine Kd.C_drewN ?_ _) | (with_reducible refine Kd.C_drew ?_)))
        (case side4 => exact HC1_3.out)
        rintro e w32 ⟨rfl, hb⟩
        refine ⟨_, rfl, ?_⟩
        have n0_ := Aside0.mk (blk_below (g := gb129) (o := .cells #[.int .u8 a0_0, .int .u64 a0_1, .string a0_2, .slice (some ad132) l0_3.length c0_3] 25 (0, 0)) (by (with_reducible repeat (first | refine blk_drewN ?_ _ | refine blk_drew ?_ | refine blk_alloc ?_ _)); exact BK129.out) hb)
        have n1_ := Aside0.mk (blk_below (g := gb130) (o := .cells #[.int .u8 a1_0, .int .u64 a1_1, .string a1_2, .slice A1_3 l1_3.length c1_3] 25 (0, 0)) (by (with_reducible repeat (first | refine blk_drewN ?_ _ | refine blk_drew ?_ | refine blk_alloc ?_ _)); exact BK130.out) hb)
        have n2_ := Aside0.mk (blk_below (g := gb131) (o := .cells #[.int .u8 x132000_1, .int .u64 x132001_1, .string x132002_1, .slice none 0 0] 25 (0, 0)) (by (with_reducible repeat (first | refine blk_drewN ?_ _ | refine blk_drew ?_ | refine blk_alloc ?_ _)); exact BK131.out) hb)
        have n3_ := Aside0.mk (below_step (by repeat (first | (with_reducible first | exact HB.out | apply below_alloc | apply pw_below_drewN | apply below_drew1 | refine below_set ?_ GE129.out | refine below_set ?_ GE130.out | refine below_set ?_ GE131.out) | exact HB.out)) hb)
        clear BK129
        clear BK130
        clear BK131
        clear HB
        have BK129 := n0_
        have BK130 := n1_
        have BK131 := n2_
        have HB := n3_
        clear n0_ n1_ n2_ n3_
        (try clear hb)
        (try clear hb2)
        (try clear hk)
        (try clear hi)
        refine hK.out _ _ ⟨(blk_cell BK129.out 0).trans rfl, (blk_cell BK129.out 1).trans rfl, (blk_cell BK129.out 2).trans rfl, (blk_cell BK129.out 3).trans rfl, (blk_cell BK130.out 0).trans rfl, (blk_cell BK130.out 1).trans rfl, (blk_cell BK130.out 2).trans rfl, (blk_cell BK130.out 3).trans rfl, ((HB.out.cell (World.block_lt_of_cell? w _ hw132_0)).trans hw132_0), ((HB.out.cell (World.block_lt_of_cell? w _ hw132_1)).trans hw132_1), ((HB.out.cell (World.block_lt_of_cell? w _ hw132_2)).trans hw132_2), ((HB.out.cell (World.block_lt_of_cell? w _ hw132_3)).trans hw132_3)⟩ (fun hHeld => ?_)
        clear hK K
        refine norm_ (a' := ?_) ?_ ?_
        rotate_left
        ·show Act.put _ (some 25) _ = _
         simp only [Act.put, List.setIfInBounds_toArray, List.set_cons_zero, List.set_cons_succ, i64_w, i32_w]
         rfl
        refine done_ (by kernel_rfl) ?_
        try go_wp2
        go_roundg k1
        case measure => have := HK1.out; omega
        case rel => exact ⟨(wrap64 (x6_1 + 2)), (x132000_1), (x132001_1), (x132002_1), (by first | rfl | (simp; done) | (simp [*]; done)), H', ⟨by have := HK1.out; omega⟩, ⟨by (with_reducible repeat (first | refine blk_drewN ?_ _ | refine blk_drew ?_ | refine blk_alloc ?_ _)); exact BK129.out⟩, ⟨by (with_reducible repeat (first | refine blk_drewN ?_ _ | refine blk_drew ?_ | refine blk_alloc ?_ _)); exact BK130.out⟩, ⟨by (with_reducible repeat (first | refine blk_drewN ?_ _ | refine blk_drew ?_ | refine blk_alloc ?_ _)); exact BK131.out⟩, ⟨by repeat (first | (with_reducible first | exact HB.out | apply below_alloc | apply pw_below_drewN | apply below_drew1 | refine below_set ?_ GE129.out | refine below_set ?_ GE130.out | refine below_set ?_ GE131.out) | exact HB.out)⟩⟩
      ·rw [if_neg c12] at H
       exact absurd H (by simp)
     ·rw [if_neg c11] at H
      exact absurd H (by simp)
    ·rw [if_neg c10] at H
     have c10b0 : decide ((wrap64 (x6_1 + 1)) < (l0_3.length : Int)) = false := decide_eq_false c10
     clear c10
     simp only [Option.some.injEq, Prod.mk.injEq] at H
     obtain ⟨rfl, rfl, rfl, rfl, rfl⟩ := H
     have hnb33 := NB129_130.out
     have hnc33 := NB130_129.out
     have hnb34 := NB129_131.out
     have hnc34 := NB131_129.out
     have hcz35_0 : wr.cell? ⟨gb129, 0, none⟩ = some (.int .u8 a0_0) := (blk_cell BK129.out 0).trans rfl
     have hcz35_1 : wr.cell? ⟨gb129, 1, none⟩ = some (.int .u64 a0_1) := (blk_cell BK129.out 1).trans rfl
     have hcz35_2 : wr.cell? ⟨gb129, 2, none⟩ = some (.string a0_2) := (blk_cell BK129.out 2).trans rfl
     have hcz35_3 : wr.cell? ⟨gb129, 3, none⟩ = some (.slice A0_3 l0_3.length c0_3) := (blk_cell BK129.out 3).trans rfl
     have hfz35_0 := blk_frozen BK129.out 0
     have hfz35_1 := blk_frozen BK129.out 1
     have hfz35_2 := blk_frozen BK129.out 2
     have hfz35_3 := blk_frozen BK129.out 3
     have hnb36 := NB131_130.out
     have hnc36 := NB130_131.out
     have hcz37_0 : wr.cell? ⟨gb131, 0, none⟩ = some (.int .u8 x132000_1) := (blk_cell BK131.out 0).trans rfl
     have hcz37_1 : wr.cell? ⟨gb131, 1, none⟩ = some (.int .u64 x132001_1) := (blk_cell BK131.out 1).trans rfl
     have hcz37_2 : wr.cell? ⟨gb131, 2, none⟩ = some (.string x132002_1) := (blk_cell BK131.out 2).trans rfl
     have hcz37_3 : wr.cell? ⟨gb131, 3, none⟩ = some (.slice none 0 0) := (blk_cell BK131.out 3).trans rfl
     have hfz37_0 := blk_frozen BK131.out 0
     have hfz37_1 := blk_frozen BK131.out 1
     have hfz37_2 := blk_frozen BK131.out 2
     have hfz37_3 := blk_frozen BK131.out 3
     go_wp2
     refine bodyPost_ret (results_ct rfl _ _ gb131 25 #[.int .u8 0, .int .u64 0, .string (⟨#[]⟩ : ByteArray), .slice none 0 0] (0, 0) _ rfl (by (with_reducible repeat (first | refine blk_drewN ?_ _ | refine blk_drew ?_ | refine blk_alloc ?_ _)); refine blk_put (cs := #[.int .u8 0, .int .u64 0, .string (⟨#[]⟩ : ByteArray), .slice none 0 0]) ?_ 3 _ rfl; (with_reducible repeat (first | refine blk_drewN ?_ _ | refine blk_drew ?_ | refine blk_alloc ?_ _)); refine blk_put (cs := #[.int .u8 0, .int .u64 0, .string x132002_1, .slice none 0 0]) ?_ 2 _ rfl; (with_reducible repeat (first | refine blk_drewN ?_ _ | refine blk_drew ?_ | refine blk_alloc ?_ _)); refine blk_put (cs := #[.int .u8 0, .int .u64 x132001_1, .string x132002_1, .slice none 0 0]) ?_ 1 _ rfl; (with_reducible repeat (first | refine blk_drewN ?_ _ | refine blk_drew ?_ | refine blk_alloc ?_ _)); refine blk_put (cs := #[.int .u8 x132000_1, .int .u64 x132001_1, .string x132002_1, .slice none 0 0]) ?_ 0 _ rfl; (with_reducible repeat (first | refine blk_drewN ?_ _ | refine blk_drew ?_ | refine blk_alloc ?_ _)); exact BK131.out) Try.underlying25 rfl (by kernel_rfl)) rfl ?_
     exact ⟨_, by first | rfl | (simp [errW_none, errW_some] <;> rfl) | (simp [*, errW_none, errW_some] <;> rfl), by first | exact Kd.R_nil _ _ _ _ _ | exact Kd.N_nil _ _ _ _ _ | exact Kd.V_nil _ _ _ _ _ | exact Kd.Q_nil _ _ _ _ _ | exact Kd.S_nil _ _ _ _ _, by repeat (first | (with_reducible first | exact HB.out | apply below_alloc | apply pw_below_drewN | apply below_drew1 | refine below_set ?_ GE129.out | refine below_set ?_ GE130.out | refine below_set ?_ GE131.out) | exact HB.out)⟩
 ·rw [if_neg c3] at H
  have c3b0 : (a0_0 == 23) = false := beq_eq_false_iff_ne.mpr c3
  have c3b1 : (a0_0 != 23) = true := bne_iff_ne.mpr c3
  simp only [Option.some.injEq, Prod.mk.injEq] at H
  obtain ⟨rfl, rfl, rfl, rfl, rfl⟩ := H
  go_enter Try.func37, Try.ntmps37
  go_wp2_with (first | ((with_reducible refine gate_dst (N := 2) rfl ?_); refine box_event ?hg (N := 2) ?hd (cs := #[.int .u8 a0_0, .int .u64 a0_1, .string a0_2, .slice A0_3 l0_3.length c0_3]) (t := 25) ?hr ?_; (case hd => rfl); (case hg => rfl); (case hr => first | (go_simp; done) | (go_simp; rfl)); intro gb129 hg w38 hbox hb; have n0_ := Aside0.mk (below_step (by repeat (first | (with_reducible first | exact HB.out | apply below_alloc | apply pw_below_drewN | apply below_drew1) | exact HB.out)) hb); have n1_ := Aside0.mk (hbox); have n2_ := Aside0.mk ((by rw [hg]; exact (below_size (by repeat (first | (with_reducible first | exact HB.out | apply below_alloc | apply pw_below_drewN | apply below_drew1) | exact HB.out))) : w.heap.size ≤ gb129)); have n3_ := Aside0.mk ((by rw [hg]; exact (below_size (by repeat (first | (with_reducible first | exact HB.out | apply below_alloc | apply pw_below_drewN | apply below_drew1) | exact HB.out))) : w.heap.size ≤ gb129)); clear HB; have HB := n0_; have BK129 := n1_; have GW129 := n2_; have GE129 := n3_; clear n0_ n1_ n2_ n3_; clear hb hbox hg) | ((with_reducible refine gate_dst (N := 3) rfl ?_); refine box_event ?hg (N := 3) ?hd (cs := #[.int .u8 a1_0, .int .u64 a1_1, .string a1_2, .slice A1_3 l1_3.length c1_3]) (t := 25) ?hr ?_; (case hd => rfl); (case hg => rfl); (case hr => first | (go_simp; done) | (go_simp; rfl)); intro gb130 hg w39 hbox hb; have n0_ := Aside0.mk (blk_below (g := gb129) (o := .cells #[.int .u8 a0_0, .int .u64 a0_1, .string a0_2, .slice A0_3 l0_3.length c0_3] 25 (0, 0)) (by (with_reducible repeat (first | refine blk_drewN ?_ _ | refine blk_drew ?_ | refine blk_alloc ?_ _)); exact BK129.out) hb); have n1_ := Aside0.mk (below_step (by repeat (first | (with_reducible first | exact HB.out | apply below_alloc | apply pw_below_drewN | apply below_drew1 | refine below_set ?_ GE129.out) | exact HB.out)) hb); have n2_ := Aside0.mk (hbox); have n3_ := Aside0.mk ((by rw [hg]; exact (below_size (by repeat (first | (with_reducible first | exact HB.out | apply below_alloc | apply pw_below_drewN | apply below_drew1 | refine below_set ?_ GE129.out) | exact HB.out))) : w.heap.size ≤ gb130)); have n4_ := Aside0.mk ((by rw [hg]; exact (below_size (by repeat (first | (with_reducible first | exact HB.out | apply below_alloc | apply pw_below_drewN | apply below_drew1 | refine below_set ?_ GE129.out) | exact HB.out))) : w.heap.size ≤ gb130)); have n5_ := Aside0.mk ((by rw [hg]; exact Nat.ne_of_lt (blk_lt (g := gb129) (o := .cells #[.int .u8 a0_0, .int .u64 a0_1, .string a0_2, .slice A0_3 l0_3.length c0_3] 25 (0, 0)) (by (with_reducible repeat (first | refine blk_drewN ?_ _ | refine blk_drew ?_ | refine blk_alloc ?_ _)); exact BK129.out)) : gb129 ≠ gb130)); have n6_ := Aside0.mk ((by rw [hg]; exact Nat.ne_of_gt (blk_lt (g := gb129) (o := .cells #[.int .u8 a0_0, .int .u64 a0_1, .string a0_2, .slice A0_3 l0_3.length c0_3] 25 (0, 0)) (by (with_reducible repeat (first | refine blk_drewN ?_ _ | refine blk_drew ?_ | refine blk_alloc ?_ _)); exact BK129.out)) : gb130 ≠ gb129)); clear BK129; clear HB; have BK129 := n0_; have HB := n1_; have BK130 := n2_; have GW130 := n3_; have GE130 := n4_; have NB129_130 := n5_; have NB130_129 := n6_; clear n0_ n1_ n2_ n3_ n4_ n5_ n6_; clear hb hbox hg) | ((with_reducible refine gate_dst (N := 4) rfl ?_); refine box_event ?hg (N := 4) ?hd (cs := #[.int .u8 0, .int .u64 0, .string (⟨#[]⟩ : ByteArray), .slice none 0 0]) (t := 25) ?hr ?_; (case hd => rfl); (case hg => rfl); (case hr => first | (go_simp; done) | (go_simp; rfl)); intro gb131 hg w40 hbox hb; have n0_ := Aside0.mk (blk_below (g := gb129) (o := .cells #[.int .u8 a0_0, .int .u64 a0_1, .string a0_2, .slice A0_3 l0_3.length c0_3] 25 (0, 0)) (by (with_reducible repeat (first | refine blk_drewN ?_ _ | refine blk_drew ?_ | refine blk_alloc ?_ _)); exact BK129.out) hb); have n1_ := Aside0.mk (blk_below (g := gb130) (o := .cells #[.int .u8 a1_0, .int .u64 a1_1, .string a1_2, .slice A1_3 l1_3.length c1_3] 25 (0, 0)) (by (with_reducible repeat (first | refine blk_drewN ?_ _ | refine blk_drew ?_ | refine blk_alloc ?_ _)); exact BK130.out) hb); have n2_ := Aside0.mk (below_step (by repeat (first | (with_reducible first | exact HB.out | apply below_alloc | apply pw_below_drewN | apply below_drew1 | refine below_set ?_ GE129.out | refine below_set ?_ GE130.out) | exact HB.out)) hb); have n3_ := Aside0.mk (hbox); have n4_ := Aside0.mk ((by rw [hg]; exact (below_size (by repeat (first | (with_reducible first | exact HB.out | apply below_alloc | apply pw_below_drewN | apply below_drew1 | refine below_set ?_ GE129.out | refine below_set ?_ GE130.out) | exact HB.out))) : w.heap.size ≤ gb131)); have n5_ := Aside0.mk ((by rw [hg]; exact (below_size (by repeat (first | (with_reducible first | exact HB.out | apply below_alloc | apply pw_below_drewN | apply below_drew1 | refine below_set ?_ GE129.out | refine below_set ?_ GE130.out) | exact HB.out))) : w.heap.size ≤ gb131)); have n6_ := Aside0.mk ((by rw [hg]; exact Nat.ne_of_lt (blk_lt (g := gb129) (o := .cells #[.int .u8 a0_0, .int .u64 a0_1, .string a0_2, .slice A0_3 l0_3.length c0_3] 25 (0, 0)) (by (with_reducible repeat (first | refine blk_drewN ?_ _ | refine blk_drew ?_ | refine blk_alloc ?_ _)); exact BK129.out)) : gb129 ≠ gb131)); have n7_ := Aside0.mk ((by rw [hg]; exact Nat.ne_of_gt (blk_lt (g := gb129) (o := .cells #[.int .u8 a0_0, .int .u64 a0_1, .string a0_2, .slice A0_3 l0_3.length c0_3] 25 (0, 0)) (by (with_reducible repeat (first | refine blk_drewN ?_ _ | refine blk_drew ?_ | refine blk_alloc ?_ _)); exact BK129.out)) : gb131 ≠ gb129)); have n8_ := Aside0.mk ((by rw [hg]; exact Nat.ne_of_lt (blk_lt (g := gb130) (o := .cells #[.int .u8 a1_0, .int .u64 a1_1, .string a1_2, .slice A1_3 l1_3.length c1_3] 25 (0, 0)) (by (with_reducible repeat (first | refine blk_drewN ?_ _ | refine blk_drew ?_ | refine blk_alloc ?_ _)); exact BK130.out)) : gb130 ≠ gb131)); have n9_ := Aside0.mk ((by rw [hg]; exact Nat.ne_of_gt (blk_lt (g := gb130) (o := .cells #[.int .u8 a1_0, .int .u64 a1_1, .string a1_2, .slice A1_3 l1_3.length c1_3] 25 (0, 0)) (by (with_reducible repeat (first | refine blk_drewN ?_ _ | refine blk_drew ?_ | refine blk_alloc ?_ _)); exact BK130.out)) : gb131 ≠ gb130)); clear BK129; clear BK130; clear HB; have BK129 := n0_; have BK130 := n1_; have HB := n2_; have BK131 := n3_; have GW131 := n4_; have GE131 := n5_; have NB129_131 := n6_; have NB131_129 := n7_; have NB130_131 := n8_; have NB131_130 := n9_; clear n0_ n1_ n2_ n3_ n4_ n5_ n6_ n7_ n8_ n9_; clear hb hbox hg; have hnb41 := NB129_130.out; have hnc41 := NB130_129.out; have hnb42 := NB129_131.out; have hnc42 := NB131_129.out; have hcz43_0 : w40.cell? ⟨gb129, 0, none⟩ = some (.int .u8 a0_0) := (blk_cell BK129.out 0).trans rfl; have hcz43_1 : w40.cell? ⟨gb129, 1, none⟩ = some (.int .u64 a0_1) := (blk_cell BK129.out 1).trans rfl; have hcz43_2 : w40.cell? ⟨gb129, 2, none⟩ = some (.string a0_2) := (blk_cell BK129.out 2).trans rfl; have hcz43_3 : w40.cell? ⟨gb129, 3, none⟩ = some (.slice A0_3 l0_3.length c0_3) := (blk_cell BK129.out 3).trans rfl; have hfz43_0 := blk_frozen BK129.out 0; have hfz43_1 := blk_frozen BK129.out 1; have hfz43_2 := blk_frozen BK129.out 2; have hfz43_3 := blk_frozen BK129.out 3; have hnb44 := NB131_130.out; have hnc44 := NB130_131.out; have hcz45_0 : w40.cell? ⟨gb131, 0, none⟩ = some (.int .u8 0) := (blk_cell BK131.out 0).trans rfl; have hcz45_1 : w40.cell? ⟨gb131, 1, none⟩ = some (.int .u64 0) := (blk_cell BK131.out 1).trans rfl; have hcz45_2 : w40.cell? ⟨gb131, 2, none⟩ = some (.string (⟨#[]⟩ : ByteArray)) := (blk_cell BK131.out 2).trans rfl; have hcz45_3 : w40.cell? ⟨gb131, 3, none⟩ = some (.slice none 0 0) := (blk_cell BK131.out 3).trans rfl; have hfz45_0 := blk_frozen BK131.out 0; have hfz45_1 := blk_frozen BK131.out 1; have hfz45_2 := blk_frozen BK131.out 2; have hfz45_3 := blk_frozen BK131.out 3))
  refine bodyPost_ret (results_ct rfl _ _ gb131 25 #[.int .u8 0, .int .u64 0, .string (⟨#[]⟩ : ByteArray), .slice none 0 0] (0, 0) _ rfl (by (with_reducible repeat (first | refine blk_drewN ?_ _ | refine blk_drew ?_ | refine blk_alloc ?_ _)); refine blk_put (cs := #[.int .u8 0, .int .u64 0, .string (⟨#[]⟩ : ByteArray), .slice none 0 0]) ?_ 3 _ rfl; (with_reducible repeat (first | refine blk_drewN ?_ _ | refine blk_drew ?_ | refine blk_alloc ?_ _)); refine blk_put (cs := #[.int .u8 0, .int .u64 0, .string (⟨#[]⟩ : ByteArray), .slice none 0 0]) ?_ 2 _ rfl; (with_reducible repeat (first | refine blk_drewN ?_ _ | refine blk_drew ?_ | refine blk_alloc ?_ _)); refine blk_put (cs := #[.int .u8 0, .int .u64 0, .string (⟨#[]⟩ : ByteArray), .slice none 0 0]) ?_ 1 _ rfl; (with_reducible repeat (first | refine blk_drewN ?_ _ | refine blk_drew ?_ | refine blk_alloc ?_ _)); refine blk_put (cs := #[.int .u8 0, .int .u64 0, .string (⟨#[]⟩ : ByteArray), .slice none 0 0]) ?_ 0 _ rfl; (with_reducible repeat (first | refine blk_drewN ?_ _ | refine blk_drew ?_ | refine blk_alloc ?_ _)); exact BK131.out) Try.underlying25 rfl (by kernel_rfl)) rfl ?_
  exact ⟨_, by first | rfl | (simp [errW_none, errW_some] <;> rfl) | (simp [*, errW_none, errW_some] <;> rfl), by first | exact Kd.R_nil _ _ _ _ _ | exact Kd.N_nil _ _ _ _ _ | exact Kd.V_nil _ _ _ _ _ | exact Kd.Q_nil _ _ _ _ _ | exact Kd.S_nil _ _ _ _ _, by repeat (first | (with_reducible first | exact HB.out | apply below_alloc | apply pw_below_drewN | apply below_drew1 | refine below_set ?_ GE129.out | refine below_set ?_ GE130.out | refine below_set ?_ GE131.out) | exact HB.out)⟩
end Go.Proofs.Ytdilbnggedidnaa.PVal
namespace Go.Proofs.Ytdilbnggedidnaa.PVal
open Go.RowKit Go.Shelf Go.Proofs.YtdilbnggedidnaaW.PrintWords Go.Proofs.YtdilbnggedidnaaW.PrintLast
set_option linter.unusedVariables false
set_option linter.unusedSimpArgs false
def KV.cells (q : KV) : List Value := [.int .u8 q.x.f0, .int .u64 q.x.f1, .string q.x.f2, .slice q.A q.x.f3.length q.c]
def flatK : List KV → List Value
 | [] => []
 | q :: l => q.cells ++ flatK l
theorem flatK_get : ∀ (l : List KV) (j : Nat) (q : KV), l[j]? = some q → ∀ i, i < 4 → (flatK l)[j * 4 + i]? = q.cells[i]?
 | [], j, q, h, i, hi => by simp at h
 | p :: l, 0, q, h, i, hi => by
  obtain rfl : p = q := by simpa using h
  rw [flatK, Nat.zero_mul, Nat.zero_add, List.getElem?_append_left (by simpa [KV.cells] using hi)]
 | p :: l, j + 1, q, h, i, hi => by
  rw [flatK, List.getElem?_append_right (by simp [KV.cells]; omega)]
  have := flatK_get l j q (by simpa using h) i hi
  rw [← this]
  congr 1
  simp [KV.cells]; omega
theorem C_lit {W : World} {b : Nat} {ks : List KV} (hb : Blk W b (flatK ks).toArray 25) (hn : ks.length ≤ 9223372036854775807) (hok : ∀ q ∈ ks, q.ok W) : k25.C W (some ⟨b, 0, none⟩) ks.length (ks.map (·.x)) := by
 refine ⟨by simp, hn, fun _ => ⟨_, rfl, fun j p hj => ?_⟩⟩
 rw [List.getElem?_map] at hj
 obtain ⟨q, hq, rfl⟩ := Option.map_eq_some_iff.1 hj
 have hk := hok q (List.mem_of_getElem? hq)
 refine ⟨q.cells, rfl, k25_mk W q.x hk.2 hk.1, fun i u hi => ?_⟩
 have hi4 : i < 4 := by
  have := (List.getElem?_eq_some_iff.1 hi).1
  simpa [KV.cells] using this
 have := flatK_get ks j q hq i hi4
 show W.cell? ((⟨b, 0, none⟩ : Addr).add (j * 4 + i)) = some u
 rw [show (⟨b, 0, none⟩ : Addr).add (j * 4 + i) = ⟨b, j * 4 + i, none⟩ by unfold Addr.add; split <;> simp_all]
 refine (blk_cell hb _).trans ?_
 simpa [this] using hi
set_option maxHeartbeats 2000000 in
theorem bool27_any (b : Bool) (w : World) : Calls Try.prog 27 #[.bool b] w fun e w' => e = .returned (.agg #[.int .u8 2, .int .u64 (if b then 1 else 0), .string ⟨#[]⟩, .slice none 0 0]) ∧ Below w.heap.size w w' := by
 cases b with
 | true =>
  go_enter Try.func27, Try.ntmps27
  go_wp2_with fail
  exact bodyPost_ret (results_cell_row rfl _ _ w.heap.size 25 #[.int .u8 2, .int .u64 1, .string ⟨#[]⟩, .slice none 0 0] (0, 0) _ rfl (blk_alloc (blk_new _ _) _) Try.underlying25 rfl (by kernel_rfl)) rfl ⟨rfl, below_alloc (below_alloc (Below.refl _ _) _) _⟩
 | false =>
  go_enter Try.func27, Try.ntmps27
  go_wp2_with fail
  exact bodyPost_ret (results_cell_row rfl _ _ w.heap.size 25 #[.int .u8 2, .int .u64 0, .string ⟨#[]⟩, .slice none 0 0] (0, 0) _ rfl (blk_alloc (blk_new _ _) _) Try.underlying25 rfl (by kernel_rfl)) rfl ⟨rfl, below_alloc (below_alloc (Below.refl _ _) _) _⟩
theorem many21_any (k : Int) (l : List S25) (hs : itemsL l ≤ 4294967296) (A : Option Addr) (c : Nat) (w : World) (ha : k25.C w A l.length l) (hc : l.length ≤ c) :
  Calls Try.prog 21 #[.int .u8 k, .slice A l.length c] w fun e w' => ∃ v3_ : Value, e = .returned (.agg #[.int .u8 k, .int .u64 0, .string ⟨#[]⟩, v3_]) ∧ k25.R 25 w' w.heap.size (fun _ => True) v3_ l ∧ Below w.heap.size w w' :=
 value_Many.calls k A c l k 0 ⟨#[]⟩ l w ha hc (by unfold value_Many.f value_copies.f; rw [if_pos hs]; rfl)
set_option maxRecDepth 100000 in
set_option maxHeartbeats 2000000 in
theorem desc28_any (x y : S25) (hs : itemsN x + itemsN y ≤ 4294967296) (A B : Option Addr) (c d : Nat) (w : World) (ha : k25.C w A x.f3.length x.f3) (hc : x.f3.length ≤ c) (hb : k25.C w B y.f3.length y.f3) (hd : y.f3.length ≤ d) :
  Calls Try.prog 28 #[.agg #[.int .u8 x.f0, .int .u64 x.f1, .string x.f2, .slice A x.f3.length c], .agg #[.int .u8 y.f0, .int .u64 y.f1, .string y.f2, .slice B y.f3.length d]] w fun e w' => ∃ v3_ : Value, e = .returned (.agg #[.int .u8 25, .int .u64 0, .string ⟨#[]⟩, v3_]) ∧ k25.R 25 w' w.heap.size (fun _ => True) v3_ [x, y] ∧ Below w.heap.size w w' := by
 have HA := Aside0.mk ha
 have HB := Aside0.mk hb
 clear ha hb
 go_enter Try.func28, Try.ntmps28
 go_wp2_with fail
 have bR : Blk ((((w.alloc (.cells #[.int .u8 x.f0, .int .u64 x.f1, .string x.f2, .slice A x.f3.length c] 25)).alloc (.cells #[.int .u8 y.f0, .int .u64 y.f1, .string y.f2, .slice B y.f3.length d] 25)).alloc (.cells #[.int .u8 0, .int .u64 0, .string ⟨#[]⟩, .slice none 0 0] 25)).alloc (.cells #[.int .u8 x.f0, .int .u64 x.f1, .string x.f2, .slice A x.f3.length c, .int .u8 y.f0, .int .u64 y.f1, .string y.f2, .slice B y.f3.length d] 25)) (w.heap.size + 1 + 1) #[.int .u8 0, .int .u64 0, .string ⟨#[]⟩, .slice none 0 0] 25 := by
  have := (Blk.new ((w.alloc (.cells #[.int .u8 x.f0, .int .u64 x.f1, .string x.f2, .slice A x.f3.length c] 25)).alloc (.cells #[.int .u8 y.f0, .int .u64 y.f1, .string y.f2, .slice B y.f3.length d] 25)) #[.int .u8 0, .int .u64 0, .string ⟨#[]⟩, .slice none 0 0] 25).alloc (.cells #[.int .u8 x.f0, .int .u64 x.f1, .string x.f2, .slice A x.f3.length c, .int .u8 y.f0, .int .u64 y.f1, .string y.f2, .slice B y.f3.length d] 25); simpa using this
 have bL : Blk ((((w.alloc (.cells #[.int .u8 x.f0, .int .u64 x.f1, .string x.f2, .slice A x.f3.length c] 25)).alloc (.cells #[.int .u8 y.f0, .int .u64 y.f1, .string y.f2, .slice B y.f3.length d] 25)).alloc (.cells #[.int .u8 0, .int .u64 0, .string ⟨#[]⟩, .slice none 0 0] 25)).alloc (.cells #[.int .u8 x.f0, .int .u64 x.f1, .string x.f2, .slice A x.f3.length c, .int .u8 y.f0, .int .u64 y.f1, .string y.f2, .slice B y.f3.length d] 25)) (w.heap.size + 1 + 1 + 1) (flatK [⟨x, A, c⟩, ⟨y, B, d⟩]).toArray 25 := by
  have := Blk.new (((w.alloc (.cells #[.int .u8 x.f0, .int .u64 x.f1, .string x.f2, .slice A x.f3.length c] 25)).alloc (.cells #[.int .u8 y.f0, .int .u64 y.f1, .string y.f2, .slice B y.f3.length d] 25)).alloc (.cells #[.int .u8 0, .int .u64 0, .string ⟨#[]⟩, .slice none 0 0] 25)) #[.int .u8 x.f0, .int .u64 x.f1, .string x.f2, .slice A x.f3.length c, .int .u8 y.f0, .int .u64 y.f1, .string y.f2, .slice B y.f3.length d] 25; simpa [flatK, KV.cells] using this
 have hB0 : Below w.heap.size w ((((w.alloc (.cells #[.int .u8 x.f0, .int .u64 x.f1, .string x.f2, .slice A x.f3.length c] 25)).alloc (.cells #[.int .u8 y.f0, .int .u64 y.f1, .string y.f2, .slice B y.f3.length d] 25)).alloc (.cells #[.int .u8 0, .int .u64 0, .string ⟨#[]⟩, .slice none 0 0] 25)).alloc (.cells #[.int .u8 x.f0, .int .u64 x.f1, .string x.f2, .slice A x.f3.length c, .int .u8 y.f0, .int .u64 y.f1, .string y.f2, .slice B y.f3.length d] 25)) := below_alloc (below_alloc (below_alloc (below_alloc (Below.refl _ _) _) _) _) _
 have hz : ((((w.alloc (.cells #[.int .u8 x.f0, .int .u64 x.f1, .string x.f2, .slice A x.f3.length c] 25)).alloc (.cells #[.int .u8 y.f0, .int .u64 y.f1, .string y.f2, .slice B y.f3.length d] 25)).alloc (.cells #[.int .u8 0, .int .u64 0, .string ⟨#[]⟩, .slice none 0 0] 25)).alloc (.cells #[.int .u8 x.f0, .int .u64 x.f1, .string x.f2, .slice A x.f3.length c, .int .u8 y.f0, .int .u64 y.f1, .string y.f2, .slice B y.f3.length d] 25)).heap.size = w.heap.size + 4 := by simp
 obtain ⟨W0, hW0⟩ : ∃ W0, ((((w.alloc (.cells #[.int .u8 x.f0, .int .u64 x.f1, .string x.f2, .slice A x.f3.length c] 25)).alloc (.cells #[.int .u8 y.f0, .int .u64 y.f1, .string y.f2, .slice B y.f3.length d] 25)).alloc (.cells #[.int .u8 0, .int .u64 0, .string ⟨#[]⟩, .slice none 0 0] 25)).alloc (.cells #[.int .u8 x.f0, .int .u64 x.f1, .string x.f2, .slice A x.f3.length c, .int .u8 y.f0, .int .u64 y.f1, .string y.f2, .slice B y.f3.length d] 25)) = W0 := ⟨_, rfl⟩
 rw [hW0] at bR bL hB0 hz ⊢
 clear hW0
 have hC := C_lit bL (by simp) (by
  intro q hq
  simp only [List.mem_cons, List.not_mem_nil, or_false] at hq
  rcases hq with rfl | rfl
  ·exact ⟨Kd.C_below HA.out hB0, hc⟩
  ·exact ⟨Kd.C_below HB.out hB0, hd⟩)
 refine (many21_any 25 [x, y] (by simpa [itemsL] using hs) _ 2 W0 hC (by simp)).mono ?_
 rintro e w5 ⟨v3, rfl, hR, hb5⟩
 have HR := Aside0.mk hR
 obtain ⟨A5, c5, rfl⟩ := Kd.R_slice hR
 have bR5 := bR.below hb5
 have HB5 := Aside0.mk (below_step hB0 hb5)
 have HZ := Aside0.mk (⟨hz, hb5.size⟩ : _ ∧ _)
 obtain ⟨q0, q1, q2, q3⟩ := bR5.c4
 have fz := bR5.fz
 clear hR hC bL hb5 hB0
 go_wp2_with fail
 have hz1 := HZ.out.1
 have hz2 := HZ.out.2
 refine bodyPost_ret (results_cell_row rfl _ _ (w.heap.size + 1 + 1) 25 #[.int .u8 25, .int .u64 0, .string ⟨#[]⟩, .slice A5 2 c5] (0, 0) _ rfl (by
  refine blk_put (cs := #[.int .u8 25, .int .u64 0, .string ⟨#[]⟩, .slice none 0 0]) ?_ 3 _ rfl
  refine blk_put (cs := #[.int .u8 25, .int .u64 0, .string ⟨#[]⟩, .slice none 0 0]) ?_ 2 _ rfl
  refine blk_put (cs := #[.int .u8 25, .int .u64 0, .string ⟨#[]⟩, .slice none 0 0]) ?_ 1 _ rfl
  refine blk_put (cs := #[.int .u8 0, .int .u64 0, .string ⟨#[]⟩, .slice none 0 0]) ?_ 0 _ rfl
  exact bR5) Try.underlying25 rfl (by kernel_rfl)) rfl ?_
 refine ⟨.slice A5 2 c5, rfl, ?_, ?_⟩
 ·refine R_lower_far HR.out (by omega) ?_
  exact ((((SetsBelow.nil).snoc (show w.heap.size + 1 + 1 < _ by omega) _).snoc (show w.heap.size + 1 + 1 < _ by omega) _).snoc (show w.heap.size + 1 + 1 < _ by omega) _).snoc (show w.heap.size + 1 + 1 < _ by omega) _
 ·exact below_set (below_set (below_set (below_set HB5.out (by omega)) (by omega)) (by omega)) (by omega)
end Go.Proofs.Ytdilbnggedidnaa.PVal
namespace Go.Proofs.Ytdilbnggedidnaa.PVal
open Go.RowKit
set_option linter.unusedVariables false
set_option linter.unusedSimpArgs false
def Evt {α : Type} (g : Nat → Option α) (r : α) : Prop := ∃ k0, ∀ k, k0 ≤ k → g k = some r
theorem Evt.const {α : Type} (r : α) : Evt (fun _ => some r) r := ⟨0, fun _ _ => rfl⟩
theorem Evt.step {α : Type} {f b : Nat → Option α} {r : α} (h : Evt b r) (hf : ∀ k, f (k + 1) = b k) : Evt f r := by
 obtain ⟨k0, h⟩ := h
 refine ⟨k0 + 1, fun k hk => ?_⟩
 obtain ⟨k, rfl⟩ : ∃ j, k = j + 1 := ⟨k - 1, by omega⟩
 rw [hf]; exact h k (by omega)
theorem Evt.bind {α β : Type} {g : Nat → Option α} {h : Nat → α → Option β} {a : α} {r : β} (hg : Evt g a) (hh : Evt (fun k => h k a) r) : Evt (fun k => (g k).bind (h k)) r := by
 obtain ⟨k0, h0⟩ := hg
 obtain ⟨k1, h1⟩ := hh
 refine ⟨max k0 k1, fun k hk => ?_⟩
 show (g k).bind (h k) = some r
 rw [h0 k (by omega)]; exact h1 k (by omega)
theorem Evt.get {α : Type} {g : Nat → Option α} {r : α} (h : Evt g r) : ∃ k, g k = some r := h.imp fun k0 h0 => h0 k0 (Nat.le_refl _)
theorem Evt.congr {α : Type} {f g : Nat → Option α} {r : α} (h : Evt g r) (he : ∀ k, f k = g k) : Evt f r := h.imp fun k0 h0 k hk => (he k).trans (h0 k hk)
theorem same_e (x y : S25) (hx : itemsN x ≤ 4294967296) : Evt (fun k => bellwetherref04_Same.f k x.f0 x.f1 x.f2 x.f3 y.f0 y.f1 y.f2 y.f3) (veq x y) := ⟨3 * itemsN x, fun k hk => same_f x y k hk hx⟩
theorem veq_comm' (x y : S25) : veq x y = veq y x := by
 rw [Bool.eq_iff_iff, veq_iff, veq_iff]; exact eq_comm
def zz (n : Int) (s : ByteArray) : Bool := (n == 0) && (s.toList == ([] : List UInt8))
theorem zz_e (n : Int) (s : ByteArray) : (if n = 0 then (some (s.toList == ([] : List UInt8))) else (some false)) = some (zz n s) := by
 unfold zz
 by_cases h : n = 0
 ·rw [if_pos h, beq_iff_eq.2 h]; rfl
 ·rw [if_neg h, beq_eq_false_iff_ne.2 h]; rfl
theorem zz_of {k n : Int} {s : ByteArray} (hk : 22 ≤ k) : (numB k n && txtB k s) = zz n s := by
 unfold numB txtB zz
 rw [if_neg (by omega), if_neg (by omega), if_neg (by omega), if_neg (by omega), if_neg (by omega), if_neg (by omega), if_neg (by omega), if_neg (by omega), if_neg (by omega), if_neg (by omega), if_neg (by omega), if_neg (by omega), if_neg (by omega)]
 rw [if_neg (by omega), if_neg (by omega), if_neg (by omega), if_neg (by omega), if_neg (by omega), if_neg (by omega), if_neg (by omega)]
 cases s.toList <;> rfl
theorem may_l3 (n0 : Int) (s : ByteArray) (kk : Int) (l : List S25) (hm : l.length ≤ 4294967296) (h0 : S25) (t : List S25) (hl : l = h0 :: t) (hs : itemsN h0 ≤ 4294967296) (hd : ∀ x ∈ l, ∃ m, dsc m x) (dh : dsc (itemsN h0) h0) :
  ∀ (m i : Nat), i + m = l.length → 1 ≤ i → Evt (fun k => bellwetherref04_may.l3 k (l.length : Int) (i : Int) kk n0 s l) ((l.drop i).all (alikeB h0) && zz n0 s)
 | 0, i, hi, h1 => by
  refine Evt.step (b := fun k => some (zz n0 s)) (by rw [List.drop_of_length_le (by omega)]; exact Evt.const _) fun k => ?_
  rw [bellwetherref04_may.l3, if_neg (by omega), zz_e]
 | m + 1, i, hi, h1 => by
  have hlt : i < l.length := by omega
  have hdr : l.drop i = rd_T25 l (i : Int) :: l.drop (i + 1) := by
   have := drop_rd (xs := l) (i := (i : Int)) (by omega) (by omega)
   simpa using this
  obtain ⟨md, hmd⟩ := hd _ (rd_mem (xs := l) (i := (i : Int)) (by omega) (by omega))
  have h00 : rd_T25 l 0 = h0 := by rw [hl]; rfl
  have ha : Evt (fun k => bellwetherref04_alike.f k h0.f0 h0.f1 h0.f2 h0.f3 (rd_T25 l (i : Int)).f0 (rd_T25 l (i : Int)).f1 (rd_T25 l (i : Int)).f2 (rd_T25 l (i : Int)).f3) (alikeB h0 (rd_T25 l (i : Int))) :=
   ⟨2 * itemsN h0 + 3 * itemsN h0, fun k hk => ralike_f (itemsN h0) k h0 _ md dh hmd hk hs⟩
  have ih := may_l3 n0 s kk l hm h0 t hl hs hd dh m (i + 1) (by omega) (by omega)
  refine Evt.step (b := fun k => (bellwetherref04_alike.f k h0.f0 h0.f1 h0.f2 h0.f3 (rd_T25 l (i : Int)).f0 (rd_T25 l (i : Int)).f1 (rd_T25 l (i : Int)).f2 (rd_T25 l (i : Int)).f3).bind fun t109 => (if t109 = true then (bellwetherref04_may.l3 k (l.length : Int) ((i + 1 : Nat) : Int) kk n0 s l) else (some false))) ?_ fun k => ?_
  ·refine Evt.bind ha ?_
   rw [hdr, List.all_cons]
   cases alikeB h0 (rd_T25 l (i : Int)) with
   | true => simpa using ih
   | false => exact Evt.const _
  ·rw [bellwetherref04_may.l3, if_pos (by omega), if_pos (by omega), if_pos (by omega), if_pos (by omega), h00, w64 (by omega) (by omega)]
   rfl
theorem may_l2 (n0 : Int) (s : ByteArray) (kk : Int) (l : List S25) (hm : l.length ≤ 4294967296) (hi : ∀ x ∈ l, itemsN x ≤ 4294967296) (a : Nat) (ha : 2 * a < l.length) (r : Bool) (h1 : Evt (fun k => bellwetherref04_may.l1 k (l.length : Int) ((2 * (a + 1) : Nat) : Int) kk n0 s l) r) :
  ∀ (m b : Nat), b + m = a → Evt (fun k => bellwetherref04_may.l2 k (l.length : Int) ((2 * a : Nat) : Int) ((2 * b : Nat) : Int) kk n0 s l) (!((List.range' b m).any fun j => veq (rd_T25 l ((2 * a : Nat) : Int)) (rd_T25 l ((2 * j : Nat) : Int))) && r)
 | 0, b, hb => by
  refine Evt.step (b := fun k => bellwetherref04_may.l1 k (l.length : Int) ((2 * (a + 1) : Nat) : Int) kk n0 s l) (by simpa using h1) fun k => ?_
  rw [bellwetherref04_may.l2, if_neg (by omega), w64 (by omega) (by omega), show ((2 * a : Nat) : Int) + 2 = ((2 * (a + 1) : Nat) : Int) by omega]
 | m + 1, b, hb => by
  have ih := may_l2 n0 s kk l hm hi a ha r h1 m (b + 1) (by omega)
  refine Evt.step (b := fun k => (bellwetherref04_Same.f k (rd_T25 l ((2 * a : Nat) : Int)).f0 (rd_T25 l ((2 * a : Nat) : Int)).f1 (rd_T25 l ((2 * a : Nat) : Int)).f2 (rd_T25 l ((2 * a : Nat) : Int)).f3 (rd_T25 l ((2 * b : Nat) : Int)).f0 (rd_T25 l ((2 * b : Nat) : Int)).f1 (rd_T25 l ((2 * b : Nat) : Int)).f2 (rd_T25 l ((2 * b : Nat) : Int)).f3).bind fun t106 => (if t106 = true then (some false) else (bellwetherref04_may.l2 k (l.length : Int) ((2 * a : Nat) : Int) ((2 * (b + 1) : Nat) : Int) kk n0 s l))) ?_ fun k => ?_
  ·refine Evt.bind (same_e _ _ (hi _ (rd_mem (by omega) (by omega)))) ?_
   rw [List.range'_succ, List.any_cons]
   cases veq (rd_T25 l ((2 * a : Nat) : Int)) (rd_T25 l ((2 * b : Nat) : Int)) with
   | true => exact Evt.const _
   | false => simpa using ih
  ·rw [bellwetherref04_may.l2, if_pos (by omega), if_pos (by omega), if_pos (by omega), if_pos (by omega), if_pos (by omega), w64 (by omega) (by omega), show ((2 * b : Nat) : Int) + 2 = ((2 * (b + 1) : Nat) : Int) by omega]
def keysOf (l : List S25) : List S25 := (pairsOf l).map (·.1)
theorem keysOf_get {l : List S25} {k : Nat} (h : 2 * k + 1 < l.length) : (keysOf l)[k]? = some (rd_T25 l ((2 * k : Nat) : Int)) := by
 unfold keysOf
 rw [List.getElem?_map, pairsOf_get l k h]
 rfl
theorem keysOf_length (l : List S25) : (keysOf l).length = l.length / 2 := by unfold keysOf; rw [List.length_map, pairsOf_length]
theorem keys_any {l : List S25} {a : Nat} (ha : 2 * a < l.length) (he : l.length % 2 = 0) (x : S25) : ((keysOf l).take a).any (fun s => veq s x) = (List.range' 0 a).any fun j => veq x (rd_T25 l ((2 * j : Nat) : Int)) := by
 have : (keysOf l).take a = (List.range' 0 a).map fun j => rd_T25 l ((2 * j : Nat) : Int) := by
  apply List.ext_getElem?
  intro j
  rw [List.getElem?_take, List.getElem?_map]
  by_cases hj : j < a
  ·rw [if_pos hj, keysOf_get (by omega), List.getElem?_range' (by omega)]
   simp
  ·rw [if_neg hj, List.getElem?_eq_none (by simp; omega)]
   rfl
 rw [this, List.any_map]
 congr 1
 funext j
 exact veq_comm' _ _
theorem may_l1 (n0 : Int) (s : ByteArray) (kk : Int) (l : List S25) (hm : l.length ≤ 4294967296) (hi : ∀ x ∈ l, itemsN x ≤ 4294967296) (he : l.length % 2 = 0) :
  ∀ (m a : Nat), 2 * (a + m) = l.length → Evt (fun k => bellwetherref04_may.l1 k (l.length : Int) ((2 * a : Nat) : Int) kk n0 s l) (unlikeL ((keysOf l).take a) ((keysOf l).drop a) && zz n0 s)
 | 0, a, ha => by
  refine Evt.step (b := fun k => some (zz n0 s)) (by rw [List.drop_of_length_le (by rw [keysOf_length]; omega)]; exact Evt.const _) fun k => ?_
  rw [bellwetherref04_may.l1, if_neg (by omega), zz_e]
 | m + 1, a, ha => by
  have ih := may_l1 n0 s kk l hm hi he m (a + 1) (by omega)
  have h2 := may_l2 n0 s kk l hm hi a (by omega) _ ih a 0 (by omega)
  have h : Evt (fun k => bellwetherref04_may.l1 k (l.length : Int) ((2 * a : Nat) : Int) kk n0 s l) _ := Evt.step h2 (fun k => by
   rw [bellwetherref04_may.l1, if_pos (by omega)]
   rfl)
  have hlt : a < (keysOf l).length := by rw [keysOf_length]; omega
  have hk := keysOf_get (l := l) (k := a) (by omega)
  rw [List.getElem?_eq_getElem hlt] at hk
  have hkk := Option.some.inj hk
  rw [List.drop_eq_getElem_cons hlt, hkk, unlikeL, keys_any (by omega) he]
  rw [List.take_succ_eq_append_getElem hlt, hkk] at h
  rw [Bool.and_assoc]
  exact h
theorem alikeF_refl : ∀ (n : Nat) (a : S25), dsc n a → alikeF n a a = true
 | 0, _, h => h.elim
 | n + 1, a, h => by
  unfold alikeF
  by_cases h25 : a.f0 = 25
  ·obtain ⟨x, y, he, hy⟩ := h h25
   rw [if_pos ⟨h25, h25⟩, he, veq_refl]
   exact alikeF_refl n y hy
  ·rw [if_neg (fun h => h25 h.1)]
   exact beq_self_eq_true _
theorem called_f (a b : Int) (s : ByteArray) (l : List S25) : bellwetherref04_Called.f a b s l = some (decide (a = 6) || decide (a = 21)) := by
 unfold bellwetherref04_Called.f
 by_cases h6 : a = 6
 ·simp [h6]
 ·by_cases h21 : a = 21 <;> simp [h6, h21]
theorem may_l0 (n0 : Int) (s : ByteArray) (kk : Int) (l : List S25) (hm : l.length ≤ 4294967296) (hk : ∀ x ∈ l, Evt (fun k => bellwetherref04_may.f k x.f0 x.f1 x.f2 x.f3) (mayB x)) (r : Bool) (hr : mayL l = true → Evt (fun k => bellwetherref04_may.l0 k (l.length : Int) kk n0 s l) r) :
  ∀ (m i : Nat), i + m = l.length → (l.take i).all mayB = true → Evt (fun k => bellwetherref04_may.l0 k (i : Int) kk n0 s l) ((l.drop i).all mayB && r)
 | 0, i, hi, ht => by
  obtain rfl : i = l.length := by omega
  rw [List.take_length] at ht
  rw [List.drop_length]
  exact hr (by rw [mayL_all]; exact ht)
 | m + 1, i, hi, ht => by
  have hlt : i < l.length := by omega
  have hdr : l.drop i = rd_T25 l (i : Int) :: l.drop (i + 1) := by
   have := drop_rd (xs := l) (i := (i : Int)) (by omega) (by omega)
   simpa using this
  have htk : l.take (i + 1) = l.take i ++ [rd_T25 l (i : Int)] := by
   have := take_rd (xs := l) (i := (i : Int)) (by omega) (by omega)
   simpa using this
  refine Evt.step (b := fun k => (bellwetherref04_may.f k (rd_T25 l (i : Int)).f0 (rd_T25 l (i : Int)).f1 (rd_T25 l (i : Int)).f2 (rd_T25 l (i : Int)).f3).bind fun t103 => (if t103 = true then (bellwetherref04_may.l0 k ((i + 1 : Nat) : Int) kk n0 s l) else (some false))) ?_ fun k => ?_
  ·refine Evt.bind (hk _ (rd_mem (by omega) (by omega))) ?_
   rw [hdr, List.all_cons]
   cases hb : mayB (rd_T25 l (i : Int)) with
   | true =>
    have ih := may_l0 n0 s kk l hm hk r hr m (i + 1) (by omega) (by rw [htk, List.all_append, ht, List.all_cons, hb]; rfl)
    simpa using ih
   | false => exact Evt.const _
  ·rw [bellwetherref04_may.l0, if_pos (by omega), if_pos (by omega), w64 (by omega) (by omega)]
   rfl
theorem may_e : ∀ (n : Nat) (x : S25), itemsN x ≤ n → itemsN x ≤ 4294967296 → okV x → Evt (fun k => bellwetherref04_may.f k x.f0 x.f1 x.f2 x.f3) (mayB x)
 | 0, x, h, _, _ => absurd (itemsN_pos x) (by omega)
 | n + 1, x, h, hs, ho => by
  have hN := itemsN_eq x
  have hlen := itemsL_length x.f3
  have hm : x.f3.length ≤ 4294967296 := by omega
  have hob := ho
  rw [okV_eq] at ho
  obtain ⟨⟨hn, ht⟩, hol⟩ := ho
  have hi : ∀ y ∈ x.f3, itemsN y ≤ 4294967296 := fun y hy => by have := itemsL_mem hy; omega
  have hk : ∀ y ∈ x.f3, Evt (fun k => bellwetherref04_may.f k y.f0 y.f1 y.f2 y.f3) (mayB y) := fun y hy => may_e n y (by have := itemsL_mem hy; omega) (hi y hy) (okL_mem hol hy)
  have hall : mayB x = (x.f3.all mayB && (decide (1 ≤ x.f0 ∧ x.f0 ≤ 25) && ((numB x.f0 x.f1 && txtB x.f0 x.f2) && famB x))) := by
   rw [mayB_eq, mayL_all]
   cases x.f3.all mayB <;> cases decide (1 ≤ x.f0 ∧ x.f0 ≤ 25) <;> rfl
  rw [hall]
  refine Evt.step (b := fun k => bellwetherref04_may.l0 k 0 x.f0 x.f1 x.f2 x.f3) ?_ fun k => rfl
  have := may_l0 x.f1 x.f2 x.f0 x.f3 hm hk (decide (1 ≤ x.f0 ∧ x.f0 ≤ 25) && ((numB x.f0 x.f1 && txtB x.f0 x.f2) && famB x)) ?_ x.f3.length 0 (by omega) (by rw [List.take_zero]; rfl)
  ·rw [List.drop_zero] at this
   exact this
  intro hml
  rw [mayL_all] at hml
  by_cases h22 : x.f0 = 22
  ·have hr : (decide (1 ≤ x.f0 ∧ x.f0 ≤ 25) && ((numB x.f0 x.f1 && txtB x.f0 x.f2) && famB x)) = zz x.f1 x.f2 := by
    rw [zz_of (by omega), decide_eq_true (by omega)]
    unfold famB
    rw [if_pos h22, Bool.and_true, Bool.true_and]
   rw [hr]
   refine Evt.step (Evt.const (zz x.f1 x.f2)) fun k => ?_
   rw [bellwetherref04_may.l0, if_neg (by omega), if_pos h22, zz_e]
  by_cases h23 : x.f0 = 23
  ·have hr : (decide (1 ≤ x.f0 ∧ x.f0 ≤ 25) && ((numB x.f0 x.f1 && txtB x.f0 x.f2) && famB x)) = (zz x.f1 x.f2 && (decide (x.f3.length % 2 = 0) && unlikeB x)) := by
    rw [zz_of (by omega), decide_eq_true (by omega)]
    unfold famB
    rw [if_neg h22, if_pos h23, Bool.true_and]
   rw [hr]
   by_cases he : x.f3.length % 2 = 0
   ·have h1 := may_l1 x.f1 x.f2 x.f0 x.f3 hm hi he (x.f3.length / 2) 0 (by omega)
    rw [List.take_zero, List.drop_zero] at h1
    rw [decide_eq_true he, Bool.true_and, Bool.and_comm]
    refine Evt.step h1 fun k => ?_
    rw [bellwetherref04_may.l0, if_neg (by omega), if_neg h22, if_pos h23, if_neg (by omega)]
    rfl
   ·rw [decide_eq_false he, Bool.false_and, Bool.and_false]
    refine Evt.step (Evt.const false) fun k => ?_
    rw [bellwetherref04_may.l0, if_neg (by omega), if_neg h22, if_pos h23, if_pos (by omega)]
  by_cases h24 : x.f0 = 24
  ·have hr : (decide (1 ≤ x.f0 ∧ x.f0 ≤ 25) && ((numB x.f0 x.f1 && txtB x.f0 x.f2) && famB x)) = (zz x.f1 x.f2 && arrB x.f3) := by
    rw [zz_of (by omega), decide_eq_true (by omega)]
    unfold famB
    rw [if_neg h22, if_neg h23, if_pos h24, Bool.true_and]
   rw [hr]
   rcases hx : x.f3 with _ | ⟨h0, tl⟩
   ·show Evt _ (zz x.f1 x.f2 && true)
    rw [Bool.and_true]
    refine Evt.step (b := fun k => bellwetherref04_may.l3 k 0 1 x.f0 x.f1 x.f2 []) ?_ fun k => ?_
    ·refine Evt.step (Evt.const (zz x.f1 x.f2)) fun k => ?_
     rw [bellwetherref04_may.l3, if_neg (by omega), zz_e]
    ·rw [bellwetherref04_may.l0, if_neg (by simp), if_neg h22, if_neg h23, if_pos h24]
     rfl
   ·rw [hx] at hml hi hm
    have hd : ∀ y ∈ h0 :: tl, ∃ m, dsc m y := fun y hy => ⟨itemsN y, mayB_dsc _ y (Nat.le_refl _) (List.all_eq_true.1 hml y hy)⟩
    have hd0 := mayB_dsc _ h0 (Nat.le_refl _) (List.all_eq_true.1 hml h0 List.mem_cons_self)
    have h3 := may_l3 x.f1 x.f2 x.f0 (h0 :: tl) hm h0 tl rfl (hi h0 List.mem_cons_self) hd hd0 tl.length 1 (by simp; omega) (Nat.le_refl _)
    have hself : alikeB h0 h0 = true := alikeF_refl (itemsN h0) h0 hd0
    rw [Bool.and_comm]
    show Evt _ ((h0 :: tl).all (alikeB h0) && _)
    rw [List.all_cons, hself, Bool.true_and]
    rw [List.drop_succ_cons, List.drop_zero] at h3
    refine Evt.step h3 fun k => ?_
    rw [bellwetherref04_may.l0, if_neg (by omega), if_neg h22, if_neg h23, if_pos h24]
    rfl
  by_cases h25 : x.f0 = 25
  ·have hr : (decide (1 ≤ x.f0 ∧ x.f0 ≤ 25) && ((numB x.f0 x.f1 && txtB x.f0 x.f2) && famB x)) = (zz x.f1 x.f2 && (decide (x.f3.length = 2) && (decide ((rd_T25 x.f3 0).f0 = 6) || decide ((rd_T25 x.f3 0).f0 = 21)))) := by
    rw [zz_of (by omega), decide_eq_true (by omega)]
    unfold famB
    rw [if_neg h22, if_neg h23, if_neg h24, if_pos h25, Bool.true_and]
   rw [hr]
   refine Evt.step (b := fun _ => some _) (Evt.const _) fun k => ?_
   rw [bellwetherref04_may.l0, if_neg (by omega), if_neg h22, if_neg h23, if_neg h24, if_pos h25]
   by_cases h2 : x.f3.length = 2
   ·rw [if_pos (by omega), if_pos (by omega), decide_eq_true h2, Bool.true_and, called_f]
    show (if _ = true then _ else _) = _
    cases (decide ((rd_T25 x.f3 0).f0 = 6) || decide ((rd_T25 x.f3 0).f0 = 21)) with
    | true => rw [if_pos rfl, zz_e, Bool.and_true]
    | false => rw [if_neg (by simp), Bool.and_false]
   ·rw [if_neg (by omega), decide_eq_false h2, Bool.false_and, Bool.and_false]
  ·have hf : famB x = decide (x.f3.length = 0) := by unfold famB; rw [if_neg h22, if_neg h23, if_neg h24, if_neg h25]
   refine Evt.step (b := fun _ => some _) (Evt.const _) fun k => ?_
   rw [bellwetherref04_may.l0, if_neg (by omega), if_neg h22, if_neg h23, if_neg h24, if_neg h25, bellwetherref04_plain.f, if_pos ⟨hn, ht⟩, hf]
   show some _ = some _
   congr 1
   unfold plainB
   by_cases hr1 : 1 ≤ x.f0 ∧ x.f0 ≤ 25
   ·rw [decide_eq_true hr1, decide_eq_true (show 1 ≤ x.f0 ∧ x.f0 ≤ 21 by omega)]
    show (decide (x.f3.length = 0) && true && numB x.f0 x.f1 && txtB x.f0 x.f2) = _
    cases decide (x.f3.length = 0) <;> cases numB x.f0 x.f1 <;> cases txtB x.f0 x.f2 <;> rfl
   ·rw [decide_eq_false hr1, decide_eq_false (show ¬ (1 ≤ x.f0 ∧ x.f0 ≤ 21) by omega)]
    cases decide (x.f3.length = 0) <;> rfl
end Go.Proofs.Ytdilbnggedidnaa.PVal
namespace Go.Proofs.Ytdilbnggedidnaa.PVal
open Go.RowKit Go.Proofs.YtdilbnggedidnaaW.PrintWords Go.Proofs.YtdilbnggedidnaaW.PrintLast
set_option linter.unusedVariables false
set_option linter.unusedSimpArgs false
theorem S25.eta' (x : S25) : (⟨x.f0, x.f1, x.f2, x.f3⟩ : S25) = x := by cases x; rfl
def rightB (x : S25) : Bool := (decide (depthN x ≤ 16) && decide (itemsN x ≤ 1024)) && mayB x
theorem right17_any (x : S25) (hs : itemsN x ≤ 4294967296) (ho : okV x) (A : Option Addr) (c : Nat) (w : World) (ha : k25.C w A x.f3.length x.f3) (hc : x.f3.length ≤ c) :
  Calls Try.prog 17 #[.agg #[.int .u8 x.f0, .int .u64 x.f1, .string x.f2, .slice A x.f3.length c]] w fun e w' => e = .returned (.bool (rightB x)) ∧ Below w.heap.size w w' := by
 refine value_Right.calls x.f0 x.f1 x.f2 A c x.f3 _ w ha hc ?_
 unfold value_Right.f value_Depth.f value_Items.f value_may.f rightB
 rw [S25.eta', if_pos hs]
 show (if (depthN x : Int) ≤ 16 then _ else _) = _
 by_cases h1 : depthN x ≤ 16
 ·rw [if_pos (by omega), if_pos hs, decide_eq_true h1]
  show (if (itemsN x : Int) ≤ 1024 then _ else _) = _
  by_cases h2 : itemsN x ≤ 1024
  ·rw [if_pos (by omega), if_pos ⟨hs, okVb_iff.2 ho⟩, decide_eq_true h2]; rfl
  ·rw [if_neg (by omega), decide_eq_false h2]; rfl
 ·rw [if_neg (by omega), decide_eq_false h1]; rfl
theorem right18_any (x : S25) (hs : itemsN x ≤ 4294967296) (ho : okV x) (A : Option Addr) (c : Nat) (w : World) (ha : k25.C w A x.f3.length x.f3) (hc : x.f3.length ≤ c) :
  Calls Try.prog 18 #[.agg #[.int .u8 x.f0, .int .u64 x.f1, .string x.f2, .slice A x.f3.length c]] w fun e w' => e = .returned (.bool (rightB x)) ∧ Below w.heap.size w w' := by
 have he : Evt (fun k => bellwetherref04_Right.f k x.f0 x.f1 x.f2 x.f3) (rightB x) := by
  unfold bellwetherref04_Right.f rightB
  refine Evt.bind (a := (itemsN x : Int)) ⟨2 * itemsN x, fun k hk => items_f x k hk hs⟩ ?_
  by_cases h2 : itemsN x ≤ 1024
  ·refine Evt.congr (g := fun k => (bellwetherref04_Depth.f k x.f0 x.f1 x.f2 x.f3).bind fun t115 => (if t115 ≤ 16 then ((bellwetherref04_may.f k x.f0 x.f1 x.f2 x.f3).bind fun t116 => (some t116)) else (some false))) ?_ (fun k => if_pos (by omega))
   refine Evt.bind (a := (depthN x : Int)) ⟨2 * itemsN x, fun k hk => depth_f x k hk hs⟩ ?_
   rw [decide_eq_true h2, Bool.and_true]
   by_cases h1 : depthN x ≤ 16
   ·refine Evt.congr (g := fun k => (bellwetherref04_may.f k x.f0 x.f1 x.f2 x.f3).bind fun t116 => (some t116)) ?_ (fun k => if_pos (by omega))
    rw [decide_eq_true h1, Bool.true_and]
    exact Evt.bind (may_e _ x (Nat.le_refl _) hs ho) (Evt.const _)
   ·rw [decide_eq_false h1]
    exact Evt.congr (Evt.const _) (fun k => if_neg (by omega))
  ·rw [decide_eq_false h2, Bool.and_false]
   exact Evt.congr (Evt.const _) (fun k => if_neg (by omega))
 obtain ⟨k, hk⟩ := he.get
 exact bellwetherref04_Right.calls k x.f0 x.f1 x.f2 A c x.f3 _ w ha hc hk
end Go.Proofs.Ytdilbnggedidnaa.PVal
namespace Go.Proofs.Ytdilbnggedidnaa.PVal
open Go.RowKit Go.Proofs.YtdilbnggedidnaaW.PrintWords Go.Proofs.YtdilbnggedidnaaW.PrintLast
set_option linter.unusedVariables false
set_option linter.unusedSimpArgs false
structure Tn (ok : Nat → Prop) (w w' : World) : Prop where
 os : w'.os = w.os
 tape : w'.tape = w.tape
 output : w'.output = w.output
 size : w'.heap.size = w.heap.size
 off : ∀ k, ¬ ok k → w'.heap[k]? = w.heap[k]?
 on : ∀ (k : Nat) (cur : Array Value) (t : TypeId) (f : Nat × Nat), w.heap[k]? = some (Obj.cells cur t f) → ∃ cur' : Array Value, w'.heap[k]? = some (Obj.cells cur' t f) ∧ cur'.size = cur.size ∧ ∀ j : Nat, cur'[j]? = cur[j]? ∨ ∃ a a' : Int, cur[j]? = some (Value.int .u64 a) ∧ cur'[j]? = some (Value.int .u64 a')
theorem Tn.refl (ok : Nat → Prop) (w : World) : Tn ok w w := ⟨rfl, rfl, rfl, rfl, fun _ _ => rfl, fun k cur t f h => ⟨cur, h, rfl, fun _ => .inl rfl⟩⟩
theorem Tn.trans {ok : Nat → Prop} {a b c : World} (h : Tn ok a b) (k : Tn ok b c) : Tn ok a c :=
 ⟨k.os.trans h.os, k.tape.trans h.tape, k.output.trans h.output, k.size.trans h.size, fun i hi => (k.off i hi).trans (h.off i hi), fun i cur t f hc => by
  obtain ⟨c1, h1, s1, e1⟩ := h.on i cur t f hc
  obtain ⟨c2, h2, s2, e2⟩ := k.on i c1 t f h1
  refine ⟨c2, h2, s2.trans s1, fun j => ?_⟩
  rcases e1 j with e | ⟨a, a', ha, ha'⟩ <;> rcases e2 j with e' | ⟨b, b', hb, hb'⟩
  ·exact .inl (e'.trans e)
  ·exact .inr ⟨b, b', e ▸ hb, hb'⟩
  ·exact .inr ⟨a, a', ha, e'.trans ha'⟩
  ·exact .inr ⟨a, b', ha, hb'⟩⟩
theorem Tn.set {ok : Nat → Prop} {w w' : World} (h : Tn ok w w') {g j : Nat} {cur : Array Value} {t : TypeId} {a : Int} (hg : ok g) (hb : w'.heap[g]? = some (.cells cur t (0, 0))) (hj : cur[j]? = some (.int .u64 a)) (a' : Int) : Tn ok w (w'.setCell ⟨g, j, none⟩ (.int .u64 a')) := by
 refine h.trans ⟨rfl, rfl, rfl, by simp [World.setCell], fun k hk => Below.heap_setCell _ _ _ k (fun e => hk (by rw [e]; exact hg)), fun k cur2 t2 f2 hc => ?_⟩
 by_cases hkg : k = g
 ·subst hkg
  rw [hb] at hc
  cases hc
  refine ⟨cur.setIfInBounds j (.int .u64 a'), blk_put hb j _ rfl, by simp, fun i => ?_⟩
  by_cases hij : i = j
  ·subst hij
   have hlt : i < cur.size := (Array.getElem?_eq_some_iff.1 hj).1
   exact .inr ⟨a, a', hj, by simp [hlt]⟩
  ·exact .inl (Array.getElem?_setIfInBounds_ne (fun e => hij e.symm))
 ·exact ⟨cur2, (Below.heap_setCell _ _ _ k hkg).trans hc, rfl, fun _ => .inl rfl⟩
theorem Tn.below {ok : Nat → Prop} {w w' : World} (h : Tn ok w w') {b : Nat} (hb : ∀ k, ok k → b ≤ k) : Below b w w' := ⟨h.os, h.tape, h.output, by rw [h.size]; exact Nat.le_refl _, fun k hk => h.off k (fun ho => by have := hb k ho; omega)⟩
end Go.Proofs.Ytdilbnggedidnaa.PVal
namespace Go.Proofs.Ytdilbnggedidnaa.PVal
open Go.RowKit Go.Shelf Go.Proofs.YtdilbnggedidnaaW.PrintWords Go.Proofs.YtdilbnggedidnaaW.PrintLast
set_option linter.unusedVariables false
set_option linter.unusedSimpArgs false
set_option maxHeartbeats 2000000 in
theorem number23_any (k n : Int) (w : World) : Calls Try.prog 23 #[.int .u8 k, .int .u64 n] w fun e w' => e = .returned (.agg #[.int .u8 k, .int .u64 n, .string ⟨#[]⟩, .slice none 0 0]) ∧ Below w.heap.size w w' := by
 go_enter Try.func23, Try.ntmps23
 go_wp2_with fail
 exact bodyPost_ret (results_cell_row rfl _ _ w.heap.size 25 #[.int .u8 k, .int .u64 n, .string ⟨#[]⟩, .slice none 0 0] (0, 0) _ rfl (blk_new _ _) Try.underlying25 rfl (by kernel_rfl)) rfl ⟨rfl, below_alloc (Below.refl _ _) _⟩
set_option maxHeartbeats 2000000 in
theorem text24_any (k : Int) (s : ByteArray) (w : World) : Calls Try.prog 24 #[.int .u8 k, .string s] w fun e w' => e = .returned (.agg #[.int .u8 k, .int .u64 0, .string s, .slice none 0 0]) ∧ Below w.heap.size w w' := by
 go_enter Try.func24, Try.ntmps24
 go_wp2_with fail
 exact bodyPost_ret (results_cell_row rfl _ _ w.heap.size 25 #[.int .u8 k, .int .u64 0, .string s, .slice none 0 0] (0, 0) _ rfl (blk_new _ _) Try.underlying25 rfl (by kernel_rfl)) rfl ⟨rfl, below_alloc (Below.refl _ _) _⟩
set_option maxHeartbeats 2000000 in
theorem null26_any (w : World) : Calls Try.prog 26 #[] w fun e w' => e = .returned (.agg #[.int .u8 1, .int .u64 0, .string ⟨#[]⟩, .slice none 0 0]) ∧ Below w.heap.size w w' := by
 go_enter Try.func26, Try.ntmps26
 go_wp2_with fail
 exact bodyPost_ret (results_cell_row rfl _ _ w.heap.size 25 #[.int .u8 1, .int .u64 0, .string ⟨#[]⟩, .slice none 0 0] (0, 0) _ rfl (blk_new _ _) Try.underlying25 rfl (by kernel_rfl)) rfl ⟨rfl, below_alloc (Below.refl _ _) _⟩
def vOne : S25 := ⟨5, 1, ⟨#[]⟩, []⟩
def vBig : S25 := ⟨6, 1, ⟨#[]⟩, []⟩
def vNul : S25 := ⟨1, 0, ⟨#[]⟩, []⟩
def vTru : S25 := ⟨2, 1, ⟨#[]⟩, []⟩
def vMap : S25 := ⟨23, 0, ⟨#[]⟩, [vOne, vNul, vBig, vTru]⟩
def vBad : S25 := ⟨23, 0, ⟨#[]⟩, [vOne, vOne, vOne, vOne]⟩
def vByt : S25 := ⟨3, 300, ⟨#[]⟩, []⟩
def vSym : S25 := ⟨21, 0, ⟨#[97]⟩, []⟩
def vDsc : S25 := ⟨25, 0, ⟨#[]⟩, [vSym, vOne]⟩
def vDs2 : S25 := ⟨25, 0, ⟨#[]⟩, [vOne, vOne]⟩
theorem w_map : rightB vMap = true := by kernel_rfl
theorem w_bad : rightB vBad = false := by kernel_rfl
theorem w_byt : rightB vByt = false := by kernel_rfl
theorem w_dsc : rightB vDsc = true := by kernel_rfl
theorem w_ds2 : rightB vDs2 = false := by kernel_rfl
theorem w_get : getV vMap vBig = some vTru := by kernel_rfl
end Go.Proofs.Ytdilbnggedidnaa.PVal
namespace Go.Proofs.Ytdilbnggedidnaa.PVal
open Go.RowKit Go.Shelf Go.Proofs.YtdilbnggedidnaaW.PrintWords Go.Proofs.YtdilbnggedidnaaW.PrintLast
set_option linter.unusedVariables false
set_option linter.unusedSimpArgs false
theorem C_none (w : World) : k25.C w none 0 ([] : List S25) := ⟨rfl, by omega, fun h => absurd h (by omega)⟩
theorem w_l4 : itemsL [vOne, vNul, vBig, vTru] ≤ 4294967296 := by rw [show itemsL [vOne, vNul, vBig, vTru] = 4 by kernel_rfl]; omega
theorem w_lb4 : itemsL [vOne, vOne, vOne, vOne] ≤ 4294967296 := by rw [show itemsL [vOne, vOne, vOne, vOne] = 4 by kernel_rfl]; omega
theorem w_m5 : itemsN vMap ≤ 4294967296 := by rw [show itemsN vMap = 5 by kernel_rfl]; omega
theorem ok_vb (x : S25) (h : okVb x = true) : okV x := okVb_iff.1 h
theorem w_mo : okV vMap := ok_vb _ (by kernel_rfl)
theorem w_bo : okV vBad := ok_vb _ (by kernel_rfl)
theorem w_yo : okV vByt := ok_vb _ (by kernel_rfl)
theorem w_do : okV vDsc := ok_vb _ (by kernel_rfl)
theorem w_eo : okV vDs2 := ok_vb _ (by kernel_rfl)
theorem w_b5 : itemsN vBad ≤ 4294967296 := by rw [show itemsN vBad = 5 by kernel_rfl]; omega
theorem w_y1 : itemsN vByt ≤ 4294967296 := by rw [show itemsN vByt = 1 by kernel_rfl]; omega
theorem w_d3 : itemsN vDsc ≤ 4294967296 := by rw [show itemsN vDsc = 3 by kernel_rfl]; omega
theorem w_e3 : itemsN vDs2 ≤ 4294967296 := by rw [show itemsN vDs2 = 3 by kernel_rfl]; omega
theorem w_d2 : itemsN vSym + itemsN vOne ≤ 4294967296 := by rw [show itemsN vSym + itemsN vOne = 2 by kernel_rfl]; omega
theorem w_o2 : itemsN vOne + itemsN vOne ≤ 4294967296 := by rw [show itemsN vOne + itemsN vOne = 2 by kernel_rfl]; omega
theorem w_same : veq vTru vTru = true := veq_refl _
theorem w_items : ((itemsN vMap : Nat) : Int) = 5 := by rw [show itemsN vMap = 5 by kernel_rfl]; rfl
theorem w_depth : ((depthN vMap : Nat) : Int) = 2 := by rw [show depthN vMap = 2 by kernel_rfl]; rfl
theorem w_getR : getR vMap vBig = vTru := by unfold getR; rw [w_get]; rfl
set_option maxRecDepth 100000 in
set_option maxHeartbeats 8000000 in
theorem works15_any (w : World) : Calls Try.prog 15 #[] w fun e w' => e = .returned (.bool true) ∧ Below w.heap.size w w' := by
 go_enter Try.func15, Try.ntmps15
 go_wp2_with fail
 refine (number23_any 5 1 _).mono ?_
 rintro e w1 ⟨rfl, hb1⟩
 have HB1 := Aside0.mk hb1
 clear hb1
 go_wp2_with fail
 refine (number23_any 6 1 _).mono ?_
 rintro e w2 ⟨rfl, hb2⟩
 have bA := ((Blk.new w1 #[.int .u8 5, .int .u64 1, .string ⟨#[]⟩, .slice none 0 0] 25).below hb2).alloc (.cells #[.int .u8 6, .int .u64 1, .string ⟨#[]⟩, .slice none 0 0] 25)
 have bB := Blk.new w2 #[.int .u8 6, .int .u64 1, .string ⟨#[]⟩, .slice none 0 0] 25
 have HB2 := Aside0.mk (below_alloc (below_step (below_alloc HB1.out (.cells #[.int .u8 5, .int .u64 1, .string ⟨#[]⟩, .slice none 0 0] 25)) hb2) (.cells #[.int .u8 6, .int .u64 1, .string ⟨#[]⟩, .slice none 0 0] 25))
 have HG1 := Aside0.mk HB1.out.size
 clear hb2
 go_wp2_with fail
 rename_i KK hKK
 obtain ⟨b1, hb1⟩ : ∃ b, w1.heap.size = b := ⟨_, rfl⟩
 obtain ⟨b2, hb2⟩ : ∃ b, w2.heap.size = b := ⟨_, rfl⟩
 obtain ⟨w3, hw3⟩ : ∃ W, w2.alloc (.cells #[.int .u8 6, .int .u64 1, .string ⟨#[]⟩, .slice none 0 0] 25) = W := ⟨_, rfl⟩
 rw [hb1] at bA HG1 ⊢
 rw [hb2] at bB ⊢
 rw [hw3] at bA bB HB2 ⊢
 clear hw3 hb1 hb2
 have HK : Aside0 (∀ (b3 : Nat) (A3 : Option Addr) (c3 : Nat) (sv : Value) (W : World), w.heap.size ≤ b3 → 4 ≤ c3 → Blk W b1 #[.int .u8 5, .int .u64 1, .string ⟨#[]⟩, .slice none 0 0] 25 → Blk W b2 #[.int .u8 6, .int .u64 1, .string ⟨#[]⟩, .slice none 0 0] 25 → Blk W b3 #[.int .u8 23, .int .u64 0, .string ⟨#[]⟩, .slice A3 4 c3] 25 → (∃ base ok, k25.R 25 W base ok (.slice A3 4 c3) [vOne, vNul, vBig, vTru]) → Below w.heap.size w W → KK { tmps := #[.bool false, .pointer (some ⟨b1, 0, none⟩), .pointer (some ⟨b2, 0, none⟩), .pointer (some ⟨b3, 0, none⟩), undef, undef, undef, .agg #[.int .u8 5, .int .u64 1, .string ⟨#[]⟩, .slice none 0 0], .agg #[.int .u8 6, .int .u64 1, .string ⟨#[]⟩, .slice none 0 0], .agg #[.int .u8 5, .int .u64 1, .string ⟨#[]⟩, .slice none 0 0], .agg #[.int .u8 1, .int .u64 0, .string ⟨#[]⟩, .slice none 0 0], .agg #[.int .u8 6, .int .u64 1, .string ⟨#[]⟩, .slice none 0 0], .agg #[.int .u8 2, .int .u64 1, .string ⟨#[]⟩, .slice none 0 0], sv, .agg #[.int .u8 23, .int .u64 0, .string ⟨#[]⟩, .slice A3 4 c3], undef, undef, undef, undef, undef, undef, undef, undef, undef, undef, undef, undef, undef, undef, undef, undef, undef, undef, undef, undef, undef, undef, undef, undef, undef, undef, undef, undef, undef, undef, undef, undef, undef, undef, undef, undef, undef, undef, undef, undef, undef, undef, undef, undef, undef, undef, undef, undef, undef, undef, undef, undef, undef, undef, undef], defers := [] } W) := ⟨by
  intro b3 A3 c3 sv W hb3 hc3 bA bB b3M hC hB
  refine hKK _ _ ?_
  obtain ⟨base, ok, hR⟩ := hC
  obtain ⟨-, -, hC⟩ := Kd.R_reads' hR
  have HB := Aside0.mk hB
  have HC := Aside0.mk hC
  obtain ⟨p0, p1, p2, p3⟩ := bA.c4
  obtain ⟨q0, q1, q2, q3⟩ := bB.c4
  obtain ⟨r0, r1, r2, r3⟩ := b3M.c4
  clear hR hB hC hKK
  go_wp2_with fail
  refine (get36_any vMap vBig w_m5 A3 none c3 0 _ HC.out hc3 (C_none _) (Nat.le_refl _)).mono ?_
  rintro e w5 ⟨A4, c4, he, hm⟩
  rw [w_getR, w_get] at he
  have he' : e = .returned (.tuple #[.agg #[.int .u8 2, .int .u64 1, .string ⟨#[]⟩, .slice A4 0 c4], .bool true]) := he
  subst he'
  clear he
  have bA5 := bA.below hm.2
  have bB5 := bB.below hm.2
  have b35 := b3M.below hm.2
  have HB5 := Aside0.mk (below_step HB.out hm.2)
  have HC5 := Aside0.mk (Kd.C_below HC.out hm.2)
  have hx5 : k25.C w5 A4 0 [] := by
   have h0 := hm.1
   rw [w_getR] at h0
   exact (Kd.R_reads' h0).2.2
  clear p0 p1 p2 p3 q0 q1 q2 q3 r0 r1 r2 r3 hm
  have bA6 := bA5.alloc (.cells #[.int .u8 2, .int .u64 1, .string ⟨#[]⟩, .slice A4 0 c4] 25)
  have bB6 := bB5.alloc (.cells #[.int .u8 2, .int .u64 1, .string ⟨#[]⟩, .slice A4 0 c4] 25)
  have b36 := b35.alloc (.cells #[.int .u8 2, .int .u64 1, .string ⟨#[]⟩, .slice A4 0 c4] 25)
  have b46 := Blk.new w5 #[.int .u8 2, .int .u64 1, .string ⟨#[]⟩, .slice A4 0 c4] 25
  have HB6 := Aside0.mk (below_alloc HB5.out (.cells #[.int .u8 2, .int .u64 1, .string ⟨#[]⟩, .slice A4 0 c4] 25))
  have HG6 := Aside0.mk HB5.out.size
  have HC6 := Aside0.mk (Kd.C_below HC5.out (below_alloc (Below.refl _ _) (.cells #[.int .u8 2, .int .u64 1, .string ⟨#[]⟩, .slice A4 0 c4] 25)))
  have HX6 := Aside0.mk (Kd.C_below hx5 (below_alloc (Below.refl _ _) (.cells #[.int .u8 2, .int .u64 1, .string ⟨#[]⟩, .slice A4 0 c4] 25)))
  obtain ⟨p0, p1, p2, p3⟩ := bA6.c4
  go_wp2_with fail
  have bL := Blk.new (w5.alloc (.cells #[.int .u8 2, .int .u64 1, .string ⟨#[]⟩, .slice A4 0 c4] 25)) (flatK [⟨vOne, none, 0⟩, ⟨vOne, none, 0⟩, ⟨vOne, none, 0⟩, ⟨vOne, none, 0⟩]).toArray 25
  rw [World.size_alloc] at bL
  have hCb := C_lit (ks := [⟨vOne, none, 0⟩, ⟨vOne, none, 0⟩, ⟨vOne, none, 0⟩, ⟨vOne, none, 0⟩]) bL (by decide) (by
   intro q hq
   simp only [List.mem_cons, List.not_mem_nil, or_false] at hq
   rcases hq with rfl | rfl | rfl | rfl <;> exact ⟨C_none _, Nat.le_refl _⟩)
  refine (many21_any 23 [vOne, vOne, vOne, vOne] w_lb4 _ 4 _ hCb (by decide)).mono ?_
  rintro e w7 ⟨v6, rfl, hR7, hb7⟩
  obtain ⟨A6, c6, rfl, hc6, hCd⟩ := Kd.R_reads hR7
  have hba := below_alloc (Below.refl (w5.alloc (.cells #[.int .u8 2, .int .u64 1, .string ⟨#[]⟩, .slice A4 0 c4] 25)).heap.size (w5.alloc (.cells #[.int .u8 2, .int .u64 1, .string ⟨#[]⟩, .slice A4 0 c4] 25))) (.cells (flatK [⟨vOne, none, 0⟩, ⟨vOne, none, 0⟩, ⟨vOne, none, 0⟩, ⟨vOne, none, 0⟩]).toArray 25)
  have hba7 := below_step hba hb7
  have k1 := (bA6.below hba7).alloc (.cells #[.int .u8 23, .int .u64 0, .string ⟨#[]⟩, .slice A6 4 c6] 25)
  have k3 := (b36.below hba7).alloc (.cells #[.int .u8 23, .int .u64 0, .string ⟨#[]⟩, .slice A6 4 c6] 25)
  have k4 := (b46.below hba7).alloc (.cells #[.int .u8 23, .int .u64 0, .string ⟨#[]⟩, .slice A6 4 c6] 25)
  have k6 := Blk.new w7 #[.int .u8 23, .int .u64 0, .string ⟨#[]⟩, .slice A6 4 c6] 25
  have HB7 := below_step HB6.out hba7
  have HB8 := Aside0.mk (below_alloc HB7 (.cells #[.int .u8 23, .int .u64 0, .string ⟨#[]⟩, .slice A6 4 c6] 25))
  have hal := below_alloc (Below.refl w7.heap.size w7) (.cells #[.int .u8 23, .int .u64 0, .string ⟨#[]⟩, .slice A6 4 c6] 25)
  have HC8 := Aside0.mk (Kd.C_below (Kd.C_below HC6.out hba7) hal)
  have HX8 := Aside0.mk (Kd.C_below (Kd.C_below HX6.out hba7) hal)
  have HD8 := Aside0.mk (Kd.C_below hCd hal)
  clear p0 p1 p2 p3 hba hba7 hal hCd hb7 HB7 hCb bL
  go_wp2_with fail
  obtain ⟨b4, hb4⟩ : ∃ b, w5.heap.size = b := ⟨_, rfl⟩
  obtain ⟨b6, hb6⟩ : ∃ b, w7.heap.size = b := ⟨_, rfl⟩
  obtain ⟨w8, hw8⟩ : ∃ W, w7.alloc (.cells #[.int .u8 23, .int .u64 0, .string ⟨#[]⟩, .slice A6 4 c6] 25) = W := ⟨_, rfl⟩
  rw [hw8] at k1 k3 k4 k6 HB8 HC8 HX8 HD8 ⊢
  rw [hb4] at k4 ⊢
  rw [hb6] at k6 ⊢
  clear hw8 hb4 hb6
  refine start_ (n := 44) (S := fun w' => Blk w' b1 #[.int .u8 5, .int .u64 1, .string ⟨#[]⟩, .slice none 0 0] 25 ∧ Blk w' b3 #[.int .u8 23, .int .u64 0, .string ⟨#[]⟩, .slice A3 4 c3] 25 ∧ Blk w' b4 #[.int .u8 2, .int .u64 1, .string ⟨#[]⟩, .slice A4 0 c4] 25 ∧ Blk w' b6 #[.int .u8 23, .int .u64 0, .string ⟨#[]⟩, .slice A6 4 c6] 25) (ds := []) #[false, false, false, false, false, false, false, false, false, false, false, false, false, false, false, false, false, false, false, false, false, false, false, false, false, false, false, false, false, false, false, false, false, false, false, false, false, false, false, false, false, false, false, false] (by kernel_rfl) rfl rfl ⟨k1, k3, k4, k6⟩ (fun hS => ?_)
  have HB8 : Aside0 (Below w.heap.size w w8.drew) := ⟨below_drew HB8.out⟩
  have HC8 : Aside0 (k25.C w8.drew A3 4 [vOne, vNul, vBig, vTru]) := ⟨Kd.C_below HC8.out (below_drew (Below.refl _ _))⟩
  have HD8 : Aside0 (k25.C w8.drew A6 4 [vOne, vOne, vOne, vOne]) := ⟨Kd.C_below HD8.out (below_drew (Below.refl _ _))⟩
  have HX8 : Aside0 (k25.C w8.drew A4 0 []) := ⟨Kd.C_below HX8.out (below_drew (Below.refl _ _))⟩
  generalize w8.drew = w9 at HB8 HC8 HD8 HX8 hS ⊢
  clear k1 k3 k4 k6
  refine take_ (i := 0) (N := some 27) (v := .agg #[.int .u8 23, .int .u64 0, .string ⟨#[]⟩, .slice A3 4 c3]) #[true, false, false, false, false, false, false, false, false, false, false, false, false, false, false, false, false, false, false, false, false, false, false, false, false, false, false, false, false, false, false, false, false, false, false, false, false, false, false, false, false, false, false, false] rfl rfl (by kernel_rfl) (fun _ _ _ h => h) (Or.inl ⟨by rfl, ?_⟩) hS rfl ?_
  ·rintro w' ⟨h1, h3, h4, h6⟩
   obtain ⟨e0, e1, e2, e3⟩ := h3.c4
   go_simp
  refine norm_ (a' := ?_) ?_ ?_
  rotate_left
  ·try simp only [Act.put, putAll, List.setIfInBounds_toArray, List.set_cons_zero, List.set_cons_succ]
   rfl
  refine one_ (i := 1) (N := some 28) #[true, true, false, false, false, false, false, false, false, false, false, false, false, false, false, false, false, false, false, false, false, false, false, false, false, false, false, false, false, false, false, false, false, false, false, false, false, false, false, false, false, false, false, false] rfl rfl (by kernel_rfl) (by decide) (fun K hK => ?_)
  refine goes_ Try.func17 (by kernel_rfl) rfl #[.agg #[.int .u8 23, .int .u64 0, .string ⟨#[]⟩, .slice A3 4 c3]] (by rfl) rfl rfl (by (try simp only [List.map_toArray, List.map_cons, List.map_nil]); first | done | rfl) ?_
  refine (right17_any vMap w_m5 w_mo A3 c3 _ HC8.out hc3).mono ?_
  rintro e w901 ⟨he, hb901⟩
  rw [w_map] at he
  subst he
  refine ⟨_, rfl, ?_⟩
  have hS901 := hS
  replace hS901 := (⟨hS901.1.below hb901, hS901.2.1.below hb901, hS901.2.2.1.below hb901, hS901.2.2.2.below hb901⟩ : _ ∧ _ ∧ _ ∧ _)
  have HC901 := Aside0.mk (Kd.C_below HC8.out hb901)
  have HD901 := Aside0.mk (Kd.C_below HD8.out hb901)
  have HX901 := Aside0.mk (Kd.C_below HX8.out hb901)
  have HB901 := Aside0.mk (below_step HB8.out hb901)
  refine hK.out _ _ hS901 (fun _ => ?_)
  clear hK K hb901
  refine norm_ (a' := ?_) ?_ ?_
  rotate_left
  ·try simp only [Act.put, putAll, List.setIfInBounds_toArray, List.set_cons_zero, List.set_cons_succ]
   rfl
  refine pure_ (i := 2) (N := some 29) (v := ?_) (a' := ?_) #[true, true, true, false, false, false, false, false, false, false, false, false, false, false, false, false, false, false, false, false, false, false, false, false, false, false, false, false, false, false, false, false, false, false, false, false, false, false, false, false, false, false, false, false] rfl rfl (by kernel_rfl) (fun _ _ _ h => h) (Or.inl ⟨by rfl, ?_⟩) ?_ ?_
  rotate_left
  ·intro w'
   go_simp
   with_reducible rfl
  rotate_left
  ·simp only [Act.put, List.setIfInBounds_toArray, List.set_cons_zero, List.set_cons_succ, i64_w, i32_w]
   rfl
  refine take_ (i := 3) (N := some 30) (v := .agg #[.int .u8 23, .int .u64 0, .string ⟨#[]⟩, .slice A6 4 c6]) #[true, true, true, true, false, false, false, false, false, false, false, false, false, false, false, false, false, false, false, false, false, false, false, false, false, false, false, false, false, false, false, false, false, false, false, false, false, false, false, false, false, false, false, false] rfl rfl (by kernel_rfl) (fun _ _ _ h => h) (Or.inl ⟨by rfl, ?_⟩) hS901 rfl ?_
  ·rintro w' ⟨h1, h3, h4, h6⟩
   obtain ⟨e0, e1, e2, e3⟩ := h6.c4
   go_simp
  refine norm_ (a' := ?_) ?_ ?_
  rotate_left
  ·try simp only [Act.put, putAll, List.setIfInBounds_toArray, List.set_cons_zero, List.set_cons_succ]
   rfl
  refine one_ (i := 4) (N := some 31) #[true, true, true, true, true, false, false, false, false, false, false, false, false, false, false, false, false, false, false, false, false, false, false, false, false, false, false, false, false, false, false, false, false, false, false, false, false, false, false, false, false, false, false, false] rfl rfl (by kernel_rfl) (by decide) (fun K hK => ?_)
  refine goes_ Try.func17 (by kernel_rfl) rfl #[.agg #[.int .u8 23, .int .u64 0, .string ⟨#[]⟩, .slice A6 4 c6]] (by rfl) rfl rfl (by (try simp only [List.map_toArray, List.map_cons, List.map_nil]); first | done | rfl) ?_
  refine (right17_any vBad w_b5 w_bo A6 c6 _ HD901.out hc6).mono ?_
  rintro e w902 ⟨he, hb902⟩
  rw [w_bad] at he
  subst he
  refine ⟨_, rfl, ?_⟩
  have hS902 := hS901
  replace hS902 := (⟨hS902.1.below hb902, hS902.2.1.below hb902, hS902.2.2.1.below hb902, hS902.2.2.2.below hb902⟩ : _ ∧ _ ∧ _ ∧ _)
  have HC902 := Aside0.mk (Kd.C_below HC901.out hb902)
  have HD902 := Aside0.mk (Kd.C_below HD901.out hb902)
  have HX902 := Aside0.mk (Kd.C_below HX901.out hb902)
  have HB902 := Aside0.mk (below_step HB901.out hb902)
  refine hK.out _ _ hS902 (fun _ => ?_)
  clear hK K hb902
  refine norm_ (a' := ?_) ?_ ?_
  rotate_left
  ·try simp only [Act.put, putAll, List.setIfInBounds_toArray, List.set_cons_zero, List.set_cons_succ]
   rfl
  refine pure_ (i := 5) (N := some 32) (v := ?_) (a' := ?_) #[true, true, true, true, true, true, false, false, false, false, false, false, false, false, false, false, false, false, false, false, false, false, false, false, false, false, false, false, false, false, false, false, false, false, false, false, false, false, false, false, false, false, false, false] rfl rfl (by kernel_rfl) (fun _ _ _ h => h) (Or.inl ⟨by rfl, ?_⟩) ?_ ?_
  rotate_left
  ·intro w'
   go_simp
   with_reducible rfl
  rotate_left
  ·simp only [Act.put, List.setIfInBounds_toArray, List.set_cons_zero, List.set_cons_succ, i64_w, i32_w]
   rfl
  refine pure_ (i := 6) (N := some 33) (v := ?_) (a' := ?_) #[true, true, true, true, true, true, true, false, false, false, false, false, false, false, false, false, false, false, false, false, false, false, false, false, false, false, false, false, false, false, false, false, false, false, false, false, false, false, false, false, false, false, false, false] rfl rfl (by kernel_rfl) (fun _ _ _ h => h) (Or.inl ⟨by rfl, ?_⟩) ?_ ?_
  rotate_left
  ·intro w'
   go_simp
   with_reducible rfl
  rotate_left
  ·simp only [Act.put, List.setIfInBounds_toArray, List.set_cons_zero, List.set_cons_succ, i64_w, i32_w]
   rfl
  refine pure_ (i := 7) (N := some 34) (v := ?_) (a' := ?_) #[true, true, true, true, true, true, true, true, false, false, false, false, false, false, false, false, false, false, false, false, false, false, false, false, false, false, false, false, false, false, false, false, false, false, false, false, false, false, false, false, false, false, false, false] rfl rfl (by kernel_rfl) (fun _ _ _ h => h) (Or.inl ⟨by rfl, ?_⟩) ?_ ?_
  rotate_left
  ·intro w'
   go_simp
   with_reducible rfl
  rotate_left
  ·simp only [Act.put, List.setIfInBounds_toArray, List.set_cons_zero, List.set_cons_succ, i64_w, i32_w]
   rfl
  refine one_ (i := 8) (N := some 35) #[true, true, true, true, true, true, true, true, true, false, false, false, false, false, false, false, false, false, false, false, false, false, false, false, false, false, false, false, false, false, false, false, false, false, false, false, false, false, false, false, false, false, false, false] rfl rfl (by kernel_rfl) (by decide) (fun K hK => ?_)
  refine goes_ Try.func23 (by kernel_rfl) rfl #[.int .u8 3, .int .u64 300] (by rfl) rfl rfl (by (try simp only [List.map_toArray, List.map_cons, List.map_nil]); first | done | rfl) ?_
  refine (number23_any 3 300 _).mono ?_
  rintro e w903 ⟨rfl, hb903⟩
  refine ⟨_, rfl, ?_⟩
  have hS903 := hS902
  replace hS903 := (⟨hS903.1.below hb903, hS903.2.1.below hb903, hS903.2.2.1.below hb903, hS903.2.2.2.below hb903⟩ : _ ∧ _ ∧ _ ∧ _)
  have HC903 := Aside0.mk (Kd.C_below HC902.out hb903)
  have HD903 := Aside0.mk (Kd.C_below HD902.out hb903)
  have HX903 := Aside0.mk (Kd.C_below HX902.out hb903)
  have HB903 := Aside0.mk (below_step HB902.out hb903)
  refine hK.out _ _ hS903 (fun _ => ?_)
  clear hK K hb903
  refine norm_ (a' := ?_) ?_ ?_
  rotate_left
  ·try simp only [Act.put, putAll, List.setIfInBounds_toArray, List.set_cons_zero, List.set_cons_succ]
   rfl
  refine one_ (i := 9) (N := some 36) #[true, true, true, true, true, true, true, true, true, true, false, false, false, false, false, false, false, false, false, false, false, false, false, false, false, false, false, false, false, false, false, false, false, false, false, false, false, false, false, false, false, false, false, false] rfl rfl (by kernel_rfl) (by decide) (fun K hK => ?_)
  refine goes_ Try.func17 (by kernel_rfl) rfl #[.agg #[.int .u8 3, .int .u64 300, .string ⟨#[]⟩, .slice none 0 0]] (by rfl) rfl rfl (by (try simp only [List.map_toArray, List.map_cons, List.map_nil]); first | done | rfl) ?_
  refine (right17_any vByt w_y1 w_yo none 0 _ (C_none _) (Nat.le_refl _)).mono ?_
  rintro e w904 ⟨he, hb904⟩
  rw [w_byt] at he
  subst he
  refine ⟨_, rfl, ?_⟩
  have hS904 := hS903
  replace hS904 := (⟨hS904.1.below hb904, hS904.2.1.below hb904, hS904.2.2.1.below hb904, hS904.2.2.2.below hb904⟩ : _ ∧ _ ∧ _ ∧ _)
  have HC904 := Aside0.mk (Kd.C_below HC903.out hb904)
  have HD904 := Aside0.mk (Kd.C_below HD903.out hb904)
  have HX904 := Aside0.mk (Kd.C_below HX903.out hb904)
  have HB904 := Aside0.mk (below_step HB903.out hb904)
  refine hK.out _ _ hS904 (fun _ => ?_)
  clear hK K hb904
  refine norm_ (a' := ?_) ?_ ?_
  rotate_left
  ·try simp only [Act.put, putAll, List.setIfInBounds_toArray, List.set_cons_zero, List.set_cons_succ]
   rfl
  refine pure_ (i := 10) (N := some 37) (v := ?_) (a' := ?_) #[true, true, true, true, true, true, true, true, true, true, true, false, false, false, false, false, false, false, false, false, false, false, false, false, false, false, false, false, false, false, false, false, false, false, false, false, false, false, false, false, false, false, false, false] rfl rfl (by kernel_rfl) (fun _ _ _ h => h) (Or.inl ⟨by rfl, ?_⟩) ?_ ?_
  rotate_left
  ·intro w'
   go_simp
   with_reducible rfl
  rotate_left
  ·simp only [Act.put, List.setIfInBounds_toArray, List.set_cons_zero, List.set_cons_succ, i64_w, i32_w]
   rfl
  refine pure_ (i := 11) (N := some 38) (v := ?_) (a' := ?_) #[true, true, true, true, true, true, true, true, true, true, true, true, false, false, false, false, false, false, false, false, false, false, false, false, false, false, false, false, false, false, false, false, false, false, false, false, false, false, false, false, false, false, false, false] rfl rfl (by kernel_rfl) (fun _ _ _ h => h) (Or.inl ⟨by rfl, ?_⟩) ?_ ?_
  rotate_left
  ·intro w'
   go_simp
   with_reducible rfl
  rotate_left
  ·simp only [Act.put, List.setIfInBounds_toArray, List.set_cons_zero, List.set_cons_succ, i64_w, i32_w]
   rfl
  refine pure_ (i := 12) (N := some 39) (v := ?_) (a' := ?_) #[true, true, true, true, true, true, true, true, true, true, true, true, true, false, false, false, false, false, false, false, false, false, false, false, false, false, false, false, false, false, false, false, false, false, false, false, false, false, false, false, false, false, false, false] rfl rfl (by kernel_rfl) (fun _ _ _ h => h) (Or.inl ⟨by rfl, ?_⟩) ?_ ?_
  rotate_left
  ·intro w'
   go_simp
   with_reducible rfl
  rotate_left
  ·simp only [Act.put, List.setIfInBounds_toArray, List.set_cons_zero, List.set_cons_succ, i64_w, i32_w]
   rfl
  refine pure_ (i := 13) (N := some 40) (v := ?_) (a' := ?_) #[true, true, true, true, true, true, true, true, true, true, true, true, true, true, false, false, false, false, false, false, false, false, false, false, false, false, false, false, false, false, false, false, false, false, false, false, false, false, false, false, false, false, false, false] rfl rfl (by kernel_rfl) (fun _ _ _ h => h) (Or.inl ⟨by rfl, ?_⟩) ?_ ?_
  rotate_left
  ·intro w'
   go_simp
   with_reducible rfl
  rotate_left
  ·simp only [Act.put, List.setIfInBounds_toArray, List.set_cons_zero, List.set_cons_succ, i64_w, i32_w]
   rfl
  refine pure_ (i := 14) (N := some 41) (v := ?_) (a' := ?_) #[true, true, true, true, true, true, true, true, true, true, true, true, true, true, true, false, false, false, false, false, false, false, false, false, false, false, false, false, false, false, false, false, false, false, false, false, false, false, false, false, false, false, false, false] rfl rfl (by kernel_rfl) (fun _ _ _ h => h) (Or.inl ⟨by rfl, ?_⟩) ?_ ?_
  rotate_left
  ·intro w'
   go_simp
   with_reducible rfl
  rotate_left
  ·simp only [Act.put, List.setIfInBounds_toArray, List.set_cons_zero, List.set_cons_succ, i64_w, i32_w]
   rfl
  refine pure_ (i := 15) (N := some 42) (v := ?_) (a' := ?_) #[true, true, true, true, true, true, true, true, true, true, true, true, true, true, true, true, false, false, false, false, false, false, false, false, false, false, false, false, false, false, false, false, false, false, false, false, false, false, false, false, false, false, false, false] rfl rfl (by kernel_rfl) (fun _ _ _ h => h) (Or.inl ⟨by rfl, ?_⟩) ?_ ?_
  rotate_left
  ·intro w'
   go_simp
   with_reducible rfl
  rotate_left
  ·simp only [Act.put, List.setIfInBounds_toArray, List.set_cons_zero, List.set_cons_succ, i64_w, i32_w]
   rfl
  refine take_ (i := 16) (N := some 43) (v := .agg #[.int .u8 2, .int .u64 1, .string ⟨#[]⟩, .slice A4 0 c4]) #[true, true, true, true, true, true, true, true, true, true, true, true, true, true, true, true, true, false, false, false, false, false, false, false, false, false, false, false, false, false, false, false, false, false, false, false, false, false, false, false, false, false, false, false] rfl rfl (by kernel_rfl) (fun _ _ _ h => h) (Or.inl ⟨by rfl, ?_⟩) hS904 rfl ?_
  ·rintro w' ⟨h1, h3, h4, h6⟩
   obtain ⟨e0, e1, e2, e3⟩ := h4.c4
   go_simp
  refine norm_ (a' := ?_) ?_ ?_
  rotate_left
  ·try simp only [Act.put, putAll, List.setIfInBounds_toArray, List.set_cons_zero, List.set_cons_succ]
   rfl
  refine one_ (i := 17) (N := some 44) #[true, true, true, true, true, true, true, true, true, true, true, true, true, true, true, true, true, true, false, false, false, false, false, false, false, false, false, false, false, false, false, false, false, false, false, false, false, false, false, false, false, false, false, false] rfl rfl (by kernel_rfl) (by decide) (fun K hK => ?_)
  refine goes_ Try.func27 (by kernel_rfl) rfl #[.bool true] (by rfl) rfl rfl (by (try simp only [List.map_toArray, List.map_cons, List.map_nil]); first | done | rfl) ?_
  refine (bool27_any true _).mono ?_
  rintro e w905 ⟨rfl, hb905⟩
  refine ⟨_, rfl, ?_⟩
  have hS905 := hS904
  replace hS905 := (⟨hS905.1.below hb905, hS905.2.1.below hb905, hS905.2.2.1.below hb905, hS905.2.2.2.below hb905⟩ : _ ∧ _ ∧ _ ∧ _)
  have HC905 := Aside0.mk (Kd.C_below HC904.out hb905)
  have HD905 := Aside0.mk (Kd.C_below HD904.out hb905)
  have HX905 := Aside0.mk (Kd.C_below HX904.out hb905)
  have HB905 := Aside0.mk (below_step HB904.out hb905)
  refine hK.out _ _ hS905 (fun _ => ?_)
  clear hK K hb905
  refine norm_ (a' := ?_) ?_ ?_
  rotate_left
  ·try simp only [Act.put, putAll, List.setIfInBounds_toArray, List.set_cons_zero, List.set_cons_succ]
   rfl
  refine one_ (i := 18) (N := some 45) #[true, true, true, true, true, true, true, true, true, true, true, true, true, true, true, true, true, true, true, false, false, false, false, false, false, false, false, false, false, false, false, false, false, false, false, false, false, false, false, false, false, false, false, false] rfl rfl (by kernel_rfl) (by decide) (fun K hK => ?_)
  refine goes_ Try.func22 (by kernel_rfl) rfl #[.agg #[.int .u8 2, .int .u64 1, .string ⟨#[]⟩, .slice A4 0 c4], .agg #[.int .u8 2, .int .u64 1, .string ⟨#[]⟩, .slice none 0 0]] (by rfl) rfl rfl (by (try simp only [List.map_toArray, List.map_cons, List.map_nil]); first | done | rfl) ?_
  refine (same_any vTru vTru A4 none c4 0 _ HX905.out (Nat.zero_le _) (C_none _) (Nat.le_refl _)).mono ?_
  rintro e w906 ⟨he, hb906⟩
  rw [w_same] at he
  subst he
  refine ⟨_, rfl, ?_⟩
  have hS906 := hS905
  replace hS906 := (⟨hS906.1.below hb906, hS906.2.1.below hb906, hS906.2.2.1.below hb906, hS906.2.2.2.below hb906⟩ : _ ∧ _ ∧ _ ∧ _)
  have HC906 := Aside0.mk (Kd.C_below HC905.out hb906)
  have HD906 := Aside0.mk (Kd.C_below HD905.out hb906)
  have HX906 := Aside0.mk (Kd.C_below HX905.out hb906)
  have HB906 := Aside0.mk (below_step HB905.out hb906)
  refine hK.out _ _ hS906 (fun _ => ?_)
  clear hK K hb906
  refine norm_ (a' := ?_) ?_ ?_
  rotate_left
  ·try simp only [Act.put, putAll, List.setIfInBounds_toArray, List.set_cons_zero, List.set_cons_succ]
   rfl
  refine pure_ (i := 19) (N := some 46) (v := ?_) (a' := ?_) #[true, true, true, true, true, true, true, true, true, true, true, true, true, true, true, true, true, true, true, true, false, false, false, false, false, false, false, false, false, false, false, false, false, false, false, false, false, false, false, false, false, false, false, false] rfl rfl (by kernel_rfl) (fun _ _ _ h => h) (Or.inl ⟨by rfl, ?_⟩) ?_ ?_
  rotate_left
  ·intro w'
   go_simp
   with_reducible rfl
  rotate_left
  ·simp only [Act.put, List.setIfInBounds_toArray, List.set_cons_zero, List.set_cons_succ, i64_w, i32_w]
   rfl
  refine pure_ (i := 20) (N := some 47) (v := ?_) (a' := ?_) #[true, true, true, true, true, true, true, true, true, true, true, true, true, true, true, true, true, true, true, true, true, false, false, false, false, false, false, false, false, false, false, false, false, false, false, false, false, false, false, false, false, false, false, false] rfl rfl (by kernel_rfl) (fun _ _ _ h => h) (Or.inl ⟨by rfl, ?_⟩) ?_ ?_
  rotate_left
  ·intro w'
   go_simp
   with_reducible rfl
  rotate_left
  ·simp only [Act.put, List.setIfInBounds_toArray, List.set_cons_zero, List.set_cons_succ, i64_w, i32_w]
   rfl
  refine take_ (i := 21) (N := some 48) (v := .agg #[.int .u8 23, .int .u64 0, .string ⟨#[]⟩, .slice A3 4 c3]) #[true, true, true, true, true, true, true, true, true, true, true, true, true, true, true, true, true, true, true, true, true, true, false, false, false, false, false, false, false, false, false, false, false, false, false, false, false, false, false, false, false, false, false, false] rfl rfl (by kernel_rfl) (fun _ _ _ h => h) (Or.inl ⟨by rfl, ?_⟩) hS906 rfl ?_
  ·rintro w' ⟨h1, h3, h4, h6⟩
   obtain ⟨e0, e1, e2, e3⟩ := h3.c4
   go_simp
  refine norm_ (a' := ?_) ?_ ?_
  rotate_left
  ·try simp only [Act.put, putAll, List.setIfInBounds_toArray, List.set_cons_zero, List.set_cons_succ]
   rfl
  refine one_ (i := 22) (N := some 49) #[true, true, true, true, true, true, true, true, true, true, true, true, true, true, true, true, true, true, true, true, true, true, true, false, false, false, false, false, false, false, false, false, false, false, false, false, false, false, false, false, false, false, false, false] rfl rfl (by kernel_rfl) (by decide) (fun K hK => ?_)
  refine goes_ Try.func34 (by kernel_rfl) rfl #[.agg #[.int .u8 23, .int .u64 0, .string ⟨#[]⟩, .slice A3 4 c3]] (by rfl) rfl rfl (by (try simp only [List.map_toArray, List.map_cons, List.map_nil]); first | done | rfl) ?_
  refine (items34_any vMap w_m5 A3 c3 _ HC906.out hc3).mono ?_
  rintro e w907 ⟨he, hb907⟩
  rw [w_items] at he
  subst he
  refine ⟨_, rfl, ?_⟩
  have hS907 := hS906
  replace hS907 := (⟨hS907.1.below hb907, hS907.2.1.below hb907, hS907.2.2.1.below hb907, hS907.2.2.2.below hb907⟩ : _ ∧ _ ∧ _ ∧ _)
  have HC907 := Aside0.mk (Kd.C_below HC906.out hb907)
  have HD907 := Aside0.mk (Kd.C_below HD906.out hb907)
  have HX907 := Aside0.mk (Kd.C_below HX906.out hb907)
  have HB907 := Aside0.mk (below_step HB906.out hb907)
  refine hK.out _ _ hS907 (fun _ => ?_)
  clear hK K hb907
  refine norm_ (a' := ?_) ?_ ?_
  rotate_left
  ·try simp only [Act.put, putAll, List.setIfInBounds_toArray, List.set_cons_zero, List.set_cons_succ]
   rfl
  refine pure_ (i := 23) (N := some 50) (v := ?_) (a' := ?_) #[true, true, true, true, true, true, true, true, true, true, true, true, true, true, true, true, true, true, true, true, true, true, true, true, false, false, false, false, false, false, false, false, false, false, false, false, false, false, false, false, false, false, false, false] rfl rfl (by kernel_rfl) (fun _ _ _ h => h) (Or.inl ⟨by rfl, ?_⟩) ?_ ?_
  rotate_left
  ·intro w'
   go_simp
   with_reducible rfl
  rotate_left
  ·simp only [Act.put, List.setIfInBounds_toArray, List.set_cons_zero, List.set_cons_succ, i64_w, i32_w]
   rfl
  refine pure_ (i := 24) (N := some 51) (v := ?_) (a' := ?_) #[true, true, true, true, true, true, true, true, true, true, true, true, true, true, true, true, true, true, true, true, true, true, true, true, true, false, false, false, false, false, false, false, false, false, false, false, false, false, false, false, false, false, false, false] rfl rfl (by kernel_rfl) (fun _ _ _ h => h) (Or.inl ⟨by rfl, ?_⟩) ?_ ?_
  rotate_left
  ·intro w'
   go_simp
   with_reducible rfl
  rotate_left
  ·simp only [Act.put, List.setIfInBounds_toArray, List.set_cons_zero, List.set_cons_succ, i64_w, i32_w]
   rfl
  refine pure_ (i := 25) (N := some 52) (v := ?_) (a' := ?_) #[true, true, true, true, true, true, true, true, true, true, true, true, true, true, true, true, true, true, true, true, true, true, true, true, true, true, false, false, false, false, false, false, false, false, false, false, false, false, false, false, false, false, false, false] rfl rfl (by kernel_rfl) (fun _ _ _ h => h) (Or.inl ⟨by rfl, ?_⟩) ?_ ?_
  rotate_left
  ·intro w'
   go_simp
   with_reducible rfl
  rotate_left
  ·simp only [Act.put, List.setIfInBounds_toArray, List.set_cons_zero, List.set_cons_succ, i64_w, i32_w]
   rfl
  refine take_ (i := 26) (N := some 53) (v := .agg #[.int .u8 23, .int .u64 0, .string ⟨#[]⟩, .slice A3 4 c3]) #[true, true, true, true, true, true, true, true, true, true, true, true, true, true, true, true, true, true, true, true, true, true, true, true, true, true, true, false, false, false, false, false, false, false, false, false, false, false, false, false, false, false, false, false] rfl rfl (by kernel_rfl) (fun _ _ _ h => h) (Or.inl ⟨by rfl, ?_⟩) hS907 rfl ?_
  ·rintro w' ⟨h1, h3, h4, h6⟩
   obtain ⟨e0, e1, e2, e3⟩ := h3.c4
   go_simp
  refine norm_ (a' := ?_) ?_ ?_
  rotate_left
  ·try simp only [Act.put, putAll, List.setIfInBounds_toArray, List.set_cons_zero, List.set_cons_succ]
   rfl
  refine one_ (i := 27) (N := some 54) #[true, true, true, true, true, true, true, true, true, true, true, true, true, true, true, true, true, true, true, true, true, true, true, true, true, true, true, true, false, false, false, false, false, false, false, false, false, false, false, false, false, false, false, false] rfl rfl (by kernel_rfl) (by decide) (fun K hK => ?_)
  refine goes_ Try.func32 (by kernel_rfl) rfl #[.agg #[.int .u8 23, .int .u64 0, .string ⟨#[]⟩, .slice A3 4 c3]] (by rfl) rfl rfl (by (try simp only [List.map_toArray, List.map_cons, List.map_nil]); first | done | rfl) ?_
  refine (depth32_any vMap w_m5 A3 c3 _ HC907.out hc3).mono ?_
  rintro e w908 ⟨he, hb908⟩
  rw [w_depth] at he
  subst he
  refine ⟨_, rfl, ?_⟩
  have hS908 := hS907
  replace hS908 := (⟨hS908.1.below hb908, hS908.2.1.below hb908, hS908.2.2.1.below hb908, hS908.2.2.2.below hb908⟩ : _ ∧ _ ∧ _ ∧ _)
  have HC908 := Aside0.mk (Kd.C_below HC907.out hb908)
  have HD908 := Aside0.mk (Kd.C_below HD907.out hb908)
  have HX908 := Aside0.mk (Kd.C_below HX907.out hb908)
  have HB908 := Aside0.mk (below_step HB907.out hb908)
  refine hK.out _ _ hS908 (fun _ => ?_)
  clear hK K hb908
  refine norm_ (a' := ?_) ?_ ?_
  rotate_left
  ·try simp only [Act.put, putAll, List.setIfInBounds_toArray, List.set_cons_zero, List.set_cons_succ]
   rfl
  refine pure_ (i := 28) (N := some 55) (v := ?_) (a' := ?_) #[true, true, true, true, true, true, true, true, true, true, true, true, true, true, true, true, true, true, true, true, true, true, true, true, true, true, true, true, true, false, false, false, false, false, false, false, false, false, false, false, false, false, false, false] rfl rfl (by kernel_rfl) (fun _ _ _ h => h) (Or.inl ⟨by rfl, ?_⟩) ?_ ?_
  rotate_left
  ·intro w'
   go_simp
   with_reducible rfl
  rotate_left
  ·simp only [Act.put, List.setIfInBounds_toArray, List.set_cons_zero, List.set_cons_succ, i64_w, i32_w]
   rfl
  refine pure_ (i := 29) (N := some 56) (v := ?_) (a' := ?_) #[true, true, true, true, true, true, true, true, true, true, true, true, true, true, true, true, true, true, true, true, true, true, true, true, true, true, true, true, true, true, false, false, false, false, false, false, false, false, false, false, false, false, false, false] rfl rfl (by kernel_rfl) (fun _ _ _ h => h) (Or.inl ⟨by rfl, ?_⟩) ?_ ?_
  rotate_left
  ·intro w'
   go_simp
   with_reducible rfl
  rotate_left
  ·simp only [Act.put, List.setIfInBounds_toArray, List.set_cons_zero, List.set_cons_succ, i64_w, i32_w]
   rfl
  refine pure_ (i := 30) (N := some 57) (v := ?_) (a' := ?_) #[true, true, true, true, true, true, true, true, true, true, true, true, true, true, true, true, true, true, true, true, true, true, true, true, true, true, true, true, true, true, true, false, false, false, false, false, false, false, false, false, false, false, false, false] rfl rfl (by kernel_rfl) (fun _ _ _ h => h) (Or.inl ⟨by rfl, ?_⟩) ?_ ?_
  rotate_left
  ·intro w'
   go_simp
   with_reducible rfl
  rotate_left
  ·simp only [Act.put, List.setIfInBounds_toArray, List.set_cons_zero, List.set_cons_succ, i64_w, i32_w]
   rfl
  refine take_ (i := 32) (N := some 59) (v := .agg #[.int .u8 5, .int .u64 1, .string ⟨#[]⟩, .slice none 0 0]) #[true, true, true, true, true, true, true, true, true, true, true, true, true, true, true, true, true, true, true, true, true, true, true, true, true, true, true, true, true, true, true, false, true, false, false, false, false, false, false, false, false, false, false, false] rfl rfl (by kernel_rfl) (fun _ _ _ h => h) (Or.inl ⟨by rfl, ?_⟩) hS908 rfl ?_
  ·rintro w' ⟨h1, h3, h4, h6⟩
   obtain ⟨e0, e1, e2, e3⟩ := h1.c4
   go_simp
  refine norm_ (a' := ?_) ?_ ?_
  rotate_left
  ·try simp only [Act.put, putAll, List.setIfInBounds_toArray, List.set_cons_zero, List.set_cons_succ]
   rfl
  refine one_ (i := 31) (N := some 58) #[true, true, true, true, true, true, true, true, true, true, true, true, true, true, true, true, true, true, true, true, true, true, true, true, true, true, true, true, true, true, true, true, true, false, false, false, false, false, false, false, false, false, false, false] rfl rfl (by kernel_rfl) (by decide) (fun K hK => ?_)
  refine goes_ Try.func24 (by kernel_rfl) rfl #[.int .u8 21, .string ⟨#[97]⟩] (by rfl) rfl rfl (by (try simp only [List.map_toArray, List.map_cons, List.map_nil]); first | done | rfl) ?_
  refine (text24_any 21 ⟨#[97]⟩ _).mono ?_
  rintro e w909 ⟨rfl, hb909⟩
  refine ⟨_, rfl, ?_⟩
  have hS909 := hS908
  replace hS909 := (⟨hS909.1.below hb909, hS909.2.1.below hb909, hS909.2.2.1.below hb909, hS909.2.2.2.below hb909⟩ : _ ∧ _ ∧ _ ∧ _)
  have HC909 := Aside0.mk (Kd.C_below HC908.out hb909)
  have HD909 := Aside0.mk (Kd.C_below HD908.out hb909)
  have HX909 := Aside0.mk (Kd.C_below HX908.out hb909)
  have HB909 := Aside0.mk (below_step HB908.out hb909)
  refine hK.out _ _ hS909 (fun _ => ?_)
  clear hK K hb909
  refine norm_ (a' := ?_) ?_ ?_
  rotate_left
  ·try simp only [Act.put, putAll, List.setIfInBounds_toArray, List.set_cons_zero, List.set_cons_succ]
   rfl
  refine one_ (i := 33) (N := some 60) #[true, true, true, true, true, true, true, true, true, true, true, true, true, true, true, true, true, true, true, true, true, true, true, true, true, true, true, true, true, true, true, true, true, true, false, false, false, false, false, false, false, false, false, false] rfl rfl (by kernel_rfl) (by decide) (fun K hK => ?_)
  refine goes_ Try.func28 (by kernel_rfl) rfl #[.agg #[.int .u8 21, .int .u64 0, .string ⟨#[97]⟩, .slice none 0 0], .agg #[.int .u8 5, .int .u64 1, .string ⟨#[]⟩, .slice none 0 0]] (by rfl) rfl rfl (by (try simp only [List.map_toArray, List.map_cons, List.map_nil]); first | done | rfl) ?_
  refine (desc28_any vSym vOne w_d2 none none 0 0 _ (C_none _) (Nat.le_refl _) (C_none _) (Nat.le_refl _)).mono ?_
  rintro e w910 ⟨v910, rfl, hR910, hb910⟩
  obtain ⟨Ad910, cd910, rfl, hcd910, hCd910⟩ := Kd.R_reads hR910
  refine ⟨_, rfl, ?_⟩
  have hS910 := hS909
  replace hS910 := (⟨hS910.1.below hb910, hS910.2.1.below hb910, hS910.2.2.1.below hb910, hS910.2.2.2.below hb910⟩ : _ ∧ _ ∧ _ ∧ _)
  have HC910 := Aside0.mk (Kd.C_below HC909.out hb910)
  have HD910 := Aside0.mk (Kd.C_below HD909.out hb910)
  have HX910 := Aside0.mk (Kd.C_below HX909.out hb910)
  have HB910 := Aside0.mk (below_step HB909.out hb910)
  refine hK.out _ _ hS910 (fun _ => ?_)
  clear hK K hb910
  refine norm_ (a' := ?_) ?_ ?_
  rotate_left
  ·try simp only [Act.put, putAll, List.setIfInBounds_toArray, List.set_cons_zero, List.set_cons_succ]
   rfl
  refine one_ (i := 34) (N := some 61) #[true, true, true, true, true, true, true, true, true, true, true, true, true, true, true, true, true, true, true, true, true, true, true, true, true, true, true, true, true, true, true, true, true, true, true, false, false, false, false, false, false, false, false, false] rfl rfl (by kernel_rfl) (by decide) (fun K hK => ?_)
  refine goes_ Try.func17 (by kernel_rfl) rfl #[.agg #[.int .u8 25, .int .u64 0, .string ⟨#[]⟩, .slice Ad910 2 cd910]] (by rfl) rfl rfl (by (try simp only [List.map_toArray, List.map_cons, List.map_nil]); first | done | rfl) ?_
  refine (right17_any vDsc w_d3 w_do Ad910 cd910 _ hCd910 hcd910).mono ?_
  rintro e w911 ⟨he, hb911⟩
  rw [w_dsc] at he
  subst he
  refine ⟨_, rfl, ?_⟩
  have hS911 := hS910
  replace hS911 := (⟨hS911.1.below hb911, hS911.2.1.below hb911, hS911.2.2.1.below hb911, hS911.2.2.2.below hb911⟩ : _ ∧ _ ∧ _ ∧ _)
  have HC911 := Aside0.mk (Kd.C_below HC910.out hb911)
  have HD911 := Aside0.mk (Kd.C_below HD910.out hb911)
  have HX911 := Aside0.mk (Kd.C_below HX910.out hb911)
  have HB911 := Aside0.mk (below_step HB910.out hb911)
  refine hK.out _ _ hS911 (fun _ => ?_)
  clear hK K hb911
  refine norm_ (a' := ?_) ?_ ?_
  rotate_left
  ·try simp only [Act.put, putAll, List.setIfInBounds_toArray, List.set_cons_zero, List.set_cons_succ]
   rfl
  refine pure_ (i := 35) (N := some 62) (v := ?_) (a' := ?_) #[true, true, true, true, true, true, true, true, true, true, true, true, true, true, true, true, true, true, true, true, true, true, true, true, true, true, true, true, true, true, true, true, true, true, true, true, false, false, false, false, false, false, false, false] rfl rfl (by kernel_rfl) (fun _ _ _ h => h) (Or.inl ⟨by rfl, ?_⟩) ?_ ?_
  rotate_left
  ·intro w'
   go_simp
   with_reducible rfl
  rotate_left
  ·simp only [Act.put, List.setIfInBounds_toArray, List.set_cons_zero, List.set_cons_succ, i64_w, i32_w]
   rfl
  refine pure_ (i := 36) (N := some 63) (v := ?_) (a' := ?_) #[true, true, true, true, true, true, true, true, true, true, true, true, true, true, true, true, true, true, true, true, true, true, true, true, true, true, true, true, true, true, true, true, true, true, true, true, true, false, false, false, false, false, false, false] rfl rfl (by kernel_rfl) (fun _ _ _ h => h) (Or.inl ⟨by rfl, ?_⟩) ?_ ?_
  rotate_left
  ·intro w'
   go_simp
   with_reducible rfl
  rotate_left
  ·simp only [Act.put, List.setIfInBounds_toArray, List.set_cons_zero, List.set_cons_succ, i64_w, i32_w]
   rfl
  refine take_ (i := 37) (N := some 64) (v := .agg #[.int .u8 5, .int .u64 1, .string ⟨#[]⟩, .slice none 0 0]) #[true, true, true, true, true, true, true, true, true, true, true, true, true, true, true, true, true, true, true, true, true, true, true, true, true, true, true, true, true, true, true, true, true, true, true, true, true, true, false, false, false, false, false, false] rfl rfl (by kernel_rfl) (fun _ _ _ h => h) (Or.inl ⟨by rfl, ?_⟩) hS911 rfl ?_
  ·rintro w' ⟨h1, h3, h4, h6⟩
   obtain ⟨e0, e1, e2, e3⟩ := h1.c4
   go_simp
  refine norm_ (a' := ?_) ?_ ?_
  rotate_left
  ·try simp only [Act.put, putAll, List.setIfInBounds_toArray, List.set_cons_zero, List.set_cons_succ]
   rfl
  refine take_ (i := 38) (N := some 65) (v := .agg #[.int .u8 5, .int .u64 1, .string ⟨#[]⟩, .slice none 0 0]) #[true, true, true, true, true, true, true, true, true, true, true, true, true, true, true, true, true, true, true, true, true, true, true, true, true, true, true, true, true, true, true, true, true, true, true, true, true, true, true, false, false, false, false, false] rfl rfl (by kernel_rfl) (fun _ _ _ h => h) (Or.inl ⟨by rfl, ?_⟩) hS911 rfl ?_
  ·rintro w' ⟨h1, h3, h4, h6⟩
   obtain ⟨e0, e1, e2, e3⟩ := h1.c4
   go_simp
  refine norm_ (a' := ?_) ?_ ?_
  rotate_left
  ·try simp only [Act.put, putAll, List.setIfInBounds_toArray, List.set_cons_zero, List.set_cons_succ]
   rfl
  refine one_ (i := 39) (N := some 66) #[true, true, true, true, true, true, true, true, true, true, true, true, true, true, true, true, true, true, true, true, true, true, true, true, true, true, true, true, true, true, true, true, true, true, true, true, true, true, true, true, false, false, false, false] rfl rfl (by kernel_rfl) (by decide) (fun K hK => ?_)
  refine goes_ Try.func28 (by kernel_rfl) rfl #[.agg #[.int .u8 5, .int .u64 1, .string ⟨#[]⟩, .slice none 0 0], .agg #[.int .u8 5, .int .u64 1, .string ⟨#[]⟩, .slice none 0 0]] (by rfl) rfl rfl (by (try simp only [List.map_toArray, List.map_cons, List.map_nil]); first | done | rfl) ?_
  refine (desc28_any vOne vOne w_o2 none none 0 0 _ (C_none _) (Nat.le_refl _) (C_none _) (Nat.le_refl _)).mono ?_
  rintro e w912 ⟨v912, rfl, hR912, hb912⟩
  obtain ⟨Ad912, cd912, rfl, hcd912, hCd912⟩ := Kd.R_reads hR912
  refine ⟨_, rfl, ?_⟩
  have hS912 := hS911
  replace hS912 := (⟨hS912.1.below hb912, hS912.2.1.below hb912, hS912.2.2.1.below hb912, hS912.2.2.2.below hb912⟩ : _ ∧ _ ∧ _ ∧ _)
  have HC912 := Aside0.mk (Kd.C_below HC911.out hb912)
  have HD912 := Aside0.mk (Kd.C_below HD911.out hb912)
  have HX912 := Aside0.mk (Kd.C_below HX911.out hb912)
  have HB912 := Aside0.mk (below_step HB911.out hb912)
  refine hK.out _ _ hS912 (fun _ => ?_)
  clear hK K hb912
  refine norm_ (a' := ?_) ?_ ?_
  rotate_left
  ·try simp only [Act.put, putAll, List.setIfInBounds_toArray, List.set_cons_zero, List.set_cons_succ]
   rfl
  refine one_ (i := 40) (N := some 67) #[true, true, true, true, true, true, true, true, true, true, true, true, true, true, true, true, true, true, true, true, true, true, true, true, true, true, true, true, true, true, true, true, true, true, true, true, true, true, true, true, true, false, false, false] rfl rfl (by kernel_rfl) (by decide) (fun K hK => ?_)
  refine goes_ Try.func17 (by kernel_rfl) rfl #[.agg #[.int .u8 25, .int .u64 0, .string ⟨#[]⟩, .slice Ad912 2 cd912]] (by rfl) rfl rfl (by (try simp only [List.map_toArray, List.map_cons, List.map_nil]); first | done | rfl) ?_
  refine (right17_any vDs2 w_e3 w_eo Ad912 cd912 _ hCd912 hcd912).mono ?_
  rintro e w913 ⟨he, hb913⟩
  rw [w_ds2] at he
  subst he
  refine ⟨_, rfl, ?_⟩
  have hS913 := hS912
  replace hS913 := (⟨hS913.1.below hb913, hS913.2.1.below hb913, hS913.2.2.1.below hb913, hS913.2.2.2.below hb913⟩ : _ ∧ _ ∧ _ ∧ _)
  have HC913 := Aside0.mk (Kd.C_below HC912.out hb913)
  have HD913 := Aside0.mk (Kd.C_below HD912.out hb913)
  have HX913 := Aside0.mk (Kd.C_below HX912.out hb913)
  have HB913 := Aside0.mk (below_step HB912.out hb913)
  refine hK.out _ _ hS913 (fun _ => ?_)
  clear hK K hb913
  refine norm_ (a' := ?_) ?_ ?_
  rotate_left
  ·try simp only [Act.put, putAll, List.setIfInBounds_toArray, List.set_cons_zero, List.set_cons_succ]
   rfl
  refine pure_ (i := 41) (N := some 68) (v := ?_) (a' := ?_) #[true, true, true, true, true, true, true, true, true, true, true, true, true, true, true, true, true, true, true, true, true, true, true, true, true, true, true, true, true, true, true, true, true, true, true, true, true, true, true, true, true, true, false, false] rfl rfl (by kernel_rfl) (fun _ _ _ h => h) (Or.inl ⟨by rfl, ?_⟩) ?_ ?_
  rotate_left
  ·intro w'
   go_simp
   with_reducible rfl
  rotate_left
  ·simp only [Act.put, List.setIfInBounds_toArray, List.set_cons_zero, List.set_cons_succ, i64_w, i32_w]
   rfl
  refine pure_ (i := 42) (N := some 69) (v := ?_) (a' := ?_) #[true, true, true, true, true, true, true, true, true, true, true, true, true, true, true, true, true, true, true, true, true, true, true, true, true, true, true, true, true, true, true, true, true, true, true, true, true, true, true, true, true, true, true, false] rfl rfl (by kernel_rfl) (fun _ _ _ h => h) (Or.inl ⟨by rfl, ?_⟩) ?_ ?_
  rotate_left
  ·intro w'
   go_simp
   with_reducible rfl
  rotate_left
  ·simp only [Act.put, List.setIfInBounds_toArray, List.set_cons_zero, List.set_cons_succ, i64_w, i32_w]
   rfl
  refine pure_ (i := 43) (N := some 0) (v := ?_) (a' := ?_) #[true, true, true, true, true, true, true, true, true, true, true, true, true, true, true, true, true, true, true, true, true, true, true, true, true, true, true, true, true, true, true, true, true, true, true, true, true, true, true, true, true, true, true, true] rfl rfl (by kernel_rfl) (fun _ _ _ h => h) (Or.inl ⟨by rfl, ?_⟩) ?_ ?_
  rotate_left
  ·intro w'
   go_simp
   with_reducible rfl
  rotate_left
  ·simp only [Act.put, List.setIfInBounds_toArray, List.set_cons_zero, List.set_cons_succ, i64_w, i32_w]
   rfl
  refine done_ (by kernel_rfl) ?_
  go_wp2_with fail
  go_ret
  exact ⟨rfl, HB913.out⟩⟩
 refine start_ (n := 8) (S := fun w' => w'.cell? ⟨b1, 0, none⟩ = some (.int .u8 5) ∧ w'.cell? ⟨b1, 1, none⟩ = some (.int .u64 1) ∧ w'.cell? ⟨b1, 2, none⟩ = some (.string ⟨#[]⟩) ∧ w'.cell? ⟨b1, 3, none⟩ = some (.slice none 0 0) ∧ w'.cell? ⟨b2, 0, none⟩ = some (.int .u8 6) ∧ w'.cell? ⟨b2, 1, none⟩ = some (.int .u64 1) ∧ w'.cell? ⟨b2, 2, none⟩ = some (.string ⟨#[]⟩) ∧ w'.cell? ⟨b2, 3, none⟩ = some (.slice none 0 0)) (ds := [7]) #[false, false, false, false, false, false, false, false] (by kernel_rfl) rfl rfl ⟨bA.c4.1, bA.c4.2.1, bA.c4.2.2.1, bA.c4.2.2.2, bB.c4.1, bB.c4.2.1, bB.c4.2.2.1, bB.c4.2.2.2⟩ (fun hS => ?_)
 have bA : Blk w3.drew b1 #[.int .u8 5, .int .u64 1, .string ⟨#[]⟩, .slice none 0 0] 25 := bA
 have bB : Blk w3.drew b2 #[.int .u8 6, .int .u64 1, .string ⟨#[]⟩, .slice none 0 0] 25 := bB
 have HB2 : Aside0 (Below w.heap.size w w3.drew) := ⟨below_drew HB2.out⟩
 generalize w3.drew = w4 at bA bB HB2 hS ⊢
 refine take_ (i := 0) (N := some 9) (v := .agg #[.int .u8 5, .int .u64 1, .string ⟨#[]⟩, .slice none 0 0]) #[true, false, false, false, false, false, false, false] rfl rfl (by kernel_rfl) (fun _ _ _ h => h) (Or.inl ⟨by rfl, ?_⟩) hS rfl ?_
 ·rintro w' ⟨e0, e1, e2, e3, e4, e5, e6, e7⟩
  go_simp
 refine take_ (i := 2) (N := some 11) (v := .agg #[.int .u8 6, .int .u64 1, .string ⟨#[]⟩, .slice none 0 0]) #[true, false, true, false, false, false, false, false] rfl rfl (by kernel_rfl) (fun _ _ _ h => h) (Or.inl ⟨by rfl, ?_⟩) hS rfl ?_
 ·rintro w' ⟨e0, e1, e2, e3, e4, e5, e6, e7⟩
  go_simp
 refine norm_ (a' := ?_) ?_ ?_
 rotate_left
 ·try simp only [Act.put, putAll, List.setIfInBounds_toArray, List.set_cons_zero, List.set_cons_succ]
  rfl
 refine two_ (i := 1) (j := 6) (Ni := some 10) (Nj := some 3) #[true, true, true, false, false, false, false, false] #[true, false, true, false, false, false, true, false] rfl rfl rfl rfl (by kernel_rfl) (by decide) (by decide) (fun K hK => ?_) (fun K hK => ?_)
 ·refine goes_ Try.func26 (by kernel_rfl) rfl #[] (by rfl) rfl rfl (by (try simp only [List.map_toArray, List.map_cons, List.map_nil]); first | done | rfl) ?_
  refine (null26_any _).mono ?_
  rintro e w101 ⟨rfl, hb101⟩
  refine ⟨_, rfl, ?_⟩
  have bA_101 := bA.below hb101
  have bB_101 := bB.below hb101
  have HB101 := Aside0.mk (below_step HB2.out hb101)
  refine hK.out _ _ ⟨bA_101.c4.1, bA_101.c4.2.1, bA_101.c4.2.2.1, bA_101.c4.2.2.2, bB_101.c4.1, bB_101.c4.2.1, bB_101.c4.2.2.1, bB_101.c4.2.2.2⟩ (fun _ => ?_)
  clear hK K
  refine norm_ (a' := ?_) ?_ ?_
  rotate_left
  ·try simp only [Act.put, putAll, List.setIfInBounds_toArray, List.set_cons_zero, List.set_cons_succ]
   rfl
  refine two_ (i := 3) (j := 6) (Ni := some 12) (Nj := some 3) #[true, true, true, true, false, false, false, false] #[true, true, true, false, false, false, true, false] rfl rfl rfl rfl (by kernel_rfl) (by decide) (by decide) (fun K hK => ?_) (fun K hK => ?_)
  ·refine goes_ Try.func27 (by kernel_rfl) rfl #[.bool true] (by rfl) rfl rfl (by (try simp only [List.map_toArray, List.map_cons, List.map_nil]); first | done | rfl) ?_
   refine (bool27_any true _).mono ?_
   rintro e w102 ⟨rfl, hb102⟩
   refine ⟨_, rfl, ?_⟩
   have bA_102 := bA_101.below hb102
   have bB_102 := bB_101.below hb102
   have HB102 := Aside0.mk (below_step HB101.out hb102)
   refine hK.out _ _ ⟨bA_102.c4.1, bA_102.c4.2.1, bA_102.c4.2.2.1, bA_102.c4.2.2.2, bB_102.c4.1, bB_102.c4.2.1, bB_102.c4.2.2.1, bB_102.c4.2.2.2⟩ (fun _ => ?_)
   clear hK K
   refine norm_ (a' := ?_) ?_ ?_
   rotate_left
   ·try simp only [Act.put, putAll, List.setIfInBounds_toArray, List.set_cons_zero, List.set_cons_succ]
    rfl
   refine two_ (i := 4) (j := 6) (Ni := some 13) (Nj := some 3) #[true, true, true, true, true, false, false, false] #[true, true, true, true, false, false, true, false] rfl rfl rfl rfl (by kernel_rfl) (by decide) (by decide) (fun K hK => ?_) (fun K hK => ?_)
   ·rw [if_pos (by rfl)]
    unfold Oper.wp
    go_simp
    have bs103 := Blk.new w102 (flatK [⟨vOne, none, 0⟩, ⟨vNul, none, 0⟩, ⟨vBig, none, 0⟩, ⟨vTru, none, 0⟩]).toArray 25
    have bA_103 := bA_102.alloc (.cells #[.int .u8 5, .int .u64 1, .string ⟨#[]⟩, .slice none 0 0, .int .u8 1, .int .u64 0, .string ⟨#[]⟩, .slice none 0 0, .int .u8 6, .int .u64 1, .string ⟨#[]⟩, .slice none 0 0, .int .u8 2, .int .u64 1, .string ⟨#[]⟩, .slice none 0 0] 25)
    have bB_103 := bB_102.alloc (.cells #[.int .u8 5, .int .u64 1, .string ⟨#[]⟩, .slice none 0 0, .int .u8 1, .int .u64 0, .string ⟨#[]⟩, .slice none 0 0, .int .u8 6, .int .u64 1, .string ⟨#[]⟩, .slice none 0 0, .int .u8 2, .int .u64 1, .string ⟨#[]⟩, .slice none 0 0] 25)
    have HB103 := Aside0.mk (below_alloc HB102.out (.cells #[.int .u8 5, .int .u64 1, .string ⟨#[]⟩, .slice none 0 0, .int .u8 1, .int .u64 0, .string ⟨#[]⟩, .slice none 0 0, .int .u8 6, .int .u64 1, .string ⟨#[]⟩, .slice none 0 0, .int .u8 2, .int .u64 1, .string ⟨#[]⟩, .slice none 0 0] 25))
    have hbs103 : Blk (w102.alloc (.cells #[.int .u8 5, .int .u64 1, .string ⟨#[]⟩, .slice none 0 0, .int .u8 1, .int .u64 0, .string ⟨#[]⟩, .slice none 0 0, .int .u8 6, .int .u64 1, .string ⟨#[]⟩, .slice none 0 0, .int .u8 2, .int .u64 1, .string ⟨#[]⟩, .slice none 0 0] 25)) w102.heap.size (flatK [⟨vOne, none, 0⟩, ⟨vNul, none, 0⟩, ⟨vBig, none, 0⟩, ⟨vTru, none, 0⟩]).toArray 25 := bs103
    obtain ⟨w103, hw103⟩ : ∃ W, w102.alloc (.cells #[.int .u8 5, .int .u64 1, .string ⟨#[]⟩, .slice none 0 0, .int .u8 1, .int .u64 0, .string ⟨#[]⟩, .slice none 0 0, .int .u8 6, .int .u64 1, .string ⟨#[]⟩, .slice none 0 0, .int .u8 2, .int .u64 1, .string ⟨#[]⟩, .slice none 0 0] 25) = W := ⟨_, rfl⟩
    rw [hw103] at bA_103 bB_103 hbs103 HB103 ⊢
    clear hw103 bs103
    refine hK.out _ _ ⟨bA_103.c4.1, bA_103.c4.2.1, bA_103.c4.2.2.1, bA_103.c4.2.2.2, bB_103.c4.1, bB_103.c4.2.1, bB_103.c4.2.2.1, bB_103.c4.2.2.2⟩ (fun _ => ?_)
    clear hK K
    refine norm_ (a' := ?_) ?_ ?_
    rotate_left
    ·try simp only [Act.put, putAll, List.setIfInBounds_toArray, List.set_cons_zero, List.set_cons_succ]
     rfl
    refine two_ (i := 5) (j := 6) (Ni := some 14) (Nj := some 3) #[true, true, true, true, true, true, false, false] #[true, true, true, true, true, false, true, false] rfl rfl rfl rfl (by kernel_rfl) (by decide) (by decide) (fun K hK => ?_) (fun K hK => ?_)
    ·have hC104 := C_lit (ks := [⟨vOne, none, 0⟩, ⟨vNul, none, 0⟩, ⟨vBig, none, 0⟩, ⟨vTru, none, 0⟩]) hbs103 (by decide) (by
      intro q hq
      simp only [List.mem_cons, List.not_mem_nil, or_false] at hq
      rcases hq with rfl | rfl | rfl | rfl <;> exact ⟨C_none _, Nat.le_refl _⟩)
     refine goes_ Try.func21 (by kernel_rfl) rfl #[.int .u8 23, .slice (some ⟨w102.heap.size, 0, none⟩) 4 4] (by rfl) rfl rfl (by (try simp only [List.map_toArray, List.map_cons, List.map_nil]); first | done | rfl) ?_
     refine (many21_any 23 [vOne, vNul, vBig, vTru] w_l4 _ 4 _ hC104 (by decide)).mono ?_
     rintro e w104 ⟨v3, rfl, hR104, hb104⟩
     obtain ⟨A3, c3, rfl, hc3, -⟩ := Kd.R_reads hR104
     refine ⟨_, rfl, ?_⟩
     have bA_104 := bA_103.below hb104
     have bB_104 := bB_103.below hb104
     have bs_104 := hbs103.below hb104
     have HB104 := Aside0.mk (below_step HB103.out hb104)
     refine hK.out _ _ ⟨bA_104.c4.1, bA_104.c4.2.1, bA_104.c4.2.2.1, bA_104.c4.2.2.2, bB_104.c4.1, bB_104.c4.2.1, bB_104.c4.2.2.1, bB_104.c4.2.2.2⟩ (fun _ => ?_)
     clear hK K
     refine norm_ (a' := ?_) ?_ ?_
     rotate_left
     ·try simp only [Act.put, putAll, List.setIfInBounds_toArray, List.set_cons_zero, List.set_cons_succ]
      rfl
     refine one_ (i := 6) (N := some 3) #[true, true, true, true, true, true, true, false] rfl rfl (by kernel_rfl) (by decide) (fun K hK => ?_)
     have hRf105 : k25.R 25 (w104.alloc (.cells #[.int .u8 0, .int .u64 0, .string ⟨#[]⟩, .slice none 0 0] 25)) _ (fun k => k ≠ w104.heap.size) (.slice A3 4 c3) [vOne, vNul, vBig, vTru] := Kd.R_alloc (Kd.R_mono (Kd.R_bound hR104) (fun k hk => by have h1 := hk.2.2.1; omega)) _
     rw [if_pos (by rfl)]
     unfold Oper.wp
     go_simp
     have b3_105 := Blk.new w104 #[.int .u8 0, .int .u64 0, .string ⟨#[]⟩, .slice none 0 0] 25
     have hge105 := HB104.out.size
     have n1_105 : b1 ≠ w104.heap.size := Nat.ne_of_lt bA_104.lt
     have n2_105 : b2 ≠ w104.heap.size := Nat.ne_of_lt bB_104.lt
     have bA_105 := bA_104.alloc (.cells #[.int .u8 0, .int .u64 0, .string ⟨#[]⟩, .slice none 0 0] 25)
     have bB_105 := bB_104.alloc (.cells #[.int .u8 0, .int .u64 0, .string ⟨#[]⟩, .slice none 0 0] 25)
     have bs_105 := bs_104.alloc (.cells #[.int .u8 0, .int .u64 0, .string ⟨#[]⟩, .slice none 0 0] 25)
     have HB105 := Aside0.mk (below_alloc HB104.out (.cells #[.int .u8 0, .int .u64 0, .string ⟨#[]⟩, .slice none 0 0] 25))
     obtain ⟨w105, hw105⟩ : ∃ W, w104.alloc (.cells #[.int .u8 0, .int .u64 0, .string ⟨#[]⟩, .slice none 0 0] 25) = W := ⟨_, rfl⟩
     rw [hw105] at bA_105 bB_105 bs_105 b3_105 HB105 hRf105 ⊢
     clear hw105
     refine hK.out _ _ ⟨bA_105.c4.1, bA_105.c4.2.1, bA_105.c4.2.2.1, bA_105.c4.2.2.2, bB_105.c4.1, bB_105.c4.2.1, bB_105.c4.2.2.1, bB_105.c4.2.2.2⟩ (fun _ => ?_)
     clear hK K
     refine norm_ (a' := ?_) ?_ ?_
     rotate_left
     ·try simp only [Act.put, putAll, List.setIfInBounds_toArray, List.set_cons_zero, List.set_cons_succ]
      rfl
     refine last_ (i := 7) (N := none) #[true, true, true, true, true, true, true, true] rfl rfl (by kernel_rfl) (by decide) (fun K hK => ?_)
     rw [if_pos (by rfl)]
     obtain ⟨e0, e1, e2, e3⟩ := b3_105.c4
     have fz := b3_105.fz
     unfold Oper.wp
     go_simp
     refine hK.out _ _ ?_
     refine done_ (by kernel_rfl) ?_
     refine HK.out w104.heap.size A3 c3 _ _ hge105 hc3 ?_ ?_ ?_ ?_ ?_
     ·exact Blk.far (Blk.far (Blk.far (Blk.far bA_105 n1_105 _) n1_105 _) n1_105 _) n1_105 _
     ·exact Blk.far (Blk.far (Blk.far (Blk.far bB_105 n2_105 _) n2_105 _) n2_105 _) n2_105 _
     ·refine blk_put (cs := #[.int .u8 23, .int .u64 0, .string ⟨#[]⟩, .slice none 0 0]) ?_ 3 _ rfl
      refine blk_put (cs := #[.int .u8 23, .int .u64 0, .string ⟨#[]⟩, .slice none 0 0]) ?_ 2 _ rfl
      refine blk_put (cs := #[.int .u8 23, .int .u64 0, .string ⟨#[]⟩, .slice none 0 0]) ?_ 1 _ rfl
      refine blk_put (cs := #[.int .u8 0, .int .u64 0, .string ⟨#[]⟩, .slice none 0 0]) ?_ 0 _ rfl
      exact b3_105
     ·exact ⟨_, _, Kd.R_far (Kd.R_far (Kd.R_far (Kd.R_far hRf105 (fun _ h => h) _) (fun _ h => h) _) (fun _ h => h) _) (fun _ h => h) _⟩
     ·exact below_set (below_set (below_set (below_set HB105.out hge105) hge105) hge105) hge105
    ·rw [if_pos (by rfl)]
     unfold Oper.wp
     go_simp
     have b3_107 := Blk.new w103 #[.int .u8 0, .int .u64 0, .string ⟨#[]⟩, .slice none 0 0] 25
     have hge107 := HB103.out.size
     have n1_107 : b1 ≠ w103.heap.size := Nat.ne_of_lt bA_103.lt
     have n2_107 : b2 ≠ w103.heap.size := Nat.ne_of_lt bB_103.lt
     have bA_107 := bA_103.alloc (.cells #[.int .u8 0, .int .u64 0, .string ⟨#[]⟩, .slice none 0 0] 25)
     have bB_107 := bB_103.alloc (.cells #[.int .u8 0, .int .u64 0, .string ⟨#[]⟩, .slice none 0 0] 25)
     have bs_107 := hbs103.alloc (.cells #[.int .u8 0, .int .u64 0, .string ⟨#[]⟩, .slice none 0 0] 25)
     have HB107 := Aside0.mk (below_alloc HB103.out (.cells #[.int .u8 0, .int .u64 0, .string ⟨#[]⟩, .slice none 0 0] 25))
     obtain ⟨w107, hw107⟩ : ∃ W, w103.alloc (.cells #[.int .u8 0, .int .u64 0, .string ⟨#[]⟩, .slice none 0 0] 25) = W := ⟨_, rfl⟩
     rw [hw107] at bA_107 bB_107 bs_107 b3_107 HB107  ⊢
     clear hw107
     refine hK.out _ _ ⟨bA_107.c4.1, bA_107.c4.2.1, bA_107.c4.2.2.1, bA_107.c4.2.2.2, bB_107.c4.1, bB_107.c4.2.1, bB_107.c4.2.2.1, bB_107.c4.2.2.2⟩ (fun _ => ?_)
     clear hK K
     refine norm_ (a' := ?_) ?_ ?_
     rotate_left
     ·try simp only [Act.put, putAll, List.setIfInBounds_toArray, List.set_cons_zero, List.set_cons_succ]
      rfl
     refine one_ (i := 5) (N := some 14) #[true, true, true, true, true, true, true, false] rfl rfl (by kernel_rfl) (by decide) (fun K hK => ?_)
     have hC108 := C_lit (ks := [⟨vOne, none, 0⟩, ⟨vNul, none, 0⟩, ⟨vBig, none, 0⟩, ⟨vTru, none, 0⟩]) bs_107 (by decide) (by
      intro q hq
      simp only [List.mem_cons, List.not_mem_nil, or_false] at hq
      rcases hq with rfl | rfl | rfl | rfl <;> exact ⟨C_none _, Nat.le_refl _⟩)
     refine goes_ Try.func21 (by kernel_rfl) rfl #[.int .u8 23, .slice (some ⟨w102.heap.size, 0, none⟩) 4 4] (by rfl) rfl rfl (by (try simp only [List.map_toArray, List.map_cons, List.map_nil]); first | done | rfl) ?_
     refine (many21_any 23 [vOne, vNul, vBig, vTru] w_l4 _ 4 _ hC108 (by decide)).mono ?_
     rintro e w108 ⟨v3, rfl, hR108, hb108⟩
     obtain ⟨A3, c3, rfl, hc3, -⟩ := Kd.R_reads hR108
     have hlt108 := b3_107.lt
     have hRf108 : k25.R 25 w108 _ (fun k => k ≠ w103.heap.size) (.slice A3 4 c3) [vOne, vNul, vBig, vTru] := Kd.R_mono (Kd.R_bound hR108) (fun k hk => by have h1 := hk.2.1; omega)
     refine ⟨_, rfl, ?_⟩
     have bA_108 := bA_107.below hb108
     have bB_108 := bB_107.below hb108
     have b3_108 := b3_107.below hb108
     have bs_108 := bs_107.below hb108
     have HB108 := Aside0.mk (below_step HB107.out hb108)
     refine hK.out _ _ ⟨bA_108.c4.1, bA_108.c4.2.1, bA_108.c4.2.2.1, bA_108.c4.2.2.2, bB_108.c4.1, bB_108.c4.2.1, bB_108.c4.2.2.1, bB_108.c4.2.2.2⟩ (fun _ => ?_)
     clear hK K
     refine norm_ (a' := ?_) ?_ ?_
     rotate_left
     ·try simp only [Act.put, putAll, List.setIfInBounds_toArray, List.set_cons_zero, List.set_cons_succ]
      rfl
     refine last_ (i := 7) (N := none) #[true, true, true, true, true, true, true, true] rfl rfl (by kernel_rfl) (by decide) (fun K hK => ?_)
     rw [if_pos (by rfl)]
     obtain ⟨e0, e1, e2, e3⟩ := b3_108.c4
     have fz := b3_108.fz
     unfold Oper.wp
     go_simp
     refine hK.out _ _ ?_
     refine done_ (by kernel_rfl) ?_
     refine HK.out w103.heap.size A3 c3 _ _ hge107 hc3 ?_ ?_ ?_ ?_ ?_
     ·exact Blk.far (Blk.far (Blk.far (Blk.far bA_108 n1_107 _) n1_107 _) n1_107 _) n1_107 _
     ·exact Blk.far (Blk.far (Blk.far (Blk.far bB_108 n2_107 _) n2_107 _) n2_107 _) n2_107 _
     ·refine blk_put (cs := #[.int .u8 23, .int .u64 0, .string ⟨#[]⟩, .slice none 0 0]) ?_ 3 _ rfl
      refine blk_put (cs := #[.int .u8 23, .int .u64 0, .string ⟨#[]⟩, .slice none 0 0]) ?_ 2 _ rfl
      refine blk_put (cs := #[.int .u8 23, .int .u64 0, .string ⟨#[]⟩, .slice none 0 0]) ?_ 1 _ rfl
      refine blk_put (cs := #[.int .u8 0, .int .u64 0, .string ⟨#[]⟩, .slice none 0 0]) ?_ 0 _ rfl
      exact b3_108
     ·exact ⟨_, _, Kd.R_far (Kd.R_far (Kd.R_far (Kd.R_far hRf108 (fun _ h => h) _) (fun _ h => h) _) (fun _ h => h) _) (fun _ h => h) _⟩
     ·exact below_set (below_set (below_set (below_set HB108.out hge107) hge107) hge107) hge107
   ·rw [if_pos (by rfl)]
    unfold Oper.wp
    go_simp
    have b3_110 := Blk.new w102 #[.int .u8 0, .int .u64 0, .string ⟨#[]⟩, .slice none 0 0] 25
    have hge110 := HB102.out.size
    have n1_110 : b1 ≠ w102.heap.size := Nat.ne_of_lt bA_102.lt
    have n2_110 : b2 ≠ w102.heap.size := Nat.ne_of_lt bB_102.lt
    have bA_110 := bA_102.alloc (.cells #[.int .u8 0, .int .u64 0, .string ⟨#[]⟩, .slice none 0 0] 25)
    have bB_110 := bB_102.alloc (.cells #[.int .u8 0, .int .u64 0, .string ⟨#[]⟩, .slice none 0 0] 25)
    have HB110 := Aside0.mk (below_alloc HB102.out (.cells #[.int .u8 0, .int .u64 0, .string ⟨#[]⟩, .slice none 0 0] 25))
    obtain ⟨w110, hw110⟩ : ∃ W, w102.alloc (.cells #[.int .u8 0, .int .u64 0, .string ⟨#[]⟩, .slice none 0 0] 25) = W := ⟨_, rfl⟩
    rw [hw110] at bA_110 bB_110 b3_110 HB110  ⊢
    clear hw110
    refine hK.out _ _ ⟨bA_110.c4.1, bA_110.c4.2.1, bA_110.c4.2.2.1, bA_110.c4.2.2.2, bB_110.c4.1, bB_110.c4.2.1, bB_110.c4.2.2.1, bB_110.c4.2.2.2⟩ (fun _ => ?_)
    clear hK K
    refine norm_ (a' := ?_) ?_ ?_
    rotate_left
    ·try simp only [Act.put, putAll, List.setIfInBounds_toArray, List.set_cons_zero, List.set_cons_succ]
     rfl
    refine one_ (i := 4) (N := some 13) #[true, true, true, true, true, false, true, false] rfl rfl (by kernel_rfl) (by decide) (fun K hK => ?_)
    rw [if_pos (by rfl)]
    unfold Oper.wp
    go_simp
    have bs111 := Blk.new w110 (flatK [⟨vOne, none, 0⟩, ⟨vNul, none, 0⟩, ⟨vBig, none, 0⟩, ⟨vTru, none, 0⟩]).toArray 25
    have bA_111 := bA_110.alloc (.cells #[.int .u8 5, .int .u64 1, .string ⟨#[]⟩, .slice none 0 0, .int .u8 1, .int .u64 0, .string ⟨#[]⟩, .slice none 0 0, .int .u8 6, .int .u64 1, .string ⟨#[]⟩, .slice none 0 0, .int .u8 2, .int .u64 1, .string ⟨#[]⟩, .slice none 0 0] 25)
    have bB_111 := bB_110.alloc (.cells #[.int .u8 5, .int .u64 1, .string ⟨#[]⟩, .slice none 0 0, .int .u8 1, .int .u64 0, .string ⟨#[]⟩, .slice none 0 0, .int .u8 6, .int .u64 1, .string ⟨#[]⟩, .slice none 0 0, .int .u8 2, .int .u64 1, .string ⟨#[]⟩, .slice none 0 0] 25)
    have b3_111 := b3_110.alloc (.cells #[.int .u8 5, .int .u64 1, .string ⟨#[]⟩, .slice none 0 0, .int .u8 1, .int .u64 0, .string ⟨#[]⟩, .slice none 0 0, .int .u8 6, .int .u64 1, .string ⟨#[]⟩, .slice none 0 0, .int .u8 2, .int .u64 1, .string ⟨#[]⟩, .slice none 0 0] 25)
    have HB111 := Aside0.mk (below_alloc HB110.out (.cells #[.int .u8 5, .int .u64 1, .string ⟨#[]⟩, .slice none 0 0, .int .u8 1, .int .u64 0, .string ⟨#[]⟩, .slice none 0 0, .int .u8 6, .int .u64 1, .string ⟨#[]⟩, .slice none 0 0, .int .u8 2, .int .u64 1, .string ⟨#[]⟩, .slice none 0 0] 25))
    have hbs111 : Blk (w110.alloc (.cells #[.int .u8 5, .int .u64 1, .string ⟨#[]⟩, .slice none 0 0, .int .u8 1, .int .u64 0, .string ⟨#[]⟩, .slice none 0 0, .int .u8 6, .int .u64 1, .string ⟨#[]⟩, .slice none 0 0, .int .u8 2, .int .u64 1, .string ⟨#[]⟩, .slice none 0 0] 25)) w110.heap.size (flatK [⟨vOne, none, 0⟩, ⟨vNul, none, 0⟩, ⟨vBig, none, 0⟩, ⟨vTru, none, 0⟩]).toArray 25 := bs111
    obtain ⟨w111, hw111⟩ : ∃ W, w110.alloc (.cells #[.int .u8 5, .int .u64 1, .string ⟨#[]⟩, .slice none 0 0, .int .u8 1, .int .u64 0, .string ⟨#[]⟩, .slice none 0 0, .int .u8 6, .int .u64 1, .string ⟨#[]⟩, .slice none 0 0, .int .u8 2, .int .u64 1, .string ⟨#[]⟩, .slice none 0 0] 25) = W := ⟨_, rfl⟩
    rw [hw111] at bA_111 bB_111 b3_111 hbs111 HB111 ⊢
    clear hw111 bs111
    refine hK.out _ _ ⟨bA_111.c4.1, bA_111.c4.2.1, bA_111.c4.2.2.1, bA_111.c4.2.2.2, bB_111.c4.1, bB_111.c4.2.1, bB_111.c4.2.2.1, bB_111.c4.2.2.2⟩ (fun _ => ?_)
    clear hK K
    refine norm_ (a' := ?_) ?_ ?_
    rotate_left
    ·try simp only [Act.put, putAll, List.setIfInBounds_toArray, List.set_cons_zero, List.set_cons_succ]
     rfl
    refine one_ (i := 5) (N := some 14) #[true, true, true, true, true, true, true, false] rfl rfl (by kernel_rfl) (by decide) (fun K hK => ?_)
    have hC112 := C_lit (ks := [⟨vOne, none, 0⟩, ⟨vNul, none, 0⟩, ⟨vBig, none, 0⟩, ⟨vTru, none, 0⟩]) hbs111 (by decide) (by
     intro q hq
     simp only [List.mem_cons, List.not_mem_nil, or_false] at hq
     rcases hq with rfl | rfl | rfl | rfl <;> exact ⟨C_none _, Nat.le_refl _⟩)
    refine goes_ Try.func21 (by kernel_rfl) rfl #[.int .u8 23, .slice (some ⟨w110.heap.size, 0, none⟩) 4 4] (by rfl) rfl rfl (by (try simp only [List.map_toArray, List.map_cons, List.map_nil]); first | done | rfl) ?_
    refine (many21_any 23 [vOne, vNul, vBig, vTru] w_l4 _ 4 _ hC112 (by decide)).mono ?_
    rintro e w112 ⟨v3, rfl, hR112, hb112⟩
    obtain ⟨A3, c3, rfl, hc3, -⟩ := Kd.R_reads hR112
    have hlt112 := b3_111.lt
    have hRf112 : k25.R 25 w112 _ (fun k => k ≠ w102.heap.size) (.slice A3 4 c3) [vOne, vNul, vBig, vTru] := Kd.R_mono (Kd.R_bound hR112) (fun k hk => by have h1 := hk.2.1; omega)
    refine ⟨_, rfl, ?_⟩
    have bA_112 := bA_111.below hb112
    have bB_112 := bB_111.below hb112
    have b3_112 := b3_111.below hb112
    have bs_112 := hbs111.below hb112
    have HB112 := Aside0.mk (below_step HB111.out hb112)
    refine hK.out _ _ ⟨bA_112.c4.1, bA_112.c4.2.1, bA_112.c4.2.2.1, bA_112.c4.2.2.2, bB_112.c4.1, bB_112.c4.2.1, bB_112.c4.2.2.1, bB_112.c4.2.2.2⟩ (fun _ => ?_)
    clear hK K
    refine norm_ (a' := ?_) ?_ ?_
    rotate_left
    ·try simp only [Act.put, putAll, List.setIfInBounds_toArray, List.set_cons_zero, List.set_cons_succ]
     rfl
    refine last_ (i := 7) (N := none) #[true, true, true, true, true, true, true, true] rfl rfl (by kernel_rfl) (by decide) (fun K hK => ?_)
    rw [if_pos (by rfl)]
    obtain ⟨e0, e1, e2, e3⟩ := b3_112.c4
    have fz := b3_112.fz
    unfold Oper.wp
    go_simp
    refine hK.out _ _ ?_
    refine done_ (by kernel_rfl) ?_
    refine HK.out w102.heap.size A3 c3 _ _ hge110 hc3 ?_ ?_ ?_ ?_ ?_
    ·exact Blk.far (Blk.far (Blk.far (Blk.far bA_112 n1_110 _) n1_110 _) n1_110 _) n1_110 _
    ·exact Blk.far (Blk.far (Blk.far (Blk.far bB_112 n2_110 _) n2_110 _) n2_110 _) n2_110 _
    ·refine blk_put (cs := #[.int .u8 23, .int .u64 0, .string ⟨#[]⟩, .slice none 0 0]) ?_ 3 _ rfl
     refine blk_put (cs := #[.int .u8 23, .int .u64 0, .string ⟨#[]⟩, .slice none 0 0]) ?_ 2 _ rfl
     refine blk_put (cs := #[.int .u8 23, .int .u64 0, .string ⟨#[]⟩, .slice none 0 0]) ?_ 1 _ rfl
     refine blk_put (cs := #[.int .u8 0, .int .u64 0, .string ⟨#[]⟩, .slice none 0 0]) ?_ 0 _ rfl
     exact b3_112
    ·exact ⟨_, _, Kd.R_far (Kd.R_far (Kd.R_far (Kd.R_far hRf112 (fun _ h => h) _) (fun _ h => h) _) (fun _ h => h) _) (fun _ h => h) _⟩
    ·exact below_set (below_set (below_set (below_set HB112.out hge110) hge110) hge110) hge110
  ·rw [if_pos (by rfl)]
   unfold Oper.wp
   go_simp
   have b3_114 := Blk.new w101 #[.int .u8 0, .int .u64 0, .string ⟨#[]⟩, .slice none 0 0] 25
   have hge114 := HB101.out.size
   have n1_114 : b1 ≠ w101.heap.size := Nat.ne_of_lt bA_101.lt
   have n2_114 : b2 ≠ w101.heap.size := Nat.ne_of_lt bB_101.lt
   have bA_114 := bA_101.alloc (.cells #[.int .u8 0, .int .u64 0, .string ⟨#[]⟩, .slice none 0 0] 25)
   have bB_114 := bB_101.alloc (.cells #[.int .u8 0, .int .u64 0, .string ⟨#[]⟩, .slice none 0 0] 25)
   have HB114 := Aside0.mk (below_alloc HB101.out (.cells #[.int .u8 0, .int .u64 0, .string ⟨#[]⟩, .slice none 0 0] 25))
   obtain ⟨w114, hw114⟩ : ∃ W, w101.alloc (.cells #[.int .u8 0, .int .u64 0, .string ⟨#[]⟩, .slice none 0 0] 25) = W := ⟨_, rfl⟩
   rw [hw114] at bA_114 bB_114 b3_114 HB114  ⊢
   clear hw114
   refine hK.out _ _ ⟨bA_114.c4.1, bA_114.c4.2.1, bA_114.c4.2.2.1, bA_114.c4.2.2.2, bB_114.c4.1, bB_114.c4.2.1, bB_114.c4.2.2.1, bB_114.c4.2.2.2⟩ (fun _ => ?_)
   clear hK K
   refine norm_ (a' := ?_) ?_ ?_
   rotate_left
   ·try simp only [Act.put, putAll, List.setIfInBounds_toArray, List.set_cons_zero, List.set_cons_succ]
    rfl
   refine one_ (i := 3) (N := some 12) #[true, true, true, true, false, false, true, false] rfl rfl (by kernel_rfl) (by decide) (fun K hK => ?_)
   refine goes_ Try.func27 (by kernel_rfl) rfl #[.bool true] (by rfl) rfl rfl (by (try simp only [List.map_toArray, List.map_cons, List.map_nil]); first | done | rfl) ?_
   refine (bool27_any true _).mono ?_
   rintro e w115 ⟨rfl, hb115⟩
   refine ⟨_, rfl, ?_⟩
   have bA_115 := bA_114.below hb115
   have bB_115 := bB_114.below hb115
   have b3_115 := b3_114.below hb115
   have HB115 := Aside0.mk (below_step HB114.out hb115)
   refine hK.out _ _ ⟨bA_115.c4.1, bA_115.c4.2.1, bA_115.c4.2.2.1, bA_115.c4.2.2.2, bB_115.c4.1, bB_115.c4.2.1, bB_115.c4.2.2.1, bB_115.c4.2.2.2⟩ (fun _ => ?_)
   clear hK K
   refine norm_ (a' := ?_) ?_ ?_
   rotate_left
   ·try simp only [Act.put, putAll, List.setIfInBounds_toArray, List.set_cons_zero, List.set_cons_succ]
    rfl
   refine one_ (i := 4) (N := some 13) #[true, true, true, true, true, false, true, false] rfl rfl (by kernel_rfl) (by decide) (fun K hK => ?_)
   rw [if_pos (by rfl)]
   unfold Oper.wp
   go_simp
   have bs116 := Blk.new w115 (flatK [⟨vOne, none, 0⟩, ⟨vNul, none, 0⟩, ⟨vBig, none, 0⟩, ⟨vTru, none, 0⟩]).toArray 25
   have bA_116 := bA_115.alloc (.cells #[.int .u8 5, .int .u64 1, .string ⟨#[]⟩, .slice none 0 0, .int .u8 1, .int .u64 0, .string ⟨#[]⟩, .slice none 0 0, .int .u8 6, .int .u64 1, .string ⟨#[]⟩, .slice none 0 0, .int .u8 2, .int .u64 1, .string ⟨#[]⟩, .slice none 0 0] 25)
   have bB_116 := bB_115.alloc (.cells #[.int .u8 5, .int .u64 1, .string ⟨#[]⟩, .slice none 0 0, .int .u8 1, .int .u64 0, .string ⟨#[]⟩, .slice none 0 0, .int .u8 6, .int .u64 1, .string ⟨#[]⟩, .slice none 0 0, .int .u8 2, .int .u64 1, .string ⟨#[]⟩, .slice none 0 0] 25)
   have b3_116 := b3_115.alloc (.cells #[.int .u8 5, .int .u64 1, .string ⟨#[]⟩, .slice none 0 0, .int .u8 1, .int .u64 0, .string ⟨#[]⟩, .slice none 0 0, .int .u8 6, .int .u64 1, .string ⟨#[]⟩, .slice none 0 0, .int .u8 2, .int .u64 1, .string ⟨#[]⟩, .slice none 0 0] 25)
   have HB116 := Aside0.mk (below_alloc HB115.out (.cells #[.int .u8 5, .int .u64 1, .string ⟨#[]⟩, .slice none 0 0, .int .u8 1, .int .u64 0, .string ⟨#[]⟩, .slice none 0 0, .int .u8 6, .int .u64 1, .string ⟨#[]⟩, .slice none 0 0, .int .u8 2, .int .u64 1, .string ⟨#[]⟩, .slice none 0 0] 25))
   have hbs116 : Blk (w115.alloc (.cells #[.int .u8 5, .int .u64 1, .string ⟨#[]⟩, .slice none 0 0, .int .u8 1, .int .u64 0, .string ⟨#[]⟩, .slice none 0 0, .int .u8 6, .int .u64 1, .string ⟨#[]⟩, .slice none 0 0, .int .u8 2, .int .u64 1, .string ⟨#[]⟩, .slice none 0 0] 25)) w115.heap.size (flatK [⟨vOne, none, 0⟩, ⟨vNul, none, 0⟩, ⟨vBig, none, 0⟩, ⟨vTru, none, 0⟩]).toArray 25 := bs116
   obtain ⟨w116, hw116⟩ : ∃ W, w115.alloc (.cells #[.int .u8 5, .int .u64 1, .string ⟨#[]⟩, .slice none 0 0, .int .u8 1, .int .u64 0, .string ⟨#[]⟩, .slice none 0 0, .int .u8 6, .int .u64 1, .string ⟨#[]⟩, .slice none 0 0, .int .u8 2, .int .u64 1, .string ⟨#[]⟩, .slice none 0 0] 25) = W := ⟨_, rfl⟩
   rw [hw116] at bA_116 bB_116 b3_116 hbs116 HB116 ⊢
   clear hw116 bs116
   refine hK.out _ _ ⟨bA_116.c4.1, bA_116.c4.2.1, bA_116.c4.2.2.1, bA_116.c4.2.2.2, bB_116.c4.1, bB_116.c4.2.1, bB_116.c4.2.2.1, bB_116.c4.2.2.2⟩ (fun _ => ?_)
   clear hK K
   refine norm_ (a' := ?_) ?_ ?_
   rotate_left
   ·try simp only [Act.put, putAll, List.setIfInBounds_toArray, List.set_cons_zero, List.set_cons_succ]
    rfl
   refine one_ (i := 5) (N := some 14) #[true, true, true, true, true, true, true, false] rfl rfl (by kernel_rfl) (by decide) (fun K hK => ?_)
   have hC117 := C_lit (ks := [⟨vOne, none, 0⟩, ⟨vNul, none, 0⟩, ⟨vBig, none, 0⟩, ⟨vTru, none, 0⟩]) hbs116 (by decide) (by
    intro q hq
    simp only [List.mem_cons, List.not_mem_nil, or_false] at hq
    rcases hq with rfl | rfl | rfl | rfl <;> exact ⟨C_none _, Nat.le_refl _⟩)
   refine goes_ Try.func21 (by kernel_rfl) rfl #[.int .u8 23, .slice (some ⟨w115.heap.size, 0, none⟩) 4 4] (by rfl) rfl rfl (by (try simp only [List.map_toArray, List.map_cons, List.map_nil]); first | done | rfl) ?_
   refine (many21_any 23 [vOne, vNul, vBig, vTru] w_l4 _ 4 _ hC117 (by decide)).mono ?_
   rintro e w117 ⟨v3, rfl, hR117, hb117⟩
   obtain ⟨A3, c3, rfl, hc3, -⟩ := Kd.R_reads hR117
   have hlt117 := b3_116.lt
   have hRf117 : k25.R 25 w117 _ (fun k => k ≠ w101.heap.size) (.slice A3 4 c3) [vOne, vNul, vBig, vTru] := Kd.R_mono (Kd.R_bound hR117) (fun k hk => by have h1 := hk.2.1; omega)
   refine ⟨_, rfl, ?_⟩
   have bA_117 := bA_116.below hb117
   have bB_117 := bB_116.below hb117
   have b3_117 := b3_116.below hb117
   have bs_117 := hbs116.below hb117
   have HB117 := Aside0.mk (below_step HB116.out hb117)
   refine hK.out _ _ ⟨bA_117.c4.1, bA_117.c4.2.1, bA_117.c4.2.2.1, bA_117.c4.2.2.2, bB_117.c4.1, bB_117.c4.2.1, bB_117.c4.2.2.1, bB_117.c4.2.2.2⟩ (fun _ => ?_)
   clear hK K
   refine norm_ (a' := ?_) ?_ ?_
   rotate_left
   ·try simp only [Act.put, putAll, List.setIfInBounds_toArray, List.set_cons_zero, List.set_cons_succ]
    rfl
   refine last_ (i := 7) (N := none) #[true, true, true, true, true, true, true, true] rfl rfl (by kernel_rfl) (by decide) (fun K hK => ?_)
   rw [if_pos (by rfl)]
   obtain ⟨e0, e1, e2, e3⟩ := b3_117.c4
   have fz := b3_117.fz
   unfold Oper.wp
   go_simp
   refine hK.out _ _ ?_
   refine done_ (by kernel_rfl) ?_
   refine HK.out w101.heap.size A3 c3 _ _ hge114 hc3 ?_ ?_ ?_ ?_ ?_
   ·exact Blk.far (Blk.far (Blk.far (Blk.far bA_117 n1_114 _) n1_114 _) n1_114 _) n1_114 _
   ·exact Blk.far (Blk.far (Blk.far (Blk.far bB_117 n2_114 _) n2_114 _) n2_114 _) n2_114 _
   ·refine blk_put (cs := #[.int .u8 23, .int .u64 0, .string ⟨#[]⟩, .slice none 0 0]) ?_ 3 _ rfl
    refine blk_put (cs := #[.int .u8 23, .int .u64 0, .string ⟨#[]⟩, .slice none 0 0]) ?_ 2 _ rfl
    refine blk_put (cs := #[.int .u8 23, .int .u64 0, .string ⟨#[]⟩, .slice none 0 0]) ?_ 1 _ rfl
    refine blk_put (cs := #[.int .u8 0, .int .u64 0, .string ⟨#[]⟩, .slice none 0 0]) ?_ 0 _ rfl
    exact b3_117
   ·exact ⟨_, _, Kd.R_far (Kd.R_far (Kd.R_far (Kd.R_far hRf117 (fun _ h => h) _) (fun _ h => h) _) (fun _ h => h) _) (fun _ h => h) _⟩
   ·exact below_set (below_set (below_set (below_set HB117.out hge114) hge114) hge114) hge114
 ·rw [if_pos (by rfl)]
  unfold Oper.wp
  go_simp
  have b3_119 := Blk.new w4 #[.int .u8 0, .int .u64 0, .string ⟨#[]⟩, .slice none 0 0] 25
  have hge119 := HB2.out.size
  have n1_119 : b1 ≠ w4.heap.size := Nat.ne_of_lt bA.lt
  have n2_119 : b2 ≠ w4.heap.size := Nat.ne_of_lt bB.lt
  have bA_119 := bA.alloc (.cells #[.int .u8 0, .int .u64 0, .string ⟨#[]⟩, .slice none 0 0] 25)
  have bB_119 := bB.alloc (.cells #[.int .u8 0, .int .u64 0, .string ⟨#[]⟩, .slice none 0 0] 25)
  have HB119 := Aside0.mk (below_alloc HB2.out (.cells #[.int .u8 0, .int .u64 0, .string ⟨#[]⟩, .slice none 0 0] 25))
  obtain ⟨w119, hw119⟩ : ∃ W, w4.alloc (.cells #[.int .u8 0, .int .u64 0, .string ⟨#[]⟩, .slice none 0 0] 25) = W := ⟨_, rfl⟩
  rw [hw119] at bA_119 bB_119 b3_119 HB119  ⊢
  clear hw119
  refine hK.out _ _ ⟨bA_119.c4.1, bA_119.c4.2.1, bA_119.c4.2.2.1, bA_119.c4.2.2.2, bB_119.c4.1, bB_119.c4.2.1, bB_119.c4.2.2.1, bB_119.c4.2.2.2⟩ (fun _ => ?_)
  clear hK K
  refine norm_ (a' := ?_) ?_ ?_
  rotate_left
  ·try simp only [Act.put, putAll, List.setIfInBounds_toArray, List.set_cons_zero, List.set_cons_succ]
   rfl
  refine one_ (i := 1) (N := some 10) #[true, true, true, false, false, false, true, false] rfl rfl (by kernel_rfl) (by decide) (fun K hK => ?_)
  refine goes_ Try.func26 (by kernel_rfl) rfl #[] (by rfl) rfl rfl (by (try simp only [List.map_toArray, List.map_cons, List.map_nil]); first | done | rfl) ?_
  refine (null26_any _).mono ?_
  rintro e w120 ⟨rfl, hb120⟩
  refine ⟨_, rfl, ?_⟩
  have bA_120 := bA_119.below hb120
  have bB_120 := bB_119.below hb120
  have b3_120 := b3_119.below hb120
  have HB120 := Aside0.mk (below_step HB119.out hb120)
  refine hK.out _ _ ⟨bA_120.c4.1, bA_120.c4.2.1, bA_120.c4.2.2.1, bA_120.c4.2.2.2, bB_120.c4.1, bB_120.c4.2.1, bB_120.c4.2.2.1, bB_120.c4.2.2.2⟩ (fun _ => ?_)
  clear hK K
  refine norm_ (a' := ?_) ?_ ?_
  rotate_left
  ·try simp only [Act.put, putAll, List.setIfInBounds_toArray, List.set_cons_zero, List.set_cons_succ]
   rfl
  refine one_ (i := 3) (N := some 12) #[true, true, true, true, false, false, true, false] rfl rfl (by kernel_rfl) (by decide) (fun K hK => ?_)
  refine goes_ Try.func27 (by kernel_rfl) rfl #[.bool true] (by rfl) rfl rfl (by (try simp only [List.map_toArray, List.map_cons, List.map_nil]); first | done | rfl) ?_
  refine (bool27_any true _).mono ?_
  rintro e w121 ⟨rfl, hb121⟩
  refine ⟨_, rfl, ?_⟩
  have bA_121 := bA_120.below hb121
  have bB_121 := bB_120.below hb121
  have b3_121 := b3_120.below hb121
  have HB121 := Aside0.mk (below_step HB120.out hb121)
  refine hK.out _ _ ⟨bA_121.c4.1, bA_121.c4.2.1, bA_121.c4.2.2.1, bA_121.c4.2.2.2, bB_121.c4.1, bB_121.c4.2.1, bB_121.c4.2.2.1, bB_121.c4.2.2.2⟩ (fun _ => ?_)
  clear hK K
  refine norm_ (a' := ?_) ?_ ?_
  rotate_left
  ·try simp only [Act.put, putAll, List.setIfInBounds_toArray, List.set_cons_zero, List.set_cons_succ]
   rfl
  refine one_ (i := 4) (N := some 13) #[true, true, true, true, true, false, true, false] rfl rfl (by kernel_rfl) (by decide) (fun K hK => ?_)
  rw [if_pos (by rfl)]
  unfold Oper.wp
  go_simp
  have bs122 := Blk.new w121 (flatK [⟨vOne, none, 0⟩, ⟨vNul, none, 0⟩, ⟨vBig, none, 0⟩, ⟨vTru, none, 0⟩]).toArray 25
  have bA_122 := bA_121.alloc (.cells #[.int .u8 5, .int .u64 1, .string ⟨#[]⟩, .slice none 0 0, .int .u8 1, .int .u64 0, .string ⟨#[]⟩, .slice none 0 0, .int .u8 6, .int .u64 1, .string ⟨#[]⟩, .slice none 0 0, .int .u8 2, .int .u64 1, .string ⟨#[]⟩, .slice none 0 0] 25)
  have bB_122 := bB_121.alloc (.cells #[.int .u8 5, .int .u64 1, .string ⟨#[]⟩, .slice none 0 0, .int .u8 1, .int .u64 0, .string ⟨#[]⟩, .slice none 0 0, .int .u8 6, .int .u64 1, .string ⟨#[]⟩, .slice none 0 0, .int .u8 2, .int .u64 1, .string ⟨#[]⟩, .slice none 0 0] 25)
  have b3_122 := b3_121.alloc (.cells #[.int .u8 5, .int .u64 1, .string ⟨#[]⟩, .slice none 0 0, .int .u8 1, .int .u64 0, .string ⟨#[]⟩, .slice none 0 0, .int .u8 6, .int .u64 1, .string ⟨#[]⟩, .slice none 0 0, .int .u8 2, .int .u64 1, .string ⟨#[]⟩, .slice none 0 0] 25)
  have HB122 := Aside0.mk (below_alloc HB121.out (.cells #[.int .u8 5, .int .u64 1, .string ⟨#[]⟩, .slice none 0 0, .int .u8 1, .int .u64 0, .string ⟨#[]⟩, .slice none 0 0, .int .u8 6, .int .u64 1, .string ⟨#[]⟩, .slice none 0 0, .int .u8 2, .int .u64 1, .string ⟨#[]⟩, .slice none 0 0] 25))
  have hbs122 : Blk (w121.alloc (.cells #[.int .u8 5, .int .u64 1, .string ⟨#[]⟩, .slice none 0 0, .int .u8 1, .int .u64 0, .string ⟨#[]⟩, .slice none 0 0, .int .u8 6, .int .u64 1, .string ⟨#[]⟩, .slice none 0 0, .int .u8 2, .int .u64 1, .string ⟨#[]⟩, .slice none 0 0] 25)) w121.heap.size (flatK [⟨vOne, none, 0⟩, ⟨vNul, none, 0⟩, ⟨vBig, none, 0⟩, ⟨vTru, none, 0⟩]).toArray 25 := bs122
  obtain ⟨w122, hw122⟩ : ∃ W, w121.alloc (.cells #[.int .u8 5, .int .u64 1, .string ⟨#[]⟩, .slice none 0 0, .int .u8 1, .int .u64 0, .string ⟨#[]⟩, .slice none 0 0, .int .u8 6, .int .u64 1, .string ⟨#[]⟩, .slice none 0 0, .int .u8 2, .int .u64 1, .string ⟨#[]⟩, .slice none 0 0] 25) = W := ⟨_, rfl⟩
  rw [hw122] at bA_122 bB_122 b3_122 hbs122 HB122 ⊢
  clear hw122 bs122
  refine hK.out _ _ ⟨bA_122.c4.1, bA_122.c4.2.1, bA_122.c4.2.2.1, bA_122.c4.2.2.2, bB_122.c4.1, bB_122.c4.2.1, bB_122.c4.2.2.1, bB_122.c4.2.2.2⟩ (fun _ => ?_)
  clear hK K
  refine norm_ (a' := ?_) ?_ ?_
  rotate_left
  ·try simp only [Act.put, putAll, List.setIfInBounds_toArray, List.set_cons_zero, List.set_cons_succ]
   rfl
  refine one_ (i := 5) (N := some 14) #[true, true, true, true, true, true, true, false] rfl rfl (by kernel_rfl) (by decide) (fun K hK => ?_)
  have hC123 := C_lit (ks := [⟨vOne, none, 0⟩, ⟨vNul, none, 0⟩, ⟨vBig, none, 0⟩, ⟨vTru, none, 0⟩]) hbs122 (by decide) (by
   intro q hq
   simp only [List.mem_cons, List.not_mem_nil, or_false] at hq
   rcases hq with rfl | rfl | rfl | rfl <;> exact ⟨C_none _, Nat.le_refl _⟩)
  refine goes_ Try.func21 (by kernel_rfl) rfl #[.int .u8 23, .slice (some ⟨w121.heap.size, 0, none⟩) 4 4] (by rfl) rfl rfl (by (try simp only [List.map_toArray, List.map_cons, List.map_nil]); first | done | rfl) ?_
  refine (many21_any 23 [vOne, vNul, vBig, vTru] w_l4 _ 4 _ hC123 (by decide)).mono ?_
  rintro e w123 ⟨v3, rfl, hR123, hb123⟩
  obtain ⟨A3, c3, rfl, hc3, -⟩ := Kd.R_reads hR123
  have hlt123 := b3_122.lt
  have hRf123 : k25.R 25 w123 _ (fun k => k ≠ w4.heap.size) (.slice A3 4 c3) [vOne, vNul, vBig, vTru] := Kd.R_mono (Kd.R_bound hR123) (fun k hk => by have h1 := hk.2.1; omega)
  refine ⟨_, rfl, ?_⟩
  have bA_123 := bA_122.below hb123
  have bB_123 := bB_122.below hb123
  have b3_123 := b3_122.below hb123
  have bs_123 := hbs122.below hb123
  have HB123 := Aside0.mk (below_step HB122.out hb123)
  refine hK.out _ _ ⟨bA_123.c4.1, bA_123.c4.2.1, bA_123.c4.2.2.1, bA_123.c4.2.2.2, bB_123.c4.1, bB_123.c4.2.1, bB_123.c4.2.2.1, bB_123.c4.2.2.2⟩ (fun _ => ?_)
  clear hK K
  refine norm_ (a' := ?_) ?_ ?_
  rotate_left
  ·try simp only [Act.put, putAll, List.setIfInBounds_toArray, List.set_cons_zero, List.set_cons_succ]
   rfl
  refine last_ (i := 7) (N := none) #[true, true, true, true, true, true, true, true] rfl rfl (by kernel_rfl) (by decide) (fun K hK => ?_)
  rw [if_pos (by rfl)]
  obtain ⟨e0, e1, e2, e3⟩ := b3_123.c4
  have fz := b3_123.fz
  unfold Oper.wp
  go_simp
  refine hK.out _ _ ?_
  refine done_ (by kernel_rfl) ?_
  refine HK.out w4.heap.size A3 c3 _ _ hge119 hc3 ?_ ?_ ?_ ?_ ?_
  ·exact Blk.far (Blk.far (Blk.far (Blk.far bA_123 n1_119 _) n1_119 _) n1_119 _) n1_119 _
  ·exact Blk.far (Blk.far (Blk.far (Blk.far bB_123 n2_119 _) n2_119 _) n2_119 _) n2_119 _
  ·refine blk_put (cs := #[.int .u8 23, .int .u64 0, .string ⟨#[]⟩, .slice none 0 0]) ?_ 3 _ rfl
   refine blk_put (cs := #[.int .u8 23, .int .u64 0, .string ⟨#[]⟩, .slice none 0 0]) ?_ 2 _ rfl
   refine blk_put (cs := #[.int .u8 23, .int .u64 0, .string ⟨#[]⟩, .slice none 0 0]) ?_ 1 _ rfl
   refine blk_put (cs := #[.int .u8 0, .int .u64 0, .string ⟨#[]⟩, .slice none 0 0]) ?_ 0 _ rfl
   exact b3_123
  ·exact ⟨_, _, Kd.R_far (Kd.R_far (Kd.R_far (Kd.R_far hRf123 (fun _ h => h) _) (fun _ h => h) _) (fun _ h => h) _) (fun _ h => h) _⟩
  ·exact below_set (below_set (below_set (below_set HB123.out hge119) hge119) hge119) hge119
end Go.Proofs.Ytdilbnggedidnaa.PVal
namespace Go.Proofs.Ytdilbnggedidnaa.PVal
open Go.RowKit Go.Shelf Go.Proofs.YtdilbnggedidnaaW.PrintWords Go.Proofs.YtdilbnggedidnaaW.PrintLast
set_option linter.unusedVariables false
set_option linter.unusedSimpArgs false
set_option maxRecDepth 100000 in
set_option maxHeartbeats 4000000 in
theorem rights3_any (x : S25) (w : World) (ho : okV x) (A : Option Addr) (c : Nat) (ha : k25.C w A x.f3.length x.f3) (hc : x.f3.length ≤ c) (hx : itemsN x + textsN x ≤ 1048576) :
  Calls Try.prog 3 #[.agg #[.int .u8 x.f0, .int .u64 x.f1, .string x.f2, .slice A x.f3.length c]] w fun e w' => e = .returned (.bool true) ∧ Below w.heap.size w w' := by
 have HA := Aside0.mk ha
 have hN : itemsN x ≤ 4294967296 := by omega
 clear ha
 go_enter Try.func3, Try.ntmps3
 go_wp2_with fail
 have bX := (Blk.new w #[.int .u8 x.f0, .int .u64 x.f1, .string x.f2, .slice A x.f3.length c] 25).alloc (.cells #[.int .u8 x.f0, .int .u64 x.f1, .string x.f2, .slice A x.f3.length c] 25)
 have bL := Blk.new (w.alloc (.cells #[.int .u8 x.f0, .int .u64 x.f1, .string x.f2, .slice A x.f3.length c] 25)) (flatK [⟨x, A, c⟩]).toArray 25
 have hB0 := below_alloc (below_alloc (Below.refl w.heap.size w) (.cells #[.int .u8 x.f0, .int .u64 x.f1, .string x.f2, .slice A x.f3.length c] 25)) (.cells #[.int .u8 x.f0, .int .u64 x.f1, .string x.f2, .slice A x.f3.length c] 25)
 rw [World.size_alloc] at bL
 have hCL := C_lit (ks := [⟨x, A, c⟩]) bL (by simp) (by
  intro q hq
  simp only [List.mem_cons, List.not_mem_nil, or_false] at hq
  rcases hq with rfl
  exact ⟨Kd.C_below HA.out hB0, hc⟩)
 refine (large14_any [x] _ 1 _ hCL (by simp) (by simp only [itemsL, textsL]; omega)).mono ?_
 rintro e w1 ⟨rfl, hb1⟩
 have bX1 := bX.below hb1
 have HB1 := Aside0.mk (below_step hB0 hb1)
 clear bX bL hB0 hCL hb1
 by_cases hl : largeB [x] = true
 ·rw [hl]
  go_wp2_with fail
  refine (works15_any _).mono ?_
  rintro e w2 ⟨rfl, hb2⟩
  go_wp2_with fail
  go_ret
  exact ⟨rfl, below_step HB1.out hb2⟩
 ·have hl' : largeB [x] = false := by simpa using hl
  rw [hl']
  clear hl hl'
  obtain ⟨p0, p1, p2, p3⟩ := bX1.c4
  go_wp2_with fail
  refine (copy16_any x hN A c _ (Kd.C_below HA.out HB1.out) hc).mono ?_
  rintro e w2 ⟨A2, c2, rfl, hR2, hb2⟩
  have bX2 := (bX1.below hb2).alloc (.cells #[.int .u8 x.f0, .int .u64 x.f1, .string x.f2, .slice A2 x.f3.length c2] 25)
  have bI := Blk.new w2 #[.int .u8 x.f0, .int .u64 x.f1, .string x.f2, .slice A2 x.f3.length c2] 25
  have HB2 := Aside0.mk (below_alloc (below_step HB1.out hb2) (.cells #[.int .u8 x.f0, .int .u64 x.f1, .string x.f2, .slice A2 x.f3.length c2] 25))
  have hC2 := (Kd.R_reads' hR2).2
  have HC2 := Aside0.mk (Kd.C_below hC2.2 (below_alloc (Below.refl _ _) (.cells #[.int .u8 x.f0, .int .u64 x.f1, .string x.f2, .slice A2 x.f3.length c2] 25)))
  have hc2 := hC2.1
  clear p0 p1 p2 p3 bX1 hR2 hb2 hC2
  go_wp2_with fail
  obtain ⟨b1, hb1⟩ : ∃ b, w.heap.size = b := ⟨_, rfl⟩
  obtain ⟨b2, hb2⟩ : ∃ b, w2.heap.size = b := ⟨_, rfl⟩
  obtain ⟨w3, hw3⟩ : ∃ W, w2.alloc (.cells #[.int .u8 x.f0, .int .u64 x.f1, .string x.f2, .slice A2 x.f3.length c2] 25) = W := ⟨_, rfl⟩
  rw [hw3] at bX2 bI HB2 HC2 ⊢
  rw [hb1] at bX2 ⊢
  rw [hb2] at bI ⊢
  replace HA := Aside0.mk (Kd.C_below HA.out (by have := HB2.out; rw [hb1] at this; rw [hb1]; exact this))
  clear hw3 hb1 hb2
  refine start_ (n := 14) (S := fun w' => Blk w' b1 #[.int .u8 x.f0, .int .u64 x.f1, .string x.f2, .slice A x.f3.length c] 25 ∧ Blk w' b2 #[.int .u8 x.f0, .int .u64 x.f1, .string x.f2, .slice A2 x.f3.length c2] 25) (ds := []) #[false, false, false, false, false, false, false, false, false, false, false, false, false, false] (by kernel_rfl) rfl rfl ⟨bX2, bI⟩ (fun hS => ?_)
  replace HA := Aside0.mk (Kd.C_below HA.out (below_drew (Below.refl _ _)))
  replace HC2 := Aside0.mk (Kd.C_below HC2.out (below_drew (Below.refl _ _)))
  replace HB2 := Aside0.mk (below_drew HB2.out)
  generalize w3.drew = wd1 at HA HC2 HB2 hS ⊢
  clear bX2 bI
  refine take_ (i := 0) (N := some 10) (v := .agg #[.int .u8 x.f0, .int .u64 x.f1, .string x.f2, .slice A2 x.f3.length c2]) #[true, false, false, false, false, false, false, false, false, false, false, false, false, false] rfl rfl (by kernel_rfl) (fun _ _ _ h => h) (Or.inl ⟨by rfl, ?_⟩) hS rfl ?_
  ·rintro w' ⟨h0, h1⟩
   obtain ⟨e0, e1, e2, e3⟩ := h1.c4
   go_simp
  refine norm_ (a' := ?_) ?_ ?_
  rotate_left
  ·try simp only [Act.put, putAll, List.setIfInBounds_toArray, List.set_cons_zero, List.set_cons_succ]
   rfl
  refine take_ (i := 2) (N := some 12) (v := .agg #[.int .u8 x.f0, .int .u64 x.f1, .string x.f2, .slice A x.f3.length c]) #[true, false, true, false, false, false, false, false, false, false, false, false, false, false] rfl rfl (by kernel_rfl) (fun _ _ _ h => h) (Or.inl ⟨by rfl, ?_⟩) hS rfl ?_
  ·rintro w' ⟨h0, h1⟩
   obtain ⟨e0, e1, e2, e3⟩ := h0.c4
   go_simp
  refine norm_ (a' := ?_) ?_ ?_
  rotate_left
  ·try simp only [Act.put, putAll, List.setIfInBounds_toArray, List.set_cons_zero, List.set_cons_succ]
   rfl
  refine one_ (i := 1) (N := some 11) #[true, true, true, false, false, false, false, false, false, false, false, false, false, false] rfl rfl (by kernel_rfl) (by decide) (fun K hK => ?_)
  refine goes_ Try.func17 (by kernel_rfl) rfl #[.agg #[.int .u8 x.f0, .int .u64 x.f1, .string x.f2, .slice A2 x.f3.length c2]] (by rfl) rfl rfl (by (try simp only [List.map_toArray, List.map_cons, List.map_nil]); first | done | rfl) ?_
  refine (right17_any x hN ho A2 c2 _ HC2.out hc2).mono ?_
  rintro e w2 ⟨rfl, hb2⟩
  refine ⟨_, rfl, ?_⟩
  have hS2 : Blk w2 b1 #[.int .u8 x.f0, .int .u64 x.f1, .string x.f2, .slice A x.f3.length c] 25 ∧ Blk w2 b2 #[.int .u8 x.f0, .int .u64 x.f1, .string x.f2, .slice A2 x.f3.length c2] 25 := ⟨hS.1.below hb2, hS.2.below hb2⟩
  have HA2 := Aside0.mk (Kd.C_below HA.out hb2)
  have HC22 := Aside0.mk (Kd.C_below HC2.out hb2)
  have HB22 := Aside0.mk (below_step HB2.out hb2)
  refine hK.out _ _ hS2 (fun _ => ?_)
  clear hK K hb2
  refine norm_ (a' := ?_) ?_ ?_
  rotate_left
  ·try simp only [Act.put, putAll, List.setIfInBounds_toArray, List.set_cons_zero, List.set_cons_succ]
   rfl
  refine one_ (i := 3) (N := some 13) #[true, true, true, true, false, false, false, false, false, false, false, false, false, false] rfl rfl (by kernel_rfl) (by decide) (fun K hK => ?_)
  refine goes_ Try.func18 (by kernel_rfl) rfl #[.agg #[.int .u8 x.f0, .int .u64 x.f1, .string x.f2, .slice A x.f3.length c]] (by rfl) rfl rfl (by (try simp only [List.map_toArray, List.map_cons, List.map_nil]); first | done | rfl) ?_
  refine (right18_any x hN ho A c _ HA2.out hc).mono ?_
  rintro e w3 ⟨rfl, hb3⟩
  refine ⟨_, rfl, ?_⟩
  have hS3 : Blk w3 b1 #[.int .u8 x.f0, .int .u64 x.f1, .string x.f2, .slice A x.f3.length c] 25 ∧ Blk w3 b2 #[.int .u8 x.f0, .int .u64 x.f1, .string x.f2, .slice A2 x.f3.length c2] 25 := ⟨hS2.1.below hb3, hS2.2.below hb3⟩
  have HA3 := Aside0.mk (Kd.C_below HA2.out hb3)
  have HC23 := Aside0.mk (Kd.C_below HC22.out hb3)
  have HB23 := Aside0.mk (below_step HB22.out hb3)
  refine hK.out _ _ hS3 (fun _ => ?_)
  clear hK K hb3 hS2
  refine norm_ (a' := ?_) ?_ ?_
  rotate_left
  ·try simp only [Act.put, putAll, List.setIfInBounds_toArray, List.set_cons_zero, List.set_cons_succ]
   rfl
  refine pure_ (i := 4) (N := some 14) (v := ?_) (a' := ?_) #[true, true, true, true, true, false, false, false, false, false, false, false, false, false] rfl rfl (by kernel_rfl) (fun _ _ _ h => h) (Or.inl ⟨by rfl, ?_⟩) ?_ ?_
  rotate_left
  ·intro w'
   go_simp
   with_reducible rfl
  rotate_left
  ·simp only [Act.put, List.setIfInBounds_toArray, List.set_cons_zero, List.set_cons_succ, i64_w, i32_w]
   rfl
  refine pure_ (i := 5) (N := some 15) (v := ?_) (a' := ?_) #[true, true, true, true, true, true, false, false, false, false, false, false, false, false] rfl rfl (by kernel_rfl) (fun _ _ _ h => h) (Or.inl ⟨by rfl, ?_⟩) ?_ ?_
  rotate_left
  ·intro w'
   go_simp
   with_reducible rfl
  rotate_left
  ·simp only [Act.put, List.setIfInBounds_toArray, List.set_cons_zero, List.set_cons_succ, i64_w, i32_w]
   rfl
  refine take_ (i := 6) (N := some 16) (v := .agg #[.int .u8 x.f0, .int .u64 x.f1, .string x.f2, .slice A2 x.f3.length c2]) #[true, true, true, true, true, true, true, false, false, false, false, false, false, false] rfl rfl (by kernel_rfl) (fun _ _ _ h => h) (Or.inl ⟨by rfl, ?_⟩) hS3 rfl ?_
  ·rintro w' ⟨h0, h1⟩
   obtain ⟨e0, e1, e2, e3⟩ := h1.c4
   go_simp
  refine norm_ (a' := ?_) ?_ ?_
  rotate_left
  ·try simp only [Act.put, putAll, List.setIfInBounds_toArray, List.set_cons_zero, List.set_cons_succ]
   rfl
  refine take_ (i := 7) (N := some 17) (v := .agg #[.int .u8 x.f0, .int .u64 x.f1, .string x.f2, .slice A x.f3.length c]) #[true, true, true, true, true, true, true, true, false, false, false, false, false, false] rfl rfl (by kernel_rfl) (fun _ _ _ h => h) (Or.inl ⟨by rfl, ?_⟩) hS3 rfl ?_
  ·rintro w' ⟨h0, h1⟩
   obtain ⟨e0, e1, e2, e3⟩ := h0.c4
   go_simp
  refine norm_ (a' := ?_) ?_ ?_
  rotate_left
  ·try simp only [Act.put, putAll, List.setIfInBounds_toArray, List.set_cons_zero, List.set_cons_succ]
   rfl
  refine one_ (i := 8) (N := some 18) #[true, true, true, true, true, true, true, true, true, false, false, false, false, false] rfl rfl (by kernel_rfl) (by decide) (fun K hK => ?_)
  refine goes_ Try.func19 (by kernel_rfl) rfl #[.agg #[.int .u8 x.f0, .int .u64 x.f1, .string x.f2, .slice A2 x.f3.length c2], .agg #[.int .u8 x.f0, .int .u64 x.f1, .string x.f2, .slice A x.f3.length c]] (by rfl) rfl rfl (by (try simp only [List.map_toArray, List.map_cons, List.map_nil]); first | done | rfl) ?_
  refine (same19_any x x A2 A c2 c _ HC23.out hc2 hN HA3.out hc).mono ?_
  rintro e w4 ⟨he, hb4⟩
  rw [veq_refl] at he
  subst he
  refine ⟨_, rfl, ?_⟩
  have hS4 : Blk w4 b1 #[.int .u8 x.f0, .int .u64 x.f1, .string x.f2, .slice A x.f3.length c] 25 ∧ Blk w4 b2 #[.int .u8 x.f0, .int .u64 x.f1, .string x.f2, .slice A2 x.f3.length c2] 25 := ⟨hS3.1.below hb4, hS3.2.below hb4⟩
  have HA4 := Aside0.mk (Kd.C_below HA3.out hb4)
  have HC24 := Aside0.mk (Kd.C_below HC23.out hb4)
  have HB24 := Aside0.mk (below_step HB23.out hb4)
  refine hK.out _ _ hS4 (fun _ => ?_)
  clear hK K hb4 hS3
  refine norm_ (a' := ?_) ?_ ?_
  rotate_left
  ·try simp only [Act.put, putAll, List.setIfInBounds_toArray, List.set_cons_zero, List.set_cons_succ]
   rfl
  refine pure_ (i := 9) (N := some 19) (v := ?_) (a' := ?_) #[true, true, true, true, true, true, true, true, true, true, false, false, false, false] rfl rfl (by kernel_rfl) (fun _ _ _ h => h) (Or.inl ⟨by rfl, ?_⟩) ?_ ?_
  rotate_left
  ·intro w'
   go_simp
   with_reducible rfl
  rotate_left
  ·simp only [Act.put, List.setIfInBounds_toArray, List.set_cons_zero, List.set_cons_succ, i64_w, i32_w]
   rfl
  refine pure_ (i := 10) (N := some 20) (v := ?_) (a' := ?_) #[true, true, true, true, true, true, true, true, true, true, true, false, false, false] rfl rfl (by kernel_rfl) (fun _ _ _ h => h) (Or.inl ⟨by rfl, ?_⟩) ?_ ?_
  rotate_left
  ·intro w'
   go_simp
   with_reducible rfl
  rotate_left
  ·simp only [Act.put, List.setIfInBounds_toArray, List.set_cons_zero, List.set_cons_succ, i64_w, i32_w]
   rfl
  refine one_ (i := 11) (N := some 21) #[true, true, true, true, true, true, true, true, true, true, true, true, false, false] rfl rfl (by kernel_rfl) (by decide) (fun K hK => ?_)
  refine goes_ Try.func15 (by kernel_rfl) rfl #[] (by rfl) rfl rfl (by (try simp only [List.map_toArray, List.map_cons, List.map_nil]); first | done | rfl) ?_
  refine (works15_any _).mono ?_
  rintro e w5 ⟨rfl, hb5⟩
  refine ⟨_, rfl, ?_⟩
  have hS5 : Blk w5 b1 #[.int .u8 x.f0, .int .u64 x.f1, .string x.f2, .slice A x.f3.length c] 25 ∧ Blk w5 b2 #[.int .u8 x.f0, .int .u64 x.f1, .string x.f2, .slice A2 x.f3.length c2] 25 := ⟨hS4.1.below hb5, hS4.2.below hb5⟩
  have HA5 := Aside0.mk (Kd.C_below HA4.out hb5)
  have HC25 := Aside0.mk (Kd.C_below HC24.out hb5)
  have HB25 := Aside0.mk (below_step HB24.out hb5)
  refine hK.out _ _ hS5 (fun _ => ?_)
  clear hK K hb5 hS4
  refine norm_ (a' := ?_) ?_ ?_
  rotate_left
  ·try simp only [Act.put, putAll, List.setIfInBounds_toArray, List.set_cons_zero, List.set_cons_succ]
   rfl
  refine pure_ (i := 12) (N := some 22) (v := ?_) (a' := ?_) #[true, true, true, true, true, true, true, true, true, true, true, true, true, false] rfl rfl (by kernel_rfl) (fun _ _ _ h => h) (Or.inl ⟨by rfl, ?_⟩) ?_ ?_
  rotate_left
  ·intro w'
   go_simp
   with_reducible rfl
  rotate_left
  ·simp only [Act.put, List.setIfInBounds_toArray, List.set_cons_zero, List.set_cons_succ, i64_w, i32_w]
   rfl
  refine pure_ (i := 13) (N := some 2) (v := ?_) (a' := ?_) #[true, true, true, true, true, true, true, true, true, true, true, true, true, true] rfl rfl (by kernel_rfl) (fun _ _ _ h => h) (Or.inl ⟨by rfl, ?_⟩) ?_ ?_
  rotate_left
  ·intro w'
   go_simp
   with_reducible rfl
  rotate_left
  ·simp only [Act.put, List.setIfInBounds_toArray, List.set_cons_zero, List.set_cons_succ, i64_w, i32_w]
   rfl
  refine done_ (by kernel_rfl) ?_
  go_wp2_with fail
  go_ret
  exact ⟨rfl, HB25.out⟩
end Go.Proofs.Ytdilbnggedidnaa.PVal
