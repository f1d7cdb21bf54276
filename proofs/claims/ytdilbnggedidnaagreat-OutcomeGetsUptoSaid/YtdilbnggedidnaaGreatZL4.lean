import Derived.Test.YtdilbnggedidnaaGreatZH2
namespace Go.Proofs.YtdilbnggedidnaaGreat.PVal
open Go.RowKit Go.Shelf Go.Proofs.YtdilbnggedidnaaGreatW.PrintWords Go.Proofs.YtdilbnggedidnaaGreatW.PrintLast
set_option linter.unusedVariables false
set_option linter.unusedSimpArgs false
set_option maxRecDepth 100000
set_option maxHeartbeats 8000000
attribute [local go_sem] eqA72
/-- what stays in the law -/
def OBZ (w : World) (v : S25) (A : Option Addr) (c b1 : Nat) (wr : World) : Prop := Blk wr b1 #[.int .u8 v.f0, .int .u64 v.f1, .string v.f2, .slice A v.f3.length c] 25 ∧ k25.C wr A v.f3.length v.f3 ∧ Below w.heap.size w wr
theorem OBZ.below {w : World} {v : S25} {A : Option Addr} {c b1 : Nat} {wr wx : World} (h : OBZ w v A c b1 wr) (hb : Below wr.heap.size wr wx) : OBZ w v A c b1 wx := ⟨h.1.below hb, Kd.C_below h.2.1 hb, below_step h.2.2 hb⟩
theorem gets4_any (v : S25) (w : World) (ho : okV v) (A : Option Addr) (c : Nat) (hC : k25.C w A v.f3.length v.f3) (hc : v.f3.length ≤ c) (hn : itemsN v + textsN v ≤ 1048576) :
    Calls Tryz.prog 4 #[.agg #[.int .u8 v.f0, .int .u64 v.f1, .string v.f2, .slice A v.f3.length c]] w fun e w' => e = .returned (.bool true) ∧ Below w.heap.size w w' := by
  have HO := Aside0.mk ho
  have HN := Aside0.mk hn
  have hN : itemsN v ≤ 4294967296 := by omega
  have HNN := Aside0.mk hN
  have bV := Blk.new w #[.int .u8 v.f0, .int .u64 v.f1, .string v.f2, .slice A v.f3.length c] 25
  have hal := below_alloc (Below.refl w.heap.size w) (.cells #[.int .u8 v.f0, .int .u64 v.f1, .string v.f2, .slice A v.f3.length c] 25)
  have HC1 := Aside0.mk (Kd.C_below hC hal)
  clear ho hC hn hN
  go_enter Tryz.func4, Tryz.ntmps4
  go_upto_region 1 with fail
  obtain ⟨w1, e1⟩ : ∃ W, w.alloc (.cells #[.int .u8 v.f0, .int .u64 v.f1, .string v.f2, .slice A v.f3.length c] 25) = W := ⟨_, rfl⟩
  obtain ⟨b1, eb1⟩ : ∃ b, w.heap.size = b := ⟨_, rfl⟩
  rw [e1] at bV hal HC1 ⊢
  rw [eb1] at bV ⊢
  have HS1 : Aside0 (OBZ w v A c b1 w1) := ⟨bV, HC1.out, hal⟩
  clear e1 eb1 hal HC1
  obtain ⟨q0, q1, q2, q3⟩ := bV.c4
  clear bV
  go_wp2_with fail
  have bL := Blk.new w1 (flatK [⟨v, A, c⟩]).toArray 25
  have hal1 := below_alloc (Below.refl w1.heap.size w1) (.cells #[.int .u8 v.f0, .int .u64 v.f1, .string v.f2, .slice A v.f3.length c] 25)
  have hCL := C_lit (ks := [⟨v, A, c⟩]) bL (by simp) (by
    intro q hq
    simp only [List.mem_cons, List.not_mem_nil, or_false] at hq
    rcases hq with rfl
    exact ⟨Kd.C_below HS1.out.2.1 hal1, hc⟩)
  refine (large14_any [v] _ 1 _ hCL (by simp) (by have := HN.out; simp only [itemsL, textsL]; omega)).mono ?_
  rintro e w2 ⟨rfl, hb2⟩
  have HS2 := Aside0.mk (HS1.out.below (below_step hal1 hb2))
  clear bL hal1 hCL hb2 q0 q1 q2 q3 HS1
  cases hlb : largeB [v] with
  | true =>
    clear hlb
    go_wp2_with fail
    refine (works51_any _).mono ?_
    rintro e wz ⟨rfl, hbz⟩
    go_wp2_with fail
    go_ret
    exact ⟨rfl, below_step HS2.out.2.2 hbz⟩
  | false =>
  clear hlb
  obtain ⟨q0, q1, q2, q3⟩ := HS2.out.1.c4
  go_wp2_with fail
  refine (copy16_any v HNN.out A c _ HS2.out.2.1 hc).mono ?_
  rintro e w3 ⟨A2, c2, rfl, hm3⟩
  have hal3 := below_alloc (Below.refl w3.heap.size w3) (.cells #[.int .u8 v.f0, .int .u64 v.f1, .string v.f2, .slice A2 v.f3.length c2] 25)
  have HS3 := Aside0.mk (HS2.out.below (below_step hm3.2 hal3))
  have BI3 := Aside0.mk (Blk.new w3 #[.int .u8 v.f0, .int .u64 v.f1, .string v.f2, .slice A2 v.f3.length c2] 25)
  have hc2 := (Kd.R_reads' hm3.1).2.1
  have HCI3 := Aside0.mk (Kd.C_below (Kd.R_reads' hm3.1).2.2 hal3)
  clear hm3 hal3 q0 q1 q2 q3
  go_upto_region 4 with fail
  obtain ⟨bi, ebi⟩ : ∃ b, w3.heap.size = b := ⟨_, rfl⟩
  obtain ⟨w4, e4⟩ : ∃ W, w3.alloc (.cells #[.int .u8 v.f0, .int .u64 v.f1, .string v.f2, .slice A2 v.f3.length c2] 25) = W := ⟨_, rfl⟩
  rw [e4] at HS3 BI3 HCI3 ⊢
  rw [ebi] at BI3 ⊢
  clear e4 ebi
  obtain ⟨p0, p1, p2, p3⟩ := BI3.out.c4
  go_wp2_with fail
  refine (get53_any v HNN.out HO.out A2 c2 _ HCI3.out hc2).mono ?_
  rintro e w5 ⟨he, hb5⟩
  obtain ⟨o, eo⟩ : ∃ o, (getOF v).getD zOut = o := ⟨_, rfl⟩
  obtain ⟨n', en⟩ : ∃ n : Int, (if (getOF v).isSome then 0 else 6) = n := ⟨_, rfl⟩
  have EO := Aside0.mk eo
  have EN := Aside0.mk en
  rw [eo, en] at he
  subst he
  clear eo en
  have hal5 := below_alloc hb5 (.cells #[.int .u8 o.k, .int .u64 o.a, .int .u64 o.b, .string o.cond] 37)
  have HS5 := Aside0.mk (HS3.out.below hal5)
  have BI5 := Aside0.mk (BI3.out.below hal5)
  have HCI5 := Aside0.mk (Kd.C_below HCI3.out hal5)
  have BO5 := Aside0.mk (Blk.new w5 #[.int .u8 o.k, .int .u64 o.a, .int .u64 o.b, .string o.cond] 37)
  clear hb5 hal5 p0 p1 p2 p3
  go_upto_region 5 with fail
  obtain ⟨bo, ebo⟩ : ∃ b, w5.heap.size = b := ⟨_, rfl⟩
  obtain ⟨w6, e6⟩ : ∃ W, w5.alloc (.cells #[.int .u8 o.k, .int .u64 o.a, .int .u64 o.b, .string o.cond] 37) = W := ⟨_, rfl⟩
  rw [e6] at HS5 BI5 HCI5 BO5 ⊢
  rw [ebo] at BO5 ⊢
  clear e6 ebo
  obtain ⟨q0, q1, q2, q3⟩ := HS5.out.1.c4
  go_wp2_with fail
  refine (rget14_any v HNN.out HO.out A c _ HS5.out.2.1 hc).mono ?_
  rintro e w7 ⟨he, hb7⟩
  rw [EO.out, EN.out] at he
  subst he
  have hal7 := below_alloc hb7 (.cells #[.int .u8 o.k, .int .u64 o.a, .int .u64 o.b, .string o.cond] 37)
  have HS7 := Aside0.mk (HS5.out.below hal7)
  have BI7 := Aside0.mk (BI5.out.below hal7)
  have HCI7 := Aside0.mk (Kd.C_below HCI5.out hal7)
  have BO7 := Aside0.mk (BO5.out.below hal7)
  have BP7 := Aside0.mk (Blk.new w7 #[.int .u8 o.k, .int .u64 o.a, .int .u64 o.b, .string o.cond] 37)
  clear hb7 hal7 q0 q1 q2 q3
  go_upto_region 6 with fail
  obtain ⟨bp, ebp⟩ : ∃ b, w7.heap.size = b := ⟨_, rfl⟩
  obtain ⟨w8, e8⟩ : ∃ W, w7.alloc (.cells #[.int .u8 o.k, .int .u64 o.a, .int .u64 o.b, .string o.cond] 37) = W := ⟨_, rfl⟩
  rw [e8] at HS7 BI7 HCI7 BO7 BP7 ⊢
  rw [ebp] at BP7 ⊢
  clear e8 ebp
  obtain ⟨p0, p1, p2, p3⟩ := BI7.out.c4
  obtain ⟨q0, q1, q2, q3⟩ := HS7.out.1.c4
  obtain ⟨o0, o1, o2, o3⟩ := BO7.out.c4
  obtain ⟨r0, r1, r2, r3⟩ := BP7.out.c4
  go_wp2_with fail
  refine (same19_any v v A2 A c2 c _ HCI7.out hc2 HNN.out HS7.out.2.1 hc).mono ?_
  rintro e w9 ⟨he, hb9⟩
  rw [veq_refl] at he
  subst he
  have HS9 := Aside0.mk (HS7.out.below hb9)
  clear hb9 p0 p1 p2 p3 q0 q1 q2 q3 o0 o1 o2 o3 r0 r1 r2 r3
  go_wp2_with fail
  refine (works51_any _).mono ?_
  rintro e wz ⟨rfl, hbz⟩
  go_wp2_with fail
  go_ret
  exact ⟨rfl, below_step HS9.out.2.2 hbz⟩
end Go.Proofs.YtdilbnggedidnaaGreat.PVal
