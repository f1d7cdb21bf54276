import Derived.Test.YtdilbnggedidnaaGreatZH1
namespace Go.Proofs.YtdilbnggedidnaaGreat.PVal
open Go.RowKit Go.Shelf Go.Proofs.YtdilbnggedidnaaGreatW.PrintWords Go.Proofs.YtdilbnggedidnaaGreatW.PrintLast
set_option linter.unusedVariables false
set_option linter.unusedSimpArgs false
set_option maxRecDepth 100000
set_option maxHeartbeats 8000000
attribute [local go_sem] eqA72
/-- what stays in the law -/
def OBZ (w : World) (v : S25) (A : Option Addr) (c b1 : Nat) (wr : World) : Prop := Blk wr b1 #[.int .u8 v.f0, .int .u64 v.f1, .string v.f2, .slice A v.f3.length c] 25 ∧ k25.C wr A v.f3.length v.f3 ∧ Below w.heap.size w wr
theorem OBZ.below {w : World} {v : S25} {A : Option Addr} {c b1 : Nat} {wr wx : World} (h : OBZ w v A c b1 wr) (hb : Below wr.heap.size wr wx) : OBZ w v A c b1 wx := ⟨h.1.below hb, Kd.C_below h.2.1 hb, below_step h.2.2 hb⟩
theorem conds3_any (s : ByteArray) (v : S25) (w : World) (hs : s.size ≤ 1048576) (ho : okV v) (A : Option Addr) (c : Nat) (hC : k25.C w A v.f3.length v.f3) (hc : v.f3.length ≤ c) (hn : itemsN v + textsN v ≤ 1048576) :
    Calls Tryz.prog 3 #[.string s, .agg #[.int .u8 v.f0, .int .u64 v.f1, .string v.f2, .slice A v.f3.length c]] w fun e w' => e = .returned (.bool true) ∧ Below w.heap.size w w' := by
  have HO := Aside0.mk ho
  have HN := Aside0.mk hn
  have hN : itemsN v ≤ 4294967296 := by omega
  have HNN := Aside0.mk hN
  have bV := Blk.new w #[.int .u8 v.f0, .int .u64 v.f1, .string v.f2, .slice A v.f3.length c] 25
  have hal := below_alloc (Below.refl w.heap.size w) (.cells #[.int .u8 v.f0, .int .u64 v.f1, .string v.f2, .slice A v.f3.length c] 25)
  have HC1 := Aside0.mk (Kd.C_below hC hal)
  clear ho hC hn hN
  go_enter Tryz.func3, Tryz.ntmps3
  go_upto_region 1 with fail
  obtain ⟨w1, e1⟩ : ∃ W, w.alloc (.cells #[.int .u8 v.f0, .int .u64 v.f1, .string v.f2, .slice A v.f3.length c] 25) = W := ⟨_, rfl⟩
  obtain ⟨b1, eb1⟩ : ∃ b, w.heap.size = b := ⟨_, rfl⟩
  rw [e1] at bV hal HC1 ⊢
  rw [eb1] at bV ⊢
  have HS1 : Aside0 (OBZ w v A c b1 w1) := ⟨bV, HC1.out, hal⟩
  clear e1 eb1 hal HC1
  obtain ⟨q0, q1, q2, q3⟩ := bV.c4
  clear bV
  by_cases hl : 4096 < s.size
  · have hl' : (4096 : Int) < (s.size : Int) := by omega
    clear hl
    go_wp2_with fail
    refine (works51_any _).mono ?_
    rintro e wz ⟨rfl, hbz⟩
    go_wp2_with fail
    go_ret
    exact ⟨rfl, below_step HS1.out.2.2 hbz⟩
  have hl' : (s.size : Int) ≤ 4096 := by omega
  clear hl
  go_wp2_with fail
  have bL := Blk.new w1 (flatK [⟨v, A, c⟩]).toArray 25
  have hal1 := below_alloc (Below.refl w1.heap.size w1) (.cells #[.int .u8 v.f0, .int .u64 v.f1, .string v.f2, .slice A v.f3.length c] 25)
  have hCL := C_lit (ks := [⟨v, A, c⟩]) bL (by simp) (by
    intro q hq
    simp only [List.mem_cons, List.not_mem_nil, or_false] at hq
    rcases hq with rfl
    exact ⟨Kd.C_below HS1.out.2.1 hal1, hc⟩)
  refine (large14_any [v] _ 1 _ hCL (by simp) (by have := HN.out; simp only [itemsL, textsL]; omega)).mono ?_
  rintro e w2 ⟨rfl, hb2⟩
  have HS2 := Aside0.mk (HS1.out.below (below_step hal1 hb2))
  clear bL hal1 hCL hb2 q0 q1 q2 q3 HS1
  cases hlb : largeB [v] with
  | true =>
    clear hlb
    go_wp2_with fail
    refine (works51_any _).mono ?_
    rintro e wz ⟨rfl, hbz⟩
    go_wp2_with fail
    go_ret
    exact ⟨rfl, below_step HS2.out.2.2 hbz⟩
  | false =>
  clear hlb
  cases hat : asciiB (bytesOf s) with
  | false =>
    have HT := Aside0.mk hat
    have hix : itemsN zVal ≤ 4294967296 := by decide
    clear hat
    obtain ⟨x, ex⟩ : ∃ x, zVal = x := ⟨_, rfl⟩
    have EX := Aside0.mk ex
    rw [ex] at hix
    clear ex
    go_wp2_with fail
    refine (put54_no s (by omega) HT.out _).mono ?_
    rintro e w3 he
    rw [EX.out] at he
    obtain ⟨Ax, cx, rfl, hRx, hb3⟩ := he
    have hal3 := below_alloc (Below.refl w3.heap.size w3) (.cells #[.int .u8 x.f0, .int .u64 x.f1, .string x.f2, .slice Ax x.f3.length cx] 25)
    have HS3 := Aside0.mk (HS2.out.below (below_step hb3 hal3))
    have BX3 := Aside0.mk (Blk.new w3 #[.int .u8 x.f0, .int .u64 x.f1, .string x.f2, .slice Ax x.f3.length cx] 25)
    have hcx := (Kd.R_reads' hRx).2.1
    have HCX3 := Aside0.mk (Kd.C_below (Kd.R_reads' hRx).2.2 hal3)
    clear hRx hb3 hal3
    go_upto_region 4 with fail
    obtain ⟨bx, ebx⟩ : ∃ b, w3.heap.size = b := ⟨_, rfl⟩
    obtain ⟨w4, e4⟩ : ∃ W, w3.alloc (.cells #[.int .u8 x.f0, .int .u64 x.f1, .string x.f2, .slice Ax x.f3.length cx] 25) = W := ⟨_, rfl⟩
    rw [e4] at HS3 BX3 HCX3 ⊢
    rw [ebx] at BX3 ⊢
    clear e4 ebx
    go_wp2_with fail
    refine (rput8_no s (by omega) HT.out _).mono ?_
    rintro e w4' he
    rw [EX.out] at he
    obtain ⟨Ay, cy, rfl, hRy, hb4⟩ := he
    have hal4 := below_alloc (Below.refl w4'.heap.size w4') (.cells #[.int .u8 x.f0, .int .u64 x.f1, .string x.f2, .slice Ay x.f3.length cy] 25)
    have hb44 := below_step hb4 hal4
    have HS5 := Aside0.mk (HS3.out.below hb44)
    have BX5 := Aside0.mk (BX3.out.below hb44)
    have BY5 := Aside0.mk (Blk.new w4' #[.int .u8 x.f0, .int .u64 x.f1, .string x.f2, .slice Ay x.f3.length cy] 25)
    have hcy := (Kd.R_reads' hRy).2.1
    have HCX5 := Aside0.mk (Kd.C_below HCX3.out hb44)
    have HCY5 := Aside0.mk (Kd.C_below (Kd.R_reads' hRy).2.2 hal4)
    clear hRy hb4 hal4 hb44
    go_upto_region 5 with fail
    obtain ⟨by_, eby⟩ : ∃ b, w4'.heap.size = b := ⟨_, rfl⟩
    obtain ⟨w5, e5⟩ : ∃ W, w4'.alloc (.cells #[.int .u8 x.f0, .int .u64 x.f1, .string x.f2, .slice Ay x.f3.length cy] 25) = W := ⟨_, rfl⟩
    rw [e5] at HS5 BX5 BY5 HCX5 HCY5 ⊢
    rw [eby] at BY5 ⊢
    clear e5 eby
    obtain ⟨q0, q1, q2, q3⟩ := HS5.out.1.c4
    go_wp2_with fail
    refine (getCond55_any v HNN.out HO.out A c _ HS5.out.2.1 hc).mono ?_
    rintro e w6 ⟨he, hb6⟩
    obtain ⟨s', es⟩ : ∃ s, (getCondF v).getD ⟨#[]⟩ = s := ⟨_, rfl⟩
    obtain ⟨n', en⟩ : ∃ n : Int, (if (getCondF v).isSome then 0 else 6) = n := ⟨_, rfl⟩
    have ES := Aside0.mk es
    have EN := Aside0.mk en
    rw [es, en] at he
    subst he
    clear es en q0 q1 q2 q3
    have HS6 := Aside0.mk (HS5.out.below hb6)
    have BX6 := Aside0.mk (BX5.out.below hb6)
    have BY6 := Aside0.mk (BY5.out.below hb6)
    have HCX6 := Aside0.mk (Kd.C_below HCX5.out hb6)
    have HCY6 := Aside0.mk (Kd.C_below HCY5.out hb6)
    clear hb6
    obtain ⟨q0, q1, q2, q3⟩ := HS6.out.1.c4
    go_wp2_with fail
    refine (rgetCond10_any v HNN.out HO.out A c _ HS6.out.2.1 hc).mono ?_
    rintro e w7 ⟨he, hb7⟩
    rw [ES.out, EN.out] at he
    subst he
    have HS7 := Aside0.mk (HS6.out.below hb7)
    have BX7 := BX6.out.below hb7
    have BY7 := BY6.out.below hb7
    have HCX7 := Aside0.mk (Kd.C_below HCX6.out hb7)
    have HCY7 := Aside0.mk (Kd.C_below HCY6.out hb7)
    clear hb7 q0 q1 q2 q3
    obtain ⟨p0, p1, p2, p3⟩ := BX7.c4
    obtain ⟨r0, r1, r2, r3⟩ := BY7.c4
    clear BX7 BY7
    go_wp2_with fail
    refine (same19_any x x Ax Ay cx cy _ HCX7.out hcx hix HCY7.out hcy).mono ?_
    rintro e w8 ⟨he, hb8⟩
    rw [veq_refl] at he
    subst he
    have HS8 := Aside0.mk (HS7.out.below hb8)
    clear hb8 p0 p1 p2 p3 r0 r1 r2 r3
    go_wp2_with fail
    refine (works51_any _).mono ?_
    rintro e wz ⟨rfl, hbz⟩
    go_wp2_with fail
    go_ret
    exact ⟨rfl, below_step HS8.out.2.2 hbz⟩
  | true =>
    have HT := Aside0.mk hat
    have hix : itemsN (condV s) ≤ 4294967296 := by have := cond_items s; simp only [itemsL] at this; omega
    clear hat
    obtain ⟨x, ex⟩ : ∃ x, condV s = x := ⟨_, rfl⟩
    have EX := Aside0.mk ex
    rw [ex] at hix
    clear ex
    go_wp2_with fail
    refine (put54_yes s (by omega) HT.out _).mono ?_
    rintro e w3 he
    rw [EX.out] at he
    obtain ⟨Ax, cx, rfl, hRx, hb3⟩ := he
    have hal3 := below_alloc (Below.refl w3.heap.size w3) (.cells #[.int .u8 x.f0, .int .u64 x.f1, .string x.f2, .slice Ax x.f3.length cx] 25)
    have HS3 := Aside0.mk (HS2.out.below (below_step hb3 hal3))
    have BX3 := Aside0.mk (Blk.new w3 #[.int .u8 x.f0, .int .u64 x.f1, .string x.f2, .slice Ax x.f3.length cx] 25)
    have hcx := (Kd.R_reads' hRx).2.1
    have HCX3 := Aside0.mk (Kd.C_below (Kd.R_reads' hRx).2.2 hal3)
    clear hRx hb3 hal3
    go_upto_region 4 with fail
    obtain ⟨bx, ebx⟩ : ∃ b, w3.heap.size = b := ⟨_, rfl⟩
    obtain ⟨w4, e4⟩ : ∃ W, w3.alloc (.cells #[.int .u8 x.f0, .int .u64 x.f1, .string x.f2, .slice Ax x.f3.length cx] 25) = W := ⟨_, rfl⟩
    rw [e4] at HS3 BX3 HCX3 ⊢
    rw [ebx] at BX3 ⊢
    clear e4 ebx
    go_wp2_with fail
    refine (rput8_yes s (by omega) HT.out _).mono ?_
    rintro e w4' he
    rw [EX.out] at he
    obtain ⟨Ay, cy, rfl, hRy, hb4⟩ := he
    have hal4 := below_alloc (Below.refl w4'.heap.size w4') (.cells #[.int .u8 x.f0, .int .u64 x.f1, .string x.f2, .slice Ay x.f3.length cy] 25)
    have hb44 := below_step hb4 hal4
    have HS5 := Aside0.mk (HS3.out.below hb44)
    have BX5 := Aside0.mk (BX3.out.below hb44)
    have BY5 := Aside0.mk (Blk.new w4' #[.int .u8 x.f0, .int .u64 x.f1, .string x.f2, .slice Ay x.f3.length cy] 25)
    have hcy := (Kd.R_reads' hRy).2.1
    have HCX5 := Aside0.mk (Kd.C_below HCX3.out hb44)
    have HCY5 := Aside0.mk (Kd.C_below (Kd.R_reads' hRy).2.2 hal4)
    clear hRy hb4 hal4 hb44
    go_upto_region 5 with fail
    obtain ⟨by_, eby⟩ : ∃ b, w4'.heap.size = b := ⟨_, rfl⟩
    obtain ⟨w5, e5⟩ : ∃ W, w4'.alloc (.cells #[.int .u8 x.f0, .int .u64 x.f1, .string x.f2, .slice Ay x.f3.length cy] 25) = W := ⟨_, rfl⟩
    rw [e5] at HS5 BX5 BY5 HCX5 HCY5 ⊢
    rw [eby] at BY5 ⊢
    clear e5 eby
    obtain ⟨q0, q1, q2, q3⟩ := HS5.out.1.c4
    go_wp2_with fail
    refine (getCond55_any v HNN.out HO.out A c _ HS5.out.2.1 hc).mono ?_
    rintro e w6 ⟨he, hb6⟩
    obtain ⟨s', es⟩ : ∃ s, (getCondF v).getD ⟨#[]⟩ = s := ⟨_, rfl⟩
    obtain ⟨n', en⟩ : ∃ n : Int, (if (getCondF v).isSome then 0 else 6) = n := ⟨_, rfl⟩
    have ES := Aside0.mk es
    have EN := Aside0.mk en
    rw [es, en] at he
    subst he
    clear es en q0 q1 q2 q3
    have HS6 := Aside0.mk (HS5.out.below hb6)
    have BX6 := Aside0.mk (BX5.out.below hb6)
    have BY6 := Aside0.mk (BY5.out.below hb6)
    have HCX6 := Aside0.mk (Kd.C_below HCX5.out hb6)
    have HCY6 := Aside0.mk (Kd.C_below HCY5.out hb6)
    clear hb6
    obtain ⟨q0, q1, q2, q3⟩ := HS6.out.1.c4
    go_wp2_with fail
    refine (rgetCond10_any v HNN.out HO.out A c _ HS6.out.2.1 hc).mono ?_
    rintro e w7 ⟨he, hb7⟩
    rw [ES.out, EN.out] at he
    subst he
    have HS7 := Aside0.mk (HS6.out.below hb7)
    have BX7 := BX6.out.below hb7
    have BY7 := BY6.out.below hb7
    have HCX7 := Aside0.mk (Kd.C_below HCX6.out hb7)
    have HCY7 := Aside0.mk (Kd.C_below HCY6.out hb7)
    clear hb7 q0 q1 q2 q3
    obtain ⟨p0, p1, p2, p3⟩ := BX7.c4
    obtain ⟨r0, r1, r2, r3⟩ := BY7.c4
    clear BX7 BY7
    go_wp2_with fail
    refine (same19_any x x Ax Ay cx cy _ HCX7.out hcx hix HCY7.out hcy).mono ?_
    rintro e w8 ⟨he, hb8⟩
    rw [veq_refl] at he
    subst he
    have HS8 := Aside0.mk (HS7.out.below hb8)
    clear hb8 p0 p1 p2 p3 r0 r1 r2 r3
    go_wp2_with fail
    refine (works51_any _).mono ?_
    rintro e wz ⟨rfl, hbz⟩
    go_wp2_with fail
    go_ret
    exact ⟨rfl, below_step HS8.out.2.2 hbz⟩
end Go.Proofs.YtdilbnggedidnaaGreat.PVal
