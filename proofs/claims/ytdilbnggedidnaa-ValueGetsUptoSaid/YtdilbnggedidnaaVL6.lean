import Derived.Test.YtdilbnggedidnaaV3
namespace Go.Proofs.Ytdilbnggedidnaa.PVal
open Go.RowKit Go.Shelf Go.Proofs.YtdilbnggedidnaaW.PrintWords Go.Proofs.YtdilbnggedidnaaW.PrintLast
set_option linter.unusedVariables false
set_option linter.unusedSimpArgs false
theorem pairsOf_mem : ∀ {l : List S25} {p : S25 × S25}, p ∈ pairsOf l → p.2 ∈ l
 | [], p, h => by simp [pairsOf] at h
 | [_], p, h => by simp [pairsOf] at h
 | a :: b :: l, p, h => by
  rw [pairsOf] at h
  rcases List.mem_cons.1 h with rfl | h
  ·simp
  ·have := pairsOf_mem h; simp [this]
theorem getR_items (m key : S25) (h : itemsN m ≤ 4294967296) : itemsN (getR m key) ≤ 4294967296 := by
 unfold getR getV
 split
 ·cases hf : (pairsOf m.f3).find? (fun p => veq p.1 key) with
  | none => simp [z25, itemsN, itemsL]
  | some p =>
   have h1 := List.mem_of_find?_eq_some hf
   have h2 := pairsOf_mem h1
   have h3 := itemsL_mem h2
   rw [itemsN_eq] at h
   simp; omega
 ·simp [z25, itemsN, itemsL]
set_option maxRecDepth 100000 in
set_option maxHeartbeats 4000000 in
theorem gets6_any (m key : S25) (w : World) (hox : okV m) (A : Option Addr) (c : Nat) (ha : k25.C w A m.f3.length m.f3) (hc0 : m.f3.length ≤ c) (hoy : okV key) (B : Option Addr) (d : Nat) (hb : k25.C w B key.f3.length key.f3) (hc1 : key.f3.length ≤ d) (hx : itemsN m + textsN m + (itemsN key + textsN key) ≤ 1048576) :
  Calls Try.prog 6 #[.agg #[.int .u8 m.f0, .int .u64 m.f1, .string m.f2, .slice A m.f3.length c], .agg #[.int .u8 key.f0, .int .u64 key.f1, .string key.f2, .slice B key.f3.length d]] w fun e w' => e = .returned (.bool true) ∧ Below w.heap.size w w' := by
 have HA0 := Aside0.mk ha
 have HA1 := Aside0.mk hb
 have hN : itemsN m ≤ 4294967296 := by omega
 have hG := getR_items m key hN
 have hGL : itemsL (getR m key).f3 ≤ 4294967296 := by rw [itemsN_eq] at hG; omega
 clear ha hb hox hoy
 go_enter Try.func6, Try.ntmps6
 go_wp2_with fail
 have bX0 := ((Blk.new w #[.int .u8 m.f0, .int .u64 m.f1, .string m.f2, .slice A m.f3.length c] 25).alloc (.cells #[.int .u8 key.f0, .int .u64 key.f1, .string key.f2, .slice B key.f3.length d] 25)).alloc (.cells #[.int .u8 m.f0, .int .u64 m.f1, .string m.f2, .slice A m.f3.length c, .int .u8 key.f0, .int .u64 key.f1, .string key.f2, .slice B key.f3.length d] 25)
 have bX1 := (Blk.new (w.alloc (.cells #[.int .u8 m.f0, .int .u64 m.f1, .string m.f2, .slice A m.f3.length c] 25)) #[.int .u8 key.f0, .int .u64 key.f1, .string key.f2, .slice B key.f3.length d] 25).alloc (.cells #[.int .u8 m.f0, .int .u64 m.f1, .string m.f2, .slice A m.f3.length c, .int .u8 key.f0, .int .u64 key.f1, .string key.f2, .slice B key.f3.length d] 25)
 have bL := Blk.new ((w.alloc (.cells #[.int .u8 m.f0, .int .u64 m.f1, .string m.f2, .slice A m.f3.length c] 25)).alloc (.cells #[.int .u8 key.f0, .int .u64 key.f1, .string key.f2, .slice B key.f3.length d] 25)) (flatK [⟨m, A, c⟩, ⟨key, B, d⟩]).toArray 25
 have hB0 := below_alloc (below_alloc (below_alloc (Below.refl w.heap.size w) (.cells #[.int .u8 m.f0, .int .u64 m.f1, .string m.f2, .slice A m.f3.length c] 25)) (.cells #[.int .u8 key.f0, .int .u64 key.f1, .string key.f2, .slice B key.f3.length d] 25)) (.cells #[.int .u8 m.f0, .int .u64 m.f1, .string m.f2, .slice A m.f3.length c, .int .u8 key.f0, .int .u64 key.f1, .string key.f2, .slice B key.f3.length d] 25)
 simp only [World.size_alloc] at bL bX1
 have hCL := C_lit (ks := [⟨m, A, c⟩, ⟨key, B, d⟩]) bL (by simp) (by
  intro q hq
  simp only [List.mem_cons, List.not_mem_nil, or_false] at hq
  rcases hq with rfl | rfl
  ·exact ⟨Kd.C_below HA0.out hB0, hc0⟩
  ·exact ⟨Kd.C_below HA1.out hB0, hc1⟩)
 refine (large14_any [m, key] _ 2 _ hCL (by simp) (by simp only [itemsL, textsL]; omega)).mono ?_
 rintro e w1 ⟨rfl, hb1⟩
 replace bX0 := bX0.below hb1
 replace bX1 := bX1.below hb1
 have HB1 := Aside0.mk (below_step hB0 hb1)
 clear bL hB0 hCL hb1
 by_cases hl : largeB [m, key] = true
 ·rw [hl]
  go_wp2_with fail
  refine (works15_any _).mono ?_
  rintro e w2 ⟨rfl, hb2⟩
  go_wp2_with fail
  go_ret
  exact ⟨rfl, below_step HB1.out hb2⟩
 replace hl : largeB [m, key] = false := by simpa using hl
 rw [hl]
 clear hl
 have hl1 := bX0.lt
 have hl2 := bX1.lt
 have hq1 := HB1.out.size
 obtain ⟨p0, p1, p2, p3⟩ := bX0.c4
 go_wp2_with fail
 refine (copy16_any m hN A c _ (Kd.C_below HA0.out HB1.out) hc0).mono ?_
 rintro e w2 ⟨A5, c5, rfl, hR2, hb2⟩
 have hl3 := hb2.size
 have hal := below_alloc (Below.refl w2.heap.size w2) (.cells #[.int .u8 m.f0, .int .u64 m.f1, .string m.f2, .slice A5 m.f3.length c5] 25)
 have k0 := (bX0.below hb2).below hal
 have k1 := (bX1.below hb2).below hal
 have k2 := Blk.new w2 #[.int .u8 m.f0, .int .u64 m.f1, .string m.f2, .slice A5 m.f3.length c5] 25
 have HB2 := Aside0.mk (below_step (below_step HB1.out hb2) hal)
 have HR2 : Aside0 (k25.R 25 _ w1.heap.size (fun k => k < w2.heap.size) (.slice A5 m.f3.length c5) m.f3) := ⟨Kd.R_below (Kd.R_mono (Kd.R_bound hR2) (fun k hk => hk.2.2.1)) hal⟩
 have hc5 := (Kd.R_reads' hR2).2.1
 clear p0 p1 p2 p3 bX0 bX1 hR2 hb2 hal HB1
 obtain ⟨p0, p1, p2, p3⟩ := k0.c4
 obtain ⟨r0, r1, r2, r3⟩ := k1.c4
 go_wp2_with fail
 obtain ⟨w3, e3⟩ : ∃ W, w2.alloc (.cells #[.int .u8 m.f0, .int .u64 m.f1, .string m.f2, .slice A5 m.f3.length c5] 25) = W := ⟨_, rfl⟩
 rw [e3] at k0 k1 k2 HB2 HR2 p0 p1 p2 p3 r0 r1 r2 r3 ⊢
 clear e3
 refine (get36_any m key hN A B c d _ (Kd.C_below HA0.out HB2.out) hc0 (Kd.C_below HA1.out HB2.out) hc1).mono ?_
 rintro e w4 ⟨A6, c6, rfl, hR4, hb4⟩
 have hl4 := k2.lt
 have hl5 := hb4.size
 have hal := below_alloc (Below.refl w4.heap.size w4) (.cells #[.int .u8 (getR m key).f0, .int .u64 (getR m key).f1, .string (getR m key).f2, .slice A6 (getR m key).f3.length c6] 25)
 have j0 := (k0.below hb4).below hal
 have j1 := (k1.below hb4).below hal
 have j2 := (k2.below hb4).below hal
 have j3 := Blk.new w4 #[.int .u8 (getR m key).f0, .int .u64 (getR m key).f1, .string (getR m key).f2, .slice A6 (getR m key).f3.length c6] 25
 have HB4 := Aside0.mk (below_step (below_step HB2.out hb4) hal)
 have HRW := Aside0.mk (Kd.R_below (Kd.R_below HR2.out hb4) hal)
 have HRV : Aside0 (k25.R 25 _ w3.heap.size (fun k => k < w4.heap.size) (.slice A6 (getR m key).f3.length c6) (getR m key).f3) := ⟨Kd.R_below (Kd.R_mono (Kd.R_bound hR4) (fun k hk => hk.2.2.1)) hal⟩
 have hc6 := (Kd.R_reads' hR4).2.1
 clear p0 p1 p2 p3 r0 r1 r2 r3 k0 k1 k2 hR4 hb4 hal HB2 HR2
 obtain ⟨p0, p1, p2, p3⟩ := j2.c4
 obtain ⟨r0, r1, r2, r3⟩ := j1.c4
 go_wp2_with fail
 obtain ⟨w5, e5⟩ : ∃ W, w4.alloc (.cells #[.int .u8 (getR m key).f0, .int .u64 (getR m key).f1, .string (getR m key).f2, .slice A6 (getR m key).f3.length c6] 25) = W := ⟨_, rfl⟩
 rw [e5] at j0 j1 j2 j3 HB4 HRW HRV p0 p1 p2 p3 r0 r1 r2 r3 ⊢
 clear e5
 refine (rget37_any m key hN A5 B c5 d _ (Kd.R_reads' HRW.out).2.2 hc5 (Kd.C_below HA1.out HB4.out) hc1).mono ?_
 rintro e w6 ⟨A8, c8, rfl, hR6, hb6⟩
 have hal := below_alloc (Below.refl w6.heap.size w6) (.cells #[.int .u8 (getR m key).f0, .int .u64 (getR m key).f1, .string (getR m key).f2, .slice A8 (getR m key).f3.length c8] 25)
 have k0 := (j0.below hb6).below hal
 have k2 := (j2.below hb6).below hal
 have k3 := (j3.below hb6).below hal
 have k4 := Blk.new w6 #[.int .u8 (getR m key).f0, .int .u64 (getR m key).f1, .string (getR m key).f2, .slice A8 (getR m key).f3.length c8] 25
 have HB6 := Aside0.mk (below_step (below_step HB4.out hb6) hal)
 have HRX := Aside0.mk (Kd.R_below (Kd.R_below HRW.out hb6) hal)
 have HRY := Aside0.mk (Kd.R_below (Kd.R_below HRV.out hb6) hal)
 have hR7 := Kd.R_below hR6 hal
 have hc8 := (Kd.R_reads' hR7).2.1
 have HC8 := Aside0.mk (Kd.R_reads' hR7).2.2
 have hl6 := j3.lt
 clear p0 p1 p2 p3 r0 r1 r2 r3 j0 j1 j2 j3 hR6 hR7 hb6 hal HB4 HRW HRV
 obtain ⟨p0, p1, p2, p3⟩ := k3.c4
 obtain ⟨r0, r1, r2, r3⟩ := k4.c4
 go_wp2_with fail
 obtain ⟨w7, e7⟩ : ∃ W, w6.alloc (.cells #[.int .u8 (getR m key).f0, .int .u64 (getR m key).f1, .string (getR m key).f2, .slice A8 (getR m key).f3.length c8] 25) = W := ⟨_, rfl⟩
 rw [e7] at k0 k2 k3 k4 HB6 HRX HRY HC8 p0 p1 p2 p3 r0 r1 r2 r3 ⊢
 clear e7
 refine (same19_any (getR m key) (getR m key) A6 A8 c6 c8 _ (Kd.R_reads' HRY.out).2.2 hc6 hG HC8.out hc8).mono ?_
 rintro e w8 ⟨he, hb8⟩
 rw [veq_refl] at he
 subst he
 have j0 := k0.below hb8
 have j2 := k2.below hb8
 have j3 := k3.below hb8
 have HB8 := Aside0.mk (below_step HB6.out hb8)
 have HR8 := Aside0.mk (Kd.R_below HRX.out hb8)
 have HRZ := Aside0.mk (Kd.R_below HRY.out hb8)
 clear p0 p1 p2 p3 r0 r1 r2 r3 k0 k2 k3 k4 hb8 HB6 HRX HRY HC8
 obtain ⟨p0, p1, p2, p3⟩ := j3.c4
 go_wp2_with fail
 refine (turn30_any w w3.heap.size _ A6 c6 (getR m key).f3 _ HRZ.out hGL hc6).mono ?_
 rintro e w9 ⟨rfl, hT⟩
 have n0 : Blk w9 w.heap.size #[.int .u8 m.f0, .int .u64 m.f1, .string m.f2, .slice A m.f3.length c] 25 := (hT.off w.heap.size (fun hk => by have := hk.2.1; omega)).trans j0
 have n2 : Blk w9 w2.heap.size #[.int .u8 m.f0, .int .u64 m.f1, .string m.f2, .slice A5 m.f3.length c5] 25 := (hT.off w2.heap.size (fun hk => by have := hk.2.1; omega)).trans j2
 have HB9 := Aside0.mk (HB8.out.trans (hT.below (fun k hk => by have := hk.2.1; omega)))
 have HX := Aside0.mk (Kd.C_below HA0.out HB9.out)
 have HW := Aside0.mk (Kd.R_reads' (Kd.R_move HR8.out (fun k hk => hT.off k (fun ho => by have := ho.2.1; omega)))).2.2
 clear p0 p1 p2 p3 j0 j2 j3 hT HB8 HR8 HRZ
 obtain ⟨p0, p1, p2, p3⟩ := n0.c4
 obtain ⟨r0, r1, r2, r3⟩ := n2.c4
 go_wp2_with fail
 refine (same19_any m m A A5 c c5 _ HX.out hc0 hN HW.out hc5).mono ?_
 rintro e w10 ⟨he, hb10⟩
 rw [veq_refl] at he
 subst he
 have HB10 := Aside0.mk (below_step HB9.out hb10)
 clear p0 p1 p2 p3 r0 r1 r2 r3 n0 n2 hb10 HB9 HX HW
 go_wp2_with fail
 refine (works15_any _).mono ?_
 rintro e w11 ⟨rfl, hb11⟩
 go_wp2_with fail
 go_ret
 exact ⟨rfl, below_step HB10.out hb11⟩
end Go.Proofs.Ytdilbnggedidnaa.PVal
