import Derived.Test.YtdilbnggedidnaaF3
namespace Go.Proofs.Ytdilbnggedidnaa.PVal
open Go.RowKit Go.Shelf Go.Proofs.YtdilbnggedidnaaW.PrintWords Go.Proofs.YtdilbnggedidnaaW.PrintLast
set_option linter.unusedVariables false
set_option linter.unusedSimpArgs false
theorem Tn.slice {ok : Nat → Prop} {w w' : World} (h : Tn ok w w') {g j : Nat} {cur : Array Value} {t : TypeId} {f : Nat × Nat} {A : Option Addr} {n c : Nat} (hb : w.heap[g]? = some (.cells cur t f)) (hc : cur[j]? = some (.slice A n c)) : w'.cell? ⟨g, j, none⟩ = some (.slice A n c) := by
 obtain ⟨cur', hb', _, he⟩ := h.on g cur t f hb
 rcases he j with e | ⟨b, _, hb2, _⟩
 ·have : cur'[j]? = some (.slice A n c) := e.trans hc
  simp [World.cell?, hb', this]
 ·rw [hc] at hb2; cases hb2
theorem Tn.num {ok : Nat → Prop} {w w' : World} (h : Tn ok w w') {g j : Nat} {cur : Array Value} {a : Int} (hb : w.heap[g]? = some (.cells cur 25 (0, 0))) (hc : cur[j]? = some (.int .u64 a)) : ∃ a' cur', w'.heap[g]? = some (.cells cur' 25 (0, 0)) ∧ cur'[j]? = some (.int .u64 a') := by
 obtain ⟨cur', hb', _, he⟩ := h.on g cur 25 (0, 0) hb
 rcases he j with e | ⟨b, b', _, hb2⟩
 ·exact ⟨a, cur', hb', e.trans hc⟩
 ·exact ⟨b', cur', hb', hb2⟩
set_option maxRecDepth 100000 in
set_option maxHeartbeats 4000000 in
theorem puts9_any (code : Int) (l : List S25) (w : World) (hcode : (Lit.int .u64 code).wf = true) (hol : okL l) (A : Option Addr) (c : Nat) (ha : k25.C w A l.length l) (hc0 : l.length ≤ c) (hx : itemsL l + textsL l ≤ 1048576) :
  Calls Try.prog 9 #[.int .u64 code, .slice A l.length c] w fun e w' => e = .returned (.bool true) ∧ Below w.heap.size w w' := by
 have HA0 := Aside0.mk ha
 have hNL : itemsL l ≤ 1048576 := by omega
 have hll : l.length ≤ 1048576 := by have := itemsL_length l; omega
 have hpi : itemsN (putV code l) ≤ 1048580 := by have := itemsL_trim l; unfold putV; simp only [itemsN, itemsL]; omega
 clear ha hol hcode
 go_enter Try.func9, Try.ntmps9
 go_wp2_with fail
 refine (large14_any l A c _ HA0.out hc0 (by omega)).mono ?_
 rintro e w1 ⟨rfl, hb1⟩
 have HB1 := Aside0.mk hb1
 clear hb1
 by_cases hl : largeB l = true
 ·rw [hl]
  go_wp2_with fail
  refine (works38_any _).mono ?_
  rintro e wz ⟨rfl, hbz⟩
  go_wp2_with fail
  go_ret
  exact ⟨rfl, below_step HB1.out hbz⟩
 replace hl : largeB l = false := by simpa using hl
 rw [hl]
 clear hl
 go_wp2_with fail
 refine (copyAll20_any l (by omega) A c _ (Kd.C_below HA0.out HB1.out) hc0).mono ?_
 rintro e w2 ⟨A5, c5, rfl, hR2, hb2⟩
 have HB2 := Aside0.mk (below_step HB1.out hb2)
 have hc5 := (Kd.R_reads' hR2).2.1
 have HR2 : Aside0 (k25.R 25 _ w1.heap.size (fun k => k < w2.heap.size) (.slice A5 l.length c5) l) := ⟨Kd.R_mono (Kd.R_bound hR2) (fun k hk => hk.2.2.1)⟩
 have hq1 := HB1.out.size
 have hq2 := hb2.size
 clear hR2 hb2 HB1
 go_wp2_with fail
 refine (put39_any code l (by omega) A5 c5 _ (Kd.R_reads' HR2.out).2.2 hc5).mono ?_
 rintro e w3 ⟨A6, c6, rfl, hR3, hb3⟩
 have hal := below_alloc (Below.refl w3.heap.size w3) (.cells #[.int .u8 25, .int .u64 0, .string ⟨#[]⟩, .slice A6 2 c6] 25)
 have BV := Aside0.mk (Blk.new w3 #[.int .u8 25, .int .u64 0, .string ⟨#[]⟩, .slice A6 2 c6] 25)
 have HB3 := Aside0.mk (below_step (below_step HB2.out hb3) hal)
 have HR3 := Aside0.mk (Kd.R_below (Kd.R_below HR2.out hb3) hal)
 have HRV := Aside0.mk (Kd.R_below (Kd.R_mono (Kd.R_bound hR3) (ok' := fun k => w2.heap.size ≤ k) (fun k hk => hk.2.1)) hal)
 have hq3 := hb3.size
 clear hR3 hb3 hal HB2 HR2
 go_wp2_with fail
 obtain ⟨b6, e6⟩ : ∃ b, w3.heap.size = b := ⟨_, rfl⟩
 obtain ⟨w4, e4⟩ : ∃ W, w3.alloc (.cells #[.int .u8 25, .int .u64 0, .string ⟨#[]⟩, .slice A6 2 c6] 25) = W := ⟨_, rfl⟩
 rw [e4] at BV HB3 HR3 HRV ⊢
 rw [e6] at BV hq3 ⊢
 clear e4 e6
 have hq4 := BV.out.lt
 refine (rput40_any code l (by omega) A c _ (Kd.C_below HA0.out HB3.out) hc0).mono ?_
 rintro e w5 ⟨A7, c7, rfl, hR5, hb5⟩
 have hal := below_alloc (Below.refl w5.heap.size w5) (.cells #[.int .u8 25, .int .u64 0, .string ⟨#[]⟩, .slice A7 2 c7] 25)
 have k6 := (BV.out.below hb5).below hal
 have k7 := Blk.new w5 #[.int .u8 25, .int .u64 0, .string ⟨#[]⟩, .slice A7 2 c7] 25
 have HB5 := Aside0.mk (below_step (below_step HB3.out hb5) hal)
 have HR5 := Aside0.mk (Kd.R_below (Kd.R_below HR3.out hb5) hal)
 have HRV5 := Aside0.mk (Kd.R_below (Kd.R_below HRV.out hb5) hal)
 have HRW5 := Aside0.mk (Kd.R_below (Kd.R_mono (Kd.R_bound hR5) (ok' := fun k => w4.heap.size ≤ k) (fun k hk => hk.2.1)) hal)
 have hq5 := hb5.size
 clear hR5 hb5 hal HB3 HR3 HRV BV
 obtain ⟨p0, p1, p2, p3⟩ := k6.c4
 obtain ⟨r0, r1, r2, r3⟩ := k7.c4
 go_wp2_with fail
 obtain ⟨b7, e7⟩ : ∃ b, w5.heap.size = b := ⟨_, rfl⟩
 obtain ⟨w6, e6⟩ : ∃ W, w5.alloc (.cells #[.int .u8 25, .int .u64 0, .string ⟨#[]⟩, .slice A7 2 c7] 25) = W := ⟨_, rfl⟩
 rw [e6] at k6 k7 HB5 HR5 HRV5 HRW5 p0 p1 p2 p3 r0 r1 r2 r3 ⊢
 rw [e7] at k7 hq5 r0 r1 r2 r3 ⊢
 clear e6 e7
 have hrV := (Kd.R_reads' HRV5.out).2
 have hrW := (Kd.R_reads' HRW5.out).2
 refine (same19_any (putV code l) (putV code l) A6 A7 c6 c7 _ hrV.2 hrV.1 (by omega) hrW.2 hrW.1).mono ?_
 rintro e w7 ⟨he, hb7⟩
 rw [veq_refl] at he
 subst he
 have j6 := k6.below hb7
 have j7 := k7.below hb7
 have HB7 := Aside0.mk (below_step HB5.out hb7)
 have HR7 := Aside0.mk (Kd.R_below HR5.out hb7)
 have HRV7 := Aside0.mk (Kd.R_below HRV5.out hb7)
 have HRW7 := Aside0.mk (Kd.R_below HRW5.out hb7)
 clear p0 p1 p2 p3 r0 r1 r2 r3 k6 k7 hrV hrW hb7 HB5 HR5 HRV5 HRW5
 go_wp2_with fail
 refine (rmany25_any 22 l (by omega) A5 c5 _ (Kd.R_reads' HR7.out).2.2 hc5).mono ?_
 rintro e w8 ⟨v8, rfl, hR8, hb8⟩
 obtain ⟨A8, c8, rfl⟩ := Kd.R_slice hR8
 have HB8 := Aside0.mk (below_step HB7.out hb8)
 have HC8 := Aside0.mk (Kd.R_reads' hR8).2
 have i6 := j6.below hb8
 have i7 := j7.below hb8
 have HR9 := Aside0.mk (Kd.R_below HR7.out hb8)
 have HRV9 := Aside0.mk (Kd.R_below HRV7.out hb8)
 have HRW9 := Aside0.mk (Kd.R_below HRW7.out hb8)
 clear hR8 hb8 HB7 j6 j7 HR7 HRV7 HRW7
 go_wp2_with fail
 refine (rmany25_any 22 l (by omega) A c _ (Kd.C_below HA0.out HB8.out) hc0).mono ?_
 rintro e w9 ⟨v9, rfl, hR9, hb9⟩
 obtain ⟨A9, c9, rfl⟩ := Kd.R_slice hR9
 have HC9 := Aside0.mk (Kd.R_reads' hR9).2
 have HC8' := Aside0.mk (Kd.C_below HC8.out.2 hb9)
 have HB9 := Aside0.mk (below_step HB8.out hb9)
 replace i6 := i6.below hb9
 replace i7 := i7.below hb9
 replace HR9 := Aside0.mk (Kd.R_below HR9.out hb9)
 replace HRV9 := Aside0.mk (Kd.R_below HRV9.out hb9)
 replace HRW9 := Aside0.mk (Kd.R_below HRW9.out hb9)
 clear hR9 hb9 HB8
 go_wp2_with fail
 refine (same19_any ⟨22, 0, ⟨#[]⟩, l⟩ ⟨22, 0, ⟨#[]⟩, l⟩ A8 A9 c8 c9 _ HC8'.out HC8.out.1 (by simp only [itemsN]; omega) HC9.out.2 HC9.out.1).mono ?_
 rintro e wA ⟨he, hbA⟩
 rw [veq_refl] at he
 subst he
 replace i6 := i6.below hbA
 replace i7 := i7.below hbA
 have HBA := Aside0.mk (below_step HB9.out hbA)
 have HRA := Aside0.mk (Kd.R_below HR9.out hbA)
 have HRVA := Aside0.mk (Kd.R_below HRV9.out hbA)
 have HRWA := Aside0.mk (Kd.R_below HRW9.out hbA)
 have BV := Aside0.mk i6
 have BW := Aside0.mk i7
 have HRD := Aside0.mk (RdL.mono_ok (ok' := fun k => k < w2.heap.size ∧ w1.heap.size ≤ k) (fun k hk => ⟨hk.1, hk.2.1⟩) (RdL_of_R (depthL l) (Nat.le_refl _) (by omega) (Kd.R_bound HRA.out)))
 clear hbA i6 i7 HC8 HC8' HC9 HB9 HR9 HRV9 HRW9 HRA
 go_wp2_with fail
 go_loopg [8, 9] l.length (fun gk v8 v9 wr => ∃ i : Nat, v8 = .int .i64 (i : Int) ∧ Aside0 (i ≤ l.length ∧ gk = l.length - i) ∧ Aside0 (Tn (fun k => k < w2.heap.size ∧ w1.heap.size ≤ k) wA wr))
 case atStart => exact ⟨0, rfl, ⟨by omega, rfl⟩, ⟨Tn.refl _ _⟩⟩
 case round =>
  obtain ⟨i, rfl, HI, HT⟩ := hrel
  obtain ⟨hi1, hgk⟩ := HI.out
  have HG := Aside0.mk hgk
  clear HI hgk
  by_cases hlt : i < l.length
  ·obtain ⟨d, hd⟩ : ∃ d, depthL l = d := ⟨_, rfl⟩
   have hrd := HRD.out
   rw [hd] at hrd
   cases d with
   | zero => exact absurd hrd (by show ¬ (l.length = 0); omega)
   | succ d =>
   rcases hrd with h0 | ⟨g, cur, hA, hg, hb, hj⟩
   ·omega
   obtain ⟨⟨a, hcu⟩, A', n', c', hcs, h1, h2, h3⟩ := hj i hlt
   obtain ⟨a1, cu1, hbt, hct⟩ := HT.out.num hb hcu
   have q1 : wr.cell? ⟨g, i * 4 + 1, none⟩ = some (.int .u64 a1) := (blk_cell hbt _).trans hct
   have q3 := HT.out.slice hb hcs
   have fz := blk_frozen hbt
   have HS := Aside0.mk (fun v => HT.out.set hg hbt hct v)
   have HBC := Aside0.mk (⟨hb, hcs⟩ : _ ∧ _)
   have H3 := Aside0.mk h3
   have h12 : n' ≤ c' ∧ n' ≤ 4294967296 := ⟨h1, h2⟩
   have hn1 := h12.1
   have hn2 := h12.2
   subst hA
   clear hd hj hb hcu hcs hbt hct h1 h2 h3 h12
   go_wp2_with fail
   go_loopg [9] n' (fun gk v9 wr => ∃ k : Nat, v9 = .int .i64 (k : Int) ∧ Aside0 (k ≤ n' ∧ gk = n' - k) ∧ Aside0 (Tn (fun k => k < w2.heap.size ∧ w1.heap.size ≤ k) wA wr))
   case atStart => exact ⟨0, rfl, ⟨by omega, rfl⟩, ⟨HS.out _⟩⟩
   case round =>
    obtain ⟨k, rfl, HK, HQ⟩ := hrel
    obtain ⟨hk1, hgk⟩ := HK.out
    have HKG := Aside0.mk hgk
    clear HK hgk q1 q3 fz
    have q3 := HQ.out.slice HBC.out.1 HBC.out.2
    by_cases hk : k < n'
    ·have hrd := H3.out
     cases d with
     | zero => exact absurd hrd (by show ¬ (n' = 0); omega)
     | succ d =>
     rcases hrd with h0 | ⟨g2, cur2, hA2, hg2, hb2, hj2⟩
     ·omega
     obtain ⟨⟨a2, hcu2⟩, _⟩ := hj2 k hk
     obtain ⟨a3, cu3, hbt, hct⟩ := HQ.out.num hb2 hcu2
     have q1 : wr.cell? ⟨g2, k * 4 + 1, none⟩ = some (.int .u64 a3) := (blk_cell hbt _).trans hct
     have HBT := Aside0.mk hbt
     have HCT := Aside0.mk hct
     have HG2 := Aside0.mk hg2
     subst hA2
     clear hj2 hb2 hcu2 hbt hct hg2
     have hk4 : k < n' := hk
     go_wp2_with fail
     refine start_ (n := 19) (S := fun w' => w'.cell? ⟨g, i * 4 + 3, none⟩ = some (.slice (some ⟨g2, 0, none⟩) n' c') ∧ w'.cell? ⟨g2, k * 4 + 1, none⟩ = some (.int .u64 a3)) (ds := [18]) #[false, false, false, false, false, false, false, false, false, false, false, false, false, false, false, false, false, false, false] (by kernel_rfl) rfl rfl ⟨q3, q1⟩ (fun hS => ?_)
     replace HBT := Aside0.mk ((show (wr.drew).heap[g2]? = _ from HBT.out))
     replace HQ := Aside0.mk ((show Tn _ wA wr.drew from ⟨HQ.out.os, HQ.out.tape, HQ.out.output, HQ.out.size, HQ.out.off, HQ.out.on⟩))
     generalize wr.drew = wd1 at HBT HQ hS ⊢
     clear q3 q1
     refine pure_ (i := 0) (N := some 59) (v := ?_) (a' := ?_) #[true, false, false, false, false, false, false, false, false, false, false, false, false, false, false, false, false, false, false] rfl rfl (by kernel_rfl) (fun _ _ _ h => h) (Or.inl ⟨by rfl, ?_⟩) ?_ ?_
     rotate_left
     ·intro w'
      go_simp
      with_reducible rfl
     rotate_left
     ·simp only [Act.put, List.setIfInBounds_toArray, List.set_cons_zero, List.set_cons_succ, i64_w, i32_w]
      rfl
     refine pure_ (i := 1) (N := some 60) (v := ?_) (a' := ?_) #[true, true, false, false, false, false, false, false, false, false, false, false, false, false, false, false, false, false, false] rfl rfl (by kernel_rfl) (fun _ _ _ h => h) (Or.inl ⟨by rfl, ?_⟩) ?_ ?_
     rotate_left
     ·intro w'
      go_simp
      with_reducible rfl
     rotate_left
     ·simp only [Act.put, List.setIfInBounds_toArray, List.set_cons_zero, List.set_cons_succ, i64_w, i32_w]
      rfl
     refine pure_ (i := 2) (N := some 61) (v := ?_) (a' := ?_) #[true, true, true, false, false, false, false, false, false, false, false, false, false, false, false, false, false, false, false] rfl rfl (by kernel_rfl) (fun _ _ _ h => h) (Or.inl ⟨by rfl, ?_⟩) ?_ ?_
     rotate_left
     ·intro w'
      go_simp
      with_reducible rfl
     rotate_left
     ·simp only [Act.put, List.setIfInBounds_toArray, List.set_cons_zero, List.set_cons_succ, i64_w, i32_w]
      rfl
     refine pure_ (i := 3) (N := some 62) (v := ?_) (a' := ?_) #[true, true, true, true, false, false, false, false, false, false, false, false, false, false, false, false, false, false, false] rfl rfl (by kernel_rfl) (fun _ _ _ h => h) (Or.inl ⟨by rfl, ?_⟩) ?_ ?_
     rotate_left
     ·intro w'
      go_simp
      with_reducible rfl
     rotate_left
     ·simp only [Act.put, List.setIfInBounds_toArray, List.set_cons_zero, List.set_cons_succ, i64_w, i32_w]
      rfl
     refine take_ (i := 4) (N := some 63) (v := .slice (some ⟨g2, 0, none⟩) n' c') #[true, true, true, true, true, false, false, false, false, false, false, false, false, false, false, false, false, false, false] rfl rfl (by kernel_rfl) (fun _ _ _ h => h) (Or.inl ⟨by rfl, ?_⟩) hS rfl ?_
     ·rintro w' ⟨h0, h1⟩
      go_simp
     refine norm_ (a' := ?_) ?_ ?_
     rotate_left
     ·try simp only [Act.put, putAll, List.setIfInBounds_toArray, List.set_cons_zero, List.set_cons_succ]
      rfl
     refine pure_ (i := 5) (N := some 64) (v := ?_) (a' := ?_) #[true, true, true, true, true, true, false, false, false, false, false, false, false, false, false, false, false, false, false] rfl rfl (by kernel_rfl) (fun _ _ _ h => h) (Or.inl ⟨by rfl, ?_⟩) ?_ ?_
     rotate_left
     ·intro w'
      go_simp
      with_reducible rfl
     rotate_left
     ·simp only [Act.put, List.setIfInBounds_toArray, List.set_cons_zero, List.set_cons_succ, i64_w, i32_w]
      rfl
     refine pure_ (i := 6) (N := some 65) (v := ?_) (a' := ?_) #[true, true, true, true, true, true, true, false, false, false, false, false, false, false, false, false, false, false, false] rfl rfl (by kernel_rfl) (fun _ _ _ h => h) (Or.inl ⟨by rfl, ?_⟩) ?_ ?_
     rotate_left
     ·intro w'
      go_simp
      with_reducible rfl
     rotate_left
     ·simp only [Act.put, List.setIfInBounds_toArray, List.set_cons_zero, List.set_cons_succ, i64_w, i32_w]
      rfl
     refine pure_ (i := 7) (N := some 66) (v := ?_) (a' := ?_) #[true, true, true, true, true, true, true, true, false, false, false, false, false, false, false, false, false, false, false] rfl rfl (by kernel_rfl) (fun _ _ _ h => h) (Or.inl ⟨by rfl, ?_⟩) ?_ ?_
     rotate_left
     ·intro w'
      go_simp
      with_reducible rfl
     rotate_left
     ·simp only [Act.put, List.setIfInBounds_toArray, List.set_cons_zero, List.set_cons_succ, i64_w, i32_w]
      rfl
     refine pure_ (i := 8) (N := some 67) (v := ?_) (a' := ?_) #[true, true, true, true, true, true, true, true, true, false, false, false, false, false, false, false, false, false, false] rfl rfl (by kernel_rfl) (fun _ _ _ h => h) (Or.inl ⟨by rfl, ?_⟩) ?_ ?_
     rotate_left
     ·intro w'
      go_simp
      with_reducible rfl
     rotate_left
     ·simp only [Act.put, List.setIfInBounds_toArray, List.set_cons_zero, List.set_cons_succ, i64_w, i32_w]
      rfl
     refine pure_ (i := 9) (N := some 68) (v := ?_) (a' := ?_) #[true, true, true, true, true, true, true, true, true, true, false, false, false, false, false, false, false, false, false] rfl rfl (by kernel_rfl) (fun _ _ _ h => h) (Or.inl ⟨by rfl, ?_⟩) ?_ ?_
     rotate_left
     ·intro w'
      go_simp
      with_reducible rfl
     rotate_left
     ·simp only [Act.put, List.setIfInBounds_toArray, List.set_cons_zero, List.set_cons_succ, i64_w, i32_w]
      rfl
     refine take_ (i := 10) (N := some 69) (v := .slice (some ⟨g2, 0, none⟩) n' c') #[true, true, true, true, true, true, true, true, true, true, true, false, false, false, false, false, false, false, false] rfl rfl (by kernel_rfl) (fun _ _ _ h => h) (Or.inl ⟨by rfl, ?_⟩) hS rfl ?_
     ·rintro w' ⟨h0, h1⟩
      go_simp
     refine norm_ (a' := ?_) ?_ ?_
     rotate_left
     ·try simp only [Act.put, putAll, List.setIfInBounds_toArray, List.set_cons_zero, List.set_cons_succ]
      rfl
     refine pure_ (i := 11) (N := some 70) (v := ?_) (a' := ?_) #[true, true, true, true, true, true, true, true, true, true, true, true, false, false, false, false, false, false, false] rfl rfl (by kernel_rfl) (fun _ _ _ h => h) (Or.inl ⟨by rfl, ?_⟩) ?_ ?_
     rotate_left
     ·intro w'
      go_simp
      with_reducible rfl
     rotate_left
     ·simp only [Act.put, List.setIfInBounds_toArray, List.set_cons_zero, List.set_cons_succ, i64_w, i32_w]
      rfl
     refine pure_ (i := 12) (N := some 71) (v := ?_) (a' := ?_) #[true, true, true, true, true, true, true, true, true, true, true, true, true, false, false, false, false, false, false] rfl rfl (by kernel_rfl) (fun _ _ _ h => h) (Or.inl ⟨by rfl, ?_⟩) ?_ ?_
     rotate_left
     ·intro w'
      go_simp
      with_reducible rfl
     rotate_left
     ·simp only [Act.put, List.setIfInBounds_toArray, List.set_cons_zero, List.set_cons_succ, i64_w, i32_w]
      rfl
     refine pure_ (i := 13) (N := some 72) (v := ?_) (a' := ?_) #[true, true, true, true, true, true, true, true, true, true, true, true, true, true, false, false, false, false, false] rfl rfl (by kernel_rfl) (fun _ _ _ h => h) (Or.inl ⟨by rfl, ?_⟩) ?_ ?_
     rotate_left
     ·intro w'
      go_simp
      with_reducible rfl
     rotate_left
     ·simp only [Act.put, List.setIfInBounds_toArray, List.set_cons_zero, List.set_cons_succ, i64_w, i32_w]
      rfl
     refine take_ (i := 14) (N := some 73) (v := .int .u64 a3) #[true, true, true, true, true, true, true, true, true, true, true, true, true, true, true, false, false, false, false] rfl rfl (by kernel_rfl) (fun _ _ _ h => h) (Or.inl ⟨by rfl, ?_⟩) hS rfl ?_
     ·rintro w' ⟨h0, h1⟩
      go_simp
     refine norm_ (a' := ?_) ?_ ?_
     rotate_left
     ·try simp only [Act.put, putAll, List.setIfInBounds_toArray, List.set_cons_zero, List.set_cons_succ]
      rfl
     refine pure_ (i := 15) (N := some 74) (v := ?_) (a' := ?_) #[true, true, true, true, true, true, true, true, true, true, true, true, true, true, true, true, false, false, false] rfl rfl (by kernel_rfl) (fun _ _ _ h => h) (Or.inl ⟨by rfl, ?_⟩) ?_ ?_
     rotate_left
     ·intro w'
      go_simp
      with_reducible rfl
     rotate_left
     ·simp only [Act.put, List.setIfInBounds_toArray, List.set_cons_zero, List.set_cons_succ, i64_w, i32_w]
      rfl
     refine pure_ (i := 16) (N := some 75) (v := ?_) (a' := ?_) #[true, true, true, true, true, true, true, true, true, true, true, true, true, true, true, true, true, false, false] rfl rfl (by kernel_rfl) (fun _ _ _ h => h) (Or.inl ⟨by rfl, ?_⟩) ?_ ?_
     rotate_left
     ·intro w'
      go_simp
      with_reducible rfl
     rotate_left
     ·simp only [Act.put, List.setIfInBounds_toArray, List.set_cons_zero, List.set_cons_succ, i64_w, i32_w]
      rfl
     refine pure_ (i := 17) (N := some 76) (v := ?_) (a' := ?_) #[true, true, true, true, true, true, true, true, true, true, true, true, true, true, true, true, true, true, false] rfl rfl (by kernel_rfl) (fun _ _ _ h => h) (Or.inl ⟨by rfl, ?_⟩) ?_ ?_
     rotate_left
     ·intro w'
      go_simp
      with_reducible rfl
     rotate_left
     ·simp only [Act.put, List.setIfInBounds_toArray, List.set_cons_zero, List.set_cons_succ, i64_w, i32_w]
      rfl
     obtain ⟨e3, e1⟩ := hS
     have fz := blk_frozen HBT.out
     refine last_ (i := 18) (N := none) #[true, true, true, true, true, true, true, true, true, true, true, true, true, true, true, true, true, true, true] rfl rfl (by kernel_rfl) (by decide) (fun K hK => ?_)
     rw [if_pos (by rfl)]
     unfold Oper.wp
     go_simp
     refine hK.out _ _ ?_
     refine done_ (by kernel_rfl) ?_
     go_wp2_with fail
     go_roundg (n' - (k + 1))
     case measure => rw [HKG.out]; omega
     case rel => exact ⟨k + 1, by go_num, ⟨by omega, rfl⟩, ⟨HQ.out.set HG2.out HBT.out HCT.out _⟩⟩
    ·go_wp2_with fail
     go_roundg (l.length - (i + 1))
     case measure => rw [HG.out]; omega
     case rel => exact ⟨i + 1, by go_num, ⟨by omega, rfl⟩, HQ⟩
  ·have hT := HT.out
   have n6 : Blk wr b6 #[.int .u8 25, .int .u64 0, .string ⟨#[]⟩, .slice A6 2 c6] 25 := (hT.off b6 (fun hk => by have := hk.1; omega)).trans BV.out
   have n7 : Blk wr b7 #[.int .u8 25, .int .u64 0, .string ⟨#[]⟩, .slice A7 2 c7] 25 := (hT.off b7 (fun hk => by have := hk.1; omega)).trans BW.out
   have HBZ := Aside0.mk (HBA.out.trans (hT.below (fun k hk => by have := hk.2; omega)))
   have hV := (Kd.R_reads' (Kd.R_move HRVA.out (fun k hk => hT.off k (fun ho => by have := ho.1; omega)))).2
   have hW := (Kd.R_reads' (Kd.R_move HRWA.out (fun k hk => hT.off k (fun ho => by have := ho.1; omega)))).2
   have HV := Aside0.mk hV
   have HW := Aside0.mk hW
   clear hT hV hW HT BV BW HRVA HRWA HBA
   obtain ⟨p0, p1, p2, p3⟩ := n6.c4
   obtain ⟨r0, r1, r2, r3⟩ := n7.c4
   go_wp2_with fail
   refine (same19_any (putV code l) (putV code l) A6 A7 c6 c7 _ HV.out.2 HV.out.1 (by omega) HW.out.2 HW.out.1).mono ?_
   rintro e wy ⟨he, hby⟩
   rw [veq_refl] at he
   subst he
   have HBY := Aside0.mk (below_step HBZ.out hby)
   clear p0 p1 p2 p3 r0 r1 r2 r3 hby
   go_wp2_with fail
   refine (works38_any _).mono ?_
   rintro e wz ⟨rfl, hbz⟩
   go_wp2_with fail
   go_ret
   exact ⟨rfl, below_step HBY.out hbz⟩
end Go.Proofs.Ytdilbnggedidnaa.PVal
