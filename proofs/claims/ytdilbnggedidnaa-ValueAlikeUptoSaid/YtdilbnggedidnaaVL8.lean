import Derived.Test.YtdilbnggedidnaaVHAlk
namespace Go.Proofs.Ytdilbnggedidnaa.PVal
open Go.RowKit Go.Shelf Go.Proofs.YtdilbnggedidnaaW.PrintWords Go.Proofs.YtdilbnggedidnaaW.PrintLast
set_option linter.unusedVariables false
set_option linter.unusedSimpArgs false
theorem unB_start (l : List S25) : ((l.length : Int) % 2 == 0) = unB l 0 := by
 unfold unB
 rw [show keysI l 0 = [] from rfl, unlikeL, Bool.and_true, Bool.eq_iff_iff]
 simp only [beq_iff_eq, decide_eq_true_eq]
 omega
theorem alB_step {l : List S25} {i : Int} (h0 : 0 ≤ i) (h1 : i < l.length) : (l.take (i + 1).toNat).all (fun x => x.f0 == (rd_T25 l 0).f0) = ((l.take i.toNat).all (fun x => x.f0 == (rd_T25 l 0).f0) && ((rd_T25 l i).f0 == (rd_T25 l 0).f0)) := by rw [take_rd h0 h1, List.all_append]; simp
theorem good_step {l : List S25} {i : Int} (h0 : 0 ≤ i) (h1 : i < l.length) (h : ∀ x ∈ l.take i.toNat, Good x) (hx : Good (rd_T25 l i)) : ∀ x ∈ l.take (i + 1).toNat, Good x := by
 rw [take_rd h0 h1]
 intro x hm
 rcases List.mem_append.1 hm with hm | hm
 ·exact h x hm
 ·rw [List.mem_singleton.1 hm]; exact hx
set_option maxRecDepth 100000 in
set_option maxHeartbeats 4000000 in
theorem alike8_any (l : List S25) (w : World) (hol : okL l) (A : Option Addr) (c : Nat) (ha : k25.C w A l.length l) (hc0 : l.length ≤ c) (hx : itemsL l + textsL l ≤ 1048576) :
  Calls Try.prog 8 #[.slice A l.length c] w fun e w' => e = .returned (.bool true) ∧ Below w.heap.size w w' := by
 have HA0 := Aside0.mk ha
 have hNL : itemsL l ≤ 4294967296 := by omega
 have hll : l.length ≤ 1048576 := by have := itemsL_length l; omega
 have HOK := Aside0.mk (fun x (hx : x ∈ l) => okL_mem hol hx)
 have hLn : 0 ≤ (l.length : Int) := by omega
 clear ha
 go_enter Try.func8, Try.ntmps8
 go_wp2_with fail
 refine (large14_any l A c _ HA0.out hc0 (by omega)).mono ?_
 rintro e w1 ⟨rfl, hb1⟩
 have HB1 := Aside0.mk hb1
 clear hb1
 by_cases hl : largeB l = true
 ·rw [hl]
  go_wp2_with fail
  refine (works15_any _).mono ?_
  rintro e wz ⟨rfl, hbz⟩
  go_wp2_with fail
  go_ret
  exact ⟨rfl, below_step HB1.out hbz⟩
 replace hl : largeB l = false := by simpa using hl
 rw [hl]
 clear hl
 by_cases hs : (60 : Int) < (l.length : Int)
 ·go_wp2_with fail
  refine (works15_any _).mono ?_
  rintro e wz ⟨rfl, hbz⟩
  go_wp2_with fail
  go_ret
  exact ⟨rfl, below_step HB1.out hbz⟩
 go_wp2_with fail
 go_loopg [3, 4, 5, 6] l.length (fun gk v3 v4 v5 v6 wr => ∃ (i : Int) (al un : Bool), v3 = .bool al ∧ v4 = .bool un ∧ v5 = .int .i64 i ∧ Aside0 (al = (l.take i.toNat).all (fun x => x.f0 == (rd_T25 l 0).f0) ∧ un = unB l i.toNat ∧ ∀ x ∈ l.take i.toNat, Good x) ∧ Aside0 (0 ≤ i ∧ i ≤ l.length ∧ gk = l.length - i.toNat) ∧ Aside0 (Below w1.heap.size w1 wr))
 case atStart => exact ⟨0, true, ((l.length : Int) % 2 == 0), rfl, rfl, rfl, ⟨by simp, unB_start l, by simp⟩, ⟨by omega, by omega, by simp⟩, ⟨Below.refl _ _⟩⟩
 case round =>
  obtain ⟨i, al, un, rfl, rfl, rfl, HV, HI, HW⟩ := hrel
  obtain ⟨hi0, hi1, hgk⟩ := HI.out
  have HG := Aside0.mk hgk
  clear HI hgk
  by_cases hlt : i < l.length
  ·have hmem := rd_mem hi0 hlt
   have hNx : itemsN (rd_T25 l i) ≤ 1048576 := by have := itemsL_mem hmem; omega
   have HOX := Aside0.mk (HOK.out _ hmem)
   obtain ⟨ad, Ax, cx, eA, hx0, hx1, hx2, hx3, hlx, hCx⟩ := at_T25 (Kd.C_below HA0.out (below_step HB1.out HW.out)) i hi0 hlt
   cases eA
   have HCx := Aside0.mk hCx
   obtain ⟨x, ex⟩ : ∃ x, rd_T25 l i = x := ⟨_, rfl⟩
   have EX := Aside0.mk ex
   rw [ex] at hNx HOX hx0 hx1 hx2 hx3 hlx HCx
   have HX := Aside0.mk (And.intro hx0 (And.intro hx1 (And.intro hx2 hx3)))
   have hBr := below_step HB1.out HW.out
   have HBr := Aside0.mk hBr
   clear hCx ex hmem hBr
   go_wp2_with fail
   refine (right17_any x (by omega) HOX.out Ax cx _ HCx.out hlx).mono ?_
   rintro e wa ⟨he, hba⟩
   have HBa := Aside0.mk hba
   clear hx0 hx1 hx2 hx3 hba
   cases hr : rightB x with
   | false =>
    rw [hr] at he
    subst he
    go_wp2_with fail
    refine (works15_any _).mono ?_
    rintro e wz ⟨rfl, hbz⟩
    go_wp2_with fail
    go_ret
    exact ⟨rfl, below_step (below_step HBr.out HBa.out) hbz⟩
   | true =>
    rw [hr] at he
    subst he
    have hx0 := (HBa.out.cell (World.block_lt_of_cell? _ _ HX.out.1)).trans HX.out.1
    have hx1 := (HBa.out.cell (World.block_lt_of_cell? _ _ HX.out.2.1)).trans HX.out.2.1
    have hx2 := (HBa.out.cell (World.block_lt_of_cell? _ _ HX.out.2.2.1)).trans HX.out.2.2.1
    have hx3 := (HBa.out.cell (World.block_lt_of_cell? _ _ HX.out.2.2.2)).trans HX.out.2.2.2
    by_cases hk : x.f0 = 25
    ·have hk' : (x.f0 == 25) = true := by simp [hk]
     clear hk
     go_wp2_with fail
     refine (works15_any _).mono ?_
     rintro e wz ⟨rfl, hbz⟩
     go_wp2_with fail
     go_ret
     exact ⟨rfl, below_step (below_step HBr.out HBa.out) hbz⟩
    have hk' : (x.f0 == 25) = false := by simp [hk]
    have HK := Aside0.mk hk
    clear hk
    go_wp2_with fail
    refine (depth32_any x (by omega) Ax cx _ (Kd.C_below HCx.out HBa.out) hlx).mono ?_
    rintro e wb ⟨rfl, hbb⟩
    have HBb := Aside0.mk (below_step HBa.out hbb)
    clear hx0 hx1 hx2 hx3 hbb
    by_cases hd : (16 : Int) ≤ (depthN x : Int)
    ·go_wp2_with fail
     refine (works15_any _).mono ?_
     rintro e wz ⟨rfl, hbz⟩
     go_wp2_with fail
     go_ret
     exact ⟨rfl, below_step (below_step HBr.out HBb.out) hbz⟩
    have HGood := Aside0.mk (Good.mk hr HK.out (by omega))
    clear hr HK hk'
    have hx0 := (HBb.out.cell (World.block_lt_of_cell? _ _ HX.out.1)).trans HX.out.1
    have hx1 := (HBb.out.cell (World.block_lt_of_cell? _ _ HX.out.2.1)).trans HX.out.2.1
    have hx2 := (HBb.out.cell (World.block_lt_of_cell? _ _ HX.out.2.2.1)).trans HX.out.2.2.1
    have hx3 := (HBb.out.cell (World.block_lt_of_cell? _ _ HX.out.2.2.2)).trans HX.out.2.2.2
    obtain ⟨z, ez⟩ : ∃ z, rd_T25 l 0 = z := ⟨_, rfl⟩
    have EZ := Aside0.mk ez
    have hz0 : wb.cell? ad = some (.int .u8 z.f0) := by
     obtain ⟨ad0, A0, c0, e0, hz0, _⟩ := at_T25 (Kd.C_below HA0.out (below_step HBr.out HBb.out)) 0 (by omega) (by omega)
     cases e0
     rw [show (0 : Int).toNat = 0 from rfl, Nat.zero_mul, add_nought, ez] at hz0
     exact hz0
    have ad0 : ad.add 0 = ad := add_nought ad
    have hpos : 0 < l.length := by omega
    clear ez hx1 hx2 hx3
    go_upto_region 10 with fail
    go_cut [3] from 22 to 88 (fun s3 wx => s3 = .bool (al && (x.f0 == z.f0)) ∧ Aside0 (Below wb.heap.size wb wx))
    case first =>
     cases al with
     | false =>
      have HBS := Aside0.mk (Below.refl wb.heap.size wb)
      refine start_ (n := 14) (S := fun w' => w'.cell? (ad.add (i.toNat * 4)) = some (.int .u8 x.f0) ∧ w'.cell? ad = some (.int .u8 z.f0)) (ds := []) #[false, false, false, false, false, false, false, false, false, false, false, false, false, false] (by kernel_rfl) rfl rfl ⟨hx0, hz0⟩ (fun hS => ?_)
      replace HBS := Aside0.mk (below_drew HBS.out)
      generalize wb.drew = wd1 at HBS hS ⊢
      clear hx0 hz0
      refine pure_ (i := 0) (N := some 51) (v := ?_) (a' := ?_) #[true, false, false, false, false, false, false, false, false, false, false, false, false, false] rfl rfl (by kernel_rfl) (fun _ _ _ h => h) (Or.inl ⟨by rfl, ?_⟩) ?_ ?_
      rotate_left
      ·intro w'
       go_simp
       with_reducible rfl
      rotate_left
      ·simp only [Act.put, List.setIfInBounds_toArray, List.set_cons_zero, List.set_cons_succ, i64_w, i32_w]
       rfl
      refine pure_ (i := 1) (N := some 52) (v := ?_) (a' := ?_) #[true, true, false, false, false, false, false, false, false, false, false, false, false, false] rfl rfl (by kernel_rfl) (fun _ _ _ h => h) (Or.inl ⟨by rfl, ?_⟩) ?_ ?_
      rotate_left
      ·intro w'
       go_simp
       with_reducible rfl
      rotate_left
      ·simp only [Act.put, List.setIfInBounds_toArray, List.set_cons_zero, List.set_cons_succ, i64_w, i32_w]
       rfl
      refine pure_ (i := 2) (N := some 53) (v := undef) (a' := ?_) #[true, true, true, false, false, false, false, false, false, false, false, false, false, false] rfl rfl (by kernel_rfl) (fun _ _ _ h => h) (Or.inr ⟨by rfl, rfl⟩) ?_ ?_
      rotate_left
      ·simp only [Act.put, List.setIfInBounds_toArray, List.set_cons_zero, List.set_cons_succ, i64_w, i32_w]
       rfl
      refine pure_ (i := 3) (N := some 54) (v := undef) (a' := ?_) #[true, true, true, true, false, false, false, false, false, false, false, false, false, false] rfl rfl (by kernel_rfl) (fun _ _ _ h => h) (Or.inr ⟨by rfl, rfl⟩) ?_ ?_
      rotate_left
      ·simp only [Act.put, List.setIfInBounds_toArray, List.set_cons_zero, List.set_cons_succ, i64_w, i32_w]
       rfl
      refine pure_ (i := 4) (N := some 55) (v := undef) (a' := ?_) #[true, true, true, true, true, false, false, false, false, false, false, false, false, false] rfl rfl (by kernel_rfl) (fun _ _ _ h => h) (Or.inr ⟨by rfl, rfl⟩) ?_ ?_
      rotate_left
      ·simp only [Act.put, List.setIfInBounds_toArray, List.set_cons_zero, List.set_cons_succ, i64_w, i32_w]
       rfl
      refine pure_ (i := 5) (N := some 56) (v := undef) (a' := ?_) #[true, true, true, true, true, true, false, false, false, false, false, false, false, false] rfl rfl (by kernel_rfl) (fun _ _ _ h => h) (Or.inr ⟨by rfl, rfl⟩) ?_ ?_
      rotate_left
      ·simp only [Act.put, List.setIfInBounds_toArray, List.set_cons_zero, List.set_cons_succ, i64_w, i32_w]
       rfl
      refine pure_ (i := 6) (N := some 57) (v := undef) (a' := ?_) #[true, true, true, true, true, true, true, false, false, false, false, false, false, false] rfl rfl (by kernel_rfl) (fun _ _ _ h => h) (Or.inr ⟨by rfl, rfl⟩) ?_ ?_
      rotate_left
      ·simp only [Act.put, List.setIfInBounds_toArray, List.set_cons_zero, List.set_cons_succ, i64_w, i32_w]
       rfl
      refine pure_ (i := 7) (N := some 58) (v := undef) (a' := ?_) #[true, true, true, true, true, true, true, true, false, false, false, false, false, false] rfl rfl (by kernel_rfl) (fun _ _ _ h => h) (Or.inr ⟨by rfl, rfl⟩) ?_ ?_
      rotate_left
      ·simp only [Act.put, List.setIfInBounds_toArray, List.set_cons_zero, List.set_cons_succ, i64_w, i32_w]
       rfl
      refine pure_ (i := 8) (N := some 59) (v := undef) (a' := ?_) #[true, true, true, true, true, true, true, true, true, false, false, false, false, false] rfl rfl (by kernel_rfl) (fun _ _ _ h => h) (Or.inr ⟨by rfl, rfl⟩) ?_ ?_
      rotate_left
      ·simp only [Act.put, List.setIfInBounds_toArray, List.set_cons_zero, List.set_cons_succ, i64_w, i32_w]
       rfl
      refine pure_ (i := 9) (N := some 60) (v := undef) (a' := ?_) #[true, true, true, true, true, true, true, true, true, true, false, false, false, false] rfl rfl (by kernel_rfl) (fun _ _ _ h => h) (Or.inr ⟨by rfl, rfl⟩) ?_ ?_
      rotate_left
      ·simp only [Act.put, List.setIfInBounds_toArray, List.set_cons_zero, List.set_cons_succ, i64_w, i32_w]
       rfl
      refine pure_ (i := 10) (N := some 61) (v := undef) (a' := ?_) #[true, true, true, true, true, true, true, true, true, true, true, false, false, false] rfl rfl (by kernel_rfl) (fun _ _ _ h => h) (Or.inr ⟨by rfl, rfl⟩) ?_ ?_
      rotate_left
      ·simp only [Act.put, List.setIfInBounds_toArray, List.set_cons_zero, List.set_cons_succ, i64_w, i32_w]
       rfl
      refine pure_ (i := 11) (N := some 62) (v := undef) (a' := ?_) #[true, true, true, true, true, true, true, true, true, true, true, true, false, false] rfl rfl (by kernel_rfl) (fun _ _ _ h => h) (Or.inr ⟨by rfl, rfl⟩) ?_ ?_
      rotate_left
      ·simp only [Act.put, List.setIfInBounds_toArray, List.set_cons_zero, List.set_cons_succ, i64_w, i32_w]
       rfl
      refine pure_ (i := 12) (N := some 63) (v := ?_) (a' := ?_) #[true, true, true, true, true, true, true, true, true, true, true, true, true, false] rfl rfl (by kernel_rfl) (fun _ _ _ h => h) (Or.inl ⟨by rfl, ?_⟩) ?_ ?_
      rotate_left
      ·intro w'
       go_simp
       with_reducible rfl
      rotate_left
      ·simp only [Act.put, List.setIfInBounds_toArray, List.set_cons_zero, List.set_cons_succ, i64_w, i32_w]
       rfl
      refine pure_ (i := 13) (N := some 3) (v := ?_) (a' := ?_) #[true, true, true, true, true, true, true, true, true, true, true, true, true, true] rfl rfl (by kernel_rfl) (fun _ _ _ h => h) (Or.inl ⟨by rfl, ?_⟩) ?_ ?_
      rotate_left
      ·intro w'
       go_simp
       with_reducible rfl
      rotate_left
      ·simp only [Act.put, List.setIfInBounds_toArray, List.set_cons_zero, List.set_cons_succ, i64_w, i32_w]
       rfl
      refine done_ (by kernel_rfl) ?_
      go_wp2_with fail
      go_meet
      exact ⟨rfl, HBS⟩
     | true =>
      have HBS := Aside0.mk (Below.refl wb.heap.size wb)
      refine start_ (n := 14) (S := fun w' => w'.cell? (ad.add (i.toNat * 4)) = some (.int .u8 x.f0) ∧ w'.cell? ad = some (.int .u8 z.f0)) (ds := []) #[false, false, false, false, false, false, false, false, false, false, false, false, false, false] (by kernel_rfl) rfl rfl ⟨hx0, hz0⟩ (fun hS => ?_)
      replace HBS := Aside0.mk (below_drew HBS.out)
      generalize wb.drew = wd2 at HBS hS ⊢
      clear hx0 hz0
      refine pure_ (i := 0) (N := some 51) (v := ?_) (a' := ?_) #[true, false, false, false, false, false, false, false, false, false, false, false, false, false] rfl rfl (by kernel_rfl) (fun _ _ _ h => h) (Or.inl ⟨by rfl, ?_⟩) ?_ ?_
      rotate_left
      ·intro w'
       go_simp
       with_reducible rfl
      rotate_left
      ·simp only [Act.put, List.setIfInBounds_toArray, List.set_cons_zero, List.set_cons_succ, i64_w, i32_w]
       rfl
      refine pure_ (i := 1) (N := some 52) (v := ?_) (a' := ?_) #[true, true, false, false, false, false, false, false, false, false, false, false, false, false] rfl rfl (by kernel_rfl) (fun _ _ _ h => h) (Or.inl ⟨by rfl, ?_⟩) ?_ ?_
      rotate_left
      ·intro w'
       go_simp
       with_reducible rfl
      rotate_left
      ·simp only [Act.put, List.setIfInBounds_toArray, List.set_cons_zero, List.set_cons_succ, i64_w, i32_w]
       rfl
      refine pure_ (i := 2) (N := some 53) (v := ?_) (a' := ?_) #[true, true, true, false, false, false, false, false, false, false, false, false, false, false] rfl rfl (by kernel_rfl) (fun _ _ _ h => h) (Or.inl ⟨by rfl, ?_⟩) ?_ ?_
      rotate_left
      ·intro w'
       go_simp
       with_reducible rfl
      rotate_left
      ·simp only [Act.put, List.setIfInBounds_toArray, List.set_cons_zero, List.set_cons_succ, i64_w, i32_w]
       rfl
      refine pure_ (i := 3) (N := some 54) (v := ?_) (a' := ?_) #[true, true, true, true, false, false, false, false, false, false, false, false, false, false] rfl rfl (by kernel_rfl) (fun _ _ _ h => h) (Or.inl ⟨by rfl, ?_⟩) ?_ ?_
      rotate_left
      ·intro w'
       go_simp
       with_reducible rfl
      rotate_left
      ·simp only [Act.put, List.setIfInBounds_toArray, List.set_cons_zero, List.set_cons_succ, i64_w, i32_w]
       rfl
      refine pure_ (i := 4) (N := some 55) (v := ?_) (a' := ?_) #[true, true, true, true, true, false, false, false, false, false, false, false, false, false] rfl rfl (by kernel_rfl) (fun _ _ _ h => h) (Or.inl ⟨by rfl, ?_⟩) ?_ ?_
      rotate_left
      ·intro w'
       go_simp
       with_reducible rfl
      rotate_left
      ·simp only [Act.put, List.setIfInBounds_toArray, List.set_cons_zero, List.set_cons_succ, i64_w, i32_w]
       rfl
      refine pure_ (i := 5) (N := some 56) (v := ?_) (a' := ?_) #[true, true, true, true, true, true, false, false, false, false, false, false, false, false] rfl rfl (by kernel_rfl) (fun _ _ _ h => h) (Or.inl ⟨by rfl, ?_⟩) ?_ ?_
      rotate_left
      ·intro w'
       go_simp
       with_reducible rfl
      rotate_left
      ·simp only [Act.put, List.setIfInBounds_toArray, List.set_cons_zero, List.set_cons_succ, i64_w, i32_w]
       rfl
      refine take_ (i := 6) (N := some 57) (v := .int .u8 x.f0) #[true, true, true, true, true, true, true, false, false, false, false, false, false, false] rfl rfl (by kernel_rfl) (fun _ _ _ h => h) (Or.inl ⟨by rfl, ?_⟩) hS rfl ?_
      ·rintro w' ⟨h0, h1⟩
       go_simp
      refine norm_ (a' := ?_) ?_ ?_
      rotate_left
      ·try simp only [Act.put, putAll, List.setIfInBounds_toArray, List.set_cons_zero, List.set_cons_succ]
       rfl
      refine pure_ (i := 7) (N := some 58) (v := ?_) (a' := ?_) #[true, true, true, true, true, true, true, true, false, false, false, false, false, false] rfl rfl (by kernel_rfl) (fun _ _ _ h => h) (Or.inl ⟨by rfl, ?_⟩) ?_ ?_
      rotate_left
      ·intro w'
       go_simp
       with_reducible rfl
      rotate_left
      ·simp only [Act.put, List.setIfInBounds_toArray, List.set_cons_zero, List.set_cons_succ, i64_w, i32_w]
       rfl
      refine pure_ (i := 8) (N := some 59) (v := ?_) (a' := ?_) #[true, true, true, true, true, true, true, true, true, false, false, false, false, false] rfl rfl (by kernel_rfl) (fun _ _ _ h => h) (Or.inl ⟨by rfl, ?_⟩) ?_ ?_
      rotate_left
      ·intro w'
       go_simp
       with_reducible rfl
      rotate_left
      ·simp only [Act.put, List.setIfInBounds_toArray, List.set_cons_zero, List.set_cons_succ, i64_w, i32_w]
       rfl
      refine pure_ (i := 9) (N := some 60) (v := ?_) (a' := ?_) #[true, true, true, true, true, true, true, true, true, true, false, false, false, false] rfl rfl (by kernel_rfl) (fun _ _ _ h => h) (Or.inl ⟨by rfl, ?_⟩) ?_ ?_
      rotate_left
      ·intro w'
       go_simp
       with_reducible rfl
      rotate_left
      ·simp only [Act.put, List.setIfInBounds_toArray, List.set_cons_zero, List.set_cons_succ, i64_w, i32_w]
       rfl
      refine take_ (i := 10) (N := some 61) (v := .int .u8 z.f0) #[true, true, true, true, true, true, true, true, true, true, true, false, false, false] rfl rfl (by kernel_rfl) (fun _ _ _ h => h) (Or.inl ⟨by rfl, ?_⟩) hS rfl ?_
      ·rintro w' ⟨h0, h1⟩
       go_simp
      refine norm_ (a' := ?_) ?_ ?_
      rotate_left
      ·try simp only [Act.put, putAll, List.setIfInBounds_toArray, List.set_cons_zero, List.set_cons_succ]
       rfl
      refine pure_ (i := 11) (N := some 62) (v := ?_) (a' := ?_) #[true, true, true, true, true, true, true, true, true, true, true, true, false, false] rfl rfl (by kernel_rfl) (fun _ _ _ h => h) (Or.inl ⟨by rfl, ?_⟩) ?_ ?_
      rotate_left
      ·intro w'
       go_simp
       with_reducible rfl
      rotate_left
      ·simp only [Act.put, List.setIfInBounds_toArray, List.set_cons_zero, List.set_cons_succ, i64_w, i32_w]
       rfl
      refine pure_ (i := 12) (N := some 63) (v := ?_) (a' := ?_) #[true, true, true, true, true, true, true, true, true, true, true, true, true, false] rfl rfl (by kernel_rfl) (fun _ _ _ h => h) (Or.inl ⟨by rfl, ?_⟩) ?_ ?_
      rotate_left
      ·intro w'
       go_simp
       with_reducible rfl
      rotate_left
      ·simp only [Act.put, List.setIfInBounds_toArray, List.set_cons_zero, List.set_cons_succ, i64_w, i32_w]
       rfl
      refine pure_ (i := 13) (N := some 3) (v := ?_) (a' := ?_) #[true, true, true, true, true, true, true, true, true, true, true, true, true, true] rfl rfl (by kernel_rfl) (fun _ _ _ h => h) (Or.inl ⟨by rfl, ?_⟩) ?_ ?_
      rotate_left
      ·intro w'
       go_simp
       with_reducible rfl
      rotate_left
      ·simp only [Act.put, List.setIfInBounds_toArray, List.set_cons_zero, List.set_cons_succ, i64_w, i32_w]
       rfl
      refine done_ (by kernel_rfl) ?_
      go_wp2_with fail
      go_meet
      exact ⟨rfl, HBS⟩
    case rest =>
     obtain ⟨rfl, HBx⟩ := hcut
     obtain ⟨wd, ed⟩ : ∃ wd, wd = wc := ⟨_, rfl⟩
     subst ed
     have HBd := Aside0.mk (below_step HBb.out HBx.out)
     have HCd := Aside0.mk (Kd.C_below HCx.out HBd.out)
     have HZ := Aside0.mk (And.intro (((HBd.out.cell (World.block_lt_of_cell? _ _ HX.out.1)).trans HX.out.1)) (And.intro ((HBd.out.cell (World.block_lt_of_cell? _ _ HX.out.2.1)).trans HX.out.2.1) (And.intro ((HBd.out.cell (World.block_lt_of_cell? _ _ HX.out.2.2.1)).trans HX.out.2.2.1) ((HBd.out.cell (World.block_lt_of_cell? _ _ HX.out.2.2.2)).trans HX.out.2.2.2))))
     clear hx0 hz0 hpos HBa HBb HBx
     obtain ⟨m, rfl⟩ : ∃ m : Nat, i = (m : Int) := ⟨i.toNat, by omega⟩
     go_wp2_with fail
     go_loopg [4, 6] (m + 2 - m % 2) (fun gk v4 v6 wr => ∃ (k : Nat) (uk : Bool), v4 = .bool uk ∧ v6 = .int .i64 (k : Int) ∧ Aside0 (uk = unK l m k ∧ k % 2 = m % 2 ∧ k ≤ m + 1 ∧ gk = m + 2 - k) ∧ Aside0 (Below wd.heap.size wd wr))
     case atStart => exact ⟨m % 2, un, rfl, by go_num, ⟨by rw [unK_start]; have := HV.out.2.1; rwa [Int.toNat_natCast] at this, by omega, by omega, rfl⟩, ⟨Below.refl _ _⟩⟩
     case round =>
      obtain ⟨k, uk, rfl, rfl, HK, HWk⟩ := hrel
      obtain ⟨hku, hk2, hk1, hgk⟩ := HK.out
      have HKG := Aside0.mk hgk
      have HKU := Aside0.mk hku
      have HK2 := Aside0.mk hk2
      clear HK hgk hku hk2
      by_cases hkm : k < m
      ·obtain ⟨ad1, Ay, cy, e1, hy0, hy1, hy2, hy3, hly, hCy⟩ := at_T25 (Kd.C_below HA0.out (below_step HBr.out (HBd.out.trans (HWk.out.mono HBd.out.size)))) (k : Int) (by omega) (by omega)
       cases e1
       rw [Int.toNat_natCast] at hy0 hy1 hy2 hy3
       have hmem := rd_mem (xs := l) (i := (k : Int)) (by omega) (by omega)
       obtain ⟨y, ey⟩ : ∃ y, rd_T25 l (k : Int) = y := ⟨_, rfl⟩
       have EY := Aside0.mk ey
       rw [ey] at hy0 hy1 hy2 hy3 hly hCy
       have HCy := Aside0.mk hCy
       have HCz := Aside0.mk (Kd.C_below HCd.out HWk.out)
       have hx0 := (HWk.out.cell (World.block_lt_of_cell? _ _ HZ.out.1)).trans HZ.out.1
       have hx1 := (HWk.out.cell (World.block_lt_of_cell? _ _ HZ.out.2.1)).trans HZ.out.2.1
       have hx2 := (HWk.out.cell (World.block_lt_of_cell? _ _ HZ.out.2.2.1)).trans HZ.out.2.2.1
       have hx3 := (HWk.out.cell (World.block_lt_of_cell? _ _ HZ.out.2.2.2)).trans HZ.out.2.2.2
       rw [Int.toNat_natCast] at hx0 hx1 hx2 hx3
       have HBk := Aside0.mk HWk.out
       have hkl : k < l.length := by omega
       have hml : m < l.length := by omega
       clear hCy ey hmem
       go_upto_region 14 with fail
       cases uk with
       | false =>
        have HBS := Aside0.mk (Below.refl wr.heap.size wr)
        refine start_ (n := 19) (S := fun w' => w'.cell? (ad.add (m * 4)) = some (.int .u8 x.f0) ∧ w'.cell? ⟨(ad.add (m * 4)).block, (ad.add (m * 4)).off + 1, none⟩ = some (.int .u64 x.f1) ∧ w'.cell? ⟨(ad.add (m * 4)).block, (ad.add (m * 4)).off + 2, none⟩ = some (.string x.f2) ∧ w'.cell? ⟨(ad.add (m * 4)).block, (ad.add (m * 4)).off + 3, none⟩ = some (.slice Ax x.f3.length cx) ∧ w'.cell? (ad.add (k * 4)) = some (.int .u8 y.f0) ∧ w'.cell? ⟨(ad.add (k * 4)).block, (ad.add (k * 4)).off + 1, none⟩ = some (.int .u64 y.f1) ∧ w'.cell? ⟨(ad.add (k * 4)).block, (ad.add (k * 4)).off + 2, none⟩ = some (.string y.f2) ∧ w'.cell? ⟨(ad.add (k * 4)).block, (ad.add (k * 4)).off + 3, none⟩ = some (.slice Ay y.f3.length cy)) (ds := []) #[false, false, false, false, false, false, false, false, false, false, false, false, false, false, false, false, false, false, false] (by kernel_rfl) rfl rfl ⟨hx0, hx1, hx2, hx3, hy0, hy1, hy2, hy3⟩ (fun hS => ?_)
        replace HBS := Aside0.mk (below_drew HBS.out)
        replace HCz := Aside0.mk (Kd.C_below HCz.out (below_drew (Below.refl _ _)))
        replace HCy := Aside0.mk (Kd.C_below HCy.out (below_drew (Below.refl _ _)))
        generalize wr.drew = wd3 at HBS HCz HCy hS ⊢
        clear hx0 hx1 hx2 hx3 hy0 hy1 hy2 hy3
        refine pure_ (i := 0) (N := some 71) (v := ?_) (a' := ?_) #[true, false, false, false, false, false, false, false, false, false, false, false, false, false, false, false, false, false, false] rfl rfl (by kernel_rfl) (fun _ _ _ h => h) (Or.inl ⟨by rfl, ?_⟩) ?_ ?_
        rotate_left
        ·intro w'
         go_simp
         with_reducible rfl
        rotate_left
        ·simp only [Act.put, List.setIfInBounds_toArray, List.set_cons_zero, List.set_cons_succ, i64_w, i32_w]
         rfl
        refine pure_ (i := 1) (N := some 72) (v := ?_) (a' := ?_) #[true, true, false, false, false, false, false, false, false, false, false, false, false, false, false, false, false, false, false] rfl rfl (by kernel_rfl) (fun _ _ _ h => h) (Or.inl ⟨by rfl, ?_⟩) ?_ ?_
        rotate_left
        ·intro w'
         go_simp
         with_reducible rfl
        rotate_left
        ·simp only [Act.put, List.setIfInBounds_toArray, List.set_cons_zero, List.set_cons_succ, i64_w, i32_w]
         rfl
        refine pure_ (i := 2) (N := some 73) (v := undef) (a' := ?_) #[true, true, true, false, false, false, false, false, false, false, false, false, false, false, false, false, false, false, false] rfl rfl (by kernel_rfl) (fun _ _ _ h => h) (Or.inr ⟨by rfl, rfl⟩) ?_ ?_
        rotate_left
        ·simp only [Act.put, List.setIfInBounds_toArray, List.set_cons_zero, List.set_cons_succ, i64_w, i32_w]
         rfl
        refine pure_ (i := 3) (N := some 74) (v := undef) (a' := ?_) #[true, true, true, true, false, false, false, false, false, false, false, false, false, false, false, false, false, false, false] rfl rfl (by kernel_rfl) (fun _ _ _ h => h) (Or.inr ⟨by rfl, rfl⟩) ?_ ?_
        rotate_left
        ·simp only [Act.put, List.setIfInBounds_toArray, List.set_cons_zero, List.set_cons_succ, i64_w, i32_w]
         rfl
        refine pure_ (i := 4) (N := some 75) (v := undef) (a' := ?_) #[true, true, true, true, true, false, false, false, false, false, false, false, false, false, false, false, false, false, false] rfl rfl (by kernel_rfl) (fun _ _ _ h => h) (Or.inr ⟨by rfl, rfl⟩) ?_ ?_
        rotate_left
        ·simp only [Act.put, List.setIfInBounds_toArray, List.set_cons_zero, List.set_cons_succ, i64_w, i32_w]
         rfl
        refine pure_ (i := 5) (N := some 76) (v := undef) (a' := ?_) #[true, true, true, true, true, true, false, false, false, false, false, false, false, false, false, false, false, false, false] rfl rfl (by kernel_rfl) (fun _ _ _ h => h) (Or.inr ⟨by rfl, rfl⟩) ?_ ?_
        rotate_left
        ·simp only [Act.put, List.setIfInBounds_toArray, List.set_cons_zero, List.set_cons_succ, i64_w, i32_w]
         rfl
        refine pure_ (i := 6) (N := some 77) (v := undef) (a' := ?_) #[true, true, true, true, true, true, true, false, false, false, false, false, false, false, false, false, false, false, false] rfl rfl (by kernel_rfl) (fun _ _ _ h => h) (Or.inr ⟨by rfl, rfl⟩) ?_ ?_
        rotate_left
        ·simp only [Act.put, List.setIfInBounds_toArray, List.set_cons_zero, List.set_cons_succ, i64_w, i32_w]
         rfl
        refine pure_ (i := 7) (N := some 78) (v := undef) (a' := ?_) #[true, true, true, true, true, true, true, true, false, false, false, false, false, false, false, false, false, false, false] rfl rfl (by kernel_rfl) (fun _ _ _ h => h) (Or.inr ⟨by rfl, rfl⟩) ?_ ?_
        rotate_left
        ·simp only [Act.put, List.setIfInBounds_toArray, List.set_cons_zero, List.set_cons_succ, i64_w, i32_w]
         rfl
        refine pure_ (i := 8) (N := some 79) (v := undef) (a' := ?_) #[true, true, true, true, true, true, true, true, true, false, false, false, false, false, false, false, false, false, false] rfl rfl (by kernel_rfl) (fun _ _ _ h => h) (Or.inr ⟨by rfl, rfl⟩) ?_ ?_
        rotate_left
        ·simp only [Act.put, List.setIfInBounds_toArray, List.set_cons_zero, List.set_cons_succ, i64_w, i32_w]
         rfl
        refine pure_ (i := 9) (N := some 80) (v := undef) (a' := ?_) #[true, true, true, true, true, true, true, true, true, true, false, false, false, false, false, false, false, false, false] rfl rfl (by kernel_rfl) (fun _ _ _ h => h) (Or.inr ⟨by rfl, rfl⟩) ?_ ?_
        rotate_left
        ·simp only [Act.put, List.setIfInBounds_toArray, List.set_cons_zero, List.set_cons_succ, i64_w, i32_w]
         rfl
        refine pure_ (i := 10) (N := some 81) (v := undef) (a' := ?_) #[true, true, true, true, true, true, true, true, true, true, true, false, false, false, false, false, false, false, false] rfl rfl (by kernel_rfl) (fun _ _ _ h => h) (Or.inr ⟨by rfl, rfl⟩) ?_ ?_
        rotate_left
        ·simp only [Act.put, List.setIfInBounds_toArray, List.set_cons_zero, List.set_cons_succ, i64_w, i32_w]
         rfl
        refine pure_ (i := 11) (N := some 82) (v := undef) (a' := ?_) #[true, true, true, true, true, true, true, true, true, true, true, true, false, false, false, false, false, false, false] rfl rfl (by kernel_rfl) (fun _ _ _ h => h) (Or.inr ⟨by rfl, rfl⟩) ?_ ?_
        rotate_left
        ·simp only [Act.put, List.setIfInBounds_toArray, List.set_cons_zero, List.set_cons_succ, i64_w, i32_w]
         rfl
        refine pure_ (i := 12) (N := some 83) (v := undef) (a' := ?_) #[true, true, true, true, true, true, true, true, true, true, true, true, true, false, false, false, false, false, false] rfl rfl (by kernel_rfl) (fun _ _ _ h => h) (Or.inr ⟨by rfl, rfl⟩) ?_ ?_
        rotate_left
        ·simp only [Act.put, List.setIfInBounds_toArray, List.set_cons_zero, List.set_cons_succ, i64_w, i32_w]
         rfl
        refine pure_ (i := 13) (N := some 84) (v := undef) (a' := ?_) #[true, true, true, true, true, true, true, true, true, true, true, true, true, true, false, false, false, false, false] rfl rfl (by kernel_rfl) (fun _ _ _ h => h) (Or.inr ⟨by rfl, rfl⟩) ?_ ?_
        rotate_left
        ·simp only [Act.put, List.setIfInBounds_toArray, List.set_cons_zero, List.set_cons_succ, i64_w, i32_w]
         rfl
        refine pure_ (i := 14) (N := some 85) (v := undef) (a' := ?_) #[true, true, true, true, true, true, true, true, true, true, true, true, true, true, true, false, false, false, false] rfl rfl (by kernel_rfl) (fun _ _ _ h => h) (Or.inr ⟨by rfl, rfl⟩) ?_ ?_
        rotate_left
        ·simp only [Act.put, List.setIfInBounds_toArray, List.set_cons_zero, List.set_cons_succ, i64_w, i32_w]
         rfl
        refine pure_ (i := 15) (N := some 86) (v := undef) (a' := ?_) #[true, true, true, true, true, true, true, true, true, true, true, true, true, true, true, true, false, false, false] rfl rfl (by kernel_rfl) (fun _ _ _ h => h) (Or.inr ⟨by rfl, rfl⟩) ?_ ?_
        rotate_left
        ·simp only [Act.put, List.setIfInBounds_toArray, List.set_cons_zero, List.set_cons_succ, i64_w, i32_w]
         rfl
        refine pure_ (i := 16) (N := some 87) (v := undef) (a' := ?_) #[true, true, true, true, true, true, true, true, true, true, true, true, true, true, true, true, true, false, false] rfl rfl (by kernel_rfl) (fun _ _ _ h => h) (Or.inr ⟨by rfl, rfl⟩) ?_ ?_
        rotate_left
        ·simp only [Act.put, List.setIfInBounds_toArray, List.set_cons_zero, List.set_cons_succ, i64_w, i32_w]
         rfl
        refine pure_ (i := 17) (N := some 88) (v := ?_) (a' := ?_) #[true, true, true, true, true, true, true, true, true, true, true, true, true, true, true, true, true, true, false] rfl rfl (by kernel_rfl) (fun _ _ _ h => h) (Or.inl ⟨by rfl, ?_⟩) ?_ ?_
        rotate_left
        ·intro w'
         go_simp
         with_reducible rfl
        rotate_left
        ·simp only [Act.put, List.setIfInBounds_toArray, List.set_cons_zero, List.set_cons_succ, i64_w, i32_w]
         rfl
        refine pure_ (i := 18) (N := some 4) (v := ?_) (a' := ?_) #[true, true, true, true, true, true, true, true, true, true, true, true, true, true, true, true, true, true, true] rfl rfl (by kernel_rfl) (fun _ _ _ h => h) (Or.inl ⟨by rfl, ?_⟩) ?_ ?_
        rotate_left
        ·intro w'
         go_simp
         with_reducible rfl
        rotate_left
        ·simp only [Act.put, List.setIfInBounds_toArray, List.set_cons_zero, List.set_cons_succ, i64_w, i32_w]
         rfl
        refine done_ (by kernel_rfl) ?_
        go_wp2_with fail
        go_roundg (m + 2 - (k + 2))
        case measure => rw [HKG.out]; omega
        case rel => exact ⟨k + 2, false, rfl, by go_num, ⟨by rw [unK_step l HK2.out, ← HKU.out]; rfl, by have := HK2.out; omega, by omega, rfl⟩, ⟨HWk.out.trans (HBS.out.mono HWk.out.size)⟩⟩
       | true =>
        by_cases hmo : m % 2 = 1
        ·have hmm : (m : Int) % 2 = 1 := by omega
         have hmt : (m : Int).tmod 2 = 1 := by rw [Int.tmod_eq_emod_of_nonneg (by omega)]; omega
         have HM := Aside0.mk (decide_eq_true hmo)
         clear hmo
         have HBS := Aside0.mk (Below.refl wr.heap.size wr)
         refine start_ (n := 19) (S := fun w' => w'.cell? (ad.add (m * 4)) = some (.int .u8 x.f0) ∧ w'.cell? ⟨(ad.add (m * 4)).block, (ad.add (m * 4)).off + 1, none⟩ = some (.int .u64 x.f1) ∧ w'.cell? ⟨(ad.add (m * 4)).block, (ad.add (m * 4)).off + 2, none⟩ = some (.string x.f2) ∧ w'.cell? ⟨(ad.add (m * 4)).block, (ad.add (m * 4)).off + 3, none⟩ = some (.slice Ax x.f3.length cx) ∧ w'.cell? (ad.add (k * 4)) = some (.int .u8 y.f0) ∧ w'.cell? ⟨(ad.add (k * 4)).block, (ad.add (k * 4)).off + 1, none⟩ = some (.int .u64 y.f1) ∧ w'.cell? ⟨(ad.add (k * 4)).block, (ad.add (k * 4)).off + 2, none⟩ = some (.string y.f2) ∧ w'.cell? ⟨(ad.add (k * 4)).block, (ad.add (k * 4)).off + 3, none⟩ = some (.slice Ay y.f3.length cy)) (ds := []) #[false, false, false, false, false, false, false, false, false, false, false, false, false, false, false, false, false, false, false] (by kernel_rfl) rfl rfl ⟨hx0, hx1, hx2, hx3, hy0, hy1, hy2, hy3⟩ (fun hS => ?_)
         replace HBS := Aside0.mk (below_drew HBS.out)
         replace HCz := Aside0.mk (Kd.C_below HCz.out (below_drew (Below.refl _ _)))
         replace HCy := Aside0.mk (Kd.C_below HCy.out (below_drew (Below.refl _ _)))
         generalize wr.drew = wd4 at HBS HCz HCy hS ⊢
         clear hx0 hx1 hx2 hx3 hy0 hy1 hy2 hy3
         refine pure_ (i := 0) (N := some 71) (v := ?_) (a' := ?_) #[true, false, false, false, false, false, false, false, false, false, false, false, false, false, false, false, false, false, false] rfl rfl (by kernel_rfl) (fun _ _ _ h => h) (Or.inl ⟨by rfl, ?_⟩) ?_ ?_
         rotate_left
         ·intro w'
          go_simp
          with_reducible rfl
         rotate_left
         ·simp only [Act.put, List.setIfInBounds_toArray, List.set_cons_zero, List.set_cons_succ, i64_w, i32_w]
          rfl
         refine pure_ (i := 1) (N := some 72) (v := ?_) (a' := ?_) #[true, true, false, false, false, false, false, false, false, false, false, false, false, false, false, false, false, false, false] rfl rfl (by kernel_rfl) (fun _ _ _ h => h) (Or.inl ⟨by rfl, ?_⟩) ?_ ?_
         rotate_left
         ·intro w'
          go_simp
          with_reducible rfl
         rotate_left
         ·simp only [Act.put, List.setIfInBounds_toArray, List.set_cons_zero, List.set_cons_succ, i64_w, i32_w]
          rfl
         refine pure_ (i := 2) (N := some 73) (v := ?_) (a' := ?_) #[true, true, true, false, false, false, false, false, false, false, false, false, false, false, false, false, false, false, false] rfl rfl (by kernel_rfl) (fun _ _ _ h => h) (Or.inl ⟨by rfl, ?_⟩) ?_ ?_
         rotate_left
         ·intro w'
          go_simp
          with_reducible rfl
         rotate_left
         ·simp only [Act.put, List.setIfInBounds_toArray, List.set_cons_zero, List.set_cons_succ, i64_w, i32_w]
          rfl
         refine pure_ (i := 3) (N := some 74) (v := ?_) (a' := ?_) #[true, true, true, true, false, false, false, false, false, false, false, false, false, false, false, false, false, false, false] rfl rfl (by kernel_rfl) (fun _ _ _ h => h) (Or.inl ⟨by rfl, ?_⟩) ?_ ?_
         rotate_left
         ·intro w'
          go_simp
          with_reducible rfl
         rotate_left
         ·simp only [Act.put, List.setIfInBounds_toArray, List.set_cons_zero, List.set_cons_succ, i64_w, i32_w]
          rfl
         refine pure_ (i := 4) (N := some 75) (v := ?_) (a' := ?_) #[true, true, true, true, true, false, false, false, false, false, false, false, false, false, false, false, false, false, false] rfl rfl (by kernel_rfl) (fun _ _ _ h => h) (Or.inl ⟨by rfl, ?_⟩) ?_ ?_
         rotate_left
         ·intro w'
          go_simp
          with_reducible rfl
         rotate_left
         ·simp only [Act.put, List.setIfInBounds_toArray, List.set_cons_zero, List.set_cons_succ, i64_w, i32_w]
          rfl
         refine pure_ (i := 5) (N := some 76) (v := ?_) (a' := ?_) #[true, true, true, true, true, true, false, false, false, false, false, false, false, false, false, false, false, false, false] rfl rfl (by kernel_rfl) (fun _ _ _ h => h) (Or.inl ⟨by rfl, ?_⟩) ?_ ?_
         rotate_left
         ·intro w'
          go_simp
          with_reducible rfl
         rotate_left
         ·simp only [Act.put, List.setIfInBounds_toArray, List.set_cons_zero, List.set_cons_succ, i64_w, i32_w]
          rfl
         refine pure_ (i := 6) (N := some 77) (v := undef) (a' := ?_) #[true, true, true, true, true, true, true, false, false, false, false, false, false, false, false, false, false, false, false] rfl rfl (by kernel_rfl) (fun _ _ _ h => h) (Or.inr ⟨by rfl, rfl⟩) ?_ ?_
         rotate_left
         ·simp only [Act.put, List.setIfInBounds_toArray, List.set_cons_zero, List.set_cons_succ, i64_w, i32_w]
          rfl
         refine pure_ (i := 7) (N := some 78) (v := undef) (a' := ?_) #[true, true, true, true, true, true, true, true, false, false, false, false, false, false, false, false, false, false, false] rfl rfl (by kernel_rfl) (fun _ _ _ h => h) (Or.inr ⟨by rfl, rfl⟩) ?_ ?_
         rotate_left
         ·simp only [Act.put, List.setIfInBounds_toArray, List.set_cons_zero, List.set_cons_succ, i64_w, i32_w]
          rfl
         refine pure_ (i := 8) (N := some 79) (v := undef) (a' := ?_) #[true, true, true, true, true, true, true, true, true, false, false, false, false, false, false, false, false, false, false] rfl rfl (by kernel_rfl) (fun _ _ _ h => h) (Or.inr ⟨by rfl, rfl⟩) ?_ ?_
         rotate_left
         ·simp only [Act.put, List.setIfInBounds_toArray, List.set_cons_zero, List.set_cons_succ, i64_w, i32_w]
          rfl
         refine pure_ (i := 9) (N := some 80) (v := undef) (a' := ?_) #[true, true, true, true, true, true, true, true, true, true, false, false, false, false, false, false, false, false, false] rfl rfl (by kernel_rfl) (fun _ _ _ h => h) (Or.inr ⟨by rfl, rfl⟩) ?_ ?_
         rotate_left
         ·simp only [Act.put, List.setIfInBounds_toArray, List.set_cons_zero, List.set_cons_succ, i64_w, i32_w]
          rfl
         refine pure_ (i := 10) (N := some 81) (v := undef) (a' := ?_) #[true, true, true, true, true, true, true, true, true, true, true, false, false, false, false, false, false, false, false] rfl rfl (by kernel_rfl) (fun _ _ _ h => h) (Or.inr ⟨by rfl, rfl⟩) ?_ ?_
         rotate_left
         ·simp only [Act.put, List.setIfInBounds_toArray, List.set_cons_zero, List.set_cons_succ, i64_w, i32_w]
          rfl
         refine pure_ (i := 11) (N := some 82) (v := undef) (a' := ?_) #[true, true, true, true, true, true, true, true, true, true, true, true, false, false, false, false, false, false, false] rfl rfl (by kernel_rfl) (fun _ _ _ h => h) (Or.inr ⟨by rfl, rfl⟩) ?_ ?_
         rotate_left
         ·simp only [Act.put, List.setIfInBounds_toArray, List.set_cons_zero, List.set_cons_succ, i64_w, i32_w]
          rfl
         refine pure_ (i := 12) (N := some 83) (v := undef) (a' := ?_) #[true, true, true, true, true, true, true, true, true, true, true, true, true, false, false, false, false, false, false] rfl rfl (by kernel_rfl) (fun _ _ _ h => h) (Or.inr ⟨by rfl, rfl⟩) ?_ ?_
         rotate_left
         ·simp only [Act.put, List.setIfInBounds_toArray, List.set_cons_zero, List.set_cons_succ, i64_w, i32_w]
          rfl
         refine pure_ (i := 13) (N := some 84) (v := undef) (a' := ?_) #[true, true, true, true, true, true, true, true, true, true, true, true, true, true, false, false, false, false, false] rfl rfl (by kernel_rfl) (fun _ _ _ h => h) (Or.inr ⟨by rfl, rfl⟩) ?_ ?_
         rotate_left
         ·simp only [Act.put, List.setIfInBounds_toArray, List.set_cons_zero, List.set_cons_succ, i64_w, i32_w]
          rfl
         refine pure_ (i := 14) (N := some 85) (v := undef) (a' := ?_) #[true, true, true, true, true, true, true, true, true, true, true, true, true, true, true, false, false, false, false] rfl rfl (by kernel_rfl) (fun _ _ _ h => h) (Or.inr ⟨by rfl, rfl⟩) ?_ ?_
         rotate_left
         ·simp only [Act.put, List.setIfInBounds_toArray, List.set_cons_zero, List.set_cons_succ, i64_w, i32_w]
          rfl
         refine pure_ (i := 15) (N := some 86) (v := undef) (a' := ?_) #[true, true, true, true, true, true, true, true, true, true, true, true, true, true, true, true, false, false, false] rfl rfl (by kernel_rfl) (fun _ _ _ h => h) (Or.inr ⟨by rfl, rfl⟩) ?_ ?_
         rotate_left
         ·simp only [Act.put, List.setIfInBounds_toArray, List.set_cons_zero, List.set_cons_succ, i64_w, i32_w]
          rfl
         refine pure_ (i := 16) (N := some 87) (v := ?_) (a' := ?_) #[true, true, true, true, true, true, true, true, true, true, true, true, true, true, true, true, true, false, false] rfl rfl (by kernel_rfl) (fun _ _ _ h => h) (Or.inl ⟨by rfl, ?_⟩) ?_ ?_
         rotate_left
         ·intro w'
          go_simp
          with_reducible rfl
         rotate_left
         ·simp only [Act.put, List.setIfInBounds_toArray, List.set_cons_zero, List.set_cons_succ, i64_w, i32_w]
          rfl
         refine pure_ (i := 17) (N := some 88) (v := ?_) (a' := ?_) #[true, true, true, true, true, true, true, true, true, true, true, true, true, true, true, true, true, true, false] rfl rfl (by kernel_rfl) (fun _ _ _ h => h) (Or.inl ⟨by rfl, ?_⟩) ?_ ?_
         rotate_left
         ·intro w'
          go_simp
          with_reducible rfl
         rotate_left
         ·simp only [Act.put, List.setIfInBounds_toArray, List.set_cons_zero, List.set_cons_succ, i64_w, i32_w]
          rfl
         refine pure_ (i := 18) (N := some 4) (v := ?_) (a' := ?_) #[true, true, true, true, true, true, true, true, true, true, true, true, true, true, true, true, true, true, true] rfl rfl (by kernel_rfl) (fun _ _ _ h => h) (Or.inl ⟨by rfl, ?_⟩) ?_ ?_
         rotate_left
         ·intro w'
          go_simp
          with_reducible rfl
         rotate_left
         ·simp only [Act.put, List.setIfInBounds_toArray, List.set_cons_zero, List.set_cons_succ, i64_w, i32_w]
          rfl
         refine done_ (by kernel_rfl) ?_
         go_wp2_with fail
         go_roundg (m + 2 - (k + 2))
         case measure => rw [HKG.out]; omega
         case rel => exact ⟨k + 2, true, rfl, by go_num, ⟨by rw [unK_step l HK2.out, ← HKU.out, HM.out]; rfl, by have := HK2.out; omega, by omega, rfl⟩, ⟨HWk.out.trans (HBS.out.mono HWk.out.size)⟩⟩
        ·have hmm : (m : Int) % 2 = 0 := by omega
         have hmt : (m : Int).tmod 2 = 0 := by rw [Int.tmod_eq_emod_of_nonneg (by omega)]; omega
         have HM := Aside0.mk (decide_eq_false hmo)
         clear hmo
         have HBS := Aside0.mk (Below.refl wr.heap.size wr)
         refine start_ (n := 19) (S := fun w' => w'.cell? (ad.add (m * 4)) = some (.int .u8 x.f0) ∧ w'.cell? ⟨(ad.add (m * 4)).block, (ad.add (m * 4)).off + 1, none⟩ = some (.int .u64 x.f1) ∧ w'.cell? ⟨(ad.add (m * 4)).block, (ad.add (m * 4)).off + 2, none⟩ = some (.string x.f2) ∧ w'.cell? ⟨(ad.add (m * 4)).block, (ad.add (m * 4)).off + 3, none⟩ = some (.slice Ax x.f3.length cx) ∧ w'.cell? (ad.add (k * 4)) = some (.int .u8 y.f0) ∧ w'.cell? ⟨(ad.add (k * 4)).block, (ad.add (k * 4)).off + 1, none⟩ = some (.int .u64 y.f1) ∧ w'.cell? ⟨(ad.add (k * 4)).block, (ad.add (k * 4)).off + 2, none⟩ = some (.string y.f2) ∧ w'.cell? ⟨(ad.add (k * 4)).block, (ad.add (k * 4)).off + 3, none⟩ = some (.slice Ay y.f3.length cy)) (ds := []) #[false, false, false, false, false, false, false, false, false, false, false, false, false, false, false, false, false, false, false] (by kernel_rfl) rfl rfl ⟨hx0, hx1, hx2, hx3, hy0, hy1, hy2, hy3⟩ (fun hS => ?_)
         replace HBS := Aside0.mk (below_drew HBS.out)
         replace HCz := Aside0.mk (Kd.C_below HCz.out (below_drew (Below.refl _ _)))
         replace HCy := Aside0.mk (Kd.C_below HCy.out (below_drew (Below.refl _ _)))
         generalize wr.drew = wd5 at HBS HCz HCy hS ⊢
         clear hx0 hx1 hx2 hx3 hy0 hy1 hy2 hy3
         refine pure_ (i := 0) (N := some 71) (v := ?_) (a' := ?_) #[true, false, false, false, false, false, false, false, false, false, false, false, false, false, false, false, false, false, false] rfl rfl (by kernel_rfl) (fun _ _ _ h => h) (Or.inl ⟨by rfl, ?_⟩) ?_ ?_
         rotate_left
         ·intro w'
          go_simp
          with_reducible rfl
         rotate_left
         ·simp only [Act.put, List.setIfInBounds_toArray, List.set_cons_zero, List.set_cons_succ, i64_w, i32_w]
          rfl
         refine pure_ (i := 1) (N := some 72) (v := ?_) (a' := ?_) #[true, true, false, false, false, false, false, false, false, false, false, false, false, false, false, false, false, false, false] rfl rfl (by kernel_rfl) (fun _ _ _ h => h) (Or.inl ⟨by rfl, ?_⟩) ?_ ?_
         rotate_left
         ·intro w'
          go_simp
          with_reducible rfl
         rotate_left
         ·simp only [Act.put, List.setIfInBounds_toArray, List.set_cons_zero, List.set_cons_succ, i64_w, i32_w]
          rfl
         refine pure_ (i := 2) (N := some 73) (v := ?_) (a' := ?_) #[true, true, true, false, false, false, false, false, false, false, false, false, false, false, false, false, false, false, false] rfl rfl (by kernel_rfl) (fun _ _ _ h => h) (Or.inl ⟨by rfl, ?_⟩) ?_ ?_
         rotate_left
         ·intro w'
          go_simp
          with_reducible rfl
         rotate_left
         ·simp only [Act.put, List.setIfInBounds_toArray, List.set_cons_zero, List.set_cons_succ, i64_w, i32_w]
          rfl
         refine pure_ (i := 3) (N := some 74) (v := ?_) (a' := ?_) #[true, true, true, true, false, false, false, false, false, false, false, false, false, false, false, false, false, false, false] rfl rfl (by kernel_rfl) (fun _ _ _ h => h) (Or.inl ⟨by rfl, ?_⟩) ?_ ?_
         rotate_left
         ·intro w'
          go_simp
          with_reducible rfl
         rotate_left
         ·simp only [Act.put, List.setIfInBounds_toArray, List.set_cons_zero, List.set_cons_succ, i64_w, i32_w]
          rfl
         refine pure_ (i := 4) (N := some 75) (v := ?_) (a' := ?_) #[true, true, true, true, true, false, false, false, false, false, false, false, false, false, false, false, false, false, false] rfl rfl (by kernel_rfl) (fun _ _ _ h => h) (Or.inl ⟨by rfl, ?_⟩) ?_ ?_
         rotate_left
         ·intro w'
          go_simp
          with_reducible rfl
         rotate_left
         ·simp only [Act.put, List.setIfInBounds_toArray, List.set_cons_zero, List.set_cons_succ, i64_w, i32_w]
          rfl
         refine pure_ (i := 5) (N := some 76) (v := ?_) (a' := ?_) #[true, true, true, true, true, true, false, false, false, false, false, false, false, false, false, false, false, false, false] rfl rfl (by kernel_rfl) (fun _ _ _ h => h) (Or.inl ⟨by rfl, ?_⟩) ?_ ?_
         rotate_left
         ·intro w'
          go_simp
          with_reducible rfl
         rotate_left
         ·simp only [Act.put, List.setIfInBounds_toArray, List.set_cons_zero, List.set_cons_succ, i64_w, i32_w]
          rfl
         refine pure_ (i := 6) (N := some 77) (v := ?_) (a' := ?_) #[true, true, true, true, true, true, true, false, false, false, false, false, false, false, false, false, false, false, false] rfl rfl (by kernel_rfl) (fun _ _ _ h => h) (Or.inl ⟨by rfl, ?_⟩) ?_ ?_
         rotate_left
         ·intro w'
          go_simp
          with_reducible rfl
         rotate_left
         ·simp only [Act.put, List.setIfInBounds_toArray, List.set_cons_zero, List.set_cons_succ, i64_w, i32_w]
          rfl
         refine pure_ (i := 7) (N := some 78) (v := ?_) (a' := ?_) #[true, true, true, true, true, true, true, true, false, false, false, false, false, false, false, false, false, false, false] rfl rfl (by kernel_rfl) (fun _ _ _ h => h) (Or.inl ⟨by rfl, ?_⟩) ?_ ?_
         rotate_left
         ·intro w'
          go_simp
          with_reducible rfl
         rotate_left
         ·simp only [Act.put, List.setIfInBounds_toArray, List.set_cons_zero, List.set_cons_succ, i64_w, i32_w]
          rfl
         refine pure_ (i := 8) (N := some 79) (v := ?_) (a' := ?_) #[true, true, true, true, true, true, true, true, true, false, false, false, false, false, false, false, false, false, false] rfl rfl (by kernel_rfl) (fun _ _ _ h => h) (Or.inl ⟨by rfl, ?_⟩) ?_ ?_
         rotate_left
         ·intro w'
          go_simp
          with_reducible rfl
         rotate_left
         ·simp only [Act.put, List.setIfInBounds_toArray, List.set_cons_zero, List.set_cons_succ, i64_w, i32_w]
          rfl
         refine take_ (i := 9) (N := some 80) (v := .agg #[.int .u8 x.f0, .int .u64 x.f1, .string x.f2, .slice Ax x.f3.length cx]) #[true, true, true, true, true, true, true, true, true, true, false, false, false, false, false, false, false, false, false] rfl rfl (by kernel_rfl) (fun _ _ _ h => h) (Or.inl ⟨by rfl, ?_⟩) hS rfl ?_
         ·rintro w' ⟨h0, h1, h2, h3, h4, h5, h6, h7⟩
          go_simp
         refine norm_ (a' := ?_) ?_ ?_
         rotate_left
         ·try simp only [Act.put, putAll, List.setIfInBounds_toArray, List.set_cons_zero, List.set_cons_succ]
          rfl
         refine pure_ (i := 10) (N := some 81) (v := ?_) (a' := ?_) #[true, true, true, true, true, true, true, true, true, true, true, false, false, false, false, false, false, false, false] rfl rfl (by kernel_rfl) (fun _ _ _ h => h) (Or.inl ⟨by rfl, ?_⟩) ?_ ?_
         rotate_left
         ·intro w'
          go_simp
          with_reducible rfl
         rotate_left
         ·simp only [Act.put, List.setIfInBounds_toArray, List.set_cons_zero, List.set_cons_succ, i64_w, i32_w]
          rfl
         refine pure_ (i := 11) (N := some 82) (v := ?_) (a' := ?_) #[true, true, true, true, true, true, true, true, true, true, true, true, false, false, false, false, false, false, false] rfl rfl (by kernel_rfl) (fun _ _ _ h => h) (Or.inl ⟨by rfl, ?_⟩) ?_ ?_
         rotate_left
         ·intro w'
          go_simp
          with_reducible rfl
         rotate_left
         ·simp only [Act.put, List.setIfInBounds_toArray, List.set_cons_zero, List.set_cons_succ, i64_w, i32_w]
          rfl
         refine pure_ (i := 12) (N := some 83) (v := ?_) (a' := ?_) #[true, true, true, true, true, true, true, true, true, true, true, true, true, false, false, false, false, false, false] rfl rfl (by kernel_rfl) (fun _ _ _ h => h) (Or.inl ⟨by rfl, ?_⟩) ?_ ?_
         rotate_left
         ·intro w'
          go_simp
          with_reducible rfl
         rotate_left
         ·simp only [Act.put, List.setIfInBounds_toArray, List.set_cons_zero, List.set_cons_succ, i64_w, i32_w]
          rfl
         refine take_ (i := 13) (N := some 84) (v := .agg #[.int .u8 y.f0, .int .u64 y.f1, .string y.f2, .slice Ay y.f3.length cy]) #[true, true, true, true, true, true, true, true, true, true, true, true, true, true, false, false, false, false, false] rfl rfl (by kernel_rfl) (fun _ _ _ h => h) (Or.inl ⟨by rfl, ?_⟩) hS rfl ?_
         ·rintro w' ⟨h0, h1, h2, h3, h4, h5, h6, h7⟩
          go_simp
         refine norm_ (a' := ?_) ?_ ?_
         rotate_left
         ·try simp only [Act.put, putAll, List.setIfInBounds_toArray, List.set_cons_zero, List.set_cons_succ]
          rfl
         refine one_ (i := 14) (N := some 85) #[true, true, true, true, true, true, true, true, true, true, true, true, true, true, true, false, false, false, false] rfl rfl (by kernel_rfl) (by decide) (fun K hK => ?_)
         refine goes_ Try.func22 (by kernel_rfl) rfl #[.agg #[.int .u8 x.f0, .int .u64 x.f1, .string x.f2, .slice Ax x.f3.length cx], .agg #[.int .u8 y.f0, .int .u64 y.f1, .string y.f2, .slice Ay y.f3.length cy]] (by rfl) rfl rfl (by (try simp only [List.map_toArray, List.map_cons, List.map_nil]); first | done | rfl) ?_
         refine (same_any x y Ax Ay cx cy _ HCz.out hlx HCy.out hly).mono ?_
         rintro e wk6 ⟨rfl, hb6⟩
         refine ⟨_, rfl, ?_⟩
         have hS6 : wk6.cell? (ad.add (m * 4)) = some (.int .u8 x.f0) ∧ wk6.cell? ⟨(ad.add (m * 4)).block, (ad.add (m * 4)).off + 1, none⟩ = some (.int .u64 x.f1) ∧ wk6.cell? ⟨(ad.add (m * 4)).block, (ad.add (m * 4)).off + 2, none⟩ = some (.string x.f2) ∧ wk6.cell? ⟨(ad.add (m * 4)).block, (ad.add (m * 4)).off + 3, none⟩ = some (.slice Ax x.f3.length cx) ∧ wk6.cell? (ad.add (k * 4)) = some (.int .u8 y.f0) ∧ wk6.cell? ⟨(ad.add (k * 4)).block, (ad.add (k * 4)).off + 1, none⟩ = some (.int .u64 y.f1) ∧ wk6.cell? ⟨(ad.add (k * 4)).block, (ad.add (k * 4)).off + 2, none⟩ = some (.string y.f2) ∧ wk6.cell? ⟨(ad.add (k * 4)).block, (ad.add (k * 4)).off + 3, none⟩ = some (.slice Ay y.f3.length cy) := ⟨(hb6.cell (World.block_lt_of_cell? _ _ hS.1)).trans hS.1, (hb6.cell (World.block_lt_of_cell? _ _ hS.2.1)).trans hS.2.1, (hb6.cell (World.block_lt_of_cell? _ _ hS.2.2.1)).trans hS.2.2.1, (hb6.cell (World.block_lt_of_cell? _ _ hS.2.2.2.1)).trans hS.2.2.2.1, (hb6.cell (World.block_lt_of_cell? _ _ hS.2.2.2.2.1)).trans hS.2.2.2.2.1, (hb6.cell (World.block_lt_of_cell? _ _ hS.2.2.2.2.2.1)).trans hS.2.2.2.2.2.1, (hb6.cell (World.block_lt_of_cell? _ _ hS.2.2.2.2.2.2.1)).trans hS.2.2.2.2.2.2.1, (hb6.cell (World.block_lt_of_cell? _ _ hS.2.2.2.2.2.2.2)).trans hS.2.2.2.2.2.2.2⟩
         have HBS6 := Aside0.mk (below_step HBS.out hb6)
         have HCz6 := Aside0.mk (Kd.C_below HCz.out hb6)
         have HCy6 := Aside0.mk (Kd.C_below HCy.out hb6)
         refine hK.out _ _ hS6 (fun _ => ?_)
         clear hK K hb6
         refine norm_ (a' := ?_) ?_ ?_
         rotate_left
         ·try simp only [Act.put, putAll, List.setIfInBounds_toArray, List.set_cons_zero, List.set_cons_succ]
          rfl
         refine pure_ (i := 15) (N := some 86) (v := ?_) (a' := ?_) #[true, true, true, true, true, true, true, true, true, true, true, true, true, true, true, true, false, false, false] rfl rfl (by kernel_rfl) (fun _ _ _ h => h) (Or.inl ⟨by rfl, ?_⟩) ?_ ?_
         rotate_left
         ·intro w'
          go_simp
          with_reducible rfl
         rotate_left
         ·simp only [Act.put, List.setIfInBounds_toArray, List.set_cons_zero, List.set_cons_succ, i64_w, i32_w]
          rfl
         refine pure_ (i := 16) (N := some 87) (v := ?_) (a' := ?_) #[true, true, true, true, true, true, true, true, true, true, true, true, true, true, true, true, true, false, false] rfl rfl (by kernel_rfl) (fun _ _ _ h => h) (Or.inl ⟨by rfl, ?_⟩) ?_ ?_
         rotate_left
         ·intro w'
          go_simp
          with_reducible rfl
         rotate_left
         ·simp only [Act.put, List.setIfInBounds_toArray, List.set_cons_zero, List.set_cons_succ, i64_w, i32_w]
          rfl
         refine pure_ (i := 17) (N := some 88) (v := ?_) (a' := ?_) #[true, true, true, true, true, true, true, true, true, true, true, true, true, true, true, true, true, true, false] rfl rfl (by kernel_rfl) (fun _ _ _ h => h) (Or.inl ⟨by rfl, ?_⟩) ?_ ?_
         rotate_left
         ·intro w'
          go_simp
          with_reducible rfl
         rotate_left
         ·simp only [Act.put, List.setIfInBounds_toArray, List.set_cons_zero, List.set_cons_succ, i64_w, i32_w]
          rfl
         refine pure_ (i := 18) (N := some 4) (v := ?_) (a' := ?_) #[true, true, true, true, true, true, true, true, true, true, true, true, true, true, true, true, true, true, true] rfl rfl (by kernel_rfl) (fun _ _ _ h => h) (Or.inl ⟨by rfl, ?_⟩) ?_ ?_
         rotate_left
         ·intro w'
          go_simp
          with_reducible rfl
         rotate_left
         ·simp only [Act.put, List.setIfInBounds_toArray, List.set_cons_zero, List.set_cons_succ, i64_w, i32_w]
          rfl
         refine done_ (by kernel_rfl) ?_
         go_wp2_with fail
         go_roundg (m + 2 - (k + 2))
         case measure => rw [HKG.out]; omega
         case rel => exact ⟨k + 2, !veq x y, rfl, by go_num, ⟨by rw [unK_step l HK2.out, ← HKU.out, HM.out, EX.out, EY.out]; rfl, by have := HK2.out; omega, by omega, rfl⟩, ⟨HWk.out.trans (HBS6.out.mono HWk.out.size)⟩⟩
      ·go_wp2_with fail
       go_roundg (l.length - (m + 1))
       case measure => rw [HG.out]; omega
       case rel =>
        have hv := HV.out
        have h1 : ((m : Int) + 1).toNat = m + 1 := by omega
        refine ⟨(m : Int) + 1, _, _, rfl, rfl, rfl, ⟨?_, ?_, good_step hi0 hlt hv.2.2 (by rw [EX.out]; exact HGood.out)⟩, ⟨by omega, by omega, by rw [h1]⟩, ⟨HW.out.trans ((HBd.out.trans (HWk.out.mono HBd.out.size)).mono HW.out.size)⟩⟩
        ·rw [alB_step hi0 hlt, ← hv.1, EX.out, EZ.out]
        ·rw [h1, HKU.out]; exact unK_end l HK2.out (by omega) hk1
  ·obtain rfl : i = l.length := by omega
   have hv := HV.out
   rw [Int.toNat_natCast, List.take_length] at hv
   have HRA : Aside0 (rightB ⟨24, 0, ⟨#[]⟩, l⟩ = (al && decide (itemsL l + 1 ≤ 1024))) := ⟨by rw [hv.1]; exact rightB_arr hv.2.2⟩
   have HRM : Aside0 (rightB ⟨23, 0, ⟨#[]⟩, l⟩ = (un && decide (itemsL l + 1 ≤ 1024))) := ⟨by rw [hv.2.1]; exact rightB_map hv.2.2⟩
   have hi24 : itemsN ⟨24, 0, ⟨#[]⟩, l⟩ ≤ 4294967296 := by simp only [itemsN]; omega
   have hi23 : itemsN ⟨23, 0, ⟨#[]⟩, l⟩ ≤ 4294967296 := by simp only [itemsN]; omega
   have ho24 : Aside0 (okV ⟨24, 0, ⟨#[]⟩, l⟩) := ⟨by rw [okV]; exact ⟨⟨⟨by omega, by omega⟩, by decide⟩, hol⟩⟩
   have ho23 : Aside0 (okV ⟨23, 0, ⟨#[]⟩, l⟩) := ⟨by rw [okV]; exact ⟨⟨⟨by omega, by omega⟩, by decide⟩, hol⟩⟩
   have hie : ((itemsN ⟨24, 0, ⟨#[]⟩, l⟩ : Nat) : Int) = (itemsL l : Int) + 1 := by simp [itemsN]
   have HIE := Aside0.mk hie
   have HB2 := Aside0.mk (below_step HB1.out HW.out)
   clear hv HV hie HG hlt hi0 hi1 HW HB1
   go_wp2_with fail
   refine (many21_any 24 l hNL A c _ (Kd.C_below HA0.out HB2.out) hc0).mono ?_
   rintro e w5 ⟨v7, rfl, hR5, hb5⟩
   obtain ⟨A7, c7, rfl⟩ := Kd.R_slice hR5
   have hc7 := (Kd.R_reads' hR5).2.1
   have hal := below_alloc (Below.refl w5.heap.size w5) (.cells #[.int .u8 24, .int .u64 0, .string ⟨#[]⟩, .slice A7 l.length c7] 25)
   have b7 := Blk.new w5 #[.int .u8 24, .int .u64 0, .string ⟨#[]⟩, .slice A7 l.length c7] 25
   have HB5 := Aside0.mk (below_step (below_step HB2.out hb5) hal)
   have HC5 := Aside0.mk (Kd.C_below (Kd.R_reads' hR5).2.2 hal)
   clear hR5 hb5 hal HB2
   go_wp2_with fail
   refine (many21_any 23 l hNL A c _ (Kd.C_below HA0.out HB5.out) hc0).mono ?_
   rintro e w6 ⟨v8, rfl, hR6, hb6⟩
   obtain ⟨A8, c8, rfl⟩ := Kd.R_slice hR6
   have hc8 := (Kd.R_reads' hR6).2.1
   have hal := below_alloc (Below.refl w6.heap.size w6) (.cells #[.int .u8 23, .int .u64 0, .string ⟨#[]⟩, .slice A8 l.length c8] 25)
   have k7 := (b7.below hb6).below hal
   have k8 := Blk.new w6 #[.int .u8 23, .int .u64 0, .string ⟨#[]⟩, .slice A8 l.length c8] 25
   have HB6 := Aside0.mk (below_step (below_step HB5.out hb6) hal)
   have HC6 := Aside0.mk (Kd.C_below (Kd.C_below HC5.out hb6) hal)
   have HM6 := Aside0.mk (Kd.C_below (Kd.R_reads' hR6).2.2 hal)
   clear hR6 hb6 hal HB5 HC5 b7
   obtain ⟨p0, p1, p2, p3⟩ := k7.c4
   go_wp2_with fail
   obtain ⟨n7, e7⟩ : ∃ b, w5.heap.size = b := ⟨_, rfl⟩
   obtain ⟨n8, e8⟩ : ∃ b, w6.heap.size = b := ⟨_, rfl⟩
   obtain ⟨w7, ew⟩ : ∃ W, w6.alloc (.cells #[.int .u8 23, .int .u64 0, .string ⟨#[]⟩, .slice A8 l.length c8] 25) = W := ⟨_, rfl⟩
   rw [ew] at k7 k8 HB6 HC6 HM6 p0 p1 p2 p3 ⊢
   rw [e7] at k7 p0 p1 p2 p3 ⊢
   rw [e8] at k8 ⊢
   clear ew e7 e8
   refine (items34_any ⟨24, 0, ⟨#[]⟩, l⟩ hi24 A7 c7 _ HC6.out hc7).mono ?_
   rintro e w8 ⟨he, hb8⟩
   rw [HIE.out] at he
   subst he
   have j7 := k7.below hb8
   have j8 := k8.below hb8
   have HB8 := Aside0.mk (below_step HB6.out hb8)
   have HC8 := Aside0.mk (Kd.C_below HC6.out hb8)
   have HM8 := Aside0.mk (Kd.C_below HM6.out hb8)
   clear p0 p1 p2 p3 k7 k8 hb8 HB6 HC6 HM6 HIE
   obtain ⟨p0, p1, p2, p3⟩ := j7.c4
   by_cases hf : (itemsL l : Int) + 1 ≤ 1024
   ·rw [decide_eq_true (p := itemsL l + 1 ≤ 1024) (by omega), Bool.and_true] at HRA HRM
    cases al with
    | false =>
     cases un with
     | false =>
      go_wp2_with fail
      refine (right17_any ⟨24, 0, ⟨#[]⟩, l⟩ hi24 ho24.out A7 c7 _ HC8.out hc7).mono ?_
      rintro e w9 ⟨he, hb9⟩
      rw [HRA.out] at he
      subst he
      have i8 := j8.below hb9
      have HB9 := Aside0.mk (below_step HB8.out hb9)
      have HM9 := Aside0.mk (Kd.C_below HM8.out hb9)
      clear p0 p1 p2 p3 hb9
      obtain ⟨p0, p1, p2, p3⟩ := i8.c4
      go_wp2_with fail
      refine (right17_any ⟨23, 0, ⟨#[]⟩, l⟩ hi23 ho23.out A8 c8 _ HM9.out hc8).mono ?_
      rintro e wx ⟨he, hbx⟩
      rw [HRM.out] at he
      subst he
      have HBx := Aside0.mk (below_step HB9.out hbx)
      clear p0 p1 p2 p3 hbx
      go_wp2_with fail
      refine (works15_any _).mono ?_
      rintro e wz ⟨rfl, hbz⟩
      go_wp2_with fail
      go_ret
      first
       | exact ⟨rfl, below_step HBx.out hbz⟩
       | exact ⟨by show Ending.returned (.bool (!decide ((itemsL l : Int) + 1 ≤ 1024))) = _; rw [decide_eq_false (by omega)]; rfl, below_step HBx.out hbz⟩
     | true =>
      go_wp2_with fail
      refine (right17_any ⟨24, 0, ⟨#[]⟩, l⟩ hi24 ho24.out A7 c7 _ HC8.out hc7).mono ?_
      rintro e w9 ⟨he, hb9⟩
      rw [HRA.out] at he
      subst he
      have i8 := j8.below hb9
      have HB9 := Aside0.mk (below_step HB8.out hb9)
      have HM9 := Aside0.mk (Kd.C_below HM8.out hb9)
      clear p0 p1 p2 p3 hb9
      obtain ⟨p0, p1, p2, p3⟩ := i8.c4
      go_wp2_with fail
      refine (right17_any ⟨23, 0, ⟨#[]⟩, l⟩ hi23 ho23.out A8 c8 _ HM9.out hc8).mono ?_
      rintro e wx ⟨he, hbx⟩
      rw [HRM.out] at he
      subst he
      have HBx := Aside0.mk (below_step HB9.out hbx)
      clear p0 p1 p2 p3 hbx
      go_wp2_with fail
      refine (works15_any _).mono ?_
      rintro e wz ⟨rfl, hbz⟩
      go_wp2_with fail
      go_ret
      first
       | exact ⟨rfl, below_step HBx.out hbz⟩
       | exact ⟨by show Ending.returned (.bool (!decide ((itemsL l : Int) + 1 ≤ 1024))) = _; rw [decide_eq_false (by omega)]; rfl, below_step HBx.out hbz⟩
    | true =>
     cases un with
     | false =>
      go_wp2_with fail
      refine (right17_any ⟨24, 0, ⟨#[]⟩, l⟩ hi24 ho24.out A7 c7 _ HC8.out hc7).mono ?_
      rintro e w9 ⟨he, hb9⟩
      rw [HRA.out] at he
      subst he
      have i8 := j8.below hb9
      have HB9 := Aside0.mk (below_step HB8.out hb9)
      have HM9 := Aside0.mk (Kd.C_below HM8.out hb9)
      clear p0 p1 p2 p3 hb9
      obtain ⟨p0, p1, p2, p3⟩ := i8.c4
      go_wp2_with fail
      refine (right17_any ⟨23, 0, ⟨#[]⟩, l⟩ hi23 ho23.out A8 c8 _ HM9.out hc8).mono ?_
      rintro e wx ⟨he, hbx⟩
      rw [HRM.out] at he
      subst he
      have HBx := Aside0.mk (below_step HB9.out hbx)
      clear p0 p1 p2 p3 hbx
      go_wp2_with fail
      refine (works15_any _).mono ?_
      rintro e wz ⟨rfl, hbz⟩
      go_wp2_with fail
      go_ret
      first
       | exact ⟨rfl, below_step HBx.out hbz⟩
       | exact ⟨by show Ending.returned (.bool (!decide ((itemsL l : Int) + 1 ≤ 1024))) = _; rw [decide_eq_false (by omega)]; rfl, below_step HBx.out hbz⟩
     | true =>
      go_wp2_with fail
      refine (right17_any ⟨24, 0, ⟨#[]⟩, l⟩ hi24 ho24.out A7 c7 _ HC8.out hc7).mono ?_
      rintro e w9 ⟨he, hb9⟩
      rw [HRA.out] at he
      subst he
      have i8 := j8.below hb9
      have HB9 := Aside0.mk (below_step HB8.out hb9)
      have HM9 := Aside0.mk (Kd.C_below HM8.out hb9)
      clear p0 p1 p2 p3 hb9
      obtain ⟨p0, p1, p2, p3⟩ := i8.c4
      go_wp2_with fail
      refine (right17_any ⟨23, 0, ⟨#[]⟩, l⟩ hi23 ho23.out A8 c8 _ HM9.out hc8).mono ?_
      rintro e wx ⟨he, hbx⟩
      rw [HRM.out] at he
      subst he
      have HBx := Aside0.mk (below_step HB9.out hbx)
      clear p0 p1 p2 p3 hbx
      go_wp2_with fail
      refine (works15_any _).mono ?_
      rintro e wz ⟨rfl, hbz⟩
      go_wp2_with fail
      go_ret
      first
       | exact ⟨rfl, below_step HBx.out hbz⟩
       | exact ⟨by show Ending.returned (.bool (!decide ((itemsL l : Int) + 1 ≤ 1024))) = _; rw [decide_eq_false (by omega)]; rfl, below_step HBx.out hbz⟩
   ·rw [decide_eq_false (p := itemsL l + 1 ≤ 1024) (by omega), Bool.and_false] at HRA HRM
    cases al with
    | false =>
     cases un with
     | false =>
      go_wp2_with fail
      refine (right17_any ⟨24, 0, ⟨#[]⟩, l⟩ hi24 ho24.out A7 c7 _ HC8.out hc7).mono ?_
      rintro e w9 ⟨he, hb9⟩
      rw [HRA.out] at he
      subst he
      have i8 := j8.below hb9
      have HB9 := Aside0.mk (below_step HB8.out hb9)
      have HM9 := Aside0.mk (Kd.C_below HM8.out hb9)
      clear p0 p1 p2 p3 hb9
      obtain ⟨p0, p1, p2, p3⟩ := i8.c4
      go_wp2_with fail
      refine (right17_any ⟨23, 0, ⟨#[]⟩, l⟩ hi23 ho23.out A8 c8 _ HM9.out hc8).mono ?_
      rintro e wx ⟨he, hbx⟩
      rw [HRM.out] at he
      subst he
      have HBx := Aside0.mk (below_step HB9.out hbx)
      clear p0 p1 p2 p3 hbx
      go_wp2_with fail
      refine (works15_any _).mono ?_
      rintro e wz ⟨rfl, hbz⟩
      go_wp2_with fail
      go_ret
      first
       | exact ⟨rfl, below_step HBx.out hbz⟩
       | exact ⟨by show Ending.returned (.bool (!decide ((itemsL l : Int) + 1 ≤ 1024))) = _; rw [decide_eq_false (by omega)]; rfl, below_step HBx.out hbz⟩
     | true =>
      go_wp2_with fail
      refine (right17_any ⟨24, 0, ⟨#[]⟩, l⟩ hi24 ho24.out A7 c7 _ HC8.out hc7).mono ?_
      rintro e w9 ⟨he, hb9⟩
      rw [HRA.out] at he
      subst he
      have i8 := j8.below hb9
      have HB9 := Aside0.mk (below_step HB8.out hb9)
      have HM9 := Aside0.mk (Kd.C_below HM8.out hb9)
      clear p0 p1 p2 p3 hb9
      obtain ⟨p0, p1, p2, p3⟩ := i8.c4
      go_wp2_with fail
      refine (right17_any ⟨23, 0, ⟨#[]⟩, l⟩ hi23 ho23.out A8 c8 _ HM9.out hc8).mono ?_
      rintro e wx ⟨he, hbx⟩
      rw [HRM.out] at he
      subst he
      have HBx := Aside0.mk (below_step HB9.out hbx)
      clear p0 p1 p2 p3 hbx
      go_wp2_with fail
      refine (works15_any _).mono ?_
      rintro e wz ⟨rfl, hbz⟩
      go_wp2_with fail
      go_ret
      first
       | exact ⟨rfl, below_step HBx.out hbz⟩
       | exact ⟨by show Ending.returned (.bool (!decide ((itemsL l : Int) + 1 ≤ 1024))) = _; rw [decide_eq_false (by omega)]; rfl, below_step HBx.out hbz⟩
    | true =>
     cases un with
     | false =>
      go_wp2_with fail
      refine (right17_any ⟨24, 0, ⟨#[]⟩, l⟩ hi24 ho24.out A7 c7 _ HC8.out hc7).mono ?_
      rintro e w9 ⟨he, hb9⟩
      rw [HRA.out] at he
      subst he
      have i8 := j8.below hb9
      have HB9 := Aside0.mk (below_step HB8.out hb9)
      have HM9 := Aside0.mk (Kd.C_below HM8.out hb9)
      clear p0 p1 p2 p3 hb9
      obtain ⟨p0, p1, p2, p3⟩ := i8.c4
      go_wp2_with fail
      refine (right17_any ⟨23, 0, ⟨#[]⟩, l⟩ hi23 ho23.out A8 c8 _ HM9.out hc8).mono ?_
      rintro e wx ⟨he, hbx⟩
      rw [HRM.out] at he
      subst he
      have HBx := Aside0.mk (below_step HB9.out hbx)
      clear p0 p1 p2 p3 hbx
      go_wp2_with fail
      refine (works15_any _).mono ?_
      rintro e wz ⟨rfl, hbz⟩
      go_wp2_with fail
      go_ret
      first
       | exact ⟨rfl, below_step HBx.out hbz⟩
       | exact ⟨by show Ending.returned (.bool (!decide ((itemsL l : Int) + 1 ≤ 1024))) = _; rw [decide_eq_false (by omega)]; rfl, below_step HBx.out hbz⟩
     | true =>
      go_wp2_with fail
      refine (right17_any ⟨24, 0, ⟨#[]⟩, l⟩ hi24 ho24.out A7 c7 _ HC8.out hc7).mono ?_
      rintro e w9 ⟨he, hb9⟩
      rw [HRA.out] at he
      subst he
      have i8 := j8.below hb9
      have HB9 := Aside0.mk (below_step HB8.out hb9)
      have HM9 := Aside0.mk (Kd.C_below HM8.out hb9)
      clear p0 p1 p2 p3 hb9
      obtain ⟨p0, p1, p2, p3⟩ := i8.c4
      go_wp2_with fail
      refine (right17_any ⟨23, 0, ⟨#[]⟩, l⟩ hi23 ho23.out A8 c8 _ HM9.out hc8).mono ?_
      rintro e wx ⟨he, hbx⟩
      rw [HRM.out] at he
      subst he
      have HBx := Aside0.mk (below_step HB9.out hbx)
      clear p0 p1 p2 p3 hbx
      go_wp2_with fail
      refine (works15_any _).mono ?_
      rintro e wz ⟨rfl, hbz⟩
      go_wp2_with fail
      go_ret
      first
       | exact ⟨rfl, below_step HBx.out hbz⟩
       | exact ⟨by show Ending.returned (.bool (!decide ((itemsL l : Int) + 1 ≤ 1024))) = _; rw [decide_eq_false (by omega)]; rfl, below_step HBx.out hbz⟩
end Go.Proofs.Ytdilbnggedidnaa.PVal
