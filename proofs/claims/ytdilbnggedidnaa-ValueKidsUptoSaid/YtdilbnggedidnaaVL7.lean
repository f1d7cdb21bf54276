import Derived.Test.YtdilbnggedidnaaVHKid
namespace Go.Proofs.Ytdilbnggedidnaa.PVal
open Go.RowKit Go.Shelf Go.Proofs.YtdilbnggedidnaaW.PrintWords Go.Proofs.YtdilbnggedidnaaW.PrintLast
attribute [local go_sem] max2_int max_two
set_option linter.unusedVariables false
set_option linter.unusedSimpArgs false
theorem all_take {l : List S25} {i : Int} (h0 : 0 ≤ i) (h1 : i < l.length) : (l.take (i + 1).toNat).all rightB = ((l.take i.toNat).all rightB && rightB (rd_T25 l i)) := by rw [take_rd h0 h1, List.all_append]; simp
theorem depth_take {l : List S25} {i : Int} (h0 : 0 ≤ i) (h1 : i < l.length) : depthL (l.take (i + 1).toNat) = max (depthL (l.take i.toNat)) (depthN (rd_T25 l i)) := by rw [take_rd h0 h1, depthL_app]; simp [depthL]
theorem items_take {l : List S25} {i : Int} (h0 : 0 ≤ i) (h1 : i < l.length) : itemsL (l.take (i + 1).toNat) = itemsL (l.take i.toNat) + itemsN (rd_T25 l i) := by rw [take_rd h0 h1, itemsL_app]; simp [itemsL]
theorem items_take_le (l : List S25) (k : Nat) : itemsL (l.take k) ≤ itemsL l := by
 have := itemsL_app (l.take k) (l.drop k)
 rw [List.take_append_drop] at this; omega
theorem depth_le_items : ∀ l : List S25, depthL l ≤ itemsL l := fun l => by have := foldL_le (f := max) step_max.le 0 l; rw [foldL_max] at this; omega
theorem depth_take_le (l : List S25) (k : Nat) : depthL (l.take k) ≤ itemsL l := Nat.le_trans (depth_le_items _) (items_take_le l k)
theorem descB_int (x : S25) : descB x = ((rightB x && decide ((depthN x : Int) < 16)) && decide ((itemsN x : Int) < 1023)) := by
 unfold descB
 rw [show decide (depthN x < 16) = decide ((depthN x : Int) < 16) from decide_eq_decide.2 (by omega), show decide (itemsN x < 1023) = decide ((itemsN x : Int) < 1023) from decide_eq_decide.2 (by omega)]
theorem kidsB_int {l : List S25} {al : Bool} {dp it : Nat} (h1 : al = l.all rightB) (h2 : dp = depthL l) (h3 : it = itemsL l) : kidsB l = ((al && decide ((dp : Int) < 16)) && decide ((it : Int) < 1024)) := by
 subst h1 h2 h3
 unfold kidsB
 rw [show decide (depthL l < 16) = decide ((depthL l : Int) < 16) from decide_eq_decide.2 (by omega), show decide (itemsL l < 1024) = decide ((itemsL l : Int) < 1024) from decide_eq_decide.2 (by omega)]
set_option maxRecDepth 100000 in
set_option maxHeartbeats 4000000 in
theorem kids7_any (l : List S25) (n : Int) (w : World) (hol : okL l) (A : Option Addr) (c : Nat) (ha : k25.C w A l.length l) (hc0 : l.length ≤ c) (hn : (Lit.int .u64 n).wf = true) (hx : itemsL l + textsL l ≤ 1048576) :
  Calls Try.prog 7 #[.slice A l.length c, .int .u64 n] w fun e w' => e = .returned (.bool true) ∧ Below w.heap.size w w' := by
 have HA0 := Aside0.mk ha
 have hNL : itemsL l ≤ 4294967296 := by omega
 have hll : l.length ≤ 1048576 := by have := itemsL_length l; omega
 have hn0 : 0 ≤ n := (bounds_u64 hn).1
 have HN1 : Aside0 (n < 18446744073709551616) := ⟨by have := (bounds_u64 hn).2; omega⟩
 clear ha hn
 go_enter Try.func7, Try.ntmps7
 go_wp2_with fail
 refine (large14_any l A c _ HA0.out hc0 (by omega)).mono ?_
 rintro e w1 ⟨rfl, hb1⟩
 have HB1 := Aside0.mk hb1
 clear hb1
 by_cases hl : largeB l = true
 ·rw [hl]
  go_wp2_with fail
  refine (works15_any _).mono ?_
  rintro e w2 ⟨rfl, hb2⟩
  go_wp2_with fail
  go_ret
  exact ⟨rfl, below_step HB1.out hb2⟩
 replace hl : largeB l = false := by simpa using hl
 rw [hl]
 clear hl
 go_wp2_with fail
 refine (many21_any 22 l hNL A c _ (Kd.C_below HA0.out HB1.out) hc0).mono ?_
 rintro e w2 ⟨v5, rfl, hR2, hb2⟩
 obtain ⟨A5, c5, rfl⟩ := Kd.R_slice hR2
 have hc5 := (Kd.R_reads' hR2).2.1
 have hal := below_alloc (Below.refl w2.heap.size w2) (.cells #[.int .u8 22, .int .u64 0, .string ⟨#[]⟩, .slice A5 l.length c5] 25)
 have bV := Blk.new w2 #[.int .u8 22, .int .u64 0, .string ⟨#[]⟩, .slice A5 l.length c5] 25
 have HB2 := Aside0.mk (below_step (below_step HB1.out hb2) hal)
 have HV2 := Aside0.mk (Kd.C_below (Kd.R_reads' hR2).2.2 hal)
 clear hR2 hb2 hal HB1
 go_wp2_with fail
 obtain ⟨b5, e5⟩ : ∃ b, w2.heap.size = b := ⟨_, rfl⟩
 obtain ⟨w3, e3⟩ : ∃ W, w2.alloc (.cells #[.int .u8 22, .int .u64 0, .string ⟨#[]⟩, .slice A5 l.length c5] 25) = W := ⟨_, rfl⟩
 rw [e3] at bV HB2 HV2 ⊢
 rw [e5] at bV ⊢
 clear e3 e5
 have BV := Aside0.mk bV
 clear bV
 have HOK := Aside0.mk (fun x (hx : x ∈ l) => okL_mem hol hx)
 have hLn : 0 ≤ (l.length : Int) := by omega
 go_loopg [6, 7, 8, 9] l.length (fun gk v6 v7 v8 v9 wr => ∃ (i : Int) (al : Bool) (dp it : Nat), v6 = .bool al ∧ v7 = .int .i64 (dp : Int) ∧ v8 = .int .i64 (it : Int) ∧ v9 = .int .i64 i ∧ Aside0 (al = (l.take i.toNat).all rightB ∧ dp = depthL (l.take i.toNat) ∧ it = itemsL (l.take i.toNat)) ∧ Aside0 (0 ≤ i ∧ i ≤ l.length ∧ gk = l.length - i.toNat) ∧ Aside0 (Below w3.heap.size w3 wr))
 case atStart => exact ⟨0, true, 0, 0, rfl, rfl, rfl, rfl, ⟨by simp, by simp [depthL], by simp [itemsL]⟩, ⟨by omega, by omega, by simp⟩, ⟨Below.refl _ _⟩⟩
 case round =>
  obtain ⟨i, al, dp, it, rfl, rfl, rfl, rfl, HV, HI, HW⟩ := hrel
  obtain ⟨hi0, hi1, hgk⟩ := HI.out
  have HG := Aside0.mk hgk
  clear HI hgk
  have hdl : dp ≤ 1048576 := by have := depth_take_le l i.toNat; rw [HV.out.2.1]; omega
  have hil : it ≤ 1048576 := by have := items_take_le l i.toNat; rw [HV.out.2.2]; omega
  by_cases hlt : i < l.length
  ·have hmem := rd_mem hi0 hlt
   have hNx : itemsN (rd_T25 l i) ≤ 1048576 := by have := itemsL_mem hmem; omega
   have hok := HOK.out _ hmem
   have HT1 := Aside0.mk (all_take hi0 hlt)
   have HT2 := Aside0.mk (depth_take hi0 hlt)
   have HT3 := Aside0.mk (items_take hi0 hlt)
   have HMEM := Aside0.mk hmem
   have HOX := Aside0.mk hok
   have hdx : depthN (rd_T25 l i) ≤ 1048576 := by have := depthL_mem hmem; have := depth_le_items l; omega
   clear hmem hok
   obtain ⟨ad, Ax, cx, eA, hx0, hx1, hx2, hx3, hlx, hCx⟩ := at_T25 (Kd.C_below HA0.out (below_step HB2.out HW.out)) i hi0 hlt
   cases eA
   have HCx := Aside0.mk hCx
   have HX := Aside0.mk (And.intro hx0 (And.intro hx1 (And.intro hx2 hx3)))
   clear hCx hx0 hx1 hx2 hx3
   cases al with
   | false =>
    have HB := Aside0.mk (Below.refl wr.heap.size wr)
    have hx0 := (HB.out.cell (World.block_lt_of_cell? _ _ HX.out.1)).trans HX.out.1
    have hx1 := (HB.out.cell (World.block_lt_of_cell? _ _ HX.out.2.1)).trans HX.out.2.1
    have hx2 := (HB.out.cell (World.block_lt_of_cell? _ _ HX.out.2.2.1)).trans HX.out.2.2.1
    have hx3 := (HB.out.cell (World.block_lt_of_cell? _ _ HX.out.2.2.2)).trans HX.out.2.2.2
    go_wp2_with fail
    refine (depth32_any (rd_T25 l i) (by omega) Ax cx _ (Kd.C_below HCx.out HB.out) hlx).mono ?_
    rintro e wb ⟨rfl, hbb⟩
    have HBb := Aside0.mk (below_step HB.out hbb)
    clear hx0 hx1 hx2 hx3 hbb
    have hx0 := (HBb.out.cell (World.block_lt_of_cell? _ _ HX.out.1)).trans HX.out.1
    have hx1 := (HBb.out.cell (World.block_lt_of_cell? _ _ HX.out.2.1)).trans HX.out.2.1
    have hx2 := (HBb.out.cell (World.block_lt_of_cell? _ _ HX.out.2.2.1)).trans HX.out.2.2.1
    have hx3 := (HBb.out.cell (World.block_lt_of_cell? _ _ HX.out.2.2.2)).trans HX.out.2.2.2
    go_wp2_with fail
    all_goals
     refine (items34_any (rd_T25 l i) (by omega) Ax cx _ (Kd.C_below HCx.out HBb.out) hlx).mono ?_
     rintro e wc ⟨rfl, hbc⟩
     have HBc := Aside0.mk (below_step HBb.out hbc)
     clear hx0 hx1 hx2 hx3 hbc
     go_wp2_with fail
     go_roundg (l.length - (i + 1).toNat)
     case measure => rw [HG.out]; omega
     case rel =>
      refine ⟨i + 1, false, max dp (depthN (rd_T25 l i)), it + itemsN (rd_T25 l i), rfl, ?_, by go_num, by go_num, ⟨?_, ?_, ?_⟩, ⟨by omega, by omega, rfl⟩, ⟨HW.out.trans (HBc.out.mono HW.out.size)⟩⟩
      ·congr 1; omega
      ·rw [HT1.out, ← HV.out.1]; simp
      ·rw [HT2.out, ← HV.out.2.1]
      ·rw [HT3.out, ← HV.out.2.2]
   | true =>
    obtain ⟨hx0, hx1, hx2, hx3⟩ := HX.out
    go_wp2_with fail
    refine (right17_any (rd_T25 l i) (by omega) HOX.out Ax cx _ HCx.out hlx).mono ?_
    rintro e wa ⟨rfl, hba⟩
    have HBa := Aside0.mk hba
    clear hx0 hx1 hx2 hx3 hba
    have hx0 := (HBa.out.cell (World.block_lt_of_cell? _ _ HX.out.1)).trans HX.out.1
    have hx1 := (HBa.out.cell (World.block_lt_of_cell? _ _ HX.out.2.1)).trans HX.out.2.1
    have hx2 := (HBa.out.cell (World.block_lt_of_cell? _ _ HX.out.2.2.1)).trans HX.out.2.2.1
    have hx3 := (HBa.out.cell (World.block_lt_of_cell? _ _ HX.out.2.2.2)).trans HX.out.2.2.2
    go_wp2_with fail
    refine (depth32_any (rd_T25 l i) (by omega) Ax cx _ (Kd.C_below HCx.out HBa.out) hlx).mono ?_
    rintro e wb ⟨rfl, hbb⟩
    have HBb := Aside0.mk (below_step HBa.out hbb)
    clear hx0 hx1 hx2 hx3 hbb
    have hx0 := (HBb.out.cell (World.block_lt_of_cell? _ _ HX.out.1)).trans HX.out.1
    have hx1 := (HBb.out.cell (World.block_lt_of_cell? _ _ HX.out.2.1)).trans HX.out.2.1
    have hx2 := (HBb.out.cell (World.block_lt_of_cell? _ _ HX.out.2.2.1)).trans HX.out.2.2.1
    have hx3 := (HBb.out.cell (World.block_lt_of_cell? _ _ HX.out.2.2.2)).trans HX.out.2.2.2
    go_wp2_with fail
    all_goals
     refine (items34_any (rd_T25 l i) (by omega) Ax cx _ (Kd.C_below HCx.out HBb.out) hlx).mono ?_
     rintro e wc ⟨rfl, hbc⟩
     have HBc := Aside0.mk (below_step HBb.out hbc)
     clear hx0 hx1 hx2 hx3 hbc
     go_wp2_with fail
     go_roundg (l.length - (i + 1).toNat)
     case measure => rw [HG.out]; omega
     case rel =>
      refine ⟨i + 1, rightB (rd_T25 l i), max dp (depthN (rd_T25 l i)), it + itemsN (rd_T25 l i), rfl, ?_, by go_num, by go_num, ⟨?_, ?_, ?_⟩, ⟨by omega, by omega, rfl⟩, ⟨HW.out.trans (HBc.out.mono HW.out.size)⟩⟩
      ·congr 1; omega
      ·rw [HT1.out, ← HV.out.1]; simp
      ·rw [HT2.out, ← HV.out.2.1]
      ·rw [HT3.out, ← HV.out.2.2]
  ·have hie : i = l.length := by omega
   subst hie
   have hv := HV.out
   rw [Int.toNat_natCast, List.take_length] at hv
   obtain ⟨e1, e2, e3⟩ := hv
   have E1 := Aside0.mk e1
   have E2 := Aside0.mk e2
   have E3 := Aside0.mk e3
   have bV := BV.out.below HW.out
   have HVr := Aside0.mk (Kd.C_below HV2.out HW.out)
   have HBr := Aside0.mk (below_step HB2.out HW.out)
   have hrV : Aside0 (rightB ⟨22, 0, ⟨#[]⟩, l⟩ = ((al && decide ((dp : Int) < 16)) && decide ((it : Int) < 1024))) := ⟨by
    rw [rightB_list]; exact kidsB_int E1.out E2.out E3.out⟩
   have hdV : Aside0 (((depthN ⟨22, 0, ⟨#[]⟩, l⟩ : Nat) : Int) = (dp : Int) + 1) := ⟨by rw [E2.out]; simp [depthN]⟩
   have hiV : Aside0 (((itemsN ⟨22, 0, ⟨#[]⟩, l⟩ : Nat) : Int) = (it : Int) + 1) := ⟨by rw [E3.out]; simp [itemsN]⟩
   have hiN : itemsN ⟨22, 0, ⟨#[]⟩, l⟩ ≤ 4294967296 := by simp only [itemsN]; omega
   have hoV : Aside0 (okV ⟨22, 0, ⟨#[]⟩, l⟩) := ⟨by rw [okV]; exact ⟨⟨⟨by omega, by omega⟩, by decide⟩, hol⟩⟩
   clear e1 e2 e3 HV HG E1 E2 E3 hlt hi1 hi0
   obtain ⟨p0, p1, p2, p3⟩ := bV.c4
   go_upto_region 13 with fail
   go_cut [70] from 45 to 71 (fun s70 wx => s70 = .bool false ∧ Aside0 (Below wr.heap.size wr wx))
   case first =>
    go_wp2_with fail
    refine (depth32_any ⟨22, 0, ⟨#[]⟩, l⟩ hiN A5 c5 _ HVr.out hc5).mono ?_
    rintro e wa ⟨he, hba⟩
    rw [hdV.out] at he
    subst he
    have bVa := bV.below hba
    have HBa := Aside0.mk hba
    clear p0 p1 p2 p3 hba
    obtain ⟨p0, p1, p2, p3⟩ := bVa.c4
    go_wp2_with fail
    refine (items34_any ⟨22, 0, ⟨#[]⟩, l⟩ hiN A5 c5 _ (Kd.C_below HVr.out HBa.out) hc5).mono ?_
    rintro e wb ⟨he, hbb⟩
    rw [hiV.out] at he
    subst he
    have bVb := bVa.below hbb
    have HBb := Aside0.mk (below_step HBa.out hbb)
    clear p0 p1 p2 p3 hbb
    obtain ⟨p0, p1, p2, p3⟩ := bVb.c4
    go_wp2_with fail
    refine (right17_any ⟨22, 0, ⟨#[]⟩, l⟩ hiN hoV.out A5 c5 _ (Kd.C_below HVr.out HBb.out) hc5).mono ?_
    rintro e wc ⟨he, hbc⟩
    rw [hrV.out] at he
    have HBc := Aside0.mk (below_step HBb.out hbc)
    clear p0 p1 p2 p3 hbc
    cases al with
    | false =>
     simp only [Bool.false_and] at he
     subst he
     go_wp2_with fail
     go_meet
     exact ⟨rfl, HBc⟩
    | true =>
     by_cases hd : (dp : Int) < 16
     ·by_cases hi : (it : Int) < 1024
      ·rw [decide_eq_true hd, decide_eq_true hi] at he
       simp only [Bool.and_self] at he
       subst he
       go_wp2_with fail
       go_meet
       exact ⟨rfl, HBc⟩
      ·rw [decide_eq_true hd, decide_eq_false hi] at he
       simp only [Bool.and_self, Bool.and_false] at he
       subst he
       go_wp2_with fail
       go_meet
       exact ⟨congrArg Value.bool (decide_eq_false (by omega)), HBc⟩
     ·rw [decide_eq_false hd] at he
      simp only [Bool.and_false, Bool.false_and] at he
      subst he
      go_wp2_with fail
      go_meet
      exact ⟨rfl, HBc⟩
   case rest =>
    obtain ⟨rfl, HBx⟩ := hcut
    obtain ⟨w9, e9⟩ : ∃ w9, w9 = wc := ⟨_, rfl⟩
    subst e9
    have HB9 := Aside0.mk (below_step HBr.out HBx.out)
    clear hrV hdV hiV hiN hoV p0 p1 p2 p3 bV HVr HBr HBx HW BV HV2 HB2
    go_wp2_with fail
    go_loopg [10] l.length (fun gk v10 wr => ∃ i : Int, v10 = .int .i64 i ∧ Aside0 (0 ≤ i ∧ i ≤ l.length ∧ gk = l.length - i.toNat) ∧ Aside0 (Below w9.heap.size w9 wr))
    case atStart => exact ⟨0, rfl, ⟨by omega, by omega, by simp⟩, ⟨Below.refl _ _⟩⟩
    case round =>
     obtain ⟨i, rfl, HI, HW⟩ := hrel
     obtain ⟨hi0, hi1, hgk⟩ := HI.out
     have HG := Aside0.mk hgk
     clear HI hgk
     by_cases hlt : i < l.length
     ·have hmem := rd_mem hi0 hlt
      have hNx : itemsN (rd_T25 l i) ≤ 1048576 := by have := itemsL_mem hmem; omega
      have HOX := Aside0.mk (HOK.out _ hmem)
      clear hmem
      obtain ⟨ad, Ax, cx, eA, hx0, hx1, hx2, hx3, hlx, hCx⟩ := at_T25 (Kd.C_below HA0.out (below_step HB9.out HW.out)) i hi0 hlt
      cases eA
      have HCx := Aside0.mk hCx
      obtain ⟨x, ex⟩ : ∃ x, rd_T25 l i = x := ⟨_, rfl⟩
      rw [ex] at hNx HOX hx0 hx1 hx2 hx3 hlx HCx
      have HX := Aside0.mk (And.intro hx0 (And.intro hx1 (And.intro hx2 hx3)))
      clear hCx hx0 hx1 hx2 hx3 ex
      have hadt : 0 ≤ i := hi0
      go_upto_region 18 with fail
      go_cut [11] from 71 to 114 (fun s11 wx => ∃ (g : Nat) (Ad : Option Addr) (cd : Nat), s11 = .pointer (some ⟨g, 0, none⟩) ∧ Aside0 (Blk wx g #[.int .u8 25, .int .u64 0, .string ⟨#[]⟩, .slice Ad 2 cd] 25 ∧ 2 ≤ cd ∧ k25.C wx Ad 2 [⟨6, n, ⟨#[]⟩, []⟩, x]) ∧ Aside0 (Below wr.heap.size wr wx))
      case first =>
       obtain ⟨hx0, hx1, hx2, hx3⟩ := HX.out
       have HBS := Aside0.mk (Below.refl wr.heap.size wr)
       refine start_ (n := 9) (S := fun w' => w'.cell? (ad.add (i.toNat * 4)) = some (.int .u8 x.f0) ∧ w'.cell? ⟨(ad.add (i.toNat * 4)).block, (ad.add (i.toNat * 4)).off + 1, none⟩ = some (.int .u64 x.f1) ∧ w'.cell? ⟨(ad.add (i.toNat * 4)).block, (ad.add (i.toNat * 4)).off + 2, none⟩ = some (.string x.f2) ∧ w'.cell? ⟨(ad.add (i.toNat * 4)).block, (ad.add (i.toNat * 4)).off + 3, none⟩ = some (.slice Ax x.f3.length cx)) (ds := [8]) #[false, false, false, false, false, false, false, false, false] (by kernel_rfl) rfl rfl ⟨hx0, hx1, hx2, hx3⟩ (fun hS => ?_)
       replace HCx := Aside0.mk (Kd.C_below HCx.out (below_drew (Below.refl _ _)))
       replace HBS := Aside0.mk (below_drew HBS.out)
       generalize wr.drew = wd1 at HCx HBS hS ⊢
       clear hx0 hx1 hx2 hx3
       refine pure_ (i := 0) (N := some 77) (v := ?_) (a' := ?_) #[true, false, false, false, false, false, false, false, false] rfl rfl (by kernel_rfl) (fun _ _ _ h => h) (Or.inl ⟨by rfl, ?_⟩) ?_ ?_
       rotate_left
       ·intro w'
        go_simp
        with_reducible rfl
       rotate_left
       ·simp only [Act.put, List.setIfInBounds_toArray, List.set_cons_zero, List.set_cons_succ, i64_w, i32_w]
        rfl
       refine pure_ (i := 2) (N := some 79) (v := ?_) (a' := ?_) #[true, false, true, false, false, false, false, false, false] rfl rfl (by kernel_rfl) (fun _ _ _ h => h) (Or.inl ⟨by rfl, ?_⟩) ?_ ?_
       rotate_left
       ·intro w'
        go_simp
        with_reducible rfl
       rotate_left
       ·simp only [Act.put, List.setIfInBounds_toArray, List.set_cons_zero, List.set_cons_succ, i64_w, i32_w]
        rfl
       refine pure_ (i := 3) (N := some 80) (v := ?_) (a' := ?_) #[true, false, true, true, false, false, false, false, false] rfl rfl (by kernel_rfl) (fun _ _ _ h => h) (Or.inl ⟨by rfl, ?_⟩) ?_ ?_
       rotate_left
       ·intro w'
        go_simp
        with_reducible rfl
       rotate_left
       ·simp only [Act.put, List.setIfInBounds_toArray, List.set_cons_zero, List.set_cons_succ, i64_w, i32_w]
        rfl
       refine pure_ (i := 4) (N := some 81) (v := ?_) (a' := ?_) #[true, false, true, true, true, false, false, false, false] rfl rfl (by kernel_rfl) (fun _ _ _ h => h) (Or.inl ⟨by rfl, ?_⟩) ?_ ?_
       rotate_left
       ·intro w'
        go_simp
        with_reducible rfl
       rotate_left
       ·simp only [Act.put, List.setIfInBounds_toArray, List.set_cons_zero, List.set_cons_succ, i64_w, i32_w]
        rfl
       refine take_ (i := 5) (N := some 82) (v := .agg #[.int .u8 x.f0, .int .u64 x.f1, .string x.f2, .slice Ax x.f3.length cx]) #[true, false, true, true, true, true, false, false, false] rfl rfl (by kernel_rfl) (fun _ _ _ h => h) (Or.inl ⟨by rfl, ?_⟩) hS rfl ?_
       ·rintro w' ⟨h0, h1, h2, h3⟩
        go_simp
       refine norm_ (a' := ?_) ?_ ?_
       rotate_left
       ·try simp only [Act.put, putAll, List.setIfInBounds_toArray, List.set_cons_zero, List.set_cons_succ]
        rfl
       refine two_ (i := 1) (j := 7) (Ni := some 78) (Nj := some 11) #[true, true, true, true, true, true, false, false, false] #[true, false, true, true, true, true, false, true, false] rfl rfl rfl rfl (by kernel_rfl) (by decide) (by decide) (fun K hK => ?_) (fun K hK => ?_)
       ·refine goes_ Try.func23 (by kernel_rfl) rfl #[.int .u8 6, .int .u64 n] (by rfl) rfl rfl (by (try simp only [List.map_toArray, List.map_cons, List.map_nil]); first | done | rfl) ?_
        refine (number23_any 6 n _).mono ?_
        rintro e wk2 ⟨rfl, hb2⟩
        have sz2 := hb2.size
        have sl2 := HBS.out.size
        refine ⟨_, rfl, ?_⟩
        have hS2 : wk2.cell? (ad.add (i.toNat * 4)) = some (.int .u8 x.f0) ∧ wk2.cell? ⟨(ad.add (i.toNat * 4)).block, (ad.add (i.toNat * 4)).off + 1, none⟩ = some (.int .u64 x.f1) ∧ wk2.cell? ⟨(ad.add (i.toNat * 4)).block, (ad.add (i.toNat * 4)).off + 2, none⟩ = some (.string x.f2) ∧ wk2.cell? ⟨(ad.add (i.toNat * 4)).block, (ad.add (i.toNat * 4)).off + 3, none⟩ = some (.slice Ax x.f3.length cx) := ⟨(hb2.cell (World.block_lt_of_cell? _ _ hS.1)).trans hS.1, (hb2.cell (World.block_lt_of_cell? _ _ hS.2.1)).trans hS.2.1, (hb2.cell (World.block_lt_of_cell? _ _ hS.2.2.1)).trans hS.2.2.1, (hb2.cell (World.block_lt_of_cell? _ _ hS.2.2.2)).trans hS.2.2.2⟩
        have HCx2 := Aside0.mk (Kd.C_below HCx.out hb2)
        have HBS2 := Aside0.mk (below_step HBS.out hb2)
        refine hK.out _ _ hS2 (fun _ => ?_)
        clear hK K
        refine norm_ (a' := ?_) ?_ ?_
        rotate_left
        ·try simp only [Act.put, putAll, List.setIfInBounds_toArray, List.set_cons_zero, List.set_cons_succ]
         rfl
        refine two_ (i := 6) (j := 7) (Ni := some 83) (Nj := some 11) #[true, true, true, true, true, true, true, false, false] #[true, true, true, true, true, true, false, true, false] rfl rfl rfl rfl (by kernel_rfl) (by decide) (by decide) (fun K hK => ?_) (fun K hK => ?_)
        ·refine goes_ Try.func28 (by kernel_rfl) rfl #[.agg #[.int .u8 6, .int .u64 n, .string ⟨#[]⟩, .slice none 0 0], .agg #[.int .u8 x.f0, .int .u64 x.f1, .string x.f2, .slice Ax x.f3.length cx]] (by rfl) rfl rfl (by (try simp only [List.map_toArray, List.map_cons, List.map_nil]); first | done | rfl) ?_
         refine (desc28_any ⟨6, n, ⟨#[]⟩, []⟩ x (by simp only [itemsN, itemsL]; omega) none Ax 0 cx _ (C_none _) (Nat.le_refl _) HCx2.out hlx).mono ?_
         rintro e wk3 ⟨vd3, rfl, hRd3, hb3⟩
         obtain ⟨Ad3, cd3, rfl⟩ := Kd.R_slice hRd3
         have hcd3 := (Kd.R_reads' hRd3).2.1
         have HRD3 := Aside0.mk (Kd.R_bound hRd3)
         have sz3 := hb3.size
         have sl3 := HBS2.out.size
         refine ⟨_, rfl, ?_⟩
         have hS3 : wk3.cell? (ad.add (i.toNat * 4)) = some (.int .u8 x.f0) ∧ wk3.cell? ⟨(ad.add (i.toNat * 4)).block, (ad.add (i.toNat * 4)).off + 1, none⟩ = some (.int .u64 x.f1) ∧ wk3.cell? ⟨(ad.add (i.toNat * 4)).block, (ad.add (i.toNat * 4)).off + 2, none⟩ = some (.string x.f2) ∧ wk3.cell? ⟨(ad.add (i.toNat * 4)).block, (ad.add (i.toNat * 4)).off + 3, none⟩ = some (.slice Ax x.f3.length cx) := ⟨(hb3.cell (World.block_lt_of_cell? _ _ hS2.1)).trans hS2.1, (hb3.cell (World.block_lt_of_cell? _ _ hS2.2.1)).trans hS2.2.1, (hb3.cell (World.block_lt_of_cell? _ _ hS2.2.2.1)).trans hS2.2.2.1, (hb3.cell (World.block_lt_of_cell? _ _ hS2.2.2.2)).trans hS2.2.2.2⟩
         have HCx3 := Aside0.mk (Kd.C_below HCx2.out hb3)
         have HBS3 := Aside0.mk (below_step HBS2.out hb3)
         refine hK.out _ _ hS3 (fun _ => ?_)
         clear hK K
         refine norm_ (a' := ?_) ?_ ?_
         rotate_left
         ·try simp only [Act.put, putAll, List.setIfInBounds_toArray, List.set_cons_zero, List.set_cons_succ]
          rfl
         refine one_ (i := 7) (N := some 11) #[true, true, true, true, true, true, true, true, false] rfl rfl (by kernel_rfl) (by decide) (fun K hK => ?_)
         rw [if_pos (by rfl)]
         unfold Oper.wp
         go_simp
         have bN4 := Blk.new wk3 #[.int .u8 0, .int .u64 0, .string ⟨#[]⟩, .slice none 0 0] 25
         have hb4 := below_alloc (Below.refl wk3.heap.size wk3) (.cells #[.int .u8 0, .int .u64 0, .string ⟨#[]⟩, .slice none 0 0] 25)
         have gz4 := HBS3.out.size
         obtain ⟨wk4, hw4⟩ : ∃ W, wk3.alloc (.cells #[.int .u8 0, .int .u64 0, .string ⟨#[]⟩, .slice none 0 0] 25) = W := ⟨_, rfl⟩
         rw [hw4] at bN4 hb4 ⊢
         have hS4 : wk4.cell? (ad.add (i.toNat * 4)) = some (.int .u8 x.f0) ∧ wk4.cell? ⟨(ad.add (i.toNat * 4)).block, (ad.add (i.toNat * 4)).off + 1, none⟩ = some (.int .u64 x.f1) ∧ wk4.cell? ⟨(ad.add (i.toNat * 4)).block, (ad.add (i.toNat * 4)).off + 2, none⟩ = some (.string x.f2) ∧ wk4.cell? ⟨(ad.add (i.toNat * 4)).block, (ad.add (i.toNat * 4)).off + 3, none⟩ = some (.slice Ax x.f3.length cx) := ⟨(hb4.cell (World.block_lt_of_cell? _ _ hS3.1)).trans hS3.1, (hb4.cell (World.block_lt_of_cell? _ _ hS3.2.1)).trans hS3.2.1, (hb4.cell (World.block_lt_of_cell? _ _ hS3.2.2.1)).trans hS3.2.2.1, (hb4.cell (World.block_lt_of_cell? _ _ hS3.2.2.2)).trans hS3.2.2.2⟩
         have HCx4 := Aside0.mk (Kd.C_below HCx3.out hb4)
         have HBS4 := Aside0.mk (below_step HBS3.out hb4)
         have HRD4 := Aside0.mk (Kd.R_below HRD3.out hb4)
         have lt4 : wk3.heap.size < wk4.heap.size := by rw [← hw4]; simp
         obtain ⟨bn4, hn4⟩ : ∃ b, wk3.heap.size = b := ⟨_, rfl⟩
         rw [hn4] at bN4 lt4 ⊢
         have hm4 : wk3.heap.size ≤ bn4 := by omega
         have ge4 : wr.heap.size ≤ bn4 := by omega
         clear hn4 hw4
         refine hK.out _ _ hS4 (fun _ => ?_)
         clear hK K
         refine norm_ (a' := ?_) ?_ ?_
         rotate_left
         ·try simp only [Act.put, putAll, List.setIfInBounds_toArray, List.set_cons_zero, List.set_cons_succ]
          rfl
         refine last_ (i := 8) (N := none) #[true, true, true, true, true, true, true, true, true] rfl rfl (by kernel_rfl) (by decide) (fun K hK => ?_)
         rw [if_pos (by rfl)]
         obtain ⟨e0, e1, e2, e3⟩ := bN4.c4
         have fz := bN4.fz
         unfold Oper.wp
         go_simp
         refine hK.out _ _ ?_
         refine done_ (by kernel_rfl) ?_
         go_wp2_with fail
         go_meet
         have hR0 := Kd.R_mono (ok' := fun j => j ≠ bn4) HRD4.out (fun j hj => by have h1 := hj.2.1; have h2 := hj.2.2.1; omega)
         refine ⟨bn4, Ad3, cd3, rfl, ⟨?_, hcd3, (Kd.R_reads' (Kd.R_far (Kd.R_far (Kd.R_far (Kd.R_far hR0 (fun _ h => h) _) (fun _ h => h) _) (fun _ h => h) _) (fun _ h => h) _)).2.2⟩, ⟨below_set (below_set (below_set (below_set HBS4.out ge4) ge4) ge4) ge4⟩⟩
         refine blk_put (cs := #[.int .u8 25, .int .u64 0, .string ⟨#[]⟩, .slice none 0 0]) ?_ 3 _ rfl
         refine blk_put (cs := #[.int .u8 25, .int .u64 0, .string ⟨#[]⟩, .slice none 0 0]) ?_ 2 _ rfl
         refine blk_put (cs := #[.int .u8 25, .int .u64 0, .string ⟨#[]⟩, .slice none 0 0]) ?_ 1 _ rfl
         refine blk_put (cs := #[.int .u8 0, .int .u64 0, .string ⟨#[]⟩, .slice none 0 0]) ?_ 0 _ rfl
         exact bN4
        ·rw [if_pos (by rfl)]
         unfold Oper.wp
         go_simp
         have bN5 := Blk.new wk2 #[.int .u8 0, .int .u64 0, .string ⟨#[]⟩, .slice none 0 0] 25
         have hb5 := below_alloc (Below.refl wk2.heap.size wk2) (.cells #[.int .u8 0, .int .u64 0, .string ⟨#[]⟩, .slice none 0 0] 25)
         have gz5 := HBS2.out.size
         obtain ⟨wk5, hw5⟩ : ∃ W, wk2.alloc (.cells #[.int .u8 0, .int .u64 0, .string ⟨#[]⟩, .slice none 0 0] 25) = W := ⟨_, rfl⟩
         rw [hw5] at bN5 hb5 ⊢
         have hS5 : wk5.cell? (ad.add (i.toNat * 4)) = some (.int .u8 x.f0) ∧ wk5.cell? ⟨(ad.add (i.toNat * 4)).block, (ad.add (i.toNat * 4)).off + 1, none⟩ = some (.int .u64 x.f1) ∧ wk5.cell? ⟨(ad.add (i.toNat * 4)).block, (ad.add (i.toNat * 4)).off + 2, none⟩ = some (.string x.f2) ∧ wk5.cell? ⟨(ad.add (i.toNat * 4)).block, (ad.add (i.toNat * 4)).off + 3, none⟩ = some (.slice Ax x.f3.length cx) := ⟨(hb5.cell (World.block_lt_of_cell? _ _ hS2.1)).trans hS2.1, (hb5.cell (World.block_lt_of_cell? _ _ hS2.2.1)).trans hS2.2.1, (hb5.cell (World.block_lt_of_cell? _ _ hS2.2.2.1)).trans hS2.2.2.1, (hb5.cell (World.block_lt_of_cell? _ _ hS2.2.2.2)).trans hS2.2.2.2⟩
         have HCx5 := Aside0.mk (Kd.C_below HCx2.out hb5)
         have HBS5 := Aside0.mk (below_step HBS2.out hb5)
         have lt5 : wk2.heap.size < wk5.heap.size := by rw [← hw5]; simp
         obtain ⟨bn5, hn5⟩ : ∃ b, wk2.heap.size = b := ⟨_, rfl⟩
         rw [hn5] at bN5 lt5 ⊢
         have hm5 : wk2.heap.size ≤ bn5 := by omega
         have ge5 : wr.heap.size ≤ bn5 := by omega
         clear hn5 hw5
         refine hK.out _ _ hS5 (fun _ => ?_)
         clear hK K
         refine norm_ (a' := ?_) ?_ ?_
         rotate_left
         ·try simp only [Act.put, putAll, List.setIfInBounds_toArray, List.set_cons_zero, List.set_cons_succ]
          rfl
         refine one_ (i := 6) (N := some 83) #[true, true, true, true, true, true, true, true, false] rfl rfl (by kernel_rfl) (by decide) (fun K hK => ?_)
         refine goes_ Try.func28 (by kernel_rfl) rfl #[.agg #[.int .u8 6, .int .u64 n, .string ⟨#[]⟩, .slice none 0 0], .agg #[.int .u8 x.f0, .int .u64 x.f1, .string x.f2, .slice Ax x.f3.length cx]] (by rfl) rfl rfl (by (try simp only [List.map_toArray, List.map_cons, List.map_nil]); first | done | rfl) ?_
         refine (desc28_any ⟨6, n, ⟨#[]⟩, []⟩ x (by simp only [itemsN, itemsL]; omega) none Ax 0 cx _ (C_none _) (Nat.le_refl _) HCx5.out hlx).mono ?_
         rintro e wk6 ⟨vd6, rfl, hRd6, hb6⟩
         obtain ⟨Ad6, cd6, rfl⟩ := Kd.R_slice hRd6
         have hcd6 := (Kd.R_reads' hRd6).2.1
         have HRD6 := Aside0.mk (Kd.R_bound hRd6)
         have sz6 := hb6.size
         have sl6 := HBS5.out.size
         refine ⟨_, rfl, ?_⟩
         have hS6 : wk6.cell? (ad.add (i.toNat * 4)) = some (.int .u8 x.f0) ∧ wk6.cell? ⟨(ad.add (i.toNat * 4)).block, (ad.add (i.toNat * 4)).off + 1, none⟩ = some (.int .u64 x.f1) ∧ wk6.cell? ⟨(ad.add (i.toNat * 4)).block, (ad.add (i.toNat * 4)).off + 2, none⟩ = some (.string x.f2) ∧ wk6.cell? ⟨(ad.add (i.toNat * 4)).block, (ad.add (i.toNat * 4)).off + 3, none⟩ = some (.slice Ax x.f3.length cx) := ⟨(hb6.cell (World.block_lt_of_cell? _ _ hS5.1)).trans hS5.1, (hb6.cell (World.block_lt_of_cell? _ _ hS5.2.1)).trans hS5.2.1, (hb6.cell (World.block_lt_of_cell? _ _ hS5.2.2.1)).trans hS5.2.2.1, (hb6.cell (World.block_lt_of_cell? _ _ hS5.2.2.2)).trans hS5.2.2.2⟩
         have HCx6 := Aside0.mk (Kd.C_below HCx5.out hb6)
         have HBS6 := Aside0.mk (below_step HBS5.out hb6)
         have bN6 := bN5.below hb6
         refine hK.out _ _ hS6 (fun _ => ?_)
         clear hK K
         refine norm_ (a' := ?_) ?_ ?_
         rotate_left
         ·try simp only [Act.put, putAll, List.setIfInBounds_toArray, List.set_cons_zero, List.set_cons_succ]
          rfl
         refine last_ (i := 8) (N := none) #[true, true, true, true, true, true, true, true, true] rfl rfl (by kernel_rfl) (by decide) (fun K hK => ?_)
         rw [if_pos (by rfl)]
         obtain ⟨e0, e1, e2, e3⟩ := bN6.c4
         have fz := bN6.fz
         unfold Oper.wp
         go_simp
         refine hK.out _ _ ?_
         refine done_ (by kernel_rfl) ?_
         go_wp2_with fail
         go_meet
         have hR0 := Kd.R_mono (ok' := fun j => j ≠ bn5) HRD6.out (fun j hj => by have h1 := hj.2.1; have h2 := hj.2.2.1; omega)
         refine ⟨bn5, Ad6, cd6, rfl, ⟨?_, hcd6, (Kd.R_reads' (Kd.R_far (Kd.R_far (Kd.R_far (Kd.R_far hR0 (fun _ h => h) _) (fun _ h => h) _) (fun _ h => h) _) (fun _ h => h) _)).2.2⟩, ⟨below_set (below_set (below_set (below_set HBS6.out ge5) ge5) ge5) ge5⟩⟩
         refine blk_put (cs := #[.int .u8 25, .int .u64 0, .string ⟨#[]⟩, .slice none 0 0]) ?_ 3 _ rfl
         refine blk_put (cs := #[.int .u8 25, .int .u64 0, .string ⟨#[]⟩, .slice none 0 0]) ?_ 2 _ rfl
         refine blk_put (cs := #[.int .u8 25, .int .u64 0, .string ⟨#[]⟩, .slice none 0 0]) ?_ 1 _ rfl
         refine blk_put (cs := #[.int .u8 0, .int .u64 0, .string ⟨#[]⟩, .slice none 0 0]) ?_ 0 _ rfl
         exact bN6
       ·rw [if_pos (by rfl)]
        unfold Oper.wp
        go_simp
        have bN7 := Blk.new wd1 #[.int .u8 0, .int .u64 0, .string ⟨#[]⟩, .slice none 0 0] 25
        have hb7 := below_alloc (Below.refl wd1.heap.size wd1) (.cells #[.int .u8 0, .int .u64 0, .string ⟨#[]⟩, .slice none 0 0] 25)
        have gz7 := HBS.out.size
        obtain ⟨wk7, hw7⟩ : ∃ W, wd1.alloc (.cells #[.int .u8 0, .int .u64 0, .string ⟨#[]⟩, .slice none 0 0] 25) = W := ⟨_, rfl⟩
        rw [hw7] at bN7 hb7 ⊢
        have hS7 : wk7.cell? (ad.add (i.toNat * 4)) = some (.int .u8 x.f0) ∧ wk7.cell? ⟨(ad.add (i.toNat * 4)).block, (ad.add (i.toNat * 4)).off + 1, none⟩ = some (.int .u64 x.f1) ∧ wk7.cell? ⟨(ad.add (i.toNat * 4)).block, (ad.add (i.toNat * 4)).off + 2, none⟩ = some (.string x.f2) ∧ wk7.cell? ⟨(ad.add (i.toNat * 4)).block, (ad.add (i.toNat * 4)).off + 3, none⟩ = some (.slice Ax x.f3.length cx) := ⟨(hb7.cell (World.block_lt_of_cell? _ _ hS.1)).trans hS.1, (hb7.cell (World.block_lt_of_cell? _ _ hS.2.1)).trans hS.2.1, (hb7.cell (World.block_lt_of_cell? _ _ hS.2.2.1)).trans hS.2.2.1, (hb7.cell (World.block_lt_of_cell? _ _ hS.2.2.2)).trans hS.2.2.2⟩
        have HCx7 := Aside0.mk (Kd.C_below HCx.out hb7)
        have HBS7 := Aside0.mk (below_step HBS.out hb7)
        have lt7 : wd1.heap.size < wk7.heap.size := by rw [← hw7]; simp
        obtain ⟨bn7, hn7⟩ : ∃ b, wd1.heap.size = b := ⟨_, rfl⟩
        rw [hn7] at bN7 lt7 ⊢
        have hm7 : wd1.heap.size ≤ bn7 := by omega
        have ge7 : wr.heap.size ≤ bn7 := by omega
        clear hn7 hw7
        refine hK.out _ _ hS7 (fun _ => ?_)
        clear hK K
        refine norm_ (a' := ?_) ?_ ?_
        rotate_left
        ·try simp only [Act.put, putAll, List.setIfInBounds_toArray, List.set_cons_zero, List.set_cons_succ]
         rfl
        refine one_ (i := 1) (N := some 78) #[true, true, true, true, true, true, false, true, false] rfl rfl (by kernel_rfl) (by decide) (fun K hK => ?_)
        refine goes_ Try.func23 (by kernel_rfl) rfl #[.int .u8 6, .int .u64 n] (by rfl) rfl rfl (by (try simp only [List.map_toArray, List.map_cons, List.map_nil]); first | done | rfl) ?_
        refine (number23_any 6 n _).mono ?_
        rintro e wk8 ⟨rfl, hb8⟩
        have sz8 := hb8.size
        have sl8 := HBS7.out.size
        refine ⟨_, rfl, ?_⟩
        have hS8 : wk8.cell? (ad.add (i.toNat * 4)) = some (.int .u8 x.f0) ∧ wk8.cell? ⟨(ad.add (i.toNat * 4)).block, (ad.add (i.toNat * 4)).off + 1, none⟩ = some (.int .u64 x.f1) ∧ wk8.cell? ⟨(ad.add (i.toNat * 4)).block, (ad.add (i.toNat * 4)).off + 2, none⟩ = some (.string x.f2) ∧ wk8.cell? ⟨(ad.add (i.toNat * 4)).block, (ad.add (i.toNat * 4)).off + 3, none⟩ = some (.slice Ax x.f3.length cx) := ⟨(hb8.cell (World.block_lt_of_cell? _ _ hS7.1)).trans hS7.1, (hb8.cell (World.block_lt_of_cell? _ _ hS7.2.1)).trans hS7.2.1, (hb8.cell (World.block_lt_of_cell? _ _ hS7.2.2.1)).trans hS7.2.2.1, (hb8.cell (World.block_lt_of_cell? _ _ hS7.2.2.2)).trans hS7.2.2.2⟩
        have HCx8 := Aside0.mk (Kd.C_below HCx7.out hb8)
        have HBS8 := Aside0.mk (below_step HBS7.out hb8)
        have bN8 := bN7.below hb8
        refine hK.out _ _ hS8 (fun _ => ?_)
        clear hK K
        refine norm_ (a' := ?_) ?_ ?_
        rotate_left
        ·try simp only [Act.put, putAll, List.setIfInBounds_toArray, List.set_cons_zero, List.set_cons_succ]
         rfl
        refine one_ (i := 6) (N := some 83) #[true, true, true, true, true, true, true, true, false] rfl rfl (by kernel_rfl) (by decide) (fun K hK => ?_)
        refine goes_ Try.func28 (by kernel_rfl) rfl #[.agg #[.int .u8 6, .int .u64 n, .string ⟨#[]⟩, .slice none 0 0], .agg #[.int .u8 x.f0, .int .u64 x.f1, .string x.f2, .slice Ax x.f3.length cx]] (by rfl) rfl rfl (by (try simp only [List.map_toArray, List.map_cons, List.map_nil]); first | done | rfl) ?_
        refine (desc28_any ⟨6, n, ⟨#[]⟩, []⟩ x (by simp only [itemsN, itemsL]; omega) none Ax 0 cx _ (C_none _) (Nat.le_refl _) HCx8.out hlx).mono ?_
        rintro e wk9 ⟨vd9, rfl, hRd9, hb9⟩
        obtain ⟨Ad9, cd9, rfl⟩ := Kd.R_slice hRd9
        have hcd9 := (Kd.R_reads' hRd9).2.1
        have HRD9 := Aside0.mk (Kd.R_bound hRd9)
        have sz9 := hb9.size
        have sl9 := HBS8.out.size
        refine ⟨_, rfl, ?_⟩
        have hS9 : wk9.cell? (ad.add (i.toNat * 4)) = some (.int .u8 x.f0) ∧ wk9.cell? ⟨(ad.add (i.toNat * 4)).block, (ad.add (i.toNat * 4)).off + 1, none⟩ = some (.int .u64 x.f1) ∧ wk9.cell? ⟨(ad.add (i.toNat * 4)).block, (ad.add (i.toNat * 4)).off + 2, none⟩ = some (.string x.f2) ∧ wk9.cell? ⟨(ad.add (i.toNat * 4)).block, (ad.add (i.toNat * 4)).off + 3, none⟩ = some (.slice Ax x.f3.length cx) := ⟨(hb9.cell (World.block_lt_of_cell? _ _ hS8.1)).trans hS8.1, (hb9.cell (World.block_lt_of_cell? _ _ hS8.2.1)).trans hS8.2.1, (hb9.cell (World.block_lt_of_cell? _ _ hS8.2.2.1)).trans hS8.2.2.1, (hb9.cell (World.block_lt_of_cell? _ _ hS8.2.2.2)).trans hS8.2.2.2⟩
        have HCx9 := Aside0.mk (Kd.C_below HCx8.out hb9)
        have HBS9 := Aside0.mk (below_step HBS8.out hb9)
        have bN9 := bN8.below hb9
        refine hK.out _ _ hS9 (fun _ => ?_)
        clear hK K
        refine norm_ (a' := ?_) ?_ ?_
        rotate_left
        ·try simp only [Act.put, putAll, List.setIfInBounds_toArray, List.set_cons_zero, List.set_cons_succ]
         rfl
        refine last_ (i := 8) (N := none) #[true, true, true, true, true, true, true, true, true] rfl rfl (by kernel_rfl) (by decide) (fun K hK => ?_)
        rw [if_pos (by rfl)]
        obtain ⟨e0, e1, e2, e3⟩ := bN9.c4
        have fz := bN9.fz
        unfold Oper.wp
        go_simp
        refine hK.out _ _ ?_
        refine done_ (by kernel_rfl) ?_
        go_wp2_with fail
        go_meet
        have hR0 := Kd.R_mono (ok' := fun j => j ≠ bn7) HRD9.out (fun j hj => by have h1 := hj.2.1; have h2 := hj.2.2.1; omega)
        refine ⟨bn7, Ad9, cd9, rfl, ⟨?_, hcd9, (Kd.R_reads' (Kd.R_far (Kd.R_far (Kd.R_far (Kd.R_far hR0 (fun _ h => h) _) (fun _ h => h) _) (fun _ h => h) _) (fun _ h => h) _)).2.2⟩, ⟨below_set (below_set (below_set (below_set HBS9.out ge7) ge7) ge7) ge7⟩⟩
        refine blk_put (cs := #[.int .u8 25, .int .u64 0, .string ⟨#[]⟩, .slice none 0 0]) ?_ 3 _ rfl
        refine blk_put (cs := #[.int .u8 25, .int .u64 0, .string ⟨#[]⟩, .slice none 0 0]) ?_ 2 _ rfl
        refine blk_put (cs := #[.int .u8 25, .int .u64 0, .string ⟨#[]⟩, .slice none 0 0]) ?_ 1 _ rfl
        refine blk_put (cs := #[.int .u8 0, .int .u64 0, .string ⟨#[]⟩, .slice none 0 0]) ?_ 0 _ rfl
        exact bN9
      case rest =>
       obtain ⟨g, Ad, cd, rfl, HD, HBd⟩ := hcut
       obtain ⟨wd, ed⟩ : ∃ wd, wd = wc := ⟨_, rfl⟩
       subst ed
       have bD := HD.out.1
       have hcd := HD.out.2.1
       have HCd := Aside0.mk HD.out.2.2
       have HCy := Aside0.mk (Kd.C_below HCx.out HBd.out)
       have hx0 := (HBd.out.cell (World.block_lt_of_cell? _ _ HX.out.1)).trans HX.out.1
       have hx1 := (HBd.out.cell (World.block_lt_of_cell? _ _ HX.out.2.1)).trans HX.out.2.1
       have hx2 := (HBd.out.cell (World.block_lt_of_cell? _ _ HX.out.2.2.1)).trans HX.out.2.2.1
       have hx3 := (HBd.out.cell (World.block_lt_of_cell? _ _ HX.out.2.2.2)).trans HX.out.2.2.2
       have hrD := Aside0.mk ((rightB_desc n hn0 x).trans (descB_int x))
       have HY := Aside0.mk (And.intro hx0 (And.intro hx1 (And.intro hx2 hx3)))
       have hiD : itemsN ⟨25, 0, ⟨#[]⟩, [⟨6, n, ⟨#[]⟩, []⟩, x]⟩ ≤ 4294967296 := by simp only [itemsN, itemsL]; omega
       have hoD : Aside0 (okV ⟨25, 0, ⟨#[]⟩, [⟨6, n, ⟨#[]⟩, []⟩, x]⟩) := ⟨by rw [okV, okL, okL, okV]; exact ⟨⟨⟨by omega, by omega⟩, by decide⟩, ⟨⟨⟨hn0, HN1.out⟩, by decide⟩, by trivial⟩, HOX.out, trivial⟩⟩
       clear HD
       go_upto_region 19 with fail
       go_cut [107] from 71 to 114 (fun s107 wx => s107 = .bool false ∧ Aside0 (Below wd.heap.size wd wx))
       case first =>
        cases hr : rightB x with
        | false =>
         rw [hr] at hrD
         have hrD : rightB ⟨25, 0, ⟨#[]⟩, [⟨6, n, ⟨#[]⟩, []⟩, x]⟩ = false := hrD.out
         have HBS := Aside0.mk (Below.refl wd.heap.size wd)
         refine start_ (n := 24) (S := fun w' => Blk w' g #[.int .u8 25, .int .u64 0, .string ⟨#[]⟩, .slice Ad 2 cd] 25 ∧ w'.cell? (ad.add (i.toNat * 4)) = some (.int .u8 x.f0) ∧ w'.cell? ⟨(ad.add (i.toNat * 4)).block, (ad.add (i.toNat * 4)).off + 1, none⟩ = some (.int .u64 x.f1) ∧ w'.cell? ⟨(ad.add (i.toNat * 4)).block, (ad.add (i.toNat * 4)).off + 2, none⟩ = some (.string x.f2) ∧ w'.cell? ⟨(ad.add (i.toNat * 4)).block, (ad.add (i.toNat * 4)).off + 3, none⟩ = some (.slice Ax x.f3.length cx)) (ds := []) #[false, false, false, false, false, false, false, false, false, false, false, false, false, false, false, false, false, false, false, false, false, false, false, false] (by kernel_rfl) rfl rfl ⟨bD, hx0, hx1, hx2, hx3⟩ (fun hS => ?_)
         replace HCd := Aside0.mk (Kd.C_below HCd.out (below_drew (Below.refl _ _)))
         replace HCy := Aside0.mk (Kd.C_below HCy.out (below_drew (Below.refl _ _)))
         replace HBS := Aside0.mk (below_drew HBS.out)
         generalize wd.drew = wd10 at HCd HCy HBS hS ⊢
         clear bD hx0 hx1 hx2 hx3
         refine take_ (i := 0) (N := some 84) (v := .agg #[.int .u8 25, .int .u64 0, .string ⟨#[]⟩, .slice Ad 2 cd]) #[true, false, false, false, false, false, false, false, false, false, false, false, false, false, false, false, false, false, false, false, false, false, false, false] rfl rfl (by kernel_rfl) (fun _ _ _ h => h) (Or.inl ⟨by rfl, ?_⟩) hS rfl ?_
         ·rintro w' ⟨h0, h1, h2, h3, h4⟩
          obtain ⟨e0, e1, e2, e3⟩ := h0.c4
          go_simp
         refine norm_ (a' := ?_) ?_ ?_
         rotate_left
         ·try simp only [Act.put, putAll, List.setIfInBounds_toArray, List.set_cons_zero, List.set_cons_succ]
          rfl
         refine pure_ (i := 2) (N := some 86) (v := ?_) (a' := ?_) #[true, false, true, false, false, false, false, false, false, false, false, false, false, false, false, false, false, false, false, false, false, false, false, false] rfl rfl (by kernel_rfl) (fun _ _ _ h => h) (Or.inl ⟨by rfl, ?_⟩) ?_ ?_
         rotate_left
         ·intro w'
          go_simp
          with_reducible rfl
         rotate_left
         ·simp only [Act.put, List.setIfInBounds_toArray, List.set_cons_zero, List.set_cons_succ, i64_w, i32_w]
          rfl
         refine pure_ (i := 3) (N := some 87) (v := ?_) (a' := ?_) #[true, false, true, true, false, false, false, false, false, false, false, false, false, false, false, false, false, false, false, false, false, false, false, false] rfl rfl (by kernel_rfl) (fun _ _ _ h => h) (Or.inl ⟨by rfl, ?_⟩) ?_ ?_
         rotate_left
         ·intro w'
          go_simp
          with_reducible rfl
         rotate_left
         ·simp only [Act.put, List.setIfInBounds_toArray, List.set_cons_zero, List.set_cons_succ, i64_w, i32_w]
          rfl
         refine pure_ (i := 4) (N := some 88) (v := ?_) (a' := ?_) #[true, false, true, true, true, false, false, false, false, false, false, false, false, false, false, false, false, false, false, false, false, false, false, false] rfl rfl (by kernel_rfl) (fun _ _ _ h => h) (Or.inl ⟨by rfl, ?_⟩) ?_ ?_
         rotate_left
         ·intro w'
          go_simp
          with_reducible rfl
         rotate_left
         ·simp only [Act.put, List.setIfInBounds_toArray, List.set_cons_zero, List.set_cons_succ, i64_w, i32_w]
          rfl
         refine take_ (i := 5) (N := some 89) (v := .agg #[.int .u8 x.f0, .int .u64 x.f1, .string x.f2, .slice Ax x.f3.length cx]) #[true, false, true, true, true, true, false, false, false, false, false, false, false, false, false, false, false, false, false, false, false, false, false, false] rfl rfl (by kernel_rfl) (fun _ _ _ h => h) (Or.inl ⟨by rfl, ?_⟩) hS rfl ?_
         ·rintro w' ⟨h0, h1, h2, h3, h4⟩
          go_simp
         refine norm_ (a' := ?_) ?_ ?_
         rotate_left
         ·try simp only [Act.put, putAll, List.setIfInBounds_toArray, List.set_cons_zero, List.set_cons_succ]
          rfl
         refine one_ (i := 1) (N := some 85) #[true, true, true, true, true, true, false, false, false, false, false, false, false, false, false, false, false, false, false, false, false, false, false, false] rfl rfl (by kernel_rfl) (by decide) (fun K hK => ?_)
         refine goes_ Try.func17 (by kernel_rfl) rfl #[.agg #[.int .u8 25, .int .u64 0, .string ⟨#[]⟩, .slice Ad 2 cd]] (by rfl) rfl rfl (by (try simp only [List.map_toArray, List.map_cons, List.map_nil]); first | done | rfl) ?_
         refine (right17_any ⟨25, 0, ⟨#[]⟩, [⟨6, n, ⟨#[]⟩, []⟩, x]⟩ hiD hoD.out Ad cd _ HCd.out hcd).mono ?_
         rintro e wk11 ⟨he, hb11⟩
         rw [hrD] at he
         subst he
         refine ⟨_, rfl, ?_⟩
         have hS11 : Blk wk11 g #[.int .u8 25, .int .u64 0, .string ⟨#[]⟩, .slice Ad 2 cd] 25 ∧ wk11.cell? (ad.add (i.toNat * 4)) = some (.int .u8 x.f0) ∧ wk11.cell? ⟨(ad.add (i.toNat * 4)).block, (ad.add (i.toNat * 4)).off + 1, none⟩ = some (.int .u64 x.f1) ∧ wk11.cell? ⟨(ad.add (i.toNat * 4)).block, (ad.add (i.toNat * 4)).off + 2, none⟩ = some (.string x.f2) ∧ wk11.cell? ⟨(ad.add (i.toNat * 4)).block, (ad.add (i.toNat * 4)).off + 3, none⟩ = some (.slice Ax x.f3.length cx) := ⟨hS.1.below hb11, (hb11.cell (World.block_lt_of_cell? _ _ hS.2.1)).trans hS.2.1, (hb11.cell (World.block_lt_of_cell? _ _ hS.2.2.1)).trans hS.2.2.1, (hb11.cell (World.block_lt_of_cell? _ _ hS.2.2.2.1)).trans hS.2.2.2.1, (hb11.cell (World.block_lt_of_cell? _ _ hS.2.2.2.2)).trans hS.2.2.2.2⟩
         have HCd11 := Aside0.mk (Kd.C_below HCd.out hb11)
         have HCy11 := Aside0.mk (Kd.C_below HCy.out hb11)
         have HBS11 := Aside0.mk (below_step HBS.out hb11)
         refine hK.out _ _ hS11 (fun _ => ?_)
         clear hK K hb11
         refine norm_ (a' := ?_) ?_ ?_
         rotate_left
         ·try simp only [Act.put, putAll, List.setIfInBounds_toArray, List.set_cons_zero, List.set_cons_succ]
          rfl
         refine one_ (i := 6) (N := some 90) #[true, true, true, true, true, true, true, false, false, false, false, false, false, false, false, false, false, false, false, false, false, false, false, false] rfl rfl (by kernel_rfl) (by decide) (fun K hK => ?_)
         refine goes_ Try.func17 (by kernel_rfl) rfl #[.agg #[.int .u8 x.f0, .int .u64 x.f1, .string x.f2, .slice Ax x.f3.length cx]] (by rfl) rfl rfl (by (try simp only [List.map_toArray, List.map_cons, List.map_nil]); first | done | rfl) ?_
         refine (right17_any x (by omega) HOX.out Ax cx _ HCy11.out hlx).mono ?_
         rintro e wk12 ⟨he, hb12⟩
         rw [hr] at he
         subst he
         refine ⟨_, rfl, ?_⟩
         have hS12 : Blk wk12 g #[.int .u8 25, .int .u64 0, .string ⟨#[]⟩, .slice Ad 2 cd] 25 ∧ wk12.cell? (ad.add (i.toNat * 4)) = some (.int .u8 x.f0) ∧ wk12.cell? ⟨(ad.add (i.toNat * 4)).block, (ad.add (i.toNat * 4)).off + 1, none⟩ = some (.int .u64 x.f1) ∧ wk12.cell? ⟨(ad.add (i.toNat * 4)).block, (ad.add (i.toNat * 4)).off + 2, none⟩ = some (.string x.f2) ∧ wk12.cell? ⟨(ad.add (i.toNat * 4)).block, (ad.add (i.toNat * 4)).off + 3, none⟩ = some (.slice Ax x.f3.length cx) := ⟨hS11.1.below hb12, (hb12.cell (World.block_lt_of_cell? _ _ hS11.2.1)).trans hS11.2.1, (hb12.cell (World.block_lt_of_cell? _ _ hS11.2.2.1)).trans hS11.2.2.1, (hb12.cell (World.block_lt_of_cell? _ _ hS11.2.2.2.1)).trans hS11.2.2.2.1, (hb12.cell (World.block_lt_of_cell? _ _ hS11.2.2.2.2)).trans hS11.2.2.2.2⟩
         have HCd12 := Aside0.mk (Kd.C_below HCd11.out hb12)
         have HCy12 := Aside0.mk (Kd.C_below HCy11.out hb12)
         have HBS12 := Aside0.mk (below_step HBS11.out hb12)
         refine hK.out _ _ hS12 (fun _ => ?_)
         clear hK K hb12 hS11
         refine norm_ (a' := ?_) ?_ ?_
         rotate_left
         ·try simp only [Act.put, putAll, List.setIfInBounds_toArray, List.set_cons_zero, List.set_cons_succ]
          rfl
         refine pure_ (i := 7) (N := some 91) (v := ?_) (a' := ?_) #[true, true, true, true, true, true, true, true, false, false, false, false, false, false, false, false, false, false, false, false, false, false, false, false] rfl rfl (by kernel_rfl) (fun _ _ _ h => h) (Or.inl ⟨by rfl, ?_⟩) ?_ ?_
         rotate_left
         ·intro w'
          go_simp
          with_reducible rfl
         rotate_left
         ·simp only [Act.put, List.setIfInBounds_toArray, List.set_cons_zero, List.set_cons_succ, i64_w, i32_w]
          rfl
         refine pure_ (i := 8) (N := some 92) (v := undef) (a' := ?_) #[true, true, true, true, true, true, true, true, true, false, false, false, false, false, false, false, false, false, false, false, false, false, false, false] rfl rfl (by kernel_rfl) (fun _ _ _ h => h) (Or.inr ⟨by rfl, rfl⟩) ?_ ?_
         rotate_left
         ·simp only [Act.put, List.setIfInBounds_toArray, List.set_cons_zero, List.set_cons_succ, i64_w, i32_w]
          rfl
         refine pure_ (i := 9) (N := some 93) (v := undef) (a' := ?_) #[true, true, true, true, true, true, true, true, true, true, false, false, false, false, false, false, false, false, false, false, false, false, false, false] rfl rfl (by kernel_rfl) (fun _ _ _ h => h) (Or.inr ⟨by rfl, rfl⟩) ?_ ?_
         rotate_left
         ·simp only [Act.put, List.setIfInBounds_toArray, List.set_cons_zero, List.set_cons_succ, i64_w, i32_w]
          rfl
         refine pure_ (i := 10) (N := some 94) (v := undef) (a' := ?_) #[true, true, true, true, true, true, true, true, true, true, true, false, false, false, false, false, false, false, false, false, false, false, false, false] rfl rfl (by kernel_rfl) (fun _ _ _ h => h) (Or.inr ⟨by rfl, rfl⟩) ?_ ?_
         rotate_left
         ·simp only [Act.put, List.setIfInBounds_toArray, List.set_cons_zero, List.set_cons_succ, i64_w, i32_w]
          rfl
         refine pure_ (i := 11) (N := some 95) (v := undef) (a' := ?_) #[true, true, true, true, true, true, true, true, true, true, true, true, false, false, false, false, false, false, false, false, false, false, false, false] rfl rfl (by kernel_rfl) (fun _ _ _ h => h) (Or.inr ⟨by rfl, rfl⟩) ?_ ?_
         rotate_left
         ·simp only [Act.put, List.setIfInBounds_toArray, List.set_cons_zero, List.set_cons_succ, i64_w, i32_w]
          rfl
         refine pure_ (i := 12) (N := some 96) (v := undef) (a' := ?_) #[true, true, true, true, true, true, true, true, true, true, true, true, true, false, false, false, false, false, false, false, false, false, false, false] rfl rfl (by kernel_rfl) (fun _ _ _ h => h) (Or.inr ⟨by rfl, rfl⟩) ?_ ?_
         rotate_left
         ·simp only [Act.put, List.setIfInBounds_toArray, List.set_cons_zero, List.set_cons_succ, i64_w, i32_w]
          rfl
         refine pure_ (i := 13) (N := some 97) (v := undef) (a' := ?_) #[true, true, true, true, true, true, true, true, true, true, true, true, true, true, false, false, false, false, false, false, false, false, false, false] rfl rfl (by kernel_rfl) (fun _ _ _ h => h) (Or.inr ⟨by rfl, rfl⟩) ?_ ?_
         rotate_left
         ·simp only [Act.put, List.setIfInBounds_toArray, List.set_cons_zero, List.set_cons_succ, i64_w, i32_w]
          rfl
         refine pure_ (i := 14) (N := some 98) (v := ?_) (a' := ?_) #[true, true, true, true, true, true, true, true, true, true, true, true, true, true, true, false, false, false, false, false, false, false, false, false] rfl rfl (by kernel_rfl) (fun _ _ _ h => h) (Or.inl ⟨by rfl, ?_⟩) ?_ ?_
         rotate_left
         ·intro w'
          go_simp
          with_reducible rfl
         rotate_left
         ·simp only [Act.put, List.setIfInBounds_toArray, List.set_cons_zero, List.set_cons_succ, i64_w, i32_w]
          rfl
         refine pure_ (i := 15) (N := some 99) (v := ?_) (a' := ?_) #[true, true, true, true, true, true, true, true, true, true, true, true, true, true, true, true, false, false, false, false, false, false, false, false] rfl rfl (by kernel_rfl) (fun _ _ _ h => h) (Or.inl ⟨by rfl, ?_⟩) ?_ ?_
         rotate_left
         ·intro w'
          go_simp
          with_reducible rfl
         rotate_left
         ·simp only [Act.put, List.setIfInBounds_toArray, List.set_cons_zero, List.set_cons_succ, i64_w, i32_w]
          rfl
         refine pure_ (i := 16) (N := some 100) (v := undef) (a' := ?_) #[true, true, true, true, true, true, true, true, true, true, true, true, true, true, true, true, true, false, false, false, false, false, false, false] rfl rfl (by kernel_rfl) (fun _ _ _ h => h) (Or.inr ⟨by rfl, rfl⟩) ?_ ?_
         rotate_left
         ·simp only [Act.put, List.setIfInBounds_toArray, List.set_cons_zero, List.set_cons_succ, i64_w, i32_w]
          rfl
         refine pure_ (i := 17) (N := some 101) (v := undef) (a' := ?_) #[true, true, true, true, true, true, true, true, true, true, true, true, true, true, true, true, true, true, false, false, false, false, false, false] rfl rfl (by kernel_rfl) (fun _ _ _ h => h) (Or.inr ⟨by rfl, rfl⟩) ?_ ?_
         rotate_left
         ·simp only [Act.put, List.setIfInBounds_toArray, List.set_cons_zero, List.set_cons_succ, i64_w, i32_w]
          rfl
         refine pure_ (i := 18) (N := some 102) (v := undef) (a' := ?_) #[true, true, true, true, true, true, true, true, true, true, true, true, true, true, true, true, true, true, true, false, false, false, false, false] rfl rfl (by kernel_rfl) (fun _ _ _ h => h) (Or.inr ⟨by rfl, rfl⟩) ?_ ?_
         rotate_left
         ·simp only [Act.put, List.setIfInBounds_toArray, List.set_cons_zero, List.set_cons_succ, i64_w, i32_w]
          rfl
         refine pure_ (i := 19) (N := some 103) (v := undef) (a' := ?_) #[true, true, true, true, true, true, true, true, true, true, true, true, true, true, true, true, true, true, true, true, false, false, false, false] rfl rfl (by kernel_rfl) (fun _ _ _ h => h) (Or.inr ⟨by rfl, rfl⟩) ?_ ?_
         rotate_left
         ·simp only [Act.put, List.setIfInBounds_toArray, List.set_cons_zero, List.set_cons_succ, i64_w, i32_w]
          rfl
         refine pure_ (i := 20) (N := some 104) (v := undef) (a' := ?_) #[true, true, true, true, true, true, true, true, true, true, true, true, true, true, true, true, true, true, true, true, true, false, false, false] rfl rfl (by kernel_rfl) (fun _ _ _ h => h) (Or.inr ⟨by rfl, rfl⟩) ?_ ?_
         rotate_left
         ·simp only [Act.put, List.setIfInBounds_toArray, List.set_cons_zero, List.set_cons_succ, i64_w, i32_w]
          rfl
         refine pure_ (i := 21) (N := some 105) (v := undef) (a' := ?_) #[true, true, true, true, true, true, true, true, true, true, true, true, true, true, true, true, true, true, true, true, true, true, false, false] rfl rfl (by kernel_rfl) (fun _ _ _ h => h) (Or.inr ⟨by rfl, rfl⟩) ?_ ?_
         rotate_left
         ·simp only [Act.put, List.setIfInBounds_toArray, List.set_cons_zero, List.set_cons_succ, i64_w, i32_w]
          rfl
         refine pure_ (i := 22) (N := some 106) (v := ?_) (a' := ?_) #[true, true, true, true, true, true, true, true, true, true, true, true, true, true, true, true, true, true, true, true, true, true, true, false] rfl rfl (by kernel_rfl) (fun _ _ _ h => h) (Or.inl ⟨by rfl, ?_⟩) ?_ ?_
         rotate_left
         ·intro w'
          go_simp
          with_reducible rfl
         rotate_left
         ·simp only [Act.put, List.setIfInBounds_toArray, List.set_cons_zero, List.set_cons_succ, i64_w, i32_w]
          rfl
         refine pure_ (i := 23) (N := some 107) (v := ?_) (a' := ?_) #[true, true, true, true, true, true, true, true, true, true, true, true, true, true, true, true, true, true, true, true, true, true, true, true] rfl rfl (by kernel_rfl) (fun _ _ _ h => h) (Or.inl ⟨by rfl, ?_⟩) ?_ ?_
         rotate_left
         ·intro w'
          go_simp
          with_reducible rfl
         rotate_left
         ·simp only [Act.put, List.setIfInBounds_toArray, List.set_cons_zero, List.set_cons_succ, i64_w, i32_w]
          rfl
         refine done_ (by kernel_rfl) ?_
         go_wp2_with fail
         go_meet
         exact ⟨rfl, ⟨HBS12.out⟩⟩
        | true =>
         rw [hr] at hrD
         by_cases hd : (depthN x : Int) < 16
         ·rw [decide_eq_true hd] at hrD
          have hrD : rightB ⟨25, 0, ⟨#[]⟩, [⟨6, n, ⟨#[]⟩, []⟩, x]⟩ = decide ((itemsN x : Int) < 1023) := by rw [hrD.out]; rfl
          have HBS := Aside0.mk (Below.refl wd.heap.size wd)
          refine start_ (n := 24) (S := fun w' => Blk w' g #[.int .u8 25, .int .u64 0, .string ⟨#[]⟩, .slice Ad 2 cd] 25 ∧ w'.cell? (ad.add (i.toNat * 4)) = some (.int .u8 x.f0) ∧ w'.cell? ⟨(ad.add (i.toNat * 4)).block, (ad.add (i.toNat * 4)).off + 1, none⟩ = some (.int .u64 x.f1) ∧ w'.cell? ⟨(ad.add (i.toNat * 4)).block, (ad.add (i.toNat * 4)).off + 2, none⟩ = some (.string x.f2) ∧ w'.cell? ⟨(ad.add (i.toNat * 4)).block, (ad.add (i.toNat * 4)).off + 3, none⟩ = some (.slice Ax x.f3.length cx)) (ds := []) #[false, false, false, false, false, false, false, false, false, false, false, false, false, false, false, false, false, false, false, false, false, false, false, false] (by kernel_rfl) rfl rfl ⟨bD, hx0, hx1, hx2, hx3⟩ (fun hS => ?_)
          replace HCd := Aside0.mk (Kd.C_below HCd.out (below_drew (Below.refl _ _)))
          replace HCy := Aside0.mk (Kd.C_below HCy.out (below_drew (Below.refl _ _)))
          replace HBS := Aside0.mk (below_drew HBS.out)
          generalize wd.drew = wd13 at HCd HCy HBS hS ⊢
          clear bD hx0 hx1 hx2 hx3
          refine take_ (i := 0) (N := some 84) (v := .agg #[.int .u8 25, .int .u64 0, .string ⟨#[]⟩, .slice Ad 2 cd]) #[true, false, false, false, false, false, false, false, false, false, false, false, false, false, false, false, false, false, false, false, false, false, false, false] rfl rfl (by kernel_rfl) (fun _ _ _ h => h) (Or.inl ⟨by rfl, ?_⟩) hS rfl ?_
          ·rintro w' ⟨h0, h1, h2, h3, h4⟩
           obtain ⟨e0, e1, e2, e3⟩ := h0.c4
           go_simp
          refine norm_ (a' := ?_) ?_ ?_
          rotate_left
          ·try simp only [Act.put, putAll, List.setIfInBounds_toArray, List.set_cons_zero, List.set_cons_succ]
           rfl
          refine pure_ (i := 2) (N := some 86) (v := ?_) (a' := ?_) #[true, false, true, false, false, false, false, false, false, false, false, false, false, false, false, false, false, false, false, false, false, false, false, false] rfl rfl (by kernel_rfl) (fun _ _ _ h => h) (Or.inl ⟨by rfl, ?_⟩) ?_ ?_
          rotate_left
          ·intro w'
           go_simp
           with_reducible rfl
          rotate_left
          ·simp only [Act.put, List.setIfInBounds_toArray, List.set_cons_zero, List.set_cons_succ, i64_w, i32_w]
           rfl
          refine pure_ (i := 3) (N := some 87) (v := ?_) (a' := ?_) #[true, false, true, true, false, false, false, false, false, false, false, false, false, false, false, false, false, false, false, false, false, false, false, false] rfl rfl (by kernel_rfl) (fun _ _ _ h => h) (Or.inl ⟨by rfl, ?_⟩) ?_ ?_
          rotate_left
          ·intro w'
           go_simp
           with_reducible rfl
          rotate_left
          ·simp only [Act.put, List.setIfInBounds_toArray, List.set_cons_zero, List.set_cons_succ, i64_w, i32_w]
           rfl
          refine pure_ (i := 4) (N := some 88) (v := ?_) (a' := ?_) #[true, false, true, true, true, false, false, false, false, false, false, false, false, false, false, false, false, false, false, false, false, false, false, false] rfl rfl (by kernel_rfl) (fun _ _ _ h => h) (Or.inl ⟨by rfl, ?_⟩) ?_ ?_
          rotate_left
          ·intro w'
           go_simp
           with_reducible rfl
          rotate_left
          ·simp only [Act.put, List.setIfInBounds_toArray, List.set_cons_zero, List.set_cons_succ, i64_w, i32_w]
           rfl
          refine take_ (i := 5) (N := some 89) (v := .agg #[.int .u8 x.f0, .int .u64 x.f1, .string x.f2, .slice Ax x.f3.length cx]) #[true, false, true, true, true, true, false, false, false, false, false, false, false, false, false, false, false, false, false, false, false, false, false, false] rfl rfl (by kernel_rfl) (fun _ _ _ h => h) (Or.inl ⟨by rfl, ?_⟩) hS rfl ?_
          ·rintro w' ⟨h0, h1, h2, h3, h4⟩
           go_simp
          refine norm_ (a' := ?_) ?_ ?_
          rotate_left
          ·try simp only [Act.put, putAll, List.setIfInBounds_toArray, List.set_cons_zero, List.set_cons_succ]
           rfl
          refine one_ (i := 1) (N := some 85) #[true, true, true, true, true, true, false, false, false, false, false, false, false, false, false, false, false, false, false, false, false, false, false, false] rfl rfl (by kernel_rfl) (by decide) (fun K hK => ?_)
          refine goes_ Try.func17 (by kernel_rfl) rfl #[.agg #[.int .u8 25, .int .u64 0, .string ⟨#[]⟩, .slice Ad 2 cd]] (by rfl) rfl rfl (by (try simp only [List.map_toArray, List.map_cons, List.map_nil]); first | done | rfl) ?_
          refine (right17_any ⟨25, 0, ⟨#[]⟩, [⟨6, n, ⟨#[]⟩, []⟩, x]⟩ hiD hoD.out Ad cd _ HCd.out hcd).mono ?_
          rintro e wk14 ⟨he, hb14⟩
          rw [hrD] at he
          subst he
          refine ⟨_, rfl, ?_⟩
          have hS14 : Blk wk14 g #[.int .u8 25, .int .u64 0, .string ⟨#[]⟩, .slice Ad 2 cd] 25 ∧ wk14.cell? (ad.add (i.toNat * 4)) = some (.int .u8 x.f0) ∧ wk14.cell? ⟨(ad.add (i.toNat * 4)).block, (ad.add (i.toNat * 4)).off + 1, none⟩ = some (.int .u64 x.f1) ∧ wk14.cell? ⟨(ad.add (i.toNat * 4)).block, (ad.add (i.toNat * 4)).off + 2, none⟩ = some (.string x.f2) ∧ wk14.cell? ⟨(ad.add (i.toNat * 4)).block, (ad.add (i.toNat * 4)).off + 3, none⟩ = some (.slice Ax x.f3.length cx) := ⟨hS.1.below hb14, (hb14.cell (World.block_lt_of_cell? _ _ hS.2.1)).trans hS.2.1, (hb14.cell (World.block_lt_of_cell? _ _ hS.2.2.1)).trans hS.2.2.1, (hb14.cell (World.block_lt_of_cell? _ _ hS.2.2.2.1)).trans hS.2.2.2.1, (hb14.cell (World.block_lt_of_cell? _ _ hS.2.2.2.2)).trans hS.2.2.2.2⟩
          have HCd14 := Aside0.mk (Kd.C_below HCd.out hb14)
          have HCy14 := Aside0.mk (Kd.C_below HCy.out hb14)
          have HBS14 := Aside0.mk (below_step HBS.out hb14)
          refine hK.out _ _ hS14 (fun _ => ?_)
          clear hK K hb14
          refine norm_ (a' := ?_) ?_ ?_
          rotate_left
          ·try simp only [Act.put, putAll, List.setIfInBounds_toArray, List.set_cons_zero, List.set_cons_succ]
           rfl
          refine one_ (i := 6) (N := some 90) #[true, true, true, true, true, true, true, false, false, false, false, false, false, false, false, false, false, false, false, false, false, false, false, false] rfl rfl (by kernel_rfl) (by decide) (fun K hK => ?_)
          refine goes_ Try.func17 (by kernel_rfl) rfl #[.agg #[.int .u8 x.f0, .int .u64 x.f1, .string x.f2, .slice Ax x.f3.length cx]] (by rfl) rfl rfl (by (try simp only [List.map_toArray, List.map_cons, List.map_nil]); first | done | rfl) ?_
          refine (right17_any x (by omega) HOX.out Ax cx _ HCy14.out hlx).mono ?_
          rintro e wk15 ⟨he, hb15⟩
          rw [hr] at he
          subst he
          refine ⟨_, rfl, ?_⟩
          have hS15 : Blk wk15 g #[.int .u8 25, .int .u64 0, .string ⟨#[]⟩, .slice Ad 2 cd] 25 ∧ wk15.cell? (ad.add (i.toNat * 4)) = some (.int .u8 x.f0) ∧ wk15.cell? ⟨(ad.add (i.toNat * 4)).block, (ad.add (i.toNat * 4)).off + 1, none⟩ = some (.int .u64 x.f1) ∧ wk15.cell? ⟨(ad.add (i.toNat * 4)).block, (ad.add (i.toNat * 4)).off + 2, none⟩ = some (.string x.f2) ∧ wk15.cell? ⟨(ad.add (i.toNat * 4)).block, (ad.add (i.toNat * 4)).off + 3, none⟩ = some (.slice Ax x.f3.length cx) := ⟨hS14.1.below hb15, (hb15.cell (World.block_lt_of_cell? _ _ hS14.2.1)).trans hS14.2.1, (hb15.cell (World.block_lt_of_cell? _ _ hS14.2.2.1)).trans hS14.2.2.1, (hb15.cell (World.block_lt_of_cell? _ _ hS14.2.2.2.1)).trans hS14.2.2.2.1, (hb15.cell (World.block_lt_of_cell? _ _ hS14.2.2.2.2)).trans hS14.2.2.2.2⟩
          have HCd15 := Aside0.mk (Kd.C_below HCd14.out hb15)
          have HCy15 := Aside0.mk (Kd.C_below HCy14.out hb15)
          have HBS15 := Aside0.mk (below_step HBS14.out hb15)
          refine hK.out _ _ hS15 (fun _ => ?_)
          clear hK K hb15 hS14
          refine norm_ (a' := ?_) ?_ ?_
          rotate_left
          ·try simp only [Act.put, putAll, List.setIfInBounds_toArray, List.set_cons_zero, List.set_cons_succ]
           rfl
          refine pure_ (i := 7) (N := some 91) (v := ?_) (a' := ?_) #[true, true, true, true, true, true, true, true, false, false, false, false, false, false, false, false, false, false, false, false, false, false, false, false] rfl rfl (by kernel_rfl) (fun _ _ _ h => h) (Or.inl ⟨by rfl, ?_⟩) ?_ ?_
          rotate_left
          ·intro w'
           go_simp
           with_reducible rfl
          rotate_left
          ·simp only [Act.put, List.setIfInBounds_toArray, List.set_cons_zero, List.set_cons_succ, i64_w, i32_w]
           rfl
          refine pure_ (i := 8) (N := some 92) (v := ?_) (a' := ?_) #[true, true, true, true, true, true, true, true, true, false, false, false, false, false, false, false, false, false, false, false, false, false, false, false] rfl rfl (by kernel_rfl) (fun _ _ _ h => h) (Or.inl ⟨by rfl, ?_⟩) ?_ ?_
          rotate_left
          ·intro w'
           go_simp
           with_reducible rfl
          rotate_left
          ·simp only [Act.put, List.setIfInBounds_toArray, List.set_cons_zero, List.set_cons_succ, i64_w, i32_w]
           rfl
          refine pure_ (i := 9) (N := some 93) (v := ?_) (a' := ?_) #[true, true, true, true, true, true, true, true, true, true, false, false, false, false, false, false, false, false, false, false, false, false, false, false] rfl rfl (by kernel_rfl) (fun _ _ _ h => h) (Or.inl ⟨by rfl, ?_⟩) ?_ ?_
          rotate_left
          ·intro w'
           go_simp
           with_reducible rfl
          rotate_left
          ·simp only [Act.put, List.setIfInBounds_toArray, List.set_cons_zero, List.set_cons_succ, i64_w, i32_w]
           rfl
          refine pure_ (i := 10) (N := some 94) (v := ?_) (a' := ?_) #[true, true, true, true, true, true, true, true, true, true, true, false, false, false, false, false, false, false, false, false, false, false, false, false] rfl rfl (by kernel_rfl) (fun _ _ _ h => h) (Or.inl ⟨by rfl, ?_⟩) ?_ ?_
          rotate_left
          ·intro w'
           go_simp
           with_reducible rfl
          rotate_left
          ·simp only [Act.put, List.setIfInBounds_toArray, List.set_cons_zero, List.set_cons_succ, i64_w, i32_w]
           rfl
          refine take_ (i := 11) (N := some 95) (v := .agg #[.int .u8 x.f0, .int .u64 x.f1, .string x.f2, .slice Ax x.f3.length cx]) #[true, true, true, true, true, true, true, true, true, true, true, true, false, false, false, false, false, false, false, false, false, false, false, false] rfl rfl (by kernel_rfl) (fun _ _ _ h => h) (Or.inl ⟨by rfl, ?_⟩) hS15 rfl ?_
          ·rintro w' ⟨h0, h1, h2, h3, h4⟩
           go_simp
          refine norm_ (a' := ?_) ?_ ?_
          rotate_left
          ·try simp only [Act.put, putAll, List.setIfInBounds_toArray, List.set_cons_zero, List.set_cons_succ]
           rfl
          refine one_ (i := 12) (N := some 96) #[true, true, true, true, true, true, true, true, true, true, true, true, true, false, false, false, false, false, false, false, false, false, false, false] rfl rfl (by kernel_rfl) (by decide) (fun K hK => ?_)
          refine goes_ Try.func32 (by kernel_rfl) rfl #[.agg #[.int .u8 x.f0, .int .u64 x.f1, .string x.f2, .slice Ax x.f3.length cx]] (by rfl) rfl rfl (by (try simp only [List.map_toArray, List.map_cons, List.map_nil]); first | done | rfl) ?_
          refine (depth32_any x (by omega) Ax cx _ HCy15.out hlx).mono ?_
          rintro e wk16 ⟨rfl, hb16⟩
          refine ⟨_, rfl, ?_⟩
          have hS16 : Blk wk16 g #[.int .u8 25, .int .u64 0, .string ⟨#[]⟩, .slice Ad 2 cd] 25 ∧ wk16.cell? (ad.add (i.toNat * 4)) = some (.int .u8 x.f0) ∧ wk16.cell? ⟨(ad.add (i.toNat * 4)).block, (ad.add (i.toNat * 4)).off + 1, none⟩ = some (.int .u64 x.f1) ∧ wk16.cell? ⟨(ad.add (i.toNat * 4)).block, (ad.add (i.toNat * 4)).off + 2, none⟩ = some (.string x.f2) ∧ wk16.cell? ⟨(ad.add (i.toNat * 4)).block, (ad.add (i.toNat * 4)).off + 3, none⟩ = some (.slice Ax x.f3.length cx) := ⟨hS15.1.below hb16, (hb16.cell (World.block_lt_of_cell? _ _ hS15.2.1)).trans hS15.2.1, (hb16.cell (World.block_lt_of_cell? _ _ hS15.2.2.1)).trans hS15.2.2.1, (hb16.cell (World.block_lt_of_cell? _ _ hS15.2.2.2.1)).trans hS15.2.2.2.1, (hb16.cell (World.block_lt_of_cell? _ _ hS15.2.2.2.2)).trans hS15.2.2.2.2⟩
          have HCd16 := Aside0.mk (Kd.C_below HCd15.out hb16)
          have HCy16 := Aside0.mk (Kd.C_below HCy15.out hb16)
          have HBS16 := Aside0.mk (below_step HBS15.out hb16)
          refine hK.out _ _ hS16 (fun _ => ?_)
          clear hK K hb16 hS15
          refine norm_ (a' := ?_) ?_ ?_
          rotate_left
          ·try simp only [Act.put, putAll, List.setIfInBounds_toArray, List.set_cons_zero, List.set_cons_succ]
           rfl
          refine pure_ (i := 13) (N := some 97) (v := ?_) (a' := ?_) #[true, true, true, true, true, true, true, true, true, true, true, true, true, true, false, false, false, false, false, false, false, false, false, false] rfl rfl (by kernel_rfl) (fun _ _ _ h => h) (Or.inl ⟨by rfl, ?_⟩) ?_ ?_
          rotate_left
          ·intro w'
           go_simp
           with_reducible rfl
          rotate_left
          ·simp only [Act.put, List.setIfInBounds_toArray, List.set_cons_zero, List.set_cons_succ, i64_w, i32_w]
           rfl
          refine pure_ (i := 14) (N := some 98) (v := ?_) (a' := ?_) #[true, true, true, true, true, true, true, true, true, true, true, true, true, true, true, false, false, false, false, false, false, false, false, false] rfl rfl (by kernel_rfl) (fun _ _ _ h => h) (Or.inl ⟨by rfl, ?_⟩) ?_ ?_
          rotate_left
          ·intro w'
           go_simp
           with_reducible rfl
          rotate_left
          ·simp only [Act.put, List.setIfInBounds_toArray, List.set_cons_zero, List.set_cons_succ, i64_w, i32_w]
           rfl
          refine pure_ (i := 15) (N := some 99) (v := ?_) (a' := ?_) #[true, true, true, true, true, true, true, true, true, true, true, true, true, true, true, true, false, false, false, false, false, false, false, false] rfl rfl (by kernel_rfl) (fun _ _ _ h => h) (Or.inl ⟨by rfl, ?_⟩) ?_ ?_
          rotate_left
          ·intro w'
           go_simp
           with_reducible rfl
          rotate_left
          ·simp only [Act.put, List.setIfInBounds_toArray, List.set_cons_zero, List.set_cons_succ, i64_w, i32_w]
           rfl
          refine pure_ (i := 16) (N := some 100) (v := ?_) (a' := ?_) #[true, true, true, true, true, true, true, true, true, true, true, true, true, true, true, true, true, false, false, false, false, false, false, false] rfl rfl (by kernel_rfl) (fun _ _ _ h => h) (Or.inl ⟨by rfl, ?_⟩) ?_ ?_
          rotate_left
          ·intro w'
           go_simp
           with_reducible rfl
          rotate_left
          ·simp only [Act.put, List.setIfInBounds_toArray, List.set_cons_zero, List.set_cons_succ, i64_w, i32_w]
           rfl
          refine pure_ (i := 17) (N := some 101) (v := ?_) (a' := ?_) #[true, true, true, true, true, true, true, true, true, true, true, true, true, true, true, true, true, true, false, false, false, false, false, false] rfl rfl (by kernel_rfl) (fun _ _ _ h => h) (Or.inl ⟨by rfl, ?_⟩) ?_ ?_
          rotate_left
          ·intro w'
           go_simp
           with_reducible rfl
          rotate_left
          ·simp only [Act.put, List.setIfInBounds_toArray, List.set_cons_zero, List.set_cons_succ, i64_w, i32_w]
           rfl
          refine pure_ (i := 18) (N := some 102) (v := ?_) (a' := ?_) #[true, true, true, true, true, true, true, true, true, true, true, true, true, true, true, true, true, true, true, false, false, false, false, false] rfl rfl (by kernel_rfl) (fun _ _ _ h => h) (Or.inl ⟨by rfl, ?_⟩) ?_ ?_
          rotate_left
          ·intro w'
           go_simp
           with_reducible rfl
          rotate_left
          ·simp only [Act.put, List.setIfInBounds_toArray, List.set_cons_zero, List.set_cons_succ, i64_w, i32_w]
           rfl
          refine take_ (i := 19) (N := some 103) (v := .agg #[.int .u8 x.f0, .int .u64 x.f1, .string x.f2, .slice Ax x.f3.length cx]) #[true, true, true, true, true, true, true, true, true, true, true, true, true, true, true, true, true, true, true, true, false, false, false, false] rfl rfl (by kernel_rfl) (fun _ _ _ h => h) (Or.inl ⟨by rfl, ?_⟩) hS16 rfl ?_
          ·rintro w' ⟨h0, h1, h2, h3, h4⟩
           go_simp
          refine norm_ (a' := ?_) ?_ ?_
          rotate_left
          ·try simp only [Act.put, putAll, List.setIfInBounds_toArray, List.set_cons_zero, List.set_cons_succ]
           rfl
          refine one_ (i := 20) (N := some 104) #[true, true, true, true, true, true, true, true, true, true, true, true, true, true, true, true, true, true, true, true, true, false, false, false] rfl rfl (by kernel_rfl) (by decide) (fun K hK => ?_)
          refine goes_ Try.func34 (by kernel_rfl) rfl #[.agg #[.int .u8 x.f0, .int .u64 x.f1, .string x.f2, .slice Ax x.f3.length cx]] (by rfl) rfl rfl (by (try simp only [List.map_toArray, List.map_cons, List.map_nil]); first | done | rfl) ?_
          refine (items34_any x (by omega) Ax cx _ HCy16.out hlx).mono ?_
          rintro e wk17 ⟨rfl, hb17⟩
          refine ⟨_, rfl, ?_⟩
          have hS17 : Blk wk17 g #[.int .u8 25, .int .u64 0, .string ⟨#[]⟩, .slice Ad 2 cd] 25 ∧ wk17.cell? (ad.add (i.toNat * 4)) = some (.int .u8 x.f0) ∧ wk17.cell? ⟨(ad.add (i.toNat * 4)).block, (ad.add (i.toNat * 4)).off + 1, none⟩ = some (.int .u64 x.f1) ∧ wk17.cell? ⟨(ad.add (i.toNat * 4)).block, (ad.add (i.toNat * 4)).off + 2, none⟩ = some (.string x.f2) ∧ wk17.cell? ⟨(ad.add (i.toNat * 4)).block, (ad.add (i.toNat * 4)).off + 3, none⟩ = some (.slice Ax x.f3.length cx) := ⟨hS16.1.below hb17, (hb17.cell (World.block_lt_of_cell? _ _ hS16.2.1)).trans hS16.2.1, (hb17.cell (World.block_lt_of_cell? _ _ hS16.2.2.1)).trans hS16.2.2.1, (hb17.cell (World.block_lt_of_cell? _ _ hS16.2.2.2.1)).trans hS16.2.2.2.1, (hb17.cell (World.block_lt_of_cell? _ _ hS16.2.2.2.2)).trans hS16.2.2.2.2⟩
          have HCd17 := Aside0.mk (Kd.C_below HCd16.out hb17)
          have HCy17 := Aside0.mk (Kd.C_below HCy16.out hb17)
          have HBS17 := Aside0.mk (below_step HBS16.out hb17)
          refine hK.out _ _ hS17 (fun _ => ?_)
          clear hK K hb17 hS16
          refine norm_ (a' := ?_) ?_ ?_
          rotate_left
          ·try simp only [Act.put, putAll, List.setIfInBounds_toArray, List.set_cons_zero, List.set_cons_succ]
           rfl
          refine pure_ (i := 21) (N := some 105) (v := ?_) (a' := ?_) #[true, true, true, true, true, true, true, true, true, true, true, true, true, true, true, true, true, true, true, true, true, true, false, false] rfl rfl (by kernel_rfl) (fun _ _ _ h => h) (Or.inl ⟨by rfl, ?_⟩) ?_ ?_
          rotate_left
          ·intro w'
           go_simp
           with_reducible rfl
          rotate_left
          ·simp only [Act.put, List.setIfInBounds_toArray, List.set_cons_zero, List.set_cons_succ, i64_w, i32_w]
           rfl
          refine pure_ (i := 22) (N := some 106) (v := ?_) (a' := ?_) #[true, true, true, true, true, true, true, true, true, true, true, true, true, true, true, true, true, true, true, true, true, true, true, false] rfl rfl (by kernel_rfl) (fun _ _ _ h => h) (Or.inl ⟨by rfl, ?_⟩) ?_ ?_
          rotate_left
          ·intro w'
           go_simp
           with_reducible rfl
          rotate_left
          ·simp only [Act.put, List.setIfInBounds_toArray, List.set_cons_zero, List.set_cons_succ, i64_w, i32_w]
           rfl
          refine pure_ (i := 23) (N := some 107) (v := ?_) (a' := ?_) #[true, true, true, true, true, true, true, true, true, true, true, true, true, true, true, true, true, true, true, true, true, true, true, true] rfl rfl (by kernel_rfl) (fun _ _ _ h => h) (Or.inl ⟨by rfl, ?_⟩) ?_ ?_
          rotate_left
          ·intro w'
           go_simp
           with_reducible rfl
          rotate_left
          ·simp only [Act.put, List.setIfInBounds_toArray, List.set_cons_zero, List.set_cons_succ, i64_w, i32_w]
           rfl
          refine done_ (by kernel_rfl) ?_
          go_wp2_with fail
          go_meet
          exact ⟨rfl, ⟨HBS17.out⟩⟩
         ·rw [decide_eq_false hd] at hrD
          have hrD : rightB ⟨25, 0, ⟨#[]⟩, [⟨6, n, ⟨#[]⟩, []⟩, x]⟩ = false := by rw [hrD.out]; rfl
          have HBS := Aside0.mk (Below.refl wd.heap.size wd)
          refine start_ (n := 24) (S := fun w' => Blk w' g #[.int .u8 25, .int .u64 0, .string ⟨#[]⟩, .slice Ad 2 cd] 25 ∧ w'.cell? (ad.add (i.toNat * 4)) = some (.int .u8 x.f0) ∧ w'.cell? ⟨(ad.add (i.toNat * 4)).block, (ad.add (i.toNat * 4)).off + 1, none⟩ = some (.int .u64 x.f1) ∧ w'.cell? ⟨(ad.add (i.toNat * 4)).block, (ad.add (i.toNat * 4)).off + 2, none⟩ = some (.string x.f2) ∧ w'.cell? ⟨(ad.add (i.toNat * 4)).block, (ad.add (i.toNat * 4)).off + 3, none⟩ = some (.slice Ax x.f3.length cx)) (ds := []) #[false, false, false, false, false, false, false, false, false, false, false, false, false, false, false, false, false, false, false, false, false, false, false, false] (by kernel_rfl) rfl rfl ⟨bD, hx0, hx1, hx2, hx3⟩ (fun hS => ?_)
          replace HCd := Aside0.mk (Kd.C_below HCd.out (below_drew (Below.refl _ _)))
          replace HCy := Aside0.mk (Kd.C_below HCy.out (below_drew (Below.refl _ _)))
          replace HBS := Aside0.mk (below_drew HBS.out)
          generalize wd.drew = wd18 at HCd HCy HBS hS ⊢
          clear bD hx0 hx1 hx2 hx3
          refine take_ (i := 0) (N := some 84) (v := .agg #[.int .u8 25, .int .u64 0, .string ⟨#[]⟩, .slice Ad 2 cd]) #[true, false, false, false, false, false, false, false, false, false, false, false, false, false, false, false, false, false, false, false, false, false, false, false] rfl rfl (by kernel_rfl) (fun _ _ _ h => h) (Or.inl ⟨by rfl, ?_⟩) hS rfl ?_
          ·rintro w' ⟨h0, h1, h2, h3, h4⟩
           obtain ⟨e0, e1, e2, e3⟩ := h0.c4
           go_simp
          refine norm_ (a' := ?_) ?_ ?_
          rotate_left
          ·try simp only [Act.put, putAll, List.setIfInBounds_toArray, List.set_cons_zero, List.set_cons_succ]
           rfl
          refine pure_ (i := 2) (N := some 86) (v := ?_) (a' := ?_) #[true, false, true, false, false, false, false, false, false, false, false, false, false, false, false, false, false, false, false, false, false, false, false, false] rfl rfl (by kernel_rfl) (fun _ _ _ h => h) (Or.inl ⟨by rfl, ?_⟩) ?_ ?_
          rotate_left
          ·intro w'
           go_simp
           with_reducible rfl
          rotate_left
          ·simp only [Act.put, List.setIfInBounds_toArray, List.set_cons_zero, List.set_cons_succ, i64_w, i32_w]
           rfl
          refine pure_ (i := 3) (N := some 87) (v := ?_) (a' := ?_) #[true, false, true, true, false, false, false, false, false, false, false, false, false, false, false, false, false, false, false, false, false, false, false, false] rfl rfl (by kernel_rfl) (fun _ _ _ h => h) (Or.inl ⟨by rfl, ?_⟩) ?_ ?_
          rotate_left
          ·intro w'
           go_simp
           with_reducible rfl
          rotate_left
          ·simp only [Act.put, List.setIfInBounds_toArray, List.set_cons_zero, List.set_cons_succ, i64_w, i32_w]
           rfl
          refine pure_ (i := 4) (N := some 88) (v := ?_) (a' := ?_) #[true, false, true, true, true, false, false, false, false, false, false, false, false, false, false, false, false, false, false, false, false, false, false, false] rfl rfl (by kernel_rfl) (fun _ _ _ h => h) (Or.inl ⟨by rfl, ?_⟩) ?_ ?_
          rotate_left
          ·intro w'
           go_simp
           with_reducible rfl
          rotate_left
          ·simp only [Act.put, List.setIfInBounds_toArray, List.set_cons_zero, List.set_cons_succ, i64_w, i32_w]
           rfl
          refine take_ (i := 5) (N := some 89) (v := .agg #[.int .u8 x.f0, .int .u64 x.f1, .string x.f2, .slice Ax x.f3.length cx]) #[true, false, true, true, true, true, false, false, false, false, false, false, false, false, false, false, false, false, false, false, false, false, false, false] rfl rfl (by kernel_rfl) (fun _ _ _ h => h) (Or.inl ⟨by rfl, ?_⟩) hS rfl ?_
          ·rintro w' ⟨h0, h1, h2, h3, h4⟩
           go_simp
          refine norm_ (a' := ?_) ?_ ?_
          rotate_left
          ·try simp only [Act.put, putAll, List.setIfInBounds_toArray, List.set_cons_zero, List.set_cons_succ]
           rfl
          refine one_ (i := 1) (N := some 85) #[true, true, true, true, true, true, false, false, false, false, false, false, false, false, false, false, false, false, false, false, false, false, false, false] rfl rfl (by kernel_rfl) (by decide) (fun K hK => ?_)
          refine goes_ Try.func17 (by kernel_rfl) rfl #[.agg #[.int .u8 25, .int .u64 0, .string ⟨#[]⟩, .slice Ad 2 cd]] (by rfl) rfl rfl (by (try simp only [List.map_toArray, List.map_cons, List.map_nil]); first | done | rfl) ?_
          refine (right17_any ⟨25, 0, ⟨#[]⟩, [⟨6, n, ⟨#[]⟩, []⟩, x]⟩ hiD hoD.out Ad cd _ HCd.out hcd).mono ?_
          rintro e wk19 ⟨he, hb19⟩
          rw [hrD] at he
          subst he
          refine ⟨_, rfl, ?_⟩
          have hS19 : Blk wk19 g #[.int .u8 25, .int .u64 0, .string ⟨#[]⟩, .slice Ad 2 cd] 25 ∧ wk19.cell? (ad.add (i.toNat * 4)) = some (.int .u8 x.f0) ∧ wk19.cell? ⟨(ad.add (i.toNat * 4)).block, (ad.add (i.toNat * 4)).off + 1, none⟩ = some (.int .u64 x.f1) ∧ wk19.cell? ⟨(ad.add (i.toNat * 4)).block, (ad.add (i.toNat * 4)).off + 2, none⟩ = some (.string x.f2) ∧ wk19.cell? ⟨(ad.add (i.toNat * 4)).block, (ad.add (i.toNat * 4)).off + 3, none⟩ = some (.slice Ax x.f3.length cx) := ⟨hS.1.below hb19, (hb19.cell (World.block_lt_of_cell? _ _ hS.2.1)).trans hS.2.1, (hb19.cell (World.block_lt_of_cell? _ _ hS.2.2.1)).trans hS.2.2.1, (hb19.cell (World.block_lt_of_cell? _ _ hS.2.2.2.1)).trans hS.2.2.2.1, (hb19.cell (World.block_lt_of_cell? _ _ hS.2.2.2.2)).trans hS.2.2.2.2⟩
          have HCd19 := Aside0.mk (Kd.C_below HCd.out hb19)
          have HCy19 := Aside0.mk (Kd.C_below HCy.out hb19)
          have HBS19 := Aside0.mk (below_step HBS.out hb19)
          refine hK.out _ _ hS19 (fun _ => ?_)
          clear hK K hb19
          refine norm_ (a' := ?_) ?_ ?_
          rotate_left
          ·try simp only [Act.put, putAll, List.setIfInBounds_toArray, List.set_cons_zero, List.set_cons_succ]
           rfl
          refine one_ (i := 6) (N := some 90) #[true, true, true, true, true, true, true, false, false, false, false, false, false, false, false, false, false, false, false, false, false, false, false, false] rfl rfl (by kernel_rfl) (by decide) (fun K hK => ?_)
          refine goes_ Try.func17 (by kernel_rfl) rfl #[.agg #[.int .u8 x.f0, .int .u64 x.f1, .string x.f2, .slice Ax x.f3.length cx]] (by rfl) rfl rfl (by (try simp only [List.map_toArray, List.map_cons, List.map_nil]); first | done | rfl) ?_
          refine (right17_any x (by omega) HOX.out Ax cx _ HCy19.out hlx).mono ?_
          rintro e wk20 ⟨he, hb20⟩
          rw [hr] at he
          subst he
          refine ⟨_, rfl, ?_⟩
          have hS20 : Blk wk20 g #[.int .u8 25, .int .u64 0, .string ⟨#[]⟩, .slice Ad 2 cd] 25 ∧ wk20.cell? (ad.add (i.toNat * 4)) = some (.int .u8 x.f0) ∧ wk20.cell? ⟨(ad.add (i.toNat * 4)).block, (ad.add (i.toNat * 4)).off + 1, none⟩ = some (.int .u64 x.f1) ∧ wk20.cell? ⟨(ad.add (i.toNat * 4)).block, (ad.add (i.toNat * 4)).off + 2, none⟩ = some (.string x.f2) ∧ wk20.cell? ⟨(ad.add (i.toNat * 4)).block, (ad.add (i.toNat * 4)).off + 3, none⟩ = some (.slice Ax x.f3.length cx) := ⟨hS19.1.below hb20, (hb20.cell (World.block_lt_of_cell? _ _ hS19.2.1)).trans hS19.2.1, (hb20.cell (World.block_lt_of_cell? _ _ hS19.2.2.1)).trans hS19.2.2.1, (hb20.cell (World.block_lt_of_cell? _ _ hS19.2.2.2.1)).trans hS19.2.2.2.1, (hb20.cell (World.block_lt_of_cell? _ _ hS19.2.2.2.2)).trans hS19.2.2.2.2⟩
          have HCd20 := Aside0.mk (Kd.C_below HCd19.out hb20)
          have HCy20 := Aside0.mk (Kd.C_below HCy19.out hb20)
          have HBS20 := Aside0.mk (below_step HBS19.out hb20)
          refine hK.out _ _ hS20 (fun _ => ?_)
          clear hK K hb20 hS19
          refine norm_ (a' := ?_) ?_ ?_
          rotate_left
          ·try simp only [Act.put, putAll, List.setIfInBounds_toArray, List.set_cons_zero, List.set_cons_succ]
           rfl
          refine pure_ (i := 7) (N := some 91) (v := ?_) (a' := ?_) #[true, true, true, true, true, true, true, true, false, false, false, false, false, false, false, false, false, false, false, false, false, false, false, false] rfl rfl (by kernel_rfl) (fun _ _ _ h => h) (Or.inl ⟨by rfl, ?_⟩) ?_ ?_
          rotate_left
          ·intro w'
           go_simp
           with_reducible rfl
          rotate_left
          ·simp only [Act.put, List.setIfInBounds_toArray, List.set_cons_zero, List.set_cons_succ, i64_w, i32_w]
           rfl
          refine pure_ (i := 8) (N := some 92) (v := ?_) (a' := ?_) #[true, true, true, true, true, true, true, true, true, false, false, false, false, false, false, false, false, false, false, false, false, false, false, false] rfl rfl (by kernel_rfl) (fun _ _ _ h => h) (Or.inl ⟨by rfl, ?_⟩) ?_ ?_
          rotate_left
          ·intro w'
           go_simp
           with_reducible rfl
          rotate_left
          ·simp only [Act.put, List.setIfInBounds_toArray, List.set_cons_zero, List.set_cons_succ, i64_w, i32_w]
           rfl
          refine pure_ (i := 9) (N := some 93) (v := ?_) (a' := ?_) #[true, true, true, true, true, true, true, true, true, true, false, false, false, false, false, false, false, false, false, false, false, false, false, false] rfl rfl (by kernel_rfl) (fun _ _ _ h => h) (Or.inl ⟨by rfl, ?_⟩) ?_ ?_
          rotate_left
          ·intro w'
           go_simp
           with_reducible rfl
          rotate_left
          ·simp only [Act.put, List.setIfInBounds_toArray, List.set_cons_zero, List.set_cons_succ, i64_w, i32_w]
           rfl
          refine pure_ (i := 10) (N := some 94) (v := ?_) (a' := ?_) #[true, true, true, true, true, true, true, true, true, true, true, false, false, false, false, false, false, false, false, false, false, false, false, false] rfl rfl (by kernel_rfl) (fun _ _ _ h => h) (Or.inl ⟨by rfl, ?_⟩) ?_ ?_
          rotate_left
          ·intro w'
           go_simp
           with_reducible rfl
          rotate_left
          ·simp only [Act.put, List.setIfInBounds_toArray, List.set_cons_zero, List.set_cons_succ, i64_w, i32_w]
           rfl
          refine take_ (i := 11) (N := some 95) (v := .agg #[.int .u8 x.f0, .int .u64 x.f1, .string x.f2, .slice Ax x.f3.length cx]) #[true, true, true, true, true, true, true, true, true, true, true, true, false, false, false, false, false, false, false, false, false, false, false, false] rfl rfl (by kernel_rfl) (fun _ _ _ h => h) (Or.inl ⟨by rfl, ?_⟩) hS20 rfl ?_
          ·rintro w' ⟨h0, h1, h2, h3, h4⟩
           go_simp
          refine norm_ (a' := ?_) ?_ ?_
          rotate_left
          ·try simp only [Act.put, putAll, List.setIfInBounds_toArray, List.set_cons_zero, List.set_cons_succ]
           rfl
          refine one_ (i := 12) (N := some 96) #[true, true, true, true, true, true, true, true, true, true, true, true, true, false, false, false, false, false, false, false, false, false, false, false] rfl rfl (by kernel_rfl) (by decide) (fun K hK => ?_)
          refine goes_ Try.func32 (by kernel_rfl) rfl #[.agg #[.int .u8 x.f0, .int .u64 x.f1, .string x.f2, .slice Ax x.f3.length cx]] (by rfl) rfl rfl (by (try simp only [List.map_toArray, List.map_cons, List.map_nil]); first | done | rfl) ?_
          refine (depth32_any x (by omega) Ax cx _ HCy20.out hlx).mono ?_
          rintro e wk21 ⟨rfl, hb21⟩
          refine ⟨_, rfl, ?_⟩
          have hS21 : Blk wk21 g #[.int .u8 25, .int .u64 0, .string ⟨#[]⟩, .slice Ad 2 cd] 25 ∧ wk21.cell? (ad.add (i.toNat * 4)) = some (.int .u8 x.f0) ∧ wk21.cell? ⟨(ad.add (i.toNat * 4)).block, (ad.add (i.toNat * 4)).off + 1, none⟩ = some (.int .u64 x.f1) ∧ wk21.cell? ⟨(ad.add (i.toNat * 4)).block, (ad.add (i.toNat * 4)).off + 2, none⟩ = some (.string x.f2) ∧ wk21.cell? ⟨(ad.add (i.toNat * 4)).block, (ad.add (i.toNat * 4)).off + 3, none⟩ = some (.slice Ax x.f3.length cx) := ⟨hS20.1.below hb21, (hb21.cell (World.block_lt_of_cell? _ _ hS20.2.1)).trans hS20.2.1, (hb21.cell (World.block_lt_of_cell? _ _ hS20.2.2.1)).trans hS20.2.2.1, (hb21.cell (World.block_lt_of_cell? _ _ hS20.2.2.2.1)).trans hS20.2.2.2.1, (hb21.cell (World.block_lt_of_cell? _ _ hS20.2.2.2.2)).trans hS20.2.2.2.2⟩
          have HCd21 := Aside0.mk (Kd.C_below HCd20.out hb21)
          have HCy21 := Aside0.mk (Kd.C_below HCy20.out hb21)
          have HBS21 := Aside0.mk (below_step HBS20.out hb21)
          refine hK.out _ _ hS21 (fun _ => ?_)
          clear hK K hb21 hS20
          refine norm_ (a' := ?_) ?_ ?_
          rotate_left
          ·try simp only [Act.put, putAll, List.setIfInBounds_toArray, List.set_cons_zero, List.set_cons_succ]
           rfl
          refine pure_ (i := 13) (N := some 97) (v := ?_) (a' := ?_) #[true, true, true, true, true, true, true, true, true, true, true, true, true, true, false, false, false, false, false, false, false, false, false, false] rfl rfl (by kernel_rfl) (fun _ _ _ h => h) (Or.inl ⟨by rfl, ?_⟩) ?_ ?_
          rotate_left
          ·intro w'
           go_simp
           with_reducible rfl
          rotate_left
          ·simp only [Act.put, List.setIfInBounds_toArray, List.set_cons_zero, List.set_cons_succ, i64_w, i32_w]
           rfl
          refine pure_ (i := 14) (N := some 98) (v := ?_) (a' := ?_) #[true, true, true, true, true, true, true, true, true, true, true, true, true, true, true, false, false, false, false, false, false, false, false, false] rfl rfl (by kernel_rfl) (fun _ _ _ h => h) (Or.inl ⟨by rfl, ?_⟩) ?_ ?_
          rotate_left
          ·intro w'
           go_simp
           with_reducible rfl
          rotate_left
          ·simp only [Act.put, List.setIfInBounds_toArray, List.set_cons_zero, List.set_cons_succ, i64_w, i32_w]
           rfl
          refine pure_ (i := 15) (N := some 99) (v := ?_) (a' := ?_) #[true, true, true, true, true, true, true, true, true, true, true, true, true, true, true, true, false, false, false, false, false, false, false, false] rfl rfl (by kernel_rfl) (fun _ _ _ h => h) (Or.inl ⟨by rfl, ?_⟩) ?_ ?_
          rotate_left
          ·intro w'
           go_simp
           with_reducible rfl
          rotate_left
          ·simp only [Act.put, List.setIfInBounds_toArray, List.set_cons_zero, List.set_cons_succ, i64_w, i32_w]
           rfl
          refine pure_ (i := 16) (N := some 100) (v := undef) (a' := ?_) #[true, true, true, true, true, true, true, true, true, true, true, true, true, true, true, true, true, false, false, false, false, false, false, false] rfl rfl (by kernel_rfl) (fun _ _ _ h => h) (Or.inr ⟨by rfl, rfl⟩) ?_ ?_
          rotate_left
          ·simp only [Act.put, List.setIfInBounds_toArray, List.set_cons_zero, List.set_cons_succ, i64_w, i32_w]
           rfl
          refine pure_ (i := 17) (N := some 101) (v := undef) (a' := ?_) #[true, true, true, true, true, true, true, true, true, true, true, true, true, true, true, true, true, true, false, false, false, false, false, false] rfl rfl (by kernel_rfl) (fun _ _ _ h => h) (Or.inr ⟨by rfl, rfl⟩) ?_ ?_
          rotate_left
          ·simp only [Act.put, List.setIfInBounds_toArray, List.set_cons_zero, List.set_cons_succ, i64_w, i32_w]
           rfl
          refine pure_ (i := 18) (N := some 102) (v := undef) (a' := ?_) #[true, true, true, true, true, true, true, true, true, true, true, true, true, true, true, true, true, true, true, false, false, false, false, false] rfl rfl (by kernel_rfl) (fun _ _ _ h => h) (Or.inr ⟨by rfl, rfl⟩) ?_ ?_
          rotate_left
          ·simp only [Act.put, List.setIfInBounds_toArray, List.set_cons_zero, List.set_cons_succ, i64_w, i32_w]
           rfl
          refine pure_ (i := 19) (N := some 103) (v := undef) (a' := ?_) #[true, true, true, true, true, true, true, true, true, true, true, true, true, true, true, true, true, true, true, true, false, false, false, false] rfl rfl (by kernel_rfl) (fun _ _ _ h => h) (Or.inr ⟨by rfl, rfl⟩) ?_ ?_
          rotate_left
          ·simp only [Act.put, List.setIfInBounds_toArray, List.set_cons_zero, List.set_cons_succ, i64_w, i32_w]
           rfl
          refine pure_ (i := 20) (N := some 104) (v := undef) (a' := ?_) #[true, true, true, true, true, true, true, true, true, true, true, true, true, true, true, true, true, true, true, true, true, false, false, false] rfl rfl (by kernel_rfl) (fun _ _ _ h => h) (Or.inr ⟨by rfl, rfl⟩) ?_ ?_
          rotate_left
          ·simp only [Act.put, List.setIfInBounds_toArray, List.set_cons_zero, List.set_cons_succ, i64_w, i32_w]
           rfl
          refine pure_ (i := 21) (N := some 105) (v := undef) (a' := ?_) #[true, true, true, true, true, true, true, true, true, true, true, true, true, true, true, true, true, true, true, true, true, true, false, false] rfl rfl (by kernel_rfl) (fun _ _ _ h => h) (Or.inr ⟨by rfl, rfl⟩) ?_ ?_
          rotate_left
          ·simp only [Act.put, List.setIfInBounds_toArray, List.set_cons_zero, List.set_cons_succ, i64_w, i32_w]
           rfl
          refine pure_ (i := 22) (N := some 106) (v := ?_) (a' := ?_) #[true, true, true, true, true, true, true, true, true, true, true, true, true, true, true, true, true, true, true, true, true, true, true, false] rfl rfl (by kernel_rfl) (fun _ _ _ h => h) (Or.inl ⟨by rfl, ?_⟩) ?_ ?_
          rotate_left
          ·intro w'
           go_simp
           with_reducible rfl
          rotate_left
          ·simp only [Act.put, List.setIfInBounds_toArray, List.set_cons_zero, List.set_cons_succ, i64_w, i32_w]
           rfl
          refine pure_ (i := 23) (N := some 107) (v := ?_) (a' := ?_) #[true, true, true, true, true, true, true, true, true, true, true, true, true, true, true, true, true, true, true, true, true, true, true, true] rfl rfl (by kernel_rfl) (fun _ _ _ h => h) (Or.inl ⟨by rfl, ?_⟩) ?_ ?_
          rotate_left
          ·intro w'
           go_simp
           with_reducible rfl
          rotate_left
          ·simp only [Act.put, List.setIfInBounds_toArray, List.set_cons_zero, List.set_cons_succ, i64_w, i32_w]
           rfl
          refine done_ (by kernel_rfl) ?_
          go_wp2_with fail
          go_meet
          exact ⟨rfl, ⟨HBS21.out⟩⟩
       case rest =>
        obtain ⟨rfl, HBe⟩ := hcut
        obtain ⟨we, ee⟩ : ∃ we, we = wc := ⟨_, rfl⟩
        subst ee
        have HCz := Aside0.mk (Kd.C_below HCy.out HBe.out)
        have hy0 := (HBe.out.cell (World.block_lt_of_cell? _ _ HY.out.1)).trans HY.out.1
        have hy1 := (HBe.out.cell (World.block_lt_of_cell? _ _ HY.out.2.1)).trans HY.out.2.1
        have hy2 := (HBe.out.cell (World.block_lt_of_cell? _ _ HY.out.2.2.1)).trans HY.out.2.2.1
        have hy3 := (HBe.out.cell (World.block_lt_of_cell? _ _ HY.out.2.2.2)).trans HY.out.2.2.2
        have HBW := Aside0.mk (below_step HBd.out HBe.out)
        have hiE : itemsN ⟨25, 0, ⟨#[]⟩, [⟨5, 1, ⟨#[]⟩, []⟩, x]⟩ ≤ 4294967296 := by simp only [itemsN, itemsL]; omega
        have hoE : Aside0 (okV ⟨25, 0, ⟨#[]⟩, [⟨5, 1, ⟨#[]⟩, []⟩, x]⟩) := ⟨by rw [okV, okL, okL, okV]; exact ⟨⟨⟨by omega, by omega⟩, by decide⟩, ⟨⟨⟨by omega, by omega⟩, by decide⟩, by trivial⟩, HOX.out, trivial⟩⟩
        clear hx0 hx1 hx2 hx3 bD hcd HCd HCy HY hiD hoD hrD HBe HBd
        go_wp2_with fail
        refine start_ (n := 7) (S := fun w' => w'.cell? (ad.add (i.toNat * 4)) = some (.int .u8 x.f0) ∧ w'.cell? ⟨(ad.add (i.toNat * 4)).block, (ad.add (i.toNat * 4)).off + 1, none⟩ = some (.int .u64 x.f1) ∧ w'.cell? ⟨(ad.add (i.toNat * 4)).block, (ad.add (i.toNat * 4)).off + 2, none⟩ = some (.string x.f2) ∧ w'.cell? ⟨(ad.add (i.toNat * 4)).block, (ad.add (i.toNat * 4)).off + 3, none⟩ = some (.slice Ax x.f3.length cx)) (ds := []) #[false, false, false, false, false, false, false] (by kernel_rfl) rfl rfl ⟨hy0, hy1, hy2, hy3⟩ (fun hS => ?_)
        replace HCz := Aside0.mk (Kd.C_below HCz.out (below_drew (Below.refl _ _)))
        replace HBW := Aside0.mk (below_drew HBW.out)
        generalize we.drew = wd22 at HCz HBW hS ⊢
        clear hy0 hy1 hy2 hy3
        refine pure_ (i := 1) (N := some 109) (v := ?_) (a' := ?_) #[false, true, false, false, false, false, false] rfl rfl (by kernel_rfl) (fun _ _ _ h => h) (Or.inl ⟨by rfl, ?_⟩) ?_ ?_
        rotate_left
        ·intro w'
         go_simp
         with_reducible rfl
        rotate_left
        ·simp only [Act.put, List.setIfInBounds_toArray, List.set_cons_zero, List.set_cons_succ, i64_w, i32_w]
         rfl
        refine pure_ (i := 2) (N := some 110) (v := ?_) (a' := ?_) #[false, true, true, false, false, false, false] rfl rfl (by kernel_rfl) (fun _ _ _ h => h) (Or.inl ⟨by rfl, ?_⟩) ?_ ?_
        rotate_left
        ·intro w'
         go_simp
         with_reducible rfl
        rotate_left
        ·simp only [Act.put, List.setIfInBounds_toArray, List.set_cons_zero, List.set_cons_succ, i64_w, i32_w]
         rfl
        refine pure_ (i := 3) (N := some 111) (v := ?_) (a' := ?_) #[false, true, true, true, false, false, false] rfl rfl (by kernel_rfl) (fun _ _ _ h => h) (Or.inl ⟨by rfl, ?_⟩) ?_ ?_
        rotate_left
        ·intro w'
         go_simp
         with_reducible rfl
        rotate_left
        ·simp only [Act.put, List.setIfInBounds_toArray, List.set_cons_zero, List.set_cons_succ, i64_w, i32_w]
         rfl
        refine take_ (i := 4) (N := some 112) (v := .agg #[.int .u8 x.f0, .int .u64 x.f1, .string x.f2, .slice Ax x.f3.length cx]) #[false, true, true, true, true, false, false] rfl rfl (by kernel_rfl) (fun _ _ _ h => h) (Or.inl ⟨by rfl, ?_⟩) hS rfl ?_
        ·rintro w' ⟨h0, h1, h2, h3⟩
         go_simp
        refine norm_ (a' := ?_) ?_ ?_
        rotate_left
        ·try simp only [Act.put, putAll, List.setIfInBounds_toArray, List.set_cons_zero, List.set_cons_succ]
         rfl
        refine one_ (i := 0) (N := some 108) #[true, true, true, true, true, false, false] rfl rfl (by kernel_rfl) (by decide) (fun K hK => ?_)
        refine goes_ Try.func23 (by kernel_rfl) rfl #[.int .u8 5, .int .u64 1] (by rfl) rfl rfl (by (try simp only [List.map_toArray, List.map_cons, List.map_nil]); first | done | rfl) ?_
        refine (number23_any 5 1 _).mono ?_
        rintro e wk23 ⟨rfl, hb23⟩
        refine ⟨_, rfl, ?_⟩
        have hS23 : wk23.cell? (ad.add (i.toNat * 4)) = some (.int .u8 x.f0) ∧ wk23.cell? ⟨(ad.add (i.toNat * 4)).block, (ad.add (i.toNat * 4)).off + 1, none⟩ = some (.int .u64 x.f1) ∧ wk23.cell? ⟨(ad.add (i.toNat * 4)).block, (ad.add (i.toNat * 4)).off + 2, none⟩ = some (.string x.f2) ∧ wk23.cell? ⟨(ad.add (i.toNat * 4)).block, (ad.add (i.toNat * 4)).off + 3, none⟩ = some (.slice Ax x.f3.length cx) := ⟨(hb23.cell (World.block_lt_of_cell? _ _ hS.1)).trans hS.1, (hb23.cell (World.block_lt_of_cell? _ _ hS.2.1)).trans hS.2.1, (hb23.cell (World.block_lt_of_cell? _ _ hS.2.2.1)).trans hS.2.2.1, (hb23.cell (World.block_lt_of_cell? _ _ hS.2.2.2)).trans hS.2.2.2⟩
        have HCz23 := Aside0.mk (Kd.C_below HCz.out hb23)
        have HBW23 := Aside0.mk (below_step HBW.out hb23)
        refine hK.out _ _ hS23 (fun _ => ?_)
        clear hK K hb23
        refine norm_ (a' := ?_) ?_ ?_
        rotate_left
        ·try simp only [Act.put, putAll, List.setIfInBounds_toArray, List.set_cons_zero, List.set_cons_succ]
         rfl
        refine one_ (i := 5) (N := some 113) #[true, true, true, true, true, true, false] rfl rfl (by kernel_rfl) (by decide) (fun K hK => ?_)
        refine goes_ Try.func28 (by kernel_rfl) rfl #[.agg #[.int .u8 5, .int .u64 1, .string ⟨#[]⟩, .slice none 0 0], .agg #[.int .u8 x.f0, .int .u64 x.f1, .string x.f2, .slice Ax x.f3.length cx]] (by rfl) rfl rfl (by (try simp only [List.map_toArray, List.map_cons, List.map_nil]); first | done | rfl) ?_
        refine (desc28_any ⟨5, 1, ⟨#[]⟩, []⟩ x (by simp only [itemsN, itemsL]; omega) none Ax 0 cx _ (C_none _) (Nat.le_refl _) HCz23.out hlx).mono ?_
        rintro e wk24 ⟨vd24, rfl, hRd24, hb24⟩
        obtain ⟨Ae, ce, rfl⟩ := Kd.R_slice hRd24
        have hce := (Kd.R_reads' hRd24).2.1
        have HCe24 := Aside0.mk (Kd.R_reads' hRd24).2.2
        refine ⟨_, rfl, ?_⟩
        have hS24 : wk24.cell? (ad.add (i.toNat * 4)) = some (.int .u8 x.f0) ∧ wk24.cell? ⟨(ad.add (i.toNat * 4)).block, (ad.add (i.toNat * 4)).off + 1, none⟩ = some (.int .u64 x.f1) ∧ wk24.cell? ⟨(ad.add (i.toNat * 4)).block, (ad.add (i.toNat * 4)).off + 2, none⟩ = some (.string x.f2) ∧ wk24.cell? ⟨(ad.add (i.toNat * 4)).block, (ad.add (i.toNat * 4)).off + 3, none⟩ = some (.slice Ax x.f3.length cx) := ⟨(hb24.cell (World.block_lt_of_cell? _ _ hS23.1)).trans hS23.1, (hb24.cell (World.block_lt_of_cell? _ _ hS23.2.1)).trans hS23.2.1, (hb24.cell (World.block_lt_of_cell? _ _ hS23.2.2.1)).trans hS23.2.2.1, (hb24.cell (World.block_lt_of_cell? _ _ hS23.2.2.2)).trans hS23.2.2.2⟩
        have HCz24 := Aside0.mk (Kd.C_below HCz23.out hb24)
        have HBW24 := Aside0.mk (below_step HBW23.out hb24)
        refine hK.out _ _ hS24 (fun _ => ?_)
        clear hK K hb24 hS23
        refine norm_ (a' := ?_) ?_ ?_
        rotate_left
        ·try simp only [Act.put, putAll, List.setIfInBounds_toArray, List.set_cons_zero, List.set_cons_succ]
         rfl
        refine one_ (i := 6) (N := some 114) #[true, true, true, true, true, true, true] rfl rfl (by kernel_rfl) (by decide) (fun K hK => ?_)
        refine goes_ Try.func17 (by kernel_rfl) rfl #[.agg #[.int .u8 25, .int .u64 0, .string ⟨#[]⟩, .slice Ae 2 ce]] (by rfl) rfl rfl (by (try simp only [List.map_toArray, List.map_cons, List.map_nil]); first | done | rfl) ?_
        refine (right17_any ⟨25, 0, ⟨#[]⟩, [⟨5, 1, ⟨#[]⟩, []⟩, x]⟩ hiE hoE.out Ae ce _ HCe24.out hce).mono ?_
        rintro e wk25 ⟨he, hb25⟩
        rw [rightB_bad] at he
        subst he
        refine ⟨_, rfl, ?_⟩
        have hS25 : wk25.cell? (ad.add (i.toNat * 4)) = some (.int .u8 x.f0) ∧ wk25.cell? ⟨(ad.add (i.toNat * 4)).block, (ad.add (i.toNat * 4)).off + 1, none⟩ = some (.int .u64 x.f1) ∧ wk25.cell? ⟨(ad.add (i.toNat * 4)).block, (ad.add (i.toNat * 4)).off + 2, none⟩ = some (.string x.f2) ∧ wk25.cell? ⟨(ad.add (i.toNat * 4)).block, (ad.add (i.toNat * 4)).off + 3, none⟩ = some (.slice Ax x.f3.length cx) := ⟨(hb25.cell (World.block_lt_of_cell? _ _ hS24.1)).trans hS24.1, (hb25.cell (World.block_lt_of_cell? _ _ hS24.2.1)).trans hS24.2.1, (hb25.cell (World.block_lt_of_cell? _ _ hS24.2.2.1)).trans hS24.2.2.1, (hb25.cell (World.block_lt_of_cell? _ _ hS24.2.2.2)).trans hS24.2.2.2⟩
        have HCz25 := Aside0.mk (Kd.C_below HCz24.out hb25)
        have HBW25 := Aside0.mk (below_step HBW24.out hb25)
        have HCe25 := Aside0.mk (Kd.C_below HCe24.out hb25)
        refine hK.out _ _ hS25 (fun _ => ?_)
        clear hK K hb25 hS24
        refine norm_ (a' := ?_) ?_ ?_
        rotate_left
        ·try simp only [Act.put, putAll, List.setIfInBounds_toArray, List.set_cons_zero, List.set_cons_succ]
         rfl
        refine done_ (by kernel_rfl) ?_
        go_wp2_with fail
        go_roundg (l.length - (i + 1).toNat)
        case measure => rw [HG.out]; omega
        case rel => exact ⟨i + 1, by go_num, ⟨by omega, by omega, rfl⟩, ⟨HW.out.trans (HBW25.out.mono HW.out.size)⟩⟩
     ·obtain rfl : i = l.length := by omega
      go_wp2_with fail
      refine (works15_any _).mono ?_
      rintro e wz ⟨rfl, hbz⟩
      go_wp2_with fail
      go_ret
      exact ⟨rfl, below_step (below_step HB9.out HW.out) hbz⟩
end Go.Proofs.Ytdilbnggedidnaa.PVal
