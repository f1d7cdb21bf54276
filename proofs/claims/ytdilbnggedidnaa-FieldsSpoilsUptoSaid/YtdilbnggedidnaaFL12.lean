import Derived.Test.YtdilbnggedidnaaFHOpenA
namespace Go.Proofs.Ytdilbnggedidnaa.PVal
open Go.RowKit Go.Shelf Go.Proofs.YtdilbnggedidnaaW.PrintWords Go.Proofs.YtdilbnggedidnaaW.PrintLast
set_option linter.unusedVariables false
set_option linter.unusedSimpArgs false
theorem Blk.c6 {W : World} {b : Nat} {a0 a1 a2 a3 a4 a5 : Value} {t : TypeId} (h : Blk W b #[a0, a1, a2, a3, a4, a5] t) : W.cell? ⟨b, 0, none⟩ = some a0 ∧ W.cell? ⟨b, 1, none⟩ = some a1 ∧ W.cell? ⟨b, 2, none⟩ = some a2 ∧ W.cell? ⟨b, 3, none⟩ = some a3 ∧ W.cell? ⟨b, 4, none⟩ = some a4 ∧ W.cell? ⟨b, 5, none⟩ = some a5 :=
 ⟨(blk_cell h 0).trans rfl, (blk_cell h 1).trans rfl, (blk_cell h 2).trans rfl, (blk_cell h 3).trans rfl, (blk_cell h 4).trans rfl, (blk_cell h 5).trans rfl⟩
theorem spoilT_none {l : List S25} {i : Int} (h : atF l i = none) (m : Bool) (P : S25 → Bool) : spoilP (trimL l) i m P = m := spoil_none (by rw [atF_trim]; exact h) m P
theorem spoilT_some {l : List S25} {i : Int} {x : S25} (h : atF l i = some x) (m : Bool) (P : S25 → Bool) : spoilP (trimL l) i m P = !P x := spoil_some (by rw [atF_trim]; exact h) m P
theorem doneT (l : List S25) (sp : Bool) (n : Nat) (h : n = l.length) : doneN (trimL l) sp n = if sp then 6 else 0 := by
 have hle := trimTo_le l l.length
 have hlen : (trimL l).length = trimTo l l.length := by unfold trimL; rw [List.length_take]; omega
 unfold doneN
 cases sp with
 | true => simp
 | false => rw [if_neg (by simp; omega)]; rfl
set_option maxRecDepth 100000 in
set_option maxHeartbeats 4000000 in
theorem spoils12_any (l : List S25) (xs : List Ask) (w : World) (hol : okL l) (A : Option Addr) (c : Nat) (ha : k25.C w A l.length l) (hc : l.length ≤ c) (A1 : Option Addr) (c1 : Nat) (hx : AskC w A1 xs) (hc1 : xs.length ≤ c1) (hb : itemsL l + textsL l ≤ 1048576) :
  Calls Try.prog 12 #[.slice A l.length c, .slice A1 xs.length c1] w fun e w' => e = .returned (.bool true) ∧ Below w.heap.size w w' := by
 have HA := Aside0.mk ha
 have HX := Aside0.mk hx
 have HOL := Aside0.mk hol
 have HNL := Aside0.mk hb
 have hll : l.length ≤ 1048576 := by have := itemsL_length l; omega
 have hpi : itemsN (putV 5 l) ≤ 1048580 := by have := itemsL_trim l; unfold putV; simp only [itemsN, itemsL]; omega
 clear ha hx hol
 go_enter Try.func12, Try.ntmps12
 go_wp2_with fail
 refine (put39_any 5 l (by omega) A c _ HA.out hc).mono ?_
 rintro e w2 ⟨A2, c2, rfl, hR2, hb2⟩
 have hal := below_alloc (Below.refl w2.heap.size w2) (.cells #[.int .u8 25, .int .u64 0, .string ⟨#[]⟩, .slice A2 2 c2] 25)
 have BV := Aside0.mk (Blk.new w2 #[.int .u8 25, .int .u64 0, .string ⟨#[]⟩, .slice A2 2 c2] 25)
 have HB2 := Aside0.mk (below_step hb2 hal)
 have HV := Aside0.mk (Kd.C_below (Kd.R_reads' hR2).2.2 hal)
 have hc2 := (Kd.R_reads' hR2).2.1
 have HPI := Aside0.mk hpi
 clear hR2 hb2 hal hpi
 go_wp2_with fail
 refine (large14_any l A c _ (Kd.C_below HA.out HB2.out) hc (by have := HNL.out; omega)).mono ?_
 rintro e w3 ⟨rfl, hb3⟩
 have BV3 := Aside0.mk (BV.out.below hb3)
 have HB3 := Aside0.mk (below_step HB2.out hb3)
 have HV3 := Aside0.mk (Kd.C_below HV.out hb3)
 clear hb3 BV HB2 HV
 cases hl : largeB l with
 | true =>
  go_wp2_with fail
  refine (works38_any _).mono ?_
  rintro e wz ⟨rfl, hbz⟩
  go_wp2_with fail
  go_ret
  exact ⟨rfl, below_step HB3.out hbz⟩
 | false =>
 clear hl
 obtain ⟨p0, p1, p2, p3⟩ := BV3.out.c4
 go_wp2_with fail
 refine (right17_any (putV 5 l) (by have := HPI.out; omega) (okV_put ⟨by omega, by omega⟩ HOL.out) A2 c2 _ HV3.out hc2).mono ?_
 rintro e w4 ⟨rfl, hb4⟩
 have BV4 := Aside0.mk (BV3.out.below hb4)
 have HB4 := Aside0.mk (below_step HB3.out hb4)
 have HV4 := Aside0.mk (Kd.C_below HV3.out hb4)
 clear hb4 BV3 HB3 HV3 p0 p1 p2 p3
 cases hr : rightB (putV 5 l) with
 | false =>
  go_wp2_with fail
  refine (works38_any _).mono ?_
  rintro e wz ⟨rfl, hbz⟩
  go_wp2_with fail
  go_ret
  exact ⟨rfl, below_step HB4.out hbz⟩
 | true =>
 have HR := Aside0.mk hr
 clear hr
 by_cases h60 : 60 < xs.length
 ·
  go_wp2_with fail
  refine (works38_any _).mono ?_
  rintro e wz ⟨rfl, hbz⟩
  go_wp2_with fail
  go_ret
  exact ⟨rfl, below_step HB4.out hbz⟩
 have h60' : xs.length ≤ 60 := by omega
 clear h60
 obtain ⟨p0, p1, p2, p3⟩ := BV4.out.c4
 go_wp2_with fail
 refine (new44_yes (putV 5 l) (by have := HPI.out; omega) (okV_put ⟨by omega, by omega⟩ HOL.out) 5 ⟨#[]⟩ A2 c2 _ HV4.out hc2 (l := trimL l) (by rw [newF_put, if_pos HR.out])).mono ?_
 rintro e w5 ⟨g, rfl, hg, hfs, hb5⟩
 have hq4 := HB4.out.size
 have hgl := hfs.lt
 have HS := Aside0.mk hfs
 have HB5 := Aside0.mk (below_step HB4.out hb5)
 clear hfs hb5 BV4 HV4 HB4 p0 p1 p2 p3
 go_wp2_with fail
 go_loopg [8, 9, 10, 11, 12] xs.length (fun gk v8 v9 v10 v11 v12 wr => ∃ (i : Nat) (sp : Bool), v8 = .bool sp ∧ v9 = .int .i64 (i : Int) ∧ Aside0 (i ≤ xs.length ∧ gk = xs.length - i) ∧ Aside0 (FS wr w4.heap.size g (trimL l) sp) ∧ Aside0 (Below w.heap.size w wr))
 case atStart => exact ⟨0, false, rfl, rfl, ⟨by omega, by omega⟩, HS, HB5⟩
 case round =>
  obtain ⟨i, sp, rfl, rfl, HI, HSi, HBi⟩ := hrel
  obtain ⟨hi1, hgk⟩ := HI.out
  have HG := Aside0.mk hgk
  clear HI hgk
  by_cases hlt : i < xs.length
  ·obtain ⟨ad1, eA1, hcs⟩ := (HX.out.below HBi.out) (by omega)
   cases eA1
   have hc6 := hcs i hlt
   clear hcs
   obtain ⟨q, eq⟩ : ∃ q, xs.getD i zAsk = q := ⟨_, rfl⟩
   rw [eq] at hc6
   clear eq
   obtain ⟨what, at_, kind, must, none_, K, nk, ck⟩ := q
   have x0 : wr.cell? (ad1.add (i * 6)) = some (.int .i64 what) := hc6 0 _ rfl
   have x1 : wr.cell? ⟨(ad1.add (i * 6)).block, (ad1.add (i * 6)).off + 1, none⟩ = some (.int .i64 at_) := by rw [← add_field _ _ 1 (by omega)]; exact hc6 1 _ rfl
   have x2 : wr.cell? ⟨(ad1.add (i * 6)).block, (ad1.add (i * 6)).off + 2, none⟩ = some (.int .u8 kind) := by rw [← add_field _ _ 2 (by omega)]; exact hc6 2 _ rfl
   have x3 : wr.cell? ⟨(ad1.add (i * 6)).block, (ad1.add (i * 6)).off + 3, none⟩ = some (.bool must) := by rw [← add_field _ _ 3 (by omega)]; exact hc6 3 _ rfl
   have x4 : wr.cell? ⟨(ad1.add (i * 6)).block, (ad1.add (i * 6)).off + 4, none⟩ = some (.int .u64 none_) := by rw [← add_field _ _ 4 (by omega)]; exact hc6 4 _ rfl
   have x5 : wr.cell? ⟨(ad1.add (i * 6)).block, (ad1.add (i * 6)).off + 5, none⟩ = some (.slice K nk ck) := by rw [← add_field _ _ 5 (by omega)]; exact hc6 5 _ rfl
   clear hc6
   have hi0 : (0 : Int) ≤ (i : Int) := by omega
   have hlt2 : (i : Int) < (xs.length : Int) := by omega
   have hgr := HSi.out.lt
   have hbg0 : wr.heap.size ≠ g := by omega
   by_cases h1 : what = 1
   ·subst h1
    have bX := Blk.new wr #[.int .i64 1, .int .i64 at_, .int .u8 kind, .bool must, .int .u64 none_, .slice K nk ck] 65
    have hal := below_alloc (Below.refl wr.heap.size wr) (.cells #[.int .i64 1, .int .i64 at_, .int .u8 kind, .bool must, .int .u64 none_, .slice K nk ck] 65)
    have HFb := Aside0.mk (HSi.out.below hal)
    have HBb := Aside0.mk (below_step HBi.out hal)
    clear hal
    go_upto_region 12 with fail
    obtain ⟨b, eb⟩ : ∃ b, wr.heap.size = b := ⟨_, rfl⟩
    obtain ⟨w6, e6⟩ : ∃ W, wr.alloc (.cells #[.int .i64 1, .int .i64 at_, .int .u8 kind, .bool must, .int .u64 none_, .slice K nk ck] 65) = W := ⟨_, rfl⟩
    rw [e6] at bX HFb HBb ⊢
    rw [eb] at bX hbg0 ⊢
    clear e6 eb x0 x1 x2 x3 x4 x5
    obtain ⟨p0, p1, p2, p3, p4, p5⟩ := bX.c6
    have BX6 := Aside0.mk bX
    clear bX
    obtain ⟨th, eth⟩ : ∃ th, (atF l at_).isSome = th := ⟨_, rfl⟩
    have ETH := Aside0.mk eth
    clear eth
    go_upto_region 16 with fail
    go_cut [12] from 63 to 82 (fun s12 wx => s12 = .bool th ∧ w6 = wx)
    case first =>
     rcases Classical.em (0 ≤ at_) with ha0 | ha0
     ·rcases Classical.em (at_ < (l.length : Int)) with ha1 | ha1
      ·obtain ⟨adl, Al, cl, eL, y0, _, _, _, _, _⟩ := at_T25 (Kd.C_below HA.out HBb.out) at_ ha0 ha1
       cases eL
       obtain ⟨x, ex⟩ : ∃ x, rd_T25 l at_ = x := ⟨_, rfl⟩
       rw [ex] at y0
       have hlen0 : at_.toNat < l.length := by omega
       cases hn : (x.f0 != 1) with
       | false =>
        have HT : Aside0 (th = false) := ⟨by rw [← ETH.out]; unfold atF; rw [if_pos ⟨ha0, ha1⟩, ex, if_pos (by simpa using hn)]; rfl⟩
        clear ex
        go_wp2_with fail
        go_meet
        exact ⟨by rw [HT.out], rfl⟩
       | true =>
        have HT : Aside0 (th = true) := ⟨by rw [← ETH.out]; unfold atF; rw [if_pos ⟨ha0, ha1⟩, ex, if_neg (by simpa using hn)]; rfl⟩
        clear ex
        go_wp2_with fail
        go_meet
        exact ⟨by rw [HT.out], rfl⟩
      ·have HT : Aside0 (th = false) := ⟨by rw [← ETH.out]; unfold atF; rw [if_neg (by omega)]; rfl⟩
       go_wp2_with fail
       go_meet
       exact ⟨by rw [HT.out], rfl⟩
     ·have HT : Aside0 (th = false) := ⟨by rw [← ETH.out]; unfold atF; rw [if_neg (by omega)]; rfl⟩
      go_wp2_with fail
      go_meet
      exact ⟨by rw [HT.out], rfl⟩
    case rest =>
     obtain ⟨rfl, rfl⟩ := hcut
     go_upto_region 17 with fail
     go_cut [8] from 82 to 104 (fun s8 wx => s8 = .bool (sp || spoilP (trimL l) at_ must (kindP [kind])) ∧ w6 = wx)
     case first =>
      cases sp with
      | true =>
       go_wp2_with fail
       go_meet
       exact ⟨rfl, rfl⟩
      | false =>
       cases th with
       | false =>
        have hat : atF l at_ = none := by
         have := ETH.out
         cases hq : atF l at_ with
         | none => rfl
         | some x => rw [hq] at this; cases this
        have HN := Aside0.mk (spoilT_none hat must (kindP [kind]))
        clear hat
        cases must with
        | true =>
         go_wp2_with fail
         go_meet
         exact ⟨by rw [HN.out]; rfl, rfl⟩
        | false =>
         go_wp2_with fail
         go_meet
         exact ⟨by rw [HN.out]; rfl, rfl⟩
       | true =>
        obtain ⟨x, hat⟩ : ∃ x, atF l at_ = some x := by
         have := ETH.out
         cases hq : atF l at_ with
         | none => rw [hq] at this; cases this
         | some x => exact ⟨x, rfl⟩
        have HN := Aside0.mk (spoilT_some hat must (kindP [kind]))
        obtain ⟨ha0, ha1, _, ex⟩ := atF_some hat
        obtain ⟨adl, Al, cl, eL, y0, _, _, _, _, _⟩ := at_T25 (Kd.C_below HA.out HBb.out) at_ ha0 ha1
        cases eL
        rw [ex] at y0
        have hlen0 : at_.toNat < l.length := by omega
        have hkx := kindP_one kind x
        clear ex hat
        cases hk : (x.f0 != kind) with
        | true =>
         have HK : Aside0 (kindP [kind] x = false) := ⟨by rw [hkx]; simpa using hk⟩
         clear hkx
         go_wp2_with fail
         go_meet
         exact ⟨by rw [HN.out, HK.out]; rfl, rfl⟩
        | false =>
         have HK : Aside0 (kindP [kind] x = true) := ⟨by rw [hkx]; simpa using hk⟩
         clear hkx
         go_wp2_with fail
         go_meet
         exact ⟨by rw [HN.out, HK.out]; rfl, rfl⟩
     case rest =>
      obtain ⟨rfl, rfl⟩ := hcut
      have HFx := HFb
      have HBx := HBb
      have BX := BX6
      have hbg : b ≠ g := hbg0
      go_wp2_with fail
      refine (does47_one HFx.out at_ kind must none_ K nk ck).mono ?_
      rintro e w7 ⟨⟨v7, rfl⟩, hfs, hbg7⟩
      have HF7 := Aside0.mk hfs
      have HB7 := Aside0.mk (below_bg HBx.out hbg7 (by omega) HBx.out.size)
      have BX7 := BX.out.bg hbg7 hbg
      clear hfs hbg7 BX p0 p1 p2 p3 p4 p5
      obtain ⟨p0, p1, p2, p3, p4, p5⟩ := BX7.c6
      go_wp2_with fail
      refine (does47_one HF7.out at_ kind must none_ K nk ck).mono ?_
      rintro e w8 ⟨⟨v8, rfl⟩, hfs, hbg8⟩
      rw [Bool.or_assoc, Bool.or_self] at hfs
      have HF8 := Aside0.mk hfs
      have HB8 := Aside0.mk (below_bg HB7.out hbg8 (by omega) HB7.out.size)
      clear hfs hbg8 BX7 p0 p1 p2 p3 p4 p5
      obtain ⟨sq, esq⟩ : ∃ q, (sp || spoilP (trimL l) at_ must (kindP [kind])) = q := ⟨_, rfl⟩
      rw [esq] at HF8 ⊢
      clear esq
      go_wp2_with fail
      refine (done43_any HF8.out _).mono ?_
      rintro e w9 ⟨he, rfl⟩
      rw [doneT l sq l.length rfl] at he
      cases sq with
      | true =>
       subst he
       go_wp2_with fail
       go_roundg (xs.length - (i + 1))
       case measure => rw [HG.out]; omega
       case rel => exact ⟨i + 1, true, rfl, by go_num, ⟨by omega, rfl⟩, HF8, HB8⟩
      | false =>
       subst he
       go_wp2_with fail
       go_roundg (xs.length - (i + 1))
       case measure => rw [HG.out]; omega
       case rel => exact ⟨i + 1, false, rfl, by go_num, ⟨by omega, rfl⟩, HF8, HB8⟩
   by_cases h3 : what = 3
   ·subst h3
    have bX := Blk.new wr #[.int .i64 3, .int .i64 at_, .int .u8 kind, .bool must, .int .u64 none_, .slice K nk ck] 65
    have hal := below_alloc (Below.refl wr.heap.size wr) (.cells #[.int .i64 3, .int .i64 at_, .int .u8 kind, .bool must, .int .u64 none_, .slice K nk ck] 65)
    have HFb := Aside0.mk (HSi.out.below hal)
    have HBb := Aside0.mk (below_step HBi.out hal)
    clear hal
    go_upto_region 12 with fail
    obtain ⟨b, eb⟩ : ∃ b, wr.heap.size = b := ⟨_, rfl⟩
    obtain ⟨w6, e6⟩ : ∃ W, wr.alloc (.cells #[.int .i64 3, .int .i64 at_, .int .u8 kind, .bool must, .int .u64 none_, .slice K nk ck] 65) = W := ⟨_, rfl⟩
    rw [e6] at bX HFb HBb ⊢
    rw [eb] at bX hbg0 ⊢
    clear e6 eb x0 x1 x2 x3 x4 x5
    obtain ⟨p0, p1, p2, p3, p4, p5⟩ := bX.c6
    have BX6 := Aside0.mk bX
    clear bX
    obtain ⟨th, eth⟩ : ∃ th, (atF l at_).isSome = th := ⟨_, rfl⟩
    have ETH := Aside0.mk eth
    clear eth
    go_upto_region 16 with fail
    go_cut [12] from 63 to 82 (fun s12 wx => s12 = .bool th ∧ w6 = wx)
    case first =>
     rcases Classical.em (0 ≤ at_) with ha0 | ha0
     ·rcases Classical.em (at_ < (l.length : Int)) with ha1 | ha1
      ·obtain ⟨adl, Al, cl, eL, y0, _, _, _, _, _⟩ := at_T25 (Kd.C_below HA.out HBb.out) at_ ha0 ha1
       cases eL
       obtain ⟨x, ex⟩ : ∃ x, rd_T25 l at_ = x := ⟨_, rfl⟩
       rw [ex] at y0
       have hlen0 : at_.toNat < l.length := by omega
       cases hn : (x.f0 != 1) with
       | false =>
        have HT : Aside0 (th = false) := ⟨by rw [← ETH.out]; unfold atF; rw [if_pos ⟨ha0, ha1⟩, ex, if_pos (by simpa using hn)]; rfl⟩
        clear ex
        go_wp2_with fail
        go_meet
        exact ⟨by rw [HT.out], rfl⟩
       | true =>
        have HT : Aside0 (th = true) := ⟨by rw [← ETH.out]; unfold atF; rw [if_pos ⟨ha0, ha1⟩, ex, if_neg (by simpa using hn)]; rfl⟩
        clear ex
        go_wp2_with fail
        go_meet
        exact ⟨by rw [HT.out], rfl⟩
      ·have HT : Aside0 (th = false) := ⟨by rw [← ETH.out]; unfold atF; rw [if_neg (by omega)]; rfl⟩
       go_wp2_with fail
       go_meet
       exact ⟨by rw [HT.out], rfl⟩
     ·have HT : Aside0 (th = false) := ⟨by rw [← ETH.out]; unfold atF; rw [if_neg (by omega)]; rfl⟩
      go_wp2_with fail
      go_meet
      exact ⟨by rw [HT.out], rfl⟩
    case rest =>
     obtain ⟨rfl, rfl⟩ := hcut
     go_upto_region 17 with fail
     go_cut [8] from 82 to 104 (fun s8 wx => s8 = .bool (sp || spoilP (trimL l) at_ must (kindP [kind])) ∧ w6 = wx)
     case first =>
      cases sp with
      | true =>
       go_wp2_with fail
       go_meet
       exact ⟨rfl, rfl⟩
      | false =>
       cases th with
       | false =>
        have hat : atF l at_ = none := by
         have := ETH.out
         cases hq : atF l at_ with
         | none => rfl
         | some x => rw [hq] at this; cases this
        have HN := Aside0.mk (spoilT_none hat must (kindP [kind]))
        clear hat
        cases must with
        | true =>
         go_wp2_with fail
         go_meet
         exact ⟨by rw [HN.out]; rfl, rfl⟩
        | false =>
         go_wp2_with fail
         go_meet
         exact ⟨by rw [HN.out]; rfl, rfl⟩
       | true =>
        obtain ⟨x, hat⟩ : ∃ x, atF l at_ = some x := by
         have := ETH.out
         cases hq : atF l at_ with
         | none => rw [hq] at this; cases this
         | some x => exact ⟨x, rfl⟩
        have HN := Aside0.mk (spoilT_some hat must (kindP [kind]))
        obtain ⟨ha0, ha1, _, ex⟩ := atF_some hat
        obtain ⟨adl, Al, cl, eL, y0, _, _, _, _, _⟩ := at_T25 (Kd.C_below HA.out HBb.out) at_ ha0 ha1
        cases eL
        rw [ex] at y0
        have hlen0 : at_.toNat < l.length := by omega
        have hkx := kindP_one kind x
        clear ex hat
        cases hk : (x.f0 != kind) with
        | true =>
         have HK : Aside0 (kindP [kind] x = false) := ⟨by rw [hkx]; simpa using hk⟩
         clear hkx
         go_wp2_with fail
         go_meet
         exact ⟨by rw [HN.out, HK.out]; rfl, rfl⟩
        | false =>
         have HK : Aside0 (kindP [kind] x = true) := ⟨by rw [hkx]; simpa using hk⟩
         clear hkx
         go_wp2_with fail
         go_meet
         exact ⟨by rw [HN.out, HK.out]; rfl, rfl⟩
     case rest =>
      obtain ⟨rfl, rfl⟩ := hcut
      have HFx := HFb
      have HBx := HBb
      have BX := BX6
      have hbg : b ≠ g := hbg0
      go_wp2_with fail
      refine (does47_three HFx.out at_ kind must none_ K nk ck).mono ?_
      rintro e w7 ⟨⟨v7, rfl⟩, hfs, hbg7⟩
      have HF7 := Aside0.mk hfs
      have HB7 := Aside0.mk (below_bg HBx.out hbg7 (by omega) HBx.out.size)
      have BX7 := BX.out.bg hbg7 hbg
      clear hfs hbg7 BX p0 p1 p2 p3 p4 p5
      obtain ⟨p0, p1, p2, p3, p4, p5⟩ := BX7.c6
      go_wp2_with fail
      refine (does47_three HF7.out at_ kind must none_ K nk ck).mono ?_
      rintro e w8 ⟨⟨v8, rfl⟩, hfs, hbg8⟩
      rw [Bool.or_assoc, Bool.or_self] at hfs
      have HF8 := Aside0.mk hfs
      have HB8 := Aside0.mk (below_bg HB7.out hbg8 (by omega) HB7.out.size)
      clear hfs hbg8 BX7 p0 p1 p2 p3 p4 p5
      obtain ⟨sq, esq⟩ : ∃ q, (sp || spoilP (trimL l) at_ must (kindP [kind])) = q := ⟨_, rfl⟩
      rw [esq] at HF8 ⊢
      clear esq
      go_wp2_with fail
      refine (done43_any HF8.out _).mono ?_
      rintro e w9 ⟨he, rfl⟩
      rw [doneT l sq l.length rfl] at he
      cases sq with
      | true =>
       subst he
       go_wp2_with fail
       go_roundg (xs.length - (i + 1))
       case measure => rw [HG.out]; omega
       case rel => exact ⟨i + 1, true, rfl, by go_num, ⟨by omega, rfl⟩, HF8, HB8⟩
      | false =>
       subst he
       go_wp2_with fail
       go_roundg (xs.length - (i + 1))
       case measure => rw [HG.out]; omega
       case rel => exact ⟨i + 1, false, rfl, by go_num, ⟨by omega, rfl⟩, HF8, HB8⟩
   by_cases h2 : what = 2
   ·subst h2
    have bX := Blk.new wr #[.int .i64 2, .int .i64 at_, .int .u8 kind, .bool must, .int .u64 none_, .slice K nk ck] 65
    have hal := below_alloc (Below.refl wr.heap.size wr) (.cells #[.int .i64 2, .int .i64 at_, .int .u8 kind, .bool must, .int .u64 none_, .slice K nk ck] 65)
    have HFb := Aside0.mk (HSi.out.below hal)
    have HBb := Aside0.mk (below_step HBi.out hal)
    clear hal
    go_upto_region 12 with fail
    obtain ⟨b, eb⟩ : ∃ b, wr.heap.size = b := ⟨_, rfl⟩
    obtain ⟨w6, e6⟩ : ∃ W, wr.alloc (.cells #[.int .i64 2, .int .i64 at_, .int .u8 kind, .bool must, .int .u64 none_, .slice K nk ck] 65) = W := ⟨_, rfl⟩
    rw [e6] at bX HFb HBb ⊢
    rw [eb] at bX hbg0 ⊢
    clear e6 eb x0 x1 x2 x3 x4 x5
    obtain ⟨p0, p1, p2, p3, p4, p5⟩ := bX.c6
    have BX6 := Aside0.mk bX
    clear bX
    obtain ⟨th, eth⟩ : ∃ th, (atF l at_).isSome = th := ⟨_, rfl⟩
    have ETH := Aside0.mk eth
    clear eth
    go_upto_region 16 with fail
    go_cut [12] from 63 to 82 (fun s12 wx => s12 = .bool th ∧ w6 = wx)
    case first =>
     rcases Classical.em (0 ≤ at_) with ha0 | ha0
     ·rcases Classical.em (at_ < (l.length : Int)) with ha1 | ha1
      ·obtain ⟨adl, Al, cl, eL, y0, _, _, _, _, _⟩ := at_T25 (Kd.C_below HA.out HBb.out) at_ ha0 ha1
       cases eL
       obtain ⟨x, ex⟩ : ∃ x, rd_T25 l at_ = x := ⟨_, rfl⟩
       rw [ex] at y0
       have hlen0 : at_.toNat < l.length := by omega
       cases hn : (x.f0 != 1) with
       | false =>
        have HT : Aside0 (th = false) := ⟨by rw [← ETH.out]; unfold atF; rw [if_pos ⟨ha0, ha1⟩, ex, if_pos (by simpa using hn)]; rfl⟩
        clear ex
        go_wp2_with fail
        go_meet
        exact ⟨by rw [HT.out], rfl⟩
       | true =>
        have HT : Aside0 (th = true) := ⟨by rw [← ETH.out]; unfold atF; rw [if_pos ⟨ha0, ha1⟩, ex, if_neg (by simpa using hn)]; rfl⟩
        clear ex
        go_wp2_with fail
        go_meet
        exact ⟨by rw [HT.out], rfl⟩
      ·have HT : Aside0 (th = false) := ⟨by rw [← ETH.out]; unfold atF; rw [if_neg (by omega)]; rfl⟩
       go_wp2_with fail
       go_meet
       exact ⟨by rw [HT.out], rfl⟩
     ·have HT : Aside0 (th = false) := ⟨by rw [← ETH.out]; unfold atF; rw [if_neg (by omega)]; rfl⟩
      go_wp2_with fail
      go_meet
      exact ⟨by rw [HT.out], rfl⟩
    case rest =>
     obtain ⟨rfl, rfl⟩ := hcut
     go_upto_region 17 with fail
     go_cut [8] from 82 to 104 (fun s8 wx => s8 = .bool (sp || spoilP (trimL l) at_ must (kindP [2])) ∧ w6 = wx)
     case first =>
      cases sp with
      | true =>
       go_wp2_with fail
       go_meet
       exact ⟨rfl, rfl⟩
      | false =>
       cases th with
       | false =>
        have hat : atF l at_ = none := by
         have := ETH.out
         cases hq : atF l at_ with
         | none => rfl
         | some x => rw [hq] at this; cases this
        have HN := Aside0.mk (spoilT_none hat must (kindP [2]))
        clear hat
        cases must with
        | true =>
         go_wp2_with fail
         go_meet
         exact ⟨by rw [HN.out]; rfl, rfl⟩
        | false =>
         go_wp2_with fail
         go_meet
         exact ⟨by rw [HN.out]; rfl, rfl⟩
       | true =>
        obtain ⟨x, hat⟩ : ∃ x, atF l at_ = some x := by
         have := ETH.out
         cases hq : atF l at_ with
         | none => rw [hq] at this; cases this
         | some x => exact ⟨x, rfl⟩
        have HN := Aside0.mk (spoilT_some hat must (kindP [2]))
        obtain ⟨ha0, ha1, _, ex⟩ := atF_some hat
        obtain ⟨adl, Al, cl, eL, y0, _, _, _, _, _⟩ := at_T25 (Kd.C_below HA.out HBb.out) at_ ha0 ha1
        cases eL
        rw [ex] at y0
        have hlen0 : at_.toNat < l.length := by omega
        have hkx := kindP_one 2 x
        clear ex hat
        cases hk : (x.f0 != 2) with
        | true =>
         have HK : Aside0 (kindP [2] x = false) := ⟨by rw [hkx]; simpa using hk⟩
         clear hkx
         go_wp2_with fail
         go_meet
         exact ⟨by rw [HN.out, HK.out]; rfl, rfl⟩
        | false =>
         have HK : Aside0 (kindP [2] x = true) := ⟨by rw [hkx]; simpa using hk⟩
         clear hkx
         go_wp2_with fail
         go_meet
         exact ⟨by rw [HN.out, HK.out]; rfl, rfl⟩
     case rest =>
      obtain ⟨rfl, rfl⟩ := hcut
      have HFx := HFb
      have HBx := HBb
      have BX := BX6
      have hbg : b ≠ g := hbg0
      go_wp2_with fail
      refine (does47_two HFx.out at_ kind must none_ K nk ck).mono ?_
      rintro e w7 ⟨⟨v7, rfl⟩, hfs, hbg7⟩
      have HF7 := Aside0.mk hfs
      have HB7 := Aside0.mk (below_bg HBx.out hbg7 (by omega) HBx.out.size)
      have BX7 := BX.out.bg hbg7 hbg
      clear hfs hbg7 BX p0 p1 p2 p3 p4 p5
      obtain ⟨p0, p1, p2, p3, p4, p5⟩ := BX7.c6
      go_wp2_with fail
      refine (does47_two HF7.out at_ kind must none_ K nk ck).mono ?_
      rintro e w8 ⟨⟨v8, rfl⟩, hfs, hbg8⟩
      rw [Bool.or_assoc, Bool.or_self] at hfs
      have HF8 := Aside0.mk hfs
      have HB8 := Aside0.mk (below_bg HB7.out hbg8 (by omega) HB7.out.size)
      clear hfs hbg8 BX7 p0 p1 p2 p3 p4 p5
      obtain ⟨sq, esq⟩ : ∃ q, (sp || spoilP (trimL l) at_ must (kindP [2])) = q := ⟨_, rfl⟩
      rw [esq] at HF8 ⊢
      clear esq
      go_wp2_with fail
      refine (done43_any HF8.out _).mono ?_
      rintro e w9 ⟨he, rfl⟩
      rw [doneT l sq l.length rfl] at he
      cases sq with
      | true =>
       subst he
       go_wp2_with fail
       go_roundg (xs.length - (i + 1))
       case measure => rw [HG.out]; omega
       case rel => exact ⟨i + 1, true, rfl, by go_num, ⟨by omega, rfl⟩, HF8, HB8⟩
      | false =>
       subst he
       go_wp2_with fail
       go_roundg (xs.length - (i + 1))
       case measure => rw [HG.out]; omega
       case rel => exact ⟨i + 1, false, rfl, by go_num, ⟨by omega, rfl⟩, HF8, HB8⟩
   have k1 : (what != 1) = true := by simp [h1]
   have k3 : (what != 3) = true := by simp [h3]
   have k2 : (what != 2) = true := by simp [h2]
   clear h1 h2 h3 hbg0
   have hal := below_alloc (Below.refl wr.heap.size wr) (.cells #[.int .i64 what, .int .i64 at_, .int .u8 kind, .bool must, .int .u64 none_, .slice K nk ck] 65)
   have bX := Blk.new wr #[.int .i64 what, .int .i64 at_, .int .u8 kind, .bool must, .int .u64 none_, .slice K nk ck] 65
   have HFb := Aside0.mk (HSi.out.below hal)
   have HBb := Aside0.mk (below_step HBi.out hal)
   clear hal
   go_upto_region 12 with fail
   obtain ⟨b, eb⟩ : ∃ b, wr.heap.size = b := ⟨_, rfl⟩
   obtain ⟨w6, e6⟩ : ∃ W, wr.alloc (.cells #[.int .i64 what, .int .i64 at_, .int .u8 kind, .bool must, .int .u64 none_, .slice K nk ck] 65) = W := ⟨_, rfl⟩
   rw [e6] at bX HFb HBb ⊢
   rw [eb] at bX ⊢
   clear e6 eb x0 x1 x2 x3 x4 x5
   obtain ⟨p0, p1, p2, p3, p4, p5⟩ := bX.c6
   go_wp2_with fail
   go_roundg (xs.length - (i + 1))
   case measure => rw [HG.out]; omega
   case rel => exact ⟨i + 1, sp, rfl, by go_num, ⟨by omega, rfl⟩, HFb, HBb⟩
  ·obtain rfl : i = xs.length := by omega
   go_wp2_with fail
   refine (spoil50_any HSi.out).mono ?_
   rintro e w6 ⟨rfl, hfs, hbg⟩
   have HS6 := Aside0.mk hfs
   have HB6 := Aside0.mk (below_bg HBi.out hbg (by omega) HBi.out.size)
   clear hfs hbg
   go_wp2_with fail
   refine (done43_any HS6.out _).mono ?_
   rintro e w7 ⟨he, rfl⟩
   rw [show ∀ n : Int, doneN (trimL l) true n = 6 from fun n => if_pos (.inl rfl)] at he
   subst he
   go_wp2_with fail
   refine (works38_any _).mono ?_
   rintro e wz ⟨rfl, hbz⟩
   go_wp2_with fail
   go_ret
   exact ⟨rfl, below_step HB6.out hbz⟩
end Go.Proofs.Ytdilbnggedidnaa.PVal
