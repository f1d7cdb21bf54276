import Derived.Test.YtdilbnggedidnaaGreatQ5
namespace Go.Proofs.YtdilbnggedidnaaGreat.PVal
open Go.RowKit Go.Shelf Go.Proofs.YtdilbnggedidnaaGreatW.PrintWords Go.Proofs.YtdilbnggedidnaaGreatW.PrintLast
set_option linter.unusedVariables false
set_option linter.unusedSimpArgs false
set_option maxRecDepth 100000
set_option maxHeartbeats 8000000
theorem rtext26_any (k : Int) (s : ByteArray) (w : World) : Calls Tryz.prog 26 #[.int .u8 k, .string s] w fun e w' => e = .returned (.agg #[.int .u8 k, .int .u64 0, .string s, .slice none 0 0]) ∧ Below w.heap.size w w' := by
  go_enter Tryz.func26, Tryz.ntmps26
  go_wp2_with fail
  exact bodyPost_ret (results_cell_row rfl _ _ w.heap.size 25 #[.int .u8 k, .int .u64 0, .string s, .slice none 0 0] (0, 0) _ rfl (blk_new _ _) Tryz.underlying25 rfl (by kernel_rfl)) rfl ⟨rfl, below_alloc (Below.refl _ _) _⟩
theorem results8 (tmps : Array Value) (w : World) (g : Nat) (cs : Array Value) (n : Int) (hcs : cs.size = 4) (hp : tmps.getD 2 undef = .pointer (some ⟨g, 0, none⟩)) (hg : Blk w g cs 25) (hb : tmps.getD 3 undef = .int .i64 n) :
    (results Tryz.f8 tmps).run Tryz.prog w = .ok (.tuple #[.agg cs, .int .i64 n]) w := by
  have h1 : tmps[2]?.getD undef = .pointer (some ⟨g, 0, none⟩) := by simpa using hp
  have h2 : tmps[3]?.getD undef = .int .i64 n := by simpa using hb
  have hi : (Tryz.prog.info? 25).map (·.size) = some cs.size := by rw [hcs]; kernel_rfl
  have hr := run_loadVar_row (P := Tryz.prog) w g 25 25 cs (0, 0) _ hg Tryz.underlying25 rfl hi
  simp [results, Tryz.f8, h1, h2, asAddr, hr]
theorem rput8_no (s : ByteArray) (hs : s.size ≤ 4294967290) (h : asciiB (bytesOf s) = false) (w : World) :
    Calls Tryz.prog 8 #[.string s] w (ValErr zVal 1 w) := by
  have kb := conv_run s
  have hb := bytesOf_length s
  have HBB := Aside0.mk hb
  have HT := Aside0.mk h
  clear hb h
  go_enter Tryz.func8, Tryz.ntmps8
  go_wp2_with fail
  refine (rascii125_any (bytesOf s) (by rw [HBB.out]; omega) _ _ _ ?_ ?_).mono ?_
  · have := conv_reads (w.alloc (.cells #[.int .u8 0, .int .u64 0, .string ⟨#[]⟩, .slice none 0 0] 25)) s hs
    rw [World.size_alloc] at this
    exact this
  · rw [HBB.out]; exact grownCap_ge _ _ _ _
  rintro e w2 ⟨he, hb⟩
  rw [HT.out] at he
  subst he
  have hbb := below_step (bytes_below (Below.refl _ _) (Nat.le_refl _) 5 s) hb
  have bR := (Blk.new w #[.int .u8 0, .int .u64 0, .string ⟨#[]⟩, .slice none 0 0] 25).below hbb
  have BR := Aside0.mk bR
  have HW : Aside0 (Below w.heap.size w w2) := ⟨below_step ((Below.refl _ _).alloc (Nat.le_refl _) _) hbb⟩
  clear hb hbb kb
  obtain ⟨q0, q1, q2, q3⟩ := bR.c4
  have f2 := bR.fz
  clear bR
  go_wp2_with fail
  refine bodyPost_ret (results8 _ _ w.heap.size #[.int .u8 0, .int .u64 0, .string ⟨#[]⟩, .slice none 0 0] 1 rfl rfl (put4_blk BR.out _ _ _ _) rfl) rfl ?_
  exact ⟨none, 0, rfl, Kd.R_nil _ _ _ _ _, put4_below HW.out (Nat.le_refl _) _ _ _ _⟩
theorem rput8_yes (s : ByteArray) (hs : s.size ≤ 4294967290) (h : asciiB (bytesOf s) = true) (w : World) :
    Calls Tryz.prog 8 #[.string s] w (ValErr (condV s) 0 w) := by
  have kb := conv_run s
  have hb := bytesOf_length s
  have HBB := Aside0.mk hb
  have HT := Aside0.mk h
  clear hb h
  go_enter Tryz.func8, Tryz.ntmps8
  go_wp2_with fail
  refine (rascii125_any (bytesOf s) (by rw [HBB.out]; omega) _ _ _ ?_ ?_).mono ?_
  · have := conv_reads (w.alloc (.cells #[.int .u8 0, .int .u64 0, .string ⟨#[]⟩, .slice none 0 0] 25)) s hs
    rw [World.size_alloc] at this
    exact this
  · rw [HBB.out]; exact grownCap_ge _ _ _ _
  rintro e w2 ⟨he, hb⟩
  rw [HT.out] at he
  subst he
  have hbb := below_step (bytes_below (Below.refl _ _) (Nat.le_refl _) 5 s) hb
  have bR := (Blk.new w #[.int .u8 0, .int .u64 0, .string ⟨#[]⟩, .slice none 0 0] 25).below hbb
  have BR := Aside0.mk bR
  have HW : Aside0 (Below w.heap.size w w2) := ⟨below_step ((Below.refl _ _).alloc (Nat.le_refl _) _) hbb⟩
  clear hb hbb kb
  clear bR
  cases hn : s.toList.isEmpty with
  | true =>
    have hs0 : s.toList = [] := by simpa using hn
    obtain rfl := nil_of_toList hs0
    clear hs0 hn
    go_wp2_with fail
    refine (rnull106_any _).mono ?_
    rintro e w3 ⟨rfl, hb3⟩
    have HW3 := Aside0.mk (below_step HW.out hb3)
    have bR3 := BR.out.below hb3
    have BR3 := Aside0.mk bR3
    obtain ⟨q0, q1, q2, q3⟩ := bR3.c4
    have f2 := bR3.fz
    clear hb3 bR3
    go_wp2_with fail
    have HZ : condV ⟨#[]⟩ = vNul := by unfold condV; rw [if_pos toList_nil]
    rw [HZ]
    refine bodyPost_ret (results8 _ _ w.heap.size #[.int .u8 1, .int .u64 0, .string ⟨#[]⟩, .slice none 0 0] 0 rfl rfl (put4_blk BR3.out _ _ _ _) rfl) rfl ?_
    exact ⟨none, 0, rfl, Kd.R_nil _ _ _ _ _, put4_below HW3.out (Nat.le_refl _) _ _ _ _⟩
  | false =>
    have hs0 : s.toList ≠ [] := by intro h; rw [h] at hn; cases hn
    have HC : Aside0 (condV s = putV 29 [symV s]) := ⟨by unfold condV; rw [if_neg hs0]⟩
    clear hs0
    go_wp2_with fail
    refine (rtext26_any 21 s _).mono ?_
    rintro e w3 ⟨rfl, hb3⟩
    have HW3 := Aside0.mk (below_step HW.out hb3)
    have BR3 := Aside0.mk (BR.out.below hb3)
    clear hb3
    go_wp2_with fail
    have bL := Blk.new w3 (flatK [⟨symV s, none, 0⟩]).toArray 25
    have hCL := C_lit (ks := [⟨symV s, none, 0⟩]) bL (by simp) (by
      intro q hq
      simp only [List.mem_cons, List.not_mem_nil, or_false] at hq
      rcases hq with rfl
      exact ⟨C_none _, Nat.le_refl _⟩)
    have hal := below_alloc (Below.refl w3.heap.size w3) (.cells #[.int .u8 21, .int .u64 0, .string s, .slice none 0 0] 25)
    refine (rput40_any 29 [symV s] (by simp [itemsL, symV, itemsN]) _ 1 _ hCL (by simp)).mono ?_
    rintro e w4 ⟨A4, c4, rfl, hR4, hb4⟩
    have hb34 := below_step hal hb4
    have HW4 := Aside0.mk (below_step HW3.out hb34)
    have bR4 := BR3.out.below hb34
    have BR4 := Aside0.mk bR4
    have HR4 := Aside0.mk hR4
    obtain ⟨q0, q1, q2, q3⟩ := bR4.c4
    have f2 := bR4.fz
    have hr3 := BR3.out.lt
    clear bL hCL hal hb4 hb34 hR4 bR4
    go_wp2_with fail
    refine bodyPost_ret (results8 _ _ w.heap.size #[.int .u8 25, .int .u64 0, .string ⟨#[]⟩, .slice A4 2 c4] 0 rfl rfl (put4_blk BR4.out _ _ _ _) rfl) rfl ?_
    refine ⟨A4, c4, by rw [HC.out]; rfl, ?_, put4_below HW4.out (Nat.le_refl _) _ _ _ _⟩
    rw [HC.out]
    exact put4_R HR4.out (by rw [World.size_alloc]; omega) (by rw [World.size_alloc]; omega) _ _ _ _
theorem rgetCond10_any (v : S25) (hs : itemsN v ≤ 4294967296) (ho : okV v) (A : Option Addr) (c : Nat) (w : World) (ha : k25.C w A v.f3.length v.f3) (hc : v.f3.length ≤ c) :
    Calls Tryz.prog 10 #[.agg #[.int .u8 v.f0, .int .u64 v.f1, .string v.f2, .slice A v.f3.length c]] w (CondErr v w) := by
  have HA := Aside0.mk ha
  have HO := Aside0.mk ho
  have bX := Blk.new w #[.int .u8 v.f0, .int .u64 v.f1, .string v.f2, .slice A v.f3.length c] 25
  have hal := below_alloc (Below.refl w.heap.size w) (.cells #[.int .u8 v.f0, .int .u64 v.f1, .string v.f2, .slice A v.f3.length c] 25)
  have HA1 := Aside0.mk (Kd.C_below ha hal)
  have HB1 := Aside0.mk hal
  clear ha ho hal
  by_cases h1 : v.f0 = 1
  · have HG : Aside0 (getCondF v = some ⟨#[]⟩) := ⟨by unfold getCondF; rw [if_pos h1]⟩
    have h1' : (v.f0 == 1) = true := by simpa using h1
    clear h1
    obtain ⟨p0, p1, p2, p3⟩ := bX.c4
    clear bX
    go_enter Tryz.func10, Tryz.ntmps10
    go_wp2_with fail
    go_ret2
    exact ⟨by rw [HG.out]; rfl, HB1.out⟩
  have h1' : (v.f0 == 1) = false := by simpa using h1
  have HN1 := Aside0.mk h1
  clear h1
  go_enter Tryz.func10, Tryz.ntmps10
  go_upto_region 1 with fail
  obtain ⟨b, eb⟩ : ∃ b, w.heap.size = b := ⟨_, rfl⟩
  obtain ⟨w1, e1⟩ : ∃ W, w.alloc (.cells #[.int .u8 v.f0, .int .u64 v.f1, .string v.f2, .slice A v.f3.length c] 25) = W := ⟨_, rfl⟩
  have EB := Aside0.mk eb
  rw [e1] at bX HA1 HB1 ⊢
  rw [eb] at bX ⊢
  clear e1 eb
  obtain ⟨p0, p1, p2, p3⟩ := bX.c4
  cases hnew : newF v 29 nmErr with
  | none =>
    have HG : Aside0 (getCondF v = none) := ⟨by unfold getCondF; rw [if_neg HN1.out, hnew]⟩
    have HN := Aside0.mk hnew
    clear hnew
    go_wp2_with fail
    refine (new45_no v hs HO.out 29 nmErr A c _ HA1.out hc HN.out).mono ?_
    rintro e w2 ⟨rfl, hb2⟩
    have HB2 := Aside0.mk (below_step HB1.out hb2)
    clear hb2 p0 p1 p2 p3 bX h1'
    go_wp2_with fail
    go_ret2
    exact ⟨by rw [HG.out]; rfl, HB2.out⟩
  | some l =>
    have HG : Aside0 (getCondF v = if doneN l (condSP l) 3 = 0 then some (tellP l 0 K21 (fun x => x.f2) ⟨#[]⟩) else none) := ⟨by unfold getCondF condSP; rw [if_neg HN1.out, hnew]⟩
    have HN := Aside0.mk hnew
    have hil := newF_items hnew
    have HKI : Aside0 (∀ x ∈ l, itemsN x ≤ 4294967296) := ⟨fun x hx => by have := itemsL_mem hx; omega⟩
    clear hnew hil
    go_wp2_with fail
    refine (new45_yes v hs HO.out 29 nmErr A c _ HA1.out hc HN.out).mono ?_
    rintro e w2 ⟨g, rfl, hg, hfs, hb2⟩
    have hgB2 := hfs.lt
    have HF2 := Aside0.mk hfs
    have HB2 := Aside0.mk (below_step HB1.out hb2)
    have hgB : w.heap.size ≤ g := by have := HB1.out.size; omega
    clear hb2 p0 p1 p2 p3 bX h1' hfs
    go_wp2_with fail
    refine (text81_any HF2.out (Nat.le_refl _) hgB2 0 21 true).mono ?_
    rintro e w3 ⟨rfl, hfs, hbg⟩
    have HF3 := Aside0.mk hfs
    have HB3 := Aside0.mk (below_bg HB2.out hbg hgB HB2.out.size)
    have hs3 := hbg.size
    clear hfs hbg
    go_wp2_with fail
    refine (text81_any HF3.out hs3 hgB2 1 20 false).mono ?_
    rintro e w4 ⟨rfl, hfs, hbg⟩
    have HF4 := Aside0.mk hfs
    have HB4 := Aside0.mk (below_bg HB3.out hbg hgB HB3.out.size)
    have hs4 := Nat.le_trans hs3 hbg.size
    clear hfs hbg
    go_upto_region 8 with fail
    go_wp2_with fail
    have bK := Blk.new w4 #[.int .u8 23] 5
    have hal5 := below_alloc (Below.refl w4.heap.size w4) (.cells #[.int .u8 23] 5)
    have HCK : Aside0 (Kd.C (Kd.int .u8) (w4.alloc (.cells #[.int .u8 23] 5)) (some ⟨w4.heap.size, 0, none⟩) [(23 : Int)].length [23]) := ⟨C_u8 bK⟩
    have HF5 := Aside0.mk (HF4.out.below hal5)
    have HB5 := Aside0.mk (below_step HB4.out hal5)
    have hs5 := Nat.le_trans hs4 hal5.size
    clear bK hal5
    refine (rvalue82_any HF5.out hs5 hgB2 HKI.out 2 [23] _ 1 HCK.out (by decide)).mono ?_
    rintro e w6 ⟨A6, c6, rfl, hR6, hfs, hbg⟩
    have HF6 := Aside0.mk hfs
    have HB6 := Aside0.mk (below_bg HB5.out hbg hgB HB5.out.size)
    clear hfs hbg hR6
    go_wp2_with fail
    refine (done49_any HF6.out 3).mono ?_
    rintro e w7 ⟨he, rfl⟩
    replace he : e = .returned (.int .i64 (doneN l (condSP l) 3)) := he
    rcases done_or l (condSP l) 3 with hd | hd
    · rw [if_pos hd] at HG
      rw [hd] at he
      subst he
      clear hd
      go_wp2_with fail
      go_ret2
      exact ⟨by rw [HG.out]; rfl, HB6.out⟩
    · rw [if_neg (by rw [hd]; decide)] at HG
      rw [hd] at he
      subst he
      clear hd
      go_wp2_with fail
      go_ret2
      exact ⟨by rw [HG.out]; rfl, HB6.out⟩
end Go.Proofs.YtdilbnggedidnaaGreat.PVal
