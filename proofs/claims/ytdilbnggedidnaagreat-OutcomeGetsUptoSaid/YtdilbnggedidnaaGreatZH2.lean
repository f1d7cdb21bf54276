import Derived.Test.YtdilbnggedidnaaGreatZH1
namespace Go.Proofs.YtdilbnggedidnaaGreat.PVal
open Go.RowKit Go.Shelf Go.Proofs.YtdilbnggedidnaaGreatW.PrintWords Go.Proofs.YtdilbnggedidnaaGreatW.PrintLast
set_option linter.unusedVariables false
set_option linter.unusedSimpArgs false
set_option maxRecDepth 100000
set_option maxHeartbeats 8000000
theorem results14 (tmps : Array Value) (w : World) (g : Nat) (cs : Array Value) (n : Int) (hcs : cs.size = 4) (hp : tmps.getD 2 undef = .pointer (some ⟨g, 0, none⟩)) (hg : Blk w g cs 37) (hb : tmps.getD 3 undef = .int .i64 n) :
    (results Tryz.f14 tmps).run Tryz.prog w = .ok (.tuple #[.agg cs, .int .i64 n]) w := by
  have h1 : tmps[2]?.getD undef = .pointer (some ⟨g, 0, none⟩) := by simpa using hp
  have h2 : tmps[3]?.getD undef = .int .i64 n := by simpa using hb
  have hi : (Tryz.prog.info? 37).map (·.size) = some cs.size := by rw [hcs]; kernel_rfl
  have hr := run_loadVar_row (P := Tryz.prog) w g 37 37 cs (0, 0) _ hg Tryz.underlying37 rfl hi
  simp [results, Tryz.f14, h1, h2, asAddr, hr]
def nmsC : Array Value := #[.string ⟨#[114, 101, 99, 101, 105, 118, 101, 100]⟩, .string ⟨#[97, 99, 99, 101, 112, 116, 101, 100]⟩, .string ⟨#[114, 101, 106, 101, 99, 116, 101, 100]⟩, .string ⟨#[114, 101, 108, 101, 97, 115, 101, 100]⟩, .string ⟨#[109, 111, 100, 105, 102, 105, 101, 100]⟩]
def RGetS (w : World) (v : S25) (A : Option Addr) (c : Nat) (b0 b1 bN : Nat) (wr : World) : Prop := Blk wr b0 #[.int .u8 v.f0, .int .u64 v.f1, .string v.f2, .slice A v.f3.length c] 25 ∧ Blk wr b1 #[.int .u8 0, .int .u64 0, .int .u64 0, .string ⟨#[]⟩] 37 ∧ Blk wr bN nmsC 9 ∧ k25.C wr A v.f3.length v.f3 ∧ Below w.heap.size w wr
theorem RGetS.below {w : World} {v : S25} {A : Option Addr} {c b0 b1 bN : Nat} {wr wx : World} (h : RGetS w v A c b0 b1 bN wr) (hb : Below wr.heap.size wr wx) : RGetS w v A c b0 b1 bN wx := ⟨h.1.below hb, h.2.1.below hb, h.2.2.1.below hb, Kd.C_below h.2.2.2.1 hb, below_step h.2.2.2.2 hb⟩
theorem rget14_any (v : S25) (hs : itemsN v ≤ 4294967296) (ho : okV v) (A : Option Addr) (c : Nat) (w : World) (ha : k25.C w A v.f3.length v.f3) (hc : v.f3.length ≤ c) :
    Calls Tryz.prog 14 #[.agg #[.int .u8 v.f0, .int .u64 v.f1, .string v.f2, .slice A v.f3.length c]] w (OutErr (getOF v) w) := by
  have HOK := Aside0.mk ho
  have hal := below_alloc (below_alloc (Below.refl w.heap.size w) (.cells #[.int .u8 v.f0, .int .u64 v.f1, .string v.f2, .slice A v.f3.length c] 25)) (.cells #[.int .u8 0, .int .u64 0, .int .u64 0, .string ⟨#[]⟩] 37)
  have bV := (Blk.new w #[.int .u8 v.f0, .int .u64 v.f1, .string v.f2, .slice A v.f3.length c] 25).alloc (.cells #[.int .u8 0, .int .u64 0, .int .u64 0, .string ⟨#[]⟩] 37)
  have bR := Blk.new (w.alloc (.cells #[.int .u8 v.f0, .int .u64 v.f1, .string v.f2, .slice A v.f3.length c] 25)) #[.int .u8 0, .int .u64 0, .int .u64 0, .string ⟨#[]⟩] 37
  rw [World.size_alloc] at bR
  have HA1 := Aside0.mk (Kd.C_below ha hal)
  clear ho ha
  go_enter Tryz.func14, Tryz.ntmps14
  go_upto_region 1 with fail
  obtain ⟨w1, e1⟩ : ∃ W, (w.alloc (.cells #[.int .u8 v.f0, .int .u64 v.f1, .string v.f2, .slice A v.f3.length c] 25)).alloc (.cells #[.int .u8 0, .int .u64 0, .int .u64 0, .string ⟨#[]⟩] 37) = W := ⟨_, rfl⟩
  rw [e1] at bV bR hal HA1 ⊢
  clear e1
  have HB1 := Aside0.mk hal
  have BR1 := Aside0.mk bR
  have BV1 := Aside0.mk bV
  obtain ⟨p0, p1, p2, p3⟩ := bV.c4
  clear hal
  by_cases h1 : v.f0 = 1
  · have HGF : Aside0 (getOF v = some zOut) := ⟨by unfold getOF; rw [if_pos h1]⟩
    have h1' : (v.f0 == 1) = true := by simpa using h1
    clear h1 bV
    obtain ⟨q0, q1, q2, q3⟩ := bR.c4
    have f2 := bR.fz
    clear bR
    go_wp2_with fail
    refine bodyPost_ret (results14 _ _ (w.heap.size + 1) #[.int .u8 0, .int .u64 0, .int .u64 0, .string ⟨#[]⟩] 0 rfl rfl (put4_any BR1.out _ _ _ _) rfl) rfl ?_
    exact ⟨by rw [HGF.out]; rfl, below_set4 HB1.out (by omega)⟩
  have HG0 : Aside0 (getOF v = getFrom v (5 - (0 : Int)).toNat (1 + 0)) := ⟨by unfold getOF; rw [if_neg h1]; rfl⟩
  have h1' : (v.f0 == 1) = false := by simpa using h1
  clear h1 bV bR
  go_upto_region 4 with fail
  clear p0 p1 p2 p3 h1'
  have hal4 := below_alloc (Below.refl w1.heap.size w1) (.cells #[.string ⟨#[114, 101, 99, 101, 105, 118, 101, 100]⟩, .string ⟨#[97, 99, 99, 101, 112, 116, 101, 100]⟩, .string ⟨#[114, 101, 106, 101, 99, 116, 101, 100]⟩, .string ⟨#[114, 101, 108, 101, 97, 115, 101, 100]⟩, .string ⟨#[109, 111, 100, 105, 102, 105, 101, 100]⟩] 9)
  have HS3 : Aside0 (RGetS w v A c w.heap.size (w.heap.size + 1) w1.heap.size (w1.alloc (.cells #[.string ⟨#[114, 101, 99, 101, 105, 118, 101, 100]⟩, .string ⟨#[97, 99, 99, 101, 112, 116, 101, 100]⟩, .string ⟨#[114, 101, 106, 101, 99, 116, 101, 100]⟩, .string ⟨#[114, 101, 108, 101, 97, 115, 101, 100]⟩, .string ⟨#[109, 111, 100, 105, 102, 105, 101, 100]⟩] 9))) := ⟨BV1.out.below hal4, BR1.out.below hal4, Blk.new w1 nmsC 9, Kd.C_below HA1.out hal4, below_step HB1.out hal4⟩
  obtain ⟨bN, ebN⟩ : ∃ b, w1.heap.size = b := ⟨_, rfl⟩
  obtain ⟨w2, e2⟩ : ∃ W, w1.alloc (.cells #[.string ⟨#[114, 101, 99, 101, 105, 118, 101, 100]⟩, .string ⟨#[97, 99, 99, 101, 112, 116, 101, 100]⟩, .string ⟨#[114, 101, 106, 101, 99, 116, 101, 100]⟩, .string ⟨#[114, 101, 108, 101, 97, 115, 101, 100]⟩, .string ⟨#[109, 111, 100, 105, 102, 105, 101, 100]⟩] 9) = W := ⟨_, rfl⟩
  obtain ⟨b0, eb0⟩ : ∃ b, w.heap.size = b := ⟨_, rfl⟩
  obtain ⟨b1, eb1⟩ : ∃ b, w.heap.size + 1 = b := ⟨_, rfl⟩
  rw [e2, ebN, eb1, eb0] at HS3
  rw [e2, ebN, eb1, eb0]
  have hw0 : w.heap.size ≤ b0 ∧ w.heap.size ≤ b1 := by omega
  clear e2 ebN eb0 eb1 hal4 BV1 BR1 HB1 HA1
  go_wp2_with fail
  go_loopg [5, 6, 7, 8, 9, 10, 11, 21] 5 (fun gk v5 v6 v7 v8 v9 v10 v11 v21 wr => ∃ i : Int, v5 = .int .i64 i ∧ Aside0 (0 ≤ i ∧ i ≤ 5 ∧ gk = (5 - i).toNat) ∧ Aside0 (getOF v = getFrom v (5 - i).toNat (1 + i)) ∧ Aside0 (RGetS w v A c b0 b1 bN wr))
  case atStart => exact ⟨0, rfl, ⟨by omega, by omega, rfl⟩, HG0, HS3⟩
  case round =>
    obtain ⟨i, rfl, HI, HGF, HSi⟩ := hrel
    obtain ⟨hi0, hi5, hgk⟩ := HI.out
    have HG := Aside0.mk hgk
    clear HI hgk
    by_cases hi : i = 0
    · subst hi
      go_upto_region 7 with fail
      cases hnew : newF v 35 nmO1 with
      | none =>
        have HNs := Aside0.mk hnew
        have HGn : Aside0 (getOF v = getFrom v (5 - (1 : Int)).toNat (1 + 1)) := ⟨HGF.out.trans (getFrom_none (n := 4) (k := 1) hnew)⟩
        clear hnew
        refine start_ (n := 16) (S := fun w' => Blk w' b0 #[.int .u8 v.f0, .int .u64 v.f1, .string v.f2, .slice A v.f3.length c] 25 ∧ Blk w' bN nmsC 9) (ds := []) #[false, false, false, false, false, false, false, false, false, false, false, false, false, false, false, false] (by kernel_rfl) rfl rfl ⟨HSi.out.1, HSi.out.2.2.1⟩ (fun hS => ?_)
        replace HSi := Aside0.mk ((HSi.out).below (below_drew (Below.refl _ _)))
        generalize wr.drew = wd1 at HSi hS ⊢
        refine take_ (i := 0) (N := some 22) (v := .agg #[.int .u8 v.f0, .int .u64 v.f1, .string v.f2, .slice A v.f3.length c]) #[true, false, false, false, false, false, false, false, false, false, false, false, false, false, false, false] rfl rfl (by kernel_rfl) (fun _ _ _ h => h) (Or.inl ⟨by rfl, ?_⟩) hS rfl ?_
        · rintro w' ⟨h0, h1⟩
          obtain ⟨e0, e1, e2, e3⟩ := h0.c4
          go_simp
        refine norm_ (a' := ?_) ?_ ?_
        rotate_left
        · try simp only [Act.put, putAll, List.setIfInBounds_toArray, List.set_cons_zero, List.set_cons_succ]
          rfl
        refine pure_ (i := 1) (N := some 23) (v := ?_) (a' := ?_) #[true, true, false, false, false, false, false, false, false, false, false, false, false, false, false, false] rfl rfl (by kernel_rfl) (fun _ _ _ h => h) (Or.inl ⟨by rfl, ?_⟩) ?_ ?_
        rotate_left
        · intro w'
          go_simp
          with_reducible rfl
        rotate_left
        · simp only [Act.put, List.setIfInBounds_toArray, List.set_cons_zero, List.set_cons_succ, i64_w, i32_w]
          rfl
        refine pure_ (i := 2) (N := some 24) (v := ?_) (a' := ?_) #[true, true, true, false, false, false, false, false, false, false, false, false, false, false, false, false] rfl rfl (by kernel_rfl) (fun _ _ _ h => h) (Or.inl ⟨by rfl, ?_⟩) ?_ ?_
        rotate_left
        · intro w'
          go_simp
          with_reducible rfl
        rotate_left
        · simp only [Act.put, List.setIfInBounds_toArray, List.set_cons_zero, List.set_cons_succ, i64_w, i32_w]
          rfl
        refine pure_ (i := 3) (N := some 25) (v := ?_) (a' := ?_) #[true, true, true, true, false, false, false, false, false, false, false, false, false, false, false, false] rfl rfl (by kernel_rfl) (fun _ _ _ h => h) (Or.inl ⟨by rfl, ?_⟩) ?_ ?_
        rotate_left
        · intro w'
          go_simp
          with_reducible rfl
        rotate_left
        · simp only [Act.put, List.setIfInBounds_toArray, List.set_cons_zero, List.set_cons_succ, i64_w, i32_w]
          rfl
        refine pure_ (i := 4) (N := some 26) (v := ?_) (a' := ?_) #[true, true, true, true, true, false, false, false, false, false, false, false, false, false, false, false] rfl rfl (by kernel_rfl) (fun _ _ _ h => h) (Or.inl ⟨by rfl, ?_⟩) ?_ ?_
        rotate_left
        · intro w'
          go_simp
          with_reducible rfl
        rotate_left
        · simp only [Act.put, List.setIfInBounds_toArray, List.set_cons_zero, List.set_cons_succ, i64_w, i32_w]
          rfl
        refine pure_ (i := 5) (N := some 27) (v := ?_) (a' := ?_) #[true, true, true, true, true, true, false, false, false, false, false, false, false, false, false, false] rfl rfl (by kernel_rfl) (fun _ _ _ h => h) (Or.inl ⟨by rfl, ?_⟩) ?_ ?_
        rotate_left
        · intro w'
          go_simp
          with_reducible rfl
        rotate_left
        · simp only [Act.put, List.setIfInBounds_toArray, List.set_cons_zero, List.set_cons_succ, i64_w, i32_w]
          rfl
        refine pure_ (i := 6) (N := some 28) (v := ?_) (a' := ?_) #[true, true, true, true, true, true, true, false, false, false, false, false, false, false, false, false] rfl rfl (by kernel_rfl) (fun _ _ _ h => h) (Or.inl ⟨by rfl, ?_⟩) ?_ ?_
        rotate_left
        · intro w'
          go_simp
          with_reducible rfl
        rotate_left
        · simp only [Act.put, List.setIfInBounds_toArray, List.set_cons_zero, List.set_cons_succ, i64_w, i32_w]
          rfl
        refine take_ (i := 7) (N := some 29) (v := .string ⟨#[114, 101, 99, 101, 105, 118, 101, 100]⟩) #[true, true, true, true, true, true, true, true, false, false, false, false, false, false, false, false] rfl rfl (by kernel_rfl) (fun _ _ _ h => h) (Or.inl ⟨by rfl, ?_⟩) hS rfl ?_
        · rintro w' ⟨h0, h1⟩
          have e0 : w'.cell? ⟨bN, 0, none⟩ = some (.string ⟨#[114, 101, 99, 101, 105, 118, 101, 100]⟩) := (blk_cell h1 0).trans rfl
          go_simp
        refine norm_ (a' := ?_) ?_ ?_
        rotate_left
        · try simp only [Act.put, putAll, List.setIfInBounds_toArray, List.set_cons_zero, List.set_cons_succ]
          rfl
        refine pure_ (i := 8) (N := some 30) (v := ?_) (a' := ?_) #[true, true, true, true, true, true, true, true, true, false, false, false, false, false, false, false] rfl rfl (by kernel_rfl) (fun _ _ _ h => h) (Or.inl ⟨by rfl, ?_⟩) ?_ ?_
        rotate_left
        · intro w'
          go_simp
          with_reducible rfl
        rotate_left
        · simp only [Act.put, List.setIfInBounds_toArray, List.set_cons_zero, List.set_cons_succ, i64_w, i32_w]
          rfl
        refine pure_ (i := 9) (N := some 31) (v := ?_) (a' := ?_) #[true, true, true, true, true, true, true, true, true, true, false, false, false, false, false, false] rfl rfl (by kernel_rfl) (fun _ _ _ h => h) (Or.inl ⟨by rfl, ?_⟩) ?_ ?_
        rotate_left
        · intro w'
          go_simp
          with_reducible rfl
        rotate_left
        · simp only [Act.put, List.setIfInBounds_toArray, List.set_cons_zero, List.set_cons_succ, i64_w, i32_w]
          rfl
        refine one_ (i := 10) (N := some 32) #[true, true, true, true, true, true, true, true, true, true, true, false, false, false, false, false] rfl rfl (by kernel_rfl) (by decide) (fun K hK => ?_)
        refine goes_ Tryz.func31 (by kernel_rfl) rfl #[.agg #[.int .u8 v.f0, .int .u64 v.f1, .string v.f2, .slice A v.f3.length c], .int .u64 35, .string nmO1] (by rfl) rfl rfl (by (try simp only [List.map_toArray, List.map_cons, List.map_nil]); first | done | rfl | kernel_rfl) ?_
        refine (new45_no v hs HOK.out 35 nmO1 A c _ HSi.out.2.2.2.1 hc HNs.out).mono ?_
        rintro e w3 ⟨rfl, hb3⟩
        refine ⟨_, rfl, ?_⟩
        have HS3 := Aside0.mk (HSi.out.below hb3)
        refine hK.out _ _ ⟨HS3.out.1, HS3.out.2.2.1⟩ (fun hS3 => ?_)
        clear hK K hb3 hS
        refine norm_ (a' := ?_) ?_ ?_
        rotate_left
        · try simp only [Act.put, putAll, List.setIfInBounds_toArray, List.set_cons_zero, List.set_cons_succ]
          rfl
        refine pure_ (i := 11) (N := some 21) (v := ?_) (a' := ?_) #[true, true, true, true, true, true, true, true, true, true, true, true, false, false, false, false] rfl rfl (by kernel_rfl) (fun _ _ _ h => h) (Or.inl ⟨by rfl, ?_⟩) ?_ ?_
        rotate_left
        · intro w'
          go_simp
          with_reducible rfl
        rotate_left
        · simp only [Act.put, List.setIfInBounds_toArray, List.set_cons_zero, List.set_cons_succ, i64_w, i32_w]
          rfl
        refine pure_ (i := 12) (N := some 33) (v := ?_) (a' := ?_) #[true, true, true, true, true, true, true, true, true, true, true, true, true, false, false, false] rfl rfl (by kernel_rfl) (fun _ _ _ h => h) (Or.inl ⟨by rfl, ?_⟩) ?_ ?_
        rotate_left
        · intro w'
          go_simp
          with_reducible rfl
        rotate_left
        · simp only [Act.put, List.setIfInBounds_toArray, List.set_cons_zero, List.set_cons_succ, i64_w, i32_w]
          rfl
        refine pure_ (i := 13) (N := some 34) (v := ?_) (a' := ?_) #[true, true, true, true, true, true, true, true, true, true, true, true, true, true, false, false] rfl rfl (by kernel_rfl) (fun _ _ _ h => h) (Or.inl ⟨by rfl, ?_⟩) ?_ ?_
        rotate_left
        · intro w'
          go_simp
          with_reducible rfl
        rotate_left
        · simp only [Act.put, List.setIfInBounds_toArray, List.set_cons_zero, List.set_cons_succ, i64_w, i32_w]
          rfl
        refine pure_ (i := 14) (N := some 6) (v := ?_) (a' := ?_) #[true, true, true, true, true, true, true, true, true, true, true, true, true, true, true, false] rfl rfl (by kernel_rfl) (fun _ _ _ h => h) (Or.inl ⟨by rfl, ?_⟩) ?_ ?_
        rotate_left
        · intro w'
          go_simp
          with_reducible rfl
        rotate_left
        · simp only [Act.put, List.setIfInBounds_toArray, List.set_cons_zero, List.set_cons_succ, i64_w, i32_w]
          rfl
        refine pure_ (i := 15) (N := some 7) (v := ?_) (a' := ?_) #[true, true, true, true, true, true, true, true, true, true, true, true, true, true, true, true] rfl rfl (by kernel_rfl) (fun _ _ _ h => h) (Or.inl ⟨by rfl, ?_⟩) ?_ ?_
        rotate_left
        · intro w'
          go_simp
          with_reducible rfl
        rotate_left
        · simp only [Act.put, List.setIfInBounds_toArray, List.set_cons_zero, List.set_cons_succ, i64_w, i32_w]
          rfl
        refine done_ (by kernel_rfl) ?_
        go_wp2_with fail
        go_roundg (5 - (1 : Int)).toNat
        case measure => rw [HG.out]; omega
        case rel => exact ⟨1, by go_num, ⟨by omega, by omega, rfl⟩, HGn, HS3⟩
      | some l =>
        have HNs := Aside0.mk hnew
        have hil := newF_items hnew
        have hol := newF_ok HOK.out hnew
        have HKI : Aside0 ((∀ x ∈ l, itemsN x ≤ 4294967296) ∧ okL l) := ⟨fun x hx => by have := itemsL_mem hx; omega, hol⟩
        have HGn : Aside0 (getOF v = getK 1 l) := ⟨HGF.out.trans (getFrom_some (n := 4) (k := 1) hnew)⟩
        rw [getK_1] at HGn
        clear hnew hil hol
        refine start_ (n := 16) (S := fun w' => Blk w' b0 #[.int .u8 v.f0, .int .u64 v.f1, .string v.f2, .slice A v.f3.length c] 25 ∧ Blk w' bN nmsC 9) (ds := []) #[false, false, false, false, false, false, false, false, false, false, false, false, false, false, false, false] (by kernel_rfl) rfl rfl ⟨HSi.out.1, HSi.out.2.2.1⟩ (fun hS => ?_)
        replace HSi := Aside0.mk ((HSi.out).below (below_drew (Below.refl _ _)))
        generalize wr.drew = wd2 at HSi hS ⊢
        refine take_ (i := 0) (N := some 22) (v := .agg #[.int .u8 v.f0, .int .u64 v.f1, .string v.f2, .slice A v.f3.length c]) #[true, false, false, false, false, false, false, false, false, false, false, false, false, false, false, false] rfl rfl (by kernel_rfl) (fun _ _ _ h => h) (Or.inl ⟨by rfl, ?_⟩) hS rfl ?_
        · rintro w' ⟨h0, h1⟩
          obtain ⟨e0, e1, e2, e3⟩ := h0.c4
          go_simp
        refine norm_ (a' := ?_) ?_ ?_
        rotate_left
        · try simp only [Act.put, putAll, List.setIfInBounds_toArray, List.set_cons_zero, List.set_cons_succ]
          rfl
        refine pure_ (i := 1) (N := some 23) (v := ?_) (a' := ?_) #[true, true, false, false, false, false, false, false, false, false, false, false, false, false, false, false] rfl rfl (by kernel_rfl) (fun _ _ _ h => h) (Or.inl ⟨by rfl, ?_⟩) ?_ ?_
        rotate_left
        · intro w'
          go_simp
          with_reducible rfl
        rotate_left
        · simp only [Act.put, List.setIfInBounds_toArray, List.set_cons_zero, List.set_cons_succ, i64_w, i32_w]
          rfl
        refine pure_ (i := 2) (N := some 24) (v := ?_) (a' := ?_) #[true, true, true, false, false, false, false, false, false, false, false, false, false, false, false, false] rfl rfl (by kernel_rfl) (fun _ _ _ h => h) (Or.inl ⟨by rfl, ?_⟩) ?_ ?_
        rotate_left
        · intro w'
          go_simp
          with_reducible rfl
        rotate_left
        · simp only [Act.put, List.setIfInBounds_toArray, List.set_cons_zero, List.set_cons_succ, i64_w, i32_w]
          rfl
        refine pure_ (i := 3) (N := some 25) (v := ?_) (a' := ?_) #[true, true, true, true, false, false, false, false, false, false, false, false, false, false, false, false] rfl rfl (by kernel_rfl) (fun _ _ _ h => h) (Or.inl ⟨by rfl, ?_⟩) ?_ ?_
        rotate_left
        · intro w'
          go_simp
          with_reducible rfl
        rotate_left
        · simp only [Act.put, List.setIfInBounds_toArray, List.set_cons_zero, List.set_cons_succ, i64_w, i32_w]
          rfl
        refine pure_ (i := 4) (N := some 26) (v := ?_) (a' := ?_) #[true, true, true, true, true, false, false, false, false, false, false, false, false, false, false, false] rfl rfl (by kernel_rfl) (fun _ _ _ h => h) (Or.inl ⟨by rfl, ?_⟩) ?_ ?_
        rotate_left
        · intro w'
          go_simp
          with_reducible rfl
        rotate_left
        · simp only [Act.put, List.setIfInBounds_toArray, List.set_cons_zero, List.set_cons_succ, i64_w, i32_w]
          rfl
        refine pure_ (i := 5) (N := some 27) (v := ?_) (a' := ?_) #[true, true, true, true, true, true, false, false, false, false, false, false, false, false, false, false] rfl rfl (by kernel_rfl) (fun _ _ _ h => h) (Or.inl ⟨by rfl, ?_⟩) ?_ ?_
        rotate_left
        · intro w'
          go_simp
          with_reducible rfl
        rotate_left
        · simp only [Act.put, List.setIfInBounds_toArray, List.set_cons_zero, List.set_cons_succ, i64_w, i32_w]
          rfl
        refine pure_ (i := 6) (N := some 28) (v := ?_) (a' := ?_) #[true, true, true, true, true, true, true, false, false, false, false, false, false, false, false, false] rfl rfl (by kernel_rfl) (fun _ _ _ h => h) (Or.inl ⟨by rfl, ?_⟩) ?_ ?_
        rotate_left
        · intro w'
          go_simp
          with_reducible rfl
        rotate_left
        · simp only [Act.put, List.setIfInBounds_toArray, List.set_cons_zero, List.set_cons_succ, i64_w, i32_w]
          rfl
        refine take_ (i := 7) (N := some 29) (v := .string ⟨#[114, 101, 99, 101, 105, 118, 101, 100]⟩) #[true, true, true, true, true, true, true, true, false, false, false, false, false, false, false, false] rfl rfl (by kernel_rfl) (fun _ _ _ h => h) (Or.inl ⟨by rfl, ?_⟩) hS rfl ?_
        · rintro w' ⟨h0, h1⟩
          have e0 : w'.cell? ⟨bN, 0, none⟩ = some (.string ⟨#[114, 101, 99, 101, 105, 118, 101, 100]⟩) := (blk_cell h1 0).trans rfl
          go_simp
        refine norm_ (a' := ?_) ?_ ?_
        rotate_left
        · try simp only [Act.put, putAll, List.setIfInBounds_toArray, List.set_cons_zero, List.set_cons_succ]
          rfl
        refine pure_ (i := 8) (N := some 30) (v := ?_) (a' := ?_) #[true, true, true, true, true, true, true, true, true, false, false, false, false, false, false, false] rfl rfl (by kernel_rfl) (fun _ _ _ h => h) (Or.inl ⟨by rfl, ?_⟩) ?_ ?_
        rotate_left
        · intro w'
          go_simp
          with_reducible rfl
        rotate_left
        · simp only [Act.put, List.setIfInBounds_toArray, List.set_cons_zero, List.set_cons_succ, i64_w, i32_w]
          rfl
        refine pure_ (i := 9) (N := some 31) (v := ?_) (a' := ?_) #[true, true, true, true, true, true, true, true, true, true, false, false, false, false, false, false] rfl rfl (by kernel_rfl) (fun _ _ _ h => h) (Or.inl ⟨by rfl, ?_⟩) ?_ ?_
        rotate_left
        · intro w'
          go_simp
          with_reducible rfl
        rotate_left
        · simp only [Act.put, List.setIfInBounds_toArray, List.set_cons_zero, List.set_cons_succ, i64_w, i32_w]
          rfl
        refine one_ (i := 10) (N := some 32) #[true, true, true, true, true, true, true, true, true, true, true, false, false, false, false, false] rfl rfl (by kernel_rfl) (by decide) (fun K hK => ?_)
        refine goes_ Tryz.func31 (by kernel_rfl) rfl #[.agg #[.int .u8 v.f0, .int .u64 v.f1, .string v.f2, .slice A v.f3.length c], .int .u64 35, .string nmO1] (by rfl) rfl rfl (by (try simp only [List.map_toArray, List.map_cons, List.map_nil]); first | done | rfl | kernel_rfl) ?_
        refine (new45_yes v hs HOK.out 35 nmO1 A c _ HSi.out.2.2.2.1 hc HNs.out).mono ?_
        rintro e w3 ⟨g, rfl, hgx, hfs, hb3⟩
        refine ⟨_, rfl, ?_⟩
        have HS3 := Aside0.mk (HSi.out.below hb3)
        have hgB := hfs.lt
        have HF3 := Aside0.mk hfs
        have hgw : w.heap.size ≤ g := by have := HSi.out.2.2.2.2.size; omega
        have hb1g : b1 < g := by have := HSi.out.2.1.lt; omega
        clear hfs
        refine hK.out _ _ ⟨HS3.out.1, HS3.out.2.2.1⟩ (fun hS3 => ?_)
        clear hK K hb3 hS
        refine norm_ (a' := ?_) ?_ ?_
        rotate_left
        · try simp only [Act.put, putAll, List.setIfInBounds_toArray, List.set_cons_zero, List.set_cons_succ]
          rfl
        refine pure_ (i := 11) (N := some 21) (v := ?_) (a' := ?_) #[true, true, true, true, true, true, true, true, true, true, true, true, false, false, false, false] rfl rfl (by kernel_rfl) (fun _ _ _ h => h) (Or.inl ⟨by rfl, ?_⟩) ?_ ?_
        rotate_left
        · intro w'
          go_simp
          with_reducible rfl
        rotate_left
        · simp only [Act.put, List.setIfInBounds_toArray, List.set_cons_zero, List.set_cons_succ, i64_w, i32_w]
          rfl
        refine pure_ (i := 12) (N := some 33) (v := ?_) (a' := ?_) #[true, true, true, true, true, true, true, true, true, true, true, true, true, false, false, false] rfl rfl (by kernel_rfl) (fun _ _ _ h => h) (Or.inl ⟨by rfl, ?_⟩) ?_ ?_
        rotate_left
        · intro w'
          go_simp
          with_reducible rfl
        rotate_left
        · simp only [Act.put, List.setIfInBounds_toArray, List.set_cons_zero, List.set_cons_succ, i64_w, i32_w]
          rfl
        refine pure_ (i := 13) (N := some 34) (v := ?_) (a' := ?_) #[true, true, true, true, true, true, true, true, true, true, true, true, true, true, false, false] rfl rfl (by kernel_rfl) (fun _ _ _ h => h) (Or.inl ⟨by rfl, ?_⟩) ?_ ?_
        rotate_left
        · intro w'
          go_simp
          with_reducible rfl
        rotate_left
        · simp only [Act.put, List.setIfInBounds_toArray, List.set_cons_zero, List.set_cons_succ, i64_w, i32_w]
          rfl
        refine pure_ (i := 14) (N := some 6) (v := ?_) (a' := ?_) #[true, true, true, true, true, true, true, true, true, true, true, true, true, true, true, false] rfl rfl (by kernel_rfl) (fun _ _ _ h => h) (Or.inl ⟨by rfl, ?_⟩) ?_ ?_
        rotate_left
        · intro w'
          go_simp
          with_reducible rfl
        rotate_left
        · simp only [Act.put, List.setIfInBounds_toArray, List.set_cons_zero, List.set_cons_succ, i64_w, i32_w]
          rfl
        refine pure_ (i := 15) (N := some 7) (v := ?_) (a' := ?_) #[true, true, true, true, true, true, true, true, true, true, true, true, true, true, true, true] rfl rfl (by kernel_rfl) (fun _ _ _ h => h) (Or.inl ⟨by rfl, ?_⟩) ?_ ?_
        rotate_left
        · intro w'
          go_simp
          with_reducible rfl
        rotate_left
        · simp only [Act.put, List.setIfInBounds_toArray, List.set_cons_zero, List.set_cons_succ, i64_w, i32_w]
          rfl
        refine done_ (by kernel_rfl) ?_
        go_upto_region 9 with fail
        have hO := Blk.new w3 #[.int .u8 1, .int .u64 0, .int .u64 0, .string ⟨#[]⟩] 37
        have hal4 := below_alloc (Below.refl w3.heap.size w3) (.cells #[.int .u8 1, .int .u64 0, .int .u64 0, .string ⟨#[]⟩] 37)
        have HF4 := Aside0.mk (HF3.out.below hal4)
        have HB4 := Aside0.mk (below_step HS3.out.2.2.2.2 hal4)
        have HRB := Aside0.mk (HS3.out.2.1.below hal4)
        have hb1 := HS3.out.2.1.lt
        have hs4 := hal4.size
        go_upto_region 11 with fail
        obtain ⟨bo, ebo⟩ : ∃ b, w3.heap.size = b := ⟨_, rfl⟩
        obtain ⟨w4, e4⟩ : ∃ W, w3.alloc (.cells #[.int .u8 1, .int .u64 0, .int .u64 0, .string ⟨#[]⟩] 37) = W := ⟨_, rfl⟩
        rw [e4] at hO HF4 HB4 HRB hs4 ⊢
        rw [ebo] at hO ⊢
        have HO4 := Aside0.mk hO
        clear e4 hO hal4
        obtain ⟨o0, o1, o2, o3⟩ := HO4.out.c4
        go_upto_region 13 with fail
        clear o0 o1 o2 o3
        go_wp2_with fail
        refine (number79_any HF4.out hs4 hgB 0 5 true 0).mono ?_
        rintro e w5 ⟨rfl, hfs, hbg⟩
        have HFq := Aside0.mk hfs
        have HBq := Aside0.mk (below_bg HB4.out hbg (by omega) HB4.out.size)
        have HOq := Aside0.mk (HO4.out.bg hbg (by omega))
        replace HRB := Aside0.mk (HRB.out.bg hbg (by omega))
        have hsq := Nat.le_trans hs4 hbg.size
        obtain ⟨q0, q1, q2, q3⟩ := HOq.out.c4
        have fq := HOq.out.fz
        clear hfs hbg
        obtain ⟨a', ea⟩ : ∃ x, tellP l 0 (kindP [5]) (fun x => x.f1) 0 = x := ⟨_, rfl⟩
        have EA := Aside0.mk ea
        rw [ea]
        clear ea
        go_upto_region 14 with fail
        have HF6 := Aside0.mk (HFq.out.far (p := ⟨bo, 1, none⟩) (show w3.heap.size ≤ bo by omega) hgB (.int .u64 a'))
        have HO6 : Aside0 (Blk (w5.setCell ⟨bo, 1, none⟩ (.int .u64 a')) bo #[.int .u8 1, .int .u64 a', .int .u64 0, .string ⟨#[]⟩] 37) := ⟨blk_put (cs := #[.int .u8 1, .int .u64 0, .int .u64 0, .string ⟨#[]⟩]) HOq.out 1 _ rfl⟩
        replace HRB := Aside0.mk (HRB.out.far (p := ⟨bo, 1, none⟩) (show b1 ≠ bo by omega) (.int .u64 a'))
        have HB6 : Aside0 (Below w.heap.size w (w5.setCell ⟨bo, 1, none⟩ (.int .u64 a'))) := ⟨below_set HBq.out (by omega)⟩
        have hs6 : w3.heap.size ≤ (w5.setCell ⟨bo, 1, none⟩ (.int .u64 a')).heap.size := by simpa [World.setCell] using hsq
        obtain ⟨w6, e6⟩ : ∃ W, w5.setCell ⟨bo, 1, none⟩ (.int .u64 a') = W := ⟨_, rfl⟩
        rw [e6] at HRB HF6 HO6 HB6 hs6 ⊢
        clear e6 q0 q1 q2 q3 fq HFq HBq HOq hsq
        go_wp2_with fail
        refine (number79_any HF6.out hs6 hgB 1 6 true 0).mono ?_
        rintro e w7 ⟨rfl, hfs, hbg⟩
        have HFq := Aside0.mk hfs
        have HBq := Aside0.mk (below_bg HB6.out hbg (by omega) HB6.out.size)
        have HOq := Aside0.mk (HO6.out.bg hbg (by omega))
        replace HRB := Aside0.mk (HRB.out.bg hbg (by omega))
        have hsq := Nat.le_trans hs6 hbg.size
        obtain ⟨q0, q1, q2, q3⟩ := HOq.out.c4
        have fq := HOq.out.fz
        clear hfs hbg
        obtain ⟨b', ea⟩ : ∃ x, tellP l 1 (kindP [6]) (fun x => x.f1) 0 = x := ⟨_, rfl⟩
        have EB := Aside0.mk ea
        rw [ea]
        clear ea
        go_upto_region 15 with fail
        have HF8 := Aside0.mk (HFq.out.far (p := ⟨bo, 2, none⟩) (show w3.heap.size ≤ bo by omega) hgB (.int .u64 b'))
        have HO8 : Aside0 (Blk (w7.setCell ⟨bo, 2, none⟩ (.int .u64 b')) bo #[.int .u8 1, .int .u64 a', .int .u64 b', .string ⟨#[]⟩] 37) := ⟨blk_put (cs := #[.int .u8 1, .int .u64 a', .int .u64 0, .string ⟨#[]⟩]) HOq.out 2 _ rfl⟩
        replace HRB := Aside0.mk (HRB.out.far (p := ⟨bo, 2, none⟩) (show b1 ≠ bo by omega) (.int .u64 b'))
        have HB8 : Aside0 (Below w.heap.size w (w7.setCell ⟨bo, 2, none⟩ (.int .u64 b'))) := ⟨below_set HBq.out (by omega)⟩
        have hs8 : w3.heap.size ≤ (w7.setCell ⟨bo, 2, none⟩ (.int .u64 b')).heap.size := by simpa [World.setCell] using hsq
        obtain ⟨w8, e8⟩ : ∃ W, w7.setCell ⟨bo, 2, none⟩ (.int .u64 b') = W := ⟨_, rfl⟩
        rw [e8] at HRB HF8 HO8 HB8 hs8 ⊢
        clear e8 q0 q1 q2 q3 fq HFq HBq HOq hsq
        go_wp2_with fail
        refine (done49_any HF8.out 2).mono ?_
        rintro e wz ⟨he, rfl⟩
        replace he : e = .returned (.int .i64 (doneN l (spoilP l 0 true K5 || spoilP l 1 true K6) 2)) := he
        have HRz := HRB
        obtain ⟨q0, q1, q2, q3⟩ := HO8.out.c4
        obtain ⟨r0, r1, r2, r3⟩ := HRz.out.c4
        have fr := HRz.out.fz
        rcases done_or l (spoilP l 0 true K5 || spoilP l 1 true K6) 2 with hd | hd
        · rw [if_pos hd] at HGn
          rw [hd] at he
          subst he
          clear hd
          go_wp2_with fail
          refine bodyPost_ret (results14 _ _ b1 #[.int .u8 1, .int .u64 a', .int .u64 b', .string ⟨#[]⟩] 0 rfl rfl (put4_any HRz.out _ _ _ _) rfl) rfl ?_
          exact ⟨by rw [HGn.out, ← EA.out, ← EB.out]; rfl, below_set4 HB8.out (by omega)⟩
        · rw [if_neg (by rw [hd]; decide)] at HGn
          rw [hd] at he
          subst he
          clear hd
          go_wp2_with fail
          refine bodyPost_ret (results14 _ _ b1 #[.int .u8 0, .int .u64 0, .int .u64 0, .string ⟨#[]⟩] 6 rfl rfl (put4_any HRz.out _ _ _ _) rfl) rfl ?_
          exact ⟨by rw [HGn.out]; rfl, below_set4 HB8.out (by omega)⟩
    by_cases hi : i = 1
    · subst hi
      go_upto_region 7 with fail
      cases hnew : newF v 36 nmO2 with
      | none =>
        have HNs := Aside0.mk hnew
        have HGn : Aside0 (getOF v = getFrom v (5 - (2 : Int)).toNat (1 + 2)) := ⟨HGF.out.trans (getFrom_none (n := 3) (k := 2) hnew)⟩
        clear hnew
        refine start_ (n := 16) (S := fun w' => Blk w' b0 #[.int .u8 v.f0, .int .u64 v.f1, .string v.f2, .slice A v.f3.length c] 25 ∧ Blk w' bN nmsC 9) (ds := []) #[false, false, false, false, false, false, false, false, false, false, false, false, false, false, false, false] (by kernel_rfl) rfl rfl ⟨HSi.out.1, HSi.out.2.2.1⟩ (fun hS => ?_)
        replace HSi := Aside0.mk ((HSi.out).below (below_drew (Below.refl _ _)))
        generalize wr.drew = wd3 at HSi hS ⊢
        refine take_ (i := 0) (N := some 22) (v := .agg #[.int .u8 v.f0, .int .u64 v.f1, .string v.f2, .slice A v.f3.length c]) #[true, false, false, false, false, false, false, false, false, false, false, false, false, false, false, false] rfl rfl (by kernel_rfl) (fun _ _ _ h => h) (Or.inl ⟨by rfl, ?_⟩) hS rfl ?_
        · rintro w' ⟨h0, h1⟩
          obtain ⟨e0, e1, e2, e3⟩ := h0.c4
          go_simp
        refine norm_ (a' := ?_) ?_ ?_
        rotate_left
        · try simp only [Act.put, putAll, List.setIfInBounds_toArray, List.set_cons_zero, List.set_cons_succ]
          rfl
        refine pure_ (i := 1) (N := some 23) (v := ?_) (a' := ?_) #[true, true, false, false, false, false, false, false, false, false, false, false, false, false, false, false] rfl rfl (by kernel_rfl) (fun _ _ _ h => h) (Or.inl ⟨by rfl, ?_⟩) ?_ ?_
        rotate_left
        · intro w'
          go_simp
          with_reducible rfl
        rotate_left
        · simp only [Act.put, List.setIfInBounds_toArray, List.set_cons_zero, List.set_cons_succ, i64_w, i32_w]
          rfl
        refine pure_ (i := 2) (N := some 24) (v := ?_) (a' := ?_) #[true, true, true, false, false, false, false, false, false, false, false, false, false, false, false, false] rfl rfl (by kernel_rfl) (fun _ _ _ h => h) (Or.inl ⟨by rfl, ?_⟩) ?_ ?_
        rotate_left
        · intro w'
          go_simp
          with_reducible rfl
        rotate_left
        · simp only [Act.put, List.setIfInBounds_toArray, List.set_cons_zero, List.set_cons_succ, i64_w, i32_w]
          rfl
        refine pure_ (i := 3) (N := some 25) (v := ?_) (a' := ?_) #[true, true, true, true, false, false, false, false, false, false, false, false, false, false, false, false] rfl rfl (by kernel_rfl) (fun _ _ _ h => h) (Or.inl ⟨by rfl, ?_⟩) ?_ ?_
        rotate_left
        · intro w'
          go_simp
          with_reducible rfl
        rotate_left
        · simp only [Act.put, List.setIfInBounds_toArray, List.set_cons_zero, List.set_cons_succ, i64_w, i32_w]
          rfl
        refine pure_ (i := 4) (N := some 26) (v := ?_) (a' := ?_) #[true, true, true, true, true, false, false, false, false, false, false, false, false, false, false, false] rfl rfl (by kernel_rfl) (fun _ _ _ h => h) (Or.inl ⟨by rfl, ?_⟩) ?_ ?_
        rotate_left
        · intro w'
          go_simp
          with_reducible rfl
        rotate_left
        · simp only [Act.put, List.setIfInBounds_toArray, List.set_cons_zero, List.set_cons_succ, i64_w, i32_w]
          rfl
        refine pure_ (i := 5) (N := some 27) (v := ?_) (a' := ?_) #[true, true, true, true, true, true, false, false, false, false, false, false, false, false, false, false] rfl rfl (by kernel_rfl) (fun _ _ _ h => h) (Or.inl ⟨by rfl, ?_⟩) ?_ ?_
        rotate_left
        · intro w'
          go_simp
          with_reducible rfl
        rotate_left
        · simp only [Act.put, List.setIfInBounds_toArray, List.set_cons_zero, List.set_cons_succ, i64_w, i32_w]
          rfl
        refine pure_ (i := 6) (N := some 28) (v := ?_) (a' := ?_) #[true, true, true, true, true, true, true, false, false, false, false, false, false, false, false, false] rfl rfl (by kernel_rfl) (fun _ _ _ h => h) (Or.inl ⟨by rfl, ?_⟩) ?_ ?_
        rotate_left
        · intro w'
          go_simp
          with_reducible rfl
        rotate_left
        · simp only [Act.put, List.setIfInBounds_toArray, List.set_cons_zero, List.set_cons_succ, i64_w, i32_w]
          rfl
        refine take_ (i := 7) (N := some 29) (v := .string ⟨#[97, 99, 99, 101, 112, 116, 101, 100]⟩) #[true, true, true, true, true, true, true, true, false, false, false, false, false, false, false, false] rfl rfl (by kernel_rfl) (fun _ _ _ h => h) (Or.inl ⟨by rfl, ?_⟩) hS rfl ?_
        · rintro w' ⟨h0, h1⟩
          have e0 : w'.cell? ⟨bN, 1, none⟩ = some (.string ⟨#[97, 99, 99, 101, 112, 116, 101, 100]⟩) := (blk_cell h1 1).trans rfl
          go_simp
        refine norm_ (a' := ?_) ?_ ?_
        rotate_left
        · try simp only [Act.put, putAll, List.setIfInBounds_toArray, List.set_cons_zero, List.set_cons_succ]
          rfl
        refine pure_ (i := 8) (N := some 30) (v := ?_) (a' := ?_) #[true, true, true, true, true, true, true, true, true, false, false, false, false, false, false, false] rfl rfl (by kernel_rfl) (fun _ _ _ h => h) (Or.inl ⟨by rfl, ?_⟩) ?_ ?_
        rotate_left
        · intro w'
          go_simp
          with_reducible rfl
        rotate_left
        · simp only [Act.put, List.setIfInBounds_toArray, List.set_cons_zero, List.set_cons_succ, i64_w, i32_w]
          rfl
        refine pure_ (i := 9) (N := some 31) (v := ?_) (a' := ?_) #[true, true, true, true, true, true, true, true, true, true, false, false, false, false, false, false] rfl rfl (by kernel_rfl) (fun _ _ _ h => h) (Or.inl ⟨by rfl, ?_⟩) ?_ ?_
        rotate_left
        · intro w'
          go_simp
          with_reducible rfl
        rotate_left
        · simp only [Act.put, List.setIfInBounds_toArray, List.set_cons_zero, List.set_cons_succ, i64_w, i32_w]
          rfl
        refine one_ (i := 10) (N := some 32) #[true, true, true, true, true, true, true, true, true, true, true, false, false, false, false, false] rfl rfl (by kernel_rfl) (by decide) (fun K hK => ?_)
        refine goes_ Tryz.func31 (by kernel_rfl) rfl #[.agg #[.int .u8 v.f0, .int .u64 v.f1, .string v.f2, .slice A v.f3.length c], .int .u64 36, .string nmO2] (by rfl) rfl rfl (by (try simp only [List.map_toArray, List.map_cons, List.map_nil]); first | done | rfl | kernel_rfl) ?_
        refine (new45_no v hs HOK.out 36 nmO2 A c _ HSi.out.2.2.2.1 hc HNs.out).mono ?_
        rintro e w3 ⟨rfl, hb3⟩
        refine ⟨_, rfl, ?_⟩
        have HS3 := Aside0.mk (HSi.out.below hb3)
        refine hK.out _ _ ⟨HS3.out.1, HS3.out.2.2.1⟩ (fun hS3 => ?_)
        clear hK K hb3 hS
        refine norm_ (a' := ?_) ?_ ?_
        rotate_left
        · try simp only [Act.put, putAll, List.setIfInBounds_toArray, List.set_cons_zero, List.set_cons_succ]
          rfl
        refine pure_ (i := 11) (N := some 21) (v := ?_) (a' := ?_) #[true, true, true, true, true, true, true, true, true, true, true, true, false, false, false, false] rfl rfl (by kernel_rfl) (fun _ _ _ h => h) (Or.inl ⟨by rfl, ?_⟩) ?_ ?_
        rotate_left
        · intro w'
          go_simp
          with_reducible rfl
        rotate_left
        · simp only [Act.put, List.setIfInBounds_toArray, List.set_cons_zero, List.set_cons_succ, i64_w, i32_w]
          rfl
        refine pure_ (i := 12) (N := some 33) (v := ?_) (a' := ?_) #[true, true, true, true, true, true, true, true, true, true, true, true, true, false, false, false] rfl rfl (by kernel_rfl) (fun _ _ _ h => h) (Or.inl ⟨by rfl, ?_⟩) ?_ ?_
        rotate_left
        · intro w'
          go_simp
          with_reducible rfl
        rotate_left
        · simp only [Act.put, List.setIfInBounds_toArray, List.set_cons_zero, List.set_cons_succ, i64_w, i32_w]
          rfl
        refine pure_ (i := 13) (N := some 34) (v := ?_) (a' := ?_) #[true, true, true, true, true, true, true, true, true, true, true, true, true, true, false, false] rfl rfl (by kernel_rfl) (fun _ _ _ h => h) (Or.inl ⟨by rfl, ?_⟩) ?_ ?_
        rotate_left
        · intro w'
          go_simp
          with_reducible rfl
        rotate_left
        · simp only [Act.put, List.setIfInBounds_toArray, List.set_cons_zero, List.set_cons_succ, i64_w, i32_w]
          rfl
        refine pure_ (i := 14) (N := some 6) (v := ?_) (a' := ?_) #[true, true, true, true, true, true, true, true, true, true, true, true, true, true, true, false] rfl rfl (by kernel_rfl) (fun _ _ _ h => h) (Or.inl ⟨by rfl, ?_⟩) ?_ ?_
        rotate_left
        · intro w'
          go_simp
          with_reducible rfl
        rotate_left
        · simp only [Act.put, List.setIfInBounds_toArray, List.set_cons_zero, List.set_cons_succ, i64_w, i32_w]
          rfl
        refine pure_ (i := 15) (N := some 7) (v := ?_) (a' := ?_) #[true, true, true, true, true, true, true, true, true, true, true, true, true, true, true, true] rfl rfl (by kernel_rfl) (fun _ _ _ h => h) (Or.inl ⟨by rfl, ?_⟩) ?_ ?_
        rotate_left
        · intro w'
          go_simp
          with_reducible rfl
        rotate_left
        · simp only [Act.put, List.setIfInBounds_toArray, List.set_cons_zero, List.set_cons_succ, i64_w, i32_w]
          rfl
        refine done_ (by kernel_rfl) ?_
        go_wp2_with fail
        go_roundg (5 - (2 : Int)).toNat
        case measure => rw [HG.out]; omega
        case rel => exact ⟨2, by go_num, ⟨by omega, by omega, rfl⟩, HGn, HS3⟩
      | some l =>
        have HNs := Aside0.mk hnew
        have hil := newF_items hnew
        have hol := newF_ok HOK.out hnew
        have HKI : Aside0 ((∀ x ∈ l, itemsN x ≤ 4294967296) ∧ okL l) := ⟨fun x hx => by have := itemsL_mem hx; omega, hol⟩
        have HGn : Aside0 (getOF v = getK 2 l) := ⟨HGF.out.trans (getFrom_some (n := 3) (k := 2) hnew)⟩
        rw [getK_2] at HGn
        clear hnew hil hol
        refine start_ (n := 16) (S := fun w' => Blk w' b0 #[.int .u8 v.f0, .int .u64 v.f1, .string v.f2, .slice A v.f3.length c] 25 ∧ Blk w' bN nmsC 9) (ds := []) #[false, false, false, false, false, false, false, false, false, false, false, false, false, false, false, false] (by kernel_rfl) rfl rfl ⟨HSi.out.1, HSi.out.2.2.1⟩ (fun hS => ?_)
        replace HSi := Aside0.mk ((HSi.out).below (below_drew (Below.refl _ _)))
        generalize wr.drew = wd4 at HSi hS ⊢
        refine take_ (i := 0) (N := some 22) (v := .agg #[.int .u8 v.f0, .int .u64 v.f1, .string v.f2, .slice A v.f3.length c]) #[true, false, false, false, false, false, false, false, false, false, false, false, false, false, false, false] rfl rfl (by kernel_rfl) (fun _ _ _ h => h) (Or.inl ⟨by rfl, ?_⟩) hS rfl ?_
        · rintro w' ⟨h0, h1⟩
          obtain ⟨e0, e1, e2, e3⟩ := h0.c4
          go_simp
        refine norm_ (a' := ?_) ?_ ?_
        rotate_left
        · try simp only [Act.put, putAll, List.setIfInBounds_toArray, List.set_cons_zero, List.set_cons_succ]
          rfl
        refine pure_ (i := 1) (N := some 23) (v := ?_) (a' := ?_) #[true, true, false, false, false, false, false, false, false, false, false, false, false, false, false, false] rfl rfl (by kernel_rfl) (fun _ _ _ h => h) (Or.inl ⟨by rfl, ?_⟩) ?_ ?_
        rotate_left
        · intro w'
          go_simp
          with_reducible rfl
        rotate_left
        · simp only [Act.put, List.setIfInBounds_toArray, List.set_cons_zero, List.set_cons_succ, i64_w, i32_w]
          rfl
        refine pure_ (i := 2) (N := some 24) (v := ?_) (a' := ?_) #[true, true, true, false, false, false, false, false, false, false, false, false, false, false, false, false] rfl rfl (by kernel_rfl) (fun _ _ _ h => h) (Or.inl ⟨by rfl, ?_⟩) ?_ ?_
        rotate_left
        · intro w'
          go_simp
          with_reducible rfl
        rotate_left
        · simp only [Act.put, List.setIfInBounds_toArray, List.set_cons_zero, List.set_cons_succ, i64_w, i32_w]
          rfl
        refine pure_ (i := 3) (N := some 25) (v := ?_) (a' := ?_) #[true, true, true, true, false, false, false, false, false, false, false, false, false, false, false, false] rfl rfl (by kernel_rfl) (fun _ _ _ h => h) (Or.inl ⟨by rfl, ?_⟩) ?_ ?_
        rotate_left
        · intro w'
          go_simp
          with_reducible rfl
        rotate_left
        · simp only [Act.put, List.setIfInBounds_toArray, List.set_cons_zero, List.set_cons_succ, i64_w, i32_w]
          rfl
        refine pure_ (i := 4) (N := some 26) (v := ?_) (a' := ?_) #[true, true, true, true, true, false, false, false, false, false, false, false, false, false, false, false] rfl rfl (by kernel_rfl) (fun _ _ _ h => h) (Or.inl ⟨by rfl, ?_⟩) ?_ ?_
        rotate_left
        · intro w'
          go_simp
          with_reducible rfl
        rotate_left
        · simp only [Act.put, List.setIfInBounds_toArray, List.set_cons_zero, List.set_cons_succ, i64_w, i32_w]
          rfl
        refine pure_ (i := 5) (N := some 27) (v := ?_) (a' := ?_) #[true, true, true, true, true, true, false, false, false, false, false, false, false, false, false, false] rfl rfl (by kernel_rfl) (fun _ _ _ h => h) (Or.inl ⟨by rfl, ?_⟩) ?_ ?_
        rotate_left
        · intro w'
          go_simp
          with_reducible rfl
        rotate_left
        · simp only [Act.put, List.setIfInBounds_toArray, List.set_cons_zero, List.set_cons_succ, i64_w, i32_w]
          rfl
        refine pure_ (i := 6) (N := some 28) (v := ?_) (a' := ?_) #[true, true, true, true, true, true, true, false, false, false, false, false, false, false, false, false] rfl rfl (by kernel_rfl) (fun _ _ _ h => h) (Or.inl ⟨by rfl, ?_⟩) ?_ ?_
        rotate_left
        · intro w'
          go_simp
          with_reducible rfl
        rotate_left
        · simp only [Act.put, List.setIfInBounds_toArray, List.set_cons_zero, List.set_cons_succ, i64_w, i32_w]
          rfl
        refine take_ (i := 7) (N := some 29) (v := .string ⟨#[97, 99, 99, 101, 112, 116, 101, 100]⟩) #[true, true, true, true, true, true, true, true, false, false, false, false, false, false, false, false] rfl rfl (by kernel_rfl) (fun _ _ _ h => h) (Or.inl ⟨by rfl, ?_⟩) hS rfl ?_
        · rintro w' ⟨h0, h1⟩
          have e0 : w'.cell? ⟨bN, 1, none⟩ = some (.string ⟨#[97, 99, 99, 101, 112, 116, 101, 100]⟩) := (blk_cell h1 1).trans rfl
          go_simp
        refine norm_ (a' := ?_) ?_ ?_
        rotate_left
        · try simp only [Act.put, putAll, List.setIfInBounds_toArray, List.set_cons_zero, List.set_cons_succ]
          rfl
        refine pure_ (i := 8) (N := some 30) (v := ?_) (a' := ?_) #[true, true, true, true, true, true, true, true, true, false, false, false, false, false, false, false] rfl rfl (by kernel_rfl) (fun _ _ _ h => h) (Or.inl ⟨by rfl, ?_⟩) ?_ ?_
        rotate_left
        · intro w'
          go_simp
          with_reducible rfl
        rotate_left
        · simp only [Act.put, List.setIfInBounds_toArray, List.set_cons_zero, List.set_cons_succ, i64_w, i32_w]
          rfl
        refine pure_ (i := 9) (N := some 31) (v := ?_) (a' := ?_) #[true, true, true, true, true, true, true, true, true, true, false, false, false, false, false, false] rfl rfl (by kernel_rfl) (fun _ _ _ h => h) (Or.inl ⟨by rfl, ?_⟩) ?_ ?_
        rotate_left
        · intro w'
          go_simp
          with_reducible rfl
        rotate_left
        · simp only [Act.put, List.setIfInBounds_toArray, List.set_cons_zero, List.set_cons_succ, i64_w, i32_w]
          rfl
        refine one_ (i := 10) (N := some 32) #[true, true, true, true, true, true, true, true, true, true, true, false, false, false, false, false] rfl rfl (by kernel_rfl) (by decide) (fun K hK => ?_)
        refine goes_ Tryz.func31 (by kernel_rfl) rfl #[.agg #[.int .u8 v.f0, .int .u64 v.f1, .string v.f2, .slice A v.f3.length c], .int .u64 36, .string nmO2] (by rfl) rfl rfl (by (try simp only [List.map_toArray, List.map_cons, List.map_nil]); first | done | rfl | kernel_rfl) ?_
        refine (new45_yes v hs HOK.out 36 nmO2 A c _ HSi.out.2.2.2.1 hc HNs.out).mono ?_
        rintro e w3 ⟨g, rfl, hgx, hfs, hb3⟩
        refine ⟨_, rfl, ?_⟩
        have HS3 := Aside0.mk (HSi.out.below hb3)
        have hgB := hfs.lt
        have HF3 := Aside0.mk hfs
        have hgw : w.heap.size ≤ g := by have := HSi.out.2.2.2.2.size; omega
        have hb1g : b1 < g := by have := HSi.out.2.1.lt; omega
        clear hfs
        refine hK.out _ _ ⟨HS3.out.1, HS3.out.2.2.1⟩ (fun hS3 => ?_)
        clear hK K hb3 hS
        refine norm_ (a' := ?_) ?_ ?_
        rotate_left
        · try simp only [Act.put, putAll, List.setIfInBounds_toArray, List.set_cons_zero, List.set_cons_succ]
          rfl
        refine pure_ (i := 11) (N := some 21) (v := ?_) (a' := ?_) #[true, true, true, true, true, true, true, true, true, true, true, true, false, false, false, false] rfl rfl (by kernel_rfl) (fun _ _ _ h => h) (Or.inl ⟨by rfl, ?_⟩) ?_ ?_
        rotate_left
        · intro w'
          go_simp
          with_reducible rfl
        rotate_left
        · simp only [Act.put, List.setIfInBounds_toArray, List.set_cons_zero, List.set_cons_succ, i64_w, i32_w]
          rfl
        refine pure_ (i := 12) (N := some 33) (v := ?_) (a' := ?_) #[true, true, true, true, true, true, true, true, true, true, true, true, true, false, false, false] rfl rfl (by kernel_rfl) (fun _ _ _ h => h) (Or.inl ⟨by rfl, ?_⟩) ?_ ?_
        rotate_left
        · intro w'
          go_simp
          with_reducible rfl
        rotate_left
        · simp only [Act.put, List.setIfInBounds_toArray, List.set_cons_zero, List.set_cons_succ, i64_w, i32_w]
          rfl
        refine pure_ (i := 13) (N := some 34) (v := ?_) (a' := ?_) #[true, true, true, true, true, true, true, true, true, true, true, true, true, true, false, false] rfl rfl (by kernel_rfl) (fun _ _ _ h => h) (Or.inl ⟨by rfl, ?_⟩) ?_ ?_
        rotate_left
        · intro w'
          go_simp
          with_reducible rfl
        rotate_left
        · simp only [Act.put, List.setIfInBounds_toArray, List.set_cons_zero, List.set_cons_succ, i64_w, i32_w]
          rfl
        refine pure_ (i := 14) (N := some 6) (v := ?_) (a' := ?_) #[true, true, true, true, true, true, true, true, true, true, true, true, true, true, true, false] rfl rfl (by kernel_rfl) (fun _ _ _ h => h) (Or.inl ⟨by rfl, ?_⟩) ?_ ?_
        rotate_left
        · intro w'
          go_simp
          with_reducible rfl
        rotate_left
        · simp only [Act.put, List.setIfInBounds_toArray, List.set_cons_zero, List.set_cons_succ, i64_w, i32_w]
          rfl
        refine pure_ (i := 15) (N := some 7) (v := ?_) (a' := ?_) #[true, true, true, true, true, true, true, true, true, true, true, true, true, true, true, true] rfl rfl (by kernel_rfl) (fun _ _ _ h => h) (Or.inl ⟨by rfl, ?_⟩) ?_ ?_
        rotate_left
        · intro w'
          go_simp
          with_reducible rfl
        rotate_left
        · simp only [Act.put, List.setIfInBounds_toArray, List.set_cons_zero, List.set_cons_succ, i64_w, i32_w]
          rfl
        refine done_ (by kernel_rfl) ?_
        go_upto_region 9 with fail
        have hO := Blk.new w3 #[.int .u8 2, .int .u64 0, .int .u64 0, .string ⟨#[]⟩] 37
        have hal4 := below_alloc (Below.refl w3.heap.size w3) (.cells #[.int .u8 2, .int .u64 0, .int .u64 0, .string ⟨#[]⟩] 37)
        have HF4 := Aside0.mk (HF3.out.below hal4)
        have HB4 := Aside0.mk (below_step HS3.out.2.2.2.2 hal4)
        have HRB := Aside0.mk (HS3.out.2.1.below hal4)
        have hb1 := HS3.out.2.1.lt
        have hs4 := hal4.size
        go_upto_region 11 with fail
        obtain ⟨bo, ebo⟩ : ∃ b, w3.heap.size = b := ⟨_, rfl⟩
        obtain ⟨w4, e4⟩ : ∃ W, w3.alloc (.cells #[.int .u8 2, .int .u64 0, .int .u64 0, .string ⟨#[]⟩] 37) = W := ⟨_, rfl⟩
        rw [e4] at hO HF4 HB4 HRB hs4 ⊢
        rw [ebo] at hO ⊢
        have HO4 := Aside0.mk hO
        clear e4 hO hal4
        obtain ⟨o0, o1, o2, o3⟩ := HO4.out.c4
        go_upto_region 26 with fail
        clear o0 o1 o2 o3
        go_wp2_with fail
        refine (done49_any HF4.out 0).mono ?_
        rintro e wz ⟨he, rfl⟩
        replace he : e = .returned (.int .i64 (doneN l false 0)) := he
        have HRz := HRB
        obtain ⟨q0, q1, q2, q3⟩ := HO4.out.c4
        obtain ⟨r0, r1, r2, r3⟩ := HRz.out.c4
        have fr := HRz.out.fz
        rcases done_or l false 0 with hd | hd
        · rw [if_pos hd] at HGn
          rw [hd] at he
          subst he
          clear hd
          go_wp2_with fail
          refine bodyPost_ret (results14 _ _ b1 #[.int .u8 2, .int .u64 0, .int .u64 0, .string ⟨#[]⟩] 0 rfl rfl (put4_any HRz.out _ _ _ _) rfl) rfl ?_
          exact ⟨by rw [HGn.out]; rfl, below_set4 HB4.out (by omega)⟩
        · rw [if_neg (by rw [hd]; decide)] at HGn
          rw [hd] at he
          subst he
          clear hd
          go_wp2_with fail
          refine bodyPost_ret (results14 _ _ b1 #[.int .u8 0, .int .u64 0, .int .u64 0, .string ⟨#[]⟩] 6 rfl rfl (put4_any HRz.out _ _ _ _) rfl) rfl ?_
          exact ⟨by rw [HGn.out]; rfl, below_set4 HB4.out (by omega)⟩
    by_cases hi : i = 2
    · subst hi
      go_upto_region 7 with fail
      cases hnew : newF v 37 nmO3 with
      | none =>
        have HNs := Aside0.mk hnew
        have HGn : Aside0 (getOF v = getFrom v (5 - (3 : Int)).toNat (1 + 3)) := ⟨HGF.out.trans (getFrom_none (n := 2) (k := 3) hnew)⟩
        clear hnew
        refine start_ (n := 16) (S := fun w' => Blk w' b0 #[.int .u8 v.f0, .int .u64 v.f1, .string v.f2, .slice A v.f3.length c] 25 ∧ Blk w' bN nmsC 9) (ds := []) #[false, false, false, false, false, false, false, false, false, false, false, false, false, false, false, false] (by kernel_rfl) rfl rfl ⟨HSi.out.1, HSi.out.2.2.1⟩ (fun hS => ?_)
        replace HSi := Aside0.mk ((HSi.out).below (below_drew (Below.refl _ _)))
        generalize wr.drew = wd5 at HSi hS ⊢
        refine take_ (i := 0) (N := some 22) (v := .agg #[.int .u8 v.f0, .int .u64 v.f1, .string v.f2, .slice A v.f3.length c]) #[true, false, false, false, false, false, false, false, false, false, false, false, false, false, false, false] rfl rfl (by kernel_rfl) (fun _ _ _ h => h) (Or.inl ⟨by rfl, ?_⟩) hS rfl ?_
        · rintro w' ⟨h0, h1⟩
          obtain ⟨e0, e1, e2, e3⟩ := h0.c4
          go_simp
        refine norm_ (a' := ?_) ?_ ?_
        rotate_left
        · try simp only [Act.put, putAll, List.setIfInBounds_toArray, List.set_cons_zero, List.set_cons_succ]
          rfl
        refine pure_ (i := 1) (N := some 23) (v := ?_) (a' := ?_) #[true, true, false, false, false, false, false, false, false, false, false, false, false, false, false, false] rfl rfl (by kernel_rfl) (fun _ _ _ h => h) (Or.inl ⟨by rfl, ?_⟩) ?_ ?_
        rotate_left
        · intro w'
          go_simp
          with_reducible rfl
        rotate_left
        · simp only [Act.put, List.setIfInBounds_toArray, List.set_cons_zero, List.set_cons_succ, i64_w, i32_w]
          rfl
        refine pure_ (i := 2) (N := some 24) (v := ?_) (a' := ?_) #[true, true, true, false, false, false, false, false, false, false, false, false, false, false, false, false] rfl rfl (by kernel_rfl) (fun _ _ _ h => h) (Or.inl ⟨by rfl, ?_⟩) ?_ ?_
        rotate_left
        · intro w'
          go_simp
          with_reducible rfl
        rotate_left
        · simp only [Act.put, List.setIfInBounds_toArray, List.set_cons_zero, List.set_cons_succ, i64_w, i32_w]
          rfl
        refine pure_ (i := 3) (N := some 25) (v := ?_) (a' := ?_) #[true, true, true, true, false, false, false, false, false, false, false, false, false, false, false, false] rfl rfl (by kernel_rfl) (fun _ _ _ h => h) (Or.inl ⟨by rfl, ?_⟩) ?_ ?_
        rotate_left
        · intro w'
          go_simp
          with_reducible rfl
        rotate_left
        · simp only [Act.put, List.setIfInBounds_toArray, List.set_cons_zero, List.set_cons_succ, i64_w, i32_w]
          rfl
        refine pure_ (i := 4) (N := some 26) (v := ?_) (a' := ?_) #[true, true, true, true, true, false, false, false, false, false, false, false, false, false, false, false] rfl rfl (by kernel_rfl) (fun _ _ _ h => h) (Or.inl ⟨by rfl, ?_⟩) ?_ ?_
        rotate_left
        · intro w'
          go_simp
          with_reducible rfl
        rotate_left
        · simp only [Act.put, List.setIfInBounds_toArray, List.set_cons_zero, List.set_cons_succ, i64_w, i32_w]
          rfl
        refine pure_ (i := 5) (N := some 27) (v := ?_) (a' := ?_) #[true, true, true, true, true, true, false, false, false, false, false, false, false, false, false, false] rfl rfl (by kernel_rfl) (fun _ _ _ h => h) (Or.inl ⟨by rfl, ?_⟩) ?_ ?_
        rotate_left
        · intro w'
          go_simp
          with_reducible rfl
        rotate_left
        · simp only [Act.put, List.setIfInBounds_toArray, List.set_cons_zero, List.set_cons_succ, i64_w, i32_w]
          rfl
        refine pure_ (i := 6) (N := some 28) (v := ?_) (a' := ?_) #[true, true, true, true, true, true, true, false, false, false, false, false, false, false, false, false] rfl rfl (by kernel_rfl) (fun _ _ _ h => h) (Or.inl ⟨by rfl, ?_⟩) ?_ ?_
        rotate_left
        · intro w'
          go_simp
          with_reducible rfl
        rotate_left
        · simp only [Act.put, List.setIfInBounds_toArray, List.set_cons_zero, List.set_cons_succ, i64_w, i32_w]
          rfl
        refine take_ (i := 7) (N := some 29) (v := .string ⟨#[114, 101, 106, 101, 99, 116, 101, 100]⟩) #[true, true, true, true, true, true, true, true, false, false, false, false, false, false, false, false] rfl rfl (by kernel_rfl) (fun _ _ _ h => h) (Or.inl ⟨by rfl, ?_⟩) hS rfl ?_
        · rintro w' ⟨h0, h1⟩
          have e0 : w'.cell? ⟨bN, 2, none⟩ = some (.string ⟨#[114, 101, 106, 101, 99, 116, 101, 100]⟩) := (blk_cell h1 2).trans rfl
          go_simp
        refine norm_ (a' := ?_) ?_ ?_
        rotate_left
        · try simp only [Act.put, putAll, List.setIfInBounds_toArray, List.set_cons_zero, List.set_cons_succ]
          rfl
        refine pure_ (i := 8) (N := some 30) (v := ?_) (a' := ?_) #[true, true, true, true, true, true, true, true, true, false, false, false, false, false, false, false] rfl rfl (by kernel_rfl) (fun _ _ _ h => h) (Or.inl ⟨by rfl, ?_⟩) ?_ ?_
        rotate_left
        · intro w'
          go_simp
          with_reducible rfl
        rotate_left
        · simp only [Act.put, List.setIfInBounds_toArray, List.set_cons_zero, List.set_cons_succ, i64_w, i32_w]
          rfl
        refine pure_ (i := 9) (N := some 31) (v := ?_) (a' := ?_) #[true, true, true, true, true, true, true, true, true, true, false, false, false, false, false, false] rfl rfl (by kernel_rfl) (fun _ _ _ h => h) (Or.inl ⟨by rfl, ?_⟩) ?_ ?_
        rotate_left
        · intro w'
          go_simp
          with_reducible rfl
        rotate_left
        · simp only [Act.put, List.setIfInBounds_toArray, List.set_cons_zero, List.set_cons_succ, i64_w, i32_w]
          rfl
        refine one_ (i := 10) (N := some 32) #[true, true, true, true, true, true, true, true, true, true, true, false, false, false, false, false] rfl rfl (by kernel_rfl) (by decide) (fun K hK => ?_)
        refine goes_ Tryz.func31 (by kernel_rfl) rfl #[.agg #[.int .u8 v.f0, .int .u64 v.f1, .string v.f2, .slice A v.f3.length c], .int .u64 37, .string nmO3] (by rfl) rfl rfl (by (try simp only [List.map_toArray, List.map_cons, List.map_nil]); first | done | rfl | kernel_rfl) ?_
        refine (new45_no v hs HOK.out 37 nmO3 A c _ HSi.out.2.2.2.1 hc HNs.out).mono ?_
        rintro e w3 ⟨rfl, hb3⟩
        refine ⟨_, rfl, ?_⟩
        have HS3 := Aside0.mk (HSi.out.below hb3)
        refine hK.out _ _ ⟨HS3.out.1, HS3.out.2.2.1⟩ (fun hS3 => ?_)
        clear hK K hb3 hS
        refine norm_ (a' := ?_) ?_ ?_
        rotate_left
        · try simp only [Act.put, putAll, List.setIfInBounds_toArray, List.set_cons_zero, List.set_cons_succ]
          rfl
        refine pure_ (i := 11) (N := some 21) (v := ?_) (a' := ?_) #[true, true, true, true, true, true, true, true, true, true, true, true, false, false, false, false] rfl rfl (by kernel_rfl) (fun _ _ _ h => h) (Or.inl ⟨by rfl, ?_⟩) ?_ ?_
        rotate_left
        · intro w'
          go_simp
          with_reducible rfl
        rotate_left
        · simp only [Act.put, List.setIfInBounds_toArray, List.set_cons_zero, List.set_cons_succ, i64_w, i32_w]
          rfl
        refine pure_ (i := 12) (N := some 33) (v := ?_) (a' := ?_) #[true, true, true, true, true, true, true, true, true, true, true, true, true, false, false, false] rfl rfl (by kernel_rfl) (fun _ _ _ h => h) (Or.inl ⟨by rfl, ?_⟩) ?_ ?_
        rotate_left
        · intro w'
          go_simp
          with_reducible rfl
        rotate_left
        · simp only [Act.put, List.setIfInBounds_toArray, List.set_cons_zero, List.set_cons_succ, i64_w, i32_w]
          rfl
        refine pure_ (i := 13) (N := some 34) (v := ?_) (a' := ?_) #[true, true, true, true, true, true, true, true, true, true, true, true, true, true, false, false] rfl rfl (by kernel_rfl) (fun _ _ _ h => h) (Or.inl ⟨by rfl, ?_⟩) ?_ ?_
        rotate_left
        · intro w'
          go_simp
          with_reducible rfl
        rotate_left
        · simp only [Act.put, List.setIfInBounds_toArray, List.set_cons_zero, List.set_cons_succ, i64_w, i32_w]
          rfl
        refine pure_ (i := 14) (N := some 6) (v := ?_) (a' := ?_) #[true, true, true, true, true, true, true, true, true, true, true, true, true, true, true, false] rfl rfl (by kernel_rfl) (fun _ _ _ h => h) (Or.inl ⟨by rfl, ?_⟩) ?_ ?_
        rotate_left
        · intro w'
          go_simp
          with_reducible rfl
        rotate_left
        · simp only [Act.put, List.setIfInBounds_toArray, List.set_cons_zero, List.set_cons_succ, i64_w, i32_w]
          rfl
        refine pure_ (i := 15) (N := some 7) (v := ?_) (a' := ?_) #[true, true, true, true, true, true, true, true, true, true, true, true, true, true, true, true] rfl rfl (by kernel_rfl) (fun _ _ _ h => h) (Or.inl ⟨by rfl, ?_⟩) ?_ ?_
        rotate_left
        · intro w'
          go_simp
          with_reducible rfl
        rotate_left
        · simp only [Act.put, List.setIfInBounds_toArray, List.set_cons_zero, List.set_cons_succ, i64_w, i32_w]
          rfl
        refine done_ (by kernel_rfl) ?_
        go_wp2_with fail
        go_roundg (5 - (3 : Int)).toNat
        case measure => rw [HG.out]; omega
        case rel => exact ⟨3, by go_num, ⟨by omega, by omega, rfl⟩, HGn, HS3⟩
      | some l =>
        have HNs := Aside0.mk hnew
        have hil := newF_items hnew
        have hol := newF_ok HOK.out hnew
        have HKI : Aside0 ((∀ x ∈ l, itemsN x ≤ 4294967296) ∧ okL l) := ⟨fun x hx => by have := itemsL_mem hx; omega, hol⟩
        have HGn : Aside0 (getOF v = getK 3 l) := ⟨HGF.out.trans (getFrom_some (n := 2) (k := 3) hnew)⟩
        rw [getK_3] at HGn
        clear hnew hil hol
        refine start_ (n := 16) (S := fun w' => Blk w' b0 #[.int .u8 v.f0, .int .u64 v.f1, .string v.f2, .slice A v.f3.length c] 25 ∧ Blk w' bN nmsC 9) (ds := []) #[false, false, false, false, false, false, false, false, false, false, false, false, false, false, false, false] (by kernel_rfl) rfl rfl ⟨HSi.out.1, HSi.out.2.2.1⟩ (fun hS => ?_)
        replace HSi := Aside0.mk ((HSi.out).below (below_drew (Below.refl _ _)))
        generalize wr.drew = wd6 at HSi hS ⊢
        refine take_ (i := 0) (N := some 22) (v := .agg #[.int .u8 v.f0, .int .u64 v.f1, .string v.f2, .slice A v.f3.length c]) #[true, false, false, false, false, false, false, false, false, false, false, false, false, false, false, false] rfl rfl (by kernel_rfl) (fun _ _ _ h => h) (Or.inl ⟨by rfl, ?_⟩) hS rfl ?_
        · rintro w' ⟨h0, h1⟩
          obtain ⟨e0, e1, e2, e3⟩ := h0.c4
          go_simp
        refine norm_ (a' := ?_) ?_ ?_
        rotate_left
        · try simp only [Act.put, putAll, List.setIfInBounds_toArray, List.set_cons_zero, List.set_cons_succ]
          rfl
        refine pure_ (i := 1) (N := some 23) (v := ?_) (a' := ?_) #[true, true, false, false, false, false, false, false, false, false, false, false, false, false, false, false] rfl rfl (by kernel_rfl) (fun _ _ _ h => h) (Or.inl ⟨by rfl, ?_⟩) ?_ ?_
        rotate_left
        · intro w'
          go_simp
          with_reducible rfl
        rotate_left
        · simp only [Act.put, List.setIfInBounds_toArray, List.set_cons_zero, List.set_cons_succ, i64_w, i32_w]
          rfl
        refine pure_ (i := 2) (N := some 24) (v := ?_) (a' := ?_) #[true, true, true, false, false, false, false, false, false, false, false, false, false, false, false, false] rfl rfl (by kernel_rfl) (fun _ _ _ h => h) (Or.inl ⟨by rfl, ?_⟩) ?_ ?_
        rotate_left
        · intro w'
          go_simp
          with_reducible rfl
        rotate_left
        · simp only [Act.put, List.setIfInBounds_toArray, List.set_cons_zero, List.set_cons_succ, i64_w, i32_w]
          rfl
        refine pure_ (i := 3) (N := some 25) (v := ?_) (a' := ?_) #[true, true, true, true, false, false, false, false, false, false, false, false, false, false, false, false] rfl rfl (by kernel_rfl) (fun _ _ _ h => h) (Or.inl ⟨by rfl, ?_⟩) ?_ ?_
        rotate_left
        · intro w'
          go_simp
          with_reducible rfl
        rotate_left
        · simp only [Act.put, List.setIfInBounds_toArray, List.set_cons_zero, List.set_cons_succ, i64_w, i32_w]
          rfl
        refine pure_ (i := 4) (N := some 26) (v := ?_) (a' := ?_) #[true, true, true, true, true, false, false, false, false, false, false, false, false, false, false, false] rfl rfl (by kernel_rfl) (fun _ _ _ h => h) (Or.inl ⟨by rfl, ?_⟩) ?_ ?_
        rotate_left
        · intro w'
          go_simp
          with_reducible rfl
        rotate_left
        · simp only [Act.put, List.setIfInBounds_toArray, List.set_cons_zero, List.set_cons_succ, i64_w, i32_w]
          rfl
        refine pure_ (i := 5) (N := some 27) (v := ?_) (a' := ?_) #[true, true, true, true, true, true, false, false, false, false, false, false, false, false, false, false] rfl rfl (by kernel_rfl) (fun _ _ _ h => h) (Or.inl ⟨by rfl, ?_⟩) ?_ ?_
        rotate_left
        · intro w'
          go_simp
          with_reducible rfl
        rotate_left
        · simp only [Act.put, List.setIfInBounds_toArray, List.set_cons_zero, List.set_cons_succ, i64_w, i32_w]
          rfl
        refine pure_ (i := 6) (N := some 28) (v := ?_) (a' := ?_) #[true, true, true, true, true, true, true, false, false, false, false, false, false, false, false, false] rfl rfl (by kernel_rfl) (fun _ _ _ h => h) (Or.inl ⟨by rfl, ?_⟩) ?_ ?_
        rotate_left
        · intro w'
          go_simp
          with_reducible rfl
        rotate_left
        · simp only [Act.put, List.setIfInBounds_toArray, List.set_cons_zero, List.set_cons_succ, i64_w, i32_w]
          rfl
        refine take_ (i := 7) (N := some 29) (v := .string ⟨#[114, 101, 106, 101, 99, 116, 101, 100]⟩) #[true, true, true, true, true, true, true, true, false, false, false, false, false, false, false, false] rfl rfl (by kernel_rfl) (fun _ _ _ h => h) (Or.inl ⟨by rfl, ?_⟩) hS rfl ?_
        · rintro w' ⟨h0, h1⟩
          have e0 : w'.cell? ⟨bN, 2, none⟩ = some (.string ⟨#[114, 101, 106, 101, 99, 116, 101, 100]⟩) := (blk_cell h1 2).trans rfl
          go_simp
        refine norm_ (a' := ?_) ?_ ?_
        rotate_left
        · try simp only [Act.put, putAll, List.setIfInBounds_toArray, List.set_cons_zero, List.set_cons_succ]
          rfl
        refine pure_ (i := 8) (N := some 30) (v := ?_) (a' := ?_) #[true, true, true, true, true, true, true, true, true, false, false, false, false, false, false, false] rfl rfl (by kernel_rfl) (fun _ _ _ h => h) (Or.inl ⟨by rfl, ?_⟩) ?_ ?_
        rotate_left
        · intro w'
          go_simp
          with_reducible rfl
        rotate_left
        · simp only [Act.put, List.setIfInBounds_toArray, List.set_cons_zero, List.set_cons_succ, i64_w, i32_w]
          rfl
        refine pure_ (i := 9) (N := some 31) (v := ?_) (a' := ?_) #[true, true, true, true, true, true, true, true, true, true, false, false, false, false, false, false] rfl rfl (by kernel_rfl) (fun _ _ _ h => h) (Or.inl ⟨by rfl, ?_⟩) ?_ ?_
        rotate_left
        · intro w'
          go_simp
          with_reducible rfl
        rotate_left
        · simp only [Act.put, List.setIfInBounds_toArray, List.set_cons_zero, List.set_cons_succ, i64_w, i32_w]
          rfl
        refine one_ (i := 10) (N := some 32) #[true, true, true, true, true, true, true, true, true, true, true, false, false, false, false, false] rfl rfl (by kernel_rfl) (by decide) (fun K hK => ?_)
        refine goes_ Tryz.func31 (by kernel_rfl) rfl #[.agg #[.int .u8 v.f0, .int .u64 v.f1, .string v.f2, .slice A v.f3.length c], .int .u64 37, .string nmO3] (by rfl) rfl rfl (by (try simp only [List.map_toArray, List.map_cons, List.map_nil]); first | done | rfl | kernel_rfl) ?_
        refine (new45_yes v hs HOK.out 37 nmO3 A c _ HSi.out.2.2.2.1 hc HNs.out).mono ?_
        rintro e w3 ⟨g, rfl, hgx, hfs, hb3⟩
        refine ⟨_, rfl, ?_⟩
        have HS3 := Aside0.mk (HSi.out.below hb3)
        have hgB := hfs.lt
        have HF3 := Aside0.mk hfs
        have hgw : w.heap.size ≤ g := by have := HSi.out.2.2.2.2.size; omega
        have hb1g : b1 < g := by have := HSi.out.2.1.lt; omega
        clear hfs
        refine hK.out _ _ ⟨HS3.out.1, HS3.out.2.2.1⟩ (fun hS3 => ?_)
        clear hK K hb3 hS
        refine norm_ (a' := ?_) ?_ ?_
        rotate_left
        · try simp only [Act.put, putAll, List.setIfInBounds_toArray, List.set_cons_zero, List.set_cons_succ]
          rfl
        refine pure_ (i := 11) (N := some 21) (v := ?_) (a' := ?_) #[true, true, true, true, true, true, true, true, true, true, true, true, false, false, false, false] rfl rfl (by kernel_rfl) (fun _ _ _ h => h) (Or.inl ⟨by rfl, ?_⟩) ?_ ?_
        rotate_left
        · intro w'
          go_simp
          with_reducible rfl
        rotate_left
        · simp only [Act.put, List.setIfInBounds_toArray, List.set_cons_zero, List.set_cons_succ, i64_w, i32_w]
          rfl
        refine pure_ (i := 12) (N := some 33) (v := ?_) (a' := ?_) #[true, true, true, true, true, true, true, true, true, true, true, true, true, false, false, false] rfl rfl (by kernel_rfl) (fun _ _ _ h => h) (Or.inl ⟨by rfl, ?_⟩) ?_ ?_
        rotate_left
        · intro w'
          go_simp
          with_reducible rfl
        rotate_left
        · simp only [Act.put, List.setIfInBounds_toArray, List.set_cons_zero, List.set_cons_succ, i64_w, i32_w]
          rfl
        refine pure_ (i := 13) (N := some 34) (v := ?_) (a' := ?_) #[true, true, true, true, true, true, true, true, true, true, true, true, true, true, false, false] rfl rfl (by kernel_rfl) (fun _ _ _ h => h) (Or.inl ⟨by rfl, ?_⟩) ?_ ?_
        rotate_left
        · intro w'
          go_simp
          with_reducible rfl
        rotate_left
        · simp only [Act.put, List.setIfInBounds_toArray, List.set_cons_zero, List.set_cons_succ, i64_w, i32_w]
          rfl
        refine pure_ (i := 14) (N := some 6) (v := ?_) (a' := ?_) #[true, true, true, true, true, true, true, true, true, true, true, true, true, true, true, false] rfl rfl (by kernel_rfl) (fun _ _ _ h => h) (Or.inl ⟨by rfl, ?_⟩) ?_ ?_
        rotate_left
        · intro w'
          go_simp
          with_reducible rfl
        rotate_left
        · simp only [Act.put, List.setIfInBounds_toArray, List.set_cons_zero, List.set_cons_succ, i64_w, i32_w]
          rfl
        refine pure_ (i := 15) (N := some 7) (v := ?_) (a' := ?_) #[true, true, true, true, true, true, true, true, true, true, true, true, true, true, true, true] rfl rfl (by kernel_rfl) (fun _ _ _ h => h) (Or.inl ⟨by rfl, ?_⟩) ?_ ?_
        rotate_left
        · intro w'
          go_simp
          with_reducible rfl
        rotate_left
        · simp only [Act.put, List.setIfInBounds_toArray, List.set_cons_zero, List.set_cons_succ, i64_w, i32_w]
          rfl
        refine done_ (by kernel_rfl) ?_
        go_upto_region 9 with fail
        have hO := Blk.new w3 #[.int .u8 3, .int .u64 0, .int .u64 0, .string ⟨#[]⟩] 37
        have hal4 := below_alloc (Below.refl w3.heap.size w3) (.cells #[.int .u8 3, .int .u64 0, .int .u64 0, .string ⟨#[]⟩] 37)
        have HF4 := Aside0.mk (HF3.out.below hal4)
        have HB4 := Aside0.mk (below_step HS3.out.2.2.2.2 hal4)
        have HRB := Aside0.mk (HS3.out.2.1.below hal4)
        have hb1 := HS3.out.2.1.lt
        have hs4 := hal4.size
        go_upto_region 11 with fail
        obtain ⟨bo, ebo⟩ : ∃ b, w3.heap.size = b := ⟨_, rfl⟩
        obtain ⟨w4, e4⟩ : ∃ W, w3.alloc (.cells #[.int .u8 3, .int .u64 0, .int .u64 0, .string ⟨#[]⟩] 37) = W := ⟨_, rfl⟩
        rw [e4] at hO HF4 HB4 HRB hs4 ⊢
        rw [ebo] at hO ⊢
        have HO4 := Aside0.mk hO
        clear e4 hO hal4
        obtain ⟨o0, o1, o2, o3⟩ := HO4.out.c4
        go_upto_region 17 with fail
        clear o0 o1 o2 o3
        have hv : itemsN ((atF l 0).getD vNul) ≤ 4294967296 ∧ okV ((atF l 0).getD vNul) := by
          cases hq : atF l 0 with
          | none => exact ⟨by decide, ok_vb _ (by kernel_rfl)⟩
          | some x => exact ⟨HKI.out.1 x (atF_mem hq), okL_mem HKI.out.2 (atF_mem hq)⟩
        have HV := Aside0.mk hv
        clear hv
        go_wp2_with fail
        refine (rvalue82_any HF4.out hs4 hgB HKI.out.1 0 [] none 0 ⟨rfl, by simp, fun h => absurd h (by simp)⟩ (Nat.le_refl _)).mono ?_
        rintro e w5 hp
        rw [tell_any, spoil_any, Bool.or_false] at hp
        obtain ⟨A5, c5, rfl, hR5, hfs, hbg⟩ := hp
        obtain ⟨u, eu⟩ : ∃ u, (atF l 0).getD vNul = u := ⟨_, rfl⟩
        rw [eu] at hR5 HV HGn ⊢
        clear eu
        have HC5 := Aside0.mk (Kd.R_reads' hR5).2
        have HF5 := Aside0.mk hfs
        have HO5 := Aside0.mk (HO4.out.bg hbg (by omega))
        replace HRB := Aside0.mk (HRB.out.bg hbg (by omega))
        have HB5 := Aside0.mk (below_bg HB4.out hbg (by omega) HB4.out.size)
        have hs5 := Nat.le_trans hs4 hbg.size
        clear hfs hbg hR5
        go_wp2_with fail
        refine (rgetCond10_any u HV.out.1 HV.out.2 A5 c5 _ HC5.out.2 HC5.out.1).mono ?_
        rintro e w6 ⟨he, hb6⟩
        have HF6 := Aside0.mk (HF5.out.below hb6)
        have HB6 := Aside0.mk (below_step HB5.out hb6)
        have HO6 := Aside0.mk (HO5.out.below hb6)
        replace HRB := Aside0.mk (HRB.out.below hb6)
        have hs6 := Nat.le_trans hs5 hb6.size
        clear hb6
        obtain ⟨s', es⟩ : ∃ s, (getCondF u).getD ⟨#[]⟩ = s := ⟨_, rfl⟩
        obtain ⟨ok', eok⟩ : ∃ s, (getCondF u).isSome = s := ⟨_, rfl⟩
        rw [es, eok] at he HGn
        subst he
        clear es eok
        obtain ⟨q0, q1, q2, q3⟩ := HO6.out.c4
        have fq := HO6.out.fz
        go_upto_region 19 with fail
        have HF7 := Aside0.mk (HF6.out.far (p := ⟨bo, 3, none⟩) (show w3.heap.size ≤ bo by omega) hgB (.string s'))
        have HO7 : Aside0 (Blk (w6.setCell ⟨bo, 3, none⟩ (.string s')) bo #[.int .u8 3, .int .u64 0, .int .u64 0, .string s'] 37) := ⟨blk_put (cs := #[.int .u8 3, .int .u64 0, .int .u64 0, .string ⟨#[]⟩]) HO6.out 3 _ rfl⟩
        replace HRB := Aside0.mk (HRB.out.far (p := ⟨bo, 3, none⟩) (show b1 ≠ bo by omega) (.string s'))
        have HB7 : Aside0 (Below w.heap.size w (w6.setCell ⟨bo, 3, none⟩ (.string s'))) := ⟨below_set HB6.out (by omega)⟩
        have hs7 : w3.heap.size ≤ (w6.setCell ⟨bo, 3, none⟩ (.string s')).heap.size := by simpa [World.setCell] using hs6
        obtain ⟨w7, e7⟩ : ∃ W, w6.setCell ⟨bo, 3, none⟩ (.string s') = W := ⟨_, rfl⟩
        rw [e7] at HRB HF7 HO7 HB7 hs7 ⊢
        clear e7 q0 q1 q2 q3 fq
        have hF7 := HF7.out
        obtain ⟨Af, cf, hG, hRf⟩ := hF7
        obtain ⟨g0, g1⟩ := hG.c2
        have fzg := hG.fz
        clear hG hRf
        cases ok' with
        | true =>
          go_upto_region 20 with fail
          have HF8 := Aside0.mk (HF7.out.set false)
          have HO8 := Aside0.mk (HO7.out.far (p := ⟨g, 1, none⟩) (show bo ≠ g by omega) (.bool false))
          replace HRB := Aside0.mk (HRB.out.far (p := ⟨g, 1, none⟩) (show b1 ≠ g by omega) (.bool false))
          have HB8 : Aside0 (Below w.heap.size w (w7.setCell ⟨g, 1, none⟩ (.bool false))) := ⟨below_set HB7.out (by omega)⟩
          have hs8 : w3.heap.size ≤ (w7.setCell ⟨g, 1, none⟩ (.bool false)).heap.size := by simpa [World.setCell] using hs7
          obtain ⟨w8, e8⟩ : ∃ W, w7.setCell ⟨g, 1, none⟩ (.bool false) = W := ⟨_, rfl⟩
          rw [e8] at HRB HF8 HO8 HB8 hs8 ⊢
          clear e8 g0 g1 fzg
          replace HGn : Aside0 (getOF v = if doneN l false 1 = 0 then some ⟨3, 0, 0, s'⟩ else none) := HGn
          go_wp2_with fail
          refine (done49_any HF8.out 1).mono ?_
          rintro e wz ⟨he, rfl⟩
          replace he : e = .returned (.int .i64 (doneN l false 1)) := he
          have HRz := HRB
          obtain ⟨q0, q1, q2, q3⟩ := HO8.out.c4
          obtain ⟨r0, r1, r2, r3⟩ := HRz.out.c4
          have fr := HRz.out.fz
          rcases done_or l false 1 with hd | hd
          · rw [if_pos hd] at HGn
            rw [hd] at he
            subst he
            clear hd
            go_wp2_with fail
            refine bodyPost_ret (results14 _ _ b1 #[.int .u8 3, .int .u64 0, .int .u64 0, .string s'] 0 rfl rfl (put4_any HRz.out _ _ _ _) rfl) rfl ?_
            exact ⟨by rw [HGn.out]; rfl, below_set4 HB8.out (by omega)⟩
          · rw [if_neg (by rw [hd]; decide)] at HGn
            rw [hd] at he
            subst he
            clear hd
            go_wp2_with fail
            refine bodyPost_ret (results14 _ _ b1 #[.int .u8 0, .int .u64 0, .int .u64 0, .string ⟨#[]⟩] 6 rfl rfl (put4_any HRz.out _ _ _ _) rfl) rfl ?_
            exact ⟨by rw [HGn.out]; rfl, below_set4 HB8.out (by omega)⟩
        | false =>
          go_upto_region 20 with fail
          have HF8 := Aside0.mk (HF7.out.set true)
          have HO8 := Aside0.mk (HO7.out.far (p := ⟨g, 1, none⟩) (show bo ≠ g by omega) (.bool true))
          replace HRB := Aside0.mk (HRB.out.far (p := ⟨g, 1, none⟩) (show b1 ≠ g by omega) (.bool true))
          have HB8 : Aside0 (Below w.heap.size w (w7.setCell ⟨g, 1, none⟩ (.bool true))) := ⟨below_set HB7.out (by omega)⟩
          have hs8 : w3.heap.size ≤ (w7.setCell ⟨g, 1, none⟩ (.bool true)).heap.size := by simpa [World.setCell] using hs7
          obtain ⟨w8, e8⟩ : ∃ W, w7.setCell ⟨g, 1, none⟩ (.bool true) = W := ⟨_, rfl⟩
          rw [e8] at HRB HF8 HO8 HB8 hs8 ⊢
          clear e8 g0 g1 fzg
          replace HGn : Aside0 (getOF v = if doneN l true 1 = 0 then some ⟨3, 0, 0, s'⟩ else none) := HGn
          go_wp2_with fail
          refine (done49_any HF8.out 1).mono ?_
          rintro e wz ⟨he, rfl⟩
          replace he : e = .returned (.int .i64 (doneN l true 1)) := he
          have HRz := HRB
          obtain ⟨q0, q1, q2, q3⟩ := HO8.out.c4
          obtain ⟨r0, r1, r2, r3⟩ := HRz.out.c4
          have fr := HRz.out.fz
          rcases done_or l true 1 with hd | hd
          · rw [if_pos hd] at HGn
            rw [hd] at he
            subst he
            clear hd
            go_wp2_with fail
            refine bodyPost_ret (results14 _ _ b1 #[.int .u8 3, .int .u64 0, .int .u64 0, .string s'] 0 rfl rfl (put4_any HRz.out _ _ _ _) rfl) rfl ?_
            exact ⟨by rw [HGn.out]; rfl, below_set4 HB8.out (by omega)⟩
          · rw [if_neg (by rw [hd]; decide)] at HGn
            rw [hd] at he
            subst he
            clear hd
            go_wp2_with fail
            refine bodyPost_ret (results14 _ _ b1 #[.int .u8 0, .int .u64 0, .int .u64 0, .string ⟨#[]⟩] 6 rfl rfl (put4_any HRz.out _ _ _ _) rfl) rfl ?_
            exact ⟨by rw [HGn.out]; rfl, below_set4 HB8.out (by omega)⟩
    by_cases hi : i = 3
    · subst hi
      go_upto_region 7 with fail
      cases hnew : newF v 38 nmO4 with
      | none =>
        have HNs := Aside0.mk hnew
        have HGn : Aside0 (getOF v = getFrom v (5 - (4 : Int)).toNat (1 + 4)) := ⟨HGF.out.trans (getFrom_none (n := 1) (k := 4) hnew)⟩
        clear hnew
        refine start_ (n := 16) (S := fun w' => Blk w' b0 #[.int .u8 v.f0, .int .u64 v.f1, .string v.f2, .slice A v.f3.length c] 25 ∧ Blk w' bN nmsC 9) (ds := []) #[false, false, false, false, false, false, false, false, false, false, false, false, false, false, false, false] (by kernel_rfl) rfl rfl ⟨HSi.out.1, HSi.out.2.2.1⟩ (fun hS => ?_)
        replace HSi := Aside0.mk ((HSi.out).below (below_drew (Below.refl _ _)))
        generalize wr.drew = wd7 at HSi hS ⊢
        refine take_ (i := 0) (N := some 22) (v := .agg #[.int .u8 v.f0, .int .u64 v.f1, .string v.f2, .slice A v.f3.length c]) #[true, false, false, false, false, false, false, false, false, false, false, false, false, false, false, false] rfl rfl (by kernel_rfl) (fun _ _ _ h => h) (Or.inl ⟨by rfl, ?_⟩) hS rfl ?_
        · rintro w' ⟨h0, h1⟩
          obtain ⟨e0, e1, e2, e3⟩ := h0.c4
          go_simp
        refine norm_ (a' := ?_) ?_ ?_
        rotate_left
        · try simp only [Act.put, putAll, List.setIfInBounds_toArray, List.set_cons_zero, List.set_cons_succ]
          rfl
        refine pure_ (i := 1) (N := some 23) (v := ?_) (a' := ?_) #[true, true, false, false, false, false, false, false, false, false, false, false, false, false, false, false] rfl rfl (by kernel_rfl) (fun _ _ _ h => h) (Or.inl ⟨by rfl, ?_⟩) ?_ ?_
        rotate_left
        · intro w'
          go_simp
          with_reducible rfl
        rotate_left
        · simp only [Act.put, List.setIfInBounds_toArray, List.set_cons_zero, List.set_cons_succ, i64_w, i32_w]
          rfl
        refine pure_ (i := 2) (N := some 24) (v := ?_) (a' := ?_) #[true, true, true, false, false, false, false, false, false, false, false, false, false, false, false, false] rfl rfl (by kernel_rfl) (fun _ _ _ h => h) (Or.inl ⟨by rfl, ?_⟩) ?_ ?_
        rotate_left
        · intro w'
          go_simp
          with_reducible rfl
        rotate_left
        · simp only [Act.put, List.setIfInBounds_toArray, List.set_cons_zero, List.set_cons_succ, i64_w, i32_w]
          rfl
        refine pure_ (i := 3) (N := some 25) (v := ?_) (a' := ?_) #[true, true, true, true, false, false, false, false, false, false, false, false, false, false, false, false] rfl rfl (by kernel_rfl) (fun _ _ _ h => h) (Or.inl ⟨by rfl, ?_⟩) ?_ ?_
        rotate_left
        · intro w'
          go_simp
          with_reducible rfl
        rotate_left
        · simp only [Act.put, List.setIfInBounds_toArray, List.set_cons_zero, List.set_cons_succ, i64_w, i32_w]
          rfl
        refine pure_ (i := 4) (N := some 26) (v := ?_) (a' := ?_) #[true, true, true, true, true, false, false, false, false, false, false, false, false, false, false, false] rfl rfl (by kernel_rfl) (fun _ _ _ h => h) (Or.inl ⟨by rfl, ?_⟩) ?_ ?_
        rotate_left
        · intro w'
          go_simp
          with_reducible rfl
        rotate_left
        · simp only [Act.put, List.setIfInBounds_toArray, List.set_cons_zero, List.set_cons_succ, i64_w, i32_w]
          rfl
        refine pure_ (i := 5) (N := some 27) (v := ?_) (a' := ?_) #[true, true, true, true, true, true, false, false, false, false, false, false, false, false, false, false] rfl rfl (by kernel_rfl) (fun _ _ _ h => h) (Or.inl ⟨by rfl, ?_⟩) ?_ ?_
        rotate_left
        · intro w'
          go_simp
          with_reducible rfl
        rotate_left
        · simp only [Act.put, List.setIfInBounds_toArray, List.set_cons_zero, List.set_cons_succ, i64_w, i32_w]
          rfl
        refine pure_ (i := 6) (N := some 28) (v := ?_) (a' := ?_) #[true, true, true, true, true, true, true, false, false, false, false, false, false, false, false, false] rfl rfl (by kernel_rfl) (fun _ _ _ h => h) (Or.inl ⟨by rfl, ?_⟩) ?_ ?_
        rotate_left
        · intro w'
          go_simp
          with_reducible rfl
        rotate_left
        · simp only [Act.put, List.setIfInBounds_toArray, List.set_cons_zero, List.set_cons_succ, i64_w, i32_w]
          rfl
        refine take_ (i := 7) (N := some 29) (v := .string ⟨#[114, 101, 108, 101, 97, 115, 101, 100]⟩) #[true, true, true, true, true, true, true, true, false, false, false, false, false, false, false, false] rfl rfl (by kernel_rfl) (fun _ _ _ h => h) (Or.inl ⟨by rfl, ?_⟩) hS rfl ?_
        · rintro w' ⟨h0, h1⟩
          have e0 : w'.cell? ⟨bN, 3, none⟩ = some (.string ⟨#[114, 101, 108, 101, 97, 115, 101, 100]⟩) := (blk_cell h1 3).trans rfl
          go_simp
        refine norm_ (a' := ?_) ?_ ?_
        rotate_left
        · try simp only [Act.put, putAll, List.setIfInBounds_toArray, List.set_cons_zero, List.set_cons_succ]
          rfl
        refine pure_ (i := 8) (N := some 30) (v := ?_) (a' := ?_) #[true, true, true, true, true, true, true, true, true, false, false, false, false, false, false, false] rfl rfl (by kernel_rfl) (fun _ _ _ h => h) (Or.inl ⟨by rfl, ?_⟩) ?_ ?_
        rotate_left
        · intro w'
          go_simp
          with_reducible rfl
        rotate_left
        · simp only [Act.put, List.setIfInBounds_toArray, List.set_cons_zero, List.set_cons_succ, i64_w, i32_w]
          rfl
        refine pure_ (i := 9) (N := some 31) (v := ?_) (a' := ?_) #[true, true, true, true, true, true, true, true, true, true, false, false, false, false, false, false] rfl rfl (by kernel_rfl) (fun _ _ _ h => h) (Or.inl ⟨by rfl, ?_⟩) ?_ ?_
        rotate_left
        · intro w'
          go_simp
          with_reducible rfl
        rotate_left
        · simp only [Act.put, List.setIfInBounds_toArray, List.set_cons_zero, List.set_cons_succ, i64_w, i32_w]
          rfl
        refine one_ (i := 10) (N := some 32) #[true, true, true, true, true, true, true, true, true, true, true, false, false, false, false, false] rfl rfl (by kernel_rfl) (by decide) (fun K hK => ?_)
        refine goes_ Tryz.func31 (by kernel_rfl) rfl #[.agg #[.int .u8 v.f0, .int .u64 v.f1, .string v.f2, .slice A v.f3.length c], .int .u64 38, .string nmO4] (by rfl) rfl rfl (by (try simp only [List.map_toArray, List.map_cons, List.map_nil]); first | done | rfl | kernel_rfl) ?_
        refine (new45_no v hs HOK.out 38 nmO4 A c _ HSi.out.2.2.2.1 hc HNs.out).mono ?_
        rintro e w3 ⟨rfl, hb3⟩
        refine ⟨_, rfl, ?_⟩
        have HS3 := Aside0.mk (HSi.out.below hb3)
        refine hK.out _ _ ⟨HS3.out.1, HS3.out.2.2.1⟩ (fun hS3 => ?_)
        clear hK K hb3 hS
        refine norm_ (a' := ?_) ?_ ?_
        rotate_left
        · try simp only [Act.put, putAll, List.setIfInBounds_toArray, List.set_cons_zero, List.set_cons_succ]
          rfl
        refine pure_ (i := 11) (N := some 21) (v := ?_) (a' := ?_) #[true, true, true, true, true, true, true, true, true, true, true, true, false, false, false, false] rfl rfl (by kernel_rfl) (fun _ _ _ h => h) (Or.inl ⟨by rfl, ?_⟩) ?_ ?_
        rotate_left
        · intro w'
          go_simp
          with_reducible rfl
        rotate_left
        · simp only [Act.put, List.setIfInBounds_toArray, List.set_cons_zero, List.set_cons_succ, i64_w, i32_w]
          rfl
        refine pure_ (i := 12) (N := some 33) (v := ?_) (a' := ?_) #[true, true, true, true, true, true, true, true, true, true, true, true, true, false, false, false] rfl rfl (by kernel_rfl) (fun _ _ _ h => h) (Or.inl ⟨by rfl, ?_⟩) ?_ ?_
        rotate_left
        · intro w'
          go_simp
          with_reducible rfl
        rotate_left
        · simp only [Act.put, List.setIfInBounds_toArray, List.set_cons_zero, List.set_cons_succ, i64_w, i32_w]
          rfl
        refine pure_ (i := 13) (N := some 34) (v := ?_) (a' := ?_) #[true, true, true, true, true, true, true, true, true, true, true, true, true, true, false, false] rfl rfl (by kernel_rfl) (fun _ _ _ h => h) (Or.inl ⟨by rfl, ?_⟩) ?_ ?_
        rotate_left
        · intro w'
          go_simp
          with_reducible rfl
        rotate_left
        · simp only [Act.put, List.setIfInBounds_toArray, List.set_cons_zero, List.set_cons_succ, i64_w, i32_w]
          rfl
        refine pure_ (i := 14) (N := some 6) (v := ?_) (a' := ?_) #[true, true, true, true, true, true, true, true, true, true, true, true, true, true, true, false] rfl rfl (by kernel_rfl) (fun _ _ _ h => h) (Or.inl ⟨by rfl, ?_⟩) ?_ ?_
        rotate_left
        · intro w'
          go_simp
          with_reducible rfl
        rotate_left
        · simp only [Act.put, List.setIfInBounds_toArray, List.set_cons_zero, List.set_cons_succ, i64_w, i32_w]
          rfl
        refine pure_ (i := 15) (N := some 7) (v := ?_) (a' := ?_) #[true, true, true, true, true, true, true, true, true, true, true, true, true, true, true, true] rfl rfl (by kernel_rfl) (fun _ _ _ h => h) (Or.inl ⟨by rfl, ?_⟩) ?_ ?_
        rotate_left
        · intro w'
          go_simp
          with_reducible rfl
        rotate_left
        · simp only [Act.put, List.setIfInBounds_toArray, List.set_cons_zero, List.set_cons_succ, i64_w, i32_w]
          rfl
        refine done_ (by kernel_rfl) ?_
        go_wp2_with fail
        go_roundg (5 - (4 : Int)).toNat
        case measure => rw [HG.out]; omega
        case rel => exact ⟨4, by go_num, ⟨by omega, by omega, rfl⟩, HGn, HS3⟩
      | some l =>
        have HNs := Aside0.mk hnew
        have hil := newF_items hnew
        have hol := newF_ok HOK.out hnew
        have HKI : Aside0 ((∀ x ∈ l, itemsN x ≤ 4294967296) ∧ okL l) := ⟨fun x hx => by have := itemsL_mem hx; omega, hol⟩
        have HGn : Aside0 (getOF v = getK 4 l) := ⟨HGF.out.trans (getFrom_some (n := 1) (k := 4) hnew)⟩
        rw [getK_4] at HGn
        clear hnew hil hol
        refine start_ (n := 16) (S := fun w' => Blk w' b0 #[.int .u8 v.f0, .int .u64 v.f1, .string v.f2, .slice A v.f3.length c] 25 ∧ Blk w' bN nmsC 9) (ds := []) #[false, false, false, false, false, false, false, false, false, false, false, false, false, false, false, false] (by kernel_rfl) rfl rfl ⟨HSi.out.1, HSi.out.2.2.1⟩ (fun hS => ?_)
        replace HSi := Aside0.mk ((HSi.out).below (below_drew (Below.refl _ _)))
        generalize wr.drew = wd8 at HSi hS ⊢
        refine take_ (i := 0) (N := some 22) (v := .agg #[.int .u8 v.f0, .int .u64 v.f1, .string v.f2, .slice A v.f3.length c]) #[true, false, false, false, false, false, false, false, false, false, false, false, false, false, false, false] rfl rfl (by kernel_rfl) (fun _ _ _ h => h) (Or.inl ⟨by rfl, ?_⟩) hS rfl ?_
        · rintro w' ⟨h0, h1⟩
          obtain ⟨e0, e1, e2, e3⟩ := h0.c4
          go_simp
        refine norm_ (a' := ?_) ?_ ?_
        rotate_left
        · try simp only [Act.put, putAll, List.setIfInBounds_toArray, List.set_cons_zero, List.set_cons_succ]
          rfl
        refine pure_ (i := 1) (N := some 23) (v := ?_) (a' := ?_) #[true, true, false, false, false, false, false, false, false, false, false, false, false, false, false, false] rfl rfl (by kernel_rfl) (fun _ _ _ h => h) (Or.inl ⟨by rfl, ?_⟩) ?_ ?_
        rotate_left
        · intro w'
          go_simp
          with_reducible rfl
        rotate_left
        · simp only [Act.put, List.setIfInBounds_toArray, List.set_cons_zero, List.set_cons_succ, i64_w, i32_w]
          rfl
        refine pure_ (i := 2) (N := some 24) (v := ?_) (a' := ?_) #[true, true, true, false, false, false, false, false, false, false, false, false, false, false, false, false] rfl rfl (by kernel_rfl) (fun _ _ _ h => h) (Or.inl ⟨by rfl, ?_⟩) ?_ ?_
        rotate_left
        · intro w'
          go_simp
          with_reducible rfl
        rotate_left
        · simp only [Act.put, List.setIfInBounds_toArray, List.set_cons_zero, List.set_cons_succ, i64_w, i32_w]
          rfl
        refine pure_ (i := 3) (N := some 25) (v := ?_) (a' := ?_) #[true, true, true, true, false, false, false, false, false, false, false, false, false, false, false, false] rfl rfl (by kernel_rfl) (fun _ _ _ h => h) (Or.inl ⟨by rfl, ?_⟩) ?_ ?_
        rotate_left
        · intro w'
          go_simp
          with_reducible rfl
        rotate_left
        · simp only [Act.put, List.setIfInBounds_toArray, List.set_cons_zero, List.set_cons_succ, i64_w, i32_w]
          rfl
        refine pure_ (i := 4) (N := some 26) (v := ?_) (a' := ?_) #[true, true, true, true, true, false, false, false, false, false, false, false, false, false, false, false] rfl rfl (by kernel_rfl) (fun _ _ _ h => h) (Or.inl ⟨by rfl, ?_⟩) ?_ ?_
        rotate_left
        · intro w'
          go_simp
          with_reducible rfl
        rotate_left
        · simp only [Act.put, List.setIfInBounds_toArray, List.set_cons_zero, List.set_cons_succ, i64_w, i32_w]
          rfl
        refine pure_ (i := 5) (N := some 27) (v := ?_) (a' := ?_) #[true, true, true, true, true, true, false, false, false, false, false, false, false, false, false, false] rfl rfl (by kernel_rfl) (fun _ _ _ h => h) (Or.inl ⟨by rfl, ?_⟩) ?_ ?_
        rotate_left
        · intro w'
          go_simp
          with_reducible rfl
        rotate_left
        · simp only [Act.put, List.setIfInBounds_toArray, List.set_cons_zero, List.set_cons_succ, i64_w, i32_w]
          rfl
        refine pure_ (i := 6) (N := some 28) (v := ?_) (a' := ?_) #[true, true, true, true, true, true, true, false, false, false, false, false, false, false, false, false] rfl rfl (by kernel_rfl) (fun _ _ _ h => h) (Or.inl ⟨by rfl, ?_⟩) ?_ ?_
        rotate_left
        · intro w'
          go_simp
          with_reducible rfl
        rotate_left
        · simp only [Act.put, List.setIfInBounds_toArray, List.set_cons_zero, List.set_cons_succ, i64_w, i32_w]
          rfl
        refine take_ (i := 7) (N := some 29) (v := .string ⟨#[114, 101, 108, 101, 97, 115, 101, 100]⟩) #[true, true, true, true, true, true, true, true, false, false, false, false, false, false, false, false] rfl rfl (by kernel_rfl) (fun _ _ _ h => h) (Or.inl ⟨by rfl, ?_⟩) hS rfl ?_
        · rintro w' ⟨h0, h1⟩
          have e0 : w'.cell? ⟨bN, 3, none⟩ = some (.string ⟨#[114, 101, 108, 101, 97, 115, 101, 100]⟩) := (blk_cell h1 3).trans rfl
          go_simp
        refine norm_ (a' := ?_) ?_ ?_
        rotate_left
        · try simp only [Act.put, putAll, List.setIfInBounds_toArray, List.set_cons_zero, List.set_cons_succ]
          rfl
        refine pure_ (i := 8) (N := some 30) (v := ?_) (a' := ?_) #[true, true, true, true, true, true, true, true, true, false, false, false, false, false, false, false] rfl rfl (by kernel_rfl) (fun _ _ _ h => h) (Or.inl ⟨by rfl, ?_⟩) ?_ ?_
        rotate_left
        · intro w'
          go_simp
          with_reducible rfl
        rotate_left
        · simp only [Act.put, List.setIfInBounds_toArray, List.set_cons_zero, List.set_cons_succ, i64_w, i32_w]
          rfl
        refine pure_ (i := 9) (N := some 31) (v := ?_) (a' := ?_) #[true, true, true, true, true, true, true, true, true, true, false, false, false, false, false, false] rfl rfl (by kernel_rfl) (fun _ _ _ h => h) (Or.inl ⟨by rfl, ?_⟩) ?_ ?_
        rotate_left
        · intro w'
          go_simp
          with_reducible rfl
        rotate_left
        · simp only [Act.put, List.setIfInBounds_toArray, List.set_cons_zero, List.set_cons_succ, i64_w, i32_w]
          rfl
        refine one_ (i := 10) (N := some 32) #[true, true, true, true, true, true, true, true, true, true, true, false, false, false, false, false] rfl rfl (by kernel_rfl) (by decide) (fun K hK => ?_)
        refine goes_ Tryz.func31 (by kernel_rfl) rfl #[.agg #[.int .u8 v.f0, .int .u64 v.f1, .string v.f2, .slice A v.f3.length c], .int .u64 38, .string nmO4] (by rfl) rfl rfl (by (try simp only [List.map_toArray, List.map_cons, List.map_nil]); first | done | rfl | kernel_rfl) ?_
        refine (new45_yes v hs HOK.out 38 nmO4 A c _ HSi.out.2.2.2.1 hc HNs.out).mono ?_
        rintro e w3 ⟨g, rfl, hgx, hfs, hb3⟩
        refine ⟨_, rfl, ?_⟩
        have HS3 := Aside0.mk (HSi.out.below hb3)
        have hgB := hfs.lt
        have HF3 := Aside0.mk hfs
        have hgw : w.heap.size ≤ g := by have := HSi.out.2.2.2.2.size; omega
        have hb1g : b1 < g := by have := HSi.out.2.1.lt; omega
        clear hfs
        refine hK.out _ _ ⟨HS3.out.1, HS3.out.2.2.1⟩ (fun hS3 => ?_)
        clear hK K hb3 hS
        refine norm_ (a' := ?_) ?_ ?_
        rotate_left
        · try simp only [Act.put, putAll, List.setIfInBounds_toArray, List.set_cons_zero, List.set_cons_succ]
          rfl
        refine pure_ (i := 11) (N := some 21) (v := ?_) (a' := ?_) #[true, true, true, true, true, true, true, true, true, true, true, true, false, false, false, false] rfl rfl (by kernel_rfl) (fun _ _ _ h => h) (Or.inl ⟨by rfl, ?_⟩) ?_ ?_
        rotate_left
        · intro w'
          go_simp
          with_reducible rfl
        rotate_left
        · simp only [Act.put, List.setIfInBounds_toArray, List.set_cons_zero, List.set_cons_succ, i64_w, i32_w]
          rfl
        refine pure_ (i := 12) (N := some 33) (v := ?_) (a' := ?_) #[true, true, true, true, true, true, true, true, true, true, true, true, true, false, false, false] rfl rfl (by kernel_rfl) (fun _ _ _ h => h) (Or.inl ⟨by rfl, ?_⟩) ?_ ?_
        rotate_left
        · intro w'
          go_simp
          with_reducible rfl
        rotate_left
        · simp only [Act.put, List.setIfInBounds_toArray, List.set_cons_zero, List.set_cons_succ, i64_w, i32_w]
          rfl
        refine pure_ (i := 13) (N := some 34) (v := ?_) (a' := ?_) #[true, true, true, true, true, true, true, true, true, true, true, true, true, true, false, false] rfl rfl (by kernel_rfl) (fun _ _ _ h => h) (Or.inl ⟨by rfl, ?_⟩) ?_ ?_
        rotate_left
        · intro w'
          go_simp
          with_reducible rfl
        rotate_left
        · simp only [Act.put, List.setIfInBounds_toArray, List.set_cons_zero, List.set_cons_succ, i64_w, i32_w]
          rfl
        refine pure_ (i := 14) (N := some 6) (v := ?_) (a' := ?_) #[true, true, true, true, true, true, true, true, true, true, true, true, true, true, true, false] rfl rfl (by kernel_rfl) (fun _ _ _ h => h) (Or.inl ⟨by rfl, ?_⟩) ?_ ?_
        rotate_left
        · intro w'
          go_simp
          with_reducible rfl
        rotate_left
        · simp only [Act.put, List.setIfInBounds_toArray, List.set_cons_zero, List.set_cons_succ, i64_w, i32_w]
          rfl
        refine pure_ (i := 15) (N := some 7) (v := ?_) (a' := ?_) #[true, true, true, true, true, true, true, true, true, true, true, true, true, true, true, true] rfl rfl (by kernel_rfl) (fun _ _ _ h => h) (Or.inl ⟨by rfl, ?_⟩) ?_ ?_
        rotate_left
        · intro w'
          go_simp
          with_reducible rfl
        rotate_left
        · simp only [Act.put, List.setIfInBounds_toArray, List.set_cons_zero, List.set_cons_succ, i64_w, i32_w]
          rfl
        refine done_ (by kernel_rfl) ?_
        go_upto_region 9 with fail
        have hO := Blk.new w3 #[.int .u8 4, .int .u64 0, .int .u64 0, .string ⟨#[]⟩] 37
        have hal4 := below_alloc (Below.refl w3.heap.size w3) (.cells #[.int .u8 4, .int .u64 0, .int .u64 0, .string ⟨#[]⟩] 37)
        have HF4 := Aside0.mk (HF3.out.below hal4)
        have HB4 := Aside0.mk (below_step HS3.out.2.2.2.2 hal4)
        have HRB := Aside0.mk (HS3.out.2.1.below hal4)
        have hb1 := HS3.out.2.1.lt
        have hs4 := hal4.size
        go_upto_region 11 with fail
        obtain ⟨bo, ebo⟩ : ∃ b, w3.heap.size = b := ⟨_, rfl⟩
        obtain ⟨w4, e4⟩ : ∃ W, w3.alloc (.cells #[.int .u8 4, .int .u64 0, .int .u64 0, .string ⟨#[]⟩] 37) = W := ⟨_, rfl⟩
        rw [e4] at hO HF4 HB4 HRB hs4 ⊢
        rw [ebo] at hO ⊢
        have HO4 := Aside0.mk hO
        clear e4 hO hal4
        obtain ⟨o0, o1, o2, o3⟩ := HO4.out.c4
        go_upto_region 26 with fail
        clear o0 o1 o2 o3
        go_wp2_with fail
        refine (done49_any HF4.out 0).mono ?_
        rintro e wz ⟨he, rfl⟩
        replace he : e = .returned (.int .i64 (doneN l false 0)) := he
        have HRz := HRB
        obtain ⟨q0, q1, q2, q3⟩ := HO4.out.c4
        obtain ⟨r0, r1, r2, r3⟩ := HRz.out.c4
        have fr := HRz.out.fz
        rcases done_or l false 0 with hd | hd
        · rw [if_pos hd] at HGn
          rw [hd] at he
          subst he
          clear hd
          go_wp2_with fail
          refine bodyPost_ret (results14 _ _ b1 #[.int .u8 4, .int .u64 0, .int .u64 0, .string ⟨#[]⟩] 0 rfl rfl (put4_any HRz.out _ _ _ _) rfl) rfl ?_
          exact ⟨by rw [HGn.out]; rfl, below_set4 HB4.out (by omega)⟩
        · rw [if_neg (by rw [hd]; decide)] at HGn
          rw [hd] at he
          subst he
          clear hd
          go_wp2_with fail
          refine bodyPost_ret (results14 _ _ b1 #[.int .u8 0, .int .u64 0, .int .u64 0, .string ⟨#[]⟩] 6 rfl rfl (put4_any HRz.out _ _ _ _) rfl) rfl ?_
          exact ⟨by rw [HGn.out]; rfl, below_set4 HB4.out (by omega)⟩
    by_cases hi : i = 4
    · subst hi
      go_upto_region 7 with fail
      cases hnew : newF v 39 nmO5 with
      | none =>
        have HNs := Aside0.mk hnew
        have HGn : Aside0 (getOF v = getFrom v (5 - (5 : Int)).toNat (1 + 5)) := ⟨HGF.out.trans (getFrom_none (n := 0) (k := 5) hnew)⟩
        clear hnew
        refine start_ (n := 16) (S := fun w' => Blk w' b0 #[.int .u8 v.f0, .int .u64 v.f1, .string v.f2, .slice A v.f3.length c] 25 ∧ Blk w' bN nmsC 9) (ds := []) #[false, false, false, false, false, false, false, false, false, false, false, false, false, false, false, false] (by kernel_rfl) rfl rfl ⟨HSi.out.1, HSi.out.2.2.1⟩ (fun hS => ?_)
        replace HSi := Aside0.mk ((HSi.out).below (below_drew (Below.refl _ _)))
        generalize wr.drew = wd9 at HSi hS ⊢
        refine take_ (i := 0) (N := some 22) (v := .agg #[.int .u8 v.f0, .int .u64 v.f1, .string v.f2, .slice A v.f3.length c]) #[true, false, false, false, false, false, false, false, false, false, false, false, false, false, false, false] rfl rfl (by kernel_rfl) (fun _ _ _ h => h) (Or.inl ⟨by rfl, ?_⟩) hS rfl ?_
        · rintro w' ⟨h0, h1⟩
          obtain ⟨e0, e1, e2, e3⟩ := h0.c4
          go_simp
        refine norm_ (a' := ?_) ?_ ?_
        rotate_left
        · try simp only [Act.put, putAll, List.setIfInBounds_toArray, List.set_cons_zero, List.set_cons_succ]
          rfl
        refine pure_ (i := 1) (N := some 23) (v := ?_) (a' := ?_) #[true, true, false, false, false, false, false, false, false, false, false, false, false, false, false, false] rfl rfl (by kernel_rfl) (fun _ _ _ h => h) (Or.inl ⟨by rfl, ?_⟩) ?_ ?_
        rotate_left
        · intro w'
          go_simp
          with_reducible rfl
        rotate_left
        · simp only [Act.put, List.setIfInBounds_toArray, List.set_cons_zero, List.set_cons_succ, i64_w, i32_w]
          rfl
        refine pure_ (i := 2) (N := some 24) (v := ?_) (a' := ?_) #[true, true, true, false, false, false, false, false, false, false, false, false, false, false, false, false] rfl rfl (by kernel_rfl) (fun _ _ _ h => h) (Or.inl ⟨by rfl, ?_⟩) ?_ ?_
        rotate_left
        · intro w'
          go_simp
          with_reducible rfl
        rotate_left
        · simp only [Act.put, List.setIfInBounds_toArray, List.set_cons_zero, List.set_cons_succ, i64_w, i32_w]
          rfl
        refine pure_ (i := 3) (N := some 25) (v := ?_) (a' := ?_) #[true, true, true, true, false, false, false, false, false, false, false, false, false, false, false, false] rfl rfl (by kernel_rfl) (fun _ _ _ h => h) (Or.inl ⟨by rfl, ?_⟩) ?_ ?_
        rotate_left
        · intro w'
          go_simp
          with_reducible rfl
        rotate_left
        · simp only [Act.put, List.setIfInBounds_toArray, List.set_cons_zero, List.set_cons_succ, i64_w, i32_w]
          rfl
        refine pure_ (i := 4) (N := some 26) (v := ?_) (a' := ?_) #[true, true, true, true, true, false, false, false, false, false, false, false, false, false, false, false] rfl rfl (by kernel_rfl) (fun _ _ _ h => h) (Or.inl ⟨by rfl, ?_⟩) ?_ ?_
        rotate_left
        · intro w'
          go_simp
          with_reducible rfl
        rotate_left
        · simp only [Act.put, List.setIfInBounds_toArray, List.set_cons_zero, List.set_cons_succ, i64_w, i32_w]
          rfl
        refine pure_ (i := 5) (N := some 27) (v := ?_) (a' := ?_) #[true, true, true, true, true, true, false, false, false, false, false, false, false, false, false, false] rfl rfl (by kernel_rfl) (fun _ _ _ h => h) (Or.inl ⟨by rfl, ?_⟩) ?_ ?_
        rotate_left
        · intro w'
          go_simp
          with_reducible rfl
        rotate_left
        · simp only [Act.put, List.setIfInBounds_toArray, List.set_cons_zero, List.set_cons_succ, i64_w, i32_w]
          rfl
        refine pure_ (i := 6) (N := some 28) (v := ?_) (a' := ?_) #[true, true, true, true, true, true, true, false, false, false, false, false, false, false, false, false] rfl rfl (by kernel_rfl) (fun _ _ _ h => h) (Or.inl ⟨by rfl, ?_⟩) ?_ ?_
        rotate_left
        · intro w'
          go_simp
          with_reducible rfl
        rotate_left
        · simp only [Act.put, List.setIfInBounds_toArray, List.set_cons_zero, List.set_cons_succ, i64_w, i32_w]
          rfl
        refine take_ (i := 7) (N := some 29) (v := .string ⟨#[109, 111, 100, 105, 102, 105, 101, 100]⟩) #[true, true, true, true, true, true, true, true, false, false, false, false, false, false, false, false] rfl rfl (by kernel_rfl) (fun _ _ _ h => h) (Or.inl ⟨by rfl, ?_⟩) hS rfl ?_
        · rintro w' ⟨h0, h1⟩
          have e0 : w'.cell? ⟨bN, 4, none⟩ = some (.string ⟨#[109, 111, 100, 105, 102, 105, 101, 100]⟩) := (blk_cell h1 4).trans rfl
          go_simp
        refine norm_ (a' := ?_) ?_ ?_
        rotate_left
        · try simp only [Act.put, putAll, List.setIfInBounds_toArray, List.set_cons_zero, List.set_cons_succ]
          rfl
        refine pure_ (i := 8) (N := some 30) (v := ?_) (a' := ?_) #[true, true, true, true, true, true, true, true, true, false, false, false, false, false, false, false] rfl rfl (by kernel_rfl) (fun _ _ _ h => h) (Or.inl ⟨by rfl, ?_⟩) ?_ ?_
        rotate_left
        · intro w'
          go_simp
          with_reducible rfl
        rotate_left
        · simp only [Act.put, List.setIfInBounds_toArray, List.set_cons_zero, List.set_cons_succ, i64_w, i32_w]
          rfl
        refine pure_ (i := 9) (N := some 31) (v := ?_) (a' := ?_) #[true, true, true, true, true, true, true, true, true, true, false, false, false, false, false, false] rfl rfl (by kernel_rfl) (fun _ _ _ h => h) (Or.inl ⟨by rfl, ?_⟩) ?_ ?_
        rotate_left
        · intro w'
          go_simp
          with_reducible rfl
        rotate_left
        · simp only [Act.put, List.setIfInBounds_toArray, List.set_cons_zero, List.set_cons_succ, i64_w, i32_w]
          rfl
        refine one_ (i := 10) (N := some 32) #[true, true, true, true, true, true, true, true, true, true, true, false, false, false, false, false] rfl rfl (by kernel_rfl) (by decide) (fun K hK => ?_)
        refine goes_ Tryz.func31 (by kernel_rfl) rfl #[.agg #[.int .u8 v.f0, .int .u64 v.f1, .string v.f2, .slice A v.f3.length c], .int .u64 39, .string nmO5] (by rfl) rfl rfl (by (try simp only [List.map_toArray, List.map_cons, List.map_nil]); first | done | rfl | kernel_rfl) ?_
        refine (new45_no v hs HOK.out 39 nmO5 A c _ HSi.out.2.2.2.1 hc HNs.out).mono ?_
        rintro e w3 ⟨rfl, hb3⟩
        refine ⟨_, rfl, ?_⟩
        have HS3 := Aside0.mk (HSi.out.below hb3)
        refine hK.out _ _ ⟨HS3.out.1, HS3.out.2.2.1⟩ (fun hS3 => ?_)
        clear hK K hb3 hS
        refine norm_ (a' := ?_) ?_ ?_
        rotate_left
        · try simp only [Act.put, putAll, List.setIfInBounds_toArray, List.set_cons_zero, List.set_cons_succ]
          rfl
        refine pure_ (i := 11) (N := some 21) (v := ?_) (a' := ?_) #[true, true, true, true, true, true, true, true, true, true, true, true, false, false, false, false] rfl rfl (by kernel_rfl) (fun _ _ _ h => h) (Or.inl ⟨by rfl, ?_⟩) ?_ ?_
        rotate_left
        · intro w'
          go_simp
          with_reducible rfl
        rotate_left
        · simp only [Act.put, List.setIfInBounds_toArray, List.set_cons_zero, List.set_cons_succ, i64_w, i32_w]
          rfl
        refine pure_ (i := 12) (N := some 33) (v := ?_) (a' := ?_) #[true, true, true, true, true, true, true, true, true, true, true, true, true, false, false, false] rfl rfl (by kernel_rfl) (fun _ _ _ h => h) (Or.inl ⟨by rfl, ?_⟩) ?_ ?_
        rotate_left
        · intro w'
          go_simp
          with_reducible rfl
        rotate_left
        · simp only [Act.put, List.setIfInBounds_toArray, List.set_cons_zero, List.set_cons_succ, i64_w, i32_w]
          rfl
        refine pure_ (i := 13) (N := some 34) (v := ?_) (a' := ?_) #[true, true, true, true, true, true, true, true, true, true, true, true, true, true, false, false] rfl rfl (by kernel_rfl) (fun _ _ _ h => h) (Or.inl ⟨by rfl, ?_⟩) ?_ ?_
        rotate_left
        · intro w'
          go_simp
          with_reducible rfl
        rotate_left
        · simp only [Act.put, List.setIfInBounds_toArray, List.set_cons_zero, List.set_cons_succ, i64_w, i32_w]
          rfl
        refine pure_ (i := 14) (N := some 6) (v := ?_) (a' := ?_) #[true, true, true, true, true, true, true, true, true, true, true, true, true, true, true, false] rfl rfl (by kernel_rfl) (fun _ _ _ h => h) (Or.inl ⟨by rfl, ?_⟩) ?_ ?_
        rotate_left
        · intro w'
          go_simp
          with_reducible rfl
        rotate_left
        · simp only [Act.put, List.setIfInBounds_toArray, List.set_cons_zero, List.set_cons_succ, i64_w, i32_w]
          rfl
        refine pure_ (i := 15) (N := some 7) (v := ?_) (a' := ?_) #[true, true, true, true, true, true, true, true, true, true, true, true, true, true, true, true] rfl rfl (by kernel_rfl) (fun _ _ _ h => h) (Or.inl ⟨by rfl, ?_⟩) ?_ ?_
        rotate_left
        · intro w'
          go_simp
          with_reducible rfl
        rotate_left
        · simp only [Act.put, List.setIfInBounds_toArray, List.set_cons_zero, List.set_cons_succ, i64_w, i32_w]
          rfl
        refine done_ (by kernel_rfl) ?_
        go_wp2_with fail
        go_roundg (5 - (5 : Int)).toNat
        case measure => rw [HG.out]; omega
        case rel => exact ⟨5, by go_num, ⟨by omega, by omega, rfl⟩, HGn, HS3⟩
      | some l =>
        have HNs := Aside0.mk hnew
        have hil := newF_items hnew
        have hol := newF_ok HOK.out hnew
        have HKI : Aside0 ((∀ x ∈ l, itemsN x ≤ 4294967296) ∧ okL l) := ⟨fun x hx => by have := itemsL_mem hx; omega, hol⟩
        have HGn : Aside0 (getOF v = getK 5 l) := ⟨HGF.out.trans (getFrom_some (n := 0) (k := 5) hnew)⟩
        rw [getK_5] at HGn
        clear hnew hil hol
        refine start_ (n := 16) (S := fun w' => Blk w' b0 #[.int .u8 v.f0, .int .u64 v.f1, .string v.f2, .slice A v.f3.length c] 25 ∧ Blk w' bN nmsC 9) (ds := []) #[false, false, false, false, false, false, false, false, false, false, false, false, false, false, false, false] (by kernel_rfl) rfl rfl ⟨HSi.out.1, HSi.out.2.2.1⟩ (fun hS => ?_)
        replace HSi := Aside0.mk ((HSi.out).below (below_drew (Below.refl _ _)))
        generalize wr.drew = wd10 at HSi hS ⊢
        refine take_ (i := 0) (N := some 22) (v := .agg #[.int .u8 v.f0, .int .u64 v.f1, .string v.f2, .slice A v.f3.length c]) #[true, false, false, false, false, false, false, false, false, false, false, false, false, false, false, false] rfl rfl (by kernel_rfl) (fun _ _ _ h => h) (Or.inl ⟨by rfl, ?_⟩) hS rfl ?_
        · rintro w' ⟨h0, h1⟩
          obtain ⟨e0, e1, e2, e3⟩ := h0.c4
          go_simp
        refine norm_ (a' := ?_) ?_ ?_
        rotate_left
        · try simp only [Act.put, putAll, List.setIfInBounds_toArray, List.set_cons_zero, List.set_cons_succ]
          rfl
        refine pure_ (i := 1) (N := some 23) (v := ?_) (a' := ?_) #[true, true, false, false, false, false, false, false, false, false, false, false, false, false, false, false] rfl rfl (by kernel_rfl) (fun _ _ _ h => h) (Or.inl ⟨by rfl, ?_⟩) ?_ ?_
        rotate_left
        · intro w'
          go_simp
          with_reducible rfl
        rotate_left
        · simp only [Act.put, List.setIfInBounds_toArray, List.set_cons_zero, List.set_cons_succ, i64_w, i32_w]
          rfl
        refine pure_ (i := 2) (N := some 24) (v := ?_) (a' := ?_) #[true, true, true, false, false, false, false, false, false, false, false, false, false, false, false, false] rfl rfl (by kernel_rfl) (fun _ _ _ h => h) (Or.inl ⟨by rfl, ?_⟩) ?_ ?_
        rotate_left
        · intro w'
          go_simp
          with_reducible rfl
        rotate_left
        · simp only [Act.put, List.setIfInBounds_toArray, List.set_cons_zero, List.set_cons_succ, i64_w, i32_w]
          rfl
        refine pure_ (i := 3) (N := some 25) (v := ?_) (a' := ?_) #[true, true, true, true, false, false, false, false, false, false, false, false, false, false, false, false] rfl rfl (by kernel_rfl) (fun _ _ _ h => h) (Or.inl ⟨by rfl, ?_⟩) ?_ ?_
        rotate_left
        · intro w'
          go_simp
          with_reducible rfl
        rotate_left
        · simp only [Act.put, List.setIfInBounds_toArray, List.set_cons_zero, List.set_cons_succ, i64_w, i32_w]
          rfl
        refine pure_ (i := 4) (N := some 26) (v := ?_) (a' := ?_) #[true, true, true, true, true, false, false, false, false, false, false, false, false, false, false, false] rfl rfl (by kernel_rfl) (fun _ _ _ h => h) (Or.inl ⟨by rfl, ?_⟩) ?_ ?_
        rotate_left
        · intro w'
          go_simp
          with_reducible rfl
        rotate_left
        · simp only [Act.put, List.setIfInBounds_toArray, List.set_cons_zero, List.set_cons_succ, i64_w, i32_w]
          rfl
        refine pure_ (i := 5) (N := some 27) (v := ?_) (a' := ?_) #[true, true, true, true, true, true, false, false, false, false, false, false, false, false, false, false] rfl rfl (by kernel_rfl) (fun _ _ _ h => h) (Or.inl ⟨by rfl, ?_⟩) ?_ ?_
        rotate_left
        · intro w'
          go_simp
          with_reducible rfl
        rotate_left
        · simp only [Act.put, List.setIfInBounds_toArray, List.set_cons_zero, List.set_cons_succ, i64_w, i32_w]
          rfl
        refine pure_ (i := 6) (N := some 28) (v := ?_) (a' := ?_) #[true, true, true, true, true, true, true, false, false, false, false, false, false, false, false, false] rfl rfl (by kernel_rfl) (fun _ _ _ h => h) (Or.inl ⟨by rfl, ?_⟩) ?_ ?_
        rotate_left
        · intro w'
          go_simp
          with_reducible rfl
        rotate_left
        · simp only [Act.put, List.setIfInBounds_toArray, List.set_cons_zero, List.set_cons_succ, i64_w, i32_w]
          rfl
        refine take_ (i := 7) (N := some 29) (v := .string ⟨#[109, 111, 100, 105, 102, 105, 101, 100]⟩) #[true, true, true, true, true, true, true, true, false, false, false, false, false, false, false, false] rfl rfl (by kernel_rfl) (fun _ _ _ h => h) (Or.inl ⟨by rfl, ?_⟩) hS rfl ?_
        · rintro w' ⟨h0, h1⟩
          have e0 : w'.cell? ⟨bN, 4, none⟩ = some (.string ⟨#[109, 111, 100, 105, 102, 105, 101, 100]⟩) := (blk_cell h1 4).trans rfl
          go_simp
        refine norm_ (a' := ?_) ?_ ?_
        rotate_left
        · try simp only [Act.put, putAll, List.setIfInBounds_toArray, List.set_cons_zero, List.set_cons_succ]
          rfl
        refine pure_ (i := 8) (N := some 30) (v := ?_) (a' := ?_) #[true, true, true, true, true, true, true, true, true, false, false, false, false, false, false, false] rfl rfl (by kernel_rfl) (fun _ _ _ h => h) (Or.inl ⟨by rfl, ?_⟩) ?_ ?_
        rotate_left
        · intro w'
          go_simp
          with_reducible rfl
        rotate_left
        · simp only [Act.put, List.setIfInBounds_toArray, List.set_cons_zero, List.set_cons_succ, i64_w, i32_w]
          rfl
        refine pure_ (i := 9) (N := some 31) (v := ?_) (a' := ?_) #[true, true, true, true, true, true, true, true, true, true, false, false, false, false, false, false] rfl rfl (by kernel_rfl) (fun _ _ _ h => h) (Or.inl ⟨by rfl, ?_⟩) ?_ ?_
        rotate_left
        · intro w'
          go_simp
          with_reducible rfl
        rotate_left
        · simp only [Act.put, List.setIfInBounds_toArray, List.set_cons_zero, List.set_cons_succ, i64_w, i32_w]
          rfl
        refine one_ (i := 10) (N := some 32) #[true, true, true, true, true, true, true, true, true, true, true, false, false, false, false, false] rfl rfl (by kernel_rfl) (by decide) (fun K hK => ?_)
        refine goes_ Tryz.func31 (by kernel_rfl) rfl #[.agg #[.int .u8 v.f0, .int .u64 v.f1, .string v.f2, .slice A v.f3.length c], .int .u64 39, .string nmO5] (by rfl) rfl rfl (by (try simp only [List.map_toArray, List.map_cons, List.map_nil]); first | done | rfl | kernel_rfl) ?_
        refine (new45_yes v hs HOK.out 39 nmO5 A c _ HSi.out.2.2.2.1 hc HNs.out).mono ?_
        rintro e w3 ⟨g, rfl, hgx, hfs, hb3⟩
        refine ⟨_, rfl, ?_⟩
        have HS3 := Aside0.mk (HSi.out.below hb3)
        have hgB := hfs.lt
        have HF3 := Aside0.mk hfs
        have hgw : w.heap.size ≤ g := by have := HSi.out.2.2.2.2.size; omega
        have hb1g : b1 < g := by have := HSi.out.2.1.lt; omega
        clear hfs
        refine hK.out _ _ ⟨HS3.out.1, HS3.out.2.2.1⟩ (fun hS3 => ?_)
        clear hK K hb3 hS
        refine norm_ (a' := ?_) ?_ ?_
        rotate_left
        · try simp only [Act.put, putAll, List.setIfInBounds_toArray, List.set_cons_zero, List.set_cons_succ]
          rfl
        refine pure_ (i := 11) (N := some 21) (v := ?_) (a' := ?_) #[true, true, true, true, true, true, true, true, true, true, true, true, false, false, false, false] rfl rfl (by kernel_rfl) (fun _ _ _ h => h) (Or.inl ⟨by rfl, ?_⟩) ?_ ?_
        rotate_left
        · intro w'
          go_simp
          with_reducible rfl
        rotate_left
        · simp only [Act.put, List.setIfInBounds_toArray, List.set_cons_zero, List.set_cons_succ, i64_w, i32_w]
          rfl
        refine pure_ (i := 12) (N := some 33) (v := ?_) (a' := ?_) #[true, true, true, true, true, true, true, true, true, true, true, true, true, false, false, false] rfl rfl (by kernel_rfl) (fun _ _ _ h => h) (Or.inl ⟨by rfl, ?_⟩) ?_ ?_
        rotate_left
        · intro w'
          go_simp
          with_reducible rfl
        rotate_left
        · simp only [Act.put, List.setIfInBounds_toArray, List.set_cons_zero, List.set_cons_succ, i64_w, i32_w]
          rfl
        refine pure_ (i := 13) (N := some 34) (v := ?_) (a' := ?_) #[true, true, true, true, true, true, true, true, true, true, true, true, true, true, false, false] rfl rfl (by kernel_rfl) (fun _ _ _ h => h) (Or.inl ⟨by rfl, ?_⟩) ?_ ?_
        rotate_left
        · intro w'
          go_simp
          with_reducible rfl
        rotate_left
        · simp only [Act.put, List.setIfInBounds_toArray, List.set_cons_zero, List.set_cons_succ, i64_w, i32_w]
          rfl
        refine pure_ (i := 14) (N := some 6) (v := ?_) (a' := ?_) #[true, true, true, true, true, true, true, true, true, true, true, true, true, true, true, false] rfl rfl (by kernel_rfl) (fun _ _ _ h => h) (Or.inl ⟨by rfl, ?_⟩) ?_ ?_
        rotate_left
        · intro w'
          go_simp
          with_reducible rfl
        rotate_left
        · simp only [Act.put, List.setIfInBounds_toArray, List.set_cons_zero, List.set_cons_succ, i64_w, i32_w]
          rfl
        refine pure_ (i := 15) (N := some 7) (v := ?_) (a' := ?_) #[true, true, true, true, true, true, true, true, true, true, true, true, true, true, true, true] rfl rfl (by kernel_rfl) (fun _ _ _ h => h) (Or.inl ⟨by rfl, ?_⟩) ?_ ?_
        rotate_left
        · intro w'
          go_simp
          with_reducible rfl
        rotate_left
        · simp only [Act.put, List.setIfInBounds_toArray, List.set_cons_zero, List.set_cons_succ, i64_w, i32_w]
          rfl
        refine done_ (by kernel_rfl) ?_
        go_upto_region 9 with fail
        have hO := Blk.new w3 #[.int .u8 5, .int .u64 0, .int .u64 0, .string ⟨#[]⟩] 37
        have hal4 := below_alloc (Below.refl w3.heap.size w3) (.cells #[.int .u8 5, .int .u64 0, .int .u64 0, .string ⟨#[]⟩] 37)
        have HF4 := Aside0.mk (HF3.out.below hal4)
        have HB4 := Aside0.mk (below_step HS3.out.2.2.2.2 hal4)
        have HRB := Aside0.mk (HS3.out.2.1.below hal4)
        have hb1 := HS3.out.2.1.lt
        have hs4 := hal4.size
        go_upto_region 11 with fail
        obtain ⟨bo, ebo⟩ : ∃ b, w3.heap.size = b := ⟨_, rfl⟩
        obtain ⟨w4, e4⟩ : ∃ W, w3.alloc (.cells #[.int .u8 5, .int .u64 0, .int .u64 0, .string ⟨#[]⟩] 37) = W := ⟨_, rfl⟩
        rw [e4] at hO HF4 HB4 HRB hs4 ⊢
        rw [ebo] at hO ⊢
        have HO4 := Aside0.mk hO
        clear e4 hO hal4
        obtain ⟨o0, o1, o2, o3⟩ := HO4.out.c4
        go_upto_region 22 with fail
        clear o0 o1 o2 o3
        go_wp2_with fail
        refine (number79_any HF4.out hs4 hgB 0 2 false 0).mono ?_
        rintro e w5 ⟨rfl, hfs, hbg⟩
        have HFq := Aside0.mk hfs
        have HBq := Aside0.mk (below_bg HB4.out hbg (by omega) HB4.out.size)
        have HOq := Aside0.mk (HO4.out.bg hbg (by omega))
        replace HRB := Aside0.mk (HRB.out.bg hbg (by omega))
        have hsq := Nat.le_trans hs4 hbg.size
        obtain ⟨q0, q1, q2, q3⟩ := HOq.out.c4
        have fq := HOq.out.fz
        clear hfs hbg
        obtain ⟨a', ea⟩ : ∃ x, tellP l 0 (kindP [2]) (fun x => x.f1) 0 = x := ⟨_, rfl⟩
        have EA := Aside0.mk ea
        rw [ea]
        clear ea
        go_upto_region 23 with fail
        have HF6 := Aside0.mk (HFq.out.far (p := ⟨bo, 1, none⟩) (show w3.heap.size ≤ bo by omega) hgB (.int .u64 a'))
        have HO6 : Aside0 (Blk (w5.setCell ⟨bo, 1, none⟩ (.int .u64 a')) bo #[.int .u8 5, .int .u64 a', .int .u64 0, .string ⟨#[]⟩] 37) := ⟨blk_put (cs := #[.int .u8 5, .int .u64 0, .int .u64 0, .string ⟨#[]⟩]) HOq.out 1 _ rfl⟩
        replace HRB := Aside0.mk (HRB.out.far (p := ⟨bo, 1, none⟩) (show b1 ≠ bo by omega) (.int .u64 a'))
        have HB6 : Aside0 (Below w.heap.size w (w5.setCell ⟨bo, 1, none⟩ (.int .u64 a'))) := ⟨below_set HBq.out (by omega)⟩
        have hs6 : w3.heap.size ≤ (w5.setCell ⟨bo, 1, none⟩ (.int .u64 a')).heap.size := by simpa [World.setCell] using hsq
        obtain ⟨w6, e6⟩ : ∃ W, w5.setCell ⟨bo, 1, none⟩ (.int .u64 a') = W := ⟨_, rfl⟩
        rw [e6] at HRB HF6 HO6 HB6 hs6 ⊢
        clear e6 q0 q1 q2 q3 fq HFq HBq HOq hsq
        go_wp2_with fail
        refine (number79_any HF6.out hs6 hgB 1 2 false 0).mono ?_
        rintro e w7 ⟨rfl, hfs, hbg⟩
        have HFq := Aside0.mk hfs
        have HBq := Aside0.mk (below_bg HB6.out hbg (by omega) HB6.out.size)
        have HOq := Aside0.mk (HO6.out.bg hbg (by omega))
        replace HRB := Aside0.mk (HRB.out.bg hbg (by omega))
        have hsq := Nat.le_trans hs6 hbg.size
        obtain ⟨q0, q1, q2, q3⟩ := HOq.out.c4
        have fq := HOq.out.fz
        clear hfs hbg
        obtain ⟨b', ea⟩ : ∃ x, tellP l 1 (kindP [2]) (fun x => x.f1) 0 = x := ⟨_, rfl⟩
        have EB := Aside0.mk ea
        rw [ea]
        clear ea
        go_upto_region 24 with fail
        have HF8 := Aside0.mk (HFq.out.far (p := ⟨bo, 2, none⟩) (show w3.heap.size ≤ bo by omega) hgB (.int .u64 b'))
        have HO8 : Aside0 (Blk (w7.setCell ⟨bo, 2, none⟩ (.int .u64 b')) bo #[.int .u8 5, .int .u64 a', .int .u64 b', .string ⟨#[]⟩] 37) := ⟨blk_put (cs := #[.int .u8 5, .int .u64 a', .int .u64 0, .string ⟨#[]⟩]) HOq.out 2 _ rfl⟩
        replace HRB := Aside0.mk (HRB.out.far (p := ⟨bo, 2, none⟩) (show b1 ≠ bo by omega) (.int .u64 b'))
        have HB8 : Aside0 (Below w.heap.size w (w7.setCell ⟨bo, 2, none⟩ (.int .u64 b'))) := ⟨below_set HBq.out (by omega)⟩
        have hs8 : w3.heap.size ≤ (w7.setCell ⟨bo, 2, none⟩ (.int .u64 b')).heap.size := by simpa [World.setCell] using hsq
        obtain ⟨w8, e8⟩ : ∃ W, w7.setCell ⟨bo, 2, none⟩ (.int .u64 b') = W := ⟨_, rfl⟩
        rw [e8] at HRB HF8 HO8 HB8 hs8 ⊢
        clear e8 q0 q1 q2 q3 fq HFq HBq HOq hsq
        go_wp2_with fail
        have bK := Blk.new w8 #[.int .u8 23] 5
        have hal5 := below_alloc (Below.refl w8.heap.size w8) (.cells #[.int .u8 23] 5)
        have HCK : Aside0 (Kd.C (Kd.int .u8) (w8.alloc (.cells #[.int .u8 23] 5)) (some ⟨w8.heap.size, 0, none⟩) [(23 : Int)].length [23]) := ⟨C_u8 bK⟩
        have HF9 := Aside0.mk (HF8.out.below hal5)
        have HB9 := Aside0.mk (below_step HB8.out hal5)
        have HO9 := Aside0.mk (HO8.out.below hal5)
        replace HRB := Aside0.mk (HRB.out.below hal5)
        have hs9 := Nat.le_trans hs8 hal5.size
        clear bK hal5
        refine (rvalue82_any HF9.out hs9 hgB HKI.out.1 2 [23] _ 1 HCK.out (by decide)).mono ?_
        rintro e w10 ⟨A6, c6, rfl, hR6, hfs, hbg⟩
        have HF10 := Aside0.mk hfs
        have HB10 := Aside0.mk (below_bg HB9.out hbg (by omega) HB9.out.size)
        have HO10 := Aside0.mk (HO9.out.bg hbg (by omega))
        replace HRB := Aside0.mk (HRB.out.bg hbg (by omega))
        have hs10 := Nat.le_trans hs9 hbg.size
        clear hfs hbg hR6
        go_wp2_with fail
        refine (done49_any HF10.out 3).mono ?_
        rintro e wz ⟨he, rfl⟩
        replace he : e = .returned (.int .i64 (doneN l ((spoilP l 0 false K2 || spoilP l 1 false K2) || spoilP l 2 false K23) 3)) := he
        have HRz := HRB
        obtain ⟨q0, q1, q2, q3⟩ := HO10.out.c4
        obtain ⟨r0, r1, r2, r3⟩ := HRz.out.c4
        have fr := HRz.out.fz
        rcases done_or l ((spoilP l 0 false K2 || spoilP l 1 false K2) || spoilP l 2 false K23) 3 with hd | hd
        · rw [if_pos hd] at HGn
          rw [hd] at he
          subst he
          clear hd
          go_wp2_with fail
          refine bodyPost_ret (results14 _ _ b1 #[.int .u8 5, .int .u64 a', .int .u64 b', .string ⟨#[]⟩] 0 rfl rfl (put4_any HRz.out _ _ _ _) rfl) rfl ?_
          exact ⟨by rw [HGn.out, ← EA.out, ← EB.out]; rfl, below_set4 HB10.out (by omega)⟩
        · rw [if_neg (by rw [hd]; decide)] at HGn
          rw [hd] at he
          subst he
          clear hd
          go_wp2_with fail
          refine bodyPost_ret (results14 _ _ b1 #[.int .u8 0, .int .u64 0, .int .u64 0, .string ⟨#[]⟩] 6 rfl rfl (put4_any HRz.out _ _ _ _) rfl) rfl ?_
          exact ⟨by rw [HGn.out]; rfl, below_set4 HB10.out (by omega)⟩
    · obtain rfl : i = 5 := by omega
      have BR4 := Aside0.mk HSi.out.2.1
      have HB4 := Aside0.mk HSi.out.2.2.2.2
      have HGn : Aside0 (getOF v = none) := ⟨HGF.out⟩
      obtain ⟨q0, q1, q2, q3⟩ := BR4.out.c4
      have f2 := BR4.out.fz
      go_wp2_with fail
      refine bodyPost_ret (results14 _ _ b1 #[.int .u8 0, .int .u64 0, .int .u64 0, .string ⟨#[]⟩] 6 rfl rfl (put4_any BR4.out _ _ _ _) rfl) rfl ?_
      exact ⟨by rw [HGn.out]; rfl, below_set4 HB4.out hw0.2⟩
end Go.Proofs.YtdilbnggedidnaaGreat.PVal
