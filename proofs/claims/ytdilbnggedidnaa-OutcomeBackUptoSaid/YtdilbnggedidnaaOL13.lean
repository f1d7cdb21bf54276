import Derived.Test.YtdilbnggedidnaaOHOpenO
namespace Go.Proofs.Ytdilbnggedidnaa.PVal
open Go.RowKit Go.Shelf Go.Proofs.YtdilbnggedidnaaW.PrintWords Go.Proofs.YtdilbnggedidnaaW.PrintLast
set_option linter.unusedVariables false
set_option linter.unusedSimpArgs false
attribute [local go_sem] eqA72
def OBS (w : World) (v : S25) (A : Option Addr) (c b1 : Nat) (wr : World) : Prop := Blk wr b1 #[.int .u8 v.f0, .int .u64 v.f1, .string v.f2, .slice A v.f3.length c] 25 ∧ k25.C wr A v.f3.length v.f3 ∧ Below w.heap.size w wr
theorem OBS.below {w : World} {v : S25} {A : Option Addr} {c b1 : Nat} {wr wx : World} (h : OBS w v A c b1 wr) (hb : Below wr.heap.size wr wx) : OBS w v A c b1 wx := ⟨h.1.below hb, Kd.C_below h.2.1 hb, below_step h.2.2 hb⟩
set_option maxRecDepth 100000 in
set_option maxHeartbeats 8000000 in
theorem back13_any (k a b : Int) (s : ByteArray) (v : S25) (t : ByteArray) (w : World) (hk : 0 ≤ k ∧ k ≤ 255) (ha : u64R a) (hb : u64R b) (hs : s.size ≤ 1048576) (ho : okV v) (A : Option Addr) (c : Nat) (hC : k25.C w A v.f3.length v.f3) (hc : v.f3.length ≤ c) (ht : t.size ≤ 1048576) (hn : itemsN v + textsN v ≤ 1048576) :
  Calls Try.prog 13 #[.agg #[.int .u8 k, .int .u64 a, .int .u64 b, .string s], .agg #[.int .u8 v.f0, .int .u64 v.f1, .string v.f2, .slice A v.f3.length c], .string t] w fun e w' => e = .returned (.bool true) ∧ Below w.heap.size w w' := by
 have HO := Aside0.mk ho
 have HK := Aside0.mk hk
 have HAB := Aside0.mk (And.intro ha hb)
 have HN := Aside0.mk hn
 have hN : itemsN v ≤ 4294967296 := by omega
 have HNN := Aside0.mk hN
 have bO := (Blk.new w #[.int .u8 k, .int .u64 a, .int .u64 b, .string s] 72).alloc (.cells #[.int .u8 v.f0, .int .u64 v.f1, .string v.f2, .slice A v.f3.length c] 25)
 have bV := Blk.new (w.alloc (.cells #[.int .u8 k, .int .u64 a, .int .u64 b, .string s] 72)) #[.int .u8 v.f0, .int .u64 v.f1, .string v.f2, .slice A v.f3.length c] 25
 have hal := below_alloc (below_alloc (Below.refl w.heap.size w) (.cells #[.int .u8 k, .int .u64 a, .int .u64 b, .string s] 72)) (.cells #[.int .u8 v.f0, .int .u64 v.f1, .string v.f2, .slice A v.f3.length c] 25)
 have HC1 := Aside0.mk (Kd.C_below hC hal)
 rw [World.size_alloc] at bV
 clear ho hC hk ha hb hn hN
 go_enter Try.func13, Try.ntmps13
 go_upto_region 1 with fail
 obtain ⟨w1, e1⟩ : ∃ W, (w.alloc (.cells #[.int .u8 k, .int .u64 a, .int .u64 b, .string s] 72)).alloc (.cells #[.int .u8 v.f0, .int .u64 v.f1, .string v.f2, .slice A v.f3.length c] 25) = W := ⟨_, rfl⟩
 obtain ⟨b0, eb0⟩ : ∃ b, w.heap.size = b := ⟨_, rfl⟩
 obtain ⟨b1, eb1⟩ : ∃ b, w.heap.size + 1 = b := ⟨_, rfl⟩
 rw [e1] at bO bV hal HC1 ⊢
 rw [eb1] at bV ⊢
 rw [eb0] at bO ⊢
 have HS1 : Aside0 (OBS w v A c b1 w1) := ⟨bV, HC1.out, hal⟩
 have BO1 := Aside0.mk bO
 clear e1 eb0 eb1 hal HC1
 obtain ⟨p0, p1, p2, p3⟩ := bO.c4
 obtain ⟨q0, q1, q2, q3⟩ := bV.c4
 clear bO bV
 by_cases hl : 4096 < s.size + t.size
 ·have hl' : (4096 : Int) < (s.size : Int) + (t.size : Int) := by omega
  clear hl
  go_wp2_with fail
  refine (works51_any _).mono ?_
  rintro e wz ⟨rfl, hbz⟩
  go_wp2_with fail
  go_ret
  exact ⟨rfl, below_step HS1.out.2.2 hbz⟩
 have hl' : (s.size : Int) + (t.size : Int) ≤ 4096 := by omega
 clear hl
 go_wp2_with fail
 have bL := Blk.new w1 (flatK [⟨v, A, c⟩]).toArray 25
 have hal1 := below_alloc (Below.refl w1.heap.size w1) (.cells #[.int .u8 v.f0, .int .u64 v.f1, .string v.f2, .slice A v.f3.length c] 25)
 have hCL := C_lit (ks := [⟨v, A, c⟩]) bL (by simp) (by
  intro q hq
  simp only [List.mem_cons, List.not_mem_nil, or_false] at hq
  rcases hq with rfl
  exact ⟨Kd.C_below HS1.out.2.1 hal1, hc⟩)
 refine (large14_any [v] _ 1 _ hCL (by simp) (by have := HN.out; simp only [itemsL, textsL]; omega)).mono ?_
 rintro e w2 ⟨rfl, hb2⟩
 have hb12 := below_step hal1 hb2
 have HS2 := Aside0.mk (HS1.out.below hb12)
 have BO2 := Aside0.mk (BO1.out.below hb12)
 clear bL hal1 hCL hb2 hb12 p0 p1 p2 p3 q0 q1 q2 q3 HS1 BO1
 cases hlb : largeB [v] with
 | true =>
  clear hlb
  go_wp2_with fail
  refine (works51_any _).mono ?_
  rintro e wz ⟨rfl, hbz⟩
  go_wp2_with fail
  go_ret
  exact ⟨rfl, below_step HS2.out.2.2 hbz⟩
 | false =>
 clear hlb
 obtain ⟨p0, p1, p2, p3⟩ := BO2.out.c4
 cases hm : mayO ⟨k, a, b, s⟩ with
 | true =>
  have hmo : mayO ⟨k, a, b, s⟩ = true := hm
  obtain ⟨hget, hright⟩ := get_put hmo HAB.out.1.1 HAB.out.2.1
  have HGET := Aside0.mk hget
  have HR := Aside0.mk hright
  have hit := right_items hright
  have HOK := Aside0.mk (putOV_ok (o := ⟨k, a, b, s⟩) HK.out HAB.out.1 HAB.out.2 (by show s.size ≤ _; omega))
  have HM := Aside0.mk hmo
  clear hmo hm hget hright
  go_wp2_with fail
  refine (put52_yes k a b s (by omega) HM.out _).mono ?_
  rintro e w3 he
  obtain ⟨x, ex⟩ : ∃ x, putOV ⟨k, a, b, s⟩ = x := ⟨_, rfl⟩
  rw [ex] at he HGET HR hit HOK
  clear ex
  obtain ⟨A3, c3, rfl, hR3, hb3⟩ := he
  have hal3 := below_alloc (Below.refl w3.heap.size w3) (.cells #[.int .u8 x.f0, .int .u64 x.f1, .string x.f2, .slice A3 x.f3.length c3] 25)
  have hb33 := below_step hb3 hal3
  have HS3 := Aside0.mk (HS2.out.below hb33)
  have BO3 := Aside0.mk (BO2.out.below hb33)
  have BX3 := Aside0.mk (Blk.new w3 #[.int .u8 x.f0, .int .u64 x.f1, .string x.f2, .slice A3 x.f3.length c3] 25)
  have hc3 := (Kd.R_reads' hR3).2.1
  have HC3 := Aside0.mk (Kd.C_below (Kd.R_reads' hR3).2.2 hal3)
  clear hR3 hb3 hal3 hb33 p0 p1 p2 p3
  go_upto_region 4 with fail
  obtain ⟨bx, ebx⟩ : ∃ b, w3.heap.size = b := ⟨_, rfl⟩
  obtain ⟨w4, ew4⟩ : ∃ W, w3.alloc (.cells #[.int .u8 x.f0, .int .u64 x.f1, .string x.f2, .slice A3 x.f3.length c3] 25) = W := ⟨_, rfl⟩
  rw [ew4] at HS3 BO3 BX3 HC3 ⊢
  rw [ebx] at BX3 ⊢
  clear ebx ew4
  obtain ⟨p0, p1, p2, p3⟩ := BX3.out.c4
  go_wp2_with fail
  refine (get53_any x hit HOK.out A3 c3 _ HC3.out hc3).mono ?_
  rintro e w5 ⟨he, hb5⟩
  rw [HGET.out] at he
  replace he : e = .returned (.tuple #[.agg #[.int .u8 k, .int .u64 a, .int .u64 b, .string s], .int .i64 0]) := he
  subst he
  have hal5 := below_alloc hb5 (.cells #[.int .u8 k, .int .u64 a, .int .u64 b, .string s] 72)
  have HS5 := Aside0.mk (HS3.out.below hal5)
  have BO5 := Aside0.mk (BO3.out.below hal5)
  have BX5 := Aside0.mk (BX3.out.below hal5)
  have HC5 := Aside0.mk (Kd.C_below HC3.out hal5)
  have BP5 := Aside0.mk (Blk.new w5 #[.int .u8 k, .int .u64 a, .int .u64 b, .string s] 72)
  clear hb5 hal5 p0 p1 p2 p3 HS3 BO3 BX3 HC3
  go_upto_region 6 with fail
  obtain ⟨bp, ebp⟩ : ∃ b, w5.heap.size = b := ⟨_, rfl⟩
  obtain ⟨w6, ew6⟩ : ∃ W, w5.alloc (.cells #[.int .u8 k, .int .u64 a, .int .u64 b, .string s] 72) = W := ⟨_, rfl⟩
  rw [ew6] at HS5 BO5 BX5 HC5 BP5 ⊢
  rw [ebp] at BP5 ⊢
  clear ebp ew6
  obtain ⟨p0, p1, p2, p3⟩ := BX5.out.c4
  obtain ⟨q0, q1, q2, q3⟩ := BO5.out.c4
  obtain ⟨r0, r1, r2, r3⟩ := BP5.out.c4
  go_wp2_with fail
  refine (right17_any x hit HOK.out A3 c3 _ HC5.out hc3).mono ?_
  rintro e w7 ⟨he, hb7⟩
  rw [HR.out] at he
  subst he
  have HS7 := Aside0.mk (HS5.out.below hb7)
  clear hb7 p0 p1 p2 p3 q0 q1 q2 q3 r0 r1 r2 r3 HS5
  go_upto_region 10 with fail
  obtain ⟨q0, q1, q2, q3⟩ := HS7.out.1.c4
  go_wp2_with fail
  refine (get53_any v HNN.out HO.out A c _ HS7.out.2.1 hc).mono ?_
  rintro e w8 ⟨he, hb8⟩
  clear q0 q1 q2 q3
  cases hg : getOF v with
  | none =>
   rw [hg] at he
   replace he : e = .returned (.tuple #[.agg #[.int .u8 0, .int .u64 0, .int .u64 0, .string ⟨#[]⟩], .int .i64 6]) := he
   subst he
   have hal8 := below_alloc hb8 (.cells #[.int .u8 0, .int .u64 0, .int .u64 0, .string ⟨#[]⟩] 72)
   have HS8 := Aside0.mk (HS7.out.below hal8)
   have BP8 := Aside0.mk (Blk.new w8 #[.int .u8 0, .int .u64 0, .int .u64 0, .string ⟨#[]⟩] 72)
   clear hb8 hal8 hg
   go_upto_region 11 with fail
   obtain ⟨bp, ebp⟩ : ∃ b, w8.heap.size = b := ⟨_, rfl⟩
   obtain ⟨w9, ew9⟩ : ∃ W, w8.alloc (.cells #[.int .u8 0, .int .u64 0, .int .u64 0, .string ⟨#[]⟩] 72) = W := ⟨_, rfl⟩
   rw [ew9] at HS8 BP8 ⊢
   rw [ebp] at BP8 ⊢
   clear ebp ew9
   obtain ⟨r0, r1, r2, r3⟩ := BP8.out.c4
   go_upto_region 18 with fail
   clear r0 r1 r2 r3 BP8
   have HSi := HS8
   cases hat : asciiB (bytesOf t) with
   | false =>
    have HT := Aside0.mk hat
    clear hat
    go_wp2_with fail
    refine (put54_no t (by omega) HT.out _).mono ?_
    rintro e wj ⟨Aj, cj, rfl, hRj, hbj⟩
    have halj := below_alloc hbj (.cells #[.int .u8 zVal.f0, .int .u64 zVal.f1, .string zVal.f2, .slice Aj zVal.f3.length cj] 25)
    have HSj := Aside0.mk (HSi.out.below halj)
    clear hRj hbj halj
    go_wp2_with fail
    refine (works51_any _).mono ?_
    rintro e wz ⟨rfl, hbz⟩
    go_wp2_with fail
    go_ret
    exact ⟨rfl, below_step HSj.out.2.2 hbz⟩
   | true =>
    have HT := Aside0.mk hat
    have HG := Aside0.mk (condV_get hat)
    have HZ := Aside0.mk (condV_null (s := t))
    have HOK := Aside0.mk (condV_ok (s := t) (by omega))
    have hiz : itemsN (condV t) ≤ 4294967296 := by have := cond_items t; simp only [itemsL] at this; omega
    clear hat
    go_wp2_with fail
    refine (put54_yes t (by omega) HT.out _).mono ?_
    rintro e wj he
    obtain ⟨z, ez⟩ : ∃ z, condV t = z := ⟨_, rfl⟩
    rw [ez] at he HG HZ HOK hiz
    clear ez
    obtain ⟨Aj, cj, rfl, hRj, hbj⟩ := he
    have halj := below_alloc (Below.refl wj.heap.size wj) (.cells #[.int .u8 z.f0, .int .u64 z.f1, .string z.f2, .slice Aj z.f3.length cj] 25)
    have HSj := Aside0.mk (HSi.out.below (below_step hbj halj))
    have BZ := Aside0.mk (Blk.new wj #[.int .u8 z.f0, .int .u64 z.f1, .string z.f2, .slice Aj z.f3.length cj] 25)
    have hcj := (Kd.R_reads' hRj).2.1
    have HCj := Aside0.mk (Kd.C_below (Kd.R_reads' hRj).2.2 halj)
    clear hRj hbj halj
    go_upto_region 19 with fail
    obtain ⟨bz, ebz⟩ : ∃ b, wj.heap.size = b := ⟨_, rfl⟩
    obtain ⟨wl, ewl⟩ : ∃ W, wj.alloc (.cells #[.int .u8 z.f0, .int .u64 z.f1, .string z.f2, .slice Aj z.f3.length cj] 25) = W := ⟨_, rfl⟩
    rw [ewl] at HSj BZ HCj ⊢
    rw [ebz] at BZ ⊢
    clear ebz ewl
    obtain ⟨p0, p1, p2, p3⟩ := BZ.out.c4
    go_wp2_with fail
    refine (getCond55_any z hiz HOK.out Aj cj _ HCj.out hcj).mono ?_
    rintro e wm ⟨he, hbm⟩
    rw [HG.out] at he
    replace he : e = .returned (.tuple #[.string t, .int .i64 0]) := he
    subst he
    have HSm := Aside0.mk (HSj.out.below hbm)
    have BZm := BZ.out.below hbm
    clear hbm p0 p1 p2 p3 BZ
    obtain ⟨p0, p1, p2, p3⟩ := BZm.c4
    have hzn := HZ.out
    clear BZm
    cases hte : t.toList.isEmpty with
    | true =>
     rw [hte] at hzn
     have hte2 : t.toList = [] := by simpa using hte
     go_wp2_with fail
     refine (works51_any _).mono ?_
     rintro e wz ⟨rfl, hbz⟩
     go_wp2_with fail
     go_ret
     exact ⟨rfl, below_step HSm.out.2.2 hbz⟩
    | false =>
     rw [hte] at hzn
     have hte2 : (t.toList == []) = false := by cases hq : t.toList with
      | nil => rw [hq] at hte; cases hte
      | cons a b => rfl
     go_wp2_with fail
     refine (works51_any _).mono ?_
     rintro e wz ⟨rfl, hbz⟩
     go_wp2_with fail
     go_ret
     exact ⟨rfl, below_step HSm.out.2.2 hbz⟩
  | some p =>
   rw [hg] at he
   replace he : e = .returned (.tuple #[.agg #[.int .u8 p.k, .int .u64 p.a, .int .u64 p.b, .string p.cond], .int .i64 0]) := he
   subst he
   have HMP := Aside0.mk (get_may hg)
   obtain ⟨pa, pb, ps⟩ := getOF_ok HO.out hg
   obtain ⟨hget, hright⟩ := get_put (get_may hg) pa.1 pb.1
   have HGET := Aside0.mk hget
   have hit := right_items hright
   have HPOK := Aside0.mk (putOV_ok (o := p) (by have := mayO_k (get_may hg); omega) pa pb ps)
   have hal8 := below_alloc hb8 (.cells #[.int .u8 p.k, .int .u64 p.a, .int .u64 p.b, .string p.cond] 72)
   have HS8 := Aside0.mk (HS7.out.below hal8)
   have BP8 := Aside0.mk (Blk.new w8 #[.int .u8 p.k, .int .u64 p.a, .int .u64 p.b, .string p.cond] 72)
   clear hb8 hal8 hg hget hright pa pb
   go_upto_region 11 with fail
   obtain ⟨bp, ebp⟩ : ∃ b, w8.heap.size = b := ⟨_, rfl⟩
   obtain ⟨w9, ew9⟩ : ∃ W, w8.alloc (.cells #[.int .u8 p.k, .int .u64 p.a, .int .u64 p.b, .string p.cond] 72) = W := ⟨_, rfl⟩
   rw [ew9] at HS8 BP8 ⊢
   rw [ebp] at BP8 ⊢
   clear ebp ew9
   obtain ⟨r0, r1, r2, r3⟩ := BP8.out.c4
   go_wp2_with fail
   refine (put52_yes p.k p.a p.b p.cond ps HMP.out _).mono ?_
   rintro e wa he
   obtain ⟨y, ey⟩ : ∃ y, putOV p = y := ⟨_, rfl⟩
   rw [show (⟨p.k, p.a, p.b, p.cond⟩ : Out) = p from rfl, ey] at he
   rw [ey] at HGET hit HPOK
   clear ey r0 r1 r2 r3
   obtain ⟨Aa, ca, rfl, hRa, hba⟩ := he
   have hala := below_alloc (Below.refl wa.heap.size wa) (.cells #[.int .u8 y.f0, .int .u64 y.f1, .string y.f2, .slice Aa y.f3.length ca] 25)
   have hbaa := below_step hba hala
   have HSa := Aside0.mk (HS8.out.below hbaa)
   have BPa := Aside0.mk (BP8.out.below hbaa)
   have BY := Aside0.mk (Blk.new wa #[.int .u8 y.f0, .int .u64 y.f1, .string y.f2, .slice Aa y.f3.length ca] 25)
   have hca := (Kd.R_reads' hRa).2.1
   have HCa := Aside0.mk (Kd.C_below (Kd.R_reads' hRa).2.2 hala)
   clear hRa hba hala hbaa BP8 HS8
   go_upto_region 13 with fail
   obtain ⟨bY, ebY⟩ : ∃ b, wa.heap.size = b := ⟨_, rfl⟩
   obtain ⟨wb, ewb⟩ : ∃ W, wa.alloc (.cells #[.int .u8 y.f0, .int .u64 y.f1, .string y.f2, .slice Aa y.f3.length ca] 25) = W := ⟨_, rfl⟩
   rw [ewb] at HSa BPa BY HCa ⊢
   rw [ebY] at BY ⊢
   clear ebY ewb
   obtain ⟨p0, p1, p2, p3⟩ := BY.out.c4
   go_wp2_with fail
   refine (get53_any y hit HPOK.out Aa ca _ HCa.out hca).mono ?_
   rintro e wc ⟨he, hbc⟩
   rw [HGET.out] at he
   replace he : e = .returned (.tuple #[.agg #[.int .u8 p.k, .int .u64 p.a, .int .u64 p.b, .string p.cond], .int .i64 0]) := he
   subst he
   have halc := below_alloc hbc (.cells #[.int .u8 p.k, .int .u64 p.a, .int .u64 p.b, .string p.cond] 72)
   have HSc := Aside0.mk (HSa.out.below halc)
   have BPc := Aside0.mk (BPa.out.below halc)
   have BQ := Aside0.mk (Blk.new wc #[.int .u8 p.k, .int .u64 p.a, .int .u64 p.b, .string p.cond] 72)
   clear hbc halc p0 p1 p2 p3 BPa BY HCa HSa
   go_upto_region 14 with fail
   obtain ⟨bq, ebq⟩ : ∃ b, wc.heap.size = b := ⟨_, rfl⟩
   obtain ⟨wd, ewd⟩ : ∃ W, wc.alloc (.cells #[.int .u8 p.k, .int .u64 p.a, .int .u64 p.b, .string p.cond] 72) = W := ⟨_, rfl⟩
   rw [ewd] at HSc BPc BQ ⊢
   rw [ebq] at BQ ⊢
   clear ebq ewd
   obtain ⟨r0, r1, r2, r3⟩ := BPc.out.c4
   obtain ⟨q0, q1, q2, q3⟩ := BQ.out.c4
   go_upto_region 18 with fail
   clear r0 r1 r2 r3 q0 q1 q2 q3 BPc BQ
   have HSi := HSc
   cases hat : asciiB (bytesOf t) with
   | false =>
    have HT := Aside0.mk hat
    clear hat
    go_wp2_with fail
    refine (put54_no t (by omega) HT.out _).mono ?_
    rintro e wj ⟨Aj, cj, rfl, hRj, hbj⟩
    have halj := below_alloc hbj (.cells #[.int .u8 zVal.f0, .int .u64 zVal.f1, .string zVal.f2, .slice Aj zVal.f3.length cj] 25)
    have HSj := Aside0.mk (HSi.out.below halj)
    clear hRj hbj halj
    go_wp2_with fail
    refine (works51_any _).mono ?_
    rintro e wz ⟨rfl, hbz⟩
    go_wp2_with fail
    go_ret
    exact ⟨rfl, below_step HSj.out.2.2 hbz⟩
   | true =>
    have HT := Aside0.mk hat
    have HG := Aside0.mk (condV_get hat)
    have HZ := Aside0.mk (condV_null (s := t))
    have HOK := Aside0.mk (condV_ok (s := t) (by omega))
    have hiz : itemsN (condV t) ≤ 4294967296 := by have := cond_items t; simp only [itemsL] at this; omega
    clear hat
    go_wp2_with fail
    refine (put54_yes t (by omega) HT.out _).mono ?_
    rintro e wj he
    obtain ⟨z, ez⟩ : ∃ z, condV t = z := ⟨_, rfl⟩
    rw [ez] at he HG HZ HOK hiz
    clear ez
    obtain ⟨Aj, cj, rfl, hRj, hbj⟩ := he
    have halj := below_alloc (Below.refl wj.heap.size wj) (.cells #[.int .u8 z.f0, .int .u64 z.f1, .string z.f2, .slice Aj z.f3.length cj] 25)
    have HSj := Aside0.mk (HSi.out.below (below_step hbj halj))
    have BZ := Aside0.mk (Blk.new wj #[.int .u8 z.f0, .int .u64 z.f1, .string z.f2, .slice Aj z.f3.length cj] 25)
    have hcj := (Kd.R_reads' hRj).2.1
    have HCj := Aside0.mk (Kd.C_below (Kd.R_reads' hRj).2.2 halj)
    clear hRj hbj halj
    go_upto_region 19 with fail
    obtain ⟨bz, ebz⟩ : ∃ b, wj.heap.size = b := ⟨_, rfl⟩
    obtain ⟨wl, ewl⟩ : ∃ W, wj.alloc (.cells #[.int .u8 z.f0, .int .u64 z.f1, .string z.f2, .slice Aj z.f3.length cj] 25) = W := ⟨_, rfl⟩
    rw [ewl] at HSj BZ HCj ⊢
    rw [ebz] at BZ ⊢
    clear ebz ewl
    obtain ⟨p0, p1, p2, p3⟩ := BZ.out.c4
    go_wp2_with fail
    refine (getCond55_any z hiz HOK.out Aj cj _ HCj.out hcj).mono ?_
    rintro e wm ⟨he, hbm⟩
    rw [HG.out] at he
    replace he : e = .returned (.tuple #[.string t, .int .i64 0]) := he
    subst he
    have HSm := Aside0.mk (HSj.out.below hbm)
    have BZm := BZ.out.below hbm
    clear hbm p0 p1 p2 p3 BZ
    obtain ⟨p0, p1, p2, p3⟩ := BZm.c4
    have hzn := HZ.out
    clear BZm
    cases hte : t.toList.isEmpty with
    | true =>
     rw [hte] at hzn
     have hte2 : t.toList = [] := by simpa using hte
     go_wp2_with fail
     refine (works51_any _).mono ?_
     rintro e wz ⟨rfl, hbz⟩
     go_wp2_with fail
     go_ret
     exact ⟨rfl, below_step HSm.out.2.2 hbz⟩
    | false =>
     rw [hte] at hzn
     have hte2 : (t.toList == []) = false := by cases hq : t.toList with
      | nil => rw [hq] at hte; cases hte
      | cons a b => rfl
     go_wp2_with fail
     refine (works51_any _).mono ?_
     rintro e wz ⟨rfl, hbz⟩
     go_wp2_with fail
     go_ret
     exact ⟨rfl, below_step HSm.out.2.2 hbz⟩
 | false =>
  have hmo : mayO ⟨k, a, b, s⟩ = false := hm
  have HM := Aside0.mk hmo
  clear hmo hm
  go_wp2_with fail
  refine (put52_no k a b s (by omega) HM.out _).mono ?_
  rintro e w3 ⟨A3, c3, rfl, hR3, hb3⟩
  have hal3 := below_alloc hb3 (.cells #[.int .u8 zVal.f0, .int .u64 zVal.f1, .string zVal.f2, .slice A3 zVal.f3.length c3] 25)
  have HS7 := Aside0.mk (HS2.out.below hal3)
  clear hR3 hb3 hal3 p0 p1 p2 p3
  go_upto_region 10 with fail
  generalize w3.alloc (.cells #[.int .u8 zVal.f0, .int .u64 zVal.f1, .string zVal.f2, .slice A3 zVal.f3.length c3] 25) = w7 at HS7 ⊢
  obtain ⟨q0, q1, q2, q3⟩ := HS7.out.1.c4
  go_wp2_with fail
  refine (get53_any v HNN.out HO.out A c _ HS7.out.2.1 hc).mono ?_
  rintro e w8 ⟨he, hb8⟩
  clear q0 q1 q2 q3
  cases hg : getOF v with
  | none =>
   rw [hg] at he
   replace he : e = .returned (.tuple #[.agg #[.int .u8 0, .int .u64 0, .int .u64 0, .string ⟨#[]⟩], .int .i64 6]) := he
   subst he
   have hal8 := below_alloc hb8 (.cells #[.int .u8 0, .int .u64 0, .int .u64 0, .string ⟨#[]⟩] 72)
   have HS8 := Aside0.mk (HS7.out.below hal8)
   have BP8 := Aside0.mk (Blk.new w8 #[.int .u8 0, .int .u64 0, .int .u64 0, .string ⟨#[]⟩] 72)
   clear hb8 hal8 hg
   go_upto_region 11 with fail
   obtain ⟨bp, ebp⟩ : ∃ b, w8.heap.size = b := ⟨_, rfl⟩
   obtain ⟨w9, ew9⟩ : ∃ W, w8.alloc (.cells #[.int .u8 0, .int .u64 0, .int .u64 0, .string ⟨#[]⟩] 72) = W := ⟨_, rfl⟩
   rw [ew9] at HS8 BP8 ⊢
   rw [ebp] at BP8 ⊢
   clear ebp ew9
   obtain ⟨r0, r1, r2, r3⟩ := BP8.out.c4
   go_upto_region 18 with fail
   clear r0 r1 r2 r3 BP8
   have HSi := HS8
   cases hat : asciiB (bytesOf t) with
   | false =>
    have HT := Aside0.mk hat
    clear hat
    go_wp2_with fail
    refine (put54_no t (by omega) HT.out _).mono ?_
    rintro e wj ⟨Aj, cj, rfl, hRj, hbj⟩
    have halj := below_alloc hbj (.cells #[.int .u8 zVal.f0, .int .u64 zVal.f1, .string zVal.f2, .slice Aj zVal.f3.length cj] 25)
    have HSj := Aside0.mk (HSi.out.below halj)
    clear hRj hbj halj
    go_wp2_with fail
    refine (works51_any _).mono ?_
    rintro e wz ⟨rfl, hbz⟩
    go_wp2_with fail
    go_ret
    exact ⟨rfl, below_step HSj.out.2.2 hbz⟩
   | true =>
    have HT := Aside0.mk hat
    have HG := Aside0.mk (condV_get hat)
    have HZ := Aside0.mk (condV_null (s := t))
    have HOK := Aside0.mk (condV_ok (s := t) (by omega))
    have hiz : itemsN (condV t) ≤ 4294967296 := by have := cond_items t; simp only [itemsL] at this; omega
    clear hat
    go_wp2_with fail
    refine (put54_yes t (by omega) HT.out _).mono ?_
    rintro e wj he
    obtain ⟨z, ez⟩ : ∃ z, condV t = z := ⟨_, rfl⟩
    rw [ez] at he HG HZ HOK hiz
    clear ez
    obtain ⟨Aj, cj, rfl, hRj, hbj⟩ := he
    have halj := below_alloc (Below.refl wj.heap.size wj) (.cells #[.int .u8 z.f0, .int .u64 z.f1, .string z.f2, .slice Aj z.f3.length cj] 25)
    have HSj := Aside0.mk (HSi.out.below (below_step hbj halj))
    have BZ := Aside0.mk (Blk.new wj #[.int .u8 z.f0, .int .u64 z.f1, .string z.f2, .slice Aj z.f3.length cj] 25)
    have hcj := (Kd.R_reads' hRj).2.1
    have HCj := Aside0.mk (Kd.C_below (Kd.R_reads' hRj).2.2 halj)
    clear hRj hbj halj
    go_upto_region 19 with fail
    obtain ⟨bz, ebz⟩ : ∃ b, wj.heap.size = b := ⟨_, rfl⟩
    obtain ⟨wl, ewl⟩ : ∃ W, wj.alloc (.cells #[.int .u8 z.f0, .int .u64 z.f1, .string z.f2, .slice Aj z.f3.length cj] 25) = W := ⟨_, rfl⟩
    rw [ewl] at HSj BZ HCj ⊢
    rw [ebz] at BZ ⊢
    clear ebz ewl
    obtain ⟨p0, p1, p2, p3⟩ := BZ.out.c4
    go_wp2_with fail
    refine (getCond55_any z hiz HOK.out Aj cj _ HCj.out hcj).mono ?_
    rintro e wm ⟨he, hbm⟩
    rw [HG.out] at he
    replace he : e = .returned (.tuple #[.string t, .int .i64 0]) := he
    subst he
    have HSm := Aside0.mk (HSj.out.below hbm)
    have BZm := BZ.out.below hbm
    clear hbm p0 p1 p2 p3 BZ
    obtain ⟨p0, p1, p2, p3⟩ := BZm.c4
    have hzn := HZ.out
    clear BZm
    cases hte : t.toList.isEmpty with
    | true =>
     rw [hte] at hzn
     have hte2 : t.toList = [] := by simpa using hte
     go_wp2_with fail
     refine (works51_any _).mono ?_
     rintro e wz ⟨rfl, hbz⟩
     go_wp2_with fail
     go_ret
     exact ⟨rfl, below_step HSm.out.2.2 hbz⟩
    | false =>
     rw [hte] at hzn
     have hte2 : (t.toList == []) = false := by cases hq : t.toList with
      | nil => rw [hq] at hte; cases hte
      | cons a b => rfl
     go_wp2_with fail
     refine (works51_any _).mono ?_
     rintro e wz ⟨rfl, hbz⟩
     go_wp2_with fail
     go_ret
     exact ⟨rfl, below_step HSm.out.2.2 hbz⟩
  | some p =>
   rw [hg] at he
   replace he : e = .returned (.tuple #[.agg #[.int .u8 p.k, .int .u64 p.a, .int .u64 p.b, .string p.cond], .int .i64 0]) := he
   subst he
   have HMP := Aside0.mk (get_may hg)
   obtain ⟨pa, pb, ps⟩ := getOF_ok HO.out hg
   obtain ⟨hget, hright⟩ := get_put (get_may hg) pa.1 pb.1
   have HGET := Aside0.mk hget
   have hit := right_items hright
   have HPOK := Aside0.mk (putOV_ok (o := p) (by have := mayO_k (get_may hg); omega) pa pb ps)
   have hal8 := below_alloc hb8 (.cells #[.int .u8 p.k, .int .u64 p.a, .int .u64 p.b, .string p.cond] 72)
   have HS8 := Aside0.mk (HS7.out.below hal8)
   have BP8 := Aside0.mk (Blk.new w8 #[.int .u8 p.k, .int .u64 p.a, .int .u64 p.b, .string p.cond] 72)
   clear hb8 hal8 hg hget hright pa pb
   go_upto_region 11 with fail
   obtain ⟨bp, ebp⟩ : ∃ b, w8.heap.size = b := ⟨_, rfl⟩
   obtain ⟨w9, ew9⟩ : ∃ W, w8.alloc (.cells #[.int .u8 p.k, .int .u64 p.a, .int .u64 p.b, .string p.cond] 72) = W := ⟨_, rfl⟩
   rw [ew9] at HS8 BP8 ⊢
   rw [ebp] at BP8 ⊢
   clear ebp ew9
   obtain ⟨r0, r1, r2, r3⟩ := BP8.out.c4
   go_wp2_with fail
   refine (put52_yes p.k p.a p.b p.cond ps HMP.out _).mono ?_
   rintro e wa he
   obtain ⟨y, ey⟩ : ∃ y, putOV p = y := ⟨_, rfl⟩
   rw [show (⟨p.k, p.a, p.b, p.cond⟩ : Out) = p from rfl, ey] at he
   rw [ey] at HGET hit HPOK
   clear ey r0 r1 r2 r3
   obtain ⟨Aa, ca, rfl, hRa, hba⟩ := he
   have hala := below_alloc (Below.refl wa.heap.size wa) (.cells #[.int .u8 y.f0, .int .u64 y.f1, .string y.f2, .slice Aa y.f3.length ca] 25)
   have hbaa := below_step hba hala
   have HSa := Aside0.mk (HS8.out.below hbaa)
   have BPa := Aside0.mk (BP8.out.below hbaa)
   have BY := Aside0.mk (Blk.new wa #[.int .u8 y.f0, .int .u64 y.f1, .string y.f2, .slice Aa y.f3.length ca] 25)
   have hca := (Kd.R_reads' hRa).2.1
   have HCa := Aside0.mk (Kd.C_below (Kd.R_reads' hRa).2.2 hala)
   clear hRa hba hala hbaa BP8 HS8
   go_upto_region 13 with fail
   obtain ⟨bY, ebY⟩ : ∃ b, wa.heap.size = b := ⟨_, rfl⟩
   obtain ⟨wb, ewb⟩ : ∃ W, wa.alloc (.cells #[.int .u8 y.f0, .int .u64 y.f1, .string y.f2, .slice Aa y.f3.length ca] 25) = W := ⟨_, rfl⟩
   rw [ewb] at HSa BPa BY HCa ⊢
   rw [ebY] at BY ⊢
   clear ebY ewb
   obtain ⟨p0, p1, p2, p3⟩ := BY.out.c4
   go_wp2_with fail
   refine (get53_any y hit HPOK.out Aa ca _ HCa.out hca).mono ?_
   rintro e wc ⟨he, hbc⟩
   rw [HGET.out] at he
   replace he : e = .returned (.tuple #[.agg #[.int .u8 p.k, .int .u64 p.a, .int .u64 p.b, .string p.cond], .int .i64 0]) := he
   subst he
   have halc := below_alloc hbc (.cells #[.int .u8 p.k, .int .u64 p.a, .int .u64 p.b, .string p.cond] 72)
   have HSc := Aside0.mk (HSa.out.below halc)
   have BPc := Aside0.mk (BPa.out.below halc)
   have BQ := Aside0.mk (Blk.new wc #[.int .u8 p.k, .int .u64 p.a, .int .u64 p.b, .string p.cond] 72)
   clear hbc halc p0 p1 p2 p3 BPa BY HCa HSa
   go_upto_region 14 with fail
   obtain ⟨bq, ebq⟩ : ∃ b, wc.heap.size = b := ⟨_, rfl⟩
   obtain ⟨wd, ewd⟩ : ∃ W, wc.alloc (.cells #[.int .u8 p.k, .int .u64 p.a, .int .u64 p.b, .string p.cond] 72) = W := ⟨_, rfl⟩
   rw [ewd] at HSc BPc BQ ⊢
   rw [ebq] at BQ ⊢
   clear ebq ewd
   obtain ⟨r0, r1, r2, r3⟩ := BPc.out.c4
   obtain ⟨q0, q1, q2, q3⟩ := BQ.out.c4
   go_upto_region 18 with fail
   clear r0 r1 r2 r3 q0 q1 q2 q3 BPc BQ
   have HSi := HSc
   cases hat : asciiB (bytesOf t) with
   | false =>
    have HT := Aside0.mk hat
    clear hat
    go_wp2_with fail
    refine (put54_no t (by omega) HT.out _).mono ?_
    rintro e wj ⟨Aj, cj, rfl, hRj, hbj⟩
    have halj := below_alloc hbj (.cells #[.int .u8 zVal.f0, .int .u64 zVal.f1, .string zVal.f2, .slice Aj zVal.f3.length cj] 25)
    have HSj := Aside0.mk (HSi.out.below halj)
    clear hRj hbj halj
    go_wp2_with fail
    refine (works51_any _).mono ?_
    rintro e wz ⟨rfl, hbz⟩
    go_wp2_with fail
    go_ret
    exact ⟨rfl, below_step HSj.out.2.2 hbz⟩
   | true =>
    have HT := Aside0.mk hat
    have HG := Aside0.mk (condV_get hat)
    have HZ := Aside0.mk (condV_null (s := t))
    have HOK := Aside0.mk (condV_ok (s := t) (by omega))
    have hiz : itemsN (condV t) ≤ 4294967296 := by have := cond_items t; simp only [itemsL] at this; omega
    clear hat
    go_wp2_with fail
    refine (put54_yes t (by omega) HT.out _).mono ?_
    rintro e wj he
    obtain ⟨z, ez⟩ : ∃ z, condV t = z := ⟨_, rfl⟩
    rw [ez] at he HG HZ HOK hiz
    clear ez
    obtain ⟨Aj, cj, rfl, hRj, hbj⟩ := he
    have halj := below_alloc (Below.refl wj.heap.size wj) (.cells #[.int .u8 z.f0, .int .u64 z.f1, .string z.f2, .slice Aj z.f3.length cj] 25)
    have HSj := Aside0.mk (HSi.out.below (below_step hbj halj))
    have BZ := Aside0.mk (Blk.new wj #[.int .u8 z.f0, .int .u64 z.f1, .string z.f2, .slice Aj z.f3.length cj] 25)
    have hcj := (Kd.R_reads' hRj).2.1
    have HCj := Aside0.mk (Kd.C_below (Kd.R_reads' hRj).2.2 halj)
    clear hRj hbj halj
    go_upto_region 19 with fail
    obtain ⟨bz, ebz⟩ : ∃ b, wj.heap.size = b := ⟨_, rfl⟩
    obtain ⟨wl, ewl⟩ : ∃ W, wj.alloc (.cells #[.int .u8 z.f0, .int .u64 z.f1, .string z.f2, .slice Aj z.f3.length cj] 25) = W := ⟨_, rfl⟩
    rw [ewl] at HSj BZ HCj ⊢
    rw [ebz] at BZ ⊢
    clear ebz ewl
    obtain ⟨p0, p1, p2, p3⟩ := BZ.out.c4
    go_wp2_with fail
    refine (getCond55_any z hiz HOK.out Aj cj _ HCj.out hcj).mono ?_
    rintro e wm ⟨he, hbm⟩
    rw [HG.out] at he
    replace he : e = .returned (.tuple #[.string t, .int .i64 0]) := he
    subst he
    have HSm := Aside0.mk (HSj.out.below hbm)
    have BZm := BZ.out.below hbm
    clear hbm p0 p1 p2 p3 BZ
    obtain ⟨p0, p1, p2, p3⟩ := BZm.c4
    have hzn := HZ.out
    clear BZm
    cases hte : t.toList.isEmpty with
    | true =>
     rw [hte] at hzn
     have hte2 : t.toList = [] := by simpa using hte
     go_wp2_with fail
     refine (works51_any _).mono ?_
     rintro e wz ⟨rfl, hbz⟩
     go_wp2_with fail
     go_ret
     exact ⟨rfl, below_step HSm.out.2.2 hbz⟩
    | false =>
     rw [hte] at hzn
     have hte2 : (t.toList == []) = false := by cases hq : t.toList with
      | nil => rw [hq] at hte; cases hte
      | cons a b => rfl
     go_wp2_with fail
     refine (works51_any _).mono ?_
     rintro e wz ⟨rfl, hbz⟩
     go_wp2_with fail
     go_ret
     exact ⟨rfl, below_step HSm.out.2.2 hbz⟩
end Go.Proofs.Ytdilbnggedidnaa.PVal
