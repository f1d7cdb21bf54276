import Derived.Test.YtdilbnggedidnaaGreatQ1
set_option maxRecDepth 100000
set_option maxHeartbeats 8000000
namespace Go.Proofs.YtdilbnggedidnaaGreat.PVal
open Go.RowKit Go.Proofs.YtdilbnggedidnaaGreatW.PrintWords Go.Proofs.YtdilbnggedidnaaGreatW.PrintLast
set_option linter.unusedVariables false
set_option linter.unusedSimpArgs false
theorem more134_any (x : Int) (w : World) : Calls Tryz.prog 111 #[.int .u32 x] w fun e w' => e = .returned (.int .i64 (moreN x : Int)) ∧ w = w' := by
 by_cases h1 : x ≤ 127
 ·go_enter Tryz.func111, Tryz.ntmps111
  go_wp2_with fail
  go_ret
  exact ⟨by simp [moreN, h1], rfl⟩
 ·by_cases h2 : x ≤ 2047
  ·go_enter Tryz.func111, Tryz.ntmps111
   go_wp2_with fail
   go_ret
   exact ⟨by unfold moreN; rw [if_neg (by omega), if_pos h2]; rfl, rfl⟩
  ·by_cases h3 : x ≤ 65535
   ·go_enter Tryz.func111, Tryz.ntmps111
    go_wp2_with fail
    go_ret
    exact ⟨by unfold moreN; rw [if_neg (by omega), if_neg (by omega), if_pos h3]; rfl, rfl⟩
   ·go_enter Tryz.func111, Tryz.ntmps111
    go_wp2_with fail
    go_ret
    exact ⟨by unfold moreN; rw [if_neg (by omega), if_neg (by omega), if_neg (by omega)]; rfl, rfl⟩
theorem char117_any (x : Int) (h : 0 ≤ x) (w : World) : Calls Tryz.prog 92 #[.int .u64 x] w fun e w' => e = .returned (.bool (isChar x)) ∧ w = w' := by
 by_cases h1 : x ≤ 1114111
 ·by_cases h2 : x < 55296
  ·go_enter Tryz.func92, Tryz.ntmps92
   go_wp2_with fail
   go_ret
   exact ⟨congrArg Ending.returned (congrArg Value.bool (by rw [Bool.eq_iff_iff]; simp [isChar]; omega)), rfl⟩
  ·go_enter Tryz.func92, Tryz.ntmps92
   go_wp2_with fail
   go_ret
   exact ⟨congrArg Ending.returned (congrArg Value.bool (by rw [Bool.eq_iff_iff]; simp [isChar]; omega)), rfl⟩
 ·go_enter Tryz.func92, Tryz.ntmps92
  go_wp2_with fail
  go_ret
  exact ⟨congrArg Ending.returned (congrArg Value.bool (by rw [Bool.eq_iff_iff]; simp [isChar]; omega)), rfl⟩
theorem add_nought (a : Addr) : a.add 0 = a := by unfold Addr.add; simp
theorem add_one' (a : Addr) : a.add 1 = ⟨a.block, a.off + 1, none⟩ := by unfold Addr.add; simp
def u32of (r : Option (Int × Nat)) : Value := .tuple #[.int .u32 (r.getD (0, 0)).1, .int .i64 ((r.getD (0, 0)).2 : Int)]
theorem Nat.or_disjoint' (a b : Nat) (hb : b < 64) : a * 64 ||| b = a * 64 + b := by
 have := Nat.two_pow_add_eq_or_of_lt (i := 6) (b := b) hb a
 rw [Nat.mul_comm a 64]
 exact this.symm
theorem first133_any (x : Int) (h0 : 0 ≤ x) (h1 : x ≤ 255) (w : World) : Calls Tryz.prog 110 #[.int .u8 x] w fun e w' => ∃ r1 r2 r3, e = .returned (.tuple #[.int .u32 r1, .int .i64 r2, .bool r3]) ∧ (match headP x with
  | none => r1 = 0 ∧ r2 = 0 ∧ r3 = false
  | some (c, n) => c = r1 ∧ r2 = (n : Int) ∧ r3 = true) ∧ Drawn0 w w' := by
 have key : ∃ r1 r2 r3, utf_first.f 1 x = some (r1, r2, r3) ∧ (match headP x with
  | none => r1 = 0 ∧ r2 = 0 ∧ r3 = false
  | some (c, n) => c = r1 ∧ r2 = (n : Int) ∧ r3 = true) := by
  unfold utf_first.f headP
  by_cases a1 : x < 128
  ·rw [if_pos a1, if_pos a1]
   exact ⟨_, _, _, rfl, by omega, rfl, rfl⟩
  ·rw [if_neg a1, if_neg a1]
   by_cases a2 : x ≥ 248
   ·rw [if_pos a2, if_pos a2]
    exact ⟨_, _, _, rfl, rfl, rfl, rfl⟩
   ·rw [if_neg a2, if_neg a2]
    by_cases a3 : x < 192
    ·rw [if_pos a3, decide_eq_true a3]
     exact ⟨_, _, _, rfl, rfl, rfl, rfl⟩
    ·rw [if_neg a3, decide_eq_false a3]
     simp only [utf_first.j0]
     rw [if_neg (by decide)]
     by_cases a4 : x ≥ 240
     ·rw [if_pos a4, if_pos a4, u8_and7 x h0 (by omega)]
      exact ⟨_, _, _, rfl, by omega, rfl, rfl⟩
     ·rw [if_neg a4, if_neg a4]
      by_cases a5 : x ≥ 224
      ·rw [if_pos a5, if_pos a5, u8_and15 x h0 (by omega)]
       exact ⟨_, _, _, rfl, by omega, rfl, rfl⟩
      ·rw [if_neg a5, if_neg a5, u8_and31 x h0 (by omega)]
       exact ⟨_, _, _, rfl, by omega, rfl, rfl⟩
 obtain ⟨r1, r2, r3, hf, hm⟩ := key
 exact (utf_first.calls 1 x r1 r2 r3 w hf).mono fun e w' ⟨he, hd⟩ => ⟨r1, r2, r3, he, hm, hd⟩
theorem headP_bd {x c : Int} {n : Nat} (h0 : 0 ≤ x) (h : headP x = some (c, n)) : 0 ≤ c ∧ n ≤ 3 ∧ (n = 0 ∧ c < 128 ∨ 1 ≤ n ∧ c < 32) := by
 unfold headP at h
 split at h
 ·simp only [Option.some.injEq, Prod.mk.injEq] at h; omega
 ·split at h
  ·simp at h
  ·split at h
   ·simp at h
   ·split at h
    ·simp only [Option.some.injEq, Prod.mk.injEq] at h; omega
    ·split at h <;> (simp only [Option.some.injEq, Prod.mk.injEq] at h; omega)
def CharInv (t : List Int) (n : Nat) (c0 : Int) (i cc : Int) : Prop :=
 1 ≤ i ∧ i ≤ n + 1 ∧ n ≤ 3 ∧ n ≤ t.length ∧ 0 ≤ cc ∧ (n = 0 ∧ cc < 128 ∨ i = 1 ∧ cc < 32 ∨ i = 2 ∧ cc < 2048 ∨ i = 3 ∧ cc < 131072 ∨ i = 4 ∧ cc < 8388608) ∧ tailP ((n : Int) + 1 - i).toNat cc (t.drop (i - 1).toNat) = tailP n c0 t
theorem char130_any (l : List Int) (hl : bytesR l) (hp : 0 < l.length) (A : Option Addr) (c : Nat) (w : World) (ha : Kd.C (Kd.int .u8) w A l.length l) (hc : l.length ≤ c) :
  Calls Tryz.prog 105 #[.slice A l.length c] w fun e w' => e = .returned (u32of (charP l)) ∧ Below w.heap.size w w' := by
 obtain ⟨x, t, rfl⟩ := List.exists_cons_of_length_pos hp
 have hm : (x :: t).length ≤ 9223372036854775807 := Kd.C_max ha
 simp only [List.length_cons] at hm
 obtain ⟨ad, e1, hx0⟩ := Kd.at_int ha 0 (by omega) (by simp only [List.length_cons]; omega)
 cases e1
 have HA := Aside0.mk ha
 have hx := hl x (by simp)
 clear ha hp
 have h0 : rd (x :: t) 0 = x := rfl
 rw [h0] at hx0
 rw [show (0 : Int).toNat = 0 from rfl, add_nought] at hx0
 have hz : (0 : Int) < (t.length : Int) + 1 := by omega
 go_enter Tryz.func105, Tryz.ntmps105
 go_wp2_with fail
 refine wp_scope_jumps 0 (fun a' w' => Aside0 (Below w.heap.size w w') ∧ ∃ (c0 cc i : Int) (n : Nat) (u1 u6 u8 u9 u10 u11 u12 u13 u14 u15 u16 u17 u18 u19 u20 u21 u22 u23 u24 u25 u26 u27 u28 u29 u30 u31 u32 u33 u34 u35 u36 u37 u38 u39 u40 u41 u42 u43 u44 u45 u46 u47 u48 u49 u50 u51 u52 u53 u54 u55 u56 : Value), a' = { tmps := #[.slice (some ad) (t.length + 1) c, u1, .int .u32 0, .int .i64 0, .int .u32 cc, .int .i64 (n : Int), u6, .int .i64 i, u8, u9, u10, u11, u12, u13, u14, u15, u16, u17, u18, u19, u20, u21, u22, u23, u24, u25, u26, u27, u28, u29, u30, u31, u32, u33, u34, u35, u36, u37, u38, u39, u40, u41, u42, u43, u44, u45, u46, u47, u48, u49, u50, u51, u52, u53, u54, u55, u56], defers := [] } ∧ Aside0 (headP x = some (c0, n) ∧ CharInv t n c0 i cc)) (fun a' _ => 5 - (intOf (a'.tmps.getD 7 undef)).toNat) rfl ?_ ?_
 ·go_wp2_with fail
  refine (first133_any x hx.1 hx.2 _).mono ?_
  rintro e w2 ⟨r1, r2, r3, rfl, hr, hd⟩
  have HW := Aside0.mk hd.below
  have hx2 : w2.cell? ad = some (.int .u8 x) := (hd.below.cell (World.block_lt_of_cell? w _ hx0)).trans hx0
  clear hd
  cases hh : headP x with
  | none =>
   rw [hh] at hr
   obtain ⟨rfl, rfl, rfl⟩ := hr
   have HE : Aside0 (charP (x :: t) = none) := ⟨by simp [charP, hh]⟩
   clear hh
   go_wp2_with fail
   simp only [Exit.jump]
   go_ret2
   exact ⟨by rw [HE.out]; rfl, HW.out⟩
  | some p =>
   obtain ⟨c0, n⟩ := p
   rw [hh] at hr
   obtain ⟨rfl, rfl, rfl⟩ := hr
   have hbd0 := headP_bd hx.1 hh
   have HH := Aside0.mk hh
   clear hh
   by_cases hlen : n ≤ t.length
   ·have hi : CharInv t n c0 1 c0 := by
     refine ⟨by omega, by omega, hbd0.2.1, hlen, hbd0.1, by omega, ?_⟩
     rw [show ((n : Int) + 1 - 1).toNat = n by omega]
     rfl
    have HI := Aside0.mk hi
    have hge : decide ((t.length : Int) + 1 ≤ (n : Int)) = false := decide_eq_false (by omega)
    clear hi
    go_wp2_with fail
    go_step3
    by_cases hin : ((1 : Int) : Int) ≤ (n : Int)
    ·obtain ⟨ad', e2, hy0⟩ := Kd.at_int HA.out (1 : Int) (by omega) (by simp only [List.length_cons]; omega)
     cases e2
     have hy1 := (HW.out.cell (World.block_lt_of_cell? w _ hy0)).trans hy0
     have hyl : (1 : Int) < (t.length : Int) + 1 := by omega
     obtain ⟨y, hyy⟩ : ∃ y, rd (x :: t) (1 : Int) = y := ⟨_, rfl⟩
     have hyr : 0 ≤ y ∧ y ≤ 255 := by
      have : rd (x :: t) (1 : Int) ∈ x :: t := by
       unfold rd
       rw [List.getD_eq_getElem?_getD, List.getElem?_eq_getElem (by simp only [List.length_cons]; omega)]
       exact List.getElem_mem _
      rw [hyy] at this
      exact hl y this
     have hdr : t.drop ((1 : Int) - 1).toNat = y :: t.drop ((1 : Int) + 1 - 1).toNat := by
      have h2 : ((1 : Int) - 1).toNat < t.length := by omega
      rw [List.drop_eq_getElem_cons h2, show ((1 : Int) + 1 - 1).toNat = ((1 : Int) - 1).toNat + 1 by omega, ← hyy]
      unfold rd
      rw [show ((1 : Int) : Int).toNat = ((1 : Int) - 1).toNat + 1 by omega]
      simp only [List.getD_eq_getElem?_getD, List.getElem?_cons_succ]
      rw [List.getElem?_eq_getElem h2]
      rfl
     rw [hyy, show (1 : Int).toNat = 1 from rfl, add_one'] at hy1
     have HD := Aside0.mk hdr
     have hbd : c0 < 67108864 ∧ 0 ≤ c0 := by have := HI.out; unfold CharInv at this; omega
     have hor : Go.bits .or .u32 (c0 * 64) (y % 64) = 64 * c0 + y % 64 := by
      rw [u32_or (c0 * 64) (y % 64) (by omega) (by omega) (by omega) (by omega)]
      have := Nat.or_disjoint' (c0.toNat) ((y % 64).toNat) (by omega)
      rw [show (c0 * 64).toNat = c0.toNat * 64 by omega, this]
      omega
     have hand : Go.bits .and .u8 y 63 = y % 64 := u8_and63 y hyr.1 (by omega)
     have HOR := Aside0.mk hor
     have HAND := Aside0.mk hand
     have hcn : decide (((1 : Int) : Int) ≤ (n : Int)) = true := decide_eq_true hin
     clear hy0 hyy hdr hor hand
     by_cases hy : y / 64 = 2
     ·have hy2 : (y / 64 != 2) = false := by rw [hy]; rfl
      have HI2 : Aside0 (CharInv t n c0 ((1 : Int) + 1) (64 * c0 + y % 64)) := by
       refine ⟨?_⟩
       have q := HI.out
       unfold CharInv at q ⊢
       obtain ⟨q1, q2, q3, q4, q5, q6, q7⟩ := q
       refine ⟨by omega, by omega, q3, q4, by omega, by omega, ?_⟩
       rw [← q7, HD.out, show ((n : Int) + 1 - (1 : Int)).toNat = ((n : Int) + 1 - ((1 : Int) + 1)).toNat + 1 by omega, tailP, if_pos hy]
      have HY := Aside0.mk hy
      clear hy
      go_wp2_with fail
      go_step3
      rw [HOR.out]
      exact ⟨rfl, HW, c0, _, _, n, _, _, _, _, _, _, _, _, _, _, _, _, _, _, _, _, _, _, _, _, _, _, _, _, _, _, _, _, _, _, _, _, _, _, _, _, _, _, _, _, _, _, _, _, _, _, _, _, _, _, _, rfl, ⟨HH.out, HI2.out⟩⟩
     ·have hy2 : (y / 64 != 2) = true := by rw [bne_iff_ne]; exact hy
      have HE : Aside0 (charP (x :: t) = none) := by
       refine ⟨?_⟩
       have q := HI.out
       unfold CharInv at q
       obtain ⟨q1, q2, q3, q4, q5, q6, q7⟩ := q
       rw [HD.out, show ((n : Int) + 1 - (1 : Int)).toNat = ((n : Int) + 1 - ((1 : Int) + 1)).toNat + 1 by omega, tailP, if_neg hy] at q7
       simp only [charP, HH.out, ← q7]
       rw [if_neg (by omega)]
      clear hy
      go_wp2_with fail
      simp only [Exit.jump]
      go_ret2
      exact ⟨by rw [HE.out]; rfl, HW.out⟩
    ·have hcn : decide (((1 : Int) : Int) ≤ (n : Int)) = false := decide_eq_false hin
     have HE : Aside0 (charP (x :: t) = if isChar c0 && moreN c0 == n then some (c0, n + 1) else none) := by
      refine ⟨?_⟩
      have q := HI.out
      unfold CharInv at q
      obtain ⟨q1, q2, q3, q4, q5, q6, q7⟩ := q
      rw [show ((n : Int) + 1 - (1 : Int)).toNat = 0 by omega, tailP] at q7
      simp only [charP, HH.out, ← q7]
      rw [if_neg (by omega)]
     have hbd : c0 < 67108864 ∧ 0 ≤ c0 := by have := HI.out; unfold CharInv at this; omega
     go_wp2_with fail
     refine (char117_any c0 hbd.2 _).mono ?_
     rintro e w3 ⟨rfl, rfl⟩
     cases hq : isChar c0 with
     | false =>
      have HQ := Aside0.mk hq
      clear hq
      go_wp2_with fail
      simp only [Exit.jump]
      go_ret2
      exact ⟨by rw [HE.out, HQ.out]; rfl, HW.out⟩
     | true =>
      have HQ := Aside0.mk hq
      clear hq
      go_wp2_with fail
      refine (more134_any c0 _).mono ?_
      rintro e w4 ⟨rfl, rfl⟩
      by_cases hmn : moreN c0 = n
      ·have hb : ((moreN c0 : Int) != (n : Int)) = false := by rw [hmn]; simp
       have HM := Aside0.mk hmn
       clear hmn
       go_wp2_with fail
       simp only [Exit.jump]
       go_ret2
       exact ⟨by rw [HE.out, HQ.out, HM.out]; simp [u32of], HW.out⟩
      ·have hb : ((moreN c0 : Int) != (n : Int)) = true := by rw [bne_iff_ne]; omega
       have HM : Aside0 ((moreN c0 == n) = false) := ⟨by simpa using hmn⟩
       clear hmn
       go_wp2_with fail
       simp only [Exit.jump]
       go_ret2
       exact ⟨by rw [HE.out, HQ.out, HM.out]; rfl, HW.out⟩
   ·have HE : Aside0 (charP (x :: t) = none) := ⟨by simp only [charP, HH.out]; rw [if_pos (by omega)]⟩
    have hge : decide ((t.length : Int) + 1 ≤ (n : Int)) = true := decide_eq_true (by omega)
    go_wp2_with fail
    simp only [Exit.jump]
    go_ret2
    exact ⟨by rw [HE.out]; rfl, HW.out⟩
 ·rintro a' wr ⟨HW, c0, cc, i, n, u1, u6, u8, u9, u10, u11, u12, u13, u14, u15, u16, u17, u18, u19, u20, u21, u22, u23, u24, u25, u26, u27, u28, u29, u30, u31, u32, u33, u34, u35, u36, u37, u38, u39, u40, u41, u42, u43, u44, u45, u46, u47, u48, u49, u50, u51, u52, u53, u54, u55, u56, rfl, HX⟩
  obtain ⟨hh, hi⟩ := HX.out
  have HH := Aside0.mk hh
  have HI := Aside0.mk hi
  have hbd0 := headP_bd hx.1 hh
  have hi1 : 1 ≤ i := hi.1
  have hi2 : i ≤ n + 1 := hi.2.1
  have hlen : n ≤ t.length := hi.2.2.2.1
  clear HX hh hi
  by_cases hin : (i : Int) ≤ (n : Int)
  ·obtain ⟨ad', e2, hy0⟩ := Kd.at_int HA.out i (by omega) (by simp only [List.length_cons]; omega)
   cases e2
   have hy1 := (HW.out.cell (World.block_lt_of_cell? w _ hy0)).trans hy0
   have hyl : i < (t.length : Int) + 1 := by omega
   obtain ⟨y, hyy⟩ : ∃ y, rd (x :: t) i = y := ⟨_, rfl⟩
   have hyr : 0 ≤ y ∧ y ≤ 255 := by
    have : rd (x :: t) i ∈ x :: t := by
     unfold rd
     rw [List.getD_eq_getElem?_getD, List.getElem?_eq_getElem (by simp only [List.length_cons]; omega)]
     exact List.getElem_mem _
    rw [hyy] at this
    exact hl y this
   have hdr : t.drop (i - 1).toNat = y :: t.drop (i + 1 - 1).toNat := by
    have h2 : (i - 1).toNat < t.length := by omega
    rw [List.drop_eq_getElem_cons h2, show (i + 1 - 1).toNat = (i - 1).toNat + 1 by omega, ← hyy]
    unfold rd
    rw [show (i : Int).toNat = (i - 1).toNat + 1 by omega]
    simp only [List.getD_eq_getElem?_getD, List.getElem?_cons_succ]
    rw [List.getElem?_eq_getElem h2]
    rfl
   rw [hyy] at hy1
   have HD := Aside0.mk hdr
   have hbd : cc < 67108864 ∧ 0 ≤ cc := by have := HI.out; unfold CharInv at this; omega
   have hor : Go.bits .or .u32 (cc * 64) (y % 64) = 64 * cc + y % 64 := by
    rw [u32_or (cc * 64) (y % 64) (by omega) (by omega) (by omega) (by omega)]
    have := Nat.or_disjoint' (cc.toNat) ((y % 64).toNat) (by omega)
    rw [show (cc * 64).toNat = cc.toNat * 64 by omega, this]
    omega
   have hand : Go.bits .and .u8 y 63 = y % 64 := u8_and63 y hyr.1 (by omega)
   have HOR := Aside0.mk hor
   have HAND := Aside0.mk hand
   have hcn : decide ((i : Int) ≤ (n : Int)) = true := decide_eq_true hin
   clear hy0 hyy hdr hor hand
   by_cases hy : y / 64 = 2
   ·have hy2 : (y / 64 != 2) = false := by rw [hy]; rfl
    have HI2 : Aside0 (CharInv t n c0 (i + 1) (64 * cc + y % 64)) := by
     refine ⟨?_⟩
     have q := HI.out
     unfold CharInv at q ⊢
     obtain ⟨q1, q2, q3, q4, q5, q6, q7⟩ := q
     refine ⟨by omega, by omega, q3, q4, by omega, by omega, ?_⟩
     rw [← q7, HD.out, show ((n : Int) + 1 - i).toNat = ((n : Int) + 1 - (i + 1)).toNat + 1 by omega, tailP, if_pos hy]
    have HY := Aside0.mk hy
    clear hy
    go_wp2_with fail
    go_step3
    rw [HOR.out]
    exact ⟨rfl, ⟨HW, c0, _, _, n, _, _, _, _, _, _, _, _, _, _, _, _, _, _, _, _, _, _, _, _, _, _, _, _, _, _, _, _, _, _, _, _, _, _, _, _, _, _, _, _, _, _, _, _, _, _, _, _, _, _, _, rfl, ⟨HH.out, HI2.out⟩⟩, by simp [intOf]; omega⟩
   ·have hy2 : (y / 64 != 2) = true := by rw [bne_iff_ne]; exact hy
    have HE : Aside0 (charP (x :: t) = none) := by
     refine ⟨?_⟩
     have q := HI.out
     unfold CharInv at q
     obtain ⟨q1, q2, q3, q4, q5, q6, q7⟩ := q
     rw [HD.out, show ((n : Int) + 1 - i).toNat = ((n : Int) + 1 - (i + 1)).toNat + 1 by omega, tailP, if_neg hy] at q7
     simp only [charP, HH.out, ← q7]
     rw [if_neg (by omega)]
    clear hy
    go_wp2_with fail
    simp only [Exit.jump]
    go_ret2
    exact ⟨by rw [HE.out]; rfl, HW.out⟩
  ·have hcn : decide ((i : Int) ≤ (n : Int)) = false := decide_eq_false hin
   have HE : Aside0 (charP (x :: t) = if isChar cc && moreN cc == n then some (cc, n + 1) else none) := by
    refine ⟨?_⟩
    have q := HI.out
    unfold CharInv at q
    obtain ⟨q1, q2, q3, q4, q5, q6, q7⟩ := q
    rw [show ((n : Int) + 1 - i).toNat = 0 by omega, tailP] at q7
    simp only [charP, HH.out, ← q7]
    rw [if_neg (by omega)]
   have hbd : cc < 67108864 ∧ 0 ≤ cc := by have := HI.out; unfold CharInv at this; omega
   go_wp2_with fail
   refine (char117_any cc hbd.2 _).mono ?_
   rintro e w3 ⟨rfl, rfl⟩
   cases hq : isChar cc with
   | false =>
    have HQ := Aside0.mk hq
    clear hq
    go_wp2_with fail
    simp only [Exit.jump]
    go_ret2
    exact ⟨by rw [HE.out, HQ.out]; rfl, HW.out⟩
   | true =>
    have HQ := Aside0.mk hq
    clear hq
    go_wp2_with fail
    refine (more134_any cc _).mono ?_
    rintro e w4 ⟨rfl, rfl⟩
    by_cases hmn : moreN cc = n
    ·have hb : ((moreN cc : Int) != (n : Int)) = false := by rw [hmn]; simp
     have HM := Aside0.mk hmn
     clear hmn
     go_wp2_with fail
     simp only [Exit.jump]
     go_ret2
     exact ⟨by rw [HE.out, HQ.out, HM.out]; simp [u32of], HW.out⟩
    ·have hb : ((moreN cc : Int) != (n : Int)) = true := by rw [bne_iff_ne]; omega
     have HM : Aside0 ((moreN cc == n) = false) := ⟨by simpa using hmn⟩
     clear hmn
     go_wp2_with fail
     simp only [Exit.jump]
     go_ret2
     exact ⟨by rw [HE.out, HQ.out, HM.out]; rfl, HW.out⟩
end Go.Proofs.YtdilbnggedidnaaGreat.PVal
namespace Go.Proofs.YtdilbnggedidnaaGreat.PVal
open Go.RowKit Go.Proofs.YtdilbnggedidnaaGreatW.PrintWords Go.Proofs.YtdilbnggedidnaaGreatW.PrintLast
set_option linter.unusedVariables false
set_option linter.unusedSimpArgs false
theorem info125v : (Tryz.prog.info? 103).map (fun i => (i.zero, i.size, i.bytes)) = some (some (.int .u32 0), 1, 4) := by kernel_rfl
theorem info5v : (Tryz.prog.info? 5).map (fun i => (i.zero, i.size, i.bytes)) = some (some (.int .u8 0), 1, 1) := by kernel_rfl
theorem charP_le {b : List Int} (hb : bytesR b) {c : Int} {m : Nat} (h : charP b = some (c, m)) : 1 ≤ m ∧ m ≤ b.length := by
 obtain ⟨_, h2, h3⟩ := one_charP hb h
 have := oneP_pos c
 have h4 := congrArg List.length h3
 simp only [List.length_append] at h4
 omega
theorem chars127_any (l : List Int) (hl : bytesR l) (hs : l.length ≤ 4294967296) (A : Option Addr) (c : Nat) (w : World) (ha : Kd.C (Kd.int .u8) w A l.length l) (hc : l.length ≤ c) :
  Calls Tryz.prog 100 #[.slice A l.length c] w fun e w' => (∃ v, e = .returned (.tuple #[v, .bool (textR l)])) ∧ Below w.heap.size w w' := by
 have HA := Aside0.mk ha
 obtain ⟨i5, hi5, hz5⟩ := Option.map_eq_some_iff.1 info5v
 simp only [Prod.mk.injEq] at hz5
 have H5 := Aside0.mk hz5.2.1
 have I5 := Aside0.mk hi5
 clear ha hz5 hi5
 go_enter Tryz.func100, Tryz.ntmps100
 go_wp2_with fail
 go_loopg [0, 4] l.length (fun gk v0 v4 wr => ∃ (b out : List Int) (A0 A4 : Option Addr) (c0 c4 : Nat), v0 = .slice A0 b.length c0 ∧ v4 = .slice A4 out.length c4 ∧ Aside0 (Kd.C (Kd.int .u8) w A0 b.length b ∧ b.length ≤ c0 ∧ bytesR b ∧ b.length ≤ gk ∧ out.length + b.length ≤ l.length ∧ (charsF gk b).isSome = textR l) ∧ Aside0 ((Kd.int .u32).R 103 wr w.heap.size (fun _ => True) (.slice A4 out.length c4) out) ∧ Aside0 (Below w.heap.size w wr))
 case atStart => exact ⟨l, [], A, none, c, 0, rfl, rfl, ⟨HA.out, hc, hl, Nat.le_refl _, by simp, rfl⟩, ⟨Kd.R_nil _ _ _ _ _⟩, ⟨Below.refl _ _⟩⟩
 case round =>
  obtain ⟨b, out, A0, A4, c0, c4, rfl, rfl, HI, HO, HW⟩ := hrel
  obtain ⟨hC, hc0, hbr, hgk, hsum, htx⟩ := HI.out
  have HC := Aside0.mk hC
  have HT := Aside0.mk htx
  have HBR := Aside0.mk hbr
  clear HI hC htx hbr
  by_cases hb : 0 < b.length
  ·have hbI : (0 : Int) < (b.length : Int) := by omega
   have hcd : decide ((0 : Int) < (b.length : Int)) = true := decide_eq_true hbI
   have hcd2 : decide (0 < b.length) = true := decide_eq_true hb
   go_wp2_with fail
   refine (char130_any b HBR.out hb A0 c0 wr (Kd.C_below HC.out HW.out) hc0).mono ?_
   rintro e w2 ⟨rfl, hbl⟩
   have HW2 : Aside0 (Below w.heap.size w w2) := ⟨below_step HW.out hbl⟩
   have HO2 : Aside0 ((Kd.int .u32).R 103 w2 w.heap.size (fun _ => True) (.slice A4 out.length c4) out) := ⟨Kd.R_below HO.out hbl⟩
   obtain ⟨k, rfl⟩ : ∃ k, gk = k + 1 := ⟨gk - 1, by omega⟩
   clear hbl HO
   cases hp : charP b with
   | none =>
    have HE : Aside0 (textR l = false) := by
     refine ⟨?_⟩
     rw [← HT.out]
     cases b with
     | nil => simp at hb
     | cons y t => simp [charsF, hp]
    clear hp
    simp only [u32of, Option.getD_none]
    go_wp2_with fail
    go_ret2
    exact ⟨⟨_, by rw [HE.out]; rfl⟩, HW2.out⟩
   | some p =>
    obtain ⟨x, m⟩ := p
    obtain ⟨hm1, hm2⟩ := charP_le HBR.out hp
    have HE : Aside0 ((charsF k (b.drop m)).isSome = textR l) := by
     refine ⟨?_⟩
     rw [← HT.out]
     cases b with
     | nil => simp at hb
     | cons y t => simp only [charsF, hp, Option.isSome_map]
    obtain ⟨A', hcut, hread⟩ := print_cut_of (P := Tryz.prog) (Value.int .u8) (0 : Int) 45 5 .i64 Tryz.underlying45 I5.out H5.out A0 b.length c0 m hm2
    have hmz : ((m : Int) == 0) = false := by rw [beq_eq_false_iff_ne]; omega
    have HR := Aside0.mk (hread w b hc0 (Kd.reads_of_C HC.out))
    clear hp hread
    simp only [u32of, Option.getD_some]
    go_wp2_with (at_builtin; refine Kd.R_append (Kd.int .u32) (w0 := w) w.heap.size rfl (.tmp 17) (.tmp 19) 97 103 _ 4 rfl Tryz.underlying97 info125v rfl (by decide) (by decide) (.slice A4 out.length c4) out x [.int .u32 x] (fun _ => True) (fun _ => False) rfl rfl rfl (fun _ h => h.elim) (fun _ _ => trivial) HO2.out HW2.out HW2.out.size (by omega) ?_; intro v1 w3 hR hB hG hA)
    obtain ⟨A5, c5, rfl⟩ := Kd.R_slice hR
    go_roundg k
    case measure => omega
    case rel =>
     exact ⟨b.drop m, out ++ [x], A', A5, c0 - m, c5, by simp, rfl, ⟨by have := Kd.C_of_reads (d := (0 : Int)) (h1 := fun _ => rfl) HR.out; rw [List.length_drop]; exact this, by simp; omega, bytesR_drop HBR.out m, by simp; omega, by simp; omega, HE.out⟩, ⟨hR⟩, ⟨hB⟩⟩
  ·have hcd : decide ((0 : Int) < (b.length : Int)) = false := decide_eq_false (by omega)
   have hcd2 : decide (0 < b.length) = false := decide_eq_false hb
   obtain rfl : b = [] := List.eq_nil_of_length_eq_zero (by omega)
   have HE : Aside0 (textR l = true) := ⟨by rw [← HT.out]; cases gk <;> rfl⟩
   go_wp2_with fail
   go_ret2
   exact ⟨⟨_, by rw [HE.out]; rfl⟩, HW.out⟩
theorem right118_any (l : List Int) (hl : bytesR l) (hs : l.length ≤ 4294967296) (A : Option Addr) (c : Nat) (w : World) (ha : Kd.C (Kd.int .u8) w A l.length l) (hc : l.length ≤ c) :
  Calls Tryz.prog 93 #[.slice A l.length c] w fun e w' => e = .returned (.bool (textR l)) ∧ Below w.heap.size w w' := by
 have HA := Aside0.mk ha
 have HL := Aside0.mk hl
 clear ha hl
 go_enter Tryz.func93, Tryz.ntmps93
 go_wp2_with fail
 refine (chars127_any l HL.out hs A c w HA.out hc).mono ?_
 rintro e w2 ⟨⟨v, rfl⟩, hb⟩
 have HW := Aside0.mk hb
 clear hb
 go_wp2_with fail
 go_ret
 exact ⟨rfl, HW.out⟩
end Go.Proofs.YtdilbnggedidnaaGreat.PVal
namespace Go.Proofs.YtdilbnggedidnaaGreat.PVal
open Go.RowKit Go.Proofs.YtdilbnggedidnaaGreatW.PrintWords Go.Proofs.YtdilbnggedidnaaGreatW.PrintLast
attribute [local go_sem] max2_int max_two
set_option linter.unusedVariables false
set_option linter.unusedSimpArgs false
def utf_Ascii.l0 : Nat → List Int → Int → Int → Option (Bool)
 | 0, _, _, _ => none
 | k + 1, x5, x6, x7 => if x7 < x6 then (if 0 ≤ x7 then (if x7 < (x5.length : Int) then (if (rd x5 x7) ≥ 128 then (some false) else (utf_Ascii.l0 k x5 x6 (wrap64 (x7 + 1)))) else (none)) else (none)) else (some true)
def utf_Ascii.f (k : Nat) (l0 : List Int) : Option (Bool) := utf_Ascii.l0 k l0 (l0.length : Int) 0
theorem utf_Ascii.calls (k : Nat) (A0 : Option Addr) (c0 : Nat) (l0 : List Int) (r : Bool) (w : World) (hr0 : Kd.C (Kd.int .u8) w A0 l0.length l0) (hc0 : l0.length ≤ c0) (h : utf_Ascii.f k l0 = some r) :
  Calls Tryz.prog 19 #[.slice A0 l0.length c0] w fun e w' => e = .returned (.bool r) ∧ Drawn0 w w' := by
 have HR0 := Aside0.mk hr0
 have HC0 := Aside0.mk hc0
 clear hr0 hc0
 have H : (utf_Ascii.l0 k l0 (l0.length : Int) 0) = some r := h
 clear h
 have H' := Aside0.mk H
 clear H
 go_enter Tryz.func19, Tryz.ntmps19
 go_wp2
 go_loopg [7] k (fun kq v7 w' => ∃ (x7_1 : Int), v7 = .int .i64 x7_1 ∧ Aside0 (utf_Ascii.l0 kq l0 (l0.length : Int) x7_1 = some r) ∧ Aside0 (kq ≤ k) ∧ Drawn0 w w')
 case atStart => exact ⟨(0), (by first | rfl | (simp; done) | (simp [*]; done)), H', ⟨Nat.le_refl _⟩, by repeat (first | exact Drawn0.refl _ | apply Drawn0.step)⟩
 case round =>
  clear H'
  obtain ⟨x7_1, rfl, HA, HK1, ⟨m1, rfl⟩⟩ := hrel
  cases gk with
  | zero => exact absurd HA.out (by simp [utf_Ascii.l0])
  | succ k1 =>
   have H := HA.out
   clear HA
   simp only [utf_Ascii.l0] at H
   by_cases c2 : x7_1 < (l0.length : Int)
   ·rw [if_pos c2] at H
    have c2b0 : decide (x7_1 < (l0.length : Int)) = true := decide_eq_true c2
    clear c2
    by_cases c3 : 0 ≤ x7_1
    ·rw [if_pos c3] at H
     have c3b0 : decide (0 ≤ x7_1) = true := decide_eq_true c3
     clear c3
     by_cases c4 : x7_1 < (l0.length : Int)
     ·rw [if_pos c4] at H
      have c4b0 : decide (x7_1 < (l0.length : Int)) = true := decide_eq_true c4
      clear c4
      by_cases c5 : (rd l0 x7_1) ≥ 128
      ·rw [if_pos c5] at H
       have c5b0 : decide (128 ≤ (rd l0 x7_1)) = true := decide_eq_true c5
       clear c5
       obtain rfl := Option.some.inj H
       have p133 : 0 ≤ (x7_1 : Int) := of_decide_eq_true (by first | (with_reducible assumption) | assumption)
       have q133 : x7_1 < (l0.length : Int) := of_decide_eq_true (by first | (with_reducible assumption) | assumption)
       obtain ⟨ad133, e133, hx133_0⟩ := Kd.at_int HR0.out x7_1 p133 q133
       cases e133
       replace p133 := eq_true p133
       replace q133 := eq_true q133
       go_wp2
       go_ret
       exact ⟨by first | rfl | (simp; done) | (simp [*]; done), by repeat (first | exact Drawn0.refl _ | apply Drawn0.step)⟩
      ·rw [if_neg c5] at H
       have c5b0 : decide (128 ≤ (rd l0 x7_1)) = false := decide_eq_false c5
       clear c5
       have H' := Aside0.mk H
       clear H
       have p133 : 0 ≤ (x7_1 : Int) := of_decide_eq_true (by first | (with_reducible assumption) | assumption)
       have q133 : x7_1 < (l0.length : Int) := of_decide_eq_true (by first | (with_reducible assumption) | assumption)
       obtain ⟨ad133, e133, hx133_0⟩ := Kd.at_int HR0.out x7_1 p133 q133
       cases e133
       replace p133 := eq_true p133
       replace q133 := eq_true q133
       go_wp2
       go_roundg k1
       case measure => have := HK1.out; omega
       case rel => exact ⟨(wrap64 (x7_1 + 1)), (by first | rfl | (simp; done) | (simp [*]; done)), H', ⟨by have := HK1.out; omega⟩, by repeat (first | exact Drawn0.refl _ | apply Drawn0.step)⟩
     ·rw [if_neg c4] at H
      exact absurd H (by simp)
    ·rw [if_neg c3] at H
     exact absurd H (by simp)
   ·rw [if_neg c2] at H
    have c2b0 : decide (x7_1 < (l0.length : Int)) = false := decide_eq_false c2
    clear c2
    obtain rfl := Option.some.inj H
    go_wp2
    go_ret
    exact ⟨by first | rfl | (simp; done) | (simp [*]; done), by repeat (first | exact Drawn0.refl _ | apply Drawn0.step)⟩
def bellwetherref02_Ascii.l0 : Nat → List Int → Int → Option (Bool)
 | 0, _, _ => none
 | k + 1, x0, x3 => if x3 < (x0.length : Int) then (if 0 ≤ x3 then (if (rd x0 x3) > 127 then (some false) else (bellwetherref02_Ascii.l0 k x0 (wrap64 (x3 + 1)))) else (none)) else (some true)
def bellwetherref02_Ascii.f (k : Nat) (l0 : List Int) : Option (Bool) := bellwetherref02_Ascii.l0 k l0 0
theorem bellwetherref02_Ascii.calls (k : Nat) (A0 : Option Addr) (c0 : Nat) (l0 : List Int) (r : Bool) (w : World) (hr0 : Kd.C (Kd.int .u8) w A0 l0.length l0) (hc0 : l0.length ≤ c0) (h : bellwetherref02_Ascii.f k l0 = some r) :
  Calls Tryz.prog 23 #[.slice A0 l0.length c0] w fun e w' => e = .returned (.bool r) ∧ Drawn0 w w' := by
 have HR0 := Aside0.mk hr0
 have HC0 := Aside0.mk hc0
 clear hr0 hc0
 have H : (bellwetherref02_Ascii.l0 k l0 0) = some r := h
 clear h
 have H' := Aside0.mk H
 clear H
 go_enter Tryz.func23, Tryz.ntmps23
 go_wp2
 go_loopg [3] k (fun kq v3 w' => ∃ (x3_1 : Int), v3 = .int .i64 x3_1 ∧ Aside0 (bellwetherref02_Ascii.l0 kq l0 x3_1 = some r) ∧ Aside0 (kq ≤ k) ∧ Drawn0 w w')
 case atStart => exact ⟨(0), (by first | rfl | (simp; done) | (simp [*]; done)), H', ⟨Nat.le_refl _⟩, by repeat (first | exact Drawn0.refl _ | apply Drawn0.step)⟩
 case round =>
  clear H'
  try clear c1
  obtain ⟨x3_1, rfl, HA, HK1, ⟨m1, rfl⟩⟩ := hrel
  cases gk with
  | zero => exact absurd HA.out (by simp [bellwetherref02_Ascii.l0])
  | succ k1 =>
   have H := HA.out
   clear HA
   simp only [bellwetherref02_Ascii.l0] at H
   by_cases c2 : x3_1 < (l0.length : Int)
   ·rw [if_pos c2] at H
    have c2b0 : decide (x3_1 < (l0.length : Int)) = true := decide_eq_true c2
    clear c2
    by_cases c3 : 0 ≤ x3_1
    ·rw [if_pos c3] at H
     have c3b0 : decide (0 ≤ x3_1) = true := decide_eq_true c3
     clear c3
     by_cases c4 : (rd l0 x3_1) > 127
     ·rw [if_pos c4] at H
      have c4b0 : decide (127 < (rd l0 x3_1)) = true := decide_eq_true c4
      clear c4
      obtain rfl := Option.some.inj H
      have p137 : 0 ≤ (x3_1 : Int) := of_decide_eq_true (by first | (with_reducible assumption) | assumption)
      have q137 : x3_1 < (l0.length : Int) := of_decide_eq_true (by first | (with_reducible assumption) | assumption)
      obtain ⟨ad137, e137, hx137_0⟩ := Kd.at_int HR0.out x3_1 p137 q137
      cases e137
      replace p137 := eq_true p137
      replace q137 := eq_true q137
      go_wp2
      go_ret
      exact ⟨by first | rfl | (simp; done) | (simp [*]; done), by repeat (first | exact Drawn0.refl _ | apply Drawn0.step)⟩
     ·rw [if_neg c4] at H
      have c4b0 : decide (127 < (rd l0 x3_1)) = false := decide_eq_false c4
      clear c4
      have H' := Aside0.mk H
      clear H
      have p137 : 0 ≤ (x3_1 : Int) := of_decide_eq_true (by first | (with_reducible assumption) | assumption)
      have q137 : x3_1 < (l0.length : Int) := of_decide_eq_true (by first | (with_reducible assumption) | assumption)
      obtain ⟨ad137, e137, hx137_0⟩ := Kd.at_int HR0.out x3_1 p137 q137
      cases e137
      replace p137 := eq_true p137
      replace q137 := eq_true q137
      go_wp2
      go_roundg k1
      case measure => have := HK1.out; omega
      case rel => exact ⟨(wrap64 (x3_1 + 1)), (by first | rfl | (simp; done) | (simp [*]; done)), H', ⟨by have := HK1.out; omega⟩, by repeat (first | exact Drawn0.refl _ | apply Drawn0.step)⟩
    ·rw [if_neg c3] at H
     exact absurd H (by simp)
   ·rw [if_neg c2] at H
    have c2b0 : decide (x3_1 < (l0.length : Int)) = false := decide_eq_false c2
    clear c2
    obtain rfl := Option.some.inj H
    go_wp2
    go_ret
    exact ⟨by first | rfl | (simp; done) | (simp [*]; done), by repeat (first | exact Drawn0.refl _ | apply Drawn0.step)⟩
def bellwetherref02_Char.f (a0 : Int) : Option (Bool) := if a0 < 55296 then (some true) else (if a0 > 57343 then (some (decide (a0 ≤ 1114111))) else (some false))
theorem bellwetherref02_Char.calls (a0 : Int) (r : Bool) (w : World) (h : bellwetherref02_Char.f a0 = some r) :
  Calls Tryz.prog 98 #[.int .u64 a0] w fun e w' => e = .returned (.bool r) ∧ Drawn0 w w' := by
 have H : (if a0 < 55296 then (some true) else (if a0 > 57343 then (some (decide (a0 ≤ 1114111))) else (some false))) = some r := h
 clear h
 by_cases c2 : a0 < 55296
 ·rw [if_pos c2] at H
  have c2b0 : decide (a0 < 55296) = true := decide_eq_true c2
  clear c2
  obtain rfl := Option.some.inj H
  go_enter Tryz.func98, Tryz.ntmps98
  go_wp2
  go_ret
  exact ⟨by first | rfl | (simp; done) | (simp [*]; done), by repeat (first | exact Drawn0.refl _ | apply Drawn0.step)⟩
 ·rw [if_neg c2] at H
  have c2b0 : decide (a0 < 55296) = false := decide_eq_false c2
  clear c2
  by_cases c3 : a0 > 57343
  ·rw [if_pos c3] at H
   have c3b0 : decide (57343 < a0) = true := decide_eq_true c3
   clear c3
   obtain rfl := Option.some.inj H
   go_enter Tryz.func98, Tryz.ntmps98
   go_wp2
   go_ret
   exact ⟨by first | rfl | (simp; done) | (simp [*]; done), by repeat (first | exact Drawn0.refl _ | apply Drawn0.step)⟩
  ·rw [if_neg c3] at H
   have c3b0 : decide (57343 < a0) = false := decide_eq_false c3
   clear c3
   obtain rfl := Option.some.inj H
   go_enter Tryz.func98, Tryz.ntmps98
   go_wp2
   go_ret
   exact ⟨by first | rfl | (simp; done) | (simp [*]; done), by repeat (first | exact Drawn0.refl _ | apply Drawn0.step)⟩
def bellwetherref02_One.f (a0 : Int) : Option (List Int) := if a0 < 128 then (some (([(a0) % 256] : List Int))) else (if a0 < 2048 then (some (([((192 + ((Int.tdiv a0 64) % 4294967296)) % 4294967296) % 256, ((128 + (Int.tmod a0 64)) % 4294967296) % 256] : List Int))) else (if a0 < 65536 then (some (([((224 + ((Int.tdiv a0 4096) % 4294967296)) % 4294967296) % 256, 128 + (((Int.tdiv a0 64) % 4294967296) % 64), ((128 + (Int.tmod a0 64)) % 4294967296) % 256] : List Int))) else (some (([((240 + ((Int.tdiv a0 262144) % 4294967296)) % 4294967296) % 256, 128 + (((Int.tdiv a0 4096) % 4294967296) % 64), 128 + (((Int.tdiv a0 64) % 4294967296) % 64), ((128 + (Int.tmod a0 64)) % 4294967296) % 256] : List Int)))))
theorem bellwetherref02_One.calls (a0 : Int) (r : List Int) (w : World) (h : bellwetherref02_One.f a0 = some r) :
  Calls Tryz.prog 112 #[.int .u32 a0] w fun e w' => ∃ v0_ : Value, e = .returned (v0_) ∧ Kd.R (Kd.int .u8) 5 w' w.heap.size (fun _ => True) v0_ r ∧ Below w.heap.size w w' := by
 have HB := Aside0.mk (Below.refl w.heap.size w)
 have H : (if a0 < 128 then (some (([(a0) % 256] : List Int))) else (if a0 < 2048 then (some (([((192 + ((Int.tdiv a0 64) % 4294967296)) % 4294967296) % 256, ((128 + (Int.tmod a0 64)) % 4294967296) % 256] : List Int))) else (if a0 < 65536 then (some (([((224 + ((Int.tdiv a0 4096) % 4294967296)) % 4294967296) % 256, 128 + (((Int.tdiv a0 64) % 4294967296) % 64), ((128 + (Int.tmod a0 64)) % 4294967296) % 256] : List Int))) else (some (([((240 + ((Int.tdiv a0 262144) % 4294967296)) % 4294967296) % 256, 128 + (((Int.tdiv a0 4096) % 4294967296) % 64), 128 + (((Int.tdiv a0 64) % 4294967296) % 64), ((128 + (Int.tmod a0 64)) % 4294967296) % 256] : List Int)))))) = some r := h
 clear h
 by_cases c2 : a0 < 128
 ·rw [if_pos c2] at H
  have c2b0 : decide (a0 < 128) = true := decide_eq_true c2
  clear c2
  obtain ⟨y138, hy138⟩ : ∃ y_ : List Int, y_ = (([(a0) % 256] : List Int)) := ⟨_, rfl⟩
  replace H : (some y138) = some r := by first | (rw [hy138]; with_reducible exact H) | (have H2_ := (Option.bind_some _ _).symm.trans H; rw [hy138]; with_reducible exact H2_) | (have H2_ := (Option.bind_some _ _).symm.trans H; with_reducible exact H2_) | with_reducible exact H | (rw [hy138]; exact H) | exact H
  have Ny138 := Aside0.mk hy138
  clear hy138
  obtain rfl := Option.some.inj H
  go_enter Tryz.func112, Tryz.ntmps112
  go_wp2_with (first | ((with_reducible refine gate_dst (N := 8) rfl ?_); refine Kd.R_lit (Kd.int .u8) _ 5 ?hg (N := 8) ?hd (xs := ([(a0) % 256] : List Int)) (inner := [.int .u8 ((a0) % 256)]) (ok := fun _ => True) (okp := fun _ => True) ?hr ?hp (fun _ hk => hk) trivial (Below.refl _ _) (Nat.le_refl _) (by simp) ?_; (case hd => rfl); (case hg => rfl); (case hr => first | (go_simp; done) | (go_simp; rfl)); (case hp => exact (Reps.one (show Kd.M (Kd.int .u8) _ _ _ ((a0) % 256) [.int .u8 ((a0) % 256)] from rfl) (Reps.none _ _))); intro v139 w3 ho4 hb hg_ hnew_; clear hg_ hnew_; (first | rw [← Ny138.out] at ho4 | (simp only [Int.reduceToNat] at ho4; rw [← Ny138.out] at ho4)); have n0_ := Aside0.mk (Kd.R_lower ho4 (below_size (by repeat (first | (with_reducible first | exact HB.out | apply below_alloc | apply pw_below_drewN | apply below_drew1) | exact HB.out)))); have n1_ := Aside0.mk (below_step (by repeat (first | (with_reducible first | exact HB.out | apply below_alloc | apply pw_below_drewN | apply below_drew1) | exact HB.out)) hb); clear HB; have HO140 := n0_; have HB := n1_; clear n0_ n1_; clear hb ho4))
  go_ret
  exact ⟨_, by first | rfl | (simp [errW_none, errW_some] <;> rfl) | (simp [*, errW_none, errW_some] <;> rfl), by (with_reducible repeat (first | apply Kd.R_alloc | apply Kd.R_drewN | apply Kd.R_drew)); exact HO140.out, by repeat (first | (with_reducible first | exact HB.out | apply below_alloc | apply pw_below_drewN | apply below_drew1) | exact HB.out)⟩
 ·rw [if_neg c2] at H
  have c2b0 : decide (a0 < 128) = false := decide_eq_false c2
  clear c2
  by_cases c5 : a0 < 2048
  ·rw [if_pos c5] at H
   have c5b0 : decide (a0 < 2048) = true := decide_eq_true c5
   clear c5
   obtain ⟨y141, hy141⟩ : ∃ y_ : List Int, y_ = (([((192 + ((Int.tdiv a0 64) % 4294967296)) % 4294967296) % 256, ((128 + (Int.tmod a0 64)) % 4294967296) % 256] : List Int)) := ⟨_, rfl⟩
   replace H : (some y141) = some r := by first | (rw [hy141]; with_reducible exact H) | (have H2_ := (Option.bind_some _ _).symm.trans H; rw [hy141]; with_reducible exact H2_) | (have H2_ := (Option.bind_some _ _).symm.trans H; with_reducible exact H2_) | with_reducible exact H | (rw [hy141]; exact H) | exact H
   have Ny141 := Aside0.mk hy141
   clear hy141
   obtain rfl := Option.some.inj H
   go_enter Tryz.func112, Tryz.ntmps112
   go_wp2_with (first | ((with_reducible refine gate_dst (N := 20) rfl ?_); refine Kd.R_lit (Kd.int .u8) _ 5 ?hg (N := 20) ?hd (xs := ([((192 + ((Int.tdiv a0 64) % 4294967296)) % 4294967296) % 256, ((128 + (Int.tmod a0 64)) % 4294967296) % 256] : List Int)) (inner := [.int .u8 (((192 + ((Int.tdiv a0 64) % 4294967296)) % 4294967296) % 256), .int .u8 (((128 + (Int.tmod a0 64)) % 4294967296) % 256)]) (ok := fun _ => True) (okp := fun _ => True) ?hr ?hp (fun _ hk => hk) trivial (Below.refl _ _) (Nat.le_refl _) (by simp) ?_; (case hd => rfl); (case hg => rfl); (case hr => first | (go_simp; done) | (go_simp; rfl)); (case hp => exact (Reps.one (show Kd.M (Kd.int .u8) _ _ _ (((192 + ((Int.tdiv a0 64) % 4294967296)) % 4294967296) % 256) [.int .u8 (((192 + ((Int.tdiv a0 64) % 4294967296)) % 4294967296) % 256)] from rfl) (Reps.one (show Kd.M (Kd.int .u8) _ _ _ (((128 + (Int.tmod a0 64)) % 4294967296) % 256) [.int .u8 (((128 + (Int.tmod a0 64)) % 4294967296) % 256)] from rfl) (Reps.none _ _)))); intro v142 w6 ho7 hb hg_ hnew_; clear hg_ hnew_; (first | rw [← Ny141.out] at ho7 | (simp only [Int.reduceToNat] at ho7; rw [← Ny141.out] at ho7)); have n0_ := Aside0.mk (Kd.R_lower ho7 (below_size (by repeat (first | (with_reducible first | exact HB.out | apply below_alloc | apply pw_below_drewN | apply below_drew1) | exact HB.out)))); have n1_ := Aside0.mk (below_step (by repeat (first | (with_reducible first | exact HB.out | apply below_alloc | apply pw_below_drewN | apply below_drew1) | exact HB.out)) hb); clear HB; have HO143 := n0_; have HB := n1_; clear n0_ n1_; clear hb ho7))
   go_ret
   exact ⟨_, by first | rfl | (simp [errW_none, errW_some] <;> rfl) | (simp [*, errW_none, errW_some] <;> rfl), by (with_reducible repeat (first | apply Kd.R_alloc | apply Kd.R_drewN | apply Kd.R_drew)); exact HO143.out, by repeat (first | (with_reducible first | exact HB.out | apply below_alloc | apply pw_below_drewN | apply below_drew1) | exact HB.out)⟩
  ·rw [if_neg c5] at H
   have c5b0 : decide (a0 < 2048) = false := decide_eq_false c5
   clear c5
   by_cases c8 : a0 < 65536
   ·rw [if_pos c8] at H
    have c8b0 : decide (a0 < 65536) = true := decide_eq_true c8
    clear c8
    obtain ⟨y144, hy144⟩ : ∃ y_ : List Int, y_ = (([((224 + ((Int.tdiv a0 4096) % 4294967296)) % 4294967296) % 256, 128 + (((Int.tdiv a0 64) % 4294967296) % 64), ((128 + (Int.tmod a0 64)) % 4294967296) % 256] : List Int)) := ⟨_, rfl⟩
    replace H : (some y144) = some r := by first | (rw [hy144]; with_reducible exact H) | (have H2_ := (Option.bind_some _ _).symm.trans H; rw [hy144]; with_reducible exact H2_) | (have H2_ := (Option.bind_some _ _).symm.trans H; with_reducible exact H2_) | with_reducible exact H | (rw [hy144]; exact H) | exact H
    have Ny144 := Aside0.mk hy144
    clear hy144
    obtain rfl := Option.some.inj H
    go_enter Tryz.func112, Tryz.ntmps112
    go_wp2_with (first | ((with_reducible refine gate_dst (N := 37) rfl ?_); refine Kd.R_lit (Kd.int .u8) _ 5 ?hg (N := 37) ?hd (xs := ([((224 + ((Int.tdiv a0 4096) % 4294967296)) % 4294967296) % 256, 128 + (((Int.tdiv a0 64) % 4294967296) % 64), ((128 + (Int.tmod a0 64)) % 4294967296) % 256] : List Int)) (inner := [.int .u8 (((224 + ((Int.tdiv a0 4096) % 4294967296)) % 4294967296) % 256), .int .u8 (128 + (((Int.tdiv a0 64) % 4294967296) % 64)), .int .u8 (((128 + (Int.tmod a0 64)) % 4294967296) % 256)]) (ok := fun _ => True) (okp := fun _ => True) ?hr ?hp (fun _ hk => hk) trivial (Below.refl _ _) (Nat.le_refl _) (by simp) ?_; (case hd => rfl); (case hg => rfl); (case hr => first | (go_simp; done) | (go_simp; rfl)); (case hp => exact (Reps.one (show Kd.M (Kd.int .u8) _ _ _ (((224 + ((Int.tdiv a0 4096) % 4294967296)) % 4294967296) % 256) [.int .u8 (((224 + ((Int.tdiv a0 4096) % 4294967296)) % 4294967296) % 256)] from rfl) (Reps.one (show Kd.M (Kd.int .u8) _ _ _ (128 + (((Int.tdiv a0 64) % 4294967296) % 64)) [.int .u8 (128 + (((Int.tdiv a0 64) % 4294967296) % 64))] from rfl) (Reps.one (show Kd.M (Kd.int .u8) _ _ _ (((128 + (Int.tmod a0 64)) % 4294967296) % 256) [.int .u8 (((128 + (Int.tmod a0 64)) % 4294967296) % 256)] from rfl) (Reps.none _ _))))); intro v145 w9 ho10 hb hg_ hnew_; clear hg_ hnew_; (first | rw [← Ny144.out] at ho10 | (simp only [Int.reduceToNat] at ho10; rw [← Ny144.out] at ho10)); have n0_ := Aside0.mk (Kd.R_lower ho10 (below_size (by repeat (first | (with_reducible first | exact HB.out | apply below_alloc | apply pw_below_drewN | apply below_drew1) | exact HB.out)))); have n1_ := Aside0.mk (below_step (by repeat (first | (with_reducible first | exact HB.out | apply below_alloc | apply pw_below_drewN | apply below_drew1) | exact HB.out)) hb); clear HB; have HO146 := n0_; have HB := n1_; clear n0_ n1_; clear hb ho10))
    go_ret
    exact ⟨_, by first | rfl | (simp [errW_none, errW_some] <;> rfl) | (simp [*, errW_none, errW_some] <;> rfl), by (with_reducible repeat (first | apply Kd.R_alloc | apply Kd.R_drewN | apply Kd.R_drew)); exact HO146.out, by repeat (first | (with_reducible first | exact HB.out | apply below_alloc | apply pw_below_drewN | apply below_drew1) | exact HB.out)⟩
   ·rw [if_neg c8] at H
    have c8b0 : decide (a0 < 65536) = false := decide_eq_false c8
    clear c8
    obtain ⟨y147, hy147⟩ : ∃ y_ : List Int, y_ = (([((240 + ((Int.tdiv a0 262144) % 4294967296)) % 4294967296) % 256, 128 + (((Int.tdiv a0 4096) % 4294967296) % 64), 128 + (((Int.tdiv a0 64) % 4294967296) % 64), ((128 + (Int.tmod a0 64)) % 4294967296) % 256] : List Int)) := ⟨_, rfl⟩
    replace H : (some y147) = some r := by first | (rw [hy147]; with_reducible exact H) | (have H2_ := (Option.bind_some _ _).symm.trans H; rw [hy147]; with_reducible exact H2_) | (have H2_ := (Option.bind_some _ _).symm.trans H; with_reducible exact H2_) | with_reducible exact H | (rw [hy147]; exact H) | exact H
    have Ny147 := Aside0.mk hy147
    clear hy147
    obtain rfl := Option.some.inj H
    go_enter Tryz.func112, Tryz.ntmps112
    go_wp2_with (first | ((with_reducible refine gate_dst (N := 56) rfl ?_); refine Kd.R_lit (Kd.int .u8) _ 5 ?hg (N := 56) ?hd (xs := ([((240 + ((Int.tdiv a0 262144) % 4294967296)) % 4294967296) % 256, 128 + (((Int.tdiv a0 4096) % 4294967296) % 64), 128 + (((Int.tdiv a0 64) % 4294967296) % 64), ((128 + (Int.tmod a0 64)) % 4294967296) % 256] : List Int)) (inner := [.int .u8 (((240 + ((Int.tdiv a0 262144) % 4294967296)) % 4294967296) % 256), .int .u8 (128 + (((Int.tdiv a0 4096) % 4294967296) % 64)), .int .u8 (128 + (((Int.tdiv a0 64) % 4294967296) % 64)), .int .u8 (((128 + (Int.tmod a0 64)) % 4294967296) % 256)]) (ok := fun _ => True) (okp := fun _ => True) ?hr ?hp (fun _ hk => hk) trivial (Below.refl _ _) (Nat.le_refl _) (by simp) ?_; (case hd => rfl); (case hg => rfl); (case hr => first | (go_simp; done) | (go_simp; rfl)); (case hp => exact (Reps.one (show Kd.M (Kd.int .u8) _ _ _ (((240 + ((Int.tdiv a0 262144) % 4294967296)) % 4294967296) % 256) [.int .u8 (((240 + ((Int.tdiv a0 262144) % 4294967296)) % 4294967296) % 256)] from rfl) (Reps.one (show Kd.M (Kd.int .u8) _ _ _ (128 + (((Int.tdiv a0 4096) % 4294967296) % 64)) [.int .u8 (128 + (((Int.tdiv a0 4096) % 4294967296) % 64))] from rfl) (Reps.one (show Kd.M (Kd.int .u8) _ _ _ (128 + (((Int.tdiv a0 64) % 4294967296) % 64)) [.int .u8 (128 + (((Int.tdiv a0 64) % 4294967296) % 64))] from rfl) (Reps.one (show Kd.M (Kd.int .u8) _ _ _ (((128 + (Int.tmod a0 64)) % 4294967296) % 256) [.int .u8 (((128 + (Int.tmod a0 64)) % 4294967296) % 256)] from rfl) (Reps.none _ _)))))); intro v148 w11 ho12 hb hg_ hnew_; clear hg_ hnew_; (first | rw [← Ny147.out] at ho12 | (simp only [Int.reduceToNat] at ho12; rw [← Ny147.out] at ho12)); have n0_ := Aside0.mk (Kd.R_lower ho12 (below_size (by repeat (first | (with_reducible first | exact HB.out | apply below_alloc | apply pw_below_drewN | apply below_drew1) | exact HB.out)))); have n1_ := Aside0.mk (below_step (by repeat (first | (with_reducible first | exact HB.out | apply below_alloc | apply pw_below_drewN | apply below_drew1) | exact HB.out)) hb); clear HB; have HO149 := n0_; have HB := n1_; clear n0_ n1_; clear hb ho12))
    go_ret
    exact ⟨_, by first | rfl | (simp [errW_none, errW_some] <;> rfl) | (simp [*, errW_none, errW_some] <;> rfl), by (with_reducible repeat (first | apply Kd.R_alloc | apply Kd.R_drewN | apply Kd.R_drew)); exact HO149.out, by repeat (first | (with_reducible first | exact HB.out | apply below_alloc | apply pw_below_drewN | apply below_drew1) | exact HB.out)⟩
def bellwetherref02_Text.l0 : Nat → List Int → List Int → Int → Option (List Int × Bool)
 | 0, _, _, _ => none
 | k + 1, x0, x4, x5 => if x5 < (x0.length : Int) then (if 0 ≤ x5 then ((bellwetherref02_Char.f (IntKind.u64.wrap (rd x0 x5))).bind fun t151 => (if t151 = true then ((bellwetherref02_One.f (rd x0 x5)).bind fun t153 => (if x4.length + t153.length < 140737488355328 then (bellwetherref02_Text.l0 k x0 (x4 ++ t153) (wrap64 (x5 + 1))) else (none))) else (some (([] : List Int), false)))) else (none)) else (some (x4, true))
def bellwetherref02_Text.f (k : Nat) (l0 : List Int) : Option (List Int × Bool) := bellwetherref02_Text.l0 k l0 ([] : List Int) 0
theorem bellwetherref02_Text.calls (k : Nat) (A0 : Option Addr) (c0 : Nat) (l0 : List Int) (r1 : List Int) (r2 : Bool) (w : World) (hr0 : Kd.C (Kd.int .u32) w A0 l0.length l0) (hc0 : l0.length ≤ c0) (h : bellwetherref02_Text.f k l0 = some (r1, r2)) :
  Calls Tryz.prog 108 #[.slice A0 l0.length c0] w fun e w' => ∃ v0_ : Value, e = .returned (.tuple #[v0_, .bool r2]) ∧ Kd.R (Kd.int .u8) 5 w' w.heap.size (fun _ => True) v0_ r1 ∧ Below w.heap.size w w' := by
 have HR0 := Aside0.mk hr0
 have HC0 := Aside0.mk hc0
 clear hr0 hc0
 have HB := Aside0.mk (Below.refl w.heap.size w)
 have H : (bellwetherref02_Text.l0 k l0 ([] : List Int) 0) = some (r1, r2) := h
 clear h
 have H' := Aside0.mk H
 clear H
 go_enter Tryz.func108, Tryz.ntmps108
 go_wp2
 go_loopg [4, 5] k (fun kq v4 v5 w' => ∃ (x4_1 : List Int) (x5_1 : Int), v5 = .int .i64 x5_1 ∧ Aside0 (bellwetherref02_Text.l0 kq l0 x4_1 x5_1 = some (r1, r2)) ∧ Aside0 (kq ≤ k) ∧ Aside0 (Kd.R (Kd.int .u8) 5 w' w.heap.size (fun _ => True) v4 x4_1) ∧ Aside0 (Below w.heap.size w w'))
 case atStart => exact ⟨(([] : List Int)), (0), (by first | rfl | (simp; done) | (simp [*]; done)), H', ⟨Nat.le_refl _⟩, ⟨by first | exact Kd.R_nil _ _ _ _ _ | exact Kd.N_nil _ _ _ _ _ | exact Kd.V_nil _ _ _ _ _ | exact Kd.Q_nil _ _ _ _ _ | exact Kd.S_nil _ _ _ _ _⟩, ⟨by repeat (first | (with_reducible first | exact HB.out | apply below_alloc | apply pw_below_drewN | apply below_drew1) | exact HB.out)⟩⟩
 case round =>
  clear H'
  try clear c1
  obtain ⟨x4_1, x5_1, rfl, HA, HK1, HO_4, HB⟩ := hrel
  cases gk with
  | zero => exact absurd HA.out (by simp [bellwetherref02_Text.l0])
  | succ k1 =>
   have H := HA.out
   clear HA
   simp only [bellwetherref02_Text.l0] at H
   by_cases c2 : x5_1 < (l0.length : Int)
   ·rw [if_pos c2] at H
    have c2b0 : decide (x5_1 < (l0.length : Int)) = true := decide_eq_true c2
    clear c2
    by_cases c3 : 0 ≤ x5_1
    ·rw [if_pos c3] at H
     have c3b0 : decide (0 ≤ x5_1) = true := decide_eq_true c3
     clear c3
     replace H := Option.bind_eq_some_iff.mp H
     obtain ⟨t151, A40, H⟩ := H
     replace H : (if t151 = true then ((bellwetherref02_One.f (rd l0 x5_1)).bind fun t153 => (if x4_1.length + t153.length < 140737488355328 then (bellwetherref02_Text.l0 k1 l0 (x4_1 ++ t153) (wrap64 (x5_1 + 1))) else (none))) else (some (([] : List Int), false))) = some (r1, r2) := H
     have A4 := Aside0.mk A40
     clear A40
     by_cases c5 : t151 = true
     ·subst c5
      have H1 : ((bellwetherref02_One.f (rd l0 x5_1)).bind fun t153 => (if x4_1.length + t153.length < 140737488355328 then (bellwetherref02_Text.l0 k1 l0 (x4_1 ++ t153) (wrap64 (x5_1 + 1))) else (none))) = some (r1, r2) := by rw [if_pos rfl] at H; exact H
      clear H
      have H := H1
      clear H1
      replace H := Option.bind_eq_some_iff.mp H
      obtain ⟨t153, A60, H⟩ := H
      replace H : (if x4_1.length + t153.length < 140737488355328 then (bellwetherref02_Text.l0 k1 l0 (x4_1 ++ t153) (wrap64 (x5_1 + 1))) else (none)) = some (r1, r2) := H
      have A6 := Aside0.mk A60
      clear A60
      by_cases c7 : x4_1.length + t153.length < 140737488355328
      ·rw [if_pos c7] at H
       have LMc7 := Aside0.mk c7
       clear c7
       obtain ⟨y156, hy156⟩ : ∃ y_ : List Int, y_ = (x4_1 ++ t153) := ⟨_, rfl⟩
       replace H : (bellwetherref02_Text.l0 k1 l0 y156 (wrap64 (x5_1 + 1))) = some (r1, r2) := by first | (rw [hy156]; with_reducible exact H) | (have H2_ := (Option.bind_some _ _).symm.trans H; rw [hy156]; with_reducible exact H2_) | (have H2_ := (Option.bind_some _ _).symm.trans H; with_reducible exact H2_) | with_reducible exact H | (rw [hy156]; exact H) | exact H
       have Ny156 := Aside0.mk hy156
       clear hy156
       have H' := Aside0.mk H
       clear H
       have p150 : 0 ≤ (x5_1 : Int) := of_decide_eq_true (by first | (with_reducible assumption) | assumption)
       have q150 : x5_1 < (l0.length : Int) := of_decide_eq_true (by first | (with_reducible assumption) | assumption)
       obtain ⟨ad150, e150, hx150_0⟩ := Kd.at_int HR0.out x5_1 p150 q150
       cases e150
       replace hx150_0 := (HB.out.cell (World.block_lt_of_cell? w _ hx150_0)).trans hx150_0
       replace p150 := eq_true p150
       replace q150 := eq_true q150
       go_wp2_with (first | ((with_reducible refine gate_callee (f := 98) rfl ?_); refine goesL_ (some 17) rfl rfl Tryz.func98 (by kernel_rfl) rfl #[.int .u64 (IntKind.u64.wrap (rd l0 x5_1))] rfl (by (try simp only [List.map_toArray, List.map_cons, List.map_nil]); first | done | rfl | (simp only [List.length_drop, List.length_take]; rfl)) ?_; (with_reducible refine (bellwetherref02_Char.calls (IntKind.u64.wrap (rd l0 x5_1)) true _ A4.out).mono ?_); rintro e w' ⟨rfl, ⟨nd, rfl⟩⟩; refine ⟨_, rfl, ?_⟩; have p152 : 0 ≤ (x5_1 : Int) := of_decide_eq_true (by first | (with_reducible assumption) | assumption); have q152 : x5_1 < (l0.length : Int) := of_decide_eq_true (by first | (with_reducible assumption) | assumption); obtain ⟨ad152, e152, hx152_0⟩ := Kd.at_int HR0.out x5_1 p152 q152; obtain rfl : ad150 = ad152 := (by injection e152); replace hx152_0 := (HB.out.cell (World.block_lt_of_cell? w _ hx152_0)).trans hx152_0; replace p152 := eq_true p152; replace q152 := eq_true q152) | ((with_reducible refine gate_callee (f := 112) rfl ?_); refine goesL_ (some 24) rfl rfl Tryz.func112 (by kernel_rfl) rfl #[.int .u32 (rd l0 x5_1)] rfl (by (try simp only [List.map_toArray, List.map_cons, List.map_nil]); first | done | rfl | (simp only [List.length_drop, List.length_take]; rfl)) ?_; (with_reducible refine (bellwetherref02_One.calls (rd l0 x5_1) t153 _ A6.out).mono ?_); rintro e w8 ⟨v154, rfl, ho0, hb⟩; refine ⟨_, rfl, ?_⟩; have n0_ := Aside0.mk (Kd.R_elder' (by (with_reducible repeat (first | apply Kd.R_alloc | apply Kd.R_drewN | apply Kd.R_drew)); exact HO_4.out) (Kd.R_base ho0) hb); have n1_ := Aside0.mk (Kd.R_lower (Kd.R_new' ho0 (Kd.R_lt (by (with_reducible repeat (first | apply Kd.R_alloc | apply Kd.R_drewN | apply Kd.R_drew)); exact HO_4.out))) (below_size (by repeat (first | (with_reducible first | exact HB.out | apply below_alloc | apply pw_below_drewN | apply below_drew1) | exact HB.out)))); have n2_ := Aside0.mk (below_step (by repeat (first | (with_reducible first | exact HB.out | apply below_alloc | apply pw_below_drewN | apply below_drew1) | exact HB.out)) hb); clear HO_4; clear HB; have HO_4 := n0_; have HO155 := n1_; have HB := n2_; clear n0_ n1_ n2_; (try clear hb); (try clear hb2); (try clear hk); (try clear hi); (try clear ho0); obtain ⟨Ao10, co10, eo10⟩ := Kd.R_slice HO155.out; subst eo10) | ((with_reducible refine gate_builtin (b := .append) (xs := #[.tmp 19, .tmp 24]) rfl ?_); at_builtin; refine Kd.R_append_rows (Kd.int .u8) (w0 := w) w.heap.size rfl (.tmp 19) (.tmp 24) 45 5 (.int .u8 0) 1 rfl Tryz.underlying45 info5 rfl (by decide) (by omega) u4 x4_1 t153 _ _ _ (fun k_ => some k_ ≠ (.slice Ao10 t153.length co10 : Value).ownBlock) (fun _ => False) rfl rfl ?aO ?aR (fun _ _ h => h) (fun _ h => h.elim) ?aF ?aB ?aS ?aL ?_; (case aR => repeat (first | exact (Kd.R_reads' HO155.out).2.2 | (with_reducible refine Kd.C_alloc ?_ _) | (with_reducible refine Kd.C_drewN ?_ _) | (with_reducible refine Kd.C_drew ?_))); (case aB => exact (by repeat (first | (with_reducible first | exact HB.out | apply below_alloc | apply pw_below_drewN | apply below_drew1) | exact HB.out))); (case aF => exact (fun k_ hk => Kd.fresh' (Kd.R_lt (by (with_reducible repeat (first | apply Kd.R_alloc | apply Kd.R_drewN | apply Kd.R_drew)); exact HO155.out)) k_ hk)); (case aO => exact (by (with_reducible repeat (first | apply Kd.R_alloc | apply Kd.R_drewN | apply Kd.R_drew)); exact Kd.R_mono HO_4.out (fun _ hk => hk.2))); (case aS => exact (below_size (by repeat (first | (with_reducible first | exact HB.out | apply below_alloc | apply pw_below_drewN | apply below_drew1) | exact HB.out)))); (case aL => have := LMc7.out; omega); intro v157 w9 ho hb hg hat; rw [← Ny156.out] at ho; have n0_ := Aside0.mk (Kd.R_after (ok := (fun _ => True)) (by (with_reducible repeat (first | apply Kd.R_alloc | apply Kd.R_drewN | apply Kd.R_drew)); exact HO155.out) hg hat); have n1_ := Aside0.mk (hb); have n2_ := Aside0.mk (ho); clear HO155; clear HB; clear HO_4; have HO155 := n0_; have HB := n1_; have HO158 := n2_; clear n0_ n1_ n2_; clear ho hb hg hat))
       go_roundg k1
       case measure => have := HK1.out; omega
       case rel => exact ⟨(y156), (wrap64 (x5_1 + 1)), (by first | rfl | (simp; done) | (simp [*]; done)), H', ⟨by have := HK1.out; omega⟩, ⟨by (with_reducible repeat (first | apply Kd.R_alloc | apply Kd.R_drewN | apply Kd.R_drew)); exact Kd.R_mono HO158.out (fun _ hk => trivial)⟩, ⟨by repeat (first | (with_reducible first | exact HB.out | apply below_alloc | apply pw_below_drewN | apply below_drew1) | exact HB.out)⟩⟩
      ·rw [if_neg c7] at H
       exact absurd H (by simp)
     ·replace c5 := Bool.eq_false_iff.mpr c5
      subst c5
      have H1 : (some (([] : List Int), false)) = some (r1, r2) := by rw [if_neg (show ¬ (false = true) by decide)] at H; exact H
      clear H
      have H := H1
      clear H1
      simp only [Option.some.injEq, Prod.mk.injEq] at H
      obtain ⟨rfl, rfl⟩ := H
      have p150 : 0 ≤ (x5_1 : Int) := of_decide_eq_true (by first | (with_reducible assumption) | assumption)
      have q150 : x5_1 < (l0.length : Int) := of_decide_eq_true (by first | (with_reducible assumption) | assumption)
      obtain ⟨ad150, e150, hx150_0⟩ := Kd.at_int HR0.out x5_1 p150 q150
      cases e150
      replace hx150_0 := (HB.out.cell (World.block_lt_of_cell? w _ hx150_0)).trans hx150_0
      replace p150 := eq_true p150
      replace q150 := eq_true q150
      go_wp2_with (first | ((with_reducible refine gate_callee (f := 98) rfl ?_); refine goesL_ (some 17) rfl rfl Tryz.func98 (by kernel_rfl) rfl #[.int .u64 (IntKind.u64.wrap (rd l0 x5_1))] rfl (by (try simp only [List.map_toArray, List.map_cons, List.map_nil]); first | done | rfl | (simp only [List.length_drop, List.length_take]; rfl)) ?_; (with_reducible refine (bellwetherref02_Char.calls (IntKind.u64.wrap (rd l0 x5_1)) false _ A4.out).mono ?_); rintro e w' ⟨rfl, ⟨nd, rfl⟩⟩; refine ⟨_, rfl, ?_⟩))
      go_ret2
      exact ⟨_, by first | rfl | (simp [errW_none, errW_some] <;> rfl) | (simp [*, errW_none, errW_some] <;> rfl), by first | exact Kd.R_nil _ _ _ _ _ | exact Kd.N_nil _ _ _ _ _ | exact Kd.V_nil _ _ _ _ _ | exact Kd.Q_nil _ _ _ _ _ | exact Kd.S_nil _ _ _ _ _, by repeat (first | (with_reducible first | exact HB.out | apply below_alloc | apply pw_below_drewN | apply below_drew1) | exact HB.out)⟩
    ·rw [if_neg c3] at H
     exact absurd H (by simp)
   ·rw [if_neg c2] at H
    have c2b0 : decide (x5_1 < (l0.length : Int)) = false := decide_eq_false c2
    clear c2
    simp only [Option.some.injEq, Prod.mk.injEq] at H
    obtain ⟨rfl, rfl⟩ := H
    go_wp2
    go_ret2
    exact ⟨_, by first | rfl | (simp [errW_none, errW_some] <;> rfl) | (simp [*, errW_none, errW_some] <;> rfl), by (with_reducible repeat (first | apply Kd.R_alloc | apply Kd.R_drewN | apply Kd.R_drew)); exact HO_4.out, by repeat (first | (with_reducible first | exact HB.out | apply below_alloc | apply pw_below_drewN | apply below_drew1) | exact HB.out)⟩
end Go.Proofs.YtdilbnggedidnaaGreat.PVal
namespace Go.Proofs.YtdilbnggedidnaaGreat.PVal
open Go.RowKit Go.Proofs.YtdilbnggedidnaaGreatW.PrintWords Go.Proofs.YtdilbnggedidnaaGreatW.PrintLast
set_option linter.unusedVariables false
set_option linter.unusedSimpArgs false
theorem blt_asymm : ∀ a b : List UInt8, Op.bytesLess a b = true → Op.bytesLess b a = false
 | [], [], h => by simp [Op.bytesLess] at h
 | _ :: _, [], h => by simp [Op.bytesLess] at h
 | [], _ :: _, _ => rfl
 | x :: a, y :: b, h => by
  simp only [Op.bytesLess, Bool.or_eq_true, Bool.and_eq_true, decide_eq_true_eq, beq_iff_eq] at h
  simp only [Op.bytesLess, Bool.or_eq_false_iff, decide_eq_false_iff_not, Bool.and_eq_false_iff, beq_eq_false_iff_ne]
  rcases h with h | ⟨rfl, h⟩
  ·exact ⟨fun h2 => absurd (UInt8.lt_trans h h2) (UInt8.lt_irrefl _), .inl (fun e => by subst e; exact UInt8.lt_irrefl _ h)⟩
  ·exact ⟨UInt8.lt_irrefl _, .inr (blt_asymm a b h)⟩
theorem eqb_both (a b : List UInt8) : ((Op.bytesLess a b || a == b) && (Op.bytesLess b a || b == a)) = (a == b) := by
 by_cases h : a = b
 ·subst h; simp
 ·have h1 : (a == b) = false := by simpa using h
  have h2 : (b == a) = false := by simpa using fun e => h e.symm
  rw [h1, h2]
  cases h3 : Op.bytesLess a b with
  | false => simp
  | true => simp [blt_asymm a b h3]
theorem strOf_inj {a b : List Int} (ha : bytesR a) (hb : bytesR b) (h : (strOfNums a).toList = (strOfNums b).toList) : a = b := by
 rw [ByteArray.toList_eq, ByteArray.toList_eq, strOfNums_data, strOfNums_data] at h
 induction a generalizing b with
 | nil => cases b with
  | nil => rfl
  | cons y b => simp at h
 | cons x a ih => cases b with
  | nil => simp at h
  | cons y b =>
   simp only [List.map_cons, List.cons.injEq] at h
   have hx := ha x (by simp)
   have hy := hb y (by simp)
   have h1 := congrArg UInt8.toNat h.1
   rw [UInt8.toNat_ofNat_of_lt' (by show x.toNat < 256; omega), UInt8.toNat_ofNat_of_lt' (by show y.toNat < 256; omega)] at h1
   rw [show x = y by omega, ih (fun z hz => ha z (by simp [hz])) (fun z hz => hb z (by simp [hz])) h.2]
theorem eqBytes132_any (a b : List Int) (ha : bytesR a) (hb : bytesR b) (A B : Option Addr) (c d : Nat) (w : World) (hA : Kd.C (Kd.int .u8) w A a.length a) (hB : Kd.C (Kd.int .u8) w B b.length b) :
  Calls Tryz.prog 109 #[.slice A a.length c, .slice B b.length d] w fun e w' => e = .returned (.bool (decide (a = b))) ∧ Below w.heap.size w w' := by
 have q1 := Kd.C_string (c := c) Tryz.underlying45 Tryz.underlying5 Tryz.underlying9 hA
 have q2 := Kd.C_string (c := d) Tryz.underlying45 Tryz.underlying5 Tryz.underlying9 hB
 have hd : decide (a = b) = ((strOfNums a).toList == (strOfNums b).toList) := by
  rw [Bool.eq_iff_iff]
  simp only [decide_eq_true_eq, beq_iff_eq]
  exact ⟨fun h => by rw [h], strOf_inj ha hb⟩
 have HD := Aside0.mk hd
 have HE := Aside0.mk (eqb_both (strOfNums a).toList (strOfNums b).toList)
 clear hd hA hB
 cases h1 : (Op.bytesLess (strOfNums a).toList (strOfNums b).toList || (strOfNums a).toList == (strOfNums b).toList) with
 | true =>
  have HH := Aside0.mk h1
  go_enter Tryz.func109, Tryz.ntmps109
  go_wp2_with fail
  go_ret
  refine ⟨?_, Below.refl _ _⟩
  rw [HD.out, ← HE.out, HH.out]
  simp
 | false =>
  have HH := Aside0.mk h1
  go_enter Tryz.func109, Tryz.ntmps109
  go_wp2_with fail
  go_ret
  refine ⟨?_, Below.refl _ _⟩
  rw [HD.out, ← HE.out, HH.out]
  simp
def u32R (l : List Int) : Prop := ∀ x ∈ l, 0 ≤ x ∧ x < 4294967296
theorem one_f {x : Int} (h0 : 0 ≤ x) (h : isChar x = true) : bellwetherref02_One.f x = some (oneP x) := by
 simp only [isChar, decide_eq_true_eq] at h
 unfold bellwetherref02_One.f oneP
 have td : ∀ k : Int, Int.tdiv x k = x / k := fun k => Int.tdiv_eq_ediv_of_nonneg h0
 have tm : ∀ k : Int, Int.tmod x k = x % k := fun k => Int.tmod_eq_emod_of_nonneg h0
 simp only [td, tm]
 by_cases h1 : x < 128
 ·rw [if_pos h1, if_pos h1]; congr 2; omega
 ·rw [if_neg h1, if_neg h1]
  by_cases h2 : x < 2048
  ·rw [if_pos h2, if_pos h2]
   simp only [Option.some.injEq, List.cons.injEq, and_true]
   exact ⟨by omega, by omega⟩
  ·rw [if_neg h2, if_neg h2]
   by_cases h3 : x < 65536
   ·rw [if_pos h3, if_pos h3]
    simp only [Option.some.injEq, List.cons.injEq, and_true]
    exact ⟨by omega, by omega, by omega⟩
   ·rw [if_neg h3, if_neg h3]
    simp only [Option.some.injEq, List.cons.injEq, and_true]
    exact ⟨by omega, by omega, by omega, by omega⟩
theorem char_f {x : Int} (h0 : 0 ≤ x) (h : x < 4294967296) : bellwetherref02_Char.f (IntKind.u64.wrap x) = some (isChar x) := by
 have e : IntKind.u64.wrap x = x := by
  have : IntKind.u64.wrap x = x % 18446744073709551616 := by simp [IntKind.wrap, IntKind.bits, IntKind.signed]
  omega
 rw [e]
 unfold bellwetherref02_Char.f isChar
 by_cases h1 : x < 55296
 ·rw [if_pos h1]; congr 1; symm; rw [decide_eq_true_eq]; omega
 ·rw [if_neg h1]
  by_cases h2 : x > 57343
  ·rw [if_pos h2]; congr 1; exact decide_eq_decide.mpr (by omega)
  ·rw [if_neg h2]; congr 1; symm; rw [decide_eq_false_iff_not]; omega
def textP (l : List Int) : List Int × Bool := if l.all isChar then (l.flatMap oneP, true) else ([], false)
theorem rd_atI (pre : List Int) (x : Int) (l : List Int) : rd (pre ++ x :: l) (pre.length : Int) = x := by
 unfold rd; simp [List.getD_eq_getElem?_getD]
theorem oneP_le (x : Int) : (oneP x).length ≤ 4 := by by_cases h1 : x < 128 <;> by_cases h2 : x < 2048 <;> by_cases h3 : x < 65536 <;> simp [oneP, h1, h2, h3]
theorem text_l : ∀ (l pre out : List Int) (k : Nat), l.length + 1 ≤ k → u32R l → out.length + 4 * l.length < 140737488355328 → (pre ++ l).length ≤ 4294967296 →
  bellwetherref02_Text.l0 k (pre ++ l) out (pre.length : Int) = some (if l.all isChar then (out ++ l.flatMap oneP, true) else ([], false))
 | [], pre, out, k, hk, _, _, _ => by
  obtain ⟨k, rfl⟩ : ∃ m, k = m + 1 := ⟨k - 1, by omega⟩
  simp only [bellwetherref02_Text.l0]
  rw [if_neg (by simp)]; simp
 | x :: l, pre, out, k, hk, hu, hb, hp => by
  obtain ⟨k, rfl⟩ : ∃ m, k = m + 1 := ⟨k - 1, by omega⟩
  have hx := hu x (by simp)
  simp only [bellwetherref02_Text.l0]
  rw [if_pos (by simp; omega), if_pos (by omega), rd_atI, char_f hx.1 hx.2]
  simp only [Option.bind_some]
  cases hc : isChar x with
  | false => simp [hc]
  | true =>
   rw [if_pos rfl, one_f hx.1 hc]
   simp only [Option.bind_some]
   have h4 := oneP_le x
   simp only [List.length_cons, List.length_append] at hk hb hp
   rw [if_pos (by omega)]
   have h5 : wrap64 ((pre.length : Int) + 1) = ((pre ++ [x]).length : Int) := by unfold wrap64; simp; omega
   have := text_l l (pre ++ [x]) (out ++ oneP x) k (by omega) (fun y hy => hu y (by simp [hy])) (by simp only [List.length_append]; omega) (by simp; omega)
   rw [List.append_assoc, List.singleton_append] at this
   rw [h5, this]
   simp [hc]
end Go.Proofs.YtdilbnggedidnaaGreat.PVal
namespace Go.Proofs.YtdilbnggedidnaaGreat.PVal
open Go.RowKit Go.Proofs.YtdilbnggedidnaaGreatW.PrintWords Go.Proofs.YtdilbnggedidnaaGreatW.PrintLast
set_option linter.unusedVariables false
set_option linter.unusedSimpArgs false
theorem u32R_snoc {l : List Int} (h : u32R l) {x : Int} (hx : 0 ≤ x ∧ x < 4294967296) : u32R (l ++ [x]) := fun y hy => by
 rcases List.mem_append.1 hy with hy | hy
 ·exact h y hy
 ·rw [List.mem_singleton.1 hy]; exact hx
theorem lenTail_nil (n : Nat) (x : Int) : lenTail n x [] = x := by cases n <;> rfl
def LenInv (l : List Int) (at_ : Int) (n : Nat) (x0 i x : Int) : Prop :=
 1 ≤ i ∧ i ≤ n ∧ 0 ≤ x ∧ (n = 1 ∧ x < 256 ∨ i = 1 ∧ x < 32 ∨ i = 2 ∧ x < 2048 ∨ i = 3 ∧ x < 131072 ∨ i = 4 ∧ x < 8388608) ∧ lenTail ((n : Int) - i).toNat x (l.drop (at_ + i).toNat) = lenTail (n - 1) x0 (l.drop (at_ + 1).toNat)
theorem rd_byte {l : List Int} (hl : bytesR l) {i : Int} (h0 : 0 ≤ i) (h1 : i < l.length) : 0 ≤ rd l i ∧ rd l i ≤ 255 := by
 have : rd l i ∈ l := by
  unfold rd
  rw [List.getD_eq_getElem?_getD, List.getElem?_eq_getElem (by omega)]
  exact List.getElem_mem _
 exact hl _ this
theorem drop_rdI {l : List Int} {i : Int} (h0 : 0 ≤ i) (h1 : i < l.length) : l.drop i.toNat = rd l i :: l.drop (i + 1).toNat := by
 have h2 : i.toNat < l.length := by omega
 rw [List.drop_eq_getElem_cons h2, show (i + 1).toNat = i.toNat + 1 by omega]
 unfold rd
 rw [List.getD_eq_getElem?_getD, List.getElem?_eq_getElem h2]
 rfl
theorem oneP_bytes {x : Int} (h : isChar x = true) : ∀ z ∈ oneP x, 0 ≤ z ∧ z ≤ 255 := by
 simp only [isChar, decide_eq_true_eq] at h
 intro z hz
 by_cases h1 : x < 128
 ·simp [oneP, h1] at hz; omega
 ·by_cases h2 : x < 2048
  ·simp [oneP, h1, h2] at hz; omega
  ·by_cases h3 : x < 65536
   ·simp [oneP, h1, h2, h3] at hz; omega
   ·simp [oneP, h1, h2, h3] at hz; omega
theorem rchars129_any (l : List Int) (hl : bytesR l) (hs : l.length ≤ 4294967290) (A : Option Addr) (c : Nat) (w : World) (ha : Kd.C (Kd.int .u8) w A l.length l) (hc : l.length ≤ c) :
  Calls Tryz.prog 104 #[.slice A l.length c] w fun e w' => (∃ v, e = .returned (.tuple #[v, .bool (textR l)])) ∧ Below w.heap.size w w' := by
 have HA := Aside0.mk ha
 have HL := Aside0.mk hl
 clear ha hl
 go_enter Tryz.func104, Tryz.ntmps104
 go_wp2_with fail
 go_loopg [4, 5] l.length (fun gk v4 v5 wr => ∃ (out : List Int) (A4 : Option Addr) (c4 : Nat) (at_ : Int), v4 = .slice A4 out.length c4 ∧ v5 = .int .i64 at_ ∧ Aside0 (0 ≤ at_ ∧ at_ ≤ (l.length : Int) + 3 ∧ (l.length : Int) - at_ ≤ gk ∧ (out.length : Int) ≤ at_ ∧ u32R out ∧ out.length ≤ l.length ∧ out ++ lenF gk (l.drop at_.toNat) = lenF l.length l) ∧ Aside0 ((Kd.int .u32).R 103 wr w.heap.size (fun _ => True) (.slice A4 out.length c4) out) ∧ Aside0 (Below w.heap.size w wr))
 case atStart => exact ⟨[], none, 0, 0, rfl, rfl, ⟨by omega, by omega, by omega, by simp, fun _ h => by simp at h, by simp, by simp⟩, ⟨Kd.R_nil _ _ _ _ _⟩, ⟨Below.refl _ _⟩⟩
 case round =>
  obtain ⟨out, A4, c4, at_, rfl, rfl, HI, HO, HW⟩ := hrel
  obtain ⟨h0, h1, h2, h3, h4, h5, h6⟩ := HI.out
  have HU := Aside0.mk h4
  have HV := Aside0.mk h6
  clear HI h4 h6
  by_cases hlt : at_ < (l.length : Int)
  ·have hcd : decide (at_ < (l.length : Int)) = true := decide_eq_true hlt
   obtain ⟨ad, e1, hy0⟩ := Kd.at_int HA.out at_ h0 hlt
   cases e1
   have hyr := rd_byte HL.out h0 hlt
   have hdr := drop_rdI h0 hlt
   obtain ⟨y, hyy⟩ : ∃ y, rd l at_ = y := ⟨_, rfl⟩
   rw [hyy] at hy0 hyr hdr
   have hy1 := (HW.out.cell (World.block_lt_of_cell? w _ hy0)).trans hy0
   obtain ⟨k, rfl⟩ : ∃ k, gk = k + 1 := ⟨gk - 1, by omega⟩
   have HD := Aside0.mk hdr
   have hstep : out ++ (lenTail ((lenHead y).2 - 1) (lenHead y).1 (l.drop (at_ + 1).toNat) :: lenF k ((y :: l.drop (at_ + 1).toNat).drop (lenHead y).2)) = lenF l.length l := by
    rw [← HV.out, hdr]; simp only [lenF]
   have HS := Aside0.mk hstep
   clear hy0 hyy hdr hstep
   obtain ⟨wo, rfl⟩ : ∃ wo : World, wo = wr := ⟨_, rfl⟩
   by_cases t1 : y ≥ 240
   ·have d1 : decide ((240 : Int) ≤ y) = true := decide_eq_true t1
    have hlh : lenHead y = (y % 8, 4) := by unfold lenHead; rw [if_pos t1]
    have HLH := Aside0.mk hlh
    clear hlh
    go_wp2_with fail
    go_loopg [7, 8] (4 : Nat) (fun g2 v7 v8 wq => ∃ (i x : Int), v7 = .int .u32 x ∧ v8 = .int .i64 i ∧ Aside0 (LenInv l at_ 4 (y % 8) i x ∧ 4 - i ≤ g2) ∧ wq = wo)
    case atStart => exact ⟨1, y % 8, by first | rfl | (simp; omega), rfl, ⟨⟨by omega, by omega, by omega, by omega, rfl⟩, by omega⟩, rfl⟩
    case round =>
     obtain ⟨i, x, rfl, rfl, HJ, rfl⟩ := hrel
     obtain ⟨hj, hg2⟩ := HJ.out
     have hj' := hj
     unfold LenInv at hj'
     obtain ⟨j1, j2, j3, j4, j5⟩ := hj'
     have HJ5 := Aside0.mk j5
     clear hj j5 HJ
     by_cases hin : i < 4
     ·have hc1 : decide (i < 4) = true := decide_eq_true hin
      by_cases hil : at_ + i < (l.length : Int)
      ·have hc2 : decide (at_ + i < (l.length : Int)) = true := decide_eq_true hil
       obtain ⟨ad2, e2, hz0⟩ := Kd.at_int HA.out (at_ + i) (by omega) hil
       cases e2
       have hzr := rd_byte HL.out (by omega : 0 ≤ at_ + i) hil
       have hdz := drop_rdI (by omega : 0 ≤ at_ + i) hil
       obtain ⟨z, hzz⟩ : ∃ z, rd l (at_ + i) = z := ⟨_, rfl⟩
       rw [hzz] at hz0 hzr hdz
       have hz1 := (HW.out.cell (World.block_lt_of_cell? w _ hz0)).trans hz0
       have HN : Aside0 (LenInv l at_ 4 (y % 8) (i + 1) (64 * x + z % 64)) := by
        refine ⟨⟨by omega, by omega, by omega, by omega, ?_⟩⟩
        rw [← HJ5.out, hdz, show ((4 : Nat) : Int) - i = (4 : Int) - i by rfl, show ((4 : Int) - i).toNat = ((4 : Int) - (i + 1)).toNat + 1 by omega, lenTail, show at_ + (i + 1) = at_ + i + 1 by omega]
        rfl
       have hw0 : 0 ≤ at_ + i := by omega
       have hx64 : 64 * x < 4294967296 := by omega
       clear hz0 hzz hdz
       go_wp2_with fail
       obtain ⟨g3, rfl⟩ : ∃ g3, gk = g3 + 1 := ⟨gk - 1, by omega⟩
       go_roundg g3
       case measure => omega
       case rel => exact ⟨i + 1, 64 * x + z % 64, by first | rfl | (simp; omega), by go_num, ⟨HN.out, by omega⟩, rfl⟩
      ·have hc2 : decide (at_ + i < (l.length : Int)) = false := decide_eq_false hil
       have HF : Aside0 (lenTail (4 - 1) (y % 8) (l.drop (at_ + 1).toNat) = x) := ⟨by rw [← HJ5.out, List.drop_of_length_le (by omega), lenTail_nil]⟩
       have hw0 : 0 ≤ at_ + i := by omega
       have hxb : 0 ≤ x ∧ x < 4294967296 := by omega
       have HXB := Aside0.mk hxb
       clear HJ5
       go_wp2_with (at_builtin; refine Kd.R_append (Kd.int .u32) (w0 := w) w.heap.size rfl (.tmp 59) (.tmp 61) 97 103 _ 4 rfl Tryz.underlying97 info125v rfl (by decide) (by decide) (.slice A4 out.length c4) out x [.int .u32 x] (fun _ => True) (fun _ => False) rfl rfl rfl (fun _ h => h.elim) (fun _ _ => trivial) HO.out HW.out HW.out.size (by omega) ?_; intro v1 w3 hR hB hG hA)
       obtain ⟨A5, c5, rfl⟩ := Kd.R_slice hR
       go_roundg k
       case measure => omega
       case rel =>
        refine ⟨out ++ [x], A5, c5, at_ + 4, rfl, by first | rfl | (simp; omega), ⟨by omega, by omega, by omega, by simp; omega, u32R_snoc HU.out HXB.out, by simp; omega, ?_⟩, ⟨hR⟩, ⟨hB⟩⟩
        rw [← HS.out, HLH.out]
        simp only [List.append_assoc, List.singleton_append]
        rw [HF.out, ← HD.out, List.drop_drop]
        congr 4
        omega
     ·have hc1 : decide (i < 4) = false := decide_eq_false hin
      have HF : Aside0 (lenTail (4 - 1) (y % 8) (l.drop (at_ + 1).toNat) = x) := ⟨by rw [← HJ5.out, show i = 4 by omega]; simp [lenTail]⟩
      have hxb : 0 ≤ x ∧ x < 4294967296 := by omega
      have HXB := Aside0.mk hxb
      clear HJ5
      go_wp2_with (at_builtin; refine Kd.R_append (Kd.int .u32) (w0 := w) w.heap.size rfl (.tmp 59) (.tmp 61) 97 103 _ 4 rfl Tryz.underlying97 info125v rfl (by decide) (by decide) (.slice A4 out.length c4) out x [.int .u32 x] (fun _ => True) (fun _ => False) rfl rfl rfl (fun _ h => h.elim) (fun _ _ => trivial) HO.out HW.out HW.out.size (by omega) ?_; intro v1 w3 hR hB hG hA)
      obtain ⟨A5, c5, rfl⟩ := Kd.R_slice hR
      go_roundg k
      case measure => omega
      case rel =>
       refine ⟨out ++ [x], A5, c5, at_ + 4, rfl, by first | rfl | (simp; omega), ⟨by omega, by omega, by omega, by simp; omega, u32R_snoc HU.out HXB.out, by simp; omega, ?_⟩, ⟨hR⟩, ⟨hB⟩⟩
       rw [← HS.out, HLH.out]
       simp only [List.append_assoc, List.singleton_append]
       rw [HF.out, ← HD.out, List.drop_drop]
       congr 4
       omega
   ·have d1 : decide ((240 : Int) ≤ y) = false := decide_eq_false t1
    by_cases t2 : y ≥ 224
    ·have d2 : decide ((224 : Int) ≤ y) = true := decide_eq_true t2
     have hlh : lenHead y = (y % 16, 3) := by unfold lenHead; rw [if_neg t1, if_pos t2]
     have HLH := Aside0.mk hlh
     clear hlh
     go_wp2_with fail
     go_loopg [7, 8] (4 : Nat) (fun g2 v7 v8 wq => ∃ (i x : Int), v7 = .int .u32 x ∧ v8 = .int .i64 i ∧ Aside0 (LenInv l at_ 3 (y % 16) i x ∧ 4 - i ≤ g2) ∧ wq = wo)
     case atStart => exact ⟨1, y % 16, by first | rfl | (simp; omega), rfl, ⟨⟨by omega, by omega, by omega, by omega, rfl⟩, by omega⟩, rfl⟩
     case round =>
      obtain ⟨i, x, rfl, rfl, HJ, rfl⟩ := hrel
      obtain ⟨hj, hg2⟩ := HJ.out
      have hj' := hj
      unfold LenInv at hj'
      obtain ⟨j1, j2, j3, j4, j5⟩ := hj'
      have HJ5 := Aside0.mk j5
      clear hj j5 HJ
      by_cases hin : i < 3
      ·have hc1 : decide (i < 3) = true := decide_eq_true hin
       by_cases hil : at_ + i < (l.length : Int)
       ·have hc2 : decide (at_ + i < (l.length : Int)) = true := decide_eq_true hil
        obtain ⟨ad2, e2, hz0⟩ := Kd.at_int HA.out (at_ + i) (by omega) hil
        cases e2
        have hzr := rd_byte HL.out (by omega : 0 ≤ at_ + i) hil
        have hdz := drop_rdI (by omega : 0 ≤ at_ + i) hil
        obtain ⟨z, hzz⟩ : ∃ z, rd l (at_ + i) = z := ⟨_, rfl⟩
        rw [hzz] at hz0 hzr hdz
        have hz1 := (HW.out.cell (World.block_lt_of_cell? w _ hz0)).trans hz0
        have HN : Aside0 (LenInv l at_ 3 (y % 16) (i + 1) (64 * x + z % 64)) := by
         refine ⟨⟨by omega, by omega, by omega, by omega, ?_⟩⟩
         rw [← HJ5.out, hdz, show ((3 : Nat) : Int) - i = (3 : Int) - i by rfl, show ((3 : Int) - i).toNat = ((3 : Int) - (i + 1)).toNat + 1 by omega, lenTail, show at_ + (i + 1) = at_ + i + 1 by omega]
         rfl
        have hw0 : 0 ≤ at_ + i := by omega
        have hx64 : 64 * x < 4294967296 := by omega
        clear hz0 hzz hdz
        go_wp2_with fail
        obtain ⟨g3, rfl⟩ : ∃ g3, gk = g3 + 1 := ⟨gk - 1, by omega⟩
        go_roundg g3
        case measure => omega
        case rel => exact ⟨i + 1, 64 * x + z % 64, by first | rfl | (simp; omega), by go_num, ⟨HN.out, by omega⟩, rfl⟩
       ·have hc2 : decide (at_ + i < (l.length : Int)) = false := decide_eq_false hil
        have HF : Aside0 (lenTail (3 - 1) (y % 16) (l.drop (at_ + 1).toNat) = x) := ⟨by rw [← HJ5.out, List.drop_of_length_le (by omega), lenTail_nil]⟩
        have hw0 : 0 ≤ at_ + i := by omega
        have hxb : 0 ≤ x ∧ x < 4294967296 := by omega
        have HXB := Aside0.mk hxb
        clear HJ5
        go_wp2_with (at_builtin; refine Kd.R_append (Kd.int .u32) (w0 := w) w.heap.size rfl (.tmp 59) (.tmp 61) 97 103 _ 4 rfl Tryz.underlying97 info125v rfl (by decide) (by decide) (.slice A4 out.length c4) out x [.int .u32 x] (fun _ => True) (fun _ => False) rfl rfl rfl (fun _ h => h.elim) (fun _ _ => trivial) HO.out HW.out HW.out.size (by omega) ?_; intro v1 w3 hR hB hG hA)
        obtain ⟨A5, c5, rfl⟩ := Kd.R_slice hR
        go_roundg k
        case measure => omega
        case rel =>
         refine ⟨out ++ [x], A5, c5, at_ + 3, rfl, by first | rfl | (simp; omega), ⟨by omega, by omega, by omega, by simp; omega, u32R_snoc HU.out HXB.out, by simp; omega, ?_⟩, ⟨hR⟩, ⟨hB⟩⟩
         rw [← HS.out, HLH.out]
         simp only [List.append_assoc, List.singleton_append]
         rw [HF.out, ← HD.out, List.drop_drop]
         congr 4
         omega
      ·have hc1 : decide (i < 3) = false := decide_eq_false hin
       have HF : Aside0 (lenTail (3 - 1) (y % 16) (l.drop (at_ + 1).toNat) = x) := ⟨by rw [← HJ5.out, show i = 3 by omega]; simp [lenTail]⟩
       have hxb : 0 ≤ x ∧ x < 4294967296 := by omega
       have HXB := Aside0.mk hxb
       clear HJ5
       go_wp2_with (at_builtin; refine Kd.R_append (Kd.int .u32) (w0 := w) w.heap.size rfl (.tmp 59) (.tmp 61) 97 103 _ 4 rfl Tryz.underlying97 info125v rfl (by decide) (by decide) (.slice A4 out.length c4) out x [.int .u32 x] (fun _ => True) (fun _ => False) rfl rfl rfl (fun _ h => h.elim) (fun _ _ => trivial) HO.out HW.out HW.out.size (by omega) ?_; intro v1 w3 hR hB hG hA)
       obtain ⟨A5, c5, rfl⟩ := Kd.R_slice hR
       go_roundg k
       case measure => omega
       case rel =>
        refine ⟨out ++ [x], A5, c5, at_ + 3, rfl, by first | rfl | (simp; omega), ⟨by omega, by omega, by omega, by simp; omega, u32R_snoc HU.out HXB.out, by simp; omega, ?_⟩, ⟨hR⟩, ⟨hB⟩⟩
        rw [← HS.out, HLH.out]
        simp only [List.append_assoc, List.singleton_append]
        rw [HF.out, ← HD.out, List.drop_drop]
        congr 4
        omega
    ·have d2 : decide ((224 : Int) ≤ y) = false := decide_eq_false t2
     by_cases t3 : y ≥ 192
     ·have d3 : decide ((192 : Int) ≤ y) = true := decide_eq_true t3
      have hlh : lenHead y = (y % 32, 2) := by unfold lenHead; rw [if_neg t1, if_neg t2, if_pos t3]
      have HLH := Aside0.mk hlh
      clear hlh
      go_wp2_with fail
      go_loopg [7, 8] (4 : Nat) (fun g2 v7 v8 wq => ∃ (i x : Int), v7 = .int .u32 x ∧ v8 = .int .i64 i ∧ Aside0 (LenInv l at_ 2 (y % 32) i x ∧ 4 - i ≤ g2) ∧ wq = wo)
      case atStart => exact ⟨1, y % 32, by first | rfl | (simp; omega), rfl, ⟨⟨by omega, by omega, by omega, by omega, rfl⟩, by omega⟩, rfl⟩
      case round =>
       obtain ⟨i, x, rfl, rfl, HJ, rfl⟩ := hrel
       obtain ⟨hj, hg2⟩ := HJ.out
       have hj' := hj
       unfold LenInv at hj'
       obtain ⟨j1, j2, j3, j4, j5⟩ := hj'
       have HJ5 := Aside0.mk j5
       clear hj j5 HJ
       by_cases hin : i < 2
       ·have hc1 : decide (i < 2) = true := decide_eq_true hin
        by_cases hil : at_ + i < (l.length : Int)
        ·have hc2 : decide (at_ + i < (l.length : Int)) = true := decide_eq_true hil
         obtain ⟨ad2, e2, hz0⟩ := Kd.at_int HA.out (at_ + i) (by omega) hil
         cases e2
         have hzr := rd_byte HL.out (by omega : 0 ≤ at_ + i) hil
         have hdz := drop_rdI (by omega : 0 ≤ at_ + i) hil
         obtain ⟨z, hzz⟩ : ∃ z, rd l (at_ + i) = z := ⟨_, rfl⟩
         rw [hzz] at hz0 hzr hdz
         have hz1 := (HW.out.cell (World.block_lt_of_cell? w _ hz0)).trans hz0
         have HN : Aside0 (LenInv l at_ 2 (y % 32) (i + 1) (64 * x + z % 64)) := by
          refine ⟨⟨by omega, by omega, by omega, by omega, ?_⟩⟩
          rw [← HJ5.out, hdz, show ((2 : Nat) : Int) - i = (2 : Int) - i by rfl, show ((2 : Int) - i).toNat = ((2 : Int) - (i + 1)).toNat + 1 by omega, lenTail, show at_ + (i + 1) = at_ + i + 1 by omega]
          rfl
         have hw0 : 0 ≤ at_ + i := by omega
         have hx64 : 64 * x < 4294967296 := by omega
         clear hz0 hzz hdz
         go_wp2_with fail
         obtain ⟨g3, rfl⟩ : ∃ g3, gk = g3 + 1 := ⟨gk - 1, by omega⟩
         go_roundg g3
         case measure => omega
         case rel => exact ⟨i + 1, 64 * x + z % 64, by first | rfl | (simp; omega), by go_num, ⟨HN.out, by omega⟩, rfl⟩
        ·have hc2 : decide (at_ + i < (l.length : Int)) = false := decide_eq_false hil
         have HF : Aside0 (lenTail (2 - 1) (y % 32) (l.drop (at_ + 1).toNat) = x) := ⟨by rw [← HJ5.out, List.drop_of_length_le (by omega), lenTail_nil]⟩
         have hw0 : 0 ≤ at_ + i := by omega
         have hxb : 0 ≤ x ∧ x < 4294967296 := by omega
         have HXB := Aside0.mk hxb
         clear HJ5
         go_wp2_with (at_builtin; refine Kd.R_append (Kd.int .u32) (w0 := w) w.heap.size rfl (.tmp 59) (.tmp 61) 97 103 _ 4 rfl Tryz.underlying97 info125v rfl (by decide) (by decide) (.slice A4 out.length c4) out x [.int .u32 x] (fun _ => True) (fun _ => False) rfl rfl rfl (fun _ h => h.elim) (fun _ _ => trivial) HO.out HW.out HW.out.size (by omega) ?_; intro v1 w3 hR hB hG hA)
         obtain ⟨A5, c5, rfl⟩ := Kd.R_slice hR
         go_roundg k
         case measure => omega
         case rel =>
          refine ⟨out ++ [x], A5, c5, at_ + 2, rfl, by first | rfl | (simp; omega), ⟨by omega, by omega, by omega, by simp; omega, u32R_snoc HU.out HXB.out, by simp; omega, ?_⟩, ⟨hR⟩, ⟨hB⟩⟩
          rw [← HS.out, HLH.out]
          simp only [List.append_assoc, List.singleton_append]
          rw [HF.out, ← HD.out, List.drop_drop]
          congr 4
          omega
       ·have hc1 : decide (i < 2) = false := decide_eq_false hin
        have HF : Aside0 (lenTail (2 - 1) (y % 32) (l.drop (at_ + 1).toNat) = x) := ⟨by rw [← HJ5.out, show i = 2 by omega]; simp [lenTail]⟩
        have hxb : 0 ≤ x ∧ x < 4294967296 := by omega
        have HXB := Aside0.mk hxb
        clear HJ5
        go_wp2_with (at_builtin; refine Kd.R_append (Kd.int .u32) (w0 := w) w.heap.size rfl (.tmp 59) (.tmp 61) 97 103 _ 4 rfl Tryz.underlying97 info125v rfl (by decide) (by decide) (.slice A4 out.length c4) out x [.int .u32 x] (fun _ => True) (fun _ => False) rfl rfl rfl (fun _ h => h.elim) (fun _ _ => trivial) HO.out HW.out HW.out.size (by omega) ?_; intro v1 w3 hR hB hG hA)
        obtain ⟨A5, c5, rfl⟩ := Kd.R_slice hR
        go_roundg k
        case measure => omega
        case rel =>
         refine ⟨out ++ [x], A5, c5, at_ + 2, rfl, by first | rfl | (simp; omega), ⟨by omega, by omega, by omega, by simp; omega, u32R_snoc HU.out HXB.out, by simp; omega, ?_⟩, ⟨hR⟩, ⟨hB⟩⟩
         rw [← HS.out, HLH.out]
         simp only [List.append_assoc, List.singleton_append]
         rw [HF.out, ← HD.out, List.drop_drop]
         congr 4
         omega
     ·have d3 : decide ((192 : Int) ≤ y) = false := decide_eq_false t3
      have hlh : lenHead y = (y, 1) := by unfold lenHead; rw [if_neg t1, if_neg t2, if_neg t3]
      have HLH := Aside0.mk hlh
      clear hlh
      go_wp2_with fail
      go_loopg [7, 8] (4 : Nat) (fun g2 v7 v8 wq => ∃ (i x : Int), v7 = .int .u32 x ∧ v8 = .int .i64 i ∧ Aside0 (LenInv l at_ 1 (y) i x ∧ 4 - i ≤ g2) ∧ wq = wo)
      case atStart => exact ⟨1, y, by first | rfl | (simp; omega), rfl, ⟨⟨by omega, by omega, by omega, by omega, rfl⟩, by omega⟩, rfl⟩
      case round =>
       obtain ⟨i, x, rfl, rfl, HJ, rfl⟩ := hrel
       obtain ⟨hj, hg2⟩ := HJ.out
       have hj' := hj
       unfold LenInv at hj'
       obtain ⟨j1, j2, j3, j4, j5⟩ := hj'
       have HJ5 := Aside0.mk j5
       clear hj j5 HJ
       by_cases hin : i < 1
       ·exact absurd hin (by omega)
       ·have hc1 : decide (i < 1) = false := decide_eq_false hin
        have HF : Aside0 (lenTail (1 - 1) (y) (l.drop (at_ + 1).toNat) = x) := ⟨by rw [← HJ5.out, show i = 1 by omega]; simp [lenTail]⟩
        have hxb : 0 ≤ x ∧ x < 4294967296 := by omega
        have HXB := Aside0.mk hxb
        clear HJ5
        go_wp2_with (at_builtin; refine Kd.R_append (Kd.int .u32) (w0 := w) w.heap.size rfl (.tmp 59) (.tmp 61) 97 103 _ 4 rfl Tryz.underlying97 info125v rfl (by decide) (by decide) (.slice A4 out.length c4) out x [.int .u32 x] (fun _ => True) (fun _ => False) rfl rfl rfl (fun _ h => h.elim) (fun _ _ => trivial) HO.out HW.out HW.out.size (by omega) ?_; intro v1 w3 hR hB hG hA)
        obtain ⟨A5, c5, rfl⟩ := Kd.R_slice hR
        go_roundg k
        case measure => omega
        case rel =>
         refine ⟨out ++ [x], A5, c5, at_ + 1, rfl, by first | rfl | (simp; omega), ⟨by omega, by omega, by omega, by simp; omega, u32R_snoc HU.out HXB.out, by simp; omega, ?_⟩, ⟨hR⟩, ⟨hB⟩⟩
         rw [← HS.out, HLH.out]
         simp only [List.append_assoc, List.singleton_append]
         rw [HF.out, ← HD.out, List.drop_drop]
         congr 4
         omega
  ·have hcd : decide (at_ < (l.length : Int)) = false := decide_eq_false hlt
   have hout : out = lenF l.length l := by
    rw [← HV.out, List.drop_of_length_le (by omega)]
    cases gk <;> simp [lenF]
   have HX := Aside0.mk hout
   have HT : Aside0 (bellwetherref02_Text.f (out.length + 1) out = some (textP out)) := by
    refine ⟨?_⟩
    have := text_l out [] [] (out.length + 1) (Nat.le_refl _) HU.out (by simp; omega) (by simp; omega)
    simp only [List.nil_append, List.length_nil] at this
    unfold bellwetherref02_Text.f textP
    exact this
   clear hout HV
   obtain ⟨A4', c4', e4, hl4, hC4⟩ := Kd.R_reads HO.out
   cases e4
   have HC4 := Aside0.mk hC4
   clear hC4
   go_wp2_with fail
   generalize hq : textP out = q at HT
   obtain ⟨q1, q2⟩ := q
   refine (bellwetherref02_Text.calls _ A4 c4 out q1 q2 wr HC4.out hl4 HT.out).mono ?_
   rintro e w2 ⟨v0, rfl, hR, hb⟩
   obtain ⟨A6, c6, e6, hl6, hC6⟩ := Kd.R_reads hR
   subst e6
   have HC6 := Aside0.mk hC6
   have HW2 : Aside0 (Below w.heap.size w w2) := ⟨below_step HW.out hb⟩
   have HQ := Aside0.mk hq
   have HLW := Aside0.mk (textR_len HL.out)
   clear hR hb hC6 hq
   cases q2 with
   | false =>
    have HE : Aside0 (textR l = false) := by
     refine ⟨?_⟩
     rw [HLW.out, ← HX.out]
     have := HQ.out
     unfold textP at this
     cases ha : out.all isChar with
     | false => rfl
     | true => rw [ha] at this; simp at this
    go_wp2_with fail
    go_ret2
    exact ⟨⟨_, by rw [HE.out]; rfl⟩, HW2.out⟩
   | true =>
    have hq1 : out.all isChar = true ∧ q1 = out.flatMap oneP := by
     have := HQ.out
     unfold textP at this
     cases ha : out.all isChar with
     | false => rw [ha] at this; simp at this
     | true => rw [ha] at this; simp at this; exact ⟨rfl, this.symm⟩
    have HE : Aside0 (textR l = decide (q1 = l)) := ⟨by rw [HLW.out, ← HX.out, hq1.1, hq1.2]; rfl⟩
    have hqb : bytesR q1 := by
     rw [hq1.2]
     intro z hz
     obtain ⟨x, hx, hz⟩ := List.mem_flatMap.1 hz
     have := List.all_eq_true.1 hq1.1 x hx
     exact oneP_bytes this z hz
    have HQB := Aside0.mk hqb
    clear hq1 hqb
    go_wp2_with fail
    refine (eqBytes132_any q1 l HQB.out HL.out A6 A c6 c w2 HC6.out (Kd.C_below HA.out HW2.out)).mono ?_
    rintro e w3 ⟨rfl, hb⟩
    have HW3 : Aside0 (Below w.heap.size w w3) := ⟨below_step HW2.out hb⟩
    clear hb
    cases hd : decide (q1 = l) with
    | false =>
     have HD := Aside0.mk hd
     clear hd
     go_wp2_with fail
     go_ret2
     exact ⟨⟨_, by rw [HE.out, HD.out]; rfl⟩, HW3.out⟩
    | true =>
     have HD := Aside0.mk hd
     clear hd
     go_wp2_with fail
     go_ret2
     exact ⟨⟨_, by rw [HE.out, HD.out]; rfl⟩, HW3.out⟩
theorem rright124_any (l : List Int) (hl : bytesR l) (hs : l.length ≤ 4294967290) (A : Option Addr) (c : Nat) (w : World) (ha : Kd.C (Kd.int .u8) w A l.length l) (hc : l.length ≤ c) :
  Calls Tryz.prog 99 #[.slice A l.length c] w fun e w' => e = .returned (.bool (textR l)) ∧ Below w.heap.size w w' := by
 have HA := Aside0.mk ha
 have HL := Aside0.mk hl
 clear ha hl
 go_enter Tryz.func99, Tryz.ntmps99
 go_wp2_with fail
 refine (rchars129_any l HL.out hs A c w HA.out hc).mono ?_
 rintro e w2 ⟨⟨v, rfl⟩, hb⟩
 have HW := Aside0.mk hb
 clear hb
 go_wp2_with fail
 go_ret
 exact ⟨rfl, HW.out⟩
end Go.Proofs.YtdilbnggedidnaaGreat.PVal
namespace Go.Proofs.YtdilbnggedidnaaGreat.PVal
open Go.RowKit Go.Proofs.YtdilbnggedidnaaGreatW.PrintWords Go.Proofs.YtdilbnggedidnaaGreatW.PrintLast
attribute [local go_sem] max2_int max_two
set_option linter.unusedVariables false
set_option linter.unusedSimpArgs false
structure StepF (g : Nat) (f : Nat → Nat → Nat) : Prop where
 call : ∀ (a b : Nat) (w : World), a + b ≤ 4294967296 → Calls Tryz.prog g #[.int .i64 (a : Int), .int .i64 (b : Int)] w fun e w' => e = .returned (.int .i64 (f a b : Int)) ∧ w = w'
 le : ∀ a b, f a b ≤ a + b
mutual
def foldN (f : Nat → Nat → Nat) : S25 → Nat
 | ⟨_, _, _, d⟩ => foldL f 0 d + 1
def foldL (f : Nat → Nat → Nat) : Nat → List S25 → Nat
 | n, [] => n
 | n, x :: xs => foldL f (f n (foldN f x)) xs
end
theorem foldN_eq (f : Nat → Nat → Nat) (x : S25) : foldN f x = foldL f 0 x.f3 + 1 := by cases x; simp [foldN]
mutual
theorem foldN_le {f : Nat → Nat → Nat} (h : ∀ a b, f a b ≤ a + b) : ∀ x, foldN f x ≤ itemsN x
 | ⟨a, b, c, d⟩ => by simp only [foldN, itemsN]; have := foldL_le h 0 d; omega
theorem foldL_le {f : Nat → Nat → Nat} (h : ∀ a b, f a b ≤ a + b) : ∀ n l, foldL f n l ≤ n + itemsL l
 | n, [] => by simp [foldL, itemsL]
 | n, x :: l => by
  simp only [foldL, itemsL]
  have h1 := foldN_le h x
  have h2 := foldL_le h (f n (foldN f x)) l
  have h3 := h n (foldN f x)
  omega
end
mutual
theorem foldN_max : ∀ x, foldN max x = depthN x
 | ⟨a, b, c, d⟩ => by simp only [foldN, depthN]; rw [foldL_max 0 d]; simp
theorem foldL_max : ∀ n l, foldL max n l = max n (depthL l)
 | n, [] => by simp [foldL, depthL]
 | n, x :: l => by simp only [foldL, depthL]; rw [foldL_max _ l, foldN_max x, Nat.max_assoc]
end
mutual
theorem foldN_add : ∀ x, foldN (· + ·) x = itemsN x
 | ⟨a, b, c, d⟩ => by simp only [foldN, itemsN]; rw [foldL_add 0 d]; simp
theorem foldL_add : ∀ n l, foldL (· + ·) n l = n + itemsL l
 | n, [] => by simp [foldL, itemsL]
 | n, x :: l => by simp only [foldL, itemsL]; rw [foldL_add _ l, foldN_add x]; omega
end
theorem step_max : StepF 79 max := by
 refine ⟨fun a b w h => ?_, fun a b => by omega⟩
 go_enter Tryz.func79, Tryz.ntmps79
 go_wp2_with fail
 all_goals go_ret
 all_goals refine ⟨congrArg Ending.returned (congrArg (Value.int .i64) ?_), rfl⟩
 all_goals omega
theorem step_add : StepF 80 (· + ·) := by
 refine ⟨fun a b w h => ?_, fun a b => by omega⟩
 go_enter Tryz.func80, Tryz.ntmps80
 go_wp2_with fail
 go_ret
 exact ⟨by simp, rfl⟩
def FoldAt (g : Nat) (f : Nat → Nat → Nat) (x : S25) : Prop := ∀ (A : Option Addr) (c : Nat) (w : World), k25.C w A x.f3.length x.f3 → x.f3.length ≤ c →
 Calls Tryz.prog 78 #[.agg #[.int .u8 x.f0, .int .u64 x.f1, .string x.f2, .slice A x.f3.length c], .func (.func g) #[] #[]] w fun e w' => e = .returned (.int .i64 (foldN f x : Int)) ∧ Below w.heap.size w w'
theorem fold62_of (x : S25) (hs : itemsN x ≤ 4294967296) (ih : ∀ a ∈ x.f3, FoldAt 79 max a) : FoldAt 79 max x := by
 intro A c w ha hc
 have HA := Aside0.mk ha
 have IH := Aside0.mk ih
 have hs1 : itemsL x.f3 + 1 ≤ 4294967296 := by rw [itemsN_eq] at hs; exact hs
 have hm : x.f3.length ≤ 4294967296 := Nat.le_trans (itemsL_length _) (by omega)
 clear ha ih hs
 go_enter Tryz.func78, Tryz.ntmps78
 go_wp2_with fail
 go_loopg [5, 11] x.f3.length (fun gk v5 v11 wr => ∃ (i : Int) (n : Nat), v5 = .int .i64 (n : Int) ∧ v11 = .int .i64 i ∧ Aside0 (0 ≤ i ∧ i ≤ x.f3.length ∧ gk = x.f3.length - i.toNat ∧ foldL max n (x.f3.drop i.toNat) = foldL max 0 x.f3 ∧ n + itemsL (x.f3.drop i.toNat) ≤ itemsL x.f3) ∧ Aside0 (Below w.heap.size w wr))
 case atStart => exact ⟨0, 0, rfl, rfl, ⟨by omega, by omega, by simp, by simp, by simp⟩, ⟨(Below.refl _ _).alloc (Nat.le_refl _) _⟩⟩
 case round =>
  obtain ⟨i, n, rfl, rfl, HI, HW⟩ := hrel
  obtain ⟨hi0, hi1, hgk, hv, hn⟩ := HI.out
  have HG := Aside0.mk hgk
  have HV := Aside0.mk hv
  clear HI hgk hv
  by_cases hlt : i < x.f3.length
  ·obtain ⟨ad1, A1, c1, e1, hx0, hx1, hx2, hx3, hl1, hC1⟩ := at_T25 (Kd.C_below HA.out HW.out) i hi0 hlt
   cases e1
   have HC1 := Aside0.mk hC1
   have HX := Aside0.mk (IH.out (rd_T25 x.f3 i) (rd_mem hi0 hlt))
   have hd := drop_rd hi0 hlt
   have hq : n + itemsN (rd_T25 x.f3 i) + itemsL (x.f3.drop (i + 1).toNat) ≤ itemsL x.f3 := by rw [hd, itemsL] at hn; omega
   have hv2 : foldL max (max n (foldN max (rd_T25 x.f3 i))) (x.f3.drop (i + 1).toNat) = foldL max 0 x.f3 := by rw [← HV.out, hd, foldL]
   have HV2 := Aside0.mk hv2
   have hle := foldN_le (f := max) step_max.le (rd_T25 x.f3 i)
   have HQ := Aside0.mk hq
   have HLE := Aside0.mk hle
   clear hC1 hd hq hv2 hn hle
   go_wp2_with fail
   refine (HX.out A1 c1 _ (Kd.C_below HC1.out ((Below.refl _ _).alloc (Nat.le_refl _) _)) hl1).mono ?_
   rintro e w2 ⟨rfl, hb⟩
   have HW2 : Aside0 (Below w.heap.size w w2) := ⟨below_step (below_alloc HW.out _) hb⟩
   clear hb
   go_wp2_with fail
   refine (step_max.call n (foldN max (rd_T25 x.f3 i)) w2 (by have := HQ.out; have := HLE.out; omega)).mono ?_
   rintro e w3 ⟨rfl, rfl⟩
   go_wp2_with fail
   go_roundg (x.f3.length - (i + 1).toNat)
   case measure => rw [HG.out]; omega
   case rel => exact ⟨i + 1, (max n (foldN max (rd_T25 x.f3 i))), rfl, by go_num, ⟨by omega, by omega, rfl, HV2.out, by have := HQ.out; have := HLE.out; have := step_max.le n (foldN max (rd_T25 x.f3 i)); omega⟩, HW2⟩
  ·have he : n = foldL max 0 x.f3 := by rw [← HV.out, List.drop_of_length_le (by omega), foldL]
   have HE := Aside0.mk (foldN_eq max x)
   have hnn : n ≤ 4294967296 := by omega
   have he2 : foldL max 0 x.f3 = n := he.symm
   have HE2 := Aside0.mk he2
   clear he he2 HV hn
   go_wp2_with fail
   go_ret
   exact ⟨by rw [HE.out, HE2.out]; simp, HW.out⟩
theorem fold62_all : ∀ (n : Nat), n ≤ 4294967296 → ∀ (x : S25), itemsN x ≤ n → FoldAt 79 max x
 | 0, _, x, h => absurd (itemsN_pos x) (by omega)
 | n + 1, hn, x, h => fold62_of x (by omega) fun a ha => fold62_all n (by omega) a (by have := itemsL_mem ha; rw [itemsN_eq] at h; omega)
theorem fold63_of (x : S25) (hs : itemsN x ≤ 4294967296) (ih : ∀ a ∈ x.f3, FoldAt 80 (· + ·) a) : FoldAt 80 (· + ·) x := by
 intro A c w ha hc
 have HA := Aside0.mk ha
 have IH := Aside0.mk ih
 have hs1 : itemsL x.f3 + 1 ≤ 4294967296 := by rw [itemsN_eq] at hs; exact hs
 have hm : x.f3.length ≤ 4294967296 := Nat.le_trans (itemsL_length _) (by omega)
 clear ha ih hs
 go_enter Tryz.func78, Tryz.ntmps78
 go_wp2_with fail
 go_loopg [5, 11] x.f3.length (fun gk v5 v11 wr => ∃ (i : Int) (n : Nat), v5 = .int .i64 (n : Int) ∧ v11 = .int .i64 i ∧ Aside0 (0 ≤ i ∧ i ≤ x.f3.length ∧ gk = x.f3.length - i.toNat ∧ foldL (· + ·) n (x.f3.drop i.toNat) = foldL (· + ·) 0 x.f3 ∧ n + itemsL (x.f3.drop i.toNat) ≤ itemsL x.f3) ∧ Aside0 (Below w.heap.size w wr))
 case atStart => exact ⟨0, 0, rfl, rfl, ⟨by omega, by omega, by simp, by simp, by simp⟩, ⟨(Below.refl _ _).alloc (Nat.le_refl _) _⟩⟩
 case round =>
  obtain ⟨i, n, rfl, rfl, HI, HW⟩ := hrel
  obtain ⟨hi0, hi1, hgk, hv, hn⟩ := HI.out
  have HG := Aside0.mk hgk
  have HV := Aside0.mk hv
  clear HI hgk hv
  by_cases hlt : i < x.f3.length
  ·obtain ⟨ad1, A1, c1, e1, hx0, hx1, hx2, hx3, hl1, hC1⟩ := at_T25 (Kd.C_below HA.out HW.out) i hi0 hlt
   cases e1
   have HC1 := Aside0.mk hC1
   have HX := Aside0.mk (IH.out (rd_T25 x.f3 i) (rd_mem hi0 hlt))
   have hd := drop_rd hi0 hlt
   have hq : n + itemsN (rd_T25 x.f3 i) + itemsL (x.f3.drop (i + 1).toNat) ≤ itemsL x.f3 := by rw [hd, itemsL] at hn; omega
   have hv2 : foldL (· + ·) (n + foldN (· + ·) (rd_T25 x.f3 i)) (x.f3.drop (i + 1).toNat) = foldL (· + ·) 0 x.f3 := by rw [← HV.out, hd, foldL]
   have HV2 := Aside0.mk hv2
   have hle := foldN_le (f := (· + ·)) step_add.le (rd_T25 x.f3 i)
   have HQ := Aside0.mk hq
   have HLE := Aside0.mk hle
   clear hC1 hd hq hv2 hn hle
   go_wp2_with fail
   refine (HX.out A1 c1 _ (Kd.C_below HC1.out ((Below.refl _ _).alloc (Nat.le_refl _) _)) hl1).mono ?_
   rintro e w2 ⟨rfl, hb⟩
   have HW2 : Aside0 (Below w.heap.size w w2) := ⟨below_step (below_alloc HW.out _) hb⟩
   clear hb
   go_wp2_with fail
   refine (step_add.call n (foldN (· + ·) (rd_T25 x.f3 i)) w2 (by have := HQ.out; have := HLE.out; omega)).mono ?_
   rintro e w3 ⟨rfl, rfl⟩
   go_wp2_with fail
   go_roundg (x.f3.length - (i + 1).toNat)
   case measure => rw [HG.out]; omega
   case rel => exact ⟨i + 1, (n + foldN (· + ·) (rd_T25 x.f3 i)), rfl, by go_num, ⟨by omega, by omega, rfl, HV2.out, by have := HQ.out; have := HLE.out; have := step_add.le n (foldN (· + ·) (rd_T25 x.f3 i)); omega⟩, HW2⟩
  ·have he : n = foldL (· + ·) 0 x.f3 := by rw [← HV.out, List.drop_of_length_le (by omega), foldL]
   have HE := Aside0.mk (foldN_eq (· + ·) x)
   have hnn : n ≤ 4294967296 := by omega
   have he2 : foldL (· + ·) 0 x.f3 = n := he.symm
   have HE2 := Aside0.mk he2
   clear he he2 HV hn
   go_wp2_with fail
   go_ret
   exact ⟨by rw [HE.out, HE2.out]; simp, HW.out⟩
theorem fold63_all : ∀ (n : Nat), n ≤ 4294967296 → ∀ (x : S25), itemsN x ≤ n → FoldAt 80 (· + ·) x
 | 0, _, x, h => absurd (itemsN_pos x) (by omega)
 | n + 1, hn, x, h => fold63_of x (by omega) fun a ha => fold63_all n (by omega) a (by have := itemsL_mem ha; rw [itemsN_eq] at h; omega)
theorem depth32_any (x : S25) (hs : itemsN x ≤ 4294967296) (A : Option Addr) (c : Nat) (w : World) (ha : k25.C w A x.f3.length x.f3) (hc : x.f3.length ≤ c) :
  Calls Tryz.prog 66 #[.agg #[.int .u8 x.f0, .int .u64 x.f1, .string x.f2, .slice A x.f3.length c]] w fun e w' => e = .returned (.int .i64 (depthN x : Int)) ∧ Below w.heap.size w w' := by
 have HA := Aside0.mk ha
 have HS := Aside0.mk hs
 clear ha hs
 go_enter Tryz.func66, Tryz.ntmps66
 go_wp2_with fail
 refine (fold62_all _ (Nat.le_refl _) x HS.out A c _ (Kd.C_below HA.out ((Below.refl _ _).alloc (Nat.le_refl _) _)) hc).mono ?_
 rintro e w2 ⟨rfl, hb⟩
 have HW2 : Aside0 (Below w.heap.size w w2) := ⟨below_step (below_alloc (Below.refl _ _) _) hb⟩
 clear hb
 rw [foldN_max x]
 go_wp2_with fail
 go_ret
 exact ⟨rfl, HW2.out⟩
theorem items34_any (x : S25) (hs : itemsN x ≤ 4294967296) (A : Option Addr) (c : Nat) (w : World) (ha : k25.C w A x.f3.length x.f3) (hc : x.f3.length ≤ c) :
  Calls Tryz.prog 67 #[.agg #[.int .u8 x.f0, .int .u64 x.f1, .string x.f2, .slice A x.f3.length c]] w fun e w' => e = .returned (.int .i64 (itemsN x : Int)) ∧ Below w.heap.size w w' := by
 have HA := Aside0.mk ha
 have HS := Aside0.mk hs
 clear ha hs
 go_enter Tryz.func67, Tryz.ntmps67
 go_wp2_with fail
 refine (fold63_all _ (Nat.le_refl _) x HS.out A c _ (Kd.C_below HA.out ((Below.refl _ _).alloc (Nat.le_refl _) _)) hc).mono ?_
 rintro e w2 ⟨rfl, hb⟩
 have HW2 : Aside0 (Below w.heap.size w w2) := ⟨below_step (below_alloc (Below.refl _ _) _) hb⟩
 clear hb
 rw [foldN_add x]
 go_wp2_with fail
 go_ret
 exact ⟨rfl, HW2.out⟩
end Go.Proofs.YtdilbnggedidnaaGreat.PVal
namespace Go.Proofs.YtdilbnggedidnaaGreat.PVal
open Go.RowKit Go.Proofs.YtdilbnggedidnaaGreatW.PrintWords Go.Proofs.YtdilbnggedidnaaGreatW.PrintLast
set_option linter.unusedVariables false
set_option linter.unusedSimpArgs false
def signB (n : Int) (m : Int) : Bool := decide (-m ≤ wrap64 n ∧ wrap64 n < m)
def numB (k n : Int) : Bool :=
 if k = 2 then decide (n ≤ 1) else if k = 3 then decide (n < 256) else if k = 4 then decide (n < 65536) else if k = 5 then decide (n < 4294967296) else if k = 11 then decide (n < 4294967296)
 else if k = 7 then signB n 128 else if k = 8 then signB n 32768 else if k = 9 then signB n 2147483648 else if k = 13 then isChar n
 else if k = 6 then true else if k = 10 then true else if k = 14 then true else if k = 12 then true else (n == 0)
def asciiB (l : List Int) : Bool := l.all fun x => decide (x < 128)
def txtB (k : Int) (s : ByteArray) : Bool :=
 if k = 15 then (s.size : Int) == 16 else if k = 18 then (s.size : Int) == 16 else if k = 17 then (s.size : Int) == 8 else if k = 16 then (s.size : Int) == 4 else if k = 19 then true
 else if k = 20 then textR (bytesOf s) else if k = 21 then asciiB (bytesOf s) else s.toList.isEmpty
theorem bytesR_of (s : ByteArray) : bytesR (bytesOf s) := by
 intro x hx
 unfold bytesOf at hx
 obtain ⟨b, _, rfl⟩ := List.mem_map.1 hx
 have := b.toNat_lt
 omega
def u64R (n : Int) : Prop := 0 ≤ n ∧ n < 18446744073709551616
theorem signed_f {n : Int} (hn : u64R n) (b : Int) (hb : b = 8 ∨ b = 16 ∨ b = 32) : value_signed.f n b = some (signB n (if b = 8 then 128 else if b = 16 then 32768 else 2147483648)) := by
 unfold u64R at hn
 have hw : ∀ z : Int, IntKind.i64.wrap z = (z + 9223372036854775808) % 18446744073709551616 - 9223372036854775808 := fun z => by simp [IntKind.wrap, IntKind.bits, IntKind.signed]; omega
 have hbits : IntKind.i64.bits = 64 := rfl
 obtain ⟨x, hx⟩ : ∃ x, wrap64 n = x := ⟨_, rfl⟩
 have hxr : -9223372036854775808 ≤ x ∧ x ≤ 9223372036854775807 := by rw [← hx]; unfold wrap64; omega
 unfold value_signed.f signB shr shl
 rw [hx, hbits]
 rcases hb with rfl | rfl | rfl
 ·have h1 : wrap64 (64 - 8) = 56 := by unfold wrap64; omega
  rw [h1, if_pos (by decide), hw, if_pos rfl, show min (56 : Int).toNat 64 = 56 from rfl, show (2 : Int) ^ 56 = 72057594037927936 from by decide]
  congr 1
  rw [Bool.eq_iff_iff]; simp only [beq_iff_eq, decide_eq_true_eq]; omega
 ·have h1 : wrap64 (64 - 16) = 48 := by unfold wrap64; omega
  rw [h1, if_pos (by decide), hw, if_neg (by decide), if_pos rfl, show min (48 : Int).toNat 64 = 48 from rfl, show (2 : Int) ^ 48 = 281474976710656 from by decide]
  congr 1
  rw [Bool.eq_iff_iff]; simp only [beq_iff_eq, decide_eq_true_eq]; omega
 ·have h1 : wrap64 (64 - 32) = 32 := by unfold wrap64; omega
  rw [h1, if_pos (by decide), hw, if_neg (by decide), if_neg (by decide), show min (32 : Int).toNat 64 = 32 from rfl, show (2 : Int) ^ 32 = 4294967296 from by decide]
  congr 1
  rw [Bool.eq_iff_iff]; simp only [beq_iff_eq, decide_eq_true_eq]; omega
theorem uchar_f {n : Int} (hn : u64R n) : utf_Char.f n = some (isChar n) := by
 unfold u64R at hn
 unfold utf_Char.f isChar
 by_cases h1 : n ≤ 1114111
 ·rw [if_pos h1]
  by_cases h2 : n < 55296
  ·rw [if_pos h2]; congr 1; symm; rw [decide_eq_true_eq]; omega
  ·rw [if_neg h2]; congr 1; exact decide_eq_decide.mpr (by omega)
 ·rw [if_neg h1]; congr 1; symm; rw [decide_eq_false_iff_not]; omega
theorem number_f {k n : Int} (hn : u64R n) (s : ByteArray) (l : List S25) : value_number.f 1 k n s l = some (numB k n) := by
 have hn' := hn
 unfold u64R at hn'
 have dv : ∀ m : Int, 0 < m → ((n / m) == 0) = decide (n < m) := fun m hm => by
  rw [Bool.eq_iff_iff]; simp only [beq_iff_eq, decide_eq_true_eq]
  constructor
  ·intro h
   have := Int.emod_add_mul_ediv n m
   rw [h] at this
   have := Int.emod_lt_of_pos n hm
   omega
  ·intro h; exact Int.ediv_eq_zero_of_lt hn'.1 h
 unfold value_number.f numB
 by_cases h2 : k = 2
 ·rw [if_pos h2, if_pos h2]
 rw [if_neg h2, if_neg h2]
 by_cases h3 : k = 3
 ·rw [if_pos h3, if_pos h3, dv 256 (by decide)]
 rw [if_neg h3, if_neg h3]
 by_cases h4 : k = 4
 ·rw [if_pos h4, if_pos h4, dv 65536 (by decide)]
 rw [if_neg h4, if_neg h4]
 by_cases h5 : k = 5
 ·rw [if_pos h5, if_pos h5]; simp only [value_number.j0]; rw [if_pos (by simp [h5]), dv 4294967296 (by decide)]
 rw [if_neg h5, if_neg h5]
 simp only [value_number.j0]
 by_cases h11 : k = 11
 ·rw [if_pos (by simp [h11]), if_pos h11, dv 4294967296 (by decide)]
 rw [if_neg (by simpa using h11), if_neg h11]
 by_cases h7 : k = 7
 ·rw [if_pos h7, if_pos h7, signed_f hn 8 (by simp)]; rfl
 rw [if_neg h7, if_neg h7]
 by_cases h8 : k = 8
 ·rw [if_pos h8, if_pos h8, signed_f hn 16 (by simp)]; rfl
 rw [if_neg h8, if_neg h8]
 by_cases h9 : k = 9
 ·rw [if_pos h9, if_pos h9, signed_f hn 32 (by simp)]; rfl
 rw [if_neg h9, if_neg h9]
 by_cases h13 : k = 13
 ·rw [if_pos h13, if_pos h13, uchar_f hn]; rfl
 rw [if_neg h13, if_neg h13]
 split; · rfl
 split; · rfl
 split; · rfl
 split; · rfl
 rfl
theorem number88_any (x : S25) (hn : u64R x.f1) (A : Option Addr) (c : Nat) (w : World) (ha : k25.C w A x.f3.length x.f3) (hc : x.f3.length ≤ c) :
  Calls Tryz.prog 83 #[.agg #[.int .u8 x.f0, .int .u64 x.f1, .string x.f2, .slice A x.f3.length c]] w fun e w' => e = .returned (.bool (numB x.f0 x.f1)) ∧ Below w.heap.size w w' :=
 value_number.calls 1 _ _ _ A c _ _ w ha hc (number_f hn _ _)
theorem ascii_l : ∀ (l pre : List Int) (k : Nat), l.length + 1 ≤ k → (pre ++ l).length ≤ 4294967296 → utf_Ascii.l0 k (pre ++ l) ((pre ++ l).length : Int) (pre.length : Int) = some (asciiB l)
 | [], pre, k, hk, _ => by
  obtain ⟨k, rfl⟩ : ∃ m, k = m + 1 := ⟨k - 1, by omega⟩
  simp only [utf_Ascii.l0]
  rw [if_neg (by simp)]; rfl
 | x :: l, pre, k, hk, hp => by
  obtain ⟨k, rfl⟩ : ∃ m, k = m + 1 := ⟨k - 1, by omega⟩
  simp only [utf_Ascii.l0]
  rw [if_pos (by simp; omega), if_pos (by omega), if_pos (by simp; omega), rd_atI]
  by_cases hx : x ≥ 128
  ·rw [if_pos hx]; simp only [asciiB, List.all_cons]; rw [decide_eq_false (by omega)]; rfl
  ·rw [if_neg hx]
   simp only [List.length_append, List.length_cons] at hp hk
   have h5 : wrap64 ((pre.length : Int) + 1) = ((pre ++ [x]).length : Int) := by unfold wrap64; simp; omega
   have := ascii_l l (pre ++ [x]) k (by omega) (by simp; omega)
   rw [List.append_assoc, List.singleton_append] at this
   rw [h5, this]
   simp only [asciiB, List.all_cons]; rw [decide_eq_true (by omega)]; rfl
theorem rascii_l : ∀ (l pre : List Int) (k : Nat), l.length + 1 ≤ k → (pre ++ l).length ≤ 4294967296 → bellwetherref02_Ascii.l0 k (pre ++ l) (pre.length : Int) = some (asciiB l)
 | [], pre, k, hk, _ => by
  obtain ⟨k, rfl⟩ : ∃ m, k = m + 1 := ⟨k - 1, by omega⟩
  simp only [bellwetherref02_Ascii.l0]
  rw [if_neg (by simp)]; rfl
 | x :: l, pre, k, hk, hp => by
  obtain ⟨k, rfl⟩ : ∃ m, k = m + 1 := ⟨k - 1, by omega⟩
  simp only [bellwetherref02_Ascii.l0]
  rw [if_pos (by simp; omega), if_pos (by omega), rd_atI]
  by_cases hx : x > 127
  ·rw [if_pos hx]; simp only [asciiB, List.all_cons]; rw [decide_eq_false (by omega)]; rfl
  ·rw [if_neg hx]
   simp only [List.length_append, List.length_cons] at hp hk
   have h5 : wrap64 ((pre.length : Int) + 1) = ((pre ++ [x]).length : Int) := by unfold wrap64; simp; omega
   have := rascii_l l (pre ++ [x]) k (by omega) (by simp; omega)
   rw [List.append_assoc, List.singleton_append] at this
   rw [h5, this]
   simp only [asciiB, List.all_cons]; rw [decide_eq_true (by omega)]; rfl
theorem ascii86_any (l : List Int) (hs : l.length ≤ 4294967290) (A : Option Addr) (c : Nat) (w : World) (ha : Kd.C (Kd.int .u8) w A l.length l) (hc : l.length ≤ c) :
  Calls Tryz.prog 19 #[.slice A l.length c] w fun e w' => e = .returned (.bool (asciiB l)) ∧ Below w.heap.size w w' :=
 (utf_Ascii.calls (l.length + 1) A c l _ w ha hc (ascii_l l [] _ (Nat.le_refl _) (by simp; omega))).mono fun e w' ⟨he, hd⟩ => ⟨he, hd.below⟩
theorem rascii125_any (l : List Int) (hs : l.length ≤ 4294967290) (A : Option Addr) (c : Nat) (w : World) (ha : Kd.C (Kd.int .u8) w A l.length l) (hc : l.length ≤ c) :
  Calls Tryz.prog 23 #[.slice A l.length c] w fun e w' => e = .returned (.bool (asciiB l)) ∧ Below w.heap.size w w' :=
 (bellwetherref02_Ascii.calls (l.length + 1) A c l _ w ha hc (rascii_l l [] _ (Nat.le_refl _) (by simp; omega))).mono fun e w' ⟨he, hd⟩ => ⟨he, hd.below⟩
end Go.Proofs.YtdilbnggedidnaaGreat.PVal
namespace Go.Proofs.YtdilbnggedidnaaGreat.PVal
open Go.RowKit Go.Proofs.YtdilbnggedidnaaGreatW.PrintWords Go.Proofs.YtdilbnggedidnaaGreatW.PrintLast
set_option linter.unusedVariables false
set_option linter.unusedSimpArgs false
theorem conv_reads (W : World) (s : ByteArray) (hs : s.size ≤ 4294967290) : Kd.C (Kd.int .u8) (Lib.bytesWorld W 5 s) (some ⟨W.heap.size, 0, none⟩) (bytesOf s).length (bytesOf s) := by
 have := bytes_reads W 5 s (by omega)
 rw [bytesOf_length]
 exact Kd.C_of_reads (d := (0 : Int)) (h1 := fun _ => rfl) this
theorem conv_run (s : ByteArray) : ∀ W : World, (convert 9 45 (.string s)).run Tryz.prog W = .ok (.slice (some ⟨W.heap.size, 0, none⟩) (bytesOf s).length (grownCap W s.size 0 5)) (Lib.bytesWorld W 5 s) := by
 intro W; rw [bytesOf_length]; exact print_bytes (P := Tryz.prog) 9 45 5 Tryz.underlying9 Tryz.underlying45 Tryz.underlying5 s W
theorem within122_any (n : Int) (hn : u64R n) (b m : Int) (hb : b = 8 ∧ m = 128 ∨ b = 16 ∧ m = 32768 ∨ b = 32 ∧ m = 2147483648) (w : World) :
  Calls Tryz.prog 97 #[.int .u64 n, .int .i64 b] w fun e w' => e = .returned (.bool (signB n m)) ∧ Below w.heap.size w w' := by
 have HS : Aside0 (signB n m = decide (-m ≤ wrap64 n ∧ wrap64 n < m)) := ⟨rfl⟩
 rcases hb with ⟨rfl, rfl⟩ | ⟨rfl, rfl⟩ | ⟨rfl, rfl⟩
 ·by_cases h1 : -128 ≤ wrap64 n
  ·by_cases h2 : wrap64 n < 128
   ·go_enter Tryz.func97, Tryz.ntmps97
    go_wp2_with fail
    go_ret
    exact ⟨by rw [HS.out, decide_eq_true ⟨h1, h2⟩]; rfl, Below.refl _ _⟩
   ·go_enter Tryz.func97, Tryz.ntmps97
    go_wp2_with fail
    go_ret
    exact ⟨by rw [HS.out, decide_eq_false (fun h => absurd h.2 (by omega))]; rfl, Below.refl _ _⟩
  ·go_enter Tryz.func97, Tryz.ntmps97
   go_wp2_with fail
   go_ret
   exact ⟨by rw [HS.out, decide_eq_false (fun h => absurd h.1 (by omega))]; rfl, Below.refl _ _⟩
 ·by_cases h1 : -32768 ≤ wrap64 n
  ·by_cases h2 : wrap64 n < 32768
   ·go_enter Tryz.func97, Tryz.ntmps97
    go_wp2_with fail
    go_ret
    exact ⟨by rw [HS.out, decide_eq_true ⟨h1, h2⟩]; rfl, Below.refl _ _⟩
   ·go_enter Tryz.func97, Tryz.ntmps97
    go_wp2_with fail
    go_ret
    exact ⟨by rw [HS.out, decide_eq_false (fun h => absurd h.2 (by omega))]; rfl, Below.refl _ _⟩
  ·go_enter Tryz.func97, Tryz.ntmps97
   go_wp2_with fail
   go_ret
   exact ⟨by rw [HS.out, decide_eq_false (fun h => absurd h.1 (by omega))]; rfl, Below.refl _ _⟩
 ·by_cases h1 : -2147483648 ≤ wrap64 n
  ·by_cases h2 : wrap64 n < 2147483648
   ·go_enter Tryz.func97, Tryz.ntmps97
    go_wp2_with fail
    go_ret
    exact ⟨by rw [HS.out, decide_eq_true ⟨h1, h2⟩]; rfl, Below.refl _ _⟩
   ·go_enter Tryz.func97, Tryz.ntmps97
    go_wp2_with fail
    go_ret
    exact ⟨by rw [HS.out, decide_eq_false (fun h => absurd h.2 (by omega))]; rfl, Below.refl _ _⟩
  ·go_enter Tryz.func97, Tryz.ntmps97
   go_wp2_with fail
   go_ret
   exact ⟨by rw [HS.out, decide_eq_false (fun h => absurd h.1 (by omega))]; rfl, Below.refl _ _⟩
theorem text89_any (x : S25) (hs : x.f2.size ≤ 4294967290) (A : Option Addr) (c : Nat) (w : World) (ha : k25.C w A x.f3.length x.f3) (hc : x.f3.length ≤ c) :
  Calls Tryz.prog 84 #[.agg #[.int .u8 x.f0, .int .u64 x.f1, .string x.f2, .slice A x.f3.length c]] w fun e w' => e = .returned (.bool (txtB x.f0 x.f2)) ∧ Below w.heap.size w w' := by
 obtain ⟨k, n, s, l⟩ := x
 simp only at ha hc hs ⊢
 clear ha
 have kb := conv_run s
 by_cases k15 : k = 15
 ·subst k15
  go_enter Tryz.func84, Tryz.ntmps84
  go_wp2_with fail
  go_ret
  exact ⟨rfl, (Below.refl _ _).alloc (Nat.le_refl _) _⟩
 by_cases k18 : k = 18
 ·subst k18
  go_enter Tryz.func84, Tryz.ntmps84
  go_wp2_with fail
  go_ret
  exact ⟨rfl, (Below.refl _ _).alloc (Nat.le_refl _) _⟩
 by_cases k17 : k = 17
 ·subst k17
  go_enter Tryz.func84, Tryz.ntmps84
  go_wp2_with fail
  go_ret
  exact ⟨rfl, (Below.refl _ _).alloc (Nat.le_refl _) _⟩
 by_cases k16 : k = 16
 ·subst k16
  go_enter Tryz.func84, Tryz.ntmps84
  go_wp2_with fail
  go_ret
  exact ⟨rfl, (Below.refl _ _).alloc (Nat.le_refl _) _⟩
 by_cases k19 : k = 19
 ·subst k19
  go_enter Tryz.func84, Tryz.ntmps84
  go_wp2_with fail
  go_ret
  exact ⟨rfl, (Below.refl _ _).alloc (Nat.le_refl _) _⟩
 by_cases k20 : k = 20
 ·subst k20
  have hb := bytesOf_length s
  have HBB := Aside0.mk hb
  clear hb
  go_enter Tryz.func84, Tryz.ntmps84
  go_wp2_with fail
  refine (right118_any (bytesOf s) (bytesR_of s) (by rw [HBB.out]; omega) _ _ _ ?_ ?_).mono ?_
  ·have := conv_reads (w.alloc (.cells #[.int .u8 20, .int .u64 n, .string s, .slice A l.length c] 25)) s hs
   rw [World.size_alloc] at this
   exact this
  ·rw [HBB.out]; exact grownCap_ge _ _ _ _
  rintro e w2 ⟨rfl, hb⟩
  have HW : Aside0 (Below w.heap.size w w2) := ⟨below_step (bytes_below ((Below.refl _ _).alloc (Nat.le_refl _) _) (by simp) 5 s) hb⟩
  clear hb
  go_wp2_with fail
  go_ret
  exact ⟨rfl, HW.out⟩
 by_cases k21 : k = 21
 ·subst k21
  have hb := bytesOf_length s
  have HBB := Aside0.mk hb
  clear hb
  go_enter Tryz.func84, Tryz.ntmps84
  go_wp2_with fail
  refine (ascii86_any (bytesOf s) (by rw [HBB.out]; omega) _ _ _ ?_ ?_).mono ?_
  ·have := conv_reads (w.alloc (.cells #[.int .u8 21, .int .u64 n, .string s, .slice A l.length c] 25)) s hs
   rw [World.size_alloc] at this
   exact this
  ·rw [HBB.out]; exact grownCap_ge _ _ _ _
  rintro e w2 ⟨rfl, hb⟩
  have HW : Aside0 (Below w.heap.size w w2) := ⟨below_step (bytes_below ((Below.refl _ _).alloc (Nat.le_refl _) _) (by simp) 5 s) hb⟩
  clear hb
  go_wp2_with fail
  go_ret
  exact ⟨rfl, HW.out⟩
 have hd : Aside0 (txtB k s = s.toList.isEmpty) := ⟨by unfold txtB; rw [if_neg k15, if_neg k18, if_neg k17, if_neg k16, if_neg k19, if_neg k20, if_neg k21]⟩
 have b15 : (k == 15) = false := by simpa using k15
 have b18 : (k == 18) = false := by simpa using k18
 have b17 : (k == 17) = false := by simpa using k17
 have b16 : (k == 16) = false := by simpa using k16
 have b19 : (k == 19) = false := by simpa using k19
 have b20 : (k == 20) = false := by simpa using k20
 have b21 : (k == 21) = false := by simpa using k21
 clear k15 k18 k17 k16 k19 k20 k21
 go_enter Tryz.func84, Tryz.ntmps84
 go_wp2_with fail
 go_ret
 exact ⟨by rw [hd.out]; rfl, (Below.refl _ _).alloc (Nat.le_refl _) _⟩
def plainB (x : S25) : Bool := decide (x.f3.length = 0) && decide (1 ≤ x.f0 ∧ x.f0 ≤ 21) && numB x.f0 x.f1 && txtB x.f0 x.f2
theorem plainB_of {k n : Int} {s : ByteArray} (h : 1 ≤ k ∧ k ≤ 21) : plainB ⟨k, n, s, []⟩ = (numB k n && txtB k s) := by unfold plainB; rw [decide_eq_true h]; simp
theorem rchar123_any (n : Int) (hn : u64R n) (w : World) : Calls Tryz.prog 98 #[.int .u64 n] w fun e w' => e = .returned (.bool (isChar n)) ∧ Drawn0 w w' := by
 refine bellwetherref02_Char.calls n _ w ?_
 unfold u64R at hn
 unfold bellwetherref02_Char.f isChar
 by_cases h1 : n < 55296
 ·rw [if_pos h1]; congr 1; symm; rw [decide_eq_true_eq]; omega
 ·rw [if_neg h1]
  by_cases h2 : n > 57343
  ·rw [if_pos h2]; congr 1; exact decide_eq_decide.mpr (by omega)
  ·rw [if_neg h2]; congr 1; symm; rw [decide_eq_false_iff_not]; omega
theorem plain93_1 (n : Int) (s : ByteArray) (hn : u64R n) (hs : s.size ≤ 4294967290) (A : Option Addr) (c : Nat) (w : World) :
  Calls Tryz.prog 89 #[.agg #[.int .u8 1, .int .u64 n, .string s, .slice A 0 c]] w fun e w' => e = .returned (.bool (numB 1 n && txtB 1 s)) ∧ Below w.heap.size w w' := by
 have hn' := hn
 unfold u64R at hn'
 by_cases hp : n = 0
 ·have hb : (n == 0) = true := by simpa using hp
  have hN : numB 1 n = true := hb
  have HN := Aside0.mk hN
  clear hN
  cases hE : s.toList.isEmpty with
  | true =>
   have HE : Aside0 ((numB 1 n && txtB 1 s) = true) := ⟨by have : txtB 1 s = s.toList.isEmpty := rfl; rw [this, hE, HN.out]; rfl⟩
   go_enter Tryz.func89, Tryz.ntmps89
   go_wp2_with fail
   go_ret
   exact ⟨by rw [HE.out]; rfl, (Below.refl _ _).alloc (Nat.le_refl _) _⟩
  | false =>
   have HE : Aside0 ((numB 1 n && txtB 1 s) = false) := ⟨by have : txtB 1 s = s.toList.isEmpty := rfl; rw [this, hE, HN.out]; rfl⟩
   go_enter Tryz.func89, Tryz.ntmps89
   go_wp2_with fail
   go_ret
   exact ⟨by rw [HE.out]; rfl, (Below.refl _ _).alloc (Nat.le_refl _) _⟩
 ·have hb : (n == 0) = false := by simpa using hp
  have HE : Aside0 ((numB 1 n && txtB 1 s) = false) := ⟨by have hN : numB 1 n = false := hb; rw [hN]; rfl⟩
  go_enter Tryz.func89, Tryz.ntmps89
  go_wp2_with fail
  go_ret
  exact ⟨by rw [HE.out]; rfl, (Below.refl _ _).alloc (Nat.le_refl _) _⟩
theorem plain93_2 (n : Int) (s : ByteArray) (hn : u64R n) (hs : s.size ≤ 4294967290) (A : Option Addr) (c : Nat) (w : World) :
  Calls Tryz.prog 89 #[.agg #[.int .u8 2, .int .u64 n, .string s, .slice A 0 c]] w fun e w' => e = .returned (.bool (numB 2 n && txtB 2 s)) ∧ Below w.heap.size w w' := by
 have hn' := hn
 unfold u64R at hn'
 by_cases hp : n ≤ 1
 ·have hb : decide (n ≤ 1) = true := decide_eq_true hp
  have hN : numB 2 n = true := hb
  have HN := Aside0.mk hN
  clear hN
  cases hE : s.toList.isEmpty with
  | true =>
   have HE : Aside0 ((numB 2 n && txtB 2 s) = true) := ⟨by have : txtB 2 s = s.toList.isEmpty := rfl; rw [this, hE, HN.out]; rfl⟩
   go_enter Tryz.func89, Tryz.ntmps89
   go_wp2_with fail
   go_ret
   exact ⟨by rw [HE.out]; rfl, (Below.refl _ _).alloc (Nat.le_refl _) _⟩
  | false =>
   have HE : Aside0 ((numB 2 n && txtB 2 s) = false) := ⟨by have : txtB 2 s = s.toList.isEmpty := rfl; rw [this, hE, HN.out]; rfl⟩
   go_enter Tryz.func89, Tryz.ntmps89
   go_wp2_with fail
   go_ret
   exact ⟨by rw [HE.out]; rfl, (Below.refl _ _).alloc (Nat.le_refl _) _⟩
 ·have hb : decide (n ≤ 1) = false := decide_eq_false hp
  have HE : Aside0 ((numB 2 n && txtB 2 s) = false) := ⟨by have hN : numB 2 n = false := hb; rw [hN]; rfl⟩
  go_enter Tryz.func89, Tryz.ntmps89
  go_wp2_with fail
  go_ret
  exact ⟨by rw [HE.out]; rfl, (Below.refl _ _).alloc (Nat.le_refl _) _⟩
theorem plain93_3 (n : Int) (s : ByteArray) (hn : u64R n) (hs : s.size ≤ 4294967290) (A : Option Addr) (c : Nat) (w : World) :
  Calls Tryz.prog 89 #[.agg #[.int .u8 3, .int .u64 n, .string s, .slice A 0 c]] w fun e w' => e = .returned (.bool (numB 3 n && txtB 3 s)) ∧ Below w.heap.size w w' := by
 have hn' := hn
 unfold u64R at hn'
 by_cases hp : n < 256
 ·have hb : decide (n < 256) = true := decide_eq_true hp
  have hN : numB 3 n = true := hb
  have HN := Aside0.mk hN
  clear hN
  cases hE : s.toList.isEmpty with
  | true =>
   have HE : Aside0 ((numB 3 n && txtB 3 s) = true) := ⟨by have : txtB 3 s = s.toList.isEmpty := rfl; rw [this, hE, HN.out]; rfl⟩
   go_enter Tryz.func89, Tryz.ntmps89
   go_wp2_with fail
   go_ret
   exact ⟨by rw [HE.out]; rfl, (Below.refl _ _).alloc (Nat.le_refl _) _⟩
  | false =>
   have HE : Aside0 ((numB 3 n && txtB 3 s) = false) := ⟨by have : txtB 3 s = s.toList.isEmpty := rfl; rw [this, hE, HN.out]; rfl⟩
   go_enter Tryz.func89, Tryz.ntmps89
   go_wp2_with fail
   go_ret
   exact ⟨by rw [HE.out]; rfl, (Below.refl _ _).alloc (Nat.le_refl _) _⟩
 ·have hb : decide (n < 256) = false := decide_eq_false hp
  have HE : Aside0 ((numB 3 n && txtB 3 s) = false) := ⟨by have hN : numB 3 n = false := hb; rw [hN]; rfl⟩
  go_enter Tryz.func89, Tryz.ntmps89
  go_wp2_with fail
  go_ret
  exact ⟨by rw [HE.out]; rfl, (Below.refl _ _).alloc (Nat.le_refl _) _⟩
theorem plain93_4 (n : Int) (s : ByteArray) (hn : u64R n) (hs : s.size ≤ 4294967290) (A : Option Addr) (c : Nat) (w : World) :
  Calls Tryz.prog 89 #[.agg #[.int .u8 4, .int .u64 n, .string s, .slice A 0 c]] w fun e w' => e = .returned (.bool (numB 4 n && txtB 4 s)) ∧ Below w.heap.size w w' := by
 have hn' := hn
 unfold u64R at hn'
 by_cases hp : n < 65536
 ·have hb : decide (n < 65536) = true := decide_eq_true hp
  have hN : numB 4 n = true := hb
  have HN := Aside0.mk hN
  clear hN
  cases hE : s.toList.isEmpty with
  | true =>
   have HE : Aside0 ((numB 4 n && txtB 4 s) = true) := ⟨by have : txtB 4 s = s.toList.isEmpty := rfl; rw [this, hE, HN.out]; rfl⟩
   go_enter Tryz.func89, Tryz.ntmps89
   go_wp2_with fail
   go_ret
   exact ⟨by rw [HE.out]; rfl, (Below.refl _ _).alloc (Nat.le_refl _) _⟩
  | false =>
   have HE : Aside0 ((numB 4 n && txtB 4 s) = false) := ⟨by have : txtB 4 s = s.toList.isEmpty := rfl; rw [this, hE, HN.out]; rfl⟩
   go_enter Tryz.func89, Tryz.ntmps89
   go_wp2_with fail
   go_ret
   exact ⟨by rw [HE.out]; rfl, (Below.refl _ _).alloc (Nat.le_refl _) _⟩
 ·have hb : decide (n < 65536) = false := decide_eq_false hp
  have HE : Aside0 ((numB 4 n && txtB 4 s) = false) := ⟨by have hN : numB 4 n = false := hb; rw [hN]; rfl⟩
  go_enter Tryz.func89, Tryz.ntmps89
  go_wp2_with fail
  go_ret
  exact ⟨by rw [HE.out]; rfl, (Below.refl _ _).alloc (Nat.le_refl _) _⟩
theorem plain93_5 (n : Int) (s : ByteArray) (hn : u64R n) (hs : s.size ≤ 4294967290) (A : Option Addr) (c : Nat) (w : World) :
  Calls Tryz.prog 89 #[.agg #[.int .u8 5, .int .u64 n, .string s, .slice A 0 c]] w fun e w' => e = .returned (.bool (numB 5 n && txtB 5 s)) ∧ Below w.heap.size w w' := by
 have hn' := hn
 unfold u64R at hn'
 by_cases hp : n < 4294967296
 ·have hb : decide (n < 4294967296) = true := decide_eq_true hp
  have hN : numB 5 n = true := hb
  have HN := Aside0.mk hN
  clear hN
  cases hE : s.toList.isEmpty with
  | true =>
   have HE : Aside0 ((numB 5 n && txtB 5 s) = true) := ⟨by have : txtB 5 s = s.toList.isEmpty := rfl; rw [this, hE, HN.out]; rfl⟩
   go_enter Tryz.func89, Tryz.ntmps89
   go_wp2_with fail
   go_ret
   exact ⟨by rw [HE.out]; rfl, (Below.refl _ _).alloc (Nat.le_refl _) _⟩
  | false =>
   have HE : Aside0 ((numB 5 n && txtB 5 s) = false) := ⟨by have : txtB 5 s = s.toList.isEmpty := rfl; rw [this, hE, HN.out]; rfl⟩
   go_enter Tryz.func89, Tryz.ntmps89
   go_wp2_with fail
   go_ret
   exact ⟨by rw [HE.out]; rfl, (Below.refl _ _).alloc (Nat.le_refl _) _⟩
 ·have hb : decide (n < 4294967296) = false := decide_eq_false hp
  have HE : Aside0 ((numB 5 n && txtB 5 s) = false) := ⟨by have hN : numB 5 n = false := hb; rw [hN]; rfl⟩
  go_enter Tryz.func89, Tryz.ntmps89
  go_wp2_with fail
  go_ret
  exact ⟨by rw [HE.out]; rfl, (Below.refl _ _).alloc (Nat.le_refl _) _⟩
theorem plain93_11 (n : Int) (s : ByteArray) (hn : u64R n) (hs : s.size ≤ 4294967290) (A : Option Addr) (c : Nat) (w : World) :
  Calls Tryz.prog 89 #[.agg #[.int .u8 11, .int .u64 n, .string s, .slice A 0 c]] w fun e w' => e = .returned (.bool (numB 11 n && txtB 11 s)) ∧ Below w.heap.size w w' := by
 have hn' := hn
 unfold u64R at hn'
 by_cases hp : n < 4294967296
 ·have hb : decide (n < 4294967296) = true := decide_eq_true hp
  have hN : numB 11 n = true := hb
  have HN := Aside0.mk hN
  clear hN
  cases hE : s.toList.isEmpty with
  | true =>
   have HE : Aside0 ((numB 11 n && txtB 11 s) = true) := ⟨by have : txtB 11 s = s.toList.isEmpty := rfl; rw [this, hE, HN.out]; rfl⟩
   go_enter Tryz.func89, Tryz.ntmps89
   go_wp2_with fail
   go_ret
   exact ⟨by rw [HE.out]; rfl, (Below.refl _ _).alloc (Nat.le_refl _) _⟩
  | false =>
   have HE : Aside0 ((numB 11 n && txtB 11 s) = false) := ⟨by have : txtB 11 s = s.toList.isEmpty := rfl; rw [this, hE, HN.out]; rfl⟩
   go_enter Tryz.func89, Tryz.ntmps89
   go_wp2_with fail
   go_ret
   exact ⟨by rw [HE.out]; rfl, (Below.refl _ _).alloc (Nat.le_refl _) _⟩
 ·have hb : decide (n < 4294967296) = false := decide_eq_false hp
  have HE : Aside0 ((numB 11 n && txtB 11 s) = false) := ⟨by have hN : numB 11 n = false := hb; rw [hN]; rfl⟩
  go_enter Tryz.func89, Tryz.ntmps89
  go_wp2_with fail
  go_ret
  exact ⟨by rw [HE.out]; rfl, (Below.refl _ _).alloc (Nat.le_refl _) _⟩
theorem plain93_6 (n : Int) (s : ByteArray) (hn : u64R n) (hs : s.size ≤ 4294967290) (A : Option Addr) (c : Nat) (w : World) :
  Calls Tryz.prog 89 #[.agg #[.int .u8 6, .int .u64 n, .string s, .slice A 0 c]] w fun e w' => e = .returned (.bool (numB 6 n && txtB 6 s)) ∧ Below w.heap.size w w' := by
 have hn' := hn
 unfold u64R at hn'
 cases hE : s.toList.isEmpty with
 | true =>
  have HE : Aside0 ((numB 6 n && txtB 6 s) = true) := ⟨by have : txtB 6 s = s.toList.isEmpty := rfl; rw [this, hE, (show numB 6 n = true from rfl)]; rfl⟩
  go_enter Tryz.func89, Tryz.ntmps89
  go_wp2_with fail
  go_ret
  exact ⟨by rw [HE.out]; rfl, (Below.refl _ _).alloc (Nat.le_refl _) _⟩
 | false =>
  have HE : Aside0 ((numB 6 n && txtB 6 s) = false) := ⟨by have : txtB 6 s = s.toList.isEmpty := rfl; rw [this, hE, (show numB 6 n = true from rfl)]; rfl⟩
  go_enter Tryz.func89, Tryz.ntmps89
  go_wp2_with fail
  go_ret
  exact ⟨by rw [HE.out]; rfl, (Below.refl _ _).alloc (Nat.le_refl _) _⟩
theorem plain93_10 (n : Int) (s : ByteArray) (hn : u64R n) (hs : s.size ≤ 4294967290) (A : Option Addr) (c : Nat) (w : World) :
  Calls Tryz.prog 89 #[.agg #[.int .u8 10, .int .u64 n, .string s, .slice A 0 c]] w fun e w' => e = .returned (.bool (numB 10 n && txtB 10 s)) ∧ Below w.heap.size w w' := by
 have hn' := hn
 unfold u64R at hn'
 cases hE : s.toList.isEmpty with
 | true =>
  have HE : Aside0 ((numB 10 n && txtB 10 s) = true) := ⟨by have : txtB 10 s = s.toList.isEmpty := rfl; rw [this, hE, (show numB 10 n = true from rfl)]; rfl⟩
  go_enter Tryz.func89, Tryz.ntmps89
  go_wp2_with fail
  go_ret
  exact ⟨by rw [HE.out]; rfl, (Below.refl _ _).alloc (Nat.le_refl _) _⟩
 | false =>
  have HE : Aside0 ((numB 10 n && txtB 10 s) = false) := ⟨by have : txtB 10 s = s.toList.isEmpty := rfl; rw [this, hE, (show numB 10 n = true from rfl)]; rfl⟩
  go_enter Tryz.func89, Tryz.ntmps89
  go_wp2_with fail
  go_ret
  exact ⟨by rw [HE.out]; rfl, (Below.refl _ _).alloc (Nat.le_refl _) _⟩
theorem plain93_12 (n : Int) (s : ByteArray) (hn : u64R n) (hs : s.size ≤ 4294967290) (A : Option Addr) (c : Nat) (w : World) :
  Calls Tryz.prog 89 #[.agg #[.int .u8 12, .int .u64 n, .string s, .slice A 0 c]] w fun e w' => e = .returned (.bool (numB 12 n && txtB 12 s)) ∧ Below w.heap.size w w' := by
 have hn' := hn
 unfold u64R at hn'
 cases hE : s.toList.isEmpty with
 | true =>
  have HE : Aside0 ((numB 12 n && txtB 12 s) = true) := ⟨by have : txtB 12 s = s.toList.isEmpty := rfl; rw [this, hE, (show numB 12 n = true from rfl)]; rfl⟩
  go_enter Tryz.func89, Tryz.ntmps89
  go_wp2_with fail
  go_ret
  exact ⟨by rw [HE.out]; rfl, (Below.refl _ _).alloc (Nat.le_refl _) _⟩
 | false =>
  have HE : Aside0 ((numB 12 n && txtB 12 s) = false) := ⟨by have : txtB 12 s = s.toList.isEmpty := rfl; rw [this, hE, (show numB 12 n = true from rfl)]; rfl⟩
  go_enter Tryz.func89, Tryz.ntmps89
  go_wp2_with fail
  go_ret
  exact ⟨by rw [HE.out]; rfl, (Below.refl _ _).alloc (Nat.le_refl _) _⟩
theorem plain93_14 (n : Int) (s : ByteArray) (hn : u64R n) (hs : s.size ≤ 4294967290) (A : Option Addr) (c : Nat) (w : World) :
  Calls Tryz.prog 89 #[.agg #[.int .u8 14, .int .u64 n, .string s, .slice A 0 c]] w fun e w' => e = .returned (.bool (numB 14 n && txtB 14 s)) ∧ Below w.heap.size w w' := by
 have hn' := hn
 unfold u64R at hn'
 cases hE : s.toList.isEmpty with
 | true =>
  have HE : Aside0 ((numB 14 n && txtB 14 s) = true) := ⟨by have : txtB 14 s = s.toList.isEmpty := rfl; rw [this, hE, (show numB 14 n = true from rfl)]; rfl⟩
  go_enter Tryz.func89, Tryz.ntmps89
  go_wp2_with fail
  go_ret
  exact ⟨by rw [HE.out]; rfl, (Below.refl _ _).alloc (Nat.le_refl _) _⟩
 | false =>
  have HE : Aside0 ((numB 14 n && txtB 14 s) = false) := ⟨by have : txtB 14 s = s.toList.isEmpty := rfl; rw [this, hE, (show numB 14 n = true from rfl)]; rfl⟩
  go_enter Tryz.func89, Tryz.ntmps89
  go_wp2_with fail
  go_ret
  exact ⟨by rw [HE.out]; rfl, (Below.refl _ _).alloc (Nat.le_refl _) _⟩
theorem plain93_7 (n : Int) (s : ByteArray) (hn : u64R n) (hs : s.size ≤ 4294967290) (A : Option Addr) (c : Nat) (w : World) :
  Calls Tryz.prog 89 #[.agg #[.int .u8 7, .int .u64 n, .string s, .slice A 0 c]] w fun e w' => e = .returned (.bool (numB 7 n && txtB 7 s)) ∧ Below w.heap.size w w' := by
 have hn' := hn
 unfold u64R at hn'
 have HB : Aside0 (Below w.heap.size w (w.alloc (.cells #[.int .u8 7, .int .u64 n, .string s, .slice A 0 c] 25))) := ⟨(Below.refl _ _).alloc (Nat.le_refl _) _⟩
 cases hq : signB n 128 with
 | true =>
  have hN : numB 7 n = true := hq
  have HN := Aside0.mk hN
  have HQ := Aside0.mk hq
  clear hN hq
  cases hE : s.toList.isEmpty with
  | true =>
   have HE : Aside0 ((numB 7 n && txtB 7 s) = true) := ⟨by have : txtB 7 s = s.toList.isEmpty := rfl; rw [this, hE, HN.out]; rfl⟩
   go_enter Tryz.func89, Tryz.ntmps89
   go_wp2_with fail
   refine (within122_any n hn 8 128 (by simp) _).mono ?_
   rintro e w2 ⟨rfl, hb⟩
   rw [HQ.out]
   have b1 : w2.heap[w.heap.size]? = some (.cells #[.int .u8 7, .int .u64 n, .string s, .slice A 0 c] 25 (0, 0)) := blk_below (blk_new _ _) hb
   have c2 : w2.cell? ⟨w.heap.size, 2, none⟩ = some (.string s) := (blk_cell b1 2).trans rfl
   have HW : Aside0 (Below w.heap.size w w2) := ⟨below_step HB.out hb⟩
   clear hb b1
   go_wp2_with fail
   go_ret
   exact ⟨by rw [HE.out]; rfl, HW.out⟩
  | false =>
   have HE : Aside0 ((numB 7 n && txtB 7 s) = false) := ⟨by have : txtB 7 s = s.toList.isEmpty := rfl; rw [this, hE, HN.out]; rfl⟩
   go_enter Tryz.func89, Tryz.ntmps89
   go_wp2_with fail
   refine (within122_any n hn 8 128 (by simp) _).mono ?_
   rintro e w2 ⟨rfl, hb⟩
   rw [HQ.out]
   have b1 : w2.heap[w.heap.size]? = some (.cells #[.int .u8 7, .int .u64 n, .string s, .slice A 0 c] 25 (0, 0)) := blk_below (blk_new _ _) hb
   have c2 : w2.cell? ⟨w.heap.size, 2, none⟩ = some (.string s) := (blk_cell b1 2).trans rfl
   have HW : Aside0 (Below w.heap.size w w2) := ⟨below_step HB.out hb⟩
   clear hb b1
   go_wp2_with fail
   go_ret
   exact ⟨by rw [HE.out]; rfl, HW.out⟩
 | false =>
  have hN : numB 7 n = false := hq
  have HN := Aside0.mk hN
  have HQ := Aside0.mk hq
  clear hN hq
  have HE : Aside0 ((numB 7 n && txtB 7 s) = false) := ⟨by rw [HN.out]; rfl⟩
  go_enter Tryz.func89, Tryz.ntmps89
  go_wp2_with fail
  refine (within122_any n hn 8 128 (by simp) _).mono ?_
  rintro e w2 ⟨rfl, hb⟩
  rw [HQ.out]
  have b1 : w2.heap[w.heap.size]? = some (.cells #[.int .u8 7, .int .u64 n, .string s, .slice A 0 c] 25 (0, 0)) := blk_below (blk_new _ _) hb
  have c2 : w2.cell? ⟨w.heap.size, 2, none⟩ = some (.string s) := (blk_cell b1 2).trans rfl
  have HW : Aside0 (Below w.heap.size w w2) := ⟨below_step HB.out hb⟩
  clear hb b1
  go_wp2_with fail
  go_ret
  exact ⟨by rw [HE.out]; rfl, HW.out⟩
theorem plain93_8 (n : Int) (s : ByteArray) (hn : u64R n) (hs : s.size ≤ 4294967290) (A : Option Addr) (c : Nat) (w : World) :
  Calls Tryz.prog 89 #[.agg #[.int .u8 8, .int .u64 n, .string s, .slice A 0 c]] w fun e w' => e = .returned (.bool (numB 8 n && txtB 8 s)) ∧ Below w.heap.size w w' := by
 have hn' := hn
 unfold u64R at hn'
 have HB : Aside0 (Below w.heap.size w (w.alloc (.cells #[.int .u8 8, .int .u64 n, .string s, .slice A 0 c] 25))) := ⟨(Below.refl _ _).alloc (Nat.le_refl _) _⟩
 cases hq : signB n 32768 with
 | true =>
  have hN : numB 8 n = true := hq
  have HN := Aside0.mk hN
  have HQ := Aside0.mk hq
  clear hN hq
  cases hE : s.toList.isEmpty with
  | true =>
   have HE : Aside0 ((numB 8 n && txtB 8 s) = true) := ⟨by have : txtB 8 s = s.toList.isEmpty := rfl; rw [this, hE, HN.out]; rfl⟩
   go_enter Tryz.func89, Tryz.ntmps89
   go_wp2_with fail
   refine (within122_any n hn 16 32768 (by simp) _).mono ?_
   rintro e w2 ⟨rfl, hb⟩
   rw [HQ.out]
   have b1 : w2.heap[w.heap.size]? = some (.cells #[.int .u8 8, .int .u64 n, .string s, .slice A 0 c] 25 (0, 0)) := blk_below (blk_new _ _) hb
   have c2 : w2.cell? ⟨w.heap.size, 2, none⟩ = some (.string s) := (blk_cell b1 2).trans rfl
   have HW : Aside0 (Below w.heap.size w w2) := ⟨below_step HB.out hb⟩
   clear hb b1
   go_wp2_with fail
   go_ret
   exact ⟨by rw [HE.out]; rfl, HW.out⟩
  | false =>
   have HE : Aside0 ((numB 8 n && txtB 8 s) = false) := ⟨by have : txtB 8 s = s.toList.isEmpty := rfl; rw [this, hE, HN.out]; rfl⟩
   go_enter Tryz.func89, Tryz.ntmps89
   go_wp2_with fail
   refine (within122_any n hn 16 32768 (by simp) _).mono ?_
   rintro e w2 ⟨rfl, hb⟩
   rw [HQ.out]
   have b1 : w2.heap[w.heap.size]? = some (.cells #[.int .u8 8, .int .u64 n, .string s, .slice A 0 c] 25 (0, 0)) := blk_below (blk_new _ _) hb
   have c2 : w2.cell? ⟨w.heap.size, 2, none⟩ = some (.string s) := (blk_cell b1 2).trans rfl
   have HW : Aside0 (Below w.heap.size w w2) := ⟨below_step HB.out hb⟩
   clear hb b1
   go_wp2_with fail
   go_ret
   exact ⟨by rw [HE.out]; rfl, HW.out⟩
 | false =>
  have hN : numB 8 n = false := hq
  have HN := Aside0.mk hN
  have HQ := Aside0.mk hq
  clear hN hq
  have HE : Aside0 ((numB 8 n && txtB 8 s) = false) := ⟨by rw [HN.out]; rfl⟩
  go_enter Tryz.func89, Tryz.ntmps89
  go_wp2_with fail
  refine (within122_any n hn 16 32768 (by simp) _).mono ?_
  rintro e w2 ⟨rfl, hb⟩
  rw [HQ.out]
  have b1 : w2.heap[w.heap.size]? = some (.cells #[.int .u8 8, .int .u64 n, .string s, .slice A 0 c] 25 (0, 0)) := blk_below (blk_new _ _) hb
  have c2 : w2.cell? ⟨w.heap.size, 2, none⟩ = some (.string s) := (blk_cell b1 2).trans rfl
  have HW : Aside0 (Below w.heap.size w w2) := ⟨below_step HB.out hb⟩
  clear hb b1
  go_wp2_with fail
  go_ret
  exact ⟨by rw [HE.out]; rfl, HW.out⟩
theorem plain93_9 (n : Int) (s : ByteArray) (hn : u64R n) (hs : s.size ≤ 4294967290) (A : Option Addr) (c : Nat) (w : World) :
  Calls Tryz.prog 89 #[.agg #[.int .u8 9, .int .u64 n, .string s, .slice A 0 c]] w fun e w' => e = .returned (.bool (numB 9 n && txtB 9 s)) ∧ Below w.heap.size w w' := by
 have hn' := hn
 unfold u64R at hn'
 have HB : Aside0 (Below w.heap.size w (w.alloc (.cells #[.int .u8 9, .int .u64 n, .string s, .slice A 0 c] 25))) := ⟨(Below.refl _ _).alloc (Nat.le_refl _) _⟩
 cases hq : signB n 2147483648 with
 | true =>
  have hN : numB 9 n = true := hq
  have HN := Aside0.mk hN
  have HQ := Aside0.mk hq
  clear hN hq
  cases hE : s.toList.isEmpty with
  | true =>
   have HE : Aside0 ((numB 9 n && txtB 9 s) = true) := ⟨by have : txtB 9 s = s.toList.isEmpty := rfl; rw [this, hE, HN.out]; rfl⟩
   go_enter Tryz.func89, Tryz.ntmps89
   go_wp2_with fail
   refine (within122_any n hn 32 2147483648 (by simp) _).mono ?_
   rintro e w2 ⟨rfl, hb⟩
   rw [HQ.out]
   have b1 : w2.heap[w.heap.size]? = some (.cells #[.int .u8 9, .int .u64 n, .string s, .slice A 0 c] 25 (0, 0)) := blk_below (blk_new _ _) hb
   have c2 : w2.cell? ⟨w.heap.size, 2, none⟩ = some (.string s) := (blk_cell b1 2).trans rfl
   have HW : Aside0 (Below w.heap.size w w2) := ⟨below_step HB.out hb⟩
   clear hb b1
   go_wp2_with fail
   go_ret
   exact ⟨by rw [HE.out]; rfl, HW.out⟩
  | false =>
   have HE : Aside0 ((numB 9 n && txtB 9 s) = false) := ⟨by have : txtB 9 s = s.toList.isEmpty := rfl; rw [this, hE, HN.out]; rfl⟩
   go_enter Tryz.func89, Tryz.ntmps89
   go_wp2_with fail
   refine (within122_any n hn 32 2147483648 (by simp) _).mono ?_
   rintro e w2 ⟨rfl, hb⟩
   rw [HQ.out]
   have b1 : w2.heap[w.heap.size]? = some (.cells #[.int .u8 9, .int .u64 n, .string s, .slice A 0 c] 25 (0, 0)) := blk_below (blk_new _ _) hb
   have c2 : w2.cell? ⟨w.heap.size, 2, none⟩ = some (.string s) := (blk_cell b1 2).trans rfl
   have HW : Aside0 (Below w.heap.size w w2) := ⟨below_step HB.out hb⟩
   clear hb b1
   go_wp2_with fail
   go_ret
   exact ⟨by rw [HE.out]; rfl, HW.out⟩
 | false =>
  have hN : numB 9 n = false := hq
  have HN := Aside0.mk hN
  have HQ := Aside0.mk hq
  clear hN hq
  have HE : Aside0 ((numB 9 n && txtB 9 s) = false) := ⟨by rw [HN.out]; rfl⟩
  go_enter Tryz.func89, Tryz.ntmps89
  go_wp2_with fail
  refine (within122_any n hn 32 2147483648 (by simp) _).mono ?_
  rintro e w2 ⟨rfl, hb⟩
  rw [HQ.out]
  have b1 : w2.heap[w.heap.size]? = some (.cells #[.int .u8 9, .int .u64 n, .string s, .slice A 0 c] 25 (0, 0)) := blk_below (blk_new _ _) hb
  have c2 : w2.cell? ⟨w.heap.size, 2, none⟩ = some (.string s) := (blk_cell b1 2).trans rfl
  have HW : Aside0 (Below w.heap.size w w2) := ⟨below_step HB.out hb⟩
  clear hb b1
  go_wp2_with fail
  go_ret
  exact ⟨by rw [HE.out]; rfl, HW.out⟩
theorem plain93_13 (n : Int) (s : ByteArray) (hn : u64R n) (hs : s.size ≤ 4294967290) (A : Option Addr) (c : Nat) (w : World) :
  Calls Tryz.prog 89 #[.agg #[.int .u8 13, .int .u64 n, .string s, .slice A 0 c]] w fun e w' => e = .returned (.bool (numB 13 n && txtB 13 s)) ∧ Below w.heap.size w w' := by
 have hn' := hn
 unfold u64R at hn'
 have HB : Aside0 (Below w.heap.size w (w.alloc (.cells #[.int .u8 13, .int .u64 n, .string s, .slice A 0 c] 25))) := ⟨(Below.refl _ _).alloc (Nat.le_refl _) _⟩
 cases hq : isChar n with
 | true =>
  have hN : numB 13 n = true := hq
  have HN := Aside0.mk hN
  have HQ := Aside0.mk hq
  clear hN hq
  cases hE : s.toList.isEmpty with
  | true =>
   have HE : Aside0 ((numB 13 n && txtB 13 s) = true) := ⟨by have : txtB 13 s = s.toList.isEmpty := rfl; rw [this, hE, HN.out]; rfl⟩
   go_enter Tryz.func89, Tryz.ntmps89
   go_wp2_with fail
   refine (rchar123_any n hn _).mono ?_
   rintro e w2 ⟨rfl, hb⟩
   rw [HQ.out]
   have b1 : w2.heap[w.heap.size]? = some (.cells #[.int .u8 13, .int .u64 n, .string s, .slice A 0 c] 25 (0, 0)) := blk_below (blk_new _ _) hb.below
   have c2 : w2.cell? ⟨w.heap.size, 2, none⟩ = some (.string s) := (blk_cell b1 2).trans rfl
   have HW : Aside0 (Below w.heap.size w w2) := ⟨below_step HB.out hb.below⟩
   clear hb b1
   go_wp2_with fail
   go_ret
   exact ⟨by rw [HE.out]; rfl, HW.out⟩
  | false =>
   have HE : Aside0 ((numB 13 n && txtB 13 s) = false) := ⟨by have : txtB 13 s = s.toList.isEmpty := rfl; rw [this, hE, HN.out]; rfl⟩
   go_enter Tryz.func89, Tryz.ntmps89
   go_wp2_with fail
   refine (rchar123_any n hn _).mono ?_
   rintro e w2 ⟨rfl, hb⟩
   rw [HQ.out]
   have b1 : w2.heap[w.heap.size]? = some (.cells #[.int .u8 13, .int .u64 n, .string s, .slice A 0 c] 25 (0, 0)) := blk_below (blk_new _ _) hb.below
   have c2 : w2.cell? ⟨w.heap.size, 2, none⟩ = some (.string s) := (blk_cell b1 2).trans rfl
   have HW : Aside0 (Below w.heap.size w w2) := ⟨below_step HB.out hb.below⟩
   clear hb b1
   go_wp2_with fail
   go_ret
   exact ⟨by rw [HE.out]; rfl, HW.out⟩
 | false =>
  have hN : numB 13 n = false := hq
  have HN := Aside0.mk hN
  have HQ := Aside0.mk hq
  clear hN hq
  have HE : Aside0 ((numB 13 n && txtB 13 s) = false) := ⟨by rw [HN.out]; rfl⟩
  go_enter Tryz.func89, Tryz.ntmps89
  go_wp2_with fail
  refine (rchar123_any n hn _).mono ?_
  rintro e w2 ⟨rfl, hb⟩
  rw [HQ.out]
  have b1 : w2.heap[w.heap.size]? = some (.cells #[.int .u8 13, .int .u64 n, .string s, .slice A 0 c] 25 (0, 0)) := blk_below (blk_new _ _) hb.below
  have c2 : w2.cell? ⟨w.heap.size, 2, none⟩ = some (.string s) := (blk_cell b1 2).trans rfl
  have HW : Aside0 (Below w.heap.size w w2) := ⟨below_step HB.out hb.below⟩
  clear hb b1
  go_wp2_with fail
  go_ret
  exact ⟨by rw [HE.out]; rfl, HW.out⟩
theorem plain93_15 (n : Int) (s : ByteArray) (hn : u64R n) (hs : s.size ≤ 4294967290) (A : Option Addr) (c : Nat) (w : World) :
  Calls Tryz.prog 89 #[.agg #[.int .u8 15, .int .u64 n, .string s, .slice A 0 c]] w fun e w' => e = .returned (.bool (numB 15 n && txtB 15 s)) ∧ Below w.heap.size w w' := by
 have hn' := hn
 unfold u64R at hn'
 by_cases hp : n = 0
 ·have hb : (n == 0) = true := by simpa using hp
  have hN : numB 15 n = true := hb
  have HN := Aside0.mk hN
  clear hN hp
  have HE : Aside0 ((numB 15 n && txtB 15 s) = ((s.size : Int) == 16)) := ⟨by rw [HN.out]; rfl⟩
  go_enter Tryz.func89, Tryz.ntmps89
  go_wp2_with fail
  go_ret
  exact ⟨by rw [HE.out]; rfl, (Below.refl _ _).alloc (Nat.le_refl _) _⟩
 ·have hb : (n == 0) = false := by simpa using hp
  have HE : Aside0 ((numB 15 n && txtB 15 s) = false) := ⟨by have hN : numB 15 n = false := hb; rw [hN]; rfl⟩
  go_enter Tryz.func89, Tryz.ntmps89
  go_wp2_with fail
  go_ret
  exact ⟨by rw [HE.out]; rfl, (Below.refl _ _).alloc (Nat.le_refl _) _⟩
theorem plain93_18 (n : Int) (s : ByteArray) (hn : u64R n) (hs : s.size ≤ 4294967290) (A : Option Addr) (c : Nat) (w : World) :
  Calls Tryz.prog 89 #[.agg #[.int .u8 18, .int .u64 n, .string s, .slice A 0 c]] w fun e w' => e = .returned (.bool (numB 18 n && txtB 18 s)) ∧ Below w.heap.size w w' := by
 have hn' := hn
 unfold u64R at hn'
 by_cases hp : n = 0
 ·have hb : (n == 0) = true := by simpa using hp
  have hN : numB 18 n = true := hb
  have HN := Aside0.mk hN
  clear hN hp
  have HE : Aside0 ((numB 18 n && txtB 18 s) = ((s.size : Int) == 16)) := ⟨by rw [HN.out]; rfl⟩
  go_enter Tryz.func89, Tryz.ntmps89
  go_wp2_with fail
  go_ret
  exact ⟨by rw [HE.out]; rfl, (Below.refl _ _).alloc (Nat.le_refl _) _⟩
 ·have hb : (n == 0) = false := by simpa using hp
  have HE : Aside0 ((numB 18 n && txtB 18 s) = false) := ⟨by have hN : numB 18 n = false := hb; rw [hN]; rfl⟩
  go_enter Tryz.func89, Tryz.ntmps89
  go_wp2_with fail
  go_ret
  exact ⟨by rw [HE.out]; rfl, (Below.refl _ _).alloc (Nat.le_refl _) _⟩
theorem plain93_16 (n : Int) (s : ByteArray) (hn : u64R n) (hs : s.size ≤ 4294967290) (A : Option Addr) (c : Nat) (w : World) :
  Calls Tryz.prog 89 #[.agg #[.int .u8 16, .int .u64 n, .string s, .slice A 0 c]] w fun e w' => e = .returned (.bool (numB 16 n && txtB 16 s)) ∧ Below w.heap.size w w' := by
 have hn' := hn
 unfold u64R at hn'
 by_cases hp : n = 0
 ·have hb : (n == 0) = true := by simpa using hp
  have hN : numB 16 n = true := hb
  have HN := Aside0.mk hN
  clear hN hp
  have HE : Aside0 ((numB 16 n && txtB 16 s) = ((s.size : Int) == 4)) := ⟨by rw [HN.out]; rfl⟩
  go_enter Tryz.func89, Tryz.ntmps89
  go_wp2_with fail
  go_ret
  exact ⟨by rw [HE.out]; rfl, (Below.refl _ _).alloc (Nat.le_refl _) _⟩
 ·have hb : (n == 0) = false := by simpa using hp
  have HE : Aside0 ((numB 16 n && txtB 16 s) = false) := ⟨by have hN : numB 16 n = false := hb; rw [hN]; rfl⟩
  go_enter Tryz.func89, Tryz.ntmps89
  go_wp2_with fail
  go_ret
  exact ⟨by rw [HE.out]; rfl, (Below.refl _ _).alloc (Nat.le_refl _) _⟩
theorem plain93_17 (n : Int) (s : ByteArray) (hn : u64R n) (hs : s.size ≤ 4294967290) (A : Option Addr) (c : Nat) (w : World) :
  Calls Tryz.prog 89 #[.agg #[.int .u8 17, .int .u64 n, .string s, .slice A 0 c]] w fun e w' => e = .returned (.bool (numB 17 n && txtB 17 s)) ∧ Below w.heap.size w w' := by
 have hn' := hn
 unfold u64R at hn'
 by_cases hp : n = 0
 ·have hb : (n == 0) = true := by simpa using hp
  have hN : numB 17 n = true := hb
  have HN := Aside0.mk hN
  clear hN hp
  have HE : Aside0 ((numB 17 n && txtB 17 s) = ((s.size : Int) == 8)) := ⟨by rw [HN.out]; rfl⟩
  go_enter Tryz.func89, Tryz.ntmps89
  go_wp2_with fail
  go_ret
  exact ⟨by rw [HE.out]; rfl, (Below.refl _ _).alloc (Nat.le_refl _) _⟩
 ·have hb : (n == 0) = false := by simpa using hp
  have HE : Aside0 ((numB 17 n && txtB 17 s) = false) := ⟨by have hN : numB 17 n = false := hb; rw [hN]; rfl⟩
  go_enter Tryz.func89, Tryz.ntmps89
  go_wp2_with fail
  go_ret
  exact ⟨by rw [HE.out]; rfl, (Below.refl _ _).alloc (Nat.le_refl _) _⟩
theorem plain93_19 (n : Int) (s : ByteArray) (hn : u64R n) (hs : s.size ≤ 4294967290) (A : Option Addr) (c : Nat) (w : World) :
  Calls Tryz.prog 89 #[.agg #[.int .u8 19, .int .u64 n, .string s, .slice A 0 c]] w fun e w' => e = .returned (.bool (numB 19 n && txtB 19 s)) ∧ Below w.heap.size w w' := by
 have hn' := hn
 unfold u64R at hn'
 by_cases hp : n = 0
 ·have hb : (n == 0) = true := by simpa using hp
  have hN : numB 19 n = true := hb
  have HN := Aside0.mk hN
  clear hN hp
  have HE : Aside0 ((numB 19 n && txtB 19 s) = true) := ⟨by rw [HN.out]; rfl⟩
  go_enter Tryz.func89, Tryz.ntmps89
  go_wp2_with fail
  go_ret
  exact ⟨by rw [HE.out]; rfl, (Below.refl _ _).alloc (Nat.le_refl _) _⟩
 ·have hb : (n == 0) = false := by simpa using hp
  have HE : Aside0 ((numB 19 n && txtB 19 s) = false) := ⟨by have hN : numB 19 n = false := hb; rw [hN]; rfl⟩
  go_enter Tryz.func89, Tryz.ntmps89
  go_wp2_with fail
  go_ret
  exact ⟨by rw [HE.out]; rfl, (Below.refl _ _).alloc (Nat.le_refl _) _⟩
theorem plain93_20 (n : Int) (s : ByteArray) (hn : u64R n) (hs : s.size ≤ 4294967290) (A : Option Addr) (c : Nat) (w : World) :
  Calls Tryz.prog 89 #[.agg #[.int .u8 20, .int .u64 n, .string s, .slice A 0 c]] w fun e w' => e = .returned (.bool (numB 20 n && txtB 20 s)) ∧ Below w.heap.size w w' := by
 have hn' := hn
 unfold u64R at hn'
 by_cases hp : n = 0
 ·have hb : (n == 0) = true := by simpa using hp
  have hN : numB 20 n = true := hb
  have HN := Aside0.mk hN
  clear hN hp
  have HE : Aside0 ((numB 20 n && txtB 20 s) = textR (bytesOf s)) := ⟨by rw [HN.out]; rfl⟩
  have kb := conv_run s
  have HBB := Aside0.mk (bytesOf_length s)
  go_enter Tryz.func89, Tryz.ntmps89
  go_wp2_with fail
  refine (rright124_any (bytesOf s) (bytesR_of s) (by rw [HBB.out]; omega) _ _ _ ?_ ?_).mono ?_
  ·have := conv_reads (w.alloc (.cells #[.int .u8 20, .int .u64 n, .string s, .slice A 0 c] 25)) s hs
   rw [World.size_alloc] at this
   exact this
  ·rw [HBB.out]; exact grownCap_ge _ _ _ _
  rintro e w2 ⟨rfl, hb⟩
  have HW : Aside0 (Below w.heap.size w w2) := ⟨below_step (bytes_below ((Below.refl _ _).alloc (Nat.le_refl _) _) (by simp) 5 s) hb⟩
  clear hb
  go_wp2_with fail
  go_ret
  exact ⟨by rw [HE.out]; rfl, HW.out⟩
 ·have hb : (n == 0) = false := by simpa using hp
  have HE : Aside0 ((numB 20 n && txtB 20 s) = false) := ⟨by have hN : numB 20 n = false := hb; rw [hN]; rfl⟩
  go_enter Tryz.func89, Tryz.ntmps89
  go_wp2_with fail
  go_ret
  exact ⟨by rw [HE.out]; rfl, (Below.refl _ _).alloc (Nat.le_refl _) _⟩
theorem plain93_21 (n : Int) (s : ByteArray) (hn : u64R n) (hs : s.size ≤ 4294967290) (A : Option Addr) (c : Nat) (w : World) :
  Calls Tryz.prog 89 #[.agg #[.int .u8 21, .int .u64 n, .string s, .slice A 0 c]] w fun e w' => e = .returned (.bool (numB 21 n && txtB 21 s)) ∧ Below w.heap.size w w' := by
 have hn' := hn
 unfold u64R at hn'
 by_cases hp : n = 0
 ·have hb : (n == 0) = true := by simpa using hp
  have hN : numB 21 n = true := hb
  have HN := Aside0.mk hN
  clear hN hp
  have HE : Aside0 ((numB 21 n && txtB 21 s) = asciiB (bytesOf s)) := ⟨by rw [HN.out]; rfl⟩
  have kb := conv_run s
  have HBB := Aside0.mk (bytesOf_length s)
  go_enter Tryz.func89, Tryz.ntmps89
  go_wp2_with fail
  refine (rascii125_any (bytesOf s) (by rw [HBB.out]; omega) _ _ _ ?_ ?_).mono ?_
  ·have := conv_reads (w.alloc (.cells #[.int .u8 21, .int .u64 n, .string s, .slice A 0 c] 25)) s hs
   rw [World.size_alloc] at this
   exact this
  ·rw [HBB.out]; exact grownCap_ge _ _ _ _
  rintro e w2 ⟨rfl, hb⟩
  have HW : Aside0 (Below w.heap.size w w2) := ⟨below_step (bytes_below ((Below.refl _ _).alloc (Nat.le_refl _) _) (by simp) 5 s) hb⟩
  clear hb
  go_wp2_with fail
  go_ret
  exact ⟨by rw [HE.out]; rfl, HW.out⟩
 ·have hb : (n == 0) = false := by simpa using hp
  have HE : Aside0 ((numB 21 n && txtB 21 s) = false) := ⟨by have hN : numB 21 n = false := hb; rw [hN]; rfl⟩
  go_enter Tryz.func89, Tryz.ntmps89
  go_wp2_with fail
  go_ret
  exact ⟨by rw [HE.out]; rfl, (Below.refl _ _).alloc (Nat.le_refl _) _⟩
theorem plain93_any (x : S25) (hn : u64R x.f1) (hs : x.f2.size ≤ 4294967290) (A : Option Addr) (c : Nat) (w : World) (ha : k25.C w A x.f3.length x.f3) (hc : x.f3.length ≤ c) :
  Calls Tryz.prog 89 #[.agg #[.int .u8 x.f0, .int .u64 x.f1, .string x.f2, .slice A x.f3.length c]] w fun e w' => e = .returned (.bool (plainB x)) ∧ Below w.heap.size w w' := by
 obtain ⟨k, n, s, l⟩ := x
 simp only at ha hc hs hn ⊢
 by_cases hl : 0 < l.length
 ·have hl1 : decide ((0 : Int) < (l.length : Int)) = true := decide_eq_true (by omega)
  have hl2 : decide (0 < l.length) = true := decide_eq_true hl
  have HE : Aside0 (plainB ⟨k, n, s, l⟩ = false) := ⟨by unfold plainB; rw [decide_eq_false (by show ¬ l.length = 0; omega)]; rfl⟩
  clear ha
  go_enter Tryz.func89, Tryz.ntmps89
  go_wp2_with fail
  go_ret
  exact ⟨by rw [HE.out]; rfl, (Below.refl _ _).alloc (Nat.le_refl _) _⟩
 ·obtain rfl : l = [] := List.eq_nil_of_length_eq_zero (by omega)
  simp only [List.length_nil] at hc ⊢
  by_cases k1 : k = 1
  ·subst k1; rw [plainB_of ⟨by decide, by decide⟩]; exact plain93_1 n s hn hs A c w
  by_cases k2 : k = 2
  ·subst k2; rw [plainB_of ⟨by decide, by decide⟩]; exact plain93_2 n s hn hs A c w
  by_cases k3 : k = 3
  ·subst k3; rw [plainB_of ⟨by decide, by decide⟩]; exact plain93_3 n s hn hs A c w
  by_cases k4 : k = 4
  ·subst k4; rw [plainB_of ⟨by decide, by decide⟩]; exact plain93_4 n s hn hs A c w
  by_cases k5 : k = 5
  ·subst k5; rw [plainB_of ⟨by decide, by decide⟩]; exact plain93_5 n s hn hs A c w
  by_cases k6 : k = 6
  ·subst k6; rw [plainB_of ⟨by decide, by decide⟩]; exact plain93_6 n s hn hs A c w
  by_cases k7 : k = 7
  ·subst k7; rw [plainB_of ⟨by decide, by decide⟩]; exact plain93_7 n s hn hs A c w
  by_cases k8 : k = 8
  ·subst k8; rw [plainB_of ⟨by decide, by decide⟩]; exact plain93_8 n s hn hs A c w
  by_cases k9 : k = 9
  ·subst k9; rw [plainB_of ⟨by decide, by decide⟩]; exact plain93_9 n s hn hs A c w
  by_cases k10 : k = 10
  ·subst k10; rw [plainB_of ⟨by decide, by decide⟩]; exact plain93_10 n s hn hs A c w
  by_cases k11 : k = 11
  ·subst k11; rw [plainB_of ⟨by decide, by decide⟩]; exact plain93_11 n s hn hs A c w
  by_cases k12 : k = 12
  ·subst k12; rw [plainB_of ⟨by decide, by decide⟩]; exact plain93_12 n s hn hs A c w
  by_cases k13 : k = 13
  ·subst k13; rw [plainB_of ⟨by decide, by decide⟩]; exact plain93_13 n s hn hs A c w
  by_cases k14 : k = 14
  ·subst k14; rw [plainB_of ⟨by decide, by decide⟩]; exact plain93_14 n s hn hs A c w
  by_cases k15 : k = 15
  ·subst k15; rw [plainB_of ⟨by decide, by decide⟩]; exact plain93_15 n s hn hs A c w
  by_cases k16 : k = 16
  ·subst k16; rw [plainB_of ⟨by decide, by decide⟩]; exact plain93_16 n s hn hs A c w
  by_cases k17 : k = 17
  ·subst k17; rw [plainB_of ⟨by decide, by decide⟩]; exact plain93_17 n s hn hs A c w
  by_cases k18 : k = 18
  ·subst k18; rw [plainB_of ⟨by decide, by decide⟩]; exact plain93_18 n s hn hs A c w
  by_cases k19 : k = 19
  ·subst k19; rw [plainB_of ⟨by decide, by decide⟩]; exact plain93_19 n s hn hs A c w
  by_cases k20 : k = 20
  ·subst k20; rw [plainB_of ⟨by decide, by decide⟩]; exact plain93_20 n s hn hs A c w
  by_cases k21 : k = 21
  ·subst k21; rw [plainB_of ⟨by decide, by decide⟩]; exact plain93_21 n s hn hs A c w
  have HE : Aside0 (plainB ⟨k, n, s, []⟩ = false) := ⟨by have hq : decide (1 ≤ k ∧ k ≤ 21) = false := decide_eq_false (by omega); simp only [plainB, hq]; simp⟩
  have b1 : (k == 1) = false := by simpa using k1
  have b2 : (k == 2) = false := by simpa using k2
  have b3 : (k == 3) = false := by simpa using k3
  have b4 : (k == 4) = false := by simpa using k4
  have b5 : (k == 5) = false := by simpa using k5
  have b6 : (k == 6) = false := by simpa using k6
  have b7 : (k == 7) = false := by simpa using k7
  have b8 : (k == 8) = false := by simpa using k8
  have b9 : (k == 9) = false := by simpa using k9
  have b10 : (k == 10) = false := by simpa using k10
  have b11 : (k == 11) = false := by simpa using k11
  have b12 : (k == 12) = false := by simpa using k12
  have b13 : (k == 13) = false := by simpa using k13
  have b14 : (k == 14) = false := by simpa using k14
  have b15 : (k == 15) = false := by simpa using k15
  have b16 : (k == 16) = false := by simpa using k16
  have b17 : (k == 17) = false := by simpa using k17
  have b18 : (k == 18) = false := by simpa using k18
  have b19 : (k == 19) = false := by simpa using k19
  have b20 : (k == 20) = false := by simpa using k20
  have b21 : (k == 21) = false := by simpa using k21
  clear ha k1 k2 k3 k4 k5 k6 k7 k8 k9 k10 k11 k12 k13 k14 k15 k16 k17 k18 k19 k20 k21
  go_enter Tryz.func89, Tryz.ntmps89
  go_wp2_with fail
  go_ret
  exact ⟨by rw [HE.out]; rfl, (Below.refl _ _).alloc (Nat.le_refl _) _⟩
end Go.Proofs.YtdilbnggedidnaaGreat.PVal
namespace Go.Proofs.YtdilbnggedidnaaGreat.PVal
open Go.RowKit Go.Proofs.YtdilbnggedidnaaGreatW.PrintWords Go.Proofs.YtdilbnggedidnaaGreatW.PrintLast
attribute [local go_sem] max2_int max_two
set_option linter.unusedVariables false
set_option linter.unusedSimpArgs false
mutual
def bellwetherref04_Items.l0 : Nat → Int → Int → Int → Int → ByteArray → List (S25) → Option (Int)
 | 0, _, _, _, _, _, _ => none
 | k + 1, x3, x4, x102000, x102001, x102002, x102003 => if x4 < (x102003.length : Int) then (if 0 ≤ x4 then ((bellwetherref04_Items.f k ((rd_T25 x102003 x4).f0) ((rd_T25 x102003 x4).f1) ((rd_T25 x102003 x4).f2) ((rd_T25 x102003 x4).f3)).bind fun t103 => (bellwetherref04_Items.l0 k (wrap64 (x3 + t103)) (wrap64 (x4 + 1)) x102000 x102001 x102002 x102003)) else (none)) else (some x3)
def bellwetherref04_Items.f : Nat → Int → Int → ByteArray → List (S25) → Option (Int)
 | 0, _, _, _, _ => none
 | k + 1, a0_0, a0_1, a0_2, l0_3 => bellwetherref04_Items.l0 k 1 0 a0_0 a0_1 a0_2 l0_3
end
theorem bellwetherref04_Items.calls (k : Nat) : ∀ (a0_0 : Int) (a0_1 : Int) (a0_2 : ByteArray) (A0_3 : Option Addr) (c0_3 : Nat) (l0_3 : List (S25)) (r : Int) (w : World) (hr0_3 : Kd.C k25 w A0_3 l0_3.length l0_3) (hc0_3 : l0_3.length ≤ c0_3) (h : bellwetherref04_Items.f k a0_0 a0_1 a0_2 l0_3 = some r),
  Calls Tryz.prog 15 #[.agg #[.int .u8 a0_0, .int .u64 a0_1, .string a0_2, .slice A0_3 l0_3.length c0_3]] w fun e w' => e = .returned (.int .i64 r) ∧ Below w.heap.size w w' := by
 induction k using Nat.strongRecOn with
 | _ k ih =>
 intro a0_0 a0_1 a0_2 A0_3 c0_3 l0_3 r w hr0_3 hc0_3 h
 cases k with
 | zero => exact absurd h (by simp [bellwetherref04_Items.f])
 | succ k =>
 simp only [bellwetherref04_Items.f] at h
 have hu25 := Tryz.underlying25
 have HR0_3 := Aside0.mk hr0_3
 have HC0_3 := Aside0.mk hc0_3
 clear hr0_3 hc0_3
 have HB := Aside0.mk (Below.refl w.heap.size w)
 have H : (bellwetherref04_Items.l0 k 1 0 a0_0 a0_1 a0_2 l0_3) = some r := h
 clear h
 have H' := Aside0.mk H
 clear H
 go_enter Tryz.func15, Tryz.ntmps15
 go_wp2_with (first | ((with_reducible refine gate_dst (N := 1) rfl ?_); refine box_event ?hg (N := 1) ?hd (cs := #[.int .u8 a0_0, .int .u64 a0_1, .string a0_2, .slice A0_3 l0_3.length c0_3]) (t := 25) ?hr ?_; (case hd => rfl); (case hg => rfl); (case hr => first | (go_simp; done) | (go_simp; rfl)); intro gb101 hg w2 hbox hb; have n0_ := Aside0.mk (below_step (by repeat (first | (with_reducible first | exact HB.out | apply below_alloc | apply pw_below_drewN | apply below_drew1) | exact HB.out)) hb); have n1_ := Aside0.mk (hbox); have n2_ := Aside0.mk ((by rw [hg]; exact (below_size (by repeat (first | (with_reducible first | exact HB.out | apply below_alloc | apply pw_below_drewN | apply below_drew1) | exact HB.out))) : w.heap.size ≤ gb101)); have n3_ := Aside0.mk ((by rw [hg]; exact (below_size (by repeat (first | (with_reducible first | exact HB.out | apply below_alloc | apply pw_below_drewN | apply below_drew1) | exact HB.out))) : w.heap.size ≤ gb101)); clear HB; have HB := n0_; have BK101 := n1_; have GW101 := n2_; have GE101 := n3_; clear n0_ n1_ n2_ n3_; clear hb hbox hg))
 go_loopg [3, 4] k (fun kq v3 v4 w' => ∃ (x3_1 : Int) (x4_1 : Int), v3 = .int .i64 x3_1 ∧ v4 = .int .i64 x4_1 ∧ Aside0 (bellwetherref04_Items.l0 kq x3_1 x4_1 a0_0 a0_1 a0_2 l0_3 = some r) ∧ Aside0 (kq ≤ k) ∧ Aside0 (w'.heap[gb101]? = some (.cells #[.int .u8 a0_0, .int .u64 a0_1, .string a0_2, (.slice A0_3 l0_3.length c0_3)] 25 (0, 0))) ∧ Aside0 (Below w.heap.size w w'))
 case atStart => exact ⟨(1), (0), (by first | rfl | (simp; done) | (simp [*]; done)), (by first | rfl | (simp; done) | (simp [*]; done)), H', ⟨Nat.le_refl _⟩, ⟨by (with_reducible repeat (first | refine blk_drewN ?_ _ | refine blk_drew ?_ | refine blk_alloc ?_ _)); exact BK101.out⟩, ⟨by repeat (first | (with_reducible first | exact HB.out | apply below_alloc | apply pw_below_drewN | apply below_drew1 | refine below_set ?_ GE101.out) | exact HB.out)⟩⟩
 case round =>
  clear H'
  try clear p2
  obtain ⟨x3_1, x4_1, rfl, rfl, HA, HK1, BK101, HB⟩ := hrel
  cases gk with
  | zero => exact absurd HA.out (by simp [bellwetherref04_Items.l0])
  | succ k1 =>
   have H := HA.out
   clear HA
   simp only [bellwetherref04_Items.l0] at H
   by_cases c3 : x4_1 < (l0_3.length : Int)
   ·rw [if_pos c3] at H
    have c3b0 : decide (x4_1 < (l0_3.length : Int)) = true := decide_eq_true c3
    clear c3
    by_cases c4 : 0 ≤ x4_1
    ·rw [if_pos c4] at H
     have c4b0 : decide (0 ≤ x4_1) = true := decide_eq_true c4
     clear c4
     replace H := Option.bind_eq_some_iff.mp H
     obtain ⟨t103, A50, H⟩ := H
     replace H : (bellwetherref04_Items.l0 k1 (wrap64 (x3_1 + t103)) (wrap64 (x4_1 + 1)) a0_0 a0_1 a0_2 l0_3) = some r := H
     have A5 := Aside0.mk A50
     clear A50
     have H' := Aside0.mk H
     clear H
     have hcz6_0 : wr.cell? ⟨gb101, 0, none⟩ = some (.int .u8 a0_0) := (blk_cell BK101.out 0).trans rfl
     have hcz6_1 : wr.cell? ⟨gb101, 1, none⟩ = some (.int .u64 a0_1) := (blk_cell BK101.out 1).trans rfl
     have hcz6_2 : wr.cell? ⟨gb101, 2, none⟩ = some (.string a0_2) := (blk_cell BK101.out 2).trans rfl
     have hcz6_3 : wr.cell? ⟨gb101, 3, none⟩ = some (.slice A0_3 l0_3.length c0_3) := (blk_cell BK101.out 3).trans rfl
     have hfz6_0 := blk_frozen BK101.out 0
     have hfz6_1 := blk_frozen BK101.out 1
     have hfz6_2 := blk_frozen BK101.out 2
     have hfz6_3 := blk_frozen BK101.out 3
     have p102 : 0 ≤ (x4_1 : Int) := of_decide_eq_true (by first | (with_reducible assumption) | assumption)
     have q102 : x4_1 < (l0_3.length : Int) := of_decide_eq_true (by first | (with_reducible assumption) | assumption)
     obtain ⟨ad102, A102_3, c102_3, e102, hx102_0, hx102_1, hx102_2, hx102_3, hl102_3, hi102_3⟩ := at_T25 HR0_3.out x4_1 p102 q102
     cases e102
     replace hx102_0 := (HB.out.cell (World.block_lt_of_cell? w _ hx102_0)).trans hx102_0
     replace hx102_1 := (HB.out.cell (World.block_lt_of_cell? w _ hx102_1)).trans hx102_1
     replace hx102_2 := (HB.out.cell (World.block_lt_of_cell? w _ hx102_2)).trans hx102_2
     replace hx102_3 := (HB.out.cell (World.block_lt_of_cell? w _ hx102_3)).trans hx102_3
     have HR102_3 := Aside0.mk hi102_3
     have HC102_3 := Aside0.mk hl102_3
     clear hi102_3 hl102_3
     replace p102 := eq_true p102
     replace q102 := eq_true q102
     go_wp2_with (first | ((with_reducible refine gate_callee (f := 15) rfl ?_); refine goesL_ (some 18) rfl rfl Tryz.func15 (by kernel_rfl) rfl #[.agg #[.int .u8 ((rd_T25 l0_3 x4_1).f0), .int .u64 ((rd_T25 l0_3 x4_1).f1), .string ((rd_T25 l0_3 x4_1).f2), .slice A102_3 ((rd_T25 l0_3 x4_1).f3).length c102_3]] rfl (by (try simp only [List.map_toArray, List.map_cons, List.map_nil]); first | done | rfl | (simp only [List.length_drop, List.length_take]; rfl)) ?_; (with_reducible refine (ih k1 (by have := HK1.out; omega) ((rd_T25 l0_3 x4_1).f0) ((rd_T25 l0_3 x4_1).f1) ((rd_T25 l0_3 x4_1).f2) _ _ ((rd_T25 l0_3 x4_1).f3) t103 _ ?side1 ?side2 A5.out).mono ?_); (case side1 => repeat (first | exact (Kd.C_below HR102_3.out HB.out) | (with_reducible refine Kd.C_alloc ?_ _) | (with_reducible refine Kd.C_drewN ?_ _) | (with_reducible refine Kd.C_drew ?_))); (case side2 => exact HC102_3.out); rintro e w7 ⟨rfl, hb⟩; refine ⟨_, rfl, ?_⟩; have n0_ := Aside0.mk (blk_below (g := gb101) (o := .cells #[.int .u8 a0_0, .int .u64 a0_1, .string a0_2, .slice (some ad102) l0_3.length c0_3] 25 (0, 0)) (by (with_reducible repeat (first | refine blk_drewN ?_ _ | refine blk_drew ?_ | refine blk_alloc ?_ _)); exact BK101.out) hb); have n1_ := Aside0.mk (below_step (by repeat (first | (with_reducible first | exact HB.out | apply below_alloc | apply pw_below_drewN | apply below_drew1 | refine below_set ?_ GE101.out) | exact HB.out)) hb); clear BK101; clear HB; have BK101 := n0_; have HB := n1_; clear n0_ n1_; (try clear hb); (try clear hb2); (try clear hk); (try clear hi)))
     go_roundg k1
     case measure => have := HK1.out; omega
     case rel => exact ⟨(wrap64 (x3_1 + t103)), (wrap64 (x4_1 + 1)), (by first | rfl | (simp; done) | (simp [*]; done)), (by first | rfl | (simp; done) | (simp [*]; done)), H', ⟨by have := HK1.out; omega⟩, ⟨by (with_reducible repeat (first | refine blk_drewN ?_ _ | refine blk_drew ?_ | refine blk_alloc ?_ _)); exact BK101.out⟩, ⟨by repeat (first | (with_reducible first | exact HB.out | apply below_alloc | apply pw_below_drewN | apply below_drew1 | refine below_set ?_ GE101.out) | exact HB.out)⟩⟩
    ·rw [if_neg c4] at H
     exact absurd H (by simp)
   ·rw [if_neg c3] at H
    have c3b0 : decide (x4_1 < (l0_3.length : Int)) = false := decide_eq_false c3
    clear c3
    obtain rfl := Option.some.inj H
    have hcz8_0 : wr.cell? ⟨gb101, 0, none⟩ = some (.int .u8 a0_0) := (blk_cell BK101.out 0).trans rfl
    have hcz8_1 : wr.cell? ⟨gb101, 1, none⟩ = some (.int .u64 a0_1) := (blk_cell BK101.out 1).trans rfl
    have hcz8_2 : wr.cell? ⟨gb101, 2, none⟩ = some (.string a0_2) := (blk_cell BK101.out 2).trans rfl
    have hcz8_3 : wr.cell? ⟨gb101, 3, none⟩ = some (.slice A0_3 l0_3.length c0_3) := (blk_cell BK101.out 3).trans rfl
    have hfz8_0 := blk_frozen BK101.out 0
    have hfz8_1 := blk_frozen BK101.out 1
    have hfz8_2 := blk_frozen BK101.out 2
    have hfz8_3 := blk_frozen BK101.out 3
    go_wp2
    go_ret
    exact ⟨by first | rfl | (simp [errW_none, errW_some] <;> rfl) | (simp [*, errW_none, errW_some] <;> rfl), by repeat (first | (with_reducible first | exact HB.out | apply below_alloc | apply pw_below_drewN | apply below_drew1 | refine below_set ?_ GE101.out) | exact HB.out)⟩
mutual
def bellwetherlaw04_texts.l0 : Nat → Int → Int → Int → Int → ByteArray → List (S25) → Option (Int)
 | 0, _, _, _, _, _, _ => none
 | k + 1, x3, x4, x105000, x105001, x105002, x105003 => if x4 < (x105003.length : Int) then (if 0 ≤ x4 then ((bellwetherlaw04_texts.f k ((rd_T25 x105003 x4).f0) ((rd_T25 x105003 x4).f1) ((rd_T25 x105003 x4).f2) ((rd_T25 x105003 x4).f3)).bind fun t106 => (bellwetherlaw04_texts.l0 k (wrap64 (x3 + t106)) (wrap64 (x4 + 1)) x105000 x105001 x105002 x105003)) else (none)) else (some x3)
def bellwetherlaw04_texts.f : Nat → Int → Int → ByteArray → List (S25) → Option (Int)
 | 0, _, _, _, _ => none
 | k + 1, a0_0, a0_1, a0_2, l0_3 => bellwetherlaw04_texts.l0 k (a0_2.size : Int) 0 a0_0 a0_1 a0_2 l0_3
end
theorem bellwetherlaw04_texts.calls (k : Nat) : ∀ (a0_0 : Int) (a0_1 : Int) (a0_2 : ByteArray) (A0_3 : Option Addr) (c0_3 : Nat) (l0_3 : List (S25)) (r : Int) (w : World) (hr0_3 : Kd.C k25 w A0_3 l0_3.length l0_3) (hc0_3 : l0_3.length ≤ c0_3) (h : bellwetherlaw04_texts.f k a0_0 a0_1 a0_2 l0_3 = some r),
  Calls Tryz.prog 16 #[.agg #[.int .u8 a0_0, .int .u64 a0_1, .string a0_2, .slice A0_3 l0_3.length c0_3]] w fun e w' => e = .returned (.int .i64 r) ∧ Below w.heap.size w w' := by
 induction k using Nat.strongRecOn with
 | _ k ih =>
 intro a0_0 a0_1 a0_2 A0_3 c0_3 l0_3 r w hr0_3 hc0_3 h
 cases k with
 | zero => exact absurd h (by simp [bellwetherlaw04_texts.f])
 | succ k =>
 simp only [bellwetherlaw04_texts.f] at h
 have hu25 := Tryz.underlying25
 have HR0_3 := Aside0.mk hr0_3
 have HC0_3 := Aside0.mk hc0_3
 clear hr0_3 hc0_3
 have HB := Aside0.mk (Below.refl w.heap.size w)
 have H : (bellwetherlaw04_texts.l0 k (a0_2.size : Int) 0 a0_0 a0_1 a0_2 l0_3) = some r := h
 clear h
 have H' := Aside0.mk H
 clear H
 go_enter Tryz.func16, Tryz.ntmps16
 go_wp2_with (first | ((with_reducible refine gate_dst (N := 1) rfl ?_); refine box_event ?hg (N := 1) ?hd (cs := #[.int .u8 a0_0, .int .u64 a0_1, .string a0_2, .slice A0_3 l0_3.length c0_3]) (t := 25) ?hr ?_; (case hd => rfl); (case hg => rfl); (case hr => first | (go_simp; done) | (go_simp; rfl)); intro gb104 hg w2 hbox hb; have n0_ := Aside0.mk (below_step (by repeat (first | (with_reducible first | exact HB.out | apply below_alloc | apply pw_below_drewN | apply below_drew1) | exact HB.out)) hb); have n1_ := Aside0.mk (hbox); have n2_ := Aside0.mk ((by rw [hg]; exact (below_size (by repeat (first | (with_reducible first | exact HB.out | apply below_alloc | apply pw_below_drewN | apply below_drew1) | exact HB.out))) : w.heap.size ≤ gb104)); have n3_ := Aside0.mk ((by rw [hg]; exact (below_size (by repeat (first | (with_reducible first | exact HB.out | apply below_alloc | apply pw_below_drewN | apply below_drew1) | exact HB.out))) : w.heap.size ≤ gb104)); clear HB; have HB := n0_; have BK104 := n1_; have GW104 := n2_; have GE104 := n3_; clear n0_ n1_ n2_ n3_; clear hb hbox hg; have hcz3_0 : w2.cell? ⟨gb104, 0, none⟩ = some (.int .u8 a0_0) := (blk_cell BK104.out 0).trans rfl; have hcz3_1 : w2.cell? ⟨gb104, 1, none⟩ = some (.int .u64 a0_1) := (blk_cell BK104.out 1).trans rfl; have hcz3_2 : w2.cell? ⟨gb104, 2, none⟩ = some (.string a0_2) := (blk_cell BK104.out 2).trans rfl; have hcz3_3 : w2.cell? ⟨gb104, 3, none⟩ = some (.slice A0_3 l0_3.length c0_3) := (blk_cell BK104.out 3).trans rfl; have hfz3_0 := blk_frozen BK104.out 0; have hfz3_1 := blk_frozen BK104.out 1; have hfz3_2 := blk_frozen BK104.out 2; have hfz3_3 := blk_frozen BK104.out 3))
 go_loopg [3, 4] k (fun kq v3 v4 w' => ∃ (x3_1 : Int) (x4_1 : Int), v3 = .int .i64 x3_1 ∧ v4 = .int .i64 x4_1 ∧ Aside0 (bellwetherlaw04_texts.l0 kq x3_1 x4_1 a0_0 a0_1 a0_2 l0_3 = some r) ∧ Aside0 (kq ≤ k) ∧ Aside0 (w'.heap[gb104]? = some (.cells #[.int .u8 a0_0, .int .u64 a0_1, .string a0_2, (.slice A0_3 l0_3.length c0_3)] 25 (0, 0))) ∧ Aside0 (Below w.heap.size w w'))
 case atStart => exact ⟨((a0_2.size : Int)), (0), (by first | rfl | (simp; done) | (simp [*]; done)), (by first | rfl | (simp; done) | (simp [*]; done)), H', ⟨Nat.le_refl _⟩, ⟨by (with_reducible repeat (first | refine blk_drewN ?_ _ | refine blk_drew ?_ | refine blk_alloc ?_ _)); exact BK104.out⟩, ⟨by repeat (first | (with_reducible first | exact HB.out | apply below_alloc | apply pw_below_drewN | apply below_drew1 | refine below_set ?_ GE104.out) | exact HB.out)⟩⟩
 case round =>
  clear H'
  try clear p2
  try clear hcz3_0
  try clear hcz3_1
  try clear hcz3_2
  try clear hcz3_3
  try clear hfz3_0
  try clear hfz3_1
  try clear hfz3_2
  try clear hfz3_3
  obtain ⟨x3_1, x4_1, rfl, rfl, HA, HK1, BK104, HB⟩ := hrel
  cases gk with
  | zero => exact absurd HA.out (by simp [bellwetherlaw04_texts.l0])
  | succ k1 =>
   have H := HA.out
   clear HA
   simp only [bellwetherlaw04_texts.l0] at H
   by_cases c4 : x4_1 < (l0_3.length : Int)
   ·rw [if_pos c4] at H
    have c4b0 : decide (x4_1 < (l0_3.length : Int)) = true := decide_eq_true c4
    clear c4
    by_cases c5 : 0 ≤ x4_1
    ·rw [if_pos c5] at H
     have c5b0 : decide (0 ≤ x4_1) = true := decide_eq_true c5
     clear c5
     replace H := Option.bind_eq_some_iff.mp H
     obtain ⟨t106, A60, H⟩ := H
     replace H : (bellwetherlaw04_texts.l0 k1 (wrap64 (x3_1 + t106)) (wrap64 (x4_1 + 1)) a0_0 a0_1 a0_2 l0_3) = some r := H
     have A6 := Aside0.mk A60
     clear A60
     have H' := Aside0.mk H
     clear H
     have hcz7_0 : wr.cell? ⟨gb104, 0, none⟩ = some (.int .u8 a0_0) := (blk_cell BK104.out 0).trans rfl
     have hcz7_1 : wr.cell? ⟨gb104, 1, none⟩ = some (.int .u64 a0_1) := (blk_cell BK104.out 1).trans rfl
     have hcz7_2 : wr.cell? ⟨gb104, 2, none⟩ = some (.string a0_2) := (blk_cell BK104.out 2).trans rfl
     have hcz7_3 : wr.cell? ⟨gb104, 3, none⟩ = some (.slice A0_3 l0_3.length c0_3) := (blk_cell BK104.out 3).trans rfl
     have hfz7_0 := blk_frozen BK104.out 0
     have hfz7_1 := blk_frozen BK104.out 1
     have hfz7_2 := blk_frozen BK104.out 2
     have hfz7_3 := blk_frozen BK104.out 3
     have p105 : 0 ≤ (x4_1 : Int) := of_decide_eq_true (by first | (with_reducible assumption) | assumption)
     have q105 : x4_1 < (l0_3.length : Int) := of_decide_eq_true (by first | (with_reducible assumption) | assumption)
     obtain ⟨ad105, A105_3, c105_3, e105, hx105_0, hx105_1, hx105_2, hx105_3, hl105_3, hi105_3⟩ := at_T25 HR0_3.out x4_1 p105 q105
     cases e105
     replace hx105_0 := (HB.out.cell (World.block_lt_of_cell? w _ hx105_0)).trans hx105_0
     replace hx105_1 := (HB.out.cell (World.block_lt_of_cell? w _ hx105_1)).trans hx105_1
     replace hx105_2 := (HB.out.cell (World.block_lt_of_cell? w _ hx105_2)).trans hx105_2
     replace hx105_3 := (HB.out.cell (World.block_lt_of_cell? w _ hx105_3)).trans hx105_3
     have HR105_3 := Aside0.mk hi105_3
     have HC105_3 := Aside0.mk hl105_3
     clear hi105_3 hl105_3
     replace p105 := eq_true p105
     replace q105 := eq_true q105
     go_wp2_with (first | ((with_reducible refine gate_callee (f := 16) rfl ?_); refine goesL_ (some 21) rfl rfl Tryz.func16 (by kernel_rfl) rfl #[.agg #[.int .u8 ((rd_T25 l0_3 x4_1).f0), .int .u64 ((rd_T25 l0_3 x4_1).f1), .string ((rd_T25 l0_3 x4_1).f2), .slice A105_3 ((rd_T25 l0_3 x4_1).f3).length c105_3]] rfl (by (try simp only [List.map_toArray, List.map_cons, List.map_nil]); first | done | rfl | (simp only [List.length_drop, List.length_take]; rfl)) ?_; (with_reducible refine (ih k1 (by have := HK1.out; omega) ((rd_T25 l0_3 x4_1).f0) ((rd_T25 l0_3 x4_1).f1) ((rd_T25 l0_3 x4_1).f2) _ _ ((rd_T25 l0_3 x4_1).f3) t106 _ ?side1 ?side2 A6.out).mono ?_); (case side1 => repeat (first | exact (Kd.C_below HR105_3.out HB.out) | (with_reducible refine Kd.C_alloc ?_ _) | (with_reducible refine Kd.C_drewN ?_ _) | (with_reducible refine Kd.C_drew ?_))); (case side2 => exact HC105_3.out); rintro e w8 ⟨rfl, hb⟩; refine ⟨_, rfl, ?_⟩; have n0_ := Aside0.mk (blk_below (g := gb104) (o := .cells #[.int .u8 a0_0, .int .u64 a0_1, .string a0_2, .slice (some ad105) l0_3.length c0_3] 25 (0, 0)) (by (with_reducible repeat (first | refine blk_drewN ?_ _ | refine blk_drew ?_ | refine blk_alloc ?_ _)); exact BK104.out) hb); have n1_ := Aside0.mk (below_step (by repeat (first | (with_reducible first | exact HB.out | apply below_alloc | apply pw_below_drewN | apply below_drew1 | refine below_set ?_ GE104.out) | exact HB.out)) hb); clear BK104; clear HB; have BK104 := n0_; have HB := n1_; clear n0_ n1_; (try clear hb); (try clear hb2); (try clear hk); (try clear hi)))
     go_roundg k1
     case measure => have := HK1.out; omega
     case rel => exact ⟨(wrap64 (x3_1 + t106)), (wrap64 (x4_1 + 1)), (by first | rfl | (simp; done) | (simp [*]; done)), (by first | rfl | (simp; done) | (simp [*]; done)), H', ⟨by have := HK1.out; omega⟩, ⟨by (with_reducible repeat (first | refine blk_drewN ?_ _ | refine blk_drew ?_ | refine blk_alloc ?_ _)); exact BK104.out⟩, ⟨by repeat (first | (with_reducible first | exact HB.out | apply below_alloc | apply pw_below_drewN | apply below_drew1 | refine below_set ?_ GE104.out) | exact HB.out)⟩⟩
    ·rw [if_neg c5] at H
     exact absurd H (by simp)
   ·rw [if_neg c4] at H
    have c4b0 : decide (x4_1 < (l0_3.length : Int)) = false := decide_eq_false c4
    clear c4
    obtain rfl := Option.some.inj H
    have hcz9_0 : wr.cell? ⟨gb104, 0, none⟩ = some (.int .u8 a0_0) := (blk_cell BK104.out 0).trans rfl
    have hcz9_1 : wr.cell? ⟨gb104, 1, none⟩ = some (.int .u64 a0_1) := (blk_cell BK104.out 1).trans rfl
    have hcz9_2 : wr.cell? ⟨gb104, 2, none⟩ = some (.string a0_2) := (blk_cell BK104.out 2).trans rfl
    have hcz9_3 : wr.cell? ⟨gb104, 3, none⟩ = some (.slice A0_3 l0_3.length c0_3) := (blk_cell BK104.out 3).trans rfl
    have hfz9_0 := blk_frozen BK104.out 0
    have hfz9_1 := blk_frozen BK104.out 1
    have hfz9_2 := blk_frozen BK104.out 2
    have hfz9_3 := blk_frozen BK104.out 3
    go_wp2
    go_ret
    exact ⟨by first | rfl | (simp [errW_none, errW_some] <;> rfl) | (simp [*, errW_none, errW_some] <;> rfl), by repeat (first | (with_reducible first | exact HB.out | apply below_alloc | apply pw_below_drewN | apply below_drew1 | refine below_set ?_ GE104.out) | exact HB.out)⟩
def bellwetherlaw04_Large.l0 : Nat → List (S25) → Int → Int → Option (Bool)
 | 0, _, _, _ => none
 | k + 1, x0, x3, x4 => if x4 < (x0.length : Int) then (if 0 ≤ x4 then ((bellwetherref04_Items.f k ((rd_T25 x0 x4).f0) ((rd_T25 x0 x4).f1) ((rd_T25 x0 x4).f2) ((rd_T25 x0 x4).f3)).bind fun t108 => ((bellwetherlaw04_texts.f k ((rd_T25 x0 x4).f0) ((rd_T25 x0 x4).f1) ((rd_T25 x0 x4).f2) ((rd_T25 x0 x4).f3)).bind fun t110 => (bellwetherlaw04_Large.l0 k x0 (wrap64 ((wrap64 (x3 + t108)) + (wrap64 (Int.tdiv t110 8)))) (wrap64 (x4 + 1))))) else (none)) else (some (decide (x3 > 8192)))
def bellwetherlaw04_Large.f (k : Nat) (l0 : List (S25)) : Option (Bool) := bellwetherlaw04_Large.l0 k l0 0 0
def bellwetherlaw04_Large.T5 : Bool × List (List Nat × List Nat) := (true, [([], []), ([], []), ([], []), ([1, 2], [1, 2]), ([3], [3]), ([4], [4]), ([0, 5], [0, 5]), ([], []), ([], []), ([7, 8], [7, 8]), ([9], [9]), ([10, 5], [10]), ([11], [11]), ([6, 12], [6, 12]), ([13, 11, 0, 1, 2, 3, 4, 5, 6, 7, 8, 9, 10, 11, 12, 13], [0, 13])])
def bellwetherlaw04_Large.B5 : List Nat := [0, 0, 0, 6, 14, 30, 63, 0, 0, 384, 896, 1982, 4030, 8191, 16383]
theorem bellwetherlaw04_Large.tab5 : rtab .any (opsOf Tryz.f5 5) = bellwetherlaw04_Large.T5 := by kernel_rfl
theorem bellwetherlaw04_Large.bits5 : waitsOk bellwetherlaw04_Large.T5.2 bellwetherlaw04_Large.B5 = true := by kernel_rfl
theorem bellwetherlaw04_Large.calls (k : Nat) (A0 : Option Addr) (c0 : Nat) (l0 : List (S25)) (r : Bool) (w : World) (hr0 : Kd.C k25 w A0 l0.length l0) (hc0 : l0.length ≤ c0) (h : bellwetherlaw04_Large.f k l0 = some r) :
  Calls Tryz.prog 5 #[.slice A0 l0.length c0] w fun e w' => e = .returned (.bool r) ∧ Below w.heap.size w w' := by
 have hu25 := Tryz.underlying25
 have HR0 := Aside0.mk hr0
 have HC0 := Aside0.mk hc0
 clear hr0 hc0
 have HB := Aside0.mk (Below.refl w.heap.size w)
 have H : (bellwetherlaw04_Large.l0 k l0 0 0) = some r := h
 clear h
 have H' := Aside0.mk H
 clear H
 go_enter Tryz.func5, Tryz.ntmps5
 go_wp2
 go_loopg [3, 4] k (fun kq v3 v4 w' => ∃ (x3_1 : Int) (x4_1 : Int), v3 = .int .i64 x3_1 ∧ v4 = .int .i64 x4_1 ∧ Aside0 (bellwetherlaw04_Large.l0 kq l0 x3_1 x4_1 = some r) ∧ Aside0 (kq ≤ k) ∧ Aside0 (Below w.heap.size w w'))
 case atStart => exact ⟨(0), (0), (by first | rfl | (simp; done) | (simp [*]; done)), (by first | rfl | (simp; done) | (simp [*]; done)), H', ⟨Nat.le_refl _⟩, ⟨by repeat (first | (with_reducible first | exact HB.out | apply below_alloc | apply pw_below_drewN | apply below_drew1) | exact HB.out)⟩⟩
 case round =>
  clear H'
  try clear c1
  obtain ⟨x3_1, x4_1, rfl, rfl, HA, HK1, HB⟩ := hrel
  cases gk with
  | zero => exact absurd HA.out (by simp [bellwetherlaw04_Large.l0])
  | succ k1 =>
   have H := HA.out
   clear HA
   simp only [bellwetherlaw04_Large.l0] at H
   by_cases c2 : x4_1 < (l0.length : Int)
   ·rw [if_pos c2] at H
    have c2b0 : decide (x4_1 < (l0.length : Int)) = true := decide_eq_true c2
    clear c2
    by_cases c3 : 0 ≤ x4_1
    ·rw [if_pos c3] at H
     have c3b0 : decide (0 ≤ x4_1) = true := decide_eq_true c3
     clear c3
     replace H := Option.bind_eq_some_iff.mp H
     obtain ⟨t108, A40, H⟩ := H
     replace H : ((bellwetherlaw04_texts.f k1 ((rd_T25 l0 x4_1).f0) ((rd_T25 l0 x4_1).f1) ((rd_T25 l0 x4_1).f2) ((rd_T25 l0 x4_1).f3)).bind fun t110 => (bellwetherlaw04_Large.l0 k1 l0 (wrap64 ((wrap64 (x3_1 + t108)) + (wrap64 (Int.tdiv t110 8)))) (wrap64 (x4_1 + 1)))) = some r := H
     have A4 := Aside0.mk A40
     clear A40
     replace H := Option.bind_eq_some_iff.mp H
     obtain ⟨t110, A50, H⟩ := H
     replace H : (bellwetherlaw04_Large.l0 k1 l0 (wrap64 ((wrap64 (x3_1 + t108)) + (wrap64 (Int.tdiv t110 8)))) (wrap64 (x4_1 + 1))) = some r := H
     have A5 := Aside0.mk A50
     clear A50
     have H' := Aside0.mk H
     clear H
     try go_wp2
     have n0_ := Aside0.mk (below_drew1 HB.out)
     clear HB
     have HB := n0_
     clear n0_
     have p107 : 0 ≤ (x4_1 : Int) := of_decide_eq_true (by first | (with_reducible assumption) | assumption)
     have q107 : x4_1 < (l0.length : Int) := of_decide_eq_true (by first | (with_reducible assumption) | assumption)
     obtain ⟨ad107, A107_3, c107_3, e107, hx107_0, hx107_1, hx107_2, hx107_3, hl107_3, hi107_3⟩ := at_T25 HR0.out x4_1 p107 q107
     have hw107_3 := hx107_3
     have hw107_2 := hx107_2
     have hw107_1 := hx107_1
     have hw107_0 := hx107_0
     cases e107
     replace hx107_0 := (HB.out.cell (World.block_lt_of_cell? w _ hx107_0)).trans hx107_0
     replace hx107_1 := (HB.out.cell (World.block_lt_of_cell? w _ hx107_1)).trans hx107_1
     replace hx107_2 := (HB.out.cell (World.block_lt_of_cell? w _ hx107_2)).trans hx107_2
     replace hx107_3 := (HB.out.cell (World.block_lt_of_cell? w _ hx107_3)).trans hx107_3
     have HR107_3 := Aside0.mk hi107_3
     have HC107_3 := Aside0.mk hl107_3
     clear hi107_3 hl107_3
     replace p107 := eq_true p107
     replace q107 := eq_true q107
     have p109 : 0 ≤ (x4_1 : Int) := of_decide_eq_true (by first | (with_reducible assumption) | assumption)
     have q109 : x4_1 < (l0.length : Int) := of_decide_eq_true (by first | (with_reducible assumption) | assumption)
     obtain ⟨ad109, A109_3, c109_3, e109, hx109_0, hx109_1, hx109_2, hx109_3, hl109_3, hi109_3⟩ := at_T25 HR0.out x4_1 p109 q109
     have hw109_3 := hx109_3
     have hw109_2 := hx109_2
     have hw109_1 := hx109_1
     have hw109_0 := hx109_0
     obtain rfl : ad107 = ad109 := (by injection e109)
     replace hx109_0 := (HB.out.cell (World.block_lt_of_cell? w _ hx109_0)).trans hx109_0
     replace hx109_1 := (HB.out.cell (World.block_lt_of_cell? w _ hx109_1)).trans hx109_1
     replace hx109_2 := (HB.out.cell (World.block_lt_of_cell? w _ hx109_2)).trans hx109_2
     replace hx109_3 := (HB.out.cell (World.block_lt_of_cell? w _ hx109_3)).trans hx109_3
     have HR109_3 := Aside0.mk hi109_3
     have HC109_3 := Aside0.mk hl109_3
     clear hi109_3 hl109_3
     replace p109 := eq_true p109
     replace q109 := eq_true q109
     have ea_ := Option.some.inj (hx107_3.symm.trans hx109_3)
     injection ea_ with ea_ en_ ec_
     subst ea_
     subst ec_
     clear en_
     refine start_ (n := 15) (S := fun w' => w'.cell? (ad107.add ((x4_1).toNat * 4)) = some (.int .u8 ((rd_T25 l0 x4_1).f0)) ∧ w'.cell? ⟨(ad107.add ((x4_1).toNat * 4)).block, (ad107.add ((x4_1).toNat * 4)).off + 1, none⟩ = some (.int .u64 ((rd_T25 l0 x4_1).f1)) ∧ w'.cell? ⟨(ad107.add ((x4_1).toNat * 4)).block, (ad107.add ((x4_1).toNat * 4)).off + 2, none⟩ = some (.string ((rd_T25 l0 x4_1).f2)) ∧ w'.cell? ⟨(ad107.add ((x4_1).toNat * 4)).block, (ad107.add ((x4_1).toNat * 4)).off + 3, none⟩ = some (.slice A107_3 ((rd_T25 l0 x4_1).f3).length c107_3) ∧ w'.cell? (ad107.add ((x4_1).toNat * 4)) = some (.int .u8 ((rd_T25 l0 x4_1).f0)) ∧ w'.cell? ⟨(ad107.add ((x4_1).toNat * 4)).block, (ad107.add ((x4_1).toNat * 4)).off + 1, none⟩ = some (.int .u64 ((rd_T25 l0 x4_1).f1)) ∧ w'.cell? ⟨(ad107.add ((x4_1).toNat * 4)).block, (ad107.add ((x4_1).toNat * 4)).off + 2, none⟩ = some (.string ((rd_T25 l0 x4_1).f2)) ∧ w'.cell? ⟨(ad107.add ((x4_1).toNat * 4)).block, (ad107.add ((x4_1).toNat * 4)).off + 3, none⟩ = some (.slice A107_3 ((rd_T25 l0 x4_1).f3).length c107_3)) (ds := []) #[ff,ff,ff,ff,ff,ff,ff,ff,ff,ff,ff,ff,ff,ff,ff] (by kernel_rfl) rfl rfl ⟨((HB.out.cell (World.block_lt_of_cell? w _ hw107_0)).trans hw107_0), ((HB.out.cell (World.block_lt_of_cell? w _ hw107_1)).trans hw107_1), ((HB.out.cell (World.block_lt_of_cell? w _ hw107_2)).trans hw107_2), ((HB.out.cell (World.block_lt_of_cell? w _ hw107_3)).trans hw107_3), ((HB.out.cell (World.block_lt_of_cell? w _ hw109_0)).trans hw109_0), ((HB.out.cell (World.block_lt_of_cell? w _ hw109_1)).trans hw109_1), ((HB.out.cell (World.block_lt_of_cell? w _ hw109_2)).trans hw109_2), ((HB.out.cell (World.block_lt_of_cell? w _ hw109_3)).trans hw109_3)⟩ (fun hHeld => ?_); refine with_tabW bellwetherlaw04_Large.tab5 bellwetherlaw04_Large.bits5 (fun HT_ HW_ => ?_)
     generalize wr.drew = w6 at HB HR107_3 HR109_3 hx107_0 hx107_1 hx107_2 hx107_3 hx109_0 hx109_1 hx109_2 hx109_3 hHeld ⊢
     refine pure_ (i := 0) (N := some 11) (v := ?_) (a' := ?_) #[tt,ff,ff,ff,ff,ff,ff,ff,ff,ff,ff,ff,ff,ff,ff] rfl rfl (any_of HT_.out (by kernel_rfl)) (fun _ _ _ h => h) (Or.inl ⟨by rfl, ?_⟩) ?_ ?_
     rotate_left
     ·intro w'
      go_simp
      with_reducible rfl
     rotate_left
     ·simp only [Act.put, List.setIfInBounds_toArray, List.set_cons_zero, List.set_cons_succ, i64_w, i32_w]
      rfl
     refine pure_ (i := 1) (N := some 12) (v := ?_) (a' := ?_) #[tt,tt,ff,ff,ff,ff,ff,ff,ff,ff,ff,ff,ff,ff,ff] rfl rfl (any_of HT_.out (by kernel_rfl)) (fun _ _ _ h => h) (Or.inl ⟨by rfl, ?_⟩) ?_ ?_
     rotate_left
     ·intro w'
      go_simp
      with_reducible rfl
     rotate_left
     ·simp only [Act.put, List.setIfInBounds_toArray, List.set_cons_zero, List.set_cons_succ, i64_w, i32_w]
      rfl
     refine pure_ (i := 2) (N := some 13) (v := ?_) (a' := ?_) #[tt,tt,tt,ff,ff,ff,ff,ff,ff,ff,ff,ff,ff,ff,ff] rfl rfl (any_of HT_.out (by kernel_rfl)) (fun _ _ _ h => h) (Or.inl ⟨by rfl, ?_⟩) ?_ ?_
     rotate_left
     ·intro w'
      go_simp
      with_reducible rfl
     rotate_left
     ·simp only [Act.put, List.setIfInBounds_toArray, List.set_cons_zero, List.set_cons_succ, i64_w, i32_w]
      rfl
     refine pure_ (i := 3) (N := some 14) (v := ?_) (a' := ?_) #[tt,tt,tt,tt,ff,ff,ff,ff,ff,ff,ff,ff,ff,ff,ff] rfl rfl (any_of HT_.out (by kernel_rfl)) (fun _ _ _ h => h) (Or.inl ⟨by rfl, ?_⟩) ?_ ?_
     rotate_left
     ·intro w'
      go_simp
      with_reducible rfl
     rotate_left
     ·simp only [Act.put, List.setIfInBounds_toArray, List.set_cons_zero, List.set_cons_succ, i64_w, i32_w]
      rfl
     refine pure_ (i := 7) (N := some 18) (v := ?_) (a' := ?_) #[tt,tt,tt,tt,ff,ff,ff,tt,ff,ff,ff,ff,ff,ff,ff] rfl rfl (any_of HT_.out (by kernel_rfl)) (fun _ _ _ h => h) (Or.inl ⟨by rfl, ?_⟩) ?_ ?_
     rotate_left
     ·intro w'
      go_simp
      with_reducible rfl
     rotate_left
     ·simp only [Act.put, List.setIfInBounds_toArray, List.set_cons_zero, List.set_cons_succ, i64_w, i32_w]
      rfl
     refine pure_ (i := 8) (N := some 19) (v := ?_) (a' := ?_) #[tt,tt,tt,tt,ff,ff,ff,tt,tt,ff,ff,ff,ff,ff,ff] rfl rfl (any_of HT_.out (by kernel_rfl)) (fun _ _ _ h => h) (Or.inl ⟨by rfl, ?_⟩) ?_ ?_
     rotate_left
     ·intro w'
      go_simp
      with_reducible rfl
     rotate_left
     ·simp only [Act.put, List.setIfInBounds_toArray, List.set_cons_zero, List.set_cons_succ, i64_w, i32_w]
      rfl
     refine pure_ (i := 9) (N := some 20) (v := ?_) (a' := ?_) #[tt,tt,tt,tt,ff,ff,ff,tt,tt,tt,ff,ff,ff,ff,ff] rfl rfl (any_of HT_.out (by kernel_rfl)) (fun _ _ _ h => h) (Or.inl ⟨by rfl, ?_⟩) ?_ ?_
     rotate_left
     ·intro w'
      go_simp
      with_reducible rfl
     rotate_left
     ·simp only [Act.put, List.setIfInBounds_toArray, List.set_cons_zero, List.set_cons_succ, i64_w, i32_w]
      rfl
     refine take_ (i := 4) (N := some 15) (v := ?_) (a' := ?_) #[tt,tt,tt,tt,tt,ff,ff,tt,tt,tt,ff,ff,ff,ff,ff] rfl rfl (take_ofW HT_.out HW_.out (by kernel_rfl)) (fun _ _ _ h => h) (Or.inl ⟨by rfl, ?_⟩) hHeld ?_ ?_
     rotate_left
     ·rintro w' ⟨s0, s1, s2, s3, s4, s5, s6, s7⟩
      go_simp
      with_reducible rfl
     rotate_left
     ·simp only [Act.put, List.setIfInBounds_toArray, List.set_cons_zero, List.set_cons_succ, i64_w, i32_w]
      rfl
     refine take_ (i := 10) (N := some 21) (v := ?_) (a' := ?_) #[tt,tt,tt,tt,tt,ff,ff,tt,tt,tt,tt,ff,ff,ff,ff] rfl rfl (take_ofW HT_.out HW_.out (by kernel_rfl)) (fun _ _ _ h => h) (Or.inl ⟨by rfl, ?_⟩) hHeld ?_ ?_
     rotate_left
     ·rintro w' ⟨s0, s1, s2, s3, s4, s5, s6, s7⟩
      go_simp
      with_reducible rfl
     rotate_left
     ·simp only [Act.put, List.setIfInBounds_toArray, List.set_cons_zero, List.set_cons_succ, i64_w, i32_w]
      rfl
     refine one_ (i := 5) (N := some 16) #[tt,tt,tt,tt,tt,tt,ff,tt,tt,tt,tt,ff,ff,ff,ff] rfl rfl (one_of HT_.out (by kernel_rfl)) (by decide) (fun K hK => ?_)
     refine goes_ Tryz.func15 (by kernel_rfl) rfl #[.agg #[.int .u8 ((rd_T25 l0 x4_1).f0), .int .u64 ((rd_T25 l0 x4_1).f1), .string ((rd_T25 l0 x4_1).f2), .slice A107_3 ((rd_T25 l0 x4_1).f3).length c107_3]] (by rfl) rfl rfl (by (try simp only [List.map_toArray, List.map_cons, List.map_nil]); first | done | rfl | (simp only [List.length_drop, List.length_take]; rfl)) ?_
     with_reducible refine (bellwetherref04_Items.calls k1 ((rd_T25 l0 x4_1).f0) ((rd_T25 l0 x4_1).f1) ((rd_T25 l0 x4_1).f2) _ _ ((rd_T25 l0 x4_1).f3) t108 _ ?side1 ?side2 A4.out).mono ?_
     (case side1 => repeat (first | exact (Kd.C_below HR107_3.out HB.out) | (with_reducible refine Kd.C_alloc ?_ _) | (with_reducible refine Kd.C_drewN ?_ _) | (with_reducible refine Kd.C_drew ?_)))
     (case side2 => exact HC107_3.out)
     rintro e w7 ⟨rfl, hb⟩
     refine ⟨_, rfl, ?_⟩
     have n0_ := Aside0.mk (below_step (by repeat (first | (with_reducible first | exact HB.out | apply below_alloc | apply pw_below_drewN | apply below_drew1) | exact HB.out)) hb)
     clear HB
     have HB := n0_
     clear n0_
     (try clear hb)
     (try clear hb2)
     (try clear hk)
     (try clear hi)
     refine hK.out _ _ ⟨((HB.out.cell (World.block_lt_of_cell? w _ hw107_0)).trans hw107_0), ((HB.out.cell (World.block_lt_of_cell? w _ hw107_1)).trans hw107_1), ((HB.out.cell (World.block_lt_of_cell? w _ hw107_2)).trans hw107_2), ((HB.out.cell (World.block_lt_of_cell? w _ hw107_3)).trans hw107_3), ((HB.out.cell (World.block_lt_of_cell? w _ hw109_0)).trans hw109_0), ((HB.out.cell (World.block_lt_of_cell? w _ hw109_1)).trans hw109_1), ((HB.out.cell (World.block_lt_of_cell? w _ hw109_2)).trans hw109_2), ((HB.out.cell (World.block_lt_of_cell? w _ hw109_3)).trans hw109_3)⟩ (fun hHeld => ?_)
     clear hK K
     refine norm_ (a' := ?_) ?_ ?_
     rotate_left
     ·show Act.put _ (some 16) _ = _
      simp only [Act.put, List.setIfInBounds_toArray, List.set_cons_zero, List.set_cons_succ, i64_w, i32_w]
      rfl
     refine pure_ (i := 6) (N := some 17) (v := ?_) (a' := ?_) #[tt,tt,tt,tt,tt,tt,tt,tt,tt,tt,tt,ff,ff,ff,ff] rfl rfl (any_of HT_.out (by kernel_rfl)) (fun _ _ _ h => h) (Or.inl ⟨by rfl, ?_⟩) ?_ ?_
     rotate_left
     ·intro w'
      go_simp
      with_reducible rfl
     rotate_left
     ·simp only [Act.put, List.setIfInBounds_toArray, List.set_cons_zero, List.set_cons_succ, i64_w, i32_w]
      rfl
     refine one_ (i := 11) (N := some 22) #[tt,tt,tt,tt,tt,tt,tt,tt,tt,tt,tt,tt,ff,ff,ff] rfl rfl (one_of HT_.out (by kernel_rfl)) (by decide) (fun K hK => ?_)
     refine goes_ Tryz.func16 (by kernel_rfl) rfl #[.agg #[.int .u8 ((rd_T25 l0 x4_1).f0), .int .u64 ((rd_T25 l0 x4_1).f1), .string ((rd_T25 l0 x4_1).f2), .slice A107_3 ((rd_T25 l0 x4_1).f3).length c107_3]] (by rfl) rfl rfl (by (try simp only [List.map_toArray, List.map_cons, List.map_nil]); first | done | rfl | (simp only [List.length_drop, List.length_take]; rfl)) ?_
     with_reducible refine (bellwetherlaw04_texts.calls k1 ((rd_T25 l0 x4_1).f0) ((rd_T25 l0 x4_1).f1) ((rd_T25 l0 x4_1).f2) _ _ ((rd_T25 l0 x4_1).f3) t110 _ ?side1 ?side2 A5.out).mono ?_
     (case side1 => repeat (first | exact (Kd.C_below HR109_3.out HB.out) | (with_reducible refine Kd.C_alloc ?_ _) | (with_reducible refine Kd.C_drewN ?_ _) | (with_reducible refine Kd.C_drew ?_)))
     (case side2 => exact HC109_3.out)
     rintro e w8 ⟨rfl, hb⟩
     refine ⟨_, rfl, ?_⟩
     have n0_ := Aside0.mk (below_step (by repeat (first | (with_reducible first | exact HB.out | apply below_alloc | apply pw_below_drewN | apply below_drew1) | exact HB.out)) hb)
     clear HB
     have HB := n0_
     clear n0_
     (try clear hb)
     (try clear hb2)
     (try clear hk)
     (try clear hi)
     refine hK.out _ _ ⟨((HB.out.cell (World.block_lt_of_cell? w _ hw107_0)).trans hw107_0), ((HB.out.cell (World.block_lt_of_cell? w _ hw107_1)).trans hw107_1), ((HB.out.cell (World.block_lt_of_cell? w _ hw107_2)).trans hw107_2), ((HB.out.cell (World.block_lt_of_cell? w _ hw107_3)).trans hw107_3), ((HB.out.cell (World.block_lt_of_cell? w _ hw109_0)).trans hw109_0), ((HB.out.cell (World.block_lt_of_cell? w _ hw109_1)).trans hw109_1), ((HB.out.cell (World.block_lt_of_cell? w _ hw109_2)).trans hw109_2), ((HB.out.cell (World.block_lt_of_cell? w _ hw109_3)).trans hw109_3)⟩ (fun hHeld => ?_)
     clear hK K
     refine norm_ (a' := ?_) ?_ ?_
     rotate_left
     ·show Act.put _ (some 22) _ = _
      simp only [Act.put, List.setIfInBounds_toArray, List.set_cons_zero, List.set_cons_succ, i64_w, i32_w]
      rfl
     refine pure_ (i := 12) (N := some 23) (v := ?_) (a' := ?_) #[tt,tt,tt,tt,tt,tt,tt,tt,tt,tt,tt,tt,tt,ff,ff] rfl rfl (any_of HT_.out (by kernel_rfl)) (fun _ _ _ h => h) (Or.inl ⟨by rfl, ?_⟩) ?_ ?_
     rotate_left
     ·intro w'
      go_simp
      with_reducible rfl
     rotate_left
     ·simp only [Act.put, List.setIfInBounds_toArray, List.set_cons_zero, List.set_cons_succ, i64_w, i32_w]
      rfl
     refine pure_ (i := 13) (N := some 24) (v := ?_) (a' := ?_) #[tt,tt,tt,tt,tt,tt,tt,tt,tt,tt,tt,tt,tt,tt,ff] rfl rfl (any_of HT_.out (by kernel_rfl)) (fun _ _ _ h => h) (Or.inl ⟨by rfl, ?_⟩) ?_ ?_
     rotate_left
     ·intro w'
      go_simp
      with_reducible rfl
     rotate_left
     ·simp only [Act.put, List.setIfInBounds_toArray, List.set_cons_zero, List.set_cons_succ, i64_w, i32_w]
      rfl
     refine pure_ (i := 14) (N := some 3) (v := ?_) (a' := ?_) #[tt,tt,tt,tt,tt,tt,tt,tt,tt,tt,tt,tt,tt,tt,tt] rfl rfl (any_of HT_.out (by kernel_rfl)) (fun _ _ _ h => h) (Or.inl ⟨by rfl, ?_⟩) ?_ ?_
     rotate_left
     ·intro w'
      go_simp
      with_reducible rfl
     rotate_left
     ·simp only [Act.put, List.setIfInBounds_toArray, List.set_cons_zero, List.set_cons_succ, i64_w, i32_w]
      rfl
     refine done_ (done_of HT_.out (by kernel_rfl)) ?_
     try go_wp2
     go_roundg k1
     case measure => have := HK1.out; omega
     case rel => exact ⟨(wrap64 ((wrap64 (x3_1 + t108)) + (wrap64 (Int.tdiv t110 8)))), (wrap64 (x4_1 + 1)), (by first | rfl | (simp; done) | (simp [*]; done)), (by first | rfl | (simp; done) | (simp [*]; done)), H', ⟨by have := HK1.out; omega⟩, ⟨by repeat (first | (with_reducible first | exact HB.out | apply below_alloc | apply pw_below_drewN | apply below_drew1) | exact HB.out)⟩⟩
    ·rw [if_neg c3] at H
     exact absurd H (by simp)
   ·rw [if_neg c2] at H
    have c2b0 : decide (x4_1 < (l0.length : Int)) = false := decide_eq_false c2
    clear c2
    obtain rfl := Option.some.inj H
    go_wp2
    go_ret
    exact ⟨by first | rfl | (simp [errW_none, errW_some] <;> rfl) | (simp [*, errW_none, errW_some] <;> rfl), by repeat (first | (with_reducible first | exact HB.out | apply below_alloc | apply pw_below_drewN | apply below_drew1) | exact HB.out)⟩
end Go.Proofs.YtdilbnggedidnaaGreat.PVal
namespace Go.Proofs.YtdilbnggedidnaaGreat.PVal
open Go.RowKit Go.Proofs.YtdilbnggedidnaaGreatW.PrintWords Go.Proofs.YtdilbnggedidnaaGreatW.PrintLast
attribute [local go_sem] max2_int max_two
set_option linter.unusedVariables false
set_option linter.unusedSimpArgs false
mutual
def bellwetherref04_Depth.l0 : Nat → Int → Int → Int → Int → ByteArray → List (S25) → Option (Int)
 | 0, _, _, _, _, _, _ => none
 | k + 1, x3, x4, x112000, x112001, x112002, x112003 => if x4 < (x112003.length : Int) then (if 0 ≤ x4 then ((bellwetherref04_Depth.f k ((rd_T25 x112003 x4).f0) ((rd_T25 x112003 x4).f1) ((rd_T25 x112003 x4).f2) ((rd_T25 x112003 x4).f3)).bind fun t113 => (bellwetherref04_Depth.l0 k (mx x3 t113) (wrap64 (x4 + 1)) x112000 x112001 x112002 x112003)) else (none)) else (some (wrap64 (x3 + 1)))
def bellwetherref04_Depth.f : Nat → Int → Int → ByteArray → List (S25) → Option (Int)
 | 0, _, _, _, _ => none
 | k + 1, a0_0, a0_1, a0_2, l0_3 => bellwetherref04_Depth.l0 k 0 0 a0_0 a0_1 a0_2 l0_3
end
theorem bellwetherref04_Depth.calls (k : Nat) : ∀ (a0_0 : Int) (a0_1 : Int) (a0_2 : ByteArray) (A0_3 : Option Addr) (c0_3 : Nat) (l0_3 : List (S25)) (r : Int) (w : World) (hr0_3 : Kd.C k25 w A0_3 l0_3.length l0_3) (hc0_3 : l0_3.length ≤ c0_3) (h : bellwetherref04_Depth.f k a0_0 a0_1 a0_2 l0_3 = some r),
  Calls Tryz.prog 72 #[.agg #[.int .u8 a0_0, .int .u64 a0_1, .string a0_2, .slice A0_3 l0_3.length c0_3]] w fun e w' => e = .returned (.int .i64 r) ∧ Below w.heap.size w w' := by
 induction k using Nat.strongRecOn with
 | _ k ih =>
 intro a0_0 a0_1 a0_2 A0_3 c0_3 l0_3 r w hr0_3 hc0_3 h
 cases k with
 | zero => exact absurd h (by simp [bellwetherref04_Depth.f])
 | succ k =>
 simp only [bellwetherref04_Depth.f] at h
 have hu25 := Tryz.underlying25
 have HR0_3 := Aside0.mk hr0_3
 have HC0_3 := Aside0.mk hc0_3
 clear hr0_3 hc0_3
 have HB := Aside0.mk (Below.refl w.heap.size w)
 have H : (bellwetherref04_Depth.l0 k 0 0 a0_0 a0_1 a0_2 l0_3) = some r := h
 clear h
 have H' := Aside0.mk H
 clear H
 go_enter Tryz.func72, Tryz.ntmps72
 go_wp2_with (first | ((with_reducible refine gate_dst (N := 1) rfl ?_); refine box_event ?hg (N := 1) ?hd (cs := #[.int .u8 a0_0, .int .u64 a0_1, .string a0_2, .slice A0_3 l0_3.length c0_3]) (t := 25) ?hr ?_; (case hd => rfl); (case hg => rfl); (case hr => first | (go_simp; done) | (go_simp; rfl)); intro gb111 hg w2 hbox hb; have n0_ := Aside0.mk (below_step (by repeat (first | (with_reducible first | exact HB.out | apply below_alloc | apply pw_below_drewN | apply below_drew1) | exact HB.out)) hb); have n1_ := Aside0.mk (hbox); have n2_ := Aside0.mk ((by rw [hg]; exact (below_size (by repeat (first | (with_reducible first | exact HB.out | apply below_alloc | apply pw_below_drewN | apply below_drew1) | exact HB.out))) : w.heap.size ≤ gb111)); have n3_ := Aside0.mk ((by rw [hg]; exact (below_size (by repeat (first | (with_reducible first | exact HB.out | apply below_alloc | apply pw_below_drewN | apply below_drew1) | exact HB.out))) : w.heap.size ≤ gb111)); clear HB; have HB := n0_; have BK111 := n1_; have GW111 := n2_; have GE111 := n3_; clear n0_ n1_ n2_ n3_; clear hb hbox hg))
 go_loopg [3, 4] k (fun kq v3 v4 w' => ∃ (x3_1 : Int) (x4_1 : Int), v3 = .int .i64 x3_1 ∧ v4 = .int .i64 x4_1 ∧ Aside0 (bellwetherref04_Depth.l0 kq x3_1 x4_1 a0_0 a0_1 a0_2 l0_3 = some r) ∧ Aside0 (kq ≤ k) ∧ Aside0 (w'.heap[gb111]? = some (.cells #[.int .u8 a0_0, .int .u64 a0_1, .string a0_2, (.slice A0_3 l0_3.length c0_3)] 25 (0, 0))) ∧ Aside0 (Below w.heap.size w w'))
 case atStart => exact ⟨(0), (0), (by first | rfl | (simp; done) | (simp [*]; done)), (by first | rfl | (simp; done) | (simp [*]; done)), H', ⟨Nat.le_refl _⟩, ⟨by (with_reducible repeat (first | refine blk_drewN ?_ _ | refine blk_drew ?_ | refine blk_alloc ?_ _)); exact BK111.out⟩, ⟨by repeat (first | (with_reducible first | exact HB.out | apply below_alloc | apply pw_below_drewN | apply below_drew1 | refine below_set ?_ GE111.out) | exact HB.out)⟩⟩
 case round =>
  clear H'
  try clear p2
  obtain ⟨x3_1, x4_1, rfl, rfl, HA, HK1, BK111, HB⟩ := hrel
  cases gk with
  | zero => exact absurd HA.out (by simp [bellwetherref04_Depth.l0])
  | succ k1 =>
   have H := HA.out
   clear HA
   simp only [bellwetherref04_Depth.l0] at H
   by_cases c3 : x4_1 < (l0_3.length : Int)
   ·rw [if_pos c3] at H
    have c3b0 : decide (x4_1 < (l0_3.length : Int)) = true := decide_eq_true c3
    clear c3
    by_cases c4 : 0 ≤ x4_1
    ·rw [if_pos c4] at H
     have c4b0 : decide (0 ≤ x4_1) = true := decide_eq_true c4
     clear c4
     replace H := Option.bind_eq_some_iff.mp H
     obtain ⟨t113, A50, H⟩ := H
     replace H : (bellwetherref04_Depth.l0 k1 (mx x3_1 t113) (wrap64 (x4_1 + 1)) a0_0 a0_1 a0_2 l0_3) = some r := H
     have A5 := Aside0.mk A50
     clear A50
     obtain ⟨ji6, hji6⟩ : ∃ j_ : Int, (mx x3_1 t113) = j_ := ⟨_, rfl⟩
     replace H : (bellwetherref04_Depth.l0 k1 ji6 (wrap64 (x4_1 + 1)) a0_0 a0_1 a0_2 l0_3) = some r := by first | (rw [hji6] at H; exact H) | (simp only [hji6] at H ⊢; exact H)
     (try rw [hji6] at A5)
     have hji6_ : (if x3_1 < t113 then t113 else x3_1) = ji6 := hji6
     have H' := Aside0.mk H
     clear H
     have hcz7_0 : wr.cell? ⟨gb111, 0, none⟩ = some (.int .u8 a0_0) := (blk_cell BK111.out 0).trans rfl
     have hcz7_1 : wr.cell? ⟨gb111, 1, none⟩ = some (.int .u64 a0_1) := (blk_cell BK111.out 1).trans rfl
     have hcz7_2 : wr.cell? ⟨gb111, 2, none⟩ = some (.string a0_2) := (blk_cell BK111.out 2).trans rfl
     have hcz7_3 : wr.cell? ⟨gb111, 3, none⟩ = some (.slice A0_3 l0_3.length c0_3) := (blk_cell BK111.out 3).trans rfl
     have hfz7_0 := blk_frozen BK111.out 0
     have hfz7_1 := blk_frozen BK111.out 1
     have hfz7_2 := blk_frozen BK111.out 2
     have hfz7_3 := blk_frozen BK111.out 3
     have p112 : 0 ≤ (x4_1 : Int) := of_decide_eq_true (by first | (with_reducible assumption) | assumption)
     have q112 : x4_1 < (l0_3.length : Int) := of_decide_eq_true (by first | (with_reducible assumption) | assumption)
     obtain ⟨ad112, A112_3, c112_3, e112, hx112_0, hx112_1, hx112_2, hx112_3, hl112_3, hi112_3⟩ := at_T25 HR0_3.out x4_1 p112 q112
     cases e112
     replace hx112_0 := (HB.out.cell (World.block_lt_of_cell? w _ hx112_0)).trans hx112_0
     replace hx112_1 := (HB.out.cell (World.block_lt_of_cell? w _ hx112_1)).trans hx112_1
     replace hx112_2 := (HB.out.cell (World.block_lt_of_cell? w _ hx112_2)).trans hx112_2
     replace hx112_3 := (HB.out.cell (World.block_lt_of_cell? w _ hx112_3)).trans hx112_3
     have HR112_3 := Aside0.mk hi112_3
     have HC112_3 := Aside0.mk hl112_3
     clear hi112_3 hl112_3
     replace p112 := eq_true p112
     replace q112 := eq_true q112
     go_wp2_with (first | ((with_reducible refine gate_callee (f := 72) rfl ?_); refine goesL_ (some 18) rfl rfl Tryz.func72 (by kernel_rfl) rfl #[.agg #[.int .u8 ((rd_T25 l0_3 x4_1).f0), .int .u64 ((rd_T25 l0_3 x4_1).f1), .string ((rd_T25 l0_3 x4_1).f2), .slice A112_3 ((rd_T25 l0_3 x4_1).f3).length c112_3]] rfl (by (try simp only [List.map_toArray, List.map_cons, List.map_nil]); first | done | rfl | (simp only [List.length_drop, List.length_take]; rfl)) ?_; (with_reducible refine (ih k1 (by have := HK1.out; omega) ((rd_T25 l0_3 x4_1).f0) ((rd_T25 l0_3 x4_1).f1) ((rd_T25 l0_3 x4_1).f2) _ _ ((rd_T25 l0_3 x4_1).f3) t113 _ ?side1 ?side2 A5.out).mono ?_); (case side1 => repeat (first | exact (Kd.C_below HR112_3.out HB.out) | (with_reducible refine Kd.C_alloc ?_ _) | (with_reducible refine Kd.C_drewN ?_ _) | (with_reducible refine Kd.C_drew ?_))); (case side2 => exact HC112_3.out); rintro e w8 ⟨rfl, hb⟩; refine ⟨_, rfl, ?_⟩; have n0_ := Aside0.mk (blk_below (g := gb111) (o := .cells #[.int .u8 a0_0, .int .u64 a0_1, .string a0_2, .slice (some ad112) l0_3.length c0_3] 25 (0, 0)) (by (with_reducible repeat (first | refine blk_drewN ?_ _ | refine blk_drew ?_ | refine blk_alloc ?_ _)); exact BK111.out) hb); have n1_ := Aside0.mk (below_step (by repeat (first | (with_reducible first | exact HB.out | apply below_alloc | apply pw_below_drewN | apply below_drew1 | refine below_set ?_ GE111.out) | exact HB.out)) hb); clear BK111; clear HB; have BK111 := n0_; have HB := n1_; clear n0_ n1_; (try clear hb); (try clear hb2); (try clear hk); (try clear hi)))
     go_roundg k1
     case measure => have := HK1.out; omega
     case rel => exact ⟨(ji6), (wrap64 (x4_1 + 1)), (by first | rfl | (simp; done) | (simp only [← hji6] <;> (first | rfl | simp)) | (simp [*]; done)), (by first | rfl | (simp; done) | (simp [*]; done)), H', ⟨by have := HK1.out; omega⟩, ⟨by (with_reducible repeat (first | refine blk_drewN ?_ _ | refine blk_drew ?_ | refine blk_alloc ?_ _)); exact BK111.out⟩, ⟨by repeat (first | (with_reducible first | exact HB.out | apply below_alloc | apply pw_below_drewN | apply below_drew1 | refine below_set ?_ GE111.out) | exact HB.out)⟩⟩
    ·rw [if_neg c4] at H
     exact absurd H (by simp)
   ·rw [if_neg c3] at H
    have c3b0 : decide (x4_1 < (l0_3.length : Int)) = false := decide_eq_false c3
    clear c3
    obtain rfl := Option.some.inj H
    have hcz9_0 : wr.cell? ⟨gb111, 0, none⟩ = some (.int .u8 a0_0) := (blk_cell BK111.out 0).trans rfl
    have hcz9_1 : wr.cell? ⟨gb111, 1, none⟩ = some (.int .u64 a0_1) := (blk_cell BK111.out 1).trans rfl
    have hcz9_2 : wr.cell? ⟨gb111, 2, none⟩ = some (.string a0_2) := (blk_cell BK111.out 2).trans rfl
    have hcz9_3 : wr.cell? ⟨gb111, 3, none⟩ = some (.slice A0_3 l0_3.length c0_3) := (blk_cell BK111.out 3).trans rfl
    have hfz9_0 := blk_frozen BK111.out 0
    have hfz9_1 := blk_frozen BK111.out 1
    have hfz9_2 := blk_frozen BK111.out 2
    have hfz9_3 := blk_frozen BK111.out 3
    go_wp2
    go_ret
    exact ⟨by first | rfl | (simp [errW_none, errW_some] <;> rfl) | (simp [*, errW_none, errW_some] <;> rfl), by repeat (first | (with_reducible first | exact HB.out | apply below_alloc | apply pw_below_drewN | apply below_drew1 | refine below_set ?_ GE111.out) | exact HB.out)⟩
end Go.Proofs.YtdilbnggedidnaaGreat.PVal
namespace Go.Proofs.YtdilbnggedidnaaGreat.PVal
open Go.RowKit Go.Proofs.YtdilbnggedidnaaGreatW.PrintWords Go.Proofs.YtdilbnggedidnaaGreatW.PrintLast
attribute [local go_sem] max2_int max_two
set_option linter.unusedVariables false
set_option linter.unusedSimpArgs false
mutual
def bellwetherref04_Same.j0 : Nat → Bool → Int → Int → ByteArray → List (S25) → Int → Int → ByteArray → List (S25) → Option (Bool)
 | 0, _, _, _, _, _, _, _, _, _ => none
 | k + 1, x33, x115000, x115001, x115002, x115003, x116000, x116001, x116002, x116003 => if x33 = true then (some false) else (bellwetherref04_Same.l0 k 0 x115000 x115001 x115002 x115003 x116000 x116001 x116002 x116003)
def bellwetherref04_Same.l0 : Nat → Int → Int → Int → ByteArray → List (S25) → Int → Int → ByteArray → List (S25) → Option (Bool)
 | 0, _, _, _, _, _, _, _, _, _ => none
 | k + 1, x5, x115000, x115001, x115002, x115003, x116000, x116001, x116002, x116003 => if x5 < (x115003.length : Int) then (if 0 ≤ x5 then (if x5 < (x116003.length : Int) then ((bellwetherref04_Same.f k ((rd_T25 x115003 x5).f0) ((rd_T25 x115003 x5).f1) ((rd_T25 x115003 x5).f2) ((rd_T25 x115003 x5).f3) ((rd_T25 x116003 x5).f0) ((rd_T25 x116003 x5).f1) ((rd_T25 x116003 x5).f2) ((rd_T25 x116003 x5).f3)).bind fun t118 => (if t118 = true then (bellwetherref04_Same.l0 k (wrap64 (x5 + 1)) x115000 x115001 x115002 x115003 x116000 x116001 x116002 x116003) else (some false))) else (none)) else (none)) else (some true)
def bellwetherref04_Same.f : Nat → Int → Int → ByteArray → List (S25) → Int → Int → ByteArray → List (S25) → Option (Bool)
 | 0, _, _, _, _, _, _, _, _ => none
 | k + 1, a0_0, a0_1, a0_2, l0_3, a1_0, a1_1, a1_2, l1_3 => if a0_0 = a1_0 then (if a0_1 = a1_1 then (if a0_2.toList = a1_2.toList then (bellwetherref04_Same.j0 k ((l0_3.length : Int) != (l1_3.length : Int)) a0_0 a0_1 a0_2 l0_3 a1_0 a1_1 a1_2 l1_3) else (bellwetherref04_Same.j0 k true a0_0 a0_1 a0_2 l0_3 a1_0 a1_1 a1_2 l1_3)) else (bellwetherref04_Same.j0 k true a0_0 a0_1 a0_2 l0_3 a1_0 a1_1 a1_2 l1_3)) else (bellwetherref04_Same.j0 k true a0_0 a0_1 a0_2 l0_3 a1_0 a1_1 a1_2 l1_3)
end
def bellwetherref04_Same.T6 : Bool × List (List Nat × List Nat) := (true, [([], []), ([0], [0]), ([], []), ([1, 2], [1, 2]), ([3], [3]), ([], []), ([5], [5]), ([], []), ([6, 7], [6, 7]), ([8], [8]), ([4, 9], [4, 9]), ([10], [10])])
def bellwetherref04_Same.B6 : List Nat := [0, 1, 0, 7, 15, 0, 32, 0, 224, 480, 1023, 2047]
theorem bellwetherref04_Same.tab6 : rtab .any (opsOf Tryz.f11 6) = bellwetherref04_Same.T6 := by kernel_rfl
theorem bellwetherref04_Same.bits6 : waitsOk bellwetherref04_Same.T6.2 bellwetherref04_Same.B6 = true := by kernel_rfl
theorem bellwetherref04_Same.calls (k : Nat) : ∀ (a0_0 : Int) (a0_1 : Int) (a0_2 : ByteArray) (A0_3 : Option Addr) (c0_3 : Nat) (l0_3 : List (S25)) (a1_0 : Int) (a1_1 : Int) (a1_2 : ByteArray) (A1_3 : Option Addr) (c1_3 : Nat) (l1_3 : List (S25)) (r : Bool) (w : World) (hr0_3 : Kd.C k25 w A0_3 l0_3.length l0_3) (hc0_3 : l0_3.length ≤ c0_3) (hr1_3 : Kd.C k25 w A1_3 l1_3.length l1_3) (hc1_3 : l1_3.length ≤ c1_3) (h : bellwetherref04_Same.f k a0_0 a0_1 a0_2 l0_3 a1_0 a1_1 a1_2 l1_3 = some r),
  Calls Tryz.prog 11 #[.agg #[.int .u8 a0_0, .int .u64 a0_1, .string a0_2, .slice A0_3 l0_3.length c0_3], .agg #[.int .u8 a1_0, .int .u64 a1_1, .string a1_2, .slice A1_3 l1_3.length c1_3]] w fun e w' => e = .returned (.bool r) ∧ Below w.heap.size w w' := by
 induction k using Nat.strongRecOn with
 | _ k ih =>
 intro a0_0 a0_1 a0_2 A0_3 c0_3 l0_3 a1_0 a1_1 a1_2 A1_3 c1_3 l1_3 r w hr0_3 hc0_3 hr1_3 hc1_3 h
 cases k with
 | zero => exact absurd h (by simp [bellwetherref04_Same.f])
 | succ k =>
 simp only [bellwetherref04_Same.f] at h
 have hu25 := Tryz.underlying25
 have HR0_3 := Aside0.mk hr0_3
 have HC0_3 := Aside0.mk hc0_3
 clear hr0_3 hc0_3
 have HR1_3 := Aside0.mk hr1_3
 have HC1_3 := Aside0.mk hc1_3
 clear hr1_3 hc1_3
 have HB := Aside0.mk (Below.refl w.heap.size w)
 have H : (if a0_0 = a1_0 then (if a0_1 = a1_1 then (if a0_2.toList = a1_2.toList then (bellwetherref04_Same.j0 k ((l0_3.length : Int) != (l1_3.length : Int)) a0_0 a0_1 a0_2 l0_3 a1_0 a1_1 a1_2 l1_3) else (bellwetherref04_Same.j0 k true a0_0 a0_1 a0_2 l0_3 a1_0 a1_1 a1_2 l1_3)) else (bellwetherref04_Same.j0 k true a0_0 a0_1 a0_2 l0_3 a1_0 a1_1 a1_2 l1_3)) else (bellwetherref04_Same.j0 k true a0_0 a0_1 a0_2 l0_3 a1_0 a1_1 a1_2 l1_3)) = some r := h
 clear h
 have HC3 := Aside0.mk H
 clear H
 go_enter Tryz.func11, Tryz.ntmps11
 go_upto_region 1 with (first | ((with_reducible refine gate_dst (N := 2) rfl ?_); (try (refine gate_guard (by rfl) ?_; dsimp only)); refine box_event ?hg (N := 2) ?hd (cs := #[.int .u8 a0_0, .int .u64 a0_1, .string a0_2, .slice A0_3 l0_3.length c0_3]) (t := 25) ?hr ?_; (case hd => rfl); (case hg => rfl); (case hr => first | (go_simp; done) | (go_simp; rfl)); intro gb114 hg w4 hbox hb; have n0_ := Aside0.mk (below_step (by repeat (first | (with_reducible first | exact HB.out | apply below_alloc | apply pw_below_drewN | apply below_drew1) | exact HB.out)) hb); have n1_ := Aside0.mk (hbox); have n2_ := Aside0.mk ((by rw [hg]; exact (below_size (by repeat (first | (with_reducible first | exact HB.out | apply below_alloc | apply pw_below_drewN | apply below_drew1) | exact HB.out))) : w.heap.size ≤ gb114)); have n3_ := Aside0.mk ((by rw [hg]; exact (below_size (by repeat (first | (with_reducible first | exact HB.out | apply below_alloc | apply pw_below_drewN | apply below_drew1) | exact HB.out))) : w.heap.size ≤ gb114)); clear HB; have HB := n0_; have BK114 := n1_; have GW114 := n2_; have GE114 := n3_; clear n0_ n1_ n2_ n3_; clear hb hbox hg) | ((with_reducible refine gate_dst (N := 3) rfl ?_); (try (refine gate_guard (by rfl) ?_; dsimp only)); refine box_event ?hg (N := 3) ?hd (cs := #[.int .u8 a1_0, .int .u64 a1_1, .string a1_2, .slice A1_3 l1_3.length c1_3]) (t := 25) ?hr ?_; (case hd => rfl); (case hg => rfl); (case hr => first | (go_simp; done) | (go_simp; rfl)); intro gb115 hg w5 hbox hb; have n0_ := Aside0.mk (blk_below (g := gb114) (o := .cells #[.int .u8 a0_0, .int .u64 a0_1, .string a0_2, .slice A0_3 l0_3.length c0_3] 25 (0, 0)) (by (with_reducible repeat (first | refine blk_drewN ?_ _ | refine blk_drew ?_ | refine blk_alloc ?_ _)); exact BK114.out) hb); have n1_ := Aside0.mk (below_step (by repeat (first | (with_reducible first | exact HB.out | apply below_alloc | apply pw_below_drewN | apply below_drew1 | refine below_set ?_ GE114.out) | exact HB.out)) hb); have n2_ := Aside0.mk (hbox); have n3_ := Aside0.mk ((by rw [hg]; exact (below_size (by repeat (first | (with_reducible first | exact HB.out | apply below_alloc | apply pw_below_drewN | apply below_drew1 | refine below_set ?_ GE114.out) | exact HB.out))) : w.heap.size ≤ gb115)); have n4_ := Aside0.mk ((by rw [hg]; exact (below_size (by repeat (first | (with_reducible first | exact HB.out | apply below_alloc | apply pw_below_drewN | apply below_drew1 | refine below_set ?_ GE114.out) | exact HB.out))) : w.heap.size ≤ gb115)); have n5_ := Aside0.mk ((by rw [hg]; exact Nat.ne_of_lt (blk_lt (g := gb114) (o := .cells #[.int .u8 a0_0, .int .u64 a0_1, .string a0_2, .slice A0_3 l0_3.length c0_3] 25 (0, 0)) (by (with_reducible repeat (first | refine blk_drewN ?_ _ | refine blk_drew ?_ | refine blk_alloc ?_ _)); exact BK114.out)) : gb114 ≠ gb115)); have n6_ := Aside0.mk ((by rw [hg]; exact Nat.ne_of_gt (blk_lt (g := gb114) (o := .cells #[.int .u8 a0_0, .int .u64 a0_1, .string a0_2, .slice A0_3 l0_3.length c0_3] 25 (0, 0)) (by (with_reducible repeat (first | refine blk_drewN ?_ _ | refine blk_drew ?_ | refine blk_alloc ?_ _)); exact BK114.out)) : gb115 ≠ gb114)); clear BK114; clear HB; have BK114 := n0_; have HB := n1_; have BK115 := n2_; have GW115 := n3_; have GE115 := n4_; have NB114_115 := n5_; have NB115_114 := n6_; clear n0_ n1_ n2_ n3_ n4_ n5_ n6_; clear hb hbox hg))
 (try simp only [Act.put, List.setIfInBounds_toArray, List.set_cons_zero, List.set_cons_succ])
 go_cut [33] (fun v33 wc => ∃ (kq : Nat) (x33_2 : Bool), v33 = .bool x33_2 ∧ Aside0 (bellwetherref04_Same.j0 kq x33_2 a0_0 a0_1 a0_2 l0_3 a1_0 a1_1 a1_2 l1_3 = some r) ∧ Aside0 (kq ≤ k) ∧ Aside0 (wc.heap[gb114]? = some (.cells #[.int .u8 a0_0, .int .u64 a0_1, .string a0_2, (.slice A0_3 l0_3.length c0_3)] 25 (0, 0))) ∧ Aside0 (wc.heap[gb115]? = some (.cells #[.int .u8 a1_0, .int .u64 a1_1, .string a1_2, (.slice A1_3 l1_3.length c1_3)] 25 (0, 0))) ∧ Aside0 (Below w.heap.size w wc))
 case first =>
  have H := HC3.out
  clear HC3
  by_cases c6 : a0_0 = a1_0
  ·rw [if_pos c6] at H
   have c6b0 : (a0_0 == a1_0) = true := beq_iff_eq.mpr c6
   have c6b1 : (a0_0 != a1_0) = false := bne_eq_false_iff_eq.mpr c6
   clear c6
   (first | rw [c6b0] | (simp only [i64_w, i32_w]; rw [c6b0]) | skip)
   by_cases c7 : a0_1 = a1_1
   ·rw [if_pos c7] at H
    have c7b0 : (a0_1 == a1_1) = true := beq_iff_eq.mpr c7
    have c7b1 : (a0_1 != a1_1) = false := bne_eq_false_iff_eq.mpr c7
    clear c7
    by_cases c8 : a0_2.toList = a1_2.toList
    ·rw [if_pos c8] at H
     have c8b0 : (a0_2.toList == a1_2.toList) = true := beq_iff_eq.mpr c8
     have c8b1 : (a0_2.toList != a1_2.toList) = false := bne_eq_false_iff_eq.mpr c8
     clear c8
     have H' := Aside0.mk H
     clear H
     have hnb9 := NB114_115.out
     have hnc9 := NB115_114.out
     have hcz10_0 : w5.cell? ⟨gb114, 0, none⟩ = some (.int .u8 a0_0) := (blk_cell BK114.out 0).trans rfl
     have hcz10_1 : w5.cell? ⟨gb114, 1, none⟩ = some (.int .u64 a0_1) := (blk_cell BK114.out 1).trans rfl
     have hcz10_2 : w5.cell? ⟨gb114, 2, none⟩ = some (.string a0_2) := (blk_cell BK114.out 2).trans rfl
     have hcz10_3 : w5.cell? ⟨gb114, 3, none⟩ = some (.slice A0_3 l0_3.length c0_3) := (blk_cell BK114.out 3).trans rfl
     have hfz10_0 := blk_frozen BK114.out 0
     have hfz10_1 := blk_frozen BK114.out 1
     have hfz10_2 := blk_frozen BK114.out 2
     have hfz10_3 := blk_frozen BK114.out 3
     have hcz11_0 : w5.cell? ⟨gb115, 0, none⟩ = some (.int .u8 a1_0) := (blk_cell BK115.out 0).trans rfl
     have hcz11_1 : w5.cell? ⟨gb115, 1, none⟩ = some (.int .u64 a1_1) := (blk_cell BK115.out 1).trans rfl
     have hcz11_2 : w5.cell? ⟨gb115, 2, none⟩ = some (.string a1_2) := (blk_cell BK115.out 2).trans rfl
     have hcz11_3 : w5.cell? ⟨gb115, 3, none⟩ = some (.slice A1_3 l1_3.length c1_3) := (blk_cell BK115.out 3).trans rfl
     have hfz11_0 := blk_frozen BK115.out 0
     have hfz11_1 := blk_frozen BK115.out 1
     have hfz11_2 := blk_frozen BK115.out 2
     have hfz11_3 := blk_frozen BK115.out 3
     go_wp2
     go_meet
     case rel => exact ⟨_, (((l0_3.length : Int) != (l1_3.length : Int))), (by first | rfl | (simp; done) | (simp [*]; done)), H', ⟨by first | omega | exact Nat.le_refl _⟩, ⟨by (with_reducible repeat (first | refine blk_drewN ?_ _ | refine blk_drew ?_ | refine blk_alloc ?_ _)); exact BK114.out⟩, ⟨by (with_reducible repeat (first | refine blk_drewN ?_ _ | refine blk_drew ?_ | refine blk_alloc ?_ _)); exact BK115.out⟩, ⟨by repeat (first | (with_reducible first | exact HB.out | apply below_alloc | apply pw_below_drewN | apply below_drew1 | refine below_set ?_ GE114.out | refine below_set ?_ GE115.out) | exact HB.out)⟩⟩
    ·rw [if_neg c8] at H
     have c8b0 : (a0_2.toList == a1_2.toList) = false := beq_eq_false_iff_ne.mpr c8
     have c8b1 : (a0_2.toList != a1_2.toList) = true := bne_iff_ne.mpr c8
     have H' := Aside0.mk H
     clear H
     have hnb12 := NB114_115.out
     have hnc12 := NB115_114.out
     have hcz13_0 : w5.cell? ⟨gb114, 0, none⟩ = some (.int .u8 a0_0) := (blk_cell BK114.out 0).trans rfl
     have hcz13_1 : w5.cell? ⟨gb114, 1, none⟩ = some (.int .u64 a0_1) := (blk_cell BK114.out 1).trans rfl
     have hcz13_2 : w5.cell? ⟨gb114, 2, none⟩ = some (.string a0_2) := (blk_cell BK114.out 2).trans rfl
     have hcz13_3 : w5.cell? ⟨gb114, 3, none⟩ = some (.slice A0_3 l0_3.length c0_3) := (blk_cell BK114.out 3).trans rfl
     have hfz13_0 := blk_frozen BK114.out 0
     have hfz13_1 := blk_frozen BK114.out 1
     have hfz13_2 := blk_frozen BK114.out 2
     have hfz13_3 := blk_frozen BK114.out 3
     have hcz14_0 : w5.cell? ⟨gb115, 0, none⟩ = some (.int .u8 a1_0) := (blk_cell BK115.out 0).trans rfl
     have hcz14_1 : w5.cell? ⟨gb115, 1, none⟩ = some (.int .u64 a1_1) := (blk_cell BK115.out 1).trans rfl
     have hcz14_2 : w5.cell? ⟨gb115, 2, none⟩ = some (.string a1_2) := (blk_cell BK115.out 2).trans rfl
     have hcz14_3 : w5.cell? ⟨gb115, 3, none⟩ = some (.slice A1_3 l1_3.length c1_3) := (blk_cell BK115.out 3).trans rfl
     have hfz14_0 := blk_frozen BK115.out 0
     have hfz14_1 := blk_frozen BK115.out 1
     have hfz14_2 := blk_frozen BK115.out 2
     have hfz14_3 := blk_frozen BK115.out 3
     go_wp2
     go_meet
     case rel => exact ⟨_, (true), (by first | rfl | (simp; done) | (simp [*]; done)), H', ⟨by first | omega | exact Nat.le_refl _⟩, ⟨by (with_reducible repeat (first | refine blk_drewN ?_ _ | refine blk_drew ?_ | refine blk_alloc ?_ _)); exact BK114.out⟩, ⟨by (with_reducible repeat (first | refine blk_drewN ?_ _ | refine blk_drew ?_ | refine blk_alloc ?_ _)); exact BK115.out⟩, ⟨by repeat (first | (with_reducible first | exact HB.out | apply below_alloc | apply pw_below_drewN | apply below_drew1 | refine below_set ?_ GE114.out | refine below_set ?_ GE115.out) | exact HB.out)⟩⟩
   ·rw [if_neg c7] at H
    have c7b0 : (a0_1 == a1_1) = false := beq_eq_false_iff_ne.mpr c7
    have c7b1 : (a0_1 != a1_1) = true := bne_iff_ne.mpr c7
    have H' := Aside0.mk H
    clear H
    have hnb15 := NB114_115.out
    have hnc15 := NB115_114.out
    have hcz16_0 : w5.cell? ⟨gb114, 0, none⟩ = some (.int .u8 a0_0) := (blk_cell BK114.out 0).trans rfl
    have hcz16_1 : w5.cell? ⟨gb114, 1, none⟩ = some (.int .u64 a0_1) := (blk_cell BK114.out 1).trans rfl
    have hcz16_2 : w5.cell? ⟨gb114, 2, none⟩ = some (.string a0_2) := (blk_cell BK114.out 2).trans rfl
    have hcz16_3 : w5.cell? ⟨gb114, 3, none⟩ = some (.slice A0_3 l0_3.length c0_3) := (blk_cell BK114.out 3).trans rfl
    have hfz16_0 := blk_frozen BK114.out 0
    have hfz16_1 := blk_frozen BK114.out 1
    have hfz16_2 := blk_frozen BK114.out 2
    have hfz16_3 := blk_frozen BK114.out 3
    have hcz17_0 : w5.cell? ⟨gb115, 0, none⟩ = some (.int .u8 a1_0) := (blk_cell BK115.out 0).trans rfl
    have hcz17_1 : w5.cell? ⟨gb115, 1, none⟩ = some (.int .u64 a1_1) := (blk_cell BK115.out 1).trans rfl
    have hcz17_2 : w5.cell? ⟨gb115, 2, none⟩ = some (.string a1_2) := (blk_cell BK115.out 2).trans rfl
    have hcz17_3 : w5.cell? ⟨gb115, 3, none⟩ = some (.slice A1_3 l1_3.length c1_3) := (blk_cell BK115.out 3).trans rfl
    have hfz17_0 := blk_frozen BK115.out 0
    have hfz17_1 := blk_frozen BK115.out 1
    have hfz17_2 := blk_frozen BK115.out 2
    have hfz17_3 := blk_frozen BK115.out 3
    go_wp2
    go_meet
    case rel => exact ⟨_, (true), (by first | rfl | (simp; done) | (simp [*]; done)), H', ⟨by first | omega | exact Nat.le_refl _⟩, ⟨by (with_reducible repeat (first | refine blk_drewN ?_ _ | refine blk_drew ?_ | refine blk_alloc ?_ _)); exact BK114.out⟩, ⟨by (with_reducible repeat (first | refine blk_drewN ?_ _ | refine blk_drew ?_ | refine blk_alloc ?_ _)); exact BK115.out⟩, ⟨by repeat (first | (with_reducible first | exact HB.out | apply below_alloc | apply pw_below_drewN | apply below_drew1 | refine below_set ?_ GE114.out | refine below_set ?_ GE115.out) | exact HB.out)⟩⟩
  ·rw [if_neg c6] at H
   have c6b0 : (a0_0 == a1_0) = false := beq_eq_false_iff_ne.mpr c6
   have c6b1 : (a0_0 != a1_0) = true := bne_iff_ne.mpr c6
   (first | rw [c6b0] | (simp only [i64_w, i32_w]; rw [c6b0]) | skip)
   have H' := Aside0.mk H
   clear H
   have hnb18 := NB114_115.out
   have hnc18 := NB115_114.out
   have hcz19_0 : w5.cell? ⟨gb114, 0, none⟩ = some (.int .u8 a0_0) := (blk_cell BK114.out 0).trans rfl
   have hcz19_1 : w5.cell? ⟨gb114, 1, none⟩ = some (.int .u64 a0_1) := (blk_cell BK114.out 1).trans rfl
   have hcz19_2 : w5.cell? ⟨gb114, 2, none⟩ = some (.string a0_2) := (blk_cell BK114.out 2).trans rfl
   have hcz19_3 : w5.cell? ⟨gb114, 3, none⟩ = some (.slice A0_3 l0_3.length c0_3) := (blk_cell BK114.out 3).trans rfl
   have hfz19_0 := blk_frozen BK114.out 0
   have hfz19_1 := blk_frozen BK114.out 1
   have hfz19_2 := blk_frozen BK114.out 2
   have hfz19_3 := blk_frozen BK114.out 3
   have hcz20_0 : w5.cell? ⟨gb115, 0, none⟩ = some (.int .u8 a1_0) := (blk_cell BK115.out 0).trans rfl
   have hcz20_1 : w5.cell? ⟨gb115, 1, none⟩ = some (.int .u64 a1_1) := (blk_cell BK115.out 1).trans rfl
   have hcz20_2 : w5.cell? ⟨gb115, 2, none⟩ = some (.string a1_2) := (blk_cell BK115.out 2).trans rfl
   have hcz20_3 : w5.cell? ⟨gb115, 3, none⟩ = some (.slice A1_3 l1_3.length c1_3) := (blk_cell BK115.out 3).trans rfl
   have hfz20_0 := blk_frozen BK115.out 0
   have hfz20_1 := blk_frozen BK115.out 1
   have hfz20_2 := blk_frozen BK115.out 2
   have hfz20_3 := blk_frozen BK115.out 3
   go_wp2
   go_meet
   case rel => exact ⟨_, (true), (by first | rfl | (simp; done) | (simp [*]; done)), H', ⟨by first | omega | exact Nat.le_refl _⟩, ⟨by (with_reducible repeat (first | refine blk_drewN ?_ _ | refine blk_drew ?_ | refine blk_alloc ?_ _)); exact BK114.out⟩, ⟨by (with_reducible repeat (first | refine blk_drewN ?_ _ | refine blk_drew ?_ | refine blk_alloc ?_ _)); exact BK115.out⟩, ⟨by repeat (first | (with_reducible first | exact HB.out | apply below_alloc | apply pw_below_drewN | apply below_drew1 | refine below_set ?_ GE114.out | refine below_set ?_ GE115.out) | exact HB.out)⟩⟩
 case rest =>
  clear HC3
  try clear c1
  try clear p2
  try clear c6
  try clear c6b0
  try clear c6b1
  try clear c7
  try clear c7b0
  try clear c7b1
  try clear c8
  try clear c8b0
  try clear c8b1
  try clear c9
  try clear c12
  try clear c15
  try clear c18
  try clear c19
  try clear hcz10_0
  try clear hcz10_1
  try clear hcz10_2
  try clear hcz10_3
  try clear hcz11_0
  try clear hcz11_1
  try clear hcz11_2
  try clear hcz11_3
  try clear hcz13_0
  try clear hcz13_1
  try clear hcz13_2
  try clear hcz13_3
  try clear hcz14_0
  try clear hcz14_1
  try clear hcz14_2
  try clear hcz14_3
  try clear hcz16_0
  try clear hcz16_1
  try clear hcz16_2
  try clear hcz16_3
  try clear hcz17_0
  try clear hcz17_1
  try clear hcz17_2
  try clear hcz17_3
  try clear hcz19_0
  try clear hcz19_1
  try clear hcz19_2
  try clear hcz19_3
  try clear hcz20_0
  try clear hcz20_1
  try clear hcz20_2
  try clear hcz20_3
  try clear hfz10_0
  try clear hfz10_1
  try clear hfz10_2
  try clear hfz10_3
  try clear hfz11_0
  try clear hfz11_1
  try clear hfz11_2
  try clear hfz11_3
  try clear hfz13_0
  try clear hfz13_1
  try clear hfz13_2
  try clear hfz13_3
  try clear hfz14_0
  try clear hfz14_1
  try clear hfz14_2
  try clear hfz14_3
  try clear hfz16_0
  try clear hfz16_1
  try clear hfz16_2
  try clear hfz16_3
  try clear hfz17_0
  try clear hfz17_1
  try clear hfz17_2
  try clear hfz17_3
  try clear hfz19_0
  try clear hfz19_1
  try clear hfz19_2
  try clear hfz19_3
  try clear hfz20_0
  try clear hfz20_1
  try clear hfz20_2
  try clear hfz20_3
  obtain ⟨kq, x33_2, rfl, HA, HJ2, BK114, BK115, HB⟩ := hcut
  cases kq with
  | zero => exact absurd HA.out (by simp [bellwetherref04_Same.j0])
  | succ kj2 =>
   have H := HA.out
   clear HA
   simp only [bellwetherref04_Same.j0] at H
   by_cases c21 : x33_2 = true
   ·subst c21
    have H1 : (some false) = some r := by rw [if_pos rfl] at H; exact H
    clear H
    have H := H1
    clear H1
    obtain rfl := Option.some.inj H
    go_wp2
    go_ret
    exact ⟨by first | rfl | (simp [errW_none, errW_some] <;> rfl) | (simp [*, errW_none, errW_some] <;> rfl), by repeat (first | (with_reducible first | exact HB.out | apply below_alloc | apply pw_below_drewN | apply below_drew1 | refine below_set ?_ GE114.out | refine below_set ?_ GE115.out) | exact HB.out)⟩
   ·replace c21 := Bool.eq_false_iff.mpr c21
    subst c21
    have H1 : (bellwetherref04_Same.l0 kj2 0 a0_0 a0_1 a0_2 l0_3 a1_0 a1_1 a1_2 l1_3) = some r := by rw [if_neg (show ¬ (false = true) by decide)] at H; exact H
    clear H
    have H := H1
    clear H1
    have H' := Aside0.mk H
    clear H
    go_wp2
    go_loopg [5] kj2 (fun kq v5 w' => ∃ (x5_2 : Int), v5 = .int .i64 x5_2 ∧ Aside0 (bellwetherref04_Same.l0 kq x5_2 a0_0 a0_1 a0_2 l0_3 a1_0 a1_1 a1_2 l1_3 = some r) ∧ Aside0 (kq ≤ kj2) ∧ Aside0 (w'.heap[gb114]? = some (.cells #[.int .u8 a0_0, .int .u64 a0_1, .string a0_2, (.slice A0_3 l0_3.length c0_3)] 25 (0, 0))) ∧ Aside0 (w'.heap[gb115]? = some (.cells #[.int .u8 a1_0, .int .u64 a1_1, .string a1_2, (.slice A1_3 l1_3.length c1_3)] 25 (0, 0))) ∧ Aside0 (Below w.heap.size w w'))
    case atStart => exact ⟨(0), (by first | rfl | (simp; done) | (simp [*]; done)), H', ⟨Nat.le_refl _⟩, ⟨by (with_reducible repeat (first | refine blk_drewN ?_ _ | refine blk_drew ?_ | refine blk_alloc ?_ _)); exact BK114.out⟩, ⟨by (with_reducible repeat (first | refine blk_drewN ?_ _ | refine blk_drew ?_ | refine blk_alloc ?_ _)); exact BK115.out⟩, ⟨by repeat (first | (with_reducible first | exact HB.out | apply below_alloc | apply pw_below_drewN | apply below_drew1 | refine below_set ?_ GE114.out | refine below_set ?_ GE115.out) | exact HB.out)⟩⟩
    case round =>
     clear H'
     try clear c1
     try clear c2
     try clear p2
     try clear c6
     try clear c6b0
     try clear c6b1
     try clear c7
     try clear c7b0
     try clear c7b1
     try clear c8
     try clear c8b0
     try clear c8b1
     try clear c9
     try clear c12
     try clear c15
     try clear c18
     try clear c19
     try clear c21
     try clear hcz10_0
     try clear hcz10_1
     try clear hcz10_2
     try clear hcz10_3
     try clear hcz11_0
     try clear hcz11_1
     try clear hcz11_2
     try clear hcz11_3
     try clear hcz13_0
     try clear hcz13_1
     try clear hcz13_2
     try clear hcz13_3
     try clear hcz14_0
     try clear hcz14_1
     try clear hcz14_2
     try clear hcz14_3
     try clear hcz16_0
     try clear hcz16_1
     try clear hcz16_2
     try clear hcz16_3
     try clear hcz17_0
     try clear hcz17_1
     try clear hcz17_2
     try clear hcz17_3
     try clear hcz19_0
     try clear hcz19_1
     try clear hcz19_2
     try clear hcz19_3
     try clear hcz20_0
     try clear hcz20_1
     try clear hcz20_2
     try clear hcz20_3
     try clear hfz10_0
     try clear hfz10_1
     try clear hfz10_2
     try clear hfz10_3
     try clear hfz11_0
     try clear hfz11_1
     try clear hfz11_2
     try clear hfz11_3
     try clear hfz13_0
     try clear hfz13_1
     try clear hfz13_2
     try clear hfz13_3
     try clear hfz14_0
     try clear hfz14_1
     try clear hfz14_2
     try clear hfz14_3
     try clear hfz16_0
     try clear hfz16_1
     try clear hfz16_2
     try clear hfz16_3
     try clear hfz17_0
     try clear hfz17_1
     try clear hfz17_2
     try clear hfz17_3
     try clear hfz19_0
     try clear hfz19_1
     try clear hfz19_2
     try clear hfz19_3
     try clear hfz20_0
     try clear hfz20_1
     try clear hfz20_2
     try clear hfz20_3
     try clear p2
     obtain ⟨x5_2, rfl, HA, HK2, BK114, BK115, HB⟩ := hrel
     cases gk with
     | zero => exact absurd HA.out (by simp [bellwetherref04_Same.l0])
     | succ k2 =>
      have H := HA.out
      clear HA
      simp only [bellwetherref04_Same.l0] at H
      by_cases c22 : x5_2 < (l0_3.length : Int)
      ·rw [if_pos c22] at H
       have c22b0 : decide (x5_2 < (l0_3.length : Int)) = true := decide_eq_true c22
       clear c22
       by_cases c23 : 0 ≤ x5_2
       ·rw [if_pos c23] at H
        have c23b0 : decide (0 ≤ x5_2) = true := decide_eq_true c23
        clear c23
        by_cases c24 : x5_2 < (l1_3.length : Int)
        ·rw [if_pos c24] at H
         have c24b0 : decide (x5_2 < (l1_3.length : Int)) = true := decide_eq_true c24
         clear c24
         replace H := Option.bind_eq_some_iff.mp H
         obtain ⟨t118, A250, H⟩ := H
         replace H : (if t118 = true then (bellwetherref04_Same.l0 k2 (wrap64 (x5_2 + 1)) a0_0 a0_1 a0_2 l0_3 a1_0 a1_1 a1_2 l1_3) else (some false)) = some r := H
         have A25 := Aside0.mk A250
         clear A250
         by_cases c26 : t118 = true
         ·subst c26
          have H1 : (bellwetherref04_Same.l0 k2 (wrap64 (x5_2 + 1)) a0_0 a0_1 a0_2 l0_3 a1_0 a1_1 a1_2 l1_3) = some r := by rw [if_pos rfl] at H; exact H
          clear H
          have H := H1
          clear H1
          have H' := Aside0.mk H
          clear H
          have hnb27 := NB114_115.out
          have hnc27 := NB115_114.out
          have hcz28_0 : wr.cell? ⟨gb114, 0, none⟩ = some (.int .u8 a0_0) := (blk_cell BK114.out 0).trans rfl
          have hcz28_1 : wr.cell? ⟨gb114, 1, none⟩ = some (.int .u64 a0_1) := (blk_cell BK114.out 1).trans rfl
          have hcz28_2 : wr.cell? ⟨gb114, 2, none⟩ = some (.string a0_2) := (blk_cell BK114.out 2).trans rfl
          have hcz28_3 : wr.cell? ⟨gb114, 3, none⟩ = some (.slice A0_3 l0_3.length c0_3) := (blk_cell BK114.out 3).trans rfl
          have hfz28_0 := blk_frozen BK114.out 0
          have hfz28_1 := blk_frozen BK114.out 1
          have hfz28_2 := blk_frozen BK114.out 2
          have hfz28_3 := blk_frozen BK114.out 3
          try go_wp2
          have n0_ := Aside0.mk (blk_drew BK114.out)
          have n1_ := Aside0.mk (blk_drew BK115.out)
          have n2_ := Aside0.mk (below_drew1 HB.out)
          clear BK114
          clear BK115
          clear HB
          have BK114 := n0_
          have BK115 := n1_
          have HB := n2_
          clear n0_ n1_ n2_
          have p116 : 0 ≤ (x5_2 : Int) := of_decide_eq_true (by first | (with_reducible assumption) | assumption)
          have q116 : x5_2 < (l0_3.length : Int) := of_decide_eq_true (by first | (with_reducible assumption) | assumption)
          obtain ⟨ad116, A116_3, c116_3, e116, hx116_0, hx116_1, hx116_2, hx116_3, hl116_3, hi116_3⟩ := at_T25 HR0_3.out x5_2 p116 q116
          have hw116_3 := hx116_3
          have hw116_2 := hx116_2
          have hw116_1 := hx116_1
          have hw116_0 := hx116_0
          cases e116
          replace hx116_0 := (HB.out.cell (World.block_lt_of_cell? w _ hx116_0)).trans hx116_0
          replace hx116_1 := (HB.out.cell (World.block_lt_of_cell? w _ hx116_1)).trans hx116_1
          replace hx116_2 := (HB.out.cell (World.block_lt_of_cell? w _ hx116_2)).trans hx116_2
          replace hx116_3 := (HB.out.cell (World.block_lt_of_cell? w _ hx116_3)).trans hx116_3
          have HR116_3 := Aside0.mk hi116_3
          have HC116_3 := Aside0.mk hl116_3
          clear hi116_3 hl116_3
          replace p116 := eq_true p116
          replace q116 := eq_true q116
          have p117 : 0 ≤ (x5_2 : Int) := of_decide_eq_true (by first | (with_reducible assumption) | assumption)
          have q117 : x5_2 < (l1_3.length : Int) := of_decide_eq_true (by first | (with_reducible assumption) | assumption)
          obtain ⟨ad117, A117_3, c117_3, e117, hx117_0, hx117_1, hx117_2, hx117_3, hl117_3, hi117_3⟩ := at_T25 HR1_3.out x5_2 p117 q117
          have hw117_3 := hx117_3
          have hw117_2 := hx117_2
          have hw117_1 := hx117_1
          have hw117_0 := hx117_0
          cases e117
          replace hx117_0 := (HB.out.cell (World.block_lt_of_cell? w _ hx117_0)).trans hx117_0
          replace hx117_1 := (HB.out.cell (World.block_lt_of_cell? w _ hx117_1)).trans hx117_1
          replace hx117_2 := (HB.out.cell (World.block_lt_of_cell? w _ hx117_2)).trans hx117_2
          replace hx117_3 := (HB.out.cell (World.block_lt_of_cell? w _ hx117_3)).trans hx117_3
          have HR117_3 := Aside0.mk hi117_3
          have HC117_3 := Aside0.mk hl117_3
          clear hi117_3 hl117_3
          replace p117 := eq_true p117
          replace q117 := eq_true q117
          refine start_ (n := 12) (S := fun w' => w'.cell? ⟨gb114, 0, none⟩ = some (.int .u8 a0_0) ∧ w'.cell? ⟨gb114, 1, none⟩ = some (.int .u64 a0_1) ∧ w'.cell? ⟨gb114, 2, none⟩ = some (.string a0_2) ∧ w'.cell? ⟨gb114, 3, none⟩ = some (.slice (some ad116) l0_3.length c0_3) ∧ w'.cell? ⟨gb115, 0, none⟩ = some (.int .u8 a1_0) ∧ w'.cell? ⟨gb115, 1, none⟩ = some (.int .u64 a1_1) ∧ w'.cell? ⟨gb115, 2, none⟩ = some (.string a1_2) ∧ w'.cell? ⟨gb115, 3, none⟩ = some (.slice (some ad117) l1_3.length c1_3) ∧ w'.cell? (ad116.add ((x5_2).toNat * 4)) = some (.int .u8 ((rd_T25 l0_3 x5_2).f0)) ∧ w'.cell? ⟨(ad116.add ((x5_2).toNat * 4)).block, (ad116.add ((x5_2).toNat * 4)).off + 1, none⟩ = some (.int .u64 ((rd_T25 l0_3 x5_2).f1)) ∧ w'.cell? ⟨(ad116.add ((x5_2).toNat * 4)).block, (ad116.add ((x5_2).toNat * 4)).off + 2, none⟩ = some (.string ((rd_T25 l0_3 x5_2).f2)) ∧ w'.cell? ⟨(ad116.add ((x5_2).toNat * 4)).block, (ad116.add ((x5_2).toNat * 4)).off + 3, none⟩ = some (.slice A116_3 ((rd_T25 l0_3 x5_2).f3).length c116_3) ∧ w'.cell? (ad117.add ((x5_2).toNat * 4)) = some (.int .u8 ((rd_T25 l1_3 x5_2).f0)) ∧ w'.cell? ⟨(ad117.add ((x5_2).toNat * 4)).block, (ad117.add ((x5_2).toNat * 4)).off + 1, none⟩ = some (.int .u64 ((rd_T25 l1_3 x5_2).f1)) ∧ w'.cell? ⟨(ad117.add ((x5_2).toNat * 4)).block, (ad117.add ((x5_2).toNat * 4)).off + 2, none⟩ = some (.string ((rd_T25 l1_3 x5_2).f2)) ∧ w'.cell? ⟨(ad117.add ((x5_2).toNat * 4)).block, (ad117.add ((x5_2).toNat * 4)).off + 3, none⟩ = some (.slice A117_3 ((rd_T25 l1_3 x5_2).f3).length c117_3)) (ds := []) #[ff,ff,ff,ff,ff,ff,ff,ff,ff,ff,ff,ff] (by kernel_rfl) rfl rfl ⟨(blk_cell BK114.out 0).trans rfl, (blk_cell BK114.out 1).trans rfl, (blk_cell BK114.out 2).trans rfl, (blk_cell BK114.out 3).trans rfl, (blk_cell BK115.out 0).trans rfl, (blk_cell BK115.out 1).trans rfl, (blk_cell BK115.out 2).trans rfl, (blk_cell BK115.out 3).trans rfl, ((HB.out.cell (World.block_lt_of_cell? w _ hw116_0)).trans hw116_0), ((HB.out.cell (World.block_lt_of_cell? w _ hw116_1)).trans hw116_1), ((HB.out.cell (World.block_lt_of_cell? w _ hw116_2)).trans hw116_2), ((HB.out.cell (World.block_lt_of_cell? w _ hw116_3)).trans hw116_3), ((HB.out.cell (World.block_lt_of_cell? w _ hw117_0)).trans hw117_0), ((HB.out.cell (World.block_lt_of_cell? w _ hw117_1)).trans hw117_1), ((HB.out.cell (World.block_lt_of_cell? w _ hw117_2)).trans hw117_2), ((HB.out.cell (World.block_lt_of_cell? w _ hw117_3)).trans hw117_3)⟩ (fun hHeld => ?_); refine with_tabW bellwetherref04_Same.tab6 bellwetherref04_Same.bits6 (fun HT_ HW_ => ?_)
          generalize wr.drew = w29 at BK114 BK115 HB HR116_3 HR117_3 hx116_0 hx116_1 hx116_2 hx116_3 hx117_0 hx117_1 hx117_2 hx117_3 hHeld ⊢
          refine pure_ (i := 0) (N := some 41) (v := ?_) (a' := ?_) #[tt,ff,ff,ff,ff,ff,ff,ff,ff,ff,ff,ff] rfl rfl (any_of HT_.out (by kernel_rfl)) (fun _ _ _ h => h) (Or.inl ⟨by rfl, ?_⟩) ?_ ?_
          rotate_left
          ·intro w'
           go_simp
           with_reducible rfl
          rotate_left
          ·simp only [Act.put, List.setIfInBounds_toArray, List.set_cons_zero, List.set_cons_succ, i64_w, i32_w]
           rfl
          refine pure_ (i := 2) (N := some 43) (v := ?_) (a' := ?_) #[tt,ff,tt,ff,ff,ff,ff,ff,ff,ff,ff,ff] rfl rfl (any_of HT_.out (by kernel_rfl)) (fun _ _ _ h => h) (Or.inl ⟨by rfl, ?_⟩) ?_ ?_
          rotate_left
          ·intro w'
           go_simp
           with_reducible rfl
          rotate_left
          ·simp only [Act.put, List.setIfInBounds_toArray, List.set_cons_zero, List.set_cons_succ, i64_w, i32_w]
           rfl
          refine pure_ (i := 5) (N := some 46) (v := ?_) (a' := ?_) #[tt,ff,tt,ff,ff,tt,ff,ff,ff,ff,ff,ff] rfl rfl (any_of HT_.out (by kernel_rfl)) (fun _ _ _ h => h) (Or.inl ⟨by rfl, ?_⟩) ?_ ?_
          rotate_left
          ·intro w'
           go_simp
           with_reducible rfl
          rotate_left
          ·simp only [Act.put, List.setIfInBounds_toArray, List.set_cons_zero, List.set_cons_succ, i64_w, i32_w]
           rfl
          refine pure_ (i := 7) (N := some 48) (v := ?_) (a' := ?_) #[tt,ff,tt,ff,ff,tt,ff,tt,ff,ff,ff,ff] rfl rfl (any_of HT_.out (by kernel_rfl)) (fun _ _ _ h => h) (Or.inl ⟨by rfl, ?_⟩) ?_ ?_
          rotate_left
          ·intro w'
           go_simp
           with_reducible rfl
          rotate_left
          ·simp only [Act.put, List.setIfInBounds_toArray, List.set_cons_zero, List.set_cons_succ, i64_w, i32_w]
           rfl
          refine take_ (i := 1) (N := some 42) (v := ?_) (a' := ?_) #[tt,tt,tt,ff,ff,tt,ff,tt,ff,ff,ff,ff] rfl rfl (take_ofW HT_.out HW_.out (by kernel_rfl)) (fun _ _ _ h => h) (Or.inl ⟨by rfl, ?_⟩) hHeld ?_ ?_
          rotate_left
          ·rintro w' ⟨s0, s1, s2, s3, s4, s5, s6, s7, s8, s9, s10, s11, s12, s13, s14, s15⟩
           go_simp
           with_reducible rfl
          rotate_left
          ·simp only [Act.put, List.setIfInBounds_toArray, List.set_cons_zero, List.set_cons_succ, i64_w, i32_w]
           rfl
          refine pure_ (i := 3) (N := some 44) (v := ?_) (a' := ?_) #[tt,tt,tt,tt,ff,tt,ff,tt,ff,ff,ff,ff] rfl rfl (any_of HT_.out (by kernel_rfl)) (fun _ _ _ h => h) (Or.inl ⟨by rfl, ?_⟩) ?_ ?_
          rotate_left
          ·intro w'
           go_simp
           with_reducible rfl
          rotate_left
          ·simp only [Act.put, List.setIfInBounds_toArray, List.set_cons_zero, List.set_cons_succ, i64_w, i32_w]
           rfl
          refine take_ (i := 4) (N := some 45) (v := ?_) (a' := ?_) #[tt,tt,tt,tt,tt,tt,ff,tt,ff,ff,ff,ff] rfl rfl (take_ofW HT_.out HW_.out (by kernel_rfl)) (fun _ _ _ h => h) (Or.inl ⟨by rfl, ?_⟩) hHeld ?_ ?_
          rotate_left
          ·rintro w' ⟨s0, s1, s2, s3, s4, s5, s6, s7, s8, s9, s10, s11, s12, s13, s14, s15⟩
           go_simp
           with_reducible rfl
          rotate_left
          ·simp only [Act.put, List.setIfInBounds_toArray, List.set_cons_zero, List.set_cons_succ, i64_w, i32_w]
           rfl
          refine take_ (i := 6) (N := some 47) (v := ?_) (a' := ?_) #[tt,tt,tt,tt,tt,tt,tt,tt,ff,ff,ff,ff] rfl rfl (take_ofW HT_.out HW_.out (by kernel_rfl)) (fun _ _ _ h => h) (Or.inl ⟨by rfl, ?_⟩) hHeld ?_ ?_
          rotate_left
          ·rintro w' ⟨s0, s1, s2, s3, s4, s5, s6, s7, s8, s9, s10, s11, s12, s13, s14, s15⟩
           go_simp
           with_reducible rfl
          rotate_left
          ·simp only [Act.put, List.setIfInBounds_toArray, List.set_cons_zero, List.set_cons_succ, i64_w, i32_w]
           rfl
          refine pure_ (i := 8) (N := some 49) (v := ?_) (a' := ?_) #[tt,tt,tt,tt,tt,tt,tt,tt,tt,ff,ff,ff] rfl rfl (any_of HT_.out (by kernel_rfl)) (fun _ _ _ h => h) (Or.inl ⟨by rfl, ?_⟩) ?_ ?_
          rotate_left
          ·intro w'
           go_simp
           with_reducible rfl
          rotate_left
          ·simp only [Act.put, List.setIfInBounds_toArray, List.set_cons_zero, List.set_cons_succ, i64_w, i32_w]
           rfl
          refine take_ (i := 9) (N := some 50) (v := ?_) (a' := ?_) #[tt,tt,tt,tt,tt,tt,tt,tt,tt,tt,ff,ff] rfl rfl (take_ofW HT_.out HW_.out (by kernel_rfl)) (fun _ _ _ h => h) (Or.inl ⟨by rfl, ?_⟩) hHeld ?_ ?_
          rotate_left
          ·rintro w' ⟨s0, s1, s2, s3, s4, s5, s6, s7, s8, s9, s10, s11, s12, s13, s14, s15⟩
           go_simp
           with_reducible rfl
          rotate_left
          ·simp only [Act.put, List.setIfInBounds_toArray, List.set_cons_zero, List.set_cons_succ, i64_w, i32_w]
           rfl
          refine one_ (i := 10) (N := some 51) #[tt,tt,tt,tt,tt,tt,tt,tt,tt,tt,tt,ff] rfl rfl (one_of HT_.out (by kernel_rfl)) (by decide) (fun K hK => ?_)
          refine goes_ Tryz.func11 (by kernel_rfl) rfl #[.agg #[.int .u8 ((rd_T25 l0_3 x5_2).f0), .int .u64 ((rd_T25 l0_3 x5_2).f1), .string ((rd_T25 l0_3 x5_2).f2), .slice A116_3 ((rd_T25 l0_3 x5_2).f3).length c116_3], .agg #[.int .u8 ((rd_T25 l1_3 x5_2).f0), .int .u64 ((rd_T25 l1_3 x5_2).f1), .string ((rd_T25 l1_3 x5_2).f2), .slice A117_3 ((rd_T25 l1_3 x5_2).f3).length c117_3]] (by rfl) rfl rfl (by (try simp only [List.map_toArray, List.map_cons, List.map_nil]); first | done | rfl | (simp only [List.length_drop, List.length_take]; rfl)) ?_
          with_reducible refine (ih k2 (by have := HJ2.out; have := HK2.out; omega) ((rd_T25 l0_3 x5_2).f0) ((rd_T25 l0_3 x5_2).f1) ((rd_T25 l0_3 x5_2).f2) _ _ ((rd_T25 l0_3 x5_2).f3) ((rd_T25 l1_3 x5_2).f0) ((rd_T25 l1_3 x5_2).f1) ((rd_T25 l1_3 x5_2).f2) _ _ ((rd_T25 l1_3 x5_2).f3) true _ ?side1 ?side2 ?side3 ?side4 A25.out).mono ?_
          (case side1 => repeat (first | exact (Kd.C_below HR116_3.out HB.out) | (with_reducible refine Kd.C_alloc ?_ _) | (with_reducible refine Kd.C_drewN ?_ _) | (with_reducible refine Kd.C_drew ?_)))
          (case side2 => exact HC116_3.out)
          (case side3 => repeat (first | exact (Kd.C_below HR117_3.out HB.out) | (with_reducible refine Kd.C_alloc ?_ _) | (with_reducible refine Kd.C_drewN ?_ _) | (with_reducible refine Kd.C_drew ?_)))
          (case side4 => exact HC117_3.out)
          rintro e w30 ⟨rfl, hb⟩
          refine ⟨_, rfl, ?_⟩
          have n0_ := Aside0.mk (blk_below (g := gb114) (o := .cells #[.int .u8 a0_0, .int .u64 a0_1, .string a0_2, .slice (some ad116) l0_3.length c0_3] 25 (0, 0)) (by (with_reducible repeat (first | refine blk_drewN ?_ _ | refine blk_drew ?_ | refine blk_alloc ?_ _)); exact BK114.out) hb)
          have n1_ := Aside0.mk (blk_below (g := gb115) (o := .cells #[.int .u8 a1_0, .int .u64 a1_1, .string a1_2, .slice (some ad117) l1_3.length c1_3] 25 (0, 0)) (by (with_reducible repeat (first | refine blk_drewN ?_ _ | refine blk_drew ?_ | refine blk_alloc ?_ _)); exact BK115.out) hb)
          have n2_ := Aside0.mk (below_step (by repeat (first | (with_reducible first | exact HB.out | apply below_alloc | apply pw_below_drewN | apply below_drew1 | refine below_set ?_ GE114.out | refine below_set ?_ GE115.out) | exact HB.out)) hb)
          clear BK114
          clear BK115
          clear HB
          have BK114 := n0_
          have BK115 := n1_
          have HB := n2_
          clear n0_ n1_ n2_
          (try clear hb)
          (try clear hb2)
          (try clear hk)
          (try clear hi)
          refine hK.out _ _ ⟨(blk_cell BK114.out 0).trans rfl, (blk_cell BK114.out 1).trans rfl, (blk_cell BK114.out 2).trans rfl, (blk_cell BK114.out 3).trans rfl, (blk_cell BK115.out 0).trans rfl, (blk_cell BK115.out 1).trans rfl, (blk_cell BK115.out 2).trans rfl, (blk_cell BK115.out 3).trans rfl, ((HB.out.cell (World.block_lt_of_cell? w _ hw116_0)).trans hw116_0), ((HB.out.cell (World.block_lt_of_cell? w _ hw116_1)).trans hw116_1), ((HB.out.cell (World.block_lt_of_cell? w _ hw116_2)).trans hw116_2), ((HB.out.cell (World.block_lt_of_cell? w _ hw116_3)).trans hw116_3), ((HB.out.cell (World.block_lt_of_cell? w _ hw117_0)).trans hw117_0), ((HB.out.cell (World.block_lt_of_cell? w _ hw117_1)).trans hw117_1), ((HB.out.cell (World.block_lt_of_cell? w _ hw117_2)).trans hw117_2), ((HB.out.cell (World.block_lt_of_cell? w _ hw117_3)).trans hw117_3)⟩ (fun hHeld => ?_)
          clear hK K
          refine norm_ (a' := ?_) ?_ ?_
          rotate_left
          ·show Act.put _ (some 51) _ = _
           simp only [Act.put, List.setIfInBounds_toArray, List.set_cons_zero, List.set_cons_succ, i64_w, i32_w]
           rfl
          refine pure_ (i := 11) (N := some 52) (v := ?_) (a' := ?_) #[tt,tt,tt,tt,tt,tt,tt,tt,tt,tt,tt,tt] rfl rfl (any_of HT_.out (by kernel_rfl)) (fun _ _ _ h => h) (Or.inl ⟨by rfl, ?_⟩) ?_ ?_
          rotate_left
          ·intro w'
           go_simp
           with_reducible rfl
          rotate_left
          ·simp only [Act.put, List.setIfInBounds_toArray, List.set_cons_zero, List.set_cons_succ, i64_w, i32_w]
           rfl
          refine done_ (done_of HT_.out (by kernel_rfl)) ?_
          try go_wp2
          go_roundg k2
          case measure => have := HJ2.out; have := HK2.out; omega
          case rel => exact ⟨(wrap64 (x5_2 + 1)), (by first | rfl | (simp; done) | (simp [*]; done)), H', ⟨by have := HJ2.out; have := HK2.out; omega⟩, ⟨by (with_reducible repeat (first | refine blk_drewN ?_ _ | refine blk_drew ?_ | refine blk_alloc ?_ _)); exact BK114.out⟩, ⟨by (with_reducible repeat (first | refine blk_drewN ?_ _ | refine blk_drew ?_ | refine blk_alloc ?_ _)); exact BK115.out⟩, ⟨by repeat (first | (with_reducible first | exact HB.out | apply below_alloc | apply pw_below_drewN | apply below_drew1 | refine below_set ?_ GE114.out | refine below_set ?_ GE115.out) | exact HB.out)⟩⟩
         ·replace c26 := Bool.eq_false_iff.mpr c26
          subst c26
          have H1 : (some false) = some r := by rw [if_neg (show ¬ (false = true) by decide)] at H; exact H
          clear H
          have H := H1
          clear H1
          obtain rfl := Option.some.inj H
          have hnb31 := NB114_115.out
          have hnc31 := NB115_114.out
          have hcz32_0 : wr.cell? ⟨gb114, 0, none⟩ = some (.int .u8 a0_0) := (blk_cell BK114.out 0).trans rfl
          have hcz32_1 : wr.cell? ⟨gb114, 1, none⟩ = some (.int .u64 a0_1) := (blk_cell BK114.out 1).trans rfl
          have hcz32_2 : wr.cell? ⟨gb114, 2, none⟩ = some (.string a0_2) := (blk_cell BK114.out 2).trans rfl
          have hcz32_3 : wr.cell? ⟨gb114, 3, none⟩ = some (.slice A0_3 l0_3.length c0_3) := (blk_cell BK114.out 3).trans rfl
          have hfz32_0 := blk_frozen BK114.out 0
          have hfz32_1 := blk_frozen BK114.out 1
          have hfz32_2 := blk_frozen BK114.out 2
          have hfz32_3 := blk_frozen BK114.out 3
          try go_wp2
          have n0_ := Aside0.mk (blk_drew BK114.out)
          have n1_ := Aside0.mk (blk_drew BK115.out)
          have n2_ := Aside0.mk (below_drew1 HB.out)
          clear BK114
          clear BK115
          clear HB
          have BK114 := n0_
          have BK115 := n1_
          have HB := n2_
          clear n0_ n1_ n2_
          have p116 : 0 ≤ (x5_2 : Int) := of_decide_eq_true (by first | (with_reducible assumption) | assumption)
          have q116 : x5_2 < (l0_3.length : Int) := of_decide_eq_true (by first | (with_reducible assumption) | assumption)
          obtain ⟨ad116, A116_3, c116_3, e116, hx116_0, hx116_1, hx116_2, hx116_3, hl116_3, hi116_3⟩ := at_T25 HR0_3.out x5_2 p116 q116
          have hw116_3 := hx116_3
          have hw116_2 := hx116_2
          have hw116_1 := hx116_1
          have hw116_0 := hx116_0
          cases e116
          replace hx116_0 := (HB.out.cell (World.block_lt_of_cell? w _ hx116_0)).trans hx116_0
          replace hx116_1 := (HB.out.cell (World.block_lt_of_cell? w _ hx116_1)).trans hx116_1
          replace hx116_2 := (HB.out.cell (World.block_lt_of_cell? w _ hx116_2)).trans hx116_2
          replace hx116_3 := (HB.out.cell (World.block_lt_of_cell? w _ hx116_3)).trans hx116_3
          have HR116_3 := Aside0.mk hi116_3
          have HC116_3 := Aside0.mk hl116_3
          clear hi116_3 hl116_3
          replace p116 := eq_true p116
          replace q116 := eq_true q116
          have p117 : 0 ≤ (x5_2 : Int) := of_decide_eq_true (by first | (with_reducible assumption) | assumption)
          have q117 : x5_2 < (l1_3.length : Int) := of_decide_eq_true (by first | (with_reducible assumption) | assumption)
          obtain ⟨ad117, A117_3, c117_3, e117, hx117_0, hx117_1, hx117_2, hx117_3, hl117_3, hi117_3⟩ := at_T25 HR1_3.out x5_2 p117 q117
          have hw117_3 := hx117_3
          have hw117_2 := hx117_2
          have hw117_1 := hx117_1
          have hw117_0 := hx117_0
          cases e117
          replace hx117_0 := (HB.out.cell (World.block_lt_of_cell? w _ hx117_0)).trans hx117_0
          replace hx117_1 := (HB.out.cell (World.block_lt_of_cell? w _ hx117_1)).trans hx117_1
          replace hx117_2 := (HB.out.cell (World.block_lt_of_cell? w _ hx117_2)).trans hx117_2
          replace hx117_3 := (HB.out.cell (World.block_lt_of_cell? w _ hx117_3)).trans hx117_3
          have HR117_3 := Aside0.mk hi117_3
          have HC117_3 := Aside0.mk hl117_3
          clear hi117_3 hl117_3
          replace p117 := eq_true p117
          replace q117 := eq_true q117
          refine start_ (n := 12) (S := fun w' => w'.cell? ⟨gb114, 0, none⟩ = some (.int .u8 a0_0) ∧ w'.cell? ⟨gb114, 1, none⟩ = some (.int .u64 a0_1) ∧ w'.cell? ⟨gb114, 2, none⟩ = some (.string a0_2) ∧ w'.cell? ⟨gb114, 3, none⟩ = some (.slice (some ad116) l0_3.length c0_3) ∧ w'.cell? ⟨gb115, 0, none⟩ = some (.int .u8 a1_0) ∧ w'.cell? ⟨gb115, 1, none⟩ = some (.int .u64 a1_1) ∧ w'.cell? ⟨gb115, 2, none⟩ = some (.string a1_2) ∧ w'.cell? ⟨gb115, 3, none⟩ = some (.slice (some ad117) l1_3.length c1_3) ∧ w'.cell? (ad116.add ((x5_2).toNat * 4)) = some (.int .u8 ((rd_T25 l0_3 x5_2).f0)) ∧ w'.cell? ⟨(ad116.add ((x5_2).toNat * 4)).block, (ad116.add ((x5_2).toNat * 4)).off + 1, none⟩ = some (.int .u64 ((rd_T25 l0_3 x5_2).f1)) ∧ w'.cell? ⟨(ad116.add ((x5_2).toNat * 4)).block, (ad116.add ((x5_2).toNat * 4)).off + 2, none⟩ = some (.string ((rd_T25 l0_3 x5_2).f2)) ∧ w'.cell? ⟨(ad116.add ((x5_2).toNat * 4)).block, (ad116.add ((x5_2).toNat * 4)).off + 3, none⟩ = some (.slice A116_3 ((rd_T25 l0_3 x5_2).f3).length c116_3) ∧ w'.cell? (ad117.add ((x5_2).toNat * 4)) = some (.int .u8 ((rd_T25 l1_3 x5_2).f0)) ∧ w'.cell? ⟨(ad117.add ((x5_2).toNat * 4)).block, (ad117.add ((x5_2).toNat * 4)).off + 1, none⟩ = some (.int .u64 ((rd_T25 l1_3 x5_2).f1)) ∧ w'.cell? ⟨(ad117.add ((x5_2).toNat * 4)).block, (ad117.add ((x5_2).toNat * 4)).off + 2, none⟩ = some (.string ((rd_T25 l1_3 x5_2).f2)) ∧ w'.cell? ⟨(ad117.add ((x5_2).toNat * 4)).block, (ad117.add ((x5_2).toNat * 4)).off + 3, none⟩ = some (.slice A117_3 ((rd_T25 l1_3 x5_2).f3).length c117_3)) (ds := []) #[ff,ff,ff,ff,ff,ff,ff,ff,ff,ff,ff,ff] (by kernel_rfl) rfl rfl ⟨(blk_cell BK114.out 0).trans rfl, (blk_cell BK114.out 1).trans rfl, (blk_cell BK114.out 2).trans rfl, (blk_cell BK114.out 3).trans rfl, (blk_cell BK115.out 0).trans rfl, (blk_cell BK115.out 1).trans rfl, (blk_cell BK115.out 2).trans rfl, (blk_cell BK115.out 3).trans rfl, ((HB.out.cell (World.block_lt_of_cell? w _ hw116_0)).trans hw116_0), ((HB.out.cell (World.block_lt_of_cell? w _ hw116_1)).trans hw116_1), ((HB.out.cell (World.block_lt_of_cell? w _ hw116_2)).trans hw116_2), ((HB.out.cell (World.block_lt_of_cell? w _ hw116_3)).trans hw116_3), ((HB.out.cell (World.block_lt_of_cell? w _ hw117_0)).trans hw117_0), ((HB.out.cell (World.block_lt_of_cell? w _ hw117_1)).trans hw117_1), ((HB.out.cell (World.block_lt_of_cell? w _ hw117_2)).trans hw117_2), ((HB.out.cell (World.block_lt_of_cell? w _ hw117_3)).trans hw117_3)⟩ (fun hHeld => ?_); refine with_tabW bellwetherref04_Same.tab6 bellwetherref04_Same.bits6 (fun HT_ HW_ => ?_)
          generalize wr.drew = w33 at BK114 BK115 HB HR116_3 HR117_3 hx116_0 hx116_1 hx116_2 hx116_3 hx117_0 hx117_1 hx117_2 hx117_3 hHeld ⊢
          refine pure_ (i := 0) (N := some 41) (v := ?_) (a' := ?_) #[tt,ff,ff,ff,ff,ff,ff,ff,ff,ff,ff,ff] rfl rfl (any_of HT_.out (by kernel_rfl)) (fun _ _ _ h => h) (Or.inl ⟨by rfl, ?_⟩) ?_ ?_
          rotate_left
          ·intro w'
           go_simp
           with_reducible rfl
          rotate_left
          ·simp only [Act.put, List.setIfInBounds_toArray, List.set_cons_zero, List.set_cons_succ, i64_w, i32_w]
           rfl
          refine pure_ (i := 2) (N := some 43) (v := ?_) (a' := ?_) #[tt,ff,tt,ff,ff,ff,ff,ff,ff,ff,ff,ff] rfl rfl (any_of HT_.out (by kernel_rfl)) (fun _ _ _ h => h) (Or.inl ⟨by rfl, ?_⟩) ?_ ?_
          rotate_left
          ·intro w'
           go_simp
           with_reducible rfl
          rotate_left
          ·simp only [Act.put, List.setIfInBounds_toArray, List.set_cons_zero, List.set_cons_succ, i64_w, i32_w]
           rfl
          refine pure_ (i := 5) (N := some 46) (v := ?_) (a' := ?_) #[tt,ff,tt,ff,ff,tt,ff,ff,ff,ff,ff,ff] rfl rfl (any_of HT_.out (by kernel_rfl)) (fun _ _ _ h => h) (Or.inl ⟨by rfl, ?_⟩) ?_ ?_
          rotate_left
          ·intro w'
           go_simp
           with_reducible rfl
          rotate_left
          ·simp only [Act.put, List.setIfInBounds_toArray, List.set_cons_zero, List.set_cons_succ, i64_w, i32_w]
           rfl
          refine pure_ (i := 7) (N := some 48) (v := ?_) (a' := ?_) #[tt,ff,tt,ff,ff,tt,ff,tt,ff,ff,ff,ff] rfl rfl (any_of HT_.out (by kernel_rfl)) (fun _ _ _ h => h) (Or.inl ⟨by rfl, ?_⟩) ?_ ?_
          rotate_left
          ·intro w'
           go_simp
           with_reducible rfl
          rotate_left
          ·simp only [Act.put, List.setIfInBounds_toArray, List.set_cons_zero, List.set_cons_succ, i64_w, i32_w]
           rfl
          refine take_ (i := 1) (N := some 42) (v := ?_) (a' := ?_) #[tt,tt,tt,ff,ff,tt,ff,tt,ff,ff,ff,ff] rfl rfl (take_ofW HT_.out HW_.out (by kernel_rfl)) (fun _ _ _ h => h) (Or.inl ⟨by rfl, ?_⟩) hHeld ?_ ?_
          rotate_left
          ·rintro w' ⟨s0, s1, s2, s3, s4, s5, s6, s7, s8, s9, s10, s11, s12, s13, s14, s15⟩
           go_simp
           with_reducible rfl
          rotate_left
          ·simp only [Act.put, List.setIfInBounds_toArray, List.set_cons_zero, List.set_cons_succ, i64_w, i32_w]
           rfl
          refine pure_ (i := 3) (N := some 44) (v := ?_) (a' := ?_) #[tt,tt,tt,tt,ff,tt,ff,tt,ff,ff,ff,ff] rfl rfl (any_of HT_.out (by kernel_rfl)) (fun _ _ _ h => h) (Or.inl ⟨by rfl, ?_⟩) ?_ ?_
          rotate_left
          ·intro w'
           go_simp
           with_reducible rfl
          rotate_left
          ·simp only [Act.put, List.setIfInBounds_toArray, List.set_cons_zero, List.set_cons_succ, i64_w, i32_w]
           rfl
          refine take_ (i := 4) (N := some 45) (v := ?_) (a' := ?_) #[tt,tt,tt,tt,tt,tt,ff,tt,ff,ff,ff,ff] rfl rfl (take_ofW HT_.out HW_.out (by kernel_rfl)) (fun _ _ _ h => h) (Or.inl ⟨by rfl, ?_⟩) hHeld ?_ ?_
          rotate_left
          ·rintro w' ⟨s0, s1, s2, s3, s4, s5, s6, s7, s8, s9, s10, s11, s12, s13, s14, s15⟩
           go_simp
           with_reducible rfl
          rotate_left
          ·simp only [Act.put, List.setIfInBounds_toArray, List.set_cons_zero, List.set_cons_succ, i64_w, i32_w]
           rfl
          refine take_ (i := 6) (N := some 47) (v := ?_) (a' := ?_) #[tt,tt,tt,tt,tt,tt,tt,tt,ff,ff,ff,ff] rfl rfl (take_ofW HT_.out HW_.out (by kernel_rfl)) (fun _ _ _ h => h) (Or.inl ⟨by rfl, ?_⟩) hHeld ?_ ?_
          rotate_left
          ·rintro w' ⟨s0, s1, s2, s3, s4, s5, s6, s7, s8, s9, s10, s11, s12, s13, s14, s15⟩
           go_simp
           with_reducible rfl
          rotate_left
          ·simp only [Act.put, List.setIfInBounds_toArray, List.set_cons_zero, List.set_cons_succ, i64_w, i32_w]
           rfl
          refine pure_ (i := 8) (N := some 49) (v := ?_) (a' := ?_) #[tt,tt,tt,tt,tt,tt,tt,tt,tt,ff,ff,ff] rfl rfl (any_of HT_.out (by kernel_rfl)) (fun _ _ _ h => h) (Or.inl ⟨by rfl, ?_⟩) ?_ ?_
          rotate_left
          ·intro w'
           go_simp
           with_reducible rfl
          rotate_left
          ·simp only [Act.put, List.setIfInBounds_toArray, List.set_cons_zero, List.set_cons_succ, i64_w, i32_w]
           rfl
          refine take_ (i := 9) (N := some 50) (v := ?_) (a' := ?_) #[tt,tt,tt,tt,tt,tt,tt,tt,tt,tt,ff,ff] rfl rfl (take_ofW HT_.out HW_.out (by kernel_rfl)) (fun _ _ _ h => h) (Or.inl ⟨by rfl, ?_⟩) hHeld ?_ ?_
          rotate_left
          ·rintro w' ⟨s0, s1, s2, s3, s4, s5, s6, s7, s8, s9, s10, s11, s12, s13, s14, s15⟩
           go_simp
           with_reducible rfl
          rotate_left
          ·simp only [Act.put, List.setIfInBounds_toArray, List.set_cons_zero, List.set_cons_succ, i64_w, i32_w]
           rfl
          refine one_ (i := 10) (N := some 51) #[tt,tt,tt,tt,tt,tt,tt,tt,tt,tt,tt,ff] rfl rfl (one_of HT_.out (by kernel_rfl)) (by decide) (fun K hK => ?_)
          refine goes_ Tryz.func11 (by kernel_rfl) rfl #[.agg #[.int .u8 ((rd_T25 l0_3 x5_2).f0), .int .u64 ((rd_T25 l0_3 x5_2).f1), .string ((rd_T25 l0_3 x5_2).f2), .slice A116_3 ((rd_T25 l0_3 x5_2).f3).length c116_3], .agg #[.int .u8 ((rd_T25 l1_3 x5_2).f0), .int .u64 ((rd_T25 l1_3 x5_2).f1), .string ((rd_T25 l1_3 x5_2).f2), .slice A117_3 ((rd_T25 l1_3 x5_2).f3).length c117_3]] (by rfl) rfl rfl (by (try simp only [List.map_toArray, List.map_cons, List.map_nil]); first | done | rfl | (simp only [List.length_drop, List.length_take]; rfl)) ?_
          with_reducible refine (ih k2 (by have := HJ2.out; have := HK2.out; omega) ((rd_T25 l0_3 x5_2).f0) ((rd_T25 l0_3 x5_2).f1) ((rd_T25 l0_3 x5_2).f2) _ _ ((rd_T25 l0_3 x5_2).f3) ((rd_T25 l1_3 x5_2).f0) ((rd_T25 l1_3 x5_2).f1) ((rd_T25 l1_3 x5_2).f2) _ _ ((rd_T25 l1_3 x5_2).f3) false _ ?side1 ?side2 ?side3 ?side4 A25.out).mono ?_
          (case side1 => repeat (first | exact (Kd.C_below HR116_3.out HB.out) | (with_reducible refine Kd.C_alloc ?_ _) | (with_reducible refine Kd.C_drewN ?_ _) | (with_reducible refine Kd.C_drew ?_)))
          (case side2 => exact HC116_3.out)
          (case side3 => repeat (first | exact (Kd.C_below HR117_3.out HB.out) | (with_reducible refine Kd.C_alloc ?_ _) | (with_reducible refine Kd.C_drewN ?_ _) | (with_reducible refine Kd.C_drew ?_)))
          (case side4 => exact HC117_3.out)
          rintro e w34 ⟨rfl, hb⟩
          refine ⟨_, rfl, ?_⟩
          have n0_ := Aside0.mk (blk_below (g := gb114) (o := .cells #[.int .u8 a0_0, .int .u64 a0_1, .string a0_2, .slice (some ad116) l0_3.length c0_3] 25 (0, 0)) (by (with_reducible repeat (first | refine blk_drewN ?_ _ | refine blk_drew ?_ | refine blk_alloc ?_ _)); exact BK114.out) hb)
          have n1_ := Aside0.mk (blk_below (g := gb115) (o := .cells #[.int .u8 a1_0, .int .u64 a1_1, .string a1_2, .slice (some ad117) l1_3.length c1_3] 25 (0, 0)) (by (with_reducible repeat (first | refine blk_drewN ?_ _ | refine blk_drew ?_ | refine blk_alloc ?_ _)); exact BK115.out) hb)
          have n2_ := Aside0.mk (below_step (by repeat (first | (with_reducible first | exact HB.out | apply below_alloc | apply pw_below_drewN | apply below_drew1 | refine below_set ?_ GE114.out | refine below_set ?_ GE115.out) | exact HB.out)) hb)
          clear BK114
          clear BK115
          clear HB
          have BK114 := n0_
          have BK115 := n1_
          have HB := n2_
          clear n0_ n1_ n2_
          (try clear hb)
          (try clear hb2)
          (try clear hk)
          (try clear hi)
          refine hK.out _ _ ⟨(blk_cell BK114.out 0).trans rfl, (blk_cell BK114.out 1).trans rfl, (blk_cell BK114.out 2).trans rfl, (blk_cell BK114.out 3).trans rfl, (blk_cell BK115.out 0).trans rfl, (blk_cell BK115.out 1).trans rfl, (blk_cell BK115.out 2).trans rfl, (blk_cell BK115.out 3).trans rfl, ((HB.out.cell (World.block_lt_of_cell? w _ hw116_0)).trans hw116_0), ((HB.out.cell (World.block_lt_of_cell? w _ hw116_1)).trans hw116_1), ((HB.out.cell (World.block_lt_of_cell? w _ hw116_2)).trans hw116_2), ((HB.out.cell (World.block_lt_of_cell? w _ hw116_3)).trans hw116_3), ((HB.out.cell (World.block_lt_of_cell? w _ hw117_0)).trans hw117_0), ((HB.out.cell (World.block_lt_of_cell? w _ hw117_1)).trans hw117_1), ((HB.out.cell (World.block_lt_of_cell? w _ hw117_2)).trans hw117_2), ((HB.out.cell (World.block_lt_of_cell? w _ hw117_3)).trans hw117_3)⟩ (fun hHeld => ?_)
          clear hK K
          refine norm_ (a' := ?_) ?_ ?_
          rotate_left
          ·show Act.put _ (some 51) _ = _
           simp only [Act.put, List.setIfInBounds_toArray, List.set_cons_zero, List.set_cons_succ, i64_w, i32_w]
           rfl
          refine pure_ (i := 11) (N := some 52) (v := ?_) (a' := ?_) #[tt,tt,tt,tt,tt,tt,tt,tt,tt,tt,tt,tt] rfl rfl (any_of HT_.out (by kernel_rfl)) (fun _ _ _ h => h) (Or.inl ⟨by rfl, ?_⟩) ?_ ?_
          rotate_left
          ·intro w'
           go_simp
           with_reducible rfl
          rotate_left
          ·simp only [Act.put, List.setIfInBounds_toArray, List.set_cons_zero, List.set_cons_succ, i64_w, i32_w]
           rfl
          refine done_ (done_of HT_.out (by kernel_rfl)) ?_
          try go_wp2
          go_ret
          exact ⟨by first | rfl | (simp [errW_none, errW_some] <;> rfl) | (simp [*, errW_none, errW_some] <;> rfl), by repeat (first | (with_reducible first | exact HB.out | apply below_alloc | apply pw_below_drewN | apply below_drew1 | refine below_set ?_ GE114.out | refine below_set ?_ GE115.out) | exact HB.out)⟩
        ·rw [if_neg c24] at H
         exact absurd H (by simp)
       ·rw [if_neg c23] at H
        exact absurd H (by simp)
      ·rw [if_neg c22] at H
       have c22b0 : decide (x5_2 < (l0_3.length : Int)) = false := decide_eq_false c22
       clear c22
       obtain rfl := Option.some.inj H
       have hnb35 := NB114_115.out
       have hnc35 := NB115_114.out
       have hcz36_0 : wr.cell? ⟨gb114, 0, none⟩ = some (.int .u8 a0_0) := (blk_cell BK114.out 0).trans rfl
       have hcz36_1 : wr.cell? ⟨gb114, 1, none⟩ = some (.int .u64 a0_1) := (blk_cell BK114.out 1).trans rfl
       have hcz36_2 : wr.cell? ⟨gb114, 2, none⟩ = some (.string a0_2) := (blk_cell BK114.out 2).trans rfl
       have hcz36_3 : wr.cell? ⟨gb114, 3, none⟩ = some (.slice A0_3 l0_3.length c0_3) := (blk_cell BK114.out 3).trans rfl
       have hfz36_0 := blk_frozen BK114.out 0
       have hfz36_1 := blk_frozen BK114.out 1
       have hfz36_2 := blk_frozen BK114.out 2
       have hfz36_3 := blk_frozen BK114.out 3
       go_wp2
       go_ret
       exact ⟨by first | rfl | (simp [errW_none, errW_some] <;> rfl) | (simp [*, errW_none, errW_some] <;> rfl), by repeat (first | (with_reducible first | exact HB.out | apply below_alloc | apply pw_below_drewN | apply below_drew1 | refine below_set ?_ GE114.out | refine below_set ?_ GE115.out) | exact HB.out)⟩
end Go.Proofs.YtdilbnggedidnaaGreat.PVal
