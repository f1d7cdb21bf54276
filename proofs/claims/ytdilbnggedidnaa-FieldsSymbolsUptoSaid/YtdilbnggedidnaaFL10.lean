import Derived.Test.YtdilbnggedidnaaFHOpenS
namespace Go.Proofs.Ytdilbnggedidnaa.PVal
open Go.RowKit Go.Shelf Go.Proofs.YtdilbnggedidnaaW.PrintWords Go.Proofs.YtdilbnggedidnaaW.PrintLast
set_option linter.unusedVariables false
set_option linter.unusedSimpArgs false
set_option maxRecDepth 100000 in
set_option maxHeartbeats 4000000 in
theorem symbols10_any (ts : List ByteArray) (x : S25) (w : World) (hts : ∀ s ∈ ts, s.size ≤ 4294967290) (A0 : Option Addr) (c0 : Nat) (ha0 : Kd.string.C w A0 ts.length ts) (hc0 : ts.length ≤ c0) (hx : okV x) (A : Option Addr) (c : Nat) (ha : k25.C w A x.f3.length x.f3) (hc : x.f3.length ≤ c) (hb : itemsN x + textsN x ≤ 1048576) :
  Calls Try.prog 10 #[.slice A0 ts.length c0, .agg #[.int .u8 x.f0, .int .u64 x.f1, .string x.f2, .slice A x.f3.length c]] w fun e w' => e = .returned (.bool true) ∧ Below w.heap.size w w' := by
 have HA0 := Aside0.mk ha0
 have HA := Aside0.mk ha
 have HTS := Aside0.mk hts
 have HOX := Aside0.mk hx
 have HBX := Aside0.mk hb
 clear ha0 ha hts hx hb
 by_cases h100 : 100 < ts.length
 ·go_enter Try.func10, Try.ntmps10
  go_wp2_with fail
  have hal := below_alloc (Below.refl w.heap.size w) (.cells #[.int .u8 x.f0, .int .u64 x.f1, .string x.f2, .slice A x.f3.length c] 25)
  refine (works38_any _).mono ?_
  rintro e w2 ⟨rfl, hb2⟩
  go_wp2_with fail
  go_ret
  exact ⟨rfl, below_step hal hb2⟩
 have hl100 : ts.length ≤ 100 := by omega
 clear h100
 go_enter Try.func10, Try.ntmps10
 go_wp2_with fail
 have bX := (Blk.new w #[.int .u8 x.f0, .int .u64 x.f1, .string x.f2, .slice A x.f3.length c] 25).alloc (.cells #[.int .u8 x.f0, .int .u64 x.f1, .string x.f2, .slice A x.f3.length c] 25)
 have bL := Blk.new (w.alloc (.cells #[.int .u8 x.f0, .int .u64 x.f1, .string x.f2, .slice A x.f3.length c] 25)) (flatK [⟨x, A, c⟩]).toArray 25
 have hB0 := below_alloc (below_alloc (Below.refl w.heap.size w) (.cells #[.int .u8 x.f0, .int .u64 x.f1, .string x.f2, .slice A x.f3.length c] 25)) (.cells #[.int .u8 x.f0, .int .u64 x.f1, .string x.f2, .slice A x.f3.length c] 25)
 rw [World.size_alloc] at bL
 have hCL := C_lit (ks := [⟨x, A, c⟩]) bL (by simp) (by
  intro q hq
  simp only [List.mem_cons, List.not_mem_nil, or_false] at hq
  rcases hq with rfl
  exact ⟨Kd.C_below HA.out hB0, hc⟩)
 refine (large14_any [x] _ 1 _ hCL (by simp) (by have := HBX.out; simp only [itemsL, textsL]; omega)).mono ?_
 rintro e w1 ⟨rfl, hb1⟩
 have BX := Aside0.mk (bX.below hb1)
 have HB1 := Aside0.mk (below_step hB0 hb1)
 clear bX bL hB0 hCL hb1
 by_cases hl : largeB [x] = true
 ·rw [hl]
  go_wp2_with fail
  refine (works38_any _).mono ?_
  rintro e w2 ⟨rfl, hb2⟩
  go_wp2_with fail
  go_ret
  exact ⟨rfl, below_step HB1.out hb2⟩
 replace hl : largeB [x] = false := by simpa using hl
 rw [hl]
 clear hl
 go_wp2_with fail
 go_loopg [5, 6] ts.length (fun gk v5 v6 wr => ∃ (i : Nat) (A2 : Option Addr) (c2 : Nat), v5 = .slice A2 i c2 ∧ v6 = .int .i64 (i : Int) ∧ Aside0 (i ≤ ts.length ∧ gk = ts.length - i) ∧ Aside0 (k25.R 25 wr w1.heap.size (fun _ => True) (.slice A2 i c2) ((ts.take i).map symV)) ∧ Aside0 (Below w1.heap.size w1 wr))
 case atStart => exact ⟨0, none, 0, rfl, rfl, ⟨by omega, by omega⟩, ⟨by simpa using Kd.R_nil _ _ _ _ _⟩, ⟨Below.refl _ _⟩⟩
 case round =>
  obtain ⟨i, A2, c2, rfl, rfl, HI, HO, HW⟩ := hrel
  obtain ⟨hi1, hgk⟩ := HI.out
  have HG := Aside0.mk hgk
  clear HI hgk
  by_cases hlt : i < ts.length
  ·obtain ⟨ad, eA, q0⟩ := Kd.at_string (Kd.C_below HA0.out (below_step HB1.out HW.out)) (i : Int) (by omega) (by omega)
   subst eA
   simp only [Int.toNat_natCast] at q0
   go_wp2_with fail
   refine (text24_any 21 (rdOf ByteArray.empty ts (i : Int)) _).mono ?_
   rintro e w2 ⟨rfl, hb2⟩
   have hlen : ((ts.take i).map symV).length = i := by rw [List.length_map, List.length_take]; omega
   have hM : Aside0 (k25.M w2 w1.heap.size (fun k => True ∧ some k ≠ (Value.slice A2 i c2).ownBlock) (symV (rdOf ByteArray.empty ts (i : Int))) [.int .u8 21, .int .u64 0, .string (rdOf ByteArray.empty ts (i : Int)), .slice none 0 0]) := ⟨k25_mkM w2 w1.heap.size _ (symV (rdOf ByteArray.empty ts (i : Int))) (Kd.R_nil _ _ _ _ _)⟩
   have HO2 := Aside0.mk (Kd.R_below HO.out hb2)
   have HW2 := Aside0.mk (below_step HW.out hb2)
   have HLN := Aside0.mk hlen
   clear q0 HO HW hb2 hlen
   go_wp2_with (at_builtin; refine Kd.R_append k25 (w0 := w1) w1.heap.size rfl (.tmp 28) (.tmp 34) 23 25 _ 56 rfl Try.underlying23 info25v rfl (by decide) (by decide) (.slice A2 i c2) ((ts.take i).map symV) (symV (rdOf ByteArray.empty ts (i : Int))) [.int .u8 21, .int .u64 0, .string (rdOf ByteArray.empty ts (i : Int)), .slice none 0 0] (fun _ => True) _ rfl rfl hM.out (fun _ h => h) (fun _ _ => trivial) HO2.out HW2.out HW2.out.size (by rw [HLN.out]; omega) ?_; intro v1 w3 hR hB hG hA)
   have htk : (ts.take i).map symV ++ [symV (rdOf ByteArray.empty ts (i : Int))] = (ts.take (i + 1)).map symV := by
    rw [List.take_succ_eq_append_getElem hlt, List.map_append, List.map_singleton]
    unfold rdOf
    rw [List.getD_eq_getElem?_getD, show (i : Int).toNat = i by omega, List.getElem?_eq_getElem hlt]
    rfl
   rw [htk] at hR
   obtain ⟨A3, c3, rfl⟩ := Kd.R_slice hR
   have hl2 : ((ts.take (i + 1)).map symV).length = i + 1 := by rw [List.length_map, List.length_take]; omega
   rw [hl2] at hR ⊢
   clear htk hl2
   go_roundg (ts.length - (i + 1))
   case measure => rw [HG.out]; omega
   case rel => exact ⟨i + 1, A3, c3, rfl, by go_num, ⟨by omega, rfl⟩, ⟨hR⟩, ⟨hB⟩⟩
  ·obtain rfl : i = ts.length := by omega
   have hO := HO.out
   rw [List.take_length] at hO
   have hcK := (Kd.R_reads' hO).2.1
   have HO2 := Aside0.mk hO
   clear hO HO
   have hCK := (Kd.R_reads' HO2.out).2.2
   have HCK := Aside0.mk hCK
   clear hCK
   go_wp2_with fail
   have hm21 := many21_any 24 (ts.map symV) (by rw [itemsL_sym]; omega) A2 c2 wr HCK.out (by rw [List.length_map]; exact hcK)
   rw [List.length_map] at hm21
   refine hm21.mono ?_
   rintro e w2 ⟨v3, rfl, hR3, hb2⟩
   have hal := below_alloc (Below.refl w2.heap.size w2) (.cells #[.int .u8 24, .int .u64 0, .string ⟨#[]⟩, v3] 25)
   have hq1 := HW.out.size
   have hq2 := hb2.size
   have hlen : (ts.map symV).length = ts.length := List.length_map _
   have hRk : k25.R 25 (w2.alloc (.cells #[.int .u8 24, .int .u64 0, .string ⟨#[]⟩, v3] 25)) w1.heap.size (fun k => k < w2.heap.size) (.slice A2 ts.length c2) (ts.map symV) := Kd.R_alloc (Kd.R_mono (Kd.R_bound (Kd.R_below HO2.out hb2)) (fun k hk => hk.2.2.1)) _
   have hRm : k25.R 25 (w2.alloc (.cells #[.int .u8 24, .int .u64 0, .string ⟨#[]⟩, v3] 25)) w1.heap.size (fun k => True ∧ some k ≠ (Value.slice (some ⟨w2.heap.size, 0, none⟩) 1 1).ownBlock) v3 (ts.map symV) := Kd.R_alloc (Kd.R_lower (Kd.R_mono (Kd.R_bound hR3) (fun k hk => ⟨trivial, fun e => by
    have h1 : k = w2.heap.size := by cases e; rfl
    have h2 := hk.2.2.1
    omega⟩)) hq1) _
   have hRl : k25.R 25 (w2.alloc (.cells #[.int .u8 24, .int .u64 0, .string ⟨#[]⟩, v3] 25)) w1.heap.size (fun _ => True) (.slice (some ⟨w2.heap.size, 0, none⟩) 1 1) [symM ts] := by
    refine ⟨fun _ _ => trivial, ?_⟩
    refine OwnRow.lit (ps := [symM ts]) w2 w1.heap.size (inner := [.int .u8 24, .int .u64 0, .string ⟨#[]⟩, v3]) ⟨rfl, fun j p hj => ?_⟩ (by omega) (by simp)
    match j, hj with
    | 0, hj => cases hj; exact k25_mkM _ _ _ (symM ts) hRm
    | j + 1, hj => simp at hj
   obtain ⟨A9, n9, he9, hl9, hr9⟩ := OwnRow.reads hRk.2
   rw [List.length_map] at he9 hr9
   cases he9
   have HRK := Aside0.mk hr9
   have HRL := Aside0.mk hRl
   have HWL := Aside0.mk (below_step (below_step HW.out hb2) hal)
   have HWE := HWL.out.size
   have HLN := Aside0.mk hlen
   have HOKP : Aside0 (∀ k, (k < w2.heap.size ∧ some k ≠ (Value.slice A2 ts.length c2).ownBlock) → True ∧ some k ≠ (Value.slice (some ⟨w2.heap.size, 0, none⟩) 1 1).ownBlock) := ⟨fun k hk => ⟨trivial, fun e => by
    have h1 : k = w2.heap.size := by cases e; rfl
    omega⟩⟩
   clear hRk hRm hRl hr9 hal hlen hb2 hR3 HO2 HCK HW hm21 hcK
   go_upto_region 9 with (at_builtin; refine Kd.R_append_rows k25 (w0 := w1) w1.heap.size rfl (.tmp 38) (.tmp 39) 23 25 _ 56 rfl Try.underlying23 info25v rfl (by decide) (by decide) (.slice (some ⟨w2.heap.size, 0, none⟩) 1 1) [symM ts] (ts.map symV) A2 ts.length c2 (fun _ => True) _ rfl rfl HRL.out HRK.out (fun _ _ h => h) HOKP.out (fun _ _ => trivial) HWL.out HWE (by simp; omega) ?_; intro v1 w3 hR hB hG hA)
   have e9 : [symM ts] ++ ts.map symV = symI ts := rfl
   rw [e9] at hR
   obtain ⟨A4, c4, rfl⟩ := Kd.R_slice hR
   have HB3 := Aside0.mk hB
   have BX3 := Aside0.mk (BX.out.below hB)
   have hO3 : Aside0 (OwnRow (fun p cs => k25.M w3 w1.heap.size (fun k => True ∧ some k ≠ (Value.slice A4 (symI ts).length c4).ownBlock) p cs ∨ k25.K w1 p cs) 25 4 w3 w1.heap.size (.slice A4 (symI ts).length c4) (symI ts)) := ⟨hR.2.imp_ (fun _ _ h => .inl h)⟩
   have hKx : Aside0 (k25.K w1 x [.int .u8 x.f0, .int .u64 x.f1, .string x.f2, .slice A x.f3.length c]) := ⟨k25_mk w1 x hc (Kd.C_below HA.out HB1.out)⟩
   have HLI := Aside0.mk (symI_length ts)
   have HQ3 := hB.size
   obtain ⟨p0, p1, p2, p3⟩ := BX3.out.c4
   clear hR hB hG hA HOKP HRK HRL HWL HWE HLN hq1 hq2 e9
   go_wp2_with (at_builtin; refine OwnRow.append (w0 := w1) (W := w3) w1.heap.size rfl (.tmp 41) (.tmp 43) 23 25 _ 4 56 rfl Try.underlying23 info25v rfl (by decide) (by decide) (.slice A4 (symI ts).length c4) (symI ts) x [.int .u8 x.f0, .int .u64 x.f1, .string x.f2, .slice A x.f3.length c] rfl rfl (.inr hKx.out) rfl (by intro u hu; simp only [List.mem_cons, List.not_mem_nil, or_false] at hu; rcases hu with rfl | rfl | rfl | rfl <;> rfl) hO3.out HB3.out HQ3 (by rw [HLI.out]; omega) ?_; intro v2 w4 hR hB hG hA)
   have hB4 : Below w1.heap.size w1 w4 := hB
   have hR4 : OwnRow (k25.K w4) 25 4 w4 w1.heap.size v2 (symA ts x) := hR.imp_ (fun p cs h => h.elim (fun m => k25.K_of_M (Kd.M_grown m hG (fun k hk => hk.2))) (fun k => k25.K_below hB4 k))
   obtain ⟨A5, c5, rfl, hc5, hC0⟩ := OwnRow.reads hR4
   have hC : k25.C w4 A5 (symA ts x).length (symA ts x) := hC0
   have HC := Aside0.mk hC
   have HB4 := Aside0.mk (below_step HB1.out hB4)
   have BX4 := Aside0.mk (BX.out.below hB4)
   have hn : (symA ts x).length = ts.length + 2 := symA_length ts x
   obtain ⟨n, en⟩ : ∃ n, (symA ts x).length = n := ⟨_, rfl⟩
   have hit : itemsL (symA ts x) ≤ 2000000 := by have := symA_items ts x; have := HBX.out; omega
   have HIT : Aside0 (itemsL (symA ts x) ≤ 4294967296) := ⟨by omega⟩
   have HOK := Aside0.mk (symA_ok HTS.out HOX.out)
   have hpi : itemsN (putV 1 (symA ts x)) ≤ 4000000 := by have := itemsL_trim (symA ts x); unfold putV; simp only [itemsN, itemsL]; omega
   have HPI := Aside0.mk hpi
   have HITS := Aside0.mk hit
   have hput := put39_any 1 (symA ts x) (by omega) A5 c5 w4 HC.out hc5
   have HCC := Aside0.mk hc5
   clear hR hB hG hA hR4 hC0 hC hB4 p0 p1 p2 p3 hO3 hKx HB3 BX3 HQ3 BX HB1 HLI hpi hit hc5
   rw [hn] at hput ⊢
   refine hput.mono ?_
   rintro e w5 ⟨A6, c6, rfl, hR6, hb6⟩
   have HR6 := Aside0.mk (Kd.R_reads' hR6)
   have HB6 := Aside0.mk (below_step HB4.out hb6)
   have HC6 := Aside0.mk (Kd.C_below HC.out hb6)
   have BX6 := Aside0.mk (BX4.out.below hb6)
   clear hR6 hb6 hput HC BX4 HB4
   go_wp2_with fail
   refine (right17_any (putV 1 (symA ts x)) (by have := HPI.out; omega) (okV_put ⟨by omega, by omega⟩ HOK.out) A6 c6 _ HR6.out.2.2 HR6.out.2.1).mono ?_
   rintro e w6 ⟨rfl, hb7⟩
   have HB7 := Aside0.mk (below_step HB6.out hb7)
   have HC7 := Aside0.mk (Kd.C_below HC6.out hb7)
   have BX7 := Aside0.mk (BX6.out.below hb7)
   clear hb7 HR6 HC6 BX6 HB6
   cases hr : rightB (putV 1 (symA ts x)) with
   | false =>
    go_wp2_with fail
    refine (works38_any _).mono ?_
    rintro e w8 ⟨rfl, hb8⟩
    go_wp2_with fail
    go_ret
    exact ⟨rfl, below_step HB7.out hb8⟩
   | true =>
   have HR := Aside0.mk hr
   clear hr
   go_wp2_with fail
   have h41 := list41_yes 1 ⟨by omega, by omega⟩ (symA ts x) (by have := HITS.out; omega) HOK.out A5 c5 w6 HC7.out HCC.out HR.out
   rw [hn] at h41
   refine h41.mono ?_
   rintro e w7 ⟨g, rfl, hg, hfs, hb8⟩
   have hq1 := HB7.out.size
   have hS := BX7.out.lt
   have HS := Aside0.mk (show SyS w x A c w6.heap.size g (trimL (symA ts x)) false w7 from ⟨below_step HB7.out hb8, hfs, BX7.out.below hb8, by omega⟩)
   have hgl : g < w7.heap.size := hfs.lt
   clear hfs hb8 h41 BX7 HC7 HB7 hS
   go_wp2_with fail
   refine (sym42_all HIT.out HS.out.2.1).mono ?_
   rintro e w8 ⟨A9, c9, rfl, hR9, hfs, hbg⟩
   have hRg : Kd.string.R 9 w8 w7.heap.size (fun k => k ≠ g) (.slice A9 ts.length c9) ts := Kd.R_mono (Kd.R_bound hR9) (fun k hk e => by
    have := hk.2.1
    omega)
   have HRG := Aside0.mk hRg
   have HS8 := Aside0.mk (HS.out.bg hfs hbg)
   clear hR9 hRg hfs hbg HS
   go_wp2_with fail
   refine (sym42_far HIT.out HS8.out.2.1 _ (by omega)).mono ?_
   rintro e w9 ⟨Ax, cx, rfl, hRx, hfs, hbg⟩
   have HS9 := Aside0.mk (HS8.out.bg hfs hbg)
   have HRG9 := Aside0.mk (strR_bg HRG.out hbg (fun k hk => hk))
   clear hRx hfs hbg HS8 HRG
   go_wp2_with fail
   refine (sym42_far HIT.out HS9.out.2.1 _ (by omega)).mono ?_
   rintro e w10 ⟨Ax, cx, rfl, hRx, hfs, hbg⟩
   have HS10 := Aside0.mk (HS9.out.bg hfs hbg)
   have HRG10 := Aside0.mk (strR_bg HRG9.out hbg (fun k hk => hk))
   clear hRx hfs hbg HS9 HRG9
   have hq10 : g < w10.heap.size := HS10.out.2.1.lt
   have hR10 := (Kd.R_reads' HRG10.out)
   have HRB := Aside0.mk hgl
   clear hR10 hgl
   go_wp2_with fail
   go_loopg [10, 11] ts.length (fun gk v10 v11 wr => ∃ i : Nat, v10 = .int .i64 (i : Int) ∧ Aside0 (i ≤ ts.length ∧ gk = ts.length - i) ∧ Aside0 (SyS w x A c w6.heap.size g (trimL (symA ts x)) false wr) ∧ Aside0 (Kd.string.R 9 wr w7.heap.size (fun k => k ≠ g) (.slice A9 ts.length c9) ts))
   case atStart => exact ⟨0, rfl, ⟨by omega, by omega⟩, HS10, HRG10⟩
   case round =>
    obtain ⟨i, rfl, HI, HSi, HRi⟩ := hrel
    obtain ⟨hi1, hgk⟩ := HI.out
    have HG := Aside0.mk hgk
    clear HI hgk
    by_cases hlt : i < ts.length
    ·go_wp2_with fail
     refine (sym42_one HIT.out HSi.out.2.1 _ i hlt (by omega)).mono ?_
     rintro e wk ⟨Ay, cy, rfl, hRy, hfs, hbg⟩
     have HSk := Aside0.mk (HSi.out.bg hfs hbg)
     have HRk := Aside0.mk (strR_bg HRi.out hbg (fun k hk => hk))
     obtain ⟨ad1, e1, q1⟩ := Kd.at_string (Kd.R_reads' HRk.out).2.2 (i : Int) (by omega) (by omega)
     obtain ⟨ad2, e2, q2⟩ := Kd.at_string (Kd.C_below HA0.out HSk.out.1) (i : Int) (by omega) (by omega)
     obtain ⟨ad3, e3, q3⟩ := Kd.at_string (Kd.R_reads' hRy).2.2 (0 : Int) (by omega) (by simp)
     subst e1 e2 e3
     rw [show rdOf ByteArray.empty [rdOf ByteArray.empty ts (i : Int)] 0 = rdOf ByteArray.empty ts (i : Int) from rfl] at q3
     simp only [Int.toNat_natCast] at q1 q2 q3
     obtain ⟨s, es⟩ : ∃ s, rdOf ByteArray.empty ts (i : Int) = s := ⟨_, rfl⟩
     rw [es] at q1 q2 q3
     clear es hRy hfs hbg
     go_wp2_with fail
     have hlt2 : (i : Int) < (ts.length : Int) := by omega
     have hi0 : (0 : Int) ≤ (i : Int) := by omega
     have ad0 : ad3.add 0 = ad3 := add_nought ad3
     rw [show (0 : Int).toNat = 0 from rfl, ad0] at q3
     go_quiet (fail)
     clear q1 q2 q3
     have HSd : Aside0 (SyS w x A c w6.heap.size g (trimL (symA ts x)) false (wk.drewN nq)) := ⟨HSk.out.bg (FS.below HSk.out.2.1 (below_drewN (Below.refl _ _) nq)) (Bg.of (below_drewN (Below.refl _ _) nq))⟩
     have HRd : Aside0 (Kd.string.R 9 (wk.drewN nq) w7.heap.size (fun k => k ≠ g) (.slice (some ad1) ts.length c9) ts) := ⟨Kd.R_below HRk.out (below_drewN (Below.refl _ _) nq)⟩
     generalize wk.drewN nq = wd at HSd HRd ⊢
     go_wp2_with fail
     go_roundg (ts.length - (i + 1))
     case measure => rw [HG.out]; omega
     case rel => exact ⟨i + 1, by go_num, ⟨by omega, rfl⟩, HSd, HRd⟩
    ·obtain rfl : i = ts.length := by omega
     go_wp2_with fail
     refine (done43_any HSi.out.2.1 _).mono ?_
     rintro e w12 ⟨he, rfl⟩
     rw [sym_done0] at he
     subst he
     go_wp2_with fail
     refine (sym42_last HIT.out HSi.out.2.1 _ (by omega)).mono ?_
     rintro e w13 ⟨Az, nz, cz, rfl, hfs, hbg⟩
     have HS13 := Aside0.mk (HSi.out.bg hfs hbg)
     obtain ⟨q0, _, _, q3⟩ := HS13.out.2.2.1.c4
     clear hfs hbg HSi HRi
     by_cases h1 : x.f0 = 1
     ·have hG : goodS x = true := by unfold goodS; simp [h1]
      have HD : Aside0 (∀ n : Int, n = (ts.length : Int) + 2 → doneN (trimL (symA ts x)) (spoilP (trimL (symA ts x)) ((ts.length : Int) + 1) false symP) n = 0) := ⟨fun n hn => sym_doneT HR.out hG n hn rfl⟩
      clear hG
      go_wp2_with fail
      refine (done43_any HS13.out.2.1 _).mono ?_
      rintro e w14 ⟨he, rfl⟩
      rw [HD.out] at he
      rotate_left
      ·omega
      subst he
      clear q0 q3
      go_wp2_with fail
      refine (works38_any _).mono ?_
      rintro e wz ⟨rfl, hbz⟩
      go_wp2_with fail
      go_ret
      exact ⟨rfl, below_step HS13.out.1 hbz⟩
     by_cases h21 : x.f0 = 21
     ·have hG : goodS x = true := by unfold goodS; simp [h21]
      have HD : Aside0 (∀ n : Int, n = (ts.length : Int) + 2 → doneN (trimL (symA ts x)) (spoilP (trimL (symA ts x)) ((ts.length : Int) + 1) false symP) n = 0) := ⟨fun n hn => sym_doneT HR.out hG n hn rfl⟩
      clear hG
      go_wp2_with fail
      refine (done43_any HS13.out.2.1 _).mono ?_
      rintro e w14 ⟨he, rfl⟩
      rw [HD.out] at he
      rotate_left
      ·omega
      subst he
      clear q0 q3
      go_wp2_with fail
      refine (works38_any _).mono ?_
      rintro e wz ⟨rfl, hbz⟩
      go_wp2_with fail
      go_ret
      exact ⟨rfl, below_step HS13.out.1 hbz⟩
     by_cases h24 : x.f0 = 24
     ·by_cases hk : x.f3.length = 0
      ·have hG : goodS x = true := by unfold goodS; simp [h24, hk]
       have HD : Aside0 (∀ n : Int, n = (ts.length : Int) + 2 → doneN (trimL (symA ts x)) (spoilP (trimL (symA ts x)) ((ts.length : Int) + 1) false symP) n = 0) := ⟨fun n hn => sym_doneT HR.out hG n hn rfl⟩
       clear hG
       go_wp2_with fail
       refine (done43_any HS13.out.2.1 _).mono ?_
       rintro e w14 ⟨he, rfl⟩
       rw [HD.out] at he
       rotate_left
       ·omega
       subst he
       clear q0 q3
       go_wp2_with fail
       refine (works38_any _).mono ?_
       rintro e wz ⟨rfl, hbz⟩
       go_wp2_with fail
       go_ret
       exact ⟨rfl, below_step HS13.out.1 hbz⟩
      ·obtain ⟨ad1, A1, c1, e1, k0, _, _, _, _, _⟩ := at_T25 (Kd.C_below HA.out HS13.out.1) 0 (by omega) (by omega)
       subst e1
       rw [show (0 : Int).toNat * 4 = 0 from rfl, add_nought] at k0
       have hl0 : (0 : Int) < x.f3.length := by omega
       by_cases hk21 : (rd_T25 x.f3 0).f0 = 21
       ·have hG : goodS x = true := by unfold goodS; simp [h24, hk21]
        have HD : Aside0 (∀ n : Int, n = (ts.length : Int) + 2 → doneN (trimL (symA ts x)) (spoilP (trimL (symA ts x)) ((ts.length : Int) + 1) false symP) n = 0) := ⟨fun n hn => sym_doneT HR.out hG n hn rfl⟩
        clear hG
        go_wp2_with fail
        refine (done43_any HS13.out.2.1 _).mono ?_
        rintro e w14 ⟨he, rfl⟩
        rw [HD.out] at he
        rotate_left
        ·omega
        subst he
        clear q0 q3
        go_wp2_with fail
        refine (works38_any _).mono ?_
        rintro e wz ⟨rfl, hbz⟩
        go_wp2_with fail
        go_ret
        exact ⟨rfl, below_step HS13.out.1 hbz⟩
       ·have hG : goodS x = false := by unfold goodS; simp [h24, hk21]; exact fun e => hk (by simp [e])
        have HD : Aside0 (∀ n : Int, n = (ts.length : Int) + 2 → doneN (trimL (symA ts x)) (spoilP (trimL (symA ts x)) ((ts.length : Int) + 1) false symP) n = 6) := ⟨fun n hn => sym_doneF HR.out hG n hn rfl⟩
        clear hG
        go_wp2_with fail
        refine (done43_any HS13.out.2.1 _).mono ?_
        rintro e w14 ⟨he, rfl⟩
        rw [HD.out] at he
        rotate_left
        ·omega
        subst he
        clear q0 q3
        go_wp2_with fail
        refine (works38_any _).mono ?_
        rintro e wz ⟨rfl, hbz⟩
        go_wp2_with fail
        go_ret
        exact ⟨congrArg (fun b => Ending.returned (.bool b)) (by simp [hk, hk21]), below_step HS13.out.1 hbz⟩
     ·have hG : goodS x = false := by unfold goodS; simp [h1, h21, h24]
      have HD : Aside0 (∀ n : Int, n = (ts.length : Int) + 2 → doneN (trimL (symA ts x)) (spoilP (trimL (symA ts x)) ((ts.length : Int) + 1) false symP) n = 6) := ⟨fun n hn => sym_doneF HR.out hG n hn rfl⟩
      clear hG
      go_wp2_with fail
      refine (done43_any HS13.out.2.1 _).mono ?_
      rintro e w14 ⟨he, rfl⟩
      rw [HD.out] at he
      rotate_left
      ·omega
      subst he
      clear q0 q3
      go_wp2_with fail
      refine (works38_any _).mono ?_
      rintro e wz ⟨rfl, hbz⟩
      go_wp2_with fail
      go_ret
      exact ⟨congrArg (fun b => Ending.returned (.bool b)) (by simp [h1, h21, h24]), below_step HS13.out.1 hbz⟩
end Go.Proofs.Ytdilbnggedidnaa.PVal
