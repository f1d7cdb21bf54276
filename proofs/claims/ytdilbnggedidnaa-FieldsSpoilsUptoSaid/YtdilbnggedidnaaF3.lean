import Derived.Test.YtdilbnggedidnaaF2
namespace Go.Proofs.Ytdilbnggedidnaa.PVal
open Go.RowKit Go.Shelf Go.Proofs.YtdilbnggedidnaaW.PrintWords Go.Proofs.YtdilbnggedidnaaW.PrintLast
set_option linter.unusedVariables false
set_option linter.unusedSimpArgs false
theorem okL_take : ∀ {l : List S25}, okL l → ∀ n, okL (l.take n)
 | [], _, n => by simp; trivial
 | x :: l, h, 0 => trivial
 | x :: l, h, n + 1 => by
  rw [okL] at h
  rw [List.take_succ_cons, okL]
  exact ⟨h.1, okL_take h.2 n⟩
theorem okV_put {code : Int} {l : List S25} (h0 : u64R code) (h : okL l) : okV (putV code l) := by
 unfold putV trimL
 rw [okV, okL, okL, okL, okV, okV]
 exact ⟨⟨⟨by omega, by omega⟩, by decide⟩, ⟨⟨h0, by decide⟩, trivial⟩, ⟨⟨⟨by omega, by omega⟩, by decide⟩, okL_take h _⟩, trivial⟩
theorem newF_put (code : Int) (l : List S25) (name : ByteArray) : newF (putV code l) code name = if rightB (putV code l) = true then some (trimL l) else none := by
 have hc : calledB ⟨6, code, ⟨#[]⟩, []⟩ code name = true := by unfold calledB; simp
 unfold newF
 by_cases h : rightB (putV code l) = true
 ·rw [if_pos ⟨h, rfl, rfl, hc⟩, if_pos h]; rfl
 ·rw [if_neg (fun hh => h hh.1), if_neg h]
set_option maxRecDepth 100000 in
set_option maxHeartbeats 2000000 in
theorem list41_yes (code : Int) (hcode : u64R code) (l : List S25) (hs : itemsL l ≤ 4000000000) (ho : okL l) (A : Option Addr) (c : Nat) (w : World) (ha : k25.C w A l.length l) (hc : l.length ≤ c) (h : rightB (putV code l) = true) :
  Calls Try.prog 41 #[.int .u64 code, .slice A l.length c] w fun e w' => ∃ g, e = .returned (.pointer (some ⟨g, 0, none⟩)) ∧ w.heap.size ≤ g ∧ FS w' w.heap.size g (trimL l) false ∧ Below w.heap.size w w' := by
 have HA := Aside0.mk ha
 have hit := itemsL_trim l
 have hN : itemsN (putV code l) ≤ 4294967296 := by unfold putV; simp only [itemsN, itemsL]; omega
 have HO := Aside0.mk (okV_put hcode ho)
 have HN : Aside0 (newF (putV code l) code ⟨#[]⟩ = some (trimL l)) := ⟨by rw [newF_put, h]; rfl⟩
 clear ha ho h
 go_enter Try.func41, Try.ntmps41
 go_wp2_with fail
 refine (put39_any code l hs A c w HA.out hc).mono ?_
 rintro e w2 ⟨A2, c2, rfl, hR, hb2⟩
 have HB2 := Aside0.mk hb2
 have HR := Aside0.mk (Kd.R_reads' hR)
 clear hR hb2
 go_wp2_with fail
 refine (new44_yes (putV code l) hN HO.out code ⟨#[]⟩ A2 c2 _ HR.out.2.2 HR.out.2.1 HN.out).mono ?_
 rintro e w3 ⟨g, rfl, hg, hfs, hb3⟩
 have HFS0 := hfs
 have HFS : Aside0 (FS w3 w.heap.size g (trimL l) false) := ⟨by
  obtain ⟨A3, c3, h1, h2⟩ := HFS0
  exact ⟨A3, c3, h1, Kd.R_lower h2 HB2.out.size⟩⟩
 have hsz2 := HB2.out.size
 clear hfs HFS0
 go_wp2_with fail
 go_ret
 exact ⟨g, rfl, by omega, HFS.out, below_step HB2.out hb3⟩
set_option maxRecDepth 100000 in
set_option maxHeartbeats 2000000 in
theorem list41_no (code : Int) (hcode : u64R code) (l : List S25) (hs : itemsL l ≤ 4000000000) (ho : okL l) (A : Option Addr) (c : Nat) (w : World) (ha : k25.C w A l.length l) (hc : l.length ≤ c) (h : rightB (putV code l) = false) :
  Calls Try.prog 41 #[.int .u64 code, .slice A l.length c] w fun e w' => e = .returned (.pointer none) ∧ Below w.heap.size w w' := by
 have HA := Aside0.mk ha
 have hit := itemsL_trim l
 have hN : itemsN (putV code l) ≤ 4294967296 := by unfold putV; simp only [itemsN, itemsL]; omega
 have HO := Aside0.mk (okV_put hcode ho)
 have HN : Aside0 (newF (putV code l) code ⟨#[]⟩ = none) := ⟨by rw [newF_put, h]; rfl⟩
 clear ha ho h
 go_enter Try.func41, Try.ntmps41
 go_wp2_with fail
 refine (put39_any code l hs A c w HA.out hc).mono ?_
 rintro e w2 ⟨A2, c2, rfl, hR, hb2⟩
 have HB2 := Aside0.mk hb2
 have HR := Aside0.mk (Kd.R_reads' hR)
 clear hR hb2
 go_wp2_with fail
 refine (new44_no (putV code l) hN HO.out code ⟨#[]⟩ A2 c2 _ HR.out.2.2 HR.out.2.1 HN.out).mono ?_
 rintro e w3 ⟨rfl, hb3⟩
 go_wp2_with fail
 go_ret
 exact ⟨rfl, below_step HB2.out hb3⟩
def symP (x : S25) : Bool := (x.f0 == 21) || ((x.f0 == 24) && !(x.f3.any fun k => !(k.f0 == 21)))
def symL (x : S25) : List ByteArray := if x.f0 = 21 then [x.f2] else x.f3.map (·.f2)
theorem kindP_one (k : Int) (x : S25) : kindP [k] x = (x.f0 == k) := by unfold kindP; simp
def SymC (w : World) (p b : Nat) : Prop := Blk w p #[.func (.func 98) #[] #[.pointer (some ⟨b, 0, none⟩)]] 29 ∧ Fit 98 [.pointer (some ⟨b, 0, none⟩)] (kindP [21]) w
theorem SymC.below {w w' : World} {p b : Nat} (h : SymC w p b) (hb : Below w.heap.size w w') : SymC w' p b := ⟨h.1.below hb, h.2.later hb⟩
def Pred71 (b : Nat) (p : S25 → Bool) (w : World) (x : S25) : Prop := ∀ (A : Option Addr) (c : Nat) (w' : World), Below w.heap.size w w' → k25.C w' A x.f3.length x.f3 → x.f3.length ≤ c →
 Calls Try.prog 71 #[.agg #[.int .u8 x.f0, .int .u64 x.f1, .string x.f2, .slice A x.f3.length c], .pointer (some ⟨b, 0, none⟩)] w' fun e w2 => e = .returned (.bool (p x)) ∧ Below w'.heap.size w' w2
set_option maxHeartbeats 1000000 in
theorem indexFunc_71 (b : Nat) (p : S25 → Bool) (l : List S25) (A : Option Addr) (c : Nat) (w : World) (hp : ∀ x ∈ l, Pred71 b p w x) (ha : k25.C w A l.length l) (hc : l.length ≤ c) :
  Calls Try.prog 100 #[.slice A l.length c, .func (.func 71) #[] #[.pointer (some ⟨b, 0, none⟩)]] w fun e w' => e = .returned (.int .i64 (idxF p l 0)) ∧ Below w.heap.size w w' := by
 have hm : l.length ≤ 9223372036854775807 := Kd.C_max ha
 have HA := Aside0.mk ha
 have HP := Aside0.mk hp
 clear ha hp
 go_enter Try.func100, Try.ntmps100
 go_wp2_with fail
 go_loopg [8] l.length (fun gk v8 wr => ∃ i : Int, v8 = .int .i64 i ∧ Aside0 (0 ≤ i ∧ i ≤ l.length ∧ gk = l.length - i.toNat ∧ idxF p (l.drop i.toNat) i = idxF p l 0) ∧ Aside0 (Below w.heap.size w wr))
 case atStart => exact ⟨0, rfl, ⟨by omega, by omega, by simp, by simp⟩, ⟨Below.refl _ _⟩⟩
 case round =>
  obtain ⟨i, rfl, HI, HW⟩ := hrel
  obtain ⟨hi0, hi1, hgk, hv⟩ := HI.out
  have HG := Aside0.mk hgk
  have HV := Aside0.mk hv
  clear HI hgk hv
  by_cases hlt : i < l.length
  ·obtain ⟨ad1, A1, c1, e1, hx0, hx1, hx2, hx3, hl1, hC1⟩ := at_T25 (Kd.C_below HA.out HW.out) i hi0 hlt
   cases e1
   have HC1 := Aside0.mk hC1
   have HX := Aside0.mk (HP.out (rd_T25 l i) (rd_mem hi0 hlt))
   clear hC1
   go_wp2_with fail
   refine (HX.out A1 c1 _ HW.out HC1.out hl1).mono ?_
   rintro e w2 ⟨rfl, hb⟩
   have HW2 : Aside0 (Below w.heap.size w w2) := ⟨below_step HW.out hb⟩
   have hdr : idxF p (l.drop i.toNat) i = if p (rd_T25 l i) then i else idxF p (l.drop (i + 1).toNat) (i + 1) := by rw [drop_rd hi0 hlt, idxF]
   rw [HV.out] at hdr
   have HD := Aside0.mk hdr
   clear hdr hb
   cases hq : p (rd_T25 l i) with
   | true =>
    have HQ := Aside0.mk hq
    clear hq
    go_wp2_with fail
    go_ret
    exact ⟨by rw [HD.out, HQ.out]; rfl, HW2.out⟩
   | false =>
    have HQ := Aside0.mk hq
    clear hq
    go_wp2_with fail
    go_roundg (l.length - (i + 1).toNat)
    case measure => rw [HG.out]; omega
    case rel => exact ⟨i + 1, by go_num, ⟨by omega, by omega, rfl, by rw [HD.out, HQ.out]; rfl⟩, HW2⟩
  ·have he : idxF p l 0 = -1 := by rw [← HV.out, List.drop_of_length_le (by omega)]; rfl
   have HE := Aside0.mk he
   clear he
   go_wp2_with fail
   go_ret
   exact ⟨by rw [HE.out]; rfl, HW.out⟩
theorem containsFunc_71 (b : Nat) (p : S25 → Bool) (l : List S25) (A : Option Addr) (c : Nat) (w : World) (hp : ∀ x ∈ l, Pred71 b p w x) (ha : k25.C w A l.length l) (hc : l.length ≤ c) :
  Calls Try.prog 70 #[.slice A l.length c, .func (.func 71) #[] #[.pointer (some ⟨b, 0, none⟩)]] w fun e w' => e = .returned (.bool (l.any p)) ∧ Below w.heap.size w w' := by
 have HA := Aside0.mk ha
 have HP := Aside0.mk hp
 clear ha hp
 go_enter Try.func70, Try.ntmps70
 go_wp2_with fail
 refine (indexFunc_71 b p l A c w HP.out HA.out hc).mono ?_
 rintro e w2 ⟨rfl, hb⟩
 have HW := Aside0.mk hb
 have HE := Aside0.mk (idxF_any p l 0 (by omega))
 clear hb
 go_wp2_with fail
 go_ret
 exact ⟨by rw [← HE.out]; rfl, HW.out⟩
set_option maxRecDepth 100000 in
set_option maxHeartbeats 2000000 in
theorem pred71_of (p b : Nat) (w : World) (hS : SymC w p b) (x : S25) : Pred71 p (fun k => !(k.f0 == 21)) w x := by
 intro A c w' hb ha hc
 have HS := Aside0.mk (hS.below hb)
 have q0 := cell_al HS.out.1.c1
 have HA := Aside0.mk ha
 clear hS hb ha
 go_enter Try.func71, Try.ntmps71
 go_wp2_with fail
 have hal := below_alloc (Below.refl w'.heap.size w') (.cells #[.int .u8 x.f0, .int .u64 x.f1, .string x.f2, .slice A x.f3.length c] 25)
 refine (HS.out.2 x A c _ hal (Kd.C_below HA.out hal) hc).mono ?_
 rintro e w2 ⟨he, hb2⟩
 rw [kindP_one] at he
 subst he
 go_wp2_with fail
 go_ret
 exact ⟨rfl, below_step hal hb2⟩
set_option maxRecDepth 100000 in
set_option maxHeartbeats 2000000 in
theorem fit69 (p b : Nat) (w : World) (hS : SymC w p b) : Fit 69 [.pointer (some ⟨p, 0, none⟩)] symP w := by
 intro x A c w' hb ha hc
 show Calls Try.prog 69 #[.agg #[.int .u8 x.f0, .int .u64 x.f1, .string x.f2, .slice A x.f3.length c], .pointer (some ⟨p, 0, none⟩)] w' _
 have HS := Aside0.mk (hS.below hb)
 have q0 := cell_al HS.out.1.c1
 have HA := Aside0.mk ha
 have HD : Aside0 (symP x = ((x.f0 == 21) || ((x.f0 == 24) && !(x.f3.any fun k => !(k.f0 == 21))))) := ⟨rfl⟩
 have bX := Blk.new w' #[.int .u8 x.f0, .int .u64 x.f1, .string x.f2, .slice A x.f3.length c] 25
 have hal := below_alloc (Below.refl w'.heap.size w') (.cells #[.int .u8 x.f0, .int .u64 x.f1, .string x.f2, .slice A x.f3.length c] 25)
 have HAL := Aside0.mk hal
 obtain ⟨p0, p1, p2, p3⟩ := bX.c4
 have BX := Aside0.mk bX
 clear hS hb ha bX hal
 go_enter Try.func69, Try.ntmps69
 go_wp2_with fail
 refine (HS.out.2 x A c _ HAL.out (Kd.C_below HA.out HAL.out) hc).mono ?_
 rintro e w2 ⟨he, hb2⟩
 rw [kindP_one] at he
 have bX2 := BX.out.below hb2
 have HB2 := Aside0.mk (below_step HAL.out hb2)
 have HS2 := Aside0.mk ((HS.out.below HAL.out).below hb2)
 clear p0 p1 p2 p3 q0 hb2 BX
 cases h21 : (x.f0 == 21) with
 | true =>
  rw [h21] at he
  subst he
  have HE : Aside0 (symP x = true) := ⟨by rw [HD.out, h21]; rfl⟩
  clear h21
  go_wp2_with fail
  go_ret
  exact ⟨by rw [HE.out]; rfl, HB2.out⟩
 | false =>
  rw [h21] at he
  subst he
  obtain ⟨p0, p1, p2, p3⟩ := bX2.c4
  cases h24 : (x.f0 == 24) with
  | false =>
   have HE : Aside0 (symP x = false) := ⟨by rw [HD.out, h21, h24]; rfl⟩
   clear h21
   go_wp2_with fail
   go_ret
   exact ⟨by rw [HE.out]; rfl, HB2.out⟩
  | true =>
   have HE : Aside0 (symP x = !(x.f3.any fun k => !(k.f0 == 21))) := ⟨by rw [HD.out, h21, h24]; rfl⟩
   clear h21
   go_wp2_with fail
   refine (containsFunc_71 p (fun k => !(k.f0 == 21)) x.f3 A c _ (fun y hy => pred71_of p b _ HS2.out y) (Kd.C_below HA.out HB2.out) hc).mono ?_
   rintro e w3 ⟨rfl, hb3⟩
   have HB3 := Aside0.mk (below_step HB2.out hb3)
   clear p0 p1 p2 p3 hb3
   go_wp2_with fail
   go_ret
   exact ⟨by rw [HE.out]; rfl, HB3.out⟩
end Go.Proofs.Ytdilbnggedidnaa.PVal
namespace Go.Proofs.Ytdilbnggedidnaa.PVal
open Go.RowKit Go.Shelf Go.Proofs.YtdilbnggedidnaaW.PrintWords Go.Proofs.YtdilbnggedidnaaW.PrintLast
set_option linter.unusedVariables false
set_option linter.unusedSimpArgs false
theorem info9v : (Try.prog.info? 9).map (fun i => (i.zero, i.size, i.bytes)) = some (some (.string ⟨#[]⟩), 1, 16) := by kernel_rfl
theorem R_str1 {w : World} {base : Nat} (hb : base ≤ w.heap.size) (s : ByteArray) : Kd.string.R 9 (w.alloc (.cells #[.string s] 9)) base (fun _ => True) (.slice (some ⟨w.heap.size, 0, none⟩) 1 1) [s] := by
 refine ⟨fun _ _ => trivial, ?_⟩
 refine OwnRow.lit (ps := [s]) w base (inner := [.string s]) ⟨rfl, fun j p hj => ?_⟩ hb (by simp)
 match j, hj with
 | 0, hj => cases hj; rfl
 | j + 1, hj => simp at hj
set_option maxRecDepth 100000 in
set_option maxHeartbeats 2000000 in
theorem sym73_any (p b : Nat) (w : World) (hS : SymC w p b) (x : S25) (hm : x.f3.length ≤ 4294967296) (A : Option Addr) (c : Nat) (ha : k25.C w A x.f3.length x.f3) (hc : x.f3.length ≤ c) :
  Calls Try.prog 73 #[.agg #[.int .u8 x.f0, .int .u64 x.f1, .string x.f2, .slice A x.f3.length c], .pointer (some ⟨p, 0, none⟩)] w fun e w' => ∃ A' c', e = .returned (.slice A' (symL x).length c') ∧ Kd.string.R 9 w' w.heap.size (fun _ => True) (.slice A' (symL x).length c') (symL x) ∧ Below w.heap.size w w' := by
 have HS := Aside0.mk hS
 have q0 := cell_al HS.out.1.c1
 have HA := Aside0.mk ha
 have hal := below_alloc (Below.refl w.heap.size w) (.cells #[.int .u8 x.f0, .int .u64 x.f1, .string x.f2, .slice A x.f3.length c] 25)
 have HAL := Aside0.mk hal
 have BX := Aside0.mk (Blk.new w #[.int .u8 x.f0, .int .u64 x.f1, .string x.f2, .slice A x.f3.length c] 25)
 obtain ⟨p0, p1, p2, p3⟩ := BX.out.c4
 clear hS ha hal
 go_enter Try.func73, Try.ntmps73
 go_wp2_with fail
 refine (HS.out.2 x A c _ HAL.out (Kd.C_below HA.out HAL.out) hc).mono ?_
 rintro e w2 ⟨he, hb2⟩
 rw [kindP_one] at he
 have bX2 := BX.out.below hb2
 have HB2 := Aside0.mk (below_step HAL.out hb2)
 clear p0 p1 p2 p3 q0 hb2 BX
 obtain ⟨p0, p1, p2, p3⟩ := bX2.c4
 by_cases h21 : x.f0 = 21
 ·have HE : Aside0 (symL x = [x.f2]) := ⟨if_pos h21⟩
  rw [show (x.f0 == 21) = true by simp [h21]] at he
  subst he
  clear h21
  go_wp2_with fail
  go_ret
  refine ⟨some ⟨w2.heap.size, 0, none⟩, 1, by rw [HE.out]; rfl, ?_, below_alloc HB2.out _⟩
  rw [HE.out]
  exact R_str1 HB2.out.size x.f2
 ·have HE : Aside0 (symL x = x.f3.map (·.f2)) := ⟨if_neg h21⟩
  rw [show (x.f0 == 21) = false by simp [h21]] at he
  subst he
  have HC2 := Aside0.mk (Kd.C_below HA.out HB2.out)
  clear h21
  go_wp2_with fail
  go_loopg [3, 15] x.f3.length (fun gk v3 v15 wr => ∃ (i : Int) (A2 : Option Addr) (n2 c2 : Nat), v3 = .slice A2 n2 c2 ∧ v15 = .int .i64 i ∧ Aside0 (0 ≤ i ∧ i ≤ x.f3.length ∧ gk = x.f3.length - i.toNat ∧ n2 = i.toNat) ∧ Aside0 (Kd.string.R 9 wr w.heap.size (fun _ => True) (.slice A2 n2 c2) ((x.f3.take i.toNat).map (·.f2))) ∧ Aside0 (Below w.heap.size w wr))
  case atStart => exact ⟨0, none, 0, 0, rfl, rfl, ⟨by omega, by omega, by simp, rfl⟩, ⟨by simpa using Kd.R_nil _ _ _ _ _⟩, HB2⟩
  case round =>
   obtain ⟨i, A2, n2, c2, rfl, rfl, HI, HO, HW⟩ := hrel
   obtain ⟨hi0, hi1, hgk, rfl⟩ := HI.out
   have HG := Aside0.mk hgk
   clear HI hgk
   by_cases hlt : i < x.f3.length
   ·obtain ⟨ad1, A1, c1, e1, hx0, hx1, hx2, hx3, hl1, hC1⟩ := at_T25 (Kd.C_below HA.out HW.out) i hi0 hlt
    cases e1
    have htk := take_rd hi0 hlt
    have hln : (x.f3.take i.toNat).length = i.toNat := by rw [List.length_take]; omega
    have HTK := Aside0.mk htk
    have HLN := Aside0.mk hln
    have HO2 := Aside0.mk (Kd.R_alloc HO.out (.cells #[.int .u8 (rd_T25 x.f3 i).f0, .int .u64 (rd_T25 x.f3 i).f1, .string (rd_T25 x.f3 i).f2, .slice A1 (rd_T25 x.f3 i).f3.length c1] 25))
    have HW2 := Aside0.mk (below_alloc HW.out (.cells #[.int .u8 (rd_T25 x.f3 i).f0, .int .u64 (rd_T25 x.f3 i).f1, .string (rd_T25 x.f3 i).f2, .slice A1 (rd_T25 x.f3 i).f3.length c1] 25))
    clear hC1 htk hln HO HW
    go_wp2_with (at_builtin; refine Kd.R_append Kd.string (w0 := w) w.heap.size rfl (.tmp 19) (.tmp 22) 46 9 _ 16 rfl Try.underlying46 info9v rfl (by decide) (by decide) (.slice A2 i.toNat c2) ((x.f3.take i.toNat).map (·.f2)) (rd_T25 x.f3 i).f2 [.string (rd_T25 x.f3 i).f2] (fun _ => True) (fun k => True ∧ some k ≠ (Value.slice A2 i.toNat c2).ownBlock) rfl (by rw [World.size_alloc]; rfl) rfl (fun _ h => h) (fun _ _ => trivial) HO2.out HW2.out HW2.out.size (by rw [List.length_map, HLN.out]; omega) ?_; intro v1 w3 hR hB hG hA)
    rw [← List.map_singleton (f := fun z : S25 => z.f2), ← List.map_append, ← HTK.out] at hR
    obtain ⟨A3, c3, rfl⟩ := Kd.R_slice hR
    have hln2 : ((x.f3.take (i + 1).toNat).map (·.f2)).length = (i + 1).toNat := by rw [List.length_map, List.length_take]; omega
    go_roundg (x.f3.length - (i + 1).toNat)
    case measure => rw [HG.out]; omega
    case rel => exact ⟨i + 1, A3, ((x.f3.take (i + 1).toNat).map (·.f2)).length, c3, rfl, by go_num, ⟨by omega, by omega, rfl, hln2⟩, ⟨hR⟩, ⟨hB⟩⟩
   ·obtain rfl : i = x.f3.length := by omega
    have hO := HO.out
    rw [Int.toNat_natCast, List.take_length] at hO
    have HO3 := Aside0.mk hO
    clear hO HO
    go_wp2_with fail
    go_ret
    refine ⟨A2, c2, by rw [HE.out]; simp, ?_, HW.out⟩
    rw [HE.out, List.length_map]
    exact HO3.out
end Go.Proofs.Ytdilbnggedidnaa.PVal
namespace Go.Proofs.Ytdilbnggedidnaa.PVal
open Go.RowKit Go.Shelf Go.Proofs.YtdilbnggedidnaaW.PrintWords Go.Proofs.YtdilbnggedidnaaW.PrintLast
set_option linter.unusedVariables false
set_option linter.unusedSimpArgs false
def StrsPost (r : List ByteArray) (base g : Nat) (l : List S25) (sp : Bool) (w : World) (e : Ending) (w' : World) : Prop :=
 ∃ A' c', e = .returned (.slice A' r.length c') ∧ Kd.string.R 9 w' w.heap.size (fun _ => True) (.slice A' r.length c') r ∧ FS w' base g l sp ∧ Bg g w w'
set_option maxRecDepth 100000 in
set_option maxHeartbeats 2000000 in
theorem tell72_any {w : World} {base g : Nat} {l : List S25} {sp : Bool} (hf : FS w base g l sp) (hk : ∀ x ∈ l, x.f3.length ≤ 4294967296) (i : Int) (p b : Nat) (hS : SymC w p b) :
  Calls Try.prog 72 #[.pointer (some ⟨g, 0, none⟩), .int .i64 i, .bool false, .slice none 0 0, .func (.func 69) #[] #[.pointer (some ⟨p, 0, none⟩)], .func (.func 73) #[] #[.pointer (some ⟨p, 0, none⟩)]] w
   (StrsPost (tellP l i symP symL []) base g l (sp || spoilP l i false symP) w) := by
 have HF := Aside0.mk (fit69 p b w hS)
 have HSC := Aside0.mk hS
 have HFS0 := Aside0.mk hf
 cases h : atF l i with
 | none =>
  have HA := Aside0.mk (at95_none hf i h)
  have HT := Aside0.mk (tell_none h symP symL [])
  have HS := Aside0.mk (spoil_none h false symP)
  clear hf hS h hk
  go_enter Try.func72, Try.ntmps72
  go_wp2_with fail
  refine HA.out.mono ?_
  rintro e w2 ⟨rfl, hb⟩
  have HB := Aside0.mk (below_alloc hb (.cells #[.int .u8 1, .int .u64 0, .string ⟨#[]⟩, .slice none 0 0] 25))
  clear hb
  go_wp2_with fail
  go_ret
  exact ⟨none, 0, by rw [HT.out]; rfl, by rw [HT.out]; exact Kd.R_nil _ _ _ _ _, by rw [HS.out, Bool.or_false]; exact HFS0.out.below HB.out, Bg.of HB.out⟩
 | some x =>
  have HA := Aside0.mk (at95_some hf i x h)
  have HT0 := Aside0.mk (tell_some h symP symL [])
  have HS0 := Aside0.mk (spoil_some h false symP)
  have hxl := hk x (atF_mem h)
  clear hf hS h hk
  go_enter Try.func72, Try.ntmps72
  go_wp2_with fail
  refine HA.out.mono ?_
  rintro e w2 ⟨A, c, rfl, hb, hl, hC⟩
  have bX := Blk.new w2 #[.int .u8 x.f0, .int .u64 x.f1, .string x.f2, .slice A x.f3.length c] 25
  have hal := below_alloc (Below.refl w2.heap.size w2) (.cells #[.int .u8 x.f0, .int .u64 x.f1, .string x.f2, .slice A x.f3.length c] 25)
  have HB1 := Aside0.mk (below_step hb hal)
  have HC := Aside0.mk (Kd.C_below hC hal)
  clear hb hC hal
  obtain ⟨p0, p1, p2, p3⟩ := bX.c4
  go_wp2_with fail
  refine (HF.out x A c _ HB1.out HC.out hl).mono ?_
  rintro e w3 ⟨rfl, hb3⟩
  have bX3 := bX.below hb3
  have HB := Aside0.mk (below_step HB1.out hb3)
  have HC3 := Aside0.mk (Kd.C_below HC.out hb3)
  have HFS := Aside0.mk (HFS0.out.below HB.out)
  clear p0 p1 p2 p3 bX hb3
  cases hP : symP x with
  | true =>
   have HT : Aside0 (tellP l i symP symL [] = symL x) := ⟨by rw [HT0.out, hP]; rfl⟩
   have HS : Aside0 (spoilP l i false symP = false) := ⟨by rw [HS0.out, hP]; rfl⟩
   clear hP
   obtain ⟨p0, p1, p2, p3⟩ := bX3.c4
   go_wp2_with fail
   refine (sym73_any p b _ (HSC.out.below HB.out) x hxl A c HC3.out hl).mono ?_
   rintro e w4 ⟨A4, c4, rfl, hR4, hb4⟩
   have HB4 := Aside0.mk (below_step HB.out hb4)
   have HR4 := Aside0.mk (Kd.R_lower hR4 HB.out.size)
   clear p0 p1 p2 p3 bX3 hb4 hR4
   go_wp2_with fail
   go_ret
   exact ⟨A4, c4, by rw [HT.out]; rfl, by rw [HT.out]; exact HR4.out, by rw [HS.out, Bool.or_false]; exact HFS0.out.below HB4.out, Bg.of HB4.out⟩
  | false =>
   have HT : Aside0 (tellP l i symP symL [] = []) := ⟨by rw [HT0.out, hP]; rfl⟩
   have HS : Aside0 (spoilP l i false symP = true) := ⟨by rw [HS0.out, hP]; rfl⟩
   clear hP bX3
   go_wp2_with fail
   refine (spoil50_any HFS.out).mono ?_
   rintro e w4 ⟨rfl, hfs, hbg⟩
   have HFT := Aside0.mk hfs
   have HBT := Aside0.mk ((Bg.of HB.out).trans hbg)
   clear hfs hbg
   go_wp2_with fail
   go_ret
   exact ⟨none, 0, by rw [HT.out]; rfl, by rw [HT.out]; exact Kd.R_nil _ _ _ _ _, by rw [HS.out]; cases sp <;> exact HFT.out, HBT.out⟩
set_option maxRecDepth 100000 in
set_option maxHeartbeats 2000000 in
theorem symbols42_any {w : World} {base g : Nat} {l : List S25} {sp : Bool} (hf : FS w base g l sp) (hk : ∀ x ∈ l, x.f3.length ≤ 4294967296) (i : Int) :
  Calls Try.prog 42 #[.pointer (some ⟨g, 0, none⟩), .int .i64 i] w (StrsPost (tellP l i symP symL []) base g l (sp || spoilP l i false symP) w) := by
 have HF := Aside0.mk hf
 have HK := Aside0.mk hk
 clear hf hk
 go_enter Try.func42, Try.ntmps42
 go_wp2_with fail
 have bK := Blk.new w #[.int .u8 21] 5
 have hB0 := below_alloc (Below.refl w.heap.size w) (.cells #[.int .u8 21] 5)
 refine (of68_any _ _ _ _).mono ?_
 rintro e w2 ⟨rfl, rfl⟩
 have hal := below_alloc (Below.refl (w.alloc (.cells #[.int .u8 21] 5)).heap.size (w.alloc (.cells #[.int .u8 21] 5))) (.cells #[.slice (some ⟨w.heap.size, 0, none⟩) 1 1] 63)
 have bS := Blk.new (w.alloc (.cells #[.int .u8 21] 5)) #[.slice (some ⟨w.heap.size, 0, none⟩) 1 1] 63
 rw [World.size_alloc] at bS
 have hCK : Kd.C (Kd.int .u8) (w.alloc (.cells #[.int .u8 21] 5)) (some ⟨w.heap.size, 0, none⟩) [(21 : Int)].length [21] := C_u8 bK
 have HFt := Aside0.mk (fit98 [21] _ 1 _ _ bS (Kd.C_below hCK hal) (by simp))
 have HB := Aside0.mk (below_step hB0 hal)
 clear bK bS hCK hal hB0
 obtain ⟨w2, ew⟩ : ∃ W, (w.alloc (.cells #[.int .u8 21] 5)).alloc (.cells #[.slice (some ⟨w.heap.size, 0, none⟩) 1 1] 63) = W := ⟨_, rfl⟩
 rw [ew] at HFt HB ⊢
 clear ew
 have bP := Blk.new w2 #[(.func (.func 98) #[] #[.pointer (some ⟨w.heap.size + 1, 0, none⟩)])] 29
 have hal2 := below_alloc (Below.refl w2.heap.size w2) (.cells #[(.func (.func 98) #[] #[.pointer (some ⟨w.heap.size + 1, 0, none⟩)])] 29)
 have HSC : Aside0 (SymC _ w2.heap.size (w.heap.size + 1)) := ⟨⟨bP, HFt.out.later hal2⟩⟩
 have HB2 := Aside0.mk (below_step HB.out hal2)
 have HFS := Aside0.mk (HF.out.below HB2.out)
 clear bP hal2
 have hn : (w.alloc (.cells #[.int .u8 21] 5)).heap.size = w.heap.size + 1 := World.size_alloc _ _
 have HN := Aside0.mk hn
 clear hn
 go_wp2_with fail
 refine (tell72_any HFS.out HK.out i _ _ HSC.out).mono ?_
 rintro e w3 ⟨A3, c3, rfl, hR, hfs, hbg⟩
 have HFT := Aside0.mk hfs
 have HBT := Aside0.mk ((Bg.of HB2.out).trans hbg)
 have HR := Aside0.mk (Kd.R_lower hR HB2.out.size)
 clear hfs hbg hR
 go_wp2_with fail
 go_ret
 exact ⟨A3, c3, rfl, HR.out, HFT.out, HBT.out⟩
end Go.Proofs.Ytdilbnggedidnaa.PVal
namespace Go.Proofs.Ytdilbnggedidnaa.PVal
open Go.RowKit Go.Shelf Go.Proofs.YtdilbnggedidnaaW.PrintWords Go.Proofs.YtdilbnggedidnaaW.PrintLast
set_option linter.unusedVariables false
set_option linter.unusedSimpArgs false
def vSev : S25 := ⟨5, 7, ⟨#[]⟩, []⟩
def wL : List S25 := [vNul, vSev, vSym]
theorem wL_right : rightB (putV 16 wL) = true := by kernel_rfl
theorem wL_trim : trimL wL = wL := by kernel_rfl
theorem wL_ok : okL wL := by
 unfold wL
 rw [okL, okL, okL, okL]
 exact ⟨ok_vb _ (by kernel_rfl), ok_vb _ (by kernel_rfl), ok_vb _ (by kernel_rfl), trivial⟩
theorem wL_kids : ∀ x ∈ wL, x.f3.length ≤ 4294967296 := by
 intro x hx
 simp only [wL, List.mem_cons, List.not_mem_nil, or_false] at hx
 rcases hx with rfl | rfl | rfl <;> exact Nat.zero_le _
set_option maxRecDepth 100000 in
set_option maxHeartbeats 4000000 in
theorem works38_any (w : World) : Calls Try.prog 38 #[] w fun e w' => e = .returned (.bool true) ∧ Below w.heap.size w w' := by
 go_enter Try.func38, Try.ntmps38
 go_wp2_with fail
 refine (null26_any _).mono ?_
 rintro e w1 ⟨rfl, hb1⟩
 have HB1 := Aside0.mk hb1
 clear hb1
 go_wp2_with fail
 refine (number23_any 5 7 _).mono ?_
 rintro e w2 ⟨rfl, hb2⟩
 have HB2 := Aside0.mk (below_step HB1.out hb2)
 clear hb2
 go_wp2_with fail
 refine (text24_any 21 ⟨#[97]⟩ _).mono ?_
 rintro e w3 ⟨rfl, hb3⟩
 have HB3 := Aside0.mk (below_step HB2.out hb3)
 clear hb3 HB1 HB2
 go_wp2_with fail
 have bL := Blk.new w3 (flatK [⟨vNul, none, 0⟩, ⟨vSev, none, 0⟩, ⟨vSym, none, 0⟩]).toArray 25
 have hCL := C_lit (ks := [⟨vNul, none, 0⟩, ⟨vSev, none, 0⟩, ⟨vSym, none, 0⟩]) bL (by decide) (by
  intro q hq
  simp only [List.mem_cons, List.not_mem_nil, or_false] at hq
  rcases hq with rfl | rfl | rfl <;> exact ⟨C_none _, Nat.le_refl _⟩)
 have hal := below_alloc (Below.refl w3.heap.size w3) (.cells #[.int .u8 1, .int .u64 0, .string ⟨#[]⟩, .slice none 0 0, .int .u8 5, .int .u64 7, .string ⟨#[]⟩, .slice none 0 0, .int .u8 21, .int .u64 0, .string ⟨#[97]⟩, .slice none 0 0] 25)
 refine (list41_yes 16 ⟨by omega, by omega⟩ wL (by rw [show itemsL wL = 3 by kernel_rfl]; omega) wL_ok _ 3 _ hCL (by decide) wL_right).mono ?_
 rintro e w4 ⟨g, rfl, hg, hfs, hb4⟩
 rw [wL_trim] at hfs
 have HB4 := Aside0.mk (below_step (below_step HB3.out hal) hb4)
 have HFS := Aside0.mk hfs
 have hge : w.heap.size ≤ g := by have := HB3.out.size; rw [World.size_alloc] at hg; omega
 clear bL hCL hal hb4 hfs HB3 hg
 go_wp2_with fail
 refine (has65_any HFS.out 0).mono ?_
 rintro e v1 ⟨he, hb⟩
 rw [show (atF wL 0).isSome = false by kernel_rfl] at he
 subst he
 replace HB4 := Aside0.mk (below_step HB4.out hb)
 replace HFS := Aside0.mk (HFS.out.below hb)
 clear hb
 go_wp2_with fail
 refine (has65_any HFS.out 2).mono ?_
 rintro e v2 ⟨he, hb⟩
 rw [show (atF wL 2).isSome = true by kernel_rfl] at he
 subst he
 replace HB4 := Aside0.mk (below_step HB4.out hb)
 replace HFS := Aside0.mk (HFS.out.below hb)
 clear hb
 go_wp2_with fail
 refine (number66_any HFS.out 1 5 true 0).mono ?_
 rintro e v3 ⟨he, hfs, hbg⟩
 rw [show tellP wL 1 (kindP [5]) (fun x => x.f1) 0 = 7 by kernel_rfl] at he
 rw [show (false || spoilP wL 1 true (kindP [5])) = false by kernel_rfl] at hfs
 subst he
 replace HB4 := Aside0.mk (HB4.out.trans (hbg.below hge HB4.out.size))
 replace HFS := Aside0.mk hfs
 clear hfs hbg
 go_wp2_with fail
 refine (number66_any HFS.out 0 5 false 5).mono ?_
 rintro e v4 ⟨he, hfs, hbg⟩
 rw [show tellP wL 0 (kindP [5]) (fun x => x.f1) 5 = 5 by kernel_rfl] at he
 rw [show (false || spoilP wL 0 false (kindP [5])) = false by kernel_rfl] at hfs
 subst he
 replace HB4 := Aside0.mk (HB4.out.trans (hbg.below hge HB4.out.size))
 replace HFS := Aside0.mk hfs
 clear hfs hbg
 go_wp2_with fail
 refine (symbols42_any HFS.out wL_kids 2).mono ?_
 rintro e v9 ⟨A9, c9, he, hR, hfs, hbg⟩
 rw [show (tellP wL 2 symP symL []) = [⟨#[97]⟩] by kernel_rfl] at he hR
 rw [show (false || spoilP wL 2 false symP) = false by kernel_rfl] at hfs
 subst he
 replace HB4 := Aside0.mk (HB4.out.trans (hbg.below hge HB4.out.size))
 replace HFS := Aside0.mk hfs
 obtain ⟨ad9, eA, hs0⟩ := Kd.at_string (Kd.R_reads' hR).2.2 0 (by omega) (by simp)
 cases eA
 rw [show rdOf ByteArray.empty [(⟨#[97]⟩ : ByteArray)] 0 = ⟨#[97]⟩ by kernel_rfl, show (0 : Int).toNat = 0 from rfl, add_nought] at hs0
 have ad0 : ad9.add 0 = ad9 := add_nought ad9
 clear hfs hbg hR
 go_wp2_with fail
 refine (done43_any HFS.out 3).mono ?_
 rintro e v5 ⟨he, rfl⟩
 rw [show doneN wL false 3 = 0 by kernel_rfl] at he
 subst he
 go_wp2_with fail
 refine (done43_any HFS.out 2).mono ?_
 rintro e v6 ⟨he, rfl⟩
 rw [show doneN wL false 2 = 6 by kernel_rfl] at he
 subst he
 clear hs0 ad0
 go_wp2_with fail
 refine (number66_any HFS.out 0 5 true 5).mono ?_
 rintro e v7 ⟨he, hfs, hbg⟩
 rw [show tellP wL 0 (kindP [5]) (fun x => x.f1) 5 = 5 by kernel_rfl] at he
 rw [show (false || spoilP wL 0 true (kindP [5])) = true by kernel_rfl] at hfs
 subst he
 replace HB4 := Aside0.mk (HB4.out.trans (hbg.below hge HB4.out.size))
 replace HFS := Aside0.mk hfs
 clear hfs hbg
 go_wp2_with fail
 refine (done43_any HFS.out 3).mono ?_
 rintro e v8 ⟨he, rfl⟩
 rw [show doneN wL true 3 = 6 by kernel_rfl] at he
 subst he
 go_wp2_with fail
 go_ret
 exact ⟨rfl, HB4.out⟩
end Go.Proofs.Ytdilbnggedidnaa.PVal
