import Derived.Test.YtdilbnggedidnaaP5
set_option maxRecDepth 100000
set_option maxHeartbeats 8000000
namespace Go.Proofs.Ytdilbnggedidnaa.PVal
open Go.RowKit Go.Shelf Go.Proofs.YtdilbnggedidnaaW.PrintWords Go.Proofs.YtdilbnggedidnaaW.PrintLast
set_option linter.unusedVariables false
set_option linter.unusedSimpArgs false
def AskK (w : World) (xs : List Ask) : Prop := ∀ i, i < xs.length → ∃ ks : List Int, (xs.getD i zAsk).nk = ks.length ∧ ks.length ≤ (xs.getD i zAsk).ck ∧ Kd.C (Kd.int .u8) w (xs.getD i zAsk).K ks.length ks
theorem AskK.below {w w' : World} {xs : List Ask} (h : AskK w xs) (hb : Below w.heap.size w w') : AskK w' xs := fun i hi => by
 obtain ⟨ks, h1, h2, h3⟩ := h i hi
 exact ⟨ks, h1, h2, Kd.C_below h3 hb⟩
def AskAt (w : World) (p : Addr) (what at_ kind : Int) (must : Bool) (none_ : Int) (K : Option Addr) (nk ck : Nat) : Prop := w.cell? p = some (.int .i64 what) ∧ w.cell? ⟨p.block, p.off + 1, none⟩ = some (.int .i64 at_) ∧ w.cell? ⟨p.block, p.off + 2, none⟩ = some (.int .u8 kind) ∧ w.cell? ⟨p.block, p.off + 3, none⟩ = some (.bool must) ∧ w.cell? ⟨p.block, p.off + 4, none⟩ = some (.int .u64 none_) ∧ w.cell? ⟨p.block, p.off + 5, none⟩ = some (.slice K nk ck)
theorem AskAt.below {w w' : World} {p : Addr} {what at_ kind : Int} {must : Bool} {none_ : Int} {K : Option Addr} {nk ck : Nat} (h : AskAt w p what at_ kind must none_ K nk ck) (hb : Below w.heap.size w w') : AskAt w' p what at_ kind must none_ K nk ck :=
 ⟨cell_stays h.1 hb, cell_stays h.2.1 hb, cell_stays h.2.2.1 hb, cell_stays h.2.2.2.1 hb, cell_stays h.2.2.2.2.1 hb, cell_stays h.2.2.2.2.2 hb⟩
theorem AskC.at_ {w : World} {A : Option Addr} {xs : List Ask} (h : AskC w A xs) (i : Nat) (hi : i < xs.length) {what at_ kind : Int} {must : Bool} {none_ : Int} {K : Option Addr} {nk ck : Nat} (he : xs.getD i zAsk = ⟨what, at_, kind, must, none_, K, nk, ck⟩) : ∃ ad, A = some ad ∧ AskAt w (ad.add (i * 6)) what at_ kind must none_ K nk ck := by
 obtain ⟨ad, e, hc⟩ := h (by omega)
 have hc6 := hc i hi
 rw [he] at hc6
 refine ⟨ad, e, hc6 0 _ rfl, ?_, ?_, ?_, ?_, ?_⟩
 ·rw [← add_field _ _ 1 (by omega)]; exact hc6 1 _ rfl
 ·rw [← add_field _ _ 2 (by omega)]; exact hc6 2 _ rfl
 ·rw [← add_field _ _ 3 (by omega)]; exact hc6 3 _ rfl
 ·rw [← add_field _ _ 4 (by omega)]; exact hc6 4 _ rfl
 ·rw [← add_field _ _ 5 (by omega)]; exact hc6 5 _ rfl
theorem FS.bg {w w' : World} {base g q : Nat} {l : List S25} {sp : Bool} {cs : Array Value} {t : TypeId} (h : FS w base g l sp) (hb : Bg q w w') (hq : Blk w q cs t) (ht : ∀ q, q ∈ 25 :: k25.E → q ≠ t) (hgq : g ≠ q) : FS w' base g l sp := by
 obtain ⟨A, c, h1, h2⟩ := h
 exact ⟨A, c, h1.bg hb hgq, Kd.R_mono (Kd.R_step (Kd.R_types h2 hq ht) (fun k ho hk => hb.block k hk ho.2)) (fun k ho => ho.1)⟩
theorem RSB.bg {w w' : World} {base g B q : Nat} {l : List S25} {sp : Bool} {cs : Array Value} {t : TypeId} (h : RSB w base g B l sp) (hb : Bg q w w') (hq : Blk w q cs t) (ht : ∀ q, q ∈ 25 :: k25.E → q ≠ t) (hgq : g ≠ q) : RSB w' base g B l sp := by
 obtain ⟨A, c, h1, h2⟩ := h
 exact ⟨A, c, h1.bg hb hgq, Kd.R_mono (Kd.R_step (Kd.R_types h2 hq ht) (fun k ho hk => hb.block k hk ho.2)) (fun k ho => ho.1)⟩
theorem R_bgt {α : Type} {d : Kd α} {e : Nat} {w w' : World} {base q : Nat} {ok : Nat → Prop} {v : Value} {l : List α} {cs : Array Value} {t : TypeId} (h : d.R e w base ok v l) (hb : Bg q w w') (hq : Blk w q cs t) (ht : ∀ q, q ∈ e :: d.E → q ≠ t) : d.R e w' base ok v l :=
 Kd.R_mono (Kd.R_step (Kd.R_types h hq ht) (fun k ho hk => hb.block k hk ho.2)) (fun k ho => ho.1)
def PlS (w4 : World) (gf gr base rbase B : Nat) (l : List S25) (sp : Bool) (wr : World) : Prop := FS wr base gf l sp ∧ RSB wr rbase gr B l sp ∧ Below w4.heap.size w4 wr ∧ B ≤ wr.heap.size
theorem PlS.below {w4 : World} {gf gr base rbase B : Nat} {l : List S25} {sp : Bool} {wr wx : World} (h : PlS w4 gf gr base rbase B l sp wr) (hb : Below wr.heap.size wr wx) : PlS w4 gf gr base rbase B l sp wx := ⟨h.1.below hb, h.2.1.below hb, below_step h.2.2.1 hb, Nat.le_trans h.2.2.2 hb.size⟩
structure PlB (w4 : World) (v : S25) (A : Option Addr) (c : Nat) (A2 : Option Addr) (c2 : Nat) (b0 b9 : Nat) (A1 : Option Addr) (xs : List Ask) : Prop where
 bv : Blk w4 b0 #[.int .u8 v.f0, .int .u64 v.f1, .string v.f2, .slice A v.f3.length c] 25
 bi : Blk w4 b9 #[.int .u8 v.f0, .int .u64 v.f1, .string v.f2, .slice A2 v.f3.length c2] 25
 cv : k25.C w4 A v.f3.length v.f3
 ci : k25.C w4 A2 v.f3.length v.f3
 ask : AskC w4 A1 xs
 kinds : AskK w4 xs
theorem told_items {l : List S25} {sp : Bool} {what at_ kind none_ : Int} {ks : List Int} (hk : ∀ x ∈ l, itemsN x ≤ 4294967296) : itemsN (tellA l sp what at_ kind none_ ks).v ≤ 4294967296 := by
 have z : itemsN zVal ≤ 4294967296 := by decide
 unfold tellA
 repeat' split
 all_goals first | exact z | skip
 show itemsN (tellP l at_ (kindsP ks) (fun x => x) vNul) ≤ _
 unfold tellP
 cases h : atF l at_ with
 | none =>
  show itemsN vNul ≤ _
  decide
 | some x =>
  show itemsN (if kindsP ks x then x else vNul) ≤ _
  split
  ·exact hk x (atF_mem h)
  ·decide
theorem told_texts {l : List S25} {sp : Bool} {what at_ kind none_ : Int} {ks : List Int} (hk : ∀ x ∈ l, itemsN x ≤ 4294967296) : (tellA l sp what at_ kind none_ ks).l.length ≤ 4294967296 := by
 have z : ([] : List ByteArray).length ≤ 4294967296 := by decide
 unfold tellA
 repeat' split
 all_goals first | exact z | skip
 show (tellP l at_ symP symL []).length ≤ _
 unfold tellP
 cases h : atF l at_ with
 | none => exact z
 | some x =>
  show (if symP x then symL x else []).length ≤ _
  split
  ·unfold symL
   split
   ·simp
   ·rw [List.length_map]
    have := hk x (atF_mem h)
    have := itemsN_eq x
    have := itemsL_length x.f3
    omega
  ·exact z
theorem plays11_any (v : S25) (code : Int) (name : ByteArray) (xs : List Ask) (w : World) (ho : okV v) (A : Option Addr) (c : Nat) (hC : k25.C w A v.f3.length v.f3) (hc : v.f3.length ≤ c) (hcode : (Lit.int .u64 code).wf = true) (A1 : Option Addr) (c1 : Nat) (hx : AskC w A1 xs ∧ AskK w xs) (hc1 : xs.length ≤ c1) (hn : itemsN v + textsN v ≤ 1048576) :
  Calls Try.prog 11 #[.agg #[.int .u8 v.f0, .int .u64 v.f1, .string v.f2, .slice A v.f3.length c], .int .u64 code, .string name, .slice A1 xs.length c1] w fun e w' => e = .returned (.bool true) ∧ Below w.heap.size w w' := by
 clear hcode
 have HO := Aside0.mk ho
 have HN := Aside0.mk hn
 have hN : itemsN v ≤ 4294967296 := by omega
 have HNN := Aside0.mk hN
 have bV := Blk.new w #[.int .u8 v.f0, .int .u64 v.f1, .string v.f2, .slice A v.f3.length c] 25
 have hal := below_alloc (Below.refl w.heap.size w) (.cells #[.int .u8 v.f0, .int .u64 v.f1, .string v.f2, .slice A v.f3.length c] 25)
 have HC1 := Aside0.mk (Kd.C_below hC hal)
 have HX1 := Aside0.mk (And.intro (hx.1.below hal) (hx.2.below hal))
 have HB1 := Aside0.mk hal
 clear ho hC hn hN hx hal
 go_enter Try.func11, Try.ntmps11
 go_upto_region 1 with fail
 obtain ⟨w1, e1⟩ : ∃ W, w.alloc (.cells #[.int .u8 v.f0, .int .u64 v.f1, .string v.f2, .slice A v.f3.length c] 25) = W := ⟨_, rfl⟩
 obtain ⟨b0, eb0⟩ : ∃ b, w.heap.size = b := ⟨_, rfl⟩
 rw [e1] at bV HC1 HX1 HB1 ⊢
 rw [eb0] at bV ⊢
 clear e1 eb0
 have BV1 := Aside0.mk bV
 obtain ⟨p0, p1, p2, p3⟩ := bV.c4
 clear bV
 go_wp2_with fail
 have bL := Blk.new w1 (flatK [⟨v, A, c⟩]).toArray 25
 have hal1 := below_alloc (Below.refl w1.heap.size w1) (.cells #[.int .u8 v.f0, .int .u64 v.f1, .string v.f2, .slice A v.f3.length c] 25)
 have hCL := C_lit (ks := [⟨v, A, c⟩]) bL (by simp) (by
  intro q hq
  simp only [List.mem_cons, List.not_mem_nil, or_false] at hq
  rcases hq with rfl
  exact ⟨Kd.C_below HC1.out hal1, hc⟩)
 refine (large14_any [v] _ 1 _ hCL (by simp) (by have := HN.out; simp only [itemsL, textsL]; omega)).mono ?_
 rintro e w2 ⟨rfl, hb2⟩
 have hb12 := below_step hal1 hb2
 have HB2 := Aside0.mk (below_step HB1.out hb12)
 have BV2 := Aside0.mk (BV1.out.below hb12)
 have HC2 := Aside0.mk (Kd.C_below HC1.out hb12)
 have HX2 := Aside0.mk (And.intro (HX1.out.1.below hb12) (HX1.out.2.below hb12))
 clear bL hal1 hCL hb2 hb12 p0 p1 p2 p3 HB1 BV1 HC1 HX1
 cases hlb : largeB [v] with
 | true =>
  clear hlb
  go_wp2_with fail
  refine (works38_any _).mono ?_
  rintro e wz ⟨rfl, hbz⟩
  go_wp2_with fail
  go_ret
  exact ⟨rfl, below_step HB2.out hbz⟩
 | false =>
 clear hlb
 by_cases h60 : 60 < xs.length
 ·
  go_wp2_with fail
  refine (works38_any _).mono ?_
  rintro e wz ⟨rfl, hbz⟩
  go_wp2_with fail
  go_ret
  exact ⟨rfl, below_step HB2.out hbz⟩
 have h60' : xs.length ≤ 60 := by omega
 clear h60
 obtain ⟨p0, p1, p2, p3⟩ := BV2.out.c4
 go_wp2_with fail
 refine (copy16_any v HNN.out A c _ HC2.out hc).mono ?_
 rintro e w3 ⟨A2, c2, rfl, hm3⟩
 have hal3 := below_alloc (Below.refl w3.heap.size w3) (.cells #[.int .u8 v.f0, .int .u64 v.f1, .string v.f2, .slice A2 v.f3.length c2] 25)
 have hb33 := below_step hm3.2 hal3
 have hc2 := (Kd.R_reads' hm3.1).2.1
 have HPB : Aside0 (PlB (w3.alloc (.cells #[.int .u8 v.f0, .int .u64 v.f1, .string v.f2, .slice A2 v.f3.length c2] 25)) v A c A2 c2 b0 w3.heap.size A1 xs) := ⟨BV2.out.below hb33, Blk.new w3 #[.int .u8 v.f0, .int .u64 v.f1, .string v.f2, .slice A2 v.f3.length c2] 25, Kd.C_below HC2.out hb33, Kd.C_below (Kd.R_reads' hm3.1).2.2 hal3, HX2.out.1.below hb33, HX2.out.2.below hb33⟩
 have HB4 := Aside0.mk (below_step HB2.out hb33)
 clear hm3 hal3 hb33 p0 p1 p2 p3 BV2 HC2 HX2 HB2
 go_upto_region 4 with fail
 obtain ⟨b9, eb9⟩ : ∃ b, w3.heap.size = b := ⟨_, rfl⟩
 obtain ⟨w4, e4⟩ : ∃ W, w3.alloc (.cells #[.int .u8 v.f0, .int .u64 v.f1, .string v.f2, .slice A2 v.f3.length c2] 25) = W := ⟨_, rfl⟩
 rw [e4, eb9] at HPB
 rw [e4] at HB4 ⊢
 rw [eb9]
 clear e4 eb9
 obtain ⟨p0, p1, p2, p3⟩ := HPB.out.bi.c4
 cases hnew : newF v code name with
 | none =>
  have HNW := Aside0.mk hnew
  clear hnew
  go_wp2_with fail
  refine (new44_no v HNN.out HO.out code name A2 c2 _ HPB.out.ci hc2 HNW.out).mono ?_
  rintro e w5 ⟨rfl, hb5⟩
  have HB5 := Aside0.mk hb5
  clear hb5 p0 p1 p2 p3
  obtain ⟨p0, p1, p2, p3⟩ := (HPB.out.bv.below HB5.out).c4
  go_wp2_with fail
  refine (new45_no v HNN.out HO.out code name A c _ (Kd.C_below HPB.out.cv HB5.out) hc HNW.out).mono ?_
  rintro e w6 ⟨rfl, hb6⟩
  have HB6 := Aside0.mk (below_step HB5.out hb6)
  clear hb6 p0 p1 p2 p3 HB5
  go_wp2_with fail
  go_loopg [14] 0 (fun gk v14 wr => v14 = .int .i64 0 ∧ Aside0 (Below w4.heap.size w4 wr))
  case atStart => exact ⟨rfl, HB6⟩
  case round =>
   obtain ⟨rfl, HBr⟩ := hrel
   have hle : (0 : Int) ≤ (xs.length : Int) := by omega
   by_cases hx0 : (0 : Int) < (xs.length : Int)
   all_goals
    go_upto_region 13 with fail
    clear hx0
    have BV := Aside0.mk (HPB.out.bv.below HBr.out)
    have BI := Aside0.mk (HPB.out.bi.below HBr.out)
    refine start_ (n := 28) (S := fun w' => Blk w' b9 #[.int .u8 v.f0, .int .u64 v.f1, .string v.f2, .slice A2 v.f3.length c2] 25 ∧ Blk w' b0 #[.int .u8 v.f0, .int .u64 v.f1, .string v.f2, .slice A v.f3.length c] 25) (ds := []) #[ff,ff,ff,ff,ff,ff,ff,ff,ff,ff,ff,ff,ff,ff,ff,ff,ff,ff,ff,ff,ff,ff,ff,ff,ff,ff,ff,ff] (by kernel_rfl) rfl rfl ⟨BI.out, BV.out⟩ (fun hS => ?_)
    replace HBr := Aside0.mk (below_drew HBr.out)
    generalize wr.drew = wd1 at HBr hS ⊢
    refine pure_ (i := 0) (N := some 74) (v := ?_) (a' := ?_) #[tt,ff,ff,ff,ff,ff,ff,ff,ff,ff,ff,ff,ff,ff,ff,ff,ff,ff,ff,ff,ff,ff,ff,ff,ff,ff,ff,ff] rfl rfl (by kernel_rfl) (fun _ _ _ h => h) (Or.inl ⟨by rfl, ?_⟩) ?_ ?_
    rotate_left
    ·intro w'
     go_simp
     with_reducible rfl
    rotate_left
    ·simp only [Act.put, List.setIfInBounds_toArray, List.set_cons_zero, List.set_cons_succ, i64_w, i32_w]
     rfl
    refine pure_ (i := 1) (N := some 75) (v := ?_) (a' := ?_) #[tt,tt,ff,ff,ff,ff,ff,ff,ff,ff,ff,ff,ff,ff,ff,ff,ff,ff,ff,ff,ff,ff,ff,ff,ff,ff,ff,ff] rfl rfl (by kernel_rfl) (fun _ _ _ h => h) (Or.inl ⟨by rfl, ?_⟩) ?_ ?_
    rotate_left
    ·intro w'
     go_simp
     with_reducible rfl
    rotate_left
    ·simp only [Act.put, List.setIfInBounds_toArray, List.set_cons_zero, List.set_cons_succ, i64_w, i32_w]
     rfl
    refine pure_ (i := 2) (N := some 76) (v := ?_) (a' := ?_) #[tt,tt,tt,ff,ff,ff,ff,ff,ff,ff,ff,ff,ff,ff,ff,ff,ff,ff,ff,ff,ff,ff,ff,ff,ff,ff,ff,ff] rfl rfl (by kernel_rfl) (fun _ _ _ h => h) (Or.inl ⟨by rfl, ?_⟩) ?_ ?_
    rotate_left
    ·intro w'
     go_simp
     with_reducible rfl
    rotate_left
    ·simp only [Act.put, List.setIfInBounds_toArray, List.set_cons_zero, List.set_cons_succ, i64_w, i32_w]
     rfl
    refine pure_ (i := 3) (N := some 77) (v := undef) (a' := ?_) #[tt,tt,tt,tt,ff,ff,ff,ff,ff,ff,ff,ff,ff,ff,ff,ff,ff,ff,ff,ff,ff,ff,ff,ff,ff,ff,ff,ff] rfl rfl (by kernel_rfl) (fun _ _ _ h => h) (Or.inr ⟨by rfl, rfl⟩) ?_ ?_
    rotate_left
    ·simp only [Act.put, List.setIfInBounds_toArray, List.set_cons_zero, List.set_cons_succ, i64_w, i32_w]
     rfl
    refine pure_ (i := 4) (N := some 78) (v := undef) (a' := ?_) #[tt,tt,tt,tt,tt,ff,ff,ff,ff,ff,ff,ff,ff,ff,ff,ff,ff,ff,ff,ff,ff,ff,ff,ff,ff,ff,ff,ff] rfl rfl (by kernel_rfl) (fun _ _ _ h => h) (Or.inr ⟨by rfl, rfl⟩) ?_ ?_
    rotate_left
    ·simp only [Act.put, List.setIfInBounds_toArray, List.set_cons_zero, List.set_cons_succ, i64_w, i32_w]
     rfl
    refine pure_ (i := 5) (N := some 79) (v := undef) (a' := ?_) #[tt,tt,tt,tt,tt,tt,ff,ff,ff,ff,ff,ff,ff,ff,ff,ff,ff,ff,ff,ff,ff,ff,ff,ff,ff,ff,ff,ff] rfl rfl (by kernel_rfl) (fun _ _ _ h => h) (Or.inr ⟨by rfl, rfl⟩) ?_ ?_
    rotate_left
    ·simp only [Act.put, List.setIfInBounds_toArray, List.set_cons_zero, List.set_cons_succ, i64_w, i32_w]
     rfl
    refine pure_ (i := 6) (N := some 80) (v := undef) (a' := ?_) #[tt,tt,tt,tt,tt,tt,tt,ff,ff,ff,ff,ff,ff,ff,ff,ff,ff,ff,ff,ff,ff,ff,ff,ff,ff,ff,ff,ff] rfl rfl (by kernel_rfl) (fun _ _ _ h => h) (Or.inr ⟨by rfl, rfl⟩) ?_ ?_
    rotate_left
    ·simp only [Act.put, List.setIfInBounds_toArray, List.set_cons_zero, List.set_cons_succ, i64_w, i32_w]
     rfl
    refine pure_ (i := 7) (N := some 81) (v := undef) (a' := ?_) #[tt,tt,tt,tt,tt,tt,tt,tt,ff,ff,ff,ff,ff,ff,ff,ff,ff,ff,ff,ff,ff,ff,ff,ff,ff,ff,ff,ff] rfl rfl (by kernel_rfl) (fun _ _ _ h => h) (Or.inr ⟨by rfl, rfl⟩) ?_ ?_
    rotate_left
    ·simp only [Act.put, List.setIfInBounds_toArray, List.set_cons_zero, List.set_cons_succ, i64_w, i32_w]
     rfl
    refine pure_ (i := 8) (N := some 82) (v := undef) (a' := ?_) #[tt,tt,tt,tt,tt,tt,tt,tt,tt,ff,ff,ff,ff,ff,ff,ff,ff,ff,ff,ff,ff,ff,ff,ff,ff,ff,ff,ff] rfl rfl (by kernel_rfl) (fun _ _ _ h => h) (Or.inr ⟨by rfl, rfl⟩) ?_ ?_
    rotate_left
    ·simp only [Act.put, List.setIfInBounds_toArray, List.set_cons_zero, List.set_cons_succ, i64_w, i32_w]
     rfl
    refine pure_ (i := 9) (N := some 83) (v := undef) (a' := ?_) #[tt,tt,tt,tt,tt,tt,tt,tt,tt,tt,ff,ff,ff,ff,ff,ff,ff,ff,ff,ff,ff,ff,ff,ff,ff,ff,ff,ff] rfl rfl (by kernel_rfl) (fun _ _ _ h => h) (Or.inr ⟨by rfl, rfl⟩) ?_ ?_
    rotate_left
    ·simp only [Act.put, List.setIfInBounds_toArray, List.set_cons_zero, List.set_cons_succ, i64_w, i32_w]
     rfl
    refine pure_ (i := 10) (N := some 84) (v := undef) (a' := ?_) #[tt,tt,tt,tt,tt,tt,tt,tt,tt,tt,tt,ff,ff,ff,ff,ff,ff,ff,ff,ff,ff,ff,ff,ff,ff,ff,ff,ff] rfl rfl (by kernel_rfl) (fun _ _ _ h => h) (Or.inr ⟨by rfl, rfl⟩) ?_ ?_
    rotate_left
    ·simp only [Act.put, List.setIfInBounds_toArray, List.set_cons_zero, List.set_cons_succ, i64_w, i32_w]
     rfl
    refine pure_ (i := 11) (N := some 85) (v := undef) (a' := ?_) #[tt,tt,tt,tt,tt,tt,tt,tt,tt,tt,tt,tt,ff,ff,ff,ff,ff,ff,ff,ff,ff,ff,ff,ff,ff,ff,ff,ff] rfl rfl (by kernel_rfl) (fun _ _ _ h => h) (Or.inr ⟨by rfl, rfl⟩) ?_ ?_
    rotate_left
    ·simp only [Act.put, List.setIfInBounds_toArray, List.set_cons_zero, List.set_cons_succ, i64_w, i32_w]
     rfl
    refine pure_ (i := 12) (N := some 86) (v := undef) (a' := ?_) #[tt,tt,tt,tt,tt,tt,tt,tt,tt,tt,tt,tt,tt,ff,ff,ff,ff,ff,ff,ff,ff,ff,ff,ff,ff,ff,ff,ff] rfl rfl (by kernel_rfl) (fun _ _ _ h => h) (Or.inr ⟨by rfl, rfl⟩) ?_ ?_
    rotate_left
    ·simp only [Act.put, List.setIfInBounds_toArray, List.set_cons_zero, List.set_cons_succ, i64_w, i32_w]
     rfl
    refine pure_ (i := 13) (N := some 87) (v := undef) (a' := ?_) #[tt,tt,tt,tt,tt,tt,tt,tt,tt,tt,tt,tt,tt,tt,ff,ff,ff,ff,ff,ff,ff,ff,ff,ff,ff,ff,ff,ff] rfl rfl (by kernel_rfl) (fun _ _ _ h => h) (Or.inr ⟨by rfl, rfl⟩) ?_ ?_
    rotate_left
    ·simp only [Act.put, List.setIfInBounds_toArray, List.set_cons_zero, List.set_cons_succ, i64_w, i32_w]
     rfl
    refine pure_ (i := 14) (N := some 88) (v := undef) (a' := ?_) #[tt,tt,tt,tt,tt,tt,tt,tt,tt,tt,tt,tt,tt,tt,tt,ff,ff,ff,ff,ff,ff,ff,ff,ff,ff,ff,ff,ff] rfl rfl (by kernel_rfl) (fun _ _ _ h => h) (Or.inr ⟨by rfl, rfl⟩) ?_ ?_
    rotate_left
    ·simp only [Act.put, List.setIfInBounds_toArray, List.set_cons_zero, List.set_cons_succ, i64_w, i32_w]
     rfl
    refine pure_ (i := 15) (N := some 89) (v := undef) (a' := ?_) #[tt,tt,tt,tt,tt,tt,tt,tt,tt,tt,tt,tt,tt,tt,tt,tt,ff,ff,ff,ff,ff,ff,ff,ff,ff,ff,ff,ff] rfl rfl (by kernel_rfl) (fun _ _ _ h => h) (Or.inr ⟨by rfl, rfl⟩) ?_ ?_
    rotate_left
    ·simp only [Act.put, List.setIfInBounds_toArray, List.set_cons_zero, List.set_cons_succ, i64_w, i32_w]
     rfl
    refine pure_ (i := 16) (N := some 90) (v := undef) (a' := ?_) #[tt,tt,tt,tt,tt,tt,tt,tt,tt,tt,tt,tt,tt,tt,tt,tt,tt,ff,ff,ff,ff,ff,ff,ff,ff,ff,ff,ff] rfl rfl (by kernel_rfl) (fun _ _ _ h => h) (Or.inr ⟨by rfl, rfl⟩) ?_ ?_
    rotate_left
    ·simp only [Act.put, List.setIfInBounds_toArray, List.set_cons_zero, List.set_cons_succ, i64_w, i32_w]
     rfl
    refine pure_ (i := 17) (N := some 91) (v := undef) (a' := ?_) #[tt,tt,tt,tt,tt,tt,tt,tt,tt,tt,tt,tt,tt,tt,tt,tt,tt,tt,ff,ff,ff,ff,ff,ff,ff,ff,ff,ff] rfl rfl (by kernel_rfl) (fun _ _ _ h => h) (Or.inr ⟨by rfl, rfl⟩) ?_ ?_
    rotate_left
    ·simp only [Act.put, List.setIfInBounds_toArray, List.set_cons_zero, List.set_cons_succ, i64_w, i32_w]
     rfl
    refine pure_ (i := 18) (N := some 92) (v := ?_) (a' := ?_) #[tt,tt,tt,tt,tt,tt,tt,tt,tt,tt,tt,tt,tt,tt,tt,tt,tt,tt,tt,ff,ff,ff,ff,ff,ff,ff,ff,ff] rfl rfl (by kernel_rfl) (fun _ _ _ h => h) (Or.inl ⟨by rfl, ?_⟩) ?_ ?_
    rotate_left
    ·intro w'
     go_simp
     with_reducible rfl
    rotate_left
    ·simp only [Act.put, List.setIfInBounds_toArray, List.set_cons_zero, List.set_cons_succ, i64_w, i32_w]
     rfl
    refine pure_ (i := 19) (N := some 93) (v := ?_) (a' := ?_) #[tt,tt,tt,tt,tt,tt,tt,tt,tt,tt,tt,tt,tt,tt,tt,tt,tt,tt,tt,tt,ff,ff,ff,ff,ff,ff,ff,ff] rfl rfl (by kernel_rfl) (fun _ _ _ h => h) (Or.inl ⟨by rfl, ?_⟩) ?_ ?_
    rotate_left
    ·intro w'
     go_simp
     with_reducible rfl
    rotate_left
    ·simp only [Act.put, List.setIfInBounds_toArray, List.set_cons_zero, List.set_cons_succ, i64_w, i32_w]
     rfl
    refine take_ (i := 20) (N := some 94) (v := .agg #[.int .u8 v.f0, .int .u64 v.f1, .string v.f2, .slice A2 v.f3.length c2]) #[tt,tt,tt,tt,tt,tt,tt,tt,tt,tt,tt,tt,tt,tt,tt,tt,tt,tt,tt,tt,tt,ff,ff,ff,ff,ff,ff,ff] rfl rfl (by kernel_rfl) (fun _ _ _ h => h) (Or.inl ⟨by rfl, ?_⟩) hS rfl ?_
    ·rintro w' ⟨h0, h1⟩
     obtain ⟨e0, e1, e2, e3⟩ := h0.c4
     go_simp
    refine norm_ (a' := ?_) ?_ ?_
    rotate_left
    ·try simp only [Act.put, putAll, List.setIfInBounds_toArray, List.set_cons_zero, List.set_cons_succ]
     rfl
    refine take_ (i := 21) (N := some 95) (v := .agg #[.int .u8 v.f0, .int .u64 v.f1, .string v.f2, .slice A v.f3.length c]) #[tt,tt,tt,tt,tt,tt,tt,tt,tt,tt,tt,tt,tt,tt,tt,tt,tt,tt,tt,tt,tt,tt,ff,ff,ff,ff,ff,ff] rfl rfl (by kernel_rfl) (fun _ _ _ h => h) (Or.inl ⟨by rfl, ?_⟩) hS rfl ?_
    ·rintro w' ⟨h0, h1⟩
     obtain ⟨e0, e1, e2, e3⟩ := h1.c4
     go_simp
    refine norm_ (a' := ?_) ?_ ?_
    rotate_left
    ·try simp only [Act.put, putAll, List.setIfInBounds_toArray, List.set_cons_zero, List.set_cons_succ]
     rfl
    refine one_ (i := 22) (N := some 96) #[tt,tt,tt,tt,tt,tt,tt,tt,tt,tt,tt,tt,tt,tt,tt,tt,tt,tt,tt,tt,tt,tt,tt,ff,ff,ff,ff,ff] rfl rfl (by kernel_rfl) (by decide) (fun K hK => ?_)
    refine goes_ Try.func19 (by kernel_rfl) rfl #[.agg #[.int .u8 v.f0, .int .u64 v.f1, .string v.f2, .slice A2 v.f3.length c2], .agg #[.int .u8 v.f0, .int .u64 v.f1, .string v.f2, .slice A v.f3.length c]] (by rfl) rfl rfl (by (try simp only [List.map_toArray, List.map_cons, List.map_nil]); first | done | rfl) ?_
    refine (same19_any v v A2 A c2 c _ (Kd.C_below HPB.out.ci HBr.out) hc2 HNN.out (Kd.C_below HPB.out.cv HBr.out) hc).mono ?_
    rintro e wk2 ⟨he, hb2⟩
    rw [veq_refl] at he
    subst he
    refine ⟨_, rfl, ?_⟩
    have hS2 : Blk wk2 b9 #[.int .u8 v.f0, .int .u64 v.f1, .string v.f2, .slice A2 v.f3.length c2] 25 ∧ Blk wk2 b0 #[.int .u8 v.f0, .int .u64 v.f1, .string v.f2, .slice A v.f3.length c] 25 := ⟨hS.1.below hb2, hS.2.below hb2⟩
    have HBr2 := Aside0.mk (below_step HBr.out hb2)
    refine hK.out _ _ hS2 (fun _ => ?_)
    clear hK K hb2
    refine norm_ (a' := ?_) ?_ ?_
    rotate_left
    ·try simp only [Act.put, putAll, List.setIfInBounds_toArray, List.set_cons_zero, List.set_cons_succ]
     rfl
    refine pure_ (i := 23) (N := some 97) (v := ?_) (a' := ?_) #[tt,tt,tt,tt,tt,tt,tt,tt,tt,tt,tt,tt,tt,tt,tt,tt,tt,tt,tt,tt,tt,tt,tt,tt,ff,ff,ff,ff] rfl rfl (by kernel_rfl) (fun _ _ _ h => h) (Or.inl ⟨by rfl, ?_⟩) ?_ ?_
    rotate_left
    ·intro w'
     go_simp
     with_reducible rfl
    rotate_left
    ·simp only [Act.put, List.setIfInBounds_toArray, List.set_cons_zero, List.set_cons_succ, i64_w, i32_w]
     rfl
    refine pure_ (i := 24) (N := some 98) (v := ?_) (a' := ?_) #[tt,tt,tt,tt,tt,tt,tt,tt,tt,tt,tt,tt,tt,tt,tt,tt,tt,tt,tt,tt,tt,tt,tt,tt,tt,ff,ff,ff] rfl rfl (by kernel_rfl) (fun _ _ _ h => h) (Or.inl ⟨by rfl, ?_⟩) ?_ ?_
    rotate_left
    ·intro w'
     go_simp
     with_reducible rfl
    rotate_left
    ·simp only [Act.put, List.setIfInBounds_toArray, List.set_cons_zero, List.set_cons_succ, i64_w, i32_w]
     rfl
    refine one_ (i := 25) (N := some 99) #[tt,tt,tt,tt,tt,tt,tt,tt,tt,tt,tt,tt,tt,tt,tt,tt,tt,tt,tt,tt,tt,tt,tt,tt,tt,tt,ff,ff] rfl rfl (by kernel_rfl) (by decide) (fun K hK => ?_)
    refine goes_ Try.func38 (by kernel_rfl) rfl #[] (by rfl) rfl rfl (by (try simp only [List.map_toArray, List.map_cons, List.map_nil]); first | done | rfl) ?_
    refine (works38_any _).mono ?_
    rintro e wk3 ⟨rfl, hb3⟩
    refine ⟨_, rfl, ?_⟩
    have hS3 : Blk wk3 b9 #[.int .u8 v.f0, .int .u64 v.f1, .string v.f2, .slice A2 v.f3.length c2] 25 ∧ Blk wk3 b0 #[.int .u8 v.f0, .int .u64 v.f1, .string v.f2, .slice A v.f3.length c] 25 := ⟨hS2.1.below hb3, hS2.2.below hb3⟩
    have HBr3 := Aside0.mk (below_step HBr2.out hb3)
    refine hK.out _ _ hS3 (fun _ => ?_)
    clear hK K hb3 hS2
    refine norm_ (a' := ?_) ?_ ?_
    rotate_left
    ·try simp only [Act.put, putAll, List.setIfInBounds_toArray, List.set_cons_zero, List.set_cons_succ]
     rfl
    refine pure_ (i := 26) (N := some 100) (v := ?_) (a' := ?_) #[tt,tt,tt,tt,tt,tt,tt,tt,tt,tt,tt,tt,tt,tt,tt,tt,tt,tt,tt,tt,tt,tt,tt,tt,tt,tt,tt,ff] rfl rfl (by kernel_rfl) (fun _ _ _ h => h) (Or.inl ⟨by rfl, ?_⟩) ?_ ?_
    rotate_left
    ·intro w'
     go_simp
     with_reducible rfl
    rotate_left
    ·simp only [Act.put, List.setIfInBounds_toArray, List.set_cons_zero, List.set_cons_succ, i64_w, i32_w]
     rfl
    refine pure_ (i := 27) (N := some 8) (v := ?_) (a' := ?_) #[tt,tt,tt,tt,tt,tt,tt,tt,tt,tt,tt,tt,tt,tt,tt,tt,tt,tt,tt,tt,tt,tt,tt,tt,tt,tt,tt,tt] rfl rfl (by kernel_rfl) (fun _ _ _ h => h) (Or.inl ⟨by rfl, ?_⟩) ?_ ?_
    rotate_left
    ·intro w'
     go_simp
     with_reducible rfl
    rotate_left
    ·simp only [Act.put, List.setIfInBounds_toArray, List.set_cons_zero, List.set_cons_succ, i64_w, i32_w]
     rfl
    refine done_ (by kernel_rfl) ?_
    go_wp2_with fail
    go_ret
    exact ⟨rfl, below_step HB4.out HBr3.out⟩
 | some l =>
  have HNW := Aside0.mk hnew
  have hil := newF_items hnew
  have HKI : Aside0 (∀ x ∈ l, itemsN x ≤ 4294967296) := ⟨fun x hx => by have := itemsL_mem hx; have := HNN.out; omega⟩
  have HMY := Aside0.mk (newF_right hnew).2.2.1
  clear hnew hil
  go_wp2_with fail
  refine (new44_yes v HNN.out HO.out code name A2 c2 _ HPB.out.ci hc2 HNW.out).mono ?_
  rintro e w5 ⟨gf, rfl, hgf4, hfs, hb5⟩
  have HF5 := Aside0.mk hfs
  have HB5 := Aside0.mk hb5
  have hgf5 := hfs.lt
  clear hb5 hfs p0 p1 p2 p3
  obtain ⟨p0, p1, p2, p3⟩ := (HPB.out.bv.below HB5.out).c4
  go_wp2_with fail
  refine (new45_yes v HNN.out HO.out code name A c _ (Kd.C_below HPB.out.cv HB5.out) hc HNW.out).mono ?_
  rintro e w6 ⟨gr, rfl, hgr5, hrs, hb6⟩
  have hgB := hrs.lt
  have hfr : gf ≠ gr := by omega
  have hs4 := HB5.out.size
  have hgr4 : w4.heap.size ≤ gr := by omega
  have HS6 : Aside0 (PlS w4 gf gr w4.heap.size w5.heap.size w6.heap.size l false w6) := ⟨HF5.out.below hb6, hrs, below_step HB5.out hb6, Nat.le_refl _⟩
  have HB66 := Aside0.mk (Below.refl w6.heap.size w6)
  obtain ⟨base, ebase⟩ : ∃ b, w4.heap.size = b := ⟨_, rfl⟩
  obtain ⟨rbase, erb⟩ : ∃ b, w5.heap.size = b := ⟨_, rfl⟩
  obtain ⟨B, eB⟩ : ∃ b, w6.heap.size = b := ⟨_, rfl⟩
  have HS6' : Aside0 (PlS w4 gf gr base rbase B l false w6) := ⟨by rw [← ebase, ← erb, ← eB]; exact HS6.out⟩
  have EB := Aside0.mk eB
  rw [eB] at hgB
  clear hb6 p0 p1 p2 p3 hrs HF5 HB5 HS6 ebase erb eB hs4 hgr5 hgf5
  go_wp2_with fail
  go_loopg [14] xs.length (fun gk v14 wr => ∃ (i : Nat) (sp : Bool), v14 = .int .i64 (i : Int) ∧ Aside0 (i ≤ xs.length ∧ gk = xs.length - i) ∧ Aside0 (PlS w4 gf gr base rbase B l sp wr))
  case atStart => exact ⟨0, false, rfl, ⟨by omega, rfl⟩, HS6'⟩
  case round =>
   obtain ⟨i, sp, rfl, HI, HSi⟩ := hrel
   obtain ⟨hi1, hgk⟩ := HI.out
   have HG := Aside0.mk hgk
   clear HI hgk
   by_cases hlt : i < xs.length
   ·obtain ⟨ks, hnk, hck, hkk⟩ := HPB.out.kinds i hlt
    obtain ⟨q, eq⟩ : ∃ q, xs.getD i zAsk = q := ⟨_, rfl⟩
    rw [eq] at hnk hck hkk
    obtain ⟨what, at_, kind, must, none_, K, nk, ck⟩ := q
    simp only at hnk hck hkk
    subst hnk
    have HKK := Aside0.mk hkk
    obtain ⟨ad1, eA1, hat⟩ := HPB.out.ask.at_ i hlt eq
    subst eA1
    have HAT := Aside0.mk hat
    clear eq hkk hat
    have hi0 : (0 : Int) ≤ (i : Int) := by omega
    have hlt2 : (i : Int) < (xs.length : Int) := by omega
    go_upto_region 11 with fail
    refine start_ (n := 14) (S := fun w' => AskAt w' (ad1.add (i * 6)) what at_ kind must none_ K ks.length ck) (ds := []) #[ff,ff,ff,ff,ff,ff,ff,ff,ff,ff,ff,ff,ff,ff] (by kernel_rfl) rfl rfl (HAT.out.below (below_drew HSi.out.2.2.1)) (fun hS => ?_)
    replace HSi := Aside0.mk ((HSi.out).below (below_drew (Below.refl _ _)))
    generalize wr.drew = wd4 at HSi hS ⊢
    refine pure_ (i := 0) (N := some 60) (v := ?_) (a' := ?_) #[tt,ff,ff,ff,ff,ff,ff,ff,ff,ff,ff,ff,ff,ff] rfl rfl (by kernel_rfl) (fun _ _ _ h => h) (Or.inl ⟨by rfl, ?_⟩) ?_ ?_
    rotate_left
    ·intro w'
     go_simp
     with_reducible rfl
    rotate_left
    ·simp only [Act.put, List.setIfInBounds_toArray, List.set_cons_zero, List.set_cons_succ, i64_w, i32_w]
     rfl
    refine pure_ (i := 1) (N := some 61) (v := ?_) (a' := ?_) #[tt,tt,ff,ff,ff,ff,ff,ff,ff,ff,ff,ff,ff,ff] rfl rfl (by kernel_rfl) (fun _ _ _ h => h) (Or.inl ⟨by rfl, ?_⟩) ?_ ?_
    rotate_left
    ·intro w'
     go_simp
     with_reducible rfl
    rotate_left
    ·simp only [Act.put, List.setIfInBounds_toArray, List.set_cons_zero, List.set_cons_succ, i64_w, i32_w]
     rfl
    refine pure_ (i := 2) (N := some 62) (v := ?_) (a' := ?_) #[tt,tt,tt,ff,ff,ff,ff,ff,ff,ff,ff,ff,ff,ff] rfl rfl (by kernel_rfl) (fun _ _ _ h => h) (Or.inl ⟨by rfl, ?_⟩) ?_ ?_
    rotate_left
    ·intro w'
     go_simp
     with_reducible rfl
    rotate_left
    ·simp only [Act.put, List.setIfInBounds_toArray, List.set_cons_zero, List.set_cons_succ, i64_w, i32_w]
     rfl
    refine pure_ (i := 3) (N := some 63) (v := ?_) (a' := ?_) #[tt,tt,tt,tt,ff,ff,ff,ff,ff,ff,ff,ff,ff,ff] rfl rfl (by kernel_rfl) (fun _ _ _ h => h) (Or.inl ⟨by rfl, ?_⟩) ?_ ?_
    rotate_left
    ·intro w'
     go_simp
     with_reducible rfl
    rotate_left
    ·simp only [Act.put, List.setIfInBounds_toArray, List.set_cons_zero, List.set_cons_succ, i64_w, i32_w]
     rfl
    refine take_ (i := 4) (N := some 64) (v := .agg #[.int .i64 what, .int .i64 at_, .int .u8 kind, .bool must, .int .u64 none_, .slice K ks.length ck]) #[tt,tt,tt,tt,tt,ff,ff,ff,ff,ff,ff,ff,ff,ff] rfl rfl (by kernel_rfl) (fun _ _ _ h => h) (Or.inl ⟨by rfl, ?_⟩) hS rfl ?_
    ·rintro w' h0
     obtain ⟨e0, e1, e2, e3, e4, e5⟩ := h0
     go_simp
    refine norm_ (a' := ?_) ?_ ?_
    rotate_left
    ·try simp only [Act.put, putAll, List.setIfInBounds_toArray, List.set_cons_zero, List.set_cons_succ]
     rfl
    refine pure_ (i := 6) (N := some 66) (v := ?_) (a' := ?_) #[tt,tt,tt,tt,tt,ff,tt,ff,ff,ff,ff,ff,ff,ff] rfl rfl (by kernel_rfl) (fun _ _ _ h => h) (Or.inl ⟨by rfl, ?_⟩) ?_ ?_
    rotate_left
    ·intro w'
     go_simp
     with_reducible rfl
    rotate_left
    ·simp only [Act.put, List.setIfInBounds_toArray, List.set_cons_zero, List.set_cons_succ, i64_w, i32_w]
     rfl
    refine pure_ (i := 7) (N := some 67) (v := ?_) (a' := ?_) #[tt,tt,tt,tt,tt,ff,tt,tt,ff,ff,ff,ff,ff,ff] rfl rfl (by kernel_rfl) (fun _ _ _ h => h) (Or.inl ⟨by rfl, ?_⟩) ?_ ?_
    rotate_left
    ·intro w'
     go_simp
     with_reducible rfl
    rotate_left
    ·simp only [Act.put, List.setIfInBounds_toArray, List.set_cons_zero, List.set_cons_succ, i64_w, i32_w]
     rfl
    refine pure_ (i := 8) (N := some 68) (v := ?_) (a' := ?_) #[tt,tt,tt,tt,tt,ff,tt,tt,tt,ff,ff,ff,ff,ff] rfl rfl (by kernel_rfl) (fun _ _ _ h => h) (Or.inl ⟨by rfl, ?_⟩) ?_ ?_
    rotate_left
    ·intro w'
     go_simp
     with_reducible rfl
    rotate_left
    ·simp only [Act.put, List.setIfInBounds_toArray, List.set_cons_zero, List.set_cons_succ, i64_w, i32_w]
     rfl
    refine pure_ (i := 9) (N := some 69) (v := ?_) (a' := ?_) #[tt,tt,tt,tt,tt,ff,tt,tt,tt,tt,ff,ff,ff,ff] rfl rfl (by kernel_rfl) (fun _ _ _ h => h) (Or.inl ⟨by rfl, ?_⟩) ?_ ?_
    rotate_left
    ·intro w'
     go_simp
     with_reducible rfl
    rotate_left
    ·simp only [Act.put, List.setIfInBounds_toArray, List.set_cons_zero, List.set_cons_succ, i64_w, i32_w]
     rfl
    refine take_ (i := 10) (N := some 70) (v := .agg #[.int .i64 what, .int .i64 at_, .int .u8 kind, .bool must, .int .u64 none_, .slice K ks.length ck]) #[tt,tt,tt,tt,tt,ff,tt,tt,tt,tt,tt,ff,ff,ff] rfl rfl (by kernel_rfl) (fun _ _ _ h => h) (Or.inl ⟨by rfl, ?_⟩) hS rfl ?_
    ·rintro w' h0
     obtain ⟨e0, e1, e2, e3, e4, e5⟩ := h0
     go_simp
    refine norm_ (a' := ?_) ?_ ?_
    rotate_left
    ·try simp only [Act.put, putAll, List.setIfInBounds_toArray, List.set_cons_zero, List.set_cons_succ]
     rfl
    refine one_ (i := 5) (N := some 65) #[tt,tt,tt,tt,tt,tt,tt,tt,tt,tt,tt,ff,ff,ff] rfl rfl (by kernel_rfl) (by decide) (fun Kq hK => ?_)
    refine goes_ Try.func47 (by kernel_rfl) rfl #[.pointer (some ⟨gf, 0, none⟩), .agg #[.int .i64 what, .int .i64 at_, .int .u8 kind, .bool must, .int .u64 none_, .slice K ks.length ck]] (by rfl) rfl rfl (by (try simp only [List.map_toArray, List.map_cons, List.map_nil]); first | done | rfl) ?_
    refine (does47_all HSi.out.1 HKI.out what at_ kind must none_ ks K ck (Kd.C_below HKK.out HSi.out.2.2.1) hck).mono ?_
    rintro e wk ⟨Av, cv, Al, cl, rfl, hRv, hRl, hfs, hbg⟩
    refine ⟨_, rfl, ?_⟩
    have hgb := HSi.out.1
    obtain ⟨_, _, hgf, _⟩ := hgb
    have HFk := Aside0.mk hfs
    have HRk := Aside0.mk (HSi.out.2.1.bg hbg hgf (by decide) (Ne.symm hfr))
    have HBk := Aside0.mk (below_bg HSi.out.2.2.1 hbg hgf4 HSi.out.2.2.1.size)
    have HV1 := Aside0.mk hRv
    have HL1 := Aside0.mk hRl
    have hwk := Nat.le_trans HSi.out.2.2.2 hbg.size
    clear hRv hRl hfs hbg hgf
    obtain ⟨t, et⟩ : ∃ t, tellA l sp what at_ kind none_ ks = t := ⟨_, rfl⟩
    obtain ⟨sp2, es2⟩ : ∃ s, spoilA l sp what at_ kind must ks = s := ⟨_, rfl⟩
    have ET := Aside0.mk et
    have ES := Aside0.mk es2
    rw [et] at HV1 HL1 ⊢
    rw [es2] at HFk
    clear et es2
    refine hK.out _ _ (HAT.out.below HBk.out) (fun hSk => ?_)
    clear hK Kq
    refine norm_ (a' := ?_) ?_ ?_
    rotate_left
    ·try simp only [Act.put, putAll, List.setIfInBounds_toArray, List.set_cons_zero, List.set_cons_succ]
     rfl
    refine one_ (i := 11) (N := some 71) #[tt,tt,tt,tt,tt,tt,tt,tt,tt,tt,tt,tt,ff,ff] rfl rfl (by kernel_rfl) (by decide) (fun Kq hK => ?_)
    refine goes_ Try.func48 (by kernel_rfl) rfl #[.pointer (some ⟨gr, 0, none⟩), .agg #[.int .i64 what, .int .i64 at_, .int .u8 kind, .bool must, .int .u64 none_, .slice K ks.length ck]] (by rfl) rfl rfl (by (try simp only [List.map_toArray, List.map_cons, List.map_nil]); first | done | rfl) ?_
    refine (meant48_all HRk.out hwk hgB HKI.out HMY.out what at_ kind must none_ ks K ck (Kd.C_below HKK.out HBk.out) hck).mono ?_
    rintro e wm ⟨Bv, dv, Bl, dl, rfl, hRv, hRl, hfs, hbg⟩
    refine ⟨_, rfl, ?_⟩
    rw [ET.out] at hRv hRl
    rw [ES.out] at hfs
    have hgb := HRk.out
    obtain ⟨_, _, hgr, _⟩ := hgb
    have HFm := Aside0.mk (HFk.out.bg hbg hgr (by decide) hfr)
    have HRm := Aside0.mk hfs
    have HBm := Aside0.mk (below_bg HBk.out hbg hgr4 HBk.out.size)
    have HV1m := Aside0.mk (Kd.R_reads' (R_bgt HV1.out hbg hgr (by decide)))
    have HL1m := Aside0.mk (Kd.R_reads' (R_bgt HL1.out hbg hgr (by decide)))
    have HV2 := Aside0.mk (Kd.R_reads' hRv)
    have HL2 := Aside0.mk (Kd.R_reads' hRl)
    have hwm := Nat.le_trans hwk hbg.size
    clear hRv hRl hfs hbg hgr HV1 HL1
    rw [ET.out]
    refine hK.out _ _ (HAT.out.below HBm.out) (fun hSm => ?_)
    clear hK Kq
    refine norm_ (a' := ?_) ?_ ?_
    rotate_left
    ·try simp only [Act.put, putAll, List.setIfInBounds_toArray, List.set_cons_zero, List.set_cons_succ]
     rfl
    refine one_ (i := 12) (N := some 72) #[tt,tt,tt,tt,tt,tt,tt,tt,tt,tt,tt,tt,tt,ff] rfl rfl (by kernel_rfl) (by decide) (fun Kq hK => ?_)
    refine goes_ Try.func46 (by kernel_rfl) rfl #[.agg (t.cells Av cv Al cl), .agg (t.cells Bv dv Bl dl)] (by rfl) rfl rfl (by (try simp only [List.map_toArray, List.map_cons, List.map_nil]); first | done | rfl) ?_
    refine (same46_eq t (by rw [← ET.out]; exact told_items HKI.out) (by rw [← ET.out]; exact told_texts HKI.out) Av cv Al cl Bv dv Bl dl _ HV1m.out.2.2 HV1m.out.2.1 HV2.out.2.2 HV2.out.2.1 HL1m.out.2.2 HL2.out.2.2).mono ?_
    rintro e wn ⟨rfl, hbn⟩
    refine ⟨_, rfl, ?_⟩
    have HSn : Aside0 (PlS w4 gf gr base rbase B l sp2 wn) := ⟨HFm.out.below hbn, HRm.out.below hbn, below_step HBm.out hbn, Nat.le_trans hwm hbn.size⟩
    clear hbn
    refine hK.out _ _ (HAT.out.below HSn.out.2.2.1) (fun hSn => ?_)
    clear hK Kq
    refine norm_ (a' := ?_) ?_ ?_
    rotate_left
    ·try simp only [Act.put, putAll, List.setIfInBounds_toArray, List.set_cons_zero, List.set_cons_succ]
     rfl
    refine pure_ (i := 13) (N := some 73) (v := ?_) (a' := ?_) #[tt,tt,tt,tt,tt,tt,tt,tt,tt,tt,tt,tt,tt,tt] rfl rfl (by kernel_rfl) (fun _ _ _ h => h) (Or.inl ⟨by rfl, ?_⟩) ?_ ?_
    rotate_left
    ·intro w'
     go_simp
     with_reducible rfl
    rotate_left
    ·simp only [Act.put, List.setIfInBounds_toArray, List.set_cons_zero, List.set_cons_succ, i64_w, i32_w]
     rfl
    refine done_ (by kernel_rfl) ?_
    go_wp2_with fail
    go_roundg (xs.length - (i + 1))
    case measure => rw [HG.out]; omega
    case rel => exact ⟨i + 1, sp2, by go_num, ⟨by omega, rfl⟩, HSn⟩
   ·obtain rfl : i = xs.length := by omega
    have HBr := Aside0.mk HSi.out.2.2.1
    go_upto_region 13 with fail
    have hR := HSi.out.2.1
    obtain ⟨Ar, cr, hG, hRr⟩ := hR
    have BG := Aside0.mk hG
    clear hG hRr
    have BV := Aside0.mk (HPB.out.bv.below HBr.out)
    have BI := Aside0.mk (HPB.out.bi.below HBr.out)
    refine start_ (n := 28) (S := fun w' => Blk w' gr #[.slice Ar l.length cr, .bool sp] 68 ∧ Blk w' b9 #[.int .u8 v.f0, .int .u64 v.f1, .string v.f2, .slice A2 v.f3.length c2] 25 ∧ Blk w' b0 #[.int .u8 v.f0, .int .u64 v.f1, .string v.f2, .slice A v.f3.length c] 25) (ds := []) #[ff,ff,ff,ff,ff,ff,ff,ff,ff,ff,ff,ff,ff,ff,ff,ff,ff,ff,ff,ff,ff,ff,ff,ff,ff,ff,ff,ff] (by kernel_rfl) rfl rfl ⟨BG.out, BI.out, BV.out⟩ (fun hS => ?_)
    replace HBr := Aside0.mk (below_drew HBr.out)
    replace HSi := Aside0.mk ((HSi.out).below (below_drew (Below.refl _ _)))
    generalize wr.drew = wd5 at HBr HSi hS ⊢
    refine pure_ (i := 0) (N := some 74) (v := ?_) (a' := ?_) #[tt,ff,ff,ff,ff,ff,ff,ff,ff,ff,ff,ff,ff,ff,ff,ff,ff,ff,ff,ff,ff,ff,ff,ff,ff,ff,ff,ff] rfl rfl (by kernel_rfl) (fun _ _ _ h => h) (Or.inl ⟨by rfl, ?_⟩) ?_ ?_
    rotate_left
    ·intro w'
     go_simp
     with_reducible rfl
    rotate_left
    ·simp only [Act.put, List.setIfInBounds_toArray, List.set_cons_zero, List.set_cons_succ, i64_w, i32_w]
     rfl
    refine pure_ (i := 1) (N := some 75) (v := ?_) (a' := ?_) #[tt,tt,ff,ff,ff,ff,ff,ff,ff,ff,ff,ff,ff,ff,ff,ff,ff,ff,ff,ff,ff,ff,ff,ff,ff,ff,ff,ff] rfl rfl (by kernel_rfl) (fun _ _ _ h => h) (Or.inl ⟨by rfl, ?_⟩) ?_ ?_
    rotate_left
    ·intro w'
     go_simp
     with_reducible rfl
    rotate_left
    ·simp only [Act.put, List.setIfInBounds_toArray, List.set_cons_zero, List.set_cons_succ, i64_w, i32_w]
     rfl
    refine pure_ (i := 2) (N := some 76) (v := ?_) (a' := ?_) #[tt,tt,tt,ff,ff,ff,ff,ff,ff,ff,ff,ff,ff,ff,ff,ff,ff,ff,ff,ff,ff,ff,ff,ff,ff,ff,ff,ff] rfl rfl (by kernel_rfl) (fun _ _ _ h => h) (Or.inl ⟨by rfl, ?_⟩) ?_ ?_
    rotate_left
    ·intro w'
     go_simp
     with_reducible rfl
    rotate_left
    ·simp only [Act.put, List.setIfInBounds_toArray, List.set_cons_zero, List.set_cons_succ, i64_w, i32_w]
     rfl
    refine pure_ (i := 3) (N := some 77) (v := ?_) (a' := ?_) #[tt,tt,tt,tt,ff,ff,ff,ff,ff,ff,ff,ff,ff,ff,ff,ff,ff,ff,ff,ff,ff,ff,ff,ff,ff,ff,ff,ff] rfl rfl (by kernel_rfl) (fun _ _ _ h => h) (Or.inl ⟨by rfl, ?_⟩) ?_ ?_
    rotate_left
    ·intro w'
     go_simp
     with_reducible rfl
    rotate_left
    ·simp only [Act.put, List.setIfInBounds_toArray, List.set_cons_zero, List.set_cons_succ, i64_w, i32_w]
     rfl
    refine pure_ (i := 4) (N := some 78) (v := ?_) (a' := ?_) #[tt,tt,tt,tt,tt,ff,ff,ff,ff,ff,ff,ff,ff,ff,ff,ff,ff,ff,ff,ff,ff,ff,ff,ff,ff,ff,ff,ff] rfl rfl (by kernel_rfl) (fun _ _ _ h => h) (Or.inl ⟨by rfl, ?_⟩) ?_ ?_
    rotate_left
    ·intro w'
     go_simp
     with_reducible rfl
    rotate_left
    ·simp only [Act.put, List.setIfInBounds_toArray, List.set_cons_zero, List.set_cons_succ, i64_w, i32_w]
     rfl
    refine pure_ (i := 5) (N := some 79) (v := ?_) (a' := ?_) #[tt,tt,tt,tt,tt,tt,ff,ff,ff,ff,ff,ff,ff,ff,ff,ff,ff,ff,ff,ff,ff,ff,ff,ff,ff,ff,ff,ff] rfl rfl (by kernel_rfl) (fun _ _ _ h => h) (Or.inl ⟨by rfl, ?_⟩) ?_ ?_
    rotate_left
    ·intro w'
     go_simp
     with_reducible rfl
    rotate_left
    ·simp only [Act.put, List.setIfInBounds_toArray, List.set_cons_zero, List.set_cons_succ, i64_w, i32_w]
     rfl
    refine pure_ (i := 6) (N := some 80) (v := ?_) (a' := ?_) #[tt,tt,tt,tt,tt,tt,tt,ff,ff,ff,ff,ff,ff,ff,ff,ff,ff,ff,ff,ff,ff,ff,ff,ff,ff,ff,ff,ff] rfl rfl (by kernel_rfl) (fun _ _ _ h => h) (Or.inl ⟨by rfl, ?_⟩) ?_ ?_
    rotate_left
    ·intro w'
     go_simp
     with_reducible rfl
    rotate_left
    ·simp only [Act.put, List.setIfInBounds_toArray, List.set_cons_zero, List.set_cons_succ, i64_w, i32_w]
     rfl
    refine take_ (i := 7) (N := some 81) (v := .slice Ar l.length cr) #[tt,tt,tt,tt,tt,tt,tt,tt,ff,ff,ff,ff,ff,ff,ff,ff,ff,ff,ff,ff,ff,ff,ff,ff,ff,ff,ff,ff] rfl rfl (by kernel_rfl) (fun _ _ _ h => h) (Or.inl ⟨by rfl, ?_⟩) hS rfl ?_
    ·rintro w' ⟨h0, h1, h2⟩
     obtain ⟨e0, e1⟩ := h0.c2
     go_simp
    refine norm_ (a' := ?_) ?_ ?_
    rotate_left
    ·try simp only [Act.put, putAll, List.setIfInBounds_toArray, List.set_cons_zero, List.set_cons_succ]
     rfl
    refine pure_ (i := 8) (N := some 82) (v := ?_) (a' := ?_) #[tt,tt,tt,tt,tt,tt,tt,tt,tt,ff,ff,ff,ff,ff,ff,ff,ff,ff,ff,ff,ff,ff,ff,ff,ff,ff,ff,ff] rfl rfl (by kernel_rfl) (fun _ _ _ h => h) (Or.inl ⟨by rfl, ?_⟩) ?_ ?_
    rotate_left
    ·intro w'
     go_simp
     with_reducible rfl
    rotate_left
    ·simp only [Act.put, List.setIfInBounds_toArray, List.set_cons_zero, List.set_cons_succ, i64_w, i32_w]
     rfl
    refine pure_ (i := 10) (N := some 84) (v := ?_) (a' := ?_) #[tt,tt,tt,tt,tt,tt,tt,tt,tt,ff,tt,ff,ff,ff,ff,ff,ff,ff,ff,ff,ff,ff,ff,ff,ff,ff,ff,ff] rfl rfl (by kernel_rfl) (fun _ _ _ h => h) (Or.inl ⟨by rfl, ?_⟩) ?_ ?_
    rotate_left
    ·intro w'
     go_simp
     with_reducible rfl
    rotate_left
    ·simp only [Act.put, List.setIfInBounds_toArray, List.set_cons_zero, List.set_cons_succ, i64_w, i32_w]
     rfl
    refine pure_ (i := 11) (N := some 85) (v := ?_) (a' := ?_) #[tt,tt,tt,tt,tt,tt,tt,tt,tt,ff,tt,tt,ff,ff,ff,ff,ff,ff,ff,ff,ff,ff,ff,ff,ff,ff,ff,ff] rfl rfl (by kernel_rfl) (fun _ _ _ h => h) (Or.inl ⟨by rfl, ?_⟩) ?_ ?_
    rotate_left
    ·intro w'
     go_simp
     with_reducible rfl
    rotate_left
    ·simp only [Act.put, List.setIfInBounds_toArray, List.set_cons_zero, List.set_cons_succ, i64_w, i32_w]
     rfl
    refine pure_ (i := 12) (N := some 86) (v := ?_) (a' := ?_) #[tt,tt,tt,tt,tt,tt,tt,tt,tt,ff,tt,tt,tt,ff,ff,ff,ff,ff,ff,ff,ff,ff,ff,ff,ff,ff,ff,ff] rfl rfl (by kernel_rfl) (fun _ _ _ h => h) (Or.inl ⟨by rfl, ?_⟩) ?_ ?_
    rotate_left
    ·intro w'
     go_simp
     with_reducible rfl
    rotate_left
    ·simp only [Act.put, List.setIfInBounds_toArray, List.set_cons_zero, List.set_cons_succ, i64_w, i32_w]
     rfl
    refine pure_ (i := 13) (N := some 87) (v := ?_) (a' := ?_) #[tt,tt,tt,tt,tt,tt,tt,tt,tt,ff,tt,tt,tt,tt,ff,ff,ff,ff,ff,ff,ff,ff,ff,ff,ff,ff,ff,ff] rfl rfl (by kernel_rfl) (fun _ _ _ h => h) (Or.inl ⟨by rfl, ?_⟩) ?_ ?_
    rotate_left
    ·intro w'
     go_simp
     with_reducible rfl
    rotate_left
    ·simp only [Act.put, List.setIfInBounds_toArray, List.set_cons_zero, List.set_cons_succ, i64_w, i32_w]
     rfl
    refine take_ (i := 14) (N := some 88) (v := .slice Ar l.length cr) #[tt,tt,tt,tt,tt,tt,tt,tt,tt,ff,tt,tt,tt,tt,tt,ff,ff,ff,ff,ff,ff,ff,ff,ff,ff,ff,ff,ff] rfl rfl (by kernel_rfl) (fun _ _ _ h => h) (Or.inl ⟨by rfl, ?_⟩) hS rfl ?_
    ·rintro w' ⟨h0, h1, h2⟩
     obtain ⟨e0, e1⟩ := h0.c2
     go_simp
    refine norm_ (a' := ?_) ?_ ?_
    rotate_left
    ·try simp only [Act.put, putAll, List.setIfInBounds_toArray, List.set_cons_zero, List.set_cons_succ]
     rfl
    refine pure_ (i := 15) (N := some 89) (v := ?_) (a' := ?_) #[tt,tt,tt,tt,tt,tt,tt,tt,tt,ff,tt,tt,tt,tt,tt,tt,ff,ff,ff,ff,ff,ff,ff,ff,ff,ff,ff,ff] rfl rfl (by kernel_rfl) (fun _ _ _ h => h) (Or.inl ⟨by rfl, ?_⟩) ?_ ?_
    rotate_left
    ·intro w'
     go_simp
     with_reducible rfl
    rotate_left
    ·simp only [Act.put, List.setIfInBounds_toArray, List.set_cons_zero, List.set_cons_succ, i64_w, i32_w]
     rfl
    refine one_ (i := 9) (N := some 83) #[tt,tt,tt,tt,tt,tt,tt,tt,tt,tt,tt,tt,tt,tt,tt,tt,ff,ff,ff,ff,ff,ff,ff,ff,ff,ff,ff,ff] rfl rfl (by kernel_rfl) (by decide) (fun K hK => ?_)
    refine goes_ Try.func43 (by kernel_rfl) rfl #[.pointer (some ⟨gf, 0, none⟩), .int .i64 (l.length : Int)] (by rfl) rfl rfl (by (try simp only [List.map_toArray, List.map_cons, List.map_nil]); first | done | rfl) ?_
    refine (done43_any HSi.out.1 _).mono ?_
    rintro e wk6 ⟨rfl, hwk6⟩
    refine ⟨_, rfl, ?_⟩
    subst hwk6
    refine hK.out _ _ hS (fun _ => ?_)
    clear hK K
    refine norm_ (a' := ?_) ?_ ?_
    rotate_left
    ·try simp only [Act.put, putAll, List.setIfInBounds_toArray, List.set_cons_zero, List.set_cons_succ]
     rfl
    refine one_ (i := 16) (N := some 90) #[tt,tt,tt,tt,tt,tt,tt,tt,tt,tt,tt,tt,tt,tt,tt,tt,tt,ff,ff,ff,ff,ff,ff,ff,ff,ff,ff,ff] rfl rfl (by kernel_rfl) (by decide) (fun K hK => ?_)
    refine goes_ Try.func49 (by kernel_rfl) rfl #[.pointer (some ⟨gr, 0, none⟩), .int .i64 (l.length : Int)] (by rfl) rfl rfl (by (try simp only [List.map_toArray, List.map_cons, List.map_nil]); first | done | rfl) ?_
    refine (done49_any HSi.out.2.1 _).mono ?_
    rintro e wk7 ⟨rfl, hwk7⟩
    refine ⟨_, rfl, ?_⟩
    subst hwk7
    refine hK.out _ _ hS (fun _ => ?_)
    clear hK K
    refine norm_ (a' := ?_) ?_ ?_
    rotate_left
    ·try simp only [Act.put, putAll, List.setIfInBounds_toArray, List.set_cons_zero, List.set_cons_succ]
     rfl
    refine pure_ (i := 17) (N := some 91) (v := ?_) (a' := ?_) #[tt,tt,tt,tt,tt,tt,tt,tt,tt,tt,tt,tt,tt,tt,tt,tt,tt,tt,ff,ff,ff,ff,ff,ff,ff,ff,ff,ff] rfl rfl (by kernel_rfl) (fun _ _ _ h => h) (Or.inl ⟨by rfl, ?_⟩) ?_ ?_
    rotate_left
    ·intro w'
     go_simp
     with_reducible rfl
    rotate_left
    ·simp only [Act.put, List.setIfInBounds_toArray, List.set_cons_zero, List.set_cons_succ, i64_w, i32_w]
     rfl
    refine pure_ (i := 18) (N := some 92) (v := ?_) (a' := ?_) #[tt,tt,tt,tt,tt,tt,tt,tt,tt,tt,tt,tt,tt,tt,tt,tt,tt,tt,tt,ff,ff,ff,ff,ff,ff,ff,ff,ff] rfl rfl (by kernel_rfl) (fun _ _ _ h => h) (Or.inl ⟨by rfl, ?_⟩) ?_ ?_
    rotate_left
    ·intro w'
     go_simp
     with_reducible rfl
    rotate_left
    ·simp only [Act.put, List.setIfInBounds_toArray, List.set_cons_zero, List.set_cons_succ, i64_w, i32_w]
     rfl
    refine pure_ (i := 19) (N := some 93) (v := ?_) (a' := ?_) #[tt,tt,tt,tt,tt,tt,tt,tt,tt,tt,tt,tt,tt,tt,tt,tt,tt,tt,tt,tt,ff,ff,ff,ff,ff,ff,ff,ff] rfl rfl (by kernel_rfl) (fun _ _ _ h => h) (Or.inl ⟨by rfl, ?_⟩) ?_ ?_
    rotate_left
    ·intro w'
     go_simp
     with_reducible rfl
    rotate_left
    ·simp only [Act.put, List.setIfInBounds_toArray, List.set_cons_zero, List.set_cons_succ, i64_w, i32_w]
     rfl
    refine take_ (i := 20) (N := some 94) (v := .agg #[.int .u8 v.f0, .int .u64 v.f1, .string v.f2, .slice A2 v.f3.length c2]) #[tt,tt,tt,tt,tt,tt,tt,tt,tt,tt,tt,tt,tt,tt,tt,tt,tt,tt,tt,tt,tt,ff,ff,ff,ff,ff,ff,ff] rfl rfl (by kernel_rfl) (fun _ _ _ h => h) (Or.inl ⟨by rfl, ?_⟩) hS rfl ?_
    ·rintro w' ⟨h0, h1, h2⟩
     obtain ⟨e0, e1, e2, e3⟩ := h1.c4
     go_simp
    refine norm_ (a' := ?_) ?_ ?_
    rotate_left
    ·try simp only [Act.put, putAll, List.setIfInBounds_toArray, List.set_cons_zero, List.set_cons_succ]
     rfl
    refine take_ (i := 21) (N := some 95) (v := .agg #[.int .u8 v.f0, .int .u64 v.f1, .string v.f2, .slice A v.f3.length c]) #[tt,tt,tt,tt,tt,tt,tt,tt,tt,tt,tt,tt,tt,tt,tt,tt,tt,tt,tt,tt,tt,tt,ff,ff,ff,ff,ff,ff] rfl rfl (by kernel_rfl) (fun _ _ _ h => h) (Or.inl ⟨by rfl, ?_⟩) hS rfl ?_
    ·rintro w' ⟨h0, h1, h2⟩
     obtain ⟨e0, e1, e2, e3⟩ := h2.c4
     go_simp
    refine norm_ (a' := ?_) ?_ ?_
    rotate_left
    ·try simp only [Act.put, putAll, List.setIfInBounds_toArray, List.set_cons_zero, List.set_cons_succ]
     rfl
    refine one_ (i := 22) (N := some 96) #[tt,tt,tt,tt,tt,tt,tt,tt,tt,tt,tt,tt,tt,tt,tt,tt,tt,tt,tt,tt,tt,tt,tt,ff,ff,ff,ff,ff] rfl rfl (by kernel_rfl) (by decide) (fun K hK => ?_)
    refine goes_ Try.func19 (by kernel_rfl) rfl #[.agg #[.int .u8 v.f0, .int .u64 v.f1, .string v.f2, .slice A2 v.f3.length c2], .agg #[.int .u8 v.f0, .int .u64 v.f1, .string v.f2, .slice A v.f3.length c]] (by rfl) rfl rfl (by (try simp only [List.map_toArray, List.map_cons, List.map_nil]); first | done | rfl) ?_
    refine (same19_any v v A2 A c2 c _ (Kd.C_below HPB.out.ci HBr.out) hc2 HNN.out (Kd.C_below HPB.out.cv HBr.out) hc).mono ?_
    rintro e wk8 ⟨he, hb8⟩
    rw [veq_refl] at he
    subst he
    refine ⟨_, rfl, ?_⟩
    have hS8 : Blk wk8 gr #[.slice Ar l.length cr, .bool sp] 68 ∧ Blk wk8 b9 #[.int .u8 v.f0, .int .u64 v.f1, .string v.f2, .slice A2 v.f3.length c2] 25 ∧ Blk wk8 b0 #[.int .u8 v.f0, .int .u64 v.f1, .string v.f2, .slice A v.f3.length c] 25 := ⟨hS.1.below hb8, hS.2.1.below hb8, hS.2.2.below hb8⟩
    have HBr8 := Aside0.mk (below_step HBr.out hb8)
    have HSi8 := Aside0.mk ((HSi.out).below hb8)
    refine hK.out _ _ hS8 (fun _ => ?_)
    clear hK K hb8
    refine norm_ (a' := ?_) ?_ ?_
    rotate_left
    ·try simp only [Act.put, putAll, List.setIfInBounds_toArray, List.set_cons_zero, List.set_cons_succ]
     rfl
    refine pure_ (i := 23) (N := some 97) (v := ?_) (a' := ?_) #[tt,tt,tt,tt,tt,tt,tt,tt,tt,tt,tt,tt,tt,tt,tt,tt,tt,tt,tt,tt,tt,tt,tt,tt,ff,ff,ff,ff] rfl rfl (by kernel_rfl) (fun _ _ _ h => h) (Or.inl ⟨by rfl, ?_⟩) ?_ ?_
    rotate_left
    ·intro w'
     go_simp
     with_reducible rfl
    rotate_left
    ·simp only [Act.put, List.setIfInBounds_toArray, List.set_cons_zero, List.set_cons_succ, i64_w, i32_w]
     rfl
    refine pure_ (i := 24) (N := some 98) (v := ?_) (a' := ?_) #[tt,tt,tt,tt,tt,tt,tt,tt,tt,tt,tt,tt,tt,tt,tt,tt,tt,tt,tt,tt,tt,tt,tt,tt,tt,ff,ff,ff] rfl rfl (by kernel_rfl) (fun _ _ _ h => h) (Or.inl ⟨by rfl, ?_⟩) ?_ ?_
    rotate_left
    ·intro w'
     go_simp
     with_reducible rfl
    rotate_left
    ·simp only [Act.put, List.setIfInBounds_toArray, List.set_cons_zero, List.set_cons_succ, i64_w, i32_w]
     rfl
    refine one_ (i := 25) (N := some 99) #[tt,tt,tt,tt,tt,tt,tt,tt,tt,tt,tt,tt,tt,tt,tt,tt,tt,tt,tt,tt,tt,tt,tt,tt,tt,tt,ff,ff] rfl rfl (by kernel_rfl) (by decide) (fun K hK => ?_)
    refine goes_ Try.func38 (by kernel_rfl) rfl #[] (by rfl) rfl rfl (by (try simp only [List.map_toArray, List.map_cons, List.map_nil]); first | done | rfl) ?_
    refine (works38_any _).mono ?_
    rintro e wk9 ⟨rfl, hb9⟩
    refine ⟨_, rfl, ?_⟩
    have hS9 : Blk wk9 gr #[.slice Ar l.length cr, .bool sp] 68 ∧ Blk wk9 b9 #[.int .u8 v.f0, .int .u64 v.f1, .string v.f2, .slice A2 v.f3.length c2] 25 ∧ Blk wk9 b0 #[.int .u8 v.f0, .int .u64 v.f1, .string v.f2, .slice A v.f3.length c] 25 := ⟨hS8.1.below hb9, hS8.2.1.below hb9, hS8.2.2.below hb9⟩
    have HBr9 := Aside0.mk (below_step HBr8.out hb9)
    have HSi9 := Aside0.mk ((HSi8.out).below hb9)
    refine hK.out _ _ hS9 (fun _ => ?_)
    clear hK K hb9 hS8
    refine norm_ (a' := ?_) ?_ ?_
    rotate_left
    ·try simp only [Act.put, putAll, List.setIfInBounds_toArray, List.set_cons_zero, List.set_cons_succ]
     rfl
    refine pure_ (i := 26) (N := some 100) (v := ?_) (a' := ?_) #[tt,tt,tt,tt,tt,tt,tt,tt,tt,tt,tt,tt,tt,tt,tt,tt,tt,tt,tt,tt,tt,tt,tt,tt,tt,tt,tt,ff] rfl rfl (by kernel_rfl) (fun _ _ _ h => h) (Or.inl ⟨by rfl, ?_⟩) ?_ ?_
    rotate_left
    ·intro w'
     go_simp
     with_reducible rfl
    rotate_left
    ·simp only [Act.put, List.setIfInBounds_toArray, List.set_cons_zero, List.set_cons_succ, i64_w, i32_w]
     rfl
    refine pure_ (i := 27) (N := some 8) (v := ?_) (a' := ?_) #[tt,tt,tt,tt,tt,tt,tt,tt,tt,tt,tt,tt,tt,tt,tt,tt,tt,tt,tt,tt,tt,tt,tt,tt,tt,tt,tt,tt] rfl rfl (by kernel_rfl) (fun _ _ _ h => h) (Or.inl ⟨by rfl, ?_⟩) ?_ ?_
    rotate_left
    ·intro w'
     go_simp
     with_reducible rfl
    rotate_left
    ·simp only [Act.put, List.setIfInBounds_toArray, List.set_cons_zero, List.set_cons_succ, i64_w, i32_w]
     rfl
    refine done_ (by kernel_rfl) ?_
    go_wp2_with fail
    go_ret
    exact ⟨rfl, below_step HB4.out HBr9.out⟩
end Go.Proofs.Ytdilbnggedidnaa.PVal
