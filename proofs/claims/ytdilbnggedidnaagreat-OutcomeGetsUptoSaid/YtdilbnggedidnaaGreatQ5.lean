import Derived.Test.YtdilbnggedidnaaGreatQ4
set_option maxRecDepth 100000
set_option maxHeartbeats 8000000
namespace Go.Proofs.YtdilbnggedidnaaGreat.PVal
open Go.RowKit Go.Shelf Go.Proofs.YtdilbnggedidnaaGreatW.PrintWords Go.Proofs.YtdilbnggedidnaaGreatW.PrintLast
set_option linter.unusedVariables false
set_option linter.unusedSimpArgs false
theorem field25_3 (a b c : Value) (A : Option Addr) (n d : Nat) (w : World) : (Instr.field 25 (.agg #[a, b, c, .slice A n d]) 3).run Tryz.prog w = .ok (.slice A n d) w := by kernel_rfl
attribute [local go_sem] field25_3
def newF (v : S25) (code : Int) (name : ByteArray) : Option (List S25) :=
 if rightB v = true ∧ v.f0 = 25 ∧ (rd_T25 v.f3 1).f0 = 22 ∧ calledB (rd_T25 v.f3 0) code name = true then some (rd_T25 v.f3 1).f3 else none
theorem desc_two {v : S25} (h : rightB v = true) (h25 : v.f0 = 25) : ∃ a b, v.f3 = [a, b] := by
 unfold rightB at h
 simp only [Bool.and_eq_true] at h
 have hm := h.2
 rw [mayB_eq] at hm
 simp only [Bool.and_eq_true] at hm
 have hf := hm.2.2
 unfold famB at hf
 rw [if_neg (by omega), if_neg (by omega), if_neg (by omega), if_pos h25] at hf
 simp only [Bool.and_eq_true, decide_eq_true_eq] at hf
 rcases hx : v.f3 with _ | ⟨a, _ | ⟨b, _ | ⟨c, t⟩⟩⟩ <;> rw [hx] at hf <;> simp at hf ⊢
theorem new44_no (v : S25) (hs : itemsN v ≤ 4294967296) (ho : okV v) (code : Int) (name : ByteArray) (A : Option Addr) (c : Nat) (w : World) (ha : k25.C w A v.f3.length v.f3) (hc : v.f3.length ≤ c) (h : newF v code name = none) :
  Calls Tryz.prog 27 #[.agg #[.int .u8 v.f0, .int .u64 v.f1, .string v.f2, .slice A v.f3.length c], .int .u64 code, .string name] w fun e w' => e = .returned (.tuple #[.pointer none, .int .i64 6]) ∧ Below w.heap.size w w' := by
 have HN := Aside0.mk h
 clear h
 have HA := Aside0.mk ha
 have hal := below_alloc (Below.refl w.heap.size w) (.cells #[.int .u8 v.f0, .int .u64 v.f1, .string v.f2, .slice A v.f3.length c] 25)
 have HAL := Aside0.mk (Kd.C_below ha hal)
 have HB0 := Aside0.mk hal
 have BX := Aside0.mk (Blk.new w #[.int .u8 v.f0, .int .u64 v.f1, .string v.f2, .slice A v.f3.length c] 25)
 clear ha hal
 go_enter Tryz.func27, Tryz.ntmps27
 obtain ⟨p0, p1, p2, p3⟩ := BX.out.c4
 go_wp2_with fail
 refine (right17_any v hs ho A c _ HAL.out hc).mono ?_
 rintro e w2 ⟨he, hb2⟩
 have bX := BX.out.below hb2
 have HB2 := Aside0.mk (below_step HB0.out hb2)
 have HC2 := Aside0.mk (Kd.C_below HAL.out hb2)
 clear p0 p1 p2 p3 hb2 BX HAL HB0
 obtain ⟨p0, p1, p2, p3⟩ := bX.c4
 cases hr : rightB v with
 | false =>
  rw [hr] at he
  subst he
  clear hr
  go_wp2_with fail
  go_ret2
  exact ⟨rfl, HB2.out⟩
 | true =>
  rw [hr] at he
  subst he
  by_cases h25 : v.f0 = 25
  ·have HNN := HN.out
   obtain ⟨a, b, hab⟩ := desc_two hr h25
   obtain ⟨ad, A0, c0, e0, x0, x1, x2, x3, l0, C0⟩ := at_T25 HC2.out 0 (by omega) (by rw [hab]; simp)
   obtain ⟨ad1, A1, c1, e1, y0, y1, y2, y3, l1, C1⟩ := at_T25 HC2.out 1 (by omega) (by rw [hab]; simp)
   cases e0
   cases e1
   rw [show (0 : Int).toNat = 0 from rfl, Nat.zero_mul, add_nought] at x0 x1 x2 x3
   rw [show (1 : Int).toNat = 1 from rfl] at y0 y1 y2 y3
   have ha0 : rd_T25 v.f3 0 = a := by rw [hab]; rfl
   have hb0 : rd_T25 v.f3 1 = b := by rw [hab]; rfl
   rw [ha0] at x0 x1 x2 x3 l0 C0
   rw [hb0] at y0 y1 y2 y3 l1 C1
   have hl2 : v.f3.length = 2 := by rw [hab]; rfl
   have h0l : 0 < v.f3.length := by omega
   have h1l : 1 < v.f3.length := by omega
   have k25 : (v.f0 != 25) = false := by simp [h25]
   have HC0 := Aside0.mk C0
   have HC1 := Aside0.mk C1
   have ad0 : ad.add 0 = ad := add_nought ad
   simp only [Nat.reduceMul, Nat.reduceEqDiff, Go.Addr.add, ↓reduceIte] at y0 y1 y2 y3
   have HB0' := Aside0.mk ha0
   have HB1 := Aside0.mk hb0
   have HIB : Aside0 (itemsN b ≤ itemsN v) := ⟨by rw [itemsN_eq v, hab]; simp only [itemsL]; omega⟩
   clear hab C0 C1 ha0 hb0 hl2
   cases h22 : (b.f0 != 22) with
   | true =>
    clear HNN hr h25
    go_wp2_with fail
    go_ret2
    exact ⟨rfl, HB2.out⟩
   | false =>
    have hcl : calledB a code name = false := by
     cases hq : calledB a code name with
     | false => rfl
     | true =>
      unfold newF at HNN
      rw [if_pos ⟨hr, h25, by rw [HB1.out]; simpa using h22, by rw [HB0'.out]; exact hq⟩] at HNN
      cases HNN
    clear HNN hr h25
    go_wp2_with fail
    refine (called74_any a code name A0 c0 _).mono ?_
    rintro e w3 ⟨he, hb3⟩
    rw [hcl] at he
    subst he
    have HB3 := Aside0.mk (below_step HB2.out hb3)
    clear hcl hb3 p0 p1 p2 p3 x0 x1 x2 x3 y0 y1 y2 y3
    go_wp2_with fail
    go_ret2
    exact ⟨rfl, HB3.out⟩
  ·have k25 : (v.f0 != 25) = true := by simp [h25]
   clear hr h25
   go_wp2_with fail
   go_ret2
   exact ⟨rfl, HB2.out⟩
theorem new44_yes (v : S25) (hs : itemsN v ≤ 4294967296) (ho : okV v) (code : Int) (name : ByteArray) (A : Option Addr) (c : Nat) (w : World) (ha : k25.C w A v.f3.length v.f3) (hc : v.f3.length ≤ c) {l : List S25} (h : newF v code name = some l) :
  Calls Tryz.prog 27 #[.agg #[.int .u8 v.f0, .int .u64 v.f1, .string v.f2, .slice A v.f3.length c], .int .u64 code, .string name] w fun e w' => ∃ g, e = .returned (.tuple #[.pointer (some ⟨g, 0, none⟩), .int .i64 0]) ∧ w.heap.size ≤ g ∧ FS w' w.heap.size g l false ∧ Below w.heap.size w w' := by
 unfold newF at h
 split at h
 case isFalse => cases h
 case isTrue hq =>
 have HQ := Aside0.mk hq
 have HLI := Aside0.mk (Option.some.inj h)
 clear h hq
 have HA := Aside0.mk ha
 have hal := below_alloc (Below.refl w.heap.size w) (.cells #[.int .u8 v.f0, .int .u64 v.f1, .string v.f2, .slice A v.f3.length c] 25)
 have HAL := Aside0.mk (Kd.C_below ha hal)
 have HB0 := Aside0.mk hal
 have BX := Aside0.mk (Blk.new w #[.int .u8 v.f0, .int .u64 v.f1, .string v.f2, .slice A v.f3.length c] 25)
 clear ha hal
 go_enter Tryz.func27, Tryz.ntmps27
 obtain ⟨p0, p1, p2, p3⟩ := BX.out.c4
 go_wp2_with fail
 refine (right17_any v hs ho A c _ HAL.out hc).mono ?_
 rintro e w2 ⟨he, hb2⟩
 have bX := BX.out.below hb2
 have HB2 := Aside0.mk (below_step HB0.out hb2)
 have HC2 := Aside0.mk (Kd.C_below HAL.out hb2)
 clear p0 p1 p2 p3 hb2 BX HAL HB0
 obtain ⟨p0, p1, p2, p3⟩ := bX.c4
 obtain ⟨hr, h25, h22, hcl⟩ := HQ.out
 have hli := HLI.out
 clear HQ HLI
 rw [hr] at he
 subst he
 obtain ⟨a, b, hab⟩ := desc_two hr h25
 obtain ⟨ad, A0, c0, e0, x0, x1, x2, x3, l0, C0⟩ := at_T25 HC2.out 0 (by omega) (by rw [hab]; simp)
 obtain ⟨ad1, A1, c1, e1, y0, y1, y2, y3, l1, C1⟩ := at_T25 HC2.out 1 (by omega) (by rw [hab]; simp)
 cases e0
 cases e1
 rw [show (0 : Int).toNat = 0 from rfl, Nat.zero_mul, add_nought] at x0 x1 x2 x3
 rw [show (1 : Int).toNat = 1 from rfl] at y0 y1 y2 y3
 have ha0 : rd_T25 v.f3 0 = a := by rw [hab]; rfl
 have hb0 : rd_T25 v.f3 1 = b := by rw [hab]; rfl
 rw [ha0] at x0 x1 x2 x3 l0 C0
 rw [hb0] at y0 y1 y2 y3 l1 C1
 have hl2 : v.f3.length = 2 := by rw [hab]; rfl
 have h0l : 0 < v.f3.length := by omega
 have h1l : 1 < v.f3.length := by omega
 have k25 : (v.f0 != 25) = false := by simp [h25]
 have HC0 := Aside0.mk C0
 have HC1 := Aside0.mk C1
 have ad0 : ad.add 0 = ad := add_nought ad
 simp only [Nat.reduceMul, Nat.reduceEqDiff, Go.Addr.add, ↓reduceIte] at y0 y1 y2 y3
 have HB0' := Aside0.mk ha0
 have HB1 := Aside0.mk hb0
 have HIB : Aside0 (itemsN b ≤ itemsN v) := ⟨by rw [itemsN_eq v, hab]; simp only [itemsL]; omega⟩
 clear hab C0 C1 ha0 hb0 hl2
 rw [HB1.out] at h22 hli
 rw [HB0'.out] at hcl
 subst hli
 have HCL := Aside0.mk hcl
 have hitb : itemsN b ≤ 4294967296 := by have := HIB.out; omega
 have h22' : (b.f0 != 22) = false := by simp [h22]
 clear hr h25 h22 hcl
 go_wp2_with fail
 refine (called74_any a code name A0 c0 _).mono ?_
 rintro e w3 ⟨he, hb3⟩
 rw [HCL.out] at he
 subst he
 have HB3 := Aside0.mk (below_step HB2.out hb3)
 have bX3 := bX.below hb3
 have HC3 := Aside0.mk (Kd.C_below HC1.out hb3)
 have HY := Aside0.mk (And.intro ((hb3.cell (World.block_lt_of_cell? _ _ y0)).trans y0) (And.intro ((hb3.cell (World.block_lt_of_cell? _ _ y1)).trans y1) (And.intro ((hb3.cell (World.block_lt_of_cell? _ _ y2)).trans y2) ((hb3.cell (World.block_lt_of_cell? _ _ y3)).trans y3))))
 clear hb3 p0 p1 p2 p3 x0 x1 x2 x3 y0 y1 y2 y3 bX
 obtain ⟨p0, p1, p2, p3⟩ := bX3.c4
 obtain ⟨y0, y1, y2, y3⟩ := HY.out
 go_wp2_with fail
 refine (copy31_any b hitb A1 c1 _ HC3.out l1).mono ?_
 rintro e w4 ⟨A2, c2, rfl, hR, hb4⟩
 have HR := Aside0.mk (Kd.R_bound hR)
 have HB4 := Aside0.mk (below_step HB3.out hb4)
 have hsz := HB3.out.size
 clear hR hb4 p0 p1 p2 p3 y0 y1 y2 y3 bX3
 go_wp2_with fail
 go_ret2
 have hal := below_alloc (Below.refl w4.heap.size w4) (.cells #[.slice A2 b.f3.length c2, .bool false] 75)
 refine ⟨w4.heap.size, rfl, by have := HB4.out.size; omega, ⟨A2, c2, Blk.new w4 #[.slice A2 b.f3.length c2, .bool false] 75, ?_⟩, below_step HB4.out hal⟩
 exact Kd.R_lower (Kd.R_below (Kd.R_mono HR.out (fun k hk => by have := hk.2.2.1; omega)) hal) hsz
end Go.Proofs.YtdilbnggedidnaaGreat.PVal
namespace Go.Proofs.YtdilbnggedidnaaGreat.PVal
open Go.RowKit Go.Shelf Go.Proofs.YtdilbnggedidnaaGreatW.PrintWords Go.Proofs.YtdilbnggedidnaaGreatW.PrintLast
set_option linter.unusedVariables false
set_option linter.unusedSimpArgs false
theorem okL_take : ∀ {l : List S25}, okL l → ∀ n, okL (l.take n)
 | [], _, n => by simp; trivial
 | x :: l, h, 0 => trivial
 | x :: l, h, n + 1 => by
  rw [okL] at h
  rw [List.take_succ_cons, okL]
  exact ⟨h.1, okL_take h.2 n⟩
theorem okV_put {code : Int} {l : List S25} (h0 : u64R code) (h : okL l) : okV (putV code l) := by
 unfold putV trimL
 rw [okV, okL, okL, okL, okV, okV]
 exact ⟨⟨⟨by omega, by omega⟩, by decide⟩, ⟨⟨h0, by decide⟩, trivial⟩, ⟨⟨⟨by omega, by omega⟩, by decide⟩, okL_take h _⟩, trivial⟩
theorem newF_put (code : Int) (l : List S25) (name : ByteArray) : newF (putV code l) code name = if rightB (putV code l) = true then some (trimL l) else none := by
 have hc : calledB ⟨6, code, ⟨#[]⟩, []⟩ code name = true := by unfold calledB; simp
 unfold newF
 by_cases h : rightB (putV code l) = true
 ·rw [if_pos ⟨h, rfl, rfl, hc⟩, if_pos h]; rfl
 ·rw [if_neg (fun hh => h hh.1), if_neg h]
theorem kindP_one (k : Int) (x : S25) : kindP [k] x = (x.f0 == k) := by unfold kindP; simp
def SymC (w : World) (p b : Nat) : Prop := Blk w p #[.func (.func 70) #[] #[.pointer (some ⟨b, 0, none⟩)]] 40 ∧ Fit 70 [.pointer (some ⟨b, 0, none⟩)] (kindP [21]) w
theorem SymC.below {w w' : World} {p b : Nat} (h : SymC w p b) (hb : Below w.heap.size w w') : SymC w' p b := ⟨h.1.below hb, h.2.later hb⟩
end Go.Proofs.YtdilbnggedidnaaGreat.PVal
namespace Go.Proofs.YtdilbnggedidnaaGreat.PVal
open Go.RowKit Go.Shelf Go.Proofs.YtdilbnggedidnaaGreatW.PrintWords Go.Proofs.YtdilbnggedidnaaGreatW.PrintLast
set_option linter.unusedVariables false
set_option linter.unusedSimpArgs false
def symV (s : ByteArray) : S25 := ⟨21, 0, s, []⟩
end Go.Proofs.YtdilbnggedidnaaGreat.PVal
namespace Go.Proofs.YtdilbnggedidnaaGreat.PVal
open Go.RowKit Go.Proofs.YtdilbnggedidnaaGreatW.PrintWords Go.Proofs.YtdilbnggedidnaaGreatW.PrintLast
set_option linter.unusedVariables false
set_option linter.unusedSimpArgs false
theorem cells5_ : Tryz.prog.cellsOf 5 = 1 := by kernel_rfl
theorem cells22_ : Tryz.prog.cellsOf 22 = 1 := by kernel_rfl
theorem cells9_ : Tryz.prog.cellsOf 9 = 1 := by kernel_rfl
theorem cells23_ : Tryz.prog.cellsOf 23 = 1 := by kernel_rfl
theorem cells25_ : Tryz.prog.cellsOf 25 = 4 := by kernel_rfl
theorem list4 {α : Type} {l : List α} (h : l.length = 4) : ∃ a b c d, l = [a, b, c, d] := by
 match l, h with
 | [a, b, c, d], _ => exact ⟨a, b, c, d, rfl⟩
theorem open_list {H α : Type} : ∀ (es : List (DataW H × α)) (Q : Nat → S25 → Prop), (∀ i e, es[i]? = some e → ∃ y, Q i y ∧ itemsN y + textsN y ≤ Rows.uptoBulk e.1 ∧ (Rows.uptoBulk e.1 ≤ 4294967290 → okV y)) →
  ∃ l : List S25, l.length = es.length ∧ itemsL l + textsL l ≤ Rows.uptoBulkAll (es.map (·.1)) ∧ (Rows.uptoBulkAll (es.map (·.1)) ≤ 4294967290 → okL l) ∧ ∀ i y, l[i]? = some y → Q i y
 | [], Q, _ => ⟨[], rfl, by simp [itemsL, textsL], fun _ => by rw [okL]; trivial, fun i y h => by simp at h⟩
 | e :: es, Q, h => by
  obtain ⟨y, hq, hb, ho⟩ := h 0 e rfl
  obtain ⟨l, hl, hlb, hlo, hlq⟩ := open_list es (fun i => Q (i + 1)) (fun i e' he => h (i + 1) e' (by simpa using he))
  refine ⟨y :: l, by simp [hl], ?_, fun hk => by
   simp only [List.map_cons, Rows.uptoBulkAll] at hk
   rw [okL]; exact ⟨ho (by omega), hlo (by omega)⟩, fun i z hz => ?_⟩
  ·simp only [itemsL, textsL, List.map_cons, Rows.uptoBulkAll]; omega
  ·cases i with
   | zero =>
    obtain rfl : y = z := by simpa using hz
    exact hq
   | succ i => exact hlq i z (by simpa using hz)
def Opened {H α : Type} (w : World) (cs : List Value) (x : DataW H × α) : Prop :=
 ∃ (y : S25) (A : Option Addr) (c : Nat), cs = [.int .u8 y.f0, .int .u64 y.f1, .string y.f2, .slice A y.f3.length c] ∧ y.f3.length ≤ c ∧ k25.C w A y.f3.length y.f3 ∧ itemsN y + textsN y ≤ Rows.uptoBulk x.1 ∧ (Rows.uptoBulk x.1 ≤ 4294967290 → okV y)
def OpenedL {H α : Type} (w : World) (cs : List Value) (x : DataW H × α) : Prop :=
 ∃ (l : List S25) (A : Option Addr) (c : Nat), cs = [.slice A l.length c] ∧ l.length ≤ c ∧ k25.C w A l.length l ∧ itemsL l + textsL l + 1 ≤ Rows.uptoBulk x.1 ∧ (Rows.uptoBulk x.1 ≤ 4294967290 → okL l)
section
variable {H : Type} {enc : TypeId × Value → H} {w : World} {base : Nat} {spare : Nat → Bool} {held : Bool}
theorem open_vals {m : Nat} {t : TypeId} (ht : Tryz.prog.underlying t = some (.slice 25)) (ih : ∀ n, n < m → ∀ (cs : List Value) (x : DataW H × List MemPlace), DataW.trod enc Tryz.prog w base spare held n 25 cs = some x → Opened w cs x)
  (cs : List Value) (x : DataW H × List MemPlace) (h : DataW.trod enc Tryz.prog w base spare held m t cs = some x) : OpenedL w cs x := by
 rcases DataW.trod_slice ht h with ⟨rfl, rfl⟩ | ⟨a, len, cap, es, rest, n, rfl, rfl, rfl, hb, hl, hm, hlen, hel, _, _⟩
 ·exact ⟨[], none, 0, rfl, Nat.le_refl _, ⟨rfl, by simp, fun h => absurd h (by simp)⟩, by simp [itemsL, textsL, Rows.uptoBulk], fun _ => by rw [okL]; trivial⟩
 ·rw [cells25_] at hel
  obtain ⟨l, hll, hlb, hlo, hlq⟩ := open_list es (fun i y => ∃ c, c.length = 4 ∧ k25.K w y c ∧ ∀ j u, c[j]? = some u → w.cell? (a.add (i * 4 + j)) = some u) (fun i e he => by
   have hi : i < es.length := (List.getElem?_eq_some_iff.1 he).1
   have h1 := hel i (by omega)
   rw [he] at h1
   obtain ⟨cs', h2, h3⟩ := Option.bind_eq_some_iff.1 h1
   obtain ⟨y, A, c, hcs, hc, hC, hbk, hok⟩ := ih n (by omega) cs' e h3
   refine ⟨y, ⟨cs', by rw [hcs]; rfl, by rw [hcs]; exact k25_mk w y hc hC, fun j u hj => ?_⟩, hbk, hok⟩
   obtain ⟨_, hlen4, hcell⟩ := World.cells?_some h2
   have hj4 : j < 4 := by have := (List.getElem?_eq_some_iff.1 hj).1; omega
   have := hcell j hj4
   rw [add_add] at this
   exact this.trans hj)
  refine ⟨l, some a, cap, by rw [hll, hlen], by omega, ⟨rfl, by unfold maxLen at hm; omega, fun _ => ⟨a, rfl, hlq⟩⟩, ?_, fun hk => hlo ?_⟩
  ·simp only [Rows.uptoBulk]; omega
  ·simp only [Rows.uptoBulk] at hk; omega
theorem open_val : ∀ (n : Nat) (cs : List Value) (x : DataW H × List MemPlace), DataW.trod enc Tryz.prog w base spare held n 25 cs = some x → Opened w cs x := by
 intro n
 induction n using Nat.strongRecOn with
 | _ n ih =>
  intro cs x h
  obtain ⟨xs, m, rfl, rfl, hl, hlen, hf⟩ := DataW.trod_struct Tryz.underlying25 h
  rw [cells25_] at hl
  obtain ⟨c0, c1, c2, c3, rfl⟩ := list4 hl
  obtain ⟨y0, y1, y2, y3, rfl⟩ := list4 hlen
  have h0 : DataW.trod enc Tryz.prog w base spare held m 5 (([c0, c1, c2, c3].drop 0).take (Tryz.prog.cellsOf 5)) = some y0 := hf 0 _ rfl
  rw [cells5_] at h0
  have h1 : DataW.trod enc Tryz.prog w base spare held m 22 (([c0, c1, c2, c3].drop 1).take (Tryz.prog.cellsOf 22)) = some y1 := hf 1 _ rfl
  rw [cells22_] at h1
  have h2 : DataW.trod enc Tryz.prog w base spare held m 9 (([c0, c1, c2, c3].drop 2).take (Tryz.prog.cellsOf 9)) = some y2 := hf 2 _ rfl
  rw [cells9_] at h2
  have h3 : DataW.trod enc Tryz.prog w base spare held m 23 (([c0, c1, c2, c3].drop 3).take (Tryz.prog.cellsOf 23)) = some y3 := hf 3 _ rfl
  rw [cells23_] at h3
  obtain ⟨k, e0, rfl, -⟩ := DataW.trod_int Tryz.underlying5 h0
  obtain ⟨n', e1, rfl, hw1⟩ := DataW.trod_int Tryz.underlying22 h1
  obtain ⟨s, e2, rfl, hs⟩ := DataW.trod_string Tryz.underlying9 h2
  obtain ⟨l, A, c, e3, hlc, hC, hbk, hok⟩ := open_vals (m := m) Tryz.underlying23 (fun i hi => ih i (by omega)) _ _ h3
  simp at e0 e1 e2 e3
  subst e0 e1 e2 e3
  have hbd := Go.bounds_u64 hw1
  have e : s.data.toList.length = s.size := by rw [Array.length_toList]; rfl
  refine ⟨⟨k, n', s, l⟩, A, c, rfl, hlc, hC, ?_, ?_⟩
  ·simp only [itemsN, textsN, Rows.uptoBulk, Rows.uptoBulkAll, List.map_cons, List.map_nil]; omega
  ·intro hk
   simp only [Rows.uptoBulk, Rows.uptoBulkAll, List.map_cons, List.map_nil] at hk
   rw [okV]; exact ⟨⟨⟨hbd.1, by omega⟩, by omega⟩, hok (by omega)⟩
end
end Go.Proofs.YtdilbnggedidnaaGreat.PVal
namespace Go.Proofs.YtdilbnggedidnaaGreat.PVal
open Go.RowKit Go.Shelf Go.Proofs.YtdilbnggedidnaaGreatW.PrintWords Go.Proofs.YtdilbnggedidnaaGreatW.PrintLast
set_option linter.unusedVariables false
set_option linter.unusedSimpArgs false
theorem below_bg {B g : Nat} {w a b : World} (h : Below B w a) (k : Bg g a b) (hg : B ≤ g) (hB : B ≤ a.heap.size) : Below B w b := ⟨k.os.trans h.os, k.tape.trans h.tape, k.output.trans h.output, Nat.le_trans h.size k.size, fun i hi => (k.block i (by omega) (by omega)).trans (h.block i hi)⟩
section
variable {w : World} {base g : Nat} {ts : List ByteArray} {v : S25}
end
def SyS (w : World) (x : S25) (A : Option Addr) (c : Nat) (base g : Nat) (l : List S25) (sp : Bool) (wa : World) : Prop :=
 Below w.heap.size w wa ∧ FS wa base g l sp ∧ Blk wa w.heap.size #[.int .u8 x.f0, .int .u64 x.f1, .string x.f2, .slice A x.f3.length c] 25 ∧ w.heap.size < g
theorem SyS.bg {w : World} {x : S25} {A : Option Addr} {c base g : Nat} {l : List S25} {sp sp' : Bool} {wa wb : World} (h : SyS w x A c base g l sp wa) (hf : FS wb base g l sp') (hb : Bg g wa wb) : SyS w x A c base g l sp' wb := by
 obtain ⟨h1, h2, h3, h4⟩ := h
 exact ⟨below_bg h1 hb (by omega) h1.size, hf, h3.bg hb (by omega), h4⟩
end Go.Proofs.YtdilbnggedidnaaGreat.PVal
namespace Go.Proofs.YtdilbnggedidnaaGreat.PVal
open Go.RowKit Go.Shelf Go.Proofs.YtdilbnggedidnaaGreatW.PrintWords Go.Proofs.YtdilbnggedidnaaGreatW.PrintLast
set_option linter.unusedVariables false
set_option linter.unusedSimpArgs false
structure Out where
 k : Int
 a : Int
 b : Int
 cond : ByteArray
def zOut : Out := ⟨0, 0, 0, ⟨#[]⟩⟩
def nmErr : ByteArray := ⟨#[97, 109, 113, 112, 58, 101, 114, 114, 111, 114, 58, 108, 105, 115, 116]⟩
def nmO1 : ByteArray := ⟨#[97, 109, 113, 112, 58, 114, 101, 99, 101, 105, 118, 101, 100, 58, 108, 105, 115, 116]⟩
def nmO2 : ByteArray := ⟨#[97, 109, 113, 112, 58, 97, 99, 99, 101, 112, 116, 101, 100, 58, 108, 105, 115, 116]⟩
def nmO3 : ByteArray := ⟨#[97, 109, 113, 112, 58, 114, 101, 106, 101, 99, 116, 101, 100, 58, 108, 105, 115, 116]⟩
def nmO4 : ByteArray := ⟨#[97, 109, 113, 112, 58, 114, 101, 108, 101, 97, 115, 101, 100, 58, 108, 105, 115, 116]⟩
def nmO5 : ByteArray := ⟨#[97, 109, 113, 112, 58, 109, 111, 100, 105, 102, 105, 101, 100, 58, 108, 105, 115, 116]⟩
def K2 : S25 → Bool := kindP [2]
def K5 : S25 → Bool := kindP [5]
def K6 : S25 → Bool := kindP [6]
def K20 : S25 → Bool := kindP [20]
def K21 : S25 → Bool := kindP [21]
def K23 : S25 → Bool := kindP [23]
def mayO (o : Out) : Bool :=
 if (o.cond.toList ≠ [] ∧ o.k ≠ 3) ∨ asciiB (bytesOf o.cond) = false then false
 else if o.k = 0 ∨ o.k = 2 ∨ o.k = 3 ∨ o.k = 4 then decide (o.a = 0 ∧ o.b = 0)
 else if o.k = 1 then decide (o.a ≤ 4294967295)
 else if o.k = 5 then decide (o.a ≤ 1 ∧ o.b ≤ 1)
 else false
def condV (s : ByteArray) : S25 := if s.toList = [] then vNul else putV 29 [symV s]
def getCondF (v : S25) : Option ByteArray :=
 if v.f0 = 1 then some ⟨#[]⟩
 else match newF v 29 nmErr with
  | none => none
  | some l => if doneN l ((spoilP l 0 true K21 || spoilP l 1 false K20) || spoilP l 2 false K23) 3 = 0 then some (tellP l 0 K21 (fun x => x.f2) ⟨#[]⟩) else none
def truthV (n : Int) : S25 := if n = 0 then vNul else vTru
def numV (k n : Int) : S25 := ⟨k, n, ⟨#[]⟩, []⟩
def putL (o : Out) : List S25 :=
 if o.k = 1 then [numV 5 o.a, numV 6 o.b] else if o.k = 3 then [condV o.cond] else if o.k = 5 then [truthV o.a, truthV o.b] else []
def putOV (o : Out) : S25 := if o.k = 0 then vNul else putV (34 + o.k) (putL o)
def getK (k : Int) (l : List S25) : Option Out :=
 if k = 1 then (if doneN l (spoilP l 0 true K5 || spoilP l 1 true K6) 2 = 0 then some ⟨1, tellP l 0 K5 (fun x => x.f1) 0, tellP l 1 K6 (fun x => x.f1) 0, ⟨#[]⟩⟩ else none)
 else if k = 3 then
  (let g := getCondF ((atF l 0).getD vNul)
  if doneN l (!g.isSome) 1 = 0 then some ⟨3, 0, 0, g.getD ⟨#[]⟩⟩ else none)
 else if k = 5 then (if doneN l ((spoilP l 0 false K2 || spoilP l 1 false K2) || spoilP l 2 false K23) 3 = 0 then some ⟨5, tellP l 0 K2 (fun x => x.f1) 0, tellP l 1 K2 (fun x => x.f1) 0, ⟨#[]⟩⟩ else none)
 else (if doneN l false 0 = 0 then some ⟨k, 0, 0, ⟨#[]⟩⟩ else none)
def nmO (k : Int) : ByteArray := if k = 1 then nmO1 else if k = 2 then nmO2 else if k = 3 then nmO3 else if k = 4 then nmO4 else nmO5
def getFrom (v : S25) : Nat → Int → Option Out
 | 0, _ => none
 | n + 1, k => match newF v (34 + k) (nmO k) with
  | none => getFrom v n (k + 1)
  | some l => getK k l
def getOF (v : S25) : Option Out := if v.f0 = 1 then some zOut else getFrom v 5 1
theorem toList_nil : ByteArray.toList ⟨#[]⟩ = [] := by rw [ByteArray.toList_eq]
theorem nil_of_toList {s : ByteArray} (h : s.toList = []) : s = ⟨#[]⟩ := toList_inj (h.trans toList_nil.symm)
theorem numB_code (n : Int) : numB 6 n = true := rfl
theorem right_put (code : Int) (l : List S25) : rightB (putV code l) = ((decide (depthL (trimL l) ≤ 14) && decide (itemsL (trimL l) ≤ 1021)) && mayL (trimL l)) := by
 have hd : depthN (putV code l) = depthL (trimL l) + 2 := by
  unfold putV
  simp only [depthN, depthL]
  omega
 have hi : itemsN (putV code l) = itemsL (trimL l) + 3 := by
  unfold putV
  simp only [itemsN, itemsL]
  omega
 have t6 : txtB 6 ⟨#[]⟩ = true := by unfold txtB; simp [toList_nil]
 have t22 : txtB 22 ⟨#[]⟩ = true := by unfold txtB; simp [toList_nil]
 have t25 : txtB 25 ⟨#[]⟩ = true := by unfold txtB; simp [toList_nil]
 have f25 : ∀ a b : S25, a.f0 = 6 → famB ⟨25, 0, ⟨#[]⟩, [a, b]⟩ = true := fun a b h => by
  unfold famB
  rw [if_neg (show ¬ (25 : Int) = 22 by decide), if_neg (show ¬ (25 : Int) = 23 by decide), if_neg (show ¬ (25 : Int) = 24 by decide), if_pos rfl]
  have : rd_T25 [a, b] 0 = a := rfl
  simp [this, h]
 have hm : mayB (putV code l) = mayL (trimL l) := by
  unfold putV
  simp only [mayB, mayL, t6, t22, t25, numB_code]
  rw [f25 _ _ rfl]
  rw [show numB 22 0 = true from rfl, show numB 25 0 = true from rfl, show famB ⟨6, code, ⟨#[]⟩, []⟩ = true from rfl, show ∀ l, famB ⟨22, 0, ⟨#[]⟩, l⟩ = true from fun _ => rfl]
  simp
 unfold rightB
 rw [hm, hd, hi]
 congr 2
 ·exact decide_eq_decide.mpr (by omega)
 ·exact decide_eq_decide.mpr (by omega)
theorem newF_other {code code' : Int} (h : code ≠ code') (l : List S25) (name : ByteArray) : newF (putV code l) code' name = none := by
 unfold newF
 rw [if_neg]
 rintro ⟨_, _, _, h4⟩
 unfold calledB at h4
 have e : rd_T25 (putV code l).f3 0 = ⟨6, code, ⟨#[]⟩, []⟩ := rfl
 rw [e] at h4
 simp [h] at h4
theorem newF_right {v : S25} {code : Int} {name : ByteArray} {l : List S25} (h : newF v code name = some l) : rightB v = true ∧ v.f0 = 25 ∧ (∀ x ∈ l, mayB x = true) ∧ (rd_T25 v.f3 1).f3 = l := by
 unfold newF at h
 split at h
 case isFalse => cases h
 case isTrue hq =>
  obtain ⟨hr, h25, h22, _⟩ := hq
  have hl := Option.some.inj h
  refine ⟨hr, h25, ?_, hl⟩
  obtain ⟨a, b, hab⟩ := desc_two hr h25
  have hb : rd_T25 v.f3 1 = b := by rw [hab]; rfl
  rw [hb] at hl
  unfold rightB at hr
  rw [Bool.and_eq_true] at hr
  have h2 := hr.2
  rw [mayB_eq, hab] at h2
  simp only [Bool.and_eq_true, mayL] at h2
  have h3 := h2.1.2.2.1
  rw [mayB_eq] at h3
  simp only [Bool.and_eq_true, mayL_all] at h3
  rw [← hl]
  exact fun x hx => List.all_eq_true.1 h3.1.2 x hx
theorem done_ok {l : List S25} {sp : Bool} {n : Int} (h : doneN l sp n = 0) : sp = false ∧ (l.length : Int) ≤ n := by
 unfold doneN at h
 split at h
 ·cases h
 ·rename_i hq
  simp at hq
  exact ⟨hq.1, hq.2⟩
theorem unspoilt {l : List S25} {i : Int} {m : Bool} {P : S25 → Bool} (h : spoilP l i m P = false) : (atF l i = none ∧ m = false) ∨ ∃ x, atF l i = some x ∧ P x = true := by
 unfold spoilP at h
 cases hx : atF l i with
 | none => rw [hx] at h; exact .inl ⟨rfl, h⟩
 | some x => rw [hx] at h; exact .inr ⟨x, rfl, by simpa using h⟩
theorem sym_ascii {x : S25} (h : mayB x = true) (hk : x.f0 = 21) : asciiB (bytesOf x.f2) = true := by
 rw [mayB_eq] at h
 simp only [Bool.and_eq_true] at h
 have := h.2.1.2
 rw [hk] at this
 exact this
theorem num_may {x : S25} (h : mayB x = true) : numB x.f0 x.f1 = true := by
 rw [mayB_eq] at h
 simp only [Bool.and_eq_true] at h
 exact h.2.1.1
theorem ascii_nil : asciiB (bytesOf ⟨#[]⟩) = true := rfl
theorem getCond_ascii {v : S25} {s : ByteArray} (h : getCondF v = some s) : asciiB (bytesOf s) = true := by
 unfold getCondF at h
 split at h
 ·rw [← Option.some.inj h]; exact ascii_nil
 ·split at h
  ·cases h
  ·rename_i l hl
   split at h
   ·rename_i hd
    obtain ⟨hs, _⟩ := done_ok hd
    simp only [Bool.or_eq_false_iff] at hs
    rcases unspoilt hs.1.1 with ⟨_, hm⟩ | ⟨x, hx, hP⟩
    ·cases hm
    ·have hmx := (newF_right hl).2.2.1 x (atF_mem hx)
     rw [← Option.some.inj h, tell_some hx, if_pos hP]
     unfold K21 at hP
     rw [kindP_one] at hP
     exact sym_ascii hmx (by simpa using hP)
   ·cases h
theorem mayO_one {a b : Int} (h : a ≤ 4294967295) : mayO ⟨1, a, b, ⟨#[]⟩⟩ = true := by
 unfold mayO
 simp [ascii_nil, toList_nil, h]
theorem mayO_five {a b : Int} (ha : a ≤ 1) (hb : b ≤ 1) : mayO ⟨5, a, b, ⟨#[]⟩⟩ = true := by
 unfold mayO
 simp [ascii_nil, toList_nil, ha, hb]
theorem mayO_zero {k : Int} {s : ByteArray} (hk : k = 0 ∨ k = 2 ∨ k = 3 ∨ k = 4) (hs : asciiB (bytesOf s) = true) (h3 : s = ⟨#[]⟩ ∨ k = 3) : mayO ⟨k, 0, 0, s⟩ = true := by
 unfold mayO
 rw [if_neg, if_pos hk, decide_eq_true_eq]
 ·exact ⟨rfl, rfl⟩
 ·rintro (h | h)
  ·rcases h3 with rfl | h3
   ·exact h.1 toList_nil
   ·exact h.2 h3
  ·rw [hs] at h; cases h
theorem getK_may {k : Int} {v : S25} {name : ByteArray} {l : List S25} {o : Out} {code : Int} (hl : newF v code name = some l) (hk : 1 ≤ k ∧ k ≤ 5) (h : getK k l = some o) : mayO o = true ∧ o.k = k := by
 have hmem := (newF_right hl).2.2.1
 unfold getK at h
 split at h
 ·rename_i h1
  split at h
  ·rename_i hd
   obtain ⟨hs, _⟩ := done_ok hd
   simp only [Bool.or_eq_false_iff] at hs
   rcases unspoilt hs.1 with ⟨_, hm⟩ | ⟨x, hx, hP⟩
   ·cases hm
   have hnx := num_may (hmem x (atF_mem hx))
   rw [← Option.some.inj h, tell_some hx, if_pos hP]
   unfold K5 at hP
   rw [kindP_one] at hP
   rw [show x.f0 = 5 by simpa using hP] at hnx
   have hlt : x.f1 < 4294967296 := of_decide_eq_true hnx
   exact ⟨mayO_one (by omega), h1.symm⟩
  ·cases h
 split at h
 ·rename_i h3
  have h' := h
  simp only [] at h'
  split at h'
  ·rename_i hd
   have hs := (done_ok hd).1
   obtain ⟨g, hg⟩ : ∃ g, getCondF ((atF l 0).getD vNul) = some g := by
    cases hq : getCondF ((atF l 0).getD vNul) with
    | none => rw [hq] at hs; cases hs
    | some g => exact ⟨g, rfl⟩
   rw [hg] at h'
   rw [← Option.some.inj h']
   have := getCond_ascii hg
   exact ⟨mayO_zero (.inr (.inr (.inl rfl))) this (.inr rfl), h3.symm⟩
  ·cases h'
 split at h
 ·rename_i h5
  split at h
  ·rename_i hd
   have hs := (done_ok hd).1
   simp only [Bool.or_eq_false_iff] at hs
   have hb : ∀ i, spoilP l i false K2 = false → tellP l i K2 (fun x => x.f1) 0 ≤ 1 := fun i hi => by
    rcases unspoilt hi with ⟨hn, _⟩ | ⟨x, hx, hP⟩
    ·rw [tell_none hn]; decide
    ·have hnx := num_may (hmem x (atF_mem hx))
     rw [tell_some hx, if_pos hP]
     unfold K2 at hP
     rw [kindP_one] at hP
     rw [show x.f0 = 2 by simpa using hP] at hnx
     exact of_decide_eq_true hnx
   rw [← Option.some.inj h]
   exact ⟨mayO_five (hb 0 hs.1.1) (hb 1 hs.1.2), h5.symm⟩
  ·cases h
 ·rename_i h1 h3 h5
  split at h
  ·rw [← Option.some.inj h]
   exact ⟨mayO_zero (by omega) ascii_nil (.inl rfl), rfl⟩
  ·cases h
theorem getFrom_may {v : S25} {o : Out} : ∀ {n : Nat} {k : Int}, 1 ≤ k → k + n ≤ 6 → getFrom v n k = some o → mayO o = true ∧ (1 ≤ o.k ∧ o.k ≤ 5)
 | 0, _, _, _, h => by cases h
 | n + 1, k, h1, h2, h => by
  rw [getFrom] at h
  split at h
  ·exact getFrom_may (n := n) (by omega) (by omega) h
  ·rename_i l hl
   obtain ⟨ha, hb⟩ := getK_may hl ⟨h1, by omega⟩ h
   exact ⟨ha, by omega⟩
theorem get_may {v : S25} {o : Out} (h : getOF v = some o) : mayO o = true := by
 unfold getOF at h
 split at h
 ·rw [← Option.some.inj h]; exact mayO_zero (.inl rfl) ascii_nil (.inl rfl)
 ·exact (getFrom_may (by omega) (by omega) h).1
end Go.Proofs.YtdilbnggedidnaaGreat.PVal
namespace Go.Proofs.YtdilbnggedidnaaGreat.PVal
open Go.RowKit Go.Shelf Go.Proofs.YtdilbnggedidnaaGreatW.PrintWords Go.Proofs.YtdilbnggedidnaaGreatW.PrintLast
set_option linter.unusedVariables false
set_option linter.unusedSimpArgs false
theorem trim_one {x : S25} (h : x.f0 ≠ 1) : trimL [x] = [x] := by
 unfold trimL
 rw [show [x].length = 0 + 1 from rfl, trimTo, if_neg (show ¬ (rd_T25 [x] ((0 : Nat) : Int)).f0 = 1 from h)]
 rfl
theorem trim_nul : trimL [vNul] = [] := by kernel_rfl
theorem trim_two {x y : S25} (h : y.f0 ≠ 1) : trimL [x, y] = [x, y] := by
 unfold trimL
 rw [show [x, y].length = 1 + 1 from rfl, trimTo, if_neg (show ¬ (rd_T25 [x, y] ((1 : Nat) : Int)).f0 = 1 from h)]
 rfl
theorem trim_oneN {x : S25} (h : x.f0 ≠ 1) : trimL [x, vNul] = [x] := by
 unfold trimL
 rw [show [x, vNul].length = 1 + 1 from rfl, trimTo, if_pos (show (rd_T25 [x, vNul] ((1 : Nat) : Int)).f0 = 1 from rfl), show 1 = 0 + 1 from rfl, trimTo, if_neg (show ¬ (rd_T25 [x, vNul] ((0 : Nat) : Int)).f0 = 1 from h)]
 rfl
theorem trim_nulN : trimL [vNul, vNul] = [] := by kernel_rfl
theorem may_num (k n : Int) (hk : k = 5 ∨ k = 6) (h : numB k n = true) : mayB (numV k n) = true := by
 rcases hk with rfl | rfl
 ·unfold numV
  rw [mayB_eq]
  show ((decide (1 ≤ (5 : Int) ∧ (5 : Int) ≤ 25) && mayL []) && ((numB 5 n && txtB 5 ⟨#[]⟩) && famB ⟨5, n, ⟨#[]⟩, []⟩)) = true
  rw [h, show txtB 5 ⟨#[]⟩ = true by unfold txtB; simp [toList_nil], show famB ⟨5, n, ⟨#[]⟩, []⟩ = true from rfl]
  rfl
 ·unfold numV
  rw [mayB_eq]
  show ((decide (1 ≤ (6 : Int) ∧ (6 : Int) ≤ 25) && mayL []) && ((numB 6 n && txtB 6 ⟨#[]⟩) && famB ⟨6, n, ⟨#[]⟩, []⟩)) = true
  rw [h, show txtB 6 ⟨#[]⟩ = true by unfold txtB; simp [toList_nil], show famB ⟨6, n, ⟨#[]⟩, []⟩ = true from rfl]
  rfl
theorem may_sym {s : ByteArray} (h : asciiB (bytesOf s) = true) : mayB (symV s) = true := by
 unfold symV
 rw [mayB_eq]
 show ((decide (1 ≤ (21 : Int) ∧ (21 : Int) ≤ 25) && mayL []) && ((numB 21 0 && txtB 21 s) && famB ⟨21, 0, s, []⟩)) = true
 rw [show txtB 21 s = asciiB (bytesOf s) from rfl, h]
 rfl
theorem may_tru : mayB vTru = true := by kernel_rfl
theorem right_nul : rightB vNul = true := by kernel_rfl
theorem cond_put {s : ByteArray} (h : asciiB (bytesOf s) = true) (hn : s.toList ≠ []) : rightB (putV 29 [symV s]) = true ∧ getCondF (putV 29 [symV s]) = some s := by
 have ht : trimL [symV s] = [symV s] := trim_one (show (21 : Int) ≠ 1 by decide)
 have hr : rightB (putV 29 [symV s]) = true := by
  rw [right_put, ht, mayL, mayL, may_sym h]
  rfl
 refine ⟨hr, ?_⟩
 unfold getCondF
 rw [if_neg (show ¬ (putV 29 [symV s]).f0 = 1 from (show ¬ (25 : Int) = 1 by decide)), newF_put, if_pos hr, ht]
 have a0 : atF [symV s] 0 = some (symV s) := rfl
 have a1 : atF [symV s] 1 = none := rfl
 have a2 : atF [symV s] 2 = none := rfl
 show (if doneN [symV s] ((spoilP [symV s] 0 true K21 || spoilP [symV s] 1 false K20) || spoilP [symV s] 2 false K23) 3 = 0 then some (tellP [symV s] 0 K21 (fun x => x.f2) ⟨#[]⟩) else none) = _
 rw [spoil_some a0, spoil_none a1, spoil_none a2, tell_some a0, show K21 (symV s) = true from rfl]
 rfl
theorem condV_get {s : ByteArray} (h : asciiB (bytesOf s) = true) : getCondF (condV s) = some s := by
 unfold condV
 split
 ·rename_i hn
  rw [nil_of_toList hn]
  rfl
 ·rename_i hn
  exact (cond_put h hn).2
theorem condV_null {s : ByteArray} : ((condV s).f0 == 1) = s.toList.isEmpty := by
 unfold condV
 cases hs : s.toList with
 | nil => rfl
 | cons a b => rfl
theorem mayO_cases {o : Out} (h : mayO o = true) : asciiB (bytesOf o.cond) = true ∧ (o.cond = ⟨#[]⟩ ∨ o.k = 3) ∧ ((o.k = 0 ∨ o.k = 2 ∨ o.k = 3 ∨ o.k = 4) ∧ o.a = 0 ∧ o.b = 0 ∨ o.k = 1 ∧ o.a ≤ 4294967295 ∨ o.k = 5 ∧ o.a ≤ 1 ∧ o.b ≤ 1) := by
 unfold mayO at h
 split at h
 ·cases h
 rename_i h0
 have h1 : asciiB (bytesOf o.cond) = true := by
  cases hq : asciiB (bytesOf o.cond) with
  | true => rfl
  | false => exact (h0 (.inr hq)).elim
 have h2 : o.cond = ⟨#[]⟩ ∨ o.k = 3 := by
  by_cases hk : o.k = 3
  ·exact .inr hk
  ·refine .inl (nil_of_toList (Classical.byContradiction fun hn => h0 (.inl ⟨hn, hk⟩)))
 refine ⟨h1, h2, ?_⟩
 split at h
 ·rename_i hk
  exact .inl ⟨hk, of_decide_eq_true h⟩
 split at h
 ·rename_i hk
  exact .inr (.inl ⟨hk, of_decide_eq_true h⟩)
 split at h
 ·rename_i hk
  exact .inr (.inr ⟨hk, of_decide_eq_true h⟩)
 ·cases h
theorem Out.ext' {o p : Out} (h0 : o.k = p.k) (h1 : o.a = p.a) (h2 : o.b = p.b) (h3 : o.cond = p.cond) : o = p := by cases o; cases p; simp_all
theorem getFrom_at {k : Int} {l : List S25} (h1 : 1 ≤ k) (h5 : k ≤ 5) (hr : rightB (putV (34 + k) l) = true) : ∀ (n : Nat) (j : Int), 1 ≤ j → j ≤ k → k < j + n → getFrom (putV (34 + k) l) n j = getK k (trimL l)
 | 0, j, _, _, h => by omega
 | n + 1, j, hj, hk, hn => by
  rw [getFrom]
  by_cases e : j = k
  ·subst e
   rw [newF_put, if_pos hr]
  ·rw [newF_other (by omega)]
   exact getFrom_at h1 h5 hr n (j + 1) (by omega) (by omega) (by omega)
theorem get_at {k : Int} {l : List S25} (h1 : 1 ≤ k) (h5 : k ≤ 5) (hr : rightB (putV (34 + k) l) = true) : getOF (putV (34 + k) l) = getK k (trimL l) := by
 unfold getOF
 rw [if_neg (show ¬ (putV (34 + k) l).f0 = 1 from (show ¬ (25 : Int) = 1 by decide))]
 exact getFrom_at h1 h5 hr 5 1 (by omega) h1 (by omega)
theorem get_put {o : Out} (h : mayO o = true) (ha : 0 ≤ o.a) (hb : 0 ≤ o.b) : getOF (putOV o) = some o ∧ rightB (putOV o) = true := by
 obtain ⟨hasc, hc, hk⟩ := mayO_cases h
 by_cases k0 : o.k = 0
 ·unfold putOV
  rw [if_pos k0]
  refine ⟨?_, right_nul⟩
  have hz : o.cond = ⟨#[]⟩ := by rcases hc with hc | hc; exact hc; omega
  rw [show getOF vNul = some zOut from rfl]
  congr 1
  exact Out.ext' k0.symm (show (0 : Int) = o.a by omega) (show (0 : Int) = o.b by omega) hz.symm
 by_cases k1 : o.k = 1
 ·have hz : o.cond = ⟨#[]⟩ := by rcases hc with hc | hc; exact hc; omega
  have hl : putL o = [numV 5 o.a, numV 6 o.b] := by unfold putL; rw [if_pos k1]
  have ht : trimL (putL o) = [numV 5 o.a, numV 6 o.b] := by rw [hl]; exact trim_two (show (6 : Int) ≠ 1 by decide)
  have hr : rightB (putV (34 + o.k) (putL o)) = true := by
   rw [right_put, ht, mayL, mayL, mayL, may_num 5 _ (.inl rfl) (show decide (o.a < 4294967296) = true by rw [decide_eq_true_eq]; omega), may_num 6 _ (.inr rfl) rfl]
   rfl
  unfold putOV
  rw [if_neg k0]
  refine ⟨?_, hr⟩
  rw [get_at (by omega) (by omega) hr, ht]
  unfold getK
  have a0 : atF [numV 5 o.a, numV 6 o.b] 0 = some (numV 5 o.a) := rfl
  have a1 : atF [numV 5 o.a, numV 6 o.b] 1 = some (numV 6 o.b) := rfl
  rw [if_pos k1, spoil_some a0, spoil_some a1, tell_some a0, tell_some a1, show K5 (numV 5 o.a) = true from rfl, show K6 (numV 6 o.b) = true from rfl]
  show some _ = some o
  congr 1
  exact Out.ext' k1.symm rfl rfl hz.symm
 by_cases k3 : o.k = 3
 ·have hl : putL o = [condV o.cond] := by unfold putL; rw [if_neg k1, if_pos k3]
  by_cases hn : o.cond.toList = []
  ·have ht : trimL (putL o) = [] := by
    rw [hl]
    unfold condV
    rw [if_pos hn]
    exact trim_nul
   have hr : rightB (putV (34 + o.k) (putL o)) = true := by
    rw [right_put, ht]
    rfl
   unfold putOV
   rw [if_neg k0]
   refine ⟨?_, hr⟩
   rw [get_at (by omega) (by omega) hr, ht]
   unfold getK
   rw [if_neg k1, if_pos k3]
   show some _ = some o
   congr 1
   exact Out.ext' k3.symm (show (0 : Int) = o.a by omega) (show (0 : Int) = o.b by omega) (nil_of_toList hn).symm
  ·have hcv : condV o.cond = putV 29 [symV o.cond] := by unfold condV; rw [if_neg hn]
   obtain ⟨hcr, hcg⟩ := cond_put hasc hn
   have ht : trimL (putL o) = [putV 29 [symV o.cond]] := by
    rw [hl, hcv]
    exact trim_one (show (25 : Int) ≠ 1 by decide)
   have hcm : mayB (putV 29 [symV o.cond]) = true := by
    unfold rightB at hcr
    rw [Bool.and_eq_true] at hcr
    exact hcr.2
   have hts : trimL [symV o.cond] = [symV o.cond] := trim_one (show (21 : Int) ≠ 1 by decide)
   have hr : rightB (putV (34 + o.k) (putL o)) = true := by
    rw [right_put, ht, mayL, mayL, hcm]
    unfold putV
    rw [hts]
    rfl
   unfold putOV
   rw [if_neg k0]
   refine ⟨?_, hr⟩
   rw [get_at (by omega) (by omega) hr, ht]
   unfold getK
   rw [if_neg k1, if_pos k3]
   have a0 : atF [putV 29 [symV o.cond]] 0 = some (putV 29 [symV o.cond]) := rfl
   rw [a0]
   show (if doneN [putV 29 [symV o.cond]] (!(getCondF (putV 29 [symV o.cond])).isSome) 1 = 0 then some (Out.mk 3 0 0 ((getCondF (putV 29 [symV o.cond])).getD ⟨#[]⟩)) else none) = some o
   rw [hcg]
   show some _ = some o
   congr 1
   exact Out.ext' k3.symm (show (0 : Int) = o.a by omega) (show (0 : Int) = o.b by omega) rfl
 by_cases k5 : o.k = 5
 ·have hz : o.cond = ⟨#[]⟩ := by rcases hc with hc | hc; exact hc; omega
  have hl : putL o = [truthV o.a, truthV o.b] := by unfold putL; rw [if_neg k1, if_neg k3, if_pos k5]
  have hab : (o.a = 0 ∨ o.a = 1) ∧ (o.b = 0 ∨ o.b = 1) := by omega
  have key : rightB (putV (34 + 5) [truthV o.a, truthV o.b]) = true ∧ getK 5 (trimL [truthV o.a, truthV o.b]) = some ⟨5, o.a, o.b, ⟨#[]⟩⟩ := by
   obtain ⟨h0 | h0, h1 | h1⟩ := hab <;> rw [h0, h1] <;> exact ⟨by kernel_rfl, by kernel_rfl⟩
  unfold putOV
  rw [if_neg k0, hl, k5]
  refine ⟨?_, key.1⟩
  rw [get_at (by omega) (by omega) key.1, key.2]
  congr 1
  exact Out.ext' k5.symm rfl rfl hz.symm
 ·have hz : o.cond = ⟨#[]⟩ := by rcases hc with hc | hc; exact hc; omega
  have hl : putL o = [] := by unfold putL; rw [if_neg k1, if_neg k3, if_neg k5]
  have hr : rightB (putV (34 + o.k) (putL o)) = true := by
   rw [right_put, hl]
   rfl
  unfold putOV
  rw [if_neg k0]
  refine ⟨?_, hr⟩
  rw [get_at (by omega) (by omega) hr, hl]
  unfold getK
  rw [if_neg k1, if_neg k3, if_neg k5]
  show some _ = some o
  congr 1
  exact Out.ext' rfl (show (0 : Int) = o.a by omega) (show (0 : Int) = o.b by omega) hz.symm
end Go.Proofs.YtdilbnggedidnaaGreat.PVal
namespace Go.Proofs.YtdilbnggedidnaaGreat.PVal
open Go.RowKit Go.Shelf Go.Proofs.YtdilbnggedidnaaGreatW.PrintWords Go.Proofs.YtdilbnggedidnaaGreatW.PrintLast
set_option linter.unusedVariables false
set_option linter.unusedSimpArgs false
theorem Bg.far {g : Nat} {w w' : World} (h : Bg g w w') {p : Addr} (hp : w.heap.size ≤ p.block) (v : Value) : Bg g w (w'.setCell p v) := ⟨h.os, h.tape, h.output, by simpa [World.setCell] using h.size, fun k hk hg => (Below.heap_setCell _ _ _ k (by omega)).trans (h.block k hk hg)⟩
end Go.Proofs.YtdilbnggedidnaaGreat.PVal
namespace Go.Proofs.YtdilbnggedidnaaGreat.PVal
open Go.RowKit Go.Shelf Go.Proofs.YtdilbnggedidnaaGreatW.PrintWords Go.Proofs.YtdilbnggedidnaaGreatW.PrintLast
set_option linter.unusedVariables false
set_option linter.unusedSimpArgs false
structure Ask where
 what : Int
 at_ : Int
 kind : Int
 must : Bool
 none_ : Int
 K : Option Addr
 nk : Nat
 ck : Nat
def Ask.cells (a : Ask) : List Value := [.int .i64 a.what, .int .i64 a.at_, .int .u8 a.kind, .bool a.must, .int .u64 a.none_, .slice a.K a.nk a.ck]
def zAsk : Ask := ⟨0, 0, 0, false, 0, none, 0, 0⟩
theorem cell_stays {w w' : World} {p : Addr} {u : Value} (h : w.cell? p = some u) (hb : Below w.heap.size w w') : w'.cell? p = some u := by
 have hl : p.block < w.heap.size := by
  apply Classical.byContradiction
  intro hn
  have : w.heap[p.block]? = none := by simp; omega
  simp [World.cell?, this] at h
 exact (hb.cell hl).trans h
def AskC (w : World) (A : Option Addr) (xs : List Ask) : Prop := 0 < xs.length → ∃ ad, A = some ad ∧ ∀ i, i < xs.length → ∀ j u, (xs.getD i zAsk).cells[j]? = some u → w.cell? (ad.add (i * 6 + j)) = some u
theorem AskC.below {w w' : World} {A : Option Addr} {xs : List Ask} (h : AskC w A xs) (hb : Below w.heap.size w w') : AskC w' A xs := fun hl => by
 obtain ⟨ad, e, hc⟩ := h hl
 exact ⟨ad, e, fun i hi j u hj => cell_stays (hc i hi j u hj) hb⟩
def Ask.k (a : Ask) : Int := if a.what = 2 then 2 else a.kind
end Go.Proofs.YtdilbnggedidnaaGreat.PVal
namespace Go.Proofs.YtdilbnggedidnaaGreat.PVal
open Go.RowKit Go.Shelf Go.Proofs.YtdilbnggedidnaaGreatW.PrintWords Go.Proofs.YtdilbnggedidnaaGreatW.PrintLast
set_option linter.unusedVariables false
set_option linter.unusedSimpArgs false
def FSB (w : World) (base g B : Nat) (l : List S25) (sp : Bool) : Prop := ∃ A c, Blk w g #[.slice A l.length c, .bool sp] 75 ∧ k25.R 25 w base (fun k => k ≠ g ∧ k < B) (.slice A l.length c) l
theorem FS.toB {w : World} {base g : Nat} {l : List S25} {sp : Bool} (h : FS w base g l sp) : FSB w base g w.heap.size l sp := by
 obtain ⟨A, c, h1, h2⟩ := h
 exact ⟨A, c, h1, Kd.R_mono (Kd.R_bound h2) (fun k hk => ⟨hk.1, hk.2.2.1⟩)⟩
theorem FSB.fs {w : World} {base g B : Nat} {l : List S25} {sp : Bool} (h : FSB w base g B l sp) : FS w base g l sp := by
 obtain ⟨A, c, h1, h2⟩ := h
 exact ⟨A, c, h1, Kd.R_mono h2 (fun k hk => hk.1)⟩
theorem FSB.below {w w' : World} {base g B : Nat} {l : List S25} {sp : Bool} (h : FSB w base g B l sp) (hb : Below w.heap.size w w') : FSB w' base g B l sp := by
 obtain ⟨A, c, h1, h2⟩ := h
 exact ⟨A, c, h1.below hb, Kd.R_below h2 hb⟩
theorem FSB.set {w : World} {base g B : Nat} {l : List S25} {sp : Bool} (h : FSB w base g B l sp) (b : Bool) : FSB (w.setCell ⟨g, 1, none⟩ (.bool b)) base g B l b := by
 obtain ⟨A, c, h1, h2⟩ := h
 exact ⟨A, c, blk_put h1 1 _ rfl, Kd.R_far h2 (fun _ hk => hk.1) _⟩
theorem FSB.far {w : World} {base g B : Nat} {l : List S25} {sp : Bool} (h : FSB w base g B l sp) {p : Addr} (hp : B ≤ p.block) (hg : g < B) (v : Value) : FSB (w.setCell p v) base g B l sp := by
 obtain ⟨A, c, h1, h2⟩ := h
 exact ⟨A, c, h1.far (by omega) v, Kd.R_far h2 (fun k hk => by omega) v⟩
theorem spoil50_set {w : World} {base g : Nat} {l : List S25} {sp : Bool} (hf : FS w base g l sp) :
  Calls Tryz.prog 61 #[.pointer (some ⟨g, 0, none⟩)] w fun e w' => e = .returned (.tuple #[]) ∧ w.setCell ⟨g, 1, none⟩ (.bool true) = w' := by
 obtain ⟨A, c, hB, hR⟩ := hf
 obtain ⟨p0, p1⟩ := hB.c2
 have fz := hB.fz
 clear hB hR
 go_enter Tryz.func61, Tryz.ntmps61
 go_wp2_with fail
 go_end0
 exact ⟨rfl, rfl⟩
def zVal : S25 := ⟨0, 0, ⟨#[]⟩, []⟩
def put4 (W : World) (r : Nat) (a0 a1 a2 a3 : Value) : World := (((W.setCell ⟨r, 0, none⟩ a0).setCell ⟨r, 1, none⟩ a1).setCell ⟨r, 2, none⟩ a2).setCell ⟨r, 3, none⟩ a3
theorem put4_blk {W : World} {r : Nat} {z0 z1 z2 z3 : Value} {t : TypeId} (h : Blk W r #[z0, z1, z2, z3] t) (a0 a1 a2 a3 : Value) : Blk (put4 W r a0 a1 a2 a3) r #[a0, a1, a2, a3] t := by
 refine blk_put (cs := #[a0, a1, a2, z3]) ?_ 3 _ rfl
 refine blk_put (cs := #[a0, a1, z2, z3]) ?_ 2 _ rfl
 refine blk_put (cs := #[a0, z1, z2, z3]) ?_ 1 _ rfl
 exact blk_put (cs := #[z0, z1, z2, z3]) h 0 _ rfl
theorem put4_below {r : Nat} {w W : World} (h : Below w.heap.size w W) (hr : w.heap.size ≤ r) (a0 a1 a2 a3 : Value) : Below w.heap.size w (put4 W r a0 a1 a2 a3) := below_set (below_set (below_set (below_set h hr) hr) hr) hr
theorem put4_fsb {W : World} {base g B r : Nat} {l : List S25} {sp : Bool} (h : FSB W base g B l sp) (hr : B ≤ r) (hg : g < B) (a0 a1 a2 a3 : Value) : FSB (put4 W r a0 a1 a2 a3) base g B l sp := (((h.far hr hg _).far hr hg _).far hr hg _).far hr hg _
theorem put4_bg {W w : World} {g r : Nat} (h : Bg g w W) (hr : w.heap.size ≤ r) (a0 a1 a2 a3 : Value) : Bg g w (put4 W r a0 a1 a2 a3) := (((h.far hr _).far hr _).far hr _).far hr _
theorem put4_R {W : World} {e B b r : Nat} {ok : Nat → Prop} {v : Value} {l : List S25} (h : k25.R e W B ok v l) (hb : b ≤ B) (hr : r < B) (a0 a1 a2 a3 : Value) : k25.R e (put4 W r a0 a1 a2 a3) b ok v l :=
 R_lower_far h hb ((((SetsBelow.nil.snoc (p := ⟨r, 0, none⟩) hr _).snoc (p := ⟨r, 1, none⟩) hr _).snoc (p := ⟨r, 2, none⟩) hr _).snoc (p := ⟨r, 3, none⟩) hr _)
def ValPost (r : S25) (base g B : Nat) (l : List S25) (sp : Bool) (w : World) (e : Ending) (w' : World) : Prop :=
 ∃ A c, e = .returned (.agg #[.int .u8 r.f0, .int .u64 r.f1, .string r.f2, .slice A r.f3.length c]) ∧ k25.R 25 w' w.heap.size (fun _ => True) (.slice A r.f3.length c) r.f3 ∧ FSB w' base g B l sp ∧ Bg g w w'
theorem tell104_of {w : World} {base g B : Nat} {l : List S25} {sp : Bool} (hf : FSB w base g B l sp) (hBw : B ≤ w.heap.size) (hgB : g < B) (hk : ∀ x ∈ l, itemsN x ≤ 4294967296) (i : Int) (b : Nat) (P : S25 → Bool) (hF : Fit 70 [.pointer (some ⟨b, 0, none⟩)] P w) :
  Calls Tryz.prog 51 #[.pointer (some ⟨g, 0, none⟩), .int .i64 i, .bool false, .agg #[.int .u8 1, .int .u64 0, .string ⟨#[]⟩, .slice none 0 0], .func (.func 70) #[] #[.pointer (some ⟨b, 0, none⟩)], .func (.func 46) #[] #[]] w (ValPost (tellP l i P (fun x => x) vNul) base g B l (sp || spoilP l i false P) w) := by
 have HFS0 := Aside0.mk hf
 have HF := Aside0.mk hF
 clear hF
 cases h : atF l i with
 | none =>
  have HH := Aside0.mk h
  have HT := Aside0.mk (tell_none h P (fun x => x) vNul)
  have HS := Aside0.mk (spoil_none h false P)
  clear hf h
  go_enter Tryz.func51, Tryz.ntmps51
  go_wp2_with fail
  have bN := (Blk.new w #[.int .u8 1, .int .u64 0, .string ⟨#[]⟩, .slice none 0 0] 25).alloc (.cells #[.int .u8 0, .int .u64 0, .string ⟨#[]⟩, .slice none 0 0] 25)
  have bR := Blk.new (w.alloc (.cells #[.int .u8 1, .int .u64 0, .string ⟨#[]⟩, .slice none 0 0] 25)) #[.int .u8 0, .int .u64 0, .string ⟨#[]⟩, .slice none 0 0] 25
  have hb0 := below_alloc (below_alloc (Below.refl w.heap.size w) (.cells #[.int .u8 1, .int .u64 0, .string ⟨#[]⟩, .slice none 0 0] 25)) (.cells #[.int .u8 0, .int .u64 0, .string ⟨#[]⟩, .slice none 0 0] 25)
  rw [World.size_alloc] at bR
  obtain ⟨w1, e1⟩ : ∃ W, (w.alloc (.cells #[.int .u8 1, .int .u64 0, .string ⟨#[]⟩, .slice none 0 0] 25)).alloc (.cells #[.int .u8 0, .int .u64 0, .string ⟨#[]⟩, .slice none 0 0] 25) = W := ⟨_, rfl⟩
  rw [e1] at bN bR hb0 ⊢
  clear e1
  have HB0 := Aside0.mk hb0
  have BN := Aside0.mk bN
  have BR := Aside0.mk bR
  clear hb0 bN bR
  refine (at95_none (HFS0.out.below HB0.out).fs i HH.out).mono ?_
  rintro e w2 ⟨rfl, hb⟩
  have hal := below_alloc hb (.cells #[.int .u8 1, .int .u64 0, .string ⟨#[]⟩, .slice none 0 0] 25)
  have HB := Aside0.mk (below_step HB0.out hal)
  have bN2 := BN.out.below hal
  have bR2 := BR.out.below hal
  have BR2 := Aside0.mk bR2
  obtain ⟨p0, p1, p2, p3⟩ := bN2.c4
  obtain ⟨q0, q1, q2, q3⟩ := bR2.c4
  have f2 := bR2.fz
  clear hal hb bN2 bR2
  go_upto_region 3 with fail
  generalize w2.alloc (.cells #[.int .u8 1, .int .u64 0, .string ⟨#[]⟩, .slice none 0 0] 25) = w3 at *
  go_wp2_with fail
  refine bodyPost_ret (results_cell_row rfl _ _ (w.heap.size + 1) 25 #[.int .u8 1, .int .u64 0, .string ⟨#[]⟩, .slice none 0 0] (0, 0) _ rfl (put4_blk BR2.out _ _ _ _) Tryz.underlying25 rfl (by kernel_rfl)) rfl ?_
  refine ⟨none, 0, by rw [HT.out]; rfl, by rw [HT.out]; exact Kd.R_nil _ _ _ _ _, ?_, ?_⟩
  ·rw [HS.out, Bool.or_false]
   exact put4_fsb (HFS0.out.below HB.out) (by omega) hgB _ _ _ _
  ·exact put4_bg (Bg.of HB.out) (by omega) _ _ _ _
 | some x =>
  have HH := Aside0.mk h
  have HT0 := Aside0.mk (tell_some h P (fun x => x) vNul)
  have HS0 := Aside0.mk (spoil_some h false P)
  have hxl := hk x (atF_mem h)
  clear hf h
  go_enter Tryz.func51, Tryz.ntmps51
  go_wp2_with fail
  have bN := (Blk.new w #[.int .u8 1, .int .u64 0, .string ⟨#[]⟩, .slice none 0 0] 25).alloc (.cells #[.int .u8 0, .int .u64 0, .string ⟨#[]⟩, .slice none 0 0] 25)
  have bR := Blk.new (w.alloc (.cells #[.int .u8 1, .int .u64 0, .string ⟨#[]⟩, .slice none 0 0] 25)) #[.int .u8 0, .int .u64 0, .string ⟨#[]⟩, .slice none 0 0] 25
  have hb0 := below_alloc (below_alloc (Below.refl w.heap.size w) (.cells #[.int .u8 1, .int .u64 0, .string ⟨#[]⟩, .slice none 0 0] 25)) (.cells #[.int .u8 0, .int .u64 0, .string ⟨#[]⟩, .slice none 0 0] 25)
  rw [World.size_alloc] at bR
  obtain ⟨w1, e1⟩ : ∃ W, (w.alloc (.cells #[.int .u8 1, .int .u64 0, .string ⟨#[]⟩, .slice none 0 0] 25)).alloc (.cells #[.int .u8 0, .int .u64 0, .string ⟨#[]⟩, .slice none 0 0] 25) = W := ⟨_, rfl⟩
  rw [e1] at bN bR hb0 ⊢
  clear e1
  have HB0 := Aside0.mk hb0
  have BN := Aside0.mk bN
  have BR := Aside0.mk bR
  clear hb0 bN bR
  refine (at95_some (HFS0.out.below HB0.out).fs i x HH.out).mono ?_
  rintro e w2 ⟨A, c, rfl, hb, hl, hC⟩
  have bX := Blk.new w2 #[.int .u8 x.f0, .int .u64 x.f1, .string x.f2, .slice A x.f3.length c] 25
  have hal := below_alloc (Below.refl w2.heap.size w2) (.cells #[.int .u8 x.f0, .int .u64 x.f1, .string x.f2, .slice A x.f3.length c] 25)
  have hbb := below_step hb hal
  have HB1 := Aside0.mk (below_step HB0.out hbb)
  have HC := Aside0.mk (Kd.C_below hC hal)
  have BN1 := Aside0.mk (BN.out.below hbb)
  have BR1 := Aside0.mk (BR.out.below hbb)
  clear hb hC hal hbb BN BR
  obtain ⟨p0, p1, p2, p3⟩ := bX.c4
  go_wp2_with fail
  refine (HF.out x A c _ HB1.out HC.out hl).mono ?_
  rintro e w3 ⟨rfl, hb3⟩
  have bX3 := bX.below hb3
  have HB := Aside0.mk (below_step HB1.out hb3)
  have HC3 := Aside0.mk (Kd.C_below HC.out hb3)
  have BN3 := Aside0.mk (BN1.out.below hb3)
  have BR3 := Aside0.mk (BR1.out.below hb3)
  clear p0 p1 p2 p3 bX hb3 BN1 BR1
  cases hP : P x with
  | true =>
   have HT : Aside0 (tellP l i P (fun x => x) vNul = x) := ⟨by rw [HT0.out, hP]; rfl⟩
   have HS : Aside0 (spoilP l i false P = false) := ⟨by rw [HS0.out, hP]; rfl⟩
   clear hP
   obtain ⟨p0, p1, p2, p3⟩ := bX3.c4
   go_wp2_with fail
   refine (copy31_any x hxl A c _ HC3.out hl).mono ?_
   rintro e w4 ⟨A4, c4, rfl, hm⟩
   have HM := Aside0.mk hm
   have HB4 := Aside0.mk (below_step HB.out hm.2)
   have bR4 := BR3.out.below hm.2
   have BR4 := Aside0.mk bR4
   obtain ⟨q0, q1, q2, q3⟩ := bR4.c4
   have f2 := bR4.fz
   have hr4 := BR3.out.lt
   clear p0 p1 p2 p3 bX3 hm bR4
   go_wp2_with fail
   refine bodyPost_ret (results_cell_row rfl _ _ (w.heap.size + 1) 25 #[.int .u8 x.f0, .int .u64 x.f1, .string x.f2, .slice A4 x.f3.length c4] (0, 0) _ rfl (put4_blk BR4.out _ _ _ _) Tryz.underlying25 rfl (by kernel_rfl)) rfl ?_
   refine ⟨A4, c4, by rw [HT.out], ?_, ?_, ?_⟩
   ·rw [HT.out]
    exact put4_R HM.out.1 (by omega) hr4 _ _ _ _
   ·rw [HS.out, Bool.or_false]
    exact put4_fsb (HFS0.out.below HB4.out) (by omega) hgB _ _ _ _
   ·exact put4_bg (Bg.of HB4.out) (by omega) _ _ _ _
  | false =>
   have HT : Aside0 (tellP l i P (fun x => x) vNul = vNul) := ⟨by rw [HT0.out, hP]; rfl⟩
   have HS : Aside0 (spoilP l i false P = true) := ⟨by rw [HS0.out, hP]; rfl⟩
   clear hP bX3
   go_wp2_with fail
   refine (spoil50_set (HFS0.out.below HB.out).fs).mono ?_
   rintro e w4 ⟨rfl, hw4⟩
   have HFT := Aside0.mk ((HFS0.out.below HB.out).set true)
   have HBT := Aside0.mk ((Bg.of (g := g) HB.out).set 1 (.bool true))
   have bN4 := BN3.out.far (p := ⟨g, 1, none⟩) (show w.heap.size ≠ g by omega) (.bool true)
   have bR4 := BR3.out.far (p := ⟨g, 1, none⟩) (show w.heap.size + 1 ≠ g by omega) (.bool true)
   rw [hw4] at HFT HBT bN4 bR4
   have BR4 := Aside0.mk bR4
   obtain ⟨p0, p1, p2, p3⟩ := bN4.c4
   obtain ⟨q0, q1, q2, q3⟩ := bR4.c4
   have f2 := bR4.fz
   clear hw4 bN4 bR4
   go_wp2_with fail
   refine bodyPost_ret (results_cell_row rfl _ _ (w.heap.size + 1) 25 #[.int .u8 1, .int .u64 0, .string ⟨#[]⟩, .slice none 0 0] (0, 0) _ rfl (put4_blk BR4.out _ _ _ _) Tryz.underlying25 rfl (by kernel_rfl)) rfl ?_
   refine ⟨none, 0, by rw [HT.out]; rfl, by rw [HT.out]; exact Kd.R_nil _ _ _ _ _, ?_, ?_⟩
   ·rw [HS.out, Bool.or_true]
    exact put4_fsb HFT.out (by omega) hgB _ _ _ _
   ·exact put4_bg HBT.out (by omega) _ _ _ _
def allP (x : S25) : Bool := true
theorem tell104_all {w : World} {base g B : Nat} {l : List S25} {sp : Bool} (hf : FSB w base g B l sp) (hBw : B ≤ w.heap.size) (hgB : g < B) (hk : ∀ x ∈ l, itemsN x ≤ 4294967296) (i : Int)  :
  Calls Tryz.prog 51 #[.pointer (some ⟨g, 0, none⟩), .int .i64 i, .bool false, .agg #[.int .u8 1, .int .u64 0, .string ⟨#[]⟩, .slice none 0 0], .func (.func 50) #[] #[], .func (.func 46) #[] #[]] w (ValPost (tellP l i allP (fun x => x) vNul) base g B l (sp || spoilP l i false allP) w) := by
 have HFS0 := Aside0.mk hf
 cases h : atF l i with
 | none =>
  have HH := Aside0.mk h
  have HT := Aside0.mk (tell_none h allP (fun x => x) vNul)
  have HS := Aside0.mk (spoil_none h false allP)
  clear hf h
  go_enter Tryz.func51, Tryz.ntmps51
  go_wp2_with fail
  have bN := (Blk.new w #[.int .u8 1, .int .u64 0, .string ⟨#[]⟩, .slice none 0 0] 25).alloc (.cells #[.int .u8 0, .int .u64 0, .string ⟨#[]⟩, .slice none 0 0] 25)
  have bR := Blk.new (w.alloc (.cells #[.int .u8 1, .int .u64 0, .string ⟨#[]⟩, .slice none 0 0] 25)) #[.int .u8 0, .int .u64 0, .string ⟨#[]⟩, .slice none 0 0] 25
  have hb0 := below_alloc (below_alloc (Below.refl w.heap.size w) (.cells #[.int .u8 1, .int .u64 0, .string ⟨#[]⟩, .slice none 0 0] 25)) (.cells #[.int .u8 0, .int .u64 0, .string ⟨#[]⟩, .slice none 0 0] 25)
  rw [World.size_alloc] at bR
  obtain ⟨w1, e1⟩ : ∃ W, (w.alloc (.cells #[.int .u8 1, .int .u64 0, .string ⟨#[]⟩, .slice none 0 0] 25)).alloc (.cells #[.int .u8 0, .int .u64 0, .string ⟨#[]⟩, .slice none 0 0] 25) = W := ⟨_, rfl⟩
  rw [e1] at bN bR hb0 ⊢
  clear e1
  have HB0 := Aside0.mk hb0
  have BN := Aside0.mk bN
  have BR := Aside0.mk bR
  clear hb0 bN bR
  refine (at95_none (HFS0.out.below HB0.out).fs i HH.out).mono ?_
  rintro e w2 ⟨rfl, hb⟩
  have hal := below_alloc hb (.cells #[.int .u8 1, .int .u64 0, .string ⟨#[]⟩, .slice none 0 0] 25)
  have HB := Aside0.mk (below_step HB0.out hal)
  have bN2 := BN.out.below hal
  have bR2 := BR.out.below hal
  have BR2 := Aside0.mk bR2
  obtain ⟨p0, p1, p2, p3⟩ := bN2.c4
  obtain ⟨q0, q1, q2, q3⟩ := bR2.c4
  have f2 := bR2.fz
  clear hal hb bN2 bR2
  go_upto_region 3 with fail
  generalize w2.alloc (.cells #[.int .u8 1, .int .u64 0, .string ⟨#[]⟩, .slice none 0 0] 25) = w3 at *
  go_wp2_with fail
  refine bodyPost_ret (results_cell_row rfl _ _ (w.heap.size + 1) 25 #[.int .u8 1, .int .u64 0, .string ⟨#[]⟩, .slice none 0 0] (0, 0) _ rfl (put4_blk BR2.out _ _ _ _) Tryz.underlying25 rfl (by kernel_rfl)) rfl ?_
  refine ⟨none, 0, by rw [HT.out]; rfl, by rw [HT.out]; exact Kd.R_nil _ _ _ _ _, ?_, ?_⟩
  ·rw [HS.out, Bool.or_false]
   exact put4_fsb (HFS0.out.below HB.out) (by omega) hgB _ _ _ _
  ·exact put4_bg (Bg.of HB.out) (by omega) _ _ _ _
 | some x =>
  have HH := Aside0.mk h
  have HT0 := Aside0.mk (tell_some h allP (fun x => x) vNul)
  have HS0 := Aside0.mk (spoil_some h false allP)
  have hxl := hk x (atF_mem h)
  clear hf h
  go_enter Tryz.func51, Tryz.ntmps51
  go_wp2_with fail
  have bN := (Blk.new w #[.int .u8 1, .int .u64 0, .string ⟨#[]⟩, .slice none 0 0] 25).alloc (.cells #[.int .u8 0, .int .u64 0, .string ⟨#[]⟩, .slice none 0 0] 25)
  have bR := Blk.new (w.alloc (.cells #[.int .u8 1, .int .u64 0, .string ⟨#[]⟩, .slice none 0 0] 25)) #[.int .u8 0, .int .u64 0, .string ⟨#[]⟩, .slice none 0 0] 25
  have hb0 := below_alloc (below_alloc (Below.refl w.heap.size w) (.cells #[.int .u8 1, .int .u64 0, .string ⟨#[]⟩, .slice none 0 0] 25)) (.cells #[.int .u8 0, .int .u64 0, .string ⟨#[]⟩, .slice none 0 0] 25)
  rw [World.size_alloc] at bR
  obtain ⟨w1, e1⟩ : ∃ W, (w.alloc (.cells #[.int .u8 1, .int .u64 0, .string ⟨#[]⟩, .slice none 0 0] 25)).alloc (.cells #[.int .u8 0, .int .u64 0, .string ⟨#[]⟩, .slice none 0 0] 25) = W := ⟨_, rfl⟩
  rw [e1] at bN bR hb0 ⊢
  clear e1
  have HB0 := Aside0.mk hb0
  have BN := Aside0.mk bN
  have BR := Aside0.mk bR
  clear hb0 bN bR
  refine (at95_some (HFS0.out.below HB0.out).fs i x HH.out).mono ?_
  rintro e w2 ⟨A, c, rfl, hb, hl, hC⟩
  have bX := Blk.new w2 #[.int .u8 x.f0, .int .u64 x.f1, .string x.f2, .slice A x.f3.length c] 25
  have hal := below_alloc (Below.refl w2.heap.size w2) (.cells #[.int .u8 x.f0, .int .u64 x.f1, .string x.f2, .slice A x.f3.length c] 25)
  have hbb := below_step hb hal
  have HB1 := Aside0.mk (below_step HB0.out hbb)
  have HC := Aside0.mk (Kd.C_below hC hal)
  have BN1 := Aside0.mk (BN.out.below hbb)
  have BR1 := Aside0.mk (BR.out.below hbb)
  clear hb hC hal hbb BN BR
  obtain ⟨p0, p1, p2, p3⟩ := bX.c4
  go_wp2_with fail
  refine (all103_any x A c _).mono ?_
  rintro e w3 ⟨rfl, hb3⟩
  have bX3 := bX.below hb3
  have HB := Aside0.mk (below_step HB1.out hb3)
  have HC3 := Aside0.mk (Kd.C_below HC.out hb3)
  have BN3 := Aside0.mk (BN1.out.below hb3)
  have BR3 := Aside0.mk (BR1.out.below hb3)
  clear p0 p1 p2 p3 bX hb3 BN1 BR1
  have hP : allP x = true := rfl
  have HT : Aside0 (tellP l i allP (fun x => x) vNul = x) := ⟨by rw [HT0.out, hP]; rfl⟩
  have HS : Aside0 (spoilP l i false allP = false) := ⟨by rw [HS0.out, hP]; rfl⟩
  clear hP
  obtain ⟨p0, p1, p2, p3⟩ := bX3.c4
  go_wp2_with fail
  refine (copy31_any x hxl A c _ HC3.out hl).mono ?_
  rintro e w4 ⟨A4, c4, rfl, hm⟩
  have HM := Aside0.mk hm
  have HB4 := Aside0.mk (below_step HB.out hm.2)
  have bR4 := BR3.out.below hm.2
  have BR4 := Aside0.mk bR4
  obtain ⟨q0, q1, q2, q3⟩ := bR4.c4
  have f2 := bR4.fz
  have hr4 := BR3.out.lt
  clear p0 p1 p2 p3 bX3 hm bR4
  go_wp2_with fail
  refine bodyPost_ret (results_cell_row rfl _ _ (w.heap.size + 1) 25 #[.int .u8 x.f0, .int .u64 x.f1, .string x.f2, .slice A4 x.f3.length c4] (0, 0) _ rfl (put4_blk BR4.out _ _ _ _) Tryz.underlying25 rfl (by kernel_rfl)) rfl ?_
  refine ⟨A4, c4, by rw [HT.out], ?_, ?_, ?_⟩
  ·rw [HT.out]
   exact put4_R HM.out.1 (by omega) hr4 _ _ _ _
  ·rw [HS.out, Bool.or_false]
   exact put4_fsb (HFS0.out.below HB4.out) (by omega) hgB _ _ _ _
  ·exact put4_bg (Bg.of HB4.out) (by omega) _ _ _ _
def kindsP (ks : List Int) : S25 → Bool := if ks = [] then allP else kindP ks
theorem value77_any {w : World} {base g : Nat} {l : List S25} {sp : Bool} (hf : FS w base g l sp) (hk : ∀ x ∈ l, itemsN x ≤ 4294967296) (i : Int) (ks : List Int) (B : Option Addr) (d : Nat) (hK : Kd.C (Kd.int .u8) w B ks.length ks) (hd : ks.length ≤ d) :
  Calls Tryz.prog 29 #[.pointer (some ⟨g, 0, none⟩), .int .i64 i, .slice B ks.length d] w (ValPost (tellP l i (kindsP ks) (fun x => x) vNul) base g w.heap.size l (sp || spoilP l i false (kindsP ks)) w) := by
 have HF := Aside0.mk hf.toB
 have HK := Aside0.mk hk
 have HKC := Aside0.mk hK
 have hg := hf.lt
 clear hf hk hK
 go_enter Tryz.func29, Tryz.ntmps29
 go_wp2_with fail
 have bR := Blk.new w #[.int .u8 0, .int .u64 0, .string ⟨#[]⟩, .slice none 0 0] 25
 have hb0 := below_alloc (Below.refl w.heap.size w) (.cells #[.int .u8 0, .int .u64 0, .string ⟨#[]⟩, .slice none 0 0] 25)
 obtain ⟨w1, e1⟩ : ∃ W, w.alloc (.cells #[.int .u8 0, .int .u64 0, .string ⟨#[]⟩, .slice none 0 0] 25) = W := ⟨_, rfl⟩
 rw [e1] at bR hb0 ⊢
 clear e1
 have HB1 := Aside0.mk hb0
 have BR1 := Aside0.mk bR
 clear hb0 bR
 refine (of68_any _ _ _ _).mono ?_
 rintro e w2 ⟨rfl, hw2⟩
 have hal := below_alloc (Below.refl w1.heap.size w1) (.cells #[.slice B ks.length d] 45)
 have bS := Blk.new w1 #[.slice B ks.length d] 45
 rw [← hw2] at hal bS
 have HBS := Aside0.mk bS
 have HB2 := Aside0.mk (below_step HB1.out hal)
 have BR2 := Aside0.mk (BR1.out.below hal)
 have HKC2 := Aside0.mk (Kd.C_below HKC.out HB2.out)
 have hs1 := HB1.out.size
 have hr2 := BR2.out.lt
 clear hal bS hw2
 cases ks with
 | nil =>
  go_wp2_with fail
  refine (null26_any _).mono ?_
  rintro e w3 ⟨rfl, hb3⟩
  have HB3 := Aside0.mk (below_step HB2.out hb3)
  have BR3 := Aside0.mk (BR2.out.below hb3)
  clear hb3
  go_wp2_with fail
  refine (tell104_all (HF.out.below HB3.out) HB3.out.size hg HK.out i).mono ?_
  rintro e w4 ⟨A4, c4, rfl, hR4, hF4, hB4⟩
  have HR4 := Aside0.mk hR4
  have HF4 := Aside0.mk hF4
  have HB4 := Aside0.mk ((Bg.of (g := g) HB3.out).trans hB4)
  have bR4 := BR3.out.bg hB4 (by omega)
  have BR4 := Aside0.mk bR4
  obtain ⟨q0, q1, q2, q3⟩ := bR4.c4
  have f2 := bR4.fz
  have hr3 := BR3.out.lt
  have hs3 := HB3.out.size
  clear hR4 hF4 hB4 bR4
  go_wp2_with fail
  refine bodyPost_ret (results_cell_row rfl _ _ w.heap.size 25 #[.int .u8 _, .int .u64 _, .string _, .slice A4 _ c4] (0, 0) _ rfl (put4_blk BR4.out _ _ _ _) Tryz.underlying25 rfl (by kernel_rfl)) rfl ?_
  exact ⟨A4, c4, rfl, put4_R HR4.out (by omega) hr3 _ _ _ _, put4_fsb HF4.out (Nat.le_refl _) hg _ _ _ _, put4_bg HB4.out (Nat.le_refl _) _ _ _ _⟩
 | cons k ks =>
  have hlk : ((k :: ks).length == 0) = false := rfl
  have HFt := Aside0.mk (fit98 (k :: ks) B d _ _ HBS.out HKC2.out hd)
  obtain ⟨n, hn⟩ : ∃ n, (k :: ks).length = n := ⟨_, rfl⟩
  have hn0 : ((n : Int) == 0) = false := by rw [← hn]; simp; omega
  rw [hn]
  clear hn hlk
  go_wp2_with fail
  refine (null26_any _).mono ?_
  rintro e w3 ⟨rfl, hb3⟩
  have HB3 := Aside0.mk (below_step HB2.out hb3)
  have BR3 := Aside0.mk (BR2.out.below hb3)
  have HFt3 := Aside0.mk (HFt.out.later hb3)
  clear hb3
  go_wp2_with fail
  refine (tell104_of (HF.out.below HB3.out) HB3.out.size hg HK.out i _ _ HFt3.out).mono ?_
  rintro e w4 ⟨A4, c4, rfl, hR4, hF4, hB4⟩
  have HR4 := Aside0.mk hR4
  have HF4 := Aside0.mk hF4
  have HB4 := Aside0.mk ((Bg.of (g := g) HB3.out).trans hB4)
  have bR4 := BR3.out.bg hB4 (by omega)
  have BR4 := Aside0.mk bR4
  obtain ⟨q0, q1, q2, q3⟩ := bR4.c4
  have f2 := bR4.fz
  have hr3 := BR3.out.lt
  have hs3 := HB3.out.size
  clear hR4 hF4 hB4 bR4
  go_wp2_with fail
  refine bodyPost_ret (results_cell_row rfl _ _ w.heap.size 25 #[.int .u8 _, .int .u64 _, .string _, .slice A4 _ c4] (0, 0) _ rfl (put4_blk BR4.out _ _ _ _) Tryz.underlying25 rfl (by kernel_rfl)) rfl ?_
  exact ⟨A4, c4, rfl, put4_R HR4.out (by omega) hr3 _ _ _ _, put4_fsb HF4.out (Nat.le_refl _) hg _ _ _ _, put4_bg HB4.out (Nat.le_refl _) _ _ _ _⟩
end Go.Proofs.YtdilbnggedidnaaGreat.PVal
namespace Go.Proofs.YtdilbnggedidnaaGreat.PVal
open Go.RowKit Go.Shelf Go.Proofs.YtdilbnggedidnaaGreatW.PrintWords Go.Proofs.YtdilbnggedidnaaGreatW.PrintLast
set_option linter.unusedVariables false
set_option linter.unusedSimpArgs false
theorem ret_bool {p q : Bool} (h : p = q) : Ending.returned (.bool p) = Ending.returned (.bool q) := by rw [h]
theorem mayO_no {k a b : Int} {s : ByteArray} (h : s.toList ≠ [] ∧ k ≠ 3 ∨ asciiB (bytesOf s) = false) : mayO ⟨k, a, b, s⟩ = false := by
 unfold mayO
 rw [if_pos h]
theorem mayO_ok {k a b : Int} {s : ByteArray} (h1 : s.toList = [] ∨ k = 3) (h2 : asciiB (bytesOf s) = true) : mayO ⟨k, a, b, s⟩ = if k = 0 ∨ k = 2 ∨ k = 3 ∨ k = 4 then decide (a = 0 ∧ b = 0) else if k = 1 then decide (a ≤ 4294967295) else if k = 5 then decide (a ≤ 1 ∧ b ≤ 1) else false := by
 unfold mayO
 rw [if_neg]
 rintro (h | h)
 ·rcases h1 with h1 | h1
  ·exact h.1 h1
  ·exact h.2 h1
 ·rw [h2] at h; cases h
theorem may84_any (k a b : Int) (s : ByteArray) (hs : s.size ≤ 4294967290) (w : World) :
  Calls Tryz.prog 38 #[.agg #[.int .u8 k, .int .u64 a, .int .u64 b, .string s]] w fun e w' => e = .returned (.bool (mayO ⟨k, a, b, s⟩)) ∧ Below w.heap.size w w' := by
 have kb := conv_run s
 have hb := bytesOf_length s
 have HBB := Aside0.mk hb
 clear hb
 obtain ⟨t, et⟩ : ∃ t, asciiB (bytesOf s) = t := ⟨_, rfl⟩
 have HT := Aside0.mk et
 clear et
 cases hn : s.toList.isEmpty with
 | true =>
  have hs0 : s.toList = [] := by simpa using hn
  obtain rfl := nil_of_toList hs0
  have HS0 := Aside0.mk hs0
  clear hs0 hn
  go_enter Tryz.func38, Tryz.ntmps38
  go_wp2_with fail
  refine (ascii86_any (bytesOf ⟨#[]⟩) (by rw [HBB.out]; omega) _ _ _ ?_ ?_).mono ?_
  ·have := conv_reads (w.alloc (.cells #[.int .u8 k, .int .u64 a, .int .u64 b, .string ⟨#[]⟩] 37)) ⟨#[]⟩ hs
   rw [World.size_alloc] at this
   exact this
  ·rw [HBB.out]; exact grownCap_ge _ _ _ _
  rintro e w2 ⟨he, hb⟩
  rw [HT.out] at he
  subst he
  have hbb := below_step (bytes_below (Below.refl _ _) (Nat.le_refl _) 5 ⟨#[]⟩) hb
  have bX := (Blk.new w #[.int .u8 k, .int .u64 a, .int .u64 b, .string ⟨#[]⟩] 37).below hbb
  have HW : Aside0 (Below w.heap.size w w2) := ⟨below_step ((Below.refl _ _).alloc (Nat.le_refl _) _) hbb⟩
  obtain ⟨p0, p1, p2, p3⟩ := bX.c4
  clear hb hbb bX
  cases t with
  | false =>
   have HE := Aside0.mk (mayO_no (k := k) (a := a) (b := b) (.inr HT.out))
   go_wp2_with fail
   go_ret
   exact ⟨ret_bool (p := false) HE.out.symm, HW.out⟩
  | true =>
   have HE := Aside0.mk (mayO_ok (k := k) (a := a) (b := b) (.inl HS0.out) HT.out)
   by_cases k0 : k = 0
   ·subst k0
    cases ha : (a == 0) with
    | true =>
     go_wp2_with fail
     go_ret
     exact ⟨ret_bool (p := b == 0) (by rw [HE.out, if_pos (by simp)]; simp at ha; rw [Bool.eq_iff_iff]; simp [ha]), HW.out⟩
    | false =>
     go_wp2_with fail
     go_ret
     exact ⟨ret_bool (p := false) (by rw [HE.out, if_pos (by simp)]; simp at ha; simp [ha]), HW.out⟩
   by_cases k2 : k = 2
   ·subst k2
    cases ha : (a == 0) with
    | true =>
     go_wp2_with fail
     go_ret
     exact ⟨ret_bool (p := b == 0) (by rw [HE.out, if_pos (by simp)]; simp at ha; rw [Bool.eq_iff_iff]; simp [ha]), HW.out⟩
    | false =>
     go_wp2_with fail
     go_ret
     exact ⟨ret_bool (p := false) (by rw [HE.out, if_pos (by simp)]; simp at ha; simp [ha]), HW.out⟩
   by_cases k3 : k = 3
   ·subst k3
    cases ha : (a == 0) with
    | true =>
     go_wp2_with fail
     go_ret
     exact ⟨ret_bool (p := b == 0) (by rw [HE.out, if_pos (by simp)]; simp at ha; rw [Bool.eq_iff_iff]; simp [ha]), HW.out⟩
    | false =>
     go_wp2_with fail
     go_ret
     exact ⟨ret_bool (p := false) (by rw [HE.out, if_pos (by simp)]; simp at ha; simp [ha]), HW.out⟩
   by_cases k4 : k = 4
   ·subst k4
    cases ha : (a == 0) with
    | true =>
     go_wp2_with fail
     go_ret
     exact ⟨ret_bool (p := b == 0) (by rw [HE.out, if_pos (by simp)]; simp at ha; rw [Bool.eq_iff_iff]; simp [ha]), HW.out⟩
    | false =>
     go_wp2_with fail
     go_ret
     exact ⟨ret_bool (p := false) (by rw [HE.out, if_pos (by simp)]; simp at ha; simp [ha]), HW.out⟩
   by_cases k1 : k = 1
   ·subst k1
    go_wp2_with fail
    go_ret
    exact ⟨ret_bool (p := decide (a ≤ 4294967295)) (by rw [HE.out]; rfl), HW.out⟩
   by_cases k5 : k = 5
   ·subst k5
    by_cases ha : a ≤ 1
    ·have ha' : decide (a ≤ 1) = true := by simpa using ha
     go_wp2_with fail
     go_ret
     exact ⟨ret_bool (p := decide (b ≤ 1)) (by rw [HE.out]; simp [ha]), HW.out⟩
    ·have ha' : decide (a ≤ 1) = false := by simpa using ha
     go_wp2_with fail
     go_ret
     exact ⟨ret_bool (p := false) (by rw [HE.out]; simp; intro h; omega), HW.out⟩
   have b0 : (k == 0) = false := by simpa using k0
   have b2 : (k == 2) = false := by simpa using k2
   have b3 : (k == 3) = false := by simpa using k3
   have b4 : (k == 4) = false := by simpa using k4
   have b1 : (k == 1) = false := by simpa using k1
   have b5 : (k == 5) = false := by simpa using k5
   go_wp2_with fail
   go_ret
   exact ⟨ret_bool (p := false) (by rw [HE.out, if_neg (by omega), if_neg k1, if_neg k5]), HW.out⟩
 | false =>
  have hs0 : s.toList ≠ [] := by intro h; rw [h] at hn; cases hn
  have HS0 := Aside0.mk hs0
  clear hs0
  have hn2 : (!s.toList.isEmpty) = true := by rw [hn]; rfl
  by_cases k3 : k = 3
  ·subst k3
   go_enter Tryz.func38, Tryz.ntmps38
   go_wp2_with fail
   refine (ascii86_any (bytesOf s) (by rw [HBB.out]; omega) _ _ _ ?_ ?_).mono ?_
   ·have := conv_reads (w.alloc (.cells #[.int .u8 3, .int .u64 a, .int .u64 b, .string s] 37)) s hs
    rw [World.size_alloc] at this
    exact this
   ·rw [HBB.out]; exact grownCap_ge _ _ _ _
   rintro e w2 ⟨he, hb⟩
   rw [HT.out] at he
   subst he
   have hbb := below_step (bytes_below (Below.refl _ _) (Nat.le_refl _) 5 s) hb
   have bX := (Blk.new w #[.int .u8 3, .int .u64 a, .int .u64 b, .string s] 37).below hbb
   have HW : Aside0 (Below w.heap.size w w2) := ⟨below_step ((Below.refl _ _).alloc (Nat.le_refl _) _) hbb⟩
   obtain ⟨p0, p1, p2, p3⟩ := bX.c4
   clear hb hbb bX
   cases t with
   | false =>
    have HE := Aside0.mk (mayO_no (k := 3) (a := a) (b := b) (.inr HT.out))
    go_wp2_with fail
    go_ret
    exact ⟨ret_bool (p := false) HE.out.symm, HW.out⟩
   | true =>
    have HE := Aside0.mk (mayO_ok (k := 3) (a := a) (b := b) (.inr rfl) HT.out)
    cases ha : (a == 0) with
    | true =>
     go_wp2_with fail
     go_ret
     exact ⟨ret_bool (p := b == 0) (by rw [HE.out, if_pos (by simp)]; simp at ha; rw [Bool.eq_iff_iff]; simp [ha]), HW.out⟩
    | false =>
     go_wp2_with fail
     go_ret
     exact ⟨ret_bool (p := false) (by rw [HE.out, if_pos (by simp)]; simp at ha; simp [ha]), HW.out⟩
  ·have b3 : (k != 3) = true := by simpa using k3
   have HE := Aside0.mk (mayO_no (k := k) (a := a) (b := b) (.inl ⟨HS0.out, k3⟩))
   clear k3
   go_enter Tryz.func38, Tryz.ntmps38
   go_wp2_with fail
   go_ret
   exact ⟨ret_bool (p := false) HE.out.symm, below_alloc (Below.refl _ _) _⟩
theorem truth114_any (n : Int) (w : World) : Calls Tryz.prog 63 #[.int .u64 n] w fun e w' => e = .returned (.agg #[.int .u8 (truthV n).f0, .int .u64 (truthV n).f1, .string ⟨#[]⟩, .slice none 0 0]) ∧ Below w.heap.size w w' := by
 by_cases h : n = 0
 ·subst h
  go_enter Tryz.func63, Tryz.ntmps63
  go_wp2_with fail
  have bR := Blk.new w #[.int .u8 0, .int .u64 0, .string ⟨#[]⟩, .slice none 0 0] 25
  have hal := below_alloc (Below.refl w.heap.size w) (.cells #[.int .u8 0, .int .u64 0, .string ⟨#[]⟩, .slice none 0 0] 25)
  refine (null26_any _).mono ?_
  rintro e w2 ⟨rfl, hb⟩
  have bR2 := bR.below hb
  have BR := Aside0.mk bR2
  have HB := Aside0.mk (below_step hal hb)
  obtain ⟨q0, q1, q2, q3⟩ := bR2.c4
  have f2 := bR2.fz
  clear bR hal hb bR2
  go_wp2_with fail
  exact bodyPost_ret (results_cell_row rfl _ _ w.heap.size 25 #[.int .u8 1, .int .u64 0, .string ⟨#[]⟩, .slice none 0 0] (0, 0) _ rfl (put4_blk BR.out _ _ _ _) Tryz.underlying25 rfl (by kernel_rfl)) rfl ⟨rfl, put4_below HB.out (Nat.le_refl _) _ _ _ _⟩
 ·have h0 : (n == 0) = false := by simpa using h
  have ht : truthV n = vTru := by unfold truthV; rw [if_neg h]
  rw [ht]
  clear ht h
  go_enter Tryz.func63, Tryz.ntmps63
  go_wp2_with fail
  have bR := Blk.new w #[.int .u8 0, .int .u64 0, .string ⟨#[]⟩, .slice none 0 0] 25
  have hal := below_alloc (Below.refl w.heap.size w) (.cells #[.int .u8 0, .int .u64 0, .string ⟨#[]⟩, .slice none 0 0] 25)
  refine (bool27_any true _).mono ?_
  rintro e w2 ⟨rfl, hb⟩
  have bR2 := bR.below hb
  have BR := Aside0.mk bR2
  have HB := Aside0.mk (below_step hal hb)
  obtain ⟨q0, q1, q2, q3⟩ := bR2.c4
  have f2 := bR2.fz
  clear bR hal hb bR2
  go_wp2_with fail
  exact bodyPost_ret (results_cell_row rfl _ _ w.heap.size 25 #[.int .u8 2, .int .u64 1, .string ⟨#[]⟩, .slice none 0 0] (0, 0) _ rfl (put4_blk BR.out _ _ _ _) Tryz.underlying25 rfl (by kernel_rfl)) rfl ⟨rfl, put4_below HB.out (Nat.le_refl _) _ _ _ _⟩
end Go.Proofs.YtdilbnggedidnaaGreat.PVal
namespace Go.Proofs.YtdilbnggedidnaaGreat.PVal
open Go.RowKit Go.Shelf Go.Proofs.YtdilbnggedidnaaGreatW.PrintWords Go.Proofs.YtdilbnggedidnaaGreatW.PrintLast
set_option linter.unusedVariables false
set_option linter.unusedSimpArgs false
theorem results54 (tmps : Array Value) (w : World) (g : Nat) (cs : Array Value) (n : Int) (hcs : cs.size = 4) (hp : tmps.getD 2 undef = .pointer (some ⟨g, 0, none⟩)) (hg : Blk w g cs 25) (hb : tmps.getD 3 undef = .int .i64 n) :
  (results Tryz.f7 tmps).run Tryz.prog w = .ok (.tuple #[.agg cs, .int .i64 n]) w := by
 have h1 : tmps[2]?.getD undef = .pointer (some ⟨g, 0, none⟩) := by simpa using hp
 have h2 : tmps[3]?.getD undef = .int .i64 n := by simpa using hb
 have hi : (Tryz.prog.info? 25).map (·.size) = some cs.size := by rw [hcs]; kernel_rfl
 have hr := run_loadVar_row (P := Tryz.prog) w g 25 25 cs (0, 0) _ hg Tryz.underlying25 rfl hi
 simp [results, Tryz.f7, h1, h2, asAddr, hr]
def ValErr (r : S25) (n : Int) (w : World) (e : Ending) (w' : World) : Prop :=
 ∃ A c, e = .returned (.tuple #[.agg #[.int .u8 r.f0, .int .u64 r.f1, .string r.f2, .slice A r.f3.length c], .int .i64 n]) ∧ k25.R 25 w' w.heap.size (fun _ => True) (.slice A r.f3.length c) r.f3 ∧ Below w.heap.size w w'
theorem put54_no (s : ByteArray) (hs : s.size ≤ 4294967290) (h : asciiB (bytesOf s) = false) (w : World) :
  Calls Tryz.prog 7 #[.string s] w (ValErr zVal 1 w) := by
 have kb := conv_run s
 have hb := bytesOf_length s
 have HBB := Aside0.mk hb
 have HT := Aside0.mk h
 clear hb h
 go_enter Tryz.func7, Tryz.ntmps7
 go_wp2_with fail
 refine (ascii86_any (bytesOf s) (by rw [HBB.out]; omega) _ _ _ ?_ ?_).mono ?_
 ·have := conv_reads (w.alloc (.cells #[.int .u8 0, .int .u64 0, .string ⟨#[]⟩, .slice none 0 0] 25)) s hs
  rw [World.size_alloc] at this
  exact this
 ·rw [HBB.out]; exact grownCap_ge _ _ _ _
 rintro e w2 ⟨he, hb⟩
 rw [HT.out] at he
 subst he
 have hbb := below_step (bytes_below (Below.refl _ _) (Nat.le_refl _) 5 s) hb
 have bR := (Blk.new w #[.int .u8 0, .int .u64 0, .string ⟨#[]⟩, .slice none 0 0] 25).below hbb
 have BR := Aside0.mk bR
 have HW : Aside0 (Below w.heap.size w w2) := ⟨below_step ((Below.refl _ _).alloc (Nat.le_refl _) _) hbb⟩
 clear hb hbb kb
 obtain ⟨q0, q1, q2, q3⟩ := bR.c4
 have f2 := bR.fz
 clear bR
 go_wp2_with fail
 refine bodyPost_ret (results54 _ _ w.heap.size #[.int .u8 0, .int .u64 0, .string ⟨#[]⟩, .slice none 0 0] 1 rfl rfl (put4_blk BR.out _ _ _ _) rfl) rfl ?_
 exact ⟨none, 0, rfl, Kd.R_nil _ _ _ _ _, put4_below HW.out (Nat.le_refl _) _ _ _ _⟩
theorem put54_yes (s : ByteArray) (hs : s.size ≤ 4294967290) (h : asciiB (bytesOf s) = true) (w : World) :
  Calls Tryz.prog 7 #[.string s] w (ValErr (condV s) 0 w) := by
 have kb := conv_run s
 have hb := bytesOf_length s
 have HBB := Aside0.mk hb
 have HT := Aside0.mk h
 clear hb h
 go_enter Tryz.func7, Tryz.ntmps7
 go_wp2_with fail
 refine (ascii86_any (bytesOf s) (by rw [HBB.out]; omega) _ _ _ ?_ ?_).mono ?_
 ·have := conv_reads (w.alloc (.cells #[.int .u8 0, .int .u64 0, .string ⟨#[]⟩, .slice none 0 0] 25)) s hs
  rw [World.size_alloc] at this
  exact this
 ·rw [HBB.out]; exact grownCap_ge _ _ _ _
 rintro e w2 ⟨he, hb⟩
 rw [HT.out] at he
 subst he
 have hbb := below_step (bytes_below (Below.refl _ _) (Nat.le_refl _) 5 s) hb
 have bR := (Blk.new w #[.int .u8 0, .int .u64 0, .string ⟨#[]⟩, .slice none 0 0] 25).below hbb
 have BR := Aside0.mk bR
 have HW : Aside0 (Below w.heap.size w w2) := ⟨below_step ((Below.refl _ _).alloc (Nat.le_refl _) _) hbb⟩
 clear hb hbb kb
 clear bR
 cases hn : s.toList.isEmpty with
 | true =>
  have hs0 : s.toList = [] := by simpa using hn
  obtain rfl := nil_of_toList hs0
  clear hs0 hn
  go_wp2_with fail
  refine (null26_any _).mono ?_
  rintro e w3 ⟨rfl, hb3⟩
  have HW3 := Aside0.mk (below_step HW.out hb3)
  have bR3 := BR.out.below hb3
  have BR3 := Aside0.mk bR3
  obtain ⟨q0, q1, q2, q3⟩ := bR3.c4
  have f2 := bR3.fz
  clear hb3 bR3
  go_wp2_with fail
  have HZ : condV ⟨#[]⟩ = vNul := by unfold condV; rw [if_pos toList_nil]
  rw [HZ]
  refine bodyPost_ret (results54 _ _ w.heap.size #[.int .u8 1, .int .u64 0, .string ⟨#[]⟩, .slice none 0 0] 0 rfl rfl (put4_blk BR3.out _ _ _ _) rfl) rfl ?_
  exact ⟨none, 0, rfl, Kd.R_nil _ _ _ _ _, put4_below HW3.out (Nat.le_refl _) _ _ _ _⟩
 | false =>
  have hs0 : s.toList ≠ [] := by intro h; rw [h] at hn; cases hn
  have HC : Aside0 (condV s = putV 29 [symV s]) := ⟨by unfold condV; rw [if_neg hs0]⟩
  have HT2 : Aside0 (trimL [symV s] = [symV s]) := ⟨trim_one (show (21 : Int) ≠ 1 by decide)⟩
  clear hs0
  go_wp2_with fail
  refine (text24_any 21 s _).mono ?_
  rintro e w3 ⟨rfl, hb3⟩
  have HW3 := Aside0.mk (below_step HW.out hb3)
  have BR3 := Aside0.mk (BR.out.below hb3)
  clear hb3
  go_wp2_with fail
  have bL := Blk.new w3 (flatK [⟨symV s, none, 0⟩]).toArray 25
  have hCL := C_lit (ks := [⟨symV s, none, 0⟩]) bL (by simp) (by
   intro q hq
   simp only [List.mem_cons, List.not_mem_nil, or_false] at hq
   rcases hq with rfl
   exact ⟨C_none _, Nat.le_refl _⟩)
  have hal := below_alloc (Below.refl w3.heap.size w3) (.cells #[.int .u8 21, .int .u64 0, .string s, .slice none 0 0] 25)
  refine (put39_any 29 [symV s] (by simp [itemsL, symV, itemsN]) _ 1 _ hCL (by simp)).mono ?_
  rintro e w4 ⟨A4, c4, rfl, hR4, hb4⟩
  have hb34 := below_step hal hb4
  have HW4 := Aside0.mk (below_step HW3.out hb34)
  have bR4 := BR3.out.below hb34
  have BR4 := Aside0.mk bR4
  have HR4 := Aside0.mk hR4
  obtain ⟨q0, q1, q2, q3⟩ := bR4.c4
  have f2 := bR4.fz
  have hr3 := BR3.out.lt
  clear bL hCL hal hb4 hb34 hR4 bR4
  go_wp2_with fail
  refine bodyPost_ret (results54 _ _ w.heap.size #[.int .u8 25, .int .u64 0, .string ⟨#[]⟩, .slice A4 2 c4] 0 rfl rfl (put4_blk BR4.out _ _ _ _) rfl) rfl ?_
  refine ⟨A4, c4, by rw [HC.out]; rfl, ?_, put4_below HW4.out (Nat.le_refl _) _ _ _ _⟩
  rw [HC.out]
  exact put4_R HR4.out (by rw [World.size_alloc]; omega) (by rw [World.size_alloc]; omega) _ _ _ _
def condSP (l : List S25) : Bool := (spoilP l 0 true K21 || spoilP l 1 false K20) || spoilP l 2 false K23
theorem done_or (l : List S25) (sp : Bool) (n : Int) : doneN l sp n = 0 ∨ doneN l sp n = 6 := by
 unfold doneN
 split
 ·exact .inr rfl
 ·exact .inl rfl
def CondErr (v : S25) (w : World) (e : Ending) (w' : World) : Prop :=
 e = .returned (.tuple #[.string ((getCondF v).getD ⟨#[]⟩), .int .i64 (if (getCondF v).isSome then 0 else 6)]) ∧ Below w.heap.size w w'
theorem newF_items {v : S25} {code : Int} {name : ByteArray} {l : List S25} (h : newF v code name = some l) : itemsL l ≤ itemsN v := by
 obtain ⟨hr, h25, _, rfl⟩ := newF_right h
 obtain ⟨a, b, hab⟩ := desc_two hr h25
 have hb : rd_T25 v.f3 1 = b := by rw [hab]; rfl
 rw [hb, itemsN_eq v, hab]
 simp only [itemsL]
 have := itemsN_eq b
 omega
theorem getCond55_any (v : S25) (hs : itemsN v ≤ 4294967296) (ho : okV v) (A : Option Addr) (c : Nat) (w : World) (ha : k25.C w A v.f3.length v.f3) (hc : v.f3.length ≤ c) :
  Calls Tryz.prog 9 #[.agg #[.int .u8 v.f0, .int .u64 v.f1, .string v.f2, .slice A v.f3.length c]] w (CondErr v w) := by
 have HA := Aside0.mk ha
 have HO := Aside0.mk ho
 have bX := Blk.new w #[.int .u8 v.f0, .int .u64 v.f1, .string v.f2, .slice A v.f3.length c] 25
 have hal := below_alloc (Below.refl w.heap.size w) (.cells #[.int .u8 v.f0, .int .u64 v.f1, .string v.f2, .slice A v.f3.length c] 25)
 have HA1 := Aside0.mk (Kd.C_below ha hal)
 have HB1 := Aside0.mk hal
 clear ha ho hal
 by_cases h1 : v.f0 = 1
 ·have HG : Aside0 (getCondF v = some ⟨#[]⟩) := ⟨by unfold getCondF; rw [if_pos h1]⟩
  have h1' : (v.f0 == 1) = true := by simpa using h1
  clear h1
  obtain ⟨p0, p1, p2, p3⟩ := bX.c4
  clear bX
  go_enter Tryz.func9, Tryz.ntmps9
  go_wp2_with fail
  go_ret2
  exact ⟨by rw [HG.out]; rfl, HB1.out⟩
 have h1' : (v.f0 == 1) = false := by simpa using h1
 have HN1 := Aside0.mk h1
 clear h1
 go_enter Tryz.func9, Tryz.ntmps9
 go_upto_region 1 with fail
 obtain ⟨b, eb⟩ : ∃ b, w.heap.size = b := ⟨_, rfl⟩
 obtain ⟨w1, e1⟩ : ∃ W, w.alloc (.cells #[.int .u8 v.f0, .int .u64 v.f1, .string v.f2, .slice A v.f3.length c] 25) = W := ⟨_, rfl⟩
 have EB := Aside0.mk eb
 rw [e1] at bX HA1 HB1 ⊢
 rw [eb] at bX ⊢
 clear e1 eb
 obtain ⟨p0, p1, p2, p3⟩ := bX.c4
 cases hnew : newF v 29 nmErr with
 | none =>
  have HG : Aside0 (getCondF v = none) := ⟨by unfold getCondF; rw [if_neg HN1.out, hnew]⟩
  have HN := Aside0.mk hnew
  clear hnew
  go_wp2_with fail
  refine (new44_no v hs HO.out 29 nmErr A c _ HA1.out hc HN.out).mono ?_
  rintro e w2 ⟨rfl, hb2⟩
  have HB2 := Aside0.mk (below_step HB1.out hb2)
  clear hb2 p0 p1 p2 p3 bX h1'
  go_wp2_with fail
  go_ret2
  exact ⟨by rw [HG.out]; rfl, HB2.out⟩
 | some l =>
  have HG : Aside0 (getCondF v = if doneN l (condSP l) 3 = 0 then some (tellP l 0 K21 (fun x => x.f2) ⟨#[]⟩) else none) := ⟨by unfold getCondF condSP; rw [if_neg HN1.out, hnew]⟩
  have HN := Aside0.mk hnew
  have hil := newF_items hnew
  have HKI : Aside0 (∀ x ∈ l, itemsN x ≤ 4294967296) := ⟨fun x hx => by have := itemsL_mem hx; omega⟩
  clear hnew hil
  go_wp2_with fail
  refine (new44_yes v hs HO.out 29 nmErr A c _ HA1.out hc HN.out).mono ?_
  rintro e w2 ⟨g, rfl, hg, hfs, hb2⟩
  have HF2 := Aside0.mk hfs
  have HB2 := Aside0.mk (below_step HB1.out hb2)
  have hgB : w.heap.size ≤ g := by have := HB1.out.size; omega
  clear hb2 p0 p1 p2 p3 bX h1' hfs
  go_wp2_with fail
  refine (text76_any HF2.out 0 21 true).mono ?_
  rintro e w3 ⟨rfl, hfs, hbg⟩
  have HF3 := Aside0.mk hfs
  have HB3 := Aside0.mk (below_bg HB2.out hbg hgB HB2.out.size)
  clear hfs hbg
  go_wp2_with fail
  refine (text76_any HF3.out 1 20 false).mono ?_
  rintro e w4 ⟨rfl, hfs, hbg⟩
  have HF4 := Aside0.mk hfs
  have HB4 := Aside0.mk (below_bg HB3.out hbg hgB HB3.out.size)
  clear hfs hbg
  go_upto_region 8 with fail
  go_wp2_with fail
  have bK := Blk.new w4 #[.int .u8 23] 5
  have hal5 := below_alloc (Below.refl w4.heap.size w4) (.cells #[.int .u8 23] 5)
  have HCK : Aside0 (Kd.C (Kd.int .u8) (w4.alloc (.cells #[.int .u8 23] 5)) (some ⟨w4.heap.size, 0, none⟩) [(23 : Int)].length [23]) := ⟨C_u8 bK⟩
  have HF5 := Aside0.mk (HF4.out.below hal5)
  have HB5 := Aside0.mk (below_step HB4.out hal5)
  clear bK hal5
  refine (value77_any HF5.out HKI.out 2 [23] _ 1 HCK.out (by decide)).mono ?_
  rintro e w6 ⟨A6, c6, rfl, hR6, hfs, hbg⟩
  have HF6 := Aside0.mk hfs.fs
  have HB6 := Aside0.mk (below_bg HB5.out hbg hgB HB5.out.size)
  clear hfs hbg hR6
  go_wp2_with fail
  refine (done43_any HF6.out 3).mono ?_
  rintro e w7 ⟨he, rfl⟩
  replace he : e = .returned (.int .i64 (doneN l (condSP l) 3)) := he
  rcases done_or l (condSP l) 3 with hd | hd
  ·rw [if_pos hd] at HG
   rw [hd] at he
   subst he
   clear hd
   go_wp2_with fail
   go_ret2
   exact ⟨by rw [HG.out]; rfl, HB6.out⟩
  ·rw [if_neg (by rw [hd]; decide)] at HG
   rw [hd] at he
   subst he
   clear hd
   go_wp2_with fail
   go_ret2
   exact ⟨by rw [HG.out]; rfl, HB6.out⟩
end Go.Proofs.YtdilbnggedidnaaGreat.PVal
namespace Go.Proofs.YtdilbnggedidnaaGreat.PVal
open Go.RowKit Go.Shelf Go.Proofs.YtdilbnggedidnaaGreatW.PrintWords Go.Proofs.YtdilbnggedidnaaGreatW.PrintLast
set_option linter.unusedVariables false
set_option linter.unusedSimpArgs false
def formC : Array Value := #[.int .u8 1, .int .u64 35, .string nmO1, .int .i64 2, .func (.func 54) #[] #[], .func (.func 55) #[] #[], .int .u8 2, .int .u64 36, .string nmO2, .int .i64 0, .func (.func 57) #[] #[], .func (.func 58) #[] #[], .int .u8 3, .int .u64 37, .string nmO3, .int .i64 1, .func (.func 59) #[] #[], .func (.func 60) #[] #[], .int .u8 4, .int .u64 38, .string nmO4, .int .i64 0, .func (.func 57) #[] #[], .func (.func 58) #[] #[], .int .u8 5, .int .u64 39, .string nmO5, .int .i64 3, .func (.func 62) #[] #[], .func (.func 64) #[] #[]]
theorem forms85_any (w : World) : Calls Tryz.prog 36 #[] w fun e w' => e = .returned (.slice (some ⟨w.heap.size, 0, none⟩) 5 5) ∧ w' = w.alloc (.cells formC 64) := by
 go_enter Tryz.func36, Tryz.ntmps36
 go_wp2_with fail
 go_ret
 exact ⟨rfl, rfl⟩
def ListPost (l : List S25) (w : World) (e : Ending) (w' : World) : Prop := ∃ A c, e = .returned (.slice A l.length c) ∧ l.length ≤ c ∧ k25.C w' A l.length l ∧ Below w.heap.size w w'
theorem nothing109_any (k a b : Int) (s : ByteArray) (w : World) : Calls Tryz.prog 57 #[.agg #[.int .u8 k, .int .u64 a, .int .u64 b, .string s]] w (ListPost [] w) := by
 go_enter Tryz.func57, Tryz.ntmps57
 go_wp2_with fail
 go_ret
 exact ⟨none, 0, rfl, Nat.le_refl _, C_none _, below_alloc (Below.refl _ _) _⟩
theorem truth_kids (n : Int) : (truthV n).f3 = [] := by unfold truthV; split <;> rfl
theorem truth_text (n : Int) : (truthV n).f2 = ⟨#[]⟩ := by unfold truthV; split <;> rfl
theorem puts107_any (k a b : Int) (s : ByteArray) (w : World) : Calls Tryz.prog 54 #[.agg #[.int .u8 k, .int .u64 a, .int .u64 b, .string s]] w (ListPost [numV 5 a, numV 6 b] w) := by
 have hal := below_alloc (Below.refl w.heap.size w) (.cells #[.int .u8 k, .int .u64 a, .int .u64 b, .string s] 37)
 have bO := Blk.new w #[.int .u8 k, .int .u64 a, .int .u64 b, .string s] 37
 go_enter Tryz.func54, Tryz.ntmps54
 go_wp2_with fail
 obtain ⟨b0, e0⟩ : ∃ b, w.heap.size = b := ⟨_, rfl⟩
 obtain ⟨w1, e1⟩ : ∃ W, w.alloc (.cells #[.int .u8 k, .int .u64 a, .int .u64 b, .string s] 37) = W := ⟨_, rfl⟩
 rw [e1] at bO hal ⊢
 rw [e0] at bO ⊢
 have HB0 := Aside0.mk hal
 clear e1 e0 hal
 refine start_ (n := 8) (S := fun w' => Blk w' b0 #[.int .u8 k, .int .u64 a, .int .u64 b, .string s] 37) (ds := []) #[ff,ff,ff,ff,ff,ff,ff,ff] (by kernel_rfl) rfl rfl bO (fun hS => ?_)
 replace HB0 := Aside0.mk (below_drew HB0.out)
 generalize w1.drew = wd1 at HB0 hS ⊢
 clear bO
 refine pure_ (i := 0) (N := some 3) (v := ?_) (a' := ?_) #[tt,ff,ff,ff,ff,ff,ff,ff] rfl rfl (by kernel_rfl) (fun _ _ _ h => h) (Or.inl ⟨by rfl, ?_⟩) ?_ ?_
 rotate_left
 ·intro w'
  go_simp
  with_reducible rfl
 rotate_left
 ·simp only [Act.put, List.setIfInBounds_toArray, List.set_cons_zero, List.set_cons_succ, i64_w, i32_w]
  rfl
 refine take_ (i := 1) (N := some 4) (v := .int .u64 a) #[tt,tt,ff,ff,ff,ff,ff,ff] rfl rfl (by kernel_rfl) (fun _ _ _ h => h) (Or.inl ⟨by rfl, ?_⟩) hS rfl ?_
 ·rintro w' h0
  obtain ⟨e0, e1, e2, e3⟩ := h0.c4
  go_simp
 refine norm_ (a' := ?_) ?_ ?_
 rotate_left
 ·try simp only [Act.put, putAll, List.setIfInBounds_toArray, List.set_cons_zero, List.set_cons_succ]
  rfl
 refine pure_ (i := 3) (N := some 6) (v := ?_) (a' := ?_) #[tt,tt,ff,tt,ff,ff,ff,ff] rfl rfl (by kernel_rfl) (fun _ _ _ h => h) (Or.inl ⟨by rfl, ?_⟩) ?_ ?_
 rotate_left
 ·intro w'
  go_simp
  with_reducible rfl
 rotate_left
 ·simp only [Act.put, List.setIfInBounds_toArray, List.set_cons_zero, List.set_cons_succ, i64_w, i32_w]
  rfl
 refine take_ (i := 4) (N := some 7) (v := .int .u64 b) #[tt,tt,ff,tt,tt,ff,ff,ff] rfl rfl (by kernel_rfl) (fun _ _ _ h => h) (Or.inl ⟨by rfl, ?_⟩) hS rfl ?_
 ·rintro w' h0
  obtain ⟨e0, e1, e2, e3⟩ := h0.c4
  go_simp
 refine norm_ (a' := ?_) ?_ ?_
 rotate_left
 ·try simp only [Act.put, putAll, List.setIfInBounds_toArray, List.set_cons_zero, List.set_cons_succ]
  rfl
 refine one_ (i := 2) (N := some 5) #[tt,tt,tt,tt,tt,ff,ff,ff] rfl rfl (by kernel_rfl) (by decide) (fun K hK => ?_)
 refine goes_ Tryz.func18 (by kernel_rfl) rfl #[.int .u8 5, .int .u64 a] (by rfl) rfl rfl (by (try simp only [List.map_toArray, List.map_cons, List.map_nil]); first | done | rfl) ?_
 refine (number23_any 5 a _).mono ?_
 rintro e wk2 ⟨rfl, hb2⟩
 refine ⟨_, rfl, ?_⟩
 have hS2 : Blk wk2 b0 #[.int .u8 k, .int .u64 a, .int .u64 b, .string s] 37 := hS.below hb2
 have HB02 := Aside0.mk (below_step HB0.out hb2)
 refine hK.out _ _ hS2 (fun _ => ?_)
 clear hK K hb2
 refine norm_ (a' := ?_) ?_ ?_
 rotate_left
 ·try simp only [Act.put, putAll, List.setIfInBounds_toArray, List.set_cons_zero, List.set_cons_succ]
  rfl
 refine one_ (i := 5) (N := some 8) #[tt,tt,tt,tt,tt,tt,ff,ff] rfl rfl (by kernel_rfl) (by decide) (fun K hK => ?_)
 refine goes_ Tryz.func18 (by kernel_rfl) rfl #[.int .u8 6, .int .u64 b] (by rfl) rfl rfl (by (try simp only [List.map_toArray, List.map_cons, List.map_nil]); first | done | rfl) ?_
 refine (number23_any 6 b _).mono ?_
 rintro e wk3 ⟨rfl, hb3⟩
 refine ⟨_, rfl, ?_⟩
 have hS3 : Blk wk3 b0 #[.int .u8 k, .int .u64 a, .int .u64 b, .string s] 37 := hS2.below hb3
 have HB03 := Aside0.mk (below_step HB02.out hb3)
 refine hK.out _ _ hS3 (fun _ => ?_)
 clear hK K hb3 hS2
 refine norm_ (a' := ?_) ?_ ?_
 rotate_left
 ·try simp only [Act.put, putAll, List.setIfInBounds_toArray, List.set_cons_zero, List.set_cons_succ]
  rfl
 have bL := Blk.new wk3 (flatK [⟨numV 5 a, none, 0⟩, ⟨numV 6 b, none, 0⟩]).toArray 25
 have hCL := C_lit (ks := [⟨numV 5 a, none, 0⟩, ⟨numV 6 b, none, 0⟩]) bL (by simp) (by
  intro q hq
  simp only [List.mem_cons, List.not_mem_nil, or_false] at hq
  rcases hq with rfl | rfl <;> exact ⟨C_none _, Nat.le_refl _⟩)
 refine one_ (i := 6) (N := some 9) #[tt,tt,tt,tt,tt,tt,tt,ff] rfl rfl (by kernel_rfl) (by decide) (fun K hK => ?_)
 rw [if_pos (by rfl)]
 unfold Oper.wp
 go_simp
 refine hK.out _ _ (hS3.alloc _) (fun _ => ?_)
 clear hK K
 refine norm_ (a' := ?_) ?_ ?_
 rotate_left
 ·try simp only [Act.put, putAll, List.setIfInBounds_toArray, List.set_cons_zero, List.set_cons_succ]
  rfl
 refine pure_ (i := 7) (N := some 2) (v := ?_) (a' := ?_) #[tt,tt,tt,tt,tt,tt,tt,tt] rfl rfl (by kernel_rfl) (fun _ _ _ h => h) (Or.inl ⟨by rfl, ?_⟩) ?_ ?_
 rotate_left
 ·intro w'
  go_simp
  with_reducible rfl
 rotate_left
 ·simp only [Act.put, List.setIfInBounds_toArray, List.set_cons_zero, List.set_cons_succ, i64_w, i32_w]
  rfl
 refine done_ (by kernel_rfl) ?_
 go_wp2_with fail
 go_ret
 exact ⟨_, 2, rfl, Nat.le_refl _, hCL, below_alloc HB03.out _⟩
theorem puts113_any (k a b : Int) (s : ByteArray) (w : World) : Calls Tryz.prog 62 #[.agg #[.int .u8 k, .int .u64 a, .int .u64 b, .string s]] w (ListPost [truthV a, truthV b] w) := by
 have hal := below_alloc (Below.refl w.heap.size w) (.cells #[.int .u8 k, .int .u64 a, .int .u64 b, .string s] 37)
 have bO := Blk.new w #[.int .u8 k, .int .u64 a, .int .u64 b, .string s] 37
 go_enter Tryz.func62, Tryz.ntmps62
 go_wp2_with fail
 obtain ⟨b0, e0⟩ : ∃ b, w.heap.size = b := ⟨_, rfl⟩
 obtain ⟨w1, e1⟩ : ∃ W, w.alloc (.cells #[.int .u8 k, .int .u64 a, .int .u64 b, .string s] 37) = W := ⟨_, rfl⟩
 rw [e1] at bO hal ⊢
 rw [e0] at bO ⊢
 have HB0 := Aside0.mk hal
 clear e1 e0 hal
 refine start_ (n := 8) (S := fun w' => Blk w' b0 #[.int .u8 k, .int .u64 a, .int .u64 b, .string s] 37) (ds := []) #[ff,ff,ff,ff,ff,ff,ff,ff] (by kernel_rfl) rfl rfl bO (fun hS => ?_)
 replace HB0 := Aside0.mk (below_drew HB0.out)
 generalize w1.drew = wd4 at HB0 hS ⊢
 clear bO
 refine pure_ (i := 0) (N := some 3) (v := ?_) (a' := ?_) #[tt,ff,ff,ff,ff,ff,ff,ff] rfl rfl (by kernel_rfl) (fun _ _ _ h => h) (Or.inl ⟨by rfl, ?_⟩) ?_ ?_
 rotate_left
 ·intro w'
  go_simp
  with_reducible rfl
 rotate_left
 ·simp only [Act.put, List.setIfInBounds_toArray, List.set_cons_zero, List.set_cons_succ, i64_w, i32_w]
  rfl
 refine take_ (i := 1) (N := some 4) (v := .int .u64 a) #[tt,tt,ff,ff,ff,ff,ff,ff] rfl rfl (by kernel_rfl) (fun _ _ _ h => h) (Or.inl ⟨by rfl, ?_⟩) hS rfl ?_
 ·rintro w' h0
  obtain ⟨e0, e1, e2, e3⟩ := h0.c4
  go_simp
 refine norm_ (a' := ?_) ?_ ?_
 rotate_left
 ·try simp only [Act.put, putAll, List.setIfInBounds_toArray, List.set_cons_zero, List.set_cons_succ]
  rfl
 refine pure_ (i := 3) (N := some 6) (v := ?_) (a' := ?_) #[tt,tt,ff,tt,ff,ff,ff,ff] rfl rfl (by kernel_rfl) (fun _ _ _ h => h) (Or.inl ⟨by rfl, ?_⟩) ?_ ?_
 rotate_left
 ·intro w'
  go_simp
  with_reducible rfl
 rotate_left
 ·simp only [Act.put, List.setIfInBounds_toArray, List.set_cons_zero, List.set_cons_succ, i64_w, i32_w]
  rfl
 refine take_ (i := 4) (N := some 7) (v := .int .u64 b) #[tt,tt,ff,tt,tt,ff,ff,ff] rfl rfl (by kernel_rfl) (fun _ _ _ h => h) (Or.inl ⟨by rfl, ?_⟩) hS rfl ?_
 ·rintro w' h0
  obtain ⟨e0, e1, e2, e3⟩ := h0.c4
  go_simp
 refine norm_ (a' := ?_) ?_ ?_
 rotate_left
 ·try simp only [Act.put, putAll, List.setIfInBounds_toArray, List.set_cons_zero, List.set_cons_succ]
  rfl
 refine one_ (i := 2) (N := some 5) #[tt,tt,tt,tt,tt,ff,ff,ff] rfl rfl (by kernel_rfl) (by decide) (fun K hK => ?_)
 refine goes_ Tryz.func63 (by kernel_rfl) rfl #[.int .u64 a] (by rfl) rfl rfl (by (try simp only [List.map_toArray, List.map_cons, List.map_nil]); first | done | rfl) ?_
 refine (truth114_any a _).mono ?_
 rintro e wk5 ⟨rfl, hb5⟩
 refine ⟨_, rfl, ?_⟩
 have hS5 : Blk wk5 b0 #[.int .u8 k, .int .u64 a, .int .u64 b, .string s] 37 := hS.below hb5
 have HB05 := Aside0.mk (below_step HB0.out hb5)
 refine hK.out _ _ hS5 (fun _ => ?_)
 clear hK K hb5
 refine norm_ (a' := ?_) ?_ ?_
 rotate_left
 ·try simp only [Act.put, putAll, List.setIfInBounds_toArray, List.set_cons_zero, List.set_cons_succ]
  rfl
 refine one_ (i := 5) (N := some 8) #[tt,tt,tt,tt,tt,tt,ff,ff] rfl rfl (by kernel_rfl) (by decide) (fun K hK => ?_)
 refine goes_ Tryz.func63 (by kernel_rfl) rfl #[.int .u64 b] (by rfl) rfl rfl (by (try simp only [List.map_toArray, List.map_cons, List.map_nil]); first | done | rfl) ?_
 refine (truth114_any b _).mono ?_
 rintro e wk6 ⟨rfl, hb6⟩
 refine ⟨_, rfl, ?_⟩
 have hS6 : Blk wk6 b0 #[.int .u8 k, .int .u64 a, .int .u64 b, .string s] 37 := hS5.below hb6
 have HB06 := Aside0.mk (below_step HB05.out hb6)
 refine hK.out _ _ hS6 (fun _ => ?_)
 clear hK K hb6 hS5
 refine norm_ (a' := ?_) ?_ ?_
 rotate_left
 ·try simp only [Act.put, putAll, List.setIfInBounds_toArray, List.set_cons_zero, List.set_cons_succ]
  rfl
 have bL := Blk.new wk6 (flatK [⟨truthV a, none, 0⟩, ⟨truthV b, none, 0⟩]).toArray 25
 have hCL := C_lit (ks := [⟨truthV a, none, 0⟩, ⟨truthV b, none, 0⟩]) bL (by simp) (by
  intro q hq
  simp only [List.mem_cons, List.not_mem_nil, or_false] at hq
  rcases hq with rfl | rfl <;> exact ⟨by rw [show ∀ n, (truthV n).f3 = [] from truth_kids]; exact C_none _, by rw [show ∀ n, (truthV n).f3 = [] from truth_kids]; exact Nat.le_refl _⟩)
 rw [show (flatK [⟨truthV a, none, 0⟩, ⟨truthV b, none, 0⟩]).toArray = #[.int .u8 (truthV a).f0, .int .u64 (truthV a).f1, .string ⟨#[]⟩, .slice none 0 0, .int .u8 (truthV b).f0, .int .u64 (truthV b).f1, .string ⟨#[]⟩, .slice none 0 0] by simp [flatK, KV.cells, truth_text, truth_kids]] at hCL
 refine one_ (i := 6) (N := some 9) #[tt,tt,tt,tt,tt,tt,tt,ff] rfl rfl (by kernel_rfl) (by decide) (fun K hK => ?_)
 rw [if_pos (by rfl)]
 unfold Oper.wp
 go_simp
 refine hK.out _ _ (hS6.alloc _) (fun _ => ?_)
 clear hK K
 refine norm_ (a' := ?_) ?_ ?_
 rotate_left
 ·try simp only [Act.put, putAll, List.setIfInBounds_toArray, List.set_cons_zero, List.set_cons_succ]
  rfl
 refine pure_ (i := 7) (N := some 2) (v := ?_) (a' := ?_) #[tt,tt,tt,tt,tt,tt,tt,tt] rfl rfl (by kernel_rfl) (fun _ _ _ h => h) (Or.inl ⟨by rfl, ?_⟩) ?_ ?_
 rotate_left
 ·intro w'
  go_simp
  with_reducible rfl
 rotate_left
 ·simp only [Act.put, List.setIfInBounds_toArray, List.set_cons_zero, List.set_cons_succ, i64_w, i32_w]
  rfl
 refine done_ (by kernel_rfl) ?_
 go_wp2_with fail
 go_ret
 exact ⟨_, 2, rfl, Nat.le_refl _, hCL, below_alloc HB06.out _⟩
theorem puts111_any (k a b : Int) (s : ByteArray) (hs : s.size ≤ 4294967290) (h : asciiB (bytesOf s) = true) (w : World) : Calls Tryz.prog 59 #[.agg #[.int .u8 k, .int .u64 a, .int .u64 b, .string s]] w (ListPost [condV s] w) := by
 have HH := Aside0.mk h
 clear h
 have hal := below_alloc (Below.refl w.heap.size w) (.cells #[.int .u8 k, .int .u64 a, .int .u64 b, .string s] 37)
 have bO := Blk.new w #[.int .u8 k, .int .u64 a, .int .u64 b, .string s] 37
 go_enter Tryz.func59, Tryz.ntmps59
 go_upto_region 1 with fail
 obtain ⟨b0, e0⟩ : ∃ b, w.heap.size = b := ⟨_, rfl⟩
 obtain ⟨w1, e1⟩ : ∃ W, w.alloc (.cells #[.int .u8 k, .int .u64 a, .int .u64 b, .string s] 37) = W := ⟨_, rfl⟩
 rw [e1] at bO hal ⊢
 rw [e0] at bO ⊢
 have HB0 := Aside0.mk hal
 clear e1 e0 hal
 obtain ⟨p0, p1, p2, p3⟩ := bO.c4
 go_wp2_with fail
 refine (put54_yes s hs HH.out _).mono ?_
 rintro e w2 ⟨A2, c2, rfl, hR2, hb2⟩
 have HC2 := Aside0.mk (Kd.R_reads' hR2).2
 have HB2 := Aside0.mk (below_step HB0.out hb2)
 clear p0 p1 p2 p3 bO hR2 hb2
 obtain ⟨v, ev⟩ : ∃ v, condV s = v := ⟨_, rfl⟩
 have EV := Aside0.mk ev
 rw [ev] at HC2 ⊢
 clear ev
 go_wp2_with fail
 have hal := below_alloc (Below.refl w2.heap.size w2) (.cells #[.int .u8 v.f0, .int .u64 v.f1, .string v.f2, .slice A2 v.f3.length c2] 25)
 have hal2 := below_alloc hal (.cells #[.int .u8 v.f0, .int .u64 v.f1, .string v.f2, .slice A2 v.f3.length c2] 25)
 have bL := Blk.new (w2.alloc (.cells #[.int .u8 v.f0, .int .u64 v.f1, .string v.f2, .slice A2 v.f3.length c2] 25)) (flatK [⟨v, A2, c2⟩]).toArray 25
 have hCL := C_lit (ks := [⟨v, A2, c2⟩]) bL (by simp) (by
  intro q hq
  simp only [List.mem_cons, List.not_mem_nil, or_false] at hq
  rcases hq with rfl
  exact ⟨Kd.C_below HC2.out.2 hal2, HC2.out.1⟩)
 rw [World.size_alloc] at hCL
 go_ret
 exact ⟨_, 1, rfl, Nat.le_refl _, by rw [EV.out]; exact hCL, below_step HB2.out hal2⟩
end Go.Proofs.YtdilbnggedidnaaGreat.PVal
namespace Go.Proofs.YtdilbnggedidnaaGreat.PVal
open Go.RowKit Go.Shelf Go.Proofs.YtdilbnggedidnaaGreatW.PrintWords Go.Proofs.YtdilbnggedidnaaGreatW.PrintLast
set_option linter.unusedVariables false
set_option linter.unusedSimpArgs false
theorem Blk.six {W : World} {b : Nat} {a0 a1 a2 a3 a4 a5 : Value} {t : TypeId} (h : Blk W b #[a0, a1, a2, a3, a4, a5] t) : W.cell? ⟨b, 0, none⟩ = some a0 ∧ W.cell? ⟨b, 1, none⟩ = some a1 ∧ W.cell? ⟨b, 2, none⟩ = some a2 ∧ W.cell? ⟨b, 3, none⟩ = some a3 ∧ W.cell? ⟨b, 4, none⟩ = some a4 ∧ W.cell? ⟨b, 5, none⟩ = some a5 :=
 ⟨(blk_cell h 0).trans rfl, (blk_cell h 1).trans rfl, (blk_cell h 2).trans rfl, (blk_cell h 3).trans rfl, (blk_cell h 4).trans rfl, (blk_cell h 5).trans rfl⟩
theorem results52 (tmps : Array Value) (w : World) (g : Nat) (cs : Array Value) (n : Int) (hcs : cs.size = 4) (hp : tmps.getD 2 undef = .pointer (some ⟨g, 0, none⟩)) (hg : Blk w g cs 25) (hb : tmps.getD 3 undef = .int .i64 n) :
  (results Tryz.f17 tmps).run Tryz.prog w = .ok (.tuple #[.agg cs, .int .i64 n]) w := by
 have h1 : tmps[2]?.getD undef = .pointer (some ⟨g, 0, none⟩) := by simpa using hp
 have h2 : tmps[3]?.getD undef = .int .i64 n := by simpa using hb
 have hi : (Tryz.prog.info? 25).map (·.size) = some cs.size := by rw [hcs]; kernel_rfl
 have hr := run_loadVar_row (P := Tryz.prog) w g 25 25 cs (0, 0) _ hg Tryz.underlying25 rfl hi
 simp [results, Tryz.f17, h1, h2, asAddr, hr]
theorem goesV_ {P : Program} {ops : Array Oper} {Q : Exit → Act → World → Prop} {oi : Oper} {N : Option Tmp} {a : Act} {w : World} {K : Act → World → Prop} {f : FuncId} {fn : Func} {s : Operand} {asg : Array Operand} {ts : Array TypeId} (hf : P.funcs[f]? = some fn) (hname : (fn.name == "runtime.NumGoroutine") = false) (hb : fn.body.isSome = true) (args : Array Value)
  (hw : Region.wanted oi (yielded ops a.tmps) = true) (hN : oi.dst = N) (hop : oi.op = .call { callee := .value s, args := asg, argTypes := ts }) (hs : a.eval s = .func (.func f) #[] #[]) (hargs : asg.map a.eval = args)
  (h : Calls P f args w fun e w' => ∃ v, e = .returned v ∧ K (a.put N v) w') : if Region.wanted oi (yielded ops a.tmps) = true then Oper.wp P oi a w K Q else K (a.put N undef) w := by
 refine call_ f args hw hN ?_ h
 have he := enters_ hf hname hb args w
 unfold execOp
 simp [hop, resolve, Deferred.ofValue, invoke, hs, hargs, he]
theorem cond_items (s : ByteArray) : itemsL [condV s] ≤ 10 := by
 unfold condV
 split
 ·simp [itemsL, vNul, itemsN]
 ·have := itemsL_trim [symV s]
  have e : itemsL [symV s] = 1 := by simp [itemsL, symV, itemsN]
  rw [e] at this
  unfold putV
  simp only [itemsL, itemsN]
  omega
theorem truth_items (n : Int) : itemsN (truthV n) = 1 := by unfold truthV; split <;> rfl
def PutS (w : World) (k a b : Int) (s : ByteArray) (b0 b1 bF : Nat) (wr : World) : Prop := Blk wr b0 #[.int .u8 k, .int .u64 a, .int .u64 b, .string s] 37 ∧ Blk wr b1 #[.int .u8 0, .int .u64 0, .string ⟨#[]⟩, .slice none 0 0] 25 ∧ Blk wr bF formC 64 ∧ Below w.heap.size w wr
theorem PutS.alloc {w : World} {k a b : Int} {s : ByteArray} {b0 b1 bF : Nat} {wr : World} (h : PutS w k a b s b0 b1 bF wr) (o : Obj) : PutS w k a b s b0 b1 bF (wr.alloc o) := ⟨h.1.alloc o, h.2.1.alloc o, h.2.2.1.alloc o, below_alloc h.2.2.2 o⟩
theorem put52_no (k a b : Int) (s : ByteArray) (hs : s.size ≤ 4294967290) (h : mayO ⟨k, a, b, s⟩ = false) (w : World) : Calls Tryz.prog 17 #[.agg #[.int .u8 k, .int .u64 a, .int .u64 b, .string s]] w (ValErr zVal 1 w) := by
 have HM := Aside0.mk h
 clear h
 have hal := below_alloc (below_alloc (Below.refl w.heap.size w) (.cells #[.int .u8 k, .int .u64 a, .int .u64 b, .string s] 37)) (.cells #[.int .u8 0, .int .u64 0, .string ⟨#[]⟩, .slice none 0 0] 25)
 have bO := (Blk.new w #[.int .u8 k, .int .u64 a, .int .u64 b, .string s] 37).alloc (.cells #[.int .u8 0, .int .u64 0, .string ⟨#[]⟩, .slice none 0 0] 25)
 have bR := Blk.new (w.alloc (.cells #[.int .u8 k, .int .u64 a, .int .u64 b, .string s] 37)) #[.int .u8 0, .int .u64 0, .string ⟨#[]⟩, .slice none 0 0] 25
 rw [World.size_alloc] at bR
 go_enter Tryz.func17, Tryz.ntmps17
 go_upto_region 1 with fail
 obtain ⟨w1, e1⟩ : ∃ W, (w.alloc (.cells #[.int .u8 k, .int .u64 a, .int .u64 b, .string s] 37)).alloc (.cells #[.int .u8 0, .int .u64 0, .string ⟨#[]⟩, .slice none 0 0] 25) = W := ⟨_, rfl⟩
 rw [e1] at bO bR hal ⊢
 clear e1
 have HB1 := Aside0.mk hal
 have BR1 := Aside0.mk bR
 have BO1 := Aside0.mk bO
 clear hal bR
 obtain ⟨p0, p1, p2, p3⟩ := bO.c4
 clear bO
 go_wp2_with fail
 refine (may84_any k a b s hs _).mono ?_
 rintro e w2 ⟨he, hb2⟩
 rw [HM.out] at he
 subst he
 have HB2 := Aside0.mk (below_step HB1.out hb2)
 have BR2 := Aside0.mk (BR1.out.below hb2)
 have BO2 := Aside0.mk (BO1.out.below hb2)
 clear hb2 p0 p1 p2 p3 BR1 BO1 HB1
 have bR2 := BR2.out
 obtain ⟨q0, q1, q2, q3⟩ := bR2.c4
 have f2 := bR2.fz
 clear bR2
 go_wp2_with fail
 refine bodyPost_ret (results52 _ _ (w.heap.size + 1) #[.int .u8 0, .int .u64 0, .string ⟨#[]⟩, .slice none 0 0] 1 rfl rfl (put4_blk BR2.out _ _ _ _) rfl) rfl ?_
 exact ⟨none, 0, rfl, Kd.R_nil _ _ _ _ _, put4_below HB2.out (by omega) _ _ _ _⟩
theorem put52_yes (k a b : Int) (s : ByteArray) (hs : s.size ≤ 4294967290) (h : mayO ⟨k, a, b, s⟩ = true) (w : World) : Calls Tryz.prog 17 #[.agg #[.int .u8 k, .int .u64 a, .int .u64 b, .string s]] w (ValErr (putOV ⟨k, a, b, s⟩) 0 w) := by
 have HASC := Aside0.mk (mayO_cases h).1
 have hk5 : 0 ≤ k ∧ k ≤ 5 := by have := (mayO_cases h).2.2; simp only at this; omega
 have HM := Aside0.mk h
 clear h
 have hal := below_alloc (below_alloc (Below.refl w.heap.size w) (.cells #[.int .u8 k, .int .u64 a, .int .u64 b, .string s] 37)) (.cells #[.int .u8 0, .int .u64 0, .string ⟨#[]⟩, .slice none 0 0] 25)
 have bO := (Blk.new w #[.int .u8 k, .int .u64 a, .int .u64 b, .string s] 37).alloc (.cells #[.int .u8 0, .int .u64 0, .string ⟨#[]⟩, .slice none 0 0] 25)
 have bR := Blk.new (w.alloc (.cells #[.int .u8 k, .int .u64 a, .int .u64 b, .string s] 37)) #[.int .u8 0, .int .u64 0, .string ⟨#[]⟩, .slice none 0 0] 25
 rw [World.size_alloc] at bR
 go_enter Tryz.func17, Tryz.ntmps17
 go_upto_region 1 with fail
 obtain ⟨w1, e1⟩ : ∃ W, (w.alloc (.cells #[.int .u8 k, .int .u64 a, .int .u64 b, .string s] 37)).alloc (.cells #[.int .u8 0, .int .u64 0, .string ⟨#[]⟩, .slice none 0 0] 25) = W := ⟨_, rfl⟩
 rw [e1] at bO bR hal ⊢
 clear e1
 have HB1 := Aside0.mk hal
 have BR1 := Aside0.mk bR
 have BO1 := Aside0.mk bO
 clear hal bR
 obtain ⟨p0, p1, p2, p3⟩ := bO.c4
 clear bO
 go_wp2_with fail
 refine (may84_any k a b s hs _).mono ?_
 rintro e w2 ⟨he, hb2⟩
 rw [HM.out] at he
 subst he
 have HB2 := Aside0.mk (below_step HB1.out hb2)
 have BR2 := Aside0.mk (BR1.out.below hb2)
 have BO2 := Aside0.mk (BO1.out.below hb2)
 clear hb2 p0 p1 p2 p3 BR1 BO1 HB1
 go_wp2_with fail
 refine (forms85_any _).mono ?_
 rintro e w3 ⟨rfl, hw3⟩
 obtain ⟨bF, ebF⟩ : ∃ b, w2.heap.size = b := ⟨_, rfl⟩
 have HS3 : Aside0 (PutS w k a b s w.heap.size (w.heap.size + 1) bF w3) := ⟨by
  rw [hw3, ← ebF]
  exact ⟨BO2.out.alloc _, BR2.out.alloc _, Blk.new w2 formC 64, below_alloc HB2.out _⟩⟩
 rw [ebF]
 clear ebF hw3 BO2 BR2 HB2
 obtain ⟨b0, eb0⟩ : ∃ b, w.heap.size = b := ⟨_, rfl⟩
 obtain ⟨b1, eb1⟩ : ∃ b, w.heap.size + 1 = b := ⟨_, rfl⟩
 rw [eb1, eb0] at HS3 ⊢
 have hw0 : w.heap.size ≤ b0 ∧ w.heap.size ≤ b1 := by omega
 clear eb0 eb1
 go_wp2_with fail
 go_loopg [5, 12] 5 (fun gk v5 v12 wr => ∃ i : Int, v12 = .int .i64 i ∧ Aside0 (0 ≤ i ∧ i ≤ 5 ∧ (k = 0 ∨ i < k) ∧ gk = (5 - i).toNat) ∧ Aside0 (PutS w k a b s b0 b1 bF wr))
 case atStart => exact ⟨0, rfl, ⟨by omega, by omega, by omega, rfl⟩, HS3⟩
 case round =>
  obtain ⟨i, rfl, HI, HSi⟩ := hrel
  obtain ⟨hi0, hi5, hik, hgk⟩ := HI.out
  have HG := Aside0.mk hgk
  clear HI hgk
  by_cases hi : i = 0
  ·subst hi
   have x0 : wr.cell? ⟨bF, 0, none⟩ = some (.int .u8 1) := (blk_cell HSi.out.2.2.1 0).trans rfl
   have x1 : wr.cell? ⟨bF, 1, none⟩ = some (.int .u64 35) := (blk_cell HSi.out.2.2.1 1).trans rfl
   have x2 : wr.cell? ⟨bF, 2, none⟩ = some (.string nmO1) := (blk_cell HSi.out.2.2.1 2).trans rfl
   have x3 : wr.cell? ⟨bF, 3, none⟩ = some (.int .i64 2) := (blk_cell HSi.out.2.2.1 3).trans rfl
   have x4 : wr.cell? ⟨bF, 4, none⟩ = some (.func (.func 54) #[] #[]) := (blk_cell HSi.out.2.2.1 4).trans rfl
   have x5 : wr.cell? ⟨bF, 5, none⟩ = some (.func (.func 55) #[] #[]) := (blk_cell HSi.out.2.2.1 5).trans rfl
   have HSx := Aside0.mk (HSi.out.alloc (.cells #[.int .u8 1, .int .u64 35, .string nmO1, .int .i64 2, .func (.func 54) #[] #[], .func (.func 55) #[] #[]] 64))
   have bX := Blk.new wr #[.int .u8 1, .int .u64 35, .string nmO1, .int .i64 2, .func (.func 54) #[] #[], .func (.func 55) #[] #[]] 64
   go_upto_region 6 with fail
   obtain ⟨bx, ex⟩ : ∃ b, wr.heap.size = b := ⟨_, rfl⟩
   obtain ⟨wx, ew⟩ : ∃ W, wr.alloc (.cells #[.int .u8 1, .int .u64 35, .string nmO1, .int .i64 2, .func (.func 54) #[] #[], .func (.func 55) #[] #[]] 64) = W := ⟨_, rfl⟩
   rw [ew] at HSx bX ⊢
   rw [ex] at bX ⊢
   clear ex ew x0 x1 x2 x3 x4 x5
   have bO := HSx.out.1
   obtain ⟨y0, y1, y2, y3, y4, y5⟩ := bX.six
   obtain ⟨p0, p1, p2, p3⟩ := bO.c4
   by_cases hk : k = 1
   ·subst hk
    clear p0 p1 p2 p3 y0 y1 y2 y3 y4 y5
    obtain ⟨y0, y1, y2, y3, y4, y5⟩ := bX.six
    obtain ⟨p0, p1, p2, p3⟩ := bO.c4
    go_upto_region 7 with fail
    clear p0 p1 p2 p3 y0 y1 y2 y3 y4 y5
    have bR := HSx.out.2.1
    have HBx := Aside0.mk HSx.out.2.2.2
    clear HSx HSi HS3
    refine start_ (n := 9) (S := fun w' => Blk w' bx #[.int .u8 1, .int .u64 35, .string nmO1, .int .i64 2, .func (.func 54) #[] #[], .func (.func 55) #[] #[]] 64 ∧ Blk w' b0 #[.int .u8 1, .int .u64 a, .int .u64 b, .string s] 37 ∧ Blk w' b1 #[.int .u8 0, .int .u64 0, .string ⟨#[]⟩, .slice none 0 0] 25) (ds := [7]) #[ff,ff,ff,ff,ff,ff,ff,ff,ff] (by kernel_rfl) rfl rfl ⟨bX, bO, bR⟩ (fun hS => ?_)
    replace HBx := Aside0.mk (below_drew HBx.out)
    generalize wx.drew = wd1 at HBx hS ⊢
    clear bX bO bR
    refine pure_ (i := 0) (N := some 21) (v := ?_) (a' := ?_) #[tt,ff,ff,ff,ff,ff,ff,ff,ff] rfl rfl (by kernel_rfl) (fun _ _ _ h => h) (Or.inl ⟨by rfl, ?_⟩) ?_ ?_
    rotate_left
    ·intro w'
     go_simp
     with_reducible rfl
    rotate_left
    ·simp only [Act.put, List.setIfInBounds_toArray, List.set_cons_zero, List.set_cons_succ, i64_w, i32_w]
     rfl
    refine take_ (i := 1) (N := some 22) (v := .int .u64 35) #[tt,tt,ff,ff,ff,ff,ff,ff,ff] rfl rfl (by kernel_rfl) (fun _ _ _ h => h) (Or.inl ⟨by rfl, ?_⟩) hS rfl ?_
    ·rintro w' ⟨h0, h1, h2⟩
     obtain ⟨e0, e1, e2, e3, e4, e5⟩ := h0.six
     go_simp
    refine norm_ (a' := ?_) ?_ ?_
    rotate_left
    ·try simp only [Act.put, putAll, List.setIfInBounds_toArray, List.set_cons_zero, List.set_cons_succ]
     rfl
    refine pure_ (i := 2) (N := some 23) (v := ?_) (a' := ?_) #[tt,tt,tt,ff,ff,ff,ff,ff,ff] rfl rfl (by kernel_rfl) (fun _ _ _ h => h) (Or.inl ⟨by rfl, ?_⟩) ?_ ?_
    rotate_left
    ·intro w'
     go_simp
     with_reducible rfl
    rotate_left
    ·simp only [Act.put, List.setIfInBounds_toArray, List.set_cons_zero, List.set_cons_succ, i64_w, i32_w]
     rfl
    refine take_ (i := 3) (N := some 24) (v := .func (.func 54) #[] #[]) #[tt,tt,tt,tt,ff,ff,ff,ff,ff] rfl rfl (by kernel_rfl) (fun _ _ _ h => h) (Or.inl ⟨by rfl, ?_⟩) hS rfl ?_
    ·rintro w' ⟨h0, h1, h2⟩
     obtain ⟨e0, e1, e2, e3, e4, e5⟩ := h0.six
     go_simp
    refine norm_ (a' := ?_) ?_ ?_
    rotate_left
    ·try simp only [Act.put, putAll, List.setIfInBounds_toArray, List.set_cons_zero, List.set_cons_succ]
     rfl
    refine take_ (i := 4) (N := some 25) (v := .agg #[.int .u8 1, .int .u64 a, .int .u64 b, .string s]) #[tt,tt,tt,tt,tt,ff,ff,ff,ff] rfl rfl (by kernel_rfl) (fun _ _ _ h => h) (Or.inl ⟨by rfl, ?_⟩) hS rfl ?_
    ·rintro w' ⟨h0, h1, h2⟩
     obtain ⟨e0, e1, e2, e3⟩ := h1.c4
     go_simp
    refine norm_ (a' := ?_) ?_ ?_
    rotate_left
    ·try simp only [Act.put, putAll, List.setIfInBounds_toArray, List.set_cons_zero, List.set_cons_succ]
     rfl
    refine one_ (i := 5) (N := some 26) #[tt,tt,tt,tt,tt,tt,ff,ff,ff] rfl rfl (by kernel_rfl) (by decide) (fun K hK => ?_)
    refine goesV_ Tryz.func54 (by kernel_rfl) rfl #[.agg #[.int .u8 1, .int .u64 a, .int .u64 b, .string s]] (by rfl) rfl rfl (by rfl) (by (try simp only [List.map_toArray, List.map_cons, List.map_nil]); first | done | rfl) ?_
    refine (puts107_any 1 a b s _).mono ?_
    rintro e wk2 ⟨A2, c2, rfl, hl2, hC2, hb2⟩
    refine ⟨_, rfl, ?_⟩
    have hS2 : Blk wk2 bx #[.int .u8 1, .int .u64 35, .string nmO1, .int .i64 2, .func (.func 54) #[] #[], .func (.func 55) #[] #[]] 64 ∧ Blk wk2 b0 #[.int .u8 1, .int .u64 a, .int .u64 b, .string s] 37 ∧ Blk wk2 b1 #[.int .u8 0, .int .u64 0, .string ⟨#[]⟩, .slice none 0 0] 25 := ⟨hS.1.below hb2, hS.2.1.below hb2, hS.2.2.below hb2⟩
    have HBx2 := Aside0.mk (below_step HBx.out hb2)
    have HC2 := Aside0.mk hC2
    refine hK.out _ _ hS2 (fun _ => ?_)
    clear hK K hb2 hC2 hS
    refine norm_ (a' := ?_) ?_ ?_
    rotate_left
    ·try simp only [Act.put, putAll, List.setIfInBounds_toArray, List.set_cons_zero, List.set_cons_succ]
     rfl
    refine one_ (i := 6) (N := some 27) #[tt,tt,tt,tt,tt,tt,tt,ff,ff] rfl rfl (by kernel_rfl) (by decide) (fun K hK => ?_)
    refine goes_ Tryz.func21 (by kernel_rfl) rfl #[.int .u64 35, .slice A2 [numV 5 a, numV 6 b].length c2] (by rfl) rfl rfl (by (try simp only [List.map_toArray, List.map_cons, List.map_nil]); first | done | rfl) ?_
    refine (put39_any 35 [numV 5 a, numV 6 b] (by simp [itemsL, numV, itemsN]) A2 c2 _ HC2.out hl2).mono ?_
    rintro e wk3 ⟨A3, c3, rfl, hR3, hb3⟩
    refine ⟨_, rfl, ?_⟩
    have hS3 : Blk wk3 bx #[.int .u8 1, .int .u64 35, .string nmO1, .int .i64 2, .func (.func 54) #[] #[], .func (.func 55) #[] #[]] 64 ∧ Blk wk3 b0 #[.int .u8 1, .int .u64 a, .int .u64 b, .string s] 37 ∧ Blk wk3 b1 #[.int .u8 0, .int .u64 0, .string ⟨#[]⟩, .slice none 0 0] 25 := ⟨hS2.1.below hb3, hS2.2.1.below hb3, hS2.2.2.below hb3⟩
    have HBx3 := Aside0.mk (below_step HBx2.out hb3)
    have HR3 := Aside0.mk hR3
    have hr3 := hS2.2.2.lt
    refine hK.out _ _ hS3 (fun _ => ?_)
    clear hK K hb3 hR3 hS2
    refine norm_ (a' := ?_) ?_ ?_
    rotate_left
    ·try simp only [Act.put, putAll, List.setIfInBounds_toArray, List.set_cons_zero, List.set_cons_succ]
     rfl
    refine last_ (i := 7) (N := none) #[tt,tt,tt,tt,tt,tt,tt,tt,ff] rfl rfl (by kernel_rfl) (by decide) (fun K hK => ?_)
    rw [if_pos (by rfl)]
    have BRj := Aside0.mk hS3.2.2
    obtain ⟨q0, q1, q2, q3⟩ := BRj.out.c4
    have f2 := BRj.out.fz
    clear hS3
    unfold Oper.wp
    go_simp
    refine hK.out _ _ ?_
    clear hK K
    refine norm_ (a' := ?_) ?_ ?_
    rotate_left
    ·try simp only [Act.put, putAll, List.setIfInBounds_toArray, List.set_cons_zero, List.set_cons_succ]
     rfl
    refine pure_ (i := 8) (N := some 3) (v := ?_) (a' := ?_) #[tt,tt,tt,tt,tt,tt,tt,tt,tt] rfl rfl (by kernel_rfl) (fun _ _ _ h => h) (Or.inl ⟨by rfl, ?_⟩) ?_ ?_
    rotate_left
    ·intro w'
     go_simp
     with_reducible rfl
    rotate_left
    ·simp only [Act.put, List.setIfInBounds_toArray, List.set_cons_zero, List.set_cons_succ, i64_w, i32_w]
     rfl
    refine done_ (by kernel_rfl) ?_
    go_wp2_with fail
    refine bodyPost_ret (results52 _ _ b1 #[.int .u8 25, .int .u64 0, .string ⟨#[]⟩, .slice A3 2 c3] 0 rfl rfl (put4_blk BRj.out _ _ _ _) rfl) rfl ?_
    exact ⟨A3, c3, rfl, put4_R HR3.out (by have := HBx2.out.size; omega) hr3 _ _ _ _, put4_below HBx3.out (by omega) _ _ _ _⟩
   ·have hkb : ((1 : Int) == k) = false := by simp; omega
    have HKN : Aside0 (k = 0 ∨ (1 : Int) < k) := ⟨by omega⟩
    clear hk bX bO
    go_wp2_with fail
    clear p0 p1 p2 p3 y0 y1 y2 y3 y4 y5
    go_roundg (5 - (1 : Int)).toNat
    case measure => rw [HG.out]; omega
    case rel => exact ⟨1, by go_num, ⟨by omega, by omega, HKN.out, rfl⟩, HSx⟩
  by_cases hi : i = 1
  ·subst hi
   have x0 : wr.cell? ⟨bF, 6, none⟩ = some (.int .u8 2) := (blk_cell HSi.out.2.2.1 6).trans rfl
   have x1 : wr.cell? ⟨bF, 7, none⟩ = some (.int .u64 36) := (blk_cell HSi.out.2.2.1 7).trans rfl
   have x2 : wr.cell? ⟨bF, 8, none⟩ = some (.string nmO2) := (blk_cell HSi.out.2.2.1 8).trans rfl
   have x3 : wr.cell? ⟨bF, 9, none⟩ = some (.int .i64 0) := (blk_cell HSi.out.2.2.1 9).trans rfl
   have x4 : wr.cell? ⟨bF, 10, none⟩ = some (.func (.func 57) #[] #[]) := (blk_cell HSi.out.2.2.1 10).trans rfl
   have x5 : wr.cell? ⟨bF, 11, none⟩ = some (.func (.func 58) #[] #[]) := (blk_cell HSi.out.2.2.1 11).trans rfl
   have HSx := Aside0.mk (HSi.out.alloc (.cells #[.int .u8 2, .int .u64 36, .string nmO2, .int .i64 0, .func (.func 57) #[] #[], .func (.func 58) #[] #[]] 64))
   have bX := Blk.new wr #[.int .u8 2, .int .u64 36, .string nmO2, .int .i64 0, .func (.func 57) #[] #[], .func (.func 58) #[] #[]] 64
   go_upto_region 6 with fail
   obtain ⟨bx, ex⟩ : ∃ b, wr.heap.size = b := ⟨_, rfl⟩
   obtain ⟨wx, ew⟩ : ∃ W, wr.alloc (.cells #[.int .u8 2, .int .u64 36, .string nmO2, .int .i64 0, .func (.func 57) #[] #[], .func (.func 58) #[] #[]] 64) = W := ⟨_, rfl⟩
   rw [ew] at HSx bX ⊢
   rw [ex] at bX ⊢
   clear ex ew x0 x1 x2 x3 x4 x5
   have bO := HSx.out.1
   obtain ⟨y0, y1, y2, y3, y4, y5⟩ := bX.six
   obtain ⟨p0, p1, p2, p3⟩ := bO.c4
   by_cases hk : k = 2
   ·subst hk
    clear p0 p1 p2 p3 y0 y1 y2 y3 y4 y5
    obtain ⟨y0, y1, y2, y3, y4, y5⟩ := bX.six
    obtain ⟨p0, p1, p2, p3⟩ := bO.c4
    go_upto_region 7 with fail
    clear p0 p1 p2 p3 y0 y1 y2 y3 y4 y5
    have bR := HSx.out.2.1
    have HBx := Aside0.mk HSx.out.2.2.2
    clear HSx HSi HS3
    refine start_ (n := 9) (S := fun w' => Blk w' bx #[.int .u8 2, .int .u64 36, .string nmO2, .int .i64 0, .func (.func 57) #[] #[], .func (.func 58) #[] #[]] 64 ∧ Blk w' b0 #[.int .u8 2, .int .u64 a, .int .u64 b, .string s] 37 ∧ Blk w' b1 #[.int .u8 0, .int .u64 0, .string ⟨#[]⟩, .slice none 0 0] 25) (ds := [7]) #[ff,ff,ff,ff,ff,ff,ff,ff,ff] (by kernel_rfl) rfl rfl ⟨bX, bO, bR⟩ (fun hS => ?_)
    replace HBx := Aside0.mk (below_drew HBx.out)
    generalize wx.drew = wd4 at HBx hS ⊢
    clear bX bO bR
    refine pure_ (i := 0) (N := some 21) (v := ?_) (a' := ?_) #[tt,ff,ff,ff,ff,ff,ff,ff,ff] rfl rfl (by kernel_rfl) (fun _ _ _ h => h) (Or.inl ⟨by rfl, ?_⟩) ?_ ?_
    rotate_left
    ·intro w'
     go_simp
     with_reducible rfl
    rotate_left
    ·simp only [Act.put, List.setIfInBounds_toArray, List.set_cons_zero, List.set_cons_succ, i64_w, i32_w]
     rfl
    refine take_ (i := 1) (N := some 22) (v := .int .u64 36) #[tt,tt,ff,ff,ff,ff,ff,ff,ff] rfl rfl (by kernel_rfl) (fun _ _ _ h => h) (Or.inl ⟨by rfl, ?_⟩) hS rfl ?_
    ·rintro w' ⟨h0, h1, h2⟩
     obtain ⟨e0, e1, e2, e3, e4, e5⟩ := h0.six
     go_simp
    refine norm_ (a' := ?_) ?_ ?_
    rotate_left
    ·try simp only [Act.put, putAll, List.setIfInBounds_toArray, List.set_cons_zero, List.set_cons_succ]
     rfl
    refine pure_ (i := 2) (N := some 23) (v := ?_) (a' := ?_) #[tt,tt,tt,ff,ff,ff,ff,ff,ff] rfl rfl (by kernel_rfl) (fun _ _ _ h => h) (Or.inl ⟨by rfl, ?_⟩) ?_ ?_
    rotate_left
    ·intro w'
     go_simp
     with_reducible rfl
    rotate_left
    ·simp only [Act.put, List.setIfInBounds_toArray, List.set_cons_zero, List.set_cons_succ, i64_w, i32_w]
     rfl
    refine take_ (i := 3) (N := some 24) (v := .func (.func 57) #[] #[]) #[tt,tt,tt,tt,ff,ff,ff,ff,ff] rfl rfl (by kernel_rfl) (fun _ _ _ h => h) (Or.inl ⟨by rfl, ?_⟩) hS rfl ?_
    ·rintro w' ⟨h0, h1, h2⟩
     obtain ⟨e0, e1, e2, e3, e4, e5⟩ := h0.six
     go_simp
    refine norm_ (a' := ?_) ?_ ?_
    rotate_left
    ·try simp only [Act.put, putAll, List.setIfInBounds_toArray, List.set_cons_zero, List.set_cons_succ]
     rfl
    refine take_ (i := 4) (N := some 25) (v := .agg #[.int .u8 2, .int .u64 a, .int .u64 b, .string s]) #[tt,tt,tt,tt,tt,ff,ff,ff,ff] rfl rfl (by kernel_rfl) (fun _ _ _ h => h) (Or.inl ⟨by rfl, ?_⟩) hS rfl ?_
    ·rintro w' ⟨h0, h1, h2⟩
     obtain ⟨e0, e1, e2, e3⟩ := h1.c4
     go_simp
    refine norm_ (a' := ?_) ?_ ?_
    rotate_left
    ·try simp only [Act.put, putAll, List.setIfInBounds_toArray, List.set_cons_zero, List.set_cons_succ]
     rfl
    refine one_ (i := 5) (N := some 26) #[tt,tt,tt,tt,tt,tt,ff,ff,ff] rfl rfl (by kernel_rfl) (by decide) (fun K hK => ?_)
    refine goesV_ Tryz.func57 (by kernel_rfl) rfl #[.agg #[.int .u8 2, .int .u64 a, .int .u64 b, .string s]] (by rfl) rfl rfl (by rfl) (by (try simp only [List.map_toArray, List.map_cons, List.map_nil]); first | done | rfl) ?_
    refine (nothing109_any 2 a b s _).mono ?_
    rintro e wk5 ⟨A5, c5, rfl, hl5, hC5, hb5⟩
    refine ⟨_, rfl, ?_⟩
    have hS5 : Blk wk5 bx #[.int .u8 2, .int .u64 36, .string nmO2, .int .i64 0, .func (.func 57) #[] #[], .func (.func 58) #[] #[]] 64 ∧ Blk wk5 b0 #[.int .u8 2, .int .u64 a, .int .u64 b, .string s] 37 ∧ Blk wk5 b1 #[.int .u8 0, .int .u64 0, .string ⟨#[]⟩, .slice none 0 0] 25 := ⟨hS.1.below hb5, hS.2.1.below hb5, hS.2.2.below hb5⟩
    have HBx5 := Aside0.mk (below_step HBx.out hb5)
    have HC5 := Aside0.mk hC5
    refine hK.out _ _ hS5 (fun _ => ?_)
    clear hK K hb5 hC5 hS
    refine norm_ (a' := ?_) ?_ ?_
    rotate_left
    ·try simp only [Act.put, putAll, List.setIfInBounds_toArray, List.set_cons_zero, List.set_cons_succ]
     rfl
    refine one_ (i := 6) (N := some 27) #[tt,tt,tt,tt,tt,tt,tt,ff,ff] rfl rfl (by kernel_rfl) (by decide) (fun K hK => ?_)
    refine goes_ Tryz.func21 (by kernel_rfl) rfl #[.int .u64 36, .slice A5 [].length c5] (by rfl) rfl rfl (by (try simp only [List.map_toArray, List.map_cons, List.map_nil]); first | done | rfl) ?_
    refine (put39_any 36 [] (by simp [itemsL]) A5 c5 _ HC5.out hl5).mono ?_
    rintro e wk6 ⟨A6, c6, rfl, hR6, hb6⟩
    refine ⟨_, rfl, ?_⟩
    have hS6 : Blk wk6 bx #[.int .u8 2, .int .u64 36, .string nmO2, .int .i64 0, .func (.func 57) #[] #[], .func (.func 58) #[] #[]] 64 ∧ Blk wk6 b0 #[.int .u8 2, .int .u64 a, .int .u64 b, .string s] 37 ∧ Blk wk6 b1 #[.int .u8 0, .int .u64 0, .string ⟨#[]⟩, .slice none 0 0] 25 := ⟨hS5.1.below hb6, hS5.2.1.below hb6, hS5.2.2.below hb6⟩
    have HBx6 := Aside0.mk (below_step HBx5.out hb6)
    have HR6 := Aside0.mk hR6
    have hr6 := hS5.2.2.lt
    refine hK.out _ _ hS6 (fun _ => ?_)
    clear hK K hb6 hR6 hS5
    refine norm_ (a' := ?_) ?_ ?_
    rotate_left
    ·try simp only [Act.put, putAll, List.setIfInBounds_toArray, List.set_cons_zero, List.set_cons_succ]
     rfl
    refine last_ (i := 7) (N := none) #[tt,tt,tt,tt,tt,tt,tt,tt,ff] rfl rfl (by kernel_rfl) (by decide) (fun K hK => ?_)
    rw [if_pos (by rfl)]
    have BRj := Aside0.mk hS6.2.2
    obtain ⟨q0, q1, q2, q3⟩ := BRj.out.c4
    have f2 := BRj.out.fz
    clear hS6
    unfold Oper.wp
    go_simp
    refine hK.out _ _ ?_
    clear hK K
    refine norm_ (a' := ?_) ?_ ?_
    rotate_left
    ·try simp only [Act.put, putAll, List.setIfInBounds_toArray, List.set_cons_zero, List.set_cons_succ]
     rfl
    refine pure_ (i := 8) (N := some 3) (v := ?_) (a' := ?_) #[tt,tt,tt,tt,tt,tt,tt,tt,tt] rfl rfl (by kernel_rfl) (fun _ _ _ h => h) (Or.inl ⟨by rfl, ?_⟩) ?_ ?_
    rotate_left
    ·intro w'
     go_simp
     with_reducible rfl
    rotate_left
    ·simp only [Act.put, List.setIfInBounds_toArray, List.set_cons_zero, List.set_cons_succ, i64_w, i32_w]
     rfl
    refine done_ (by kernel_rfl) ?_
    go_wp2_with fail
    refine bodyPost_ret (results52 _ _ b1 #[.int .u8 25, .int .u64 0, .string ⟨#[]⟩, .slice A6 2 c6] 0 rfl rfl (put4_blk BRj.out _ _ _ _) rfl) rfl ?_
    exact ⟨A6, c6, rfl, put4_R HR6.out (by have := HBx5.out.size; omega) hr6 _ _ _ _, put4_below HBx6.out (by omega) _ _ _ _⟩
   ·have hkb : ((2 : Int) == k) = false := by simp; omega
    have HKN : Aside0 (k = 0 ∨ (2 : Int) < k) := ⟨by omega⟩
    clear hk bX bO
    go_wp2_with fail
    clear p0 p1 p2 p3 y0 y1 y2 y3 y4 y5
    go_roundg (5 - (2 : Int)).toNat
    case measure => rw [HG.out]; omega
    case rel => exact ⟨2, by go_num, ⟨by omega, by omega, HKN.out, rfl⟩, HSx⟩
  by_cases hi : i = 2
  ·subst hi
   have x0 : wr.cell? ⟨bF, 12, none⟩ = some (.int .u8 3) := (blk_cell HSi.out.2.2.1 12).trans rfl
   have x1 : wr.cell? ⟨bF, 13, none⟩ = some (.int .u64 37) := (blk_cell HSi.out.2.2.1 13).trans rfl
   have x2 : wr.cell? ⟨bF, 14, none⟩ = some (.string nmO3) := (blk_cell HSi.out.2.2.1 14).trans rfl
   have x3 : wr.cell? ⟨bF, 15, none⟩ = some (.int .i64 1) := (blk_cell HSi.out.2.2.1 15).trans rfl
   have x4 : wr.cell? ⟨bF, 16, none⟩ = some (.func (.func 59) #[] #[]) := (blk_cell HSi.out.2.2.1 16).trans rfl
   have x5 : wr.cell? ⟨bF, 17, none⟩ = some (.func (.func 60) #[] #[]) := (blk_cell HSi.out.2.2.1 17).trans rfl
   have HSx := Aside0.mk (HSi.out.alloc (.cells #[.int .u8 3, .int .u64 37, .string nmO3, .int .i64 1, .func (.func 59) #[] #[], .func (.func 60) #[] #[]] 64))
   have bX := Blk.new wr #[.int .u8 3, .int .u64 37, .string nmO3, .int .i64 1, .func (.func 59) #[] #[], .func (.func 60) #[] #[]] 64
   go_upto_region 6 with fail
   obtain ⟨bx, ex⟩ : ∃ b, wr.heap.size = b := ⟨_, rfl⟩
   obtain ⟨wx, ew⟩ : ∃ W, wr.alloc (.cells #[.int .u8 3, .int .u64 37, .string nmO3, .int .i64 1, .func (.func 59) #[] #[], .func (.func 60) #[] #[]] 64) = W := ⟨_, rfl⟩
   rw [ew] at HSx bX ⊢
   rw [ex] at bX ⊢
   clear ex ew x0 x1 x2 x3 x4 x5
   have bO := HSx.out.1
   obtain ⟨y0, y1, y2, y3, y4, y5⟩ := bX.six
   obtain ⟨p0, p1, p2, p3⟩ := bO.c4
   by_cases hk : k = 3
   ·subst hk
    clear p0 p1 p2 p3 y0 y1 y2 y3 y4 y5
    obtain ⟨y0, y1, y2, y3, y4, y5⟩ := bX.six
    obtain ⟨p0, p1, p2, p3⟩ := bO.c4
    go_upto_region 7 with fail
    clear p0 p1 p2 p3 y0 y1 y2 y3 y4 y5
    have bR := HSx.out.2.1
    have HBx := Aside0.mk HSx.out.2.2.2
    clear HSx HSi HS3
    refine start_ (n := 9) (S := fun w' => Blk w' bx #[.int .u8 3, .int .u64 37, .string nmO3, .int .i64 1, .func (.func 59) #[] #[], .func (.func 60) #[] #[]] 64 ∧ Blk w' b0 #[.int .u8 3, .int .u64 a, .int .u64 b, .string s] 37 ∧ Blk w' b1 #[.int .u8 0, .int .u64 0, .string ⟨#[]⟩, .slice none 0 0] 25) (ds := [7]) #[ff,ff,ff,ff,ff,ff,ff,ff,ff] (by kernel_rfl) rfl rfl ⟨bX, bO, bR⟩ (fun hS => ?_)
    replace HBx := Aside0.mk (below_drew HBx.out)
    generalize wx.drew = wd7 at HBx hS ⊢
    clear bX bO bR
    refine pure_ (i := 0) (N := some 21) (v := ?_) (a' := ?_) #[tt,ff,ff,ff,ff,ff,ff,ff,ff] rfl rfl (by kernel_rfl) (fun _ _ _ h => h) (Or.inl ⟨by rfl, ?_⟩) ?_ ?_
    rotate_left
    ·intro w'
     go_simp
     with_reducible rfl
    rotate_left
    ·simp only [Act.put, List.setIfInBounds_toArray, List.set_cons_zero, List.set_cons_succ, i64_w, i32_w]
     rfl
    refine take_ (i := 1) (N := some 22) (v := .int .u64 37) #[tt,tt,ff,ff,ff,ff,ff,ff,ff] rfl rfl (by kernel_rfl) (fun _ _ _ h => h) (Or.inl ⟨by rfl, ?_⟩) hS rfl ?_
    ·rintro w' ⟨h0, h1, h2⟩
     obtain ⟨e0, e1, e2, e3, e4, e5⟩ := h0.six
     go_simp
    refine norm_ (a' := ?_) ?_ ?_
    rotate_left
    ·try simp only [Act.put, putAll, List.setIfInBounds_toArray, List.set_cons_zero, List.set_cons_succ]
     rfl
    refine pure_ (i := 2) (N := some 23) (v := ?_) (a' := ?_) #[tt,tt,tt,ff,ff,ff,ff,ff,ff] rfl rfl (by kernel_rfl) (fun _ _ _ h => h) (Or.inl ⟨by rfl, ?_⟩) ?_ ?_
    rotate_left
    ·intro w'
     go_simp
     with_reducible rfl
    rotate_left
    ·simp only [Act.put, List.setIfInBounds_toArray, List.set_cons_zero, List.set_cons_succ, i64_w, i32_w]
     rfl
    refine take_ (i := 3) (N := some 24) (v := .func (.func 59) #[] #[]) #[tt,tt,tt,tt,ff,ff,ff,ff,ff] rfl rfl (by kernel_rfl) (fun _ _ _ h => h) (Or.inl ⟨by rfl, ?_⟩) hS rfl ?_
    ·rintro w' ⟨h0, h1, h2⟩
     obtain ⟨e0, e1, e2, e3, e4, e5⟩ := h0.six
     go_simp
    refine norm_ (a' := ?_) ?_ ?_
    rotate_left
    ·try simp only [Act.put, putAll, List.setIfInBounds_toArray, List.set_cons_zero, List.set_cons_succ]
     rfl
    refine take_ (i := 4) (N := some 25) (v := .agg #[.int .u8 3, .int .u64 a, .int .u64 b, .string s]) #[tt,tt,tt,tt,tt,ff,ff,ff,ff] rfl rfl (by kernel_rfl) (fun _ _ _ h => h) (Or.inl ⟨by rfl, ?_⟩) hS rfl ?_
    ·rintro w' ⟨h0, h1, h2⟩
     obtain ⟨e0, e1, e2, e3⟩ := h1.c4
     go_simp
    refine norm_ (a' := ?_) ?_ ?_
    rotate_left
    ·try simp only [Act.put, putAll, List.setIfInBounds_toArray, List.set_cons_zero, List.set_cons_succ]
     rfl
    refine one_ (i := 5) (N := some 26) #[tt,tt,tt,tt,tt,tt,ff,ff,ff] rfl rfl (by kernel_rfl) (by decide) (fun K hK => ?_)
    refine goesV_ Tryz.func59 (by kernel_rfl) rfl #[.agg #[.int .u8 3, .int .u64 a, .int .u64 b, .string s]] (by rfl) rfl rfl (by rfl) (by (try simp only [List.map_toArray, List.map_cons, List.map_nil]); first | done | rfl) ?_
    refine (puts111_any 3 a b s hs HASC.out _).mono ?_
    rintro e wk8 ⟨A8, c8, rfl, hl8, hC8, hb8⟩
    refine ⟨_, rfl, ?_⟩
    have hS8 : Blk wk8 bx #[.int .u8 3, .int .u64 37, .string nmO3, .int .i64 1, .func (.func 59) #[] #[], .func (.func 60) #[] #[]] 64 ∧ Blk wk8 b0 #[.int .u8 3, .int .u64 a, .int .u64 b, .string s] 37 ∧ Blk wk8 b1 #[.int .u8 0, .int .u64 0, .string ⟨#[]⟩, .slice none 0 0] 25 := ⟨hS.1.below hb8, hS.2.1.below hb8, hS.2.2.below hb8⟩
    have HBx8 := Aside0.mk (below_step HBx.out hb8)
    have HC8 := Aside0.mk hC8
    refine hK.out _ _ hS8 (fun _ => ?_)
    clear hK K hb8 hC8 hS
    refine norm_ (a' := ?_) ?_ ?_
    rotate_left
    ·try simp only [Act.put, putAll, List.setIfInBounds_toArray, List.set_cons_zero, List.set_cons_succ]
     rfl
    refine one_ (i := 6) (N := some 27) #[tt,tt,tt,tt,tt,tt,tt,ff,ff] rfl rfl (by kernel_rfl) (by decide) (fun K hK => ?_)
    refine goes_ Tryz.func21 (by kernel_rfl) rfl #[.int .u64 37, .slice A8 [condV s].length c8] (by rfl) rfl rfl (by (try simp only [List.map_toArray, List.map_cons, List.map_nil]); first | done | rfl) ?_
    refine (put39_any 37 [condV s] (by have := cond_items s; omega) A8 c8 _ HC8.out hl8).mono ?_
    rintro e wk9 ⟨A9, c9, rfl, hR9, hb9⟩
    refine ⟨_, rfl, ?_⟩
    have hS9 : Blk wk9 bx #[.int .u8 3, .int .u64 37, .string nmO3, .int .i64 1, .func (.func 59) #[] #[], .func (.func 60) #[] #[]] 64 ∧ Blk wk9 b0 #[.int .u8 3, .int .u64 a, .int .u64 b, .string s] 37 ∧ Blk wk9 b1 #[.int .u8 0, .int .u64 0, .string ⟨#[]⟩, .slice none 0 0] 25 := ⟨hS8.1.below hb9, hS8.2.1.below hb9, hS8.2.2.below hb9⟩
    have HBx9 := Aside0.mk (below_step HBx8.out hb9)
    have HR9 := Aside0.mk hR9
    have hr9 := hS8.2.2.lt
    refine hK.out _ _ hS9 (fun _ => ?_)
    clear hK K hb9 hR9 hS8
    refine norm_ (a' := ?_) ?_ ?_
    rotate_left
    ·try simp only [Act.put, putAll, List.setIfInBounds_toArray, List.set_cons_zero, List.set_cons_succ]
     rfl
    refine last_ (i := 7) (N := none) #[tt,tt,tt,tt,tt,tt,tt,tt,ff] rfl rfl (by kernel_rfl) (by decide) (fun K hK => ?_)
    rw [if_pos (by rfl)]
    have BRj := Aside0.mk hS9.2.2
    obtain ⟨q0, q1, q2, q3⟩ := BRj.out.c4
    have f2 := BRj.out.fz
    clear hS9
    unfold Oper.wp
    go_simp
    refine hK.out _ _ ?_
    clear hK K
    refine norm_ (a' := ?_) ?_ ?_
    rotate_left
    ·try simp only [Act.put, putAll, List.setIfInBounds_toArray, List.set_cons_zero, List.set_cons_succ]
     rfl
    refine pure_ (i := 8) (N := some 3) (v := ?_) (a' := ?_) #[tt,tt,tt,tt,tt,tt,tt,tt,tt] rfl rfl (by kernel_rfl) (fun _ _ _ h => h) (Or.inl ⟨by rfl, ?_⟩) ?_ ?_
    rotate_left
    ·intro w'
     go_simp
     with_reducible rfl
    rotate_left
    ·simp only [Act.put, List.setIfInBounds_toArray, List.set_cons_zero, List.set_cons_succ, i64_w, i32_w]
     rfl
    refine done_ (by kernel_rfl) ?_
    go_wp2_with fail
    refine bodyPost_ret (results52 _ _ b1 #[.int .u8 25, .int .u64 0, .string ⟨#[]⟩, .slice A9 2 c9] 0 rfl rfl (put4_blk BRj.out _ _ _ _) rfl) rfl ?_
    exact ⟨A9, c9, rfl, put4_R HR9.out (by have := HBx8.out.size; omega) hr9 _ _ _ _, put4_below HBx9.out (by omega) _ _ _ _⟩
   ·have hkb : ((3 : Int) == k) = false := by simp; omega
    have HKN : Aside0 (k = 0 ∨ (3 : Int) < k) := ⟨by omega⟩
    clear hk bX bO
    go_wp2_with fail
    clear p0 p1 p2 p3 y0 y1 y2 y3 y4 y5
    go_roundg (5 - (3 : Int)).toNat
    case measure => rw [HG.out]; omega
    case rel => exact ⟨3, by go_num, ⟨by omega, by omega, HKN.out, rfl⟩, HSx⟩
  by_cases hi : i = 3
  ·subst hi
   have x0 : wr.cell? ⟨bF, 18, none⟩ = some (.int .u8 4) := (blk_cell HSi.out.2.2.1 18).trans rfl
   have x1 : wr.cell? ⟨bF, 19, none⟩ = some (.int .u64 38) := (blk_cell HSi.out.2.2.1 19).trans rfl
   have x2 : wr.cell? ⟨bF, 20, none⟩ = some (.string nmO4) := (blk_cell HSi.out.2.2.1 20).trans rfl
   have x3 : wr.cell? ⟨bF, 21, none⟩ = some (.int .i64 0) := (blk_cell HSi.out.2.2.1 21).trans rfl
   have x4 : wr.cell? ⟨bF, 22, none⟩ = some (.func (.func 57) #[] #[]) := (blk_cell HSi.out.2.2.1 22).trans rfl
   have x5 : wr.cell? ⟨bF, 23, none⟩ = some (.func (.func 58) #[] #[]) := (blk_cell HSi.out.2.2.1 23).trans rfl
   have HSx := Aside0.mk (HSi.out.alloc (.cells #[.int .u8 4, .int .u64 38, .string nmO4, .int .i64 0, .func (.func 57) #[] #[], .func (.func 58) #[] #[]] 64))
   have bX := Blk.new wr #[.int .u8 4, .int .u64 38, .string nmO4, .int .i64 0, .func (.func 57) #[] #[], .func (.func 58) #[] #[]] 64
   go_upto_region 6 with fail
   obtain ⟨bx, ex⟩ : ∃ b, wr.heap.size = b := ⟨_, rfl⟩
   obtain ⟨wx, ew⟩ : ∃ W, wr.alloc (.cells #[.int .u8 4, .int .u64 38, .string nmO4, .int .i64 0, .func (.func 57) #[] #[], .func (.func 58) #[] #[]] 64) = W := ⟨_, rfl⟩
   rw [ew] at HSx bX ⊢
   rw [ex] at bX ⊢
   clear ex ew x0 x1 x2 x3 x4 x5
   have bO := HSx.out.1
   obtain ⟨y0, y1, y2, y3, y4, y5⟩ := bX.six
   obtain ⟨p0, p1, p2, p3⟩ := bO.c4
   by_cases hk : k = 4
   ·subst hk
    clear p0 p1 p2 p3 y0 y1 y2 y3 y4 y5
    obtain ⟨y0, y1, y2, y3, y4, y5⟩ := bX.six
    obtain ⟨p0, p1, p2, p3⟩ := bO.c4
    go_upto_region 7 with fail
    clear p0 p1 p2 p3 y0 y1 y2 y3 y4 y5
    have bR := HSx.out.2.1
    have HBx := Aside0.mk HSx.out.2.2.2
    clear HSx HSi HS3
    refine start_ (n := 9) (S := fun w' => Blk w' bx #[.int .u8 4, .int .u64 38, .string nmO4, .int .i64 0, .func (.func 57) #[] #[], .func (.func 58) #[] #[]] 64 ∧ Blk w' b0 #[.int .u8 4, .int .u64 a, .int .u64 b, .string s] 37 ∧ Blk w' b1 #[.int .u8 0, .int .u64 0, .string ⟨#[]⟩, .slice none 0 0] 25) (ds := [7]) #[ff,ff,ff,ff,ff,ff,ff,ff,ff] (by kernel_rfl) rfl rfl ⟨bX, bO, bR⟩ (fun hS => ?_)
    replace HBx := Aside0.mk (below_drew HBx.out)
    generalize wx.drew = wd10 at HBx hS ⊢
    clear bX bO bR
    refine pure_ (i := 0) (N := some 21) (v := ?_) (a' := ?_) #[tt,ff,ff,ff,ff,ff,ff,ff,ff] rfl rfl (by kernel_rfl) (fun _ _ _ h => h) (Or.inl ⟨by rfl, ?_⟩) ?_ ?_
    rotate_left
    ·intro w'
     go_simp
     with_reducible rfl
    rotate_left
    ·simp only [Act.put, List.setIfInBounds_toArray, List.set_cons_zero, List.set_cons_succ, i64_w, i32_w]
     rfl
    refine take_ (i := 1) (N := some 22) (v := .int .u64 38) #[tt,tt,ff,ff,ff,ff,ff,ff,ff] rfl rfl (by kernel_rfl) (fun _ _ _ h => h) (Or.inl ⟨by rfl, ?_⟩) hS rfl ?_
    ·rintro w' ⟨h0, h1, h2⟩
     obtain ⟨e0, e1, e2, e3, e4, e5⟩ := h0.six
     go_simp
    refine norm_ (a' := ?_) ?_ ?_
    rotate_left
    ·try simp only [Act.put, putAll, List.setIfInBounds_toArray, List.set_cons_zero, List.set_cons_succ]
     rfl
    refine pure_ (i := 2) (N := some 23) (v := ?_) (a' := ?_) #[tt,tt,tt,ff,ff,ff,ff,ff,ff] rfl rfl (by kernel_rfl) (fun _ _ _ h => h) (Or.inl ⟨by rfl, ?_⟩) ?_ ?_
    rotate_left
    ·intro w'
     go_simp
     with_reducible rfl
    rotate_left
    ·simp only [Act.put, List.setIfInBounds_toArray, List.set_cons_zero, List.set_cons_succ, i64_w, i32_w]
     rfl
    refine take_ (i := 3) (N := some 24) (v := .func (.func 57) #[] #[]) #[tt,tt,tt,tt,ff,ff,ff,ff,ff] rfl rfl (by kernel_rfl) (fun _ _ _ h => h) (Or.inl ⟨by rfl, ?_⟩) hS rfl ?_
    ·rintro w' ⟨h0, h1, h2⟩
     obtain ⟨e0, e1, e2, e3, e4, e5⟩ := h0.six
     go_simp
    refine norm_ (a' := ?_) ?_ ?_
    rotate_left
    ·try simp only [Act.put, putAll, List.setIfInBounds_toArray, List.set_cons_zero, List.set_cons_succ]
     rfl
    refine take_ (i := 4) (N := some 25) (v := .agg #[.int .u8 4, .int .u64 a, .int .u64 b, .string s]) #[tt,tt,tt,tt,tt,ff,ff,ff,ff] rfl rfl (by kernel_rfl) (fun _ _ _ h => h) (Or.inl ⟨by rfl, ?_⟩) hS rfl ?_
    ·rintro w' ⟨h0, h1, h2⟩
     obtain ⟨e0, e1, e2, e3⟩ := h1.c4
     go_simp
    refine norm_ (a' := ?_) ?_ ?_
    rotate_left
    ·try simp only [Act.put, putAll, List.setIfInBounds_toArray, List.set_cons_zero, List.set_cons_succ]
     rfl
    refine one_ (i := 5) (N := some 26) #[tt,tt,tt,tt,tt,tt,ff,ff,ff] rfl rfl (by kernel_rfl) (by decide) (fun K hK => ?_)
    refine goesV_ Tryz.func57 (by kernel_rfl) rfl #[.agg #[.int .u8 4, .int .u64 a, .int .u64 b, .string s]] (by rfl) rfl rfl (by rfl) (by (try simp only [List.map_toArray, List.map_cons, List.map_nil]); first | done | rfl) ?_
    refine (nothing109_any 4 a b s _).mono ?_
    rintro e wk11 ⟨A11, c11, rfl, hl11, hC11, hb11⟩
    refine ⟨_, rfl, ?_⟩
    have hS11 : Blk wk11 bx #[.int .u8 4, .int .u64 38, .string nmO4, .int .i64 0, .func (.func 57) #[] #[], .func (.func 58) #[] #[]] 64 ∧ Blk wk11 b0 #[.int .u8 4, .int .u64 a, .int .u64 b, .string s] 37 ∧ Blk wk11 b1 #[.int .u8 0, .int .u64 0, .string ⟨#[]⟩, .slice none 0 0] 25 := ⟨hS.1.below hb11, hS.2.1.below hb11, hS.2.2.below hb11⟩
    have HBx11 := Aside0.mk (below_step HBx.out hb11)
    have HC11 := Aside0.mk hC11
    refine hK.out _ _ hS11 (fun _ => ?_)
    clear hK K hb11 hC11 hS
    refine norm_ (a' := ?_) ?_ ?_
    rotate_left
    ·try simp only [Act.put, putAll, List.setIfInBounds_toArray, List.set_cons_zero, List.set_cons_succ]
     rfl
    refine one_ (i := 6) (N := some 27) #[tt,tt,tt,tt,tt,tt,tt,ff,ff] rfl rfl (by kernel_rfl) (by decide) (fun K hK => ?_)
    refine goes_ Tryz.func21 (by kernel_rfl) rfl #[.int .u64 38, .slice A11 [].length c11] (by rfl) rfl rfl (by (try simp only [List.map_toArray, List.map_cons, List.map_nil]); first | done | rfl) ?_
    refine (put39_any 38 [] (by simp [itemsL]) A11 c11 _ HC11.out hl11).mono ?_
    rintro e wk12 ⟨A12, c12, rfl, hR12, hb12⟩
    refine ⟨_, rfl, ?_⟩
    have hS12 : Blk wk12 bx #[.int .u8 4, .int .u64 38, .string nmO4, .int .i64 0, .func (.func 57) #[] #[], .func (.func 58) #[] #[]] 64 ∧ Blk wk12 b0 #[.int .u8 4, .int .u64 a, .int .u64 b, .string s] 37 ∧ Blk wk12 b1 #[.int .u8 0, .int .u64 0, .string ⟨#[]⟩, .slice none 0 0] 25 := ⟨hS11.1.below hb12, hS11.2.1.below hb12, hS11.2.2.below hb12⟩
    have HBx12 := Aside0.mk (below_step HBx11.out hb12)
    have HR12 := Aside0.mk hR12
    have hr12 := hS11.2.2.lt
    refine hK.out _ _ hS12 (fun _ => ?_)
    clear hK K hb12 hR12 hS11
    refine norm_ (a' := ?_) ?_ ?_
    rotate_left
    ·try simp only [Act.put, putAll, List.setIfInBounds_toArray, List.set_cons_zero, List.set_cons_succ]
     rfl
    refine last_ (i := 7) (N := none) #[tt,tt,tt,tt,tt,tt,tt,tt,ff] rfl rfl (by kernel_rfl) (by decide) (fun K hK => ?_)
    rw [if_pos (by rfl)]
    have BRj := Aside0.mk hS12.2.2
    obtain ⟨q0, q1, q2, q3⟩ := BRj.out.c4
    have f2 := BRj.out.fz
    clear hS12
    unfold Oper.wp
    go_simp
    refine hK.out _ _ ?_
    clear hK K
    refine norm_ (a' := ?_) ?_ ?_
    rotate_left
    ·try simp only [Act.put, putAll, List.setIfInBounds_toArray, List.set_cons_zero, List.set_cons_succ]
     rfl
    refine pure_ (i := 8) (N := some 3) (v := ?_) (a' := ?_) #[tt,tt,tt,tt,tt,tt,tt,tt,tt] rfl rfl (by kernel_rfl) (fun _ _ _ h => h) (Or.inl ⟨by rfl, ?_⟩) ?_ ?_
    rotate_left
    ·intro w'
     go_simp
     with_reducible rfl
    rotate_left
    ·simp only [Act.put, List.setIfInBounds_toArray, List.set_cons_zero, List.set_cons_succ, i64_w, i32_w]
     rfl
    refine done_ (by kernel_rfl) ?_
    go_wp2_with fail
    refine bodyPost_ret (results52 _ _ b1 #[.int .u8 25, .int .u64 0, .string ⟨#[]⟩, .slice A12 2 c12] 0 rfl rfl (put4_blk BRj.out _ _ _ _) rfl) rfl ?_
    exact ⟨A12, c12, rfl, put4_R HR12.out (by have := HBx11.out.size; omega) hr12 _ _ _ _, put4_below HBx12.out (by omega) _ _ _ _⟩
   ·have hkb : ((4 : Int) == k) = false := by simp; omega
    have HKN : Aside0 (k = 0 ∨ (4 : Int) < k) := ⟨by omega⟩
    clear hk bX bO
    go_wp2_with fail
    clear p0 p1 p2 p3 y0 y1 y2 y3 y4 y5
    go_roundg (5 - (4 : Int)).toNat
    case measure => rw [HG.out]; omega
    case rel => exact ⟨4, by go_num, ⟨by omega, by omega, HKN.out, rfl⟩, HSx⟩
  by_cases hi : i = 4
  ·subst hi
   have x0 : wr.cell? ⟨bF, 24, none⟩ = some (.int .u8 5) := (blk_cell HSi.out.2.2.1 24).trans rfl
   have x1 : wr.cell? ⟨bF, 25, none⟩ = some (.int .u64 39) := (blk_cell HSi.out.2.2.1 25).trans rfl
   have x2 : wr.cell? ⟨bF, 26, none⟩ = some (.string nmO5) := (blk_cell HSi.out.2.2.1 26).trans rfl
   have x3 : wr.cell? ⟨bF, 27, none⟩ = some (.int .i64 3) := (blk_cell HSi.out.2.2.1 27).trans rfl
   have x4 : wr.cell? ⟨bF, 28, none⟩ = some (.func (.func 62) #[] #[]) := (blk_cell HSi.out.2.2.1 28).trans rfl
   have x5 : wr.cell? ⟨bF, 29, none⟩ = some (.func (.func 64) #[] #[]) := (blk_cell HSi.out.2.2.1 29).trans rfl
   have HSx := Aside0.mk (HSi.out.alloc (.cells #[.int .u8 5, .int .u64 39, .string nmO5, .int .i64 3, .func (.func 62) #[] #[], .func (.func 64) #[] #[]] 64))
   have bX := Blk.new wr #[.int .u8 5, .int .u64 39, .string nmO5, .int .i64 3, .func (.func 62) #[] #[], .func (.func 64) #[] #[]] 64
   go_upto_region 6 with fail
   obtain ⟨bx, ex⟩ : ∃ b, wr.heap.size = b := ⟨_, rfl⟩
   obtain ⟨wx, ew⟩ : ∃ W, wr.alloc (.cells #[.int .u8 5, .int .u64 39, .string nmO5, .int .i64 3, .func (.func 62) #[] #[], .func (.func 64) #[] #[]] 64) = W := ⟨_, rfl⟩
   rw [ew] at HSx bX ⊢
   rw [ex] at bX ⊢
   clear ex ew x0 x1 x2 x3 x4 x5
   have bO := HSx.out.1
   obtain ⟨y0, y1, y2, y3, y4, y5⟩ := bX.six
   obtain ⟨p0, p1, p2, p3⟩ := bO.c4
   by_cases hk : k = 5
   ·subst hk
    clear p0 p1 p2 p3 y0 y1 y2 y3 y4 y5
    obtain ⟨y0, y1, y2, y3, y4, y5⟩ := bX.six
    obtain ⟨p0, p1, p2, p3⟩ := bO.c4
    go_upto_region 7 with fail
    clear p0 p1 p2 p3 y0 y1 y2 y3 y4 y5
    have bR := HSx.out.2.1
    have HBx := Aside0.mk HSx.out.2.2.2
    clear HSx HSi HS3
    refine start_ (n := 9) (S := fun w' => Blk w' bx #[.int .u8 5, .int .u64 39, .string nmO5, .int .i64 3, .func (.func 62) #[] #[], .func (.func 64) #[] #[]] 64 ∧ Blk w' b0 #[.int .u8 5, .int .u64 a, .int .u64 b, .string s] 37 ∧ Blk w' b1 #[.int .u8 0, .int .u64 0, .string ⟨#[]⟩, .slice none 0 0] 25) (ds := [7]) #[ff,ff,ff,ff,ff,ff,ff,ff,ff] (by kernel_rfl) rfl rfl ⟨bX, bO, bR⟩ (fun hS => ?_)
    replace HBx := Aside0.mk (below_drew HBx.out)
    generalize wx.drew = wd13 at HBx hS ⊢
    clear bX bO bR
    refine pure_ (i := 0) (N := some 21) (v := ?_) (a' := ?_) #[tt,ff,ff,ff,ff,ff,ff,ff,ff] rfl rfl (by kernel_rfl) (fun _ _ _ h => h) (Or.inl ⟨by rfl, ?_⟩) ?_ ?_
    rotate_left
    ·intro w'
     go_simp
     with_reducible rfl
    rotate_left
    ·simp only [Act.put, List.setIfInBounds_toArray, List.set_cons_zero, List.set_cons_succ, i64_w, i32_w]
     rfl
    refine take_ (i := 1) (N := some 22) (v := .int .u64 39) #[tt,tt,ff,ff,ff,ff,ff,ff,ff] rfl rfl (by kernel_rfl) (fun _ _ _ h => h) (Or.inl ⟨by rfl, ?_⟩) hS rfl ?_
    ·rintro w' ⟨h0, h1, h2⟩
     obtain ⟨e0, e1, e2, e3, e4, e5⟩ := h0.six
     go_simp
    refine norm_ (a' := ?_) ?_ ?_
    rotate_left
    ·try simp only [Act.put, putAll, List.setIfInBounds_toArray, List.set_cons_zero, List.set_cons_succ]
     rfl
    refine pure_ (i := 2) (N := some 23) (v := ?_) (a' := ?_) #[tt,tt,tt,ff,ff,ff,ff,ff,ff] rfl rfl (by kernel_rfl) (fun _ _ _ h => h) (Or.inl ⟨by rfl, ?_⟩) ?_ ?_
    rotate_left
    ·intro w'
     go_simp
     with_reducible rfl
    rotate_left
    ·simp only [Act.put, List.setIfInBounds_toArray, List.set_cons_zero, List.set_cons_succ, i64_w, i32_w]
     rfl
    refine take_ (i := 3) (N := some 24) (v := .func (.func 62) #[] #[]) #[tt,tt,tt,tt,ff,ff,ff,ff,ff] rfl rfl (by kernel_rfl) (fun _ _ _ h => h) (Or.inl ⟨by rfl, ?_⟩) hS rfl ?_
    ·rintro w' ⟨h0, h1, h2⟩
     obtain ⟨e0, e1, e2, e3, e4, e5⟩ := h0.six
     go_simp
    refine norm_ (a' := ?_) ?_ ?_
    rotate_left
    ·try simp only [Act.put, putAll, List.setIfInBounds_toArray, List.set_cons_zero, List.set_cons_succ]
     rfl
    refine take_ (i := 4) (N := some 25) (v := .agg #[.int .u8 5, .int .u64 a, .int .u64 b, .string s]) #[tt,tt,tt,tt,tt,ff,ff,ff,ff] rfl rfl (by kernel_rfl) (fun _ _ _ h => h) (Or.inl ⟨by rfl, ?_⟩) hS rfl ?_
    ·rintro w' ⟨h0, h1, h2⟩
     obtain ⟨e0, e1, e2, e3⟩ := h1.c4
     go_simp
    refine norm_ (a' := ?_) ?_ ?_
    rotate_left
    ·try simp only [Act.put, putAll, List.setIfInBounds_toArray, List.set_cons_zero, List.set_cons_succ]
     rfl
    refine one_ (i := 5) (N := some 26) #[tt,tt,tt,tt,tt,tt,ff,ff,ff] rfl rfl (by kernel_rfl) (by decide) (fun K hK => ?_)
    refine goesV_ Tryz.func62 (by kernel_rfl) rfl #[.agg #[.int .u8 5, .int .u64 a, .int .u64 b, .string s]] (by rfl) rfl rfl (by rfl) (by (try simp only [List.map_toArray, List.map_cons, List.map_nil]); first | done | rfl) ?_
    refine (puts113_any 5 a b s _).mono ?_
    rintro e wk14 ⟨A14, c14, rfl, hl14, hC14, hb14⟩
    refine ⟨_, rfl, ?_⟩
    have hS14 : Blk wk14 bx #[.int .u8 5, .int .u64 39, .string nmO5, .int .i64 3, .func (.func 62) #[] #[], .func (.func 64) #[] #[]] 64 ∧ Blk wk14 b0 #[.int .u8 5, .int .u64 a, .int .u64 b, .string s] 37 ∧ Blk wk14 b1 #[.int .u8 0, .int .u64 0, .string ⟨#[]⟩, .slice none 0 0] 25 := ⟨hS.1.below hb14, hS.2.1.below hb14, hS.2.2.below hb14⟩
    have HBx14 := Aside0.mk (below_step HBx.out hb14)
    have HC14 := Aside0.mk hC14
    refine hK.out _ _ hS14 (fun _ => ?_)
    clear hK K hb14 hC14 hS
    refine norm_ (a' := ?_) ?_ ?_
    rotate_left
    ·try simp only [Act.put, putAll, List.setIfInBounds_toArray, List.set_cons_zero, List.set_cons_succ]
     rfl
    refine one_ (i := 6) (N := some 27) #[tt,tt,tt,tt,tt,tt,tt,ff,ff] rfl rfl (by kernel_rfl) (by decide) (fun K hK => ?_)
    refine goes_ Tryz.func21 (by kernel_rfl) rfl #[.int .u64 39, .slice A14 [truthV a, truthV b].length c14] (by rfl) rfl rfl (by (try simp only [List.map_toArray, List.map_cons, List.map_nil]); first | done | rfl) ?_
    refine (put39_any 39 [truthV a, truthV b] (by simp only [itemsL, truth_items]; omega) A14 c14 _ HC14.out hl14).mono ?_
    rintro e wk15 ⟨A15, c15, rfl, hR15, hb15⟩
    refine ⟨_, rfl, ?_⟩
    have hS15 : Blk wk15 bx #[.int .u8 5, .int .u64 39, .string nmO5, .int .i64 3, .func (.func 62) #[] #[], .func (.func 64) #[] #[]] 64 ∧ Blk wk15 b0 #[.int .u8 5, .int .u64 a, .int .u64 b, .string s] 37 ∧ Blk wk15 b1 #[.int .u8 0, .int .u64 0, .string ⟨#[]⟩, .slice none 0 0] 25 := ⟨hS14.1.below hb15, hS14.2.1.below hb15, hS14.2.2.below hb15⟩
    have HBx15 := Aside0.mk (below_step HBx14.out hb15)
    have HR15 := Aside0.mk hR15
    have hr15 := hS14.2.2.lt
    refine hK.out _ _ hS15 (fun _ => ?_)
    clear hK K hb15 hR15 hS14
    refine norm_ (a' := ?_) ?_ ?_
    rotate_left
    ·try simp only [Act.put, putAll, List.setIfInBounds_toArray, List.set_cons_zero, List.set_cons_succ]
     rfl
    refine last_ (i := 7) (N := none) #[tt,tt,tt,tt,tt,tt,tt,tt,ff] rfl rfl (by kernel_rfl) (by decide) (fun K hK => ?_)
    rw [if_pos (by rfl)]
    have BRj := Aside0.mk hS15.2.2
    obtain ⟨q0, q1, q2, q3⟩ := BRj.out.c4
    have f2 := BRj.out.fz
    clear hS15
    unfold Oper.wp
    go_simp
    refine hK.out _ _ ?_
    clear hK K
    refine norm_ (a' := ?_) ?_ ?_
    rotate_left
    ·try simp only [Act.put, putAll, List.setIfInBounds_toArray, List.set_cons_zero, List.set_cons_succ]
     rfl
    refine pure_ (i := 8) (N := some 3) (v := ?_) (a' := ?_) #[tt,tt,tt,tt,tt,tt,tt,tt,tt] rfl rfl (by kernel_rfl) (fun _ _ _ h => h) (Or.inl ⟨by rfl, ?_⟩) ?_ ?_
    rotate_left
    ·intro w'
     go_simp
     with_reducible rfl
    rotate_left
    ·simp only [Act.put, List.setIfInBounds_toArray, List.set_cons_zero, List.set_cons_succ, i64_w, i32_w]
     rfl
    refine done_ (by kernel_rfl) ?_
    go_wp2_with fail
    refine bodyPost_ret (results52 _ _ b1 #[.int .u8 25, .int .u64 0, .string ⟨#[]⟩, .slice A15 2 c15] 0 rfl rfl (put4_blk BRj.out _ _ _ _) rfl) rfl ?_
    exact ⟨A15, c15, rfl, put4_R HR15.out (by have := HBx14.out.size; omega) hr15 _ _ _ _, put4_below HBx15.out (by omega) _ _ _ _⟩
   ·have hkb : ((5 : Int) == k) = false := by simp; omega
    have HKN : Aside0 (k = 0 ∨ (5 : Int) < k) := ⟨by omega⟩
    clear hk bX bO
    go_wp2_with fail
    clear p0 p1 p2 p3 y0 y1 y2 y3 y4 y5
    go_roundg (5 - (5 : Int)).toNat
    case measure => rw [HG.out]; omega
    case rel => exact ⟨5, by go_num, ⟨by omega, by omega, HKN.out, rfl⟩, HSx⟩
  ·obtain rfl : i = 5 := by omega
   obtain rfl : k = 0 := by omega
   go_wp2_with fail
   refine (null26_any _).mono ?_
   rintro e w4 ⟨rfl, hb4⟩
   have BR4 := Aside0.mk (HSi.out.2.1.below hb4)
   have HB4 := Aside0.mk (below_step HSi.out.2.2.2 hb4)
   obtain ⟨q0, q1, q2, q3⟩ := BR4.out.c4
   have f2 := BR4.out.fz
   clear hb4
   go_wp2_with fail
   refine bodyPost_ret (results52 _ _ b1 #[.int .u8 1, .int .u64 0, .string ⟨#[]⟩, .slice none 0 0] 0 rfl rfl (put4_blk BR4.out _ _ _ _) rfl) rfl ?_
   exact ⟨none, 0, rfl, Kd.R_nil _ _ _ _ _, put4_below HB4.out hw0.2 _ _ _ _⟩
end Go.Proofs.YtdilbnggedidnaaGreat.PVal
namespace Go.Proofs.YtdilbnggedidnaaGreat.PVal
open Go.RowKit Go.Shelf Go.Proofs.YtdilbnggedidnaaGreatW.PrintWords Go.Proofs.YtdilbnggedidnaaGreatW.PrintLast
set_option linter.unusedVariables false
set_option linter.unusedSimpArgs false
structure Bg2 (g q : Nat) (w w' : World) : Prop where
 os : w'.os = w.os
 tape : w'.tape = w.tape
 output : w'.output = w.output
 size : w.heap.size ≤ w'.heap.size
 block : ∀ k, k < w.heap.size → k ≠ g → k ≠ q → w'.heap[k]? = w.heap[k]?
theorem Bg2.of {g q : Nat} {w w' : World} (h : Bg g w w') : Bg2 g q w w' := ⟨h.os, h.tape, h.output, h.size, fun k hk hg _ => h.block k hk hg⟩
theorem Bg2.bg {g q : Nat} {a b c : World} (h : Bg2 g q a b) (k : Bg g b c) : Bg2 g q a c := ⟨k.os.trans h.os, k.tape.trans h.tape, k.output.trans h.output, Nat.le_trans h.size k.size, fun i hi hg hq => (k.block i (Nat.lt_of_lt_of_le hi h.size) hg).trans (h.block i hi hg hq)⟩
theorem Bg2.set {g q : Nat} {w w' : World} (h : Bg2 g q w w') (j : Nat) (v : Value) : Bg2 g q w (w'.setCell ⟨q, j, none⟩ v) := ⟨h.os, h.tape, h.output, by simpa [World.setCell] using h.size, fun k hk hg hq => (Below.heap_setCell _ _ _ k hq).trans (h.block k hk hg hq)⟩
theorem Bg2.below {g q B : Nat} {w w' : World} (h : Bg2 g q w w') (hg : B ≤ g) (hq : B ≤ q) (hB : B ≤ w.heap.size) : Below B w w' := ⟨h.os, h.tape, h.output, h.size, fun k hk => h.block k (by omega) (by omega) (by omega)⟩
theorem Blk.bg2 {g q : Nat} {w w' : World} {b : Nat} {cs : Array Value} {t : TypeId} (h : Blk w b cs t) (hb : Bg2 g q w w') (hg : b ≠ g) (hq : b ≠ q) : Blk w' b cs t := (hb.block b h.lt hg hq).trans h
theorem FS.low {w : World} {base g : Nat} {l : List S25} {sp : Bool} (h : FS w base g l sp) {p : Addr} (hp : p.block < base) (hg : base ≤ g) (v : Value) : FS (w.setCell p v) base g l sp := by
 obtain ⟨A, c, h1, h2⟩ := h
 exact ⟨A, c, h1.far (by omega) v, Kd.R_mono (Kd.R_far (Kd.R_bound h2) (fun k hk => by have := hk.2.1; omega) v) (fun k hk => hk.1)⟩
def GotPost (ob g base : Nat) (l : List S25) (sp : Bool) (o : Out) (w : World) (e : Ending) (w' : World) : Prop :=
 e = .returned (.tuple #[]) ∧ Blk w' ob #[.int .u8 o.k, .int .u64 o.a, .int .u64 o.b, .string o.cond] 37 ∧ FS w' base g l sp ∧ Bg2 g ob w w'
theorem spoil_any (l : List S25) (i : Int) : spoilP l i false (kindsP []) = false := by
 unfold spoilP
 cases atF l i <;> rfl
theorem tell_any (l : List S25) (i : Int) : tellP l i (kindsP []) (fun x => x) vNul = (atF l i).getD vNul := by
 unfold tellP
 cases atF l i <;> rfl
theorem gets108_any {w : World} {base g ob : Nat} {l : List S25} {sp : Bool} (hf : FS w base g l sp) (hob : ob < base) (hbg : base ≤ g) (k a b : Int) (s : ByteArray) (hO : Blk w ob #[.int .u8 k, .int .u64 a, .int .u64 b, .string s] 37) :
  Calls Tryz.prog 55 #[.pointer (some ⟨ob, 0, none⟩), .pointer (some ⟨g, 0, none⟩)] w (GotPost ob g base l ((sp || spoilP l 0 true K5) || spoilP l 1 true K6) ⟨k, tellP l 0 K5 (fun x => x.f1) 0, tellP l 1 K6 (fun x => x.f1) 0, s⟩ w) := by
 have HF := Aside0.mk hf
 have HO := Aside0.mk hO
 have hne : ob ≠ g := by omega
 clear hf hO
 go_enter Tryz.func55, Tryz.ntmps55
 go_wp2_with fail
 refine (number66_any HF.out 0 5 true 0).mono ?_
 rintro e w2 ⟨rfl, hfs, hb2⟩
 have HF2 := Aside0.mk hfs
 have HO2 := Aside0.mk (HO.out.bg hb2 hne)
 have HB2 := Aside0.mk hb2
 clear hfs hb2
 go_wp2_with fail
 refine (number66_any HF2.out 1 6 true 0).mono ?_
 rintro e w3 ⟨rfl, hfs, hb3⟩
 have HF3 := Aside0.mk hfs
 have bO3 := HO2.out.bg hb3 hne
 have HO3 := Aside0.mk bO3
 have HB3 := Aside0.mk (HB2.out.trans hb3)
 obtain ⟨q0, q1, q2, q3⟩ := bO3.c4
 have f3 := bO3.fz
 clear hfs hb3 bO3
 obtain ⟨a', ea⟩ : ∃ x, tellP l 0 (kindP [5]) (fun x => x.f1) 0 = x := ⟨_, rfl⟩
 obtain ⟨b', eb⟩ : ∃ x, tellP l 1 (kindP [6]) (fun x => x.f1) 0 = x := ⟨_, rfl⟩
 have EA := Aside0.mk ea
 have EB := Aside0.mk eb
 rw [ea, eb]
 clear ea eb
 go_wp2_with fail
 go_end0
 refine ⟨rfl, ?_, (HF3.out.low (p := ⟨ob, 1, none⟩) hob hbg _).low (p := ⟨ob, 2, none⟩) hob hbg _, ((Bg2.of HB3.out).set 1 _).set 2 _⟩
 show Blk _ ob #[.int .u8 k, .int .u64 (tellP l 0 (kindP [5]) (fun x => x.f1) 0), .int .u64 (tellP l 1 (kindP [6]) (fun x => x.f1) 0), .string s] 37
 rw [EA.out, EB.out]
 refine blk_put (cs := #[.int .u8 k, .int .u64 a', .int .u64 b, .string s]) ?_ 2 _ rfl
 exact blk_put (cs := #[.int .u8 k, .int .u64 a, .int .u64 b, .string s]) HO3.out 1 _ rfl
theorem gets110_any {w : World} {base g ob : Nat} {l : List S25} {sp : Bool} (hf : FS w base g l sp) (hob : ob < base) (hbg : base ≤ g) (k a b : Int) (s : ByteArray) (hO : Blk w ob #[.int .u8 k, .int .u64 a, .int .u64 b, .string s] 37) :
  Calls Tryz.prog 58 #[.pointer (some ⟨ob, 0, none⟩), .pointer (some ⟨g, 0, none⟩)] w (GotPost ob g base l sp ⟨k, a, b, s⟩ w) := by
 have HF := Aside0.mk hf
 have HO := Aside0.mk hO
 have hne : ob ≠ g := by omega
 clear hf hO
 go_enter Tryz.func58, Tryz.ntmps58
 go_wp2_with fail
 go_end0
 exact ⟨rfl, HO.out, HF.out, Bg2.of (Bg.refl g w)⟩
theorem gets115_any {w : World} {base g ob : Nat} {l : List S25} {sp : Bool} (hf : FS w base g l sp) (hob : ob < base) (hbg : base ≤ g) (hk : ∀ x ∈ l, itemsN x ≤ 4294967296) (k a b : Int) (s : ByteArray) (hO : Blk w ob #[.int .u8 k, .int .u64 a, .int .u64 b, .string s] 37) :
  Calls Tryz.prog 64 #[.pointer (some ⟨ob, 0, none⟩), .pointer (some ⟨g, 0, none⟩)] w (GotPost ob g base l (((sp || spoilP l 0 false K2) || spoilP l 1 false K2) || spoilP l 2 false K23) ⟨k, tellP l 0 K2 (fun x => x.f1) 0, tellP l 1 K2 (fun x => x.f1) 0, s⟩ w) := by
 have HF := Aside0.mk hf
 have HO := Aside0.mk hO
 have hne : ob ≠ g := by omega
 clear hf hO
 go_enter Tryz.func64, Tryz.ntmps64
 go_wp2_with fail
 refine (number66_any HF.out 0 2 false 0).mono ?_
 rintro e w2 ⟨rfl, hfs, hb2⟩
 have HF2 := Aside0.mk hfs
 have HO2 := Aside0.mk (HO.out.bg hb2 hne)
 have HB2 := Aside0.mk hb2
 clear hfs hb2
 go_wp2_with fail
 refine (number66_any HF2.out 1 2 false 0).mono ?_
 rintro e w3 ⟨rfl, hfs, hb3⟩
 have HF3 := Aside0.mk hfs
 have bO3 := HO2.out.bg hb3 hne
 have HO3 := Aside0.mk bO3
 have HB3 := Aside0.mk (HB2.out.trans hb3)
 obtain ⟨q0, q1, q2, q3⟩ := bO3.c4
 have f3 := bO3.fz
 clear hfs hb3 bO3
 obtain ⟨a', ea⟩ : ∃ x, tellP l 0 (kindP [2]) (fun x => x.f1) 0 = x := ⟨_, rfl⟩
 obtain ⟨b', eb⟩ : ∃ x, tellP l 1 (kindP [2]) (fun x => x.f1) 0 = x := ⟨_, rfl⟩
 have EA := Aside0.mk ea
 have EB := Aside0.mk eb
 rw [ea, eb]
 clear ea eb
 have HKI := Aside0.mk hk
 clear hk
 go_upto_region 1 with fail
 have bO4 : Blk ((w3.setCell ⟨ob, 1, none⟩ (.int .u64 a')).setCell ⟨ob, 2, none⟩ (.int .u64 b')) ob #[.int .u8 k, .int .u64 a', .int .u64 b', .string s] 37 := by
  refine blk_put (cs := #[.int .u8 k, .int .u64 a', .int .u64 b, .string s]) ?_ 2 _ rfl
  exact blk_put (cs := #[.int .u8 k, .int .u64 a, .int .u64 b, .string s]) HO3.out 1 _ rfl
 have HF4 := Aside0.mk ((HF3.out.low (p := ⟨ob, 1, none⟩) hob hbg (.int .u64 a')).low (p := ⟨ob, 2, none⟩) hob hbg (.int .u64 b'))
 have HB4 := Aside0.mk (((Bg2.of (q := ob) HB3.out).set 1 (.int .u64 a')).set 2 (.int .u64 b'))
 obtain ⟨w4, e4⟩ : ∃ W, (w3.setCell ⟨ob, 1, none⟩ (.int .u64 a')).setCell ⟨ob, 2, none⟩ (.int .u64 b') = W := ⟨_, rfl⟩
 rw [e4] at bO4 HF4 HB4 ⊢
 clear e4 q0 q1 q2 q3 f3
 have HO4 := Aside0.mk bO4
 clear bO4
 go_wp2_with fail
 have bK := Blk.new w4 #[.int .u8 23] 5
 have hal5 := below_alloc (Below.refl w4.heap.size w4) (.cells #[.int .u8 23] 5)
 have HCK : Aside0 (Kd.C (Kd.int .u8) (w4.alloc (.cells #[.int .u8 23] 5)) (some ⟨w4.heap.size, 0, none⟩) [(23 : Int)].length [23]) := ⟨C_u8 bK⟩
 have HF5 := Aside0.mk (HF4.out.below hal5)
 have HB5 := Aside0.mk (HB4.out.bg (Bg.of hal5))
 have HO5 := Aside0.mk (HO4.out.below hal5)
 clear bK hal5
 refine (value77_any HF5.out HKI.out 2 [23] _ 1 HCK.out (by decide)).mono ?_
 rintro e w6 ⟨A6, c6, rfl, hR6, hfs, hbg6⟩
 have HF6 := Aside0.mk hfs.fs
 have HB6 := Aside0.mk (HB5.out.bg hbg6)
 have HO6 := Aside0.mk (HO5.out.bg hbg6 hne)
 clear hfs hbg6 hR6
 go_wp2_with fail
 go_end0
 refine ⟨rfl, ?_, HF6.out, HB6.out⟩
 show Blk _ ob #[.int .u8 k, .int .u64 (tellP l 0 (kindP [2]) (fun x => x.f1) 0), .int .u64 (tellP l 1 (kindP [2]) (fun x => x.f1) 0), .string s] 37
 rw [EA.out, EB.out]
 exact HO6.out
theorem gets112_any {w : World} {base g ob : Nat} {l : List S25} {sp : Bool} (hf : FS w base g l sp) (hob : ob < base) (hbg : base ≤ g) (hk : ∀ x ∈ l, itemsN x ≤ 4294967296) (ho : okL l) (k a b : Int) (s : ByteArray) (hO : Blk w ob #[.int .u8 k, .int .u64 a, .int .u64 b, .string s] 37) :
  Calls Tryz.prog 60 #[.pointer (some ⟨ob, 0, none⟩), .pointer (some ⟨g, 0, none⟩)] w (GotPost ob g base l (sp || !(getCondF ((atF l 0).getD vNul)).isSome) ⟨k, a, b, (getCondF ((atF l 0).getD vNul)).getD ⟨#[]⟩⟩ w) := by
 have HF := Aside0.mk hf
 have HO := Aside0.mk hO
 have hne : ob ≠ g := by omega
 clear hf hO
 have hv : itemsN ((atF l 0).getD vNul) ≤ 4294967296 ∧ okV ((atF l 0).getD vNul) := by
  cases hq : atF l 0 with
  | none => exact ⟨by decide, ok_vb _ (by kernel_rfl)⟩
  | some x => exact ⟨hk x (atF_mem hq), okL_mem ho (atF_mem hq)⟩
 have HV := Aside0.mk hv
 have HKI := Aside0.mk hk
 clear hv hk ho
 go_enter Tryz.func60, Tryz.ntmps60
 go_wp2_with fail
 refine (value77_any HF.out HKI.out 0 [] none 0 ⟨rfl, by simp, fun h => absurd h (by simp)⟩ (Nat.le_refl _)).mono ?_
 rintro e w2 hp
 rw [tell_any, spoil_any, Bool.or_false] at hp
 obtain ⟨A2, c2, rfl, hR2, hfs, hb2⟩ := hp
 obtain ⟨v, ev⟩ : ∃ v, (atF l 0).getD vNul = v := ⟨_, rfl⟩
 have EV := Aside0.mk ev
 rw [ev] at hR2 HV ⊢
 clear ev
 have HC2 := Aside0.mk (Kd.R_reads' hR2).2
 have HF2 := Aside0.mk hfs.fs
 have HO2 := Aside0.mk (HO.out.bg hb2 hne)
 have HB2 := Aside0.mk hb2
 clear hfs hb2 hR2
 go_wp2_with fail
 refine (getCond55_any v HV.out.1 HV.out.2 A2 c2 _ HC2.out.2 HC2.out.1).mono ?_
 rintro e w3 ⟨he, hb3⟩
 have HF3 := Aside0.mk (HF2.out.below hb3)
 have HB3 := Aside0.mk (HB2.out.trans (Bg.of hb3))
 have HO3 := Aside0.mk (HO2.out.below hb3)
 clear hb3
 cases hg : getCondF v with
 | some c =>
  have EG : Aside0 (getCondF ((atF l 0).getD vNul) = some c) := ⟨by rw [EV.out]; exact hg⟩
  rw [hg] at he
  clear hg
  replace he : e = .returned (.tuple #[.string c, .int .i64 0]) := he
  subst he
  obtain ⟨q0, q1, q2, q3⟩ := HO3.out.c4
  have f3 := HO3.out.fz
  go_wp2_with fail
  go_end0
  refine ⟨rfl, ?_, ?_, (Bg2.of HB3.out).set 3 _⟩
  ·rw [EG.out]
   exact blk_put (cs := #[.int .u8 k, .int .u64 a, .int .u64 b, .string s]) HO3.out 3 _ rfl
  ·rw [EG.out]
   show FS _ base g l (sp || false)
   rw [Bool.or_false]
   exact HF3.out.low (p := ⟨ob, 3, none⟩) hob hbg _
 | none =>
  have EG : Aside0 (getCondF ((atF l 0).getD vNul) = none) := ⟨by rw [EV.out]; exact hg⟩
  rw [hg] at he
  clear hg
  replace he : e = .returned (.tuple #[.string ⟨#[]⟩, .int .i64 6]) := he
  subst he
  go_wp2_with fail
  refine (spoil50_any HF3.out).mono ?_
  rintro e w4 ⟨rfl, hfs, hb4⟩
  have HF4 := Aside0.mk hfs
  have HO4 := Aside0.mk (HO3.out.bg hb4 hne)
  have HB4 := Aside0.mk (HB3.out.trans hb4)
  clear hfs hb4
  obtain ⟨q0, q1, q2, q3⟩ := HO4.out.c4
  have f3 := HO4.out.fz
  go_wp2_with fail
  go_end0
  refine ⟨rfl, ?_, ?_, (Bg2.of HB4.out).set 3 _⟩
  ·rw [EG.out]
   exact blk_put (cs := #[.int .u8 k, .int .u64 a, .int .u64 b, .string s]) HO4.out 3 _ rfl
  ·rw [EG.out]
   show FS _ base g l (sp || true)
   rw [Bool.or_true]
   exact HF4.out.low (p := ⟨ob, 3, none⟩) hob hbg _
end Go.Proofs.YtdilbnggedidnaaGreat.PVal
namespace Go.Proofs.YtdilbnggedidnaaGreat.PVal
open Go.RowKit Go.Shelf Go.Proofs.YtdilbnggedidnaaGreatW.PrintWords Go.Proofs.YtdilbnggedidnaaGreatW.PrintLast
set_option linter.unusedVariables false
set_option linter.unusedSimpArgs false
theorem results53 (tmps : Array Value) (w : World) (g : Nat) (cs : Array Value) (n : Int) (hcs : cs.size = 4) (hp : tmps.getD 2 undef = .pointer (some ⟨g, 0, none⟩)) (hg : Blk w g cs 37) (hb : tmps.getD 3 undef = .int .i64 n) :
  (results Tryz.f13 tmps).run Tryz.prog w = .ok (.tuple #[.agg cs, .int .i64 n]) w := by
 have h1 : tmps[2]?.getD undef = .pointer (some ⟨g, 0, none⟩) := by simpa using hp
 have h2 : tmps[3]?.getD undef = .int .i64 n := by simpa using hb
 have hi : (Tryz.prog.info? 37).map (·.size) = some cs.size := by rw [hcs]; kernel_rfl
 have hr := run_loadVar_row (P := Tryz.prog) w g 37 37 cs (0, 0) _ hg Tryz.underlying37 rfl hi
 simp [results, Tryz.f13, h1, h2, asAddr, hr]
def OutErr (r : Option Out) (w : World) (e : Ending) (w' : World) : Prop :=
 e = .returned (.tuple #[.agg #[.int .u8 (r.getD zOut).k, .int .u64 (r.getD zOut).a, .int .u64 (r.getD zOut).b, .string (r.getD zOut).cond], .int .i64 (if r.isSome then 0 else 6)]) ∧ Below w.heap.size w w'
def GetS (w : World) (v : S25) (A : Option Addr) (c : Nat) (b0 b1 bF : Nat) (wr : World) : Prop := Blk wr b0 #[.int .u8 v.f0, .int .u64 v.f1, .string v.f2, .slice A v.f3.length c] 25 ∧ Blk wr b1 #[.int .u8 0, .int .u64 0, .int .u64 0, .string ⟨#[]⟩] 37 ∧ Blk wr bF formC 64 ∧ k25.C wr A v.f3.length v.f3 ∧ Below w.heap.size w wr
theorem GetS.below {w : World} {v : S25} {A : Option Addr} {c b0 b1 bF : Nat} {wr wx : World} (h : GetS w v A c b0 b1 bF wr) (hb : Below wr.heap.size wr wx) : GetS w v A c b0 b1 bF wx := ⟨h.1.below hb, h.2.1.below hb, h.2.2.1.below hb, Kd.C_below h.2.2.2.1 hb, below_step h.2.2.2.2 hb⟩
theorem getFrom_none {v : S25} {n : Nat} {k : Int} (h : newF v (34 + k) (nmO k) = none) : getFrom v (n + 1) k = getFrom v n (k + 1) := by rw [getFrom, h]
theorem getFrom_some {v : S25} {n : Nat} {k : Int} {l : List S25} (h : newF v (34 + k) (nmO k) = some l) : getFrom v (n + 1) k = getK k l := by rw [getFrom, h]
theorem getK_1 (l : List S25) : getK 1 l = if doneN l (spoilP l 0 true K5 || spoilP l 1 true K6) 2 = 0 then some ⟨1, tellP l 0 K5 (fun x => x.f1) 0, tellP l 1 K6 (fun x => x.f1) 0, ⟨#[]⟩⟩ else none := rfl
theorem getK_2 (l : List S25) : getK 2 l = if doneN l false 0 = 0 then some ⟨2, 0, 0, ⟨#[]⟩⟩ else none := rfl
theorem getK_3 (l : List S25) : getK 3 l = if doneN l (!(getCondF ((atF l 0).getD vNul)).isSome) 1 = 0 then some ⟨3, 0, 0, (getCondF ((atF l 0).getD vNul)).getD ⟨#[]⟩⟩ else none := rfl
theorem getK_4 (l : List S25) : getK 4 l = if doneN l false 0 = 0 then some ⟨4, 0, 0, ⟨#[]⟩⟩ else none := rfl
theorem getK_5 (l : List S25) : getK 5 l = if doneN l ((spoilP l 0 false K2 || spoilP l 1 false K2) || spoilP l 2 false K23) 3 = 0 then some ⟨5, tellP l 0 K2 (fun x => x.f1) 0, tellP l 1 K2 (fun x => x.f1) 0, ⟨#[]⟩⟩ else none := rfl
theorem newF_ok {v : S25} {code : Int} {name : ByteArray} {l : List S25} (ho : okV v) (h : newF v code name = some l) : okL l := by
 obtain ⟨hr, h25, _, rfl⟩ := newF_right h
 obtain ⟨a, b, hab⟩ := desc_two hr h25
 have hb : rd_T25 v.f3 1 = b := by rw [hab]; rfl
 rw [okV_eq, hab, okL, okL, okV_eq b] at ho
 rw [hb]
 exact ho.2.2.1.2
theorem put4_any {W : World} {r : Nat} {z0 z1 z2 z3 : Value} {t : TypeId} (h : Blk W r #[z0, z1, z2, z3] t) (a0 a1 a2 a3 : Value) : Blk ((((W.setCell ⟨r, 0, none⟩ a0).setCell ⟨r, 1, none⟩ a1).setCell ⟨r, 2, none⟩ a2).setCell ⟨r, 3, none⟩ a3) r #[a0, a1, a2, a3] t := put4_blk h a0 a1 a2 a3
theorem below_set4 {w W : World} {r : Nat} {a0 a1 a2 a3 : Value} (h : Below w.heap.size w W) (hr : w.heap.size ≤ r) : Below w.heap.size w ((((W.setCell ⟨r, 0, none⟩ a0).setCell ⟨r, 1, none⟩ a1).setCell ⟨r, 2, none⟩ a2).setCell ⟨r, 3, none⟩ a3) := put4_below h hr a0 a1 a2 a3
theorem get53_any (v : S25) (hs : itemsN v ≤ 4294967296) (ho : okV v) (A : Option Addr) (c : Nat) (w : World) (ha : k25.C w A v.f3.length v.f3) (hc : v.f3.length ≤ c) :
  Calls Tryz.prog 13 #[.agg #[.int .u8 v.f0, .int .u64 v.f1, .string v.f2, .slice A v.f3.length c]] w (OutErr (getOF v) w) := by
 have HO := Aside0.mk ho
 have hal0 := below_alloc (Below.refl w.heap.size w) (.cells #[.int .u8 v.f0, .int .u64 v.f1, .string v.f2, .slice A v.f3.length c] 25)
 have hal := below_alloc hal0 (.cells #[.int .u8 0, .int .u64 0, .int .u64 0, .string ⟨#[]⟩] 37)
 have bV := (Blk.new w #[.int .u8 v.f0, .int .u64 v.f1, .string v.f2, .slice A v.f3.length c] 25).alloc (.cells #[.int .u8 0, .int .u64 0, .int .u64 0, .string ⟨#[]⟩] 37)
 have bR := Blk.new (w.alloc (.cells #[.int .u8 v.f0, .int .u64 v.f1, .string v.f2, .slice A v.f3.length c] 25)) #[.int .u8 0, .int .u64 0, .int .u64 0, .string ⟨#[]⟩] 37
 rw [World.size_alloc] at bR
 have HA1 := Aside0.mk (Kd.C_below ha hal)
 clear ho ha hal0
 go_enter Tryz.func13, Tryz.ntmps13
 go_wp2_with fail
 go_step3
 obtain ⟨w1, e1⟩ : ∃ W, (w.alloc (.cells #[.int .u8 v.f0, .int .u64 v.f1, .string v.f2, .slice A v.f3.length c] 25)).alloc (.cells #[.int .u8 0, .int .u64 0, .int .u64 0, .string ⟨#[]⟩] 37) = W := ⟨_, rfl⟩
 rw [e1] at bV bR hal HA1 ⊢
 clear e1
 have HB1 := Aside0.mk hal
 have BR1 := Aside0.mk bR
 have BV1 := Aside0.mk bV
 obtain ⟨p0, p1, p2, p3⟩ := bV.c4
 clear hal
 by_cases h1 : v.f0 = 1
 ·have HGF : Aside0 (getOF v = some zOut) := ⟨by unfold getOF; rw [if_pos h1]⟩
  have h1' : (v.f0 == 1) = true := by simpa using h1
  clear h1 bV
  obtain ⟨q0, q1, q2, q3⟩ := bR.c4
  have f2 := bR.fz
  clear bR
  go_wp2_with fail
  refine bodyPost_ret (results53 _ _ (w.heap.size + 1) #[.int .u8 0, .int .u64 0, .int .u64 0, .string ⟨#[]⟩] 0 rfl rfl (put4_any BR1.out _ _ _ _) rfl) rfl ?_
  exact ⟨by rw [HGF.out]; rfl, below_set4 HB1.out (by omega)⟩
 have HG0 : Aside0 (getOF v = getFrom v (5 - (0 : Int)).toNat (1 + 0)) := ⟨by unfold getOF; rw [if_neg h1]; rfl⟩
 have h1' : (v.f0 == 1) = false := by simpa using h1
 clear h1 bV bR
 go_wp2_with fail
 go_step3
 go_wp2_with fail
 refine (forms85_any _).mono ?_
 rintro e w3 ⟨rfl, hw3⟩
 clear p0 p1 p2 p3 h1'
 obtain ⟨bF, ebF⟩ : ∃ b, w1.heap.size = b := ⟨_, rfl⟩
 have HS3 : Aside0 (GetS w v A c w.heap.size (w.heap.size + 1) bF w3) := ⟨by
  have hal := below_alloc (Below.refl w1.heap.size w1) (.cells formC 64)
  rw [hw3, ← ebF]
  exact ⟨BV1.out.below hal, BR1.out.below hal, Blk.new w1 formC 64, Kd.C_below HA1.out hal, below_step HB1.out hal⟩⟩
 rw [ebF]
 clear ebF hw3 BV1 BR1 HB1 HA1
 obtain ⟨b0, eb0⟩ : ∃ b, w.heap.size = b := ⟨_, rfl⟩
 obtain ⟨b1, eb1⟩ : ∃ b, w.heap.size + 1 = b := ⟨_, rfl⟩
 rw [eb1, eb0] at HS3 ⊢
 have hw0 : w.heap.size ≤ b0 ∧ w.heap.size ≤ b1 := by omega
 clear eb0 eb1
 go_wp2_with fail
 go_loopg [3, 5, 6, 7, 14] 5 (fun gk v3 v5 v6 v7 v14 wr => ∃ i : Int, v3 = .int .i64 6 ∧ v14 = .int .i64 i ∧ Aside0 (0 ≤ i ∧ i ≤ 5 ∧ gk = (5 - i).toNat) ∧ Aside0 (getOF v = getFrom v (5 - i).toNat (1 + i)) ∧ Aside0 (GetS w v A c b0 b1 bF wr))
 case atStart => exact ⟨0, rfl, rfl, ⟨by omega, by omega, rfl⟩, HG0, HS3⟩
 case round =>
  obtain ⟨i, rfl, rfl, HI, HGF, HSi⟩ := hrel
  obtain ⟨hi0, hi5, hgk⟩ := HI.out
  have HG := Aside0.mk hgk
  clear HI hgk
  by_cases hi : i = 0
  ·subst hi
   have x0 : wr.cell? ⟨bF, 0, none⟩ = some (.int .u8 1) := (blk_cell HSi.out.2.2.1 0).trans rfl
   have x1 : wr.cell? ⟨bF, 1, none⟩ = some (.int .u64 35) := (blk_cell HSi.out.2.2.1 1).trans rfl
   have x2 : wr.cell? ⟨bF, 2, none⟩ = some (.string nmO1) := (blk_cell HSi.out.2.2.1 2).trans rfl
   have x3 : wr.cell? ⟨bF, 3, none⟩ = some (.int .i64 2) := (blk_cell HSi.out.2.2.1 3).trans rfl
   have x4 : wr.cell? ⟨bF, 4, none⟩ = some (.func (.func 54) #[] #[]) := (blk_cell HSi.out.2.2.1 4).trans rfl
   have x5 : wr.cell? ⟨bF, 5, none⟩ = some (.func (.func 55) #[] #[]) := (blk_cell HSi.out.2.2.1 5).trans rfl
   have bX := Blk.new wr #[.int .u8 1, .int .u64 35, .string nmO1, .int .i64 2, .func (.func 54) #[] #[], .func (.func 55) #[] #[]] 64
   have hal := below_alloc (Below.refl wr.heap.size wr) (.cells #[.int .u8 1, .int .u64 35, .string nmO1, .int .i64 2, .func (.func 54) #[] #[], .func (.func 55) #[] #[]] 64)
   have HSx := Aside0.mk (HSi.out.below hal)
   have hbr := HSi.out.2.1.lt
   clear hal
   go_upto_region 7 with fail
   obtain ⟨bx, ex⟩ : ∃ b, wr.heap.size = b := ⟨_, rfl⟩
   obtain ⟨wx, ew⟩ : ∃ W, wr.alloc (.cells #[.int .u8 1, .int .u64 35, .string nmO1, .int .i64 2, .func (.func 54) #[] #[], .func (.func 55) #[] #[]] 64) = W := ⟨_, rfl⟩
   rw [ew] at HSx bX ⊢
   rw [ex] at bX hbr ⊢
   clear ex ew x0 x1 x2 x3 x4 x5
   have bV := HSx.out.1
   have BX := Aside0.mk bX
   obtain ⟨y0, y1, y2, y3, y4, y5⟩ := bX.six
   obtain ⟨p0, p1, p2, p3⟩ := bV.c4
   clear bX bV
   have hxl := BX.out.lt
   cases hnew : newF v 35 nmO1 with
   | none =>
    have HN := Aside0.mk hnew
    have HGn : Aside0 (getOF v = getFrom v (5 - (1 : Int)).toNat (1 + 1)) := ⟨HGF.out.trans (getFrom_none (n := 4) (k := 1) hnew)⟩
    clear hnew
    go_wp2_with fail
    refine (new44_no v hs HO.out 35 nmO1 A c _ HSx.out.2.2.2.1 hc HN.out).mono ?_
    rintro e w4 ⟨rfl, hb4⟩
    have HS4 := Aside0.mk (HSx.out.below hb4)
    clear hb4 p0 p1 p2 p3 y0 y1 y2 y3 y4 y5
    go_wp2_with fail
    go_roundg (5 - (1 : Int)).toNat
    case measure => rw [HG.out]; omega
    case rel => exact ⟨1, rfl, by go_num, ⟨by omega, by omega, rfl⟩, HGn, HS4⟩
   | some l =>
    have HN := Aside0.mk hnew
    have hil := newF_items hnew
    have hol := newF_ok HO.out hnew
    have HKI : Aside0 ((∀ x ∈ l, itemsN x ≤ 4294967296) ∧ okL l) := ⟨fun x hx => by have := itemsL_mem hx; omega, hol⟩
    have HGn : Aside0 (getOF v = getK 1 l) := ⟨HGF.out.trans (getFrom_some (n := 4) (k := 1) hnew)⟩
    rw [getK_1] at HGn
    clear hnew hil hol
    go_wp2_with fail
    refine (new44_yes v hs HO.out 35 nmO1 A c _ HSx.out.2.2.2.1 hc HN.out).mono ?_
    rintro e w3 ⟨g, rfl, hgx, hfs, hb3⟩
    have HS3 := Aside0.mk (HSx.out.below hb3)
    have HF3 := Aside0.mk hfs
    have BX3 := Aside0.mk (BX.out.below hb3)
    have hb1 : b1 < wx.heap.size := by omega
    have hw3 := HSx.out.2.2.2.2.size
    clear hb3 p0 p1 p2 p3 y0 y1 y2 y3 y4 y5 hfs
    obtain ⟨y0, y1, y2, y3, y4, y5⟩ := BX3.out.six
    obtain ⟨q0, q1, q2, q3⟩ := HS3.out.2.1.c4
    have f2 := HS3.out.2.1.fz
    go_upto_region 9 with fail
    have HF4 := Aside0.mk (HF3.out.low (p := ⟨b1, 0, none⟩) hb1 hgx (.int .u8 1))
    have HO4 : Aside0 (Blk (w3.setCell ⟨b1, 0, none⟩ (.int .u8 1)) b1 #[.int .u8 1, .int .u64 0, .int .u64 0, .string ⟨#[]⟩] 37) := ⟨blk_put (cs := #[.int .u8 0, .int .u64 0, .int .u64 0, .string ⟨#[]⟩]) HS3.out.2.1 0 _ rfl⟩
    have BX4 := Aside0.mk (BX3.out.far (p := ⟨b1, 0, none⟩) (show bx ≠ b1 by omega) (.int .u8 1))
    have HB4 : Aside0 (Below w.heap.size w (w3.setCell ⟨b1, 0, none⟩ (.int .u8 1))) := ⟨below_set HS3.out.2.2.2.2 (by omega)⟩
    obtain ⟨w4, e4⟩ : ∃ W, w3.setCell ⟨b1, 0, none⟩ (.int .u8 1) = W := ⟨_, rfl⟩
    rw [e4] at HF4 HO4 BX4 HB4 ⊢
    clear e4 y0 y1 y2 y3 y4 y5 q0 q1 q2 q3 f2
    obtain ⟨y0, y1, y2, y3, y4, y5⟩ := BX4.out.six
    go_wp2_with fail
    refine (gets108_any HF4.out hb1 hgx 1 0 0 ⟨#[]⟩ HO4.out).mono ?_
    rintro e w5 ⟨rfl, hO5, hf5, hB5⟩
    replace hf5 : FS w5 wx.heap.size g l (spoilP l 0 true K5 || spoilP l 1 true K6) := hf5
    have HO5 := Aside0.mk hO5
    have HF5 := Aside0.mk hf5
    have BX5 := Aside0.mk (BX4.out.bg2 hB5 (by omega) (by omega))
    have HB5 := Aside0.mk (HB4.out.trans (hB5.below (by omega) (by omega) HB4.out.size))
    clear hO5 hf5 hB5 y0 y1 y2 y3 y4 y5
    obtain ⟨y0, y1, y2, y3, y4, y5⟩ := BX5.out.six
    go_wp2_with fail
    refine (done43_any HF5.out 2).mono ?_
    rintro e w6 ⟨he, rfl⟩
    clear y0 y1 y2 y3 y4 y5
    obtain ⟨q0, q1, q2, q3⟩ := HO5.out.c4
    have f2 := HO5.out.fz
    rcases done_or l (spoilP l 0 true K5 || spoilP l 1 true K6) 2 with hd | hd
    ·rw [if_pos hd] at HGn
     rw [hd] at he
     subst he
     clear hd
     go_wp2_with fail
     refine bodyPost_ret (results53 _ _ b1 #[.int .u8 _, .int .u64 _, .int .u64 _, .string _] 0 rfl rfl (put4_any HO5.out _ _ _ _) rfl) rfl ?_
     exact ⟨by rw [HGn.out]; rfl, below_set4 HB5.out (by omega)⟩
    ·rw [if_neg (by rw [hd]; decide)] at HGn
     rw [hd] at he
     subst he
     clear hd
     go_wp2_with fail
     refine bodyPost_ret (results53 _ _ b1 #[.int .u8 0, .int .u64 0, .int .u64 0, .string ⟨#[]⟩] 6 rfl rfl (put4_any HO5.out _ _ _ _) rfl) rfl ?_
     exact ⟨by rw [HGn.out]; rfl, below_set4 HB5.out (by omega)⟩
  by_cases hi : i = 1
  ·subst hi
   have x0 : wr.cell? ⟨bF, 6, none⟩ = some (.int .u8 2) := (blk_cell HSi.out.2.2.1 6).trans rfl
   have x1 : wr.cell? ⟨bF, 7, none⟩ = some (.int .u64 36) := (blk_cell HSi.out.2.2.1 7).trans rfl
   have x2 : wr.cell? ⟨bF, 8, none⟩ = some (.string nmO2) := (blk_cell HSi.out.2.2.1 8).trans rfl
   have x3 : wr.cell? ⟨bF, 9, none⟩ = some (.int .i64 0) := (blk_cell HSi.out.2.2.1 9).trans rfl
   have x4 : wr.cell? ⟨bF, 10, none⟩ = some (.func (.func 57) #[] #[]) := (blk_cell HSi.out.2.2.1 10).trans rfl
   have x5 : wr.cell? ⟨bF, 11, none⟩ = some (.func (.func 58) #[] #[]) := (blk_cell HSi.out.2.2.1 11).trans rfl
   have bX := Blk.new wr #[.int .u8 2, .int .u64 36, .string nmO2, .int .i64 0, .func (.func 57) #[] #[], .func (.func 58) #[] #[]] 64
   have hal := below_alloc (Below.refl wr.heap.size wr) (.cells #[.int .u8 2, .int .u64 36, .string nmO2, .int .i64 0, .func (.func 57) #[] #[], .func (.func 58) #[] #[]] 64)
   have HSx := Aside0.mk (HSi.out.below hal)
   have hbr := HSi.out.2.1.lt
   clear hal
   go_upto_region 7 with fail
   obtain ⟨bx, ex⟩ : ∃ b, wr.heap.size = b := ⟨_, rfl⟩
   obtain ⟨wx, ew⟩ : ∃ W, wr.alloc (.cells #[.int .u8 2, .int .u64 36, .string nmO2, .int .i64 0, .func (.func 57) #[] #[], .func (.func 58) #[] #[]] 64) = W := ⟨_, rfl⟩
   rw [ew] at HSx bX ⊢
   rw [ex] at bX hbr ⊢
   clear ex ew x0 x1 x2 x3 x4 x5
   have bV := HSx.out.1
   have BX := Aside0.mk bX
   obtain ⟨y0, y1, y2, y3, y4, y5⟩ := bX.six
   obtain ⟨p0, p1, p2, p3⟩ := bV.c4
   clear bX bV
   have hxl := BX.out.lt
   cases hnew : newF v 36 nmO2 with
   | none =>
    have HN := Aside0.mk hnew
    have HGn : Aside0 (getOF v = getFrom v (5 - (2 : Int)).toNat (1 + 2)) := ⟨HGF.out.trans (getFrom_none (n := 3) (k := 2) hnew)⟩
    clear hnew
    go_wp2_with fail
    refine (new44_no v hs HO.out 36 nmO2 A c _ HSx.out.2.2.2.1 hc HN.out).mono ?_
    rintro e w4 ⟨rfl, hb4⟩
    have HS4 := Aside0.mk (HSx.out.below hb4)
    clear hb4 p0 p1 p2 p3 y0 y1 y2 y3 y4 y5
    go_wp2_with fail
    go_roundg (5 - (2 : Int)).toNat
    case measure => rw [HG.out]; omega
    case rel => exact ⟨2, rfl, by go_num, ⟨by omega, by omega, rfl⟩, HGn, HS4⟩
   | some l =>
    have HN := Aside0.mk hnew
    have hil := newF_items hnew
    have hol := newF_ok HO.out hnew
    have HKI : Aside0 ((∀ x ∈ l, itemsN x ≤ 4294967296) ∧ okL l) := ⟨fun x hx => by have := itemsL_mem hx; omega, hol⟩
    have HGn : Aside0 (getOF v = getK 2 l) := ⟨HGF.out.trans (getFrom_some (n := 3) (k := 2) hnew)⟩
    rw [getK_2] at HGn
    clear hnew hil hol
    go_wp2_with fail
    refine (new44_yes v hs HO.out 36 nmO2 A c _ HSx.out.2.2.2.1 hc HN.out).mono ?_
    rintro e w3 ⟨g, rfl, hgx, hfs, hb3⟩
    have HS3 := Aside0.mk (HSx.out.below hb3)
    have HF3 := Aside0.mk hfs
    have BX3 := Aside0.mk (BX.out.below hb3)
    have hb1 : b1 < wx.heap.size := by omega
    have hw3 := HSx.out.2.2.2.2.size
    clear hb3 p0 p1 p2 p3 y0 y1 y2 y3 y4 y5 hfs
    obtain ⟨y0, y1, y2, y3, y4, y5⟩ := BX3.out.six
    obtain ⟨q0, q1, q2, q3⟩ := HS3.out.2.1.c4
    have f2 := HS3.out.2.1.fz
    go_upto_region 9 with fail
    have HF4 := Aside0.mk (HF3.out.low (p := ⟨b1, 0, none⟩) hb1 hgx (.int .u8 2))
    have HO4 : Aside0 (Blk (w3.setCell ⟨b1, 0, none⟩ (.int .u8 2)) b1 #[.int .u8 2, .int .u64 0, .int .u64 0, .string ⟨#[]⟩] 37) := ⟨blk_put (cs := #[.int .u8 0, .int .u64 0, .int .u64 0, .string ⟨#[]⟩]) HS3.out.2.1 0 _ rfl⟩
    have BX4 := Aside0.mk (BX3.out.far (p := ⟨b1, 0, none⟩) (show bx ≠ b1 by omega) (.int .u8 2))
    have HB4 : Aside0 (Below w.heap.size w (w3.setCell ⟨b1, 0, none⟩ (.int .u8 2))) := ⟨below_set HS3.out.2.2.2.2 (by omega)⟩
    obtain ⟨w4, e4⟩ : ∃ W, w3.setCell ⟨b1, 0, none⟩ (.int .u8 2) = W := ⟨_, rfl⟩
    rw [e4] at HF4 HO4 BX4 HB4 ⊢
    clear e4 y0 y1 y2 y3 y4 y5 q0 q1 q2 q3 f2
    obtain ⟨y0, y1, y2, y3, y4, y5⟩ := BX4.out.six
    go_wp2_with fail
    refine (gets110_any HF4.out hb1 hgx 2 0 0 ⟨#[]⟩ HO4.out).mono ?_
    rintro e w5 ⟨rfl, hO5, hf5, hB5⟩
    replace hf5 : FS w5 wx.heap.size g l false := hf5
    have HO5 := Aside0.mk hO5
    have HF5 := Aside0.mk hf5
    have BX5 := Aside0.mk (BX4.out.bg2 hB5 (by omega) (by omega))
    have HB5 := Aside0.mk (HB4.out.trans (hB5.below (by omega) (by omega) HB4.out.size))
    clear hO5 hf5 hB5 y0 y1 y2 y3 y4 y5
    obtain ⟨y0, y1, y2, y3, y4, y5⟩ := BX5.out.six
    go_wp2_with fail
    refine (done43_any HF5.out 0).mono ?_
    rintro e w6 ⟨he, rfl⟩
    clear y0 y1 y2 y3 y4 y5
    obtain ⟨q0, q1, q2, q3⟩ := HO5.out.c4
    have f2 := HO5.out.fz
    rcases done_or l false 0 with hd | hd
    ·rw [if_pos hd] at HGn
     rw [hd] at he
     subst he
     clear hd
     go_wp2_with fail
     refine bodyPost_ret (results53 _ _ b1 #[.int .u8 _, .int .u64 _, .int .u64 _, .string _] 0 rfl rfl (put4_any HO5.out _ _ _ _) rfl) rfl ?_
     exact ⟨by rw [HGn.out]; rfl, below_set4 HB5.out (by omega)⟩
    ·rw [if_neg (by rw [hd]; decide)] at HGn
     rw [hd] at he
     subst he
     clear hd
     go_wp2_with fail
     refine bodyPost_ret (results53 _ _ b1 #[.int .u8 0, .int .u64 0, .int .u64 0, .string ⟨#[]⟩] 6 rfl rfl (put4_any HO5.out _ _ _ _) rfl) rfl ?_
     exact ⟨by rw [HGn.out]; rfl, below_set4 HB5.out (by omega)⟩
  by_cases hi : i = 2
  ·subst hi
   have x0 : wr.cell? ⟨bF, 12, none⟩ = some (.int .u8 3) := (blk_cell HSi.out.2.2.1 12).trans rfl
   have x1 : wr.cell? ⟨bF, 13, none⟩ = some (.int .u64 37) := (blk_cell HSi.out.2.2.1 13).trans rfl
   have x2 : wr.cell? ⟨bF, 14, none⟩ = some (.string nmO3) := (blk_cell HSi.out.2.2.1 14).trans rfl
   have x3 : wr.cell? ⟨bF, 15, none⟩ = some (.int .i64 1) := (blk_cell HSi.out.2.2.1 15).trans rfl
   have x4 : wr.cell? ⟨bF, 16, none⟩ = some (.func (.func 59) #[] #[]) := (blk_cell HSi.out.2.2.1 16).trans rfl
   have x5 : wr.cell? ⟨bF, 17, none⟩ = some (.func (.func 60) #[] #[]) := (blk_cell HSi.out.2.2.1 17).trans rfl
   have bX := Blk.new wr #[.int .u8 3, .int .u64 37, .string nmO3, .int .i64 1, .func (.func 59) #[] #[], .func (.func 60) #[] #[]] 64
   have hal := below_alloc (Below.refl wr.heap.size wr) (.cells #[.int .u8 3, .int .u64 37, .string nmO3, .int .i64 1, .func (.func 59) #[] #[], .func (.func 60) #[] #[]] 64)
   have HSx := Aside0.mk (HSi.out.below hal)
   have hbr := HSi.out.2.1.lt
   clear hal
   go_upto_region 7 with fail
   obtain ⟨bx, ex⟩ : ∃ b, wr.heap.size = b := ⟨_, rfl⟩
   obtain ⟨wx, ew⟩ : ∃ W, wr.alloc (.cells #[.int .u8 3, .int .u64 37, .string nmO3, .int .i64 1, .func (.func 59) #[] #[], .func (.func 60) #[] #[]] 64) = W := ⟨_, rfl⟩
   rw [ew] at HSx bX ⊢
   rw [ex] at bX hbr ⊢
   clear ex ew x0 x1 x2 x3 x4 x5
   have bV := HSx.out.1
   have BX := Aside0.mk bX
   obtain ⟨y0, y1, y2, y3, y4, y5⟩ := bX.six
   obtain ⟨p0, p1, p2, p3⟩ := bV.c4
   clear bX bV
   have hxl := BX.out.lt
   cases hnew : newF v 37 nmO3 with
   | none =>
    have HN := Aside0.mk hnew
    have HGn : Aside0 (getOF v = getFrom v (5 - (3 : Int)).toNat (1 + 3)) := ⟨HGF.out.trans (getFrom_none (n := 2) (k := 3) hnew)⟩
    clear hnew
    go_wp2_with fail
    refine (new44_no v hs HO.out 37 nmO3 A c _ HSx.out.2.2.2.1 hc HN.out).mono ?_
    rintro e w4 ⟨rfl, hb4⟩
    have HS4 := Aside0.mk (HSx.out.below hb4)
    clear hb4 p0 p1 p2 p3 y0 y1 y2 y3 y4 y5
    go_wp2_with fail
    go_roundg (5 - (3 : Int)).toNat
    case measure => rw [HG.out]; omega
    case rel => exact ⟨3, rfl, by go_num, ⟨by omega, by omega, rfl⟩, HGn, HS4⟩
   | some l =>
    have HN := Aside0.mk hnew
    have hil := newF_items hnew
    have hol := newF_ok HO.out hnew
    have HKI : Aside0 ((∀ x ∈ l, itemsN x ≤ 4294967296) ∧ okL l) := ⟨fun x hx => by have := itemsL_mem hx; omega, hol⟩
    have HGn : Aside0 (getOF v = getK 3 l) := ⟨HGF.out.trans (getFrom_some (n := 2) (k := 3) hnew)⟩
    rw [getK_3] at HGn
    clear hnew hil hol
    go_wp2_with fail
    refine (new44_yes v hs HO.out 37 nmO3 A c _ HSx.out.2.2.2.1 hc HN.out).mono ?_
    rintro e w3 ⟨g, rfl, hgx, hfs, hb3⟩
    have HS3 := Aside0.mk (HSx.out.below hb3)
    have HF3 := Aside0.mk hfs
    have BX3 := Aside0.mk (BX.out.below hb3)
    have hb1 : b1 < wx.heap.size := by omega
    have hw3 := HSx.out.2.2.2.2.size
    clear hb3 p0 p1 p2 p3 y0 y1 y2 y3 y4 y5 hfs
    obtain ⟨y0, y1, y2, y3, y4, y5⟩ := BX3.out.six
    obtain ⟨q0, q1, q2, q3⟩ := HS3.out.2.1.c4
    have f2 := HS3.out.2.1.fz
    go_upto_region 9 with fail
    have HF4 := Aside0.mk (HF3.out.low (p := ⟨b1, 0, none⟩) hb1 hgx (.int .u8 3))
    have HO4 : Aside0 (Blk (w3.setCell ⟨b1, 0, none⟩ (.int .u8 3)) b1 #[.int .u8 3, .int .u64 0, .int .u64 0, .string ⟨#[]⟩] 37) := ⟨blk_put (cs := #[.int .u8 0, .int .u64 0, .int .u64 0, .string ⟨#[]⟩]) HS3.out.2.1 0 _ rfl⟩
    have BX4 := Aside0.mk (BX3.out.far (p := ⟨b1, 0, none⟩) (show bx ≠ b1 by omega) (.int .u8 3))
    have HB4 : Aside0 (Below w.heap.size w (w3.setCell ⟨b1, 0, none⟩ (.int .u8 3))) := ⟨below_set HS3.out.2.2.2.2 (by omega)⟩
    obtain ⟨w4, e4⟩ : ∃ W, w3.setCell ⟨b1, 0, none⟩ (.int .u8 3) = W := ⟨_, rfl⟩
    rw [e4] at HF4 HO4 BX4 HB4 ⊢
    clear e4 y0 y1 y2 y3 y4 y5 q0 q1 q2 q3 f2
    obtain ⟨y0, y1, y2, y3, y4, y5⟩ := BX4.out.six
    go_wp2_with fail
    refine (gets112_any HF4.out hb1 hgx HKI.out.1 HKI.out.2 3 0 0 ⟨#[]⟩ HO4.out).mono ?_
    rintro e w5 ⟨rfl, hO5, hf5, hB5⟩
    replace hf5 : FS w5 wx.heap.size g l (!(getCondF ((atF l 0).getD vNul)).isSome) := hf5
    have HO5 := Aside0.mk hO5
    have HF5 := Aside0.mk hf5
    have BX5 := Aside0.mk (BX4.out.bg2 hB5 (by omega) (by omega))
    have HB5 := Aside0.mk (HB4.out.trans (hB5.below (by omega) (by omega) HB4.out.size))
    clear hO5 hf5 hB5 y0 y1 y2 y3 y4 y5
    obtain ⟨y0, y1, y2, y3, y4, y5⟩ := BX5.out.six
    go_wp2_with fail
    refine (done43_any HF5.out 1).mono ?_
    rintro e w6 ⟨he, rfl⟩
    clear y0 y1 y2 y3 y4 y5
    obtain ⟨q0, q1, q2, q3⟩ := HO5.out.c4
    have f2 := HO5.out.fz
    rcases done_or l (!(getCondF ((atF l 0).getD vNul)).isSome) 1 with hd | hd
    ·rw [if_pos hd] at HGn
     rw [hd] at he
     subst he
     clear hd
     go_wp2_with fail
     refine bodyPost_ret (results53 _ _ b1 #[.int .u8 _, .int .u64 _, .int .u64 _, .string _] 0 rfl rfl (put4_any HO5.out _ _ _ _) rfl) rfl ?_
     exact ⟨by rw [HGn.out]; rfl, below_set4 HB5.out (by omega)⟩
    ·rw [if_neg (by rw [hd]; decide)] at HGn
     rw [hd] at he
     subst he
     clear hd
     go_wp2_with fail
     refine bodyPost_ret (results53 _ _ b1 #[.int .u8 0, .int .u64 0, .int .u64 0, .string ⟨#[]⟩] 6 rfl rfl (put4_any HO5.out _ _ _ _) rfl) rfl ?_
     exact ⟨by rw [HGn.out]; rfl, below_set4 HB5.out (by omega)⟩
  by_cases hi : i = 3
  ·subst hi
   have x0 : wr.cell? ⟨bF, 18, none⟩ = some (.int .u8 4) := (blk_cell HSi.out.2.2.1 18).trans rfl
   have x1 : wr.cell? ⟨bF, 19, none⟩ = some (.int .u64 38) := (blk_cell HSi.out.2.2.1 19).trans rfl
   have x2 : wr.cell? ⟨bF, 20, none⟩ = some (.string nmO4) := (blk_cell HSi.out.2.2.1 20).trans rfl
   have x3 : wr.cell? ⟨bF, 21, none⟩ = some (.int .i64 0) := (blk_cell HSi.out.2.2.1 21).trans rfl
   have x4 : wr.cell? ⟨bF, 22, none⟩ = some (.func (.func 57) #[] #[]) := (blk_cell HSi.out.2.2.1 22).trans rfl
   have x5 : wr.cell? ⟨bF, 23, none⟩ = some (.func (.func 58) #[] #[]) := (blk_cell HSi.out.2.2.1 23).trans rfl
   have bX := Blk.new wr #[.int .u8 4, .int .u64 38, .string nmO4, .int .i64 0, .func (.func 57) #[] #[], .func (.func 58) #[] #[]] 64
   have hal := below_alloc (Below.refl wr.heap.size wr) (.cells #[.int .u8 4, .int .u64 38, .string nmO4, .int .i64 0, .func (.func 57) #[] #[], .func (.func 58) #[] #[]] 64)
   have HSx := Aside0.mk (HSi.out.below hal)
   have hbr := HSi.out.2.1.lt
   clear hal
   go_upto_region 7 with fail
   obtain ⟨bx, ex⟩ : ∃ b, wr.heap.size = b := ⟨_, rfl⟩
   obtain ⟨wx, ew⟩ : ∃ W, wr.alloc (.cells #[.int .u8 4, .int .u64 38, .string nmO4, .int .i64 0, .func (.func 57) #[] #[], .func (.func 58) #[] #[]] 64) = W := ⟨_, rfl⟩
   rw [ew] at HSx bX ⊢
   rw [ex] at bX hbr ⊢
   clear ex ew x0 x1 x2 x3 x4 x5
   have bV := HSx.out.1
   have BX := Aside0.mk bX
   obtain ⟨y0, y1, y2, y3, y4, y5⟩ := bX.six
   obtain ⟨p0, p1, p2, p3⟩ := bV.c4
   clear bX bV
   have hxl := BX.out.lt
   cases hnew : newF v 38 nmO4 with
   | none =>
    have HN := Aside0.mk hnew
    have HGn : Aside0 (getOF v = getFrom v (5 - (4 : Int)).toNat (1 + 4)) := ⟨HGF.out.trans (getFrom_none (n := 1) (k := 4) hnew)⟩
    clear hnew
    go_wp2_with fail
    refine (new44_no v hs HO.out 38 nmO4 A c _ HSx.out.2.2.2.1 hc HN.out).mono ?_
    rintro e w4 ⟨rfl, hb4⟩
    have HS4 := Aside0.mk (HSx.out.below hb4)
    clear hb4 p0 p1 p2 p3 y0 y1 y2 y3 y4 y5
    go_wp2_with fail
    go_roundg (5 - (4 : Int)).toNat
    case measure => rw [HG.out]; omega
    case rel => exact ⟨4, rfl, by go_num, ⟨by omega, by omega, rfl⟩, HGn, HS4⟩
   | some l =>
    have HN := Aside0.mk hnew
    have hil := newF_items hnew
    have hol := newF_ok HO.out hnew
    have HKI : Aside0 ((∀ x ∈ l, itemsN x ≤ 4294967296) ∧ okL l) := ⟨fun x hx => by have := itemsL_mem hx; omega, hol⟩
    have HGn : Aside0 (getOF v = getK 4 l) := ⟨HGF.out.trans (getFrom_some (n := 1) (k := 4) hnew)⟩
    rw [getK_4] at HGn
    clear hnew hil hol
    go_wp2_with fail
    refine (new44_yes v hs HO.out 38 nmO4 A c _ HSx.out.2.2.2.1 hc HN.out).mono ?_
    rintro e w3 ⟨g, rfl, hgx, hfs, hb3⟩
    have HS3 := Aside0.mk (HSx.out.below hb3)
    have HF3 := Aside0.mk hfs
    have BX3 := Aside0.mk (BX.out.below hb3)
    have hb1 : b1 < wx.heap.size := by omega
    have hw3 := HSx.out.2.2.2.2.size
    clear hb3 p0 p1 p2 p3 y0 y1 y2 y3 y4 y5 hfs
    obtain ⟨y0, y1, y2, y3, y4, y5⟩ := BX3.out.six
    obtain ⟨q0, q1, q2, q3⟩ := HS3.out.2.1.c4
    have f2 := HS3.out.2.1.fz
    go_upto_region 9 with fail
    have HF4 := Aside0.mk (HF3.out.low (p := ⟨b1, 0, none⟩) hb1 hgx (.int .u8 4))
    have HO4 : Aside0 (Blk (w3.setCell ⟨b1, 0, none⟩ (.int .u8 4)) b1 #[.int .u8 4, .int .u64 0, .int .u64 0, .string ⟨#[]⟩] 37) := ⟨blk_put (cs := #[.int .u8 0, .int .u64 0, .int .u64 0, .string ⟨#[]⟩]) HS3.out.2.1 0 _ rfl⟩
    have BX4 := Aside0.mk (BX3.out.far (p := ⟨b1, 0, none⟩) (show bx ≠ b1 by omega) (.int .u8 4))
    have HB4 : Aside0 (Below w.heap.size w (w3.setCell ⟨b1, 0, none⟩ (.int .u8 4))) := ⟨below_set HS3.out.2.2.2.2 (by omega)⟩
    obtain ⟨w4, e4⟩ : ∃ W, w3.setCell ⟨b1, 0, none⟩ (.int .u8 4) = W := ⟨_, rfl⟩
    rw [e4] at HF4 HO4 BX4 HB4 ⊢
    clear e4 y0 y1 y2 y3 y4 y5 q0 q1 q2 q3 f2
    obtain ⟨y0, y1, y2, y3, y4, y5⟩ := BX4.out.six
    go_wp2_with fail
    refine (gets110_any HF4.out hb1 hgx 4 0 0 ⟨#[]⟩ HO4.out).mono ?_
    rintro e w5 ⟨rfl, hO5, hf5, hB5⟩
    replace hf5 : FS w5 wx.heap.size g l false := hf5
    have HO5 := Aside0.mk hO5
    have HF5 := Aside0.mk hf5
    have BX5 := Aside0.mk (BX4.out.bg2 hB5 (by omega) (by omega))
    have HB5 := Aside0.mk (HB4.out.trans (hB5.below (by omega) (by omega) HB4.out.size))
    clear hO5 hf5 hB5 y0 y1 y2 y3 y4 y5
    obtain ⟨y0, y1, y2, y3, y4, y5⟩ := BX5.out.six
    go_wp2_with fail
    refine (done43_any HF5.out 0).mono ?_
    rintro e w6 ⟨he, rfl⟩
    clear y0 y1 y2 y3 y4 y5
    obtain ⟨q0, q1, q2, q3⟩ := HO5.out.c4
    have f2 := HO5.out.fz
    rcases done_or l false 0 with hd | hd
    ·rw [if_pos hd] at HGn
     rw [hd] at he
     subst he
     clear hd
     go_wp2_with fail
     refine bodyPost_ret (results53 _ _ b1 #[.int .u8 _, .int .u64 _, .int .u64 _, .string _] 0 rfl rfl (put4_any HO5.out _ _ _ _) rfl) rfl ?_
     exact ⟨by rw [HGn.out]; rfl, below_set4 HB5.out (by omega)⟩
    ·rw [if_neg (by rw [hd]; decide)] at HGn
     rw [hd] at he
     subst he
     clear hd
     go_wp2_with fail
     refine bodyPost_ret (results53 _ _ b1 #[.int .u8 0, .int .u64 0, .int .u64 0, .string ⟨#[]⟩] 6 rfl rfl (put4_any HO5.out _ _ _ _) rfl) rfl ?_
     exact ⟨by rw [HGn.out]; rfl, below_set4 HB5.out (by omega)⟩
  by_cases hi : i = 4
  ·subst hi
   have x0 : wr.cell? ⟨bF, 24, none⟩ = some (.int .u8 5) := (blk_cell HSi.out.2.2.1 24).trans rfl
   have x1 : wr.cell? ⟨bF, 25, none⟩ = some (.int .u64 39) := (blk_cell HSi.out.2.2.1 25).trans rfl
   have x2 : wr.cell? ⟨bF, 26, none⟩ = some (.string nmO5) := (blk_cell HSi.out.2.2.1 26).trans rfl
   have x3 : wr.cell? ⟨bF, 27, none⟩ = some (.int .i64 3) := (blk_cell HSi.out.2.2.1 27).trans rfl
   have x4 : wr.cell? ⟨bF, 28, none⟩ = some (.func (.func 62) #[] #[]) := (blk_cell HSi.out.2.2.1 28).trans rfl
   have x5 : wr.cell? ⟨bF, 29, none⟩ = some (.func (.func 64) #[] #[]) := (blk_cell HSi.out.2.2.1 29).trans rfl
   have bX := Blk.new wr #[.int .u8 5, .int .u64 39, .string nmO5, .int .i64 3, .func (.func 62) #[] #[], .func (.func 64) #[] #[]] 64
   have hal := below_alloc (Below.refl wr.heap.size wr) (.cells #[.int .u8 5, .int .u64 39, .string nmO5, .int .i64 3, .func (.func 62) #[] #[], .func (.func 64) #[] #[]] 64)
   have HSx := Aside0.mk (HSi.out.below hal)
   have hbr := HSi.out.2.1.lt
   clear hal
   go_upto_region 7 with fail
   obtain ⟨bx, ex⟩ : ∃ b, wr.heap.size = b := ⟨_, rfl⟩
   obtain ⟨wx, ew⟩ : ∃ W, wr.alloc (.cells #[.int .u8 5, .int .u64 39, .string nmO5, .int .i64 3, .func (.func 62) #[] #[], .func (.func 64) #[] #[]] 64) = W := ⟨_, rfl⟩
   rw [ew] at HSx bX ⊢
   rw [ex] at bX hbr ⊢
   clear ex ew x0 x1 x2 x3 x4 x5
   have bV := HSx.out.1
   have BX := Aside0.mk bX
   obtain ⟨y0, y1, y2, y3, y4, y5⟩ := bX.six
   obtain ⟨p0, p1, p2, p3⟩ := bV.c4
   clear bX bV
   have hxl := BX.out.lt
   cases hnew : newF v 39 nmO5 with
   | none =>
    have HN := Aside0.mk hnew
    have HGn : Aside0 (getOF v = getFrom v (5 - (5 : Int)).toNat (1 + 5)) := ⟨HGF.out.trans (getFrom_none (n := 0) (k := 5) hnew)⟩
    clear hnew
    go_wp2_with fail
    refine (new44_no v hs HO.out 39 nmO5 A c _ HSx.out.2.2.2.1 hc HN.out).mono ?_
    rintro e w4 ⟨rfl, hb4⟩
    have HS4 := Aside0.mk (HSx.out.below hb4)
    clear hb4 p0 p1 p2 p3 y0 y1 y2 y3 y4 y5
    go_wp2_with fail
    go_roundg (5 - (5 : Int)).toNat
    case measure => rw [HG.out]; omega
    case rel => exact ⟨5, rfl, by go_num, ⟨by omega, by omega, rfl⟩, HGn, HS4⟩
   | some l =>
    have HN := Aside0.mk hnew
    have hil := newF_items hnew
    have hol := newF_ok HO.out hnew
    have HKI : Aside0 ((∀ x ∈ l, itemsN x ≤ 4294967296) ∧ okL l) := ⟨fun x hx => by have := itemsL_mem hx; omega, hol⟩
    have HGn : Aside0 (getOF v = getK 5 l) := ⟨HGF.out.trans (getFrom_some (n := 0) (k := 5) hnew)⟩
    rw [getK_5] at HGn
    clear hnew hil hol
    go_wp2_with fail
    refine (new44_yes v hs HO.out 39 nmO5 A c _ HSx.out.2.2.2.1 hc HN.out).mono ?_
    rintro e w3 ⟨g, rfl, hgx, hfs, hb3⟩
    have HS3 := Aside0.mk (HSx.out.below hb3)
    have HF3 := Aside0.mk hfs
    have BX3 := Aside0.mk (BX.out.below hb3)
    have hb1 : b1 < wx.heap.size := by omega
    have hw3 := HSx.out.2.2.2.2.size
    clear hb3 p0 p1 p2 p3 y0 y1 y2 y3 y4 y5 hfs
    obtain ⟨y0, y1, y2, y3, y4, y5⟩ := BX3.out.six
    obtain ⟨q0, q1, q2, q3⟩ := HS3.out.2.1.c4
    have f2 := HS3.out.2.1.fz
    go_upto_region 9 with fail
    have HF4 := Aside0.mk (HF3.out.low (p := ⟨b1, 0, none⟩) hb1 hgx (.int .u8 5))
    have HO4 : Aside0 (Blk (w3.setCell ⟨b1, 0, none⟩ (.int .u8 5)) b1 #[.int .u8 5, .int .u64 0, .int .u64 0, .string ⟨#[]⟩] 37) := ⟨blk_put (cs := #[.int .u8 0, .int .u64 0, .int .u64 0, .string ⟨#[]⟩]) HS3.out.2.1 0 _ rfl⟩
    have BX4 := Aside0.mk (BX3.out.far (p := ⟨b1, 0, none⟩) (show bx ≠ b1 by omega) (.int .u8 5))
    have HB4 : Aside0 (Below w.heap.size w (w3.setCell ⟨b1, 0, none⟩ (.int .u8 5))) := ⟨below_set HS3.out.2.2.2.2 (by omega)⟩
    obtain ⟨w4, e4⟩ : ∃ W, w3.setCell ⟨b1, 0, none⟩ (.int .u8 5) = W := ⟨_, rfl⟩
    rw [e4] at HF4 HO4 BX4 HB4 ⊢
    clear e4 y0 y1 y2 y3 y4 y5 q0 q1 q2 q3 f2
    obtain ⟨y0, y1, y2, y3, y4, y5⟩ := BX4.out.six
    go_wp2_with fail
    refine (gets115_any HF4.out hb1 hgx HKI.out.1 5 0 0 ⟨#[]⟩ HO4.out).mono ?_
    rintro e w5 ⟨rfl, hO5, hf5, hB5⟩
    replace hf5 : FS w5 wx.heap.size g l ((spoilP l 0 false K2 || spoilP l 1 false K2) || spoilP l 2 false K23) := hf5
    have HO5 := Aside0.mk hO5
    have HF5 := Aside0.mk hf5
    have BX5 := Aside0.mk (BX4.out.bg2 hB5 (by omega) (by omega))
    have HB5 := Aside0.mk (HB4.out.trans (hB5.below (by omega) (by omega) HB4.out.size))
    clear hO5 hf5 hB5 y0 y1 y2 y3 y4 y5
    obtain ⟨y0, y1, y2, y3, y4, y5⟩ := BX5.out.six
    go_wp2_with fail
    refine (done43_any HF5.out 3).mono ?_
    rintro e w6 ⟨he, rfl⟩
    clear y0 y1 y2 y3 y4 y5
    obtain ⟨q0, q1, q2, q3⟩ := HO5.out.c4
    have f2 := HO5.out.fz
    rcases done_or l ((spoilP l 0 false K2 || spoilP l 1 false K2) || spoilP l 2 false K23) 3 with hd | hd
    ·rw [if_pos hd] at HGn
     rw [hd] at he
     subst he
     clear hd
     go_wp2_with fail
     refine bodyPost_ret (results53 _ _ b1 #[.int .u8 _, .int .u64 _, .int .u64 _, .string _] 0 rfl rfl (put4_any HO5.out _ _ _ _) rfl) rfl ?_
     exact ⟨by rw [HGn.out]; rfl, below_set4 HB5.out (by omega)⟩
    ·rw [if_neg (by rw [hd]; decide)] at HGn
     rw [hd] at he
     subst he
     clear hd
     go_wp2_with fail
     refine bodyPost_ret (results53 _ _ b1 #[.int .u8 0, .int .u64 0, .int .u64 0, .string ⟨#[]⟩] 6 rfl rfl (put4_any HO5.out _ _ _ _) rfl) rfl ?_
     exact ⟨by rw [HGn.out]; rfl, below_set4 HB5.out (by omega)⟩
  ·obtain rfl : i = 5 := by omega
   have BR4 := Aside0.mk HSi.out.2.1
   have HB4 := Aside0.mk HSi.out.2.2.2.2
   have HGn : Aside0 (getOF v = none) := ⟨HGF.out⟩
   obtain ⟨q0, q1, q2, q3⟩ := BR4.out.c4
   have f2 := BR4.out.fz
   go_wp2_with fail
   refine bodyPost_ret (results53 _ _ b1 #[.int .u8 0, .int .u64 0, .int .u64 0, .string ⟨#[]⟩] 6 rfl rfl (put4_any BR4.out _ _ _ _) rfl) rfl ?_
   exact ⟨by rw [HGn.out]; rfl, below_set4 HB4.out hw0.2⟩
end Go.Proofs.YtdilbnggedidnaaGreat.PVal
namespace Go.Proofs.YtdilbnggedidnaaGreat.PVal
open Go.RowKit Go.Shelf Go.Proofs.YtdilbnggedidnaaGreatW.PrintWords Go.Proofs.YtdilbnggedidnaaGreatW.PrintLast
set_option linter.unusedVariables false
set_option linter.unusedSimpArgs false
theorem eqA72 (d : Nat) (w : World) (x0 y0 : Int) (x1 y1 : Int) (x2 y2 : Int) (x3 y3 : ByteArray) :
  (Op.equalIn (d + 2) 37 (.agg #[.int .u8 x0, .int .u64 x1, .int .u64 x2, .string x3]) (.agg #[.int .u8 y0, .int .u64 y1, .int .u64 y2, .string y3])).run Tryz.prog w = .ok (x0 == y0 && (x1 == y1 && (x2 == y2 && (x3.toList == y3.toList)))) w := by
 refine eqA_of Tryz.underlying37 (by kernel_rfl) ?_
 refine eqf_cons (by rfl) (by go_simp; rfl) (by go_simp; rfl) (by go_simp) ?_
 refine eqf_cons (by rfl) (by go_simp; rfl) (by go_simp; rfl) (by go_simp) ?_
 refine eqf_cons (by rfl) (by go_simp; rfl) (by go_simp; rfl) (by go_simp) ?_
 exact eqf_last (by rfl) (by go_simp; rfl) (by go_simp; rfl) (by go_simp)
attribute [local go_sem] eqA72
theorem condV_ok {s : ByteArray} (hs : s.size ≤ 4294967290) : okV (condV s) := by
 unfold condV
 split
 ·exact ok_vb _ (by kernel_rfl)
 ·refine okV_put ⟨by omega, by omega⟩ ?_
  rw [okL, okL]
  unfold symV
  rw [okV, okL]
  exact ⟨⟨⟨⟨by omega, by omega⟩, hs⟩, trivial⟩, trivial⟩
theorem truthV_ok (n : Int) : okV (truthV n) := by
 unfold truthV
 split <;> exact ok_vb _ (by kernel_rfl)
theorem numV_ok {k n : Int} (h : u64R n) : okV (numV k n) := by
 unfold numV
 rw [okV, okL]
 exact ⟨⟨h, by decide⟩, trivial⟩
theorem putOV_ok {o : Out} (hk : 0 ≤ o.k ∧ o.k ≤ 255) (ha : u64R o.a) (hb : u64R o.b) (hs : o.cond.size ≤ 4294967290) : okV (putOV o) := by
 unfold putOV
 split
 ·exact ok_vb _ (by kernel_rfl)
 ·refine okV_put ⟨by omega, by omega⟩ ?_
  unfold putL
  split
  ·rw [okL, okL, okL]; exact ⟨numV_ok ha, numV_ok hb, trivial⟩
  ·split
   ·rw [okL, okL]; exact ⟨condV_ok hs, trivial⟩
   ·split
    ·rw [okL, okL, okL]; exact ⟨truthV_ok _, truthV_ok _, trivial⟩
    ·rw [okL]; trivial
theorem tell_u64 {l : List S25} (ho : okL l) (i : Int) (P : S25 → Bool) : u64R (tellP l i P (fun x => x.f1) 0) := by
 unfold tellP
 cases h : atF l i with
 | none =>
  show u64R 0
  exact ⟨by decide, by decide⟩
 | some x =>
  have := okL_mem ho (atF_mem h)
  rw [okV_eq] at this
  show u64R (if P x then x.f1 else 0)
  split
  ·exact this.1.1
  ·exact ⟨by decide, by decide⟩
theorem tell_size {l : List S25} (ho : okL l) (i : Int) (P : S25 → Bool) : (tellP l i P (fun x => x.f2) ⟨#[]⟩).size ≤ 4294967290 := by
 unfold tellP
 cases h : atF l i with
 | none => exact Nat.zero_le _
 | some x =>
  have := okL_mem ho (atF_mem h)
  rw [okV_eq] at this
  show (if P x then x.f2 else ⟨#[]⟩).size ≤ _
  split
  ·exact this.1.2
  ·exact Nat.zero_le _
theorem getCond_size {v : S25} (ho : okV v) {s : ByteArray} (h : getCondF v = some s) : s.size ≤ 4294967290 := by
 unfold getCondF at h
 split at h
 ·rw [← Option.some.inj h]; exact Nat.zero_le _
 ·split at h
  ·cases h
  ·rename_i l hl
   split at h
   ·rw [← Option.some.inj h]; exact tell_size (newF_ok ho hl) _ _
   ·cases h
theorem getK_ok {k : Int} {l : List S25} {o : Out} (ho : okL l) (h : getK k l = some o) : u64R o.a ∧ u64R o.b ∧ o.cond.size ≤ 4294967290 := by
 have z : u64R 0 := ⟨by decide, by decide⟩
 have zs : (⟨#[]⟩ : ByteArray).size ≤ 4294967290 := Nat.zero_le _
 unfold getK at h
 split at h
 ·split at h
  ·rw [← Option.some.inj h]; exact ⟨tell_u64 ho _ _, tell_u64 ho _ _, zs⟩
  ·cases h
 split at h
 ·have h' := h
  simp only [] at h'
  split at h'
  ·rw [← Option.some.inj h']
   refine ⟨z, z, ?_⟩
   cases hg : getCondF ((atF l 0).getD vNul) with
   | none => exact zs
   | some s =>
    refine getCond_size ?_ hg
    cases hq : atF l 0 with
    | none => exact ok_vb _ (by kernel_rfl)
    | some x => exact okL_mem ho (atF_mem hq)
  ·cases h'
 split at h
 ·split at h
  ·rw [← Option.some.inj h]; exact ⟨tell_u64 ho _ _, tell_u64 ho _ _, zs⟩
  ·cases h
 ·split at h
  ·rw [← Option.some.inj h]; exact ⟨z, z, zs⟩
  ·cases h
theorem getFrom_ok {v : S25} {o : Out} (ho : okV v) : ∀ {n : Nat} {k : Int}, getFrom v n k = some o → u64R o.a ∧ u64R o.b ∧ o.cond.size ≤ 4294967290
 | 0, _, h => by cases h
 | n + 1, k, h => by
  rw [getFrom] at h
  split at h
  ·exact getFrom_ok ho (n := n) h
  ·rename_i l hl
   exact getK_ok (newF_ok ho hl) h
theorem getOF_ok {v : S25} {o : Out} (ho : okV v) (h : getOF v = some o) : u64R o.a ∧ u64R o.b ∧ o.cond.size ≤ 4294967290 := by
 unfold getOF at h
 split at h
 ·rw [← Option.some.inj h]; exact ⟨⟨by decide, by decide⟩, ⟨by decide, by decide⟩, Nat.zero_le _⟩
 ·exact getFrom_ok ho h
theorem right_items {v : S25} (h : rightB v = true) : itemsN v ≤ 4294967296 := by
 unfold rightB at h
 simp only [Bool.and_eq_true, decide_eq_true_eq] at h
 omega
def nfO : Out := ⟨3, 0, 0, ⟨#[97, 109, 113, 112, 58, 110, 111, 116, 45, 102, 111, 117, 110, 100]⟩⟩
theorem nf_may : mayO nfO = true := by kernel_rfl
theorem nf_shape : (putOV nfO).f0 = 25 ∧ (putOV nfO).f3.length = 2 ∧ (rd_T25 (putOV nfO).f3 0).f1 = 37 := ⟨by kernel_rfl, by kernel_rfl, by kernel_rfl⟩
theorem one_not : getOF ⟨5, 1, ⟨#[]⟩, []⟩ = none := by kernel_rfl
theorem works51_any (w : World) : Calls Tryz.prog 6 #[] w fun e w' => e = .returned (.bool true) ∧ Below w.heap.size w w' := by
 have HSH := Aside0.mk nf_shape
 obtain ⟨hget, hright⟩ := get_put nf_may (show (0 : Int) ≤ 0 by decide) (show (0 : Int) ≤ 0 by decide)
 have HGET := Aside0.mk hget
 have hit := right_items hright
 have HOK := Aside0.mk (putOV_ok (o := nfO) (show (0 : Int) ≤ 3 ∧ (3 : Int) ≤ 255 by decide) ⟨by decide, by decide⟩ ⟨by decide, by decide⟩ (by decide))
 obtain ⟨v, ev⟩ : ∃ v, putOV nfO = v := ⟨_, rfl⟩
 have EV := Aside0.mk ev
 rw [ev] at HSH HGET HOK hit
 clear hget hright ev
 go_enter Tryz.func6, Tryz.ntmps6
 go_wp2_with fail
 have bO := Blk.new w #[.int .u8 3, .int .u64 0, .int .u64 0, .string ⟨#[97, 109, 113, 112, 58, 110, 111, 116, 45, 102, 111, 117, 110, 100]⟩] 37
 have hal := below_alloc (Below.refl w.heap.size w) (.cells #[.int .u8 3, .int .u64 0, .int .u64 0, .string ⟨#[97, 109, 113, 112, 58, 110, 111, 116, 45, 102, 111, 117, 110, 100]⟩] 37)
 refine (put52_yes 3 0 0 ⟨#[97, 109, 113, 112, 58, 110, 111, 116, 45, 102, 111, 117, 110, 100]⟩ (by decide) nf_may _).mono ?_
 rintro e w2 he
 rw [show (⟨3, 0, 0, ⟨#[97, 109, 113, 112, 58, 110, 111, 116, 45, 102, 111, 117, 110, 100]⟩⟩ : Out) = nfO from rfl, EV.out] at he
 obtain ⟨A2, c2, rfl, hR2, hb2⟩ := he
 have hal2 := below_alloc (Below.refl w2.heap.size w2) (.cells #[.int .u8 v.f0, .int .u64 v.f1, .string v.f2, .slice A2 v.f3.length c2] 25)
 have hb22 := below_step hb2 hal2
 have HB2 := Aside0.mk (below_step hal hb22)
 have BO2 := Aside0.mk (bO.below hb22)
 have BV2 := Aside0.mk (Blk.new w2 #[.int .u8 v.f0, .int .u64 v.f1, .string v.f2, .slice A2 v.f3.length c2] 25)
 have hc2 := (Kd.R_reads' hR2).2.1
 have HC2 := Aside0.mk (Kd.C_below (Kd.R_reads' hR2).2.2 hal2)
 clear bO hal hR2 hb2 hal2 hb22
 obtain ⟨p0, p1, p2, p3⟩ := BV2.out.c4
 go_upto_region 3 with fail
 obtain ⟨bo, ebo⟩ : ∃ b, w.heap.size = b := ⟨_, rfl⟩
 obtain ⟨bv, ebv⟩ : ∃ b, w2.heap.size = b := ⟨_, rfl⟩
 obtain ⟨w3, ew3⟩ : ∃ W, w2.alloc (.cells #[.int .u8 v.f0, .int .u64 v.f1, .string v.f2, .slice A2 v.f3.length c2] 25) = W := ⟨_, rfl⟩
 rw [ew3] at HB2 BO2 BV2 HC2 p0 p1 p2 p3 ⊢
 rw [ebv] at BV2 p0 p1 p2 p3 ⊢
 have EBO := Aside0.mk ebo
 rw [ebo] at BO2 ⊢
 clear ebo ebv ew3
 go_wp2_with fail
 refine (get53_any v hit HOK.out A2 c2 _ HC2.out hc2).mono ?_
 rintro e w4 ⟨he, hb4⟩
 rw [HGET.out] at he
 replace he : e = .returned (.tuple #[.agg #[.int .u8 3, .int .u64 0, .int .u64 0, .string ⟨#[97, 109, 113, 112, 58, 110, 111, 116, 45, 102, 111, 117, 110, 100]⟩], .int .i64 0]) := he
 subst he
 have hal4 := below_alloc hb4 (.cells #[.int .u8 3, .int .u64 0, .int .u64 0, .string ⟨#[97, 109, 113, 112, 58, 110, 111, 116, 45, 102, 111, 117, 110, 100]⟩] 37)
 have HB4 := Aside0.mk (below_step HB2.out hal4)
 have BO4 := Aside0.mk (BO2.out.below hal4)
 have BV4 := Aside0.mk (BV2.out.below hal4)
 have HC4 := Aside0.mk (Kd.C_below HC2.out hal4)
 have BP4 := Aside0.mk (Blk.new w4 #[.int .u8 3, .int .u64 0, .int .u64 0, .string ⟨#[97, 109, 113, 112, 58, 110, 111, 116, 45, 102, 111, 117, 110, 100]⟩] 37)
 clear hb4 hal4 p0 p1 p2 p3 BO2 BV2 HC2 HB2
 go_upto_region 4 with fail
 obtain ⟨bp, ebp⟩ : ∃ b, w4.heap.size = b := ⟨_, rfl⟩
 obtain ⟨w5, ew5⟩ : ∃ W, w4.alloc (.cells #[.int .u8 3, .int .u64 0, .int .u64 0, .string ⟨#[97, 109, 113, 112, 58, 110, 111, 116, 45, 102, 111, 117, 110, 100]⟩] 37) = W := ⟨_, rfl⟩
 rw [ew5] at HB4 BO4 BV4 HC4 BP4 ⊢
 rw [ebp] at BP4 ⊢
 clear ebp ew5
 go_wp2_with fail
 refine (number23_any 5 1 _).mono ?_
 rintro e w6 ⟨rfl, hb6⟩
 go_wp2_with fail
 refine (get53_any ⟨5, 1, ⟨#[]⟩, []⟩ (by decide) (ok_vb _ (by kernel_rfl)) none 0 _ (C_none _) (Nat.le_refl _)).mono ?_
 rintro e w7 ⟨he, hb7⟩
 rw [one_not] at he
 replace he : e = .returned (.tuple #[.agg #[.int .u8 0, .int .u64 0, .int .u64 0, .string ⟨#[]⟩], .int .i64 6]) := he
 subst he
 have hal7 := below_alloc (below_step hb6 hb7) (.cells #[.int .u8 0, .int .u64 0, .int .u64 0, .string ⟨#[]⟩] 37)
 have HB7 := Aside0.mk (below_step HB4.out hal7)
 have BO7 := BO4.out.below hal7
 have BV7 := BV4.out.below hal7
 have BP7 := BP4.out.below hal7
 have HC7 := Aside0.mk (Kd.C_below HC4.out hal7)
 clear hb6 hb7 hal7 HB4 BO4 BV4 BP4 HC4
 go_upto_region 5 with fail
 obtain ⟨w8, ew8⟩ : ∃ W, w7.alloc (.cells #[.int .u8 0, .int .u64 0, .int .u64 0, .string ⟨#[]⟩] 37) = W := ⟨_, rfl⟩
 rw [ew8] at HB7 BO7 BV7 BP7 HC7 ⊢
 clear ew8
 obtain ⟨hv0, hv2, hv3⟩ := HSH.out
 obtain ⟨ad, A0, c0, eA, x0, x1, x2, x3, _, _⟩ := at_T25 HC7.out 0 (by omega) (by omega)
 cases eA
 rw [show (0 : Int).toNat = 0 from rfl, Nat.zero_mul, add_nought] at x0 x1 x2 x3
 rw [hv3] at x1
 obtain ⟨p0, p1, p2, p3⟩ := BV7.c4
 obtain ⟨q0, q1, q2, q3⟩ := BO7.c4
 obtain ⟨r0, r1, r2, r3⟩ := BP7.c4
 have k25 : (v.f0 == 25) = true := by simp [hv0]
 have kl : ((v.f3.length : Int) == 2) = true := by simp; omega
 have hlt : 0 < v.f3.length := by omega
 have ad0 : ad.add 0 = ad := add_nought ad
 clear hv0 hv2 hv3 x0 x2 x3
 go_wp2_with fail
 go_ret
 exact ⟨rfl, HB7.out⟩
end Go.Proofs.YtdilbnggedidnaaGreat.PVal
namespace Go.Proofs.YtdilbnggedidnaaGreat.PVal
open Go.RowKit Go.Shelf Go.Proofs.YtdilbnggedidnaaGreatW.PrintWords Go.Proofs.YtdilbnggedidnaaGreatW.PrintLast
set_option linter.unusedVariables false
set_option linter.unusedSimpArgs false
def RSB (w : World) (base g B : Nat) (l : List S25) (sp : Bool) : Prop := ∃ A c, Blk w g #[.slice A l.length c, .bool sp] 69 ∧ k25.R 25 w base (fun k => k ≠ g ∧ k < B) (.slice A l.length c) l
theorem RSB.below {w w' : World} {base g B : Nat} {l : List S25} {sp : Bool} (h : RSB w base g B l sp) (hb : Below w.heap.size w w') : RSB w' base g B l sp := by
 obtain ⟨A, c, h1, h2⟩ := h
 exact ⟨A, c, h1.below hb, Kd.R_below h2 hb⟩
theorem RSB.set {w : World} {base g B : Nat} {l : List S25} {sp : Bool} (h : RSB w base g B l sp) (b : Bool) : RSB (w.setCell ⟨g, 1, none⟩ (.bool b)) base g B l b := by
 obtain ⟨A, c, h1, h2⟩ := h
 exact ⟨A, c, blk_put h1 1 _ rfl, Kd.R_far h2 (fun _ hk => hk.1) _⟩
theorem RSB.far {w : World} {base g B : Nat} {l : List S25} {sp : Bool} (h : RSB w base g B l sp) {p : Addr} (hp : B ≤ p.block) (hg : g < B) (v : Value) : RSB (w.setCell p v) base g B l sp := by
 obtain ⟨A, c, h1, h2⟩ := h
 exact ⟨A, c, h1.far (by omega) v, Kd.R_far h2 (fun k hk => by omega) v⟩
theorem put4_rsb {W : World} {base g B r : Nat} {l : List S25} {sp : Bool} (h : RSB W base g B l sp) (hr : B ≤ r) (hg : g < B) (a0 a1 a2 a3 : Value) : RSB (put4 W r a0 a1 a2 a3) base g B l sp := (((h.far hr hg _).far hr hg _).far hr hg _).far hr hg _
theorem RSB.lt {w : World} {base g B : Nat} {l : List S25} {sp : Bool} (h : RSB w base g B l sp) : g < w.heap.size := by
 obtain ⟨A, c, h1, _⟩ := h
 exact h1.lt
theorem has78_any {w : World} {base g B : Nat} {l : List S25} {sp : Bool} (hf : RSB w base g B l sp) (i : Int) :
  Calls Tryz.prog 74 #[.pointer (some ⟨g, 0, none⟩), .int .i64 i] w fun e w' => e = .returned (.bool (atF l i).isSome) ∧ w = w' := by
 obtain ⟨A, c, hB, hR⟩ := hf
 have HC := Aside0.mk (Kd.R_reads' hR).2.2
 obtain ⟨p0, p1⟩ := hB.c2
 clear hB hR
 cases h : atF l i with
 | none =>
  rcases atF_none h with h1 | ⟨h0, h1⟩ | ⟨h0, h1, h2⟩
  ·clear h
   go_enter Tryz.func74, Tryz.ntmps74
   go_wp2_with fail
   go_ret
   exact ⟨rfl, rfl⟩
  ·clear h
   go_enter Tryz.func74, Tryz.ntmps74
   go_wp2_with fail
   go_ret
   exact ⟨rfl, rfl⟩
  ·obtain ⟨ad, Ax, cx, eA, x0, _, _, _, _, _⟩ := at_T25 HC.out i h0 h1
   cases eA
   rw [h2] at x0
   have hlt : i.toNat < l.length := by omega
   clear h h2
   go_enter Tryz.func74, Tryz.ntmps74
   go_wp2_with fail
   go_ret
   exact ⟨rfl, rfl⟩
 | some x =>
  obtain ⟨h0, h1, h2, ex⟩ := atF_some h
  obtain ⟨ad, Ax, cx, eA, x0, _, _, _, _, _⟩ := at_T25 HC.out i h0 h1
  cases eA
  rw [ex] at x0 h2
  have hk : (x.f0 != 1) = true := by simp [h2]
  have hlt : i.toNat < l.length := by omega
  clear h h2 ex
  go_enter Tryz.func74, Tryz.ntmps74
  go_wp2_with fail
  go_ret
  exact ⟨rfl, rfl⟩
theorem results105 (tmps : Array Value) (w : World) (g : Nat) (cs : Array Value) (b : Bool) (hcs : cs.size = 4) (hp : tmps.getD 6 undef = .pointer (some ⟨g, 0, none⟩)) (hg : Blk w g cs 25) (hb : tmps.getD 7 undef = .bool b) :
  (results Tryz.f53 tmps).run Tryz.prog w = .ok (.tuple #[.agg cs, .bool b]) w := by
 have h1 : tmps[6]?.getD undef = .pointer (some ⟨g, 0, none⟩) := by simpa using hp
 have h2 : tmps[7]?.getD undef = .bool b := by simpa using hb
 have hi : (Tryz.prog.info? 25).map (·.size) = some cs.size := by rw [hcs]; kernel_rfl
 have hr := run_loadVar_row (P := Tryz.prog) w g 25 25 cs (0, 0) _ hg Tryz.underlying25 rfl hi
 simp [results, Tryz.f53, h1, h2, asAddr, hr]
theorem take105_none {w : World} {base g B : Nat} {l : List S25} {sp : Bool} (hf : RSB w base g B l sp) (hB : B ≤ w.heap.size) (hgB : g < B) (i : Int) (must : Bool) (h : atF l i = none) :
  Calls Tryz.prog 53 #[.pointer (some ⟨g, 0, none⟩), .int .i64 i, .bool must] w fun e w' => e = .returned (.tuple #[.agg #[.int .u8 0, .int .u64 0, .string ⟨#[]⟩, .slice none 0 0], .bool false]) ∧ RSB w' base g B l (sp || must) ∧ Bg g w w' := by
 have HF := Aside0.mk hf
 have bR := Blk.new w #[.int .u8 0, .int .u64 0, .string ⟨#[]⟩, .slice none 0 0] 25
 have hal := below_alloc (Below.refl w.heap.size w) (.cells #[.int .u8 0, .int .u64 0, .string ⟨#[]⟩, .slice none 0 0] 25)
 have HF1 := Aside0.mk (hf.below hal)
 have HB1 := Aside0.mk hal
 have HAT := Aside0.mk h
 clear hf hal h
 go_enter Tryz.func53, Tryz.ntmps53
 go_upto_region 1 with fail
 obtain ⟨r, er⟩ : ∃ b, w.heap.size = b := ⟨_, rfl⟩
 obtain ⟨w1, e1⟩ : ∃ W, w.alloc (.cells #[.int .u8 0, .int .u64 0, .string ⟨#[]⟩, .slice none 0 0] 25) = W := ⟨_, rfl⟩
 rw [e1] at bR HF1 HB1 ⊢
 rw [er] at bR ⊢
 have hrw : w.heap.size ≤ r := by omega
 clear e1 er
 have BR := Aside0.mk bR
 clear bR
 go_wp2_with fail
 refine (has78_any HF1.out i).mono ?_
 rintro e w2 ⟨he, rfl⟩
 rw [HAT.out] at he
 replace he : e = .returned (.bool false) := he
 subst he
 have hF1 := HF1.out
 obtain ⟨A, c, hG, hR⟩ := hF1
 obtain ⟨p0, p1⟩ := hG.c2
 have fz := hG.fz
 obtain ⟨q0, q1, q2, q3⟩ := BR.out.c4
 have f2 := BR.out.fz
 have hgr : g ≠ r := by omega
 clear hG hR
 cases sp with
 | true =>
  go_wp2_with fail
  refine bodyPost_ret (results105 _ _ r #[.int .u8 0, .int .u64 0, .string ⟨#[]⟩, .slice none 0 0] false rfl rfl (put4_blk (BR.out.far (p := ⟨g, 1, none⟩) (Ne.symm hgr) _) _ _ _ _) rfl) rfl ?_
  exact ⟨rfl, put4_rsb (HF1.out.set true) (by omega) hgB _ _ _ _, put4_bg ((Bg.of HB1.out).set 1 _) hrw _ _ _ _⟩
 | false =>
  go_wp2_with fail
  refine bodyPost_ret (results105 _ _ r #[.int .u8 0, .int .u64 0, .string ⟨#[]⟩, .slice none 0 0] false rfl rfl (put4_blk (BR.out.far (p := ⟨g, 1, none⟩) (Ne.symm hgr) _) _ _ _ _) rfl) rfl ?_
  exact ⟨rfl, put4_rsb (HF1.out.set must) (by omega) hgB _ _ _ _, put4_bg ((Bg.of HB1.out).set 1 _) hrw _ _ _ _⟩
theorem take105_some {w : World} {base g B : Nat} {l : List S25} {sp : Bool} (hf : RSB w base g B l sp) (hB : B ≤ w.heap.size) (hgB : g < B) (i : Int) (must : Bool) {x : S25} (h : atF l i = some x) :
  Calls Tryz.prog 53 #[.pointer (some ⟨g, 0, none⟩), .int .i64 i, .bool must] w fun e w' => ∃ A c, e = .returned (.tuple #[.agg #[.int .u8 x.f0, .int .u64 x.f1, .string x.f2, .slice A x.f3.length c], .bool true]) ∧ Below w.heap.size w w' ∧ x.f3.length ≤ c ∧ k25.C w' A x.f3.length x.f3 := by
 have HF1 := Aside0.mk (hf.below (below_alloc (Below.refl w.heap.size w) (.cells #[.int .u8 0, .int .u64 0, .string ⟨#[]⟩, .slice none 0 0] 25)))
 have HAT := Aside0.mk h
 obtain ⟨A, c, hG, hR⟩ := hf
 have hg1 : ¬ g = w.heap.size := by have := hG.lt; omega
 obtain ⟨p0, p1⟩ := hG.c2
 have o0 := cell_al p0
 obtain ⟨h0, h1, h2, ex⟩ := atF_some h
 obtain ⟨ad, Ax, cx, eA, x0, x1, x2, x3, hlx, hCx⟩ := at_T25 (Kd.R_reads' hR).2.2 i h0 h1
 cases eA
 rw [ex] at x0 x1 x2 x3 hlx hCx
 have HC := Aside0.mk hCx
 have hq0 := cell_al x0
 have hq1 := cell_al x1
 have hq2 := cell_al x2
 have hq3 := cell_al x3
 have hlt : i.toNat < l.length := by omega
 clear hG hR h2 ex hCx h p0 p1 x0 x1 x2 x3
 go_enter Tryz.func53, Tryz.ntmps53
 go_wp2_with fail
 refine (has78_any HF1.out i).mono ?_
 rintro e w2 ⟨he, rfl⟩
 rw [HAT.out] at he
 replace he : e = .returned (.bool true) := he
 subst he
 go_wp2_with fail
 have hB0 := below_alloc (Below.refl w.heap.size w) (.cells #[.int .u8 x.f0, .int .u64 x.f1, .string x.f2, .slice Ax x.f3.length cx] 25)
 exact bodyPost_ret (results105 _ _ w.heap.size #[.int .u8 x.f0, .int .u64 x.f1, .string x.f2, .slice Ax x.f3.length cx] true rfl rfl (Blk.new w #[.int .u8 x.f0, .int .u64 x.f1, .string x.f2, .slice Ax x.f3.length cx] 25) rfl) rfl ⟨Ax, cx, rfl, hB0, hlx, Kd.C_below HC.out hB0⟩
theorem done49_any {w : World} {base g B : Nat} {l : List S25} {sp : Bool} (hf : RSB w base g B l sp) (n : Int) :
  Calls Tryz.prog 34 #[.pointer (some ⟨g, 0, none⟩), .int .i64 n] w fun e w' => e = .returned (.int .i64 (doneN l sp n)) ∧ w = w' := by
 obtain ⟨A, c, hG, hR⟩ := hf
 obtain ⟨p0, p1⟩ := hG.c2
 clear hG hR
 cases sp with
 | true =>
  go_enter Tryz.func34, Tryz.ntmps34
  go_wp2_with fail
  go_ret
  exact ⟨by rw [show doneN l true n = 6 from if_pos (.inl rfl)]; rfl, rfl⟩
 | false =>
  by_cases h : n < (l.length : Int)
  ·have hd := Aside0.mk (show doneN l false n = 6 from if_pos (.inr h))
   go_enter Tryz.func34, Tryz.ntmps34
   go_wp2_with fail
   go_ret
   exact ⟨by rw [hd.out]; rfl, rfl⟩
  ·have hd := Aside0.mk (show doneN l false n = 0 from if_neg (by simp; omega))
   go_enter Tryz.func34, Tryz.ntmps34
   go_wp2_with fail
   go_ret
   exact ⟨by rw [hd.out]; rfl, rfl⟩
theorem number79_any {w : World} {base g B : Nat} {l : List S25} {sp : Bool} (hf : RSB w base g B l sp) (hB : B ≤ w.heap.size) (hgB : g < B) (i k : Int) (must : Bool) (none_ : Int) :
  Calls Tryz.prog 37 #[.pointer (some ⟨g, 0, none⟩), .int .i64 i, .int .u8 k, .bool must, .int .u64 none_] w fun e w' => e = .returned (.int .u64 (tellP l i (kindP [k]) (fun x => x.f1) none_)) ∧ RSB w' base g B l (sp || spoilP l i must (kindP [k])) ∧ Bg g w w' := by
 have HF := Aside0.mk hf
 cases h : atF l i with
 | none =>
  have HT := Aside0.mk (tell_none h (kindP [k]) (fun x => x.f1) none_)
  have HS := Aside0.mk (spoil_none h must (kindP [k]))
  have HAT := Aside0.mk h
  clear hf h
  go_enter Tryz.func37, Tryz.ntmps37
  go_wp2_with fail
  refine (take105_none HF.out hB hgB i must HAT.out).mono ?_
  rintro e w2 ⟨rfl, hfs, hbg⟩
  have hal := below_alloc (Below.refl w2.heap.size w2) (.cells #[.int .u8 0, .int .u64 0, .string ⟨#[]⟩, .slice none 0 0] 25)
  have HF2 := Aside0.mk (hfs.below hal)
  have HB2 := Aside0.mk (hbg.trans (Bg.of hal))
  clear hfs hbg hal
  go_wp2_with fail
  go_ret
  exact ⟨by rw [HT.out]; rfl, by rw [HS.out]; exact HF2.out, HB2.out⟩
 | some x =>
  have HT0 := Aside0.mk (tell_some h (kindP [k]) (fun x => x.f1) none_)
  have HS0 := Aside0.mk (spoil_some h must (kindP [k]))
  have HAT := Aside0.mk h
  have hkx := kindP_one k x
  clear hf h
  go_enter Tryz.func37, Tryz.ntmps37
  go_wp2_with fail
  refine (take105_some HF.out hB hgB i must HAT.out).mono ?_
  rintro e w2 ⟨A, c, rfl, hb2, hl2, hC2⟩
  have bX := Blk.new w2 #[.int .u8 x.f0, .int .u64 x.f1, .string x.f2, .slice A x.f3.length c] 25
  have hal := below_alloc hb2 (.cells #[.int .u8 x.f0, .int .u64 x.f1, .string x.f2, .slice A x.f3.length c] 25)
  have HF2 := Aside0.mk (HF.out.below hal)
  have HB2 := Aside0.mk (Bg.of (g := g) hal)
  clear hb2 hal hC2
  go_upto_region 2 with fail
  obtain ⟨bx, ebx⟩ : ∃ b, w2.heap.size = b := ⟨_, rfl⟩
  obtain ⟨w3, e3⟩ : ∃ W, w2.alloc (.cells #[.int .u8 x.f0, .int .u64 x.f1, .string x.f2, .slice A x.f3.length c] 25) = W := ⟨_, rfl⟩
  rw [e3] at bX HF2 HB2 ⊢
  rw [ebx] at bX ⊢
  clear e3 ebx
  obtain ⟨q0, q1, q2, q3⟩ := bX.c4
  clear bX
  cases hk : (x.f0 != k) with
  | true =>
   have HK : Aside0 (kindP [k] x = false) := ⟨by rw [hkx]; simpa using hk⟩
   have hF2 := HF2.out
   obtain ⟨A', c', hG, hR⟩ := hF2
   obtain ⟨p0, p1⟩ := hG.c2
   have fz := hG.fz
   clear hkx hG hR
   go_wp2_with fail
   go_ret
   exact ⟨by rw [HT0.out, HK.out]; rfl, by rw [HS0.out, HK.out]; show RSB _ base g B l (sp || true); rw [Bool.or_true]; exact HF2.out.set true, HB2.out.set 1 _⟩
  | false =>
   have HK : Aside0 (kindP [k] x = true) := ⟨by rw [hkx]; simpa using hk⟩
   clear hkx
   go_wp2_with fail
   go_ret
   exact ⟨by rw [HT0.out, HK.out]; rfl, by rw [HS0.out, HK.out]; show RSB _ base g B l (sp || false); rw [Bool.or_false]; exact HF2.out, HB2.out⟩
theorem text81_any {w : World} {base g B : Nat} {l : List S25} {sp : Bool} (hf : RSB w base g B l sp) (hB : B ≤ w.heap.size) (hgB : g < B) (i k : Int) (must : Bool) :
  Calls Tryz.prog 32 #[.pointer (some ⟨g, 0, none⟩), .int .i64 i, .int .u8 k, .bool must] w fun e w' => e = .returned (.string (tellP l i (kindP [k]) (fun x => x.f2) ⟨#[]⟩)) ∧ RSB w' base g B l (sp || spoilP l i must (kindP [k])) ∧ Bg g w w' := by
 have HF := Aside0.mk hf
 cases h : atF l i with
 | none =>
  have HT := Aside0.mk (tell_none h (kindP [k]) (fun x => x.f2) ⟨#[]⟩)
  have HS := Aside0.mk (spoil_none h must (kindP [k]))
  have HAT := Aside0.mk h
  clear hf h
  go_enter Tryz.func32, Tryz.ntmps32
  go_wp2_with fail
  refine (take105_none HF.out hB hgB i must HAT.out).mono ?_
  rintro e w2 ⟨rfl, hfs, hbg⟩
  have hal := below_alloc (Below.refl w2.heap.size w2) (.cells #[.int .u8 0, .int .u64 0, .string ⟨#[]⟩, .slice none 0 0] 25)
  have HF2 := Aside0.mk (hfs.below hal)
  have HB2 := Aside0.mk (hbg.trans (Bg.of hal))
  clear hfs hbg hal
  go_wp2_with fail
  go_ret
  exact ⟨by rw [HT.out]; rfl, by rw [HS.out]; exact HF2.out, HB2.out⟩
 | some x =>
  have HT0 := Aside0.mk (tell_some h (kindP [k]) (fun x => x.f2) ⟨#[]⟩)
  have HS0 := Aside0.mk (spoil_some h must (kindP [k]))
  have HAT := Aside0.mk h
  have hkx := kindP_one k x
  clear hf h
  go_enter Tryz.func32, Tryz.ntmps32
  go_wp2_with fail
  refine (take105_some HF.out hB hgB i must HAT.out).mono ?_
  rintro e w2 ⟨A, c, rfl, hb2, hl2, hC2⟩
  have bX := Blk.new w2 #[.int .u8 x.f0, .int .u64 x.f1, .string x.f2, .slice A x.f3.length c] 25
  have hal := below_alloc hb2 (.cells #[.int .u8 x.f0, .int .u64 x.f1, .string x.f2, .slice A x.f3.length c] 25)
  have HF2 := Aside0.mk (HF.out.below hal)
  have HB2 := Aside0.mk (Bg.of (g := g) hal)
  clear hb2 hal hC2
  go_upto_region 2 with fail
  obtain ⟨bx, ebx⟩ : ∃ b, w2.heap.size = b := ⟨_, rfl⟩
  obtain ⟨w3, e3⟩ : ∃ W, w2.alloc (.cells #[.int .u8 x.f0, .int .u64 x.f1, .string x.f2, .slice A x.f3.length c] 25) = W := ⟨_, rfl⟩
  rw [e3] at bX HF2 HB2 ⊢
  rw [ebx] at bX ⊢
  clear e3 ebx
  obtain ⟨q0, q1, q2, q3⟩ := bX.c4
  clear bX
  cases hk : (x.f0 != k) with
  | true =>
   have HK : Aside0 (kindP [k] x = false) := ⟨by rw [hkx]; simpa using hk⟩
   have hF2 := HF2.out
   obtain ⟨A', c', hG, hR⟩ := hF2
   obtain ⟨p0, p1⟩ := hG.c2
   have fz := hG.fz
   clear hkx hG hR
   go_wp2_with fail
   go_ret
   exact ⟨by rw [HT0.out, HK.out]; rfl, by rw [HS0.out, HK.out]; show RSB _ base g B l (sp || true); rw [Bool.or_true]; exact HF2.out.set true, HB2.out.set 1 _⟩
  | false =>
   have HK : Aside0 (kindP [k] x = true) := ⟨by rw [hkx]; simpa using hk⟩
   clear hkx
   go_wp2_with fail
   go_ret
   exact ⟨by rw [HT0.out, HK.out]; rfl, by rw [HS0.out, HK.out]; show RSB _ base g B l (sp || false); rw [Bool.or_false]; exact HF2.out, HB2.out⟩
end Go.Proofs.YtdilbnggedidnaaGreat.PVal
namespace Go.Proofs.YtdilbnggedidnaaGreat.PVal
open Go.RowKit Go.Shelf Go.Proofs.YtdilbnggedidnaaGreatW.PrintWords Go.Proofs.YtdilbnggedidnaaGreatW.PrintLast
set_option linter.unusedVariables false
set_option linter.unusedSimpArgs false
theorem rnull106_any (w : World) : Calls Tryz.prog 24 #[] w fun e w' => e = .returned (.agg #[.int .u8 1, .int .u64 0, .string ⟨#[]⟩, .slice none 0 0]) ∧ Below w.heap.size w w' := by
 go_enter Tryz.func24, Tryz.ntmps24
 go_wp2_with fail
 exact bodyPost_ret (results_cell_row rfl _ _ w.heap.size 25 #[.int .u8 1, .int .u64 0, .string ⟨#[]⟩, .slice none 0 0] (0, 0) _ rfl (blk_new _ _) Tryz.underlying25 rfl (by kernel_rfl)) rfl ⟨rfl, below_alloc (Below.refl _ _) _⟩
attribute [local go_sem] field25_3
theorem new45_no (v : S25) (hs : itemsN v ≤ 4294967296) (ho : okV v) (code : Int) (name : ByteArray) (A : Option Addr) (c : Nat) (w : World) (ha : k25.C w A v.f3.length v.f3) (hc : v.f3.length ≤ c) (h : newF v code name = none) :
  Calls Tryz.prog 31 #[.agg #[.int .u8 v.f0, .int .u64 v.f1, .string v.f2, .slice A v.f3.length c], .int .u64 code, .string name] w fun e w' => e = .returned (.tuple #[.pointer none, .int .i64 6]) ∧ Below w.heap.size w w' := by
 have HN := Aside0.mk h
 clear h
 have HA := Aside0.mk ha
 have hal := below_alloc (Below.refl w.heap.size w) (.cells #[.int .u8 v.f0, .int .u64 v.f1, .string v.f2, .slice A v.f3.length c] 25)
 have HAL := Aside0.mk (Kd.C_below ha hal)
 have HB0 := Aside0.mk hal
 have BX := Aside0.mk (Blk.new w #[.int .u8 v.f0, .int .u64 v.f1, .string v.f2, .slice A v.f3.length c] 25)
 clear ha hal
 go_enter Tryz.func31, Tryz.ntmps31
 go_upto_region 1 with fail
 obtain ⟨bv, ebv⟩ : ∃ b, w.heap.size = b := ⟨_, rfl⟩
 obtain ⟨w1, e1⟩ : ∃ W, w.alloc (.cells #[.int .u8 v.f0, .int .u64 v.f1, .string v.f2, .slice A v.f3.length c] 25) = W := ⟨_, rfl⟩
 rw [e1] at BX HAL HB0 ⊢
 rw [ebv] at BX ⊢
 clear e1 ebv
 obtain ⟨p0, p1, p2, p3⟩ := BX.out.c4
 go_wp2_with fail
 refine (right18_any v hs ho A c _ HAL.out hc).mono ?_
 rintro e w2 ⟨he, hb2⟩
 have bX := BX.out.below hb2
 have HB2 := Aside0.mk (below_step HB0.out hb2)
 have HC2 := Aside0.mk (Kd.C_below HAL.out hb2)
 clear p0 p1 p2 p3 hb2 BX HAL HB0
 obtain ⟨p0, p1, p2, p3⟩ := bX.c4
 cases hr : rightB v with
 | false =>
  rw [hr] at he
  subst he
  clear hr
  go_wp2_with fail
  go_ret2
  exact ⟨rfl, HB2.out⟩
 | true =>
  rw [hr] at he
  subst he
  by_cases h25 : v.f0 = 25
  ·have HNN := HN.out
   obtain ⟨a, b, hab⟩ := desc_two hr h25
   obtain ⟨ad, A0, c0, e0, x0, x1, x2, x3, l0, C0⟩ := at_T25 HC2.out 0 (by omega) (by rw [hab]; simp)
   obtain ⟨ad1, A1, c1, e1, y0, y1, y2, y3, l1, C1⟩ := at_T25 HC2.out 1 (by omega) (by rw [hab]; simp)
   cases e0
   cases e1
   rw [show (0 : Int).toNat = 0 from rfl, Nat.zero_mul, add_nought] at x0 x1 x2 x3
   rw [show (1 : Int).toNat = 1 from rfl] at y0 y1 y2 y3
   have ha0 : rd_T25 v.f3 0 = a := by rw [hab]; rfl
   have hb0 : rd_T25 v.f3 1 = b := by rw [hab]; rfl
   rw [ha0] at x0 x1 x2 x3 l0 C0
   rw [hb0] at y0 y1 y2 y3 l1 C1
   have hl2 : v.f3.length = 2 := by rw [hab]; rfl
   have h0l : 0 < v.f3.length := by omega
   have h1l : 1 < v.f3.length := by omega
   have k25 : (v.f0 != 25) = false := by simp [h25]
   have HC0 := Aside0.mk C0
   have HC1 := Aside0.mk C1
   have ad0 : ad.add 0 = ad := add_nought ad
   simp only [Nat.reduceMul, Nat.reduceEqDiff, Go.Addr.add, ↓reduceIte] at y0 y1 y2 y3
   have HB0' := Aside0.mk ha0
   have HB1 := Aside0.mk hb0
   have HIB : Aside0 (itemsL b.f3 ≤ itemsN v) := ⟨by have := itemsN_eq b; rw [itemsN_eq v, hab]; simp only [itemsL]; omega⟩
   clear hab C0 C1 ha0 hb0 hl2
   cases h22 : (b.f0 != 22) with
   | true =>
    clear HNN hr h25
    go_wp2_with fail
    go_ret2
    exact ⟨rfl, HB2.out⟩
   | false =>
    have hcl : calledB a code name = false := by
     cases hq : calledB a code name with
     | false => rfl
     | true =>
      unfold newF at HNN
      rw [if_pos ⟨hr, h25, by rw [HB1.out]; simpa using h22, by rw [HB0'.out]; exact hq⟩] at HNN
      cases HNN
    clear HNN hr h25
    cases h6 : (a.f0 == 6) with
    | true =>
     cases hcd : (a.f1 == code) with
     | true => unfold calledB at hcl; rw [h6, hcd] at hcl; cases hcl
     | false =>
      cases h21 : (a.f0 == 21) with
      | true => simp at h6 h21; omega
      | false =>
       clear hcl
       go_upto_region 4 with fail
       obtain ⟨bd, ebd⟩ : ∃ b, w2.heap.size = b := ⟨_, rfl⟩
       have bD := Blk.new w2 #[.int .u8 a.f0, .int .u64 a.f1, .string a.f2, .slice A0 a.f3.length c0] 25
       have hald := below_alloc (Below.refl w2.heap.size w2) (.cells #[.int .u8 a.f0, .int .u64 a.f1, .string a.f2, .slice A0 a.f3.length c0] 25)
       have HB3 := Aside0.mk (below_step HB2.out hald)
       have HC3 := Aside0.mk (Kd.C_below HC1.out hald)
       have HX3 := Aside0.mk (Kd.C_below HC2.out hald)
       have bX3 := bX.below hald
       have z0 := (hald.cell (World.block_lt_of_cell? _ _ y0)).trans y0
       have z3 := (hald.cell (World.block_lt_of_cell? _ _ y3)).trans y3
       obtain ⟨w3, e3⟩ : ∃ W, w2.alloc (.cells #[.int .u8 a.f0, .int .u64 a.f1, .string a.f2, .slice A0 a.f3.length c0] 25) = W := ⟨_, rfl⟩
       rw [e3] at bD HB3 HC3 HX3 bX3 z0 z3 ⊢
       rw [ebd] at bD ⊢
       clear e3 ebd hald p0 p1 p2 p3 x0 x1 x2 x3 y0 y1 y2 y3 bX
       obtain ⟨p0, p1, p2, p3⟩ := bX3.c4
       obtain ⟨d0, d1, d2, d3⟩ := bD.c4
       go_wp2_with fail
       go_ret2
       exact ⟨rfl, HB3.out⟩
    | false =>
     cases h21 : (a.f0 == 21) with
     | true =>
      cases hnm : (a.f2.toList == name.toList) with
      | true => unfold calledB at hcl; rw [h21, hnm] at hcl; simp at hcl
      | false =>
       clear hcl
       go_upto_region 4 with fail
       obtain ⟨bd, ebd⟩ : ∃ b, w2.heap.size = b := ⟨_, rfl⟩
       have bD := Blk.new w2 #[.int .u8 a.f0, .int .u64 a.f1, .string a.f2, .slice A0 a.f3.length c0] 25
       have hald := below_alloc (Below.refl w2.heap.size w2) (.cells #[.int .u8 a.f0, .int .u64 a.f1, .string a.f2, .slice A0 a.f3.length c0] 25)
       have HB3 := Aside0.mk (below_step HB2.out hald)
       have HC3 := Aside0.mk (Kd.C_below HC1.out hald)
       have HX3 := Aside0.mk (Kd.C_below HC2.out hald)
       have bX3 := bX.below hald
       have z0 := (hald.cell (World.block_lt_of_cell? _ _ y0)).trans y0
       have z3 := (hald.cell (World.block_lt_of_cell? _ _ y3)).trans y3
       obtain ⟨w3, e3⟩ : ∃ W, w2.alloc (.cells #[.int .u8 a.f0, .int .u64 a.f1, .string a.f2, .slice A0 a.f3.length c0] 25) = W := ⟨_, rfl⟩
       rw [e3] at bD HB3 HC3 HX3 bX3 z0 z3 ⊢
       rw [ebd] at bD ⊢
       clear e3 ebd hald p0 p1 p2 p3 x0 x1 x2 x3 y0 y1 y2 y3 bX
       obtain ⟨p0, p1, p2, p3⟩ := bX3.c4
       obtain ⟨d0, d1, d2, d3⟩ := bD.c4
       go_wp2_with fail
       go_ret2
       exact ⟨rfl, HB3.out⟩
     | false =>
      clear hcl
      go_upto_region 4 with fail
      obtain ⟨bd, ebd⟩ : ∃ b, w2.heap.size = b := ⟨_, rfl⟩
      have bD := Blk.new w2 #[.int .u8 a.f0, .int .u64 a.f1, .string a.f2, .slice A0 a.f3.length c0] 25
      have hald := below_alloc (Below.refl w2.heap.size w2) (.cells #[.int .u8 a.f0, .int .u64 a.f1, .string a.f2, .slice A0 a.f3.length c0] 25)
      have HB3 := Aside0.mk (below_step HB2.out hald)
      have HC3 := Aside0.mk (Kd.C_below HC1.out hald)
      have HX3 := Aside0.mk (Kd.C_below HC2.out hald)
      have bX3 := bX.below hald
      have z0 := (hald.cell (World.block_lt_of_cell? _ _ y0)).trans y0
      have z3 := (hald.cell (World.block_lt_of_cell? _ _ y3)).trans y3
      obtain ⟨w3, e3⟩ : ∃ W, w2.alloc (.cells #[.int .u8 a.f0, .int .u64 a.f1, .string a.f2, .slice A0 a.f3.length c0] 25) = W := ⟨_, rfl⟩
      rw [e3] at bD HB3 HC3 HX3 bX3 z0 z3 ⊢
      rw [ebd] at bD ⊢
      clear e3 ebd hald p0 p1 p2 p3 x0 x1 x2 x3 y0 y1 y2 y3 bX
      obtain ⟨p0, p1, p2, p3⟩ := bX3.c4
      obtain ⟨d0, d1, d2, d3⟩ := bD.c4
      go_wp2_with fail
      go_ret2
      exact ⟨rfl, HB3.out⟩
  ·have k25 : (v.f0 != 25) = true := by simp [h25]
   clear hr h25
   go_wp2_with fail
   go_ret2
   exact ⟨rfl, HB2.out⟩
theorem new45_yes (v : S25) (hs : itemsN v ≤ 4294967296) (ho : okV v) (code : Int) (name : ByteArray) (A : Option Addr) (c : Nat) (w : World) (ha : k25.C w A v.f3.length v.f3) (hc : v.f3.length ≤ c) {l : List S25} (h : newF v code name = some l) :
  Calls Tryz.prog 31 #[.agg #[.int .u8 v.f0, .int .u64 v.f1, .string v.f2, .slice A v.f3.length c], .int .u64 code, .string name] w fun e w' => ∃ g, e = .returned (.tuple #[.pointer (some ⟨g, 0, none⟩), .int .i64 0]) ∧ w.heap.size ≤ g ∧ RSB w' w.heap.size g w'.heap.size l false ∧ Below w.heap.size w w' := by
 unfold newF at h
 split at h
 case isFalse => cases h
 case isTrue hq =>
 have HQ := Aside0.mk hq
 have HLI := Aside0.mk (Option.some.inj h)
 clear h hq
 have HA := Aside0.mk ha
 have hal := below_alloc (Below.refl w.heap.size w) (.cells #[.int .u8 v.f0, .int .u64 v.f1, .string v.f2, .slice A v.f3.length c] 25)
 have HAL := Aside0.mk (Kd.C_below ha hal)
 have HB0 := Aside0.mk hal
 have BX := Aside0.mk (Blk.new w #[.int .u8 v.f0, .int .u64 v.f1, .string v.f2, .slice A v.f3.length c] 25)
 clear ha hal
 go_enter Tryz.func31, Tryz.ntmps31
 go_upto_region 1 with fail
 obtain ⟨bv, ebv⟩ : ∃ b, w.heap.size = b := ⟨_, rfl⟩
 obtain ⟨w1, e1⟩ : ∃ W, w.alloc (.cells #[.int .u8 v.f0, .int .u64 v.f1, .string v.f2, .slice A v.f3.length c] 25) = W := ⟨_, rfl⟩
 rw [e1] at BX HAL HB0 ⊢
 rw [ebv] at BX ⊢
 clear e1 ebv
 obtain ⟨p0, p1, p2, p3⟩ := BX.out.c4
 go_wp2_with fail
 refine (right18_any v hs ho A c _ HAL.out hc).mono ?_
 rintro e w2 ⟨he, hb2⟩
 have bX := BX.out.below hb2
 have HB2 := Aside0.mk (below_step HB0.out hb2)
 have HC2 := Aside0.mk (Kd.C_below HAL.out hb2)
 clear p0 p1 p2 p3 hb2 BX HAL HB0
 obtain ⟨p0, p1, p2, p3⟩ := bX.c4
 obtain ⟨hr, h25, h22, hcl⟩ := HQ.out
 have hli := HLI.out
 clear HQ HLI
 rw [hr] at he
 subst he
 obtain ⟨a, b, hab⟩ := desc_two hr h25
 obtain ⟨ad, A0, c0, e0, x0, x1, x2, x3, l0, C0⟩ := at_T25 HC2.out 0 (by omega) (by rw [hab]; simp)
 obtain ⟨ad1, A1, c1, e1, y0, y1, y2, y3, l1, C1⟩ := at_T25 HC2.out 1 (by omega) (by rw [hab]; simp)
 cases e0
 cases e1
 rw [show (0 : Int).toNat = 0 from rfl, Nat.zero_mul, add_nought] at x0 x1 x2 x3
 rw [show (1 : Int).toNat = 1 from rfl] at y0 y1 y2 y3
 have ha0 : rd_T25 v.f3 0 = a := by rw [hab]; rfl
 have hb0 : rd_T25 v.f3 1 = b := by rw [hab]; rfl
 rw [ha0] at x0 x1 x2 x3 l0 C0
 rw [hb0] at y0 y1 y2 y3 l1 C1
 have hl2 : v.f3.length = 2 := by rw [hab]; rfl
 have h0l : 0 < v.f3.length := by omega
 have h1l : 1 < v.f3.length := by omega
 have k25 : (v.f0 != 25) = false := by simp [h25]
 have HC0 := Aside0.mk C0
 have HC1 := Aside0.mk C1
 have ad0 : ad.add 0 = ad := add_nought ad
 simp only [Nat.reduceMul, Nat.reduceEqDiff, Go.Addr.add, ↓reduceIte] at y0 y1 y2 y3
 have HB0' := Aside0.mk ha0
 have HB1 := Aside0.mk hb0
 have HIB : Aside0 (itemsL b.f3 ≤ itemsN v) := ⟨by have := itemsN_eq b; rw [itemsN_eq v, hab]; simp only [itemsL]; omega⟩
 clear hab C0 C1 ha0 hb0 hl2
 rw [HB1.out] at h22 hli
 rw [HB0'.out] at hcl
 subst hli
 have h22' : (b.f0 != 22) = false := by simp [h22]
 clear hr h25 h22
 cases h6 : (a.f0 == 6) with
 | true =>
  cases hcd : (a.f1 == code) with
  | true =>
   go_upto_region 4 with fail
   obtain ⟨bd, ebd⟩ : ∃ b, w2.heap.size = b := ⟨_, rfl⟩
   have bD := Blk.new w2 #[.int .u8 a.f0, .int .u64 a.f1, .string a.f2, .slice A0 a.f3.length c0] 25
   have hald := below_alloc (Below.refl w2.heap.size w2) (.cells #[.int .u8 a.f0, .int .u64 a.f1, .string a.f2, .slice A0 a.f3.length c0] 25)
   have HB3 := Aside0.mk (below_step HB2.out hald)
   have HC3 := Aside0.mk (Kd.C_below HC1.out hald)
   have HX3 := Aside0.mk (Kd.C_below HC2.out hald)
   have bX3 := bX.below hald
   have z0 := (hald.cell (World.block_lt_of_cell? _ _ y0)).trans y0
   have z3 := (hald.cell (World.block_lt_of_cell? _ _ y3)).trans y3
   obtain ⟨w3, e3⟩ : ∃ W, w2.alloc (.cells #[.int .u8 a.f0, .int .u64 a.f1, .string a.f2, .slice A0 a.f3.length c0] 25) = W := ⟨_, rfl⟩
   rw [e3] at bD HB3 HC3 HX3 bX3 z0 z3 ⊢
   rw [ebd] at bD ⊢
   clear e3 ebd hald p0 p1 p2 p3 x0 x1 x2 x3 y0 y1 y2 y3 bX
   obtain ⟨p0, p1, p2, p3⟩ := bX3.c4
   obtain ⟨d0, d1, d2, d3⟩ := bD.c4
   clear hcl
   go_wp2_with fail
   refine (copyAll20_any b.f3 (by have := HIB.out; omega) A1 c1 _ HC3.out l1).mono ?_
   rintro e w4 ⟨A4, c4, rfl, hR4, hb4⟩
   have HR4 := Aside0.mk hR4
   have HB4 := Aside0.mk (below_step HB3.out hb4)
   have hs3 := HB3.out.size
   clear hR4 hb4 p0 p1 p2 p3 d0 d1 d2 d3 z0 z3
   go_wp2_with fail
   go_ret2
   have hal4 := below_alloc (Below.refl w4.heap.size w4) (.cells #[.slice A4 b.f3.length c4, .bool false] 69)
   refine ⟨w4.heap.size, rfl, by have := HB4.out.size; omega, ⟨A4, c4, Blk.new w4 #[.slice A4 b.f3.length c4, .bool false] 69, ?_⟩, below_step HB4.out hal4⟩
   exact Kd.R_lower (Kd.R_below (Kd.R_mono (Kd.R_bound HR4.out) (fun k hk => by have := hk.2.2.1; rw [World.size_alloc]; omega)) hal4) hs3
  | false =>
   cases h21 : (a.f0 == 21) with
   | true => simp at h6 h21; omega
   | false => unfold calledB at hcl; rw [h6, hcd, h21] at hcl; cases hcl
 | false =>
  cases h21 : (a.f0 == 21) with
  | true =>
   cases hnm : (a.f2.toList == name.toList) with
   | true =>
    go_upto_region 4 with fail
    obtain ⟨bd, ebd⟩ : ∃ b, w2.heap.size = b := ⟨_, rfl⟩
    have bD := Blk.new w2 #[.int .u8 a.f0, .int .u64 a.f1, .string a.f2, .slice A0 a.f3.length c0] 25
    have hald := below_alloc (Below.refl w2.heap.size w2) (.cells #[.int .u8 a.f0, .int .u64 a.f1, .string a.f2, .slice A0 a.f3.length c0] 25)
    have HB3 := Aside0.mk (below_step HB2.out hald)
    have HC3 := Aside0.mk (Kd.C_below HC1.out hald)
    have HX3 := Aside0.mk (Kd.C_below HC2.out hald)
    have bX3 := bX.below hald
    have z0 := (hald.cell (World.block_lt_of_cell? _ _ y0)).trans y0
    have z3 := (hald.cell (World.block_lt_of_cell? _ _ y3)).trans y3
    obtain ⟨w3, e3⟩ : ∃ W, w2.alloc (.cells #[.int .u8 a.f0, .int .u64 a.f1, .string a.f2, .slice A0 a.f3.length c0] 25) = W := ⟨_, rfl⟩
    rw [e3] at bD HB3 HC3 HX3 bX3 z0 z3 ⊢
    rw [ebd] at bD ⊢
    clear e3 ebd hald p0 p1 p2 p3 x0 x1 x2 x3 y0 y1 y2 y3 bX
    obtain ⟨p0, p1, p2, p3⟩ := bX3.c4
    obtain ⟨d0, d1, d2, d3⟩ := bD.c4
    clear hcl
    go_wp2_with fail
    refine (copyAll20_any b.f3 (by have := HIB.out; omega) A1 c1 _ HC3.out l1).mono ?_
    rintro e w4 ⟨A4, c4, rfl, hR4, hb4⟩
    have HR4 := Aside0.mk hR4
    have HB4 := Aside0.mk (below_step HB3.out hb4)
    have hs3 := HB3.out.size
    clear hR4 hb4 p0 p1 p2 p3 d0 d1 d2 d3 z0 z3
    go_wp2_with fail
    go_ret2
    have hal4 := below_alloc (Below.refl w4.heap.size w4) (.cells #[.slice A4 b.f3.length c4, .bool false] 69)
    refine ⟨w4.heap.size, rfl, by have := HB4.out.size; omega, ⟨A4, c4, Blk.new w4 #[.slice A4 b.f3.length c4, .bool false] 69, ?_⟩, below_step HB4.out hal4⟩
    exact Kd.R_lower (Kd.R_below (Kd.R_mono (Kd.R_bound HR4.out) (fun k hk => by have := hk.2.2.1; rw [World.size_alloc]; omega)) hal4) hs3
   | false => unfold calledB at hcl; rw [h6, h21, hnm] at hcl; simp at hcl
  | false => unfold calledB at hcl; rw [h6, h21] at hcl; simp at hcl
def RValPost (r : S25) (base g B : Nat) (l : List S25) (sp : Bool) (w : World) (e : Ending) (w' : World) : Prop :=
 ∃ A c, e = .returned (.agg #[.int .u8 r.f0, .int .u64 r.f1, .string r.f2, .slice A r.f3.length c]) ∧ k25.R 25 w' w.heap.size (fun _ => True) (.slice A r.f3.length c) r.f3 ∧ RSB w' base g B l sp ∧ Bg g w w'
def fitI (ks : List Int) (k : Int) (i : Nat) : Bool := (ks.length == 0) || (ks.take i).any (fun a => a == k)
theorem fitI_end (ks : List Int) (x : S25) : fitI ks x.f0 ks.length = kindsP ks x := by
 unfold fitI kindsP
 cases ks with
 | nil => rfl
 | cons a l =>
  rw [if_neg (by simp), List.take_length, show ((a :: l).length == 0) = false from rfl, Bool.false_or]
  unfold kindP
  congr 1
  funext b
  exact Bool.beq_comm
theorem fitI_zero (ks : List Int) (k : Int) : fitI ks k 0 = (ks.length == 0) := by unfold fitI; simp
theorem fitI_succ (ks : List Int) (k : Int) (i : Nat) (h : i < ks.length) : fitI ks k (i + 1) = (fitI ks k i || (rd ks (i : Int) == k)) := by
 unfold fitI
 rw [List.take_succ_eq_append_getElem h, List.any_append, Bool.or_assoc]
 congr 2
 simp only [List.any_cons, List.any_nil, Bool.or_false]
 unfold rd
 rw [Int.toNat_natCast, List.getD_eq_getElem?_getD, List.getElem?_eq_getElem h]
 rfl
def VaS (w : World) (x : S25) (A : Option Addr) (c base g B : Nat) (l : List S25) (sp : Bool) (r bx : Nat) (ks : List Int) (K : Option Addr) (wr : World) : Prop :=
 Blk wr bx #[.int .u8 x.f0, .int .u64 x.f1, .string x.f2, .slice A x.f3.length c] 25 ∧ Blk wr r #[.int .u8 0, .int .u64 0, .string ⟨#[]⟩, .slice none 0 0] 25 ∧ RSB wr base g B l sp ∧ k25.C wr A x.f3.length x.f3 ∧ Kd.C (Kd.int .u8) wr K ks.length ks ∧ Below w.heap.size w wr
theorem VaS.below {w : World} {x : S25} {A : Option Addr} {c base g B : Nat} {l : List S25} {sp : Bool} {r bx : Nat} {ks : List Int} {K : Option Addr} {wr wx : World} (h : VaS w x A c base g B l sp r bx ks K wr) (hb : Below wr.heap.size wr wx) : VaS w x A c base g B l sp r bx ks K wx :=
 ⟨h.1.below hb, h.2.1.below hb, h.2.2.1.below hb, Kd.C_below h.2.2.2.1 hb, Kd.C_below h.2.2.2.2.1 hb, below_step h.2.2.2.2.2 hb⟩
theorem rvalue82_any {w : World} {base g B : Nat} {l : List S25} {sp : Bool} (hf : RSB w base g B l sp) (hB : B ≤ w.heap.size) (hgB : g < B) (hk : ∀ x ∈ l, itemsN x ≤ 4294967296) (i : Int) (ks : List Int) (K : Option Addr) (d : Nat) (hK : Kd.C (Kd.int .u8) w K ks.length ks) (hd : ks.length ≤ d) :
  Calls Tryz.prog 33 #[.pointer (some ⟨g, 0, none⟩), .int .i64 i, .slice K ks.length d] w (RValPost (tellP l i (kindsP ks) (fun x => x) vNul) base g B l (sp || spoilP l i false (kindsP ks)) w) := by
 have hm : ks.length ≤ 9223372036854775807 := Kd.C_max hK
 have bR := Blk.new w #[.int .u8 0, .int .u64 0, .string ⟨#[]⟩, .slice none 0 0] 25
 have hal := below_alloc (Below.refl w.heap.size w) (.cells #[.int .u8 0, .int .u64 0, .string ⟨#[]⟩, .slice none 0 0] 25)
 have HF1 := Aside0.mk (hf.below hal)
 have HK1 := Aside0.mk (Kd.C_below hK hal)
 have HB1 := Aside0.mk hal
 have HKI := Aside0.mk hk
 clear hf hal hK hk
 go_enter Tryz.func33, Tryz.ntmps33
 go_upto_region 1 with fail
 obtain ⟨r, er⟩ : ∃ b, w.heap.size = b := ⟨_, rfl⟩
 obtain ⟨w1, e1⟩ : ∃ W, w.alloc (.cells #[.int .u8 0, .int .u64 0, .string ⟨#[]⟩, .slice none 0 0] 25) = W := ⟨_, rfl⟩
 rw [e1] at bR HF1 HK1 HB1 ⊢
 rw [er] at bR ⊢
 have hrw : w.heap.size ≤ r := by omega
 have hrw1 := bR.lt
 have hs1 := HB1.out.size
 have BR1 := Aside0.mk bR
 clear e1 er bR
 cases h : atF l i with
 | none =>
  have HT := Aside0.mk (tell_none h (kindsP ks) (fun x => x) vNul)
  have HS := Aside0.mk (spoil_none h false (kindsP ks))
  have HAT := Aside0.mk h
  clear h
  go_wp2_with fail
  refine (take105_none HF1.out (by omega) hgB i false HAT.out).mono ?_
  rintro e w2 ⟨rfl, hfs, hbg⟩
  have hal2 := below_alloc (Below.refl w2.heap.size w2) (.cells #[.int .u8 0, .int .u64 0, .string ⟨#[]⟩, .slice none 0 0] 25)
  have HF2 := Aside0.mk (hfs.below hal2)
  have HB2 := Aside0.mk (((Bg.of (g := g) HB1.out).trans hbg).trans (Bg.of hal2))
  have BR2 := Aside0.mk ((BR1.out.bg hbg (by omega)).below hal2)
  clear hfs hbg hal2
  go_wp2_with fail
  refine (rnull106_any _).mono ?_
  rintro e w3 ⟨rfl, hb3⟩
  have HF3 := Aside0.mk (HF2.out.below hb3)
  have HB3 := Aside0.mk (HB2.out.trans (Bg.of hb3))
  have BR3 := Aside0.mk (BR2.out.below hb3)
  obtain ⟨q0, q1, q2, q3⟩ := BR3.out.c4
  have f3 := BR3.out.fz
  clear hb3
  go_wp2_with fail
  refine bodyPost_ret (results_cell_row rfl _ _ r 25 #[.int .u8 1, .int .u64 0, .string ⟨#[]⟩, .slice none 0 0] (0, 0) _ rfl (put4_blk BR3.out _ _ _ _) Tryz.underlying25 rfl (by kernel_rfl)) rfl ?_
  refine ⟨none, 0, by rw [HT.out]; rfl, by rw [HT.out]; exact Kd.R_nil _ _ _ _ _, ?_, ?_⟩
  ·rw [HS.out]
   exact put4_rsb HF3.out (by omega) hgB _ _ _ _
  ·exact put4_bg HB3.out hrw _ _ _ _
 | some x =>
  have HT0 := Aside0.mk (tell_some h (kindsP ks) (fun x => x) vNul)
  have HS0 := Aside0.mk (spoil_some h false (kindsP ks))
  have hix := HKI.out x (atF_mem h)
  have HAT := Aside0.mk h
  clear h
  go_wp2_with fail
  refine (take105_some HF1.out (by omega) hgB i false HAT.out).mono ?_
  rintro e w2 ⟨A, c, rfl, hb2, hl2, hC2⟩
  have hal2 := below_alloc (Below.refl w2.heap.size w2) (.cells #[.int .u8 x.f0, .int .u64 x.f1, .string x.f2, .slice A x.f3.length c] 25)
  have hb22 := below_step hb2 hal2
  have HV2 : Aside0 (VaS w x A c base g B l sp r w2.heap.size ks K (w2.alloc (.cells #[.int .u8 x.f0, .int .u64 x.f1, .string x.f2, .slice A x.f3.length c] 25))) := ⟨Blk.new w2 #[.int .u8 x.f0, .int .u64 x.f1, .string x.f2, .slice A x.f3.length c] 25, BR1.out.below hb22, HF1.out.below hb22, Kd.C_below hC2 hal2, Kd.C_below HK1.out hb22, below_step HB1.out hb22⟩
  have hbx : w.heap.size ≤ w2.heap.size := by have := hb2.size; omega
  clear hb2 hal2 hb22 hC2 BR1 HF1 HK1 HB1
  go_upto_region 2 with fail
  obtain ⟨bx, ebx⟩ : ∃ b, w2.heap.size = b := ⟨_, rfl⟩
  obtain ⟨w3, e3⟩ : ∃ W, w2.alloc (.cells #[.int .u8 x.f0, .int .u64 x.f1, .string x.f2, .slice A x.f3.length c] 25) = W := ⟨_, rfl⟩
  rw [e3, ebx] at HV2
  rw [e3, ebx]
  rw [ebx] at hbx
  clear e3 ebx
  obtain ⟨f0, ef0⟩ : ∃ t, ((ks.length : Int) == 0) = t := ⟨_, rfl⟩
  have EF0 : Aside0 (f0 = fitI ks x.f0 0) := ⟨by rw [fitI_zero, ← ef0]; rw [Bool.eq_iff_iff]; simp⟩
  go_upto_region 5 with fail
  clear ef0
  go_wp2_with fail
  go_loopg [9, 10] ks.length (fun gk v9 v10 wr => ∃ j : Nat, v9 = .bool (fitI ks x.f0 j) ∧ v10 = .int .i64 (j : Int) ∧ Aside0 (j ≤ ks.length ∧ gk = ks.length - j) ∧ Aside0 (VaS w x A c base g B l sp r bx ks K wr))
  case atStart => exact ⟨0, by rw [EF0.out], rfl, ⟨by omega, rfl⟩, HV2⟩
  case round =>
   obtain ⟨j, rfl, rfl, HI, HVi⟩ := hrel
   obtain ⟨hj, hgk⟩ := HI.out
   have HG := Aside0.mk hgk
   clear HI hgk
   by_cases hlt : j < ks.length
   ·obtain ⟨ad, eK, hx⟩ := Kd.at_int HVi.out.2.2.2.2.1 (j : Int) (by omega) (by omega)
    subst eK
    rw [Int.toNat_natCast] at hx
    have HFS := Aside0.mk (fitI_succ ks x.f0 j hlt)
    obtain ⟨fj, efj⟩ : ∃ t, fitI ks x.f0 j = t := ⟨_, rfl⟩
    rw [efj] at HFS ⊢
    clear efj
    obtain ⟨y, ey⟩ : ∃ y, rd ks (j : Int) = y := ⟨_, rfl⟩
    rw [ey] at hx HFS
    clear ey
    obtain ⟨p0, p1, p2, p3⟩ := HVi.out.1.c4
    have hlt2 : (j : Int) < (ks.length : Int) := by omega
    have hj0 : (0 : Int) ≤ (j : Int) := by omega
    go_wp2_with fail
    cases fj with
    | true =>
     go_quiet (fail)
     have HVd := Aside0.mk (HVi.out.below (below_drewN (Below.refl _ _) nq))
     clear hx p0 p1 p2 p3
     generalize wr.drewN nq = wd at HVd ⊢
     go_wp2_with fail
     go_roundg (ks.length - (j + 1))
     case measure => rw [HG.out]; omega
     case rel => exact ⟨j + 1, by rw [HFS.out]; rfl, by go_num, ⟨by omega, rfl⟩, HVd⟩
    | false =>
     go_quiet (fail)
     have HVd := Aside0.mk (HVi.out.below (below_drewN (Below.refl _ _) nq))
     clear hx p0 p1 p2 p3
     generalize wr.drewN nq = wd at HVd ⊢
     go_wp2_with fail
     go_roundg (ks.length - (j + 1))
     case measure => rw [HG.out]; omega
     case rel => exact ⟨j + 1, by rw [HFS.out]; rfl, by go_num, ⟨by omega, rfl⟩, HVd⟩
   ·obtain rfl : j = ks.length := by omega
    rw [fitI_end]
    obtain ⟨p0, p1, p2, p3⟩ := HVi.out.1.c4
    cases hP : kindsP ks x with
    | true =>
     have HT : Aside0 (tellP l i (kindsP ks) (fun x => x) vNul = x) := ⟨by rw [HT0.out, hP]; rfl⟩
     have HS : Aside0 (spoilP l i false (kindsP ks) = false) := ⟨by rw [HS0.out, hP]; rfl⟩
     clear hP
     go_wp2_with fail
     refine (copy16_any x hix A c _ HVi.out.2.2.2.1 hl2).mono ?_
     rintro e w4 ⟨A4, c4, rfl, hm4⟩
     have HM := Aside0.mk hm4
     have HV4 := Aside0.mk (HVi.out.below hm4.2)
     have hr4 := HVi.out.2.1.lt
     have hsr := HVi.out.2.2.2.2.2.size
     obtain ⟨q0, q1, q2, q3⟩ := HV4.out.2.1.c4
     have f3 := HV4.out.2.1.fz
     clear hm4 p0 p1 p2 p3
     go_wp2_with fail
     refine bodyPost_ret (results_cell_row rfl _ _ r 25 #[.int .u8 x.f0, .int .u64 x.f1, .string x.f2, .slice A4 x.f3.length c4] (0, 0) _ rfl (put4_blk HV4.out.2.1 _ _ _ _) Tryz.underlying25 rfl (by kernel_rfl)) rfl ?_
     refine ⟨A4, c4, by rw [HT.out], ?_, ?_, ?_⟩
     ·rw [HT.out]
      exact put4_R HM.out.1 hsr hr4 _ _ _ _
     ·rw [HS.out, Bool.or_false]
      exact put4_rsb HV4.out.2.2.1 (by omega) hgB _ _ _ _
     ·exact put4_bg (Bg.of HV4.out.2.2.2.2.2) hrw _ _ _ _
    | false =>
     have HT : Aside0 (tellP l i (kindsP ks) (fun x => x) vNul = vNul) := ⟨by rw [HT0.out, hP]; rfl⟩
     have HS : Aside0 (spoilP l i false (kindsP ks) = true) := ⟨by rw [HS0.out, hP]; rfl⟩
     clear hP p0 p1 p2 p3
     have hF3 := HVi.out.2.2.1
     obtain ⟨A', c', hG, hR⟩ := hF3
     obtain ⟨p0, p1⟩ := hG.c2
     have fz := hG.fz
     clear hG hR
     go_upto_region 11 with fail
     have HF4 := Aside0.mk (HVi.out.2.2.1.set true)
     have BR4 := Aside0.mk (HVi.out.2.1.far (p := ⟨g, 1, none⟩) (show r ≠ g by omega) (.bool true))
     have HB4 := Aside0.mk ((Bg.of (g := g) HVi.out.2.2.2.2.2).set 1 (.bool true))
     obtain ⟨w4, e4⟩ : ∃ W, wr.setCell ⟨g, 1, none⟩ (.bool true) = W := ⟨_, rfl⟩
     rw [e4] at HF4 BR4 HB4 ⊢
     clear e4 p0 p1 fz
     go_wp2_with fail
     refine (rnull106_any _).mono ?_
     rintro e w5 ⟨rfl, hb5⟩
     have HF5 := Aside0.mk (HF4.out.below hb5)
     have HB5 := Aside0.mk (HB4.out.trans (Bg.of hb5))
     have BR5 := Aside0.mk (BR4.out.below hb5)
     obtain ⟨q0, q1, q2, q3⟩ := BR5.out.c4
     have f3 := BR5.out.fz
     clear hb5
     go_wp2_with fail
     refine bodyPost_ret (results_cell_row rfl _ _ r 25 #[.int .u8 1, .int .u64 0, .string ⟨#[]⟩, .slice none 0 0] (0, 0) _ rfl (put4_blk BR5.out _ _ _ _) Tryz.underlying25 rfl (by kernel_rfl)) rfl ?_
     refine ⟨none, 0, by rw [HT.out]; rfl, by rw [HT.out]; exact Kd.R_nil _ _ _ _ _, ?_, ?_⟩
     ·rw [HS.out, Bool.or_true]
      exact put4_rsb HF5.out (by omega) hgB _ _ _ _
     ·exact put4_bg HB5.out hrw _ _ _ _
end Go.Proofs.YtdilbnggedidnaaGreat.PVal
