import Derived.Test.YtdilbnggedidnaaP3
set_option maxRecDepth 100000
set_option maxHeartbeats 8000000
namespace Go.Proofs.Ytdilbnggedidnaa.PVal
open Go.RowKit Go.Shelf Go.Proofs.YtdilbnggedidnaaW.PrintWords Go.Proofs.YtdilbnggedidnaaW.PrintLast
set_option linter.unusedVariables false
set_option linter.unusedSimpArgs false
def KV.cells (q : KV) : List Value := [.int .u8 q.x.f0, .int .u64 q.x.f1, .string q.x.f2, .slice q.A q.x.f3.length q.c]
def flatK : List KV → List Value
 | [] => []
 | q :: l => q.cells ++ flatK l
theorem flatK_get : ∀ (l : List KV) (j : Nat) (q : KV), l[j]? = some q → ∀ i, i < 4 → (flatK l)[j * 4 + i]? = q.cells[i]?
 | [], j, q, h, i, hi => by simp at h
 | p :: l, 0, q, h, i, hi => by
  obtain rfl : p = q := by simpa using h
  rw [flatK, Nat.zero_mul, Nat.zero_add, List.getElem?_append_left (by simpa [KV.cells] using hi)]
 | p :: l, j + 1, q, h, i, hi => by
  rw [flatK, List.getElem?_append_right (by simp [KV.cells]; omega)]
  have := flatK_get l j q (by simpa using h) i hi
  rw [← this]
  congr 1
  simp [KV.cells]; omega
theorem C_lit {W : World} {b : Nat} {ks : List KV} (hb : Blk W b (flatK ks).toArray 25) (hn : ks.length ≤ 9223372036854775807) (hok : ∀ q ∈ ks, q.ok W) : k25.C W (some ⟨b, 0, none⟩) ks.length (ks.map (·.x)) := by
 refine ⟨by simp, hn, fun _ => ⟨_, rfl, fun j p hj => ?_⟩⟩
 rw [List.getElem?_map] at hj
 obtain ⟨q, hq, rfl⟩ := Option.map_eq_some_iff.1 hj
 have hk := hok q (List.mem_of_getElem? hq)
 refine ⟨q.cells, rfl, k25_mk W q.x hk.2 hk.1, fun i u hi => ?_⟩
 have hi4 : i < 4 := by
  have := (List.getElem?_eq_some_iff.1 hi).1
  simpa [KV.cells] using this
 have := flatK_get ks j q hq i hi4
 show W.cell? ((⟨b, 0, none⟩ : Addr).add (j * 4 + i)) = some u
 rw [show (⟨b, 0, none⟩ : Addr).add (j * 4 + i) = ⟨b, j * 4 + i, none⟩ by unfold Addr.add; split <;> simp_all]
 refine (blk_cell hb _).trans ?_
 simpa [this] using hi
theorem many21_any (k : Int) (l : List S25) (hs : itemsL l ≤ 4294967296) (A : Option Addr) (c : Nat) (w : World) (ha : k25.C w A l.length l) (hc : l.length ≤ c) :
  Calls Try.prog 21 #[.int .u8 k, .slice A l.length c] w fun e w' => ∃ v3_ : Value, e = .returned (.agg #[.int .u8 k, .int .u64 0, .string ⟨#[]⟩, v3_]) ∧ k25.R 25 w' w.heap.size (fun _ => True) v3_ l ∧ Below w.heap.size w w' :=
 value_Many.calls k A c l k 0 ⟨#[]⟩ l w ha hc (by unfold value_Many.f value_copies.f; rw [if_pos hs]; rfl)
theorem desc28_any (x y : S25) (hs : itemsN x + itemsN y ≤ 4294967296) (A B : Option Addr) (c d : Nat) (w : World) (ha : k25.C w A x.f3.length x.f3) (hc : x.f3.length ≤ c) (hb : k25.C w B y.f3.length y.f3) (hd : y.f3.length ≤ d) :
  Calls Try.prog 28 #[.agg #[.int .u8 x.f0, .int .u64 x.f1, .string x.f2, .slice A x.f3.length c], .agg #[.int .u8 y.f0, .int .u64 y.f1, .string y.f2, .slice B y.f3.length d]] w fun e w' => ∃ v3_ : Value, e = .returned (.agg #[.int .u8 25, .int .u64 0, .string ⟨#[]⟩, v3_]) ∧ k25.R 25 w' w.heap.size (fun _ => True) v3_ [x, y] ∧ Below w.heap.size w w' := by
 have HA := Aside0.mk ha
 have HB := Aside0.mk hb
 clear ha hb
 go_enter Try.func28, Try.ntmps28
 go_wp2_with fail
 have bR : Blk ((((w.alloc (.cells #[.int .u8 x.f0, .int .u64 x.f1, .string x.f2, .slice A x.f3.length c] 25)).alloc (.cells #[.int .u8 y.f0, .int .u64 y.f1, .string y.f2, .slice B y.f3.length d] 25)).alloc (.cells #[.int .u8 0, .int .u64 0, .string ⟨#[]⟩, .slice none 0 0] 25)).alloc (.cells #[.int .u8 x.f0, .int .u64 x.f1, .string x.f2, .slice A x.f3.length c, .int .u8 y.f0, .int .u64 y.f1, .string y.f2, .slice B y.f3.length d] 25)) (w.heap.size + 1 + 1) #[.int .u8 0, .int .u64 0, .string ⟨#[]⟩, .slice none 0 0] 25 := by
  have := (Blk.new ((w.alloc (.cells #[.int .u8 x.f0, .int .u64 x.f1, .string x.f2, .slice A x.f3.length c] 25)).alloc (.cells #[.int .u8 y.f0, .int .u64 y.f1, .string y.f2, .slice B y.f3.length d] 25)) #[.int .u8 0, .int .u64 0, .string ⟨#[]⟩, .slice none 0 0] 25).alloc (.cells #[.int .u8 x.f0, .int .u64 x.f1, .string x.f2, .slice A x.f3.length c, .int .u8 y.f0, .int .u64 y.f1, .string y.f2, .slice B y.f3.length d] 25); simpa using this
 have bL : Blk ((((w.alloc (.cells #[.int .u8 x.f0, .int .u64 x.f1, .string x.f2, .slice A x.f3.length c] 25)).alloc (.cells #[.int .u8 y.f0, .int .u64 y.f1, .string y.f2, .slice B y.f3.length d] 25)).alloc (.cells #[.int .u8 0, .int .u64 0, .string ⟨#[]⟩, .slice none 0 0] 25)).alloc (.cells #[.int .u8 x.f0, .int .u64 x.f1, .string x.f2, .slice A x.f3.length c, .int .u8 y.f0, .int .u64 y.f1, .string y.f2, .slice B y.f3.length d] 25)) (w.heap.size + 1 + 1 + 1) (flatK [⟨x, A, c⟩, ⟨y, B, d⟩]).toArray 25 := by
  have := Blk.new (((w.alloc (.cells #[.int .u8 x.f0, .int .u64 x.f1, .string x.f2, .slice A x.f3.length c] 25)).alloc (.cells #[.int .u8 y.f0, .int .u64 y.f1, .string y.f2, .slice B y.f3.length d] 25)).alloc (.cells #[.int .u8 0, .int .u64 0, .string ⟨#[]⟩, .slice none 0 0] 25)) #[.int .u8 x.f0, .int .u64 x.f1, .string x.f2, .slice A x.f3.length c, .int .u8 y.f0, .int .u64 y.f1, .string y.f2, .slice B y.f3.length d] 25; simpa [flatK, KV.cells] using this
 have hB0 : Below w.heap.size w ((((w.alloc (.cells #[.int .u8 x.f0, .int .u64 x.f1, .string x.f2, .slice A x.f3.length c] 25)).alloc (.cells #[.int .u8 y.f0, .int .u64 y.f1, .string y.f2, .slice B y.f3.length d] 25)).alloc (.cells #[.int .u8 0, .int .u64 0, .string ⟨#[]⟩, .slice none 0 0] 25)).alloc (.cells #[.int .u8 x.f0, .int .u64 x.f1, .string x.f2, .slice A x.f3.length c, .int .u8 y.f0, .int .u64 y.f1, .string y.f2, .slice B y.f3.length d] 25)) := below_alloc (below_alloc (below_alloc (below_alloc (Below.refl _ _) _) _) _) _
 have hz : ((((w.alloc (.cells #[.int .u8 x.f0, .int .u64 x.f1, .string x.f2, .slice A x.f3.length c] 25)).alloc (.cells #[.int .u8 y.f0, .int .u64 y.f1, .string y.f2, .slice B y.f3.length d] 25)).alloc (.cells #[.int .u8 0, .int .u64 0, .string ⟨#[]⟩, .slice none 0 0] 25)).alloc (.cells #[.int .u8 x.f0, .int .u64 x.f1, .string x.f2, .slice A x.f3.length c, .int .u8 y.f0, .int .u64 y.f1, .string y.f2, .slice B y.f3.length d] 25)).heap.size = w.heap.size + 4 := by simp
 obtain ⟨W0, hW0⟩ : ∃ W0, ((((w.alloc (.cells #[.int .u8 x.f0, .int .u64 x.f1, .string x.f2, .slice A x.f3.length c] 25)).alloc (.cells #[.int .u8 y.f0, .int .u64 y.f1, .string y.f2, .slice B y.f3.length d] 25)).alloc (.cells #[.int .u8 0, .int .u64 0, .string ⟨#[]⟩, .slice none 0 0] 25)).alloc (.cells #[.int .u8 x.f0, .int .u64 x.f1, .string x.f2, .slice A x.f3.length c, .int .u8 y.f0, .int .u64 y.f1, .string y.f2, .slice B y.f3.length d] 25)) = W0 := ⟨_, rfl⟩
 rw [hW0] at bR bL hB0 hz ⊢
 clear hW0
 have hC := C_lit bL (by simp) (by
  intro q hq
  simp only [List.mem_cons, List.not_mem_nil, or_false] at hq
  rcases hq with rfl | rfl
  ·exact ⟨Kd.C_below HA.out hB0, hc⟩
  ·exact ⟨Kd.C_below HB.out hB0, hd⟩)
 refine (many21_any 25 [x, y] (by simpa [itemsL] using hs) _ 2 W0 hC (by simp)).mono ?_
 rintro e w5 ⟨v3, rfl, hR, hb5⟩
 have HR := Aside0.mk hR
 obtain ⟨A5, c5, rfl⟩ := Kd.R_slice hR
 have bR5 := bR.below hb5
 have HB5 := Aside0.mk (below_step hB0 hb5)
 have HZ := Aside0.mk (⟨hz, hb5.size⟩ : _ ∧ _)
 obtain ⟨q0, q1, q2, q3⟩ := bR5.c4
 have fz := bR5.fz
 clear hR hC bL hb5 hB0
 go_wp2_with fail
 have hz1 := HZ.out.1
 have hz2 := HZ.out.2
 refine bodyPost_ret (results_cell_row rfl _ _ (w.heap.size + 1 + 1) 25 #[.int .u8 25, .int .u64 0, .string ⟨#[]⟩, .slice A5 2 c5] (0, 0) _ rfl (by
  refine blk_put (cs := #[.int .u8 25, .int .u64 0, .string ⟨#[]⟩, .slice none 0 0]) ?_ 3 _ rfl
  refine blk_put (cs := #[.int .u8 25, .int .u64 0, .string ⟨#[]⟩, .slice none 0 0]) ?_ 2 _ rfl
  refine blk_put (cs := #[.int .u8 25, .int .u64 0, .string ⟨#[]⟩, .slice none 0 0]) ?_ 1 _ rfl
  refine blk_put (cs := #[.int .u8 0, .int .u64 0, .string ⟨#[]⟩, .slice none 0 0]) ?_ 0 _ rfl
  exact bR5) Try.underlying25 rfl (by kernel_rfl)) rfl ?_
 refine ⟨.slice A5 2 c5, rfl, ?_, ?_⟩
 ·refine R_lower_far HR.out (by omega) ?_
  exact ((((SetsBelow.nil).snoc (show w.heap.size + 1 + 1 < _ by omega) _).snoc (show w.heap.size + 1 + 1 < _ by omega) _).snoc (show w.heap.size + 1 + 1 < _ by omega) _).snoc (show w.heap.size + 1 + 1 < _ by omega) _
 ·exact below_set (below_set (below_set (below_set HB5.out (by omega)) (by omega)) (by omega)) (by omega)
end Go.Proofs.Ytdilbnggedidnaa.PVal
namespace Go.Proofs.Ytdilbnggedidnaa.PVal
open Go.RowKit
set_option linter.unusedVariables false
set_option linter.unusedSimpArgs false
def Evt {α : Type} (g : Nat → Option α) (r : α) : Prop := ∃ k0, ∀ k, k0 ≤ k → g k = some r
theorem Evt.const {α : Type} (r : α) : Evt (fun _ => some r) r := ⟨0, fun _ _ => rfl⟩
theorem Evt.step {α : Type} {f b : Nat → Option α} {r : α} (h : Evt b r) (hf : ∀ k, f (k + 1) = b k) : Evt f r := by
 obtain ⟨k0, h⟩ := h
 refine ⟨k0 + 1, fun k hk => ?_⟩
 obtain ⟨k, rfl⟩ : ∃ j, k = j + 1 := ⟨k - 1, by omega⟩
 rw [hf]; exact h k (by omega)
theorem Evt.bind {α β : Type} {g : Nat → Option α} {h : Nat → α → Option β} {a : α} {r : β} (hg : Evt g a) (hh : Evt (fun k => h k a) r) : Evt (fun k => (g k).bind (h k)) r := by
 obtain ⟨k0, h0⟩ := hg
 obtain ⟨k1, h1⟩ := hh
 refine ⟨max k0 k1, fun k hk => ?_⟩
 show (g k).bind (h k) = some r
 rw [h0 k (by omega)]; exact h1 k (by omega)
theorem Evt.get {α : Type} {g : Nat → Option α} {r : α} (h : Evt g r) : ∃ k, g k = some r := h.imp fun k0 h0 => h0 k0 (Nat.le_refl _)
theorem Evt.congr {α : Type} {f g : Nat → Option α} {r : α} (h : Evt g r) (he : ∀ k, f k = g k) : Evt f r := h.imp fun k0 h0 k hk => (he k).trans (h0 k hk)
theorem same_e (x y : S25) (hx : itemsN x ≤ 4294967296) : Evt (fun k => bellwetherref04_Same.f k x.f0 x.f1 x.f2 x.f3 y.f0 y.f1 y.f2 y.f3) (veq x y) := ⟨3 * itemsN x, fun k hk => same_f x y k hk hx⟩
theorem veq_comm' (x y : S25) : veq x y = veq y x := by
 rw [Bool.eq_iff_iff, veq_iff, veq_iff]; exact eq_comm
def zz (n : Int) (s : ByteArray) : Bool := (n == 0) && (s.toList == ([] : List UInt8))
theorem zz_e (n : Int) (s : ByteArray) : (if n = 0 then (some (s.toList == ([] : List UInt8))) else (some false)) = some (zz n s) := by
 unfold zz
 by_cases h : n = 0
 ·rw [if_pos h, beq_iff_eq.2 h]; rfl
 ·rw [if_neg h, beq_eq_false_iff_ne.2 h]; rfl
theorem zz_of {k n : Int} {s : ByteArray} (hk : 22 ≤ k) : (numB k n && txtB k s) = zz n s := by
 unfold numB txtB zz
 rw [if_neg (by omega), if_neg (by omega), if_neg (by omega), if_neg (by omega), if_neg (by omega), if_neg (by omega), if_neg (by omega), if_neg (by omega), if_neg (by omega), if_neg (by omega), if_neg (by omega), if_neg (by omega), if_neg (by omega)]
 rw [if_neg (by omega), if_neg (by omega), if_neg (by omega), if_neg (by omega), if_neg (by omega), if_neg (by omega), if_neg (by omega)]
 cases s.toList <;> rfl
theorem may_l3 (n0 : Int) (s : ByteArray) (kk : Int) (l : List S25) (hm : l.length ≤ 4294967296) (h0 : S25) (t : List S25) (hl : l = h0 :: t) (hs : itemsN h0 ≤ 4294967296) (hd : ∀ x ∈ l, ∃ m, dsc m x) (dh : dsc (itemsN h0) h0) :
  ∀ (m i : Nat), i + m = l.length → 1 ≤ i → Evt (fun k => bellwetherref04_may.l3 k (l.length : Int) (i : Int) kk n0 s l) ((l.drop i).all (alikeB h0) && zz n0 s)
 | 0, i, hi, h1 => by
  refine Evt.step (b := fun k => some (zz n0 s)) (by rw [List.drop_of_length_le (by omega)]; exact Evt.const _) fun k => ?_
  rw [bellwetherref04_may.l3, if_neg (by omega), zz_e]
 | m + 1, i, hi, h1 => by
  have hlt : i < l.length := by omega
  have hdr : l.drop i = rd_T25 l (i : Int) :: l.drop (i + 1) := by
   have := drop_rd (xs := l) (i := (i : Int)) (by omega) (by omega)
   simpa using this
  obtain ⟨md, hmd⟩ := hd _ (rd_mem (xs := l) (i := (i : Int)) (by omega) (by omega))
  have h00 : rd_T25 l 0 = h0 := by rw [hl]; rfl
  have ha : Evt (fun k => bellwetherref04_alike.f k h0.f0 h0.f1 h0.f2 h0.f3 (rd_T25 l (i : Int)).f0 (rd_T25 l (i : Int)).f1 (rd_T25 l (i : Int)).f2 (rd_T25 l (i : Int)).f3) (alikeB h0 (rd_T25 l (i : Int))) :=
   ⟨2 * itemsN h0 + 3 * itemsN h0, fun k hk => ralike_f (itemsN h0) k h0 _ md dh hmd hk hs⟩
  have ih := may_l3 n0 s kk l hm h0 t hl hs hd dh m (i + 1) (by omega) (by omega)
  refine Evt.step (b := fun k => (bellwetherref04_alike.f k h0.f0 h0.f1 h0.f2 h0.f3 (rd_T25 l (i : Int)).f0 (rd_T25 l (i : Int)).f1 (rd_T25 l (i : Int)).f2 (rd_T25 l (i : Int)).f3).bind fun t109 => (if t109 = true then (bellwetherref04_may.l3 k (l.length : Int) ((i + 1 : Nat) : Int) kk n0 s l) else (some false))) ?_ fun k => ?_
  ·refine Evt.bind ha ?_
   rw [hdr, List.all_cons]
   cases alikeB h0 (rd_T25 l (i : Int)) with
   | true => simpa using ih
   | false => exact Evt.const _
  ·rw [bellwetherref04_may.l3, if_pos (by omega), if_pos (by omega), if_pos (by omega), if_pos (by omega), h00, w64 (by omega) (by omega)]
   rfl
theorem may_l2 (n0 : Int) (s : ByteArray) (kk : Int) (l : List S25) (hm : l.length ≤ 4294967296) (hi : ∀ x ∈ l, itemsN x ≤ 4294967296) (a : Nat) (ha : 2 * a < l.length) (r : Bool) (h1 : Evt (fun k => bellwetherref04_may.l1 k (l.length : Int) ((2 * (a + 1) : Nat) : Int) kk n0 s l) r) :
  ∀ (m b : Nat), b + m = a → Evt (fun k => bellwetherref04_may.l2 k (l.length : Int) ((2 * a : Nat) : Int) ((2 * b : Nat) : Int) kk n0 s l) (!((List.range' b m).any fun j => veq (rd_T25 l ((2 * a : Nat) : Int)) (rd_T25 l ((2 * j : Nat) : Int))) && r)
 | 0, b, hb => by
  refine Evt.step (b := fun k => bellwetherref04_may.l1 k (l.length : Int) ((2 * (a + 1) : Nat) : Int) kk n0 s l) (by simpa using h1) fun k => ?_
  rw [bellwetherref04_may.l2, if_neg (by omega), w64 (by omega) (by omega), show ((2 * a : Nat) : Int) + 2 = ((2 * (a + 1) : Nat) : Int) by omega]
 | m + 1, b, hb => by
  have ih := may_l2 n0 s kk l hm hi a ha r h1 m (b + 1) (by omega)
  refine Evt.step (b := fun k => (bellwetherref04_Same.f k (rd_T25 l ((2 * a : Nat) : Int)).f0 (rd_T25 l ((2 * a : Nat) : Int)).f1 (rd_T25 l ((2 * a : Nat) : Int)).f2 (rd_T25 l ((2 * a : Nat) : Int)).f3 (rd_T25 l ((2 * b : Nat) : Int)).f0 (rd_T25 l ((2 * b : Nat) : Int)).f1 (rd_T25 l ((2 * b : Nat) : Int)).f2 (rd_T25 l ((2 * b : Nat) : Int)).f3).bind fun t106 => (if t106 = true then (some false) else (bellwetherref04_may.l2 k (l.length : Int) ((2 * a : Nat) : Int) ((2 * (b + 1) : Nat) : Int) kk n0 s l))) ?_ fun k => ?_
  ·refine Evt.bind (same_e _ _ (hi _ (rd_mem (by omega) (by omega)))) ?_
   rw [List.range'_succ, List.any_cons]
   cases veq (rd_T25 l ((2 * a : Nat) : Int)) (rd_T25 l ((2 * b : Nat) : Int)) with
   | true => exact Evt.const _
   | false => simpa using ih
  ·rw [bellwetherref04_may.l2, if_pos (by omega), if_pos (by omega), if_pos (by omega), if_pos (by omega), if_pos (by omega), w64 (by omega) (by omega), show ((2 * b : Nat) : Int) + 2 = ((2 * (b + 1) : Nat) : Int) by omega]
def keysOf (l : List S25) : List S25 := (pairsOf l).map (·.1)
theorem keysOf_get {l : List S25} {k : Nat} (h : 2 * k + 1 < l.length) : (keysOf l)[k]? = some (rd_T25 l ((2 * k : Nat) : Int)) := by
 unfold keysOf
 rw [List.getElem?_map, pairsOf_get l k h]
 rfl
theorem keysOf_length (l : List S25) : (keysOf l).length = l.length / 2 := by unfold keysOf; rw [List.length_map, pairsOf_length]
theorem keys_any {l : List S25} {a : Nat} (ha : 2 * a < l.length) (he : l.length % 2 = 0) (x : S25) : ((keysOf l).take a).any (fun s => veq s x) = (List.range' 0 a).any fun j => veq x (rd_T25 l ((2 * j : Nat) : Int)) := by
 have : (keysOf l).take a = (List.range' 0 a).map fun j => rd_T25 l ((2 * j : Nat) : Int) := by
  apply List.ext_getElem?
  intro j
  rw [List.getElem?_take, List.getElem?_map]
  by_cases hj : j < a
  ·rw [if_pos hj, keysOf_get (by omega), List.getElem?_range' (by omega)]
   simp
  ·rw [if_neg hj, List.getElem?_eq_none (by simp; omega)]
   rfl
 rw [this, List.any_map]
 congr 1
 funext j
 exact veq_comm' _ _
theorem may_l1 (n0 : Int) (s : ByteArray) (kk : Int) (l : List S25) (hm : l.length ≤ 4294967296) (hi : ∀ x ∈ l, itemsN x ≤ 4294967296) (he : l.length % 2 = 0) :
  ∀ (m a : Nat), 2 * (a + m) = l.length → Evt (fun k => bellwetherref04_may.l1 k (l.length : Int) ((2 * a : Nat) : Int) kk n0 s l) (unlikeL ((keysOf l).take a) ((keysOf l).drop a) && zz n0 s)
 | 0, a, ha => by
  refine Evt.step (b := fun k => some (zz n0 s)) (by rw [List.drop_of_length_le (by rw [keysOf_length]; omega)]; exact Evt.const _) fun k => ?_
  rw [bellwetherref04_may.l1, if_neg (by omega), zz_e]
 | m + 1, a, ha => by
  have ih := may_l1 n0 s kk l hm hi he m (a + 1) (by omega)
  have h2 := may_l2 n0 s kk l hm hi a (by omega) _ ih a 0 (by omega)
  have h : Evt (fun k => bellwetherref04_may.l1 k (l.length : Int) ((2 * a : Nat) : Int) kk n0 s l) _ := Evt.step h2 (fun k => by
   rw [bellwetherref04_may.l1, if_pos (by omega)]
   rfl)
  have hlt : a < (keysOf l).length := by rw [keysOf_length]; omega
  have hk := keysOf_get (l := l) (k := a) (by omega)
  rw [List.getElem?_eq_getElem hlt] at hk
  have hkk := Option.some.inj hk
  rw [List.drop_eq_getElem_cons hlt, hkk, unlikeL, keys_any (by omega) he]
  rw [List.take_succ_eq_append_getElem hlt, hkk] at h
  rw [Bool.and_assoc]
  exact h
theorem alikeF_refl : ∀ (n : Nat) (a : S25), dsc n a → alikeF n a a = true
 | 0, _, h => h.elim
 | n + 1, a, h => by
  unfold alikeF
  by_cases h25 : a.f0 = 25
  ·obtain ⟨x, y, he, hy⟩ := h h25
   rw [if_pos ⟨h25, h25⟩, he, veq_refl]
   exact alikeF_refl n y hy
  ·rw [if_neg (fun h => h25 h.1)]
   exact beq_self_eq_true _
theorem called_f (a b : Int) (s : ByteArray) (l : List S25) : bellwetherref04_Called.f a b s l = some (decide (a = 6) || decide (a = 21)) := by
 unfold bellwetherref04_Called.f
 by_cases h6 : a = 6
 ·simp [h6]
 ·by_cases h21 : a = 21 <;> simp [h6, h21]
theorem may_l0 (n0 : Int) (s : ByteArray) (kk : Int) (l : List S25) (hm : l.length ≤ 4294967296) (hk : ∀ x ∈ l, Evt (fun k => bellwetherref04_may.f k x.f0 x.f1 x.f2 x.f3) (mayB x)) (r : Bool) (hr : mayL l = true → Evt (fun k => bellwetherref04_may.l0 k (l.length : Int) kk n0 s l) r) :
  ∀ (m i : Nat), i + m = l.length → (l.take i).all mayB = true → Evt (fun k => bellwetherref04_may.l0 k (i : Int) kk n0 s l) ((l.drop i).all mayB && r)
 | 0, i, hi, ht => by
  obtain rfl : i = l.length := by omega
  rw [List.take_length] at ht
  rw [List.drop_length]
  exact hr (by rw [mayL_all]; exact ht)
 | m + 1, i, hi, ht => by
  have hlt : i < l.length := by omega
  have hdr : l.drop i = rd_T25 l (i : Int) :: l.drop (i + 1) := by
   have := drop_rd (xs := l) (i := (i : Int)) (by omega) (by omega)
   simpa using this
  have htk : l.take (i + 1) = l.take i ++ [rd_T25 l (i : Int)] := by
   have := take_rd (xs := l) (i := (i : Int)) (by omega) (by omega)
   simpa using this
  refine Evt.step (b := fun k => (bellwetherref04_may.f k (rd_T25 l (i : Int)).f0 (rd_T25 l (i : Int)).f1 (rd_T25 l (i : Int)).f2 (rd_T25 l (i : Int)).f3).bind fun t103 => (if t103 = true then (bellwetherref04_may.l0 k ((i + 1 : Nat) : Int) kk n0 s l) else (some false))) ?_ fun k => ?_
  ·refine Evt.bind (hk _ (rd_mem (by omega) (by omega))) ?_
   rw [hdr, List.all_cons]
   cases hb : mayB (rd_T25 l (i : Int)) with
   | true =>
    have ih := may_l0 n0 s kk l hm hk r hr m (i + 1) (by omega) (by rw [htk, List.all_append, ht, List.all_cons, hb]; rfl)
    simpa using ih
   | false => exact Evt.const _
  ·rw [bellwetherref04_may.l0, if_pos (by omega), if_pos (by omega), w64 (by omega) (by omega)]
   rfl
theorem may_e : ∀ (n : Nat) (x : S25), itemsN x ≤ n → itemsN x ≤ 4294967296 → okV x → Evt (fun k => bellwetherref04_may.f k x.f0 x.f1 x.f2 x.f3) (mayB x)
 | 0, x, h, _, _ => absurd (itemsN_pos x) (by omega)
 | n + 1, x, h, hs, ho => by
  have hN := itemsN_eq x
  have hlen := itemsL_length x.f3
  have hm : x.f3.length ≤ 4294967296 := by omega
  have hob := ho
  rw [okV_eq] at ho
  obtain ⟨⟨hn, ht⟩, hol⟩ := ho
  have hi : ∀ y ∈ x.f3, itemsN y ≤ 4294967296 := fun y hy => by have := itemsL_mem hy; omega
  have hk : ∀ y ∈ x.f3, Evt (fun k => bellwetherref04_may.f k y.f0 y.f1 y.f2 y.f3) (mayB y) := fun y hy => may_e n y (by have := itemsL_mem hy; omega) (hi y hy) (okL_mem hol hy)
  have hall : mayB x = (x.f3.all mayB && (decide (1 ≤ x.f0 ∧ x.f0 ≤ 25) && ((numB x.f0 x.f1 && txtB x.f0 x.f2) && famB x))) := by
   rw [mayB_eq, mayL_all]
   cases x.f3.all mayB <;> cases decide (1 ≤ x.f0 ∧ x.f0 ≤ 25) <;> rfl
  rw [hall]
  refine Evt.step (b := fun k => bellwetherref04_may.l0 k 0 x.f0 x.f1 x.f2 x.f3) ?_ fun k => rfl
  have := may_l0 x.f1 x.f2 x.f0 x.f3 hm hk (decide (1 ≤ x.f0 ∧ x.f0 ≤ 25) && ((numB x.f0 x.f1 && txtB x.f0 x.f2) && famB x)) ?_ x.f3.length 0 (by omega) (by rw [List.take_zero]; rfl)
  ·rw [List.drop_zero] at this
   exact this
  intro hml
  rw [mayL_all] at hml
  by_cases h22 : x.f0 = 22
  ·have hr : (decide (1 ≤ x.f0 ∧ x.f0 ≤ 25) && ((numB x.f0 x.f1 && txtB x.f0 x.f2) && famB x)) = zz x.f1 x.f2 := by
    rw [zz_of (by omega), decide_eq_true (by omega)]
    unfold famB
    rw [if_pos h22, Bool.and_true, Bool.true_and]
   rw [hr]
   refine Evt.step (Evt.const (zz x.f1 x.f2)) fun k => ?_
   rw [bellwetherref04_may.l0, if_neg (by omega), if_pos h22, zz_e]
  by_cases h23 : x.f0 = 23
  ·have hr : (decide (1 ≤ x.f0 ∧ x.f0 ≤ 25) && ((numB x.f0 x.f1 && txtB x.f0 x.f2) && famB x)) = (zz x.f1 x.f2 && (decide (x.f3.length % 2 = 0) && unlikeB x)) := by
    rw [zz_of (by omega), decide_eq_true (by omega)]
    unfold famB
    rw [if_neg h22, if_pos h23, Bool.true_and]
   rw [hr]
   by_cases he : x.f3.length % 2 = 0
   ·have h1 := may_l1 x.f1 x.f2 x.f0 x.f3 hm hi he (x.f3.length / 2) 0 (by omega)
    rw [List.take_zero, List.drop_zero] at h1
    rw [decide_eq_true he, Bool.true_and, Bool.and_comm]
    refine Evt.step h1 fun k => ?_
    rw [bellwetherref04_may.l0, if_neg (by omega), if_neg h22, if_pos h23, if_neg (by omega)]
    rfl
   ·rw [decide_eq_false he, Bool.false_and, Bool.and_false]
    refine Evt.step (Evt.const false) fun k => ?_
    rw [bellwetherref04_may.l0, if_neg (by omega), if_neg h22, if_pos h23, if_pos (by omega)]
  by_cases h24 : x.f0 = 24
  ·have hr : (decide (1 ≤ x.f0 ∧ x.f0 ≤ 25) && ((numB x.f0 x.f1 && txtB x.f0 x.f2) && famB x)) = (zz x.f1 x.f2 && arrB x.f3) := by
    rw [zz_of (by omega), decide_eq_true (by omega)]
    unfold famB
    rw [if_neg h22, if_neg h23, if_pos h24, Bool.true_and]
   rw [hr]
   rcases hx : x.f3 with _ | ⟨h0, tl⟩
   ·show Evt _ (zz x.f1 x.f2 && true)
    rw [Bool.and_true]
    refine Evt.step (b := fun k => bellwetherref04_may.l3 k 0 1 x.f0 x.f1 x.f2 []) ?_ fun k => ?_
    ·refine Evt.step (Evt.const (zz x.f1 x.f2)) fun k => ?_
     rw [bellwetherref04_may.l3, if_neg (by omega), zz_e]
    ·rw [bellwetherref04_may.l0, if_neg (by simp), if_neg h22, if_neg h23, if_pos h24]
     rfl
   ·rw [hx] at hml hi hm
    have hd : ∀ y ∈ h0 :: tl, ∃ m, dsc m y := fun y hy => ⟨itemsN y, mayB_dsc _ y (Nat.le_refl _) (List.all_eq_true.1 hml y hy)⟩
    have hd0 := mayB_dsc _ h0 (Nat.le_refl _) (List.all_eq_true.1 hml h0 List.mem_cons_self)
    have h3 := may_l3 x.f1 x.f2 x.f0 (h0 :: tl) hm h0 tl rfl (hi h0 List.mem_cons_self) hd hd0 tl.length 1 (by simp; omega) (Nat.le_refl _)
    have hself : alikeB h0 h0 = true := alikeF_refl (itemsN h0) h0 hd0
    rw [Bool.and_comm]
    show Evt _ ((h0 :: tl).all (alikeB h0) && _)
    rw [List.all_cons, hself, Bool.true_and]
    rw [List.drop_succ_cons, List.drop_zero] at h3
    refine Evt.step h3 fun k => ?_
    rw [bellwetherref04_may.l0, if_neg (by omega), if_neg h22, if_neg h23, if_pos h24]
    rfl
  by_cases h25 : x.f0 = 25
  ·have hr : (decide (1 ≤ x.f0 ∧ x.f0 ≤ 25) && ((numB x.f0 x.f1 && txtB x.f0 x.f2) && famB x)) = (zz x.f1 x.f2 && (decide (x.f3.length = 2) && (decide ((rd_T25 x.f3 0).f0 = 6) || decide ((rd_T25 x.f3 0).f0 = 21)))) := by
    rw [zz_of (by omega), decide_eq_true (by omega)]
    unfold famB
    rw [if_neg h22, if_neg h23, if_neg h24, if_pos h25, Bool.true_and]
   rw [hr]
   refine Evt.step (b := fun _ => some _) (Evt.const _) fun k => ?_
   rw [bellwetherref04_may.l0, if_neg (by omega), if_neg h22, if_neg h23, if_neg h24, if_pos h25]
   by_cases h2 : x.f3.length = 2
   ·rw [if_pos (by omega), if_pos (by omega), decide_eq_true h2, Bool.true_and, called_f]
    show (if _ = true then _ else _) = _
    cases (decide ((rd_T25 x.f3 0).f0 = 6) || decide ((rd_T25 x.f3 0).f0 = 21)) with
    | true => rw [if_pos rfl, zz_e, Bool.and_true]
    | false => rw [if_neg (by simp), Bool.and_false]
   ·rw [if_neg (by omega), decide_eq_false h2, Bool.false_and, Bool.and_false]
  ·have hf : famB x = decide (x.f3.length = 0) := by unfold famB; rw [if_neg h22, if_neg h23, if_neg h24, if_neg h25]
   refine Evt.step (b := fun _ => some _) (Evt.const _) fun k => ?_
   rw [bellwetherref04_may.l0, if_neg (by omega), if_neg h22, if_neg h23, if_neg h24, if_neg h25, bellwetherref04_plain.f, if_pos ⟨hn, ht⟩, hf]
   show some _ = some _
   congr 1
   unfold plainB
   by_cases hr1 : 1 ≤ x.f0 ∧ x.f0 ≤ 25
   ·rw [decide_eq_true hr1, decide_eq_true (show 1 ≤ x.f0 ∧ x.f0 ≤ 21 by omega)]
    show (decide (x.f3.length = 0) && true && numB x.f0 x.f1 && txtB x.f0 x.f2) = _
    cases decide (x.f3.length = 0) <;> cases numB x.f0 x.f1 <;> cases txtB x.f0 x.f2 <;> rfl
   ·rw [decide_eq_false hr1, decide_eq_false (show ¬ (1 ≤ x.f0 ∧ x.f0 ≤ 21) by omega)]
    cases decide (x.f3.length = 0) <;> rfl
end Go.Proofs.Ytdilbnggedidnaa.PVal
namespace Go.Proofs.Ytdilbnggedidnaa.PVal
open Go.RowKit Go.Proofs.YtdilbnggedidnaaW.PrintWords Go.Proofs.YtdilbnggedidnaaW.PrintLast
set_option linter.unusedVariables false
set_option linter.unusedSimpArgs false
theorem S25.eta' (x : S25) : (⟨x.f0, x.f1, x.f2, x.f3⟩ : S25) = x := by cases x; rfl
def rightB (x : S25) : Bool := (decide (depthN x ≤ 16) && decide (itemsN x ≤ 1024)) && mayB x
theorem right17_any (x : S25) (hs : itemsN x ≤ 4294967296) (ho : okV x) (A : Option Addr) (c : Nat) (w : World) (ha : k25.C w A x.f3.length x.f3) (hc : x.f3.length ≤ c) :
  Calls Try.prog 17 #[.agg #[.int .u8 x.f0, .int .u64 x.f1, .string x.f2, .slice A x.f3.length c]] w fun e w' => e = .returned (.bool (rightB x)) ∧ Below w.heap.size w w' := by
 refine value_Right.calls x.f0 x.f1 x.f2 A c x.f3 _ w ha hc ?_
 unfold value_Right.f value_Depth.f value_Items.f value_may.f rightB
 rw [S25.eta', if_pos hs]
 show (if (depthN x : Int) ≤ 16 then _ else _) = _
 by_cases h1 : depthN x ≤ 16
 ·rw [if_pos (by omega), if_pos hs, decide_eq_true h1]
  show (if (itemsN x : Int) ≤ 1024 then _ else _) = _
  by_cases h2 : itemsN x ≤ 1024
  ·rw [if_pos (by omega), if_pos ⟨hs, okVb_iff.2 ho⟩, decide_eq_true h2]; rfl
  ·rw [if_neg (by omega), decide_eq_false h2]; rfl
 ·rw [if_neg (by omega), decide_eq_false h1]; rfl
theorem right18_any (x : S25) (hs : itemsN x ≤ 4294967296) (ho : okV x) (A : Option Addr) (c : Nat) (w : World) (ha : k25.C w A x.f3.length x.f3) (hc : x.f3.length ≤ c) :
  Calls Try.prog 18 #[.agg #[.int .u8 x.f0, .int .u64 x.f1, .string x.f2, .slice A x.f3.length c]] w fun e w' => e = .returned (.bool (rightB x)) ∧ Below w.heap.size w w' := by
 have he : Evt (fun k => bellwetherref04_Right.f k x.f0 x.f1 x.f2 x.f3) (rightB x) := by
  unfold bellwetherref04_Right.f rightB
  refine Evt.bind (a := (itemsN x : Int)) ⟨2 * itemsN x, fun k hk => items_f x k hk hs⟩ ?_
  by_cases h2 : itemsN x ≤ 1024
  ·refine Evt.congr (g := fun k => (bellwetherref04_Depth.f k x.f0 x.f1 x.f2 x.f3).bind fun t115 => (if t115 ≤ 16 then ((bellwetherref04_may.f k x.f0 x.f1 x.f2 x.f3).bind fun t116 => (some t116)) else (some false))) ?_ (fun k => if_pos (by omega))
   refine Evt.bind (a := (depthN x : Int)) ⟨2 * itemsN x, fun k hk => depth_f x k hk hs⟩ ?_
   rw [decide_eq_true h2, Bool.and_true]
   by_cases h1 : depthN x ≤ 16
   ·refine Evt.congr (g := fun k => (bellwetherref04_may.f k x.f0 x.f1 x.f2 x.f3).bind fun t116 => (some t116)) ?_ (fun k => if_pos (by omega))
    rw [decide_eq_true h1, Bool.true_and]
    exact Evt.bind (may_e _ x (Nat.le_refl _) hs ho) (Evt.const _)
   ·rw [decide_eq_false h1]
    exact Evt.congr (Evt.const _) (fun k => if_neg (by omega))
  ·rw [decide_eq_false h2, Bool.and_false]
   exact Evt.congr (Evt.const _) (fun k => if_neg (by omega))
 obtain ⟨k, hk⟩ := he.get
 exact bellwetherref04_Right.calls k x.f0 x.f1 x.f2 A c x.f3 _ w ha hc hk
end Go.Proofs.Ytdilbnggedidnaa.PVal
namespace Go.Proofs.Ytdilbnggedidnaa.PVal
open Go.RowKit Go.Proofs.YtdilbnggedidnaaW.PrintWords Go.Proofs.YtdilbnggedidnaaW.PrintLast
set_option linter.unusedVariables false
set_option linter.unusedSimpArgs false
structure Tn (ok : Nat → Prop) (w w' : World) : Prop where
 os : w'.os = w.os
 tape : w'.tape = w.tape
 output : w'.output = w.output
 size : w'.heap.size = w.heap.size
 off : ∀ k, ¬ ok k → w'.heap[k]? = w.heap[k]?
 on : ∀ (k : Nat) (cur : Array Value) (t : TypeId) (f : Nat × Nat), w.heap[k]? = some (Obj.cells cur t f) → ∃ cur' : Array Value, w'.heap[k]? = some (Obj.cells cur' t f) ∧ cur'.size = cur.size ∧ ∀ j : Nat, cur'[j]? = cur[j]? ∨ ∃ a a' : Int, cur[j]? = some (Value.int .u64 a) ∧ cur'[j]? = some (Value.int .u64 a')
theorem Tn.refl (ok : Nat → Prop) (w : World) : Tn ok w w := ⟨rfl, rfl, rfl, rfl, fun _ _ => rfl, fun k cur t f h => ⟨cur, h, rfl, fun _ => .inl rfl⟩⟩
theorem Tn.trans {ok : Nat → Prop} {a b c : World} (h : Tn ok a b) (k : Tn ok b c) : Tn ok a c :=
 ⟨k.os.trans h.os, k.tape.trans h.tape, k.output.trans h.output, k.size.trans h.size, fun i hi => (k.off i hi).trans (h.off i hi), fun i cur t f hc => by
  obtain ⟨c1, h1, s1, e1⟩ := h.on i cur t f hc
  obtain ⟨c2, h2, s2, e2⟩ := k.on i c1 t f h1
  refine ⟨c2, h2, s2.trans s1, fun j => ?_⟩
  rcases e1 j with e | ⟨a, a', ha, ha'⟩ <;> rcases e2 j with e' | ⟨b, b', hb, hb'⟩
  ·exact .inl (e'.trans e)
  ·exact .inr ⟨b, b', e ▸ hb, hb'⟩
  ·exact .inr ⟨a, a', ha, e'.trans ha'⟩
  ·exact .inr ⟨a, b', ha, hb'⟩⟩
theorem Tn.set {ok : Nat → Prop} {w w' : World} (h : Tn ok w w') {g j : Nat} {cur : Array Value} {t : TypeId} {a : Int} (hg : ok g) (hb : w'.heap[g]? = some (.cells cur t (0, 0))) (hj : cur[j]? = some (.int .u64 a)) (a' : Int) : Tn ok w (w'.setCell ⟨g, j, none⟩ (.int .u64 a')) := by
 refine h.trans ⟨rfl, rfl, rfl, by simp [World.setCell], fun k hk => Below.heap_setCell _ _ _ k (fun e => hk (by rw [e]; exact hg)), fun k cur2 t2 f2 hc => ?_⟩
 by_cases hkg : k = g
 ·subst hkg
  rw [hb] at hc
  cases hc
  refine ⟨cur.setIfInBounds j (.int .u64 a'), blk_put hb j _ rfl, by simp, fun i => ?_⟩
  by_cases hij : i = j
  ·subst hij
   have hlt : i < cur.size := (Array.getElem?_eq_some_iff.1 hj).1
   exact .inr ⟨a, a', hj, by simp [hlt]⟩
  ·exact .inl (Array.getElem?_setIfInBounds_ne (fun e => hij e.symm))
 ·exact ⟨cur2, (Below.heap_setCell _ _ _ k hkg).trans hc, rfl, fun _ => .inl rfl⟩
theorem Tn.below {ok : Nat → Prop} {w w' : World} (h : Tn ok w w') {b : Nat} (hb : ∀ k, ok k → b ≤ k) : Below b w w' := ⟨h.os, h.tape, h.output, by rw [h.size]; exact Nat.le_refl _, fun k hk => h.off k (fun ho => by have := hb k ho; omega)⟩
end Go.Proofs.Ytdilbnggedidnaa.PVal
namespace Go.Proofs.Ytdilbnggedidnaa.PVal
open Go.RowKit Go.Shelf Go.Proofs.YtdilbnggedidnaaW.PrintWords Go.Proofs.YtdilbnggedidnaaW.PrintLast
set_option linter.unusedVariables false
set_option linter.unusedSimpArgs false
theorem number23_any (k n : Int) (w : World) : Calls Try.prog 23 #[.int .u8 k, .int .u64 n] w fun e w' => e = .returned (.agg #[.int .u8 k, .int .u64 n, .string ⟨#[]⟩, .slice none 0 0]) ∧ Below w.heap.size w w' := by
 go_enter Try.func23, Try.ntmps23
 go_wp2_with fail
 exact bodyPost_ret (results_cell_row rfl _ _ w.heap.size 25 #[.int .u8 k, .int .u64 n, .string ⟨#[]⟩, .slice none 0 0] (0, 0) _ rfl (blk_new _ _) Try.underlying25 rfl (by kernel_rfl)) rfl ⟨rfl, below_alloc (Below.refl _ _) _⟩
theorem text24_any (k : Int) (s : ByteArray) (w : World) : Calls Try.prog 24 #[.int .u8 k, .string s] w fun e w' => e = .returned (.agg #[.int .u8 k, .int .u64 0, .string s, .slice none 0 0]) ∧ Below w.heap.size w w' := by
 go_enter Try.func24, Try.ntmps24
 go_wp2_with fail
 exact bodyPost_ret (results_cell_row rfl _ _ w.heap.size 25 #[.int .u8 k, .int .u64 0, .string s, .slice none 0 0] (0, 0) _ rfl (blk_new _ _) Try.underlying25 rfl (by kernel_rfl)) rfl ⟨rfl, below_alloc (Below.refl _ _) _⟩
theorem null26_any (w : World) : Calls Try.prog 26 #[] w fun e w' => e = .returned (.agg #[.int .u8 1, .int .u64 0, .string ⟨#[]⟩, .slice none 0 0]) ∧ Below w.heap.size w w' := by
 go_enter Try.func26, Try.ntmps26
 go_wp2_with fail
 exact bodyPost_ret (results_cell_row rfl _ _ w.heap.size 25 #[.int .u8 1, .int .u64 0, .string ⟨#[]⟩, .slice none 0 0] (0, 0) _ rfl (blk_new _ _) Try.underlying25 rfl (by kernel_rfl)) rfl ⟨rfl, below_alloc (Below.refl _ _) _⟩
def vNul : S25 := ⟨1, 0, ⟨#[]⟩, []⟩
def vSym : S25 := ⟨21, 0, ⟨#[97]⟩, []⟩
end Go.Proofs.Ytdilbnggedidnaa.PVal
namespace Go.Proofs.Ytdilbnggedidnaa.PVal
open Go.RowKit Go.Shelf Go.Proofs.YtdilbnggedidnaaW.PrintWords Go.Proofs.YtdilbnggedidnaaW.PrintLast
set_option linter.unusedVariables false
set_option linter.unusedSimpArgs false
structure Bg (g : Nat) (w w' : World) : Prop where
 os : w'.os = w.os
 tape : w'.tape = w.tape
 output : w'.output = w.output
 size : w.heap.size ≤ w'.heap.size
 block : ∀ k, k < w.heap.size → k ≠ g → w'.heap[k]? = w.heap[k]?
theorem Bg.refl (g : Nat) (w : World) : Bg g w w := ⟨rfl, rfl, rfl, Nat.le_refl _, fun _ _ _ => rfl⟩
theorem Bg.trans {g : Nat} {a b c : World} (h : Bg g a b) (k : Bg g b c) : Bg g a c := ⟨k.os.trans h.os, k.tape.trans h.tape, k.output.trans h.output, Nat.le_trans h.size k.size, fun i hi hg => (k.block i (Nat.lt_of_lt_of_le hi h.size) hg).trans (h.block i hi hg)⟩
theorem Bg.of {g : Nat} {w w' : World} (h : Below w.heap.size w w') : Bg g w w' := ⟨h.os, h.tape, h.output, h.size, fun k hk _ => h.block k hk⟩
theorem Bg.below {g B : Nat} {w w' : World} (h : Bg g w w') (hg : B ≤ g) (hB : B ≤ w.heap.size) : Below B w w' := ⟨h.os, h.tape, h.output, h.size, fun k hk => h.block k (by omega) (by omega)⟩
theorem Bg.set {g : Nat} {w w' : World} (h : Bg g w w') (j : Nat) (v : Value) : Bg g w (w'.setCell ⟨g, j, none⟩ v) := ⟨h.os, h.tape, h.output, by simpa [World.setCell] using h.size, fun k hk hg => (Below.heap_setCell _ _ _ k hg).trans (h.block k hk hg)⟩
theorem Blk.bg {g : Nat} {w w' : World} {b : Nat} {cs : Array Value} {t : TypeId} (h : Blk w b cs t) (hb : Bg g w w') (hg : b ≠ g) : Blk w' b cs t := (hb.block b h.lt hg).trans h
def FS (w : World) (base g : Nat) (l : List S25) (sp : Bool) : Prop := ∃ A c, Blk w g #[.slice A l.length c, .bool sp] 94 ∧ k25.R 25 w base (fun k => k ≠ g) (.slice A l.length c) l
theorem FS.below {w w' : World} {base g : Nat} {l : List S25} {sp : Bool} (h : FS w base g l sp) (hb : Below w.heap.size w w') : FS w' base g l sp := by
 obtain ⟨A, c, h1, h2⟩ := h
 exact ⟨A, c, h1.below hb, Kd.R_below h2 hb⟩
theorem FS.set {w : World} {base g : Nat} {l : List S25} {sp : Bool} (h : FS w base g l sp) (b : Bool) : FS (w.setCell ⟨g, 1, none⟩ (.bool b)) base g l b := by
 obtain ⟨A, c, h1, h2⟩ := h
 exact ⟨A, c, blk_put h1 1 _ rfl, Kd.R_far h2 (fun _ hk => hk) _⟩
theorem FS.lt {w : World} {base g : Nat} {l : List S25} {sp : Bool} (h : FS w base g l sp) : g < w.heap.size := by
 obtain ⟨A, c, h1, _⟩ := h
 exact h1.lt
theorem Blk.c2 {W : World} {b : Nat} {a0 a1 : Value} {t : TypeId} (h : Blk W b #[a0, a1] t) : W.cell? ⟨b, 0, none⟩ = some a0 ∧ W.cell? ⟨b, 1, none⟩ = some a1 := ⟨(blk_cell h 0).trans rfl, (blk_cell h 1).trans rfl⟩
def atF (l : List S25) (i : Int) : Option S25 := if 0 ≤ i ∧ i < l.length then (if (rd_T25 l i).f0 = 1 then none else some (rd_T25 l i)) else none
theorem atF_some {l : List S25} {i : Int} {x : S25} (h : atF l i = some x) : 0 ≤ i ∧ i < l.length ∧ (rd_T25 l i).f0 ≠ 1 ∧ rd_T25 l i = x := by
 unfold atF at h
 split at h
 ·rename_i h1
  split at h
  ·cases h
  ·rename_i h2
   exact ⟨h1.1, h1.2, h2, Option.some.inj h⟩
 ·cases h
theorem atF_none {l : List S25} {i : Int} (h : atF l i = none) : i < 0 ∨ (0 ≤ i ∧ (l.length : Int) ≤ i) ∨ (0 ≤ i ∧ i < l.length ∧ (rd_T25 l i).f0 = 1) := by
 unfold atF at h
 split at h
 ·rename_i h1
  split at h
  ·rename_i h2
   exact .inr (.inr ⟨h1.1, h1.2, h2⟩)
  ·cases h
 ·rename_i h1
  omega
theorem atF_mem {l : List S25} {i : Int} {x : S25} (h : atF l i = some x) : x ∈ l := by
 obtain ⟨h0, h1, _, rfl⟩ := atF_some h
 exact rd_mem h0 h1
end Go.Proofs.Ytdilbnggedidnaa.PVal
namespace Go.Proofs.Ytdilbnggedidnaa.PVal
open Go.RowKit Go.Shelf Go.Proofs.YtdilbnggedidnaaW.PrintWords Go.Proofs.YtdilbnggedidnaaW.PrintLast
set_option linter.unusedVariables false
set_option linter.unusedSimpArgs false
theorem results95 (tmps : Array Value) (w : World) (g : Nat) (cs : Array Value) (b : Bool) (hcs : cs.size = 4) (hp : tmps.getD 4 undef = .pointer (some ⟨g, 0, none⟩)) (hg : Blk w g cs 25) (hb : tmps.getD 5 undef = .bool b) :
  (results Try.f95 tmps).run Try.prog w = .ok (.tuple #[.agg cs, .bool b]) w := by
 have h1 : tmps[4]?.getD undef = .pointer (some ⟨g, 0, none⟩) := by simpa using hp
 have h2 : tmps[5]?.getD undef = .bool b := by simpa using hb
 have hi : (Try.prog.info? 25).map (·.size) = some cs.size := by rw [hcs]; kernel_rfl
 have hr := run_loadVar_row (P := Try.prog) w g 25 25 cs (0, 0) _ hg Try.underlying25 rfl hi
 simp [results, Try.f95, h1, h2, asAddr, hr]
theorem at95_none {w : World} {base g : Nat} {l : List S25} {sp : Bool} (hf : FS w base g l sp) (i : Int) (h : atF l i = none) :
  Calls Try.prog 95 #[.pointer (some ⟨g, 0, none⟩), .int .i64 i] w fun e w' => e = .returned (.tuple #[.agg #[.int .u8 1, .int .u64 0, .string ⟨#[]⟩, .slice none 0 0], .bool false]) ∧ Below w.heap.size w w' := by
 obtain ⟨A, c, hB, hR⟩ := hf
 have HR := Aside0.mk (Kd.R_reads' hR).2.2
 have hg1 : ¬ g = w.heap.size := by have := hB.lt; omega
 have HB := Aside0.mk hB
 obtain ⟨p0, p1⟩ := hB.c2
 have o0 := cell_al p0
 clear hR hB p0 p1
 rcases atF_none h with h1 | ⟨h0, h1⟩ | ⟨h0, h1, h2⟩
 ·clear h
  go_enter Try.func95, Try.ntmps95
  go_wp2_with fail
  have bR := Blk.new w #[.int .u8 0, .int .u64 0, .string ⟨#[]⟩, .slice none 0 0] 25
  have hB0 := below_alloc (Below.refl w.heap.size w) (.cells #[.int .u8 0, .int .u64 0, .string ⟨#[]⟩, .slice none 0 0] 25)
  refine (null26_any _).mono ?_
  rintro e w2 ⟨rfl, hb2⟩
  have bR2 := bR.below hb2
  have HB2 := Aside0.mk (below_step hB0 hb2)
  clear bR hB0 hb2
  obtain ⟨r0, r1, r2, r3⟩ := bR2.c4
  have fz := bR2.fz
  go_wp2_with fail
  refine bodyPost_ret (results95 _ _ w.heap.size #[.int .u8 1, .int .u64 0, .string ⟨#[]⟩, .slice none 0 0] false rfl rfl ?_ rfl) rfl ⟨rfl, ?_⟩
  ·refine blk_put (cs := #[.int .u8 1, .int .u64 0, .string ⟨#[]⟩, .slice none 0 0]) ?_ 3 _ rfl
   refine blk_put (cs := #[.int .u8 1, .int .u64 0, .string ⟨#[]⟩, .slice none 0 0]) ?_ 2 _ rfl
   refine blk_put (cs := #[.int .u8 1, .int .u64 0, .string ⟨#[]⟩, .slice none 0 0]) ?_ 1 _ rfl
   refine blk_put (cs := #[.int .u8 0, .int .u64 0, .string ⟨#[]⟩, .slice none 0 0]) ?_ 0 _ rfl
   exact bR2
  ·exact below_set (below_set (below_set (below_set HB2.out (Nat.le_refl _)) (Nat.le_refl _)) (Nat.le_refl _)) (Nat.le_refl _)
 ·clear h
  go_enter Try.func95, Try.ntmps95
  go_wp2_with fail
  have bR := Blk.new w #[.int .u8 0, .int .u64 0, .string ⟨#[]⟩, .slice none 0 0] 25
  have hB0 := below_alloc (Below.refl w.heap.size w) (.cells #[.int .u8 0, .int .u64 0, .string ⟨#[]⟩, .slice none 0 0] 25)
  refine (null26_any _).mono ?_
  rintro e w2 ⟨rfl, hb2⟩
  have bR2 := bR.below hb2
  have HB2 := Aside0.mk (below_step hB0 hb2)
  clear bR hB0 hb2
  obtain ⟨r0, r1, r2, r3⟩ := bR2.c4
  have fz := bR2.fz
  go_wp2_with fail
  refine bodyPost_ret (results95 _ _ w.heap.size #[.int .u8 1, .int .u64 0, .string ⟨#[]⟩, .slice none 0 0] false rfl rfl ?_ rfl) rfl ⟨rfl, ?_⟩
  ·refine blk_put (cs := #[.int .u8 1, .int .u64 0, .string ⟨#[]⟩, .slice none 0 0]) ?_ 3 _ rfl
   refine blk_put (cs := #[.int .u8 1, .int .u64 0, .string ⟨#[]⟩, .slice none 0 0]) ?_ 2 _ rfl
   refine blk_put (cs := #[.int .u8 1, .int .u64 0, .string ⟨#[]⟩, .slice none 0 0]) ?_ 1 _ rfl
   refine blk_put (cs := #[.int .u8 0, .int .u64 0, .string ⟨#[]⟩, .slice none 0 0]) ?_ 0 _ rfl
   exact bR2
  ·exact below_set (below_set (below_set (below_set HB2.out (Nat.le_refl _)) (Nat.le_refl _)) (Nat.le_refl _)) (Nat.le_refl _)
 ·obtain ⟨ad, Ax, cx, eA, hx0, hx1, hx2, hx3, hlx, hCx⟩ := at_T25 HR.out i h0 h1
  cases eA
  have hk : ((rd_T25 l i).f0 == 1) = true := by rw [h2]; rfl
  have q0 := cell_al hx0
  clear h h2 hx0 hx1 hx2 hx3 hCx hlx
  go_enter Try.func95, Try.ntmps95
  go_wp2_with fail
  have bR := Blk.new w #[.int .u8 0, .int .u64 0, .string ⟨#[]⟩, .slice none 0 0] 25
  have hB0 := below_alloc (Below.refl w.heap.size w) (.cells #[.int .u8 0, .int .u64 0, .string ⟨#[]⟩, .slice none 0 0] 25)
  refine (null26_any _).mono ?_
  rintro e w2 ⟨rfl, hb2⟩
  have bR2 := bR.below hb2
  have HB2 := Aside0.mk (below_step hB0 hb2)
  clear bR hB0 hb2
  obtain ⟨r0, r1, r2, r3⟩ := bR2.c4
  have fz := bR2.fz
  go_wp2_with fail
  refine bodyPost_ret (results95 _ _ w.heap.size #[.int .u8 1, .int .u64 0, .string ⟨#[]⟩, .slice none 0 0] false rfl rfl ?_ rfl) rfl ⟨rfl, ?_⟩
  ·refine blk_put (cs := #[.int .u8 1, .int .u64 0, .string ⟨#[]⟩, .slice none 0 0]) ?_ 3 _ rfl
   refine blk_put (cs := #[.int .u8 1, .int .u64 0, .string ⟨#[]⟩, .slice none 0 0]) ?_ 2 _ rfl
   refine blk_put (cs := #[.int .u8 1, .int .u64 0, .string ⟨#[]⟩, .slice none 0 0]) ?_ 1 _ rfl
   refine blk_put (cs := #[.int .u8 0, .int .u64 0, .string ⟨#[]⟩, .slice none 0 0]) ?_ 0 _ rfl
   exact bR2
  ·exact below_set (below_set (below_set (below_set HB2.out (Nat.le_refl _)) (Nat.le_refl _)) (Nat.le_refl _)) (Nat.le_refl _)
theorem at95_some {w : World} {base g : Nat} {l : List S25} {sp : Bool} (hf : FS w base g l sp) (i : Int) (x : S25) (h : atF l i = some x) :
  Calls Try.prog 95 #[.pointer (some ⟨g, 0, none⟩), .int .i64 i] w fun e w' => ∃ Ax cx, e = .returned (.tuple #[.agg #[.int .u8 x.f0, .int .u64 x.f1, .string x.f2, .slice Ax x.f3.length cx], .bool true]) ∧ Below w.heap.size w w' ∧ x.f3.length ≤ cx ∧ k25.C w' Ax x.f3.length x.f3 := by
 obtain ⟨A, c, hB, hR⟩ := hf
 have HR := Aside0.mk (Kd.R_reads' hR).2.2
 have hg1 : ¬ g = w.heap.size := by have := hB.lt; omega
 have HB := Aside0.mk hB
 obtain ⟨p0, p1⟩ := hB.c2
 have o0 := cell_al p0
 clear hR hB p0 p1
 obtain ⟨h0, h1, h2, hx⟩ := atF_some h
 obtain ⟨ad, Ax, cx, eA, hx0, hx1, hx2, hx3, hlx, hCx⟩ := at_T25 HR.out i h0 h1
 cases eA
 rw [hx] at h2 hx0 hx1 hx2 hx3 hlx hCx
 have hk : (x.f0 == 1) = false := by simpa using h2
 have HC := Aside0.mk hCx
 have hq0 := cell_al hx0
 have hq1 := cell_al hx1
 have hq2 := cell_al hx2
 have hq3 := cell_al hx3
 clear h h2 hx hCx hx0 hx1 hx2 hx3
 go_enter Try.func95, Try.ntmps95
 go_wp2_with fail
 have hB0 := below_alloc (Below.refl w.heap.size w) (.cells #[.int .u8 x.f0, .int .u64 x.f1, .string x.f2, .slice Ax x.f3.length cx] 25)
 exact bodyPost_ret (results95 _ _ w.heap.size #[.int .u8 x.f0, .int .u64 x.f1, .string x.f2, .slice Ax x.f3.length cx] true rfl rfl (Blk.new w #[.int .u8 x.f0, .int .u64 x.f1, .string x.f2, .slice Ax x.f3.length cx] 25) rfl) rfl ⟨Ax, cx, rfl, hB0, hlx, Kd.C_below HC.out hB0⟩
end Go.Proofs.Ytdilbnggedidnaa.PVal
namespace Go.Proofs.Ytdilbnggedidnaa.PVal
open Go.RowKit Go.Shelf Go.Proofs.YtdilbnggedidnaaW.PrintWords Go.Proofs.YtdilbnggedidnaaW.PrintLast
set_option linter.unusedVariables false
set_option linter.unusedSimpArgs false
theorem has65_any {w : World} {base g : Nat} {l : List S25} {sp : Bool} (hf : FS w base g l sp) (i : Int) :
  Calls Try.prog 65 #[.pointer (some ⟨g, 0, none⟩), .int .i64 i] w fun e w' => e = .returned (.bool (atF l i).isSome) ∧ Below w.heap.size w w' := by
 cases h : atF l i with
 | none =>
  have HF := Aside0.mk (at95_none hf i h)
  clear hf h
  go_enter Try.func65, Try.ntmps65
  go_wp2_with fail
  refine HF.out.mono ?_
  rintro e w2 ⟨rfl, hb⟩
  have HB := Aside0.mk hb
  clear hb
  go_wp2_with fail
  go_ret
  exact ⟨rfl, below_alloc HB.out _⟩
 | some x =>
  have HF := Aside0.mk (at95_some hf i x h)
  clear hf h
  go_enter Try.func65, Try.ntmps65
  go_wp2_with fail
  refine HF.out.mono ?_
  rintro e w2 ⟨A, c, rfl, hb, _, _⟩
  have HB := Aside0.mk hb
  clear hb
  go_wp2_with fail
  go_ret
  exact ⟨rfl, below_alloc HB.out _⟩
theorem spoil50_any {w : World} {base g : Nat} {l : List S25} {sp : Bool} (hf : FS w base g l sp) :
  Calls Try.prog 50 #[.pointer (some ⟨g, 0, none⟩)] w fun e w' => e = .returned (.tuple #[]) ∧ FS w' base g l true ∧ Bg g w w' := by
 have HF := Aside0.mk hf
 obtain ⟨A, c, hB, hR⟩ := hf
 obtain ⟨p0, p1⟩ := hB.c2
 have fz := hB.fz
 clear hB hR
 go_enter Try.func50, Try.ntmps50
 go_wp2_with fail
 go_end0
 exact ⟨rfl, HF.out.set true, (Bg.refl g w).set 1 _⟩
def doneN (l : List S25) (sp : Bool) (n : Int) : Int := if sp = true ∨ n < l.length then 6 else 0
theorem done43_any {w : World} {base g : Nat} {l : List S25} {sp : Bool} (hf : FS w base g l sp) (n : Int) :
  Calls Try.prog 43 #[.pointer (some ⟨g, 0, none⟩), .int .i64 n] w fun e w' => e = .returned (.int .i64 (doneN l sp n)) ∧ w = w' := by
 obtain ⟨A, c, hB, hR⟩ := hf
 obtain ⟨p0, p1⟩ := hB.c2
 clear hB hR
 cases sp with
 | true =>
  have HE : Aside0 (doneN l true n = 6) := ⟨if_pos (.inl rfl)⟩
  go_enter Try.func43, Try.ntmps43
  go_wp2_with fail
  go_ret
  exact ⟨by rw [HE.out]; rfl, rfl⟩
 | false =>
  by_cases h : n < (l.length : Int)
  ·have HE : Aside0 (doneN l false n = 6) := ⟨if_pos (.inr h)⟩
   go_enter Try.func43, Try.ntmps43
   go_wp2_with fail
   go_ret
   exact ⟨by rw [HE.out]; rfl, rfl⟩
  ·have HE : Aside0 (doneN l false n = 0) := ⟨if_neg (by simp; omega)⟩
   go_enter Try.func43, Try.ntmps43
   go_wp2_with fail
   go_ret
   exact ⟨by rw [HE.out]; rfl, rfl⟩
def calledB (x : S25) (code : Int) (name : ByteArray) : Bool := ((x.f0 == 6) && (x.f1 == code)) || ((x.f0 == 21) && (x.f2.toList == name.toList))
theorem called74_any (x : S25) (code : Int) (name : ByteArray) (A : Option Addr) (c : Nat) (w : World) :
  Calls Try.prog 74 #[.agg #[.int .u8 x.f0, .int .u64 x.f1, .string x.f2, .slice A x.f3.length c], .int .u64 code, .string name] w fun e w' => e = .returned (.bool (calledB x code name)) ∧ Below w.heap.size w w' := by
 have hdef : calledB x code name = (((x.f0 == 6) && (x.f1 == code)) || ((x.f0 == 21) && (x.f2.toList == name.toList))) := rfl
 have HD := Aside0.mk hdef
 clear hdef
 by_cases h6 : x.f0 = 6
 ·have k6 : (x.f0 == 6) = true := by simp [h6]
  have k21 : (x.f0 == 21) = false := by simp [h6]
  clear h6
  cases hc : (x.f1 == code) with
  | true =>
   have HE : Aside0 (calledB x code name = true) := ⟨by rw [HD.out, k6, hc]; rfl⟩
   go_enter Try.func74, Try.ntmps74
   go_wp2_with fail
   go_ret
   exact ⟨by rw [HE.out]; rfl, below_alloc (Below.refl _ _) _⟩
  | false =>
   have HE : Aside0 (calledB x code name = false) := ⟨by rw [HD.out, k6, hc, k21]; rfl⟩
   go_enter Try.func74, Try.ntmps74
   go_wp2_with fail
   go_ret
   exact ⟨by rw [HE.out]; rfl, below_alloc (Below.refl _ _) _⟩
 ·have k6 : (x.f0 == 6) = false := by simp [h6]
  clear h6
  cases k21 : (x.f0 == 21) with
  | true =>
   have HE : Aside0 (calledB x code name = (x.f2.toList == name.toList)) := ⟨by rw [HD.out, k6, k21]; rfl⟩
   go_enter Try.func74, Try.ntmps74
   go_wp2_with fail
   go_ret
   exact ⟨by rw [HE.out]; rfl, below_alloc (Below.refl _ _) _⟩
  | false =>
   have HE : Aside0 (calledB x code name = false) := ⟨by rw [HD.out, k6, k21]; rfl⟩
   go_enter Try.func74, Try.ntmps74
   go_wp2_with fail
   go_ret
   exact ⟨by rw [HE.out]; rfl, below_alloc (Below.refl _ _) _⟩
theorem num97_any (x : S25) (A : Option Addr) (c : Nat) (w : World) : Calls Try.prog 97 #[.agg #[.int .u8 x.f0, .int .u64 x.f1, .string x.f2, .slice A x.f3.length c]] w fun e w' => e = .returned (.int .u64 x.f1) ∧ Below w.heap.size w w' := by
 go_enter Try.func97, Try.ntmps97
 go_wp2_with fail
 go_ret
 exact ⟨rfl, below_alloc (Below.refl _ _) _⟩
theorem txt102_any (x : S25) (A : Option Addr) (c : Nat) (w : World) : Calls Try.prog 102 #[.agg #[.int .u8 x.f0, .int .u64 x.f1, .string x.f2, .slice A x.f3.length c]] w fun e w' => e = .returned (.string x.f2) ∧ Below w.heap.size w w' := by
 go_enter Try.func102, Try.ntmps102
 go_wp2_with fail
 go_ret
 exact ⟨rfl, below_alloc (Below.refl _ _) _⟩
theorem all103_any (x : S25) (A : Option Addr) (c : Nat) (w : World) : Calls Try.prog 103 #[.agg #[.int .u8 x.f0, .int .u64 x.f1, .string x.f2, .slice A x.f3.length c]] w fun e w' => e = .returned (.bool true) ∧ Below w.heap.size w w' := by
 go_enter Try.func103, Try.ntmps103
 go_wp2_with fail
 go_ret
 exact ⟨rfl, below_alloc (Below.refl _ _) _⟩
theorem of68_any (B : Option Addr) (m d : Nat) (w : World) : Calls Try.prog 68 #[.slice B m d] w fun e w' => e = .returned (.func (.func 98) #[] #[.pointer (some ⟨w.heap.size, 0, none⟩)]) ∧ w' = w.alloc (.cells #[.slice B m d] 63) := by
 go_enter Try.func68, Try.ntmps68
 go_wp2_with fail
 go_ret
 exact ⟨rfl, rfl⟩
def idxI (v : Int) : List Int → Int → Int
 | [], _ => -1
 | a :: l, i => if v == a then i else idxI v l (i + 1)
theorem idxI_any (v : Int) (l : List Int) (i : Int) (h : 0 ≤ i) : decide (0 ≤ idxI v l i) = l.any (fun a => v == a) := by
 induction l generalizing i with
 | nil => simp [idxI]
 | cons x l ih =>
  have := ih (i + 1) (by omega)
  rw [Bool.eq_iff_iff, decide_eq_true_eq] at this ⊢
  simp only [idxI, List.any_cons, Bool.or_eq_true]
  by_cases hx : (v == x) = true
  ·rw [if_pos hx]; simp [h, hx]
  ·rw [if_neg hx, this]; simp [hx]
theorem drop_rdK {xs : List Int} {i : Int} (h0 : 0 ≤ i) (h1 : i < xs.length) : xs.drop i.toNat = rd xs i :: xs.drop (i + 1).toNat := by
 have h : i.toNat < xs.length := by omega
 rw [List.drop_eq_getElem_cons h, show (i + 1).toNat = i.toNat + 1 by omega]
 unfold rd
 rw [List.getD_eq_getElem?_getD, List.getElem?_eq_getElem h]
 rfl
theorem index126_any (v : Int) (l : List Int) (A : Option Addr) (c : Nat) (w : World) (ha : Kd.C (Kd.int .u8) w A l.length l) (hc : l.length ≤ c) :
  Calls Try.prog 126 #[.slice A l.length c, .int .u8 v] w fun e w' => e = .returned (.int .i64 (idxI v l 0)) ∧ w = w' := by
 have hm : l.length ≤ 9223372036854775807 := Kd.C_max ha
 have HA := Aside0.mk ha
 clear ha
 go_enter Try.func126, Try.ntmps126
 go_wp2_with fail
 go_loopg [8] l.length (fun gk v8 wr => ∃ i : Int, v8 = .int .i64 i ∧ Aside0 (0 ≤ i ∧ i ≤ l.length ∧ gk = l.length - i.toNat ∧ idxI v (l.drop i.toNat) i = idxI v l 0) ∧ w = wr)
 case atStart => exact ⟨0, rfl, ⟨by omega, by omega, by simp, by simp⟩, rfl⟩
 case round =>
  obtain ⟨i, rfl, HI, rfl⟩ := hrel
  obtain ⟨hi0, hi1, hgk, hv⟩ := HI.out
  have HG := Aside0.mk hgk
  have HV := Aside0.mk hv
  clear HI hgk hv
  by_cases hlt : i < l.length
  ·obtain ⟨ad, e, hx⟩ := Kd.at_int HA.out i hi0 hlt
   cases e
   have hdr : idxI v (l.drop i.toNat) i = if v == rd l i then i else idxI v (l.drop (i + 1).toNat) (i + 1) := by rw [drop_rdK hi0 hlt, idxI]
   rw [HV.out] at hdr
   have HD := Aside0.mk hdr
   clear hdr
   cases hq : (v == rd l i) with
   | true =>
    have HQ : Aside0 (idxI v l 0 = i) := ⟨by rw [HD.out, hq]; rfl⟩
    go_wp2_with fail
    go_ret
    exact ⟨by rw [HQ.out]; rfl, rfl⟩
   | false =>
    have HQ : Aside0 (idxI v (l.drop (i + 1).toNat) (i + 1) = idxI v l 0) := ⟨by rw [HD.out, hq]; rfl⟩
    go_wp2_with fail
    go_roundg (l.length - (i + 1).toNat)
    case measure => rw [HG.out]; omega
    case rel => exact ⟨i + 1, by go_num, ⟨by omega, by omega, rfl, HQ.out⟩, rfl⟩
  ·have he : idxI v l 0 = -1 := by rw [← HV.out, List.drop_of_length_le (by omega), idxI]
   have HE := Aside0.mk he
   clear he
   go_wp2_with fail
   go_ret
   exact ⟨by rw [HE.out]; rfl, rfl⟩
theorem contains99_any (v : Int) (l : List Int) (A : Option Addr) (c : Nat) (w : World) (ha : Kd.C (Kd.int .u8) w A l.length l) (hc : l.length ≤ c) :
  Calls Try.prog 99 #[.slice A l.length c, .int .u8 v] w fun e w' => e = .returned (.bool (l.any fun a => v == a)) ∧ w = w' := by
 have HI := Aside0.mk (index126_any v l A c w ha hc)
 have HE := Aside0.mk (idxI_any v l 0 (Int.le_refl _))
 clear ha
 go_enter Try.func99, Try.ntmps99
 go_wp2_with fail
 refine HI.out.mono ?_
 rintro e w2 ⟨rfl, rfl⟩
 go_wp2_with fail
 go_ret
 exact ⟨by rw [← HE.out]; rfl, rfl⟩
def Fit (F : Nat) (cap : List Value) (P : S25 → Bool) (w : World) : Prop := ∀ (x : S25) (A : Option Addr) (c : Nat) (w' : World), Below w.heap.size w w' → k25.C w' A x.f3.length x.f3 → x.f3.length ≤ c →
 Calls Try.prog F (Value.agg #[.int .u8 x.f0, .int .u64 x.f1, .string x.f2, .slice A x.f3.length c] :: cap).toArray w' fun e w2 => e = .returned (.bool (P x)) ∧ Below w'.heap.size w' w2
theorem Fit.later {F : Nat} {cap : List Value} {P : S25 → Bool} {w w' : World} (h : Fit F cap P w) (hb : Below w.heap.size w w') : Fit F cap P w' := fun x A c w2 h2 => h x A c w2 (below_step hb h2)
def kindP (ks : List Int) (x : S25) : Bool := ks.any fun a => x.f0 == a
theorem fit98 (ks : List Int) (B : Option Addr) (d : Nat) (b : Nat) (w : World) (hB : Blk w b #[.slice B ks.length d] 63) (hk : Kd.C (Kd.int .u8) w B ks.length ks) (hd : ks.length ≤ d) : Fit 98 [.pointer (some ⟨b, 0, none⟩)] (kindP ks) w := by
 intro x A c w' hb hC hc
 have bB := hB.below hb
 have q0 := cell_al bB.c1
 have hbn : ¬ b = w'.heap.size := by have := bB.lt; omega
 have HK := Aside0.mk (Kd.C_below hk hb)
 clear hB hk hb hC bB
 show Calls Try.prog 98 #[.agg #[.int .u8 x.f0, .int .u64 x.f1, .string x.f2, .slice A x.f3.length c], .pointer (some ⟨b, 0, none⟩)] w' _
 go_enter Try.func98, Try.ntmps98
 go_wp2_with fail
 refine (contains99_any x.f0 ks B d _ (Kd.C_below HK.out (below_alloc (Below.refl _ _) _)) hd).mono ?_
 rintro e w2 ⟨rfl, rfl⟩
 go_wp2_with fail
 go_ret
 exact ⟨rfl, below_alloc (Below.refl _ _) _⟩
end Go.Proofs.Ytdilbnggedidnaa.PVal
namespace Go.Proofs.Ytdilbnggedidnaa.PVal
open Go.RowKit Go.Shelf Go.Proofs.YtdilbnggedidnaaW.PrintWords Go.Proofs.YtdilbnggedidnaaW.PrintLast
set_option linter.unusedVariables false
set_option linter.unusedSimpArgs false
def spoilP (l : List S25) (i : Int) (must : Bool) (P : S25 → Bool) : Bool := match atF l i with
 | none => must
 | some x => !P x
def tellP {α : Type} (l : List S25) (i : Int) (P : S25 → Bool) (T : S25 → α) (none_ : α) : α := match atF l i with
 | none => none_
 | some x => if P x then T x else none_
theorem spoil_none {l : List S25} {i : Int} (h : atF l i = none) (m : Bool) (P : S25 → Bool) : spoilP l i m P = m := by unfold spoilP; rw [h]
theorem spoil_some {l : List S25} {i : Int} {x : S25} (h : atF l i = some x) (m : Bool) (P : S25 → Bool) : spoilP l i m P = !P x := by unfold spoilP; rw [h]
theorem tell_none {α : Type} {l : List S25} {i : Int} (h : atF l i = none) (P : S25 → Bool) (T : S25 → α) (d : α) : tellP l i P T d = d := by unfold tellP; rw [h]
theorem tell_some {α : Type} {l : List S25} {i : Int} {x : S25} (h : atF l i = some x) (P : S25 → Bool) (T : S25 → α) (d : α) : tellP l i P T d = if P x then T x else d := by unfold tellP; rw [h]
theorem tell96_any {w : World} {base g : Nat} {l : List S25} {sp : Bool} (hf : FS w base g l sp) (i : Int) (must : Bool) (none_ : Int) (b : Nat) (P : S25 → Bool) (hF : Fit 98 [.pointer (some ⟨b, 0, none⟩)] P w) :
  Calls Try.prog 96 #[.pointer (some ⟨g, 0, none⟩), .int .i64 i, .bool must, .int .u64 (none_), .func (.func 98) #[] #[.pointer (some ⟨b, 0, none⟩)], .func (.func 97) #[] #[]] w fun e w' => e = .returned (.int .u64 (tellP l i P (fun x => x.f1) none_)) ∧ FS w' base g l (sp || spoilP l i must P) ∧ Bg g w w' := by
 have HF := Aside0.mk hF
 have HFS0 := Aside0.mk hf
 cases h : atF l i with
 | none =>
  have HA := Aside0.mk (at95_none hf i h)
  have HT := Aside0.mk (tell_none h P (fun x => x.f1) none_)
  cases must with
  | false =>
   have HS := Aside0.mk (spoil_none h false P)
   clear hf hF h
   go_enter Try.func96, Try.ntmps96
   go_wp2_with fail
   refine HA.out.mono ?_
   rintro e w2 ⟨rfl, hb⟩
   have HB := Aside0.mk (below_alloc hb (.cells #[.int .u8 1, .int .u64 0, .string ⟨#[]⟩, .slice none 0 0] 25))
   clear hb
   go_wp2_with fail
   go_ret
   exact ⟨by rw [HT.out]; rfl, by rw [HS.out, Bool.or_false]; exact HFS0.out.below HB.out, Bg.of HB.out⟩
  | true =>
   have HS := Aside0.mk (spoil_none h true P)
   clear hf hF h
   go_enter Try.func96, Try.ntmps96
   go_wp2_with fail
   refine HA.out.mono ?_
   rintro e w2 ⟨rfl, hb⟩
   have HB := Aside0.mk (below_alloc hb (.cells #[.int .u8 1, .int .u64 0, .string ⟨#[]⟩, .slice none 0 0] 25))
   have HFS := Aside0.mk (HFS0.out.below HB.out)
   clear hb
   go_wp2_with fail
   refine (spoil50_any HFS.out).mono ?_
   rintro e w4 ⟨rfl, hfs, hbg⟩
   have HFT := Aside0.mk hfs
   have HBT := Aside0.mk ((Bg.of HB.out).trans hbg)
   clear hfs hbg
   go_wp2_with fail
   go_ret
   exact ⟨by rw [HT.out]; rfl, by rw [HS.out]; cases sp <;> exact HFT.out, HBT.out⟩
 | some x =>
  have HA := Aside0.mk (at95_some hf i x h)
  have HT0 := Aside0.mk (tell_some h P (fun x => x.f1) none_)
  have HS0 := Aside0.mk (spoil_some h must P)
  clear hf hF h
  go_enter Try.func96, Try.ntmps96
  go_wp2_with fail
  refine HA.out.mono ?_
  rintro e w2 ⟨A, c, rfl, hb, hl, hC⟩
  have bX := Blk.new w2 #[.int .u8 x.f0, .int .u64 x.f1, .string x.f2, .slice A x.f3.length c] 25
  have hal := below_alloc (Below.refl w2.heap.size w2) (.cells #[.int .u8 x.f0, .int .u64 x.f1, .string x.f2, .slice A x.f3.length c] 25)
  have HB1 := Aside0.mk (below_step hb hal)
  have HC := Aside0.mk (Kd.C_below hC hal)
  clear hb hC hal
  obtain ⟨p0, p1, p2, p3⟩ := bX.c4
  go_wp2_with fail
  refine (HF.out x A c _ HB1.out HC.out hl).mono ?_
  rintro e w3 ⟨rfl, hb3⟩
  have bX3 := bX.below hb3
  have HB := Aside0.mk (below_step HB1.out hb3)
  have HC3 := Aside0.mk (Kd.C_below HC.out hb3)
  have HFS := Aside0.mk (HFS0.out.below HB.out)
  clear p0 p1 p2 p3 bX hb3
  cases hP : P x with
  | true =>
   have HT : Aside0 (tellP l i P (fun x => x.f1) none_ = x.f1) := ⟨by rw [HT0.out, hP]; rfl⟩
   have HS : Aside0 (spoilP l i must P = false) := ⟨by rw [HS0.out, hP]; rfl⟩
   clear hP
   obtain ⟨p0, p1, p2, p3⟩ := bX3.c4
   go_wp2_with fail
   refine (num97_any x A c _).mono ?_
   rintro e w4 ⟨rfl, hb4⟩
   have HB4 := Aside0.mk (below_step HB.out hb4)
   clear p0 p1 p2 p3 bX3 hb4
   go_wp2_with fail
   go_ret
   exact ⟨by rw [HT.out]; rfl, by rw [HS.out, Bool.or_false]; exact HFS0.out.below HB4.out, Bg.of HB4.out⟩
  | false =>
   have HT : Aside0 (tellP l i P (fun x => x.f1) none_ = none_) := ⟨by rw [HT0.out, hP]; rfl⟩
   have HS : Aside0 (spoilP l i must P = true) := ⟨by rw [HS0.out, hP]; rfl⟩
   clear hP bX3
   go_wp2_with fail
   refine (spoil50_any HFS.out).mono ?_
   rintro e w4 ⟨rfl, hfs, hbg⟩
   have HFT := Aside0.mk hfs
   have HBT := Aside0.mk ((Bg.of HB.out).trans hbg)
   clear hfs hbg
   go_wp2_with fail
   go_ret
   exact ⟨by rw [HT.out]; rfl, by rw [HS.out]; cases sp <;> exact HFT.out, HBT.out⟩
theorem tell101_any {w : World} {base g : Nat} {l : List S25} {sp : Bool} (hf : FS w base g l sp) (i : Int) (must : Bool) (none_ : ByteArray) (b : Nat) (P : S25 → Bool) (hF : Fit 98 [.pointer (some ⟨b, 0, none⟩)] P w) :
  Calls Try.prog 101 #[.pointer (some ⟨g, 0, none⟩), .int .i64 i, .bool must, .string (none_), .func (.func 98) #[] #[.pointer (some ⟨b, 0, none⟩)], .func (.func 102) #[] #[]] w fun e w' => e = .returned (.string (tellP l i P (fun x => x.f2) none_)) ∧ FS w' base g l (sp || spoilP l i must P) ∧ Bg g w w' := by
 have HF := Aside0.mk hF
 have HFS0 := Aside0.mk hf
 cases h : atF l i with
 | none =>
  have HA := Aside0.mk (at95_none hf i h)
  have HT := Aside0.mk (tell_none h P (fun x => x.f2) none_)
  cases must with
  | false =>
   have HS := Aside0.mk (spoil_none h false P)
   clear hf hF h
   go_enter Try.func101, Try.ntmps101
   go_wp2_with fail
   refine HA.out.mono ?_
   rintro e w2 ⟨rfl, hb⟩
   have HB := Aside0.mk (below_alloc hb (.cells #[.int .u8 1, .int .u64 0, .string ⟨#[]⟩, .slice none 0 0] 25))
   clear hb
   go_wp2_with fail
   go_ret
   exact ⟨by rw [HT.out]; rfl, by rw [HS.out, Bool.or_false]; exact HFS0.out.below HB.out, Bg.of HB.out⟩
  | true =>
   have HS := Aside0.mk (spoil_none h true P)
   clear hf hF h
   go_enter Try.func101, Try.ntmps101
   go_wp2_with fail
   refine HA.out.mono ?_
   rintro e w2 ⟨rfl, hb⟩
   have HB := Aside0.mk (below_alloc hb (.cells #[.int .u8 1, .int .u64 0, .string ⟨#[]⟩, .slice none 0 0] 25))
   have HFS := Aside0.mk (HFS0.out.below HB.out)
   clear hb
   go_wp2_with fail
   refine (spoil50_any HFS.out).mono ?_
   rintro e w4 ⟨rfl, hfs, hbg⟩
   have HFT := Aside0.mk hfs
   have HBT := Aside0.mk ((Bg.of HB.out).trans hbg)
   clear hfs hbg
   go_wp2_with fail
   go_ret
   exact ⟨by rw [HT.out]; rfl, by rw [HS.out]; cases sp <;> exact HFT.out, HBT.out⟩
 | some x =>
  have HA := Aside0.mk (at95_some hf i x h)
  have HT0 := Aside0.mk (tell_some h P (fun x => x.f2) none_)
  have HS0 := Aside0.mk (spoil_some h must P)
  clear hf hF h
  go_enter Try.func101, Try.ntmps101
  go_wp2_with fail
  refine HA.out.mono ?_
  rintro e w2 ⟨A, c, rfl, hb, hl, hC⟩
  have bX := Blk.new w2 #[.int .u8 x.f0, .int .u64 x.f1, .string x.f2, .slice A x.f3.length c] 25
  have hal := below_alloc (Below.refl w2.heap.size w2) (.cells #[.int .u8 x.f0, .int .u64 x.f1, .string x.f2, .slice A x.f3.length c] 25)
  have HB1 := Aside0.mk (below_step hb hal)
  have HC := Aside0.mk (Kd.C_below hC hal)
  clear hb hC hal
  obtain ⟨p0, p1, p2, p3⟩ := bX.c4
  go_wp2_with fail
  refine (HF.out x A c _ HB1.out HC.out hl).mono ?_
  rintro e w3 ⟨rfl, hb3⟩
  have bX3 := bX.below hb3
  have HB := Aside0.mk (below_step HB1.out hb3)
  have HC3 := Aside0.mk (Kd.C_below HC.out hb3)
  have HFS := Aside0.mk (HFS0.out.below HB.out)
  clear p0 p1 p2 p3 bX hb3
  cases hP : P x with
  | true =>
   have HT : Aside0 (tellP l i P (fun x => x.f2) none_ = x.f2) := ⟨by rw [HT0.out, hP]; rfl⟩
   have HS : Aside0 (spoilP l i must P = false) := ⟨by rw [HS0.out, hP]; rfl⟩
   clear hP
   obtain ⟨p0, p1, p2, p3⟩ := bX3.c4
   go_wp2_with fail
   refine (txt102_any x A c _).mono ?_
   rintro e w4 ⟨rfl, hb4⟩
   have HB4 := Aside0.mk (below_step HB.out hb4)
   clear p0 p1 p2 p3 bX3 hb4
   go_wp2_with fail
   go_ret
   exact ⟨by rw [HT.out]; rfl, by rw [HS.out, Bool.or_false]; exact HFS0.out.below HB4.out, Bg.of HB4.out⟩
  | false =>
   have HT : Aside0 (tellP l i P (fun x => x.f2) none_ = none_) := ⟨by rw [HT0.out, hP]; rfl⟩
   have HS : Aside0 (spoilP l i must P = true) := ⟨by rw [HS0.out, hP]; rfl⟩
   clear hP bX3
   go_wp2_with fail
   refine (spoil50_any HFS.out).mono ?_
   rintro e w4 ⟨rfl, hfs, hbg⟩
   have HFT := Aside0.mk hfs
   have HBT := Aside0.mk ((Bg.of HB.out).trans hbg)
   clear hfs hbg
   go_wp2_with fail
   go_ret
   exact ⟨by rw [HT.out]; rfl, by rw [HS.out]; cases sp <;> exact HFT.out, HBT.out⟩
theorem C_u8 {w : World} {b : Nat} {k : Int} (h : Blk w b #[.int .u8 k] 5) : Kd.C (Kd.int .u8) w (some ⟨b, 0, none⟩) 1 [k] := by
 refine ⟨rfl, by omega, fun _ => ⟨_, rfl, fun j p hj => ?_⟩⟩
 match j, hj with
 | 0, hj =>
  cases hj
  refine ⟨[.int .u8 k], rfl, rfl, fun i u hi => ?_⟩
  match i, hi with
  | 0, hi =>
   cases hi
   exact (blk_cell h 0).trans rfl
 | j + 1, hj => simp at hj
end Go.Proofs.Ytdilbnggedidnaa.PVal
namespace Go.Proofs.Ytdilbnggedidnaa.PVal
open Go.RowKit Go.Shelf Go.Proofs.YtdilbnggedidnaaW.PrintWords Go.Proofs.YtdilbnggedidnaaW.PrintLast
set_option linter.unusedVariables false
set_option linter.unusedSimpArgs false
theorem number66_any {w : World} {base g : Nat} {l : List S25} {sp : Bool} (hf : FS w base g l sp) (i k : Int) (must : Bool) (none_ : Int) :
  Calls Try.prog 66 #[.pointer (some ⟨g, 0, none⟩), .int .i64 i, .int .u8 k, .bool must, .int .u64 none_] w fun e w' => e = .returned (.int .u64 (tellP l i (kindP [k]) (fun x => x.f1) none_)) ∧ FS w' base g l (sp || spoilP l i must (kindP [k])) ∧ Bg g w w' := by
 have HF := Aside0.mk hf
 have hg := hf.lt
 clear hf
 go_enter Try.func66, Try.ntmps66
 go_wp2_with fail
 have bK := Blk.new w #[.int .u8 k] 5
 have hB0 := below_alloc (Below.refl w.heap.size w) (.cells #[.int .u8 k] 5)
 refine (of68_any _ _ _ _).mono ?_
 rintro e w2 ⟨rfl, rfl⟩
 have hal := below_alloc (Below.refl (w.alloc (.cells #[.int .u8 k] 5)).heap.size (w.alloc (.cells #[.int .u8 k] 5))) (.cells #[.slice (some ⟨w.heap.size, 0, none⟩) 1 1] 63)
 have bS := Blk.new (w.alloc (.cells #[.int .u8 k] 5)) #[.slice (some ⟨w.heap.size, 0, none⟩) 1 1] 63
 rw [World.size_alloc] at bS
 have hCK : Kd.C (Kd.int .u8) (w.alloc (.cells #[.int .u8 k] 5)) (some ⟨w.heap.size, 0, none⟩) [k].length [k] := C_u8 bK
 have HFt := Aside0.mk (fit98 [k] _ 1 _ _ bS (Kd.C_below hCK hal) (by simp))
 have HB := Aside0.mk (below_step hB0 hal)
 have HFS := Aside0.mk (HF.out.below HB.out)
 clear bK bS hCK hal hB0
 go_wp2_with fail
 refine (tell96_any HFS.out i must none_ _ (kindP [k]) HFt.out).mono ?_
 rintro e w3 ⟨rfl, hfs, hbg⟩
 have HFT := Aside0.mk hfs
 have HBT := Aside0.mk ((Bg.of HB.out).trans hbg)
 clear hfs hbg
 go_wp2_with fail
 go_ret
 exact ⟨rfl, HFT.out, HBT.out⟩
theorem text76_any {w : World} {base g : Nat} {l : List S25} {sp : Bool} (hf : FS w base g l sp) (i k : Int) (must : Bool) :
  Calls Try.prog 76 #[.pointer (some ⟨g, 0, none⟩), .int .i64 i, .int .u8 k, .bool must] w fun e w' => e = .returned (.string (tellP l i (kindP [k]) (fun x => x.f2) ⟨#[]⟩)) ∧ FS w' base g l (sp || spoilP l i must (kindP [k])) ∧ Bg g w w' := by
 have HF := Aside0.mk hf
 have hg := hf.lt
 clear hf
 go_enter Try.func76, Try.ntmps76
 go_wp2_with fail
 have bK := Blk.new w #[.int .u8 k] 5
 have hB0 := below_alloc (Below.refl w.heap.size w) (.cells #[.int .u8 k] 5)
 refine (of68_any _ _ _ _).mono ?_
 rintro e w2 ⟨rfl, rfl⟩
 have hal := below_alloc (Below.refl (w.alloc (.cells #[.int .u8 k] 5)).heap.size (w.alloc (.cells #[.int .u8 k] 5))) (.cells #[.slice (some ⟨w.heap.size, 0, none⟩) 1 1] 63)
 have bS := Blk.new (w.alloc (.cells #[.int .u8 k] 5)) #[.slice (some ⟨w.heap.size, 0, none⟩) 1 1] 63
 rw [World.size_alloc] at bS
 have hCK : Kd.C (Kd.int .u8) (w.alloc (.cells #[.int .u8 k] 5)) (some ⟨w.heap.size, 0, none⟩) [k].length [k] := C_u8 bK
 have HFt := Aside0.mk (fit98 [k] _ 1 _ _ bS (Kd.C_below hCK hal) (by simp))
 have HB := Aside0.mk (below_step hB0 hal)
 have HFS := Aside0.mk (HF.out.below HB.out)
 clear bK bS hCK hal hB0
 go_wp2_with fail
 refine (tell101_any HFS.out i must ⟨#[]⟩ _ (kindP [k]) HFt.out).mono ?_
 rintro e w3 ⟨rfl, hfs, hbg⟩
 have HFT := Aside0.mk hfs
 have HBT := Aside0.mk ((Bg.of HB.out).trans hbg)
 clear hfs hbg
 go_wp2_with fail
 go_ret
 exact ⟨rfl, HFT.out, HBT.out⟩
end Go.Proofs.Ytdilbnggedidnaa.PVal
namespace Go.Proofs.Ytdilbnggedidnaa.PVal
open Go.RowKit Go.Shelf Go.Proofs.YtdilbnggedidnaaW.PrintWords Go.Proofs.YtdilbnggedidnaaW.PrintLast
set_option linter.unusedVariables false
set_option linter.unusedSimpArgs false
theorem C_none (w : World) : k25.C w none 0 ([] : List S25) := ⟨rfl, by omega, fun h => absurd h (by omega)⟩
theorem ok_vb (x : S25) (h : okVb x = true) : okV x := okVb_iff.1 h
end Go.Proofs.Ytdilbnggedidnaa.PVal
namespace Go.Proofs.Ytdilbnggedidnaa.PVal
open Go.RowKit Go.Shelf Go.Proofs.YtdilbnggedidnaaW.PrintWords Go.Proofs.YtdilbnggedidnaaW.PrintLast
set_option linter.unusedVariables false
set_option linter.unusedSimpArgs false
def trimTo (l : List S25) : Nat → Nat
 | 0 => 0
 | n + 1 => if (rd_T25 l (n : Int)).f0 = 1 then trimTo l n else n + 1
def trimL (l : List S25) : List S25 := l.take (trimTo l l.length)
def putV (code : Int) (l : List S25) : S25 := ⟨25, 0, ⟨#[]⟩, [⟨6, code, ⟨#[]⟩, []⟩, ⟨22, 0, ⟨#[]⟩, trimL l⟩]⟩
theorem itemsL_take (l : List S25) (n : Nat) : itemsL (l.take n) ≤ itemsL l := by
 have h : ∀ a b : List S25, itemsL (a ++ b) = itemsL a + itemsL b := fun a b => by
  induction a with
  | nil => simp [itemsL]
  | cons x a ih => simp [itemsL, ih]; omega
 have := h (l.take n) (l.drop n)
 rw [List.take_append_drop] at this
 omega
theorem itemsL_trim (l : List S25) : itemsL (trimL l) ≤ itemsL l := itemsL_take l _
theorem C_take {w : World} {A : Option Addr} {l : List S25} (h : k25.C w A l.length l) (n : Nat) (hn : n ≤ l.length) : k25.C w A n (l.take n) := by
 obtain ⟨h1, h2, h3⟩ := h
 refine ⟨by rw [List.length_take]; omega, by omega, fun hp => ?_⟩
 obtain ⟨ad, e, hx⟩ := h3 (by omega)
 refine ⟨ad, e, fun j p hj => hx j p ?_⟩
 rw [List.getElem?_take] at hj
 split at hj
 ·exact hj
 ·cases hj
theorem many_take21 {l : List S25} (n : Nat) (hn : n ≤ l.length) (hs : itemsL l ≤ 4294967296) (A : Option Addr) (c : Nat) (w : World) (ha : k25.C w A l.length l) (hc : l.length ≤ c) :
  Calls Try.prog 21 #[.int .u8 22, .slice A n c] w fun e w' => ∃ A' c', e = .returned (.agg #[.int .u8 22, .int .u64 0, .string ⟨#[]⟩, .slice A' (l.take n).length c']) ∧ k25.R 25 w' w.heap.size (fun _ => True) (.slice A' (l.take n).length c') (l.take n) ∧ Below w.heap.size w w' := by
 have hl : (l.take n).length = n := by rw [List.length_take]; omega
 have hi : itemsL (l.take n) ≤ itemsL l := itemsL_take l n
 have h := many21_any 22 (l.take n) (by omega) A c w (by rw [hl]; exact C_take ha n hn) (by omega)
 rw [hl] at h
 refine h.mono fun e w' hh => ?_
 obtain ⟨v, he, hR, hb⟩ := hh
 obtain ⟨A', c', rfl⟩ := Kd.R_slice hR
 exact ⟨A', c', he, hR, hb⟩
theorem put39_any (code : Int) (l : List S25) (hs : itemsL l ≤ 4000000000) (A : Option Addr) (c : Nat) (w : World) (ha : k25.C w A l.length l) (hc : l.length ≤ c) :
  Calls Try.prog 39 #[.int .u64 code, .slice A l.length c] w fun e w' => ∃ A' c', e = .returned (.agg #[.int .u8 25, .int .u64 0, .string ⟨#[]⟩, .slice A' 2 c']) ∧ k25.R 25 w' w.heap.size (fun _ => True) (.slice A' 2 c') (putV code l).f3 ∧ Below w.heap.size w w' := by
 have HA := Aside0.mk ha
 have hll : l.length ≤ 4000000000 := by have := itemsL_length l; omega
 have hit := itemsL_trim l
 have bR0 := Blk.new w #[.int .u8 0, .int .u64 0, .string ⟨#[]⟩, .slice none 0 0] 25
 have hal := below_alloc (Below.refl w.heap.size w) (.cells #[.int .u8 0, .int .u64 0, .string ⟨#[]⟩, .slice none 0 0] 25)
 have HAL := Aside0.mk (Kd.C_below ha hal)
 have HB0 := Aside0.mk hal
 clear ha hal
 go_enter Try.func39, Try.ntmps39
 go_wp2_with fail
 obtain ⟨b, eb⟩ : ∃ b, w.heap.size = b := ⟨_, rfl⟩
 obtain ⟨w1, ew⟩ : ∃ W, w.alloc (.cells #[.int .u8 0, .int .u64 0, .string ⟨#[]⟩, .slice none 0 0] 25) = W := ⟨_, rfl⟩
 have BB := Aside0.mk eb
 rw [ew] at bR0 HAL HB0 ⊢
 rw [eb] at bR0 ⊢
 have BR := Aside0.mk bR0
 clear ew eb bR0
 go_loopg [5] l.length (fun gk v5 wr => ∃ m : Nat, v5 = .int .i64 (m : Int) ∧ Aside0 (m ≤ l.length ∧ gk = m ∧ trimTo l m = trimTo l l.length) ∧ w1 = wr)
 case atStart => exact ⟨l.length, rfl, ⟨Nat.le_refl _, rfl, rfl⟩, rfl⟩
 case round =>
  obtain ⟨m, rfl, HM, rfl⟩ := hrel
  obtain ⟨hm, hgk, hT⟩ := HM.out
  have HG := Aside0.mk hgk
  have HT := Aside0.mk hT
  clear HM hgk hT
  by_cases h0 : 0 < m
  ·obtain ⟨m, rfl⟩ : ∃ k, m = k + 1 := ⟨m - 1, by omega⟩
   obtain ⟨ad, Ax, cx, eA, hx0, hx1, hx2, hx3, hlx, hCx⟩ := at_T25 HAL.out (m : Int) (by omega) (by omega)
   cases eA
   rw [Int.toNat_natCast] at hx0
   clear hx1 hx2 hx3 hCx hlx
   have hw : ((m + 1 : Nat) : Int) - 1 = (m : Int) := by omega
   have hml : m < l.length := by omega
   have hdef : trimTo l (m + 1) = if (rd_T25 l (m : Int)).f0 = 1 then trimTo l m else m + 1 := rfl
   by_cases hk : (rd_T25 l (m : Int)).f0 = 1
   ·have hk' : ((rd_T25 l (m : Int)).f0 == 1) = true := by rw [hk]; rfl
    rw [if_pos hk, HT.out] at hdef
    have HT2 := Aside0.mk hdef.symm
    clear hk hdef
    go_wp2_with fail
    go_roundg m
    case measure => rw [HG.out]; omega
    case rel => exact ⟨m, by go_num, ⟨by omega, rfl, HT2.out⟩, rfl⟩
   ·have hk' : ((rd_T25 l (m : Int)).f0 == 1) = false := by simp [hk]
    rw [if_neg hk, HT.out] at hdef
    have HT2 := Aside0.mk hdef.symm
    clear hk hdef
    go_wp2_with fail
    have hn : m + 1 ≤ l.length := hm
    have hz1 : (0 : Int) ≤ (m : Int) + 1 := by omega
    have hz2 : (m : Int) + 1 ≤ (c : Int) := by omega
    have HTN := HT2
    clear hx0 hw hml hk' h0 HG HT HT2
    have bR := BR.out
    clear BR
    refine start_ (n := 8) (S := fun w' => Blk w' b #[.int .u8 0, .int .u64 0, .string ⟨#[]⟩, .slice none 0 0] 25) (ds := [7]) #[ff,ff,ff,ff,ff,ff,ff,ff] (by kernel_rfl) rfl rfl bR (fun hS => ?_)
    replace HAL := Aside0.mk (Kd.C_below HAL.out (below_drew (Below.refl _ _)))
    replace HB0 := Aside0.mk (below_drew HB0.out)
    generalize w1.drew = wd1 at HAL HB0 hS ⊢
    clear bR
    refine pure_ (i := 0) (N := some 21) (v := ?_) (a' := ?_) #[tt,ff,ff,ff,ff,ff,ff,ff] rfl rfl (by kernel_rfl) (fun _ _ _ h => h) (Or.inl ⟨by rfl, ?_⟩) ?_ ?_
    rotate_left
    ·intro w'
     go_simp
     with_reducible rfl
    rotate_left
    ·simp only [Act.put, List.setIfInBounds_toArray, List.set_cons_zero, List.set_cons_succ, i64_w, i32_w]
     rfl
    refine pure_ (i := 2) (N := some 23) (v := ?_) (a' := ?_) #[tt,ff,tt,ff,ff,ff,ff,ff] rfl rfl (by kernel_rfl) (fun _ _ _ h => h) (Or.inl ⟨by rfl, ?_⟩) ?_ ?_
    rotate_left
    ·intro w'
     go_simp
     with_reducible rfl
    rotate_left
    ·simp only [Act.put, List.setIfInBounds_toArray, List.set_cons_zero, List.set_cons_succ, i64_w, i32_w]
     rfl
    refine pure_ (i := 3) (N := some 24) (v := ?_) (a' := ?_) #[tt,ff,tt,tt,ff,ff,ff,ff] rfl rfl (by kernel_rfl) (fun _ _ _ h => h) (Or.inl ⟨by rfl, ?_⟩) ?_ ?_
    rotate_left
    ·intro w'
     go_simp
     with_reducible rfl
    rotate_left
    ·simp only [Act.put, List.setIfInBounds_toArray, List.set_cons_zero, List.set_cons_succ, i64_w, i32_w]
     rfl
    refine pure_ (i := 4) (N := some 25) (v := ?_) (a' := ?_) #[tt,ff,tt,tt,tt,ff,ff,ff] rfl rfl (by kernel_rfl) (fun _ _ _ h => h) (Or.inl ⟨by rfl, ?_⟩) ?_ ?_
    rotate_left
    ·intro w'
     go_simp
     with_reducible rfl
    rotate_left
    ·simp only [Act.put, List.setIfInBounds_toArray, List.set_cons_zero, List.set_cons_succ, i64_w, i32_w]
     rfl
    refine one_ (i := 1) (N := some 22) #[tt,tt,tt,tt,tt,ff,ff,ff] rfl rfl (by kernel_rfl) (by decide) (fun K hK => ?_)
    refine goes_ Try.func23 (by kernel_rfl) rfl #[.int .u8 6, .int .u64 code] (by rfl) rfl rfl (by (try simp only [List.map_toArray, List.map_cons, List.map_nil]); first | done | rfl) ?_
    refine (number23_any 6 code _).mono ?_
    rintro e wk2 ⟨rfl, hb2⟩
    refine ⟨_, rfl, ?_⟩
    have hS2 : Blk wk2 b #[.int .u8 0, .int .u64 0, .string ⟨#[]⟩, .slice none 0 0] 25 := hS.below hb2
    have HAL2 := Aside0.mk (Kd.C_below HAL.out hb2)
    have HB02 := Aside0.mk (below_step HB0.out hb2)
    refine hK.out _ _ hS2 (fun _ => ?_)
    clear hK K hb2
    refine norm_ (a' := ?_) ?_ ?_
    rotate_left
    ·try simp only [Act.put, putAll, List.setIfInBounds_toArray, List.set_cons_zero, List.set_cons_succ]
     rfl
    refine one_ (i := 5) (N := some 26) #[tt,tt,tt,tt,tt,tt,ff,ff] rfl rfl (by kernel_rfl) (by decide) (fun K hK => ?_)
    refine goes_ Try.func21 (by kernel_rfl) rfl #[.int .u8 22, .slice (some ad) (m + 1) c] (by rfl) rfl rfl (by (try simp only [List.map_toArray, List.map_cons, List.map_nil]); first | done | rfl) ?_
    refine (many_take21 (m + 1) hn (by omega) (some ad) c _ HAL2.out hc).mono ?_
    rintro e wk3 ⟨Al, cl, rfl, hRl, hb3⟩
    have hcl := (Kd.R_reads' hRl).2.1
    have HCl3 := Aside0.mk (Kd.R_reads' hRl).2.2
    refine ⟨_, rfl, ?_⟩
    have hS3 : Blk wk3 b #[.int .u8 0, .int .u64 0, .string ⟨#[]⟩, .slice none 0 0] 25 := hS2.below hb3
    have HAL3 := Aside0.mk (Kd.C_below HAL2.out hb3)
    have HB03 := Aside0.mk (below_step HB02.out hb3)
    refine hK.out _ _ hS3 (fun _ => ?_)
    clear hK K hb3 hS2
    refine norm_ (a' := ?_) ?_ ?_
    rotate_left
    ·try simp only [Act.put, putAll, List.setIfInBounds_toArray, List.set_cons_zero, List.set_cons_succ]
     rfl
    refine one_ (i := 6) (N := some 27) #[tt,tt,tt,tt,tt,tt,tt,ff] rfl rfl (by kernel_rfl) (by decide) (fun K hK => ?_)
    refine goes_ Try.func28 (by kernel_rfl) rfl #[.agg #[.int .u8 6, .int .u64 code, .string ⟨#[]⟩, .slice none 0 0], .agg #[.int .u8 22, .int .u64 0, .string ⟨#[]⟩, .slice Al (l.take (m + 1)).length cl]] (by rfl) rfl rfl (by (try simp only [List.map_toArray, List.map_cons, List.map_nil]); first | done | rfl) ?_
    refine (desc28_any ⟨6, code, ⟨#[]⟩, []⟩ ⟨22, 0, ⟨#[]⟩, (l.take (m + 1))⟩ (by have := itemsL_take l (m + 1); simp only [itemsN, itemsL]; omega) none Al 0 cl _ (C_none _) (Nat.le_refl _) HCl3.out hcl).mono ?_
    rintro e wk4 ⟨vd, rfl, hRd, hb4⟩
    obtain ⟨Ad, cd, rfl⟩ := Kd.R_slice hRd
    have HRD := Aside0.mk (Kd.R_bound hRd)
    have hltb := hS3.lt
    refine ⟨_, rfl, ?_⟩
    have hS4 : Blk wk4 b #[.int .u8 0, .int .u64 0, .string ⟨#[]⟩, .slice none 0 0] 25 := hS3.below hb4
    have HAL4 := Aside0.mk (Kd.C_below HAL3.out hb4)
    have HB04 := Aside0.mk (below_step HB03.out hb4)
    have HCl4 := Aside0.mk (Kd.C_below HCl3.out hb4)
    refine hK.out _ _ hS4 (fun _ => ?_)
    clear hK K hb4 hS3
    refine norm_ (a' := ?_) ?_ ?_
    rotate_left
    ·try simp only [Act.put, putAll, List.setIfInBounds_toArray, List.set_cons_zero, List.set_cons_succ]
     rfl
    refine last_ (i := 7) (N := none) #[tt,tt,tt,tt,tt,tt,tt,tt] rfl rfl (by kernel_rfl) (by decide) (fun K hK => ?_)
    rw [if_pos (by rfl)]
    obtain ⟨e0, e1, e2, e3⟩ := hS4.c4
    have fz := hS4.fz
    unfold Oper.wp
    go_simp
    refine hK.out _ _ ?_
    refine done_ (by kernel_rfl) ?_
    go_wp2_with fail
    have hge : w.heap.size ≤ b := Nat.le_of_eq BB.out
    have hsz := HB03.out.size
    refine bodyPost_ret (results_cell_row rfl _ _ b 25 #[.int .u8 25, .int .u64 0, .string ⟨#[]⟩, .slice Ad 2 cd] (0, 0) _ rfl (by
     refine blk_put (cs := #[.int .u8 25, .int .u64 0, .string ⟨#[]⟩, .slice none 0 0]) ?_ 3 _ rfl
     refine blk_put (cs := #[.int .u8 25, .int .u64 0, .string ⟨#[]⟩, .slice none 0 0]) ?_ 2 _ rfl
     refine blk_put (cs := #[.int .u8 25, .int .u64 0, .string ⟨#[]⟩, .slice none 0 0]) ?_ 1 _ rfl
     refine blk_put (cs := #[.int .u8 0, .int .u64 0, .string ⟨#[]⟩, .slice none 0 0]) ?_ 0 _ rfl
     exact hS4) Try.underlying25 rfl (by kernel_rfl)) rfl ?_
    have hpv : putV code l = ⟨25, 0, ⟨#[]⟩, [⟨6, code, ⟨#[]⟩, []⟩, ⟨22, 0, ⟨#[]⟩, (l.take (m + 1))⟩]⟩ := by unfold putV trimL; rw [← HTN.out]
    refine ⟨Ad, cd, rfl, ?_, below_set (below_set (below_set (below_set HB04.out hge) hge) hge) hge⟩
    rw [hpv]
    exact Kd.R_mono (Kd.R_lower (Kd.R_far (Kd.R_far (Kd.R_far (Kd.R_far (Kd.R_mono (ok' := fun j => j ≠ b) HRD.out (fun j hj => by have := hj.2.1; omega)) (fun _ h => h) _) (fun _ h => h) _) (fun _ h => h) _) (fun _ h => h) _) (by omega)) (fun _ _ => trivial)
  ·obtain rfl : m = 0 := by omega
   have HTN : Aside0 (0 = trimTo l l.length) := ⟨by rw [← HT.out]; rfl⟩
   have hn : 0 ≤ l.length := Nat.zero_le _
   clear HT HG h0 hm
   go_wp2_with fail
   have bR := BR.out
   clear BR
   refine start_ (n := 8) (S := fun w' => Blk w' b #[.int .u8 0, .int .u64 0, .string ⟨#[]⟩, .slice none 0 0] 25) (ds := [7]) #[ff,ff,ff,ff,ff,ff,ff,ff] (by kernel_rfl) rfl rfl bR (fun hS => ?_)
   replace HAL := Aside0.mk (Kd.C_below HAL.out (below_drew (Below.refl _ _)))
   replace HB0 := Aside0.mk (below_drew HB0.out)
   generalize w1.drew = wd5 at HAL HB0 hS ⊢
   clear bR
   refine pure_ (i := 0) (N := some 21) (v := ?_) (a' := ?_) #[tt,ff,ff,ff,ff,ff,ff,ff] rfl rfl (by kernel_rfl) (fun _ _ _ h => h) (Or.inl ⟨by rfl, ?_⟩) ?_ ?_
   rotate_left
   ·intro w'
    go_simp
    with_reducible rfl
   rotate_left
   ·simp only [Act.put, List.setIfInBounds_toArray, List.set_cons_zero, List.set_cons_succ, i64_w, i32_w]
    rfl
   refine pure_ (i := 2) (N := some 23) (v := ?_) (a' := ?_) #[tt,ff,tt,ff,ff,ff,ff,ff] rfl rfl (by kernel_rfl) (fun _ _ _ h => h) (Or.inl ⟨by rfl, ?_⟩) ?_ ?_
   rotate_left
   ·intro w'
    go_simp
    with_reducible rfl
   rotate_left
   ·simp only [Act.put, List.setIfInBounds_toArray, List.set_cons_zero, List.set_cons_succ, i64_w, i32_w]
    rfl
   refine pure_ (i := 3) (N := some 24) (v := ?_) (a' := ?_) #[tt,ff,tt,tt,ff,ff,ff,ff] rfl rfl (by kernel_rfl) (fun _ _ _ h => h) (Or.inl ⟨by rfl, ?_⟩) ?_ ?_
   rotate_left
   ·intro w'
    go_simp
    with_reducible rfl
   rotate_left
   ·simp only [Act.put, List.setIfInBounds_toArray, List.set_cons_zero, List.set_cons_succ, i64_w, i32_w]
    rfl
   refine pure_ (i := 4) (N := some 25) (v := ?_) (a' := ?_) #[tt,ff,tt,tt,tt,ff,ff,ff] rfl rfl (by kernel_rfl) (fun _ _ _ h => h) (Or.inl ⟨by rfl, ?_⟩) ?_ ?_
   rotate_left
   ·intro w'
    go_simp
    with_reducible rfl
   rotate_left
   ·simp only [Act.put, List.setIfInBounds_toArray, List.set_cons_zero, List.set_cons_succ, i64_w, i32_w]
    rfl
   refine one_ (i := 1) (N := some 22) #[tt,tt,tt,tt,tt,ff,ff,ff] rfl rfl (by kernel_rfl) (by decide) (fun K hK => ?_)
   refine goes_ Try.func23 (by kernel_rfl) rfl #[.int .u8 6, .int .u64 code] (by rfl) rfl rfl (by (try simp only [List.map_toArray, List.map_cons, List.map_nil]); first | done | rfl) ?_
   refine (number23_any 6 code _).mono ?_
   rintro e wk6 ⟨rfl, hb6⟩
   refine ⟨_, rfl, ?_⟩
   have hS6 : Blk wk6 b #[.int .u8 0, .int .u64 0, .string ⟨#[]⟩, .slice none 0 0] 25 := hS.below hb6
   have HAL6 := Aside0.mk (Kd.C_below HAL.out hb6)
   have HB06 := Aside0.mk (below_step HB0.out hb6)
   refine hK.out _ _ hS6 (fun _ => ?_)
   clear hK K hb6
   refine norm_ (a' := ?_) ?_ ?_
   rotate_left
   ·try simp only [Act.put, putAll, List.setIfInBounds_toArray, List.set_cons_zero, List.set_cons_succ]
    rfl
   refine one_ (i := 5) (N := some 26) #[tt,tt,tt,tt,tt,tt,ff,ff] rfl rfl (by kernel_rfl) (by decide) (fun K hK => ?_)
   refine goes_ Try.func21 (by kernel_rfl) rfl #[.int .u8 22, .slice A 0 c] (by rfl) rfl rfl (by (try simp only [List.map_toArray, List.map_cons, List.map_nil]); first | done | rfl) ?_
   refine (many_take21 0 hn (by omega) A c _ HAL6.out hc).mono ?_
   rintro e wk7 ⟨Al, cl, rfl, hRl, hb7⟩
   have hcl := (Kd.R_reads' hRl).2.1
   have HCl7 := Aside0.mk (Kd.R_reads' hRl).2.2
   refine ⟨_, rfl, ?_⟩
   have hS7 : Blk wk7 b #[.int .u8 0, .int .u64 0, .string ⟨#[]⟩, .slice none 0 0] 25 := hS6.below hb7
   have HAL7 := Aside0.mk (Kd.C_below HAL6.out hb7)
   have HB07 := Aside0.mk (below_step HB06.out hb7)
   refine hK.out _ _ hS7 (fun _ => ?_)
   clear hK K hb7 hS6
   refine norm_ (a' := ?_) ?_ ?_
   rotate_left
   ·try simp only [Act.put, putAll, List.setIfInBounds_toArray, List.set_cons_zero, List.set_cons_succ]
    rfl
   refine one_ (i := 6) (N := some 27) #[tt,tt,tt,tt,tt,tt,tt,ff] rfl rfl (by kernel_rfl) (by decide) (fun K hK => ?_)
   refine goes_ Try.func28 (by kernel_rfl) rfl #[.agg #[.int .u8 6, .int .u64 code, .string ⟨#[]⟩, .slice none 0 0], .agg #[.int .u8 22, .int .u64 0, .string ⟨#[]⟩, .slice Al (l.take 0).length cl]] (by rfl) rfl rfl (by (try simp only [List.map_toArray, List.map_cons, List.map_nil]); first | done | rfl) ?_
   refine (desc28_any ⟨6, code, ⟨#[]⟩, []⟩ ⟨22, 0, ⟨#[]⟩, (l.take 0)⟩ (by have := itemsL_take l 0; simp only [itemsN, itemsL]; omega) none Al 0 cl _ (C_none _) (Nat.le_refl _) HCl7.out hcl).mono ?_
   rintro e wk8 ⟨vd, rfl, hRd, hb8⟩
   obtain ⟨Ad, cd, rfl⟩ := Kd.R_slice hRd
   have HRD := Aside0.mk (Kd.R_bound hRd)
   have hltb := hS7.lt
   refine ⟨_, rfl, ?_⟩
   have hS8 : Blk wk8 b #[.int .u8 0, .int .u64 0, .string ⟨#[]⟩, .slice none 0 0] 25 := hS7.below hb8
   have HAL8 := Aside0.mk (Kd.C_below HAL7.out hb8)
   have HB08 := Aside0.mk (below_step HB07.out hb8)
   have HCl8 := Aside0.mk (Kd.C_below HCl7.out hb8)
   refine hK.out _ _ hS8 (fun _ => ?_)
   clear hK K hb8 hS7
   refine norm_ (a' := ?_) ?_ ?_
   rotate_left
   ·try simp only [Act.put, putAll, List.setIfInBounds_toArray, List.set_cons_zero, List.set_cons_succ]
    rfl
   refine last_ (i := 7) (N := none) #[tt,tt,tt,tt,tt,tt,tt,tt] rfl rfl (by kernel_rfl) (by decide) (fun K hK => ?_)
   rw [if_pos (by rfl)]
   obtain ⟨e0, e1, e2, e3⟩ := hS8.c4
   have fz := hS8.fz
   unfold Oper.wp
   go_simp
   refine hK.out _ _ ?_
   refine done_ (by kernel_rfl) ?_
   go_wp2_with fail
   have hge : w.heap.size ≤ b := Nat.le_of_eq BB.out
   have hsz := HB07.out.size
   refine bodyPost_ret (results_cell_row rfl _ _ b 25 #[.int .u8 25, .int .u64 0, .string ⟨#[]⟩, .slice Ad 2 cd] (0, 0) _ rfl (by
    refine blk_put (cs := #[.int .u8 25, .int .u64 0, .string ⟨#[]⟩, .slice none 0 0]) ?_ 3 _ rfl
    refine blk_put (cs := #[.int .u8 25, .int .u64 0, .string ⟨#[]⟩, .slice none 0 0]) ?_ 2 _ rfl
    refine blk_put (cs := #[.int .u8 25, .int .u64 0, .string ⟨#[]⟩, .slice none 0 0]) ?_ 1 _ rfl
    refine blk_put (cs := #[.int .u8 0, .int .u64 0, .string ⟨#[]⟩, .slice none 0 0]) ?_ 0 _ rfl
    exact hS8) Try.underlying25 rfl (by kernel_rfl)) rfl ?_
   have hpv : putV code l = ⟨25, 0, ⟨#[]⟩, [⟨6, code, ⟨#[]⟩, []⟩, ⟨22, 0, ⟨#[]⟩, (l.take 0)⟩]⟩ := by unfold putV trimL; rw [← HTN.out]
   refine ⟨Ad, cd, rfl, ?_, below_set (below_set (below_set (below_set HB08.out hge) hge) hge) hge⟩
   rw [hpv]
   exact Kd.R_mono (Kd.R_lower (Kd.R_far (Kd.R_far (Kd.R_far (Kd.R_far (Kd.R_mono (ok' := fun j => j ≠ b) HRD.out (fun j hj => by have := hj.2.1; omega)) (fun _ h => h) _) (fun _ h => h) _) (fun _ h => h) _) (fun _ h => h) _) (by omega)) (fun _ _ => trivial)
end Go.Proofs.Ytdilbnggedidnaa.PVal
namespace Go.Proofs.Ytdilbnggedidnaa.PVal
open Go.RowKit Go.Shelf Go.Proofs.YtdilbnggedidnaaW.PrintWords Go.Proofs.YtdilbnggedidnaaW.PrintLast
set_option linter.unusedVariables false
set_option linter.unusedSimpArgs false
theorem field25_3 (a b c : Value) (A : Option Addr) (n d : Nat) (w : World) : (Instr.field 25 (.agg #[a, b, c, .slice A n d]) 3).run Try.prog w = .ok (.slice A n d) w := by kernel_rfl
attribute [local go_sem] field25_3
def newF (v : S25) (code : Int) (name : ByteArray) : Option (List S25) :=
 if rightB v = true ∧ v.f0 = 25 ∧ (rd_T25 v.f3 1).f0 = 22 ∧ calledB (rd_T25 v.f3 0) code name = true then some (rd_T25 v.f3 1).f3 else none
theorem desc_two {v : S25} (h : rightB v = true) (h25 : v.f0 = 25) : ∃ a b, v.f3 = [a, b] := by
 unfold rightB at h
 simp only [Bool.and_eq_true] at h
 have hm := h.2
 rw [mayB_eq] at hm
 simp only [Bool.and_eq_true] at hm
 have hf := hm.2.2
 unfold famB at hf
 rw [if_neg (by omega), if_neg (by omega), if_neg (by omega), if_pos h25] at hf
 simp only [Bool.and_eq_true, decide_eq_true_eq] at hf
 rcases hx : v.f3 with _ | ⟨a, _ | ⟨b, _ | ⟨c, t⟩⟩⟩ <;> rw [hx] at hf <;> simp at hf ⊢
theorem new44_no (v : S25) (hs : itemsN v ≤ 4294967296) (ho : okV v) (code : Int) (name : ByteArray) (A : Option Addr) (c : Nat) (w : World) (ha : k25.C w A v.f3.length v.f3) (hc : v.f3.length ≤ c) (h : newF v code name = none) :
  Calls Try.prog 44 #[.agg #[.int .u8 v.f0, .int .u64 v.f1, .string v.f2, .slice A v.f3.length c], .int .u64 code, .string name] w fun e w' => e = .returned (.tuple #[.pointer none, .int .i64 6]) ∧ Below w.heap.size w w' := by
 have HN := Aside0.mk h
 clear h
 have HA := Aside0.mk ha
 have hal := below_alloc (Below.refl w.heap.size w) (.cells #[.int .u8 v.f0, .int .u64 v.f1, .string v.f2, .slice A v.f3.length c] 25)
 have HAL := Aside0.mk (Kd.C_below ha hal)
 have HB0 := Aside0.mk hal
 have BX := Aside0.mk (Blk.new w #[.int .u8 v.f0, .int .u64 v.f1, .string v.f2, .slice A v.f3.length c] 25)
 clear ha hal
 go_enter Try.func44, Try.ntmps44
 obtain ⟨p0, p1, p2, p3⟩ := BX.out.c4
 go_wp2_with fail
 refine (right17_any v hs ho A c _ HAL.out hc).mono ?_
 rintro e w2 ⟨he, hb2⟩
 have bX := BX.out.below hb2
 have HB2 := Aside0.mk (below_step HB0.out hb2)
 have HC2 := Aside0.mk (Kd.C_below HAL.out hb2)
 clear p0 p1 p2 p3 hb2 BX HAL HB0
 obtain ⟨p0, p1, p2, p3⟩ := bX.c4
 cases hr : rightB v with
 | false =>
  rw [hr] at he
  subst he
  clear hr
  go_wp2_with fail
  go_ret2
  exact ⟨rfl, HB2.out⟩
 | true =>
  rw [hr] at he
  subst he
  by_cases h25 : v.f0 = 25
  ·have HNN := HN.out
   obtain ⟨a, b, hab⟩ := desc_two hr h25
   obtain ⟨ad, A0, c0, e0, x0, x1, x2, x3, l0, C0⟩ := at_T25 HC2.out 0 (by omega) (by rw [hab]; simp)
   obtain ⟨ad1, A1, c1, e1, y0, y1, y2, y3, l1, C1⟩ := at_T25 HC2.out 1 (by omega) (by rw [hab]; simp)
   cases e0
   cases e1
   rw [show (0 : Int).toNat = 0 from rfl, Nat.zero_mul, add_nought] at x0 x1 x2 x3
   rw [show (1 : Int).toNat = 1 from rfl] at y0 y1 y2 y3
   have ha0 : rd_T25 v.f3 0 = a := by rw [hab]; rfl
   have hb0 : rd_T25 v.f3 1 = b := by rw [hab]; rfl
   rw [ha0] at x0 x1 x2 x3 l0 C0
   rw [hb0] at y0 y1 y2 y3 l1 C1
   have hl2 : v.f3.length = 2 := by rw [hab]; rfl
   have h0l : 0 < v.f3.length := by omega
   have h1l : 1 < v.f3.length := by omega
   have k25 : (v.f0 != 25) = false := by simp [h25]
   have HC0 := Aside0.mk C0
   have HC1 := Aside0.mk C1
   have ad0 : ad.add 0 = ad := add_nought ad
   simp only [Nat.reduceMul, Nat.reduceEqDiff, Go.Addr.add, ↓reduceIte] at y0 y1 y2 y3
   have HB0' := Aside0.mk ha0
   have HB1 := Aside0.mk hb0
   have HIB : Aside0 (itemsN b ≤ itemsN v) := ⟨by rw [itemsN_eq v, hab]; simp only [itemsL]; omega⟩
   clear hab C0 C1 ha0 hb0 hl2
   cases h22 : (b.f0 != 22) with
   | true =>
    clear HNN hr h25
    go_wp2_with fail
    go_ret2
    exact ⟨rfl, HB2.out⟩
   | false =>
    have hcl : calledB a code name = false := by
     cases hq : calledB a code name with
     | false => rfl
     | true =>
      unfold newF at HNN
      rw [if_pos ⟨hr, h25, by rw [HB1.out]; simpa using h22, by rw [HB0'.out]; exact hq⟩] at HNN
      cases HNN
    clear HNN hr h25
    go_wp2_with fail
    refine (called74_any a code name A0 c0 _).mono ?_
    rintro e w3 ⟨he, hb3⟩
    rw [hcl] at he
    subst he
    have HB3 := Aside0.mk (below_step HB2.out hb3)
    clear hcl hb3 p0 p1 p2 p3 x0 x1 x2 x3 y0 y1 y2 y3
    go_wp2_with fail
    go_ret2
    exact ⟨rfl, HB3.out⟩
  ·have k25 : (v.f0 != 25) = true := by simp [h25]
   clear hr h25
   go_wp2_with fail
   go_ret2
   exact ⟨rfl, HB2.out⟩
theorem new44_yes (v : S25) (hs : itemsN v ≤ 4294967296) (ho : okV v) (code : Int) (name : ByteArray) (A : Option Addr) (c : Nat) (w : World) (ha : k25.C w A v.f3.length v.f3) (hc : v.f3.length ≤ c) {l : List S25} (h : newF v code name = some l) :
  Calls Try.prog 44 #[.agg #[.int .u8 v.f0, .int .u64 v.f1, .string v.f2, .slice A v.f3.length c], .int .u64 code, .string name] w fun e w' => ∃ g, e = .returned (.tuple #[.pointer (some ⟨g, 0, none⟩), .int .i64 0]) ∧ w.heap.size ≤ g ∧ FS w' w.heap.size g l false ∧ Below w.heap.size w w' := by
 unfold newF at h
 split at h
 case isFalse => cases h
 case isTrue hq =>
 have HQ := Aside0.mk hq
 have HLI := Aside0.mk (Option.some.inj h)
 clear h hq
 have HA := Aside0.mk ha
 have hal := below_alloc (Below.refl w.heap.size w) (.cells #[.int .u8 v.f0, .int .u64 v.f1, .string v.f2, .slice A v.f3.length c] 25)
 have HAL := Aside0.mk (Kd.C_below ha hal)
 have HB0 := Aside0.mk hal
 have BX := Aside0.mk (Blk.new w #[.int .u8 v.f0, .int .u64 v.f1, .string v.f2, .slice A v.f3.length c] 25)
 clear ha hal
 go_enter Try.func44, Try.ntmps44
 obtain ⟨p0, p1, p2, p3⟩ := BX.out.c4
 go_wp2_with fail
 refine (right17_any v hs ho A c _ HAL.out hc).mono ?_
 rintro e w2 ⟨he, hb2⟩
 have bX := BX.out.below hb2
 have HB2 := Aside0.mk (below_step HB0.out hb2)
 have HC2 := Aside0.mk (Kd.C_below HAL.out hb2)
 clear p0 p1 p2 p3 hb2 BX HAL HB0
 obtain ⟨p0, p1, p2, p3⟩ := bX.c4
 obtain ⟨hr, h25, h22, hcl⟩ := HQ.out
 have hli := HLI.out
 clear HQ HLI
 rw [hr] at he
 subst he
 obtain ⟨a, b, hab⟩ := desc_two hr h25
 obtain ⟨ad, A0, c0, e0, x0, x1, x2, x3, l0, C0⟩ := at_T25 HC2.out 0 (by omega) (by rw [hab]; simp)
 obtain ⟨ad1, A1, c1, e1, y0, y1, y2, y3, l1, C1⟩ := at_T25 HC2.out 1 (by omega) (by rw [hab]; simp)
 cases e0
 cases e1
 rw [show (0 : Int).toNat = 0 from rfl, Nat.zero_mul, add_nought] at x0 x1 x2 x3
 rw [show (1 : Int).toNat = 1 from rfl] at y0 y1 y2 y3
 have ha0 : rd_T25 v.f3 0 = a := by rw [hab]; rfl
 have hb0 : rd_T25 v.f3 1 = b := by rw [hab]; rfl
 rw [ha0] at x0 x1 x2 x3 l0 C0
 rw [hb0] at y0 y1 y2 y3 l1 C1
 have hl2 : v.f3.length = 2 := by rw [hab]; rfl
 have h0l : 0 < v.f3.length := by omega
 have h1l : 1 < v.f3.length := by omega
 have k25 : (v.f0 != 25) = false := by simp [h25]
 have HC0 := Aside0.mk C0
 have HC1 := Aside0.mk C1
 have ad0 : ad.add 0 = ad := add_nought ad
 simp only [Nat.reduceMul, Nat.reduceEqDiff, Go.Addr.add, ↓reduceIte] at y0 y1 y2 y3
 have HB0' := Aside0.mk ha0
 have HB1 := Aside0.mk hb0
 have HIB : Aside0 (itemsN b ≤ itemsN v) := ⟨by rw [itemsN_eq v, hab]; simp only [itemsL]; omega⟩
 clear hab C0 C1 ha0 hb0 hl2
 rw [HB1.out] at h22 hli
 rw [HB0'.out] at hcl
 subst hli
 have HCL := Aside0.mk hcl
 have hitb : itemsN b ≤ 4294967296 := by have := HIB.out; omega
 have h22' : (b.f0 != 22) = false := by simp [h22]
 clear hr h25 h22 hcl
 go_wp2_with fail
 refine (called74_any a code name A0 c0 _).mono ?_
 rintro e w3 ⟨he, hb3⟩
 rw [HCL.out] at he
 subst he
 have HB3 := Aside0.mk (below_step HB2.out hb3)
 have bX3 := bX.below hb3
 have HC3 := Aside0.mk (Kd.C_below HC1.out hb3)
 have HY := Aside0.mk (And.intro ((hb3.cell (World.block_lt_of_cell? _ _ y0)).trans y0) (And.intro ((hb3.cell (World.block_lt_of_cell? _ _ y1)).trans y1) (And.intro ((hb3.cell (World.block_lt_of_cell? _ _ y2)).trans y2) ((hb3.cell (World.block_lt_of_cell? _ _ y3)).trans y3))))
 clear hb3 p0 p1 p2 p3 x0 x1 x2 x3 y0 y1 y2 y3 bX
 obtain ⟨p0, p1, p2, p3⟩ := bX3.c4
 obtain ⟨y0, y1, y2, y3⟩ := HY.out
 go_wp2_with fail
 refine (copy31_any b hitb A1 c1 _ HC3.out l1).mono ?_
 rintro e w4 ⟨A2, c2, rfl, hR, hb4⟩
 have HR := Aside0.mk (Kd.R_bound hR)
 have HB4 := Aside0.mk (below_step HB3.out hb4)
 have hsz := HB3.out.size
 clear hR hb4 p0 p1 p2 p3 y0 y1 y2 y3 bX3
 go_wp2_with fail
 go_ret2
 have hal := below_alloc (Below.refl w4.heap.size w4) (.cells #[.slice A2 b.f3.length c2, .bool false] 94)
 refine ⟨w4.heap.size, rfl, by have := HB4.out.size; omega, ⟨A2, c2, Blk.new w4 #[.slice A2 b.f3.length c2, .bool false] 94, ?_⟩, below_step HB4.out hal⟩
 exact Kd.R_lower (Kd.R_below (Kd.R_mono HR.out (fun k hk => by have := hk.2.2.1; omega)) hal) hsz
end Go.Proofs.Ytdilbnggedidnaa.PVal
namespace Go.Proofs.Ytdilbnggedidnaa.PVal
open Go.RowKit Go.Shelf Go.Proofs.YtdilbnggedidnaaW.PrintWords Go.Proofs.YtdilbnggedidnaaW.PrintLast
set_option linter.unusedVariables false
set_option linter.unusedSimpArgs false
theorem okL_take : ∀ {l : List S25}, okL l → ∀ n, okL (l.take n)
 | [], _, n => by simp; trivial
 | x :: l, h, 0 => trivial
 | x :: l, h, n + 1 => by
  rw [okL] at h
  rw [List.take_succ_cons, okL]
  exact ⟨h.1, okL_take h.2 n⟩
theorem okV_put {code : Int} {l : List S25} (h0 : u64R code) (h : okL l) : okV (putV code l) := by
 unfold putV trimL
 rw [okV, okL, okL, okL, okV, okV]
 exact ⟨⟨⟨by omega, by omega⟩, by decide⟩, ⟨⟨h0, by decide⟩, trivial⟩, ⟨⟨⟨by omega, by omega⟩, by decide⟩, okL_take h _⟩, trivial⟩
theorem newF_put (code : Int) (l : List S25) (name : ByteArray) : newF (putV code l) code name = if rightB (putV code l) = true then some (trimL l) else none := by
 have hc : calledB ⟨6, code, ⟨#[]⟩, []⟩ code name = true := by unfold calledB; simp
 unfold newF
 by_cases h : rightB (putV code l) = true
 ·rw [if_pos ⟨h, rfl, rfl, hc⟩, if_pos h]; rfl
 ·rw [if_neg (fun hh => h hh.1), if_neg h]
theorem list41_yes (code : Int) (hcode : u64R code) (l : List S25) (hs : itemsL l ≤ 4000000000) (ho : okL l) (A : Option Addr) (c : Nat) (w : World) (ha : k25.C w A l.length l) (hc : l.length ≤ c) (h : rightB (putV code l) = true) :
  Calls Try.prog 41 #[.int .u64 code, .slice A l.length c] w fun e w' => ∃ g, e = .returned (.pointer (some ⟨g, 0, none⟩)) ∧ w.heap.size ≤ g ∧ FS w' w.heap.size g (trimL l) false ∧ Below w.heap.size w w' := by
 have HA := Aside0.mk ha
 have hit := itemsL_trim l
 have hN : itemsN (putV code l) ≤ 4294967296 := by unfold putV; simp only [itemsN, itemsL]; omega
 have HO := Aside0.mk (okV_put hcode ho)
 have HN : Aside0 (newF (putV code l) code ⟨#[]⟩ = some (trimL l)) := ⟨by rw [newF_put, h]; rfl⟩
 clear ha ho h
 go_enter Try.func41, Try.ntmps41
 go_wp2_with fail
 refine (put39_any code l hs A c w HA.out hc).mono ?_
 rintro e w2 ⟨A2, c2, rfl, hR, hb2⟩
 have HB2 := Aside0.mk hb2
 have HR := Aside0.mk (Kd.R_reads' hR)
 clear hR hb2
 go_wp2_with fail
 refine (new44_yes (putV code l) hN HO.out code ⟨#[]⟩ A2 c2 _ HR.out.2.2 HR.out.2.1 HN.out).mono ?_
 rintro e w3 ⟨g, rfl, hg, hfs, hb3⟩
 have HFS0 := hfs
 have HFS : Aside0 (FS w3 w.heap.size g (trimL l) false) := ⟨by
  obtain ⟨A3, c3, h1, h2⟩ := HFS0
  exact ⟨A3, c3, h1, Kd.R_lower h2 HB2.out.size⟩⟩
 have hsz2 := HB2.out.size
 clear hfs HFS0
 go_wp2_with fail
 go_ret
 exact ⟨g, rfl, by omega, HFS.out, below_step HB2.out hb3⟩
def symP (x : S25) : Bool := (x.f0 == 21) || ((x.f0 == 24) && !(x.f3.any fun k => !(k.f0 == 21)))
def symL (x : S25) : List ByteArray := if x.f0 = 21 then [x.f2] else x.f3.map (·.f2)
theorem kindP_one (k : Int) (x : S25) : kindP [k] x = (x.f0 == k) := by unfold kindP; simp
def SymC (w : World) (p b : Nat) : Prop := Blk w p #[.func (.func 98) #[] #[.pointer (some ⟨b, 0, none⟩)]] 29 ∧ Fit 98 [.pointer (some ⟨b, 0, none⟩)] (kindP [21]) w
theorem SymC.below {w w' : World} {p b : Nat} (h : SymC w p b) (hb : Below w.heap.size w w') : SymC w' p b := ⟨h.1.below hb, h.2.later hb⟩
def Pred71 (b : Nat) (p : S25 → Bool) (w : World) (x : S25) : Prop := ∀ (A : Option Addr) (c : Nat) (w' : World), Below w.heap.size w w' → k25.C w' A x.f3.length x.f3 → x.f3.length ≤ c →
 Calls Try.prog 71 #[.agg #[.int .u8 x.f0, .int .u64 x.f1, .string x.f2, .slice A x.f3.length c], .pointer (some ⟨b, 0, none⟩)] w' fun e w2 => e = .returned (.bool (p x)) ∧ Below w'.heap.size w' w2
theorem indexFunc_71 (b : Nat) (p : S25 → Bool) (l : List S25) (A : Option Addr) (c : Nat) (w : World) (hp : ∀ x ∈ l, Pred71 b p w x) (ha : k25.C w A l.length l) (hc : l.length ≤ c) :
  Calls Try.prog 100 #[.slice A l.length c, .func (.func 71) #[] #[.pointer (some ⟨b, 0, none⟩)]] w fun e w' => e = .returned (.int .i64 (idxF p l 0)) ∧ Below w.heap.size w w' := by
 have hm : l.length ≤ 9223372036854775807 := Kd.C_max ha
 have HA := Aside0.mk ha
 have HP := Aside0.mk hp
 clear ha hp
 go_enter Try.func100, Try.ntmps100
 go_wp2_with fail
 go_loopg [8] l.length (fun gk v8 wr => ∃ i : Int, v8 = .int .i64 i ∧ Aside0 (0 ≤ i ∧ i ≤ l.length ∧ gk = l.length - i.toNat ∧ idxF p (l.drop i.toNat) i = idxF p l 0) ∧ Aside0 (Below w.heap.size w wr))
 case atStart => exact ⟨0, rfl, ⟨by omega, by omega, by simp, by simp⟩, ⟨Below.refl _ _⟩⟩
 case round =>
  obtain ⟨i, rfl, HI, HW⟩ := hrel
  obtain ⟨hi0, hi1, hgk, hv⟩ := HI.out
  have HG := Aside0.mk hgk
  have HV := Aside0.mk hv
  clear HI hgk hv
  by_cases hlt : i < l.length
  ·obtain ⟨ad1, A1, c1, e1, hx0, hx1, hx2, hx3, hl1, hC1⟩ := at_T25 (Kd.C_below HA.out HW.out) i hi0 hlt
   cases e1
   have HC1 := Aside0.mk hC1
   have HX := Aside0.mk (HP.out (rd_T25 l i) (rd_mem hi0 hlt))
   clear hC1
   go_wp2_with fail
   refine (HX.out A1 c1 _ HW.out HC1.out hl1).mono ?_
   rintro e w2 ⟨rfl, hb⟩
   have HW2 : Aside0 (Below w.heap.size w w2) := ⟨below_step HW.out hb⟩
   have hdr : idxF p (l.drop i.toNat) i = if p (rd_T25 l i) then i else idxF p (l.drop (i + 1).toNat) (i + 1) := by rw [drop_rd hi0 hlt, idxF]
   rw [HV.out] at hdr
   have HD := Aside0.mk hdr
   clear hdr hb
   cases hq : p (rd_T25 l i) with
   | true =>
    have HQ := Aside0.mk hq
    clear hq
    go_wp2_with fail
    go_ret
    exact ⟨by rw [HD.out, HQ.out]; rfl, HW2.out⟩
   | false =>
    have HQ := Aside0.mk hq
    clear hq
    go_wp2_with fail
    go_roundg (l.length - (i + 1).toNat)
    case measure => rw [HG.out]; omega
    case rel => exact ⟨i + 1, by go_num, ⟨by omega, by omega, rfl, by rw [HD.out, HQ.out]; rfl⟩, HW2⟩
  ·have he : idxF p l 0 = -1 := by rw [← HV.out, List.drop_of_length_le (by omega)]; rfl
   have HE := Aside0.mk he
   clear he
   go_wp2_with fail
   go_ret
   exact ⟨by rw [HE.out]; rfl, HW.out⟩
theorem containsFunc_71 (b : Nat) (p : S25 → Bool) (l : List S25) (A : Option Addr) (c : Nat) (w : World) (hp : ∀ x ∈ l, Pred71 b p w x) (ha : k25.C w A l.length l) (hc : l.length ≤ c) :
  Calls Try.prog 70 #[.slice A l.length c, .func (.func 71) #[] #[.pointer (some ⟨b, 0, none⟩)]] w fun e w' => e = .returned (.bool (l.any p)) ∧ Below w.heap.size w w' := by
 have HA := Aside0.mk ha
 have HP := Aside0.mk hp
 clear ha hp
 go_enter Try.func70, Try.ntmps70
 go_wp2_with fail
 refine (indexFunc_71 b p l A c w HP.out HA.out hc).mono ?_
 rintro e w2 ⟨rfl, hb⟩
 have HW := Aside0.mk hb
 have HE := Aside0.mk (idxF_any p l 0 (by omega))
 clear hb
 go_wp2_with fail
 go_ret
 exact ⟨by rw [← HE.out]; rfl, HW.out⟩
theorem pred71_of (p b : Nat) (w : World) (hS : SymC w p b) (x : S25) : Pred71 p (fun k => !(k.f0 == 21)) w x := by
 intro A c w' hb ha hc
 have HS := Aside0.mk (hS.below hb)
 have q0 := cell_al HS.out.1.c1
 have HA := Aside0.mk ha
 clear hS hb ha
 go_enter Try.func71, Try.ntmps71
 go_wp2_with fail
 have hal := below_alloc (Below.refl w'.heap.size w') (.cells #[.int .u8 x.f0, .int .u64 x.f1, .string x.f2, .slice A x.f3.length c] 25)
 refine (HS.out.2 x A c _ hal (Kd.C_below HA.out hal) hc).mono ?_
 rintro e w2 ⟨he, hb2⟩
 rw [kindP_one] at he
 subst he
 go_wp2_with fail
 go_ret
 exact ⟨rfl, below_step hal hb2⟩
theorem fit69 (p b : Nat) (w : World) (hS : SymC w p b) : Fit 69 [.pointer (some ⟨p, 0, none⟩)] symP w := by
 intro x A c w' hb ha hc
 show Calls Try.prog 69 #[.agg #[.int .u8 x.f0, .int .u64 x.f1, .string x.f2, .slice A x.f3.length c], .pointer (some ⟨p, 0, none⟩)] w' _
 have HS := Aside0.mk (hS.below hb)
 have q0 := cell_al HS.out.1.c1
 have HA := Aside0.mk ha
 have HD : Aside0 (symP x = ((x.f0 == 21) || ((x.f0 == 24) && !(x.f3.any fun k => !(k.f0 == 21))))) := ⟨rfl⟩
 have bX := Blk.new w' #[.int .u8 x.f0, .int .u64 x.f1, .string x.f2, .slice A x.f3.length c] 25
 have hal := below_alloc (Below.refl w'.heap.size w') (.cells #[.int .u8 x.f0, .int .u64 x.f1, .string x.f2, .slice A x.f3.length c] 25)
 have HAL := Aside0.mk hal
 obtain ⟨p0, p1, p2, p3⟩ := bX.c4
 have BX := Aside0.mk bX
 clear hS hb ha bX hal
 go_enter Try.func69, Try.ntmps69
 go_wp2_with fail
 refine (HS.out.2 x A c _ HAL.out (Kd.C_below HA.out HAL.out) hc).mono ?_
 rintro e w2 ⟨he, hb2⟩
 rw [kindP_one] at he
 have bX2 := BX.out.below hb2
 have HB2 := Aside0.mk (below_step HAL.out hb2)
 have HS2 := Aside0.mk ((HS.out.below HAL.out).below hb2)
 clear p0 p1 p2 p3 q0 hb2 BX
 cases h21 : (x.f0 == 21) with
 | true =>
  rw [h21] at he
  subst he
  have HE : Aside0 (symP x = true) := ⟨by rw [HD.out, h21]; rfl⟩
  clear h21
  go_wp2_with fail
  go_ret
  exact ⟨by rw [HE.out]; rfl, HB2.out⟩
 | false =>
  rw [h21] at he
  subst he
  obtain ⟨p0, p1, p2, p3⟩ := bX2.c4
  cases h24 : (x.f0 == 24) with
  | false =>
   have HE : Aside0 (symP x = false) := ⟨by rw [HD.out, h21, h24]; rfl⟩
   clear h21
   go_wp2_with fail
   go_ret
   exact ⟨by rw [HE.out]; rfl, HB2.out⟩
  | true =>
   have HE : Aside0 (symP x = !(x.f3.any fun k => !(k.f0 == 21))) := ⟨by rw [HD.out, h21, h24]; rfl⟩
   clear h21
   go_wp2_with fail
   refine (containsFunc_71 p (fun k => !(k.f0 == 21)) x.f3 A c _ (fun y hy => pred71_of p b _ HS2.out y) (Kd.C_below HA.out HB2.out) hc).mono ?_
   rintro e w3 ⟨rfl, hb3⟩
   have HB3 := Aside0.mk (below_step HB2.out hb3)
   clear p0 p1 p2 p3 hb3
   go_wp2_with fail
   go_ret
   exact ⟨by rw [HE.out]; rfl, HB3.out⟩
end Go.Proofs.Ytdilbnggedidnaa.PVal
namespace Go.Proofs.Ytdilbnggedidnaa.PVal
open Go.RowKit Go.Shelf Go.Proofs.YtdilbnggedidnaaW.PrintWords Go.Proofs.YtdilbnggedidnaaW.PrintLast
set_option linter.unusedVariables false
set_option linter.unusedSimpArgs false
theorem info9v : (Try.prog.info? 9).map (fun i => (i.zero, i.size, i.bytes)) = some (some (.string ⟨#[]⟩), 1, 16) := by kernel_rfl
theorem R_str1 {w : World} {base : Nat} (hb : base ≤ w.heap.size) (s : ByteArray) : Kd.string.R 9 (w.alloc (.cells #[.string s] 9)) base (fun _ => True) (.slice (some ⟨w.heap.size, 0, none⟩) 1 1) [s] := by
 refine ⟨fun _ _ => trivial, ?_⟩
 refine OwnRow.lit (ps := [s]) w base (inner := [.string s]) ⟨rfl, fun j p hj => ?_⟩ hb (by simp)
 match j, hj with
 | 0, hj => cases hj; rfl
 | j + 1, hj => simp at hj
theorem sym73_any (p b : Nat) (w : World) (hS : SymC w p b) (x : S25) (hm : x.f3.length ≤ 4294967296) (A : Option Addr) (c : Nat) (ha : k25.C w A x.f3.length x.f3) (hc : x.f3.length ≤ c) :
  Calls Try.prog 73 #[.agg #[.int .u8 x.f0, .int .u64 x.f1, .string x.f2, .slice A x.f3.length c], .pointer (some ⟨p, 0, none⟩)] w fun e w' => ∃ A' c', e = .returned (.slice A' (symL x).length c') ∧ Kd.string.R 9 w' w.heap.size (fun _ => True) (.slice A' (symL x).length c') (symL x) ∧ Below w.heap.size w w' := by
 have HS := Aside0.mk hS
 have q0 := cell_al HS.out.1.c1
 have HA := Aside0.mk ha
 have hal := below_alloc (Below.refl w.heap.size w) (.cells #[.int .u8 x.f0, .int .u64 x.f1, .string x.f2, .slice A x.f3.length c] 25)
 have HAL := Aside0.mk hal
 have BX := Aside0.mk (Blk.new w #[.int .u8 x.f0, .int .u64 x.f1, .string x.f2, .slice A x.f3.length c] 25)
 obtain ⟨p0, p1, p2, p3⟩ := BX.out.c4
 clear hS ha hal
 go_enter Try.func73, Try.ntmps73
 go_wp2_with fail
 refine (HS.out.2 x A c _ HAL.out (Kd.C_below HA.out HAL.out) hc).mono ?_
 rintro e w2 ⟨he, hb2⟩
 rw [kindP_one] at he
 have bX2 := BX.out.below hb2
 have HB2 := Aside0.mk (below_step HAL.out hb2)
 clear p0 p1 p2 p3 q0 hb2 BX
 obtain ⟨p0, p1, p2, p3⟩ := bX2.c4
 by_cases h21 : x.f0 = 21
 ·have HE : Aside0 (symL x = [x.f2]) := ⟨if_pos h21⟩
  rw [show (x.f0 == 21) = true by simp [h21]] at he
  subst he
  clear h21
  go_wp2_with fail
  go_ret
  refine ⟨some ⟨w2.heap.size, 0, none⟩, 1, by rw [HE.out]; rfl, ?_, below_alloc HB2.out _⟩
  rw [HE.out]
  exact R_str1 HB2.out.size x.f2
 ·have HE : Aside0 (symL x = x.f3.map (·.f2)) := ⟨if_neg h21⟩
  rw [show (x.f0 == 21) = false by simp [h21]] at he
  subst he
  have HC2 := Aside0.mk (Kd.C_below HA.out HB2.out)
  clear h21
  go_wp2_with fail
  go_loopg [3, 15] x.f3.length (fun gk v3 v15 wr => ∃ (i : Int) (A2 : Option Addr) (n2 c2 : Nat), v3 = .slice A2 n2 c2 ∧ v15 = .int .i64 i ∧ Aside0 (0 ≤ i ∧ i ≤ x.f3.length ∧ gk = x.f3.length - i.toNat ∧ n2 = i.toNat) ∧ Aside0 (Kd.string.R 9 wr w.heap.size (fun _ => True) (.slice A2 n2 c2) ((x.f3.take i.toNat).map (·.f2))) ∧ Aside0 (Below w.heap.size w wr))
  case atStart => exact ⟨0, none, 0, 0, rfl, rfl, ⟨by omega, by omega, by simp, rfl⟩, ⟨by simpa using Kd.R_nil _ _ _ _ _⟩, HB2⟩
  case round =>
   obtain ⟨i, A2, n2, c2, rfl, rfl, HI, HO, HW⟩ := hrel
   obtain ⟨hi0, hi1, hgk, rfl⟩ := HI.out
   have HG := Aside0.mk hgk
   clear HI hgk
   by_cases hlt : i < x.f3.length
   ·obtain ⟨ad1, A1, c1, e1, hx0, hx1, hx2, hx3, hl1, hC1⟩ := at_T25 (Kd.C_below HA.out HW.out) i hi0 hlt
    cases e1
    have htk := take_rd hi0 hlt
    have hln : (x.f3.take i.toNat).length = i.toNat := by rw [List.length_take]; omega
    have HTK := Aside0.mk htk
    have HLN := Aside0.mk hln
    have HO2 := Aside0.mk (Kd.R_alloc HO.out (.cells #[.int .u8 (rd_T25 x.f3 i).f0, .int .u64 (rd_T25 x.f3 i).f1, .string (rd_T25 x.f3 i).f2, .slice A1 (rd_T25 x.f3 i).f3.length c1] 25))
    have HW2 := Aside0.mk (below_alloc HW.out (.cells #[.int .u8 (rd_T25 x.f3 i).f0, .int .u64 (rd_T25 x.f3 i).f1, .string (rd_T25 x.f3 i).f2, .slice A1 (rd_T25 x.f3 i).f3.length c1] 25))
    clear hC1 htk hln HO HW
    go_wp2_with (at_builtin; refine Kd.R_append Kd.string (w0 := w) w.heap.size rfl (.tmp 19) (.tmp 22) 46 9 _ 16 rfl Try.underlying46 info9v rfl (by decide) (by decide) (.slice A2 i.toNat c2) ((x.f3.take i.toNat).map (·.f2)) (rd_T25 x.f3 i).f2 [.string (rd_T25 x.f3 i).f2] (fun _ => True) (fun k => True ∧ some k ≠ (Value.slice A2 i.toNat c2).ownBlock) rfl (by rw [World.size_alloc]; rfl) rfl (fun _ h => h) (fun _ _ => trivial) HO2.out HW2.out HW2.out.size (by rw [List.length_map, HLN.out]; omega) ?_; intro v1 w3 hR hB hG hA)
    rw [← List.map_singleton (f := fun z : S25 => z.f2), ← List.map_append, ← HTK.out] at hR
    obtain ⟨A3, c3, rfl⟩ := Kd.R_slice hR
    have hln2 : ((x.f3.take (i + 1).toNat).map (·.f2)).length = (i + 1).toNat := by rw [List.length_map, List.length_take]; omega
    go_roundg (x.f3.length - (i + 1).toNat)
    case measure => rw [HG.out]; omega
    case rel => exact ⟨i + 1, A3, ((x.f3.take (i + 1).toNat).map (·.f2)).length, c3, rfl, by go_num, ⟨by omega, by omega, rfl, hln2⟩, ⟨hR⟩, ⟨hB⟩⟩
   ·obtain rfl : i = x.f3.length := by omega
    have hO := HO.out
    rw [Int.toNat_natCast, List.take_length] at hO
    have HO3 := Aside0.mk hO
    clear hO HO
    go_wp2_with fail
    go_ret
    refine ⟨A2, c2, by rw [HE.out]; simp, ?_, HW.out⟩
    rw [HE.out, List.length_map]
    exact HO3.out
end Go.Proofs.Ytdilbnggedidnaa.PVal
namespace Go.Proofs.Ytdilbnggedidnaa.PVal
open Go.RowKit Go.Shelf Go.Proofs.YtdilbnggedidnaaW.PrintWords Go.Proofs.YtdilbnggedidnaaW.PrintLast
set_option linter.unusedVariables false
set_option linter.unusedSimpArgs false
def StrsPost (r : List ByteArray) (base g : Nat) (l : List S25) (sp : Bool) (w : World) (e : Ending) (w' : World) : Prop :=
 ∃ A' c', e = .returned (.slice A' r.length c') ∧ Kd.string.R 9 w' w.heap.size (fun _ => True) (.slice A' r.length c') r ∧ FS w' base g l sp ∧ Bg g w w'
theorem tell72_any {w : World} {base g : Nat} {l : List S25} {sp : Bool} (hf : FS w base g l sp) (hk : ∀ x ∈ l, x.f3.length ≤ 4294967296) (i : Int) (p b : Nat) (hS : SymC w p b) :
  Calls Try.prog 72 #[.pointer (some ⟨g, 0, none⟩), .int .i64 i, .bool false, .slice none 0 0, .func (.func 69) #[] #[.pointer (some ⟨p, 0, none⟩)], .func (.func 73) #[] #[.pointer (some ⟨p, 0, none⟩)]] w
   (StrsPost (tellP l i symP symL []) base g l (sp || spoilP l i false symP) w) := by
 have HF := Aside0.mk (fit69 p b w hS)
 have HSC := Aside0.mk hS
 have HFS0 := Aside0.mk hf
 cases h : atF l i with
 | none =>
  have HA := Aside0.mk (at95_none hf i h)
  have HT := Aside0.mk (tell_none h symP symL [])
  have HS := Aside0.mk (spoil_none h false symP)
  clear hf hS h hk
  go_enter Try.func72, Try.ntmps72
  go_wp2_with fail
  refine HA.out.mono ?_
  rintro e w2 ⟨rfl, hb⟩
  have HB := Aside0.mk (below_alloc hb (.cells #[.int .u8 1, .int .u64 0, .string ⟨#[]⟩, .slice none 0 0] 25))
  clear hb
  go_wp2_with fail
  go_ret
  exact ⟨none, 0, by rw [HT.out]; rfl, by rw [HT.out]; exact Kd.R_nil _ _ _ _ _, by rw [HS.out, Bool.or_false]; exact HFS0.out.below HB.out, Bg.of HB.out⟩
 | some x =>
  have HA := Aside0.mk (at95_some hf i x h)
  have HT0 := Aside0.mk (tell_some h symP symL [])
  have HS0 := Aside0.mk (spoil_some h false symP)
  have hxl := hk x (atF_mem h)
  clear hf hS h hk
  go_enter Try.func72, Try.ntmps72
  go_wp2_with fail
  refine HA.out.mono ?_
  rintro e w2 ⟨A, c, rfl, hb, hl, hC⟩
  have bX := Blk.new w2 #[.int .u8 x.f0, .int .u64 x.f1, .string x.f2, .slice A x.f3.length c] 25
  have hal := below_alloc (Below.refl w2.heap.size w2) (.cells #[.int .u8 x.f0, .int .u64 x.f1, .string x.f2, .slice A x.f3.length c] 25)
  have HB1 := Aside0.mk (below_step hb hal)
  have HC := Aside0.mk (Kd.C_below hC hal)
  clear hb hC hal
  obtain ⟨p0, p1, p2, p3⟩ := bX.c4
  go_wp2_with fail
  refine (HF.out x A c _ HB1.out HC.out hl).mono ?_
  rintro e w3 ⟨rfl, hb3⟩
  have bX3 := bX.below hb3
  have HB := Aside0.mk (below_step HB1.out hb3)
  have HC3 := Aside0.mk (Kd.C_below HC.out hb3)
  have HFS := Aside0.mk (HFS0.out.below HB.out)
  clear p0 p1 p2 p3 bX hb3
  cases hP : symP x with
  | true =>
   have HT : Aside0 (tellP l i symP symL [] = symL x) := ⟨by rw [HT0.out, hP]; rfl⟩
   have HS : Aside0 (spoilP l i false symP = false) := ⟨by rw [HS0.out, hP]; rfl⟩
   clear hP
   obtain ⟨p0, p1, p2, p3⟩ := bX3.c4
   go_wp2_with fail
   refine (sym73_any p b _ (HSC.out.below HB.out) x hxl A c HC3.out hl).mono ?_
   rintro e w4 ⟨A4, c4, rfl, hR4, hb4⟩
   have HB4 := Aside0.mk (below_step HB.out hb4)
   have HR4 := Aside0.mk (Kd.R_lower hR4 HB.out.size)
   clear p0 p1 p2 p3 bX3 hb4 hR4
   go_wp2_with fail
   go_ret
   exact ⟨A4, c4, by rw [HT.out]; rfl, by rw [HT.out]; exact HR4.out, by rw [HS.out, Bool.or_false]; exact HFS0.out.below HB4.out, Bg.of HB4.out⟩
  | false =>
   have HT : Aside0 (tellP l i symP symL [] = []) := ⟨by rw [HT0.out, hP]; rfl⟩
   have HS : Aside0 (spoilP l i false symP = true) := ⟨by rw [HS0.out, hP]; rfl⟩
   clear hP bX3
   go_wp2_with fail
   refine (spoil50_any HFS.out).mono ?_
   rintro e w4 ⟨rfl, hfs, hbg⟩
   have HFT := Aside0.mk hfs
   have HBT := Aside0.mk ((Bg.of HB.out).trans hbg)
   clear hfs hbg
   go_wp2_with fail
   go_ret
   exact ⟨none, 0, by rw [HT.out]; rfl, by rw [HT.out]; exact Kd.R_nil _ _ _ _ _, by rw [HS.out]; cases sp <;> exact HFT.out, HBT.out⟩
theorem symbols42_any {w : World} {base g : Nat} {l : List S25} {sp : Bool} (hf : FS w base g l sp) (hk : ∀ x ∈ l, x.f3.length ≤ 4294967296) (i : Int) :
  Calls Try.prog 42 #[.pointer (some ⟨g, 0, none⟩), .int .i64 i] w (StrsPost (tellP l i symP symL []) base g l (sp || spoilP l i false symP) w) := by
 have HF := Aside0.mk hf
 have HK := Aside0.mk hk
 clear hf hk
 go_enter Try.func42, Try.ntmps42
 go_wp2_with fail
 have bK := Blk.new w #[.int .u8 21] 5
 have hB0 := below_alloc (Below.refl w.heap.size w) (.cells #[.int .u8 21] 5)
 refine (of68_any _ _ _ _).mono ?_
 rintro e w2 ⟨rfl, rfl⟩
 have hal := below_alloc (Below.refl (w.alloc (.cells #[.int .u8 21] 5)).heap.size (w.alloc (.cells #[.int .u8 21] 5))) (.cells #[.slice (some ⟨w.heap.size, 0, none⟩) 1 1] 63)
 have bS := Blk.new (w.alloc (.cells #[.int .u8 21] 5)) #[.slice (some ⟨w.heap.size, 0, none⟩) 1 1] 63
 rw [World.size_alloc] at bS
 have hCK : Kd.C (Kd.int .u8) (w.alloc (.cells #[.int .u8 21] 5)) (some ⟨w.heap.size, 0, none⟩) [(21 : Int)].length [21] := C_u8 bK
 have HFt := Aside0.mk (fit98 [21] _ 1 _ _ bS (Kd.C_below hCK hal) (by simp))
 have HB := Aside0.mk (below_step hB0 hal)
 clear bK bS hCK hal hB0
 obtain ⟨w2, ew⟩ : ∃ W, (w.alloc (.cells #[.int .u8 21] 5)).alloc (.cells #[.slice (some ⟨w.heap.size, 0, none⟩) 1 1] 63) = W := ⟨_, rfl⟩
 rw [ew] at HFt HB ⊢
 clear ew
 have bP := Blk.new w2 #[(.func (.func 98) #[] #[.pointer (some ⟨w.heap.size + 1, 0, none⟩)])] 29
 have hal2 := below_alloc (Below.refl w2.heap.size w2) (.cells #[(.func (.func 98) #[] #[.pointer (some ⟨w.heap.size + 1, 0, none⟩)])] 29)
 have HSC : Aside0 (SymC _ w2.heap.size (w.heap.size + 1)) := ⟨⟨bP, HFt.out.later hal2⟩⟩
 have HB2 := Aside0.mk (below_step HB.out hal2)
 have HFS := Aside0.mk (HF.out.below HB2.out)
 clear bP hal2
 have hn : (w.alloc (.cells #[.int .u8 21] 5)).heap.size = w.heap.size + 1 := World.size_alloc _ _
 have HN := Aside0.mk hn
 clear hn
 go_wp2_with fail
 refine (tell72_any HFS.out HK.out i _ _ HSC.out).mono ?_
 rintro e w3 ⟨A3, c3, rfl, hR, hfs, hbg⟩
 have HFT := Aside0.mk hfs
 have HBT := Aside0.mk ((Bg.of HB2.out).trans hbg)
 have HR := Aside0.mk (Kd.R_lower hR HB2.out.size)
 clear hfs hbg hR
 go_wp2_with fail
 go_ret
 exact ⟨A3, c3, rfl, HR.out, HFT.out, HBT.out⟩
end Go.Proofs.Ytdilbnggedidnaa.PVal
namespace Go.Proofs.Ytdilbnggedidnaa.PVal
open Go.RowKit Go.Shelf Go.Proofs.YtdilbnggedidnaaW.PrintWords Go.Proofs.YtdilbnggedidnaaW.PrintLast
set_option linter.unusedVariables false
set_option linter.unusedSimpArgs false
def vSev : S25 := ⟨5, 7, ⟨#[]⟩, []⟩
def wL : List S25 := [vNul, vSev, vSym]
theorem wL_right : rightB (putV 16 wL) = true := by kernel_rfl
theorem wL_trim : trimL wL = wL := by kernel_rfl
theorem wL_ok : okL wL := by
 unfold wL
 rw [okL, okL, okL, okL]
 exact ⟨ok_vb _ (by kernel_rfl), ok_vb _ (by kernel_rfl), ok_vb _ (by kernel_rfl), trivial⟩
theorem wL_kids : ∀ x ∈ wL, x.f3.length ≤ 4294967296 := by
 intro x hx
 simp only [wL, List.mem_cons, List.not_mem_nil, or_false] at hx
 rcases hx with rfl | rfl | rfl <;> exact Nat.zero_le _
theorem works38_any (w : World) : Calls Try.prog 38 #[] w fun e w' => e = .returned (.bool true) ∧ Below w.heap.size w w' := by
 go_enter Try.func38, Try.ntmps38
 go_wp2_with fail
 refine (null26_any _).mono ?_
 rintro e w1 ⟨rfl, hb1⟩
 have HB1 := Aside0.mk hb1
 clear hb1
 go_wp2_with fail
 refine (number23_any 5 7 _).mono ?_
 rintro e w2 ⟨rfl, hb2⟩
 have HB2 := Aside0.mk (below_step HB1.out hb2)
 clear hb2
 go_wp2_with fail
 refine (text24_any 21 ⟨#[97]⟩ _).mono ?_
 rintro e w3 ⟨rfl, hb3⟩
 have HB3 := Aside0.mk (below_step HB2.out hb3)
 clear hb3 HB1 HB2
 go_wp2_with fail
 have bL := Blk.new w3 (flatK [⟨vNul, none, 0⟩, ⟨vSev, none, 0⟩, ⟨vSym, none, 0⟩]).toArray 25
 have hCL := C_lit (ks := [⟨vNul, none, 0⟩, ⟨vSev, none, 0⟩, ⟨vSym, none, 0⟩]) bL (by decide) (by
  intro q hq
  simp only [List.mem_cons, List.not_mem_nil, or_false] at hq
  rcases hq with rfl | rfl | rfl <;> exact ⟨C_none _, Nat.le_refl _⟩)
 have hal := below_alloc (Below.refl w3.heap.size w3) (.cells #[.int .u8 1, .int .u64 0, .string ⟨#[]⟩, .slice none 0 0, .int .u8 5, .int .u64 7, .string ⟨#[]⟩, .slice none 0 0, .int .u8 21, .int .u64 0, .string ⟨#[97]⟩, .slice none 0 0] 25)
 refine (list41_yes 16 ⟨by omega, by omega⟩ wL (by rw [show itemsL wL = 3 by kernel_rfl]; omega) wL_ok _ 3 _ hCL (by decide) wL_right).mono ?_
 rintro e w4 ⟨g, rfl, hg, hfs, hb4⟩
 rw [wL_trim] at hfs
 have HB4 := Aside0.mk (below_step (below_step HB3.out hal) hb4)
 have HFS := Aside0.mk hfs
 have hge : w.heap.size ≤ g := by have := HB3.out.size; rw [World.size_alloc] at hg; omega
 clear bL hCL hal hb4 hfs HB3 hg
 go_wp2_with fail
 refine (has65_any HFS.out 0).mono ?_
 rintro e v1 ⟨he, hb⟩
 rw [show (atF wL 0).isSome = false by kernel_rfl] at he
 subst he
 replace HB4 := Aside0.mk (below_step HB4.out hb)
 replace HFS := Aside0.mk (HFS.out.below hb)
 clear hb
 go_wp2_with fail
 refine (has65_any HFS.out 2).mono ?_
 rintro e v2 ⟨he, hb⟩
 rw [show (atF wL 2).isSome = true by kernel_rfl] at he
 subst he
 replace HB4 := Aside0.mk (below_step HB4.out hb)
 replace HFS := Aside0.mk (HFS.out.below hb)
 clear hb
 go_wp2_with fail
 refine (number66_any HFS.out 1 5 true 0).mono ?_
 rintro e v3 ⟨he, hfs, hbg⟩
 rw [show tellP wL 1 (kindP [5]) (fun x => x.f1) 0 = 7 by kernel_rfl] at he
 rw [show (false || spoilP wL 1 true (kindP [5])) = false by kernel_rfl] at hfs
 subst he
 replace HB4 := Aside0.mk (HB4.out.trans (hbg.below hge HB4.out.size))
 replace HFS := Aside0.mk hfs
 clear hfs hbg
 go_wp2_with fail
 refine (number66_any HFS.out 0 5 false 5).mono ?_
 rintro e v4 ⟨he, hfs, hbg⟩
 rw [show tellP wL 0 (kindP [5]) (fun x => x.f1) 5 = 5 by kernel_rfl] at he
 rw [show (false || spoilP wL 0 false (kindP [5])) = false by kernel_rfl] at hfs
 subst he
 replace HB4 := Aside0.mk (HB4.out.trans (hbg.below hge HB4.out.size))
 replace HFS := Aside0.mk hfs
 clear hfs hbg
 go_wp2_with fail
 refine (symbols42_any HFS.out wL_kids 2).mono ?_
 rintro e v9 ⟨A9, c9, he, hR, hfs, hbg⟩
 rw [show (tellP wL 2 symP symL []) = [⟨#[97]⟩] by kernel_rfl] at he hR
 rw [show (false || spoilP wL 2 false symP) = false by kernel_rfl] at hfs
 subst he
 replace HB4 := Aside0.mk (HB4.out.trans (hbg.below hge HB4.out.size))
 replace HFS := Aside0.mk hfs
 obtain ⟨ad9, eA, hs0⟩ := Kd.at_string (Kd.R_reads' hR).2.2 0 (by omega) (by simp)
 cases eA
 rw [show rdOf ByteArray.empty [(⟨#[97]⟩ : ByteArray)] 0 = ⟨#[97]⟩ by kernel_rfl, show (0 : Int).toNat = 0 from rfl, add_nought] at hs0
 have ad0 : ad9.add 0 = ad9 := add_nought ad9
 clear hfs hbg hR
 go_wp2_with fail
 refine (done43_any HFS.out 3).mono ?_
 rintro e v5 ⟨he, rfl⟩
 rw [show doneN wL false 3 = 0 by kernel_rfl] at he
 subst he
 go_wp2_with fail
 refine (done43_any HFS.out 2).mono ?_
 rintro e v6 ⟨he, rfl⟩
 rw [show doneN wL false 2 = 6 by kernel_rfl] at he
 subst he
 clear hs0 ad0
 go_wp2_with fail
 refine (number66_any HFS.out 0 5 true 5).mono ?_
 rintro e v7 ⟨he, hfs, hbg⟩
 rw [show tellP wL 0 (kindP [5]) (fun x => x.f1) 5 = 5 by kernel_rfl] at he
 rw [show (false || spoilP wL 0 true (kindP [5])) = true by kernel_rfl] at hfs
 subst he
 replace HB4 := Aside0.mk (HB4.out.trans (hbg.below hge HB4.out.size))
 replace HFS := Aside0.mk hfs
 clear hfs hbg
 go_wp2_with fail
 refine (done43_any HFS.out 3).mono ?_
 rintro e v8 ⟨he, rfl⟩
 rw [show doneN wL true 3 = 6 by kernel_rfl] at he
 subst he
 go_wp2_with fail
 go_ret
 exact ⟨rfl, HB4.out⟩
end Go.Proofs.Ytdilbnggedidnaa.PVal
namespace Go.Proofs.Ytdilbnggedidnaa.PVal
open Go.RowKit Go.Shelf Go.Proofs.YtdilbnggedidnaaW.PrintWords Go.Proofs.YtdilbnggedidnaaW.PrintLast
set_option linter.unusedVariables false
set_option linter.unusedSimpArgs false
theorem FS.out2 {w w' : World} {base g p q t : Nat} {l : List S25} {sp : Bool} {cs cs' : Array Value} (h : FS w base g l sp) (hp : Blk w p cs t) (hq : Blk w q cs' t) (ht : ∀ q, q ∈ 25 :: k25.E → q ≠ t) (hk : ∀ k, k ≠ p → k ≠ q → w'.heap[k]? = w.heap[k]?) (hpg : g ≠ p) (hqg : g ≠ q) : FS w' base g l sp := by
 obtain ⟨A, c, h1, h2⟩ := h
 exact ⟨A, c, (hk g hpg hqg).trans h1, Kd.R_mono (Kd.R_move (Kd.R_types (Kd.R_types h2 hp ht) hq ht) (fun k ho => hk k ho.1.2 ho.2)) (fun k ho => ho.1.1)⟩
theorem Bg.far {g : Nat} {w w' : World} (h : Bg g w w') {p : Addr} (hp : w.heap.size ≤ p.block) (v : Value) : Bg g w (w'.setCell p v) := ⟨h.os, h.tape, h.output, by simpa [World.setCell] using h.size, fun k hk hg => (Below.heap_setCell _ _ _ k (by omega)).trans (h.block k hk hg)⟩
end Go.Proofs.Ytdilbnggedidnaa.PVal
namespace Go.Proofs.Ytdilbnggedidnaa.PVal
open Go.RowKit Go.Proofs.YtdilbnggedidnaaW.PrintWords Go.Proofs.YtdilbnggedidnaaW.PrintLast
set_option linter.unusedVariables false
set_option linter.unusedSimpArgs false
theorem cells5_ : Try.prog.cellsOf 5 = 1 := by kernel_rfl
theorem cells22_ : Try.prog.cellsOf 22 = 1 := by kernel_rfl
theorem cells9_ : Try.prog.cellsOf 9 = 1 := by kernel_rfl
theorem cells23_ : Try.prog.cellsOf 23 = 1 := by kernel_rfl
theorem cells25_ : Try.prog.cellsOf 25 = 4 := by kernel_rfl
theorem list4 {α : Type} {l : List α} (h : l.length = 4) : ∃ a b c d, l = [a, b, c, d] := by
 match l, h with
 | [a, b, c, d], _ => exact ⟨a, b, c, d, rfl⟩
theorem open_list {H α : Type} : ∀ (es : List (DataW H × α)) (Q : Nat → S25 → Prop), (∀ i e, es[i]? = some e → ∃ y, Q i y ∧ itemsN y + textsN y ≤ Rows.uptoBulk e.1 ∧ (Rows.uptoBulk e.1 ≤ 4294967290 → okV y)) →
  ∃ l : List S25, l.length = es.length ∧ itemsL l + textsL l ≤ Rows.uptoBulkAll (es.map (·.1)) ∧ (Rows.uptoBulkAll (es.map (·.1)) ≤ 4294967290 → okL l) ∧ ∀ i y, l[i]? = some y → Q i y
 | [], Q, _ => ⟨[], rfl, by simp [itemsL, textsL], fun _ => by rw [okL]; trivial, fun i y h => by simp at h⟩
 | e :: es, Q, h => by
  obtain ⟨y, hq, hb, ho⟩ := h 0 e rfl
  obtain ⟨l, hl, hlb, hlo, hlq⟩ := open_list es (fun i => Q (i + 1)) (fun i e' he => h (i + 1) e' (by simpa using he))
  refine ⟨y :: l, by simp [hl], ?_, fun hk => by
   simp only [List.map_cons, Rows.uptoBulkAll] at hk
   rw [okL]; exact ⟨ho (by omega), hlo (by omega)⟩, fun i z hz => ?_⟩
  ·simp only [itemsL, textsL, List.map_cons, Rows.uptoBulkAll]; omega
  ·cases i with
   | zero =>
    obtain rfl : y = z := by simpa using hz
    exact hq
   | succ i => exact hlq i z (by simpa using hz)
def Opened {H α : Type} (w : World) (cs : List Value) (x : DataW H × α) : Prop :=
 ∃ (y : S25) (A : Option Addr) (c : Nat), cs = [.int .u8 y.f0, .int .u64 y.f1, .string y.f2, .slice A y.f3.length c] ∧ y.f3.length ≤ c ∧ k25.C w A y.f3.length y.f3 ∧ itemsN y + textsN y ≤ Rows.uptoBulk x.1 ∧ (Rows.uptoBulk x.1 ≤ 4294967290 → okV y)
def OpenedL {H α : Type} (w : World) (cs : List Value) (x : DataW H × α) : Prop :=
 ∃ (l : List S25) (A : Option Addr) (c : Nat), cs = [.slice A l.length c] ∧ l.length ≤ c ∧ k25.C w A l.length l ∧ itemsL l + textsL l + 1 ≤ Rows.uptoBulk x.1 ∧ (Rows.uptoBulk x.1 ≤ 4294967290 → okL l)
section
variable {H : Type} {enc : TypeId × Value → H} {w : World} {base : Nat} {spare : Nat → Bool} {held : Bool}
theorem open_vals {m : Nat} {t : TypeId} (ht : Try.prog.underlying t = some (.slice 25)) (ih : ∀ n, n < m → ∀ (cs : List Value) (x : DataW H × List MemPlace), DataW.trod enc Try.prog w base spare held n 25 cs = some x → Opened w cs x)
  (cs : List Value) (x : DataW H × List MemPlace) (h : DataW.trod enc Try.prog w base spare held m t cs = some x) : OpenedL w cs x := by
 rcases DataW.trod_slice ht h with ⟨rfl, rfl⟩ | ⟨a, len, cap, es, rest, n, rfl, rfl, rfl, hb, hl, hm, hlen, hel, _, _⟩
 ·exact ⟨[], none, 0, rfl, Nat.le_refl _, ⟨rfl, by simp, fun h => absurd h (by simp)⟩, by simp [itemsL, textsL, Rows.uptoBulk], fun _ => by rw [okL]; trivial⟩
 ·rw [cells25_] at hel
  obtain ⟨l, hll, hlb, hlo, hlq⟩ := open_list es (fun i y => ∃ c, c.length = 4 ∧ k25.K w y c ∧ ∀ j u, c[j]? = some u → w.cell? (a.add (i * 4 + j)) = some u) (fun i e he => by
   have hi : i < es.length := (List.getElem?_eq_some_iff.1 he).1
   have h1 := hel i (by omega)
   rw [he] at h1
   obtain ⟨cs', h2, h3⟩ := Option.bind_eq_some_iff.1 h1
   obtain ⟨y, A, c, hcs, hc, hC, hbk, hok⟩ := ih n (by omega) cs' e h3
   refine ⟨y, ⟨cs', by rw [hcs]; rfl, by rw [hcs]; exact k25_mk w y hc hC, fun j u hj => ?_⟩, hbk, hok⟩
   obtain ⟨_, hlen4, hcell⟩ := World.cells?_some h2
   have hj4 : j < 4 := by have := (List.getElem?_eq_some_iff.1 hj).1; omega
   have := hcell j hj4
   rw [add_add] at this
   exact this.trans hj)
  refine ⟨l, some a, cap, by rw [hll, hlen], by omega, ⟨rfl, by unfold maxLen at hm; omega, fun _ => ⟨a, rfl, hlq⟩⟩, ?_, fun hk => hlo ?_⟩
  ·simp only [Rows.uptoBulk]; omega
  ·simp only [Rows.uptoBulk] at hk; omega
theorem open_val : ∀ (n : Nat) (cs : List Value) (x : DataW H × List MemPlace), DataW.trod enc Try.prog w base spare held n 25 cs = some x → Opened w cs x := by
 intro n
 induction n using Nat.strongRecOn with
 | _ n ih =>
  intro cs x h
  obtain ⟨xs, m, rfl, rfl, hl, hlen, hf⟩ := DataW.trod_struct Try.underlying25 h
  rw [cells25_] at hl
  obtain ⟨c0, c1, c2, c3, rfl⟩ := list4 hl
  obtain ⟨y0, y1, y2, y3, rfl⟩ := list4 hlen
  have h0 : DataW.trod enc Try.prog w base spare held m 5 (([c0, c1, c2, c3].drop 0).take (Try.prog.cellsOf 5)) = some y0 := hf 0 _ rfl
  rw [cells5_] at h0
  have h1 : DataW.trod enc Try.prog w base spare held m 22 (([c0, c1, c2, c3].drop 1).take (Try.prog.cellsOf 22)) = some y1 := hf 1 _ rfl
  rw [cells22_] at h1
  have h2 : DataW.trod enc Try.prog w base spare held m 9 (([c0, c1, c2, c3].drop 2).take (Try.prog.cellsOf 9)) = some y2 := hf 2 _ rfl
  rw [cells9_] at h2
  have h3 : DataW.trod enc Try.prog w base spare held m 23 (([c0, c1, c2, c3].drop 3).take (Try.prog.cellsOf 23)) = some y3 := hf 3 _ rfl
  rw [cells23_] at h3
  obtain ⟨k, e0, rfl, -⟩ := DataW.trod_int Try.underlying5 h0
  obtain ⟨n', e1, rfl, hw1⟩ := DataW.trod_int Try.underlying22 h1
  obtain ⟨s, e2, rfl, hs⟩ := DataW.trod_string Try.underlying9 h2
  obtain ⟨l, A, c, e3, hlc, hC, hbk, hok⟩ := open_vals (m := m) Try.underlying23 (fun i hi => ih i (by omega)) _ _ h3
  simp at e0 e1 e2 e3
  subst e0 e1 e2 e3
  have hbd := Go.bounds_u64 hw1
  have e : s.data.toList.length = s.size := by rw [Array.length_toList]; rfl
  refine ⟨⟨k, n', s, l⟩, A, c, rfl, hlc, hC, ?_, ?_⟩
  ·simp only [itemsN, textsN, Rows.uptoBulk, Rows.uptoBulkAll, List.map_cons, List.map_nil]; omega
  ·intro hk
   simp only [Rows.uptoBulk, Rows.uptoBulkAll, List.map_cons, List.map_nil] at hk
   rw [okV]; exact ⟨⟨⟨hbd.1, by omega⟩, by omega⟩, hok (by omega)⟩
end
end Go.Proofs.Ytdilbnggedidnaa.PVal
namespace Go.Proofs.Ytdilbnggedidnaa.PVal
open Go.RowKit Go.Shelf Go.Proofs.YtdilbnggedidnaaW.PrintWords Go.Proofs.YtdilbnggedidnaaW.PrintLast
set_option linter.unusedVariables false
set_option linter.unusedSimpArgs false
structure Ask where
 what : Int
 at_ : Int
 kind : Int
 must : Bool
 none_ : Int
 K : Option Addr
 nk : Nat
 ck : Nat
def Ask.cells (a : Ask) : List Value := [.int .i64 a.what, .int .i64 a.at_, .int .u8 a.kind, .bool a.must, .int .u64 a.none_, .slice a.K a.nk a.ck]
def zAsk : Ask := ⟨0, 0, 0, false, 0, none, 0, 0⟩
theorem cell_stays {w w' : World} {p : Addr} {u : Value} (h : w.cell? p = some u) (hb : Below w.heap.size w w') : w'.cell? p = some u := by
 have hl : p.block < w.heap.size := by
  apply Classical.byContradiction
  intro hn
  have : w.heap[p.block]? = none := by simp; omega
  simp [World.cell?, this] at h
 exact (hb.cell hl).trans h
def AskC (w : World) (A : Option Addr) (xs : List Ask) : Prop := 0 < xs.length → ∃ ad, A = some ad ∧ ∀ i, i < xs.length → ∀ j u, (xs.getD i zAsk).cells[j]? = some u → w.cell? (ad.add (i * 6 + j)) = some u
theorem AskC.below {w w' : World} {A : Option Addr} {xs : List Ask} (h : AskC w A xs) (hb : Below w.heap.size w w') : AskC w' A xs := fun hl => by
 obtain ⟨ad, e, hc⟩ := h hl
 exact ⟨ad, e, fun i hi j u hj => cell_stays (hc i hi j u hj) hb⟩
def Ask.k (a : Ask) : Int := if a.what = 2 then 2 else a.kind
end Go.Proofs.Ytdilbnggedidnaa.PVal
namespace Go.Proofs.Ytdilbnggedidnaa.PVal
open Go.RowKit Go.Shelf Go.Proofs.YtdilbnggedidnaaW.PrintWords Go.Proofs.YtdilbnggedidnaaW.PrintLast
set_option linter.unusedVariables false
set_option linter.unusedSimpArgs false
def FSB (w : World) (base g B : Nat) (l : List S25) (sp : Bool) : Prop := ∃ A c, Blk w g #[.slice A l.length c, .bool sp] 94 ∧ k25.R 25 w base (fun k => k ≠ g ∧ k < B) (.slice A l.length c) l
theorem FS.toB {w : World} {base g : Nat} {l : List S25} {sp : Bool} (h : FS w base g l sp) : FSB w base g w.heap.size l sp := by
 obtain ⟨A, c, h1, h2⟩ := h
 exact ⟨A, c, h1, Kd.R_mono (Kd.R_bound h2) (fun k hk => ⟨hk.1, hk.2.2.1⟩)⟩
theorem FSB.fs {w : World} {base g B : Nat} {l : List S25} {sp : Bool} (h : FSB w base g B l sp) : FS w base g l sp := by
 obtain ⟨A, c, h1, h2⟩ := h
 exact ⟨A, c, h1, Kd.R_mono h2 (fun k hk => hk.1)⟩
theorem FSB.below {w w' : World} {base g B : Nat} {l : List S25} {sp : Bool} (h : FSB w base g B l sp) (hb : Below w.heap.size w w') : FSB w' base g B l sp := by
 obtain ⟨A, c, h1, h2⟩ := h
 exact ⟨A, c, h1.below hb, Kd.R_below h2 hb⟩
theorem FSB.set {w : World} {base g B : Nat} {l : List S25} {sp : Bool} (h : FSB w base g B l sp) (b : Bool) : FSB (w.setCell ⟨g, 1, none⟩ (.bool b)) base g B l b := by
 obtain ⟨A, c, h1, h2⟩ := h
 exact ⟨A, c, blk_put h1 1 _ rfl, Kd.R_far h2 (fun _ hk => hk.1) _⟩
theorem FSB.far {w : World} {base g B : Nat} {l : List S25} {sp : Bool} (h : FSB w base g B l sp) {p : Addr} (hp : B ≤ p.block) (hg : g < B) (v : Value) : FSB (w.setCell p v) base g B l sp := by
 obtain ⟨A, c, h1, h2⟩ := h
 exact ⟨A, c, h1.far (by omega) v, Kd.R_far h2 (fun k hk => by omega) v⟩
theorem spoil50_set {w : World} {base g : Nat} {l : List S25} {sp : Bool} (hf : FS w base g l sp) :
  Calls Try.prog 50 #[.pointer (some ⟨g, 0, none⟩)] w fun e w' => e = .returned (.tuple #[]) ∧ w.setCell ⟨g, 1, none⟩ (.bool true) = w' := by
 obtain ⟨A, c, hB, hR⟩ := hf
 obtain ⟨p0, p1⟩ := hB.c2
 have fz := hB.fz
 clear hB hR
 go_enter Try.func50, Try.ntmps50
 go_wp2_with fail
 go_end0
 exact ⟨rfl, rfl⟩
def zVal : S25 := ⟨0, 0, ⟨#[]⟩, []⟩
def put4 (W : World) (r : Nat) (a0 a1 a2 a3 : Value) : World := (((W.setCell ⟨r, 0, none⟩ a0).setCell ⟨r, 1, none⟩ a1).setCell ⟨r, 2, none⟩ a2).setCell ⟨r, 3, none⟩ a3
theorem put4_blk {W : World} {r : Nat} {z0 z1 z2 z3 : Value} {t : TypeId} (h : Blk W r #[z0, z1, z2, z3] t) (a0 a1 a2 a3 : Value) : Blk (put4 W r a0 a1 a2 a3) r #[a0, a1, a2, a3] t := by
 refine blk_put (cs := #[a0, a1, a2, z3]) ?_ 3 _ rfl
 refine blk_put (cs := #[a0, a1, z2, z3]) ?_ 2 _ rfl
 refine blk_put (cs := #[a0, z1, z2, z3]) ?_ 1 _ rfl
 exact blk_put (cs := #[z0, z1, z2, z3]) h 0 _ rfl
theorem put4_fsb {W : World} {base g B r : Nat} {l : List S25} {sp : Bool} (h : FSB W base g B l sp) (hr : B ≤ r) (hg : g < B) (a0 a1 a2 a3 : Value) : FSB (put4 W r a0 a1 a2 a3) base g B l sp := (((h.far hr hg _).far hr hg _).far hr hg _).far hr hg _
theorem put4_bg {W w : World} {g r : Nat} (h : Bg g w W) (hr : w.heap.size ≤ r) (a0 a1 a2 a3 : Value) : Bg g w (put4 W r a0 a1 a2 a3) := (((h.far hr _).far hr _).far hr _).far hr _
theorem put4_R {W : World} {e B b r : Nat} {ok : Nat → Prop} {v : Value} {l : List S25} (h : k25.R e W B ok v l) (hb : b ≤ B) (hr : r < B) (a0 a1 a2 a3 : Value) : k25.R e (put4 W r a0 a1 a2 a3) b ok v l :=
 R_lower_far h hb ((((SetsBelow.nil.snoc (p := ⟨r, 0, none⟩) hr _).snoc (p := ⟨r, 1, none⟩) hr _).snoc (p := ⟨r, 2, none⟩) hr _).snoc (p := ⟨r, 3, none⟩) hr _)
def ValPost (r : S25) (base g B : Nat) (l : List S25) (sp : Bool) (w : World) (e : Ending) (w' : World) : Prop :=
 ∃ A c, e = .returned (.agg #[.int .u8 r.f0, .int .u64 r.f1, .string r.f2, .slice A r.f3.length c]) ∧ k25.R 25 w' w.heap.size (fun _ => True) (.slice A r.f3.length c) r.f3 ∧ FSB w' base g B l sp ∧ Bg g w w'
theorem tell104_of {w : World} {base g B : Nat} {l : List S25} {sp : Bool} (hf : FSB w base g B l sp) (hBw : B ≤ w.heap.size) (hgB : g < B) (hk : ∀ x ∈ l, itemsN x ≤ 4294967296) (i : Int) (b : Nat) (P : S25 → Bool) (hF : Fit 98 [.pointer (some ⟨b, 0, none⟩)] P w) :
  Calls Try.prog 104 #[.pointer (some ⟨g, 0, none⟩), .int .i64 i, .bool false, .agg #[.int .u8 1, .int .u64 0, .string ⟨#[]⟩, .slice none 0 0], .func (.func 98) #[] #[.pointer (some ⟨b, 0, none⟩)], .func (.func 31) #[] #[]] w (ValPost (tellP l i P (fun x => x) vNul) base g B l (sp || spoilP l i false P) w) := by
 have HFS0 := Aside0.mk hf
 have HF := Aside0.mk hF
 clear hF
 cases h : atF l i with
 | none =>
  have HH := Aside0.mk h
  have HT := Aside0.mk (tell_none h P (fun x => x) vNul)
  have HS := Aside0.mk (spoil_none h false P)
  clear hf h
  go_enter Try.func104, Try.ntmps104
  go_wp2_with fail
  have bN := (Blk.new w #[.int .u8 1, .int .u64 0, .string ⟨#[]⟩, .slice none 0 0] 25).alloc (.cells #[.int .u8 0, .int .u64 0, .string ⟨#[]⟩, .slice none 0 0] 25)
  have bR := Blk.new (w.alloc (.cells #[.int .u8 1, .int .u64 0, .string ⟨#[]⟩, .slice none 0 0] 25)) #[.int .u8 0, .int .u64 0, .string ⟨#[]⟩, .slice none 0 0] 25
  have hb0 := below_alloc (below_alloc (Below.refl w.heap.size w) (.cells #[.int .u8 1, .int .u64 0, .string ⟨#[]⟩, .slice none 0 0] 25)) (.cells #[.int .u8 0, .int .u64 0, .string ⟨#[]⟩, .slice none 0 0] 25)
  rw [World.size_alloc] at bR
  obtain ⟨w1, e1⟩ : ∃ W, (w.alloc (.cells #[.int .u8 1, .int .u64 0, .string ⟨#[]⟩, .slice none 0 0] 25)).alloc (.cells #[.int .u8 0, .int .u64 0, .string ⟨#[]⟩, .slice none 0 0] 25) = W := ⟨_, rfl⟩
  rw [e1] at bN bR hb0 ⊢
  clear e1
  have HB0 := Aside0.mk hb0
  have BN := Aside0.mk bN
  have BR := Aside0.mk bR
  clear hb0 bN bR
  refine (at95_none (HFS0.out.below HB0.out).fs i HH.out).mono ?_
  rintro e w2 ⟨rfl, hb⟩
  have hal := below_alloc hb (.cells #[.int .u8 1, .int .u64 0, .string ⟨#[]⟩, .slice none 0 0] 25)
  have HB := Aside0.mk (below_step HB0.out hal)
  have bN2 := BN.out.below hal
  have bR2 := BR.out.below hal
  have BR2 := Aside0.mk bR2
  obtain ⟨p0, p1, p2, p3⟩ := bN2.c4
  obtain ⟨q0, q1, q2, q3⟩ := bR2.c4
  have f2 := bR2.fz
  clear hal hb bN2 bR2
  go_upto_region 3 with fail
  generalize w2.alloc (.cells #[.int .u8 1, .int .u64 0, .string ⟨#[]⟩, .slice none 0 0] 25) = w3 at *
  go_wp2_with fail
  refine bodyPost_ret (results_cell_row rfl _ _ (w.heap.size + 1) 25 #[.int .u8 1, .int .u64 0, .string ⟨#[]⟩, .slice none 0 0] (0, 0) _ rfl (put4_blk BR2.out _ _ _ _) Try.underlying25 rfl (by kernel_rfl)) rfl ?_
  refine ⟨none, 0, by rw [HT.out]; rfl, by rw [HT.out]; exact Kd.R_nil _ _ _ _ _, ?_, ?_⟩
  ·rw [HS.out, Bool.or_false]
   exact put4_fsb (HFS0.out.below HB.out) (by omega) hgB _ _ _ _
  ·exact put4_bg (Bg.of HB.out) (by omega) _ _ _ _
 | some x =>
  have HH := Aside0.mk h
  have HT0 := Aside0.mk (tell_some h P (fun x => x) vNul)
  have HS0 := Aside0.mk (spoil_some h false P)
  have hxl := hk x (atF_mem h)
  clear hf h
  go_enter Try.func104, Try.ntmps104
  go_wp2_with fail
  have bN := (Blk.new w #[.int .u8 1, .int .u64 0, .string ⟨#[]⟩, .slice none 0 0] 25).alloc (.cells #[.int .u8 0, .int .u64 0, .string ⟨#[]⟩, .slice none 0 0] 25)
  have bR := Blk.new (w.alloc (.cells #[.int .u8 1, .int .u64 0, .string ⟨#[]⟩, .slice none 0 0] 25)) #[.int .u8 0, .int .u64 0, .string ⟨#[]⟩, .slice none 0 0] 25
  have hb0 := below_alloc (below_alloc (Below.refl w.heap.size w) (.cells #[.int .u8 1, .int .u64 0, .string ⟨#[]⟩, .slice none 0 0] 25)) (.cells #[.int .u8 0, .int .u64 0, .string ⟨#[]⟩, .slice none 0 0] 25)
  rw [World.size_alloc] at bR
  obtain ⟨w1, e1⟩ : ∃ W, (w.alloc (.cells #[.int .u8 1, .int .u64 0, .string ⟨#[]⟩, .slice none 0 0] 25)).alloc (.cells #[.int .u8 0, .int .u64 0, .string ⟨#[]⟩, .slice none 0 0] 25) = W := ⟨_, rfl⟩
  rw [e1] at bN bR hb0 ⊢
  clear e1
  have HB0 := Aside0.mk hb0
  have BN := Aside0.mk bN
  have BR := Aside0.mk bR
  clear hb0 bN bR
  refine (at95_some (HFS0.out.below HB0.out).fs i x HH.out).mono ?_
  rintro e w2 ⟨A, c, rfl, hb, hl, hC⟩
  have bX := Blk.new w2 #[.int .u8 x.f0, .int .u64 x.f1, .string x.f2, .slice A x.f3.length c] 25
  have hal := below_alloc (Below.refl w2.heap.size w2) (.cells #[.int .u8 x.f0, .int .u64 x.f1, .string x.f2, .slice A x.f3.length c] 25)
  have hbb := below_step hb hal
  have HB1 := Aside0.mk (below_step HB0.out hbb)
  have HC := Aside0.mk (Kd.C_below hC hal)
  have BN1 := Aside0.mk (BN.out.below hbb)
  have BR1 := Aside0.mk (BR.out.below hbb)
  clear hb hC hal hbb BN BR
  obtain ⟨p0, p1, p2, p3⟩ := bX.c4
  go_wp2_with fail
  refine (HF.out x A c _ HB1.out HC.out hl).mono ?_
  rintro e w3 ⟨rfl, hb3⟩
  have bX3 := bX.below hb3
  have HB := Aside0.mk (below_step HB1.out hb3)
  have HC3 := Aside0.mk (Kd.C_below HC.out hb3)
  have BN3 := Aside0.mk (BN1.out.below hb3)
  have BR3 := Aside0.mk (BR1.out.below hb3)
  clear p0 p1 p2 p3 bX hb3 BN1 BR1
  cases hP : P x with
  | true =>
   have HT : Aside0 (tellP l i P (fun x => x) vNul = x) := ⟨by rw [HT0.out, hP]; rfl⟩
   have HS : Aside0 (spoilP l i false P = false) := ⟨by rw [HS0.out, hP]; rfl⟩
   clear hP
   obtain ⟨p0, p1, p2, p3⟩ := bX3.c4
   go_wp2_with fail
   refine (copy31_any x hxl A c _ HC3.out hl).mono ?_
   rintro e w4 ⟨A4, c4, rfl, hm⟩
   have HM := Aside0.mk hm
   have HB4 := Aside0.mk (below_step HB.out hm.2)
   have bR4 := BR3.out.below hm.2
   have BR4 := Aside0.mk bR4
   obtain ⟨q0, q1, q2, q3⟩ := bR4.c4
   have f2 := bR4.fz
   have hr4 := BR3.out.lt
   clear p0 p1 p2 p3 bX3 hm bR4
   go_wp2_with fail
   refine bodyPost_ret (results_cell_row rfl _ _ (w.heap.size + 1) 25 #[.int .u8 x.f0, .int .u64 x.f1, .string x.f2, .slice A4 x.f3.length c4] (0, 0) _ rfl (put4_blk BR4.out _ _ _ _) Try.underlying25 rfl (by kernel_rfl)) rfl ?_
   refine ⟨A4, c4, by rw [HT.out], ?_, ?_, ?_⟩
   ·rw [HT.out]
    exact put4_R HM.out.1 (by omega) hr4 _ _ _ _
   ·rw [HS.out, Bool.or_false]
    exact put4_fsb (HFS0.out.below HB4.out) (by omega) hgB _ _ _ _
   ·exact put4_bg (Bg.of HB4.out) (by omega) _ _ _ _
  | false =>
   have HT : Aside0 (tellP l i P (fun x => x) vNul = vNul) := ⟨by rw [HT0.out, hP]; rfl⟩
   have HS : Aside0 (spoilP l i false P = true) := ⟨by rw [HS0.out, hP]; rfl⟩
   clear hP bX3
   go_wp2_with fail
   refine (spoil50_set (HFS0.out.below HB.out).fs).mono ?_
   rintro e w4 ⟨rfl, hw4⟩
   have HFT := Aside0.mk ((HFS0.out.below HB.out).set true)
   have HBT := Aside0.mk ((Bg.of (g := g) HB.out).set 1 (.bool true))
   have bN4 := BN3.out.far (p := ⟨g, 1, none⟩) (show w.heap.size ≠ g by omega) (.bool true)
   have bR4 := BR3.out.far (p := ⟨g, 1, none⟩) (show w.heap.size + 1 ≠ g by omega) (.bool true)
   rw [hw4] at HFT HBT bN4 bR4
   have BR4 := Aside0.mk bR4
   obtain ⟨p0, p1, p2, p3⟩ := bN4.c4
   obtain ⟨q0, q1, q2, q3⟩ := bR4.c4
   have f2 := bR4.fz
   clear hw4 bN4 bR4
   go_wp2_with fail
   refine bodyPost_ret (results_cell_row rfl _ _ (w.heap.size + 1) 25 #[.int .u8 1, .int .u64 0, .string ⟨#[]⟩, .slice none 0 0] (0, 0) _ rfl (put4_blk BR4.out _ _ _ _) Try.underlying25 rfl (by kernel_rfl)) rfl ?_
   refine ⟨none, 0, by rw [HT.out]; rfl, by rw [HT.out]; exact Kd.R_nil _ _ _ _ _, ?_, ?_⟩
   ·rw [HS.out, Bool.or_true]
    exact put4_fsb HFT.out (by omega) hgB _ _ _ _
   ·exact put4_bg HBT.out (by omega) _ _ _ _
def allP (x : S25) : Bool := true
theorem tell104_all {w : World} {base g B : Nat} {l : List S25} {sp : Bool} (hf : FSB w base g B l sp) (hBw : B ≤ w.heap.size) (hgB : g < B) (hk : ∀ x ∈ l, itemsN x ≤ 4294967296) (i : Int)  :
  Calls Try.prog 104 #[.pointer (some ⟨g, 0, none⟩), .int .i64 i, .bool false, .agg #[.int .u8 1, .int .u64 0, .string ⟨#[]⟩, .slice none 0 0], .func (.func 103) #[] #[], .func (.func 31) #[] #[]] w (ValPost (tellP l i allP (fun x => x) vNul) base g B l (sp || spoilP l i false allP) w) := by
 have HFS0 := Aside0.mk hf
 cases h : atF l i with
 | none =>
  have HH := Aside0.mk h
  have HT := Aside0.mk (tell_none h allP (fun x => x) vNul)
  have HS := Aside0.mk (spoil_none h false allP)
  clear hf h
  go_enter Try.func104, Try.ntmps104
  go_wp2_with fail
  have bN := (Blk.new w #[.int .u8 1, .int .u64 0, .string ⟨#[]⟩, .slice none 0 0] 25).alloc (.cells #[.int .u8 0, .int .u64 0, .string ⟨#[]⟩, .slice none 0 0] 25)
  have bR := Blk.new (w.alloc (.cells #[.int .u8 1, .int .u64 0, .string ⟨#[]⟩, .slice none 0 0] 25)) #[.int .u8 0, .int .u64 0, .string ⟨#[]⟩, .slice none 0 0] 25
  have hb0 := below_alloc (below_alloc (Below.refl w.heap.size w) (.cells #[.int .u8 1, .int .u64 0, .string ⟨#[]⟩, .slice none 0 0] 25)) (.cells #[.int .u8 0, .int .u64 0, .string ⟨#[]⟩, .slice none 0 0] 25)
  rw [World.size_alloc] at bR
  obtain ⟨w1, e1⟩ : ∃ W, (w.alloc (.cells #[.int .u8 1, .int .u64 0, .string ⟨#[]⟩, .slice none 0 0] 25)).alloc (.cells #[.int .u8 0, .int .u64 0, .string ⟨#[]⟩, .slice none 0 0] 25) = W := ⟨_, rfl⟩
  rw [e1] at bN bR hb0 ⊢
  clear e1
  have HB0 := Aside0.mk hb0
  have BN := Aside0.mk bN
  have BR := Aside0.mk bR
  clear hb0 bN bR
  refine (at95_none (HFS0.out.below HB0.out).fs i HH.out).mono ?_
  rintro e w2 ⟨rfl, hb⟩
  have hal := below_alloc hb (.cells #[.int .u8 1, .int .u64 0, .string ⟨#[]⟩, .slice none 0 0] 25)
  have HB := Aside0.mk (below_step HB0.out hal)
  have bN2 := BN.out.below hal
  have bR2 := BR.out.below hal
  have BR2 := Aside0.mk bR2
  obtain ⟨p0, p1, p2, p3⟩ := bN2.c4
  obtain ⟨q0, q1, q2, q3⟩ := bR2.c4
  have f2 := bR2.fz
  clear hal hb bN2 bR2
  go_upto_region 3 with fail
  generalize w2.alloc (.cells #[.int .u8 1, .int .u64 0, .string ⟨#[]⟩, .slice none 0 0] 25) = w3 at *
  go_wp2_with fail
  refine bodyPost_ret (results_cell_row rfl _ _ (w.heap.size + 1) 25 #[.int .u8 1, .int .u64 0, .string ⟨#[]⟩, .slice none 0 0] (0, 0) _ rfl (put4_blk BR2.out _ _ _ _) Try.underlying25 rfl (by kernel_rfl)) rfl ?_
  refine ⟨none, 0, by rw [HT.out]; rfl, by rw [HT.out]; exact Kd.R_nil _ _ _ _ _, ?_, ?_⟩
  ·rw [HS.out, Bool.or_false]
   exact put4_fsb (HFS0.out.below HB.out) (by omega) hgB _ _ _ _
  ·exact put4_bg (Bg.of HB.out) (by omega) _ _ _ _
 | some x =>
  have HH := Aside0.mk h
  have HT0 := Aside0.mk (tell_some h allP (fun x => x) vNul)
  have HS0 := Aside0.mk (spoil_some h false allP)
  have hxl := hk x (atF_mem h)
  clear hf h
  go_enter Try.func104, Try.ntmps104
  go_wp2_with fail
  have bN := (Blk.new w #[.int .u8 1, .int .u64 0, .string ⟨#[]⟩, .slice none 0 0] 25).alloc (.cells #[.int .u8 0, .int .u64 0, .string ⟨#[]⟩, .slice none 0 0] 25)
  have bR := Blk.new (w.alloc (.cells #[.int .u8 1, .int .u64 0, .string ⟨#[]⟩, .slice none 0 0] 25)) #[.int .u8 0, .int .u64 0, .string ⟨#[]⟩, .slice none 0 0] 25
  have hb0 := below_alloc (below_alloc (Below.refl w.heap.size w) (.cells #[.int .u8 1, .int .u64 0, .string ⟨#[]⟩, .slice none 0 0] 25)) (.cells #[.int .u8 0, .int .u64 0, .string ⟨#[]⟩, .slice none 0 0] 25)
  rw [World.size_alloc] at bR
  obtain ⟨w1, e1⟩ : ∃ W, (w.alloc (.cells #[.int .u8 1, .int .u64 0, .string ⟨#[]⟩, .slice none 0 0] 25)).alloc (.cells #[.int .u8 0, .int .u64 0, .string ⟨#[]⟩, .slice none 0 0] 25) = W := ⟨_, rfl⟩
  rw [e1] at bN bR hb0 ⊢
  clear e1
  have HB0 := Aside0.mk hb0
  have BN := Aside0.mk bN
  have BR := Aside0.mk bR
  clear hb0 bN bR
  refine (at95_some (HFS0.out.below HB0.out).fs i x HH.out).mono ?_
  rintro e w2 ⟨A, c, rfl, hb, hl, hC⟩
  have bX := Blk.new w2 #[.int .u8 x.f0, .int .u64 x.f1, .string x.f2, .slice A x.f3.length c] 25
  have hal := below_alloc (Below.refl w2.heap.size w2) (.cells #[.int .u8 x.f0, .int .u64 x.f1, .string x.f2, .slice A x.f3.length c] 25)
  have hbb := below_step hb hal
  have HB1 := Aside0.mk (below_step HB0.out hbb)
  have HC := Aside0.mk (Kd.C_below hC hal)
  have BN1 := Aside0.mk (BN.out.below hbb)
  have BR1 := Aside0.mk (BR.out.below hbb)
  clear hb hC hal hbb BN BR
  obtain ⟨p0, p1, p2, p3⟩ := bX.c4
  go_wp2_with fail
  refine (all103_any x A c _).mono ?_
  rintro e w3 ⟨rfl, hb3⟩
  have bX3 := bX.below hb3
  have HB := Aside0.mk (below_step HB1.out hb3)
  have HC3 := Aside0.mk (Kd.C_below HC.out hb3)
  have BN3 := Aside0.mk (BN1.out.below hb3)
  have BR3 := Aside0.mk (BR1.out.below hb3)
  clear p0 p1 p2 p3 bX hb3 BN1 BR1
  have hP : allP x = true := rfl
  have HT : Aside0 (tellP l i allP (fun x => x) vNul = x) := ⟨by rw [HT0.out, hP]; rfl⟩
  have HS : Aside0 (spoilP l i false allP = false) := ⟨by rw [HS0.out, hP]; rfl⟩
  clear hP
  obtain ⟨p0, p1, p2, p3⟩ := bX3.c4
  go_wp2_with fail
  refine (copy31_any x hxl A c _ HC3.out hl).mono ?_
  rintro e w4 ⟨A4, c4, rfl, hm⟩
  have HM := Aside0.mk hm
  have HB4 := Aside0.mk (below_step HB.out hm.2)
  have bR4 := BR3.out.below hm.2
  have BR4 := Aside0.mk bR4
  obtain ⟨q0, q1, q2, q3⟩ := bR4.c4
  have f2 := bR4.fz
  have hr4 := BR3.out.lt
  clear p0 p1 p2 p3 bX3 hm bR4
  go_wp2_with fail
  refine bodyPost_ret (results_cell_row rfl _ _ (w.heap.size + 1) 25 #[.int .u8 x.f0, .int .u64 x.f1, .string x.f2, .slice A4 x.f3.length c4] (0, 0) _ rfl (put4_blk BR4.out _ _ _ _) Try.underlying25 rfl (by kernel_rfl)) rfl ?_
  refine ⟨A4, c4, by rw [HT.out], ?_, ?_, ?_⟩
  ·rw [HT.out]
   exact put4_R HM.out.1 (by omega) hr4 _ _ _ _
  ·rw [HS.out, Bool.or_false]
   exact put4_fsb (HFS0.out.below HB4.out) (by omega) hgB _ _ _ _
  ·exact put4_bg (Bg.of HB4.out) (by omega) _ _ _ _
def kindsP (ks : List Int) : S25 → Bool := if ks = [] then allP else kindP ks
theorem value77_any {w : World} {base g : Nat} {l : List S25} {sp : Bool} (hf : FS w base g l sp) (hk : ∀ x ∈ l, itemsN x ≤ 4294967296) (i : Int) (ks : List Int) (B : Option Addr) (d : Nat) (hK : Kd.C (Kd.int .u8) w B ks.length ks) (hd : ks.length ≤ d) :
  Calls Try.prog 77 #[.pointer (some ⟨g, 0, none⟩), .int .i64 i, .slice B ks.length d] w (ValPost (tellP l i (kindsP ks) (fun x => x) vNul) base g w.heap.size l (sp || spoilP l i false (kindsP ks)) w) := by
 have HF := Aside0.mk hf.toB
 have HK := Aside0.mk hk
 have HKC := Aside0.mk hK
 have hg := hf.lt
 clear hf hk hK
 go_enter Try.func77, Try.ntmps77
 go_wp2_with fail
 have bR := Blk.new w #[.int .u8 0, .int .u64 0, .string ⟨#[]⟩, .slice none 0 0] 25
 have hb0 := below_alloc (Below.refl w.heap.size w) (.cells #[.int .u8 0, .int .u64 0, .string ⟨#[]⟩, .slice none 0 0] 25)
 obtain ⟨w1, e1⟩ : ∃ W, w.alloc (.cells #[.int .u8 0, .int .u64 0, .string ⟨#[]⟩, .slice none 0 0] 25) = W := ⟨_, rfl⟩
 rw [e1] at bR hb0 ⊢
 clear e1
 have HB1 := Aside0.mk hb0
 have BR1 := Aside0.mk bR
 clear hb0 bR
 refine (of68_any _ _ _ _).mono ?_
 rintro e w2 ⟨rfl, hw2⟩
 have hal := below_alloc (Below.refl w1.heap.size w1) (.cells #[.slice B ks.length d] 63)
 have bS := Blk.new w1 #[.slice B ks.length d] 63
 rw [← hw2] at hal bS
 have HBS := Aside0.mk bS
 have HB2 := Aside0.mk (below_step HB1.out hal)
 have BR2 := Aside0.mk (BR1.out.below hal)
 have HKC2 := Aside0.mk (Kd.C_below HKC.out HB2.out)
 have hs1 := HB1.out.size
 have hr2 := BR2.out.lt
 clear hal bS hw2
 cases ks with
 | nil =>
  go_wp2_with fail
  refine (null26_any _).mono ?_
  rintro e w3 ⟨rfl, hb3⟩
  have HB3 := Aside0.mk (below_step HB2.out hb3)
  have BR3 := Aside0.mk (BR2.out.below hb3)
  clear hb3
  go_wp2_with fail
  refine (tell104_all (HF.out.below HB3.out) HB3.out.size hg HK.out i).mono ?_
  rintro e w4 ⟨A4, c4, rfl, hR4, hF4, hB4⟩
  have HR4 := Aside0.mk hR4
  have HF4 := Aside0.mk hF4
  have HB4 := Aside0.mk ((Bg.of (g := g) HB3.out).trans hB4)
  have bR4 := BR3.out.bg hB4 (by omega)
  have BR4 := Aside0.mk bR4
  obtain ⟨q0, q1, q2, q3⟩ := bR4.c4
  have f2 := bR4.fz
  have hr3 := BR3.out.lt
  have hs3 := HB3.out.size
  clear hR4 hF4 hB4 bR4
  go_wp2_with fail
  refine bodyPost_ret (results_cell_row rfl _ _ w.heap.size 25 #[.int .u8 _, .int .u64 _, .string _, .slice A4 _ c4] (0, 0) _ rfl (put4_blk BR4.out _ _ _ _) Try.underlying25 rfl (by kernel_rfl)) rfl ?_
  exact ⟨A4, c4, rfl, put4_R HR4.out (by omega) hr3 _ _ _ _, put4_fsb HF4.out (Nat.le_refl _) hg _ _ _ _, put4_bg HB4.out (Nat.le_refl _) _ _ _ _⟩
 | cons k ks =>
  have hlk : ((k :: ks).length == 0) = false := rfl
  have HFt := Aside0.mk (fit98 (k :: ks) B d _ _ HBS.out HKC2.out hd)
  obtain ⟨n, hn⟩ : ∃ n, (k :: ks).length = n := ⟨_, rfl⟩
  have hn0 : ((n : Int) == 0) = false := by rw [← hn]; simp; omega
  rw [hn]
  clear hn hlk
  go_wp2_with fail
  refine (null26_any _).mono ?_
  rintro e w3 ⟨rfl, hb3⟩
  have HB3 := Aside0.mk (below_step HB2.out hb3)
  have BR3 := Aside0.mk (BR2.out.below hb3)
  have HFt3 := Aside0.mk (HFt.out.later hb3)
  clear hb3
  go_wp2_with fail
  refine (tell104_of (HF.out.below HB3.out) HB3.out.size hg HK.out i _ _ HFt3.out).mono ?_
  rintro e w4 ⟨A4, c4, rfl, hR4, hF4, hB4⟩
  have HR4 := Aside0.mk hR4
  have HF4 := Aside0.mk hF4
  have HB4 := Aside0.mk ((Bg.of (g := g) HB3.out).trans hB4)
  have bR4 := BR3.out.bg hB4 (by omega)
  have BR4 := Aside0.mk bR4
  obtain ⟨q0, q1, q2, q3⟩ := bR4.c4
  have f2 := bR4.fz
  have hr3 := BR3.out.lt
  have hs3 := HB3.out.size
  clear hR4 hF4 hB4 bR4
  go_wp2_with fail
  refine bodyPost_ret (results_cell_row rfl _ _ w.heap.size 25 #[.int .u8 _, .int .u64 _, .string _, .slice A4 _ c4] (0, 0) _ rfl (put4_blk BR4.out _ _ _ _) Try.underlying25 rfl (by kernel_rfl)) rfl ?_
  exact ⟨A4, c4, rfl, put4_R HR4.out (by omega) hr3 _ _ _ _, put4_fsb HF4.out (Nat.le_refl _) hg _ _ _ _, put4_bg HB4.out (Nat.le_refl _) _ _ _ _⟩
end Go.Proofs.Ytdilbnggedidnaa.PVal
namespace Go.Proofs.Ytdilbnggedidnaa.PVal
open Go.RowKit Go.Shelf Go.Proofs.YtdilbnggedidnaaW.PrintWords Go.Proofs.YtdilbnggedidnaaW.PrintLast
set_option linter.unusedVariables false
set_option linter.unusedSimpArgs false
def RSB (w : World) (base g B : Nat) (l : List S25) (sp : Bool) : Prop := ∃ A c, Blk w g #[.slice A l.length c, .bool sp] 68 ∧ k25.R 25 w base (fun k => k ≠ g ∧ k < B) (.slice A l.length c) l
theorem RSB.below {w w' : World} {base g B : Nat} {l : List S25} {sp : Bool} (h : RSB w base g B l sp) (hb : Below w.heap.size w w') : RSB w' base g B l sp := by
 obtain ⟨A, c, h1, h2⟩ := h
 exact ⟨A, c, h1.below hb, Kd.R_below h2 hb⟩
theorem RSB.set {w : World} {base g B : Nat} {l : List S25} {sp : Bool} (h : RSB w base g B l sp) (b : Bool) : RSB (w.setCell ⟨g, 1, none⟩ (.bool b)) base g B l b := by
 obtain ⟨A, c, h1, h2⟩ := h
 exact ⟨A, c, blk_put h1 1 _ rfl, Kd.R_far h2 (fun _ hk => hk.1) _⟩
theorem RSB.far {w : World} {base g B : Nat} {l : List S25} {sp : Bool} (h : RSB w base g B l sp) {p : Addr} (hp : B ≤ p.block) (hg : g < B) (v : Value) : RSB (w.setCell p v) base g B l sp := by
 obtain ⟨A, c, h1, h2⟩ := h
 exact ⟨A, c, h1.far (by omega) v, Kd.R_far h2 (fun k hk => by omega) v⟩
theorem put4_rsb {W : World} {base g B r : Nat} {l : List S25} {sp : Bool} (h : RSB W base g B l sp) (hr : B ≤ r) (hg : g < B) (a0 a1 a2 a3 : Value) : RSB (put4 W r a0 a1 a2 a3) base g B l sp := (((h.far hr hg _).far hr hg _).far hr hg _).far hr hg _
theorem RSB.lt {w : World} {base g B : Nat} {l : List S25} {sp : Bool} (h : RSB w base g B l sp) : g < w.heap.size := by
 obtain ⟨A, c, h1, _⟩ := h
 exact h1.lt
theorem has78_any {w : World} {base g B : Nat} {l : List S25} {sp : Bool} (hf : RSB w base g B l sp) (i : Int) :
  Calls Try.prog 78 #[.pointer (some ⟨g, 0, none⟩), .int .i64 i] w fun e w' => e = .returned (.bool (atF l i).isSome) ∧ w = w' := by
 obtain ⟨A, c, hB, hR⟩ := hf
 have HC := Aside0.mk (Kd.R_reads' hR).2.2
 obtain ⟨p0, p1⟩ := hB.c2
 clear hB hR
 cases h : atF l i with
 | none =>
  rcases atF_none h with h1 | ⟨h0, h1⟩ | ⟨h0, h1, h2⟩
  ·clear h
   go_enter Try.func78, Try.ntmps78
   go_wp2_with fail
   go_ret
   exact ⟨rfl, rfl⟩
  ·clear h
   go_enter Try.func78, Try.ntmps78
   go_wp2_with fail
   go_ret
   exact ⟨rfl, rfl⟩
  ·obtain ⟨ad, Ax, cx, eA, x0, _, _, _, _, _⟩ := at_T25 HC.out i h0 h1
   cases eA
   rw [h2] at x0
   have hlt : i.toNat < l.length := by omega
   clear h h2
   go_enter Try.func78, Try.ntmps78
   go_wp2_with fail
   go_ret
   exact ⟨rfl, rfl⟩
 | some x =>
  obtain ⟨h0, h1, h2, ex⟩ := atF_some h
  obtain ⟨ad, Ax, cx, eA, x0, _, _, _, _, _⟩ := at_T25 HC.out i h0 h1
  cases eA
  rw [ex] at x0 h2
  have hk : (x.f0 != 1) = true := by simp [h2]
  have hlt : i.toNat < l.length := by omega
  clear h h2 ex
  go_enter Try.func78, Try.ntmps78
  go_wp2_with fail
  go_ret
  exact ⟨rfl, rfl⟩
theorem results105 (tmps : Array Value) (w : World) (g : Nat) (cs : Array Value) (b : Bool) (hcs : cs.size = 4) (hp : tmps.getD 6 undef = .pointer (some ⟨g, 0, none⟩)) (hg : Blk w g cs 25) (hb : tmps.getD 7 undef = .bool b) :
  (results Try.f105 tmps).run Try.prog w = .ok (.tuple #[.agg cs, .bool b]) w := by
 have h1 : tmps[6]?.getD undef = .pointer (some ⟨g, 0, none⟩) := by simpa using hp
 have h2 : tmps[7]?.getD undef = .bool b := by simpa using hb
 have hi : (Try.prog.info? 25).map (·.size) = some cs.size := by rw [hcs]; kernel_rfl
 have hr := run_loadVar_row (P := Try.prog) w g 25 25 cs (0, 0) _ hg Try.underlying25 rfl hi
 simp [results, Try.f105, h1, h2, asAddr, hr]
theorem take105_none {w : World} {base g B : Nat} {l : List S25} {sp : Bool} (hf : RSB w base g B l sp) (hB : B ≤ w.heap.size) (hgB : g < B) (i : Int) (must : Bool) (h : atF l i = none) :
  Calls Try.prog 105 #[.pointer (some ⟨g, 0, none⟩), .int .i64 i, .bool must] w fun e w' => e = .returned (.tuple #[.agg #[.int .u8 0, .int .u64 0, .string ⟨#[]⟩, .slice none 0 0], .bool false]) ∧ RSB w' base g B l (sp || must) ∧ Bg g w w' := by
 have HF := Aside0.mk hf
 have bR := Blk.new w #[.int .u8 0, .int .u64 0, .string ⟨#[]⟩, .slice none 0 0] 25
 have hal := below_alloc (Below.refl w.heap.size w) (.cells #[.int .u8 0, .int .u64 0, .string ⟨#[]⟩, .slice none 0 0] 25)
 have HF1 := Aside0.mk (hf.below hal)
 have HB1 := Aside0.mk hal
 have HAT := Aside0.mk h
 clear hf hal h
 go_enter Try.func105, Try.ntmps105
 go_upto_region 1 with fail
 obtain ⟨r, er⟩ : ∃ b, w.heap.size = b := ⟨_, rfl⟩
 obtain ⟨w1, e1⟩ : ∃ W, w.alloc (.cells #[.int .u8 0, .int .u64 0, .string ⟨#[]⟩, .slice none 0 0] 25) = W := ⟨_, rfl⟩
 rw [e1] at bR HF1 HB1 ⊢
 rw [er] at bR ⊢
 have hrw : w.heap.size ≤ r := by omega
 clear e1 er
 have BR := Aside0.mk bR
 clear bR
 go_wp2_with fail
 refine (has78_any HF1.out i).mono ?_
 rintro e w2 ⟨he, rfl⟩
 rw [HAT.out] at he
 replace he : e = .returned (.bool false) := he
 subst he
 have hF1 := HF1.out
 obtain ⟨A, c, hG, hR⟩ := hF1
 obtain ⟨p0, p1⟩ := hG.c2
 have fz := hG.fz
 obtain ⟨q0, q1, q2, q3⟩ := BR.out.c4
 have f2 := BR.out.fz
 have hgr : g ≠ r := by omega
 clear hG hR
 cases sp with
 | true =>
  go_wp2_with fail
  refine bodyPost_ret (results105 _ _ r #[.int .u8 0, .int .u64 0, .string ⟨#[]⟩, .slice none 0 0] false rfl rfl (put4_blk (BR.out.far (p := ⟨g, 1, none⟩) (Ne.symm hgr) _) _ _ _ _) rfl) rfl ?_
  exact ⟨rfl, put4_rsb (HF1.out.set true) (by omega) hgB _ _ _ _, put4_bg ((Bg.of HB1.out).set 1 _) hrw _ _ _ _⟩
 | false =>
  go_wp2_with fail
  refine bodyPost_ret (results105 _ _ r #[.int .u8 0, .int .u64 0, .string ⟨#[]⟩, .slice none 0 0] false rfl rfl (put4_blk (BR.out.far (p := ⟨g, 1, none⟩) (Ne.symm hgr) _) _ _ _ _) rfl) rfl ?_
  exact ⟨rfl, put4_rsb (HF1.out.set must) (by omega) hgB _ _ _ _, put4_bg ((Bg.of HB1.out).set 1 _) hrw _ _ _ _⟩
theorem take105_some {w : World} {base g B : Nat} {l : List S25} {sp : Bool} (hf : RSB w base g B l sp) (hB : B ≤ w.heap.size) (hgB : g < B) (i : Int) (must : Bool) {x : S25} (h : atF l i = some x) :
  Calls Try.prog 105 #[.pointer (some ⟨g, 0, none⟩), .int .i64 i, .bool must] w fun e w' => ∃ A c, e = .returned (.tuple #[.agg #[.int .u8 x.f0, .int .u64 x.f1, .string x.f2, .slice A x.f3.length c], .bool true]) ∧ Below w.heap.size w w' ∧ x.f3.length ≤ c ∧ k25.C w' A x.f3.length x.f3 := by
 have HF1 := Aside0.mk (hf.below (below_alloc (Below.refl w.heap.size w) (.cells #[.int .u8 0, .int .u64 0, .string ⟨#[]⟩, .slice none 0 0] 25)))
 have HAT := Aside0.mk h
 obtain ⟨A, c, hG, hR⟩ := hf
 have hg1 : ¬ g = w.heap.size := by have := hG.lt; omega
 obtain ⟨p0, p1⟩ := hG.c2
 have o0 := cell_al p0
 obtain ⟨h0, h1, h2, ex⟩ := atF_some h
 obtain ⟨ad, Ax, cx, eA, x0, x1, x2, x3, hlx, hCx⟩ := at_T25 (Kd.R_reads' hR).2.2 i h0 h1
 cases eA
 rw [ex] at x0 x1 x2 x3 hlx hCx
 have HC := Aside0.mk hCx
 have hq0 := cell_al x0
 have hq1 := cell_al x1
 have hq2 := cell_al x2
 have hq3 := cell_al x3
 have hlt : i.toNat < l.length := by omega
 clear hG hR h2 ex hCx h p0 p1 x0 x1 x2 x3
 go_enter Try.func105, Try.ntmps105
 go_wp2_with fail
 refine (has78_any HF1.out i).mono ?_
 rintro e w2 ⟨he, rfl⟩
 rw [HAT.out] at he
 replace he : e = .returned (.bool true) := he
 subst he
 go_wp2_with fail
 have hB0 := below_alloc (Below.refl w.heap.size w) (.cells #[.int .u8 x.f0, .int .u64 x.f1, .string x.f2, .slice Ax x.f3.length cx] 25)
 exact bodyPost_ret (results105 _ _ w.heap.size #[.int .u8 x.f0, .int .u64 x.f1, .string x.f2, .slice Ax x.f3.length cx] true rfl rfl (Blk.new w #[.int .u8 x.f0, .int .u64 x.f1, .string x.f2, .slice Ax x.f3.length cx] 25) rfl) rfl ⟨Ax, cx, rfl, hB0, hlx, Kd.C_below HC.out hB0⟩
theorem done49_any {w : World} {base g B : Nat} {l : List S25} {sp : Bool} (hf : RSB w base g B l sp) (n : Int) :
  Calls Try.prog 49 #[.pointer (some ⟨g, 0, none⟩), .int .i64 n] w fun e w' => e = .returned (.int .i64 (doneN l sp n)) ∧ w = w' := by
 obtain ⟨A, c, hG, hR⟩ := hf
 obtain ⟨p0, p1⟩ := hG.c2
 clear hG hR
 cases sp with
 | true =>
  go_enter Try.func49, Try.ntmps49
  go_wp2_with fail
  go_ret
  exact ⟨by rw [show doneN l true n = 6 from if_pos (.inl rfl)]; rfl, rfl⟩
 | false =>
  by_cases h : n < (l.length : Int)
  ·have hd := Aside0.mk (show doneN l false n = 6 from if_pos (.inr h))
   go_enter Try.func49, Try.ntmps49
   go_wp2_with fail
   go_ret
   exact ⟨by rw [hd.out]; rfl, rfl⟩
  ·have hd := Aside0.mk (show doneN l false n = 0 from if_neg (by simp; omega))
   go_enter Try.func49, Try.ntmps49
   go_wp2_with fail
   go_ret
   exact ⟨by rw [hd.out]; rfl, rfl⟩
theorem number79_any {w : World} {base g B : Nat} {l : List S25} {sp : Bool} (hf : RSB w base g B l sp) (hB : B ≤ w.heap.size) (hgB : g < B) (i k : Int) (must : Bool) (none_ : Int) :
  Calls Try.prog 79 #[.pointer (some ⟨g, 0, none⟩), .int .i64 i, .int .u8 k, .bool must, .int .u64 none_] w fun e w' => e = .returned (.int .u64 (tellP l i (kindP [k]) (fun x => x.f1) none_)) ∧ RSB w' base g B l (sp || spoilP l i must (kindP [k])) ∧ Bg g w w' := by
 have HF := Aside0.mk hf
 cases h : atF l i with
 | none =>
  have HT := Aside0.mk (tell_none h (kindP [k]) (fun x => x.f1) none_)
  have HS := Aside0.mk (spoil_none h must (kindP [k]))
  have HAT := Aside0.mk h
  clear hf h
  go_enter Try.func79, Try.ntmps79
  go_wp2_with fail
  refine (take105_none HF.out hB hgB i must HAT.out).mono ?_
  rintro e w2 ⟨rfl, hfs, hbg⟩
  have hal := below_alloc (Below.refl w2.heap.size w2) (.cells #[.int .u8 0, .int .u64 0, .string ⟨#[]⟩, .slice none 0 0] 25)
  have HF2 := Aside0.mk (hfs.below hal)
  have HB2 := Aside0.mk (hbg.trans (Bg.of hal))
  clear hfs hbg hal
  go_wp2_with fail
  go_ret
  exact ⟨by rw [HT.out]; rfl, by rw [HS.out]; exact HF2.out, HB2.out⟩
 | some x =>
  have HT0 := Aside0.mk (tell_some h (kindP [k]) (fun x => x.f1) none_)
  have HS0 := Aside0.mk (spoil_some h must (kindP [k]))
  have HAT := Aside0.mk h
  have hkx := kindP_one k x
  clear hf h
  go_enter Try.func79, Try.ntmps79
  go_wp2_with fail
  refine (take105_some HF.out hB hgB i must HAT.out).mono ?_
  rintro e w2 ⟨A, c, rfl, hb2, hl2, hC2⟩
  have bX := Blk.new w2 #[.int .u8 x.f0, .int .u64 x.f1, .string x.f2, .slice A x.f3.length c] 25
  have hal := below_alloc hb2 (.cells #[.int .u8 x.f0, .int .u64 x.f1, .string x.f2, .slice A x.f3.length c] 25)
  have HF2 := Aside0.mk (HF.out.below hal)
  have HB2 := Aside0.mk (Bg.of (g := g) hal)
  clear hb2 hal hC2
  go_upto_region 2 with fail
  obtain ⟨bx, ebx⟩ : ∃ b, w2.heap.size = b := ⟨_, rfl⟩
  obtain ⟨w3, e3⟩ : ∃ W, w2.alloc (.cells #[.int .u8 x.f0, .int .u64 x.f1, .string x.f2, .slice A x.f3.length c] 25) = W := ⟨_, rfl⟩
  rw [e3] at bX HF2 HB2 ⊢
  rw [ebx] at bX ⊢
  clear e3 ebx
  obtain ⟨q0, q1, q2, q3⟩ := bX.c4
  clear bX
  cases hk : (x.f0 != k) with
  | true =>
   have HK : Aside0 (kindP [k] x = false) := ⟨by rw [hkx]; simpa using hk⟩
   have hF2 := HF2.out
   obtain ⟨A', c', hG, hR⟩ := hF2
   obtain ⟨p0, p1⟩ := hG.c2
   have fz := hG.fz
   clear hkx hG hR
   go_wp2_with fail
   go_ret
   exact ⟨by rw [HT0.out, HK.out]; rfl, by rw [HS0.out, HK.out]; show RSB _ base g B l (sp || true); rw [Bool.or_true]; exact HF2.out.set true, HB2.out.set 1 _⟩
  | false =>
   have HK : Aside0 (kindP [k] x = true) := ⟨by rw [hkx]; simpa using hk⟩
   clear hkx
   go_wp2_with fail
   go_ret
   exact ⟨by rw [HT0.out, HK.out]; rfl, by rw [HS0.out, HK.out]; show RSB _ base g B l (sp || false); rw [Bool.or_false]; exact HF2.out, HB2.out⟩
theorem text81_any {w : World} {base g B : Nat} {l : List S25} {sp : Bool} (hf : RSB w base g B l sp) (hB : B ≤ w.heap.size) (hgB : g < B) (i k : Int) (must : Bool) :
  Calls Try.prog 81 #[.pointer (some ⟨g, 0, none⟩), .int .i64 i, .int .u8 k, .bool must] w fun e w' => e = .returned (.string (tellP l i (kindP [k]) (fun x => x.f2) ⟨#[]⟩)) ∧ RSB w' base g B l (sp || spoilP l i must (kindP [k])) ∧ Bg g w w' := by
 have HF := Aside0.mk hf
 cases h : atF l i with
 | none =>
  have HT := Aside0.mk (tell_none h (kindP [k]) (fun x => x.f2) ⟨#[]⟩)
  have HS := Aside0.mk (spoil_none h must (kindP [k]))
  have HAT := Aside0.mk h
  clear hf h
  go_enter Try.func81, Try.ntmps81
  go_wp2_with fail
  refine (take105_none HF.out hB hgB i must HAT.out).mono ?_
  rintro e w2 ⟨rfl, hfs, hbg⟩
  have hal := below_alloc (Below.refl w2.heap.size w2) (.cells #[.int .u8 0, .int .u64 0, .string ⟨#[]⟩, .slice none 0 0] 25)
  have HF2 := Aside0.mk (hfs.below hal)
  have HB2 := Aside0.mk (hbg.trans (Bg.of hal))
  clear hfs hbg hal
  go_wp2_with fail
  go_ret
  exact ⟨by rw [HT.out]; rfl, by rw [HS.out]; exact HF2.out, HB2.out⟩
 | some x =>
  have HT0 := Aside0.mk (tell_some h (kindP [k]) (fun x => x.f2) ⟨#[]⟩)
  have HS0 := Aside0.mk (spoil_some h must (kindP [k]))
  have HAT := Aside0.mk h
  have hkx := kindP_one k x
  clear hf h
  go_enter Try.func81, Try.ntmps81
  go_wp2_with fail
  refine (take105_some HF.out hB hgB i must HAT.out).mono ?_
  rintro e w2 ⟨A, c, rfl, hb2, hl2, hC2⟩
  have bX := Blk.new w2 #[.int .u8 x.f0, .int .u64 x.f1, .string x.f2, .slice A x.f3.length c] 25
  have hal := below_alloc hb2 (.cells #[.int .u8 x.f0, .int .u64 x.f1, .string x.f2, .slice A x.f3.length c] 25)
  have HF2 := Aside0.mk (HF.out.below hal)
  have HB2 := Aside0.mk (Bg.of (g := g) hal)
  clear hb2 hal hC2
  go_upto_region 2 with fail
  obtain ⟨bx, ebx⟩ : ∃ b, w2.heap.size = b := ⟨_, rfl⟩
  obtain ⟨w3, e3⟩ : ∃ W, w2.alloc (.cells #[.int .u8 x.f0, .int .u64 x.f1, .string x.f2, .slice A x.f3.length c] 25) = W := ⟨_, rfl⟩
  rw [e3] at bX HF2 HB2 ⊢
  rw [ebx] at bX ⊢
  clear e3 ebx
  obtain ⟨q0, q1, q2, q3⟩ := bX.c4
  clear bX
  cases hk : (x.f0 != k) with
  | true =>
   have HK : Aside0 (kindP [k] x = false) := ⟨by rw [hkx]; simpa using hk⟩
   have hF2 := HF2.out
   obtain ⟨A', c', hG, hR⟩ := hF2
   obtain ⟨p0, p1⟩ := hG.c2
   have fz := hG.fz
   clear hkx hG hR
   go_wp2_with fail
   go_ret
   exact ⟨by rw [HT0.out, HK.out]; rfl, by rw [HS0.out, HK.out]; show RSB _ base g B l (sp || true); rw [Bool.or_true]; exact HF2.out.set true, HB2.out.set 1 _⟩
  | false =>
   have HK : Aside0 (kindP [k] x = true) := ⟨by rw [hkx]; simpa using hk⟩
   clear hkx
   go_wp2_with fail
   go_ret
   exact ⟨by rw [HT0.out, HK.out]; rfl, by rw [HS0.out, HK.out]; show RSB _ base g B l (sp || false); rw [Bool.or_false]; exact HF2.out, HB2.out⟩
theorem bool80_any {w : World} {base g B : Nat} {l : List S25} {sp : Bool} (hf : RSB w base g B l sp) (hB : B ≤ w.heap.size) (hgB : g < B) (i : Int) (must : Bool) :
  Calls Try.prog 80 #[.pointer (some ⟨g, 0, none⟩), .int .i64 i, .bool must] w fun e w' => e = .returned (.bool (tellP l i (kindP [2]) (fun x => x.f1) 0 == 1)) ∧ RSB w' base g B l (sp || spoilP l i must (kindP [2])) ∧ Bg g w w' := by
 have HF := Aside0.mk hf
 clear hf
 go_enter Try.func80, Try.ntmps80
 go_wp2_with fail
 refine (number79_any HF.out hB hgB i 2 must 0).mono ?_
 rintro e w2 ⟨rfl, hfs, hbg⟩
 have HF2 := Aside0.mk hfs
 have HB2 := Aside0.mk hbg
 clear hfs hbg
 obtain ⟨t, et⟩ : ∃ t, tellP l i (kindP [2]) (fun x => x.f1) 0 = t := ⟨_, rfl⟩
 have ET := Aside0.mk et
 rw [et]
 clear et
 go_wp2_with fail
 go_ret
 exact ⟨by rw [ET.out]; rfl, HF2.out, HB2.out⟩
end Go.Proofs.Ytdilbnggedidnaa.PVal
namespace Go.Proofs.Ytdilbnggedidnaa.PVal
open Go.RowKit Go.Shelf Go.Proofs.YtdilbnggedidnaaW.PrintWords Go.Proofs.YtdilbnggedidnaaW.PrintLast
set_option linter.unusedVariables false
set_option linter.unusedSimpArgs false
theorem rnull106_any (w : World) : Calls Try.prog 106 #[] w fun e w' => e = .returned (.agg #[.int .u8 1, .int .u64 0, .string ⟨#[]⟩, .slice none 0 0]) ∧ Below w.heap.size w w' := by
 go_enter Try.func106, Try.ntmps106
 go_wp2_with fail
 exact bodyPost_ret (results_cell_row rfl _ _ w.heap.size 25 #[.int .u8 1, .int .u64 0, .string ⟨#[]⟩, .slice none 0 0] (0, 0) _ rfl (blk_new _ _) Try.underlying25 rfl (by kernel_rfl)) rfl ⟨rfl, below_alloc (Below.refl _ _) _⟩
attribute [local go_sem] field25_3
theorem new45_no (v : S25) (hs : itemsN v ≤ 4294967296) (ho : okV v) (code : Int) (name : ByteArray) (A : Option Addr) (c : Nat) (w : World) (ha : k25.C w A v.f3.length v.f3) (hc : v.f3.length ≤ c) (h : newF v code name = none) :
  Calls Try.prog 45 #[.agg #[.int .u8 v.f0, .int .u64 v.f1, .string v.f2, .slice A v.f3.length c], .int .u64 code, .string name] w fun e w' => e = .returned (.tuple #[.pointer none, .int .i64 6]) ∧ Below w.heap.size w w' := by
 have HN := Aside0.mk h
 clear h
 have HA := Aside0.mk ha
 have hal := below_alloc (Below.refl w.heap.size w) (.cells #[.int .u8 v.f0, .int .u64 v.f1, .string v.f2, .slice A v.f3.length c] 25)
 have HAL := Aside0.mk (Kd.C_below ha hal)
 have HB0 := Aside0.mk hal
 have BX := Aside0.mk (Blk.new w #[.int .u8 v.f0, .int .u64 v.f1, .string v.f2, .slice A v.f3.length c] 25)
 clear ha hal
 go_enter Try.func45, Try.ntmps45
 go_upto_region 1 with fail
 obtain ⟨bv, ebv⟩ : ∃ b, w.heap.size = b := ⟨_, rfl⟩
 obtain ⟨w1, e1⟩ : ∃ W, w.alloc (.cells #[.int .u8 v.f0, .int .u64 v.f1, .string v.f2, .slice A v.f3.length c] 25) = W := ⟨_, rfl⟩
 rw [e1] at BX HAL HB0 ⊢
 rw [ebv] at BX ⊢
 clear e1 ebv
 obtain ⟨p0, p1, p2, p3⟩ := BX.out.c4
 go_wp2_with fail
 refine (right18_any v hs ho A c _ HAL.out hc).mono ?_
 rintro e w2 ⟨he, hb2⟩
 have bX := BX.out.below hb2
 have HB2 := Aside0.mk (below_step HB0.out hb2)
 have HC2 := Aside0.mk (Kd.C_below HAL.out hb2)
 clear p0 p1 p2 p3 hb2 BX HAL HB0
 obtain ⟨p0, p1, p2, p3⟩ := bX.c4
 cases hr : rightB v with
 | false =>
  rw [hr] at he
  subst he
  clear hr
  go_wp2_with fail
  go_ret2
  exact ⟨rfl, HB2.out⟩
 | true =>
  rw [hr] at he
  subst he
  by_cases h25 : v.f0 = 25
  ·have HNN := HN.out
   obtain ⟨a, b, hab⟩ := desc_two hr h25
   obtain ⟨ad, A0, c0, e0, x0, x1, x2, x3, l0, C0⟩ := at_T25 HC2.out 0 (by omega) (by rw [hab]; simp)
   obtain ⟨ad1, A1, c1, e1, y0, y1, y2, y3, l1, C1⟩ := at_T25 HC2.out 1 (by omega) (by rw [hab]; simp)
   cases e0
   cases e1
   rw [show (0 : Int).toNat = 0 from rfl, Nat.zero_mul, add_nought] at x0 x1 x2 x3
   rw [show (1 : Int).toNat = 1 from rfl] at y0 y1 y2 y3
   have ha0 : rd_T25 v.f3 0 = a := by rw [hab]; rfl
   have hb0 : rd_T25 v.f3 1 = b := by rw [hab]; rfl
   rw [ha0] at x0 x1 x2 x3 l0 C0
   rw [hb0] at y0 y1 y2 y3 l1 C1
   have hl2 : v.f3.length = 2 := by rw [hab]; rfl
   have h0l : 0 < v.f3.length := by omega
   have h1l : 1 < v.f3.length := by omega
   have k25 : (v.f0 != 25) = false := by simp [h25]
   have HC0 := Aside0.mk C0
   have HC1 := Aside0.mk C1
   have ad0 : ad.add 0 = ad := add_nought ad
   simp only [Nat.reduceMul, Nat.reduceEqDiff, Go.Addr.add, ↓reduceIte] at y0 y1 y2 y3
   have HB0' := Aside0.mk ha0
   have HB1 := Aside0.mk hb0
   have HIB : Aside0 (itemsL b.f3 ≤ itemsN v) := ⟨by have := itemsN_eq b; rw [itemsN_eq v, hab]; simp only [itemsL]; omega⟩
   clear hab C0 C1 ha0 hb0 hl2
   cases h22 : (b.f0 != 22) with
   | true =>
    clear HNN hr h25
    go_wp2_with fail
    go_ret2
    exact ⟨rfl, HB2.out⟩
   | false =>
    have hcl : calledB a code name = false := by
     cases hq : calledB a code name with
     | false => rfl
     | true =>
      unfold newF at HNN
      rw [if_pos ⟨hr, h25, by rw [HB1.out]; simpa using h22, by rw [HB0'.out]; exact hq⟩] at HNN
      cases HNN
    clear HNN hr h25
    cases h6 : (a.f0 == 6) with
    | true =>
     cases hcd : (a.f1 == code) with
     | true => unfold calledB at hcl; rw [h6, hcd] at hcl; cases hcl
     | false =>
      cases h21 : (a.f0 == 21) with
      | true => simp at h6 h21; omega
      | false =>
       clear hcl
       go_upto_region 4 with fail
       obtain ⟨bd, ebd⟩ : ∃ b, w2.heap.size = b := ⟨_, rfl⟩
       have bD := Blk.new w2 #[.int .u8 a.f0, .int .u64 a.f1, .string a.f2, .slice A0 a.f3.length c0] 25
       have hald := below_alloc (Below.refl w2.heap.size w2) (.cells #[.int .u8 a.f0, .int .u64 a.f1, .string a.f2, .slice A0 a.f3.length c0] 25)
       have HB3 := Aside0.mk (below_step HB2.out hald)
       have HC3 := Aside0.mk (Kd.C_below HC1.out hald)
       have HX3 := Aside0.mk (Kd.C_below HC2.out hald)
       have bX3 := bX.below hald
       have z0 := (hald.cell (World.block_lt_of_cell? _ _ y0)).trans y0
       have z3 := (hald.cell (World.block_lt_of_cell? _ _ y3)).trans y3
       obtain ⟨w3, e3⟩ : ∃ W, w2.alloc (.cells #[.int .u8 a.f0, .int .u64 a.f1, .string a.f2, .slice A0 a.f3.length c0] 25) = W := ⟨_, rfl⟩
       rw [e3] at bD HB3 HC3 HX3 bX3 z0 z3 ⊢
       rw [ebd] at bD ⊢
       clear e3 ebd hald p0 p1 p2 p3 x0 x1 x2 x3 y0 y1 y2 y3 bX
       obtain ⟨p0, p1, p2, p3⟩ := bX3.c4
       obtain ⟨d0, d1, d2, d3⟩ := bD.c4
       go_wp2_with fail
       go_ret2
       exact ⟨rfl, HB3.out⟩
    | false =>
     cases h21 : (a.f0 == 21) with
     | true =>
      cases hnm : (a.f2.toList == name.toList) with
      | true => unfold calledB at hcl; rw [h21, hnm] at hcl; simp at hcl
      | false =>
       clear hcl
       go_upto_region 4 with fail
       obtain ⟨bd, ebd⟩ : ∃ b, w2.heap.size = b := ⟨_, rfl⟩
       have bD := Blk.new w2 #[.int .u8 a.f0, .int .u64 a.f1, .string a.f2, .slice A0 a.f3.length c0] 25
       have hald := below_alloc (Below.refl w2.heap.size w2) (.cells #[.int .u8 a.f0, .int .u64 a.f1, .string a.f2, .slice A0 a.f3.length c0] 25)
       have HB3 := Aside0.mk (below_step HB2.out hald)
       have HC3 := Aside0.mk (Kd.C_below HC1.out hald)
       have HX3 := Aside0.mk (Kd.C_below HC2.out hald)
       have bX3 := bX.below hald
       have z0 := (hald.cell (World.block_lt_of_cell? _ _ y0)).trans y0
       have z3 := (hald.cell (World.block_lt_of_cell? _ _ y3)).trans y3
       obtain ⟨w3, e3⟩ : ∃ W, w2.alloc (.cells #[.int .u8 a.f0, .int .u64 a.f1, .string a.f2, .slice A0 a.f3.length c0] 25) = W := ⟨_, rfl⟩
       rw [e3] at bD HB3 HC3 HX3 bX3 z0 z3 ⊢
       rw [ebd] at bD ⊢
       clear e3 ebd hald p0 p1 p2 p3 x0 x1 x2 x3 y0 y1 y2 y3 bX
       obtain ⟨p0, p1, p2, p3⟩ := bX3.c4
       obtain ⟨d0, d1, d2, d3⟩ := bD.c4
       go_wp2_with fail
       go_ret2
       exact ⟨rfl, HB3.out⟩
     | false =>
      clear hcl
      go_upto_region 4 with fail
      obtain ⟨bd, ebd⟩ : ∃ b, w2.heap.size = b := ⟨_, rfl⟩
      have bD := Blk.new w2 #[.int .u8 a.f0, .int .u64 a.f1, .string a.f2, .slice A0 a.f3.length c0] 25
      have hald := below_alloc (Below.refl w2.heap.size w2) (.cells #[.int .u8 a.f0, .int .u64 a.f1, .string a.f2, .slice A0 a.f3.length c0] 25)
      have HB3 := Aside0.mk (below_step HB2.out hald)
      have HC3 := Aside0.mk (Kd.C_below HC1.out hald)
      have HX3 := Aside0.mk (Kd.C_below HC2.out hald)
      have bX3 := bX.below hald
      have z0 := (hald.cell (World.block_lt_of_cell? _ _ y0)).trans y0
      have z3 := (hald.cell (World.block_lt_of_cell? _ _ y3)).trans y3
      obtain ⟨w3, e3⟩ : ∃ W, w2.alloc (.cells #[.int .u8 a.f0, .int .u64 a.f1, .string a.f2, .slice A0 a.f3.length c0] 25) = W := ⟨_, rfl⟩
      rw [e3] at bD HB3 HC3 HX3 bX3 z0 z3 ⊢
      rw [ebd] at bD ⊢
      clear e3 ebd hald p0 p1 p2 p3 x0 x1 x2 x3 y0 y1 y2 y3 bX
      obtain ⟨p0, p1, p2, p3⟩ := bX3.c4
      obtain ⟨d0, d1, d2, d3⟩ := bD.c4
      go_wp2_with fail
      go_ret2
      exact ⟨rfl, HB3.out⟩
  ·have k25 : (v.f0 != 25) = true := by simp [h25]
   clear hr h25
   go_wp2_with fail
   go_ret2
   exact ⟨rfl, HB2.out⟩
theorem new45_yes (v : S25) (hs : itemsN v ≤ 4294967296) (ho : okV v) (code : Int) (name : ByteArray) (A : Option Addr) (c : Nat) (w : World) (ha : k25.C w A v.f3.length v.f3) (hc : v.f3.length ≤ c) {l : List S25} (h : newF v code name = some l) :
  Calls Try.prog 45 #[.agg #[.int .u8 v.f0, .int .u64 v.f1, .string v.f2, .slice A v.f3.length c], .int .u64 code, .string name] w fun e w' => ∃ g, e = .returned (.tuple #[.pointer (some ⟨g, 0, none⟩), .int .i64 0]) ∧ w.heap.size ≤ g ∧ RSB w' w.heap.size g w'.heap.size l false ∧ Below w.heap.size w w' := by
 unfold newF at h
 split at h
 case isFalse => cases h
 case isTrue hq =>
 have HQ := Aside0.mk hq
 have HLI := Aside0.mk (Option.some.inj h)
 clear h hq
 have HA := Aside0.mk ha
 have hal := below_alloc (Below.refl w.heap.size w) (.cells #[.int .u8 v.f0, .int .u64 v.f1, .string v.f2, .slice A v.f3.length c] 25)
 have HAL := Aside0.mk (Kd.C_below ha hal)
 have HB0 := Aside0.mk hal
 have BX := Aside0.mk (Blk.new w #[.int .u8 v.f0, .int .u64 v.f1, .string v.f2, .slice A v.f3.length c] 25)
 clear ha hal
 go_enter Try.func45, Try.ntmps45
 go_upto_region 1 with fail
 obtain ⟨bv, ebv⟩ : ∃ b, w.heap.size = b := ⟨_, rfl⟩
 obtain ⟨w1, e1⟩ : ∃ W, w.alloc (.cells #[.int .u8 v.f0, .int .u64 v.f1, .string v.f2, .slice A v.f3.length c] 25) = W := ⟨_, rfl⟩
 rw [e1] at BX HAL HB0 ⊢
 rw [ebv] at BX ⊢
 clear e1 ebv
 obtain ⟨p0, p1, p2, p3⟩ := BX.out.c4
 go_wp2_with fail
 refine (right18_any v hs ho A c _ HAL.out hc).mono ?_
 rintro e w2 ⟨he, hb2⟩
 have bX := BX.out.below hb2
 have HB2 := Aside0.mk (below_step HB0.out hb2)
 have HC2 := Aside0.mk (Kd.C_below HAL.out hb2)
 clear p0 p1 p2 p3 hb2 BX HAL HB0
 obtain ⟨p0, p1, p2, p3⟩ := bX.c4
 obtain ⟨hr, h25, h22, hcl⟩ := HQ.out
 have hli := HLI.out
 clear HQ HLI
 rw [hr] at he
 subst he
 obtain ⟨a, b, hab⟩ := desc_two hr h25
 obtain ⟨ad, A0, c0, e0, x0, x1, x2, x3, l0, C0⟩ := at_T25 HC2.out 0 (by omega) (by rw [hab]; simp)
 obtain ⟨ad1, A1, c1, e1, y0, y1, y2, y3, l1, C1⟩ := at_T25 HC2.out 1 (by omega) (by rw [hab]; simp)
 cases e0
 cases e1
 rw [show (0 : Int).toNat = 0 from rfl, Nat.zero_mul, add_nought] at x0 x1 x2 x3
 rw [show (1 : Int).toNat = 1 from rfl] at y0 y1 y2 y3
 have ha0 : rd_T25 v.f3 0 = a := by rw [hab]; rfl
 have hb0 : rd_T25 v.f3 1 = b := by rw [hab]; rfl
 rw [ha0] at x0 x1 x2 x3 l0 C0
 rw [hb0] at y0 y1 y2 y3 l1 C1
 have hl2 : v.f3.length = 2 := by rw [hab]; rfl
 have h0l : 0 < v.f3.length := by omega
 have h1l : 1 < v.f3.length := by omega
 have k25 : (v.f0 != 25) = false := by simp [h25]
 have HC0 := Aside0.mk C0
 have HC1 := Aside0.mk C1
 have ad0 : ad.add 0 = ad := add_nought ad
 simp only [Nat.reduceMul, Nat.reduceEqDiff, Go.Addr.add, ↓reduceIte] at y0 y1 y2 y3
 have HB0' := Aside0.mk ha0
 have HB1 := Aside0.mk hb0
 have HIB : Aside0 (itemsL b.f3 ≤ itemsN v) := ⟨by have := itemsN_eq b; rw [itemsN_eq v, hab]; simp only [itemsL]; omega⟩
 clear hab C0 C1 ha0 hb0 hl2
 rw [HB1.out] at h22 hli
 rw [HB0'.out] at hcl
 subst hli
 have h22' : (b.f0 != 22) = false := by simp [h22]
 clear hr h25 h22
 cases h6 : (a.f0 == 6) with
 | true =>
  cases hcd : (a.f1 == code) with
  | true =>
   go_upto_region 4 with fail
   obtain ⟨bd, ebd⟩ : ∃ b, w2.heap.size = b := ⟨_, rfl⟩
   have bD := Blk.new w2 #[.int .u8 a.f0, .int .u64 a.f1, .string a.f2, .slice A0 a.f3.length c0] 25
   have hald := below_alloc (Below.refl w2.heap.size w2) (.cells #[.int .u8 a.f0, .int .u64 a.f1, .string a.f2, .slice A0 a.f3.length c0] 25)
   have HB3 := Aside0.mk (below_step HB2.out hald)
   have HC3 := Aside0.mk (Kd.C_below HC1.out hald)
   have HX3 := Aside0.mk (Kd.C_below HC2.out hald)
   have bX3 := bX.below hald
   have z0 := (hald.cell (World.block_lt_of_cell? _ _ y0)).trans y0
   have z3 := (hald.cell (World.block_lt_of_cell? _ _ y3)).trans y3
   obtain ⟨w3, e3⟩ : ∃ W, w2.alloc (.cells #[.int .u8 a.f0, .int .u64 a.f1, .string a.f2, .slice A0 a.f3.length c0] 25) = W := ⟨_, rfl⟩
   rw [e3] at bD HB3 HC3 HX3 bX3 z0 z3 ⊢
   rw [ebd] at bD ⊢
   clear e3 ebd hald p0 p1 p2 p3 x0 x1 x2 x3 y0 y1 y2 y3 bX
   obtain ⟨p0, p1, p2, p3⟩ := bX3.c4
   obtain ⟨d0, d1, d2, d3⟩ := bD.c4
   clear hcl
   go_wp2_with fail
   refine (copyAll20_any b.f3 (by have := HIB.out; omega) A1 c1 _ HC3.out l1).mono ?_
   rintro e w4 ⟨A4, c4, rfl, hR4, hb4⟩
   have HR4 := Aside0.mk hR4
   have HB4 := Aside0.mk (below_step HB3.out hb4)
   have hs3 := HB3.out.size
   clear hR4 hb4 p0 p1 p2 p3 d0 d1 d2 d3 z0 z3
   go_wp2_with fail
   go_ret2
   have hal4 := below_alloc (Below.refl w4.heap.size w4) (.cells #[.slice A4 b.f3.length c4, .bool false] 68)
   refine ⟨w4.heap.size, rfl, by have := HB4.out.size; omega, ⟨A4, c4, Blk.new w4 #[.slice A4 b.f3.length c4, .bool false] 68, ?_⟩, below_step HB4.out hal4⟩
   exact Kd.R_lower (Kd.R_below (Kd.R_mono (Kd.R_bound HR4.out) (fun k hk => by have := hk.2.2.1; rw [World.size_alloc]; omega)) hal4) hs3
  | false =>
   cases h21 : (a.f0 == 21) with
   | true => simp at h6 h21; omega
   | false => unfold calledB at hcl; rw [h6, hcd, h21] at hcl; cases hcl
 | false =>
  cases h21 : (a.f0 == 21) with
  | true =>
   cases hnm : (a.f2.toList == name.toList) with
   | true =>
    go_upto_region 4 with fail
    obtain ⟨bd, ebd⟩ : ∃ b, w2.heap.size = b := ⟨_, rfl⟩
    have bD := Blk.new w2 #[.int .u8 a.f0, .int .u64 a.f1, .string a.f2, .slice A0 a.f3.length c0] 25
    have hald := below_alloc (Below.refl w2.heap.size w2) (.cells #[.int .u8 a.f0, .int .u64 a.f1, .string a.f2, .slice A0 a.f3.length c0] 25)
    have HB3 := Aside0.mk (below_step HB2.out hald)
    have HC3 := Aside0.mk (Kd.C_below HC1.out hald)
    have HX3 := Aside0.mk (Kd.C_below HC2.out hald)
    have bX3 := bX.below hald
    have z0 := (hald.cell (World.block_lt_of_cell? _ _ y0)).trans y0
    have z3 := (hald.cell (World.block_lt_of_cell? _ _ y3)).trans y3
    obtain ⟨w3, e3⟩ : ∃ W, w2.alloc (.cells #[.int .u8 a.f0, .int .u64 a.f1, .string a.f2, .slice A0 a.f3.length c0] 25) = W := ⟨_, rfl⟩
    rw [e3] at bD HB3 HC3 HX3 bX3 z0 z3 ⊢
    rw [ebd] at bD ⊢
    clear e3 ebd hald p0 p1 p2 p3 x0 x1 x2 x3 y0 y1 y2 y3 bX
    obtain ⟨p0, p1, p2, p3⟩ := bX3.c4
    obtain ⟨d0, d1, d2, d3⟩ := bD.c4
    clear hcl
    go_wp2_with fail
    refine (copyAll20_any b.f3 (by have := HIB.out; omega) A1 c1 _ HC3.out l1).mono ?_
    rintro e w4 ⟨A4, c4, rfl, hR4, hb4⟩
    have HR4 := Aside0.mk hR4
    have HB4 := Aside0.mk (below_step HB3.out hb4)
    have hs3 := HB3.out.size
    clear hR4 hb4 p0 p1 p2 p3 d0 d1 d2 d3 z0 z3
    go_wp2_with fail
    go_ret2
    have hal4 := below_alloc (Below.refl w4.heap.size w4) (.cells #[.slice A4 b.f3.length c4, .bool false] 68)
    refine ⟨w4.heap.size, rfl, by have := HB4.out.size; omega, ⟨A4, c4, Blk.new w4 #[.slice A4 b.f3.length c4, .bool false] 68, ?_⟩, below_step HB4.out hal4⟩
    exact Kd.R_lower (Kd.R_below (Kd.R_mono (Kd.R_bound HR4.out) (fun k hk => by have := hk.2.2.1; rw [World.size_alloc]; omega)) hal4) hs3
   | false => unfold calledB at hcl; rw [h6, h21, hnm] at hcl; simp at hcl
  | false => unfold calledB at hcl; rw [h6, h21] at hcl; simp at hcl
def RValPost (r : S25) (base g B : Nat) (l : List S25) (sp : Bool) (w : World) (e : Ending) (w' : World) : Prop :=
 ∃ A c, e = .returned (.agg #[.int .u8 r.f0, .int .u64 r.f1, .string r.f2, .slice A r.f3.length c]) ∧ k25.R 25 w' w.heap.size (fun _ => True) (.slice A r.f3.length c) r.f3 ∧ RSB w' base g B l sp ∧ Bg g w w'
def fitI (ks : List Int) (k : Int) (i : Nat) : Bool := (ks.length == 0) || (ks.take i).any (fun a => a == k)
theorem fitI_end (ks : List Int) (x : S25) : fitI ks x.f0 ks.length = kindsP ks x := by
 unfold fitI kindsP
 cases ks with
 | nil => rfl
 | cons a l =>
  rw [if_neg (by simp), List.take_length, show ((a :: l).length == 0) = false from rfl, Bool.false_or]
  unfold kindP
  congr 1
  funext b
  exact Bool.beq_comm
theorem fitI_zero (ks : List Int) (k : Int) : fitI ks k 0 = (ks.length == 0) := by unfold fitI; simp
theorem fitI_succ (ks : List Int) (k : Int) (i : Nat) (h : i < ks.length) : fitI ks k (i + 1) = (fitI ks k i || (rd ks (i : Int) == k)) := by
 unfold fitI
 rw [List.take_succ_eq_append_getElem h, List.any_append, Bool.or_assoc]
 congr 2
 simp only [List.any_cons, List.any_nil, Bool.or_false]
 unfold rd
 rw [Int.toNat_natCast, List.getD_eq_getElem?_getD, List.getElem?_eq_getElem h]
 rfl
def VaS (w : World) (x : S25) (A : Option Addr) (c base g B : Nat) (l : List S25) (sp : Bool) (r bx : Nat) (ks : List Int) (K : Option Addr) (wr : World) : Prop :=
 Blk wr bx #[.int .u8 x.f0, .int .u64 x.f1, .string x.f2, .slice A x.f3.length c] 25 ∧ Blk wr r #[.int .u8 0, .int .u64 0, .string ⟨#[]⟩, .slice none 0 0] 25 ∧ RSB wr base g B l sp ∧ k25.C wr A x.f3.length x.f3 ∧ Kd.C (Kd.int .u8) wr K ks.length ks ∧ Below w.heap.size w wr
theorem VaS.below {w : World} {x : S25} {A : Option Addr} {c base g B : Nat} {l : List S25} {sp : Bool} {r bx : Nat} {ks : List Int} {K : Option Addr} {wr wx : World} (h : VaS w x A c base g B l sp r bx ks K wr) (hb : Below wr.heap.size wr wx) : VaS w x A c base g B l sp r bx ks K wx :=
 ⟨h.1.below hb, h.2.1.below hb, h.2.2.1.below hb, Kd.C_below h.2.2.2.1 hb, Kd.C_below h.2.2.2.2.1 hb, below_step h.2.2.2.2.2 hb⟩
theorem rvalue82_any {w : World} {base g B : Nat} {l : List S25} {sp : Bool} (hf : RSB w base g B l sp) (hB : B ≤ w.heap.size) (hgB : g < B) (hk : ∀ x ∈ l, itemsN x ≤ 4294967296) (i : Int) (ks : List Int) (K : Option Addr) (d : Nat) (hK : Kd.C (Kd.int .u8) w K ks.length ks) (hd : ks.length ≤ d) :
  Calls Try.prog 82 #[.pointer (some ⟨g, 0, none⟩), .int .i64 i, .slice K ks.length d] w (RValPost (tellP l i (kindsP ks) (fun x => x) vNul) base g B l (sp || spoilP l i false (kindsP ks)) w) := by
 have hm : ks.length ≤ 9223372036854775807 := Kd.C_max hK
 have bR := Blk.new w #[.int .u8 0, .int .u64 0, .string ⟨#[]⟩, .slice none 0 0] 25
 have hal := below_alloc (Below.refl w.heap.size w) (.cells #[.int .u8 0, .int .u64 0, .string ⟨#[]⟩, .slice none 0 0] 25)
 have HF1 := Aside0.mk (hf.below hal)
 have HK1 := Aside0.mk (Kd.C_below hK hal)
 have HB1 := Aside0.mk hal
 have HKI := Aside0.mk hk
 clear hf hal hK hk
 go_enter Try.func82, Try.ntmps82
 go_upto_region 1 with fail
 obtain ⟨r, er⟩ : ∃ b, w.heap.size = b := ⟨_, rfl⟩
 obtain ⟨w1, e1⟩ : ∃ W, w.alloc (.cells #[.int .u8 0, .int .u64 0, .string ⟨#[]⟩, .slice none 0 0] 25) = W := ⟨_, rfl⟩
 rw [e1] at bR HF1 HK1 HB1 ⊢
 rw [er] at bR ⊢
 have hrw : w.heap.size ≤ r := by omega
 have hrw1 := bR.lt
 have hs1 := HB1.out.size
 have BR1 := Aside0.mk bR
 clear e1 er bR
 cases h : atF l i with
 | none =>
  have HT := Aside0.mk (tell_none h (kindsP ks) (fun x => x) vNul)
  have HS := Aside0.mk (spoil_none h false (kindsP ks))
  have HAT := Aside0.mk h
  clear h
  go_wp2_with fail
  refine (take105_none HF1.out (by omega) hgB i false HAT.out).mono ?_
  rintro e w2 ⟨rfl, hfs, hbg⟩
  have hal2 := below_alloc (Below.refl w2.heap.size w2) (.cells #[.int .u8 0, .int .u64 0, .string ⟨#[]⟩, .slice none 0 0] 25)
  have HF2 := Aside0.mk (hfs.below hal2)
  have HB2 := Aside0.mk (((Bg.of (g := g) HB1.out).trans hbg).trans (Bg.of hal2))
  have BR2 := Aside0.mk ((BR1.out.bg hbg (by omega)).below hal2)
  clear hfs hbg hal2
  go_wp2_with fail
  refine (rnull106_any _).mono ?_
  rintro e w3 ⟨rfl, hb3⟩
  have HF3 := Aside0.mk (HF2.out.below hb3)
  have HB3 := Aside0.mk (HB2.out.trans (Bg.of hb3))
  have BR3 := Aside0.mk (BR2.out.below hb3)
  obtain ⟨q0, q1, q2, q3⟩ := BR3.out.c4
  have f3 := BR3.out.fz
  clear hb3
  go_wp2_with fail
  refine bodyPost_ret (results_cell_row rfl _ _ r 25 #[.int .u8 1, .int .u64 0, .string ⟨#[]⟩, .slice none 0 0] (0, 0) _ rfl (put4_blk BR3.out _ _ _ _) Try.underlying25 rfl (by kernel_rfl)) rfl ?_
  refine ⟨none, 0, by rw [HT.out]; rfl, by rw [HT.out]; exact Kd.R_nil _ _ _ _ _, ?_, ?_⟩
  ·rw [HS.out]
   exact put4_rsb HF3.out (by omega) hgB _ _ _ _
  ·exact put4_bg HB3.out hrw _ _ _ _
 | some x =>
  have HT0 := Aside0.mk (tell_some h (kindsP ks) (fun x => x) vNul)
  have HS0 := Aside0.mk (spoil_some h false (kindsP ks))
  have hix := HKI.out x (atF_mem h)
  have HAT := Aside0.mk h
  clear h
  go_wp2_with fail
  refine (take105_some HF1.out (by omega) hgB i false HAT.out).mono ?_
  rintro e w2 ⟨A, c, rfl, hb2, hl2, hC2⟩
  have hal2 := below_alloc (Below.refl w2.heap.size w2) (.cells #[.int .u8 x.f0, .int .u64 x.f1, .string x.f2, .slice A x.f3.length c] 25)
  have hb22 := below_step hb2 hal2
  have HV2 : Aside0 (VaS w x A c base g B l sp r w2.heap.size ks K (w2.alloc (.cells #[.int .u8 x.f0, .int .u64 x.f1, .string x.f2, .slice A x.f3.length c] 25))) := ⟨Blk.new w2 #[.int .u8 x.f0, .int .u64 x.f1, .string x.f2, .slice A x.f3.length c] 25, BR1.out.below hb22, HF1.out.below hb22, Kd.C_below hC2 hal2, Kd.C_below HK1.out hb22, below_step HB1.out hb22⟩
  have hbx : w.heap.size ≤ w2.heap.size := by have := hb2.size; omega
  clear hb2 hal2 hb22 hC2 BR1 HF1 HK1 HB1
  go_upto_region 2 with fail
  obtain ⟨bx, ebx⟩ : ∃ b, w2.heap.size = b := ⟨_, rfl⟩
  obtain ⟨w3, e3⟩ : ∃ W, w2.alloc (.cells #[.int .u8 x.f0, .int .u64 x.f1, .string x.f2, .slice A x.f3.length c] 25) = W := ⟨_, rfl⟩
  rw [e3, ebx] at HV2
  rw [e3, ebx]
  rw [ebx] at hbx
  clear e3 ebx
  obtain ⟨f0, ef0⟩ : ∃ t, ((ks.length : Int) == 0) = t := ⟨_, rfl⟩
  have EF0 : Aside0 (f0 = fitI ks x.f0 0) := ⟨by rw [fitI_zero, ← ef0]; rw [Bool.eq_iff_iff]; simp⟩
  go_upto_region 5 with fail
  clear ef0
  go_wp2_with fail
  go_loopg [9, 10] ks.length (fun gk v9 v10 wr => ∃ j : Nat, v9 = .bool (fitI ks x.f0 j) ∧ v10 = .int .i64 (j : Int) ∧ Aside0 (j ≤ ks.length ∧ gk = ks.length - j) ∧ Aside0 (VaS w x A c base g B l sp r bx ks K wr))
  case atStart => exact ⟨0, by rw [EF0.out], rfl, ⟨by omega, rfl⟩, HV2⟩
  case round =>
   obtain ⟨j, rfl, rfl, HI, HVi⟩ := hrel
   obtain ⟨hj, hgk⟩ := HI.out
   have HG := Aside0.mk hgk
   clear HI hgk
   by_cases hlt : j < ks.length
   ·obtain ⟨ad, eK, hx⟩ := Kd.at_int HVi.out.2.2.2.2.1 (j : Int) (by omega) (by omega)
    subst eK
    rw [Int.toNat_natCast] at hx
    have HFS := Aside0.mk (fitI_succ ks x.f0 j hlt)
    obtain ⟨fj, efj⟩ : ∃ t, fitI ks x.f0 j = t := ⟨_, rfl⟩
    rw [efj] at HFS ⊢
    clear efj
    obtain ⟨y, ey⟩ : ∃ y, rd ks (j : Int) = y := ⟨_, rfl⟩
    rw [ey] at hx HFS
    clear ey
    obtain ⟨p0, p1, p2, p3⟩ := HVi.out.1.c4
    have hlt2 : (j : Int) < (ks.length : Int) := by omega
    have hj0 : (0 : Int) ≤ (j : Int) := by omega
    go_wp2_with fail
    cases fj with
    | true =>
     go_quiet (fail)
     have HVd := Aside0.mk (HVi.out.below (below_drewN (Below.refl _ _) nq))
     clear hx p0 p1 p2 p3
     generalize wr.drewN nq = wd at HVd ⊢
     go_wp2_with fail
     go_roundg (ks.length - (j + 1))
     case measure => rw [HG.out]; omega
     case rel => exact ⟨j + 1, by rw [HFS.out]; rfl, by go_num, ⟨by omega, rfl⟩, HVd⟩
    | false =>
     go_quiet (fail)
     have HVd := Aside0.mk (HVi.out.below (below_drewN (Below.refl _ _) nq))
     clear hx p0 p1 p2 p3
     generalize wr.drewN nq = wd at HVd ⊢
     go_wp2_with fail
     go_roundg (ks.length - (j + 1))
     case measure => rw [HG.out]; omega
     case rel => exact ⟨j + 1, by rw [HFS.out]; rfl, by go_num, ⟨by omega, rfl⟩, HVd⟩
   ·obtain rfl : j = ks.length := by omega
    rw [fitI_end]
    obtain ⟨p0, p1, p2, p3⟩ := HVi.out.1.c4
    cases hP : kindsP ks x with
    | true =>
     have HT : Aside0 (tellP l i (kindsP ks) (fun x => x) vNul = x) := ⟨by rw [HT0.out, hP]; rfl⟩
     have HS : Aside0 (spoilP l i false (kindsP ks) = false) := ⟨by rw [HS0.out, hP]; rfl⟩
     clear hP
     go_wp2_with fail
     refine (copy16_any x hix A c _ HVi.out.2.2.2.1 hl2).mono ?_
     rintro e w4 ⟨A4, c4, rfl, hm4⟩
     have HM := Aside0.mk hm4
     have HV4 := Aside0.mk (HVi.out.below hm4.2)
     have hr4 := HVi.out.2.1.lt
     have hsr := HVi.out.2.2.2.2.2.size
     obtain ⟨q0, q1, q2, q3⟩ := HV4.out.2.1.c4
     have f3 := HV4.out.2.1.fz
     clear hm4 p0 p1 p2 p3
     go_wp2_with fail
     refine bodyPost_ret (results_cell_row rfl _ _ r 25 #[.int .u8 x.f0, .int .u64 x.f1, .string x.f2, .slice A4 x.f3.length c4] (0, 0) _ rfl (put4_blk HV4.out.2.1 _ _ _ _) Try.underlying25 rfl (by kernel_rfl)) rfl ?_
     refine ⟨A4, c4, by rw [HT.out], ?_, ?_, ?_⟩
     ·rw [HT.out]
      exact put4_R HM.out.1 hsr hr4 _ _ _ _
     ·rw [HS.out, Bool.or_false]
      exact put4_rsb HV4.out.2.2.1 (by omega) hgB _ _ _ _
     ·exact put4_bg (Bg.of HV4.out.2.2.2.2.2) hrw _ _ _ _
    | false =>
     have HT : Aside0 (tellP l i (kindsP ks) (fun x => x) vNul = vNul) := ⟨by rw [HT0.out, hP]; rfl⟩
     have HS : Aside0 (spoilP l i false (kindsP ks) = true) := ⟨by rw [HS0.out, hP]; rfl⟩
     clear hP p0 p1 p2 p3
     have hF3 := HVi.out.2.2.1
     obtain ⟨A', c', hG, hR⟩ := hF3
     obtain ⟨p0, p1⟩ := hG.c2
     have fz := hG.fz
     clear hG hR
     go_upto_region 11 with fail
     have HF4 := Aside0.mk (HVi.out.2.2.1.set true)
     have BR4 := Aside0.mk (HVi.out.2.1.far (p := ⟨g, 1, none⟩) (show r ≠ g by omega) (.bool true))
     have HB4 := Aside0.mk ((Bg.of (g := g) HVi.out.2.2.2.2.2).set 1 (.bool true))
     obtain ⟨w4, e4⟩ : ∃ W, wr.setCell ⟨g, 1, none⟩ (.bool true) = W := ⟨_, rfl⟩
     rw [e4] at HF4 BR4 HB4 ⊢
     clear e4 p0 p1 fz
     go_wp2_with fail
     refine (rnull106_any _).mono ?_
     rintro e w5 ⟨rfl, hb5⟩
     have HF5 := Aside0.mk (HF4.out.below hb5)
     have HB5 := Aside0.mk (HB4.out.trans (Bg.of hb5))
     have BR5 := Aside0.mk (BR4.out.below hb5)
     obtain ⟨q0, q1, q2, q3⟩ := BR5.out.c4
     have f3 := BR5.out.fz
     clear hb5
     go_wp2_with fail
     refine bodyPost_ret (results_cell_row rfl _ _ r 25 #[.int .u8 1, .int .u64 0, .string ⟨#[]⟩, .slice none 0 0] (0, 0) _ rfl (put4_blk BR5.out _ _ _ _) Try.underlying25 rfl (by kernel_rfl)) rfl ?_
     refine ⟨none, 0, by rw [HT.out]; rfl, by rw [HT.out]; exact Kd.R_nil _ _ _ _ _, ?_, ?_⟩
     ·rw [HS.out, Bool.or_true]
      exact put4_rsb HF5.out (by omega) hgB _ _ _ _
     ·exact put4_bg HB5.out hrw _ _ _ _
end Go.Proofs.Ytdilbnggedidnaa.PVal
namespace Go.Proofs.Ytdilbnggedidnaa.PVal
open Go.RowKit Go.Shelf Go.Proofs.YtdilbnggedidnaaW.PrintWords Go.Proofs.YtdilbnggedidnaaW.PrintLast
set_option linter.unusedVariables false
set_option linter.unusedSimpArgs false
def RStrsPost (r : List ByteArray) (base g B : Nat) (l : List S25) (sp : Bool) (w : World) (e : Ending) (w' : World) : Prop :=
 ∃ A' c', e = .returned (.slice A' r.length c') ∧ Kd.string.R 9 w' w.heap.size (fun _ => True) (.slice A' r.length c') r ∧ RSB w' base g B l sp ∧ Bg g w w'
theorem C_u8_2 {w : World} {b : Nat} {k m : Int} (h : Blk w b #[.int .u8 k, .int .u8 m] 5) : Kd.C (Kd.int .u8) w (some ⟨b, 0, none⟩) 2 [k, m] := by
 refine ⟨rfl, by omega, fun _ => ⟨_, rfl, fun j p hj => ?_⟩⟩
 match j, hj with
 | 0, hj =>
  cases hj
  refine ⟨[.int .u8 k], rfl, rfl, fun i u hi => ?_⟩
  match i, hi with
  | 0, hi =>
   cases hi
   exact (blk_cell h 0).trans rfl
 | 1, hj =>
  cases hj
  refine ⟨[.int .u8 m], rfl, rfl, fun i u hi => ?_⟩
  match i, hi with
  | 0, hi =>
   cases hi
   exact (blk_cell h 1).trans rfl
 | j + 2, hj => simp at hj
theorem sym_kids {x : S25} (h : mayB x = true) (hk : x.f0 = 21) : x.f3 = [] := by
 rw [mayB_eq] at h
 simp only [Bool.and_eq_true] at h
 have hf := h.2.2
 unfold famB at hf
 rw [if_neg (by omega), if_neg (by omega), if_neg (by omega), if_neg (by omega)] at hf
 simpa using hf
theorem kind2 (x : S25) : kindsP [21, 24] x = ((x.f0 == 21) || (x.f0 == 24)) := by
 unfold kindsP kindP
 rw [if_neg (by simp)]
 simp
def SyR (w : World) (v : S25) (A : Option Addr) (c base g B : Nat) (l : List S25) (sp : Bool) (bx : Nat) (wr : World) : Prop :=
 Blk wr bx #[.int .u8 v.f0, .int .u64 v.f1, .string v.f2, .slice A v.f3.length c] 25 ∧ RSB wr base g B l sp ∧ k25.C wr A v.f3.length v.f3 ∧ Bg g w wr
theorem SyR.below {w : World} {v : S25} {A : Option Addr} {c base g B : Nat} {l : List S25} {sp : Bool} {bx : Nat} {wr wx : World} (h : SyR w v A c base g B l sp bx wr) (hb : Below wr.heap.size wr wx) : SyR w v A c base g B l sp bx wx :=
 ⟨h.1.below hb, h.2.1.below hb, Kd.C_below h.2.2.1 hb, h.2.2.2.trans (Bg.of hb)⟩
theorem rsymbols83_any {w : World} {base g B : Nat} {l : List S25} {sp : Bool} (hf : RSB w base g B l sp) (hB : B ≤ w.heap.size) (hgB : g < B) (hk : ∀ x ∈ l, itemsN x ≤ 4294967296) (hmy : ∀ x ∈ l, mayB x = true) (i : Int) :
  Calls Try.prog 83 #[.pointer (some ⟨g, 0, none⟩), .int .i64 i] w (RStrsPost (tellP l i symP symL []) base g B l (sp || spoilP l i false symP) w) := by
 have HF := Aside0.mk hf
 have HKI := Aside0.mk hk
 have HMY := Aside0.mk hmy
 clear hf hk hmy
 go_enter Try.func83, Try.ntmps83
 go_wp2_with fail
 have bK := Blk.new w #[.int .u8 21, .int .u8 24] 5
 have hal := below_alloc (Below.refl w.heap.size w) (.cells #[.int .u8 21, .int .u8 24] 5)
 have HCK : Aside0 (Kd.C (Kd.int .u8) (w.alloc (.cells #[.int .u8 21, .int .u8 24] 5)) (some ⟨w.heap.size, 0, none⟩) [(21 : Int), 24].length [21, 24]) := ⟨C_u8_2 bK⟩
 have HF1 := Aside0.mk (HF.out.below hal)
 have HB1 := Aside0.mk hal
 have hs1 := hal.size
 clear bK hal
 refine (rvalue82_any HF1.out (by omega) hgB HKI.out i [21, 24] _ 2 HCK.out (by decide)).mono ?_
 rintro e w2 hp
 cases h : atF l i with
 | none =>
  rw [tell_none h, spoil_none h] at hp
  have HT := Aside0.mk (tell_none h symP symL [])
  have HS := Aside0.mk (spoil_none h false symP)
  clear h
  obtain ⟨A, c, he, hR2, hfs, hbg⟩ := hp
  replace he : e = .returned (.agg #[.int .u8 1, .int .u64 0, .string ⟨#[]⟩, .slice A 0 c]) := he
  subst he
  have hal2 := below_alloc (Below.refl w2.heap.size w2) (.cells #[.int .u8 1, .int .u64 0, .string ⟨#[]⟩, .slice A 0 c] 25)
  have HF3 := Aside0.mk (hfs.below hal2)
  have HB3 := Aside0.mk (((Bg.of (g := g) HB1.out).trans hbg).trans (Bg.of hal2))
  have bX := Blk.new w2 #[.int .u8 1, .int .u64 0, .string ⟨#[]⟩, .slice A 0 c] 25
  clear hR2 hfs hbg hal2
  go_upto_region 2 with fail
  obtain ⟨w3, e3⟩ : ∃ W, w2.alloc (.cells #[.int .u8 1, .int .u64 0, .string ⟨#[]⟩, .slice A 0 c] 25) = W := ⟨_, rfl⟩
  obtain ⟨bx, ebx⟩ : ∃ b, w2.heap.size = b := ⟨_, rfl⟩
  rw [e3] at HF3 HB3 bX ⊢
  rw [ebx] at bX ⊢
  clear e3 ebx
  obtain ⟨p0, p1, p2, p3⟩ := bX.c4
  go_wp2_with fail
  go_loopg [6, 7] 0 (fun gk v6 v7 wr => v6 = .slice none 0 0 ∧ v7 = .int .i64 0 ∧ w3 = wr)
  case atStart => exact ⟨rfl, rfl, rfl⟩
  case round =>
   obtain ⟨rfl, rfl, rfl⟩ := hrel
   go_wp2_with fail
   go_ret
   exact ⟨none, 0, by rw [HT.out]; rfl, by rw [HT.out]; exact Kd.R_nil _ _ _ _ _, by rw [HS.out]; exact HF3.out, HB3.out⟩
 | some x =>
  rw [tell_some h, spoil_some h, kind2] at hp
  have HT0 := Aside0.mk (tell_some h symP symL [])
  have HS0 := Aside0.mk (spoil_some h false symP)
  have hxm := HMY.out x (atF_mem h)
  have hix := HKI.out x (atF_mem h)
  clear h
  by_cases h21 : x.f0 = 21
  ·have hx3 := sym_kids hxm h21
   have HX3 := Aside0.mk hx3
   have HP : Aside0 (symP x = true) := ⟨by unfold symP; simp [h21]⟩
   have HL : Aside0 (symL x = [x.f2]) := ⟨if_pos h21⟩
   rw [show ((x.f0 == 21) || (x.f0 == 24)) = true by simp [h21]] at hp
   rw [if_pos rfl] at hp
   have h21' : (x.f0 == 21) = true := by simp [h21]
   clear h21 hx3 hxm
   obtain ⟨A, c, rfl, hR2, hfs, hbg⟩ := hp
   have hal2 := below_alloc (Below.refl w2.heap.size w2) (.cells #[.int .u8 x.f0, .int .u64 x.f1, .string x.f2, .slice A x.f3.length c] 25)
   have HV3 : Aside0 (SyR w x A c base g B l (sp || !true) w2.heap.size (w2.alloc (.cells #[.int .u8 x.f0, .int .u64 x.f1, .string x.f2, .slice A x.f3.length c] 25))) := ⟨Blk.new w2 #[.int .u8 x.f0, .int .u64 x.f1, .string x.f2, .slice A x.f3.length c] 25, hfs.below hal2, Kd.C_below (Kd.R_reads' hR2).2.2 hal2, ((Bg.of (g := g) HB1.out).trans hbg).trans (Bg.of hal2)⟩
   have hw3 : w.heap.size ≤ (w2.alloc (.cells #[.int .u8 x.f0, .int .u64 x.f1, .string x.f2, .slice A x.f3.length c] 25)).heap.size := by have := hbg.size; rw [World.size_alloc]; omega
   clear hR2 hfs hbg hal2
   go_upto_region 2 with fail
   obtain ⟨w3, e3⟩ : ∃ W, w2.alloc (.cells #[.int .u8 x.f0, .int .u64 x.f1, .string x.f2, .slice A x.f3.length c] 25) = W := ⟨_, rfl⟩
   obtain ⟨bx, ebx⟩ : ∃ b, w2.heap.size = b := ⟨_, rfl⟩
   rw [e3, ebx] at HV3
   rw [e3] at hw3 ⊢
   rw [ebx]
   clear e3 ebx
   obtain ⟨p0, p1, p2, p3⟩ := HV3.out.1.c4
   go_upto_region 4 with fail
   have HO : Aside0 (Kd.string.R 9 w3 w3.heap.size (fun _ => True) (.slice none 0 0) []) := ⟨Kd.R_nil _ _ _ _ _⟩
   have HW := Aside0.mk (Below.refl w3.heap.size w3)
   have HLN : Aside0 (([] : List ByteArray).length = 0) := ⟨rfl⟩
   go_wp2_with (at_builtin; refine Kd.R_append Kd.string (w0 := w3) w3.heap.size rfl (.tmp 15) (.tmp 18) 46 9 _ 16 rfl Try.underlying46 info9v rfl (by decide) (by decide) (.slice none 0 0) ([]) (x.f2) [.string (x.f2)] (fun _ => True) (fun k => True ∧ some k ≠ (Value.slice none 0 0).ownBlock) rfl rfl rfl (fun _ h => h) (fun _ _ => trivial) HO.out HW.out HW.out.size (by rw [HLN.out]; omega) ?_; intro v1 w4 hRq hBq hGq hAq)
   have HV4 := Aside0.mk (HV3.out.below hBq)
   obtain ⟨A3, c3, rfl⟩ := Kd.R_slice hRq
   have HR4 := Aside0.mk hRq
   have HB4 := Aside0.mk hBq
   clear p0 p1 p2 p3 hRq hBq hGq hAq
   obtain ⟨p0, p1, p2, p3⟩ := HV4.out.1.c4
   go_wp2_with fail
   go_loopg [6, 7] 0 (fun gk v6 v7 wr => v6 = .slice A3 1 c3 ∧ v7 = .int .i64 0 ∧ w4 = wr)
   case atStart => exact ⟨rfl, rfl, rfl⟩
   case round =>
    obtain ⟨rfl, rfl, rfl⟩ := hrel
    have hl0 : x.f3.length = 0 := by rw [HX3.out]; rfl
    go_wp2_with fail
    go_ret
    refine ⟨A3, c3, by rw [HT0.out, HP.out, if_pos rfl, HL.out]; rfl, ?_, ?_, HV4.out.2.2.2⟩
    ·rw [HT0.out, HP.out, if_pos rfl, HL.out]
     exact Kd.R_lower HR4.out hw3
    ·rw [HS0.out, HP.out]
     exact HV4.out.2.1
  by_cases h24 : x.f0 = 24
  ·have HL : Aside0 (symL x = x.f3.map (·.f2)) := ⟨if_neg h21⟩
   have HP : Aside0 (symP x = !(x.f3.any fun k => !(k.f0 == 21))) := ⟨by unfold symP; simp [h24]⟩
   rw [show ((x.f0 == 21) || (x.f0 == 24)) = true by simp [h24]] at hp
   rw [if_pos rfl] at hp
   have h21' : (x.f0 == 21) = false := by simp [h21]
   have hxl : x.f3.length ≤ 4294967296 := by have := itemsN_eq x; have := itemsL_length x.f3; omega
   clear h21 h24 hxm
   obtain ⟨A, c, rfl, hR2, hfs, hbg⟩ := hp
   have hal2 := below_alloc (Below.refl w2.heap.size w2) (.cells #[.int .u8 x.f0, .int .u64 x.f1, .string x.f2, .slice A x.f3.length c] 25)
   have HV3 : Aside0 (SyR w x A c base g B l (sp || !true) w2.heap.size (w2.alloc (.cells #[.int .u8 x.f0, .int .u64 x.f1, .string x.f2, .slice A x.f3.length c] 25))) := ⟨Blk.new w2 #[.int .u8 x.f0, .int .u64 x.f1, .string x.f2, .slice A x.f3.length c] 25, hfs.below hal2, Kd.C_below (Kd.R_reads' hR2).2.2 hal2, ((Bg.of (g := g) HB1.out).trans hbg).trans (Bg.of hal2)⟩
   have hw3 : w.heap.size ≤ (w2.alloc (.cells #[.int .u8 x.f0, .int .u64 x.f1, .string x.f2, .slice A x.f3.length c] 25)).heap.size := by have := hbg.size; rw [World.size_alloc]; omega
   clear hR2 hfs hbg hal2
   go_upto_region 2 with fail
   obtain ⟨w3, e3⟩ : ∃ W, w2.alloc (.cells #[.int .u8 x.f0, .int .u64 x.f1, .string x.f2, .slice A x.f3.length c] 25) = W := ⟨_, rfl⟩
   obtain ⟨bx, ebx⟩ : ∃ b, w2.heap.size = b := ⟨_, rfl⟩
   rw [e3, ebx] at HV3
   rw [e3] at hw3 ⊢
   rw [ebx]
   clear e3 ebx
   obtain ⟨p0, p1, p2, p3⟩ := HV3.out.1.c4
   go_wp2_with fail
   clear p0 p1 p2 p3
   go_loopg [6, 7] x.f3.length (fun gk v6 v7 wr => ∃ (j : Nat) (A2 : Option Addr) (c2 : Nat), v6 = .slice A2 j c2 ∧ v7 = .int .i64 (j : Int) ∧ Aside0 (j ≤ x.f3.length ∧ gk = x.f3.length - j ∧ (∀ y ∈ x.f3.take j, y.f0 = 21)) ∧ Aside0 (Kd.string.R 9 wr w3.heap.size (fun _ => True) (.slice A2 j c2) ((x.f3.take j).map (·.f2))) ∧ Aside0 (Below w3.heap.size w3 wr))
   case atStart => exact ⟨0, none, 0, rfl, rfl, ⟨by omega, rfl, by simp⟩, ⟨Kd.R_nil _ _ _ _ _⟩, ⟨Below.refl _ _⟩⟩
   case round =>
    obtain ⟨j, A2, c2, rfl, rfl, HI, HO, HW⟩ := hrel
    obtain ⟨hj, hgk, hall⟩ := HI.out
    have HG := Aside0.mk hgk
    have HALL := Aside0.mk hall
    clear HI hgk hall
    have HVr := Aside0.mk (HV3.out.below HW.out)
    obtain ⟨p0, p1, p2, p3⟩ := HVr.out.1.c4
    by_cases hlt : j < x.f3.length
    ·obtain ⟨ad1, A1, c1, e1, x0, x1, x2, x3, _, _⟩ := at_T25 HVr.out.2.2.1 (j : Int) (by omega) (by omega)
     cases e1
     rw [Int.toNat_natCast] at x0 x1 x2 x3
     have htk := take_rd (xs := x.f3) (i := (j : Int)) (by omega) (by omega)
     rw [show ((j : Int) + 1).toNat = j + 1 by omega, Int.toNat_natCast] at htk
     have HTK := Aside0.mk htk
     have hmem := rd_mem (xs := x.f3) (i := (j : Int)) (by omega) (by omega)
     obtain ⟨y, ey⟩ : ∃ y, rd_T25 x.f3 (j : Int) = y := ⟨_, rfl⟩
     rw [ey] at x0 x1 x2 x3 HTK hmem
     have HMEM := Aside0.mk hmem
     have hlt2 : (j : Int) < (x.f3.length : Int) := by omega
     have hj0 : (0 : Int) ≤ (j : Int) := by omega
     clear ey htk hmem
     cases hy : (y.f0 != 21) with
     | true =>
      have HP2 : Aside0 (symP x = false) := ⟨by
       rw [HP.out, Bool.not_eq_false']
       exact List.any_eq_true.2 ⟨y, HMEM.out, by simpa using hy⟩⟩
      have hF3 := HVr.out.2.1
      obtain ⟨A', c', hG, hR⟩ := hF3
      obtain ⟨g0, g1⟩ := hG.c2
      have fz := hG.fz
      clear hG hR
      go_wp2_with fail
      go_ret
      refine ⟨none, 0, by rw [HT0.out, HP2.out]; rfl, by rw [HT0.out, HP2.out]; exact Kd.R_nil _ _ _ _ _, ?_, HVr.out.2.2.2.set 1 _⟩
      rw [HS0.out, HP2.out]
      show RSB _ base g B l (sp || true)
      rw [Bool.or_true]
      exact HVr.out.2.1.set true
     | false =>
      have hy21 : y.f0 = 21 := by simpa using hy
      have HY := Aside0.mk hy21
      have HLN : Aside0 (((x.f3.take j).map (·.f2)).length = j) := ⟨by rw [List.length_map, List.length_take]; omega⟩
      clear hy21
      go_wp2_with (at_builtin; refine Kd.R_append Kd.string (w0 := w3) w3.heap.size rfl (.tmp 37) (.tmp 44) 46 9 _ 16 rfl Try.underlying46 info9v rfl (by decide) (by decide) (.slice A2 j c2) ((x.f3.take j).map (·.f2)) (y.f2) [.string (y.f2)] (fun _ => True) (fun k => True ∧ some k ≠ (Value.slice A2 j c2).ownBlock) rfl rfl rfl (fun _ h => h) (fun _ _ => trivial) HO.out HW.out HW.out.size (by rw [HLN.out]; omega) ?_; intro v1 w4 hRq hBq hGq hAq)
      rw [← List.map_singleton (f := fun z : S25 => z.f2), ← List.map_append, ← HTK.out] at hRq
      obtain ⟨A3, c3, rfl⟩ := Kd.R_slice hRq
      have hln2 : ((x.f3.take (j + 1)).map (·.f2)).length = j + 1 := by rw [List.length_map, List.length_take]; omega
      rw [hln2] at hRq ⊢
      have HR5 := Aside0.mk hRq
      have HB5 := Aside0.mk hBq
      have HAL2 : Aside0 (∀ z ∈ x.f3.take (j + 1), z.f0 = 21) := ⟨fun z hz => by
       rw [HTK.out] at hz
       rcases List.mem_append.1 hz with h | h
       ·exact HALL.out z h
       ·rw [List.mem_singleton.1 h]; exact HY.out⟩
      clear hRq hBq hGq hAq hln2 p0 p1 p2 p3 x0 x1 x2 x3
      go_wp2_with fail
      go_roundg (x.f3.length - (j + 1))
      case measure => rw [HG.out]; omega
      case rel => exact ⟨j + 1, A3, c3, rfl, by go_num, ⟨by omega, rfl, HAL2.out⟩, HR5, HB5⟩
    ·obtain rfl : j = x.f3.length := by omega
     have hall := HALL.out
     rw [List.take_length] at hall
     have hO := HO.out
     rw [List.take_length] at hO
     have HO3 := Aside0.mk hO
     have HP2 : Aside0 (symP x = true) := ⟨by
      rw [HP.out, Bool.not_eq_true', List.any_eq_false]
      intro z hz
      simp [hall z hz]⟩
     clear hall hO HO
     go_wp2_with fail
     go_ret
     refine ⟨A2, c2, by rw [HT0.out, HP2.out, if_pos rfl, HL.out]; simp, ?_, ?_, HVr.out.2.2.2⟩
     ·rw [HT0.out, HP2.out, if_pos rfl, HL.out, List.length_map]
      exact Kd.R_lower HO3.out hw3
     ·rw [HS0.out, HP2.out]
      show RSB _ base g B l (sp || false)
      rw [Bool.or_false]
      have := HVr.out.2.1
      rw [show (sp || !true) = sp from Bool.or_false sp] at this
      exact this
  ·have HT : Aside0 (tellP l i symP symL [] = []) := ⟨by rw [HT0.out, show symP x = false by unfold symP; simp [h21, h24]]; rfl⟩
   have HS : Aside0 (spoilP l i false symP = true) := ⟨by rw [HS0.out, show symP x = false by unfold symP; simp [h21, h24]]; rfl⟩
   rw [show ((x.f0 == 21) || (x.f0 == 24)) = false by simp [h21, h24]] at hp
   rw [if_neg (by decide)] at hp
   clear h21 h24 hxm HT0 HS0
   obtain ⟨A, c, he, hR2, hfs, hbg⟩ := hp
   replace he : e = .returned (.agg #[.int .u8 1, .int .u64 0, .string ⟨#[]⟩, .slice A 0 c]) := he
   subst he
   have hal2 := below_alloc (Below.refl w2.heap.size w2) (.cells #[.int .u8 1, .int .u64 0, .string ⟨#[]⟩, .slice A 0 c] 25)
   have HF3 := Aside0.mk (hfs.below hal2)
   have HB3 := Aside0.mk (((Bg.of (g := g) HB1.out).trans hbg).trans (Bg.of hal2))
   have bX := Blk.new w2 #[.int .u8 1, .int .u64 0, .string ⟨#[]⟩, .slice A 0 c] 25
   clear hR2 hfs hbg hal2
   go_upto_region 2 with fail
   obtain ⟨w3, e3⟩ : ∃ W, w2.alloc (.cells #[.int .u8 1, .int .u64 0, .string ⟨#[]⟩, .slice A 0 c] 25) = W := ⟨_, rfl⟩
   obtain ⟨bx, ebx⟩ : ∃ b, w2.heap.size = b := ⟨_, rfl⟩
   rw [e3] at HF3 HB3 bX ⊢
   rw [ebx] at bX ⊢
   clear e3 ebx
   obtain ⟨p0, p1, p2, p3⟩ := bX.c4
   go_wp2_with fail
   go_loopg [6, 7] 0 (fun gk v6 v7 wr => v6 = .slice none 0 0 ∧ v7 = .int .i64 0 ∧ w3 = wr)
   case atStart => exact ⟨rfl, rfl, rfl⟩
   case round =>
    obtain ⟨rfl, rfl, rfl⟩ := hrel
    go_wp2_with fail
    go_ret
    exact ⟨none, 0, by rw [HT.out]; rfl, by rw [HT.out]; exact Kd.R_nil _ _ _ _ _, by rw [HS.out]; exact HF3.out, HB3.out⟩
end Go.Proofs.Ytdilbnggedidnaa.PVal
namespace Go.Proofs.Ytdilbnggedidnaa.PVal
open Go.RowKit Go.Shelf Go.Proofs.YtdilbnggedidnaaW.PrintWords Go.Proofs.YtdilbnggedidnaaW.PrintLast
set_option linter.unusedVariables false
set_option linter.unusedSimpArgs false
structure Told where
 n : Int
 s : ByteArray
 v : S25
 l : List ByteArray
 is : Bool
 e : Int
def zTold : Told := ⟨0, ⟨#[]⟩, zVal, [], false, 0⟩
def Told.cells (t : Told) (Av : Option Addr) (cv : Nat) (Al : Option Addr) (cl : Nat) : Array Value := #[.int .u64 t.n, .string t.s, .int .u8 t.v.f0, .int .u64 t.v.f1, .string t.v.f2, .slice Av t.v.f3.length cv, .slice Al t.l.length cl, .bool t.is, .int .i64 t.e]
def tellA (l : List S25) (sp : Bool) (what at_ kind : Int) (none_ : Int) (ks : List Int) : Told :=
 if what = 0 then ⟨0, ⟨#[]⟩, zVal, [], (atF l at_).isSome, 0⟩
 else if what = 1 then ⟨tellP l at_ (kindP [kind]) (fun x => x.f1) none_, ⟨#[]⟩, zVal, [], false, 0⟩
 else if what = 2 then ⟨0, ⟨#[]⟩, zVal, [], (tellP l at_ (kindP [2]) (fun x => x.f1) 0 == 1), 0⟩
 else if what = 3 then ⟨0, tellP l at_ (kindP [kind]) (fun x => x.f2) ⟨#[]⟩, zVal, [], false, 0⟩
 else if what = 4 then ⟨0, ⟨#[]⟩, tellP l at_ (kindsP ks) (fun x => x) vNul, [], false, 0⟩
 else if what = 5 then ⟨0, ⟨#[]⟩, zVal, tellP l at_ symP symL [], false, 0⟩
 else if what = 6 then zTold
 else if what = 7 then ⟨0, ⟨#[]⟩, zVal, [], false, doneN l sp at_⟩
 else zTold
def spoilA (l : List S25) (sp : Bool) (what at_ kind : Int) (must : Bool) (ks : List Int) : Bool :=
 if what = 0 then sp
 else if what = 1 then sp || spoilP l at_ must (kindP [kind])
 else if what = 2 then sp || spoilP l at_ must (kindP [2])
 else if what = 3 then sp || spoilP l at_ must (kindP [kind])
 else if what = 4 then sp || spoilP l at_ false (kindsP ks)
 else if what = 5 then sp || spoilP l at_ false symP
 else if what = 6 then true
 else sp
def ToldPost (t : Told) (base g : Nat) (l : List S25) (sp : Bool) (w : World) (e : Ending) (w' : World) : Prop :=
 ∃ Av cv Al cl, e = .returned (.agg (t.cells Av cv Al cl)) ∧ k25.R 25 w' w.heap.size (fun _ => True) (.slice Av t.v.f3.length cv) t.v.f3 ∧ Kd.string.R 9 w' w.heap.size (fun _ => True) (.slice Al t.l.length cl) t.l ∧ FS w' base g l sp ∧ Bg g w w'
def RToldPost (t : Told) (base g B : Nat) (l : List S25) (sp : Bool) (w : World) (e : Ending) (w' : World) : Prop :=
 ∃ Av cv Al cl, e = .returned (.agg (t.cells Av cv Al cl)) ∧ k25.R 25 w' w.heap.size (fun _ => True) (.slice Av t.v.f3.length cv) t.v.f3 ∧ Kd.string.R 9 w' w.heap.size (fun _ => True) (.slice Al t.l.length cl) t.l ∧ RSB w' base g B l sp ∧ Bg g w w'
theorem RSB.out2 {w w' : World} {base g B p q t : Nat} {l : List S25} {sp : Bool} {cs cs' : Array Value} (h : RSB w base g B l sp) (hp : Blk w p cs t) (hq : Blk w q cs' t) (ht : ∀ q, q ∈ 25 :: k25.E → q ≠ t) (hk : ∀ k, k ≠ p → k ≠ q → w'.heap[k]? = w.heap[k]?) (hpg : g ≠ p) (hqg : g ≠ q) : RSB w' base g B l sp := by
 obtain ⟨A, c, h1, h2⟩ := h
 exact ⟨A, c, (hk g hpg hqg).trans h1, Kd.R_mono (Kd.R_move (Kd.R_types (Kd.R_types h2 hp ht) hq ht) (fun k ho => hk k ho.1.2 ho.2)) (fun k ho => ho.1.1)⟩
theorem R_lowfar {α : Type} {d : Kd α} {e B b : Nat} {w w' : World} {ok : Nat → Prop} {v : Value} {l : List α} (h : d.R e w B ok v l) (hb : b ≤ B) (hs : SetsBelow B w w') : d.R e w' b ok v l :=
 Kd.R_lower (Kd.R_mono (Kd.R_move (Kd.R_bound h) (fun k hk => hs k hk.2.1)) (fun _ hk => hk.1)) hb
def put9 (W : World) (r : Nat) (a0 a1 a2 a3 a4 a5 a6 a7 a8 : Value) : World := (((((((((W.setCell ⟨r, 0, none⟩ a0).setCell ⟨r, 1, none⟩ a1).setCell ⟨r, 2, none⟩ a2).setCell ⟨r, 3, none⟩ a3).setCell ⟨r, 4, none⟩ a4).setCell ⟨r, 5, none⟩ a5).setCell ⟨r, 6, none⟩ a6).setCell ⟨r, 7, none⟩ a7).setCell ⟨r, 8, none⟩ a8)
theorem put9_blk {W : World} {r : Nat} {z0 z1 z2 z3 z4 z5 z6 z7 z8 : Value} {t : TypeId} (h : Blk W r #[z0, z1, z2, z3, z4, z5, z6, z7, z8] t) (a0 a1 a2 a3 a4 a5 a6 a7 a8 : Value) : Blk (put9 W r a0 a1 a2 a3 a4 a5 a6 a7 a8) r #[a0, a1, a2, a3, a4, a5, a6, a7, a8] t := by
 refine blk_put (cs := #[a0, a1, a2, a3, a4, a5, a6, a7, z8]) ?_ 8 _ rfl
 refine blk_put (cs := #[a0, a1, a2, a3, a4, a5, a6, z7, z8]) ?_ 7 _ rfl
 refine blk_put (cs := #[a0, a1, a2, a3, a4, a5, z6, z7, z8]) ?_ 6 _ rfl
 refine blk_put (cs := #[a0, a1, a2, a3, a4, z5, z6, z7, z8]) ?_ 5 _ rfl
 refine blk_put (cs := #[a0, a1, a2, a3, z4, z5, z6, z7, z8]) ?_ 4 _ rfl
 refine blk_put (cs := #[a0, a1, a2, z3, z4, z5, z6, z7, z8]) ?_ 3 _ rfl
 refine blk_put (cs := #[a0, a1, z2, z3, z4, z5, z6, z7, z8]) ?_ 2 _ rfl
 refine blk_put (cs := #[a0, z1, z2, z3, z4, z5, z6, z7, z8]) ?_ 1 _ rfl
 exact blk_put (cs := #[z0, z1, z2, z3, z4, z5, z6, z7, z8]) h 0 _ rfl
theorem put9_heap (W : World) (r : Nat) (a0 a1 a2 a3 a4 a5 a6 a7 a8 : Value) {k : Nat} (hk : k ≠ r) : (put9 W r a0 a1 a2 a3 a4 a5 a6 a7 a8).heap[k]? = W.heap[k]? := by
 unfold put9
 iterate 8 refine (Below.heap_setCell _ _ _ k hk).trans ?_
 exact Below.heap_setCell _ _ _ k hk
theorem put9_bg {W w : World} {g r : Nat} (h : Bg g w W) (hr : w.heap.size ≤ r) (a0 a1 a2 a3 a4 a5 a6 a7 a8 : Value) : Bg g w (put9 W r a0 a1 a2 a3 a4 a5 a6 a7 a8) := ((((((((h.far hr _).far hr _).far hr _).far hr _).far hr _).far hr _).far hr _).far hr _).far hr _
theorem put9_sets {B : Nat} {w W : World} {r : Nat} (h : SetsBelow B w W) (hr : r < B) (a0 a1 a2 a3 a4 a5 a6 a7 a8 : Value) : SetsBelow B w (put9 W r a0 a1 a2 a3 a4 a5 a6 a7 a8) := fun k hk => (put9_heap W r a0 a1 a2 a3 a4 a5 a6 a7 a8 (by omega)).trans (h k hk)
theorem Blk.nine {W : World} {b : Nat} {a0 a1 a2 a3 a4 a5 a6 a7 a8 : Value} {t : TypeId} (h : Blk W b #[a0, a1, a2, a3, a4, a5, a6, a7, a8] t) : W.cell? ⟨b, 0, none⟩ = some a0 ∧ W.cell? ⟨b, 1, none⟩ = some a1 ∧ W.cell? ⟨b, 2, none⟩ = some a2 ∧ W.cell? ⟨b, 3, none⟩ = some a3 ∧ W.cell? ⟨b, 4, none⟩ = some a4 ∧ W.cell? ⟨b, 5, none⟩ = some a5 ∧ W.cell? ⟨b, 6, none⟩ = some a6 ∧ W.cell? ⟨b, 7, none⟩ = some a7 ∧ W.cell? ⟨b, 8, none⟩ = some a8 :=
 ⟨(blk_cell h 0).trans rfl, (blk_cell h 1).trans rfl, (blk_cell h 2).trans rfl, (blk_cell h 3).trans rfl, (blk_cell h 4).trans rfl, (blk_cell h 5).trans rfl, (blk_cell h 6).trans rfl, (blk_cell h 7).trans rfl, (blk_cell h 8).trans rfl⟩
theorem Blk.ask {W : World} {b : Nat} {a0 a1 a2 a3 a4 a5 : Value} {t : TypeId} (h : Blk W b #[a0, a1, a2, a3, a4, a5] t) : W.cell? ⟨b, 0, none⟩ = some a0 ∧ W.cell? ⟨b, 1, none⟩ = some a1 ∧ W.cell? ⟨b, 2, none⟩ = some a2 ∧ W.cell? ⟨b, 3, none⟩ = some a3 ∧ W.cell? ⟨b, 4, none⟩ = some a4 ∧ W.cell? ⟨b, 5, none⟩ = some a5 :=
 ⟨(blk_cell h 0).trans rfl, (blk_cell h 1).trans rfl, (blk_cell h 2).trans rfl, (blk_cell h 3).trans rfl, (blk_cell h 4).trans rfl, (blk_cell h 5).trans rfl⟩
theorem bool75_val {w : World} {base g : Nat} {l : List S25} {sp : Bool} (hf : FS w base g l sp) (i : Int) (must : Bool) :
  Calls Try.prog 75 #[.pointer (some ⟨g, 0, none⟩), .int .i64 i, .bool must] w fun e w' => e = .returned (.bool (tellP l i (kindP [2]) (fun x => x.f1) 0 == 1)) ∧ FS w' base g l (sp || spoilP l i must (kindP [2])) ∧ Bg g w w' := by
 have HF := Aside0.mk hf
 clear hf
 go_enter Try.func75, Try.ntmps75
 go_wp2_with fail
 refine (number66_any HF.out i 2 must 0).mono ?_
 rintro e w2 ⟨rfl, hfs, hbg⟩
 have HF2 := Aside0.mk hfs
 have HB2 := Aside0.mk hbg
 clear hfs hbg
 obtain ⟨t, et⟩ : ∃ t, tellP l i (kindP [2]) (fun x => x.f1) 0 = t := ⟨_, rfl⟩
 have ET := Aside0.mk et
 rw [et]
 clear et
 go_wp2_with fail
 go_ret
 exact ⟨by rw [ET.out]; rfl, HF2.out, HB2.out⟩
theorem does47_0 {w : World} {base g : Nat} {l : List S25} {sp : Bool} (hf : FS w base g l sp) (hk : ∀ x ∈ l, itemsN x ≤ 4294967296) (at_ kind : Int) (must : Bool) (none_ : Int) (ks : List Int) (K : Option Addr) (ck : Nat) (hK : Kd.C (Kd.int .u8) w K ks.length ks) (hck : ks.length ≤ ck) :
  Calls Try.prog 47 #[.pointer (some ⟨g, 0, none⟩), .agg #[.int .i64 0, .int .i64 at_, .int .u8 kind, .bool must, .int .u64 none_, .slice K ks.length ck]] w (ToldPost (tellA l sp 0 at_ kind none_ ks) base g l (spoilA l sp 0 at_ kind must ks) w) := by
 have hg := hf.lt
 have hb3 := below_alloc (below_alloc (below_alloc (Below.refl w.heap.size w) (.cells #[.int .i64 0, .int .i64 at_, .int .u8 kind, .bool must, .int .u64 none_, .slice K ks.length ck] 65)) (.cells #[.int .u64 0, .string ⟨#[]⟩, .int .u8 0, .int .u64 0, .string ⟨#[]⟩, .slice none 0 0, .slice none 0 0, .bool false, .int .i64 0] 61)) (.cells #[.int .u64 0, .string ⟨#[]⟩, .int .u8 0, .int .u64 0, .string ⟨#[]⟩, .slice none 0 0, .slice none 0 0, .bool false, .int .i64 0] 61)
 have bA := ((Blk.new w #[.int .i64 0, .int .i64 at_, .int .u8 kind, .bool must, .int .u64 none_, .slice K ks.length ck] 65).alloc (.cells #[.int .u64 0, .string ⟨#[]⟩, .int .u8 0, .int .u64 0, .string ⟨#[]⟩, .slice none 0 0, .slice none 0 0, .bool false, .int .i64 0] 61)).alloc (.cells #[.int .u64 0, .string ⟨#[]⟩, .int .u8 0, .int .u64 0, .string ⟨#[]⟩, .slice none 0 0, .slice none 0 0, .bool false, .int .i64 0] 61)
 have bR := (Blk.new (w.alloc (.cells #[.int .i64 0, .int .i64 at_, .int .u8 kind, .bool must, .int .u64 none_, .slice K ks.length ck] 65)) #[.int .u64 0, .string ⟨#[]⟩, .int .u8 0, .int .u64 0, .string ⟨#[]⟩, .slice none 0 0, .slice none 0 0, .bool false, .int .i64 0] 61).alloc (.cells #[.int .u64 0, .string ⟨#[]⟩, .int .u8 0, .int .u64 0, .string ⟨#[]⟩, .slice none 0 0, .slice none 0 0, .bool false, .int .i64 0] 61)
 have bD := Blk.new ((w.alloc (.cells #[.int .i64 0, .int .i64 at_, .int .u8 kind, .bool must, .int .u64 none_, .slice K ks.length ck] 65)).alloc (.cells #[.int .u64 0, .string ⟨#[]⟩, .int .u8 0, .int .u64 0, .string ⟨#[]⟩, .slice none 0 0, .slice none 0 0, .bool false, .int .i64 0] 61)) #[.int .u64 0, .string ⟨#[]⟩, .int .u8 0, .int .u64 0, .string ⟨#[]⟩, .slice none 0 0, .slice none 0 0, .bool false, .int .i64 0] 61
 simp only [World.size_alloc] at bR bD
 have HF1 := Aside0.mk (hf.below hb3)
 have HK1 := Aside0.mk (Kd.C_below hK hb3)
 have HKI := Aside0.mk hk
 skip
 clear hf hK hk
 go_enter Try.func47, Try.ntmps47
 go_upto_region 2 with fail
 obtain ⟨w1, e1⟩ : ∃ W, ((w.alloc (.cells #[.int .i64 0, .int .i64 at_, .int .u8 kind, .bool must, .int .u64 none_, .slice K ks.length ck] 65)).alloc (.cells #[.int .u64 0, .string ⟨#[]⟩, .int .u8 0, .int .u64 0, .string ⟨#[]⟩, .slice none 0 0, .slice none 0 0, .bool false, .int .i64 0] 61)).alloc (.cells #[.int .u64 0, .string ⟨#[]⟩, .int .u8 0, .int .u64 0, .string ⟨#[]⟩, .slice none 0 0, .slice none 0 0, .bool false, .int .i64 0] 61) = W := ⟨_, rfl⟩
 obtain ⟨r, er⟩ : ∃ b, w.heap.size + 1 = b := ⟨_, rfl⟩
 obtain ⟨d, ed⟩ : ∃ b, w.heap.size + 1 + 1 = b := ⟨_, rfl⟩
 have hrd : w.heap.size ≤ r ∧ w.heap.size ≤ d ∧ r < d := by omega
 rw [e1] at hb3 bA bR bD HF1 HK1 ⊢
 rw [ed] at bD ⊢
 rw [er] at bR ⊢
 clear e1 ed er
 have hdl := bD.lt
 have hsz := hb3.size
 have HB1 := Aside0.mk hb3
 have BR1 := Aside0.mk bR
 have BD1 := Aside0.mk bD
 clear hb3 bR bD
 obtain ⟨p0, p1, p2, p3, p4, p5⟩ := bA.ask
 clear bA
 go_wp2_with fail
 refine (has65_any HF1.out at_).mono ?_
 rintro e w2 hpost
 obtain ⟨q, eq⟩ : ∃ q, (atF l at_).isSome = q := ⟨_, rfl⟩
 have EQ := Aside0.mk eq
 simp only [eq] at hpost
 clear eq
 obtain ⟨rfl, hb2⟩ := hpost
 have HF2 := Aside0.mk (HF1.out.below hb2)
 have HB2 := Aside0.mk ((Bg.of (g := g) HB1.out).trans (Bg.of hb2))
 have BR2 := Aside0.mk (BR1.out.below hb2)
 have BD2 := Aside0.mk (BD1.out.below hb2)
 clear p0 p1 p2 p3 p4 p5 hb2
 obtain ⟨d0, d1, d2, d3, d4, d5, d6, d7, d8⟩ := BD2.out.nine
 obtain ⟨r0, r1, r2, r3, r4, r5, r6, r7, r8⟩ := BR2.out.nine
 have f1 := BR2.out.fz
 have f2 := BD2.out.fz
 go_wp2_with fail
 refine bodyPost_ret (results_cell_row rfl _ _ r 61 #[.int .u64 0, .string ⟨#[]⟩, .int .u8 0, .int .u64 0, .string ⟨#[]⟩, .slice none 0 0, .slice none 0 0, .bool q, .int .i64 0] (0, 0) _ rfl (put9_blk (BR2.out.far (p := ⟨d, 7, none⟩) (show r ≠ d by omega) _) _ _ _ _ _ _ _ _ _) Try.underlying61 rfl (by kernel_rfl)) rfl ?_
 rw [show tellA l sp 0 at_ kind none_ ks = ⟨0, ⟨#[]⟩, zVal, [], q, 0⟩ by rw [← EQ.out]; rfl]
 refine ⟨none, 0, none, 0, rfl, Kd.R_nil _ _ _ _ _, Kd.R_nil _ _ _ _ _, HF2.out.out2 BR2.out BD2.out (by decide) (fun k hk1 hk2 => ?_) (by omega) (by omega), put9_bg (HB2.out.far (p := ⟨d, 7, none⟩) hrd.2.1 _) hrd.1 _ _ _ _ _ _ _ _ _⟩
 refine (put9_heap _ _ _ _ _ _ _ _ _ _ _ hk1).trans ?_; refine (Below.heap_setCell _ _ _ k hk2).trans ?_; rfl
theorem does47_1 {w : World} {base g : Nat} {l : List S25} {sp : Bool} (hf : FS w base g l sp) (hk : ∀ x ∈ l, itemsN x ≤ 4294967296) (at_ kind : Int) (must : Bool) (none_ : Int) (ks : List Int) (K : Option Addr) (ck : Nat) (hK : Kd.C (Kd.int .u8) w K ks.length ks) (hck : ks.length ≤ ck) :
  Calls Try.prog 47 #[.pointer (some ⟨g, 0, none⟩), .agg #[.int .i64 1, .int .i64 at_, .int .u8 kind, .bool must, .int .u64 none_, .slice K ks.length ck]] w (ToldPost (tellA l sp 1 at_ kind none_ ks) base g l (spoilA l sp 1 at_ kind must ks) w) := by
 have hg := hf.lt
 have hb3 := below_alloc (below_alloc (below_alloc (Below.refl w.heap.size w) (.cells #[.int .i64 1, .int .i64 at_, .int .u8 kind, .bool must, .int .u64 none_, .slice K ks.length ck] 65)) (.cells #[.int .u64 0, .string ⟨#[]⟩, .int .u8 0, .int .u64 0, .string ⟨#[]⟩, .slice none 0 0, .slice none 0 0, .bool false, .int .i64 0] 61)) (.cells #[.int .u64 0, .string ⟨#[]⟩, .int .u8 0, .int .u64 0, .string ⟨#[]⟩, .slice none 0 0, .slice none 0 0, .bool false, .int .i64 0] 61)
 have bA := ((Blk.new w #[.int .i64 1, .int .i64 at_, .int .u8 kind, .bool must, .int .u64 none_, .slice K ks.length ck] 65).alloc (.cells #[.int .u64 0, .string ⟨#[]⟩, .int .u8 0, .int .u64 0, .string ⟨#[]⟩, .slice none 0 0, .slice none 0 0, .bool false, .int .i64 0] 61)).alloc (.cells #[.int .u64 0, .string ⟨#[]⟩, .int .u8 0, .int .u64 0, .string ⟨#[]⟩, .slice none 0 0, .slice none 0 0, .bool false, .int .i64 0] 61)
 have bR := (Blk.new (w.alloc (.cells #[.int .i64 1, .int .i64 at_, .int .u8 kind, .bool must, .int .u64 none_, .slice K ks.length ck] 65)) #[.int .u64 0, .string ⟨#[]⟩, .int .u8 0, .int .u64 0, .string ⟨#[]⟩, .slice none 0 0, .slice none 0 0, .bool false, .int .i64 0] 61).alloc (.cells #[.int .u64 0, .string ⟨#[]⟩, .int .u8 0, .int .u64 0, .string ⟨#[]⟩, .slice none 0 0, .slice none 0 0, .bool false, .int .i64 0] 61)
 have bD := Blk.new ((w.alloc (.cells #[.int .i64 1, .int .i64 at_, .int .u8 kind, .bool must, .int .u64 none_, .slice K ks.length ck] 65)).alloc (.cells #[.int .u64 0, .string ⟨#[]⟩, .int .u8 0, .int .u64 0, .string ⟨#[]⟩, .slice none 0 0, .slice none 0 0, .bool false, .int .i64 0] 61)) #[.int .u64 0, .string ⟨#[]⟩, .int .u8 0, .int .u64 0, .string ⟨#[]⟩, .slice none 0 0, .slice none 0 0, .bool false, .int .i64 0] 61
 simp only [World.size_alloc] at bR bD
 have HF1 := Aside0.mk (hf.below hb3)
 have HK1 := Aside0.mk (Kd.C_below hK hb3)
 have HKI := Aside0.mk hk
 skip
 clear hf hK hk
 go_enter Try.func47, Try.ntmps47
 go_upto_region 2 with fail
 obtain ⟨w1, e1⟩ : ∃ W, ((w.alloc (.cells #[.int .i64 1, .int .i64 at_, .int .u8 kind, .bool must, .int .u64 none_, .slice K ks.length ck] 65)).alloc (.cells #[.int .u64 0, .string ⟨#[]⟩, .int .u8 0, .int .u64 0, .string ⟨#[]⟩, .slice none 0 0, .slice none 0 0, .bool false, .int .i64 0] 61)).alloc (.cells #[.int .u64 0, .string ⟨#[]⟩, .int .u8 0, .int .u64 0, .string ⟨#[]⟩, .slice none 0 0, .slice none 0 0, .bool false, .int .i64 0] 61) = W := ⟨_, rfl⟩
 obtain ⟨r, er⟩ : ∃ b, w.heap.size + 1 = b := ⟨_, rfl⟩
 obtain ⟨d, ed⟩ : ∃ b, w.heap.size + 1 + 1 = b := ⟨_, rfl⟩
 have hrd : w.heap.size ≤ r ∧ w.heap.size ≤ d ∧ r < d := by omega
 rw [e1] at hb3 bA bR bD HF1 HK1 ⊢
 rw [ed] at bD ⊢
 rw [er] at bR ⊢
 clear e1 ed er
 have hdl := bD.lt
 have hsz := hb3.size
 have HB1 := Aside0.mk hb3
 have BR1 := Aside0.mk bR
 have BD1 := Aside0.mk bD
 clear hb3 bR bD
 obtain ⟨p0, p1, p2, p3, p4, p5⟩ := bA.ask
 clear bA
 go_wp2_with fail
 refine (number66_any HF1.out at_ kind must none_).mono ?_
 rintro e w2 hpost
 obtain ⟨q, eq⟩ : ∃ q, tellP l at_ (kindP [kind]) (fun x => x.f1) none_ = q := ⟨_, rfl⟩
 have EQ := Aside0.mk eq
 simp only [eq] at hpost
 clear eq
 obtain ⟨rfl, hfs, hb2⟩ := hpost
 have HF2 := Aside0.mk (hfs)
 have HB2 := Aside0.mk ((Bg.of (g := g) HB1.out).trans (hb2))
 have BR2 := Aside0.mk (BR1.out.bg hb2 (by omega))
 have BD2 := Aside0.mk (BD1.out.bg hb2 (by omega))
 clear p0 p1 p2 p3 p4 p5 hb2 hfs
 obtain ⟨d0, d1, d2, d3, d4, d5, d6, d7, d8⟩ := BD2.out.nine
 obtain ⟨r0, r1, r2, r3, r4, r5, r6, r7, r8⟩ := BR2.out.nine
 have f1 := BR2.out.fz
 have f2 := BD2.out.fz
 go_wp2_with fail
 refine bodyPost_ret (results_cell_row rfl _ _ r 61 #[.int .u64 q, .string ⟨#[]⟩, .int .u8 0, .int .u64 0, .string ⟨#[]⟩, .slice none 0 0, .slice none 0 0, .bool false, .int .i64 0] (0, 0) _ rfl (put9_blk (BR2.out.far (p := ⟨d, 0, none⟩) (show r ≠ d by omega) _) _ _ _ _ _ _ _ _ _) Try.underlying61 rfl (by kernel_rfl)) rfl ?_
 rw [show tellA l sp 1 at_ kind none_ ks = ⟨q, ⟨#[]⟩, zVal, [], false, 0⟩ by rw [← EQ.out]; rfl]
 refine ⟨none, 0, none, 0, rfl, Kd.R_nil _ _ _ _ _, Kd.R_nil _ _ _ _ _, HF2.out.out2 BR2.out BD2.out (by decide) (fun k hk1 hk2 => ?_) (by omega) (by omega), put9_bg (HB2.out.far (p := ⟨d, 0, none⟩) hrd.2.1 _) hrd.1 _ _ _ _ _ _ _ _ _⟩
 refine (put9_heap _ _ _ _ _ _ _ _ _ _ _ hk1).trans ?_; refine (Below.heap_setCell _ _ _ k hk2).trans ?_; rfl
theorem does47_2 {w : World} {base g : Nat} {l : List S25} {sp : Bool} (hf : FS w base g l sp) (hk : ∀ x ∈ l, itemsN x ≤ 4294967296) (at_ kind : Int) (must : Bool) (none_ : Int) (ks : List Int) (K : Option Addr) (ck : Nat) (hK : Kd.C (Kd.int .u8) w K ks.length ks) (hck : ks.length ≤ ck) :
  Calls Try.prog 47 #[.pointer (some ⟨g, 0, none⟩), .agg #[.int .i64 2, .int .i64 at_, .int .u8 kind, .bool must, .int .u64 none_, .slice K ks.length ck]] w (ToldPost (tellA l sp 2 at_ kind none_ ks) base g l (spoilA l sp 2 at_ kind must ks) w) := by
 have hg := hf.lt
 have hb3 := below_alloc (below_alloc (below_alloc (Below.refl w.heap.size w) (.cells #[.int .i64 2, .int .i64 at_, .int .u8 kind, .bool must, .int .u64 none_, .slice K ks.length ck] 65)) (.cells #[.int .u64 0, .string ⟨#[]⟩, .int .u8 0, .int .u64 0, .string ⟨#[]⟩, .slice none 0 0, .slice none 0 0, .bool false, .int .i64 0] 61)) (.cells #[.int .u64 0, .string ⟨#[]⟩, .int .u8 0, .int .u64 0, .string ⟨#[]⟩, .slice none 0 0, .slice none 0 0, .bool false, .int .i64 0] 61)
 have bA := ((Blk.new w #[.int .i64 2, .int .i64 at_, .int .u8 kind, .bool must, .int .u64 none_, .slice K ks.length ck] 65).alloc (.cells #[.int .u64 0, .string ⟨#[]⟩, .int .u8 0, .int .u64 0, .string ⟨#[]⟩, .slice none 0 0, .slice none 0 0, .bool false, .int .i64 0] 61)).alloc (.cells #[.int .u64 0, .string ⟨#[]⟩, .int .u8 0, .int .u64 0, .string ⟨#[]⟩, .slice none 0 0, .slice none 0 0, .bool false, .int .i64 0] 61)
 have bR := (Blk.new (w.alloc (.cells #[.int .i64 2, .int .i64 at_, .int .u8 kind, .bool must, .int .u64 none_, .slice K ks.length ck] 65)) #[.int .u64 0, .string ⟨#[]⟩, .int .u8 0, .int .u64 0, .string ⟨#[]⟩, .slice none 0 0, .slice none 0 0, .bool false, .int .i64 0] 61).alloc (.cells #[.int .u64 0, .string ⟨#[]⟩, .int .u8 0, .int .u64 0, .string ⟨#[]⟩, .slice none 0 0, .slice none 0 0, .bool false, .int .i64 0] 61)
 have bD := Blk.new ((w.alloc (.cells #[.int .i64 2, .int .i64 at_, .int .u8 kind, .bool must, .int .u64 none_, .slice K ks.length ck] 65)).alloc (.cells #[.int .u64 0, .string ⟨#[]⟩, .int .u8 0, .int .u64 0, .string ⟨#[]⟩, .slice none 0 0, .slice none 0 0, .bool false, .int .i64 0] 61)) #[.int .u64 0, .string ⟨#[]⟩, .int .u8 0, .int .u64 0, .string ⟨#[]⟩, .slice none 0 0, .slice none 0 0, .bool false, .int .i64 0] 61
 simp only [World.size_alloc] at bR bD
 have HF1 := Aside0.mk (hf.below hb3)
 have HK1 := Aside0.mk (Kd.C_below hK hb3)
 have HKI := Aside0.mk hk
 skip
 clear hf hK hk
 go_enter Try.func47, Try.ntmps47
 go_upto_region 2 with fail
 obtain ⟨w1, e1⟩ : ∃ W, ((w.alloc (.cells #[.int .i64 2, .int .i64 at_, .int .u8 kind, .bool must, .int .u64 none_, .slice K ks.length ck] 65)).alloc (.cells #[.int .u64 0, .string ⟨#[]⟩, .int .u8 0, .int .u64 0, .string ⟨#[]⟩, .slice none 0 0, .slice none 0 0, .bool false, .int .i64 0] 61)).alloc (.cells #[.int .u64 0, .string ⟨#[]⟩, .int .u8 0, .int .u64 0, .string ⟨#[]⟩, .slice none 0 0, .slice none 0 0, .bool false, .int .i64 0] 61) = W := ⟨_, rfl⟩
 obtain ⟨r, er⟩ : ∃ b, w.heap.size + 1 = b := ⟨_, rfl⟩
 obtain ⟨d, ed⟩ : ∃ b, w.heap.size + 1 + 1 = b := ⟨_, rfl⟩
 have hrd : w.heap.size ≤ r ∧ w.heap.size ≤ d ∧ r < d := by omega
 rw [e1] at hb3 bA bR bD HF1 HK1 ⊢
 rw [ed] at bD ⊢
 rw [er] at bR ⊢
 clear e1 ed er
 have hdl := bD.lt
 have hsz := hb3.size
 have HB1 := Aside0.mk hb3
 have BR1 := Aside0.mk bR
 have BD1 := Aside0.mk bD
 clear hb3 bR bD
 obtain ⟨p0, p1, p2, p3, p4, p5⟩ := bA.ask
 clear bA
 go_wp2_with fail
 refine (bool75_val HF1.out at_ must).mono ?_
 rintro e w2 hpost
 obtain ⟨q, eq⟩ : ∃ q, (tellP l at_ (kindP [2]) (fun x => x.f1) 0 == 1) = q := ⟨_, rfl⟩
 have EQ := Aside0.mk eq
 simp only [eq] at hpost
 clear eq
 obtain ⟨rfl, hfs, hb2⟩ := hpost
 have HF2 := Aside0.mk (hfs)
 have HB2 := Aside0.mk ((Bg.of (g := g) HB1.out).trans (hb2))
 have BR2 := Aside0.mk (BR1.out.bg hb2 (by omega))
 have BD2 := Aside0.mk (BD1.out.bg hb2 (by omega))
 clear p0 p1 p2 p3 p4 p5 hb2 hfs
 obtain ⟨d0, d1, d2, d3, d4, d5, d6, d7, d8⟩ := BD2.out.nine
 obtain ⟨r0, r1, r2, r3, r4, r5, r6, r7, r8⟩ := BR2.out.nine
 have f1 := BR2.out.fz
 have f2 := BD2.out.fz
 go_wp2_with fail
 refine bodyPost_ret (results_cell_row rfl _ _ r 61 #[.int .u64 0, .string ⟨#[]⟩, .int .u8 0, .int .u64 0, .string ⟨#[]⟩, .slice none 0 0, .slice none 0 0, .bool q, .int .i64 0] (0, 0) _ rfl (put9_blk (BR2.out.far (p := ⟨d, 7, none⟩) (show r ≠ d by omega) _) _ _ _ _ _ _ _ _ _) Try.underlying61 rfl (by kernel_rfl)) rfl ?_
 rw [show tellA l sp 2 at_ kind none_ ks = ⟨0, ⟨#[]⟩, zVal, [], q, 0⟩ by rw [← EQ.out]; rfl]
 refine ⟨none, 0, none, 0, rfl, Kd.R_nil _ _ _ _ _, Kd.R_nil _ _ _ _ _, HF2.out.out2 BR2.out BD2.out (by decide) (fun k hk1 hk2 => ?_) (by omega) (by omega), put9_bg (HB2.out.far (p := ⟨d, 7, none⟩) hrd.2.1 _) hrd.1 _ _ _ _ _ _ _ _ _⟩
 refine (put9_heap _ _ _ _ _ _ _ _ _ _ _ hk1).trans ?_; refine (Below.heap_setCell _ _ _ k hk2).trans ?_; rfl
theorem does47_3 {w : World} {base g : Nat} {l : List S25} {sp : Bool} (hf : FS w base g l sp) (hk : ∀ x ∈ l, itemsN x ≤ 4294967296) (at_ kind : Int) (must : Bool) (none_ : Int) (ks : List Int) (K : Option Addr) (ck : Nat) (hK : Kd.C (Kd.int .u8) w K ks.length ks) (hck : ks.length ≤ ck) :
  Calls Try.prog 47 #[.pointer (some ⟨g, 0, none⟩), .agg #[.int .i64 3, .int .i64 at_, .int .u8 kind, .bool must, .int .u64 none_, .slice K ks.length ck]] w (ToldPost (tellA l sp 3 at_ kind none_ ks) base g l (spoilA l sp 3 at_ kind must ks) w) := by
 have hg := hf.lt
 have hb3 := below_alloc (below_alloc (below_alloc (Below.refl w.heap.size w) (.cells #[.int .i64 3, .int .i64 at_, .int .u8 kind, .bool must, .int .u64 none_, .slice K ks.length ck] 65)) (.cells #[.int .u64 0, .string ⟨#[]⟩, .int .u8 0, .int .u64 0, .string ⟨#[]⟩, .slice none 0 0, .slice none 0 0, .bool false, .int .i64 0] 61)) (.cells #[.int .u64 0, .string ⟨#[]⟩, .int .u8 0, .int .u64 0, .string ⟨#[]⟩, .slice none 0 0, .slice none 0 0, .bool false, .int .i64 0] 61)
 have bA := ((Blk.new w #[.int .i64 3, .int .i64 at_, .int .u8 kind, .bool must, .int .u64 none_, .slice K ks.length ck] 65).alloc (.cells #[.int .u64 0, .string ⟨#[]⟩, .int .u8 0, .int .u64 0, .string ⟨#[]⟩, .slice none 0 0, .slice none 0 0, .bool false, .int .i64 0] 61)).alloc (.cells #[.int .u64 0, .string ⟨#[]⟩, .int .u8 0, .int .u64 0, .string ⟨#[]⟩, .slice none 0 0, .slice none 0 0, .bool false, .int .i64 0] 61)
 have bR := (Blk.new (w.alloc (.cells #[.int .i64 3, .int .i64 at_, .int .u8 kind, .bool must, .int .u64 none_, .slice K ks.length ck] 65)) #[.int .u64 0, .string ⟨#[]⟩, .int .u8 0, .int .u64 0, .string ⟨#[]⟩, .slice none 0 0, .slice none 0 0, .bool false, .int .i64 0] 61).alloc (.cells #[.int .u64 0, .string ⟨#[]⟩, .int .u8 0, .int .u64 0, .string ⟨#[]⟩, .slice none 0 0, .slice none 0 0, .bool false, .int .i64 0] 61)
 have bD := Blk.new ((w.alloc (.cells #[.int .i64 3, .int .i64 at_, .int .u8 kind, .bool must, .int .u64 none_, .slice K ks.length ck] 65)).alloc (.cells #[.int .u64 0, .string ⟨#[]⟩, .int .u8 0, .int .u64 0, .string ⟨#[]⟩, .slice none 0 0, .slice none 0 0, .bool false, .int .i64 0] 61)) #[.int .u64 0, .string ⟨#[]⟩, .int .u8 0, .int .u64 0, .string ⟨#[]⟩, .slice none 0 0, .slice none 0 0, .bool false, .int .i64 0] 61
 simp only [World.size_alloc] at bR bD
 have HF1 := Aside0.mk (hf.below hb3)
 have HK1 := Aside0.mk (Kd.C_below hK hb3)
 have HKI := Aside0.mk hk
 skip
 clear hf hK hk
 go_enter Try.func47, Try.ntmps47
 go_upto_region 2 with fail
 obtain ⟨w1, e1⟩ : ∃ W, ((w.alloc (.cells #[.int .i64 3, .int .i64 at_, .int .u8 kind, .bool must, .int .u64 none_, .slice K ks.length ck] 65)).alloc (.cells #[.int .u64 0, .string ⟨#[]⟩, .int .u8 0, .int .u64 0, .string ⟨#[]⟩, .slice none 0 0, .slice none 0 0, .bool false, .int .i64 0] 61)).alloc (.cells #[.int .u64 0, .string ⟨#[]⟩, .int .u8 0, .int .u64 0, .string ⟨#[]⟩, .slice none 0 0, .slice none 0 0, .bool false, .int .i64 0] 61) = W := ⟨_, rfl⟩
 obtain ⟨r, er⟩ : ∃ b, w.heap.size + 1 = b := ⟨_, rfl⟩
 obtain ⟨d, ed⟩ : ∃ b, w.heap.size + 1 + 1 = b := ⟨_, rfl⟩
 have hrd : w.heap.size ≤ r ∧ w.heap.size ≤ d ∧ r < d := by omega
 rw [e1] at hb3 bA bR bD HF1 HK1 ⊢
 rw [ed] at bD ⊢
 rw [er] at bR ⊢
 clear e1 ed er
 have hdl := bD.lt
 have hsz := hb3.size
 have HB1 := Aside0.mk hb3
 have BR1 := Aside0.mk bR
 have BD1 := Aside0.mk bD
 clear hb3 bR bD
 obtain ⟨p0, p1, p2, p3, p4, p5⟩ := bA.ask
 clear bA
 go_wp2_with fail
 refine (text76_any HF1.out at_ kind must).mono ?_
 rintro e w2 hpost
 obtain ⟨q, eq⟩ : ∃ q, tellP l at_ (kindP [kind]) (fun x => x.f2) ⟨#[]⟩ = q := ⟨_, rfl⟩
 have EQ := Aside0.mk eq
 simp only [eq] at hpost
 clear eq
 obtain ⟨rfl, hfs, hb2⟩ := hpost
 have HF2 := Aside0.mk (hfs)
 have HB2 := Aside0.mk ((Bg.of (g := g) HB1.out).trans (hb2))
 have BR2 := Aside0.mk (BR1.out.bg hb2 (by omega))
 have BD2 := Aside0.mk (BD1.out.bg hb2 (by omega))
 clear p0 p1 p2 p3 p4 p5 hb2 hfs
 obtain ⟨d0, d1, d2, d3, d4, d5, d6, d7, d8⟩ := BD2.out.nine
 obtain ⟨r0, r1, r2, r3, r4, r5, r6, r7, r8⟩ := BR2.out.nine
 have f1 := BR2.out.fz
 have f2 := BD2.out.fz
 go_wp2_with fail
 refine bodyPost_ret (results_cell_row rfl _ _ r 61 #[.int .u64 0, .string q, .int .u8 0, .int .u64 0, .string ⟨#[]⟩, .slice none 0 0, .slice none 0 0, .bool false, .int .i64 0] (0, 0) _ rfl (put9_blk (BR2.out.far (p := ⟨d, 1, none⟩) (show r ≠ d by omega) _) _ _ _ _ _ _ _ _ _) Try.underlying61 rfl (by kernel_rfl)) rfl ?_
 rw [show tellA l sp 3 at_ kind none_ ks = ⟨0, q, zVal, [], false, 0⟩ by rw [← EQ.out]; rfl]
 refine ⟨none, 0, none, 0, rfl, Kd.R_nil _ _ _ _ _, Kd.R_nil _ _ _ _ _, HF2.out.out2 BR2.out BD2.out (by decide) (fun k hk1 hk2 => ?_) (by omega) (by omega), put9_bg (HB2.out.far (p := ⟨d, 1, none⟩) hrd.2.1 _) hrd.1 _ _ _ _ _ _ _ _ _⟩
 refine (put9_heap _ _ _ _ _ _ _ _ _ _ _ hk1).trans ?_; refine (Below.heap_setCell _ _ _ k hk2).trans ?_; rfl
theorem does47_4 {w : World} {base g : Nat} {l : List S25} {sp : Bool} (hf : FS w base g l sp) (hk : ∀ x ∈ l, itemsN x ≤ 4294967296) (at_ kind : Int) (must : Bool) (none_ : Int) (ks : List Int) (K : Option Addr) (ck : Nat) (hK : Kd.C (Kd.int .u8) w K ks.length ks) (hck : ks.length ≤ ck) :
  Calls Try.prog 47 #[.pointer (some ⟨g, 0, none⟩), .agg #[.int .i64 4, .int .i64 at_, .int .u8 kind, .bool must, .int .u64 none_, .slice K ks.length ck]] w (ToldPost (tellA l sp 4 at_ kind none_ ks) base g l (spoilA l sp 4 at_ kind must ks) w) := by
 have hg := hf.lt
 have hb3 := below_alloc (below_alloc (below_alloc (Below.refl w.heap.size w) (.cells #[.int .i64 4, .int .i64 at_, .int .u8 kind, .bool must, .int .u64 none_, .slice K ks.length ck] 65)) (.cells #[.int .u64 0, .string ⟨#[]⟩, .int .u8 0, .int .u64 0, .string ⟨#[]⟩, .slice none 0 0, .slice none 0 0, .bool false, .int .i64 0] 61)) (.cells #[.int .u64 0, .string ⟨#[]⟩, .int .u8 0, .int .u64 0, .string ⟨#[]⟩, .slice none 0 0, .slice none 0 0, .bool false, .int .i64 0] 61)
 have bA := ((Blk.new w #[.int .i64 4, .int .i64 at_, .int .u8 kind, .bool must, .int .u64 none_, .slice K ks.length ck] 65).alloc (.cells #[.int .u64 0, .string ⟨#[]⟩, .int .u8 0, .int .u64 0, .string ⟨#[]⟩, .slice none 0 0, .slice none 0 0, .bool false, .int .i64 0] 61)).alloc (.cells #[.int .u64 0, .string ⟨#[]⟩, .int .u8 0, .int .u64 0, .string ⟨#[]⟩, .slice none 0 0, .slice none 0 0, .bool false, .int .i64 0] 61)
 have bR := (Blk.new (w.alloc (.cells #[.int .i64 4, .int .i64 at_, .int .u8 kind, .bool must, .int .u64 none_, .slice K ks.length ck] 65)) #[.int .u64 0, .string ⟨#[]⟩, .int .u8 0, .int .u64 0, .string ⟨#[]⟩, .slice none 0 0, .slice none 0 0, .bool false, .int .i64 0] 61).alloc (.cells #[.int .u64 0, .string ⟨#[]⟩, .int .u8 0, .int .u64 0, .string ⟨#[]⟩, .slice none 0 0, .slice none 0 0, .bool false, .int .i64 0] 61)
 have bD := Blk.new ((w.alloc (.cells #[.int .i64 4, .int .i64 at_, .int .u8 kind, .bool must, .int .u64 none_, .slice K ks.length ck] 65)).alloc (.cells #[.int .u64 0, .string ⟨#[]⟩, .int .u8 0, .int .u64 0, .string ⟨#[]⟩, .slice none 0 0, .slice none 0 0, .bool false, .int .i64 0] 61)) #[.int .u64 0, .string ⟨#[]⟩, .int .u8 0, .int .u64 0, .string ⟨#[]⟩, .slice none 0 0, .slice none 0 0, .bool false, .int .i64 0] 61
 simp only [World.size_alloc] at bR bD
 have HF1 := Aside0.mk (hf.below hb3)
 have HK1 := Aside0.mk (Kd.C_below hK hb3)
 have HKI := Aside0.mk hk
 skip
 clear hf hK hk
 go_enter Try.func47, Try.ntmps47
 go_upto_region 2 with fail
 obtain ⟨w1, e1⟩ : ∃ W, ((w.alloc (.cells #[.int .i64 4, .int .i64 at_, .int .u8 kind, .bool must, .int .u64 none_, .slice K ks.length ck] 65)).alloc (.cells #[.int .u64 0, .string ⟨#[]⟩, .int .u8 0, .int .u64 0, .string ⟨#[]⟩, .slice none 0 0, .slice none 0 0, .bool false, .int .i64 0] 61)).alloc (.cells #[.int .u64 0, .string ⟨#[]⟩, .int .u8 0, .int .u64 0, .string ⟨#[]⟩, .slice none 0 0, .slice none 0 0, .bool false, .int .i64 0] 61) = W := ⟨_, rfl⟩
 obtain ⟨r, er⟩ : ∃ b, w.heap.size + 1 = b := ⟨_, rfl⟩
 obtain ⟨d, ed⟩ : ∃ b, w.heap.size + 1 + 1 = b := ⟨_, rfl⟩
 have hrd : w.heap.size ≤ r ∧ w.heap.size ≤ d ∧ r < d := by omega
 rw [e1] at hb3 bA bR bD HF1 HK1 ⊢
 rw [ed] at bD ⊢
 rw [er] at bR ⊢
 clear e1 ed er
 have hdl := bD.lt
 have hsz := hb3.size
 have HB1 := Aside0.mk hb3
 have BR1 := Aside0.mk bR
 have BD1 := Aside0.mk bD
 clear hb3 bR bD
 obtain ⟨p0, p1, p2, p3, p4, p5⟩ := bA.ask
 clear bA
 go_wp2_with fail
 refine (value77_any HF1.out HKI.out at_ ks K ck HK1.out hck).mono ?_
 rintro e w2 hpost
 obtain ⟨q, eq⟩ : ∃ q, tellP l at_ (kindsP ks) (fun x => x) vNul = q := ⟨_, rfl⟩
 have EQ := Aside0.mk eq
 unfold ValPost at hpost
 simp only [eq] at hpost
 clear eq
 obtain ⟨A2, c2, rfl, hR2, hfs, hb2⟩ := hpost
 have HF2 := Aside0.mk (hfs.fs)
 have HB2 := Aside0.mk ((Bg.of (g := g) HB1.out).trans (hb2))
 have BR2 := Aside0.mk (BR1.out.bg hb2 (by omega))
 have BD2 := Aside0.mk (BD1.out.bg hb2 (by omega))
 have HR2 := Aside0.mk hR2
 clear p0 p1 p2 p3 p4 p5 hb2 hfs hR2
 obtain ⟨d0, d1, d2, d3, d4, d5, d6, d7, d8⟩ := BD2.out.nine
 obtain ⟨r0, r1, r2, r3, r4, r5, r6, r7, r8⟩ := BR2.out.nine
 have f1 := BR2.out.fz
 have f2 := BD2.out.fz
 go_wp2_with fail
 refine bodyPost_ret (results_cell_row rfl _ _ r 61 #[.int .u64 0, .string ⟨#[]⟩, .int .u8 q.f0, .int .u64 q.f1, .string q.f2, .slice A2 q.f3.length c2, .slice none 0 0, .bool false, .int .i64 0] (0, 0) _ rfl (put9_blk ((((BR2.out.far (p := ⟨d, 2, none⟩) (show r ≠ d by omega) _).far (p := ⟨d, 3, none⟩) (show r ≠ d by omega) _).far (p := ⟨d, 4, none⟩) (show r ≠ d by omega) _).far (p := ⟨d, 5, none⟩) (show r ≠ d by omega) _) _ _ _ _ _ _ _ _ _) Try.underlying61 rfl (by kernel_rfl)) rfl ?_
 rw [show tellA l sp 4 at_ kind none_ ks = ⟨0, ⟨#[]⟩, q, [], false, 0⟩ by rw [← EQ.out]; rfl]
 refine ⟨A2, c2, none, 0, rfl, R_lowfar HR2.out hsz (put9_sets ((((SetsBelow.nil.snoc (p := ⟨d, 2, none⟩) (show d < _ by omega) _).snoc (p := ⟨d, 3, none⟩) (show d < _ by omega) _).snoc (p := ⟨d, 4, none⟩) (show d < _ by omega) _).snoc (p := ⟨d, 5, none⟩) (show d < _ by omega) _) (by omega) _ _ _ _ _ _ _ _ _), Kd.R_nil _ _ _ _ _, HF2.out.out2 BR2.out BD2.out (by decide) (fun k hk1 hk2 => ?_) (by omega) (by omega), put9_bg ((((HB2.out.far (p := ⟨d, 2, none⟩) hrd.2.1 _).far (p := ⟨d, 3, none⟩) hrd.2.1 _).far (p := ⟨d, 4, none⟩) hrd.2.1 _).far (p := ⟨d, 5, none⟩) hrd.2.1 _) hrd.1 _ _ _ _ _ _ _ _ _⟩
 refine (put9_heap _ _ _ _ _ _ _ _ _ _ _ hk1).trans ?_; refine (Below.heap_setCell _ _ _ k hk2).trans ?_; refine (Below.heap_setCell _ _ _ k hk2).trans ?_; refine (Below.heap_setCell _ _ _ k hk2).trans ?_; refine (Below.heap_setCell _ _ _ k hk2).trans ?_; rfl
theorem does47_5 {w : World} {base g : Nat} {l : List S25} {sp : Bool} (hf : FS w base g l sp) (hk : ∀ x ∈ l, itemsN x ≤ 4294967296) (at_ kind : Int) (must : Bool) (none_ : Int) (ks : List Int) (K : Option Addr) (ck : Nat) (hK : Kd.C (Kd.int .u8) w K ks.length ks) (hck : ks.length ≤ ck) :
  Calls Try.prog 47 #[.pointer (some ⟨g, 0, none⟩), .agg #[.int .i64 5, .int .i64 at_, .int .u8 kind, .bool must, .int .u64 none_, .slice K ks.length ck]] w (ToldPost (tellA l sp 5 at_ kind none_ ks) base g l (spoilA l sp 5 at_ kind must ks) w) := by
 have hg := hf.lt
 have hb3 := below_alloc (below_alloc (below_alloc (Below.refl w.heap.size w) (.cells #[.int .i64 5, .int .i64 at_, .int .u8 kind, .bool must, .int .u64 none_, .slice K ks.length ck] 65)) (.cells #[.int .u64 0, .string ⟨#[]⟩, .int .u8 0, .int .u64 0, .string ⟨#[]⟩, .slice none 0 0, .slice none 0 0, .bool false, .int .i64 0] 61)) (.cells #[.int .u64 0, .string ⟨#[]⟩, .int .u8 0, .int .u64 0, .string ⟨#[]⟩, .slice none 0 0, .slice none 0 0, .bool false, .int .i64 0] 61)
 have bA := ((Blk.new w #[.int .i64 5, .int .i64 at_, .int .u8 kind, .bool must, .int .u64 none_, .slice K ks.length ck] 65).alloc (.cells #[.int .u64 0, .string ⟨#[]⟩, .int .u8 0, .int .u64 0, .string ⟨#[]⟩, .slice none 0 0, .slice none 0 0, .bool false, .int .i64 0] 61)).alloc (.cells #[.int .u64 0, .string ⟨#[]⟩, .int .u8 0, .int .u64 0, .string ⟨#[]⟩, .slice none 0 0, .slice none 0 0, .bool false, .int .i64 0] 61)
 have bR := (Blk.new (w.alloc (.cells #[.int .i64 5, .int .i64 at_, .int .u8 kind, .bool must, .int .u64 none_, .slice K ks.length ck] 65)) #[.int .u64 0, .string ⟨#[]⟩, .int .u8 0, .int .u64 0, .string ⟨#[]⟩, .slice none 0 0, .slice none 0 0, .bool false, .int .i64 0] 61).alloc (.cells #[.int .u64 0, .string ⟨#[]⟩, .int .u8 0, .int .u64 0, .string ⟨#[]⟩, .slice none 0 0, .slice none 0 0, .bool false, .int .i64 0] 61)
 have bD := Blk.new ((w.alloc (.cells #[.int .i64 5, .int .i64 at_, .int .u8 kind, .bool must, .int .u64 none_, .slice K ks.length ck] 65)).alloc (.cells #[.int .u64 0, .string ⟨#[]⟩, .int .u8 0, .int .u64 0, .string ⟨#[]⟩, .slice none 0 0, .slice none 0 0, .bool false, .int .i64 0] 61)) #[.int .u64 0, .string ⟨#[]⟩, .int .u8 0, .int .u64 0, .string ⟨#[]⟩, .slice none 0 0, .slice none 0 0, .bool false, .int .i64 0] 61
 simp only [World.size_alloc] at bR bD
 have HF1 := Aside0.mk (hf.below hb3)
 have HK1 := Aside0.mk (Kd.C_below hK hb3)
 have HKI := Aside0.mk hk
 skip
 clear hf hK hk
 go_enter Try.func47, Try.ntmps47
 go_upto_region 2 with fail
 obtain ⟨w1, e1⟩ : ∃ W, ((w.alloc (.cells #[.int .i64 5, .int .i64 at_, .int .u8 kind, .bool must, .int .u64 none_, .slice K ks.length ck] 65)).alloc (.cells #[.int .u64 0, .string ⟨#[]⟩, .int .u8 0, .int .u64 0, .string ⟨#[]⟩, .slice none 0 0, .slice none 0 0, .bool false, .int .i64 0] 61)).alloc (.cells #[.int .u64 0, .string ⟨#[]⟩, .int .u8 0, .int .u64 0, .string ⟨#[]⟩, .slice none 0 0, .slice none 0 0, .bool false, .int .i64 0] 61) = W := ⟨_, rfl⟩
 obtain ⟨r, er⟩ : ∃ b, w.heap.size + 1 = b := ⟨_, rfl⟩
 obtain ⟨d, ed⟩ : ∃ b, w.heap.size + 1 + 1 = b := ⟨_, rfl⟩
 have hrd : w.heap.size ≤ r ∧ w.heap.size ≤ d ∧ r < d := by omega
 rw [e1] at hb3 bA bR bD HF1 HK1 ⊢
 rw [ed] at bD ⊢
 rw [er] at bR ⊢
 clear e1 ed er
 have hdl := bD.lt
 have hsz := hb3.size
 have HB1 := Aside0.mk hb3
 have BR1 := Aside0.mk bR
 have BD1 := Aside0.mk bD
 clear hb3 bR bD
 obtain ⟨p0, p1, p2, p3, p4, p5⟩ := bA.ask
 clear bA
 go_wp2_with fail
 refine (symbols42_any HF1.out (fun x hx => by have := HKI.out x hx; have := itemsN_eq x; have := itemsL_length x.f3; omega) at_).mono ?_
 rintro e w2 hpost
 obtain ⟨q, eq⟩ : ∃ q, tellP l at_ symP symL [] = q := ⟨_, rfl⟩
 have EQ := Aside0.mk eq
 unfold StrsPost at hpost
 simp only [eq] at hpost
 clear eq
 obtain ⟨A2, c2, rfl, hR2, hfs, hb2⟩ := hpost
 have HF2 := Aside0.mk (hfs)
 have HB2 := Aside0.mk ((Bg.of (g := g) HB1.out).trans (hb2))
 have BR2 := Aside0.mk (BR1.out.bg hb2 (by omega))
 have BD2 := Aside0.mk (BD1.out.bg hb2 (by omega))
 have HR2 := Aside0.mk hR2
 clear p0 p1 p2 p3 p4 p5 hb2 hfs hR2
 obtain ⟨d0, d1, d2, d3, d4, d5, d6, d7, d8⟩ := BD2.out.nine
 obtain ⟨r0, r1, r2, r3, r4, r5, r6, r7, r8⟩ := BR2.out.nine
 have f1 := BR2.out.fz
 have f2 := BD2.out.fz
 go_wp2_with fail
 refine bodyPost_ret (results_cell_row rfl _ _ r 61 #[.int .u64 0, .string ⟨#[]⟩, .int .u8 0, .int .u64 0, .string ⟨#[]⟩, .slice none 0 0, .slice A2 q.length c2, .bool false, .int .i64 0] (0, 0) _ rfl (put9_blk (BR2.out.far (p := ⟨d, 6, none⟩) (show r ≠ d by omega) _) _ _ _ _ _ _ _ _ _) Try.underlying61 rfl (by kernel_rfl)) rfl ?_
 rw [show tellA l sp 5 at_ kind none_ ks = ⟨0, ⟨#[]⟩, zVal, q, false, 0⟩ by rw [← EQ.out]; rfl]
 refine ⟨none, 0, A2, c2, rfl, Kd.R_nil _ _ _ _ _, R_lowfar HR2.out hsz (put9_sets (SetsBelow.nil.snoc (p := ⟨d, 6, none⟩) (show d < _ by omega) _) (by omega) _ _ _ _ _ _ _ _ _), HF2.out.out2 BR2.out BD2.out (by decide) (fun k hk1 hk2 => ?_) (by omega) (by omega), put9_bg (HB2.out.far (p := ⟨d, 6, none⟩) hrd.2.1 _) hrd.1 _ _ _ _ _ _ _ _ _⟩
 refine (put9_heap _ _ _ _ _ _ _ _ _ _ _ hk1).trans ?_; refine (Below.heap_setCell _ _ _ k hk2).trans ?_; rfl
theorem does47_6 {w : World} {base g : Nat} {l : List S25} {sp : Bool} (hf : FS w base g l sp) (hk : ∀ x ∈ l, itemsN x ≤ 4294967296) (at_ kind : Int) (must : Bool) (none_ : Int) (ks : List Int) (K : Option Addr) (ck : Nat) (hK : Kd.C (Kd.int .u8) w K ks.length ks) (hck : ks.length ≤ ck) :
  Calls Try.prog 47 #[.pointer (some ⟨g, 0, none⟩), .agg #[.int .i64 6, .int .i64 at_, .int .u8 kind, .bool must, .int .u64 none_, .slice K ks.length ck]] w (ToldPost (tellA l sp 6 at_ kind none_ ks) base g l (spoilA l sp 6 at_ kind must ks) w) := by
 have hg := hf.lt
 have hb3 := below_alloc (below_alloc (below_alloc (Below.refl w.heap.size w) (.cells #[.int .i64 6, .int .i64 at_, .int .u8 kind, .bool must, .int .u64 none_, .slice K ks.length ck] 65)) (.cells #[.int .u64 0, .string ⟨#[]⟩, .int .u8 0, .int .u64 0, .string ⟨#[]⟩, .slice none 0 0, .slice none 0 0, .bool false, .int .i64 0] 61)) (.cells #[.int .u64 0, .string ⟨#[]⟩, .int .u8 0, .int .u64 0, .string ⟨#[]⟩, .slice none 0 0, .slice none 0 0, .bool false, .int .i64 0] 61)
 have bA := ((Blk.new w #[.int .i64 6, .int .i64 at_, .int .u8 kind, .bool must, .int .u64 none_, .slice K ks.length ck] 65).alloc (.cells #[.int .u64 0, .string ⟨#[]⟩, .int .u8 0, .int .u64 0, .string ⟨#[]⟩, .slice none 0 0, .slice none 0 0, .bool false, .int .i64 0] 61)).alloc (.cells #[.int .u64 0, .string ⟨#[]⟩, .int .u8 0, .int .u64 0, .string ⟨#[]⟩, .slice none 0 0, .slice none 0 0, .bool false, .int .i64 0] 61)
 have bR := (Blk.new (w.alloc (.cells #[.int .i64 6, .int .i64 at_, .int .u8 kind, .bool must, .int .u64 none_, .slice K ks.length ck] 65)) #[.int .u64 0, .string ⟨#[]⟩, .int .u8 0, .int .u64 0, .string ⟨#[]⟩, .slice none 0 0, .slice none 0 0, .bool false, .int .i64 0] 61).alloc (.cells #[.int .u64 0, .string ⟨#[]⟩, .int .u8 0, .int .u64 0, .string ⟨#[]⟩, .slice none 0 0, .slice none 0 0, .bool false, .int .i64 0] 61)
 have bD := Blk.new ((w.alloc (.cells #[.int .i64 6, .int .i64 at_, .int .u8 kind, .bool must, .int .u64 none_, .slice K ks.length ck] 65)).alloc (.cells #[.int .u64 0, .string ⟨#[]⟩, .int .u8 0, .int .u64 0, .string ⟨#[]⟩, .slice none 0 0, .slice none 0 0, .bool false, .int .i64 0] 61)) #[.int .u64 0, .string ⟨#[]⟩, .int .u8 0, .int .u64 0, .string ⟨#[]⟩, .slice none 0 0, .slice none 0 0, .bool false, .int .i64 0] 61
 simp only [World.size_alloc] at bR bD
 have HF1 := Aside0.mk (hf.below hb3)
 have HK1 := Aside0.mk (Kd.C_below hK hb3)
 have HKI := Aside0.mk hk
 skip
 clear hf hK hk
 go_enter Try.func47, Try.ntmps47
 go_upto_region 2 with fail
 obtain ⟨w1, e1⟩ : ∃ W, ((w.alloc (.cells #[.int .i64 6, .int .i64 at_, .int .u8 kind, .bool must, .int .u64 none_, .slice K ks.length ck] 65)).alloc (.cells #[.int .u64 0, .string ⟨#[]⟩, .int .u8 0, .int .u64 0, .string ⟨#[]⟩, .slice none 0 0, .slice none 0 0, .bool false, .int .i64 0] 61)).alloc (.cells #[.int .u64 0, .string ⟨#[]⟩, .int .u8 0, .int .u64 0, .string ⟨#[]⟩, .slice none 0 0, .slice none 0 0, .bool false, .int .i64 0] 61) = W := ⟨_, rfl⟩
 obtain ⟨r, er⟩ : ∃ b, w.heap.size + 1 = b := ⟨_, rfl⟩
 obtain ⟨d, ed⟩ : ∃ b, w.heap.size + 1 + 1 = b := ⟨_, rfl⟩
 have hrd : w.heap.size ≤ r ∧ w.heap.size ≤ d ∧ r < d := by omega
 rw [e1] at hb3 bA bR bD HF1 HK1 ⊢
 rw [ed] at bD ⊢
 rw [er] at bR ⊢
 clear e1 ed er
 have hdl := bD.lt
 have hsz := hb3.size
 have HB1 := Aside0.mk hb3
 have BR1 := Aside0.mk bR
 have BD1 := Aside0.mk bD
 clear hb3 bR bD
 obtain ⟨p0, p1, p2, p3, p4, p5⟩ := bA.ask
 clear bA
 go_wp2_with fail
 refine (spoil50_any HF1.out).mono ?_
 rintro e w2 ⟨rfl, hfs, hb2⟩
 have HF2 := Aside0.mk (hfs)
 have HB2 := Aside0.mk ((Bg.of (g := g) HB1.out).trans (hb2))
 have BR2 := Aside0.mk (BR1.out.bg hb2 (by omega))
 have BD2 := Aside0.mk (BD1.out.bg hb2 (by omega))
 clear p0 p1 p2 p3 p4 p5 hb2 hfs
 obtain ⟨d0, d1, d2, d3, d4, d5, d6, d7, d8⟩ := BD2.out.nine
 obtain ⟨r0, r1, r2, r3, r4, r5, r6, r7, r8⟩ := BR2.out.nine
 have f1 := BR2.out.fz
 have f2 := BD2.out.fz
 go_wp2_with fail
 refine bodyPost_ret (results_cell_row rfl _ _ r 61 #[.int .u64 0, .string ⟨#[]⟩, .int .u8 0, .int .u64 0, .string ⟨#[]⟩, .slice none 0 0, .slice none 0 0, .bool false, .int .i64 0] (0, 0) _ rfl (put9_blk BR2.out _ _ _ _ _ _ _ _ _) Try.underlying61 rfl (by kernel_rfl)) rfl ?_
 refine ⟨none, 0, none, 0, rfl, Kd.R_nil _ _ _ _ _, Kd.R_nil _ _ _ _ _, HF2.out.out2 BR2.out BD2.out (by decide) (fun k hk1 hk2 => ?_) (by omega) (by omega), put9_bg HB2.out hrd.1 _ _ _ _ _ _ _ _ _⟩
 refine (put9_heap _ _ _ _ _ _ _ _ _ _ _ hk1).trans ?_; rfl
theorem does47_7 {w : World} {base g : Nat} {l : List S25} {sp : Bool} (hf : FS w base g l sp) (hk : ∀ x ∈ l, itemsN x ≤ 4294967296) (at_ kind : Int) (must : Bool) (none_ : Int) (ks : List Int) (K : Option Addr) (ck : Nat) (hK : Kd.C (Kd.int .u8) w K ks.length ks) (hck : ks.length ≤ ck) :
  Calls Try.prog 47 #[.pointer (some ⟨g, 0, none⟩), .agg #[.int .i64 7, .int .i64 at_, .int .u8 kind, .bool must, .int .u64 none_, .slice K ks.length ck]] w (ToldPost (tellA l sp 7 at_ kind none_ ks) base g l (spoilA l sp 7 at_ kind must ks) w) := by
 have hg := hf.lt
 have hb3 := below_alloc (below_alloc (below_alloc (Below.refl w.heap.size w) (.cells #[.int .i64 7, .int .i64 at_, .int .u8 kind, .bool must, .int .u64 none_, .slice K ks.length ck] 65)) (.cells #[.int .u64 0, .string ⟨#[]⟩, .int .u8 0, .int .u64 0, .string ⟨#[]⟩, .slice none 0 0, .slice none 0 0, .bool false, .int .i64 0] 61)) (.cells #[.int .u64 0, .string ⟨#[]⟩, .int .u8 0, .int .u64 0, .string ⟨#[]⟩, .slice none 0 0, .slice none 0 0, .bool false, .int .i64 0] 61)
 have bA := ((Blk.new w #[.int .i64 7, .int .i64 at_, .int .u8 kind, .bool must, .int .u64 none_, .slice K ks.length ck] 65).alloc (.cells #[.int .u64 0, .string ⟨#[]⟩, .int .u8 0, .int .u64 0, .string ⟨#[]⟩, .slice none 0 0, .slice none 0 0, .bool false, .int .i64 0] 61)).alloc (.cells #[.int .u64 0, .string ⟨#[]⟩, .int .u8 0, .int .u64 0, .string ⟨#[]⟩, .slice none 0 0, .slice none 0 0, .bool false, .int .i64 0] 61)
 have bR := (Blk.new (w.alloc (.cells #[.int .i64 7, .int .i64 at_, .int .u8 kind, .bool must, .int .u64 none_, .slice K ks.length ck] 65)) #[.int .u64 0, .string ⟨#[]⟩, .int .u8 0, .int .u64 0, .string ⟨#[]⟩, .slice none 0 0, .slice none 0 0, .bool false, .int .i64 0] 61).alloc (.cells #[.int .u64 0, .string ⟨#[]⟩, .int .u8 0, .int .u64 0, .string ⟨#[]⟩, .slice none 0 0, .slice none 0 0, .bool false, .int .i64 0] 61)
 have bD := Blk.new ((w.alloc (.cells #[.int .i64 7, .int .i64 at_, .int .u8 kind, .bool must, .int .u64 none_, .slice K ks.length ck] 65)).alloc (.cells #[.int .u64 0, .string ⟨#[]⟩, .int .u8 0, .int .u64 0, .string ⟨#[]⟩, .slice none 0 0, .slice none 0 0, .bool false, .int .i64 0] 61)) #[.int .u64 0, .string ⟨#[]⟩, .int .u8 0, .int .u64 0, .string ⟨#[]⟩, .slice none 0 0, .slice none 0 0, .bool false, .int .i64 0] 61
 simp only [World.size_alloc] at bR bD
 have HF1 := Aside0.mk (hf.below hb3)
 have HK1 := Aside0.mk (Kd.C_below hK hb3)
 have HKI := Aside0.mk hk
 skip
 clear hf hK hk
 go_enter Try.func47, Try.ntmps47
 go_upto_region 2 with fail
 obtain ⟨w1, e1⟩ : ∃ W, ((w.alloc (.cells #[.int .i64 7, .int .i64 at_, .int .u8 kind, .bool must, .int .u64 none_, .slice K ks.length ck] 65)).alloc (.cells #[.int .u64 0, .string ⟨#[]⟩, .int .u8 0, .int .u64 0, .string ⟨#[]⟩, .slice none 0 0, .slice none 0 0, .bool false, .int .i64 0] 61)).alloc (.cells #[.int .u64 0, .string ⟨#[]⟩, .int .u8 0, .int .u64 0, .string ⟨#[]⟩, .slice none 0 0, .slice none 0 0, .bool false, .int .i64 0] 61) = W := ⟨_, rfl⟩
 obtain ⟨r, er⟩ : ∃ b, w.heap.size + 1 = b := ⟨_, rfl⟩
 obtain ⟨d, ed⟩ : ∃ b, w.heap.size + 1 + 1 = b := ⟨_, rfl⟩
 have hrd : w.heap.size ≤ r ∧ w.heap.size ≤ d ∧ r < d := by omega
 rw [e1] at hb3 bA bR bD HF1 HK1 ⊢
 rw [ed] at bD ⊢
 rw [er] at bR ⊢
 clear e1 ed er
 have hdl := bD.lt
 have hsz := hb3.size
 have HB1 := Aside0.mk hb3
 have BR1 := Aside0.mk bR
 have BD1 := Aside0.mk bD
 clear hb3 bR bD
 obtain ⟨p0, p1, p2, p3, p4, p5⟩ := bA.ask
 clear bA
 go_wp2_with fail
 refine (done43_any HF1.out at_).mono ?_
 rintro e w2 hpost
 obtain ⟨q, eq⟩ : ∃ q, doneN l sp at_ = q := ⟨_, rfl⟩
 have EQ := Aside0.mk eq
 simp only [eq] at hpost
 clear eq
 obtain ⟨rfl, rfl⟩ := hpost
 have HF2 := Aside0.mk (HF1.out)
 have HB2 := Aside0.mk ((Bg.of (g := g) HB1.out).trans (Bg.refl g w1))
 have BR2 := BR1
 have BD2 := BD1
 clear p0 p1 p2 p3 p4 p5
 obtain ⟨d0, d1, d2, d3, d4, d5, d6, d7, d8⟩ := BD2.out.nine
 obtain ⟨r0, r1, r2, r3, r4, r5, r6, r7, r8⟩ := BR2.out.nine
 have f1 := BR2.out.fz
 have f2 := BD2.out.fz
 go_wp2_with fail
 refine bodyPost_ret (results_cell_row rfl _ _ r 61 #[.int .u64 0, .string ⟨#[]⟩, .int .u8 0, .int .u64 0, .string ⟨#[]⟩, .slice none 0 0, .slice none 0 0, .bool false, .int .i64 q] (0, 0) _ rfl (put9_blk (BR2.out.far (p := ⟨d, 8, none⟩) (show r ≠ d by omega) _) _ _ _ _ _ _ _ _ _) Try.underlying61 rfl (by kernel_rfl)) rfl ?_
 rw [show tellA l sp 7 at_ kind none_ ks = ⟨0, ⟨#[]⟩, zVal, [], false, q⟩ by rw [← EQ.out]; rfl]
 refine ⟨none, 0, none, 0, rfl, Kd.R_nil _ _ _ _ _, Kd.R_nil _ _ _ _ _, HF2.out.out2 BR2.out BD2.out (by decide) (fun k hk1 hk2 => ?_) (by omega) (by omega), put9_bg (HB2.out.far (p := ⟨d, 8, none⟩) hrd.2.1 _) hrd.1 _ _ _ _ _ _ _ _ _⟩
 refine (put9_heap _ _ _ _ _ _ _ _ _ _ _ hk1).trans ?_; refine (Below.heap_setCell _ _ _ k hk2).trans ?_; rfl
theorem does47_x {w : World} {base g : Nat} {l : List S25} {sp : Bool} (hf : FS w base g l sp) (hk : ∀ x ∈ l, itemsN x ≤ 4294967296) (what : Int) (h0 : what ≠ 0) (h1 : what ≠ 1) (h2 : what ≠ 2) (h3 : what ≠ 3) (h4 : what ≠ 4) (h5 : what ≠ 5) (h6 : what ≠ 6) (h7 : what ≠ 7) (at_ kind : Int) (must : Bool) (none_ : Int) (ks : List Int) (K : Option Addr) (ck : Nat) (hK : Kd.C (Kd.int .u8) w K ks.length ks) (hck : ks.length ≤ ck) :
  Calls Try.prog 47 #[.pointer (some ⟨g, 0, none⟩), .agg #[.int .i64 what, .int .i64 at_, .int .u8 kind, .bool must, .int .u64 none_, .slice K ks.length ck]] w (ToldPost (tellA l sp what at_ kind none_ ks) base g l (spoilA l sp what at_ kind must ks) w) := by
 have k0 : (what == 0) = false := by simpa using h0
 have k1 : (what == 1) = false := by simpa using h1
 have k2 : (what == 2) = false := by simpa using h2
 have k3 : (what == 3) = false := by simpa using h3
 have k4 : (what == 4) = false := by simpa using h4
 have k5 : (what == 5) = false := by simpa using h5
 have k6 : (what == 6) = false := by simpa using h6
 have k7 : (what == 7) = false := by simpa using h7
 have HTA : Aside0 (tellA l sp what at_ kind none_ ks = zTold) := ⟨by unfold tellA; rw [if_neg h0, if_neg h1, if_neg h2, if_neg h3, if_neg h4, if_neg h5, if_neg h6, if_neg h7]⟩
 have HSA : Aside0 (spoilA l sp what at_ kind must ks = sp) := ⟨by unfold spoilA; rw [if_neg h0, if_neg h1, if_neg h2, if_neg h3, if_neg h4, if_neg h5, if_neg h6]⟩
 clear h0 h1 h2 h3 h4 h5 h6 h7
 have hg := hf.lt
 have hb3 := below_alloc (below_alloc (below_alloc (Below.refl w.heap.size w) (.cells #[.int .i64 what, .int .i64 at_, .int .u8 kind, .bool must, .int .u64 none_, .slice K ks.length ck] 65)) (.cells #[.int .u64 0, .string ⟨#[]⟩, .int .u8 0, .int .u64 0, .string ⟨#[]⟩, .slice none 0 0, .slice none 0 0, .bool false, .int .i64 0] 61)) (.cells #[.int .u64 0, .string ⟨#[]⟩, .int .u8 0, .int .u64 0, .string ⟨#[]⟩, .slice none 0 0, .slice none 0 0, .bool false, .int .i64 0] 61)
 have bA := ((Blk.new w #[.int .i64 what, .int .i64 at_, .int .u8 kind, .bool must, .int .u64 none_, .slice K ks.length ck] 65).alloc (.cells #[.int .u64 0, .string ⟨#[]⟩, .int .u8 0, .int .u64 0, .string ⟨#[]⟩, .slice none 0 0, .slice none 0 0, .bool false, .int .i64 0] 61)).alloc (.cells #[.int .u64 0, .string ⟨#[]⟩, .int .u8 0, .int .u64 0, .string ⟨#[]⟩, .slice none 0 0, .slice none 0 0, .bool false, .int .i64 0] 61)
 have bR := (Blk.new (w.alloc (.cells #[.int .i64 what, .int .i64 at_, .int .u8 kind, .bool must, .int .u64 none_, .slice K ks.length ck] 65)) #[.int .u64 0, .string ⟨#[]⟩, .int .u8 0, .int .u64 0, .string ⟨#[]⟩, .slice none 0 0, .slice none 0 0, .bool false, .int .i64 0] 61).alloc (.cells #[.int .u64 0, .string ⟨#[]⟩, .int .u8 0, .int .u64 0, .string ⟨#[]⟩, .slice none 0 0, .slice none 0 0, .bool false, .int .i64 0] 61)
 have bD := Blk.new ((w.alloc (.cells #[.int .i64 what, .int .i64 at_, .int .u8 kind, .bool must, .int .u64 none_, .slice K ks.length ck] 65)).alloc (.cells #[.int .u64 0, .string ⟨#[]⟩, .int .u8 0, .int .u64 0, .string ⟨#[]⟩, .slice none 0 0, .slice none 0 0, .bool false, .int .i64 0] 61)) #[.int .u64 0, .string ⟨#[]⟩, .int .u8 0, .int .u64 0, .string ⟨#[]⟩, .slice none 0 0, .slice none 0 0, .bool false, .int .i64 0] 61
 simp only [World.size_alloc] at bR bD
 have HF1 := Aside0.mk (hf.below hb3)
 have HK1 := Aside0.mk (Kd.C_below hK hb3)
 have HKI := Aside0.mk hk
 skip
 clear hf hK hk
 go_enter Try.func47, Try.ntmps47
 go_upto_region 2 with fail
 obtain ⟨w1, e1⟩ : ∃ W, ((w.alloc (.cells #[.int .i64 what, .int .i64 at_, .int .u8 kind, .bool must, .int .u64 none_, .slice K ks.length ck] 65)).alloc (.cells #[.int .u64 0, .string ⟨#[]⟩, .int .u8 0, .int .u64 0, .string ⟨#[]⟩, .slice none 0 0, .slice none 0 0, .bool false, .int .i64 0] 61)).alloc (.cells #[.int .u64 0, .string ⟨#[]⟩, .int .u8 0, .int .u64 0, .string ⟨#[]⟩, .slice none 0 0, .slice none 0 0, .bool false, .int .i64 0] 61) = W := ⟨_, rfl⟩
 obtain ⟨r, er⟩ : ∃ b, w.heap.size + 1 = b := ⟨_, rfl⟩
 obtain ⟨d, ed⟩ : ∃ b, w.heap.size + 1 + 1 = b := ⟨_, rfl⟩
 have hrd : w.heap.size ≤ r ∧ w.heap.size ≤ d ∧ r < d := by omega
 rw [e1] at hb3 bA bR bD HF1 HK1 ⊢
 rw [ed] at bD ⊢
 rw [er] at bR ⊢
 clear e1 ed er
 have hdl := bD.lt
 have hsz := hb3.size
 have HB1 := Aside0.mk hb3
 have BR1 := Aside0.mk bR
 have BD1 := Aside0.mk bD
 clear hb3 bR bD
 obtain ⟨p0, p1, p2, p3, p4, p5⟩ := bA.ask
 clear bA
 have HF2 := HF1
 have HB2 := Aside0.mk (Bg.of (g := g) HB1.out)
 have BR2 := BR1
 have BD2 := BD1
 obtain ⟨d0, d1, d2, d3, d4, d5, d6, d7, d8⟩ := BD2.out.nine
 obtain ⟨r0, r1, r2, r3, r4, r5, r6, r7, r8⟩ := BR2.out.nine
 have f1 := BR2.out.fz
 have f2 := BD2.out.fz
 go_wp2_with fail
 refine bodyPost_ret (results_cell_row rfl _ _ r 61 #[.int .u64 0, .string ⟨#[]⟩, .int .u8 0, .int .u64 0, .string ⟨#[]⟩, .slice none 0 0, .slice none 0 0, .bool false, .int .i64 0] (0, 0) _ rfl (put9_blk BR2.out _ _ _ _ _ _ _ _ _) Try.underlying61 rfl (by kernel_rfl)) rfl ?_
 rw [HTA.out, HSA.out]
 refine ⟨none, 0, none, 0, rfl, Kd.R_nil _ _ _ _ _, Kd.R_nil _ _ _ _ _, HF2.out.out2 BR2.out BD2.out (by decide) (fun k hk1 hk2 => ?_) (by omega) (by omega), put9_bg HB2.out hrd.1 _ _ _ _ _ _ _ _ _⟩
 refine (put9_heap _ _ _ _ _ _ _ _ _ _ _ hk1).trans ?_; rfl
theorem does47_all {w : World} {base g : Nat} {l : List S25} {sp : Bool} (hf : FS w base g l sp) (hk : ∀ x ∈ l, itemsN x ≤ 4294967296) (what at_ kind : Int) (must : Bool) (none_ : Int) (ks : List Int) (K : Option Addr) (ck : Nat) (hK : Kd.C (Kd.int .u8) w K ks.length ks) (hck : ks.length ≤ ck) :
  Calls Try.prog 47 #[.pointer (some ⟨g, 0, none⟩), .agg #[.int .i64 what, .int .i64 at_, .int .u8 kind, .bool must, .int .u64 none_, .slice K ks.length ck]] w (ToldPost (tellA l sp what at_ kind none_ ks) base g l (spoilA l sp what at_ kind must ks) w) := by
 by_cases h0 : what = 0
 ·subst h0; exact does47_0 hf hk at_ kind must none_ ks K ck hK hck
 by_cases h1 : what = 1
 ·subst h1; exact does47_1 hf hk at_ kind must none_ ks K ck hK hck
 by_cases h2 : what = 2
 ·subst h2; exact does47_2 hf hk at_ kind must none_ ks K ck hK hck
 by_cases h3 : what = 3
 ·subst h3; exact does47_3 hf hk at_ kind must none_ ks K ck hK hck
 by_cases h4 : what = 4
 ·subst h4; exact does47_4 hf hk at_ kind must none_ ks K ck hK hck
 by_cases h5 : what = 5
 ·subst h5; exact does47_5 hf hk at_ kind must none_ ks K ck hK hck
 by_cases h6 : what = 6
 ·subst h6; exact does47_6 hf hk at_ kind must none_ ks K ck hK hck
 by_cases h7 : what = 7
 ·subst h7; exact does47_7 hf hk at_ kind must none_ ks K ck hK hck
 exact does47_x hf hk what h0 h1 h2 h3 h4 h5 h6 h7 at_ kind must none_ ks K ck hK hck
end Go.Proofs.Ytdilbnggedidnaa.PVal
